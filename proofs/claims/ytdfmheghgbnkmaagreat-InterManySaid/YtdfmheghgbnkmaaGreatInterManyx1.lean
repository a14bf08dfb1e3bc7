/- What the law leans on: an executor of the model that is sound, deduction over it, and the walks through the code (part 1 of 43). Conditions: those that each theorem states. -/
import GoSem.Step
import Derived.AtR
import Derived.Below
import Derived.Laws.Cells
import Derived.Laws.Entries
import Derived.ChangeKeysEq
import Derived.IntWalk
import Derived.Laws.Slices
import Derived.Laws.Strings
import Derived.Laws.StructEq
import Derived.Laws.Tables
import Derived.WideKeyRuns
import Derived.Laws.CopyRow

set_option linter.unusedVariables false
set_option linter.unusedSimpArgs false
namespace Go.Ex
inductive Tr (α : Type) where
 | lF
 | nD (l:Tr α) (v: α) (r:Tr α)
namespace Tr
variable {α β : Type}
inductive Pa where
 | here
 | l (p:Pa)
 | r (p:Pa)
noncomputable def pa:Nat→Nat→Pa
 | 0,_=>.here
 | f+1,i=>Nat.rec .here (fun j _=>Bool.rec (.r (pa f (Nat.div j 2))) (.l (pa f (Nat.div j 2))) (Nat.beq (Nat.land j 1) 0)) i
noncomputable def getP(d: α)(p:Pa)(t:Tr α): α :=
 Pa.rec (motive:=fun _=>Tr α→α) (fun t=>Tr.rec d (fun _ v _ _ _=>v) t) (fun _ ih t=>Tr.rec d (fun l _ _ _ _=>ih l) t) (fun _ ih t=>Tr.rec d (fun _ _ r _ _=>ih r) t) p t
noncomputable def get(d: α)(t:Tr α)(i:Nat): α :=getP d (pa (Nat.succ i) i) t
noncomputable def setQ(d v: α):Pa→Tr α→Tr α
 | .here,.lF=>.nD .lF v .lF
 | .here,.nD l _ r=>.nD l v r
 | .l p,.lF=>.nD (setQ d v p .lF) d .lF
 | .l p,.nD l w r=>.nD (setQ d v p l) w r
 | .r p,.lF=>.nD .lF d (setQ d v p .lF)
 | .r p,.nD l w r=>.nD l w (setQ d v p r)
noncomputable def set(d v: α)(t:Tr α)(i:Nat):Tr α :=setQ d v (pa (Nat.succ i) i) t
noncomputable def setP(d v: α)(p:Pa)(t:Tr α)(k:Tr α→β): β :=
 Pa.rec (motive:=fun _=>Tr α→(Tr α→β)→β)
  (fun t k=>Tr.rec (k (.nD .lF v .lF)) (fun l _ r _ _=>k (.nD l v r)) t)
  (fun _ ih t k=>Tr.rec (ih .lF fun l=>k (.nD l d .lF)) (fun l w r _ _=>ih l fun l=>k (.nD l w r)) t)
  (fun _ ih t k=>Tr.rec (ih .lF fun r=>k (.nD .lF d r)) (fun l w r _ _=>ih r fun r=>k (.nD l w r)) t) p t k
noncomputable def setK(d v: α)(t:Tr α)(i:Nat)(k:Tr α→β): β :=setP d v (pa (Nat.succ i) i) t k
noncomputable def ofListFrom(d: α)(t:Tr α):Nat→List α→Tr α
 | _,[]=>t
 | i,v::l=>ofListFrom d (t.set d v i) (i+1) l
noncomputable def toListFrom(d: α)(t:Tr α):Nat→Nat→List α
 | _,0=>[]
 | i,n+1=>t.get d i::toListFrom d t (i+1) n
theorem setP_eq(d v: α)(p:Pa):∀(t:Tr α) (k:Tr α→β),setP d v p t k=k (setQ d v p t):=by
 induction p with
 | here=>intro t k;cases t <;> rfl
 | l p ih=>
  intro t k
  cases t with
  | lF=>exact ih .lF fun l=>k (.nD l d .lF)
  | nD l w r=>exact ih l fun l=>k (.nD l w r)
 | r p ih=>
  intro t k
  cases t with
  | lF=>exact ih .lF fun r=>k (.nD .lF d r)
  | nD l w r=>exact ih r fun r=>k (.nD l w r)
theorem setK_eq(d v: α)(t:Tr α)(i:Nat)(k:Tr α→β):setK d v t i k=k (set d v t i):=setP_eq d v _ t k
theorem getP_leaf(d: α)(p:Pa):getP d p .lF=d:=by cases p <;> rfl
theorem getP_setQ(d v: α)(p:Pa):∀(t:Tr α),getP d p (setQ d v p t)=v:=by
 induction p with
 | here=>intro t;cases t <;> rfl
 | l p ih=>
  intro t
  cases t with
  | lF=>exact ih .lF
  | nD l w r=>exact ih l
 | r p ih=>
  intro t
  cases t with
  | lF=>exact ih .lF
  | nD l w r=>exact ih r
theorem getP_setQ_ne(d v: α)(p:Pa):∀(q:Pa) (t:Tr α),p≠q→getP d q (setQ d v p t)=getP d q t:=by
 induction p with
 | here =>
  intro q t h
  cases q with
  | here=>exact absurd rfl h
  | l q=>cases t with
   | lF=>exact getP_leaf d q
   | nD l w r=>rfl
  | r q=>cases t with
   | lF=>exact getP_leaf d q
   | nD l w r=>rfl
 | l p ih =>
  intro q t h
  cases q with
  | here=>cases t <;> rfl
  | l q=>
   have h':p≠q:=fun e=>h (by rw[e])
   cases t with
   | lF=>exact(ih q .lF h').trans (getP_leaf d q)
   | nD l w r=>exact ih q l h'
  | r q=>cases t with
   | lF=>exact getP_leaf d q
   | nD l w r=>rfl
 | r p ih =>
  intro q t h
  cases q with
  | here=>cases t <;> rfl
  | l q=>cases t with
   | lF=>exact getP_leaf d q
   | nD l w r=>rfl
  | r q=>
   have h':p≠q:=fun e=>h (by rw[e])
   cases t with
   | lF=>exact(ih q .lF h').trans (getP_leaf d q)
   | nD l w r=>exact ih q r h'
theorem beq_land(j:Nat):Nat.beq (Nat.land j 1) 0=decide (j % 2=0):=by
 have h:Nat.land j 1=j % 2:=Nat.and_one_is_mod j;rw [h];rcases Nat.mod_two_eq_zero_or_one j with h|h <;> rw[h] <;> rfl
theorem pa_succ(f j:Nat):pa (f+1) (j+1)=if j % 2=0 then .l (pa f (j / 2)) else .r (pa f (j / 2)):=by
 show Bool.rec (motive:=fun _=>Pa) (.r (pa f (Nat.div j 2))) (.l (pa f (Nat.div j 2))) (Nat.beq (Nat.land j 1) 0)=_;rw [beq_land];by_cases h:j % 2=0
 · simp only[h,decide_true,if_true];rfl
 · simp only[h,decide_false,if_false];rfl
theorem pa_fuel(f:Nat):∀(g i:Nat),i<f→i<g→pa f i=pa g i:=by
 induction f with
 | zero=>intro g i h;omega
 | succ f ih =>
  intro g i hf hg
  cases g with
  | zero=>omega
  | succ g=>
   cases i with
   | zero=>rfl
   | succ j=>rw [pa_succ,pa_succ,ih g (j / 2) (by omega) (by omega)]
theorem pa_inj(f:Nat):∀(i j:Nat),i<f→j<f→pa f i=pa f j→i=j:=by
 induction f with
 | zero=>intro i j h;omega
 | succ f ih =>
  intro i j hi hj h
  cases i with
  | zero =>
   cases j with
   | zero=>rfl
   | succ j=>
    rw[pa_succ]at h;have h0:pa (f+1) 0 = .here:=rfl;rw [h0]at h;split at h <;> cases h
  | succ i =>
   cases j with
   | zero=>
    rw[pa_succ]at h;have h0:pa (f+1) 0 = .here:=rfl;rw [h0]at h;split at h <;> cases h
   | succ j=>
    rw[pa_succ,pa_succ]at h;split at h <;> split at h <;> first|cases h|skip
    · have e:=ih (i / 2) (j / 2) (by omega) (by omega) (by injection h);omega
    · have e:=ih (i / 2) (j / 2) (by omega) (by omega) (by injection h);omega
theorem pa_ne{i j:Nat}(h:i≠j):pa (Nat.succ i) i≠pa (Nat.succ j) j:=by
 intro e;rw [pa_fuel (i+1) (i+j+1) i (by omega) (by omega),pa_fuel (j+1) (i+j+1) j (by omega) (by omega)]at e;exact h (pa_inj (i+j+1) i j (by omega) (by omega) e)
theorem get_set(d v: α)(t:Tr α)(i:Nat):get d (set d v t i) i=v:=getP_setQ d v _ t
theorem get_set_ne(d v: α)(t:Tr α){i j:Nat}(h:i≠j):get d (set d v t i) j=get d t j:=getP_setQ_ne d v _ _ t (pa_ne h)
theorem get_set_if(d v: α)(t:Tr α)(i j:Nat):get d (set d v t i) j=if i=j then v else get d t j:=by
 by_cases h:i=j
 · subst h;simp [get_set]
 · simp[h,get_set_ne d v t h]
theorem get_leaf(d: α)(i:Nat):get d .lF i=d:=getP_leaf d _
theorem get_ofListFrom(d: α)(l:List α):∀(t:Tr α) (i j:Nat),get d (ofListFrom d t i l) j=if i≤j∧j<i+l.length then l.getD (j - i) d else get d t j:=by
 induction l with
 | nil=>intro t i j;simp [ofListFrom];omega
 | cons v l ih=>
  intro t i j;simp only[ofListFrom,ih,get_set_if,List.length_cons];by_cases h1:i=j
  · subst h1;have h2:¬(i+1≤i∧i<i+1+l.length):=by omega
    have h3:i≤i∧i<i+(l.length+1):=by omega
    rw[if_neg h2,if_pos h3];simp
  · by_cases h2:i+1≤j∧j<i+1+l.length
    · have h3:i≤j∧j<i+(l.length+1):=by omega
      simp only[h2,h3,and_self,if_true];have:j - i=(j - (i+1))+1:=by omega
      rw[this];rfl
    · have h3:¬(i≤j∧j<i+(l.length+1)):=by omega
      simp[h2,h3,h1]
theorem length_toListFrom(d: α)(t:Tr α):∀(n i:Nat),(toListFrom d t i n).length=n:=by
 intro n
 induction n with
 | zero=>intro i;rfl
 | succ n ih=>intro i;simp [toListFrom,ih]
theorem getElem?_toListFrom(d: α)(t:Tr α):∀(n i j:Nat),(toListFrom d t i n)[j]? = if j<n then some (get d t (i+j)) else none:=by
 intro n
 induction n with
 | zero=>intro i j;simp [toListFrom]
 | succ n ih =>
  intro i j
  cases j with
  | zero=>simp [toListFrom]
  | succ j=>
   simp only[toListFrom,List.getElem?_cons_succ,ih];have e:i+1+j=i+(j+1):=by omega
   by_cases h:j<n <;> simp[h,e]
end Tr
abbrev Fr:=Tr Value
def fr0:Fr:=.lF
noncomputable def fget(t:Fr)(i:Nat):Value:=Tr.get undef t i
noncomputable def fsetK{R:Type}(t:Fr)(i:Nat)(v:Value)(k:Fr→R):R:=Tr.setK undef v t i k
def inf:Nat:=1000000000000000000
inductive AObj where
 | dead
 | cells (c:Tr Value) (n:Nat) (z:Nat) (kd:Nat)
 | map (es:List MapEntry) (clock:Nat)
 | loop (l:Loop) (t:Fr)
 | deferred (ready:Bool)
 | siter (m:Option Nat) (since:Nat) (seen:List Nat) (last:Nat)
abbrev zI:=Tr AObj
abbrev yV:=List PanicEntry
structure W where
 d:List Deferred
 u:Option yV
 h:zI
 n:Nat
structure Cx where
 fn:FuncId
 round:Option Nat
 df:Bool
inductive AX where
 | normal
 | exit (id:Nat)
 | goto (l:Nat)
 | ret
 | panic (c:yV)
inductive Out where
 | ret (v:Value)
 | panic (c:yV)
noncomputable def zH(h:zI)(b:Nat):AObj:=h.get .dead b
noncomputable def tget(t:Tr Value)(i:Nat):Value:=t.get undef i
noncomputable def ev(t:Fr)(x:Operand):Value:=
 Operand.rec (motive:=fun _=>Fr→Value) (fun i t=>fget t i) (fun v _=>v) (fun g _=>.pointer (some ⟨g,0,none⟩))
  (fun f _=>.func (.func f) #[] #[]) x t
noncomputable def tabFrom{α : Type}(t:Tr (Option α)):Nat→List α→Tr (Option α)
 | _,[]=>t
 | i,v::l=>tabFrom (t.set none (some v) i) (i+1) l
noncomputable def tyT(P:Program):Tr (Option TypeInfo):=tabFrom .lF 0 P.types.toList
noncomputable def fnT(P:Program):Tr (Option Func):=tabFrom .lF 0 P.funcs.toList
noncomputable def inf?(P:Program)(t:TypeId):Option TypeInfo:=Tr.get none (tyT P) t
noncomputable def und(P:Program)(t:TypeId):Option TypeDesc:=
 match inf? P t with
 | some i => match i.desc with
  | .named _ u=>match inf? P u with
   | some j=>some j.desc
   | none=>none
  | d=>some d
 | none=>none
noncomputable def ileB(x y:Int):Bool:=
 Int.rec (motive:=fun _=>Int→Bool)
  (fun a y=>Int.rec (motive:=fun _=>Nat→Bool) (fun b a=>Nat.ble a b) (fun _ _=>false) y a)
  (fun a y=>Int.rec (motive:=fun _=>Nat→Bool) (fun _ _=>true) (fun b a=>Nat.ble b a) y a) x y
noncomputable def ieqB(x y:Int):Bool:=
 Int.rec (motive:=fun _=>Int→Bool)
  (fun a y=>Int.rec (motive:=fun _=>Nat→Bool) (fun b a=>Nat.beq a b) (fun _ _=>false) y a)
  (fun a y=>Int.rec (motive:=fun _=>Nat→Bool) (fun _ _=>false) (fun b a=>Nat.beq b a) y a) x y
noncomputable def iltB(a b:Int):Bool:=Bool.rec true false (ileB b a)
noncomputable def subNN(m n:Nat):Int:=Bool.rec (.negSucc (Nat.pred (Nat.sub n m))) (.ofNat (Nat.sub m n)) (Nat.ble n m)
noncomputable def iadd(x y:Int):Int:=
 Int.rec (motive:=fun _=>Int→Int)
  (fun a y=>Int.rec (motive:=fun _=>Nat→Int) (fun b a=>.ofNat (Nat.add a b)) (fun b a=>subNN a (Nat.succ b)) y a)
  (fun a y=>Int.rec (motive:=fun _=>Nat→Int) (fun b a=>subNN b (Nat.succ a)) (fun b a=>.negSucc (Nat.succ (Nat.add a b))) y a) x y
noncomputable def isub(x y:Int):Int:=
 Int.rec (motive:=fun _=>Int→Int)
  (fun b x=>Int.rec (motive:=fun _=>Nat→Int) (fun a b=>subNN a b) (fun a b=>.negSucc (Nat.add a b)) x b)
  (fun b x=>Int.rec (motive:=fun _=>Nat→Int) (fun a b=>.ofNat (Nat.add a (Nat.succ b))) (fun a b=>subNN b a) x b) y x
noncomputable def wrapB(k:IntKind)(n:Int):Int:=
 match k with
 | .i64=>Int.rec (motive:=fun _=>Int) (fun m=>Bool.rec (IntKind.wrap .i64 (.ofNat m)) (.ofNat m) (Nat.blt m 9223372036854775808))
  (fun m=>Bool.rec (IntKind.wrap .i64 (.negSucc m)) (.negSucc m) (Nat.blt m 9223372036854775808)) n
 | .u64=>match n with
  | .ofNat m=>cond (Nat.blt m 18446744073709551616) n (k.wrap n)
  | .negSucc _=>k.wrap n
 | .u8=>match n with
  | .ofNat m=>cond (Nat.blt m 256) n (k.wrap n)
  | .negSucc _=>k.wrap n
 | _=>k.wrap n
def bytesEq:List UInt8→List UInt8→Bool
 | [],[]=>true
 | a::x,b::y=>cond (Nat.beq a.toNat b.toNat) (bytesEq x y) false
 | _,_=>false
def vH:IntKind→IntKind→Bool
 | .i8,.i8 | .i16,.i16 | .i32,.i32 | .i64,.i64 | .u8,.u8 | .u16,.u16 | .u32,.u32 | .u64,.u64=>true
 | _,_=>false
noncomputable def yN:Value→Value→Option Bool
 | .bool a,.bool b=>some (cond a b (!b))
 | .int k a,.int k' b=>cond (vH k k') (some (ieqB a b)) none
 | .string a,.string b=>some (bytesEq a.data.toList b.data.toList)
 | _,_=>none
noncomputable def scalsEq:List Value→List Value→Option Bool
 | [],[]=>some true
 | a::x,b::y=>match yN a b with
  | some true=>scalsEq x y
  | some false=>some false
  | none=>none
 | _,_=>none
def bitNat(op:BinOp)(x y:Nat):Option Nat:=
 match op with
 | .and=>some (Nat.land x y)
 | .or=>some (Nat.lor x y)
 | .xor=>some (Nat.xor x y)
 | .andNot=>some (Nat.xor x (Nat.land x y))
 | _=>none
def bitLim:IntKind→Option Nat
 | .i64=>some 9223372036854775808
 | .u64=>some 18446744073709551616
 | .u32=>some 4294967296
 | .u16=>some 65536
 | .u8=>some 256
 | _=>none
noncomputable def aBits(op:BinOp)(k:IntKind)(a b:Int):Option Value:=
 match a,b,bitLim k with
 | .ofNat x,.ofNat y,some m=>cond (Nat.blt x m && Nat.blt y m) ((bitNat op x y).map fun r=>.int k (.ofNat r)) none
 | _,_,_=>none
noncomputable def aArith(op:BinOp)(k:IntKind)(a b:Int):Option Value:=
 match op with
 | .add=>some (.int k (wrapB k (iadd a b)))
 | .sub=>some (.int k (wrapB k (isub a b)))
 | .mul=>some (.int k (wrapB k (Int.mul a b)))
 | .quo=>cond (ieqB b 0) none (some (.int k (wrapB k (Int.tdiv a b))))
 | .rem=>cond (ieqB b 0) none (some (.int k (Int.tmod a b)))
 | .eql=>some (.bool (ieqB a b))
 | .neq=>some (.bool (!ieqB a b))
 | .lss=>some (.bool (iltB a b))
 | .leq=>some (.bool (ileB a b))
 | .gtr=>some (.bool (iltB b a))
 | .geq=>some (.bool (ileB b a))
 | _=>aBits op k a b
noncomputable def aShift(op:BinOp)(k:IntKind)(a:Int)(b:Int):Option Value:=
 match b with
 | .ofNat m => cond (Nat.blt m k.bits) (match op with
  | .shl=>some (.int k (wrapB k (Int.mul a (.ofNat (Nat.pow 2 m)))))
  | .shr=>match a with
   | .ofNat x=>some (.int k (.ofNat (Nat.shiftRight x m)))
   | _=>none
  | _=>none) none
 | _=>none
def isConst:Operand→Bool
 | .const _=>true
 | _=>false
def wH:TypeDesc→Value→Bool
 | .int k,.int k' _=>vH k k'
 | .string,.string _=>true
 | .bool,.bool _=>true
 | _,_=>false
def scalD:TypeDesc→Bool
 | .int _ | .string | .bool=>true
 | _=>false
noncomputable def eqItemsA(kd:TypeDesc)(n:Nat)(xs ys:List Value):List Nat→Option Bool
 | []=>some true
 | i :: is => match xs[Nat.mul i n]?, ys[Nat.mul i n]? with
  | some x,some y=>cond (wH kd x) (match yN x y with
   | some true=>eqItemsA kd n xs ys is
   | some false=>some false
   | none=>none) none
  | _,_=>none
noncomputable def eqFldsA(P:Program)(xs ys:List Value):List Field→Option Bool
 | []=>some true
 | f :: fs => match und P f.type, xs[f.offset]?, ys[f.offset]? with
  | some kd,some x,some y=>cond (wH kd x) (match yN x y with
   | some true=>eqFldsA P xs ys fs
   | some false=>some false
   | none=>none) none
  | _,_,_=>none
noncomputable def fldA(P:Program)(f:Field):Bool:=f.name != "_" && match und P f.type with
 | some kd=>scalD kd
 | none=>false
noncomputable def eqA(P:Program)(t:TypeId)(xs ys:List Value):Option Bool:=
 match und P t with
 | some (.struct fs)=>cond (fs.toList.all (fldA P) && !P.stoodInHeld t) (eqFldsA P xs ys fs.toList) none
 | some (.array len e)=>match und P e,inf? P e with
  | some kd,some ei=>cond (scalD kd) (eqItemsA kd ei.size xs ys (List.range len)) none
  | _,_=>none
 | _=>none
def eqNil(d:TypeDesc)(x y:Value):Option Bool:=
 match d,x,y with
 | .bool,.bool a,.bool b=>some (cond a b (!b))
 | .interface _,.nilIface,.nilIface=>some true
 | .interface _,.nilIface,.iface _ _=>some false
 | .interface _,.iface _ _,.nilIface=>some false
 | .pointer _,.pointer none,.pointer none=>some true
 | .pointer _,.pointer none,.pointer (some _)=>some false
 | .pointer _,.pointer (some _),.pointer none=>some false
 | .slice _,.slice none _ _,.slice none _ _=>some true
 | .slice _,.slice none _ _,.slice (some _) _ _=>some false
 | .slice _,.slice (some _) _ _,.slice none _ _=>some false
 | .map _ _,.map none,.map none=>some true
 | .map _ _,.map none,.map (some _)=>some false
 | .map _ _,.map (some _),.map none=>some false
 | .func _ _ _,.nilFunc,.nilFunc=>some true
 | .func _ _ _,.nilFunc,.func _ _ _=>some false
 | .func _ _ _,.func _ _ _,.nilFunc=>some false
 | _,_,_=>none
def uC(ox oy:Operand)(x y:Value):Bool:=
 match x,y with
 | .nilIface,.nilIface=>isConst ox || isConst oy
 | .agg _,.agg _=>false
 | _,_=>true
noncomputable def aBin(P:Program)(op:BinOp)(t:TypeId)(ox oy:Operand)(x y:Value):Option Value:=
 match x,y with
 | .int k a,.int k' b=>match op with
  | .shl=>aShift .shl k a b
  | .shr=>aShift .shr k a b
  | op=>cond (vH k k') (aArith op k a b) none
 | .string a,.string b=>match op with
  | .eql=>some (.bool (bytesEq a.data.toList b.data.toList))
  | .neq=>some (.bool (!bytesEq a.data.toList b.data.toList))
  | .add=>cond (Nat.blt (Nat.add a.data.toList.length b.data.toList.length) 1000000) (some (.string ⟨⟨a.data.toList++b.data.toList⟩⟩)) none
  | _=>none
 | .agg a,.agg b=>match op with
  | .eql=>(eqA P t a.toList b.toList).map .bool
  | .neq=>(eqA P t a.toList b.toList).map fun r=>.bool (!r)
  | _=>none
 | x,y=>match op,und P t with
  | .eql,some d=>cond (uC ox oy x y) ((eqNil d x y).map .bool) none
  | .neq,some d=>cond (uC ox oy x y) ((eqNil d x y).map fun b=>.bool (!b)) none
  | _,_=>none
noncomputable def aUn(op:UnOp)(x:Value):Option Value:=
 match op,x with
 | .neg,.int k n=>some (.int k (wrapB k (isub 0 n)))
 | .not,.bool b=>some (.bool (!b))
 | _,_=>none
noncomputable def aConvert(P:Program)(dst:TypeId)(x:Value):Option Value:=
 match und P dst,x with
 | some (.int k),.int _ n=>some (.int k (wrapB k n))
 | some .string,.string _=>some x
 | _,_=>none
def xV:Nat→Nat→List Value→List Value
 | _,0,_=>[]
 | 0,n+1,l=>match l with
  | []=>[]
  | v::r=>v::xV 0 n r
 | i+1,n,l=>match l with
  | []=>[]
  | _::r=>xV i n r
def aggT:TypeDesc→Bool
 | .struct _ | .array _ _=>true
 | _=>false
noncomputable def aPart(P:Program)(t:TypeId)(cs:List Value)(off:Nat):Option Value:=
 match und P t,inf? P t with
 | some d,some i=>cond (aggT d) (cond (Nat.ble (Nat.add off i.size) cs.length) (some (.agg ⟨xV off i.size cs⟩)) none) (cs[off]?)
 | _,_=>none
def far(a:Addr)(n:Nat):Addr:=⟨a.block,Nat.add a.off n,none⟩
noncomputable def aLoad(P:Program)(h:zI)(t:TypeId)(x:Value):Option Value:=
 match x with
 | .pointer (some ⟨b, off, none⟩) =>
  match zH h b with
  | .cells c n _ _ => match und P t with
   | some d => cond (aggT d)
    (match inf? P t with
     | some i=>cond (Nat.ble (Nat.add off i.size) n) (some (.agg ⟨c.toListFrom undef off i.size⟩)) none
     | none=>none)
    (cond (Nat.blt off n) (some (tget c off)) none)
   | none=>none
  | _=>none
 | _=>none
noncomputable def aFieldAddr(P:Program)(s:TypeId)(x:Value)(f:Nat):Option Value:=
 match und P s,x with
 | some (.struct fs), .pointer (some ⟨b, off, none⟩) => match fs[f]? with
  | some fd=>match inf? P fd.type with
   | some i=>cond (Nat.beq i.size 0) none (some (.pointer (some ⟨b,Nat.add off fd.offset,none⟩)))
   | none=>none
  | none=>none
 | _,_=>none
noncomputable def aIndexAddr(P:Program)(t:TypeId)(x ix:Value):Option Value:=
 match ix with
 | .int _ (.ofNat i) => match und P t, x with
  | some (.slice e),.slice (some ⟨b,off,none⟩) len _=>match inf? P e with
   | some ei=>cond (Nat.blt i len) (some (.pointer (some ⟨b,Nat.add off (Nat.mul i ei.size),none⟩))) none
   | none=>none
  | some (.array len e),.pointer (some ⟨b,off,none⟩)=>match inf? P e with
   | some ei=>cond (Nat.blt i len) (some (.pointer (some ⟨b,Nat.add off (Nat.mul i ei.size),none⟩))) none
   | none=>none
  | _,_=>none
 | _=>none
noncomputable def dropK(n:Nat)(s:List UInt8):List UInt8:=Nat.rec (motive:=fun _=>List UInt8→List UInt8) (fun s=>s) (fun _ ih s=>List.rec [] (fun _ r _=>ih r) s) n s
noncomputable def dropBlk(s:List UInt8)(k:Nat):List UInt8:=Nat.rec s (fun _ r=>dropK 64 r) k
noncomputable def dropB(s:List UInt8)(i:Nat):List UInt8:=dropK (Nat.mod i 64) (dropBlk s (Nat.div i 64))
noncomputable def takeK(n:Nat)(s:List UInt8):List UInt8:=Nat.rec (motive:=fun _=>List UInt8→List UInt8) (fun _=>[]) (fun _ ih s=>List.rec [] (fun a r _=>a::ih r) s) n s
noncomputable def cutS(s:List UInt8)(i n:Nat):List UInt8:=takeK n (dropB s i)
noncomputable def nthB(s:List UInt8)(i:Nat):Option UInt8:=List.rec none (fun a _ _=>some a) (dropB s i)
theorem dropK_eq:∀(n:Nat) (s:List UInt8),dropK n s=s.drop n:=by
 intro n
 induction n with
 | zero=>intro s;rfl
 | succ n ih=>
  intro s
  cases s with
  | nil=>rfl
  | cons a r=>exact ih r
theorem dropBlk_eq(s:List UInt8):∀k,dropBlk s k=s.drop (64*k):=by
 intro k
 induction k with
 | zero=>rfl
 | succ k ih=>
  show dropK 64 (dropBlk s k)=_;rw [dropK_eq,ih,List.drop_drop];congr 1
theorem dropB_eq(s:List UInt8)(i:Nat):dropB s i=s.drop i:=by
 unfold dropB;rw [dropK_eq,dropBlk_eq,List.drop_drop];congr 1
 exact Nat.div_add_mod i 64
theorem takeK_eq:∀(n:Nat) (s:List UInt8),takeK n s=s.take n:=by
 intro n
 induction n with
 | zero=>intro s;rw [List.take_zero];rfl
 | succ n ih=>
  intro s
  cases s with
  | nil=>rfl
  | cons a r=>show a::takeK n r=_;rw [ih,List.take_succ_cons]
theorem cutS_eq(s:List UInt8)(i n:Nat):cutS s i n=(s.drop i).take n:=by unfold cutS;rw [takeK_eq,dropB_eq]
theorem nthB_eq(s:List UInt8)(i:Nat):nthB s i=s[i]? :=by
 unfold nthB;rw [dropB_eq];have:s[i]? = (s.drop i)[0]? :=by simp
 rw[this];cases s.drop i <;> rfl
noncomputable def aIndex(P:Program)(t:TypeId)(x ix:Value):Option Value:=
 match ix with
 | .int _ (.ofNat i) => match und P t, x with
  | some (.array len e),.agg cs=>match inf? P e with
   | some ei=>cond (Nat.blt i len) (aPart P e cs.toList (Nat.mul i ei.size)) none
   | none=>none
  | some .string,.string s=>match nthB s.data.toList i with
   | some b=>some (.int .u8 (.ofNat b.toNat))
   | none=>none
  | _,_=>none
 | _=>none
def natOf:Value→Option Nat
 | .int _ (.ofNat n)=>some n
 | _=>none
def zS(d:Nat)(most:Nat):Option Value→Option Nat
 | none=>some d
 | some v=>match natOf v with
  | some n=>cond (Nat.ble n most) (some n) none
  | none=>none
def aSliceEx(a:Addr)(len cap size:Nat)(lo hi mx:Option Value):Option Value:=
 match zS cap cap mx with
 | none=>none
 | some m => match zS len m hi with
  | none=>none
  | some h=>match zS 0 h lo with
   | none=>none
   | some l=>cond (Nat.blt m inf && Nat.ble h m) (some (.slice (some (cond (Nat.beq m l) a (far a (Nat.mul l size)))) (Nat.sub h l) (Nat.sub m l))) none
def aSliceOp(a:Addr)(len size:Nat)(lo hi mx:Option Value):Option Value:=
 match mx with
 | none => match zS len len hi with
  | none=>none
  | some h=>match zS 0 h lo with
   | none=>none
   | some l=>some (.slice (some (far a (Nat.mul l size))) (Nat.sub h l) inf)
 | some _ => match zS len len mx with
  | none=>none
  | some m => match zS m m hi with
   | none=>none
   | some h=>match zS 0 h lo with
    | none=>none
    | some l=>cond (Nat.blt m inf) (some (.slice (some (cond (Nat.beq m l) a (far a (Nat.mul l size)))) (Nat.sub h l) (Nat.sub m l))) none
def fullOK(hi mx:Option Value):Bool:=
 match mx,hi with
 | some _,none=>false
 | _,_=>true
noncomputable def zc(e s:Nat):Nat:=Nat.add (Nat.mul (Nat.add e s) (Nat.add e s)) e
theorem zc_inj{e s e' s':Nat}(h:zc e s=zc e' s'):e=e'∧s=s':=by
 have h':(e+s)*(e+s)+e=(e'+s')*(e'+s')+e':=h
 have key:∀{a b x y:Nat},a≤x→b≤y→x<y→x*x+a=y*y+b→False:=by
  intro a b x y ha hb hlt he;have h1:(x+1)*(x+1)≤y*y:=Nat.mul_le_mul hlt hlt;have h2:(x+1)*(x+1)=x*x+2*x+1:=by rw[Nat.add_mul,Nat.mul_add];omega
  omega
 have hs:e+s=e'+s':=by
  rcases Nat.lt_trichotomy (e+s) (e'+s') with h1|h1|h1
  · exact(key (by omega) (by omega) h1 h').elim
  · exact h1
  · exact(key (by omega) (by omega) h1 h'.symm).elim
 rw[hs]at h';omega
noncomputable def aSlice(P:Program)(hp:zI)(t:TypeId)(x:Value)(lo hi mx:Option Value):Option Value:=
 cond (fullOK hi mx) (match und P t,x with
  | some (.slice e),.slice none len cap=>cond (Nat.beq len 0 && Nat.beq cap 0) (match zS 0 0 mx,zS 0 0 hi,zS 0 0 lo,inf? P e with
   | some _,some _,some _,some _=>some (.slice none 0 0)
   | _,_,_,_=>none) none
  | some (.slice e), .slice (some ⟨b, off, none⟩) len cap => match inf? P e with
   | some ei => cond (Nat.beq cap inf)
    (match zH hp b with
     | .cells _ _ z 1=>cond (Nat.beq z (zc e ei.size) && Nat.ble 1 ei.size) (aSliceOp ⟨b,off,none⟩ len ei.size lo hi mx) none
     | _=>none)
    (aSliceEx ⟨b,off,none⟩ len cap ei.size lo hi mx)
   | none=>none
  | some (.array n e),.pointer (some ⟨b,off,none⟩)=>match inf? P e with
   | some ei=>aSliceEx ⟨b,off,none⟩ n n ei.size lo hi mx
   | none=>none
  | some (.pointer arr), .pointer (some ⟨b, off, none⟩) => match und P arr with
   | some (.array n e)=>match inf? P e with
    | some ei=>aSliceEx ⟨b,off,none⟩ n n ei.size lo hi mx
    | none=>none
   | _=>none
  | some .string, .string s => match mx with
   | some _=>none
   | none => match zS s.data.toList.length s.data.toList.length hi with
    | none=>none
    | some h=>match zS 0 h lo with
     | none=>none
     | some l=>some (.string ⟨⟨cutS s.data.toList l (Nat.sub h l)⟩⟩)
  | _,_=>none) none
def putAll(cs:List Value):Nat→List Value→List Value
 | _,[]=>cs
 | off,v::r=>putAll (cs.set off v) (off+1) r
def cellsOf:Value→List Value
 | .agg cs=>cs.toList
 | v=>[v]
def aFill(place:Nat→Option (Nat×Nat))(cells:List Value):List (Nat×Value)→Option (List Value)
 | []=>some cells
 | (i,v)::rest=>match place i with
  | none=>none
  | some (off,size)=>cond (Nat.beq (cellsOf v).length size && Nat.ble (Nat.add off size) cells.length) (aFill place (putAll cells off (cellsOf v)) rest) none
noncomputable def yO(P:Program)(t:TypeId):Option Value:=match inf? P t with
 | some i=>i.zero
 | none=>none
noncomputable def aField(P:Program)(t:TypeId)(x:Value)(f:Nat):Option Value:=
 match und P t,x with
 | some (.struct fs),.agg cs=>match fs[f]? with
  | some fd=>aPart P fd.type cs.toList fd.offset
  | none=>none
 | _,_=>none
noncomputable def aLen(P:Program)(h:zI)(t:TypeId)(x:Value):Option Value:=
 match und P t,x with
 | some (.slice _),.slice _ n _=>some (.int .i64 (.ofNat n))
 | some .string,.string s=>some (.int .i64 (.ofNat s.data.toList.length))
 | some (.array n _),_=>some (.int .i64 (.ofNat n))
 | some (.map _ _),.map none=>some (.int .i64 (.ofNat 0))
 | some (.map _ _),.map (some r)=>match zH h r with
  | .map es _=>some (.int .i64 (.ofNat es.length))
  | _=>none
 | _,_=>none
noncomputable def aCap(P:Program)(t:TypeId)(x:Value):Option Value:=
 match und P t,x with
 | some (.slice _),.slice _ _ n=>cond (Nat.beq n inf) none (some (.int .i64 (.ofNat n)))
 | some (.array n _),_=>some (.int .i64 (.ofNat n))
 | _,_=>none
noncomputable def aMax(big:Bool):Value→List Value→Option Value
 | x,[]=>some x
 | .int k x,.int k' y::r=>cond (vH k k') (aMax big (.int k (cond (cond big (iltB x y) (iltB y x)) y x)) r) none
 | _,_=>none
noncomputable def keyEq:Value→Value→Option Bool
 | .agg a,.agg b=>scalsEq a.toList b.toList
 | x,y=>yN x y
noncomputable def keyT(P:Program)(kd:TypeDesc)(k:Value):Bool:=
 match kd,k with
 | .array len e,.agg cs=>match und P e,inf? P e with
  | some ed,some ei=>Nat.beq ei.size 1 && (Nat.beq cs.toList.length len && cs.toList.all (wH ed))
  | _,_=>false
 | kd,k=>wH kd k
noncomputable def findE(k:Value):List MapEntry→Nat→Option (Option (Nat×Value))
 | [],_=>some none
 | e::es,i=>match keyEq k e.key with
  | some true=>some (some (i,e.val))
  | some false=>findE k es (i+1)
  | none=>none
noncomputable def aLookup(P:Program)(h:zI)(t:TypeId)(x k:Value)(ok:Bool):Option Value:=
 match und P t with
 | some (.map kt et) => match und P kt, yO P et with
  | some kd, some z => cond (keyT P kd k)
   (match x with
    | .map none=>some (cond ok (.tuple #[z,.bool false]) z)
    | .map (some r) => match zH h r with
     | .map es _=>match findE k es 0 with
      | some (some (_,v))=>some (cond ok (.tuple #[v,.bool true]) v)
      | some none=>some (cond ok (.tuple #[z,.bool false]) z)
      | none=>none
     | _=>none
    | _=>none) none
  | _,_=>none
 | _=>none
noncomputable def aTypeAssert(P:Program)(x:Value)(asserted:TypeId)(ok:Bool):Option Value:=
 match und P asserted with
 | some (.interface _)=>none
 | some _ => match x with
  | .iface t v => cond (Nat.beq t asserted) (some (cond ok (.tuple #[v, .bool true]) v))
   (cond ok (match yO P asserted with
    | some z=>some (.tuple #[z,.bool false])
    | none=>none) none)
  | .nilIface=>cond ok (match yO P asserted with
   | some z=>some (.tuple #[z,.bool false])
   | none=>none) none
  | _=>none
 | none=>none
def rep(z:List Value):Nat→List Value
 | 0=>[]
 | n+1=>z++rep z n
noncomputable def mkCells(cs:List Value)(kd:Nat):AObj:=.cells (Tr.ofListFrom undef .lF 0 cs) cs.length 0 kd
noncomputable def mkCellsT(cs:List Value)(el:Nat):AObj:=.cells (Tr.ofListFrom undef .lF 0 cs) cs.length (Nat.succ el) 0
noncomputable def aBuildSlice(P:Program)(ty:TypeId)(len:Nat)(parts:List (Nat×Value)):Option AObj:=
 match und P ty with
 | some (.slice e) => match yO P e, inf? P e with
  | some z, some ei => cond (Nat.ble 1 ei.size && Nat.beq (cellsOf z).length ei.size && Nat.ble (Nat.mul len ei.size) 16777216)
   (match aFill (fun i=>some (Nat.mul i ei.size,ei.size)) (rep (cellsOf z) len) parts with
    | some cs=>some (mkCells cs 0)
    | none=>none) none
  | _,_=>none
 | _=>none
noncomputable def aMakeSlice(P:Program)(ty:TypeId)(l c:Value):Option (AObj×Nat×Nat):=
 match und P ty,natOf l,natOf c with
 | some (.slice e), some n, some m => match yO P e, inf? P e with
  | some z,some ei=>cond (Nat.ble 1 ei.size && Nat.beq (cellsOf z).length ei.size && Nat.ble n m && Nat.blt m 100000 && Nat.blt ei.bytes 100000)
   (some (mkCells (rep (cellsOf z) m) 0,n,m)) none
  | _,_=>none
 | _,_,_=>none
inductive Sh where
 | bad
 | scal
 | agg (n:Nat)
noncomputable def vI(P:Program)(t:TypeId):Sh:=
 match und P t,inf? P t with
 | some d,some i=>cond (aggT d) (.agg i.size) (cond (Nat.beq i.size 1) .scal .bad)
 | _,_=>.bad
inductive Ix where
 | bad
 | slice (size:Nat)
 | array (len size:Nat)
noncomputable def ixOf(P:Program)(t:TypeId):Ix:=
 match und P t with
 | some (.slice e)=>match inf? P e with
  | some ei=>.slice ei.size
  | none=>.bad
 | some (.array len e)=>match inf? P e with
  | some ei=>.array len ei.size
  | none=>.bad
 | _=>.bad
noncomputable def placesOf(P:Program):List Field→Option (List (Nat×Nat))
 | []=>some []
 | f::fs=>match inf? P f.type,placesOf P fs with
  | some i,some l=>some ((f.offset,i.size)::l)
  | _,_=>none
noncomputable def structPlaces(P:Program)(t:TypeId):Option (List (Nat×Nat)):=
 match und P t with
 | some (.struct fs)=>placesOf P fs.toList
 | _=>none
noncomputable def aBuild(P:Program)(t:TypeId)(parts:List (Nat×Value)):Option Value:=
 match yO P t with
 | none=>none
 | some z => match structPlaces P t with
  | some pl=>(aFill (fun i=>pl[i]?) (cellsOf z) parts).map fun cs=>.agg ⟨cs⟩
  | none=>match ixOf P t with
   | .array _ size=>(aFill (fun i=>some (Nat.mul i size,size)) (cellsOf z) parts).map fun cs=>.agg ⟨cs⟩
   | _=>none
noncomputable def offOf(P:Program)(t:TypeId)(f:Nat):Option Nat:=
 match und P t with
 | some (.struct fs) => match fs[f]? with
  | some fd=>match inf? P fd.type with
   | some i=>cond (Nat.beq i.size 0) none (some fd.offset)
   | none=>none
  | none=>none
 | _=>none
noncomputable def onInt{R:Type}(v:Value)(f:IntKind→Int→R)(d:R):R:=
 Value.rec (motive_1:=fun _=>(IntKind→Int→R)→R→R) (motive_2:=fun _=>Unit) (motive_3:=fun _=>Unit)
  (fun _ _ d=>d) (fun k n f _=>f k n) (fun _ _ _ d=>d) (fun _ _ _ _ d=>d) (fun _ _ d=>d) (fun _ _ d=>d) (fun _ _ _ _ d=>d) (fun _ _ d=>d) (fun _ _ d=>d) (fun _ _ _ _ _ _ d=>d) (fun _ d=>d) (fun _ _ _ _ d=>d) (fun _ d=>d) (fun _ _ _ d=>d) (fun _ _ _ d=>d)
  (fun _ _=>()) () (fun _ _ _ _=>()) v f d
noncomputable def onBool{R:Type}(v:Value)(f:Bool→R)(d:R):R:=
 Value.rec (motive_1:=fun _=>(Bool→R)→R→R) (motive_2:=fun _=>Unit) (motive_3:=fun _=>Unit)
  (fun b f _=>f b) (fun _ _ _ d=>d) (fun _ _ _ d=>d) (fun _ _ _ _ d=>d) (fun _ _ d=>d) (fun _ _ d=>d) (fun _ _ _ _ d=>d) (fun _ _ d=>d) (fun _ _ d=>d) (fun _ _ _ _ _ _ d=>d) (fun _ d=>d) (fun _ _ _ _ d=>d) (fun _ d=>d) (fun _ _ _ d=>d) (fun _ _ _ d=>d)
  (fun _ _=>()) () (fun _ _ _ _=>()) v f d
noncomputable def onPtr{R:Type}(v:Value)(f:Nat→Nat→R)(d:R):R:=
 Value.rec (motive_1:=fun _=>(Nat→Nat→R)→R→R) (motive_2:=fun _=>Unit) (motive_3:=fun _=>Unit)
  (fun _ _ d=>d) (fun _ _ _ d=>d) (fun _ _ _ d=>d) (fun _ _ _ _ d=>d) (fun _ _ d=>d) (fun a f d=>Option.rec d (fun a=>Addr.rec (motive:=fun _=>(Nat→Nat→R)→R→R) (fun b off sp f d=>Option.rec (f b off) (fun _=>d) sp) a f d) a) (fun _ _ _ _ d=>d) (fun _ _ d=>d) (fun _ _ d=>d) (fun _ _ _ _ _ _ d=>d) (fun _ d=>d) (fun _ _ _ _ d=>d) (fun _ d=>d) (fun _ _ _ d=>d) (fun _ _ _ d=>d)
  (fun _ _=>()) () (fun _ _ _ _=>()) v f d
noncomputable def onSlice{R:Type}(v:Value)(f:Nat→Nat→Nat→Nat→R)(d:R):R:=
 Value.rec (motive_1:=fun _=>(Nat→Nat→Nat→Nat→R)→R→R) (motive_2:=fun _=>Unit) (motive_3:=fun _=>Unit)
  (fun _ _ d=>d) (fun _ _ _ d=>d) (fun _ _ _ d=>d) (fun _ _ _ _ d=>d) (fun _ _ d=>d) (fun _ _ d=>d) (fun a n m f d=>Option.rec d (fun a=>Addr.rec (motive:=fun _=>Nat→Nat→(Nat→Nat→Nat→Nat→R)→R→R) (fun b off sp n m f d=>Option.rec (f b off n m) (fun _=>d) sp) a n m f d) a) (fun _ _ d=>d) (fun _ _ d=>d) (fun _ _ _ _ _ _ d=>d) (fun _ d=>d) (fun _ _ _ _ d=>d) (fun _ d=>d) (fun _ _ _ d=>d) (fun _ _ _ d=>d)
  (fun _ _=>()) () (fun _ _ _ _=>()) v f d
noncomputable def uD{R:Type}(v:Value)(k:Value→R):R:=
 Value.rec (motive_1:=fun _=>(Value→R)→R) (motive_2:=fun _=>Unit) (motive_3:=fun _=>Unit)
  (fun b k=>k (.bool b)) (fun n i k=>k (.int n i)) (fun a b k=>k (.float a b)) (fun a b c k=>k (.complex a b c)) (fun s k=>k (.string s)) (fun a k=>k (.pointer a)) (fun a n m k=>k (.slice a n m)) (fun r k=>k (.map r)) (fun r k=>k (.chan r)) (fun a b c _ _ k=>k (.func a b c)) (fun k=>k .nilFunc) (fun t v _ k=>k (.iface t v)) (fun k=>k .nilIface) (fun c _ k=>k (.agg c)) (fun c _ k=>k (.tuple c))
  (fun _ _=>()) () (fun _ _ _ _=>()) v k
noncomputable def forceOne(v:Value)(k:Value→Bool):Bool:=
 Value.rec (motive_1:=fun _=>(Value→Bool)→Bool) (motive_2:=fun _=>Unit) (motive_3:=fun _=>Unit)
  (fun b k=>k (.bool b)) (fun n i k=>k (.int n i)) (fun a b k=>k (.float a b)) (fun a b c k=>k (.complex a b c)) (fun s k=>k (.string s)) (fun a k=>k (.pointer a)) (fun a n m k=>k (.slice a n m)) (fun r k=>k (.map r)) (fun r k=>k (.chan r)) (fun a b c _ _ k=>k (.func a b c)) (fun k=>k .nilFunc) (fun t v _ k=>k (.iface t v)) (fun k=>k .nilIface) (fun _ _ _=>false) (fun _ _ _=>false)
  (fun _ _=>()) () (fun _ _ _ _=>()) v k
noncomputable def onCells{R:Type}(o:AObj)(f:Tr Value→Nat→Nat→Nat→R)(d:R):R:=
 AObj.rec (motive:=fun _=>(Tr Value→Nat→Nat→Nat→R)→R→R) (fun _ d=>d) (fun c n el kd f _=>f c n el kd) (fun _ _ _ d=>d) (fun _ _ _ d=>d) (fun _ _ d=>d) (fun _ _ _ _ _ d=>d) o f d
end Go.Ex
namespace Go.Ex
abbrev KV:=W→Value→Bool
abbrev KP:=yV→W→Bool
abbrev KX:=AX→Fr→W→Bool
abbrev KO:=Out→Option yV→zI→Nat→Bool
structure Lo where
 code:Code→Cx→Fr→W→KX→Bool
 call:FuncId→List Value→Bool→Option yV→zI→Nat→KO→Bool
 round:Nat→List Value→zI→Nat→(Out→zI→Nat→Bool)→Bool
 leave:Func→Option yV→Fr→W→KO→Bool
def Lo.bot:Lo:=⟨fun _ _ _ _ _=>false,fun _ _ _ _ _ _ _=>false,fun _ _ _ _ _=>false,fun _ _ _ _ _=>false⟩
noncomputable def setMany(c:Tr Value)(i:Nat)(l:List Value)(k:Tr Value→Bool):Bool:=
 List.rec (motive:=fun _=>Tr Value→Nat→(Tr Value→Bool)→Bool) (fun c _ k=>k c)
  (fun v _ ih c i k=>forceOne v fun v=>c.setK undef v i fun c'=>ih c' (Nat.succ i) k) l c i k
noncomputable def storeAt(h:zI)(b off:Nat)(vs:List Value)(k:zI→Bool):Bool:=
 onCells (zH h b) (fun c n z kd=>Bool.rec (Bool.rec false (setMany c off vs fun c'=>h.setK .dead (.cells c' n z kd) b k) (Nat.ble (Nat.add off vs.length) n)) false (Nat.beq kd 2)) false
noncomputable def rowOf(h:zI)(size n:Nat):Value→Option (List Value)
 | .slice none _ _=>cond (Nat.beq n 0) (some []) none
 | .slice (some ⟨b,off,none⟩) len _=>match zH h b with
  | .cells c kn _ _=>cond (Nat.ble n len && Nat.ble (Nat.add off (Nat.mul n size)) kn) (some (c.toListFrom undef off (Nat.mul n size))) none
  | _=>none
 | .string s=>some ((s.data.toList.take n).map fun b=>.int .u8 (.ofNat b.toNat))
 | _=>none
def lenV:Value→Option Nat
 | .slice _ n _=>some n
 | .string s=>some s.data.toList.length
 | _=>none
def strFits(size:Nat):Value→Bool
 | .string _=>Nat.beq size 1
 | _=>true
noncomputable def zQ(h:zI)(n:Nat)(o:AObj)(k:zI→Nat→Bool):Bool:=h.setK .dead o n fun h'=>k h' (Nat.succ n)
noncomputable def appended(P:Program)(h:zI)(e:TypeId)(size:Nat)(xd:TypeDesc)(x:Value):Option (Nat×List Value):=
 match xd with
 | .int _=>match natOf x,yO P e with
  | some m,some z=>cond (Nat.blt m 100000 && Nat.beq (cellsOf z).length size) (some (m,rep (cellsOf z) m)) none
  | _,_=>none
 | _ => match lenV x with
  | some m=>cond (strFits size x) (match rowOf h size m x with
   | some l=>some (m,l)
   | none=>none) none
  | none=>none
noncomputable def growOpen(h:zI)(n b sLen m size zz:Nat)(new:List Value)(k:Value→zI→Nat→Bool):Bool:=
 match zH h b with
 | .cells c kn z 1 => cond (Nat.beq z zz)
  (cond (Nat.ble (Nat.mul (Nat.add sLen m) size) kn)
   (storeAt h b (Nat.mul sLen size) new fun h'=>k (.slice (some ⟨b,0,none⟩) (Nat.add sLen m) inf) h' n)
   (cond (Nat.ble (Nat.mul sLen size) kn)
    (setMany c (Nat.mul sLen size) new fun c'=>h.setK .dead .dead b fun h1=>
     zQ h1 n (.cells c' (Nat.mul (Nat.add sLen m) size) z 1) fun h' n'=>k (.slice (some ⟨n,0,none⟩) (Nat.add sLen m) inf) h' n')
    false)) false
 | _=>false
noncomputable def growEx(h:zI)(n:Nat)(base:Option Addr)(sLen cap m size zz:Nat)(new:List Value)(k:Value→zI→Nat→Bool):Bool:=
 cond (Nat.ble (Nat.add sLen m) cap)
  (match base with
   | some ⟨b,off,none⟩=>storeAt h b (Nat.add off (Nat.mul sLen size)) new fun h'=>k (.slice base (Nat.add sLen m) cap) h' n
   | none=>cond (Nat.beq m 0) (k (.slice base sLen cap) h n) false
   | _=>false)
  (match rowOf h size sLen (.slice base sLen cap) with
   | some old=>setMany .lF 0 (old++new) fun c=>zQ h n (.cells c (Nat.mul (Nat.add sLen m) size) zz 1) fun h' n'=>k (.slice (some ⟨n,0,none⟩) (Nat.add sLen m) inf) h' n'
   | none=>false)
noncomputable def xappend(P:Program)(tys:List TypeId)(args:List Value)(h:zI)(n:Nat)(k:Value→zI→Nat→Bool):Bool:=
 match tys,args with
 | sT :: xT :: _, .slice base sLen cap :: x :: _ =>
  match und P sT,und P xT with
  | some (.slice e), some xd => match inf? P e, yO P e with
   | some ei, some z => match appended P h e ei.size xd x with
    | none=>false
    | some (m, new) => cond (Nat.beq ei.size 0 || !Nat.beq (cellsOf z).length ei.size || !Nat.blt (Nat.add sLen m) 1000000 || !Nat.blt ei.bytes 100000) false <|
     cond (Nat.beq m 0 && !Nat.beq cap 0 && (Nat.beq cap inf || Nat.ble sLen cap)) (k (.slice base sLen cap) h n) <| cond (Nat.beq cap inf)
     (match base with
      | some ⟨b,0,none⟩=>growOpen h n b sLen m ei.size (zc e ei.size) new k
      | _=>false)
     (growEx h n base sLen cap m ei.size (zc e ei.size) new k)
   | _,_=>false
  | _,_=>false
 | _,_=>false
noncomputable def xclear(P:Program)(tys:List TypeId)(args:List Value)(h:zI)(k:zI→Bool):Bool:=
 match tys,args with
 | t :: _, x :: _ => match und P t, x with
  | some (.slice _),.slice none _ _=>k h
  | some (.slice e),.slice (some ⟨b,off,none⟩) n _=>match yO P e with
   | some z=>cond (Nat.beq n 0) (k h) (storeAt h b off (rep (cellsOf z) n) k)
   | none=>false
  | _,_=>false
 | _,_=>false
def putE(k v:Value):Nat→List MapEntry→List MapEntry
 | _,[]=>[]
 | 0,e::es=>{ e with key:=k,val:=v }::es
 | i+1,e::es=>e::putE k v i es
def dropE:Nat→List MapEntry→List MapEntry
 | _,[]=>[]
 | 0,_::es=>es
 | i+1,e::es=>e::dropE i es
noncomputable def uE(P:Program)(t:TypeId)(x key v:Value)(h:zI)(k:zI→Bool):Bool:=
 match und P t,x with
 | some (.map kt _), .map (some r) => match und P kt, zH h r with
  | some kd, .map es clock => cond (keyT P kd key)
   (match findE key es 0 with
    | some (some (i,_))=>h.setK .dead (.map (putE key v i es) clock) r k
    | some none=>h.setK .dead (.map (es++[{ key,val:=v,born:=clock }]) (Nat.succ clock)) r k
    | none=>false) false
  | _,_=>false
 | _,_=>false
noncomputable def xdelete(P:Program)(tys:List TypeId)(args:List Value)(h:zI)(k:zI→Bool):Bool:=
 match tys,args with
 | t :: _, x :: key :: _ => match und P t, x with
  | some (.map kt _),.map none=>match und P kt with
   | some kd=>cond (keyT P kd key) (k h) false
   | none=>false
  | some (.map kt _), .map (some r) => match und P kt, zH h r with
   | some kd, .map es clock => cond (keyT P kd key)
    (match findE key es 0 with
     | some (some (i,_))=>h.setK .dead (.map (dropE i es) clock) r k
     | some none=>h.setK .dead (.map es clock) r k
     | none=>false) false
   | _,_=>false
  | _,_=>false
 | _,_=>false
noncomputable def xinvoke(lo:Lo)(f:Value)(args:List Value)(h:zI)(n:Nat)(k:Value→zI→Nat→Bool)(kp:yV→zI→Nat→Bool):Bool:=
 match f with
 | .func (.func g) first cap=>lo.call g (first.toList++(args++cap.toList)) false none h n fun o _ h n=>Out.rec (fun v=>k v h n) (fun c=>kp c h n) o
 | .func (.yield l) first _=>lo.round l (first.toList++args) h n fun o h n=>Out.rec (fun v=>k v h n) (fun c=>kp c h n) o
 | _=>false
noncomputable def intOp(op:BinOp)(kd:IntKind)(a b:Int)(slow:Option Value):Option Value:=
 BinOp.rec (motive:=fun _=>IntKind→Int→Int→Option Value→Option Value)
  (fun kd a b _=>Int.rec (fun m=>some (.int kd (.ofNat m))) (fun m=>some (.int kd (.negSucc m))) (wrapB kd (iadd a b)))
  (fun kd a b _=>Int.rec (fun m=>some (.int kd (.ofNat m))) (fun m=>some (.int kd (.negSucc m))) (wrapB kd (isub a b)))
  (fun _ _ _ s=>s) (fun _ _ _ s=>s) (fun _ _ _ s=>s) (fun _ _ _ s=>s) (fun _ _ _ s=>s) (fun _ _ _ s=>s) (fun _ _ _ s=>s) (fun _ _ _ s=>s) (fun _ _ _ s=>s)
  (fun _ a b _=>some (.bool (ieqB a b)))
  (fun _ a b _=>some (.bool (Bool.rec true false (ieqB a b))))
  (fun _ a b _=>some (.bool (iltB a b)))
  (fun _ a b _=>some (.bool (ileB a b)))
  (fun _ a b _=>some (.bool (iltB b a)))
  (fun _ a b _=>some (.bool (ileB b a))) op kd a b slow
noncomputable def binV(P:Program)(op:BinOp)(ty:TypeId)(ox oy:Operand)(x y:Value):Option Value:=
 onInt x (fun k1 a=>onInt y (fun k2 b=>Bool.rec (aBin P op ty ox oy x y) (intOp op k1 a b (aBin P op ty ox oy x y)) (vH k1 k2))
  (aBin P op ty ox oy x y)) (aBin P op ty ox oy x y)
noncomputable def quietB(P:Program)(b:Builtin)(tys:List TypeId)(args:List Value)(h:zI):Option Value:=
 match b with
 | .len=>match args,tys with
  | x::_,ty::_=>aLen P h ty x
  | _,_=>none
 | .cap=>match args,tys with
  | x::_,ty::_=>aCap P ty x
  | _,_=>none
 | .max=>match args with
  | x::r=>aMax true x r
  | _=>none
 | .min=>match args with
  | x::r=>aMax false x r
  | _=>none
 | _=>none
noncomputable def builtinK(P:Program)(cx:Cx)(b:Builtin)(tys:List TypeId)(args:List Value)(w:W)(k:KV):Bool:=
 match w with
 | ⟨d, u, h, n⟩ => match b with
  | .append=>xappend P tys args h n fun v h n=>k ⟨d,u,h,n⟩ v
  | .clear=>xclear P tys args h fun h=>k ⟨d,u,h,n⟩ (.tuple #[])
  | .delete=>xdelete P tys args h fun h=>k ⟨d,u,h,n⟩ (.tuple #[])
  | .recover => match cx.round with
   | some _=>false
   | none => cond cx.df
    (match u with
     | some (⟨v,false,false⟩::older)=>k ⟨d,some (⟨v,true,false⟩::older),h,n⟩ v
     | none=>k ⟨d,u,h,n⟩ .nilIface
     | _=>false)
    (k ⟨d,u,h,n⟩ .nilIface)
  | _=>false
noncomputable def vY(o:Op)(P:Program)(t:Fr)(h:zI):Option Value:=
 Op.rec (motive:=fun _=>Program→Fr→zI→Option Value)
  (fun x _ t _=>uD (ev t x) some)
  (fun x _ t _=>uD (ev t x) some)
  (fun c x y _ t _=>onBool (ev t c) (fun b=>uD (Bool.rec (ev t y) (ev t x) b) some) none)
  (fun _ _ _ _=>none) (fun _ _ _ _ _=>none)
  (fun ty parts P t _=>aBuild P ty (parts.toList.map fun p=>(p.1,ev t p.2)))
  (fun _ _ _ _ _ _=>none) (fun _ _ _ _ _ _ _=>none)
  (fun ty x P t h=>onPtr (ev t x) (fun b off=>onCells (zH h b) (fun c kn _ _=>
   Sh.rec none (Bool.rec none (uD (Tr.get undef c off) some) (Nat.blt off kn))
    (fun sz=>Bool.rec none (some (.agg ⟨c.toListFrom undef off sz⟩)) (Nat.ble (Nat.add off sz) kn)) (vI P ty)) none) none)
  (fun _ _ _ _ _ _=>none) (fun _ _ _ _=>none) (fun _ _ _ _=>none)
  (fun x _ t _=>match ev t x with
   | .pointer (some p)=>some (.pointer (some p))
   | .func (.func f) fs cs=>some (.func (.func f) fs cs)
   | .func (.yield f) fs cs=>some (.func (.yield f) fs cs)
   | .map r=>some (.map r)
   | .slice p i c=>some (.slice p i c)
   | _=>none)
  (fun op ty x y _ P t _=>binV P op ty x y (ev t x) (ev t y))
  (fun op _ x _ t _=>aUn op (ev t x))
  (fun src dst x P t _=>match und P src with
   | some _=>aConvert P dst (ev t x)
   | none=>none)
  (fun _ _ _ _ _=>none)
  (fun ty x P t _=>match und P ty with
   | some (.interface _)=>none
   | some _=>uD (ev t x) fun v=>some (.iface ty v)
   | none=>none)
  (fun fn first cap _ t _=>match fn with
   | .func f=>some (.func (.func f) ⟨first.toList.map (ev t)⟩ ⟨cap.toList.map (ev t)⟩)
   | _=>none)
  (fun _ _ _ _ _=>none) (fun _ _ _ _ _=>none) (fun _ _ _ _ _ _=>none)
  (fun ty x lo hi mx P t h=>aSlice P h ty (ev t x) (lo.map (ev t)) (hi.map (ev t)) (mx.map (ev t)))
  (fun ty x f P t _=>onPtr (ev t x) (fun b off=>Option.rec none (fun o=>some (.pointer (some ⟨b,Nat.add off o,none⟩))) (offOf P ty f)) none)
  (fun ty x f P t _=>aField P ty (ev t x) f)
  (fun ty x ix P t _=>onInt (ev t ix) (fun _ i=>Int.rec (fun i=>Ix.rec none
   (fun sz=>onSlice (ev t x) (fun b off len _=>Bool.rec none (some (.pointer (some ⟨b,Nat.add off (Nat.mul i sz),none⟩))) (Nat.blt i len)) none)
   (fun len sz=>onPtr (ev t x) (fun b off=>Bool.rec none (some (.pointer (some ⟨b,Nat.add off (Nat.mul i sz),none⟩))) (Nat.blt i len)) none) (ixOf P ty)) (fun _=>none) i) none)
  (fun ty x ix P t _=>aIndex P ty (ev t x) (ev t ix))
  (fun ty x key ok P t h=>aLookup P h ty (ev t x) (ev t key) ok)
  (fun _ _ _ _ _ _ _=>none) (fun _ _ _ _ _ _=>none) (fun _ _ _ _ _ _ _=>none) (fun _ _ _ _ _=>none) (fun _ _ _ _ _=>none) (fun _ _ _ _=>none)
  (fun x _ asserted ok P t _=>aTypeAssert P (ev t x) asserted ok)
  (fun x i _ t _=>match ev t x with
   | .tuple vs=>Option.rec none (fun v=>uD v some) (vs.toList[i]?)
   | _=>none)
  (fun c P t h=>Call.rec (fun callee args tys=>Callee.rec (fun _=>none) (fun _ _=>none) (fun b=>quietB P b tys.toList (args.toList.map (ev t)) h) callee) c)
  (fun _ _ _ _=>none) (fun _ _ _ _=>none) (fun _ _ _ _=>none) (fun _ _ _ _ _=>none) (fun _ _ _ _ _ _=>none) (fun _ _ _ _ _=>none) o P t h
noncomputable def nextE(es:List MapEntry)(seen:List Nat)(since:Nat):Option (Option MapEntry):=
 match es.filter fun e=> !(seen.any fun b=>Nat.beq b e.born) with
 | []=>some none
 | [e]=>cond (Nat.blt e.born since) (some (some e)) none
 | _=>none
noncomputable def keyPlain:Value→Bool
 | .agg cs=>cs.toList.all fun v=>match v with
  | .bool _ | .int _ _ | .string _=>true
  | _=>false
 | .bool _ | .int _ _ | .string _=>true
 | _=>false
noncomputable def xrangeM(P:Program)(ty:TypeId)(x:Value)(h:zI)(n:Nat)(k:Value→zI→Nat→Bool):Bool:=
 match und P ty,x with
 | some (.map _ _),.map none=>zQ h n (.siter none 0 [] 0) fun h' n'=>k (.pointer (some ⟨n,0,none⟩)) h' n'
 | some (.map _ _),.map (some r)=>match zH h r with
  | .map _ clock=>zQ h n (.siter (some r) clock [] clock) fun h' n'=>k (.pointer (some ⟨n,0,none⟩)) h' n'
  | _=>false
 | _,_=>false
noncomputable def xnextM(x:Value)(h:zI)(k:Value→zI→Bool):Bool:=
 match x with
 | .pointer (some ⟨b, 0, none⟩) => match zH h b with
  | .siter none _ _ _=>k (.tuple ⟨[.bool false]⟩) h
  | .siter (some m) since seen last => match zH h m with
   | .map es clock => cond ((!seen.isEmpty && !es.isEmpty) && es.all fun e => Nat.ble last e.born) false
    (match nextE es seen since with
     | some none=>k (.tuple ⟨[.bool false]⟩) h
     | some (some e)=>cond (keyPlain e.key) (h.setK .dead (.siter (some m) since (seen++[e.born]) clock) b fun h'=>k (.tuple ⟨[.bool true,e.key,e.val]⟩) h') false
     | none=>false)
   | _=>false
  | _=>false
 | _=>false
noncomputable def xentryM(x:Value)(h:zI)(k:Value→Bool):Bool:=
 match x with
 | .pointer (some ⟨b, 0, none⟩) => match zH h b with
  | .siter (some m) _ seen last => match zH h m, seen.getLast? with
   | .map es clock,some st=>cond (Nat.beq clock last) (match es.find? fun e=>Nat.beq e.born st with
    | some e=>cond (keyPlain e.key) (k (.tuple ⟨[e.key,e.val]⟩)) false
    | none=>false) false
   | _,_=>false
  | _=>false
 | _=>false
abbrev HV:=Program→Lo→Cx→Fr→W→KV→KP→Bool
noncomputable def yG(w:W)(f:zI→Nat→(zI→Nat→W)→Bool):Bool:=W.rec (fun d u h n=>f h n (W.mk d u)) w
noncomputable def eff(o:Op):HV:=
 match o with
 | .alloc el=>fun P _ _ _ w k _=>yG w fun h n mk=>Option.rec false (fun z=>zQ h n (mkCellsT (cellsOf z) el) fun h' n'=>k (mk h' n') (.pointer (some ⟨n,0,none⟩))) (yO P el)
 | .box el x=>fun _ _ _ t w k _=>yG w fun h n mk=>setMany .lF 0 (cellsOf (ev t x)) fun c=>
  zQ h n (.cells c (cellsOf (ev t x)).length (Nat.succ el) 0) fun h' n'=>k (mk h' n') (.pointer (some ⟨n,0,none⟩))
 | .buildSlice ty len parts=>fun P _ _ t w k _=>yG w fun h n mk=>Option.rec false (fun ob=>zQ h n ob fun h' n'=>k (mk h' n') (.slice (some ⟨n,0,none⟩) len len))
  (aBuildSlice P ty len (parts.toList.map fun p=>(p.1,ev t p.2)))
 | .insert ty m key v=>fun P _ _ t w k _=>yG w fun h n mk=>uE P ty (ev t m) (ev t key) (ev t v) h fun h=>k (mk h n) undef
 | .store ty x v=>fun P _ _ t w k _=>yG w fun h n mk=>onPtr (ev t x) (fun b off=>Sh.rec false
  (Bool.rec false (storeAt h b off (cellsOf (ev t v)) fun h'=>k (mk h' n) undef) (Nat.beq (cellsOf (ev t v)).length 1))
  (fun sz=>Bool.rec false (storeAt h b off (cellsOf (ev t v)) fun h'=>k (mk h' n) undef) (Nat.beq (cellsOf (ev t v)).length sz)) (vI P ty)) false
 | .makeMap _ r=>fun _ _ _ _ w k _=>yG w fun h n mk=>match r with
  | none=>zQ h n (.map [] 0) fun h' n'=>k (mk h' n') (.map (some n))
  | some _=>false
 | .makeSlice ty l c=>fun P _ _ t w k _=>yG w fun h n mk=>match aMakeSlice P ty (ev t l) (ev t c) with
  | some (ob,i,m)=>zQ h n ob fun h' n'=>k (mk h' n') (.slice (some ⟨n,0,none⟩) i m)
  | none=>false
 | .mapUpdate ty m key v=>fun P _ _ t w k _=>yG w fun h n mk=>uE P ty (ev t m) (ev t key) (ev t v) h fun h=>k (mk h n) undef
 | .range ty x=>fun P _ _ t w k _=>yG w fun h n mk=>xrangeM P ty (ev t x) h n fun v h n=>k (mk h n) v
 | .next x s=>fun _ _ _ t w k _=>yG w fun h n mk=>cond s false (xnextM (ev t x) h fun v h=>k (mk h n) v)
 | .entry x=>fun _ _ _ t w k _=>yG w fun h n mk=>xentryM (ev t x) h fun v=>k (mk h n) v
 | .call c=>fun P lo cx t w k kp=>Call.rec (fun callee args tys=>Callee.rec
  (fun f=>yG w fun h n mk=>xinvoke lo (ev t f) (args.toList.map (ev t)) h n (fun v h n=>k (mk h n) v) (fun c h n=>kp c (mk h n)))
  (fun _ _=>false)
  (fun b=>builtinK P cx b tys.toList (args.toList.map (ev t)) w k) callee) c
 | .defer c => fun _ _ cx t w k _ => match c, cx.round, w with
  | ⟨.value f,args,_⟩,none,⟨d,u,h,n⟩=>match ev t f with
   | .func (.func g) first cap=>k ⟨{ target:=.fn (.func g) cap,args:=⟨first.toList++args.toList.map (ev t)⟩ }::d,u,h,n⟩ undef
   | _=>false
  | _,_,_=>false
 | .panic x=>fun _ _ _ t w _ kp=>match ev t x with
  | .iface ty v=>kp [⟨.iface ty v,false,false⟩] w
  | _=>false
 | _=>fun _ _ _ _ _ _ _=>false
noncomputable def putT(t:Fr)(dst:Option Tmp)(v:Value)(k:Fr→Bool):Bool:=
 Option.rec (k t) (fun i=>fsetK t i v k) dst
def dstOf(ops:Array Oper)(g:Nat):Option Tmp:=
 match ops[g]? with
 | some o=>o.dst
 | none=>none
noncomputable def wants(ops:Array Oper)(t:Fr)(g:Nat)(b:Bool):Bool:=
 Option.rec false (fun d=>onBool (fget t d) (fun z=>Bool.rec (Bool.rec true false b) b z) false) (dstOf ops g)
noncomputable def wanted(ops:Array Oper)(t:Fr)(g:Option (Nat×Bool)):Bool:=
 Option.rec true (fun g=>wants ops t g.1 g.2) g
noncomputable def xops(P:Program)(lo:Lo)(cx:Cx)(all:Array Oper)(l:List Oper)(t:Fr)(w:W)(k:KX):Bool:=
 List.rec (motive:=fun _=>Program→Lo→Cx→Array Oper→Fr→W→KX→Bool)
  (fun _ _ _ _ t w k=>k .normal t w)
  (fun o _ ih P lo cx all t w k=>
   (fun kv:KV=>Bool.rec (kv w undef) (Option.rec (eff o.op P lo cx t w kv fun c w=>k (.panic c) t w) (kv w) (vY o.op P t w.h)) (wanted all t o.guard))
    (fun w v=>putT t o.dst v fun t=>ih P lo cx all t w k)) l P lo cx all t w k
def wE:Op→Nat
 | .move _ | .assign _ | .pick .. | .build .. | .nilCheck _ | .binOp .. | .unOp .. | .convert .. | .makeInterface .. | .makeFunc ..
 | .fieldAddr .. | .field .. | .indexAddr .. | .index .. | .typeAssert .. | .extract .. =>0
 | .load .. | .lookup .. | .slice .. =>1
 | .call ⟨.builtin b,_,_⟩=>match b with
  | .len | .cap | .max | .min=>1
  | _=>3
 | .alloc _ | .box .. | .buildSlice .. | .makeSlice .. =>2
 | .makeMap _ none=>2
 | _=>3
noncomputable def zL(m i:Nat):Bool:=Nat.beq (Nat.land (Nat.shiftRight m i) 1) 1
noncomputable def xW(acc:Tr Nat)(j:Nat):List Edge→Nat→Option Nat
 | [],m=>some m
 | e::es,m=>match e.ground with
  | .textOnly _ | .gcOnly _=>xW acc j es m
  | _=>Bool.rec none (xW acc j es (Nat.lor m (Nat.lor (Nat.shiftLeft 1 e.on) (Tr.get 0 acc e.on)))) (Nat.blt e.on j)
noncomputable def tmpMask:List Operand→Nat→Nat
 | [],m=>m
 | x::xs,m=>tmpMask xs (Operand.rec (motive:=fun _=>Nat→Nat) (fun t r=>Nat.lor r (Nat.shiftLeft 1 t)) (fun _ r=>r) (fun _ r=>r) (fun _ r=>r) x m)
structure XOp where
 o:Oper
 i:Nat
 kd:Nat
 m:Nat
 lk:Nat
 ds:Nat
noncomputable def dstMask(d:Option Tmp):Nat:=Option.rec 0 (fun t=>Nat.shiftLeft 1 t) d
noncomputable def xlist(all:Array Oper):List Oper→Nat→Tr Nat→Option (List XOp)
 | [],_,_=>some []
 | o :: r, j, acc => match xW acc j o.after.toList 0 with
  | none=>none
  | some m => match (match o.guard with
   | none=>some 0
   | some (g,_)=>Bool.rec none (some (dstMask (dstOf all g))) (zL m g):Option Nat) with
   | none=>none
   | some gm=>match xlist all r (Nat.succ j) (Tr.set 0 m acc j) with
    | none=>none
    | some l=>some (⟨o,j,wE o.op,m,tmpMask o.op.operands.toList gm,dstMask o.dst⟩::l)
noncomputable def pairOK(x y:XOp):Bool:=
 Bool.rec (Nat.beq x.i y.i || (Nat.beq (Nat.land x.ds y.ds) 0 && (zL y.m x.i || zL x.m y.i))) true (Nat.beq (Nat.land x.ds (Nat.lor y.lk y.ds)) 0)
noncomputable def allB{α : Type}(f: α→Bool)(l:List α):Bool:=
 List.rec (motive:=fun _=>(α→Bool)→Bool) (fun _=>true) (fun x _ ih f=>Bool.rec false (ih f) (f x)) l f
noncomputable def pairsOK(l:List XOp):Bool:=allB (fun x=>allB (fun y=>pairOK x y) l) (l.filter fun x=> !Nat.beq x.ds 0)
noncomputable def actsOK(l:List XOp):Bool:=allB (fun x=>allB (fun y=>Nat.beq x.i y.i || zL y.m x.i || zL x.m y.i) l) l
structure DOp where
 o:Oper
 i:Nat
 kd:Nat
 low:Nat
 high:Nat
 solo:Bool
noncomputable def dopOf(l acts:List XOp)(x:XOp):DOp:=
 ⟨x.o,x.i,x.kd,(acts.filter fun c=>zL x.m c.i).length,(acts.filter fun c=> !zL c.m x.i && !Nat.beq c.i x.i).length,
  l.all fun y=>Nat.beq x.i y.i || zL x.m y.i || zL y.m x.i⟩
noncomputable def wP:List XOp→List XOp→List XOp
 | rest,[]=>rest
 | rest,c::cs=>(rest.filter fun x=>zL c.m x.i)++c::wP (rest.filter fun x=> !zL c.m x.i && !Nat.beq x.i c.i) cs
noncomputable def sigB:List XOp→Nat→Nat→Bool
 | [],_,_=>true
 | x::r,sm,pm=>Bool.rec false (Bool.rec (Bool.rec
  (sigB r (Nat.lor sm (Nat.shiftLeft 1 x.i)) (Nat.lor pm (Nat.shiftLeft 1 x.i)))
  (Bool.rec false (sigB r (Nat.lor sm (Nat.shiftLeft 1 x.i)) 0) (Nat.beq (Nat.land x.m pm) pm)) (Nat.beq x.kd 3)) false (zL sm x.i)) (Nat.beq (Nat.land x.m sm) x.m)
noncomputable def planOf(n:Nat)(l acts s:List XOp):Option (List DOp):=
 cond (pairsOK l && actsOK acts && Nat.beq s.length n && sigB s 0 0) (some (s.map (dopOf l (s.filter fun x=>Nat.beq x.kd 3)))) none
noncomputable def plan(ops:Array Oper):Option (List DOp):=
 match xlist ops ops.toList 0 .lF with
 | none=>none
 | some l=>planOf ops.toList.length l (l.filter fun x=>Nat.beq x.kd 3) (wP l (l.filter fun x=>Nat.beq x.kd 3))
structure Look where
 o:Op
 t:Fr
 v:Value
 low:Nat
 high:Nat
noncomputable def scalB(v v':Value):Bool:=
 match v,v' with
 | .bool a,.bool b=>cond a b (!b)
 | .int k a,.int k' b=>vH k k' && ieqB a b
 | .string a,.string b=>bytesEq a.data.toList b.data.toList
 | .pointer none,.pointer none=>true
 | .pointer (some ⟨b,o,none⟩),.pointer (some ⟨b',o',none⟩)=>Nat.beq b b' && Nat.beq o o'
 | .slice none l c,.slice none l' c'=>Nat.beq l l' && Nat.beq c c'
 | .slice (some ⟨b,o,none⟩) l c,.slice (some ⟨b',o',none⟩) l' c'=>Nat.beq b b' && Nat.beq o o' && Nat.beq l l' && Nat.beq c c'
 | .map none,.map none=>true
 | .map (some a),.map (some b)=>Nat.beq a b
 | .nilFunc,.nilFunc=>true
 | .nilIface,.nilIface=>true
 | _,_=>false
noncomputable def scalsB:List Value→List Value→Bool
 | [],[]=>true
 | a::l,b::l'=>scalB a b && scalsB l l'
 | _,_=>false
noncomputable def sameB(v v':Value):Bool:=
 match v,v' with
 | .agg a,.agg b=>scalsB a.toList b.toList
 | .tuple a,.tuple b=>scalsB a.toList b.toList
 | .func (.func f) a b,.func (.func g) c d=>Nat.beq f g && (scalsB a.toList c.toList && scalsB b.toList d.toList)
 | a,b=>scalB a b
noncomputable def blkLt(n:Nat)(v:Value):Bool:=
 match v with
 | .pointer (some a)=>Nat.blt a.block n
 | .slice (some a) _ _=>Nat.blt a.block n
 | .map (some r)=>Nat.blt r n
 | _=>true
noncomputable def lookLt(n:Nat)(o:Op)(t:Fr):Bool:=
 match o with
 | .load _ x=>blkLt n (ev t x)
 | .lookup _ x _ _=>blkLt n (ev t x)
 | .slice _ x _ _ _=>blkLt n (ev t x)
 | .call ⟨_,args,_⟩=>match args.toList with
  | x::_=>blkLt n (ev t x)
  | []=>true
 | _=>false
noncomputable def lookOK(P:Program)(l:Look):Nat→List W→Bool
 | _,[]=>true
 | k,w::hs=>(cond (Nat.ble l.low (Nat.pred k) && Nat.ble (Nat.pred k) l.high) (lookLt w.n l.o l.t && (match vY l.o P l.t w.h with
  | some v=>sameB v l.v
  | none=>false)) true) && lookOK P l (Nat.pred k) hs
noncomputable def wT(P:Program)(k:Nat)(hs:List W):List Look→Bool
 | []=>true
 | l::ls=>lookOK P l k hs && wT P k hs ls
noncomputable def xdraw(P:Program)(lo:Lo)(cx:Cx)(all:Array Oper):List DOp→Fr→W→List W→List Look→KX→Bool
 | [],t,w,hs,ls,k=>k .normal t w && wT P hs.length hs ls
 | x :: r, t, w, hs, ls, k => match wanted all t x.o.guard with
  | false=>putT t x.o.dst undef fun t'=>xdraw P lo cx all r t' w (cond (Nat.beq x.kd 3) (w::hs) hs) ls k
  | true => match x.kd with
   | 0=>match vY x.o.op P t w.h with
    | some v=>putT t x.o.dst v fun t'=>xdraw P lo cx all r t' w hs ls k
    | none=>false
   | 1=>match vY x.o.op P t w.h with
    | some v=>putT t x.o.dst v fun t'=>xdraw P lo cx all r t' w hs (cond (Nat.beq x.low x.high) ls (⟨x.o.op,t,v,x.low,x.high⟩::ls)) k
    | none=>false
   | 2=>eff x.o.op P lo cx t w (fun w' v=>putT t x.o.dst v fun t'=>xdraw P lo cx all r t' w' hs ls k) fun _ _=>false
   | _=>eff x.o.op P lo cx t w (fun w' v=>cond (Nat.ble w.n w'.n) (putT t x.o.dst v fun t'=>xdraw P lo cx all r t' w' (w'::hs) ls k) false)
    fun c w'=>cond (x.solo && wT P hs.length hs ls) (k (.panic c) t w') false
noncomputable def xdrawn(P:Program)(lo:Lo)(cx:Cx)(ops:Array Oper)(t:Fr)(w:W)(k:KX):Bool:=
 match plan ops with
 | some l=>xdraw P lo cx ops l t w [w] [] k
 | none=>false
noncomputable def xrange(lo:Lo)(f:Operand)(params:Array Tmp)(assign body:Code)(cx:Cx)(t:Fr)(d:List Deferred)(u:Option yV)(h:zI)(n:Nat)(blk:Nat)(k:KX):Bool:=
 zQ h n (.loop { state:=.ready,pending:=none,fn:=cx.fn,tmps:= #[],params,assign,body,defers:=blk } t) fun h' n'=>
  xinvoke lo (ev t f) [.func (.yield n) #[] #[]] h' n'
   (fun _ h2 n2=>match zH h2 n with
    | .loop l t0 => match l.state with
     | .busy=>false
     | _=>h2.setK .dead (.loop { l with state:=.exhausted } t0) n fun h3=>match l.pending with
      | none=>k .normal t ⟨d,u,h3,n2⟩
      | some j=>lo.code j cx t ⟨d,u,h3,n2⟩ k
    | _=>false)
   (fun c h2 n2=>k (.panic c) t ⟨d,u,h2,n2⟩)
noncomputable def xcode(P:Program)(lo:Lo)(c:Code):Cx→Fr→W→KX→Bool:=
 Code.rec (motive:=fun _=>Program→Lo→Cx→Fr→W→KX→Bool)
  (fun _ _ _ t w k=>k .normal t w)
  (fun _ ops draw P lo cx t w k=>Bool.rec (xops P lo cx ops ops.toList t w k) (xdrawn P lo cx ops t w k) draw)
  (fun _ _ iha ihb P lo cx t w k=>iha P lo cx t w fun x t w=>AX.rec (ihb P lo cx t w k) (fun i=>k (.exit i) t w) (fun i=>k (.goto i) t w) (k .ret t w) (fun c=>k (.panic c) t w) x)
  (fun c _ _ ih1 ih2 P lo cx t w k=>onBool (ev t c) (fun b=>Bool.rec (ih2 P lo cx t w k) (ih1 P lo cx t w k) b) false)
  (fun id _ ih P lo cx t w k=>ih P lo cx t w fun x t w=>AX.rec (k .normal t w) (fun i=>Bool.rec (k (.exit i) t w) (k .normal t w) (Nat.beq i id)) (fun i=>k (.goto i) t w) (k .ret t w) (fun c=>k (.panic c) t w) x)
  (fun b ih P lo cx t w k=>ih P lo cx t w fun x t w=>AX.rec (lo.code (.loop b) cx t w k) (fun i=>k (.exit i) t w) (fun i=>k (.goto i) t w) (k .ret t w) (fun c=>k (.panic c) t w) x)
  (fun f params assign body _ _ _ lo cx t w k=>match cx.round,w with
   | none,⟨d,u,h,n⟩=>zQ h n (.deferred true) fun h' n'=>xrange lo f params assign body cx t ({ target:=.collected n,args:= #[] }::d) u h' n' n k
   | some l,⟨d,u,h,n⟩=>match zH h l with
    | .loop ll _=>xrange lo f params assign body cx t d u h n ll.defers k
    | _=>false)
  (fun id _ _ _ t w k=>k (.exit id) t w)
  (fun _ ih P lo cx t w k=>ih P lo cx t w fun x t w=>AX.rec (k .normal t w) (fun i=>k (.exit i) t w) (fun _=>false) (k .ret t w) (fun c=>k (.panic c) t w) x)
  (fun _ _ _ _ t w k=>k .normal t w)
  (fun l _ _ _ t w k=>k (.goto l) t w)
  (fun _ _ _ t w k=>k .ret t w)
  (fun _ _ _ _ _ _ _=>false)
  c P lo
noncomputable def ldV(P:Program)(h:zI)(ty:TypeId)(x:Value):Option Value:=
 onPtr x (fun b off=>onCells (zH h b) (fun c kn _ _=>
  Sh.rec none (Bool.rec none (uD (Tr.get undef c off) some) (Nat.blt off kn))
   (fun sz=>Bool.rec none (some (.agg ⟨c.toListFrom undef off sz⟩)) (Nat.ble (Nat.add off sz) kn)) (vI P ty)) none) none
noncomputable def xH(P:Program)(t:Fr)(h:zI):List ResultVar→Option (List Value)
 | []=>some []
 | .tmp i::r=>match xH P t h r with
  | some l=>some (fget t i::l)
  | none=>none
 | .cell x ty::r=>match ldV P h ty (fget t x),xH P t h r with
  | some v,some l=>some (v::l)
  | _,_=>none
def tupled:List Value→Value
 | [v]=>v
 | l=>.tuple ⟨l⟩
noncomputable def xleave(P:Program)(lo:Lo)(fn:Func)(mode:Option yV)(t:Fr)(w:W)(k:KO):Bool:=
 match w with
 | ⟨d, u0, h, n⟩ => match d with
  | [] => match mode with
   | none=>match xH P t h fn.results.toList with
    | some l=>uD (tupled l) fun v=>k (.ret v) u0 h n
    | none=>false
   | some c=>k (.panic c) u0 h n
  | ⟨.collected r,_⟩::ds=>match zH h r with
   | .deferred true=>h.setK .dead (.deferred false) r fun h=>lo.leave fn mode t ⟨ds,u0,h,n⟩ k
   | _=>false
  | ⟨.fn (.func g) cap, args⟩ :: ds => lo.call g (args.toList ++ cap.toList) true mode h n fun o u h n => match o with
   | .panic _=>false
   | .ret _=>match u with
    | some (⟨_,true,_⟩::older)=>cond (older.all fun e=> !e.goexit) (lo.leave fn none t ⟨ds,u0,h,n⟩ k) false
    | u=>lo.leave fn u t ⟨ds,u0,h,n⟩ k
  | _=>false
noncomputable def bodyOf(P:Program)(f:FuncId):Option (Func×Code):=
 match Tr.get none (fnT P) f with
 | some fn=>match fn.body with
  | some body=>some (fn,body)
  | none=>none
 | none=>none
noncomputable def args0(t:Fr)(i:Nat)(l:List Value)(k:Fr→Bool):Bool:=
 List.rec (motive:=fun _=>Fr→Nat→(Fr→Bool)→Bool) (fun t _ k=>k t)
  (fun v _ ih t i k=>uD v fun v=>fsetK t i v fun t=>ih t (Nat.succ i) k) l t i k
noncomputable def xcall(P:Program)(lo:Lo)(f:FuncId)(args:List Value)(df:Bool)(u:Option yV)(h:zI)(n:Nat)(k:KO):Bool:=
 Option.rec false (fun fb=>Prod.rec (fun fn body=>Bool.rec false (args0 fr0 0 args fun t=>
  lo.code body ⟨f,none,df⟩ t ⟨[],u,h,n⟩ fun x t w=>AX.rec (lo.leave fn none t w k) (fun _=>false) (fun _=>false) (lo.leave fn none t w k) (fun c=>lo.leave fn (some c) t w k) x) (Nat.ble args.length fn.ntmps)) fb) (bodyOf P f)
noncomputable def setParams(t:Fr):List Tmp→List Value→(Fr→Bool)→Bool
 | i::is,v::vs,k=>uD v fun v=>fsetK t i v fun t'=>setParams t' is vs k
 | [],[],k=>k t
 | _,_,_=>false
noncomputable def endRound(l:Nat)(j:Option Code)(h:zI)(n:Nat)(k:Out→zI→Nat→Bool):Bool:=
 match zH h l with
 | .loop l2 t2=>h.setK .dead (.loop { l2 with state:=(match j with|none=>.ready|some _=>.done),pending:=j } t2) l fun h2=>
  k (.ret (.bool (match j with|none=>true|some _=>false))) h2 n
 | _=>false
noncomputable def xround(lo:Lo)(l:Nat)(args:List Value)(h:zI)(n:Nat)(k:Out→zI→Nat→Bool):Bool:=
 match zH h l with
 | .loop ll t => setParams t ll.params.toList args fun t' =>
  lo.code ll.assign ⟨ll.fn,some l,false⟩ t' ⟨[],none,h,n⟩ fun x t w=>match x,w with
   | .normal, ⟨d, u, h, n⟩ => match zH h l with
    | .loop l1 t1 => match l1.state with
     | .ready => h.setK .dead (.loop { l1 with state := .busy } t1) l fun h1 =>
      lo.code ll.body ⟨ll.fn,some l,false⟩ t ⟨d,u,h1,n⟩ fun x _ w=>match w with
       | ⟨[],_,h,n⟩=>match x with
        | .normal=>endRound l none h n k
        | .ret=>endRound l (some .ret) h n k
        | .exit id=>endRound l (some (.exit id)) h n k
        | .goto id=>endRound l (some (.goto id)) h n k
        | .panic c=>k (.panic c) h n
       | _=>false
     | _=>false
    | _=>false
   | _,_=>false
 | _=>false
noncomputable def Lo.next(P:Program)(lo:Lo):Lo:=⟨xcode P lo,xcall P lo,xround lo,xleave P lo⟩
noncomputable def run(P:Program)(fuel:Nat):Lo:=Nat.rec Lo.bot (fun _ lo=>Lo.next P lo) fuel
open Go.RowKit (Below)
structure Bl where
 b:Nat
 n:Nat
 z:Nat
abbrev Inj:=Nat→Option Bl
inductive RV (ρ : Inj):Value→Value→Prop
 | bool (b:Bool):RV ρ (.bool b) (.bool b)
 | int (k:IntKind) (n:Int):RV ρ (.int k n) (.int k n)
 | float (k:FloatKind) (n:Nat):RV ρ (.float k n) (.float k n)
 | complex (k:FloatKind) (n m:Nat):RV ρ (.complex k n m) (.complex k n m)
 | string (s:ByteArray):RV ρ (.string s) (.string s)
 | nilPtr:RV ρ (.pointer none) (.pointer none)
 | ptr {b o:Nat} {B:Bl} (h: ρ b=some B):RV ρ (.pointer (some ⟨b,o,none⟩)) (.pointer (some ⟨B.b,o,none⟩))
 | nilSlice (l c:Nat) (h:c≠inf):RV ρ (.slice none l c) (.slice none l c)
 | slice {b o l c:Nat} {B:Bl} {o':Nat} (h: ρ b=some B) (hc:c≠inf) (hl:l≤c) (ho:o'=o∨c=0) :
  RV ρ (.slice (some ⟨b,o,none⟩) l c) (.slice (some ⟨B.b,o',none⟩) l c)
 | opened {b o l:Nat} {B:Bl} {o' c':Nat} (h: ρ b=some B) (hl:l≤c') (ho:(o'=o∧o+c'*B.z=B.n)∨(c'=0∧0<o)) :
  RV ρ (.slice (some ⟨b,o,none⟩) l inf) (.slice (some ⟨B.b,o',none⟩) l c')
 | nilMap:RV ρ (.map none) (.map none)
 | map {r:Nat} {B:Bl} (h: ρ r=some B):RV ρ (.map (some r)) (.map (some B.b))
 | func {fn:Fn} {f f' c c':Array Value} (hy:∀l,fn≠.yield l) (hf:f.toList.length=f'.toList.length) (hc:c.toList.length=c'.toList.length)
  (f1:∀(i:Nat) (v v':Value),f.toList[i]? = some v→f'.toList[i]? = some v'→RV ρ v v')
  (c1:∀(i:Nat) (v v':Value),c.toList[i]? = some v→c'.toList[i]? = some v'→RV ρ v v'):RV ρ (.func fn f c) (.func fn f' c')
 | yield {l:Nat} {B:Bl} (h: ρ l=some B):RV ρ (.func (.yield l) #[] #[]) (.func (.yield B.b) #[] #[])
 | nilFunc:RV ρ .nilFunc .nilFunc
 | iface {t:TypeId} {v v':Value} (h:RV ρ v v'):RV ρ (.iface t v) (.iface t v')
 | nilIface:RV ρ .nilIface .nilIface
 | agg {c c':Array Value} (hc:c.toList.length=c'.toList.length)
  (c1:∀(i:Nat) (v v':Value),c.toList[i]? = some v→c'.toList[i]? = some v'→RV ρ v v'):RV ρ (.agg c) (.agg c')
 | tuple {c c':Array Value} (hc:c.toList.length=c'.toList.length)
  (c1:∀(i:Nat) (v v':Value),c.toList[i]? = some v→c'.toList[i]? = some v'→RV ρ v v'):RV ρ (.tuple c) (.tuple c')
def RVs(ρ : Inj)(l l':List Value):Prop:=l.length=l'.length∧∀(i:Nat) (v v':Value),l[i]? = some v→l'[i]? = some v'→RV ρ v v'
def Inj.le(ρ ρ':Inj):Prop:=∀b B,ρ b=some B→ρ' b=some B
theorem Inj.le.refl(ρ : Inj): ρ.le ρ :=fun _ _ h=>h
theorem Inj.le.trans{a b c:Inj}(h:a.le b)(k:b.le c):a.le c:=fun _ _ e=>k _ _ (h _ _ e)
theorem RV.mono{ρ ρ':Inj}(h: ρ.le ρ'){v v':Value}(r:RV ρ v v'):RV ρ' v v':=by
 induction r with
 | bool b=>exact .bool b
 | int k n=>exact .int k n
 | float k n=>exact .float k n
 | complex k n m=>exact .complex k n m
 | string s=>exact .string s
 | nilPtr=>exact .nilPtr
 | ptr e=>exact .ptr (h _ _ e)
 | nilSlice l c e=>exact .nilSlice l c e
 | slice e hc hl ho=>exact .slice (h _ _ e) hc hl ho
 | opened e hl ho=>exact .opened (h _ _ e) hl ho
 | nilMap=>exact .nilMap
 | map e=>exact .map (h _ _ e)
 | func hy hf hc _ _ f2 c2=>exact .func hy hf hc f2 c2
 | yield e=>exact .yield (h _ _ e)
 | nilFunc=>exact .nilFunc
 | iface _ ih=>exact .iface ih
 | nilIface=>exact .nilIface
 | agg hc _ ih=>exact .agg hc ih
 | tuple hc _ ih=>exact .tuple hc ih
theorem RVs.mono{ρ ρ':Inj}(h: ρ.le ρ'){l l':List Value}(r:RVs ρ l l'):RVs ρ' l l':=⟨r.1,fun i v v' a b=>(r.2 i v v' a b).mono h⟩
theorem RVs.nil(ρ : Inj):RVs ρ [] []:=⟨rfl,fun _ _ _ h=>by simp at h⟩
theorem RVs.cons{ρ : Inj}{v v':Value}{l l':List Value}(h:RV ρ v v')(r:RVs ρ l l'):RVs ρ (v::l) (v'::l'):=
 ⟨by simp[r.1],fun i w w' a b=>by
  cases i with
  | zero=>simp at a b;subst a b;exact h
  | succ i=>simp at a b;exact r.2 i w w' a b⟩
theorem RVs.of_cons{ρ : Inj}{v:Value}{l l2:List Value}(r:RVs ρ (v::l) l2):∃v' l',l2=v'::l'∧RV ρ v v'∧RVs ρ l l':=by
 obtain⟨hl,h⟩:=r
 cases l2 with
 | nil=>simp at hl
 | cons v' l'=>exact⟨v',l',rfl,h 0 v v' rfl rfl,by simpa using hl,fun i w w' a b=>h (i+1) w w' (by simpa using a) (by simpa using b)⟩
theorem RVs.of_nil{ρ : Inj}{l2:List Value}(r:RVs ρ [] l2):l2=[]:=by
 have:=r.1;cases l2 <;> simp_all
theorem RVs.append{ρ : Inj}{a a' b b':List Value}(h:RVs ρ a a')(k:RVs ρ b b'):RVs ρ (a++b) (a'++b'):=by
 induction a generalizing a' with
 | nil=>obtain rfl:=h.of_nil;exact k
 | cons v l ih=>obtain⟨v',l',rfl,hv,hl⟩:=h.of_cons;exact RVs.cons hv (ih hl)
theorem RVs.map{ρ : Inj}{α : Type}(f g: α→Value):∀(l:List α),(∀x∈l,RV ρ (f x) (g x))→RVs ρ (l.map f) (l.map g)
 | [],_=>RVs.nil ρ
 | x::l,h=>RVs.cons (h x (by simp)) (RVs.map f g l fun y hy=>h y (by simp[hy]))
theorem RVs.at{ρ : Inj}{l l':List Value}(r:RVs ρ l l'){i:Nat}{v:Value}(h:l[i]? = some v):∃v',l'[i]? = some v'∧RV ρ v v':=by
 have hi:i<l.length:=by
  rcases Nat.lt_or_ge i l.length with h1|h1
  · exact h1
  · simp[List.getElem?_eq_none h1]at h
 have hi':i<l'.length:=r.1 ▸ hi;exact⟨l'[i],List.getElem?_eq_getElem hi',r.2 i v _ h (List.getElem?_eq_getElem hi')⟩
theorem RVs.take{ρ : Inj}{l l':List Value}(r:RVs ρ l l')(n:Nat):RVs ρ (l.take n) (l'.take n):=
 ⟨by simp[r.1],fun i v v' a b=>by
  rw[List.getElem?_take]at a b;split at a
  · rename_i h;rw [if_pos h]at b;exact r.2 i v v' a b
  · cases a⟩
theorem RVs.drop{ρ : Inj}{l l':List Value}(r:RVs ρ l l')(n:Nat):RVs ρ (l.drop n) (l'.drop n):=
 ⟨by simp[r.1],fun i v v' a b=>by
  rw[List.getElem?_drop]at a b;exact r.2 _ v v' a b⟩
theorem RVs.set{ρ : Inj}{l l':List Value}(r:RVs ρ l l')(i:Nat){v v':Value}(h:RV ρ v v'):RVs ρ (l.set i v) (l'.set i v'):=
 ⟨by simp[r.1],fun j w w' a b=>by
  rw[List.getElem?_set]at a b;by_cases e:i=j
  · subst e;simp only[if_true]at a b;split at a
    · rename_i h1;rw [if_pos (r.1 ▸ h1)]at b;cases a;cases b;exact h
    · cases a
  · simp only[e,if_false]at a b;exact r.2 j w w' a b⟩
noncomputable def xX(v:Value):Bool:=
 Value.rec (motive_1:=fun _=>Bool) (motive_2:=fun _=>Bool) (motive_3:=fun _=>Bool)
  (fun _=>true) (fun _ _=>true) (fun _ _=>true) (fun _ _ _=>true) (fun _=>true) (fun a=>Option.rec true (fun _=>false) a)
  (fun a _ c=>Option.rec (Bool.rec true false (Nat.beq c inf)) (fun _=>false) a) (fun r=>Option.rec true (fun _=>false) r) (fun _=>false)
  (fun _ _ _ _ _=>false) true (fun _ _ b=>b) true (fun _ b=>b) (fun _ b=>b)
  (fun _ b=>b) true (fun _ _ a b=>Bool.rec false b a) v
noncomputable def plainA(v:Array Value):Bool:=
 Value.rec_1 (motive_1:=fun _=>Bool) (motive_2:=fun _=>Bool) (motive_3:=fun _=>Bool)
  (fun _=>true) (fun _ _=>true) (fun _ _=>true) (fun _ _ _=>true) (fun _=>true) (fun a=>Option.rec true (fun _=>false) a)
  (fun a _ c=>Option.rec (Bool.rec true false (Nat.beq c inf)) (fun _=>false) a) (fun r=>Option.rec true (fun _=>false) r) (fun _=>false)
  (fun _ _ _ _ _=>false) true (fun _ _ b=>b) true (fun _ b=>b) (fun _ b=>b)
  (fun _ b=>b) true (fun _ _ a b=>Bool.rec false b a) v
noncomputable def plainL(v:List Value):Bool:=
 Value.rec_2 (motive_1:=fun _=>Bool) (motive_2:=fun _=>Bool) (motive_3:=fun _=>Bool)
  (fun _=>true) (fun _ _=>true) (fun _ _=>true) (fun _ _ _=>true) (fun _=>true) (fun a=>Option.rec true (fun _=>false) a)
  (fun a _ c=>Option.rec (Bool.rec true false (Nat.beq c inf)) (fun _=>false) a) (fun r=>Option.rec true (fun _=>false) r) (fun _=>false)
  (fun _ _ _ _ _=>false) true (fun _ _ b=>b) true (fun _ b=>b) (fun _ b=>b)
  (fun _ b=>b) true (fun _ _ a b=>Bool.rec false b a) v
theorem plain_all:∀v:Value,xX v=true→∀ρ,RV ρ v v:=by
 intro v
 refine Value.rec (motive_1:=fun v=>xX v=true→∀ρ,RV ρ v v)
  (motive_2:=fun a=>plainA a=true→∀ρ (i:Nat) (v:Value),a.toList[i]? = some v→RV ρ v v)
  (motive_3:=fun l=>plainL l=true→∀ρ (i:Nat) (v:Value),l[i]? = some v→RV ρ v v)
  ?_ ?_ ?_ ?_ ?_ ?_ ?_ ?_ ?_ ?_ ?_ ?_ ?_ ?_ ?_ ?_ ?_ ?_ v
 · intro b _ ρ;exact .bool b
 · intro k n _ ρ;exact .int k n
 · intro k n _ ρ;exact .float k n
 · intro k n m _ ρ;exact .complex k n m
 · intro s _ ρ;exact .string s
 · intro a h ρ;cases a with
   | none=>exact .nilPtr
   | some a=>cases h
 · intro a l c h ρ;cases a with
   | none=>
    refine .nilSlice l c fun e=>?_;subst e;have:(Bool.rec true false (Nat.beq inf inf):Bool)=true:=h;rw [show Nat.beq inf inf=true from Nat.beq_refl inf]at this;cases this
   | some a=>cases h
 · intro r h ρ;cases r with
   | none=>exact .nilMap
   | some a=>cases h
 · intro r h;cases h
 · intro fn f c _ _ h;cases h
 · intro _ ρ;exact .nilFunc
 · intro t v ih h ρ;exact .iface (ih h ρ)
 · intro _ ρ;exact .nilIface
 · intro c ih h ρ;exact .agg rfl fun i v v' a b=>by rw[a]at b;cases b;exact ih h ρ i v a
 · intro c ih h ρ;exact .tuple rfl fun i v v' a b=>by rw[a]at b;cases b;exact ih h ρ i v a
 · intro l ih h ρ i v e;exact ih h ρ i v e
 · intro _ ρ i v e;simp at e
 · intro x l ihx ihl h ρ i v e;have h':(Bool.rec false (plainL l) (xX x):Bool)=true:=h
   cases hx:xX x with
   | false=>rw [hx]at h';cases h'
   | true=>
    rw[hx]at h'
    cases i with
    | zero=>simp at e;subst e;exact ihx hx ρ
    | succ i=>exact ihl h' ρ i v (by simpa using e)
theorem RV.plain{v:Value}(h:xX v=true)(ρ : Inj):RV ρ v v:=plain_all v h ρ
theorem RV.undef(ρ : Inj):RV ρ undef undef:=RV.plain rfl ρ
theorem RV.of_bool{ρ : Inj}{b:Bool}{v:Value}(h:RV ρ (.bool b) v):v = .bool b:=by cases h;rfl
theorem RV.of_int{ρ : Inj}{k:IntKind}{n:Int}{v:Value}(h:RV ρ (.int k n) v):v = .int k n:=by cases h;rfl
theorem RV.of_string{ρ : Inj}{s:ByteArray}{v:Value}(h:RV ρ (.string s) v):v = .string s:=by cases h;rfl
theorem RV.of_ptr{ρ : Inj}{a:Addr}{v:Value}(h:RV ρ (.pointer (some a)) v):∃B,ρ a.block=some B∧a.spot=none∧v = .pointer (some ⟨B.b,a.off,none⟩):=by
 cases h with
 | ptr h=>exact⟨_,h,rfl,rfl⟩
theorem RV.of_map{ρ : Inj}{r:Nat}{v:Value}(h:RV ρ (.map (some r)) v):∃B,ρ r=some B∧v = .map (some B.b):=by
 cases h with
 | map h=>exact⟨_,h,rfl⟩
theorem RV.of_agg{ρ : Inj}{c:Array Value}{v:Value}(h:RV ρ (.agg c) v):∃c',v = .agg c'∧RVs ρ c.toList c'.toList:=by
 cases h with
 | agg h k=>exact⟨_,rfl,h,k⟩
theorem RV.of_tuple{ρ : Inj}{c:Array Value}{v:Value}(h:RV ρ (.tuple c) v):∃c',v = .tuple c'∧RVs ρ c.toList c'.toList:=by
 cases h with
 | tuple h k=>exact⟨_,rfl,h,k⟩
theorem RV.mk_agg{ρ : Inj}{c c':List Value}(h:RVs ρ c c'):RV ρ (.agg ⟨c⟩) (.agg ⟨c'⟩):=.agg h.1 h.2
theorem RV.mk_tuple{ρ : Inj}{c c':List Value}(h:RVs ρ c c'):RV ρ (.tuple ⟨c⟩) (.tuple ⟨c'⟩):=.tuple h.1 h.2
theorem RV.cells{ρ : Inj}{v v':Value}(h:RV ρ v v'):RVs ρ (cellsOf v) v'.cells.toList:=by
 cases h with
 | agg h k=>exact⟨h,k⟩
 | _=>exact RVs.cons (by first|assumption|constructor <;> assumption) (RVs.nil ρ)
noncomputable def opnOK(ng N:Nat)(x:Operand):Bool:=
 match x with
 | .tmp t=>Nat.blt t N
 | .const v=>xX v
 | .global g=>Nat.blt g ng
 | .func _=>true
noncomputable def vJ(ng N:Nat)(o:Oper):Bool:=
 (o.op.operands.toList.all fun x=>opnOK ng N x) && (match o.dst with
  | some d=>Nat.blt d N
  | none=>true)
noncomputable def zY(ng N:Nat):Code→Bool
 | .region _ ops _=>ops.toList.all fun o=>vJ ng N o
 | .seq a b=>zY ng N a && zY ng N b
 | .cond c a b=>opnOK ng N c && (zY ng N a && zY ng N b)
 | .block _ b=>zY ng N b
 | .loop b=>zY ng N b
 | .scope b=>zY ng N b
 | .rangeFunc f _ a b=>opnOK ng N f && (zY ng N a && zY ng N b)
 | _=>true
noncomputable def fnOK(ng:Nat)(fn:Func):Bool:=
 (match fn.body with
  | some b=>zY ng fn.ntmps b && fn.name != "runtime.NumGoroutine"
  | none=>true) &&
 (fn.results.toList.all fun
  | .tmp i=>Nat.blt i fn.ntmps
  | .cell i _=>Nat.blt i fn.ntmps)
noncomputable def zP(ng:Nat)(P:Program):Bool:=
 (P.funcs.toList.all fun fn=>fnOK ng fn) && (P.types.toList.all fun i=>match i.zero with
  | some z=>xX z
  | none=>true)
def ntm(P:Program)(f:FuncId):Nat:=((P.funcs[f]?).map (·.ntmps)).getD 0
section
variable (P:Program) (ng:Nat)
def EsR(ρ : Inj)(es es':List MapEntry):Prop:=
 es.length=es'.length∧∀(i:Nat) (e e':MapEntry),es[i]? = some e→es'[i]? = some e'→e'.key=e.key∧RV ρ e.val e'.val∧e'.born=e.born
structure TmR (ρ : Inj) (N:Nat) (t:Fr) (ts:Array Value):Prop where
 sz:ts.size=N
 tm:∀(i:Nat) (v:Value),ts[i]? = some v→RV ρ (fget t i) v
inductive ObjR (ρ : Inj) (base:Nat) (B:Bl):AObj→Obj→Prop
 | cells {c:Tr Value} {n z kd:Nat} {c':Array Value} {el:TypeId} {lo hi:Nat} (hn:n≤B.n) (hs:c'.size=B.n) (hk:kd≠1→n=B.n) (hz:(kd=1→z=zc el B.z)∧(kd=0→z≠0→z=el+1))
  (hv:∀(i:Nat) (v':Value),i<n→c'[i]? = some v'→RV ρ (Tr.get undef c i) v') (hb:kd≠2→base≤B.b)
  (hf:kd≠2→lo=0∧hi=0):ObjR ρ base B (.cells c n z kd) (.cells c' el (lo,hi))
 | map {es es':List MapEntry} {clock:Nat} (he:EsR ρ es es') (hb:base≤B.b):ObjR ρ base B (.map es clock) (.map ⟨es'⟩ clock)
 | siter0 {since last:Nat} {seen:List Nat} {s2 l2:Nat} {sn2:Array Nat} (hb:base≤B.b):ObjR ρ base B (.siter none since seen last) (.mapIter none s2 sn2 l2)
 | siter {m:Nat} {M:Bl} {since last:Nat} {seen:List Nat} (hm: ρ m=some M) (hb:base≤B.b):ObjR ρ base B (.siter (some m) since seen last) (.mapIter (some M.b) since ⟨seen⟩ last)
 | loop {l l':Loop} {t:Fr} (h1:l'.state=l.state) (h2:l'.pending=l.pending) (h3:l'.fn=l.fn) (h4:l'.params=l.params) (h5:l'.assign=l.assign) (h6:l'.body=l.body)
  (h7:∃D,ρ l.defers=some D∧l'.defers=D.b) (h8:TmR ρ (ntm P l.fn) t l'.tmps) (h9:zY ng (ntm P l.fn) l.assign=true) (h10:zY ng (ntm P l.fn) l.body=true)
  (h11:∀j,l.pending=some j→∀N,zY ng N j=true) (h12:∃fn,P.funcs[l.fn]? = some fn) (hb:base≤B.b):ObjR ρ base B (.loop l t) (.loop l')
 | ready (hb:base≤B.b):ObjR ρ base B (.deferred true) (.deferred (some []))
 | taken (hb:base≤B.b):ObjR ρ base B (.deferred false) (.deferred none)
theorem EsR.mono{ρ ρ':Inj}(h: ρ.le ρ'){es es':List MapEntry}(r:EsR ρ es es'):EsR ρ' es es':=
 ⟨r.1,fun i e e' a b=>let ⟨h1,h2,h3⟩:=r.2 i e e' a b;⟨h1,h2.mono h,h3⟩⟩
theorem TmR.le{ρ : Inj}{N:Nat}{t:Fr}{ts:Array Value}(r:TmR ρ N t ts):N≤ts.size:=Nat.le_of_eq r.sz.symm
theorem TmR.mono{ρ ρ':Inj}(h: ρ.le ρ'){N:Nat}{t:Fr}{ts:Array Value}(r:TmR ρ N t ts):TmR ρ' N t ts:=⟨r.sz,fun i v e=>(r.tm i v e).mono h⟩
variable {P ng}
theorem ObjR.mono{ρ ρ':Inj}(h: ρ.le ρ'){base:Nat}{B:Bl}{o:AObj}{o':Obj}(r:ObjR P ng ρ base B o o'):ObjR P ng ρ' base B o o':=by
 cases r with
 | cells hn hs hk hz hv hb hf=>exact .cells hn hs hk hz (fun i v' a b=>(hv i v' a b).mono h) hb hf
 | map he hb=>exact .map (he.mono h) hb
 | siter0 hb=>exact .siter0 hb
 | siter hm hb=>exact .siter (h _ _ hm) hb
 | loop h1 h2 h3 h4 h5 h6 h7 h8 h9 h10 h11 h12 hb=>
  obtain⟨D,e1,e2⟩:=h7;exact .loop h1 h2 h3 h4 h5 h6 ⟨D,h _ _ e1,e2⟩ (h8.mono h) h9 h10 h11 h12 hb
 | ready hb=>exact .ready hb
 | taken hb=>exact .taken hb
variable (P ng)
structure HeapR (ρ : Inj) (base:Nat) (w0:World) (h:zI) (n:Nat) (wd:World):Prop where
 dom:∀b,n≤b→ρ b=none
 obj:∀b B,ρ b=some B→zH h b≠.dead→∃o,wd.heap[B.b]? = some o∧ObjR P ng ρ base B (zH h b) o
 inj:∀a b A B,ρ a=some A→ρ b=some B→zH h a≠.dead→zH h b≠.dead→A.b=B.b→a=b
 below:Below base w0 wd
 size:base≤wd.heap.size
 glob:∀g,g<ng→∃B,ρ g=some B∧B.b=g
 ngn:ng≤n
structure Grow (ρ : Inj) (h:zI) (n:Nat) (wd:World) (ρ':Inj) (h':zI) (n':Nat) (wd':World):Prop where
 nn:n≤n'
 old:∀b,b<n→ρ' b = ρ b
 new:∀b B,n≤b→ρ' b=some B→wd.heap.size≤B.b∨∃a A,a<n∧ρ a=some A∧A.b=B.b∧zH h a≠.dead
 keep:∀c,c<wd.heap.size→(∀b B,ρ b=some B→zH h b≠.dead→B.b≠c)→wd'.heap[c]? = wd.heap[c]?
 size:wd.heap.size≤wd'.heap.size
 dead:∀b,b<n→zH h b = .dead→zH h' b = .dead
 tape:wd'.tape=wd.tape
theorem Grow.refl(ρ : Inj)(h:zI)(n:Nat)(wd:World)(hd:∀b,n≤b→ρ b=none):Grow ρ h n wd ρ h n wd:=
 ⟨Nat.le_refl _,fun _ _=>rfl,fun b B hb e=>(by rw[hd b hb]at e;cases e),fun _ _ _=>rfl,Nat.le_refl _,fun _ _ e=>e,rfl⟩
theorem Grow.trans{ρ ρ1 ρ2:Inj}{h h1 h2:zI}{n n1 n2:Nat}{w w1 w2:World}(a:Grow ρ h n w ρ1 h1 n1 w1)(b:Grow ρ1 h1 n1 w1 ρ2 h2 n2 w2) :
 Grow ρ h n w ρ2 h2 n2 w2 where
 nn:=Nat.le_trans a.nn b.nn
 old x hx:=(b.old x (Nat.lt_of_lt_of_le hx a.nn)).trans (a.old x hx)
 new x X hx e:=by
  rcases Nat.lt_or_ge x n1 with h1'|h1'
  · rw[b.old x h1']at e;exact a.new x X hx e
  · rcases b.new x X h1' e with h2'|⟨y,Y,hy,ey,eb,hl⟩
    · exact .inl (Nat.le_trans a.size h2')
    · rcases Nat.lt_or_ge y n with h3|h3
      · refine .inr ⟨y,Y,h3,by rw[← a.old y h3];exact ey,eb,fun hd=>hl (a.dead y h3 hd)⟩
      · rcases a.new y Y h3 ey with h4|⟨z,Z,hz,ez,ezb,hlz⟩
        · exact .inl (eb ▸ h4)
        · exact .inr ⟨z,Z,hz,ez,ezb.trans eb,hlz⟩
 keep c hc hn:=by
  rw[b.keep c (Nat.lt_of_lt_of_le hc a.size) ?_,a.keep c hc hn];intro y Y ey hl eb;rcases Nat.lt_or_ge y n with h3|h3
  · exact hn y Y (by rw[← a.old y h3];exact ey) (fun hd=>hl (a.dead y h3 hd)) eb
  · rcases a.new y Y h3 ey with h4|⟨z,Z,hz,ez,ezb,hlz⟩
    · omega
    · exact hn z Z ez hlz (ezb.trans eb)
 size:=Nat.le_trans a.size b.size
 dead x hx e:=b.dead x (Nat.lt_of_lt_of_le hx a.nn) (a.dead x hx e)
 tape:=b.tape.trans a.tape
theorem Grow.le{ρ ρ':Inj}{h h':zI}{n n':Nat}{w w':World}(g:Grow ρ h n w ρ' h' n' w')(hd:∀b,n≤b→ρ b=none): ρ.le ρ':=by
 intro b B e;rcases Nat.lt_or_ge b n with h1|h1
 · rw[g.old b h1];exact e
 · rw[hd b h1]at e;cases e
def Inj.put(ρ : Inj)(n:Nat)(B:Bl):Inj:=fun b=>if b=n then some B else ρ b
theorem Inj.le_put{ρ : Inj}{n:Nat}(B:Bl)(h: ρ n=none): ρ.le (ρ.put n B):=by
 intro b C e;by_cases hb:b=n
 · subst hb;rw [h]at e;cases e
 · simp[Inj.put,hb,e]
theorem zJ(h:zI)(o:AObj)(i j:Nat):zH (h.set .dead o i) j=if i=j then o else zH h j:=Tr.get_set_if _ _ _ _ _
variable {P ng}
theorem HeapR.alloc{ρ : Inj}{base:Nat}{w0:World}{h:zI}{n:Nat}{wd:World}(r:HeapR P ng ρ base w0 h n wd)(o:AObj)(o':Obj)(B:Bl)(hB:B.b=wd.heap.size)
(hr:ObjR P ng (ρ.put n B) base B o o') :
 HeapR P ng (ρ.put n B) base w0 (h.set .dead o n) (n+1) { wd with heap:=wd.heap.push o' }∧
  Grow ρ h n wd (ρ.put n B) (h.set .dead o n) (n+1) { wd with heap:=wd.heap.push o' }:=by
 have hn: ρ n=none:=r.dom n (Nat.le_refl _);have hle:=Inj.le_put B hn;refine⟨⟨?_,?_,?_,?_,?_,?_,?_⟩,⟨by omega,?_,?_,?_,?_,?_,rfl⟩⟩
 · intro b hb;have:b≠n:=by omega
   simp[Inj.put,this];exact r.dom b (by omega)
 · intro b C e hl;by_cases hb:b=n
   · subst hb;simp [Inj.put]at e;subst e;refine⟨o',by simp[hB],?_⟩;rw [zJ];simpa using hr
   · have e': ρ b=some C:=by simpa [Inj.put,hb] using e
     rw[zJ,if_neg (fun x=>hb x.symm)]at hl ⊢;obtain⟨ob,h1,h2⟩:=r.obj b C e' hl;refine⟨ob,?_,h2.mono hle⟩
     have hlt:C.b<wd.heap.size:=by
      rcases Nat.lt_or_ge C.b wd.heap.size with h3|h3
      · exact h3
      · rw[Array.getElem?_eq_none h3]at h1;cases h1
     show(wd.heap.push o')[C.b]? = _;rw [Array.getElem?_push,if_neg (by omega)];exact h1
 · intro a b A C ea eb ha hb hab
   have lt:∀x X,x≠n→(ρ.put n B) x=some X→zH (h.set .dead o n) x≠.dead→X.b<wd.heap.size:=by
    intro x X hx ex hlx;have ex': ρ x=some X:=by simpa [Inj.put,hx] using ex
    rw[zJ,if_neg (fun y=>hx y.symm)]at hlx;obtain⟨ob,h1,_⟩:=r.obj x X ex' hlx;rcases Nat.lt_or_ge X.b wd.heap.size with h3|h3
    · exact h3
    · rw[Array.getElem?_eq_none h3]at h1;cases h1
   by_cases h1:a=n
   · by_cases h2:b=n
     · rw[h1,h2]
     · have:=lt b C h2 eb hb;subst h1;simp [Inj.put]at ea;subst ea;omega
   · by_cases h2:b=n
     · have:=lt a A h1 ea ha;subst h2;simp [Inj.put]at eb;subst eb;omega
     · rw[zJ,if_neg (fun y=>h1 y.symm)]at ha;rw [zJ,if_neg (fun y=>h2 y.symm)]at hb;exact r.inj a b A C (by simpa [Inj.put,h1] using ea) (by simpa [Inj.put,h2] using eb) ha hb hab
 · exact r.below.trans ⟨rfl,rfl,rfl,by simp,fun k hk=>by
    have:=r.size;show(wd.heap.push o')[k]? = _;rw [Array.getElem?_push,if_neg (by omega)]⟩
 · have:=r.size;simp;omega
 · intro g hg;obtain⟨G,e1,e2⟩:=r.glob g hg;exact⟨G,hle _ _ e1,e2⟩
 · have:=r.ngn;omega
 · intro b hb;have:b≠n:=by omega
   simp[Inj.put,this]
 · intro b C hb e;by_cases h1:b=n
   · subst h1;simp [Inj.put]at e;subst e;exact .inl (by omega)
   · have e': ρ b=some C:=by simpa [Inj.put,h1] using e
     rw[r.dom b (by omega)]at e';cases e'
 · intro c hc _;show(wd.heap.push o')[c]? = _;rw [Array.getElem?_push,if_neg (by omega)]
 · simp
 · intro b hb e;rw [zJ,if_neg (by omega)];exact e
theorem HeapR.turn{ρ : Inj}{base:Nat}{w0:World}{h:zI}{n:Nat}{wd:World}(r:HeapR P ng ρ base w0 h n wd){b:Nat}{B:Bl}(hb: ρ b=some B)(hl:zH h b≠.dead)
(o:AObj)(o':Obj)(wd':World)(hbase:base≤B.b)(hr:ObjR P ng ρ base B o o')(hw:wd'.heap[B.b]? = some o')(hsz:wd'.heap.size=wd.heap.size)
(hk:∀c,c≠B.b→wd'.heap[c]? = wd.heap[c]?)(h1:wd'.os=wd.os)(h2:wd'.tape=wd.tape)(h3:wd'.output=wd.output) :
 HeapR P ng ρ base w0 (h.set .dead o b) n wd'∧Grow ρ h n wd ρ (h.set .dead o b) n wd':=by
 refine⟨⟨r.dom,?_,?_,?_,by rw[hsz];exact r.size,r.glob,r.ngn⟩,⟨Nat.le_refl _,fun _ _=>rfl,?_,?_,by omega,?_,h2⟩⟩
 · intro x X e hlx;rw [zJ]at hlx ⊢;by_cases hx:b=x
   · subst hx;rw [hb]at e;cases e;simp only[if_true];exact⟨o',hw,hr⟩
   · rw[if_neg hx]at hlx ⊢;obtain⟨ob,e1,e2⟩:=r.obj x X e hlx;refine⟨ob,?_,e2⟩;rw [hk _ (fun e3=>hx (r.inj b x B X hb e hl hlx e3.symm)),e1]
 · intro x y X Y ex ey hx hy hxy;rw [zJ]at hx hy;have lx:zH h x≠.dead:=by by_cases e:b=x;(· subst e;exact hl);(· rwa [if_neg e]at hx)
   have ly:zH h y≠.dead:=by by_cases e:b=y;(· subst e;exact hl);(· rwa [if_neg e]at hy)
   exact r.inj x y X Y ex ey lx ly hxy
 · exact r.below.trans ⟨h1,h2,h3,by omega,fun k hk'=>hk k (by omega)⟩
 · intro x X hx e;rw [r.dom x hx]at e;cases e
 · intro c _ hn;exact hk c fun e=>hn b B hb hl e.symm
 · intro x hx e;rw [zJ];by_cases h4:b=x
   · subst h4;exact absurd e hl
   · rw[if_neg h4];exact e
theorem HeapR.lt{ρ : Inj}{base:Nat}{w0:World}{h:zI}{n:Nat}{wd:World}(r:HeapR P ng ρ base w0 h n wd){b:Nat}{B:Bl}(hb: ρ b=some B)(hl:zH h b≠.dead):B.b<wd.heap.size:=by
 obtain⟨o,e,_⟩:=r.obj b B hb hl;rcases Nat.lt_or_ge B.b wd.heap.size with h3|h3
 · exact h3
 · rw[Array.getElem?_eq_none h3]at e;cases e
end
theorem zR{a b:Nat}(h:Nat.blt a b=true):a<b:=by rw[Nat.blt_eq]at h;exact h
theorem wF{a b:Nat}(h:Nat.ble a b=true):a≤b:=Nat.le_of_ble_eq_true h
theorem zG{a b:Nat}(h:Nat.beq a b=true):a=b:=Nat.eq_of_beq_eq_true h
theorem get_tabFrom{α : Type}:∀(l:List α) (t:Tr (Option α)) (i j:Nat),Tr.get none (tabFrom t i l) j=if i≤j∧j<i+l.length then l[j - i]? else Tr.get none t j:=by
 intro l
 induction l with
 | nil=>intro t i j;simp [tabFrom];omega
 | cons v l ih=>
  intro t i j;simp only[tabFrom,ih,Tr.get_set_if,List.length_cons];by_cases h1:i=j
  · subst h1;have h2:¬(i+1≤i∧i<i+1+l.length):=by omega
    have h3:i≤i∧i<i+(l.length+1):=by omega
    rw[if_neg h2,if_pos h3];simp
  · by_cases h2:i+1≤j∧j<i+1+l.length
    · have h3:i≤j∧j<i+(l.length+1):=by omega
      rw[if_pos h2,if_pos h3];have:j - i=(j - (i+1))+1:=by omega
      rw[this];rfl
    · have h3:¬(i≤j∧j<i+(l.length+1)):=by omega
      simp[h2,h3,h1]
theorem tab_some{α : Type}{l:List α}{j:Nat}{x: α}(h:Tr.get none (tabFrom .lF 0 l) j=some x):l[j]? = some x:=by
 rw[get_tabFrom]at h;split at h
 · simpa using h
 · rw[Tr.get_leaf]at h;cases h
theorem zX{P:Program}{t:TypeId}{i:TypeInfo}(h:inf? P t=some i):P.types[t]? = some i∧P.info? t=some i:=by
 have h1:P.types.toList[t]? = some i:=tab_some h;have h2:P.types[t]? = some i:=by simpa using h1
 refine⟨h2,?_⟩
 have hlt:t<P.types.size:=by
  rcases Nat.lt_or_ge t P.types.size with h3|h3
  · exact h3
  · rw[Array.getElem?_eq_none h3]at h2;cases h2
 unfold Tables.info?;rw [if_pos hlt];exact h2
theorem yP{P:Program}{t:TypeId}{d:TypeDesc}(h:und P t=some d):P.underlying t=some d:=by
 unfold und at h;unfold Program.underlying
 cases hi:inf? P t with
 | none=>rw [hi]at h;cases h
 | some i =>
  rw[hi]at h;rw [(zX hi).2];obtain⟨desc,st,sz,by_,hp,al,fa,zr,co,me⟩:=i
  cases desc with
  | named nm u=>
   simp only at h ⊢
   cases hj:inf? P u with
   | none=>rw [hj]at h;cases h
   | some j=>rw [hj]at h;rw [(zX hj).2];exact h
  | _=>exact h
theorem zero_some{P:Program}{t:TypeId}{z:Value}(h:yO P t=some z):∃i,P.info? t=some i∧P.types[t]? = some i∧i.zero=some z:=by
 unfold yO at h
 cases hi:inf? P t with
 | none=>rw [hi]at h;cases h
 | some i=>rw [hi]at h;exact⟨i,(zX hi).2,(zX hi).1,h⟩
theorem runTI{P:Program}{t:TypeId}{i:TypeInfo}(h:P.info? t=some i)(w:World):(typeInfo t).run P w = .ok i w:=by
 simp[typeInfo,h]
theorem yZ{P:Program}{t:TypeId}{z:Value}(h:yO P t=some z)(w:World):(zeroValue t).run P w = .ok z w:=by
 obtain⟨i,h1,_,h3⟩:=zero_some h;simp [zeroValue,runTI h1,h3]
theorem xN{P:Program}{ng:Nat}(hP:zP ng P=true){t:TypeId}{z:Value}(h:yO P t=some z):xX z=true:=by
 obtain⟨i,_,h2,h3⟩:=zero_some h;unfold zP at hP;have h4:=(Bool.and_eq_true_iff.1 hP).2
 have h5:=List.all_eq_true.1 h4 i (by
  have:P.types.toList[t]? = some i:=by simpa using h2
  exact List.mem_of_getElem? this)
 rw[h3]at h5;exact h5
theorem zV{P:Program}{t:TypeId}{i:TypeInfo}(h:inf? P t=some i)(w:World):(sizeOf t).run P w = .ok i.size w:=by
 simp[sizeOf,runTI (zX h).2]
theorem zF{P:Program}{t:TypeId}{d:TypeDesc}(h:und P t=some d)(w:World):(underlying t).run P w = .ok d w:=run_underlying (yP h) w
theorem run_agg?{P:Program}{t:TypeId}{d:TypeDesc}(h:und P t=some d)(w:World):(isAgg t).run P w = .ok (aggT d) w:=by
 simp only[isAgg,Sem.run_bind,zF h,Result.andThen_ok];cases d <;> rfl
theorem onInt_some{R:Type}{v:Value}{f:IntKind→Int→R}{d r:R}(h:onInt v f d=r):(∃k n,v = .int k n∧f k n=r)∨d=r:=by
 cases v with
 | int k n=>exact .inl ⟨k,n,rfl,h⟩
 | _=>exact .inr h
theorem onBool_some{R:Type}{v:Value}{f:Bool→R}{d r:R}(h:onBool v f d=r):(∃b,v = .bool b∧f b=r)∨d=r:=by
 cases v with
 | bool b=>exact .inl ⟨b,rfl,h⟩
 | _=>exact .inr h
theorem uF{R:Type}{v:Value}{f:Nat→Nat→R}{d r:R}(h:onPtr v f d=r):(∃b o,v = .pointer (some ⟨b,o,none⟩)∧f b o=r)∨d=r:=by
 cases v with
 | pointer a =>
  cases a with
  | none=>exact .inr h
  | some a=>
   obtain⟨b,o,s⟩:=a
   cases s with
   | none=>exact .inl ⟨b,o,rfl,h⟩
   | some s=>exact .inr h
 | _=>exact .inr h
theorem onSlice_some{R:Type}{v:Value}{f:Nat→Nat→Nat→Nat→R}{d r:R}(h:onSlice v f d=r):(∃b o l c,v = .slice (some ⟨b,o,none⟩) l c∧f b o l c=r)∨d=r:=by
 cases v with
 | slice a l c =>
  cases a with
  | none=>exact .inr h
  | some a=>
   obtain⟨b,o,s⟩:=a
   cases s with
   | none=>exact .inl ⟨b,o,l,c,rfl,h⟩
   | some s=>exact .inr h
 | _=>exact .inr h
theorem onCells_some{R:Type}{o:AObj}{f:Tr Value→Nat→Nat→Nat→R}{d r:R}(h:onCells o f d=r):(∃c n z kd,o = .cells c n z kd∧f c n z kd=r)∨d=r:=by
 cases o with
 | cells c n z kd=>exact .inl ⟨c,n,z,kd,rfl,h⟩
 | _=>exact .inr h
theorem wZ{R:Type}(v:Value)(k:Value→R):uD v k=k v:=by cases v <;> rfl
theorem forceOne_true{v:Value}{k:Value→Bool}(h:forceOne v k=true):v.oneCell'=true∧k v=true:=by
 cases v <;> first|exact⟨rfl,h⟩|cases h
theorem RV.one{ρ : Inj}{v v':Value}(h:RV ρ v v')(h1:v.oneCell'=true):v'.oneCell'=true:=by
 cases h <;> first|rfl|cases h1
section
variable {P:Program} {ng:Nat} {ρ : Inj} {base:Nat} {w0:World} {hp:zI} {n:Nat} {wd:World} {N:Nat} {t:Fr} {a:Act}
theorem ev_rv(hH:HeapR P ng ρ base w0 hp n wd)(hT:TmR ρ N t a.tmps){x:Operand}(hx:opnOK ng N x=true):RV ρ (ev t x) (a.eval x):=by
 cases x with
 | tmp i=>
  have hi:i<N:=zR hx;have hlt:i<a.tmps.size:=Nat.lt_of_lt_of_le hi hT.le;have h:=hT.tm i a.tmps[i] (Array.getElem?_eq_getElem hlt);show RV ρ (fget t i) (a.tmps.getD i undef);rw [Array.getD,dif_pos hlt];exact h
 | const v=>exact RV.plain hx ρ
 | global g=>
  obtain⟨B,e1,e2⟩:=hH.glob g (zR hx);have:=RV.ptr (o:=0) e1;rw [e2]at this;exact this
 | func f=>exact .func (by intro l;exact Fn.noConfusion) rfl rfl (by intro i v v' e;simp at e) (by intro i v v' e;simp at e)
theorem cell_at(hH:HeapR P ng ρ base w0 hp n wd){b:Nat}{B:Bl}(hb: ρ b=some B){c:Tr Value}{m z kd:Nat}(hg:zH hp b = .cells c m z kd){i:Nat}(hi:i<m) :
 ∃v',wd.cell? ⟨B.b,i,none⟩=some v'∧RV ρ (Tr.get undef c i) v':=by
 obtain⟨o,e1,e2⟩:=hH.obj b B hb (by rw[hg];exact AObj.noConfusion);rw [hg]at e2
 cases e2 with
 | cells hn hs hk hz hv hb' hf=>
  rename_i c' el lo hi';have hlt:i<c'.size:=by omega
  refine⟨c'[i],?_,hv i c'[i] hi (Array.getElem?_eq_getElem hlt)⟩;simp [World.cell?,e1,hlt]
theorem cells_at(hH:HeapR P ng ρ base w0 hp n wd){b:Nat}{B:Bl}(hb: ρ b=some B){c:Tr Value}{m z kd:Nat}(hg:zH hp b = .cells c m z kd){off k:Nat}(hi:off+k≤m) :
 ∃l',RVs ρ (c.toListFrom undef off k) l'∧l'.length=k∧∀(j:Nat) (v:Value),l'[j]? = some v→wd.cell? ⟨B.b,off+j,none⟩=some v:=by
 induction k generalizing off with
 | zero=>exact⟨[],RVs.nil ρ,rfl,fun j v e=>by simp at e⟩
 | succ k ih =>
  obtain⟨v',e1,e2⟩:=cell_at hH hb hg (i:=off) (by omega);obtain⟨l',r1,r2,r3⟩:=ih (off:=off+1) (by omega);refine⟨v'::l',RVs.cons e2 r1,by simp[r2],fun j v e=>?_⟩
  cases j with
  | zero=>simp at e;subst e;simpa using e1
  | succ j=>
   have:=r3 j v (by simpa using e);rw [← this];congr 2
   omega
theorem run_loadRow(hH:HeapR P ng ρ base w0 hp n wd){b:Nat}{B:Bl}(hb: ρ b=some B){c:Tr Value}{m z kd:Nat}(hg:zH hp b = .cells c m z kd){off k:Nat}(hi:off+k≤m) :
 ∃l',RVs ρ (c.toListFrom undef off k) l'∧(loadCells ⟨B.b,off,none⟩ k).run P wd = .ok ⟨l'⟩ wd:=by
 obtain⟨l',r1,r2,r3⟩:=cells_at hH hb hg hi;refine⟨l',r1,?_⟩
 have:=run_loadCells_list (P:=P) (w:=wd) ⟨B.b,off,none⟩ l' fun j v e=>by
  have h:=r3 j v e;unfold Addr.add;split
  · rename_i h0;subst h0;simpa using h
  · exact h
 rw[r2]at this;exact this
theorem shape_scal{ty:TypeId}(h:vI P ty = .scal):∃d i,und P ty=some d∧aggT d=false∧inf? P ty=some i∧i.size=1:=by
 unfold vI at h
 cases h1:und P ty with
 | none=>rw [h1]at h;cases h
 | some d =>
  cases h2:inf? P ty with
  | none=>rw [h1,h2]at h;cases h
  | some i =>
   rw[h1,h2]at h;dsimp only at h
   cases h3:aggT d with
   | true=>rw [h3]at h;cases h
   | false=>
    rw[h3]at h;dsimp only[cond]at h
    cases h4:Nat.beq i.size 1 with
    | false=>rw [h4]at h;cases h
    | true=>exact⟨d,i,rfl,h3,rfl,zG h4⟩
theorem shape_agg{ty:TypeId}{k:Nat}(h:vI P ty = .agg k):∃d i,und P ty=some d∧aggT d=true∧inf? P ty=some i∧i.size=k:=by
 unfold vI at h
 cases h1:und P ty with
 | none=>rw [h1]at h;cases h
 | some d =>
  cases h2:inf? P ty with
  | none=>rw [h1,h2]at h;cases h
  | some i =>
   rw[h1,h2]at h
   cases h3:aggT d with
   | false=>
    simp only[h3,cond]at h;cases h4:Nat.beq i.size 1 <;> rw[h4]at h <;> cases h
   | true=>
    simp only[h3,cond]at h;injection h with h
    exact⟨d,i,rfl,h3,rfl,h⟩
theorem load_ok(hH:HeapR P ng ρ base w0 hp n wd){ty:TypeId}{x x':Value}(hx:RV ρ x x'){v:Value}
(h:onPtr x (fun b off=>onCells (zH hp b) (fun c kn _ _=>
  Sh.rec none (Bool.rec none (uD (Tr.get undef c off) some) (Nat.blt off kn))
   (fun sz=>Bool.rec none (some (.agg ⟨c.toListFrom undef off sz⟩)) (Nat.ble (Nat.add off sz) kn)) (vI P ty)) none) none=some v) :
 ∃v',(Instr.loadAt ty x').run P wd = .ok v' wd∧RV ρ v v':=by
 rcases uF h with⟨b,off,rfl,h⟩|h
 case inr=>cases h
 rcases onCells_some h with⟨c,kn,z,kd,hg,h⟩|h
 case inr=>cases h
 obtain⟨B,hb,_,rfl⟩:=hx.of_ptr;have hb': ρ b=some B:=hb
 cases hs:vI P ty with
 | bad=>rw [hs]at h;cases h
 | scal =>
  rw[hs]at h;dsimp only at h;obtain⟨d,_,hd,ha,_⟩:=shape_scal hs
  cases hlt:Nat.blt off kn with
  | false=>rw [hlt]at h;cases h
  | true=>
   rw[hlt]at h;simp only[wZ]at h;injection h with h
   subst h;obtain⟨v',e1,e2⟩:=cell_at hH hb' hg (zR hlt);refine⟨v',?_,e2⟩;simp [Instr.loadAt,Instr.sureAddr,loadVar,run_agg? hd,ha,e1]
 | agg sz =>
  rw[hs]at h;dsimp only at h;obtain⟨d,i,hd,ha,hi,hsz⟩:=shape_agg hs
  cases hle:Nat.ble (Nat.add off sz) kn with
  | false=>rw [hle]at h;cases h
  | true=>
   rw[hle]at h;injection h with h
   subst h;obtain⟨l',r1,r2⟩:=run_loadRow hH hb' hg (off:=off) (k:=sz) (wF hle);refine⟨.agg ⟨l'⟩,?_,RV.mk_agg r1⟩;simp [Instr.loadAt,Instr.sureAddr,loadVar,run_agg? hd,ha,zV hi,hsz,r2]
end
theorem add_eq(b o n:Nat):(⟨b,o,none⟩:Addr).add n=⟨b,o+n,none⟩:=by
 unfold Addr.add;by_cases h:n=0
 · subst h;rfl
 · rw[if_neg h]
theorem takeFrom_eq:∀(i n:Nat) (l:List Value),xV i n l=(l.drop i).take n:=by
 intro i
 induction i with
 | zero =>
  intro n
  induction n with
  | zero=>intro l;simp [xV]
  | succ n ih =>
   intro l
   cases l with
   | nil=>simp [xV]
   | cons v r=>
    have:=ih r;simp only[List.drop_zero]at this ⊢;show v::xV 0 n r=_;rw [this];rfl
 | succ i ih =>
  intro n l
  cases n with
  | zero=>simp [xV]
  | succ n =>
   cases l with
   | nil=>simp [xV]
   | cons v r=>
    show xV i (n+1) r=_;rw [ih (n+1) r];rfl
theorem extract_toList(c:Array Value)(i n:Nat):(c.extract i (i+n)).toList=(c.toList.drop i).take n:=by
 simp[Array.toList_extract]
section
variable {P:Program} {ng:Nat} {ρ : Inj} {base:Nat} {w0:World} {hp:zI} {n:Nat} {wd:World}
theorem part_ok{t:TypeId}{cs cs':List Value}{off:Nat}{v:Value}(hc:RVs ρ cs cs')(h:aPart P t cs off=some v) :
 ∃v',(part t ⟨cs'⟩ off).run P wd = .ok v' wd∧RV ρ v v':=by
 unfold aPart at h
 cases hd:und P t with
 | none=>rw [hd]at h;cases h
 | some d =>
  cases hi:inf? P t with
  | none=>rw [hd,hi]at h;cases h
  | some i =>
   rw[hd,hi]at h;dsimp only at h
   cases ha:aggT d with
   | true =>
    rw[ha]at h;dsimp only[cond]at h
    cases hb:Nat.ble (Nat.add off i.size) cs.length with
    | false=>rw [hb]at h;cases h
    | true=>
     rw[hb]at h;dsimp only[cond]at h;injection h with h
     subst h;refine⟨.agg ((⟨cs'⟩:Array Value).extract off (off+i.size)),?_,?_⟩
     · simp[part,run_agg? hd,ha,zV hi]
     · have:RVs ρ (xV off i.size cs) ((⟨cs'⟩:Array Value).extract off (off+i.size)).toList:=by
        rw[extract_toList,takeFrom_eq];exact(hc.drop off).take i.size
       exact .agg this.1 this.2
   | false=>
    rw[ha]at h;dsimp only[cond]at h;obtain⟨v',e1,e2⟩:=hc.at h;refine⟨v',?_,e2⟩;simp [part,run_agg? hd,ha,e1]
theorem off_some{t:TypeId}{f o:Nat}(h:offOf P t f=some o):∃fs fd i,und P t=some (.struct fs)∧fs[f]? = some fd∧inf? P fd.type=some i∧i.size≠0∧fd.offset=o:=by
 unfold offOf at h
 cases hd:und P t with
 | none=>rw [hd]at h;cases h
 | some d =>
  rw[hd]at h
  cases d with
  | struct fs =>
   dsimp only at h
   cases hf:fs[f]? with
   | none=>rw [hf]at h;cases h
   | some fd =>
    rw[hf]at h;dsimp only at h
    cases hi:inf? P fd.type with
    | none=>rw [hi]at h;cases h
    | some i =>
     rw[hi]at h;dsimp only at h
     cases hz:Nat.beq i.size 0 with
     | true=>rw [hz]at h;cases h
     | false=>
      rw[hz]at h;dsimp only[cond]at h;injection h with h
      exact⟨fs,fd,i,rfl,hf,hi,fun e=>(by rw[e]at hz;cases hz),h⟩
  | _=>cases h
theorem fieldAddr_ok{t:TypeId}{f o b':Nat}{off:Nat}(h:offOf P t f=some o) :
 (Instr.fieldAt t (.pointer (some ⟨b',off,none⟩)) f).run P wd = .ok (.pointer (some ⟨b',off+o,none⟩)) wd:=by
 obtain⟨fs,fd,i,hd,hf,hi,hz,rfl⟩:=off_some h;simp [Instr.fieldAt,zF hd,hf,Instr.sureAddr,fieldPlace,zV hi,hz,add_eq]
theorem ix_slice{t:TypeId}{sz:Nat}(h:ixOf P t = .slice sz):∃e i,und P t=some (.slice e)∧inf? P e=some i∧i.size=sz:=by
 unfold ixOf at h
 cases hd:und P t with
 | none=>rw [hd]at h;cases h
 | some d =>
  rw[hd]at h
  cases d with
  | slice e=>
   dsimp only at h
   cases hi:inf? P e with
   | none=>rw [hi]at h;cases h
   | some i=>rw [hi]at h;dsimp only at h;injection h with h;exact⟨e,i,rfl,hi,h⟩
  | array len e=>
   dsimp only at h
   cases hi:inf? P e with
   | none=>rw [hi]at h;cases h
   | some i=>rw [hi]at h;cases h
  | _=>cases h
theorem ix_array{t:TypeId}{len sz:Nat}(h:ixOf P t = .array len sz):∃e i,und P t=some (.array len e)∧inf? P e=some i∧i.size=sz:=by
 unfold ixOf at h
 cases hd:und P t with
 | none=>rw [hd]at h;cases h
 | some d =>
  rw[hd]at h
  cases d with
  | slice e=>
   dsimp only at h
   cases hi:inf? P e with
   | none=>rw [hi]at h;cases h
   | some i=>rw [hi]at h;cases h
  | array l e=>
   dsimp only at h
   cases hi:inf? P e with
   | none=>rw [hi]at h;cases h
   | some i=>rw [hi]at h;dsimp only at h;injection h with h1 h2;subst h1;exact⟨e,i,rfl,hi,h2⟩
  | _=>cases h
theorem RV.of_slice{ρ : Inj}{b o l c:Nat}{v:Value}(h:RV ρ (.slice (some ⟨b,o,none⟩) l c) v) :
 ∃(B:Bl) (o' c':Nat),ρ b=some B∧v = .slice (some ⟨B.b,o',none⟩) l c'∧(0<l→o'=o)∧l≤c'∧
  ((c≠inf∧c'=c∧(o'=o∨c=0))∨(c=inf∧((o'=o∧o+c'*B.z=B.n)∨(c'=0∧0<o)))):=by
 cases h with
 | slice h hc hl ho=>exact⟨_,_,c,h,rfl,fun h0=>ho.resolve_right (by omega),hl,.inl ⟨hc,rfl,ho⟩⟩
 | opened h hl ho=>
  refine⟨_,_,_,h,rfl,fun hl0=>?_,hl,.inr ⟨rfl,ho⟩⟩;rcases ho with ho|ho
  · exact ho.1
  · omega
theorem indexAddr_ok{ty:TypeId}{x x':Value}{k:IntKind}{i:Int}(hx:RV ρ x x'){v:Value}
(h:(Int.rec (fun i=>Ix.rec none
  (fun sz=>onSlice x (fun b off len _=>Bool.rec none (some (.pointer (some ⟨b,Nat.add off (Nat.mul i sz),none⟩))) (Nat.blt i len)) none)
  (fun len sz=>onPtr x (fun b off=>Bool.rec none (some (.pointer (some ⟨b,Nat.add off (Nat.mul i sz),none⟩))) (Nat.blt i len)) none) (ixOf P ty)) (fun _=>none) i:Option Value)=some v) :
 ∃v',(Instr.indexAt ty x' (.int k i)).run P wd = .ok v' wd∧RV ρ v v':=by
 cases i with
 | negSucc m=>cases h
 | ofNat m =>
  dsimp only at h
  cases hix:ixOf P ty with
  | bad=>rw [hix]at h;cases h
  | slice sz =>
   rw[hix]at h;dsimp only at h;obtain⟨e,ei,hd,hi,rfl⟩:=ix_slice hix;rcases onSlice_some h with⟨b,off,len,c,hxe,h2⟩|h2
   case inr=>cases h2
   clear h;have h:=h2;clear h2;subst hxe
   cases hlt:Nat.blt m len with
   | false=>rw [hlt]at h;cases h
   | true=>
    rw[hlt]at h;dsimp only at h;injection h with h
    subst h;have hm:=zR hlt;obtain⟨B,o',c',hb,rfl,ho,_⟩:=hx.of_slice;obtain rfl:=ho (by omega);refine⟨.pointer (some ⟨B.b,o'+m*ei.size,none⟩),?_,RV.ptr hb⟩;simp [Instr.indexAt,asIntOf,zF hd,zV hi,add_eq,hm]
  | array len sz =>
   rw[hix]at h;dsimp only at h;obtain⟨e,ei,hd,hi,rfl⟩:=ix_array hix;rcases uF h with⟨b,off,hxe,h2⟩|h2
   case inr=>cases h2
   clear h;have h:=h2;clear h2;subst hxe
   cases hlt:Nat.blt m len with
   | false=>rw [hlt]at h;cases h
   | true=>
    rw[hlt]at h;dsimp only at h;injection h with h
    subst h;have hm:=zR hlt;obtain⟨B,hb,_,rfl⟩:=hx.of_ptr;refine⟨.pointer (some ⟨B.b,off+m*ei.size,none⟩),?_,RV.ptr hb⟩;simp [Instr.indexAt,asIntOf,zF hd,zV hi,add_eq,hm,Instr.sureAddr]
theorem index_ok{ty:TypeId}{x x' ix ix':Value}(hx:RV ρ x x')(hix:RV ρ ix ix'){v:Value}(h:aIndex P ty x ix=some v) :
 ∃v',(Instr.index ty x' ix').run P wd = .ok v' wd∧RV ρ v v':=by
 unfold aIndex at h;split at h
 case h_2=>cases h
 rename_i k m;obtain rfl:=hix.of_int;split at h
 · rename_i len e cs hd;obtain⟨cs',rfl,hcs⟩:=hx.of_agg
   cases hi:inf? P e with
   | none=>rw [hi]at h;cases h
   | some ei =>
    rw[hi]at h;dsimp only at h
    cases hlt:Nat.blt m len with
    | false=>rw [hlt]at h;cases h
    | true=>
     rw[hlt]at h;have hm:=zR hlt;obtain⟨v',e1,e2⟩:=part_ok (wd:=wd) hcs h;refine⟨v',?_,e2⟩;have:(⟨cs'.toList⟩:Array Value)=cs':=rfl;rw [this]at e1;have e1':(part e cs' (m*ei.size)).run P wd = .ok v' wd:=e1;simp [Instr.index,asIntOf,zF hd,zV hi,hm,e1']
 · rename_i s hd;obtain rfl:=hx.of_string;rw [nthB_eq]at h;split at h
   · rename_i b hb;injection h with h
     subst h;refine⟨.int .u8 b.toNat,?_,RV.int _ _⟩
     have hlt:m<s.data.toList.length:=by
      rcases Nat.lt_or_ge m s.data.toList.length with h1|h1
      · exact h1
      · rw[List.getElem?_eq_none h1]at hb;cases hb
     have hs:s[m]? = some b:=by
      have h2:m<s.size:=hlt;rw [getElem?_pos s m h2];rw [List.getElem?_eq_getElem hlt]at hb;injection hb with hb
      rw[← hb];rfl
     simp[Instr.index,asIntOf,zF hd,hs]
   · cases h
 · cases h
theorem field_ok{ty:TypeId}{x x':Value}{f:Nat}(hx:RV ρ x x'){v:Value}(h:aField P ty x f=some v) :
 ∃v',(Instr.field ty x' f).run P wd = .ok v' wd∧RV ρ v v':=by
 unfold aField at h;split at h
 · rename_i fs cs hd;obtain⟨cs',rfl,hcs⟩:=hx.of_agg;split at h
   · rename_i fd hf;obtain⟨v',e1,e2⟩:=part_ok (wd:=wd) hcs h;refine⟨v',?_,e2⟩;have e1':(part fd.type cs' fd.offset).run P wd = .ok v' wd:=e1;simp [Instr.field,zF hd,hf,asAgg,e1']
   · cases h
 · cases h
theorem extract_ok{x x':Value}{i:Nat}(hx:RV ρ x x'){v:Value}{vs:Array Value}(he:x = .tuple vs)(h:vs.toList[i]? = some v) :
 ∃v',(Instr.extract x' i).run P wd = .ok v' wd∧RV ρ v v':=by
 subst he;obtain⟨vs',rfl,hvs⟩:=hx.of_tuple;obtain⟨v',e1,e2⟩:=hvs.at h;refine⟨v',?_,e2⟩;have:vs'[i]? = some v':=by simpa using e1
 simp[Instr.extract,this]
end
section
variable {P:Program} {ng:Nat} {ρ : Inj} {base:Nat} {w0:World} {hp:zI} {n:Nat} {wd:World}
def ORV(ρ : Inj)(o o':Option Value):Prop:=
 match o,o' with
 | none,none=>True
 | some v,some v'=>RV ρ v v'
 | _,_=>False
theorem natOf_some{v:Value}{m:Nat}(h:natOf v=some m):∃k,v = .int k (.ofNat m):=by
 unfold natOf at h;split at h
 · injection h with h;subst h;exact⟨_,rfl⟩
 · cases h
theorem zN{d most m:Nat}{o o':Option Value}(hr:ORV ρ o o')(h:zS d most o=some m) :
 (o=none∧o'=none∧m=d)∨∃v k,o=some v∧o'=some (.int k m)∧m≤most:=by
 cases o with
 | none=>
  cases o' with
  | none=>simp only[zS]at h;injection h with h;exact .inl ⟨rfl,rfl,h.symm⟩
  | some v=>exact hr.elim
 | some v =>
  cases o' with
  | none=>exact hr.elim
  | some v' =>
   simp only[zS]at h
   cases hn:natOf v with
   | none=>rw [hn]at h;cases h
   | some i =>
    rw[hn]at h;dsimp only at h
    cases hle:Nat.ble i most with
    | false=>rw [hle]at h;cases h
    | true=>
     rw[hle]at h;dsimp only[cond]at h;injection h with h
     subst h;obtain⟨k,rfl⟩:=natOf_some hn;have hr':RV ρ (.int k (.ofNat i)) v':=hr;obtain rfl:=hr'.of_int;exact .inr ⟨_,k,rfl,rfl,wF hle⟩
theorem xY(k:IntKind){m y:Nat}(code:BoundsCode)(h:m≤y):(Instr.sliceBound (.int k (m:Int)) y code).run P wd = .ok m wd:=by
 have:=Go.run_sliceBound (P:=P) (w:=wd) k m y code (by omega) (by omega);simpa using this
theorem bounds_ok{isS:Bool}{len cap c':Nat}{lo hi mx lo' hi' mx':Option Value}(h1:ORV ρ lo lo')(h2:ORV ρ hi hi')(h3:ORV ρ mx mx')(hf:fullOK hi mx=true){m hh l dm:Nat}{most:Nat}
(e1:zS dm cap mx=some m)(e2:zS len most hi=some hh)(e3:zS 0 hh lo=some l)
(hmx:mx=none→most≤c')(hmx2:mx≠none→cap≤c'∧most=m) :
 (Instr.sliceBounds isS len c' lo' hi' mx').run P wd = .ok (l,hh,if mx=none then c' else m) wd:=by
 rcases zN h3 e1 with⟨rfl,rfl,_⟩|⟨v,k,rfl,rfl,hm⟩
 · have hc:=hmx rfl;rcases zN h2 e2 with⟨rfl,rfl,rfl⟩|⟨v2,k2,rfl,rfl,hh2⟩
   · rcases zN h1 e3 with⟨rfl,rfl,rfl⟩|⟨v3,k3,rfl,rfl,hl⟩
     · simp[Instr.sliceBounds]
     · simp[Instr.sliceBounds,xY k3 _ hl]
   · rcases zN h1 e3 with⟨rfl,rfl,rfl⟩|⟨v3,k3,rfl,rfl,hl⟩
     · simp[Instr.sliceBounds,xY k2 _ (Nat.le_trans hh2 hc)]
     · simp[Instr.sliceBounds,xY k2 _ (Nat.le_trans hh2 hc),xY k3 _ hl]
 · obtain⟨hc,rfl⟩:=hmx2 (by simp);rcases zN h2 e2 with⟨rfl,rfl,rfl⟩|⟨v2,k2,rfl,rfl,hh2⟩
   · cases hf
   · rcases zN h1 e3 with⟨rfl,rfl,rfl⟩|⟨v3,k3,rfl,rfl,hl⟩
     · simp[Instr.sliceBounds,xY k _ (Nat.le_trans hm hc),xY k2 _ hh2]
     · simp[Instr.sliceBounds,xY k _ (Nat.le_trans hm hc),xY k2 _ hh2,xY k3 _ hl]
theorem far_eq(b o n:Nat):far ⟨b,o,none⟩ n=⟨b,o+n,none⟩:=rfl
theorem sliceEx_ok{isS:Bool}{b off off' len cap size:Nat}{B:Bl}(hb: ρ b=some B)(ho:off'=off∨cap=0){lo hi mx lo' hi' mx':Option Value}(h1:ORV ρ lo lo')(h2:ORV ρ hi hi')(h3:ORV ρ mx mx')
   (hf:fullOK hi mx=true){v:Value}(h:aSliceEx ⟨b,off,none⟩ len cap size lo hi mx=some v) :
    ∃l hh m,(Instr.sliceBounds isS len cap lo' hi' mx').run P wd = .ok (l,hh,m) wd∧
      RV ρ v (.slice (some (if m=l then⟨B.b,off',none⟩ else(⟨B.b,off',none⟩:Addr).add (l*size))) (hh - l) (m - l)):=by
  unfold aSliceEx at h
  cases e1:zS cap cap mx with
  | none=>rw [e1]at h;cases h
  | some m =>
    rw[e1]at h;dsimp only at h
    cases e2:zS len m hi with
    | none=>rw [e2]at h;cases h
    | some hh =>
      rw[e2]at h;dsimp only at h
      cases e3:zS 0 hh lo with
      | none=>rw [e3]at h;cases h
      | some l =>
        rw[e3]at h;dsimp only at h
        cases hc:(Nat.blt m inf && Nat.ble hh m) with
        | false=>rw [hc]at h;cases h
        | true =>
          rw[hc]at h;dsimp only[cond]at h;injection h with h
          subst h;obtain⟨hm,hhm⟩:=Bool.and_eq_true_iff.1 hc;have hm:=zR hm;have hhm:=wF hhm
          have hmc:m≤cap:=by
            rcases zN h3 e1 with⟨_,_,e⟩|⟨_,_,_,_,e⟩
            · omega
            · exact e
          have hlh:l≤hh:=by
            rcases zN h1 e3 with⟨_,_,e⟩|⟨_,_,_,_,e⟩
            · omega
            · exact e
          have hm0:mx=none→m=cap:=fun e=>by
            subst e;simp only[zS]at e1;injection e1 with e1;exact e1.symm
          refine⟨l,hh,m,?_,?_⟩
          · have:=bounds_ok (P:=P) (wd:=wd) (isS:=isS) (c':=cap) h1 h2 h3 hf e1 e2 e3 (fun _=>hmc) (fun _=>⟨Nat.le_refl _,rfl⟩);rw [this];split
            · rename_i e;rw [hm0 e]
            · rfl
          · by_cases hml:m=l
            · subst hml;have e0:hh - m≤m - m:=by omega
              have:Nat.beq m m=true:=Nat.beq_refl m;rw [this,if_pos rfl];dsimp only[cond]
              exact .slice hb (by show m - m ≠ inf; have : inf ≠ 0 := by decide
                                  omega) e0 (.inr (by show m - m=0;omega))
            · have hbq:Nat.beq m l=false:=by
                cases e:Nat.beq m l with
                | false=>rfl
                | true=>exact absurd (zG e) hml
              rw[hbq,if_neg hml,add_eq];dsimp only[cond];rw [far_eq];refine .slice hb (by show m - l≠inf;omega) (by show hh - l≤m - l;omega) (.inl ?_);rcases ho with ho|ho
              · rw[ho];rfl
              · omega
theorem sliceOp_ok{isS:Bool}{b off off' len c' size:Nat}{B:Bl}(hb: ρ b=some B)(hl:len≤c')(ho:(off'=off∧off+c'*B.z=B.n)∨(c'=0∧0<off))(hz:B.z=size)(hz1:1≤size)
   {lo hi mx lo' hi' mx':Option Value}(h1:ORV ρ lo lo')(h2:ORV ρ hi hi')(h3:ORV ρ mx mx')
   (hf:fullOK hi mx=true){v:Value}(h:aSliceOp ⟨b,off,none⟩ len size lo hi mx=some v) :
    ∃l hh m,(Instr.sliceBounds isS len c' lo' hi' mx').run P wd = .ok (l,hh,m) wd∧
      RV ρ v (.slice (some (if m=l then⟨B.b,off',none⟩ else(⟨B.b,off',none⟩:Addr).add (l*size))) (hh - l) (m - l)):=by
  unfold aSliceOp at h
  cases mx with
  | none =>
    dsimp only at h
    cases e2:zS len len hi with
    | none=>rw [e2]at h;cases h
    | some hh =>
      rw[e2]at h;dsimp only at h
      cases e3:zS 0 hh lo with
      | none=>rw [e3]at h;cases h
      | some l =>
        rw[e3]at h;dsimp only at h;injection h with h
        subst h
        have hhl:hh≤len:=by
          rcases zN h2 e2 with⟨_,_,e⟩|⟨_,_,_,_,e⟩
          · omega
          · exact e
        have hlh:l≤hh:=by
          rcases zN h1 e3 with⟨_,_,e⟩|⟨_,_,_,_,e⟩
          · omega
          · exact e
        refine⟨l,hh,c',?_,?_⟩
        · have:=bounds_ok (P:=P) (wd:=wd) (isS:=isS) (cap:=0) (c':=c') (dm:=0) (m:=0) h1 h2 h3 hf rfl e2 e3 (fun _=>hl) (fun e=>absurd rfl e);rw [this,if_pos rfl]
        · rw[far_eq];by_cases hml:c'=l
          · subst hml;rw [if_pos rfl];refine .opened hb (by show hh - c'≤c' - c';omega) ?_;rw [Nat.sub_self];rcases Nat.eq_zero_or_pos c' with e0|e0
            · subst e0;rcases ho with⟨ho1,ho2⟩|ho
              · exact .inl ⟨by rw[ho1];simp,by simpa using ho2⟩
              · exact .inr ⟨rfl,by simpa using ho.2⟩
            · exact .inr ⟨rfl,by
                have:1*1≤c'*size:=Nat.mul_le_mul (by omega) hz1;show 0<off+c'*size;omega⟩
          · rw[if_neg hml,add_eq];rcases ho with⟨ho1,ho2⟩|ho
            · subst hz;refine .opened hb (by show hh - l≤c' - l;omega) (.inl ⟨by rw[ho1];rfl,?_⟩);show off+l*B.z+(c' - l)*B.z=B.n;rw [← ho2,Nat.sub_mul];have:l*B.z≤c'*B.z:=Nat.mul_le_mul_right _ (by omega);omega
            · omega
  | some vm =>
    dsimp only at h
    cases e1:zS len len (some vm) with
    | none=>rw [e1]at h;cases h
    | some m =>
      rw[e1]at h;dsimp only at h
      cases e2:zS m m hi with
      | none=>rw [e2]at h;cases h
      | some hh =>
        rw[e2]at h;dsimp only at h
        cases e3:zS 0 hh lo with
        | none=>rw [e3]at h;cases h
        | some l =>
          rw[e3]at h;dsimp only at h
          cases hc:Nat.blt m inf with
          | false=>rw [hc]at h;cases h
          | true =>
            rw[hc]at h;dsimp only[cond]at h;injection h with h
            subst h;have hm:=zR hc
            have hml':m≤len:=by
              rcases zN h3 e1 with⟨e,_⟩|⟨_,_,_,_,e⟩
              · cases e
              · exact e
            have hhm:hh≤m:=by
              rcases zN h2 e2 with⟨_,_,e⟩|⟨_,_,_,_,e⟩
              · omega
              · exact e
            have hlh:l≤hh:=by
              rcases zN h1 e3 with⟨_,_,e⟩|⟨_,_,_,_,e⟩
              · omega
              · exact e
            refine⟨l,hh,m,?_,?_⟩
            · cases hi with
              | none=>cases hf
              | some vh =>
                have e2':zS len m (some vh)=some hh:=e2;have:=bounds_ok (P:=P) (wd:=wd) (isS:=isS) (c':=c') h1 h2 h3 hf e1 e2' e3 (fun e=>by cases e) (fun _=>⟨hl,rfl⟩);rw [this,if_neg (by simp)]
            · by_cases hml:m=l
              · subst hml;have:Nat.beq m m=true:=Nat.beq_refl m;rw [this,if_pos rfl];dsimp only[cond]
                exact .slice hb (by show m - m ≠ inf; have : inf ≠ 0 := by decide
                                    omega) (by show hh - m≤m - m;omega) (.inr (by show m - m=0;omega))
              · have hbq:Nat.beq m l=false:=by
                  cases e:Nat.beq m l with
                  | false=>rfl
                  | true=>exact absurd (zG e) hml
                rw[hbq,if_neg hml,add_eq];dsimp only[cond];rw [far_eq];refine .slice hb (by show m - l≠inf;omega) (by show hh - l≤m - l;omega) (.inl ?_);rcases ho with⟨ho1,_⟩|ho
                · rw[ho1];rfl
                · omega
end
theorem str_extract(s:ByteArray)(l h:Nat):s.extract l h=⟨⟨(s.data.toList.drop l).take (h - l)⟩⟩:=by
 have:(s.extract l h).data=s.data.extract l h:=ByteArray.data_extract;have h2:(s.extract l h).data.toList=(s.data.toList.drop l).take (h - l):=by rw[this];simp [Array.toList_extract]
 cases hs:s.extract l h with
 | mk d=>
  rw[hs]at h2
  cases d with
  | mk q=>simp only at h2;rw [h2]
section
variable {P:Program} {ng:Nat} {ρ : Inj} {base:Nat} {w0:World} {hp:zI} {n:Nat} {wd:World}
theorem nat_sub(a b:Nat):Nat.sub a b=a - b:=rfl
theorem slice_ok(hH:HeapR P ng ρ base w0 hp n wd){ty:TypeId}{x x':Value}(hx:RV ρ x x'){lo hi mx lo' hi' mx':Option Value}(h1:ORV ρ lo lo')(h2:ORV ρ hi hi')(h3:ORV ρ mx mx')
{v:Value}(h:aSlice P hp ty x lo hi mx=some v):∃v',(Instr.sliceAt ty x' lo' hi' mx').run P wd = .ok v' wd∧RV ρ v v':=by
 unfold aSlice at h
 cases hf:fullOK hi mx with
 | false=>rw [hf]at h;cases h
 | true =>
  rw[hf]at h;dsimp only[cond]at h;split at h
  ·
   rename_i e len cap hd
   cases hc:(Nat.beq len 0 && Nat.beq cap 0) with
   | false=>rw [hc]at h;cases h
   | true=>
    rw[hc]at h;obtain⟨h4,h5⟩:=Bool.and_eq_true_iff.1 hc;obtain rfl:=zG h4;obtain rfl:=zG h5;cases hx
    dsimp only at h;split at h
    · rename_i m hh l i e1 e2 e3 hi;injection h with h
      subst h
      have m0:m=0:=by
       rcases zN h3 e1 with⟨_,_,e⟩|⟨_,_,_,_,e⟩ <;> omega
      have hh0:hh=0:=by
       rcases zN h2 e2 with⟨_,_,e⟩|⟨_,_,_,_,e⟩ <;> omega
      have l0:l=0:=by
       rcases zN h1 e3 with⟨_,_,e⟩|⟨_,_,_,_,e⟩ <;> omega
      subst m0 hh0 l0;have:=bounds_ok (P:=P) (wd:=wd) (isS:=true) (c':=0) h1 h2 h3 hf e1 e2 e3 (fun _=>Nat.le_refl _) (fun _=>⟨Nat.le_refl _,rfl⟩);refine⟨.slice none 0 0,?_,RV.nilSlice 0 0 (by decide)⟩;have this':(Instr.sliceBounds true 0 0 lo' hi' mx').run P wd = .ok (0,0,0) wd:=by rw[this];split <;> rfl
      simp[Instr.sliceAt,zF hd,Instr.slice,this',zV hi]
    · cases h
  · rename_i e b off len cap hd
    cases hi:inf? P e with
    | none=>rw [hi]at h;cases h
    | some ei =>
     rw[hi]at h;dsimp only at h;obtain⟨B,o',c',hb,rfl,_,hl,hcs⟩:=hx.of_slice
     cases hci:Nat.beq cap inf with
     | true=>
      rw[hci]at h;obtain rfl:=zG hci;dsimp only[cond]at h;split at h
      · rename_i c kn z hg
        cases hz:(Nat.beq z (zc e ei.size) && Nat.ble 1 ei.size) with
        | false=>rw [hz]at h;cases h
        | true =>
         rw[hz]at h;dsimp only[cond]at h;obtain⟨hz,hz1⟩:=Bool.and_eq_true_iff.1 hz;have hz1:=wF hz1;obtain rfl:=zG hz
         have hBz:B.z=ei.size:=by
          obtain⟨o,e1,e2⟩:=hH.obj b B hb (by rw[hg];exact AObj.noConfusion);rw [hg]at e2
          cases e2 with
          | cells _ _ _ hz' _ _ _=>exact(zc_inj (hz'.1 rfl)).2.symm
         have ho:(o'=off∧off+c'*B.z=B.n)∨(c'=0∧0<off):=by
          rcases hcs with⟨h6,_⟩|⟨_,h6⟩
          · exact absurd rfl h6
          · exact h6
         obtain⟨l,hh,m,r1,r2⟩:=sliceOp_ok (P:=P) (wd:=wd) (isS:=true) hb hl ho hBz hz1 h1 h2 h3 hf h;refine⟨_,?_,r2⟩;simp [Instr.sliceAt,zF hd,Instr.slice,r1,zV hi];split <;> rfl
      · cases h
     | false=>
      rw[hci]at h;dsimp only[cond]at h;rcases hcs with⟨_,rfl,ho⟩|⟨h6,_⟩
      case inr=>subst h6;rw [Nat.beq_refl]at hci;cases hci
      obtain⟨l,hh,m,r1,r2⟩:=sliceEx_ok (P:=P) (wd:=wd) (isS:=true) hb ho h1 h2 h3 hf h;refine⟨_,?_,r2⟩;simp [Instr.sliceAt,zF hd,Instr.slice,r1,zV hi];split <;> rfl
  · rename_i k e b off hd
    cases hi:inf? P e with
    | none=>rw [hi]at h;cases h
    | some ei=>
     rw[hi]at h;dsimp only at h;obtain⟨B,hb,_,rfl⟩:=hx.of_ptr;obtain⟨l,hh,m,r1,r2⟩:=sliceEx_ok (P:=P) (wd:=wd) (isS:=false) (off':=off) hb (.inl rfl) h1 h2 h3 hf h;refine⟨_,?_,r2⟩;simp [Instr.sliceAt,zF hd,Instr.sureAddr,r1,zV hi]
  · rename_i arr b off hd;split at h
    · rename_i k e hd2
      cases hi:inf? P e with
      | none=>rw [hi]at h;cases h
      | some ei=>
       rw[hi]at h;dsimp only at h;obtain⟨B,hb,_,rfl⟩:=hx.of_ptr;obtain⟨l,hh,m,r1,r2⟩:=sliceEx_ok (P:=P) (wd:=wd) (isS:=false) (off':=off) hb (.inl rfl) h1 h2 h3 hf h;refine⟨_,?_,r2⟩;simp [Instr.sliceAt,zF hd,Instr.slice,asAddr,zF hd2,r1,zV hi]
    · cases h
  · rename_i s hd
    cases mx with
    | some _=>cases h
    | none =>
     dsimp only at h
     cases e2:zS s.data.toList.length s.data.toList.length hi with
     | none=>rw [e2]at h;cases h
     | some hh =>
      rw[e2]at h;dsimp only at h
      cases e3:zS 0 hh lo with
      | none=>rw [e3]at h;cases h
      | some l =>
       rw[e3]at h;dsimp only at h;injection h with h
       subst h;obtain rfl:=hx.of_string
       cases mx' with
       | some _=>exact h3.elim
       | none=>
        have:=bounds_ok (P:=P) (wd:=wd) (isS:=false) (cap:=0) (c':=s.data.toList.length) (dm:=0) (m:=0) h1 h2 h3 hf rfl e2 e3 (fun _=>Nat.le_refl _) (fun e=>absurd rfl e);refine⟨_,?_,RV.string _⟩;have this':(Instr.sliceBounds false s.size s.size lo' hi' none).run P wd = .ok (l,hh,s.data.toList.length) wd:=this;rw [cutS_eq,nat_sub,← str_extract];simp [Instr.sliceAt,zF hd,Instr.slice,this']
  · cases h
end
theorem putAll_eq(off:Nat):∀(l:List Value) (k:Nat) (cs:Array Value),
 ((l.zipIdx k).foldl (fun(cs:Array Value) (x:Value×Nat)=>cs.setIfInBounds (off+x.2) x.1) cs).toList=putAll cs.toList (off+k) l:=by
 intro l
 induction l with
 | nil=>intro k cs;rfl
 | cons v r ih=>
  intro k cs;simp only[List.zipIdx_cons,List.foldl_cons,ih,putAll,Array.toList_setIfInBounds];rfl
theorem RVs.putAll{ρ : Inj}:∀{l l':List Value},RVs ρ l l'→∀{cs cs':List Value} (off:Nat),RVs ρ cs cs'→RVs ρ (putAll cs off l) (putAll cs' off l'):=by
 intro l
 induction l with
 | nil=>intro l' h cs cs' off k;obtain rfl:=h.of_nil;exact k
 | cons v r ih=>
  intro l' h cs cs' off k;obtain⟨v',r',rfl,hv,hr⟩:=h.of_cons;exact ih hr (off+1) (k.set off hv)
def PsR(ρ : Inj):List (Nat×Value)→List (Nat×Value)→Prop
 | [],[]=>True
 | (i,v)::r,(j,v')::r'=>i=j∧RV ρ v v'∧PsR ρ r r'
 | _,_=>False
theorem PsR.map{ρ : Inj}(f g:Operand→Value):∀(l:List (Nat×Operand)),(∀p∈l,RV ρ (f p.2) (g p.2))→PsR ρ (l.map fun p=>(p.1,f p.2)) (l.map fun p=>(p.1,g p.2))
 | [],_=>trivial
 | p::l,h=>⟨rfl,h p (by simp),PsR.map f g l fun q hq=>h q (by simp[hq])⟩
theorem fill_ok{ρ : Inj}(place:Nat→Option (Nat×Nat)):∀{ps ps':List (Nat×Value)},PsR ρ ps ps'→∀{cs:List Value} {cs':Array Value},RVs ρ cs cs'.toList→∀{r:List Value},
 aFill place cs ps=some r→∃r',Instr.fill place cs' ps'=some r'∧RVs ρ r r'.toList:=by
 intro ps
 induction ps with
 | nil=>
  intro ps' h cs cs' hc r hr
  cases ps' with
  | nil=>simp only[aFill]at hr;injection hr with hr;subst hr;exact⟨cs',rfl,hc⟩
  | cons _ _=>exact h.elim
 | cons p rest ih =>
  intro ps' h cs cs' hc r hr;obtain⟨i,v⟩:=p
  cases ps' with
  | nil=>exact h.elim
  | cons p' rest' =>
   obtain⟨i',v'⟩:=p';obtain⟨rfl,hv,hrest⟩:=h;simp only[aFill]at hr
   cases hp:place i with
   | none=>rw [hp]at hr;cases hr
   | some os =>
    obtain⟨off,size⟩:=os;rw [hp]at hr;dsimp only at hr
    cases hb:(Nat.beq (cellsOf v).length size && Nat.ble (Nat.add off size) cs.length) with
    | false=>rw [hb]at hr;cases hr
    | true =>
     rw[hb]at hr;dsimp only[cond]at hr;obtain⟨h1,h2⟩:=Bool.and_eq_true_iff.1 hb;have h1:=zG h1;have h2:off+size≤cs.length:=wF h2;have hvc:=hv.cells
     have hsz:v'.cells.size=size:=by
      have:=hvc.1;simp at this;omega
     have hcl:cs'.size=cs.length:=by have:=hc.1;simp at this;omega
     have hcs:RVs ρ (putAll cs off (cellsOf v)) ((v'.cells.zipIdx.foldl (fun(cs:Array Value) (x:Value×Nat)=>cs.setIfInBounds (off+x.2) x.1) cs').toList):=by
      have e:(v'.cells.zipIdx.foldl (fun(cs:Array Value) (x:Value×Nat)=>cs.setIfInBounds (off+x.2) x.1) cs').toList=putAll cs'.toList off v'.cells.toList:=by
       have:=putAll_eq off v'.cells.toList 0 cs';rw [← Array.foldl_toList];simpa [Array.toList_zipIdx] using this
      rw[e];exact RVs.putAll hvc off hc
     obtain⟨r',e1,e2⟩:=ih hrest hcs hr;refine⟨r',?_,e2⟩;rw [Instr.fill,hp];dsimp only;rw [if_neg (by simp;omega)];exact e1
section
variable {P:Program} {ng:Nat} {ρ : Inj} {base:Nat} {w0:World} {hp:zI} {n:Nat} {wd:World}
theorem places_some:∀{fs:List Field} {l:List (Nat×Nat)},placesOf P fs=some l→fs.mapM (fun f=>(P.info? f.type).map fun i=>(f.offset,i.size))=some l:=by
 intro fs
 induction fs with
 | nil=>intro l h;simp only[placesOf]at h;injection h with h;subst h;rfl
 | cons f fs ih =>
  intro l h;simp only[placesOf]at h
  cases hi:inf? P f.type with
  | none=>rw [hi]at h;cases h
  | some i =>
   cases hr:placesOf P fs with
   | none=>rw [hi,hr]at h;cases h
   | some r=>
    rw[hi,hr]at h;dsimp only at h;injection h with h
    subst h;simp [List.mapM_cons,(zX hi).2,ih hr]
theorem build_ok(hP:zP ng P=true){ty:TypeId}{ps ps':List (Nat×Value)}(hps:PsR ρ ps ps'){v:Value}(h:aBuild P ty ps=some v) :
 ∃v',(Instr.build ty ⟨ps'⟩).run P wd = .ok v' wd∧RV ρ v v':=by
 unfold aBuild at h
 cases hz:yO P ty with
 | none=>rw [hz]at h;cases h
 | some z =>
  rw[hz]at h;dsimp only at h;have hzz:=RV.cells (RV.plain (xN hP hz) ρ)
  cases hs:structPlaces P ty with
  | some pl =>
   rw[hs]at h;dsimp only at h
   cases hf:aFill (fun i=>pl[i]?) (cellsOf z) ps with
   | none=>rw [hf]at h;cases h
   | some cs=>
    rw[hf]at h;injection h with h
    subst h;unfold structPlaces at hs;split at hs
    · rename_i fs hd;obtain⟨r',e1,e2⟩:=fill_ok (fun i=>pl[i]?) hps hzz hf;refine⟨.agg r',?_,RV.agg e2.1 e2.2⟩;have:=Go.run_places (P:=P) wd fs.toList pl (places_some hs);simp [Instr.build,yZ hz,zF hd,Array.mapM_eq_mapM_toList,this,e1]
    · cases hs
  | none =>
   rw[hs]at h;dsimp only at h
   cases hix:ixOf P ty with
   | bad=>rw [hix]at h;cases h
   | slice sz=>rw [hix]at h;cases h
   | array len sz =>
    rw[hix]at h;dsimp only at h;obtain⟨e,ei,hd,hi,rfl⟩:=ix_array hix
    cases hf:aFill (fun i=>some (Nat.mul i ei.size,ei.size)) (cellsOf z) ps with
    | none=>rw [hf]at h;cases h
    | some cs=>
     rw[hf]at h;injection h with h
     subst h;obtain⟨r',e1,e2⟩:=fill_ok (fun i=>some (Nat.mul i ei.size,ei.size)) hps hzz hf;refine⟨.agg r',?_,RV.agg e2.1 e2.2⟩;have e1':Instr.fill (fun i=>some (i*ei.size,ei.size)) z.cells ps'=some r':=e1;simp [Instr.build,yZ hz,zF hd,zV hi,e1']
theorem ble_dec(a b:Nat):Nat.ble a b=decide (a≤b):=by
 cases h:Nat.ble a b with
 | true=>simp [Nat.le_of_ble_eq_true h]
 | false=>
  have:¬a≤b:=fun e=>by rw[Nat.ble_eq_true_of_le e]at h;cases h
  simp[this]
theorem beq_dec(a b:Nat):Nat.beq a b=decide (a=b):=by
 cases h:Nat.beq a b with
 | true=>simp [Nat.eq_of_beq_eq_true h]
 | false=>
  have:¬a=b:=fun e=>by subst e;rw [Nat.beq_refl]at h;cases h
  simp[this]
theorem ileB_eq(a b:Int):ileB a b=decide (a≤b):=by
 cases a with
 | ofNat a => cases b with
  | ofNat b=>
   show Nat.ble a b=_;rw [ble_dec];apply decide_eq_decide.2;show a≤b↔(a:Int)≤(b:Int);omega
  | negSucc b=>exact(decide_eq_false (by simp only[Int.ofNat_eq_natCast];omega)).symm
 | negSucc a => cases b with
  | ofNat b=>exact(decide_eq_true (by simp only[Int.ofNat_eq_natCast];omega)).symm
  | negSucc b=>
   show Nat.ble b a=_;rw [ble_dec];apply decide_eq_decide.2;omega
theorem vK(a b:Int):ieqB a b=decide (a=b):=by
 cases a with
 | ofNat a => cases b with
  | ofNat b=>
   show Nat.beq a b=_;rw [beq_dec];apply decide_eq_decide.2;show a=b↔(a:Int)=(b:Int);omega
  | negSucc b=>exact(decide_eq_false (by simp only[Int.ofNat_eq_natCast];omega)).symm
 | negSucc a => cases b with
  | ofNat b=>exact(decide_eq_false (by simp only[Int.ofNat_eq_natCast];omega)).symm
  | negSucc b=>
   show Nat.beq b a=_;rw [beq_dec];apply decide_eq_decide.2;omega
theorem iltB_eq(a b:Int):iltB a b=decide (a<b):=by
 show(Bool.rec true false (ileB b a):Bool)=_;rw [ileB_eq];by_cases h:b≤a
 · have h2:¬a<b:=by omega
   simp[h,h2]
 · have h2:a<b:=by omega
   simp[h,h2]
theorem subNN_eq(m k:Nat):subNN m k=(m:Int) - (k:Int):=by
 show(Bool.rec (Int.negSucc (Nat.pred (Nat.sub k m))) (Int.ofNat (Nat.sub m k)) (Nat.ble k m):Int)=_;by_cases h:k≤m
 · rw[Nat.ble_eq_true_of_le h];show Int.ofNat (m - k)=_;simp only[Int.ofNat_eq_natCast];omega
 · have:Nat.ble k m=false:=by
    cases e:Nat.ble k m with
    | false=>rfl
    | true=>exact absurd (Nat.le_of_ble_eq_true e) h
   rw[this];show Int.negSucc (k - m - 1)=_;omega
theorem iadd_eq(a b:Int):iadd a b=a+b:=by
 cases a with
 | ofNat a=>cases b with
  | ofNat b=>rfl
  | negSucc b=>show subNN a (b+1)=_;rw [subNN_eq];simp only[Int.ofNat_eq_natCast];omega
 | negSucc a=>cases b with
  | ofNat b=>show subNN b (a+1)=_;rw [subNN_eq];simp only[Int.ofNat_eq_natCast];omega
  | negSucc b=>show Int.negSucc (Nat.succ (a+b))=_;omega
theorem isub_eq(a b:Int):isub a b=a - b:=by
 cases b with
 | ofNat b=>cases a with
  | ofNat a=>show subNN a b=_;rw [subNN_eq];rfl
  | negSucc a=>show Int.negSucc (a+b)=_;simp only[Int.ofNat_eq_natCast];omega
 | negSucc b=>cases a with
  | ofNat a=>show Int.ofNat (a+(b+1))=_;simp only[Int.ofNat_eq_natCast];omega
  | negSucc a=>show subNN b a=_;rw [subNN_eq];omega
theorem vA(k:IntKind)(m:Int):wrapB k m=k.wrap m:=by
 cases k with
 | i64 =>
  cases m with
  | ofNat m =>
   show(Bool.rec (IntKind.wrap .i64 (.ofNat m)) (Int.ofNat m) (Nat.blt m 9223372036854775808):Int)=_
   cases h:Nat.blt m 9223372036854775808 with
   | false=>rfl
   | true=>
    have:=zR h;show Int.ofNat m=_;rw [IntWalk.i64_in];simp only[Int.ofNat_eq_natCast];omega
  | negSucc m =>
   show(Bool.rec (IntKind.wrap .i64 (.negSucc m)) (Int.negSucc m) (Nat.blt m 9223372036854775808):Int)=_
   cases h:Nat.blt m 9223372036854775808 with
   | false=>rfl
   | true=>
    have:=zR h;show Int.negSucc m=_;rw [IntWalk.i64_in];omega
 | u64 =>
  cases m with
  | negSucc m=>rfl
  | ofNat m =>
   simp only[wrapB]
   cases h:Nat.blt m 18446744073709551616 with
   | false=>rfl
   | true=>
    have:=zR h;simp only[cond,IntKind.wrap,IntKind.signed,IntKind.bits,Bool.false_and,Bool.false_eq_true,if_false];show Int.ofNat m=_;simp only[Int.ofNat_eq_natCast];omega
 | u8 =>
  cases m with
  | negSucc m=>rfl
  | ofNat m =>
   simp only[wrapB]
   cases h:Nat.blt m 256 with
   | false=>rfl
   | true=>
    have:=zR h;simp only[cond,IntKind.wrap,IntKind.signed,IntKind.bits,Bool.false_and,Bool.false_eq_true,if_false];show Int.ofNat m=_;simp only[Int.ofNat_eq_natCast];omega
 | _=>rfl
theorem vL{k k':IntKind}(h:vH k k'=true):k=k':=by
 cases k <;> cases k' <;> first|rfl|cases h
end
theorem byte_ext{a b:UInt8}(h:a.toNat=b.toNat):a=b:=UInt8.toNat_inj.1 h
theorem vD:∀(x y:List UInt8),bytesEq x y=(x == y):=by
 intro x
 induction x with
 | nil=>intro y;cases y <;> rfl
 | cons a x ih =>
  intro y
  cases y with
  | nil=>rfl
  | cons b y =>
   simp only[bytesEq]
   cases h:Nat.beq a.toNat b.toNat with
   | true=>
    have:=byte_ext (zG h);subst this;simp [ih]
   | false=>
    have:¬a=b:=fun e=>by subst e;rw [Nat.beq_refl]at h;cases h
    simp[this]
section
variable {P:Program} {ρ : Inj} {wd:World}
def zZ(op:BinOp)(t:TypeId)(ox oy:Operand)(x y:Value):Sem Value:=do eqGuard op t ox oy x y;binOp op t x y
theorem intOp_ok{op:BinOp}{t:TypeId}{ox oy:Operand}{k:IntKind}{a b:Int}{s:Option Value}{v:Value}(h:intOp op k a b s=some v) :
 (zZ op t ox oy (.int k a) (.int k b)).run P wd = .ok v wd∨s=some v:=by
 cases op with
 | add =>
  left
  have h':(Int.rec (fun m=>some (Value.int k (.ofNat m))) (fun m=>some (Value.int k (.negSucc m))) (wrapB k (iadd a b)):Option Value)=some v:=h
  have:v = .int k (k.wrap (a+b)):=by
   rw[vA,iadd_eq]at h';cases hw:k.wrap (a+b) <;> rw[hw]at h' <;> (injection h' with h';exact h'.symm)
  subst this;simp [zZ,eqGuard,binOp,Op.intArith]
 | sub =>
  left
  have h':(Int.rec (fun m=>some (Value.int k (.ofNat m))) (fun m=>some (Value.int k (.negSucc m))) (wrapB k (isub a b)):Option Value)=some v:=h
  have:v = .int k (k.wrap (a - b)):=by
   rw[vA,isub_eq]at h';cases hw:k.wrap (a - b) <;> rw[hw]at h' <;> (injection h' with h';exact h'.symm)
  subst this;simp [zZ,eqGuard,binOp,Op.intArith]
 | eql=>left;injection h with h;subst h;simp [zZ,eqGuard,binOp,Op.intCmp,vK];rfl
 | neq=>
  left
  have h':some (Value.bool (Bool.rec true false (ieqB a b)))=some v:=h;injection h' with h';subst h'
  rw[vK];by_cases e:a=b <;> simp[zZ,eqGuard,binOp,Op.intCmp,e]
 | lss=>left;injection h with h;subst h;simp [zZ,eqGuard,binOp,Op.intCmp,iltB_eq]
 | leq=>left;injection h with h;subst h;simp [zZ,eqGuard,binOp,Op.intCmp,ileB_eq]
 | gtr=>left;injection h with h;subst h;simp [zZ,eqGuard,binOp,Op.intCmp,iltB_eq]
 | geq=>left;injection h with h;subst h;simp [zZ,eqGuard,binOp,Op.intCmp,ileB_eq]
 | _=>right;exact h
theorem vV{bits x:Nat}(hx:x<2 ^ bits):(BitVec.ofInt bits (x:Int)).toNat=x:=by
 rw[BitVec.ofInt_natCast,BitVec.toNat_ofNat,Nat.mod_eq_of_lt hx]
theorem land_ofNat(bits x y:Nat)(hx:x<2 ^ bits)(hy:y<2 ^ bits):((BitVec.ofInt bits (x:Int)) &&& (BitVec.ofInt bits (y:Int))).toNat=x &&& y:=by
 rw[BitVec.toNat_and,vV hx,vV hy]
theorem lor_ofNat(bits x y:Nat)(hx:x<2 ^ bits)(hy:y<2 ^ bits):((BitVec.ofInt bits (x:Int)) ||| (BitVec.ofInt bits (y:Int))).toNat=x ||| y:=by
 rw[BitVec.toNat_or,vV hx,vV hy]
theorem xor_ofNat(bits x y:Nat)(hx:x<2 ^ bits)(hy:y<2 ^ bits):((BitVec.ofInt bits (x:Int)) ^^^ (BitVec.ofInt bits (y:Int))).toNat=x ^^^ y:=by
 rw[BitVec.toNat_xor,vV hx,vV hy]
theorem andNot_ofNat(bits x y:Nat)(hx:x<2 ^ bits)(hy:y<2 ^ bits):((BitVec.ofInt bits (x:Int)) &&& ~~~(BitVec.ofInt bits (y:Int))).toNat=x ^^^ (x &&& y):=by
 rw[BitVec.toNat_and];apply Nat.eq_of_testBit_eq;intro i;rw [Nat.testBit_and,Nat.testBit_xor,Nat.testBit_and,vV hx];by_cases hi:i<bits
 · have:(~~~(BitVec.ofInt bits (y:Int))).toNat.testBit i = !(y.testBit i):=by
    have h1:(~~~(BitVec.ofInt bits (y:Int))).toNat.testBit i=(~~~(BitVec.ofInt bits (y:Int))).getLsbD i:=rfl;rw [h1,BitVec.getLsbD_not];have h2:(BitVec.ofInt bits (y:Int)).getLsbD i=(BitVec.ofInt bits (y:Int)).toNat.testBit i:=rfl;rw [h2,vV hy];simp [hi]
   rw[this];cases x.testBit i <;> cases y.testBit i <;> rfl
 · have:x.testBit i=false:=Nat.testBit_lt_two_pow (Nat.lt_of_lt_of_le hx (Nat.pow_le_pow_right (by omega) (by omega)));simp [this]
theorem wrap_nat{k:IntKind}{m:Nat}(h:k = .i64→m<9223372036854775808)(h2:k≠.i64→k.signed=false∧m<2 ^ k.bits):k.wrap (m:Int)=(m:Int):=by
 by_cases hk:k = .i64
 · subst hk;have:=h rfl;rw [IntWalk.i64_in];omega
 · obtain⟨h3,h4⟩:=h2 hk;unfold IntKind.wrap;rw [h3];simp only[Bool.false_and,Bool.false_eq_true,if_false];have:(m:Int)<(2:Int) ^ k.bits:=by exact_mod_cast h4
   exact Int.emod_eq_of_lt (by omega) this
theorem bitsOp_ok{op:BinOp}{t:TypeId}{ox oy:Operand}{k:IntKind}{x y:Nat}{r:Nat}(hx:x<2 ^ k.bits)(hy:y<2 ^ k.bits)
(hr:(op = .and∧r=Nat.land x y)∨(op = .or∧r=Nat.lor x y)∨(op = .xor∧r=Nat.xor x y)∨(op = .andNot∧r=Nat.xor x (Nat.land x y)))
(hw:k.wrap (r:Int)=(r:Int)):(zZ op t ox oy (.int k (x:Int)) (.int k (y:Int))).run P wd = .ok (.int k (r:Int)) wd:=by
 rcases hr with⟨rfl,e⟩|⟨rfl,e⟩|⟨rfl,e⟩|⟨rfl,e⟩
 · have:((BitVec.ofInt k.bits (x:Int)) &&& (BitVec.ofInt k.bits (y:Int))).toNat=r:=by rw[land_ofNat _ _ _ hx hy,e];rfl
   simp[zZ,eqGuard,binOp,Op.intBits,this,hw,-BitVec.toNat_and,-BitVec.ofInt_natCast]
 · have:((BitVec.ofInt k.bits (x:Int)) ||| (BitVec.ofInt k.bits (y:Int))).toNat=r:=by rw[lor_ofNat _ _ _ hx hy,e];rfl
   simp[zZ,eqGuard,binOp,Op.intBits,this,hw,-BitVec.toNat_or,-BitVec.ofInt_natCast]
 · have:((BitVec.ofInt k.bits (x:Int)) ^^^ (BitVec.ofInt k.bits (y:Int))).toNat=r:=by rw[xor_ofNat _ _ _ hx hy,e];rfl
   simp[zZ,eqGuard,binOp,Op.intBits,this,hw,-BitVec.toNat_xor,-BitVec.ofInt_natCast]
 · have:((BitVec.ofInt k.bits (x:Int)) &&& ~~~(BitVec.ofInt k.bits (y:Int))).toNat=r:=by rw[andNot_ofNat _ _ _ hx hy,e];rfl
   simp[zZ,eqGuard,binOp,Op.intBits,this,hw,-BitVec.toNat_and,-BitVec.ofInt_natCast]
theorem xor_land_le(x y:Nat):Nat.xor x (Nat.land x y)≤x:=by
 have h:Nat.xor x (Nat.land x y)=x &&& (x ^^^ (x &&& y)):=by
  apply Nat.eq_of_testBit_eq;intro i;show(x ^^^ (x &&& y)).testBit i=_;simp only[Nat.testBit_xor,Nat.testBit_and];cases x.testBit i <;> cases y.testBit i <;> rfl
 rw[h];exact Nat.and_le_left
theorem lim_some{k:IntKind}{m:Nat}(h:bitLim k=some m):∃e,m=2 ^ e∧e≤k.bits∧∀r:Nat,r<m→k.wrap (r:Int)=(r:Int):=by
 cases k <;> simp only[bitLim]at h <;> cases h
 · exact⟨63,by decide,by decide,fun r hr=>wrap_nat (fun _=>hr) (fun e=>absurd rfl e)⟩
 · exact⟨8,by decide,by decide,fun r hr=>wrap_nat (fun e=>by cases e) (fun _=>⟨rfl,by simpa [IntKind.bits] using hr⟩)⟩
 · exact⟨16,by decide,by decide,fun r hr=>wrap_nat (fun e=>by cases e) (fun _=>⟨rfl,by simpa [IntKind.bits] using hr⟩)⟩
 · exact⟨32,by decide,by decide,fun r hr=>wrap_nat (fun e=>by cases e) (fun _=>⟨rfl,by simpa [IntKind.bits] using hr⟩)⟩
 · exact⟨64,by decide,by decide,fun r hr=>wrap_nat (fun e=>by cases e) (fun _=>⟨rfl,by simpa [IntKind.bits] using hr⟩)⟩
theorem bitNat_lt{op:BinOp}{x y r e:Nat}(hx:x<2 ^ e)(hy:y<2 ^ e)(h:bitNat op x y=some r):r<2 ^ e:=by
 cases op <;> simp only[bitNat]at h <;> cases h
 · exact Nat.lt_of_le_of_lt Nat.and_le_left hx
 · exact Nat.or_lt_two_pow hx hy
 · exact Nat.xor_lt_two_pow hx hy
 · exact Nat.lt_of_le_of_lt (xor_land_le x y) hx
theorem bits_ok{op:BinOp}{t:TypeId}{ox oy:Operand}{k:IntKind}{a b:Int}{v:Value}(h:aBits op k a b=some v) :
 (zZ op t ox oy (.int k a) (.int k b)).run P wd = .ok v wd:=by
 unfold aBits at h;split at h
 · rename_i x y m hm
   cases hc:(Nat.blt x m && Nat.blt y m) with
   | false=>rw [hc]at h;cases h
   | true =>
    rw[hc]at h;obtain⟨h1,h2⟩:=Bool.and_eq_true_iff.1 hc;have h1:=zR h1;have h2:=zR h2
    cases hr:bitNat op x y with
    | none=>rw [hr]at h;cases h
    | some r=>
     rw[hr]at h;injection h with h
     subst h;obtain⟨e,rfl,he,hw⟩:=lim_some hm;have hlt:=bitNat_lt h1 h2 hr;have hle:2 ^ e≤2 ^ k.bits:=Nat.pow_le_pow_right (by omega) he;refine bitsOp_ok (by omega) (by omega) ?_ (hw r hlt);cases op <;> simp only[bitNat]at hr <;> cases hr
     · exact .inl ⟨rfl,rfl⟩
     · exact .inr (.inl ⟨rfl,rfl⟩)
     · exact .inr (.inr (.inl ⟨rfl,rfl⟩))
     · exact .inr (.inr (.inr ⟨rfl,rfl⟩))
 · cases h
theorem arith_ok{op:BinOp}{t:TypeId}{ox oy:Operand}{k:IntKind}{a b:Int}{v:Value}(h:aArith op k a b=some v) :
 (zZ op t ox oy (.int k a) (.int k b)).run P wd = .ok v wd:=by
 cases op with
 | add=>injection h with h;subst h;simp [zZ,eqGuard,binOp,Op.intArith,vA,iadd_eq]
 | sub=>injection h with h;subst h;simp [zZ,eqGuard,binOp,Op.intArith,vA,isub_eq]
 | mul=>injection h with h;subst h;simp [zZ,eqGuard,binOp,Op.intArith,vA]
 | quo=>
  have h':cond (ieqB b 0) none (some (.int k (wrapB k (Int.tdiv a b))))=some v:=h;rw [vK]at h';by_cases e:b=0
  · simp[e]at h'
  · simp only[e,decide_false,cond]at h';injection h' with h';subst h'
    simp[zZ,eqGuard,binOp,Op.intDiv,e,vA]
 | rem=>
  have h':cond (ieqB b 0) none (some (.int k (Int.tmod a b)))=some v:=h;rw [vK]at h';by_cases e:b=0
  · simp[e]at h'
  · simp only[e,decide_false,cond]at h';injection h' with h';subst h'
    simp[zZ,eqGuard,binOp,Op.intDiv,e]
 | eql=>injection h with h;subst h;simp [zZ,eqGuard,binOp,Op.intCmp,vK];rfl
 | neq=>injection h with h;subst h;by_cases e:a=b <;> simp[zZ,eqGuard,binOp,Op.intCmp,vK,e]
 | lss=>injection h with h;subst h;simp [zZ,eqGuard,binOp,Op.intCmp,iltB_eq]
 | leq=>injection h with h;subst h;simp [zZ,eqGuard,binOp,Op.intCmp,ileB_eq]
 | gtr=>injection h with h;subst h;simp [zZ,eqGuard,binOp,Op.intCmp,iltB_eq]
 | geq=>injection h with h;subst h;simp [zZ,eqGuard,binOp,Op.intCmp,ileB_eq]
 | and=>exact bits_ok h
 | or=>exact bits_ok h
 | xor=>exact bits_ok h
 | andNot=>exact bits_ok h
 | shl=>
  have h':aBits .shl k a b=some v:=h;unfold aBits at h';split at h'
  · rename_i x y m hm;cases hc:(Nat.blt x m && Nat.blt y m) <;> rw[hc]at h' <;> cases h'
  · cases h'
 | shr=>
  have h':aBits .shr k a b=some v:=h;unfold aBits at h';split at h'
  · rename_i x y m hm;cases hc:(Nat.blt x m && Nat.blt y m) <;> rw[hc]at h' <;> cases h'
  · cases h'
theorem shift_ok{op:BinOp}{t:TypeId}{ox oy:Operand}{k k':IntKind}{a b:Int}{v:Value}(hop:op = .shl∨op = .shr)(h:aShift op k a b=some v) :
 (zZ op t ox oy (.int k a) (.int k' b)).run P wd = .ok v wd:=by
 unfold aShift at h
 cases b with
 | negSucc m=>cases h
 | ofNat m =>
  dsimp only at h
  cases hc:Nat.blt m k.bits with
  | false=>rw [hc]at h;cases h
  | true=>
   rw[hc]at h;have hm:=zR hc;have hmin:min m k.bits=m:=by omega
   rcases hop with rfl|rfl
   · dsimp only[cond]at h;injection h with h;subst h
     have hn:¬((m:Int)<0):=by omega
     simp[zZ,eqGuard,binOp,Op.shift,hmin,vA,hn]
   · dsimp only[cond]at h
     cases a with
     | negSucc _=>cases h
     | ofNat x =>
      dsimp only at h;injection h with h;subst h
      have hn:¬((m:Int)<0):=by omega
      have hs:(Int.ofNat x).fdiv (2 ^ m)=Int.ofNat (Nat.shiftRight x m):=by
       have:(2:Int) ^ m=((2 ^ m:Nat):Int):=by simp
       rw[this];show Int.fdiv (x:Int) ((2 ^ m:Nat):Int)=((x >>> m:Nat):Int);rw [Nat.shiftRight_eq_div_pow,Int.fdiv_eq_ediv_of_nonneg _ (Int.natCast_nonneg _)];rfl
      have hs':Int.fdiv (x:Int) (2 ^ m)=((Nat.shiftRight x m:Nat):Int):=hs;simp [zZ,eqGuard,binOp,Op.shift,hmin,hn,hs']
end
theorem str_append(a b:ByteArray):a++b=⟨⟨a.data.toList++b.data.toList⟩⟩:=by
 have h:(a++b).data=a.data++b.data:=ByteArray.data_append
 cases hs:a++b with
 | mk d =>
  rw[hs]at h
  cases d with
  | mk q =>
   have h2:q=a.data.toList++b.data.toList:=by
    have:=congrArg Array.toList h;simpa using this
   rw[h2]
section
variable {P:Program} {ng:Nat} {ρ : Inj} {base:Nat} {w0:World} {hp:zI} {n:Nat} {wd:World}
theorem eqNil_ok{t:TypeId}{d:TypeDesc}(hd:und P t=some d){x y x' y':Value}(hx:RV ρ x x')(hy:RV ρ y y'){r:Bool}(h:eqNil d x y=some r)(k:Nat) :
 (Op.equalIn (k+1) t x' y').run P wd = .ok r wd:=by
 unfold eqNil at h;split at h
 case h_1 a b=>
  injection h with h
  subst h;obtain rfl:=hx.of_bool;obtain rfl:=hy.of_bool;simp [Op.equalIn,zF hd];cases a <;> cases b <;> rfl
 all_goals first
  | (cases h;done)
  | (injection h with h;subst h;cases hx <;> cases hy <;> (rw [Op.equalIn,Sem.run_bind,zF hd];rfl))
theorem eqNil_bin{t:TypeId}{d:TypeDesc}(hd:und P t=some d){x y x' y':Value}(hx:RV ρ x x')(hy:RV ρ y y'){r:Bool}(h:eqNil d x y=some r) :
 (binOp .eql t x' y').run P wd = .ok (.bool r) wd∧(binOp .neq t x' y').run P wd = .ok (.bool (!r)) wd:=by
 have key:(Op.equal t x' y').run P wd = .ok r wd:=eqNil_ok hd hx hy h 9999
 have fin:binOp .eql t x' y'=(do let b ← Op.equal t x' y';pure (.bool b))→binOp .neq t x' y'=(do let b ← Op.equal t x' y';pure (.bool (!b)))→
  (binOp .eql t x' y').run P wd = .ok (.bool r) wd∧(binOp .neq t x' y').run P wd = .ok (.bool (!r)) wd:=fun e1 e2=>by
  rw[e1,e2];exact⟨by simp only[Sem.run_bind,key,Result.andThen_ok,Sem.run_pure],by simp only[Sem.run_bind,key,Result.andThen_ok,Sem.run_pure]⟩
 clear key;unfold eqNil at h;split at h
 all_goals first
  | (cases h;done)
  | (cases hx <;> cases hy <;> exact fin rfl rfl)
theorem asks_guard{op:BinOp}{t:TypeId}{ox oy:Operand}{x' y':Value}(h:(eqGuard .eql t ox oy x' y').run P wd = .ok () wd):(eqGuard op t ox oy x' y').run P wd = .ok () wd:=by
 cases op <;> first|exact h|rfl
theorem asks_ok{op:BinOp}{t:TypeId}{ox oy:Operand}{x y x' y':Value}(hx:RV ρ x x')(hy:RV ρ y y')(h:uC ox oy x y=true) :
 (eqGuard op t ox oy x' y').run P wd = .ok () wd:=by
 refine asks_guard ?_;cases hx <;> cases hy <;> first|rfl|(cases h;done)|skip
 simp only[uC]at h;cases ox <;> cases oy <;> first|rfl|cases h
theorem arith_plain{op:BinOp}{k:IntKind}{a b:Int}{v:Value}(h:aArith op k a b=some v):xX v=true:=by
  cases op <;> simp only[aArith]at h <;> first
    | (injection h with h;subst h;rfl)
    | (cases hc:ieqB b 0 <;> rw[hc]at h <;> cases h;rfl)
    | (unfold aBits at h
       split at h
       · rename_i x y m hm
         cases hc:(Nat.blt x m && Nat.blt y m) with
         | false=>rw [hc]at h;cases h
         | true =>
           rw[hc]at h;dsimp only[cond]at h
           cases hr:bitNat _ x y with
           | none=>rw [hr]at h;cases h
           | some r=>rw [hr]at h;injection h with h;subst h;rfl
       · cases h)
theorem shift_plain{op:BinOp}{k:IntKind}{a b:Int}{v:Value}(h:aShift op k a b=some v):xX v=true:=by
 unfold aShift at h
 cases b with
 | negSucc m=>cases h
 | ofNat m =>
  dsimp only at h
  cases hc:Nat.blt m k.bits with
  | false=>rw [hc]at h;cases h
  | true =>
   rw[hc]at h
   cases op <;> dsimp only[cond]at h <;> first
    | (cases h;done)
    | (injection h with h;subst h;rfl)
    | (cases a <;> dsimp only at h <;> first|(cases h;done)|(injection h with h;subst h;rfl))
theorem wI{kd:TypeDesc}{e:TypeId}(hd:und P e=some kd){x:Value}(hx:wH kd x=true):P.plainKey e=true:=by
 unfold Program.plainKey;rw [yP hd];unfold wH at hx;split at hx <;> first|rfl|cases hx
theorem scalEq_run{kd:TypeDesc}{e:TypeId}(hd:und P e=some kd){x y:Value}(hx:wH kd x=true){r:Bool}(h:yN x y=some r)(d:Nat):(Op.equalIn (d+1) e x y).run P wd = .ok r wd:=by
 unfold wH at hx;split at hx
 · rename_i k k2 a;cases y <;> simp only[yN]at h <;> first|(cases h;done)|skip
   rename_i k3 b
   cases hq:vH k2 k3 with
   | false=>rw [hq]at h;cases h
   | true=>
    rw[hq]at h;injection h with h;subst h
    obtain rfl:=vL hq;rw [run_equalIn_int wd d e k2 k a b (yP hd),vK];rfl
 · rename_i s;cases y <;> simp only[yN]at h <;> first|(cases h;done)|skip
   injection h with h;subst h
   rw[run_equalIn_string wd d e _ _ (yP hd),vD,ByteArray.toList_eq,ByteArray.toList_eq]
 · rename_i b;cases y <;> simp only[yN]at h <;> first|(cases h;done)|skip
   rename_i b';injection h with h;subst h
   rw[run_equalIn_bool' wd d e b b' (yP hd)];cases b <;> cases b' <;> rfl
 · cases hx
theorem scal_rv{kd:TypeDesc}{x x':Value}(hx:wH kd x=true)(hr:RV ρ x x'):x'=x:=by
 unfold wH at hx;split at hx
 · exact hr.of_int
 · exact hr.of_string
 · exact hr.of_bool
 · cases hx
theorem scalEq_rv{x y y':Value}{r:Bool}(h:yN x y=some r)(hr:RV ρ y y'):y'=y:=by
 cases x <;> cases y <;> simp only[yN]at h <;> first|(cases h;done)|exact hr.of_bool|exact hr.of_int|exact hr.of_string
theorem rvs_at{l l':List Value}(h:RVs ρ l l'){i:Nat}{v:Value}(e:l[i]? = some v):∃v',l'[i]? = some v'∧RV ρ v v':=by
 have hlt:i<l.length:=by
  rcases Nat.lt_or_ge i l.length with h1|h1
  · exact h1
  · rw[List.getElem?_eq_none h1]at e;cases e
 refine⟨l'[i]'(h.1 ▸ hlt),List.getElem?_eq_getElem _,?_⟩;exact h.2 i _ _ e (List.getElem?_eq_getElem _)
theorem eqItems_run{kd:TypeDesc}{e:TypeId}(hd:und P e=some kd){ei:TypeInfo}(hi:inf? P e=some ei){xs ys:List Value}{xs' ys':Array Value}(hx:RVs ρ xs xs'.toList)(hy:RVs ρ ys ys'.toList)(d:Nat):∀(is:List Nat) {r:Bool},eqItemsA kd ei.size xs ys is=some r→
 (Op.eqItems (d+1) e (P.cellsOf e) xs' ys' is).run P wd = .ok r wd:=by
 have hc:P.cellsOf e=ei.size:=by simp[Program.cellsOf,(zX hi).2]
 intro is
 induction is with
 | nil=>intro r h;injection h with h;subst h;simp [Op.eqItems]
 | cons i is ih =>
  intro r h;simp only[eqItemsA]at h;split at h
  case h_2=>cases h
  rename_i x y ex ey
  cases hs:wH kd x with
  | false=>rw [hs]at h;cases h
  | true =>
   rw[hs]at h;dsimp only[cond]at h;obtain⟨x',ex',rx⟩:=rvs_at hx ex;obtain⟨y',ey',ry⟩:=rvs_at hy ey;have exx:=scal_rv hs rx;subst exx;have p1:=run_part_plain (P:=P) wd (wI hd hs) (xs:=xs') (off:=i*P.cellsOf e) (v:=x') (by rw[hc,← Array.getElem?_toList];exact ex')
   cases hq:yN x' y with
   | none=>rw [hq]at h;cases h
   | some b =>
    rw[hq]at h;have eyy:=scalEq_rv hq ry;subst eyy;have p2:=run_part_plain (P:=P) wd (wI hd hs) (xs:=ys') (off:=i*P.cellsOf e) (v:=y') (by rw[hc,← Array.getElem?_toList];exact ey');have p3:=scalEq_run (wd:=wd) hd hs hq d
    cases b with
    | true=>
     simp only[Op.eqItems,Sem.run_bind,p1,p2,p3,Result.andThen_ok];simpa using ih h
    | false=>
     injection h with h;subst h
     simp only[Op.eqItems,Sem.run_bind,p1,p2,p3,Result.andThen_ok];simp
theorem eqFlds_run{xs ys:List Value}{xs' ys':Array Value}(hx:RVs ρ xs xs'.toList)(hy:RVs ρ ys ys'.toList)(d:Nat):∀(fs:List Field),fs.all (fldA P)=true→∀{r:Bool},eqFldsA P xs ys fs=some r→
 (Op.eqFields (d+1) xs' ys' fs).run P wd = .ok r wd:=by
 intro fs
 induction fs with
 | nil=>intro _ r h;injection h with h;subst h;simp [Op.eqFields]
 | cons f fs ih =>
  intro ha r h;rw [List.all_cons]at ha;obtain⟨g1,g2⟩:=Bool.and_eq_true_iff.1 ha
  have hn:f.name≠ "_" :=by
   have:=(Bool.and_eq_true_iff.1 g1).1;simpa using this
  simp only[eqFldsA]at h;split at h
  case h_2=>cases h
  rename_i kd x y hd ex ey
  cases hs:wH kd x with
  | false=>rw [hs]at h;cases h
  | true =>
   rw[hs]at h;dsimp only[cond]at h;obtain⟨x',ex',rx⟩:=rvs_at hx ex;obtain⟨y',ey',ry⟩:=rvs_at hy ey;have exx:=scal_rv hs rx;subst exx;have p1:=run_part_plain (P:=P) wd (wI hd hs) (xs:=xs') (off:=f.offset) (v:=x') (by rw[← Array.getElem?_toList];exact ex')
   cases hq:yN x' y with
   | none=>rw [hq]at h;cases h
   | some b =>
    rw[hq]at h;have eyy:=scalEq_rv hq ry;subst eyy;have p2:=run_part_plain (P:=P) wd (wI hd hs) (xs:=ys') (off:=f.offset) (v:=y') (by rw[← Array.getElem?_toList];exact ey');have p3:=scalEq_run (wd:=wd) hd hs hq d
    cases b with
    | true=>
     simp only[Op.eqFields,if_pos hn,Sem.run_bind,p1,p2,p3,Result.andThen_ok];simpa using ih g2 h
    | false=>
     injection h with h;subst h
     simp only[Op.eqFields,if_pos hn,Sem.run_bind,p1,p2,p3,Result.andThen_ok];simp
theorem flds_guard{m:Nat}:∀(fs:List Field),fs.all (fldA P)=true→(fs.any fun f=>f.name != "_" && P.eqGuardType (m+1) f.type)=false:=by
 intro fs
 induction fs with
 | nil=>intro _;rfl
 | cons f fs ih =>
  intro ha;rw [List.all_cons]at ha;obtain⟨g1,g2⟩:=Bool.and_eq_true_iff.1 ha;rw [List.any_cons,ih g2];have g3:=(Bool.and_eq_true_iff.1 g1).2
  have:P.eqGuardType (m+1) f.type=false:=by
   unfold Program.eqGuardType
   cases hd:und P f.type with
   | none=>rw [hd]at g3;cases g3
   | some kd=>
    rw[hd]at g3;rw [yP hd];cases kd <;> first|rfl|cases g3
  rw[this];simp
theorem eqA_run{t:TypeId}{xs ys:List Value}{xs' ys':Array Value}(hx:RVs ρ xs xs'.toList)(hy:RVs ρ ys ys'.toList){r:Bool}(h:eqA P t xs ys=some r)(d:Nat) :
 (Op.equalIn (d+2) t (.agg xs') (.agg ys')).run P wd = .ok r wd∧P.eqGuardType P.depth t=false:=by
 obtain⟨m,hm⟩:∃m,P.depth=m+2:=⟨2*(P.types.size+Made.depth),rfl⟩;unfold eqA at h;split at h
 case h_3=>cases h
 · rename_i fs hd
   cases hc:(fs.toList.all (fldA P) && !P.stoodInHeld t) with
   | false=>rw [hc]at h;cases h
   | true=>
    rw[hc]at h;dsimp only[cond]at h;obtain⟨g1,g2⟩:=Bool.and_eq_true_iff.1 hc;have g3:P.stoodInHeld t=false:=by simpa using g2
    have hf:P.fieldsOf t=fs:=by unfold Program.fieldsOf;rw [yP hd]
    refine⟨?_,?_⟩
    · rw[run_equalIn_agg wd (d+1) t xs' ys' (by rw[hf];exact yP hd) g3,hf];exact eqFlds_run hx hy d _ g1 h
    · rw[hm];unfold Program.eqGuardType;rw [yP hd];dsimp only;rw [← Array.any_toList];exact flds_guard _ g1
 rename_i len e hd;split at h
 case h_2=>cases h
 rename_i kd ei hk hi
 cases hsd:scalD kd with
 | false=>rw [hsd]at h;cases h
 | true=>
 rw[hsd]at h;dsimp only[cond]at h;refine⟨?_,?_⟩
 · rw[run_equalIn_array wd (d+1) xs' ys' (yP hd) (zX hi).2];exact eqItems_run hk hi hx hy d _ h
 · rw[hm];unfold Program.eqGuardType;rw [yP hd];dsimp only;unfold Program.eqGuardType;rw [yP hk];cases kd <;> first|rfl|cases hsd
theorem bin_ok{op:BinOp}{t:TypeId}{ox oy:Operand}{x y x' y':Value}(hx:RV ρ x x')(hy:RV ρ y y'){v:Value}(h:aBin P op t ox oy x y=some v) :
 ∃v',(zZ op t ox oy x' y').run P wd = .ok v' wd∧RV ρ v v':=by
 have plain:∀v:Value,xX v=true→(zZ op t ox oy x' y').run P wd = .ok v wd→∃v',(zZ op t ox oy x' y').run P wd = .ok v' wd∧RV ρ v v':=
  fun v hp he=>⟨v,he,RV.plain hp ρ⟩
 unfold aBin at h;split at h
 · rename_i k a k' b;obtain rfl:=hx.of_int;obtain rfl:=hy.of_int;split at h
   · exact plain v (shift_plain h) (shift_ok (.inl rfl) h)
   · exact plain v (shift_plain h) (shift_ok (.inr rfl) h)
   · cases hk:vH k k' with
     | false=>rw [hk]at h;cases h
     | true=>
      rw[hk]at h;obtain rfl:=vL hk;exact plain v (arith_plain h) (arith_ok h)
 · rename_i a b;obtain rfl:=hx.of_string;obtain rfl:=hy.of_string;split at h
   · injection h with h;subst h
     refine plain _ rfl ?_;simp [zZ,eqGuard,binOp,Op.stringOp,vD,ByteArray.toList_eq]
   · injection h with h;subst h
     refine plain _ rfl ?_;simp [zZ,eqGuard,binOp,Op.stringOp,vD,ByteArray.toList_eq]
   · cases hc:Nat.blt (Nat.add a.data.toList.length b.data.toList.length) 1000000 with
     | false=>rw [hc]at h;cases h
     | true =>
      rw[hc]at h;injection h with h;subst h
      refine plain _ rfl ?_;have h1:a.size+b.size<1000000:=zR hc
      have h2:¬(((a.size+b.size:Nat):Int) > IntKind.i64.max):=by
       have:IntKind.i64.max=9223372036854775807:=by decide
       rw[this];omega
      rw[← str_append];simp only[zZ,eqGuard,binOp,Op.stringOp,Sem.run_bind,Sem.run_pure,if_neg h2];rfl
   · cases h
 · rename_i a b;obtain⟨a',rfl,ra⟩:=hx.of_agg;obtain⟨b',rfl,rb⟩:=hy.of_agg;split at h
   · cases hr:eqA P t a.toList b.toList with
     | none=>rw [hr]at h;cases h
     | some r=>
      rw[hr]at h;injection h with h;subst h
      obtain⟨q1,q2⟩:=eqA_run (wd:=wd) ra rb hr 9998;refine plain _ rfl ?_;simp only[zZ,Sem.run_bind,run_eqGuard_agg wd .eql t ox oy a' b' q2,Result.andThen_ok,run_eql_struct,q1]
   · cases hr:eqA P t a.toList b.toList with
     | none=>rw [hr]at h;cases h
     | some r=>
      rw[hr]at h;injection h with h;subst h
      obtain⟨q1,q2⟩:=eqA_run (wd:=wd) ra rb hr 9998;refine plain _ rfl ?_;simp only[zZ,Sem.run_bind,run_eqGuard_agg wd .neq t ox oy a' b' q2,Result.andThen_ok,run_neq_struct,q1]
   · cases h
 · split at h
   · rename_i d hd
     cases ha:uC ox oy x y with
     | false=>rw [ha]at h;cases h
     | true =>
      rw[ha]at h;dsimp only[cond]at h
      cases hr:eqNil d x y with
      | none=>rw [hr]at h;cases h
      | some r=>
       rw[hr]at h;injection h with h;subst h
       refine plain _ rfl ?_;simp only[zZ,Sem.run_bind,asks_ok hx hy ha,Result.andThen_ok,(eqNil_bin hd hx hy hr).1]
   · rename_i d hd
     cases ha:uC ox oy x y with
     | false=>rw [ha]at h;cases h
     | true =>
      rw[ha]at h;dsimp only[cond]at h
      cases hr:eqNil d x y with
      | none=>rw [hr]at h;cases h
      | some r=>
       rw[hr]at h;injection h with h;subst h
       refine plain _ rfl ?_;simp only[zZ,Sem.run_bind,asks_ok hx hy ha,Result.andThen_ok,(eqNil_bin hd hx hy hr).2]
   · cases h
end
section
variable {P:Program} {ng:Nat} {ρ : Inj} {base:Nat} {w0:World} {hp:zI} {n:Nat} {wd:World}
theorem un_ok{op:UnOp}{x x':Value}(hx:RV ρ x x'){v:Value}(h:aUn op x=some v):∃v',(Op.unary op x').run P wd = .ok v' wd∧RV ρ v v':=by
 unfold aUn at h;split at h
 · injection h with h;subst h
   obtain rfl:=hx.of_int;refine⟨_,?_,RV.int _ _⟩;simp [Op.unary,Op.intArith,vA,isub_eq]
 · injection h with h;subst h
   obtain rfl:=hx.of_bool;exact⟨_,rfl,RV.bool _⟩
 · cases h
theorem convert_ok{src dst:TypeId}{x x':Value}(hx:RV ρ x x')(hs:∃d,und P src=some d){v:Value}(h:aConvert P dst x=some v) :
 ∃v',(convert src dst x').run P wd = .ok v' wd∧RV ρ v v':=by
 obtain⟨d,hd⟩:=hs;unfold aConvert at h;split at h
 · rename_i k k' m hdst;injection h with h;subst h
   obtain rfl:=hx.of_int;refine⟨_,?_,RV.int _ _⟩;simp only[convert,Sem.run_bind,zF hd,zF hdst,Result.andThen_ok];cases d <;> simp[Conv.intToInt,vA]
 · rename_i s hdst;injection h with h;subst h
   obtain rfl:=hx.of_string;refine⟨_,?_,RV.string _⟩;simp only[convert,Sem.run_bind,zF hd,zF hdst,Result.andThen_ok];cases d <;> rfl
 · cases h
theorem scalEq_now{kd:TypeDesc}{k k':Value}{r:Bool}(hk:wH kd k=true)(h:yN k k'=some r):Instr.sameNow kd k k'=some r:=by
 unfold wH at hk;split at hk
 · rename_i kk k2 a;cases k' <;> simp only[yN]at h <;> first|(cases h;done)|skip
   rename_i k3 b
   cases hq:vH k2 k3 with
   | false=>rw [hq]at h;cases h
   | true=>
    rw[hq]at h;injection h with h;subst h
    obtain rfl:=vL hq;simp [Instr.sameNow,vK];rfl
 · rename_i s;cases k' <;> simp only[yN]at h <;> first|(cases h;done)|skip
   injection h with h;subst h
   simp[Instr.sameNow,vD,beq_toListBytes,ByteArray.toList_eq]
 · rename_i b;cases k' <;> simp only[yN]at h <;> first|(cases h;done)|skip
   injection h with h;subst h
   simp only[Instr.sameNow];rename_i b';cases b <;> cases b' <;> rfl
 · cases hk
def FR(ρ : Inj)(r r':Option (Nat×Value)):Prop:=
 match r,r' with
 | none,none=>True
 | some (i,v),some (j,v')=>i=j∧RV ρ v v'
 | _,_=>False
theorem keyEq_scal{k k':Value}(h:∀a,k≠.agg a):keyEq k k'=yN k k':=by
 cases k <;> first|(exact absurd rfl (h _))|(cases k' <;> rfl)
theorem scal_noagg{kd:TypeDesc}{k:Value}(hk:wH kd k=true):∀a,k≠.agg a:=by
 intro a e;subst e;cases kd <;> cases hk
theorem uG{kd:TypeDesc}{k:Value}(h:keyT P kd k=true):wH kd k=true∨
 ∃len e cs ed ei,kd = .array len e∧k = .agg cs∧und P e=some ed∧inf? P e=some ei∧ei.size=1∧cs.toList.length=len∧∀x∈cs.toList,wH ed x=true:=by
 unfold keyT at h;split at h
 · rename_i len e cs;split at h
   · rename_i ed ei h1 h2;obtain⟨g1,g2⟩:=Bool.and_eq_true_iff.1 h;obtain⟨g2,g3⟩:=Bool.and_eq_true_iff.1 g2;exact .inr ⟨len,e,cs,ed,ei,rfl,rfl,h1,h2,zG g1,zG g2,List.all_eq_true.1 g3⟩
   · cases h
 · exact .inl h
theorem find_ok{kd:TypeDesc}{k:Value}(hk:wH kd k=true):∀{es es':List MapEntry},EsR ρ es es'→∀{i:Nat} {r:Option (Nat×Value)},findE k es i=some r→
 ∃r',Instr.findNow kd k es' i=some r'∧FR ρ r r':=by
 intro es
 induction es with
 | nil=>
  intro es' he i r h;have:es'=[]:=by have:=he.1;cases es' <;> simp_all
  subst this;simp only[findE]at h;injection h with h;subst h
  exact⟨none,rfl,trivial⟩
 | cons e es ih =>
  intro es' he i r h
  cases es' with
  | nil=>have:=he.1;simp at this
  | cons e' es' =>
   obtain⟨hk1,hv1,hb1⟩:=he.2 0 e e' rfl rfl;have he':EsR ρ es es':=⟨by have:=he.1;simpa using this,fun j a b h1 h2=>he.2 (j+1) a b (by simpa using h1) (by simpa using h2)⟩;simp only[findE]at h;rw [keyEq_scal (scal_noagg hk)]at h
   cases hs:yN k e.key with
   | none=>rw [hs]at h;cases h
   | some b =>
    rw[hs]at h;have hn:=scalEq_now hk hs
    cases b with
    | true=>
     dsimp only at h;injection h with h;subst h
     refine⟨some (i,e'.val),?_,rfl,hv1⟩;simp only[Instr.findNow,hk1,hn]
    | false=>
     dsimp only at h;obtain⟨r',h1,h2⟩:=ih he' h;refine⟨r',?_,h2⟩;simp only[Instr.findNow,hk1,hn];exact h1
theorem scalsEq_items{ed:TypeDesc}{e:TypeId}(hd:und P e=some ed){xs ys:Array Value}(hx:∀x∈xs.toList,wH ed x=true):∀(j i:Nat),i+j=xs.toList.length→∀{r:Bool},scalsEq (xs.toList.drop i) (ys.toList.drop i)=some r→∀d,
 (Op.eqItems (d+1) e 1 xs ys (List.range' i j)).run P wd = .ok r wd:=by
 intro j
 induction j with
 | zero=>
  intro i hi r h d;rw [List.drop_eq_nil_of_le (by omega)]at h
  cases hy:ys.toList.drop i with
  | nil=>rw [hy]at h;injection h with h;subst h;simp [Op.eqItems]
  | cons _ _=>rw [hy]at h;cases h
 | succ j ih =>
  intro i hi r h d;have hlt:i<xs.toList.length:=by omega
  rw[List.drop_eq_getElem_cons hlt]at h
  cases hy:ys.toList.drop i with
  | nil=>rw [hy]at h;cases h
  | cons y yr =>
   have hlt2:i<ys.toList.length:=by
    rcases Nat.lt_or_ge i ys.toList.length with h1|h1
    · exact h1
    · rw[List.drop_eq_nil_of_le h1]at hy;cases hy
   rw[List.drop_eq_getElem_cons hlt2]at hy;injection hy with hy1 hy2
   rw[List.drop_eq_getElem_cons hlt2]at h;simp only[scalsEq]at h;have hs:=hx _ (List.getElem_mem hlt);have pk:=wI hd hs;have p1:=run_part_plain (P:=P) wd pk (xs:=xs) (off:=i*1) (by rw[Nat.mul_one,← Array.getElem?_toList];exact List.getElem?_eq_getElem hlt);have p2:=run_part_plain (P:=P) wd pk (xs:=ys) (off:=i*1) (by rw[Nat.mul_one,← Array.getElem?_toList];exact List.getElem?_eq_getElem hlt2)
   cases hq:yN (xs.toList[i]) (ys.toList[i]) with
   | none=>rw [hq]at h;cases h
   | some b =>
    rw[hq]at h;have p3:=scalEq_run (wd:=wd) hd hs hq d;rw [List.range'_succ]
    cases b with
    | true=>
     simp only[Op.eqItems,Sem.run_bind,p1,p2,p3,Result.andThen_ok];simpa using ih (i+1) (by omega) h d
    | false=>
     injection h with h;subst h
     simp only[Op.eqItems,Sem.run_bind,p1,p2,p3,Result.andThen_ok];simp
theorem keyEq_run{len:Nat}{e kt:TypeId}{cs:Array Value}{ed:TypeDesc}{ei:TypeInfo}(hkt:und P kt=some (.array len e))(hd:und P e=some ed)(hi:inf? P e=some ei)(h1:ei.size=1)(hl:cs.toList.length=len)
(hx:∀x∈cs.toList,wH ed x=true){k':Value}{r:Bool}(h:keyEq (.agg cs) k'=some r):(Op.equal kt (.agg cs) k').run P wd = .ok r wd:=by
 cases k' <;> first|(cases h;done)|skip
 rename_i ys;have h':scalsEq cs.toList ys.toList=some r:=h;have:=scalsEq_items (wd:=wd) hd hx len 0 (by omega) (ys:=ys) h' 9998;have hc:P.cellsOf e=1:=by simp[Program.cellsOf,(zX hi).2,h1]
 show(Op.equalIn 10000 kt (.agg cs) (.agg ys)).run P wd=_;rw [run_equalIn_array wd 9999 cs ys (yP hkt) (zX hi).2,hc,List.range_eq_range'];exact this
theorem check_ok{kd:TypeDesc}{kt:TypeId}{k:Value}(hd:und P kt=some kd)(hk:keyT P kd k=true)(empty:Bool)(m:Nat):(Instr.checkKey empty (m+2) kt k).run P wd = .ok () wd:=by
 rcases uG hk with hk|⟨len,e,cs,ed,ei,rfl,rfl,h1,h2,h3,h4,h5⟩
 · unfold wH at hk;split at hk
   all_goals first
    | (cases hk;done)
    | simp[Instr.checkKey,zF hd]
 · rw[Instr.checkKey];simp only[Sem.run_bind,zF hd,Result.andThen_ok];simp only[Std.Legacy.Range.forIn_eq_forIn_range',Std.Legacy.Range.size,Nat.sub_zero,Nat.add_one_sub_one,Nat.div_one]
   have each:∀i∈List.range' 0 len,i<cs.toList.length:=fun i hi=>by
    have:=List.mem_range'_1.1 hi;omega
   generalize List.range' 0 len=is at each
   induction is with
   | nil=>simp
   | cons j is ih =>
    have hlt:=each j (by simp);have hs:=h5 _ (List.getElem_mem hlt);have hc:P.cellsOf e=1:=by simp[Program.cellsOf,(zX h2).2,h3]
    have p1:=run_part_plain (P:=P) wd (wI h1 hs) (xs:=cs) (off:=j*P.cellsOf e) (by rw[hc,Nat.mul_one,← Array.getElem?_toList];exact List.getElem?_eq_getElem hlt)
    have p2:(Instr.checkKey empty (m+1) e (cs.toList[j])).run P wd = .ok () wd:=by
     generalize cs.toList[j]=x at hs
     unfold wH at hs;split at hs
     all_goals first
      | (cases hs;done)
      | simp[Instr.checkKey,zF h1]
    simp only[List.forIn_cons,Sem.run_bind,run_sizeOf wd (zX h2).2,Result.andThen_ok,p1,p2,Sem.run_pure];exact ih (fun y hy=>each y (by simp[hy]))
theorem vE{kd:TypeDesc}{kt:TypeId}{k:Value}(hd:und P kt=some kd)(hk:keyT P kd k=true){es es':List MapEntry}(he:EsR ρ es es'){r:Option (Nat×Value)}(h:findE k es 0=some r) :
 ∃r',(Instr.findKey kt k es').run P wd = .ok r' wd∧FR ρ r r':=by
 rcases uG hk with hk|⟨len,e,cs,ed,ei,rfl,rfl,h1,h2,h3,h4,h5⟩
 · obtain⟨r',h1,h2⟩:=find_ok hk he h;exact⟨r',by simp[Instr.findKey,zF hd,h1],h2⟩
 · rw[run_findKey_eq wd (by rw[yP hd])]
   have key:∀{es es':List MapEntry},EsR ρ es es'→∀{i:Nat} {r:Option (Nat×Value)},findE (.agg cs) es i=some r→∃r',(Instr.findAsking kt (.agg cs) es' i).run P wd = .ok r' wd∧FR ρ r r':=by
    intro es
    induction es with
    | nil=>
     intro es' he i r h;have:es'=[]:=by have:=he.1;cases es' <;> simp_all
     subst this;simp only[findE]at h;injection h with h;subst h
     exact⟨none,by simp[Instr.findAsking],trivial⟩
    | cons f es ih =>
     intro es' he i r h
     cases es' with
     | nil=>have:=he.1;simp at this
     | cons f' es' =>
      obtain⟨hk1,hv1,hb1⟩:=he.2 0 f f' rfl rfl;have he':EsR ρ es es':=⟨by have:=he.1;simpa using this,fun j a b h1 h2=>he.2 (j+1) a b (by simpa using h1) (by simpa using h2)⟩;simp only[findE]at h
      cases hs:keyEq (.agg cs) f.key with
      | none=>rw [hs]at h;cases h
      | some b =>
       rw[hs]at h;have hn:=keyEq_run (wd:=wd) hd h1 h2 h3 h4 h5 hs
       cases b with
       | true=>
        dsimp only at h;injection h with h;subst h
        exact⟨some (i,f'.val),by simp[Instr.findAsking,hk1,hn],rfl,hv1⟩
       | false=>
        dsimp only at h;obtain⟨r',g1,g2⟩:=ih he' h;exact⟨r',by simp[Instr.findAsking,hk1,hn,g1],g2⟩
   exact key he h
theorem uH{kd:TypeDesc}{k k':Value}(hk:keyT P kd k=true)(hr:RV ρ k k'):k'=k:=by
 rcases uG hk with hk|⟨len,e,cs,ed,ei,rfl,rfl,h1,h2,h3,h4,h5⟩
 · exact scal_rv hk hr
 · obtain⟨c',rfl,hc⟩:=hr.of_agg
   have:c'.toList=cs.toList:=by
    apply List.ext_getElem?;intro i;rcases Nat.lt_or_ge i cs.toList.length with hlt|hlt
    · obtain⟨v',e1,e2⟩:=rvs_at hc (List.getElem?_eq_getElem hlt);rw [e1,List.getElem?_eq_getElem hlt,scal_rv (h5 _ (List.getElem_mem hlt)) e2]
    · rw[List.getElem?_eq_none (by rw[← hc.1];exact hlt),List.getElem?_eq_none hlt]
   rw[Array.toList_inj.1 this]
theorem map_at(hH:HeapR P ng ρ base w0 hp n wd){r:Nat}{B:Bl}(hb: ρ r=some B){es:List MapEntry}{clock:Nat}(hg:zH hp r = .map es clock) :
 ∃es',wd.heap[B.b]? = some (.map ⟨es'⟩ clock)∧EsR ρ es es'∧base≤B.b:=by
 obtain⟨o,e1,e2⟩:=hH.obj r B hb (by rw[hg];exact AObj.noConfusion);rw [hg]at e2
 cases e2 with
 | map he hb'=>exact⟨_,e1,he,hb'⟩
theorem yA{r:Nat}{es':List MapEntry}{clock:Nat}(h:wd.heap[r]? = some (.map ⟨es'⟩ clock)):(getObj r).run P wd = .ok (.map ⟨es'⟩ clock) wd:=by
 simp[getObj,Sem.run,h]
theorem lookup_ok(hP:zP ng P=true)(hH:HeapR P ng ρ base w0 hp n wd){ty:TypeId}{x x' k k':Value}{ok:Bool}(hx:RV ρ x x')(hk:RV ρ k k'){v:Value}(h:aLookup P hp ty x k ok=some v) :
 ∃v',(Instr.lookup ty x' k' ok).run P wd = .ok v' wd∧RV ρ v v':=by
 unfold aLookup at h;split at h
 case h_2=>cases h
 rename_i kt et hd;split at h
 case h_2=>cases h
 rename_i kd z hkd hz
 cases hs:keyT P kd k with
 | false=>rw [hs]at h;cases h
 | true =>
  rw[hs]at h;dsimp only[cond]at h;obtain rfl:=uH hs hk;have hzp:=xN hP hz
  have mk:∀(w w':Value) (b:Bool),RV ρ w w'→RV ρ (cond ok (.tuple #[w,.bool b]) w) (if ok=true then .tuple #[w',.bool b] else w'):=by
   intro w w' b hr
   cases ok with
   | true=>exact RV.mk_tuple (RVs.cons hr (RVs.cons (RV.bool b) (RVs.nil ρ)))
   | false=>exact hr
  split at h
  · injection h with h;subst h
    cases hx
    refine⟨_,?_,mk z z false (RV.plain hzp ρ)⟩;simp [Instr.lookup,zF hd,check_ok hkd hs true 9998,Instr.findKey,zF hkd,Instr.findNow,yZ hz]
  · rename_i r;obtain⟨B,hb,rfl⟩:=hx.of_map;split at h
    · rename_i es clock hg;obtain⟨es',e1,he,_⟩:=map_at hH hb hg;have hck:=check_ok (wd:=wd) hkd hs;split at h
      · rename_i i w hf;injection h with h;subst h
        obtain⟨r',h1,h2⟩:=vE (wd:=wd) hkd hs he hf
        cases r' with
        | none=>exact h2.elim
        | some p=>
         obtain⟨j,w'⟩:=p;refine⟨_,?_,mk w w' true h2.2⟩;simp [Instr.lookup,zF hd,yA e1,hck _ 9998,h1]
      · rename_i hf;injection h with h;subst h
        obtain⟨r',h1,h2⟩:=vE (wd:=wd) hkd hs he hf
        cases r' with
        | some p=>exact h2.elim
        | none=>
         refine⟨_,?_,mk z z false (RV.plain hzp ρ)⟩;simp [Instr.lookup,zF hd,yA e1,hck _ 9998,h1,yZ hz]
      · cases h
    · cases h
  · cases h
theorem typeAssert_ok(hP:zP ng P=true){x x':Value}{xt asserted:TypeId}{ok:Bool}(hx:RV ρ x x'){v:Value}(h:aTypeAssert P x asserted ok=some v) :
 ∃v',(Instr.typeAssert x' xt asserted ok).run P wd = .ok v' wd∧RV ρ v v':=by
 unfold aTypeAssert at h;split at h
 · cases h
 · rename_i d hnot hd;have hni:∀ms,d≠.interface ms:=fun ms e=>hnot ms e
   have zz:∀z,yO P asserted=some z→ok=true→v = .tuple #[z,.bool false]→RV ρ v (.tuple #[z,.bool false]):=by
    intro z hz _ hv;rw [hv];exact RV.mk_tuple (RVs.cons (RV.plain (xN hP hz) ρ) (RVs.cons (RV.bool _) (RVs.nil ρ)))
   split at h
   · rename_i t w
     cases hx with
     | iface hw =>
      rename_i w'
      cases hq:Nat.beq t asserted with
      | true=>
       rw[hq]at h;obtain rfl:=zG hq;dsimp only[cond]at h;injection h with h;subst h
       refine⟨if ok=true then .tuple #[w',.bool true] else w',?_,?_⟩
       · simp only[Instr.typeAssert,Sem.run_bind,zF hd,Result.andThen_ok];cases d <;> first|(exact absurd rfl (hni _))|simp
       · cases ok with
         | true=>exact RV.mk_tuple (RVs.cons hw (RVs.cons (RV.bool _) (RVs.nil ρ)))
         | false=>exact hw
      | false =>
       rw[hq]at h;have hne:¬t=asserted:=fun e=>by subst e;rw [Nat.beq_refl]at hq;cases hq
       cases ok with
       | false=>cases h
       | true =>
        dsimp only[cond]at h
        cases hz:yO P asserted with
        | none=>rw [hz]at h;cases h
        | some z=>
         rw[hz]at h;injection h with h
         refine⟨.tuple #[z,.bool false],?_,zz z hz rfl h.symm⟩;simp only[Instr.typeAssert,Sem.run_bind,zF hd,Result.andThen_ok];cases d <;> first|(exact absurd rfl (hni _))|simp [hne,yZ hz]
   · cases hx
     cases ok with
     | false=>cases h
     | true =>
      dsimp only[cond]at h
      cases hz:yO P asserted with
      | none=>rw [hz]at h;cases h
      | some z=>
       rw[hz]at h;injection h with h
       refine⟨.tuple #[z,.bool false],?_,zz z hz rfl h.symm⟩;simp only[Instr.typeAssert,Sem.run_bind,zF hd,Result.andThen_ok];cases d <;> first|(exact absurd rfl (hni _))|simp [yZ hz]
   · cases h
 · cases h
theorem len_ok(hH:HeapR P ng ρ base w0 hp n wd){ty rt:TypeId}{x x':Value}(hx:RV ρ x x'){v:Value}(h:aLen P hp ty x=some v)(tys:List TypeId)(rest:List Value) :
 ∃v',(Builtin.len_ ⟨ty::tys⟩ rt ⟨x'::rest⟩).run P wd = .ok v' wd∧RV ρ v v':=by
 unfold aLen at h;split at h
 · rename_i e a m c hd;injection h with h;subst h
   refine⟨.int .i64 (.ofNat m),?_,RV.int _ _⟩;cases hx <;> simp[Builtin.len_,zF hd,goInt]
 · rename_i s hd;injection h with h;subst h
   obtain rfl:=hx.of_string;refine⟨.int .i64 (.ofNat s.data.toList.length),?_,RV.int _ _⟩;simp [Builtin.len_,zF hd,goInt]
 · rename_i m e hd;injection h with h;subst h
   refine⟨.int .i64 (.ofNat m),?_,RV.int _ _⟩;simp [Builtin.len_,zF hd,goInt]
 · rename_i e1 e2 hd;injection h with h;subst h
   cases hx
   refine⟨.int .i64 (.ofNat 0),?_,RV.int _ _⟩;simp [Builtin.len_,zF hd,goInt]
 · rename_i e1 e2 r hd;obtain⟨B,hb,rfl⟩:=hx.of_map;split at h
   · rename_i es clock hg;injection h with h;subst h
     obtain⟨es',h1,he,_⟩:=map_at hH hb hg;refine⟨.int .i64 (.ofNat es.length),?_,RV.int _ _⟩;simp [Builtin.len_,zF hd,goInt,yA h1,he.1]
   · cases h
 · cases h
theorem cap_ok{ty rt:TypeId}{x x':Value}(hx:RV ρ x x'){v:Value}(h:aCap P ty x=some v)(tys:List TypeId)(rest:List Value) :
 ∃v',(Builtin.cap_ ⟨ty::tys⟩ rt ⟨x'::rest⟩).run P wd = .ok v' wd∧RV ρ v v':=by
 unfold aCap at h;split at h
 · rename_i e a m c hd
   cases hq:Nat.beq c inf with
   | true=>rw [hq]at h;cases h
   | false=>
    rw[hq]at h;dsimp only[cond]at h;injection h with h;subst h
    refine⟨.int .i64 (.ofNat c),?_,RV.int _ _⟩
    cases hx with
    | nilSlice=>simp [Builtin.cap_,zF hd,goInt]
    | slice=>simp [Builtin.cap_,zF hd,goInt]
    | opened=>rw [Nat.beq_refl]at hq;cases hq
 · rename_i m e hd;injection h with h;subst h
   refine⟨.int .i64 (.ofNat m),?_,RV.int _ _⟩;simp [Builtin.cap_,zF hd,goInt]
 · cases h
theorem max_fold(big:Bool):∀{l l':List Value} {x v:Value},RVs ρ l l'→aMax big x l=some v→(l=[]∧v=x)∨∃k i r,x = .int k i∧v = .int k r∧
 (l'.foldlM (if big=true then Builtin.max2 else Builtin.min2) (.int k i)).run P wd = .ok (.int k r) wd:=by
 intro l
 induction l with
 | nil=>intro l' x v hl h;simp only[aMax]at h;injection h with h;exact .inl ⟨rfl,h.symm⟩
 | cons y l ih =>
  intro l' x v hl h;obtain⟨y',r',rfl,hy,hr⟩:=hl.of_cons;cases x <;> cases y <;> simp only[aMax]at h <;> first|(cases h;done)|skip
  rename_i k i k' j;obtain rfl:=hy.of_int
  cases hk:vH k k' with
  | false=>rw [hk]at h;cases h
  | true =>
   rw[hk]at h;obtain rfl:=vL hk;have h:aMax big (.int k (cond (cond big (iltB i j) (iltB j i)) j i)) l=some v:=h;right
   have step:((if big=true then Builtin.max2 else Builtin.min2) (.int k i) (.int k j)).run P wd = .ok (.int k (cond (cond big (iltB i j) (iltB j i)) j i)) wd:=by
    rw[iltB_eq,iltB_eq]
    cases big with
    | true=>
     by_cases hij:i<j <;> simp[Builtin.max2,hij]
    | false=>
     by_cases hij:j<i <;> simp[Builtin.min2,hij]
   rcases ih hr h with⟨rfl,rfl⟩|⟨k2,i2,r2,e1,e2,e3⟩
   · obtain rfl:=hr.of_nil;exact⟨k,i,_,rfl,rfl,by rw[List.foldlM_cons,Sem.run_bind,step,Result.andThen_ok];rfl⟩
   · injection e1 with e4 e5
     subst e4;refine⟨k,i,r2,rfl,e2,?_⟩;rw [List.foldlM_cons,Sem.run_bind,step,Result.andThen_ok,e5];exact e3
theorem max_ok{big:Bool}{x x':Value}{l l':List Value}(hx:RV ρ x x')(hl:RVs ρ l l'){v:Value}(h:aMax big x l=some v)(tys:Array TypeId)(rt:TypeId) :
 ∃v',((if big=true then Builtin.max_ else Builtin.min_) tys rt ⟨x'::l'⟩).run P wd = .ok v' wd∧RV ρ v v':=by
 rcases max_fold (P:=P) (wd:=wd) big hl h with⟨rfl,rfl⟩|⟨k,i,r,rfl,rfl,e⟩
 · obtain rfl:=hl.of_nil;refine⟨x',?_,hx⟩;cases big <;> rfl
 · obtain rfl:=hx.of_int;refine⟨_,?_,RV.int k r⟩;cases big <;> exact e
theorem aBin_int_plain{op:BinOp}{t:TypeId}{ox oy:Operand}{k k':IntKind}{a b:Int}{v:Value}(h:aBin P op t ox oy (.int k a) (.int k' b)=some v):xX v=true:=by
 unfold aBin at h;dsimp only at h;split at h
 · exact shift_plain h
 · exact shift_plain h
 · cases hk:vH k k' with
   | false=>rw [hk]at h;cases h
   | true=>rw [hk]at h;exact arith_plain h
theorem intOp_plain{op:BinOp}{k:IntKind}{a b:Int}{s:Option Value}{v:Value}(h:intOp op k a b s=some v):xX v=true∨s=some v:=by
 have hw:∀r:Int,(Int.rec (fun m=>some (Value.int k (.ofNat m))) (fun m=>some (Value.int k (.negSucc m))) r:Option Value)=some v→xX v=true:=by
  intro r h5;cases r <;> (injection h5 with h5;subst h5;rfl)
 cases op with
 | add=>exact .inl (hw _ h)
 | sub=>exact .inl (hw _ h)
 | eql=>left;injection h with h;subst h;rfl
 | neq=>left;injection h with h;subst h;rfl
 | lss=>left;injection h with h;subst h;rfl
 | leq=>left;injection h with h;subst h;rfl
 | gtr=>left;injection h with h;subst h;rfl
 | geq=>left;injection h with h;subst h;rfl
 | _=>exact .inr h
theorem binV_ok{op:BinOp}{t:TypeId}{ox oy:Operand}{x y x' y':Value}(hx:RV ρ x x')(hy:RV ρ y y'){v:Value}(h:binV P op t ox oy x y=some v) :
 ∃v',(zZ op t ox oy x' y').run P wd = .ok v' wd∧RV ρ v v':=by
 unfold binV at h;rcases onInt_some h with⟨k1,a,e1,h1⟩|h1
 · rcases onInt_some h1 with⟨k2,b,e2,h2⟩|h2
   · cases hk:vH k1 k2 with
     | false=>rw [hk]at h2;exact bin_ok hx hy h2
     | true=>
      rw[hk]at h2;have h3:intOp op k1 a b (aBin P op t ox oy x y)=some v:=h2;obtain rfl:=vL hk;subst e1 e2;obtain rfl:=hx.of_int;obtain rfl:=hy.of_int;rcases intOp_ok (P:=P) (wd:=wd) (t:=t) (ox:=ox) (oy:=oy) h3 with h4|h4
      · refine⟨v,h4,?_⟩
        have:xX v=true:=by
         rcases intOp_plain h3 with h5|h5
         · exact h5
         · exact aBin_int_plain h5
        exact RV.plain this ρ
      · exact bin_ok (RV.int _ _) (RV.int _ _) h4
   · exact bin_ok hx hy h2
 · exact bin_ok hx hy h1
end
section
variable {P:Program} {ng:Nat} {ρ : Inj} {base:Nat} {w0:World} {hp:zI} {n:Nat} {wd:World} {N:Nat} {t:Fr} {a:Act}
theorem arr_map(f:Operand→Value)(l:Array Operand):l.map f=⟨l.toList.map f⟩:=by
 cases l;simp
theorem vM(f:Operand→Value)(b:Builtin)(args:Array Operand)(tys:Array TypeId)(ty:TypeId) :
 (resolve f ⟨.builtin b,args,tys⟩ ty).run P wd = .ok { target:=.builtin b tys ty (args.map fun | .const _=>true|_=>false),args:=args.map f } wd:=rfl
theorem quiet_ok(hP:zP ng P=true)(hH:HeapR P ng ρ base w0 hp n wd){o:Oper}(E:∀x,x∈o.op.operands.toList→RV ρ (ev t x) (a.eval x)){v:Value}(h:vY o.op P t hp=some v) :
 ∃v',(execOp a.eval o).run P wd = .ok (.value v') wd∧RV ρ v v':=by
 have val:∀{s:Sem Value} {v:Value},(∃v',s.run P wd = .ok v' wd∧RV ρ v v')→execOp a.eval o=(do pure (Next.value (← s)))→∃v',(execOp a.eval o).run P wd = .ok (.value v') wd∧RV ρ v v':=by
  intro s v ⟨v',e1,e2⟩ e3;refine⟨v',?_,e2⟩;rw [e3,Sem.run_bind,e1];rfl
 obtain⟨dst,op,type,pos,after,guard⟩:=o;dsimp only at h E val ⊢
 cases op with
 | move x=>
  have h':uD (ev t x) some=some v:=h;rw [wZ]at h';injection h' with h';subst h'
  exact⟨_,rfl,E x (by simp[Op.operands])⟩
 | assign x=>
  have h':uD (ev t x) some=some v:=h;rw [wZ]at h';injection h' with h';subst h'
  exact⟨_,rfl,E x (by simp[Op.operands])⟩
 | pick c x y =>
  have h':onBool (ev t c) (fun b=>uD (Bool.rec (ev t y) (ev t x) b) some) none=some v:=h;rcases onBool_some h' with⟨b,e1,e2⟩|e2
  case inr=>cases e2
  rw[wZ]at e2;injection e2 with e2
  have hc:=E c (by simp[Op.operands]);rw [e1]at hc;have hcb:=hc.of_bool
  cases b with
  | true=>
   refine⟨a.eval x,?_,by rw[← e2];exact E x (by simp[Op.operands])⟩;simp [execOp,hcb,asBool]
  | false=>
   refine⟨a.eval y,?_,by rw[← e2];exact E y (by simp[Op.operands])⟩;simp [execOp,hcb,asBool]
 | build ty parts=>
  have h':aBuild P ty (parts.toList.map fun p=>(p.1,ev t p.2))=some v:=h;refine val (build_ok hP (ps':=parts.toList.map fun p=>(p.1,a.eval p.2)) (PsR.map _ _ _ fun p hp=>E p.2 ?_) h') ?_
  · simp only[Op.operands,List.mem_map];exact⟨p,hp,rfl⟩
  · have:(parts.map fun(x:Nat×Operand)=>(x.1,a.eval x.2))=⟨parts.toList.map fun p=>(p.1,a.eval p.2)⟩:=by cases parts;simp
    simp only[execOp];rw [← this]
 | load ty x=>exact val (load_ok hH (E x (by simp[Op.operands])) h) rfl
 | nilCheck x =>
  have hx:=E x (by simp[Op.operands])
  have h':(match ev t x with
   | .pointer (some p)=>some (.pointer (some p))
   | .func (.func f) fs cs=>some (.func (.func f) fs cs)
   | .func (.yield f) fs cs=>some (.func (.yield f) fs cs)
   | .map r=>some (.map r)
   | .slice p i c=>some (.slice p i c)
   | _=>none)=some v:=h
  have key:ev t x=v∧(∀u u',RV ρ u u'→u=v→(match u' with
   | .pointer none | .nilIface | .nilFunc=>False
   | .func (.method _) _ _=>False
   | _=>True)):=by
   split at h' <;> first
    | (cases h';done)
    | (rename_i e;injection h' with h';subst h';exact⟨e,fun u u' hu hv=>(by subst hv;cases hu <;> trivial)⟩)
  refine⟨a.eval x,?_,key.1 ▸ hx⟩;have hk:=key.2 _ _ hx key.1;simp only[execOp]
  split <;> first
   | (rename_i e;rw [e]at hk;exact hk.elim)
   | rfl
 | binOp op ty x y yt=>
  have h':binV P op ty x y (ev t x) (ev t y)=some v:=h;exact val (binV_ok (E x (by simp[Op.operands])) (E y (by simp[Op.operands])) h') rfl
 | unOp op ty x=>
  have h':aUn op (ev t x)=some v:=h;exact val (un_ok (E x (by simp[Op.operands])) h') rfl
 | convert src dst' x =>
  have h':(match und P src with
   | some _=>aConvert P dst' (ev t x)
   | none=>none)=some v:=h
  cases hs:und P src with
  | none=>rw [hs]at h';cases h'
  | some d=>rw [hs]at h';exact val (convert_ok (E x (by simp[Op.operands])) ⟨d,hs⟩ h') rfl
 | makeInterface ty x =>
  have h':(match und P ty with
   | some (.interface _)=>none
   | some _=>uD (ev t x) fun v=>some (.iface ty v)
   | none=>none)=some v:=h
  have hx:=E x (by simp[Op.operands]);refine val (s:=Instr.makeInterface ty (a.eval x)) (v:=v) ?_ rfl;split at h'
  · cases h'
  · rename_i d hni hd;rw [wZ]at h';injection h' with h';subst h'
    refine⟨.iface ty (a.eval x),?_,.iface hx⟩;simp only[Instr.makeInterface,Sem.run_bind,zF hd,Result.andThen_ok];cases d <;> first|rfl|exact absurd rfl (hni _)
  · cases h'
 | makeFunc fn first cap =>
  cases fn with
  | func f=>
   have h':some (Value.func (.func f) ⟨first.toList.map (ev t)⟩ ⟨cap.toList.map (ev t)⟩)=some v:=h;injection h' with h';subst h'
   refine⟨.func (.func f) (first.map a.eval) (cap.map a.eval),rfl,?_⟩;rw [arr_map,arr_map];have h1:=RVs.map (ρ := ρ) (ev t) a.eval first.toList fun x hx=>E x (by simp[Op.operands,hx]);have h2:=RVs.map (ρ := ρ) (ev t) a.eval cap.toList fun x hx=>E x (by simp[Op.operands,hx]);exact .func (by intro l;exact Fn.noConfusion) h1.1 h2.1 h1.2 h2.2
  | _=>cases h
 | slice ty x lo hi mx =>
  have h':aSlice P hp ty (ev t x) (lo.map (ev t)) (hi.map (ev t)) (mx.map (ev t))=some v:=h
  have orv:∀(z:Option Operand),(∀y,z=some y→y∈(Op.slice ty x lo hi mx).operands.toList)→ORV ρ (z.map (ev t)) (z.map a.eval):=by
   intro z hz
   cases z with
   | none=>trivial
   | some y=>exact E y (hz y rfl)
  refine val (slice_ok hH (E x (by simp[Op.operands])) (orv lo ?_) (orv hi ?_) (orv mx ?_) h') rfl
  · intro y e;subst e;simp [Op.operands]
  · intro y e;subst e;simp [Op.operands]
  · intro y e;subst e;simp [Op.operands]
 | fieldAddr ty x f =>
  have h':onPtr (ev t x) (fun b off=>Option.rec none (fun o=>some (.pointer (some ⟨b,Nat.add off o,none⟩))) (offOf P ty f)) none=some v:=h;have hx:=E x (by simp[Op.operands]);rcases uF h' with⟨b,off,e1,e2⟩|e2
  case inr=>cases e2
  cases hf:offOf P ty f with
  | none=>rw [hf]at e2;cases e2
  | some o=>
   rw[hf]at e2;have e2':some (Value.pointer (some ⟨b,Nat.add off o,none⟩))=some v:=e2;injection e2' with e2';subst e2'
   rw[e1]at hx;obtain⟨B,hb,_,hx'⟩:=hx.of_ptr;refine val (s:=Instr.fieldAt ty (a.eval x) f) ⟨.pointer (some ⟨B.b,off+o,none⟩),?_,RV.ptr hb⟩ rfl;rw [hx'];exact fieldAddr_ok hf
 | field ty x f=>
  have h':aField P ty (ev t x) f=some v:=h;exact val (field_ok (E x (by simp[Op.operands])) h') rfl
 | indexAddr ty x ix =>
  have h':onInt (ev t ix) (fun _ i=>Int.rec (fun i=>Ix.rec none
   (fun sz=>onSlice (ev t x) (fun b off len _=>Bool.rec none (some (.pointer (some ⟨b,Nat.add off (Nat.mul i sz),none⟩))) (Nat.blt i len)) none)
   (fun len sz=>onPtr (ev t x) (fun b off=>Bool.rec none (some (.pointer (some ⟨b,Nat.add off (Nat.mul i sz),none⟩))) (Nat.blt i len)) none) (ixOf P ty)) (fun _=>none) i) none=some v:=h
  rcases onInt_some h' with⟨k,i,e1,e2⟩|e2
  case inr=>cases e2
  have hix:=E ix (by simp[Op.operands]);rw [e1]at hix;have hix':=hix.of_int;refine val (s:=Instr.indexAt ty (a.eval x) (a.eval ix)) ?_ rfl;rw [hix'];exact indexAddr_ok (E x (by simp[Op.operands])) e2
 | index ty x ix=>
  have h':aIndex P ty (ev t x) (ev t ix)=some v:=h;exact val (index_ok (E x (by simp[Op.operands])) (E ix (by simp[Op.operands])) h') rfl
 | lookup ty x key ok=>
  have h':aLookup P hp ty (ev t x) (ev t key) ok=some v:=h;exact val (lookup_ok hP hH (E x (by simp[Op.operands])) (E key (by simp[Op.operands])) h') rfl
 | typeAssert x xt asserted ok=>
  have h':aTypeAssert P (ev t x) asserted ok=some v:=h;exact val (typeAssert_ok hP (E x (by simp[Op.operands])) h') rfl
 | extract x i =>
  have h':(match ev t x with
   | .tuple vs=>Option.rec none (fun v=>uD v some) (vs.toList[i]?)
   | _=>none)=some v:=h
  split at h'
  · rename_i vs e
    cases hv:vs.toList[i]? with
    | none=>rw [hv]at h';cases h'
    | some u=>
     rw[hv]at h';have h2:uD u some=some v:=h';rw [wZ]at h2;injection h2 with h2;subst h2
     exact val (extract_ok (E x (by simp[Op.operands])) e hv) rfl
  · cases h'
 | call c =>
  obtain⟨callee,args,tys⟩:=c
  cases callee with
  | builtin b =>
   have h':quietB P b tys.toList (args.toList.map (ev t)) hp=some v:=h;have ha:=RVs.map (ρ := ρ) (ev t) a.eval args.toList fun x hx=>E x (by simp[Op.operands,Call.operands,hx])
   have run:∀{s:Sem Value},(∃v',s.run P wd = .ok v' wd∧RV ρ v v')→
    builtin b tys type (args.map fun | .const _=>true|_=>false) (args.map a.eval)=(do pure (Next.value (← s)))→
    ∃v',(execOp a.eval ⟨dst,.call ⟨.builtin b,args,tys⟩,type,pos,after,guard⟩).run P wd = .ok (.value v') wd∧RV ρ v v':=by
    intro s ⟨v',e1,e2⟩ e3;refine⟨v',?_,e2⟩;simp only[execOp,Sem.run_bind,vM,Result.andThen_ok,invoke];rw [e3,Sem.run_bind,e1];rfl
   have hargs:args.map a.eval=⟨args.toList.map a.eval⟩:=arr_map _ _;have htys:tys=⟨tys.toList⟩:=rfl;generalize args.toList.map (ev t)=l at h' ha
   unfold quietB at h';split at h'
   · split at h'
     · rename_i x r ty tr e2;obtain⟨x',r',e3,hx,hr⟩:=ha.of_cons;refine run (len_ok (rt:=type) hH hx h' tr r') ?_;rw [hargs,e3,htys,e2];rfl
     · cases h'
   · split at h'
     · rename_i x r ty tr e2;obtain⟨x',r',e3,hx,hr⟩:=ha.of_cons;refine run (cap_ok (rt:=type) hx h' tr r') ?_;rw [hargs,e3,htys,e2];rfl
     · cases h'
   · split at h'
     · rename_i x r;obtain⟨x',r',e3,hx,hr⟩:=ha.of_cons;refine run (max_ok (big:=true) hx hr h' tys type) ?_;rw [hargs,e3];rfl
     · cases h'
   · split at h'
     · rename_i x r;obtain⟨x',r',e3,hx,hr⟩:=ha.of_cons;refine run (max_ok (big:=false) hx hr h' tys type) ?_;rw [hargs,e3];rfl
     · cases h'
   · cases h'
  | _=>cases h
 | _=>cases h
end
theorem vW{c:Tr Value}{i:Nat}{l:List Value}{k:Tr Value→Bool}(h:setMany c i l k=true) :
 (∀v∈l,v.oneCell'=true)∧k (Tr.ofListFrom undef c i l)=true:=by
 induction l generalizing c i with
 | nil=>exact⟨fun _ h=>by simp at h,h⟩
 | cons v r ih =>
  have h':(forceOne v fun v=>c.setK undef v i fun c'=>setMany c' (Nat.succ i) r k)=true:=h;obtain⟨h1,h2⟩:=forceOne_true h';rw [Tr.setK_eq]at h2;obtain⟨h3,h4⟩:=ih h2
  exact⟨fun x hx=>by
   rcases List.mem_cons.1 hx with rfl|hx
   · exact h1
   · exact h3 x hx,h4⟩
theorem zT(h:zI)(n:Nat)(o:AObj)(k:zI→Nat→Bool):zQ h n o k=k (h.set .dead o n) (n+1):=by
 unfold zQ;rw [Tr.setK_eq]
def Res(r:Result Next)(v:Value)(w:World):Prop:=r = .ok (.value v) w∨(r = .ok .skip w∧v=undef)
section
variable (P:Program) (ng:Nat)
def OpsR(ρ : Inj)(t:Fr)(a:Act)(o:Oper):Prop:=∀x,x∈o.op.operands.toList→RV ρ (ev t x) (a.eval x)
def EffVal(o:Oper)(t:Fr)(w:W)(v:Value)(w':W):Prop:=
 w'.d=w.d∧w'.u=w.u∧∀(ρ : Inj) (base:Nat) (w0:World) (a:Act) (wd:World),OpsR ρ t a o→HeapR P ng ρ base w0 w.h w.n wd→
  ∃ρ' v' wd',Res ((execOp a.eval o).run P wd) v' wd'∧RV ρ' v v'∧HeapR P ng ρ' base w0 w'.h w'.n wd'∧Grow ρ w.h w.n wd ρ' w'.h w'.n wd'
variable {P ng} {t:Fr} {w:W}
variable (P ng) in
def NewVal(o:Oper)(t:Fr)(v:Nat→Value)(ob:AObj):Prop:=
 ∀(ρ : Inj) (base:Nat) (w0:World) (a:Act) (wd:World) (h:zI) (n:Nat),OpsR ρ t a o→HeapR P ng ρ base w0 h n wd→
  ∃(B:Bl) (o':Obj) (v':Value),B.b=wd.heap.size∧(execOp a.eval o).run P wd = .ok (.value v') { wd with heap:=wd.heap.push o' }∧RV (ρ.put n B) (v n) v'∧ObjR P ng (ρ.put n B) base B ob o'
theorem NewVal.eff{o:Oper}{v:Nat→Value}{ob:AObj}(hn:NewVal P ng o t v ob):EffVal P ng o t w (v w.n) (W.mk w.d w.u (w.h.set .dead ob w.n) (w.n+1)):=by
 refine⟨rfl,rfl,fun ρ base w0 a wd hT hH=>?_⟩;obtain⟨B,o',v',h1,h2,h3,h4⟩:=hn ρ base w0 a wd w.h w.n hT hH;obtain⟨h5,h6⟩:=hH.alloc ob o' B h1 h4;exact⟨_,v',_,.inl h2,h3,h5,h6⟩
theorem effVal_quiet(hP:zP ng P=true){o:Oper}{v:Value}(h:vY o.op P t w.h=some v):EffVal P ng o t w v w:=by
 refine⟨rfl,rfl,fun ρ base w0 a wd hT hH=>?_⟩;obtain⟨v',e1,e2⟩:=quiet_ok hP hH hT h;exact⟨ρ,v',wd,.inl e1,e2,hH,Grow.refl _ _ _ _ hH.dom⟩
theorem HeapR.newRowT{ρ : Inj}{base:Nat}{w0:World}{h:zI}{n:Nat}{wd:World}(r:HeapR P ng ρ base w0 h n wd){cs:List Value}{cs':Array Value}(hc:RVs ρ cs cs'.toList)(el:TypeId){z:Nat}(hz0:z≠0→z=el+1) :
 ObjR P ng (ρ.put n ⟨wd.heap.size,cs'.size,0⟩) base ⟨wd.heap.size,cs'.size,0⟩ (.cells (Tr.ofListFrom undef .lF 0 cs) cs.length z 0) (.cells cs' el (0,0)):=by
 have hle:=Inj.le_put (⟨wd.heap.size,cs'.size,0⟩:Bl) (r.dom n (Nat.le_refl _));have hl:cs.length=cs'.size:=by have:=hc.1;simpa using this
 exact .cells (by show cs.length≤cs'.size;omega) rfl (fun _=>hl) ⟨fun h=>absurd h (by decide),fun _ h=>hz0 h⟩ (fun i v' hi e=>by
  rw[Tr.get_ofListFrom,if_pos (by omega)];have e1:cs[i]? = some (cs.getD (i - 0) undef):=by simp[List.getElem?_eq_getElem hi]
  exact(hc.2 i _ v' e1 (by simpa using e)).mono hle) (fun _=>r.size) (fun _=>⟨rfl,rfl⟩)
theorem HeapR.newRow{ρ : Inj}{base:Nat}{w0:World}{h:zI}{n:Nat}{wd:World}(r:HeapR P ng ρ base w0 h n wd){cs:List Value}{cs':Array Value}(hc:RVs ρ cs cs'.toList)(el:TypeId) :
 ObjR P ng (ρ.put n ⟨wd.heap.size,cs'.size,0⟩) base ⟨wd.heap.size,cs'.size,0⟩ (.cells (Tr.ofListFrom undef .lF 0 cs) cs.length 0 0) (.cells cs' el (0,0)):=r.newRowT hc el fun h=>absurd rfl h
theorem zU(ρ : Inj)(n:Nat)(B:Bl):(ρ.put n B) n=some B:=by simp[Inj.put]
theorem yH(w:W)(f:zI→Nat→(zI→Nat→W)→Bool):yG w f=f w.h w.n (W.mk w.d w.u):=by cases w;rfl
theorem alloc_ok(hP:zP ng P=true){o:Oper}{el:TypeId}(hop:o.op = .alloc el){lo:Lo}{cx:Cx}{k:KV}{kp:KP}(h:eff o.op P lo cx t w k kp=true) :
 ∃v ob,NewVal P ng o t v ob∧k (W.mk w.d w.u (w.h.set .dead ob w.n) (w.n+1)) (v w.n)=true:=by
 rw[hop]at h;have h':(yG w fun h n mk=>Option.rec false (fun z=>zQ h n (mkCellsT (cellsOf z) el) fun h' n'=>k (mk h' n') (.pointer (some ⟨n,0,none⟩))) (yO P el))=true:=h;rw [yH]at h'
 cases hz:yO P el with
 | none=>rw [hz]at h';cases h'
 | some z=>
  rw[hz]at h';have h2:zQ w.h w.n (mkCellsT (cellsOf z) el) (fun h' n'=>k (W.mk w.d w.u h' n') (.pointer (some ⟨w.n,0,none⟩)))=true:=h';rw [zT]at h2;refine⟨fun n=>.pointer (some ⟨n,0,none⟩),_,fun ρ base w0 a wd h n hT hH=>?_,h2⟩;refine⟨_,_,.pointer (some ⟨wd.heap.size,0,none⟩),rfl,?_,?_,hH.newRowT (RV.cells (RV.plain (xN hP hz) ρ)) el fun _=>rfl⟩
  · simp[execOp,hop,Instr.alloc,yZ hz,newVar,newRow]
  · exact RV.ptr (B:=⟨wd.heap.size,z.cells.size,0⟩) (zU _ _ _)
theorem box_ok{o:Oper}{el:TypeId}{x:Operand}(hop:o.op = .box el x){lo:Lo}{cx:Cx}{k:KV}{kp:KP}(h:eff o.op P lo cx t w k kp=true) :
 ∃v ob,NewVal P ng o t v ob∧k (W.mk w.d w.u (w.h.set .dead ob w.n) (w.n+1)) (v w.n)=true:=by
 rw[hop]at h
 have h':(yG w fun h n mk=>setMany .lF 0 (cellsOf (ev t x)) fun c=>
  zQ h n (.cells c (cellsOf (ev t x)).length (Nat.succ el) 0) fun h' n'=>k (mk h' n') (.pointer (some ⟨n,0,none⟩)))=true:=h
 rw[yH]at h';obtain⟨_,h2⟩:=vW h';rw [zT]at h2;refine⟨fun n=>.pointer (some ⟨n,0,none⟩),_,fun ρ base w0 a wd h n hT hH=>?_,h2⟩;have hx:RV ρ (ev t x) (a.eval x):=hT x ((by simp[hop,Op.operands]));refine⟨_,_,.pointer (some ⟨wd.heap.size,0,none⟩),rfl,?_,?_,hH.newRowT hx.cells el fun _=>rfl⟩
 · simp[execOp,hop,Instr.box,newVar,newRow]
 · exact RV.ptr (B:=⟨wd.heap.size,(a.eval x).cells.size,0⟩) (zU _ _ _)
theorem xA(z:List Value):∀k,(rep z k).length=k*z.length:=by
 intro k
 induction k with
 | zero=>simp [rep]
 | succ k ih=>simp [rep,ih,Nat.succ_mul];omega
theorem rep_get(z:List Value):∀(k j:Nat),j<k*z.length→(rep z k)[j]? = z[j % z.length]? :=by
 intro k
 induction k with
 | zero=>intro j h;simp at h
 | succ k ih=>
  intro j h;rw [rep,List.getElem?_append];by_cases hj:j<z.length
  · rw[if_pos hj,Nat.mod_eq_of_lt hj]
  · rw[if_neg hj];have hj':z.length≤j:=by omega
    have:j - z.length<k*z.length:=by rw[Nat.succ_mul]at h;omega
    rw[ih _ this];congr 1
    conv=>rhs;rw [← Nat.sub_add_cancel hj',Nat.add_mod_right]
theorem made_eq(z:Array Value)(k:Nat)(hz:1≤z.size):((Array.range (k*z.size)).map (fun i=>z[i % z.size]!)).toList=rep z.toList k:=by
 apply List.ext_getElem?;intro j;by_cases hj:j<k*z.size
 · have hm:j % z.size<z.size:=Nat.mod_lt _ (by omega);have h2:j<k*z.toList.length:=by simpa using hj
   rw[rep_get _ _ _ h2];simp [hj,hm]
 · have h2:(rep z.toList k).length≤j:=by rw[xA];simp;omega
   rw[List.getElem?_eq_none h2];rw [List.getElem?_eq_none (by simp;omega)]
theorem buildSlice_ok(hP:zP ng P=true){o:Oper}{ty:TypeId}{len:Nat}{parts:Array (Nat×Operand)}(hop:o.op = .buildSlice ty len parts){lo:Lo}{cx:Cx}{k:KV}{kp:KP}
   (h:eff o.op P lo cx t w k kp=true):∃v ob,NewVal P ng o t v ob∧k (W.mk w.d w.u (w.h.set .dead ob w.n) (w.n+1)) (v w.n)=true:=by
  rw[hop]at h
  have h':(yG w fun h n mk=>Option.rec false (fun ob=>zQ h n ob fun h' n'=>k (mk h' n') (.slice (some ⟨n,0,none⟩) len len))
      (aBuildSlice P ty len (parts.toList.map fun p=>(p.1,ev t p.2))))=true:=h
  rw[yH]at h'
  cases hb:aBuildSlice P ty len (parts.toList.map fun p=>(p.1,ev t p.2)) with
  | none=>rw [hb]at h';cases h'
  | some ob =>
    rw[hb]at h';have h2:zQ w.h w.n ob (fun h' n'=>k (W.mk w.d w.u h' n') (.slice (some ⟨w.n,0,none⟩) len len))=true:=h';rw [zT]at h2;refine⟨fun n=>.slice (some ⟨n,0,none⟩) len len,_,fun ρ base w0 a wd h n hT hH=>?_,h2⟩;unfold aBuildSlice at hb;split at hb
    case h_2=>cases hb
    rename_i e hd;split at hb
    case h_2=>cases hb
    rename_i z ei hz hi
    cases hc:(Nat.ble 1 ei.size && Nat.beq (cellsOf z).length ei.size && Nat.ble (Nat.mul len ei.size) 16777216) with
    | false=>rw [hc]at hb;cases hb
    | true =>
      rw[hc]at hb;dsimp only[cond]at hb;obtain⟨hc1,hc3⟩:=Bool.and_eq_true_iff.1 hc;obtain⟨hc1,hc2⟩:=Bool.and_eq_true_iff.1 hc1;have hc1:=wF hc1;have hc2:=zG hc2;have hc3:len*ei.size≤16777216:=wF hc3;split at hb
      case h_2=>cases hb
      rename_i cs hf;injection hb with hb
      subst hb;have hzc:=RV.cells (RV.plain (xN hP hz) ρ);have hzs:z.cells.size=ei.size:=by have:=hzc.1;simp at this;omega
      have hps:PsR ρ (parts.toList.map fun p=>(p.1,ev t p.2)) (parts.toList.map fun p=>(p.1,a.eval p.2)):=
        PsR.map _ _ _ fun p hp=>hT p.2 ((by
          simp only[hop,Op.operands,List.mem_map];exact⟨p,hp,rfl⟩))
      have hzz:cellsOf z=z.cells.toList:=by cases z <;> rfl
      have hrep:RVs ρ (rep (cellsOf z) len) ((Array.range (len*ei.size)).map (fun i=>z.cells[i % z.cells.size]!)).toList:=by
        have:=made_eq z.cells len (by omega);rw [hzs]at this ⊢;rw [this,← hzz];refine⟨rfl,fun i v v' e1 e2=>?_⟩;rw [e1]at e2;injection e2 with e2;subst e2
        have hlt:i<len*(cellsOf z).length:=by
          rcases Nat.lt_or_ge i (rep (cellsOf z) len).length with h1|h1
          · rwa [xA]at h1
          · rw[List.getElem?_eq_none h1]at e1;cases e1
        rw[rep_get _ _ _ hlt]at e1;exact hzc.2 _ v v e1 (by rw[← hzz];exact e1)
      obtain⟨r',f1,f2⟩:=fill_ok (fun i=>some (Nat.mul i ei.size,ei.size)) hps hrep hf;refine⟨_,_,.slice (some ⟨wd.heap.size,0,none⟩) len len,rfl,?_,?_,hH.newRow f2 e⟩
      · have hbig : ¬ (len * ei.size > 2 ^ 24) := by have : (2 : Nat) ^ 24 = 16777216 := by decide
                                                     omega
        have hpm:(parts.map fun(x:Nat×Operand)=>(x.1,a.eval x.2)).toList=parts.toList.map fun p=>(p.1,a.eval p.2):=by simp
        have f1':Instr.fill (fun i=>some (i*ei.size,ei.size)) ((Array.range (len*ei.size)).map (fun i=>z.cells[i % z.cells.size]!)) (parts.toList.map fun p=>(p.1,a.eval p.2))=some r':=f1;simp only[execOp,hop,Instr.buildSlice,Sem.run_bind,zF hd,Result.andThen_ok,zV hi,if_neg hbig,hpm];by_cases hz0:len*ei.size=0
        · have hl0:len=0:=by
            rcases Nat.mul_eq_zero.1 hz0 with h0|h0
            · exact h0
            · omega
          subst hl0;simp only[Nat.zero_mul]at f1' ⊢;have e0:∀f:Nat→Value,(Array.range 0).map f = #[]:=fun f=>by simp
          rw[e0]at f1';simp only[if_true,Sem.run_bind,Sem.run_pure,Result.andThen_ok,e0,f1'];simp [newRow]
        · simp only[if_neg hz0,Sem.run_bind,yZ hz,Result.andThen_ok,Sem.run_pure,f1'];simp [newRow]
      · refine RV.slice (B:=⟨wd.heap.size,r'.size,0⟩) (zU _ _ _) ?_ (Nat.le_refl _) (.inl rfl);intro hinf;rw [hinf]at hc3;have:inf*ei.size≥inf:=Nat.le_mul_of_pos_right _ (by omega);have h9:inf=1000000000000000000:=rfl;omega
theorem makeSlice_ok(hP:zP ng P=true){o:Oper}{ty:TypeId}{l c:Operand}(hop:o.op = .makeSlice ty l c){lo:Lo}{cx:Cx}{k:KV}{kp:KP}
(h:eff o.op P lo cx t w k kp=true):∃v ob,NewVal P ng o t v ob∧k (W.mk w.d w.u (w.h.set .dead ob w.n) (w.n+1)) (v w.n)=true:=by
 rw[hop]at h
 have h':(yG w fun h n mk=>match aMakeSlice P ty (ev t l) (ev t c) with
  | some (ob,i,m)=>zQ h n ob fun h' n'=>k (mk h' n') (.slice (some ⟨n,0,none⟩) i m)
  | none=>false)=true:=h
 rw[yH]at h'
 cases hb:aMakeSlice P ty (ev t l) (ev t c) with
 | none=>rw [hb]at h';cases h'
 | some p =>
  obtain⟨ob,i,m⟩:=p;rw [hb]at h';have h2:zQ w.h w.n ob (fun h' n'=>k (W.mk w.d w.u h' n') (.slice (some ⟨w.n,0,none⟩) i m))=true:=h';rw [zT]at h2;refine⟨fun n=>.slice (some ⟨n,0,none⟩) i m,_,fun ρ base w0 a wd h n hT hH=>?_,h2⟩;have hl:=hT l ((by simp[hop,Op.operands]));have hc:=hT c ((by simp[hop,Op.operands]));unfold aMakeSlice at hb;split at hb
  case h_2=>cases hb
  rename_i e i2 m2 hd hnl hnc;obtain⟨k1,hlk⟩:=natOf_some hnl;obtain⟨k2,hck⟩:=natOf_some hnc;rw [hlk]at hl;rw [hck]at hc;have hl:=hl.of_int;have hc:=hc.of_int;split at hb
  case h_2=>cases hb
  rename_i z ei hz hi
  cases hcn:(Nat.ble 1 ei.size && Nat.beq (cellsOf z).length ei.size && Nat.ble i2 m2 && Nat.blt m2 100000 && Nat.blt ei.bytes 100000) with
  | false=>rw [hcn]at hb;cases hb
  | true =>
   rw[hcn]at hb;dsimp only[cond]at hb;injection hb with hb
   injection hb with hb1 hb2
   injection hb2 with hb2 hb3
   subst hb1 hb2 hb3;obtain⟨hcn,q5⟩:=Bool.and_eq_true_iff.1 hcn;obtain⟨hcn,q4⟩:=Bool.and_eq_true_iff.1 hcn;obtain⟨hcn,q3⟩:=Bool.and_eq_true_iff.1 hcn;obtain⟨q1,q2⟩:=Bool.and_eq_true_iff.1 hcn;have q1:=wF q1;have q2:=zG q2;have q3:=wF q3;have q4:=zR q4;have q5:=zR q5;have hzc:=RV.cells (RV.plain (xN hP hz) ρ);have hzs:z.cells.size=ei.size:=by have:=hzc.1;simp at this;omega
   have hzz:cellsOf z=z.cells.toList:=by cases z <;> rfl
   have hrep:RVs ρ (rep (cellsOf z) m2) ((Array.range (m2*ei.size)).map (fun i=>z.cells[i % z.cells.size]!)).toList:=by
    have:=made_eq z.cells m2 (by omega);rw [hzs]at this ⊢;rw [this,← hzz];refine⟨rfl,fun i v v' e1 e2=>?_⟩;rw [e1]at e2;injection e2 with e2;subst e2
    have hlt:i<m2*(cellsOf z).length:=by
     rcases Nat.lt_or_ge i (rep (cellsOf z) m2).length with h1|h1
     · rwa [xA]at h1
     · rw[List.getElem?_eq_none h1]at e1;cases e1
    rw[rep_get _ _ _ hlt]at e1;exact hzc.2 _ v v e1 (by rw[← hzz];exact e1)
   refine⟨_,_,.slice (some ⟨wd.heap.size,0,none⟩) i2 m2,rfl,?_,?_,hH.newRow hrep e⟩
   · have w1:IntKind.i64.wrap ((m2:Nat):Int)=(m2:Int):=IntWalk.i64_in _ (by omega);have w2:IntKind.i64.wrap ((i2:Nat):Int)=(i2:Int):=IntWalk.i64_in _ (by omega);have b1:ei.bytes*m2≤100000*100000:=Nat.mul_le_mul (by omega) (by omega);have b2:ei.bytes*i2≤100000*100000:=Nat.mul_le_mul (by omega) (by omega)
     have t1:¬(((ei.bytes:Nat):Int)*(m2:Int) > 2 ^ 48):=by
      have:((ei.bytes*m2:Nat):Int)≤10000000000:=by omega
      have e:((ei.bytes:Nat):Int)*(m2:Int)=((ei.bytes*m2:Nat):Int):=by push_cast;rfl
      rw[e];have:(2:Int) ^ 48=281474976710656:=by decide
      omega
     have n1:¬((m2:Int)<0):=by omega
     have n2:¬((i2:Int)<0):=by omega
     have n3:¬((i2:Int) > (m2:Int)):=by omega
     have hm':a.eval c = .int k2 (m2:Int):=hc;have hl':a.eval l = .int k1 (i2:Int):=hl;simp only[execOp,hop,Instr.makeSlice,Sem.run_bind,zF hd,Result.andThen_ok,hm',hl',asInt,asIntOf,Sem.run_pure,runTI (zX hi).2,w1,w2];simp only[n1,n2,n3,t1,decide_false,Bool.false_or,Bool.or_self,Bool.false_eq_true,if_false,Sem.run_bind,run_askRoom,Result.andThen_ok,zV hi,Int.toNat_natCast];by_cases hz0:m2*ei.size=0
     · have e00:Array.range 0 = #[]:=rfl;simp only[hz0,if_true,Sem.run_bind,Sem.run_pure,Result.andThen_ok];simp [newRow,e00]
     · simp only[if_neg hz0,Sem.run_bind,yZ hz,Result.andThen_ok,Sem.run_pure];simp [newRow]
   · refine RV.slice (B:=⟨wd.heap.size,_,0⟩) (zU _ _ _) ?_ q3 (.inl rfl);intro hinf;rw [hinf]at q4;have h9:inf=1000000000000000000:=rfl;omega
theorem makeMap_ok{o:Oper}{ty:TypeId}{r:Option Operand}(hop:o.op = .makeMap ty r){lo:Lo}{cx:Cx}{k:KV}{kp:KP}
(h:eff o.op P lo cx t w k kp=true):∃v ob,NewVal P ng o t v ob∧k (W.mk w.d w.u (w.h.set .dead ob w.n) (w.n+1)) (v w.n)=true:=by
 rw[hop]at h
 cases r with
 | some r=>
  have h':(yG w fun _ _ _=>false)=true:=h;rw [yH]at h';cases h'
 | none=>
  have h':(yG w fun h n mk=>zQ h n (.map [] 0) fun h' n'=>k (mk h' n') (.map (some n)))=true:=h;rw [yH,zT]at h';refine⟨fun n=>.map (some n),_,fun ρ base w0 a wd h n hT hH=>?_,h'⟩;refine⟨⟨wd.heap.size,0,0⟩,.map #[] 0,.map (some wd.heap.size),rfl,?_,?_,.map ⟨rfl,fun i e e' h=>by simp at h⟩ hH.size⟩
  · simp[execOp,hop,Instr.makeMap]
  · exact RV.map (B:=⟨wd.heap.size,0,0⟩) (zU _ _ _)
theorem storeAt_ok{h:zI}{b off:Nat}{vs:List Value}{k:zI→Bool}(hs:storeAt h b off vs k=true) :
 ∃h',k h'=true∧(∀v∈vs,v.oneCell'=true)∧(∃c m z kd,zH h b = .cells c m z kd∧off+vs.length≤m∧h'=h.set .dead (.cells (Tr.ofListFrom undef c off vs) m z kd) b)∧
  ∀(n:Nat) (ρ : Inj) (base:Nat) (w0 wd:World) (B:Bl) (vs':List Value),HeapR P ng ρ base w0 h n wd→ρ b=some B→RVs ρ vs vs'→
   ∃wd',(storeCells ⟨B.b,off,none⟩ vs').run P wd = .ok () wd'∧HeapR P ng ρ base w0 h' n wd'∧Grow ρ h n wd ρ h' n wd':=by
 unfold storeAt at hs;rcases onCells_some hs with⟨c,m,z,kd,hg,h1⟩|h1
 case inr=>cases h1
 cases hk:Nat.beq kd 2 with
 | true=>rw [hk]at h1;cases h1
 | false =>
  rw[hk]at h1
  cases hle:Nat.ble (Nat.add off vs.length) m with
  | false=>rw [hle]at h1;cases h1
  | true =>
   rw[hle]at h1;have h2:setMany c off vs (fun c'=>h.setK .dead (.cells c' m z kd) b k)=true:=h1;obtain⟨hone,h3⟩:=vW h2;rw [Tr.setK_eq]at h3;have hfit:off+vs.length≤m:=wF hle;refine⟨_,h3,hone,⟨c,m,z,kd,hg,hfit,rfl⟩,?_⟩;intro n ρ base w0 wd B vs' hH hb hv;have hkd:kd≠2:=fun e=>by subst e;cases hk
   obtain⟨o,e1,e2⟩:=hH.obj b B hb (by rw[hg];exact AObj.noConfusion);rw [hg]at e2
   cases e2 with
   | cells hn hs' hk' hz' hv' hb' hf =>
    rename_i c' el l0 h0;obtain⟨rfl,rfl⟩:=hf hkd;have hlen:vs'.length=vs.length:=hv.1.symm
    have hone':∀v∈vs',v.oneCell'=true:=by
     intro v' hm;obtain⟨i,hi⟩:=List.mem_iff_getElem?.1 hm
     have hlt:i<vs.length:=by
      rcases Nat.lt_or_ge i vs'.length with h5|h5
      · omega
      · rw[List.getElem?_eq_none h5]at hi;cases hi
     have:=hv.2 i vs[i] v' (List.getElem?_eq_getElem hlt) hi;exact this.one (hone _ (List.getElem_mem hlt))
    have hst:=run_storeCells_at P B.b off el vs' 0 c' wd e1 (by omega) hone';refine⟨_,hst,?_⟩;refine hH.turn hb (by rw[hg];exact AObj.noConfusion) _ (.cells (c'.toList.take (off+0)++vs'++c'.toList.drop (off+0+vs'.length)).toArray el (0,0)) _ (hb' hkd) ?_ (setRow_heap wd B.b c' _ el _ e1) ?_ (fun x hx=>setRow_other wd B.b x _ hx) rfl rfl rfl
    · have hsz:(c'.toList.take (off+0)++vs'++c'.toList.drop (off+0+vs'.length)).length=c'.size:=by simp;omega
      refine .cells hn (by simpa using hsz.trans hs') hk' hz' (fun i v' hi e=>?_) hb' (fun _=>⟨rfl,rfl⟩);rw [Tr.get_ofListFrom];have e':(c'.toList.take (off+0)++vs'++c'.toList.drop (off+0+vs'.length))[i]? = some v':=by simpa using e
      by_cases h6:off≤i∧i<off+vs.length
      · rw[if_pos h6];rw [List.append_assoc,List.getElem?_append_right (by simp;omega),List.getElem?_append_left (by simp;omega)]at e';have hi2:i - (c'.toList.take (off+0)).length=i - off:=by simp;omega
        rw[hi2]at e';have hlt:i - off<vs.length:=by omega
        have:vs[i - off]? = some (vs.getD (i - off) undef):=by simp[List.getElem?_eq_getElem hlt]
        exact hv.2 _ _ v' this e'
      · rw[if_neg h6];apply hv' i v' hi;by_cases h7:i<off
        · rw[List.append_assoc,List.getElem?_append_left (by simp;omega),List.getElem?_take_of_lt (by omega)]at e';simpa using e'
        · rw[List.getElem?_append_right (by simp;omega),List.getElem?_drop]at e';have:off+0+vs'.length+(i - (c'.toList.take (off+0)++vs').length)=i:=by simp;omega
          rw[this]at e';simpa using e'
    · simp[World.setRow]
theorem store_ok{o:Oper}{ty:TypeId}{x v:Operand}(hop:o.op = .store ty x v){lo:Lo}{cx:Cx}{k:KV}{kp:KP}
(h:eff o.op P lo cx t w k kp=true):∃w' v,EffVal P ng o t w v w'∧k w' v=true:=by
 rw[hop]at h
 have h':(yG w fun h n mk=>onPtr (ev t x) (fun b off=>Sh.rec false
  (Bool.rec false (storeAt h b off (cellsOf (ev t v)) fun h'=>k (mk h' n) undef) (Nat.beq (cellsOf (ev t v)).length 1))
  (fun sz=>Bool.rec false (storeAt h b off (cellsOf (ev t v)) fun h'=>k (mk h' n) undef) (Nat.beq (cellsOf (ev t v)).length sz)) (vI P ty)) false)=true:=h
 rw[yH]at h';rcases uF h' with⟨b,off,hx,h2⟩|h2
 case inr=>cases h2
 have key:∃i,inf? P ty=some i∧(cellsOf (ev t v)).length=i.size∧storeAt w.h b off (cellsOf (ev t v)) (fun h'=>k (W.mk w.d w.u h' w.n) undef)=true:=by
  cases hs:vI P ty with
  | bad=>rw [hs]at h2;cases h2
  | scal=>
   rw[hs]at h2;obtain⟨d,i,_,_,hi,h1⟩:=shape_scal hs
   cases hl:Nat.beq (cellsOf (ev t v)).length 1 with
   | false=>rw [hl]at h2;cases h2
   | true=>rw [hl]at h2;exact⟨i,hi,by rw[h1];exact zG hl,h2⟩
  | agg sz=>
   rw[hs]at h2;dsimp only at h2;obtain⟨d,i,_,_,hi,h1⟩:=shape_agg hs
   cases hl:Nat.beq (cellsOf (ev t v)).length sz with
   | false=>rw [hl]at h2;cases h2
   | true=>rw [hl]at h2;exact⟨i,hi,by rw[h1];exact zG hl,h2⟩
 obtain⟨i,hi,hlen,h3⟩:=key;obtain⟨h',e1,_,_,e2⟩:=storeAt_ok (P:=P) (ng:=ng) h3;refine⟨W.mk w.d w.u h' w.n,undef,⟨rfl,rfl,fun ρ base w0 a wd hT hH=>?_⟩,e1⟩;have hxr:=hT x ((by simp[hop,Op.operands]));have hvr:=hT v ((by simp[hop,Op.operands]));rw [hx]at hxr;obtain⟨B,hb,_,hx'⟩:=hxr.of_ptr;obtain⟨wd',f1,f2,f3⟩:=e2 w.n ρ base w0 wd B (a.eval v).cells.toList hH hb hvr.cells;refine⟨ρ,undef,wd',.inr ⟨?_,rfl⟩,RV.undef ρ,f2,f3⟩;have hsz:(a.eval v).cells.size=i.size:=by have:=hvr.cells.1;simp at this;omega
 have hx'':a.eval x = .pointer (some ⟨B.b,off,none⟩):=hx';simp [execOp,hop,Instr.storeAt,Instr.sureAddr,hx'',storeVar,zV hi,hsz,f1]
end
theorem growBy_le(m:Nat):∀(r c:Nat),c≤2*m+192→Builtin.growBy m r c≤2*m+192:=by
 intro r
 induction r with
 | zero=>intro c h;exact h
 | succ r ih=>
  intro c h;unfold Builtin.growBy;split
  · exact h
  · apply ih;omega
theorem nextcap_le{m c:Nat}(h:c<m):Builtin.nextslicecap m c≤2*m+192:=by
 unfold Builtin.nextslicecap;split
 · omega
 · split
   · omega
   · exact growBy_le m 4 c (by omega)
section
variable {P:Program} {ng:Nat}
theorem rowOf_ok{ρ : Inj}{base:Nat}{w0:World}{h:zI}{n:Nat}{wd:World}(hH:HeapR P ng ρ base w0 h n wd){size m:Nat}{x x':Value}(hx:RV ρ x x'){l:List Value}(hr:rowOf h size m x=some l)
(hstr:∀s,x = .string s→size=1):∃l',RVs ρ l l'∧(Builtin.firstCells size m x').run P wd = .ok ⟨l'⟩ wd:=by
 unfold rowOf at hr;split at hr
 · cases hm:Nat.beq m 0 with
   | false=>rw [hm]at hr;cases hr
   | true=>
    rw[hm]at hr;injection hr with hr;subst hr
    cases hx
    exact⟨[],RVs.nil ρ,rfl⟩
 · rename_i b off len c;obtain⟨B,o',c',hb,rfl,ho,hl,_⟩:=hx.of_slice;split at hr
   · rename_i cc kn z kd hg
     cases hc:(Nat.ble m len && Nat.ble (Nat.add off (Nat.mul m size)) kn) with
     | false=>rw [hc]at hr;cases hr
     | true=>
      rw[hc]at hr;dsimp only[cond]at hr;injection hr with hr;subst hr
      obtain⟨h1,h2⟩:=Bool.and_eq_true_iff.1 hc;have h1:=wF h1;have h2:off+m*size≤kn:=wF h2;obtain⟨l',r1,r2⟩:=run_loadRow hH hb hg h2;refine⟨l',r1,?_⟩;by_cases h0:m*size=0
      · have:l'=[]:=by
         have:=r1.1;rw [h0]at this;simp [Tr.toListFrom]at this;exact List.length_eq_zero_iff.1 this.symm
        subst this;simp only[Builtin.firstCells,h0];rfl
      · have h3:0<len:=by
         rcases Nat.eq_zero_or_pos m with e|e
         · subst e;simp at h0
         · omega
        rw[ho h3];exact r2
   · cases hr
 · rename_i s;injection hr with hr;subst hr
   obtain rfl:=hx.of_string;refine⟨((s.extract 0 m).data.map fun b=>Value.int .u8 b.toNat).toList,?_,?_⟩
   · rw[str_extract];simp only[Array.toList_map,List.drop_zero,Nat.sub_zero];refine⟨by simp,fun i v v' e1 e2=>?_⟩;rw [List.getElem?_map]at e1 e2
     cases hq:(s.data.toList.take m)[i]? with
     | none=>rw [hq]at e1;cases e1
     | some q=>
      rw[hq]at e1 e2;injection e1 with e1
      injection e2 with e2
      subst e1 e2;exact RV.int _ _
   · rfl
 · cases hr
theorem lenV_ok{ρ : Inj}{x x':Value}(hx:RV ρ x x'){m:Nat}(h:lenV x=some m)(wd:World):(Builtin.lenOf x').run P wd = .ok m wd:=by
 unfold lenV at h;split at h
 · injection h with h;subst h
   cases hx <;> rfl
 · injection h with h;subst h
   obtain rfl:=hx.of_string;rfl
 · cases h
def isIntT:TypeDesc→Bool
 | .int _=>true
 | _=>false
def appSem(e:TypeId)(ei:TypeInfo)(xd:TypeDesc)(x':Value)(m:Nat):Sem (Array Value):=
 if isIntT xd=true then(if m*ei.size=0 then pure #[] else do pure (Builtin.zeroCells (← zeroValue e).cells m)) else Builtin.firstCells ei.size m x'
def appLen(wd:World)(P:Program)(xd:TypeDesc)(x':Value)(m:Nat):Prop:=
 if isIntT xd=true then ∃k,x' = .int k (m:Int)∧m<100000 else(Builtin.lenOf x').run P wd = .ok m wd
theorem wJ(hP:zP ng P=true){ρ : Inj}{base:Nat}{w0:World}{h:zI}{n:Nat}{wd:World}(hH:HeapR P ng ρ base w0 h n wd){e:TypeId}{ei:TypeInfo}{xd:TypeDesc}{x x':Value}(hx:RV ρ x x')
{z:Value}(hz:yO P e=some z){m:Nat}{new:List Value}(ha:appended P h e ei.size xd x=some (m,new)) :
 appLen wd P xd x' m∧∃new',RVs ρ new new'∧(appSem e ei xd x' m).run P wd = .ok ⟨new'⟩ wd∧new.length=m*ei.size:=by
 unfold appended at ha;unfold appLen appSem;split at ha
 · rename_i kk;split at ha
   · rename_i m2 z2 hn hz2;rw [hz]at hz2;injection hz2 with hz2;subst hz2
     cases hc:(Nat.blt m2 100000 && Nat.beq (cellsOf z).length ei.size) with
     | false=>rw [hc]at ha;cases ha
     | true=>
      rw[hc]at ha;dsimp only[cond]at ha;injection ha with ha
      injection ha with ha1 ha2
      subst ha1 ha2;obtain⟨h1,h2⟩:=Bool.and_eq_true_iff.1 hc;have h1:=zR h1;have h2:=zG h2;obtain⟨k,rfl⟩:=natOf_some hn;obtain rfl:=hx.of_int;refine⟨⟨k,rfl,h1⟩,?_⟩;have hzz:cellsOf z=z.cells.toList:=by cases z <;> rfl
      have hzc:=RV.cells (RV.plain (xN hP hz) ρ);have hzs:z.cells.size=ei.size:=by rw[hzz]at h2;simpa using h2
      by_cases h0:m2*ei.size=0
      · refine⟨[],?_,?_,?_⟩
        · have:rep (cellsOf z) m2=[]:=List.length_eq_zero_iff.1 (by rw[xA,h2];exact h0);rw [this];exact RVs.nil ρ
        · simp[isIntT,h0]
        · rw[xA,h2]
      · refine⟨(Builtin.zeroCells z.cells m2).toList,?_,?_,by rw[xA,h2]⟩
        · have hsz1:1≤z.cells.size:=by
           rcases Nat.eq_zero_or_pos z.cells.size with e0|e0
           · rw[hzs]at e0;rw [e0]at h0;simp at h0
           · exact e0
          have:=made_eq z.cells m2 hsz1;unfold Builtin.zeroCells;rw [this,← hzz];refine⟨rfl,fun i v v' e1 e2=>?_⟩;rw [e1]at e2;injection e2 with e2;subst e2
          have hlt:i<m2*(cellsOf z).length:=by
           rcases Nat.lt_or_ge i (rep (cellsOf z) m2).length with h1|h1
           · rwa [xA]at h1
           · rw[List.getElem?_eq_none h1]at e1;cases e1
          rw[rep_get _ _ _ hlt]at e1;exact hzc.2 _ v v e1 (by rw[← hzz];exact e1)
        · simp[isIntT,h0,yZ hz]
   · cases ha
 · rename_i hni;have hint:isIntT xd=false:=by cases xd <;> first|rfl|exact absurd rfl (hni _)
   rw[hint];simp only[Bool.false_eq_true,if_false]
   cases hl:lenV x with
   | none=>rw [hl]at ha;cases ha
   | some m2 =>
    rw[hl]at ha;dsimp only at ha
    cases hs:strFits ei.size x with
    | false=>rw [hs]at ha;cases ha
    | true =>
     rw[hs]at ha;dsimp only[cond]at ha
     cases hr:rowOf h ei.size m2 x with
     | none=>rw [hr]at ha;cases ha
     | some l=>
      rw[hr]at ha;dsimp only at ha;injection ha with ha
      injection ha with ha1 ha2
      subst ha1 ha2;have hstr:∀s,x = .string s→ei.size=1:=fun s e=>by subst e;exact zG hs
      obtain⟨l',r1,r2⟩:=rowOf_ok hH hx hr hstr;refine⟨lenV_ok hx hl wd,l',r1,r2,?_⟩;unfold rowOf at hr;split at hr
      · cases hm:Nat.beq m2 0 with
        | false=>rw [hm]at hr;cases hr
        | true=>
         rw[hm]at hr;injection hr with hr;subst hr
         obtain rfl:=zG hm;simp
      · rename_i b off len c;split at hr
        · rename_i cc kn z2 kd hg
          cases hc:(Nat.ble m2 len && Nat.ble (Nat.add off (Nat.mul m2 ei.size)) kn) with
          | false=>rw [hc]at hr;cases hr
          | true=>
           rw[hc]at hr;dsimp only[cond]at hr;injection hr with hr;subst hr
           exact Tr.length_toListFrom _ _ _ _
        · cases hr
      · rename_i s;injection hr with hr;subst hr
        simp only[lenV]at hl;injection hl with hl
        rw[hstr s rfl,← hl];simp
      · cases hr
end
section
variable {P:Program} {ng:Nat}
theorem isIntT_or(xd:TypeDesc):(∃k,xd = .int k)∨(isIntT xd=false∧∀k,xd≠.int k):=by
 cases xd
 case int k=>exact .inl ⟨k,rfl⟩
 all_goals exact .inr ⟨rfl,fun _=>TypeDesc.noConfusion⟩
theorem int_facts{m:Nat}{b:Nat}(hm:m<100000)(hb:b<100000) :
 IntKind.i64.wrap ((m:Nat):Int)=(m:Int)∧¬((m:Int)<0)∧¬((m:Int)*((b:Nat):Int) > 2 ^ 48):=by
 refine⟨IntWalk.i64_in _ (by omega),by omega,?_⟩;have b1:m*b≤100000*100000:=Nat.mul_le_mul (by omega) (by omega);have e:(m:Int)*((b:Nat):Int)=((m*b:Nat):Int):=by push_cast;rfl
 rw[e];have:(2:Int) ^ 48=281474976710656:=by decide
 omega
theorem vN{wd wd':World}{sT xT e rt:TypeId}{ei:TypeInfo}{xd:TypeDesc}{base:Option Addr}{sLen sCap m:Nat}{x':Value}{new':List Value}{tr:List TypeId}{xr:List Value}
(hd:und P sT=some (.slice e))(hxd:und P xT=some xd)(hi:inf? P e=some ei)(hl:appLen wd P xd x' m)(hb:ei.bytes<100000)(hn:sLen+m≤sCap)
(ha:(appSem e ei xd x' m).run P wd = .ok ⟨new'⟩ wd)
(hst:match base with
  | some a=>(storeCells (a.add (sLen*ei.size)) new').run P wd = .ok () wd'
  | none=>wd'=wd) :
 (Builtin.append_ ⟨sT::xT::tr⟩ rt ⟨.slice base sLen sCap::x'::xr⟩).run P wd = .ok (.slice base (sLen+m) sCap) wd':=by
 unfold appSem at ha;unfold appLen at hl;have e1:(⟨sT::xT::tr⟩:Array TypeId)[0]? = some sT:=by simp
 have e2:(⟨sT::xT::tr⟩:Array TypeId)[1]? = some xT:=by simp
 have e3:(⟨.slice base sLen sCap::x'::xr⟩:Array Value)[0]? = some (.slice base sLen sCap):=by simp
 have e4:(⟨.slice base sLen sCap::x'::xr⟩:Array Value)[1]? = some x':=by simp
 unfold Builtin.append_;simp only[e1,e2,e3,e4,Sem.run_bind,zF hd,zF hxd,zV hi,Result.andThen_ok,Sem.run_pure];rcases isIntT_or xd with⟨kk,rfl⟩|⟨hz,hni⟩
 · simp only[isIntT,if_true]at ha hl;obtain⟨k,rfl,hm⟩:=hl;obtain⟨w1,n1,t1⟩:=int_facts hm hb;simp only[if_true,Sem.run_bind,asInt,asIntOf,Sem.run_pure,Result.andThen_ok,w1,if_neg n1,runTI (zX hi).2,if_neg t1,Int.toNat_natCast,if_pos hn,Bool.not_true,Bool.false_eq_true,if_false];rw [ha];simp only[Result.andThen_ok]
   cases base with
   | none=>subst hst;rfl
   | some a=>dsimp only at hst ⊢;rw [Sem.run_bind,hst];rfl
 · rw[hz]at ha hl;simp only[Bool.false_eq_true,if_false]at ha hl;cases xd
   case int=>exact absurd rfl (hni _)
   all_goals simp only[Bool.false_eq_true,if_false,hl,Result.andThen_ok,if_pos hn,Sem.run_bind,Bool.not_false,if_true]
   all_goals rw[ha]
   all_goals simp only[Result.andThen_ok]
   all_goals cases base with
   | none=>subst hst;rfl
   | some a=>dsimp only at hst ⊢;rw [Sem.run_bind,hst];rfl
theorem append_grows{wd:World}{sT xT e rt:TypeId}{ei:TypeInfo}{xd:TypeDesc}{base:Option Addr}{sLen sCap m:Nat}{x' z:Value}{old' new':List Value}{tr:List TypeId}{xr:List Value}
(hd:und P sT=some (.slice e))(hxd:und P xT=some xd)(hi:inf? P e=some ei)(hz:yO P e=some z)(hl:appLen wd P xd x' m)(hb:ei.bytes<100000)(hn:¬sLen+m≤sCap)(hm:sLen+m<1000000)
(ha':(appSem e ei xd x' m).run P { wd with drawn:=wd.drawn+1 } = .ok ⟨new'⟩ { wd with drawn:=wd.drawn+1 })
(ho':(Builtin.firstCells ei.size sLen (.slice base sLen sCap)).run P { wd with drawn:=wd.drawn+1 } = .ok ⟨old'⟩ { wd with drawn:=wd.drawn+1 }) :
 ∃newCap dr,sLen+m≤newCap∧
 (Builtin.append_ ⟨sT::xT::tr⟩ rt ⟨.slice base sLen sCap::x'::xr⟩).run P wd =
  .ok (.slice (some ⟨wd.heap.size,0,none⟩) (sLen+m) newCap) { wd with drawn:=dr,heap:=wd.heap.push (.cells ((⟨old'⟩:Array Value)++⟨new'⟩++Builtin.zeroCells z.cells (newCap - (sLen+m))) e) }:=by
 have e1:(⟨sT::xT::tr⟩:Array TypeId)[0]? = some sT:=by simp
 have e2:(⟨sT::xT::tr⟩:Array TypeId)[1]? = some xT:=by simp
 have e3:(⟨.slice base sLen sCap::x'::xr⟩:Array Value)[0]? = some (.slice base sLen sCap):=by simp
 have e4:(⟨.slice base sLen sCap::x'::xr⟩:Array Value)[1]? = some x':=by simp
 have hmax:∀q:Prop,¬(((sLen+m:Nat):Int) > IntKind.i64.max∧q):=by
  have:IntKind.i64.max=9223372036854775807:=by decide
  rw[this]
  rintro q ⟨h,_⟩
  omega
 have hnc:¬(Builtin.nextslicecap (sLen+m) sCap*ei.bytes > 2 ^ 48):=by
  have h1:=nextcap_le (m:=sLen+m) (c:=sCap) (by omega);have h2:Builtin.nextslicecap (sLen+m) sCap*ei.bytes≤2000192*100000:=Nat.mul_le_mul (by omega) (by omega);have:(2:Nat) ^ 48=281474976710656:=by decide
  omega
 refine⟨(Question.appendCap (sLen+m) sCap e).cut (wd.tape wd.drawn (.appendCap (sLen+m) sCap e)),wd.drawn+1,?_,?_⟩
 · simp[Question.cut]
 · unfold appSem at ha';unfold appLen at hl;unfold Builtin.append_;simp only[e1,e2,e3,e4,Sem.run_bind,zF hd,zF hxd,zV hi,Result.andThen_ok,Sem.run_pure];rcases isIntT_or xd with⟨kk,rfl⟩|⟨hz2,hni⟩
   · simp only[isIntT,if_true]at ha' hl;obtain⟨k,rfl,hm2⟩:=hl;obtain⟨w1,n1,t1⟩:=int_facts hm2 hb;simp only[if_true,Sem.run_bind,asInt,asIntOf,Sem.run_pure,Result.andThen_ok,w1,if_neg n1,runTI (zX hi).2,if_neg t1,Int.toNat_natCast,if_neg hn,if_neg (hmax _),Bool.not_true,Bool.false_eq_true,if_false,if_neg hnc];have hch:(choose (Question.appendCap (sLen+m) sCap e)).run P wd = .ok ((Question.appendCap (sLen+m) sCap e).cut (wd.tape wd.drawn (Question.appendCap (sLen+m) sCap e))) { wd with drawn:=wd.drawn+1 }:=rfl;rw [hch];simp only[Result.andThen_ok,run_askRoom];rw [ho'];simp only[Result.andThen_ok];rw [ha'];simp only[Result.andThen_ok,yZ hz,newRow];rfl
   · rw[hz2]at ha' hl;simp only[Bool.false_eq_true,if_false]at ha' hl;cases xd
     case int=>exact absurd rfl (hni _)
     all_goals simp only[Bool.false_eq_true,if_false,hl,Sem.run_bind,Result.andThen_ok,runTI (zX hi).2,if_neg hn,if_neg (hmax _),if_neg hnc,Bool.not_false,if_true]
     all_goals
      have hch:(choose (Question.appendCap (sLen+m) sCap e)).run P wd = .ok ((Question.appendCap (sLen+m) sCap e).cut (wd.tape wd.drawn (Question.appendCap (sLen+m) sCap e))) { wd with drawn:=wd.drawn+1 }:=rfl;rw [hch];simp only[Result.andThen_ok,run_askRoom];rw [ho'];simp only[Result.andThen_ok];rw [ha'];simp only[Result.andThen_ok,yZ hz,newRow];rfl
end
section
variable {P:Program} {ng:Nat}
theorem HeapR.kill{ρ : Inj}{base:Nat}{w0:World}{h:zI}{n:Nat}{wd:World}(r:HeapR P ng ρ base w0 h n wd)(b:Nat) :
 HeapR P ng ρ base w0 (h.set .dead .dead b) n wd∧Grow ρ h n wd ρ (h.set .dead .dead b) n wd:=by
 have live:∀x,zH (h.set .dead .dead b) x≠.dead→zH (h.set .dead .dead b) x=zH h x∧zH h x≠.dead:=by
  intro x hx;rw [zJ]at hx ⊢;by_cases e:b=x
  · rw[if_pos e]at hx;exact absurd rfl hx
  · rw[if_neg e]at hx ⊢;exact⟨rfl,hx⟩
 refine⟨⟨r.dom,?_,?_,r.below,r.size,r.glob,r.ngn⟩,⟨Nat.le_refl _,fun _ _=>rfl,?_,fun _ _ _=>rfl,Nat.le_refl _,?_,rfl⟩⟩
 · intro x X e hx;obtain⟨e1,e2⟩:=live x hx;rw [e1];exact r.obj x X e e2
 · intro x y X Y ex ey hx hy;exact r.inj x y X Y ex ey (live x hx).2 (live y hy).2
 · intro x X hx e;rw [r.dom x hx]at e;cases e
 · intro x hx e;rw [zJ];split
   · rfl
   · exact e
theorem HeapR.anew{ρ : Inj}{base:Nat}{w0:World}{h:zI}{n:Nat}{wd:World}(r:HeapR P ng ρ base w0 h n wd){b:Nat}{A B:Bl}(hb: ρ b=some A)(hl:zH h b≠.dead)(hAB:B.b=A.b)
(o:AObj)(o':Obj)(wd':World)(hbase:base≤B.b)(hr:ObjR P ng (ρ.put n B) base B o o')(hw:wd'.heap[B.b]? = some o')(hsz:wd'.heap.size=wd.heap.size)
(hk:∀c,c≠B.b→wd'.heap[c]? = wd.heap[c]?)(h1:wd'.os=wd.os)(h2:wd'.tape=wd.tape)(h3:wd'.output=wd.output) :
 HeapR P ng (ρ.put n B) base w0 ((h.set .dead .dead b).set .dead o n) (n+1) wd'∧Grow ρ h n wd (ρ.put n B) ((h.set .dead .dead b).set .dead o n) (n+1) wd':=by
 have hn: ρ n=none:=r.dom n (Nat.le_refl _);have hle:=Inj.le_put B hn;have hbn:b≠n:=fun e=>by rw[e,hn]at hb;cases hb
 have get:∀x,zH ((h.set .dead .dead b).set .dead o n) x=if n=x then o else if b=x then .dead else zH h x:=by
  intro x;rw [zJ,zJ]
 have live:∀x,x≠n→zH ((h.set .dead .dead b).set .dead o n) x≠.dead→zH ((h.set .dead .dead b).set .dead o n) x=zH h x∧zH h x≠.dead∧x≠b:=by
  intro x hx hd;rw [get,if_neg (fun e=>hx e.symm)]at hd ⊢;by_cases e:b=x
  · rw[if_pos e]at hd;exact absurd rfl hd
  · rw[if_neg e]at hd ⊢;exact⟨rfl,hd,fun e2=>e e2.symm⟩
 have oldρ : ∀x,x≠n→(ρ.put n B) x = ρ x:=fun x hx=>by simp[Inj.put,hx]
 refine⟨⟨?_,?_,?_,?_,by rw[hsz];exact r.size,?_,?_⟩,⟨by omega,?_,?_,?_,by omega,?_,h2⟩⟩
 · intro x hx;rw [oldρ x (by omega)];exact r.dom x (by omega)
 · intro x X e hx;by_cases hxn:x=n
   · subst hxn;rw [zU]at e;injection e with e;subst e
     refine⟨o',hw,?_⟩;rw [get,if_pos rfl];exact hr
   · obtain⟨e1,e2,e3⟩:=live x hxn hx;rw [oldρ x hxn]at e;obtain⟨ob,f1,f2⟩:=r.obj x X e e2;refine⟨ob,?_,?_⟩
     · rw[hk _ (fun e4=>e3 (r.inj x b X A e hb e2 hl (e4.trans hAB))),f1]
     · rw[e1];exact f2.mono hle
 · intro x y X Y ex ey hx hy hxy;by_cases hxn:x=n
   · by_cases hyn:y=n
     · rw[hxn,hyn]
     · obtain⟨e1,e2,e3⟩:=live y hyn hy;subst hxn;rw [zU]at ex;injection ex with ex;subst ex
       rw[oldρ y hyn]at ey;exact absurd (r.inj y b Y A ey hb e2 hl (hxy.symm.trans hAB)) e3
   · obtain⟨e1,e2,e3⟩:=live x hxn hx;rw [oldρ x hxn]at ex;by_cases hyn:y=n
     · subst hyn;rw [zU]at ey;injection ey with ey;subst ey
       exact absurd (r.inj x b X A ex hb e2 hl (hxy.trans hAB)) e3
     · obtain⟨f1,f2,f3⟩:=live y hyn hy;rw [oldρ y hyn]at ey;exact r.inj x y X Y ex ey e2 f2 hxy
 · exact r.below.trans ⟨h1,h2,h3,by omega,fun k hk'=>hk k (by omega)⟩
 · intro g hg;obtain⟨G,e1,e2⟩:=r.glob g hg;exact⟨G,hle _ _ e1,e2⟩
 · have:=r.ngn;omega
 · intro x hx;exact oldρ x (by omega)
 · intro x X hx e;by_cases hxn:x=n
   · subst hxn;rw [zU]at e;injection e with e;subst e
     refine .inr ⟨b,A,?_,hb,hAB.symm,hl⟩;rcases Nat.lt_or_ge b x with h5|h5
     · exact h5
     · rw[r.dom b h5]at hb;cases hb
   · rw[oldρ x hxn,r.dom x (by omega)]at e;cases e
 · intro c _ hn';exact hk c fun e=>hn' b A hb hl (by rw[e,hAB])
 · intro x hx e;rw [get,if_neg (by omega)];split
   · rfl
   · exact e
theorem HeapR.drawn{ρ : Inj}{base:Nat}{w0:World}{h:zI}{n:Nat}{wd:World}(r:HeapR P ng ρ base w0 h n wd)(d:Nat):HeapR P ng ρ base w0 h n { wd with drawn:=d }:=
 ⟨r.dom,r.obj,r.inj,⟨r.below.os,r.below.tape,r.below.output,r.below.size,r.below.block⟩,r.size,r.glob,r.ngn⟩
theorem zeroCells_size(z:Array Value)(k:Nat):(Builtin.zeroCells z k).size=k*z.size:=by simp[Builtin.zeroCells]
theorem HeapR.grown{ρ : Inj}{base:Nat}{w0:World}{h:zI}{n:Nat}{wd:World}(r:HeapR P ng ρ base w0 h n wd){c:Tr Value}{need size newCap:Nat}{old' new':List Value}{z:Array Value}{e:TypeId}{dr:Nat}
(hl:old'.length+new'.length=need*size)(hz:z.size=size)(hn:need≤newCap)
(hv:∀(i:Nat) (v':Value),i<need*size→(old'++new')[i]? = some v'→RV ρ (Tr.get undef c i) v') :
 HeapR P ng (ρ.put n ⟨wd.heap.size,newCap*size,size⟩) base w0 (h.set .dead (.cells c (need*size) (zc e size) 1) n) (n+1)
  { wd with drawn:=dr,heap:=wd.heap.push (.cells ((⟨old'⟩:Array Value)++⟨new'⟩++Builtin.zeroCells z (newCap - need)) e) }∧
  Grow ρ h n wd (ρ.put n ⟨wd.heap.size,newCap*size,size⟩) (h.set .dead (.cells c (need*size) (zc e size) 1) n) (n+1)
   { wd with drawn:=dr,heap:=wd.heap.push (.cells ((⟨old'⟩:Array Value)++⟨new'⟩++Builtin.zeroCells z (newCap - need)) e) }:=by
 have hle:=Inj.le_put (⟨wd.heap.size,newCap*size,size⟩:Bl) (r.dom n (Nat.le_refl _));have hmul:need*size≤newCap*size:=Nat.mul_le_mul_right _ hn
 have hobj:ObjR P ng (ρ.put n ⟨wd.heap.size,newCap*size,size⟩) base ⟨wd.heap.size,newCap*size,size⟩ (.cells c (need*size) (zc e size) 1)
  (.cells ((⟨old'⟩:Array Value)++⟨new'⟩++Builtin.zeroCells z (newCap - need)) e (0,0)):=by
  refine .cells hmul ?_ (fun h=>absurd rfl h) ⟨fun _=>rfl,fun h=>absurd h (by decide)⟩ ?_ (fun _=>r.size) (fun _=>⟨rfl,rfl⟩)
  · show((⟨old'⟩:Array Value)++⟨new'⟩++Builtin.zeroCells z (newCap - need)).size=newCap*size;have e1:((⟨old'⟩:Array Value)++(⟨new'⟩:Array Value)).size=old'.length+new'.length:=by simp
    rw[Array.size_append,e1,zeroCells_size,hz,hl,← Nat.add_mul];congr 1;omega
  · intro i v' hi e1;refine(hv i v' hi ?_).mono hle;have e2:(((⟨old'⟩:Array Value)++⟨new'⟩++Builtin.zeroCells z (newCap - need)).toList)[i]? = some v':=by rw[Array.getElem?_toList];exact e1
    rw[Array.toList_append,Array.toList_append,List.getElem?_append_left (by simp;omega)]at e2;exact e2
 obtain⟨a1,a2⟩:=(r.drawn dr).alloc (.cells c (need*size) (zc e size) 1) _ ⟨wd.heap.size,newCap*size,size⟩ rfl hobj;exact⟨a1,⟨a2.nn,a2.old,a2.new,a2.keep,a2.size,a2.dead,a2.tape⟩⟩
theorem growOpen_ok(hP:zP ng P=true){h:zI}{n b sLen m:Nat}{sT xT e rt:TypeId}{ei:TypeInfo}{xd:TypeDesc}{x z:Value}{new:List Value}{k:Value→zI→Nat→Bool}{tr:List TypeId}
(hd:und P sT=some (.slice e))(hxd:und P xT=some xd)(hi:inf? P e=some ei)(hz:yO P e=some z)(hsz:1≤ei.size)(hzl:(cellsOf z).length=ei.size)(hm:sLen+m<1000000)(hb:ei.bytes<100000)
(ha:appended P h e ei.size xd x=some (m,new))
(hg:growOpen h n b sLen m ei.size (zc e ei.size) new k=true) :
 ∃v h' n',k v h' n'=true∧∀(ρ : Inj) (base:Nat) (w0 wd:World) (s' x':Value) (xr:List Value),HeapR P ng ρ base w0 h n wd→RV ρ (.slice (some ⟨b,0,none⟩) sLen inf) s'→RV ρ x x'→
  ∃ρ' v' wd',(Builtin.append_ ⟨sT::xT::tr⟩ rt ⟨s'::x'::xr⟩).run P wd = .ok v' wd'∧RV ρ' v v'∧HeapR P ng ρ' base w0 h' n' wd'∧Grow ρ h n wd ρ' h' n' wd':=by
 unfold growOpen at hg;split at hg
 case h_2=>cases hg
 rename_i c kn zz hgb
 cases hzz:Nat.beq zz (zc e ei.size) with
 | false=>rw [hzz]at hg;cases hg
 | true =>
  rw[hzz]at hg;dsimp only[cond]at hg;obtain rfl:=zG hzz;have hdead:zH h b≠.dead:=by rw[hgb];exact AObj.noConfusion
  have facts:∀(ρ : Inj) (base:Nat) (w0 wd:World) (s' x':Value),HeapR P ng ρ base w0 h n wd→RV ρ (.slice (some ⟨b,0,none⟩) sLen inf) s'→RV ρ x x'→
   ∃(B:Bl) (c':Nat) (cs:Array Value) (el:TypeId) (new':List Value),ρ b=some B∧s' = .slice (some ⟨B.b,0,none⟩) sLen c'∧sLen≤c'∧c'*ei.size=B.n∧wd.heap[B.b]? = some (.cells cs el (0,0))∧cs.size=B.n∧kn≤B.n∧
    (B.z=ei.size∧el=e)∧base≤B.b∧(∀(i:Nat) (v':Value),i<kn→cs[i]? = some v'→RV ρ (Tr.get undef c i) v')∧
    appLen wd P xd x' m∧RVs ρ new new'∧(appSem e ei xd x' m).run P wd = .ok ⟨new'⟩ wd∧new.length=m*ei.size:=by
   intro ρ base w0 wd s' x' hH hs hx;obtain⟨B,o',c',hb',rfl,_,hl,hcs⟩:=hs.of_slice;obtain⟨o,e1,e2⟩:=hH.obj b B hb' hdead;rw [hgb]at e2
   cases e2 with
   | cells hn hs' hk' hz' hv' hbb hf =>
    rename_i cs el l0 h0;obtain⟨rfl,rfl⟩:=hf (by decide);obtain⟨hel,hBz⟩:=zc_inj (hz'.1 rfl)
    have hc2:o'=0∧c'*ei.size=B.n:=by
     rcases hcs with⟨h1,_⟩|⟨_,⟨h1,h2⟩|⟨_,h1⟩⟩
     · exact absurd rfl h1
     · exact⟨h1,by rw[hBz];simpa using h2⟩
     · exact absurd h1 (Nat.lt_irrefl _)
    obtain⟨rfl,hcn⟩:=hc2;obtain⟨a1,new',a2,a3,a4⟩:=wJ hP hH hx hz ha;exact⟨B,c',cs,el,new',hb',rfl,hl,hcn,e1,hs',hn,⟨hBz.symm,hel.symm⟩,hbb (by decide),hv',a1,a2,a3,a4⟩
  cases hin:Nat.ble (Nat.mul (Nat.add sLen m) ei.size) kn with
  | true=>
   rw[hin]at hg;have hin:(sLen+m)*ei.size≤kn:=wF hin;obtain⟨h',g1,_,_,g2⟩:=storeAt_ok (P:=P) (ng:=ng) hg;refine⟨_,h',n,g1,fun ρ base w0 wd s' x' xr hH hs hx=>?_⟩;obtain⟨B,c',cs,el,new',f1,rfl,f3,f4,f5,f6,f7,⟨f8,f8e⟩,f9,f10,f11,f12,f13,f14⟩:=facts ρ base w0 wd s' x' hH hs hx;obtain⟨wd',q1,q2,q3⟩:=g2 n ρ base w0 wd B new' hH f1 f12;have hfit:sLen+m≤c':=Nat.le_of_mul_le_mul_right (by omega:(sLen+m)*ei.size≤c'*ei.size) hsz;refine⟨ρ,.slice (some ⟨B.b,0,none⟩) (sLen+m) c',wd',?_,?_,q2,q3⟩
   · exact vN hd hxd hi f11 hb hfit f13 (by
      dsimp only;rw [add_eq,Nat.zero_add];exact q1)
   · exact .opened f1 hfit (.inl ⟨rfl,by rw[f8];simpa using f4⟩)
  | false =>
   rw[hin]at hg;dsimp only[cond]at hg
   cases hkn:Nat.ble (Nat.mul sLen ei.size) kn with
   | false=>rw [hkn]at hg;cases hg
   | true=>
    rw[hkn]at hg;have hkn:sLen*ei.size≤kn:=wF hkn;obtain⟨hone,g2⟩:=vW hg;rw [Tr.setK_eq,zT]at g2;refine⟨_,_,_,g2,fun ρ base w0 wd s' x' xr hH hs hx=>?_⟩;obtain⟨B,c',cs,el,new',f1,rfl,f3,f4,f5,f6,f7,⟨f8,f8e⟩,f9,f10,f11,f12,f13,f14⟩:=facts ρ base w0 wd s' x' hH hs hx;have hlen:new'.length=m*ei.size:=f12.1.symm.trans f14;have hmul:(sLen+m)*ei.size=sLen*ei.size+m*ei.size:=Nat.add_mul _ _ _;by_cases hfit:sLen+m≤c'
    · have hfit2:(sLen+m)*ei.size≤c'*ei.size:=Nat.mul_le_mul_right _ hfit
      have hone':∀v∈new',v.oneCell'=true:=by
       intro v' hm;obtain⟨i,hi⟩:=List.mem_iff_getElem?.1 hm
       have hlt:i<new.length:=by
        rcases Nat.lt_or_ge i new'.length with h5|h5
        · have:=f12.1;omega
        · rw[List.getElem?_eq_none h5]at hi;cases hi
       have:=f12.2 i new[i] v' (List.getElem?_eq_getElem hlt) hi;exact this.one (hone _ (List.getElem_mem hlt))
      have hst:=run_storeCells_at P B.b (sLen*ei.size) el new' 0 cs wd f5 (by omega) hone';have hsz2:(cs.toList.take (sLen*ei.size+0)++new'++cs.toList.drop (sLen*ei.size+0+new'.length)).length=cs.size:=by simp;omega
      obtain⟨r1,r2⟩:=hH.anew f1 hdead (B:=B) rfl (.cells (Tr.ofListFrom undef c (sLen*ei.size) new) ((sLen+m)*ei.size) (zc e ei.size) 1)
       (.cells (cs.toList.take (sLen*ei.size+0)++new'++cs.toList.drop (sLen*ei.size+0+new'.length)).toArray el (0,0)) _ f9 (by
        refine .cells (by omega) (by simpa using hsz2.trans f6) (fun h=>absurd rfl h) ⟨fun _=>by rw[f8,f8e],fun h=>absurd h (by decide)⟩ (fun i v' hi e=>?_) (fun _=>f9) (fun _=>⟨rfl,rfl⟩);have hle:=Inj.le_put B (hH.dom n (Nat.le_refl _));rw [Tr.get_ofListFrom];have e':(cs.toList.take (sLen*ei.size+0)++new'++cs.toList.drop (sLen*ei.size+0+new'.length))[i]? = some v':=by simpa using e
        by_cases h6:sLen*ei.size≤i∧i<sLen*ei.size+new.length
        · rw[if_pos h6];rw [List.append_assoc,List.getElem?_append_right (by simp;omega),List.getElem?_append_left (by simp;omega)]at e';have hi2:i - (cs.toList.take (sLen*ei.size+0)).length=i - sLen*ei.size:=by simp;omega
          rw[hi2]at e';have hlt:i - sLen*ei.size<new.length:=by omega
          have:new[i - sLen*ei.size]? = some (new.getD (i - sLen*ei.size) undef):=by simp[List.getElem?_eq_getElem hlt]
          exact(f12.2 _ _ v' this e').mono hle
        · rw[if_neg h6];refine(f10 i v' (by omega) ?_).mono hle;rw [List.append_assoc,List.getElem?_append_left (by simp;omega),List.getElem?_take_of_lt (by omega)]at e';simpa using e') (setRow_heap wd B.b cs _ el _ f5) (by simp[World.setRow]) (fun x hx=>setRow_other wd B.b x _ hx) rfl rfl rfl
      refine⟨_,.slice (some ⟨B.b,0,none⟩) (sLen+m) c',_,?_,?_,r1,r2⟩
      · exact vN hd hxd hi f11 hb hfit f13 (by
         dsimp only;rw [add_eq,Nat.zero_add];exact hst)
      · exact .opened (zU _ _ _) hfit (.inl ⟨rfl,by rw[f8];simpa using f4⟩)
    · have hHd:=hH.drawn (wd.drawn+1);obtain⟨_,new2,b2,b3,_⟩:=wJ hP hHd hx hz ha;obtain⟨old',o1,o2⟩:=run_loadRow hHd f1 hgb (off:=0) (k:=sLen*ei.size) (by omega);have hold:old'.length=sLen*ei.size:=by rw[← o1.1];exact Tr.length_toListFrom _ _ _ _
      have hnew2:new2.length=m*ei.size:=b2.1.symm.trans f14;obtain⟨newCap,dr,p1,p2⟩:=append_grows (base:=some ⟨B.b,0,none⟩) (tr:=tr) (xr:=xr) (rt:=rt) hd hxd hi hz f11 hb hfit hm b3 o2
      have hzz2:z.cells.size=ei.size:=by
       have:cellsOf z=z.cells.toList:=by cases z <;> rfl
       rw[this]at hzl;simpa using hzl
      obtain⟨k1,k2⟩:=hH.kill b
      obtain⟨r1,r2⟩:=k1.grown (c:=Tr.ofListFrom undef c (sLen*ei.size) new) (need:=sLen+m) (old':=old') (new':=new2) (z:=z.cells) (e:=e) (dr:=dr) (newCap:=newCap) (size:=ei.size) (by omega) hzz2 p1 (by
       intro i v' hi e1;rw [Tr.get_ofListFrom];by_cases h6:sLen*ei.size≤i∧i<sLen*ei.size+new.length
       · rw[if_pos h6];rw [List.getElem?_append_right (by omega)]at e1;have hi2:i - old'.length=i - sLen*ei.size:=by rw[hold]
         rw[hi2]at e1;have hlt:i - sLen*ei.size<new.length:=by omega
         have:new[i - sLen*ei.size]? = some (new.getD (i - sLen*ei.size) undef):=by simp[List.getElem?_eq_getElem hlt]
         exact b2.2 _ _ v' this e1
       · rw[if_neg h6];rw [List.getElem?_append_left (by omega)]at e1
         have:(Tr.toListFrom undef c 0 (sLen*ei.size))[i]? = some (Tr.get undef c i):=by
          rw[Tr.getElem?_toListFrom,if_pos (by omega),Nat.zero_add]
         exact o1.2 i _ v' this e1)
      exact⟨_,_,_,p2,.opened (zU _ _ _) p1 (.inl ⟨rfl,by simp⟩),r1,k2.trans r2⟩
theorem growEx_ok(hP:zP ng P=true){h:zI}{n sLen cap m:Nat}{bs:Option Addr}{sT xT e rt:TypeId}{ei:TypeInfo}{xd:TypeDesc}{x z:Value}{new:List Value}{k:Value→zI→Nat→Bool}{tr:List TypeId}
(hd:und P sT=some (.slice e))(hxd:und P xT=some xd)(hi:inf? P e=some ei)(hz:yO P e=some z)(_hsz:1≤ei.size)(hzl:(cellsOf z).length=ei.size)(hm:sLen+m<1000000)(hb:ei.bytes<100000)(hcap:cap≠inf)
(ha:appended P h e ei.size xd x=some (m,new))
(hg:growEx h n bs sLen cap m ei.size (zc e ei.size) new k=true) :
 ∃v h' n',k v h' n'=true∧∀(ρ : Inj) (base:Nat) (w0 wd:World) (s' x':Value) (xr:List Value),HeapR P ng ρ base w0 h n wd→RV ρ (.slice bs sLen cap) s'→RV ρ x x'→
  ∃ρ' v' wd',(Builtin.append_ ⟨sT::xT::tr⟩ rt ⟨s'::x'::xr⟩).run P wd = .ok v' wd'∧RV ρ' v v'∧HeapR P ng ρ' base w0 h' n' wd'∧Grow ρ h n wd ρ' h' n' wd':=by
 unfold growEx at hg
 cases hin:Nat.ble (Nat.add sLen m) cap with
 | true=>
  rw[hin]at hg;have hin:sLen+m≤cap:=wF hin;dsimp only[cond]at hg;split at hg
  case h_3=>cases hg
  · rename_i b off;obtain⟨h',g1,_,⟨cc,mm,zz,kd,gg,gl,ge⟩,g2⟩:=storeAt_ok (P:=P) (ng:=ng) hg;refine⟨_,h',n,g1,fun ρ base w0 wd s' x' xr hH hs hx=>?_⟩;obtain⟨a1,new',a2,a3,a4⟩:=wJ hP hH hx hz ha
    cases hs with
    | opened=>exact absurd rfl hcap
    | slice f1 hc hl ho=>
     rename_i B o';obtain⟨wd',q1,q2,q3⟩:=g2 n ρ base w0 wd B new' hH f1 a2;refine⟨ρ,.slice (some ⟨B.b,o',none⟩) (sLen+m) cap,wd',?_,.slice f1 hc hin ho,q2,q3⟩;refine vN hd hxd hi a1 hb hin a3 ?_;dsimp only;rw [add_eq];rcases ho with rfl|ho
     · exact q1
     · have:m*ei.size=0:=by
        have:m=0:=by omega
        rw[this,Nat.zero_mul]
       have hn0:new'=[]:=List.length_eq_zero_iff.1 (by rw[← a2.1,a4,this]);subst hn0;exact q1
  · cases hm0:Nat.beq m 0 with
    | false=>rw [hm0]at hg;cases hg
    | true =>
     rw[hm0]at hg;obtain rfl:=zG hm0;refine⟨_,h,n,hg,fun ρ base w0 wd s' x' xr hH hs hx=>?_⟩;obtain⟨a1,new',a2,a3,a4⟩:=wJ hP hH hx hz ha
     cases hs with
     | nilSlice=>
      refine⟨ρ,.slice none sLen cap,wd,?_,.nilSlice _ _ hcap,hH,Grow.refl _ _ _ _ hH.dom⟩;exact vN (base:=none) (m:=0) hd hxd hi a1 hb hin a3 rfl
 | false =>
  rw[hin]at hg;dsimp only[cond]at hg
  have hin:¬sLen+m≤cap:=fun e=>by
   have:Nat.ble (Nat.add sLen m) cap=true:=Nat.ble_eq ▸ e;rw [hin]at this;cases this
  split at hg
  case h_2=>cases hg
  rename_i old ho;obtain⟨_,g2⟩:=vW hg;rw [zT]at g2;refine⟨_,_,_,g2,fun ρ base w0 wd s' x' xr hH hs hx=>?_⟩;have hHd:=hH.drawn (wd.drawn+1);obtain⟨a1,new',a2,a3,a4⟩:=wJ hP hHd hx hz ha;obtain⟨old',o1,o2⟩:=rowOf_ok hHd hs ho (fun s e=>by cases e)
  have holen:old.length=sLen*ei.size:=by
   unfold rowOf at ho;split at ho
   · rename_i cq
     cases hq:Nat.beq sLen 0 with
     | false=>rw [hq]at ho;cases ho
     | true=>
      rw[hq]at ho;injection ho with ho;subst ho
      obtain rfl:=zG hq;simp
   · rename_i bq oq lq cq heq;injection heq with hq1 hq2 hq3
     split at ho
     · rename_i c1 kn1 z1 kd1 hg1
       cases hcq:(Nat.ble sLen sLen && Nat.ble (Nat.add oq (Nat.mul sLen ei.size)) kn1) with
       | false=>subst hq2;rw [hcq]at ho;cases ho
       | true=>
        subst hq2;rw [hcq]at ho;dsimp only[cond]at ho;injection ho with ho;subst ho
        exact Tr.length_toListFrom _ _ _ _
     · cases ho
   · rename_i heq;cases heq
   · cases ho
  have hold':old'.length=sLen*ei.size:=by rw[← o1.1,holen]
  have hnew':new'.length=m*ei.size:=by rw[← a2.1,a4]
  have hmul:(sLen+m)*ei.size=sLen*ei.size+m*ei.size:=Nat.add_mul _ _ _
  have hzz2:z.cells.size=ei.size:=by
   have:cellsOf z=z.cells.toList:=by cases z <;> rfl
   rw[this]at hzl;simpa using hzl
  obtain⟨bs',hs',hbs⟩:∃bs',s' = .slice bs' sLen cap∧True:=by
   cases hs with
   | nilSlice=>exact⟨_,rfl,trivial⟩
   | slice=>exact⟨_,rfl,trivial⟩
   | opened=>exact absurd rfl hcap
  subst hs'
  have a1':appLen wd P xd x' m:=by
   unfold appLen at a1 ⊢;split
   · rename_i hq;rw [if_pos hq]at a1;exact a1
   · rename_i hq;rw [if_neg hq]at a1;unfold appended at ha;split at ha
     · exact absurd rfl hq
     · cases hl:lenV x with
       | none=>rw [hl]at ha;cases ha
       | some m2=>
        have h1:=lenV_ok (P:=P) hx hl wd;have h2:=lenV_ok (P:=P) hx hl { wd with drawn:=wd.drawn+1 };rw [h2]at a1;injection a1 with a1
        rw[← a1];exact h1
  obtain⟨newCap,dr,p1,p2⟩:=append_grows (base:=bs') (tr:=tr) (xr:=xr) (rt:=rt) hd hxd hi hz a1' hb hin hm a3 o2;have hall:=o1.append a2
  obtain⟨r1,r2⟩:=hH.grown (c:=Tr.ofListFrom undef .lF 0 (old++new)) (need:=sLen+m) (old':=old') (new':=new') (z:=z.cells) (e:=e) (dr:=dr) (newCap:=newCap) (size:=ei.size) (by omega) hzz2 p1 (by
   intro i v' hi e1;have hlt:i<(old++new).length:=by simp;omega
   rw[Tr.get_ofListFrom,if_pos (by omega)];have:(old++new)[i]? = some ((old++new).getD (i - 0) undef):=by simp[List.getElem?_eq_getElem hlt]
   exact hall.2 i _ v' this e1)
  exact⟨_,_,_,p2,.opened (zU _ _ _) p1 (.inl ⟨rfl,by simp⟩),r1,r2⟩
theorem xappend_ok(hP:zP ng P=true){h:zI}{n:Nat}{tys:List TypeId}{args:List Value}{rt:TypeId}{k:Value→zI→Nat→Bool}(hx:xappend P tys args h n k=true) :
 ∃v h' n',k v h' n'=true∧∀(ρ : Inj) (base:Nat) (w0 wd:World) (args':List Value),HeapR P ng ρ base w0 h n wd→RVs ρ args args'→
  ∃ρ' v' wd',(Builtin.append_ ⟨tys⟩ rt ⟨args'⟩).run P wd = .ok v' wd'∧RV ρ' v v'∧HeapR P ng ρ' base w0 h' n' wd'∧Grow ρ h n wd ρ' h' n' wd':=by
 unfold xappend at hx;split at hx
 case h_2=>cases hx
 rename_i sT xT tr bs sLen cap x xr;split at hx
 case h_2=>cases hx
 rename_i e xd hd hxd;split at hx
 case h_2=>cases hx
 rename_i ei z hi hz
 cases ha:appended P h e ei.size xd x with
 | none=>rw [ha]at hx;cases hx
 | some p =>
  obtain⟨m,new⟩:=p;rw [ha]at hx;dsimp only at hx
  cases hc:(Nat.beq ei.size 0 || !Nat.beq (cellsOf z).length ei.size || !Nat.blt (Nat.add sLen m) 1000000 || !Nat.blt ei.bytes 100000) with
  | true=>rw [hc]at hx;cases hx
  | false =>
   rw[hc]at hx;dsimp only[cond]at hx;simp only[Bool.or_eq_false_iff,Bool.not_eq_false']at hc;obtain⟨⟨⟨q1,q2⟩,q3⟩,q4⟩:=hc
   have q1:1≤ei.size:=by
    rcases Nat.eq_zero_or_pos ei.size with e0|e0
    · rw[e0]at q1;cases q1
    · exact e0
   have q2:=zG q2;have q3:sLen+m<1000000:=zR q3;have q4:=zR q4
   have pass:∀{R:Prop},(∃v h' n',k v h' n'=true∧∀(ρ : Inj) (base:Nat) (w0 wd:World) (s' x':Value) (xr':List Value),HeapR P ng ρ base w0 h n wd→RV ρ (.slice bs sLen cap) s'→RV ρ x x'→
    ∃ρ' v' wd',(Builtin.append_ ⟨sT::xT::tr⟩ rt ⟨s'::x'::xr'⟩).run P wd = .ok v' wd'∧RV ρ' v v'∧HeapR P ng ρ' base w0 h' n' wd'∧Grow ρ h n wd ρ' h' n' wd')→
    ∃v h' n',k v h' n'=true∧∀(ρ : Inj) (base:Nat) (w0 wd:World) (args':List Value),HeapR P ng ρ base w0 h n wd→RVs ρ (.slice bs sLen cap::x::xr) args'→
    ∃ρ' v' wd',(Builtin.append_ ⟨sT::xT::tr⟩ rt ⟨args'⟩).run P wd = .ok v' wd'∧RV ρ' v v'∧HeapR P ng ρ' base w0 h' n' wd'∧Grow ρ h n wd ρ' h' n' wd':=by
    rintro - ⟨v,h',n',k1,k2⟩
    refine⟨v,h',n',k1,fun ρ base w0 wd args' hH hr=>?_⟩;obtain⟨s',l1,rfl,hs,hr⟩:=hr.of_cons;obtain⟨x',l2,rfl,hx,_⟩:=hr.of_cons;exact k2 ρ base w0 wd s' x' l2 hH hs hx
   apply pass (R:=True)
   cases hm0:(Nat.beq m 0 && !Nat.beq cap 0 && (Nat.beq cap inf || Nat.ble sLen cap)) with
   | true =>
    rw[hm0]at hx;simp only[Bool.and_eq_true]at hm0;obtain⟨⟨m1,m2⟩,m3⟩:=hm0;obtain rfl:=zG m1;refine⟨_,h,n,hx,fun ρ base w0 wd s' x' xr' hH hs hx=>?_⟩;obtain⟨a1,new',a2,a3,a4⟩:=wJ hP hH hx hz ha;have hn0:new'=[]:=List.length_eq_zero_iff.1 (by rw[← a2.1,a4,Nat.zero_mul]);subst hn0
    have key:∃bs' c',s' = .slice bs' sLen c'∧sLen≤c':=by
     cases hs with
     | nilSlice _ _ hc=>
      refine⟨_,_,rfl,?_⟩;rcases Bool.or_eq_true_iff.1 m3 with e1|e1
      · exact absurd (zG e1) hc
      · exact wF e1
     | slice _ _ hl _=>exact⟨_,_,rfl,hl⟩
     | opened _ hl _=>exact⟨_,_,rfl,hl⟩
    obtain⟨bs',c',rfl,hle⟩:=key;refine⟨ρ,.slice bs' sLen c',wd,?_,hs,hH,Grow.refl _ _ _ _ hH.dom⟩;exact vN (m:=0) hd hxd hi a1 q4 hle a3 (by cases bs' <;> rfl)
   | false =>
    rw[hm0]at hx;dsimp only[cond]at hx
    cases hc:Nat.beq cap inf with
    | true=>
     rw[hc]at hx;obtain rfl:=zG hc;dsimp only at hx;split at hx
     · rename_i b;exact growOpen_ok hP hd hxd hi hz q1 q2 q3 q4 ha hx
     · cases hx
    | false=>
     rw[hc]at hx;have hcap:cap≠inf:=fun e=>by subst e;rw [Nat.beq_refl]at hc;cases hc
     exact growEx_ok hP hd hxd hi hz q1 q2 q3 q4 hcap ha hx
end
section
variable {P:Program} {ng:Nat} {t:Fr} {w:W}
theorem scalEq_same{kd:TypeDesc}{k k':Value}(hk:wH kd k=true)(h:yN k k'=some true):k'=k:=by
 unfold wH at hk;split at hk
 · rename_i kk k2 a;cases k' <;> simp only[yN]at h <;> first|(cases h;done)|skip
   rename_i k3 b
   cases hq:vH k2 k3 with
   | false=>rw [hq]at h;cases h
   | true=>
    rw[hq]at h;injection h with h
    obtain rfl:=vL hq;rw [vK]at h;have:a=b:=by simpa using h
    rw[this]
 · rename_i s;cases k' <;> simp only[yN]at h <;> first|(cases h;done)|skip
   injection h with h
   rw[vD]at h;rename_i s';have h2:s.data.toList=s'.data.toList:=by simpa using h
   have:s=s':=by
    cases s;cases s'
    simp only[ByteArray.mk.injEq];exact Array.toList_inj.1 h2
   rw[this]
 · rename_i b;cases k' <;> simp only[yN]at h <;> first|(cases h;done)|skip
   rename_i b';cases b <;> cases b' <;> first|rfl|(cases h;done)
 · cases hk
theorem keyEq_same{kd:TypeDesc}{k k':Value}(hk:keyT P kd k=true)(h:keyEq k k'=some true):k'=k:=by
 rcases uG hk with hk|⟨len,e,cs,ed,ei,rfl,rfl,h1,h2,h3,h4,h5⟩
 · rw[keyEq_scal (scal_noagg hk)]at h;exact scalEq_same hk h
 · cases k' <;> first|(cases h;done)|skip
   rename_i ys;have h':scalsEq cs.toList ys.toList=some true:=h
   have key:∀{a b:List Value},(∀x∈a,wH ed x=true)→scalsEq a b=some true→b=a:=by
    intro a
    induction a with
    | nil=>intro b _ h;cases b with
     | nil=>rfl
     | cons _ _=>cases h
    | cons x a ih =>
     intro b ha h
     cases b with
     | nil=>cases h
     | cons y b =>
      simp only[scalsEq]at h
      cases hq:yN x y with
      | none=>rw [hq]at h;cases h
      | some q =>
       rw[hq]at h
       cases q with
       | false=>cases h
       | true=>
        rw[scalEq_same (ha x (by simp)) hq,ih (fun z hz=>ha z (by simp[hz])) h]
   rw[Array.toList_inj.1 (key h5 h')]
theorem findE_at{kd:TypeDesc}{k:Value}(hk:keyT P kd k=true):∀{es:List MapEntry} {i j:Nat} {v:Value},findE k es i=some (some (j,v))→∃e,i≤j∧es[j - i]? = some e∧e.key=k:=by
 intro es
 induction es with
 | nil=>intro i j v h;simp [findE]at h
 | cons e es ih =>
  intro i j v h;simp only[findE]at h
  cases hs:keyEq k e.key with
  | none=>rw [hs]at h;cases h
  | some b =>
   rw[hs]at h
   cases b with
   | true=>
    dsimp only at h;injection h with h
    injection h with h
    injection h with h1 h2
    subst h1;exact⟨e,Nat.le_refl _,by simp,keyEq_same hk hs⟩
   | false=>
    obtain⟨e2,h1,h2,h3⟩:=ih h;refine⟨e2,by omega,?_,h3⟩;have:j - i=(j - (i+1))+1:=by omega
    rw[this,List.getElem?_cons_succ];exact h2
theorem scal_bits0{kd:TypeDesc}{k:Value}(hk:wH kd k=true)(m:Nat):Instr.sameBits m k k=true:=by
 unfold wH at hk;split at hk
 · simp[Instr.sameBits]
 · simp[Instr.sameBits,beq_toListBytes]
 · simp[Instr.sameBits]
 · cases hk
theorem scal_bits{kd:TypeDesc}{k:Value}(hk:keyT P kd k=true):Instr.sameBits 10000 k k=true:=by
 rcases uG hk with hk|⟨len,e,cs,ed,ei,rfl,rfl,h1,h2,h3,h4,h5⟩
 · exact scal_bits0 hk _
 · simp only[Instr.sameBits,BEq.rfl,Bool.true_and,List.all_eq_true];intro p hp
   have key:∀{l:List Value} {p:Value×Value},p∈l.zip l→p.1=p.2∧p.1∈l:=by
    intro l
    induction l with
    | nil=>intro p hp;simp at hp
    | cons x l ih=>
     intro p hp;rw [List.zip_cons_cons]at hp;rcases List.mem_cons.1 hp with rfl|hp
     · exact⟨rfl,by simp⟩
     · exact⟨(ih hp).1,List.mem_cons_of_mem _ (ih hp).2⟩
   obtain⟨x,y⟩:=p;obtain⟨g1,g2⟩:=key hp;dsimp only at g1 g2 ⊢;subst g1;exact scal_bits0 (h5 _ g2) _
theorem putE_ok{ρ : Inj}{k v v':Value}(hv:RV ρ v v'):∀{es es':List MapEntry} (i:Nat),EsR ρ es es'→EsR ρ (putE k v i es) (es'.modify i fun e=>{ e with key:=k,val:=v' }):=by
 intro es
 induction es with
 | nil=>
  intro es' i he;have:es'=[]:=by have:=he.1;cases es' <;> simp_all
  subst this;exact⟨by simp[putE],fun j e e' h1 h2=>by simp[putE]at h1⟩
 | cons e es ih =>
  intro es' i he
  cases es' with
  | nil=>have:=he.1;simp at this
  | cons e' es' =>
   have h0:=he.2 0 e e' rfl rfl;have he':EsR ρ es es':=⟨by have:=he.1;simpa using this,fun j a b h1 h2=>he.2 (j+1) a b (by simpa using h1) (by simpa using h2)⟩
   cases i with
   | zero =>
    refine⟨by have:=he.1;simpa [putE] using this,fun j a b h1 h2=>?_⟩
    cases j with
    | zero=>
     simp[putE]at h1 h2;subst h1 h2;exact⟨rfl,hv,h0.2.2⟩
    | succ j=>exact he'.2 j a b (by simpa [putE] using h1) (by simpa using h2)
   | succ i =>
    obtain⟨l1,l2⟩:=ih i he';refine⟨by simpa [putE] using l1,fun j a b h1 h2=>?_⟩
    cases j with
    | zero=>
     simp[putE]at h1 h2;subst h1 h2;exact h0
    | succ j=>exact l2 j a b (by simpa [putE] using h1) (by simpa using h2)
theorem xmapUpdate_ok{ty:TypeId}{x key v:Value}{h:zI}{k:zI→Bool}(hs:uE P ty x key v h k=true) :
 ∃h',k h'=true∧∀(n:Nat) (ρ : Inj) (base:Nat) (w0 wd:World) (x' key' v':Value),HeapR P ng ρ base w0 h n wd→RV ρ x x'→RV ρ key key'→RV ρ v v'→
  ∃wd',(Instr.mapUpdate ty x' key' v').run P wd = .ok () wd'∧HeapR P ng ρ base w0 h' n wd'∧Grow ρ h n wd ρ h' n wd':=by
 unfold uE at hs;split at hs
 case h_2=>cases hs
 rename_i kt et r hd;split at hs
 case h_2=>cases hs
 rename_i kd es clock hkd hg
 cases hsc:keyT P kd key with
 | false=>rw [hsc]at hs;cases hs
 | true=>
  rw[hsc]at hs;dsimp only[cond]at hs;have hdead:zH h r≠.dead:=by rw[hg];exact AObj.noConfusion
  split at hs
  case h_3=>cases hs
  · rename_i i w2 hf;rw [Tr.setK_eq]at hs;refine⟨_,hs,fun n ρ base w0 wd x' key' v' hH hx hk hv=>?_⟩;have hkk:=(uH hsc hk).symm;subst hkk;obtain⟨B,hb,rfl⟩:=hx.of_map;obtain⟨es',e1,he,hbb⟩:=map_at hH hb hg;obtain⟨r',h1,h2⟩:=vE (wd:=wd) hkd hsc he hf
    cases r' with
    | none=>exact h2.elim
    | some p =>
     obtain⟨j,w'⟩:=p;obtain⟨rfl,_⟩:=h2;obtain⟨e,_,e3,e4⟩:=findE_at hsc hf;have e3:es[i]? = some e:=by simpa using e3
     obtain⟨e',e5⟩:∃e',es'[i]? = some e':=by
      have:i<es.length:=by
       rcases Nat.lt_or_ge i es.length with h5|h5
       · exact h5
       · rw[List.getElem?_eq_none h5]at e3;cases e3
      exact⟨es'[i]'(he.1 ▸ this),List.getElem?_eq_getElem _⟩
     have e6:e'.key=key:=by rw[(he.2 i e e' e3 e5).1,e4]
     have e7:((((⟨es'⟩:Array MapEntry)[i]?).map (·.key)).getD key)=key:=by
      have:(⟨es'⟩:Array MapEntry)[i]? = some e':=by rw[← Array.getElem?_toList];exact e5
      rw[this];simp [e6]
     have hst:(Instr.keyThatStays key key).run P wd = .ok key wd:=by simp[Instr.keyThatStays,scal_bits hsc]
     have hlt:=hH.lt hb hdead;refine⟨{ wd with heap:=wd.heap.setIfInBounds B.b (.map ((⟨es'⟩:Array MapEntry).modify i fun e=>{ e with key:=key,val:=v' }) clock) },?_,?_⟩
     · simp only[Instr.mapUpdate,Sem.run_bind,zF hd,Result.andThen_ok,yA e1,check_ok (wd:=wd) hkd hsc false 9998,h1,e7,hst];simp [setObj,Sem.run,e1]
     · refine hH.turn hb hdead _ (.map ⟨es'.modify i fun e=>{ e with key:=key,val:=v' }⟩ clock) _ hbb (.map (putE_ok hv i he) hbb) ?_ (by simp) ?_ rfl rfl rfl
       · have:((⟨es'⟩:Array MapEntry).modify i fun e=>{ e with key:=key,val:=v' })=⟨es'.modify i fun e=>{ e with key:=key,val:=v' }⟩:=by
          apply Array.toList_inj.1;rw [Array.toList_modify]
         rw[this];simp [hlt]
       · intro c hc;show(wd.heap.setIfInBounds B.b _)[c]? = _;rw [Array.getElem?_setIfInBounds,if_neg (fun e=>hc e.symm)]
  · rename_i hf;rw [Tr.setK_eq]at hs;refine⟨_,hs,fun n ρ base w0 wd x' key' v' hH hx hk hv=>?_⟩;have hkk:=(uH hsc hk).symm;subst hkk;obtain⟨B,hb,rfl⟩:=hx.of_map;obtain⟨es',e1,he,hbb⟩:=map_at hH hb hg;obtain⟨r',h1,h2⟩:=vE (wd:=wd) hkd hsc he hf
    cases r' with
    | some p=>exact h2.elim
    | none=>
     have hlt:=hH.lt hb hdead;refine⟨{ wd with heap:=wd.heap.setIfInBounds B.b (.map ((⟨es'⟩:Array MapEntry).push { key:=key,val:=v',born:=clock }) (clock+1)) },?_,?_⟩
     · simp only[Instr.mapUpdate,Sem.run_bind,zF hd,Result.andThen_ok,yA e1,check_ok (wd:=wd) hkd hsc false 9998,h1];simp [setObj,Sem.run,e1]
     · refine hH.turn hb hdead _ (.map ⟨es'++[{ key:=key,val:=v',born:=clock }]⟩ (clock+1)) _ hbb (.map ?_ hbb) ?_ (by simp) ?_ rfl rfl rfl
       · refine⟨by have:=he.1;simp [this],fun i a b h1 h2=>?_⟩;by_cases hi:i<es.length
         · rw[List.getElem?_append_left hi]at h1;rw [List.getElem?_append_left (he.1 ▸ hi)]at h2;exact he.2 i a b h1 h2
         · rw[List.getElem?_append_right (by omega)]at h1;rw [List.getElem?_append_right (by have:=he.1;omega),← he.1]at h2
           cases hq:i - es.length with
           | zero=>
            rw[hq]at h1 h2;simp at h1 h2;subst h1 h2;exact⟨rfl,hv,rfl⟩
           | succ m=>rw [hq]at h1;simp at h1
       · have:((⟨es'⟩:Array MapEntry).push { key:=key,val:=v',born:=clock })=⟨es'++[{ key:=key,val:=v',born:=clock }]⟩:=by simp
         rw[this];simp [hlt]
       · intro c hc;show(wd.heap.setIfInBounds B.b _)[c]? = _;rw [Array.getElem?_setIfInBounds,if_neg (fun e=>hc e.symm)]
theorem range_ok{o:Oper}{ty:TypeId}{x:Operand}(hop:o.op = .range ty x){lo:Lo}{cx:Cx}{k:KV}{kp:KP}(h:eff o.op P lo cx t w k kp=true):∃w' v,EffVal P ng o t w v w'∧k w' v=true:=by
 rw[hop]at h;have h':(yG w fun h n mk=>xrangeM P ty (ev t x) h n fun v h n=>k (mk h n) v)=true:=h;rw [yH]at h';have hmem:x∈o.op.operands.toList:=by rw[hop];simp [Op.operands]
 unfold xrangeM at h';split at h'
 · rename_i kt et hd hx;rw [zT]at h';refine⟨W.mk w.d w.u (w.h.set .dead (.siter none 0 [] 0) w.n) (w.n+1),.pointer (some ⟨w.n,0,none⟩),⟨rfl,rfl,fun ρ base w0 a wd hT hH=>?_⟩,h'⟩;have rx:=hT x hmem;rw [hx]at rx;obtain⟨a1,a2⟩:=hH.alloc (.siter none 0 [] 0) (.mapIter none 0 #[] 0) ⟨wd.heap.size,0,0⟩ rfl (.siter0 hH.size);refine⟨_,.pointer (some ⟨wd.heap.size,0,none⟩),_,.inl ?_,RV.ptr (B:=⟨wd.heap.size,0,0⟩) (zU _ _ _),a1,a2⟩;generalize hz:a.eval x=x' at rx
   cases rx
   simp[execOp,hop,hz,Instr.range,zF hd]
 · rename_i kt et r hd hx;split at h'
   case h_2=>cases h'
   rename_i es clock hg;rw [zT]at h';refine⟨W.mk w.d w.u (w.h.set .dead (.siter (some r) clock [] clock) w.n) (w.n+1),.pointer (some ⟨w.n,0,none⟩),⟨rfl,rfl,fun ρ base w0 a wd hT hH=>?_⟩,h'⟩;have rx:=hT x hmem;rw [hx]at rx;obtain⟨B,hb,hz⟩:=rx.of_map;obtain⟨es',e1,he,hbb⟩:=map_at hH hb hg;have hle:=Inj.le_put (⟨wd.heap.size,0,0⟩:Bl) (hH.dom w.n (Nat.le_refl _));obtain⟨a1,a2⟩:=hH.alloc (.siter (some r) clock [] clock) (.mapIter (some B.b) clock #[] clock) ⟨wd.heap.size,0,0⟩ rfl (.siter (hle _ _ hb) hH.size);refine⟨_,.pointer (some ⟨wd.heap.size,0,none⟩),_,.inl ?_,RV.ptr (B:=⟨wd.heap.size,0,0⟩) (zU _ _ _),a1,a2⟩;simp [execOp,hop,hz,Instr.range,zF hd,yA e1]
 · cases h'
theorem seen_has(seen:List Nat)(b:Nat):(seen.any fun x=>Nat.beq x b)=(⟨seen⟩:Array Nat).contains b:=by
 rw[show(⟨seen⟩:Array Nat).contains b=seen.contains b from by simp]
 induction seen with
 | nil=>rfl
 | cons x seen ih =>
  rw[List.any_cons,List.contains_cons,ih];congr 1
  cases h:Nat.beq x b with
  | true=>have:=zG h;subst this;simp
  | false=>
   have:¬b=x:=fun e=>by subst e;rw [Nat.beq_refl]at h;cases h
   simp[this]
theorem left_ok{ρ : Inj}(p:Nat→Bool):∀{es es':List MapEntry},EsR ρ es es'→EsR ρ (es.filter fun e=>p e.born) (es'.filter fun e=>p e.born):=by
 intro es
 induction es with
 | nil=>
  intro es' he;have:es'=[]:=by have:=he.1;cases es' <;> simp_all
  subst this;exact he
 | cons e es ih =>
  intro es' he
  cases es' with
  | nil=>have:=he.1;simp at this
  | cons e' es' =>
   have h0:=he.2 0 e e' rfl rfl;have he':EsR ρ es es':=⟨by have:=he.1;simpa using this,fun j a b h1 h2=>he.2 (j+1) a b (by simpa using h1) (by simpa using h2)⟩;have ih:=ih he';rw [List.filter_cons,List.filter_cons,h0.2.2]
   cases p e.born with
   | false=>exact ih
   | true =>
    refine⟨by simp[ih.1],fun j a b h1 h2=>?_⟩
    cases j with
    | zero=>
     simp at h1 h2;subst h1 h2;exact h0
    | succ j=>exact ih.2 j a b (by simpa using h1) (by simpa using h2)
theorem all_born{ρ : Inj}(p:Nat→Bool){es es':List MapEntry}(he:EsR ρ es es'):(es.all fun e=>p e.born)=(es'.all fun e=>p e.born):=by
 induction es generalizing es' with
 | nil=>
  have:es'=[]:=by have:=he.1;cases es' <;> simp_all
  subst this;rfl
 | cons e es ih =>
  cases es' with
  | nil=>have:=he.1;simp at this
  | cons e' es'=>
   have h0:=he.2 0 e e' rfl rfl;have he':EsR ρ es es':=⟨by have:=he.1;simpa using this,fun j a b h1 h2=>he.2 (j+1) a b (by simpa using h1) (by simpa using h2)⟩;rw [List.all_cons,List.all_cons,ih he',h0.2.2]
theorem keyPlain_ok{k:Value}(h:keyPlain k=true)(ρ : Inj):RV ρ k k:=by
 cases k with
 | bool b=>exact RV.bool b
 | int k n=>exact RV.int k n
 | string s=>exact RV.string s
 | agg cs=>
  refine RV.agg rfl fun i v v' e1 e2=>?_;rw [e1]at e2;injection e2 with e2
  subst e2;have h':=List.all_eq_true.1 h v (List.mem_of_getElem? e1);cases v <;> first|(cases h';done)|exact RV.bool _|exact RV.int _ _|exact RV.string _
 | _=>cases h
theorem filt_arr{es':List MapEntry}(p:MapEntry→Bool):(⟨es'⟩:Array MapEntry).filter p=⟨es'.filter p⟩:=by
 apply Array.toList_inj.1;rw [Array.toList_filter]
theorem nextE_ok{ρ : Inj}{es es':List MapEntry}(he:EsR ρ es es'){seen:List Nat}{since:Nat}{r:Option MapEntry}(h:nextE es seen since=some r) :
 (r=none∧es'.filter (fun e=> !(⟨seen⟩:Array Nat).contains e.born)=[])∨∃e e',r=some e∧es'.filter (fun e=> !(⟨seen⟩:Array Nat).contains e.born)=[e']∧e'.key=e.key∧RV ρ e.val e'.val∧e'.born=e.born∧e'.born<since:=by
 have hl:=left_ok (ρ := ρ) (fun b=> !(⟨seen⟩:Array Nat).contains b) he;unfold nextE at h;simp only[seen_has]at h;split at h
 · rename_i hf;injection h with h
   rw[hf]at hl;refine .inl ⟨h.symm,?_⟩;have:=hl.1;exact List.length_eq_zero_iff.1 this.symm
 · rename_i e hf
   cases hb:Nat.blt e.born since with
   | false=>rw [hb]at h;cases h
   | true =>
    rw[hb]at h;injection h with h
    rw[hf]at hl;obtain⟨l1,l2⟩:=hl
    cases hq:es'.filter (fun e=> !(⟨seen⟩:Array Nat).contains e.born) with
    | nil=>rw [hq]at l1;cases l1
    | cons e' q =>
     rw[hq]at l1 l2
     have hq0:q=[]:=by
      have:1=q.length+1:=l1;exact List.length_eq_zero_iff.1 (by omega)
     subst hq0;obtain⟨g1,g2,g3⟩:=l2 0 e e' rfl rfl;exact .inr ⟨e,e',h.symm,rfl,g1,g2,g3,by rw[g3];exact zR hb⟩
 · cases h
theorem next_ok{o:Oper}{x:Operand}{s:Bool}(hop:o.op = .next x s){lo:Lo}{cx:Cx}{k:KV}{kp:KP}(h:eff o.op P lo cx t w k kp=true):∃w' v,EffVal P ng o t w v w'∧k w' v=true:=by
 rw[hop]at h;have h':(yG w fun h n mk=>cond s false (xnextM (ev t x) h fun v h=>k (mk h n) v))=true:=h;rw [yH]at h';have hmem:x∈o.op.operands.toList:=by rw[hop];simp [Op.operands]
 have hfo:(Question.mapNext 1).forced=true:=rfl
 cases s with
 | true=>cases h'
 | false=>
 dsimp only[cond]at h';unfold xnextM at h';split at h'
 case h_2=>cases h'
 rename_i b hx;split at h'
 case h_3=>cases h'
 · rename_i since seen last hg;refine⟨w,.tuple ⟨[.bool false]⟩,⟨rfl,rfl,fun ρ base w0 a wd hT hH=>?_⟩,h'⟩;have rx:=hT x hmem;rw [hx]at rx;obtain⟨B,hb,_,hz⟩:=rx.of_ptr;obtain⟨ob,e1,e2⟩:=hH.obj b B hb (by rw[hg];exact AObj.noConfusion);rw [hg]at e2;refine⟨ρ,.tuple ⟨[.bool false]⟩,wd,.inl ?_,RV.mk_tuple (RVs.cons (RV.bool _) (RVs.nil ρ)),hH,Grow.refl _ _ _ _ hH.dom⟩;cases e2
   simp[execOp,hop,hz,Instr.next,getObj,Sem.run,e1]
 · rename_i m since seen last hg;split at h'
   case h_2=>cases h'
   rename_i es clock hgm
   cases hc:((!seen.isEmpty && !es.isEmpty) && es.all fun e=>Nat.ble last e.born) with
   | true=>rw [hc]at h';cases h'
   | false=>
   rw[hc]at h';dsimp only[cond]at h';have hdead:zH w.h b≠.dead:=by rw[hg];exact AObj.noConfusion
   have pre:∀{ρ : Inj} {base:Nat} {w0:World} {a:Act} {wd:World},OpsR ρ t a o→HeapR P ng ρ base w0 w.h w.n wd→
    ∃B M es',ρ b=some B∧ρ m=some M∧a.eval x = .pointer (some ⟨B.b,0,none⟩)∧wd.heap[B.b]? = some (.mapIter (some M.b) since ⟨seen⟩ last)∧wd.heap[M.b]? = some (.map ⟨es'⟩ clock)∧EsR ρ es es'∧base≤B.b∧
     ((!(⟨seen⟩:Array Nat).isEmpty && !(⟨es'⟩:Array MapEntry).isEmpty) && (⟨es'⟩:Array MapEntry).all (·.born≥last))=false:=by
    intro ρ base w0 a wd hT hH;have rx:=hT x hmem;rw [hx]at rx;obtain⟨B,hb,_,hz⟩:=rx.of_ptr;obtain⟨ob,e1,e2⟩:=hH.obj b B hb hdead;rw [hg]at e2
    cases e2 with
    | siter hm hbb =>
     rename_i M;obtain⟨es',e3,he,_⟩:=map_at hH hm hgm;refine⟨B,M,es',hb,hm,hz,e1,e3,he,hbb,?_⟩;rw [← hc];have q1:(⟨seen⟩:Array Nat).isEmpty=seen.isEmpty:=by cases seen <;> rfl
     have q2:(⟨es'⟩:Array MapEntry).isEmpty=es.isEmpty:=by
      have:=he.1;cases es <;> cases es' <;> first|rfl|(simp at this)
     have q3:((⟨es'⟩:Array MapEntry).all (·.born≥last))=es.all fun e=>Nat.ble last e.born:=by
      rw[all_born (fun b=>Nat.ble last b) he];rw [← Array.all_toList];congr 1
      funext e
      show decide (last≤e.born)=Nat.ble last e.born
      cases hq:Nat.ble last e.born with
      | true=>exact decide_eq_true (Nat.le_of_ble_eq_true hq)
      | false=>exact decide_eq_false fun hl=>by rw[Nat.ble_eq_true_of_le hl]at hq;cases hq
     rw[q1,q2,q3]
   split at h'
   case h_3=>cases h'
   · rename_i hn;refine⟨w,.tuple ⟨[.bool false]⟩,⟨rfl,rfl,fun ρ base w0 a wd hT hH=>?_⟩,h'⟩;obtain⟨B,M,es',hb,hm,hz,e1,e3,he,hbb,hcc⟩:=pre hT hH;refine⟨ρ,.tuple ⟨[.bool false]⟩,wd,.inl ?_,RV.mk_tuple (RVs.cons (RV.bool _) (RVs.nil ρ)),hH,Grow.refl _ _ _ _ hH.dom⟩;rcases nextE_ok he hn with⟨_,hf⟩|⟨e,e',q,_⟩
     · have zH:(getObj B.b).run P wd = .ok (.mapIter (some M.b) since ⟨seen⟩ last) wd:=by simp[getObj,Sem.run,e1]
       simp only[execOp,hop,hz,Instr.next,Sem.run_bind,zH,Result.andThen_ok,yA e3,hcc,Bool.false_eq_true,if_false,filt_arr,hf,List.filter_nil];simp [hfo]
     · cases q
   · rename_i e hn
     cases hp:keyPlain e.key with
     | false=>rw [hp]at h';cases h'
     | true=>
     rw[hp]at h';dsimp only[cond]at h';rw [Tr.setK_eq]at h';refine⟨W.mk w.d w.u (w.h.set .dead (.siter (some m) since (seen++[e.born]) clock) b) w.n,.tuple ⟨[.bool true,e.key,e.val]⟩,⟨rfl,rfl,fun ρ base w0 a wd hT hH=>?_⟩,h'⟩;obtain⟨B,M,es',hb,hm,hz,e1,e3,he,hbb,hcc⟩:=pre hT hH;rcases nextE_ok he hn with⟨q,_⟩|⟨f,e',q,hf,g1,g2,g3,g4⟩
     · cases q
     · injection q with q
       subst q;have hlt:=hH.lt hb hdead;have zH:(getObj B.b).run P wd = .ok (.mapIter (some M.b) since ⟨seen⟩ last) wd:=by simp[getObj,Sem.run,e1]
       obtain⟨t1,t2⟩:=hH.turn hb hdead (.siter (some m) since (seen++[e.born]) clock) (.mapIter (some M.b) since ⟨seen++[e.born]⟩ clock) { wd with heap:=wd.heap.setIfInBounds B.b (.mapIter (some M.b) since ⟨seen++[e.born]⟩ clock) } hbb (.siter hm hbb) (by simp[hlt]) (by simp) (fun c hc=>by
        show(wd.heap.setIfInBounds B.b _)[c]? = _;rw [Array.getElem?_setIfInBounds,if_neg (fun e=>hc e.symm)]) rfl rfl rfl
       refine⟨ρ,.tuple ⟨[.bool true,e.key,e'.val]⟩,_,.inl ?_,RV.mk_tuple (RVs.cons (RV.bool _) (RVs.cons (keyPlain_ok hp ρ) (RVs.cons g2 (RVs.nil ρ)))),t1,t2⟩;have c1:decide (e'.born<since)=true:=decide_eq_true g4;have c2:decide (e'.born≥since)=false:=decide_eq_false (by omega);simp only[execOp,hop,hz,Instr.next,Sem.run_bind,zH,Result.andThen_ok,yA e3,hcc,Bool.false_eq_true,if_false,filt_arr,hf,List.filter_cons,c1,c2,List.filter_nil,if_true];simp [hfo,setObj,Sem.run,e1,g1,g3]
theorem find_born{ρ : Inj}{st:Nat}:∀{es es':List MapEntry},EsR ρ es es'→∀{e:MapEntry},(es.find? fun e=>Nat.beq e.born st)=some e→
 ∃e',(es'.find? fun e=>e.born == st)=some e'∧e'.key=e.key∧RV ρ e.val e'.val:=by
 intro es
 induction es with
 | nil=>intro es' _ e h;cases h
 | cons f es ih =>
  intro es' he e h
  cases es' with
  | nil=>have:=he.1;simp at this
  | cons f' es' =>
   obtain⟨g1,g2,g3⟩:=he.2 0 f f' rfl rfl;have he':EsR ρ es es':=⟨by have:=he.1;simpa using this,fun j a b h1 h2=>he.2 (j+1) a b (by simpa using h1) (by simpa using h2)⟩;rw [List.find?_cons]at h ⊢
   cases hb:Nat.beq f.born st with
   | true=>
    rw[hb]at h;injection h with h;subst h
    have hs:=zG hb;have:(f'.born == st)=true:=by rw[g3,hs];simp
    rw[this];exact⟨f',rfl,g1,g2⟩
   | false =>
    rw[hb]at h
    have:(f'.born == st)=false:=by
     rw[g3];refine beq_eq_false_iff_ne.2 fun e=>?_;rw [e,Nat.beq_refl]at hb;cases hb
    rw[this];exact ih he' h
theorem entry_ok{o:Oper}{x:Operand}(hop:o.op = .entry x){lo:Lo}{cx:Cx}{k:KV}{kp:KP}(h:eff o.op P lo cx t w k kp=true):∃w' v,EffVal P ng o t w v w'∧k w' v=true:=by
 rw[hop]at h;have h':(yG w fun h n mk=>xentryM (ev t x) h fun v=>k (mk h n) v)=true:=h;rw [yH]at h';have hmem:x∈o.op.operands.toList:=by rw[hop];simp [Op.operands]
 unfold xentryM at h';split at h'
 case h_2=>cases h'
 rename_i b hx;split at h'
 case h_2=>cases h'
 rename_i m since seen last hg;split at h'
 case h_2=>cases h'
 rename_i es clock st hgm hst
 cases hc:Nat.beq clock last with
 | false=>rw [hc]at h';cases h'
 | true=>
 rw[hc]at h';dsimp only[cond]at h';obtain rfl:=zG hc;split at h'
 case h_2=>cases h'
 rename_i e hf
 cases hp:keyPlain e.key with
 | false=>rw [hp]at h';cases h'
 | true=>
 rw[hp]at h';dsimp only[cond]at h';refine⟨w,.tuple ⟨[e.key,e.val]⟩,⟨rfl,rfl,fun ρ base w0 a wd hT hH=>?_⟩,h'⟩;have rx:=hT x hmem;rw [hx]at rx;obtain⟨B,hb,_,hz⟩:=rx.of_ptr;obtain⟨ob,e1,e2⟩:=hH.obj b B hb (by rw[hg];exact AObj.noConfusion);rw [hg]at e2
 cases e2 with
 | siter hm hbb=>
  rename_i M;obtain⟨es',e3,he,_⟩:=map_at hH hm hgm;obtain⟨e',f1,f2,f3⟩:=find_born he hf;refine⟨ρ,.tuple ⟨[e.key,e'.val]⟩,wd,.inl ?_,RV.mk_tuple (RVs.cons (keyPlain_ok hp ρ) (RVs.cons f3 (RVs.nil ρ))),hH,Grow.refl _ _ _ _ hH.dom⟩;have zH:(getObj B.b).run P wd = .ok (.mapIter (some M.b) since ⟨seen⟩ clock) wd:=by simp[getObj,Sem.run,e1]
  have hback:(⟨seen⟩:Array Nat).back? = some st:=by rw[← Array.getLast?_toList];exact hst
  have ffind:(⟨es'⟩:Array MapEntry).find? (fun e=>e.born == st)=some e':=by rw[← f1];simp
  simp only[execOp,hop,hz,Instr.entry,Sem.run_bind,zH,Result.andThen_ok,hback,yA e3];simp [f1,f2]
theorem mapUpdate_ok{o:Oper}{ty:TypeId}{m key v:Operand}(hop:o.op = .mapUpdate ty m key v∨o.op = .insert ty m key v){lo:Lo}{cx:Cx}{k:KV}{kp:KP}
(h:eff o.op P lo cx t w k kp=true):∃w' v,EffVal P ng o t w v w'∧k w' v=true:=by
 have h':(yG w fun h n mk=>uE P ty (ev t m) (ev t key) (ev t v) h fun h=>k (mk h n) undef)=true:=by
  rcases hop with hop|hop
  · rw[hop]at h;exact h
  · rw[hop]at h;exact h
 rw[yH]at h';obtain⟨h1,e1,e2⟩:=xmapUpdate_ok (ng:=ng) h'
 have hmem:∀x,x=m∨x=key∨x=v→x∈o.op.operands.toList:=by
  intro x hx;rcases hop with hop|hop <;> rw[hop] <;> simp[Op.operands] <;> exact hx
 refine⟨W.mk w.d w.u h1 w.n,undef,⟨rfl,rfl,fun ρ base w0 a wd hT hH=>?_⟩,e1⟩;have r1:=hT m (hmem _ (.inl rfl));have r2:=hT key (hmem _ (.inr (.inl rfl)));have r3:=hT v (hmem _ (.inr (.inr rfl)));obtain⟨wd',f1,f2,f3⟩:=e2 w.n ρ base w0 wd _ _ _ hH r1 r2 r3;refine⟨ρ,undef,wd',.inr ⟨?_,rfl⟩,RV.undef ρ,f2,f3⟩;rcases hop with hop|hop <;> simp[execOp,hop,f1]
theorem xclear_ok(hP:zP ng P=true){tys:List TypeId}{args:List Value}{rt:TypeId}{h:zI}{k:zI→Bool}(hs:xclear P tys args h k=true) :
 ∃h',k h'=true∧∀(n:Nat) (ρ : Inj) (base:Nat) (w0 wd:World) (args':List Value),HeapR P ng ρ base w0 h n wd→RVs ρ args args'→
  ∃wd',(Builtin.clear_ ⟨tys⟩ rt ⟨args'⟩).run P wd = .ok (.tuple #[]) wd'∧HeapR P ng ρ base w0 h' n wd'∧Grow ρ h n wd ρ h' n wd':=by
 unfold xclear at hs;split at hs
 case h_2=>cases hs
 rename_i ty tr x xr;have e1:(⟨ty::tr⟩:Array TypeId)[0]? = some ty:=by simp
 have e2:∀(x':Value) (l:List Value),(⟨x'::l⟩:Array Value)[0]? = some x':=fun _ _=>by simp
 split at hs
 · rename_i e ln c hd;refine⟨h,hs,fun n ρ base w0 wd args' hH hr=>?_⟩;obtain⟨x',l,rfl,hx,_⟩:=hr.of_cons;refine⟨wd,?_,hH,Grow.refl _ _ _ _ hH.dom⟩;cases hx
   simp[Builtin.clear_,zF hd]
 · rename_i e b off ln c hd;split at hs
   case h_2=>cases hs
   rename_i z hz
   cases hn:Nat.beq ln 0 with
   | true=>
    rw[hn]at hs;obtain rfl:=zG hn;refine⟨h,hs,fun n ρ base w0 wd args' hH hr=>?_⟩;obtain⟨x',l,rfl,hx,_⟩:=hr.of_cons;refine⟨wd,?_,hH,Grow.refl _ _ _ _ hH.dom⟩;obtain⟨B,o',c',_,rfl,_⟩:=hx.of_slice;simp [Builtin.clear_,zF hd]
   | false =>
    rw[hn]at hs;dsimp only[cond]at hs;have hln:ln≠0:=fun e=>by subst e;cases hn
    obtain⟨h',g1,gone,⟨cc,mm,zz,kd,gg,gl,ge⟩,g2⟩:=storeAt_ok (P:=P) (ng:=ng) hs;refine⟨h',g1,fun n ρ base w0 wd args' hH hr=>?_⟩;obtain⟨x',l,rfl,hx,_⟩:=hr.of_cons;obtain⟨B,o',c',hb,rfl,ho,_⟩:=hx.of_slice;obtain rfl:=ho (by omega);have hzz:cellsOf z=z.cells.toList:=by cases z <;> rfl
    have hzc:=RV.cells (RV.plain (xN hP hz) ρ)
    have hrv:RVs ρ (rep (cellsOf z) ln) (Builtin.zeroCells z.cells ln).toList:=by
     by_cases hz0:z.cells.size=0
     · have h3:cellsOf z=[]:=by rw[hzz];exact List.length_eq_zero_iff.1 (by simpa using hz0)
       have h4:rep (cellsOf z) ln=[]:=List.length_eq_zero_iff.1 (by rw[xA,h3];simp);have h5:(Builtin.zeroCells z.cells ln).toList=[]:=List.length_eq_zero_iff.1 (by rw[Array.length_toList,zeroCells_size,hz0,Nat.mul_zero]);rw [h4,h5];exact RVs.nil ρ
     · have:=made_eq z.cells ln (by omega);unfold Builtin.zeroCells;rw [this,← hzz];refine⟨rfl,fun i v v' e1 e2=>?_⟩;rw [e1]at e2;injection e2 with e2;subst e2
       have hlt:i<ln*(cellsOf z).length:=by
        rcases Nat.lt_or_ge i (rep (cellsOf z) ln).length with h1|h1
        · rwa [xA]at h1
        · rw[List.getElem?_eq_none h1]at e1;cases e1
       rw[rep_get _ _ _ hlt]at e1;exact hzc.2 _ v v e1 (by rw[← hzz];exact e1)
    obtain⟨wd',f1,f2,f3⟩:=g2 n ρ base w0 wd B _ hH hb hrv;refine⟨wd',?_,f2,f3⟩
    cases ln with
    | zero=>exact absurd rfl hln
    | succ ln=>simp [Builtin.clear_,zF hd,yZ hz,f1]
 · cases hs
theorem dropE_ok{ρ : Inj}:∀{es es':List MapEntry} (i:Nat),EsR ρ es es'→EsR ρ (dropE i es) (es'.eraseIdx i):=by
 intro es
 induction es with
 | nil=>
  intro es' i he;have:es'=[]:=by have:=he.1;cases es' <;> simp_all
  subst this;cases i <;> exact he
 | cons e es ih =>
  intro es' i he
  cases es' with
  | nil=>have:=he.1;simp at this
  | cons e' es' =>
   have he':EsR ρ es es':=⟨by have:=he.1;simpa using this,fun j a b h1 h2=>he.2 (j+1) a b (by simpa using h1) (by simpa using h2)⟩
   cases i with
   | zero=>exact he'
   | succ i =>
    obtain⟨l1,l2⟩:=ih i he';refine⟨by simpa [dropE] using l1,fun j a b h1 h2=>?_⟩
    cases j with
    | zero=>
     have g:=he.2 0 e e' rfl rfl;simp [dropE]at h1 h2;subst h1 h2;exact g
    | succ j=>exact l2 j a b (by simpa [dropE] using h1) (by simpa using h2)
theorem xdelete_ok{tys:List TypeId}{args:List Value}{rt:TypeId}{h:zI}{k:zI→Bool}(hs:xdelete P tys args h k=true) :
 ∃h',k h'=true∧∀(n:Nat) (ρ : Inj) (base:Nat) (w0 wd:World) (args':List Value),HeapR P ng ρ base w0 h n wd→RVs ρ args args'→
  ∃wd',(Builtin.delete_ ⟨tys⟩ rt ⟨args'⟩).run P wd = .ok (.tuple #[]) wd'∧HeapR P ng ρ base w0 h' n wd'∧Grow ρ h n wd ρ h' n wd':=by
 unfold xdelete at hs;split at hs
 case h_2=>cases hs
 rename_i ty tr x key xr;have e1:(⟨ty::tr⟩:Array TypeId)[0]? = some ty:=by simp
 have e2:∀(x' y':Value) (l:List Value),(⟨x'::y'::l⟩:Array Value)[0]? = some x':=fun _ _ _=>by simp
 have e3:∀(x' y':Value) (l:List Value),(⟨x'::y'::l⟩:Array Value)[1]? = some y':=fun _ _ _=>by simp
 split at hs
 case h_3=>cases hs
 · rename_i kt et hd;split at hs
   case h_2=>cases hs
   rename_i kd hkd
   cases hsc:keyT P kd key with
   | false=>rw [hsc]at hs;cases hs
   | true=>
    rw[hsc]at hs;refine⟨h,hs,fun n ρ base w0 wd args' hH hr=>?_⟩;obtain⟨x',l,rfl,hx,hr2⟩:=hr.of_cons;obtain⟨y',l2,rfl,hy,_⟩:=hr2.of_cons;have hkk:=(uH hsc hy).symm;subst hkk;refine⟨wd,?_,hH,Grow.refl _ _ _ _ hH.dom⟩;cases hx
    simp[Builtin.delete_,zF hd,check_ok (wd:=wd) hkd hsc true 9998]
 · rename_i kt et r hd;split at hs
   case h_2=>cases hs
   rename_i kd es clock hkd hg
   cases hsc:keyT P kd key with
   | false=>rw [hsc]at hs;cases hs
   | true=>
    rw[hsc]at hs;dsimp only[cond]at hs;have hdead:zH h r≠.dead:=by rw[hg];exact AObj.noConfusion
    split at hs
    case h_3=>cases hs
    · rename_i i w2 hf;rw [Tr.setK_eq]at hs;refine⟨_,hs,fun n ρ base w0 wd args' hH hr=>?_⟩;obtain⟨x',l,rfl,hx,hr2⟩:=hr.of_cons;obtain⟨y',l2,rfl,hy,_⟩:=hr2.of_cons;have hkk:=(uH hsc hy).symm;subst hkk;obtain⟨B,hb,rfl⟩:=hx.of_map;obtain⟨es',q1,he,hbb⟩:=map_at hH hb hg;obtain⟨r',h1,h2⟩:=vE (wd:=wd) hkd hsc he hf
      cases r' with
      | none=>exact h2.elim
      | some p=>
       obtain⟨j,w'⟩:=p;obtain⟨rfl,_⟩:=h2;have hlt:=hH.lt hb hdead;refine⟨{ wd with heap:=wd.heap.setIfInBounds B.b (.map ((⟨es'⟩:Array MapEntry).eraseIdxIfInBounds i) clock) },?_,?_⟩
       · simp only[Builtin.delete_,e1,e2,e3,Sem.run_bind,zF hd,Result.andThen_ok,yA q1,check_ok (wd:=wd) hkd hsc _ 9998,h1];simp [setObj,Sem.run,q1]
       · have hq:((⟨es'⟩:Array MapEntry).eraseIdxIfInBounds i)=⟨es'.eraseIdx i⟩:=by
          apply Array.toList_inj.1;rw [Array.toList_eraseIdxIfInBounds]
         refine hH.turn hb hdead _ (.map ⟨es'.eraseIdx i⟩ clock) _ hbb (.map (dropE_ok i he) hbb) ?_ (by simp) ?_ rfl rfl rfl
         · rw[hq];simp [hlt]
         · intro c hc;show(wd.heap.setIfInBounds B.b _)[c]? = _;rw [Array.getElem?_setIfInBounds,if_neg (fun e=>hc e.symm)]
    · rename_i hf;rw [Tr.setK_eq]at hs;refine⟨_,hs,fun n ρ base w0 wd args' hH hr=>?_⟩;obtain⟨x',l,rfl,hx,hr2⟩:=hr.of_cons;obtain⟨y',l2,rfl,hy,_⟩:=hr2.of_cons;have hkk:=(uH hsc hy).symm;subst hkk;obtain⟨B,hb,rfl⟩:=hx.of_map;obtain⟨es',q1,he,hbb⟩:=map_at hH hb hg;obtain⟨r',h1,h2⟩:=vE (wd:=wd) hkd hsc he hf
      cases r' with
      | some p=>exact h2.elim
      | none=>
       have hlt:=hH.lt hb hdead;refine⟨{ wd with heap:=wd.heap.setIfInBounds B.b (.map ⟨es'⟩ clock) },?_,?_⟩
       · simp only[Builtin.delete_,e1,e2,e3,Sem.run_bind,zF hd,Result.andThen_ok,yA q1,check_ok (wd:=wd) hkd hsc _ 9998,h1];simp [setObj,Sem.run,q1]
       · refine hH.turn hb hdead _ (.map ⟨es'⟩ clock) _ hbb (.map he hbb) (by simp[hlt]) (by simp) ?_ rfl rfl rfl;intro c hc;show(wd.heap.setIfInBounds B.b _)[c]? = _;rw [Array.getElem?_setIfInBounds,if_neg (fun e=>hc e.symm)]
end
inductive ChR (ρ : Inj):List PanicEntry→List PanicEntry→Prop
 | nil:ChR ρ [] []
 | cons {e e':PanicEntry} {l l':List PanicEntry} (hv:RV ρ e.v e'.v) (hr:e'.recovered=e.recovered) (hg:e'.goexit=e.goexit) (hl:ChR ρ l l'):ChR ρ (e::l) (e'::l')
inductive DRs (ρ : Inj):List Deferred→List Deferred→Prop
 | nil:DRs ρ [] []
 | coll {r:Nat} {B:Bl} {asz asz':Array Value} {l l':List Deferred} (h: ρ r=some B) (hl:DRs ρ l l'):DRs ρ (⟨.collected r,asz⟩::l) (⟨.collected B.b,asz'⟩::l')
 | fn {g:FuncId} {cap cap' asz asz':Array Value} {l l':List Deferred} (hc:RVs ρ cap.toList cap'.toList) (ha:RVs ρ asz.toList asz'.toList) (hl:DRs ρ l l') :
  DRs ρ (⟨.fn (.func g) cap,asz⟩::l) (⟨.fn (.func g) cap',asz'⟩::l')
theorem ChR.mono{ρ ρ':Inj}(h: ρ.le ρ'){l l':List PanicEntry}(r:ChR ρ l l'):ChR ρ' l l':=by
 induction r with
 | nil=>exact .nil
 | cons hv hr hg _ ih=>exact .cons (hv.mono h) hr hg ih
theorem DRs.mono{ρ ρ':Inj}(h: ρ.le ρ'){l l':List Deferred}(r:DRs ρ l l'):DRs ρ' l l':=by
 induction r with
 | nil=>exact .nil
 | coll e _ ih=>exact .coll (h _ _ e) ih
 | fn hc ha _ ih=>exact .fn (hc.mono h) (ha.mono h) ih
def ModeR(ρ : Inj)(mode:Option yV)(m:FrameMode):Prop:=
 match mode with
 | none=>m = .returning
 | some c=>∃c',m = .panicking c'∧ChR ρ c c'
def UR(ρ : Inj)(df:Bool)(u:Option yV)(cs:List Frame):Prop:=
 df=true→∃c0 r,cs=c0::r∧ModeR ρ u c0.mode
def CsTo(df:Bool)(cs cs':List Frame):Prop:=
 cs'=cs∨(df=true∧∃c0 r m,cs=c0::r∧cs' = { c0 with mode:=m }::r)
def RdR(ρ : Inj)(rd rd':Option Nat):Prop:=
 match rd,rd' with
 | none,none=>True
 | some l,some l'=>∃B,ρ l=some B∧B.b=l'
 | _,_=>False
theorem ModeR.mono{ρ ρ':Inj}(h: ρ.le ρ'){mode:Option yV}{m:FrameMode}(r:ModeR ρ mode m):ModeR ρ' mode m:=by
 cases mode with
 | none=>exact r
 | some c=>obtain⟨c',e,hc⟩:=r;exact⟨c',e,hc.mono h⟩
theorem UR.mono{ρ ρ':Inj}(h: ρ.le ρ'){df:Bool}{u:Option yV}{cs:List Frame}(r:UR ρ df u cs):UR ρ' df u cs:=
 fun e=>let ⟨c0,l,h1,h2⟩:=r e;⟨c0,l,h1,h2.mono h⟩
theorem RdR.mono{ρ ρ':Inj}(h: ρ.le ρ'){rd rd':Option Nat}(r:RdR ρ rd rd'):RdR ρ' rd rd':=by
 cases rd <;> cases rd' <;> first|exact r|(obtain⟨B,e,hb⟩:=r;exact⟨B,h _ _ e,hb⟩)
theorem CsTo.refl(df:Bool)(cs:List Frame):CsTo df cs cs:=.inl rfl
theorem CsTo.trans{df:Bool}{a b c:List Frame}(h:CsTo df a b)(k:CsTo df b c):CsTo df a c:=by
 rcases h with rfl|⟨hd,c0,r,m,rfl,rfl⟩
 · exact k
 · rcases k with rfl|⟨_,c1,r1,m1,e1,rfl⟩
   · exact .inr ⟨hd,c0,r,m,rfl,rfl⟩
   · injection e1 with e1 e2
     subst e1 e2;exact .inr ⟨hd,c0,r,m1,rfl,rfl⟩
def kindOfDf(df:Bool):CallKind:=match df with|true=>.deferred|false=>.normal
section
variable (P:Program) (ng:Nat)
structure In (ρ : Inj) (base:Nat) (w0:World) (b:Frame) (a:Act) (wd:World) (cs:List Frame) (cx:Cx) (t:Fr) (w:W):Prop where
 fn:b.fn=cx.fn
 kind:b.kind=kindOfDf cx.df
 rd:RdR ρ cx.round b.roundOf
 rdf:cx.round.isSome=true→cx.df=false
 tm:TmR ρ (ntm P cx.fn) t a.tmps
 hp:HeapR P ng ρ base w0 w.h w.n wd
 dr:DRs ρ w.d a.defers
 ur:UR ρ cx.df w.u cs
 fnd:∃fn,P.funcs[b.fn]? = some fn
def Arr(m:Machine)(b:Frame)(k:List Item)(cs:List Frame)(ρ : Inj)(a:Act)(wd:World):AX→Prop
 | .normal=>Steps P m (lone (b.atR a k) cs wd)
 | .exit id=>∃k2,exitTo id k2=exitTo id k∧Steps P m (lone (b.atR a (.code (.exit id)::k2)) cs wd)
 | .goto l=>∃k2,gotoIn l k2=gotoIn l k∧Steps P m (lone (b.atR a (.code (.goto l)::k2)) cs wd)
 | .ret=>∃k2,Steps P m (lone (b.atR a (.code .ret::k2)) cs wd)
 | .panic c=>∃k2 c',ChR ρ c c'∧Steps P m (lone { b.atR a k2 with mode:=.panicking c' } cs wd)
def Leads(b:Frame)(k0 k:List Item)(cx:Cx)(t:Fr)(w:W)(x:AX)(t':Fr)(w':W):Prop:=
 ∀(ρ : Inj) (base:Nat) (w0:World) (a:Act) (wd:World) (cs:List Frame),In P ng ρ base w0 b a wd cs cx t w→
  ∃ρ' a' wd' cs',In P ng ρ' base w0 b a' wd' cs' cx t' w'∧Grow ρ w.h w.n wd ρ' w'.h w'.n wd'∧CsTo cx.df cs cs'∧Arr P (lone (b.atR a k0) cs wd) b k cs' ρ' a' wd' x
def wX(c:Code)(cx:Cx)(t:Fr)(w:W)(x:AX)(t':Fr)(w':W):Prop:=
 zY ng (ntm P cx.fn) c=true→∀(b:Frame) (k:List Item),Leads P ng b (.code c::k) k cx t w x t' w'
def Leaves(fr:Frame)(wd:World)(ρ : Inj)(df:Bool):Out→Prop
 | .ret v=>∃v',fr.mode = .returning∧fr.defers=[]∧fr.kind=kindOfDf df∧(∃fn,P.funcs[fr.fn]? = some fn∧(results fn fr.tmps).run P wd = .ok v' wd)∧RV ρ v v'
 | .panic c=>∃c',fr.mode = .panicking c'∧fr.defers=[]∧(∃fn,P.funcs[fr.fn]? = some fn)∧ChR ρ c c'
def CallTo(f:FuncId)(args:List Value)(df:Bool)(u:Option yV)(h:zI)(n:Nat)(o:Out)(u':Option yV)(h':zI)(n':Nat):Prop:=
 (∃fn body,P.funcs[f]? = some fn∧fn.body=some body∧(fn.name == "runtime.NumGoroutine")=false)∧
 ∀(ρ : Inj) (base:Nat) (w0 wd:World) (args':List Value) (cs:List Frame),HeapR P ng ρ base w0 h n wd→RVs ρ args args'→UR ρ df u cs→
  ∃ρ' wd' fr cs',Steps P (lone (Frame.enter P f ⟨args'⟩ (kindOfDf df)) cs wd) (lone fr cs' wd')∧HeapR P ng ρ' base w0 h' n' wd'∧Grow ρ h n wd ρ' h' n' wd'∧CsTo df cs cs'∧UR ρ' df u' cs'∧fr.fn=f∧Leaves P fr wd' ρ' df o
def Back(m:Machine)(c:Frame)(cs:List Frame)(wd:World)(ρ : Inj):Out→Prop
 | .ret v=>∃v',RV ρ v v'∧Steps P m (lone (c.finish v') cs wd)
 | .panic ch=>∃ch',ChR ρ ch ch'∧Steps P m (lone (c.raise ch') cs wd)
def RoundTo(l:Nat)(args:List Value)(h:zI)(n:Nat)(o:Out)(h':zI)(n':Nat):Prop:=
 ∀(ρ : Inj) (base:Nat) (w0 wd:World) (args':List Value) (B:Bl) (c:Frame) (cs:List Frame),HeapR P ng ρ base w0 h n wd→ρ l=some B→RVs ρ args args'→
  ∃f tmps asg body,(Instr.yield B.b ⟨args'⟩).run P wd = .ok (.round B.b f tmps asg body) wd∧
  ∃ρ' wd',HeapR P ng ρ' base w0 h' n' wd'∧Grow ρ h n wd ρ' h' n' wd'∧Back P (lone (Frame.round B.b f tmps asg body .normal) (c::cs) wd) c cs wd' ρ' o
def LeaveTo(fn:Func)(mode:Option yV)(t:Fr)(w:W)(o:Out)(u':Option yV)(h':zI)(n':Nat):Prop:=
 ∀(ρ : Inj) (base:Nat) (w0:World) (b:Frame) (a:Act) (wd:World) (cs:List Frame) (df:Bool),In P ng ρ base w0 b a wd cs ⟨b.fn,none,df⟩ t w→P.funcs[b.fn]? = some fn→∀(k:List Item) (m:FrameMode),ModeR ρ mode m→
  ∃ρ' wd' fr cs',Steps P (lone { b.atR a k with mode:=m } cs wd) (lone fr cs' wd')∧HeapR P ng ρ' base w0 h' n' wd'∧Grow ρ w.h w.n wd ρ' h' n' wd'∧CsTo df cs cs'∧UR ρ' df u' cs'∧fr.fn=b.fn∧Leaves P fr wd' ρ' df o
structure Sound (lo:Lo):Prop where
 code:∀c cx t w k,lo.code c cx t w k=true→∃x t' w',k x t' w'=true∧wX P ng c cx t w x t' w'
 call:∀f args df u h n k,lo.call f args df u h n k=true→∃o u' h' n',k o u' h' n'=true∧CallTo P ng f args df u h n o u' h' n'
 round:∀l args h n k,lo.round l args h n k=true→∃o h' n',k o h' n'=true∧RoundTo P ng l args h n o h' n'
 leave:∀fn mode t w k,lo.leave fn mode t w k=true→∃o u' h' n',k o u' h' n'=true∧LeaveTo P ng fn mode t w o u' h' n'
end
section
variable {P:Program} {ng:Nat}
theorem sound_bot:Sound P ng Lo.bot:=⟨fun _ _ _ _ _ h=>(Bool.false_ne_true h).elim,fun _ _ _ _ _ _ _ h=>(Bool.false_ne_true h).elim,fun _ _ _ _ _ h=>(Bool.false_ne_true h).elim,fun _ _ _ _ _ h=>(Bool.false_ne_true h).elim⟩
theorem Arr.of_steps{m m1:Machine}{b:Frame}{k:List Item}{cs:List Frame}{ρ : Inj}{a:Act}{wd:World}{x:AX}(h:Steps P m m1)(r:Arr P m1 b k cs ρ a wd x):Arr P m b k cs ρ a wd x:=by
 cases x with
 | normal=>exact h.trans r
 | exit id=>obtain⟨k2,e,s⟩:=r;exact⟨k2,e,h.trans s⟩
 | goto l=>obtain⟨k2,e,s⟩:=r;exact⟨k2,e,h.trans s⟩
 | ret=>obtain⟨k2,s⟩:=r;exact⟨k2,h.trans s⟩
 | panic c=>obtain⟨k2,c',e,s⟩:=r;exact⟨k2,c',e,h.trans s⟩
theorem zO{b:Frame}{k0 k1 k:List Item}{cx:Cx}{t t':Fr}{w w':W}{x:AX}(h:∀a cs wd,step P (lone (b.atR a k0) cs wd) = .next (lone (b.atR a k1) cs wd))
(r:Leads P ng b k1 k cx t w x t' w'):Leads P ng b k0 k cx t w x t' w':=by
 intro ρ base w0 a wd cs hI;obtain⟨ρ',a',wd',cs',h1,h2,h3,h4⟩:=r ρ base w0 a wd cs hI;exact⟨ρ',a',wd',cs',h1,h2,h3,h4.of_steps (.one (h a cs wd))⟩
theorem uI(b:Frame)(k:List Item)(cx:Cx)(t:Fr)(w:W):Leads P ng b k k cx t w .normal t w:=
 fun ρ _ _ a wd cs hI=>⟨ρ,a,wd,cs,hI,Grow.refl _ _ _ _ hI.hp.dom,CsTo.refl _ _,Steps.refl _ _⟩
theorem Leads.trans{b:Frame}{k0 k1 k:List Item}{cx:Cx}{t t1 t2:Fr}{w w1 w2:W}{x:AX}(h:Leads P ng b k0 k1 cx t w .normal t1 w1)(r:Leads P ng b k1 k cx t1 w1 x t2 w2) :
 Leads P ng b k0 k cx t w x t2 w2:=by
 intro ρ base w0 a wd cs hI;obtain⟨ρ1,a1,wd1,cs1,h1,h2,h3,h4⟩:=h ρ base w0 a wd cs hI;obtain⟨ρ2,a2,wd2,cs2,g1,g2,g3,g4⟩:=r ρ1 base w0 a1 wd1 cs1 h1;exact⟨ρ2,a2,wd2,cs2,g1,h2.trans g2,h3.trans g3,g4.of_steps h4⟩
theorem Leads.pass{b:Frame}{k0 k1 k:List Item}{cx:Cx}{t t1:Fr}{w w1:W}{x:AX}(h:Leads P ng b k0 k1 cx t w x t1 w1)(hn:x≠.normal)
(he:∀id,x = .exit id→exitTo id k1=exitTo id k)(hg:∀l,x = .goto l→gotoIn l k1=gotoIn l k):Leads P ng b k0 k cx t w x t1 w1:=by
 intro ρ base w0 a wd cs hI;obtain⟨ρ1,a1,wd1,cs1,h1,h2,h3,h4⟩:=h ρ base w0 a wd cs hI;refine⟨ρ1,a1,wd1,cs1,h1,h2,h3,?_⟩
 cases x with
 | normal=>exact absurd rfl hn
 | exit id=>obtain⟨k2,e,s⟩:=h4;exact⟨k2,e.trans (he id rfl),s⟩
 | goto l=>obtain⟨k2,e,s⟩:=h4;exact⟨k2,e.trans (hg l rfl),s⟩
 | ret=>exact h4
 | panic c=>exact h4
end
end Go.Ex
