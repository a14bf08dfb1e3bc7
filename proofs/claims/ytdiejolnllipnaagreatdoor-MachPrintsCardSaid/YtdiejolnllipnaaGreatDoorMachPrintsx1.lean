/- What the law leans on, part 1 of 24. Conditions: those that each theorem states. -/
import GoSem.Step
import Derived.AtR
import Derived.Below

set_option linter.unusedVariables false
set_option linter.unusedSimpArgs false
theorem qJ{p:Prop}(h:p:=by omega):p:=h
theorem qK{p:Prop}(h:p:=by decide):p:=h
theorem qL{p:Prop}(h:p:=by simp):p:=h
theorem qM{p:Prop}(h:p:=by simp;omega):p:=h
theorem qN{p:Prop}(h:p:=by kernel_rfl):p:=h
theorem qO{p:Prop}(h:p:=by simp[Op.operands]):p:=h
theorem qP{p:Prop}(h:p:=by assumption):p:=h
namespace Go.Ex
abbrev aa:=@List.getElem?_eq_getElem
abbrev ab:=@List.getElem?_eq_some_iff
abbrev ad:=@Nat.le_refl
abbrev ae:=@List.mem_of_getElem?
abbrev ah:=@List.length_append
abbrev ai:=@Nat.lt_succ_iff_lt_or_eq
abbrev aj:=@List.mem_iff_getElem?
abbrev ak:=@Bool.and_eq_true_iff
abbrev an:=@Nat.zero_le
abbrev ao:=@List.getElem?_map
abbrev ap:=@List.any_eq_true
abbrev aq:=@List.mem_singleton
abbrev au:=@List.mem_cons
abbrev aw:=@List.getElem?_eq_none
abbrev ax:=@List.getElem?_append_right
abbrev ay:=@List.length_cons
abbrev az:=@List.getElem?_append_left
abbrev aA:=@List.mem_append
abbrev aB:=@List.mem_map
abbrev aC:=@List.map_append
abbrev aD:=@List.length_map
abbrev aE:=@Nat.not_lt_zero
abbrev aF:=@Array.getElem?_eq_getElem
abbrev aG:=@Nat.lt_of_lt_of_le
abbrev aH:=@List.all_eq_true
abbrev aI:=@List.length_take
abbrev aJ:=@List.getElem?_take_of_lt
abbrev aK:=@Nat.zero_add
abbrev aL:=@List.mem_cons_of_mem
abbrev aM:=@List.getElem_mem
abbrev aN:=@List.mem_cons_self
abbrev aO:=@Array.getElem?_toList
abbrev aP:=@List.length_eq_zero_iff
abbrev aQ:=@Nat.mul_one
abbrev aR:=@Nat.beq_refl
abbrev aS:=@Nat.lt_or_ge
abbrev aT:=@List.flatMap_append
abbrev aU:=@Bool.false_ne_true
abbrev aV:=@List.flatMap_cons
abbrev aW:=@Nat.le_trans
abbrev aX:=@List.length_nil
abbrev aY:=@List.take_length
abbrev aZ:=@List.getD_eq_getElem?_getD
abbrev ba:=@List.append_assoc
abbrev be:=@Nat.lt_succ_self
abbrev bf:=@List.not_mem_nil
abbrev bh:=@List.length_set
abbrev bj:=@List.idxOf_lt_length_iff
abbrev bp:=@Int.ofNat_eq_natCast
abbrev bu:=@Bool.and_eq_true
abbrev bz:=@Bool.false_eq_true
abbrev bA:=@Array.getElem?_eq_some_iff
abbrev bB:=@Nat.sub_self
abbrev bC:=@Int.eq_ofNat_of_zero_le
abbrev bD:=@Array.getElem?_setIfInBounds
abbrev bE:=@List.mem_flatMap
abbrev bF:=@List.nil_append
abbrev bG:=@Array.getElem?_eq_none
abbrev bH:=@List.getElem?_set_ne
abbrev bI:=@Nat.zero_mul
abbrev bJ:=@List.map_cons
abbrev bK:=@Nat.eq_zero_or_pos
abbrev bL:=@Bool.eq_iff_iff
abbrev bM:=@Int.toNat_natCast
abbrev bN:=@Nat.mul_le_mul_right
abbrev bO:=@List.mem_of_find?_eq_some
abbrev bP:=@List.mem_reverse
abbrev bQ:=@List.mem_append_right
abbrev bR:=@List.append_of_mem
abbrev bS:=@List.append_nil
abbrev bT:=@List.length_singleton
abbrev bU:=@List.mem_range
abbrev bV:=@Nat.lt_of_le_of_lt
abbrev bW:=@List.getElem?_cons_succ
abbrev bX:=@Nat.add_mul
abbrev bY:=@List.getElem?_set_self
abbrev bZ:=@List.take_add_one
abbrev b7:=@List.mem_filter
abbrev b8:=@Nat.min_eq_left
abbrev cd:=@List.cons_append
abbrev cg:=@List.mem_append_left
abbrev cj:=@List.foldl_append
abbrev cn:=@Nat.lt_trichotomy
abbrev cu:=@List.all_append
abbrev cz:=@List.foldl_cons
abbrev cD:=@Array.getElem?_push
abbrev cE:=@List.take_succ_cons
abbrev cG:=@List.not_of_lt_findIdx
abbrev cH:=@Nat.le_succ
abbrev cJ:=@Array.toList_inj
abbrev cK:=@Decidable.not_not
abbrev cL:=@Nat.succ_mul
abbrev cN:=@List.getElem?_range
abbrev cQ:=@List.countP_cons
abbrev cS:=@List.find?_eq_none
abbrev cU:=@List.getElem_idxOf
abbrev cV:=@List.map_map
abbrev cW:=@List.take_of_length_le
abbrev cY:=@List.prefix_append_right_inj
abbrev da:=@List.sizeOf_lt_of_mem
abbrev db:=@Nat.ble_eq_true_of_le
abbrev de:=@Nat.eq_of_beq_eq_true
abbrev dg:=@List.getElem?_set
abbrev dh:=@Option.mem_toList
abbrev dk:=@Bool.and_false
abbrev dp:=@Bool.false_and
abbrev dq:=@List.dropLast_concat
abbrev dt:=@List.mem_of_mem_take
abbrev du:=@List.drop_eq_getElem_cons
abbrev dw:=@List.filter_append
abbrev dx:=@List.any_map
abbrev dy:=@List.ext_getElem?
abbrev dz:=@List.length_range
abbrev dA:=@Nat.le_succ_of_le
abbrev dB:=@Array.getElem?_modify
abbrev dC:=@List.concat_eq_append
abbrev dD:=@List.eq_nil_or_concat
abbrev dE:=@List.set_append_right
abbrev dH:=@List.take_append_drop
abbrev dJ:=@Nat.le_of_ble_eq_true
abbrev dK:=@Bool.true_and
abbrev dM:=@List.all_cons
abbrev dN:=@List.any_cons
abbrev dO:=@Nat.lt_irrefl
abbrev dP:=@Int.le_of_lt_add_one
abbrev dQ:=@List.count_cons_self
abbrev dR:=@List.getLast?_concat
abbrev dS:=@Nat.pow_le_pow_right
abbrev dU:=@Nat.pow_lt_pow_right
abbrev dV:=@Bool.or_eq_true
abbrev dX:=@Nat.testBit_and
abbrev dY:=@Option.map_some
abbrev dZ:=@Array.toList_append
abbrev d7:=@List.filter_eq_self
abbrev d9:=@Bool.not_false
abbrev eh:=@Nat.mul_le_mul
abbrev eo:=@Bool.and_comm
abbrev eu:=@Bool.or_false
end Go.Ex
namespace Go.Ex
inductive Tr (α : Type) where
 | lF
 | nD (l:Tr α) (v: α) (r:Tr α)
namespace Tr
variable {α β : Type}
inductive Pa where
 | here
 | l (p:Pa)
 | r (p:Pa)
noncomputable def pa:Nat->Nat->Pa
 | 0,_=>.here
 | f+1,i=>Nat.rec .here (λj _=>Bool.rec (.r (pa f (Nat.div j 2))) (.l (pa f (Nat.div j 2))) (Nat.beq (Nat.land j 1) 0)) i
noncomputable def getP(d: α)(p:Pa)(t:Tr α): α :=
 Pa.rec (motive:=λ_=>Tr α->α) (λt=>Tr.rec d (λ_ v _ _ _=>v) t) (λ_ ih t=>Tr.rec d (λl _ _ _ _=>ih l) t) (λ_ ih t=>Tr.rec d (λ_ _ r _ _=>ih r) t) p t
noncomputable def get(d: α)(t:Tr α)(i:Nat): α :=getP d (pa (Nat.succ i) i) t
noncomputable def setQ(d v: α):Pa->Tr α->Tr α
 | .here,.lF=>.nD .lF v .lF
 | .here,.nD l _ r=>.nD l v r
 | .l p,.lF=>.nD (setQ d v p .lF) d .lF
 | .l p,.nD l w r=>.nD (setQ d v p l) w r
 | .r p,.lF=>.nD .lF d (setQ d v p .lF)
 | .r p,.nD l w r=>.nD l w (setQ d v p r)
noncomputable def set(d v: α)(t:Tr α)(i:Nat):Tr α :=setQ d v (pa (Nat.succ i) i) t
noncomputable def setP(d v: α)(p:Pa)(t:Tr α)(k:Tr α->β): β :=
 Pa.rec (motive:=λ_=>Tr α->(Tr α->β)->β)
  (λt k=>Tr.rec (k (.nD .lF v .lF)) (λl _ r _ _=>k (.nD l v r)) t)
  (λ_ ih t k=>Tr.rec (ih .lF λl=>k (.nD l d .lF)) (λl w r _ _=>ih l λl=>k (.nD l w r)) t)
  (λ_ ih t k=>Tr.rec (ih .lF λr=>k (.nD .lF d r)) (λl w r _ _=>ih r λr=>k (.nD l w r)) t) p t k
noncomputable def setK(d v: α)(t:Tr α)(i:Nat)(k:Tr α->β): β :=setP d v (pa (Nat.succ i) i) t k
noncomputable def ofListFrom(d: α)(t:Tr α):Nat->List α->Tr α
 | _,[]=>t
 | i,v::l=>ofListFrom d (t.set d v i) (i+1) l
noncomputable def toListFrom(d: α)(t:Tr α):Nat->Nat->List α
 | _,0=>[]
 | i,n+1=>t.get d i::toListFrom d t (i+1) n
theorem setP_eq(d v: α)(p:Pa):∀(t:Tr α) (k:Tr α->β),setP d v p t k=k (setQ d v p t):=by
 induction p with
 | here=>intro t k;cases t <;> rfl
 | l p ih=>
  intro t k
  cases t with
  | lF=>exact ih .lF λl=>k (.nD l d .lF)
  | nD l w r=>exact ih l λl=>k (.nD l w r)
 | r p ih=>
  intro t k
  cases t with
  | lF=>exact ih .lF λr=>k (.nD .lF d r)
  | nD l w r=>exact ih r λr=>k (.nD l w r)
theorem setK_eq(d v: α)(t:Tr α)(i:Nat)(k:Tr α->β):setK d v t i k=k (set d v t i):=setP_eq d v _ t k
theorem sB(d: α)(p:Pa):getP d p .lF=d:=by cases p <;> rfl
theorem getP_setQ(d v: α)(p:Pa):∀(t:Tr α),getP d p (setQ d v p t)=v:=by
 induction p with
 | here=>intro t;cases t <;> rfl
 | l p ih=>
  intro t
  cases t with
  | lF=>exact ih .lF
  | nD l w r=>exact ih l
 | r p ih=>
  intro t
  cases t with
  | lF=>exact ih .lF
  | nD l w r=>exact ih r
theorem getP_setQ_ne(d v: α)(p:Pa):∀(q:Pa) (t:Tr α),p≠q->getP d q (setQ d v p t)=getP d q t:=by
 induction p with
 | here =>
  intro q t h
  cases q with
  | here=>exact absurd rfl h
  | l q=>cases t with
   | lF=>exact sB d q
   | nD l w r=>rfl
  | r q=>cases t with
   | lF=>exact sB d q
   | nD l w r=>rfl
 | l p ih =>
  intro q t h
  cases q with
  | here=>cases t <;> rfl
  | l q=>
   have h':p≠q:=λe=>h (by rw[e])
   cases t with
   | lF=>exact(ih q .lF h').trans (sB d q)
   | nD l w r=>exact ih q l h'
  | r q=>cases t with
   | lF=>exact sB d q
   | nD l w r=>rfl
 | r p ih =>
  intro q t h
  cases q with
  | here=>cases t <;> rfl
  | l q=>cases t with
   | lF=>exact sB d q
   | nD l w r=>rfl
  | r q=>
   have h':p≠q:=λe=>h (by rw[e])
   cases t with
   | lF=>exact(ih q .lF h').trans (sB d q)
   | nD l w r=>exact ih q r h'
theorem beq_land(j:Nat):Nat.beq (Nat.land j 1) 0=decide (j % 2=0):=by
 have h:Nat.land j 1=j % 2:=Nat.and_one_is_mod j;rw [h];rcases Nat.mod_two_eq_zero_or_one j with h|h <;> rw[h] <;> rfl
theorem pa_succ(f j:Nat):pa (f+1) (j+1)=if j % 2=0 then .l (pa f (j / 2)) else .r (pa f (j / 2)):=by
 show Bool.rec (motive:=λ_=>Pa) (.r (pa f (Nat.div j 2))) (.l (pa f (Nat.div j 2))) (Nat.beq (Nat.land j 1) 0)=_;rw [beq_land];by_cases h:j % 2=0
 . simp only[h,decide_true,if_true];rfl
 . simp only[h,decide_false,if_false];rfl
theorem pa_fuel(f:Nat):∀(g i:Nat),i<f->i<g->pa f i=pa g i:=by
 induction f with
 | zero=>intro g i h;omega
 | succ f ih =>
  intro g i hf hg
  cases g with
  | zero=>omega
  | succ g=>
   cases i with
   | zero=>rfl
   | succ j=>rw [pa_succ,pa_succ,ih g (j / 2) qJ qJ]
theorem pa_inj(f:Nat):∀(i j:Nat),i<f->j<f->pa f i=pa f j->i=j:=by
 induction f with
 | zero=>intro i j h;omega
 | succ f ih =>
  intro i j hi hj h
  cases i with
  | zero =>
   cases j with
   | zero=>rfl
   | succ j=>
    rw[pa_succ]at h;have h0:pa (f+1) 0 = .here:=rfl;rw [h0]at h;split at h <;> cases h
  | succ i =>
   cases j with
   | zero=>
    rw[pa_succ]at h;have h0:pa (f+1) 0 = .here:=rfl;rw [h0]at h;split at h <;> cases h
   | succ j=>
    rw[pa_succ,pa_succ]at h;split at h <;> split at h <;> first|cases h|skip
    . have e:=ih (i / 2) (j / 2) qJ qJ  (by injection h);omega
    . have e:=ih (i / 2) (j / 2) qJ qJ  (by injection h);omega
theorem pa_ne{i j:Nat}(h:i≠j):pa (Nat.succ i) i≠pa (Nat.succ j) j:=by
 intro e;rw [pa_fuel (i+1) (i+j+1) i qJ qJ,pa_fuel (j+1) (i+j+1) j qJ qJ]at e;exact h (pa_inj (i+j+1) i j qJ qJ  e)
theorem get_set(d v: α)(t:Tr α)(i:Nat):get d (set d v t i) i=v:=getP_setQ d v _ t
theorem get_set_ne(d v: α)(t:Tr α){i j:Nat}(h:i≠j):get d (set d v t i) j=get d t j:=getP_setQ_ne d v _ _ t (pa_ne h)
theorem get_set_if(d v: α)(t:Tr α)(i j:Nat):get d (set d v t i) j=if i=j then v else get d t j:=by
 by_cases h:i=j
 . subst h;simp [get_set]
 . simp[h,get_set_ne d v t h]
theorem get_leaf(d: α)(i:Nat):get d .lF i=d:=sB d _
theorem get_ofListFrom(d: α)(l:List α):∀(t:Tr α) (i j:Nat),get d (ofListFrom d t i l) j=if i<=j/\j<i+l.length then l.getD (j - i) d else get d t j:=by
 induction l with
 | nil=>intro t i j;simp [ofListFrom];omega
 | cons v l ih=>
  intro t i j;simp only[ofListFrom,ih,get_set_if,ay];by_cases h1:i=j
  . subst h1;have h2:¬(i+1<=i/\i<i+1+l.length):=by omega
    have h3:i<=i/\i<i+(l.length+1):=by omega
    rw[if_neg h2,if_pos h3];simp
  . by_cases h2:i+1<=j/\j<i+1+l.length
    . have h3:i<=j/\j<i+(l.length+1):=by omega
      simp only[h2,h3,and_self,if_true];have:j - i=(j - (i+1))+1:=by omega
      rw[this];rfl
    . have h3:¬(i<=j/\j<i+(l.length+1)):=by omega
      simp[h2,h3,h1]
theorem length_toListFrom(d: α)(t:Tr α):∀(n i:Nat),(toListFrom d t i n).length=n:=by
 intro n
 induction n with
 | zero=>intro i;rfl
 | succ n ih=>intro i;simp [toListFrom,ih]
theorem getElem?_toListFrom(d: α)(t:Tr α):∀(n i j:Nat),(toListFrom d t i n)[j]? = if j<n then some (get d t (i+j)) else none:=by
 intro n
 induction n with
 | zero=>intro i j;simp [toListFrom]
 | succ n ih =>
  intro i j
  cases j with
  | zero=>simp [toListFrom]
  | succ j=>
   simp only[toListFrom,bW,ih];have e:i+1+j=i+(j+1):=by omega
   by_cases h:j<n <;> simp[h,e]
end Tr
abbrev Fr:=Tr Value
def fr0:Fr:=.lF
noncomputable def fget(t:Fr)(i:Nat):Value:=Tr.get undef t i
noncomputable def fsetK{R:Type}(t:Fr)(i:Nat)(v:Value)(k:Fr->R):R:=Tr.setK undef v t i k
def inf:Nat:=1000000000000000000
inductive AObj where
 | dead
 | cells (c:Tr Value) (n:Nat) (z:Nat) (kd:Nat)
 | map (es:List MapEntry) (clock:Nat)
 | loop (l:Loop) (t:Fr)
 | deferred (ready:Bool)
 | siter (m:Option Nat) (since:Nat) (seen:List Nat) (last:Nat)
 | rows (c:Tr Value) (n:Nat)
abbrev zB:=Tr AObj
abbrev zK:=List PanicEntry
structure W where
 d:List Deferred
 u:Option zK
 h:zB
 n:Nat
structure Cx where
 fn:FuncId
 round:Option Nat
 df:Bool
inductive AX where
 | normal
 | exit (id:Nat)
 | goto (l:Nat)
 | ret
 | panic (c:zK)
inductive Out where
 | ret (v:Value)
 | panic (c:zK)
noncomputable def zG(h:zB)(b:Nat):AObj:=h.get .dead b
noncomputable def tget(t:Tr Value)(i:Nat):Value:=t.get undef i
noncomputable def ev(t:Fr)(x:Operand):Value:=
 Operand.rec (motive:=λ_=>Fr->Value) (λi t=>fget t i) (λv _=>v) (λg _=>.pointer (some ⟨g,0,none⟩))
  (λf _=>.func (.func f) #[] #[]) x t
noncomputable def tabFrom{α : Type}(t:Tr (Option α)):Nat->List α->Tr (Option α)
 | _,[]=>t
 | i,v::l=>tabFrom (t.set none (some v) i) (i+1) l
noncomputable def tyT(P:Program):Tr (Option TypeInfo):=tabFrom .lF 0 P.types.toList
noncomputable def fnT(P:Program):Tr (Option Func):=tabFrom .lF 0 P.funcs.toList
noncomputable def inf?(P:Program)(t:TypeId):Option TypeInfo:=Tr.get none (tyT P) t
noncomputable def und(P:Program)(t:TypeId):Option TypeDesc:=
 match inf? P t with
 | some i => match i.desc with
  | .named _ u=>match inf? P u with
   | some j=>some j.desc
   | none=>none
  | d=>some d
 | none=>none
noncomputable def ileB(x y:Int):Bool:=
 Int.rec (motive:=λ_=>Int->Bool)
  (λa y=>Int.rec (motive:=λ_=>Nat->Bool) (λb a=>Nat.ble a b) (λ_ _=>false) y a)
  (λa y=>Int.rec (motive:=λ_=>Nat->Bool) (λ_ _=>true) (λb a=>Nat.ble b a) y a) x y
noncomputable def ieqB(x y:Int):Bool:=
 Int.rec (motive:=λ_=>Int->Bool)
  (λa y=>Int.rec (motive:=λ_=>Nat->Bool) (λb a=>Nat.beq a b) (λ_ _=>false) y a)
  (λa y=>Int.rec (motive:=λ_=>Nat->Bool) (λ_ _=>false) (λb a=>Nat.beq b a) y a) x y
noncomputable def iltB(a b:Int):Bool:=Bool.rec true false (ileB b a)
noncomputable def subNN(m n:Nat):Int:=Bool.rec (.negSucc (Nat.pred (Nat.sub n m))) (.ofNat (Nat.sub m n)) (Nat.ble n m)
noncomputable def iadd(x y:Int):Int:=
 Int.rec (motive:=λ_=>Int->Int)
  (λa y=>Int.rec (motive:=λ_=>Nat->Int) (λb a=>.ofNat (Nat.add a b)) (λb a=>subNN a (Nat.succ b)) y a)
  (λa y=>Int.rec (motive:=λ_=>Nat->Int) (λb a=>subNN b (Nat.succ a)) (λb a=>.negSucc (Nat.succ (Nat.add a b))) y a) x y
noncomputable def isub(x y:Int):Int:=
 Int.rec (motive:=λ_=>Int->Int)
  (λb x=>Int.rec (motive:=λ_=>Nat->Int) (λa b=>subNN a b) (λa b=>.negSucc (Nat.add a b)) x b)
  (λb x=>Int.rec (motive:=λ_=>Nat->Int) (λa b=>.ofNat (Nat.add a (Nat.succ b))) (λa b=>subNN b a) x b) y x
noncomputable def vS(k:IntKind)(n:Int):Int:=
 match k with
 | .i64=>Int.rec (motive:=λ_=>Int) (λm=>Bool.rec (IntKind.wrap .i64 (.ofNat m)) (.ofNat m) (Nat.blt m 9223372036854775808))
  (λm=>Bool.rec (IntKind.wrap .i64 (.negSucc m)) (.negSucc m) (Nat.blt m 9223372036854775808)) n
 | .u64=>match n with
  | .ofNat m=>cond (Nat.blt m 18446744073709551616) n (k.wrap n)
  | .negSucc _=>k.wrap n
 | .u8=>match n with
  | .ofNat m=>cond (Nat.blt m 256) n (k.wrap n)
  | .negSucc _=>k.wrap n
 | _=>k.wrap n
def vT:List UInt8->List UInt8->Bool
 | [],[]=>true
 | a::x,b::y=>cond (Nat.beq a.toNat b.toNat) (vT x y) false
 | _,_=>false
def tJ:IntKind->IntKind->Bool
 | .i8,.i8 | .i16,.i16 | .i32,.i32 | .i64,.i64 | .u8,.u8 | .u16,.u16 | .u32,.u32 | .u64,.u64=>true
 | _,_=>false
noncomputable def wH:Value->Value->Option Bool
 | .bool a,.bool b=>some (cond a b (!b))
 | .int k a,.int k' b=>cond (tJ k k') (some (ieqB a b)) none
 | .string a,.string b=>some (vT a.data.toList b.data.toList)
 | _,_=>none
noncomputable def scalsEq:List Value->List Value->Option Bool
 | [],[]=>some true
 | a::x,b::y=>match wH a b with
  | some true=>scalsEq x y
  | some false=>some false
  | none=>none
 | _,_=>none
def bitNat(op:BinOp)(x y:Nat):Option Nat:=
 match op with
 | .and=>some (Nat.land x y)
 | .or=>some (Nat.lor x y)
 | .xor=>some (Nat.xor x y)
 | .andNot=>some (Nat.xor x (Nat.land x y))
 | _=>none
def bitLim:IntKind->Option Nat
 | .i64=>some 9223372036854775808
 | .u64=>some 18446744073709551616
 | .u32=>some 4294967296
 | .u16=>some 65536
 | .u8=>some 256
 | _=>none
noncomputable def aBits(op:BinOp)(k:IntKind)(a b:Int):Option Value:=
 match a,b,bitLim k with
 | .ofNat x,.ofNat y,some m=>cond (Nat.blt x m && Nat.blt y m) ((bitNat op x y).map λr=>.int k (.ofNat r)) none
 | .negSucc x,.ofNat y,some m=>cond (Nat.blt x m && Nat.blt y m) (match op with
  | .and=>some (.int k (.ofNat (Nat.xor y (Nat.land y x))))
  | _=>none) none
 | _,_,_=>none
noncomputable def aArith(op:BinOp)(k:IntKind)(a b:Int):Option Value:=
 match op with
 | .add=>some (.int k (vS k (iadd a b)))
 | .sub=>some (.int k (vS k (isub a b)))
 | .mul=>some (.int k (vS k (Int.mul a b)))
 | .quo=>cond (ieqB b 0) none (some (.int k (vS k (Int.tdiv a b))))
 | .rem=>cond (ieqB b 0) none (some (.int k (Int.tmod a b)))
 | .eql=>some (.bool (ieqB a b))
 | .neq=>some (.bool (!ieqB a b))
 | .lss=>some (.bool (iltB a b))
 | .leq=>some (.bool (ileB a b))
 | .gtr=>some (.bool (iltB b a))
 | .geq=>some (.bool (ileB b a))
 | _=>aBits op k a b
noncomputable def aShift(op:BinOp)(k:IntKind)(a:Int)(b:Int):Option Value:=
 match b with
 | .ofNat m => cond (Nat.blt m k.bits) (match op with
  | .shl=>some (.int k (vS k (Int.mul a (.ofNat (Nat.pow 2 m)))))
  | .shr=>match a with
   | .ofNat x=>some (.int k (.ofNat (Nat.shiftRight x m)))
   | .negSucc x=>some (.int k (.negSucc (Nat.shiftRight x m)))
  | _=>none) none
 | _=>none
def isConst:Operand->Bool
 | .const _=>true
 | _=>false
def uD:TypeDesc->Value->Bool
 | .int k,.int k' _=>tJ k k'
 | .string,.string _=>true
 | .bool,.bool _=>true
 | _,_=>false
def scalD:TypeDesc->Bool
 | .int _ | .string | .bool=>true
 | _=>false
noncomputable def eqItemsA(kd:TypeDesc)(n:Nat)(xs ys:List Value):List Nat->Option Bool
 | []=>some true
 | i :: is => match xs[Nat.mul i n]?, ys[Nat.mul i n]? with
  | some x,some y=>cond (uD kd x) (match wH x y with
   | some true=>eqItemsA kd n xs ys is
   | some false=>some false
   | none=>none) none
  | _,_=>none
noncomputable def eqFldsA(P:Program)(xs ys:List Value):List Field->Option Bool
 | []=>some true
 | f :: fs => match und P f.type, xs[f.offset]?, ys[f.offset]? with
  | some kd,some x,some y=>cond (uD kd x) (match wH x y with
   | some true=>eqFldsA P xs ys fs
   | some false=>some false
   | none=>none) none
  | _,_,_=>none
noncomputable def fldA(P:Program)(f:Field):Bool:=f.name != "_" && match und P f.type with
 | some kd=>scalD kd
 | none=>false
noncomputable def eqA(P:Program)(t:TypeId)(xs ys:List Value):Option Bool:=
 match und P t with
 | some (.struct fs)=>cond (fs.toList.all (fldA P) && !P.stoodInHeld t) (eqFldsA P xs ys fs.toList) none
 | some (.array len e)=>match und P e,inf? P e with
  | some kd,some ei=>cond (scalD kd) (eqItemsA kd ei.size xs ys (List.range len)) none
  | _,_=>none
 | _=>none
def vQ(d:TypeDesc)(x y:Value):Option Bool:=
 match d,x,y with
 | .bool,.bool a,.bool b=>some (cond a b (!b))
 | .interface _,.nilIface,.nilIface=>some true
 | .interface _,.nilIface,.iface _ _=>some false
 | .interface _,.iface _ _,.nilIface=>some false
 | .pointer _,.pointer none,.pointer none=>some true
 | .pointer _,.pointer none,.pointer (some _)=>some false
 | .pointer _,.pointer (some _),.pointer none=>some false
 | .slice _,.slice none _ _,.slice none _ _=>some true
 | .slice _,.slice none _ _,.slice (some _) _ _=>some false
 | .slice _,.slice (some _) _ _,.slice none _ _=>some false
 | .map _ _,.map none,.map none=>some true
 | .map _ _,.map none,.map (some _)=>some false
 | .map _ _,.map (some _),.map none=>some false
 | .func _ _ _,.nilFunc,.nilFunc=>some true
 | .func _ _ _,.nilFunc,.func _ _ _=>some false
 | .func _ _ _,.func _ _ _,.nilFunc=>some false
 | _,_,_=>none
def zV(ox oy:Operand)(x y:Value):Bool:=
 match x,y with
 | .nilIface,.nilIface=>isConst ox || isConst oy
 | .agg _,.agg _=>false
 | _,_=>true
noncomputable def aBin(P:Program)(op:BinOp)(t:TypeId)(ox oy:Operand)(x y:Value):Option Value:=
 match x,y with
 | .int k a,.int k' b=>match op with
  | .shl=>aShift .shl k a b
  | .shr=>aShift .shr k a b
  | op=>cond (tJ k k') (aArith op k a b) none
 | .string a,.string b=>match op with
  | .eql=>some (.bool (vT a.data.toList b.data.toList))
  | .neq=>some (.bool (!vT a.data.toList b.data.toList))
  | .add=>cond (Nat.blt (Nat.add a.data.toList.length b.data.toList.length) 1000000) (some (.string ⟨⟨a.data.toList++b.data.toList⟩⟩)) none
  | _=>none
 | .agg a,.agg b=>match op with
  | .eql=>(eqA P t a.toList b.toList).map .bool
  | .neq=>(eqA P t a.toList b.toList).map λr=>.bool (!r)
  | _=>none
 | x,y=>match op,und P t with
  | .eql,some d=>cond (zV ox oy x y) ((vQ d x y).map .bool) none
  | .neq,some d=>cond (zV ox oy x y) ((vQ d x y).map λb=>.bool (!b)) none
  | _,_=>none
noncomputable def aUn(op:UnOp)(x:Value):Option Value:=
 match op,x with
 | .neg,.int k n=>some (.int k (vS k (isub 0 n)))
 | .not,.bool b=>some (.bool (!b))
 | _,_=>none
noncomputable def sY(P:Program)(dst:TypeId)(x:Value):Option Value:=
 match und P dst,x with
 | some (.int k),.int _ n=>some (.int k (vS k n))
 | some .string,.string _=>some x
 | _,_=>none
def vU:Nat->Nat->List Value->List Value
 | _,0,_=>[]
 | 0,n+1,l=>match l with
  | []=>[]
  | v::r=>v::vU 0 n r
 | i+1,n,l=>match l with
  | []=>[]
  | _::r=>vU i n r
def aggT:TypeDesc->Bool
 | .struct _ | .array _ _=>true
 | _=>false
noncomputable def aPart(P:Program)(t:TypeId)(cs:List Value)(off:Nat):Option Value:=
 match und P t,inf? P t with
 | some d,some i=>cond (aggT d) (cond (Nat.ble (Nat.add off i.size) cs.length) (some (.agg ⟨vU off i.size cs⟩)) none) (cs[off]?)
 | _,_=>none
def far(a:Addr)(n:Nat):Addr:=⟨a.block,Nat.add a.off n,none⟩
noncomputable def aLoad(P:Program)(h:zB)(t:TypeId)(x:Value):Option Value:=
 match x with
 | .pointer (some ⟨b, off, none⟩) =>
  match zG h b with
  | .cells c n _ _ => match und P t with
   | some d => cond (aggT d)
    (match inf? P t with
     | some i=>cond (Nat.ble (Nat.add off i.size) n) (some (.agg ⟨c.toListFrom undef off i.size⟩)) none
     | none=>none)
    (cond (Nat.blt off n) (some (tget c off)) none)
   | none=>none
  | _=>none
 | _=>none
noncomputable def aFieldAddr(P:Program)(s:TypeId)(x:Value)(f:Nat):Option Value:=
 match und P s,x with
 | some (.struct fs), .pointer (some ⟨b, off, none⟩) => match fs[f]? with
  | some fd=>match inf? P fd.type with
   | some i=>cond (Nat.beq i.size 0) none (some (.pointer (some ⟨b,Nat.add off fd.offset,none⟩)))
   | none=>none
  | none=>none
 | _,_=>none
noncomputable def aIndexAddr(P:Program)(t:TypeId)(x ix:Value):Option Value:=
 match ix with
 | .int _ (.ofNat i) => match und P t, x with
  | some (.slice e),.slice (some ⟨b,off,none⟩) len _=>match inf? P e with
   | some ei=>cond (Nat.blt i len) (some (.pointer (some ⟨b,Nat.add off (Nat.mul i ei.size),none⟩))) none
   | none=>none
  | some (.array len e),.pointer (some ⟨b,off,none⟩)=>match inf? P e with
   | some ei=>cond (Nat.blt i len) (some (.pointer (some ⟨b,Nat.add off (Nat.mul i ei.size),none⟩))) none
   | none=>none
  | _,_=>none
 | _=>none
noncomputable def dropK(n:Nat)(s:List UInt8):List UInt8:=Nat.rec (motive:=λ_=>List UInt8->List UInt8) (λs=>s) (λ_ ih s=>List.rec [] (λ_ r _=>ih r) s) n s
noncomputable def dropBlk(s:List UInt8)(k:Nat):List UInt8:=Nat.rec s (λ_ r=>dropK 64 r) k
noncomputable def dropB(s:List UInt8)(i:Nat):List UInt8:=dropK (Nat.mod i 64) (dropBlk s (Nat.div i 64))
noncomputable def takeK(n:Nat)(s:List UInt8):List UInt8:=Nat.rec (motive:=λ_=>List UInt8->List UInt8) (λ_=>[]) (λ_ ih s=>List.rec [] (λa r _=>a::ih r) s) n s
noncomputable def cutS(s:List UInt8)(i n:Nat):List UInt8:=takeK n (dropB s i)
noncomputable def nthB(s:List UInt8)(i:Nat):Option UInt8:=List.rec none (λa _ _=>some a) (dropB s i)
theorem dropK_eq:∀(n:Nat) (s:List UInt8),dropK n s=s.drop n:=by
 intro n
 induction n with
 | zero=>intro s;rfl
 | succ n ih=>
  intro s
  cases s with
  | nil=>rfl
  | cons a r=>exact ih r
theorem dropBlk_eq(s:List UInt8):∀k,dropBlk s k=s.drop (64*k):=by
 intro k
 induction k with
 | zero=>rfl
 | succ k ih=>
  show dropK 64 (dropBlk s k)=_;rw [dropK_eq,ih,List.drop_drop];congr 1
theorem dropB_eq(s:List UInt8)(i:Nat):dropB s i=s.drop i:=by
 unfold dropB;rw [dropK_eq,dropBlk_eq,List.drop_drop];congr 1
 exact Nat.div_add_mod i 64
theorem takeK_eq:∀(n:Nat) (s:List UInt8),takeK n s=s.take n:=by
 intro n
 induction n with
 | zero=>intro s;rw [List.take_zero];rfl
 | succ n ih=>
  intro s
  cases s with
  | nil=>rfl
  | cons a r=>show a::takeK n r=_;rw [ih,cE]
theorem cutS_eq(s:List UInt8)(i n:Nat):cutS s i n=(s.drop i).take n:=by unfold cutS;rw [takeK_eq,dropB_eq]
theorem nthB_eq(s:List UInt8)(i:Nat):nthB s i=s[i]? :=by
 unfold nthB;rw [dropB_eq];have:s[i]? = (s.drop i)[0]? :=by simp
 rw[this];cases s.drop i <;> rfl
noncomputable def aIndex(P:Program)(t:TypeId)(x ix:Value):Option Value:=
 match ix with
 | .int _ (.ofNat i) => match und P t, x with
  | some (.array len e),.agg cs=>match inf? P e with
   | some ei=>cond (Nat.blt i len) (aPart P e cs.toList (Nat.mul i ei.size)) none
   | none=>none
  | some .string,.string s=>match nthB s.data.toList i with
   | some b=>some (.int .u8 (.ofNat b.toNat))
   | none=>none
  | _,_=>none
 | _=>none
def natOf:Value->Option Nat
 | .int _ (.ofNat n)=>some n
 | _=>none
def zZ(d:Nat)(most:Nat):Option Value->Option Nat
 | none=>some d
 | some v=>match natOf v with
  | some n=>cond (Nat.ble n most) (some n) none
  | none=>none
def wT(a:Addr)(len cap size:Nat)(lo hi mx:Option Value):Option Value:=
 match zZ cap cap mx with
 | none=>none
 | some m => match zZ len m hi with
  | none=>none
  | some h=>match zZ 0 h lo with
   | none=>none
   | some l=>cond (Nat.blt m inf && Nat.ble h m) (some (.slice (some (cond (Nat.beq m l) a (far a (Nat.mul l size)))) (Nat.sub h l) (Nat.sub m l))) none
def uP(a:Addr)(len size:Nat)(lo hi mx:Option Value):Option Value:=
 match mx with
 | none => match zZ len len hi with
  | none=>none
  | some h=>match zZ 0 h lo with
   | none=>none
   | some l=>some (.slice (some (far a (Nat.mul l size))) (Nat.sub h l) inf)
 | some _ => match zZ len len mx with
  | none=>none
  | some m => match zZ m m hi with
   | none=>none
   | some h=>match zZ 0 h lo with
    | none=>none
    | some l=>cond (Nat.blt m inf) (some (.slice (some (cond (Nat.beq m l) a (far a (Nat.mul l size)))) (Nat.sub h l) (Nat.sub m l))) none
def fullOK(hi mx:Option Value):Bool:=
 match mx,hi with
 | some _,none=>false
 | _,_=>true
noncomputable def zc(e s:Nat):Nat:=Nat.add (Nat.mul (Nat.add e s) (Nat.add e s)) e
theorem zc_inj{e s e' s':Nat}(h:zc e s=zc e' s'):e=e'/\s=s':=by
 have h':(e+s)*(e+s)+e=(e'+s')*(e'+s')+e':=h
 have key:∀{a b x y:Nat},a<=x->b<=y->x<y->x*x+a=y*y+b->False:=by
  intro a b x y ha hb eD he;have h1:(x+1)*(x+1)<=y*y:=eh eD eD;have h2:(x+1)*(x+1)=x*x+2*x+1:=by rw[bX,Nat.mul_add];omega
  omega
 have hs:e+s=e'+s':=by
  rcases cn (e+s) (e'+s') with h1|h1|h1
  . exact(key qJ qJ  h1 h').elim
  . exact h1
  . exact(key qJ qJ  h1 h'.symm).elim
 rw[hs]at h';omega
noncomputable def xS(P:Program)(hp:zB)(t:TypeId)(x:Value)(lo hi mx:Option Value):Option Value:=
 cond (fullOK hi mx) (match und P t,x with
  | some (.slice e),.slice none len cap=>cond (Nat.beq len 0 && Nat.beq cap 0) (match zZ 0 0 mx,zZ 0 0 hi,zZ 0 0 lo,inf? P e with
   | some _,some _,some _,some _=>some (.slice none 0 0)
   | _,_,_,_=>none) none
  | some (.slice e), .slice (some ⟨b, off, none⟩) len cap => match inf? P e with
   | some ei => cond (Nat.beq cap inf)
    (match zG hp b with
     | .cells _ _ z 1=>cond (Nat.beq z (zc e ei.size) && Nat.ble 1 ei.size) (uP ⟨b,off,none⟩ len ei.size lo hi mx) none
     | _=>none)
    (wT ⟨b,off,none⟩ len cap ei.size lo hi mx)
   | none=>none
  | some (.array n e),.pointer (some ⟨b,off,none⟩)=>match inf? P e with
   | some ei=>wT ⟨b,off,none⟩ n n ei.size lo hi mx
   | none=>none
  | some (.pointer arr), .pointer (some ⟨b, off, none⟩) => match und P arr with
   | some (.array n e)=>match inf? P e with
    | some ei=>wT ⟨b,off,none⟩ n n ei.size lo hi mx
    | none=>none
   | _=>none
  | some .string, .string s => match mx with
   | some _=>none
   | none => match zZ s.data.toList.length s.data.toList.length hi with
    | none=>none
    | some h=>match zZ 0 h lo with
     | none=>none
     | some l=>some (.string ⟨⟨cutS s.data.toList l (Nat.sub h l)⟩⟩)
  | _,_=>none) none
def putAll(cs:List Value):Nat->List Value->List Value
 | _,[]=>cs
 | off,v::r=>putAll (cs.set off v) (off+1) r
def cellsOf:Value->List Value
 | .agg cs=>cs.toList
 | v=>[v]
def aFill(place:Nat->Option (Nat×Nat))(cells:List Value):List (Nat×Value)->Option (List Value)
 | []=>some cells
 | (i,v)::rest=>match place i with
  | none=>none
  | some (off,size)=>cond (Nat.beq (cellsOf v).length size && Nat.ble (Nat.add off size) cells.length) (aFill place (putAll cells off (cellsOf v)) rest) none
noncomputable def xI(P:Program)(t:TypeId):Option Value:=match inf? P t with
 | some i=>i.zero
 | none=>none
noncomputable def aField(P:Program)(t:TypeId)(x:Value)(f:Nat):Option Value:=
 match und P t,x with
 | some (.struct fs),.agg cs=>match fs[f]? with
  | some fd=>aPart P fd.type cs.toList fd.offset
  | none=>none
 | _,_=>none
noncomputable def aLen(P:Program)(h:zB)(t:TypeId)(x:Value):Option Value:=
 match und P t,x with
 | some (.slice _),.slice _ n _=>some (.int .i64 (.ofNat n))
 | some .string,.string s=>some (.int .i64 (.ofNat s.data.toList.length))
 | some (.array n _),_=>some (.int .i64 (.ofNat n))
 | some (.map _ _),.map none=>some (.int .i64 (.ofNat 0))
 | some (.map _ _),.map (some r)=>match zG h r with
  | .map es _=>some (.int .i64 (.ofNat es.length))
  | _=>none
 | _,_=>none
noncomputable def aCap(P:Program)(t:TypeId)(x:Value):Option Value:=
 match und P t,x with
 | some (.slice _),.slice _ _ n=>cond (Nat.beq n inf) none (some (.int .i64 (.ofNat n)))
 | some (.array n _),_=>some (.int .i64 (.ofNat n))
 | _,_=>none
noncomputable def aMax(big:Bool):Value->List Value->Option Value
 | x,[]=>some x
 | .int k x,.int k' y::r=>cond (tJ k k') (aMax big (.int k (cond (cond big (iltB x y) (iltB y x)) y x)) r) none
 | _,_=>none
noncomputable def keyEq:Value->Value->Option Bool
 | .agg a,.agg b=>scalsEq a.toList b.toList
 | x,y=>wH x y
noncomputable def keyT(P:Program)(kd:TypeDesc)(k:Value):Bool:=
 match kd,k with
 | .array len e,.agg cs=>match und P e,inf? P e with
  | some ed,some ei=>Nat.beq ei.size 1 && (Nat.beq cs.toList.length len && cs.toList.all (uD ed))
  | _,_=>false
 | kd,k=>uD kd k
noncomputable def findE(k:Value):List MapEntry->Nat->Option (Option (Nat×Value))
 | [],_=>some none
 | e::es,i=>match keyEq k e.key with
  | some true=>some (some (i,e.val))
  | some false=>findE k es (i+1)
  | none=>none
noncomputable def xG(P:Program)(h:zB)(t:TypeId)(x k:Value)(ok:Bool):Option Value:=
 match und P t with
 | some (.map kt et) => match und P kt, xI P et with
  | some kd, some z => cond (keyT P kd k)
   (match x with
    | .map none=>some (cond ok (.tuple #[z,.bool false]) z)
    | .map (some r) => match zG h r with
     | .map es _=>match findE k es 0 with
      | some (some (_,v))=>some (cond ok (.tuple #[v,.bool true]) v)
      | some none=>some (cond ok (.tuple #[z,.bool false]) z)
      | none=>none
     | _=>none
    | _=>none) none
  | _,_=>none
 | _=>none
noncomputable def wO(P:Program)(x:Value)(asserted:TypeId)(ok:Bool):Option Value:=
 match und P asserted with
 | some (.interface _)=>none
 | some _ => match x with
  | .iface t v => cond (Nat.beq t asserted) (some (cond ok (.tuple #[v, .bool true]) v))
   (cond ok (match xI P asserted with
    | some z=>some (.tuple #[z,.bool false])
    | none=>none) none)
  | .nilIface=>cond ok (match xI P asserted with
   | some z=>some (.tuple #[z,.bool false])
   | none=>none) none
  | _=>none
 | none=>none
def rep(z:List Value):Nat->List Value
 | 0=>[]
 | n+1=>z++rep z n
noncomputable def mkCells(cs:List Value)(kd:Nat):AObj:=.cells (Tr.ofListFrom undef .lF 0 cs) cs.length 0 kd
noncomputable def mkCellsT(cs:List Value)(el:Nat):AObj:=.cells (Tr.ofListFrom undef .lF 0 cs) cs.length (Nat.succ el) 0
noncomputable def wP(P:Program)(ty:TypeId)(len:Nat)(parts:List (Nat×Value)):Option AObj:=
 match und P ty with
 | some (.slice e) => match xI P e, inf? P e with
  | some z, some ei => cond (Nat.ble 1 ei.size && Nat.beq (cellsOf z).length ei.size && Nat.ble (Nat.mul len ei.size) 16777216)
   (match aFill (λi=>some (Nat.mul i ei.size,ei.size)) (rep (cellsOf z) len) parts with
    | some cs=>some (mkCells cs 0)
    | none=>none) none
  | _,_=>none
 | _=>none
inductive Sh where
 | bad
 | scal
 | agg (n:Nat)
noncomputable def yP(P:Program)(t:TypeId):Sh:=
 match und P t,inf? P t with
 | some d,some i=>cond (aggT d) (.agg i.size) (cond (Nat.beq i.size 1) .scal .bad)
 | _,_=>.bad
inductive Ix where
 | bad
 | slice (size:Nat)
 | array (len size:Nat)
noncomputable def ixOf(P:Program)(t:TypeId):Ix:=
 match und P t with
 | some (.slice e)=>match inf? P e with
  | some ei=>.slice ei.size
  | none=>.bad
 | some (.array len e)=>match inf? P e with
  | some ei=>.array len ei.size
  | none=>.bad
 | _=>.bad
noncomputable def placesOf(P:Program):List Field->Option (List (Nat×Nat))
 | []=>some []
 | f::fs=>match inf? P f.type,placesOf P fs with
  | some i,some l=>some ((f.offset,i.size)::l)
  | _,_=>none
noncomputable def structPlaces(P:Program)(t:TypeId):Option (List (Nat×Nat)):=
 match und P t with
 | some (.struct fs)=>placesOf P fs.toList
 | _=>none
noncomputable def aBuild(P:Program)(t:TypeId)(parts:List (Nat×Value)):Option Value:=
 match xI P t with
 | none=>none
 | some z => match structPlaces P t with
  | some pl=>(aFill (λi=>pl[i]?) (cellsOf z) parts).map λcs=>.agg ⟨cs⟩
  | none=>match ixOf P t with
   | .array _ size=>(aFill (λi=>some (Nat.mul i size,size)) (cellsOf z) parts).map λcs=>.agg ⟨cs⟩
   | _=>none
noncomputable def offOf(P:Program)(t:TypeId)(f:Nat):Option Nat:=
 match und P t with
 | some (.struct fs) => match fs[f]? with
  | some fd=>match inf? P fd.type with
   | some i=>cond (Nat.beq i.size 0) none (some fd.offset)
   | none=>none
  | none=>none
 | _=>none
noncomputable def onInt{R:Type}(v:Value)(f:IntKind->Int->R)(d:R):R:=
 Value.rec (motive_1:=λ_=>(IntKind->Int->R)->R->R) (motive_2:=λ_=>Unit) (motive_3:=λ_=>Unit)
  (λ_ _ d=>d) (λk n f _=>f k n) (λ_ _ _ d=>d) (λ_ _ _ _ d=>d) (λ_ _ d=>d) (λ_ _ d=>d) (λ_ _ _ _ d=>d) (λ_ _ d=>d) (λ_ _ d=>d) (λ_ _ _ _ _ _ d=>d) (λ_ d=>d) (λ_ _ _ _ d=>d) (λ_ d=>d) (λ_ _ _ d=>d) (λ_ _ _ d=>d)
  (λ_ _=>()) () (λ_ _ _ _=>()) v f d
noncomputable def onBool{R:Type}(v:Value)(f:Bool->R)(d:R):R:=
 Value.rec (motive_1:=λ_=>(Bool->R)->R->R) (motive_2:=λ_=>Unit) (motive_3:=λ_=>Unit)
  (λb f _=>f b) (λ_ _ _ d=>d) (λ_ _ _ d=>d) (λ_ _ _ _ d=>d) (λ_ _ d=>d) (λ_ _ d=>d) (λ_ _ _ _ d=>d) (λ_ _ d=>d) (λ_ _ d=>d) (λ_ _ _ _ _ _ d=>d) (λ_ d=>d) (λ_ _ _ _ d=>d) (λ_ d=>d) (λ_ _ _ d=>d) (λ_ _ _ d=>d)
  (λ_ _=>()) () (λ_ _ _ _=>()) v f d
noncomputable def onPtr{R:Type}(v:Value)(f:Nat->Nat->R)(d:R):R:=
 Value.rec (motive_1:=λ_=>(Nat->Nat->R)->R->R) (motive_2:=λ_=>Unit) (motive_3:=λ_=>Unit)
  (λ_ _ d=>d) (λ_ _ _ d=>d) (λ_ _ _ d=>d) (λ_ _ _ _ d=>d) (λ_ _ d=>d) (λa f d=>Option.rec d (λa=>Addr.rec (motive:=λ_=>(Nat->Nat->R)->R->R) (λb off sp f d=>Option.rec (f b off) (λ_=>d) sp) a f d) a) (λ_ _ _ _ d=>d) (λ_ _ d=>d) (λ_ _ d=>d) (λ_ _ _ _ _ _ d=>d) (λ_ d=>d) (λ_ _ _ _ d=>d) (λ_ d=>d) (λ_ _ _ d=>d) (λ_ _ _ d=>d)
  (λ_ _=>()) () (λ_ _ _ _=>()) v f d
noncomputable def onSlice{R:Type}(v:Value)(f:Nat->Nat->Nat->Nat->R)(d:R):R:=
 Value.rec (motive_1:=λ_=>(Nat->Nat->Nat->Nat->R)->R->R) (motive_2:=λ_=>Unit) (motive_3:=λ_=>Unit)
  (λ_ _ d=>d) (λ_ _ _ d=>d) (λ_ _ _ d=>d) (λ_ _ _ _ d=>d) (λ_ _ d=>d) (λ_ _ d=>d) (λa n m f d=>Option.rec d (λa=>Addr.rec (motive:=λ_=>Nat->Nat->(Nat->Nat->Nat->Nat->R)->R->R) (λb off sp n m f d=>Option.rec (f b off n m) (λ_=>d) sp) a n m f d) a) (λ_ _ d=>d) (λ_ _ d=>d) (λ_ _ _ _ _ _ d=>d) (λ_ d=>d) (λ_ _ _ _ d=>d) (λ_ d=>d) (λ_ _ _ d=>d) (λ_ _ _ d=>d)
  (λ_ _=>()) () (λ_ _ _ _=>()) v f d
noncomputable def xU{R:Type}(v:Value)(k:Value->R):R:=
 Value.rec (motive_1:=λ_=>(Value->R)->R) (motive_2:=λ_=>Unit) (motive_3:=λ_=>Unit)
  (λb k=>k (.bool b)) (λn i k=>k (.int n i)) (λa b k=>k (.float a b)) (λa b c k=>k (.complex a b c)) (λs k=>k (.string s)) (λa k=>k (.pointer a)) (λa n m k=>k (.slice a n m)) (λr k=>k (.map r)) (λr k=>k (.chan r)) (λa b c _ _ k=>k (.func a b c)) (λk=>k .nilFunc) (λt v _ k=>k (.iface t v)) (λk=>k .nilIface) (λc _ k=>k (.agg c)) (λc _ k=>k (.tuple c))
  (λ_ _=>()) () (λ_ _ _ _=>()) v k
noncomputable def forceOne(v:Value)(k:Value->Bool):Bool:=
 Value.rec (motive_1:=λ_=>(Value->Bool)->Bool) (motive_2:=λ_=>Unit) (motive_3:=λ_=>Unit)
  (λb k=>k (.bool b)) (λn i k=>k (.int n i)) (λa b k=>k (.float a b)) (λa b c k=>k (.complex a b c)) (λs k=>k (.string s)) (λa k=>k (.pointer a)) (λa n m k=>k (.slice a n m)) (λr k=>k (.map r)) (λr k=>k (.chan r)) (λa b c _ _ k=>k (.func a b c)) (λk=>k .nilFunc) (λt v _ k=>k (.iface t v)) (λk=>k .nilIface) (λ_ _ _=>false) (λ_ _ _=>false)
  (λ_ _=>()) () (λ_ _ _ _=>()) v k
noncomputable def onCells{R:Type}(o:AObj)(f:Tr Value->Nat->Nat->Nat->R)(d:R):R:=
 AObj.rec (motive:=λ_=>(Tr Value->Nat->Nat->Nat->R)->R->R) (λ_ d=>d) (λc n el kd f _=>f c n el kd) (λ_ _ _ d=>d) (λ_ _ _ d=>d) (λ_ _ d=>d) (λ_ _ _ _ _ d=>d) (λ_ _ _ d=>d) o f d
def isU:Value->Bool
 | .tuple _=>true
 | _=>false
noncomputable def rS(v:Value):Option Value:=Bool.rec (xU v some) none (isU v)
noncomputable def knownL(l:List Value):Option (List Value):=Bool.rec (some l) none (l.any isU)
noncomputable def rT(l:List Value):Option Value:=Bool.rec (some (.agg ⟨l⟩)) none (l.any isU)
noncomputable def onRows{R:Type}(o:AObj)(f:Tr Value->Nat->R)(g:Tr Value->Nat->R)(d:R):R:=
 AObj.rec (motive:=λ_=>(Tr Value->Nat->R)->(Tr Value->Nat->R)->R->R) (λ_ _ d=>d) (λc n _ _ f _ _=>f c n) (λ_ _ _ _ d=>d) (λ_ _ _ _ d=>d) (λ_ _ _ d=>d) (λ_ _ _ _ _ _ d=>d) (λc n _ g _=>g c n) o f g d
end Go.Ex
namespace Go.Ex
section
abbrev KV:=W->Value->Bool
abbrev KP:=zK->W->Bool
abbrev KX:=AX->Fr->W->Bool
abbrev KO:=Out->Option zK->zB->Nat->Bool
structure Lo where
 code:Code->Cx->Fr->W->KX->Bool
 call:FuncId->List Value->Bool->Option zK->zB->Nat->KO->Bool
 round:Nat->List Value->zB->Nat->(Out->zB->Nat->Bool)->Bool
 leave:Func->Option zK->Fr->W->KO->Bool
def Lo.bot:Lo:=⟨λ_ _ _ _ _=>false,λ_ _ _ _ _ _ _=>false,λ_ _ _ _ _=>false,λ_ _ _ _ _=>false⟩
noncomputable def xN(c:Tr Value)(i:Nat)(l:List Value)(k:Tr Value->Bool):Bool:=
 List.rec (motive:=λ_=>Tr Value->Nat->(Tr Value->Bool)->Bool) (λc _ k=>k c)
  (λv _ ih c i k=>forceOne v λv=>c.setK undef v i λc'=>ih c' (Nat.succ i) k) l c i k
noncomputable def storeAt(h:zB)(b off:Nat)(vs:List Value)(k:zB->Bool):Bool:=
 onCells (zG h b) (λc n z kd=>Bool.rec (Bool.rec false (xN c off vs λc'=>h.setK .dead (.cells c' n z kd) b k) (Nat.ble (Nat.add off vs.length) n)) false (Nat.beq kd 2)) false
noncomputable def rowOf(h:zB)(size n:Nat):Value->Option (List Value)
 | .slice none _ _=>cond (Nat.beq n 0) (some []) none
 | .slice (some ⟨b,off,none⟩) len _=>match zG h b with
  | .cells c kn _ _=>cond (Nat.ble n len && Nat.ble (Nat.add off (Nat.mul n size)) kn) (some (c.toListFrom undef off (Nat.mul n size))) none
  | .rows c kn=>cond (Nat.ble n len && Nat.ble (Nat.add off (Nat.mul n size)) kn) (knownL (c.toListFrom undef off (Nat.mul n size))) none
  | _=>none
 | .string s=>some ((s.data.toList.take n).map λb=>.int .u8 (.ofNat b.toNat))
 | _=>none
def lenV:Value->Option Nat
 | .slice _ n _=>some n
 | .string s=>some s.data.toList.length
 | _=>none
def strFits(size:Nat):Value->Bool
 | .string _=>Nat.beq size 1
 | _=>true
noncomputable def yD(h:zB)(n:Nat)(o:AObj)(k:zB->Nat->Bool):Bool:=h.setK .dead o n λh'=>k h' (Nat.succ n)
noncomputable def xD(P:Program)(h:zB)(e:TypeId)(size:Nat)(xd:TypeDesc)(x:Value):Option (Nat×List Value):=
 match xd with
 | .int _=>match natOf x,xI P e with
  | some m,some z=>cond (Nat.blt m 100000 && Nat.beq (cellsOf z).length size) (some (m,rep (cellsOf z) m)) none
  | _,_=>none
 | _ => match lenV x with
  | some m=>cond (strFits size x) (match rowOf h size m x with
   | some l=>some (m,l)
   | none=>none) none
  | none=>none
noncomputable def tN(h:zB)(n b sLen m size zz:Nat)(new:List Value)(k:Value->zB->Nat->Bool):Bool:=
 match zG h b with
 | .cells c kn z 1 => cond (Nat.beq z zz)
  (cond (Nat.ble (Nat.mul (Nat.add sLen m) size) kn)
   (storeAt h b (Nat.mul sLen size) new λh'=>k (.slice (some ⟨b,0,none⟩) (Nat.add sLen m) inf) h' n)
   (cond (Nat.ble (Nat.mul sLen size) kn)
    (xN c (Nat.mul sLen size) new λc'=>h.setK .dead .dead b λh1=>
     yD h1 n (.cells c' (Nat.mul (Nat.add sLen m) size) z 1) λh' n'=>k (.slice (some ⟨n,0,none⟩) (Nat.add sLen m) inf) h' n')
    false)) false
 | _=>false
noncomputable def growEx(h:zB)(n:Nat)(base:Option Addr)(sLen cap m size zz:Nat)(new:List Value)(k:Value->zB->Nat->Bool):Bool:=
 cond (Nat.ble (Nat.add sLen m) cap)
  (match base with
   | some ⟨b,off,none⟩=>storeAt h b (Nat.add off (Nat.mul sLen size)) new λh'=>k (.slice base (Nat.add sLen m) cap) h' n
   | none=>cond (Nat.beq m 0) (k (.slice base sLen cap) h n) false
   | _=>false)
  (match rowOf h size sLen (.slice base sLen cap) with
   | some old=>xN .lF 0 (old++new) λc=>yD h n (.cells c (Nat.mul (Nat.add sLen m) size) zz 1) λh' n'=>k (.slice (some ⟨n,0,none⟩) (Nat.add sLen m) inf) h' n'
   | none=>false)
noncomputable def sC(P:Program)(tys:List TypeId)(args:List Value)(h:zB)(n:Nat)(k:Value->zB->Nat->Bool):Bool:=
 match tys,args with
 | sT :: xT :: _, .slice base sLen cap :: x :: _ =>
  match und P sT,und P xT with
  | some (.slice e), some xd => match inf? P e, xI P e with
   | some ei, some z => match xD P h e ei.size xd x with
    | none=>false
    | some (m, new) => cond (Nat.beq ei.size 0 || !Nat.beq (cellsOf z).length ei.size || !Nat.blt (Nat.add sLen m) 1000000 || !Nat.blt ei.bytes 100000) false <|
     cond (Nat.beq m 0 && !Nat.beq cap 0 && (Nat.beq cap inf || Nat.ble sLen cap)) (k (.slice base sLen cap) h n) <| cond (Nat.beq cap inf)
     (match base with
      | some ⟨b,0,none⟩=>tN h n b sLen m ei.size (zc e ei.size) new k
      | _=>false)
     (growEx h n base sLen cap m ei.size (zc e ei.size) new k)
   | _,_=>false
  | _,_=>false
 | _,_=>false
def putE(k v:Value):Nat->List MapEntry->List MapEntry
 | _,[]=>[]
 | 0,e::es=>{ e with key:=k,val:=v }::es
 | i+1,e::es=>e::putE k v i es
def dropE:Nat->List MapEntry->List MapEntry
 | _,[]=>[]
 | 0,_::es=>es
 | i+1,e::es=>e::dropE i es
noncomputable def uE(P:Program)(t:TypeId)(x key v:Value)(h:zB)(k:zB->Bool):Bool:=
 match und P t,x with
 | some (.map kt _), .map (some r) => match und P kt, zG h r with
  | some kd, .map es clock => cond (keyT P kd key)
   (match findE key es 0 with
    | some (some (i,_))=>h.setK .dead (.map (putE key v i es) clock) r k
    | some none=>h.setK .dead (.map (es++[{ key,val:=v,born:=clock }]) (Nat.succ clock)) r k
    | none=>false) false
  | _,_=>false
 | _,_=>false
noncomputable def xdelete(P:Program)(tys:List TypeId)(args:List Value)(h:zB)(k:zB->Bool):Bool:=
 match tys,args with
 | t :: _, x :: key :: _ => match und P t, x with
  | some (.map kt _),.map none=>match und P kt with
   | some kd=>cond (keyT P kd key) (k h) false
   | none=>false
  | some (.map kt _), .map (some r) => match und P kt, zG h r with
   | some kd, .map es clock => cond (keyT P kd key)
    (match findE key es 0 with
     | some (some (i,_))=>h.setK .dead (.map (dropE i es) clock) r k
     | some none=>h.setK .dead (.map es clock) r k
     | none=>false) false
   | _,_=>false
  | _,_=>false
 | _,_=>false
noncomputable def xinvoke(lo:Lo)(f:Value)(args:List Value)(h:zB)(n:Nat)(k:Value->zB->Nat->Bool)(kp:zK->zB->Nat->Bool):Bool:=
 match f with
 | .func (.func g) first cap=>lo.call g (first.toList++(args++cap.toList)) false none h n λo _ h n=>Out.rec (λv=>k v h n) (λc=>kp c h n) o
 | .func (.yield l) first _=>lo.round l (first.toList++args) h n λo h n=>Out.rec (λv=>k v h n) (λc=>kp c h n) o
 | _=>false
noncomputable def intOp(op:BinOp)(kd:IntKind)(a b:Int)(slow:Option Value):Option Value:=
 BinOp.rec (motive:=λ_=>IntKind->Int->Int->Option Value->Option Value)
  (λkd a b _=>Int.rec (λm=>some (.int kd (.ofNat m))) (λm=>some (.int kd (.negSucc m))) (vS kd (iadd a b)))
  (λkd a b _=>Int.rec (λm=>some (.int kd (.ofNat m))) (λm=>some (.int kd (.negSucc m))) (vS kd (isub a b)))
  (λ_ _ _ s=>s) (λ_ _ _ s=>s) (λ_ _ _ s=>s) (λ_ _ _ s=>s) (λ_ _ _ s=>s) (λ_ _ _ s=>s) (λ_ _ _ s=>s) (λ_ _ _ s=>s) (λ_ _ _ s=>s)
  (λ_ a b _=>some (.bool (ieqB a b)))
  (λ_ a b _=>some (.bool (Bool.rec true false (ieqB a b))))
  (λ_ a b _=>some (.bool (iltB a b)))
  (λ_ a b _=>some (.bool (ileB a b)))
  (λ_ a b _=>some (.bool (iltB b a)))
  (λ_ a b _=>some (.bool (ileB b a))) op kd a b slow
noncomputable def binV(P:Program)(op:BinOp)(ty:TypeId)(ox oy:Operand)(x y:Value):Option Value:=
 onInt x (λk1 a=>onInt y (λk2 b=>Bool.rec (aBin P op ty ox oy x y) (intOp op k1 a b (aBin P op ty ox oy x y)) (tJ k1 k2))
  (aBin P op ty ox oy x y)) (aBin P op ty ox oy x y)
noncomputable def quietB(P:Program)(b:Builtin)(tys:List TypeId)(args:List Value)(h:zB):Option Value:=
 match b with
 | .len=>match args,tys with
  | x::_,ty::_=>aLen P h ty x
  | _,_=>none
 | .cap=>match args,tys with
  | x::_,ty::_=>aCap P ty x
  | _,_=>none
 | .max=>match args with
  | x::r=>aMax true x r
  | _=>none
 | _=>none
noncomputable def builtinK(P:Program)(cx:Cx)(b:Builtin)(tys:List TypeId)(args:List Value)(w:W)(k:KV):Bool:=
 match w with
 | ⟨d, u, h, n⟩ => match b with
  | .append=>sC P tys args h n λv h n=>k ⟨d,u,h,n⟩ v
  | .recover => match cx.round with
   | some _=>false
   | none => cond cx.df
    (match u with
     | some (⟨v,false,false⟩::older)=>k ⟨d,some (⟨v,true,false⟩::older),h,n⟩ v
     | none=>k ⟨d,u,h,n⟩ .nilIface
     | _=>false)
    (k ⟨d,u,h,n⟩ .nilIface)
  | _=>false
noncomputable def uF(o:Op)(P:Program)(t:Fr)(h:zB):Option Value:=
 Op.rec (motive:=λ_=>Program->Fr->zB->Option Value)
  (λx _ t _=>xU (ev t x) some)
  (λx _ t _=>xU (ev t x) some)
  (λc x y _ t _=>onBool (ev t c) (λb=>xU (Bool.rec (ev t y) (ev t x) b) some) none)
  (λ_ _ _ _=>none) (λ_ _ _ _ _=>none)
  (λty parts P t _=>aBuild P ty (parts.toList.map λp=>(p.1,ev t p.2)))
  (λ_ _ _ _ _ _=>none) (λ_ _ _ _ _ _ _=>none)
  (λty x P t h=>onPtr (ev t x) (λb off=>onRows (zG h b) (λc kn=>
   Sh.rec none (Bool.rec none (xU (Tr.get undef c off) some) (Nat.blt off kn))
    (λsz=>Bool.rec none (some (.agg ⟨c.toListFrom undef off sz⟩)) (Nat.ble (Nat.add off sz) kn)) (yP P ty)) (λc kn=>
   Sh.rec none (Bool.rec none (rS (Tr.get undef c off)) (Nat.blt off kn))
    (λsz=>Bool.rec none (rT (c.toListFrom undef off sz)) (Nat.ble (Nat.add off sz) kn)) (yP P ty)) none) none)
  (λ_ _ _ _ _ _=>none) (λ_ _ _ _=>none) (λ_ _ _ _=>none)
  (λx _ t _=>match ev t x with
   | .pointer (some p)=>some (.pointer (some p))
   | .func (.func f) fs cs=>some (.func (.func f) fs cs)
   | .func (.yield f) fs cs=>some (.func (.yield f) fs cs)
   | .map r=>some (.map r)
   | .slice p i c=>some (.slice p i c)
   | _=>none)
  (λop ty x y _ P t _=>binV P op ty x y (ev t x) (ev t y))
  (λop _ x _ t _=>aUn op (ev t x))
  (λsrc dst x P t _=>match und P src with
   | some _=>sY P dst (ev t x)
   | none=>none)
  (λ_ _ _ _ _=>none)
  (λty x P t _=>match und P ty with
   | some (.interface _)=>none
   | some _=>xU (ev t x) λv=>some (.iface ty v)
   | none=>none)
  (λfn first cap _ t _=>match fn with
   | .func f=>some (.func (.func f) ⟨first.toList.map (ev t)⟩ ⟨cap.toList.map (ev t)⟩)
   | _=>none)
  (λ_ _ _ _ _=>none) (λ_ _ _ _ _=>none) (λ_ _ _ _ _ _=>none)
  (λty x lo hi mx P t h=>xS P h ty (ev t x) (lo.map (ev t)) (hi.map (ev t)) (mx.map (ev t)))
  (λty x f P t _=>onPtr (ev t x) (λb off=>Option.rec none (λo=>some (.pointer (some ⟨b,Nat.add off o,none⟩))) (offOf P ty f)) none)
  (λty x f P t _=>aField P ty (ev t x) f)
  (λty x ix P t _=>onInt (ev t ix) (λ_ i=>Int.rec (λi=>Ix.rec none
   (λsz=>onSlice (ev t x) (λb off len _=>Bool.rec none (some (.pointer (some ⟨b,Nat.add off (Nat.mul i sz),none⟩))) (Nat.blt i len)) none)
   (λlen sz=>onPtr (ev t x) (λb off=>Bool.rec none (some (.pointer (some ⟨b,Nat.add off (Nat.mul i sz),none⟩))) (Nat.blt i len)) none) (ixOf P ty)) (λ_=>none) i) none)
  (λty x ix P t _=>aIndex P ty (ev t x) (ev t ix))
  (λty x key ok P t h=>xG P h ty (ev t x) (ev t key) ok)
  (λ_ _ _ _ _ _ _=>none) (λ_ _ _ _ _ _=>none) (λ_ _ _ _ _ _ _=>none) (λ_ _ _ _ _=>none) (λ_ _ _ _ _=>none) (λ_ _ _ _=>none)
  (λx _ asserted ok P t _=>wO P (ev t x) asserted ok)
  (λx i _ t _=>match ev t x with
   | .tuple vs=>Option.rec none (λv=>xU v some) (vs.toList[i]?)
   | _=>none)
  (λc P t h=>Call.rec (λcallee args tys=>Callee.rec (λ_=>none) (λ_ _=>none) (λb=>quietB P b tys.toList (args.toList.map (ev t)) h) callee) c)
  (λ_ _ _ _=>none) (λ_ _ _ _=>none) (λ_ _ _ _=>none) (λ_ _ _ _ _=>none) (λ_ _ _ _ _ _=>none) (λ_ _ _ _ _=>none) o P t h
noncomputable def nextE(es:List MapEntry)(seen:List Nat)(since:Nat):Option (Option MapEntry):=
 match es.filter λe=> !(seen.any λb=>Nat.beq b e.born) with
 | []=>some none
 | [e]=>cond (Nat.blt e.born since) (some (some e)) none
 | _=>none
abbrev HV:=Program->Lo->Cx->Fr->W->KV->KP->Bool
noncomputable def tK(w:W)(f:zB->Nat->(zB->Nat->W)->Bool):Bool:=W.rec (λd u h n=>f h n (W.mk d u)) w
noncomputable def eff(o:Op):HV:=
 match o with
 | .alloc el=>λP _ _ _ w k _=>tK w λh n mk=>Option.rec false (λz=>yD h n (mkCellsT (cellsOf z) el) λh' n'=>k (mk h' n') (.pointer (some ⟨n,0,none⟩))) (xI P el)
 | .box el x=>λ_ _ _ t w k _=>tK w λh n mk=>xN .lF 0 (cellsOf (ev t x)) λc=>
  yD h n (.cells c (cellsOf (ev t x)).length (Nat.succ el) 0) λh' n'=>k (mk h' n') (.pointer (some ⟨n,0,none⟩))
 | .buildSlice ty len parts=>λP _ _ t w k _=>tK w λh n mk=>Option.rec false (λob=>yD h n ob λh' n'=>k (mk h' n') (.slice (some ⟨n,0,none⟩) len len))
  (wP P ty len (parts.toList.map λp=>(p.1,ev t p.2)))
 | .store ty x v=>λP _ _ t w k _=>tK w λh n mk=>onPtr (ev t x) (λb off=>Sh.rec false
  (Bool.rec false (storeAt h b off (cellsOf (ev t v)) λh'=>k (mk h' n) undef) (Nat.beq (cellsOf (ev t v)).length 1))
  (λsz=>Bool.rec false (storeAt h b off (cellsOf (ev t v)) λh'=>k (mk h' n) undef) (Nat.beq (cellsOf (ev t v)).length sz)) (yP P ty)) false
 | .makeMap _ r=>λ_ _ _ _ w k _=>tK w λh n mk=>match r with
  | none=>yD h n (.map [] 0) λh' n'=>k (mk h' n') (.map (some n))
  | some _=>false
 | .mapUpdate ty m key v=>λP _ _ t w k _=>tK w λh n mk=>uE P ty (ev t m) (ev t key) (ev t v) h λh=>k (mk h n) undef
 | .call c=>λP lo cx t w k kp=>Call.rec (λcallee args tys=>Callee.rec
  (λf=>tK w λh n mk=>xinvoke lo (ev t f) (args.toList.map (ev t)) h n (λv h n=>k (mk h n) v) (λc h n=>kp c (mk h n)))
  (λ_ _=>false)
  (λb=>builtinK P cx b tys.toList (args.toList.map (ev t)) w k) callee) c
 | .defer c => λ_ _ cx t w k _ => match c, cx.round, w with
  | ⟨.value f,args,_⟩,none,⟨d,u,h,n⟩=>match ev t f with
   | .func (.func g) first cap=>k ⟨{ target:=.fn (.func g) cap,args:=⟨first.toList++args.toList.map (ev t)⟩ }::d,u,h,n⟩ undef
   | _=>false
  | _,_,_=>false
 | .panic x=>λ_ _ _ t w _ kp=>match ev t x with
  | .iface ty v=>kp [⟨.iface ty v,false,false⟩] w
  | _=>false
 | _=>λ_ _ _ _ _ _ _=>false
noncomputable def putT(t:Fr)(dst:Option Tmp)(v:Value)(k:Fr->Bool):Bool:=
 Option.rec (k t) (λi=>fsetK t i v k) dst
def dstOf(ops:Array Oper)(g:Nat):Option Tmp:=
 match ops[g]? with
 | some o=>o.dst
 | none=>none
noncomputable def wants(ops:Array Oper)(t:Fr)(g:Nat)(b:Bool):Bool:=
 Option.rec false (λd=>onBool (fget t d) (λz=>Bool.rec (Bool.rec true false b) b z) false) (dstOf ops g)
noncomputable def wanted(ops:Array Oper)(t:Fr)(g:Option (Nat×Bool)):Bool:=
 Option.rec true (λg=>wants ops t g.1 g.2) g
noncomputable def xops(P:Program)(lo:Lo)(cx:Cx)(all:Array Oper)(l:List Oper)(t:Fr)(w:W)(k:KX):Bool:=
 List.rec (motive:=λ_=>Program->Lo->Cx->Array Oper->Fr->W->KX->Bool)
  (λ_ _ _ _ t w k=>k .normal t w)
  (λo _ ih P lo cx all t w k=>
   (λkv:KV=>Bool.rec (kv w undef) (Option.rec (eff o.op P lo cx t w kv λc w=>k (.panic c) t w) (kv w) (uF o.op P t w.h)) (wanted all t o.guard))
    (λw v=>putT t o.dst v λt=>ih P lo cx all t w k)) l P lo cx all t w k
def xP:Op->Nat
 | .move _ | .assign _ | .pick .. | .build .. | .nilCheck _ | .binOp .. | .unOp .. | .convert .. | .makeInterface .. | .makeFunc ..
 | .fieldAddr .. | .field .. | .indexAddr .. | .index .. | .typeAssert .. | .extract .. =>0
 | .load .. | .lookup .. | .slice .. =>1
 | .call ⟨.builtin b,_,_⟩=>match b with
  | .len | .cap | .max | .min=>1
  | _=>3
 | .alloc _ | .box .. | .buildSlice .. | .makeSlice .. =>2
 | .makeMap _ none=>2
 | _=>3
noncomputable def xrange(lo:Lo)(f:Operand)(params:Array Tmp)(assign body:Code)(cx:Cx)(t:Fr)(d:List Deferred)(u:Option zK)(h:zB)(n:Nat)(blk:Nat)(k:KX):Bool:=
 yD h n (.loop { state:=.ready,pending:=none,fn:=cx.fn,tmps:= #[],params,assign,body,defers:=blk } t) λh' n'=>
  xinvoke lo (ev t f) [.func (.yield n) #[] #[]] h' n'
   (λ_ h2 n2=>match zG h2 n with
    | .loop l t0 => match l.state with
     | .busy=>false
     | _=>h2.setK .dead (.loop { l with state:=.exhausted } t0) n λh3=>match l.pending with
      | none=>k .normal t ⟨d,u,h3,n2⟩
      | some j=>lo.code j cx t ⟨d,u,h3,n2⟩ k
    | _=>false)
   (λc h2 n2=>k (.panic c) t ⟨d,u,h2,n2⟩)
noncomputable def xcode(P:Program)(lo:Lo)(c:Code):Cx->Fr->W->KX->Bool:=
 Code.rec (motive:=λ_=>Program->Lo->Cx->Fr->W->KX->Bool)
  (λ_ _ _ t w k=>k .normal t w)
  (λ_ ops draw P lo cx t w k=>Bool.rec (xops P lo cx ops ops.toList t w k) false draw)
  (λ_ _ iha ihb P lo cx t w k=>iha P lo cx t w λx t w=>AX.rec (ihb P lo cx t w k) (λi=>k (.exit i) t w) (λi=>k (.goto i) t w) (k .ret t w) (λc=>k (.panic c) t w) x)
  (λc _ _ ih1 ih2 P lo cx t w k=>onBool (ev t c) (λb=>Bool.rec (ih2 P lo cx t w k) (ih1 P lo cx t w k) b) false)
  (λid _ ih P lo cx t w k=>ih P lo cx t w λx t w=>AX.rec (k .normal t w) (λi=>Bool.rec (k (.exit i) t w) (k .normal t w) (Nat.beq i id)) (λi=>k (.goto i) t w) (k .ret t w) (λc=>k (.panic c) t w) x)
  (λb ih P lo cx t w k=>ih P lo cx t w λx t w=>AX.rec (lo.code (.loop b) cx t w k) (λi=>k (.exit i) t w) (λi=>k (.goto i) t w) (k .ret t w) (λc=>k (.panic c) t w) x)
  (λf params assign body _ _ _ lo cx t w k=>match cx.round,w with
   | none,⟨d,u,h,n⟩=>yD h n (.deferred true) λh' n'=>xrange lo f params assign body cx t ({ target:=.collected n,args:= #[] }::d) u h' n' n k
   | some l,⟨d,u,h,n⟩=>match zG h l with
    | .loop ll _=>xrange lo f params assign body cx t d u h n ll.defers k
    | _=>false)
  (λid _ _ _ t w k=>k (.exit id) t w)
  (λ_ ih P lo cx t w k=>ih P lo cx t w λx t w=>AX.rec (k .normal t w) (λi=>k (.exit i) t w) (λ_=>false) (k .ret t w) (λc=>k (.panic c) t w) x)
  (λ_ _ _ _ t w k=>k .normal t w)
  (λl _ _ _ t w k=>k (.goto l) t w)
  (λ_ _ _ t w k=>k .ret t w)
  (λ_ _ _ _ _ _ _=>false)
  c P lo
noncomputable def ldV(P:Program)(h:zB)(ty:TypeId)(x:Value):Option Value:=
 onPtr x (λb off=>onRows (zG h b) (λc kn=>
  Sh.rec none (Bool.rec none (xU (Tr.get undef c off) some) (Nat.blt off kn))
   (λsz=>Bool.rec none (some (.agg ⟨c.toListFrom undef off sz⟩)) (Nat.ble (Nat.add off sz) kn)) (yP P ty)) (λc kn=>
  Sh.rec none (Bool.rec none (rS (Tr.get undef c off)) (Nat.blt off kn))
   (λsz=>Bool.rec none (rT (c.toListFrom undef off sz)) (Nat.ble (Nat.add off sz) kn)) (yP P ty)) none) none
noncomputable def xB(P:Program)(t:Fr)(h:zB):List ResultVar->Option (List Value)
 | []=>some []
 | .tmp i::r=>match xB P t h r with
  | some l=>some (fget t i::l)
  | none=>none
 | .cell x ty::r=>match ldV P h ty (fget t x),xB P t h r with
  | some v,some l=>some (v::l)
  | _,_=>none
def sD:List Value->Value
 | [v]=>v
 | l=>.tuple ⟨l⟩
noncomputable def xleave(P:Program)(lo:Lo)(fn:Func)(mode:Option zK)(t:Fr)(w:W)(k:KO):Bool:=
 match w with
 | ⟨d, u0, h, n⟩ => match d with
  | [] => match mode with
   | none=>match xB P t h fn.results.toList with
    | some l=>xU (sD l) λv=>k (.ret v) u0 h n
    | none=>false
   | some c=>k (.panic c) u0 h n
  | ⟨.collected r,_⟩::ds=>match zG h r with
   | .deferred true=>h.setK .dead (.deferred false) r λh=>lo.leave fn mode t ⟨ds,u0,h,n⟩ k
   | _=>false
  | ⟨.fn (.func g) cap, args⟩ :: ds => lo.call g (args.toList ++ cap.toList) true mode h n λo u h n => match o with
   | .panic _=>false
   | .ret _=>match u with
    | some (⟨_,true,_⟩::older)=>cond (older.all λe=> !e.goexit) (lo.leave fn none t ⟨ds,u0,h,n⟩ k) false
    | u=>lo.leave fn u t ⟨ds,u0,h,n⟩ k
  | _=>false
noncomputable def bodyOf(P:Program)(f:FuncId):Option (Func×Code):=
 match Tr.get none (fnT P) f with
 | some fn=>match fn.body with
  | some body=>some (fn,body)
  | none=>none
 | none=>none
noncomputable def args0(t:Fr)(i:Nat)(l:List Value)(k:Fr->Bool):Bool:=
 List.rec (motive:=λ_=>Fr->Nat->(Fr->Bool)->Bool) (λt _ k=>k t)
  (λv _ ih t i k=>xU v λv=>fsetK t i v λt=>ih t (Nat.succ i) k) l t i k
noncomputable def xcall(P:Program)(lo:Lo)(f:FuncId)(args:List Value)(df:Bool)(u:Option zK)(h:zB)(n:Nat)(k:KO):Bool:=
 Option.rec false (λfb=>Prod.rec (λfn body=>Bool.rec false (args0 fr0 0 args λt=>
  lo.code body ⟨f,none,df⟩ t ⟨[],u,h,n⟩ λx t w=>AX.rec (lo.leave fn none t w k) (λ_=>false) (λ_=>false) (lo.leave fn none t w k) (λc=>lo.leave fn (some c) t w k) x) (Nat.ble args.length fn.ntmps)) fb) (bodyOf P f)
noncomputable def sE(t:Fr):List Tmp->List Value->(Fr->Bool)->Bool
 | i::is,v::vs,k=>xU v λv=>fsetK t i v λt'=>sE t' is vs k
 | [],[],k=>k t
 | _,_,_=>false
noncomputable def endRound(l:Nat)(j:Option Code)(h:zB)(n:Nat)(k:Out->zB->Nat->Bool):Bool:=
 match zG h l with
 | .loop l2 t2=>h.setK .dead (.loop { l2 with state:=(match j with|none=>.ready|some _=>.done),pending:=j } t2) l λh2=>
  k (.ret (.bool (match j with|none=>true|some _=>false))) h2 n
 | _=>false
noncomputable def xround(lo:Lo)(l:Nat)(args:List Value)(h:zB)(n:Nat)(k:Out->zB->Nat->Bool):Bool:=
 match zG h l with
 | .loop ll t => sE t ll.params.toList args λt' =>
  lo.code ll.assign ⟨ll.fn,some l,false⟩ t' ⟨[],none,h,n⟩ λx t w=>match x,w with
   | .normal, ⟨d, u, h, n⟩ => match zG h l with
    | .loop l1 t1 => match l1.state with
     | .ready => h.setK .dead (.loop { l1 with state := .busy } t1) l λh1 =>
      lo.code ll.body ⟨ll.fn,some l,false⟩ t ⟨d,u,h1,n⟩ λx _ w=>match w with
       | ⟨[],_,h,n⟩=>match x with
        | .normal=>endRound l none h n k
        | .ret=>endRound l (some .ret) h n k
        | .exit id=>endRound l (some (.exit id)) h n k
        | .goto id=>endRound l (some (.goto id)) h n k
        | .panic c=>k (.panic c) h n
       | _=>false
     | _=>false
    | _=>false
   | _,_=>false
 | _=>false
noncomputable def Lo.next(P:Program)(lo:Lo):Lo:=⟨xcode P lo,xcall P lo,xround lo,xleave P lo⟩
noncomputable def run(P:Program)(fuel:Nat):Lo:=Nat.rec Lo.bot (λ_ lo=>Lo.next P lo) fuel
end
section
open Go.RowKit (Below)
structure Bl where
 b:Nat
 n:Nat
 z:Nat
abbrev Inj:=Nat->Option Bl
inductive RV (ρ : Inj):Value->Value->Prop
 | bool (b:Bool):RV ρ (.bool b) (.bool b)
 | int (k:IntKind) (n:Int):RV ρ (.int k n) (.int k n)
 | float (k:FloatKind) (n:Nat):RV ρ (.float k n) (.float k n)
 | complex (k:FloatKind) (n m:Nat):RV ρ (.complex k n m) (.complex k n m)
 | string (s:ByteArray):RV ρ (.string s) (.string s)
 | nilPtr:RV ρ (.pointer none) (.pointer none)
 | ptr {b o:Nat} {B:Bl} (h: ρ b=some B):RV ρ (.pointer (some ⟨b,o,none⟩)) (.pointer (some ⟨B.b,o,none⟩))
 | nilSlice (l c:Nat) (h:c≠inf):RV ρ (.slice none l c) (.slice none l c)
 | slice {b o l c:Nat} {B:Bl} {o':Nat} (h: ρ b=some B) (hc:c≠inf) (hl:l<=c) (ho:o'=o\/c=0) :
  RV ρ (.slice (some ⟨b,o,none⟩) l c) (.slice (some ⟨B.b,o',none⟩) l c)
 | slice0 {b o:Nat} {B:Bl} (h: ρ b=some B) (a:Addr):RV ρ (.slice (some ⟨b,o,none⟩) 0 0) (.slice (some a) 0 0)
 | opened {b o l:Nat} {B:Bl} {o' c':Nat} (h: ρ b=some B) (hl:l<=c') (ho:(o'=o/\o+c'*B.z=B.n)\/(c'=0/\0<o)) :
  RV ρ (.slice (some ⟨b,o,none⟩) l inf) (.slice (some ⟨B.b,o',none⟩) l c')
 | nilMap:RV ρ (.map none) (.map none)
 | map {r:Nat} {B:Bl} (h: ρ r=some B):RV ρ (.map (some r)) (.map (some B.b))
 | func {fn:Fn} {f f' c c':Array Value} (hy:∀l,fn≠.yield l) (hf:f.toList.length=f'.toList.length) (hc:c.toList.length=c'.toList.length)
  (f1:∀(i:Nat) (v v':Value),f.toList[i]? = some v->f'.toList[i]? = some v'->RV ρ v v')
  (c1:∀(i:Nat) (v v':Value),c.toList[i]? = some v->c'.toList[i]? = some v'->RV ρ v v'):RV ρ (.func fn f c) (.func fn f' c')
 | yield {l:Nat} {B:Bl} (h: ρ l=some B):RV ρ (.func (.yield l) #[] #[]) (.func (.yield B.b) #[] #[])
 | nilFunc:RV ρ .nilFunc .nilFunc
 | iface {t:TypeId} {v v':Value} (h:RV ρ v v'):RV ρ (.iface t v) (.iface t v')
 | nilIface:RV ρ .nilIface .nilIface
 | agg {c c':Array Value} (hc:c.toList.length=c'.toList.length)
  (c1:∀(i:Nat) (v v':Value),c.toList[i]? = some v->c'.toList[i]? = some v'->RV ρ v v'):RV ρ (.agg c) (.agg c')
 | tuple {c c':Array Value} (hc:c.toList.length=c'.toList.length)
  (c1:∀(i:Nat) (v v':Value),c.toList[i]? = some v->c'.toList[i]? = some v'->RV ρ v v'):RV ρ (.tuple c) (.tuple c')
def RVs(ρ : Inj)(l l':List Value):Prop:=l.length=l'.length/\∀(i:Nat) (v v':Value),l[i]? = some v->l'[i]? = some v'->RV ρ v v'
def Inj.le(ρ ρ':Inj):Prop:=∀b B,ρ b=some B->ρ' b=some B
theorem Inj.le.trans{a b c:Inj}(h:a.le b)(k:b.le c):a.le c:=λ_ _ e=>k _ _ (h _ _ e)
theorem RV.mono{ρ ρ':Inj}(h: ρ.le ρ'){v v':Value}(r:RV ρ v v'):RV ρ' v v':=by
 induction r with
 | bool b=>exact .bool b
 | int k n=>exact .int k n
 | float k n=>exact .float k n
 | complex k n m=>exact .complex k n m
 | string s=>exact .string s
 | nilPtr=>exact .nilPtr
 | ptr e=>exact .ptr (h _ _ e)
 | nilSlice l c e=>exact .nilSlice l c e
 | slice e hc hl ho=>exact .slice (h _ _ e) hc hl ho
 | opened e hl ho=>exact .opened (h _ _ e) hl ho
 | slice0 e a=>exact .slice0 (h _ _ e) a
 | nilMap=>exact .nilMap
 | map e=>exact .map (h _ _ e)
 | func hy hf hc _ _ f2 c2=>exact .func hy hf hc f2 c2
 | yield e=>exact .yield (h _ _ e)
 | nilFunc=>exact .nilFunc
 | iface _ ih=>exact .iface ih
 | nilIface=>exact .nilIface
 | agg hc _ ih=>exact .agg hc ih
 | tuple hc _ ih=>exact .tuple hc ih
theorem RVs.mono{ρ ρ':Inj}(h: ρ.le ρ'){l l':List Value}(r:RVs ρ l l'):RVs ρ' l l':=⟨r.1,λi v v' a b=>(r.2 i v v' a b).mono h⟩
theorem RVs.nil(ρ : Inj):RVs ρ [] []:=⟨rfl,λ_ _ _ h=>by simp at h⟩
theorem RVs.cons{ρ : Inj}{v v':Value}{l l':List Value}(h:RV ρ v v')(r:RVs ρ l l'):RVs ρ (v::l) (v'::l'):=
 ⟨by simp[r.1],λi w w' a b=>by
  cases i with
  | zero=>simp at a b;subst a b;exact h
  | succ i=>simp at a b;exact r.2 i w w' a b⟩
theorem RVs.of_cons{ρ : Inj}{v:Value}{l l2:List Value}(r:RVs ρ (v::l) l2):∃v' l',l2=v'::l'/\RV ρ v v'/\RVs ρ l l':=by
 obtain⟨hl,h⟩:=r
 cases l2 with
 | nil=>simp at hl
 | cons v' l'=>exact⟨v',l',rfl,h 0 v v' rfl rfl,by simpa using hl,λi w w' a b=>h (i+1) w w' (by simpa using a) (by simpa using b)⟩
theorem RVs.of_nil{ρ : Inj}{l2:List Value}(r:RVs ρ [] l2):l2=[]:=by
 have:=r.1;cases l2 <;> simp_all
theorem RVs.append{ρ : Inj}{a a' b b':List Value}(h:RVs ρ a a')(k:RVs ρ b b'):RVs ρ (a++b) (a'++b'):=by
 induction a generalizing a' with
 | nil=>obtain rfl:=h.of_nil;exact k
 | cons v l ih=>obtain⟨v',l',rfl,hv,hl⟩:=h.of_cons;exact RVs.cons hv (ih hl)
theorem RVs.map{ρ : Inj}{α : Type}(f g: α->Value):∀(l:List α),(∀x∈l,RV ρ (f x) (g x))->RVs ρ (l.map f) (l.map g)
 | [],_=>RVs.nil ρ
 | x::l,h=>RVs.cons (h x qL) (RVs.map f g l λy hy=>h y (by simp[hy]))
theorem RVs.at{ρ : Inj}{l l':List Value}(r:RVs ρ l l'){i:Nat}{v:Value}(h:l[i]? = some v):∃v',l'[i]? = some v'/\RV ρ v v':=by
 have hi:i<l.length:=by
  rcases aS i l.length with h1|h1
  . exact h1
  . simp[aw h1]at h
 have fQ:i<l'.length:=r.1 ▸ hi;exact⟨l'[i],aa fQ,r.2 i v _ h (aa fQ)⟩
theorem RVs.take{ρ : Inj}{l l':List Value}(r:RVs ρ l l')(n:Nat):RVs ρ (l.take n) (l'.take n):=
 ⟨by simp[r.1],λi v v' a b=>by
  rw[List.getElem?_take]at a b;split at a
  . rename_i h;rw [if_pos h]at b;exact r.2 i v v' a b
  . cases a⟩
theorem RVs.drop{ρ : Inj}{l l':List Value}(r:RVs ρ l l')(n:Nat):RVs ρ (l.drop n) (l'.drop n):=
 ⟨by simp[r.1],λi v v' a b=>by
  rw[List.getElem?_drop]at a b;exact r.2 _ v v' a b⟩
theorem RVs.set{ρ : Inj}{l l':List Value}(r:RVs ρ l l')(i:Nat){v v':Value}(h:RV ρ v v'):RVs ρ (l.set i v) (l'.set i v'):=
 ⟨by simp[r.1],λj w w' a b=>by
  rw[dg]at a b;by_cases e:i=j
  . subst e;simp only[if_true]at a b;split at a
    . rename_i h1;rw [if_pos (r.1 ▸ h1)]at b;cases a;cases b;exact h
    . cases a
  . simp only[e,if_false]at a b;exact r.2 j w w' a b⟩
noncomputable def sF(v:Value):Bool:=
 Value.rec (motive_1:=λ_=>Bool) (motive_2:=λ_=>Bool) (motive_3:=λ_=>Bool)
  (λ_=>true) (λ_ _=>true) (λ_ _=>true) (λ_ _ _=>true) (λ_=>true) (λa=>Option.rec true (λ_=>false) a)
  (λa _ c=>Option.rec (Bool.rec true false (Nat.beq c inf)) (λ_=>false) a) (λr=>Option.rec true (λ_=>false) r) (λ_=>false)
  (λ_ _ _ _ _=>false) true (λ_ _ b=>b) true (λ_ b=>b) (λ_ b=>b)
  (λ_ b=>b) true (λ_ _ a b=>Bool.rec false b a) v
noncomputable def plainA(v:Array Value):Bool:=
 Value.rec_1 (motive_1:=λ_=>Bool) (motive_2:=λ_=>Bool) (motive_3:=λ_=>Bool)
  (λ_=>true) (λ_ _=>true) (λ_ _=>true) (λ_ _ _=>true) (λ_=>true) (λa=>Option.rec true (λ_=>false) a)
  (λa _ c=>Option.rec (Bool.rec true false (Nat.beq c inf)) (λ_=>false) a) (λr=>Option.rec true (λ_=>false) r) (λ_=>false)
  (λ_ _ _ _ _=>false) true (λ_ _ b=>b) true (λ_ b=>b) (λ_ b=>b)
  (λ_ b=>b) true (λ_ _ a b=>Bool.rec false b a) v
noncomputable def plainL(v:List Value):Bool:=
 Value.rec_2 (motive_1:=λ_=>Bool) (motive_2:=λ_=>Bool) (motive_3:=λ_=>Bool)
  (λ_=>true) (λ_ _=>true) (λ_ _=>true) (λ_ _ _=>true) (λ_=>true) (λa=>Option.rec true (λ_=>false) a)
  (λa _ c=>Option.rec (Bool.rec true false (Nat.beq c inf)) (λ_=>false) a) (λr=>Option.rec true (λ_=>false) r) (λ_=>false)
  (λ_ _ _ _ _=>false) true (λ_ _ b=>b) true (λ_ b=>b) (λ_ b=>b)
  (λ_ b=>b) true (λ_ _ a b=>Bool.rec false b a) v
theorem plain_all:∀v:Value,sF v=true->∀ρ,RV ρ v v:=by
 intro v
 refine Value.rec (motive_1:=λv=>sF v=true->∀ρ,RV ρ v v)
  (motive_2:=λa=>plainA a=true->∀ρ (i:Nat) (v:Value),a.toList[i]? = some v->RV ρ v v)
  (motive_3:=λl=>plainL l=true->∀ρ (i:Nat) (v:Value),l[i]? = some v->RV ρ v v)
  ?_ ?_ ?_ ?_ ?_ ?_ ?_ ?_ ?_ ?_ ?_ ?_ ?_ ?_ ?_ ?_ ?_ ?_ v
 . intro b _ ρ;exact .bool b
 . intro k n _ ρ;exact .int k n
 . intro k n _ ρ;exact .float k n
 . intro k n m _ ρ;exact .complex k n m
 . intro s _ ρ;exact .string s
 . intro a h ρ;cases a with
   | none=>exact .nilPtr
   | some a=>cases h
 . intro a l c h ρ;cases a with
   | none=>
    refine .nilSlice l c λe=>?_;subst e;have:(Bool.rec true false (Nat.beq inf inf):Bool)=true:=h;rw [show Nat.beq inf inf=true from aR inf]at this;cases this
   | some a=>cases h
 . intro r h ρ;cases r with
   | none=>exact .nilMap
   | some a=>cases h
 . intro r h;cases h
 . intro fn f c _ _ h;cases h
 . intro _ ρ;exact .nilFunc
 . intro t v ih h ρ;exact .iface (ih h ρ)
 . intro _ ρ;exact .nilIface
 . intro c ih h ρ;exact .agg rfl λi v v' a b=>by rw[a]at b;cases b;exact ih h ρ i v a
 . intro c ih h ρ;exact .tuple rfl λi v v' a b=>by rw[a]at b;cases b;exact ih h ρ i v a
 . intro l ih h ρ i v e;exact ih h ρ i v e
 . intro _ ρ i v e;simp at e
 . intro x l ihx ihl h ρ i v e;have h':(Bool.rec false (plainL l) (sF x):Bool)=true:=h
   cases hx:sF x with
   | false=>rw [hx]at h';cases h'
   | true=>
    rw[hx]at h'
    cases i with
    | zero=>simp at e;subst e;exact ihx hx ρ
    | succ i=>exact ihl h' ρ i v (by simpa using e)
theorem RV.plain{v:Value}(h:sF v=true)(ρ : Inj):RV ρ v v:=plain_all v h ρ
theorem RV.undef(ρ : Inj):RV ρ undef undef:=RV.plain rfl ρ
theorem RV.of_bool{ρ : Inj}{b:Bool}{v:Value}(h:RV ρ (.bool b) v):v = .bool b:=by cases h;rfl
theorem RV.of_int{ρ : Inj}{k:IntKind}{n:Int}{v:Value}(h:RV ρ (.int k n) v):v = .int k n:=by cases h;rfl
theorem RV.of_string{ρ : Inj}{s:ByteArray}{v:Value}(h:RV ρ (.string s) v):v = .string s:=by cases h;rfl
theorem RV.of_ptr{ρ : Inj}{a:Addr}{v:Value}(h:RV ρ (.pointer (some a)) v):∃B,ρ a.block=some B/\a.spot=none/\v = .pointer (some ⟨B.b,a.off,none⟩):=by
 cases h with
 | ptr h=>exact⟨_,h,rfl,rfl⟩
theorem RV.of_map{ρ : Inj}{r:Nat}{v:Value}(h:RV ρ (.map (some r)) v):∃B,ρ r=some B/\v = .map (some B.b):=by
 cases h with
 | map h=>exact⟨_,h,rfl⟩
theorem RV.of_agg{ρ : Inj}{c:Array Value}{v:Value}(h:RV ρ (.agg c) v):∃c',v = .agg c'/\RVs ρ c.toList c'.toList:=by
 cases h with
 | agg h k=>exact⟨_,rfl,h,k⟩
theorem RV.of_tuple{ρ : Inj}{c:Array Value}{v:Value}(h:RV ρ (.tuple c) v):∃c',v = .tuple c'/\RVs ρ c.toList c'.toList:=by
 cases h with
 | tuple h k=>exact⟨_,rfl,h,k⟩
theorem RV.mk_agg{ρ : Inj}{c c':List Value}(h:RVs ρ c c'):RV ρ (.agg ⟨c⟩) (.agg ⟨c'⟩):=.agg h.1 h.2
theorem RV.mk_tuple{ρ : Inj}{c c':List Value}(h:RVs ρ c c'):RV ρ (.tuple ⟨c⟩) (.tuple ⟨c'⟩):=.tuple h.1 h.2
theorem RV.cells{ρ : Inj}{v v':Value}(h:RV ρ v v'):RVs ρ (cellsOf v) v'.cells.toList:=by
 cases h with
 | agg h k=>exact⟨h,k⟩
 | _=>exact RVs.cons (by first|assumption|constructor <;> assumption) (RVs.nil ρ)
noncomputable def opnOK(ng N:Nat)(x:Operand):Bool:=
 match x with
 | .tmp t=>Nat.blt t N
 | .const v=>sF v
 | .global g=>Nat.blt g ng
 | .func _=>true
noncomputable def operOK(ng N:Nat)(o:Oper):Bool:=
 (o.op.operands.toList.all λx=>opnOK ng N x) && (match o.dst with
  | some d=>Nat.blt d N
  | none=>true)
noncomputable def yZ(ng N:Nat):Code->Bool
 | .region _ ops _=>ops.toList.all λo=>operOK ng N o
 | .seq a b=>yZ ng N a && yZ ng N b
 | .cond c a b=>opnOK ng N c && (yZ ng N a && yZ ng N b)
 | .block _ b=>yZ ng N b
 | .loop b=>yZ ng N b
 | .scope b=>yZ ng N b
 | .rangeFunc f _ a b=>opnOK ng N f && (yZ ng N a && yZ ng N b)
 | _=>true
noncomputable def fnOK(ng:Nat)(fn:Func):Bool:=
 (match fn.body with
  | some b=>yZ ng fn.ntmps b && fn.name != "runtime.NumGoroutine"
  | none=>true) &&
 (fn.results.toList.all fun
  | .tmp i=>Nat.blt i fn.ntmps
  | .cell i _=>Nat.blt i fn.ntmps)
noncomputable def xC(ng:Nat)(P:Program):Bool:=
 (P.funcs.toList.all λfn=>fnOK ng fn) && (P.types.toList.all λi=>match i.zero with
  | some z=>sF z
  | none=>true)
def ntm(P:Program)(f:FuncId):Nat:=((P.funcs[f]?).map (·.ntmps)).getD 0
section
variable (P:Program) (ng:Nat)
def EsR(ρ : Inj)(es es':List MapEntry):Prop:=
 es.length=es'.length/\∀(i:Nat) (e e':MapEntry),es[i]? = some e->es'[i]? = some e'->e'.key=e.key/\RV ρ e.val e'.val/\e'.born=e.born
structure TmR (ρ : Inj) (N:Nat) (t:Fr) (ts:Array Value):Prop where
 sz:ts.size=N
 tm:∀(i:Nat) (v:Value),ts[i]? = some v->RV ρ (fget t i) v
inductive ObjR (ρ : Inj) (base:Nat) (B:Bl):AObj->Obj->Prop
 | cells {c:Tr Value} {n z kd:Nat} {c':Array Value} {el:TypeId} {lo hi:Nat} (hn:n<=B.n) (hs:c'.size=B.n) (hk:kd≠1->n=B.n) (hz:(kd=1->z=zc el B.z)/\(kd=0->z≠0->z=el+1))
  (hv:∀(i:Nat) (v':Value),i<n->c'[i]? = some v'->RV ρ (Tr.get undef c i) v') (hb:kd≠2->base<=B.b)
  (hf:kd≠2->lo=0/\hi=0):ObjR ρ base B (.cells c n z kd) (.cells c' el (lo,hi))
 | map {es es':List MapEntry} {clock:Nat} (he:EsR ρ es es') (hb:base<=B.b):ObjR ρ base B (.map es clock) (.map ⟨es'⟩ clock)
 | siter0 {since last:Nat} {seen:List Nat} {s2 l2:Nat} {sn2:Array Nat} (hb:base<=B.b):ObjR ρ base B (.siter none since seen last) (.mapIter none s2 sn2 l2)
 | siter {m:Nat} {M:Bl} {since last:Nat} {seen:List Nat} (hm: ρ m=some M) (hb:base<=B.b):ObjR ρ base B (.siter (some m) since seen last) (.mapIter (some M.b) since ⟨seen⟩ last)
 | loop {l l':Loop} {t:Fr} (h1:l'.state=l.state) (h2:l'.pending=l.pending) (h3:l'.fn=l.fn) (h4:l'.params=l.params) (h5:l'.assign=l.assign) (h6:l'.body=l.body)
  (h7:∃D,ρ l.defers=some D/\l'.defers=D.b) (h8:TmR ρ (ntm P l.fn) t l'.tmps) (h9:yZ ng (ntm P l.fn) l.assign=true) (fM:yZ ng (ntm P l.fn) l.body=true)
  (h11:∀j,l.pending=some j->∀N,yZ ng N j=true) (h12:∃fn,P.funcs[l.fn]? = some fn) (hb:base<=B.b):ObjR ρ base B (.loop l t) (.loop l')
 | ready (hb:base<=B.b):ObjR ρ base B (.deferred true) (.deferred (some []))
 | taken (hb:base<=B.b):ObjR ρ base B (.deferred false) (.deferred none)
 | rows {c:Tr Value} {n:Nat} {c':Array Value} {el:TypeId} {fr:Nat×Nat} (hn:n=c'.size) (hv:∀(i:Nat) (v':Value),c'[i]? = some v'->isU (Tr.get undef c i)=false->RV ρ (Tr.get undef c i) v') :
  ObjR ρ base B (.rows c n) (.cells c' el fr)
theorem EsR.mono{ρ ρ':Inj}(h: ρ.le ρ'){es es':List MapEntry}(r:EsR ρ es es'):EsR ρ' es es':=
 ⟨r.1,λi e e' a b=>let ⟨h1,h2,h3⟩:=r.2 i e e' a b;⟨h1,h2.mono h,h3⟩⟩
theorem TmR.le{ρ : Inj}{N:Nat}{t:Fr}{ts:Array Value}(r:TmR ρ N t ts):N<=ts.size:=Nat.le_of_eq r.sz.symm
theorem TmR.mono{ρ ρ':Inj}(h: ρ.le ρ'){N:Nat}{t:Fr}{ts:Array Value}(r:TmR ρ N t ts):TmR ρ' N t ts:=⟨r.sz,λi v e=>(r.tm i v e).mono h⟩
variable {P ng}
theorem ObjR.mono{ρ ρ':Inj}(h: ρ.le ρ'){base:Nat}{B:Bl}{o:AObj}{o':Obj}(r:ObjR P ng ρ base B o o'):ObjR P ng ρ' base B o o':=by
 cases r with
 | cells hn hs hk hz hv hb hf=>exact .cells hn hs hk hz (λi v' a b=>(hv i v' a b).mono h) hb hf
 | map he hb=>exact .map (he.mono h) hb
 | siter0 hb=>exact .siter0 hb
 | siter hm hb=>exact .siter (h _ _ hm) hb
 | loop h1 h2 h3 h4 h5 h6 h7 h8 h9 fM h11 h12 hb=>
  obtain⟨D,e1,e2⟩:=h7;exact .loop h1 h2 h3 h4 h5 h6 ⟨D,h _ _ e1,e2⟩ (h8.mono h) h9 fM h11 h12 hb
 | ready hb=>exact .ready hb
 | taken hb=>exact .taken hb
 | rows hn hv=>exact .rows hn λi v' a b=>(hv i v' a b).mono h
variable (P ng)
structure HeapR (ρ : Inj) (base:Nat) (w0:World) (h:zB) (n:Nat) (wd:World):Prop where
 dom:∀b,n<=b->ρ b=none
 obj:∀b B,ρ b=some B->zG h b≠.dead->∃o,wd.heap[B.b]? = some o/\ObjR P ng ρ base B (zG h b) o
 inj:∀a b A B,ρ a=some A->ρ b=some B->zG h a≠.dead->zG h b≠.dead->A.b=B.b->a=b
 below:Below base w0 wd
 size:base<=wd.heap.size
 glob:∀g,g<ng->∃B,ρ g=some B/\B.b=g
 ngn:ng<=n
structure Grow (ρ : Inj) (h:zB) (n:Nat) (wd:World) (ρ':Inj) (h':zB) (n':Nat) (wd':World):Prop where
 nn:n<=n'
 old:∀b,b<n->ρ' b = ρ b
 new:∀b B,n<=b->ρ' b=some B->wd.heap.size<=B.b\/∃a A,a<n/\ρ a=some A/\A.b=B.b/\zG h a≠.dead
 keep:∀c,c<wd.heap.size->(∀b B,ρ b=some B->zG h b≠.dead->B.b≠c)->wd'.heap[c]? = wd.heap[c]?
 size:wd.heap.size<=wd'.heap.size
 dead:∀b,b<n->zG h b = .dead->zG h' b = .dead
 tape:wd'.tape=wd.tape
theorem Grow.refl(ρ : Inj)(h:zB)(n:Nat)(wd:World)(hd:∀b,n<=b->ρ b=none):Grow ρ h n wd ρ h n wd:=
 ⟨ad _,λ_ _=>rfl,λb B hb e=>(by rw[hd b hb]at e;cases e),λ_ _ _=>rfl,ad _,λ_ _ e=>e,rfl⟩
theorem Grow.trans{ρ ρ1 ρ2:Inj}{h h1 h2:zB}{n n1 n2:Nat}{w w1 w2:World}(a:Grow ρ h n w ρ1 h1 n1 w1)(b:Grow ρ1 h1 n1 w1 ρ2 h2 n2 w2) :
 Grow ρ h n w ρ2 h2 n2 w2 where
 nn:=aW a.nn b.nn
 old x hx:=(b.old x (aG hx a.nn)).trans (a.old x hx)
 new x X hx e:=by
  rcases aS x n1 with gd|gd
  . rw[b.old x gd]at e;exact a.new x X hx e
  . rcases b.new x X gd e with h2'|⟨y,Y,hy,ey,eb,hl⟩
    . exact .inl (aW a.size h2')
    . rcases aS y n with h3|h3
      . refine .inr ⟨y,Y,h3,by rw[<- a.old y h3];exact ey,eb,λhd=>hl (a.dead y h3 hd)⟩
      . rcases a.new y Y h3 ey with h4|⟨z,Z,hz,ez,ezb,hlz⟩
        . exact .inl (eb ▸ h4)
        . exact .inr ⟨z,Z,hz,ez,ezb.trans eb,hlz⟩
 keep c hc hn:=by
  rw[b.keep c (aG hc a.size) ?_,a.keep c hc hn];intro y Y ey hl eb;rcases aS y n with h3|h3
  . exact hn y Y (by rw[<- a.old y h3];exact ey) (λhd=>hl (a.dead y h3 hd)) eb
  . rcases a.new y Y h3 ey with h4|⟨z,Z,hz,ez,ezb,hlz⟩
    . omega
    . exact hn z Z ez hlz (ezb.trans eb)
 size:=aW a.size b.size
 dead x hx e:=b.dead x (aG hx a.nn) (a.dead x hx e)
 tape:=b.tape.trans a.tape
theorem Grow.le{ρ ρ':Inj}{h h':zB}{n n':Nat}{w w':World}(g:Grow ρ h n w ρ' h' n' w')(hd:∀b,n<=b->ρ b=none): ρ.le ρ':=by
 intro b B e;rcases aS b n with h1|h1
 . rw[g.old b h1];exact e
 . rw[hd b h1]at e;cases e
def Inj.put(ρ : Inj)(n:Nat)(B:Bl):Inj:=λb=>if b=n then some B else ρ b
theorem Inj.le_put{ρ : Inj}{n:Nat}(B:Bl)(h: ρ n=none): ρ.le (ρ.put n B):=by
 intro b C e;by_cases hb:b=n
 . subst hb;rw [h]at e;cases e
 . simp[Inj.put,hb,e]
theorem zN(h:zB)(o:AObj)(i j:Nat):zG (h.set .dead o i) j=if i=j then o else zG h j:=Tr.get_set_if _ _ _ _ _
variable {P ng}
theorem HeapR.alloc{ρ : Inj}{base:Nat}{w0:World}{h:zB}{n:Nat}{wd:World}(r:HeapR P ng ρ base w0 h n wd)(o:AObj)(o':Obj)(B:Bl)(hB:B.b=wd.heap.size)
(hr:ObjR P ng (ρ.put n B) base B o o') :
 HeapR P ng (ρ.put n B) base w0 (h.set .dead o n) (n+1) { wd with heap:=wd.heap.push o' }/\
  Grow ρ h n wd (ρ.put n B) (h.set .dead o n) (n+1) { wd with heap:=wd.heap.push o' }:=by
 have hn: ρ n=none:=r.dom n (ad _);have hle:=Inj.le_put B hn;refine⟨⟨?_,?_,?_,?_,?_,?_,?_⟩,⟨by omega,?_,?_,?_,?_,?_,rfl⟩⟩
 . intro b hb;have:b≠n:=by omega
   simp[Inj.put,this];exact r.dom b qJ 
 . intro b C e hl;by_cases hb:b=n
   . subst hb;simp [Inj.put]at e;subst e;refine⟨o',by simp[hB],?_⟩;rw [zN];simpa using hr
   . have e': ρ b=some C:=by simpa [Inj.put,hb] using e
     rw[zN,if_neg (λx=>hb x.symm)]at hl ⊢;obtain⟨ob,h1,h2⟩:=r.obj b C e' hl;refine⟨ob,?_,h2.mono hle⟩
     have eD:C.b<wd.heap.size:=by
      rcases aS C.b wd.heap.size with h3|h3
      . exact h3
      . rw[bG h3]at h1;cases h1
     show(wd.heap.push o')[C.b]? = _;rw [cD,if_neg qJ];exact h1
 . intro a b A C ea eb ha hb gk
   have lt:∀x X,x≠n->(ρ.put n B) x=some X->zG (h.set .dead o n) x≠.dead->X.b<wd.heap.size:=by
    intro x X hx ex hlx;have ex': ρ x=some X:=by simpa [Inj.put,hx] using ex
    rw[zN,if_neg (λy=>hx y.symm)]at hlx;obtain⟨ob,h1,_⟩:=r.obj x X ex' hlx;rcases aS X.b wd.heap.size with h3|h3
    . exact h3
    . rw[bG h3]at h1;cases h1
   by_cases h1:a=n
   . by_cases h2:b=n
     . rw[h1,h2]
     . have:=lt b C h2 eb hb;subst h1;simp [Inj.put]at ea;subst ea;omega
   . by_cases h2:b=n
     . have:=lt a A h1 ea ha;subst h2;simp [Inj.put]at eb;subst eb;omega
     . rw[zN,if_neg (λy=>h1 y.symm)]at ha;rw [zN,if_neg (λy=>h2 y.symm)]at hb;exact r.inj a b A C (by simpa [Inj.put,h1] using ea) (by simpa [Inj.put,h2] using eb) ha hb gk
 . exact r.below.trans ⟨rfl,rfl,rfl,by simp,λk hk=>by
    have:=r.size;show(wd.heap.push o')[k]? = _;rw [cD,if_neg qJ]⟩
 . have:=r.size;simp;omega
 . intro g hg;obtain⟨G,e1,e2⟩:=r.glob g hg;exact⟨G,hle _ _ e1,e2⟩
 . have:=r.ngn;omega
 . intro b hb;have:b≠n:=by omega
   simp[Inj.put,this]
 . intro b C hb e;by_cases h1:b=n
   . subst h1;simp [Inj.put]at e;subst e;exact .inl qJ 
   . have e': ρ b=some C:=by simpa [Inj.put,h1] using e
     rw[r.dom b qJ]at e';cases e'
 . intro c hc _;show(wd.heap.push o')[c]? = _;rw [cD,if_neg qJ]
 . simp
 . intro b hb e;rw [zN,if_neg qJ];exact e
theorem HeapR.turn{ρ : Inj}{base:Nat}{w0:World}{h:zB}{n:Nat}{wd:World}(r:HeapR P ng ρ base w0 h n wd){b:Nat}{B:Bl}(hb: ρ b=some B)(hl:zG h b≠.dead)
(o:AObj)(o':Obj)(wd':World)(hbase:base<=B.b)(hr:ObjR P ng ρ base B o o')(hw:wd'.heap[B.b]? = some o')(hsz:wd'.heap.size=wd.heap.size)
(hk:∀c,c≠B.b->wd'.heap[c]? = wd.heap[c]?)(h1:wd'.os=wd.os)(h2:wd'.tape=wd.tape)(h3:wd'.output=wd.output) :
 HeapR P ng ρ base w0 (h.set .dead o b) n wd'/\Grow ρ h n wd ρ (h.set .dead o b) n wd':=by
 refine⟨⟨r.dom,?_,?_,?_,by rw[hsz];exact r.size,r.glob,r.ngn⟩,⟨ad _,λ_ _=>rfl,?_,?_,by omega,?_,h2⟩⟩
 . intro x X e hlx;rw [zN]at hlx ⊢;by_cases hx:b=x
   . subst hx;rw [hb]at e;cases e;simp only[if_true];exact⟨o',hw,hr⟩
   . rw[if_neg hx]at hlx ⊢;obtain⟨ob,e1,e2⟩:=r.obj x X e hlx;refine⟨ob,?_,e2⟩;rw [hk _ (λe3=>hx (r.inj b x B X hb e hl hlx e3.symm)),e1]
 . intro x y X Y ex ey hx hy hxy;rw [zN]at hx hy;have lx:zG h x≠.dead:=by by_cases e:b=x;(· subst e;exact hl);(· rwa [if_neg e]at hx)
   have ly:zG h y≠.dead:=by by_cases e:b=y;(· subst e;exact hl);(· rwa [if_neg e]at hy)
   exact r.inj x y X Y ex ey lx ly hxy
 . exact r.below.trans ⟨h1,h2,h3,by omega,λk hk'=>hk k qJ⟩
 . intro x X hx e;rw [r.dom x hx]at e;cases e
 . intro c _ hn;exact hk c λe=>hn b B hb hl e.symm
 . intro x hx e;rw [zN];by_cases h4:b=x
   . subst h4;exact absurd e hl
   . rw[if_neg h4];exact e
theorem HeapR.lt{ρ : Inj}{base:Nat}{w0:World}{h:zB}{n:Nat}{wd:World}(r:HeapR P ng ρ base w0 h n wd){b:Nat}{B:Bl}(hb: ρ b=some B)(hl:zG h b≠.dead):B.b<wd.heap.size:=by
 obtain⟨o,e,_⟩:=r.obj b B hb hl;rcases aS B.b wd.heap.size with h3|h3
 . exact h3
 . rw[bG h3]at e;cases e
end
end
end Go.Ex
