/- What the law leans on: an executor of the model that is sound, deduction over it, and the walks through the code (part 11 of 24). Conditions: those that each theorem states. -/
import Derived.Test.YtdipdkkpgjdnkaaGreatDoorVirLinesx10

set_option linter.unusedVariables false
set_option linter.unusedSimpArgs false
namespace Go.Ex
theorem isSo_bool(b:Bool):xE (b=true)=b:=by cases h:xE (b=true) with
  | true=>exact(isSo_iff.1 h).symm
  | false => cases b with
    | true=>rw [isSo_iff.2 rfl]at h;cases h
    | false=>rfl
 class Stp (A:Prop) (B:outParam Prop):Prop where
  ok:B→A
theorem st{A B:Prop}[s:Stp A B](h:B):A:=s.ok h
def Ob{α : Type}(A: α→Prop)(K: α→Prop):Prop:=∃a,A a∧K a
def Ob1(A K:Prop):Prop:=A∧K
def Wh{α : Type}(x y: α):Prop:=x=y
def Ch(z:Bool)(A B:Prop):Prop:=(z=true→A)∧(z=false→B)
def Ev(l:List (Nat×Value))(t:Fr)(x:Operand)(v:Value):Prop:=evb l t x=v
def Evs(l:List (Nat×Value))(t:Fr):List Operand→List Value→Prop
 | [],vs=>vs=[]
 | x::r,vs=>∃v vr,vs=v::vr∧Ev l t x v∧Evs l t r vr
theorem Evs.eq{l:List (Nat×Value)}{t:Fr}:∀{xs:List Operand} {vs:List Value},Evs l t xs vs→evs l t xs=vs:=by
 intro xs
 induction xs with
 | nil=>intro vs h;exact h.symm
 | cons x r ih=>
  rintro vs ⟨v,vr,rfl,h1,h2⟩
  unfold evs;rw [ih h2,show evb l t x=v from h1]
def Gv(all:Array Oper)(l:List (Nat×Value))(t:Fr)(g:Nat)(b z:Bool):Prop:=∃i,dstOf all g=some i∧(lk l t i = .bool z∨(lk l t i=undef∧z = !b))
section
variable {P:Program} {ng:Nat}
def OpB0(P:Program)(ng:Nat)(op:Op)(cx:Cx)(t:Fr)(w:W)(K:W→Value→Prop)(Kp:zJ→W→Prop):Prop:=
 match xB op P t w.h with
 | some v=>K w v
 | none=>eff op P (loS P ng) cx t w (fun w v=>xE (K w v)) (fun c w=>xE (Kp c w))=true
def OpB(P:Program)(ng:Nat)(op:Op)(cx:Cx)(t:Fr)(w:W)(K:W→Value→Prop)(Kp:zJ→W→Prop):Prop:=OpB0 P ng op cx t w K Kp∧True
theorem opB_q{op:Op}{cx:Cx}{t:Fr}{w:W}{K:W→Value→Prop}{Kp:zJ→W→Prop}{v:Value}(h:xB op P t w.h=some v)(k:K w v):OpB P ng op cx t w K Kp:=by refine⟨?_,trivial⟩;unfold OpB0;rw [h];exact k
def opQ(P:Program)(ng:Nat)(all:Array Oper)(d:Option Nat)(r:List Oper)(cx:Cx)(l:List (Nat×Value))(t:Fr)(Q:QX):W→Value→Prop:=fun w v=>match d with
 | some i=>WO P ng all r cx (FA ((i,v)::l) t) w Q
 | none=>WO P ng all r cx (FA l t) w Q
def opP(l:List (Nat×Value))(t:Fr)(Q:QX):zJ→W→Prop:=fun c w=>Q (.panic c) (FA l t) w
theorem wo_cons{all:Array Oper}{op:Op}{d:Option Nat}{ty:TypeId}{pos:String}{af:Array Edge}{r:List Oper}{cx:Cx}{l:List (Nat×Value)}{t:Fr}{w:W}{Q:QX}
(h:OpB P ng op cx (FA l t) w (opQ P ng all d r cx l t Q) (opP l t Q)):WO P ng all (⟨d,op,ty,pos,af,none⟩::r) cx (FA l t) w Q:=by
 have hk:(fun w v=>xE (opQ P ng all d r cx l t Q w v))=fun w v=>putT (FA l t) d v fun t=>xops P (loS P ng) cx all r t w (soK Q):=by
  funext w v
  cases d with
  | none=>exact isSo_bool _
  | some i=>rw [putT_some,fset_FA];exact isSo_bool _
 replace h:=h.1;unfold OpB0 at h
 cases hq:xB op P (FA l t) w.h with
 | some v=>
  rw[hq]at h;refine wo_quiet hq ?_;rw [← congrFun (congrFun hk w) v];exact isSo_iff.2 h
 | none=>
  rw[hq]at h;refine wo_eff hq ?_;rw [← hk];exact h
theorem Gv.wants{all:Array Oper}{l:List (Nat×Value)}{t:Fr}{g:Nat}{z b:Bool}(h:Gv all l t g b z):wanted all (FA l t) (some (g,b))=(z == b):=by
 obtain⟨i,h1,h2⟩:=h;show(Option.rec false (fun d=>onBool (fget (FA l t) d) (fun z=>Bool.rec (Bool.rec true false b) b z) false) (dstOf all g):Bool)=_;rw [h1];show onBool (fget (FA l t) i) _ false=_;rw [fget_FA];rcases h2 with h2|⟨h2,rfl⟩
 · rw[h2];cases z <;> cases b <;> rfl
 · rw[h2];cases b <;> rfl
section
variable {cx:Cx} {t:Fr} {l:List (Nat×Value)} {w:W} {Q:QX}
instance {a b:Code}:Stp (WC P ng (.seq a b) cx t w Q) (WC P ng a cx t w (seqQ P ng b cx Q)):=⟨wc_seq⟩
instance {id:Nat} {b:Code}:Stp (WC P ng (.block id b) cx t w Q) (WC P ng b cx t w (blkQ id Q)):=⟨wc_block⟩
instance {b:Code}:Stp (WC P ng (.scope b) cx t w Q) (WC P ng b cx t w (scpQ Q)):=⟨wc_scope⟩
instance:Stp (WC P ng .skip cx t w Q) (Q .normal t w):=⟨wc_skip⟩
instance {i:Nat}:Stp (WC P ng (.label i) cx t w Q) (Q .normal t w):=⟨wc_label⟩
instance [Fit P ng] {i:Nat}:Stp (WC P ng (.exit i) cx t w Q) (Q (.exit i) t w):=⟨wc_exit⟩
instance [Fit P ng]:Stp (WC P ng .ret cx t w Q) (Q .ret t w):=⟨wc_ret⟩
instance [Fit P ng] {id:Nat} {ops:List Oper}:Stp (WC P ng (.region id ops.toArray false) cx t w Q) (WO P ng ops.toArray ops cx t w Q):=⟨fun h=>wc_region (by simpa using h)⟩
instance {c:Operand} {a b:Code}:Stp (WC P ng (.cond c a b) cx (FA l t) w Q) (Ob (fun z=>Ev l t c (.bool z)) fun z=>Ch z (WC P ng a cx (FA l t) w Q) (WC P ng b cx (FA l t) w Q)):=
 ⟨fun⟨z,h1,h2,h3⟩=>wc_cond (q:=z) ((yK l t c).trans h1) (by cases z with
  | true=>exact h2 rfl
  | false=>exact h3 rfl)⟩
instance {b:Code}:Stp (seqQ P ng b cx Q .normal t w) (WC P ng b cx t w Q):=⟨id⟩
instance {b:Code} {i:Nat}:Stp (seqQ P ng b cx Q (.exit i) t w) (Q (.exit i) t w):=⟨id⟩
instance {b:Code}:Stp (seqQ P ng b cx Q .ret t w) (Q .ret t w):=⟨id⟩
instance {b:Code} {c:zJ}:Stp (seqQ P ng b cx Q (.panic c) t w) (Q (.panic c) t w):=⟨id⟩
instance {i:Nat}:Stp (blkQ i Q .normal t w) (Q .normal t w):=⟨id⟩
instance {i j:Nat}:Stp (blkQ i Q (.exit j) t w) (Ob (Wh (Nat.beq j i)) fun z=>Ch z (Q .normal t w) (Q (.exit j) t w)):=
 ⟨fun⟨z,h1,h2,h3⟩=>by
  show bif Nat.beq j i then Q .normal t w else Q (.exit j) t w;rw [show Nat.beq j i=z from h1]
  cases z with
  | true=>exact h2 rfl
  | false=>exact h3 rfl⟩
instance {i:Nat}:Stp (blkQ i Q .ret t w) (Q .ret t w):=⟨id⟩
instance {i:Nat} {c:zJ}:Stp (blkQ i Q (.panic c) t w) (Q (.panic c) t w):=⟨id⟩
instance:Stp (scpQ Q .normal t w) (Q .normal t w):=⟨id⟩
instance {i:Nat}:Stp (scpQ Q (.exit i) t w) (Q (.exit i) t w):=⟨id⟩
instance:Stp (scpQ Q .ret t w) (Q .ret t w):=⟨id⟩
instance {c:zJ}:Stp (scpQ Q (.panic c) t w) (Q (.panic c) t w):=⟨id⟩
instance {all:Array Oper}:Stp (WO P ng all [] cx t w Q) (Q .normal t w):=⟨wo_nil⟩
instance {all:Array Oper} {op:Op} {d:Option Nat} {ty:TypeId} {pos:String} {af:Array Edge} {r:List Oper}:Stp (WO P ng all (⟨d,op,ty,pos,af,none⟩::r) cx (FA l t) w Q) (OpB P ng op cx (FA l t) w (opQ P ng all d r cx l t Q) (opP l t Q)):=⟨wo_cons⟩
instance {all:Array Oper} {op:Op} {d:Option Nat} {ty:TypeId} {pos:String} {af:Array Edge} {g:Nat} {r:List Oper}:Stp (WO P ng all (⟨d,op,ty,pos,af,some (g,true)⟩::r) cx (FA l t) w Q)
 (Ob (fun z=>Gv all l t g true z) fun z=>Ch z (OpB P ng op cx (FA l t) w (opQ P ng all d r cx l t Q) (opP l t Q)) (opQ P ng all d r cx l t Q w undef)):=
 ⟨fun⟨z,h1,h2,h3⟩=>by
  cases z with
  | true=>exact wo_on (h1.wants) (wo_cons (h2 rfl))
  | false=>
   refine wo_off (h1.wants) ?_;have h:=h3 rfl
   cases d with
   | none=>exact h
   | some i=>rw [putT_some,fset_FA];exact h⟩
instance {all:Array Oper} {op:Op} {d:Option Nat} {ty:TypeId} {pos:String} {af:Array Edge} {g:Nat} {r:List Oper}:Stp (WO P ng all (⟨d,op,ty,pos,af,some (g,false)⟩::r) cx (FA l t) w Q)
 (Ob (fun z=>Gv all l t g false z) fun z=>Ch z (opQ P ng all d r cx l t Q w undef) (OpB P ng op cx (FA l t) w (opQ P ng all d r cx l t Q) (opP l t Q))):=
 ⟨fun⟨z,h1,h2,h3⟩=>by
  cases z with
  | false=>exact wo_on (h1.wants) (wo_cons (h3 rfl))
  | true=>
   refine wo_off (h1.wants) ?_;have h:=h2 rfl
   cases d with
   | none=>exact h
   | some i=>rw [putT_some,fset_FA];exact h⟩
instance {all:Array Oper} {i:Nat} {r:List Oper} {v:Value}:Stp (opQ P ng all (some i) r cx l t Q w v) (WO P ng all r cx (FA ((i,v)::l) t) w Q):=⟨id⟩
instance {all:Array Oper} {r:List Oper} {v:Value}:Stp (opQ P ng all none r cx l t Q w v) (WO P ng all r cx (FA l t) w Q):=⟨id⟩
instance {c:zJ}:Stp (opP l t Q c w) (Q (.panic c) (FA l t) w):=⟨id⟩
end
end
end Go.Ex
namespace Go.Ex
abbrev str(l:List UInt8):Value:=.string ⟨⟨l⟩⟩
abbrev ptr(b off:Nat):Value:=.pointer (some ⟨b,off,none⟩)
abbrev I64(x:Int):Value:=.int .i64 x
 class ShC (P:Program) (ty:Nat) (s:outParam Sh):Prop where ok:yM P ty=s
 class OfC (P:Program) (ty f:Nat) (o:outParam Nat):Prop where ok:offOf P ty f=some o
 class IxC (P:Program) (ty:Nat) (s:outParam Ix):Prop where ok:ixOf P ty=s
 class UnC (P:Program) (ty:Nat) (d:outParam TypeDesc):Prop where ok:und P ty=some d
def plainT:TypeDesc→Bool
 | .interface _=>false
 | _=>true
noncomputable def plB(P:Program)(ty:Nat):Bool:=match und P ty with
  | some d=>plainT d
  | none=>false
 class PlC (P:Program) (ty:Nat):Prop where ok:plB P ty=true
theorem PlC.get{P:Program}{ty:Nat}(s:PlC P ty):∃d,und P ty=some d∧plainT d=true:=by
  have h:=s.ok;unfold plB at h
  cases e:und P ty with
  | none=>rw [e]at h;cases h
  | some d=>rw [e]at h;exact⟨d,rfl,h⟩
 class IkC (P:Program) (ty:Nat) (k:outParam IntKind):Prop where ok:und P ty=some (.int k)
 class ZeC (P:Program) (el:Nat) (cs:outParam (List Value)):Prop where ok:∃z,yT P el=some z∧cellsOf z=cs
noncomputable def hal(h:zB)(n:Nat)(o:AObj):zB:=h.set .dead o n
noncomputable def hst(h:zB)(b off:Nat)(vs:List Value):zB:=h.set .dead (stC (zF h b) off vs) b
theorem yY(h:zB)(n:Nat)(o:AObj)(b:Nat):zF (hal h n o) b=if n=b then o else zF h b:=zK _ _ _ _
theorem yL(h:zB)(c off:Nat)(vs:List Value)(b:Nat):zF (hst h c off vs) b=if c=b then stC (zF h c) off vs else zF h b:=zK _ _ _ _
def Cel(h:zB)(b z kd:Nat)(vs:List Value):Prop:=yF (zF h b)=some (vs.length,z,kd)∧∀i,zD h b i=vs[i]?
def spl(vs:List Value):Nat→List Value→List Value
 | _,[]=>vs
 | off,x::r=>spl (vs.set off x) (off+1) r
theorem yG(ws:List Value):∀(vs:List Value) (off:Nat),(spl vs off ws).length=vs.length:=by
 induction ws with
 | nil=>intro vs off;rfl
 | cons x r ih=>intro vs off;unfold spl;rw [ih,List.length_set]
theorem spl_get(ws:List Value):∀(vs:List Value) (off i:Nat),off+ws.length≤vs.length→(spl vs off ws)[i]? = if off≤i∧i<off+ws.length then ws[i - off]? else vs[i]? :=by
 induction ws with
 | nil=>intro vs off i _;rw [if_neg (fun h=>absurd h.2 (Nat.not_lt.2 h.1))];rfl
 | cons x r ih=>
  intro vs off i h;rw [List.length_cons]at h;unfold spl;rw [ih _ _ _ (by rw[List.length_set];omega),List.length_cons];by_cases h1:off+1≤i∧i<off+1+r.length
  · rw[if_pos h1,if_pos (by omega)];have:i - off=(i - (off+1))+1:=by omega
    rw[this,List.getElem?_cons_succ]
  · rw[if_neg h1];by_cases h2:off=i
    · subst h2;rw [if_pos (by omega),Nat.sub_self,List.getElem?_set_self (by omega),List.getElem?_cons_zero]
    · rw[if_neg (by omega),List.getElem?_set_ne h2]
theorem cel_hal(h:zB)(n z kd:Nat)(vs:List Value):Cel (hal h n (mkC vs z kd)) n z kd vs:=by
 refine⟨?_,fun i=>?_⟩
 · rw[yY,if_pos rfl];exact wZ _ _ _
 · unfold zD;rw [yY,if_pos rfl];exact wK _ _ _ _
theorem Cel.hal{h:zB}{b z kd:Nat}{vs:List Value}(c:Cel h b z kd vs){n:Nat}{o:AObj}(hb:b≠n):Cel (hal h n o) b z kd vs:=by
 unfold Cel zD;rw [yY,if_neg fun e=>hb e.symm];exact c
theorem Cel.hst{h:zB}{b z kd:Nat}{vs:List Value}(c:Cel h b z kd vs){a off:Nat}{ws:List Value}(hb:b≠a):Cel (hst h a off ws) b z kd vs:=by
 unfold Cel zD;rw [yL,if_neg fun e=>hb e.symm];exact c
theorem Cel.put{h:zB}{b z kd:Nat}{vs:List Value}(c:Cel h b z kd vs){off:Nat}{ws:List Value}(ho:off+ws.length≤vs.length)(hk:kd≠3):Cel (Go.Ex.hst h b off ws) b z kd (spl vs off ws):=by
 obtain⟨c1,c2⟩:=c;refine⟨?_,fun i=>?_⟩
 · rw[yL,if_pos rfl,infoOf_stC,yG];exact c1
 · unfold zD;rw [yL,if_pos rfl,cellOf_stC _ _ _ c1 ho hk,spl_get _ _ _ _ ho];by_cases h1:off≤i∧i<off+ws.length
   · rw[if_pos h1,if_pos h1]
   · rw[if_neg h1,if_neg h1];exact c2 i
def Tch(S:List Nat)(h:zB)(n:Nat)(h':zB)(n':Nat):Prop:=n≤n'∧∀b,b<n→b∉S→zF h' b=zF h b
theorem Tch.refl(S:List Nat)(h:zB)(n:Nat):Tch S h n h n:=⟨Nat.le_refl _,fun _ _ _=>rfl⟩
theorem Cel.tch{S:List Nat}{h h':zB}{n n' b z kd:Nat}{vs:List Value}(c:Cel h b z kd vs)(t:Tch S h n h' n')(hb:b<n)(hS:b∉S):Cel h' b z kd vs:=by
 unfold Cel zD;rw [t.2 b hb hS];exact c
theorem Cel.tcm{S:List Nat}{h h':zB}{n n' b z kd:Nat}{vs:List Value}(t:Tch S h n h' n')(c:Cel h b z kd vs)(hb:b<n)(hS:b∉S):Cel h' b z kd vs:=c.tch t hb hS
def Rd(h:zB)(b:Nat):Nat→Nat→List Value→Prop
 | _,0,vs=>vs=[]
 | o,k+1,vs=>∃v r,vs=v::r∧zD h b o=some v∧Rd h b (o+1) k r
theorem Rd.row{h:zB}{b:Nat}:∀{k o:Nat} {vs:List Value},Rd h b o k vs→vs.length=k∧rowAt h b o vs:=by
 intro k
 induction k with
 | zero=>intro o vs h;subst h;exact⟨rfl,rowAt.nil _ _ _⟩
 | succ k ih=>
  rintro o vs ⟨v,r,rfl,h1,h2⟩
  obtain⟨h3,h4⟩:=ih h2;exact⟨by rw[List.length_cons,h3],rowAt.cons h1 h4⟩
def Ld1(h:zB)(p v:Value):Prop:=∃b o,p = .pointer (some ⟨b,o,none⟩)∧zD h b o=some v
def LdN(h:zB)(p:Value)(k:Nat)(vs:List Value):Prop:=∃b o,p = .pointer (some ⟨b,o,none⟩)∧0<k∧Rd h b o k vs
def StP(h:zB)(p:Value)(ws:List Value)(h':zB):Prop:=∃b o m z kd,p = .pointer (some ⟨b,o,none⟩)∧yF (zF h b)=some (m,z,kd)∧(kd≠2∧kd≠3)∧o+ws.length≤m∧(∀x∈ws,x.oneCell'=true)∧h'=hst h b o ws
def One:List Value→Prop
 | []=>True
 | x::r=>x.oneCell'=true∧One r
theorem One.all:∀{l:List Value},One l→∀x∈l,x.oneCell'=true:=by
 intro l
 induction l with
 | nil=>intro _ x hx;cases hx
 | cons a r ih=>
  rintro ⟨h1,h2⟩ x hx
  rcases List.mem_cons.1 hx with rfl|hx
  · exact h1
  · exact ih h2 x hx
def Bx(v:Value)(cs:List Value):Prop:=cellsOf v=cs∧One cs
theorem StP.of{h:zB}{b o z kd:Nat}{vs ws:List Value}(c:Cel h b z kd vs)(hk:kd≠2∧kd≠3)(ho:o+ws.length≤vs.length)(h1:One ws):StP h (.pointer (some ⟨b,o,none⟩)) ws (hst h b o ws):=
 ⟨b,o,_,_,_,rfl,c.1,hk,ho,h1.all,rfl⟩
def StP'(h:zB)(p:Value)(ws:List Value)(k:Nat)(h':zB):Prop:=StP h p ws h'∧ws.length=k
section
variable {P:Program} {ng:Nat} {cx:Cx} {l:List (Nat×Value)} {t:Fr} {d:List Deferred} {u:Option zJ} {h:zB} {n:Nat} {K:W→Value→Prop} {Kp:zJ→W→Prop}
theorem vN{c:Tr Value}{i:Nat}{l:List Value}{k:Tr Value→Bool}(h1:∀v∈l,v.oneCell'=true)(hk:k (Tr.ofListFrom undef c i l)=true):wG c i l k=true:=by
 induction l generalizing c i with
 | nil=>exact hk
 | cons v r ih=>
  show forceOne v (fun v=>c.setK undef v i fun c'=>wG c' (Nat.succ i) r k)=true;have hv:=h1 v (List.mem_cons_self ..);have e:∀k:Value→Bool,forceOne v k=k v:=fun k=>by cases v <;> first|rfl|(cases hv;done)
  rw[e,Tr.setK_eq];exact ih (fun x hx=>h1 x (List.mem_cons_of_mem _ hx)) hk
theorem xJ(h:zB)(n:Nat)(o:AObj)(k:zB→Nat→Bool):zV h n o k=k (hal h n o) (n+1):=by
 unfold zV;rw [Tr.setK_eq];rfl
theorem storeAt_tt{b off m z kd:Nat}{vs:List Value}{h:zB}{k:zB→Bool}(hi:yF (zF h b)=some (m,z,kd))(hk:kd≠2∧kd≠3)(hle:off+vs.length≤m)(h1:∀x∈vs,x.oneCell'=true)(hK:k (hst h b off vs)=true):storeAt h b off vs k=true:=by
 unfold storeAt;have hK':k (h.set .dead (stC (zF h b) off vs) b)=true:=hK;cases ho:zF h b <;> rw[ho]at hi <;> first|(cases hi;done)|(exact absurd (kd_of hi).symm hk.2)|skip
 rename_i c n' z' kd';rw [ho]at hK';injection hi with hi
 injection hi with e1 hi
 injection hi with e2 e3
 subst e1 e2 e3;show(Bool.rec (Bool.rec false (wG c off vs fun c'=>h.setK .dead (.cells c' n' z' kd') b k) (Nat.ble (Nat.add off vs.length) n')) false (Nat.beq kd' 2):Bool)=true
 have e4:Nat.beq kd' 2=false:=by
  cases e:Nat.beq kd' 2 with
  | false=>rfl
  | true=>exact absurd (zG e) hk.1
 rw[e4,wQ (show Nat.add off vs.length≤n' from hle)];refine vN h1 ?_;rw [Tr.setK_eq];exact hK'
theorem q_of{op:Op}{w:W}{v:Value}(hq:xB op P (FA l t) w.h=some v)(k:K w v):OpB P ng op cx (FA l t) w K Kp:=opB_q hq k
instance {x:Operand} {w:W}:Stp (OpB P ng (.move x) cx (FA l t) w K Kp) (Ob (Ev l t x) (K w)):=⟨fun⟨v,h1,h2⟩=>q_of (show xA (ev (FA l t) x) some=_ by rw[yK,yI,show evb l t x=v from h1]) h2⟩
instance {x:Operand} {w:W}:Stp (OpB P ng (.assign x) cx (FA l t) w K Kp) (Ob (Ev l t x) (K w)):=⟨fun⟨v,h1,h2⟩=>q_of (show xA (ev (FA l t) x) some=_ by rw[yK,yI,show evb l t x=v from h1]) h2⟩
instance {c x y:Operand} {w:W}:Stp (OpB P ng (.pick c x y) cx (FA l t) w K Kp) (Ob (fun z=>Ev l t c (.bool z)) fun z=>Ch z (Ob (Ev l t x) (K w)) (Ob (Ev l t y) (K w))):=
 ⟨fun⟨z,h1,h2,h3⟩=>by
  cases z with
  | true=>
   obtain⟨v,h4,h5⟩:=h2 rfl;exact q_of (v:=v) (show onBool (ev (FA l t) c) (fun b=>xA (Bool.rec (ev (FA l t) y) (ev (FA l t) x) b) some) none=_ by rw[yK,show evb l t c=_ from h1];show xA (ev (FA l t) x) some=_;rw [yK,yI,show evb l t x=v from h4]) h5
  | false=>
   obtain⟨v,h4,h5⟩:=h3 rfl;exact q_of (v:=v) (show onBool (ev (FA l t) c) (fun b=>xA (Bool.rec (ev (FA l t) y) (ev (FA l t) x) b) some) none=_ by rw[yK,show evb l t c=_ from h1];show xA (ev (FA l t) y) some=_;rw [yK,yI,show evb l t y=v from h4]) h5⟩
instance {ty:Nat} [s:ShC P ty .scal] {x:Operand}:Stp (OpB P ng (.load ty x) cx (FA l t) ⟨d,u,h,n⟩ K Kp) (Ob (Ev l t x) fun p=>Ob (Ld1 h p) (K ⟨d,u,h,n⟩)):=
 ⟨fun⟨p,h1,v,⟨b,o,e,h2⟩,h3⟩=>q_of (v:=v) (by
  show qLoad P ty h (ev (FA l t) x)=_;rw [yK,show evb l t x=p from h1,e];exact load_scal s.ok h2) h3⟩
instance {ty k:Nat} [s:ShC P ty (.agg k)] {x:Operand}:Stp (OpB P ng (.load ty x) cx (FA l t) ⟨d,u,h,n⟩ K Kp) (Ob (Ev l t x) fun p=>Ob (LdN h p k) fun vs=>K ⟨d,u,h,n⟩ (.agg ⟨vs⟩)):=
 ⟨fun⟨p,h1,vs,⟨b,o,e,h0,h2⟩,h3⟩=>q_of (v:=.agg ⟨vs⟩) (by
  show qLoad P ty h (ev (FA l t) x)=_;rw [yK,show evb l t x=p from h1,e];exact load_agg s.ok h2.row.1 h0 h2.row.2) h3⟩
instance {x:Operand} {w:W}:Stp (OpB P ng (.nilCheck x) cx (FA l t) w K Kp) (Ob (Ev l t x) fun p=>Ob (fun q=>Wh (qNil p) (some q)) (K w)):=
 ⟨fun⟨p,h1,q,h2,h3⟩=>q_of (v:=q) (by
  show qNil (ev (FA l t) x)=_;rw [yK,show evb l t x=p from h1];exact h2) h3⟩
def Fad(o:Nat)(p q:Value):Prop:=∃b off,p = .pointer (some ⟨b,off,none⟩)∧q = .pointer (some ⟨b,off+o,none⟩)
instance {ty f o:Nat} [s:OfC P ty f o] {x:Operand} {w:W}:Stp (OpB P ng (.fieldAddr ty x f) cx (FA l t) w K Kp) (Ob (Ev l t x) fun p=>Ob (Fad o p) (K w)):=
 ⟨fun⟨p,h1,q,⟨b,off,e1,e2⟩,h3⟩=>q_of (v:=q) (by
  show(onPtr (ev (FA l t) x) (fun b off=>Option.rec none (fun o=>some (.pointer (some ⟨b,Nat.add off o,none⟩))) (offOf P ty f)) none:Option Value)=_;rw [yK,show evb l t x=p from h1,e1,e2,s.ok];rfl) h3⟩
def Iad(sz:Nat)(s i q:Value):Prop:=∃b off len cap k j,s = .slice (some ⟨b,off,none⟩) len cap∧i = .int k (.ofNat j)∧j<len∧q = .pointer (some ⟨b,off+j*sz,none⟩)
instance {ty sz:Nat} [s:IxC P ty (.slice sz)] {x i:Operand} {w:W}:Stp (OpB P ng (.indexAddr ty x i) cx (FA l t) w K Kp) (Ob (Ev l t x) fun p=>Ob (Ev l t i) fun j=>Ob (Iad sz p j) (K w)):=
 ⟨fun⟨p,h1,j,h2,q,⟨b,off,len,cap,k,m,e1,e2,e3,e4⟩,h3⟩=>q_of (v:=q) (by
  show(onInt (ev (FA l t) i) (fun _ i=>Int.rec (fun i=>Ix.rec none
   (fun sz=>onSlice (ev (FA l t) x) (fun b off len _=>Bool.rec none (some (.pointer (some ⟨b,Nat.add off (Nat.mul i sz),none⟩))) (Nat.blt i len)) none)
   (fun len sz=>onPtr (ev (FA l t) x) (fun b off=>Bool.rec none (some (.pointer (some ⟨b,Nat.add off (Nat.mul i sz),none⟩))) (Nat.blt i len)) none) (ixOf P ty)) (fun _=>none) i) none:Option Value)=_
  rw[yK,yK,show evb l t x=p from h1,show evb l t i=j from h2,e1,e2,s.ok];show(Bool.rec none (some (.pointer (some ⟨b,Nat.add off (Nat.mul m sz),none⟩))) (Nat.blt m len):Option Value)=_;rw [xO e3,e4];rfl) h3⟩
instance {ty:Nat} {x:Operand} {f:Nat} {w:W}:Stp (OpB P ng (.field ty x f) cx (FA l t) w K Kp) (Ob (Ev l t x) fun a=>Ob (fun v=>aField P ty a f=some v) (K w)):=
 ⟨fun⟨a,h1,v,h2,h3⟩=>q_of (v:=v) (by show aField P ty (ev (FA l t) x) f=_;rw [yK,show evb l t x=a from h1];exact h2) h3⟩
def Ixv(P:Program)(ty:Nat)(a j v:Value):Prop:=aIndex P ty a j=some v
instance {ty:Nat} {x i:Operand} {w:W}:Stp (OpB P ng (.index ty x i) cx (FA l t) w K Kp) (Ob (Ev l t x) fun a=>Ob (Ev l t i) fun j=>Ob (Ixv P ty a j) (K w)):=
 ⟨fun⟨a,h1,j,h2,v,h3,h4⟩=>q_of (v:=v) (by show aIndex P ty (ev (FA l t) x) (ev (FA l t) i)=_;rw [yK,yK,show evb l t x=a from h1,show evb l t i=j from h2];exact h3) h4⟩
instance {ty:Nat} {x key:Operand} {ok:Bool}:Stp (OpB P ng (.lookup ty x key ok) cx (FA l t) ⟨d,u,h,n⟩ K Kp) (Ob (Ev l t x) fun a=>Ob (Ev l t key) fun j=>Ob (fun v=>aLookup P h ty a j ok=some v) (K ⟨d,u,h,n⟩)):=
 ⟨fun⟨a,h1,j,h2,v,h3,h4⟩=>q_of (v:=v) (by show aLookup P h ty (ev (FA l t) x) (ev (FA l t) key) ok=_;rw [yK,yK,show evb l t x=a from h1,show evb l t key=j from h2];exact h3) h4⟩
def Evo(l:List (Nat×Value))(t:Fr):Option Operand→Option Value→Prop
 | none,v=>v=none
 | some x,v=>∃a,v=some a∧Ev l t x a
theorem Evo.eq{x:Option Operand}{v:Option Value}(h:Evo l t x v):x.map (ev (FA l t))=v:=by
 cases x with
 | none=>exact Eq.symm h
 | some x=>obtain⟨a,rfl,h⟩:=h;show some (ev (FA l t) x)=_;rw [yK];exact congrArg some h
instance {ty:Nat} {x:Operand} {lo hi mx:Option Operand}:Stp (OpB P ng (.slice ty x lo hi mx) cx (FA l t) ⟨d,u,h,n⟩ K Kp)
 (Ob (Ev l t x) fun a=>Ob (Evo l t lo) fun i=>Ob (Evo l t hi) fun j=>Ob (Evo l t mx) fun m=>Ob (fun v=>yZ P h ty a i j m=some v) (K ⟨d,u,h,n⟩)):=
 ⟨fun⟨a,h1,i,h2,j,h3,m,h4,v,h5,h6⟩=>q_of (v:=v) (by show yZ P h ty (ev (FA l t) x) _ _ _=_;rw [yK,h2.eq,h3.eq,h4.eq,show evb l t x=a from h1];exact h5) h6⟩
def Bn(P:Program)(op:BinOp)(ty:Nat)(ox oy:Operand)(a b v:Value):Prop:=binV P op ty ox oy a b=some v
instance {op:BinOp} {ty ty2:Nat} {x y:Operand} {w:W}:Stp (OpB P ng (.binOp op ty x y ty2) cx (FA l t) w K Kp) (Ob (Ev l t x) fun a=>Ob (Ev l t y) fun b=>Ob (Bn P op ty x y a b) (K w)):=
 ⟨fun⟨a,h1,b,h2,v,h3,h4⟩=>q_of (v:=v) (by show binV P op ty x y (ev (FA l t) x) (ev (FA l t) y)=_;rw [yK,yK,show evb l t x=a from h1,show evb l t y=b from h2];exact h3) h4⟩
instance {ty:Nat} {x:Operand} {w:W}:Stp (OpB P ng (.unOp .not ty x) cx (FA l t) w K Kp) (Ob (fun z=>Ev l t x (.bool z)) fun z=>K w (.bool (!z))):=
 ⟨fun⟨z,h1,h2⟩=>q_of (v:=.bool (!z)) (by show aUn .not (ev (FA l t) x)=_;rw [yK,show evb l t x=_ from h1];rfl) h2⟩
def Cv(P:Program)(dst:Nat)(a v:Value):Prop:=vY P dst a=some v
instance {src dst:Nat} [s:PlC P src] {x:Operand} {w:W}:Stp (OpB P ng (.convert src dst x) cx (FA l t) w K Kp) (Ob (Ev l t x) fun a=>Ob (Cv P dst a) (K w)):=
 ⟨fun⟨a,h1,v,h2,h3⟩=>q_of (v:=v) (by
  obtain⟨ds,e,_⟩:=s.get;show(match und P src with|some _=>vY P dst (ev (FA l t) x)|none=>none)=_;rw [yK,show evb l t x=a from h1,e];exact h2) h3⟩
instance {ty:Nat} [s:PlC P ty] {x:Operand} {w:W}:Stp (OpB P ng (.makeInterface ty x) cx (FA l t) w K Kp) (Ob (Ev l t x) fun a=>K w (.iface ty a)):=
 ⟨fun⟨a,h1,h3⟩=>q_of (v:=.iface ty a) (by
  obtain⟨ds,e,h2⟩:=s.get;show(match und P ty with|some (.interface _)=>none|some _=>xA (ev (FA l t) x) fun v=>some (.iface ty v)|none=>none:Option Value)=_;rw [yK,show evb l t x=a from h1,e];cases ds <;> first|(cases h2;done)|(show xA a _=_;rw [yI])) h3⟩
instance {f:FuncId} {first cap:List Operand} {w:W}:Stp (OpB P ng (.makeFunc (.func f) first.toArray cap.toArray) cx (FA l t) w K Kp) (Ob (Evs l t first) fun fs=>Ob (Evs l t cap) fun cs=>K w (.func (.func f) ⟨fs⟩ ⟨cs⟩)):=
 ⟨fun⟨fs,h1,cs,h2,h3⟩=>q_of (v:=.func (.func f) ⟨fs⟩ ⟨cs⟩) (by
  show some (Value.func (.func f) ⟨first.toArray.toList.map (ev (FA l t))⟩ ⟨cap.toArray.toList.map (ev (FA l t))⟩)=_;rw [show first.toArray.toList=first from rfl,show cap.toArray.toList=cap from rfl,evs_FA,evs_FA,h1.eq,h2.eq]) h3⟩
instance {x:Operand} {ty asserted:Nat} {ok:Bool} {w:W}:Stp (OpB P ng (.typeAssert x ty asserted ok) cx (FA l t) w K Kp) (Ob (Ev l t x) fun a=>Ob (fun v=>xV P a asserted ok=some v) (K w)):=
 ⟨fun⟨a,h1,v,h2,h3⟩=>q_of (v:=v) (by show xV P (ev (FA l t) x) asserted ok=_;rw [yK,show evb l t x=a from h1];exact h2) h3⟩
def Ext1(i:Nat)(a v:Value):Prop:=∃vs,a = .tuple ⟨vs⟩∧vs[i]? = some v
instance {x:Operand} {i:Nat} {w:W}:Stp (OpB P ng (.extract x i) cx (FA l t) w K Kp) (Ob (Ev l t x) fun a=>Ob (Ext1 i a) (K w)):=
 ⟨fun⟨a,h1,v,⟨vs,h2,h2'⟩,h3⟩=>q_of (v:=v) (by
  show(match ev (FA l t) x with | .tuple vs=>Option.rec none (fun v=>xA v some) (vs.toList[i]?)|_=>none:Option Value)=_;rw [yK,show evb l t x=a from h1,h2];show(Option.rec none (fun v=>xA v some) (vs[i]?):Option Value)=_;rw [h2'];exact yI v _) h3⟩
def Evp(l:List (Nat×Value))(t:Fr):List (Nat×Operand)→List (Nat×Value)→Prop
 | [],vs=>vs=[]
 | x::r,vs=>∃v vr,vs=(x.1,v)::vr∧Ev l t x.2 v∧Evp l t r vr
theorem Evp.eq:∀{xs:List (Nat×Operand)} {vs:List (Nat×Value)},Evp l t xs vs→(xs.map fun p=>(p.1,ev (FA l t) p.2))=vs:=by
 intro xs
 induction xs with
 | nil=>intro vs h;exact Eq.symm h
 | cons x r ih=>
  rintro vs ⟨v,vr,rfl,h1,h2⟩
  rw[List.map_cons,ih h2,yK,show evb l t x.2=v from h1]
instance {ty:Nat} {parts:List (Nat×Operand)} {w:W}:Stp (OpB P ng (.build ty parts.toArray) cx (FA l t) w K Kp) (Ob (Evp l t parts) fun ps=>Ob (fun v=>aBuild P ty ps=some v) (K w)):=
 ⟨fun⟨ps,h1,v,h2,h3⟩=>q_of (v:=v) (by show aBuild P ty (parts.toArray.toList.map fun p=>(p.1,ev (FA l t) p.2))=_;rw [show parts.toArray.toList=parts from rfl,h1.eq];exact h2) h3⟩
def Qb(P:Program)(b:Builtin)(tys:List TypeId)(asz:List Value)(h:zB)(r:Option Value):Prop:=quietB P b tys asz h=r
def BuB(P:Program)(cx:Cx)(bi:Builtin)(tys:List TypeId)(asz:List Value)(d:List Deferred)(u:Option zJ)(h:zB)(n:Nat)(K:W→Value→Prop):Prop:=builtinK P cx bi tys asz ⟨d,u,h,n⟩ (fun w v=>xE (K w v))=true
def blQ(P:Program)(cx:Cx)(bi:Builtin)(tys:List TypeId)(asz:List Value)(d:List Deferred)(u:Option zJ)(h:zB)(n:Nat)(K:W→Value→Prop)(r:Option Value):Prop:=match r with
 | some v=>K ⟨d,u,h,n⟩ v
 | none=>BuB P cx bi tys asz d u h n K
instance {bi:Builtin} {tys:List TypeId} {asz:List Value} {v:Value}:Stp (blQ P cx bi tys asz d u h n K (some v)) (K ⟨d,u,h,n⟩ v):=⟨id⟩
instance {bi:Builtin} {tys:List TypeId} {asz:List Value}:Stp (blQ P cx bi tys asz d u h n K none) (BuB P cx bi tys asz d u h n K):=⟨id⟩
instance {bi:Builtin} {args:List Operand} {tys:List Nat}:Stp (OpB P ng (.call ⟨.builtin bi,args.toArray,tys.toArray⟩) cx (FA l t) ⟨d,u,h,n⟩ K Kp)
 (Ob (Evs l t args) fun asz=>Ob (Qb P bi tys asz h) (blQ P cx bi tys asz d u h n K)):=
 ⟨fun⟨asz,h1,r,h2,h3⟩=>by
  have e1:xB (.call ⟨.builtin bi,args.toArray,tys.toArray⟩) P (FA l t) h=r:=by
   show quietB P bi tys.toArray.toList (args.toArray.toList.map (ev (FA l t))) h=_;rw [show args.toArray.toList=args from rfl,show tys.toArray.toList=tys from rfl,evs_FA,h1.eq];exact h2
  refine⟨?_,trivial⟩;unfold OpB0;dsimp only;rw [e1]
  cases r with
  | some v=>exact h3
  | none=>
   show builtinK P cx bi tys.toArray.toList (args.toArray.toList.map (ev (FA l t))) ⟨d,u,h,n⟩ (fun w v=>xE (K w v))=true;rw [show args.toArray.toList=args from rfl,show tys.toArray.toList=tys from rfl,evs_FA,h1.eq];exact h3⟩
theorem e_of{op:Op}{w:W}(hq:xB op P (FA l t) w.h=none)(k:eff op P (loS P ng) cx (FA l t) w (fun w v=>xE (K w v)) (fun c w=>xE (Kp c w))=true):OpB P ng op cx (FA l t) w K Kp:=by refine⟨?_,trivial⟩;unfold OpB0;rw [hq];exact k
instance {el:Nat} {cs:List Value} [z:ZeC P el cs]:Stp (OpB P ng (.alloc el) cx (FA l t) ⟨d,u,h,n⟩ K Kp) (K ⟨d,u,hal h n (mkC cs (el+1) 0),n+1⟩ (ptr n 0)):=
 ⟨fun h1=>e_of rfl (by
  obtain⟨z,h2,h3⟩:=z.ok;show(Option.rec false (fun z=>zV h n (mkCellsT (cellsOf z) el) fun h' n'=>xE (K ⟨d,u,h',n'⟩ (.pointer (some ⟨n,0,none⟩)))) (yT P el):Bool)=true;rw [h2];show zV h n (mkCellsT (cellsOf z) el) _=true;rw [xJ,h3];exact isSo_iff.2 h1)⟩
instance {ty:Nat} {x:Operand}:Stp (OpB P ng (.box ty x) cx (FA l t) ⟨d,u,h,n⟩ K Kp) (Ob (Ev l t x) fun v=>Ob (Bx v) fun cs=>K ⟨d,u,hal h n (mkC cs (ty+1) 0),n+1⟩ (ptr n 0)):=
 ⟨fun⟨v,h1,cs,⟨h2,h3⟩,h4⟩=>e_of rfl (by
  show wG .lF 0 (cellsOf (ev (FA l t) x)) (fun c=>zV h n (.cells c (cellsOf (ev (FA l t) x)).length (Nat.succ ty) 0) fun h' n'=>xE (K ⟨d,u,h',n'⟩ (.pointer (some ⟨n,0,none⟩))))=true;rw [yK,show evb l t x=v from h1,h2];refine vN h3.all ?_;rw [xJ];exact isSo_iff.2 h4)⟩
instance {ty:Nat} [s:ShC P ty .scal] {x y:Operand}:Stp (OpB P ng (.store ty x y) cx (FA l t) ⟨d,u,h,n⟩ K Kp) (Ob (Ev l t x) fun p=>Ob (Ev l t y) fun v=>Ob (StP h p [v]) fun h'=>K ⟨d,u,h',n⟩ undef):=
 ⟨fun⟨p,h1,v,h2,h',⟨b,o,m,z,kd,e1,e2,e3,e4,e5,e6⟩,h3⟩=>e_of rfl (by
  have hv:cellsOf v=[v]:=by
   have:=e5 v (List.mem_cons_self ..);cases v <;> first|rfl|(cases this;done)
  show onPtr (ev (FA l t) x) (fun b off=>Sh.rec false
   (Bool.rec false (storeAt h b off (cellsOf (ev (FA l t) y)) fun h'=>xE (K ⟨d,u,h',n⟩ undef)) (Nat.beq (cellsOf (ev (FA l t) y)).length 1))
   (fun sz=>Bool.rec false (storeAt h b off (cellsOf (ev (FA l t) y)) fun h'=>xE (K ⟨d,u,h',n⟩ undef)) (Nat.beq (cellsOf (ev (FA l t) y)).length sz)) (yM P ty)) false=true
  rw[yK,yK,show evb l t x=p from h1,show evb l t y=v from h2,e1,s.ok,hv];subst e6;exact storeAt_tt e2 e3 e4 e5 (isSo_iff.2 h3))⟩
instance {ty k:Nat} [s:ShC P ty (.agg k)] {x y:Operand}:Stp (OpB P ng (.store ty x y) cx (FA l t) ⟨d,u,h,n⟩ K Kp) (Ob (Ev l t x) fun p=>Ob (Ev l t y) fun v=>Ob (Wh (cellsOf v)) fun cs=>Ob (StP' h p cs k) fun h'=>K ⟨d,u,h',n⟩ undef):=
 ⟨fun⟨p,h1,v,h2,cs,hc,h',⟨⟨b,o,m,z,kd,e1,e2,e3,e4,e5,e6⟩,hl⟩,h3⟩=>e_of rfl (by
  show onPtr (ev (FA l t) x) (fun b off=>Sh.rec false
   (Bool.rec false (storeAt h b off (cellsOf (ev (FA l t) y)) fun h'=>xE (K ⟨d,u,h',n⟩ undef)) (Nat.beq (cellsOf (ev (FA l t) y)).length 1))
   (fun sz=>Bool.rec false (storeAt h b off (cellsOf (ev (FA l t) y)) fun h'=>xE (K ⟨d,u,h',n⟩ undef)) (Nat.beq (cellsOf (ev (FA l t) y)).length sz)) (yM P ty)) false=true
  rw[yK,yK,show evb l t x=p from h1,show evb l t y=v from h2,e1,s.ok,show cellsOf v=cs from hc];show(Bool.rec false (storeAt h b o cs fun h'=>xE (K ⟨d,u,h',n⟩ undef)) (Nat.beq cs.length k):Bool)=true;rw [hl,Nat.beq_refl];subst e6;exact storeAt_tt e2 e3 e4 e5 (isSo_iff.2 h3))⟩
instance {ty len:Nat} {parts:List (Nat×Operand)}:Stp (OpB P ng (.buildSlice ty len parts.toArray) cx (FA l t) ⟨d,u,h,n⟩ K Kp) (Ob (Evp l t parts) fun ps=>Ob (fun cs=>xW P ty len ps=some (mkC cs 0 0)) fun cs=>K ⟨d,u,hal h n (mkC cs 0 0),n+1⟩ (.slice (some ⟨n,0,none⟩) len len)):=
 ⟨fun⟨ps,h1,cs,h2,h3⟩=>e_of rfl (by
  show(Option.rec false (fun ob=>zV h n ob fun h' n'=>xE (K ⟨d,u,h',n'⟩ (.slice (some ⟨n,0,none⟩) len len))) (xW P ty len (parts.toArray.toList.map fun p=>(p.1,ev (FA l t) p.2))):Bool)=true;rw [show parts.toArray.toList=parts from rfl,h1.eq,h2];show zV h n (mkC cs 0 0) _=true;rw [xJ];exact isSo_iff.2 h3)⟩
instance {ty:Nat}:Stp (OpB P ng (.makeMap ty none) cx (FA l t) ⟨d,u,h,n⟩ K Kp) (K ⟨d,u,hal h n (.map [] 0),n+1⟩ (.map (some n))):=
 ⟨fun h1=>e_of rfl (by
  show zV h n (.map [] 0) (fun h' n'=>xE (K ⟨d,u,h',n'⟩ (.map (some n))))=true;rw [xJ];exact isSo_iff.2 h1)⟩
def MSet(P:Program)(ty:Nat)(m k v:Value)(h h':zB):Prop:=∀K:zB→Bool,K h'=true→wU P ty m k v h K=true
instance {ty:Nat} {m k v:Operand}:Stp (OpB P ng (.mapUpdate ty m k v) cx (FA l t) ⟨d,u,h,n⟩ K Kp) (Ob (Ev l t m) fun a=>Ob (Ev l t k) fun b=>Ob (Ev l t v) fun c=>Ob (MSet P ty a b c h) fun h'=>K ⟨d,u,h',n⟩ undef):=
 ⟨fun⟨a,h1,b,h2,c,h3,h',h4,h5⟩=>e_of rfl (by
  show wU P ty (ev (FA l t) m) (ev (FA l t) k) (ev (FA l t) v) h (fun h=>xE (K ⟨d,u,h,n⟩ undef))=true;rw [yK,yK,yK,show evb l t m=a from h1,show evb l t k=b from h2,show evb l t v=c from h3];exact h4 _ (isSo_iff.2 h5))⟩
def CallB(P:Program)(ng:Nat)(g:FuncId)(args:List Value)(h:zB)(n:Nat)(K:Out→zB→Nat→Prop):Prop:=(loS P ng).call g args false none h n (fun o _ h n=>xE (K o h n))=true
def calQ(d:List Deferred)(u:Option zJ)(K:W→Value→Prop)(Kp:zJ→W→Prop):Out→zB→Nat→Prop:=fun o h n=>match o with
 | .ret v=>K ⟨d,u,h,n⟩ v
 | .panic c=>Kp c ⟨d,u,h,n⟩
instance {v:Value}:Stp (calQ d u K Kp (.ret v) h n) (K ⟨d,u,h,n⟩ v):=⟨id⟩
instance {c:zJ}:Stp (calQ d u K Kp (.panic c) h n) (Kp c ⟨d,u,h,n⟩):=⟨id⟩
theorem calQ_so:(fun(o:Out) (_:Option zJ) h n=>xE (calQ d u K Kp o h n))=fun o _ h n=>Out.rec (fun v=>xE (K ⟨d,u,h,n⟩ v)) (fun c=>xE (Kp c ⟨d,u,h,n⟩)) o:=by
 funext o _ h n
 cases o <;> rfl
theorem call_eff{fv:Value}{g:FuncId}{fs cs:List Value}{args:List Operand}{asz:List Value}{f:Operand}{tys:Array Nat}(h1:evb l t f=fv)(h2:fv = .func (.func g) ⟨fs⟩ ⟨cs⟩)(h3:evs l t args=asz)
(h4:CallB P ng g (fs++(asz++cs)) h n (calQ d u K Kp)):eff (.call ⟨.value f,args.toArray,tys⟩) P (loS P ng) cx (FA l t) ⟨d,u,h,n⟩ (fun w v=>xE (K w v)) (fun c w=>xE (Kp c w))=true:=by
 show xinvoke (loS P ng) (ev (FA l t) f) (args.toArray.toList.map (ev (FA l t))) h n (fun v h n=>xE (K ⟨d,u,h,n⟩ v)) (fun c h n=>xE (Kp c ⟨d,u,h,n⟩))=true;rw [show args.toArray.toList=args from rfl,evs_FA,h3,yK,h1,h2];unfold CallB at h4;rw [calQ_so]at h4;exact h4
instance {g:FuncId} {args:List Operand} {tys:Array Nat}:Stp (OpB P ng (.call ⟨.value (.func g),args.toArray,tys⟩) cx (FA l t) ⟨d,u,h,n⟩ K Kp) (Ob (Evs l t args) fun asz=>CallB P ng g asz h n (calQ d u K Kp)):=
 ⟨fun⟨asz,h1,h2⟩=>e_of rfl (call_eff (fs:=[]) (cs:=[]) rfl rfl h1.eq (by simpa using h2))⟩
def InvB(P:Program)(ng:Nat)(f:Value)(args:List Value)(h:zB)(n:Nat)(d:List Deferred)(u:Option zJ)(K:W→Value→Prop)(Kp:zJ→W→Prop):Prop:=
 xinvoke (loS P ng) f args h n (fun v h n=>xE (K ⟨d,u,h,n⟩ v)) (fun c h n=>xE (Kp c ⟨d,u,h,n⟩))=true
instance {i:Nat} {args:List Operand} {tys:Array Nat}:Stp (OpB P ng (.call ⟨.value (.tmp i),args.toArray,tys⟩) cx (FA l t) ⟨d,u,h,n⟩ K Kp) (Ob (Ev l t (.tmp i)) fun f=>Ob (Evs l t args) fun asz=>InvB P ng f asz h n d u K Kp):=
 ⟨fun⟨f,h1,asz,h2,h3⟩=>e_of rfl (by
  show xinvoke (loS P ng) (ev (FA l t) (.tmp i)) (args.toArray.toList.map (ev (FA l t))) h n (fun v h n=>xE (K ⟨d,u,h,n⟩ v)) (fun c h n=>xE (Kp c ⟨d,u,h,n⟩))=true;rw [show args.toArray.toList=args from rfl,evs_FA,h2.eq,yK,show evb l t (.tmp i)=f from h1];exact h3)⟩
instance {g:FuncId} {fs cs asz:List Value}:Stp (InvB P ng (.func (.func g) ⟨fs⟩ ⟨cs⟩) asz h n d u K Kp) (Ob (Wh (fs++(asz++cs))) fun all=>CallB P ng g all h n (calQ d u K Kp)):=
 ⟨fun⟨all,h1,h2⟩=>by
  have h1:fs++(asz++cs)=all:=h1;subst h1;unfold CallB at h2;rw [calQ_so]at h2;exact h2⟩
def Ifv(v:Value)(p:Nat×Value):Prop:=v = .iface p.1 p.2
theorem ifv_of{t:Nat}{v:Value}:Ifv (.iface t v) (t,v):=rfl
def Fnv(fv:Value)(p:FuncId×List Value×Array Value):Prop:=fv = .func (.func p.1) ⟨p.2.1⟩ p.2.2
theorem fnv_of{g:FuncId}{fs:List Value}{cs:Array Value}:Fnv (.func (.func g) ⟨fs⟩ cs) (g,fs,cs):=rfl
instance {f:Operand} {args:List Operand} {tys:Array Nat} {fn:FuncId} {df:Bool}:Stp (OpB P ng (.defer ⟨.value f,args.toArray,tys⟩) ⟨fn,none,df⟩ (FA l t) ⟨d,u,h,n⟩ K Kp)
 (Ob (Ev l t f) fun fv=>Ob (Evs l t args) fun asz=>Ob (Fnv fv) fun p=>K ⟨{ target:=.fn (.func p.1) p.2.2,args:=⟨p.2.1++asz⟩ }::d,u,h,n⟩ undef):=
 ⟨fun⟨fv,h1,asz,h2,⟨g,fs,cs⟩,h3,h4⟩=>e_of rfl (by
  show(match ev (FA l t) f with
   | .func (.func g) first cap=>xE (K ⟨{ target:=.fn (.func g) cap,args:=⟨first.toList++args.toArray.toList.map (ev (FA l t))⟩ }::d,u,h,n⟩ undef)
   | _=>false)=true
  rw[show args.toArray.toList=args from rfl,evs_FA,h2.eq,yK,show evb l t f=fv from h1,h3];exact isSo_iff.2 h4)⟩
instance {x:Operand} {w:W}:Stp (OpB P ng (.panic x) cx (FA l t) w K Kp) (Ob (Ev l t x) fun v=>Ob (Ifv v) fun p=>Kp [⟨.iface p.1 p.2,false,false⟩] w):=
 ⟨fun⟨v',h1,⟨ty,v⟩,h1',h2⟩=>e_of rfl (by
  show(match ev (FA l t) x with
   | .iface ty v=>xE (Kp [⟨.iface ty v,false,false⟩] w)
   | _=>false)=true
  rw[yK,show evb l t x=_ from h1,show v'=_ from h1'];exact isSo_iff.2 h2)⟩
end
end Go.Ex
namespace Go.Ex
section
variable {P:Program} {ng:Nat}
def Com(P:Program)(ng:Nat)(f:FuncId)(args:List Value)(h:zB)(n:Nat)(Q:Out→zB→Nat→Prop):Prop:=∀u:Option zJ,∃o h' n',Q o h' n'∧CallTo P ng f args false u h n o u h' n'
abbrev Ret(P:Program)(ng:Nat)(f:FuncId)(args:List Value)(h:zB)(n:Nat)(Q:Value→zB→Nat→Prop):Prop:=Com P ng f args h n fun o h' n'=>∃v,o = .ret v∧Q v h' n'
abbrev Pur(P:Program)(ng:Nat)(f:FuncId)(args:List Value)(h:zB)(n:Nat)(v:Value):Prop:=Com P ng f args h n fun o h' n'=>o = .ret v∧h'=h∧n'=n
theorem Com.mono{f:FuncId}{args:List Value}{h:zB}{n:Nat}{Q Q':Out→zB→Nat→Prop}(c:Com P ng f args h n Q)(hq:∀o h' n',Q o h' n'→Q' o h' n'):Com P ng f args h n Q':=fun u=>by
  obtain⟨o,h',n',q,r⟩:=c u;exact⟨o,h',n',hq _ _ _ q,r⟩
 class IsCall (G:Prop) (P:outParam Program) (ng:outParam Nat) (g:outParam FuncId) (args:outParam (List Value)) (h:outParam zB) (n:outParam Nat) (K:outParam (Out→zB→Nat→Prop)):Prop where ok:CallB P ng g args h n K→G
instance {P:Program} {ng:Nat} {g:FuncId} {args:List Value} {h:zB} {n:Nat} {K:Out→zB→Nat→Prop}:IsCall (CallB P ng g args h n K) P ng g args h n K:=⟨id⟩
theorem cal0{g:FuncId}{args:List Value}{h:zB}{n:Nat}{Q K:Out→zB→Nat→Prop}(c:Com P ng g args h n Q)(k:∀o h' n',Q o h' n'→K o h' n'):CallB P ng g args h n K:=by
 obtain⟨o,h',n',q,r⟩:=c none;exact loS_call.2 ⟨o,none,h',n',isSo_iff.2 (k _ _ _ q),r⟩
theorem cal{G:Prop}{g:FuncId}{args:List Value}{h:zB}{n:Nat}{Q K:Out→zB→Nat→Prop}[s:IsCall G P ng g args h n K](c:Com P ng g args h n Q)(k:∀o h' n',Q o h' n'→K o h' n'):G:=s.ok (cal0 c k)
theorem uW{G:Prop}{g:FuncId}{args:List Value}{h:zB}{n:Nat}{Q:Value→zB→Nat→Prop}{K:Out→zB→Nat→Prop}[s:IsCall G P ng g args h n K](c:Ret P ng g args h n Q)(k:∀v h' n',Q v h' n'→K (.ret v) h' n'):G:=
 s.ok (cal0 c fun o h' n' ⟨v,e,q⟩=>by rw[e];exact k v h' n' q)
theorem yV{G:Prop}{g:FuncId}{args:List Value}{h:zB}{n:Nat}{v:Value}{K:Out→zB→Nat→Prop}[s:IsCall G P ng g args h n K](c:Pur P ng g args h n v)(k:K (.ret v) h n):G:=
  s.ok (cal0 c fun o h' n' ⟨e1,e2,e3⟩=>by rw[e1,e2,e3];exact k)
 class PurC (P:Program) (ng:Nat) (g:FuncId) (args:List Value) (h:zB) (n:Nat) (v:outParam Value):Prop where ok:Pur P ng g args h n v
theorem calC{G:Prop}{g:FuncId}{args:List Value}{h:zB}{n:Nat}{v:Value}{K:Out→zB→Nat→Prop}[s:IsCall G P ng g args h n K][c:PurC P ng g args h n v](k:K (.ret v) h n):G:=s.ok (yV c.ok k)
theorem Com.pure{f:FuncId}{args:List Value}{h:zB}{n:Nat}{v:Value}(c:Com P ng f args h n fun o h' n'=>o = .ret v∧Tch [] h n h' n')(hv:xF v=true∨∃l:List Value,v = .tuple ⟨l⟩∧l.all xF=true):Pur P ng f args h n v:=fun u=>by
 obtain⟨o,h',n',⟨rfl,t⟩,r⟩:=c none;exact⟨_,h,n,⟨rfl,rfl,rfl⟩,r.pureE ⟨t.1,fun b hb=>t.2 b hb (by simp)⟩ hv u⟩
def arl:Nat→List Value→List (Nat×Value)→List (Nat×Value)
 | _,[],acc=>acc
 | i,v::r,acc=>arl (i+1) r ((i,v)::acc)
theorem arl_FA:∀(args:List Value) (i:Nat) (acc:List (Nat×Value)) (t:Fr),Tr.ofListFrom undef (FA acc t) i args=FA (arl i args acc) t:=by
  intro args
  induction args with
  | nil=>intro i acc t;rfl
  | cons v r ih=>intro i acc t;exact ih (i+1) ((i,v)::acc) t
 class BoC (P:Program) (f:FuncId) (fn:outParam Func):Prop where ok:∀c,fn.body=some c→bodyOf P f=some (fn,c)
def retQ(P:Program)(ng:Nat)(fn:Func)(u:Option zJ)(Q:Out→zB→Nat→Prop):QX:=fun x t w=>match x with
 | .normal=>(loS P ng).leave fn none t w (fun o u' h' n'=>xE (u'=u∧Q o h' n'))=true
 | .ret=>(loS P ng).leave fn none t w (fun o u' h' n'=>xE (u'=u∧Q o h' n'))=true
 | .panic c=>(loS P ng).leave fn (some c) t w (fun o u' h' n'=>xE (u'=u∧Q o h' n'))=true
 | _=>False
theorem ent[Fit P ng]{f:FuncId}{fn:Func}[b:BoC P f fn]{c:Code}{args:List Value}{h:zB}{n:Nat}{Q:Out→zB→Nat→Prop}
(k:∀u,WC P ng c ⟨f,none,false⟩ (FA (arl 0 args []) .lF) ⟨[],u,h,n⟩ (retQ P ng fn u Q))(hc:fn.body=some c:=by exact rfl)(hl:Nat.ble args.length fn.ntmps=true:=by exact rfl):Com P ng f args h n Q:=fun u=>by
 have hx:xcall P (loS P ng) f args false u h n (fun o u' h' n'=>xE (u'=u∧Q o h' n'))=true:=by
  unfold xcall;rw [b.ok c hc]
  show(Bool.rec false (args0 fr0 0 args fun t=>
   (loS P ng).code c ⟨f,none,false⟩ t ⟨[],u,h,n⟩ fun x t w=>AX.rec ((loS P ng).leave fn none t w (fun o u' h' n'=>xE (u'=u∧Q o h' n'))) (fun _=>false) (fun _=>false) ((loS P ng).leave fn none t w (fun o u' h' n'=>xE (u'=u∧Q o h' n'))) (fun c=>(loS P ng).leave fn (some c) t w (fun o u' h' n'=>xE (u'=u∧Q o h' n'))) x) (Nat.ble args.length fn.ntmps):Bool)=true
  rw[hl,args0_eq,show fr0=FA [] .lF from rfl,arl_FA];obtain⟨x,t',w',q,r⟩:=k u;refine loS_code.2 ⟨x,t',w',?_,r⟩
  cases x with
  | normal=>exact q
  | exit i=>exact q.elim
  | goto i=>exact q.elim
  | ret=>exact q
  | panic c=>exact q
 obtain⟨o,u',h',n',q,r⟩:=xcall_ok (Fit.ok) uS hx;obtain⟨e,q2⟩:=isSo_iff.1 q;subst e;exact⟨o,h',n',q2,r⟩
theorem leave_of[Fit P ng]{fn:Func}{mode:Option zJ}{t:Fr}{w:W}{k:KO}(h:xleave P (loS P ng) fn mode t w k=true):(loS P ng).leave fn mode t w k=true:=by
 obtain⟨o,u',h',n',q,r⟩:=xleave_ok (Fit.ok) uS h;exact loS_leave.2 ⟨o,u',h',n',q,r⟩
def Rs(P:Program)(l:List (Nat×Value))(t:Fr)(h:zB):List ResultVar→List Value→Prop
 | [],vs=>vs=[]
 | .tmp i::r,vs=>∃v vr,vs=v::vr∧lk l t i=v∧Rs P l t h r vr
 | .cell i ty::r,vs=>∃v vr,vs=v::vr∧qLoad P ty h (lk l t i)=some v∧Rs P l t h r vr
theorem Rs.eq{l:List (Nat×Value)}{t:Fr}{h:zB}:∀{rs:List ResultVar} {vs:List Value},Rs P l t h rs vs→yP P (FA l t) h rs=some vs:=by
 intro rs
 induction rs with
 | nil=>intro vs h;rw [show vs=[] from h];rfl
 | cons x r ih =>
  intro vs hv
  cases x with
  | tmp i=>
   obtain⟨v,vr,rfl,h1,h2⟩:=hv;unfold yP;rw [ih h2,fget_FA,h1]
  | cell i ty=>
   obtain⟨v,vr,rfl,h1,h2⟩:=hv;have h1':ldV P h ty (lk l t i)=some v:=h1;unfold yP;rw [ih h2,fget_FA,h1']
theorem ret_of[Fit P ng]{fn:Func}{u:Option zJ}{Q:Out→zB→Nat→Prop}{l:List (Nat×Value)}{t:Fr}{h:zB}{n:Nat}(k:Ob (Wh fn.results.toList) fun rs=>Ob (Rs P l t h rs) fun vs=>Ob (Wh (vQ vs)) fun v=>Q (.ret v) h n) :
 (loS P ng).leave fn none (FA l t) ⟨[],u,h,n⟩ (fun o u' h' n'=>xE (u'=u∧Q o h' n'))=true:=by
 obtain⟨rs,e1,vs,e2,v,e3,q⟩:=k;refine leave_of ?_
 show(match yP P (FA l t) h fn.results.toList with
  | some l=>xA (vQ l) fun v=>xE (u=u∧Q (.ret v) h n)
  | none=>false)=true
 rw[show fn.results.toList=rs from e1,e2.eq];show xA (vQ vs) _=true;rw [yI,show vQ vs=v from e3];exact isSo_iff.2 ⟨rfl,q⟩
instance [Fit P ng] {fn:Func} {u:Option zJ} {Q:Out→zB→Nat→Prop} {l:List (Nat×Value)} {t:Fr} {h:zB} {n:Nat}:Stp (retQ P ng fn u Q .ret (FA l t) ⟨[],u,h,n⟩) (Ob (Wh fn.results.toList) fun rs=>Ob (Rs P l t h rs) fun vs=>Ob (Wh (vQ vs)) fun v=>Q (.ret v) h n):=⟨ret_of⟩
instance [Fit P ng] {fn:Func} {u:Option zJ} {Q:Out→zB→Nat→Prop} {l:List (Nat×Value)} {t:Fr} {h:zB} {n:Nat}:Stp (retQ P ng fn u Q .normal (FA l t) ⟨[],u,h,n⟩) (Ob (Wh fn.results.toList) fun rs=>Ob (Rs P l t h rs) fun vs=>Ob (Wh (vQ vs)) fun v=>Q (.ret v) h n):=⟨ret_of⟩
instance [Fit P ng] {fn:Func} {u:Option zJ} {Q:Out→zB→Nat→Prop} {t:Fr} {h:zB} {n:Nat} {c:zJ}:Stp (retQ P ng fn u Q (.panic c) t ⟨[],u,h,n⟩) (Q (.panic c) h n):=⟨fun q=>leave_of (isSo_iff.2 ⟨rfl,q⟩)⟩
section
variable {ty:Nat} {ox oy:Operand} {k:IntKind} {a b:Int}
theorem binI{op:BinOp}:binV P op ty ox oy (.int k a) (.int k b)=intOp op k a b (aBin P op ty ox oy (.int k a) (.int k b)):=by
 show(Bool.rec _ _ (xH k k):Option Value)=_;have:xH k k=true:=by cases k <;> rfl
 rw[this]
theorem wrap_in{x:Int}(h: -9223372036854775808≤x∧x<9223372036854775808):wL .i64 x=x:=by
 rw[wB];exact Go.IntWalk.i64_in x (by omega)
theorem bn_add(h: -9223372036854775808≤a+b∧a+b<9223372036854775808):Bn P .add ty ox oy (I64 a) (I64 b) (I64 (a+b)):=by
 unfold Bn;rw [binI];show(Int.rec (fun m=>some (.int .i64 (.ofNat m))) (fun m=>some (.int .i64 (.negSucc m))) (wL .i64 (iadd a b)):Option Value)=_;rw [iadd_eq,wrap_in h];cases a+b <;> rfl
theorem bn_sub(h: -9223372036854775808≤a - b∧a - b<9223372036854775808):Bn P .sub ty ox oy (I64 a) (I64 b) (I64 (a - b)):=by
 unfold Bn;rw [binI];show(Int.rec (fun m=>some (.int .i64 (.ofNat m))) (fun m=>some (.int .i64 (.negSucc m))) (wL .i64 (isub a b)):Option Value)=_;rw [isub_eq,wrap_in h];cases a - b <;> rfl
theorem bn_eq:Bn P .eql ty ox oy (.int k a) (.int k b) (.bool (decide (a=b))):=by unfold Bn;rw [binI,← xI];rfl
theorem bn_ne:Bn P .neq ty ox oy (.int k a) (.int k b) (.bool (decide (a≠b))):=by
 unfold Bn;rw [binI];show some (Value.bool (Bool.rec true false (ieqB a b)))=_;rw [xI];by_cases h:a=b
 · rw[decide_eq_true h,decide_eq_false (by simpa using h)]
 · rw[decide_eq_false h,decide_eq_true h]
theorem bn_lt:Bn P .lss ty ox oy (.int k a) (.int k b) (.bool (decide (a<b))):=by unfold Bn;rw [binI,← iltB_eq];rfl
theorem bn_le:Bn P .leq ty ox oy (.int k a) (.int k b) (.bool (decide (a≤b))):=by unfold Bn;rw [binI,← ileB_eq];rfl
theorem bn_gt:Bn P .gtr ty ox oy (.int k a) (.int k b) (.bool (decide (b<a))):=by unfold Bn;rw [binI,← iltB_eq];rfl
theorem bn_ge:Bn P .geq ty ox oy (.int k a) (.int k b) (.bool (decide (b≤a))):=by unfold Bn;rw [binI,← ileB_eq];rfl
end
theorem cv_int{dst:Nat}{k k':IntKind}[s:IkC P dst k']{a:Int}:Cv P dst (.int k a) (.int k' (k'.wrap a)):=by
 show vY P dst _=_;unfold vY;rw [s.ok];show some (Value.int k' (wL k' a))=_;rw [wB]
theorem bn_subu{ty:Nat}{ox oy:Operand}{a b:Int}:Bn P .sub ty ox oy (.int .u64 a) (.int .u64 b) (.int .u64 (IntKind.wrap .u64 (a - b))):=by
 unfold Bn;rw [binI];show(Int.rec (fun m=>some (.int .u64 (.ofNat m))) (fun m=>some (.int .u64 (.negSucc m))) (wL .u64 (isub a b)):Option Value)=_;rw [isub_eq,wB];cases IntKind.wrap .u64 (a - b) <;> rfl
theorem bytesEq_dec(x y:List UInt8):vG x y=decide (x=y):=by
 induction x generalizing y with
 | nil=>cases y <;> rfl
 | cons a x ih =>
  cases y with
  | nil=>rfl
  | cons b y=>
   show cond (Nat.beq a.toNat b.toNat) (vG x y) false=_;rw [ih];by_cases h:a=b
   · subst h;rw [Nat.beq_refl];simp
   · have:Nat.beq a.toNat b.toNat=false:=by
      cases e:Nat.beq a.toNat b.toNat with
      | false=>rfl
      | true=>exact absurd (UInt8.toNat_inj.1 (zG e)) h
     rw[this,decide_eq_false fun e=>h (List.cons.inj e).1];rfl
theorem bs_eq{ty:Nat}{ox oy:Operand}{a b:List UInt8}:Bn P .eql ty ox oy (str a) (str b) (.bool (decide (a=b))):=by
 show some (Value.bool (vG a b))=_;rw [bytesEq_dec]
theorem bs_ne{ty:Nat}{ox oy:Operand}{a b:List UInt8}:Bn P .neq ty ox oy (str a) (str b) (.bool (decide (a≠b))):=by
 show some (Value.bool (!vG a b))=_;rw [bytesEq_dec,decide_not]
theorem ixv_str{ty:Nat}[s:UnC P ty .string]{a:List UInt8}{k:IntKind}{i:Nat}{b:UInt8}(hb:a[i]? = some b):Ixv P ty (str a) (.int k (i:Nat)) (.int .u8 (b.toNat:Nat)):=by
 show aIndex P ty _ _=_;unfold aIndex;rw [s.ok]
 show(match nthB a i with
  | some b=>some (Value.int .u8 (.ofNat b.toNat))
  | none=>none)=_
 rw[nthB_eq,hb];rfl
theorem len_slc{ty:Nat}{e:TypeId}[s:UnC P ty (.slice e)]{p:Option Addr}{m c:Nat}{h:zB}:Qb P .len [ty] [.slice p m c] h (some (I64 (m:Nat))):=by
 show aLen P h ty _=_;unfold aLen;rw [s.ok];rfl
theorem len_txt{ty:Nat}[s:UnC P ty .string]{a:List UInt8}{h:zB}:Qb P .len [ty] [str a] h (some (I64 (a.length:Nat))):=by
 show aLen P h ty _=_;unfold aLen;rw [s.ok];rfl
theorem bi_app{tys:List Nat}{asz:List Value}{h:zB}:Qb P .append tys asz h none:=rfl
theorem bi_rec{tys:List Nat}{asz:List Value}{h:zB}:Qb P .recover tys asz h none:=rfl
end
end Go.Ex
