/- What the law leans on, part 8 of 22. Conditions: those that each theorem states. -/
import Derived.Test.YtmccnilgnlaffaaGreatDoorMachChecksx7

set_option linter.unusedVariables false
set_option linter.unusedSimpArgs false
namespace Go.Ex
section
abbrev str(l:List UInt8):Value:=.string ⟨⟨l⟩⟩
abbrev ptr(b off:Nat):Value:=.pointer (some ⟨b,off,none⟩)
abbrev I64(x:Int):Value:=.int .i64 x
 class ShC (P:Program) (ty:Nat) (s:outParam Sh):Prop where ok:yJ P ty=s
 class OfC (P:Program) (ty f:Nat) (o:outParam Nat):Prop where ok:offOf P ty f=some o
 class IxC (P:Program) (ty:Nat) (s:outParam Ix):Prop where ok:ixOf P ty=s
 class UnC (P:Program) (ty:Nat) (d:outParam TypeDesc):Prop where ok:und P ty=some d
def plainT:TypeDesc→Bool
 | .interface _=>false
 | _=>true
noncomputable def plB(P:Program)(ty:Nat):Bool:=match und P ty with
  | some d=>plainT d
  | none=>false
 class PlC (P:Program) (ty:Nat):Prop where ok:plB P ty=true
theorem PlC.get{P:Program}{ty:Nat}(s:PlC P ty):∃d,und P ty=some d∧plainT d=true:=by
  have h:=s.ok;unfold plB at h
  cases e:und P ty with
  | none=>rw [e]at h;cases h
  | some d=>rw [e]at h;exact⟨d,rfl,h⟩
 class IkC (P:Program) (ty:Nat) (k:outParam IntKind):Prop where ok:und P ty=some (.int k)
 class ZeC (P:Program) (el:Nat) (cs:outParam (List Value)):Prop where ok:∃z,yW P el=some z∧cellsOf z=cs
noncomputable def hal(h:zB)(n:Nat)(o:AObj):zB:=h.set .dead o n
noncomputable def hst(h:zB)(b off:Nat)(vs:List Value):zB:=h.set .dead (stC (zF h b) off vs) b
theorem zO(h:zB)(n:Nat)(o:AObj)(b:Nat):zF (hal h n o) b=if n=b then o else zF h b:=zH _ _ _ _
theorem xL(h:zB)(c off:Nat)(vs:List Value)(b:Nat):zF (hst h c off vs) b=if c=b then stC (zF h c) off vs else zF h b:=zH _ _ _ _
def Cel(h:zB)(b z kd:Nat)(vs:List Value):Prop:=yZ (zF h b)=some (vs.length,z,kd)∧∀i,zC h b i=vs[i]?
def spl(vs:List Value):Nat→List Value→List Value
 | _,[]=>vs
 | off,x::r=>spl (vs.set off x) (off+1) r
theorem vB(ws:List Value):∀(vs:List Value) (off:Nat),(spl vs off ws).length=vs.length:=by
 induction ws with
 | nil=>intro vs off;rfl
 | cons x r ih=>intro vs off;unfold spl;rw [ih,aW]
theorem spl_get(ws:List Value):∀(vs:List Value) (off i:Nat),off+ws.length≤vs.length→(spl vs off ws)[i]? = if off≤i∧i<off+ws.length then ws[i - off]? else vs[i]? :=by
 induction ws with
 | nil=>intro vs off i _;rw [if_neg (λh=>absurd h.2 (Nat.not_lt.2 h.1))];rfl
 | cons x r ih=>
  intro vs off i h;rw [a7]at h;unfold spl;rw [ih _ _ _ (by rw[aW];omega),a7];by_cases h1:off+1≤i∧i<off+1+r.length
  · rw[if_pos h1,if_pos (by omega)];have:i - off=(i - (off+1))+1:=by omega
    rw[this,bL]
  · rw[if_neg h1];by_cases h2:off=i
    · subst h2;rw [if_pos (by omega),bA,bQ (by omega),List.getElem?_cons_zero]
    · rw[if_neg (by omega),bp h2]
theorem cel_hal(h:zB)(n z kd:Nat)(vs:List Value):Cel (hal h n (mkC vs z kd)) n z kd vs:=by
 refine⟨?_,λi=>?_⟩
 · rw[zO,if_pos rfl];exact uN _ _ _
 · unfold zC;rw [zO,if_pos rfl];exact vO _ _ _ _
theorem Cel.hal{h:zB}{b z kd:Nat}{vs:List Value}(c:Cel h b z kd vs){n:Nat}{o:AObj}(hb:b≠n):Cel (hal h n o) b z kd vs:=by
 unfold Cel zC;rw [zO,if_neg λe=>hb e.symm];exact c
theorem Cel.hst{h:zB}{b z kd:Nat}{vs:List Value}(c:Cel h b z kd vs){a off:Nat}{ws:List Value}(hb:b≠a):Cel (hst h a off ws) b z kd vs:=by
 unfold Cel zC;rw [xL,if_neg λe=>hb e.symm];exact c
theorem Cel.put{h:zB}{b z kd:Nat}{vs:List Value}(c:Cel h b z kd vs){off:Nat}{ws:List Value}(ho:off+ws.length≤vs.length)(hk:kd≠3):Cel (Go.Ex.hst h b off ws) b z kd (spl vs off ws):=by
 obtain⟨c1,c2⟩:=c;refine⟨?_,λi=>?_⟩
 · rw[xL,if_pos rfl,rV,vB];exact c1
 · unfold zC;rw [xL,if_pos rfl,cellOf_stC _ _ _ c1 ho hk,spl_get _ _ _ _ ho];by_cases h1:off≤i∧i<off+ws.length
   · rw[if_pos h1,if_pos h1]
   · rw[if_neg h1,if_neg h1];exact c2 i
def Tch(S:List Nat)(h:zB)(n:Nat)(h':zB)(n':Nat):Prop:=n≤n'∧∀b,b<n→b∉S→zF h' b=zF h b
theorem Tch.refl(S:List Nat)(h:zB)(n:Nat):Tch S h n h n:=⟨ae _,λ_ _ _=>rfl⟩
theorem Cel.tch{S:List Nat}{h h':zB}{n n' b z kd:Nat}{vs:List Value}(c:Cel h b z kd vs)(t:Tch S h n h' n')(hb:b<n)(hS:b∉S):Cel h' b z kd vs:=by
 unfold Cel zC;rw [t.2 b hb hS];exact c
theorem Cel.tcm{S:List Nat}{h h':zB}{n n' b z kd:Nat}{vs:List Value}(t:Tch S h n h' n')(c:Cel h b z kd vs)(hb:b<n)(hS:b∉S):Cel h' b z kd vs:=c.tch t hb hS
def Rd(h:zB)(b:Nat):Nat→Nat→List Value→Prop
 | _,0,vs=>vs=[]
 | o,k+1,vs=>∃v r,vs=v::r∧zC h b o=some v∧Rd h b (o+1) k r
theorem Rd.row{h:zB}{b:Nat}:∀{k o:Nat} {vs:List Value},Rd h b o k vs→vs.length=k∧rowAt h b o vs:=by
 intro k
 induction k with
 | zero=>intro o vs h;subst h;exact⟨rfl,rowAt.nil _ _ _⟩
 | succ k ih=>
  rintro o vs ⟨v,r,rfl,h1,h2⟩
  obtain⟨h3,h4⟩:=ih h2;exact⟨by rw[a7,h3],rowAt.cons h1 h4⟩
def Ld1(h:zB)(p v:Value):Prop:=∃b o,p = .pointer (some ⟨b,o,none⟩)∧zC h b o=some v
def LdN(h:zB)(p:Value)(k:Nat)(vs:List Value):Prop:=∃b o,p = .pointer (some ⟨b,o,none⟩)∧0<k∧Rd h b o k vs
def StP(h:zB)(p:Value)(ws:List Value)(h':zB):Prop:=∃b o m z kd,p = .pointer (some ⟨b,o,none⟩)∧yZ (zF h b)=some (m,z,kd)∧(kd≠2∧kd≠3)∧o+ws.length≤m∧(∀x∈ws,x.oneCell'=true)∧h'=hst h b o ws
def One:List Value→Prop
 | []=>True
 | x::r=>x.oneCell'=true∧One r
theorem One.all:∀{l:List Value},One l→∀x∈l,x.oneCell'=true:=by
 intro l
 induction l with
 | nil=>intro _ x hx;cases hx
 | cons a r ih=>
  rintro ⟨h1,h2⟩ x hx
  rcases aA.1 hx with rfl|hx
  · exact h1
  · exact ih h2 x hx
def Bx(v:Value)(cs:List Value):Prop:=cellsOf v=cs∧One cs
theorem StP.of{h:zB}{b o z kd:Nat}{vs ws:List Value}(c:Cel h b z kd vs)(hk:kd≠2∧kd≠3)(ho:o+ws.length≤vs.length)(h1:One ws):StP h (.pointer (some ⟨b,o,none⟩)) ws (hst h b o ws):=
 ⟨b,o,_,_,_,rfl,c.1,hk,ho,h1.all,rfl⟩
def StP'(h:zB)(p:Value)(ws:List Value)(k:Nat)(h':zB):Prop:=StP h p ws h'∧ws.length=k
section
variable {P:Program} {ng:Nat} {cx:Cx} {l:List (Nat×Value)} {t:Fr} {d:List Deferred} {u:Option zI} {h:zB} {n:Nat} {K:W→Value→Prop} {Kp:zI→W→Prop}
theorem wG{c:Tr Value}{i:Nat}{l:List Value}{k:Tr Value→Bool}(h1:∀v∈l,v.oneCell'=true)(hk:k (Tr.ofListFrom undef c i l)=true):xH c i l k=true:=by
 induction l generalizing c i with
 | nil=>exact hk
 | cons v r ih=>
  show forceOne v (λv=>c.setK undef v i λc'=>xH c' (Nat.succ i) r k)=true;have hv:=h1 v (aY ..);have e:∀k:Value→Bool,forceOne v k=k v:=λk=>by cases v <;> first|rfl|(cases hv;done)
  rw[e,Tr.setK_eq];exact ih (λx hx=>h1 x (aT _ hx)) hk
theorem xW(h:zB)(n:Nat)(o:AObj)(k:zB→Nat→Bool):zR h n o k=k (hal h n o) (n+1):=by
 unfold zR;rw [Tr.setK_eq];rfl
theorem rW{b off m z kd:Nat}{vs:List Value}{h:zB}{k:zB→Bool}(hi:yZ (zF h b)=some (m,z,kd))(hk:kd≠2∧kd≠3)(hle:off+vs.length≤m)(h1:∀x∈vs,x.oneCell'=true)(hK:k (hst h b off vs)=true):storeAt h b off vs k=true:=by
 unfold storeAt;have iv:k (h.set .dead (stC (zF h b) off vs) b)=true:=hK;cases ho:zF h b <;> rw[ho]at hi <;> first|(cases hi;done)|(exact absurd (kd_of hi).symm hk.2)|skip
 rename_i c n' z' kd';rw [ho]at iv;injection hi with hi
 injection hi with e1 hi
 injection hi with e2 e3
 subst e1 e2 e3;show(Bool.rec (Bool.rec false (xH c off vs λc'=>h.setK .dead (.cells c' n' z' kd') b k) (Nat.ble (Nat.add off vs.length) n')) false (Nat.beq kd' 2):Bool)=true
 have e4:Nat.beq kd' 2=false:=by
  cases e:Nat.beq kd' 2 with
  | false=>rfl
  | true=>exact absurd (zE e) hk.1
 rw[e4,uF (show Nat.add off vs.length≤n' from hle)];refine wG h1 ?_;rw [Tr.setK_eq];exact iv
theorem q_of{op:Op}{w:W}{v:Value}(hq:xN op P (FA l t) w.h=some v)(k:K w v):OpB P ng op cx (FA l t) w K Kp:=opB_q hq k
instance {x:Operand} {w:W}:Stp (OpB P ng (.move x) cx (FA l t) w K Kp) (Ob (Ev l t x) (K w)):=⟨λ⟨v,h1,h2⟩=>q_of (show xM (ev (FA l t) x) some=_ by rw[yM,yH,show evb l t x=v from h1]) h2⟩
instance {x:Operand} {w:W}:Stp (OpB P ng (.assign x) cx (FA l t) w K Kp) (Ob (Ev l t x) (K w)):=⟨λ⟨v,h1,h2⟩=>q_of (show xM (ev (FA l t) x) some=_ by rw[yM,yH,show evb l t x=v from h1]) h2⟩
instance {c x y:Operand} {w:W}:Stp (OpB P ng (.pick c x y) cx (FA l t) w K Kp) (Ob (λz=>Ev l t c (.bool z)) λz=>Ch z (Ob (Ev l t x) (K w)) (Ob (Ev l t y) (K w))):=
 ⟨λ⟨z,h1,h2,h3⟩=>by
  cases z with
  | true=>
   obtain⟨v,h4,h5⟩:=h2 rfl;exact q_of (v:=v) (show onBool (ev (FA l t) c) (λb=>xM (Bool.rec (ev (FA l t) y) (ev (FA l t) x) b) some) none=_ by rw[yM,show evb l t c=_ from h1];show xM (ev (FA l t) x) some=_;rw [yM,yH,show evb l t x=v from h4]) h5
  | false=>
   obtain⟨v,h4,h5⟩:=h3 rfl;exact q_of (v:=v) (show onBool (ev (FA l t) c) (λb=>xM (Bool.rec (ev (FA l t) y) (ev (FA l t) x) b) some) none=_ by rw[yM,show evb l t c=_ from h1];show xM (ev (FA l t) y) some=_;rw [yM,yH,show evb l t y=v from h4]) h5⟩
instance {ty:Nat} [s:ShC P ty .scal] {x:Operand}:Stp (OpB P ng (.load ty x) cx (FA l t) ⟨d,u,h,n⟩ K Kp) (Ob (Ev l t x) λp=>Ob (Ld1 h p) (K ⟨d,u,h,n⟩)):=
 ⟨λ⟨p,h1,v,⟨b,o,e,h2⟩,h3⟩=>q_of (v:=v) (by
  show qLoad P ty h (ev (FA l t) x)=_;rw [yM,show evb l t x=p from h1,e];exact load_scal s.ok h2) h3⟩
instance {ty k:Nat} [s:ShC P ty (.agg k)] {x:Operand}:Stp (OpB P ng (.load ty x) cx (FA l t) ⟨d,u,h,n⟩ K Kp) (Ob (Ev l t x) λp=>Ob (LdN h p k) λvs=>K ⟨d,u,h,n⟩ (.agg ⟨vs⟩)):=
 ⟨λ⟨p,h1,vs,⟨b,o,e,h0,h2⟩,h3⟩=>q_of (v:=.agg ⟨vs⟩) (by
  show qLoad P ty h (ev (FA l t) x)=_;rw [yM,show evb l t x=p from h1,e];exact load_agg s.ok h2.row.1 h0 h2.row.2) h3⟩
instance {x:Operand} {w:W}:Stp (OpB P ng (.nilCheck x) cx (FA l t) w K Kp) (Ob (Ev l t x) λp=>Ob (λq=>Wh (qNil p) (some q)) (K w)):=
 ⟨λ⟨p,h1,q,h2,h3⟩=>q_of (v:=q) (by
  show qNil (ev (FA l t) x)=_;rw [yM,show evb l t x=p from h1];exact h2) h3⟩
def Fad(o:Nat)(p q:Value):Prop:=∃b off,p = .pointer (some ⟨b,off,none⟩)∧q = .pointer (some ⟨b,off+o,none⟩)
instance {ty f o:Nat} [s:OfC P ty f o] {x:Operand} {w:W}:Stp (OpB P ng (.fieldAddr ty x f) cx (FA l t) w K Kp) (Ob (Ev l t x) λp=>Ob (Fad o p) (K w)):=
 ⟨λ⟨p,h1,q,⟨b,off,e1,e2⟩,h3⟩=>q_of (v:=q) (by
  show(onPtr (ev (FA l t) x) (λb off=>Option.rec none (λo=>some (.pointer (some ⟨b,Nat.add off o,none⟩))) (offOf P ty f)) none:Option Value)=_;rw [yM,show evb l t x=p from h1,e1,e2,s.ok];rfl) h3⟩
def Iad(sz:Nat)(s i q:Value):Prop:=∃b off len cap k j,s = .slice (some ⟨b,off,none⟩) len cap∧i = .int k (.ofNat j)∧j<len∧q = .pointer (some ⟨b,off+j*sz,none⟩)
instance {ty sz:Nat} [s:IxC P ty (.slice sz)] {x i:Operand} {w:W}:Stp (OpB P ng (.indexAddr ty x i) cx (FA l t) w K Kp) (Ob (Ev l t x) λp=>Ob (Ev l t i) λj=>Ob (Iad sz p j) (K w)):=
 ⟨λ⟨p,h1,j,h2,q,⟨b,off,len,cap,k,m,e1,e2,e3,e4⟩,h3⟩=>q_of (v:=q) (by
  show(onInt (ev (FA l t) i) (λ_ i=>Int.rec (λi=>Ix.rec none
   (λsz=>onSlice (ev (FA l t) x) (λb off len _=>Bool.rec none (some (.pointer (some ⟨b,Nat.add off (Nat.mul i sz),none⟩))) (Nat.blt i len)) none)
   (λlen sz=>onPtr (ev (FA l t) x) (λb off=>Bool.rec none (some (.pointer (some ⟨b,Nat.add off (Nat.mul i sz),none⟩))) (Nat.blt i len)) none) (ixOf P ty)) (λ_=>none) i) none:Option Value)=_
  rw[yM,yM,show evb l t x=p from h1,show evb l t i=j from h2,e1,e2,s.ok];show(Bool.rec none (some (.pointer (some ⟨b,Nat.add off (Nat.mul m sz),none⟩))) (Nat.blt m len):Option Value)=_;rw [xE e3,e4];rfl) h3⟩
instance {ty:Nat} {x:Operand} {f:Nat} {w:W}:Stp (OpB P ng (.field ty x f) cx (FA l t) w K Kp) (Ob (Ev l t x) λa=>Ob (λv=>aField P ty a f=some v) (K w)):=
 ⟨λ⟨a,h1,v,h2,h3⟩=>q_of (v:=v) (by show aField P ty (ev (FA l t) x) f=_;rw [yM,show evb l t x=a from h1];exact h2) h3⟩
def Ixv(P:Program)(ty:Nat)(a j v:Value):Prop:=aIndex P ty a j=some v
instance {ty:Nat} {x i:Operand} {w:W}:Stp (OpB P ng (.index ty x i) cx (FA l t) w K Kp) (Ob (Ev l t x) λa=>Ob (Ev l t i) λj=>Ob (Ixv P ty a j) (K w)):=
 ⟨λ⟨a,h1,j,h2,v,h3,h4⟩=>q_of (v:=v) (by show aIndex P ty (ev (FA l t) x) (ev (FA l t) i)=_;rw [yM,yM,show evb l t x=a from h1,show evb l t i=j from h2];exact h3) h4⟩
instance {ty:Nat} {x key:Operand} {ok:Bool}:Stp (OpB P ng (.lookup ty x key ok) cx (FA l t) ⟨d,u,h,n⟩ K Kp) (Ob (Ev l t x) λa=>Ob (Ev l t key) λj=>Ob (λv=>yX P h ty a j ok=some v) (K ⟨d,u,h,n⟩)):=
 ⟨λ⟨a,h1,j,h2,v,h3,h4⟩=>q_of (v:=v) (by show yX P h ty (ev (FA l t) x) (ev (FA l t) key) ok=_;rw [yM,yM,show evb l t x=a from h1,show evb l t key=j from h2];exact h3) h4⟩
def Evo(l:List (Nat×Value))(t:Fr):Option Operand→Option Value→Prop
 | none,v=>v=none
 | some x,v=>∃a,v=some a∧Ev l t x a
theorem Evo.eq{x:Option Operand}{v:Option Value}(h:Evo l t x v):x.map (ev (FA l t))=v:=by
 cases x with
 | none=>exact Eq.symm h
 | some x=>obtain⟨a,rfl,h⟩:=h;show some (ev (FA l t) x)=_;rw [yM];exact congrArg some h
instance {ty:Nat} {x:Operand} {lo hi mx:Option Operand}:Stp (OpB P ng (.slice ty x lo hi mx) cx (FA l t) ⟨d,u,h,n⟩ K Kp)
 (Ob (Ev l t x) λa=>Ob (Evo l t lo) λi=>Ob (Evo l t hi) λj=>Ob (Evo l t mx) λm=>Ob (λv=>wW P h ty a i j m=some v) (K ⟨d,u,h,n⟩)):=
 ⟨λ⟨a,h1,i,h2,j,h3,m,h4,v,h5,h6⟩=>q_of (v:=v) (by show wW P h ty (ev (FA l t) x) _ _ _=_;rw [yM,h2.eq,h3.eq,h4.eq,show evb l t x=a from h1];exact h5) h6⟩
def Bn(P:Program)(op:BinOp)(ty:Nat)(ox oy:Operand)(a b v:Value):Prop:=binV P op ty ox oy a b=some v
instance {op:BinOp} {ty ty2:Nat} {x y:Operand} {w:W}:Stp (OpB P ng (.binOp op ty x y ty2) cx (FA l t) w K Kp) (Ob (Ev l t x) λa=>Ob (Ev l t y) λb=>Ob (Bn P op ty x y a b) (K w)):=
 ⟨λ⟨a,h1,b,h2,v,h3,h4⟩=>q_of (v:=v) (by show binV P op ty x y (ev (FA l t) x) (ev (FA l t) y)=_;rw [yM,yM,show evb l t x=a from h1,show evb l t y=b from h2];exact h3) h4⟩
instance {ty:Nat} {x:Operand} {w:W}:Stp (OpB P ng (.unOp .not ty x) cx (FA l t) w K Kp) (Ob (λz=>Ev l t x (.bool z)) λz=>K w (.bool (!z))):=
 ⟨λ⟨z,h1,h2⟩=>q_of (v:=.bool (!z)) (by show aUn .not (ev (FA l t) x)=_;rw [yM,show evb l t x=_ from h1];rfl) h2⟩
def Cv(P:Program)(dst:Nat)(a v:Value):Prop:=sS P dst a=some v
instance {src dst:Nat} [s:PlC P src] {x:Operand} {w:W}:Stp (OpB P ng (.convert src dst x) cx (FA l t) w K Kp) (Ob (Ev l t x) λa=>Ob (Cv P dst a) (K w)):=
 ⟨λ⟨a,h1,v,h2,h3⟩=>q_of (v:=v) (by
  obtain⟨ds,e,_⟩:=s.get;show(match und P src with|some _=>sS P dst (ev (FA l t) x)|none=>none)=_;rw [yM,show evb l t x=a from h1,e];exact h2) h3⟩
instance {ty:Nat} [s:PlC P ty] {x:Operand} {w:W}:Stp (OpB P ng (.makeInterface ty x) cx (FA l t) w K Kp) (Ob (Ev l t x) λa=>K w (.iface ty a)):=
 ⟨λ⟨a,h1,h3⟩=>q_of (v:=.iface ty a) (by
  obtain⟨ds,e,h2⟩:=s.get;show(match und P ty with|some (.interface _)=>none|some _=>xM (ev (FA l t) x) λv=>some (.iface ty v)|none=>none:Option Value)=_;rw [yM,show evb l t x=a from h1,e];cases ds <;> first|(cases h2;done)|(show xM a _=_;rw [yH])) h3⟩
instance {f:FuncId} {first cap:List Operand} {w:W}:Stp (OpB P ng (.makeFunc (.func f) first.toArray cap.toArray) cx (FA l t) w K Kp) (Ob (Evs l t first) λfs=>Ob (Evs l t cap) λcs=>K w (.func (.func f) ⟨fs⟩ ⟨cs⟩)):=
 ⟨λ⟨fs,h1,cs,h2,h3⟩=>q_of (v:=.func (.func f) ⟨fs⟩ ⟨cs⟩) (by
  show some (Value.func (.func f) ⟨first.toArray.toList.map (ev (FA l t))⟩ ⟨cap.toArray.toList.map (ev (FA l t))⟩)=_;rw [show first.toArray.toList=first from rfl,show cap.toArray.toList=cap from rfl,evs_FA,evs_FA,h1.eq,h2.eq]) h3⟩
instance {x:Operand} {ty asserted:Nat} {ok:Bool} {w:W}:Stp (OpB P ng (.typeAssert x ty asserted ok) cx (FA l t) w K Kp) (Ob (Ev l t x) λa=>Ob (λv=>wL P a asserted ok=some v) (K w)):=
 ⟨λ⟨a,h1,v,h2,h3⟩=>q_of (v:=v) (by show wL P (ev (FA l t) x) asserted ok=_;rw [yM,show evb l t x=a from h1];exact h2) h3⟩
def Ext1(i:Nat)(a v:Value):Prop:=∃vs,a = .tuple ⟨vs⟩∧vs[i]? = some v
instance {x:Operand} {i:Nat} {w:W}:Stp (OpB P ng (.extract x i) cx (FA l t) w K Kp) (Ob (Ev l t x) λa=>Ob (Ext1 i a) (K w)):=
 ⟨λ⟨a,h1,v,⟨vs,h2,h2'⟩,h3⟩=>q_of (v:=v) (by
  show(match ev (FA l t) x with | .tuple vs=>Option.rec none (λv=>xM v some) (vs.toList[i]?)|_=>none:Option Value)=_;rw [yM,show evb l t x=a from h1,h2];show(Option.rec none (λv=>xM v some) (vs[i]?):Option Value)=_;rw [h2'];exact yH v _) h3⟩
def Evp(l:List (Nat×Value))(t:Fr):List (Nat×Operand)→List (Nat×Value)→Prop
 | [],vs=>vs=[]
 | x::r,vs=>∃v vr,vs=(x.1,v)::vr∧Ev l t x.2 v∧Evp l t r vr
theorem Evp.eq:∀{xs:List (Nat×Operand)} {vs:List (Nat×Value)},Evp l t xs vs→(xs.map λp=>(p.1,ev (FA l t) p.2))=vs:=by
 intro xs
 induction xs with
 | nil=>intro vs h;exact Eq.symm h
 | cons x r ih=>
  rintro vs ⟨v,vr,rfl,h1,h2⟩
  rw[bE,ih h2,yM,show evb l t x.2=v from h1]
instance {ty:Nat} {parts:List (Nat×Operand)} {w:W}:Stp (OpB P ng (.build ty parts.toArray) cx (FA l t) w K Kp) (Ob (Evp l t parts) λps=>Ob (λv=>aBuild P ty ps=some v) (K w)):=
 ⟨λ⟨ps,h1,v,h2,h3⟩=>q_of (v:=v) (by show aBuild P ty (parts.toArray.toList.map λp=>(p.1,ev (FA l t) p.2))=_;rw [show parts.toArray.toList=parts from rfl,h1.eq];exact h2) h3⟩
def Qb(P:Program)(b:Builtin)(tys:List TypeId)(asz:List Value)(h:zB)(r:Option Value):Prop:=quietB P b tys asz h=r
def BuB(P:Program)(cx:Cx)(bi:Builtin)(tys:List TypeId)(asz:List Value)(d:List Deferred)(u:Option zI)(h:zB)(n:Nat)(K:W→Value→Prop):Prop:=builtinK P cx bi tys asz ⟨d,u,h,n⟩ (λw v=>xJ (K w v))=true
def blQ(P:Program)(cx:Cx)(bi:Builtin)(tys:List TypeId)(asz:List Value)(d:List Deferred)(u:Option zI)(h:zB)(n:Nat)(K:W→Value→Prop)(r:Option Value):Prop:=match r with
 | some v=>K ⟨d,u,h,n⟩ v
 | none=>BuB P cx bi tys asz d u h n K
instance {bi:Builtin} {tys:List TypeId} {asz:List Value} {v:Value}:Stp (blQ P cx bi tys asz d u h n K (some v)) (K ⟨d,u,h,n⟩ v):=⟨id⟩
instance {bi:Builtin} {tys:List TypeId} {asz:List Value}:Stp (blQ P cx bi tys asz d u h n K none) (BuB P cx bi tys asz d u h n K):=⟨id⟩
instance {bi:Builtin} {args:List Operand} {tys:List Nat}:Stp (OpB P ng (.call ⟨.builtin bi,args.toArray,tys.toArray⟩) cx (FA l t) ⟨d,u,h,n⟩ K Kp)
 (Ob (Evs l t args) λasz=>Ob (Qb P bi tys asz h) (blQ P cx bi tys asz d u h n K)):=
 ⟨λ⟨asz,h1,r,h2,h3⟩=>by
  have e1:xN (.call ⟨.builtin bi,args.toArray,tys.toArray⟩) P (FA l t) h=r:=by
   show quietB P bi tys.toArray.toList (args.toArray.toList.map (ev (FA l t))) h=_;rw [show args.toArray.toList=args from rfl,show tys.toArray.toList=tys from rfl,evs_FA,h1.eq];exact h2
  refine⟨?_,trivial⟩;unfold OpB0;dsimp only;rw [e1]
  cases r with
  | some v=>exact h3
  | none=>
   show builtinK P cx bi tys.toArray.toList (args.toArray.toList.map (ev (FA l t))) ⟨d,u,h,n⟩ (λw v=>xJ (K w v))=true;rw [show args.toArray.toList=args from rfl,show tys.toArray.toList=tys from rfl,evs_FA,h1.eq];exact h3⟩
theorem e_of{op:Op}{w:W}(hq:xN op P (FA l t) w.h=none)(k:eff op P (loS P ng) cx (FA l t) w (λw v=>xJ (K w v)) (λc w=>xJ (Kp c w))=true):OpB P ng op cx (FA l t) w K Kp:=by refine⟨?_,trivial⟩;unfold OpB0;rw [hq];exact k
instance {el:Nat} {cs:List Value} [z:ZeC P el cs]:Stp (OpB P ng (.alloc el) cx (FA l t) ⟨d,u,h,n⟩ K Kp) (K ⟨d,u,hal h n (mkC cs (el+1) 0),n+1⟩ (ptr n 0)):=
 ⟨λh1=>e_of rfl (by
  obtain⟨z,h2,h3⟩:=z.ok;show(Option.rec false (λz=>zR h n (mkCellsT (cellsOf z) el) λh' n'=>xJ (K ⟨d,u,h',n'⟩ (.pointer (some ⟨n,0,none⟩)))) (yW P el):Bool)=true;rw [h2];show zR h n (mkCellsT (cellsOf z) el) _=true;rw [xW,h3];exact isSo_iff.2 h1)⟩
instance {ty:Nat} {x:Operand}:Stp (OpB P ng (.box ty x) cx (FA l t) ⟨d,u,h,n⟩ K Kp) (Ob (Ev l t x) λv=>Ob (Bx v) λcs=>K ⟨d,u,hal h n (mkC cs (ty+1) 0),n+1⟩ (ptr n 0)):=
 ⟨λ⟨v,h1,cs,⟨h2,h3⟩,h4⟩=>e_of rfl (by
  show xH .lF 0 (cellsOf (ev (FA l t) x)) (λc=>zR h n (.cells c (cellsOf (ev (FA l t) x)).length (Nat.succ ty) 0) λh' n'=>xJ (K ⟨d,u,h',n'⟩ (.pointer (some ⟨n,0,none⟩))))=true;rw [yM,show evb l t x=v from h1,h2];refine wG h3.all ?_;rw [xW];exact isSo_iff.2 h4)⟩
instance {ty:Nat} [s:ShC P ty .scal] {x y:Operand}:Stp (OpB P ng (.store ty x y) cx (FA l t) ⟨d,u,h,n⟩ K Kp) (Ob (Ev l t x) λp=>Ob (Ev l t y) λv=>Ob (StP h p [v]) λh'=>K ⟨d,u,h',n⟩ undef):=
 ⟨λ⟨p,h1,v,h2,h',⟨b,o,m,z,kd,e1,e2,e3,e4,e5,e6⟩,h3⟩=>e_of rfl (by
  have hv:cellsOf v=[v]:=by
   have:=e5 v (aY ..);cases v <;> first|rfl|(cases this;done)
  show onPtr (ev (FA l t) x) (λb off=>Sh.rec false
   (Bool.rec false (storeAt h b off (cellsOf (ev (FA l t) y)) λh'=>xJ (K ⟨d,u,h',n⟩ undef)) (Nat.beq (cellsOf (ev (FA l t) y)).length 1))
   (λsz=>Bool.rec false (storeAt h b off (cellsOf (ev (FA l t) y)) λh'=>xJ (K ⟨d,u,h',n⟩ undef)) (Nat.beq (cellsOf (ev (FA l t) y)).length sz)) (yJ P ty)) false=true
  rw[yM,yM,show evb l t x=p from h1,show evb l t y=v from h2,e1,s.ok,hv];subst e6;exact rW e2 e3 e4 e5 (isSo_iff.2 h3))⟩
instance {ty k:Nat} [s:ShC P ty (.agg k)] {x y:Operand}:Stp (OpB P ng (.store ty x y) cx (FA l t) ⟨d,u,h,n⟩ K Kp) (Ob (Ev l t x) λp=>Ob (Ev l t y) λv=>Ob (Wh (cellsOf v)) λcs=>Ob (StP' h p cs k) λh'=>K ⟨d,u,h',n⟩ undef):=
 ⟨λ⟨p,h1,v,h2,cs,hc,h',⟨⟨b,o,m,z,kd,e1,e2,e3,e4,e5,e6⟩,hl⟩,h3⟩=>e_of rfl (by
  show onPtr (ev (FA l t) x) (λb off=>Sh.rec false
   (Bool.rec false (storeAt h b off (cellsOf (ev (FA l t) y)) λh'=>xJ (K ⟨d,u,h',n⟩ undef)) (Nat.beq (cellsOf (ev (FA l t) y)).length 1))
   (λsz=>Bool.rec false (storeAt h b off (cellsOf (ev (FA l t) y)) λh'=>xJ (K ⟨d,u,h',n⟩ undef)) (Nat.beq (cellsOf (ev (FA l t) y)).length sz)) (yJ P ty)) false=true
  rw[yM,yM,show evb l t x=p from h1,show evb l t y=v from h2,e1,s.ok,show cellsOf v=cs from hc];show(Bool.rec false (storeAt h b o cs λh'=>xJ (K ⟨d,u,h',n⟩ undef)) (Nat.beq cs.length k):Bool)=true;rw [hl,aB];subst e6;exact rW e2 e3 e4 e5 (isSo_iff.2 h3))⟩
instance {ty len:Nat} {parts:List (Nat×Operand)}:Stp (OpB P ng (.buildSlice ty len parts.toArray) cx (FA l t) ⟨d,u,h,n⟩ K Kp) (Ob (Evp l t parts) λps=>Ob (λcs=>wM P ty len ps=some (mkC cs 0 0)) λcs=>K ⟨d,u,hal h n (mkC cs 0 0),n+1⟩ (.slice (some ⟨n,0,none⟩) len len)):=
 ⟨λ⟨ps,h1,cs,h2,h3⟩=>e_of rfl (by
  show(Option.rec false (λob=>zR h n ob λh' n'=>xJ (K ⟨d,u,h',n'⟩ (.slice (some ⟨n,0,none⟩) len len))) (wM P ty len (parts.toArray.toList.map λp=>(p.1,ev (FA l t) p.2))):Bool)=true;rw [show parts.toArray.toList=parts from rfl,h1.eq,h2];show zR h n (mkC cs 0 0) _=true;rw [xW];exact isSo_iff.2 h3)⟩
instance {ty:Nat}:Stp (OpB P ng (.makeMap ty none) cx (FA l t) ⟨d,u,h,n⟩ K Kp) (K ⟨d,u,hal h n (.map [] 0),n+1⟩ (.map (some n))):=
 ⟨λh1=>e_of rfl (by
  show zR h n (.map [] 0) (λh' n'=>xJ (K ⟨d,u,h',n'⟩ (.map (some n))))=true;rw [xW];exact isSo_iff.2 h1)⟩
def MSet(P:Program)(ty:Nat)(m k v:Value)(h h':zB):Prop:=∀K:zB→Bool,K h'=true→vK P ty m k v h K=true
instance {ty:Nat} {m k v:Operand}:Stp (OpB P ng (.mapUpdate ty m k v) cx (FA l t) ⟨d,u,h,n⟩ K Kp) (Ob (Ev l t m) λa=>Ob (Ev l t k) λb=>Ob (Ev l t v) λc=>Ob (MSet P ty a b c h) λh'=>K ⟨d,u,h',n⟩ undef):=
 ⟨λ⟨a,h1,b,h2,c,h3,h',h4,h5⟩=>e_of rfl (by
  show vK P ty (ev (FA l t) m) (ev (FA l t) k) (ev (FA l t) v) h (λh=>xJ (K ⟨d,u,h,n⟩ undef))=true;rw [yM,yM,yM,show evb l t m=a from h1,show evb l t k=b from h2,show evb l t v=c from h3];exact h4 _ (isSo_iff.2 h5))⟩
def CallB(P:Program)(ng:Nat)(g:FuncId)(args:List Value)(h:zB)(n:Nat)(K:Out→zB→Nat→Prop):Prop:=(loS P ng).call g args false none h n (λo _ h n=>xJ (K o h n))=true
def calQ(d:List Deferred)(u:Option zI)(K:W→Value→Prop)(Kp:zI→W→Prop):Out→zB→Nat→Prop:=λo h n=>match o with
 | .ret v=>K ⟨d,u,h,n⟩ v
 | .panic c=>Kp c ⟨d,u,h,n⟩
instance {v:Value}:Stp (calQ d u K Kp (.ret v) h n) (K ⟨d,u,h,n⟩ v):=⟨id⟩
instance {c:zI}:Stp (calQ d u K Kp (.panic c) h n) (Kp c ⟨d,u,h,n⟩):=⟨id⟩
theorem calQ_so:(λ(o:Out) (_:Option zI) h n=>xJ (calQ d u K Kp o h n))=λo _ h n=>Out.rec (λv=>xJ (K ⟨d,u,h,n⟩ v)) (λc=>xJ (Kp c ⟨d,u,h,n⟩)) o:=by
 funext o _ h n
 cases o <;> rfl
theorem call_eff{fv:Value}{g:FuncId}{fs cs:List Value}{args:List Operand}{asz:List Value}{f:Operand}{tys:Array Nat}(h1:evb l t f=fv)(h2:fv = .func (.func g) ⟨fs⟩ ⟨cs⟩)(h3:evs l t args=asz)
(h4:CallB P ng g (fs++(asz++cs)) h n (calQ d u K Kp)):eff (.call ⟨.value f,args.toArray,tys⟩) P (loS P ng) cx (FA l t) ⟨d,u,h,n⟩ (λw v=>xJ (K w v)) (λc w=>xJ (Kp c w))=true:=by
 show xinvoke (loS P ng) (ev (FA l t) f) (args.toArray.toList.map (ev (FA l t))) h n (λv h n=>xJ (K ⟨d,u,h,n⟩ v)) (λc h n=>xJ (Kp c ⟨d,u,h,n⟩))=true;rw [show args.toArray.toList=args from rfl,evs_FA,h3,yM,h1,h2];unfold CallB at h4;rw [calQ_so]at h4;exact h4
instance {g:FuncId} {args:List Operand} {tys:Array Nat}:Stp (OpB P ng (.call ⟨.value (.func g),args.toArray,tys⟩) cx (FA l t) ⟨d,u,h,n⟩ K Kp) (Ob (Evs l t args) λasz=>CallB P ng g asz h n (calQ d u K Kp)):=
 ⟨λ⟨asz,h1,h2⟩=>e_of rfl (call_eff (fs:=[]) (cs:=[]) rfl rfl h1.eq (by simpa using h2))⟩
def InvB(P:Program)(ng:Nat)(f:Value)(args:List Value)(h:zB)(n:Nat)(d:List Deferred)(u:Option zI)(K:W→Value→Prop)(Kp:zI→W→Prop):Prop:=
 xinvoke (loS P ng) f args h n (λv h n=>xJ (K ⟨d,u,h,n⟩ v)) (λc h n=>xJ (Kp c ⟨d,u,h,n⟩))=true
instance {i:Nat} {args:List Operand} {tys:Array Nat}:Stp (OpB P ng (.call ⟨.value (.tmp i),args.toArray,tys⟩) cx (FA l t) ⟨d,u,h,n⟩ K Kp) (Ob (Ev l t (.tmp i)) λf=>Ob (Evs l t args) λasz=>InvB P ng f asz h n d u K Kp):=
 ⟨λ⟨f,h1,asz,h2,h3⟩=>e_of rfl (by
  show xinvoke (loS P ng) (ev (FA l t) (.tmp i)) (args.toArray.toList.map (ev (FA l t))) h n (λv h n=>xJ (K ⟨d,u,h,n⟩ v)) (λc h n=>xJ (Kp c ⟨d,u,h,n⟩))=true;rw [show args.toArray.toList=args from rfl,evs_FA,h2.eq,yM,show evb l t (.tmp i)=f from h1];exact h3)⟩
instance {g:FuncId} {fs cs asz:List Value}:Stp (InvB P ng (.func (.func g) ⟨fs⟩ ⟨cs⟩) asz h n d u K Kp) (Ob (Wh (fs++(asz++cs))) λall=>CallB P ng g all h n (calQ d u K Kp)):=
 ⟨λ⟨all,h1,h2⟩=>by
  have h1:fs++(asz++cs)=all:=h1;subst h1;unfold CallB at h2;rw [calQ_so]at h2;exact h2⟩
def Ifv(v:Value)(p:Nat×Value):Prop:=v = .iface p.1 p.2
theorem ifv_of{t:Nat}{v:Value}:Ifv (.iface t v) (t,v):=rfl
def Fnv(fv:Value)(p:FuncId×List Value×Array Value):Prop:=fv = .func (.func p.1) ⟨p.2.1⟩ p.2.2
theorem fnv_of{g:FuncId}{fs:List Value}{cs:Array Value}:Fnv (.func (.func g) ⟨fs⟩ cs) (g,fs,cs):=rfl
instance {f:Operand} {args:List Operand} {tys:Array Nat} {fn:FuncId} {df:Bool}:Stp (OpB P ng (.defer ⟨.value f,args.toArray,tys⟩) ⟨fn,none,df⟩ (FA l t) ⟨d,u,h,n⟩ K Kp)
 (Ob (Ev l t f) λfv=>Ob (Evs l t args) λasz=>Ob (Fnv fv) λp=>K ⟨{ target:=.fn (.func p.1) p.2.2,args:=⟨p.2.1++asz⟩ }::d,u,h,n⟩ undef):=
 ⟨λ⟨fv,h1,asz,h2,⟨g,fs,cs⟩,h3,h4⟩=>e_of rfl (by
  show(match ev (FA l t) f with
   | .func (.func g) first cap=>xJ (K ⟨{ target:=.fn (.func g) cap,args:=⟨first.toList++args.toArray.toList.map (ev (FA l t))⟩ }::d,u,h,n⟩ undef)
   | _=>false)=true
  rw[show args.toArray.toList=args from rfl,evs_FA,h2.eq,yM,show evb l t f=fv from h1,h3];exact isSo_iff.2 h4)⟩
instance {x:Operand} {w:W}:Stp (OpB P ng (.panic x) cx (FA l t) w K Kp) (Ob (Ev l t x) λv=>Ob (Ifv v) λp=>Kp [⟨.iface p.1 p.2,false,false⟩] w):=
 ⟨λ⟨v',h1,⟨ty,v⟩,fl,h2⟩=>e_of rfl (by
  show(match ev (FA l t) x with
   | .iface ty v=>xJ (Kp [⟨.iface ty v,false,false⟩] w)
   | _=>false)=true
  rw[yM,show evb l t x=_ from h1,show v'=_ from fl];exact isSo_iff.2 h2)⟩
end
end
section
section
variable {P:Program} {ng:Nat}
def Com(P:Program)(ng:Nat)(f:FuncId)(args:List Value)(h:zB)(n:Nat)(Q:Out→zB→Nat→Prop):Prop:=∀u:Option zI,∃o h' n',Q o h' n'∧CallTo P ng f args false u h n o u h' n'
abbrev Ret(P:Program)(ng:Nat)(f:FuncId)(args:List Value)(h:zB)(n:Nat)(Q:Value→zB→Nat→Prop):Prop:=Com P ng f args h n λo h' n'=>∃v,o = .ret v∧Q v h' n'
abbrev Pur(P:Program)(ng:Nat)(f:FuncId)(args:List Value)(h:zB)(n:Nat)(v:Value):Prop:=Com P ng f args h n λo h' n'=>o = .ret v∧h'=h∧n'=n
theorem Com.mono{f:FuncId}{args:List Value}{h:zB}{n:Nat}{Q Q':Out→zB→Nat→Prop}(c:Com P ng f args h n Q)(hq:∀o h' n',Q o h' n'→Q' o h' n'):Com P ng f args h n Q':=λu=>by
  obtain⟨o,h',n',q,r⟩:=c u;exact⟨o,h',n',hq _ _ _ q,r⟩
 class IsCall (G:Prop) (P:outParam Program) (ng:outParam Nat) (g:outParam FuncId) (args:outParam (List Value)) (h:outParam zB) (n:outParam Nat) (K:outParam (Out→zB→Nat→Prop)):Prop where ok:CallB P ng g args h n K→G
instance {P:Program} {ng:Nat} {g:FuncId} {args:List Value} {h:zB} {n:Nat} {K:Out→zB→Nat→Prop}:IsCall (CallB P ng g args h n K) P ng g args h n K:=⟨id⟩
theorem cal0{g:FuncId}{args:List Value}{h:zB}{n:Nat}{Q K:Out→zB→Nat→Prop}(c:Com P ng g args h n Q)(k:∀o h' n',Q o h' n'→K o h' n'):CallB P ng g args h n K:=by
 obtain⟨o,h',n',q,r⟩:=c none;exact loS_call.2 ⟨o,none,h',n',isSo_iff.2 (k _ _ _ q),r⟩
theorem cal{G:Prop}{g:FuncId}{args:List Value}{h:zB}{n:Nat}{Q K:Out→zB→Nat→Prop}[s:IsCall G P ng g args h n K](c:Com P ng g args h n Q)(k:∀o h' n',Q o h' n'→K o h' n'):G:=s.ok (cal0 c k)
theorem wY{G:Prop}{g:FuncId}{args:List Value}{h:zB}{n:Nat}{Q:Value→zB→Nat→Prop}{K:Out→zB→Nat→Prop}[s:IsCall G P ng g args h n K](c:Ret P ng g args h n Q)(k:∀v h' n',Q v h' n'→K (.ret v) h' n'):G:=
 s.ok (cal0 c λo h' n' ⟨v,e,q⟩=>by rw[e];exact k v h' n' q)
theorem zX{G:Prop}{g:FuncId}{args:List Value}{h:zB}{n:Nat}{v:Value}{K:Out→zB→Nat→Prop}[s:IsCall G P ng g args h n K](c:Pur P ng g args h n v)(k:K (.ret v) h n):G:=
  s.ok (cal0 c λo h' n' ⟨e1,e2,e3⟩=>by rw[e1,e2,e3];exact k)
 class PurC (P:Program) (ng:Nat) (g:FuncId) (args:List Value) (h:zB) (n:Nat) (v:outParam Value):Prop where ok:Pur P ng g args h n v
theorem calC{G:Prop}{g:FuncId}{args:List Value}{h:zB}{n:Nat}{v:Value}{K:Out→zB→Nat→Prop}[s:IsCall G P ng g args h n K][c:PurC P ng g args h n v](k:K (.ret v) h n):G:=s.ok (zX c.ok k)
theorem Com.pure{f:FuncId}{args:List Value}{h:zB}{n:Nat}{v:Value}(c:Com P ng f args h n λo h' n'=>o = .ret v∧Tch [] h n h' n')(hv:xU v=true∨∃l:List Value,v = .tuple ⟨l⟩∧l.all xU=true):Pur P ng f args h n v:=λu=>by
 obtain⟨o,h',n',⟨rfl,t⟩,r⟩:=c none;exact⟨_,h,n,⟨rfl,rfl,rfl⟩,r.pureE ⟨t.1,λb hb=>t.2 b hb (by simp)⟩ hv u⟩
def arl:Nat→List Value→List (Nat×Value)→List (Nat×Value)
 | _,[],acc=>acc
 | i,v::r,acc=>arl (i+1) r ((i,v)::acc)
theorem arl_FA:∀(args:List Value) (i:Nat) (acc:List (Nat×Value)) (t:Fr),Tr.ofListFrom undef (FA acc t) i args=FA (arl i args acc) t:=by
  intro args
  induction args with
  | nil=>intro i acc t;rfl
  | cons v r ih=>intro i acc t;exact ih (i+1) ((i,v)::acc) t
 class BoC (P:Program) (f:FuncId) (fn:outParam Func):Prop where ok:∀c,fn.body=some c→bodyOf P f=some (fn,c)
def retQ(P:Program)(ng:Nat)(fn:Func)(u:Option zI)(Q:Out→zB→Nat→Prop):QX:=λx t w=>match x with
 | .normal=>(loS P ng).leave fn none t w (λo u' h' n'=>xJ (u'=u∧Q o h' n'))=true
 | .ret=>(loS P ng).leave fn none t w (λo u' h' n'=>xJ (u'=u∧Q o h' n'))=true
 | .panic c=>(loS P ng).leave fn (some c) t w (λo u' h' n'=>xJ (u'=u∧Q o h' n'))=true
 | _=>False
theorem ent[Fit P ng]{f:FuncId}{fn:Func}[b:BoC P f fn]{c:Code}{args:List Value}{h:zB}{n:Nat}{Q:Out→zB→Nat→Prop}
(k:∀u,WC P ng c ⟨f,none,false⟩ (FA (arl 0 args []) .lF) ⟨[],u,h,n⟩ (retQ P ng fn u Q))(hc:fn.body=some c:=by exact rfl)(hl:Nat.ble args.length fn.ntmps=true:=by exact rfl):Com P ng f args h n Q:=λu=>by
 have hx:xcall P (loS P ng) f args false u h n (λo u' h' n'=>xJ (u'=u∧Q o h' n'))=true:=by
  unfold xcall;rw [b.ok c hc]
  show(Bool.rec false (args0 fr0 0 args λt=>
   (loS P ng).code c ⟨f,none,false⟩ t ⟨[],u,h,n⟩ λx t w=>AX.rec ((loS P ng).leave fn none t w (λo u' h' n'=>xJ (u'=u∧Q o h' n'))) (λ_=>false) (λ_=>false) ((loS P ng).leave fn none t w (λo u' h' n'=>xJ (u'=u∧Q o h' n'))) (λc=>(loS P ng).leave fn (some c) t w (λo u' h' n'=>xJ (u'=u∧Q o h' n'))) x) (Nat.ble args.length fn.ntmps):Bool)=true
  rw[hl,args0_eq,show fr0=FA [] .lF from rfl,arl_FA];obtain⟨x,t',w',q,r⟩:=k u;refine loS_code.2 ⟨x,t',w',?_,r⟩
  cases x with
  | normal=>exact q
  | exit i=>exact q.elim
  | goto i=>exact q.elim
  | ret=>exact q
  | panic c=>exact q
 obtain⟨o,u',h',n',q,r⟩:=xcall_ok (Fit.ok) rU hx;obtain⟨e,q2⟩:=isSo_iff.1 q;subst e;exact⟨o,h',n',q2,r⟩
theorem leave_of[Fit P ng]{fn:Func}{mode:Option zI}{t:Fr}{w:W}{k:KO}(h:xleave P (loS P ng) fn mode t w k=true):(loS P ng).leave fn mode t w k=true:=by
 obtain⟨o,u',h',n',q,r⟩:=xleave_ok (Fit.ok) rU h;exact loS_leave.2 ⟨o,u',h',n',q,r⟩
def Rs(P:Program)(l:List (Nat×Value))(t:Fr)(h:zB):List ResultVar→List Value→Prop
 | [],vs=>vs=[]
 | .tmp i::r,vs=>∃v vr,vs=v::vr∧lk l t i=v∧Rs P l t h r vr
 | .cell i ty::r,vs=>∃v vr,vs=v::vr∧qLoad P ty h (lk l t i)=some v∧Rs P l t h r vr
theorem Rs.eq{l:List (Nat×Value)}{t:Fr}{h:zB}:∀{rs:List ResultVar} {vs:List Value},Rs P l t h rs vs→yY P (FA l t) h rs=some vs:=by
 intro rs
 induction rs with
 | nil=>intro vs h;rw [show vs=[] from h];rfl
 | cons x r ih =>
  intro vs hv
  cases x with
  | tmp i=>
   obtain⟨v,vr,rfl,h1,h2⟩:=hv;unfold yY;rw [ih h2,fget_FA,h1]
  | cell i ty=>
   obtain⟨v,vr,rfl,h1,h2⟩:=hv;have fl:ldV P h ty (lk l t i)=some v:=h1;unfold yY;rw [ih h2,fget_FA,fl]
theorem ret_of[Fit P ng]{fn:Func}{u:Option zI}{Q:Out→zB→Nat→Prop}{l:List (Nat×Value)}{t:Fr}{h:zB}{n:Nat}(k:Ob (Wh fn.results.toList) λrs=>Ob (Rs P l t h rs) λvs=>Ob (Wh (sD vs)) λv=>Q (.ret v) h n) :
 (loS P ng).leave fn none (FA l t) ⟨[],u,h,n⟩ (λo u' h' n'=>xJ (u'=u∧Q o h' n'))=true:=by
 obtain⟨rs,e1,vs,e2,v,e3,q⟩:=k;refine leave_of ?_
 show(match yY P (FA l t) h fn.results.toList with
  | some l=>xM (sD l) λv=>xJ (u=u∧Q (.ret v) h n)
  | none=>false)=true
 rw[show fn.results.toList=rs from e1,e2.eq];show xM (sD vs) _=true;rw [yH,show sD vs=v from e3];exact isSo_iff.2 ⟨rfl,q⟩
instance [Fit P ng] {fn:Func} {u:Option zI} {Q:Out→zB→Nat→Prop} {l:List (Nat×Value)} {t:Fr} {h:zB} {n:Nat}:Stp (retQ P ng fn u Q .ret (FA l t) ⟨[],u,h,n⟩) (Ob (Wh fn.results.toList) λrs=>Ob (Rs P l t h rs) λvs=>Ob (Wh (sD vs)) λv=>Q (.ret v) h n):=⟨ret_of⟩
instance [Fit P ng] {fn:Func} {u:Option zI} {Q:Out→zB→Nat→Prop} {l:List (Nat×Value)} {t:Fr} {h:zB} {n:Nat}:Stp (retQ P ng fn u Q .normal (FA l t) ⟨[],u,h,n⟩) (Ob (Wh fn.results.toList) λrs=>Ob (Rs P l t h rs) λvs=>Ob (Wh (sD vs)) λv=>Q (.ret v) h n):=⟨ret_of⟩
instance [Fit P ng] {fn:Func} {u:Option zI} {Q:Out→zB→Nat→Prop} {t:Fr} {h:zB} {n:Nat} {c:zI}:Stp (retQ P ng fn u Q (.panic c) t ⟨[],u,h,n⟩) (Q (.panic c) h n):=⟨λq=>leave_of (isSo_iff.2 ⟨rfl,q⟩)⟩
section
variable {ty:Nat} {ox oy:Operand} {k:IntKind} {a b:Int}
theorem binI{op:BinOp}:binV P op ty ox oy (.int k a) (.int k b)=intOp op k a b (aBin P op ty ox oy (.int k a) (.int k b)):=by
 show(Bool.rec _ _ (xZ k k):Option Value)=_;have:xZ k k=true:=by cases k <;> rfl
 rw[this]
theorem wrap_in{x:Int}(h: -9223372036854775808≤x∧x<9223372036854775808):uT .i64 x=x:=by
 rw[wS];exact Go.IntWalk.i64_in x (by omega)
theorem bn_add(h: -9223372036854775808≤a+b∧a+b<9223372036854775808):Bn P .add ty ox oy (I64 a) (I64 b) (I64 (a+b)):=by
 unfold Bn;rw [binI];show(Int.rec (λm=>some (.int .i64 (.ofNat m))) (λm=>some (.int .i64 (.negSucc m))) (uT .i64 (iadd a b)):Option Value)=_;rw [iadd_eq,wrap_in h];cases a+b <;> rfl
theorem bn_sub(h: -9223372036854775808≤a - b∧a - b<9223372036854775808):Bn P .sub ty ox oy (I64 a) (I64 b) (I64 (a - b)):=by
 unfold Bn;rw [binI];show(Int.rec (λm=>some (.int .i64 (.ofNat m))) (λm=>some (.int .i64 (.negSucc m))) (uT .i64 (isub a b)):Option Value)=_;rw [isub_eq,wrap_in h];cases a - b <;> rfl
theorem bn_eq:Bn P .eql ty ox oy (.int k a) (.int k b) (.bool (decide (a=b))):=by unfold Bn;rw [binI,← wO];rfl
theorem bn_ne:Bn P .neq ty ox oy (.int k a) (.int k b) (.bool (decide (a≠b))):=by
 unfold Bn;rw [binI];show some (Value.bool (Bool.rec true false (ieqB a b)))=_;rw [wO];by_cases h:a=b
 · rw[decide_eq_true h,decide_eq_false (by simpa using h)]
 · rw[decide_eq_false h,decide_eq_true h]
theorem bn_lt:Bn P .lss ty ox oy (.int k a) (.int k b) (.bool (decide (a<b))):=by unfold Bn;rw [binI,← iltB_eq];rfl
theorem bn_le:Bn P .leq ty ox oy (.int k a) (.int k b) (.bool (decide (a≤b))):=by unfold Bn;rw [binI,← ileB_eq];rfl
theorem bn_gt:Bn P .gtr ty ox oy (.int k a) (.int k b) (.bool (decide (b<a))):=by unfold Bn;rw [binI,← iltB_eq];rfl
theorem bn_ge:Bn P .geq ty ox oy (.int k a) (.int k b) (.bool (decide (b≤a))):=by unfold Bn;rw [binI,← ileB_eq];rfl
end
theorem cv_int{dst:Nat}{k k':IntKind}[s:IkC P dst k']{a:Int}:Cv P dst (.int k a) (.int k' (k'.wrap a)):=by
 show sS P dst _=_;unfold sS;rw [s.ok];show some (Value.int k' (uT k' a))=_;rw [wS]
theorem bn_subu{ty:Nat}{ox oy:Operand}{a b:Int}:Bn P .sub ty ox oy (.int .u64 a) (.int .u64 b) (.int .u64 (IntKind.wrap .u64 (a - b))):=by
 unfold Bn;rw [binI];show(Int.rec (λm=>some (.int .u64 (.ofNat m))) (λm=>some (.int .u64 (.negSucc m))) (uT .u64 (isub a b)):Option Value)=_;rw [isub_eq,wS];cases IntKind.wrap .u64 (a - b) <;> rfl
theorem wP(x y:List UInt8):vF x y=decide (x=y):=by
 induction x generalizing y with
 | nil=>cases y <;> rfl
 | cons a x ih =>
  cases y with
  | nil=>rfl
  | cons b y=>
   show cond (Nat.beq a.toNat b.toNat) (vF x y) false=_;rw [ih];by_cases h:a=b
   · subst h;rw [aB];simp
   · have:Nat.beq a.toNat b.toNat=false:=by
      cases e:Nat.beq a.toNat b.toNat with
      | false=>rfl
      | true=>exact absurd (UInt8.toNat_inj.1 (zE e)) h
     rw[this,decide_eq_false λe=>h (List.cons.inj e).1];rfl
theorem bs_eq{ty:Nat}{ox oy:Operand}{a b:List UInt8}:Bn P .eql ty ox oy (str a) (str b) (.bool (decide (a=b))):=by
 show some (Value.bool (vF a b))=_;rw [wP]
theorem bs_ne{ty:Nat}{ox oy:Operand}{a b:List UInt8}:Bn P .neq ty ox oy (str a) (str b) (.bool (decide (a≠b))):=by
 show some (Value.bool (!vF a b))=_;rw [wP,decide_not]
theorem ixv_str{ty:Nat}[s:UnC P ty .string]{a:List UInt8}{k:IntKind}{i:Nat}{b:UInt8}(hb:a[i]? = some b):Ixv P ty (str a) (.int k (i:Nat)) (.int .u8 (b.toNat:Nat)):=by
 show aIndex P ty _ _=_;unfold aIndex;rw [s.ok]
 show(match nthB a i with
  | some b=>some (Value.int .u8 (.ofNat b.toNat))
  | none=>none)=_
 rw[nthB_eq,hb];rfl
theorem len_slc{ty:Nat}{e:TypeId}[s:UnC P ty (.slice e)]{p:Option Addr}{m c:Nat}{h:zB}:Qb P .len [ty] [.slice p m c] h (some (I64 (m:Nat))):=by
 show aLen P h ty _=_;unfold aLen;rw [s.ok];rfl
theorem len_txt{ty:Nat}[s:UnC P ty .string]{a:List UInt8}{h:zB}:Qb P .len [ty] [str a] h (some (I64 (a.length:Nat))):=by
 show aLen P h ty _=_;unfold aLen;rw [s.ok];rfl
theorem bi_app{tys:List Nat}{asz:List Value}{h:zB}:Qb P .append tys asz h none:=rfl
theorem bi_rec{tys:List Nat}{asz:List Value}{h:zB}:Qb P .recover tys asz h none:=rfl
end
end
section
abbrev KH:=zB→Nat→Value→Bool
noncomputable def vG(P:Program)(tys:List TypeId)(args:List Value)(h:zB)(n:Nat)(K:KH):Bool:=sC P tys args h n λv h n=>K h n v
noncomputable def apTB(P:Program)(sT xT el sz:Nat):Bool:=
 match und P sT,und P xT with
 | some (.slice e), some xd => match xd with
  | .int _=>false
  | _=>match inf? P e,yW P e with
   | some ei,some z=>Nat.beq e el && (Nat.beq ei.size sz && (Nat.beq (cellsOf z).length sz && (Nat.blt 0 sz && Nat.blt ei.bytes 100000)))
   | _,_=>false
 | _,_=>false
theorem apTB_of{P:Program}{sT xT e sz:Nat}(h:apTB P sT xT e sz=true):∃xd ei z,und P sT=some (.slice e)∧und P xT=some xd∧(∀k,xd≠.int k)∧inf? P e=some ei∧yW P e=some z∧ei.size=sz∧(cellsOf z).length=sz∧0<sz∧ei.bytes<100000:=by
 unfold apTB at h;split at h
 · rename_i e' xd h1 h2;split at h
   · cases h
   · rename_i eh;split at h
     · rename_i ei z h3 h4;obtain⟨a0,eY⟩:=ad.1 h;obtain rfl:=zE a0;obtain⟨a1,a2⟩:=ad.1 eY;obtain⟨a2,a3⟩:=ad.1 a2;obtain⟨a3,a4⟩:=ad.1 a3;exact⟨xd,ei,z,h1,h2,λk hk=>eh k hk,h3,h4,zE a1,zE a2,zU a3,zU a4⟩
     · cases h
 · cases h
def Own(lo n:Nat)(h:zB)(v:Value)(e sz:Nat)(len:Nat)(vs:List Value):Prop:=
 (v = .slice none 0 0∧len=0∧vs=[])∨∃b,lo≤b∧b<n∧v = .slice (some ⟨b,0,none⟩) len inf∧yZ (zF h b)=some (vs.length,zc e sz,1)∧vs.length=len*sz∧0<len∧∀i,zC h b i=vs[i]?
def Row(n:Nat)(h:zB)(v:Value)(e sz len:Nat)(vs:List Value):Prop:=
 (v = .slice none 0 0∧len=0∧vs=[])∨∃b off cap m z kd,b<n∧v = .slice (some ⟨b,off,none⟩) len cap∧vs.length=len*sz∧yZ (zF h b)=some (m,z,kd)∧off+vs.length≤m∧rowAt h b off vs∧((cap<inf∧len≤cap)∨(cap=inf∧kd=1∧z=zc e sz∧1≤sz))
def zP:Value→Option Nat
 | .slice (some a) _ _=>some a.block
 | _=>none
theorem row_of{n:Nat}{h:zB}{v:Value}{e sz len:Nat}{vs:List Value}(r:Row n h v e sz len vs):rowOf h sz len v=some vs∧lenV v=some len∧strFits sz v=true:=by
 rcases r with⟨rfl,rfl,rfl⟩|⟨b,off,cap,m,z,kd,hb,rfl,hl,hi,hm,hr⟩
 · exact⟨rfl,rfl,rfl⟩
 · refine⟨?_,rfl,rfl⟩;obtain⟨hr,eT⟩:=hr;unfold rowAt zC at hr;unfold rowOf;dsimp only;have e1:Nat.mul len sz=vs.length:=hl.symm
   have e:∀kn,kn=m→(Nat.ble len len && Nat.ble (Nat.add off (Nat.mul len sz)) kn)=true:=λkn hk=>by
    rw[e1,uF (ae _),hk,uF (show Nat.add off vs.length≤m from hm)];rfl
   cases hg:zF h b <;> rw[hg]at hi <;> first|(cases hi;done)|skip
   · rename_i c kn z' kd';injection hi with hi
     injection hi with h1 h2
     rw[hg]at hr;dsimp only;rw [e kn h1,e1];show some (c.toListFrom undef off vs.length)=some vs;rw [row_list (λi v e=>cells_cell e) hr]
   · rename_i c kn;injection hi with hi
     injection hi with h1 h2
     rw[hg]at hr;dsimp only;rw [e kn h1,e1];show knownL (c.toListFrom undef off vs.length)=some vs;rw [row_list (λi v e=>(rows_cell e).1) hr];exact knownL_of (rows_known hr)
section
variable {P:Program}
theorem uO{sz n:Nat}{h:zB}{e:TypeId}{xd:TypeDesc}(eh:∀k,xd≠.int k){x:Value}{m:Nat}{new:List Value}(r:Row n h x e sz m new):xD P h e sz xd x=some (m,new):=by
 obtain⟨r1,r2,r3⟩:=row_of r;unfold xD;split
 · rename_i k;exact absurd rfl (eh k)
 · rw[r2];dsimp only;rw [r3,r1];rfl
theorem append_own0{sT xT e sz lo n len m:Nat}{h:zB}{v x:Value}{vs new:List Value}{K:KH}(hT:apTB P sT xT e sz=true)(ho:Own lo n h v e sz len vs)(dX:lo≤n)(hap0:∀xd,(∀k,xd≠.int k)→xD P h e sz xd x=some (m,new))(hnew:new.length=m*sz)(h1:∀y∈new,y.oneCell'=true)
(hlim:len+m<1000000)(hK:∀v' h' n',Own lo n' h' v' e sz (len+m) (vs++new)→n≤n'→(∀b,b<n→zP v≠some b→zF h' b=zF h b)→K h' n' v'=true):vG P [sT,xT] [v,x] h n K=true:=by
 obtain⟨xd,ei,z,t1,t2,t3,t4,t5,t6,t7,t8,t9⟩:=apTB_of hT;have gL:xD P h e ei.size xd x=some (m,new):=by rw[t6];exact hap0 _ t3
 unfold vG sC
 obtain⟨base,cap,hv⟩:∃base cap,v = .slice base len cap:=by
  rcases ho with⟨rfl,rfl,rfl⟩|⟨b,_,_,rfl,_⟩
  · exact⟨_,_,rfl⟩
  · exact⟨_,_,rfl⟩
 subst hv;dsimp only;rw [t1,t2];dsimp only;rw [t4,t5];dsimp only;rw [gL];dsimp only
 have c1:(Nat.beq ei.size 0 || !Nat.beq (cellsOf z).length ei.size || !Nat.blt (Nat.add len m) 1000000 || !Nat.blt ei.bytes 100000)=false:=by
  have a1:Nat.beq ei.size 0=false:=by
   cases e9:Nat.beq ei.size 0 with
   | false=>rfl
   | true=>have:=zE e9;omega
  have a2:Nat.beq (cellsOf z).length ei.size=true:=by rw[t7,t6];exact aB _
  rw[a1,a2,xE (show Nat.add len m<1000000 from hlim),xE t9];rfl
 rw[c1];show cond (Nat.beq m 0 && !Nat.beq cap 0 && (Nat.beq cap inf || Nat.ble len cap)) _ _=true;by_cases hm:m=0
 · subst hm;have gh:new=[]:=aH.1 (by simpa using hnew);subst gh;rcases ho with⟨hv,rfl,rfl⟩|⟨b,q1,q2,hv,q3,q4,q5,q6⟩
   · injection hv with eZ _ hv2
     subst eZ hv2;show K h n (.slice none 0 0)=true;exact hK _ _ _ (.inl ⟨rfl,rfl,rfl⟩) (ae _) λ_ _ _=>rfl
   · injection hv with eZ _ hv2
     subst eZ hv2;show K h n (.slice (some ⟨b,0,none⟩) len inf)=true;refine hK _ _ _ (.inr ⟨b,q1,q2,rfl,?_⟩) (ae _) λ_ _ _=>rfl;rw [bK];exact⟨q3,q4,q5,q6⟩
 · have fx:Nat.beq m 0=false:=by
    cases e9:Nat.beq m 0 with
    | false=>rfl
    | true=>exact absurd (zE e9) hm
   rw[fx];show cond (Nat.beq cap inf) _ _=true;rcases ho with⟨hv,rfl,rfl⟩|⟨b,q1,q2,hv,q3,q4,q5,q6⟩
   · injection hv with eZ _ hv2
     subst eZ hv2;have fF:Nat.beq 0 inf=false:=by decide
     rw[fF];dsimp only[cond_false];unfold growEx
     have b1:Nat.ble (Nat.add 0 m) 0=false:=by
      cases e9:Nat.ble (Nat.add 0 m) 0 with
      | false=>rfl
      | true=>
       have h9:Nat.add 0 m≤0:=yK e9;have ft:0+m≤0:=h9;omega
     rw[b1];show xH .lF 0 ([]++new) _=true;refine wG h1 ?_;rw [zV]
     have eh:Nat.mul (Nat.add 0 m) ei.size=new.length:=by
      have:Nat.add 0 m=m:=aG m;rw [this,t6];exact hnew.symm
     rw[eh,t6];have hz:Nat.add 0 m=m:=aG m;rw [hz];have jb:0<m:=by omega
     refine hK _ _ _ (.inr ⟨n,dX,aS n,by rw[aG],?_,?_,by omega,λi=>?_⟩) (cy n) λb hb _=>?_
     · rw[zH,if_pos rfl];rfl
     · simpa using hnew
     · unfold zC;rw [zH,if_pos rfl];exact vO new (zc e sz) 1 i
     · rw[zH,if_neg (by omega)]
   · injection hv with eZ _ hv2
     subst eZ hv2;have fw:Nat.beq inf inf=true:=aB inf;rw [fw];show tO h n b len m ei.size (zc e ei.size) new (λv h n=>K h n v)=true;unfold tO;cases hg:zF h b <;> rw[hg]at q3 <;> first|(cases q3;done)|(exact absurd (kd_of q3) (by decide))|skip
     rename_i c kn z' kd';have q3':some (kn,z',kd')=some (vs.length,zc e sz,1):=q3;simp only[Option.some.injEq,Prod.mk.injEq]at q3';obtain⟨rfl,rfl,rfl⟩:=q3';show cond (Nat.beq (zc e sz) (zc e ei.size)) _ _=true;have e5:Nat.beq (zc e sz) (zc e ei.size)=true:=by rw[t6];exact aB _
     rw[e5];have fY:Nat.mul len ei.size=vs.length:=by rw[t6];exact q4.symm
     have e6:Nat.ble (Nat.mul (Nat.add len m) ei.size) vs.length=false:=by
      cases e9:Nat.ble (Nat.mul (Nat.add len m) ei.size) vs.length with
      | false=>rfl
      | true=>
       have h9:(len+m)*ei.size≤vs.length:=yK e9;rw [t6,q4,bM]at h9;have:0<m*sz:=Nat.mul_pos (by omega) t8;omega
     rw[e6,fY,uF (ae _)];show xH c vs.length new _=true;refine wG h1 ?_;rw [Tr.setK_eq,zV]
     have mj:Nat.mul (Nat.add len m) ei.size=(vs++new).length:=by
      rw[t6,ak,q4,hnew];exact bM len m sz
     rw[mj];refine hK _ _ _ (.inr ⟨n,dX,aS n,rfl,?_,?_,by omega,λi=>?_⟩) (cy n) λb' hb eh=>?_
     · rw[zH,if_pos rfl];rfl
     · rw[ak,q4,hnew,bM]
     · unfold zC;rw [zH,if_pos rfl];unfold xR;dsimp only;have q6':=q6 i;unfold zC at q6';rw [hg]at q6';unfold xR at q6';dsimp only at q6';by_cases hi:i<vs.length
       · rw[if_pos hi]at q6';rw [if_pos (by rw[ak];omega),Tr.get_ofListFrom,if_neg (by omega),q6',ax hi]
       · rw[au (by omega)];by_cases fc:i<(vs++new).length
         · rw[ak]at fc;rw [if_pos (by rw[ak];omega),Tr.get_ofListFrom,if_pos (by omega)];simp [aa (show i - vs.length<new.length by omega),aU]
         · rw[ak]at fc;rw [if_neg (by rw[ak];omega),an (by omega)]
     · have eK:b≠b':=λe=>eh (by rw[e];rfl);rw [zH,if_neg (by omega),zH,if_neg eK]
theorem append_own{sT xT e sz lo n len m:Nat}{h:zB}{v x:Value}{vs new:List Value}{K:KH}(hT:apTB P sT xT e sz=true)(ho:Own lo n h v e sz len vs)(dX:lo≤n)(hr:Row n h x e sz m new)(hnew:new.length=m*sz)(h1:∀y∈new,y.oneCell'=true)
(hlim:len+m<1000000)(hK:∀v' h' n',Own lo n' h' v' e sz (len+m) (vs++new)→n≤n'→(∀b,b<n→zP v≠some b→zF h' b=zF h b)→K h' n' v'=true):vG P [sT,xT] [v,x] h n K=true:=
 append_own0 hT ho dX (λ_ eh=>uO eh hr) hnew h1 hlim hK
theorem Own.row{lo n:Nat}{h:zB}{v:Value}{e sz len:Nat}{vs:List Value}(o:Own lo n h v e sz len vs)(hsz:1≤sz):Row n h v e sz len vs:=by
 rcases o with⟨rfl,rfl,rfl⟩|⟨b,q1,q2,rfl,q3,q4,q5,q6⟩
 · exact .inl ⟨rfl,rfl,rfl⟩
 · exact .inr ⟨b,0,inf,vs.length,zc e sz,1,q2,rfl,q4,q3,by omega,λj v e=>by rw[q6,aG];exact e,.inr ⟨rfl,rfl,rfl,hsz⟩⟩
theorem Row.keep{n:Nat}{h:zB}{v:Value}{e sz len:Nat}{vs:List Value}(r:Row n h v e sz len vs){h':zB}{n':Nat}(hn:n≤n')(ek:∀b,zP v=some b→zF h' b=zF h b):Row n' h' v e sz len vs:=by
 rcases r with⟨rfl,rfl,rfl⟩|⟨b,off,cap,m,z,kd,hb,rfl,hl,hi,hm,hr,hc⟩
 · exact .inl ⟨rfl,rfl,rfl⟩
 · have he:=ek b rfl;exact .inr ⟨b,off,cap,m,z,kd,aO hb hn,rfl,hl,by rw[he];exact hi,hm,λj v e=>by unfold zC;rw [he];exact hr j v e,hc⟩
theorem Own.keep{lo n:Nat}{h:zB}{v:Value}{e sz len:Nat}{vs:List Value}(r:Own lo n h v e sz len vs){h':zB}{n':Nat}(hn:n≤n')(ek:∀b,zP v=some b→zF h' b=zF h b):Own lo n' h' v e sz len vs:=by
 rcases r with⟨rfl,rfl,rfl⟩|⟨b,q1,q2,rfl,q3,q4,q5,q6⟩
 · exact .inl ⟨rfl,rfl,rfl⟩
 · have he:=ek b rfl;exact .inr ⟨b,q1,aO q2 hn,rfl,by rw[he];exact q3,q4,q5,λi=>by unfold zC;rw [he];exact q6 i⟩
end
section
variable {P:Program}
theorem append_new{sT xT e sz lo n len m:Nat}{h:zB}{v x:Value}{vs new:List Value}{K:KH}(hT:apTB P sT xT e sz=true)(ho:Own lo n h v e sz len vs)(hm0':0<m)(hr:Row n h x e sz m new)(hnew:new.length=m*sz)(h1:∀y∈new,y.oneCell'=true)
(hlim:len+m<1000000)(hK:∀v' h' n',Own n n' h' v' e sz (len+m) (vs++new)→n≤n'→(∀b,b<n→zP v≠some b→zF h' b=zF h b)→K h' n' v'=true):vG P [sT,xT] [v,x] h n K=true:=by
 obtain⟨xd,ei,z,t1,t2,t3,t4,t5,t6,t7,t8,t9⟩:=apTB_of hT;have gL:xD P h e ei.size xd x=some (m,new):=by rw[t6];exact uO t3 hr
 unfold vG sC
 obtain⟨base,cap,hv⟩:∃base cap,v = .slice base len cap:=by
  rcases ho with⟨rfl,rfl,rfl⟩|⟨b,_,_,rfl,_⟩
  · exact⟨_,_,rfl⟩
  · exact⟨_,_,rfl⟩
 subst hv;dsimp only;rw [t1,t2];dsimp only;rw [t4,t5];dsimp only;rw [gL];dsimp only
 have c1:(Nat.beq ei.size 0 || !Nat.beq (cellsOf z).length ei.size || !Nat.blt (Nat.add len m) 1000000 || !Nat.blt ei.bytes 100000)=false:=by
  have a1:Nat.beq ei.size 0=false:=by
   cases e9:Nat.beq ei.size 0 with
   | false=>rfl
   | true=>have:=zE e9;omega
  have a2:Nat.beq (cellsOf z).length ei.size=true:=by rw[t7,t6];exact aB _
  rw[a1,a2,xE (show Nat.add len m<1000000 from hlim),xE t9];rfl
 rw[c1];show cond (Nat.beq m 0 && !Nat.beq cap 0 && (Nat.beq cap inf || Nat.ble len cap)) _ _=true;by_cases hm:m=0
 · omega
 · have fx:Nat.beq m 0=false:=by
    cases e9:Nat.beq m 0 with
    | false=>rfl
    | true=>exact absurd (zE e9) hm
   rw[fx];show cond (Nat.beq cap inf) _ _=true;rcases ho with⟨hv,rfl,rfl⟩|⟨b,q1,q2,hv,q3,q4,q5,q6⟩
   · injection hv with eZ _ hv2
     subst eZ hv2;have fF:Nat.beq 0 inf=false:=by decide
     rw[fF];dsimp only[cond_false];unfold growEx
     have b1:Nat.ble (Nat.add 0 m) 0=false:=by
      cases e9:Nat.ble (Nat.add 0 m) 0 with
      | false=>rfl
      | true=>
       have h9:Nat.add 0 m≤0:=yK e9;have ft:0+m≤0:=h9;omega
     rw[b1];show xH .lF 0 ([]++new) _=true;refine wG h1 ?_;rw [zV]
     have eh:Nat.mul (Nat.add 0 m) ei.size=new.length:=by
      have:Nat.add 0 m=m:=aG m;rw [this,t6];exact hnew.symm
     rw[eh,t6];have hz:Nat.add 0 m=m:=aG m;rw [hz];have jb:0<m:=by omega
     refine hK _ _ _ (.inr ⟨n,ae n,aS n,by rw[aG],?_,?_,by omega,λi=>?_⟩) (cy n) λb hb _=>?_
     · rw[zH,if_pos rfl];rfl
     · simpa using hnew
     · unfold zC;rw [zH,if_pos rfl];exact vO new (zc e sz) 1 i
     · rw[zH,if_neg (by omega)]
   · injection hv with eZ _ hv2
     subst eZ hv2;have fw:Nat.beq inf inf=true:=aB inf;rw [fw];show tO h n b len m ei.size (zc e ei.size) new (λv h n=>K h n v)=true;unfold tO;cases hg:zF h b <;> rw[hg]at q3 <;> first|(cases q3;done)|(exact absurd (kd_of q3) (by decide))|skip
     rename_i c kn z' kd';have q3':some (kn,z',kd')=some (vs.length,zc e sz,1):=q3;simp only[Option.some.injEq,Prod.mk.injEq]at q3';obtain⟨rfl,rfl,rfl⟩:=q3';show cond (Nat.beq (zc e sz) (zc e ei.size)) _ _=true;have e5:Nat.beq (zc e sz) (zc e ei.size)=true:=by rw[t6];exact aB _
     rw[e5];have fY:Nat.mul len ei.size=vs.length:=by rw[t6];exact q4.symm
     have e6:Nat.ble (Nat.mul (Nat.add len m) ei.size) vs.length=false:=by
      cases e9:Nat.ble (Nat.mul (Nat.add len m) ei.size) vs.length with
      | false=>rfl
      | true=>
       have h9:(len+m)*ei.size≤vs.length:=yK e9;rw [t6,q4,bM]at h9;have:0<m*sz:=Nat.mul_pos (by omega) t8;omega
     rw[e6,fY,uF (ae _)];show xH c vs.length new _=true;refine wG h1 ?_;rw [Tr.setK_eq,zV]
     have mj:Nat.mul (Nat.add len m) ei.size=(vs++new).length:=by
      rw[t6,ak,q4,hnew];exact bM len m sz
     rw[mj];refine hK _ _ _ (.inr ⟨n,ae n,aS n,rfl,?_,?_,by omega,λi=>?_⟩) (cy n) λb' hb eh=>?_
     · rw[zH,if_pos rfl];rfl
     · rw[ak,q4,hnew,bM]
     · unfold zC;rw [zH,if_pos rfl];unfold xR;dsimp only;have q6':=q6 i;unfold zC at q6';rw [hg]at q6';unfold xR at q6';dsimp only at q6';by_cases hi:i<vs.length
       · rw[if_pos hi]at q6';rw [if_pos (by rw[ak];omega),Tr.get_ofListFrom,if_neg (by omega),q6',ax hi]
       · rw[au (by omega)];by_cases fc:i<(vs++new).length
         · rw[ak]at fc;rw [if_pos (by rw[ak];omega),Tr.get_ofListFrom,if_pos (by omega)];simp [aa (show i - vs.length<new.length by omega),aU]
         · rw[ak]at fc;rw [if_neg (by rw[ak];omega),an (by omega)]
     · have eK:b≠b':=λe=>eh (by rw[e];rfl);rw [zH,if_neg (by omega),zH,if_neg eK]
end
end
section
theorem TmR.same{ρ : Inj}{N:Nat}{t t2:Fr}{ts:Array Value}(h:∀i,fget t2 i=fget t i)(r:TmR ρ N t ts):TmR ρ N t2 ts:=⟨r.sz,λi v e=>by rw[h i];exact r.tm i v e⟩
section
variable {P:Program} {ng:Nat}
theorem CodeTo.pre{c:Code}{cx:Cx}{t t2 t':Fr}{w w':W}{x:AX}(h:∀i,fget t2 i=fget t i)(r:CodeTo P ng c cx t2 w x t' w'):CodeTo P ng c cx t w x t' w':=λhc b k ρ base w0 a wd cs hI=>
 r hc b k ρ base w0 a wd cs ⟨hI.fn,hI.kind,hI.rd,hI.rdf,hI.tm.same h,hI.hp,hI.dr,hI.ur,hI.fnd⟩
theorem WC.pre{c:Code}{cx:Cx}{t t2:Fr}{w:W}{Q:QX}(h:∀i,fget t2 i=fget t i)(r:WC P ng c cx t2 w Q):WC P ng c cx t w Q:=by
 obtain⟨x,t',w',q,r⟩:=r;exact⟨x,t',w',q,r.pre h⟩
def Slots(l:List (Nat×Value))(t:Fr):List (Nat×Value)→Prop
 | []=>True
 | p::r=>lk l t p.1=p.2∧Slots l t r
theorem Slots.lk{l:List (Nat×Value)}{t:Fr}:∀{s:List (Nat×Value)},Slots l t s→∀i,Go.Ex.lk s (FA l t) i=Go.Ex.lk l t i:=by
 intro s
 induction s with
 | nil=>intro _ i;exact fget_FA l t i
 | cons p r ih=>
  rintro ⟨h1,h2⟩ i
  show(bif Nat.beq p.1 i then p.2 else Go.Ex.lk r (FA l t) i)=_
  cases e:Nat.beq p.1 i with
  | true=>rw [← zE e,h1];rfl
  | false=>exact ih h2 i
theorem Slots.fget{l s:List (Nat×Value)}{t:Fr}(h:Slots l t s):∀i,fget (FA s (FA l t)) i=Go.Ex.fget (FA l t) i:=λi=>by rw[fget_FA,fget_FA,h.lk]
def Rnd{α : Type}(l:List (Nat×Value))(t:Fr)(I: α→List (Nat×Value))(J: α→zB→Nat→Prop)(m: α→Nat)(a: α)(h:zB)(n:Nat):Prop:=∃a',m a'<m a∧Slots l t (I a')∧J a' h n
theorem rnd{α : Type}{l:List (Nat×Value)}{t:Fr}{I: α→List (Nat×Value)}{J: α→zB→Nat→Prop}{m: α→Nat}{a: α}{h:zB}{n:Nat}(a': α)(hJ:J a' h n)(h1:m a'<m a:=by first|omega|(dsimp only;omega))(h2:Slots l t (I a'):=by repeat' first|exact trivial|refine⟨rfl,?_⟩):Rnd l t I J m a h n:=⟨a',h1,h2,hJ⟩
def lpQ{α : Type}(I: α→List (Nat×Value))(J: α→zB→Nat→Prop)(m: α→Nat)(a: α)(d:List Deferred)(u:Option zI)(Q:QX):QX:=λx t w=>match x with
 | .normal=>∃a',m a'<m a∧(∀i,fget (FA (I a') t) i=fget t i)∧∃h n,w=⟨d,u,h,n⟩∧J a' h n
 | x=>Q x t w
theorem lpR{b:Code}{cx:Cx}{Q:QX}{l:List (Nat×Value)}{t:Fr}{d:List Deferred}{u:Option zI}{h:zB}{n:Nat}{α : Type}(I: α→List (Nat×Value))(J: α→zB→Nat→Prop)(m: α→Nat)(a0: α)(hJ:J a0 h n)
(step:∀a t h n,J a h n→WC P ng b cx (FA (I a) t) ⟨d,u,h,n⟩ (lpQ I J m a d u Q))(h0:Slots l t (I a0):=by repeat' first|exact trivial|refine⟨rfl,?_⟩):WC P ng (.loop b) cx (FA l t) ⟨d,u,h,n⟩ Q:=by
 refine wc_loop (α := α) (λa t w=>(∀i,fget (FA (I a) t) i=fget t i)∧∃h n,w=⟨d,u,h,n⟩∧J a h n) m ?_ a0 _ _ ⟨h0.fget,h,n,rfl,hJ⟩
 rintro a t w ⟨h1,h,n,rfl,h2⟩
 refine((step a t h n h2).pre h1).mono λx t' w' q=>?_
 cases x with
 | normal=>exact q
 | exit i=>exact q
 | goto i=>exact q
 | ret=>exact q
 | panic c=>exact q
section
variable {α : Type} {I: α→List (Nat×Value)} {J: α→zB→Nat→Prop} {m: α→Nat} {a: α} {d:List Deferred} {u:Option zI} {Q:QX} {l:List (Nat×Value)} {t:Fr} {h:zB} {n:Nat} {w:W}
instance:Stp (lpQ I J m a d u Q .normal (FA l t) ⟨d,u,h,n⟩) (Rnd l t I J m a h n):=⟨λ⟨a',h1,h2,h3⟩=>⟨a',h1,h2.fget,h,n,rfl,h3⟩⟩
instance {i:Nat}:Stp (lpQ I J m a d u Q (.exit i) t w) (Q (.exit i) t w):=⟨id⟩
instance:Stp (lpQ I J m a d u Q .ret t w) (Q .ret t w):=⟨id⟩
instance {c:zI}:Stp (lpQ I J m a d u Q (.panic c) t w) (Q (.panic c) t w):=⟨id⟩
def cutQ{α : Type}(I: α→List (Nat×Value))(J: α→zB→Nat→Prop)(d:List Deferred)(u:Option zI)(Q:QX):QX:=λx t w=>match x with
 | .normal=>∃a,(∀i,fget (FA (I a) t) i=fget t i)∧∃h n,w=⟨d,u,h,n⟩∧J a h n
 | x=>Q x t w
def Btw{α : Type}(l:List (Nat×Value))(t:Fr)(I: α→List (Nat×Value))(J: α→zB→Nat→Prop)(h:zB)(n:Nat):Prop:=∃a,Slots l t (I a)∧J a h n
instance:Stp (cutQ I J d u Q .normal (FA l t) ⟨d,u,h,n⟩) (Btw l t I J h n):=⟨λ⟨a',h2,h3⟩=>⟨a',h2.fget,h,n,rfl,h3⟩⟩
instance {i:Nat}:Stp (cutQ I J d u Q (.exit i) t w) (Q (.exit i) t w):=⟨id⟩
instance:Stp (cutQ I J d u Q .ret t w) (Q .ret t w):=⟨id⟩
instance {c:zI}:Stp (cutQ I J d u Q (.panic c) t w) (Q (.panic c) t w):=⟨id⟩
theorem cut{α : Type}{c:Code}{cx:Cx}{Q:QX}{l:List (Nat×Value)}{t:Fr}{d:List Deferred}{u:Option zI}{h:zB}{n:Nat}(I: α→List (Nat×Value))(J: α→zB→Nat→Prop)(first:WC P ng c cx (FA l t) ⟨d,u,h,n⟩ (cutQ I J d u Q))
(rest:∀a t h n,J a h n→Q .normal (FA (I a) t) ⟨d,u,h,n⟩)(hQ:∀(t t2:Fr) (w:W),(∀i,fget t2 i=fget t i)→Q .normal t2 w→Q .normal t w):WC P ng c cx (FA l t) ⟨d,u,h,n⟩ Q:=by
 refine first.mono λx t' w' q=>?_
 cases x with
 | normal=>
  obtain⟨a,h1,h,n,rfl,h2⟩:=q;exact hQ _ _ _ h1 (rest a t' h n h2)
 | exit i=>exact q
 | goto i=>exact q
 | ret=>exact q
 | panic c=>exact q
end
theorem cat_hal{h:zB}{n b i:Nat}{o:AObj}{v:Value}(hb:b≠n)(c:zC h b i=some v):zC (hal h n o) b i=some v:=by unfold zC;rw [zO,if_neg λe=>hb e.symm];exact c
theorem cat_hst{h:zB}{a off b i:Nat}{ws:List Value}{v:Value}(hb:b≠a)(c:zC h b i=some v):zC (hst h a off ws) b i=some v:=by unfold zC;rw [xL,if_neg λe=>hb e.symm];exact c
theorem cat_tch{S:List Nat}{h h':zB}{n n' b i:Nat}{v:Value}(t:Tch S h n h' n')(hb:b<n)(hS:b∉S)(c:zC h b i=some v):zC h' b i=some v:=by unfold zC;rw [t.2 b hb hS];exact c
theorem Tch.le{S:List Nat}{h h':zB}{n n':Nat}(t:Tch S h n h' n'):n≤n':=t.1
theorem Tch.hal{S:List Nat}{h h':zB}{n m:Nat}{o:AObj}(t:Tch S h n h' m):Tch S h n (Go.Ex.hal h' m o) (m+1):=⟨Nat.le_succ_of_le t.1,λb hb hS=>by rw[zO,if_neg (by have:=t.1;omega)];exact t.2 b hb hS⟩
theorem Tch.upd{S:List Nat}{h h':zB}{n m L:Nat}{o:AObj}(t:Tch S h n h' m)(hL:n≤L∨L∈S):Tch S h n (Go.Ex.hal h' L o) m:=⟨t.1,λb hb hS=>by
 rw[zO,if_neg (by
  rintro rfl
  rcases hL with h1|h1
  · omega
  · exact hS h1)]
 exact t.2 b hb hS⟩
theorem Tch.hst{S:List Nat}{h h':zB}{n n' a off:Nat}{ws:List Value}(t:Tch S h n h' n')(ha:n≤a∨a∈S):Tch S h n (Go.Ex.hst h' a off ws) n':=⟨t.1,λb hb hS=>by
 rw[xL,if_neg (by
  rintro rfl
  rcases ha with h1|h1
  · omega
  · exact hS h1)]
 exact t.2 b hb hS⟩
theorem Tch.tch{S S':List Nat}{h h1 h':zB}{n n1 n':Nat}(t':Tch S' h1 n1 h' n')(t:Tch S h n h1 n1)(hs:∀x∈S',n≤x∨x∈S):Tch S h n h' n':=⟨aZ t.1 t'.1,λb hb hS=>by
 rw[t'.2 b (aO hb t.1) λhx=>(hs b hx).elim (λh1=>absurd hb (by omega)) hS];exact t.2 b hb hS⟩
theorem zA{S:List Nat}{h h':zB}{n n':Nat}(t:Tch S h n h' n':=by
 repeat' first
  | with_reducible exact Tch.refl _ _ _
  | with_reducible assumption
  | with_reducible apply Tch.hal
  | with_reducible apply Tch.upd
  | with_reducible apply Tch.hst
  | ((with_reducible apply Tch.tch);(focus (with_reducible assumption)))
  | (left;omega)
  | omega
  | (right;simp;done)
  | (simp;done)
  | (simp;omega)):Tch S h n h' n':=t
def sbk:Value→Nat
 | .slice (some a) _ _=>a.block
 | _=>0
def sof:Value→Nat
 | .slice (some a) _ _=>a.off
 | _=>0
section
variable {lo:Nat} {h:zB} {v:Value} {e sz len:Nat} {vs:List Value}
theorem Row.one(r:Row lo h v e sz len vs):v.oneCell'=true:=by
 rcases r with⟨rfl,_⟩|⟨b,off,cap,m,z,kd,_,rfl,_⟩ <;> rfl
theorem Row.lens(r:Row lo h v e sz len vs):vs.length=len*sz:=by
 rcases r with⟨rfl,rfl,rfl⟩|⟨b,off,cap,m,z,kd,_,rfl,h1,_⟩
 · simp
 · exact h1
theorem Row.low(r:Row lo h v e sz len vs)(h0:0<len):sbk v<lo:=by
 rcases r with⟨rfl,rfl,rfl⟩|⟨b,off,cap,m,z,kd,h1,rfl,_⟩
 · omega
 · exact h1
theorem Row.at(r:Row lo h v e sz len vs){i:Nat}{x:Value}(hi:vs[i]? = some x):zC h (sbk v) (sof v+i)=some x:=by
 rcases r with⟨rfl,rfl,rfl⟩|⟨b,off,cap,m,z,kd,h1,rfl,_,_,_,h2,_⟩
 · cases hi
 · exact h2 i x hi
theorem len_rw{P:Program}{ty el:Nat}[s:UnC P ty (.slice el)]{h':zB}(r:Row lo h v e sz len vs):Qb P .len [ty] [v] h' (some (I64 (len:Nat))):=by
 rcases r with⟨rfl,rfl,rfl⟩|⟨b,off,cap,m,z,kd,h1,rfl,_⟩
 · exact len_slc
 · exact len_slc
theorem iad_rw{k:IntKind}{i:Nat}(r:Row lo h v e sz len vs)(hi:i<len):Iad sz v (.int k (i:Nat)) (.pointer (some ⟨sbk v,sof v+i*sz,none⟩)):=by
 rcases r with⟨rfl,rfl,rfl⟩|⟨b,off,cap,m,z,kd,h1,rfl,_⟩
 · omega
 · exact⟨b,off,len,cap,k,i,rfl,rfl,hi,rfl⟩
theorem iad_rwI{k:IntKind}{x:Int}(r:Row lo h v e sz len vs)(h0:0≤x)(hi:x<len):Iad sz v (.int k x) (.pointer (some ⟨sbk v,sof v+x.toNat*sz,none⟩)):=by
 obtain⟨i,rfl⟩:=cu h0;exact iad_rw r (by omega)
theorem Row.tch{S:List Nat}{h':zB}{n n':Nat}(r:Row lo h v e sz len vs)(t:Tch S h n h' n')(hl:lo≤n)(hS:∀b,zP v=some b→b∉S):Row lo h' v e sz len vs:=by
 refine r.keep (ae _) λb hb=>t.2 b ?_ (hS b hb);rcases r with⟨rfl,rfl,rfl⟩|⟨b',off,cap,m,z,kd,h1,rfl,_⟩
 · cases hb
 · injection hb with hb;have hb:b'=b:=hb;omega
theorem Row.up(r:Row lo h v e sz len vs){lo':Nat}(hl:lo≤lo'):Row lo' h v e sz len vs:=r.keep hl λ_ _=>rfl
theorem zL{n:Nat}{cs:List Value}(hl:cs.length=len*sz)(dV:len<inf):Row (n+1) (hal h n (mkC cs 0 0)) (.slice (some ⟨n,0,none⟩) len len) e sz len cs:=by
 refine .inr ⟨n,0,len,cs.length,0,0,aS _,rfl,hl,?_,by omega,λj x hj=>?_,.inl ⟨dV,ae _⟩⟩
 · rw[zO,if_pos rfl];exact uN _ _ _
 · unfold zC;rw [zO,if_pos rfl,aG];rw [vO];exact hj
end
 class ApC (P:Program) (sT xT:Nat) (e sz:outParam Nat):Prop where ok:apTB P sT xT e sz=true
theorem appO{sT xT e sz:Nat}[A:ApC P sT xT e sz]{cx:Cx}{d:List Deferred}{u:Option zI}{h:zB}{n lo len m:Nat}{v x:Value}{vs new:List Value}{K:W→Value→Prop}(ho:Own lo n h v e sz len vs)(hr:Row n h x e sz m new)(dX:lo≤n)(h1:One new)(hlim:len+m<1000000)
(k:∀v' h' n',Own lo n' h' v' e sz (len+m) (vs++new)→Tch (zP v).toList h n h' n'→K ⟨d,u,h',n'⟩ v'):BuB P cx .append [sT,xT] [v,x] d u h n K:=by
 have:=append_own (K:=λh' n' v'=>xJ (K ⟨d,u,h',n'⟩ v')) A.ok ho dX hr hr.lens h1.all hlim λv' h' n' o a b=>isSo_iff.2 (k v' h' n' o ⟨a,λb' hb hS=>b b' hb λe=>hS (by rw[e];simp)⟩);exact this
theorem Own.tch{S:List Nat}{lo n n':Nat}{h h':zB}{v:Value}{e sz len:Nat}{vs:List Value}(r:Own lo n h v e sz len vs)(t:Tch S h n h' n')(hS:∀b,zP v=some b→b∉S):Own lo n' h' v e sz len vs:=by
 refine r.keep t.1 λb hb=>t.2 b ?_ (hS b hb);rcases r with⟨rfl,_,_⟩|⟨b',_,h1,rfl,_⟩
 · cases hb
 · injection hb with hb;subst hb;exact h1
theorem Own.nil{lo n:Nat}{h:zB}{e sz:Nat}:Own lo n h (.slice none 0 0) e sz 0 []:=.inl ⟨rfl,rfl,rfl⟩
theorem Own.one{lo n:Nat}{h:zB}{v:Value}{e sz len:Nat}{vs:List Value}(r:Own lo n h v e sz len vs):v.oneCell'=true:=by
 rcases r with⟨rfl,_⟩|⟨b,_,_,rfl,_⟩ <;> rfl
theorem Own.blk{lo n:Nat}{h:zB}{v:Value}{e sz len:Nat}{vs:List Value}(r:Own lo n h v e sz len vs){b:Nat}(hb:zP v=some b):lo≤b∧b<n:=by
 rcases r with⟨rfl,_⟩|⟨b',h1,h2,rfl,_⟩
 · cases hb
 · injection hb with hb;subst hb;exact⟨h1,h2⟩
end
end
end Go.Ex
