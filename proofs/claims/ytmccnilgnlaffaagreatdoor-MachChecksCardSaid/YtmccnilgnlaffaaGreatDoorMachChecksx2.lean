/- What the law leans on, part 2 of 22. Conditions: those that each theorem states. -/
import Derived.Test.YtmccnilgnlaffaaGreatDoorMachChecksx1
import Derived.AtR
import Derived.Below
import Derived.Laws.Cells
import Derived.Laws.Entries
import Derived.ChangeKeysEq
import Derived.IntWalk
import Derived.Laws.Slices
import Derived.Laws.Strings
import Derived.Laws.StructEq
import Derived.Laws.Tables

set_option linter.unusedVariables false
set_option linter.unusedSimpArgs false
namespace Go.Ex
open Go.RowKit (Below)
section
structure Bl where
 b:Nat
 n:Nat
 z:Nat
abbrev Inj:=Nat→Option Bl
inductive RV (ρ : Inj):Value→Value→Prop
 | bool (b:Bool):RV ρ (.bool b) (.bool b)
 | int (k:IntKind) (n:Int):RV ρ (.int k n) (.int k n)
 | float (k:FloatKind) (n:Nat):RV ρ (.float k n) (.float k n)
 | complex (k:FloatKind) (n m:Nat):RV ρ (.complex k n m) (.complex k n m)
 | string (s:ByteArray):RV ρ (.string s) (.string s)
 | nilPtr:RV ρ (.pointer none) (.pointer none)
 | ptr {b o:Nat} {B:Bl} (h: ρ b=some B):RV ρ (.pointer (some ⟨b,o,none⟩)) (.pointer (some ⟨B.b,o,none⟩))
 | nilSlice (l c:Nat) (h:c≠inf):RV ρ (.slice none l c) (.slice none l c)
 | slice {b o l c:Nat} {B:Bl} {o':Nat} (h: ρ b=some B) (hc:c≠inf) (hl:l≤c) (ho:o'=o∨c=0) :
  RV ρ (.slice (some ⟨b,o,none⟩) l c) (.slice (some ⟨B.b,o',none⟩) l c)
 | slice0 {b o:Nat} {B:Bl} (h: ρ b=some B) (a:Addr):RV ρ (.slice (some ⟨b,o,none⟩) 0 0) (.slice (some a) 0 0)
 | opened {b o l:Nat} {B:Bl} {o' c':Nat} (h: ρ b=some B) (hl:l≤c') (ho:(o'=o∧o+c'*B.z=B.n)∨(c'=0∧0<o)) :
  RV ρ (.slice (some ⟨b,o,none⟩) l inf) (.slice (some ⟨B.b,o',none⟩) l c')
 | nilMap:RV ρ (.map none) (.map none)
 | map {r:Nat} {B:Bl} (h: ρ r=some B):RV ρ (.map (some r)) (.map (some B.b))
 | func {fn:Fn} {f f' c c':Array Value} (hy:∀l,fn≠.yield l) (hf:f.toList.length=f'.toList.length) (hc:c.toList.length=c'.toList.length)
  (f1:∀(i:Nat) (v v':Value),f.toList[i]? = some v→f'.toList[i]? = some v'→RV ρ v v')
  (c1:∀(i:Nat) (v v':Value),c.toList[i]? = some v→c'.toList[i]? = some v'→RV ρ v v'):RV ρ (.func fn f c) (.func fn f' c')
 | yield {l:Nat} {B:Bl} (h: ρ l=some B):RV ρ (.func (.yield l) #[] #[]) (.func (.yield B.b) #[] #[])
 | nilFunc:RV ρ .nilFunc .nilFunc
 | iface {t:TypeId} {v v':Value} (h:RV ρ v v'):RV ρ (.iface t v) (.iface t v')
 | nilIface:RV ρ .nilIface .nilIface
 | agg {c c':Array Value} (hc:c.toList.length=c'.toList.length)
  (c1:∀(i:Nat) (v v':Value),c.toList[i]? = some v→c'.toList[i]? = some v'→RV ρ v v'):RV ρ (.agg c) (.agg c')
 | tuple {c c':Array Value} (hc:c.toList.length=c'.toList.length)
  (c1:∀(i:Nat) (v v':Value),c.toList[i]? = some v→c'.toList[i]? = some v'→RV ρ v v'):RV ρ (.tuple c) (.tuple c')
def RVs(ρ : Inj)(l l':List Value):Prop:=l.length=l'.length∧∀(i:Nat) (v v':Value),l[i]? = some v→l'[i]? = some v'→RV ρ v v'
def Inj.le(ρ ρ':Inj):Prop:=∀b B,ρ b=some B→ρ' b=some B
theorem Inj.le.refl(ρ : Inj): ρ.le ρ :=λ_ _ h=>h
theorem Inj.le.trans{a b c:Inj}(h:a.le b)(k:b.le c):a.le c:=λ_ _ e=>k _ _ (h _ _ e)
theorem RV.mono{ρ ρ':Inj}(h: ρ.le ρ'){v v':Value}(r:RV ρ v v'):RV ρ' v v':=by
 induction r with
 | bool b=>exact .bool b
 | int k n=>exact .int k n
 | float k n=>exact .float k n
 | complex k n m=>exact .complex k n m
 | string s=>exact .string s
 | nilPtr=>exact .nilPtr
 | ptr e=>exact .ptr (h _ _ e)
 | nilSlice l c e=>exact .nilSlice l c e
 | slice e hc hl ho=>exact .slice (h _ _ e) hc hl ho
 | opened e hl ho=>exact .opened (h _ _ e) hl ho
 | slice0 e a=>exact .slice0 (h _ _ e) a
 | nilMap=>exact .nilMap
 | map e=>exact .map (h _ _ e)
 | func hy hf hc _ _ f2 c2=>exact .func hy hf hc f2 c2
 | yield e=>exact .yield (h _ _ e)
 | nilFunc=>exact .nilFunc
 | iface _ ih=>exact .iface ih
 | nilIface=>exact .nilIface
 | agg hc _ ih=>exact .agg hc ih
 | tuple hc _ ih=>exact .tuple hc ih
theorem RVs.mono{ρ ρ':Inj}(h: ρ.le ρ'){l l':List Value}(r:RVs ρ l l'):RVs ρ' l l':=⟨r.1,λi v v' a b=>(r.2 i v v' a b).mono h⟩
theorem RVs.nil(ρ : Inj):RVs ρ [] []:=⟨rfl,λ_ _ _ h=>by simp at h⟩
theorem RVs.cons{ρ : Inj}{v v':Value}{l l':List Value}(h:RV ρ v v')(r:RVs ρ l l'):RVs ρ (v::l) (v'::l'):=
 ⟨by simp[r.1],λi w w' a b=>by
  cases i with
  | zero=>simp at a b;subst a b;exact h
  | succ i=>simp at a b;exact r.2 i w w' a b⟩
theorem RVs.of_cons{ρ : Inj}{v:Value}{l l2:List Value}(r:RVs ρ (v::l) l2):∃v' l',l2=v'::l'∧RV ρ v v'∧RVs ρ l l':=by
 obtain⟨hl,h⟩:=r
 cases l2 with
 | nil=>simp at hl
 | cons v' l'=>exact⟨v',l',rfl,h 0 v v' rfl rfl,by simpa using hl,λi w w' a b=>h (i+1) w w' (by simpa using a) (by simpa using b)⟩
theorem RVs.of_nil{ρ : Inj}{l2:List Value}(r:RVs ρ [] l2):l2=[]:=by
 have:=r.1;cases l2 <;> simp_all
theorem RVs.append{ρ : Inj}{a a' b b':List Value}(h:RVs ρ a a')(k:RVs ρ b b'):RVs ρ (a++b) (a'++b'):=by
 induction a generalizing a' with
 | nil=>obtain rfl:=h.of_nil;exact k
 | cons v l ih=>obtain⟨v',l',rfl,hv,hl⟩:=h.of_cons;exact RVs.cons hv (ih hl)
theorem RVs.map{ρ : Inj}{α : Type}(f g: α→Value):∀(l:List α),(∀x∈l,RV ρ (f x) (g x))→RVs ρ (l.map f) (l.map g)
 | [],_=>RVs.nil ρ
 | x::l,h=>RVs.cons (h x (by simp)) (RVs.map f g l λy hy=>h y (by simp[hy]))
theorem RVs.at{ρ : Inj}{l l':List Value}(r:RVs ρ l l'){i:Nat}{v:Value}(h:l[i]? = some v):∃v',l'[i]? = some v'∧RV ρ v v':=by
 have hi:i<l.length:=by
  rcases aw i l.length with h1|h1
  · exact h1
  · simp[an h1]at h
 have fy:i<l'.length:=r.1 ▸ hi;exact⟨l'[i],aa fy,r.2 i v _ h (aa fy)⟩
theorem RVs.take{ρ : Inj}{l l':List Value}(r:RVs ρ l l')(n:Nat):RVs ρ (l.take n) (l'.take n):=
 ⟨by simp[r.1],λi v v' a b=>by
  rw[List.getElem?_take]at a b;split at a
  · rename_i h;rw [if_pos h]at b;exact r.2 i v v' a b
  · cases a⟩
theorem RVs.drop{ρ : Inj}{l l':List Value}(r:RVs ρ l l')(n:Nat):RVs ρ (l.drop n) (l'.drop n):=
 ⟨by simp[r.1],λi v v' a b=>by
  rw[List.getElem?_drop]at a b;exact r.2 _ v v' a b⟩
theorem RVs.set{ρ : Inj}{l l':List Value}(r:RVs ρ l l')(i:Nat){v v':Value}(h:RV ρ v v'):RVs ρ (l.set i v) (l'.set i v'):=
 ⟨by simp[r.1],λj w w' a b=>by
  rw[cU]at a b;by_cases e:i=j
  · subst e;simp only[if_true]at a b;split at a
    · rename_i h1;rw [if_pos (r.1 ▸ h1)]at b;cases a;cases b;exact h
    · cases a
  · simp only[e,if_false]at a b;exact r.2 j w w' a b⟩
noncomputable def uV(v:Value):Bool:=
 Value.rec (motive_1:=λ_=>Bool) (motive_2:=λ_=>Bool) (motive_3:=λ_=>Bool)
  (λ_=>true) (λ_ _=>true) (λ_ _=>true) (λ_ _ _=>true) (λ_=>true) (λa=>Option.rec true (λ_=>false) a)
  (λa _ c=>Option.rec (Bool.rec true false (Nat.beq c inf)) (λ_=>false) a) (λr=>Option.rec true (λ_=>false) r) (λ_=>false)
  (λ_ _ _ _ _=>false) true (λ_ _ b=>b) true (λ_ b=>b) (λ_ b=>b)
  (λ_ b=>b) true (λ_ _ a b=>Bool.rec false b a) v
noncomputable def plainA(v:Array Value):Bool:=
 Value.rec_1 (motive_1:=λ_=>Bool) (motive_2:=λ_=>Bool) (motive_3:=λ_=>Bool)
  (λ_=>true) (λ_ _=>true) (λ_ _=>true) (λ_ _ _=>true) (λ_=>true) (λa=>Option.rec true (λ_=>false) a)
  (λa _ c=>Option.rec (Bool.rec true false (Nat.beq c inf)) (λ_=>false) a) (λr=>Option.rec true (λ_=>false) r) (λ_=>false)
  (λ_ _ _ _ _=>false) true (λ_ _ b=>b) true (λ_ b=>b) (λ_ b=>b)
  (λ_ b=>b) true (λ_ _ a b=>Bool.rec false b a) v
noncomputable def plainL(v:List Value):Bool:=
 Value.rec_2 (motive_1:=λ_=>Bool) (motive_2:=λ_=>Bool) (motive_3:=λ_=>Bool)
  (λ_=>true) (λ_ _=>true) (λ_ _=>true) (λ_ _ _=>true) (λ_=>true) (λa=>Option.rec true (λ_=>false) a)
  (λa _ c=>Option.rec (Bool.rec true false (Nat.beq c inf)) (λ_=>false) a) (λr=>Option.rec true (λ_=>false) r) (λ_=>false)
  (λ_ _ _ _ _=>false) true (λ_ _ b=>b) true (λ_ b=>b) (λ_ b=>b)
  (λ_ b=>b) true (λ_ _ a b=>Bool.rec false b a) v
theorem plain_all:∀v:Value,uV v=true→∀ρ,RV ρ v v:=by
 intro v
 refine Value.rec (motive_1:=λv=>uV v=true→∀ρ,RV ρ v v)
  (motive_2:=λa=>plainA a=true→∀ρ (i:Nat) (v:Value),a.toList[i]? = some v→RV ρ v v)
  (motive_3:=λl=>plainL l=true→∀ρ (i:Nat) (v:Value),l[i]? = some v→RV ρ v v)
  ?_ ?_ ?_ ?_ ?_ ?_ ?_ ?_ ?_ ?_ ?_ ?_ ?_ ?_ ?_ ?_ ?_ ?_ v
 · intro b _ ρ;exact .bool b
 · intro k n _ ρ;exact .int k n
 · intro k n _ ρ;exact .float k n
 · intro k n m _ ρ;exact .complex k n m
 · intro s _ ρ;exact .string s
 · intro a h ρ;cases a with
   | none=>exact .nilPtr
   | some a=>cases h
 · intro a l c h ρ;cases a with
   | none=>
    refine .nilSlice l c λe=>?_;subst e;have:(Bool.rec true false (Nat.beq inf inf):Bool)=true:=h;rw [show Nat.beq inf inf=true from aB inf]at this;cases this
   | some a=>cases h
 · intro r h ρ;cases r with
   | none=>exact .nilMap
   | some a=>cases h
 · intro r h;cases h
 · intro fn f c _ _ h;cases h
 · intro _ ρ;exact .nilFunc
 · intro t v ih h ρ;exact .iface (ih h ρ)
 · intro _ ρ;exact .nilIface
 · intro c ih h ρ;exact .agg rfl λi v v' a b=>by rw[a]at b;cases b;exact ih h ρ i v a
 · intro c ih h ρ;exact .tuple rfl λi v v' a b=>by rw[a]at b;cases b;exact ih h ρ i v a
 · intro l ih h ρ i v e;exact ih h ρ i v e
 · intro _ ρ i v e;simp at e
 · intro x l ihx ihl h ρ i v e;have h':(Bool.rec false (plainL l) (uV x):Bool)=true:=h
   cases hx:uV x with
   | false=>rw [hx]at h';cases h'
   | true=>
    rw[hx]at h'
    cases i with
    | zero=>simp at e;subst e;exact ihx hx ρ
    | succ i=>exact ihl h' ρ i v (by simpa using e)
theorem RV.plain{v:Value}(h:uV v=true)(ρ : Inj):RV ρ v v:=plain_all v h ρ
theorem RV.undef(ρ : Inj):RV ρ undef undef:=RV.plain rfl ρ
theorem RV.of_bool{ρ : Inj}{b:Bool}{v:Value}(h:RV ρ (.bool b) v):v = .bool b:=by cases h;rfl
theorem RV.of_int{ρ : Inj}{k:IntKind}{n:Int}{v:Value}(h:RV ρ (.int k n) v):v = .int k n:=by cases h;rfl
theorem RV.of_string{ρ : Inj}{s:ByteArray}{v:Value}(h:RV ρ (.string s) v):v = .string s:=by cases h;rfl
theorem RV.of_ptr{ρ : Inj}{a:Addr}{v:Value}(h:RV ρ (.pointer (some a)) v):∃B,ρ a.block=some B∧a.spot=none∧v = .pointer (some ⟨B.b,a.off,none⟩):=by
 cases h with
 | ptr h=>exact⟨_,h,rfl,rfl⟩
theorem RV.of_map{ρ : Inj}{r:Nat}{v:Value}(h:RV ρ (.map (some r)) v):∃B,ρ r=some B∧v = .map (some B.b):=by
 cases h with
 | map h=>exact⟨_,h,rfl⟩
theorem RV.of_agg{ρ : Inj}{c:Array Value}{v:Value}(h:RV ρ (.agg c) v):∃c',v = .agg c'∧RVs ρ c.toList c'.toList:=by
 cases h with
 | agg h k=>exact⟨_,rfl,h,k⟩
theorem RV.of_tuple{ρ : Inj}{c:Array Value}{v:Value}(h:RV ρ (.tuple c) v):∃c',v = .tuple c'∧RVs ρ c.toList c'.toList:=by
 cases h with
 | tuple h k=>exact⟨_,rfl,h,k⟩
theorem RV.mk_agg{ρ : Inj}{c c':List Value}(h:RVs ρ c c'):RV ρ (.agg ⟨c⟩) (.agg ⟨c'⟩):=.agg h.1 h.2
theorem RV.mk_tuple{ρ : Inj}{c c':List Value}(h:RVs ρ c c'):RV ρ (.tuple ⟨c⟩) (.tuple ⟨c'⟩):=.tuple h.1 h.2
theorem RV.cells{ρ : Inj}{v v':Value}(h:RV ρ v v'):RVs ρ (cellsOf v) v'.cells.toList:=by
 cases h with
 | agg h k=>exact⟨h,k⟩
 | _=>exact RVs.cons (by first|assumption|constructor <;> assumption) (RVs.nil ρ)
noncomputable def opnOK(ng N:Nat)(x:Operand):Bool:=
 match x with
 | .tmp t=>Nat.blt t N
 | .const v=>uV v
 | .global g=>Nat.blt g ng
 | .func _=>true
noncomputable def uW(ng N:Nat)(o:Oper):Bool:=
 (o.op.operands.toList.all λx=>opnOK ng N x) && (match o.dst with
  | some d=>Nat.blt d N
  | none=>true)
noncomputable def yV(ng N:Nat):Code→Bool
 | .region _ ops _=>ops.toList.all λo=>uW ng N o
 | .seq a b=>yV ng N a && yV ng N b
 | .cond c a b=>opnOK ng N c && (yV ng N a && yV ng N b)
 | .block _ b=>yV ng N b
 | .loop b=>yV ng N b
 | .scope b=>yV ng N b
 | .rangeFunc f _ a b=>opnOK ng N f && (yV ng N a && yV ng N b)
 | _=>true
noncomputable def fnOK(ng:Nat)(fn:Func):Bool:=
 (match fn.body with
  | some b=>yV ng fn.ntmps b && fn.name != "runtime.NumGoroutine"
  | none=>true) &&
 (fn.results.toList.all fun
  | .tmp i=>Nat.blt i fn.ntmps
  | .cell i _=>Nat.blt i fn.ntmps)
noncomputable def yG(ng:Nat)(P:Program):Bool:=
 (P.funcs.toList.all λfn=>fnOK ng fn) && (P.types.toList.all λi=>match i.zero with
  | some z=>uV z
  | none=>true)
def ntm(P:Program)(f:FuncId):Nat:=((P.funcs[f]?).map (·.ntmps)).getD 0
section
variable (P:Program) (ng:Nat)
def EsR(ρ : Inj)(es es':List MapEntry):Prop:=
 es.length=es'.length∧∀(i:Nat) (e e':MapEntry),es[i]? = some e→es'[i]? = some e'→e'.key=e.key∧RV ρ e.val e'.val∧e'.born=e.born
structure TmR (ρ : Inj) (N:Nat) (t:Fr) (ts:Array Value):Prop where
 sz:ts.size=N
 tm:∀(i:Nat) (v:Value),ts[i]? = some v→RV ρ (fget t i) v
inductive ObjR (ρ : Inj) (base:Nat) (B:Bl):AObj→Obj→Prop
 | cells {c:Tr Value} {n z kd:Nat} {c':Array Value} {el:TypeId} {lo hi:Nat} (hn:n≤B.n) (hs:c'.size=B.n) (hk:kd≠1→n=B.n) (hz:(kd=1→z=zc el B.z)∧(kd=0→z≠0→z=el+1))
  (hv:∀(i:Nat) (v':Value),i<n→c'[i]? = some v'→RV ρ (Tr.get undef c i) v') (hb:kd≠2→base≤B.b)
  (hf:kd≠2→lo=0∧hi=0):ObjR ρ base B (.cells c n z kd) (.cells c' el (lo,hi))
 | map {es es':List MapEntry} {clock:Nat} (he:EsR ρ es es') (hb:base≤B.b):ObjR ρ base B (.map es clock) (.map ⟨es'⟩ clock)
 | siter0 {since last:Nat} {seen:List Nat} {s2 l2:Nat} {sn2:Array Nat} (hb:base≤B.b):ObjR ρ base B (.siter none since seen last) (.mapIter none s2 sn2 l2)
 | siter {m:Nat} {M:Bl} {since last:Nat} {seen:List Nat} (hm: ρ m=some M) (hb:base≤B.b):ObjR ρ base B (.siter (some m) since seen last) (.mapIter (some M.b) since ⟨seen⟩ last)
 | loop {l l':Loop} {t:Fr} (h1:l'.state=l.state) (h2:l'.pending=l.pending) (h3:l'.fn=l.fn) (h4:l'.params=l.params) (h5:l'.assign=l.assign) (h6:l'.body=l.body)
  (h7:∃D,ρ l.defers=some D∧l'.defers=D.b) (h8:TmR ρ (ntm P l.fn) t l'.tmps) (h9:yV ng (ntm P l.fn) l.assign=true) (ft:yV ng (ntm P l.fn) l.body=true)
  (h11:∀j,l.pending=some j→∀N,yV ng N j=true) (h12:∃fn,P.funcs[l.fn]? = some fn) (hb:base≤B.b):ObjR ρ base B (.loop l t) (.loop l')
 | ready (hb:base≤B.b):ObjR ρ base B (.deferred true) (.deferred (some []))
 | taken (hb:base≤B.b):ObjR ρ base B (.deferred false) (.deferred none)
 | rows {c:Tr Value} {n:Nat} {c':Array Value} {el:TypeId} {fr:Nat×Nat} (hn:n=c'.size) (hv:∀(i:Nat) (v':Value),c'[i]? = some v'→isU (Tr.get undef c i)=false→RV ρ (Tr.get undef c i) v') :
  ObjR ρ base B (.rows c n) (.cells c' el fr)
theorem EsR.mono{ρ ρ':Inj}(h: ρ.le ρ'){es es':List MapEntry}(r:EsR ρ es es'):EsR ρ' es es':=
 ⟨r.1,λi e e' a b=>let ⟨h1,h2,h3⟩:=r.2 i e e' a b;⟨h1,h2.mono h,h3⟩⟩
theorem TmR.le{ρ : Inj}{N:Nat}{t:Fr}{ts:Array Value}(r:TmR ρ N t ts):N≤ts.size:=Nat.le_of_eq r.sz.symm
theorem TmR.mono{ρ ρ':Inj}(h: ρ.le ρ'){N:Nat}{t:Fr}{ts:Array Value}(r:TmR ρ N t ts):TmR ρ' N t ts:=⟨r.sz,λi v e=>(r.tm i v e).mono h⟩
variable {P ng}
theorem ObjR.mono{ρ ρ':Inj}(h: ρ.le ρ'){base:Nat}{B:Bl}{o:AObj}{o':Obj}(r:ObjR P ng ρ base B o o'):ObjR P ng ρ' base B o o':=by
 cases r with
 | cells hn hs hk hz hv hb hf=>exact .cells hn hs hk hz (λi v' a b=>(hv i v' a b).mono h) hb hf
 | map he hb=>exact .map (he.mono h) hb
 | siter0 hb=>exact .siter0 hb
 | siter hm hb=>exact .siter (h _ _ hm) hb
 | loop h1 h2 h3 h4 h5 h6 h7 h8 h9 ft h11 h12 hb=>
  obtain⟨D,e1,e2⟩:=h7;exact .loop h1 h2 h3 h4 h5 h6 ⟨D,h _ _ e1,e2⟩ (h8.mono h) h9 ft h11 h12 hb
 | ready hb=>exact .ready hb
 | taken hb=>exact .taken hb
 | rows hn hv=>exact .rows hn λi v' a b=>(hv i v' a b).mono h
variable (P ng)
structure HeapR (ρ : Inj) (base:Nat) (w0:World) (h:zB) (n:Nat) (wd:World):Prop where
 dom:∀b,n≤b→ρ b=none
 obj:∀b B,ρ b=some B→zF h b≠.dead→∃o,wd.heap[B.b]? = some o∧ObjR P ng ρ base B (zF h b) o
 inj:∀a b A B,ρ a=some A→ρ b=some B→zF h a≠.dead→zF h b≠.dead→A.b=B.b→a=b
 below:Below base w0 wd
 size:base≤wd.heap.size
 glob:∀g,g<ng→∃B,ρ g=some B∧B.b=g
 ngn:ng≤n
structure Grow (ρ : Inj) (h:zB) (n:Nat) (wd:World) (ρ':Inj) (h':zB) (n':Nat) (wd':World):Prop where
 nn:n≤n'
 old:∀b,b<n→ρ' b = ρ b
 new:∀b B,n≤b→ρ' b=some B→wd.heap.size≤B.b∨∃a A,a<n∧ρ a=some A∧A.b=B.b∧zF h a≠.dead
 keep:∀c,c<wd.heap.size→(∀b B,ρ b=some B→zF h b≠.dead→B.b≠c)→wd'.heap[c]? = wd.heap[c]?
 size:wd.heap.size≤wd'.heap.size
 dead:∀b,b<n→zF h b = .dead→zF h' b = .dead
 tape:wd'.tape=wd.tape
theorem Grow.refl(ρ : Inj)(h:zB)(n:Nat)(wd:World)(hd:∀b,n≤b→ρ b=none):Grow ρ h n wd ρ h n wd:=
 ⟨ae _,λ_ _=>rfl,λb B hb e=>(by rw[hd b hb]at e;cases e),λ_ _ _=>rfl,ae _,λ_ _ e=>e,rfl⟩
theorem Grow.trans{ρ ρ1 ρ2:Inj}{h h1 h2:zB}{n n1 n2:Nat}{w w1 w2:World}(a:Grow ρ h n w ρ1 h1 n1 w1)(b:Grow ρ1 h1 n1 w1 ρ2 h2 n2 w2) :
 Grow ρ h n w ρ2 h2 n2 w2 where
 nn:=aZ a.nn b.nn
 old x hx:=(b.old x (aO hx a.nn)).trans (a.old x hx)
 new x X hx e:=by
  rcases aw x n1 with fl|fl
  · rw[b.old x fl]at e;exact a.new x X hx e
  · rcases b.new x X fl e with h2'|⟨y,Y,hy,ey,eb,hl⟩
    · exact .inl (aZ a.size h2')
    · rcases aw y n with h3|h3
      · refine .inr ⟨y,Y,h3,by rw[← a.old y h3];exact ey,eb,λhd=>hl (a.dead y h3 hd)⟩
      · rcases a.new y Y h3 ey with h4|⟨z,Z,hz,ez,ezb,hlz⟩
        · exact .inl (eb ▸ h4)
        · exact .inr ⟨z,Z,hz,ez,ezb.trans eb,hlz⟩
 keep c hc hn:=by
  rw[b.keep c (aO hc a.size) ?_,a.keep c hc hn];intro y Y ey hl eb;rcases aw y n with h3|h3
  · exact hn y Y (by rw[← a.old y h3];exact ey) (λhd=>hl (a.dead y h3 hd)) eb
  · rcases a.new y Y h3 ey with h4|⟨z,Z,hz,ez,ezb,hlz⟩
    · omega
    · exact hn z Z ez hlz (ezb.trans eb)
 size:=aZ a.size b.size
 dead x hx e:=b.dead x (aO hx a.nn) (a.dead x hx e)
 tape:=b.tape.trans a.tape
theorem Grow.le{ρ ρ':Inj}{h h':zB}{n n':Nat}{w w':World}(g:Grow ρ h n w ρ' h' n' w')(hd:∀b,n≤b→ρ b=none): ρ.le ρ':=by
 intro b B e;rcases aw b n with h1|h1
 · rw[g.old b h1];exact e
 · rw[hd b h1]at e;cases e
def Inj.put(ρ : Inj)(n:Nat)(B:Bl):Inj:=λb=>if b=n then some B else ρ b
theorem Inj.le_put{ρ : Inj}{n:Nat}(B:Bl)(h: ρ n=none): ρ.le (ρ.put n B):=by
 intro b C e;by_cases hb:b=n
 · subst hb;rw [h]at e;cases e
 · simp[Inj.put,hb,e]
theorem zH(h:zB)(o:AObj)(i j:Nat):zF (h.set .dead o i) j=if i=j then o else zF h j:=Tr.get_set_if _ _ _ _ _
variable {P ng}
theorem HeapR.alloc{ρ : Inj}{base:Nat}{w0:World}{h:zB}{n:Nat}{wd:World}(r:HeapR P ng ρ base w0 h n wd)(o:AObj)(o':Obj)(B:Bl)(hB:B.b=wd.heap.size)
(hr:ObjR P ng (ρ.put n B) base B o o') :
 HeapR P ng (ρ.put n B) base w0 (h.set .dead o n) (n+1) { wd with heap:=wd.heap.push o' }∧
  Grow ρ h n wd (ρ.put n B) (h.set .dead o n) (n+1) { wd with heap:=wd.heap.push o' }:=by
 have hn: ρ n=none:=r.dom n (ae _);have hle:=Inj.le_put B hn;refine⟨⟨?_,?_,?_,?_,?_,?_,?_⟩,⟨by omega,?_,?_,?_,?_,?_,rfl⟩⟩
 · intro b hb;have:b≠n:=by omega
   simp[Inj.put,this];exact r.dom b (by omega)
 · intro b C e hl;by_cases hb:b=n
   · subst hb;simp [Inj.put]at e;subst e;refine⟨o',by simp[hB],?_⟩;rw [zH];simpa using hr
   · have e': ρ b=some C:=by simpa [Inj.put,hb] using e
     rw[zH,if_neg (λx=>hb x.symm)]at hl ⊢;obtain⟨ob,h1,h2⟩:=r.obj b C e' hl;refine⟨ob,?_,h2.mono hle⟩
     have dV:C.b<wd.heap.size:=by
      rcases aw C.b wd.heap.size with h3|h3
      · exact h3
      · rw[aQ h3]at h1;cases h1
     show(wd.heap.push o')[C.b]? = _;rw [bX,if_neg (by omega)];exact h1
 · intro a b A C ea eb ha hb hab
   have lt:∀x X,x≠n→(ρ.put n B) x=some X→zF (h.set .dead o n) x≠.dead→X.b<wd.heap.size:=by
    intro x X hx ex hlx;have ex': ρ x=some X:=by simpa [Inj.put,hx] using ex
    rw[zH,if_neg (λy=>hx y.symm)]at hlx;obtain⟨ob,h1,_⟩:=r.obj x X ex' hlx;rcases aw X.b wd.heap.size with h3|h3
    · exact h3
    · rw[aQ h3]at h1;cases h1
   by_cases h1:a=n
   · by_cases h2:b=n
     · rw[h1,h2]
     · have:=lt b C h2 eb hb;subst h1;simp [Inj.put]at ea;subst ea;omega
   · by_cases h2:b=n
     · have:=lt a A h1 ea ha;subst h2;simp [Inj.put]at eb;subst eb;omega
     · rw[zH,if_neg (λy=>h1 y.symm)]at ha;rw [zH,if_neg (λy=>h2 y.symm)]at hb;exact r.inj a b A C (by simpa [Inj.put,h1] using ea) (by simpa [Inj.put,h2] using eb) ha hb hab
 · exact r.below.trans ⟨rfl,rfl,rfl,by simp,λk hk=>by
    have:=r.size;show(wd.heap.push o')[k]? = _;rw [bX,if_neg (by omega)]⟩
 · have:=r.size;simp;omega
 · intro g hg;obtain⟨G,e1,e2⟩:=r.glob g hg;exact⟨G,hle _ _ e1,e2⟩
 · have:=r.ngn;omega
 · intro b hb;have:b≠n:=by omega
   simp[Inj.put,this]
 · intro b C hb e;by_cases h1:b=n
   · subst h1;simp [Inj.put]at e;subst e;exact .inl (by omega)
   · have e': ρ b=some C:=by simpa [Inj.put,h1] using e
     rw[r.dom b (by omega)]at e';cases e'
 · intro c hc _;show(wd.heap.push o')[c]? = _;rw [bX,if_neg (by omega)]
 · simp
 · intro b hb e;rw [zH,if_neg (by omega)];exact e
theorem HeapR.turn{ρ : Inj}{base:Nat}{w0:World}{h:zB}{n:Nat}{wd:World}(r:HeapR P ng ρ base w0 h n wd){b:Nat}{B:Bl}(hb: ρ b=some B)(hl:zF h b≠.dead)
(o:AObj)(o':Obj)(wd':World)(hbase:base≤B.b)(hr:ObjR P ng ρ base B o o')(hw:wd'.heap[B.b]? = some o')(hsz:wd'.heap.size=wd.heap.size)
(hk:∀c,c≠B.b→wd'.heap[c]? = wd.heap[c]?)(h1:wd'.os=wd.os)(h2:wd'.tape=wd.tape)(h3:wd'.output=wd.output) :
 HeapR P ng ρ base w0 (h.set .dead o b) n wd'∧Grow ρ h n wd ρ (h.set .dead o b) n wd':=by
 refine⟨⟨r.dom,?_,?_,?_,by rw[hsz];exact r.size,r.glob,r.ngn⟩,⟨ae _,λ_ _=>rfl,?_,?_,by omega,?_,h2⟩⟩
 · intro x X e hlx;rw [zH]at hlx ⊢;by_cases hx:b=x
   · subst hx;rw [hb]at e;cases e;simp only[if_true];exact⟨o',hw,hr⟩
   · rw[if_neg hx]at hlx ⊢;obtain⟨ob,e1,e2⟩:=r.obj x X e hlx;refine⟨ob,?_,e2⟩;rw [hk _ (λe3=>hx (r.inj b x B X hb e hl hlx e3.symm)),e1]
 · intro x y X Y ex ey hx hy hxy;rw [zH]at hx hy;have lx:zF h x≠.dead:=by by_cases e:b=x;(· subst e;exact hl);(· rwa [if_neg e]at hx)
   have ly:zF h y≠.dead:=by by_cases e:b=y;(· subst e;exact hl);(· rwa [if_neg e]at hy)
   exact r.inj x y X Y ex ey lx ly hxy
 · exact r.below.trans ⟨h1,h2,h3,by omega,λk eM=>hk k (by omega)⟩
 · intro x X hx e;rw [r.dom x hx]at e;cases e
 · intro c _ hn;exact hk c λe=>hn b B hb hl e.symm
 · intro x hx e;rw [zH];by_cases h4:b=x
   · subst h4;exact absurd e hl
   · rw[if_neg h4];exact e
theorem HeapR.lt{ρ : Inj}{base:Nat}{w0:World}{h:zB}{n:Nat}{wd:World}(r:HeapR P ng ρ base w0 h n wd){b:Nat}{B:Bl}(hb: ρ b=some B)(hl:zF h b≠.dead):B.b<wd.heap.size:=by
 obtain⟨o,e,_⟩:=r.obj b B hb hl;rcases aw B.b wd.heap.size with h3|h3
 · exact h3
 · rw[aQ h3]at e;cases e
end
end
section
theorem zU{a b:Nat}(h:Nat.blt a b=true):a<b:=by rw[Nat.blt_eq]at h;exact h
theorem yK{a b:Nat}(h:Nat.ble a b=true):a≤b:=bZ h
theorem zE{a b:Nat}(h:Nat.beq a b=true):a=b:=dC h
theorem get_tabFrom{α : Type}:∀(l:List α) (t:Tr (Option α)) (i j:Nat),Tr.get none (tabFrom t i l) j=if i≤j∧j<i+l.length then l[j - i]? else Tr.get none t j:=by
 intro l
 induction l with
 | nil=>intro t i j;simp [tabFrom];omega
 | cons v l ih=>
  intro t i j;simp only[tabFrom,ih,Tr.get_set_if,a7];by_cases h1:i=j
  · subst h1;have h2:¬(i+1≤i∧i<i+1+l.length):=by omega
    have h3:i≤i∧i<i+(l.length+1):=by omega
    rw[if_neg h2,if_pos h3];simp
  · by_cases h2:i+1≤j∧j<i+1+l.length
    · have h3:i≤j∧j<i+(l.length+1):=by omega
      rw[if_pos h2,if_pos h3];have:j - i=(j - (i+1))+1:=by omega
      rw[this];rfl
    · have h3:¬(i≤j∧j<i+(l.length+1)):=by omega
      simp[h2,h3,h1]
theorem tab_some{α : Type}{l:List α}{j:Nat}{x: α}(h:Tr.get none (tabFrom .lF 0 l) j=some x):l[j]? = some x:=by
 rw[get_tabFrom]at h;split at h
 · simpa using h
 · rw[Tr.get_leaf]at h;cases h
theorem xK{P:Program}{t:TypeId}{i:TypeInfo}(h:inf? P t=some i):P.types[t]? = some i∧P.info? t=some i:=by
 have h1:P.types.toList[t]? = some i:=tab_some h;have h2:P.types[t]? = some i:=by simpa using h1
 refine⟨h2,?_⟩
 have dV:t<P.types.size:=by
  rcases aw t P.types.size with h3|h3
  · exact h3
  · rw[aQ h3]at h2;cases h2
 unfold Tables.info?;rw [if_pos dV];exact h2
theorem wI{P:Program}{t:TypeId}{d:TypeDesc}(h:und P t=some d):P.underlying t=some d:=by
 unfold und at h;unfold Program.underlying
 cases hi:inf? P t with
 | none=>rw [hi]at h;cases h
 | some i =>
  rw[hi]at h;rw [(xK hi).2];obtain⟨desc,st,sz,by_,hp,al,fa,zr,co,me⟩:=i
  cases desc with
  | named nm u=>
   simp only at h ⊢
   cases hj:inf? P u with
   | none=>rw [hj]at h;cases h
   | some j=>rw [hj]at h;rw [(xK hj).2];exact h
  | _=>exact h
theorem zero_some{P:Program}{t:TypeId}{z:Value}(h:yW P t=some z):∃i,P.info? t=some i∧P.types[t]? = some i∧i.zero=some z:=by
 unfold yW at h
 cases hi:inf? P t with
 | none=>rw [hi]at h;cases h
 | some i=>rw [hi]at h;exact⟨i,(xK hi).2,(xK hi).1,h⟩
theorem runTI{P:Program}{t:TypeId}{i:TypeInfo}(h:P.info? t=some i)(w:World):(typeInfo t).run P w = .ok i w:=by
 simp[typeInfo,h]
theorem wR{P:Program}{t:TypeId}{z:Value}(h:yW P t=some z)(w:World):(zeroValue t).run P w = .ok z w:=by
 obtain⟨i,h1,_,h3⟩:=zero_some h;simp [zeroValue,runTI h1,h3]
theorem vM{P:Program}{ng:Nat}(hP:yG ng P=true){t:TypeId}{z:Value}(h:yW P t=some z):uV z=true:=by
 obtain⟨i,_,h2,h3⟩:=zero_some h;unfold yG at hP;have h4:=(ad.1 hP).2
 have h5:=ay.1 h4 i (by
  have:P.types.toList[t]? = some i:=by simpa using h2
  exact ah this)
 rw[h3]at h5;exact h5
theorem yT{P:Program}{t:TypeId}{i:TypeInfo}(h:inf? P t=some i)(w:World):(sizeOf t).run P w = .ok i.size w:=by
 simp[sizeOf,runTI (xK h).2]
theorem zJ{P:Program}{t:TypeId}{d:TypeDesc}(h:und P t=some d)(w:World):(underlying t).run P w = .ok d w:=run_underlying (wI h) w
theorem run_agg?{P:Program}{t:TypeId}{d:TypeDesc}(h:und P t=some d)(w:World):(isAgg t).run P w = .ok (aggT d) w:=by
 simp only[isAgg,Sem.run_bind,zJ h,Result.andThen_ok];cases d <;> rfl
theorem rM{R:Type}{v:Value}{f:IntKind→Int→R}{d r:R}(h:onInt v f d=r):(∃k n,v = .int k n∧f k n=r)∨d=r:=by
 cases v with
 | int k n=>exact .inl ⟨k,n,rfl,h⟩
 | _=>exact .inr h
theorem onBool_some{R:Type}{v:Value}{f:Bool→R}{d r:R}(h:onBool v f d=r):(∃b,v = .bool b∧f b=r)∨d=r:=by
 cases v with
 | bool b=>exact .inl ⟨b,rfl,h⟩
 | _=>exact .inr h
theorem rN{R:Type}{v:Value}{f:Nat→Nat→R}{d r:R}(h:onPtr v f d=r):(∃b o,v = .pointer (some ⟨b,o,none⟩)∧f b o=r)∨d=r:=by
 cases v with
 | pointer a =>
  cases a with
  | none=>exact .inr h
  | some a=>
   obtain⟨b,o,s⟩:=a
   cases s with
   | none=>exact .inl ⟨b,o,rfl,h⟩
   | some s=>exact .inr h
 | _=>exact .inr h
theorem onSlice_some{R:Type}{v:Value}{f:Nat→Nat→Nat→Nat→R}{d r:R}(h:onSlice v f d=r):(∃b o l c,v = .slice (some ⟨b,o,none⟩) l c∧f b o l c=r)∨d=r:=by
 cases v with
 | slice a l c =>
  cases a with
  | none=>exact .inr h
  | some a=>
   obtain⟨b,o,s⟩:=a
   cases s with
   | none=>exact .inl ⟨b,o,l,c,rfl,h⟩
   | some s=>exact .inr h
 | _=>exact .inr h
theorem onCells_some{R:Type}{o:AObj}{f:Tr Value→Nat→Nat→Nat→R}{d r:R}(h:onCells o f d=r):(∃c n z kd,o = .cells c n z kd∧f c n z kd=r)∨d=r:=by
 cases o with
 | cells c n z kd=>exact .inl ⟨c,n,z,kd,rfl,h⟩
 | _=>exact .inr h
theorem onRows_some{R:Type}{o:AObj}{f g:Tr Value→Nat→R}{d r:R}(h:onRows o f g d=r):(∃c n z kd,o = .cells c n z kd∧f c n=r)∨(∃c n,o = .rows c n∧g c n=r)∨d=r:=by
 cases o with
 | cells c n z kd=>exact .inl ⟨c,n,z,kd,rfl,h⟩
 | rows c n=>exact .inr (.inl ⟨c,n,rfl,h⟩)
 | _=>exact .inr (.inr h)
theorem yH{R:Type}(v:Value)(k:Value→R):xM v k=k v:=by cases v <;> rfl
theorem known1_some{v w:Value}(h:rK v=some w):isU v=false∧v=w:=by
 unfold rK at h
 cases e:isU v with
 | true=>rw [e]at h;cases h
 | false=>rw [e]at h;simp only[yH]at h;injection h with h;exact⟨rfl,h⟩
theorem known1_of{v:Value}(h:isU v=false):rK v=some v:=by unfold rK;rw [h];simp only[yH]
theorem knownL_some{l w:List Value}(h:knownL l=some w):l.any isU=false∧l=w:=by
 unfold knownL at h
 cases e:l.any isU with
 | true=>rw [e]at h;cases h
 | false=>rw [e]at h;injection h with h;exact⟨rfl,h⟩
theorem knownL_of{l:List Value}(h:l.any isU=false):knownL l=some l:=by unfold knownL;rw [h]
theorem knownN_some{l:List Value}{w:Value}(h:rL l=some w):l.any isU=false∧w = .agg ⟨l⟩:=by
 unfold rL at h
 cases e:l.any isU with
 | true=>rw [e]at h;cases h
 | false=>rw [e]at h;injection h with h;exact⟨rfl,h.symm⟩
theorem knownN_of{l:List Value}(h:l.any isU=false):rL l=some (.agg ⟨l⟩):=by unfold rL;rw [h]
theorem forceOne_true{v:Value}{k:Value→Bool}(h:forceOne v k=true):v.oneCell'=true∧k v=true:=by
 cases v <;> first|exact⟨rfl,h⟩|cases h
theorem RV.one{ρ : Inj}{v v':Value}(h:RV ρ v v')(h1:v.oneCell'=true):v'.oneCell'=true:=by
 cases h <;> first|rfl|cases h1
section
variable {P:Program} {ng:Nat} {ρ : Inj} {base:Nat} {w0:World} {hp:zB} {n:Nat} {wd:World} {N:Nat} {t:Fr} {a:Act}
theorem ev_rv(hH:HeapR P ng ρ base w0 hp n wd)(hT:TmR ρ N t a.tmps){x:Operand}(hx:opnOK ng N x=true):RV ρ (ev t x) (a.eval x):=by
 cases x with
 | tmp i=>
  have hi:i<N:=zU hx;have dV:i<a.tmps.size:=aO hi hT.le;have h:=hT.tm i a.tmps[i] (aC dV);show RV ρ (fget t i) (a.tmps.getD i undef);rw [Array.getD,dif_pos dV];exact h
 | const v=>exact RV.plain hx ρ
 | global g=>
  obtain⟨B,e1,e2⟩:=hH.glob g (zU hx);have:=RV.ptr (o:=0) e1;rw [e2]at this;exact this
 | func f=>exact .func (by intro l;exact Fn.noConfusion) rfl rfl (by intro i v v' e;simp at e) (by intro i v v' e;simp at e)
theorem cell_at(hH:HeapR P ng ρ base w0 hp n wd){b:Nat}{B:Bl}(hb: ρ b=some B){c:Tr Value}{m z kd:Nat}(hg:zF hp b = .cells c m z kd){i:Nat}(hi:i<m) :
 ∃v',wd.cell? ⟨B.b,i,none⟩=some v'∧RV ρ (Tr.get undef c i) v':=by
 obtain⟨o,e1,e2⟩:=hH.obj b B hb (by rw[hg];exact AObj.noConfusion);rw [hg]at e2
 cases e2 with
 | cells hn hs hk hz hv eO hf=>
  rename_i c' el lo fy;have dV:i<c'.size:=by omega
  refine⟨c'[i],?_,hv i c'[i] hi (aC dV)⟩;simp [World.cell?,e1,dV]
theorem cells_at(hH:HeapR P ng ρ base w0 hp n wd){b:Nat}{B:Bl}(hb: ρ b=some B){c:Tr Value}{m z kd:Nat}(hg:zF hp b = .cells c m z kd){off k:Nat}(hi:off+k≤m) :
 ∃l',RVs ρ (c.toListFrom undef off k) l'∧l'.length=k∧∀(j:Nat) (v:Value),l'[j]? = some v→wd.cell? ⟨B.b,off+j,none⟩=some v:=by
 induction k generalizing off with
 | zero=>exact⟨[],RVs.nil ρ,rfl,λj v e=>by simp at e⟩
 | succ k ih =>
  obtain⟨v',e1,e2⟩:=cell_at hH hb hg (i:=off) (by omega);obtain⟨l',r1,r2,r3⟩:=ih (off:=off+1) (by omega);refine⟨v'::l',RVs.cons e2 r1,by simp[r2],λj v e=>?_⟩
  cases j with
  | zero=>simp at e;subst e;simpa using e1
  | succ j=>
   have:=r3 j v (by simpa using e);rw [← this];congr 2
   omega
theorem rcell_at(hH:HeapR P ng ρ base w0 hp n wd){b:Nat}{B:Bl}(hb: ρ b=some B){c:Tr Value}{m:Nat}(hg:zF hp b = .rows c m){i:Nat}(hi:i<m)(hu:isU (Tr.get undef c i)=false) :
 ∃v',wd.cell? ⟨B.b,i,none⟩=some v'∧RV ρ (Tr.get undef c i) v':=by
 obtain⟨o,e1,e2⟩:=hH.obj b B hb (by rw[hg];exact AObj.noConfusion);rw [hg]at e2
 cases e2 with
 | rows hn hv=>
  rename_i c' el fr;have dV:i<c'.size:=by omega
  refine⟨c'[i],?_,hv i c'[i] (aC dV) hu⟩;simp [World.cell?,e1,dV]
theorem rcells_at(hH:HeapR P ng ρ base w0 hp n wd){b:Nat}{B:Bl}(hb: ρ b=some B){c:Tr Value}{m:Nat}(hg:zF hp b = .rows c m){off k:Nat}(hi:off+k≤m)(hu:(c.toListFrom undef off k).any isU=false) :
 ∃l',RVs ρ (c.toListFrom undef off k) l'∧l'.length=k∧∀(j:Nat) (v:Value),l'[j]? = some v→wd.cell? ⟨B.b,off+j,none⟩=some v:=by
 induction k generalizing off with
 | zero=>exact⟨[],RVs.nil ρ,rfl,λj v e=>by simp at e⟩
 | succ k ih =>
  have hu2:(isU (Tr.get undef c off) || (c.toListFrom undef (off+1) k).any isU)=false:=hu;obtain⟨u1,u2⟩:=cZ.1 hu2;obtain⟨v',e1,e2⟩:=rcell_at hH hb hg (i:=off) (by omega) u1;obtain⟨l',r1,r2,r3⟩:=ih (off:=off+1) (by omega) u2;refine⟨v'::l',RVs.cons e2 r1,by simp[r2],λj v e=>?_⟩
  cases j with
  | zero=>simp at e;subst e;simpa using e1
  | succ j=>
   have:=r3 j v (by simpa using e);rw [← this];congr 2
   omega
theorem run_loadRows(hH:HeapR P ng ρ base w0 hp n wd){b:Nat}{B:Bl}(hb: ρ b=some B){c:Tr Value}{m:Nat}(hg:zF hp b = .rows c m){off k:Nat}(hi:off+k≤m)(hu:(c.toListFrom undef off k).any isU=false) :
 ∃l',RVs ρ (c.toListFrom undef off k) l'∧(loadCells ⟨B.b,off,none⟩ k).run P wd = .ok ⟨l'⟩ wd:=by
 obtain⟨l',r1,r2,r3⟩:=rcells_at hH hb hg hi hu;refine⟨l',r1,?_⟩
 have:=run_loadCells_list (P:=P) (w:=wd) ⟨B.b,off,none⟩ l' λj v e=>by
  have h:=r3 j v e;unfold Addr.add;split
  · rename_i h0;subst h0;simpa using h
  · exact h
 rw[r2]at this;exact this
theorem run_loadRow(hH:HeapR P ng ρ base w0 hp n wd){b:Nat}{B:Bl}(hb: ρ b=some B){c:Tr Value}{m z kd:Nat}(hg:zF hp b = .cells c m z kd){off k:Nat}(hi:off+k≤m) :
 ∃l',RVs ρ (c.toListFrom undef off k) l'∧(loadCells ⟨B.b,off,none⟩ k).run P wd = .ok ⟨l'⟩ wd:=by
 obtain⟨l',r1,r2,r3⟩:=cells_at hH hb hg hi;refine⟨l',r1,?_⟩
 have:=run_loadCells_list (P:=P) (w:=wd) ⟨B.b,off,none⟩ l' λj v e=>by
  have h:=r3 j v e;unfold Addr.add;split
  · rename_i h0;subst h0;simpa using h
  · exact h
 rw[r2]at this;exact this
theorem shape_scal{ty:TypeId}(h:yJ P ty = .scal):∃d i,und P ty=some d∧aggT d=false∧inf? P ty=some i∧i.size=1:=by
 unfold yJ at h
 cases h1:und P ty with
 | none=>rw [h1]at h;cases h
 | some d =>
  cases h2:inf? P ty with
  | none=>rw [h1,h2]at h;cases h
  | some i =>
   rw[h1,h2]at h;dsimp only at h
   cases h3:aggT d with
   | true=>rw [h3]at h;cases h
   | false=>
    rw[h3]at h;dsimp only[cond]at h
    cases h4:Nat.beq i.size 1 with
    | false=>rw [h4]at h;cases h
    | true=>exact⟨d,i,rfl,h3,rfl,zE h4⟩
theorem shape_agg{ty:TypeId}{k:Nat}(h:yJ P ty = .agg k):∃d i,und P ty=some d∧aggT d=true∧inf? P ty=some i∧i.size=k:=by
 unfold yJ at h
 cases h1:und P ty with
 | none=>rw [h1]at h;cases h
 | some d =>
  cases h2:inf? P ty with
  | none=>rw [h1,h2]at h;cases h
  | some i =>
   rw[h1,h2]at h
   cases h3:aggT d with
   | false=>
    simp only[h3,cond]at h;cases h4:Nat.beq i.size 1 <;> rw[h4]at h <;> cases h
   | true=>
    simp only[h3,cond]at h;injection h with h
    exact⟨d,i,rfl,h3,rfl,h⟩
theorem load_ok(hH:HeapR P ng ρ base w0 hp n wd){ty:TypeId}{x x':Value}(hx:RV ρ x x'){v:Value}
(h:onPtr x (λb off=>onRows (zF hp b) (λc kn=>
  Sh.rec none (Bool.rec none (xM (Tr.get undef c off) some) (Nat.blt off kn))
   (λsz=>Bool.rec none (some (.agg ⟨c.toListFrom undef off sz⟩)) (Nat.ble (Nat.add off sz) kn)) (yJ P ty)) (λc kn=>
  Sh.rec none (Bool.rec none (rK (Tr.get undef c off)) (Nat.blt off kn))
   (λsz=>Bool.rec none (rL (c.toListFrom undef off sz)) (Nat.ble (Nat.add off sz) kn)) (yJ P ty)) none) none=some v) :
 ∃v',(Instr.loadAt ty x').run P wd = .ok v' wd∧RV ρ v v':=by
 rcases rN h with⟨b,off,rfl,h⟩|h
 case inr=>cases h
 obtain⟨B,hb,_,rfl⟩:=hx.of_ptr;have eO: ρ b=some B:=hb;rcases onRows_some h with⟨c,kn,z,kd,hg,h⟩|⟨c,kn,hg,h⟩|h
 case inr.inr=>cases h
 case inr.inl=>
  cases hs:yJ P ty with
  | bad=>rw [hs]at h;cases h
  | scal =>
   rw[hs]at h;dsimp only at h;obtain⟨d,_,hd,ha,_⟩:=shape_scal hs
   cases dV:Nat.blt off kn with
   | false=>rw [dV]at h;cases h
   | true=>
    rw[dV]at h;obtain⟨u1,u2⟩:=known1_some (show rK (Tr.get undef c off)=some v from h);subst u2;obtain⟨v',e1,e2⟩:=rcell_at hH eO hg (zU dV) u1;refine⟨v',?_,e2⟩;simp [Instr.loadAt,Instr.sureAddr,loadVar,run_agg? hd,ha,e1]
  | agg sz =>
   rw[hs]at h;dsimp only at h;obtain⟨d,i,hd,ha,hi,hsz⟩:=shape_agg hs
   cases hle:Nat.ble (Nat.add off sz) kn with
   | false=>rw [hle]at h;cases h
   | true=>
    rw[hle]at h;obtain⟨u1,u2⟩:=knownN_some (show rL (c.toListFrom undef off sz)=some v from h);subst u2;obtain⟨l',r1,r2⟩:=run_loadRows hH eO hg (off:=off) (k:=sz) (yK hle) u1;refine⟨.agg ⟨l'⟩,?_,RV.mk_agg r1⟩;simp [Instr.loadAt,Instr.sureAddr,loadVar,run_agg? hd,ha,yT hi,hsz,r2]
 cases hs:yJ P ty with
 | bad=>rw [hs]at h;cases h
 | scal =>
  rw[hs]at h;dsimp only at h;obtain⟨d,_,hd,ha,_⟩:=shape_scal hs
  cases dV:Nat.blt off kn with
  | false=>rw [dV]at h;cases h
  | true=>
   rw[dV]at h;simp only[yH]at h;injection h with h
   subst h;obtain⟨v',e1,e2⟩:=cell_at hH eO hg (zU dV);refine⟨v',?_,e2⟩;simp [Instr.loadAt,Instr.sureAddr,loadVar,run_agg? hd,ha,e1]
 | agg sz =>
  rw[hs]at h;dsimp only at h;obtain⟨d,i,hd,ha,hi,hsz⟩:=shape_agg hs
  cases hle:Nat.ble (Nat.add off sz) kn with
  | false=>rw [hle]at h;cases h
  | true=>
   rw[hle]at h;injection h with h
   subst h;obtain⟨l',r1,r2⟩:=run_loadRow hH eO hg (off:=off) (k:=sz) (yK hle);refine⟨.agg ⟨l'⟩,?_,RV.mk_agg r1⟩;simp [Instr.loadAt,Instr.sureAddr,loadVar,run_agg? hd,ha,yT hi,hsz,r2]
end
end
section
theorem add_eq(b o n:Nat):(⟨b,o,none⟩:Addr).add n=⟨b,o+n,none⟩:=by
 unfold Addr.add;by_cases h:n=0
 · subst h;rfl
 · rw[if_neg h]
theorem takeFrom_eq:∀(i n:Nat) (l:List Value),vV i n l=(l.drop i).take n:=by
 intro i
 induction i with
 | zero =>
  intro n
  induction n with
  | zero=>intro l;simp [vV]
  | succ n ih =>
   intro l
   cases l with
   | nil=>simp [vV]
   | cons v r=>
    have:=ih r;simp only[List.drop_zero]at this ⊢;show v::vV 0 n r=_;rw [this];rfl
 | succ i ih =>
  intro n l
  cases n with
  | zero=>simp [vV]
  | succ n =>
   cases l with
   | nil=>simp [vV]
   | cons v r=>
    show vV i (n+1) r=_;rw [ih (n+1) r];rfl
theorem extract_toList(c:Array Value)(i n:Nat):(c.extract i (i+n)).toList=(c.toList.drop i).take n:=by
 simp[Array.toList_extract]
section
variable {P:Program} {ng:Nat} {ρ : Inj} {base:Nat} {w0:World} {hp:zB} {n:Nat} {wd:World}
theorem part_ok{t:TypeId}{cs cs':List Value}{off:Nat}{v:Value}(hc:RVs ρ cs cs')(h:aPart P t cs off=some v) :
 ∃v',(part t ⟨cs'⟩ off).run P wd = .ok v' wd∧RV ρ v v':=by
 unfold aPart at h
 cases hd:und P t with
 | none=>rw [hd]at h;cases h
 | some d =>
  cases hi:inf? P t with
  | none=>rw [hd,hi]at h;cases h
  | some i =>
   rw[hd,hi]at h;dsimp only at h
   cases ha:aggT d with
   | true =>
    rw[ha]at h;dsimp only[cond]at h
    cases hb:Nat.ble (Nat.add off i.size) cs.length with
    | false=>rw [hb]at h;cases h
    | true=>
     rw[hb]at h;dsimp only[cond]at h;injection h with h
     subst h;refine⟨.agg ((⟨cs'⟩:Array Value).extract off (off+i.size)),?_,?_⟩
     · simp[part,run_agg? hd,ha,yT hi]
     · have:RVs ρ (vV off i.size cs) ((⟨cs'⟩:Array Value).extract off (off+i.size)).toList:=by
        rw[extract_toList,takeFrom_eq];exact(hc.drop off).take i.size
       exact .agg this.1 this.2
   | false=>
    rw[ha]at h;dsimp only[cond]at h;obtain⟨v',e1,e2⟩:=hc.at h;refine⟨v',?_,e2⟩;simp [part,run_agg? hd,ha,e1]
theorem off_some{t:TypeId}{f o:Nat}(h:offOf P t f=some o):∃fs fd i,und P t=some (.struct fs)∧fs[f]? = some fd∧inf? P fd.type=some i∧i.size≠0∧fd.offset=o:=by
 unfold offOf at h
 cases hd:und P t with
 | none=>rw [hd]at h;cases h
 | some d =>
  rw[hd]at h
  cases d with
  | struct fs =>
   dsimp only at h
   cases hf:fs[f]? with
   | none=>rw [hf]at h;cases h
   | some fd =>
    rw[hf]at h;dsimp only at h
    cases hi:inf? P fd.type with
    | none=>rw [hi]at h;cases h
    | some i =>
     rw[hi]at h;dsimp only at h
     cases hz:Nat.beq i.size 0 with
     | true=>rw [hz]at h;cases h
     | false=>
      rw[hz]at h;dsimp only[cond]at h;injection h with h
      exact⟨fs,fd,i,rfl,hf,hi,λe=>(by rw[e]at hz;cases hz),h⟩
  | _=>cases h
theorem fieldAddr_ok{t:TypeId}{f o b':Nat}{off:Nat}(h:offOf P t f=some o) :
 (Instr.fieldAt t (.pointer (some ⟨b',off,none⟩)) f).run P wd = .ok (.pointer (some ⟨b',off+o,none⟩)) wd:=by
 obtain⟨fs,fd,i,hd,hf,hi,hz,rfl⟩:=off_some h;simp [Instr.fieldAt,zJ hd,hf,Instr.sureAddr,fieldPlace,yT hi,hz,add_eq]
theorem ix_slice{t:TypeId}{sz:Nat}(h:ixOf P t = .slice sz):∃e i,und P t=some (.slice e)∧inf? P e=some i∧i.size=sz:=by
 unfold ixOf at h
 cases hd:und P t with
 | none=>rw [hd]at h;cases h
 | some d =>
  rw[hd]at h
  cases d with
  | slice e=>
   dsimp only at h
   cases hi:inf? P e with
   | none=>rw [hi]at h;cases h
   | some i=>rw [hi]at h;dsimp only at h;injection h with h;exact⟨e,i,rfl,hi,h⟩
  | array len e=>
   dsimp only at h
   cases hi:inf? P e with
   | none=>rw [hi]at h;cases h
   | some i=>rw [hi]at h;cases h
  | _=>cases h
theorem ix_array{t:TypeId}{len sz:Nat}(h:ixOf P t = .array len sz):∃e i,und P t=some (.array len e)∧inf? P e=some i∧i.size=sz:=by
 unfold ixOf at h
 cases hd:und P t with
 | none=>rw [hd]at h;cases h
 | some d =>
  rw[hd]at h
  cases d with
  | slice e=>
   dsimp only at h
   cases hi:inf? P e with
   | none=>rw [hi]at h;cases h
   | some i=>rw [hi]at h;cases h
  | array l e=>
   dsimp only at h
   cases hi:inf? P e with
   | none=>rw [hi]at h;cases h
   | some i=>rw [hi]at h;dsimp only at h;injection h with h1 h2;subst h1;exact⟨e,i,rfl,hi,h2⟩
  | _=>cases h
theorem RV.of_slice{ρ : Inj}{b o l c:Nat}{v:Value}(h:RV ρ (.slice (some ⟨b,o,none⟩) l c) v) :
 (∃(B:Bl) (o' c':Nat),ρ b=some B∧v = .slice (some ⟨B.b,o',none⟩) l c'∧(0<l→o'=o)∧l≤c'∧
  ((c≠inf∧c'=c∧(o'=o∨c=0))∨(c=inf∧((o'=o∧o+c'*B.z=B.n)∨(c'=0∧0<o)))))∨
 (l=0∧c=0∧(∃B:Bl,ρ b=some B)∧∃a:Addr,v = .slice (some a) 0 0):=by
 cases h with
 | slice h hc hl ho=>exact .inl ⟨_,_,c,h,rfl,λh0=>ho.resolve_right (by omega),hl,.inl ⟨hc,rfl,ho⟩⟩
 | slice0 h a=>exact .inr ⟨rfl,rfl,⟨_,h⟩,a,rfl⟩
 | opened h hl ho=>
  refine .inl ?_;refine⟨_,_,_,h,rfl,λkm=>?_,hl,.inr ⟨rfl,ho⟩⟩;rcases ho with ho|ho
  · exact ho.1
  · omega
theorem indexAddr_ok{ty:TypeId}{x x':Value}{k:IntKind}{i:Int}(hx:RV ρ x x'){v:Value}
(h:(Int.rec (λi=>Ix.rec none
  (λsz=>onSlice x (λb off len _=>Bool.rec none (some (.pointer (some ⟨b,Nat.add off (Nat.mul i sz),none⟩))) (Nat.blt i len)) none)
  (λlen sz=>onPtr x (λb off=>Bool.rec none (some (.pointer (some ⟨b,Nat.add off (Nat.mul i sz),none⟩))) (Nat.blt i len)) none) (ixOf P ty)) (λ_=>none) i:Option Value)=some v) :
 ∃v',(Instr.indexAt ty x' (.int k i)).run P wd = .ok v' wd∧RV ρ v v':=by
 cases i with
 | negSucc m=>cases h
 | ofNat m =>
  dsimp only at h
  cases hix:ixOf P ty with
  | bad=>rw [hix]at h;cases h
  | slice sz =>
   rw[hix]at h;dsimp only at h;obtain⟨e,ei,hd,hi,rfl⟩:=ix_slice hix;rcases onSlice_some h with⟨b,off,len,c,hxe,h2⟩|h2
   case inr=>cases h2
   clear h;have h:=h2;clear h2;subst hxe
   cases dV:Nat.blt m len with
   | false=>rw [dV]at h;cases h
   | true=>
    rw[dV]at h;dsimp only at h;injection h with h
    subst h;have hm:=zU dV;rcases hx.of_slice with⟨B,o',c',hb,rfl,ho,_⟩|⟨h0,_⟩
    rotate_left
    · omega
    obtain rfl:=ho (by omega);refine⟨.pointer (some ⟨B.b,o'+m*ei.size,none⟩),?_,RV.ptr hb⟩;simp [Instr.indexAt,asIntOf,zJ hd,yT hi,add_eq,hm]
  | array len sz =>
   rw[hix]at h;dsimp only at h;obtain⟨e,ei,hd,hi,rfl⟩:=ix_array hix;rcases rN h with⟨b,off,hxe,h2⟩|h2
   case inr=>cases h2
   clear h;have h:=h2;clear h2;subst hxe
   cases dV:Nat.blt m len with
   | false=>rw [dV]at h;cases h
   | true=>
    rw[dV]at h;dsimp only at h;injection h with h
    subst h;have hm:=zU dV;obtain⟨B,hb,_,rfl⟩:=hx.of_ptr;refine⟨.pointer (some ⟨B.b,off+m*ei.size,none⟩),?_,RV.ptr hb⟩;simp [Instr.indexAt,asIntOf,zJ hd,yT hi,add_eq,hm,Instr.sureAddr]
theorem index_ok{ty:TypeId}{x x' ix ix':Value}(hx:RV ρ x x')(hix:RV ρ ix ix'){v:Value}(h:aIndex P ty x ix=some v) :
 ∃v',(Instr.index ty x' ix').run P wd = .ok v' wd∧RV ρ v v':=by
 unfold aIndex at h;split at h
 case h_2=>cases h
 rename_i k m;obtain rfl:=hix.of_int;split at h
 · rename_i len e cs hd;obtain⟨cs',rfl,eX⟩:=hx.of_agg
   cases hi:inf? P e with
   | none=>rw [hi]at h;cases h
   | some ei =>
    rw[hi]at h;dsimp only at h
    cases dV:Nat.blt m len with
    | false=>rw [dV]at h;cases h
    | true=>
     rw[dV]at h;have hm:=zU dV;obtain⟨v',e1,e2⟩:=part_ok (wd:=wd) eX h;refine⟨v',?_,e2⟩;have:(⟨cs'.toList⟩:Array Value)=cs':=rfl;rw [this]at e1;have e1':(part e cs' (m*ei.size)).run P wd = .ok v' wd:=e1;simp [Instr.index,asIntOf,zJ hd,yT hi,hm,e1']
 · rename_i s hd;obtain rfl:=hx.of_string;rw [nthB_eq]at h;split at h
   · rename_i b hb;injection h with h
     subst h;refine⟨.int .u8 b.toNat,?_,RV.int _ _⟩
     have dV:m<s.data.toList.length:=by
      rcases aw m s.data.toList.length with h1|h1
      · exact h1
      · rw[an h1]at hb;cases hb
     have hs:s[m]? = some b:=by
      have h2:m<s.size:=dV;rw [getElem?_pos s m h2];rw [aa dV]at hb;injection hb with hb
      rw[← hb];rfl
     simp[Instr.index,asIntOf,zJ hd,hs]
   · cases h
 · cases h
theorem field_ok{ty:TypeId}{x x':Value}{f:Nat}(hx:RV ρ x x'){v:Value}(h:aField P ty x f=some v) :
 ∃v',(Instr.field ty x' f).run P wd = .ok v' wd∧RV ρ v v':=by
 unfold aField at h;split at h
 · rename_i fs cs hd;obtain⟨cs',rfl,eX⟩:=hx.of_agg;split at h
   · rename_i fd hf;obtain⟨v',e1,e2⟩:=part_ok (wd:=wd) eX h;refine⟨v',?_,e2⟩;have e1':(part fd.type cs' fd.offset).run P wd = .ok v' wd:=e1;simp [Instr.field,zJ hd,hf,asAgg,e1']
   · cases h
 · cases h
theorem extract_ok{x x':Value}{i:Nat}(hx:RV ρ x x'){v:Value}{vs:Array Value}(he:x = .tuple vs)(h:vs.toList[i]? = some v) :
 ∃v',(Instr.extract x' i).run P wd = .ok v' wd∧RV ρ v v':=by
 subst he;obtain⟨vs',rfl,hvs⟩:=hx.of_tuple;obtain⟨v',e1,e2⟩:=hvs.at h;refine⟨v',?_,e2⟩;have:vs'[i]? = some v':=by simpa using e1
 simp[Instr.extract,this]
end
end
section
section
variable {P:Program} {ng:Nat} {ρ : Inj} {base:Nat} {w0:World} {hp:zB} {n:Nat} {wd:World}
def ORV(ρ : Inj)(o o':Option Value):Prop:=
 match o,o' with
 | none,none=>True
 | some v,some v'=>RV ρ v v'
 | _,_=>False
theorem natOf_some{v:Value}{m:Nat}(h:natOf v=some m):∃k,v = .int k (.ofNat m):=by
 unfold natOf at h;split at h
 · injection h with h;subst h;exact⟨_,rfl⟩
 · cases h
theorem zY{d most m:Nat}{o o':Option Value}(hr:ORV ρ o o')(h:yC d most o=some m) :
 (o=none∧o'=none∧m=d)∨∃v k,o=some v∧o'=some (.int k m)∧m≤most:=by
 cases o with
 | none=>
  cases o' with
  | none=>simp only[yC]at h;injection h with h;exact .inl ⟨rfl,rfl,h.symm⟩
  | some v=>exact hr.elim
 | some v =>
  cases o' with
  | none=>exact hr.elim
  | some v' =>
   simp only[yC]at h
   cases hn:natOf v with
   | none=>rw [hn]at h;cases h
   | some i =>
    rw[hn]at h;dsimp only at h
    cases hle:Nat.ble i most with
    | false=>rw [hle]at h;cases h
    | true=>
     rw[hle]at h;dsimp only[cond]at h;injection h with h
     subst h;obtain⟨k,rfl⟩:=natOf_some hn;have hr':RV ρ (.int k (.ofNat i)) v':=hr;obtain rfl:=hr'.of_int;exact .inr ⟨_,k,rfl,rfl,yK hle⟩
theorem vY(k:IntKind){m y:Nat}(code:BoundsCode)(h:m≤y):(Instr.sliceBound (.int k (m:Int)) y code).run P wd = .ok m wd:=by
 have:=Go.run_sliceBound (P:=P) (w:=wd) k m y code (by omega) (by omega);simpa using this
theorem rO{isS:Bool}{len cap c':Nat}{lo hi mx lo' fy mx':Option Value}(h1:ORV ρ lo lo')(h2:ORV ρ hi fy)(h3:ORV ρ mx mx')(hf:fullOK hi mx=true){m hh l dm:Nat}{most:Nat}
(e1:yC dm cap mx=some m)(e2:yC len most hi=some hh)(e3:yC 0 hh lo=some l)
(ie:mx=none→most≤c')(hmx2:mx≠none→cap≤c'∧most=m) :
 (Instr.sliceBounds isS len c' lo' fy mx').run P wd = .ok (l,hh,if mx=none then c' else m) wd:=by
 rcases zY h3 e1 with⟨rfl,rfl,_⟩|⟨v,k,rfl,rfl,hm⟩
 · have hc:=ie rfl;rcases zY h2 e2 with⟨rfl,rfl,rfl⟩|⟨v2,k2,rfl,rfl,hh2⟩
   · rcases zY h1 e3 with⟨rfl,rfl,rfl⟩|⟨v3,k3,rfl,rfl,hl⟩
     · simp[Instr.sliceBounds]
     · simp[Instr.sliceBounds,vY k3 _ hl]
   · rcases zY h1 e3 with⟨rfl,rfl,rfl⟩|⟨v3,k3,rfl,rfl,hl⟩
     · simp[Instr.sliceBounds,vY k2 _ (aZ hh2 hc)]
     · simp[Instr.sliceBounds,vY k2 _ (aZ hh2 hc),vY k3 _ hl]
 · obtain⟨hc,rfl⟩:=hmx2 (by simp);rcases zY h2 e2 with⟨rfl,rfl,rfl⟩|⟨v2,k2,rfl,rfl,hh2⟩
   · cases hf
   · rcases zY h1 e3 with⟨rfl,rfl,rfl⟩|⟨v3,k3,rfl,rfl,hl⟩
     · simp[Instr.sliceBounds,vY k _ (aZ hm hc),vY k2 _ hh2]
     · simp[Instr.sliceBounds,vY k _ (aZ hm hc),vY k2 _ hh2,vY k3 _ hl]
theorem far_eq(b o n:Nat):far ⟨b,o,none⟩ n=⟨b,o+n,none⟩:=rfl
theorem sliceEx_ok{isS:Bool}{b off off' len cap size:Nat}{B:Bl}(hb: ρ b=some B)(ho:off'=off∨cap=0){lo hi mx lo' fy mx':Option Value}(h1:ORV ρ lo lo')(h2:ORV ρ hi fy)(h3:ORV ρ mx mx')
   (hf:fullOK hi mx=true){v:Value}(h:vW ⟨b,off,none⟩ len cap size lo hi mx=some v) :
    ∃l hh m,(Instr.sliceBounds isS len cap lo' fy mx').run P wd = .ok (l,hh,m) wd∧
      RV ρ v (.slice (some (if m=l then⟨B.b,off',none⟩ else(⟨B.b,off',none⟩:Addr).add (l*size))) (hh - l) (m - l)):=by
  unfold vW at h
  cases e1:yC cap cap mx with
  | none=>rw [e1]at h;cases h
  | some m =>
    rw[e1]at h;dsimp only at h
    cases e2:yC len m hi with
    | none=>rw [e2]at h;cases h
    | some hh =>
      rw[e2]at h;dsimp only at h
      cases e3:yC 0 hh lo with
      | none=>rw [e3]at h;cases h
      | some l =>
        rw[e3]at h;dsimp only at h
        cases hc:(Nat.blt m inf && Nat.ble hh m) with
        | false=>rw [hc]at h;cases h
        | true =>
          rw[hc]at h;dsimp only[cond]at h;injection h with h
          subst h;obtain⟨hm,hhm⟩:=ad.1 hc;have hm:=zU hm;have hhm:=yK hhm
          have hmc:m≤cap:=by
            rcases zY h3 e1 with⟨_,_,e⟩|⟨_,_,_,_,e⟩
            · omega
            · exact e
          have kO:l≤hh:=by
            rcases zY h1 e3 with⟨_,_,e⟩|⟨_,_,_,_,e⟩
            · omega
            · exact e
          have fx:mx=none→m=cap:=λe=>by
            subst e;simp only[yC]at e1;injection e1 with e1;exact e1.symm
          refine⟨l,hh,m,?_,?_⟩
          · have:=rO (P:=P) (wd:=wd) (isS:=isS) (c':=cap) h1 h2 h3 hf e1 e2 e3 (λ_=>hmc) (λ_=>⟨ae _,rfl⟩);rw [this];split
            · rename_i e;rw [fx e]
            · rfl
          · by_cases fY:m=l
            · subst fY;have e0:hh - m≤m - m:=by omega
              have:Nat.beq m m=true:=aB m;rw [this,if_pos rfl];dsimp only[cond]
              exact .slice hb (by show m - m ≠ inf; have : inf ≠ 0 := by decide
                                  omega) e0 (.inr (by show m - m=0;omega))
            · have ja:Nat.beq m l=false:=by
                cases e:Nat.beq m l with
                | false=>rfl
                | true=>exact absurd (zE e) fY
              rw[ja,if_neg fY,add_eq];dsimp only[cond];rw [far_eq];refine .slice hb (by show m - l≠inf;omega) (by show hh - l≤m - l;omega) (.inl ?_);rcases ho with ho|ho
              · rw[ho];rfl
              · omega
theorem sliceOp_ok{isS:Bool}{b off off' len c' size:Nat}{B:Bl}(hb: ρ b=some B)(hl:len≤c')(ho:(off'=off∧off+c'*B.z=B.n)∨(c'=0∧0<off))(hz:B.z=size)(kX:1≤size)
   {lo hi mx lo' fy mx':Option Value}(h1:ORV ρ lo lo')(h2:ORV ρ hi fy)(h3:ORV ρ mx mx')
   (hf:fullOK hi mx=true){v:Value}(h:tN ⟨b,off,none⟩ len size lo hi mx=some v) :
    ∃l hh m,(Instr.sliceBounds isS len c' lo' fy mx').run P wd = .ok (l,hh,m) wd∧
      RV ρ v (.slice (some (if m=l then⟨B.b,off',none⟩ else(⟨B.b,off',none⟩:Addr).add (l*size))) (hh - l) (m - l)):=by
  unfold tN at h
  cases mx with
  | none =>
    dsimp only at h
    cases e2:yC len len hi with
    | none=>rw [e2]at h;cases h
    | some hh =>
      rw[e2]at h;dsimp only at h
      cases e3:yC 0 hh lo with
      | none=>rw [e3]at h;cases h
      | some l =>
        rw[e3]at h;dsimp only at h;injection h with h
        subst h
        have hhl:hh≤len:=by
          rcases zY h2 e2 with⟨_,_,e⟩|⟨_,_,_,_,e⟩
          · omega
          · exact e
        have kO:l≤hh:=by
          rcases zY h1 e3 with⟨_,_,e⟩|⟨_,_,_,_,e⟩
          · omega
          · exact e
        refine⟨l,hh,c',?_,?_⟩
        · have:=rO (P:=P) (wd:=wd) (isS:=isS) (cap:=0) (c':=c') (dm:=0) (m:=0) h1 h2 h3 hf rfl e2 e3 (λ_=>hl) (λe=>absurd rfl e);rw [this,if_pos rfl]
        · rw[far_eq];by_cases fY:c'=l
          · subst fY;rw [if_pos rfl];refine .opened hb (by show hh - c'≤c' - c';omega) ?_;rw [bA];rcases bz c' with e0|e0
            · subst e0;rcases ho with⟨fG,ho2⟩|ho
              · exact .inl ⟨by rw[fG];simp,by simpa using ho2⟩
              · exact .inr ⟨rfl,by simpa using ho.2⟩
            · exact .inr ⟨rfl,by
                have:1*1≤c'*size:=cY (by omega) kX;show 0<off+c'*size;omega⟩
          · rw[if_neg fY,add_eq];rcases ho with⟨fG,ho2⟩|ho
            · subst hz;refine .opened hb (by show hh - l≤c' - l;omega) (.inl ⟨by rw[fG];rfl,?_⟩);show off+l*B.z+(c' - l)*B.z=B.n;rw [← ho2,Nat.sub_mul];have:l*B.z≤c'*B.z:=bH _ (by omega);omega
            · omega
  | some vm =>
    dsimp only at h
    cases e1:yC len len (some vm) with
    | none=>rw [e1]at h;cases h
    | some m =>
      rw[e1]at h;dsimp only at h
      cases e2:yC m m hi with
      | none=>rw [e2]at h;cases h
      | some hh =>
        rw[e2]at h;dsimp only at h
        cases e3:yC 0 hh lo with
        | none=>rw [e3]at h;cases h
        | some l =>
          rw[e3]at h;dsimp only at h
          cases hc:Nat.blt m inf with
          | false=>rw [hc]at h;cases h
          | true =>
            rw[hc]at h;dsimp only[cond]at h;injection h with h
            subst h;have hm:=zU hc
            have hml':m≤len:=by
              rcases zY h3 e1 with⟨e,_⟩|⟨_,_,_,_,e⟩
              · cases e
              · exact e
            have hhm:hh≤m:=by
              rcases zY h2 e2 with⟨_,_,e⟩|⟨_,_,_,_,e⟩
              · omega
              · exact e
            have kO:l≤hh:=by
              rcases zY h1 e3 with⟨_,_,e⟩|⟨_,_,_,_,e⟩
              · omega
              · exact e
            refine⟨l,hh,m,?_,?_⟩
            · cases hi with
              | none=>cases hf
              | some vh =>
                have e2':yC len m (some vh)=some hh:=e2;have:=rO (P:=P) (wd:=wd) (isS:=isS) (c':=c') h1 h2 h3 hf e1 e2' e3 (λe=>by cases e) (λ_=>⟨hl,rfl⟩);rw [this,if_neg (by simp)]
            · by_cases fY:m=l
              · subst fY;have:Nat.beq m m=true:=aB m;rw [this,if_pos rfl];dsimp only[cond]
                exact .slice hb (by show m - m ≠ inf; have : inf ≠ 0 := by decide
                                    omega) (by show hh - m≤m - m;omega) (.inr (by show m - m=0;omega))
              · have ja:Nat.beq m l=false:=by
                  cases e:Nat.beq m l with
                  | false=>rfl
                  | true=>exact absurd (zE e) fY
                rw[ja,if_neg fY,add_eq];dsimp only[cond];rw [far_eq];refine .slice hb (by show m - l≠inf;omega) (by show hh - l≤m - l;omega) (.inl ?_);rcases ho with⟨fG,_⟩|ho
                · rw[fG];rfl
                · omega
end
end
section
theorem str_extract(s:ByteArray)(l h:Nat):s.extract l h=⟨⟨(s.data.toList.drop l).take (h - l)⟩⟩:=by
 have:(s.extract l h).data=s.data.extract l h:=ByteArray.data_extract;have h2:(s.extract l h).data.toList=(s.data.toList.drop l).take (h - l):=by rw[this];simp [Array.toList_extract]
 cases hs:s.extract l h with
 | mk d=>
  rw[hs]at h2
  cases d with
  | mk q=>simp only at h2;rw [h2]
theorem sliceEx_zero{a:Addr}{size:Nat}{lo hi mx:Option Value}{v:Value}(h:vW a 0 0 size lo hi mx=some v) :
 ∃m hh l,yC 0 0 mx=some m∧yC 0 m hi=some hh∧yC 0 hh lo=some l∧v = .slice (some (cond (Nat.beq m l) a (far a (Nat.mul l size)))) (Nat.sub hh l) (Nat.sub m l):=by
 unfold vW at h
 cases e1:yC 0 0 mx with
 | none=>rw [e1]at h;cases h
 | some m =>
  rw[e1]at h;dsimp only at h
  cases e2:yC 0 m hi with
  | none=>rw [e2]at h;cases h
  | some hh =>
   rw[e2]at h;dsimp only at h
   cases e3:yC 0 hh lo with
   | none=>rw [e3]at h;cases h
   | some l =>
    rw[e3]at h;dsimp only at h
    cases hc:(Nat.blt m inf && Nat.ble hh m) with
    | false=>rw [hc]at h;cases h
    | true=>
     rw[hc]at h;injection h with h
     exact⟨m,hh,l,rfl,e2,e3,h.symm⟩
section
variable {P:Program} {ng:Nat} {ρ : Inj} {base:Nat} {w0:World} {hp:zB} {n:Nat} {wd:World}
theorem nat_sub(a b:Nat):Nat.sub a b=a - b:=rfl
theorem slice_ok(hH:HeapR P ng ρ base w0 hp n wd){ty:TypeId}{x x':Value}(hx:RV ρ x x'){lo hi mx lo' fy mx':Option Value}(h1:ORV ρ lo lo')(h2:ORV ρ hi fy)(h3:ORV ρ mx mx')
{v:Value}(h:wW P hp ty x lo hi mx=some v):∃v',(Instr.sliceAt ty x' lo' fy mx').run P wd = .ok v' wd∧RV ρ v v':=by
 unfold wW at h
 cases hf:fullOK hi mx with
 | false=>rw [hf]at h;cases h
 | true =>
  rw[hf]at h;dsimp only[cond]at h;split at h
  ·
   rename_i e len cap hd
   cases hc:(Nat.beq len 0 && Nat.beq cap 0) with
   | false=>rw [hc]at h;cases h
   | true=>
    rw[hc]at h;obtain⟨h4,h5⟩:=ad.1 hc;obtain rfl:=zE h4;obtain rfl:=zE h5;cases hx
    dsimp only at h;split at h
    · rename_i m hh l i e1 e2 e3 hi;injection h with h
      subst h
      have m0:m=0:=by
       rcases zY h3 e1 with⟨_,_,e⟩|⟨_,_,_,_,e⟩ <;> omega
      have hh0:hh=0:=by
       rcases zY h2 e2 with⟨_,_,e⟩|⟨_,_,_,_,e⟩ <;> omega
      have l0:l=0:=by
       rcases zY h1 e3 with⟨_,_,e⟩|⟨_,_,_,_,e⟩ <;> omega
      subst m0 hh0 l0;have:=rO (P:=P) (wd:=wd) (isS:=true) (c':=0) h1 h2 h3 hf e1 e2 e3 (λ_=>ae _) (λ_=>⟨ae _,rfl⟩);refine⟨.slice none 0 0,?_,RV.nilSlice 0 0 (by decide)⟩;have this':(Instr.sliceBounds true 0 0 lo' fy mx').run P wd = .ok (0,0,0) wd:=by rw[this];split <;> rfl
      simp[Instr.sliceAt,zJ hd,Instr.slice,this',yT hi]
    · cases h
  · rename_i e b off len cap hd
    cases hi:inf? P e with
    | none=>rw [hi]at h;cases h
    | some ei =>
     rw[hi]at h;dsimp only at h;rcases hx.of_slice with⟨B,o',c',hb,rfl,_,hl,eX⟩|⟨rfl,rfl,⟨B,hb⟩,a,rfl⟩
     rotate_left
     · have fh:Nat.beq 0 inf=false:=by decide
       rw[fh]at h;dsimp only[cond]at h;obtain⟨m,hh,l,e1,e2,e3,e4⟩:=sliceEx_zero h
       have m0:m=0:=by
        rcases zY h3 e1 with⟨_,_,e⟩|⟨_,_,_,_,e⟩ <;> omega
       have hh0:hh=0:=by
        rcases zY h2 e2 with⟨_,_,e⟩|⟨_,_,_,_,e⟩ <;> omega
       have l0:l=0:=by
        rcases zY h1 e3 with⟨_,_,e⟩|⟨_,_,_,_,e⟩ <;> omega
       subst m0 hh0 l0;subst e4;have:=rO (P:=P) (wd:=wd) (isS:=true) (c':=0) h1 h2 h3 hf e1 e2 e3 (λ_=>ae _) (λ_=>⟨ae _,rfl⟩);have this':(Instr.sliceBounds true 0 0 lo' fy mx').run P wd = .ok (0,0,0) wd:=by rw[this];split <;> rfl
       refine⟨.slice (some a) 0 0,?_,RV.slice0 hb a⟩;simp [Instr.sliceAt,zJ hd,Instr.slice,this',yT hi]
     cases fh:Nat.beq cap inf with
     | true=>
      rw[fh]at h;obtain rfl:=zE fh;dsimp only[cond]at h;split at h
      · rename_i c kn z hg
        cases hz:(Nat.beq z (zc e ei.size) && Nat.ble 1 ei.size) with
        | false=>rw [hz]at h;cases h
        | true =>
         rw[hz]at h;dsimp only[cond]at h;obtain⟨hz,kX⟩:=ad.1 hz;have kX:=yK kX;obtain rfl:=zE hz
         have hBz:B.z=ei.size:=by
          obtain⟨o,e1,e2⟩:=hH.obj b B hb (by rw[hg];exact AObj.noConfusion);rw [hg]at e2
          cases e2 with
          | cells _ _ _ hz' _ _ _=>exact(zc_inj (hz'.1 rfl)).2.symm
         have ho:(o'=off∧off+c'*B.z=B.n)∨(c'=0∧0<off):=by
          rcases eX with⟨h6,_⟩|⟨_,h6⟩
          · exact absurd rfl h6
          · exact h6
         obtain⟨l,hh,m,r1,r2⟩:=sliceOp_ok (P:=P) (wd:=wd) (isS:=true) hb hl ho hBz kX h1 h2 h3 hf h;refine⟨_,?_,r2⟩;simp [Instr.sliceAt,zJ hd,Instr.slice,r1,yT hi];split <;> rfl
      · cases h
     | false=>
      rw[fh]at h;dsimp only[cond]at h;rcases eX with⟨_,rfl,ho⟩|⟨h6,_⟩
      case inr=>subst h6;rw [aB]at fh;cases fh
      obtain⟨l,hh,m,r1,r2⟩:=sliceEx_ok (P:=P) (wd:=wd) (isS:=true) hb ho h1 h2 h3 hf h;refine⟨_,?_,r2⟩;simp [Instr.sliceAt,zJ hd,Instr.slice,r1,yT hi];split <;> rfl
  · rename_i k e b off hd
    cases hi:inf? P e with
    | none=>rw [hi]at h;cases h
    | some ei=>
     rw[hi]at h;dsimp only at h;obtain⟨B,hb,_,rfl⟩:=hx.of_ptr;obtain⟨l,hh,m,r1,r2⟩:=sliceEx_ok (P:=P) (wd:=wd) (isS:=false) (off':=off) hb (.inl rfl) h1 h2 h3 hf h;refine⟨_,?_,r2⟩;simp [Instr.sliceAt,zJ hd,Instr.sureAddr,r1,yT hi]
  · rename_i arr b off hd;split at h
    · rename_i k e hd2
      cases hi:inf? P e with
      | none=>rw [hi]at h;cases h
      | some ei=>
       rw[hi]at h;dsimp only at h;obtain⟨B,hb,_,rfl⟩:=hx.of_ptr;obtain⟨l,hh,m,r1,r2⟩:=sliceEx_ok (P:=P) (wd:=wd) (isS:=false) (off':=off) hb (.inl rfl) h1 h2 h3 hf h;refine⟨_,?_,r2⟩;simp [Instr.sliceAt,zJ hd,Instr.slice,asAddr,zJ hd2,r1,yT hi]
    · cases h
  · rename_i s hd
    cases mx with
    | some _=>cases h
    | none =>
     dsimp only at h
     cases e2:yC s.data.toList.length s.data.toList.length hi with
     | none=>rw [e2]at h;cases h
     | some hh =>
      rw[e2]at h;dsimp only at h
      cases e3:yC 0 hh lo with
      | none=>rw [e3]at h;cases h
      | some l =>
       rw[e3]at h;dsimp only at h;injection h with h
       subst h;obtain rfl:=hx.of_string
       cases mx' with
       | some _=>exact h3.elim
       | none=>
        have:=rO (P:=P) (wd:=wd) (isS:=false) (cap:=0) (c':=s.data.toList.length) (dm:=0) (m:=0) h1 h2 h3 hf rfl e2 e3 (λ_=>ae _) (λe=>absurd rfl e);refine⟨_,?_,RV.string _⟩;have this':(Instr.sliceBounds false s.size s.size lo' fy none).run P wd = .ok (l,hh,s.data.toList.length) wd:=this;rw [cutS_eq,nat_sub,← str_extract];simp [Instr.sliceAt,zJ hd,Instr.slice,this']
  · cases h
end
end
section
theorem putAll_eq(off:Nat):∀(l:List Value) (k:Nat) (cs:Array Value),
 ((l.zipIdx k).foldl (λ(cs:Array Value) (x:Value×Nat)=>cs.setIfInBounds (off+x.2) x.1) cs).toList=putAll cs.toList (off+k) l:=by
 intro l
 induction l with
 | nil=>intro k cs;rfl
 | cons v r ih=>
  intro k cs;simp only[List.zipIdx_cons,bU,ih,putAll,Array.toList_setIfInBounds];rfl
theorem RVs.putAll{ρ : Inj}:∀{l l':List Value},RVs ρ l l'→∀{cs cs':List Value} (off:Nat),RVs ρ cs cs'→RVs ρ (putAll cs off l) (putAll cs' off l'):=by
 intro l
 induction l with
 | nil=>intro l' h cs cs' off k;obtain rfl:=h.of_nil;exact k
 | cons v r ih=>
  intro l' h cs cs' off k;obtain⟨v',r',rfl,hv,hr⟩:=h.of_cons;exact ih hr (off+1) (k.set off hv)
def PsR(ρ : Inj):List (Nat×Value)→List (Nat×Value)→Prop
 | [],[]=>True
 | (i,v)::r,(j,v')::r'=>i=j∧RV ρ v v'∧PsR ρ r r'
 | _,_=>False
theorem PsR.map{ρ : Inj}(f g:Operand→Value):∀(l:List (Nat×Operand)),(∀p∈l,RV ρ (f p.2) (g p.2))→PsR ρ (l.map λp=>(p.1,f p.2)) (l.map λp=>(p.1,g p.2))
 | [],_=>trivial
 | p::l,h=>⟨rfl,h p (by simp),PsR.map f g l λq hq=>h q (by simp[hq])⟩
theorem fill_ok{ρ : Inj}(place:Nat→Option (Nat×Nat)):∀{ps ps':List (Nat×Value)},PsR ρ ps ps'→∀{cs:List Value} {cs':Array Value},RVs ρ cs cs'.toList→∀{r:List Value},
 aFill place cs ps=some r→∃r',Instr.fill place cs' ps'=some r'∧RVs ρ r r'.toList:=by
 intro ps
 induction ps with
 | nil=>
  intro ps' h cs cs' hc r hr
  cases ps' with
  | nil=>simp only[aFill]at hr;injection hr with hr;subst hr;exact⟨cs',rfl,hc⟩
  | cons _ _=>exact h.elim
 | cons p rest ih =>
  intro ps' h cs cs' hc r hr;obtain⟨i,v⟩:=p
  cases ps' with
  | nil=>exact h.elim
  | cons p' rest' =>
   obtain⟨i',v'⟩:=p';obtain⟨rfl,hv,eY⟩:=h;simp only[aFill]at hr
   cases hp:place i with
   | none=>rw [hp]at hr;cases hr
   | some os =>
    obtain⟨off,size⟩:=os;rw [hp]at hr;dsimp only at hr
    cases hb:(Nat.beq (cellsOf v).length size && Nat.ble (Nat.add off size) cs.length) with
    | false=>rw [hb]at hr;cases hr
    | true =>
     rw[hb]at hr;dsimp only[cond]at hr;obtain⟨h1,h2⟩:=ad.1 hb;have h1:=zE h1;have h2:off+size≤cs.length:=yK h2;have hvc:=hv.cells
     have hsz:v'.cells.size=size:=by
      have:=hvc.1;simp at this;omega
     have eG:cs'.size=cs.length:=by have:=hc.1;simp at this;omega
     have eX:RVs ρ (putAll cs off (cellsOf v)) ((v'.cells.zipIdx.foldl (λ(cs:Array Value) (x:Value×Nat)=>cs.setIfInBounds (off+x.2) x.1) cs').toList):=by
      have e:(v'.cells.zipIdx.foldl (λ(cs:Array Value) (x:Value×Nat)=>cs.setIfInBounds (off+x.2) x.1) cs').toList=putAll cs'.toList off v'.cells.toList:=by
       have:=putAll_eq off v'.cells.toList 0 cs';rw [← Array.foldl_toList];simpa [Array.toList_zipIdx] using this
      rw[e];exact RVs.putAll hvc off hc
     obtain⟨r',e1,e2⟩:=ih eY eX hr;refine⟨r',?_,e2⟩;rw [Instr.fill,hp];dsimp only;rw [if_neg (by simp;omega)];exact e1
section
variable {P:Program} {ng:Nat} {ρ : Inj} {base:Nat} {w0:World} {hp:zB} {n:Nat} {wd:World}
theorem places_some:∀{fs:List Field} {l:List (Nat×Nat)},placesOf P fs=some l→fs.mapM (λf=>(P.info? f.type).map λi=>(f.offset,i.size))=some l:=by
 intro fs
 induction fs with
 | nil=>intro l h;simp only[placesOf]at h;injection h with h;subst h;rfl
 | cons f fs ih =>
  intro l h;simp only[placesOf]at h
  cases hi:inf? P f.type with
  | none=>rw [hi]at h;cases h
  | some i =>
   cases hr:placesOf P fs with
   | none=>rw [hi,hr]at h;cases h
   | some r=>
    rw[hi,hr]at h;dsimp only at h;injection h with h
    subst h;simp [List.mapM_cons,(xK hi).2,ih hr]
theorem build_ok(hP:yG ng P=true){ty:TypeId}{ps ps':List (Nat×Value)}(gQ:PsR ρ ps ps'){v:Value}(h:aBuild P ty ps=some v) :
 ∃v',(Instr.build ty ⟨ps'⟩).run P wd = .ok v' wd∧RV ρ v v':=by
 unfold aBuild at h
 cases hz:yW P ty with
 | none=>rw [hz]at h;cases h
 | some z =>
  rw[hz]at h;dsimp only at h;have fO:=RV.cells (RV.plain (vM hP hz) ρ)
  cases hs:structPlaces P ty with
  | some pl =>
   rw[hs]at h;dsimp only at h
   cases hf:aFill (λi=>pl[i]?) (cellsOf z) ps with
   | none=>rw [hf]at h;cases h
   | some cs=>
    rw[hf]at h;injection h with h
    subst h;unfold structPlaces at hs;split at hs
    · rename_i fs hd;obtain⟨r',e1,e2⟩:=fill_ok (λi=>pl[i]?) gQ fO hf;refine⟨.agg r',?_,RV.agg e2.1 e2.2⟩;have:=Go.run_places (P:=P) wd fs.toList pl (places_some hs);simp [Instr.build,wR hz,zJ hd,Array.mapM_eq_mapM_toList,this,e1]
    · cases hs
  | none =>
   rw[hs]at h;dsimp only at h
   cases hix:ixOf P ty with
   | bad=>rw [hix]at h;cases h
   | slice sz=>rw [hix]at h;cases h
   | array len sz =>
    rw[hix]at h;dsimp only at h;obtain⟨e,ei,hd,hi,rfl⟩:=ix_array hix
    cases hf:aFill (λi=>some (Nat.mul i ei.size,ei.size)) (cellsOf z) ps with
    | none=>rw [hf]at h;cases h
    | some cs=>
     rw[hf]at h;injection h with h
     subst h;obtain⟨r',e1,e2⟩:=fill_ok (λi=>some (Nat.mul i ei.size,ei.size)) gQ fO hf;refine⟨.agg r',?_,RV.agg e2.1 e2.2⟩;have e1':Instr.fill (λi=>some (i*ei.size,ei.size)) z.cells ps'=some r':=e1;simp [Instr.build,wR hz,zJ hd,yT hi,e1']
theorem ble_dec(a b:Nat):Nat.ble a b=decide (a≤b):=by
 cases h:Nat.ble a b with
 | true=>simp [bZ h]
 | false=>
  have:¬a≤b:=λe=>by rw[cL e]at h;cases h
  simp[this]
theorem beq_dec(a b:Nat):Nat.beq a b=decide (a=b):=by
 cases h:Nat.beq a b with
 | true=>simp [dC h]
 | false=>
  have:¬a=b:=λe=>by subst e;rw [aB]at h;cases h
  simp[this]
theorem ileB_eq(a b:Int):ileB a b=decide (a≤b):=by
 cases a with
 | ofNat a => cases b with
  | ofNat b=>
   show Nat.ble a b=_;rw [ble_dec];apply decide_eq_decide.2;show a≤b↔(a:Int)≤(b:Int);omega
  | negSucc b=>exact(decide_eq_false (by simp only[be];omega)).symm
 | negSucc a => cases b with
  | ofNat b=>exact(decide_eq_true (by simp only[be];omega)).symm
  | negSucc b=>
   show Nat.ble b a=_;rw [ble_dec];apply decide_eq_decide.2;omega
theorem wO(a b:Int):ieqB a b=decide (a=b):=by
 cases a with
 | ofNat a => cases b with
  | ofNat b=>
   show Nat.beq a b=_;rw [beq_dec];apply decide_eq_decide.2;show a=b↔(a:Int)=(b:Int);omega
  | negSucc b=>exact(decide_eq_false (by simp only[be];omega)).symm
 | negSucc a => cases b with
  | ofNat b=>exact(decide_eq_false (by simp only[be];omega)).symm
  | negSucc b=>
   show Nat.beq b a=_;rw [beq_dec];apply decide_eq_decide.2;omega
theorem iltB_eq(a b:Int):iltB a b=decide (a<b):=by
 show(Bool.rec true false (ileB b a):Bool)=_;rw [ileB_eq];by_cases h:b≤a
 · have h2:¬a<b:=by omega
   simp[h,h2]
 · have h2:a<b:=by omega
   simp[h,h2]
theorem subNN_eq(m k:Nat):subNN m k=(m:Int) - (k:Int):=by
 show(Bool.rec (Int.negSucc (Nat.pred (Nat.sub k m))) (Int.ofNat (Nat.sub m k)) (Nat.ble k m):Int)=_;by_cases h:k≤m
 · rw[cL h];show Int.ofNat (m - k)=_;simp only[be];omega
 · have:Nat.ble k m=false:=by
    cases e:Nat.ble k m with
    | false=>rfl
    | true=>exact absurd (bZ e) h
   rw[this];show Int.negSucc (k - m - 1)=_;omega
theorem iadd_eq(a b:Int):iadd a b=a+b:=by
 cases a with
 | ofNat a=>cases b with
  | ofNat b=>rfl
  | negSucc b=>show subNN a (b+1)=_;rw [subNN_eq];simp only[be];omega
 | negSucc a=>cases b with
  | ofNat b=>show subNN b (a+1)=_;rw [subNN_eq];simp only[be];omega
  | negSucc b=>show Int.negSucc (Nat.succ (a+b))=_;omega
theorem isub_eq(a b:Int):isub a b=a - b:=by
 cases b with
 | ofNat b=>cases a with
  | ofNat a=>show subNN a b=_;rw [subNN_eq];rfl
  | negSucc a=>show Int.negSucc (a+b)=_;simp only[be];omega
 | negSucc b=>cases a with
  | ofNat a=>show Int.ofNat (a+(b+1))=_;simp only[be];omega
  | negSucc a=>show subNN b a=_;rw [subNN_eq];omega
theorem wS(k:IntKind)(m:Int):uT k m=k.wrap m:=by
 cases k with
 | i64 =>
  cases m with
  | ofNat m =>
   show(Bool.rec (IntKind.wrap .i64 (.ofNat m)) (Int.ofNat m) (Nat.blt m 9223372036854775808):Int)=_
   cases h:Nat.blt m 9223372036854775808 with
   | false=>rfl
   | true=>
    have:=zU h;show Int.ofNat m=_;rw [IntWalk.i64_in];simp only[be];omega
  | negSucc m =>
   show(Bool.rec (IntKind.wrap .i64 (.negSucc m)) (Int.negSucc m) (Nat.blt m 9223372036854775808):Int)=_
   cases h:Nat.blt m 9223372036854775808 with
   | false=>rfl
   | true=>
    have:=zU h;show Int.negSucc m=_;rw [IntWalk.i64_in];omega
 | u64 =>
  cases m with
  | negSucc m=>rfl
  | ofNat m =>
   simp only[uT]
   cases h:Nat.blt m 18446744073709551616 with
   | false=>rfl
   | true=>
    have:=zU h;simp only[cond,IntKind.wrap,IntKind.signed,IntKind.bits,da,aX,if_false];show Int.ofNat m=_;simp only[be];omega
 | u8 =>
  cases m with
  | negSucc m=>rfl
  | ofNat m =>
   simp only[uT]
   cases h:Nat.blt m 256 with
   | false=>rfl
   | true=>
    have:=zU h;simp only[cond,IntKind.wrap,IntKind.signed,IntKind.bits,da,aX,if_false];show Int.ofNat m=_;simp only[be];omega
 | _=>rfl
theorem vZ{k k':IntKind}(h:xZ k k'=true):k=k':=by
 cases k <;> cases k' <;> first|rfl|cases h
end
end
section
theorem byte_ext{a b:UInt8}(h:a.toNat=b.toNat):a=b:=UInt8.toNat_inj.1 h
theorem tV:∀(x y:List UInt8),vF x y=(x == y):=by
 intro x
 induction x with
 | nil=>intro y;cases y <;> rfl
 | cons a x ih =>
  intro y
  cases y with
  | nil=>rfl
  | cons b y =>
   simp only[vF]
   cases h:Nat.beq a.toNat b.toNat with
   | true=>
    have:=byte_ext (zE h);subst this;simp [ih]
   | false=>
    have:¬a=b:=λe=>by subst e;rw [aB]at h;cases h
    simp[this]
section
variable {P:Program} {ρ : Inj} {wd:World}
def xP(op:BinOp)(t:TypeId)(ox oy:Operand)(x y:Value):Sem Value:=do eqGuard op t ox oy x y;binOp op t x y
theorem intOp_ok{op:BinOp}{t:TypeId}{ox oy:Operand}{k:IntKind}{a b:Int}{s:Option Value}{v:Value}(h:intOp op k a b s=some v) :
 (xP op t ox oy (.int k a) (.int k b)).run P wd = .ok v wd∨s=some v:=by
 cases op with
 | add =>
  left
  have h':(Int.rec (λm=>some (Value.int k (.ofNat m))) (λm=>some (Value.int k (.negSucc m))) (uT k (iadd a b)):Option Value)=some v:=h
  have:v = .int k (k.wrap (a+b)):=by
   rw[wS,iadd_eq]at h';cases hw:k.wrap (a+b) <;> rw[hw]at h' <;> (injection h' with h';exact h'.symm)
  subst this;simp [xP,eqGuard,binOp,Op.intArith]
 | sub =>
  left
  have h':(Int.rec (λm=>some (Value.int k (.ofNat m))) (λm=>some (Value.int k (.negSucc m))) (uT k (isub a b)):Option Value)=some v:=h
  have:v = .int k (k.wrap (a - b)):=by
   rw[wS,isub_eq]at h';cases hw:k.wrap (a - b) <;> rw[hw]at h' <;> (injection h' with h';exact h'.symm)
  subst this;simp [xP,eqGuard,binOp,Op.intArith]
 | eql=>left;injection h with h;subst h;simp [xP,eqGuard,binOp,Op.intCmp,wO];rfl
 | neq=>
  left
  have h':some (Value.bool (Bool.rec true false (ieqB a b)))=some v:=h;injection h' with h';subst h'
  rw[wO];by_cases e:a=b <;> simp[xP,eqGuard,binOp,Op.intCmp,e]
 | lss=>left;injection h with h;subst h;simp [xP,eqGuard,binOp,Op.intCmp,iltB_eq]
 | leq=>left;injection h with h;subst h;simp [xP,eqGuard,binOp,Op.intCmp,ileB_eq]
 | gtr=>left;injection h with h;subst h;simp [xP,eqGuard,binOp,Op.intCmp,iltB_eq]
 | geq=>left;injection h with h;subst h;simp [xP,eqGuard,binOp,Op.intCmp,ileB_eq]
 | _=>right;exact h
theorem sX{bits x:Nat}(hx:x<2 ^ bits):(BitVec.ofInt bits (x:Int)).toNat=x:=by
 rw[BitVec.ofInt_natCast,BitVec.toNat_ofNat,Nat.mod_eq_of_lt hx]
theorem land_ofNat(bits x y:Nat)(hx:x<2 ^ bits)(hy:y<2 ^ bits):((BitVec.ofInt bits (x:Int)) &&& (BitVec.ofInt bits (y:Int))).toNat=x &&& y:=by
 rw[BitVec.toNat_and,sX hx,sX hy]
theorem lor_ofNat(bits x y:Nat)(hx:x<2 ^ bits)(hy:y<2 ^ bits):((BitVec.ofInt bits (x:Int)) ||| (BitVec.ofInt bits (y:Int))).toNat=x ||| y:=by
 rw[BitVec.toNat_or,sX hx,sX hy]
theorem xor_ofNat(bits x y:Nat)(hx:x<2 ^ bits)(hy:y<2 ^ bits):((BitVec.ofInt bits (x:Int)) ^^^ (BitVec.ofInt bits (y:Int))).toNat=x ^^^ y:=by
 rw[BitVec.toNat_xor,sX hx,sX hy]
theorem andNot_ofNat(bits x y:Nat)(hx:x<2 ^ bits)(hy:y<2 ^ bits):((BitVec.ofInt bits (x:Int)) &&& ~~~(BitVec.ofInt bits (y:Int))).toNat=x ^^^ (x &&& y):=by
 rw[BitVec.toNat_and];apply Nat.eq_of_testBit_eq;intro i;rw [cH,Nat.testBit_xor,cH,sX hx];by_cases hi:i<bits
 · have:(~~~(BitVec.ofInt bits (y:Int))).toNat.testBit i = !(y.testBit i):=by
    have h1:(~~~(BitVec.ofInt bits (y:Int))).toNat.testBit i=(~~~(BitVec.ofInt bits (y:Int))).getLsbD i:=rfl;rw [h1,BitVec.getLsbD_not];have h2:(BitVec.ofInt bits (y:Int)).getLsbD i=(BitVec.ofInt bits (y:Int)).toNat.testBit i:=rfl;rw [h2,sX hy];simp [hi]
   rw[this];cases x.testBit i <;> cases y.testBit i <;> rfl
 · have:x.testBit i=false:=Nat.testBit_lt_two_pow (aO hx (Nat.pow_le_pow_right (by omega) (by omega)));simp [this]
theorem wrap_nat{k:IntKind}{m:Nat}(h:k = .i64→m<9223372036854775808)(h2:k≠.i64→k.signed=false∧m<2 ^ k.bits):k.wrap (m:Int)=(m:Int):=by
 by_cases hk:k = .i64
 · subst hk;have:=h rfl;rw [IntWalk.i64_in];omega
 · obtain⟨h3,h4⟩:=h2 hk;unfold IntKind.wrap;rw [h3];simp only[da,aX,if_false];have:(m:Int)<(2:Int) ^ k.bits:=by exact_mod_cast h4
   exact Int.emod_eq_of_lt (by omega) this
theorem bitsOp_ok{op:BinOp}{t:TypeId}{ox oy:Operand}{k:IntKind}{x y:Nat}{r:Nat}(hx:x<2 ^ k.bits)(hy:y<2 ^ k.bits)
(hr:(op = .and∧r=Nat.land x y)∨(op = .or∧r=Nat.lor x y)∨(op = .xor∧r=Nat.xor x y)∨(op = .andNot∧r=Nat.xor x (Nat.land x y)))
(hw:k.wrap (r:Int)=(r:Int)):(xP op t ox oy (.int k (x:Int)) (.int k (y:Int))).run P wd = .ok (.int k (r:Int)) wd:=by
 rcases hr with⟨rfl,e⟩|⟨rfl,e⟩|⟨rfl,e⟩|⟨rfl,e⟩
 · have:((BitVec.ofInt k.bits (x:Int)) &&& (BitVec.ofInt k.bits (y:Int))).toNat=r:=by rw[land_ofNat _ _ _ hx hy,e];rfl
   simp[xP,eqGuard,binOp,Op.intBits,this,hw,-BitVec.toNat_and,-BitVec.ofInt_natCast]
 · have:((BitVec.ofInt k.bits (x:Int)) ||| (BitVec.ofInt k.bits (y:Int))).toNat=r:=by rw[lor_ofNat _ _ _ hx hy,e];rfl
   simp[xP,eqGuard,binOp,Op.intBits,this,hw,-BitVec.toNat_or,-BitVec.ofInt_natCast]
 · have:((BitVec.ofInt k.bits (x:Int)) ^^^ (BitVec.ofInt k.bits (y:Int))).toNat=r:=by rw[xor_ofNat _ _ _ hx hy,e];rfl
   simp[xP,eqGuard,binOp,Op.intBits,this,hw,-BitVec.toNat_xor,-BitVec.ofInt_natCast]
 · have:((BitVec.ofInt k.bits (x:Int)) &&& ~~~(BitVec.ofInt k.bits (y:Int))).toNat=r:=by rw[andNot_ofNat _ _ _ hx hy,e];rfl
   simp[xP,eqGuard,binOp,Op.intBits,this,hw,-BitVec.toNat_and,-BitVec.ofInt_natCast]
theorem xor_land_le(x y:Nat):Nat.xor x (Nat.land x y)≤x:=by
 have h:Nat.xor x (Nat.land x y)=x &&& (x ^^^ (x &&& y)):=by
  apply Nat.eq_of_testBit_eq;intro i;show(x ^^^ (x &&& y)).testBit i=_;simp only[Nat.testBit_xor,cH];cases x.testBit i <;> cases y.testBit i <;> rfl
 rw[h];exact dQ
theorem lim_some{k:IntKind}{m:Nat}(h:bitLim k=some m):∃e,m=2 ^ e∧e≤k.bits∧∀r:Nat,r<m→k.wrap (r:Int)=(r:Int):=by
 cases k <;> simp only[bitLim]at h <;> cases h
 · exact⟨63,by decide,by decide,λr hr=>wrap_nat (λ_=>hr) (λe=>absurd rfl e)⟩
 · exact⟨8,by decide,by decide,λr hr=>wrap_nat (λe=>by cases e) (λ_=>⟨rfl,by simpa [IntKind.bits] using hr⟩)⟩
 · exact⟨16,by decide,by decide,λr hr=>wrap_nat (λe=>by cases e) (λ_=>⟨rfl,by simpa [IntKind.bits] using hr⟩)⟩
 · exact⟨32,by decide,by decide,λr hr=>wrap_nat (λe=>by cases e) (λ_=>⟨rfl,by simpa [IntKind.bits] using hr⟩)⟩
 · exact⟨64,by decide,by decide,λr hr=>wrap_nat (λe=>by cases e) (λ_=>⟨rfl,by simpa [IntKind.bits] using hr⟩)⟩
theorem bitNat_lt{op:BinOp}{x y r e:Nat}(hx:x<2 ^ e)(hy:y<2 ^ e)(h:bitNat op x y=some r):r<2 ^ e:=by
 cases op <;> simp only[bitNat]at h <;> cases h
 · exact cz dQ hx
 · exact Nat.or_lt_two_pow hx hy
 · exact Nat.xor_lt_two_pow hx hy
 · exact cz (xor_land_le x y) hx
theorem bits_ok{op:BinOp}{t:TypeId}{ox oy:Operand}{k:IntKind}{a b:Int}{v:Value}(h:aBits op k a b=some v) :
 (xP op t ox oy (.int k a) (.int k b)).run P wd = .ok v wd:=by
 unfold aBits at h;split at h
 · rename_i x y m hm
   cases hc:(Nat.blt x m && Nat.blt y m) with
   | false=>rw [hc]at h;cases h
   | true =>
    rw[hc]at h;obtain⟨h1,h2⟩:=ad.1 hc;have h1:=zU h1;have h2:=zU h2
    cases hr:bitNat op x y with
    | none=>rw [hr]at h;cases h
    | some r=>
     rw[hr]at h;injection h with h
     subst h;obtain⟨e,rfl,he,hw⟩:=lim_some hm;have dV:=bitNat_lt h1 h2 hr;have hle:2 ^ e≤2 ^ k.bits:=Nat.pow_le_pow_right (by omega) he;refine bitsOp_ok (by omega) (by omega) ?_ (hw r dV);cases op <;> simp only[bitNat]at hr <;> cases hr
     · exact .inl ⟨rfl,rfl⟩
     · exact .inr (.inl ⟨rfl,rfl⟩)
     · exact .inr (.inr (.inl ⟨rfl,rfl⟩))
     · exact .inr (.inr (.inr ⟨rfl,rfl⟩))
 · cases h
theorem arith_ok{op:BinOp}{t:TypeId}{ox oy:Operand}{k:IntKind}{a b:Int}{v:Value}(h:aArith op k a b=some v) :
 (xP op t ox oy (.int k a) (.int k b)).run P wd = .ok v wd:=by
 cases op with
 | add=>injection h with h;subst h;simp [xP,eqGuard,binOp,Op.intArith,wS,iadd_eq]
 | sub=>injection h with h;subst h;simp [xP,eqGuard,binOp,Op.intArith,wS,isub_eq]
 | mul=>injection h with h;subst h;simp [xP,eqGuard,binOp,Op.intArith,wS]
 | quo=>
  have h':cond (ieqB b 0) none (some (.int k (uT k (Int.tdiv a b))))=some v:=h;rw [wO]at h';by_cases e:b=0
  · simp[e]at h'
  · simp only[e,decide_false,cond]at h';injection h' with h';subst h'
    simp[xP,eqGuard,binOp,Op.intDiv,e,wS]
 | rem=>
  have h':cond (ieqB b 0) none (some (.int k (Int.tmod a b)))=some v:=h;rw [wO]at h';by_cases e:b=0
  · simp[e]at h'
  · simp only[e,decide_false,cond]at h';injection h' with h';subst h'
    simp[xP,eqGuard,binOp,Op.intDiv,e]
 | eql=>injection h with h;subst h;simp [xP,eqGuard,binOp,Op.intCmp,wO];rfl
 | neq=>injection h with h;subst h;by_cases e:a=b <;> simp[xP,eqGuard,binOp,Op.intCmp,wO,e]
 | lss=>injection h with h;subst h;simp [xP,eqGuard,binOp,Op.intCmp,iltB_eq]
 | leq=>injection h with h;subst h;simp [xP,eqGuard,binOp,Op.intCmp,ileB_eq]
 | gtr=>injection h with h;subst h;simp [xP,eqGuard,binOp,Op.intCmp,iltB_eq]
 | geq=>injection h with h;subst h;simp [xP,eqGuard,binOp,Op.intCmp,ileB_eq]
 | and=>exact bits_ok h
 | or=>exact bits_ok h
 | xor=>exact bits_ok h
 | andNot=>exact bits_ok h
 | shl=>
  have h':aBits .shl k a b=some v:=h;unfold aBits at h';split at h'
  · rename_i x y m hm;cases hc:(Nat.blt x m && Nat.blt y m) <;> rw[hc]at h' <;> cases h'
  · cases h'
 | shr=>
  have h':aBits .shr k a b=some v:=h;unfold aBits at h';split at h'
  · rename_i x y m hm;cases hc:(Nat.blt x m && Nat.blt y m) <;> rw[hc]at h' <;> cases h'
  · cases h'
theorem shift_ok{op:BinOp}{t:TypeId}{ox oy:Operand}{k k':IntKind}{a b:Int}{v:Value}(d7:op = .shl∨op = .shr)(h:aShift op k a b=some v) :
 (xP op t ox oy (.int k a) (.int k' b)).run P wd = .ok v wd:=by
 unfold aShift at h
 cases b with
 | negSucc m=>cases h
 | ofNat m =>
  dsimp only at h
  cases hc:Nat.blt m k.bits with
  | false=>rw [hc]at h;cases h
  | true=>
   rw[hc]at h;have hm:=zU hc;have lQ:min m k.bits=m:=by omega
   rcases d7 with rfl|rfl
   · dsimp only[cond]at h;injection h with h;subst h
     have hn:¬((m:Int)<0):=by omega
     simp[xP,eqGuard,binOp,Op.shift,lQ,wS,hn]
   · dsimp only[cond]at h
     cases a with
     | negSucc _=>cases h
     | ofNat x =>
      dsimp only at h;injection h with h;subst h
      have hn:¬((m:Int)<0):=by omega
      have hs:(Int.ofNat x).fdiv (2 ^ m)=Int.ofNat (Nat.shiftRight x m):=by
       have:(2:Int) ^ m=((2 ^ m:Nat):Int):=by simp
       rw[this];show Int.fdiv (x:Int) ((2 ^ m:Nat):Int)=((x >>> m:Nat):Int);rw [Nat.shiftRight_eq_div_pow,Int.fdiv_eq_ediv_of_nonneg _ (Int.natCast_nonneg _)];rfl
      have hs':Int.fdiv (x:Int) (2 ^ m)=((Nat.shiftRight x m:Nat):Int):=hs;simp [xP,eqGuard,binOp,Op.shift,lQ,hn,hs']
end
end
end Go.Ex
