/- What the law leans on: an executor of the model that is sound, deduction over it, and the walks through the code (part 2 of 13). Conditions: those that each theorem states. -/
import Derived.Test.YtcmohelnoldfbaaGreatInterCallsx1
import Derived.AtR
import Derived.Below
import Derived.Laws.Cells
import Derived.Laws.Entries
import Derived.ChangeKeysEq
import Derived.IntWalk
import Derived.Laws.Slices
import Derived.Laws.Strings
import Derived.Laws.StructEq
import Derived.Laws.Tables

set_option linter.unusedVariables false
set_option linter.unusedSimpArgs false
namespace Go.Ex
open Go.RowKit (Below)
structure Bl where
 b:Nat
 n:Nat
 z:Nat
abbrev Inj:=Nat→Option Bl
inductive RV (ρ : Inj):Value→Value→Prop
 | bool (b:Bool):RV ρ (.bool b) (.bool b)
 | int (k:IntKind) (n:Int):RV ρ (.int k n) (.int k n)
 | float (k:FloatKind) (n:Nat):RV ρ (.float k n) (.float k n)
 | complex (k:FloatKind) (n m:Nat):RV ρ (.complex k n m) (.complex k n m)
 | string (s:ByteArray):RV ρ (.string s) (.string s)
 | nilPtr:RV ρ (.pointer none) (.pointer none)
 | ptr {b o:Nat} {B:Bl} (h: ρ b=some B):RV ρ (.pointer (some ⟨b,o,none⟩)) (.pointer (some ⟨B.b,o,none⟩))
 | nilSlice (l c:Nat) (h:c≠inf):RV ρ (.slice none l c) (.slice none l c)
 | slice {b o l c:Nat} {B:Bl} {o':Nat} (h: ρ b=some B) (hc:c≠inf) (hl:l≤c) (ho:o'=o∨c=0) :
  RV ρ (.slice (some ⟨b,o,none⟩) l c) (.slice (some ⟨B.b,o',none⟩) l c)
 | slice0 {b o:Nat} {B:Bl} (h: ρ b=some B) (a:Addr):RV ρ (.slice (some ⟨b,o,none⟩) 0 0) (.slice (some a) 0 0)
 | opened {b o l:Nat} {B:Bl} {o' c':Nat} (h: ρ b=some B) (hl:l≤c') (ho:(o'=o∧o+c'*B.z=B.n)∨(c'=0∧0<o)) :
  RV ρ (.slice (some ⟨b,o,none⟩) l inf) (.slice (some ⟨B.b,o',none⟩) l c')
 | nilMap:RV ρ (.map none) (.map none)
 | map {r:Nat} {B:Bl} (h: ρ r=some B):RV ρ (.map (some r)) (.map (some B.b))
 | func {fn:Fn} {f f' c c':Array Value} (hy:∀l,fn≠.yield l) (hf:f.toList.length=f'.toList.length) (hc:c.toList.length=c'.toList.length)
  (f1:∀(i:Nat) (v v':Value),f.toList[i]? = some v→f'.toList[i]? = some v'→RV ρ v v')
  (c1:∀(i:Nat) (v v':Value),c.toList[i]? = some v→c'.toList[i]? = some v'→RV ρ v v'):RV ρ (.func fn f c) (.func fn f' c')
 | yield {l:Nat} {B:Bl} (h: ρ l=some B):RV ρ (.func (.yield l) #[] #[]) (.func (.yield B.b) #[] #[])
 | nilFunc:RV ρ .nilFunc .nilFunc
 | iface {t:TypeId} {v v':Value} (h:RV ρ v v'):RV ρ (.iface t v) (.iface t v')
 | nilIface:RV ρ .nilIface .nilIface
 | agg {c c':Array Value} (hc:c.toList.length=c'.toList.length)
  (c1:∀(i:Nat) (v v':Value),c.toList[i]? = some v→c'.toList[i]? = some v'→RV ρ v v'):RV ρ (.agg c) (.agg c')
 | tuple {c c':Array Value} (hc:c.toList.length=c'.toList.length)
  (c1:∀(i:Nat) (v v':Value),c.toList[i]? = some v→c'.toList[i]? = some v'→RV ρ v v'):RV ρ (.tuple c) (.tuple c')
def RVs(ρ : Inj)(l l':List Value):Prop:=l.length=l'.length∧∀(i:Nat) (v v':Value),l[i]? = some v→l'[i]? = some v'→RV ρ v v'
def Inj.le(ρ ρ':Inj):Prop:=∀b B,ρ b=some B→ρ' b=some B
theorem Inj.le.refl(ρ : Inj): ρ.le ρ :=fun _ _ h=>h
theorem Inj.le.trans{a b c:Inj}(h:a.le b)(k:b.le c):a.le c:=fun _ _ e=>k _ _ (h _ _ e)
theorem RV.mono{ρ ρ':Inj}(h: ρ.le ρ'){v v':Value}(r:RV ρ v v'):RV ρ' v v':=by
 induction r with
 | bool b=>exact .bool b
 | int k n=>exact .int k n
 | float k n=>exact .float k n
 | complex k n m=>exact .complex k n m
 | string s=>exact .string s
 | nilPtr=>exact .nilPtr
 | ptr e=>exact .ptr (h _ _ e)
 | nilSlice l c e=>exact .nilSlice l c e
 | slice e hc hl ho=>exact .slice (h _ _ e) hc hl ho
 | opened e hl ho=>exact .opened (h _ _ e) hl ho
 | slice0 e a=>exact .slice0 (h _ _ e) a
 | nilMap=>exact .nilMap
 | map e=>exact .map (h _ _ e)
 | func hy hf hc _ _ f2 c2=>exact .func hy hf hc f2 c2
 | yield e=>exact .yield (h _ _ e)
 | nilFunc=>exact .nilFunc
 | iface _ ih=>exact .iface ih
 | nilIface=>exact .nilIface
 | agg hc _ ih=>exact .agg hc ih
 | tuple hc _ ih=>exact .tuple hc ih
theorem RVs.mono{ρ ρ':Inj}(h: ρ.le ρ'){l l':List Value}(r:RVs ρ l l'):RVs ρ' l l':=⟨r.1,fun i v v' a b=>(r.2 i v v' a b).mono h⟩
theorem RVs.nil(ρ : Inj):RVs ρ [] []:=⟨rfl,fun _ _ _ h=>by simp at h⟩
theorem RVs.cons{ρ : Inj}{v v':Value}{l l':List Value}(h:RV ρ v v')(r:RVs ρ l l'):RVs ρ (v::l) (v'::l'):=
 ⟨by simp[r.1],fun i w w' a b=>by
  cases i with
  | zero=>simp at a b;subst a b;exact h
  | succ i=>simp at a b;exact r.2 i w w' a b⟩
theorem RVs.of_cons{ρ : Inj}{v:Value}{l l2:List Value}(r:RVs ρ (v::l) l2):∃v' l',l2=v'::l'∧RV ρ v v'∧RVs ρ l l':=by
 obtain⟨hl,h⟩:=r
 cases l2 with
 | nil=>simp at hl
 | cons v' l'=>exact⟨v',l',rfl,h 0 v v' rfl rfl,by simpa using hl,fun i w w' a b=>h (i+1) w w' (by simpa using a) (by simpa using b)⟩
theorem RVs.of_nil{ρ : Inj}{l2:List Value}(r:RVs ρ [] l2):l2=[]:=by
 have:=r.1;cases l2 <;> simp_all
theorem RVs.append{ρ : Inj}{a a' b b':List Value}(h:RVs ρ a a')(k:RVs ρ b b'):RVs ρ (a++b) (a'++b'):=by
 induction a generalizing a' with
 | nil=>obtain rfl:=h.of_nil;exact k
 | cons v l ih=>obtain⟨v',l',rfl,hv,hl⟩:=h.of_cons;exact RVs.cons hv (ih hl)
theorem RVs.map{ρ : Inj}{α : Type}(f g: α→Value):∀(l:List α),(∀x∈l,RV ρ (f x) (g x))→RVs ρ (l.map f) (l.map g)
 | [],_=>RVs.nil ρ
 | x::l,h=>RVs.cons (h x (by simp)) (RVs.map f g l fun y hy=>h y (by simp[hy]))
theorem RVs.at{ρ : Inj}{l l':List Value}(r:RVs ρ l l'){i:Nat}{v:Value}(h:l[i]? = some v):∃v',l'[i]? = some v'∧RV ρ v v':=by
 have hi:i<l.length:=by
  rcases Nat.lt_or_ge i l.length with h1|h1
  · exact h1
  · simp[List.getElem?_eq_none h1]at h
 have hi':i<l'.length:=r.1 ▸ hi;exact⟨l'[i],List.getElem?_eq_getElem hi',r.2 i v _ h (List.getElem?_eq_getElem hi')⟩
theorem RVs.take{ρ : Inj}{l l':List Value}(r:RVs ρ l l')(n:Nat):RVs ρ (l.take n) (l'.take n):=
 ⟨by simp[r.1],fun i v v' a b=>by
  rw[List.getElem?_take]at a b;split at a
  · rename_i h;rw [if_pos h]at b;exact r.2 i v v' a b
  · cases a⟩
theorem RVs.drop{ρ : Inj}{l l':List Value}(r:RVs ρ l l')(n:Nat):RVs ρ (l.drop n) (l'.drop n):=
 ⟨by simp[r.1],fun i v v' a b=>by
  rw[List.getElem?_drop]at a b;exact r.2 _ v v' a b⟩
theorem RVs.set{ρ : Inj}{l l':List Value}(r:RVs ρ l l')(i:Nat){v v':Value}(h:RV ρ v v'):RVs ρ (l.set i v) (l'.set i v'):=
 ⟨by simp[r.1],fun j w w' a b=>by
  rw[List.getElem?_set]at a b;by_cases e:i=j
  · subst e;simp only[if_true]at a b;split at a
    · rename_i h1;rw [if_pos (r.1 ▸ h1)]at b;cases a;cases b;exact h
    · cases a
  · simp only[e,if_false]at a b;exact r.2 j w w' a b⟩
noncomputable def wP(v:Value):Bool:=
 Value.rec (motive_1:=fun _=>Bool) (motive_2:=fun _=>Bool) (motive_3:=fun _=>Bool)
  (fun _=>true) (fun _ _=>true) (fun _ _=>true) (fun _ _ _=>true) (fun _=>true) (fun a=>Option.rec true (fun _=>false) a)
  (fun a _ c=>Option.rec (Bool.rec true false (Nat.beq c inf)) (fun _=>false) a) (fun r=>Option.rec true (fun _=>false) r) (fun _=>false)
  (fun _ _ _ _ _=>false) true (fun _ _ b=>b) true (fun _ b=>b) (fun _ b=>b)
  (fun _ b=>b) true (fun _ _ a b=>Bool.rec false b a) v
noncomputable def plainA(v:Array Value):Bool:=
 Value.rec_1 (motive_1:=fun _=>Bool) (motive_2:=fun _=>Bool) (motive_3:=fun _=>Bool)
  (fun _=>true) (fun _ _=>true) (fun _ _=>true) (fun _ _ _=>true) (fun _=>true) (fun a=>Option.rec true (fun _=>false) a)
  (fun a _ c=>Option.rec (Bool.rec true false (Nat.beq c inf)) (fun _=>false) a) (fun r=>Option.rec true (fun _=>false) r) (fun _=>false)
  (fun _ _ _ _ _=>false) true (fun _ _ b=>b) true (fun _ b=>b) (fun _ b=>b)
  (fun _ b=>b) true (fun _ _ a b=>Bool.rec false b a) v
noncomputable def plainL(v:List Value):Bool:=
 Value.rec_2 (motive_1:=fun _=>Bool) (motive_2:=fun _=>Bool) (motive_3:=fun _=>Bool)
  (fun _=>true) (fun _ _=>true) (fun _ _=>true) (fun _ _ _=>true) (fun _=>true) (fun a=>Option.rec true (fun _=>false) a)
  (fun a _ c=>Option.rec (Bool.rec true false (Nat.beq c inf)) (fun _=>false) a) (fun r=>Option.rec true (fun _=>false) r) (fun _=>false)
  (fun _ _ _ _ _=>false) true (fun _ _ b=>b) true (fun _ b=>b) (fun _ b=>b)
  (fun _ b=>b) true (fun _ _ a b=>Bool.rec false b a) v
theorem plain_all:∀v:Value,wP v=true→∀ρ,RV ρ v v:=by
 intro v
 refine Value.rec (motive_1:=fun v=>wP v=true→∀ρ,RV ρ v v)
  (motive_2:=fun a=>plainA a=true→∀ρ (i:Nat) (v:Value),a.toList[i]? = some v→RV ρ v v)
  (motive_3:=fun l=>plainL l=true→∀ρ (i:Nat) (v:Value),l[i]? = some v→RV ρ v v)
  ?_ ?_ ?_ ?_ ?_ ?_ ?_ ?_ ?_ ?_ ?_ ?_ ?_ ?_ ?_ ?_ ?_ ?_ v
 · intro b _ ρ;exact .bool b
 · intro k n _ ρ;exact .int k n
 · intro k n _ ρ;exact .float k n
 · intro k n m _ ρ;exact .complex k n m
 · intro s _ ρ;exact .string s
 · intro a h ρ;cases a with
   | none=>exact .nilPtr
   | some a=>cases h
 · intro a l c h ρ;cases a with
   | none=>
    refine .nilSlice l c fun e=>?_;subst e;have:(Bool.rec true false (Nat.beq inf inf):Bool)=true:=h;rw [show Nat.beq inf inf=true from Nat.beq_refl inf]at this;cases this
   | some a=>cases h
 · intro r h ρ;cases r with
   | none=>exact .nilMap
   | some a=>cases h
 · intro r h;cases h
 · intro fn f c _ _ h;cases h
 · intro _ ρ;exact .nilFunc
 · intro t v ih h ρ;exact .iface (ih h ρ)
 · intro _ ρ;exact .nilIface
 · intro c ih h ρ;exact .agg rfl fun i v v' a b=>by rw[a]at b;cases b;exact ih h ρ i v a
 · intro c ih h ρ;exact .tuple rfl fun i v v' a b=>by rw[a]at b;cases b;exact ih h ρ i v a
 · intro l ih h ρ i v e;exact ih h ρ i v e
 · intro _ ρ i v e;simp at e
 · intro x l ihx ihl h ρ i v e;have h':(Bool.rec false (plainL l) (wP x):Bool)=true:=h
   cases hx:wP x with
   | false=>rw [hx]at h';cases h'
   | true=>
    rw[hx]at h'
    cases i with
    | zero=>simp at e;subst e;exact ihx hx ρ
    | succ i=>exact ihl h' ρ i v (by simpa using e)
theorem RV.plain{v:Value}(h:wP v=true)(ρ : Inj):RV ρ v v:=plain_all v h ρ
theorem RV.undef(ρ : Inj):RV ρ undef undef:=RV.plain rfl ρ
theorem RV.of_bool{ρ : Inj}{b:Bool}{v:Value}(h:RV ρ (.bool b) v):v = .bool b:=by cases h;rfl
theorem RV.of_int{ρ : Inj}{k:IntKind}{n:Int}{v:Value}(h:RV ρ (.int k n) v):v = .int k n:=by cases h;rfl
theorem RV.of_string{ρ : Inj}{s:ByteArray}{v:Value}(h:RV ρ (.string s) v):v = .string s:=by cases h;rfl
theorem RV.of_ptr{ρ : Inj}{a:Addr}{v:Value}(h:RV ρ (.pointer (some a)) v):∃B,ρ a.block=some B∧a.spot=none∧v = .pointer (some ⟨B.b,a.off,none⟩):=by
 cases h with
 | ptr h=>exact⟨_,h,rfl,rfl⟩
theorem RV.of_map{ρ : Inj}{r:Nat}{v:Value}(h:RV ρ (.map (some r)) v):∃B,ρ r=some B∧v = .map (some B.b):=by
 cases h with
 | map h=>exact⟨_,h,rfl⟩
theorem RV.of_agg{ρ : Inj}{c:Array Value}{v:Value}(h:RV ρ (.agg c) v):∃c',v = .agg c'∧RVs ρ c.toList c'.toList:=by
 cases h with
 | agg h k=>exact⟨_,rfl,h,k⟩
theorem RV.of_tuple{ρ : Inj}{c:Array Value}{v:Value}(h:RV ρ (.tuple c) v):∃c',v = .tuple c'∧RVs ρ c.toList c'.toList:=by
 cases h with
 | tuple h k=>exact⟨_,rfl,h,k⟩
theorem RV.mk_agg{ρ : Inj}{c c':List Value}(h:RVs ρ c c'):RV ρ (.agg ⟨c⟩) (.agg ⟨c'⟩):=.agg h.1 h.2
theorem RV.mk_tuple{ρ : Inj}{c c':List Value}(h:RVs ρ c c'):RV ρ (.tuple ⟨c⟩) (.tuple ⟨c'⟩):=.tuple h.1 h.2
theorem RV.cells{ρ : Inj}{v v':Value}(h:RV ρ v v'):RVs ρ (cellsOf v) v'.cells.toList:=by
 cases h with
 | agg h k=>exact⟨h,k⟩
 | _=>exact RVs.cons (by first|assumption|constructor <;> assumption) (RVs.nil ρ)
noncomputable def opnOK(ng N:Nat)(x:Operand):Bool:=
 match x with
 | .tmp t=>Nat.blt t N
 | .const v=>wP v
 | .global g=>Nat.blt g ng
 | .func _=>true
noncomputable def wQ(ng N:Nat)(o:Oper):Bool:=
 (o.op.operands.toList.all fun x=>opnOK ng N x) && (match o.dst with
  | some d=>Nat.blt d N
  | none=>true)
noncomputable def yB(ng N:Nat):Code→Bool
 | .region _ ops _=>ops.toList.all fun o=>wQ ng N o
 | .seq a b=>yB ng N a && yB ng N b
 | .cond c a b=>opnOK ng N c && (yB ng N a && yB ng N b)
 | .block _ b=>yB ng N b
 | .loop b=>yB ng N b
 | .scope b=>yB ng N b
 | .rangeFunc f _ a b=>opnOK ng N f && (yB ng N a && yB ng N b)
 | _=>true
noncomputable def fnOK(ng:Nat)(fn:Func):Bool:=
 (match fn.body with
  | some b=>yB ng fn.ntmps b && fn.name != "runtime.NumGoroutine"
  | none=>true) &&
 (fn.results.toList.all fun
  | .tmp i=>Nat.blt i fn.ntmps
  | .cell i _=>Nat.blt i fn.ntmps)
noncomputable def zU(ng:Nat)(P:Program):Bool:=
 (P.funcs.toList.all fun fn=>fnOK ng fn) && (P.types.toList.all fun i=>match i.zero with
  | some z=>wP z
  | none=>true)
def ntm(P:Program)(f:FuncId):Nat:=((P.funcs[f]?).map (·.ntmps)).getD 0
section
variable (P:Program) (ng:Nat)
def EsR(ρ : Inj)(es es':List MapEntry):Prop:=
 es.length=es'.length∧∀(i:Nat) (e e':MapEntry),es[i]? = some e→es'[i]? = some e'→e'.key=e.key∧RV ρ e.val e'.val∧e'.born=e.born
structure TmR (ρ : Inj) (N:Nat) (t:Fr) (ts:Array Value):Prop where
 sz:ts.size=N
 tm:∀(i:Nat) (v:Value),ts[i]? = some v→RV ρ (fget t i) v
inductive ObjR (ρ : Inj) (base:Nat) (B:Bl):AObj→Obj→Prop
 | cells {c:Tr Value} {n z kd:Nat} {c':Array Value} {el:TypeId} {lo hi:Nat} (hn:n≤B.n) (hs:c'.size=B.n) (hk:kd≠1→n=B.n) (hz:(kd=1→z=zc el B.z)∧(kd=0→z≠0→z=el+1))
  (hv:∀(i:Nat) (v':Value),i<n→c'[i]? = some v'→RV ρ (Tr.get undef c i) v') (hb:kd≠2→base≤B.b)
  (hf:kd≠2→lo=0∧hi=0):ObjR ρ base B (.cells c n z kd) (.cells c' el (lo,hi))
 | map {es es':List MapEntry} {clock:Nat} (he:EsR ρ es es') (hb:base≤B.b):ObjR ρ base B (.map es clock) (.map ⟨es'⟩ clock)
 | siter0 {since last:Nat} {seen:List Nat} {s2 l2:Nat} {sn2:Array Nat} (hb:base≤B.b):ObjR ρ base B (.siter none since seen last) (.mapIter none s2 sn2 l2)
 | siter {m:Nat} {M:Bl} {since last:Nat} {seen:List Nat} (hm: ρ m=some M) (hb:base≤B.b):ObjR ρ base B (.siter (some m) since seen last) (.mapIter (some M.b) since ⟨seen⟩ last)
 | loop {l l':Loop} {t:Fr} (h1:l'.state=l.state) (h2:l'.pending=l.pending) (h3:l'.fn=l.fn) (h4:l'.params=l.params) (h5:l'.assign=l.assign) (h6:l'.body=l.body)
  (h7:∃D,ρ l.defers=some D∧l'.defers=D.b) (h8:TmR ρ (ntm P l.fn) t l'.tmps) (h9:yB ng (ntm P l.fn) l.assign=true) (h10:yB ng (ntm P l.fn) l.body=true)
  (h11:∀j,l.pending=some j→∀N,yB ng N j=true) (h12:∃fn,P.funcs[l.fn]? = some fn) (hb:base≤B.b):ObjR ρ base B (.loop l t) (.loop l')
 | ready (hb:base≤B.b):ObjR ρ base B (.deferred true) (.deferred (some []))
 | taken (hb:base≤B.b):ObjR ρ base B (.deferred false) (.deferred none)
 | rows {c:Tr Value} {n:Nat} {c':Array Value} {el:TypeId} {fr:Nat×Nat} (hn:n=c'.size) (hv:∀(i:Nat) (v':Value),c'[i]? = some v'→isU (Tr.get undef c i)=false→RV ρ (Tr.get undef c i) v') :
  ObjR ρ base B (.rows c n) (.cells c' el fr)
theorem EsR.mono{ρ ρ':Inj}(h: ρ.le ρ'){es es':List MapEntry}(r:EsR ρ es es'):EsR ρ' es es':=
 ⟨r.1,fun i e e' a b=>let ⟨h1,h2,h3⟩:=r.2 i e e' a b;⟨h1,h2.mono h,h3⟩⟩
theorem TmR.le{ρ : Inj}{N:Nat}{t:Fr}{ts:Array Value}(r:TmR ρ N t ts):N≤ts.size:=Nat.le_of_eq r.sz.symm
theorem TmR.mono{ρ ρ':Inj}(h: ρ.le ρ'){N:Nat}{t:Fr}{ts:Array Value}(r:TmR ρ N t ts):TmR ρ' N t ts:=⟨r.sz,fun i v e=>(r.tm i v e).mono h⟩
variable {P ng}
theorem ObjR.mono{ρ ρ':Inj}(h: ρ.le ρ'){base:Nat}{B:Bl}{o:AObj}{o':Obj}(r:ObjR P ng ρ base B o o'):ObjR P ng ρ' base B o o':=by
 cases r with
 | cells hn hs hk hz hv hb hf=>exact .cells hn hs hk hz (fun i v' a b=>(hv i v' a b).mono h) hb hf
 | map he hb=>exact .map (he.mono h) hb
 | siter0 hb=>exact .siter0 hb
 | siter hm hb=>exact .siter (h _ _ hm) hb
 | loop h1 h2 h3 h4 h5 h6 h7 h8 h9 h10 h11 h12 hb=>
  obtain⟨D,e1,e2⟩:=h7;exact .loop h1 h2 h3 h4 h5 h6 ⟨D,h _ _ e1,e2⟩ (h8.mono h) h9 h10 h11 h12 hb
 | ready hb=>exact .ready hb
 | taken hb=>exact .taken hb
 | rows hn hv=>exact .rows hn fun i v' a b=>(hv i v' a b).mono h
variable (P ng)
structure HeapR (ρ : Inj) (base:Nat) (w0:World) (h:zB) (n:Nat) (wd:World):Prop where
 dom:∀b,n≤b→ρ b=none
 obj:∀b B,ρ b=some B→zF h b≠.dead→∃o,wd.heap[B.b]? = some o∧ObjR P ng ρ base B (zF h b) o
 inj:∀a b A B,ρ a=some A→ρ b=some B→zF h a≠.dead→zF h b≠.dead→A.b=B.b→a=b
 below:Below base w0 wd
 size:base≤wd.heap.size
 glob:∀g,g<ng→∃B,ρ g=some B∧B.b=g
 ngn:ng≤n
structure Grow (ρ : Inj) (h:zB) (n:Nat) (wd:World) (ρ':Inj) (h':zB) (n':Nat) (wd':World):Prop where
 nn:n≤n'
 old:∀b,b<n→ρ' b = ρ b
 new:∀b B,n≤b→ρ' b=some B→wd.heap.size≤B.b∨∃a A,a<n∧ρ a=some A∧A.b=B.b∧zF h a≠.dead
 keep:∀c,c<wd.heap.size→(∀b B,ρ b=some B→zF h b≠.dead→B.b≠c)→wd'.heap[c]? = wd.heap[c]?
 size:wd.heap.size≤wd'.heap.size
 dead:∀b,b<n→zF h b = .dead→zF h' b = .dead
 tape:wd'.tape=wd.tape
theorem Grow.refl(ρ : Inj)(h:zB)(n:Nat)(wd:World)(hd:∀b,n≤b→ρ b=none):Grow ρ h n wd ρ h n wd:=
 ⟨Nat.le_refl _,fun _ _=>rfl,fun b B hb e=>(by rw[hd b hb]at e;cases e),fun _ _ _=>rfl,Nat.le_refl _,fun _ _ e=>e,rfl⟩
theorem Grow.trans{ρ ρ1 ρ2:Inj}{h h1 h2:zB}{n n1 n2:Nat}{w w1 w2:World}(a:Grow ρ h n w ρ1 h1 n1 w1)(b:Grow ρ1 h1 n1 w1 ρ2 h2 n2 w2) :
 Grow ρ h n w ρ2 h2 n2 w2 where
 nn:=Nat.le_trans a.nn b.nn
 old x hx:=(b.old x (Nat.lt_of_lt_of_le hx a.nn)).trans (a.old x hx)
 new x X hx e:=by
  rcases Nat.lt_or_ge x n1 with h1'|h1'
  · rw[b.old x h1']at e;exact a.new x X hx e
  · rcases b.new x X h1' e with h2'|⟨y,Y,hy,ey,eb,hl⟩
    · exact .inl (Nat.le_trans a.size h2')
    · rcases Nat.lt_or_ge y n with h3|h3
      · refine .inr ⟨y,Y,h3,by rw[← a.old y h3];exact ey,eb,fun hd=>hl (a.dead y h3 hd)⟩
      · rcases a.new y Y h3 ey with h4|⟨z,Z,hz,ez,ezb,hlz⟩
        · exact .inl (eb ▸ h4)
        · exact .inr ⟨z,Z,hz,ez,ezb.trans eb,hlz⟩
 keep c hc hn:=by
  rw[b.keep c (Nat.lt_of_lt_of_le hc a.size) ?_,a.keep c hc hn];intro y Y ey hl eb;rcases Nat.lt_or_ge y n with h3|h3
  · exact hn y Y (by rw[← a.old y h3];exact ey) (fun hd=>hl (a.dead y h3 hd)) eb
  · rcases a.new y Y h3 ey with h4|⟨z,Z,hz,ez,ezb,hlz⟩
    · omega
    · exact hn z Z ez hlz (ezb.trans eb)
 size:=Nat.le_trans a.size b.size
 dead x hx e:=b.dead x (Nat.lt_of_lt_of_le hx a.nn) (a.dead x hx e)
 tape:=b.tape.trans a.tape
theorem Grow.le{ρ ρ':Inj}{h h':zB}{n n':Nat}{w w':World}(g:Grow ρ h n w ρ' h' n' w')(hd:∀b,n≤b→ρ b=none): ρ.le ρ':=by
 intro b B e;rcases Nat.lt_or_ge b n with h1|h1
 · rw[g.old b h1];exact e
 · rw[hd b h1]at e;cases e
def Inj.put(ρ : Inj)(n:Nat)(B:Bl):Inj:=fun b=>if b=n then some B else ρ b
theorem Inj.le_put{ρ : Inj}{n:Nat}(B:Bl)(h: ρ n=none): ρ.le (ρ.put n B):=by
 intro b C e;by_cases hb:b=n
 · subst hb;rw [h]at e;cases e
 · simp[Inj.put,hb,e]
theorem zH(h:zB)(o:AObj)(i j:Nat):zF (h.set .dead o i) j=if i=j then o else zF h j:=Tr.get_set_if _ _ _ _ _
variable {P ng}
theorem HeapR.alloc{ρ : Inj}{base:Nat}{w0:World}{h:zB}{n:Nat}{wd:World}(r:HeapR P ng ρ base w0 h n wd)(o:AObj)(o':Obj)(B:Bl)(hB:B.b=wd.heap.size)
(hr:ObjR P ng (ρ.put n B) base B o o') :
 HeapR P ng (ρ.put n B) base w0 (h.set .dead o n) (n+1) { wd with heap:=wd.heap.push o' }∧
  Grow ρ h n wd (ρ.put n B) (h.set .dead o n) (n+1) { wd with heap:=wd.heap.push o' }:=by
 have hn: ρ n=none:=r.dom n (Nat.le_refl _);have hle:=Inj.le_put B hn;refine⟨⟨?_,?_,?_,?_,?_,?_,?_⟩,⟨by omega,?_,?_,?_,?_,?_,rfl⟩⟩
 · intro b hb;have:b≠n:=by omega
   simp[Inj.put,this];exact r.dom b (by omega)
 · intro b C e hl;by_cases hb:b=n
   · subst hb;simp [Inj.put]at e;subst e;refine⟨o',by simp[hB],?_⟩;rw [zH];simpa using hr
   · have e': ρ b=some C:=by simpa [Inj.put,hb] using e
     rw[zH,if_neg (fun x=>hb x.symm)]at hl ⊢;obtain⟨ob,h1,h2⟩:=r.obj b C e' hl;refine⟨ob,?_,h2.mono hle⟩
     have hlt:C.b<wd.heap.size:=by
      rcases Nat.lt_or_ge C.b wd.heap.size with h3|h3
      · exact h3
      · rw[Array.getElem?_eq_none h3]at h1;cases h1
     show(wd.heap.push o')[C.b]? = _;rw [Array.getElem?_push,if_neg (by omega)];exact h1
 · intro a b A C ea eb ha hb hab
   have lt:∀x X,x≠n→(ρ.put n B) x=some X→zF (h.set .dead o n) x≠.dead→X.b<wd.heap.size:=by
    intro x X hx ex hlx;have ex': ρ x=some X:=by simpa [Inj.put,hx] using ex
    rw[zH,if_neg (fun y=>hx y.symm)]at hlx;obtain⟨ob,h1,_⟩:=r.obj x X ex' hlx;rcases Nat.lt_or_ge X.b wd.heap.size with h3|h3
    · exact h3
    · rw[Array.getElem?_eq_none h3]at h1;cases h1
   by_cases h1:a=n
   · by_cases h2:b=n
     · rw[h1,h2]
     · have:=lt b C h2 eb hb;subst h1;simp [Inj.put]at ea;subst ea;omega
   · by_cases h2:b=n
     · have:=lt a A h1 ea ha;subst h2;simp [Inj.put]at eb;subst eb;omega
     · rw[zH,if_neg (fun y=>h1 y.symm)]at ha;rw [zH,if_neg (fun y=>h2 y.symm)]at hb;exact r.inj a b A C (by simpa [Inj.put,h1] using ea) (by simpa [Inj.put,h2] using eb) ha hb hab
 · exact r.below.trans ⟨rfl,rfl,rfl,by simp,fun k hk=>by
    have:=r.size;show(wd.heap.push o')[k]? = _;rw [Array.getElem?_push,if_neg (by omega)]⟩
 · have:=r.size;simp;omega
 · intro g hg;obtain⟨G,e1,e2⟩:=r.glob g hg;exact⟨G,hle _ _ e1,e2⟩
 · have:=r.ngn;omega
 · intro b hb;have:b≠n:=by omega
   simp[Inj.put,this]
 · intro b C hb e;by_cases h1:b=n
   · subst h1;simp [Inj.put]at e;subst e;exact .inl (by omega)
   · have e': ρ b=some C:=by simpa [Inj.put,h1] using e
     rw[r.dom b (by omega)]at e';cases e'
 · intro c hc _;show(wd.heap.push o')[c]? = _;rw [Array.getElem?_push,if_neg (by omega)]
 · simp
 · intro b hb e;rw [zH,if_neg (by omega)];exact e
theorem HeapR.turn{ρ : Inj}{base:Nat}{w0:World}{h:zB}{n:Nat}{wd:World}(r:HeapR P ng ρ base w0 h n wd){b:Nat}{B:Bl}(hb: ρ b=some B)(hl:zF h b≠.dead)
(o:AObj)(o':Obj)(wd':World)(hbase:base≤B.b)(hr:ObjR P ng ρ base B o o')(hw:wd'.heap[B.b]? = some o')(hsz:wd'.heap.size=wd.heap.size)
(hk:∀c,c≠B.b→wd'.heap[c]? = wd.heap[c]?)(h1:wd'.os=wd.os)(h2:wd'.tape=wd.tape)(h3:wd'.output=wd.output) :
 HeapR P ng ρ base w0 (h.set .dead o b) n wd'∧Grow ρ h n wd ρ (h.set .dead o b) n wd':=by
 refine⟨⟨r.dom,?_,?_,?_,by rw[hsz];exact r.size,r.glob,r.ngn⟩,⟨Nat.le_refl _,fun _ _=>rfl,?_,?_,by omega,?_,h2⟩⟩
 · intro x X e hlx;rw [zH]at hlx ⊢;by_cases hx:b=x
   · subst hx;rw [hb]at e;cases e;simp only[if_true];exact⟨o',hw,hr⟩
   · rw[if_neg hx]at hlx ⊢;obtain⟨ob,e1,e2⟩:=r.obj x X e hlx;refine⟨ob,?_,e2⟩;rw [hk _ (fun e3=>hx (r.inj b x B X hb e hl hlx e3.symm)),e1]
 · intro x y X Y ex ey hx hy hxy;rw [zH]at hx hy;have lx:zF h x≠.dead:=by by_cases e:b=x;(· subst e;exact hl);(· rwa [if_neg e]at hx)
   have ly:zF h y≠.dead:=by by_cases e:b=y;(· subst e;exact hl);(· rwa [if_neg e]at hy)
   exact r.inj x y X Y ex ey lx ly hxy
 · exact r.below.trans ⟨h1,h2,h3,by omega,fun k hk'=>hk k (by omega)⟩
 · intro x X hx e;rw [r.dom x hx]at e;cases e
 · intro c _ hn;exact hk c fun e=>hn b B hb hl e.symm
 · intro x hx e;rw [zH];by_cases h4:b=x
   · subst h4;exact absurd e hl
   · rw[if_neg h4];exact e
theorem HeapR.lt{ρ : Inj}{base:Nat}{w0:World}{h:zB}{n:Nat}{wd:World}(r:HeapR P ng ρ base w0 h n wd){b:Nat}{B:Bl}(hb: ρ b=some B)(hl:zF h b≠.dead):B.b<wd.heap.size:=by
 obtain⟨o,e,_⟩:=r.obj b B hb hl;rcases Nat.lt_or_ge B.b wd.heap.size with h3|h3
 · exact h3
 · rw[Array.getElem?_eq_none h3]at e;cases e
end
end Go.Ex
namespace Go.Ex
theorem zS{a b:Nat}(h:Nat.blt a b=true):a<b:=by rw[Nat.blt_eq]at h;exact h
theorem yJ{a b:Nat}(h:Nat.ble a b=true):a≤b:=Nat.le_of_ble_eq_true h
theorem zD{a b:Nat}(h:Nat.beq a b=true):a=b:=Nat.eq_of_beq_eq_true h
theorem get_tabFrom{α : Type}:∀(l:List α) (t:Tr (Option α)) (i j:Nat),Tr.get none (tabFrom t i l) j=if i≤j∧j<i+l.length then l[j - i]? else Tr.get none t j:=by
 intro l
 induction l with
 | nil=>intro t i j;simp [tabFrom];omega
 | cons v l ih=>
  intro t i j;simp only[tabFrom,ih,Tr.get_set_if,List.length_cons];by_cases h1:i=j
  · subst h1;have h2:¬(i+1≤i∧i<i+1+l.length):=by omega
    have h3:i≤i∧i<i+(l.length+1):=by omega
    rw[if_neg h2,if_pos h3];simp
  · by_cases h2:i+1≤j∧j<i+1+l.length
    · have h3:i≤j∧j<i+(l.length+1):=by omega
      rw[if_pos h2,if_pos h3];have:j - i=(j - (i+1))+1:=by omega
      rw[this];rfl
    · have h3:¬(i≤j∧j<i+(l.length+1)):=by omega
      simp[h2,h3,h1]
theorem tab_some{α : Type}{l:List α}{j:Nat}{x: α}(h:Tr.get none (tabFrom .lF 0 l) j=some x):l[j]? = some x:=by
 rw[get_tabFrom]at h;split at h
 · simpa using h
 · rw[Tr.get_leaf]at h;cases h
theorem yM{P:Program}{t:TypeId}{i:TypeInfo}(h:inf? P t=some i):P.types[t]? = some i∧P.info? t=some i:=by
 have h1:P.types.toList[t]? = some i:=tab_some h;have h2:P.types[t]? = some i:=by simpa using h1
 refine⟨h2,?_⟩
 have hlt:t<P.types.size:=by
  rcases Nat.lt_or_ge t P.types.size with h3|h3
  · exact h3
  · rw[Array.getElem?_eq_none h3]at h2;cases h2
 unfold Tables.info?;rw [if_pos hlt];exact h2
theorem yY{P:Program}{t:TypeId}{d:TypeDesc}(h:und P t=some d):P.underlying t=some d:=by
 unfold und at h;unfold Program.underlying
 cases hi:inf? P t with
 | none=>rw [hi]at h;cases h
 | some i =>
  rw[hi]at h;rw [(yM hi).2];obtain⟨desc,st,sz,by_,hp,al,fa,zr,co,me⟩:=i
  cases desc with
  | named nm u=>
   simp only at h ⊢
   cases hj:inf? P u with
   | none=>rw [hj]at h;cases h
   | some j=>rw [hj]at h;rw [(yM hj).2];exact h
  | _=>exact h
theorem zero_some{P:Program}{t:TypeId}{z:Value}(h:zZ P t=some z):∃i,P.info? t=some i∧P.types[t]? = some i∧i.zero=some z:=by
 unfold zZ at h
 cases hi:inf? P t with
 | none=>rw [hi]at h;cases h
 | some i=>rw [hi]at h;exact⟨i,(yM hi).2,(yM hi).1,h⟩
theorem runTI{P:Program}{t:TypeId}{i:TypeInfo}(h:P.info? t=some i)(w:World):(typeInfo t).run P w = .ok i w:=by
 simp[typeInfo,h]
theorem xH{P:Program}{t:TypeId}{z:Value}(h:zZ P t=some z)(w:World):(zeroValue t).run P w = .ok z w:=by
 obtain⟨i,h1,_,h3⟩:=zero_some h;simp [zeroValue,runTI h1,h3]
theorem xP{P:Program}{ng:Nat}(hP:zU ng P=true){t:TypeId}{z:Value}(h:zZ P t=some z):wP z=true:=by
 obtain⟨i,_,h2,h3⟩:=zero_some h;unfold zU at hP;have h4:=(Bool.and_eq_true_iff.1 hP).2
 have h5:=List.all_eq_true.1 h4 i (by
  have:P.types.toList[t]? = some i:=by simpa using h2
  exact List.mem_of_getElem? this)
 rw[h3]at h5;exact h5
theorem yA{P:Program}{t:TypeId}{i:TypeInfo}(h:inf? P t=some i)(w:World):(sizeOf t).run P w = .ok i.size w:=by
 simp[sizeOf,runTI (yM h).2]
theorem zG{P:Program}{t:TypeId}{d:TypeDesc}(h:und P t=some d)(w:World):(underlying t).run P w = .ok d w:=run_underlying (yY h) w
theorem run_agg?{P:Program}{t:TypeId}{d:TypeDesc}(h:und P t=some d)(w:World):(isAgg t).run P w = .ok (aggT d) w:=by
 simp only[isAgg,Sem.run_bind,zG h,Result.andThen_ok];cases d <;> rfl
theorem onInt_some{R:Type}{v:Value}{f:IntKind→Int→R}{d r:R}(h:onInt v f d=r):(∃k n,v = .int k n∧f k n=r)∨d=r:=by
 cases v with
 | int k n=>exact .inl ⟨k,n,rfl,h⟩
 | _=>exact .inr h
theorem onBool_some{R:Type}{v:Value}{f:Bool→R}{d r:R}(h:onBool v f d=r):(∃b,v = .bool b∧f b=r)∨d=r:=by
 cases v with
 | bool b=>exact .inl ⟨b,rfl,h⟩
 | _=>exact .inr h
theorem vP{R:Type}{v:Value}{f:Nat→Nat→R}{d r:R}(h:onPtr v f d=r):(∃b o,v = .pointer (some ⟨b,o,none⟩)∧f b o=r)∨d=r:=by
 cases v with
 | pointer a =>
  cases a with
  | none=>exact .inr h
  | some a=>
   obtain⟨b,o,s⟩:=a
   cases s with
   | none=>exact .inl ⟨b,o,rfl,h⟩
   | some s=>exact .inr h
 | _=>exact .inr h
theorem onSlice_some{R:Type}{v:Value}{f:Nat→Nat→Nat→Nat→R}{d r:R}(h:onSlice v f d=r):(∃b o l c,v = .slice (some ⟨b,o,none⟩) l c∧f b o l c=r)∨d=r:=by
 cases v with
 | slice a l c =>
  cases a with
  | none=>exact .inr h
  | some a=>
   obtain⟨b,o,s⟩:=a
   cases s with
   | none=>exact .inl ⟨b,o,l,c,rfl,h⟩
   | some s=>exact .inr h
 | _=>exact .inr h
theorem onCells_some{R:Type}{o:AObj}{f:Tr Value→Nat→Nat→Nat→R}{d r:R}(h:onCells o f d=r):(∃c n z kd,o = .cells c n z kd∧f c n z kd=r)∨d=r:=by
 cases o with
 | cells c n z kd=>exact .inl ⟨c,n,z,kd,rfl,h⟩
 | _=>exact .inr h
theorem onRows_some{R:Type}{o:AObj}{f g:Tr Value→Nat→R}{d r:R}(h:onRows o f g d=r):(∃c n z kd,o = .cells c n z kd∧f c n=r)∨(∃c n,o = .rows c n∧g c n=r)∨d=r:=by
 cases o with
 | cells c n z kd=>exact .inl ⟨c,n,z,kd,rfl,h⟩
 | rows c n=>exact .inr (.inl ⟨c,n,rfl,h⟩)
 | _=>exact .inr (.inr h)
theorem zW{R:Type}(v:Value)(k:Value→R):yN v k=k v:=by cases v <;> rfl
theorem known1_some{v w:Value}(h:vN v=some w):isU v=false∧v=w:=by
 unfold vN at h
 cases e:isU v with
 | true=>rw [e]at h;cases h
 | false=>rw [e]at h;simp only[zW]at h;injection h with h;exact⟨rfl,h⟩
theorem known1_of{v:Value}(h:isU v=false):vN v=some v:=by unfold vN;rw [h];simp only[zW]
theorem knownL_some{l w:List Value}(h:knownL l=some w):l.any isU=false∧l=w:=by
 unfold knownL at h
 cases e:l.any isU with
 | true=>rw [e]at h;cases h
 | false=>rw [e]at h;injection h with h;exact⟨rfl,h⟩
theorem knownL_of{l:List Value}(h:l.any isU=false):knownL l=some l:=by unfold knownL;rw [h]
theorem knownN_some{l:List Value}{w:Value}(h:vO l=some w):l.any isU=false∧w = .agg ⟨l⟩:=by
 unfold vO at h
 cases e:l.any isU with
 | true=>rw [e]at h;cases h
 | false=>rw [e]at h;injection h with h;exact⟨rfl,h.symm⟩
theorem knownN_of{l:List Value}(h:l.any isU=false):vO l=some (.agg ⟨l⟩):=by unfold vO;rw [h]
theorem forceOne_true{v:Value}{k:Value→Bool}(h:forceOne v k=true):v.oneCell'=true∧k v=true:=by
 cases v <;> first|exact⟨rfl,h⟩|cases h
theorem RV.one{ρ : Inj}{v v':Value}(h:RV ρ v v')(h1:v.oneCell'=true):v'.oneCell'=true:=by
 cases h <;> first|rfl|cases h1
section
variable {P:Program} {ng:Nat} {ρ : Inj} {base:Nat} {w0:World} {hp:zB} {n:Nat} {wd:World} {N:Nat} {t:Fr} {a:Act}
theorem ev_rv(hH:HeapR P ng ρ base w0 hp n wd)(hT:TmR ρ N t a.tmps){x:Operand}(hx:opnOK ng N x=true):RV ρ (ev t x) (a.eval x):=by
 cases x with
 | tmp i=>
  have hi:i<N:=zS hx;have hlt:i<a.tmps.size:=Nat.lt_of_lt_of_le hi hT.le;have h:=hT.tm i a.tmps[i] (Array.getElem?_eq_getElem hlt);show RV ρ (fget t i) (a.tmps.getD i undef);rw [Array.getD,dif_pos hlt];exact h
 | const v=>exact RV.plain hx ρ
 | global g=>
  obtain⟨B,e1,e2⟩:=hH.glob g (zS hx);have:=RV.ptr (o:=0) e1;rw [e2]at this;exact this
 | func f=>exact .func (by intro l;exact Fn.noConfusion) rfl rfl (by intro i v v' e;simp at e) (by intro i v v' e;simp at e)
theorem cell_at(hH:HeapR P ng ρ base w0 hp n wd){b:Nat}{B:Bl}(hb: ρ b=some B){c:Tr Value}{m z kd:Nat}(hg:zF hp b = .cells c m z kd){i:Nat}(hi:i<m) :
 ∃v',wd.cell? ⟨B.b,i,none⟩=some v'∧RV ρ (Tr.get undef c i) v':=by
 obtain⟨o,e1,e2⟩:=hH.obj b B hb (by rw[hg];exact AObj.noConfusion);rw [hg]at e2
 cases e2 with
 | cells hn hs hk hz hv hb' hf=>
  rename_i c' el lo hi';have hlt:i<c'.size:=by omega
  refine⟨c'[i],?_,hv i c'[i] hi (Array.getElem?_eq_getElem hlt)⟩;simp [World.cell?,e1,hlt]
theorem cells_at(hH:HeapR P ng ρ base w0 hp n wd){b:Nat}{B:Bl}(hb: ρ b=some B){c:Tr Value}{m z kd:Nat}(hg:zF hp b = .cells c m z kd){off k:Nat}(hi:off+k≤m) :
 ∃l',RVs ρ (c.toListFrom undef off k) l'∧l'.length=k∧∀(j:Nat) (v:Value),l'[j]? = some v→wd.cell? ⟨B.b,off+j,none⟩=some v:=by
 induction k generalizing off with
 | zero=>exact⟨[],RVs.nil ρ,rfl,fun j v e=>by simp at e⟩
 | succ k ih =>
  obtain⟨v',e1,e2⟩:=cell_at hH hb hg (i:=off) (by omega);obtain⟨l',r1,r2,r3⟩:=ih (off:=off+1) (by omega);refine⟨v'::l',RVs.cons e2 r1,by simp[r2],fun j v e=>?_⟩
  cases j with
  | zero=>simp at e;subst e;simpa using e1
  | succ j=>
   have:=r3 j v (by simpa using e);rw [← this];congr 2
   omega
theorem rcell_at(hH:HeapR P ng ρ base w0 hp n wd){b:Nat}{B:Bl}(hb: ρ b=some B){c:Tr Value}{m:Nat}(hg:zF hp b = .rows c m){i:Nat}(hi:i<m)(hu:isU (Tr.get undef c i)=false) :
 ∃v',wd.cell? ⟨B.b,i,none⟩=some v'∧RV ρ (Tr.get undef c i) v':=by
 obtain⟨o,e1,e2⟩:=hH.obj b B hb (by rw[hg];exact AObj.noConfusion);rw [hg]at e2
 cases e2 with
 | rows hn hv=>
  rename_i c' el fr;have hlt:i<c'.size:=by omega
  refine⟨c'[i],?_,hv i c'[i] (Array.getElem?_eq_getElem hlt) hu⟩;simp [World.cell?,e1,hlt]
theorem rcells_at(hH:HeapR P ng ρ base w0 hp n wd){b:Nat}{B:Bl}(hb: ρ b=some B){c:Tr Value}{m:Nat}(hg:zF hp b = .rows c m){off k:Nat}(hi:off+k≤m)(hu:(c.toListFrom undef off k).any isU=false) :
 ∃l',RVs ρ (c.toListFrom undef off k) l'∧l'.length=k∧∀(j:Nat) (v:Value),l'[j]? = some v→wd.cell? ⟨B.b,off+j,none⟩=some v:=by
 induction k generalizing off with
 | zero=>exact⟨[],RVs.nil ρ,rfl,fun j v e=>by simp at e⟩
 | succ k ih =>
  have hu2:(isU (Tr.get undef c off) || (c.toListFrom undef (off+1) k).any isU)=false:=hu;obtain⟨u1,u2⟩:=Bool.or_eq_false_iff.1 hu2;obtain⟨v',e1,e2⟩:=rcell_at hH hb hg (i:=off) (by omega) u1;obtain⟨l',r1,r2,r3⟩:=ih (off:=off+1) (by omega) u2;refine⟨v'::l',RVs.cons e2 r1,by simp[r2],fun j v e=>?_⟩
  cases j with
  | zero=>simp at e;subst e;simpa using e1
  | succ j=>
   have:=r3 j v (by simpa using e);rw [← this];congr 2
   omega
theorem run_loadRows(hH:HeapR P ng ρ base w0 hp n wd){b:Nat}{B:Bl}(hb: ρ b=some B){c:Tr Value}{m:Nat}(hg:zF hp b = .rows c m){off k:Nat}(hi:off+k≤m)(hu:(c.toListFrom undef off k).any isU=false) :
 ∃l',RVs ρ (c.toListFrom undef off k) l'∧(loadCells ⟨B.b,off,none⟩ k).run P wd = .ok ⟨l'⟩ wd:=by
 obtain⟨l',r1,r2,r3⟩:=rcells_at hH hb hg hi hu;refine⟨l',r1,?_⟩
 have:=run_loadCells_list (P:=P) (w:=wd) ⟨B.b,off,none⟩ l' fun j v e=>by
  have h:=r3 j v e;unfold Addr.add;split
  · rename_i h0;subst h0;simpa using h
  · exact h
 rw[r2]at this;exact this
theorem run_loadRow(hH:HeapR P ng ρ base w0 hp n wd){b:Nat}{B:Bl}(hb: ρ b=some B){c:Tr Value}{m z kd:Nat}(hg:zF hp b = .cells c m z kd){off k:Nat}(hi:off+k≤m) :
 ∃l',RVs ρ (c.toListFrom undef off k) l'∧(loadCells ⟨B.b,off,none⟩ k).run P wd = .ok ⟨l'⟩ wd:=by
 obtain⟨l',r1,r2,r3⟩:=cells_at hH hb hg hi;refine⟨l',r1,?_⟩
 have:=run_loadCells_list (P:=P) (w:=wd) ⟨B.b,off,none⟩ l' fun j v e=>by
  have h:=r3 j v e;unfold Addr.add;split
  · rename_i h0;subst h0;simpa using h
  · exact h
 rw[r2]at this;exact this
theorem shape_scal{ty:TypeId}(h:zY P ty = .scal):∃d i,und P ty=some d∧aggT d=false∧inf? P ty=some i∧i.size=1:=by
 unfold zY at h
 cases h1:und P ty with
 | none=>rw [h1]at h;cases h
 | some d =>
  cases h2:inf? P ty with
  | none=>rw [h1,h2]at h;cases h
  | some i =>
   rw[h1,h2]at h;dsimp only at h
   cases h3:aggT d with
   | true=>rw [h3]at h;cases h
   | false=>
    rw[h3]at h;dsimp only[cond]at h
    cases h4:Nat.beq i.size 1 with
    | false=>rw [h4]at h;cases h
    | true=>exact⟨d,i,rfl,h3,rfl,zD h4⟩
theorem shape_agg{ty:TypeId}{k:Nat}(h:zY P ty = .agg k):∃d i,und P ty=some d∧aggT d=true∧inf? P ty=some i∧i.size=k:=by
 unfold zY at h
 cases h1:und P ty with
 | none=>rw [h1]at h;cases h
 | some d =>
  cases h2:inf? P ty with
  | none=>rw [h1,h2]at h;cases h
  | some i =>
   rw[h1,h2]at h
   cases h3:aggT d with
   | false=>
    simp only[h3,cond]at h;cases h4:Nat.beq i.size 1 <;> rw[h4]at h <;> cases h
   | true=>
    simp only[h3,cond]at h;injection h with h
    exact⟨d,i,rfl,h3,rfl,h⟩
theorem load_ok(hH:HeapR P ng ρ base w0 hp n wd){ty:TypeId}{x x':Value}(hx:RV ρ x x'){v:Value}
(h:onPtr x (fun b off=>onRows (zF hp b) (fun c kn=>
  Sh.rec none (Bool.rec none (yN (Tr.get undef c off) some) (Nat.blt off kn))
   (fun sz=>Bool.rec none (some (.agg ⟨c.toListFrom undef off sz⟩)) (Nat.ble (Nat.add off sz) kn)) (zY P ty)) (fun c kn=>
  Sh.rec none (Bool.rec none (vN (Tr.get undef c off)) (Nat.blt off kn))
   (fun sz=>Bool.rec none (vO (c.toListFrom undef off sz)) (Nat.ble (Nat.add off sz) kn)) (zY P ty)) none) none=some v) :
 ∃v',(Instr.loadAt ty x').run P wd = .ok v' wd∧RV ρ v v':=by
 rcases vP h with⟨b,off,rfl,h⟩|h
 case inr=>cases h
 obtain⟨B,hb,_,rfl⟩:=hx.of_ptr;have hb': ρ b=some B:=hb;rcases onRows_some h with⟨c,kn,z,kd,hg,h⟩|⟨c,kn,hg,h⟩|h
 case inr.inr=>cases h
 case inr.inl=>
  cases hs:zY P ty with
  | bad=>rw [hs]at h;cases h
  | scal =>
   rw[hs]at h;dsimp only at h;obtain⟨d,_,hd,ha,_⟩:=shape_scal hs
   cases hlt:Nat.blt off kn with
   | false=>rw [hlt]at h;cases h
   | true=>
    rw[hlt]at h;obtain⟨u1,u2⟩:=known1_some (show vN (Tr.get undef c off)=some v from h);subst u2;obtain⟨v',e1,e2⟩:=rcell_at hH hb' hg (zS hlt) u1;refine⟨v',?_,e2⟩;simp [Instr.loadAt,Instr.sureAddr,loadVar,run_agg? hd,ha,e1]
  | agg sz =>
   rw[hs]at h;dsimp only at h;obtain⟨d,i,hd,ha,hi,hsz⟩:=shape_agg hs
   cases hle:Nat.ble (Nat.add off sz) kn with
   | false=>rw [hle]at h;cases h
   | true=>
    rw[hle]at h;obtain⟨u1,u2⟩:=knownN_some (show vO (c.toListFrom undef off sz)=some v from h);subst u2;obtain⟨l',r1,r2⟩:=run_loadRows hH hb' hg (off:=off) (k:=sz) (yJ hle) u1;refine⟨.agg ⟨l'⟩,?_,RV.mk_agg r1⟩;simp [Instr.loadAt,Instr.sureAddr,loadVar,run_agg? hd,ha,yA hi,hsz,r2]
 cases hs:zY P ty with
 | bad=>rw [hs]at h;cases h
 | scal =>
  rw[hs]at h;dsimp only at h;obtain⟨d,_,hd,ha,_⟩:=shape_scal hs
  cases hlt:Nat.blt off kn with
  | false=>rw [hlt]at h;cases h
  | true=>
   rw[hlt]at h;simp only[zW]at h;injection h with h
   subst h;obtain⟨v',e1,e2⟩:=cell_at hH hb' hg (zS hlt);refine⟨v',?_,e2⟩;simp [Instr.loadAt,Instr.sureAddr,loadVar,run_agg? hd,ha,e1]
 | agg sz =>
  rw[hs]at h;dsimp only at h;obtain⟨d,i,hd,ha,hi,hsz⟩:=shape_agg hs
  cases hle:Nat.ble (Nat.add off sz) kn with
  | false=>rw [hle]at h;cases h
  | true=>
   rw[hle]at h;injection h with h
   subst h;obtain⟨l',r1,r2⟩:=run_loadRow hH hb' hg (off:=off) (k:=sz) (yJ hle);refine⟨.agg ⟨l'⟩,?_,RV.mk_agg r1⟩;simp [Instr.loadAt,Instr.sureAddr,loadVar,run_agg? hd,ha,yA hi,hsz,r2]
end
end Go.Ex
namespace Go.Ex
theorem add_eq(b o n:Nat):(⟨b,o,none⟩:Addr).add n=⟨b,o+n,none⟩:=by
 unfold Addr.add;by_cases h:n=0
 · subst h;rfl
 · rw[if_neg h]
theorem takeFrom_eq:∀(i n:Nat) (l:List Value),xS i n l=(l.drop i).take n:=by
 intro i
 induction i with
 | zero =>
  intro n
  induction n with
  | zero=>intro l;simp [xS]
  | succ n ih =>
   intro l
   cases l with
   | nil=>simp [xS]
   | cons v r=>
    have:=ih r;simp only[List.drop_zero]at this ⊢;show v::xS 0 n r=_;rw [this];rfl
 | succ i ih =>
  intro n l
  cases n with
  | zero=>simp [xS]
  | succ n =>
   cases l with
   | nil=>simp [xS]
   | cons v r=>
    show xS i (n+1) r=_;rw [ih (n+1) r];rfl
theorem extract_toList(c:Array Value)(i n:Nat):(c.extract i (i+n)).toList=(c.toList.drop i).take n:=by
 simp[Array.toList_extract]
section
variable {P:Program} {ng:Nat} {ρ : Inj} {base:Nat} {w0:World} {hp:zB} {n:Nat} {wd:World}
theorem part_ok{t:TypeId}{cs cs':List Value}{off:Nat}{v:Value}(hc:RVs ρ cs cs')(h:aPart P t cs off=some v) :
 ∃v',(part t ⟨cs'⟩ off).run P wd = .ok v' wd∧RV ρ v v':=by
 unfold aPart at h
 cases hd:und P t with
 | none=>rw [hd]at h;cases h
 | some d =>
  cases hi:inf? P t with
  | none=>rw [hd,hi]at h;cases h
  | some i =>
   rw[hd,hi]at h;dsimp only at h
   cases ha:aggT d with
   | true =>
    rw[ha]at h;dsimp only[cond]at h
    cases hb:Nat.ble (Nat.add off i.size) cs.length with
    | false=>rw [hb]at h;cases h
    | true=>
     rw[hb]at h;dsimp only[cond]at h;injection h with h
     subst h;refine⟨.agg ((⟨cs'⟩:Array Value).extract off (off+i.size)),?_,?_⟩
     · simp[part,run_agg? hd,ha,yA hi]
     · have:RVs ρ (xS off i.size cs) ((⟨cs'⟩:Array Value).extract off (off+i.size)).toList:=by
        rw[extract_toList,takeFrom_eq];exact(hc.drop off).take i.size
       exact .agg this.1 this.2
   | false=>
    rw[ha]at h;dsimp only[cond]at h;obtain⟨v',e1,e2⟩:=hc.at h;refine⟨v',?_,e2⟩;simp [part,run_agg? hd,ha,e1]
theorem off_some{t:TypeId}{f o:Nat}(h:offOf P t f=some o):∃fs fd i,und P t=some (.struct fs)∧fs[f]? = some fd∧inf? P fd.type=some i∧i.size≠0∧fd.offset=o:=by
 unfold offOf at h
 cases hd:und P t with
 | none=>rw [hd]at h;cases h
 | some d =>
  rw[hd]at h
  cases d with
  | struct fs =>
   dsimp only at h
   cases hf:fs[f]? with
   | none=>rw [hf]at h;cases h
   | some fd =>
    rw[hf]at h;dsimp only at h
    cases hi:inf? P fd.type with
    | none=>rw [hi]at h;cases h
    | some i =>
     rw[hi]at h;dsimp only at h
     cases hz:Nat.beq i.size 0 with
     | true=>rw [hz]at h;cases h
     | false=>
      rw[hz]at h;dsimp only[cond]at h;injection h with h
      exact⟨fs,fd,i,rfl,hf,hi,fun e=>(by rw[e]at hz;cases hz),h⟩
  | _=>cases h
theorem fieldAddr_ok{t:TypeId}{f o b':Nat}{off:Nat}(h:offOf P t f=some o) :
 (Instr.fieldAt t (.pointer (some ⟨b',off,none⟩)) f).run P wd = .ok (.pointer (some ⟨b',off+o,none⟩)) wd:=by
 obtain⟨fs,fd,i,hd,hf,hi,hz,rfl⟩:=off_some h;simp [Instr.fieldAt,zG hd,hf,Instr.sureAddr,fieldPlace,yA hi,hz,add_eq]
theorem ix_slice{t:TypeId}{sz:Nat}(h:ixOf P t = .slice sz):∃e i,und P t=some (.slice e)∧inf? P e=some i∧i.size=sz:=by
 unfold ixOf at h
 cases hd:und P t with
 | none=>rw [hd]at h;cases h
 | some d =>
  rw[hd]at h
  cases d with
  | slice e=>
   dsimp only at h
   cases hi:inf? P e with
   | none=>rw [hi]at h;cases h
   | some i=>rw [hi]at h;dsimp only at h;injection h with h;exact⟨e,i,rfl,hi,h⟩
  | array len e=>
   dsimp only at h
   cases hi:inf? P e with
   | none=>rw [hi]at h;cases h
   | some i=>rw [hi]at h;cases h
  | _=>cases h
theorem ix_array{t:TypeId}{len sz:Nat}(h:ixOf P t = .array len sz):∃e i,und P t=some (.array len e)∧inf? P e=some i∧i.size=sz:=by
 unfold ixOf at h
 cases hd:und P t with
 | none=>rw [hd]at h;cases h
 | some d =>
  rw[hd]at h
  cases d with
  | slice e=>
   dsimp only at h
   cases hi:inf? P e with
   | none=>rw [hi]at h;cases h
   | some i=>rw [hi]at h;cases h
  | array l e=>
   dsimp only at h
   cases hi:inf? P e with
   | none=>rw [hi]at h;cases h
   | some i=>rw [hi]at h;dsimp only at h;injection h with h1 h2;subst h1;exact⟨e,i,rfl,hi,h2⟩
  | _=>cases h
theorem RV.of_slice{ρ : Inj}{b o l c:Nat}{v:Value}(h:RV ρ (.slice (some ⟨b,o,none⟩) l c) v) :
 (∃(B:Bl) (o' c':Nat),ρ b=some B∧v = .slice (some ⟨B.b,o',none⟩) l c'∧(0<l→o'=o)∧l≤c'∧
  ((c≠inf∧c'=c∧(o'=o∨c=0))∨(c=inf∧((o'=o∧o+c'*B.z=B.n)∨(c'=0∧0<o)))))∨
 (l=0∧c=0∧(∃B:Bl,ρ b=some B)∧∃a:Addr,v = .slice (some a) 0 0):=by
 cases h with
 | slice h hc hl ho=>exact .inl ⟨_,_,c,h,rfl,fun h0=>ho.resolve_right (by omega),hl,.inl ⟨hc,rfl,ho⟩⟩
 | slice0 h a=>exact .inr ⟨rfl,rfl,⟨_,h⟩,a,rfl⟩
 | opened h hl ho=>
  refine .inl ?_;refine⟨_,_,_,h,rfl,fun hl0=>?_,hl,.inr ⟨rfl,ho⟩⟩;rcases ho with ho|ho
  · exact ho.1
  · omega
theorem indexAddr_ok{ty:TypeId}{x x':Value}{k:IntKind}{i:Int}(hx:RV ρ x x'){v:Value}
(h:(Int.rec (fun i=>Ix.rec none
  (fun sz=>onSlice x (fun b off len _=>Bool.rec none (some (.pointer (some ⟨b,Nat.add off (Nat.mul i sz),none⟩))) (Nat.blt i len)) none)
  (fun len sz=>onPtr x (fun b off=>Bool.rec none (some (.pointer (some ⟨b,Nat.add off (Nat.mul i sz),none⟩))) (Nat.blt i len)) none) (ixOf P ty)) (fun _=>none) i:Option Value)=some v) :
 ∃v',(Instr.indexAt ty x' (.int k i)).run P wd = .ok v' wd∧RV ρ v v':=by
 cases i with
 | negSucc m=>cases h
 | ofNat m =>
  dsimp only at h
  cases hix:ixOf P ty with
  | bad=>rw [hix]at h;cases h
  | slice sz =>
   rw[hix]at h;dsimp only at h;obtain⟨e,ei,hd,hi,rfl⟩:=ix_slice hix;rcases onSlice_some h with⟨b,off,len,c,hxe,h2⟩|h2
   case inr=>cases h2
   clear h;have h:=h2;clear h2;subst hxe
   cases hlt:Nat.blt m len with
   | false=>rw [hlt]at h;cases h
   | true=>
    rw[hlt]at h;dsimp only at h;injection h with h
    subst h;have hm:=zS hlt;rcases hx.of_slice with⟨B,o',c',hb,rfl,ho,_⟩|⟨h0,_⟩
    rotate_left
    · omega
    obtain rfl:=ho (by omega);refine⟨.pointer (some ⟨B.b,o'+m*ei.size,none⟩),?_,RV.ptr hb⟩;simp [Instr.indexAt,asIntOf,zG hd,yA hi,add_eq,hm]
  | array len sz =>
   rw[hix]at h;dsimp only at h;obtain⟨e,ei,hd,hi,rfl⟩:=ix_array hix;rcases vP h with⟨b,off,hxe,h2⟩|h2
   case inr=>cases h2
   clear h;have h:=h2;clear h2;subst hxe
   cases hlt:Nat.blt m len with
   | false=>rw [hlt]at h;cases h
   | true=>
    rw[hlt]at h;dsimp only at h;injection h with h
    subst h;have hm:=zS hlt;obtain⟨B,hb,_,rfl⟩:=hx.of_ptr;refine⟨.pointer (some ⟨B.b,off+m*ei.size,none⟩),?_,RV.ptr hb⟩;simp [Instr.indexAt,asIntOf,zG hd,yA hi,add_eq,hm,Instr.sureAddr]
theorem index_ok{ty:TypeId}{x x' ix ix':Value}(hx:RV ρ x x')(hix:RV ρ ix ix'){v:Value}(h:aIndex P ty x ix=some v) :
 ∃v',(Instr.index ty x' ix').run P wd = .ok v' wd∧RV ρ v v':=by
 unfold aIndex at h;split at h
 case h_2=>cases h
 rename_i k m;obtain rfl:=hix.of_int;split at h
 · rename_i len e cs hd;obtain⟨cs',rfl,hcs⟩:=hx.of_agg
   cases hi:inf? P e with
   | none=>rw [hi]at h;cases h
   | some ei =>
    rw[hi]at h;dsimp only at h
    cases hlt:Nat.blt m len with
    | false=>rw [hlt]at h;cases h
    | true=>
     rw[hlt]at h;have hm:=zS hlt;obtain⟨v',e1,e2⟩:=part_ok (wd:=wd) hcs h;refine⟨v',?_,e2⟩;have:(⟨cs'.toList⟩:Array Value)=cs':=rfl;rw [this]at e1;have e1':(part e cs' (m*ei.size)).run P wd = .ok v' wd:=e1;simp [Instr.index,asIntOf,zG hd,yA hi,hm,e1']
 · rename_i s hd;obtain rfl:=hx.of_string;rw [nthB_eq]at h;split at h
   · rename_i b hb;injection h with h
     subst h;refine⟨.int .u8 b.toNat,?_,RV.int _ _⟩
     have hlt:m<s.data.toList.length:=by
      rcases Nat.lt_or_ge m s.data.toList.length with h1|h1
      · exact h1
      · rw[List.getElem?_eq_none h1]at hb;cases hb
     have hs:s[m]? = some b:=by
      have h2:m<s.size:=hlt;rw [getElem?_pos s m h2];rw [List.getElem?_eq_getElem hlt]at hb;injection hb with hb
      rw[← hb];rfl
     simp[Instr.index,asIntOf,zG hd,hs]
   · cases h
 · cases h
theorem field_ok{ty:TypeId}{x x':Value}{f:Nat}(hx:RV ρ x x'){v:Value}(h:aField P ty x f=some v) :
 ∃v',(Instr.field ty x' f).run P wd = .ok v' wd∧RV ρ v v':=by
 unfold aField at h;split at h
 · rename_i fs cs hd;obtain⟨cs',rfl,hcs⟩:=hx.of_agg;split at h
   · rename_i fd hf;obtain⟨v',e1,e2⟩:=part_ok (wd:=wd) hcs h;refine⟨v',?_,e2⟩;have e1':(part fd.type cs' fd.offset).run P wd = .ok v' wd:=e1;simp [Instr.field,zG hd,hf,asAgg,e1']
   · cases h
 · cases h
theorem extract_ok{x x':Value}{i:Nat}(hx:RV ρ x x'){v:Value}{vs:Array Value}(he:x = .tuple vs)(h:vs.toList[i]? = some v) :
 ∃v',(Instr.extract x' i).run P wd = .ok v' wd∧RV ρ v v':=by
 subst he;obtain⟨vs',rfl,hvs⟩:=hx.of_tuple;obtain⟨v',e1,e2⟩:=hvs.at h;refine⟨v',?_,e2⟩;have:vs'[i]? = some v':=by simpa using e1
 simp[Instr.extract,this]
end
end Go.Ex
namespace Go.Ex
section
variable {P:Program} {ng:Nat} {ρ : Inj} {base:Nat} {w0:World} {hp:zB} {n:Nat} {wd:World}
def ORV(ρ : Inj)(o o':Option Value):Prop:=
 match o,o' with
 | none,none=>True
 | some v,some v'=>RV ρ v v'
 | _,_=>False
theorem natOf_some{v:Value}{m:Nat}(h:natOf v=some m):∃k,v = .int k (.ofNat m):=by
 unfold natOf at h;split at h
 · injection h with h;subst h;exact⟨_,rfl⟩
 · cases h
theorem zQ{d most m:Nat}{o o':Option Value}(hr:ORV ρ o o')(h:zT d most o=some m) :
 (o=none∧o'=none∧m=d)∨∃v k,o=some v∧o'=some (.int k m)∧m≤most:=by
 cases o with
 | none=>
  cases o' with
  | none=>simp only[zT]at h;injection h with h;exact .inl ⟨rfl,rfl,h.symm⟩
  | some v=>exact hr.elim
 | some v =>
  cases o' with
  | none=>exact hr.elim
  | some v' =>
   simp only[zT]at h
   cases hn:natOf v with
   | none=>rw [hn]at h;cases h
   | some i =>
    rw[hn]at h;dsimp only at h
    cases hle:Nat.ble i most with
    | false=>rw [hle]at h;cases h
    | true=>
     rw[hle]at h;dsimp only[cond]at h;injection h with h
     subst h;obtain⟨k,rfl⟩:=natOf_some hn;have hr':RV ρ (.int k (.ofNat i)) v':=hr;obtain rfl:=hr'.of_int;exact .inr ⟨_,k,rfl,rfl,yJ hle⟩
theorem xV(k:IntKind){m y:Nat}(code:BoundsCode)(h:m≤y):(Instr.sliceBound (.int k (m:Int)) y code).run P wd = .ok m wd:=by
 have:=Go.run_sliceBound (P:=P) (w:=wd) k m y code (by omega) (by omega);simpa using this
theorem vQ{isS:Bool}{len cap c':Nat}{lo hi mx lo' hi' mx':Option Value}(h1:ORV ρ lo lo')(h2:ORV ρ hi hi')(h3:ORV ρ mx mx')(hf:fullOK hi mx=true){m hh l dm:Nat}{most:Nat}
(e1:zT dm cap mx=some m)(e2:zT len most hi=some hh)(e3:zT 0 hh lo=some l)
(hmx:mx=none→most≤c')(hmx2:mx≠none→cap≤c'∧most=m) :
 (Instr.sliceBounds isS len c' lo' hi' mx').run P wd = .ok (l,hh,if mx=none then c' else m) wd:=by
 rcases zQ h3 e1 with⟨rfl,rfl,_⟩|⟨v,k,rfl,rfl,hm⟩
 · have hc:=hmx rfl;rcases zQ h2 e2 with⟨rfl,rfl,rfl⟩|⟨v2,k2,rfl,rfl,hh2⟩
   · rcases zQ h1 e3 with⟨rfl,rfl,rfl⟩|⟨v3,k3,rfl,rfl,hl⟩
     · simp[Instr.sliceBounds]
     · simp[Instr.sliceBounds,xV k3 _ hl]
   · rcases zQ h1 e3 with⟨rfl,rfl,rfl⟩|⟨v3,k3,rfl,rfl,hl⟩
     · simp[Instr.sliceBounds,xV k2 _ (Nat.le_trans hh2 hc)]
     · simp[Instr.sliceBounds,xV k2 _ (Nat.le_trans hh2 hc),xV k3 _ hl]
 · obtain⟨hc,rfl⟩:=hmx2 (by simp);rcases zQ h2 e2 with⟨rfl,rfl,rfl⟩|⟨v2,k2,rfl,rfl,hh2⟩
   · cases hf
   · rcases zQ h1 e3 with⟨rfl,rfl,rfl⟩|⟨v3,k3,rfl,rfl,hl⟩
     · simp[Instr.sliceBounds,xV k _ (Nat.le_trans hm hc),xV k2 _ hh2]
     · simp[Instr.sliceBounds,xV k _ (Nat.le_trans hm hc),xV k2 _ hh2,xV k3 _ hl]
theorem far_eq(b o n:Nat):far ⟨b,o,none⟩ n=⟨b,o+n,none⟩:=rfl
theorem sliceEx_ok{isS:Bool}{b off off' len cap size:Nat}{B:Bl}(hb: ρ b=some B)(ho:off'=off∨cap=0){lo hi mx lo' hi' mx':Option Value}(h1:ORV ρ lo lo')(h2:ORV ρ hi hi')(h3:ORV ρ mx mx')
   (hf:fullOK hi mx=true){v:Value}(h:wT ⟨b,off,none⟩ len cap size lo hi mx=some v) :
    ∃l hh m,(Instr.sliceBounds isS len cap lo' hi' mx').run P wd = .ok (l,hh,m) wd∧
      RV ρ v (.slice (some (if m=l then⟨B.b,off',none⟩ else(⟨B.b,off',none⟩:Addr).add (l*size))) (hh - l) (m - l)):=by
  unfold wT at h
  cases e1:zT cap cap mx with
  | none=>rw [e1]at h;cases h
  | some m =>
    rw[e1]at h;dsimp only at h
    cases e2:zT len m hi with
    | none=>rw [e2]at h;cases h
    | some hh =>
      rw[e2]at h;dsimp only at h
      cases e3:zT 0 hh lo with
      | none=>rw [e3]at h;cases h
      | some l =>
        rw[e3]at h;dsimp only at h
        cases hc:(Nat.blt m inf && Nat.ble hh m) with
        | false=>rw [hc]at h;cases h
        | true =>
          rw[hc]at h;dsimp only[cond]at h;injection h with h
          subst h;obtain⟨hm,hhm⟩:=Bool.and_eq_true_iff.1 hc;have hm:=zS hm;have hhm:=yJ hhm
          have hmc:m≤cap:=by
            rcases zQ h3 e1 with⟨_,_,e⟩|⟨_,_,_,_,e⟩
            · omega
            · exact e
          have hlh:l≤hh:=by
            rcases zQ h1 e3 with⟨_,_,e⟩|⟨_,_,_,_,e⟩
            · omega
            · exact e
          have hm0:mx=none→m=cap:=fun e=>by
            subst e;simp only[zT]at e1;injection e1 with e1;exact e1.symm
          refine⟨l,hh,m,?_,?_⟩
          · have:=vQ (P:=P) (wd:=wd) (isS:=isS) (c':=cap) h1 h2 h3 hf e1 e2 e3 (fun _=>hmc) (fun _=>⟨Nat.le_refl _,rfl⟩);rw [this];split
            · rename_i e;rw [hm0 e]
            · rfl
          · by_cases hml:m=l
            · subst hml;have e0:hh - m≤m - m:=by omega
              have:Nat.beq m m=true:=Nat.beq_refl m;rw [this,if_pos rfl];dsimp only[cond]
              exact .slice hb (by show m - m ≠ inf; have : inf ≠ 0 := by decide
                                  omega) e0 (.inr (by show m - m=0;omega))
            · have hbq:Nat.beq m l=false:=by
                cases e:Nat.beq m l with
                | false=>rfl
                | true=>exact absurd (zD e) hml
              rw[hbq,if_neg hml,add_eq];dsimp only[cond];rw [far_eq];refine .slice hb (by show m - l≠inf;omega) (by show hh - l≤m - l;omega) (.inl ?_);rcases ho with ho|ho
              · rw[ho];rfl
              · omega
theorem sliceOp_ok{isS:Bool}{b off off' len c' size:Nat}{B:Bl}(hb: ρ b=some B)(hl:len≤c')(ho:(off'=off∧off+c'*B.z=B.n)∨(c'=0∧0<off))(hz:B.z=size)(hz1:1≤size)
   {lo hi mx lo' hi' mx':Option Value}(h1:ORV ρ lo lo')(h2:ORV ρ hi hi')(h3:ORV ρ mx mx')
   (hf:fullOK hi mx=true){v:Value}(h:aSliceOp ⟨b,off,none⟩ len size lo hi mx=some v) :
    ∃l hh m,(Instr.sliceBounds isS len c' lo' hi' mx').run P wd = .ok (l,hh,m) wd∧
      RV ρ v (.slice (some (if m=l then⟨B.b,off',none⟩ else(⟨B.b,off',none⟩:Addr).add (l*size))) (hh - l) (m - l)):=by
  unfold aSliceOp at h
  cases mx with
  | none =>
    dsimp only at h
    cases e2:zT len len hi with
    | none=>rw [e2]at h;cases h
    | some hh =>
      rw[e2]at h;dsimp only at h
      cases e3:zT 0 hh lo with
      | none=>rw [e3]at h;cases h
      | some l =>
        rw[e3]at h;dsimp only at h;injection h with h
        subst h
        have hhl:hh≤len:=by
          rcases zQ h2 e2 with⟨_,_,e⟩|⟨_,_,_,_,e⟩
          · omega
          · exact e
        have hlh:l≤hh:=by
          rcases zQ h1 e3 with⟨_,_,e⟩|⟨_,_,_,_,e⟩
          · omega
          · exact e
        refine⟨l,hh,c',?_,?_⟩
        · have:=vQ (P:=P) (wd:=wd) (isS:=isS) (cap:=0) (c':=c') (dm:=0) (m:=0) h1 h2 h3 hf rfl e2 e3 (fun _=>hl) (fun e=>absurd rfl e);rw [this,if_pos rfl]
        · rw[far_eq];by_cases hml:c'=l
          · subst hml;rw [if_pos rfl];refine .opened hb (by show hh - c'≤c' - c';omega) ?_;rw [Nat.sub_self];rcases Nat.eq_zero_or_pos c' with e0|e0
            · subst e0;rcases ho with⟨ho1,ho2⟩|ho
              · exact .inl ⟨by rw[ho1];simp,by simpa using ho2⟩
              · exact .inr ⟨rfl,by simpa using ho.2⟩
            · exact .inr ⟨rfl,by
                have:1*1≤c'*size:=Nat.mul_le_mul (by omega) hz1;show 0<off+c'*size;omega⟩
          · rw[if_neg hml,add_eq];rcases ho with⟨ho1,ho2⟩|ho
            · subst hz;refine .opened hb (by show hh - l≤c' - l;omega) (.inl ⟨by rw[ho1];rfl,?_⟩);show off+l*B.z+(c' - l)*B.z=B.n;rw [← ho2,Nat.sub_mul];have:l*B.z≤c'*B.z:=Nat.mul_le_mul_right _ (by omega);omega
            · omega
  | some vm =>
    dsimp only at h
    cases e1:zT len len (some vm) with
    | none=>rw [e1]at h;cases h
    | some m =>
      rw[e1]at h;dsimp only at h
      cases e2:zT m m hi with
      | none=>rw [e2]at h;cases h
      | some hh =>
        rw[e2]at h;dsimp only at h
        cases e3:zT 0 hh lo with
        | none=>rw [e3]at h;cases h
        | some l =>
          rw[e3]at h;dsimp only at h
          cases hc:Nat.blt m inf with
          | false=>rw [hc]at h;cases h
          | true =>
            rw[hc]at h;dsimp only[cond]at h;injection h with h
            subst h;have hm:=zS hc
            have hml':m≤len:=by
              rcases zQ h3 e1 with⟨e,_⟩|⟨_,_,_,_,e⟩
              · cases e
              · exact e
            have hhm:hh≤m:=by
              rcases zQ h2 e2 with⟨_,_,e⟩|⟨_,_,_,_,e⟩
              · omega
              · exact e
            have hlh:l≤hh:=by
              rcases zQ h1 e3 with⟨_,_,e⟩|⟨_,_,_,_,e⟩
              · omega
              · exact e
            refine⟨l,hh,m,?_,?_⟩
            · cases hi with
              | none=>cases hf
              | some vh =>
                have e2':zT len m (some vh)=some hh:=e2;have:=vQ (P:=P) (wd:=wd) (isS:=isS) (c':=c') h1 h2 h3 hf e1 e2' e3 (fun e=>by cases e) (fun _=>⟨hl,rfl⟩);rw [this,if_neg (by simp)]
            · by_cases hml:m=l
              · subst hml;have:Nat.beq m m=true:=Nat.beq_refl m;rw [this,if_pos rfl];dsimp only[cond]
                exact .slice hb (by show m - m ≠ inf; have : inf ≠ 0 := by decide
                                    omega) (by show hh - m≤m - m;omega) (.inr (by show m - m=0;omega))
              · have hbq:Nat.beq m l=false:=by
                  cases e:Nat.beq m l with
                  | false=>rfl
                  | true=>exact absurd (zD e) hml
                rw[hbq,if_neg hml,add_eq];dsimp only[cond];rw [far_eq];refine .slice hb (by show m - l≠inf;omega) (by show hh - l≤m - l;omega) (.inl ?_);rcases ho with⟨ho1,_⟩|ho
                · rw[ho1];rfl
                · omega
end
end Go.Ex
namespace Go.Ex
theorem str_extract(s:ByteArray)(l h:Nat):s.extract l h=⟨⟨(s.data.toList.drop l).take (h - l)⟩⟩:=by
 have:(s.extract l h).data=s.data.extract l h:=ByteArray.data_extract;have h2:(s.extract l h).data.toList=(s.data.toList.drop l).take (h - l):=by rw[this];simp [Array.toList_extract]
 cases hs:s.extract l h with
 | mk d=>
  rw[hs]at h2
  cases d with
  | mk q=>simp only at h2;rw [h2]
theorem sliceEx_zero{a:Addr}{size:Nat}{lo hi mx:Option Value}{v:Value}(h:wT a 0 0 size lo hi mx=some v) :
 ∃m hh l,zT 0 0 mx=some m∧zT 0 m hi=some hh∧zT 0 hh lo=some l∧v = .slice (some (cond (Nat.beq m l) a (far a (Nat.mul l size)))) (Nat.sub hh l) (Nat.sub m l):=by
 unfold wT at h
 cases e1:zT 0 0 mx with
 | none=>rw [e1]at h;cases h
 | some m =>
  rw[e1]at h;dsimp only at h
  cases e2:zT 0 m hi with
  | none=>rw [e2]at h;cases h
  | some hh =>
   rw[e2]at h;dsimp only at h
   cases e3:zT 0 hh lo with
   | none=>rw [e3]at h;cases h
   | some l =>
    rw[e3]at h;dsimp only at h
    cases hc:(Nat.blt m inf && Nat.ble hh m) with
    | false=>rw [hc]at h;cases h
    | true=>
     rw[hc]at h;injection h with h
     exact⟨m,hh,l,rfl,e2,e3,h.symm⟩
section
variable {P:Program} {ng:Nat} {ρ : Inj} {base:Nat} {w0:World} {hp:zB} {n:Nat} {wd:World}
theorem nat_sub(a b:Nat):Nat.sub a b=a - b:=rfl
theorem slice_ok(hH:HeapR P ng ρ base w0 hp n wd){ty:TypeId}{x x':Value}(hx:RV ρ x x'){lo hi mx lo' hi' mx':Option Value}(h1:ORV ρ lo lo')(h2:ORV ρ hi hi')(h3:ORV ρ mx mx')
{v:Value}(h:wS P hp ty x lo hi mx=some v):∃v',(Instr.sliceAt ty x' lo' hi' mx').run P wd = .ok v' wd∧RV ρ v v':=by
 unfold wS at h
 cases hf:fullOK hi mx with
 | false=>rw [hf]at h;cases h
 | true =>
  rw[hf]at h;dsimp only[cond]at h;split at h
  ·
   rename_i e len cap hd
   cases hc:(Nat.beq len 0 && Nat.beq cap 0) with
   | false=>rw [hc]at h;cases h
   | true=>
    rw[hc]at h;obtain⟨h4,h5⟩:=Bool.and_eq_true_iff.1 hc;obtain rfl:=zD h4;obtain rfl:=zD h5;cases hx
    dsimp only at h;split at h
    · rename_i m hh l i e1 e2 e3 hi;injection h with h
      subst h
      have m0:m=0:=by
       rcases zQ h3 e1 with⟨_,_,e⟩|⟨_,_,_,_,e⟩ <;> omega
      have hh0:hh=0:=by
       rcases zQ h2 e2 with⟨_,_,e⟩|⟨_,_,_,_,e⟩ <;> omega
      have l0:l=0:=by
       rcases zQ h1 e3 with⟨_,_,e⟩|⟨_,_,_,_,e⟩ <;> omega
      subst m0 hh0 l0;have:=vQ (P:=P) (wd:=wd) (isS:=true) (c':=0) h1 h2 h3 hf e1 e2 e3 (fun _=>Nat.le_refl _) (fun _=>⟨Nat.le_refl _,rfl⟩);refine⟨.slice none 0 0,?_,RV.nilSlice 0 0 (by decide)⟩;have this':(Instr.sliceBounds true 0 0 lo' hi' mx').run P wd = .ok (0,0,0) wd:=by rw[this];split <;> rfl
      simp[Instr.sliceAt,zG hd,Instr.slice,this',yA hi]
    · cases h
  · rename_i e b off len cap hd
    cases hi:inf? P e with
    | none=>rw [hi]at h;cases h
    | some ei =>
     rw[hi]at h;dsimp only at h;rcases hx.of_slice with⟨B,o',c',hb,rfl,_,hl,hcs⟩|⟨rfl,rfl,⟨B,hb⟩,a,rfl⟩
     rotate_left
     · have hci:Nat.beq 0 inf=false:=by decide
       rw[hci]at h;dsimp only[cond]at h;obtain⟨m,hh,l,e1,e2,e3,e4⟩:=sliceEx_zero h
       have m0:m=0:=by
        rcases zQ h3 e1 with⟨_,_,e⟩|⟨_,_,_,_,e⟩ <;> omega
       have hh0:hh=0:=by
        rcases zQ h2 e2 with⟨_,_,e⟩|⟨_,_,_,_,e⟩ <;> omega
       have l0:l=0:=by
        rcases zQ h1 e3 with⟨_,_,e⟩|⟨_,_,_,_,e⟩ <;> omega
       subst m0 hh0 l0;subst e4;have:=vQ (P:=P) (wd:=wd) (isS:=true) (c':=0) h1 h2 h3 hf e1 e2 e3 (fun _=>Nat.le_refl _) (fun _=>⟨Nat.le_refl _,rfl⟩);have this':(Instr.sliceBounds true 0 0 lo' hi' mx').run P wd = .ok (0,0,0) wd:=by rw[this];split <;> rfl
       refine⟨.slice (some a) 0 0,?_,RV.slice0 hb a⟩;simp [Instr.sliceAt,zG hd,Instr.slice,this',yA hi]
     cases hci:Nat.beq cap inf with
     | true=>
      rw[hci]at h;obtain rfl:=zD hci;dsimp only[cond]at h;split at h
      · rename_i c kn z hg
        cases hz:(Nat.beq z (zc e ei.size) && Nat.ble 1 ei.size) with
        | false=>rw [hz]at h;cases h
        | true =>
         rw[hz]at h;dsimp only[cond]at h;obtain⟨hz,hz1⟩:=Bool.and_eq_true_iff.1 hz;have hz1:=yJ hz1;obtain rfl:=zD hz
         have hBz:B.z=ei.size:=by
          obtain⟨o,e1,e2⟩:=hH.obj b B hb (by rw[hg];exact AObj.noConfusion);rw [hg]at e2
          cases e2 with
          | cells _ _ _ hz' _ _ _=>exact(zc_inj (hz'.1 rfl)).2.symm
         have ho:(o'=off∧off+c'*B.z=B.n)∨(c'=0∧0<off):=by
          rcases hcs with⟨h6,_⟩|⟨_,h6⟩
          · exact absurd rfl h6
          · exact h6
         obtain⟨l,hh,m,r1,r2⟩:=sliceOp_ok (P:=P) (wd:=wd) (isS:=true) hb hl ho hBz hz1 h1 h2 h3 hf h;refine⟨_,?_,r2⟩;simp [Instr.sliceAt,zG hd,Instr.slice,r1,yA hi];split <;> rfl
      · cases h
     | false=>
      rw[hci]at h;dsimp only[cond]at h;rcases hcs with⟨_,rfl,ho⟩|⟨h6,_⟩
      case inr=>subst h6;rw [Nat.beq_refl]at hci;cases hci
      obtain⟨l,hh,m,r1,r2⟩:=sliceEx_ok (P:=P) (wd:=wd) (isS:=true) hb ho h1 h2 h3 hf h;refine⟨_,?_,r2⟩;simp [Instr.sliceAt,zG hd,Instr.slice,r1,yA hi];split <;> rfl
  · rename_i k e b off hd
    cases hi:inf? P e with
    | none=>rw [hi]at h;cases h
    | some ei=>
     rw[hi]at h;dsimp only at h;obtain⟨B,hb,_,rfl⟩:=hx.of_ptr;obtain⟨l,hh,m,r1,r2⟩:=sliceEx_ok (P:=P) (wd:=wd) (isS:=false) (off':=off) hb (.inl rfl) h1 h2 h3 hf h;refine⟨_,?_,r2⟩;simp [Instr.sliceAt,zG hd,Instr.sureAddr,r1,yA hi]
  · rename_i arr b off hd;split at h
    · rename_i k e hd2
      cases hi:inf? P e with
      | none=>rw [hi]at h;cases h
      | some ei=>
       rw[hi]at h;dsimp only at h;obtain⟨B,hb,_,rfl⟩:=hx.of_ptr;obtain⟨l,hh,m,r1,r2⟩:=sliceEx_ok (P:=P) (wd:=wd) (isS:=false) (off':=off) hb (.inl rfl) h1 h2 h3 hf h;refine⟨_,?_,r2⟩;simp [Instr.sliceAt,zG hd,Instr.slice,asAddr,zG hd2,r1,yA hi]
    · cases h
  · rename_i s hd
    cases mx with
    | some _=>cases h
    | none =>
     dsimp only at h
     cases e2:zT s.data.toList.length s.data.toList.length hi with
     | none=>rw [e2]at h;cases h
     | some hh =>
      rw[e2]at h;dsimp only at h
      cases e3:zT 0 hh lo with
      | none=>rw [e3]at h;cases h
      | some l =>
       rw[e3]at h;dsimp only at h;injection h with h
       subst h;obtain rfl:=hx.of_string
       cases mx' with
       | some _=>exact h3.elim
       | none=>
        have:=vQ (P:=P) (wd:=wd) (isS:=false) (cap:=0) (c':=s.data.toList.length) (dm:=0) (m:=0) h1 h2 h3 hf rfl e2 e3 (fun _=>Nat.le_refl _) (fun e=>absurd rfl e);refine⟨_,?_,RV.string _⟩;have this':(Instr.sliceBounds false s.size s.size lo' hi' none).run P wd = .ok (l,hh,s.data.toList.length) wd:=this;rw [cutS_eq,nat_sub,← str_extract];simp [Instr.sliceAt,zG hd,Instr.slice,this']
  · cases h
end
end Go.Ex
namespace Go.Ex
theorem putAll_eq(off:Nat):∀(l:List Value) (k:Nat) (cs:Array Value),
 ((l.zipIdx k).foldl (fun(cs:Array Value) (x:Value×Nat)=>cs.setIfInBounds (off+x.2) x.1) cs).toList=putAll cs.toList (off+k) l:=by
 intro l
 induction l with
 | nil=>intro k cs;rfl
 | cons v r ih=>
  intro k cs;simp only[List.zipIdx_cons,List.foldl_cons,ih,putAll,Array.toList_setIfInBounds];rfl
theorem RVs.putAll{ρ : Inj}:∀{l l':List Value},RVs ρ l l'→∀{cs cs':List Value} (off:Nat),RVs ρ cs cs'→RVs ρ (putAll cs off l) (putAll cs' off l'):=by
 intro l
 induction l with
 | nil=>intro l' h cs cs' off k;obtain rfl:=h.of_nil;exact k
 | cons v r ih=>
  intro l' h cs cs' off k;obtain⟨v',r',rfl,hv,hr⟩:=h.of_cons;exact ih hr (off+1) (k.set off hv)
def PsR(ρ : Inj):List (Nat×Value)→List (Nat×Value)→Prop
 | [],[]=>True
 | (i,v)::r,(j,v')::r'=>i=j∧RV ρ v v'∧PsR ρ r r'
 | _,_=>False
theorem PsR.map{ρ : Inj}(f g:Operand→Value):∀(l:List (Nat×Operand)),(∀p∈l,RV ρ (f p.2) (g p.2))→PsR ρ (l.map fun p=>(p.1,f p.2)) (l.map fun p=>(p.1,g p.2))
 | [],_=>trivial
 | p::l,h=>⟨rfl,h p (by simp),PsR.map f g l fun q hq=>h q (by simp[hq])⟩
theorem fill_ok{ρ : Inj}(place:Nat→Option (Nat×Nat)):∀{ps ps':List (Nat×Value)},PsR ρ ps ps'→∀{cs:List Value} {cs':Array Value},RVs ρ cs cs'.toList→∀{r:List Value},
 aFill place cs ps=some r→∃r',Instr.fill place cs' ps'=some r'∧RVs ρ r r'.toList:=by
 intro ps
 induction ps with
 | nil=>
  intro ps' h cs cs' hc r hr
  cases ps' with
  | nil=>simp only[aFill]at hr;injection hr with hr;subst hr;exact⟨cs',rfl,hc⟩
  | cons _ _=>exact h.elim
 | cons p rest ih =>
  intro ps' h cs cs' hc r hr;obtain⟨i,v⟩:=p
  cases ps' with
  | nil=>exact h.elim
  | cons p' rest' =>
   obtain⟨i',v'⟩:=p';obtain⟨rfl,hv,hrest⟩:=h;simp only[aFill]at hr
   cases hp:place i with
   | none=>rw [hp]at hr;cases hr
   | some os =>
    obtain⟨off,size⟩:=os;rw [hp]at hr;dsimp only at hr
    cases hb:(Nat.beq (cellsOf v).length size && Nat.ble (Nat.add off size) cs.length) with
    | false=>rw [hb]at hr;cases hr
    | true =>
     rw[hb]at hr;dsimp only[cond]at hr;obtain⟨h1,h2⟩:=Bool.and_eq_true_iff.1 hb;have h1:=zD h1;have h2:off+size≤cs.length:=yJ h2;have hvc:=hv.cells
     have hsz:v'.cells.size=size:=by
      have:=hvc.1;simp at this;omega
     have hcl:cs'.size=cs.length:=by have:=hc.1;simp at this;omega
     have hcs:RVs ρ (putAll cs off (cellsOf v)) ((v'.cells.zipIdx.foldl (fun(cs:Array Value) (x:Value×Nat)=>cs.setIfInBounds (off+x.2) x.1) cs').toList):=by
      have e:(v'.cells.zipIdx.foldl (fun(cs:Array Value) (x:Value×Nat)=>cs.setIfInBounds (off+x.2) x.1) cs').toList=putAll cs'.toList off v'.cells.toList:=by
       have:=putAll_eq off v'.cells.toList 0 cs';rw [← Array.foldl_toList];simpa [Array.toList_zipIdx] using this
      rw[e];exact RVs.putAll hvc off hc
     obtain⟨r',e1,e2⟩:=ih hrest hcs hr;refine⟨r',?_,e2⟩;rw [Instr.fill,hp];dsimp only;rw [if_neg (by simp;omega)];exact e1
section
variable {P:Program} {ng:Nat} {ρ : Inj} {base:Nat} {w0:World} {hp:zB} {n:Nat} {wd:World}
theorem places_some:∀{fs:List Field} {l:List (Nat×Nat)},placesOf P fs=some l→fs.mapM (fun f=>(P.info? f.type).map fun i=>(f.offset,i.size))=some l:=by
 intro fs
 induction fs with
 | nil=>intro l h;simp only[placesOf]at h;injection h with h;subst h;rfl
 | cons f fs ih =>
  intro l h;simp only[placesOf]at h
  cases hi:inf? P f.type with
  | none=>rw [hi]at h;cases h
  | some i =>
   cases hr:placesOf P fs with
   | none=>rw [hi,hr]at h;cases h
   | some r=>
    rw[hi,hr]at h;dsimp only at h;injection h with h
    subst h;simp [List.mapM_cons,(yM hi).2,ih hr]
theorem build_ok(hP:zU ng P=true){ty:TypeId}{ps ps':List (Nat×Value)}(hps:PsR ρ ps ps'){v:Value}(h:aBuild P ty ps=some v) :
 ∃v',(Instr.build ty ⟨ps'⟩).run P wd = .ok v' wd∧RV ρ v v':=by
 unfold aBuild at h
 cases hz:zZ P ty with
 | none=>rw [hz]at h;cases h
 | some z =>
  rw[hz]at h;dsimp only at h;have hzz:=RV.cells (RV.plain (xP hP hz) ρ)
  cases hs:structPlaces P ty with
  | some pl =>
   rw[hs]at h;dsimp only at h
   cases hf:aFill (fun i=>pl[i]?) (cellsOf z) ps with
   | none=>rw [hf]at h;cases h
   | some cs=>
    rw[hf]at h;injection h with h
    subst h;unfold structPlaces at hs;split at hs
    · rename_i fs hd;obtain⟨r',e1,e2⟩:=fill_ok (fun i=>pl[i]?) hps hzz hf;refine⟨.agg r',?_,RV.agg e2.1 e2.2⟩;have:=Go.run_places (P:=P) wd fs.toList pl (places_some hs);simp [Instr.build,xH hz,zG hd,Array.mapM_eq_mapM_toList,this,e1]
    · cases hs
  | none =>
   rw[hs]at h;dsimp only at h
   cases hix:ixOf P ty with
   | bad=>rw [hix]at h;cases h
   | slice sz=>rw [hix]at h;cases h
   | array len sz =>
    rw[hix]at h;dsimp only at h;obtain⟨e,ei,hd,hi,rfl⟩:=ix_array hix
    cases hf:aFill (fun i=>some (Nat.mul i ei.size,ei.size)) (cellsOf z) ps with
    | none=>rw [hf]at h;cases h
    | some cs=>
     rw[hf]at h;injection h with h
     subst h;obtain⟨r',e1,e2⟩:=fill_ok (fun i=>some (Nat.mul i ei.size,ei.size)) hps hzz hf;refine⟨.agg r',?_,RV.agg e2.1 e2.2⟩;have e1':Instr.fill (fun i=>some (i*ei.size,ei.size)) z.cells ps'=some r':=e1;simp [Instr.build,xH hz,zG hd,yA hi,e1']
theorem ble_dec(a b:Nat):Nat.ble a b=decide (a≤b):=by
 cases h:Nat.ble a b with
 | true=>simp [Nat.le_of_ble_eq_true h]
 | false=>
  have:¬a≤b:=fun e=>by rw[Nat.ble_eq_true_of_le e]at h;cases h
  simp[this]
theorem beq_dec(a b:Nat):Nat.beq a b=decide (a=b):=by
 cases h:Nat.beq a b with
 | true=>simp [Nat.eq_of_beq_eq_true h]
 | false=>
  have:¬a=b:=fun e=>by subst e;rw [Nat.beq_refl]at h;cases h
  simp[this]
theorem ileB_eq(a b:Int):ileB a b=decide (a≤b):=by
 cases a with
 | ofNat a => cases b with
  | ofNat b=>
   show Nat.ble a b=_;rw [ble_dec];apply decide_eq_decide.2;show a≤b↔(a:Int)≤(b:Int);omega
  | negSucc b=>exact(decide_eq_false (by simp only[Int.ofNat_eq_natCast];omega)).symm
 | negSucc a => cases b with
  | ofNat b=>exact(decide_eq_true (by simp only[Int.ofNat_eq_natCast];omega)).symm
  | negSucc b=>
   show Nat.ble b a=_;rw [ble_dec];apply decide_eq_decide.2;omega
theorem xD(a b:Int):ieqB a b=decide (a=b):=by
 cases a with
 | ofNat a => cases b with
  | ofNat b=>
   show Nat.beq a b=_;rw [beq_dec];apply decide_eq_decide.2;show a=b↔(a:Int)=(b:Int);omega
  | negSucc b=>exact(decide_eq_false (by simp only[Int.ofNat_eq_natCast];omega)).symm
 | negSucc a => cases b with
  | ofNat b=>exact(decide_eq_false (by simp only[Int.ofNat_eq_natCast];omega)).symm
  | negSucc b=>
   show Nat.beq b a=_;rw [beq_dec];apply decide_eq_decide.2;omega
theorem iltB_eq(a b:Int):iltB a b=decide (a<b):=by
 show(Bool.rec true false (ileB b a):Bool)=_;rw [ileB_eq];by_cases h:b≤a
 · have h2:¬a<b:=by omega
   simp[h,h2]
 · have h2:a<b:=by omega
   simp[h,h2]
theorem subNN_eq(m k:Nat):subNN m k=(m:Int) - (k:Int):=by
 show(Bool.rec (Int.negSucc (Nat.pred (Nat.sub k m))) (Int.ofNat (Nat.sub m k)) (Nat.ble k m):Int)=_;by_cases h:k≤m
 · rw[Nat.ble_eq_true_of_le h];show Int.ofNat (m - k)=_;simp only[Int.ofNat_eq_natCast];omega
 · have:Nat.ble k m=false:=by
    cases e:Nat.ble k m with
    | false=>rfl
    | true=>exact absurd (Nat.le_of_ble_eq_true e) h
   rw[this];show Int.negSucc (k - m - 1)=_;omega
theorem iadd_eq(a b:Int):iadd a b=a+b:=by
 cases a with
 | ofNat a=>cases b with
  | ofNat b=>rfl
  | negSucc b=>show subNN a (b+1)=_;rw [subNN_eq];simp only[Int.ofNat_eq_natCast];omega
 | negSucc a=>cases b with
  | ofNat b=>show subNN b (a+1)=_;rw [subNN_eq];simp only[Int.ofNat_eq_natCast];omega
  | negSucc b=>show Int.negSucc (Nat.succ (a+b))=_;omega
theorem isub_eq(a b:Int):isub a b=a - b:=by
 cases b with
 | ofNat b=>cases a with
  | ofNat a=>show subNN a b=_;rw [subNN_eq];rfl
  | negSucc a=>show Int.negSucc (a+b)=_;simp only[Int.ofNat_eq_natCast];omega
 | negSucc b=>cases a with
  | ofNat a=>show Int.ofNat (a+(b+1))=_;simp only[Int.ofNat_eq_natCast];omega
  | negSucc a=>show subNN b a=_;rw [subNN_eq];omega
theorem yZ(k:IntKind)(m:Int):wC k m=k.wrap m:=by
 cases k with
 | i64 =>
  cases m with
  | ofNat m =>
   show(Bool.rec (IntKind.wrap .i64 (.ofNat m)) (Int.ofNat m) (Nat.blt m 9223372036854775808):Int)=_
   cases h:Nat.blt m 9223372036854775808 with
   | false=>rfl
   | true=>
    have:=zS h;show Int.ofNat m=_;rw [IntWalk.i64_in];simp only[Int.ofNat_eq_natCast];omega
  | negSucc m =>
   show(Bool.rec (IntKind.wrap .i64 (.negSucc m)) (Int.negSucc m) (Nat.blt m 9223372036854775808):Int)=_
   cases h:Nat.blt m 9223372036854775808 with
   | false=>rfl
   | true=>
    have:=zS h;show Int.negSucc m=_;rw [IntWalk.i64_in];omega
 | u64 =>
  cases m with
  | negSucc m=>rfl
  | ofNat m =>
   simp only[wC]
   cases h:Nat.blt m 18446744073709551616 with
   | false=>rfl
   | true=>
    have:=zS h;simp only[cond,IntKind.wrap,IntKind.signed,IntKind.bits,Bool.false_and,Bool.false_eq_true,if_false];show Int.ofNat m=_;simp only[Int.ofNat_eq_natCast];omega
 | u8 =>
  cases m with
  | negSucc m=>rfl
  | ofNat m =>
   simp only[wC]
   cases h:Nat.blt m 256 with
   | false=>rfl
   | true=>
    have:=zS h;simp only[cond,IntKind.wrap,IntKind.signed,IntKind.bits,Bool.false_and,Bool.false_eq_true,if_false];show Int.ofNat m=_;simp only[Int.ofNat_eq_natCast];omega
 | _=>rfl
theorem vD{k k':IntKind}(h:wN k k'=true):k=k':=by
 cases k <;> cases k' <;> first|rfl|cases h
end
end Go.Ex
