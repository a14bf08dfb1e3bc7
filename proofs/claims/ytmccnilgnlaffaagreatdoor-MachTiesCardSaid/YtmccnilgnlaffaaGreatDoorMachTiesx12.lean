/- What the law leans on: an executor of the model that is sound, deduction over it, and the walks through the code (part 12 of 18). Conditions: those that each theorem states. -/
import Derived.Test.YtmccnilgnlaffaaGreatDoorMachTiesx11

set_option linter.unusedVariables false
set_option linter.unusedSimpArgs false
namespace Go.Ex.M
structure GSt where
 ns:List Tx
 ps:List Pl
def gPl(d:Int)(base:Pl)(sibs:List Pl)(r:RegT):Pl:=if d=1 then⟨(sibs.length:Nat),r.a,r.w⟩ else⟨base.root,base.at_+r.a,r.w⟩
def tK(d:Int)(base:Pl)(sibs:List Pl)(s:GSt)(r:RegT):Except Int Pl:=
 if 6<d then .error 4
 else if 200≤s.ns.length then .error 2
 else if named r.name=false∨r.name∈s.ns then .error 5
 else if r.w<1∨64<r.w∨r.a<0∨(d=1∧r.a≠0)∨(d≠1∧base.width - r.w<r.a) then .error 6
 else if sibs.any (lapB (gPl d base sibs r)) then .error 7
 else .ok (gPl d base sibs r)
def sH(rec:Pl→List RegT→GSt→Except Int GSt)(d:Int)(base:Pl)(acc:Except Int (List Pl×GSt))(r:RegT):Except Int (List Pl×GSt):=match acc with
 | .error e=>.error e
 | .ok x => match tK d base x.1 x.2 r with
  | .error e=>.error e
  | .ok p=>match rec p r.subs ⟨x.2.ns++[r.name],x.2.ps++[p]⟩ with
   | .error e=>.error e
   | .ok s'=>.ok (x.1++[p],s')
def xW:Nat→Int→Pl→List RegT→GSt→Except Int GSt
 | 0,_,_,_,s=>.ok s
 | k+1,d,base,l,s=>match l.foldl (sH (xW k (d+1)) d base) (.ok ([],s)) with
  | .error e=>.error e
  | .ok x=>.ok x.2
def geoP(l:List RegT):Except Int GSt:=xW 7 1 ⟨0,0,0⟩ l ⟨[],[]⟩
theorem wG(rec:Pl→List RegT→GSt→Except Int GSt)(d:Int)(base:Pl)(e:Int):∀l:List RegT,l.foldl (sH rec d base) (.error e) = .error e:=by
 intro l
 induction l with
 | nil=>rfl
 | cons r l ih=>exact ih
section
variable {rec:Pl→List RegT→GSt→Except Int GSt} {d:Int} {base:Pl} {sibs:List Pl} {s s':GSt} {r:RegT} {p:Pl} {e:Int}
theorem gStep_e1(hg:tK d base sibs s r = .error e):sH rec d base (.ok (sibs,s)) r = .error e:=by unfold sH;dsimp only;rw [hg]
theorem gStep_e2(hg:tK d base sibs s r = .ok p)(hr:rec p r.subs ⟨s.ns++[r.name],s.ps++[p]⟩ = .error e):sH rec d base (.ok (sibs,s)) r = .error e:=by unfold sH;dsimp only;rw [hg];dsimp only;rw [hr]
theorem gStep_ok(hg:tK d base sibs s r = .ok p)(hr:rec p r.subs ⟨s.ns++[r.name],s.ps++[p]⟩ = .ok s'):sH rec d base (.ok (sibs,s)) r = .ok (sibs++[p],s'):=by unfold sH;dsimp only;rw [hg];dsimp only;rw [hr]
end
structure WSt where
 ns:List Tx
 ps:List Pl
 ways:List (Pl×List Pl)
def wStep(acc:Except Int WSt)(e:RegT×Int):Except Int WSt:=match acc with
 | .error x=>.error x
 | .ok w => match w.ways[(e.2 - 1).toNat]? with
  | none=>.error 0
  | some top=>match tK e.2 top.1 top.2 ⟨w.ns,w.ps⟩ e.1 with
   | .error x=>.error x
   | .ok p=>.ok ⟨w.ns++[e.1.name],w.ps++[p],w.ways.take (e.2 - 1).toNat++[(top.1,top.2++[p]),(p,[])]⟩
theorem wStep_err(e:Int):∀l:List (RegT×Int),l.foldl wStep (.error e) = .error e:=by
 intro l
 induction l with
 | nil=>rfl
 | cons r l ih=>exact ih
def Sub(k:Nat):Prop:=∀(d:Int) (p:Pl) (subs:List RegT) (s:GSt) (stk:List (Pl×List Pl)),0<d→(stk.length:Int)=d→
 (∃e,(preL k (d+1) subs).foldl wStep (.ok ⟨s.ns,s.ps,stk++[(p,[])]⟩) = .error e∧xW k (d+1) p subs s = .error e)∨
 ∃s' rest,(preL k (d+1) subs).foldl wStep (.ok ⟨s.ns,s.ps,stk++[(p,[])]⟩) = .ok ⟨s'.ns,s'.ps,stk++rest⟩∧xW k (d+1) p subs s = .ok s'
theorem main_of{k:Nat}(hs:Sub k){d:Int}{base:Pl}{stk:List (Pl×List Pl)}(hd:0<d)(hl:(stk.length:Int)+1=d):∀(l:List RegT) (sibs:List Pl) (s:GSt) (rest:List (Pl×List Pl)),
 (∃e,(preL (k+1) d l).foldl wStep (.ok ⟨s.ns,s.ps,stk++(base,sibs)::rest⟩) = .error e∧l.foldl (sH (xW k (d+1)) d base) (.ok (sibs,s)) = .error e)∨
 ∃s' sibs' rest',(preL (k+1) d l).foldl wStep (.ok ⟨s.ns,s.ps,stk++(base,sibs)::rest⟩) = .ok ⟨s'.ns,s'.ps,stk++(base,sibs')::rest'⟩∧l.foldl (sH (xW k (d+1)) d base) (.ok (sibs,s)) = .ok (sibs',s'):=by
 have hn:(d - 1).toNat=stk.length:=by omega
 intro l
 induction l with
 | nil=>intro sibs s rest;exact .inr ⟨s,sibs,rest,rfl,rfl⟩
 | cons r l ih =>
  intro sibs s rest
  have e0:preL (k+1) d (r::l)=(r,d)::(preL k (d+1) r.subs++preL (k+1) d l):=by
   show(r::l).flatMap (fun r=>(r,d)::preL k (d+1) r.subs)=_;rw [List.flatMap_cons];rfl
  rw[e0,List.foldl_cons,List.foldl_append,List.foldl_cons]
  have e1:(stk++(base,sibs)::rest)[(d - 1).toNat]? = some (base,sibs):=by
   rw[hn,List.getElem?_append_right (Nat.le_refl _),Nat.sub_self];rfl
  have e2:(stk++(base,sibs)::rest).take (d - 1).toNat=stk:=by rw[hn,List.take_left'];rfl
  have e3:wStep (.ok ⟨s.ns,s.ps,stk++(base,sibs)::rest⟩) (r,d)=match tK d base sibs s r with
   | .error x=>.error x
   | .ok p=>.ok ⟨s.ns++[r.name],s.ps++[p],stk++[(base,sibs++[p]),(p,[])]⟩:=by
   unfold wStep;dsimp only;rw [e1];dsimp only;rw [e2]
  rw[e3]
  cases hg:tK d base sibs s r with
  | error x=>
   refine .inl ⟨x,?_,?_⟩
   · dsimp only;rw [wStep_err,wStep_err]
   · rw[gStep_e1 hg];exact wG _ _ _ _ _
  | ok p =>
   dsimp only;have e4:stk++[(base,sibs++[p]),(p,([]:List Pl))]=(stk++[(base,sibs++[p])])++[(p,[])]:=by simp
   rw[e4]
   have e5:sH (xW k (d+1)) d base (.ok (sibs,s)) r=match xW k (d+1) p r.subs ⟨s.ns++[r.name],s.ps++[p]⟩ with
    | .error e=>.error e
    | .ok s'=>.ok (sibs++[p],s'):=by
    unfold sH;dsimp only;rw [hg]
   rw[e5];rcases hs d p r.subs ⟨s.ns++[r.name],s.ps++[p]⟩ (stk++[(base,sibs++[p])]) hd (by rw[List.length_append];simp;omega) with⟨e,h1,h2⟩|⟨s',rest',h1,h2⟩
   · refine .inl ⟨e,?_,?_⟩
     · rw[h1,wStep_err]
     · rw[h2];dsimp only;exact wG _ _ _ _ _
   · rw[h1,h2,List.append_assoc];exact ih _ _ _
theorem sub_all:∀k,Sub k:=by
 intro k
 induction k with
 | zero=>intro d p subs s stk hd hl;exact .inr ⟨s,[(p,[])],rfl,rfl⟩
 | succ k ih=>
  intro d p subs s stk hd hl;rcases main_of ih (d:=d+1) (base:=p) (stk:=stk) (by omega) (by omega) subs [] s [] with⟨e,h1,h2⟩|⟨s',sibs',rest',h1,h2⟩
  · refine .inl ⟨e,h1,?_⟩;unfold xW;rw [h2]
  · refine .inr ⟨s',_,h1,?_⟩;unfold xW;rw [h2]
theorem geo_walk(l:List RegT):(∃e,(preL 7 1 l).foldl wStep (.ok ⟨[],[],[(⟨0,0,0⟩,[])]⟩) = .error e∧geoP l = .error e)∨
 ∃s ways,(preL 7 1 l).foldl wStep (.ok ⟨[],[],[(⟨0,0,0⟩,[])]⟩) = .ok ⟨s.ns,s.ps,ways⟩∧geoP l = .ok s:=by
 rcases main_of (sub_all 6) (d:=1) (base:=⟨0,0,0⟩) (stk:=[]) (by decide) (by decide) l [] ⟨[],[]⟩ [] with⟨e,h1,h2⟩|⟨s',sibs',rest',h1,h2⟩
 · refine .inl ⟨e,h1,?_⟩;unfold geoP xW;rw [show(1:Int)+1=2 from rfl]at h2;rw [show(1:Int)+1=2 from rfl,h2]
 · refine .inr ⟨s',_,h1,?_⟩;unfold geoP xW;rw [show(1:Int)+1=2 from rfl]at h2;rw [show(1:Int)+1=2 from rfl,h2]
def PlG(p:Pl):Prop:=0≤p.at_∧1≤p.width∧p.at_+p.width≤64
structure GOK (s:GSt):Prop where
 nd:s.ns.Nodup
 len:s.ps.length=s.ns.length
 le:s.ns.length≤200
 pl:∀p∈s.ps,PlG p
 nm:∀x∈s.ns,named x=true
theorem gOne_ok{d:Int}{base:Pl}{sibs:List Pl}{s:GSt}{r:RegT}{p:Pl}(h:tK d base sibs s r = .ok p)(hs:GOK s)(hb:d=1∨PlG base):p=gPl d base sibs r∧PlG p∧GOK ⟨s.ns++[r.name],s.ps++[p]⟩:=by
 unfold tK at h;split at h
 · cases h
 split at h
 · cases h
 split at h
 · cases h
 split at h
 · cases h
 split at h
 · cases h
 rename_i h1 h2 h3 h4 h5;injection h with h
 subst h
 have hp:PlG (gPl d base sibs r):=by
  unfold gPl PlG;split
  · rename_i hd;show 0≤r.a∧1≤r.w∧r.a+r.w≤64
    have:r.a=0:=by
     rcases Decidable.em (r.a=0) with h9|h9
     · exact h9
     · exact absurd (.inr (.inr (.inr (.inl ⟨hd,h9⟩)))) h4
    simp only[not_or,not_and,Int.not_lt]at h4;omega
  · rename_i hd;rcases hb with hb|hb
    · exact absurd hb hd
    · unfold PlG at hb;simp only[not_or,not_and,Int.not_lt]at h4;have:=h4.2.2.2.2 hd;show 0≤base.at_+r.a∧1≤r.w∧base.at_+r.a+r.w≤64;omega
 refine⟨rfl,hp,?_,?_,?_,?_,?_⟩
 · show(s.ns++[r.name]).Nodup;rw [List.nodup_append];refine⟨hs.nd,by simp,fun a ha b hb e=>?_⟩;simp at hb;subst e hb;exact h3 (.inr ha)
 · show(s.ps++[gPl d base sibs r]).length=(s.ns++[r.name]).length;simp [hs.len]
 · show(s.ns++[r.name]).length≤200;simp;omega
 · intro q hq;rcases List.mem_append.1 hq with h9|h9
   · exact hs.pl q h9
   · simp at h9;subst h9;exact hp
 · intro x hx;rcases List.mem_append.1 hx with h9|h9
   · exact hs.nm x h9
   · simp at h9;subst h9
     cases h8:named r.name with
     | true=>rfl
     | false=>exact absurd (.inl h8) h3
theorem gDown_ok:∀(k:Nat) (d:Int) (base:Pl) (l:List RegT) (s s':GSt),0<d→(d=1∨PlG base)→xW k d base l s = .ok s'→GOK s→GOK s':=by
 intro k
 induction k with
 | zero=>
  intro d base l s s' _ _ h hs;unfold xW at h;injection h with h
  exact h ▸ hs
 | succ k ih =>
  intro d base l s s' hd hb h hs
  have go:∀(l:List RegT) (sibs:List Pl) (s:GSt) (x:List Pl×GSt),GOK s→l.foldl (sH (xW k (d+1)) d base) (.ok (sibs,s)) = .ok x→GOK x.2:=by
   intro l
   induction l with
   | nil=>
    intro sibs s x hs h;injection h with h
    exact h ▸ hs
   | cons r l ihl =>
    intro sibs s x hs h;rw [List.foldl_cons]at h
    cases hg:tK d base sibs s r with
    | error e=>rw [gStep_e1 hg,wG]at h;cases h
    | ok p =>
     obtain⟨_,q1,q2⟩:=gOne_ok hg hs hb
     cases hr:xW k (d+1) p r.subs ⟨s.ns++[r.name],s.ps++[p]⟩ with
     | error e=>rw [gStep_e2 hg hr,wG]at h;cases h
     | ok s2=>
      rw[gStep_ok hg hr]at h;exact ihl _ _ _ (ih (d+1) p r.subs _ _ (by omega) (.inr q1) hr q2) h
  unfold xW at h
  cases hf:l.foldl (sH (xW k (d+1)) d base) (.ok ([],s)) with
  | error e=>rw [hf]at h;cases h
  | ok x=>
   rw[hf]at h;injection h with h
   exact h ▸ go l [] s x hs hf
theorem geo_ok{l:List RegT}{s:GSt}(h:geoP l = .ok s):GOK s:=gDown_ok 7 1 ⟨0,0,0⟩ l ⟨[],[]⟩ s (by decide) (.inl rfl) h ⟨List.nodup_nil,rfl,Nat.zero_le _,fun p hp=>(by cases hp),fun x hx=>(by cases hx)⟩
theorem PlG.ok{p:Pl}(h:PlG p):PlOK p:=by unfold PlG at h;unfold PlOK Go64;omega
end Go.Ex.M
namespace Go.Ex.M
def FirstE{α : Type}(l:List α)(E:Nat→α→Int→Prop)(e:Int):Prop:=(e=0∧∀(i:Nat) x,l[i]? = some x→E i x 0)∨∃(i:Nat) (x: α),l[i]? = some x∧(∀(j:Nat) y,j<i→l[j]? = some y→E j y 0)∧e≠0∧E i x e
theorem first_step{α : Type}{l:List α}{E:Nat→α→Int→Prop}{i:Nat}{x: α}(hx:l[i]? = some x)(h:E i x 0)(hno:∀(j:Nat) y,j<i→l[j]? = some y→E j y 0):∀(j:Nat) y,j<i+1→l[j]? = some y→E j y 0:=fun j y hj e=>by
 rcases Nat.lt_succ_iff_lt_or_eq.1 hj with h9|rfl
 · exact hno j y h9 e
 · rw[hx]at e;cases e;exact h
theorem first_all{α : Type}{l:List α}{E:Nat→α→Int→Prop}(hno:∀(j:Nat) y,j<l.length→l[j]? = some y→E j y 0):FirstE l E 0:=.inl ⟨rfl,fun i x hx=>hno i x (List.getElem?_eq_some_iff.1 hx).1 hx⟩
theorem first_bad{α : Type}{l:List α}{E:Nat→α→Int→Prop}{i:Nat}{x: α}{e:Int}(hx:l[i]? = some x)(h:E i x e)(he:e≠0)(hno:∀(j:Nat) y,j<i→l[j]? = some y→E j y 0):FirstE l E e:=.inr ⟨i,x,hx,hno,he,h⟩
def nameOKc(m:MachT)(ns:List Tx)(i:Nat)(c:ClassT):Prop:=named c.name=true∧wO m c.name=(i:Nat)∧c.name∉ns
def regOKc(ns:List Tx)(ps:List Pl)(c:ClassT)(j:Nat)(r:Tx):Prop:=r∈ns∧pos c.regs r=(j:Nat)∧(xJ ns ps r).width=wdOf ns ps c
def restOKc(ns:List Tx)(ps:List Pl)(c:ClassT):Prop:=1≤c.regs.length∧c.regs.length≤64∧∀(j:Nat) r,c.regs[j]? = some r→regOKc ns ps c j r
def clsE(m:MachT)(ns:List Tx)(ps:List Pl)(i:Nat)(c:ClassT)(e:Int):Prop:=(e=0∧nameOKc m ns i c∧restOKc ns ps c)∨(e=5∧¬nameOKc m ns i c)∨(e=8∧nameOKc m ns i c∧¬restOKc ns ps c)
def ClsErr(m:MachT)(ns:List Tx)(ps:List Pl)(e:Int):Prop:=(e=2∧64<m.classes.length)∨(m.classes.length≤64∧FirstE m.classes (clsE m ns ps) e)
def wdC(m:MachT)(ns:List Tx)(ps:List Pl)(x:Tx):Int:=match wT m x with
 | some c=>wdOf ns ps c
 | none=>0
def nameOKo(m:MachT)(i:Nat)(o:OpT):Prop:=0<arity o.name∧posF (fun x:OpT=>decide (x.name=o.name)) m.ops=(i:Nat)
def useOKo(m:MachT)(ns:List Tx)(ps:List Pl)(o:OpT)(u:OperT):Prop:=oprOK m u=true∧wdC m ns ps u.cls=wdC m ns ps o.d.cls
def clobOKo(ns:List Tx)(o:OpT)(j:Nat)(r:Tx):Prop:=r∈ns∧pos o.clob r=(j:Nat)
def restOKo(m:MachT)(ns:List Tx)(ps:List Pl)(o:OpT):Prop:=((o.uses.length:Nat):Int)=arity o.name∧oprOK m o.d=true∧(∀(j:Nat) u,o.uses[j]? = some u→useOKo m ns ps o u)∧-1≤o.tie∧o.tie<o.uses.length∧(0≤o.tie→o.uses[o.tie.toNat]? = some o.d)∧o.clob.length≤64∧∀(j:Nat) r,o.clob[j]? = some r→clobOKo ns o j r
def opE(m:MachT)(ns:List Tx)(ps:List Pl)(i:Nat)(o:OpT)(e:Int):Prop:=(e=0∧nameOKo m i o∧restOKo m ns ps o)∨(e=5∧¬nameOKo m i o)∨(e=9∧nameOKo m i o∧¬restOKo m ns ps o)
def OpsErr(m:MachT)(ns:List Tx)(ps:List Pl)(e:Int):Prop:=(e=2∧64<m.ops.length)∨(m.ops.length≤64∧FirstE m.ops (opE m ns ps) e)
theorem ClsErr.ok{m:MachT}{ns:List Tx}{ps:List Pl}(h:ClsErr m ns ps 0):m.classes.length≤64∧∀(i:Nat) c,m.classes[i]? = some c→nameOKc m ns i c∧restOKc ns ps c:=by
 rcases h with⟨h,_⟩|⟨h1,⟨_,h⟩|⟨_,_,_,_,h,_⟩⟩
 · omega
 · refine⟨h1,fun i c hc=>?_⟩;rcases h i c hc with⟨_,h⟩|⟨h,_⟩|⟨h,_⟩
   · exact h
   · omega
   · omega
 · omega
def convOK(m:MachT)(ns:List Tx)(ps:List Pl)(apart:List Tx→Int→Prop):Prop:=apart m.args 16∧m.result∈ns∧apart m.saved 64∧(∀(i:Nat) x,m.saved[i]? = some x→lapB (xJ ns ps x) (xJ ns ps m.result)=false)∧0≤m.slots∧m.slots≤1000∧∀(i:Nat) x,(m.args++[m.result])[i]? = some x→m.classes.any (fun c=>decide (x∈c.regs))=true
def apOK(ns:List Tx)(ps:List Pl)(l:List Tx)(i:Nat)(x:Tx):Prop:=x∈ns∧∀(j:Nat) y,j<i→l[j]? = some y→lapB (xJ ns ps x) (xJ ns ps y)=false
def vU(ns:List Tx)(ps:List Pl)(l:List Tx)(most:Int):Prop:=(l.length:Nat)≤most∧∀(i:Nat) x,l[i]? = some x→apOK ns ps l i x
theorem wQ{α : Type}{l:List α}{i:Nat}{x: α}(h:l[i]? = some x):l.take (i+1)=l.take i++[x]:=by
 rw[List.take_add_one,h];rfl
theorem yN{lo n:Nat}{h:zB}{v:Value}{e sz len:Nat}{vs:List Value}(r:Own lo n h v e sz len vs):∀x∈(zO v).toList,lo≤x:=fun x hx=>by
 cases hb:zO v with
 | none=>rw [hb]at hx;cases hx
 | some b=>rw [hb]at hx;simp at hx;subst hx;exact(r.blk hb).1
theorem el_at{α β : Type}{f: α→β}{l:List α}{i j:Nat}{y: α}(h:l[j]? = some y)(hj:j<i):((l.take i).map f)[j]? = some (f y):=by
 rw[List.getElem?_map,List.getElem?_take_of_lt hj,h];rfl
end Go.Ex.M
namespace Go.Ex.M
def mayF(o:OperT)(r:Tx):Bool:=decide (o.fix=[]) || decide (o.fix=r)
def tL(m:MachT)(ns:List Tx)(ps:List Pl)(o:OperT):List Pl:=match wT m o.cls with
 | some c=>(c.regs.filter (mayF o)).map (xJ ns ps)
 | none=>[]
def pairBB(m:MachT)(ns:List Tx)(ps:List Pl)(a b:OperT):Bool:=(tL m ns ps a).any fun p=>(tL m ns ps b).any fun q=> !lapB p q
def sparB(ns:List Tx)(ps:List Pl)(o:OpT)(p:Pl):Bool:=o.clob.all fun r=> !lapB p (xJ ns ps r)
def defB(m:MachT)(ns:List Tx)(ps:List Pl)(o:OpT)(uses:List Pl):Bool:=if 0≤o.tie then sparB ns ps o (uses.getD o.tie.toNat ⟨0,0,0⟩) else(tL m ns ps o.d).any (sparB ns ps o)
theorem all_false{α : Type}{l:List α}{f: α→Bool}{i:Nat}{x: α}(hi:l[i]? = some x)(h:f x=false):l.all f=false:=by
 cases e:l.all f with
 | false=>rfl
 | true=>rw [List.all_eq_true.1 e x (List.mem_of_getElem? hi)]at h;cases h
theorem all_true{α : Type}{l:List α}{f: α→Bool}(h:∀(i:Nat) x,i<l.length→l[i]? = some x→f x=true):l.all f=true:=List.all_eq_true.2 fun x hx=>by
 obtain⟨i,hi⟩:=List.mem_iff_getElem?.1 hx;exact h i x (List.getElem?_eq_some_iff.1 hi).1 hi
theorem may_step{o:OperT}{l:List Tx}{i:Nat}{r:Tx}{f:Tx→Pl}(h:l[i]? = some r):((l.take (i+1)).filter (mayF o)).map f=if mayF o r then((l.take i).filter (mayF o)).map f++[f r] else((l.take i).filter (mayF o)).map f:=by
 rw[wQ h,List.filter_append]
 cases e:mayF o r with
 | true=>simp [e]
 | false=>simp [e]
theorem may_pre{o:OperT}{l:List Tx}{i:Nat}{f:Tx→Pl}:((l.take i).filter (mayF o)).map f <+: (l.filter (mayF o)).map f:=((List.take_prefix i l).filter _).map _
end Go.Ex.M
namespace Go.Ex.M
def chL(m:MachT)(ns:List Tx)(ps:List Pl)(o:OpT):List (List Pl):=match o.uses with
 | []=>[]
 | [u]=>(tL m ns ps u).map fun p=>[p]
 | u::v::_=>(tL m ns ps u).flatMap fun p=>((tL m ns ps v).filter fun q=> !lapB p q).map fun q=>[p,q]
def fitsB(m:MachT)(ns:List Tx)(ps:List Pl)(o:OpT):Bool:=(chL m ns ps o).any (defB m ns ps o)
def spillOK(m:MachT)(ns:List Tx)(ps:List Pl):Prop:=(∀(i:Nat) o,m.ops[i]? = some o→fitsB m ns ps o=true)∧∀(a b:Nat) ca cb,b≤a→m.classes[a]? = some ca→m.classes[b]? = some cb→pairBB m ns ps ⟨ca.name,[]⟩ ⟨cb.name,[]⟩=true
def BodyE(m:MachT)(ns:List Tx)(ps:List Pl)(e:Int):Prop:=(e≠0∧ClsErr m ns ps e)∨(ClsErr m ns ps 0∧((e≠0∧OpsErr m ns ps e)∨(OpsErr m ns ps 0∧((e=10∧¬convOK m ns ps (vU ns ps))∨(convOK m ns ps (vU ns ps)∧((e=11∧¬spillOK m ns ps)∨(e=0∧spillOK m ns ps)))))))
def MakeE(m:MachT)(e:Int):Prop:=(named m.name=false∧e=5)∨(named m.name=true∧((geoP m.regs = .error e∧e≠0)∨∃s,geoP m.regs = .ok s∧((s.ns=[]∧e=1)∨(s.ns≠[]∧BodyE m s.ns s.ps e))))
theorem firstE_fun{α : Type}{l:List α}{E:Nat→α→Int→Prop}(hE:∀i x e e',E i x e→E i x e'→e=e'){e e':Int}(h:FirstE l E e)(h':FirstE l E e'):e=e':=by
 rcases h with⟨rfl,h⟩|⟨i,x,h1,h2,h3,h4⟩
 · rcases h' with⟨rfl,h'⟩|⟨i,x,h1,h2,h3,h4⟩
   · rfl
   · exact absurd (hE _ _ _ _ h4 (h i x h1)) h3
 · rcases h' with⟨rfl,h'⟩|⟨j,y,g1,g2,g3,g4⟩
   · exact absurd (hE _ _ _ _ h4 (h' i x h1)) h3
   · rcases Nat.lt_trichotomy i j with h9|rfl|h9
     · exact absurd (hE _ _ _ _ h4 (g2 i x h9 h1)) h3
     · rw[h1]at g1;cases g1;exact hE _ _ _ _ h4 g4
     · exact absurd (hE _ _ _ _ g4 (h2 j y h9 g1)) g3
theorem clsErr_fun{m:MachT}{ns:List Tx}{ps:List Pl}{e e':Int}(h:ClsErr m ns ps e)(h':ClsErr m ns ps e'):e=e':=by
 rcases h with⟨rfl,h⟩|⟨h,k⟩
 · rcases h' with⟨rfl,h'⟩|⟨h',k'⟩
   · rfl
   · omega
 · rcases h' with⟨rfl,h'⟩|⟨h',k'⟩
   · omega
   · refine firstE_fun (fun i x e e' a b=>?_) k k';rcases a with⟨rfl,a1,a2⟩|⟨rfl,a1⟩|⟨rfl,a1,a2⟩ <;> rcases b with⟨rfl,b1,b2⟩|⟨rfl,b1⟩|⟨rfl,b1,b2⟩ <;> first|rfl|(exfalso;exact b1 a1)|(exfalso;exact a1 b1)|(exfalso;exact b2 a2)|(exfalso;exact a2 b2)
theorem opsErr_fun{m:MachT}{ns:List Tx}{ps:List Pl}{e e':Int}(h:OpsErr m ns ps e)(h':OpsErr m ns ps e'):e=e':=by
 rcases h with⟨rfl,h⟩|⟨h,k⟩
 · rcases h' with⟨rfl,h'⟩|⟨h',k'⟩
   · rfl
   · omega
 · rcases h' with⟨rfl,h'⟩|⟨h',k'⟩
   · omega
   · refine firstE_fun (fun i x e e' a b=>?_) k k';rcases a with⟨rfl,a1,a2⟩|⟨rfl,a1⟩|⟨rfl,a1,a2⟩ <;> rcases b with⟨rfl,b1,b2⟩|⟨rfl,b1⟩|⟨rfl,b1,b2⟩ <;> first|rfl|(exfalso;exact b1 a1)|(exfalso;exact a1 b1)|(exfalso;exact b2 a2)|(exfalso;exact a2 b2)
theorem bodyE_fun{m:MachT}{ns:List Tx}{ps:List Pl}{e e':Int}(h:BodyE m ns ps e)(h':BodyE m ns ps e'):e=e':=by
 rcases h with⟨h1,h2⟩|⟨h1,h⟩
 · rcases h' with⟨g1,g2⟩|⟨g1,_⟩
   · exact clsErr_fun h2 g2
   · exact absurd (clsErr_fun h2 g1) h1
 rcases h' with⟨g1,g2⟩|⟨_,h'⟩
 · exact absurd (clsErr_fun g2 h1) g1
 rcases h with⟨h1,h2⟩|⟨h1,h⟩
 · rcases h' with⟨g1,g2⟩|⟨g1,_⟩
   · exact opsErr_fun h2 g2
   · exact absurd (opsErr_fun h2 g1) h1
 rcases h' with⟨g1,g2⟩|⟨_,h'⟩
 · exact absurd (opsErr_fun g2 h1) g1
 rcases h with⟨rfl,h⟩|⟨h1,h⟩
 · rcases h' with⟨rfl,_⟩|⟨g1,_⟩
   · rfl
   · exact absurd g1 h
 rcases h' with⟨_,g⟩|⟨_,h'⟩
 · exact absurd h1 g
 rcases h with⟨rfl,h⟩|⟨rfl,h⟩ <;> rcases h' with⟨rfl,g⟩|⟨rfl,g⟩
 · rfl
 · exact absurd g h
 · exact absurd h g
 · rfl
theorem makeE_fun{m:MachT}{e e':Int}(h:MakeE m e)(h':MakeE m e'):e=e':=by
 rcases h with⟨h1,rfl⟩|⟨h1,h⟩
 · rcases h' with⟨g1,rfl⟩|⟨g1,_⟩
   · rfl
   · rw[h1]at g1;cases g1
 rcases h' with⟨g1,rfl⟩|⟨_,h'⟩
 · rw[h1]at g1;cases g1
 rcases h with⟨h,_⟩|⟨s,h2,h⟩
 · rcases h' with⟨g,_⟩|⟨s,g2,_⟩
   · rw[h]at g;exact Except.error.inj g
   · rw[h]at g2;cases g2
 rcases h' with⟨g,_⟩|⟨s',g2,h'⟩
 · rw[h2]at g;cases g
 rw[h2]at g2;cases Except.ok.inj g2
 rcases h with⟨h3,rfl⟩|⟨h3,h⟩ <;> rcases h' with⟨g3,rfl⟩|⟨g3,h'⟩
 · rfl
 · exact absurd h3 g3
 · exact absurd g3 h3
 · exact bodyE_fun h h'
structure MOK (m:MachT) (ns:List Tx) (ps:List Pl):Prop where
 geo:geoP m.regs = .ok ⟨ns,ps⟩
 ne:ns≠[]
 cls:ClsErr m ns ps 0
 ops:OpsErr m ns ps 0
 conv:convOK m ns ps (vU ns ps)
 spill:spillOK m ns ps
 nm:named m.name=true
theorem makeE_ok{m:MachT}(h:MakeE m 0):∃ns ps,MOK m ns ps:=by
 rcases h with⟨_,h⟩|⟨h1,⟨_,h⟩|⟨s,h2,⟨_,h⟩|⟨h3,h⟩⟩⟩
 · cases h
 · exact absurd rfl h
 · cases h
 · rcases h with⟨h,_⟩|⟨h4,⟨h,_⟩|⟨h5,⟨h,_⟩|⟨h6,⟨h,_⟩|⟨_,h⟩⟩⟩⟩
   · exact absurd rfl h
   · exact absurd rfl h
   · cases h
   · cases h
   · exact⟨s.ns,s.ps,h2,h3,h4,h5,h6,h,h1⟩
theorem gOne_err{d:Int}{base:Pl}{sibs:List Pl}{s:GSt}{r:RegT}{e:Int}(h:tK d base sibs s r = .error e):e≠0:=by
 unfold tK at h;split at h
 · injection h with h;subst h;decide
 split at h
 · injection h with h;subst h;decide
 split at h
 · injection h with h;subst h;decide
 split at h
 · injection h with h;subst h;decide
 split at h
 · injection h with h;subst h;decide
 · cases h
theorem gDown_err:∀(k:Nat) (d:Int) (base:Pl) (l:List RegT) (s:GSt) (e:Int),xW k d base l s = .error e→e≠0:=by
 intro k
 induction k with
 | zero=>
  intro d base l s e h;unfold xW at h;cases h
 | succ k ih =>
  intro d base l s e h
  have go:∀(l:List RegT) (sibs:List Pl) (s:GSt),l.foldl (sH (xW k (d+1)) d base) (.ok (sibs,s)) = .error e→e≠0:=by
   intro l
   induction l with
   | nil=>intro sibs s h;cases h
   | cons r l ihl =>
    intro sibs s h;rw [List.foldl_cons]at h
    cases hg:tK d base sibs s r with
    | error x=>rw [gStep_e1 hg,wG]at h;injection h with h;subst h;exact gOne_err hg
    | ok p =>
     cases hr:xW k (d+1) p r.subs ⟨s.ns++[r.name],s.ps++[p]⟩ with
     | error x=>rw [gStep_e2 hg hr,wG]at h;injection h with h;subst h;exact ih _ _ _ _ _ hr
     | ok s2=>
      rw[gStep_ok hg hr]at h;exact ihl _ _ h
  unfold xW at h
  cases hf:l.foldl (sH (xW k (d+1)) d base) (.ok ([],s)) with
  | error x=>rw [hf]at h;injection h with h;subst h;exact go l [] s hf
  | ok x=>rw [hf]at h;cases h
theorem geo_err{l:List RegT}{e:Int}(h:geoP l = .error e):e≠0:=gDown_err 7 1 ⟨0,0,0⟩ l ⟨[],[]⟩ e h
end Go.Ex.M
namespace Go.Ex.M
def listN(ns l:List Tx):List Int:=(l.filter fun x=>decide (x∈ns)).map (pos ns)
theorem listN_all{ns l:List Tx}(h:∀x∈l,x∈ns):listN ns l=l.map (pos ns):=by
 unfold listN;rw [List.filter_eq_self.2 fun x hx=>decide_eq_true (h x hx)]
def mayI(m:MachT)(ns:List Tx)(o:OperT):List Int:=match wT m o.cls with
 | none=>[]
 | some c=>if o.fix=[] then c.regs.map (pos ns) else listN ns [o.fix]
def lapN(ps:List Pl)(a b:Int):Bool:=decide (0≤a) && decide (0≤b) && match ps[a.toNat]?,ps[b.toNat]? with
 | some p,some q=>lapB p q
 | _,_=>false
def clrN(ns:List Tx)(ps:List Pl)(o:OpT)(r:Int):Bool:=(listN ns o.clob).all fun c=> !lapN ps c r
end Go.Ex.M
namespace Go.Ex
theorem Own.dnl{lo lo' n:Nat}{h:zB}{v:Value}{e sz len:Nat}{vs:List Value}(o:Own lo n h v e sz len vs)(hl:lo'≤lo):Own lo' n h v e sz len vs:=by
 rcases o with o|⟨b,q1,q2⟩
 · exact .inl o
 · exact .inr ⟨b,Nat.le_trans hl q1,q2⟩
theorem own_ne{lo lo' n n':Nat}{h:zB}{v v':Value}{e sz len e' sz' len':Nat}{vs vs':List Value}(o:Own lo n h v e sz len vs)(o':Own lo' n' h v' e' sz' len' vs')(hne:e≠e'∨sz≠sz'):∀b,zO v=some b→b∉(zO v').toList:=fun b hb hx=>by
 rcases o with⟨rfl,_⟩|⟨b1,_,_,rfl,q3,_⟩
 · cases hb
 rcases o' with⟨rfl,_⟩|⟨b2,_,_,rfl,p3,_⟩
 · cases hx
 injection hb with hb
 have hb:b1=b:=hb;have hx:b∈(some b2).toList:=hx;simp at hx;subst hb hx;rw [q3]at p3;injection p3 with p3
 injection p3 with _ p3
 injection p3 with p3 _
 obtain⟨a,b⟩:=zc_inj p3;omega
theorem zZ{lo n b z:Nat}{h:zB}{v:Value}{e sz len:Nat}{vs ws:List Value}(c:Cel h b z 0 ws)(o:Own lo n h v e sz len vs):b∉(zO v).toList:=fun hx=>by
 rcases o with⟨rfl,_⟩|⟨b2,_,_,rfl,p3,_⟩
 · cases hx
 have hx:b∈(some b2).toList:=hx;simp at hx;subst hx;rw [c.1]at p3;exact absurd (kd_of p3) (by decide)
theorem Cel.app{lo n n' b z:Nat}{h h':zB}{v:Value}{e sz len:Nat}{vs ws:List Value}(c:Cel h b z 0 ws)(o:Own lo n h v e sz len vs)(t:Tch (zO v).toList h n h' n')(hb:b<n):Cel h' b z 0 ws:=c.tch t hb (zZ c o)
def Dj(v v':Value):Prop:=∀b,zO v=some b→zO v'≠some b
theorem Dj.comm{v v':Value}(d:Dj v v'):Dj v' v:=fun b hb e=>d b e hb
theorem Dj.no{v v':Value}(d:Dj v v'):∀b,zO v=some b→b∉(zO v').toList:=fun b hb hx=>by
 cases e:zO v' with
 | none=>rw [e]at hx;cases hx
 | some c=>rw [e]at hx;simp at hx;subst hx;exact d _ hb e
theorem own_dj{lo lo' n n':Nat}{h:zB}{v v':Value}{e sz len e' sz' len':Nat}{vs vs':List Value}(o:Own lo n h v e sz len vs)(o':Own lo' n' h v' e' sz' len' vs')(hne:e≠e'∨sz≠sz'):Dj v v':=fun b hb e2=>own_ne o o' hne b hb (by rw[e2];simp)
theorem appN{P:Program}{sT xT e sz:Nat}[A:ApC P sT xT e sz]{cx:Cx}{d:List Deferred}{u:Option zH}{h:zB}{n lo len m:Nat}{v x:Value}{vs new:List Value}{K:W→Value→Prop}(ho:Own lo n h v e sz len vs)(hr:Row n h x e sz m new)(hm:0<m)(h1:One new)(hlim:len+m<1000000)
(k:∀v' h' n',Own n n' h' v' e sz (len+m) (vs++new)→Tch (zO v).toList h n h' n'→K ⟨d,u,h',n'⟩ v'):BuB P cx .append [sT,xT] [v,x] d u h n K:=by
 have:=append_new (K:=fun h' n' v'=>yZ (K ⟨d,u,h',n'⟩ v')) A.ok ho hm hr hr.lens h1.all hlim fun v' h' n' o a b=>isSo_iff.2 (k v' h' n' o ⟨a,fun b' hb hS=>b b' hb fun e=>hS (by rw[e];simp)⟩);exact this
theorem Dj.nil(v:Value):Dj (.slice none 0 0) v:=fun b hb=>by cases hb
theorem own_new_dj{lo n n':Nat}{h h':zB}{v v':Value}{e sz len e' sz' len':Nat}{vs vs':List Value}(o:Own lo n h v e sz len vs)(o':Own n n' h' v' e' sz' len' vs'):Dj v v':=fun b hb e2=>by
 have:=(o.blk hb).2;have:=(o'.blk e2).1;omega
theorem own_lt{lo n b0:Nat}{h:zB}{v:Value}{e sz len:Nat}{vs:List Value}(o:Own lo n h v e sz len vs)(hb:b0<lo):∀b,zO v=some b→b∉[b0]:=fun b e=>by
 have:=(o.blk e).1;simp;omega
namespace M
theorem RowA.up{lo lo':Nat}{h:zB}{v:Value}{sz len:Nat}{vs:List Value}(r:RowA lo h v sz len vs)(hl:lo≤lo'):RowA lo' h v sz len vs:=fun e=>(r e).up hl
theorem RowT.up{e lo lo':Nat}{h:zB}{v:Value}{sz len:Nat}{vs:List Value}(r:RowT e lo h v sz len vs)(hl:lo≤lo'):RowT e lo' h v sz len vs:=⟨r.lt,r.r.up hl⟩
theorem RegsM.up{lo lo':Nat}{h:zB}(hl:lo≤lo'):∀{sv:Value} {l:List RegT},RegsM lo h sv l→RegsM lo' h sv l:=by
  intro sv l r;unfold RegsM at r ⊢;exact⟨r.1.up hl,fun x hx=>RegsM.up hl (r.2 x hx)⟩
 termination_by sv l=>SizeOf.sizeOf l
 decreasing_by
  have h1:=List.sizeOf_lt_of_mem hx;cases x
  simp only[RegT.subs];simp at h1;omega
theorem MachM.up{lo lo':Nat}{h:zB}{m:MachT}(hl:lo≤lo')(r:MachM lo h m):MachM lo' h m:=
 ⟨RegsM.up hl r.regs,r.cls.up hl,fun c hc=>(r.clsr c hc).up hl,r.ops.up hl,fun c hc=>(r.opsu c hc).up hl,fun c hc=>(r.opsc c hc).up hl,r.args.up hl,r.saved.up hl,r.slots⟩
theorem gDown_ge:∀(k:Nat) (d:Int) (base:Pl) (l:List RegT) (s s':GSt),xW k d base l s = .ok s'→s.ns.length≤s'.ns.length:=by
 intro k
 induction k with
 | zero=>
  intro d base l s s' h;unfold xW at h;injection h with h
  exact h ▸ Nat.le_refl _
 | succ k ih =>
  intro d base l s s' h
  have go:∀(l:List RegT) (sibs:List Pl) (s:GSt) (x:List Pl×GSt),l.foldl (sH (xW k (d+1)) d base) (.ok (sibs,s)) = .ok x→s.ns.length≤x.2.ns.length:=by
   intro l
   induction l with
   | nil=>
    intro sibs s x h;injection h with h
    exact h ▸ Nat.le_refl _
   | cons r l ihl =>
    intro sibs s x h;rw [List.foldl_cons]at h
    cases hg:tK d base sibs s r with
    | error e=>rw [gStep_e1 hg,wG]at h;cases h
    | ok p =>
     cases hr:xW k (d+1) p r.subs ⟨s.ns++[r.name],s.ps++[p]⟩ with
     | error e=>rw [gStep_e2 hg hr,wG]at h;cases h
     | ok s2=>
      rw[gStep_ok hg hr]at h;have h1:=ih _ _ _ _ _ hr;have h2:=ihl _ _ _ h;have h3:(s.ns++[r.name]).length≤s2.ns.length:=h1;rw [List.length_append]at h3;omega
  unfold xW at h
  cases hf:l.foldl (sH (xW k (d+1)) d base) (.ok ([],s)) with
  | error e=>rw [hf]at h;cases h
  | ok x=>
   rw[hf]at h;injection h with h
   exact h ▸ go l [] s x hf
section
variable {d:Int} {base:Pl} {sibs:List Pl} {s:GSt} {r:RegT}
theorem gOne4(h:6<d):tK d base sibs s r = .error 4:=if_pos h
theorem gOne2(h1:¬6<d)(h2:200≤s.ns.length):tK d base sibs s r = .error 2:=by unfold tK;rw [if_neg h1,if_pos h2]
theorem gOne5(h1:¬6<d)(h2:¬200≤s.ns.length)(h3:named r.name=false∨r.name∈s.ns):tK d base sibs s r = .error 5:=by unfold tK;rw [if_neg h1,if_neg h2,if_pos h3]
theorem gOne6(h1:¬6<d)(h2:¬200≤s.ns.length)(h3:named r.name=true)(h4:r.name∉s.ns)(h5:r.w<1∨64<r.w∨r.a<0∨(d=1∧r.a≠0)∨(d≠1∧base.width - r.w<r.a)):tK d base sibs s r = .error 6:=by
 unfold tK;rw [if_neg h1,if_neg h2,if_neg (by rw[h3];simp [h4]),if_pos h5]
theorem gOne7(h1:¬6<d)(h2:¬200≤s.ns.length)(h3:named r.name=true)(h4:r.name∉s.ns)(h5:¬(r.w<1∨64<r.w∨r.a<0∨(d=1∧r.a≠0)∨(d≠1∧base.width - r.w<r.a)))(h6:sibs.any (lapB (gPl d base sibs r))=true):tK d base sibs s r = .error 7:=by
 unfold tK;rw [if_neg h1,if_neg h2,if_neg (by rw[h3];simp [h4]),if_neg h5,if_pos h6]
theorem gOneK(h1:¬6<d)(h2:¬200≤s.ns.length)(h3:named r.name=true)(h4:r.name∉s.ns)(h5:¬(r.w<1∨64<r.w∨r.a<0∨(d=1∧r.a≠0)∨(d≠1∧base.width - r.w<r.a)))(h6:sibs.any (lapB (gPl d base sibs r))=false):tK d base sibs s r = .ok (gPl d base sibs r):=by
 unfold tK;rw [if_neg h1,if_neg h2,if_neg (by rw[h3];simp [h4]),if_neg h5,if_neg (by rw[h6];decide)]
theorem any_no{α : Type}{l:List α}{f: α→Bool}(h:∀(i:Nat) x,l[i]? = some x→f x=false):l.any f=false:=by
 cases e:l.any f with
 | false=>rfl
 | true=>
  obtain⟨x,hx,e2⟩:=List.any_eq_true.1 e;obtain⟨i,hi⟩:=List.mem_iff_getElem?.1 hx;rw [h i x hi]at e2;cases e2
end
end M
end Go.Ex
namespace Go.Ex
def Kep(lo n:Nat)(h:zB)(v:Value)(e sz len:Nat)(vs:List Value):Prop:=
 (v = .slice none 0 0∧len=0∧vs=[])∨∃b cap m,lo≤b∧b<n∧v = .slice (some ⟨b,0,none⟩) len cap∧xI (zF h b)=some (m,zc e sz,1)∧vs.length=len*sz∧vs.length≤m∧(∀i,i<vs.length→zC h b i=vs[i]?)∧((cap<inf∧len≤cap)∨cap=inf)
theorem Kep.row{lo n:Nat}{h:zB}{v:Value}{e sz len:Nat}{vs:List Value}(o:Kep lo n h v e sz len vs)(hs:1≤sz):Row n h v e sz len vs:=by
 rcases o with o|⟨b,cap,m,q1,q2,rfl,q3,q4,q5,q6,q7⟩
 · exact .inl o
 · exact .inr ⟨b,0,cap,m,zc e sz,1,q2,rfl,q4,q3,by omega,fun j x hj=>by rw[Nat.zero_add,q6 j (List.getElem?_eq_some_iff.1 hj).1];exact hj,q7.elim .inl fun e=>.inr ⟨e,rfl,rfl,hs⟩⟩
theorem Kep.tch{S:List Nat}{lo n n':Nat}{h h':zB}{v:Value}{e sz len:Nat}{vs:List Value}(o:Kep lo n h v e sz len vs)(t:Tch S h n h' n')(hS:∀b,zO v=some b→b∉S):Kep lo n' h' v e sz len vs:=by
 rcases o with o|⟨b,cap,m,q1,q2,rfl,q3,q4,q5,q6,q7⟩
 · exact .inl o
 · have ek:=t.2 b q2 (hS b rfl);exact .inr ⟨b,cap,m,q1,Nat.lt_of_lt_of_le q2 t.1,rfl,by rw[ek];exact q3,q4,q5,fun i hi=>by unfold zC;rw [ek];exact q6 i hi,q7⟩
theorem Kep.one{lo n:Nat}{h:zB}{v:Value}{e sz len:Nat}{vs:List Value}(o:Kep lo n h v e sz len vs):v.oneCell'=true:=by
 rcases o with⟨rfl,_⟩|⟨b,cap,m,q1,q2,rfl,_⟩ <;> rfl
theorem Kep.blk{lo n:Nat}{h:zB}{v:Value}{e sz len:Nat}{vs:List Value}(o:Kep lo n h v e sz len vs){b:Nat}(hb:zO v=some b):lo≤b∧b<n:=by
 rcases o with⟨rfl,_⟩|⟨b',cap,m,q1,q2,rfl,_⟩
 · cases hb
 · injection hb with hb;subst hb;exact⟨q1,q2⟩
theorem Kep.dnl{lo lo' n:Nat}{h:zB}{v:Value}{e sz len:Nat}{vs:List Value}(o:Kep lo n h v e sz len vs)(hl:lo'≤lo):Kep lo' n h v e sz len vs:=by
 rcases o with o|⟨b,cap,m,q1,q2⟩
 · exact .inl o
 · exact .inr ⟨b,cap,m,Nat.le_trans hl q1,q2⟩
theorem own_head{lo n:Nat}{h:zB}{v:Value}{e sz len:Nat}{vs:List Value}(o:Own lo n h v e sz len vs)(h0:0<len):∃b,v = .slice (some ⟨b,0,none⟩) len inf∧lo≤b∧b<n:=by
 rcases o with⟨_,rfl,_⟩|⟨b,q1,q2,rfl,_⟩
 · omega
 · exact⟨b,rfl,q1,q2⟩
theorem own_put{lo n i b cap:Nat}{h:zB}{v x:Value}{e sz len:Nat}{vs:List Value}(o:Own lo n h v e sz len vs)(hv:v = .slice (some ⟨b,0,none⟩) len cap)(hi:i<vs.length):Own lo n (hst h b i [x]) v e sz len (vs.set i x):=by
 rcases o with⟨rfl,_⟩|⟨b2,q1,q2,rfl,q3,q4,q5,q6⟩
 · cases hv
 injection hv with hv _ _
 injection hv with hv
 injection hv with hv _
 subst hv;refine .inr ⟨b2,q1,q2,rfl,by rw[xB,if_pos rfl,sE,List.length_set];exact q3,by rw[List.length_set];exact q4,q5,fun j=>?_⟩;unfold zC;rw [xB,if_pos rfl,cellOf_stC _ _ _ q3 (by simp;omega) (by decide)];by_cases e:i=j
 · subst e;rw [if_pos (by simp),Nat.sub_self,List.getElem?_set_self hi];rfl
 · rw[if_neg (by simp;omega),List.getElem?_set_ne e];exact q6 j
theorem stp_own{lo n i b cap:Nat}{h:zB}{v x:Value}{e sz len:Nat}{vs:List Value}(o:Own lo n h v e sz len vs)(hv:v = .slice (some ⟨b,0,none⟩) len cap)(hi:i<vs.length)(hx:x.oneCell'=true):StP h (ptr b i) [x] (hst h b i [x]):=by
 rcases o with⟨rfl,_⟩|⟨b2,q1,q2,rfl,q3,q4,q5,q6⟩
 · cases hv
 injection hv with hv _ _
 injection hv with hv
 injection hv with hv _
 subst hv;exact⟨b2,i,vs.length,zc e sz,1,rfl,q3,⟨by decide,by decide⟩,by simp;omega,fun y hy=>by simp at hy;subst hy;exact hx,rfl⟩
namespace M
def vE(ws:List Nat)(k:Nat):Bool:=((ws[k / 64]?).getD 0).testBit (k % 64)
structure SetW (ws:List Nat):Prop where
 lt:∀w∈ws,w<18446744073709551616
 tr:∀w,ws.getLast? = some w→w≠0
 le:ws.length≤1024
def uR(ws:List Nat):Nat→Nat
 | 0=>0
 | k+1=>if ws[k]? = some 0 then uR ws k else k+1
theorem trimN_le(ws:List Nat):∀k,uR ws k≤k:=by
 intro k
 induction k with
 | zero=>exact Nat.le_refl _
 | succ k ih=>
  unfold uR;split
  · omega
  · exact Nat.le_refl _
theorem trimN_zero(ws:List Nat):∀k j,uR ws k≤j→j<k→ws[j]? = some 0:=by
 intro k
 induction k with
 | zero=>intro j h1 h2;omega
 | succ k ih=>
  intro j h1 h2;unfold uR at h1;split at h1
  · rename_i h0;rcases Nat.lt_succ_iff_lt_or_eq.1 h2 with h9|rfl
    · exact ih j h1 h9
    · exact h0
  · omega
theorem trimN_last(ws:List Nat):∀k,0<uR ws k→ws[uR ws k - 1]?≠some 0:=by
 intro k
 induction k with
 | zero=>intro h;exact absurd h (Nat.lt_irrefl 0)
 | succ k ih=>
  unfold uR;split
  · exact ih
  · rename_i h0;intro _;exact h0
theorem trim_has(ws:List Nat)(k:Nat):vE (ws.take (uR ws ws.length)) k=vE ws k:=by
 unfold vE;rw [List.getElem?_take];split
 · rfl
 · rename_i h;rcases Nat.lt_or_ge (k / 64) ws.length with h9|h9
   · rw[trimN_zero ws ws.length (k / 64) (by omega) h9];simp
   · rw[List.getElem?_eq_none h9]
theorem trim_set{ws:List Nat}(h:∀w∈ws,w<18446744073709551616)(hl:ws.length≤1024):SetW (ws.take (uR ws ws.length)):=by
 have hle:=trimN_le ws ws.length;refine⟨fun w hw=>h w (List.mem_of_mem_take hw),fun w hw=>?_,by rw[List.length_take];omega⟩
 rintro rfl
 rw[List.getLast?_eq_getElem?,List.length_take,Nat.min_eq_left hle]at hw;have h1:=(List.getElem?_eq_some_iff.1 hw).1;rw [List.length_take]at h1;rw [List.getElem?_take_of_lt (by omega)]at hw;exact trimN_last ws ws.length (by omega) hw
theorem has_put{ws:List Nat}{a k:Nat}(ha:a / 64<ws.length):vE (ws.set (a / 64) (((ws[a / 64]?).getD 0) ||| 2 ^ (a % 64))) k=(vE ws k || decide (k=a)):=by
 unfold vE;rw [List.getElem?_set];split
 · rename_i e;rw [← e];show(((ws[a / 64]?).getD 0) ||| 2 ^ (a % 64)).testBit (k % 64)=_;rw [Nat.testBit_or,Nat.testBit_two_pow];congr 1
   refine decide_eq_decide.2 ⟨fun h=>?_,fun h=>by rw[h]⟩;have:=Nat.div_add_mod a 64;have:=Nat.div_add_mod k 64;omega
 · rename_i e;have:¬k=a:=fun h=>e (by rw[h]);rw [decide_eq_false this,Bool.or_false]
theorem has_grow{ws:List Nat}{k:Nat}:vE (ws++[0]) k=vE ws k:=by
 unfold vE;rcases Nat.lt_trichotomy (k / 64) ws.length with h|h|h
 · rw[List.getElem?_append_left h]
 · rw[List.getElem?_append_right (by omega),h,Nat.sub_self,List.getElem?_eq_none (Nat.le_refl _)];simp
 · rw[List.getElem?_eq_none (by simp;omega),List.getElem?_eq_none (by omega)]
theorem or_lt{a m:Nat}(ha:a<18446744073709551616)(hm:m<64):a ||| 2 ^ m<18446744073709551616:=by
 have h1:a<2 ^ 64:=ha;have h2:2 ^ m<2 ^ 64:=Nat.pow_lt_pow_right (by decide) hm;exact Nat.or_lt_two_pow h1 h2
def subW(a b:List Nat):List Nat:=(List.range (max a.length b.length)).map fun i=>(a[i]?).getD 0 ^^^ ((a[i]?).getD 0 &&& (b[i]?).getD 0)
theorem sub_has(a b:List Nat)(k:Nat):vE (subW a b) k=(vE a k && !vE b k):=by
 unfold vE subW;rw [List.getElem?_map];rcases Nat.lt_or_ge (k / 64) (max a.length b.length) with h|h
 · rw[List.getElem?_range h];show((a[k / 64]?).getD 0 ^^^ ((a[k / 64]?).getD 0 &&& (b[k / 64]?).getD 0)).testBit (k % 64)=_;rw [Nat.testBit_xor,Nat.testBit_and];cases ((a[k / 64]?).getD 0).testBit (k % 64) <;> cases ((b[k / 64]?).getD 0).testBit (k % 64) <;> rfl
 · rw[List.getElem?_eq_none (by simpa using h),List.getElem?_eq_none (l:=a) (by omega)];simp
theorem getD_lt{a:List Nat}(ha:∀w∈a,w<18446744073709551616)(i:Nat):(a[i]?).getD 0<18446744073709551616:=by
 cases e:a[i]? with
 | none=>exact(by decide:0<18446744073709551616)
 | some w=>exact ha w (List.mem_of_getElem? e)
theorem andn_lt{x y:Nat}(hx:x<18446744073709551616):x ^^^ (x &&& y)<18446744073709551616:=by
 have h1:x<2 ^ 64:=hx;exact Nat.xor_lt_two_pow h1 (Nat.lt_of_le_of_lt Nat.and_le_left h1)
theorem bit_has{w m:Nat}:(((w >>> m) &&& 1:Nat):Int)≠0↔w.testBit m=true:=by
 have e:w.testBit m=((w >>> m &&& 1) != 0):=by unfold Nat.testBit;rw [Nat.and_comm]
 rw[e];generalize (w >>> m &&& 1)=x
 rw[bne_iff_ne];omega
end M
end Go.Ex
namespace Go.Ex.M
section
variable {m:MachT} {ns:List Tx} {ps:List Pl}
structure CsOK (m:MachT) (ns:List Tx):Prop where
 ix:∀(i:Nat) c,m.classes[i]? = some c→wO m c.name=(i:Nat)
 ne:∀(i:Nat) c,m.classes[i]? = some c→1≤c.regs.length
 mem:∀(i:Nat) c,m.classes[i]? = some c→∀r∈c.regs,r∈ns
 nd:∀(i:Nat) c,m.classes[i]? = some c→c.regs.Nodup
theorem nodup_pos{l:List Tx}(h:∀(j:Nat) r,l[j]? = some r→pos l r=(j:Nat)):l.Nodup:=by
 refine List.pairwise_iff_getElem.2 fun i j hi hj hij e=>?_;have a:=h i _ (List.getElem?_eq_getElem hi);have b:=h j _ (List.getElem?_eq_getElem hj);rw [← e]at b;omega
theorem CsOK.of(h:ClsErr m ns ps 0):CsOK m ns:=by
 obtain⟨_,h⟩:=h.ok;refine⟨fun i c hc=>(h i c hc).1.2.1,fun i c hc=>(h i c hc).2.1,fun i c hc r hr=>?_,fun i c hc=>nodup_pos fun j r hj=>((h i c hc).2.2.2 j r hj).2.1⟩;obtain⟨j,hj⟩:=List.mem_iff_getElem?.1 hr;exact((h i c hc).2.2.2 j r hj).1
theorem cls_of(hc:CsOK m ns){i:Nat}{c:ClassT}(h:m.classes[i]? = some c):wT m c.name=some c:=by
 have h1:=hc.ix i c h;rcases cls_find (m:=m) (x:=c.name) with⟨_,h3⟩|⟨j,c',h2,h3,h4,h5,h6⟩
 · rw[h1]at h3;omega
 · have:j=i:=by rw[h1]at h4;omega
   subst this;rw [h]at h3;cases h3;exact h2
end
end Go.Ex.M
namespace Go.Ex.M
def Sml:Nat→List RegT→Prop
 | 0,l=>l=[]
 | k+1,l=>l.length≤200∧∀r∈l,Sml k r.subs
theorem sml_of:∀(k:Nat) (d:Int) (base:Pl) (l:List RegT) (s s':GSt),d+k=7→xW (k+1) d base l s = .ok s'→s'.ns.length≤200→Sml k l:=by
 intro k
 induction k with
 | zero =>
  intro d base l s s' hd h _
  cases l with
  | nil=>rfl
  | cons r l=>
   unfold xW at h;rw [List.foldl_cons,gStep_e1 (gOne4 (by omega)),wG]at h;cases h
 | succ k ih =>
  intro d base l s s' hd h hle
  have go:∀(l:List RegT) (sibs:List Pl) (s:GSt) (x:List Pl×GSt),l.foldl (sH (xW (k+1) (d+1)) d base) (.ok (sibs,s)) = .ok x→s.ns.length+l.length≤x.2.ns.length∧∀r∈l,∃p s1 s2,xW (k+1) (d+1) p r.subs s1 = .ok s2∧s2.ns.length≤x.2.ns.length:=by
   intro l
   induction l with
   | nil=>
    intro sibs s x h;injection h with h
    exact h ▸ ⟨Nat.le_refl _,fun r hr=>by cases hr⟩
   | cons r l ihl =>
    intro sibs s x h;rw [List.foldl_cons]at h
    cases hg:tK d base sibs s r with
    | error e=>rw [gStep_e1 hg,wG]at h;cases h
    | ok p =>
     cases hr:xW (k+1) (d+1) p r.subs ⟨s.ns++[r.name],s.ps++[p]⟩ with
     | error e=>rw [gStep_e2 hg hr,wG]at h;cases h
     | ok s2=>
      rw[gStep_ok hg hr]at h;have h1:(s.ns++[r.name]).length≤s2.ns.length:=gDown_ge _ _ _ _ _ _ hr;obtain⟨h2,h3⟩:=ihl _ _ _ h;rw [List.length_append]at h1;simp only[List.length_cons,List.length_nil]at h1 ⊢;refine⟨by omega,fun r' hr'=>?_⟩;rcases List.mem_cons.1 hr' with rfl|hr'
      · exact⟨p,_,s2,hr,by omega⟩
      · exact h3 r' hr'
  unfold xW at h
  cases hf:l.foldl (sH (xW (k+1) (d+1)) d base) (.ok ([],s)) with
  | error e=>rw [hf]at h;cases h
  | ok x=>
   rw[hf]at h;injection h with h
   subst h;obtain⟨h1,h2⟩:=go l [] s x hf;refine⟨by omega,fun r hr=>?_⟩;obtain⟨p,s1,s2,h3,h4⟩:=h2 r hr;exact ih (d+1) p r.subs s1 s2 (by omega) h3 (by omega)
theorem geo_sml{l:List RegT}{s:GSt}(h:geoP l = .ok s):Sml 6 l:=sml_of 6 1 _ _ _ _ rfl h (geo_ok h).le
theorem flat_set{α : Type}{f: α→List Value}{sz:Nat}(hf:∀x,(f x).length=sz){v:Value}{x y: α}{j:Nat}(hj:j<sz)(hy:f y=(f x).set j v):∀{l:List α} {i:Nat},l[i]? = some x→(l.flatMap f).set (i*sz+j) v=(l.set i y).flatMap f:=by
 intro l
 induction l with
 | nil=>intro i h;cases h
 | cons a l ih =>
  intro i h
  cases i with
  | zero=>
   cases h
   rw[List.flatMap_cons,List.set_cons_zero,List.flatMap_cons,List.set_append_left _ _ (by rw[hf];omega),hy,Nat.zero_mul,Nat.zero_add]
  | succ i=>
   have h:l[i]? = some x:=h;rw [List.flatMap_cons,List.set_cons_succ,List.flatMap_cons,List.set_append_right _ _ (by rw[hf,Nat.succ_mul];omega),hf,← ih h];congr 2
   rw[Nat.succ_mul];omega
end Go.Ex.M
namespace Go.Proofs.YtmccnilgnlaffaaGreatDoor
open Go Go.Ex Go.Ex.M
set_option maxRecDepth 100000
set_option maxHeartbeats 8000000
abbrev sK:Nat:=9
abbrev ePl:Nat:=135
structure Ck (lo:Nat) (h:zB) (bc z:Nat) (m:MachT) (nsv psv:Value) (ns:List Tx) (ps:List Pl):Prop where
 mm:MachM lo h m
 cel:Cel h bc z 0 (vT m++[nsv,psv])
 rn:Row lo h nsv sK 1 ns.length (ns.map str)
 rp:Row lo h psv ePl 3 ps.length (ps.flatMap plC)
 hb:bc<lo
 hl:ps.length=ns.length
 hn:ns.length≤200
 ok:∀p∈ps,PlOK p
theorem cls1_pur(x:ClassT)(ho:x.rsv.oneCell'=true)(h:zB)(n:Nat):Pur P 8 174 [.agg ⟨clsC x⟩] h n (str x.name):=by
 refine Com.pure (ent fun u=>?_) (.inl rfl);repeat' first|refine wk ?_|refine cX (fun _=>?_) fun _=>?_|fail
 exact finT rfl zA
theorem op1_pur(x:OpT)(ho:x.usv.oneCell'=true∧x.csv.oneCell'=true)(h:zB)(n:Nat):Pur P 8 177 [.agg ⟨opC x⟩] h n (str x.name):=by
 obtain⟨ho1,ho2⟩:=ho;refine Com.pure (ent fun u=>?_) (.inl rfl);repeat' first|refine wk ?_|refine cX (fun _=>?_) fun _=>?_|fail
 exact finT rfl zA
theorem index_op1{b1 b2:Nat}{h:zB}{n:Nat}{x:OpT}{s:Tx}(ho:x.usv.oneCell'=true∧x.csv.oneCell'=true)(c1:zC h b1 0=some (.func (.func 177) ⟨[]⟩ ⟨[]⟩))(c2:zC h b2 0=some (str s))(hb1:b1<n)(hb2:b2<n):Pur P 8 197 [.agg ⟨opC x⟩,ptr b1 0,ptr b2 0] h n (.bool (decide (x.name=s))):=by
 refine Com.pure (ent fun u=>?_) (.inl rfl);have ho':=ho;try obtain⟨ho1,ho2⟩:=ho
 repeat' first|refine wk ?_|refine cX (fun _=>?_) fun _=>?_|refine wM (op1_pur x ho' _ _) ?_|fail
 exact finT rfl zA
theorem index_op{lo e n:Nat}{h:zB}{sv:Value}{l:List OpT}{s:Tx}(r:Row lo h sv e 6 l.length (l.flatMap opC))(hl:l.length<inf)(hlo:lo≤n)(hone:∀x∈l,x.usv.oneCell'=true∧x.csv.oneCell'=true):Pur P 8 176 [sv,str s,.func (.func 177) ⟨[]⟩ ⟨[]⟩] h n (I64 (posF (fun x=>decide (x.name=s)) l)):=by
 refine Com.pure (ent fun u=>?_) (.inl rfl);repeat' first|refine wk ?_|refine cX (fun _=>?_) fun _=>?_|fail
 refine wM (idxf_op (p:=fun x=>decide (x.name=s)) ((r.tch (S:=[]) (h':=_) (n':=n+1+1) zA hlo fun _ _ hx=>by cases hx)) hl fun x hx=>index_op1 (hone x hx) zJ zJ (by omega) (by omega)) ?_;repeat' first|refine wk ?_|refine cX (fun _=>?_) fun _=>?_|fail
 exact finT rfl zA
theorem index_cls1{b1 b2:Nat}{h:zB}{n:Nat}{x:ClassT}{s:Tx}(ho:x.rsv.oneCell'=true)(c1:zC h b1 0=some (.func (.func 174) ⟨[]⟩ ⟨[]⟩))(c2:zC h b2 0=some (str s))(hb1:b1<n)(hb2:b2<n):Pur P 8 195 [.agg ⟨clsC x⟩,ptr b1 0,ptr b2 0] h n (.bool (decide (x.name=s))):=by
 refine Com.pure (ent fun u=>?_) (.inl rfl);have ho':=ho;try obtain⟨ho1,ho2⟩:=ho
 repeat' first|refine wk ?_|refine cX (fun _=>?_) fun _=>?_|refine wM (cls1_pur x ho' _ _) ?_|fail
 exact finT rfl zA
theorem index_cls{lo e n:Nat}{h:zB}{sv:Value}{l:List ClassT}{s:Tx}(r:Row lo h sv e 2 l.length (l.flatMap clsC))(hl:l.length<inf)(hlo:lo≤n)(hone:∀x∈l,x.rsv.oneCell'=true):Pur P 8 173 [sv,str s,.func (.func 174) ⟨[]⟩ ⟨[]⟩] h n (I64 (posF (fun x=>decide (x.name=s)) l)):=by
 refine Com.pure (ent fun u=>?_) (.inl rfl);repeat' first|refine wk ?_|refine cX (fun _=>?_) fun _=>?_|fail
 refine wM (idxf_cls (p:=fun x=>decide (x.name=s)) ((r.tch (S:=[]) (h':=_) (n':=n+1+1) zA hlo fun _ _ hx=>by cases hx)) hl fun x hx=>index_cls1 (hone x hx) zJ zJ (by omega) (by omega)) ?_;repeat' first|refine wk ?_|refine cX (fun _=>?_) fun _=>?_|fail
 exact finT rfl zA
end Go.Proofs.YtmccnilgnlaffaaGreatDoor
namespace Go.Proofs.YtmccnilgnlaffaaGreatDoor
open Go Go.Ex Go.Ex.M
set_option maxRecDepth 100000
set_option maxHeartbeats 8000000
variable {lo bc z n:Nat} {h:zB} {m:MachT} {nsv psv:Value} {ns:List Tx} {ps:List Pl}
theorem Ck.tch{n':Nat}{h':zB}(k:Ck lo h bc z m nsv psv ns ps)(t:Tch [] h n h' n')(hlo:lo≤n):Ck lo h' bc z m nsv psv ns ps:=by
 have:=k.hb;exact⟨k.mm.tch t hlo,k.cel.tch t (by omega) (by simp),k.rn.tch t hlo fun _ _ hx=>(by cases hx),k.rp.tch t hlo fun _ _ hx=>(by cases hx),k.hb,k.hl,k.hn,k.ok⟩
theorem Ck.rnT{n':Nat}{h':zB}(k:Ck lo h bc z m nsv psv ns ps)(t:Tch [] h n h' n')(hlo:lo≤n):Row lo h' nsv sK 1 ns.length (ns.map str):=(k.tch t hlo).rn
theorem class_pur(k:Ck lo h bc z m nsv psv ns ps)(hlo:lo≤n)(x:Tx):Pur P 8 127 [ptr bc 0,str x] h n (I64 (wO m x)):=by
 have hc:=k.cel;have r:=k.mm.cls 0;refine ent fun u=>?_;repeat' first|refine wk ?_|refine cX (fun _=>?_) fun _=>?_|refine wM (index_cls r k.mm.cls.lt hlo fun c hc=>(k.mm.clsr c hc 0).one) ?_|fail
 exact fin rfl
theorem class_purE(k:Ck lo h bc z m nsv psv ns ps)(hlo:lo≤n)(x:Tx){v:Int}(e:wO m x=v):Pur P 8 127 [ptr bc 0,str x] h n (I64 v):=e ▸ class_pur k hlo x
theorem reg_com(k:Ck lo h bc z m nsv psv ns ps)(x:Tx)(e:Int):Com P 8 129 [ptr bc 0,str x,I64 e] h n fun o h' n'=>o=(if x∈ns then .ret (I64 (ns.idxOf x:Nat)) else .panic (uQ e))∧h'=h∧n'=n:=by
 have hc:=k.cel;have r:=k.rn;have hn:=k.hn;refine ent fun u=>?_;by_cases hx:x∈ns
 · have e1:=pos_in hx;repeat' first|refine wk ?_|refine cX (fun _=>?_) fun _=>?_|refine wM (sG r (by omega)) ?_|fail
   rw[if_pos hx,e1];exact⟨rfl,rfl,rfl⟩
 · have e1:=pos_out hx;repeat' first|refine wk ?_|refine cX (fun _=>?_) fun _=>?_|refine wM (sG r (by omega)) ?_|fail
   rw[if_neg hx];exact⟨rfl,rfl,rfl⟩
theorem regK(k:Ck lo h bc z m nsv psv ns ps){G:Prop}{x:Tx}{e:Int}{K:Out→zB→Nat→Prop}[s:IsCall G P 8 129 [ptr bc 0,str x,I64 e] h n K]
(k1:x∈ns→ns.idxOf x<ps.length→Rd h (sbk psv) (sof psv+ns.idxOf x*3) 3 (plC (xJ ns ps x))→zC h (sbk psv) (sof psv+ns.idxOf x*3+2)=some (I64 (xJ ns ps x).width)→PlOK (xJ ns ps x)→sbk psv<lo→K (.ret (I64 (ns.idxOf x:Nat))) h n)(k2:x∉ns→K (.panic (uQ e)) h n):G:=
 cal (reg_com k x e) fun o h' n' ⟨e1,e2,e3⟩=>by
  subst e2 e3;by_cases hx:x∈ns
  · rw[if_pos hx]at e1;subst e1;have r:=yE k.rp (plc_at hx k.hl);exact k1 hx (by have:=idx_lt hx;have:=k.hl;omega) r (rd_at r (j:=2) rfl) (k.ok _ (plc_mem hx k.hl)) (k.rp.low (by have:=idx_lt hx;have:=k.hl;omega))
  · rw[if_neg hx]at e1;subst e1;exact k2 hx
theorem regP(k:Ck lo h bc z m nsv psv ns ps){G:Prop}{x:Tx}{e:Int}{K:Out→zB→Nat→Prop}[s:IsCall G P 8 129 [ptr bc 0,str x,I64 e] h n K](hx:x∈ns)
(k1:ns.idxOf x<ps.length→Rd h (sbk psv) (sof psv+ns.idxOf x*3) 3 (plC (xJ ns ps x))→zC h (sbk psv) (sof psv+ns.idxOf x*3+2)=some (I64 (xJ ns ps x).width)→PlOK (xJ ns ps x)→sbk psv<lo→K (.ret (I64 (ns.idxOf x:Nat))) h n):G:=
 regK k (fun _=>k1) fun h2=>absurd hx h2
theorem width_pur(k:Ck lo h bc z m nsv psv ns ps)(hlo:lo≤n){i:Nat}{c:ClassT}{r0:Tx}{rr:List Tx}(hi:m.classes[i]? = some c)(hc:c.regs=r0::rr)(hr:r0∈ns):Pur P 8 131 [ptr bc 0,I64 (i:Nat)] h n (I64 (wdOf ns ps c)):=by
 have hcel:=k.cel;have r:=k.mm.cls 0;have rp:=k.rp;have rc:=k.mm.clsr c (List.mem_of_getElem? hi) 0;have c1:=yE r hi;have c2:=rd_at c1 (j:=1) rfl;have c3:=row_e1 (k:=0) (x:=r0) rc (by rw[hc];rfl);have hilt:i<m.classes.length:=(List.getElem?_eq_some_iff.1 hi).1;have hlen:0<c.regs.length:=by rw[hc];exact Nat.succ_pos _
 have hbc:=k.hb;have l1:=r.low (by omega);have l2:=rc.low hlen;have l3:=rp.low;have e1:wdOf ns ps c=(xJ ns ps r0).width:=by unfold wdOf;rw [hc]
 refine ent fun u=>?_;repeat' first|refine wk ?_|refine cX (fun _=>?_) fun _=>?_|refine regP k hr (fun _ _ _ _ _=>?_)|fail
 exact fin (by rw[e1])
theorem oper_com(k:Ck lo h bc z m nsv psv ns ps)(hlo:lo≤n)(o:OperT):Com P 8 178 [ptr bc 0,.agg ⟨oprC o⟩] h n fun r h' n'=>r=(if oprOK m o then .ret (I64 (wO m o.cls)) else .panic (uQ 9))∧Tch [] h n h' n':=by
 have hbc:=k.hb;refine ent fun u=>?_;rcases cls_find (m:=m) (x:=o.cls) with⟨h1,h2⟩|⟨i,c,h1,h2,h3,h4,h5⟩
 · have e0:oprOK m o=false:=by unfold oprOK;rw [h1]
   repeat' first|refine wk ?_|refine cX (fun _=>?_) fun _=>?_|refine wM (class_pur (Ck.tch k zA hlo) (by omega) _) ?_|fail
   rw[e0];exact⟨rfl,zA⟩
 · have e0:oprOK m o=(decide (o.fix=[]) || decide (o.fix∈c.regs)):=by unfold oprOK;rw [h1]
   have r:=k.mm.cls 0;have c2:=rd_at (yE r h2) (j:=1) rfl;have rcI:=k.mm.clsr c (List.mem_of_getElem? h2);have hinf:inf<4611686018427387904:=by decide
   have hl:=rcI.lt;have hcel:=k.cel;have hrl:sbk m.csv<lo:=r.low (by omega);repeat' first|refine wk ?_|refine cX (fun _=>?_) fun _=>?_|refine wM (class_purE (Ck.tch k zA hlo) (by omega) _ h3) ?_|refine wM (uY (RowT.tchE rcI zA hlo) (by omega)) ?_|fail
   all_goals rw[e0]
   · exact⟨by simp[*],zA⟩
   · exact⟨by simp[*],zA⟩
   · exact⟨by simp[*],zA⟩
end Go.Proofs.YtmccnilgnlaffaaGreatDoor
namespace Go.Proofs.YtmccnilgnlaffaaGreatDoor
open Go Go.Ex Go.Ex.M
set_option maxRecDepth 100000
set_option maxHeartbeats 8000000
def outE(e:Int):Out:=if e=0 then .ret (.tuple #[]) else .panic (uQ e)
variable {lo bc z n:Nat} {h:zB} {m:MachT} {nsv psv:Value} {ns:List Tx} {ps:List Pl}
theorem classes_com(k:Ck lo h bc z m nsv psv ns ps)(hlo:lo≤n):Com P 8 74 [ptr bc 0] h n fun o h' n'=>∃e,o=outE e∧ClsErr m ns ps e∧Tch [] h n h' n':=by
 have hbc:=k.hb;have hcel:=k.cel;have r:=k.mm.cls 0;have hns:=k.hn;refine ent fun u=>?_;by_cases h64:m.classes.length≤64
 · repeat' first|refine wk ?_|refine cX (fun _=>?_) fun _=>?_|fail
   refine lpR (fun i:Nat=>[(0,ptr bc 0),(19,m.csv),(20,I64 m.classes.length),(21,I64 i)]) (fun i h' n'=>Tch [] h n h' n'∧i≤m.classes.length∧∀(j:Nat) c,j<i→m.classes[j]? = some c→clsE m ns ps j c 0) (fun i=>m.classes.length - i) 0 ⟨zA,Nat.zero_le _,fun j _ hj=>by omega⟩ ?_
   rintro i t h' n' ⟨ht,hi,hno⟩
   have hn':=ht.le;have k':=k.tch ht hlo;have r':=k'.mm.cls 0;have hcel':=k'.cel;by_cases hlt:i<m.classes.length
   · have c0:m.classes[i]? = some m.classes[i]:=List.getElem?_eq_getElem hlt;generalize m.classes[i]=c at c0
     have c1:=yE r' c0;have rcI:=k'.mm.clsr c (List.mem_of_getElem? c0);have ro:=(rcI 0).one;have hl1:=r'.low (by omega);have hrl:=rcI.lt;have hinf:inf<4611686018427387904:=by decide
     have bad5:¬nameOKc m ns i c→∀h2 n2,Tch [] h n h2 n2→∃e,Out.panic (uQ 5)=outE e∧ClsErr m ns ps e∧Tch [] h n h2 n2:=fun hb h2 n2 t2=>⟨5,rfl,.inr ⟨h64,first_bad c0 (.inr (.inl ⟨rfl,hb⟩)) (by decide) hno⟩,t2⟩;repeat' first|refine wk ?_|refine cX (fun _=>?_) fun _=>?_|refine wM (class_pur (Ck.tch k' zA (by omega)) (by omega) _) ?_|refine wM (uY (Ck.rnT k' zA (by omega)) (by omega)) ?_|fail
     · rename_i e1 e2 e3;have hname:nameOKc m ns i c:=⟨e1,e2,e3⟩;have bad8:¬restOKc ns ps c→∀h2 n2,Tch [] h n h2 n2→∃e,Out.panic (uQ 8)=outE e∧ClsErr m ns ps e∧Tch [] h n h2 n2:=fun hb h2 n2 t2=>⟨8,rfl,.inr ⟨h64,first_bad c0 (.inr (.inr ⟨rfl,hname,hb⟩)) (by decide) hno⟩,t2⟩;have rc:=rcI 0;repeat' first|refine wk ?_|refine cX (fun _=>?_) fun _=>?_|fail
       · refine lpR (fun j:Nat=>[(0,ptr bc 0),(2,I64 i),(3,ptr n' 0),(19,m.csv),(20,I64 m.classes.length),(21,I64 i),(60,c.rsv),(61,I64 c.regs.length),(62,I64 j)]) (fun j h2 n2=>Tch [] h n h2 n2∧n'<n2∧Cel h2 n' (66+1) 0 (clsC c)∧j≤c.regs.length∧∀(j':Nat) x,j'<j→c.regs[j']? = some x→regOKc ns ps c j' x) (fun j=>c.regs.length - j) 0 ⟨zA,by omega,zD,Nat.zero_le _,fun j _ hj=>by omega⟩ ?_
         rintro j t h2 n2 ⟨ht2,hn2,hc2,hj,hno2⟩
         have hn3:=ht2.le;have k2:=k.tch ht2 hlo;have rp2:=k2.rp;have rc2:=k2.mm.clsr c (List.mem_of_getElem? c0) 0;have hcel2:=k2.cel;by_cases hlt2:j<c.regs.length
         · have d0:c.regs[j]? = some c.regs[j]:=List.getElem?_eq_getElem hlt2;generalize c.regs[j]=x at d0
           have d1:=row_e1 rc2 d0;have bx:¬regOKc ns ps c j x→¬restOKc ns ps c:=fun hb hr=>hb (hr.2.2 j x d0)
           have w1:x∈ns→Pur P 8 131 [ptr bc 0,I64 (i:Nat)] h2 n2 (I64 (wdOf ns ps c)):=fun hx=>by
            cases hr:c.regs with
            | nil=>rw [hr]at d0;cases d0
            | cons r0 rr=>
             refine width_pur k2 (by omega) c0 hr ?_
             cases j with
             | zero=>rw [hr]at d0;cases d0;exact hx
             | succ j=>exact(hno2 0 r0 (by omega) (by rw[hr];rfl)).1
           repeat' first|refine wk ?_|refine cX (fun _=>?_) fun _=>?_|refine regK k2 (fun _ _ _ _ _ _=>?_) (fun _=>?_)|refine wM (sG rc2 (by omega)) ?_|refine wM (w1 (by assumption)) ?_|fail
           · rename_i f1 _ _ _ _ _ f2 f3
             exact rnd (j+1) ⟨ht2,hn2,hc2,by omega,fun j' y hj' e=>by
              rcases Nat.lt_succ_iff_lt_or_eq.1 hj' with h9|rfl
              · exact hno2 j' y h9 e
              · rw[d0]at e;cases e;exact⟨f1,f2,f3⟩⟩
           · rename_i f3;exact bad8 (bx fun hb=>f3 hb.2.2) _ _ ht2
           · rename_i f2;exact bad8 (bx fun hb=>f2 hb.2.1) _ _ ht2
           · rename_i f1;exact bad8 (bx fun hb=>f1 hb.1) _ _ ht2
         · obtain rfl:j=c.regs.length:=by omega
           repeat' first|refine wk ?_|refine cX (fun _=>?_) fun _=>?_|fail
           exact rnd (i+1) ⟨ht2,by omega,first_step c0 (.inl ⟨rfl,hname,by omega,by omega,fun j' y e=>hno2 j' y (List.getElem?_eq_some_iff.1 e).1 e⟩) hno⟩
       · rename_i g2;exact bad8 (fun hb=>g2 (by have:=hb.2.1;omega)) _ _ zA
       · rename_i g1;exact bad8 (fun hb=>g1 (by have:=hb.1;omega)) _ _ zA
     · rename_i e3;exact bad5 (fun hb=>hb.2.2 e3) _ _ zA
     · rename_i e2;exact bad5 (fun hb=>e2 hb.2.1) _ _ zA
     · rename_i e1;exact bad5 (fun hb=>by have:=hb.1;rw [e1]at this;cases this) _ _ zA
   · obtain rfl:i=m.classes.length:=by omega
     repeat' first|refine wk ?_|refine cX (fun _=>?_) fun _=>?_|fail
     exact⟨0,rfl,.inr ⟨h64,first_all hno⟩,ht⟩
 · repeat' first|refine wk ?_|refine cX (fun _=>?_) fun _=>?_|fail
   exact⟨2,rfl,.inl ⟨rfl,by omega⟩,zA⟩
end Go.Proofs.YtmccnilgnlaffaaGreatDoor
namespace Go.Proofs.YtmccnilgnlaffaaGreatDoor
open Go Go.Ex Go.Ex.M
set_option maxRecDepth 100000
set_option maxHeartbeats 8000000
theorem opr_eqA(a b c d:Tx):eqA P 47 [str a,str b] [str c,str d]=Bool.rec (some false) (Bool.rec (some false) (some true) (wR b d)) (wR a c):=by kernel_rfl
instance (a b:OperT):BnC P .eql 47 (.agg ⟨oprC a⟩) (.agg ⟨oprC b⟩) (.bool (decide (a=b))):=⟨fun ox oy=>by
 show(eqA P 47 [str a.cls,str a.fix] [str b.cls,str b.fix]).map Value.bool=_;rw [opr_eqA,vQ,vQ];obtain⟨a1,a2⟩:=a;obtain⟨b1,b2⟩:=b;by_cases h1:a1=b1
 · by_cases h2:a2=b2
   · subst h1 h2;simp
   · simp[h1,h2]
 · simp[h1]⟩
variable {lo bc z n:Nat} {h:zB} {m:MachT} {nsv psv:Value} {ns:List Tx} {ps:List Pl}
theorem wd_hit(k:Ck lo h bc z m nsv psv ns ps)(hlo:lo≤n)(hc:∀c∈m.classes,∃r0 rr,c.regs=r0::rr∧r0∈ns){u:OperT}(hu:oprOK m u=true):Pur P 8 131 [ptr bc 0,I64 (wO m u.cls)] h n (I64 (wdC m ns ps u.cls)):=by
 rcases cls_find (m:=m) (x:=u.cls) with⟨h1,h2⟩|⟨i,c,h1,h2,h3,h4,h5⟩
 · unfold oprOK at hu;rw [h1]at hu;cases hu
 · obtain⟨r0,rr,e1,e2⟩:=hc c (List.mem_of_getElem? h2);rw [h3,show wdC m ns ps u.cls=wdOf ns ps c by unfold wdC;rw [h1]];exact width_pur k hlo h2 e1 e2
theorem op_com(k:Ck lo h bc z m nsv psv ns ps)(hlo:lo≤n)(hcl:∀c∈m.classes,∃r0 rr,c.regs=r0::rr∧r0∈ns){i:Nat}{o:OpT}(hi:m.ops[i]? = some o):Com P 8 132 [ptr bc 0,I64 (i:Nat)] h n fun r h' n'=>∃e,r=outE e∧opE m ns ps i o e∧Tch [] h n h' n':=by
 have hbc:=k.hb;have hcel:=k.cel;have r:=k.mm.ops 0;have hns:=k.hn;have hlt:i<m.ops.length:=(List.getElem?_eq_some_iff.1 hi).1;have hmem:=List.mem_of_getElem? hi;have c1:=yE r hi;have ruI:=k.mm.opsu o hmem;have rcI:=k.mm.opsc o hmem;have ru:=ruI 0;have rc:=rcI 0;have ru1:=ru.one;have rc1:=rc.one;have hul:=ruI.lt;have hcll:=rcI.lt;have hol:=k.mm.ops.lt;have hinf:inf<4611686018427387904:=by decide
 have hl1:=r.low (by omega);have hone:∀x∈m.ops,x.usv.oneCell'=true∧x.csv.oneCell'=true:=fun x hx=>⟨(k.mm.opsu x hx 0).one,(k.mm.opsc x hx 0).one⟩;have bad5:¬nameOKo m i o→∀h2 n2,Tch [] h n h2 n2→∃e,Out.panic (uQ 5)=outE e∧opE m ns ps i o e∧Tch [] h n h2 n2:=fun hb h2 n2 t2=>⟨5,rfl,.inr (.inl ⟨rfl,hb⟩),t2⟩;refine ent fun u=>?_;repeat' first|refine wk ?_|refine cX (fun _=>?_) fun _=>?_|refine wM (index_op (RowA.tchE k.mm.ops zA hlo) hol (by omega) hone) ?_|fail
 · rename_i f0 f1 f2;have hname:nameOKo m i o:=⟨f0,f1⟩;have bad9:¬restOKo m ns ps o→∀h2 n2,Tch [] h n h2 n2→∃e,Out.panic (uQ 9)=outE e∧opE m ns ps i o e∧Tch [] h n h2 n2:=fun hb h2 n2 t2=>⟨9,rfl,.inr (.inr ⟨rfl,hname,hb⟩),t2⟩;repeat' first|refine wk ?_|refine cX (fun _=>?_) fun _=>?_|fail
   refine cal (oper_com (Ck.tch k zA hlo) (by omega) o.d) ?_
   rintro _ h2 n2 ⟨rfl,ht⟩
   have hn2:=ht.le
   cases hd:oprOK m o.d with
   | false=>
    rw[if_neg (by decide)];repeat' first|refine wk ?_|refine cX (fun _=>?_) fun _=>?_|fail
    exact bad9 (fun hb=>by have:=hb.2.1;rw [hd]at this;cases this) _ _ zA
   | true=>
    rw[if_pos rfl];have hc2:Cel h2 n (50+1) 0 (opC o):=zD;have ht0:Tch [] h n h2 n2:=zA;clear ht;repeat' first|refine wk ?_|refine cX (fun _=>?_) fun _=>?_|fail
    refine lpR (fun j:Nat=>[(0,ptr bc 0),(1,I64 i),(4,ptr n 0),(5,I64 (wO m o.d.cls)),(48,o.usv),(49,I64 o.uses.length),(50,I64 j)]) (fun j h2 n2=>Tch [] h n h2 n2∧n<n2∧Cel h2 n (50+1) 0 (opC o)∧j≤o.uses.length∧∀(j':Nat) x,j'<j→o.uses[j']? = some x→useOKo m ns ps o x) (fun j=>o.uses.length - j) 0 ⟨ht0,by omega,hc2,Nat.zero_le _,fun j _ hj=>by omega⟩ ?_;clear hc2 ht0 hn2
    rintro j t h2 n2 ⟨ht2,hn2,hc2,hj,hno2⟩
    have hn3:=ht2.le;have k2:=k.tch ht2 hlo;have ru2:=k2.mm.opsu o hmem 0;have hcel2:=k2.cel;by_cases hlt2:j<o.uses.length
    · have d0:o.uses[j]? = some o.uses[j]:=List.getElem?_eq_getElem hlt2;generalize o.uses[j]=x at d0
      have d1:=yE ru2 d0;have bx:¬useOKo m ns ps o x→¬restOKo m ns ps o:=fun hb hr=>hb (hr.2.2.1 j x d0);repeat' first|refine wk ?_|refine cX (fun _=>?_) fun _=>?_|fail
      refine cal (oper_com (Ck.tch k2 zA (by omega)) (by omega) x) ?_
      rintro _ h3 n3 ⟨rfl,ht3⟩
      have hn4:=ht3.le
      cases hd3:oprOK m x with
      | false=>
       rw[if_neg (by decide)];repeat' first|refine wk ?_|refine cX (fun _=>?_) fun _=>?_|fail
       exact bad9 (bx fun hb=>by have:=hb.1;rw [hd3]at this;cases this) _ _ zA
      | true=>
       rw[if_pos rfl];have hc4:Cel h3 n (50+1) 0 (opC o):=zG;have ht4:Tch [] h n h3 n3:=zA;repeat' first|refine wk ?_|refine cX (fun _=>?_) fun _=>?_|refine wM (wd_hit (Ck.tch k ht4 hlo) (by omega) hcl hd3) ?_|refine wM (wd_hit (Ck.tch k ht4 hlo) (by omega) hcl hd) ?_|fail
       · rename_i f3
         exact rnd (j+1) ⟨ht4,by omega,hc4,by omega,fun j' y hj' e=>by
          rcases Nat.lt_succ_iff_lt_or_eq.1 hj' with h9|rfl
          · exact hno2 j' y h9 e
          · rw[d0]at e;cases e;exact⟨hd3,f3⟩⟩
       · rename_i f3;exact bad9 (bx fun hb=>f3 hb.2) _ _ ht4
    · obtain rfl:j=o.uses.length:=by omega
      have tiebad:¬(-1≤o.tie∧o.tie<o.uses.length)→¬restOKo m ns ps o:=fun hb hr=>hb ⟨hr.2.2.2.1,hr.2.2.2.2.1⟩;by_cases htie:0≤o.tie∧o.tie<o.uses.length
      · obtain⟨ht0,ht1⟩:=htie;have htl:o.tie.toNat<o.uses.length:=by omega
        have d0:o.uses[o.tie.toNat]? = some o.uses[o.tie.toNat]:=List.getElem?_eq_getElem htl;generalize o.uses[o.tie.toNat]=x at d0
        have d1:=yE ru2 d0;repeat' first|refine wk ?_|refine cX (fun _=>?_) fun _=>?_|fail
        · rename_i f3 f4;have tieok:0≤o.tie→o.uses[o.tie.toNat]? = some o.d:=fun _=>by rw[d0,f3]
          refine lpR (fun j:Nat=>[(0,ptr bc 0),(1,I64 i),(4,ptr n 0),(98,o.csv),(99,I64 o.clob.length),(100,I64 j)]) (fun j h2 n2=>Tch [] h n h2 n2∧n<n2∧Cel h2 n (50+1) 0 (opC o)∧j≤o.clob.length∧∀(j':Nat) x,j'<j→o.clob[j']? = some x→clobOKo ns o j' x) (fun j=>o.clob.length - j) 0 ⟨ht2,by omega,hc2,Nat.zero_le _,fun j _ hj=>by omega⟩ ?_;clear hc2 ht2 hn2 hcel2 k2 ru2 hn3
          rintro j t h3 n3 ⟨ht2,hn2,hc2,hj3,hno3⟩
          have hn3:=ht2.le;have k2:=k.tch ht2 hlo;have rc2:=k2.mm.opsc o hmem 0;have hcel2:=k2.cel;by_cases hlt3:j<o.clob.length
          · have e0:o.clob[j]? = some o.clob[j]:=List.getElem?_eq_getElem hlt3;generalize o.clob[j]=y at e0
            have e1:=row_e1 rc2 e0;have by':¬clobOKo ns o j y→¬restOKo m ns ps o:=fun hb hr=>hb (hr.2.2.2.2.2.2.2 j y e0);repeat' first|refine wk ?_|refine cX (fun _=>?_) fun _=>?_|refine regK k2 (fun _ _ _ _ _ _=>?_) (fun _=>?_)|refine wM (sG rc2 (by omega)) ?_|fail
            · rename_i g1 _ _ _ _ _ g2
              exact rnd (j+1) ⟨ht2,hn2,hc2,by omega,fun j' z hj' e=>by
               rcases Nat.lt_succ_iff_lt_or_eq.1 hj' with h9|rfl
               · exact hno3 j' z h9 e
               · rw[e0]at e;cases e;exact⟨g1,g2⟩⟩
            · rename_i g2;exact bad9 (by' fun hb=>g2 hb.2) _ _ ht2
            · rename_i g1;exact bad9 (by' fun hb=>g1 hb.1) _ _ ht2
          · obtain rfl:j=o.clob.length:=by omega
            repeat' first|refine wk ?_|refine cX (fun _=>?_) fun _=>?_|fail
            exact⟨0,rfl,.inl ⟨rfl,hname,f2,hd,fun j' y e=>hno2 j' y (List.getElem?_eq_some_iff.1 e).1 e,by omega,by omega,tieok,by omega,fun j' y e=>hno3 j' y (List.getElem?_eq_some_iff.1 e).1 e⟩,ht2⟩
        · rename_i f4;exact bad9 (fun hb=>f4 (by have:=hb.2.2.2.2.2.2.1;omega)) _ _ ht2
        · rename_i f3;exact bad9 (fun hb=>f3 (by have:=hb.2.2.2.2.2.1 ht0;rw [d0]at this;exact(Option.some.inj this).symm)) _ _ ht2
      · repeat' first|refine wk ?_|refine cX (fun _=>?_) fun _=>?_|fail
        · rename_i f3 f5 f6 f4;have tieok:0≤o.tie→o.uses[o.tie.toNat]? = some o.d:=fun _=>by omega
          refine lpR (fun j:Nat=>[(0,ptr bc 0),(1,I64 i),(4,ptr n 0),(98,o.csv),(99,I64 o.clob.length),(100,I64 j)]) (fun j h2 n2=>Tch [] h n h2 n2∧n<n2∧Cel h2 n (50+1) 0 (opC o)∧j≤o.clob.length∧∀(j':Nat) x,j'<j→o.clob[j']? = some x→clobOKo ns o j' x) (fun j=>o.clob.length - j) 0 ⟨ht2,by omega,hc2,Nat.zero_le _,fun j _ hj=>by omega⟩ ?_;clear hc2 ht2 hn2 hcel2 k2 ru2 hn3
          rintro j t h3 n3 ⟨ht2,hn2,hc2,hj3,hno3⟩
          have hn3:=ht2.le;have k2:=k.tch ht2 hlo;have rc2:=k2.mm.opsc o hmem 0;have hcel2:=k2.cel;by_cases hlt3:j<o.clob.length
          · have e0:o.clob[j]? = some o.clob[j]:=List.getElem?_eq_getElem hlt3;generalize o.clob[j]=y at e0
            have e1:=row_e1 rc2 e0;have by':¬clobOKo ns o j y→¬restOKo m ns ps o:=fun hb hr=>hb (hr.2.2.2.2.2.2.2 j y e0);repeat' first|refine wk ?_|refine cX (fun _=>?_) fun _=>?_|refine regK k2 (fun _ _ _ _ _ _=>?_) (fun _=>?_)|refine wM (sG rc2 (by omega)) ?_|fail
            · rename_i g1 _ _ _ _ _ g2
              exact rnd (j+1) ⟨ht2,hn2,hc2,by omega,fun j' z hj' e=>by
               rcases Nat.lt_succ_iff_lt_or_eq.1 hj' with h9|rfl
               · exact hno3 j' z h9 e
               · rw[e0]at e;cases e;exact⟨g1,g2⟩⟩
            · rename_i g2;exact bad9 (by' fun hb=>g2 hb.2) _ _ ht2
            · rename_i g1;exact bad9 (by' fun hb=>g1 hb.1) _ _ ht2
          · obtain rfl:j=o.clob.length:=by omega
            repeat' first|refine wk ?_|refine cX (fun _=>?_) fun _=>?_|fail
            exact⟨0,rfl,.inl ⟨rfl,hname,f2,hd,fun j' y e=>hno2 j' y (List.getElem?_eq_some_iff.1 e).1 e,by omega,by omega,tieok,by omega,fun j' y e=>hno3 j' y (List.getElem?_eq_some_iff.1 e).1 e⟩,ht2⟩
        · rename_i f4;exact bad9 (fun hb=>f4 (by have:=hb.2.2.2.2.2.2.1;omega)) _ _ ht2
        · rename_i f4;exact bad9 (tiebad (by omega)) _ _ ht2
        · rename_i f4;exact bad9 (tiebad (by omega)) _ _ ht2
 · rename_i f0 f1 f2;exact⟨9,rfl,.inr (.inr ⟨rfl,⟨f0,f1⟩,fun hb=>f2 hb.1⟩),zA⟩
 · rename_i f1;exact bad5 (fun hb=>f1 hb.2) _ _ zA
 · rename_i f1;exact bad5 (fun hb=>f1 hb.1) _ _ zA
end Go.Proofs.YtmccnilgnlaffaaGreatDoor
namespace Go.Proofs.YtmccnilgnlaffaaGreatDoor
open Go Go.Ex Go.Ex.M
set_option maxRecDepth 100000
set_option maxHeartbeats 8000000
variable {lo bc z n:Nat} {h:zB} {m:MachT} {nsv psv:Value} {ns:List Tx} {ps:List Pl}
theorem ops_com(k:Ck lo h bc z m nsv psv ns ps)(hlo:lo≤n)(hcl:∀c∈m.classes,∃r0 rr,c.regs=r0::rr∧r0∈ns):Com P 8 75 [ptr bc 0] h n fun o h' n'=>∃e,o=outE e∧OpsErr m ns ps e∧Tch [] h n h' n':=by
 have hbc:=k.hb;have hcel:=k.cel;have r:=k.mm.ops 0;refine ent fun u=>?_;by_cases h64:m.ops.length≤64
 · repeat' first|refine wk ?_|refine cX (fun _=>?_) fun _=>?_|fail
   refine lpR (fun i:Nat=>[(0,ptr bc 0),(16,I64 m.ops.length),(17,I64 i)]) (fun i h' n'=>Tch [] h n h' n'∧i≤m.ops.length∧∀(j:Nat) c,j<i→m.ops[j]? = some c→opE m ns ps j c 0) (fun i=>m.ops.length - i) 0 ⟨zA,Nat.zero_le _,fun j _ hj=>by omega⟩ ?_
   rintro i t h' n' ⟨ht,hi,hno⟩
   have hn':=ht.le;have k':=k.tch ht hlo;by_cases hlt:i<m.ops.length
   · have c0:m.ops[i]? = some m.ops[i]:=List.getElem?_eq_getElem hlt;repeat' first|refine wk ?_|refine cX (fun _=>?_) fun _=>?_|fail
     refine cal (op_com k' (by omega) hcl c0) ?_
     rintro _ h2 n2 ⟨e,rfl,he,ht2⟩
     by_cases e0:e=0
     · subst e0;rw [show outE 0 = .ret (.tuple #[]) from rfl];repeat' first|refine wk ?_|refine cX (fun _=>?_) fun _=>?_|fail
       exact rnd (i+1) ⟨zA,by omega,first_step c0 he hno⟩
     · rw[show outE e = .panic (uQ e) from if_neg e0];repeat' first|refine wk ?_|refine cX (fun _=>?_) fun _=>?_|fail
       exact⟨e,(if_neg e0).symm,.inr ⟨h64,first_bad c0 he e0 hno⟩,zA⟩
   · obtain rfl:i=m.ops.length:=by omega
     repeat' first|refine wk ?_|refine cX (fun _=>?_) fun _=>?_|fail
     exact⟨0,rfl,.inr ⟨h64,first_all hno⟩,ht⟩
 · repeat' first|refine wk ?_|refine cX (fun _=>?_) fun _=>?_|fail
   exact⟨2,rfl,.inl ⟨rfl,by omega⟩,zA⟩
end Go.Proofs.YtmccnilgnlaffaaGreatDoor
namespace Go.Proofs.YtmccnilgnlaffaaGreatDoor
open Go Go.Ex Go.Ex.M
set_option maxRecDepth 100000
set_option maxHeartbeats 8000000
variable {lo bc z n:Nat} {h:zB} {m:MachT} {nsv psv:Value} {ns:List Tx} {ps:List Pl}
theorem apart_com(k:Ck lo h bc z m nsv psv ns ps)(hlo:lo≤n){sv:Value}{l:List Tx}{most:Int}(rI:RowI lo h sv 1 l.length (l.map str))(hm:most≤64):Com P 8 133 [ptr bc 0,sv,I64 most] h n fun o h' n'=>Tch [] h n h' n'∧((o = .panic (uQ 10)∧¬vU ns ps l most)∨∃v,o = .ret v∧vU ns ps l most∧Own n n' h' v ePl 3 l.length ((l.map (xJ ns ps)).flatMap plC)):=by
 have hbc:=k.hb;have hcel:=k.cel;have r:=rI 0;have hns:=k.hn;refine ent fun u=>?_;by_cases h64:(l.length:Nat)≤most
 · repeat' first|refine wk ?_|refine cX (fun _=>?_) fun _=>?_|fail
   refine lpR (α :=Nat×Value) (fun a=>[(0,ptr bc 0),(7,a.2),(18,sv),(19,I64 l.length),(20,I64 a.1)]) (fun a h' n'=>Tch [] h n h' n'∧a.1≤l.length∧Own n n' h' a.2 ePl 3 a.1 (((l.take a.1).map (xJ ns ps)).flatMap plC)∧∀(j:Nat) c,j<a.1→l[j]? = some c→apOK ns ps l j c) (fun a=>l.length - a.1) (0,.slice none 0 0) ⟨zA,Nat.zero_le _,Own.nil,fun j _ hj=>absurd hj (Nat.not_lt_zero _)⟩ ?_
   rintro ⟨i,ov⟩ t h' n' ⟨ht,hi,ho,hno⟩
   dsimp only at hi ho hno ⊢;have hn':=ht.le;have k':=k.tch ht hlo;have hcel':=k'.cel;have rp':=k'.rp;have r':=(rI.tch ht hlo) 0;have ro:=ho.row (by decide);by_cases hlt:i<l.length
   · have c0:l[i]? = some l[i]:=List.getElem?_eq_getElem hlt;generalize l[i]=x at c0
     have c1:=row_e1 r' c0;have bad:¬apOK ns ps l i x→¬vU ns ps l most:=fun hb hr=>hb (hr.2 i x c0);repeat' first|refine wk ?_|refine cX (fun _=>?_) fun _=>?_|refine regK k' (fun _ _ _ _ _ _=>?_) (fun _=>?_)|fail
     · rename_i f1 f2 f3 f4 f5 f6;have hpl:=f5;refine lpR (fun q:Nat=>[(0,ptr bc 0),(7,ov),(18,sv),(19,I64 l.length),(20,I64 i),(10,ptr n' 0),(33,ov),(34,I64 i),(35,I64 q)]) (fun q h2 n2=>Tch [] h n h2 n2∧n'<n2∧Cel h2 n' (ePl+1) 0 (plC (xJ ns ps x))∧Own n n2 h2 ov ePl 3 i (((l.take i).map (xJ ns ps)).flatMap plC)∧q≤i∧∀(j:Nat) y,j<q→l[j]? = some y→lapB (xJ ns ps x) (xJ ns ps y)=false) (fun q=>i - q) 0 ⟨zA,by omega,zD,ho.tch (S:=[]) zA (by simp),Nat.zero_le _,fun j _ hj=>absurd hj (Nat.not_lt_zero _)⟩ ?_
       rintro q t h2 n2 ⟨ht2,hn2,hc2,ho2,hq,hno2⟩
       have hn3:=ht2.le;have ro2:=ho2.row (by decide);by_cases hlt2:q<i
       · have d0:l[q]? = some l[q]:=List.getElem?_eq_getElem (by omega);generalize l[q]=y at d0
         have hy:y∈ns:=(hno q y hlt2 d0).1;have d1:=yE ro2 (el_at d0 hlt2);have oky:PlOK (xJ ns ps y):=k.ok _ (plc_mem hy k.hl);repeat' first|refine wk ?_|refine cX (fun _=>?_) fun _=>?_|refine wM (lap_pur _ _ hpl oky _ _) ?_|fail
         · rename_i g1
           exact rnd (q+1) ⟨zA,by omega,zG,ho2.tch (S:=[]) zA (by simp),by omega,fun j z hj e=>by
            rcases Nat.lt_succ_iff_lt_or_eq.1 hj with h9|rfl
            · exact hno2 j z h9 e
            · rw[d0]at e;cases e;exact g1⟩
         · rename_i g1;exact⟨zA,.inl ⟨rfl,bad fun hb=>by rw[hb.2 q y hlt2 d0]at g1;cases g1⟩⟩
       · obtain rfl:q=i:=by omega
         repeat' first|refine wk ?_|refine cX (fun _=>?_) fun _=>?_|fail
         refine appO (ho2.tch (S:=[]) zA (by simp)) (zR (e:=ePl) (sz:=3) (len:=1) rfl (by decide)) (by omega) ⟨rfl,rfl,rfl,trivial⟩ (by omega) ?_
         rintro v' h3 n3 ho3 ht3
         have ht4:Tch [] h n h3 n3:=Tch.tch ht3 zA fun x hx=>.inl (yN ho2 x hx);repeat' first|refine wk ?_|refine cX (fun _=>?_) fun _=>?_|fail
         exact rnd (q+1,v') ⟨ht4,by omega,by rw[wQ c0,List.map_append,List.flatMap_append];exact ho3,fun j z hj e=>by
          rcases Nat.lt_succ_iff_lt_or_eq.1 hj with h9|rfl
          · exact hno j z h9 e
          · rw[c0]at e;cases e;exact⟨f1,hno2⟩⟩
     · rename_i f1;exact⟨ht,.inl ⟨rfl,bad fun hb=>f1 hb.1⟩⟩
   · obtain rfl:i=l.length:=by omega
     repeat' first|refine wk ?_|refine cX (fun _=>?_) fun _=>?_|fail
     exact⟨ht,.inr ⟨ov,rfl,⟨h64,fun j y e=>hno j y (List.getElem?_eq_some_iff.1 e).1 e⟩,by rwa [List.take_length]at ho⟩⟩
 · repeat' first|refine wk ?_|refine cX (fun _=>?_) fun _=>?_|fail
   exact⟨zA,.inl ⟨rfl,fun hb=>h64 hb.1⟩⟩
end Go.Proofs.YtmccnilgnlaffaaGreatDoor
namespace Go.Proofs.YtmccnilgnlaffaaGreatDoor
open Go Go.Ex Go.Ex.M
set_option maxRecDepth 100000
set_option maxHeartbeats 8000000
theorem clone_str{lo n len:Nat}{h:zB}{sv:Value}{vs:List Value}(r:Row lo h sv sK 1 len vs)(hlo:lo≤n)(h1:∀y∈vs,y.oneCell'=true)(hlim:len<1000000):Ret P 8 81 [sv] h n fun v h' n'=>OwnE n n' h' v sK 1 len vs∧Tch [] h n h' n':=by
 refine ent fun u=>?_;have r':=r;rcases r with⟨rfl,rfl,rfl⟩|⟨b,off,cap,m,z,kd,_,rfl,_⟩
 · repeat' first|refine wk ?_|refine cX (fun _=>?_) fun _=>?_|fail
   exact⟨_,rfl,.inl Own.nil,zA⟩
 · repeat' first|refine wk ?_|refine cX (fun _=>?_) fun _=>?_|fail
   refine appE (.inr ⟨mty_new (Nat.le_refl n),rfl,rfl⟩) ((r'.tch (S:=[]) zA hlo fun _ _ hx=>(by cases hx)).up (by omega)) (by omega) h1 (by omega) ?_
   rintro v' h2 n2 ho ht
   have ht2:Tch [] h n h2 n2:=Tch.tch ht zA fun x hx=>.inl (by
    have hx:x∈(some n).toList:=hx;simp at hx;omega)
   rw[Nat.zero_add,List.nil_append]at ho;repeat' first|refine wk ?_|refine cX (fun _=>?_) fun _=>?_|fail
   exact⟨_,rfl,ho,ht2⟩
theorem str_one(l:List Tx):∀y∈l.map str,y.oneCell'=true:=fun y hy=>by obtain⟨z,_,rfl⟩:=List.mem_map.1 hy;rfl
variable {lo bc z n:Nat} {h:zB} {m:MachT} {nsv psv:Value} {ns:List Tx} {ps:List Pl}
theorem conv1_pur{b6:Nat}{x:Tx}{c:ClassT}(rI:RowI lo h c.rsv 1 c.regs.length (c.regs.map str))(hlo:lo≤n)(hb:b6<n)(hc:zC h b6 0=some (str x)):Pur P 8 134 [.agg ⟨clsC c⟩,ptr b6 0] h n (.bool (decide (x∈c.regs))):=by
 have hl:=rI.lt;have hinf:inf<4611686018427387904:=by decide
 have ro:=(rI 0).one;refine Com.pure (ent fun u=>?_) (.inl rfl);repeat' first|refine wk ?_|refine cX (fun _=>?_) fun _=>?_|refine wM (uY (RowI.tchE rI zA hlo) (by omega)) ?_|fail
 exact finT rfl zA
theorem contf_cls{lo e n:Nat}{h:zB}{sv:Value}{l:List ClassT}{g:FuncId}{fs cs:List Value}{p:ClassT→Bool}(r:Row lo h sv e 2 l.length (l.flatMap clsC))(hl:l.length<inf)(hp:∀x∈l,Pur P 8 g (fs++([.agg ⟨clsC x⟩]++cs)) h n (.bool (p x))):Pur P 8 135 [sv,.func (.func g) ⟨fs⟩ ⟨cs⟩] h n (.bool (l.any p)):=by
 refine ent fun u=>?_;repeat' first|refine wk ?_|refine cX (fun _=>?_) fun _=>?_|refine wM (idxf_cls r hl hp) ?_|fail
 exact fin (by rw[show decide (0≤posF p l)=l.any p from by cases h9:l.any p with
  | true=>exact decide_eq_true (posF_ge.2 h9)
  | false=>exact decide_eq_false fun h=>by rw[posF_ge.1 h]at h9;cases h9])
theorem conv_com(k:Ck lo h bc z m nsv psv ns ps)(hlo:lo≤n):Com P 8 76 [ptr bc 0] h n fun o h' n'=>∃e,o=outE e∧((e=0∧convOK m ns ps (vU ns ps))∨(e=10∧¬convOK m ns ps (vU ns ps)))∧Tch [] h n h' n':=by
 have hbc:=k.hb;have hcel:=k.cel;have hns:=k.hn;have bad:¬convOK m ns ps (vU ns ps)→∀h2 n2,Tch [] h n h2 n2→∃e,Out.panic (uQ 10)=outE e∧((e=0∧convOK m ns ps (vU ns ps))∨(e=10∧¬convOK m ns ps (vU ns ps)))∧Tch [] h n h2 n2:=fun hb h2 n2 t2=>⟨10,rfl,.inr ⟨rfl,hb⟩,t2⟩;refine ent fun u=>?_;repeat' first|refine wk ?_|refine cX (fun _=>?_) fun _=>?_|fail
 refine cal (apart_com k hlo k.mm.args.toI (by decide)) ?_
 rintro _ h2 n2 ⟨ht2,⟨rfl,hb⟩|⟨v,rfl,hargs,ho⟩⟩
 · repeat' first|refine wk ?_|refine cX (fun _=>?_) fun _=>?_|fail
   exact bad (fun hc=>hb hc.1) _ _ ht2
 have hn2:=ht2.le;have k2:=k.tch ht2 hlo;have hcel2:=k2.cel;have rp2:=k2.rp;repeat' first|refine wk ?_|refine cX (fun _=>?_) fun _=>?_|refine regK k2 (fun _ _ _ _ _ _=>?_) (fun _=>?_)|fail
 · rename_i f1 f2 f3 f4 f5 f6;refine cal (apart_com (Ck.tch k2 zA (by omega)) (by omega) (RowI.tch (RowA.toI k2.mm.saved) zA (by omega)) (by decide)) ?_
   rintro _ h3 n3 ⟨ht3,⟨rfl,hb⟩|⟨v3,rfl,hsav,ho3⟩⟩
   · repeat' first|refine wk ?_|refine cX (fun _=>?_) fun _=>?_|fail
     exact bad (fun hc=>hb hc.2.2.1) _ _ zA
   have hn3:=ht3.le;have hc3:Cel h3 n2 (ePl+1) 0 (plC (xJ ns ps m.result)):=zD;have ht4:Tch [] h n h3 n3:=zA;have r3:=ho3.row (by decide);clear ht3;repeat' first|refine wk ?_|refine cX (fun _=>?_) fun _=>?_|fail
   refine lpR (fun q:Nat=>[(0,ptr bc 0),(2,ptr n2 0),(34,v3),(35,I64 m.saved.length),(36,I64 q)]) (fun q h4 n4=>Tch [] h n h4 n4∧n2<n4∧Cel h4 n2 (ePl+1) 0 (plC (xJ ns ps m.result))∧Own (n2+1) n4 h4 v3 ePl 3 m.saved.length ((m.saved.map (xJ ns ps)).flatMap plC)∧q≤m.saved.length∧∀(j:Nat) y,j<q→m.saved[j]? = some y→lapB (xJ ns ps y) (xJ ns ps m.result)=false) (fun q=>m.saved.length - q) 0 ⟨ht4,by omega,hc3,ho3,Nat.zero_le _,fun j _ hj=>absurd hj (Nat.not_lt_zero _)⟩ ?_;clear hc3 ht4 r3 ho3 hn3
   rintro q t h4 n4 ⟨ht4,hn4,hc4,ho4,hq,hno⟩
   have hn5:=ht4.le;have r4:=ho4.row (by decide);have sl:=k.mm.saved.lt;have hinf:inf<4611686018427387904:=by decide
   by_cases hlt:q<m.saved.length
   · have d0:m.saved[q]? = some m.saved[q]:=List.getElem?_eq_getElem hlt;generalize m.saved[q]=y at d0
     have hy:y∈ns:=(hsav.2 q y d0).1;have d1:=yE r4 (show(m.saved.map (xJ ns ps))[q]? = some (xJ ns ps y) by rw[List.getElem?_map,d0];rfl);have oky:PlOK (xJ ns ps y):=k.ok _ (plc_mem hy k.hl);repeat' first|refine wk ?_|refine cX (fun _=>?_) fun _=>?_|refine wM (lap_pur _ _ oky f5 _ _) ?_|fail
     · rename_i g1
       exact rnd (q+1) ⟨zA,by omega,zG,ho4.tch (S:=[]) zA (by simp),by omega,fun j z hj e=>by
        rcases Nat.lt_succ_iff_lt_or_eq.1 hj with h9|rfl
        · exact hno j z h9 e
        · rw[d0]at e;cases e;exact g1⟩
     · rename_i g1;exact bad (fun hc=>by rw[hc.2.2.2.1 q y d0]at g1;cases g1) _ _ zA
   · obtain rfl:q=m.saved.length:=by omega
     have k4:=k.tch ht4 hlo;have hcel4:=k4.cel;have ra4:Row lo h4 m.asv sK 1 m.args.length (m.args.map str):=k4.mm.args sK;have hal:=hargs.1;repeat' first|refine wk ?_|refine cX (fun _=>?_) fun _=>?_|fail
     · rename_i s1 s2;refine uB (clone_str ra4 (by omega) (str_one _) (by omega)) ?_
       rintro v5 h5 n5 ⟨ho5,ht5⟩
       have hn6:=ht5.le;repeat' first|refine wk ?_|refine cX (fun _=>?_) fun _=>?_|fail
       refine appE (ho5.tch (S:=[]) zA (by simp)) (zR (e:=sK) (sz:=1) (len:=1) rfl (by decide)) (by omega) (str_one [m.result]) (by omega) ?_
       rintro v6 h6 n6 ho6 ht6
       have ht7:Tch [] h n h6 n6:=Tch.tch ht6 zA fun x hx=>.inl (by have:=ho5.low x hx;omega);have hn7:=ht6.le;replace ho6:OwnE n4 n6 h6 v6 sK 1 (m.args.length+1) ((m.args++[m.result]).map str):=by rw[List.map_append];exact ho6
       have r6:=ho6.row (by decide);have hlen:(m.args++[m.result]).length=m.args.length+1:=by simp
       generalize m.args.length+1=len at *
       have hlen2:len≤17:=by have:=hargs.1;simp at hlen;omega
       have allb:∀{q:Nat} {y:Tx},(m.args++[m.result])[q]? = some y→¬m.classes.any (fun c=>decide (y∈c.regs))=true→¬convOK m ns ps (vU ns ps):=fun hd hb hc=>hb (hc.2.2.2.2.2.2 _ _ hd);have hcel5:Cel h5 bc z 0 (vT m++[nsv,psv]):=hcel4.tch ht5 (by omega) (by simp);have hcel6:Cel h6 bc z 0 (vT m++[nsv,psv]):=hcel.tch ht7 (by omega) (by simp);clear ht6 ho5 ht5;repeat' first|refine wk ?_|refine cX (fun _=>?_) fun _=>?_|fail
       refine lpR (fun q:Nat=>[(0,ptr bc 0),(73,v6),(74,I64 len),(75,I64 q)]) (fun q h7 n7=>Tch [] h n h7 n7∧n4≤n7∧OwnE n4 n7 h7 v6 sK 1 len ((m.args++[m.result]).map str)∧q≤len∧∀(j:Nat) y,j<q→(m.args++[m.result])[j]? = some y→m.classes.any (fun c=>decide (y∈c.regs))=true) (fun q=>len - q) 0 ⟨ht7,by omega,ho6,Nat.zero_le _,fun j _ hj=>absurd hj (Nat.not_lt_zero _)⟩ ?_
       rintro q t h7 n7 ⟨hta,hna,hoa,hqa,hnoa⟩
       have hna2:=hta.le;have ra:=hoa.row (by decide);have ka:=k.tch hta hlo;have hcela:=ka.cel;by_cases hlta:q<len
       · have d0:(m.args++[m.result])[q]? = some (m.args++[m.result])[q]:=List.getElem?_eq_getElem (by omega);generalize (m.args++[m.result])[q]=y at d0
         have d1:=row_e1 ra d0;repeat' first|refine wk ?_|refine cX (fun _=>?_) fun _=>?_|fail
         refine wM (contf_cls (p:=fun c=>decide (y∈c.regs)) (RowA.tchE ka.mm.cls zA (by omega)) ka.mm.cls.lt (fun c hc=>conv1_pur (RowI.tch (ka.mm.clsr c hc).toI zA (by omega)) (by omega) (by omega) zJ)) ?_;repeat' first|refine wk ?_|refine cX (fun _=>?_) fun _=>?_|fail
         · rename_i g1
           exact rnd (q+1) ⟨zA,by omega,hoa.tch (S:=[]) zA (by simp),by omega,fun j z hj e=>by
            rcases Nat.lt_succ_iff_lt_or_eq.1 hj with h9|rfl
            · exact hnoa j z h9 e
            · rw[d0]at e;cases e;exact g1⟩
         · rename_i g1;exact bad (allb d0 (by rw[g1];decide)) _ _ zA
       · obtain rfl:q=len:=by omega
         repeat' first|refine wk ?_|refine cX (fun _=>?_) fun _=>?_|fail
         exact⟨0,rfl,.inl ⟨rfl,hargs,f1,hsav,fun i x e=>hno i x (List.getElem?_eq_some_iff.1 e).1 e,s1,s2,fun i x e=>hnoa i x (by have:=(List.getElem?_eq_some_iff.1 e).1;omega) e⟩,hta⟩
     · rename_i s2;exact bad (fun hc=>s2 hc.2.2.2.2.2.1) _ _ ht4
     · rename_i s2;exact bad (fun hc=>s2 hc.2.2.2.2.1) _ _ ht4
 · rename_i f1;exact bad (fun hc=>f1 hc.2.1) _ _ ht2
end Go.Proofs.YtmccnilgnlaffaaGreatDoor
