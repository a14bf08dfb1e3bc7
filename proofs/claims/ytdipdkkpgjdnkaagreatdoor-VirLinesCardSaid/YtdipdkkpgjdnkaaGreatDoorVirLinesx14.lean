/- What the law leans on: an executor of the model that is sound, deduction over it, and the walks through the code (part 14 of 24). Conditions: those that each theorem states. -/
import Derived.Test.YtdipdkkpgjdnkaaGreatDoorVirLinesx13
import Derived.Test.YtdipdkkpgjdnkaaGreatDoorVirLinesx10
import Derived.Calls
import Derived.Shelf.Strings.Builder1
import Derived.Lib.IndexMore
import Derived.Lib.Split
import Derived.Lib.CountLaws
import Derived.Test.YtdipdkkpgjdnkaaGreatDoorProg
import Derived.KernelRfl

set_option linter.unusedVariables false
set_option linter.unusedSimpArgs false
namespace Go.Ex
section
variable {P:Program} {ng:Nat}
def Rets(P:Program)(ng:Nat)(f:FuncId)(args:List Value)(h:zB)(n:Nat)(Q:Value→zB→Nat→Prop):Prop:=
 ∀(u:Option zJ) (k:KO),(∀v h' n',Q v h' n'→k (.ret v) u h' n'=true)→(loS P ng).call f args false u h n k=true
abbrev Pure(P:Program)(ng:Nat)(f:FuncId)(args:List Value)(h:zB)(n:Nat)(v:Value):Prop:=
 Rets P ng f args h n fun v' h' n'=>v'=v∧h'=h∧n'=n
theorem Rets.mono{f:FuncId}{args:List Value}{h:zB}{n:Nat}{Q Q':Value→zB→Nat→Prop}(r:Rets P ng f args h n Q)(hq:∀v h' n',Q v h' n'→Q' v h' n'):Rets P ng f args h n Q':=
 fun u k hk=>r u k fun v h' n' q=>hk v h' n' (hq v h' n' q)
theorem Rets.does{f:FuncId}{args:List Value}{h:zB}{n:Nat}{Q:Value→zB→Nat→Prop}(r:Rets P ng f args h n Q)(u:Option zJ):∃v h' n',Q v h' n'∧CallTo P ng f args false u h n (.ret v) u h' n':=by
 have:=r u (fun o u' h' n'=>xE (∃v,o = .ret v∧u'=u∧Q v h' n')) (fun v h' n' q=>isSo_iff.2 ⟨v,rfl,rfl,q⟩);obtain⟨o,u',h',n',hk,hc⟩:=loS_call.1 this;obtain⟨v,rfl,rfl,q⟩:=isSo_iff.1 hk;exact⟨v,h',n',q,hc⟩
theorem Pure.pur{f:FuncId}{args:List Value}{h:zB}{n:Nat}{v:Value}(r:Pure P ng f args h n v):Pur P ng f args h n v:=fun u=>by
 obtain⟨v',h',n',⟨rfl,rfl,rfl⟩,hc⟩:=r.does u;exact⟨_,_,_,⟨rfl,rfl,rfl⟩,hc⟩
end
def TabsH(tabs:List (Nat×List Value))(h:zB):Prop:=∀p∈tabs,(∃z,yF (zF h p.1)=some (p.2.length,z,2))∧∀i,zD h p.1 i=p.2[i]?
noncomputable def hasB(P:Program)(f:FuncId):Bool:=match P.funcs[f]? with
 | some fn=>match fn.body with
  | some _=> !(fn.name == "runtime.NumGoroutine")
  | none=>false
 | none=>false
section
variable {P:Program} {ng:Nat}
theorem hasB_of{f:FuncId}(h:hasB P f=true):∃fn body,P.funcs[f]? = some fn∧fn.body=some body∧(fn.name == "runtime.NumGoroutine")=false:=by
 unfold hasB at h;split at h
 · rename_i fn e;split at h
   · rename_i body e2;exact⟨fn,body,e,e2,by simpa using h⟩
   · cases h
 · cases h
theorem scal_one{ρ : Inj}{v v':Value}(hv:xF v=true)(r:RV ρ v v'):v'=v:=by
 cases r <;> first|(cases hv;done)|rfl
theorem TabsH.world{tabs:List (Nat×List Value)}{h:zB}{n:Nat}{ρ : Inj}{base:Nat}{w0 wd:World}(t:TabsH tabs h)(hg:∀p∈tabs,p.1<ng∧p.2.all xF=true)(r:HeapR P ng ρ base w0 h n wd):TabsIn wd tabs:=by
 intro p hp;obtain⟨⟨z,h1⟩,h2⟩:=t p hp;obtain⟨g1,g2⟩:=hg p hp;obtain⟨B,e1,e2⟩:=r.glob p.1 g1;have hl:zF h p.1≠.dead:=fun e=>by rw[e]at h1;cases h1
 obtain⟨o,q1,q2⟩:=r.obj p.1 B e1 hl;unfold zD at h2;cases ho:zF h p.1 <;> rw[ho]at h1 <;> first|(cases h1;done)|(exact absurd (kd_of h1) (by decide))|skip
 rename_i c k z' kd;have h1':some (k,z',kd)=some (p.2.length,z,2):=h1;simp only[Option.some.injEq,Prod.mk.injEq]at h1';obtain⟨rfl,rfl,rfl⟩:=h1';rw [ho]at q2 h2
 cases q2 with
 | cells hn hs hk hz hv hb hf =>
  rename_i c' el lo hi;rw [e2]at q1;have hsz:c'.size=p.2.length:=by rw[hs];exact(hk (by omega)).symm
  have:c'=⟨p.2⟩:=by
   apply Array.ext
   · simpa using hsz
   · intro i i1 i2;have i3:i<p.2.length:=by omega
     have r1:=hv i c'[i] i3 (Array.getElem?_eq_getElem i1);have r2:=h2 i;unfold xN at r2;dsimp only at r2;rw [if_pos i3,List.getElem?_eq_getElem i3]at r2;injection r2 with r2
     rw[r2]at r1;have:=scal_one (List.all_eq_true.1 g2 _ (List.getElem_mem i3)) r1;rw [this];rfl
  rw[this]at q1;exact⟨el,(lo,hi),q1⟩
theorem scals_same{ρ : Inj}{args args':List Value}(ha:args.all xF=true)(r:RVs ρ args args'):args'=args:=by
 apply List.ext_getElem?;intro i
 cases e:args[i]? with
 | none=>exact List.getElem?_eq_none (by rw[← r.1];exact List.getElem?_eq_none_iff.1 e)
 | some x=>
  obtain⟨x',e1,e2⟩:=r.at e;rw [e1,scal_one (List.all_eq_true.1 ha x (List.mem_iff_getElem?.2 ⟨i,e⟩)) e2]
theorem RV.scal_refl{ρ : Inj}{v:Value}(hv:xF v=true):RV ρ v v:=by
 cases v <;> first|(cases hv;done)|skip
 · exact .bool _
 · exact .int _ _
 · exact .string _
 · exact .nilFunc
 · exact .nilIface
def isRes(v:Value):Bool:=match v with
 | .tuple l=>l.toList.all xF
 | v=>xF v
theorem RV.res_refl{ρ : Inj}{v:Value}(hv:isRes v=true):RV ρ v v:=by
 cases v <;> first|(cases hv;done)|skip
 · exact .bool _
 · exact .int _ _
 · exact .string _
 · exact .nilFunc
 · exact .nilIface
 · rename_i l;refine .tuple rfl fun i w w' a b=>?_;rw [a]at b;injection b with b;subst b
   exact RV.scal_refl (List.all_eq_true.1 hv w (List.mem_iff_getElem?.2 ⟨i,a⟩))
theorem vK{f:FuncId}{args:List Value}{h:zB}{n:Nat}{v:Value}{tabs:List (Nat×List Value)}(hf:hasB P f=true)(ha:args.all xF=true)(hv:isRes v=true)(ht:TabsH tabs h)(hg:∀p∈tabs,p.1<ng∧p.2.all xF=true)
(H:∀wd:World,TabsIn wd tabs→Calls P f ⟨args⟩ wd fun e w'=>e = .returned v∧Go.RowKit.Below wd.heap.size wd w'):Pure P ng f args h n v:=by
 intro u k hk;refine loS_call.2 ⟨.ret v,u,h,n,hk _ _ _ ⟨rfl,rfl,rfl⟩,hasB_of hf,fun ρ base w0 wd args' cs hH hra hu=>?_⟩;obtain rfl:=scals_same ha hra;obtain⟨e,w',fr,⟨rfl,hb⟩,hc,hfn,hl⟩:=H wd (ht.world hg hH) cs;obtain⟨k1,k2⟩:=hH.stay hb;obtain⟨y1,y2,y3,y4⟩:=hl;exact⟨ρ,w',fr,cs,hc,k1,k2,CsTo.refl _ _,(fun e=>Bool.noConfusion e),hfn,v,y1,y2,y3,y4,RV.res_refl hv⟩
theorem row_of_calls{f:FuncId}{args:List Value}{h:zB}{n len cap:Nat}{cs:List Value}{el:TypeId}{tabs:List (Nat×List Value)}(hf:hasB P f=true)(ha:args.all xF=true)(hc:cs.all xF=true)(hlen:len≤cap)(hcap:cap≠inf)
(ht:TabsH tabs h)(hg:∀p∈tabs,p.1<ng∧p.2.all xF=true)
(H:∀wd:World,TabsIn wd tabs→Calls P f ⟨args⟩ wd fun e w'=>e = .returned (.slice (some ⟨wd.heap.size,0,none⟩) len cap)∧w'=wd.alloc (.cells ⟨cs⟩ el)) :
 Rets P ng f args h n fun v' h' n'=>v' = .slice (some ⟨n,0,none⟩) len cap∧h'=h.set .dead (mkC cs 0 0) n∧n'=n+1:=by
 intro u k hk;refine loS_call.2 ⟨_,u,_,_,hk _ _ _ ⟨rfl,rfl,rfl⟩,hasB_of hf,fun ρ base w0 wd args' cs' hH hra hu=>?_⟩;obtain rfl:=scals_same ha hra;obtain⟨e,w',fr,⟨rfl,rfl⟩,hcm,hfn,hl⟩:=H wd (ht.world hg hH) cs'
 have hrow:RVs ρ cs (⟨cs⟩:Array Value).toList:=⟨rfl,fun i v v' a b=>by
  have b':cs[i]? = some v':=b;rw [a]at b';injection b' with b';subst b'
  exact RV.scal_refl (List.all_eq_true.1 hc v (List.mem_iff_getElem?.2 ⟨i,a⟩))⟩
 obtain⟨k1,k2⟩:=hH.alloc (mkC cs 0 0) (.cells ⟨cs⟩ el) ⟨wd.heap.size,cs.length,0⟩ rfl (hH.newRow (cs:=cs) (cs':=⟨cs⟩) hrow el);obtain⟨y1,y2,y3,y4⟩:=hl;refine⟨_,_,fr,cs',hcm,k1,k2,CsTo.refl _ _,(fun e=>Bool.noConfusion e),hfn,_,y1,y2,y3,y4,?_⟩;exact .slice (B:=⟨wd.heap.size,cs.length,0⟩) (by show(if n=n then _ else _)=_;rw [if_pos rfl]) hcap hlen (.inl rfl)
end
section
variable {P:Program} {ng:Nat}
theorem Row.world{n:Nat}{h:zB}{v v':Value}{el len:Nat}{vs:List Value}{ρ : Inj}{base:Nat}{w0 wd:World}(r:Row n h v el 1 len vs)(hs:vs.all xF=true)(hH:HeapR P ng ρ base w0 h n wd)(hv:RV ρ v v') :
 (len=0∧∃a c,v' = .slice a 0 c)∨(∃bk o c,v' = .slice (some ⟨bk,o,none⟩) len c∧len≤c∧bk<wd.heap.size∧∀(j:Nat) x,vs[j]? = some x→wd.cell? ⟨bk,o+j,none⟩=some x):=by
 rcases r with⟨rfl,rfl,rfl⟩|⟨b,off,cap,m,z,kd,hb,rfl,hl,hi,hm,hr,hc⟩
 · cases hv;exact .inl ⟨rfl,_,_,rfl⟩
 · rw[Nat.mul_one]at hl;have hlive:zF h b≠.dead:=fun e=>by rw[e]at hi;cases hi
   have main:∀(B:Bl),ρ b=some B→B.b<wd.heap.size∧∀(j:Nat) x,vs[j]? = some x→wd.cell? ⟨B.b,off+j,none⟩=some x:=by
    intro B eB;obtain⟨o,q1,q2⟩:=hH.obj b B eB hlive
    have hsz:B.b<wd.heap.size:=by
     rcases Nat.lt_or_ge B.b wd.heap.size with h1|h1
     · exact h1
     · rw[Array.getElem?_eq_none h1]at q1;cases q1
    refine⟨hsz,fun j x hj=>?_⟩;have hcell:=hr j x hj;unfold zD at hcell;cases ho:zF h b <;> rw[ho]at hcell <;> first|(cases hcell;done)|skip
    rotate_left
    · rename_i c kn;rw [ho]at q2
      cases q2 with
      | rows hn hv' =>
       rename_i c' el fr;obtain⟨hcv,hu⟩:=rows_cell hcell
       have hlt:off+j<kn:=by
        rcases vT hcell with⟨_,_,_,_,e1,_⟩|⟨_,_,e1,e2,_⟩
        · cases e1
        · injection e1 with _ e1;subst e1;exact e2
       have h2:off+j<c'.size:=by omega
       have rr:=hv' (off+j) c'[off+j] (Array.getElem?_eq_getElem h2) (by rw[hcv];exact hu);rw [hcv]at rr;have e3:=scal_one (List.all_eq_true.1 hs x (List.mem_iff_getElem?.2 ⟨j,hj⟩)) rr;unfold World.cell?;dsimp only;rw [q1];show c'[off+j]? = some x;rw [Array.getElem?_eq_getElem h2,e3]
    rename_i c kn z' kd';unfold xN at hcell;dsimp only at hcell;rw [ho]at q2
    cases q2 with
    | cells hn hs' hk hz hv' hb' hf=>
     rename_i c' el lo hi';by_cases hlt:off+j<kn
     · rw[if_pos hlt]at hcell;injection hcell with hcell
       have h2:off+j<c'.size:=by omega
       have rr:=hv' (off+j) c'[off+j] hlt (Array.getElem?_eq_getElem h2);rw [hcell]at rr;have e3:=scal_one (List.all_eq_true.1 hs x (List.mem_iff_getElem?.2 ⟨j,hj⟩)) rr;unfold World.cell?;dsimp only;rw [q1];show c'[off+j]? = some x;rw [Array.getElem?_eq_getElem h2,e3]
     · rw[if_neg hlt]at hcell;cases hcell
   cases hv with
   | slice0 e a=>exact .inl ⟨rfl,_,_,rfl⟩
   | slice e hc' hlc ho=>
    rename_i B o';obtain⟨m1,m2⟩:=main B e;rcases ho with rfl|h0
    · exact .inr ⟨B.b,o',cap,rfl,hlc,m1,m2⟩
    · exact .inl ⟨by omega,_,_,by rw[show len=0 by omega]⟩
   | opened e hlc ho=>
    rename_i B o' c';obtain⟨m1,m2⟩:=main B e;rcases ho with⟨rfl,_⟩|⟨h0,_⟩
    · exact .inr ⟨B.b,o',c',rfl,hlc,m1,m2⟩
    · exact .inl ⟨by omega,_,_,by rw[show len=0 by omega]⟩
theorem pure_of_calls_row{f:FuncId}{sv:Value}{args:List Value}{h:zB}{n el len:Nat}{vs:List Value}{v:Value}{tabs:List (Nat×List Value)}(hf:hasB P f=true)(r:Row n h sv el 1 len vs)(hvs:vs.all xF=true)(ha:args.all xF=true)(hv:isRes v=true)
(ht:TabsH tabs h)(hg:∀p∈tabs,p.1<ng∧p.2.all xF=true)
(H:∀(wd:World) (sv':Value),TabsIn wd tabs→((len=0∧∃a c,sv' = .slice a 0 c)∨(∃bk o c,sv' = .slice (some ⟨bk,o,none⟩) len c∧len≤c∧bk<wd.heap.size∧∀(j:Nat) x,vs[j]? = some x→wd.cell? ⟨bk,o+j,none⟩=some x))→
  Calls P f ⟨sv'::args⟩ wd fun e w'=>e = .returned v∧Go.RowKit.Below wd.heap.size wd w'):Pure P ng f (sv::args) h n v:=by
 intro u k hk;refine loS_call.2 ⟨.ret v,u,h,n,hk _ _ _ ⟨rfl,rfl,rfl⟩,hasB_of hf,fun ρ base w0 wd args' cs hH hra hu=>?_⟩;obtain⟨sv',r',rfl,hsv,hr'⟩:=hra.of_cons;obtain rfl:=scals_same ha hr';obtain⟨e,w',fr,⟨rfl,hb⟩,hc,hfn,hl⟩:=H wd sv' (ht.world hg hH) (r.world hvs hH hsv) cs;obtain⟨k1,k2⟩:=hH.stay hb;obtain⟨y1,y2,y3,y4⟩:=hl;exact⟨ρ,w',fr,cs,hc,k1,k2,CsTo.refl _ _,(fun e=>Bool.noConfusion e),hfn,v,y1,y2,y3,y4,RV.res_refl hv⟩
end
def Bld(T:Nat)(h:zB)(b:Nat)(p sv:Value):Prop:=yF (zF h b)=some (2,T+1,0)∧zD h b 0=some p∧zD h b 1=some sv
structure OneTurned (w w':World) (g:Nat):Prop where
 os:w'.os=w.os
 tape:w'.tape=w.tape
 output:w'.output=w.output
 size:w'.heap.size=w.heap.size
 rest:∀c,c≠g→w'.heap[c]? = w.heap[c]?
section
variable {P:Program} {ng:Nat}
theorem Bld.world{T:Nat}{h:zB}{b n:Nat}{p sv:Value}{ρ : Inj}{base:Nat}{w0 wd:World}{B:Bl}(hB:Bld T h b p sv)(hH:HeapR P ng ρ base w0 h n wd)(e: ρ b=some B) :
 ∃x y c,zF h b = .cells c 2 (T+1) 0∧Tr.get undef c 0=p∧Tr.get undef c 1=sv∧wd.heap[B.b]? = some (.cells #[x,y] T (0,0))∧RV ρ p x∧RV ρ sv y∧base≤B.b∧B.n=2:=by
 obtain⟨h1,h2,h3⟩:=hB;have hlive:zF h b≠.dead:=fun e=>by rw[e]at h1;cases h1
 obtain⟨o,q1,q2⟩:=hH.obj b B e hlive;unfold zD at h2 h3;cases ho:zF h b <;> rw[ho]at h1 <;> first|(cases h1;done)|(exact absurd (kd_of h1) (by decide))|skip
 rename_i c kn z kd;have h1':some (kn,z,kd)=some (2,T+1,0):=h1;simp only[Option.some.injEq,Prod.mk.injEq]at h1';obtain⟨rfl,rfl,rfl⟩:=h1';rw [ho]at q2 h2 h3;have g0:Tr.get undef c 0=p:=by have:some (Tr.get undef c 0)=some p:=h2;injection this
 have g1:Tr.get undef c 1=sv:=by have:some (Tr.get undef c 1)=some sv:=h3;injection this
 cases q2 with
 | cells hn hs hk hz hv hb hf=>
  rename_i c' el lo hi;obtain⟨rfl,rfl⟩:=hf (by decide);have hel:T+1=el+1:=hz.2 rfl (by omega);obtain rfl:T=el:=by omega
  have hn2:=hk (by decide);have hsz:c'.size=2:=by omega
  have e0:c'[0]? = some (c'[0]'(by omega)):=Array.getElem?_eq_getElem (by omega);have e1:c'[1]? = some (c'[1]'(by omega)):=Array.getElem?_eq_getElem (by omega);have r0:=hv 0 _ (by omega) e0;have r1:=hv 1 _ (by omega) e1;rw [g0]at r0;rw [g1]at r1;refine⟨_,_,c,rfl,g0,g1,?_,r0,r1,hb (by decide),hn2.symm⟩;rw [q1];congr 2
  apply Array.ext
  · simp[hsz]
  · intro i i1 i2;have:i=0∨i=1:=by omega
    rcases this with rfl|rfl <;> rfl
theorem copyCheck_fresh{f:FuncId}{T b n:Nat}{h:zB}{sv:Value}(hf:hasB P f=true)(hB:Bld T h b (.pointer none) sv)
(H:∀(wd:World) (c:Nat),wd.cell? ⟨c,0,none⟩=some (.pointer none)→wd.shape? c=some (T,2)→wd.frozen? ⟨c,0,none⟩=false→
  Calls P f #[.pointer (some ⟨c,0,none⟩)] wd fun e w'=>e = .returned (.tuple #[])∧w'=wd.setCell ⟨c,0,none⟩ (.pointer (some ⟨c,0,none⟩))) :
 Rets P ng f [.pointer (some ⟨b,0,none⟩)] h n fun v h' n'=>v = .tuple #[]∧h'=h.set .dead (stC (zF h b) 0 [.pointer (some ⟨b,0,none⟩)]) b∧n'=n:=by
 intro u k hk;refine loS_call.2 ⟨_,u,_,_,hk _ _ _ ⟨rfl,rfl,rfl⟩,hasB_of hf,fun ρ base w0 wd args' cs hH hra hu=>?_⟩;obtain⟨v',r',rfl,hv,hr'⟩:=hra.of_cons;obtain rfl:=hr'.of_nil
 cases hv with
 | ptr e =>
  rename_i B;obtain⟨x,y,c,ho,g0,g1,q1,rx,ry,hbase,hBn⟩:=hB.world hH e;cases rx
  have hc0:wd.cell? ⟨B.b,0,none⟩=some (.pointer none):=by unfold World.cell?;dsimp only;rw [q1];rfl
  have hsh:wd.shape? B.b=some (T,2):=by unfold World.shape?;rw [q1];rfl
  have hfz:wd.frozen? ⟨B.b,0,none⟩=false:=by unfold World.frozen?;dsimp only;rw [q1];rfl
  obtain⟨e2,w',fr,⟨rfl,rfl⟩,hcm,hfn,hl⟩:=H wd B.b hc0 hsh hfz cs;obtain⟨y1,y2,y3,y4⟩:=hl
  have hheap:(wd.setCell ⟨B.b,0,none⟩ (.pointer (some ⟨B.b,0,none⟩))).heap[B.b]? = some (.cells #[.pointer (some ⟨B.b,0,none⟩),y] T (0,0)):=by
   unfold World.setCell;dsimp only;rw [Array.getElem?_modify,if_pos rfl,q1];rfl
  obtain⟨k1,k2⟩:=hH.turn e (by rw[ho];exact AObj.noConfusion) (stC (zF h b) 0 [.pointer (some ⟨b,0,none⟩)]) (.cells #[.pointer (some ⟨B.b,0,none⟩),y] T (0,0)) (wd.setCell ⟨B.b,0,none⟩ (.pointer (some ⟨B.b,0,none⟩))) hbase (by
   rw[ho];refine .cells (by omega) (by simp[hBn]) (fun _=>hBn.symm) ⟨fun h=>absurd h (by decide),fun _ _=>rfl⟩ (fun i v' hi e3=>?_) (fun _=>hbase) (fun _=>⟨rfl,rfl⟩);rw [Tr.get_ofListFrom];have hi2:i=0∨i=1:=by omega
   rcases hi2 with rfl|rfl
   · rw[if_pos (by simp)];have e4:some (Value.pointer (some ⟨B.b,0,none⟩))=some v':=e3;injection e4 with e4;subst e4
     exact .ptr e
   · rw[if_neg (by simp),g1];have e4:some y=some v':=e3;injection e4 with e4;subst e4
     exact ry) hheap (by simp[World.setCell]) (fun c hc=>by
   unfold World.setCell;dsimp only;rw [Array.getElem?_modify,if_neg (fun h=>hc h.symm)]) rfl rfl rfl
  exact⟨ρ,_,fr,cs,hcm,k1,k2,CsTo.refl _ _,(fun e=>Bool.noConfusion e),hfn,_,y1,y2,y3,y4,RV.res_refl rfl⟩
theorem copyCheck_used{f:FuncId}{T b n:Nat}{h:zB}{sv:Value}(hf:hasB P f=true)(hB:Bld T h b (.pointer (some ⟨b,0,none⟩)) sv)
(H:∀(wd:World) (c:Nat),wd.cell? ⟨c,0,none⟩=some (.pointer (some ⟨c,0,none⟩))→Calls P f #[.pointer (some ⟨c,0,none⟩)] wd fun e w'=>e = .returned (.tuple #[])∧w'=wd) :
 Rets P ng f [.pointer (some ⟨b,0,none⟩)] h n fun v h' n'=>v = .tuple #[]∧h'=h∧n'=n:=by
 intro u k hk;refine loS_call.2 ⟨_,u,_,_,hk _ _ _ ⟨rfl,rfl,rfl⟩,hasB_of hf,fun ρ base w0 wd args' cs hH hra hu=>?_⟩;obtain⟨v',r',rfl,hv,hr'⟩:=hra.of_cons;obtain rfl:=hr'.of_nil
 cases hv with
 | ptr e =>
  rename_i B;obtain⟨x,y,c,ho,g0,g1,q1,rx,ry,hbase,hBn⟩:=hB.world hH e
  cases rx with
  | ptr e'=>
   rename_i B';rw [e]at e';injection e' with e'
   subst e';have hc0:wd.cell? ⟨B.b,0,none⟩=some (.pointer (some ⟨B.b,0,none⟩)):=by unfold World.cell?;dsimp only;rw [q1];rfl
   obtain⟨e2,w',fr,⟨rfl,rfl⟩,hcm,hfn,hl⟩:=H wd B.b hc0 cs;obtain⟨y1,y2,y3,y4⟩:=hl;exact⟨ρ,_,fr,cs,hcm,hH,Grow.refl _ _ _ _ hH.dom,CsTo.refl _ _,(fun e=>Bool.noConfusion e),hfn,_,y1,y2,y3,y4,RV.res_refl rfl⟩
abbrev uD(l:List UInt8):List Value:=l.map fun b=>Value.int .u8 (b.toNat:Nat)
theorem builder_String{f:FuncId}{T e8 b lo n:Nat}{h:zB}{p sv:Value}{l:List UInt8}(hf:hasB P f=true)(hB:Bld T h b p sv)(ho:Own lo n h sv e8 1 l.length (uD l))(hne:yE sv≠some b)(hlen:l.length<1000000)
(H0:∀(wd:World) (c:Nat) (x:Value),wd.heap[c]? = some (.cells #[x,.slice none 0 0] T (0,0))→Calls P f #[.pointer (some ⟨c,0,none⟩)] wd fun e w'=>e = .returned (.string ⟨#[]⟩)∧Go.RowKit.Below wd.heap.size wd w')
(H:∀(wd:World) (c g cap:Nat) (x:Value) (cur:Array Value),l≠[]→wd.heap[c]? = some (.cells #[x,.slice (some ⟨g,0,none⟩) l.length cap] T (0,0))→wd.heap[g]? = some (.cells cur e8 (0,0))→l.length≤cap→cap≤cur.size→
  (∀(j:Nat) (y:UInt8),l[j]? = some y→cur[j]? = some (.int .u8 (y.toNat:Nat)))→Calls P f #[.pointer (some ⟨c,0,none⟩)] wd fun e w'=>e = .returned (.string ⟨⟨l⟩⟩)∧OneTurned wd w' g) :
 Rets P ng f [.pointer (some ⟨b,0,none⟩)] h n fun v h' n'=>v=str l∧n'=n∧(∀b',yE sv≠some b'→zF h' b'=zF h b'):=by
 intro u k hk;rcases ho with⟨rfl,h0,h1⟩|⟨b2,q1,q2,rfl,q3,q4,q5,q6⟩
 · have hl0:l=[]:=List.length_eq_zero_iff.1 h0;subst hl0;refine loS_call.2 ⟨_,u,_,_,hk _ _ _ ⟨rfl,rfl,fun _ _=>rfl⟩,hasB_of hf,fun ρ base w0 wd args' cs hH hra hu=>?_⟩;obtain⟨v',r',rfl,hv,hr'⟩:=hra.of_cons;obtain rfl:=hr'.of_nil
   cases hv with
   | ptr e=>
    rename_i B;obtain⟨x,y,c,ho,g0,g1,w1,rx,ry,hbase,hBn⟩:=hB.world hH e;cases ry
    obtain⟨e2,w',fr,⟨rfl,hbl⟩,hcm,hfn,hl⟩:=H0 wd B.b x w1 cs;obtain⟨y1,y2,y3,y4⟩:=hl;obtain⟨k1,k2⟩:=hH.stay hbl;exact⟨ρ,_,fr,cs,hcm,k1,k2,CsTo.refl _ _,(fun e=>Bool.noConfusion e),hfn,_,y1,y2,y3,y4,RV.res_refl rfl⟩
 · refine loS_call.2 ⟨.ret (str l),u,h.set .dead .dead b2,n,hk _ _ _ ⟨rfl,rfl,fun b' hb'=>?_⟩,hasB_of hf,fun ρ base w0 wd args' cs hH hra hu=>?_⟩
   · rw[zK,if_neg (fun e=>hb' (by rw[e];rfl))]
   · obtain⟨v',r',rfl,hv,hr'⟩:=hra.of_cons;obtain rfl:=hr'.of_nil
     cases hv with
     | ptr e=>
      rename_i B;obtain⟨x,y,c,ho,g0,g1,w1,rx,ry,hbase,hBn⟩:=hB.world hH e;have hlive:zF h b2≠.dead:=fun e=>by rw[e]at q3;cases q3
      rcases ry.of_slice with⟨G,o',c',eg,rfl,_,hl',⟨hc,_⟩|⟨_,hog⟩⟩|⟨_,hc,_⟩
      · exact absurd rfl hc
      rotate_left
      · exact absurd hc (by decide)
      · skip
        obtain⟨o,z1,z2⟩:=hH.obj b2 G eg hlive;unfold zD at q6;cases hob:zF h b2 <;> rw[hob]at q3 <;> first|(cases q3;done)|(exact absurd (kd_of q3) (by decide))|skip
        rename_i cc kn z kd;have h1':some (kn,z,kd)=some ((uD l).length,zc e8 1,1):=q3;simp only[Option.some.injEq,Prod.mk.injEq]at h1';obtain⟨rfl,rfl,rfl⟩:=h1';rw [hob]at z2 q6
        cases z2 with
        | cells hn hs hk' hz hv hb hf' =>
         rename_i cur el lo' hi';obtain⟨rfl,rfl⟩:=hf' (by decide);obtain⟨hel,hGz⟩:=zc_inj (hz.1 rfl);subst hel
         have hc':o'=0∧0+c'*G.z=G.n:=by
          rcases hog with h9|⟨_,h9⟩
          · exact h9
          · exact absurd h9 (Nat.lt_irrefl _)
         obtain⟨rfl,hcn⟩:=hc';rw [← hGz]at hcn
         have hcur:∀(j:Nat) (y:UInt8),l[j]? = some y→cur[j]? = some (.int .u8 (y.toNat:Nat)):=by
          intro j y hj;have hjl:j<l.length:=(List.getElem?_eq_some_iff.1 hj).1;have hjk:j<(uD l).length:=by simpa using hjl
          have r2:=q6 j;unfold xN at r2;dsimp only at r2;rw [if_pos hjk]at r2;have e5:(uD l)[j]? = some (.int .u8 (y.toNat:Nat)):=by rw[List.getElem?_map,hj];rfl
          rw[e5]at r2;injection r2 with r2
          have hjc:j<cur.size:=by omega
          have r1:=hv j cur[j] hjk (Array.getElem?_eq_getElem hjc);rw [r2]at r1;rw [Array.getElem?_eq_getElem hjc,scal_one rfl r1]
         obtain⟨e2,w',fr,⟨rfl,ht⟩,hcm,hfn,hl⟩:=H wd B.b G.b c' x cur (fun e9=>by rw[e9]at q5;exact absurd q5 (Nat.lt_irrefl _)) w1 z1 hl' (by omega) hcur cs;obtain⟨y1,y2,y3,y4⟩:=hl;obtain⟨k1,k2⟩:=hH.kill b2;have hGbase:base≤G.b:=hb (by decide)
         have hother:∀a A,ρ a=some A→zF (h.set .dead .dead b2) a≠.dead→A.b≠G.b:=by
          intro a A ea hla heq;rw [zK]at hla;by_cases hab:b2=a
          · rw[if_pos hab]at hla;exact hla rfl
          · rw[if_neg hab]at hla;exact hab (hH.inj b2 a G A eg ea hlive hla heq.symm)
         refine⟨ρ,w',fr,cs,hcm,⟨k1.dom,fun a A ea hla=>?_,k1.inj,?_,by rw[ht.size];exact k1.size,k1.glob,k1.ngn⟩,⟨k2.nn,k2.old,k2.new,fun cx hcx hk9=>?_,by rw[ht.size];exact Nat.le_refl _,k2.dead,ht.tape⟩,CsTo.refl _ _,(fun e=>Bool.noConfusion e),hfn,_,y1,y2,y3,y4,RV.res_refl rfl⟩
         · obtain⟨o1,p1,p2⟩:=k1.obj a A ea hla;exact⟨o1,by rw[ht.rest _ (hother a A ea hla)];exact p1,p2⟩
         · exact k1.below.trans ⟨ht.os,ht.tape,ht.output,by rw[ht.size];exact Nat.le_refl _,fun kx hkx=>ht.rest kx (by omega)⟩
         · exact ht.rest cx (fun h9=>hk9 b2 G eg hlive h9.symm)
end
end Go.Ex
namespace Go.Ex
open Go
def vE(c:UInt8):List UInt8→List UInt8×List UInt8×Bool
 | []=>([],[],false)
 | x::r=>if x=c then([],r,true) else(x::(vE c r).1,(vE c r).2.1,(vE c r).2.2)
def zO(c:UInt8):List UInt8→List (List UInt8)
 | []=>[[]]
 | x::r=>if x=c then []::zO c r else match zO c r with
  | []=>[[x]]
  | h::t=>(x::h)::t
theorem wR(c:UInt8):∀s,zO c s≠[]:=by
 intro s
 induction s with
 | nil=>simp [zO]
 | cons x r ih=>
  unfold zO;split
  · simp
  · split <;> simp
theorem cutB_idx(c:UInt8):∀s:List UInt8,(Lib.index s [c] = -1∧vE c s=(s,[],false)∧c∉s)∨(∃i:Nat,Lib.index s [c]=i∧vE c s=(s.take i,s.drop (i+1),true)∧i<s.length∧s=s.take i++c::s.drop (i+1)∧c∉s.take i):=by
 intro s
 induction s with
 | nil=>exact .inl ⟨rfl,rfl,by simp⟩
 | cons x r ih=>
  by_cases h:x=c
  · subst h;refine .inr ⟨0,?_,?_,by simp,by simp,by simp⟩
    · unfold Lib.index;simp
    · unfold vE;simp
  · have hp:([c].isPrefixOf (x::r))=false:=by simp[List.isPrefixOf];exact fun e=>h e.symm
    rcases ih with⟨h1,h2,h3⟩|⟨i,h1,h2,h3,h4,h5⟩
    · refine .inl ⟨?_,?_,?_⟩
      · unfold Lib.index;rw [hp,h1];rfl
      · unfold vE;rw [if_neg h,h2]
      · intro hm;rcases List.mem_cons.1 hm with e|e
        · exact h e.symm
        · exact h3 e
    · refine .inr ⟨i+1,?_,?_,by simp;exact h3,?_,?_⟩
      · unfold Lib.index;rw [hp,h1];have:((i:Int) == -1)=false:=by simp
        rw[this];simp
      · unfold vE;rw [if_neg h,h2];simp
      · simp only[List.take_succ_cons,List.drop_succ_cons,List.cons_append];rw [← h4]
      · simp only[List.take_succ_cons,List.mem_cons,not_or];exact⟨fun e=>h e.symm,h5⟩
theorem cut_one(c:UInt8)(s:List UInt8):Lib.cut s [c]=vE c s:=by
 unfold Lib.cut;rcases cutB_idx c s with⟨h1,h2,_⟩|⟨i,h1,h2,h3,_⟩
 · rw[h1,h2];rfl
 · rw[h1,h2,if_pos (by omega)];simp
theorem splitL_cut(c:UInt8):∀s:List UInt8,zO c s=if (vE c s).2.2 then(vE c s).1::zO c (vE c s).2.1 else [s]:=by
 intro s
 induction s with
 | nil=>rfl
 | cons x r ih =>
  have e1:zO c (x::r)=if x=c then []::zO c r else match zO c r with
   | []=>[[x]]
   | h::t=>(x::h)::t:=rfl
  have e2:vE c (x::r)=if x=c then([],r,true) else(x::(vE c r).1,(vE c r).2.1,(vE c r).2.2):=rfl
  rw[e1,e2];by_cases h:x=c
  · rw[if_pos h,if_pos h];rfl
  · rw[if_neg h,if_neg h,ih];by_cases hb:(vE c r).2.2=true
    · rw[if_pos hb];dsimp only;rw [if_pos hb]
    · rw[if_neg hb];dsimp only;rw [if_neg hb]
theorem countFrom_one(c:UInt8):∀(k:Nat) (s:List UInt8),s.length<k→Lib.countFrom [c] k s=s.count c:=by
 intro k
 induction k with
 | zero=>intro s h;omega
 | succ k ih=>
  intro s h;unfold Lib.countFrom;rcases cutB_idx c s with⟨h1,_,h3⟩|⟨i,h1,_,h3,h4,h5⟩
  · rw[h1,List.count_eq_zero_of_not_mem h3];rfl
  · have hi:(Lib.index s [c] == -1)=false:=by rw[h1];simp
    rw[hi,h1];simp only[Bool.false_eq_true,if_false,Int.toNat_natCast,List.length_singleton];rw [ih (s.drop (i+1)) (by rw[List.length_drop];omega)]
    have:s.count c=(s.take i).count c+((s.drop (i+1)).count c+1):=by
     conv=>lhs;rw [h4]
     rw[List.count_append,List.count_cons_self]
    rw[this,List.count_eq_zero_of_not_mem h5];omega
theorem splitK_one(c:UInt8):∀(k:Nat) (s:List UInt8),s.count c≤k→Lib.splitK [c] 0 k s=zO c s:=by
 intro k
 induction k with
 | zero=>
  intro s h;rw [splitL_cut];rcases cutB_idx c s with⟨_,h2,_⟩|⟨i,_,_,_,h4,_⟩
  · rw[h2];rfl
  · rw[h4,List.count_append,List.count_cons_self]at h;omega
 | succ k ih=>
  intro s h;rw [splitL_cut];unfold Lib.splitK;rcases cutB_idx c s with⟨h1,h2,_⟩|⟨i,h1,h2,h3,h4,_⟩
  · rw[h1,h2];rfl
  · have hi:(Lib.index s [c] == -1)=false:=by rw[h1];simp
    rw[hi,h2,h1]
    have hc:(s.drop (i+1)).count c≤k:=by
     rw[h4,List.count_append,List.count_cons_self]at h;omega
    have:=ih (s.drop (i+1)) hc;simp only[Bool.false_eq_true,if_false,if_true,Int.toNat_natCast,Nat.add_zero,List.length_singleton];rw [this]
theorem split_one(c:UInt8)(s:ByteArray):(Lib.splitB ⟨#[c]⟩ 0 (Lib.countB s ⟨#[c]⟩) s).map (·.data.toList)=zO c s.data.toList:=by
 rw[Lib.splitB_data];refine splitK_one c _ _ ?_;show _≤Lib.countFrom [c] (s.data.toList.length+1) s.data.toList;rw [countFrom_one c _ _ (by omega)];exact Nat.le_refl _
theorem count_one(c:UInt8)(s:ByteArray):Lib.countB s ⟨#[c]⟩=s.data.toList.count c:=countFrom_one c _ _ (by omega)
theorem splitL_length(c:UInt8):∀s,(zO c s).length=s.count c+1:=by
 intro s
 induction s with
 | nil=>rfl
 | cons x r ih=>
  unfold zO;by_cases h:x=c
  · subst h;simp [ih]
  · rw[if_neg h,List.count_cons_of_ne h];split
    · rename_i e;exact absurd e (wR c r)
    · rename_i a b e;rw [e]at ih;simpa using ih
end Go.Ex
namespace Go.Ex
section
open Go.Shelf Go.RowKit Go.Proofs
variable {P:Program} {ρ : Ren}
theorem freeze_one(w:World)(g m:Nat):OneTurned w (w.freeze ⟨g,0,none⟩ m) g:=by
 unfold World.freeze;split
 · exact⟨rfl,rfl,rfl,rfl,fun _ _=>rfl⟩
 · refine⟨rfl,rfl,rfl,by simp,fun c hc=>?_⟩;dsimp only;rw [Array.getElem?_modify,if_neg (fun h=>hc h.symm)]
theorem OneTurned.drew{w w':World}{g:Nat}(h:OneTurned w.drew w' g):OneTurned w w' g:=⟨h.os,h.tape,h.output,h.size,h.rest⟩
set_option maxHeartbeats 1000000 in
set_option maxRecDepth 100000 in
theorem string_model(L:Lays.n169 P ρ)(X:Builder.Extra P ρ)(b g cap:Nat)(p:Value)(cur:Array Value)(l:List UInt8)(w:World)(h0:l≠[])(hmx:l.length<1000000)(hbk:w.heap[b]? = some (.cells #[p,.slice (some ⟨g,0,none⟩) l.length cap] (ρ.t 72) (0,0)))(hg:w.heap[g]? = some (.cells cur (ρ.t 5) (0,0)))
(hnc:l.length≤cap)(hcs:cap≤cur.size)(hcur:∀(j:Nat) (y:UInt8),l[j]? = some y→cur[j]? = some (.int .u8 (y.toNat:Nat))) :
 Calls P (ρ.f 169) #[.pointer (some ⟨b,0,none⟩)] w fun e w'=>e = .returned (.string ⟨l.toArray⟩)∧OneTurned w w' g:=by
 have hl0:l.length≠0:=by simpa using h0
 have c1:w.drew.cell? ⟨b,1,none⟩=some (.slice (some ⟨g,0,none⟩) l.length cap):=by
  have:w.drew.heap[b]? = some (.cells #[p,.slice (some ⟨g,0,none⟩) l.length cap] (ρ.t 72) (0,0)):=hbk;rw [Lib.cell_of_heap this];rfl
 have hSD:(Builtin.unsafeSliceData_ #[(ρ.t 37)] (ρ.t 127) #[.slice (some ⟨g,0,none⟩) l.length cap]).run P w.drew = .ok (.pointer (some ⟨g,0,none⟩)) w.drew:=
  Lib.run_unsafeSliceData_row _ _ _ _ _ _ (by omega)
 have hUS:(Builtin.unsafeString_ #[(ρ.t 127),(ρ.t 3)] (ρ.t 9) #[.pointer (some ⟨g,0,none⟩),.int .i64 l.length]).run P w.drew = .ok (.string ⟨l.toArray⟩) (w.drew.freeze ⟨g,0,none⟩ l.length):=by
  refine Lib.run_unsafeString_row w.drew (ρ.t 127) (ρ.t 3) (ρ.t 9) (ρ.t 5) L.t127 X.cellsByte g cur.size (by have hg':w.drew.heap[g]? = some (.cells cur (ρ.t 5) (0,0)):=hg;simp [World.shape?,hg']) l h0 (by omega) (by omega) ?_;intro j x hx;have hg':w.drew.heap[g]? = some (.cells cur (ρ.t 5) (0,0)):=hg;have e9:Addr.add ⟨g,0,none⟩ j=⟨g,j,none⟩:=by simp[Addr.add];omega
  rw[e9,Lib.cell_of_heap hg'];exact hcur j x hx
 have mixed:=L.mixed;have t72:=L.t72;have a72:=L.a72;have z72:=L.z72;have v72:=L.v72;have u72:=run_underlying L.t72;have t70:=L.t70;have a70:=L.a70;have z70:=L.z70;have v70:=L.v70;have u70:=run_underlying L.t70;have t37:=L.t37;have a37:=L.a37;have z37:=L.z37;have v37:=L.v37;have u37:=run_underlying L.t37;have t127:=L.t127;have a127:=L.a127;have z127:=L.z127;have v127:=L.v127;have u127:=run_underlying L.t127;have t3:=L.t3;have a3:=L.a3;have z3:=L.z3;have v3:=L.v3;have u3:=run_underlying L.t3;have t9:=L.t9;have a9:=L.a9;have z9:=L.z9;have v9:=L.v9;have u9:=run_underlying L.t9;have t5:=X.t5;have a5:=X.a5;have z5:=X.z5;have v5:=X.v5;have u5:=run_underlying X.t5
 go_enter L.f169,Body.n169_ntmps ρ
 go_wp2
 go_region_o
 all_goals (go_wp2;go_ret;exact⟨rfl,(freeze_one _ _ _).drew⟩)
end
end Go.Ex
namespace Go.Ex
section
variable {P:Program} {sT xT e:Nat} {cx:Cx} {d:List Deferred} {u:Option zJ} {h:zB} {n:Nat} {K:W→Value→Prop}
end
end Go.Ex
namespace Go.Ex
section
variable {P:Program} {ng:Nat}
noncomputable def mkB(P:Program)(ty:Nat)(z:Value):Bool:=match und P ty with
  | some (.slice e) => match yT P e, inf? P e with
    | some v,some ei=>(match cellsOf v with|[x]=>scalB x z|_=>false) && (Nat.beq ei.size 1 && Nat.blt ei.bytes 100000)
    | _,_=>false
  | _=>false
 class MkC (P:Program) (ty:Nat) (z:outParam Value):Prop where ok:mkB P ty z=true
def MkS(P:Program)(ty:Nat)(a b:Value)(p:Nat×List Value):Prop:=wT P ty a b=some (mkC p.2 0 0,p.1,p.1)
section
variable {cx:Cx} {t:Fr} {l:List (Nat×Value)} {d:List Deferred} {u:Option zJ} {h:zB} {n:Nat} {K:W→Value→Prop} {Kp:zJ→W→Prop}
instance {ty:Nat} {x y:Operand}:Stp (OpB P ng (.makeSlice ty x y) cx (FA l t) ⟨d,u,h,n⟩ K Kp) (Ob (Ev l t x) fun a=>Ob (Ev l t y) fun b=>Ob (MkS P ty a b) fun p=>K ⟨d,u,hal h n (mkC p.2 0 0),n+1⟩ (.slice (some ⟨n,0,none⟩) p.1 p.1)):=
 ⟨fun⟨a,h1,b,h2,p,h3,h4⟩=>e_of rfl (by
  show(match wT P ty (ev (FA l t) x) (ev (FA l t) y) with
   | some (ob,i,m)=>zV h n ob fun h' n'=>xE (K ⟨d,u,h',n'⟩ (.slice (some ⟨n,0,none⟩) i m))
   | none=>false)=true
  rw[yK,yK,show evb l t x=a from h1,show evb l t y=b from h2,show wT P ty a b=_ from h3];show zV h n (mkC p.2 0 0) _=true;rw [xJ];exact isSo_iff.2 h4)⟩
def IadA(len sz:Nat)(s i q:Value):Prop:=∃b off k j,s = .pointer (some ⟨b,off,none⟩)∧i = .int k (.ofNat j)∧j<len∧q = .pointer (some ⟨b,off+j*sz,none⟩)
instance {ty len sz:Nat} [s:IxC P ty (.array len sz)] {x i:Operand} {w:W}:Stp (OpB P ng (.indexAddr ty x i) cx (FA l t) w K Kp) (Ob (Ev l t x) fun p=>Ob (Ev l t i) fun j=>Ob (IadA len sz p j) (K w)):=
 ⟨fun⟨p,h1,j,h2,q,⟨b,off,k,m,e1,e2,e3,e4⟩,h3⟩=>opB_q (v:=q) (by
  show(onInt (ev (FA l t) i) (fun _ i=>Int.rec (fun i=>Ix.rec none
   (fun sz=>onSlice (ev (FA l t) x) (fun b off len _=>Bool.rec none (some (.pointer (some ⟨b,Nat.add off (Nat.mul i sz),none⟩))) (Nat.blt i len)) none)
   (fun len sz=>onPtr (ev (FA l t) x) (fun b off=>Bool.rec none (some (.pointer (some ⟨b,Nat.add off (Nat.mul i sz),none⟩))) (Nat.blt i len)) none) (ixOf P ty)) (fun _=>none) i) none:Option Value)=_
  rw[yK,yK,show evb l t x=p from h1,show evb l t i=j from h2,e1,e2,s.ok];show(Bool.rec none (some (.pointer (some ⟨b,Nat.add off (Nat.mul m sz),none⟩))) (Nat.blt m len):Option Value)=_;rw [xO e3,e4];rfl) h3⟩
end
section
variable {b:Code} {cx:Cx} {t:Fr} {w:W} {Q:QX}
instance:Stp (rndQ P ng b cx Q .normal t w) (WC P ng (.loop b) cx t w Q):=⟨id⟩
instance {i:Nat}:Stp (rndQ P ng b cx Q (.exit i) t w) (Q (.exit i) t w):=⟨id⟩
instance:Stp (rndQ P ng b cx Q .ret t w) (Q .ret t w):=⟨id⟩
instance {c:zJ}:Stp (rndQ P ng b cx Q (.panic c) t w) (Q (.panic c) t w):=⟨id⟩
end
end
end Go.Ex
namespace Go.Ex
section
variable {P:Program} {ng:Nat}
def ErrH(h:zB)(g:Nat):Prop:=∃z,yF (zF h g)=some (1,z,2)∧∃te v,zD h g 0=some (.iface te v)
theorem ErrH.tch{S:List Nat}{h h':zB}{n n' g:Nat}(t:ErrH h g)(e:Tch S h n h' n')(hl:g<n)(hS:g∉S):ErrH h' g:=by
 have he:=e.2 g hl hS;obtain⟨z,a,te,v,b⟩:=t;exact⟨z,by rw[he];exact a,te,v,by unfold zD;rw [he];exact b⟩
theorem ErrH.world{h:zB}{g n:Nat}{ρ : Inj}{base:Nat}{w0 wd:World}(t:ErrH h g)(hg:g<ng)(r:HeapR P ng ρ base w0 h n wd):∃te pe,wd.cell? ⟨g,0,none⟩=some (.iface te pe):=by
 obtain⟨z,h1,te,v,h2⟩:=t;obtain⟨B,e1,e2⟩:=r.glob g hg;have hl:zF h g≠.dead:=fun e=>by rw[e]at h1;cases h1
 obtain⟨o,q1,q2⟩:=r.obj g B e1 hl;unfold zD at h2;cases ho:zF h g <;> rw[ho]at h1 <;> first|(cases h1;done)|skip
 rename_i c k z' kd;have h1':some (k,z',kd)=some (1,z,2):=h1;simp only[Option.some.injEq,Prod.mk.injEq]at h1';obtain⟨rfl,rfl,rfl⟩:=h1';rw [ho]at q2 h2
 cases q2 with
 | cells hn hs hk hz hv hb hf =>
  rename_i c' el lo hi;rw [e2]at q1;have hsz:c'.size=1:=by rw[hs];exact(hk (by omega)).symm
  have h3:some (Tr.get undef c 0)=some (Value.iface te v):=h2;injection h3 with h3
  have e0:c'[0]? = some (c'[0]'(by omega)):=Array.getElem?_eq_getElem (by omega);have r0:=hv 0 _ (by omega) e0;rw [h3]at r0;generalize hx:c'[0]'(by omega)=x at r0 e0
  cases r0 with
  | iface r=>
   rename_i v';refine⟨te,v',?_⟩;unfold World.cell?;dsimp only;rw [q1];exact e0
theorem HeapR.put_dead{ρ : Inj}{base:Nat}{w0:World}{h:zB}{n:Nat}{wd wd':World}(r:HeapR P ng ρ base w0 h n wd)(hb:Go.RowKit.Below wd.heap.size wd wd')(B:Bl)(hN:wd.heap.size≤B.b) :
 HeapR P ng (ρ.put n B) base w0 (h.set .dead .dead n) (n+1) wd'∧Grow ρ h n wd (ρ.put n B) (h.set .dead .dead n) (n+1) wd':=by
 obtain⟨k1,k2⟩:=r.stay hb;have hn: ρ n=none:=r.dom n (Nat.le_refl _);have hle:=Inj.le_put B hn;have old:∀b,b≠n→(ρ.put n B) b = ρ b:=fun b hb=>by simp[Inj.put,hb]
 refine⟨⟨fun b hb=>?_,fun b C e hl=>?_,fun a b A C ea eb hla hlb hAC=>?_,k1.below,k1.size,fun g hg=>?_,?_⟩,⟨Nat.le_succ _,fun b hb=>old b (by omega),fun b C hb e=>?_,k2.keep,k2.size,fun b hb e=>?_,k2.tape⟩⟩
 · rw[old b (by omega)];exact r.dom b (by omega)
 · rw[zK]at hl ⊢;by_cases hbn:n=b
   · rw[if_pos hbn]at hl;exact absurd rfl hl
   · rw[if_neg hbn]at hl ⊢;rw [old b (fun e=>hbn e.symm)]at e;obtain⟨o,q1,q2⟩:=k1.obj b C e hl;exact⟨o,q1,q2.mono hle⟩
 · rw[zK]at hla hlb;by_cases h1:n=a
   · rw[if_pos h1]at hla;exact absurd rfl hla
   · by_cases h2:n=b
     · rw[if_pos h2]at hlb;exact absurd rfl hlb
     · rw[if_neg h1]at hla;rw [if_neg h2]at hlb;rw [old a (fun e=>h1 e.symm)]at ea;rw [old b (fun e=>h2 e.symm)]at eb;exact r.inj a b A C ea eb hla hlb hAC
 · obtain⟨C,e1,e2⟩:=r.glob g hg;exact⟨C,by rw[old g (by have:=r.ngn;omega)];exact e1,e2⟩
 · have:=r.ngn;omega
 · by_cases hbn:b=n
   · subst hbn;have:C=B:=by simpa [Inj.put] using e.symm
     subst this;exact .inl hN
   · rw[old b hbn,r.dom b hb]at e;cases e
 · rw[zK];split
   · rfl
   · exact e
theorem err_of_calls{f:FuncId}{args:List Value}{h:zB}{n g:Nat}{x:Int}{T:TypeId}(hf:hasB P f=true)(ha:args.all xF=true)(hE:ErrH h g)(hg:g<ng)
(H:∀wd:World,(∃te pe,wd.cell? ⟨g,0,none⟩=some (.iface te pe))→Calls P f ⟨args⟩ wd fun e w'=>∃N,e = .returned (.tuple #[.int .i64 x,.iface T (.pointer (some ⟨N,0,none⟩))])∧wd.heap.size≤N∧Go.RowKit.Below wd.heap.size wd w') :
 Rets P ng f args h n fun v h' n'=>v = .tuple #[.int .i64 x,.iface T (.pointer (some ⟨n,0,none⟩))]∧Tch [] h n h' n':=by
 intro u k hk;refine loS_call.2 ⟨.ret (.tuple #[.int .i64 x,.iface T (.pointer (some ⟨n,0,none⟩))]),u,h.set .dead .dead n,n+1,hk _ _ _ ⟨rfl,Nat.le_succ _,fun b hb _=>by rw[zK,if_neg (by omega)]⟩,hasB_of hf,fun ρ base w0 wd args' cs' hH hra hu=>?_⟩;obtain rfl:=scals_same ha hra;obtain⟨e,w',fr,⟨N,rfl,hN,hbl⟩,hcm,hfn,hl⟩:=H wd (hE.world hg hH) cs';obtain⟨k1,k2⟩:=hH.put_dead hbl ⟨N,1,0⟩ hN;obtain⟨y1,y2,y3,y4⟩:=hl;refine⟨_,_,fr,cs',hcm,k1,k2,CsTo.refl _ _,(fun e=>Bool.noConfusion e),hfn,_,y1,y2,y3,y4,?_⟩;refine .tuple rfl fun i w w' a b=>?_;have hi:i=0∨i=1∨2≤i:=by omega
 rcases hi with rfl|rfl|hi
 · have a':some (Value.int .i64 x)=some w:=a;have b':some (Value.int .i64 x)=some w':=b;injection a' with a';injection b' with b';subst a' b';exact .int _ _
 · have a':some (Value.iface T (.pointer (some ⟨n,0,none⟩)))=some w:=a;have b':some (Value.iface T (.pointer (some ⟨N,0,none⟩)))=some w':=b;injection a' with a';injection b' with b';subst a' b'
   exact .iface (.ptr (B:=⟨N,1,0⟩) (by simp[Inj.put]))
 · have a':([Value.int .i64 x,.iface T (.pointer (some ⟨n,0,none⟩))])[i]? = some w:=a;rw [List.getElem?_eq_none (by simpa using hi)]at a';cases a'
theorem Rets.ret{f:FuncId}{args:List Value}{h:zB}{n:Nat}{Q:Value→zB→Nat→Prop}(r:Rets P ng f args h n Q):Ret P ng f args h n Q:=fun u=>by
 obtain⟨v,h',n',q,c⟩:=r.does u;exact⟨.ret v,h',n',⟨v,rfl,q⟩,c⟩
theorem TabsH.tch{S:List Nat}{tabs:List (Nat×List Value)}{h h':zB}{n n':Nat}(t:TabsH tabs h)(e:Tch S h n h' n')(hl:∀p∈tabs,p.1<n)(hS:∀p∈tabs,p.1∉S):TabsH tabs h':=fun p hp=>by
 obtain⟨h1,h2⟩:=t p hp;have he:=e.2 _ (hl p hp) (hS p hp);exact⟨by rw[he];exact h1,fun i=>by unfold zD;rw [he];exact h2 i⟩
end
end Go.Ex
namespace Go.Ex
def Sub(l h:zB):Prop:=∀b,zF l b = .dead∨zF h b=zF l b
theorem Sub.refl(h:zB):Sub h h:=fun _=>.inr rfl
section
variable {P:Program} {ng:Nat}
theorem HeapR.sub{ρ : Inj}{base:Nat}{w0:World}{h l:zB}{n:Nat}{wd:World}(r:HeapR P ng ρ base w0 h n wd)(hs:Sub l h):HeapR P ng ρ base w0 l n wd:=by
 refine⟨r.dom,fun b B e hl=>?_,fun a b A B ea eb la lb=>?_,r.below,r.size,r.glob,r.ngn⟩
 · rcases hs b with h1|h1
   · exact absurd h1 hl
   · rw[← h1]at hl ⊢;exact r.obj b B e hl
 · rcases hs a with h1|h1
   · exact absurd h1 la
   · rcases hs b with h2|h2
     · exact absurd h2 lb
     · exact r.inj a b A B ea eb (by rw[h1];exact la) (by rw[h2];exact lb)
theorem Grow.sub{ρ ρ':Inj}{h l h1 l1:zB}{n n':Nat}{wd wd':World}(g:Grow ρ l n wd ρ' h1 n' wd')(hs:Sub l h)(hs1:Sub l1 h1):Grow ρ h n wd ρ' l1 n' wd':=by
 have up:∀b,zF l b≠.dead→zF h b≠.dead:=fun b hb=>by
  rcases hs b with h2|h2
  · exact absurd h2 hb
  · rw[h2];exact hb
 have dn:∀b,zF h1 b = .dead→zF l1 b = .dead:=fun b hb=>by
  rcases hs1 b with h2|h2
  · exact h2
  · rw[← h2];exact hb
 refine⟨g.nn,g.old,fun b B hb e=>?_,fun c hc hk=>g.keep c hc fun b B e hl=>hk b B e (up b hl),g.size,fun b hb hd=>dn b (g.dead b hb ?_),g.tape⟩
 · rcases g.new b B hb e with h2|⟨a,A,h3,h4,h5,h6⟩
   · exact .inl h2
   · exact .inr ⟨a,A,h3,h4,h5,up a h6⟩
 · rcases hs b with h2|h2
   · exact h2
   · rw[← h2];exact hd
theorem CallTo.sub{f:FuncId}{args:List Value}{df:Bool}{u u':Option zJ}{h l h1 l1:zB}{n n':Nat}{o:Out}(c:CallTo P ng f args df u l n o u' h1 n')(hs:Sub l h)(hs1:Sub l1 h1) :
 CallTo P ng f args df u h n o u' l1 n':=by
 refine⟨c.1,fun ρ base w0 wd args' cs hH ha hu=>?_⟩;obtain⟨ρ',wd',fr,cs',s1,s2,s3,s4,s5,s6,s7⟩:=c.2 ρ base w0 wd args' cs (hH.sub hs) ha hu;exact⟨ρ',wd',fr,cs',s1,s2.sub hs1,s3.sub hs hs1,s4,s5,s6,s7⟩
end
structure Rsl where
 v:Value
 h:zB
 n:Nat
abbrev HookH:=FuncId→List Value→zB→Nat→Option Rsl
noncomputable def Lo.hookH(hk:HookH)(lo:Lo):Lo:=
 { lo with call:=fun f args df u h n k=>Bool.rec (Option.rec (lo.call f args df u h n k) (fun r=>k (.ret r.v) u r.h r.n) (hk f args h n)) (lo.call f args df u h n k) df }
noncomputable def runHH(P:Program)(hk:HookH)(fuel:Nat):Lo:=Nat.rec Lo.bot (fun _ lo=>Lo.hookH hk (Lo.next P lo)) fuel
def HookHOK(P:Program)(ng:Nat)(hk:HookH):Prop:=∀f args h n r,hk f args h n=some r→∀u,CallTo P ng f args false u h n (.ret r.v) u r.h r.n
theorem hookH_sound{P:Program}{ng:Nat}{hk:HookH}(hh:HookHOK P ng hk){lo:Lo}(hS:Sound P ng lo):Sound P ng (Lo.hookH hk lo) where
 code:=hS.code
 round:=hS.round
 leave:=hS.leave
 call f args df u h n k hx:=by
  cases df with
  | true=>exact hS.call f args true u h n k hx
  | false =>
   have hx':(Option.rec (lo.call f args false u h n k) (fun r=>k (.ret r.v) u r.h r.n) (hk f args h n):Bool)=true:=hx
   cases e:hk f args h n with
   | none=>rw [e]at hx';exact hS.call f args false u h n k hx'
   | some r=>
    rw[e]at hx';exact⟨.ret r.v,u,r.h,r.n,hx',hh f args h n r e u⟩
theorem soundHH{P:Program}{ng:Nat}(hP:yH ng P=true)(hmix:P.follows .mixedOrders=true){hk:HookH}(hh:HookHOK P ng hk):∀fuel,Sound P ng (runHH P hk fuel):=by
 intro fuel
 induction fuel with
 | zero=>exact sound_bot
 | succ n ih=>exact hookH_sound hh (sound_next (draw_ok hP hmix) hP ih)
structure Once where
 f:FuncId
 args:List Value
 h:zB
 n:Nat
 r:Rsl
end Go.Ex
namespace Go.Proofs.YtdipdkkpgjdnkaaGreatDoor
open Go.Ex
set_option maxRecDepth 100000
set_option maxHeartbeats 80000000
noncomputable abbrev P:=Tryz.prog
theorem prog_ok:yH 8 P=true:=by decide +kernel
theorem mixed:P.follows .mixedOrders=true:=by decide +kernel
instance:Fit P 8:=⟨prog_ok,mixed⟩
end Go.Proofs.YtdipdkkpgjdnkaaGreatDoor
namespace Go.Proofs.YtdipdkkpgjdnkaaGreatDoor
open Go.Ex
set_option maxRecDepth 1000000
instance i1:BoC P 2 Tryz.f2:=⟨fun c h=>by cases h;kernel_rfl⟩
instance i2:BoC P 3 Tryz.f3:=⟨fun c h=>by cases h;kernel_rfl⟩
instance i3:BoC P 4 Tryz.f4:=⟨fun c h=>by cases h;kernel_rfl⟩
instance i4:BoC P 5 Tryz.f5:=⟨fun c h=>by cases h;kernel_rfl⟩
instance i5:BoC P 6 Tryz.f6:=⟨fun c h=>by cases h;kernel_rfl⟩
instance i6:BoC P 7 Tryz.f7:=⟨fun c h=>by cases h;kernel_rfl⟩
instance i7:BoC P 8 Tryz.f8:=⟨fun c h=>by cases h;kernel_rfl⟩
instance i8:BoC P 9 Tryz.f9:=⟨fun c h=>by cases h;kernel_rfl⟩
instance i9:BoC P 10 Tryz.f10:=⟨fun c h=>by cases h;kernel_rfl⟩
instance i10:BoC P 11 Tryz.f11:=⟨fun c h=>by cases h;kernel_rfl⟩
instance i11:BoC P 12 Tryz.f12:=⟨fun c h=>by cases h;kernel_rfl⟩
instance i12:BoC P 13 Tryz.f13:=⟨fun c h=>by cases h;kernel_rfl⟩
instance i13:BoC P 14 Tryz.f14:=⟨fun c h=>by cases h;kernel_rfl⟩
instance i14:BoC P 15 Tryz.f15:=⟨fun c h=>by cases h;kernel_rfl⟩
instance i15:BoC P 16 Tryz.f16:=⟨fun c h=>by cases h;kernel_rfl⟩
instance i16:BoC P 17 Tryz.f17:=⟨fun c h=>by cases h;kernel_rfl⟩
instance i17:BoC P 18 Tryz.f18:=⟨fun c h=>by cases h;kernel_rfl⟩
instance i19:BoC P 20 Tryz.f20:=⟨fun c h=>by cases h;kernel_rfl⟩
instance i20:BoC P 21 Tryz.f21:=⟨fun c h=>by cases h;kernel_rfl⟩
instance i21:BoC P 22 Tryz.f22:=⟨fun c h=>by cases h;kernel_rfl⟩
instance i22:BoC P 23 Tryz.f23:=⟨fun c h=>by cases h;kernel_rfl⟩
instance i23:BoC P 24 Tryz.f24:=⟨fun c h=>by cases h;kernel_rfl⟩
instance i24:BoC P 25 Tryz.f25:=⟨fun c h=>by cases h;kernel_rfl⟩
instance i25:BoC P 26 Tryz.f26:=⟨fun c h=>by cases h;kernel_rfl⟩
instance i26:BoC P 27 Tryz.f27:=⟨fun c h=>by cases h;kernel_rfl⟩
instance i27:BoC P 28 Tryz.f28:=⟨fun c h=>by cases h;kernel_rfl⟩
instance i28:BoC P 29 Tryz.f29:=⟨fun c h=>by cases h;kernel_rfl⟩
instance i29:BoC P 30 Tryz.f30:=⟨fun c h=>by cases h;kernel_rfl⟩
instance i30:BoC P 31 Tryz.f31:=⟨fun c h=>by cases h;kernel_rfl⟩
instance i31:BoC P 32 Tryz.f32:=⟨fun c h=>by cases h;kernel_rfl⟩
instance i32:BoC P 33 Tryz.f33:=⟨fun c h=>by cases h;kernel_rfl⟩
instance i33:BoC P 34 Tryz.f34:=⟨fun c h=>by cases h;kernel_rfl⟩
instance i34:BoC P 35 Tryz.f35:=⟨fun c h=>by cases h;kernel_rfl⟩
instance i35:BoC P 36 Tryz.f36:=⟨fun c h=>by cases h;kernel_rfl⟩
instance i36:BoC P 37 Tryz.f37:=⟨fun c h=>by cases h;kernel_rfl⟩
instance i37:BoC P 38 Tryz.f38:=⟨fun c h=>by cases h;kernel_rfl⟩
instance i38:BoC P 39 Tryz.f39:=⟨fun c h=>by cases h;kernel_rfl⟩
instance i39:BoC P 40 Tryz.f40:=⟨fun c h=>by cases h;kernel_rfl⟩
instance i40:BoC P 41 Tryz.f41:=⟨fun c h=>by cases h;kernel_rfl⟩
instance i41:BoC P 42 Tryz.f42:=⟨fun c h=>by cases h;kernel_rfl⟩
instance i45:BoC P 46 Tryz.f46:=⟨fun c h=>by cases h;kernel_rfl⟩
instance i46:BoC P 47 Tryz.f47:=⟨fun c h=>by cases h;kernel_rfl⟩
instance i47:BoC P 48 Tryz.f48:=⟨fun c h=>by cases h;kernel_rfl⟩
instance i48:BoC P 49 Tryz.f49:=⟨fun c h=>by cases h;kernel_rfl⟩
instance i49:BoC P 50 Tryz.f50:=⟨fun c h=>by cases h;kernel_rfl⟩
instance i50:BoC P 51 Tryz.f51:=⟨fun c h=>by cases h;kernel_rfl⟩
instance i51:BoC P 52 Tryz.f52:=⟨fun c h=>by cases h;kernel_rfl⟩
instance i52:BoC P 53 Tryz.f53:=⟨fun c h=>by cases h;kernel_rfl⟩
instance i53:BoC P 54 Tryz.f54:=⟨fun c h=>by cases h;kernel_rfl⟩
instance i54:BoC P 55 Tryz.f55:=⟨fun c h=>by cases h;kernel_rfl⟩
instance i55:BoC P 56 Tryz.f56:=⟨fun c h=>by cases h;kernel_rfl⟩
instance i56:BoC P 57 Tryz.f57:=⟨fun c h=>by cases h;kernel_rfl⟩
instance i57:BoC P 58 Tryz.f58:=⟨fun c h=>by cases h;kernel_rfl⟩
instance i58:BoC P 59 Tryz.f59:=⟨fun c h=>by cases h;kernel_rfl⟩
instance i59:BoC P 60 Tryz.f60:=⟨fun c h=>by cases h;kernel_rfl⟩
instance i60:BoC P 61 Tryz.f61:=⟨fun c h=>by cases h;kernel_rfl⟩
instance i61:BoC P 62 Tryz.f62:=⟨fun c h=>by cases h;kernel_rfl⟩
instance i62:BoC P 63 Tryz.f63:=⟨fun c h=>by cases h;kernel_rfl⟩
instance i63:BoC P 64 Tryz.f64:=⟨fun c h=>by cases h;kernel_rfl⟩
instance i64:BoC P 65 Tryz.f65:=⟨fun c h=>by cases h;kernel_rfl⟩
instance i67:BoC P 69 Tryz.f69:=⟨fun c h=>by cases h;kernel_rfl⟩
instance i68:BoC P 70 Tryz.f70:=⟨fun c h=>by cases h;kernel_rfl⟩
instance i69:BoC P 71 Tryz.f71:=⟨fun c h=>by cases h;kernel_rfl⟩
instance i70:BoC P 72 Tryz.f72:=⟨fun c h=>by cases h;kernel_rfl⟩
instance i71:BoC P 73 Tryz.f73:=⟨fun c h=>by cases h;kernel_rfl⟩
instance i72:BoC P 74 Tryz.f74:=⟨fun c h=>by cases h;kernel_rfl⟩
instance i73:BoC P 75 Tryz.f75:=⟨fun c h=>by cases h;kernel_rfl⟩
instance i75:BoC P 77 Tryz.f77:=⟨fun c h=>by cases h;kernel_rfl⟩
instance i76:BoC P 78 Tryz.f78:=⟨fun c h=>by cases h;kernel_rfl⟩
instance i77:BoC P 79 Tryz.f79:=⟨fun c h=>by cases h;kernel_rfl⟩
instance i80:BoC P 83 Tryz.f83:=⟨fun c h=>by cases h;kernel_rfl⟩
instance i83:BoC P 86 Tryz.f86:=⟨fun c h=>by cases h;kernel_rfl⟩
instance i85:BoC P 88 Tryz.f88:=⟨fun c h=>by cases h;kernel_rfl⟩
instance i122:DrC P 3 20 [(0,0,0,false,[]),(1,0,0,false,[]),(2,0,0,false,[]),(3,0,0,false,[]),(4,0,0,false,[]),(5,0,0,false,[]),(6,0,0,false,[]),(7,0,0,false,[]),(8,0,0,false,[]),(9,0,0,false,[]),(10,0,0,false,[]),(11,0,0,true,[]),(12,0,0,true,[]),(13,0,0,true,[])]:=⟨by kernel_rfl⟩
instance i123:DrC P 5 13 [(0,0,0,false,[]),(1,0,0,false,[]),(2,0,0,false,[]),(3,0,0,false,[]),(4,0,0,false,[]),(5,0,0,false,[]),(6,0,0,false,[]),(7,0,0,false,[]),(8,0,0,false,[]),(9,0,0,false,[]),(10,0,0,false,[]),(11,0,0,false,[]),(12,0,0,false,[]),(13,0,0,false,[]),(14,0,0,false,[]),(15,0,0,false,[]),(16,0,0,false,[]),(17,0,0,false,[]),(18,0,0,false,[]),(19,0,0,false,[]),(20,0,0,false,[]),(21,0,0,false,[]),(22,0,0,false,[]),(23,0,0,true,[]),(24,0,0,true,[])]:=⟨by kernel_rfl⟩
instance i124:DrC P 10 14 [(3,0,0,false,[]),(4,0,0,false,[]),(5,0,0,false,[]),(6,0,0,false,[]),(7,0,0,false,[]),(8,0,0,false,[]),(9,0,0,false,[]),(10,0,0,false,[0,1,2]),(0,0,1,false,[]),(1,0,1,false,[]),(2,0,1,false,[]),(11,1,1,true,[]),(12,1,1,true,[])]:=⟨by kernel_rfl⟩
instance i125:DrC P 12 6 [(0,0,0,false,[]),(1,0,0,false,[]),(2,0,0,false,[]),(3,0,0,false,[]),(4,0,0,false,[]),(5,0,0,false,[]),(6,0,0,false,[]),(7,0,0,false,[]),(8,0,0,false,[]),(9,0,0,false,[]),(10,0,0,true,[])]:=⟨by kernel_rfl⟩
instance i126:DrC P 15 3 [(1,0,0,false,[]),(2,0,0,false,[0]),(0,0,1,false,[]),(3,1,1,true,[]),(4,2,2,true,[])]:=⟨by kernel_rfl⟩
instance i127:DrC P 21 9 [(0,0,0,false,[]),(1,0,0,false,[]),(2,0,0,false,[]),(3,0,0,false,[]),(4,0,0,false,[5,6]),(5,0,1,false,[]),(6,0,1,false,[]),(7,1,1,true,[]),(8,2,2,true,[]),(9,3,3,true,[])]:=⟨by kernel_rfl⟩
instance i128:DrC P 21 13 [(0,0,0,false,[]),(1,0,0,false,[]),(2,0,0,false,[]),(3,0,0,false,[4,5,6]),(4,0,1,false,[]),(5,0,1,false,[]),(6,0,1,false,[]),(7,1,1,true,[]),(8,2,2,true,[]),(9,2,2,true,[])]:=⟨by kernel_rfl⟩
instance i129:DrC P 21 17 [(0,0,0,false,[]),(1,0,0,false,[]),(2,0,0,false,[]),(3,0,0,false,[]),(4,0,0,false,[5,6]),(5,0,1,false,[]),(6,0,1,false,[]),(7,1,1,true,[]),(8,2,2,true,[]),(9,3,3,true,[])]:=⟨by kernel_rfl⟩
instance i130:DrC P 21 19 [(0,0,0,false,[]),(1,0,0,false,[]),(2,0,0,false,[]),(3,0,0,false,[4,5,6,8,9,10]),(4,0,1,false,[]),(5,0,1,false,[]),(6,0,1,false,[]),(7,1,1,false,[8,9,10]),(8,0,2,false,[]),(9,0,2,false,[]),(10,0,2,false,[]),(11,2,2,true,[]),(12,3,3,true,[]),(13,3,3,true,[])]:=⟨by kernel_rfl⟩
instance i132:DrC P 28 2 [(0,0,0,false,[]),(1,0,0,false,[]),(2,0,0,false,[]),(3,0,0,false,[]),(4,0,0,false,[]),(5,0,0,false,[]),(6,0,0,false,[]),(7,0,0,false,[]),(8,0,0,false,[]),(9,0,0,false,[]),(10,0,0,false,[]),(11,0,0,false,[]),(12,0,0,true,[]),(13,0,0,true,[])]:=⟨by kernel_rfl⟩
instance i133:DrC P 28 4 [(1,0,0,false,[]),(2,0,0,false,[]),(3,0,0,false,[]),(4,0,0,false,[]),(5,0,0,false,[]),(6,0,0,false,[0]),(0,0,1,false,[]),(7,1,1,true,[]),(8,1,1,true,[])]:=⟨by kernel_rfl⟩
instance i134:DrC P 30 2 [(0,0,0,false,[]),(1,0,0,false,[]),(2,0,0,false,[]),(3,0,0,false,[]),(4,0,0,false,[]),(5,0,0,false,[]),(6,0,0,false,[]),(7,0,0,true,[])]:=⟨by kernel_rfl⟩
instance i135:DrC P 33 6 [(0,0,0,false,[]),(1,0,0,false,[]),(2,0,0,false,[]),(3,0,0,false,[]),(4,0,0,false,[]),(5,0,0,false,[]),(6,0,0,false,[]),(7,0,0,false,[]),(8,0,0,true,[])]:=⟨by kernel_rfl⟩
instance i136:DrC P 34 6 [(0,0,0,false,[]),(1,0,0,false,[]),(2,0,0,false,[]),(3,0,0,false,[]),(4,0,0,false,[]),(5,0,0,false,[]),(6,0,0,false,[]),(7,0,0,false,[]),(8,0,0,false,[]),(9,0,0,false,[]),(10,0,0,true,[])]:=⟨by kernel_rfl⟩
instance i137:DrC P 34 11 [(0,0,0,false,[]),(1,0,0,false,[]),(2,0,0,false,[]),(3,0,0,false,[]),(4,0,0,false,[]),(5,0,0,false,[]),(6,0,0,false,[]),(7,0,0,false,[]),(8,0,0,false,[]),(9,0,0,false,[]),(10,0,0,false,[]),(11,0,0,false,[]),(12,0,0,false,[]),(13,0,0,false,[]),(14,0,0,true,[]),(15,1,1,true,[])]:=⟨by kernel_rfl⟩
instance i139:DrC P 57 3 [(0,0,0,false,[]),(1,0,0,false,[]),(2,0,0,false,[]),(3,0,0,false,[]),(4,0,0,false,[]),(5,0,0,false,[]),(6,0,0,false,[]),(7,0,0,false,[]),(8,0,0,false,[]),(9,0,0,true,[]),(10,0,0,true,[])]:=⟨by kernel_rfl⟩
instance i140:DrC P 57 4 [(10,0,0,false,[]),(11,0,0,false,[0,1,2,3,4,5,6,7,8,9]),(0,0,1,false,[]),(1,0,1,false,[]),(2,0,1,false,[]),(3,0,1,false,[]),(4,0,1,false,[]),(5,0,1,false,[]),(6,0,1,false,[]),(7,0,1,false,[]),(8,0,1,false,[]),(9,0,1,false,[]),(12,1,1,true,[])]:=⟨by kernel_rfl⟩
instance i141:DrC P 57 2 [(4,0,0,false,[]),(5,0,0,false,[0,1,2,3]),(0,0,1,false,[]),(1,0,1,false,[]),(2,0,1,false,[]),(3,0,1,false,[]),(6,1,1,true,[])]:=⟨by kernel_rfl⟩
instance i143:DrC P 83 3 [(0,0,0,false,[]),(1,0,0,false,[]),(2,0,0,false,[]),(3,0,0,false,[]),(4,0,0,false,[]),(5,0,0,false,[]),(6,0,0,false,[]),(7,0,0,false,[]),(8,0,0,false,[]),(9,0,0,false,[]),(10,0,0,true,[]),(11,0,0,true,[])]:=⟨by kernel_rfl⟩
instance i145:DrC P 89 8 [(0,0,0,false,[]),(1,0,0,false,[]),(2,0,0,false,[]),(6,0,0,false,[]),(7,0,0,false,[]),(8,0,0,false,[]),(11,0,0,false,[]),(12,0,0,false,[3,4,5,9,10]),(3,0,1,false,[]),(4,0,1,false,[]),(5,0,1,false,[]),(9,0,1,false,[]),(10,0,1,false,[]),(13,1,1,true,[]),(14,1,1,true,[])]:=⟨by kernel_rfl⟩
instance i153:ShC P 1 .scal:=⟨by kernel_rfl⟩
instance i154:ShC P 3 .scal:=⟨by kernel_rfl⟩
instance i155:ShC P 4 .scal:=⟨by kernel_rfl⟩
instance i157:ShC P 9 .scal:=⟨by kernel_rfl⟩
instance i158:ShC P 22 .scal:=⟨by kernel_rfl⟩
instance i159:ShC P 23 .scal:=⟨by kernel_rfl⟩
instance i160:ShC P 24 .scal:=⟨by kernel_rfl⟩
instance i161:ShC P 26 (.agg 5):=⟨by kernel_rfl⟩
instance i162:ShC P 32 .scal:=⟨by kernel_rfl⟩
instance i163:ShC P 41 (.agg 9):=⟨by kernel_rfl⟩
instance i164:ShC P 42 .scal:=⟨by kernel_rfl⟩
instance i166:ShC P 47 .scal:=⟨by kernel_rfl⟩
instance i167:ShC P 51 .scal:=⟨by kernel_rfl⟩
instance i168:ShC P 62 .scal:=⟨by kernel_rfl⟩
instance i169:ShC P 63 .scal:=⟨by kernel_rfl⟩
instance i170:ShC P 64 .scal:=⟨by kernel_rfl⟩
instance i171:ShC P 104 (.agg 1):=⟨by kernel_rfl⟩
instance i173:ShC P 130 (.agg 20):=⟨by kernel_rfl⟩
instance i175:ShC P 157 (.agg 64):=⟨by kernel_rfl⟩
instance i178:OfC P 26 0 0:=⟨by kernel_rfl⟩
instance i179:OfC P 26 1 1:=⟨by kernel_rfl⟩
instance i180:OfC P 26 2 2:=⟨by kernel_rfl⟩
instance i181:OfC P 26 3 3:=⟨by kernel_rfl⟩
instance i182:OfC P 26 4 4:=⟨by kernel_rfl⟩
instance i183:OfC P 41 0 0:=⟨by kernel_rfl⟩
instance i184:OfC P 41 1 1:=⟨by kernel_rfl⟩
instance i185:OfC P 41 2 2:=⟨by kernel_rfl⟩
instance i186:OfC P 41 3 3:=⟨by kernel_rfl⟩
instance i187:OfC P 41 4 4:=⟨by kernel_rfl⟩
instance i188:OfC P 41 5 5:=⟨by kernel_rfl⟩
instance i189:OfC P 41 6 6:=⟨by kernel_rfl⟩
instance i190:OfC P 41 7 7:=⟨by kernel_rfl⟩
instance i191:OfC P 41 8 8:=⟨by kernel_rfl⟩
instance i193:OfC P 49 1 1:=⟨by kernel_rfl⟩
instance i194:OfC P 61 0 0:=⟨by kernel_rfl⟩
instance i195:OfC P 66 0 0:=⟨by kernel_rfl⟩
instance i196:OfC P 66 1 1:=⟨by kernel_rfl⟩
instance i197:OfC P 66 2 2:=⟨by kernel_rfl⟩
instance i198:OfC P 66 3 3:=⟨by kernel_rfl⟩
instance i199:OfC P 66 4 4:=⟨by kernel_rfl⟩
instance i200:OfC P 66 5 5:=⟨by kernel_rfl⟩
instance i201:OfC P 102 0 0:=⟨by kernel_rfl⟩
instance i202:OfC P 104 0 0:=⟨by kernel_rfl⟩
instance i205:IxC P 22 (.slice 1):=⟨by kernel_rfl⟩
instance i206:IxC P 23 (.slice 1):=⟨by kernel_rfl⟩
instance i207:IxC P 24 (.slice 1):=⟨by kernel_rfl⟩
instance i208:IxC P 42 (.slice 9):=⟨by kernel_rfl⟩
instance i210:IxC P 64 (.slice 1):=⟨by kernel_rfl⟩
instance i212:IxC P 130 (.array 20 1):=⟨by kernel_rfl⟩
instance i218:SlC P 22 9 1:=⟨by kernel_rfl⟩
instance i220:UnC P 9 .string:=⟨by kernel_rfl⟩
instance i221:UnC P 22 (.slice 9):=⟨by kernel_rfl⟩
instance i222:UnC P 23 (.slice 3):=⟨by kernel_rfl⟩
instance i223:UnC P 24 (.slice 42):=⟨by kernel_rfl⟩
instance i224:UnC P 42 (.slice 41):=⟨by kernel_rfl⟩
instance i227:UnC P 64 (.slice 63):=⟨by kernel_rfl⟩
instance i229:IfC P 20:=⟨by kernel_rfl⟩
instance i232:IkC P 2 .i64:=⟨by kernel_rfl⟩
instance i233:IkC P 3 .i64:=⟨by kernel_rfl⟩
instance i239:ApC P 22 22 9 1:=⟨by kernel_rfl⟩
instance i240:ApC P 23 23 3 1:=⟨by kernel_rfl⟩
instance i241:ApC P 24 24 42 1:=⟨by kernel_rfl⟩
instance i242:ApC P 42 42 41 9:=⟨by kernel_rfl⟩
instance i246:PlC P 5:=⟨by kernel_rfl⟩
instance i251:PlC P 104:=⟨by kernel_rfl⟩
instance i258:ZeC P 3 [.int .i64 0]:=⟨.int .i64 0,by kernel_rfl,rfl⟩
instance i259:ZeC P 9 [str []]:=⟨str [],by kernel_rfl,rfl⟩
instance i260:ZeC P 26 [str [],.slice none 0 0,.slice none 0 0,str [],.slice none 0 0]:=⟨.agg ⟨[str [],.slice none 0 0,.slice none 0 0,str [],.slice none 0 0]⟩,by kernel_rfl,rfl⟩
instance i261:ZeC P 32 [.int .i64 0]:=⟨.int .i64 0,by kernel_rfl,rfl⟩
instance i262:ZeC P 41 [.int .i64 0,.int .i64 0,.int .i64 0,.int .i64 0,.int .i64 0,str [],.slice none 0 0,.int .i64 0,.int .i64 0]:=⟨.agg ⟨[.int .i64 0,.int .i64 0,.int .i64 0,.int .i64 0,.int .i64 0,str [],.slice none 0 0,.int .i64 0,.int .i64 0]⟩,by kernel_rfl,rfl⟩
instance i263:ZeC P 49 [.pointer none,.slice none 0 0]:=⟨.agg ⟨[.pointer none,.slice none 0 0]⟩,by kernel_rfl,rfl⟩
instance i264:ZeC P 104 [.int .i64 0]:=⟨.agg ⟨[.int .i64 0]⟩,by kernel_rfl,rfl⟩
instance i268  : BdC P 26 [] [str [],.slice none 0 0,.slice none 0 0,str [],.slice none 0 0]:=⟨by kernel_rfl⟩
instance i270  : BdC P 41 [] [.int .i64 0,.int .i64 0,.int .i64 0,.int .i64 0,.int .i64 0,str [],.slice none 0 0,.int .i64 0,.int .i64 0]:=⟨by kernel_rfl⟩
instance i271 {x1:Int}:BdC P 41 [(0,.int .i64 x1)] [.int .i64 x1,.int .i64 0,.int .i64 0,.int .i64 0,.int .i64 0,str [],.slice none 0 0,.int .i64 0,.int .i64 0]:=⟨by kernel_rfl⟩
instance i272 {x1:Int}:BdC P 41 [(1,.int .i64 x1)] [.int .i64 0,.int .i64 x1,.int .i64 0,.int .i64 0,.int .i64 0,str [],.slice none 0 0,.int .i64 0,.int .i64 0]:=⟨by kernel_rfl⟩
instance i273  : BdC P 61 [] [str [],.slice none 0 0,.slice none 0 0,str [],.slice none 0 0]:=⟨by kernel_rfl⟩
instance i274 {x1:Option Addr} {x2:Nat} {x3:Nat} {x4:Fn} {x5:Array Value} {x6:Array Value} {x7:Fn} {x8:Array Value} {x9:Array Value}:BdC P 66 [(0,.slice x1 x2 x3),(1,.func x4 x5 x6),(2,.func x7 x8 x9)] [.slice x1 x2 x3,.func x4 x5 x6,.func x7 x8 x9,.int .i64 0,.bool false,.bool false]:=⟨by kernel_rfl⟩
instance i275 {x1:Option Addr} {x2:Nat} {x3:Nat}:BdC P 102 [(0,.slice x1 x2 x3)] [.slice x1 x2 x3]:=⟨by kernel_rfl⟩
instance i276 {x1:Int}:BdC P 104 [(0,.int .i64 x1)] [.int .i64 x1]:=⟨by kernel_rfl⟩
instance i279 {x1:ByteArray}:BsC P 22 1 [(0,.string x1)] [.string x1]:=⟨by kernel_rfl⟩
instance i280 {x1:ByteArray} {x2:ByteArray}:BsC P 22 2 [(0,.string x1),(1,.string x2)] [.string x1,.string x2]:=⟨by kernel_rfl⟩
instance i281 {x1:ByteArray} {x2:ByteArray} {x3:ByteArray}:BsC P 22 3 [(0,.string x1),(1,.string x2),(2,.string x3)] [.string x1,.string x2,.string x3]:=⟨by kernel_rfl⟩
instance i282 {x1:ByteArray} {x2:ByteArray} {x3:ByteArray} {x4:ByteArray}:BsC P 22 4 [(0,.string x1),(1,.string x2),(2,.string x3),(3,.string x4)] [.string x1,.string x2,.string x3,.string x4]:=⟨by kernel_rfl⟩
instance i283 {x1:Int}:BsC P 23 1 [(0,.int .i64 x1)] [.int .i64 x1]:=⟨by kernel_rfl⟩
instance i284 {x1:Int} {x2:Int} {x3:Int} {x4:Int}:BsC P 23 4 [(0,.int .i64 x1),(1,.int .i64 x2),(2,.int .i64 x3),(3,.int .i64 x4)] [.int .i64 x1,.int .i64 x2,.int .i64 x3,.int .i64 x4]:=⟨by kernel_rfl⟩
instance i285 {x1:Option Addr} {x2:Nat} {x3:Nat}:BsC P 24 1 [(0,.slice x1 x2 x3)] [.slice x1 x2 x3]:=⟨by kernel_rfl⟩
instance i286 {x1:Value} {x2:Value} {x3:Value} {x4:Value} {x5:Value} {x6:Value} {x7:Value} {x8:Value} {x9:Value}:BsC P 42 1 [(0,.agg ⟨[x1,x2,x3,x4,x5,x6,x7,x8,x9]⟩)] [x1,x2,x3,x4,x5,x6,x7,x8,x9]:=⟨by kernel_rfl⟩
instance i287 {x1:Fn} {x2:Array Value} {x3:Array Value} {x4:Fn} {x5:Array Value} {x6:Array Value} {x7:Fn} {x8:Array Value} {x9:Array Value} {x10:Fn} {x11:Array Value} {x12:Array Value}:BsC P 64 4 [(0,.func x1 x2 x3),(1,.func x4 x5 x6),(2,.func x7 x8 x9),(3,.func x10 x11 x12)] [.func x1 x2 x3,.func x4 x5 x6,.func x7 x8 x9,.func x10 x11 x12]:=⟨by kernel_rfl⟩
end Go.Proofs.YtdipdkkpgjdnkaaGreatDoor
namespace Go.Ex.M
structure Pl where
  root:Int
  at_:Int
  width:Int
 deriving DecidableEq
def Go64(x:Int):Prop:= -9223372036854775808≤x∧x<9223372036854775808
def lapP(a b:Pl):Prop:=a.root=b.root∧1≤a.width∧1≤b.width∧(if b.at_<a.at_ then a.at_ - b.at_<b.width else b.at_ - a.at_<a.width)
instance (a b:Pl):Decidable (lapP a b):=by unfold lapP;exact inferInstance
def withinP(a b:Pl):Prop:=a.root=b.root∧(a.width<1∨(1≤b.width∧b.at_≤a.at_∧a.at_ - b.at_≤b.width∧a.width≤b.width - (a.at_ - b.at_)))
instance (a b:Pl):Decidable (withinP a b):=by unfold withinP;exact inferInstance
end Go.Ex.M
namespace Go.Ex.M
abbrev Tx:=List UInt8
def letB(c:Nat):Bool:=decide ((97≤c∧c≤122)∨(65≤c∧c≤90)∨c=95)
def digB(c:Nat):Bool:=decide (48≤c∧c≤57)
def tailB(s:Tx):Bool:=s.all fun c=>letB c.toNat || digB c.toNat
def nameB:Tx→Bool
 | []=>false
 | c::r=>decide ((c::r).length≤20) && letB c.toNat && tailB (c::r)
def pos(ss:List Tx)(x:Tx):Int:=if x∈ss then(ss.idxOf x:Nat) else -1
theorem pos_hit{ss:List Tx}{x:Tx}{k:Nat}(hk:ss[k]? = some x)(hno:∀j,j<k→ss[j]?≠some x):pos ss x=(k:Nat):=by
 have hm:x∈ss:=List.mem_iff_getElem?.2 ⟨k,hk⟩;unfold pos;rw [if_pos hm];have h1:ss.idxOf x<ss.length:=List.idxOf_lt_length_iff.2 hm;have h2:ss[ss.idxOf x]? = some x:=by rw[List.getElem?_eq_getElem h1,List.getElem_idxOf h1]
 rcases Nat.lt_trichotomy (ss.idxOf x) k with h|h|h
 · exact absurd h2 (hno _ h)
 · rw[h]
 · have:=List.not_of_lt_findIdx (p:=(· == x)) h;rw [List.getElem?_eq_some_iff]at hk;obtain⟨hk1,hk2⟩:=hk;simp [hk2]at this
theorem pos_no{ss:List Tx}{x:Tx}(hno:∀j,j<ss.length→ss[j]?≠some x):pos ss x = -1:=by
 unfold pos
 rw[if_neg fun hm=>by
  obtain⟨k,hk⟩:=List.mem_iff_getElem?.1 hm;exact hno k (List.getElem?_eq_some_iff.1 hk).1 hk]
theorem pos_ge{ss:List Tx}{x:Tx}:0≤pos ss x↔x∈ss:=by
 unfold pos;split <;> rename_i h
 · exact⟨fun _=>h,fun _=>by omega⟩
 · exact⟨fun h2=>by omega,fun h2=>absurd h2 h⟩
theorem str_at{ss:List Tx}{k:Nat}(h:k<ss.length):(ss.map str)[k]? = some (str ss[k]):=by rw[List.getElem?_map,List.getElem?_eq_getElem h];rfl
end Go.Ex.M
