/- What the law leans on, part 9 of 24. Conditions: those that each theorem states. -/
import Derived.Test.YtdiejolnllipnaaGreatDoorMachPrintsx8
import Derived.Calls
import Derived.Shelf.Strings.Builder1
import Derived.Lib.IndexMore
import Derived.Lib.Split
import Derived.Lib.CountLaws

set_option linter.unusedVariables false
set_option linter.unusedSimpArgs false
namespace Go.Ex
section
variable {P:Program} {ng:Nat}
def Rets(P:Program)(ng:Nat)(f:FuncId)(args:List Value)(h:zB)(n:Nat)(Q:Value->zB->Nat->Prop):Prop:=
 ∀(u:Option zK) (k:KO),(∀v h' n',Q v h' n'->k (.ret v) u h' n'=true)->(loS P ng).call f args false u h n k=true
abbrev Pure(P:Program)(ng:Nat)(f:FuncId)(args:List Value)(h:zB)(n:Nat)(v:Value):Prop:=
 Rets P ng f args h n λv' h' n'=>v'=v/\h'=h/\n'=n
theorem Rets.does{f:FuncId}{args:List Value}{h:zB}{n:Nat}{Q:Value->zB->Nat->Prop}(r:Rets P ng f args h n Q)(u:Option zK):∃v h' n',Q v h' n'/\CallTo P ng f args false u h n (.ret v) u h' n':=by
 have:=r u (λo u' h' n'=>wE (∃v,o = .ret v/\u'=u/\Q v h' n')) (λv h' n' q=>isSo_iff.2 ⟨v,rfl,rfl,q⟩);obtain⟨o,u',h',n',hk,hc⟩:=loS_call.1 this;obtain⟨v,rfl,rfl,q⟩:=isSo_iff.1 hk;exact⟨v,h',n',q,hc⟩
theorem Rets.ret{f:FuncId}{args:List Value}{h:zB}{n:Nat}{Q:Value->zB->Nat->Prop}(r:Rets P ng f args h n Q):Ret P ng f args h n Q:=λu=>by
 obtain⟨v,h',n',q,c⟩:=r.does u;exact⟨.ret v,h',n',⟨v,rfl,q⟩,c⟩
theorem Pure.pur{f:FuncId}{args:List Value}{h:zB}{n:Nat}{v:Value}(r:Pure P ng f args h n v):Pur P ng f args h n v:=λu=>by
 obtain⟨v',h',n',⟨rfl,rfl,rfl⟩,hc⟩:=r.does u;exact⟨_,_,_,⟨rfl,rfl,rfl⟩,hc⟩
end
def TabsH(tabs:List (Nat×List Value))(h:zB):Prop:=∀p∈tabs,(∃z,yC (zG h p.1)=some (p.2.length,z,2))/\∀i,zD h p.1 i=p.2[i]?
noncomputable def hasB(P:Program)(f:FuncId):Bool:=match P.funcs[f]? with
 | some fn=>match fn.body with
  | some _=> !(fn.name == "runtime.NumGoroutine")
  | none=>false
 | none=>false
section
variable {P:Program} {ng:Nat}
theorem hasB_of{f:FuncId}(h:hasB P f=true):∃fn body,P.funcs[f]? = some fn/\fn.body=some body/\(fn.name == "runtime.NumGoroutine")=false:=by
 unfold hasB at h;split at h
 . rename_i fn e;split at h
   . rename_i body e2;exact⟨fn,body,e,e2,by simpa using h⟩
   . cases h
 . cases h
theorem TabsH.tch{S:List Nat}{tabs:List (Nat×List Value)}{h h':zB}{n n':Nat}(t:TabsH tabs h)(e:Tch S h n h' n')(hl:∀p∈tabs,p.1<n)(hS:∀p∈tabs,p.1∉S):TabsH tabs h':=λp hp=>by
 obtain⟨h1,h2⟩:=t p hp;have he:=e.2 _ (hl p hp) (hS p hp);exact⟨by rw[he];exact h1,λi=>by unfold zD;rw [he];exact h2 i⟩
theorem scal_one{ρ : Inj}{v v':Value}(hv:xW v=true)(r:RV ρ v v'):v'=v:=by
 cases r <;> first|(cases hv;done)|rfl
theorem TabsH.world{tabs:List (Nat×List Value)}{h:zB}{n:Nat}{ρ : Inj}{base:Nat}{w0 wd:World}(t:TabsH tabs h)(hg:∀p∈tabs,p.1<ng/\p.2.all xW=true)(r:HeapR P ng ρ base w0 h n wd):rY wd tabs:=by
 intro p hp;obtain⟨⟨z,h1⟩,h2⟩:=t p hp;obtain⟨g1,g2⟩:=hg p hp;obtain⟨B,e1,e2⟩:=r.glob p.1 g1;have hl:zG h p.1≠.dead:=λe=>by rw[e]at h1;cases h1
 obtain⟨o,q1,q2⟩:=r.obj p.1 B e1 hl;unfold zD at h2;cases ho:zG h p.1 <;> rw[ho]at h1 <;> first|(cases h1;done)|(exact absurd (kd_of h1) qK)|skip
 rename_i c k z' kd;have gd:some (k,z',kd)=some (p.2.length,z,2):=h1;simp only[Option.some.injEq,Prod.mk.injEq]at gd;obtain⟨rfl,rfl,rfl⟩:=gd;rw [ho]at q2 h2
 cases q2 with
 | cells hn hs hk hz hv hb hf =>
  rename_i c' el lo hi;rw [e2]at q1;have hsz:c'.size=p.2.length:=by rw[hs];exact(hk qJ).symm
  have:c'=⟨p.2⟩:=by
   apply Array.ext
   . simpa using hsz
   . intro i i1 i2;have i3:i<p.2.length:=by omega
     have r1:=hv i c'[i] i3 (aF i1);have r2:=h2 i;unfold wR at r2;dsimp only at r2;rw [if_pos i3,aa i3]at r2;injection r2 with r2
     rw[r2]at r1;have:=scal_one (aH.1 g2 _ (aM i3)) r1;rw [this];rfl
  rw[this]at q1;exact⟨el,(lo,hi),q1⟩
theorem scals_same{ρ : Inj}{args args':List Value}(ha:args.all xW=true)(r:RVs ρ args args'):args'=args:=by
 apply dy;intro i
 cases e:args[i]? with
 | none=>exact aw (by rw[<- r.1];exact List.getElem?_eq_none_iff.1 e)
 | some x=>
  obtain⟨x',e1,e2⟩:=r.at e;rw [e1,scal_one (aH.1 ha x (aj.2 ⟨i,e⟩)) e2]
theorem RV.scal_refl{ρ : Inj}{v:Value}(hv:xW v=true):RV ρ v v:=by
 cases v <;> first|(cases hv;done)|skip
 . exact .bool _
 . exact .int _ _
 . exact .string _
 . exact .nilFunc
 . exact .nilIface
def isRes(v:Value):Bool:=match v with
 | .tuple l=>l.toList.all xW
 | v=>xW v
theorem RV.res_refl{ρ : Inj}{v:Value}(hv:isRes v=true):RV ρ v v:=by
 cases v <;> first|(cases hv;done)|skip
 . exact .bool _
 . exact .int _ _
 . exact .string _
 . exact .nilFunc
 . exact .nilIface
 . rename_i l;refine .tuple rfl λi w w' a b=>?_;rw [a]at b;injection b with b;subst b
   exact RV.scal_refl (aH.1 hv w (aj.2 ⟨i,a⟩))
theorem tO{f:FuncId}{args:List Value}{h:zB}{n:Nat}{v:Value}{tabs:List (Nat×List Value)}(hf:hasB P f=true)(ha:args.all xW=true)(hv:isRes v=true)(ht:TabsH tabs h)(hg:∀p∈tabs,p.1<ng/\p.2.all xW=true)
(H:∀wd:World,rY wd tabs->Calls P f ⟨args⟩ wd λe w'=>e = .returned v/\Go.RowKit.Below wd.heap.size wd w'):Pure P ng f args h n v:=by
 intro u k hk;refine loS_call.2 ⟨.ret v,u,h,n,hk _ _ _ ⟨rfl,rfl,rfl⟩,hasB_of hf,fun ρ base w0 wd args' cs hH hra hu=>?_⟩;obtain rfl:=scals_same ha hra;obtain⟨e,w',fr,⟨rfl,hb⟩,hc,hfn,hl⟩:=H wd (ht.world hg hH) cs;obtain⟨k1,k2⟩:=hH.stay hb;obtain⟨y1,y2,y3,y4⟩:=hl;exact⟨ρ,w',fr,cs,hc,k1,k2,CsTo.refl _ _,(λe=>Bool.noConfusion e),hfn,v,y1,y2,y3,y4,RV.res_refl hv⟩
theorem row_of_calls{f:FuncId}{args:List Value}{h:zB}{n len cap:Nat}{cs:List Value}{el:TypeId}{tabs:List (Nat×List Value)}(hf:hasB P f=true)(ha:args.all xW=true)(hc:cs.all xW=true)(eN:len<=cap)(fq:cap≠inf)
(ht:TabsH tabs h)(hg:∀p∈tabs,p.1<ng/\p.2.all xW=true)
(H:∀wd:World,rY wd tabs->Calls P f ⟨args⟩ wd λe w'=>e = .returned (.slice (some ⟨wd.heap.size,0,none⟩) len cap)/\w'=wd.alloc (.cells ⟨cs⟩ el)) :
 Rets P ng f args h n λv' h' n'=>v' = .slice (some ⟨n,0,none⟩) len cap/\h'=h.set .dead (mkC cs 0 0) n/\n'=n+1:=by
 intro u k hk;refine loS_call.2 ⟨_,u,_,_,hk _ _ _ ⟨rfl,rfl,rfl⟩,hasB_of hf,fun ρ base w0 wd args' cs' hH hra hu=>?_⟩;obtain rfl:=scals_same ha hra;obtain⟨e,w',fr,⟨rfl,rfl⟩,hcm,hfn,hl⟩:=H wd (ht.world hg hH) cs'
 have iS:RVs ρ cs (⟨cs⟩:Array Value).toList:=⟨rfl,λi v v' a b=>by
  have b':cs[i]? = some v':=b;rw [a]at b';injection b' with b';subst b'
  exact RV.scal_refl (aH.1 hc v (aj.2 ⟨i,a⟩))⟩
 obtain⟨k1,k2⟩:=hH.alloc (mkC cs 0 0) (.cells ⟨cs⟩ el) ⟨wd.heap.size,cs.length,0⟩ rfl (hH.newRow (cs:=cs) (cs':=⟨cs⟩) iS el);obtain⟨y1,y2,y3,y4⟩:=hl;refine⟨_,_,fr,cs',hcm,k1,k2,CsTo.refl _ _,(λe=>Bool.noConfusion e),hfn,_,y1,y2,y3,y4,?_⟩;exact .slice (B:=⟨wd.heap.size,cs.length,0⟩) (by show(if n=n then _ else _)=_;rw [if_pos rfl]) fq eN (.inl rfl)
end
section
variable {P:Program} {ng:Nat}
theorem Row.world{n:Nat}{h:zB}{v v':Value}{el len:Nat}{vs:List Value}{ρ : Inj}{base:Nat}{w0 wd:World}(r:Row n h v el 1 len vs)(hs:vs.all xW=true)(hH:HeapR P ng ρ base w0 h n wd)(hv:RV ρ v v') :
 (len=0/\∃a c,v' = .slice a 0 c)\/(∃bk o c,v' = .slice (some ⟨bk,o,none⟩) len c/\len<=c/\bk<wd.heap.size/\∀(j:Nat) x,vs[j]? = some x->wd.cell? ⟨bk,o+j,none⟩=some x):=by
 rcases r with⟨rfl,rfl,rfl⟩|⟨b,off,cap,m,z,kd,hb,rfl,hl,hi,hm,hr,hc⟩
 . cases hv;exact .inl ⟨rfl,_,_,rfl⟩
 . rw[aQ]at hl;have fS:zG h b≠.dead:=λe=>by rw[e]at hi;cases hi
   have main:∀(B:Bl),ρ b=some B->B.b<wd.heap.size/\∀(j:Nat) x,vs[j]? = some x->wd.cell? ⟨B.b,off+j,none⟩=some x:=by
    intro B eB;obtain⟨o,q1,q2⟩:=hH.obj b B eB fS
    have hsz:B.b<wd.heap.size:=by
     rcases aS B.b wd.heap.size with h1|h1
     . exact h1
     . rw[bG h1]at q1;cases q1
    refine⟨hsz,λj x hj=>?_⟩;have eU:=hr j x hj;unfold zD at eU;cases ho:zG h b <;> rw[ho]at eU <;> first|(cases eU;done)|skip
    rotate_left
    . rename_i c kn;rw [ho]at q2
      cases q2 with
      | rows hn jl =>
       rename_i c' el fr;obtain⟨kz,hu⟩:=rows_cell eU
       have eD:off+j<kn:=by
        rcases sK eU with⟨_,_,_,_,e1,_⟩|⟨_,_,e1,e2,_⟩
        . cases e1
        . injection e1 with _ e1;subst e1;exact e2
       have h2:off+j<c'.size:=by omega
       have rr:=jl (off+j) c'[off+j] (aF h2) (by rw[kz];exact hu);rw [kz]at rr;have e3:=scal_one (aH.1 hs x (aj.2 ⟨j,hj⟩)) rr;unfold World.cell?;dsimp only;rw [q1];show c'[off+j]? = some x;rw [aF h2,e3]
    rename_i c kn z' kd';unfold wR at eU;dsimp only at eU;rw [ho]at q2
    cases q2 with
    | cells hn hs' hk hz jl fg hf=>
     rename_i c' el lo fQ;by_cases eD:off+j<kn
     . rw[if_pos eD]at eU;injection eU with eU
       have h2:off+j<c'.size:=by omega
       have rr:=jl (off+j) c'[off+j] eD (aF h2);rw [eU]at rr;have e3:=scal_one (aH.1 hs x (aj.2 ⟨j,hj⟩)) rr;unfold World.cell?;dsimp only;rw [q1];show c'[off+j]? = some x;rw [aF h2,e3]
     . rw[if_neg eD]at eU;cases eU
   cases hv with
   | slice0 e a=>exact .inl ⟨rfl,_,_,rfl⟩
   | slice e fE hlc ho=>
    rename_i B o';obtain⟨m1,m2⟩:=main B e;rcases ho with rfl|h0
    . exact .inr ⟨B.b,o',cap,rfl,hlc,m1,m2⟩
    . exact .inl ⟨by omega,_,_,by rw[show len=0 by omega]⟩
   | opened e hlc ho=>
    rename_i B o' c';obtain⟨m1,m2⟩:=main B e;rcases ho with⟨rfl,_⟩|⟨h0,_⟩
    . exact .inr ⟨B.b,o',c',rfl,hlc,m1,m2⟩
    . exact .inl ⟨by omega,_,_,by rw[show len=0 by omega]⟩
theorem pure_of_calls_row{f:FuncId}{sv:Value}{args:List Value}{h:zB}{n el len:Nat}{vs:List Value}{v:Value}{tabs:List (Nat×List Value)}(hf:hasB P f=true)(r:Row n h sv el 1 len vs)(hvs:vs.all xW=true)(ha:args.all xW=true)(hv:isRes v=true)
(ht:TabsH tabs h)(hg:∀p∈tabs,p.1<ng/\p.2.all xW=true)
(H:∀(wd:World) (sv':Value),rY wd tabs->((len=0/\∃a c,sv' = .slice a 0 c)\/(∃bk o c,sv' = .slice (some ⟨bk,o,none⟩) len c/\len<=c/\bk<wd.heap.size/\∀(j:Nat) x,vs[j]? = some x->wd.cell? ⟨bk,o+j,none⟩=some x))->
  Calls P f ⟨sv'::args⟩ wd λe w'=>e = .returned v/\Go.RowKit.Below wd.heap.size wd w'):Pure P ng f (sv::args) h n v:=by
 intro u k hk;refine loS_call.2 ⟨.ret v,u,h,n,hk _ _ _ ⟨rfl,rfl,rfl⟩,hasB_of hf,fun ρ base w0 wd args' cs hH hra hu=>?_⟩;obtain⟨sv',r',rfl,hsv,hr'⟩:=hra.of_cons;obtain rfl:=scals_same ha hr';obtain⟨e,w',fr,⟨rfl,hb⟩,hc,hfn,hl⟩:=H wd sv' (ht.world hg hH) (r.world hvs hH hsv) cs;obtain⟨k1,k2⟩:=hH.stay hb;obtain⟨y1,y2,y3,y4⟩:=hl;exact⟨ρ,w',fr,cs,hc,k1,k2,CsTo.refl _ _,(λe=>Bool.noConfusion e),hfn,v,y1,y2,y3,y4,RV.res_refl hv⟩
end
def Bld(T:Nat)(h:zB)(b:Nat)(p sv:Value):Prop:=yC (zG h b)=some (2,T+1,0)/\zD h b 0=some p/\zD h b 1=some sv
structure OneTurned (w w':World) (g:Nat):Prop where
 os:w'.os=w.os
 tape:w'.tape=w.tape
 output:w'.output=w.output
 size:w'.heap.size=w.heap.size
 rest:∀c,c≠g->w'.heap[c]? = w.heap[c]?
section
variable {P:Program} {ng:Nat}
theorem Bld.world{T:Nat}{h:zB}{b n:Nat}{p sv:Value}{ρ : Inj}{base:Nat}{w0 wd:World}{B:Bl}(hB:Bld T h b p sv)(hH:HeapR P ng ρ base w0 h n wd)(e: ρ b=some B) :
 ∃x y c,zG h b = .cells c 2 (T+1) 0/\Tr.get undef c 0=p/\Tr.get undef c 1=sv/\wd.heap[B.b]? = some (.cells #[x,y] T (0,0))/\RV ρ p x/\RV ρ sv y/\base<=B.b/\B.n=2:=by
 obtain⟨h1,h2,h3⟩:=hB;have fS:zG h b≠.dead:=λe=>by rw[e]at h1;cases h1
 obtain⟨o,q1,q2⟩:=hH.obj b B e fS;unfold zD at h2 h3;cases ho:zG h b <;> rw[ho]at h1 <;> first|(cases h1;done)|(exact absurd (kd_of h1) qK)|skip
 rename_i c kn z kd;have gd:some (kn,z,kd)=some (2,T+1,0):=h1;simp only[Option.some.injEq,Prod.mk.injEq]at gd;obtain⟨rfl,rfl,rfl⟩:=gd;rw [ho]at q2 h2 h3;have g0:Tr.get undef c 0=p:=by have:some (Tr.get undef c 0)=some p:=h2;injection this
 have g1:Tr.get undef c 1=sv:=by have:some (Tr.get undef c 1)=some sv:=h3;injection this
 cases q2 with
 | cells hn hs hk hz hv hb hf=>
  rename_i c' el lo hi;obtain⟨rfl,rfl⟩:=hf qK;have hel:T+1=el+1:=hz.2 rfl qJ;obtain rfl:T=el:=by omega
  have hn2:=hk qK;have hsz:c'.size=2:=by omega
  have e0:c'[0]? = some (c'[0]' qJ):=aF qJ;have e1:c'[1]? = some (c'[1]' qJ):=aF qJ;have r0:=hv 0 _ qJ  e0;have r1:=hv 1 _ qJ  e1;rw [g0]at r0;rw [g1]at r1;refine⟨_,_,c,rfl,g0,g1,?_,r0,r1,hb qK,hn2.symm⟩;rw [q1];congr 2
  apply Array.ext
  . simp[hsz]
  . intro i i1 i2;have:i=0\/i=1:=by omega
    rcases this with rfl|rfl <;> rfl
theorem copyCheck_fresh{f:FuncId}{T b n:Nat}{h:zB}{sv:Value}(hf:hasB P f=true)(hB:Bld T h b (.pointer none) sv)
(H:∀(wd:World) (c:Nat),wd.cell? ⟨c,0,none⟩=some (.pointer none)->wd.shape? c=some (T,2)->wd.frozen? ⟨c,0,none⟩=false->
  Calls P f #[.pointer (some ⟨c,0,none⟩)] wd λe w'=>e = .returned (.tuple #[])/\w'=wd.setCell ⟨c,0,none⟩ (.pointer (some ⟨c,0,none⟩))) :
 Rets P ng f [.pointer (some ⟨b,0,none⟩)] h n λv h' n'=>v = .tuple #[]/\h'=h.set .dead (stC (zG h b) 0 [.pointer (some ⟨b,0,none⟩)]) b/\n'=n:=by
 intro u k hk;refine loS_call.2 ⟨_,u,_,_,hk _ _ _ ⟨rfl,rfl,rfl⟩,hasB_of hf,fun ρ base w0 wd args' cs hH hra hu=>?_⟩;obtain⟨v',r',rfl,hv,hr'⟩:=hra.of_cons;obtain rfl:=hr'.of_nil
 cases hv with
 | ptr e =>
  rename_i B;obtain⟨x,y,c,ho,g0,g1,q1,rx,ry,hbase,hBn⟩:=hB.world hH e;cases rx
  have io:wd.cell? ⟨B.b,0,none⟩=some (.pointer none):=by unfold World.cell?;dsimp only;rw [q1];rfl
  have hsh:wd.shape? B.b=some (T,2):=by unfold World.shape?;rw [q1];rfl
  have hfz:wd.frozen? ⟨B.b,0,none⟩=false:=by unfold World.frozen?;dsimp only;rw [q1];rfl
  obtain⟨e2,w',fr,⟨rfl,rfl⟩,hcm,hfn,hl⟩:=H wd B.b io hsh hfz cs;obtain⟨y1,y2,y3,y4⟩:=hl
  have mf:(wd.setCell ⟨B.b,0,none⟩ (.pointer (some ⟨B.b,0,none⟩))).heap[B.b]? = some (.cells #[.pointer (some ⟨B.b,0,none⟩),y] T (0,0)):=by
   unfold World.setCell;dsimp only;rw [dB,if_pos rfl,q1];rfl
  obtain⟨k1,k2⟩:=hH.turn e (by rw[ho];exact AObj.noConfusion) (stC (zG h b) 0 [.pointer (some ⟨b,0,none⟩)]) (.cells #[.pointer (some ⟨B.b,0,none⟩),y] T (0,0)) (wd.setCell ⟨B.b,0,none⟩ (.pointer (some ⟨B.b,0,none⟩))) hbase (by
   rw[ho];refine .cells qJ  (by simp[hBn]) (λ_=>hBn.symm) ⟨λh=>absurd h qK,λ_ _=>rfl⟩ (λi v' hi e3=>?_) (λ_=>hbase) (λ_=>⟨rfl,rfl⟩);rw [Tr.get_ofListFrom];have fh:i=0\/i=1:=by omega
   rcases fh with rfl|rfl
   . rw[if_pos qL];have e4:some (Value.pointer (some ⟨B.b,0,none⟩))=some v':=e3;injection e4 with e4;subst e4
     exact .ptr e
   . rw[if_neg qL,g1];have e4:some y=some v':=e3;injection e4 with e4;subst e4
     exact ry) mf (by simp[World.setCell]) (λc hc=>by
   unfold World.setCell;dsimp only;rw [dB,if_neg (λh=>hc h.symm)]) rfl rfl rfl
  exact⟨ρ,_,fr,cs,hcm,k1,k2,CsTo.refl _ _,(λe=>Bool.noConfusion e),hfn,_,y1,y2,y3,y4,RV.res_refl rfl⟩
theorem copyCheck_used{f:FuncId}{T b n:Nat}{h:zB}{sv:Value}(hf:hasB P f=true)(hB:Bld T h b (.pointer (some ⟨b,0,none⟩)) sv)
(H:∀(wd:World) (c:Nat),wd.cell? ⟨c,0,none⟩=some (.pointer (some ⟨c,0,none⟩))->Calls P f #[.pointer (some ⟨c,0,none⟩)] wd λe w'=>e = .returned (.tuple #[])/\w'=wd) :
 Rets P ng f [.pointer (some ⟨b,0,none⟩)] h n λv h' n'=>v = .tuple #[]/\h'=h/\n'=n:=by
 intro u k hk;refine loS_call.2 ⟨_,u,_,_,hk _ _ _ ⟨rfl,rfl,rfl⟩,hasB_of hf,fun ρ base w0 wd args' cs hH hra hu=>?_⟩;obtain⟨v',r',rfl,hv,hr'⟩:=hra.of_cons;obtain rfl:=hr'.of_nil
 cases hv with
 | ptr e =>
  rename_i B;obtain⟨x,y,c,ho,g0,g1,q1,rx,ry,hbase,hBn⟩:=hB.world hH e
  cases rx with
  | ptr e'=>
   rename_i B';rw [e]at e';injection e' with e'
   subst e';have io:wd.cell? ⟨B.b,0,none⟩=some (.pointer (some ⟨B.b,0,none⟩)):=by unfold World.cell?;dsimp only;rw [q1];rfl
   obtain⟨e2,w',fr,⟨rfl,rfl⟩,hcm,hfn,hl⟩:=H wd B.b io cs;obtain⟨y1,y2,y3,y4⟩:=hl;exact⟨ρ,_,fr,cs,hcm,hH,Grow.refl _ _ _ _ hH.dom,CsTo.refl _ _,(λe=>Bool.noConfusion e),hfn,_,y1,y2,y3,y4,RV.res_refl rfl⟩
abbrev bytesV(l:List UInt8):List Value:=l.map λb=>Value.int .u8 (b.toNat:Nat)
theorem builder_String{f:FuncId}{T e8 b lo n:Nat}{h:zB}{p sv:Value}{l:List UInt8}(hf:hasB P f=true)(hB:Bld T h b p sv)(ho:Own lo n h sv e8 1 l.length (bytesV l))(eJ:zH sv≠some b)(eN:l.length<1000000)
(H0:∀(wd:World) (c:Nat) (x:Value),wd.heap[c]? = some (.cells #[x,.slice none 0 0] T (0,0))->Calls P f #[.pointer (some ⟨c,0,none⟩)] wd λe w'=>e = .returned (.string ⟨#[]⟩)/\Go.RowKit.Below wd.heap.size wd w')
(H:∀(wd:World) (c g cap:Nat) (x:Value) (cur:Array Value),l≠[]->wd.heap[c]? = some (.cells #[x,.slice (some ⟨g,0,none⟩) l.length cap] T (0,0))->wd.heap[g]? = some (.cells cur e8 (0,0))->l.length<=cap->cap<=cur.size->
  (∀(j:Nat) (y:UInt8),l[j]? = some y->cur[j]? = some (.int .u8 (y.toNat:Nat)))->Calls P f #[.pointer (some ⟨c,0,none⟩)] wd λe w'=>e = .returned (.string ⟨⟨l⟩⟩)/\OneTurned wd w' g) :
 Rets P ng f [.pointer (some ⟨b,0,none⟩)] h n λv h' n'=>v=str l/\n'=n/\(∀b',zH sv≠some b'->zG h' b'=zG h b'):=by
 intro u k hk;rcases ho with⟨rfl,h0,h1⟩|⟨b2,q1,q2,rfl,q3,q4,q5,q6⟩
 . have kH:l=[]:=aP.1 h0;subst kH;refine loS_call.2 ⟨_,u,_,_,hk _ _ _ ⟨rfl,rfl,λ_ _=>rfl⟩,hasB_of hf,fun ρ base w0 wd args' cs hH hra hu=>?_⟩;obtain⟨v',r',rfl,hv,hr'⟩:=hra.of_cons;obtain rfl:=hr'.of_nil
   cases hv with
   | ptr e=>
    rename_i B;obtain⟨x,y,c,ho,g0,g1,w1,rx,ry,hbase,hBn⟩:=hB.world hH e;cases ry
    obtain⟨e2,w',fr,⟨rfl,gT⟩,hcm,hfn,hl⟩:=H0 wd B.b x w1 cs;obtain⟨y1,y2,y3,y4⟩:=hl;obtain⟨k1,k2⟩:=hH.stay gT;exact⟨ρ,_,fr,cs,hcm,k1,k2,CsTo.refl _ _,(λe=>Bool.noConfusion e),hfn,_,y1,y2,y3,y4,RV.res_refl rfl⟩
 . refine loS_call.2 ⟨.ret (str l),u,h.set .dead .dead b2,n,hk _ _ _ ⟨rfl,rfl,λb' fg=>?_⟩,hasB_of hf,fun ρ base w0 wd args' cs hH hra hu=>?_⟩
   . rw[zN,if_neg (λe=>fg (by rw[e];rfl))]
   . obtain⟨v',r',rfl,hv,hr'⟩:=hra.of_cons;obtain rfl:=hr'.of_nil
     cases hv with
     | ptr e=>
      rename_i B;obtain⟨x,y,c,ho,g0,g1,w1,rx,ry,hbase,hBn⟩:=hB.world hH e;have fS:zG h b2≠.dead:=λe=>by rw[e]at q3;cases q3
      rcases ry.of_slice with⟨G,o',c',eg,rfl,_,hl',⟨hc,_⟩|⟨_,hog⟩⟩|⟨_,hc,_⟩
      . exact absurd rfl hc
      rotate_left
      . exact absurd hc qK 
      . skip
        obtain⟨o,z1,z2⟩:=hH.obj b2 G eg fS;unfold zD at q6;cases hob:zG h b2 <;> rw[hob]at q3 <;> first|(cases q3;done)|(exact absurd (kd_of q3) qK)|skip
        rename_i cc kn z kd;have gd:some (kn,z,kd)=some ((bytesV l).length,zc e8 1,1):=q3;simp only[Option.some.injEq,Prod.mk.injEq]at gd;obtain⟨rfl,rfl,rfl⟩:=gd;rw [hob]at z2 q6
        cases z2 with
        | cells hn hs hk' hz hv hb hf' =>
         rename_i cur el lo' fQ;obtain⟨rfl,rfl⟩:=hf' qK;obtain⟨hel,hGz⟩:=zc_inj (hz.1 rfl);subst hel
         have fE:o'=0/\0+c'*G.z=G.n:=by
          rcases hog with h9|⟨_,h9⟩
          . exact h9
          . exact absurd h9 (dO _)
         obtain⟨rfl,ku⟩:=fE;rw [<- hGz]at ku
         have ky:∀(j:Nat) (y:UInt8),l[j]? = some y->cur[j]? = some (.int .u8 (y.toNat:Nat)):=by
          intro j y hj;have hjl:j<l.length:=(ab.1 hj).1;have hjk:j<(bytesV l).length:=by simpa using hjl
          have r2:=q6 j;unfold wR at r2;dsimp only at r2;rw [if_pos hjk]at r2;have e5:(bytesV l)[j]? = some (.int .u8 (y.toNat:Nat)):=by rw[ao,hj];rfl
          rw[e5]at r2;injection r2 with r2
          have hjc:j<cur.size:=by omega
          have r1:=hv j cur[j] hjk (aF hjc);rw [r2]at r1;rw [aF hjc,scal_one rfl r1]
         obtain⟨e2,w',fr,⟨rfl,ht⟩,hcm,hfn,hl⟩:=H wd B.b G.b c' x cur (λe9=>by rw[e9]at q5;exact absurd q5 (dO _)) w1 z1 hl' qJ  ky cs;obtain⟨y1,y2,y3,y4⟩:=hl;obtain⟨k1,k2⟩:=hH.kill b2;have hGbase:base<=G.b:=hb qK 
         have kO:∀a A,ρ a=some A->zG (h.set .dead .dead b2) a≠.dead->A.b≠G.b:=by
          intro a A ea iq heq;rw [zN]at iq;by_cases gk:b2=a
          . rw[if_pos gk]at iq;exact iq rfl
          . rw[if_neg gk]at iq;exact gk (hH.inj b2 a G A eg ea fS iq heq.symm)
         refine⟨ρ,w',fr,cs,hcm,⟨k1.dom,λa A ea iq=>?_,k1.inj,?_,by rw[ht.size];exact k1.size,k1.glob,k1.ngn⟩,⟨k2.nn,k2.old,k2.new,λcx hcx hk9=>?_,by rw[ht.size];exact ad _,k2.dead,ht.tape⟩,CsTo.refl _ _,(λe=>Bool.noConfusion e),hfn,_,y1,y2,y3,y4,RV.res_refl rfl⟩
         . obtain⟨o1,p1,p2⟩:=k1.obj a A ea iq;exact⟨o1,by rw[ht.rest _ (kO a A ea iq)];exact p1,p2⟩
         . exact k1.below.trans ⟨ht.os,ht.tape,ht.output,by rw[ht.size];exact ad _,λkx hkx=>ht.rest kx qJ⟩
         . exact ht.rest cx (λh9=>hk9 b2 G eg fS h9.symm)
end
end Go.Ex
namespace Go.Ex
open Go
def cutB(c:UInt8):List UInt8->List UInt8×List UInt8×Bool
 | []=>([],[],false)
 | x::r=>if x=c then([],r,true) else(x::(cutB c r).1,(cutB c r).2.1,(cutB c r).2.2)
def xR(c:UInt8):List UInt8->List (List UInt8)
 | []=>[[]]
 | x::r=>if x=c then []::xR c r else match xR c r with
  | []=>[[x]]
  | h::t=>(x::h)::t
theorem splitL_ne(c:UInt8):∀s,xR c s≠[]:=by
 intro s
 induction s with
 | nil=>simp [xR]
 | cons x r ih=>
  unfold xR;split
  . simp
  . split <;> simp
theorem cutB_idx(c:UInt8):∀s:List UInt8,(Lib.index s [c] = -1/\cutB c s=(s,[],false)/\c∉s)\/(∃i:Nat,Lib.index s [c]=i/\cutB c s=(s.take i,s.drop (i+1),true)/\i<s.length/\s=s.take i++c::s.drop (i+1)/\c∉s.take i):=by
 intro s
 induction s with
 | nil=>exact .inl ⟨rfl,rfl,by simp⟩
 | cons x r ih=>
  by_cases h:x=c
  . subst h;refine .inr ⟨0,?_,?_,by simp,by simp,by simp⟩
    . unfold Lib.index;simp
    . unfold cutB;simp
  . have hp:([c].isPrefixOf (x::r))=false:=by simp[List.isPrefixOf];exact λe=>h e.symm
    rcases ih with⟨h1,h2,h3⟩|⟨i,h1,h2,h3,h4,h5⟩
    . refine .inl ⟨?_,?_,?_⟩
      . unfold Lib.index;rw [hp,h1];rfl
      . unfold cutB;rw [if_neg h,h2]
      . intro hm;rcases au.1 hm with e|e
        . exact h e.symm
        . exact h3 e
    . refine .inr ⟨i+1,?_,?_,by simp;exact h3,?_,?_⟩
      . unfold Lib.index;rw [hp,h1];have:((i:Int) == -1)=false:=by simp
        rw[this];simp
      . unfold cutB;rw [if_neg h,h2];simp
      . simp only[cE,List.drop_succ_cons,cd];rw [<- h4]
      . simp only[cE,au,not_or];exact⟨λe=>h e.symm,h5⟩
theorem cut_one(c:UInt8)(s:List UInt8):Lib.cut s [c]=cutB c s:=by
 unfold Lib.cut;rcases cutB_idx c s with⟨h1,h2,_⟩|⟨i,h1,h2,h3,_⟩
 . rw[h1,h2];rfl
 . rw[h1,h2,if_pos qJ];simp
theorem splitL_cut(c:UInt8):∀s:List UInt8,xR c s=if (cutB c s).2.2 then(cutB c s).1::xR c (cutB c s).2.1 else [s]:=by
 intro s
 induction s with
 | nil=>rfl
 | cons x r ih =>
  have e1:xR c (x::r)=if x=c then []::xR c r else match xR c r with
   | []=>[[x]]
   | h::t=>(x::h)::t:=rfl
  have e2:cutB c (x::r)=if x=c then([],r,true) else(x::(cutB c r).1,(cutB c r).2.1,(cutB c r).2.2):=rfl
  rw[e1,e2];by_cases h:x=c
  . rw[if_pos h,if_pos h];rfl
  . rw[if_neg h,if_neg h,ih];by_cases hb:(cutB c r).2.2=true
    . rw[if_pos hb];dsimp only;rw [if_pos hb]
    . rw[if_neg hb];dsimp only;rw [if_neg hb]
theorem countFrom_one(c:UInt8):∀(k:Nat) (s:List UInt8),s.length<k->Lib.countFrom [c] k s=s.count c:=by
 intro k
 induction k with
 | zero=>intro s h;omega
 | succ k ih=>
  intro s h;unfold Lib.countFrom;rcases cutB_idx c s with⟨h1,_,h3⟩|⟨i,h1,_,h3,h4,h5⟩
  . rw[h1,List.count_eq_zero_of_not_mem h3];rfl
  . have hi:(Lib.index s [c] == -1)=false:=by rw[h1];simp
    rw[hi,h1];simp only[bz,if_false,bM,bT];rw [ih (s.drop (i+1)) (by rw[List.length_drop];omega)]
    have:s.count c=(s.take i).count c+((s.drop (i+1)).count c+1):=by
     conv=>lhs;rw [h4]
     rw[List.count_append,dQ]
    rw[this,List.count_eq_zero_of_not_mem h5];omega
theorem splitK_one(c:UInt8):∀(k:Nat) (s:List UInt8),s.count c<=k->Lib.splitK [c] 0 k s=xR c s:=by
 intro k
 induction k with
 | zero=>
  intro s h;rw [splitL_cut];rcases cutB_idx c s with⟨_,h2,_⟩|⟨i,_,_,_,h4,_⟩
  . rw[h2];rfl
  . rw[h4,List.count_append,dQ]at h;omega
 | succ k ih=>
  intro s h;rw [splitL_cut];unfold Lib.splitK;rcases cutB_idx c s with⟨h1,h2,_⟩|⟨i,h1,h2,h3,h4,_⟩
  . rw[h1,h2];rfl
  . have hi:(Lib.index s [c] == -1)=false:=by rw[h1];simp
    rw[hi,h2,h1]
    have hc:(s.drop (i+1)).count c<=k:=by
     rw[h4,List.count_append,dQ]at h;omega
    have:=ih (s.drop (i+1)) hc;simp only[bz,if_false,if_true,bM,Nat.add_zero,bT];rw [this]
theorem split_one(c:UInt8)(s:ByteArray):(Lib.splitB ⟨#[c]⟩ 0 (Lib.countB s ⟨#[c]⟩) s).map (·.data.toList)=xR c s.data.toList:=by
 rw[Lib.splitB_data];refine splitK_one c _ _ ?_;show _<=Lib.countFrom [c] (s.data.toList.length+1) s.data.toList;rw [countFrom_one c _ _ qJ];exact ad _
theorem count_one(c:UInt8)(s:ByteArray):Lib.countB s ⟨#[c]⟩=s.data.toList.count c:=countFrom_one c _ _ qJ 
theorem splitL_length(c:UInt8):∀s,(xR c s).length=s.count c+1:=by
 intro s
 induction s with
 | nil=>rfl
 | cons x r ih=>
  unfold xR;by_cases h:x=c
  . subst h;simp [ih]
  . rw[if_neg h,List.count_cons_of_ne h];split
    . rename_i e;exact absurd e (splitL_ne c r)
    . rename_i a b e;rw [e]at ih;simpa using ih
end Go.Ex
namespace Go.Ex
section
open Go.Shelf Go.RowKit Go.Proofs
variable {P:Program} {ρ : Ren}
theorem freeze_one(w:World)(g m:Nat):OneTurned w (w.freeze ⟨g,0,none⟩ m) g:=by
 unfold World.freeze;split
 . exact⟨rfl,rfl,rfl,rfl,λ_ _=>rfl⟩
 . refine⟨rfl,rfl,rfl,by simp,λc hc=>?_⟩;dsimp only;rw [dB,if_neg (λh=>hc h.symm)]
theorem OneTurned.drew{w w':World}{g:Nat}(h:OneTurned w.drew w' g):OneTurned w w' g:=⟨h.os,h.tape,h.output,h.size,h.rest⟩
set_option maxHeartbeats 1000000 in
set_option maxRecDepth 100000 in
theorem string_model(L:Lays.n169 P ρ)(X:Builder.Extra P ρ)(b g cap:Nat)(p:Value)(cur:Array Value)(l:List UInt8)(w:World)(h0:l≠[])(iK:l.length<1000000)(hbk:w.heap[b]? = some (.cells #[p,.slice (some ⟨g,0,none⟩) l.length cap] (ρ.t 72) (0,0)))(hg:w.heap[g]? = some (.cells cur (ρ.t 5) (0,0)))
(hnc:l.length<=cap)(fI:cap<=cur.size)(ky:∀(j:Nat) (y:UInt8),l[j]? = some y->cur[j]? = some (.int .u8 (y.toNat:Nat))) :
 Calls P (ρ.f 169) #[.pointer (some ⟨b,0,none⟩)] w λe w'=>e = .returned (.string ⟨l.toArray⟩)/\OneTurned w w' g:=by
 have kH:l.length≠0:=by simpa using h0
 have c1:w.drew.cell? ⟨b,1,none⟩=some (.slice (some ⟨g,0,none⟩) l.length cap):=by
  have:w.drew.heap[b]? = some (.cells #[p,.slice (some ⟨g,0,none⟩) l.length cap] (ρ.t 72) (0,0)):=hbk;rw [Lib.cell_of_heap this];rfl
 have hSD:(Builtin.unsafeSliceData_ #[(ρ.t 37)] (ρ.t 127) #[.slice (some ⟨g,0,none⟩) l.length cap]).run P w.drew = .ok (.pointer (some ⟨g,0,none⟩)) w.drew:=
  Lib.run_unsafeSliceData_row _ _ _ _ _ _ qJ 
 have hUS:(Builtin.unsafeString_ #[(ρ.t 127),(ρ.t 3)] (ρ.t 9) #[.pointer (some ⟨g,0,none⟩),.int .i64 l.length]).run P w.drew = .ok (.string ⟨l.toArray⟩) (w.drew.freeze ⟨g,0,none⟩ l.length):=by
  refine Lib.run_unsafeString_row w.drew (ρ.t 127) (ρ.t 3) (ρ.t 9) (ρ.t 5) L.t127 X.cellsByte g cur.size (by have hg':w.drew.heap[g]? = some (.cells cur (ρ.t 5) (0,0)):=hg;simp [World.shape?,hg']) l h0 qJ qJ  ?_;intro j x hx;have hg':w.drew.heap[g]? = some (.cells cur (ρ.t 5) (0,0)):=hg;have e9:Addr.add ⟨g,0,none⟩ j=⟨g,j,none⟩:=by simp[Addr.add];omega
  rw[e9,Lib.cell_of_heap hg'];exact ky j x hx
 have mixed:=L.mixed;have t72:=L.t72;have a72:=L.a72;have z72:=L.z72;have v72:=L.v72;have u72:=run_underlying L.t72;have t70:=L.t70;have a70:=L.a70;have z70:=L.z70;have v70:=L.v70;have u70:=run_underlying L.t70;have t37:=L.t37;have a37:=L.a37;have z37:=L.z37;have v37:=L.v37;have u37:=run_underlying L.t37;have t127:=L.t127;have a127:=L.a127;have z127:=L.z127;have v127:=L.v127;have u127:=run_underlying L.t127;have t3:=L.t3;have a3:=L.a3;have z3:=L.z3;have v3:=L.v3;have u3:=run_underlying L.t3;have t9:=L.t9;have a9:=L.a9;have z9:=L.z9;have v9:=L.v9;have u9:=run_underlying L.t9;have t5:=X.t5;have a5:=X.a5;have z5:=X.z5;have v5:=X.v5;have u5:=run_underlying X.t5
 go_enter L.f169,Body.n169_ntmps ρ
 go_wp2
 go_region_o
 all_goals (go_wp2;go_ret;exact⟨rfl,(freeze_one _ _ _).drew⟩)
end
end Go.Ex
namespace Go.Ex
section
theorem rep_len(l:List Value)(m:Nat):(rep l m).length=m*l.length:=by
 induction m with
 | zero=>simp [rep]
 | succ m ih=>show(l++rep l m).length=_;rw [ah,ih,cL,Nat.add_comm]
theorem rep_mem{l:List Value}{m:Nat}{y:Value}(h:y∈rep l m):y∈l:=by
 induction m with
 | zero=>simp [rep]at h
 | succ m ih=>
  rcases aA.1 (show y∈l++rep l m from h) with h|h
  . exact h
  . exact ih h
noncomputable def apZB(P:Program)(sT xT e:Nat):Bool:=match und P sT,und P xT,inf? P e,xI P e with
 | some (.slice e'),some (.int _),some ei,some z=>Nat.beq e' e && (Nat.beq ei.size 1 && (Nat.blt ei.bytes 100000 && scalB z (.int .i64 0)))
 | _,_,_,_=>false
section
variable {P:Program} {sT xT e:Nat} {cx:Cx} {d:List Deferred} {u:Option zK} {h:zB} {n:Nat} {K:W->Value->Prop}
theorem appZ(hT:apZB P sT xT e=true){m:Nat}(h0:0<m)(hm:m<100000)(k:K ⟨d,u,hal h n (mkC (rep [I64 0] m) (zc e 1) 1),n+1⟩ (.slice (some ⟨n,0,none⟩) m inf)):BuB P cx .append [sT,xT] [.slice none 0 0,I64 (m:Nat)] d u h n K:=by
 unfold apZB at hT;split at hT
 . rename_i e' kk ei z t1 t2 t3 t4;obtain⟨a1,hT⟩:=ak.1 hT;obtain⟨a2,hT⟩:=ak.1 hT;obtain⟨a3,a4⟩:=ak.1 hT;obtain rfl:=zT a1;have a2:=zT a2;obtain rfl:=scalB_eq a4;show vA P [sT,xT] [.slice none 0 0,I64 (m:Nat)] h n (λh' n' v'=>wE (K ⟨d,u,h',n'⟩ v'))=true;unfold vA sC;dsimp only;rw [t1,t2];dsimp only;rw [t3,t4];dsimp only
   have hZ:xD P h e' ei.size (.int kk) (I64 (m:Nat))=some (m,rep [I64 0] m):=by
    show(match natOf (I64 (m:Nat)),xI P e' with
     | some m,some z=>cond (Nat.blt m 100000 && Nat.beq (cellsOf z).length ei.size) (some (m,rep (cellsOf z) m)) none
     | _,_=>none)=_
    rw[t4];show cond (Nat.blt m 100000 && Nat.beq 1 ei.size) (some (m,rep [I64 0] m)) none=_;rw [xV hm,a2];rfl
   rw[hZ];dsimp only
   have c1:(Nat.beq ei.size 0 || !Nat.beq (cellsOf (Value.int .i64 0)).length ei.size || !Nat.blt (Nat.add 0 m) 1000000 || !Nat.blt ei.bytes 100000)=false:=by
    rw[a2,a3,xV (show Nat.add 0 m<1000000 from by have:Nat.add 0 m=m:=aK m;omega)];rfl
   rw[c1];have c2:(Nat.beq m 0 && !Nat.beq 0 0 && (Nat.beq 0 inf || Nat.ble 0 0))=false:=by simp
   rw[c2];have ff:Nat.beq 0 inf=false:=by decide
   rw[ff];show growEx h n none 0 0 m ei.size (zc e' ei.size) (rep [I64 0] m) (λv h n=>wE (K ⟨d,u,h,n⟩ v))=true;unfold growEx
   have b1:Nat.ble (Nat.add 0 m) 0=false:=by
    cases e9:Nat.ble (Nat.add 0 m) 0 with
    | false=>rfl
    | true=>
     have h9:Nat.add 0 m<=0:=xQ e9;have fM:0+m<=0:=h9;omega
   rw[b1,a2];show xN .lF 0 ([]++rep [I64 0] m) _=true;refine wG (λy hy=>?_) ?_
   . have hy:y∈rep [I64 0] m:=hy;have:=rep_mem hy;simp at this;subst this;rfl
   . rw[yM];refine isSo_iff.2 ?_
     have e1:Nat.mul (Nat.add 0 m) 1=(rep [I64 0] m).length:=by
      rw[rep_len];show(0+m)*1=m*1;omega
     have e2:Nat.add 0 m=m:=aK m;rw [e1,e2];exact k
 . cases hT
theorem wayZ{lo m:Nat}(eE:lo<=n):WayR lo (n+1) (hal h n (mkC (rep [I64 0] m) (zc e 1) 1)) (.slice (some ⟨n,0,none⟩) m inf) e 1 m (rep [I64 0] m):=by
 refine⟨n,_,_,_,inf,eE,be n,rfl,by rw[zO,if_pos rfl];exact vK _ _ _,by rw[rep_len];rfl,ad _,λi _=>?_,.inr ⟨rfl,rfl,rfl⟩⟩;unfold zD;rw [zO,if_pos rfl];exact wW _ _ _ _
theorem way_app0{lo len sz:Nat}{v x:Value}{vs:List Value}[A:ApC P sT xT e sz](r:WayR lo n h v e sz len vs)(hr:Row n h x e sz 0 [])(hl:len<1000000)(hc:len=0->∀b c,v = .slice b 0 c->c=inf)(k:K ⟨d,u,h,n⟩ v):BuB P cx .append [sT,xT] [v,x] d u h n K:=by
 obtain⟨xd,ei,z0,t1,t2,t3,t4,t5,t6,t7,t8,t9⟩:=apTB_of A.ok;have hZ:xD P h e ei.size xd x=some (0,[]):=by rw[t6];exact uK t3 hr
 obtain⟨b,bm,z,kd,cap,g1,g2,rfl,g3,g4,g5,g6,g7⟩:=r
 have fq:Nat.beq cap 0=false/\(Nat.beq cap inf || Nat.ble len cap)=true:=by
  have hi0:inf≠0:=by decide
  rcases g7 with⟨_,_,q1,q2,_⟩|⟨_,rfl,_⟩
  . refine⟨?_,by rw[vC q2,Bool.or_true]⟩
    cases e9:Nat.beq cap 0 with
    | false=>rfl
    | true=>
     have h9:=zT e9;have h8:len=0:=by omega
     subst h8;have:=hc rfl _ _ rfl;omega
  . refine⟨?_,by rw[show Nat.beq inf inf=true from aR _];rfl⟩
    cases e9:Nat.beq inf 0 with
    | false=>rfl
    | true=>exact absurd (zT e9) hi0
 show vA P [sT,xT] [.slice (some ⟨b,0,none⟩) len cap,x] h n (λh' n' v'=>wE (K ⟨d,u,h',n'⟩ v'))=true;unfold vA sC;dsimp only;rw [t1,t2];dsimp only;rw [t4,t5];dsimp only;rw [hZ];dsimp only
 have c1:(Nat.beq ei.size 0 || !Nat.beq (cellsOf z0).length ei.size || !Nat.blt (Nat.add len 0) 1000000 || !Nat.blt ei.bytes 100000)=false:=by
  have a1:Nat.beq ei.size 0=false:=by
   cases e9:Nat.beq ei.size 0 with
   | false=>rfl
   | true=>have:=zT e9;omega
  have a2:Nat.beq (cellsOf z0).length ei.size=true:=by rw[t7,t6];exact aR _
  rw[a1,a2,xV (show Nat.add len 0<1000000 from hl),xV t9];rfl
 rw[c1];have c2:(Nat.beq 0 0 && !Nat.beq cap 0 && (Nat.beq cap inf || Nat.ble len cap))=true:=by rw[fq.1,fq.2];rfl
 rw[c2];exact isSo_iff.2 k
theorem slice_nil0{ty sz:Nat}[s:SlC P ty e sz]:xS P h ty (.slice none 0 0) none (some (I64 0)) none=some (.slice none 0 0):=by
 obtain⟨hu,ei,hi,_⟩:=s.get;unfold xS;rw [hu];dsimp only;rw [hi];rfl
theorem cap_nil{ty:Nat}{el:TypeId}[s:UnC P ty (.slice el)]:Qb P .cap [ty] [.slice none 0 0] h (some (I64 0)):=by
 show aCap P ty _=_;unfold aCap;rw [s.ok];rfl
theorem app_nil0{sz:Nat}{x:Value}[A:ApC P sT xT e sz](hr:Row n h x e sz 0 [])(k:K ⟨d,u,h,n⟩ (.slice none 0 0)):BuB P cx .append [sT,xT] [.slice none 0 0,x] d u h n K:=by
 obtain⟨xd,ei,z0,t1,t2,t3,t4,t5,t6,t7,t8,t9⟩:=apTB_of A.ok;have hZ:xD P h e ei.size xd x=some (0,[]):=by rw[t6];exact uK t3 hr
 show vA P [sT,xT] [.slice none 0 0,x] h n (λh' n' v'=>wE (K ⟨d,u,h',n'⟩ v'))=true;unfold vA sC;dsimp only;rw [t1,t2];dsimp only;rw [t4,t5];dsimp only;rw [hZ];dsimp only
 have c1:(Nat.beq ei.size 0 || !Nat.beq (cellsOf z0).length ei.size || !Nat.blt (Nat.add 0 0) 1000000 || !Nat.blt ei.bytes 100000)=false:=by
  have a1:Nat.beq ei.size 0=false:=by
   cases e9:Nat.beq ei.size 0 with
   | false=>rfl
   | true=>have:=zT e9;omega
  have a2:Nat.beq (cellsOf z0).length ei.size=true:=by rw[t7,t6];exact aR _
  rw[a1,a2,xV (show Nat.add 0 0<1000000 from by decide),xV t9];rfl
 rw[c1];have ff:Nat.beq 0 inf=false:=by decide
 rw[ff];exact isSo_iff.2 k
end
end
end Go.Ex
