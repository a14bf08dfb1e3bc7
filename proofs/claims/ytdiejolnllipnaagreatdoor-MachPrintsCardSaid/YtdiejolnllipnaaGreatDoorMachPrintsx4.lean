/- What the law leans on, part 4 of 24. Conditions: those that each theorem states. -/
import Derived.Test.YtdiejolnllipnaaGreatDoorMachPrintsx3
import Derived.Defers

set_option linter.unusedVariables false
set_option linter.unusedSimpArgs false
namespace Go.Ex
section
section
variable {P:Program} {ng:Nat}
theorem HeapR.kill{ρ : Inj}{base:Nat}{w0:World}{h:zB}{n:Nat}{wd:World}(r:HeapR P ng ρ base w0 h n wd)(b:Nat) :
 HeapR P ng ρ base w0 (h.set .dead .dead b) n wd/\Grow ρ h n wd ρ (h.set .dead .dead b) n wd:=by
 have live:∀x,zG (h.set .dead .dead b) x≠.dead->zG (h.set .dead .dead b) x=zG h x/\zG h x≠.dead:=by
  intro x hx;rw [zN]at hx ⊢;by_cases e:b=x
  . rw[if_pos e]at hx;exact absurd rfl hx
  . rw[if_neg e]at hx ⊢;exact⟨rfl,hx⟩
 refine⟨⟨r.dom,?_,?_,r.below,r.size,r.glob,r.ngn⟩,⟨ad _,λ_ _=>rfl,?_,λ_ _ _=>rfl,ad _,?_,rfl⟩⟩
 . intro x X e hx;obtain⟨e1,e2⟩:=live x hx;rw [e1];exact r.obj x X e e2
 . intro x y X Y ex ey hx hy;exact r.inj x y X Y ex ey (live x hx).2 (live y hy).2
 . intro x X hx e;rw [r.dom x hx]at e;cases e
 . intro x hx e;rw [zN];split
   . rfl
   . exact e
theorem HeapR.anew{ρ : Inj}{base:Nat}{w0:World}{h:zB}{n:Nat}{wd:World}(r:HeapR P ng ρ base w0 h n wd){b:Nat}{A B:Bl}(hb: ρ b=some A)(hl:zG h b≠.dead)(hAB:B.b=A.b)
(o:AObj)(o':Obj)(wd':World)(hbase:base<=B.b)(hr:ObjR P ng (ρ.put n B) base B o o')(hw:wd'.heap[B.b]? = some o')(hsz:wd'.heap.size=wd.heap.size)
(hk:∀c,c≠B.b->wd'.heap[c]? = wd.heap[c]?)(h1:wd'.os=wd.os)(h2:wd'.tape=wd.tape)(h3:wd'.output=wd.output) :
 HeapR P ng (ρ.put n B) base w0 ((h.set .dead .dead b).set .dead o n) (n+1) wd'/\Grow ρ h n wd (ρ.put n B) ((h.set .dead .dead b).set .dead o n) (n+1) wd':=by
 have hn: ρ n=none:=r.dom n (ad _);have hle:=Inj.le_put B hn;have ib:b≠n:=λe=>by rw[e,hn]at hb;cases hb
 have get:∀x,zG ((h.set .dead .dead b).set .dead o n) x=if n=x then o else if b=x then .dead else zG h x:=by
  intro x;rw [zN,zN]
 have live:∀x,x≠n->zG ((h.set .dead .dead b).set .dead o n) x≠.dead->zG ((h.set .dead .dead b).set .dead o n) x=zG h x/\zG h x≠.dead/\x≠b:=by
  intro x hx hd;rw [get,if_neg (λe=>hx e.symm)]at hd ⊢;by_cases e:b=x
  . rw[if_pos e]at hd;exact absurd rfl hd
  . rw[if_neg e]at hd ⊢;exact⟨rfl,hd,λe2=>e e2.symm⟩
 have oldρ : ∀x,x≠n->(ρ.put n B) x = ρ x:=λx hx=>by simp[Inj.put,hx]
 refine⟨⟨?_,?_,?_,?_,by rw[hsz];exact r.size,?_,?_⟩,⟨by omega,?_,?_,?_,by omega,?_,h2⟩⟩
 . intro x hx;rw [oldρ x qJ];exact r.dom x qJ 
 . intro x X e hx;by_cases hxn:x=n
   . subst hxn;rw [xZ]at e;injection e with e;subst e
     refine⟨o',hw,?_⟩;rw [get,if_pos rfl];exact hr
   . obtain⟨e1,e2,e3⟩:=live x hxn hx;rw [oldρ x hxn]at e;obtain⟨ob,f1,f2⟩:=r.obj x X e e2;refine⟨ob,?_,?_⟩
     . rw[hk _ (λe4=>e3 (r.inj x b X A e hb e2 hl (e4.trans hAB))),f1]
     . rw[e1];exact f2.mono hle
 . intro x y X Y ex ey hx hy hxy;by_cases hxn:x=n
   . by_cases hyn:y=n
     . rw[hxn,hyn]
     . obtain⟨e1,e2,e3⟩:=live y hyn hy;subst hxn;rw [xZ]at ex;injection ex with ex;subst ex
       rw[oldρ y hyn]at ey;exact absurd (r.inj y b Y A ey hb e2 hl (hxy.symm.trans hAB)) e3
   . obtain⟨e1,e2,e3⟩:=live x hxn hx;rw [oldρ x hxn]at ex;by_cases hyn:y=n
     . subst hyn;rw [xZ]at ey;injection ey with ey;subst ey
       exact absurd (r.inj x b X A ex hb e2 hl (hxy.trans hAB)) e3
     . obtain⟨f1,f2,f3⟩:=live y hyn hy;rw [oldρ y hyn]at ey;exact r.inj x y X Y ex ey e2 f2 hxy
 . exact r.below.trans ⟨h1,h2,h3,by omega,λk hk'=>hk k qJ⟩
 . intro g hg;obtain⟨G,e1,e2⟩:=r.glob g hg;exact⟨G,hle _ _ e1,e2⟩
 . have:=r.ngn;omega
 . intro x hx;exact oldρ x qJ 
 . intro x X hx e;by_cases hxn:x=n
   . subst hxn;rw [xZ]at e;injection e with e;subst e
     refine .inr ⟨b,A,?_,hb,hAB.symm,hl⟩;rcases aS b x with h5|h5
     . exact h5
     . rw[r.dom b h5]at hb;cases hb
   . rw[oldρ x hxn,r.dom x qJ]at e;cases e
 . intro c _ eP;exact hk c λe=>eP b A hb hl (by rw[e,hAB])
 . intro x hx e;rw [get,if_neg qJ];split
   . rfl
   . exact e
theorem HeapR.drawn{ρ : Inj}{base:Nat}{w0:World}{h:zB}{n:Nat}{wd:World}(r:HeapR P ng ρ base w0 h n wd)(d:Nat):HeapR P ng ρ base w0 h n { wd with drawn:=d }:=
 ⟨r.dom,r.obj,r.inj,⟨r.below.os,r.below.tape,r.below.output,r.below.size,r.below.block⟩,r.size,r.glob,r.ngn⟩
theorem Grow.drawn{ρ ρ':Inj}{h h':zB}{n n':Nat}{w w':World}(g:Grow ρ h n w ρ' h' n' w')(d:Nat):Grow ρ h n w ρ' h' n' { w' with drawn:=d }:=
 ⟨g.nn,g.old,g.new,g.keep,g.size,g.dead,g.tape⟩
theorem zeroCells_size(z:Array Value)(k:Nat):(Builtin.zeroCells z k).size=k*z.size:=by simp[Builtin.zeroCells]
theorem HeapR.grown{ρ : Inj}{base:Nat}{w0:World}{h:zB}{n:Nat}{wd:World}(r:HeapR P ng ρ base w0 h n wd){c:Tr Value}{need size newCap:Nat}{old' new':List Value}{z:Array Value}{e:TypeId}{dr:Nat}
(hl:old'.length+new'.length=need*size)(hz:z.size=size)(hn:need<=newCap)
(hv:∀(i:Nat) (v':Value),i<need*size->(old'++new')[i]? = some v'->RV ρ (Tr.get undef c i) v') :
 HeapR P ng (ρ.put n ⟨wd.heap.size,newCap*size,size⟩) base w0 (h.set .dead (.cells c (need*size) (zc e size) 1) n) (n+1)
  { wd with drawn:=dr,heap:=wd.heap.push (.cells ((⟨old'⟩:Array Value)++⟨new'⟩++Builtin.zeroCells z (newCap - need)) e) }/\
  Grow ρ h n wd (ρ.put n ⟨wd.heap.size,newCap*size,size⟩) (h.set .dead (.cells c (need*size) (zc e size) 1) n) (n+1)
   { wd with drawn:=dr,heap:=wd.heap.push (.cells ((⟨old'⟩:Array Value)++⟨new'⟩++Builtin.zeroCells z (newCap - need)) e) }:=by
 have hle:=Inj.le_put (⟨wd.heap.size,newCap*size,size⟩:Bl) (r.dom n (ad _));have kK:need*size<=newCap*size:=bN _ hn
 have hobj:ObjR P ng (ρ.put n ⟨wd.heap.size,newCap*size,size⟩) base ⟨wd.heap.size,newCap*size,size⟩ (.cells c (need*size) (zc e size) 1)
  (.cells ((⟨old'⟩:Array Value)++⟨new'⟩++Builtin.zeroCells z (newCap - need)) e (0,0)):=by
  refine .cells kK ?_ (λh=>absurd rfl h) ⟨λ_=>rfl,λh=>absurd h qK⟩ ?_ (λ_=>r.size) (λ_=>⟨rfl,rfl⟩)
  . show((⟨old'⟩:Array Value)++⟨new'⟩++Builtin.zeroCells z (newCap - need)).size=newCap*size;have e1:((⟨old'⟩:Array Value)++(⟨new'⟩:Array Value)).size=old'.length+new'.length:=by simp
    rw[Array.size_append,e1,zeroCells_size,hz,hl,<- bX];congr 1;omega
  . intro i v' hi e1;refine(hv i v' hi ?_).mono hle;have e2:(((⟨old'⟩:Array Value)++⟨new'⟩++Builtin.zeroCells z (newCap - need)).toList)[i]? = some v':=by rw[aO];exact e1
    rw[dZ,dZ,az qM]at e2;exact e2
 obtain⟨a1,a2⟩:=(r.drawn dr).alloc (.cells c (need*size) (zc e size) 1) _ ⟨wd.heap.size,newCap*size,size⟩ rfl hobj;exact⟨a1,⟨a2.nn,a2.old,a2.new,a2.keep,a2.size,a2.dead,a2.tape⟩⟩
theorem growOpen_ok(hP:xC ng P=true){h:zB}{n b sLen m:Nat}{sT xT e rt:TypeId}{ei:TypeInfo}{xd:TypeDesc}{x z:Value}{new:List Value}{k:Value->zB->Nat->Bool}{tr:List TypeId}
(hd:und P sT=some (.slice e))(hxd:und P xT=some xd)(hi:inf? P e=some ei)(hz:xI P e=some z)(hsz:1<=ei.size)(hzl:(cellsOf z).length=ei.size)(hm:sLen+m<1000000)(hb:ei.bytes<100000)
(ha:xD P h e ei.size xd x=some (m,new))
(hg:tN h n b sLen m ei.size (zc e ei.size) new k=true) :
 ∃v h' n',k v h' n'=true/\∀(ρ : Inj) (base:Nat) (w0 wd:World) (s' x':Value) (xr:List Value),HeapR P ng ρ base w0 h n wd->RV ρ (.slice (some ⟨b,0,none⟩) sLen inf) s'->RV ρ x x'->
  ∃ρ' v' wd',(Builtin.append_ ⟨sT::xT::tr⟩ rt ⟨s'::x'::xr⟩).run P wd = .ok v' wd'/\RV ρ' v v'/\HeapR P ng ρ' base w0 h' n' wd'/\Grow ρ h n wd ρ' h' n' wd':=by
 unfold tN at hg;split at hg
 case h_2=>cases hg
 rename_i c kn zz hgb
 cases ik:Nat.beq zz (zc e ei.size) with
 | false=>rw [ik]at hg;cases hg
 | true =>
  rw[ik]at hg;dsimp only[cond]at hg;obtain rfl:=zT ik;have eZ:zG h b≠.dead:=by rw[hgb];exact AObj.noConfusion
  have facts:∀(ρ : Inj) (base:Nat) (w0 wd:World) (s' x':Value),HeapR P ng ρ base w0 h n wd->RV ρ (.slice (some ⟨b,0,none⟩) sLen inf) s'->RV ρ x x'->
   ∃(B:Bl) (c':Nat) (cs:Array Value) (el:TypeId) (new':List Value),ρ b=some B/\s' = .slice (some ⟨B.b,0,none⟩) sLen c'/\sLen<=c'/\c'*ei.size=B.n/\wd.heap[B.b]? = some (.cells cs el (0,0))/\cs.size=B.n/\kn<=B.n/\
    (B.z=ei.size/\el=e)/\base<=B.b/\(∀(i:Nat) (v':Value),i<kn->cs[i]? = some v'->RV ρ (Tr.get undef c i) v')/\
    appLen wd P xd x' m/\RVs ρ new new'/\(appSem e ei xd x' m).run P wd = .ok ⟨new'⟩ wd/\new.length=m*ei.size:=by
   intro ρ base w0 wd s' x' hH hs hx;rcases hs.of_slice with⟨B,o',c',fg,rfl,_,hl,fI⟩|⟨_,h0,_⟩
   rotate_left
   . exact absurd h0 qK 
   obtain⟨o,e1,e2⟩:=hH.obj b B fg eZ;rw [hgb]at e2
   cases e2 with
   | cells hn hs' hk' hz' jl fT hf =>
    rename_i cs el l0 h0;obtain⟨rfl,rfl⟩:=hf qK;obtain⟨hel,hBz⟩:=zc_inj (hz'.1 rfl)
    have hc2:o'=0/\c'*ei.size=B.n:=by
     rcases fI with⟨h1,_⟩|⟨_,⟨h1,h2⟩|⟨_,h1⟩⟩
     . exact absurd rfl h1
     . exact⟨h1,by rw[hBz];simpa using h2⟩
     . exact absurd h1 (dO _)
    obtain⟨rfl,ku⟩:=hc2;obtain⟨a1,new',a2,a3,a4⟩:=uH hP hH hx hz ha;exact⟨B,c',cs,el,new',fg,rfl,hl,ku,e1,hs',hn,⟨hBz.symm,hel.symm⟩,fT qK,jl,a1,a2,a3,a4⟩
  cases fe:Nat.ble (Nat.mul (Nat.add sLen m) ei.size) kn with
  | true=>
   rw[fe]at hg;have fe:(sLen+m)*ei.size<=kn:=xQ fe;obtain⟨h',g1,_,_,g2⟩:=storeAt_ok (P:=P) (ng:=ng) hg;refine⟨_,h',n,g1,fun ρ base w0 wd s' x' xr hH hs hx=>?_⟩;obtain⟨B,c',cs,el,new',f1,rfl,f3,f4,f5,f6,f7,⟨f8,f8e⟩,f9,f10,f11,f12,f13,f14⟩:=facts ρ base w0 wd s' x' hH hs hx;obtain⟨wd',q1,q2,q3⟩:=g2 n ρ base w0 wd B new' hH f1 f12;have fR:sLen+m<=c':=Nat.le_of_mul_le_mul_right (by omega:(sLen+m)*ei.size<=c'*ei.size) hsz;refine⟨ρ,.slice (some ⟨B.b,0,none⟩) (sLen+m) c',wd',?_,?_,q2,q3⟩
   . exact uJ hd hxd hi f11 hb fR f13 (by
      dsimp only;rw [add_eq,aK];exact q1)
   . exact .opened f1 fR (.inl ⟨rfl,by rw[f8];simpa using f4⟩)
  | false =>
   rw[fe]at hg;dsimp only[cond]at hg
   cases hkn:Nat.ble (Nat.mul sLen ei.size) kn with
   | false=>rw [hkn]at hg;cases hg
   | true=>
    rw[hkn]at hg;have hkn:sLen*ei.size<=kn:=xQ hkn;obtain⟨fm,g2⟩:=rD hg;rw [Tr.setK_eq,yM]at g2;refine⟨_,_,_,g2,fun ρ base w0 wd s' x' xr hH hs hx=>?_⟩;obtain⟨B,c',cs,el,new',f1,rfl,f3,f4,f5,f6,f7,⟨f8,f8e⟩,f9,f10,f11,f12,f13,f14⟩:=facts ρ base w0 wd s' x' hH hs hx;have eN:new'.length=m*ei.size:=f12.1.symm.trans f14;have kK:(sLen+m)*ei.size=sLen*ei.size+m*ei.size:=bX _ _ _;by_cases fR:sLen+m<=c'
    . have hfit2:(sLen+m)*ei.size<=c'*ei.size:=bN _ fR
      have iO:∀v∈new',v.oneCell'=true:=by
       intro v' hm;obtain⟨i,hi⟩:=aj.1 hm
       have eD:i<new.length:=by
        rcases aS i new'.length with h5|h5
        . have:=f12.1;omega
        . rw[aw h5]at hi;cases hi
       have:=f12.2 i new[i] v' (aa eD) hi;exact this.one (fm _ (aM eD))
      have hst:=run_storeCells_at P B.b (sLen*ei.size) el new' 0 cs wd f5 qJ  iO;have hsz2:(cs.toList.take (sLen*ei.size+0)++new'++cs.toList.drop (sLen*ei.size+0+new'.length)).length=cs.size:=by simp;omega
      obtain⟨r1,r2⟩:=hH.anew f1 eZ (B:=B) rfl (.cells (Tr.ofListFrom undef c (sLen*ei.size) new) ((sLen+m)*ei.size) (zc e ei.size) 1)
       (.cells (cs.toList.take (sLen*ei.size+0)++new'++cs.toList.drop (sLen*ei.size+0+new'.length)).toArray el (0,0)) _ f9 (by
        refine .cells qJ  (by simpa using hsz2.trans f6) (λh=>absurd rfl h) ⟨λ_=>by rw[f8,f8e],λh=>absurd h qK⟩ (λi v' hi e=>?_) (λ_=>f9) (λ_=>⟨rfl,rfl⟩);have hle:=Inj.le_put B (hH.dom n (ad _));rw [Tr.get_ofListFrom];have e':(cs.toList.take (sLen*ei.size+0)++new'++cs.toList.drop (sLen*ei.size+0+new'.length))[i]? = some v':=by simpa using e
        by_cases h6:sLen*ei.size<=i/\i<sLen*ei.size+new.length
        . rw[if_pos h6];rw [ba,ax qM,az qM]at e';have fh:i - (cs.toList.take (sLen*ei.size+0)).length=i - sLen*ei.size:=by simp;omega
          rw[fh]at e';have eD:i - sLen*ei.size<new.length:=by omega
          have:new[i - sLen*ei.size]? = some (new.getD (i - sLen*ei.size) undef):=by simp[aa eD]
          exact(f12.2 _ _ v' this e').mono hle
        . rw[if_neg h6];refine(f10 i v' qJ  ?_).mono hle;rw [ba,az qM,aJ qJ]at e';simpa using e') (setRow_heap wd B.b cs _ el _ f5) (by simp[World.setRow]) (λx hx=>setRow_other wd B.b x _ hx) rfl rfl rfl
      refine⟨_,.slice (some ⟨B.b,0,none⟩) (sLen+m) c',_,?_,?_,r1,r2⟩
      . exact uJ hd hxd hi f11 hb fR f13 (by
         dsimp only;rw [add_eq,aK];exact hst)
      . exact .opened (xZ _ _ _) fR (.inl ⟨rfl,by rw[f8];simpa using f4⟩)
    . have lO:=hH.drawn (wd.drawn+1);obtain⟨_,new2,b2,b3,_⟩:=uH hP lO hx hz ha;obtain⟨old',o1,o2⟩:=run_loadRow lO f1 hgb (off:=0) (k:=sLen*ei.size) qJ;have hold:old'.length=sLen*ei.size:=by rw[<- o1.1];exact Tr.length_toListFrom _ _ _ _
      have hnew2:new2.length=m*ei.size:=b2.1.symm.trans f14;obtain⟨newCap,dr,p1,p2⟩:=append_grows (base:=some ⟨B.b,0,none⟩) (tr:=tr) (xr:=xr) (rt:=rt) hd hxd hi hz f11 hb fR hm b3 o2
      have k8:z.cells.size=ei.size:=by
       have:cellsOf z=z.cells.toList:=by cases z <;> rfl
       rw[this]at hzl;simpa using hzl
      obtain⟨k1,k2⟩:=hH.kill b
      obtain⟨r1,r2⟩:=k1.grown (c:=Tr.ofListFrom undef c (sLen*ei.size) new) (need:=sLen+m) (old':=old') (new':=new2) (z:=z.cells) (e:=e) (dr:=dr) (newCap:=newCap) (size:=ei.size) qJ  k8 p1 (by
       intro i v' hi e1;rw [Tr.get_ofListFrom];by_cases h6:sLen*ei.size<=i/\i<sLen*ei.size+new.length
       . rw[if_pos h6];rw [ax qJ]at e1;have fh:i - old'.length=i - sLen*ei.size:=by rw[hold]
         rw[fh]at e1;have eD:i - sLen*ei.size<new.length:=by omega
         have:new[i - sLen*ei.size]? = some (new.getD (i - sLen*ei.size) undef):=by simp[aa eD]
         exact b2.2 _ _ v' this e1
       . rw[if_neg h6];rw [az qJ]at e1
         have:(Tr.toListFrom undef c 0 (sLen*ei.size))[i]? = some (Tr.get undef c i):=by
          rw[Tr.getElem?_toListFrom,if_pos qJ,aK]
         exact o1.2 i _ v' this e1)
      exact⟨_,_,_,p2,.opened (xZ _ _ _) p1 (.inl ⟨rfl,by simp⟩),r1,k2.trans r2⟩
theorem growEx_ok(hP:xC ng P=true){h:zB}{n sLen cap m:Nat}{bs:Option Addr}{sT xT e rt:TypeId}{ei:TypeInfo}{xd:TypeDesc}{x z:Value}{new:List Value}{k:Value->zB->Nat->Bool}{tr:List TypeId}
(hd:und P sT=some (.slice e))(hxd:und P xT=some xd)(hi:inf? P e=some ei)(hz:xI P e=some z)(_hsz:1<=ei.size)(hzl:(cellsOf z).length=ei.size)(hm:sLen+m<1000000)(hb:ei.bytes<100000)(fq:cap≠inf)
(ha:xD P h e ei.size xd x=some (m,new))
(hg:growEx h n bs sLen cap m ei.size (zc e ei.size) new k=true) :
 ∃v h' n',k v h' n'=true/\∀(ρ : Inj) (base:Nat) (w0 wd:World) (s' x':Value) (xr:List Value),HeapR P ng ρ base w0 h n wd->RV ρ (.slice bs sLen cap) s'->RV ρ x x'->
  ∃ρ' v' wd',(Builtin.append_ ⟨sT::xT::tr⟩ rt ⟨s'::x'::xr⟩).run P wd = .ok v' wd'/\RV ρ' v v'/\HeapR P ng ρ' base w0 h' n' wd'/\Grow ρ h n wd ρ' h' n' wd':=by
 unfold growEx at hg
 cases fe:Nat.ble (Nat.add sLen m) cap with
 | true=>
  rw[fe]at hg;have fe:sLen+m<=cap:=xQ fe;dsimp only[cond]at hg;split at hg
  case h_3=>cases hg
  . rename_i b off;obtain⟨h',g1,_,⟨cc,mm,zz,kd,gg,gl,ge⟩,g2⟩:=storeAt_ok (P:=P) (ng:=ng) hg;refine⟨_,h',n,g1,fun ρ base w0 wd s' x' xr hH hs hx=>?_⟩;obtain⟨a1,new',a2,a3,a4⟩:=uH hP hH hx hz ha
    cases hs with
    | opened=>exact absurd rfl fq
    | slice0 f1 a=>
     obtain⟨B,f1⟩:∃B,ρ b=some B:=⟨_,f1⟩;obtain rfl:m=0:=by omega
     have gt:new'=[]:=aP.1 (by rw[<- a2.1,a4,bI]);subst gt;obtain⟨wd',q1,q2,q3⟩:=g2 n ρ base w0 wd B [] hH f1 a2;have q1':Result.ok () wd=Result.ok () wd':=q1;injection q1' with _ q1'
     subst q1';refine⟨ρ,.slice (some a) 0 0,wd,?_,.slice0 f1 a,q2,q3⟩;exact uJ (base:=some a) (m:=0) hd hxd hi a1 hb fe a3 rfl
    | slice f1 hc hl ho=>
     rename_i B o';obtain⟨wd',q1,q2,q3⟩:=g2 n ρ base w0 wd B new' hH f1 a2;refine⟨ρ,.slice (some ⟨B.b,o',none⟩) (sLen+m) cap,wd',?_,.slice f1 hc fe ho,q2,q3⟩;refine uJ hd hxd hi a1 hb fe a3 ?_;dsimp only;rw [add_eq];rcases ho with rfl|ho
     . exact q1
     . have:m*ei.size=0:=by
        have:m=0:=by omega
        rw[this,bI]
       have gt:new'=[]:=aP.1 (by rw[<- a2.1,a4,this]);subst gt;exact q1
  . cases fG:Nat.beq m 0 with
    | false=>rw [fG]at hg;cases hg
    | true =>
     rw[fG]at hg;obtain rfl:=zT fG;refine⟨_,h,n,hg,fun ρ base w0 wd s' x' xr hH hs hx=>?_⟩;obtain⟨a1,new',a2,a3,a4⟩:=uH hP hH hx hz ha
     cases hs with
     | nilSlice=>
      refine⟨ρ,.slice none sLen cap,wd,?_,.nilSlice _ _ fq,hH,Grow.refl _ _ _ _ hH.dom⟩;exact uJ (base:=none) (m:=0) hd hxd hi a1 hb fe a3 rfl
 | false =>
  rw[fe]at hg;dsimp only[cond]at hg
  have fe:¬sLen+m<=cap:=λe=>by
   have:Nat.ble (Nat.add sLen m) cap=true:=Nat.ble_eq ▸ e;rw [fe]at this;cases this
  split at hg
  case h_2=>cases hg
  rename_i old ho;obtain⟨_,g2⟩:=rD hg;rw [yM]at g2;refine⟨_,_,_,g2,fun ρ base w0 wd s' x' xr hH hs hx=>?_⟩;have lO:=hH.drawn (wd.drawn+1);obtain⟨a1,new',a2,a3,a4⟩:=uH hP lO hx hz ha;obtain⟨old',o1,o2⟩:=rowOf_ok lO hs ho (λs e=>by cases e)
  have mA:old.length=sLen*ei.size:=by
   unfold rowOf at ho;split at ho
   . rename_i cq
     cases hq:Nat.beq sLen 0 with
     | false=>rw [hq]at ho;cases ho
     | true=>
      rw[hq]at ho;injection ho with ho;subst ho
      obtain rfl:=zT hq;simp
   . rename_i bq oq lq cq heq;injection heq with hq1 iQ hq3
     split at ho
     . rename_i c1 kn1 z1 kd1 hg1
       cases hcq:(Nat.ble sLen sLen && Nat.ble (Nat.add oq (Nat.mul sLen ei.size)) kn1) with
       | false=>subst iQ;rw [hcq]at ho;cases ho
       | true=>
        subst iQ;rw [hcq]at ho;dsimp only[cond]at ho;injection ho with ho;subst ho
        exact Tr.length_toListFrom _ _ _ _
     . rename_i c1 kn1 hg1
       cases hcq:(Nat.ble sLen sLen && Nat.ble (Nat.add oq (Nat.mul sLen ei.size)) kn1) with
       | false=>subst iQ;rw [hcq]at ho;cases ho
       | true=>
        subst iQ;rw [hcq]at ho;dsimp only[cond]at ho;obtain⟨_,rfl⟩:=knownL_some ho;exact Tr.length_toListFrom _ _ _ _
     . cases ho
   . rename_i heq;cases heq
   . cases ho
  have hold':old'.length=sLen*ei.size:=by rw[<- o1.1,mA]
  have hnew':new'.length=m*ei.size:=by rw[<- a2.1,a4]
  have kK:(sLen+m)*ei.size=sLen*ei.size+m*ei.size:=bX _ _ _
  have k8:z.cells.size=ei.size:=by
   have:cellsOf z=z.cells.toList:=by cases z <;> rfl
   rw[this]at hzl;simpa using hzl
  obtain⟨bs',hs',hbs⟩:∃bs',s' = .slice bs' sLen cap/\True:=by
   cases hs with
   | nilSlice=>exact⟨_,rfl,trivial⟩
   | slice=>exact⟨_,rfl,trivial⟩
   | slice0 _ a=>exact⟨_,rfl,trivial⟩
   | opened=>exact absurd rfl fq
  subst hs'
  have a1':appLen wd P xd x' m:=by
   unfold appLen at a1 ⊢;split
   . rename_i hq;rw [if_pos hq]at a1;exact a1
   . rename_i hq;rw [if_neg hq]at a1;unfold xD at ha;split at ha
     . exact absurd rfl hq
     . cases hl:lenV x with
       | none=>rw [hl]at ha;cases ha
       | some m2=>
        have h1:=lenV_ok (P:=P) hx hl wd;have h2:=lenV_ok (P:=P) hx hl { wd with drawn:=wd.drawn+1 };rw [h2]at a1;injection a1 with a1
        rw[<- a1];exact h1
  obtain⟨newCap,dr,p1,p2⟩:=append_grows (base:=bs') (tr:=tr) (xr:=xr) (rt:=rt) hd hxd hi hz a1' hb fe hm a3 o2;have eH:=o1.append a2
  obtain⟨r1,r2⟩:=hH.grown (c:=Tr.ofListFrom undef .lF 0 (old++new)) (need:=sLen+m) (old':=old') (new':=new') (z:=z.cells) (e:=e) (dr:=dr) (newCap:=newCap) (size:=ei.size) qJ  k8 p1 (by
   intro i v' hi e1;have eD:i<(old++new).length:=by simp;omega
   rw[Tr.get_ofListFrom,if_pos qJ];have:(old++new)[i]? = some ((old++new).getD (i - 0) undef):=by simp[aa eD]
   exact eH.2 i _ v' this e1)
  exact⟨_,_,_,p2,.opened (xZ _ _ _) p1 (.inl ⟨rfl,by simp⟩),r1,r2⟩
theorem xappend_ok(hP:xC ng P=true){h:zB}{n:Nat}{tys:List TypeId}{args:List Value}{rt:TypeId}{k:Value->zB->Nat->Bool}(hx:sC P tys args h n k=true) :
 ∃v h' n',k v h' n'=true/\∀(ρ : Inj) (base:Nat) (w0 wd:World) (args':List Value),HeapR P ng ρ base w0 h n wd->RVs ρ args args'->
  ∃ρ' v' wd',(Builtin.append_ ⟨tys⟩ rt ⟨args'⟩).run P wd = .ok v' wd'/\RV ρ' v v'/\HeapR P ng ρ' base w0 h' n' wd'/\Grow ρ h n wd ρ' h' n' wd':=by
 unfold sC at hx;split at hx
 case h_2=>cases hx
 rename_i sT xT tr bs sLen cap x xr;split at hx
 case h_2=>cases hx
 rename_i e xd hd hxd;split at hx
 case h_2=>cases hx
 rename_i ei z hi hz
 cases ha:xD P h e ei.size xd x with
 | none=>rw [ha]at hx;cases hx
 | some p =>
  obtain⟨m,new⟩:=p;rw [ha]at hx;dsimp only at hx
  cases hc:(Nat.beq ei.size 0 || !Nat.beq (cellsOf z).length ei.size || !Nat.blt (Nat.add sLen m) 1000000 || !Nat.blt ei.bytes 100000) with
  | true=>rw [hc]at hx;cases hx
  | false =>
   rw[hc]at hx;dsimp only[cond]at hx;simp only[Bool.or_eq_false_iff,Bool.not_eq_false']at hc;obtain⟨⟨⟨q1,q2⟩,q3⟩,q4⟩:=hc
   have q1:1<=ei.size:=by
    rcases bK ei.size with e0|e0
    . rw[e0]at q1;cases q1
    . exact e0
   have q2:=zT q2;have q3:sLen+m<1000000:=xJ q3;have q4:=xJ q4
   have pass:∀{R:Prop},(∃v h' n',k v h' n'=true/\∀(ρ : Inj) (base:Nat) (w0 wd:World) (s' x':Value) (xr':List Value),HeapR P ng ρ base w0 h n wd->RV ρ (.slice bs sLen cap) s'->RV ρ x x'->
    ∃ρ' v' wd',(Builtin.append_ ⟨sT::xT::tr⟩ rt ⟨s'::x'::xr'⟩).run P wd = .ok v' wd'/\RV ρ' v v'/\HeapR P ng ρ' base w0 h' n' wd'/\Grow ρ h n wd ρ' h' n' wd')->
    ∃v h' n',k v h' n'=true/\∀(ρ : Inj) (base:Nat) (w0 wd:World) (args':List Value),HeapR P ng ρ base w0 h n wd->RVs ρ (.slice bs sLen cap::x::xr) args'->
    ∃ρ' v' wd',(Builtin.append_ ⟨sT::xT::tr⟩ rt ⟨args'⟩).run P wd = .ok v' wd'/\RV ρ' v v'/\HeapR P ng ρ' base w0 h' n' wd'/\Grow ρ h n wd ρ' h' n' wd':=by
    rintro - ⟨v,h',n',k1,k2⟩
    refine⟨v,h',n',k1,fun ρ base w0 wd args' hH hr=>?_⟩;obtain⟨s',l1,rfl,hs,hr⟩:=hr.of_cons;obtain⟨x',l2,rfl,hx,_⟩:=hr.of_cons;exact k2 ρ base w0 wd s' x' l2 hH hs hx
   apply pass (R:=True)
   cases fG:(Nat.beq m 0 && !Nat.beq cap 0 && (Nat.beq cap inf || Nat.ble sLen cap)) with
   | true =>
    rw[fG]at hx;simp only[bu]at fG;obtain⟨⟨m1,m2⟩,m3⟩:=fG;obtain rfl:=zT m1;refine⟨_,h,n,hx,fun ρ base w0 wd s' x' xr' hH hs hx=>?_⟩;obtain⟨a1,new',a2,a3,a4⟩:=uH hP hH hx hz ha;have gt:new'=[]:=aP.1 (by rw[<- a2.1,a4,bI]);subst gt
    have key:∃bs' c',s' = .slice bs' sLen c'/\sLen<=c':=by
     cases hs with
     | nilSlice _ _ hc=>
      refine⟨_,_,rfl,?_⟩;rcases Bool.or_eq_true_iff.1 m3 with e1|e1
      . exact absurd (zT e1) hc
      . exact xQ e1
     | slice _ _ hl _=>exact⟨_,_,rfl,hl⟩
     | slice0 _ a=>exact⟨_,_,rfl,ad _⟩
     | opened _ hl _=>exact⟨_,_,rfl,hl⟩
    obtain⟨bs',c',rfl,hle⟩:=key;refine⟨ρ,.slice bs' sLen c',wd,?_,hs,hH,Grow.refl _ _ _ _ hH.dom⟩;exact uJ (m:=0) hd hxd hi a1 q4 hle a3 (by cases bs' <;> rfl)
   | false =>
    rw[fG]at hx;dsimp only[cond]at hx
    cases hc:Nat.beq cap inf with
    | true=>
     rw[hc]at hx;obtain rfl:=zT hc;dsimp only at hx;split at hx
     . rename_i b;exact growOpen_ok hP hd hxd hi hz q1 q2 q3 q4 ha hx
     . cases hx
    | false=>
     rw[hc]at hx;have fq:cap≠inf:=λe=>by subst e;rw [aR]at hc;cases hc
     exact growEx_ok hP hd hxd hi hz q1 q2 q3 q4 fq ha hx
end
end
section
section
variable {P:Program} {ng:Nat} {t:Fr} {w:W}
theorem scalEq_same{kd:TypeDesc}{k k':Value}(hk:uD kd k=true)(h:wH k k'=some true):k'=k:=by
 unfold uD at hk;split at hk
 . rename_i kk k2 a;cases k' <;> simp only[wH]at h <;> first|(cases h;done)|skip
   rename_i k3 b
   cases hq:tJ k2 k3 with
   | false=>rw [hq]at h;cases h
   | true=>
    rw[hq]at h;injection h with h
    obtain rfl:=sG hq;rw [wQ]at h;have:a=b:=by simpa using h
    rw[this]
 . rename_i s;cases k' <;> simp only[wH]at h <;> first|(cases h;done)|skip
   injection h with h
   rw[tV]at h;rename_i s';have h2:s.data.toList=s'.data.toList:=by simpa using h
   have:s=s':=by
    cases s;cases s'
    simp only[ByteArray.mk.injEq];exact cJ.1 h2
   rw[this]
 . rename_i b;cases k' <;> simp only[wH]at h <;> first|(cases h;done)|skip
   rename_i b';cases b <;> cases b' <;> first|rfl|(cases h;done)
 . cases hk
theorem keyEq_same{kd:TypeDesc}{k k':Value}(hk:keyT P kd k=true)(h:keyEq k k'=some true):k'=k:=by
 rcases rW hk with hk|⟨len,e,cs,ed,ei,rfl,rfl,h1,h2,h3,h4,h5⟩
 . rw[keyEq_scal (scal_noagg hk)]at h;exact scalEq_same hk h
 . cases k' <;> first|(cases h;done)|skip
   rename_i ys;have h':scalsEq cs.toList ys.toList=some true:=h
   have key:∀{a b:List Value},(∀x∈a,uD ed x=true)->scalsEq a b=some true->b=a:=by
    intro a
    induction a with
    | nil=>intro b _ h;cases b with
     | nil=>rfl
     | cons _ _=>cases h
    | cons x a ih =>
     intro b ha h
     cases b with
     | nil=>cases h
     | cons y b =>
      simp only[scalsEq]at h
      cases hq:wH x y with
      | none=>rw [hq]at h;cases h
      | some q =>
       rw[hq]at h
       cases q with
       | false=>cases h
       | true=>
        rw[scalEq_same (ha x qL) hq,ih (λz hz=>ha z (by simp[hz])) h]
   rw[cJ.1 (key h5 h')]
theorem findE_at{kd:TypeDesc}{k:Value}(hk:keyT P kd k=true):∀{es:List MapEntry} {i j:Nat} {v:Value},findE k es i=some (some (j,v))->∃e,i<=j/\es[j - i]? = some e/\e.key=k:=by
 intro es
 induction es with
 | nil=>intro i j v h;simp [findE]at h
 | cons e es ih =>
  intro i j v h;simp only[findE]at h
  cases hs:keyEq k e.key with
  | none=>rw [hs]at h;cases h
  | some b =>
   rw[hs]at h
   cases b with
   | true=>
    dsimp only at h;injection h with h
    injection h with h
    injection h with h1 h2
    subst h1;exact⟨e,ad _,by simp,keyEq_same hk hs⟩
   | false=>
    obtain⟨e2,h1,h2,h3⟩:=ih h;refine⟨e2,by omega,?_,h3⟩;have:j - i=(j - (i+1))+1:=by omega
    rw[this,bW];exact h2
theorem scal_bits0{kd:TypeDesc}{k:Value}(hk:uD kd k=true)(m:Nat):Instr.sameBits m k k=true:=by
 unfold uD at hk;split at hk
 . simp[Instr.sameBits]
 . simp[Instr.sameBits,beq_toListBytes]
 . simp[Instr.sameBits]
 . cases hk
theorem scal_bits{kd:TypeDesc}{k:Value}(hk:keyT P kd k=true):Instr.sameBits 10000 k k=true:=by
 rcases rW hk with hk|⟨len,e,cs,ed,ei,rfl,rfl,h1,h2,h3,h4,h5⟩
 . exact scal_bits0 hk _
 . simp only[Instr.sameBits,BEq.rfl,dK,aH];intro p hp
   have key:∀{l:List Value} {p:Value×Value},p∈l.zip l->p.1=p.2/\p.1∈l:=by
    intro l
    induction l with
    | nil=>intro p hp;simp at hp
    | cons x l ih=>
     intro p hp;rw [List.zip_cons_cons]at hp;rcases au.1 hp with rfl|hp
     . exact⟨rfl,by simp⟩
     . exact⟨(ih hp).1,aL _ (ih hp).2⟩
   obtain⟨x,y⟩:=p;obtain⟨g1,g2⟩:=key hp;dsimp only at g1 g2 ⊢;subst g1;exact scal_bits0 (h5 _ g2) _
theorem putE_ok{ρ : Inj}{k v v':Value}(hv:RV ρ v v'):∀{es es':List MapEntry} (i:Nat),EsR ρ es es'->EsR ρ (putE k v i es) (es'.modify i λe=>{ e with key:=k,val:=v' }):=by
 intro es
 induction es with
 | nil=>
  intro es' i he;have:es'=[]:=by have:=he.1;cases es' <;> simp_all
  subst this;exact⟨by simp[putE],λj e e' h1 h2=>by simp[putE]at h1⟩
 | cons e es ih =>
  intro es' i he
  cases es' with
  | nil=>have:=he.1;simp at this
  | cons e' es' =>
   have h0:=he.2 0 e e' rfl rfl;have ip:EsR ρ es es':=⟨by have:=he.1;simpa using this,λj a b h1 h2=>he.2 (j+1) a b (by simpa using h1) (by simpa using h2)⟩
   cases i with
   | zero =>
    refine⟨by have:=he.1;simpa [putE] using this,λj a b h1 h2=>?_⟩
    cases j with
    | zero=>
     simp[putE]at h1 h2;subst h1 h2;exact⟨rfl,hv,h0.2.2⟩
    | succ j=>exact ip.2 j a b (by simpa [putE] using h1) (by simpa using h2)
   | succ i =>
    obtain⟨l1,l2⟩:=ih i ip;refine⟨by simpa [putE] using l1,λj a b h1 h2=>?_⟩
    cases j with
    | zero=>
     simp[putE]at h1 h2;subst h1 h2;exact h0
    | succ j=>exact l2 j a b (by simpa [putE] using h1) (by simpa using h2)
theorem xmapUpdate_ok{ty:TypeId}{x key v:Value}{h:zB}{k:zB->Bool}(hs:uE P ty x key v h k=true) :
 ∃h',k h'=true/\∀(n:Nat) (ρ : Inj) (base:Nat) (w0 wd:World) (x' key' v':Value),HeapR P ng ρ base w0 h n wd->RV ρ x x'->RV ρ key key'->RV ρ v v'->
  ∃wd',(Instr.mapUpdate ty x' key' v').run P wd = .ok () wd'/\HeapR P ng ρ base w0 h' n wd'/\Grow ρ h n wd ρ h' n wd':=by
 unfold uE at hs;split at hs
 case h_2=>cases hs
 rename_i kt et r hd;split at hs
 case h_2=>cases hs
 rename_i kd es clock fU hg
 cases hsc:keyT P kd key with
 | false=>rw [hsc]at hs;cases hs
 | true=>
  rw[hsc]at hs;dsimp only[cond]at hs;have eZ:zG h r≠.dead:=by rw[hg];exact AObj.noConfusion
  split at hs
  case h_3=>cases hs
  . rename_i i w2 hf;rw [Tr.setK_eq]at hs;refine⟨_,hs,λn ρ base w0 wd x' key' v' hH hx hk hv=>?_⟩;have hkk:=(scal_same hsc hk).symm;subst hkk;obtain⟨B,hb,rfl⟩:=hx.of_map;obtain⟨es',e1,he,fT⟩:=map_at hH hb hg;obtain⟨r',h1,h2⟩:=findKey_ok (wd:=wd) fU hsc he hf
    cases r' with
    | none=>exact h2.elim
    | some p =>
     obtain⟨j,w'⟩:=p;obtain⟨rfl,_⟩:=h2;obtain⟨e,_,e3,e4⟩:=findE_at hsc hf;have e3:es[i]? = some e:=by simpa using e3
     obtain⟨e',e5⟩:∃e',es'[i]? = some e':=by
      have:i<es.length:=by
       rcases aS i es.length with h5|h5
       . exact h5
       . rw[aw h5]at e3;cases e3
      exact⟨es'[i]'(he.1 ▸ this),aa _⟩
     have e6:e'.key=key:=by rw[(he.2 i e e' e3 e5).1,e4]
     have e7:((((⟨es'⟩:Array MapEntry)[i]?).map (·.key)).getD key)=key:=by
      have:(⟨es'⟩:Array MapEntry)[i]? = some e':=by rw[<- aO];exact e5
      rw[this];simp [e6]
     have hst:(Instr.keyThatStays key key).run P wd = .ok key wd:=by simp[Instr.keyThatStays,scal_bits hsc]
     have eD:=hH.lt hb eZ;refine⟨{ wd with heap:=wd.heap.setIfInBounds B.b (.map ((⟨es'⟩:Array MapEntry).modify i λe=>{ e with key:=key,val:=v' }) clock) },?_,?_⟩
     . simp only[Instr.mapUpdate,Sem.run_bind,zR hd,Result.andThen_ok,rX e1,check_ok (wd:=wd) fU hsc false 9998,h1,e7,hst];simp [setObj,Sem.run,e1]
     . refine hH.turn hb eZ _ (.map ⟨es'.modify i λe=>{ e with key:=key,val:=v' }⟩ clock) _ fT (.map (putE_ok hv i he) fT) ?_ qL  ?_ rfl rfl rfl
       . have:((⟨es'⟩:Array MapEntry).modify i λe=>{ e with key:=key,val:=v' })=⟨es'.modify i λe=>{ e with key:=key,val:=v' }⟩:=by
          apply cJ.1;rw [Array.toList_modify]
         rw[this];simp [eD]
       . intro c hc;show(wd.heap.setIfInBounds B.b _)[c]? = _;rw [bD,if_neg (λe=>hc e.symm)]
  . rename_i hf;rw [Tr.setK_eq]at hs;refine⟨_,hs,λn ρ base w0 wd x' key' v' hH hx hk hv=>?_⟩;have hkk:=(scal_same hsc hk).symm;subst hkk;obtain⟨B,hb,rfl⟩:=hx.of_map;obtain⟨es',e1,he,fT⟩:=map_at hH hb hg;obtain⟨r',h1,h2⟩:=findKey_ok (wd:=wd) fU hsc he hf
    cases r' with
    | some p=>exact h2.elim
    | none=>
     have eD:=hH.lt hb eZ;refine⟨{ wd with heap:=wd.heap.setIfInBounds B.b (.map ((⟨es'⟩:Array MapEntry).push { key:=key,val:=v',born:=clock }) (clock+1)) },?_,?_⟩
     . simp only[Instr.mapUpdate,Sem.run_bind,zR hd,Result.andThen_ok,rX e1,check_ok (wd:=wd) fU hsc false 9998,h1];simp [setObj,Sem.run,e1]
     . refine hH.turn hb eZ _ (.map ⟨es'++[{ key:=key,val:=v',born:=clock }]⟩ (clock+1)) _ fT (.map ?_ fT) ?_ qL  ?_ rfl rfl rfl
       . refine⟨by have:=he.1;simp [this],λi a b h1 h2=>?_⟩;by_cases hi:i<es.length
         . rw[az hi]at h1;rw [az (he.1 ▸ hi)]at h2;exact he.2 i a b h1 h2
         . rw[ax qJ]at h1;rw [ax (by have:=he.1;omega),<- he.1]at h2
           cases hq:i - es.length with
           | zero=>
            rw[hq]at h1 h2;simp at h1 h2;subst h1 h2;exact⟨rfl,hv,rfl⟩
           | succ m=>rw [hq]at h1;simp at h1
       . have:((⟨es'⟩:Array MapEntry).push { key:=key,val:=v',born:=clock })=⟨es'++[{ key:=key,val:=v',born:=clock }]⟩:=by simp
         rw[this];simp [eD]
       . intro c hc;show(wd.heap.setIfInBounds B.b _)[c]? = _;rw [bD,if_neg (λe=>hc e.symm)]
theorem mapUpdate_ok{o:Oper}{ty:TypeId}{m key v:Operand}(eT:o.op = .mapUpdate ty m key v){lo:Lo}{cx:Cx}{k:KV}{kp:KP}
(h:eff o.op P lo cx t w k kp=true):∃w' v,EffVal P ng o t w v w'/\k w' v=true:=by
 have h':(tK w λh n mk=>uE P ty (ev t m) (ev t key) (ev t v) h λh=>k (mk h n) undef)=true:=by
  rw[eT]at h;exact h
 rw[uS]at h';obtain⟨h1,e1,e2⟩:=xmapUpdate_ok (ng:=ng) h'
 have eQ:∀x,x=m\/x=key\/x=v->x∈o.op.operands.toList:=by
  intro x hx;rw [eT];simp [Op.operands];exact hx
 refine⟨W.mk w.d w.u h1 w.n,undef,⟨rfl,rfl,fun ρ base w0 a wd hT hH=>?_⟩,e1⟩;have r1:=hT m (eQ _ (.inl rfl));have r2:=hT key (eQ _ (.inr (.inl rfl)));have r3:=hT v (eQ _ (.inr (.inr rfl)));obtain⟨wd',f1,f2,f3⟩:=e2 w.n ρ base w0 wd _ _ _ hH r1 r2 r3;refine⟨ρ,undef,wd',.inr ⟨?_,rfl⟩,RV.undef ρ,f2,f3⟩;simp [execOp,eT,f1]
end
end
section
inductive ChR (ρ : Inj):List PanicEntry->List PanicEntry->Prop
 | nil:ChR ρ [] []
 | cons {e e':PanicEntry} {l l':List PanicEntry} (hv:RV ρ e.v e'.v) (hr:e'.recovered=e.recovered) (hg:e'.goexit=e.goexit) (hl:ChR ρ l l'):ChR ρ (e::l) (e'::l')
inductive DRs (ρ : Inj):List Deferred->List Deferred->Prop
 | nil:DRs ρ [] []
 | coll {r:Nat} {B:Bl} {asz asz':Array Value} {l l':List Deferred} (h: ρ r=some B) (hl:DRs ρ l l'):DRs ρ (⟨.collected r,asz⟩::l) (⟨.collected B.b,asz'⟩::l')
 | fn {g:FuncId} {cap cap' asz asz':Array Value} {l l':List Deferred} (hc:RVs ρ cap.toList cap'.toList) (ha:RVs ρ asz.toList asz'.toList) (hl:DRs ρ l l') :
  DRs ρ (⟨.fn (.func g) cap,asz⟩::l) (⟨.fn (.func g) cap',asz'⟩::l')
theorem ChR.mono{ρ ρ':Inj}(h: ρ.le ρ'){l l':List PanicEntry}(r:ChR ρ l l'):ChR ρ' l l':=by
 induction r with
 | nil=>exact .nil
 | cons hv hr hg _ ih=>exact .cons (hv.mono h) hr hg ih
theorem DRs.mono{ρ ρ':Inj}(h: ρ.le ρ'){l l':List Deferred}(r:DRs ρ l l'):DRs ρ' l l':=by
 induction r with
 | nil=>exact .nil
 | coll e _ ih=>exact .coll (h _ _ e) ih
 | fn hc ha _ ih=>exact .fn (hc.mono h) (ha.mono h) ih
def ModeR(ρ : Inj)(mode:Option zK)(m:FrameMode):Prop:=
 match mode with
 | none=>m = .returning
 | some c=>∃c',m = .panicking c'/\ChR ρ c c'
def UR(ρ : Inj)(df:Bool)(u:Option zK)(cs:List Frame):Prop:=
 df=true->∃c0 r,cs=c0::r/\ModeR ρ u c0.mode
def CsTo(df:Bool)(cs cs':List Frame):Prop:=
 cs'=cs\/(df=true/\∃c0 r m,cs=c0::r/\cs' = { c0 with mode:=m }::r)
def RdR(ρ : Inj)(rd rd':Option Nat):Prop:=
 match rd,rd' with
 | none,none=>True
 | some l,some l'=>∃B,ρ l=some B/\B.b=l'
 | _,_=>False
theorem ModeR.mono{ρ ρ':Inj}(h: ρ.le ρ'){mode:Option zK}{m:FrameMode}(r:ModeR ρ mode m):ModeR ρ' mode m:=by
 cases mode with
 | none=>exact r
 | some c=>obtain⟨c',e,hc⟩:=r;exact⟨c',e,hc.mono h⟩
theorem UR.mono{ρ ρ':Inj}(h: ρ.le ρ'){df:Bool}{u:Option zK}{cs:List Frame}(r:UR ρ df u cs):UR ρ' df u cs:=
 λe=>let ⟨c0,l,h1,h2⟩:=r e;⟨c0,l,h1,h2.mono h⟩
theorem RdR.mono{ρ ρ':Inj}(h: ρ.le ρ'){rd rd':Option Nat}(r:RdR ρ rd rd'):RdR ρ' rd rd':=by
 cases rd <;> cases rd' <;> first|exact r|(obtain⟨B,e,hb⟩:=r;exact⟨B,h _ _ e,hb⟩)
theorem CsTo.refl(df:Bool)(cs:List Frame):CsTo df cs cs:=.inl rfl
theorem CsTo.trans{df:Bool}{a b c:List Frame}(h:CsTo df a b)(k:CsTo df b c):CsTo df a c:=by
 rcases h with rfl|⟨hd,c0,r,m,rfl,rfl⟩
 . exact k
 . rcases k with rfl|⟨_,c1,r1,m1,e1,rfl⟩
   . exact .inr ⟨hd,c0,r,m,rfl,rfl⟩
   . injection e1 with e1 e2
     subst e1 e2;exact .inr ⟨hd,c0,r,m1,rfl,rfl⟩
def kindOfDf(df:Bool):CallKind:=match df with|true=>.deferred|false=>.normal
section
variable (P:Program) (ng:Nat)
structure In (ρ : Inj) (base:Nat) (w0:World) (b:Frame) (a:Act) (wd:World) (cs:List Frame) (cx:Cx) (t:Fr) (w:W):Prop where
 fn:b.fn=cx.fn
 kind:b.kind=kindOfDf cx.df
 rd:RdR ρ cx.round b.roundOf
 rdf:cx.round.isSome=true->cx.df=false
 tm:TmR ρ (ntm P cx.fn) t a.tmps
 hp:HeapR P ng ρ base w0 w.h w.n wd
 dr:DRs ρ w.d a.defers
 ur:UR ρ cx.df w.u cs
 fnd:∃fn,P.funcs[b.fn]? = some fn
structure InE (p:Prop) (ρ : Inj) (base:Nat) (w0:World) (b:Frame) (a:Act) (wd:World) (cs:List Frame) (cx:Cx) (t:Fr) (w:W):Prop where
 fn:b.fn=cx.fn
 kind:b.kind=kindOfDf cx.df
 rd:RdR ρ cx.round b.roundOf
 rdf:cx.round.isSome=true->cx.df=false
 tm:p\/TmR ρ (ntm P cx.fn) t a.tmps
 hp:HeapR P ng ρ base w0 w.h w.n wd
 dr:DRs ρ w.d a.defers
 ur:UR ρ cx.df w.u cs
 fnd:∃fn,P.funcs[b.fn]? = some fn
def Lost(x:AX)(w:W):Prop:=match x with
 | .panic _=>w.d=[]
 | _=>False
def Arr(m:Machine)(b:Frame)(k:List Item)(cs:List Frame)(ρ : Inj)(a:Act)(wd:World):AX->Prop
 | .normal=>Steps P m (lone (b.atR a k) cs wd)
 | .exit id=>∃k2,exitTo id k2=exitTo id k/\Steps P m (lone (b.atR a (.code (.exit id)::k2)) cs wd)
 | .goto l=>∃k2,gotoIn l k2=gotoIn l k/\Steps P m (lone (b.atR a (.code (.goto l)::k2)) cs wd)
 | .ret=>∃k2,Steps P m (lone (b.atR a (.code .ret::k2)) cs wd)
 | .panic c=>∃k2 c',ChR ρ c c'/\Steps P m (lone { b.atR a k2 with mode:=.panicking c' } cs wd)
def Leads(b:Frame)(k0 k:List Item)(cx:Cx)(t:Fr)(w:W)(x:AX)(t':Fr)(w':W):Prop:=
 ∀(ρ : Inj) (base:Nat) (w0:World) (a:Act) (wd:World) (cs:List Frame),In P ng ρ base w0 b a wd cs cx t w->
  ∃ρ' a' wd' cs',InE P ng (Lost x w') ρ' base w0 b a' wd' cs' cx t' w'/\Grow ρ w.h w.n wd ρ' w'.h w'.n wd'/\CsTo cx.df cs cs'/\Arr P (lone (b.atR a k0) cs wd) b k cs' ρ' a' wd' x
def CodeTo(c:Code)(cx:Cx)(t:Fr)(w:W)(x:AX)(t':Fr)(w':W):Prop:=
 yZ ng (ntm P cx.fn) c=true->∀(b:Frame) (k:List Item),Leads P ng b (.code c::k) k cx t w x t' w'
def Leaves(fr:Frame)(wd:World)(ρ : Inj)(df:Bool):Out->Prop
 | .ret v=>∃v',fr.mode = .returning/\fr.defers=[]/\fr.kind=kindOfDf df/\(∃fn,P.funcs[fr.fn]? = some fn/\(results fn fr.tmps).run P wd = .ok v' wd)/\RV ρ v v'
 | .panic c=>∃c',fr.mode = .panicking c'/\fr.defers=[]/\(∃fn,P.funcs[fr.fn]? = some fn)/\ChR ρ c c'
def CallTo(f:FuncId)(args:List Value)(df:Bool)(u:Option zK)(h:zB)(n:Nat)(o:Out)(u':Option zK)(h':zB)(n':Nat):Prop:=
 (∃fn body,P.funcs[f]? = some fn/\fn.body=some body/\(fn.name == "runtime.NumGoroutine")=false)/\
 ∀(ρ : Inj) (base:Nat) (w0 wd:World) (args':List Value) (cs:List Frame),HeapR P ng ρ base w0 h n wd->RVs ρ args args'->UR ρ df u cs->
  ∃ρ' wd' fr cs',Steps P (lone (Frame.enter P f ⟨args'⟩ (kindOfDf df)) cs wd) (lone fr cs' wd')/\HeapR P ng ρ' base w0 h' n' wd'/\Grow ρ h n wd ρ' h' n' wd'/\CsTo df cs cs'/\UR ρ' df u' cs'/\fr.fn=f/\Leaves P fr wd' ρ' df o
def Back(m:Machine)(c:Frame)(cs:List Frame)(wd:World)(ρ : Inj):Out->Prop
 | .ret v=>∃v',RV ρ v v'/\Steps P m (lone (c.finish v') cs wd)
 | .panic ch=>∃ch',ChR ρ ch ch'/\Steps P m (lone (c.raise ch') cs wd)
def RoundTo(l:Nat)(args:List Value)(h:zB)(n:Nat)(o:Out)(h':zB)(n':Nat):Prop:=
 ∀(ρ : Inj) (base:Nat) (w0 wd:World) (args':List Value) (B:Bl) (c:Frame) (cs:List Frame),HeapR P ng ρ base w0 h n wd->ρ l=some B->RVs ρ args args'->
  ∃f tmps asg body,(Instr.yield B.b ⟨args'⟩).run P wd = .ok (.round B.b f tmps asg body) wd/\
  ∃ρ' wd',HeapR P ng ρ' base w0 h' n' wd'/\Grow ρ h n wd ρ' h' n' wd'/\Back P (lone (Frame.round B.b f tmps asg body .normal) (c::cs) wd) c cs wd' ρ' o
def LeaveTo(fn:Func)(mode:Option zK)(t:Fr)(w:W)(o:Out)(u':Option zK)(h':zB)(n':Nat):Prop:=
 ∀(ρ : Inj) (base:Nat) (w0:World) (b:Frame) (a:Act) (wd:World) (cs:List Frame) (df:Bool),InE P ng (mode.isSome=true/\w.d=[]) ρ base w0 b a wd cs ⟨b.fn,none,df⟩ t w->P.funcs[b.fn]? = some fn->∀(k:List Item) (m:FrameMode),ModeR ρ mode m->
  ∃ρ' wd' fr cs',Steps P (lone { b.atR a k with mode:=m } cs wd) (lone fr cs' wd')/\HeapR P ng ρ' base w0 h' n' wd'/\Grow ρ w.h w.n wd ρ' h' n' wd'/\CsTo df cs cs'/\UR ρ' df u' cs'/\fr.fn=b.fn/\Leaves P fr wd' ρ' df o
structure Sound (lo:Lo):Prop where
 code:∀c cx t w k,lo.code c cx t w k=true->∃x t' w',k x t' w'=true/\CodeTo P ng c cx t w x t' w'
 call:∀f args df u h n k,lo.call f args df u h n k=true->∃o u' h' n',k o u' h' n'=true/\CallTo P ng f args df u h n o u' h' n'
 round:∀l args h n k,lo.round l args h n k=true->∃o h' n',k o h' n'=true/\RoundTo P ng l args h n o h' n'
 leave:∀fn mode t w k,lo.leave fn mode t w k=true->∃o u' h' n',k o u' h' n'=true/\LeaveTo P ng fn mode t w o u' h' n'
end
section
variable {P:Program} {ng:Nat}
theorem In.e{p:Prop}{ρ : Inj}{base:Nat}{w0:World}{b:Frame}{a:Act}{wd:World}{cs:List Frame}{cx:Cx}{t:Fr}{w:W}(h:In P ng ρ base w0 b a wd cs cx t w):InE P ng p ρ base w0 b a wd cs cx t w:=
 ⟨h.fn,h.kind,h.rd,h.rdf,.inr h.tm,h.hp,h.dr,h.ur,h.fnd⟩
theorem InE.i{p:Prop}{ρ : Inj}{base:Nat}{w0:World}{b:Frame}{a:Act}{wd:World}{cs:List Frame}{cx:Cx}{t:Fr}{w:W}(h:InE P ng p ρ base w0 b a wd cs cx t w)(hp:¬p):In P ng ρ base w0 b a wd cs cx t w:=
 ⟨h.fn,h.kind,h.rd,h.rdf,h.tm.resolve_left hp,h.hp,h.dr,h.ur,h.fnd⟩
theorem InE.mono{p q:Prop}{ρ : Inj}{base:Nat}{w0:World}{b:Frame}{a:Act}{wd:World}{cs:List Frame}{cx:Cx}{t:Fr}{w:W}(h:InE P ng p ρ base w0 b a wd cs cx t w)(hp:p->q):InE P ng q ρ base w0 b a wd cs cx t w:=
 ⟨h.fn,h.kind,h.rd,h.rdf,h.tm.imp_left hp,h.hp,h.dr,h.ur,h.fnd⟩
theorem Arr.of_steps{m m1:Machine}{b:Frame}{k:List Item}{cs:List Frame}{ρ : Inj}{a:Act}{wd:World}{x:AX}(h:Steps P m m1)(r:Arr P m1 b k cs ρ a wd x):Arr P m b k cs ρ a wd x:=by
 cases x with
 | normal=>exact h.trans r
 | exit id=>obtain⟨k2,e,s⟩:=r;exact⟨k2,e,h.trans s⟩
 | goto l=>obtain⟨k2,e,s⟩:=r;exact⟨k2,e,h.trans s⟩
 | ret=>obtain⟨k2,s⟩:=r;exact⟨k2,h.trans s⟩
 | panic c=>obtain⟨k2,c',e,s⟩:=r;exact⟨k2,c',e,h.trans s⟩
theorem zP{b:Frame}{k0 k1 k:List Item}{cx:Cx}{t t':Fr}{w w':W}{x:AX}(h:∀a cs wd,step P (lone (b.atR a k0) cs wd) = .next (lone (b.atR a k1) cs wd))
(r:Leads P ng b k1 k cx t w x t' w'):Leads P ng b k0 k cx t w x t' w':=by
 intro ρ base w0 a wd cs hI;obtain⟨ρ',a',wd',cs',h1,h2,h3,h4⟩:=r ρ base w0 a wd cs hI;exact⟨ρ',a',wd',cs',h1,h2,h3,h4.of_steps (.one (h a cs wd))⟩
theorem wV(b:Frame)(k:List Item)(cx:Cx)(t:Fr)(w:W):Leads P ng b k k cx t w .normal t w:=
 fun ρ _ _ a wd cs hI=>⟨ρ,a,wd,cs,hI.e,Grow.refl _ _ _ _ hI.hp.dom,CsTo.refl _ _,Steps.refl _ _⟩
theorem Leads.trans{b:Frame}{k0 k1 k:List Item}{cx:Cx}{t t1 t2:Fr}{w w1 w2:W}{x:AX}(h:Leads P ng b k0 k1 cx t w .normal t1 w1)(r:Leads P ng b k1 k cx t1 w1 x t2 w2) :
 Leads P ng b k0 k cx t w x t2 w2:=by
 intro ρ base w0 a wd cs hI;obtain⟨ρ1,a1,wd1,cs1,h1,h2,h3,h4⟩:=h ρ base w0 a wd cs hI;obtain⟨ρ2,a2,wd2,fZ,g1,g2,g3,g4⟩:=r ρ1 base w0 a1 wd1 cs1 (h1.i λh=>h);exact⟨ρ2,a2,wd2,fZ,g1,h2.trans g2,h3.trans g3,g4.of_steps h4⟩
theorem Leads.pass{b:Frame}{k0 k1 k:List Item}{cx:Cx}{t t1:Fr}{w w1:W}{x:AX}(h:Leads P ng b k0 k1 cx t w x t1 w1)(hn:x≠.normal)
(he:∀id,x = .exit id->exitTo id k1=exitTo id k)(hg:∀l,x = .goto l->gotoIn l k1=gotoIn l k):Leads P ng b k0 k cx t w x t1 w1:=by
 intro ρ base w0 a wd cs hI;obtain⟨ρ1,a1,wd1,cs1,h1,h2,h3,h4⟩:=h ρ base w0 a wd cs hI;refine⟨ρ1,a1,wd1,cs1,h1,h2,h3,?_⟩
 cases x with
 | normal=>exact absurd rfl hn
 | exit id=>obtain⟨k2,e,s⟩:=h4;exact⟨k2,e.trans (he id rfl),s⟩
 | goto l=>obtain⟨k2,e,s⟩:=h4;exact⟨k2,e.trans (hg l rfl),s⟩
 | ret=>exact h4
 | panic c=>exact h4
end
end
section
section
variable {P:Program} {ng:Nat}
theorem stepR_scope{b:Frame}{a:Act}{k:List Item}{cs:List Frame}{w:World}{c:Code} :
 step P (lone (b.atR a (.code (.scope c)::k)) cs w) = .next (lone (b.atR a (.code c :: .inScope c::k)) cs w):=
 step_lone_go (by simp[stepG,stepG.exec,Frame.atR])
theorem stepR_inScope{b:Frame}{a:Act}{k:List Item}{cs:List Frame}{w:World}{c:Code} :
 step P (lone (b.atR a (.inScope c::k)) cs w) = .next (lone (b.atR a k) cs w):=
 step_lone_go (by simp[stepG,stepG.exec,Frame.atR])
theorem Steps.tail{m m1 m2:Machine}(h:Steps P m m2)(hs:step P m = .next m1)(eJ:m≠m2):Steps P m1 m2:=by
 obtain⟨n,hn⟩:=h
 cases n with
 | zero=>
  simp only[runN]at hn;injection hn with hn
  exact absurd hn eJ
 | succ n=>
  simp only[runN,hs]at hn;exact⟨n,hn⟩
theorem lone_inj{fr fr':Frame}{cs cs':List Frame}{w w':World}(h:lone fr cs w=lone fr' cs' w'):fr=fr':=by
 have h1:(lone fr cs w).gs=(lone fr' cs' w').gs:=by rw[h]
 have h2:(#[({ frame:=fr,callers:=cs,status:=.running,dying:=none }:Goroutine)]:Array Goroutine) = #[{ frame:=fr',callers:=cs',status:=.running,dying:=none }]:=h1;have h3:=congrArg (λx:Array Goroutine=>x.toList) h2;simp at h3;exact h3.1
theorem atR_todo{b:Frame}{a a':Act}{k k':List Item}(h:b.atR a k=b.atR a' k'):k=k':=by
 have:(b.atR a k).todo=(b.atR a' k').todo:=by rw[h]
 exact this
theorem leads_unloop{b:Frame}{k:List Item}{c:Code}{cx:Cx}{t t':Fr}{w w':W}{x:AX}(h:Leads P ng b (.code (.loop c)::k) k cx t w x t' w'):Leads P ng b (.code c :: .inLoop c::k) k cx t w x t' w':=by
 intro ρ base w0 a wd cs hI;obtain⟨ρ',a',wd',cs',h1,h2,h3,h4⟩:=h ρ base w0 a wd cs hI;refine⟨ρ',a',wd',cs',h1,h2,h3,?_⟩
 cases x with
 | normal =>
  exact Steps.tail h4 stepR_loop λe=>by
   have:=congrArg List.length (atR_todo (lone_inj e));simp at this
 | exit id =>
  obtain⟨k2,e,s⟩:=h4
  exact⟨k2,e,Steps.tail s stepR_loop λe=>by
   have:=atR_todo (lone_inj e);injection this with this
   injection this with this
   cases this⟩
 | goto l =>
  obtain⟨k2,e,s⟩:=h4
  exact⟨k2,e,Steps.tail s stepR_loop λe=>by
   have:=atR_todo (lone_inj e);injection this with this
   injection this with this
   cases this⟩
 | ret =>
  obtain⟨k2,s⟩:=h4
  exact⟨k2,Steps.tail s stepR_loop λe=>by
   have:=atR_todo (lone_inj e);injection this with this
   injection this with this
   cases this⟩
 | panic ch =>
  obtain⟨k2,ch',e,s⟩:=h4
  exact⟨k2,ch',e,Steps.tail s stepR_loop λe=>by
   have h9:=congrArg Frame.mode (lone_inj e);cases h9⟩
theorem leads_block{b:Frame}{k0 k:List Item}{id:Nat}{cx:Cx}{t t':Fr}{w w':W}(h:Leads P ng b k0 (.inBlock id::k) cx t w (.exit id) t' w'):Leads P ng b k0 k cx t w .normal t' w':=by
 intro ρ base w0 a wd cs hI;obtain⟨ρ',a',wd',cs',h1,h2,h3,k2,e,s⟩:=h ρ base w0 a wd cs hI;refine⟨ρ',a',wd',cs',h1.mono λh=>h,h2,h3,s.trans (.one (stepR_exit ?_))⟩;rw [e];simp [exitTo]
theorem xcode_ok{lo:Lo}(hS:Sound P ng lo)
(iR:∀id ops draw cx t w k,xcode P lo (.region id ops draw) cx t w k=true->∃x t' w',k x t' w'=true/\CodeTo P ng (.region id ops draw) cx t w x t' w')
(hrf:∀f params asg body cx t w k,xcode P lo (.rangeFunc f params asg body) cx t w k=true->∃x t' w',k x t' w'=true/\CodeTo P ng (.rangeFunc f params asg body) cx t w x t' w') :
 ∀c cx t w k,xcode P lo c cx t w k=true->∃x t' w',k x t' w'=true/\CodeTo P ng c cx t w x t' w':=by
 intro c
 induction c with
 | skip=>exact λcx t w k h=>⟨.normal,t,w,h,λ_ b k=>zP (λ_ _ _=>stepR_skip) (wV b k cx t w)⟩
 | label l=>exact λcx t w k h=>⟨.normal,t,w,h,λ_ b k=>zP (λ_ _ _=>stepR_label) (wV b k cx t w)⟩
 | region id ops draw=>exact iR id ops draw
 | rangeFunc f params asg body _ _=>exact hrf f params asg body
 | exit id=>exact λcx t w k h=>⟨.exit id,t,w,h,λ_ b k ρ _ _ a wd cs hI=>⟨ρ,a,wd,cs,hI.e,Grow.refl _ _ _ _ hI.hp.dom,CsTo.refl _ _,k,rfl,Steps.refl _ _⟩⟩
 | goto l=>exact λcx t w k h=>⟨.goto l,t,w,h,λ_ b k ρ _ _ a wd cs hI=>⟨ρ,a,wd,cs,hI.e,Grow.refl _ _ _ _ hI.hp.dom,CsTo.refl _ _,k,rfl,Steps.refl _ _⟩⟩
 | ret=>exact λcx t w k h=>⟨.ret,t,w,h,λ_ b k ρ _ _ a wd cs hI=>⟨ρ,a,wd,cs,hI.e,Grow.refl _ _ _ _ hI.hp.dom,CsTo.refl _ _,k,Steps.refl _ _⟩⟩
 | refuse why=>exact λcx t w k h=>(aU h).elim
 | seq a b iha ihb =>
  intro cx t w k h;obtain⟨x,t1,w1,hk,h1⟩:=iha cx t w _ h;have ok:∀{N},yZ ng N (.seq a b)=true->yZ ng N a=true/\yZ ng N b=true:=λh=>ak.1 h
  have pass:x≠.normal->CodeTo P ng (.seq a b) cx t w x t1 w1:=λhx hc fr k=>
   zP (λ_ _ _=>stepR_seq) ((h1 (ok hc).1 fr (.code b::k)).pass hx (λ_ _=>rfl) (λ_ _=>rfl))
  cases x with
  | normal=>
   obtain⟨x2,t2,w2,hk2,h2⟩:=ihb cx t1 w1 k hk;exact⟨x2,t2,w2,hk2,λhc fr k=>zP (λ_ _ _=>stepR_seq) ((h1 (ok hc).1 fr (.code b::k)).trans (h2 (ok hc).2 fr k))⟩
  | exit i=>exact⟨_,t1,w1,hk,pass AX.noConfusion⟩
  | goto i=>exact⟨_,t1,w1,hk,pass AX.noConfusion⟩
  | ret=>exact⟨_,t1,w1,hk,pass AX.noConfusion⟩
  | panic c=>exact⟨_,t1,w1,hk,pass AX.noConfusion⟩
 | cond c a b iha ihb =>
  intro cx t w k h;have h':onBool (ev t c) (λq=>Bool.rec (xcode P lo b cx t w k) (xcode P lo a cx t w k) q) false=true:=h;rcases onBool_some h' with⟨q,hq,h2⟩|h2
  case inr=>cases h2
  have fin:∀{x t' w'},CodeTo P ng (if q then a else b) cx t w x t' w'->CodeTo P ng (.cond c a b) cx t w x t' w':=by
   intro x t' w' hc hok fr k ρ base w0 ac wd cs hI;obtain⟨o1,o2⟩:=ak.1 hok;obtain⟨o2,o3⟩:=ak.1 o2;have hr:=ev_rv hI.hp hI.tm o1;rw [hq]at hr;have hr:=hr.of_bool;obtain⟨ρ',a',wd',cs',h1,h2,h3,h4⟩:=hc (by cases q <;> assumption) fr k ρ base w0 ac wd cs hI;exact⟨ρ',a',wd',cs',h1,h2,h3,h4.of_steps (.one (stepR_cond hr))⟩
  cases q with
  | true=>obtain⟨x,t',w',hk,h3⟩:=iha cx t w k h2;exact⟨x,t',w',hk,fin h3⟩
  | false=>obtain⟨x,t',w',hk,h3⟩:=ihb cx t w k h2;exact⟨x,t',w',hk,fin h3⟩
 | block id b ih =>
  intro cx t w k h;obtain⟨x,t1,w1,hk,h1⟩:=ih cx t w _ h;have ok:∀{N},yZ ng N (.block id b)=true->yZ ng N b=true:=λh=>h
  have pass:x≠.normal->(∀i,x = .exit i->i≠id)->CodeTo P ng (.block id b) cx t w x t1 w1:=λhx hi hc fr k=>
   zP (λ_ _ _=>stepR_block) ((h1 (ok hc) fr (.inBlock id::k)).pass hx (λi e=>by
    have:(id == i)=false:=by simpa using λe2=>hi i e e2.symm
    simp[exitTo,this]) (λ_ _=>rfl))
  cases x with
  | normal=>exact⟨.normal,t1,w1,hk,λhc fr k=>zP (λ_ _ _=>stepR_block) ((h1 (ok hc) fr (.inBlock id::k)).trans (zP (λ_ _ _=>stepR_inBlock) (wV fr k cx t1 w1)))⟩
  | exit i =>
   have hk':(Bool.rec (k (.exit i) t1 w1) (k .normal t1 w1) (Nat.beq i id):Bool)=true:=hk
   cases hi:Nat.beq i id with
   | true=>
    rw[hi]at hk';obtain rfl:=zT hi;exact⟨.normal,t1,w1,hk',λhc fr k=>zP (λ_ _ _=>stepR_block) (leads_block (h1 (ok hc) fr (.inBlock i::k)))⟩
   | false =>
    rw[hi]at hk'
    exact⟨_,t1,w1,hk',pass AX.noConfusion λj e e2=>by
     injection e with e
     subst e e2;rw [aR]at hi;cases hi⟩
  | goto i=>exact⟨_,t1,w1,hk,pass AX.noConfusion λ_ e=>by cases e⟩
  | ret=>exact⟨_,t1,w1,hk,pass AX.noConfusion λ_ e=>by cases e⟩
  | panic c=>exact⟨_,t1,w1,hk,pass AX.noConfusion λ_ e=>by cases e⟩
 | loop b ih =>
  intro cx t w k h;obtain⟨x,t1,w1,hk,h1⟩:=ih cx t w _ h
  have pass:x≠.normal->CodeTo P ng (.loop b) cx t w x t1 w1:=λhx hc fr k=>
   zP (λ_ _ _=>stepR_loop) ((h1 hc fr (.inLoop b::k)).pass hx (λ_ _=>rfl) (λ_ _=>rfl))
  cases x with
  | normal =>
   obtain⟨x2,t2,w2,hk2,h2⟩:=hS.code _ _ _ _ _ hk
   exact⟨x2,t2,w2,hk2,λhc fr k=>zP (λ_ _ _=>stepR_loop)
    ((h1 hc fr (.inLoop b::k)).trans (zP (λ_ _ _=>stepR_inLoop) (leads_unloop (h2 hc fr k))))⟩
  | exit i=>exact⟨_,t1,w1,hk,pass AX.noConfusion⟩
  | goto i=>exact⟨_,t1,w1,hk,pass AX.noConfusion⟩
  | ret=>exact⟨_,t1,w1,hk,pass AX.noConfusion⟩
  | panic c=>exact⟨_,t1,w1,hk,pass AX.noConfusion⟩
 | scope b ih =>
  intro cx t w k h;obtain⟨x,t1,w1,hk,h1⟩:=ih cx t w _ h
  have pass:x≠.normal->(∀l,x≠.goto l)->CodeTo P ng (.scope b) cx t w x t1 w1:=λhx hg hc fr k=>
   zP (λ_ _ _=>stepR_scope) ((h1 hc fr (.inScope b::k)).pass hx (λ_ _=>rfl) (λl e=>absurd e (hg l)))
  cases x with
  | normal=>exact⟨.normal,t1,w1,hk,λhc fr k=>zP (λ_ _ _=>stepR_scope) ((h1 hc fr (.inScope b::k)).trans (zP (λ_ _ _=>stepR_inScope) (wV fr k cx t1 w1)))⟩
  | exit i=>exact⟨_,t1,w1,hk,pass AX.noConfusion λ_=>AX.noConfusion⟩
  | goto i=>exact(aU hk).elim
  | ret=>exact⟨_,t1,w1,hk,pass AX.noConfusion λ_=>AX.noConfusion⟩
  | panic c=>exact⟨_,t1,w1,hk,pass AX.noConfusion λ_=>AX.noConfusion⟩
end
end
section
section
variable {P:Program} {ng:Nat}
def pushed(P:Program):Next->Option Frame
 | .enter f args=>some (Frame.enter P f args .normal)
 | .round l f tmps a b=>some (Frame.round l f tmps a b .normal)
 | _=>none
def InvTo(P:Program)(ng:Nat)(f:Value)(args:List Value)(h:zB)(n:Nat)(o:Out)(h':zB)(n':Nat):Prop:=
 ∀(ρ : Inj) (base:Nat) (w0 wd:World) (f':Value) (args':List Value),HeapR P ng ρ base w0 h n wd->RV ρ f f'->RVs ρ args args'->
  ∃d nx fr,(Deferred.ofValue f' ⟨args'⟩).run P wd = .ok d wd/\(invoke d.target d.args).run P wd = .ok nx wd/\pushed P nx=some fr/\
   ∀(c:Frame) (cs:List Frame),∃ρ' wd',HeapR P ng ρ' base w0 h' n' wd'/\Grow ρ h n wd ρ' h' n' wd'/\Back P (lone fr (c::cs) wd) c cs wd' ρ' o
theorem callFunc_enter {f:FuncId} {fn:Func} {body:Code} (hf:P.funcs[f]? = some fn) (hb:fn.body=some body) (hn:(fn.name == "runtime.NumGoroutine")=false) (args:Array Value) (wd:World) :
 (callFunc f args).run P wd = .ok (.enter f args) wd:=by
 have eP:fn.name≠ "runtime.NumGoroutine" :=by simpa using hn
 simp only[callFunc,program,Sem.run_bind];simp [Sem.run,hf,hb,eP]
theorem leaves_back{m:Machine}{fr c:Frame}{cs:List Frame}{wd:World}{ρ : Inj}{o:Out}(hs:Steps P m (lone fr (c::cs) wd))(hl:Leaves P fr wd ρ false o):Back P m c cs wd ρ o:=by
 cases o with
 | ret v=>
  obtain⟨v',h1,h2,h3,h4,h5⟩:=hl;refine⟨v',h5,hs.trans (.one ?_)⟩;exact step_leave_returned ⟨h1,h2,h3,h4⟩
 | panic ch=>
  obtain⟨c',h1,h2,h3,h4⟩:=hl;refine⟨c',h4,hs.trans (.one ?_)⟩;exact step_leave_panicked ⟨h1,h2,h3⟩
theorem xinvoke_ok{lo:Lo}(hS:Sound P ng lo){f:Value}{args:List Value}{h:zB}{n:Nat}{k:Value->zB->Nat->Bool}{kp:zK->zB->Nat->Bool}(hx:xinvoke lo f args h n k kp=true) :
 ∃o h' n',(Out.rec (motive:=λ_=>Bool) (λv=>k v h' n') (λc=>kp c h' n') o)=true/\InvTo P ng f args h n o h' n':=by
 unfold xinvoke at hx;split at hx
 . rename_i g first cap;obtain⟨o,u',h',n',hk,⟨fn,body,e1,e2,e3⟩,hc⟩:=hS.call _ _ _ _ _ _ _ hx;refine⟨o,h',n',hk,fun ρ base w0 wd f' args' hH hf ha=>?_⟩
   cases hf with
   | func hy lm eX f1 c1=>
    rename_i first' cap';have r1:(Deferred.ofValue (.func (.func g) first' cap') ⟨args'⟩).run P wd = .ok { target:=.fn (.func g) cap',args:=first'++⟨args'⟩ } wd:=by simp[Deferred.ofValue]
    have r2:(invoke (.fn (.func g) cap') (first'++⟨args'⟩)).run P wd = .ok (.enter g (first'++⟨args'⟩++cap')) wd:=callFunc_enter e1 e2 e3 _ wd;refine⟨{ target:=.fn (.func g) cap',args:=first'++⟨args'⟩ },.enter g (first'++⟨args'⟩++cap'),Frame.enter P g (first'++⟨args'⟩++cap') .normal,r1,r2,by simp only[pushed],λc cs=>?_⟩
    . have hr:RVs ρ (first.toList++(args++cap.toList)) (first'.toList++(args'++cap'.toList)):=RVs.append ⟨lm,f1⟩ (ha.append ⟨eX,c1⟩);obtain⟨ρ',wd',fr,cs',s1,s2,s3,s4,s5,s6,s7⟩:=hc ρ base w0 wd _ (c::cs) hH hr (λe=>by cases e)
      have fI:cs'=c::cs:=by
       rcases s4 with e|⟨e,_⟩
       . exact e
       . cases e
      subst fI
      have earr:(first'++(⟨args'⟩:Array Value)++cap')=⟨first'.toList++(args'++cap'.toList)⟩:=by
       apply cJ.1;simp
      refine⟨ρ',wd',s2,s3,?_⟩;rw [earr];exact leaves_back s1 s7
 . rename_i l first cap;obtain⟨o,h',n',hk,hc⟩:=hS.round _ _ _ _ _ hx;refine⟨o,h',n',by cases o <;> exact hk,fun ρ base w0 wd f' args' hH hf ha=>?_⟩
   cases hf with
   | func hy=>exact absurd rfl (hy l)
   | yield hl=>
    rename_i B;obtain⟨f,tmps,asg,body,q1,_⟩:=hc ρ base w0 wd args' B default [] hH hl (by simpa using ha);have r1:(Deferred.ofValue (.func (.yield B.b) #[] #[]) ⟨args'⟩).run P wd = .ok { target:=.fn (.yield B.b) #[],args:=⟨args'⟩ } wd:=by simp[Deferred.ofValue]
    have r2:(invoke (.fn (.yield B.b) #[]) ⟨args'⟩).run P wd = .ok (.round B.b f tmps asg body) wd:=q1;refine⟨{ target:=.fn (.yield B.b) #[],args:=⟨args'⟩ },.round B.b f tmps asg body,Frame.round B.b f tmps asg body .normal,r1,r2,by simp only[pushed],λc cs=>?_⟩
    . obtain⟨f2,tmps2,asg2,body2,q2,ρ',wd',q3,q4,q5⟩:=hc ρ base w0 wd args' B c cs hH hl (by simpa using ha);rw [q1]at q2;injection q2 with q2 _
      injection q2 with _ q6 q7 q8 q9
      subst q6 q7 q8 q9;exact⟨ρ',wd',q3,q4,q5⟩
 . cases hx
theorem bodyOf_some{f:FuncId}{fn:Func}{body:Code}(h:bodyOf P f=some (fn,body)):P.funcs[f]? = some fn/\fn.body=some body:=by
 unfold bodyOf at h;split at h
 . rename_i fn2 e;split at h
   . rename_i b e2;injection h with h
     injection h with h1 h2
     subst h1 h2;have:=tab_some e;exact⟨by rw[<- aO];exact this,e2⟩
   . cases h
 . cases h
theorem fn_ok(hP:xC ng P=true){f:FuncId}{fn:Func}(h:P.funcs[f]? = some fn):fnOK ng fn=true:=by
 unfold xC at hP;refine aH.1 (ak.1 hP).1 fn ?_;rw [<- aO]at h;exact aj.2 ⟨f,h⟩
theorem body_ok(hP:xC ng P=true){f:FuncId}{fn:Func}{body:Code}(h:P.funcs[f]? = some fn)(hb:fn.body=some body) :
 yZ ng fn.ntmps body=true/\(fn.name == "runtime.NumGoroutine")=false:=by
 have h1:=fn_ok hP h;unfold fnOK at h1;rw [hb]at h1;have h2:=(ak.1 h1).1;obtain⟨h3,h4⟩:=ak.1 h2;refine⟨h3,?_⟩;simpa [bne] using h4
theorem ntm_eq{f:FuncId}{fn:Func}(h:P.funcs[f]? = some fn):ntm P f=fn.ntmps:=by simp[ntm,h]
theorem args0_true{t:Fr}{i:Nat}{l:List Value}{k:Fr->Bool}(h:args0 t i l k=true):k (Tr.ofListFrom undef t i l)=true:=by
 induction l generalizing t i with
 | nil=>exact h
 | cons v r ih=>
  have h':(xU v λv=>fsetK t i v λt=>args0 t (Nat.succ i) r k)=true:=h;rw [yN]at h';unfold fsetK at h';rw [Tr.setK_eq]at h';exact ih h'
theorem xcall_ok{lo:Lo}(hP:xC ng P=true)(hS:Sound P ng lo){f:FuncId}{args:List Value}{df:Bool}{u:Option zK}{h:zB}{n:Nat}{k:KO}(hx:xcall P lo f args df u h n k=true) :
 ∃o u' h' n',k o u' h' n'=true/\CallTo P ng f args df u h n o u' h' n':=by
 unfold xcall at hx
 cases hb:bodyOf P f with
 | none=>rw [hb]at hx;cases hx
 | some p =>
  obtain⟨fn,body⟩:=p;rw [hb]at hx;obtain⟨e1,e2⟩:=bodyOf_some hb;obtain⟨e3,e4⟩:=body_ok hP e1 e2
  have k7:(Bool.rec false (args0 fr0 0 args λt=>
   lo.code body ⟨f,none,df⟩ t ⟨[],u,h,n⟩ λx t w=>AX.rec (lo.leave fn none t w k) (λ_=>false) (λ_=>false) (lo.leave fn none t w k) (λc=>lo.leave fn (some c) t w k) x) (Nat.ble args.length fn.ntmps):Bool)=true:=hx
  have eN:Nat.ble args.length fn.ntmps=true:=by
   cases e:Nat.ble args.length fn.ntmps with
   | true=>rfl
   | false=>rw [e]at k7;cases k7
  rw[eN]at k7;have eN:=xQ eN;have hx2:=args0_true k7;obtain⟨x,t',w',hk,hc⟩:=hS.code _ _ _ _ _ hx2;rw [<- ntm_eq e1]at e3
  have start:∀(ρ : Inj) (base:Nat) (w0 wd:World) (args':List Value) (cs:List Frame),HeapR P ng ρ base w0 h n wd->RVs ρ args args'->UR ρ df u cs->
   ∃(b:Frame) (a:Act),b.fn=f/\b.roundOf=none/\Frame.enter P f ⟨args'⟩ (kindOfDf df)=b.atR a [.code body]/\
    In P ng ρ base w0 b a wd cs ⟨f,none,df⟩ (Tr.ofListFrom undef fr0 0 args) ⟨[],u,h,n⟩:=by
   intro ρ base w0 wd args' cs hH ha hu;refine⟨{ (default:Frame) with fn:=f,kind:=kindOfDf df,roundOf:=none },{ tmps:=(⟨args'⟩:Array Value)++Array.replicate (fn.ntmps - args'.length) undef,defers:=[] },rfl,rfl,?_,?_⟩
   . simp[Frame.enter,Frame.atR,e1,e2]
   . refine⟨rfl,rfl,trivial,(λe=>by cases e),⟨?_,?_⟩,hH,.nil,hu,fn,e1⟩
     . show((⟨args'⟩:Array Value)++Array.replicate (fn.ntmps - args'.length) undef).size=ntm P f;have:=ha.1;rw [ntm_eq e1];simp;omega
     . intro i v hv;have hv:((⟨args'⟩:Array Value)++Array.replicate (fn.ntmps - args'.length) undef)[i]? = some v:=hv;unfold fget;rw [Tr.get_ofListFrom];rw [<- aO,dZ]at hv;by_cases hi:i<args'.length
       . rw[if_pos ⟨an _,by have:=ha.1;omega⟩];rw [az (by simpa using hi)]at hv;have hl:i<args.length:=by have:=ha.1;omega
         have:args[i]? = some (args.getD (i - 0) undef):=by simp[aa hl]
         exact ha.2 i _ v this (by simpa using hv)
       . rw[if_neg (by have:=ha.1;omega)];rw [ax (by simpa using hi)]at hv
         have:v=undef:=by
          simp[List.getElem?_replicate]at hv;exact hv.2.symm
         subst this
         have hg:Tr.get undef fr0 i=undef:=by
          unfold fr0;exact Tr.get_leaf _ _
         rw[hg];exact RV.undef ρ
  have fin:∀{mode:Option zK},lo.leave fn mode t' w' k=true->(Lost x w'->mode.isSome=true/\w'.d=[])->(∀(b:Frame) (ρ : Inj) (a:Act) (wd:World) (cs:List Frame) (m0:Machine),b.roundOf=none->Arr P m0 b [] cs ρ a wd x->∃k2 m,ModeR ρ mode m/\Steps P m0 (lone { b.atR a k2 with mode:=m } cs wd))->
   ∃o u' h' n',k o u' h' n'=true/\CallTo P ng f args df u h n o u' h' n':=by
   intro mode hl hlost hm;obtain⟨o,u',h',n',k1,fF⟩:=hS.leave _ _ _ _ _ hl;refine⟨o,u',h',n',k1,⟨fn,body,e1,e2,e4⟩,fun ρ base w0 wd args' cs hH ha hu=>?_⟩;obtain⟨b,a,b1,b2,b3,hI⟩:=start ρ base w0 wd args' cs hH ha hu;obtain⟨ρ1,a1,wd1,cs1,i1,g1,c1,r1⟩:=hc e3 b [] ρ base w0 a wd cs hI;obtain⟨k2,m,hmode,hst⟩:=hm b ρ1 a1 wd1 cs1 _ b2 r1;have i2:InE P ng (mode.isSome=true/\w'.d=[]) ρ1 base w0 b a1 wd1 cs1 ⟨b.fn,none,df⟩ t' w':=by rw[b1];exact i1.mono hlost
   obtain⟨ρ2,wd2,fr,fZ,s1,s2,s3,s4,s5,s6,s7⟩:=fF ρ1 base w0 b a1 wd1 cs1 df i2 (by rw[b1];exact e1) k2 m hmode;refine⟨ρ2,wd2,fr,fZ,?_,s2,g1.trans s3,c1.trans s4,s5,s6.trans b1,s7⟩;rw [b3];exact hst.trans s1
  cases x with
  | normal=>exact fin (mode:=none) hk (λh=>h.elim) λb ρ a wd cs m0 hb hr=>⟨[],.returning,rfl,Steps.trans hr (.one (stepR_end hb))⟩
  | ret =>
   exact fin (mode:=none) hk (λh=>h.elim) λb ρ a wd cs m0 hb hr=>by
    obtain⟨k2,s⟩:=hr;exact⟨.code .ret::k2,.returning,rfl,s.trans (.one (stepR_ret hb))⟩
  | panic c =>
   exact fin (mode:=some c) hk (λh=>⟨rfl,h⟩) λb ρ a wd cs m0 hb hr=>by
    obtain⟨k2,c',hcr,s⟩:=hr;exact⟨k2,.panicking c',⟨c',rfl,hcr⟩,s⟩
  | exit i=>exact(aU hk).elim
  | goto i=>exact(aU hk).elim
end
end
section
section
variable {P:Program} {ng:Nat}
theorem ldV_ok{ρ : Inj}{base:Nat}{w0:World}{h:zB}{n:Nat}{wd:World}(hH:HeapR P ng ρ base w0 h n wd){ty:TypeId}{x x':Value}(hx:RV ρ x x'){v:Value}(hl:ldV P h ty x=some v) :
 ∃v',(do loadVar ty (<- asAddr x'):Sem Value).run P wd = .ok v' wd/\RV ρ v v':=by
 obtain⟨v',h1,h2⟩:=load_ok hH hx hl;refine⟨v',?_,h2⟩;unfold ldV at hl;rcases rU hl with⟨b,off,rfl,_⟩|h3
 case inr=>cases h3
 obtain⟨B,_,_,rfl⟩:=hx.of_ptr;exact h1
def resOne(tmps:Array Value):ResultVar->Sem Value
 | .tmp t=>pure (tmps.getD t undef)
 | .cell a t=>do loadVar t (<- asAddr (tmps.getD a undef))
theorem results_list{ρ : Inj}{base:Nat}{w0:World}{h:zB}{n:Nat}{wd:World}(hH:HeapR P ng ρ base w0 h n wd){N:Nat}{t:Fr}{tmps:Array Value}(hT:TmR ρ N t tmps) :
 ∀{rs:List ResultVar} {l:List Value},(∀r∈rs,(match r with | .tmp i=>Nat.blt i N | .cell i _=>Nat.blt i N)=true)->xB P t h rs=some l->∃l',(rs.mapM (resOne tmps)).run P wd = .ok l' wd/\RVs ρ l l':=by
 intro rs
 induction rs with
 | nil=>
  intro l _ hr;simp only[xB]at hr;injection hr with hr;subst hr
  exact⟨[],by simp,RVs.nil ρ⟩
 | cons r rs ih =>
  intro l hok hr;have mz:∀x∈rs,(match x with | .tmp i=>Nat.blt i N | .cell i _=>Nat.blt i N)=true:=λx hx=>hok x (by simp[hx])
  have slot:∀i,Nat.blt i N=true->RV ρ (fget t i) (tmps.getD i undef):=by
   intro i hi;have hi:=xJ hi;have eD:i<tmps.size:=aG hi hT.le;have h1:=hT.tm i tmps[i] (aF eD);simpa [Array.getD,eD] using h1
  cases r with
  | tmp i =>
   simp only[xB]at hr
   cases hr2:xB P t h rs with
   | none=>rw [hr2]at hr;cases hr
   | some l2=>
    rw[hr2]at hr;injection hr with hr;subst hr
    obtain⟨l',h1,h2⟩:=ih mz hr2;refine⟨tmps.getD i undef::l',?_,RVs.cons (slot i (hok (.tmp i) qL)) h2⟩;simp [List.mapM_cons,resOne,h1]
  | cell i ty =>
   simp only[xB]at hr
   cases hv:ldV P h ty (fget t i) with
   | none=>rw [hv]at hr;cases hr
   | some v =>
    rw[hv]at hr
    cases hr2:xB P t h rs with
    | none=>rw [hr2]at hr;cases hr
    | some l2=>
     rw[hr2]at hr;injection hr with hr;subst hr
     obtain⟨l',h1,h2⟩:=ih mz hr2;obtain⟨v',h3,h4⟩:=ldV_ok hH (slot i (hok (.cell i ty) qL)) hv;refine⟨v'::l',?_,RVs.cons h4 h2⟩;have h3':(resOne tmps (.cell i ty)).run P wd = .ok v' wd:=h3;rw [List.mapM_cons,Sem.run_bind,h3',Result.andThen_ok,Sem.run_bind,h1];rfl
theorem results_ok(hP:xC ng P=true){ρ : Inj}{base:Nat}{w0:World}{h:zB}{n:Nat}{wd:World}(hH:HeapR P ng ρ base w0 h n wd){f:FuncId}{fn:Func}(hf:P.funcs[f]? = some fn){t:Fr}{tmps:Array Value}(hT:TmR ρ (ntm P f) t tmps)
{l:List Value}(hr:xB P t h fn.results.toList=some l):∃v',(results fn tmps).run P wd = .ok v' wd/\RV ρ (sD l) v':=by
 rw[ntm_eq hf]at hT;have hfo:=fn_ok hP hf;unfold fnOK at hfo;have h2:=aH.1 (ak.1 hfo).2
 obtain⟨l',h3,h4⟩:=results_list hH hT (rs:=fn.results.toList) (λr hr=>by
  have:=h2 r hr;cases r <;> exact this) hr
 have e:fn.results.mapM (resOne tmps)=List.toArray <$> fn.results.toList.mapM (resOne tmps):=Array.mapM_eq_mapM_toList
 have h5:(fn.results.mapM (resOne tmps)).run P wd = .ok l'.toArray wd:=by
  rw[e,map_eq_pure_bind,Sem.run_bind,h3];rfl
 refine⟨(if h:l'.toArray.size=1 then l'.toArray[0] else .tuple l'.toArray),?_,?_⟩
 . have e2:results fn tmps=(do
    let vs <- fn.results.mapM (resOne tmps)
    pure (if h:vs.size=1 then vs[0] else .tuple vs)):=by
    unfold results;congr 1
   rw[e2,Sem.run_bind,h5];rfl
 . cases l with
   | nil=>obtain rfl:=h4.of_nil;exact RV.mk_tuple (RVs.nil ρ)
   | cons v r =>
    obtain⟨v',r',rfl,hv,hr⟩:=h4.of_cons
    cases r with
    | nil=>
     obtain rfl:=hr.of_nil;show RV ρ v _;simpa using hv
    | cons v2 r2=>
     obtain⟨v2',r2',rfl,hv2,hr2⟩:=hr.of_cons;have:¬((v'::v2'::r2').toArray.size=1):=by simp
     rw[dif_neg this];exact RV.mk_tuple (RVs.cons hv (RVs.cons hv2 hr2))
theorem step_collected{fr:Frame}{cs:List Frame}{w:World}{r:Nat}{asz:Array Value}{ds:List Deferred}(hm:fr.mode≠.run)(hd:fr.defers=⟨.collected r,asz⟩::ds)(hr:w.heap[r]? = some (.deferred (some []))) :
 step P (lone fr cs w) = .next (lone { fr with defers:=ds } cs { w with heap:=w.heap.setIfInBounds r (.deferred none) }):=by
 refine step_lone_go ?_
 have ht:(Instr.takeDeferred r).run P w = .ok [] { w with heap:=w.heap.setIfInBounds r (.deferred none) }:=by
  simp[Instr.takeDeferred,getObj,setObj,Sem.run,hr]
 cases hmode:fr.mode with
 | run=>exact absurd hmode hm
 | returning=>simp [stepG,unwind,hmode,hd,ht]
 | panicking chain=>simp [stepG,unwind,hmode,hd,ht]
theorem ModeR.ne_run{ρ : Inj}{mode:Option zK}{m:FrameMode}(h:ModeR ρ mode m):m≠.run:=by
 cases mode with
 | none=>unfold ModeR at h;subst h;exact FrameMode.noConfusion
 | some c=>obtain⟨c',rfl,_⟩:=h;exact FrameMode.noConfusion
theorem xleave_ok{lo:Lo}(hP:xC ng P=true)(hS:Sound P ng lo){fn:Func}{mode:Option zK}{t:Fr}{w:W}{k:KO}(hx:xleave P lo fn mode t w k=true) :
 ∃o u' h' n',k o u' h' n'=true/\LeaveTo P ng fn mode t w o u' h' n':=by
 obtain⟨d,u0,h,n⟩:=w;unfold xleave at hx;dsimp only at hx;split at hx
 ·
  split at hx
  . split at hx
    . rename_i l hl;rw [yN]at hx;refine⟨_,_,_,_,hx,fun ρ base w0 b a wd cs df hI hf kk m hm=>?_⟩;obtain⟨v',h1,h2⟩:=results_ok hP hI.hp hf (hI.tm.resolve_left λh=>by cases h.1) hl;have hd:a.defers=[]:=by have:=hI.dr;generalize a.defers=z at this;cases this;rfl
      exact⟨ρ,wd,_,cs,Steps.refl _ _,hI.hp,Grow.refl _ _ _ _ hI.hp.dom,CsTo.refl _ _,hI.ur,rfl,v',hm,hd,hI.kind,⟨fn,hf,h1⟩,h2⟩
    . cases hx
  . rename_i c;refine⟨_,_,_,_,hx,fun ρ base w0 b a wd cs df hI hf kk m hm=>?_⟩;have hd:a.defers=[]:=by have:=hI.dr;generalize a.defers=z at this;cases this;rfl
    obtain⟨c',hm,hc⟩:=hm;exact⟨ρ,wd,_,cs,Steps.refl _ _,hI.hp,Grow.refl _ _ _ _ hI.hp.dom,CsTo.refl _ _,hI.ur,rfl,c',hm,hd,⟨fn,hf⟩,hc⟩
 ·
  rename_i r asz ds;split at hx
  . rename_i hg;rw [Tr.setK_eq]at hx;obtain⟨o,u',h',n',hk,hl⟩:=hS.leave _ _ _ _ _ hx;refine⟨o,u',h',n',hk,fun ρ base w0 b a wd cs df hI hf kk m hm=>?_⟩;have jL:=hI.dr;obtain⟨tm,df2⟩:=a;dsimp only at jL
    cases jL with
    | coll hb fF =>
     rename_i B asz' l';have eZ:zG h r≠.dead:=by rw[hg];exact AObj.noConfusion
     obtain⟨ob,e1,e2⟩:=hI.hp.obj r B hb eZ;dsimp only at e2;rw [hg]at e2
     cases e2 with
     | ready fT =>
      have eD:=hI.hp.lt hb eZ
      obtain⟨g1,g2⟩:=hI.hp.turn hb eZ (.deferred false) (.deferred none) { wd with heap:=wd.heap.setIfInBounds B.b (.deferred none) } fT (.taken fT) (by simp[eD]) qL  (λc hc=>by
       show(wd.heap.setIfInBounds B.b _)[c]? = _;rw [bD,if_neg (λe=>hc e.symm)]) rfl rfl rfl
      obtain⟨ρ2,wd2,fr,fZ,s1,s2,s3,s4,s5,s6,s7⟩:=hl ρ base w0 b { tmps:=tm,defers:=l' } _ cs df
       ⟨hI.fn,hI.kind,hI.rd,hI.rdf,.inr (hI.tm.resolve_left λh=>by cases h.2),g1,fF,hI.ur,hI.fnd⟩ hf kk m hm
      refine⟨ρ2,wd2,fr,fZ,?_,s2,g2.trans s3,s4,s5,s6,s7⟩;exact Steps.head (step_collected (fr:={ b.atR { tmps:=tm,defers:=⟨.collected B.b,asz'⟩::l' } kk with mode:=m }) hm.ne_run rfl e1) s1
  . cases hx
 ·
  rename_i g cap asz ds;obtain⟨o,u',h',n',hk,⟨gn,body,q1,q2,q3⟩,hc⟩:=hS.call _ _ _ _ _ _ _ hx
  cases o with
  | panic c=>exact(aU hk).elim
  | ret v =>
   dsimp only at hk
   have fin:∀{mode2:Option zK},lo.leave fn mode2 t ⟨ds,u0,h',n'⟩ k=true->(∀(ρ : Inj) (m:FrameMode),ModeR ρ u' m->ModeR ρ mode2 (settle m))->
    ∃o u' h' n',k o u' h' n'=true/\LeaveTo P ng fn mode t ⟨⟨.fn (.func g) cap,asz⟩::ds,u0,h,n⟩ o u' h' n':=by
    intro mode2 hl kU;obtain⟨o2,u2,h2,n2,hk2,fF⟩:=hS.leave _ _ _ _ _ hl;refine⟨o2,u2,h2,n2,hk2,fun ρ base w0 b a wd cs df hI hf kk m hm=>?_⟩;have jL:=hI.dr;obtain⟨tm,df2⟩:=a;dsimp only at jL
    cases jL with
    | fn fq has hl3 =>
     rename_i cap' asz' l';have hr:RVs ρ (asz.toList++cap.toList) (asz'.toList++cap'.toList):=has.append fq;obtain⟨ρ1,wd1,fr,cs1,s1,s2,s3,s4,s5,s6,s7⟩:=hc ρ base w0 wd _ ({ b.atR { tmps:=tm,defers:=l' } kk with mode:=m }::cs) hI.hp hr (λ_=>⟨_,_,rfl,hm⟩);obtain⟨c0,r0,z1,z2⟩:=s5 rfl
     have fI:∃m1,cs1 = { b.atR { tmps:=tm,defers:=l' } kk with mode:=m1 }::cs:=by
      rcases s4 with e|⟨_,c1,r1,m1,e1,e2⟩
      . exact⟨m,e⟩
      . injection e1 with e1 e3
        subst e1 e3;exact⟨m1,e2⟩
     obtain⟨m1,fI⟩:=fI;subst fI;injection z1 with z1 z3
     subst z1 z3;have z2:ModeR ρ1 u' m1:=z2;obtain⟨v',y1,y2,y3,y4,y5⟩:=s7;have hgo:fr.going P wd1 (.returned v'):=⟨y1,y2,y4⟩;have st2:=step_going_returned (P:=P) (c:={ b.atR { tmps:=tm,defers:=l' } kk with mode:=m1 }) (cs:=cs) y3 hgo;have earr:(asz'++cap':Array Value)=⟨asz'.toList++cap'.toList⟩:=by apply cJ.1;simp
     have hinv:(invoke (.fn (.func g) cap') asz').run P wd = .ok (.enter g ⟨asz'.toList++cap'.toList⟩) wd:=by
      rw[<- earr];exact callFunc_enter q1 q2 q3 _ wd
     have jp:=step_defer (P:=P) (fr:={ b.atR { tmps:=tm,defers:=⟨.fn (.func g) cap',asz'⟩::l' } kk with mode:=m }) (cs:=cs) (w:=wd) (d:=⟨.fn (.func g) cap',asz'⟩) (ds:=l') hm.ne_run rfl rfl hinv
     have hI2:In P ng ρ1 base w0 b { tmps:=tm,defers:=l' } wd1 cs ⟨b.fn,none,df⟩ t ⟨ds,u0,h',n'⟩:=
      have hle:=s3.le hI.hp.dom
      ⟨hI.fn,hI.kind,hI.rd.mono hle,hI.rdf,(hI.tm.resolve_left λh=>by cases h.2).mono hle,s2,hl3.mono hle,hI.ur.mono hle,hI.fnd⟩
     obtain⟨ρ2,wd2,fr2,fZ,x1,x2,x3,x4,x5,x6,x7⟩:=fF ρ1 base w0 b { tmps:=tm,defers:=l' } wd1 cs df hI2.e hf kk (settle m1) (kU ρ1 m1 z2);exact⟨ρ2,wd2,fr2,fZ,Steps.head jp (s1.trans (Steps.head st2 x1)),x2,s3.trans x3,x4,x5,x6,x7⟩
   split at hk
   . rename_i v2 gx older
     cases ho:older.all λe=> !e.goexit with
     | false=>rw [ho]at hk;cases hk
     | true =>
      rw[ho]at hk;refine fin (mode2:=none) hk fun ρ m hm=>?_;obtain⟨c',rfl,fE⟩:=hm
      cases fE with
      | cons hv hrec hgo hl =>
       rename_i e' l'
       have eH:l'.dropWhile (!·.goexit)=[]:=by
        clear hv hrec hgo hk hc hx fin
        induction hl with
        | nil=>rfl
        | cons hv hr hg hl ih=>
         simp only[dM,bu]at ho;rw [List.dropWhile_cons_of_pos (by rw[hg];exact ho.1)];exact ih ho.2
       obtain⟨v9,r9,g9⟩:=e';dsimp only at hrec;subst hrec;unfold ModeR settle;simp [eH]
   . rename_i eJ;refine fin (mode2:=u') hk fun ρ m hm=>?_
     cases u' with
     | none=>unfold ModeR at hm;subst hm;rfl
     | some c =>
      obtain⟨c',rfl,fE⟩:=hm;refine⟨c',?_,fE⟩
      cases fE with
      | nil=>rfl
      | cons hv hrec hgo hl=>
       rename_i e e' l l';obtain⟨v9,r9,g9⟩:=e;obtain⟨v8,r8,g8⟩:=e';dsimp only at hrec;subst hrec
       cases r8 with
       | true=>exact absurd rfl (eJ v9 g9 l)
       | false=>rfl
 . cases hx
end
end
end Go.Ex
