/- What the law leans on, part 8 of 24. Conditions: those that each theorem states. -/
import Derived.Test.YtdiejolnllipnaaGreatDoorMachPrintsx7
import Derived.KernelRfl

set_option linter.unusedVariables false
set_option linter.unusedSimpArgs false
namespace Go.Ex
section
def Mty(lo n:Nat)(h:zB)(v:Value):Prop:=∃b z kd,lo<=b/\b<n/\v = .slice (some ⟨b,0,none⟩) 0 0/\yC (zG h b)=some (0,z,kd)/\kd≠2/\kd≠3
theorem Mty.row{lo n:Nat}{h:zB}{v:Value}(r:Mty lo n h v)(e sz:Nat):Row n h v e sz 0 []:=by
 obtain⟨b,z,kd,h1,h2,rfl,h3,_⟩:=r;exact .inr ⟨b,0,0,0,z,kd,h2,rfl,by simp,h3,by simp,rowAt.nil _ _ _,.inl ⟨by decide,ad _⟩⟩
theorem mty_new{h:zB}{n lo:Nat}(hl:lo<=n):Mty lo (n+1) (hal h n (mkC [] 0 0)) (.slice (some ⟨n,0,none⟩) 0 0):=
 ⟨n,0,0,hl,be n,rfl,by rw[zO,if_pos rfl];exact vK [] 0 0,by decide,by decide⟩
theorem Mty.tch{S:List Nat}{lo n n':Nat}{h h':zB}{v:Value}(r:Mty lo n h v)(t:Tch S h n h' n')(hS:∀b,zH v=some b->b∉S):Mty lo n' h' v:=by
 obtain⟨b,z,kd,h1,h2,rfl,h3,h4⟩:=r;exact⟨b,z,kd,h1,aG h2 t.1,rfl,by rw[t.2 b h2 (hS b rfl)];exact h3,h4⟩
theorem append_mt{P:Program}{sT xT e sz lo n m:Nat}{h:zB}{v x:Value}{new:List Value}{K:KH}(hT:apTB P sT xT e sz=true)(hv:Mty lo n h v)(eE:lo<=n)(hr:Row n h x e sz m new)(h1:∀y∈new,y.oneCell'=true)(hlim:m<1000000)
(hK0:m=0->∀h',Mty lo n h' v->Tch [] h n h' n->K h' n v=true)(hK:0<m->∀v' h' n',Own lo n' h' v' e sz m new->Tch [] h n h' n'->K h' n' v'=true):vA P [sT,xT] [v,x] h n K=true:=by
 obtain⟨xd,ei,z,t1,t2,t3,t4,t5,t6,t7,t8,t9⟩:=apTB_of hT;have iS:=(row_of (hv.row e sz)).1;have jl:=hv;obtain⟨b,zz,kd,g1,g2,rfl,g3,g4,g5⟩:=hv;have hnew:new.length=m*sz:=hr.lens;have hZ:xD P h e ei.size xd x=some (m,new):=by rw[t6];exact uK t3 hr
 unfold vA sC;dsimp only;rw [t1,t2];dsimp only;rw [t4,t5];dsimp only;rw [hZ];dsimp only
 have c1:(Nat.beq ei.size 0 || !Nat.beq (cellsOf z).length ei.size || !Nat.blt (Nat.add 0 m) 1000000 || !Nat.blt ei.bytes 100000)=false:=by
  have a1:Nat.beq ei.size 0=false:=by
   cases e9:Nat.beq ei.size 0 with
   | false=>rfl
   | true=>have:=zT e9;omega
  have a2:Nat.beq (cellsOf z).length ei.size=true:=by rw[t7,t6];exact aR _
  rw[a1,a2,xV (show Nat.add 0 m<1000000 from by have:Nat.add 0 m=m:=aK m;omega),xV t9];rfl
 rw[c1];have ff:Nat.beq 0 inf=false:=by decide
 show cond (Nat.beq m 0 && false && (Nat.beq 0 inf || Nat.ble 0 0)) _ (cond (Nat.beq 0 inf) _ (growEx h n (some ⟨b,0,none⟩) 0 0 m ei.size (zc e ei.size) new λv h n=>K h n v))=true;rw [dk,ff];show growEx h n (some ⟨b,0,none⟩) 0 0 m ei.size (zc e ei.size) new (λv h n=>K h n v)=true;unfold growEx;by_cases hm:m=0
 . subst hm;have gt:new=[]:=aP.1 (by simpa using hnew);subst gt;show storeAt h b (Nat.add 0 (Nat.mul 0 ei.size)) [] (λh'=>K h' n (.slice (some ⟨b,0,none⟩) 0 0))=true;have hz:Nat.add 0 (Nat.mul 0 ei.size)=0:=by show 0+0*ei.size=0;omega
   rw[hz];refine rZ g3 ⟨g4,g5⟩ (ad _) (λy hy=>by cases hy) ?_;refine hK0 rfl _ ⟨b,zz,kd,g1,g2,rfl,?_,g4,g5⟩ ⟨ad _,λb' fg _=>?_⟩
   . rw[zX,if_pos rfl,sA];exact g3
   . rw[zX];by_cases e3:b=b'
     . subst e3;rw [if_pos rfl];cases zG h b <;> rfl
     . rw[if_neg e3]
 . have b1:Nat.ble (Nat.add 0 m) 0=false:=by
    cases e9:Nat.ble (Nat.add 0 m) 0 with
    | false=>rfl
    | true=>
     have h9:Nat.add 0 m<=0:=xQ e9;have fM:0+m<=0:=h9;omega
   rw[b1]
   show(match rowOf h ei.size 0 (.slice (some ⟨b,0,none⟩) 0 0) with
    | some old=>xN .lF 0 (old++new) λc=>yD h n (.cells c (Nat.mul (Nat.add 0 m) ei.size) (zc e ei.size) 1) λh' n'=>K h' n' (.slice (some ⟨n,0,none⟩) (Nat.add 0 m) inf)
    | none=>false)=true
   rw[t6,iS];show xN .lF 0 ([]++new) _=true;refine wG h1 ?_;rw [yM];have hz:Nat.add 0 m=m:=aK m;have eJ:Nat.mul (Nat.add 0 m) sz=new.length:=by rw[hz];exact hnew.symm
   rw[eJ,hz];refine hK qJ  _ _ _ (.inr ⟨n,eE,be n,rfl,?_,hnew,by omega,λi=>?_⟩) ⟨cH n,λb hb _=>?_⟩
   . rw[zN,if_pos rfl];rfl
   . unfold zD;rw [zN,if_pos rfl];exact wW new (zc e sz) 1 i
   . rw[zN,if_neg qJ]
def OwnE(lo n:Nat)(h:zB)(v:Value)(e sz len:Nat)(vs:List Value):Prop:=Own lo n h v e sz len vs\/(Mty lo n h v/\len=0/\vs=[])
theorem OwnE.row{lo n:Nat}{h:zB}{v:Value}{e sz len:Nat}{vs:List Value}(r:OwnE lo n h v e sz len vs)(hs:1<=sz):Row n h v e sz len vs:=by
 rcases r with r|⟨r,rfl,rfl⟩
 . exact r.row hs
 . exact r.row e sz
theorem OwnE.tch{S:List Nat}{lo n n':Nat}{h h':zB}{v:Value}{e sz len:Nat}{vs:List Value}(r:OwnE lo n h v e sz len vs)(t:Tch S h n h' n')(hS:∀b,zH v=some b->b∉S):OwnE lo n' h' v e sz len vs:=by
 rcases r with r|⟨r,rfl,rfl⟩
 . exact .inl (r.tch t hS)
 . exact .inr ⟨r.tch t hS,rfl,rfl⟩
theorem OwnE.low{lo n:Nat}{h:zB}{v:Value}{e sz len:Nat}{vs:List Value}(r:OwnE lo n h v e sz len vs):∀x∈(zH v).toList,lo<=x:=λx hx=>by
 rcases r with r|⟨⟨b,z,kd,h1,h2,rfl,_⟩,rfl,rfl⟩
 . cases hb:zH v with
   | none=>rw [hb]at hx;cases hx
   | some b=>rw [hb]at hx;simp at hx;subst hx;exact(r.blk hb).1
 . rw[show zH (.slice (some ⟨b,0,none⟩) 0 0)=some b from rfl]at hx;simp at hx;subst hx;exact h1
theorem appE{P:Program}{sT xT e sz:Nat}[A:ApC P sT xT e sz]{cx:Cx}{d:List Deferred}{u:Option zK}{h:zB}{n lo len m:Nat}{v x:Value}{vs new:List Value}{K:W->Value->Prop}(ho:OwnE lo n h v e sz len vs)(hr:Row n h x e sz m new)(eE:lo<=n)(h1:∀y∈new,y.oneCell'=true)(hlim:len+m<1000000)
(k:∀v' h' n',OwnE lo n' h' v' e sz (len+m) (vs++new)->Tch (zH v).toList h n h' n'->K ⟨d,u,h',n'⟩ v'):BuB P cx .append [sT,xT] [v,x] d u h n K:=by
 rcases ho with ho|⟨ho,rfl,rfl⟩
 . have:=append_own (K:=λh' n' v'=>wE (K ⟨d,u,h',n'⟩ v')) A.ok ho eE hr hr.lens h1 hlim λv' h' n' o a b=>isSo_iff.2 (k v' h' n' (.inl o) ⟨a,λb' hb hS=>b b' hb λe=>hS (by rw[e];simp)⟩);exact this
 . have:=append_mt (K:=λh' n' v'=>wE (K ⟨d,u,h',n'⟩ v')) A.ok ho eE hr h1 qJ  (λhm h' r t=>isSo_iff.2 (k v h' n (.inr ⟨r,by omega,by
    subst hm;have:=hr.lens;simpa using aP.1 (by simpa using this)⟩) ⟨t.1,λb hb _=>t.2 b hb qL⟩)) (λhm v' h' n' o t=>isSo_iff.2 (k v' h' n' (.inl (by rw[aK];exact o)) ⟨t.1,λb hb _=>t.2 b hb qL⟩))
   exact this
theorem bn_s0{P:Program}{ty el:Nat}[s:UnC P ty (.slice el)]{ox oy:Operand}{a b c d:Nat}:Bn P .eql ty ox oy (.slice none a b) (.slice none c d) (.bool true):=by
 show(match BinOp.eql,und P ty with
  | .eql,some dd=>cond (zV ox oy (.slice none a b) (.slice none c d)) ((vQ dd (.slice none a b) (.slice none c d)).map Value.bool) none
  | .neq,some dd=>cond (zV ox oy (.slice none a b) (.slice none c d)) ((vQ dd (.slice none a b) (.slice none c d)).map λb=>Value.bool (!b)) none
  | _,_=>none:Option Value)=_
 rw[s.ok];rfl
theorem bn_s1{P:Program}{ty el:Nat}[s:UnC P ty (.slice el)]{ox oy:Operand}{p:Addr}{a b c d:Nat}:Bn P .eql ty ox oy (.slice (some p) a b) (.slice none c d) (.bool false):=by
 show(match BinOp.eql,und P ty with
  | .eql,some dd=>cond (zV ox oy (.slice (some p) a b) (.slice none c d)) ((vQ dd (.slice (some p) a b) (.slice none c d)).map Value.bool) none
  | .neq,some dd=>cond (zV ox oy (.slice (some p) a b) (.slice none c d)) ((vQ dd (.slice (some p) a b) (.slice none c d)).map λb=>Value.bool (!b)) none
  | _,_=>none:Option Value)=_
 rw[s.ok];rfl
section
variable {P:Program} {ng:Nat}
def Iter(P:Program)(ng:Nat){α : Type}(enc: α->Value)(elems:List α)(g:FuncId)(args:List Value)(L:Nat)(h:zB)(n:Nat)(E:zB->Nat->Prop):Prop:=
 ∀(J:List α->zB->Nat->Prop) (JF:zB->Nat->Prop),(∀done h' n',J done h' n'->E h' n')->J [] h n->
  (∀done e h' n',J done h' n'->(done++[e]) <+: elems->Rou P ng L [enc e] h' n' λr h2 n2=>n'<=n2/\((r = .ret (.bool true)/\J (done++[e]) h2 n2)\/(r = .ret (.bool false)/\JF h2 n2)))->
  Com P ng g args h n λr h' n'=>r = .ret (.tuple #[])/\(J elems h' n'\/JF h' n')
theorem it_core[Fit P ng]{α : Type}{enc: α->Value}{elems:List α}{ps:List Tmp}{assign body:Code}{fn:FuncId}{l:List (Nat×Value)}{t:Fr}{cx:Cx}{d:List Deferred}{u:Option zK}{h:zB}{n L D:Nat}{Q:QX}{g:FuncId}{args:List Value}{E:zB->Nat->Prop}
(I:List α->zB->Nat->Prop)(F:Code->zB->Nat->Prop)(gP:ps.length=1)(it:Iter P ng enc elems g args L h n E)(hE:∀done h' n',I done h' n'->E h' n')
(hL:zG h L=LoO .ready none fn ps.toArray assign body D (FA l t))(h0:I [] h n)
(bd:∀done e h' n',I done h' n'->zG h' L=LoO .ready none fn ps.toArray assign body D (FA l t)->(done++[e]) <+: elems->WC P ng assign ⟨fn,some L,false⟩ (FA (parl ps [enc e] l) t) ⟨[],none,h',n'⟩ (asQ P ng L fn ps.toArray assign body D (FA l t) λr h2 n2=>n'<=n2/\((r = .ret (.bool true)/\zG h2 L=LoO .ready none fn ps.toArray assign body D (FA l t)/\I (done++[e]) h2 n2)\/(r = .ret (.bool false)/\∃j,zG h2 L=LoO .done (some j) fn ps.toArray assign body D (FA l t)/\F j h2 n2))))
(fin:∀h' n',I elems h' n'->Q .normal (FA l t) ⟨d,u,hal h' L (LoO .exhausted none fn ps.toArray assign body D (FA l t)),n'⟩)
(finF:∀j h' n',F j h' n'->WC P ng j cx (FA l t) ⟨d,u,hal h' L (LoO .exhausted (some j) fn ps.toArray assign body D (FA l t)),n'⟩ Q) :
 CallB P ng g args h n (rgQ P ng L fn ps.toArray assign body D cx (FA l t) d u Q):=by
 refine cal0 (it (λdone h' n'=>zG h' L=LoO .ready none fn ps.toArray assign body D (FA l t)/\I done h' n') (λh' n'=>∃j,zG h' L=LoO .done (some j) fn ps.toArray assign body D (FA l t)/\F j h' n') (λdone h' n' q=>hE _ _ _ q.2) ⟨hL,h0⟩ λdone e h' n' ⟨q1,q2⟩ hp=>rou q1 gP (bd done e h' n' q2 q1 hp)) ?_
 rintro _ h' n' ⟨rfl,⟨q1,q2⟩|⟨j,q1,q2⟩⟩
 . exact .inl ⟨q1,fin h' n' q2⟩
 . exact .inr ⟨j,q1,finF j h' n' q2⟩
end
end
section
def MpS(h:zB)(b:Nat)(l:List (List UInt8×Value)):Prop:=∃es clock,zG h b = .map es clock/\es.map (λe=>(e.key,e.val))=l.map λp=>(str p.1,p.2)
 class MsC (P:Program) (ty:Nat) (z:outParam Value):Prop where ok:∃kt et,und P ty=some (.map kt et)/\und P kt=some .string/\xI P et=some z
theorem keyEq_str(x y:List UInt8):keyEq (str x) (str y)=some (decide (x=y)):=by
 show some (vT x y)=_;rw [vE]
theorem findS_no{x:List UInt8}:∀{l:List (List UInt8×Value)} {es:List MapEntry} {i:Nat},es.map (λe=>(e.key,e.val))=(l.map λp=>(str p.1,p.2))->(∀p∈l,p.1≠x)->findE (str x) es i=some none:=by
 intro l
 induction l with
 | nil=>intro es i he _;rw [List.map_eq_nil_iff.1 he];rfl
 | cons p r ih =>
  intro es i he eG
  cases es with
  | nil=>cases he
  | cons e es=>
   rw[bJ,bJ]at he;injection he with h1 h2
   injection h1 with h1 h3
   unfold findE;rw [h1,keyEq_str,decide_eq_false λh=>eG p (aN ..) h.symm];exact ih h2 λq hq=>eG q (aL _ hq)
theorem findS_at{x:List UInt8}{v:Value}{B:List (List UInt8×Value)}:∀{A:List (List UInt8×Value)} {es:List MapEntry} {i:Nat},es.map (λe=>(e.key,e.val))=((A++(x,v)::B).map λp=>(str p.1,p.2))->(∀p∈A,p.1≠x)->findE (str x) es i=some (some (i+A.length,v)):=by
 intro A
 induction A with
 | nil =>
  intro es i he _
  cases es with
  | nil=>cases he
  | cons e es=>
   rw[bJ,bF,bJ]at he;injection he with h1 h2
   injection h1 with h1 h3
   unfold findE;rw [h1,keyEq_str,decide_eq_true rfl,h3];rfl
 | cons p r ih =>
  intro es i he eG
  cases es with
  | nil=>cases he
  | cons e es=>
   rw[bJ,cd,bJ]at he;injection he with h1 h2
   injection h1 with h1 h3
   unfold findE;rw [h1,keyEq_str,decide_eq_false λh=>eG p (aN ..) h.symm];rw [show some (some (i+(p::r).length,v))=some (some ((i+1)+r.length,v)) by rw[ay];congr 3;omega];exact ih h2 λq hq=>eG q (aL _ hq)
section
variable {P:Program} {ty:Nat} {z:Value} {h:zB} {b:Nat} {l:List (List UInt8×Value)} {x:List UInt8}
theorem lku_no[s:MsC P ty z](m:MpS h b l)(eG:∀p∈l,p.1≠x):xG P h ty (.map (some b)) (str x) true=some (.tuple ⟨[z,.bool false]⟩):=by
 obtain⟨kt,et,h1,h2,h3⟩:=s.ok;obtain⟨es,clock,h4,h5⟩:=m;unfold xG;rw [h1];dsimp only;rw [h2,h3];dsimp only;rw [h4];dsimp only;rw [findS_no h5 eG];rfl
theorem lku_at[s:MsC P ty z]{A B:List (List UInt8×Value)}{v:Value}{ok:Bool}(m:MpS h b (A++(x,v)::B))(eG:∀p∈A,p.1≠x):xG P h ty (.map (some b)) (str x) ok=some (cond ok (.tuple ⟨[v,.bool true]⟩) v):=by
 obtain⟨kt,et,h1,h2,h3⟩:=s.ok;obtain⟨es,clock,h4,h5⟩:=m;unfold xG;rw [h1];dsimp only;rw [h2,h3];dsimp only;rw [h4];dsimp only;rw [findS_at h5 eG];rfl
theorem mset_new[s:MsC P ty z]{v:Value}(m:MpS h b l)(eG:∀p∈l,p.1≠x):∃o,MSet P ty (.map (some b)) (str x) v h (hal h b o)/\MpS (hal h b o) b (l++[(x,v)]):=by
 obtain⟨kt,et,h1,h2,h3⟩:=s.ok;obtain⟨es,clock,h4,h5⟩:=m;refine⟨.map (es++[{ key:=str x,val:=v,born:=clock }]) (Nat.succ clock),λK hK=>?_,_,_,by rw[zO,if_pos rfl],by rw[aC,aC,h5];rfl⟩;unfold uE;rw [h1];dsimp only;rw [h2,h4];dsimp only;rw [findS_no h5 eG];show h.setK .dead _ b K=true;rw [Tr.setK_eq];exact hK
end
theorem MpS.tch{S:List Nat}{h h':zB}{n n' b:Nat}{l:List (List UInt8×Value)}(m:MpS h b l)(t:Tch S h n h' n')(hb:b<n)(hS:b∉S):MpS h' b l:=by
 obtain⟨es,clock,h4,h5⟩:=m;exact⟨es,clock,by rw[t.2 b hb hS];exact h4,h5⟩
theorem mps_new{h:zB}{n:Nat}:MpS (hal h n (.map [] 0)) n []:=⟨[],0,by rw[zO,if_pos rfl],rfl⟩
end
section
noncomputable def slB(P:Program)(ty e sz:Nat):Bool:=match und P ty with
  | some (.slice e') => match inf? P e' with
    | some ei=>Nat.beq e' e && Nat.beq ei.size sz
    | none=>false
  | _=>false
 class SlC (P:Program) (ty:Nat) (e sz:outParam Nat):Prop where ok:slB P ty e sz=true
theorem SlC.get{P:Program}{ty e sz:Nat}(s:SlC P ty e sz):und P ty=some (.slice e)/\∃ei,inf? P e=some ei/\ei.size=sz:=by
 have h:=s.ok;unfold slB at h;split at h
 . rename_i e' h1;split at h
   . rename_i ei h2;obtain⟨a,b⟩:=ak.1 h;have a:=zT a;have b:=zT b;subst a;exact⟨h1,ei,h2,b⟩
   . cases h
 . cases h
theorem bound_at{d most k:Nat}(h:k<=most):zZ d most (some (I64 (k:Nat)))=some k:=by
 show(cond (Nat.ble k most) (some k) none:Option Nat)=some k;rw [vC h];rfl
section
variable {P:Program} {ty e sz lo n len k:Nat} {h:zB} {v:Value} {vs:List Value}
theorem slice_full[s:SlC P ty e sz](o:Own lo n h v e sz len vs)(hk:k<=len)(hl:len<1000000)(hs:1<=sz):∃v',xS P h ty v none (some (I64 (k:Nat))) (some (I64 (k:Nat)))=some v'/\Row n h v' e sz k (vs.take (k*sz))/\zH v'=zH v/\(v' = .slice none 0 0\/∃b,v' = .slice (some ⟨b,0,none⟩) k k):=by
 obtain⟨hu,ei,hi,hsz⟩:=s.get;rcases o with⟨rfl,rfl,rfl⟩|⟨b,q1,q2,rfl,q3,q4,q5,q6⟩
 . obtain rfl:k=0:=by omega
   refine⟨.slice none 0 0,?_,.inl ⟨rfl,rfl,by simp⟩,rfl,.inl rfl⟩;unfold xS;rw [hu];dsimp only;rw [hi];rfl
 . have eM:(1000000:Nat)<=inf:=by decide
   refine⟨.slice (some ⟨b,0,none⟩) k k,?_,?_,rfl,.inr ⟨b,rfl⟩⟩
   . unfold xS;rw [hu];dsimp only;rw [hi];dsimp only;have fz:Nat.beq inf inf=true:=aR _;rw [fz];cases hg:zG h b <;> rw[hg]at q3 <;> first|(cases q3;done)|(exact absurd (kd_of q3) qK)|skip
     rename_i c kn z' kd';have q3':some (kn,z',kd')=some (vs.length,zc e sz,1):=q3;simp only[Option.some.injEq,Prod.mk.injEq]at q3';obtain⟨rfl,rfl,rfl⟩:=q3';show cond (Nat.beq (zc e sz) (zc e ei.size) && Nat.ble 1 ei.size) (uP ⟨b,0,none⟩ len ei.size none (some (I64 (k:Nat))) (some (I64 (k:Nat)))) none=_;rw [hsz,aR,vC hs];unfold uP;dsimp only[Bool.and_self,cond_true];rw [bound_at hk];dsimp only;rw [bound_at (ad k)];show cond (Nat.blt k inf) (some (Value.slice (some (cond (Nat.beq k 0) ⟨b,0,none⟩ (far ⟨b,0,none⟩ (Nat.mul 0 sz)))) (Nat.sub k 0) (Nat.sub k 0))) none=_;rw [xV qJ];have e0:Nat.mul 0 sz=0:=bI sz;rw [e0];have e1:far ⟨b,0,none⟩ 0=⟨b,0,none⟩:=rfl;rw [e1];cases Nat.beq k 0 <;> rfl
   . have jN:k*sz<=len*sz:=bN _ hk;refine .inr ⟨b,0,k,vs.length,zc e sz,1,q2,rfl,?_,q3,?_,λj x hj=>?_,.inl ⟨by omega,ad _⟩⟩
     . rw[aI,q4];omega
     . rw[aI];omega
     . rw[List.getElem?_take]at hj;split at hj
       . rw[aK,q6];exact hj
       . cases hj
theorem ofListFrom_append:∀(l:List Value) (c:Tr Value) (i:Nat) (l':List Value),Tr.ofListFrom undef (Tr.ofListFrom undef c i l) (i+l.length) l'=Tr.ofListFrom undef c i (l++l'):=by
 intro l
 induction l with
 | nil=>intro c i l';rfl
 | cons a l ih=>
  intro c i l';rw [cd,ay,show i+(l.length+1)=(i+1)+l.length by omega];exact ih _ (i+1) l'
def WayR(lo n:Nat)(h:zB)(v:Value)(e sz len:Nat)(vs:List Value):Prop:=∃b m z kd cap,lo<=b/\b<n/\v = .slice (some ⟨b,0,none⟩) len cap/\yC (zG h b)=some (m,z,kd)/\vs.length=len*sz/\vs.length<=m/\(∀i,i<vs.length->zD h b i=vs[i]?)/\
 ((kd=0/\z=0/\cap<inf/\len<=cap/\cap*sz<=m)\/(kd=1/\cap=inf/\z=zc e sz))
theorem WayR.row(r:WayR lo n h v e sz len vs)(hs:1<=sz):Row n h v e sz len vs:=by
 obtain⟨b,m,z,kd,cap,h1,h2,rfl,h3,h4,h5,h6,h7⟩:=r;refine .inr ⟨b,0,cap,m,z,kd,h2,rfl,h4,h3,by omega,λj x hj=>?_,?_⟩
 . rw[aK,h6 j (ab.1 hj).1];exact hj
 . rcases h7 with⟨rfl,_,g1,g2,g3⟩|⟨rfl,rfl,rfl⟩
   . exact .inl ⟨g1,g2⟩
   . exact .inr ⟨rfl,rfl,rfl,hs⟩
theorem WayR.blk(r:WayR lo n h v e sz len vs){b:Nat}(hb:zH v=some b):lo<=b/\b<n:=by
 obtain⟨b',m,z,kd,cap,h1,h2,rfl,_⟩:=r;injection hb with hb;subst hb;exact⟨h1,h2⟩
theorem WayR.keep(r:WayR lo n h v e sz len vs){h':zB}{n':Nat}(hn:n<=n')(ek:∀b,zH v=some b->zG h' b=zG h b):WayR lo n' h' v e sz len vs:=by
 obtain⟨b,m,z,kd,cap,h1,h2,rfl,h3,h4,h5,h6,h7⟩:=r;have he:=ek b rfl;exact⟨b,m,z,kd,cap,h1,aG h2 hn,rfl,by rw[he];exact h3,h4,h5,λi hi=>by unfold zD;rw [he];exact h6 i hi,h7⟩
theorem WayR.tch{S:List Nat}{h':zB}{n':Nat}(r:WayR lo n h v e sz len vs)(t:Tch S h n h' n')(hS:∀b,zH v=some b->b∉S):WayR lo n' h' v e sz len vs:=
 r.keep t.1 λb hb=>t.2 b (r.blk hb).2 (hS b hb)
theorem way_new{cs:List Value}(eE:lo<=n)(hl:cs.length=len*sz)(eD:len<inf):WayR lo (n+1) (hal h n (mkC cs 0 0)) (.slice (some ⟨n,0,none⟩) len len) e sz len cs:=by
 refine⟨n,cs.length,0,0,len,eE,be n,rfl,?_,hl,ad _,λi _=>?_,.inl ⟨rfl,rfl,eD,ad _,by omega⟩⟩
 . rw[zO,if_pos rfl];exact vK _ _ _
 . unfold zD;rw [zO,if_pos rfl];exact wW _ _ _ _
theorem way_cut[s:SlC P ty e sz](r:WayR lo n h v e sz len vs)(hk:k<=len)(hs:1<=sz):∃v',xS P h ty v none (some (I64 (k:Nat))) none=some v'/\WayR lo n h v' e sz k (vs.take (k*sz))/\zH v'=zH v:=by
 obtain⟨hu,ei,hi,hsz⟩:=s.get;obtain⟨b,m,z,kd,cap,h1,h2,rfl,h3,h4,h5,h6,h7⟩:=r;have jN:k*sz<=len*sz:=bN _ hk
 have hw:∀cap',((kd=0/\z=0/\cap'<inf/\k<=cap'/\cap'*sz<=m)\/(kd=1/\cap'=inf/\z=zc e sz))->WayR lo n h (.slice (some ⟨b,0,none⟩) k cap') e sz k (vs.take (k*sz)):=λcap' hc=>by
  refine⟨b,m,z,kd,cap',h1,h2,rfl,h3,by rw[aI];omega,by rw[aI];omega,λi hi=>?_,hc⟩;rw [aI]at hi;rw [h6 i qJ,aJ qJ]
 rcases h7 with⟨rfl,rfl,g1,g2,g3⟩|⟨rfl,rfl,rfl⟩
 . refine⟨.slice (some ⟨b,0,none⟩) k cap,?_,hw cap (.inl ⟨rfl,rfl,g1,by omega,g3⟩),rfl⟩;unfold xS;rw [hu];dsimp only;rw [hi];dsimp only
   have fz:Nat.beq cap inf=false:=by
    cases e9:Nat.beq cap inf with
    | false=>rfl
    | true=>have:=zT e9;omega
   rw[fz];show wT ⟨b,0,none⟩ len cap ei.size none (some (I64 (k:Nat))) none=_;unfold wT
   show(match zZ len cap (some (I64 (k:Nat))) with
    | none=>none
    | some h=>match zZ 0 h none with
     | none=>none
     | some l=>cond (Nat.blt cap inf && Nat.ble h cap) (some (Value.slice (some (cond (Nat.beq cap l) ⟨b,0,none⟩ (far ⟨b,0,none⟩ (Nat.mul l ei.size)))) (Nat.sub h l) (Nat.sub cap l))) none:Option Value)=_
   rw[bound_at qJ];show cond (Nat.blt cap inf && Nat.ble k cap) (some (Value.slice (some (cond (Nat.beq cap 0) ⟨b,0,none⟩ (far ⟨b,0,none⟩ (Nat.mul 0 ei.size)))) (Nat.sub k 0) (Nat.sub cap 0))) none=_;rw [xV g1,vC qJ];have e0:Nat.mul 0 ei.size=0:=bI _;rw [e0];have e1:far ⟨b,0,none⟩ 0=⟨b,0,none⟩:=rfl;rw [e1];cases Nat.beq cap 0 <;> rfl
 . refine⟨.slice (some ⟨b,0,none⟩) k inf,?_,hw inf (.inr ⟨rfl,rfl,rfl⟩),rfl⟩;unfold xS;rw [hu];dsimp only;rw [hi];dsimp only;have fz:Nat.beq inf inf=true:=aR _;rw [fz];cases hg:zG h b <;> rw[hg]at h3 <;> first|(cases h3;done)|(exact absurd (kd_of h3) qK)|skip
   rename_i c kn z' kd';have q3':some (kn,z',kd')=some (m,zc e sz,1):=h3;simp only[Option.some.injEq,Prod.mk.injEq]at q3';obtain⟨rfl,rfl,rfl⟩:=q3';show cond (Nat.beq (zc e sz) (zc e ei.size) && Nat.ble 1 ei.size) (uP ⟨b,0,none⟩ len ei.size none (some (I64 (k:Nat))) none) none=_;rw [hsz,aR,vC hs];unfold uP;dsimp only[Bool.and_self,cond_true];rw [bound_at hk];show some (Value.slice (some (far ⟨b,0,none⟩ (Nat.mul 0 sz))) (Nat.sub k 0) inf)=_;have e0:Nat.mul 0 sz=0:=bI _;rw [e0];rfl
theorem uX{sT xT m:Nat}{x:Value}{new:List Value}[A:ApC P sT xT e sz]{cx:Cx}{d:List Deferred}{u:Option zK}{K:W->Value->Prop}(r:WayR lo n h v e sz len vs)(hvs:∀y∈vs,y.oneCell'=true)(eE:lo<=n)(hr:Row n h x e sz m new)(hm:0<m)(h1:∀y∈new,y.oneCell'=true)(hlim:len+m<1000000)
(k:∀v' h' n',WayR lo n' h' v' e sz (len+m) (vs++new)->(∀b,zH v'=some b->zH v=some b\/n<=b)->Tch (zH v).toList h n h' n'->K ⟨d,u,h',n'⟩ v'):BuB P cx .append [sT,xT] [v,x] d u h n K:=by
 obtain⟨xd,ei,z0,t1,t2,t3,t4,t5,t6,t7,t8,t9⟩:=apTB_of A.ok;have hnew:new.length=m*sz:=hr.lens;have hZ:xD P h e ei.size xd x=some (m,new):=by rw[t6];exact uK t3 hr
 have iS:=(row_of (r.row qJ)).1;obtain⟨b,bm,z,kd,cap,g1,g2,rfl,g3,g4,g5,g6,g7⟩:=r;show vA P [sT,xT] [.slice (some ⟨b,0,none⟩) len cap,x] h n (λh' n' v'=>wE (K ⟨d,u,h',n'⟩ v'))=true;unfold vA sC;dsimp only;rw [t1,t2];dsimp only;rw [t4,t5];dsimp only;rw [hZ];dsimp only
 have c1:(Nat.beq ei.size 0 || !Nat.beq (cellsOf z0).length ei.size || !Nat.blt (Nat.add len m) 1000000 || !Nat.blt ei.bytes 100000)=false:=by
  have a1:Nat.beq ei.size 0=false:=by
   cases e9:Nat.beq ei.size 0 with
   | false=>rfl
   | true=>have:=zT e9;omega
  have a2:Nat.beq (cellsOf z0).length ei.size=true:=by rw[t7,t6];exact aR _
  rw[a1,a2,xV (show Nat.add len m<1000000 from hlim),xV t9];rfl
 rw[c1]
 have fG:Nat.beq m 0=false:=by
  cases e9:Nat.beq m 0 with
  | false=>rfl
  | true=>have:=zT e9;omega
 rw[fG];show cond (Nat.beq cap inf) _ _=true;have eN:(vs++new).length=(len+m)*sz:=by rw[ah,g4,hnew,bX]
 have inplace:(len+m)*sz<=bm->∀cap',((kd=0/\z=0/\cap'<inf/\len+m<=cap'/\cap'*sz<=bm)\/(kd=1/\cap'=inf/\z=zc e sz))->K ⟨d,u,hst h b (len*sz) new,n⟩ (.slice (some ⟨b,0,none⟩) (len+m) cap'):=λhle cap' hc=>by
  have jw:kd≠3:=by rcases hc with⟨rfl,_⟩|⟨rfl,_⟩ <;> decide
  have fR:len*sz+new.length<=bm:=by rw[hnew,<- bX];exact hle
  refine k _ _ _ ⟨b,bm,z,kd,cap',g1,g2,rfl,?_,eN,by omega,λi hi=>?_,hc⟩ (λb' fg=>.inl fg) ⟨ad _,λb' fg hS=>?_⟩
  . rw[zX,if_pos rfl,sA];exact g3
  . unfold zD;rw [zX,if_pos rfl,cellOf_stC _ _ _ g3 fR jw];by_cases fh:len*sz<=i
    . rw[if_pos (by rw[ah]at hi;omega),ax qJ,g4]
    . rw[if_neg qJ,az qJ];exact g6 i qJ 
  . rw[zX,if_neg (by
     rintro rfl
     exact hS (by simp[zH]))]
 have fresh:∀(c:Tr Value) (gd:zB),(∀i,i<vs.length->Tr.get undef c i=(vs[i]?).getD undef)->(∀b',b'≠b->zG gd b'=zG h b')->K ⟨d,u,hal gd n (.cells (Tr.ofListFrom undef c vs.length new) ((len+m)*sz) (zc e sz) 1),n+1⟩ (.slice (some ⟨n,0,none⟩) (len+m) inf):=λc gd hc hh=>by
  refine k _ _ _ ⟨n,(len+m)*sz,zc e sz,1,inf,eE,be n,rfl,?_,eN,by omega,λi hi=>?_,.inr ⟨rfl,rfl,rfl⟩⟩ (λb' fg=>.inr (by
   injection fg with fg;have fg:n=b':=fg;omega)) ⟨cH n,λb' fg hS=>?_⟩
  . rw[zO,if_pos rfl];rfl
  . unfold zD;rw [zO,if_pos rfl];unfold wR;dsimp only;rw [if_pos qJ,Tr.get_ofListFrom];rw [ah]at hi;by_cases fh:vs.length<=i
    . rw[if_pos qJ,ax fh];simp [aa (show i - vs.length<new.length by omega),aZ]
    . rw[if_neg qJ,hc i qJ,az qJ,aa qJ];rfl
  . rw[zO,if_neg qJ]
    exact hh b' (by
     rintro rfl
     exact hS (by simp[zH]))
 rcases g7 with⟨rfl,rfl,p1,p2,p3⟩|⟨rfl,rfl,rfl⟩
 . have fz:Nat.beq cap inf=false:=by
    cases e9:Nat.beq cap inf with
    | false=>rfl
    | true=>have:=zT e9;omega
   rw[fz];show growEx h n (some ⟨b,0,none⟩) len cap m ei.size (zc e ei.size) new (λv h n=>wE (K ⟨d,u,h,n⟩ v))=true;unfold growEx;by_cases hc:len+m<=cap
   . rw[vC (show Nat.add len m<=cap from hc)];show storeAt h b (Nat.add 0 (Nat.mul len ei.size)) new (λh'=>wE (K ⟨d,u,h',n⟩ (.slice (some ⟨b,0,none⟩) (Nat.add len m) cap)))=true;have e0:Nat.add 0 (Nat.mul len ei.size)=len*sz:=by rw[t6];exact aK _
     rw[e0];have hcm:(len+m)*sz<=bm:=aW (bN _ hc) p3;refine rZ g3 ⟨by decide,by decide⟩ (by rw[hnew,<- bX];exact hcm) h1 ?_;exact isSo_iff.2 (inplace hcm cap (.inl ⟨rfl,rfl,p1,hc,p3⟩))
   . have e1:Nat.ble (Nat.add len m) cap=false:=by
      cases e9:Nat.ble (Nat.add len m) cap with
      | false=>rfl
      | true=>exact absurd (xQ e9) hc
     rw[e1]
     show(match rowOf h ei.size len (.slice (some ⟨b,0,none⟩) len cap) with
      | some old=>xN .lF 0 (old++new) λc=>yD h n (.cells c (Nat.mul (Nat.add len m) ei.size) (zc e ei.size) 1) λh' n'=>wE (K ⟨d,u,h',n'⟩ (.slice (some ⟨n,0,none⟩) (Nat.add len m) inf))
      | none=>false)=true
     rw[t6,iS];dsimp only;refine wG (λy hy=>(aA.1 hy).elim (hvs y) (h1 y)) ?_;rw [wA];have:=fresh (Tr.ofListFrom undef .lF 0 vs) h (λi hi=>by rw[Tr.get_ofListFrom,if_pos qJ];simp [aZ]) (λ_ _=>rfl)
     have e3:Tr.ofListFrom undef (Tr.ofListFrom undef .lF 0 vs) vs.length new=Tr.ofListFrom undef .lF 0 (vs++new):=by
      have:=ofListFrom_append vs .lF 0 new
      rwa [aK]at this
     rw[e3]at this;exact isSo_iff.2 this
 . have fz:Nat.beq inf inf=true:=aR _;rw [fz];show tN h n b len m ei.size (zc e ei.size) new (λv h n=>wE (K ⟨d,u,h,n⟩ v))=true;unfold tN;have g3':=g3;cases hg:zG h b <;> rw[hg]at g3 <;> first|(cases g3;done)|(exact absurd (kd_of g3) qK)|skip
   rename_i c kn z' kd';have q3':some (kn,z',kd')=some (bm,zc e sz,1):=g3;simp only[Option.some.injEq,Prod.mk.injEq]at q3';obtain⟨rfl,rfl,rfl⟩:=q3';show cond (Nat.beq (zc e sz) (zc e ei.size)) _ _=true;have e5:Nat.beq (zc e sz) (zc e ei.size)=true:=by rw[t6];exact aR _
   rw[e5];by_cases hc:(len+m)*sz<=kn
   . rw[vC (show Nat.mul (Nat.add len m) ei.size<=kn by rw[t6];exact hc)];show storeAt h b (Nat.mul len ei.size) new (λh'=>wE (K ⟨d,u,h',n⟩ (.slice (some ⟨b,0,none⟩) (Nat.add len m) inf)))=true;have e0:Nat.mul len ei.size=len*sz:=by rw[t6];rfl
     rw[e0];refine rZ g3' ⟨by decide,by decide⟩ (by rw[hnew,<- bX];exact hc) h1 ?_;exact isSo_iff.2 (inplace hc inf (.inr ⟨rfl,rfl,rfl⟩))
   . have e6:Nat.ble (Nat.mul (Nat.add len m) ei.size) kn=false:=by
      cases e9:Nat.ble (Nat.mul (Nat.add len m) ei.size) kn with
      | false=>rfl
      | true=>have:=xQ e9;rw [t6]at this;exact absurd this hc
     rw[e6];have e7:Nat.mul len ei.size=vs.length:=by rw[t6];exact g4.symm
     rw[e7,vC g5];show xN c vs.length new _=true;refine wG h1 ?_;rw [Tr.setK_eq,wA];have mq:Nat.mul (Nat.add len m) ei.size=(len+m)*sz:=by rw[t6];rfl
     rw[mq];refine isSo_iff.2 (fresh c _ (λi hi=>?_) λb' fg=>?_)
     . have:=g6 i hi;unfold zD at this;rw [hg]at this;unfold wR at this;dsimp only at this;rw [if_pos qJ]at this;rw [<- this];rfl
     . rw[zN,if_neg λe=>fg e.symm]
end
end
section
def Low(nI:Nat)(h:zB)(n:Nat)(h':zB)(n':Nat):Prop:=n<=n'/\∀b,b<nI->zG h' b=zG h b
theorem Tch.lowR{S:List Nat}{h h':zB}{n n' nI:Nat}(t:Tch S h n h' n')(hn:nI<=n)(hS:∀b∈S,nI<=b):Low nI h n h' n':=⟨t.1,λb hb=>t.2 b qJ  λhx=>by have:=hS b hx;omega⟩
section
variable {P:Program} {ng:Nat}
def IterM(P:Program)(ng:Nat){α : Type}(elR: α->Value->zB->Nat->Prop)(elems:List α)(g:FuncId)(args:List Value)(L nI:Nat)(h:zB)(n:Nat)(E:zB->Nat->Prop):Prop:=
 ∀(J:List α->zB->Nat->Prop) (JF:zB->Nat->Prop),(∀done h' n',J done h' n'->E h' n')->(∀done h' n' h2 n2,J done h' n'->Low nI h' n' h2 n2->J done h2 n2)->(∀h' n' h2 n2,JF h' n'->Low nI h' n' h2 n2->JF h2 n2)->J [] h n->
  (∀done e v h' n',J done h' n'->elR e v h' n'->(done++[e]) <+: elems->Rou P ng L [v] h' n' λr h2 n2=>n'<=n2/\((r = .ret (.bool true)/\J (done++[e]) h2 n2/\Tch (List.range nI) h' n' h2 n2)\/(r = .ret (.bool false)/\JF h2 n2/\Tch (List.range nI) h' n' h2 n2)))->
  Com P ng g args h n λr h' n'=>n<=n'/\r = .ret (.tuple #[])/\(J elems h' n'\/JF h' n')
theorem it_coreM[Fit P ng]{α : Type}{elR: α->Value->zB->Nat->Prop}{elems:List α}{ps:List Tmp}{assign body:Code}{fn:FuncId}{l:List (Nat×Value)}{t:Fr}{cx:Cx}{d:List Deferred}{u:Option zK}{h:zB}{n L D nI:Nat}{Q:QX}{g:FuncId}{args:List Value}{E:zB->Nat->Prop}
(I:List α->zB->Nat->Prop)(F:Code->zB->Nat->Prop)(gP:ps.length=1)(it:IterM P ng elR elems g args L nI h n E)(hE:∀done h' n',I done h' n'->E h' n')
(eX:∀done h' n' h2 n2,I done h' n'->Low nI h' n' h2 n2->I done h2 n2)(hclF:∀j h' n' h2 n2,F j h' n'->Low nI h' n' h2 n2->F j h2 n2)(hLI:L<nI)
(hL:zG h L=LoO .ready none fn ps.toArray assign body D (FA l t))(h0:I [] h n)
(bd:∀done e v h' n',I done h' n'->zG h' L=LoO .ready none fn ps.toArray assign body D (FA l t)->elR e v h' n'->(done++[e]) <+: elems->WC P ng assign ⟨fn,some L,false⟩ (FA (parl ps [v] l) t) ⟨[],none,h',n'⟩ (asQ P ng L fn ps.toArray assign body D (FA l t) λr h2 n2=>n'<=n2/\((r = .ret (.bool true)/\zG h2 L=LoO .ready none fn ps.toArray assign body D (FA l t)/\I (done++[e]) h2 n2/\Tch (List.range nI) h' n' h2 n2)\/(r = .ret (.bool false)/\(∃j,zG h2 L=LoO .done (some j) fn ps.toArray assign body D (FA l t)/\F j h2 n2)/\Tch (List.range nI) h' n' h2 n2))))
(fin:∀h' n',n<=n'->I elems h' n'->Q .normal (FA l t) ⟨d,u,hal h' L (LoO .exhausted none fn ps.toArray assign body D (FA l t)),n'⟩)
(finF:∀j h' n',n<=n'->F j h' n'->WC P ng j cx (FA l t) ⟨d,u,hal h' L (LoO .exhausted (some j) fn ps.toArray assign body D (FA l t)),n'⟩ Q) :
 CallB P ng g args h n (rgQ P ng L fn ps.toArray assign body D cx (FA l t) d u Q):=by
 refine cal0 (it (λdone h' n'=>zG h' L=LoO .ready none fn ps.toArray assign body D (FA l t)/\I done h' n') (λh' n'=>∃j,zG h' L=LoO .done (some j) fn ps.toArray assign body D (FA l t)/\F j h' n') (λdone h' n' q=>hE _ _ _ q.2)
  (λdone h' n' h2 n2 q t=>⟨by rw[t.2 L hLI];exact q.1,eX _ _ _ _ _ q.2 t⟩) (λh' n' h2 n2 ⟨j,q1,q2⟩ t=>⟨j,by rw[t.2 L hLI];exact q1,hclF _ _ _ _ _ q2 t⟩) ⟨hL,h0⟩ λdone e v h' n' ⟨q1,q2⟩ he hp=>(rou (args:=[v]) q1 gP (bd done e v h' n' q2 q1 he hp)).mono ?_) ?_
 . rintro r h2 n2 ⟨a,⟨b1,b2,b3,b4⟩|b⟩
   . exact⟨a,.inl ⟨b1,⟨b2,b3⟩,b4⟩⟩
   . exact⟨a,.inr b⟩
 . rintro _ h' n' ⟨hn,rfl,⟨q1,q2⟩|⟨j,q1,q2⟩⟩
   . exact .inl ⟨q1,fin h' n' hn q2⟩
   . exact .inr ⟨j,q1,finF j h' n' hn q2⟩
end
end
section
open Go.RowKit Classical
section
variable {P:Program} {ng:Nat}
def szB(w:World)(b:Nat):Nat:=match w.heap[b]? with|some (.cells cs _ _)=>cs.size|_=>0
def idI(w:World):Inj:=λb=>if b<w.heap.size then some ⟨b,szB w b,0⟩ else none
theorem idI_lt{w:World}{b:Nat}{B:Bl}(h:idI w b=some B):b<w.heap.size/\B=⟨b,szB w b,0⟩:=by
 unfold idI at h;split at h
 . rename_i hb;injection h with h;exact⟨hb,h.symm⟩
 . cases h
theorem idI_of{w:World}{b:Nat}(h:b<w.heap.size):idI w b=some ⟨b,szB w b,0⟩:=if_pos h
def uY(b0:Nat):Value->Value
 | .slice (some _) 0 0=>.slice (some ⟨b0,0,none⟩) 0 0
 | v=>v
noncomputable def tellV(b0:Nat)(w:World)(v:Value):Value:=if RV (idI w) (uY b0 v) v then uY b0 v else undef
noncomputable def tellO(b0:Nat)(w:World)(o:Option Obj):AObj:=match o with
 | some (.cells cs _ _)=>.rows (Tr.ofListFrom undef .lF 0 (cs.toList.map (tellV b0 w))) cs.size
 | _=>.dead
noncomputable def tellH(b0:Nat)(w:World):Nat->zB
 | 0=>.lF
 | k+1=>(tellH b0 w k).set .dead (tellO b0 w w.heap[k]?) k
theorem tellH_get(b0:Nat)(w:World)(k b:Nat):zG (tellH b0 w k) b=if b<k then tellO b0 w w.heap[b]? else .dead:=by
 induction k with
 | zero=>rw [if_neg qJ];exact Tr.get_leaf _ _
 | succ k ih=>
  show zG ((tellH b0 w k).set .dead (tellO b0 w w.heap[k]?) k) b=_;rw [zN,ih];by_cases h:k=b
  . subst h;rw [if_pos rfl,if_pos qJ]
  . rw[if_neg h];by_cases h2:b<k
    . rw[if_pos h2,if_pos qJ]
    . rw[if_neg h2,if_neg qJ]
noncomputable def qH(b0:Nat)(w:World):List (Nat×List Value)->zB
 | []=>tellH b0 w w.heap.size
 | p::r=>(qH b0 w r).set .dead (mkC p.2 0 2) p.1
theorem mirH_get(b0:Nat)(w:World)(tabs:List (Nat×List Value))(b:Nat):(∃p∈tabs,p.1=b/\zG (qH b0 w tabs) b=mkC p.2 0 2)\/zG (qH b0 w tabs) b=if b<w.heap.size then tellO b0 w w.heap[b]? else .dead:=by
 induction tabs with
 | nil=>exact .inr (tellH_get b0 w _ b)
 | cons p r ih=>
  have e:zG (qH b0 w (p::r)) b=if p.1=b then mkC p.2 0 2 else zG (qH b0 w r) b:=zN _ _ _ _
  by_cases h:p.1=b
  . exact .inl ⟨p,aN ..,h,by rw[e,if_pos h]⟩
  . rw[e,if_neg h];rcases ih with⟨q,h1,h2,h3⟩|h1
    . exact .inl ⟨q,aL _ h1,h2,h3⟩
    . exact .inr h1
theorem mir_heapR{b0:Nat}{w:World}{tabs:List (Nat×List Value)}(hng:ng<=w.heap.size)(hw:rY w tabs)(hgood:∀p∈tabs,∀v∈p.2,RV (idI w) v v) :
 HeapR P ng (idI w) w.heap.size w (qH b0 w tabs) w.heap.size w:=by
 refine⟨λb hb=>if_neg qJ,λb B e hl=>?_,λa b A B ea eb _ _ gk=>?_,Below.refl _ _,ad _,λg hg=>⟨_,idI_of qJ,rfl⟩,hng⟩
 . obtain⟨hb,rfl⟩:=idI_lt e;rcases mirH_get b0 w tabs b with⟨p,h1,rfl,h3⟩|h1
   . obtain⟨el,⟨lo,hi⟩,h4⟩:=hw p h1;refine⟨_,h4,?_⟩;have hs:szB w p.1=p.2.length:=by unfold szB;rw [h4];rfl
     rw[h3];refine .cells (by rw[hs];exact ad _) (by rw[hs];rfl) (λ_=>hs.symm) ⟨λh=>by omega,λh=>by omega⟩ (λi v' fh e=>?_) (λh=>absurd rfl h) (λh=>absurd rfl h);rw [Tr.get_ofListFrom,if_pos qJ];have e1:p.2[i]? = some (p.2.getD (i - 0) undef):=by simp[aa fh]
     have e2:p.2[i]? = some v':=by simpa using e
     rw[e1]at e2;injection e2 with e2;subst e2
     exact hgood p h1 _ (aj.2 ⟨i,e1⟩)
   . rw[if_pos hb]at h1;rw [h1]at hl ⊢
     cases ho:w.heap[b]? with
     | none=>rw [ho]at hl;exact absurd rfl hl
     | some o =>
      rw[ho]at hl;refine⟨o,rfl,?_⟩;cases o <;> first|exact absurd rfl hl|skip
      rename_i cs el fr;refine .rows rfl (λi v' e hu=>?_);have hi:i<cs.size:=(bA.1 e).1;have e1:(cs.toList.map (tellV b0 w))[i]? = some (tellV b0 w v'):=by rw[ao,aO,e];rfl
      have e2:Tr.get undef (Tr.ofListFrom undef .lF 0 (cs.toList.map (tellV b0 w))) i=tellV b0 w v':=by
       rw[Tr.get_ofListFrom,if_pos (by simp;exact hi)];simp only[aZ,Nat.sub_zero,e1,Option.getD_some]
      rw[e2]at hu ⊢;unfold tellV at hu ⊢;by_cases hr:RV (idI w) (uY b0 v') v'
      . rw[if_pos hr];exact hr
      . rw[if_neg hr]at hu;cases hu
 . obtain⟨_,rfl⟩:=idI_lt ea;obtain⟨_,rfl⟩:=idI_lt eb;exact gk
theorem mir_tab{b0:Nat}{w:World}{tabs:List (Nat×List Value)}(hd:∀p∈tabs,∀q∈tabs,p.1=q.1->p=q){p:Nat×List Value}(hp:p∈tabs):zG (qH b0 w tabs) p.1=mkC p.2 0 2:=by
 induction tabs with
 | nil=>cases hp
 | cons q r ih=>
  have e:zG (qH b0 w (q::r)) p.1=if q.1=p.1 then mkC q.2 0 2 else zG (qH b0 w r) p.1:=zN _ _ _ _
  rw[e];by_cases h:q.1=p.1
  . rw[if_pos h,hd q (aN ..) p hp h]
  . rw[if_neg h];rcases au.1 hp with rfl|hp
    . exact absurd rfl h
    . exact ih (λa ha b hb=>hd a (aL _ ha) b (aL _ hb)) hp
theorem mir_cell{b0:Nat}{w:World}{tabs:List (Nat×List Value)}(hw:rY w tabs)(gk:∀p∈tabs,∀v∈p.2,uY b0 v=v){b i:Nat}{v:Value}(hc:w.cell? ⟨b,i,none⟩=some v)(hr:RV (idI w) (uY b0 v) v)(hu:isU (uY b0 v)=false) :
 zD (qH b0 w tabs) b i=some (uY b0 v)/\b<w.heap.size/\∃m kd,yC (zG (qH b0 w tabs) b)=some (m,0,kd)/\m=szB w b/\i<m/\kd≠0:=by
 unfold World.cell? at hc;dsimp only at hc;split at hc
 . rename_i cs el fr ho;have hc:cs[i]? = some v:=by simpa using hc
   have hb:b<w.heap.size:=by
    rcases aS b w.heap.size with h1|h1
    . exact h1
    . rw[bG h1]at ho;cases ho
   have hi:i<cs.size:=(bA.1 hc).1;have hs:szB w b=cs.size:=by unfold szB;rw [ho]
   refine⟨?_,hb,?_⟩
   . unfold zD;rcases mirH_get b0 w tabs b with⟨p,h1,rfl,h3⟩|h1
     . obtain⟨el',fr',h4⟩:=hw p h1;rw [ho]at h4;injection h4 with h4;injection h4 with h4 _ _;subst h4
       rw[h3,wW];have hc:p.2[i]? = some v:=by simpa using hc
       rw[gk p h1 v (aj.2 ⟨i,hc⟩)];exact hc
     . rw[h1,if_pos hb,ho];have e1:(cs.toList.map (tellV b0 w))[i]? = some (uY b0 v):=by rw[ao,aO,hc];exact congrArg some (if_pos hr)
       have e2:Tr.get undef (Tr.ofListFrom undef .lF 0 (cs.toList.map (tellV b0 w))) i=uY b0 v:=by
        rw[Tr.get_ofListFrom,if_pos (by simp;exact hi)];simp only[aZ,Nat.sub_zero,e1,Option.getD_some]
       show(if i<cs.size/\isU (Tr.get undef (Tr.ofListFrom undef .lF 0 (cs.toList.map (tellV b0 w))) i)=false then some (Tr.get undef (Tr.ofListFrom undef .lF 0 (cs.toList.map (tellV b0 w))) i) else none)=some (uY b0 v);rw [e2,if_pos ⟨hi,hu⟩]
   . rcases mirH_get b0 w tabs b with⟨p,h1,rfl,h3⟩|h1
     . obtain⟨el',fr',h4⟩:=hw p h1;rw [ho]at h4;injection h4 with h4;injection h4 with h4 _ _;subst h4
       exact⟨_,2,by rw[h3];rfl,hs.symm,hi,by decide⟩
     . exact⟨_,3,by rw[h1,if_pos hb,ho];rfl,hs.symm,hi,by decide⟩
 . cases hc
theorem law_com{f:FuncId}{args args':List Value}{h:zB}{n:Nat}(r:Com P ng f args h n λo _ _=>o = .ret (.bool true))(w:World){ρ : Inj}(hH:HeapR P ng ρ w.heap.size w h n w)(hra:RVs ρ args args') :
 Calls P f ⟨args'⟩ w λe w'=>e = .returned (.bool true)/\Go.RowKit.Below w.heap.size w w':=by
 obtain⟨o,h',n',rfl,hc⟩:=r none;have hx:(loS P ng).call f args false none h n (finV (.bool true))=true:=loS_call.2 ⟨.ret (.bool true),none,h',n',rfl,hc⟩;obtain⟨o,u',h',n',hk,hc⟩:=calls_of sJ hx;obtain rfl:=finV_ret hk;refine(hc ρ w.heap.size w w args' hH hra).mono λe w' ⟨ρ',h1,h2,h3⟩=>?_
 cases e with
 | returned v'=>
  have h3:RV ρ' (.bool true) v':=h3;rw [h3.of_bool];exact⟨rfl,h1.below⟩
 | _=>cases h3
end
end
section
section
variable {P:Program} {ty:Nat} {ox oy:Operand} {a:Nat}
theorem bn_quo64(h:(a:Int)<9223372036854775808):Bn P .quo ty ox oy (I64 (a:Nat)) (I64 64) (I64 ((a / 64:Nat):Int)):=by
 unfold Bn;rw [binI];show cond (ieqB 64 0) none (some (Value.int .i64 (vS .i64 (Int.tdiv (a:Nat) 64))))=_;rw [wQ];show some (Value.int .i64 (vS .i64 (Int.tdiv (a:Nat) 64)))=_
 have e:Int.tdiv ((a:Nat):Int) 64=((a / 64:Nat):Int):=by
  rw[show(64:Int)=((64:Nat):Int) from rfl,Int.ofNat_tdiv]
 rw[e,wrap_in ⟨by omega,by omega⟩]
theorem bn_rem64:Bn P .rem ty ox oy (I64 (a:Nat)) (I64 64) (I64 ((a % 64:Nat):Int)):=by
 unfold Bn;rw [binI];show cond (ieqB 64 0) none (some (Value.int .i64 (Int.tmod (a:Nat) 64)))=_;rw [wQ];show some (Value.int .i64 (Int.tmod (a:Nat) 64))=_
 have e:Int.tmod ((a:Nat):Int) 64=((a % 64:Nat):Int):=by
  rw[show(64:Int)=((64:Nat):Int) from rfl,Int.ofNat_tmod]
 rw[e]
abbrev U64(x:Nat):Value:=.int .u64 ((x:Nat):Int)
theorem wrap_u{x:Nat}(h:x<18446744073709551616):vS .u64 ((x:Nat):Int)=(x:Nat):=by
 rw[wU];show((x:Nat):Int) % 18446744073709551616=_;omega
theorem bn_shl{x m:Nat}(hm:m<64)(h:x*2 ^ m<18446744073709551616):Bn P .shl ty ox oy (U64 x) (I64 (m:Nat)) (U64 (x*2 ^ m)):=by
 show(cond (Nat.blt m 64) (some (Value.int .u64 (vS .u64 (Int.mul (x:Nat) (.ofNat (Nat.pow 2 m)))))) none:Option Value)=_;rw [xV hm];have e:Int.mul ((x:Nat):Int) (.ofNat (Nat.pow 2 m))=((x*2 ^ m:Nat):Int):=rfl;rw [e,wrap_u h];rfl
theorem bn_shl1{m:Nat}(hm:m<64):Bn P .shl ty ox oy (.int .u64 1) (I64 (m:Nat)) (U64 (2 ^ m)):=by
 have h:2 ^ m<18446744073709551616:=dU qK  hm;have:=bn_shl (P:=P) (ty:=ty) (ox:=ox) (oy:=oy) (x:=1) hm qJ;rw [Nat.one_mul]at this;exact this
theorem bn_shr{x m:Nat}(hm:m<64):Bn P .shr ty ox oy (U64 x) (I64 (m:Nat)) (U64 (x >>> m)):=by
 show(cond (Nat.blt m 64) (some (Value.int .u64 (.ofNat (Nat.shiftRight x m)))) none:Option Value)=_;rw [xV hm];rfl
theorem bits_of{op:BinOp}{x y r:Nat}(hx:x<18446744073709551616)(hy:y<18446744073709551616)(he:bitNat op x y=some r):aBits op .u64 ((x:Nat):Int) ((y:Nat):Int)=some (U64 r):=by
 show cond (Nat.blt x 18446744073709551616 && Nat.blt y 18446744073709551616) ((bitNat op x y).map λr=>Value.int .u64 (.ofNat r)) none=_;rw [xV hx,xV hy,he];rfl
theorem bn_and{x y:Nat}(hx:x<18446744073709551616)(hy:y<18446744073709551616):Bn P .and ty ox oy (U64 x) (U64 y) (U64 (x &&& y)):=by
 unfold Bn;rw [binI];exact bits_of hx hy rfl
theorem bn_and1{x:Nat}(hx:x<18446744073709551616):Bn P .and ty ox oy (U64 x) (.int .u64 1) (U64 (x &&& 1)):=bn_and hx qK 
theorem bn_or{x y:Nat}(hx:x<18446744073709551616)(hy:y<18446744073709551616):Bn P .or ty ox oy (U64 x) (U64 y) (U64 (x ||| y)):=by
 unfold Bn;rw [binI];exact bits_of hx hy rfl
theorem bn_andnot{x y:Nat}(hx:x<18446744073709551616)(hy:y<18446744073709551616):Bn P .andNot ty ox oy (U64 x) (U64 y) (U64 (x ^^^ (x &&& y))):=by
 unfold Bn;rw [binI];exact bits_of hx hy rfl
end
end
section
section
variable {P:Program} {ty el:Nat} {ox oy:Operand} {p:Addr} {a b:Bool}
theorem bn_p1[s:UnC P ty (.pointer el)]:Bn P .eql ty ox oy (.pointer (some p)) (.pointer none) (.bool false):=by
 show(match BinOp.eql,und P ty with
  | .eql,some d=>cond (zV ox oy (.pointer (some p)) (.pointer none)) ((vQ d (.pointer (some p)) (.pointer none)).map Value.bool) none
  | .neq,some d=>cond (zV ox oy (.pointer (some p)) (.pointer none)) ((vQ d (.pointer (some p)) (.pointer none)).map λb=>Value.bool (!b)) none
  | _,_=>none:Option Value)=_
 rw[s.ok];rfl
theorem bn_p0[s:UnC P ty (.pointer el)]:Bn P .eql ty ox oy (.pointer none) (.pointer none) (.bool true):=by
 show(match BinOp.eql,und P ty with
  | .eql,some d=>cond (zV ox oy (.pointer none) (.pointer none)) ((vQ d (.pointer none) (.pointer none)).map Value.bool) none
  | .neq,some d=>cond (zV ox oy (.pointer none) (.pointer none)) ((vQ d (.pointer none) (.pointer none)).map λb=>Value.bool (!b)) none
  | _,_=>none:Option Value)=_
 rw[s.ok];rfl
theorem bn_q1[s:UnC P ty (.pointer el)]:Bn P .neq ty ox oy (.pointer (some p)) (.pointer none) (.bool true):=by
 show(match BinOp.neq,und P ty with
  | .eql,some d=>cond (zV ox oy (.pointer (some p)) (.pointer none)) ((vQ d (.pointer (some p)) (.pointer none)).map Value.bool) none
  | .neq,some d=>cond (zV ox oy (.pointer (some p)) (.pointer none)) ((vQ d (.pointer (some p)) (.pointer none)).map λb=>Value.bool (!b)) none
  | _,_=>none:Option Value)=_
 rw[s.ok];rfl
theorem bn_q0[s:UnC P ty (.pointer el)]:Bn P .neq ty ox oy (.pointer none) (.pointer none) (.bool false):=by
 show(match BinOp.neq,und P ty with
  | .eql,some d=>cond (zV ox oy (.pointer none) (.pointer none)) ((vQ d (.pointer none) (.pointer none)).map Value.bool) none
  | .neq,some d=>cond (zV ox oy (.pointer none) (.pointer none)) ((vQ d (.pointer none) (.pointer none)).map λb=>Value.bool (!b)) none
  | _,_=>none:Option Value)=_
 rw[s.ok];rfl
theorem bn_be[s:UnC P ty .bool]:Bn P .eql ty ox oy (.bool a) (.bool b) (.bool (a == b)):=by
 show(match BinOp.eql,und P ty with
  | .eql,some d=>cond (zV ox oy (.bool a) (.bool b)) ((vQ d (.bool a) (.bool b)).map Value.bool) none
  | .neq,some d=>cond (zV ox oy (.bool a) (.bool b)) ((vQ d (.bool a) (.bool b)).map λb=>Value.bool (!b)) none
  | _,_=>none:Option Value)=_
 rw[s.ok];cases a <;> cases b <;> rfl
theorem bn_bn[s:UnC P ty .bool]:Bn P .neq ty ox oy (.bool a) (.bool b) (.bool (a != b)):=by
 show(match BinOp.neq,und P ty with
  | .eql,some d=>cond (zV ox oy (.bool a) (.bool b)) ((vQ d (.bool a) (.bool b)).map Value.bool) none
  | .neq,some d=>cond (zV ox oy (.bool a) (.bool b)) ((vQ d (.bool a) (.bool b)).map λb=>Value.bool (!b)) none
  | _,_=>none:Option Value)=_
 rw[s.ok];cases a <;> cases b <;> rfl
end
section
variable {P:Program} {ty:Nat} {ox oy:Operand} {a:Nat}
theorem bn_quo8(h:(a:Int)<9223372036854775808):Bn P .quo ty ox oy (I64 (a:Nat)) (I64 8) (I64 ((a / 8:Nat):Int)):=by
 unfold Bn;rw [binI];show cond (ieqB 8 0) none (some (Value.int .i64 (vS .i64 (Int.tdiv (a:Nat) 8))))=_;rw [wQ];show some (Value.int .i64 (vS .i64 (Int.tdiv (a:Nat) 8)))=_
 have e:Int.tdiv ((a:Nat):Int) 8=((a / 8:Nat):Int):=by
  rw[show(8:Int)=((8:Nat):Int) from rfl,Int.ofNat_tdiv]
 rw[e,wrap_in ⟨by omega,by omega⟩]
end
theorem lka_lent{P:Program}{l:List (Nat×Value)}{t:Fr}{ty:Nat}{x:Operand}{a:List UInt8}{h:zB}[s:UnC P ty .string](e:evb l t x=str a):LkA P (.call ⟨.builtin .len,[x].toArray,[ty].toArray⟩) (FA l t) (I64 (a.length:Nat)) h:=by
 show quietB P .len [ty] [ev (FA l t) x] h=_;rw [xA,e];exact len_txt
end
section
theorem Cel.cell{h:zB}{b z kd i:Nat}{vs:List Value}{v:Value}(c:Cel h b z kd vs)(e:vs[i]? = some v):zD h b i=some v:=(c.2 i).trans e
theorem iad_sl{sz b off len cap j:Nat}{k:IntKind}(h:j<len):Iad sz (.slice (some ⟨b,off,none⟩) len cap) (.int k (j:Nat)) (.pointer (some ⟨b,off+j*sz,none⟩)):=⟨b,off,len,cap,k,j,rfl,rfl,h,rfl⟩
theorem ixv_0{P:Program}{ty:Nat}[UnC P ty .string]{a:List UInt8}{k:IntKind}{b:UInt8}(hb:a[0]? = some b):Ixv P ty (str a) (.int k 0) (.int .u8 (b.toNat:Nat)):=ixv_str (i:=0) hb
theorem iad_0{lo:Nat}{h:zB}{v:Value}{e sz len:Nat}{vs:List Value}{k:IntKind}(r:Row lo h v e sz len vs)(hi:0<len):Iad sz v (.int k 0) (.pointer (some ⟨sbk v,sof v+0*sz,none⟩)):=iad_rw (i:=0) r hi
theorem iad_1{lo:Nat}{h:zB}{v:Value}{e sz len:Nat}{vs:List Value}{k:IntKind}(r:Row lo h v e sz len vs)(hi:1<len):Iad sz v (.int k 1) (.pointer (some ⟨sbk v,sof v+1*sz,none⟩)):=iad_rw (i:=1) r hi
theorem nT{z:Bool}(h:z=false):(!z)=true:=by rw[h];rfl
theorem nF{z:Bool}(h:z=true):(!z)=false:=by rw[h];rfl
structure VBox where
 v:Value
noncomputable def lkB(l:List (Nat×Value))(t:Fr)(i:Nat):VBox:=match l with
 | []=>⟨fget t i⟩
 | (j,v)::r=>bif Nat.beq j i then⟨v⟩ else lkB r t i
theorem lkB_eq(l:List (Nat×Value))(t:Fr)(i:Nat):lkB l t i=⟨lk l t i⟩:=by
 induction l with
 | nil=>rfl
 | cons p r ih=>
  show(bif Nat.beq p.1 i then(⟨p.2⟩:VBox) else lkB r t i)=⟨bif Nat.beq p.1 i then p.2 else lk r t i⟩;rw [ih];cases Nat.beq p.1 i <;> rfl
noncomputable def evbB(l:List (Nat×Value))(t:Fr)(x:Operand):VBox:=match x with
 | .tmp i=>lkB l t i
 | .const v=>⟨v⟩
 | .global g=>⟨.pointer (some ⟨g,0,none⟩)⟩
 | .func f=>⟨.func (.func f) #[] #[]⟩
theorem qB{l:List (Nat×Value)}{t:Fr}{i:Nat}{v:Value}(h:lkB l t i=⟨v⟩):lk l t i=v:=by rw[lkB_eq]at h;injection h
theorem sL{l:List (Nat×Value)}{t:Fr}{x:Operand}{v:Value}(h:evbB l t x=⟨v⟩):evb l t x=v:=by
 cases x with
 | tmp i=>exact qB h
 | const w=>injection h
 | global g=>injection h
 | func g=>injection h
theorem bx_one{v:Value}(e:v.oneCell'=true):Bx v [v]:=⟨by cases v <;> first|rfl|(cases e;done),e,trivial⟩
theorem bx_row{lo:Nat}{h:zB}{v:Value}{e sz len:Nat}{vs:List Value}(r:Row lo h v e sz len vs):Bx v [v]:=bx_one r.one
theorem zE{h:zB}{b z kd:Nat}{vs:List Value}(c:Cel h b z kd vs:=by
 repeat' first
  | with_reducible assumption
  | with_reducible exact cel_hal _ _ _ _ _
  | with_reducible apply Cel.put
  | with_reducible apply Cel.hal
  | with_reducible apply Cel.hst
  | ((with_reducible apply Cel.tcm);(focus (with_reducible assumption)))
  | decide
  | omega
  | (simp;done)
  | (simp;omega)):Cel h b z kd vs:=c
theorem Cel.as{h:zB}{b z kd:Nat}{vs vs':List Value}(c:Cel h b z kd vs')(e:vs'=vs):Cel h b z kd vs:=e ▸ c
theorem zC{h:zB}{b z kd:Nat}{vs:List Value}(c:Cel h b z kd vs:=by(apply Cel.as;(focus exact zE);exact rfl)):Cel h b z kd vs:=c
theorem cat_ask{h:zB}{b i:Nat}{v:Value}(c:zD h b i=some v:=by
 repeat' first
  | with_reducible assumption
  | with_reducible apply cat_hal
  | with_reducible apply cat_hst
  | ((with_reducible apply cat_tch);(focus (with_reducible assumption)))
  | omega
  | (simp;done)
  | (simp;omega)):zD h b i=some v:=c
theorem vX{h:zB}{L:Nat}{o:AObj}(c:zG h L=o:=by
 repeat' first
  | with_reducible assumption
  | with_reducible exact xO
  | with_reducible apply obe_hal
  | with_reducible apply obe_hst
  | ((with_reducible apply obe_tch);(focus (with_reducible assumption)))
  | omega
  | (simp;done)
  | (simp;omega)):zG h L=o:=c
theorem zJ{h:zB}{b i:Nat}{v:Value}(c:zD h b i=some v:=by first|(with_reducible assumption)|(apply Cel.cell;(focus exact zE);exact rfl)|exact cat_ask):zD h b i=some v:=c
theorem ld1_of{h:zB}{b o:Nat}{v:Value}(e:zD h b o=some v):Ld1 h (.pointer (some ⟨b,o,none⟩)) v:=⟨b,o,rfl,e⟩
theorem ldN_of{h:zB}{b o k:Nat}{vs:List Value}(h0:0<k)(e:Rd h b o k vs):LdN h (.pointer (some ⟨b,o,none⟩)) k vs:=⟨b,o,rfl,h0,e⟩
theorem rd_nil{h:zB}{b o:Nat}:Rd h b o 0 []:=rfl
theorem vF{h:zB}{b o k:Nat}{v:Value}{r:List Value}(e:zD h b o=some v)(f:Rd h b (o+1) k r):Rd h b o (k+1) (v::r):=⟨v,r,rfl,e,f⟩
theorem fad_of{o b off:Nat}:Fad o (.pointer (some ⟨b,off,none⟩)) (.pointer (some ⟨b,off+o,none⟩)):=⟨b,off,rfl,rfl⟩
theorem gv_of{all:Array Oper}{l:List (Nat×Value)}{t:Fr}{g i:Nat}{b z:Bool}(h:dstOf all g=some i)(e:lk l t i = .bool z):Gv all l t g b z:=⟨i,h,.inl e⟩
theorem gv_uT{all:Array Oper}{l:List (Nat×Value)}{t:Fr}{g i:Nat}(h:dstOf all g=some i)(e:lk l t i=undef):Gv all l t g true false:=⟨i,h,.inr ⟨e,rfl⟩⟩
theorem gv_uF{all:Array Oper}{l:List (Nat×Value)}{t:Fr}{g i:Nat}(h:dstOf all g=some i)(e:lk l t i=undef):Gv all l t g false true:=⟨i,h,.inr ⟨e,rfl⟩⟩
theorem evs_nil{l:List (Nat×Value)}{t:Fr}:Evs l t [] []:=rfl
theorem evs_cons{l:List (Nat×Value)}{t:Fr}{x:Operand}{v:Value}{xs:List Operand}{vs:List Value}(e:evb l t x=v)(f:Evs l t xs vs):Evs l t (x::xs) (v::vs):=⟨v,vs,rfl,e,f⟩
theorem evp_nil{l:List (Nat×Value)}{t:Fr}:Evp l t [] []:=rfl
theorem evp_cons{l:List (Nat×Value)}{t:Fr}{i:Nat}{x:Operand}{v:Value}{xs:List (Nat×Operand)}{vs:List (Nat×Value)}(e:evb l t x=v)(f:Evp l t xs vs):Evp l t ((i,x)::xs) ((i,v)::vs):=⟨v,vs,rfl,e,f⟩
theorem evo_none{l:List (Nat×Value)}{t:Fr}:Evo l t none none:=rfl
theorem evo_some{l:List (Nat×Value)}{t:Fr}{x:Operand}{v:Value}(e:evb l t x=v):Evo l t (some x) (some v):=⟨v,rfl,e⟩
theorem stN_of{h:zB}{b o z kd k:Nat}{vs ws:List Value}(c:Cel h b z kd vs)(hk:kd≠2/\kd≠3)(ho:o+ws.length<=vs.length)(h1:One ws)(hl:ws.length=k):StP' h (.pointer (some ⟨b,o,none⟩)) ws k (hst h b o ws):=⟨StP.of c hk ho h1,hl⟩
theorem bx_of{v:Value}{cs:List Value}(e:cellsOf v=cs)(f:One cs):Bx v cs:=⟨e,f⟩
theorem one_nil:One []:=trivial
theorem one_cons{x:Value}{r:List Value}(e:x.oneCell'=true)(f:One r):One (x::r):=⟨e,f⟩
theorem ex1_of{i:Nat}{vs:List Value}{v:Value}(e:vs[i]? = some v):Ext1 i (.tuple ⟨vs⟩) v:=⟨vs,rfl,e⟩
theorem rs_nil{P:Program}{l:List (Nat×Value)}{t:Fr}{h:zB}:Rs P l t h [] []:=rfl
theorem rs_tmp{P:Program}{l:List (Nat×Value)}{t:Fr}{h:zB}{i:Nat}{r:List ResultVar}{v:Value}{vs:List Value}(e:lk l t i=v)(f:Rs P l t h r vs):Rs P l t h (.tmp i::r) (v::vs):=⟨v,vs,rfl,e,f⟩
theorem rs_cell{P:Program}{l:List (Nat×Value)}{t:Fr}{h:zB}{i ty:Nat}[s:ShC P ty .scal]{r:List ResultVar}{p v:Value}{vs:List Value}(e:lk l t i=p)(g:Ld1 h p v)(f:Rs P l t h r vs):Rs P l t h (.cell i ty::r) (v::vs):=by
 obtain⟨b,o,rfl,g⟩:=g;exact⟨v,vs,rfl,by rw[e];exact load_scal s.ok g,f⟩
theorem rd_any{h:zB}{b o k:Nat}{vs:List Value}(c:Rd h b o k vs:=by repeat' first|(with_reducible assumption)|exact rd_nil|(apply vF;(focus exact zJ))):Rd h b o k vs:=c
 class IsOb (G:Prop) {α : outParam Type} (A K:outParam (α->Prop)):Prop where ok:Ob A K->G
instance {α : Type} {A K: α->Prop}:IsOb (Ob A K) A K:=⟨id⟩
 class IsCh (G:Prop) (z:outParam Bool) (A B:outParam Prop):Prop where ok:Ch z A B->G
instance {z:Bool} {A B:Prop}:IsCh (Ch z A B) z A B:=⟨id⟩
theorem ob{G:Prop}{α : Type}{A K: α->Prop}[s:IsOb G A K]{a: α}(k:K a)(h:A a:=by first
 | ((with_reducible show Ev _ _ _ _) <;> (show evb _ _ _=_) <;> (apply sL) <;> ((conv=>lhs;whnf) <;> exact rfl))
 | ((with_reducible apply ld1_of);focus first|(with_reducible assumption)|(apply Cel.cell;(focus exact zE);exact rfl)|exact cat_ask)
 | with_reducible exact fad_of
 | (with_reducible show Bn _ _ _ _ _ _ _ _) <;> with_reducible first|exact bn_eq|exact bn_ne|exact bn_lt|exact bn_le|exact bn_gt|exact bn_ge|exact bs_eq|exact bs_ne|(apply bn_add;omega)|(apply bn_sub;omega)|exact bn_subu|(apply bn_quo64;omega)|exact bn_rem64|(apply bn_shl1;omega)|(apply bn_shr;omega)|(apply bn_and1;assumption)|(apply bn_and <;> assumption)|exact bn_p1|exact bn_q1|exact bn_p0|exact bn_q0|exact bn_be|exact bn_bn|(apply bn_quo8;omega)|(apply bn_or <;> assumption)|(apply bn_andnot <;> assumption)|exact bn_if1|exact bn_if0|exact bn_c|exact bn_s0|exact bn_s1|assumption
 | ((with_reducible apply gv_of);(focus exact rfl);focus ((conv=>lhs;whnf) <;> exact rfl))
 | ((with_reducible apply gv_uT);(focus exact rfl);focus ((conv=>lhs;whnf) <;> exact rfl))
 | ((with_reducible apply gv_uF);(focus exact rfl);focus ((conv=>lhs;whnf) <;> exact rfl))
 | ((with_reducible show Evs _ _ _ _) <;> repeat' first|exact evs_nil|apply evs_cons|(apply sL;((conv=>lhs;whnf) <;> exact rfl)))
 | ((with_reducible apply bx_one);(with_reducible assumption))
 | ((with_reducible apply bx_row);(with_reducible assumption))
 | ((with_reducible apply bx_of) <;> repeat' first|exact one_nil|(apply one_cons;(focus first|exact rfl|(with_reducible assumption)))|((conv=>lhs;whnf) <;> exact rfl))
 | ((with_reducible apply StP.of);(focus exact zE);(focus exact⟨by decide,by decide⟩);(focus first|decide|(simp;done)|(simp;omega));focus repeat' first|exact one_nil|(apply one_cons;(focus first|exact rfl|(with_reducible assumption))))
 | ((with_reducible apply iad_sl);omega)
 | ((with_reducible apply iad_rw);(focus (with_reducible assumption));omega)
 | ((with_reducible apply iad_0);(focus (with_reducible assumption));omega)
 | ((with_reducible apply iad_1);(focus (with_reducible assumption));omega)
 | ((with_reducible apply iad_rwI);(focus (with_reducible assumption));(focus omega);omega)
 | ((with_reducible apply len_rw);(with_reducible assumption))
 | ((with_reducible apply ldN_of);(focus decide);(focus (with_reducible assumption)))
 | ((with_reducible apply ldN_of) <;> repeat' first|decide|exact rd_nil|(apply vF;focus first|(with_reducible assumption)|(apply Cel.cell;(focus exact zE);exact rfl)|exact cat_ask))
 | ((with_reducible apply ex1_of);exact rfl)
 | ((with_reducible show Rs _ _ _ _ _ _) <;> repeat' first|exact rs_nil|(apply rs_tmp;(focus (apply qB;((conv=>lhs;whnf) <;> exact rfl))))|(apply rs_cell;(focus (apply qB;((conv=>lhs;whnf) <;> exact rfl)));focus ((with_reducible apply ld1_of);focus first|(with_reducible assumption)|(apply Cel.cell;(focus exact zE);exact rfl)|exact cat_ask)))
 | with_reducible exact cv_int
 | with_reducible exact bd_c
 | with_reducible exact bs_c
 | ((with_reducible apply ixv_str);(with_reducible assumption))
 | ((with_reducible apply ixv_0);(with_reducible assumption))
 | with_reducible exact len_slc
 | with_reducible exact len_txt
 | with_reducible exact bi_app
 | with_reducible exact bi_rec
 | ((with_reducible show Evp _ _ _ _) <;> repeat' first|exact evp_nil|apply evp_cons|(apply sL;((conv=>lhs;whnf) <;> exact rfl)))
 | with_reducible exact evo_none
 | with_reducible exact fnv_of
 | with_reducible exact ifv_of
 | with_reducible exact tya_hit
 | ((with_reducible apply evo_some);focus (apply sL;((conv=>lhs;whnf) <;> exact rfl)))
 | (with_reducible assumption)
 | ((with_reducible apply stN_of);(focus exact zE);(focus exact⟨by decide,by decide⟩);(focus first|decide|(simp;done)|(simp;omega));(focus repeat' first|exact one_nil|(apply one_cons;(focus first|exact rfl|(with_reducible assumption))));exact rfl)
 | ((with_reducible show Wh (_++(_++_)) _) <;> (show _=_) <;> ((conv=>lhs;simp only[bF,cd,bS]) <;> exact rfl))
 | ((with_reducible show Wh _ _) <;> (show _=_) <;> ((conv=>lhs;whnf) <;> exact rfl))):G:=s.ok ⟨a,h,k⟩
theorem nTF:(!false)=true:=rfl
theorem nFT:(!true)=false:=rfl
theorem dT{p:Prop}{i:Decidable p}(h:p):@decide p i=true:=decide_eq_true h
theorem dG{p:Prop}{i:Decidable p}(h:p->False):@decide p i=false:=decide_eq_false h
theorem dF{p:Prop}{i:Decidable p}(h:¬p):@decide p i=false:=decide_eq_false h
 class IsOb1 (G:Prop) (A K:outParam Prop):Prop where ok:Ob1 A K->G
instance {A K:Prop}:IsOb1 (Ob1 A K) A K:=⟨id⟩
theorem ob1{G A K:Prop}[s:IsOb1 G A K](k:K)(h:A:=by first
 | ((with_reducible show RgE _ _ _ _) <;> (show regOf _ _ _=_) <;> kernel_rfl)
 | with_reducible exact lks_nil
 | ((with_reducible show LksOK _ _ _ _) <;> repeat' first|with_reducible exact lks_nil|((with_reducible apply lks_off);(focus exact rfl))|((with_reducible apply lks_nw);(focus exact vX))|with_reducible apply lks_lk|((with_reducible apply lka_ldN);(focus ((conv=>lhs;whnf) <;> exact rfl));(focus decide);(focus first|with_reducible assumption|exact rd_any))|((with_reducible apply lka_lent);(focus (apply sL;((conv=>lhs;whnf) <;> exact rfl))))|((with_reducible apply lka_len);(focus (apply sL;((conv=>lhs;whnf) <;> exact rfl)));(focus (with_reducible assumption)))|((with_reducible apply lka_ld1);(focus ((conv=>lhs;whnf) <;> exact rfl));(focus first|(with_reducible assumption)|(apply Cel.cell;(focus exact zE);exact rfl)|exact cat_ask)))
 | ((with_reducible show ObE _ _ _) <;> (show zG _ _=_) <;> exact vX)
 | ((with_reducible show Clt _ _) <;> (show zG _ _=_) <;> exact vX)
 | with_reducible exact rfl
 | assumption):G:=s.ok ⟨h,k⟩
instance {A B:Prop}:Stp (Ch true A B) A:=⟨λh=>⟨λ_=>h,λe=>Bool.noConfusion e⟩⟩
instance {A B:Prop}:Stp (Ch false A B) B:=⟨λh=>⟨λe=>Bool.noConfusion e,λ_=>h⟩⟩
theorem cT{G:Prop}{z:Bool}{A B:Prop}[s:IsCh G z A B](k:A)(h:z=true:=by with_reducible first
 | assumption
 | exact nTF
 | (apply dT;first|assumption|omega|exact rfl)
 | (apply nT;first|assumption|(apply dF;first|assumption|omega))):G:=s.ok ⟨λ_=>k,λe=>Bool.noConfusion (h.symm.trans e)⟩
theorem cF{G:Prop}{z:Bool}{A B:Prop}[s:IsCh G z A B](k:B)(h:z=false:=by with_reducible first
  | assumption
  | exact nFT
  | (apply dF;first|assumption|omega)
  | (apply dG;intro hh;cases hh;done)
  | (apply nF;first|assumption|(apply dT;first|assumption|omega))):G:=s.ok ⟨λe=>Bool.noConfusion (h.symm.trans e),λ_=>k⟩
 class Pr2 (z:Bool) (p q:outParam Prop):Prop where ok:(z=true->p)/\(z=false->q)
instance (priority:=low) {z:Bool}:Pr2 z (z=true) (z=false):=⟨⟨id,id⟩⟩
instance {z:Bool}:Pr2 (!z) (z=false) (z=true):=⟨by cases z <;> simp⟩
instance {p:Prop} {_i:Decidable p}:Pr2 (decide p) p (¬p):=⟨⟨of_decide_eq_true,of_decide_eq_false⟩⟩
instance {p:Prop} {_i:Decidable p}:Pr2 (!decide p) (¬p) p:=⟨by by_cases h:p <;> simp[h]⟩
theorem cX{z:Bool}{A B p q:Prop}[s:Pr2 z p q](k:p->A)(j:q->B):Ch z A B:=⟨λe=>k (s.ok.1 e),λe=>j (s.ok.2 e)⟩
theorem wk{G C:Prop}(k:C)(h:C->G:=by first|exact λk=>st k|exact λk=>ob k|exact λk=>ob1 k|exact λk=>cT k|exact λk=>cF k|exact λk=>calC k|fail):G:=h k
end
end Go.Ex
