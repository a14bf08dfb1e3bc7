/- What the law leans on, part 11 of 24. Conditions: those that each theorem states. -/
import Derived.Test.YtdiejolnllipnaaGreatDoorMachPrintsx10
import Derived.Test.YtdiejolnllipnaaGreatDoorMachPrintsx8
import Derived.ChangeArms
import Derived.ProofKit

set_option linter.unusedVariables false
set_option linter.unusedSimpArgs false
namespace Go.Proofs.YtdiejolnllipnaaGreatDoor
open Go Go.Ex Go.Ex.M Go.RowKit
set_option maxRecDepth 100000
section
section
variable {H:Type} {enc:TypeId×Value->H} {W:World} {b0:Nat} {tabs:List (Nat×List Value)}
theorem go_of{a:Int}(w:(Lit.int .i64 a).wf=true):uT a:=by
 unfold Lit.wf at w;rw [bu]at w;have e1:IntKind.i64.min = -9223372036854775808:=by decide
 have e2:IntKind.i64.max=9223372036854775807:=by decide
 have h1:=of_decide_eq_true w.1;have h2:=of_decide_eq_true w.2;rw [e1]at h1;rw [e2]at h2;exact⟨h1,by omega⟩
def ElF(enc:TypeId×Value->H)(W:World)(fuel:Nat)(t:TypeId)(cs:List Value):Prop:=∃x,DataW.trod enc P W 0 (λ_=>true) true fuel t cs=some x/\∀y∈x.1.weights P t,y<=reachBytes
def Told(b0:Nat)(W:World)(v:Value):Prop:=RV (idI W) (uY b0 v) v/\isU (uY b0 v)=false
theorem rE{k:Nat}{cs:List Value}(h:ElF enc W k 3 cs):∃n:Int,cs=[I64 n]/\uT n:=by
 obtain⟨x,hx,-⟩:=h;obtain⟨n,h1,-,h3⟩:=DataW.trod_int Tryz.underlying3 hx;exact⟨n,h1,go_of h3⟩
theorem qC{k:Nat}{cs:List Value}(h:ElF enc W k 9 cs):∃s:Tx,cs=[str s]/\s.length<wM:=by
 obtain⟨x,hx,hw⟩:=h;obtain⟨s,h1,h2,h3⟩:=DataW.trod_string Tryz.underlying9 hx;subst h2;have h4:s.data.toList.length<=reachBytes:=hw _ (by simp[DataW.weights]);have h5:reachBytes<wM:=by decide
 exact⟨s.data.toList,h1,by omega⟩
theorem sM{ts:List TypeId}{ds:List (DataW H)}{i:Nat}{t:TypeId}{d:DataW H}(h1:ts[i]? = some t)(h2:ds[i]? = some d){y:Nat}(hy:y∈d.weights P t):y∈DataW.weightsEach P ts ds:=by
 induction ts generalizing ds i with
 | nil=>simp at h1
 | cons a r ih => cases ds with
  | nil=>simp at h2
  | cons b s=>
   unfold DataW.weightsEach
   cases i with
   | zero=>simp at h1 h2;subst h1 h2;exact cg _ hy
   | succ i=>exact bQ _ (ih (by simpa using h1) (by simpa using h2))
theorem weightsAll_get{t:TypeId}{ds:List (DataW H)}{d:DataW H}(h2:d∈ds){y:Nat}(hy:y∈d.weights P t):y∈DataW.weightsAll P t ds:=by
 induction ds with
 | nil=>cases h2
 | cons b s ih=>
  unfold DataW.weightsAll;rcases au.1 h2 with rfl|h2
  . exact cg _ hy
  . exact bQ _ (ih h2)
theorem uU{k:Nat}{t:TypeId}{fs:Array Field}(ht:P.underlying t=some (.struct fs)){cs:List Value}(h:ElF enc W k t cs) :
 cs.length=P.cellsOf t/\∃n,k=n+1/\∀(i:Nat) (f:Field),fs[i]? = some f->ElF enc W n f.type ((cs.drop f.offset).take (P.cellsOf f.type)):=by
 obtain⟨x,hx,hw⟩:=h
 have hk:∃n,k=n+1:=by
  cases k with
  | zero=>simp [DataW.trod]at hx
  | succ n=>exact⟨n,rfl⟩
 obtain⟨n,rfl⟩:=hk;obtain⟨xs,n',h1,h2,h3,h4,h5⟩:=DataW.trod_struct ht hx;obtain rfl:n=n':=by omega
 subst h2;refine⟨h3,n,rfl,λi f hf=>?_⟩;have hi:i<xs.length:=by rw[h4];exact(bA.1 hf).1
 refine⟨xs[i],by rw[h5 i f hf,aa hi],λy hy=>hw y ?_⟩;dsimp only;unfold DataW.weights;simp only[ht];exact sM (i:=i) (t:=f.type) (d:=xs[i].1) (by simp[hf]) (by simp[aa hi]) hy
theorem cells_get{w:World}{base:Nat}{a:Addr}{n:Nat}{l:List Value}(h:w.cells? base a n=some l):l.length=n/\∀i,i<n->w.cell? (a.add i)=l[i]? :=by
 unfold World.cells? at h;split at h
 . refine⟨by simpa using mapM_some_length h,λi hi=>mapM_some_get h i i (by simp[hi])⟩
 . cases h
theorem add_none(b o k:Nat):(⟨b,o,none⟩:Addr).add k=⟨b,o+k,none⟩:=by
 unfold Addr.add;split
 . subst_vars;rfl
 . rfl
theorem spot_none{w:World}{a:Addr}{v:Value}(h:w.cell? a=some v):a.spot=none:=by
 obtain⟨b,o,s⟩:=a;unfold World.cell? at h;split at h
 . cases s with
   | none=>rfl
   | some x=>rw [if_pos (by rfl)]at h;cases h
 . cases h
theorem mir_info(hw:rY W tabs){b i:Nat}{v:Value}(hc:W.cell? ⟨b,i,none⟩=some v) :
 b<W.heap.size/\∃kd,yC (zG (qH b0 W tabs) b)=some (szB W b,0,kd)/\i<szB W b/\kd≠0:=by
 unfold World.cell? at hc;dsimp only at hc;split at hc
 . rename_i cs el fr ho;have hc:cs[i]? = some v:=by simpa using hc
   have hb:b<W.heap.size:=by
    rcases aS b W.heap.size with h1|h1
    . exact h1
    . rw[bG h1]at ho;cases ho
   have hi:i<cs.size:=(bA.1 hc).1;have hs:szB W b=cs.size:=by unfold szB;rw [ho]
   refine⟨hb,?_⟩;rcases mirH_get b0 W tabs b with⟨p,h1,rfl,h3⟩|h1
   . obtain⟨el',fr',h4⟩:=hw p h1;rw [ho]at h4;injection h4 with h4;injection h4 with h4 _ _;subst h4
     exact⟨2,by rw[h3,hs];rfl,by rw[hs];exact hi,by decide⟩
   . exact⟨3,by rw[h1,if_pos hb,ho,hs];rfl,by rw[hs];exact hi,by decide⟩
 . cases hc
theorem rowAt_flat{b sz:Nat}{h:zB}:∀{ess:List (List Value)} {off:Nat},(∀(j:Nat) c,ess[j]? = some c->c.length=sz/\∀(k:Nat) x,c[k]? = some x->zD h b (off+(j*sz+k))=some (uY b0 x))->Go.Ex.rowAt h b off (ess.flatten.map (uY b0)):=by
 intro ess
 induction ess with
 | nil=>intro off _;exact Go.Ex.rowAt.nil _ _ _
 | cons c r ih =>
  intro off hc;obtain⟨c1,c2⟩:=hc 0 c rfl
  have hr:=ih (off:=off+sz) λj c' hj=>⟨(hc (j+1) c' (by simpa using hj)).1,λk x hk=>by
   have:=(hc (j+1) c' (by simpa using hj)).2 k x hk;rw [show off+sz+(j*sz+k)=off+((j+1)*sz+k) by rw[cL];omega];exact this⟩
  intro q v hq;rw [List.flatten_cons,aC]at hq;by_cases eD:q<c.length
  . rw[az (by simpa using eD),ao,aa eD]at hq;obtain rfl:uY b0 c[q]=v:=by simpa using hq
    have:=c2 q _ (aa eD);rw [show off+(0*sz+q)=off+q by omega]at this;exact this
  . rw[ax qM,aD]at hq;have:=hr (q - c.length) v hq;rw [show off+sz+(q - c.length)=off+q by omega]at this;exact this
theorem flen_of{sz:Nat}(l:List (List Value))(h:∀c∈l,c.length=sz):l.flatten.length=l.length*sz:=by
 induction l with
 | nil=>simp
 | cons c r ih=>rw [List.flatten_cons,ah,ih λc hc=>h c (aL _ hc),h c (aN ..),ay,cL];omega
theorem absV_cap{a:Option Addr}{l c:Nat}(h:c≠0):uY b0 (.slice a l c) = .slice a l c:=by
 cases a with
 | none=>rfl
 | some a =>
  cases l with
  | succ l=>rfl
  | zero=>cases c with
   | zero=>exact absurd rfl h
   | succ c=>rfl
abbrev H0(b0:Nat)(W:World)(tabs:List (Nat×List Value)):Prop:=(rY W tabs/\∀p∈tabs,∀v∈p.2,uY b0 v=v)/\∃m z kd,yC (zG (qH b0 W tabs) b0)=some (m,z,kd)/\b0<W.heap.size
theorem rF{t e:TypeId}{sz:Nat}{fu:Nat}(h0:H0 b0 W tabs)
(ht:P.underlying t=some (.slice e))(hsz:P.cellsOf e=sz)(h1:1<=sz)(hby:1<=P.bytesOf e)(hE:∀n c,fu=n+1->ElF enc W n e c->c.length=sz/\∀v∈c,Told b0 W v){cs:List Value}(h:ElF enc W fu t cs) :
 ∃(v:Value) (ess:List (List Value)),cs=[v]/\Told b0 W v/\(∀c∈ess,∃n,fu=n+1/\ElF enc W n e c)/\RowA W.heap.size (qH b0 W tabs) (uY b0 v) sz ess.length (ess.flatten.map (uY b0))/\ess.length<wM:=by
 obtain⟨x,hx,hwt⟩:=h;rcases DataW.trod_slice ht hx with⟨rfl,-⟩|⟨a,len,cap,elems,rest,n,rfl,rfl,rfl,hb,hlc,hcm,hel,hg,hsp,-⟩
 . exact⟨_,[],rfl,⟨.nilSlice 0 0 qK,rfl⟩,λ_ h=>(by cases h),λ_=>.inl ⟨rfl,rfl,rfl⟩,by decide⟩
 obtain⟨lB,hrg⟩:=hsp rfl;unfold DataW.weights at hwt;simp only[ht]at hwt
 have fq:cap<wM:=by
  have q1:=hwt _ (aN ..);simp only[aD]at q1;have q2:=Nat.le_mul_of_pos_right (elems.length+rest.length) hby
  have h5:reachBytes<wM:=by decide
  omega
 have eM:cap<inf:=by
  have:wM<inf:=by decide
  omega
 have eH:∀j,j<cap->∃c,W.cells? 0 (a.add (j*sz)) sz=some c/\ElF enc W n e c:=by
  intro j hj;rw [hsz]at hg hrg;by_cases eD:j<len
  . have q:=hg j eD;rw [aa qJ]at q;obtain⟨c,q1,q2⟩:=Option.bind_eq_some_iff.1 q;exact⟨c,q1,_,q2,λy hy=>hwt y (aL _ (cg _ (weightsAll_get (aB.2 ⟨_,aM qJ,rfl⟩) hy)))⟩
  . have q:=hrg (j - len) qJ;rw [aa qJ,show len+(j - len)=j by omega]at q;obtain⟨c,q1,q2⟩:=Option.bind_eq_some_iff.1 q;exact⟨c,q1,_,q2,λy hy=>hwt y (aL _ (bQ _ (weightsAll_get (aB.2 ⟨_,aM qJ,rfl⟩) hy)))⟩
 by_cases io:cap=0
 . subst io;obtain rfl:len=0:=by omega
   obtain⟨_,m,z,kd,i1,i3⟩:=h0;exact⟨_,[],rfl,⟨.slice0 (idI_of i3) a,rfl⟩,λ_ h=>(by cases h),λ_=>.inr ⟨b0,0,0,m,z,kd,i3,rfl,by simp,i1,by simp,Go.Ex.rowAt.nil _ _ _,.inl ⟨by decide,ad _⟩⟩,by decide⟩
 have jS:a.spot=none:=by
  obtain⟨c,q1,q2⟩:=eH 0 qJ;obtain⟨l1,l2⟩:=cells_get q1;have:=l2 0 qJ;rw [aa qJ]at this;have:=spot_none this
  rwa [show(a.add (0*sz)).add 0=a by rw[bI];rfl]at this
 obtain⟨b,o,s⟩:=a;dsimp only at jS;subst jS
 have eU:∀j,j<cap->∃c,W.cells? 0 ((⟨b,o,none⟩:Addr).add (j*sz)) sz=some c/\ElF enc W n e c/\c.length=sz/\(∀v∈c,Told b0 W v)/\∀(k:Nat) x,c[k]? = some x->W.cell? ⟨b,o+(j*sz+k),none⟩=some x:=by
  intro j hj;obtain⟨c,q1,q2⟩:=eH j hj;obtain⟨l1,l2⟩:=cells_get q1;refine⟨c,q1,q2,l1,(hE n c rfl q2).2,λk x hk=>?_⟩;have eD:k<c.length:=(ab.1 hk).1;have:=l2 k qJ;rw [add_none,add_none,hk,Nat.add_assoc]at this;exact this
 obtain⟨hbs,kd,hinfo,fU,gX⟩:b<W.heap.size/\∃kd,yC (zG (qH b0 W tabs) b)=some (szB W b,0,kd)/\kd≠0/\o+cap*sz<=szB W b:=by
  obtain⟨c,-,-,l1,-,l2⟩:=eU (cap - 1) qJ;obtain⟨q1,kd,q2,q3,q4⟩:=mir_info h0.1.1 (l2 (sz - 1) _ (aa qJ));refine⟨q1,kd,q2,q4,?_⟩;have e1:cap*sz=(cap - 1)*sz+sz:=by rw[<- cL];congr 1;omega
  omega
 have jM:((List.range len).map λj=>(W.cells? 0 ((⟨b,o,none⟩:Addr).add (j*sz)) sz).getD []).flatten.length=len*sz:=by
  rw[flen_of _ λc hc=>?_,aD,dz];obtain⟨j,hj,rfl⟩:=aB.1 hc;obtain⟨c,q1,q2,q3,-⟩:=eU j (by have:=bU.1 hj;omega);rw [q1];exact q3
 refine⟨_,(List.range len).map λj=>(W.cells? 0 ((⟨b,o,none⟩:Addr).add (j*sz)) sz).getD [],rfl,⟨?_,?_⟩,?_,λ_=>.inr ⟨b,o,cap,szB W b,0,kd,hbs,?_,?_,hinfo,?_,?_,.inl ⟨eM,?_⟩⟩,?_⟩
 . rw[absV_cap io];exact .slice (B:=⟨b,szB W b,0⟩) (idI_of hbs) qJ  hlc (.inl rfl)
 . rw[absV_cap io];rfl
 . intro c hc;obtain⟨j,hj,rfl⟩:=aB.1 hc;obtain⟨c,q1,q2,-⟩:=eU j (by have:=bU.1 hj;omega);rw [q1];exact⟨n,rfl,q2⟩
 . rw[absV_cap io];simp
 . rw[aD,jM,aD,dz]
 . rw[aD,jM];have:=bN sz hlc;omega
 . refine rowAt_flat (sz:=sz) λj c hj=>?_;rw [ao]at hj
   have eD:j<len:=by
    rcases aS j len with h|h
    . exact h
    . rw[aw (by simpa using h)]at hj;cases hj
   rw[cN eD]at hj;obtain⟨c',q1,q2,q3,q4,q5⟩:=eU j qJ;obtain rfl:c'=c:=by simpa [q1] using hj
   refine⟨q3,λk x hk=>?_⟩;obtain⟨r1,r2⟩:=q4 x (aj.2 ⟨k,hk⟩);exact(mir_cell h0.1.1 h0.1.2 (q5 k x hk) r1 r2).1
 . simpa using hlc
 . simp;omega
theorem flat_of{α : Type}(C: α->List Value)(Q: α->Prop):∀{ess:List (List Value)},(∀c∈ess,∃r,c.map (uY b0)=C r/\Q r)->∃l:List α,ess.flatten.map (uY b0)=l.flatMap C/\l.length=ess.length/\∀r∈l,Q r:=by
 intro ess
 induction ess with
 | nil=>intro _;exact⟨[],rfl,rfl,λ_ h=>by cases h⟩
 | cons c r ih=>
  intro h;obtain⟨l,h1,h2,h3⟩:=ih λc hc=>h c (aL _ hc);obtain⟨a,g1,g2⟩:=h c (aN ..);refine⟨a::l,?_,by rw[ay,ay,h2],λx hx=>?_⟩
  . rw[List.flatten_cons,aC,h1,g1];rfl
  . rcases au.1 hx with rfl|hx
    . exact g2
    . exact h3 x hx
theorem fm_one{α : Type}(f: α->Value)(l:List α):l.flatMap (λx=>[f x])=l.map f:=by
 induction l with
 | nil=>rfl
 | cons a l ih=>rw [aV,ih];rfl
theorem I64_told(n:Int):Told b0 W (I64 n):=⟨.int _ _,rfl⟩
theorem rG(s:Tx):Told b0 W (str s):=⟨.string _,rfl⟩
theorem ElF.one{k:Nat}{t:TypeId}{off:Nat}{c:Value}{cs:List Value}(h:ElF enc W k t ((cs.drop off).take (P.cellsOf t)))(hz:P.cellsOf t=1)(hc:(cs.drop off).take 1=[c]):ElF enc W k t [c]:=by rw[hz,hc]at h;exact h
theorem strs_El(h0:H0 b0 W tabs){k:Nat}{cs:List Value}(h:ElF enc W k 25 cs):∃(v:Value) (l:List Tx),cs=[v]/\Told b0 W v/\RowA W.heap.size (qH b0 W tabs) (uY b0 v) 1 l.length (l.map str)/\TxtL l:=by
 obtain⟨v,ess,h1,h2,h3,h4,h5⟩:=rF h0 Tryz.underlying25 (e:=9) (sz:=1) qN  (ad _) (of_decide_eq_true qN) (λn c _ hc=>by
  obtain⟨s,rfl,_⟩:=qC hc;exact⟨rfl,λv hv=>by rw[aq.1 hv];exact rG s⟩) h
 obtain⟨l,g1,g2,g3⟩:=flat_of (b0:=b0) (λs:Tx=>[str s]) (λs=>s.length<wM) λc hc=>by
  obtain⟨n,_,hc⟩:=h3 c hc;obtain⟨s,rfl,hs⟩:=qC hc;exact⟨s,rfl,hs⟩
 rw[fm_one]at g1;rw [g1,<- g2]at h4;exact⟨v,l,h1,h2,h4,by omega,g3⟩
theorem two{l:List Value}(h:l.length=2):∃c0 c1,l=[c0,c1]:=by
 match l,h with
 | [c0,c1],_=>exact⟨c0,c1,rfl⟩
theorem four{l:List Value}(h:l.length=4):∃c0 c1 c2 c3,l=[c0,c1,c2,c3]:=by
 match l,h with
 | [c0,c1,c2,c3],_=>exact⟨c0,c1,c2,c3,rfl⟩
theorem six{l:List Value}(h:l.length=6):∃c0 c1 c2 c3 c4 c5,l=[c0,c1,c2,c3,c4,c5]:=by
 match l,h with
 | [c0,c1,c2,c3,c4,c5],_=>exact⟨c0,c1,c2,c3,c4,c5,rfl⟩
theorem eight{l:List Value}(h:l.length=8):∃c0 c1 c2 c3 c4 c5 c6 c7,l=[c0,c1,c2,c3,c4,c5,c6,c7]:=by
 match l,h with
 | [c0,c1,c2,c3,c4,c5,c6,c7],_=>exact⟨c0,c1,c2,c3,c4,c5,c6,c7,rfl⟩
theorem zi1:P.cellsOf 3=1:=by kernel_rfl
theorem zs1:P.cellsOf 9=1:=by kernel_rfl
theorem zss1:P.cellsOf 25=1:=by kernel_rfl
theorem zrr1:P.cellsOf 22=1:=by kernel_rfl
theorem zcc1:P.cellsOf 23=1:=by kernel_rfl
theorem zoo1:P.cellsOf 24=1:=by kernel_rfl
theorem zuu1:P.cellsOf 59=1:=by kernel_rfl
theorem zo2:P.cellsOf 58=2:=by kernel_rfl
theorem regs_El(h0:H0 b0 W tabs):∀(k:Nat) {cs:List Value},ElF enc W k 22 cs->∃(v:Value) (l:List RegT),cs=[v]/\Told b0 W v/\RegsM W.heap.size (qH b0 W tabs) (uY b0 v) l/\TxtR l:=by
 intro k
 induction k using Nat.strongRecOn with
 | _ k ih =>
  intro cs h
  have iR:∀n c,k=n+1->ElF enc W n 114 c->c.length=4/\(∀v∈c,Told b0 W v)/\∃r:RegT,c.map (uY b0)=regC r/\(RegsM W.heap.size (qH b0 W tabs) r.sv r.subs/\r.name.length<wM/\TxtR r.subs):=by
   rintro n c rfl hc
   obtain⟨hl,n',rfl,hf⟩:=uU Tryz.underlying114 hc;have hl:c.length=4:=hl.trans qN;obtain⟨c0,c1,c2,c3,rfl⟩:=four hl;have f0:ElF enc W n' 9 [c0]:=ElF.one (off:=0) (hf 0 _ rfl) zs1 rfl;have f1:ElF enc W n' 3 [c1]:=ElF.one (off:=1) (hf 1 _ rfl) zi1 rfl;have f2:ElF enc W n' 3 [c2]:=ElF.one (off:=2) (hf 2 _ rfl) zi1 rfl;have f3:ElF enc W n' 22 [c3]:=ElF.one (off:=3) (hf 3 _ rfl) zrr1 rfl;obtain⟨s0,e0,g0⟩:=qC f0;obtain⟨n1,e1,_⟩:=rE f1;obtain⟨n2,e2,_⟩:=rE f2;obtain⟨v3,l3,e3,t3,r3,x3⟩:=ih n' qJ  f3;injection e0 with e0 _;injection e1 with e1 _;injection e2 with e2 _;injection e3 with e3 _
   subst e0 e1 e2 e3;refine⟨rfl,λv hv=>?_,.mk s0 n1 n2 (uY b0 c3) l3,rfl,r3,g0,x3⟩;simp only[au,bf,or_false]at hv;rcases hv with rfl|rfl|rfl|rfl
   all_goals first|exact I64_told _|exact rG _|exact t3
  obtain⟨v,ess,h1,h2,h3,h4,h5⟩:=rF h0 Tryz.underlying22 (e:=114) (sz:=4) qN qK  (of_decide_eq_true qN) (λn c e hc=>⟨(iR n c e hc).1,(iR n c e hc).2.1⟩) h
  obtain⟨l,g1,g2,g3⟩:=flat_of (b0:=b0) regC (λr=>RegsM W.heap.size (qH b0 W tabs) r.sv r.subs/\r.name.length<wM/\TxtR r.subs) λc hc=>by
   obtain⟨n,e,hc⟩:=h3 c hc;exact(iR n c e hc).2.2
  rw[g1,<- g2]at h4;refine⟨v,l,h1,h2,?_,.mk qJ  λr hr=>(g3 r hr).2⟩;unfold RegsM;exact⟨h4.toT,λr hr=>(g3 r hr).1⟩
theorem oprs_El(h0:H0 b0 W tabs){k:Nat}{cs:List Value}(h:ElF enc W k 59 cs):∃(v:Value) (l:List OperT),cs=[v]/\Told b0 W v/\RowA W.heap.size (qH b0 W tabs) (uY b0 v) 2 l.length (l.flatMap oprC)/\l.length<wM/\∀x∈l,x.cls.length<wM/\x.fix.length<wM:=by
 have hel:∀n c,ElF enc W n 58 c->c.length=2/\(∀v∈c,Told b0 W v)/\∃r:OperT,c.map (uY b0)=oprC r/\r.cls.length<wM/\r.fix.length<wM:=by
  intro n c hc;obtain⟨hl,n',rfl,hf⟩:=uU Tryz.underlying58 hc;have hl:c.length=2:=hl.trans qN;obtain⟨c0,c1,rfl⟩:=two hl;have f0:ElF enc W n' 9 [c0]:=ElF.one (off:=0) (hf 0 _ rfl) zs1 rfl;have f1:ElF enc W n' 9 [c1]:=ElF.one (off:=1) (hf 1 _ rfl) zs1 rfl;obtain⟨s0,e0,g0⟩:=qC f0;obtain⟨s1,e1,g1⟩:=qC f1;injection e0 with e0 _;injection e1 with e1 _
  subst e0 e1;refine⟨rfl,λv hv=>?_,⟨s0,s1⟩,rfl,g0,g1⟩;simp only[au,bf,or_false]at hv;rcases hv with rfl|rfl
  all_goals exact rG _
 obtain⟨v,ess,h1,h2,h3,h4,h5⟩:=rF h0 Tryz.underlying59 (e:=58) (sz:=2) qN qK  (of_decide_eq_true qN) (λn c _ hc=>⟨(hel n c hc).1,(hel n c hc).2.1⟩) h
 obtain⟨l,g1,g2,g3⟩:=flat_of (b0:=b0) oprC (λr=>r.cls.length<wM/\r.fix.length<wM) λc hc=>by
  obtain⟨n,e,hc⟩:=h3 c hc;exact(hel n c hc).2.2
 rw[g1,<- g2]at h4;exact⟨v,l,h1,h2,h4,by omega,g3⟩
theorem clss_El(h0:H0 b0 W tabs){k:Nat}{cs:List Value}(h:ElF enc W k 23 cs):∃(v:Value) (l:List ClassT),cs=[v]/\Told b0 W v/\RowA W.heap.size (qH b0 W tabs) (uY b0 v) 2 l.length (l.flatMap clsC)/\l.length<wM/\∀c∈l,RowA W.heap.size (qH b0 W tabs) c.rsv 1 c.regs.length (c.regs.map str)/\c.name.length<wM/\TxtL c.regs:=by
 have hel:∀n c,ElF enc W n 56 c->c.length=2/\(∀v∈c,Told b0 W v)/\∃r:ClassT,c.map (uY b0)=clsC r/\(RowA W.heap.size (qH b0 W tabs) r.rsv 1 r.regs.length (r.regs.map str)/\r.name.length<wM/\TxtL r.regs):=by
  intro n c hc;obtain⟨hl,n',rfl,hf⟩:=uU Tryz.underlying56 hc;have hl:c.length=2:=hl.trans qN;obtain⟨c0,c1,rfl⟩:=two hl;have f0:ElF enc W n' 9 [c0]:=ElF.one (off:=0) (hf 0 _ rfl) zs1 rfl;have f1:ElF enc W n' 25 [c1]:=ElF.one (off:=1) (hf 1 _ rfl) zss1 rfl;obtain⟨s0,e0,g0⟩:=qC f0;obtain⟨v1,l1,e1,t1,r1,x1⟩:=strs_El h0 f1;injection e0 with e0 _;injection e1 with e1 _
  subst e0 e1;refine⟨rfl,λv hv=>?_,⟨s0,uY b0 c1,l1⟩,rfl,r1,g0,x1⟩;simp only[au,bf,or_false]at hv;rcases hv with rfl|rfl
  all_goals first|exact rG _|exact t1
 obtain⟨v,ess,h1,h2,h3,h4,h5⟩:=rF h0 Tryz.underlying23 (e:=56) (sz:=2) qN qK  (of_decide_eq_true qN) (λn c _ hc=>⟨(hel n c hc).1,(hel n c hc).2.1⟩) h
 obtain⟨l,g1,g2,g3⟩:=flat_of (b0:=b0) clsC (λr=>RowA W.heap.size (qH b0 W tabs) r.rsv 1 r.regs.length (r.regs.map str)/\r.name.length<wM/\TxtL r.regs) λc hc=>by
  obtain⟨n,e,hc⟩:=h3 c hc;exact(hel n c hc).2.2
 rw[g1,<- g2]at h4;exact⟨v,l,h1,h2,h4,by omega,g3⟩
def OpQ(b0:Nat)(W:World)(tabs:List (Nat×List Value))(o:OpT):Prop:=RowA W.heap.size (qH b0 W tabs) o.usv 2 o.uses.length (o.uses.flatMap oprC)/\RowA W.heap.size (qH b0 W tabs) o.csv 1 o.clob.length (o.clob.map str)/\o.name.length<wM/\o.d.cls.length<wM/\o.d.fix.length<wM/\o.uses.length<wM/\(∀x∈o.uses,x.cls.length<wM/\x.fix.length<wM)/\TxtL o.clob
theorem ops_El(h0:H0 b0 W tabs){k:Nat}{cs:List Value}(h:ElF enc W k 24 cs):∃(v:Value) (l:List OpT),cs=[v]/\Told b0 W v/\RowA W.heap.size (qH b0 W tabs) (uY b0 v) 6 l.length (l.flatMap opC)/\l.length<wM/\∀o∈l,OpQ b0 W tabs o:=by
 have hel:∀n c,ElF enc W n 61 c->c.length=6/\(∀v∈c,Told b0 W v)/\∃r:OpT,c.map (uY b0)=opC r/\OpQ b0 W tabs r:=by
  intro n c hc;obtain⟨hl,n',rfl,hf⟩:=uU Tryz.underlying61 hc;have hl:c.length=6:=hl.trans qN;obtain⟨c0,c1,c2,c3,c4,c5,rfl⟩:=six hl;have f0:ElF enc W n' 9 [c0]:=ElF.one (off:=0) (hf 0 _ rfl) zs1 rfl;have f1:ElF enc W n' 58 (([c0,c1,c2,c3,c4,c5].drop 1).take (P.cellsOf 58)):=hf 1 _ rfl;rw [zo2]at f1;have f1:ElF enc W n' 58 [c1,c2]:=f1;have f3:ElF enc W n' 59 [c3]:=ElF.one (off:=3) (hf 2 _ rfl) zuu1 rfl;have f4:ElF enc W n' 3 [c4]:=ElF.one (off:=4) (hf 3 _ rfl) zi1 rfl;have f5:ElF enc W n' 25 [c5]:=ElF.one (off:=5) (hf 4 _ rfl) zss1 rfl;obtain⟨gW,n2,rfl,hf1⟩:=uU Tryz.underlying58 f1;have q0:ElF enc W n2 9 [c1]:=ElF.one (off:=0) (hf1 0 _ rfl) zs1 rfl;have q1:ElF enc W n2 9 [c2]:=ElF.one (off:=1) (hf1 1 _ rfl) zs1 rfl;obtain⟨s0,e0,g0⟩:=qC f0;obtain⟨s1,e1,g1⟩:=qC q0;obtain⟨s2,e2,g2⟩:=qC q1;obtain⟨v3,l3,e3,t3,r3,x3,y3⟩:=oprs_El h0 f3;obtain⟨n4,e4,_⟩:=rE f4;obtain⟨v5,l5,e5,t5,r5,x5⟩:=strs_El h0 f5
  injection e0 with e0 _;injection e1 with e1 _;injection e2 with e2 _;injection e3 with e3 _;injection e4 with e4 _;injection e5 with e5 _
  subst e0 e1 e2 e3 e4 e5;refine⟨rfl,λv hv=>?_,⟨s0,⟨s1,s2⟩,uY b0 c3,l3,n4,uY b0 c5,l5⟩,rfl,r3,r5,g0,g1,g2,x3,y3,x5⟩;simp only[au,bf,or_false]at hv;rcases hv with rfl|rfl|rfl|rfl|rfl|rfl
  all_goals first|exact I64_told _|exact rG _|exact t3|exact t5
 obtain⟨v,ess,h1,h2,h3,h4,h5⟩:=rF h0 Tryz.underlying24 (e:=61) (sz:=6) qN qK  (of_decide_eq_true qN) (λn c _ hc=>⟨(hel n c hc).1,(hel n c hc).2.1⟩) h
 obtain⟨l,g1,g2,g3⟩:=flat_of (b0:=b0) opC (OpQ b0 W tabs) λc hc=>by
  obtain⟨n,e,hc⟩:=h3 c hc;exact(hel n c hc).2.2
 rw[g1,<- g2]at h4;exact⟨v,l,h1,h2,h4,by omega,g3⟩
theorem mach_El(h0:H0 b0 W tabs){k:Nat}{cs:List Value}(h:ElF enc W k 27 cs):(∀v∈cs,Told b0 W v)/\∃m:MachT,cs.map (uY b0)=yR m/\MachM W.heap.size (qH b0 W tabs) m/\TxtM m:=by
 obtain⟨hl,n,rfl,hf⟩:=uU Tryz.underlying27 h;have hl:cs.length=8:=hl.trans qN;obtain⟨c0,c1,c2,c3,c4,c5,c6,c7,rfl⟩:=eight hl;have f0:ElF enc W n 9 [c0]:=ElF.one (off:=0) (hf 0 _ rfl) zs1 rfl;have f1:ElF enc W n 22 [c1]:=ElF.one (off:=1) (hf 1 _ rfl) zrr1 rfl;have f2:ElF enc W n 23 [c2]:=ElF.one (off:=2) (hf 2 _ rfl) zcc1 rfl;have f3:ElF enc W n 24 [c3]:=ElF.one (off:=3) (hf 3 _ rfl) zoo1 rfl;have f4:ElF enc W n 25 [c4]:=ElF.one (off:=4) (hf 4 _ rfl) zss1 rfl;have f5:ElF enc W n 9 [c5]:=ElF.one (off:=5) (hf 5 _ rfl) zs1 rfl;have f6:ElF enc W n 25 [c6]:=ElF.one (off:=6) (hf 6 _ rfl) zss1 rfl;have f7:ElF enc W n 3 [c7]:=ElF.one (off:=7) (hf 7 _ rfl) zi1 rfl;obtain⟨s0,e0,g0⟩:=qC f0;obtain⟨v1,l1,e1,t1,r1,x1⟩:=regs_El h0 n f1;obtain⟨v2,l2,e2,t2,r2,x2,y2⟩:=clss_El h0 f2;obtain⟨v3,l3,e3,t3,r3,x3,y3⟩:=ops_El h0 f3;obtain⟨v4,l4,e4,t4,r4,x4⟩:=strs_El h0 f4;obtain⟨s5,e5,g5⟩:=qC f5;obtain⟨v6,l6,e6,t6,r6,x6⟩:=strs_El h0 f6;obtain⟨n7,e7,g7⟩:=rE f7
 injection e0 with e0 _;injection e1 with e1 _;injection e2 with e2 _;injection e3 with e3 _;injection e4 with e4 _;injection e5 with e5 _;injection e6 with e6 _;injection e7 with e7 _
 subst e0 e1 e2 e3 e4 e5 e6 e7;refine⟨λv hv=>?_,⟨s0,uY b0 c1,l1,uY b0 c2,l2,uY b0 c3,l3,uY b0 c4,l4,s5,uY b0 c6,l6,n7⟩,rfl,⟨r1,r2,λc hc=>(y2 c hc).1.toT,r3,λo ho=>(y3 o ho).1,λo ho=>(y3 o ho).2.1,r4,r6,g7⟩,⟨g0,x1,x2,λc hc=>(y2 c hc).2,x3,λo ho=>(y3 o ho).2.2,x4,g5,x6⟩⟩;simp only[au,bf,or_false]at hv;rcases hv with rfl|rfl|rfl|rfl|rfl|rfl|rfl|rfl
 all_goals first|exact I64_told _|exact rG _|exact t1|exact t2|exact t3|exact t4|exact t6
end
end
end Go.Proofs.YtdiejolnllipnaaGreatDoor
namespace Go.Ex.M
section
theorem idx_lt{ns:List Tx}{x:Tx}(h:x∈ns):ns.idxOf x<ns.length:=bj.2 h
theorem wY{ns:List Tx}{x:Tx}(h:x∈ns):pos ns x=(ns.idxOf x:Nat):=by unfold pos;rw [if_pos h]
theorem pos_out{ns:List Tx}{x:Tx}(h:x∉ns):pos ns x = -1:=by unfold pos;rw [if_neg h]
def yJ(ns:List Tx)(ps:List Pl)(x:Tx):Pl:=ps.getD (ns.idxOf x) ⟨0,0,0⟩
theorem plc_at{ns:List Tx}{ps:List Pl}{x:Tx}(h:x∈ns)(hl:ps.length=ns.length):ps[ns.idxOf x]? = some (yJ ns ps x):=by
 have:=idx_lt h;unfold yJ;rw [aZ,aa qJ];rfl
theorem plc_mem{ns:List Tx}{ps:List Pl}{x:Tx}(h:x∈ns)(hl:ps.length=ns.length):yJ ns ps x∈ps:=ae (plc_at h hl)
theorem posF_cases{α : Type}(p: α->Bool)(l:List α):(l.find? p=none/\posF p l = -1)\/∃(k:Nat) (x: α),l.find? p=some x/\l[k]? = some x/\posF p l=(k:Nat)/\k<l.length/\p x=true:=by
 cases h:l.find? p with
 | none=>
  refine .inl ⟨rfl,posF_no λj y hj=>?_⟩;have:=cS.1 h y (ae hj);simpa using this
 | some x =>
  refine .inr ⟨l.findIdx p,x,rfl,?_⟩;have hm:=bO h;have hp:=List.find?_some h;have eD:l.findIdx p<l.length:=List.findIdx_lt_length_of_exists ⟨x,hm,hp⟩
  have e1:l[l.findIdx p]? = some x:=by
   rw[aa eD];have:=List.find?_eq_some_iff_getElem.1 h;obtain⟨_,i,hi,e,eG⟩:=this
   have e2:l.findIdx p=i:=by
    rw[List.findIdx_eq hi];exact⟨by rw[e];exact hp,λj hj=>by have:=eG j hj;simpa using this⟩
   congr 1
   rw[<- e];congr 1
  refine⟨e1,?_,eD,hp⟩;unfold posF;rw [if_pos (ap.2 ⟨x,hm,hp⟩)]
def vG(m:MachT)(x:Tx):Option ClassT:=m.classes.find? λc=>decide (c.name=x)
def xM(m:MachT)(x:Tx):Int:=posF (λc=>decide (c.name=x)) m.classes
def uB(m:MachT)(o:OperT):Bool:=match vG m o.cls with
 | none=>false
 | some c=>decide (o.fix=[]) || decide (o.fix∈c.regs)
def wdOf(ns:List Tx)(ps:List Pl)(c:ClassT):Int:=match c.regs with
 | []=>0
 | r::_=>(yJ ns ps r).width
theorem vD{m:MachT}{x:Tx}:(vG m x=none/\xM m x = -1)\/∃(k:Nat) (c:ClassT),vG m x=some c/\m.classes[k]? = some c/\xM m x=(k:Nat)/\k<m.classes.length/\c.name=x:=by
 rcases posF_cases (λc:ClassT=>decide (c.name=x)) m.classes with h|⟨k,c,h1,h2,h3,h4,h5⟩
 . exact .inl h
 . exact .inr ⟨k,c,h1,h2,h3,h4,of_decide_eq_true h5⟩
theorem yT{h:zB}{b:Nat}:∀{k o:Nat} {vs:List Value},Rd h b o k vs->∀{j:Nat} {v:Value},vs[j]? = some v->zD h b (o+j)=some v:=by
 intro k
 induction k with
 | zero=>intro o vs h j v hj;rw [show vs=[] from h]at hj;cases hj
 | succ k ih=>
  rintro o vs ⟨x,r,rfl,h1,h2⟩ j v hj
  cases j with
  | zero=>cases hj;exact h1
  | succ j=>have:=ih h2 (j:=j) hj;rwa [show o+1+j=o+(j+1) by omega]at this
end
section
def preL:Nat->Int->List RegT->List (RegT×Int)
 | 0,_,_=>[]
 | k+1,d,l=>l.flatMap λr=>(r,d)::preL k (d+1) r.subs
abbrev deepC(e:RegT×Int):List Value:=[str e.1.name,I64 e.1.w,I64 e.1.a,e.1.sv,I64 e.2]
theorem pre_snoc{k:Nat}{d:Int}{l:List RegT}{i:Nat}{r:RegT}(h:l[i]? = some r):preL (k+1) d (l.take (i+1))=preL (k+1) d (l.take i)++((r,d)::preL k (d+1) r.subs):=by
 show(l.take (i+1)).flatMap (λr=>(r,d)::preL k (d+1) r.subs)=(l.take i).flatMap (λr=>(r,d)::preL k (d+1) r.subs)++_;rw [bZ,h,aT];simp
theorem pre_take{k:Nat}{d:Int}{l:List RegT}{i:Nat}:preL k d (l.take i) <+: preL k d l:=by
 cases k with
 | zero=>exact List.prefix_refl _
 | succ k=>
  show(l.take i).flatMap (λr=>(r,d)::preL k (d+1) r.subs) <+: l.flatMap (λr=>(r,d)::preL k (d+1) r.subs);conv=>rhs;rw [<- dH i l]
  rw[aT];exact List.prefix_append _ _
end
section
structure GSt where
 ns:List Tx
 ps:List Pl
def gPl(d:Int)(base:Pl)(sibs:List Pl)(r:RegT):Pl:=if d=1 then⟨(sibs.length:Nat),r.a,r.w⟩ else⟨base.root,base.at_+r.a,r.w⟩
def sV(d:Int)(base:Pl)(sibs:List Pl)(s:GSt)(r:RegT):Except Int Pl:=
 if 6<d then .error 4
 else if 200<=s.ns.length then .error 2
 else if named r.name=false\/r.name∈s.ns then .error 5
 else if r.w<1\/64<r.w\/r.a<0\/(d=1/\r.a≠0)\/(d≠1/\base.width - r.w<r.a) then .error 6
 else if sibs.any (sU (gPl d base sibs r)) then .error 7
 else .ok (gPl d base sibs r)
def uV(rec:Pl->List RegT->GSt->Except Int GSt)(d:Int)(base:Pl)(acc:Except Int (List Pl×GSt))(r:RegT):Except Int (List Pl×GSt):=match acc with
 | .error e=>.error e
 | .ok x => match sV d base x.1 x.2 r with
  | .error e=>.error e
  | .ok p=>match rec p r.subs ⟨x.2.ns++[r.name],x.2.ps++[p]⟩ with
   | .error e=>.error e
   | .ok s'=>.ok (x.1++[p],s')
def yU:Nat->Int->Pl->List RegT->GSt->Except Int GSt
 | 0,_,_,_,s=>.ok s
 | k+1,d,base,l,s=>match l.foldl (uV (yU k (d+1)) d base) (.ok ([],s)) with
  | .error e=>.error e
  | .ok x=>.ok x.2
def geoP(l:List RegT):Except Int GSt:=yU 7 1 ⟨0,0,0⟩ l ⟨[],[]⟩
theorem wC(rec:Pl->List RegT->GSt->Except Int GSt)(d:Int)(base:Pl)(e:Int):∀l:List RegT,l.foldl (uV rec d base) (.error e) = .error e:=by
 intro l
 induction l with
 | nil=>rfl
 | cons r l ih=>exact ih
section
variable {rec:Pl->List RegT->GSt->Except Int GSt} {d:Int} {base:Pl} {sibs:List Pl} {s s':GSt} {r:RegT} {p:Pl} {e:Int}
theorem gStep_e1(hg:sV d base sibs s r = .error e):uV rec d base (.ok (sibs,s)) r = .error e:=by unfold uV;dsimp only;rw [hg]
theorem gStep_e2(hg:sV d base sibs s r = .ok p)(hr:rec p r.subs ⟨s.ns++[r.name],s.ps++[p]⟩ = .error e):uV rec d base (.ok (sibs,s)) r = .error e:=by unfold uV;dsimp only;rw [hg];dsimp only;rw [hr]
theorem gStep_ok(hg:sV d base sibs s r = .ok p)(hr:rec p r.subs ⟨s.ns++[r.name],s.ps++[p]⟩ = .ok s'):uV rec d base (.ok (sibs,s)) r = .ok (sibs++[p],s'):=by unfold uV;dsimp only;rw [hg];dsimp only;rw [hr]
end
structure WSt where
 ns:List Tx
 ps:List Pl
 ways:List (Pl×List Pl)
def wStep(acc:Except Int WSt)(e:RegT×Int):Except Int WSt:=match acc with
 | .error x=>.error x
 | .ok w => match w.ways[(e.2 - 1).toNat]? with
  | none=>.error 0
  | some top=>match sV e.2 top.1 top.2 ⟨w.ns,w.ps⟩ e.1 with
   | .error x=>.error x
   | .ok p=>.ok ⟨w.ns++[e.1.name],w.ps++[p],w.ways.take (e.2 - 1).toNat++[(top.1,top.2++[p]),(p,[])]⟩
theorem wStep_err(e:Int):∀l:List (RegT×Int),l.foldl wStep (.error e) = .error e:=by
 intro l
 induction l with
 | nil=>rfl
 | cons r l ih=>exact ih
def Sub(k:Nat):Prop:=∀(d:Int) (p:Pl) (subs:List RegT) (s:GSt) (stk:List (Pl×List Pl)),0<d->(stk.length:Int)=d->
 (∃e,(preL k (d+1) subs).foldl wStep (.ok ⟨s.ns,s.ps,stk++[(p,[])]⟩) = .error e/\yU k (d+1) p subs s = .error e)\/
 ∃s' rest,(preL k (d+1) subs).foldl wStep (.ok ⟨s.ns,s.ps,stk++[(p,[])]⟩) = .ok ⟨s'.ns,s'.ps,stk++rest⟩/\yU k (d+1) p subs s = .ok s'
theorem main_of{k:Nat}(hs:Sub k){d:Int}{base:Pl}{stk:List (Pl×List Pl)}(hd:0<d)(hl:(stk.length:Int)+1=d):∀(l:List RegT) (sibs:List Pl) (s:GSt) (rest:List (Pl×List Pl)),
 (∃e,(preL (k+1) d l).foldl wStep (.ok ⟨s.ns,s.ps,stk++(base,sibs)::rest⟩) = .error e/\l.foldl (uV (yU k (d+1)) d base) (.ok (sibs,s)) = .error e)\/
 ∃s' sibs' rest',(preL (k+1) d l).foldl wStep (.ok ⟨s.ns,s.ps,stk++(base,sibs)::rest⟩) = .ok ⟨s'.ns,s'.ps,stk++(base,sibs')::rest'⟩/\l.foldl (uV (yU k (d+1)) d base) (.ok (sibs,s)) = .ok (sibs',s'):=by
 have hn:(d - 1).toNat=stk.length:=by omega
 intro l
 induction l with
 | nil=>intro sibs s rest;exact .inr ⟨s,sibs,rest,rfl,rfl⟩
 | cons r l ih =>
  intro sibs s rest
  have e0:preL (k+1) d (r::l)=(r,d)::(preL k (d+1) r.subs++preL (k+1) d l):=by
   show(r::l).flatMap (λr=>(r,d)::preL k (d+1) r.subs)=_;rw [aV];rfl
  rw[e0,cz,cj,cz]
  have e1:(stk++(base,sibs)::rest)[(d - 1).toNat]? = some (base,sibs):=by
   rw[hn,ax (ad _),bB];rfl
  have e2:(stk++(base,sibs)::rest).take (d - 1).toNat=stk:=by rw[hn,List.take_left'];rfl
  have e3:wStep (.ok ⟨s.ns,s.ps,stk++(base,sibs)::rest⟩) (r,d)=match sV d base sibs s r with
   | .error x=>.error x
   | .ok p=>.ok ⟨s.ns++[r.name],s.ps++[p],stk++[(base,sibs++[p]),(p,[])]⟩:=by
   unfold wStep;dsimp only;rw [e1];dsimp only;rw [e2]
  rw[e3]
  cases hg:sV d base sibs s r with
  | error x=>
   refine .inl ⟨x,?_,?_⟩
   . dsimp only;rw [wStep_err,wStep_err]
   . rw[gStep_e1 hg];exact wC _ _ _ _ _
  | ok p =>
   dsimp only;have e4:stk++[(base,sibs++[p]),(p,([]:List Pl))]=(stk++[(base,sibs++[p])])++[(p,[])]:=by simp
   rw[e4]
   have e5:uV (yU k (d+1)) d base (.ok (sibs,s)) r=match yU k (d+1) p r.subs ⟨s.ns++[r.name],s.ps++[p]⟩ with
    | .error e=>.error e
    | .ok s'=>.ok (sibs++[p],s'):=by
    unfold uV;dsimp only;rw [hg]
   rw[e5];rcases hs d p r.subs ⟨s.ns++[r.name],s.ps++[p]⟩ (stk++[(base,sibs++[p])]) hd (by rw[ah];simp;omega) with⟨e,h1,h2⟩|⟨s',rest',h1,h2⟩
   . refine .inl ⟨e,?_,?_⟩
     . rw[h1,wStep_err]
     . rw[h2];dsimp only;exact wC _ _ _ _ _
   . rw[h1,h2,ba];exact ih _ _ _
theorem sub_all:∀k,Sub k:=by
 intro k
 induction k with
 | zero=>intro d p subs s stk hd hl;exact .inr ⟨s,[(p,[])],rfl,rfl⟩
 | succ k ih=>
  intro d p subs s stk hd hl;rcases main_of ih (d:=d+1) (base:=p) (stk:=stk) qJ qJ  subs [] s [] with⟨e,h1,h2⟩|⟨s',sibs',rest',h1,h2⟩
  . refine .inl ⟨e,h1,?_⟩;unfold yU;rw [h2]
  . refine .inr ⟨s',_,h1,?_⟩;unfold yU;rw [h2]
theorem geo_walk(l:List RegT):(∃e,(preL 7 1 l).foldl wStep (.ok ⟨[],[],[(⟨0,0,0⟩,[])]⟩) = .error e/\geoP l = .error e)\/
 ∃s ways,(preL 7 1 l).foldl wStep (.ok ⟨[],[],[(⟨0,0,0⟩,[])]⟩) = .ok ⟨s.ns,s.ps,ways⟩/\geoP l = .ok s:=by
 rcases main_of (sub_all 6) (d:=1) (base:=⟨0,0,0⟩) (stk:=[]) qK qK  l [] ⟨[],[]⟩ [] with⟨e,h1,h2⟩|⟨s',sibs',rest',h1,h2⟩
 . refine .inl ⟨e,h1,?_⟩;unfold geoP yU;rw [show(1:Int)+1=2 from rfl]at h2;rw [show(1:Int)+1=2 from rfl,h2]
 . refine .inr ⟨s',_,h1,?_⟩;unfold geoP yU;rw [show(1:Int)+1=2 from rfl]at h2;rw [show(1:Int)+1=2 from rfl,h2]
def PlG(p:Pl):Prop:=0<=p.at_/\1<=p.width/\p.at_+p.width<=64
structure GOK (s:GSt):Prop where
 nd:s.ns.Nodup
 len:s.ps.length=s.ns.length
 le:s.ns.length<=200
 pl:∀p∈s.ps,PlG p
 nm:∀x∈s.ns,named x=true
theorem gOne_ok{d:Int}{base:Pl}{sibs:List Pl}{s:GSt}{r:RegT}{p:Pl}(h:sV d base sibs s r = .ok p)(hs:GOK s)(hb:d=1\/PlG base):p=gPl d base sibs r/\PlG p/\GOK ⟨s.ns++[r.name],s.ps++[p]⟩:=by
 unfold sV at h;split at h
 . cases h
 split at h
 . cases h
 split at h
 . cases h
 split at h
 . cases h
 split at h
 . cases h
 rename_i h1 h2 h3 h4 h5;injection h with h
 subst h
 have hp:PlG (gPl d base sibs r):=by
  unfold gPl PlG;split
  . rename_i hd;show 0<=r.a/\1<=r.w/\r.a+r.w<=64
    have:r.a=0:=by
     rcases Decidable.em (r.a=0) with h9|h9
     . exact h9
     . exact absurd (.inr (.inr (.inr (.inl ⟨hd,h9⟩)))) h4
    simp only[not_or,not_and,Int.not_lt]at h4;omega
  . rename_i hd;rcases hb with hb|hb
    . exact absurd hb hd
    . unfold PlG at hb;simp only[not_or,not_and,Int.not_lt]at h4;have:=h4.2.2.2.2 hd;show 0<=base.at_+r.a/\1<=r.w/\base.at_+r.a+r.w<=64;omega
 refine⟨rfl,hp,?_,?_,?_,?_,?_⟩
 . show(s.ns++[r.name]).Nodup;rw [List.nodup_append];refine⟨hs.nd,by simp,λa ha b hb e=>?_⟩;simp at hb;subst e hb;exact h3 (.inr ha)
 . show(s.ps++[gPl d base sibs r]).length=(s.ns++[r.name]).length;simp [hs.len]
 . show(s.ns++[r.name]).length<=200;simp;omega
 . intro q hq;rcases aA.1 hq with h9|h9
   . exact hs.pl q h9
   . simp at h9;subst h9;exact hp
 . intro x hx;rcases aA.1 hx with h9|h9
   . exact hs.nm x h9
   . simp at h9;subst h9
     cases h8:named r.name with
     | true=>rfl
     | false=>exact absurd (.inl h8) h3
theorem gDown_ok:∀(k:Nat) (d:Int) (base:Pl) (l:List RegT) (s s':GSt),0<d->(d=1\/PlG base)->yU k d base l s = .ok s'->GOK s->GOK s':=by
 intro k
 induction k with
 | zero=>
  intro d base l s s' _ _ h hs;unfold yU at h;injection h with h
  exact h ▸ hs
 | succ k ih =>
  intro d base l s s' hd hb h hs
  have go:∀(l:List RegT) (sibs:List Pl) (s:GSt) (x:List Pl×GSt),GOK s->l.foldl (uV (yU k (d+1)) d base) (.ok (sibs,s)) = .ok x->GOK x.2:=by
   intro l
   induction l with
   | nil=>
    intro sibs s x hs h;injection h with h
    exact h ▸ hs
   | cons r l ihl =>
    intro sibs s x hs h;rw [cz]at h
    cases hg:sV d base sibs s r with
    | error e=>rw [gStep_e1 hg,wC]at h;cases h
    | ok p =>
     obtain⟨_,q1,q2⟩:=gOne_ok hg hs hb
     cases hr:yU k (d+1) p r.subs ⟨s.ns++[r.name],s.ps++[p]⟩ with
     | error e=>rw [gStep_e2 hg hr,wC]at h;cases h
     | ok s2=>
      rw[gStep_ok hg hr]at h;exact ihl _ _ _ (ih (d+1) p r.subs _ _ qJ  (.inr q1) hr q2) h
  unfold yU at h
  cases hf:l.foldl (uV (yU k (d+1)) d base) (.ok ([],s)) with
  | error e=>rw [hf]at h;cases h
  | ok x=>
   rw[hf]at h;injection h with h
   exact h ▸ go l [] s x hs hf
theorem geo_ok{l:List RegT}{s:GSt}(h:geoP l = .ok s):GOK s:=gDown_ok 7 1 ⟨0,0,0⟩ l ⟨[],[]⟩ s qK  (.inl rfl) h ⟨List.nodup_nil,rfl,an _,λp hp=>(by cases hp),λx hx=>(by cases hx)⟩
theorem PlG.ok{p:Pl}(h:PlG p):PlOK p:=by unfold PlG at h;unfold PlOK uT;omega
theorem uW(a b:Pl):sU a b=sU b a:=by
 unfold sU lapP;refine decide_eq_decide.2 ⟨λ⟨h1,h2,h3,h4⟩=>⟨h1.symm,h3,h2,?_⟩,λ⟨h1,h2,h3,h4⟩=>⟨h1.symm,h3,h2,?_⟩⟩
 . split at h4 <;> split <;> omega
 . split at h4 <;> split <;> omega
end
section
def FirstE{α : Type}(l:List α)(E:Nat->α->Int->Prop)(e:Int):Prop:=(e=0/\∀(i:Nat) x,l[i]? = some x->E i x 0)\/∃(i:Nat) (x: α),l[i]? = some x/\(∀(j:Nat) y,j<i->l[j]? = some y->E j y 0)/\e≠0/\E i x e
theorem qD{α : Type}{l:List α}{E:Nat->α->Int->Prop}{i:Nat}{x: α}(hx:l[i]? = some x)(h:E i x 0)(eG:∀(j:Nat) y,j<i->l[j]? = some y->E j y 0):∀(j:Nat) y,j<i+1->l[j]? = some y->E j y 0:=λj y hj e=>by
 rcases ai.1 hj with h9|rfl
 . exact eG j y h9 e
 . rw[hx]at e;cases e;exact h
theorem first_all{α : Type}{l:List α}{E:Nat->α->Int->Prop}(eG:∀(j:Nat) y,j<l.length->l[j]? = some y->E j y 0):FirstE l E 0:=.inl ⟨rfl,λi x hx=>eG i x (ab.1 hx).1 hx⟩
theorem sN{α : Type}{l:List α}{E:Nat->α->Int->Prop}{i:Nat}{x: α}{e:Int}(hx:l[i]? = some x)(h:E i x e)(he:e≠0)(eG:∀(j:Nat) y,j<i->l[j]? = some y->E j y 0):FirstE l E e:=.inr ⟨i,x,hx,eG,he,h⟩
def nameOKc(m:MachT)(ns:List Tx)(i:Nat)(c:ClassT):Prop:=named c.name=true/\xM m c.name=(i:Nat)/\c.name∉ns
def regOKc(ns:List Tx)(ps:List Pl)(c:ClassT)(j:Nat)(r:Tx):Prop:=r∈ns/\pos c.regs r=(j:Nat)/\(yJ ns ps r).width=wdOf ns ps c
def restOKc(ns:List Tx)(ps:List Pl)(c:ClassT):Prop:=1<=c.regs.length/\c.regs.length<=64/\∀(j:Nat) r,c.regs[j]? = some r->regOKc ns ps c j r
def clsE(m:MachT)(ns:List Tx)(ps:List Pl)(i:Nat)(c:ClassT)(e:Int):Prop:=(e=0/\nameOKc m ns i c/\restOKc ns ps c)\/(e=5/\¬nameOKc m ns i c)\/(e=8/\nameOKc m ns i c/\¬restOKc ns ps c)
def ClsErr(m:MachT)(ns:List Tx)(ps:List Pl)(e:Int):Prop:=(e=2/\64<m.classes.length)\/(m.classes.length<=64/\FirstE m.classes (clsE m ns ps) e)
def wdC(m:MachT)(ns:List Tx)(ps:List Pl)(x:Tx):Int:=match vG m x with
 | some c=>wdOf ns ps c
 | none=>0
def nameOKo(m:MachT)(i:Nat)(o:OpT):Prop:=0<arity o.name/\posF (λx:OpT=>decide (x.name=o.name)) m.ops=(i:Nat)
def useOKo(m:MachT)(ns:List Tx)(ps:List Pl)(o:OpT)(u:OperT):Prop:=uB m u=true/\wdC m ns ps u.cls=wdC m ns ps o.d.cls
def clobOKo(ns:List Tx)(o:OpT)(j:Nat)(r:Tx):Prop:=r∈ns/\pos o.clob r=(j:Nat)
def tI(m:MachT)(ns:List Tx)(ps:List Pl)(o:OpT):Prop:=((o.uses.length:Nat):Int)=arity o.name/\uB m o.d=true/\(∀(j:Nat) u,o.uses[j]? = some u->useOKo m ns ps o u)/\-1<=o.tie/\o.tie<o.uses.length/\(0<=o.tie->o.uses[o.tie.toNat]? = some o.d)/\o.clob.length<=64/\∀(j:Nat) r,o.clob[j]? = some r->clobOKo ns o j r
def opE(m:MachT)(ns:List Tx)(ps:List Pl)(i:Nat)(o:OpT)(e:Int):Prop:=(e=0/\nameOKo m i o/\tI m ns ps o)\/(e=5/\¬nameOKo m i o)\/(e=9/\nameOKo m i o/\¬tI m ns ps o)
def qE(m:MachT)(ns:List Tx)(ps:List Pl)(e:Int):Prop:=(e=2/\64<m.ops.length)\/(m.ops.length<=64/\FirstE m.ops (opE m ns ps) e)
theorem ClsErr.ok{m:MachT}{ns:List Tx}{ps:List Pl}(h:ClsErr m ns ps 0):m.classes.length<=64/\∀(i:Nat) c,m.classes[i]? = some c->nameOKc m ns i c/\restOKc ns ps c:=by
 rcases h with⟨h,_⟩|⟨h1,⟨_,h⟩|⟨_,_,_,_,h,_⟩⟩
 . omega
 . refine⟨h1,λi c hc=>?_⟩;rcases h i c hc with⟨_,h⟩|⟨h,_⟩|⟨h,_⟩
   . exact h
   . omega
   . omega
 . omega
def rH(m:MachT)(ns:List Tx)(ps:List Pl)(apart:List Tx->Int->Prop):Prop:=apart m.args 16/\m.result∈ns/\apart m.saved 64/\(∀(i:Nat) x,m.saved[i]? = some x->sU (yJ ns ps x) (yJ ns ps m.result)=false)/\0<=m.slots/\m.slots<=1000/\∀(i:Nat) x,(m.args++[m.result])[i]? = some x->m.classes.any (λc=>decide (x∈c.regs))=true
def apOK(ns:List Tx)(ps:List Pl)(l:List Tx)(i:Nat)(x:Tx):Prop:=x∈ns/\∀(j:Nat) y,j<i->l[j]? = some y->sU (yJ ns ps x) (yJ ns ps y)=false
def wS(ns:List Tx)(ps:List Pl)(l:List Tx)(most:Int):Prop:=(l.length:Nat)<=most/\∀(i:Nat) x,l[i]? = some x->apOK ns ps l i x
theorem yV{α : Type}{l:List α}{i:Nat}{x: α}(h:l[i]? = some x):l.take (i+1)=l.take i++[x]:=by
 rw[bZ,h];rfl
theorem zQ{lo n:Nat}{h:zB}{v:Value}{e sz len:Nat}{vs:List Value}(r:Own lo n h v e sz len vs):∀x∈(zH v).toList,lo<=x:=λx hx=>by
 cases hb:zH v with
 | none=>rw [hb]at hx;cases hx
 | some b=>rw [hb]at hx;simp at hx;subst hx;exact(r.blk hb).1
theorem el_at{α β : Type}{f: α->β}{l:List α}{i j:Nat}{y: α}(h:l[j]? = some y)(hj:j<i):((l.take i).map f)[j]? = some (f y):=by
 rw[ao,aJ hj,h];rfl
end
section
def mayF(o:OperT)(r:Tx):Bool:=decide (o.fix=[]) || decide (o.fix=r)
def tL(m:MachT)(ns:List Tx)(ps:List Pl)(o:OperT):List Pl:=match vG m o.cls with
 | some c=>(c.regs.filter (mayF o)).map (yJ ns ps)
 | none=>[]
def qF(m:MachT)(ns:List Tx)(ps:List Pl)(a b:OperT):Bool:=(tL m ns ps a).any λp=>(tL m ns ps b).any λq=> !sU p q
def sparB(ns:List Tx)(ps:List Pl)(o:OpT)(p:Pl):Bool:=o.clob.all λr=> !sU p (yJ ns ps r)
def defB(m:MachT)(ns:List Tx)(ps:List Pl)(o:OpT)(uses:List Pl):Bool:=if 0<=o.tie then sparB ns ps o (uses.getD o.tie.toNat ⟨0,0,0⟩) else(tL m ns ps o.d).any (sparB ns ps o)
theorem all_false{α : Type}{l:List α}{f: α->Bool}{i:Nat}{x: α}(hi:l[i]? = some x)(h:f x=false):l.all f=false:=by
 cases e:l.all f with
 | false=>rfl
 | true=>rw [aH.1 e x (ae hi)]at h;cases h
theorem all_true{α : Type}{l:List α}{f: α->Bool}(h:∀(i:Nat) x,i<l.length->l[i]? = some x->f x=true):l.all f=true:=aH.2 λx hx=>by
 obtain⟨i,hi⟩:=aj.1 hx;exact h i x (ab.1 hi).1 hi
theorem may_step{o:OperT}{l:List Tx}{i:Nat}{r:Tx}{f:Tx->Pl}(h:l[i]? = some r):((l.take (i+1)).filter (mayF o)).map f=if mayF o r then((l.take i).filter (mayF o)).map f++[f r] else((l.take i).filter (mayF o)).map f:=by
 rw[yV h,dw]
 cases e:mayF o r with
 | true=>simp [e]
 | false=>simp [e]
theorem may_pre{o:OperT}{l:List Tx}{i:Nat}{f:Tx->Pl}:((l.take i).filter (mayF o)).map f <+: (l.filter (mayF o)).map f:=((List.take_prefix i l).filter _).map _
end
section
def chL(m:MachT)(ns:List Tx)(ps:List Pl)(o:OpT):List (List Pl):=match o.uses with
 | []=>[]
 | [u]=>(tL m ns ps u).map λp=>[p]
 | u::v::_=>(tL m ns ps u).flatMap λp=>((tL m ns ps v).filter λq=> !sU p q).map λq=>[p,q]
def fitsB(m:MachT)(ns:List Tx)(ps:List Pl)(o:OpT):Bool:=(chL m ns ps o).any (defB m ns ps o)
def uM(m:MachT)(ns:List Tx)(ps:List Pl):Prop:=(∀(i:Nat) o,m.ops[i]? = some o->fitsB m ns ps o=true)/\∀(a b:Nat) ca cb,b<=a->m.classes[a]? = some ca->m.classes[b]? = some cb->qF m ns ps ⟨ca.name,[]⟩ ⟨cb.name,[]⟩=true
def BodyE(m:MachT)(ns:List Tx)(ps:List Pl)(e:Int):Prop:=(e≠0/\ClsErr m ns ps e)\/(ClsErr m ns ps 0/\((e≠0/\qE m ns ps e)\/(qE m ns ps 0/\((e=10/\¬rH m ns ps (wS ns ps))\/(rH m ns ps (wS ns ps)/\((e=11/\¬uM m ns ps)\/(e=0/\uM m ns ps)))))))
def MakeE(m:MachT)(e:Int):Prop:=(named m.name=false/\e=5)\/(named m.name=true/\((geoP m.regs = .error e/\e≠0)\/∃s,geoP m.regs = .ok s/\((s.ns=[]/\e=1)\/(s.ns≠[]/\BodyE m s.ns s.ps e))))
theorem firstE_fun{α : Type}{l:List α}{E:Nat->α->Int->Prop}(hE:∀i x e e',E i x e->E i x e'->e=e'){e e':Int}(h:FirstE l E e)(h':FirstE l E e'):e=e':=by
 rcases h with⟨rfl,h⟩|⟨i,x,h1,h2,h3,h4⟩
 . rcases h' with⟨rfl,h'⟩|⟨i,x,h1,h2,h3,h4⟩
   . rfl
   . exact absurd (hE _ _ _ _ h4 (h i x h1)) h3
 . rcases h' with⟨rfl,h'⟩|⟨j,y,g1,g2,g3,g4⟩
   . exact absurd (hE _ _ _ _ h4 (h' i x h1)) h3
   . rcases cn i j with h9|rfl|h9
     . exact absurd (hE _ _ _ _ h4 (g2 i x h9 h1)) h3
     . rw[h1]at g1;cases g1;exact hE _ _ _ _ h4 g4
     . exact absurd (hE _ _ _ _ g4 (h2 j y h9 g1)) g3
theorem clsErr_fun{m:MachT}{ns:List Tx}{ps:List Pl}{e e':Int}(h:ClsErr m ns ps e)(h':ClsErr m ns ps e'):e=e':=by
 rcases h with⟨rfl,h⟩|⟨h,k⟩
 . rcases h' with⟨rfl,h'⟩|⟨h',k'⟩
   . rfl
   . omega
 . rcases h' with⟨rfl,h'⟩|⟨h',k'⟩
   . omega
   . refine firstE_fun (λi x e e' a b=>?_) k k';rcases a with⟨rfl,a1,a2⟩|⟨rfl,a1⟩|⟨rfl,a1,a2⟩ <;> rcases b with⟨rfl,b1,b2⟩|⟨rfl,b1⟩|⟨rfl,b1,b2⟩ <;> first|rfl|(exfalso;exact b1 a1)|(exfalso;exact a1 b1)|(exfalso;exact b2 a2)|(exfalso;exact a2 b2)
theorem opsErr_fun{m:MachT}{ns:List Tx}{ps:List Pl}{e e':Int}(h:qE m ns ps e)(h':qE m ns ps e'):e=e':=by
 rcases h with⟨rfl,h⟩|⟨h,k⟩
 . rcases h' with⟨rfl,h'⟩|⟨h',k'⟩
   . rfl
   . omega
 . rcases h' with⟨rfl,h'⟩|⟨h',k'⟩
   . omega
   . refine firstE_fun (λi x e e' a b=>?_) k k';rcases a with⟨rfl,a1,a2⟩|⟨rfl,a1⟩|⟨rfl,a1,a2⟩ <;> rcases b with⟨rfl,b1,b2⟩|⟨rfl,b1⟩|⟨rfl,b1,b2⟩ <;> first|rfl|(exfalso;exact b1 a1)|(exfalso;exact a1 b1)|(exfalso;exact b2 a2)|(exfalso;exact a2 b2)
theorem bodyE_fun{m:MachT}{ns:List Tx}{ps:List Pl}{e e':Int}(h:BodyE m ns ps e)(h':BodyE m ns ps e'):e=e':=by
 rcases h with⟨h1,h2⟩|⟨h1,h⟩
 . rcases h' with⟨g1,g2⟩|⟨g1,_⟩
   . exact clsErr_fun h2 g2
   . exact absurd (clsErr_fun h2 g1) h1
 rcases h' with⟨g1,g2⟩|⟨_,h'⟩
 . exact absurd (clsErr_fun g2 h1) g1
 rcases h with⟨h1,h2⟩|⟨h1,h⟩
 . rcases h' with⟨g1,g2⟩|⟨g1,_⟩
   . exact opsErr_fun h2 g2
   . exact absurd (opsErr_fun h2 g1) h1
 rcases h' with⟨g1,g2⟩|⟨_,h'⟩
 . exact absurd (opsErr_fun g2 h1) g1
 rcases h with⟨rfl,h⟩|⟨h1,h⟩
 . rcases h' with⟨rfl,_⟩|⟨g1,_⟩
   . rfl
   . exact absurd g1 h
 rcases h' with⟨_,g⟩|⟨_,h'⟩
 . exact absurd h1 g
 rcases h with⟨rfl,h⟩|⟨rfl,h⟩ <;> rcases h' with⟨rfl,g⟩|⟨rfl,g⟩
 . rfl
 . exact absurd g h
 . exact absurd h g
 . rfl
theorem makeE_fun{m:MachT}{e e':Int}(h:MakeE m e)(h':MakeE m e'):e=e':=by
 rcases h with⟨h1,rfl⟩|⟨h1,h⟩
 . rcases h' with⟨g1,rfl⟩|⟨g1,_⟩
   . rfl
   . rw[h1]at g1;cases g1
 rcases h' with⟨g1,rfl⟩|⟨_,h'⟩
 . rw[h1]at g1;cases g1
 rcases h with⟨h,_⟩|⟨s,h2,h⟩
 . rcases h' with⟨g,_⟩|⟨s,g2,_⟩
   . rw[h]at g;exact Except.error.inj g
   . rw[h]at g2;cases g2
 rcases h' with⟨g,_⟩|⟨s',g2,h'⟩
 . rw[h2]at g;cases g
 rw[h2]at g2;cases Except.ok.inj g2
 rcases h with⟨h3,rfl⟩|⟨h3,h⟩ <;> rcases h' with⟨g3,rfl⟩|⟨g3,h'⟩
 . rfl
 . exact absurd h3 g3
 . exact absurd g3 h3
 . exact bodyE_fun h h'
structure MOK (m:MachT) (ns:List Tx) (ps:List Pl):Prop where
 geo:geoP m.regs = .ok ⟨ns,ps⟩
 ne:ns≠[]
 cls:ClsErr m ns ps 0
 ops:qE m ns ps 0
 conv:rH m ns ps (wS ns ps)
 spill:uM m ns ps
 nm:named m.name=true
theorem makeE_ok{m:MachT}(h:MakeE m 0):∃ns ps,MOK m ns ps:=by
 rcases h with⟨_,h⟩|⟨h1,⟨_,h⟩|⟨s,h2,⟨_,h⟩|⟨h3,h⟩⟩⟩
 . cases h
 . exact absurd rfl h
 . cases h
 . rcases h with⟨h,_⟩|⟨h4,⟨h,_⟩|⟨h5,⟨h,_⟩|⟨h6,⟨h,_⟩|⟨_,h⟩⟩⟩⟩
   . exact absurd rfl h
   . exact absurd rfl h
   . cases h
   . cases h
   . exact⟨s.ns,s.ps,h2,h3,h4,h5,h6,h,h1⟩
theorem gOne_err{d:Int}{base:Pl}{sibs:List Pl}{s:GSt}{r:RegT}{e:Int}(h:sV d base sibs s r = .error e):e≠0:=by
 unfold sV at h;split at h
 . injection h with h;subst h;decide
 split at h
 . injection h with h;subst h;decide
 split at h
 . injection h with h;subst h;decide
 split at h
 . injection h with h;subst h;decide
 split at h
 . injection h with h;subst h;decide
 . cases h
theorem gDown_err:∀(k:Nat) (d:Int) (base:Pl) (l:List RegT) (s:GSt) (e:Int),yU k d base l s = .error e->e≠0:=by
 intro k
 induction k with
 | zero=>
  intro d base l s e h;unfold yU at h;cases h
 | succ k ih =>
  intro d base l s e h
  have go:∀(l:List RegT) (sibs:List Pl) (s:GSt),l.foldl (uV (yU k (d+1)) d base) (.ok (sibs,s)) = .error e->e≠0:=by
   intro l
   induction l with
   | nil=>intro sibs s h;cases h
   | cons r l ihl =>
    intro sibs s h;rw [cz]at h
    cases hg:sV d base sibs s r with
    | error x=>rw [gStep_e1 hg,wC]at h;injection h with h;subst h;exact gOne_err hg
    | ok p =>
     cases hr:yU k (d+1) p r.subs ⟨s.ns++[r.name],s.ps++[p]⟩ with
     | error x=>rw [gStep_e2 hg hr,wC]at h;injection h with h;subst h;exact ih _ _ _ _ _ hr
     | ok s2=>
      rw[gStep_ok hg hr]at h;exact ihl _ _ h
  unfold yU at h
  cases hf:l.foldl (uV (yU k (d+1)) d base) (.ok ([],s)) with
  | error x=>rw [hf]at h;injection h with h;subst h;exact go l [] s hf
  | ok x=>rw [hf]at h;cases h
theorem geo_err{l:List RegT}{e:Int}(h:geoP l = .error e):e≠0:=gDown_err 7 1 ⟨0,0,0⟩ l ⟨[],[]⟩ e h
end
section
theorem pos_inj{ns:List Tx}{a b:Tx}(ha:a∈ns)(h:pos ns a=pos ns b):a=b:=by
 rw[wY ha]at h;by_cases hb:b∈ns
 . rw[wY hb]at h;have e:ns.idxOf a=ns.idxOf b:=by omega
   have h1:=idx_lt ha;have h2:=idx_lt hb;have g1:=cU h1;have g2:=cU h2;rw [<- g1,<- g2];simp [e]
 . rw[pos_out hb]at h;omega
theorem pos_mem{ns l:List Tx}{x:Tx}(hl:∀r∈l,r∈ns):pos ns x∈l.map (pos ns)↔x∈l:=by
 constructor
 . intro h;obtain⟨r,hr,e⟩:=aB.1 h;rw [<- pos_inj (hl r hr) e];exact hr
 . exact λh=>aB.2 ⟨x,h,rfl⟩
def inN(m:MachT)(ns:List Tx)(c r:Int):Bool:=decide (0<=c) && match m.classes[c.toNat]? with
 | some k=>decide (r∈k.regs.map (pos ns))
 | none=>false
def wN(m:MachT)(ns:List Tx)(ps:List Pl)(c:Int):Int:=if 0<=c then match m.classes[c.toNat]? with
 | some k=>wdOf ns ps k
 | none=>0 else 0
def uN(ns l:List Tx):List Int:=(l.filter λx=>decide (x∈ns)).map (pos ns)
theorem sO{ns l:List Tx}(h:∀x∈l,x∈ns):uN ns l=l.map (pos ns):=by
 unfold uN;rw [d7.2 λx hx=>decide_eq_true (h x hx)]
theorem listN_snoc{ns l:List Tx}{i:Nat}{x:Tx}(h:l[i]? = some x):uN ns (l.take (i+1))=if x∈ns then uN ns (l.take i)++[pos ns x] else uN ns (l.take i):=by
 unfold uN;rw [yV h,dw];by_cases hx:x∈ns
 . simp[hx]
 . simp[hx]
def sP(m:MachT)(ns:List Tx)(o:OperT):List Int:=match vG m o.cls with
 | none=>[]
 | some c=>if o.fix=[] then c.regs.map (pos ns) else uN ns [o.fix]
def rR(ps:List Pl)(a b:Int):Bool:=decide (0<=a) && decide (0<=b) && match ps[a.toNat]?,ps[b.toNat]? with
 | some p,some q=>sU p q
 | _,_=>false
def clrN(ns:List Tx)(ps:List Pl)(o:OpT)(r:Int):Bool:=(uN ns o.clob).all λc=> !rR ps c r
def plN(ps:List Pl)(a:Int):Pl:=ps.getD a.toNat ⟨0,0,0⟩
theorem plN_pos{ns:List Tx}{ps:List Pl}{x:Tx}(h:x∈ns):plN ps (pos ns x)=yJ ns ps x:=by unfold plN yJ;rw [wY h];rfl
theorem lapN_at{ps:List Pl}{a b:Int}(ha:0<=a)(hb:0<=b)(ha2:a<ps.length)(fk:b<ps.length):rR ps a b=sU (plN ps a) (plN ps b):=by
 unfold rR plN;rw [decide_eq_true ha,decide_eq_true hb,aa qJ,aa qJ,aZ,aZ,aa qJ,aa qJ];rfl
theorem lapN_neg{ps:List Pl}{a b:Int}(hb:b<0):rR ps a b=false:=by
 unfold rR;rw [decide_eq_false (show ¬0<=b by omega)];simp
def rFits(m:MachT)(ns:List Tx)(ps:List Pl)(o:OpT)(A B:List Int):Bool:=if 0<=o.tie then A.any λa=>B.any λb=> !rR ps a b && (decide ((if o.tie=0 then a else b)∈sP m ns o.d) && clrN ns ps o (if o.tie=0 then a else b))
 else(A.any λa=>B.any λb=> !rR ps a b) && (sP m ns o.d).any (clrN ns ps o)
def secI(m:MachT)(ns:List Tx)(o:OpT):List Int:=match o.uses with
 | _::v::_=>sP m ns v
 | _=>[-1]
def firI(m:MachT)(ns:List Tx)(o:OpT):List Int:=match o.uses with
 | u::_=>sP m ns u
 | _=>[]
def rPair(ns:List Tx)(ps:List Pl)(a b:ClassT):Bool:=(a.regs.map (pos ns)).any λx=>(b.regs.map (pos ns)).any λy=> !rR ps x y
end
end Go.Ex.M
namespace Go.Ex
theorem Tch.dn{S:List Nat}{h h':zB}{n n' lo:Nat}(t:Tch S h n h' n')(hl:lo<=n)(hS:∀b∈S,lo<=b):Tch [] h lo h' n':=⟨aW hl t.1,λb hb _=>t.2 b qJ  λhx=>by have:=hS b hx;omega⟩
theorem Own.dnl{lo lo' n:Nat}{h:zB}{v:Value}{e sz len:Nat}{vs:List Value}(o:Own lo n h v e sz len vs)(hl:lo'<=lo):Own lo' n h v e sz len vs:=by
 rcases o with o|⟨b,q1,q2⟩
 . exact .inl o
 . exact .inr ⟨b,aW hl q1,q2⟩
theorem own_ne{lo lo' n n':Nat}{h:zB}{v v':Value}{e sz len e' sz' len':Nat}{vs vs':List Value}(o:Own lo n h v e sz len vs)(o':Own lo' n' h v' e' sz' len' vs')(eJ:e≠e'\/sz≠sz'):∀b,zH v=some b->b∉(zH v').toList:=λb hb hx=>by
 rcases o with⟨rfl,_⟩|⟨b1,_,_,rfl,q3,_⟩
 . cases hb
 rcases o' with⟨rfl,_⟩|⟨b2,_,_,rfl,p3,_⟩
 . cases hx
 injection hb with hb
 have hb:b1=b:=hb;have hx:b∈(some b2).toList:=hx;simp at hx;subst hb hx;rw [q3]at p3;injection p3 with p3
 injection p3 with _ p3
 injection p3 with p3 _
 obtain⟨a,b⟩:=zc_inj p3;omega
theorem yK{lo n b z:Nat}{h:zB}{v:Value}{e sz len:Nat}{vs ws:List Value}(c:Cel h b z 0 ws)(o:Own lo n h v e sz len vs):b∉(zH v).toList:=λhx=>by
 rcases o with⟨rfl,_⟩|⟨b2,_,_,rfl,p3,_⟩
 . cases hx
 have hx:b∈(some b2).toList:=hx;simp at hx;subst hx;rw [c.1]at p3;exact absurd (kd_of p3) qK 
theorem Cel.app{lo n n' b z:Nat}{h h':zB}{v:Value}{e sz len:Nat}{vs ws:List Value}(c:Cel h b z 0 ws)(o:Own lo n h v e sz len vs)(t:Tch (zH v).toList h n h' n')(hb:b<n):Cel h' b z 0 ws:=c.tch t hb (yK c o)
def Fp(n:Nat)(v v':Value):Prop:=∀b,zH v'=some b->zH v=some b\/n<=b
theorem Fp.refl(n:Nat)(v:Value):Fp n v v:=λ_ hb=>.inl hb
def Dj(v v':Value):Prop:=∀b,zH v=some b->zH v'≠some b
theorem Dj.comm{v v':Value}(d:Dj v v'):Dj v' v:=λb hb e=>d b e hb
theorem Dj.no{v v':Value}(d:Dj v v'):∀b,zH v=some b->b∉(zH v').toList:=λb hb hx=>by
 cases e:zH v' with
 | none=>rw [e]at hx;cases hx
 | some c=>rw [e]at hx;simp at hx;subst hx;exact d _ hb e
theorem sQ{lo lo' n n':Nat}{h:zB}{v v':Value}{e sz len e' sz' len':Nat}{vs vs':List Value}(o:Own lo n h v e sz len vs)(o':Own lo' n' h v' e' sz' len' vs')(eJ:e≠e'\/sz≠sz'):Dj v v':=λb hb e2=>own_ne o o' eJ b hb (by rw[e2];simp)
theorem Dj.fp{lo n n2:Nat}{h:zB}{v v2 v3:Value}{e sz len:Nat}{vs:List Value}(d:Dj v v2)(f:Fp n2 v2 v3)(o:Own lo n h v e sz len vs)(hn:n<=n2):Dj v v3:=λb hb e3=>by
 rcases f b e3 with h9|h9
 . exact d b hb h9
 . have:=(o.blk hb).2;omega
theorem appN{P:Program}{sT xT e sz:Nat}[A:ApC P sT xT e sz]{cx:Cx}{d:List Deferred}{u:Option zK}{h:zB}{n lo len m:Nat}{v x:Value}{vs new:List Value}{K:W->Value->Prop}(ho:Own lo n h v e sz len vs)(hr:Row n h x e sz m new)(hm:0<m)(h1:One new)(hlim:len+m<1000000)
(k:∀v' h' n',Own n n' h' v' e sz (len+m) (vs++new)->Tch (zH v).toList h n h' n'->K ⟨d,u,h',n'⟩ v'):BuB P cx .append [sT,xT] [v,x] d u h n K:=by
 have:=append_new (K:=λh' n' v'=>wE (K ⟨d,u,h',n'⟩ v')) A.ok ho hm hr hr.lens h1.all hlim λv' h' n' o a b=>isSo_iff.2 (k v' h' n' o ⟨a,λb' hb hS=>b b' hb λe=>hS (by rw[e];simp)⟩);exact this
theorem Dj.nil(v:Value):Dj (.slice none 0 0) v:=λb hb=>by cases hb
theorem vM{lo n n':Nat}{h h':zB}{v v':Value}{e sz len e' sz' len':Nat}{vs vs':List Value}(o:Own lo n h v e sz len vs)(o':Own n n' h' v' e' sz' len' vs'):Dj v v':=λb hb e2=>by
 have:=(o.blk hb).2;have:=(o'.blk e2).1;omega
theorem xX{lo n b0:Nat}{h:zB}{v:Value}{e sz len:Nat}{vs:List Value}(o:Own lo n h v e sz len vs)(hb:b0<lo):∀b,zH v=some b->b∉[b0]:=λb e=>by
 have:=(o.blk e).1;simp;omega
namespace M
theorem RowA.up{lo lo':Nat}{h:zB}{v:Value}{sz len:Nat}{vs:List Value}(r:RowA lo h v sz len vs)(hl:lo<=lo'):RowA lo' h v sz len vs:=λe=>(r e).up hl
theorem RowI.up{lo lo':Nat}{h:zB}{v:Value}{sz len:Nat}{vs:List Value}(r:RowI lo h v sz len vs)(hl:lo<=lo'):RowI lo' h v sz len vs:=⟨r.lt,_,(r 0).up hl⟩
theorem RowT.up{e lo lo':Nat}{h:zB}{v:Value}{sz len:Nat}{vs:List Value}(r:RowT e lo h v sz len vs)(hl:lo<=lo'):RowT e lo' h v sz len vs:=⟨r.lt,r.r.up hl⟩
theorem RegsM.up{lo lo':Nat}{h:zB}(hl:lo<=lo'):∀{sv:Value} {l:List RegT},RegsM lo h sv l->RegsM lo' h sv l:=by
  intro sv l r;unfold RegsM at r ⊢;exact⟨r.1.up hl,λx hx=>RegsM.up hl (r.2 x hx)⟩
 termination_by sv l=>SizeOf.sizeOf l
 decreasing_by
  have h1:=da hx;cases x
  simp only[RegT.subs];simp at h1;omega
theorem MachM.up{lo lo':Nat}{h:zB}{m:MachT}(hl:lo<=lo')(r:MachM lo h m):MachM lo' h m:=
 ⟨RegsM.up hl r.regs,r.cls.up hl,λc hc=>(r.clsr c hc).up hl,r.ops.up hl,λc hc=>(r.opsu c hc).up hl,λc hc=>(r.opsc c hc).up hl,r.args.up hl,r.saved.up hl,r.slots⟩
theorem cls_le{m:MachT}{i:Nat}{c:ClassT}(h:m.classes[i]? = some c):0<=xM m c.name/\xM m c.name<=(i:Nat):=by
 rcases vD (m:=m) (x:=c.name) with⟨h1,h2⟩|⟨j,c',h1,h2,h3,h4,h5⟩
 . exfalso
   have:=cS.1 h1 c (ae h);simp at this
 . refine⟨by omega,?_⟩;rcases aS i j with h9|h9
   . exfalso
     unfold xM at h3;have eG:=cG (p:=λc':ClassT=>decide (c'.name=c.name)) (xs:=m.classes) (i:=i)
     have e:m.classes.findIdx (λc':ClassT=>decide (c'.name=c.name))=j:=by
      unfold posF at h3;split at h3 <;> omega
     have:=eG (by rw[e];exact h9);obtain⟨q1,q2⟩:=ab.1 h;rw [q2]at this;simp at this
   . omega
theorem op_le{m:MachT}{i:Nat}{o:OpT}(h:m.ops[i]? = some o):0<=posF (λx:OpT=>decide (x.name=o.name)) m.ops/\posF (λx:OpT=>decide (x.name=o.name)) m.ops<=(i:Nat):=by
 rcases posF_cases (λx:OpT=>decide (x.name=o.name)) m.ops with⟨h1,h2⟩|⟨j,c',h1,h2,h3,h4,h5⟩
 . exfalso
   have:=cS.1 h1 o (ae h);simp at this
 . refine⟨by omega,?_⟩;rcases aS i j with h9|h9
   . exfalso
     have eG:=cG (p:=λx:OpT=>decide (x.name=o.name)) (xs:=m.ops) (i:=i)
     have e:m.ops.findIdx (λx:OpT=>decide (x.name=o.name))=j:=by
      unfold posF at h3;split at h3 <;> omega
     have:=eG (by rw[e];exact h9);obtain⟨q1,q2⟩:=ab.1 h;rw [q2]at this;simp at this
   . omega
theorem pos_first{l:List Tx}{k:Nat}{x:Tx}(h:l[k]? = some x):pos l x=(k:Nat)↔x∉l.take k:=by
 constructor
 . intro e hx;obtain⟨j,hj⟩:=aj.1 hx;have gq:j<k:=by have:=(ab.1 hj).1;rw [aI]at this;omega
   rw[aJ gq]at hj;rw [wY (ae h)]at e;have:=cG (p:=(· == x)) (xs:=l) (i:=j) (by show j<l.idxOf x;omega);obtain⟨q1,q2⟩:=ab.1 hj;rw [q2]at this;simp at this
 . intro hx
   exact pos_hit h λj hj e=>hx (by
    have:(l.take k)[j]? = some x:=by rw[aJ hj];exact e
    exact ae this)
theorem gDown_ge:∀(k:Nat) (d:Int) (base:Pl) (l:List RegT) (s s':GSt),yU k d base l s = .ok s'->s.ns.length<=s'.ns.length:=by
 intro k
 induction k with
 | zero=>
  intro d base l s s' h;unfold yU at h;injection h with h
  exact h ▸ ad _
 | succ k ih =>
  intro d base l s s' h
  have go:∀(l:List RegT) (sibs:List Pl) (s:GSt) (x:List Pl×GSt),l.foldl (uV (yU k (d+1)) d base) (.ok (sibs,s)) = .ok x->s.ns.length<=x.2.ns.length:=by
   intro l
   induction l with
   | nil=>
    intro sibs s x h;injection h with h
    exact h ▸ ad _
   | cons r l ihl =>
    intro sibs s x h;rw [cz]at h
    cases hg:sV d base sibs s r with
    | error e=>rw [gStep_e1 hg,wC]at h;cases h
    | ok p =>
     cases hr:yU k (d+1) p r.subs ⟨s.ns++[r.name],s.ps++[p]⟩ with
     | error e=>rw [gStep_e2 hg hr,wC]at h;cases h
     | ok s2=>
      rw[gStep_ok hg hr]at h;have h1:=ih _ _ _ _ _ hr;have h2:=ihl _ _ _ h;have h3:(s.ns++[r.name]).length<=s2.ns.length:=h1;rw [ah]at h3;omega
  unfold yU at h
  cases hf:l.foldl (uV (yU k (d+1)) d base) (.ok ([],s)) with
  | error e=>rw [hf]at h;cases h
  | ok x=>
   rw[hf]at h;injection h with h
   exact h ▸ go l [] s x hf
section
variable {d:Int} {base:Pl} {sibs:List Pl} {s:GSt} {r:RegT}
theorem gOne4(h:6<d):sV d base sibs s r = .error 4:=if_pos h
theorem gOne2(h1:¬6<d)(h2:200<=s.ns.length):sV d base sibs s r = .error 2:=by unfold sV;rw [if_neg h1,if_pos h2]
theorem gOne5(h1:¬6<d)(h2:¬200<=s.ns.length)(h3:named r.name=false\/r.name∈s.ns):sV d base sibs s r = .error 5:=by unfold sV;rw [if_neg h1,if_neg h2,if_pos h3]
theorem gOne6(h1:¬6<d)(h2:¬200<=s.ns.length)(h3:named r.name=true)(h4:r.name∉s.ns)(h5:r.w<1\/64<r.w\/r.a<0\/(d=1/\r.a≠0)\/(d≠1/\base.width - r.w<r.a)):sV d base sibs s r = .error 6:=by
 unfold sV;rw [if_neg h1,if_neg h2,if_neg (by rw[h3];simp [h4]),if_pos h5]
theorem gOne7(h1:¬6<d)(h2:¬200<=s.ns.length)(h3:named r.name=true)(h4:r.name∉s.ns)(h5:¬(r.w<1\/64<r.w\/r.a<0\/(d=1/\r.a≠0)\/(d≠1/\base.width - r.w<r.a)))(h6:sibs.any (sU (gPl d base sibs r))=true):sV d base sibs s r = .error 7:=by
 unfold sV;rw [if_neg h1,if_neg h2,if_neg (by rw[h3];simp [h4]),if_neg h5,if_pos h6]
theorem gOneK(h1:¬6<d)(h2:¬200<=s.ns.length)(h3:named r.name=true)(h4:r.name∉s.ns)(h5:¬(r.w<1\/64<r.w\/r.a<0\/(d=1/\r.a≠0)\/(d≠1/\base.width - r.w<r.a)))(h6:sibs.any (sU (gPl d base sibs r))=false):sV d base sibs s r = .ok (gPl d base sibs r):=by
 unfold sV;rw [if_neg h1,if_neg h2,if_neg (by rw[h3];simp [h4]),if_neg h5,if_neg (by rw[h6];decide)]
theorem any_no{α : Type}{l:List α}{f: α->Bool}(h:∀(i:Nat) x,l[i]? = some x->f x=false):l.any f=false:=by
 cases e:l.any f with
 | false=>rfl
 | true=>
  obtain⟨x,hx,e2⟩:=ap.1 e;obtain⟨i,hi⟩:=aj.1 hx;rw [h i x hi]at e2;cases e2
end
end M
end Go.Ex
namespace Go.Ex.M
section
section
variable {m:MachT} {ns:List Tx} {ps:List Pl}
structure CsOK (m:MachT) (ns:List Tx):Prop where
 ix:∀(i:Nat) c,m.classes[i]? = some c->xM m c.name=(i:Nat)
 ne:∀(i:Nat) c,m.classes[i]? = some c->1<=c.regs.length
 mem:∀(i:Nat) c,m.classes[i]? = some c->∀r∈c.regs,r∈ns
 nd:∀(i:Nat) c,m.classes[i]? = some c->c.regs.Nodup
theorem nodup_pos{l:List Tx}(h:∀(j:Nat) r,l[j]? = some r->pos l r=(j:Nat)):l.Nodup:=by
 refine List.pairwise_iff_getElem.2 λi j hi hj hij e=>?_;have a:=h i _ (aa hi);have b:=h j _ (aa hj);rw [<- e]at b;omega
theorem CsOK.of(h:ClsErr m ns ps 0):CsOK m ns:=by
 obtain⟨_,h⟩:=h.ok;refine⟨λi c hc=>(h i c hc).1.2.1,λi c hc=>(h i c hc).2.1,λi c hc r hr=>?_,λi c hc=>nodup_pos λj r hj=>((h i c hc).2.2.2 j r hj).2.1⟩;obtain⟨j,hj⟩:=aj.1 hr;exact((h i c hc).2.2.2 j r hj).1
theorem cls_of(hc:CsOK m ns){i:Nat}{c:ClassT}(h:m.classes[i]? = some c):vG m c.name=some c:=by
 have h1:=hc.ix i c h;rcases vD (m:=m) (x:=c.name) with⟨_,h3⟩|⟨j,c',h2,h3,h4,h5,h6⟩
 . rw[h1]at h3;omega
 . have:j=i:=by rw[h1]at h4;omega
   subst this;rw [h]at h3;cases h3;exact h2
theorem filter_one{l:List Tx}{x:Tx}(hn:l.Nodup)(hx:x∈l):l.filter (λr=>decide (x=r))=[x]:=by
 induction l with
 | nil=>cases hx
 | cons a l ih=>
  rw[List.nodup_cons]at hn;rw [List.filter_cons];by_cases e:x=a
  . subst e;rw [if_pos qL];congr 1
    rw[List.filter_eq_nil_iff];intro b hb;simp
    rintro rfl
    exact hn.1 hb
  . rw[if_neg (by simpa using e)];exact ih hn.2 ((au.1 hx).resolve_left e)
theorem mayL_eq(hc:CsOK m ns){o:OperT}(ho:uB m o=true):tL m ns ps o=(sP m ns o).map (plN ps)/\∀a∈sP m ns o,∃r∈ns,a=pos ns r:=by
 unfold uB at ho;unfold tL sP;rcases vD (m:=m) (x:=o.cls) with⟨h1,h2⟩|⟨i,c,h1,h2,h3,h4,h5⟩
 . rw[h1]at ho;cases ho
 . rw[h1]at ho ⊢;dsimp only at ho ⊢;have eQ:=hc.mem i c h2;by_cases hf:o.fix=[]
   . rw[if_pos hf];have e1:c.regs.filter (mayF o)=c.regs:=d7.2 λr _=>by unfold mayF;rw [decide_eq_true hf];rfl
     rw[e1,cV];refine⟨List.map_congr_left λr hr=>(plN_pos (eQ r hr)).symm,λa ha=>?_⟩;obtain⟨r,hr,rfl⟩:=aB.1 ha;exact⟨r,eQ r hr,rfl⟩
   . rw[if_neg hf]
     have md:o.fix∈c.regs:=by
      rw[decide_eq_false hf]at ho;simpa using ho
     have e1:c.regs.filter (mayF o)=[o.fix]:=by
      have:mayF o=λr=>decide (o.fix=r):=by funext r;unfold mayF;rw [decide_eq_false hf];rfl
      rw[this];exact filter_one (hc.nd i c h2) md
     have hn:=eQ _ md;have e2:uN ns [o.fix]=[pos ns o.fix]:=sO λx hx=>by simp at hx;subst hx;exact hn
     rw[e1,e2];refine⟨by simp[plN_pos hn],λa ha=>?_⟩;simp at ha;exact⟨o.fix,hn,ha⟩
theorem lapN_pp(hl:ps.length=ns.length){a b:Int}(ha:∃r∈ns,a=pos ns r)(hb:∃r∈ns,b=pos ns r):rR ps a b=sU (plN ps a) (plN ps b):=by
 obtain⟨r,hr,rfl⟩:=ha;obtain⟨q,hq,rfl⟩:=hb;have h1:=idx_lt hr;have h2:=idx_lt hq;rw [wY hr,wY hq];exact lapN_at qJ qJ qJ qJ 
theorem clrN_eq(hl:ps.length=ns.length){o:OpT}(hc:∀r∈o.clob,r∈ns){a:Int}(ha:∃r∈ns,a=pos ns r):clrN ns ps o a=sparB ns ps o (plN ps a):=by
 unfold clrN sparB;rw [sO hc,List.all_map];refine bL.2 ?_;rw [aH,aH]
 have e:∀r∈o.clob,(!rR ps (pos ns r) a) = !sU (plN ps a) (yJ ns ps r):=λr hr=>by
  rw[lapN_pp hl ⟨r,hc r hr,rfl⟩ ha,plN_pos (hc r hr),uW]
 exact⟨λh r hr=>by rw[<- e r hr];exact h r hr,λh r hr=>by show(!rR ps (pos ns r) a)=true;rw [e r hr];exact h r hr⟩
theorem fits_eq(hc:CsOK m ns)(hl:ps.length=ns.length){o:OpT}(hu:o.uses.length=1\/o.uses.length=2)(hd:uB m o.d=true)(hus:∀u∈o.uses,uB m u=true)(eX:∀r∈o.clob,r∈ns)(ht:o.tie<o.uses.length)(mH:0<=o.tie->o.uses[o.tie.toNat]? = some o.d):rFits m ns ps o (firI m ns o) (secI m ns o)=fitsB m ns ps o:=by
 obtain⟨dL,dI⟩:=mayL_eq (ps:=ps) hc hd
 have dany:(sP m ns o.d).any (clrN ns ps o)=(tL m ns ps o.d).any (sparB ns ps o):=by
  rw[dL,dx]
  exact bL.2 (by
   rw[ap,ap];exact⟨λ⟨a,h1,h2⟩=>⟨a,h1,by rw[clrN_eq hl eX (dI a h1)]at h2;exact h2⟩,λ⟨a,h1,h2⟩=>⟨a,h1,by rw[clrN_eq hl eX (dI a h1)];exact h2⟩⟩)
 refine bL.2 ?_;rcases hus2:o.uses with _|⟨u,_|⟨v,_|⟨w,r⟩⟩⟩
 . rw[hus2]at hu;simp at hu
 . have kZ:=hus u (by rw[hus2];simp);obtain⟨uL,uI⟩:=mayL_eq (ps:=ps) hc kZ;have eA:firI m ns o=sP m ns u:=by unfold firI;rw [hus2]
   have eB:secI m ns o=[-1]:=by unfold secI;rw [hus2]
   have eC:chL m ns ps o=(tL m ns ps u).map λp=>[p]:=by unfold chL;rw [hus2]
   unfold fitsB rFits;rw [eA,eB,eC,uL,cV,dx];have my:∀a,rR ps a (-1)=false:=λa=>lapN_neg qK;by_cases htie:0<=o.tie
   . have fX:o.tie=0:=by rw[hus2]at ht;simp at ht;omega
     have mL:u=o.d:=by have:=mH htie;rw [hus2,fX]at this;exact Option.some.inj this
     rw[if_pos htie,ap,ap]
     have key:∀a∈sP m ns u,([-1].any λb=> !rR ps a b && (decide ((if o.tie=0 then a else b)∈sP m ns o.d) && clrN ns ps o (if o.tie=0 then a else b)))=defB m ns ps o [plN ps a]:=λa ha=>by
      simp only[dN,List.any_nil,eu,my,d9,dK];rw [if_pos fX,<- mL,decide_eq_true ha,clrN_eq hl eX (uI a ha)];unfold defB;rw [if_pos htie,fX];rfl
     exact⟨λ⟨a,h1,h2⟩=>⟨a,h1,by rw[key a h1]at h2;exact h2⟩,λ⟨a,h1,h2⟩=>⟨a,h1,by rw[key a h1];exact h2⟩⟩
   . rw[if_neg htie,dany];have e1:∀l,defB m ns ps o l=(tL m ns ps o.d).any (sparB ns ps o):=λl=>by unfold defB;rw [if_neg htie]
     constructor
     . intro h;obtain⟨h,h2⟩:=ak.1 h;obtain⟨a,h1,_⟩:=ap.1 h;exact ap.2 ⟨a,h1,by show defB m ns ps o _=true;rw [e1];exact h2⟩
     . intro h;obtain⟨a,h1,h2⟩:=ap.1 h;have h2:defB m ns ps o _=true:=h2;rw [e1]at h2;exact ak.2 ⟨ap.2 ⟨a,h1,by simp[my]⟩,h2⟩
 . have kZ:=hus u (by rw[hus2];simp);have fC:=hus v (by rw[hus2];simp);obtain⟨uL,uI⟩:=mayL_eq (ps:=ps) hc kZ;obtain⟨vL,vI⟩:=mayL_eq (ps:=ps) hc fC;have eA:firI m ns o=sP m ns u:=by unfold firI;rw [hus2]
   have eB:secI m ns o=sP m ns v:=by unfold secI;rw [hus2]
   have eC:∀l,l∈chL m ns ps o↔∃a∈sP m ns u,∃b∈sP m ns v,rR ps a b=false/\l=[plN ps a,plN ps b]:=λl=>by
    unfold chL;rw [hus2];dsimp only;rw [uL,vL,bE];constructor
    . rintro ⟨p,hp,h⟩
      obtain⟨a,ha,rfl⟩:=aB.1 hp;obtain⟨q,hq,rfl⟩:=aB.1 h;obtain⟨hq1,iQ⟩:=b7.1 hq;obtain⟨b,hb,rfl⟩:=aB.1 hq1;exact⟨a,ha,b,hb,by rw[lapN_pp hl (uI a ha) (vI b hb)];simpa using iQ,rfl⟩
    . rintro ⟨a,ha,b,hb,h,rfl⟩
      exact⟨_,aB.2 ⟨a,ha,rfl⟩,aB.2 ⟨_,b7.2 ⟨aB.2 ⟨b,hb,rfl⟩,by rw[<- lapN_pp hl (uI a ha) (vI b hb),h];rfl⟩,rfl⟩⟩
   unfold fitsB rFits;rw [eA,eB];by_cases htie:0<=o.tie
   . rw[if_pos htie,ap,ap]
     have key:∀a∈sP m ns u,∀b∈sP m ns v,(decide ((if o.tie=0 then a else b)∈sP m ns o.d) && clrN ns ps o (if o.tie=0 then a else b))=defB m ns ps o [plN ps a,plN ps b]:=λa ha b hb=>by
      unfold defB;rw [if_pos htie];rcases(show o.tie=0\/o.tie=1 by rw[hus2]at ht;simp at ht;omega) with fX|fX
      . have mL:u=o.d:=by have:=mH htie;rw [hus2,fX]at this;exact Option.some.inj this
        rw[if_pos fX,<- mL,decide_eq_true ha,clrN_eq hl eX (uI a ha),fX];rfl
      . have mL:v=o.d:=by have:=mH htie;rw [hus2,fX]at this;exact Option.some.inj this
        rw[if_neg qJ,<- mL,decide_eq_true hb,clrN_eq hl eX (vI b hb),fX];rfl
     constructor
     . rintro ⟨a,ha,h⟩
       obtain⟨b,hb,h⟩:=ap.1 h;rw [bu,key a ha b hb]at h;exact⟨_,(eC _).2 ⟨a,ha,b,hb,by simpa using h.1,rfl⟩,h.2⟩
     . rintro ⟨l,fF,h⟩
       obtain⟨a,ha,b,hb,h1,rfl⟩:=(eC l).1 fF;exact⟨a,ha,ap.2 ⟨b,hb,by rw[bu,key a ha b hb];exact⟨by rw[h1];rfl,h⟩⟩⟩
   . rw[if_neg htie,dany];have e1:∀l,defB m ns ps o l=(tL m ns ps o.d).any (sparB ns ps o):=λl=>by unfold defB;rw [if_neg htie]
     constructor
     . intro h;obtain⟨h,h2⟩:=ak.1 h;obtain⟨a,ha,h⟩:=ap.1 h;obtain⟨b,hb,h⟩:=ap.1 h;exact ap.2 ⟨_,(eC _).2 ⟨a,ha,b,hb,by simpa using h,rfl⟩,by rw[e1];exact h2⟩
     . intro h;obtain⟨l,fF,h⟩:=ap.1 h;obtain⟨a,ha,b,hb,h1,rfl⟩:=(eC l).1 fF;rw [e1]at h;exact ak.2 ⟨ap.2 ⟨a,ha,ap.2 ⟨b,hb,by rw[h1];rfl⟩⟩,h⟩
 . rw[hus2]at hu;simp at hu
theorem pair_eq(hc:CsOK m ns)(hl:ps.length=ns.length){i j:Nat}{a b:ClassT}(ha:m.classes[i]? = some a)(hb:m.classes[j]? = some b):rPair ns ps a b=qF m ns ps ⟨a.name,[]⟩ ⟨b.name,[]⟩:=by
 have e:∀{i:Nat} {c:ClassT},m.classes[i]? = some c->tL m ns ps ⟨c.name,[]⟩=c.regs.map (yJ ns ps):=fun {i c} h=>by
  unfold tL;rw [cls_of hc h];dsimp only;have e1:c.regs.filter (mayF ⟨c.name,[]⟩)=c.regs:=d7.2 λr _=>rfl;rw [e1]
 unfold rPair qF;rw [e ha,e hb,dx,dx];refine bL.2 ?_;rw [ap,ap]
 have key:∀x∈a.regs,(((b.regs.map (pos ns)).any λy=> !rR ps (pos ns x) y)=true)↔(((b.regs.map (yJ ns ps)).any λq=> !sU (yJ ns ps x) q)=true):=λx hx=>by
  rw[dx,dx,ap,ap]
  have k2:∀y∈b.regs,(!rR ps (pos ns x) (pos ns y)) = !sU (yJ ns ps x) (yJ ns ps y):=λy hy=>by
   rw[lapN_pp hl ⟨x,hc.mem _ _ ha x hx,rfl⟩ ⟨y,hc.mem _ _ hb y hy,rfl⟩,plN_pos (hc.mem _ _ ha x hx),plN_pos (hc.mem _ _ hb y hy)]
  exact⟨λ⟨y,h1,h2⟩=>⟨y,h1,by have h2:(!rR ps (pos ns x) (pos ns y))=true:=h2;rw [k2 y h1]at h2;exact h2⟩,λ⟨y,h1,h2⟩=>⟨y,h1,by show(!rR ps (pos ns x) (pos ns y))=true;rw [k2 y h1];exact h2⟩⟩
 exact⟨λ⟨x,h1,h2⟩=>⟨x,h1,(key x h1).1 h2⟩,λ⟨x,h1,h2⟩=>⟨x,h1,(key x h1).2 h2⟩⟩
theorem pairBB_comm(a b:OperT):qF m ns ps a b=qF m ns ps b a:=by
 unfold qF;refine bL.2 ?_;rw [ap,ap];constructor
 . rintro ⟨p,hp,h⟩
   obtain⟨q,hq,h⟩:=ap.1 h;exact⟨q,hq,ap.2 ⟨p,hp,by rw[uW];exact h⟩⟩
 . rintro ⟨p,hp,h⟩
   obtain⟨q,hq,h⟩:=ap.1 h;exact⟨q,hq,ap.2 ⟨p,hp,by rw[uW];exact h⟩⟩
end
end
section
structure InsT where
 kind:Int
 d:Int
 a:Int
 b:Int
 n:Int
 name:Tx
 av:Value
 args:List Int
 t:Int
 f:Int
abbrev wZ(i:InsT):List Value:=[I64 i.kind,I64 i.d,I64 i.a,I64 i.b,I64 i.n,str i.name,i.av,I64 i.t,I64 i.f]
structure InsM (lo:Nat) (h:zB) (i:InsT):Prop where
 ar:RowT 3 lo h i.av 1 i.args.length (i.args.map I64)
 al:i.args.length<wM
 ag:∀x∈i.args,uT x
 g:uT i.d/\uT i.a/\uT i.b
 gn:uT i.n
 nl:i.name.length<wM
structure CodeT where
 name:Tx
 slots:Int
 bv:Value
 blocks:List (Value×List InsT)
abbrev yQ(c:CodeT):List Value:=[str c.name,I64 c.slots,c.bv]
structure CodeM (lo:Nat) (h:zB) (c:CodeT):Prop where
 nl:c.name.length<wM
 bl:RowI lo h c.bv 1 c.blocks.length (c.blocks.map (·.1))
 bll:c.blocks.length<wM
 el:∀x∈c.blocks,RowI lo h x.1 9 x.2.length (x.2.flatMap wZ)/\x.2.length<wM
 ins:∀x∈c.blocks,∀i∈x.2,InsM lo h i
theorem InsM.tch{lo n n':Nat}{h h':zB}{i:InsT}(k:InsM lo h i)(t:Tch [] h n h' n')(hl:lo<=n):InsM lo h' i:=⟨k.ar.tch t hl,k.al,k.ag,k.g,k.gn,k.nl⟩
theorem CodeM.tch{lo n n':Nat}{h h':zB}{c:CodeT}(k:CodeM lo h c)(t:Tch [] h n h' n')(hl:lo<=n):CodeM lo h' c:=⟨k.nl,k.bl.tch t hl,k.bll,λx hx=>⟨(k.el x hx).1.tch t hl,(k.el x hx).2⟩,λx hx i hi=>(k.ins x hx i hi).tch t hl⟩
def yS(i:InsT):List Int:=if i.kind=1\/i.kind=11\/i.kind=2\/i.kind=4\/i.kind=3 then [i.d] else []
def yO(i:InsT):List Int:=if i.kind=2\/i.kind=4\/i.kind=7\/i.kind=10 then [i.a] else if i.kind=3 then i.args else if i.kind=5 then [i.a,i.b] else []
def endB(k:Int):Bool:=decide (k=7) || decide (k=8) || decide (k=9)
def inR(k:Int)(n:Nat):Bool:=decide (0<=k) && decide (k<(n:Nat))
def opAt(m:MachT)(x:Tx):Option OpT:=m.ops.find? λo=>decide (o.name=x)
def mayB(m:MachT)(ns:List Tx)(ps:List Pl)(o:OpT)(k:Nat)(x:OperT)(r:Int):Bool:=decide (r∈sP m ns x) && (decide (k≠0) || clrN ns ps o r)
def vH(m:MachT)(i:InsT)(last:Bool):Bool:=decide (1<=i.kind) && decide (i.kind<=11) && (endB i.kind == last) &&
  (if i.kind=3 then match opAt m i.name with|some o=>decide (i.args.length=o.uses.length)|none=>false
   else if i.kind=6 then xL i.name && decide (0<=i.n) && decide (i.n<=(m.args.length:Nat)) && (decide (i.d = -1) || decide (i.d=0)) else true)
def opsB(m:MachT)(ns:List Tx)(ps:List Pl)(i:InsT)(o:OpT):Bool:=mayB m ns ps o 0 o.d i.d && ((i.args.zip o.uses).all λp=>mayB m ns ps o 1 p.2 p.1) && (decide (o.tie<0) || (decide (i.args[o.tie.toNat]? = some i.d)))
def widthA(ps:List Pl)(r:Int):Int:=match ps[r.toNat]? with|some p=>p.width|none=>0
def uC(m:MachT)(ns:List Tx)(ps:List Pl)(slots:Int)(nb:Nat)(i:InsT)(last:Bool):Int:=
 if vH m i last=false then 22
 else if ((yS i++yO i).all λr=>inR r ns.length)=false then 23
 else if i.kind=2 then(if widthA ps i.d=widthA ps i.a then 0 else 23)
 else if i.kind=3 then(match opAt m i.name with|some o=>if opsB m ns ps i o then 0 else 23|none=>23)
 else if i.kind=10\/i.kind=11 then(if 0<=i.n/\i.n<slots then 0 else 24)
 else if i.kind=7 then(if inR i.t nb && inR i.f nb then 0 else 20)
 else if i.kind=8 then(if inR i.t nb then 0 else 20)
 else 0
def BlkOK(m:MachT)(ns:List Tx)(ps:List Pl)(c:CodeT)(l:List InsT):Prop:=(1<=l.length/\l.length<=25600)/\∀(q:Nat) i,l[q]? = some i->uC m ns ps c.slots c.blocks.length i (decide (q=l.length - 1))=0
def CodeE(m:MachT)(ns:List Tx)(ps:List Pl)(c:CodeT)(b k e:Int):Prop:=
 (200<c.blocks.length/\b=0/\k=0/\e=2)\/(c.blocks.length<=200/\(
 (xL c.name=false/\b=0/\k=0/\e=5)\/(xL c.name=true/\(
 (¬(0<=c.slots/\c.slots<=m.slots)/\b=0/\k=0/\e=24)\/((0<=c.slots/\c.slots<=m.slots)/\(
 (c.blocks.length=0/\b=0/\k=0/\e=20)\/(0<c.blocks.length/\(
 ((∀(j:Nat) x,c.blocks[j]? = some x->BlkOK m ns ps c x.2)/\b=0/\k=0/\e=0)\/
 ∃(j:Nat) (x:Value×List InsT),c.blocks[j]? = some x/\(∀(j':Nat) x',j'<j->c.blocks[j']? = some x'->BlkOK m ns ps c x'.2)/\b=(j:Nat)/\
  ((¬(1<=x.2.length/\x.2.length<=25600)/\k=0/\e=20)\/((1<=x.2.length/\x.2.length<=25600)/\∃(q:Nat) (i:InsT),x.2[q]? = some i/\
   (∀(q':Nat) i',q'<q->x.2[q']? = some i'->uC m ns ps c.slots c.blocks.length i' (decide (q'=x.2.length - 1))=0)/\k=(q:Nat)/\e=uC m ns ps c.slots c.blocks.length i (decide (q=x.2.length - 1))/\e≠0))))))))))
theorem codeE_fun{m:MachT}{ns:List Tx}{ps:List Pl}{c:CodeT}{b k e b' k' e':Int}(h:CodeE m ns ps c b k e)(h':CodeE m ns ps c b' k' e'):b=b'/\k=k'/\e=e':=by
 rcases h with⟨h1,rfl,rfl,rfl⟩|⟨h1,h⟩
 . rcases h' with⟨_,rfl,rfl,rfl⟩|⟨h2,_⟩
   . exact⟨rfl,rfl,rfl⟩
   . omega
 rcases h' with⟨h2,_⟩|⟨_,h'⟩
 . omega
 rcases h with⟨h1,rfl,rfl,rfl⟩|⟨h1,h⟩
 . rcases h' with⟨_,rfl,rfl,rfl⟩|⟨h2,_⟩
   . exact⟨rfl,rfl,rfl⟩
   . rw[h1]at h2;cases h2
 rcases h' with⟨h2,_⟩|⟨_,h'⟩
 . rw[h1]at h2;cases h2
 rcases h with⟨h1,rfl,rfl,rfl⟩|⟨h1,h⟩
 . rcases h' with⟨_,rfl,rfl,rfl⟩|⟨h2,_⟩
   . exact⟨rfl,rfl,rfl⟩
   . exact absurd h2 h1
 rcases h' with⟨h2,_⟩|⟨_,h'⟩
 . exact absurd h1 h2
 rcases h with⟨h1,rfl,rfl,rfl⟩|⟨h1,h⟩
 . rcases h' with⟨_,rfl,rfl,rfl⟩|⟨h2,_⟩
   . exact⟨rfl,rfl,rfl⟩
   . omega
 rcases h' with⟨h2,_⟩|⟨_,h'⟩
 . omega
 have bad:∀{x:Value×List InsT} {k e:Int},((¬(1<=x.2.length/\x.2.length<=25600)/\k=0/\e=20)\/((1<=x.2.length/\x.2.length<=25600)/\∃(q:Nat) (i:InsT),x.2[q]? = some i/\(∀(q':Nat) i',q'<q->x.2[q']? = some i'->uC m ns ps c.slots c.blocks.length i' (decide (q'=x.2.length - 1))=0)/\k=(q:Nat)/\e=uC m ns ps c.slots c.blocks.length i (decide (q=x.2.length - 1))/\e≠0))->¬BlkOK m ns ps c x.2:=λhx hb=>by
  rcases hx with⟨h9,_⟩|⟨_,q,i,h9,_,_,h8,h7⟩
  . exact h9 hb.1
  . exact h7 (by rw[h8];exact hb.2 q i h9)
 rcases h with⟨h1,rfl,rfl,rfl⟩|⟨j,x,h1,h2,rfl,h3⟩
 . rcases h' with⟨_,rfl,rfl,rfl⟩|⟨j,x,h4,_,_,h5⟩
   . exact⟨rfl,rfl,rfl⟩
   . exact absurd (h1 j x h4) (bad h5)
 rcases h' with⟨h4,_⟩|⟨j',x',g1,g2,rfl,g3⟩
 . exact absurd (h4 j x h1) (bad h3)
 rcases cn j j' with h9|rfl|h9
 . exact absurd (g2 j x h9 h1) (bad h3)
 . rw[h1]at g1;cases g1;refine⟨rfl,?_⟩;rcases h3 with⟨h3,rfl,rfl⟩|⟨h3,q,i,h4,h5,rfl,h6,h7⟩
   . rcases g3 with⟨_,rfl,rfl⟩|⟨g3,_⟩
     . exact⟨rfl,rfl⟩
     . exact absurd g3 h3
   . rcases g3 with⟨g3,_⟩|⟨_,q',i',g4,g5,rfl,g6,g7⟩
     . exact absurd h3 g3
     . rcases cn q q' with h9|rfl|h9
       . exact absurd (h6.trans (g5 q i h9 h4)) h7
       . rw[h4]at g4;cases g4;exact⟨rfl,h6.trans g6.symm⟩
       . exact absurd (g6.trans (h5 q' i' h9 g4)) g7
 . exact absurd (h2 j' x' h9 g1) (bad g3)
end
end Go.Ex.M
namespace Go.Proofs.YtdiejolnllipnaaGreatDoor
open Go Go.Ex Go.Ex.M Go.RowKit
set_option maxRecDepth 100000
section
section
variable {H:Type} {enc:TypeId×Value->H} {W:World} {b0:Nat} {tabs:List (Nat×List Value)}
theorem nine{l:List Value}(h:l.length=9):∃c0 c1 c2 c3 c4 c5 c6 c7 c8,l=[c0,c1,c2,c3,c4,c5,c6,c7,c8]:=by
 match l,h with
 | [c0,c1,c2,c3,c4,c5,c6,c7,c8],_=>exact⟨c0,c1,c2,c3,c4,c5,c6,c7,c8,rfl⟩
theorem zii1:P.cellsOf 49=1:=by kernel_rfl
theorem ints_El(h0:H0 b0 W tabs){k:Nat}{cs:List Value}(h:ElF enc W k 49 cs):∃(v:Value) (l:List Int),cs=[v]/\Told b0 W v/\RowA W.heap.size (qH b0 W tabs) (uY b0 v) 1 l.length (l.map I64)/\l.length<wM/\∀x∈l,uT x:=by
 obtain⟨v,ess,h1,h2,h3,h4,h5⟩:=rF h0 Tryz.underlying49 (e:=3) (sz:=1) qN  (ad _) (of_decide_eq_true qN) (λn c _ hc=>by
  obtain⟨s,rfl,_⟩:=rE hc;exact⟨rfl,λv hv=>by rw[aq.1 hv];exact I64_told s⟩) h
 obtain⟨l,g1,g2,g3⟩:=flat_of (b0:=b0) (λs:Int=>[I64 s]) uT λc hc=>by
  obtain⟨n,_,hc⟩:=h3 c hc;obtain⟨s,rfl,hs⟩:=rE hc;exact⟨s,rfl,hs⟩
 rw[fm_one]at g1;rw [g1,<- g2]at h4;exact⟨v,l,h1,h2,h4,by omega,g3⟩
theorem inss_El(h0:H0 b0 W tabs){k:Nat}{cs:List Value}(h:ElF enc W k 52 cs):∃(v:Value) (l:List InsT),cs=[v]/\Told b0 W v/\RowA W.heap.size (qH b0 W tabs) (uY b0 v) 9 l.length (l.flatMap wZ)/\l.length<wM/\∀i∈l,InsM W.heap.size (qH b0 W tabs) i:=by
 have hel:∀n c,ElF enc W n 51 c->c.length=9/\(∀v∈c,Told b0 W v)/\∃r:InsT,c.map (uY b0)=wZ r/\InsM W.heap.size (qH b0 W tabs) r:=by
  intro n c hc;obtain⟨hl,n',rfl,hf⟩:=uU Tryz.underlying51 hc;have hl:c.length=9:=hl.trans qN;obtain⟨c0,c1,c2,c3,c4,c5,c6,c7,c8,rfl⟩:=nine hl;have f0:ElF enc W n' 3 [c0]:=ElF.one (off:=0) (hf 0 _ rfl) zi1 rfl;have f1:ElF enc W n' 3 [c1]:=ElF.one (off:=1) (hf 1 _ rfl) zi1 rfl;have f2:ElF enc W n' 3 [c2]:=ElF.one (off:=2) (hf 2 _ rfl) zi1 rfl;have f3:ElF enc W n' 3 [c3]:=ElF.one (off:=3) (hf 3 _ rfl) zi1 rfl;have f4:ElF enc W n' 3 [c4]:=ElF.one (off:=4) (hf 4 _ rfl) zi1 rfl;have f5:ElF enc W n' 9 [c5]:=ElF.one (off:=5) (hf 5 _ rfl) zs1 rfl;have f6:ElF enc W n' 49 [c6]:=ElF.one (off:=6) (hf 6 _ rfl) zii1 rfl;have f7:ElF enc W n' 3 [c7]:=ElF.one (off:=7) (hf 7 _ rfl) zi1 rfl;have f8:ElF enc W n' 3 [c8]:=ElF.one (off:=8) (hf 8 _ rfl) zi1 rfl;obtain⟨n0,e0,g0⟩:=rE f0;obtain⟨n1,e1,g1⟩:=rE f1;obtain⟨n2,e2,g2⟩:=rE f2;obtain⟨n3,e3,g3⟩:=rE f3;obtain⟨n4,e4,g4⟩:=rE f4;obtain⟨s5,e5,g5⟩:=qC f5;obtain⟨v6,l6,e6,t6,r6,x6,y6⟩:=ints_El h0 f6;obtain⟨n7,e7,g7⟩:=rE f7;obtain⟨n8,e8,g8⟩:=rE f8
  injection e0 with e0 _;injection e1 with e1 _;injection e2 with e2 _;injection e3 with e3 _;injection e4 with e4 _;injection e5 with e5 _;injection e6 with e6 _;injection e7 with e7 _;injection e8 with e8 _
  subst e0 e1 e2 e3 e4 e5 e6 e7 e8;refine⟨rfl,λv hv=>?_,⟨n0,n1,n2,n3,n4,s5,uY b0 c6,l6,n7,n8⟩,rfl,⟨r6.toT,x6,y6,⟨g1,g2,g3⟩,g4,g5⟩⟩;simp only[au,bf,or_false]at hv;rcases hv with rfl|rfl|rfl|rfl|rfl|rfl|rfl|rfl|rfl
  all_goals first|exact I64_told _|exact rG _|exact t6
 obtain⟨v,ess,h1,h2,h3,h4,h5⟩:=rF h0 Tryz.underlying52 (e:=51) (sz:=9) qN qK  (of_decide_eq_true qN) (λn c _ hc=>⟨(hel n c hc).1,(hel n c hc).2.1⟩) h
 obtain⟨l,g1,g2,g3⟩:=flat_of (b0:=b0) wZ (InsM W.heap.size (qH b0 W tabs)) λc hc=>by
  obtain⟨n,e,hc⟩:=h3 c hc;exact(hel n c hc).2.2
 rw[g1,<- g2]at h4;exact⟨v,l,h1,h2,h4,by omega,g3⟩
def BlkQ(b0:Nat)(W:World)(tabs:List (Nat×List Value))(x:Value×List InsT):Prop:=RowA W.heap.size (qH b0 W tabs) x.1 9 x.2.length (x.2.flatMap wZ)/\x.2.length<wM/\∀i∈x.2,InsM W.heap.size (qH b0 W tabs) i
theorem blks_El(h0:H0 b0 W tabs){k:Nat}{cs:List Value}(h:ElF enc W k 28 cs):∃(v:Value) (l:List (Value×List InsT)),cs=[v]/\Told b0 W v/\RowA W.heap.size (qH b0 W tabs) (uY b0 v) 1 l.length (l.map (·.1))/\l.length<wM/\∀x∈l,BlkQ b0 W tabs x:=by
 obtain⟨v,ess,h1,h2,h3,h4,h5⟩:=rF h0 Tryz.underlying28 (e:=52) (sz:=1) qN  (ad _) (of_decide_eq_true qN) (λn c _ hc=>by
  obtain⟨s,_,rfl,hs,_⟩:=inss_El h0 hc;exact⟨rfl,λv hv=>by rw[aq.1 hv];exact hs⟩) h
 obtain⟨l,g1,g2,g3⟩:=flat_of (b0:=b0) (λs:Value×List InsT=>[s.1]) (BlkQ b0 W tabs) λc hc=>by
  obtain⟨n,_,hc⟩:=h3 c hc;obtain⟨s,l,rfl,_,q1,q2,q3⟩:=inss_El h0 hc;exact⟨(uY b0 s,l),rfl,q1,q2,q3⟩
 rw[fm_one]at g1;rw [g1,<- g2]at h4;exact⟨v,l,h1,h2,h4,by omega,g3⟩
end
end
end Go.Proofs.YtdiejolnllipnaaGreatDoor
