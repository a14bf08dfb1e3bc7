/- What the law leans on: an executor of the model that is sound, deduction over it, and the walks through the code (part 12 of 20). Conditions: those that each theorem states. -/
import Derived.Test.YtcmohelnoldfbaaGreatInterNearx11
import Derived.ChangeArms
import Derived.ProofKit

set_option linter.unusedVariables false
set_option linter.unusedSimpArgs false
namespace Go.Proofs.YtcmohelnoldfbaaGreat
open Go Go.Ex Go.Ex.M Go.RowKit
set_option maxRecDepth 100000
section
variable {H:Type} {enc:TypeId×Value→H} {W:World} {b0:Nat}
theorem go_of{a:Int}(w:(Lit.int .i64 a).wf=true):Go64 a:=by
 unfold Lit.wf at w;rw [Bool.and_eq_true]at w;have e1:IntKind.i64.min = -9223372036854775808:=by decide
 have e2:IntKind.i64.max=9223372036854775807:=by decide
 have h1:=of_decide_eq_true w.1;have h2:=of_decide_eq_true w.2;rw [e1]at h1;rw [e2]at h2;exact⟨h1,by omega⟩
def ElF(enc:TypeId×Value→H)(W:World)(fuel:Nat)(t:TypeId)(cs:List Value):Prop:=∃x,DataW.trod enc P W 0 (fun _=>true) true fuel t cs=some x∧∀y∈x.1.weights P t,y≤reachBytes
def Told(b0:Nat)(W:World)(v:Value):Prop:=RV (idI W) (sI b0 v) v∧isU (sI b0 v)=false
theorem int_El{k:Nat}{cs:List Value}(h:ElF enc W k 3 cs):∃n:Int,cs=[I64 n]∧Go64 n:=by
 obtain⟨x,hx,-⟩:=h;obtain⟨n,h1,-,h3⟩:=DataW.trod_int Tryz.underlying3 hx;exact⟨n,h1,go_of h3⟩
theorem sY{k:Nat}{cs:List Value}(h:ElF enc W k 9 cs):∃s:Tx,cs=[str s]∧s.length<vT:=by
 obtain⟨x,hx,hw⟩:=h;obtain⟨s,h1,h2,h3⟩:=DataW.trod_string Tryz.underlying9 hx;subst h2;have h4:s.data.toList.length≤reachBytes:=hw _ (by simp[DataW.weights]);have h5:reachBytes<vT:=by decide
 exact⟨s.data.toList,h1,by omega⟩
theorem weightsEach_get{ts:List TypeId}{ds:List (DataW H)}{i:Nat}{t:TypeId}{d:DataW H}(h1:ts[i]? = some t)(h2:ds[i]? = some d){y:Nat}(hy:y∈d.weights P t):y∈DataW.weightsEach P ts ds:=by
 induction ts generalizing ds i with
 | nil=>simp at h1
 | cons a r ih => cases ds with
  | nil=>simp at h2
  | cons b s=>
   unfold DataW.weightsEach
   cases i with
   | zero=>simp at h1 h2;subst h1 h2;exact List.mem_append_left _ hy
   | succ i=>exact List.mem_append_right _ (ih (by simpa using h1) (by simpa using h2))
theorem weightsAll_get{t:TypeId}{ds:List (DataW H)}{d:DataW H}(h2:d∈ds){y:Nat}(hy:y∈d.weights P t):y∈DataW.weightsAll P t ds:=by
 induction ds with
 | nil=>cases h2
 | cons b s ih=>
  unfold DataW.weightsAll;rcases List.mem_cons.1 h2 with rfl|h2
  · exact List.mem_append_left _ hy
  · exact List.mem_append_right _ (ih h2)
theorem tK{k:Nat}{t:TypeId}{fs:Array Field}(ht:P.underlying t=some (.struct fs)){cs:List Value}(h:ElF enc W k t cs) :
 cs.length=P.cellsOf t∧∃n,k=n+1∧∀(i:Nat) (f:Field),fs[i]? = some f→ElF enc W n f.type ((cs.drop f.offset).take (P.cellsOf f.type)):=by
 obtain⟨x,hx,hw⟩:=h
 have hk:∃n,k=n+1:=by
  cases k with
  | zero=>simp [DataW.trod]at hx
  | succ n=>exact⟨n,rfl⟩
 obtain⟨n,rfl⟩:=hk;obtain⟨xs,n',h1,h2,h3,h4,h5⟩:=DataW.trod_struct ht hx;obtain rfl:n=n':=by omega
 subst h2;refine⟨h3,n,rfl,fun i f hf=>?_⟩;have hi:i<xs.length:=by rw[h4];exact(Array.getElem?_eq_some_iff.1 hf).1
 refine⟨xs[i],by rw[h5 i f hf,List.getElem?_eq_getElem hi],fun y hy=>hw y ?_⟩;dsimp only;unfold DataW.weights;simp only[ht];exact weightsEach_get (i:=i) (t:=f.type) (d:=xs[i].1) (by simp[hf]) (by simp[List.getElem?_eq_getElem hi]) hy
theorem cells_get{w:World}{base:Nat}{a:Addr}{n:Nat}{l:List Value}(h:w.cells? base a n=some l):l.length=n∧∀i,i<n→w.cell? (a.add i)=l[i]? :=by
 unfold World.cells? at h;split at h
 · refine⟨by simpa using mapM_some_length h,fun i hi=>mapM_some_get h i i (by simp[hi])⟩
 · cases h
theorem add_none(b o k:Nat):(⟨b,o,none⟩:Addr).add k=⟨b,o+k,none⟩:=by
 unfold Addr.add;split
 · subst_vars;rfl
 · rfl
theorem spot_none{w:World}{a:Addr}{v:Value}(h:w.cell? a=some v):a.spot=none:=by
 obtain⟨b,o,s⟩:=a;unfold World.cell? at h;split at h
 · cases s with
   | none=>rfl
   | some x=>rw [if_pos (by rfl)]at h;cases h
 · cases h
theorem mir_info{b i:Nat}{v:Value}(hc:W.cell? ⟨b,i,none⟩=some v) :
 b<W.heap.size∧∃kd,xD (zF (mirH b0 W []) b)=some (szB W b,0,kd)∧i<szB W b∧kd≠0:=by
 unfold World.cell? at hc;dsimp only at hc;split at hc
 · rename_i cs el fr ho;have hc:cs[i]? = some v:=by simpa using hc
   have hb:b<W.heap.size:=by
    rcases Nat.lt_or_ge b W.heap.size with h1|h1
    · exact h1
    · rw[Array.getElem?_eq_none h1]at ho;cases ho
   have hi:i<cs.size:=(Array.getElem?_eq_some_iff.1 hc).1;have hs:szB W b=cs.size:=by unfold szB;rw [ho]
   refine⟨hb,?_⟩;rcases mirH_get b0 W [] b with⟨p,h1,_,_⟩|h1
   · cases h1
   · exact⟨3,by rw[h1,if_pos hb,ho,hs];rfl,by rw[hs];exact hi,by decide⟩
 · cases hc
theorem rowAt_flat{b sz:Nat}{h:zB}:∀{ess:List (List Value)} {off:Nat},(∀(j:Nat) c,ess[j]? = some c→c.length=sz∧∀(k:Nat) x,c[k]? = some x→zD h b (off+(j*sz+k))=some (sI b0 x))→Go.Ex.rowAt h b off (ess.flatten.map (sI b0)):=by
 intro ess
 induction ess with
 | nil=>intro off _;exact Go.Ex.rowAt.nil _ _ _
 | cons c r ih =>
  intro off hc;obtain⟨c1,c2⟩:=hc 0 c rfl
  have hr:=ih (off:=off+sz) fun j c' hj=>⟨(hc (j+1) c' (by simpa using hj)).1,fun k x hk=>by
   have:=(hc (j+1) c' (by simpa using hj)).2 k x hk;rw [show off+sz+(j*sz+k)=off+((j+1)*sz+k) by rw[Nat.succ_mul];omega];exact this⟩
  intro q v hq;rw [List.flatten_cons,List.map_append]at hq;by_cases hlt:q<c.length
  · rw[List.getElem?_append_left (by simpa using hlt),List.getElem?_map,List.getElem?_eq_getElem hlt]at hq;obtain rfl:sI b0 c[q]=v:=by simpa using hq
    have:=c2 q _ (List.getElem?_eq_getElem hlt);rw [show off+(0*sz+q)=off+q by omega]at this;exact this
  · rw[List.getElem?_append_right (by simp;omega),List.length_map]at hq;have:=hr (q - c.length) v hq;rw [show off+sz+(q - c.length)=off+q by omega]at this;exact this
theorem flen_of{sz:Nat}(l:List (List Value))(h:∀c∈l,c.length=sz):l.flatten.length=l.length*sz:=by
 induction l with
 | nil=>simp
 | cons c r ih=>rw [List.flatten_cons,List.length_append,ih fun c hc=>h c (List.mem_cons_of_mem _ hc),h c (List.mem_cons_self ..),List.length_cons,Nat.succ_mul];omega
theorem absV_cap{a:Option Addr}{l c:Nat}(h:c≠0):sI b0 (.slice a l c) = .slice a l c:=by
 cases a with
 | none=>rfl
 | some a =>
  cases l with
  | succ l=>rfl
  | zero=>cases c with
   | zero=>exact absurd rfl h
   | succ c=>rfl
theorem slice_El{t e:TypeId}{sz:Nat}{fu:Nat}(h0:∃m z kd,xD (zF (mirH b0 W []) b0)=some (m,z,kd)∧b0<W.heap.size)
(ht:P.underlying t=some (.slice e))(hsz:P.cellsOf e=sz)(h1:1≤sz)(hby:1≤P.bytesOf e)(hE:∀n c,fu=n+1→ElF enc W n e c→c.length=sz∧∀v∈c,Told b0 W v){cs:List Value}(h:ElF enc W fu t cs) :
 ∃(v:Value) (ess:List (List Value)),cs=[v]∧Told b0 W v∧(∀c∈ess,∃n,fu=n+1∧ElF enc W n e c)∧RowI W.heap.size (mirH b0 W []) (sI b0 v) sz ess.length (ess.flatten.map (sI b0))∧ess.length<vT:=by
 obtain⟨x,hx,hwt⟩:=h;rcases DataW.trod_slice ht hx with⟨rfl,-⟩|⟨a,len,cap,elems,rest,n,rfl,rfl,rfl,hb,hlc,hcm,hel,hg,hsp,-⟩
 · exact⟨_,[],rfl,⟨.nilSlice 0 0 (by decide),rfl⟩,fun _ h=>(by cases h),fun _=>.inl ⟨rfl,rfl,rfl⟩,by decide⟩
 obtain⟨hrl,hrg⟩:=hsp rfl;unfold DataW.weights at hwt;simp only[ht]at hwt
 have hcap:cap<vT:=by
  have q1:=hwt _ (List.mem_cons_self ..);simp only[List.length_map]at q1;have q2:=Nat.le_mul_of_pos_right (elems.length+rest.length) hby
  have h5:reachBytes<vT:=by decide
  omega
 have hinf:cap<inf:=by
  have:vT<inf:=by decide
  omega
 have hall:∀j,j<cap→∃c,W.cells? 0 (a.add (j*sz)) sz=some c∧ElF enc W n e c:=by
  intro j hj;rw [hsz]at hg hrg;by_cases hlt:j<len
  · have q:=hg j hlt;rw [List.getElem?_eq_getElem (by omega)]at q;obtain⟨c,q1,q2⟩:=Option.bind_eq_some_iff.1 q;exact⟨c,q1,_,q2,fun y hy=>hwt y (List.mem_cons_of_mem _ (List.mem_append_left _ (weightsAll_get (List.mem_map.2 ⟨_,List.getElem_mem (by omega),rfl⟩) hy)))⟩
  · have q:=hrg (j - len) (by omega);rw [List.getElem?_eq_getElem (by omega),show len+(j - len)=j by omega]at q;obtain⟨c,q1,q2⟩:=Option.bind_eq_some_iff.1 q;exact⟨c,q1,_,q2,fun y hy=>hwt y (List.mem_cons_of_mem _ (List.mem_append_right _ (weightsAll_get (List.mem_map.2 ⟨_,List.getElem_mem (by omega),rfl⟩) hy)))⟩
 by_cases hc0:cap=0
 · subst hc0;obtain rfl:len=0:=by omega
   obtain⟨m,z,kd,i1,i3⟩:=h0;exact⟨_,[],rfl,⟨.slice0 (idI_of i3) a,rfl⟩,fun _ h=>(by cases h),fun _=>.inr ⟨b0,0,0,m,z,kd,i3,rfl,by simp,i1,by simp,Go.Ex.rowAt.nil _ _ _,.inl ⟨by decide,Nat.le_refl _⟩⟩,by decide⟩
 have hspot:a.spot=none:=by
  obtain⟨c,q1,q2⟩:=hall 0 (by omega);obtain⟨l1,l2⟩:=cells_get q1;have:=l2 0 (by omega);rw [List.getElem?_eq_getElem (by omega)]at this;have:=spot_none this
  rwa [show(a.add (0*sz)).add 0=a by rw[Nat.zero_mul];rfl]at this
 obtain⟨b,o,s⟩:=a;dsimp only at hspot;subst hspot
 have hcell:∀j,j<cap→∃c,W.cells? 0 ((⟨b,o,none⟩:Addr).add (j*sz)) sz=some c∧ElF enc W n e c∧c.length=sz∧(∀v∈c,Told b0 W v)∧∀(k:Nat) x,c[k]? = some x→W.cell? ⟨b,o+(j*sz+k),none⟩=some x:=by
  intro j hj;obtain⟨c,q1,q2⟩:=hall j hj;obtain⟨l1,l2⟩:=cells_get q1;refine⟨c,q1,q2,l1,(hE n c rfl q2).2,fun k x hk=>?_⟩;have hlt:k<c.length:=(List.getElem?_eq_some_iff.1 hk).1;have:=l2 k (by omega);rw [add_none,add_none,hk,Nat.add_assoc]at this;exact this
 obtain⟨hbs,kd,hinfo,hkd,hlast⟩:b<W.heap.size∧∃kd,xD (zF (mirH b0 W []) b)=some (szB W b,0,kd)∧kd≠0∧o+cap*sz≤szB W b:=by
  obtain⟨c,-,-,l1,-,l2⟩:=hcell (cap - 1) (by omega);obtain⟨q1,kd,q2,q3,q4⟩:=mir_info (l2 (sz - 1) _ (List.getElem?_eq_getElem (by omega)));refine⟨q1,kd,q2,q4,?_⟩;have e1:cap*sz=(cap - 1)*sz+sz:=by rw[← Nat.succ_mul];congr 1;omega
  omega
 have hflat:((List.range len).map fun j=>(W.cells? 0 ((⟨b,o,none⟩:Addr).add (j*sz)) sz).getD []).flatten.length=len*sz:=by
  rw[flen_of _ fun c hc=>?_,List.length_map,List.length_range];obtain⟨j,hj,rfl⟩:=List.mem_map.1 hc;obtain⟨c,q1,q2,q3,-⟩:=hcell j (by have:=List.mem_range.1 hj;omega);rw [q1];exact q3
 refine⟨_,(List.range len).map fun j=>(W.cells? 0 ((⟨b,o,none⟩:Addr).add (j*sz)) sz).getD [],rfl,⟨?_,?_⟩,?_,fun _=>.inr ⟨b,o,cap,szB W b,0,kd,hbs,?_,?_,hinfo,?_,?_,.inl ⟨hinf,?_⟩⟩,?_⟩
 · rw[absV_cap hc0];exact .slice (B:=⟨b,szB W b,0⟩) (idI_of hbs) (by omega) hlc (.inl rfl)
 · rw[absV_cap hc0];rfl
 · intro c hc;obtain⟨j,hj,rfl⟩:=List.mem_map.1 hc;obtain⟨c,q1,q2,-⟩:=hcell j (by have:=List.mem_range.1 hj;omega);rw [q1];exact⟨n,rfl,q2⟩
 · rw[absV_cap hc0];simp
 · rw[List.length_map,hflat,List.length_map,List.length_range]
 · rw[List.length_map,hflat];have:=Nat.mul_le_mul_right sz hlc;omega
 · refine rowAt_flat (sz:=sz) fun j c hj=>?_;rw [List.getElem?_map]at hj
   have hlt:j<len:=by
    rcases Nat.lt_or_ge j len with h|h
    · exact h
    · rw[List.getElem?_eq_none (by simpa using h)]at hj;cases hj
   rw[List.getElem?_range hlt]at hj;obtain⟨c',q1,q2,q3,q4,q5⟩:=hcell j (by omega);obtain rfl:c'=c:=by simpa [q1] using hj
   refine⟨q3,fun k x hk=>?_⟩;obtain⟨r1,r2⟩:=q4 x (List.mem_iff_getElem?.2 ⟨k,hk⟩);exact(mir_cell (tabs:=[]) (fun p hp=>by cases hp) (fun p hp=>by cases hp) (q5 k x hk) r1 r2).1
 · simpa using hlc
 · simp;omega
theorem flat_of{α : Type}(C: α→List Value)(Q: α→Prop):∀{ess:List (List Value)},(∀c∈ess,∃r,c.map (sI b0)=C r∧Q r)→∃l:List α,ess.flatten.map (sI b0)=l.flatMap C∧l.length=ess.length∧∀r∈l,Q r:=by
 intro ess
 induction ess with
 | nil=>intro _;exact⟨[],rfl,rfl,fun _ h=>by cases h⟩
 | cons c r ih=>
  intro h;obtain⟨l,h1,h2,h3⟩:=ih fun c hc=>h c (List.mem_cons_of_mem _ hc);obtain⟨a,g1,g2⟩:=h c (List.mem_cons_self ..);refine⟨a::l,?_,by rw[List.length_cons,List.length_cons,h2],fun x hx=>?_⟩
  · rw[List.flatten_cons,List.map_append,h1,g1];rfl
  · rcases List.mem_cons.1 hx with rfl|hx
    · exact g2
    · exact h3 x hx
theorem fm_one{α : Type}(f: α→Value)(l:List α):l.flatMap (fun x=>[f x])=l.map f:=by
 induction l with
 | nil=>rfl
 | cons a l ih=>rw [List.flatMap_cons,ih];rfl
theorem I64_told(n:Int):Told b0 W (I64 n):=⟨.int _ _,rfl⟩
theorem str_told(s:Tx):Told b0 W (str s):=⟨.string _,rfl⟩
theorem ElF.one{k:Nat}{t:TypeId}{off:Nat}{c:Value}{cs:List Value}(h:ElF enc W k t ((cs.drop off).take (P.cellsOf t)))(hz:P.cellsOf t=1)(hc:(cs.drop off).take 1=[c]):ElF enc W k t [c]:=by rw[hz,hc]at h;exact h
abbrev H0(b0:Nat)(W:World):Prop:=∃m z kd,xD (zF (mirH b0 W []) b0)=some (m,z,kd)∧b0<W.heap.size
theorem strs_El(h0:H0 b0 W){k:Nat}{cs:List Value}(h:ElF enc W k 25 cs):∃(v:Value) (l:List Tx),cs=[v]∧Told b0 W v∧RowI W.heap.size (mirH b0 W []) (sI b0 v) 1 l.length (l.map str)∧TxtL l:=by
 obtain⟨v,ess,h1,h2,h3,h4,h5⟩:=slice_El h0 Tryz.underlying25 (e:=9) (sz:=1) (by kernel_rfl) (Nat.le_refl _) (of_decide_eq_true (by kernel_rfl)) (fun n c _ hc=>by
  obtain⟨s,rfl,_⟩:=sY hc;exact⟨rfl,fun v hv=>by rw[List.mem_singleton.1 hv];exact str_told s⟩) h
 obtain⟨l,g1,g2,g3⟩:=flat_of (b0:=b0) (fun s:Tx=>[str s]) (fun s=>s.length<vT) fun c hc=>by
  obtain⟨n,_,hc⟩:=h3 c hc;obtain⟨s,rfl,hs⟩:=sY hc;exact⟨s,rfl,hs⟩
 rw[fm_one]at g1;rw [g1,← g2]at h4;exact⟨v,l,h1,h2,h4,by omega,g3⟩
theorem two{l:List Value}(h:l.length=2):∃c0 c1,l=[c0,c1]:=by
 match l,h with
 | [c0,c1],_=>exact⟨c0,c1,rfl⟩
theorem four{l:List Value}(h:l.length=4):∃c0 c1 c2 c3,l=[c0,c1,c2,c3]:=by
 match l,h with
 | [c0,c1,c2,c3],_=>exact⟨c0,c1,c2,c3,rfl⟩
theorem six{l:List Value}(h:l.length=6):∃c0 c1 c2 c3 c4 c5,l=[c0,c1,c2,c3,c4,c5]:=by
 match l,h with
 | [c0,c1,c2,c3,c4,c5],_=>exact⟨c0,c1,c2,c3,c4,c5,rfl⟩
theorem eight{l:List Value}(h:l.length=8):∃c0 c1 c2 c3 c4 c5 c6 c7,l=[c0,c1,c2,c3,c4,c5,c6,c7]:=by
 match l,h with
 | [c0,c1,c2,c3,c4,c5,c6,c7],_=>exact⟨c0,c1,c2,c3,c4,c5,c6,c7,rfl⟩
theorem zi1:P.cellsOf 3=1:=by kernel_rfl
theorem zs1:P.cellsOf 9=1:=by kernel_rfl
theorem zss1:P.cellsOf 25=1:=by kernel_rfl
theorem zrr1:P.cellsOf 22=1:=by kernel_rfl
theorem zcc1:P.cellsOf 23=1:=by kernel_rfl
theorem zoo1:P.cellsOf 24=1:=by kernel_rfl
theorem zuu1:P.cellsOf 70=1:=by kernel_rfl
theorem zo2:P.cellsOf 69=2:=by kernel_rfl
theorem regs_El(h0:H0 b0 W):∀(k:Nat) {cs:List Value},ElF enc W k 22 cs→∃(v:Value) (l:List RegT),cs=[v]∧Told b0 W v∧RegsM W.heap.size (mirH b0 W []) (sI b0 v) l∧TxtR l:=by
 intro k
 induction k using Nat.strongRecOn with
 | _ k ih =>
  intro cs h
  have hreg:∀n c,k=n+1→ElF enc W n 102 c→c.length=4∧(∀v∈c,Told b0 W v)∧∃r:RegT,c.map (sI b0)=regC r∧(RegsM W.heap.size (mirH b0 W []) r.sv r.subs∧r.name.length<vT∧TxtR r.subs):=by
   rintro n c rfl hc
   obtain⟨hl,n',rfl,hf⟩:=tK Tryz.underlying102 hc;have hl:c.length=4:=hl.trans (by kernel_rfl);obtain⟨c0,c1,c2,c3,rfl⟩:=four hl;have f0:ElF enc W n' 9 [c0]:=ElF.one (off:=0) (hf 0 _ rfl) zs1 rfl;have f1:ElF enc W n' 3 [c1]:=ElF.one (off:=1) (hf 1 _ rfl) zi1 rfl;have f2:ElF enc W n' 3 [c2]:=ElF.one (off:=2) (hf 2 _ rfl) zi1 rfl;have f3:ElF enc W n' 22 [c3]:=ElF.one (off:=3) (hf 3 _ rfl) zrr1 rfl;obtain⟨s0,e0,g0⟩:=sY f0;obtain⟨n1,e1,_⟩:=int_El f1;obtain⟨n2,e2,_⟩:=int_El f2;obtain⟨v3,l3,e3,t3,r3,x3⟩:=ih n' (by omega) f3;injection e0 with e0 _;injection e1 with e1 _;injection e2 with e2 _;injection e3 with e3 _
   subst e0 e1 e2 e3;refine⟨rfl,fun v hv=>?_,.mk s0 n1 n2 (sI b0 c3) l3,rfl,r3,g0,x3⟩;simp only[List.mem_cons,List.not_mem_nil,or_false]at hv;rcases hv with rfl|rfl|rfl|rfl
   all_goals first|exact I64_told _|exact str_told _|exact t3
  obtain⟨v,ess,h1,h2,h3,h4,h5⟩:=slice_El h0 Tryz.underlying22 (e:=102) (sz:=4) (by kernel_rfl) (by decide) (of_decide_eq_true (by kernel_rfl)) (fun n c e hc=>⟨(hreg n c e hc).1,(hreg n c e hc).2.1⟩) h
  obtain⟨l,g1,g2,g3⟩:=flat_of (b0:=b0) regC (fun r=>RegsM W.heap.size (mirH b0 W []) r.sv r.subs∧r.name.length<vT∧TxtR r.subs) fun c hc=>by
   obtain⟨n,e,hc⟩:=h3 c hc;exact(hreg n c e hc).2.2
  rw[g1,← g2]at h4;refine⟨v,l,h1,h2,?_,.mk (by omega) fun r hr=>(g3 r hr).2⟩;unfold RegsM;exact⟨h4,fun r hr=>(g3 r hr).1⟩
theorem oprs_El(h0:H0 b0 W){k:Nat}{cs:List Value}(h:ElF enc W k 70 cs):∃(v:Value) (l:List OperT),cs=[v]∧Told b0 W v∧RowI W.heap.size (mirH b0 W []) (sI b0 v) 2 l.length (l.flatMap oprC)∧l.length<vT∧∀x∈l,x.cls.length<vT∧x.fix.length<vT:=by
 have hel:∀n c,ElF enc W n 69 c→c.length=2∧(∀v∈c,Told b0 W v)∧∃r:OperT,c.map (sI b0)=oprC r∧r.cls.length<vT∧r.fix.length<vT:=by
  intro n c hc;obtain⟨hl,n',rfl,hf⟩:=tK Tryz.underlying69 hc;have hl:c.length=2:=hl.trans (by kernel_rfl);obtain⟨c0,c1,rfl⟩:=two hl;have f0:ElF enc W n' 9 [c0]:=ElF.one (off:=0) (hf 0 _ rfl) zs1 rfl;have f1:ElF enc W n' 9 [c1]:=ElF.one (off:=1) (hf 1 _ rfl) zs1 rfl;obtain⟨s0,e0,g0⟩:=sY f0;obtain⟨s1,e1,g1⟩:=sY f1;injection e0 with e0 _;injection e1 with e1 _
  subst e0 e1;refine⟨rfl,fun v hv=>?_,⟨s0,s1⟩,rfl,g0,g1⟩;simp only[List.mem_cons,List.not_mem_nil,or_false]at hv;rcases hv with rfl|rfl
  all_goals exact str_told _
 obtain⟨v,ess,h1,h2,h3,h4,h5⟩:=slice_El h0 Tryz.underlying70 (e:=69) (sz:=2) (by kernel_rfl) (by decide) (of_decide_eq_true (by kernel_rfl)) (fun n c _ hc=>⟨(hel n c hc).1,(hel n c hc).2.1⟩) h
 obtain⟨l,g1,g2,g3⟩:=flat_of (b0:=b0) oprC (fun r=>r.cls.length<vT∧r.fix.length<vT) fun c hc=>by
  obtain⟨n,e,hc⟩:=h3 c hc;exact(hel n c hc).2.2
 rw[g1,← g2]at h4;exact⟨v,l,h1,h2,h4,by omega,g3⟩
theorem clss_El(h0:H0 b0 W){k:Nat}{cs:List Value}(h:ElF enc W k 23 cs):∃(v:Value) (l:List ClassT),cs=[v]∧Told b0 W v∧RowI W.heap.size (mirH b0 W []) (sI b0 v) 2 l.length (l.flatMap clsC)∧l.length<vT∧∀c∈l,RowI W.heap.size (mirH b0 W []) c.rsv 1 c.regs.length (c.regs.map str)∧c.name.length<vT∧TxtL c.regs:=by
 have hel:∀n c,ElF enc W n 36 c→c.length=2∧(∀v∈c,Told b0 W v)∧∃r:ClassT,c.map (sI b0)=clsC r∧(RowI W.heap.size (mirH b0 W []) r.rsv 1 r.regs.length (r.regs.map str)∧r.name.length<vT∧TxtL r.regs):=by
  intro n c hc;obtain⟨hl,n',rfl,hf⟩:=tK Tryz.underlying36 hc;have hl:c.length=2:=hl.trans (by kernel_rfl);obtain⟨c0,c1,rfl⟩:=two hl;have f0:ElF enc W n' 9 [c0]:=ElF.one (off:=0) (hf 0 _ rfl) zs1 rfl;have f1:ElF enc W n' 25 [c1]:=ElF.one (off:=1) (hf 1 _ rfl) zss1 rfl;obtain⟨s0,e0,g0⟩:=sY f0;obtain⟨v1,l1,e1,t1,r1,x1⟩:=strs_El h0 f1;injection e0 with e0 _;injection e1 with e1 _
  subst e0 e1;refine⟨rfl,fun v hv=>?_,⟨s0,sI b0 c1,l1⟩,rfl,r1,g0,x1⟩;simp only[List.mem_cons,List.not_mem_nil,or_false]at hv;rcases hv with rfl|rfl
  all_goals first|exact str_told _|exact t1
 obtain⟨v,ess,h1,h2,h3,h4,h5⟩:=slice_El h0 Tryz.underlying23 (e:=36) (sz:=2) (by kernel_rfl) (by decide) (of_decide_eq_true (by kernel_rfl)) (fun n c _ hc=>⟨(hel n c hc).1,(hel n c hc).2.1⟩) h
 obtain⟨l,g1,g2,g3⟩:=flat_of (b0:=b0) clsC (fun r=>RowI W.heap.size (mirH b0 W []) r.rsv 1 r.regs.length (r.regs.map str)∧r.name.length<vT∧TxtL r.regs) fun c hc=>by
  obtain⟨n,e,hc⟩:=h3 c hc;exact(hel n c hc).2.2
 rw[g1,← g2]at h4;exact⟨v,l,h1,h2,h4,by omega,g3⟩
def OpQ(b0:Nat)(W:World)(o:OpT):Prop:=RowI W.heap.size (mirH b0 W []) o.usv 2 o.uses.length (o.uses.flatMap oprC)∧RowI W.heap.size (mirH b0 W []) o.csv 1 o.clob.length (o.clob.map str)∧o.name.length<vT∧o.d.cls.length<vT∧o.d.fix.length<vT∧o.uses.length<vT∧(∀x∈o.uses,x.cls.length<vT∧x.fix.length<vT)∧TxtL o.clob
theorem ops_El(h0:H0 b0 W){k:Nat}{cs:List Value}(h:ElF enc W k 24 cs):∃(v:Value) (l:List OpT),cs=[v]∧Told b0 W v∧RowI W.heap.size (mirH b0 W []) (sI b0 v) 6 l.length (l.flatMap opC)∧l.length<vT∧∀o∈l,OpQ b0 W o:=by
 have hel:∀n c,ElF enc W n 72 c→c.length=6∧(∀v∈c,Told b0 W v)∧∃r:OpT,c.map (sI b0)=opC r∧OpQ b0 W r:=by
  intro n c hc;obtain⟨hl,n',rfl,hf⟩:=tK Tryz.underlying72 hc;have hl:c.length=6:=hl.trans (by kernel_rfl);obtain⟨c0,c1,c2,c3,c4,c5,rfl⟩:=six hl;have f0:ElF enc W n' 9 [c0]:=ElF.one (off:=0) (hf 0 _ rfl) zs1 rfl;have f1:ElF enc W n' 69 (([c0,c1,c2,c3,c4,c5].drop 1).take (P.cellsOf 69)):=hf 1 _ rfl;rw [zo2]at f1;have f1:ElF enc W n' 69 [c1,c2]:=f1;have f3:ElF enc W n' 70 [c3]:=ElF.one (off:=3) (hf 2 _ rfl) zuu1 rfl;have f4:ElF enc W n' 3 [c4]:=ElF.one (off:=4) (hf 3 _ rfl) zi1 rfl;have f5:ElF enc W n' 25 [c5]:=ElF.one (off:=5) (hf 4 _ rfl) zss1 rfl;obtain⟨hl1,n2,rfl,hf1⟩:=tK Tryz.underlying69 f1;have q0:ElF enc W n2 9 [c1]:=ElF.one (off:=0) (hf1 0 _ rfl) zs1 rfl;have q1:ElF enc W n2 9 [c2]:=ElF.one (off:=1) (hf1 1 _ rfl) zs1 rfl;obtain⟨s0,e0,g0⟩:=sY f0;obtain⟨s1,e1,g1⟩:=sY q0;obtain⟨s2,e2,g2⟩:=sY q1;obtain⟨v3,l3,e3,t3,r3,x3,y3⟩:=oprs_El h0 f3;obtain⟨n4,e4,_⟩:=int_El f4;obtain⟨v5,l5,e5,t5,r5,x5⟩:=strs_El h0 f5
  injection e0 with e0 _;injection e1 with e1 _;injection e2 with e2 _;injection e3 with e3 _;injection e4 with e4 _;injection e5 with e5 _
  subst e0 e1 e2 e3 e4 e5;refine⟨rfl,fun v hv=>?_,⟨s0,⟨s1,s2⟩,sI b0 c3,l3,n4,sI b0 c5,l5⟩,rfl,r3,r5,g0,g1,g2,x3,y3,x5⟩;simp only[List.mem_cons,List.not_mem_nil,or_false]at hv;rcases hv with rfl|rfl|rfl|rfl|rfl|rfl
  all_goals first|exact I64_told _|exact str_told _|exact t3|exact t5
 obtain⟨v,ess,h1,h2,h3,h4,h5⟩:=slice_El h0 Tryz.underlying24 (e:=72) (sz:=6) (by kernel_rfl) (by decide) (of_decide_eq_true (by kernel_rfl)) (fun n c _ hc=>⟨(hel n c hc).1,(hel n c hc).2.1⟩) h
 obtain⟨l,g1,g2,g3⟩:=flat_of (b0:=b0) opC (OpQ b0 W) fun c hc=>by
  obtain⟨n,e,hc⟩:=h3 c hc;exact(hel n c hc).2.2
 rw[g1,← g2]at h4;exact⟨v,l,h1,h2,h4,by omega,g3⟩
theorem mach_El(h0:H0 b0 W){k:Nat}{cs:List Value}(h:ElF enc W k 27 cs):(∀v∈cs,Told b0 W v)∧∃m:MachT,cs.map (sI b0)=yO m∧MachM W.heap.size (mirH b0 W []) m∧TxtM m:=by
 obtain⟨hl,n,rfl,hf⟩:=tK Tryz.underlying27 h;have hl:cs.length=8:=hl.trans (by kernel_rfl);obtain⟨c0,c1,c2,c3,c4,c5,c6,c7,rfl⟩:=eight hl;have f0:ElF enc W n 9 [c0]:=ElF.one (off:=0) (hf 0 _ rfl) zs1 rfl;have f1:ElF enc W n 22 [c1]:=ElF.one (off:=1) (hf 1 _ rfl) zrr1 rfl;have f2:ElF enc W n 23 [c2]:=ElF.one (off:=2) (hf 2 _ rfl) zcc1 rfl;have f3:ElF enc W n 24 [c3]:=ElF.one (off:=3) (hf 3 _ rfl) zoo1 rfl;have f4:ElF enc W n 25 [c4]:=ElF.one (off:=4) (hf 4 _ rfl) zss1 rfl;have f5:ElF enc W n 9 [c5]:=ElF.one (off:=5) (hf 5 _ rfl) zs1 rfl;have f6:ElF enc W n 25 [c6]:=ElF.one (off:=6) (hf 6 _ rfl) zss1 rfl;have f7:ElF enc W n 3 [c7]:=ElF.one (off:=7) (hf 7 _ rfl) zi1 rfl;obtain⟨s0,e0,g0⟩:=sY f0;obtain⟨v1,l1,e1,t1,r1,x1⟩:=regs_El h0 n f1;obtain⟨v2,l2,e2,t2,r2,x2,y2⟩:=clss_El h0 f2;obtain⟨v3,l3,e3,t3,r3,x3,y3⟩:=ops_El h0 f3;obtain⟨v4,l4,e4,t4,r4,x4⟩:=strs_El h0 f4;obtain⟨s5,e5,g5⟩:=sY f5;obtain⟨v6,l6,e6,t6,r6,x6⟩:=strs_El h0 f6;obtain⟨n7,e7,g7⟩:=int_El f7
 injection e0 with e0 _;injection e1 with e1 _;injection e2 with e2 _;injection e3 with e3 _;injection e4 with e4 _;injection e5 with e5 _;injection e6 with e6 _;injection e7 with e7 _
 subst e0 e1 e2 e3 e4 e5 e6 e7;refine⟨fun v hv=>?_,⟨s0,sI b0 c1,l1,sI b0 c2,l2,sI b0 c3,l3,sI b0 c4,l4,s5,sI b0 c6,l6,n7⟩,rfl,⟨r1,r2,fun c hc=>(y2 c hc).1,r3,fun o ho=>(y3 o ho).1,fun o ho=>(y3 o ho).2.1,r4,r6,g7⟩,⟨g0,x1,x2,fun c hc=>(y2 c hc).2,x3,fun o ho=>(y3 o ho).2.2,x4,g5,x6⟩⟩;simp only[List.mem_cons,List.not_mem_nil,or_false]at hv;rcases hv with rfl|rfl|rfl|rfl|rfl|rfl|rfl|rfl
 all_goals first|exact I64_told _|exact str_told _|exact t1|exact t2|exact t3|exact t4|exact t6
end
end Go.Proofs.YtcmohelnoldfbaaGreat
namespace Go.Proofs.YtcmohelnoldfbaaGreat
open Go Go.Ex Go.Ex.M
set_option maxRecDepth 100000
set_option maxHeartbeats 8000000
theorem lap_pur(a b:Pl)(ha:PlOK a)(hb:PlOK b)(h:zB)(n:Nat):Pur P 0 98 [plV a,plV b] h n (.bool (tJ a b)):=by
 obtain⟨ha1,ha2⟩:=ha;obtain⟨hb1,hb2⟩:=hb;refine Com.pure (ent fun u=>?_) (.inl rfl);repeat' first|refine st ?_|refine ob ?_|refine ob1 ?_|refine cT ?_|refine cF ?_|refine zC ?_|refine cX (fun _=>?_) fun _=>?_|fail
 all_goals refine lap_fin ?_ zA
 all_goals unfold lapP
 · exact⟨Bool.noConfusion,by omega⟩
 · exact⟨Bool.noConfusion,by omega⟩
 · exact⟨Bool.noConfusion,by omega⟩
 · rw[decide_eq_true_iff,lap_u hb1 ha1 hb2 (by omega) (by omega)];split <;> omega
 · rw[decide_eq_true_iff,lap_u ha1 hb1 ha2 (by omega) (by omega)];split <;> omega
theorem within_pur(a b:Pl)(ha:PlOK a)(hb:PlOK b)(h:zB)(n:Nat):Pur P 0 101 [plV a,plV b] h n (.bool (withinB a b)):=by
 obtain⟨ha1,ha2⟩:=ha;obtain⟨hb1,hb2⟩:=hb;refine Com.pure (ent fun u=>?_) (.inl rfl);repeat' first|refine st ?_|refine ob ?_|refine ob1 ?_|refine cT ?_|refine cF ?_|refine zC ?_|refine cX (fun _=>?_) fun _=>?_|fail
 all_goals refine within_fin ?_ zA
 all_goals unfold withinP
 · exact⟨Bool.noConfusion,by omega⟩
 · exact⟨fun _=>by omega,fun _=>rfl⟩
 · exact⟨Bool.noConfusion,by omega⟩
 · exact⟨Bool.noConfusion,by omega⟩
 · rename_i h5;rw [le_u hb1 ha1 hb2 (by omega) (by omega)]at h5;rw [decide_eq_true_iff,within_u hb1 ha1 hb2 ha2 (by omega) (by omega) (by omega) h5];omega
 · rename_i h5;rw [le_u hb1 ha1 hb2 (by omega) (by omega)]at h5;exact⟨Bool.noConfusion,by omega⟩
end Go.Proofs.YtcmohelnoldfbaaGreat
namespace Go.Proofs.YtcmohelnoldfbaaGreat
open Go Go.Ex Go.Ex.M
set_option maxRecDepth 100000
set_option maxHeartbeats 8000000
theorem sZ{lo e n:Nat}{h:zB}{sv:Value}{ss:List Tx}{x:Tx}(r:Row lo h sv e 1 ss.length (ss.map str))(hl:ss.length<4611686018427387904):Pur P 0 140 [sv,str x] h n (I64 (pos ss x)):=by
 refine ent fun u=>?_;repeat' first|refine st ?_|refine ob ?_|refine ob1 ?_|refine cT ?_|refine cF ?_|refine zC ?_|refine cX (fun _=>?_) fun _=>?_|fail
 refine lpR (fun k:Nat=>[(0,sv),(1,str x),(6,sv),(7,I64 ss.length),(8,I64 k)]) (fun k h' n'=>h'=h∧n'=n∧k≤ss.length∧∀j,j<k→ss[j]?≠some x) (fun k=>ss.length - k) 0 ⟨rfl,rfl,rfl,rfl,rfl,trivial⟩ ⟨rfl,rfl,Nat.zero_le _,fun j hj=>by omega⟩ ?_
 rintro k t h' n' ⟨rfl,rfl,hk,hno⟩
 by_cases hlt:k<ss.length
 · have c1:zD h' (sbk sv) (sof sv+k*1)=some (str ss[k]):=by rw[Nat.mul_one];exact r.at (str_at hlt)
   repeat' first|refine st ?_|refine ob ?_|refine ob1 ?_|refine cT ?_|refine cF ?_|refine zC ?_|refine cX (fun _=>?_) fun _=>?_|fail
   · rename_i e1;exact⟨by rw[pos_hit (by rw[List.getElem?_eq_getElem hlt,e1]) hno],rfl,rfl⟩
   · rename_i e1
     exact⟨k+1,by dsimp only;omega,⟨rfl,rfl,rfl,rfl,rfl,trivial⟩,rfl,rfl,by omega,fun j hj e2=>by
      rcases Nat.lt_succ_iff_lt_or_eq.1 hj with h9|rfl
      · exact hno j h9 e2
      · rw[List.getElem?_eq_getElem hlt]at e2;exact e1 (Option.some.inj e2).symm⟩
 · obtain rfl:k=ss.length:=by omega
   repeat' first|refine st ?_|refine ob ?_|refine ob1 ?_|refine cT ?_|refine cF ?_|refine zC ?_|refine cX (fun _=>?_) fun _=>?_|fail
   exact⟨by rw[pos_no hno],rfl,rfl⟩
end Go.Proofs.YtcmohelnoldfbaaGreat
namespace Go.Proofs.YtcmohelnoldfbaaGreat
open Go Go.Ex Go.Ex.M
set_option maxRecDepth 100000
set_option maxHeartbeats 8000000
instance (c:Nat) (h:zB) (n:Nat):PurC P 0 201 [.int .u8 c] h n (.bool (letB c)):=⟨by
 refine ent fun u=>?_;repeat' first|refine st ?_|refine ob ?_|refine ob1 ?_|refine cT ?_|refine cF ?_|refine zC ?_|refine cX (fun _=>?_) fun _=>?_|fail
 all_goals (first|unfold letB|unfold digB|skip);all_goals (refine finB ?_;first|exact⟨fun _=>by omega,fun _=>rfl⟩|exact⟨fun h=>Bool.noConfusion h,fun h=>by omega⟩|(rw [decide_eq_true_iff];omega))⟩
instance (c:Nat) (h:zB) (n:Nat):PurC P 0 202 [.int .u8 c] h n (.bool (digB c)):=⟨by
 refine ent fun u=>?_;repeat' first|refine st ?_|refine ob ?_|refine ob1 ?_|refine cT ?_|refine cF ?_|refine zC ?_|refine cX (fun _=>?_) fun _=>?_|fail
 all_goals (first|unfold letB|unfold digB|skip);all_goals (refine finB ?_;first|exact⟨fun _=>by omega,fun _=>rfl⟩|exact⟨fun h=>Bool.noConfusion h,fun h=>by omega⟩|(rw [decide_eq_true_iff];omega))⟩
instance named_c (s:Tx) (h:zB) (n:Nat):PurC P 0 175 [str s] h n (.bool (nameB s)):=⟨by
 refine ent fun u=>?_
 cases s with
 | nil=>
  repeat' first|refine st ?_|refine ob ?_|refine ob1 ?_|refine cT ?_|refine cF ?_|refine zC ?_|refine cX (fun _=>?_) fun _=>?_|fail
  exact fin rfl
 | cons c r=>
  have c0:(c::r)[0]? = some c:=rfl;have hn:nameB (c::r)=(decide ((c::r).length≤20) && letB c.toNat && tailB (c::r)):=rfl;repeat' first|refine st ?_|refine ob ?_|refine ob1 ?_|refine cT ?_|refine cF ?_|refine zC ?_|refine cX (fun _=>?_) fun _=>?_|fail
  · rename_i h2;exact fin (by rw[hn,decide_eq_false (by omega)];rfl)
  · rename_i h2;exact fin (by rw[hn,h2];simp)
  · rename_i h2 h3;replace hn:nameB (c::r)=tailB (c::r):=by rw[hn,decide_eq_true (by omega),h3];rfl
    generalize c::r=s at *
    refine lpR (fun k:Nat=>[(0,str s),(18,I64 s.length),(19,I64 k)]) (fun k h' n'=>h'=h∧n'=n∧k≤s.length∧∀j (hj:j<s.length),j<k→letB s[j].toNat=true∨digB s[j].toNat=true) (fun k=>s.length - k) 0 ⟨rfl,rfl,rfl,trivial⟩ ⟨rfl,rfl,Nat.zero_le _,fun j _ hj=>by omega⟩ ?_
    rintro k t h' n' ⟨rfl,rfl,hk,hno⟩
    by_cases hlt:k<s.length
    · have c1:s[k]? = some s[k]:=List.getElem?_eq_getElem hlt
      have go:letB s[k].toNat=true∨digB s[k].toNat=true→∀j (hj:j<s.length),j<k+1→letB s[j].toNat=true∨digB s[j].toNat=true:=fun hx j hj hlt=>by
       rcases Nat.lt_succ_iff_lt_or_eq.1 hlt with h9|rfl
       · exact hno j hj h9
       · exact hx
      repeat' first|refine st ?_|refine ob ?_|refine ob1 ?_|refine cT ?_|refine cF ?_|refine zC ?_|refine cX (fun _=>?_) fun _=>?_|fail
      · rename_i h7 h8;refine fin ?_;rw [hn]
        cases h9:tailB s with
        | false=>rfl
        | true=>rcases tail_step hlt h9 with e|e <;> simp_all
      · rename_i h7 h8;exact⟨k+1,by dsimp only;omega,⟨rfl,rfl,rfl,trivial⟩,rfl,rfl,by omega,go (.inr h8)⟩
      · rename_i h7;exact⟨k+1,by dsimp only;omega,⟨rfl,rfl,rfl,trivial⟩,rfl,rfl,by omega,go (.inl h7)⟩
    · obtain rfl:k=s.length:=by omega
      repeat' first|refine st ?_|refine ob ?_|refine ob1 ?_|refine cT ?_|refine cF ?_|refine zC ?_|refine cX (fun _=>?_) fun _=>?_|fail
      exact fin (by rw[hn,tail_all fun j hj=>hno j hj hj])⟩
theorem sF{lo e n:Nat}{h:zB}{sv:Value}{ss:List Tx}{x:Tx}(r:Row lo h sv e 1 ss.length (ss.map str))(hl:ss.length<4611686018427387904):Pur P 0 138 [sv,str x] h n (.bool (decide (x∈ss))):=by
 refine ent fun u=>?_;repeat' first|refine st ?_|refine ob ?_|refine ob1 ?_|refine cT ?_|refine cF ?_|refine zC ?_|refine cX (fun _=>?_) fun _=>?_|refine zY (sZ r hl) ?_|fail
 exact⟨by rw[show decide (0≤pos ss x)=decide (x∈ss) from decide_eq_decide.2 pos_ge],rfl,rfl⟩
instance word_c (s:Tx) (h:zB) (n:Nat):PurC P 0 176 [str s] h n (.bool (wordB s)):=⟨by
 refine Com.pure (ent fun u=>?_) (.inl rfl);repeat' first|refine st ?_|refine ob ?_|refine ob1 ?_|refine cT ?_|refine cF ?_|refine zC ?_|refine cX (fun _=>?_) fun _=>?_|fail
 refine zY (sF (ss:=wordsL) (zS (e:=0) (sz:=1) rfl (by decide)) (by decide)) ?_;repeat' first|refine st ?_|refine ob ?_|refine ob1 ?_|refine cT ?_|refine cF ?_|refine zC ?_|refine cX (fun _=>?_) fun _=>?_|fail
 exact finT rfl zA⟩
instance dnamed_c (s:Tx) (h:zB) (n:Nat):PurC P 0 136 [str s] h n (.bool (named s)):=⟨by
 refine ent fun u=>?_;repeat' first|refine st ?_|refine ob ?_|refine ob1 ?_|refine cT ?_|refine cF ?_|refine zC ?_|refine cX (fun _=>?_) fun _=>?_|fail
 all_goals (refine fin ?_;unfold named;simp [*])⟩
end Go.Proofs.YtcmohelnoldfbaaGreat
namespace Go.Ex.M
theorem idx_lt{ns:List Tx}{x:Tx}(h:x∈ns):ns.idxOf x<ns.length:=List.idxOf_lt_length_iff.2 h
theorem vK{ns:List Tx}{x:Tx}(h:x∈ns):pos ns x=(ns.idxOf x:Nat):=by unfold pos;rw [if_pos h]
theorem pos_out{ns:List Tx}{x:Tx}(h:x∉ns):pos ns x = -1:=by unfold pos;rw [if_neg h]
def yG(ns:List Tx)(ps:List Pl)(x:Tx):Pl:=ps.getD (ns.idxOf x) ⟨0,0,0⟩
theorem plc_at{ns:List Tx}{ps:List Pl}{x:Tx}(h:x∈ns)(hl:ps.length=ns.length):ps[ns.idxOf x]? = some (yG ns ps x):=by
 have:=idx_lt h;unfold yG;rw [List.getD_eq_getElem?_getD,List.getElem?_eq_getElem (by omega)];rfl
theorem plc_mem{ns:List Tx}{ps:List Pl}{x:Tx}(h:x∈ns)(hl:ps.length=ns.length):yG ns ps x∈ps:=List.mem_of_getElem? (plc_at h hl)
theorem posF_cases{α : Type}(p: α→Bool)(l:List α):(l.find? p=none∧posF p l = -1)∨∃(k:Nat) (x: α),l.find? p=some x∧l[k]? = some x∧posF p l=(k:Nat)∧k<l.length∧p x=true:=by
 cases h:l.find? p with
 | none=>
  refine .inl ⟨rfl,posF_no fun j y hj=>?_⟩;have:=List.find?_eq_none.1 h y (List.mem_of_getElem? hj);simpa using this
 | some x =>
  refine .inr ⟨l.findIdx p,x,rfl,?_⟩;have hm:=List.mem_of_find?_eq_some h;have hp:=List.find?_some h;have hlt:l.findIdx p<l.length:=List.findIdx_lt_length_of_exists ⟨x,hm,hp⟩
  have e1:l[l.findIdx p]? = some x:=by
   rw[List.getElem?_eq_getElem hlt];have:=List.find?_eq_some_iff_getElem.1 h;obtain⟨_,i,hi,e,hno⟩:=this
   have e2:l.findIdx p=i:=by
    rw[List.findIdx_eq hi];exact⟨by rw[e];exact hp,fun j hj=>by have:=hno j hj;simpa using this⟩
   congr 1
   rw[← e];congr 1
  refine⟨e1,?_,hlt,hp⟩;unfold posF;rw [if_pos (List.any_eq_true.2 ⟨x,hm,hp⟩)]
def vM(m:MachT)(x:Tx):Option ClassT:=m.classes.find? fun c=>decide (c.name=x)
def yT(m:MachT)(x:Tx):Int:=posF (fun c=>decide (c.name=x)) m.classes
def vS(m:MachT)(o:OperT):Bool:=match vM m o.cls with
 | none=>false
 | some c=>decide (o.fix=[]) || decide (o.fix∈c.regs)
def wdOf(ns:List Tx)(ps:List Pl)(c:ClassT):Int:=match c.regs with
 | []=>0
 | r::_=>(yG ns ps r).width
theorem wE{m:MachT}{x:Tx}:(vM m x=none∧yT m x = -1)∨∃(k:Nat) (c:ClassT),vM m x=some c∧m.classes[k]? = some c∧yT m x=(k:Nat)∧k<m.classes.length∧c.name=x:=by
 rcases posF_cases (fun c:ClassT=>decide (c.name=x)) m.classes with h|⟨k,c,h1,h2,h3,h4,h5⟩
 · exact .inl h
 · exact .inr ⟨k,c,h1,h2,h3,h4,of_decide_eq_true h5⟩
theorem xP{h:zB}{b:Nat}:∀{k o:Nat} {vs:List Value},Rd h b o k vs→∀{j:Nat} {v:Value},vs[j]? = some v→zD h b (o+j)=some v:=by
 intro k
 induction k with
 | zero=>intro o vs h j v hj;rw [show vs=[] from h]at hj;cases hj
 | succ k ih=>
  rintro o vs ⟨x,r,rfl,h1,h2⟩ j v hj
  cases j with
  | zero=>cases hj;exact h1
  | succ j=>have:=ih h2 (j:=j) hj;rwa [show o+1+j=o+(j+1) by omega]at this
end Go.Ex.M
namespace Go.Proofs.YtcmohelnoldfbaaGreat
open Go Go.Ex Go.Ex.M
set_option maxRecDepth 100000
set_option maxHeartbeats 8000000
instance (c:Nat) (h:zB) (n:Nat):PurC P 0 117 [.int .u8 c] h n (.bool (letB c)):=⟨by
 refine ent fun u=>?_;repeat' first|refine st ?_|refine ob ?_|refine ob1 ?_|refine cT ?_|refine cF ?_|refine zC ?_|refine cX (fun _=>?_) fun _=>?_|fail
 all_goals (first|unfold letB|unfold digB|skip);all_goals (refine finB ?_;first|exact⟨fun _=>by omega,fun _=>rfl⟩|exact⟨fun h=>Bool.noConfusion h,fun h=>by omega⟩|(rw [decide_eq_true_iff];omega))⟩
instance (c:Nat) (h:zB) (n:Nat):PurC P 0 118 [.int .u8 c] h n (.bool (digB c)):=⟨by
 refine ent fun u=>?_;repeat' first|refine st ?_|refine ob ?_|refine ob1 ?_|refine cT ?_|refine cF ?_|refine zC ?_|refine cX (fun _=>?_) fun _=>?_|fail
 all_goals (first|unfold letB|unfold digB|skip);all_goals (refine finB ?_;first|exact⟨fun _=>by omega,fun _=>rfl⟩|exact⟨fun h=>Bool.noConfusion h,fun h=>by omega⟩|(rw [decide_eq_true_iff];omega))⟩
instance rname_c (s:Tx) (h:zB) (n:Nat):PurC P 0 57 [str s] h n (.bool (nameB s)):=⟨by
 refine ent fun u=>?_
 cases s with
 | nil=>
  repeat' first|refine st ?_|refine ob ?_|refine ob1 ?_|refine cT ?_|refine cF ?_|refine zC ?_|refine cX (fun _=>?_) fun _=>?_|fail
  exact fin rfl
 | cons c r=>
  have c0:(c::r)[0]? = some c:=rfl;have hn:nameB (c::r)=(decide ((c::r).length≤20) && letB c.toNat && tailB (c::r)):=rfl;repeat' first|refine st ?_|refine ob ?_|refine ob1 ?_|refine cT ?_|refine cF ?_|refine zC ?_|refine cX (fun _=>?_) fun _=>?_|fail
  · rename_i h2;exact fin (by rw[hn,decide_eq_false (by omega)];rfl)
  · rename_i h2;replace hn:nameB (c::r)=(letB c.toNat && tailB (c::r)):=by rw[hn,decide_eq_true (by omega)];rfl
    generalize c::r=s at *
    refine lpR (fun k:Nat=>[(0,str s),(3,.bool (letB c.toNat)),(4,I64 k)]) (fun k h' n'=>h'=h∧n'=n∧k≤s.length∧∀j (hj:j<s.length),j<k→letB s[j].toNat=true∨digB s[j].toNat=true) (fun k=>s.length - k) 0 (by repeat' first|exact trivial|refine⟨rfl,?_⟩) ⟨rfl,rfl,Nat.zero_le _,fun j _ hj=>by omega⟩ ?_
    rintro k t h' n' ⟨rfl,rfl,hk,hno⟩
    by_cases hlt:k<s.length
    · have c1:s[k]? = some s[k]:=List.getElem?_eq_getElem hlt
      have go:letB s[k].toNat=true∨digB s[k].toNat=true→∀j (hj:j<s.length),j<k+1→letB s[j].toNat=true∨digB s[j].toNat=true:=fun hx j hj hlt=>by
       rcases Nat.lt_succ_iff_lt_or_eq.1 hlt with h9|rfl
       · exact hno j hj h9
       · exact hx
      repeat' first|refine st ?_|refine ob ?_|refine ob1 ?_|refine cT ?_|refine cF ?_|refine zC ?_|refine cX (fun _=>?_) fun _=>?_|fail
      · rename_i h7 h8;refine fin ?_;rw [hn]
        cases h9:tailB s with
        | false=>simp
        | true=>rcases tail_step hlt h9 with e|e <;> simp_all
      · rename_i h7 h8;exact⟨k+1,(by dsimp only;omega),(by repeat' first|exact trivial|refine⟨rfl,?_⟩),rfl,rfl,by omega,go (.inr h8)⟩
      · rename_i h7;exact⟨k+1,(by dsimp only;omega),(by repeat' first|exact trivial|refine⟨rfl,?_⟩),rfl,rfl,by omega,go (.inl h7)⟩
    · obtain rfl:k=s.length:=by omega
      repeat' first|refine st ?_|refine ob ?_|refine ob1 ?_|refine cT ?_|refine cF ?_|refine zC ?_|refine cX (fun _=>?_) fun _=>?_|fail
      exact fin (by rw[hn,tail_all fun j hj=>hno j hj hj];simp)⟩
instance rword_c (s:Tx) (h:zB) (n:Nat):PurC P 0 168 [str s] h n (.bool (wordB s)):=⟨by
 refine ent fun u=>?_;repeat' first|refine st ?_|refine ob ?_|refine ob1 ?_|refine cT ?_|refine cF ?_|refine zC ?_|refine cX (fun _=>?_) fun _=>?_|fail
 all_goals (refine fin ?_;unfold wordB wordsL;simp_all)⟩
instance rnamed_c (s:Tx) (h:zB) (n:Nat):PurC P 0 126 [str s] h n (.bool (named s)):=⟨by
 refine ent fun u=>?_;repeat' first|refine st ?_|refine ob ?_|refine ob1 ?_|refine cT ?_|refine cF ?_|refine zC ?_|refine cX (fun _=>?_) fun _=>?_|fail
 all_goals (refine fin ?_;unfold named;simp [*])⟩
theorem find_pur{lo e n:Nat}{h:zB}{sv:Value}{ss:List Tx}{x:Tx}(r:Row lo h sv e 1 ss.length (ss.map str))(hl:ss.length<4611686018427387904):Pur P 0 130 [sv,str x] h n (I64 (pos ss x)):=by
 refine ent fun u=>?_;repeat' first|refine st ?_|refine ob ?_|refine ob1 ?_|refine cT ?_|refine cF ?_|refine zC ?_|refine cX (fun _=>?_) fun _=>?_|fail
 refine lpR (fun k:Nat=>[(0,sv),(1,str x),(5,I64 k)]) (fun k h' n'=>h'=h∧n'=n∧k≤ss.length∧∀j,j<k→ss[j]?≠some x) (fun k=>ss.length - k) 0 (by repeat' first|exact trivial|refine⟨rfl,?_⟩) ⟨rfl,rfl,Nat.zero_le _,fun j hj=>by omega⟩ ?_
 rintro k t h' n' ⟨rfl,rfl,hk,hno⟩
 by_cases hlt:k<ss.length
 · have c1:zD h' (sbk sv) (sof sv+k*1)=some (str ss[k]):=by rw[Nat.mul_one];exact r.at (str_at hlt)
   repeat' first|refine st ?_|refine ob ?_|refine ob1 ?_|refine cT ?_|refine cF ?_|refine zC ?_|refine cX (fun _=>?_) fun _=>?_|fail
   · rename_i e1;exact⟨by rw[pos_hit (by rw[List.getElem?_eq_getElem hlt,e1]) hno],rfl,rfl⟩
   · rename_i e1
     exact⟨k+1,(by dsimp only;omega),(by repeat' first|exact trivial|refine⟨rfl,?_⟩),rfl,rfl,by omega,fun j hj e2=>by
      rcases Nat.lt_succ_iff_lt_or_eq.1 hj with h9|rfl
      · exact hno j h9 e2
      · rw[List.getElem?_eq_getElem hlt]at e2;exact e1 (Option.some.inj e2)⟩
 · obtain rfl:k=ss.length:=by omega
   repeat' first|refine st ?_|refine ob ?_|refine ob1 ?_|refine cT ?_|refine cF ?_|refine zC ?_|refine cX (fun _=>?_) fun _=>?_|fail
   exact⟨by rw[pos_no hno],rfl,rfl⟩
def PlB(p:Pl):Prop:=0≤p.at_∧p.at_<1000000∧0≤p.width∧p.width<1000000
theorem rlap_pur(a b:Pl)(ha:PlB a)(hb:PlB b)(h:zB)(n:Nat):Pur P 0 81 [plV a,plV b] h n (.bool (tJ a b)):=by
 obtain⟨ha1,ha2,ha3,ha4⟩:=ha;obtain⟨hb1,hb2,hb3,hb4⟩:=hb;refine Com.pure (ent fun u=>?_) (.inl rfl);repeat' first|refine st ?_|refine ob ?_|refine ob1 ?_|refine cT ?_|refine cF ?_|refine zC ?_|refine cX (fun _=>?_) fun _=>?_|fail
 all_goals refine lap_fin ?_ zA
 all_goals unfold lapP
 all_goals first|exact⟨fun h=>Bool.noConfusion h,fun h=>by omega⟩|(rw [decide_eq_true_iff];split <;> omega)|(constructor <;> intro hh <;> (first|omega|(simp at hh)|(split at hh <;> omega)))
end Go.Proofs.YtcmohelnoldfbaaGreat
namespace Go.Ex.M
def preL:Nat→Int→List RegT→List (RegT×Int)
 | 0,_,_=>[]
 | k+1,d,l=>l.flatMap fun r=>(r,d)::preL k (d+1) r.subs
abbrev deepC(e:RegT×Int):List Value:=[str e.1.name,I64 e.1.w,I64 e.1.a,e.1.sv,I64 e.2]
theorem pre_snoc{k:Nat}{d:Int}{l:List RegT}{i:Nat}{r:RegT}(h:l[i]? = some r):preL (k+1) d (l.take (i+1))=preL (k+1) d (l.take i)++((r,d)::preL k (d+1) r.subs):=by
 show(l.take (i+1)).flatMap (fun r=>(r,d)::preL k (d+1) r.subs)=(l.take i).flatMap (fun r=>(r,d)::preL k (d+1) r.subs)++_;rw [List.take_add_one,h,List.flatMap_append];simp
theorem pre_take{k:Nat}{d:Int}{l:List RegT}{i:Nat}:preL k d (l.take i) <+: preL k d l:=by
 cases k with
 | zero=>exact List.prefix_refl _
 | succ k=>
  show(l.take i).flatMap (fun r=>(r,d)::preL k (d+1) r.subs) <+: l.flatMap (fun r=>(r,d)::preL k (d+1) r.subs);conv=>rhs;rw [← List.take_append_drop i l]
  rw[List.flatMap_append];exact List.prefix_append _ _
end Go.Ex.M
namespace Go.Ex.M
structure GSt where
 ns:List Tx
 ps:List Pl
def gPl(d:Int)(base:Pl)(sibs:List Pl)(r:RegT):Pl:=if d=1 then⟨(sibs.length:Nat),r.a,r.w⟩ else⟨base.root,base.at_+r.a,r.w⟩
def tR(d:Int)(base:Pl)(sibs:List Pl)(s:GSt)(r:RegT):Except Int Pl:=
 if 6<d then .error 4
 else if 200≤s.ns.length then .error 2
 else if named r.name=false∨r.name∈s.ns then .error 5
 else if r.w<1∨64<r.w∨r.a<0∨(d=1∧r.a≠0)∨(d≠1∧base.width - r.w<r.a) then .error 6
 else if sibs.any (tJ (gPl d base sibs r)) then .error 7
 else .ok (gPl d base sibs r)
def uJ(rec:Pl→List RegT→GSt→Except Int GSt)(d:Int)(base:Pl)(acc:Except Int (List Pl×GSt))(r:RegT):Except Int (List Pl×GSt):=match acc with
 | .error e=>.error e
 | .ok x => match tR d base x.1 x.2 r with
  | .error e=>.error e
  | .ok p=>match rec p r.subs ⟨x.2.ns++[r.name],x.2.ps++[p]⟩ with
   | .error e=>.error e
   | .ok s'=>.ok (x.1++[p],s')
def yP:Nat→Int→Pl→List RegT→GSt→Except Int GSt
 | 0,_,_,_,s=>.ok s
 | k+1,d,base,l,s=>match l.foldl (uJ (yP k (d+1)) d base) (.ok ([],s)) with
  | .error e=>.error e
  | .ok x=>.ok x.2
def geoP(l:List RegT):Except Int GSt:=yP 7 1 ⟨0,0,0⟩ l ⟨[],[]⟩
theorem xY(rec:Pl→List RegT→GSt→Except Int GSt)(d:Int)(base:Pl)(e:Int):∀l:List RegT,l.foldl (uJ rec d base) (.error e) = .error e:=by
 intro l
 induction l with
 | nil=>rfl
 | cons r l ih=>exact ih
section
variable {rec:Pl→List RegT→GSt→Except Int GSt} {d:Int} {base:Pl} {sibs:List Pl} {s s':GSt} {r:RegT} {p:Pl} {e:Int}
theorem gStep_e1(hg:tR d base sibs s r = .error e):uJ rec d base (.ok (sibs,s)) r = .error e:=by unfold uJ;dsimp only;rw [hg]
theorem gStep_e2(hg:tR d base sibs s r = .ok p)(hr:rec p r.subs ⟨s.ns++[r.name],s.ps++[p]⟩ = .error e):uJ rec d base (.ok (sibs,s)) r = .error e:=by unfold uJ;dsimp only;rw [hg];dsimp only;rw [hr]
theorem gStep_ok(hg:tR d base sibs s r = .ok p)(hr:rec p r.subs ⟨s.ns++[r.name],s.ps++[p]⟩ = .ok s'):uJ rec d base (.ok (sibs,s)) r = .ok (sibs++[p],s'):=by unfold uJ;dsimp only;rw [hg];dsimp only;rw [hr]
end
structure WSt where
 ns:List Tx
 ps:List Pl
 ways:List (Pl×List Pl)
def wStep(acc:Except Int WSt)(e:RegT×Int):Except Int WSt:=match acc with
 | .error x=>.error x
 | .ok w => match w.ways[(e.2 - 1).toNat]? with
  | none=>.error 0
  | some top=>match tR e.2 top.1 top.2 ⟨w.ns,w.ps⟩ e.1 with
   | .error x=>.error x
   | .ok p=>.ok ⟨w.ns++[e.1.name],w.ps++[p],w.ways.take (e.2 - 1).toNat++[(top.1,top.2++[p]),(p,[])]⟩
theorem wStep_err(e:Int):∀l:List (RegT×Int),l.foldl wStep (.error e) = .error e:=by
 intro l
 induction l with
 | nil=>rfl
 | cons r l ih=>exact ih
def Sub(k:Nat):Prop:=∀(d:Int) (p:Pl) (subs:List RegT) (s:GSt) (stk:List (Pl×List Pl)),0<d→(stk.length:Int)=d→
 (∃e,(preL k (d+1) subs).foldl wStep (.ok ⟨s.ns,s.ps,stk++[(p,[])]⟩) = .error e∧yP k (d+1) p subs s = .error e)∨
 ∃s' rest,(preL k (d+1) subs).foldl wStep (.ok ⟨s.ns,s.ps,stk++[(p,[])]⟩) = .ok ⟨s'.ns,s'.ps,stk++rest⟩∧yP k (d+1) p subs s = .ok s'
theorem main_of{k:Nat}(hs:Sub k){d:Int}{base:Pl}{stk:List (Pl×List Pl)}(hd:0<d)(hl:(stk.length:Int)+1=d):∀(l:List RegT) (sibs:List Pl) (s:GSt) (rest:List (Pl×List Pl)),
 (∃e,(preL (k+1) d l).foldl wStep (.ok ⟨s.ns,s.ps,stk++(base,sibs)::rest⟩) = .error e∧l.foldl (uJ (yP k (d+1)) d base) (.ok (sibs,s)) = .error e)∨
 ∃s' sibs' rest',(preL (k+1) d l).foldl wStep (.ok ⟨s.ns,s.ps,stk++(base,sibs)::rest⟩) = .ok ⟨s'.ns,s'.ps,stk++(base,sibs')::rest'⟩∧l.foldl (uJ (yP k (d+1)) d base) (.ok (sibs,s)) = .ok (sibs',s'):=by
 have hn:(d - 1).toNat=stk.length:=by omega
 intro l
 induction l with
 | nil=>intro sibs s rest;exact .inr ⟨s,sibs,rest,rfl,rfl⟩
 | cons r l ih =>
  intro sibs s rest
  have e0:preL (k+1) d (r::l)=(r,d)::(preL k (d+1) r.subs++preL (k+1) d l):=by
   show(r::l).flatMap (fun r=>(r,d)::preL k (d+1) r.subs)=_;rw [List.flatMap_cons];rfl
  rw[e0,List.foldl_cons,List.foldl_append,List.foldl_cons]
  have e1:(stk++(base,sibs)::rest)[(d - 1).toNat]? = some (base,sibs):=by
   rw[hn,List.getElem?_append_right (Nat.le_refl _),Nat.sub_self];rfl
  have e2:(stk++(base,sibs)::rest).take (d - 1).toNat=stk:=by rw[hn,List.take_left'];rfl
  have e3:wStep (.ok ⟨s.ns,s.ps,stk++(base,sibs)::rest⟩) (r,d)=match tR d base sibs s r with
   | .error x=>.error x
   | .ok p=>.ok ⟨s.ns++[r.name],s.ps++[p],stk++[(base,sibs++[p]),(p,[])]⟩:=by
   unfold wStep;dsimp only;rw [e1];dsimp only;rw [e2]
  rw[e3]
  cases hg:tR d base sibs s r with
  | error x=>
   refine .inl ⟨x,?_,?_⟩
   · dsimp only;rw [wStep_err,wStep_err]
   · rw[gStep_e1 hg];exact xY _ _ _ _ _
  | ok p =>
   dsimp only;have e4:stk++[(base,sibs++[p]),(p,([]:List Pl))]=(stk++[(base,sibs++[p])])++[(p,[])]:=by simp
   rw[e4]
   have e5:uJ (yP k (d+1)) d base (.ok (sibs,s)) r=match yP k (d+1) p r.subs ⟨s.ns++[r.name],s.ps++[p]⟩ with
    | .error e=>.error e
    | .ok s'=>.ok (sibs++[p],s'):=by
    unfold uJ;dsimp only;rw [hg]
   rw[e5];rcases hs d p r.subs ⟨s.ns++[r.name],s.ps++[p]⟩ (stk++[(base,sibs++[p])]) hd (by rw[List.length_append];simp;omega) with⟨e,h1,h2⟩|⟨s',rest',h1,h2⟩
   · refine .inl ⟨e,?_,?_⟩
     · rw[h1,wStep_err]
     · rw[h2];dsimp only;exact xY _ _ _ _ _
   · rw[h1,h2,List.append_assoc];exact ih _ _ _
theorem sub_all:∀k,Sub k:=by
 intro k
 induction k with
 | zero=>intro d p subs s stk hd hl;exact .inr ⟨s,[(p,[])],rfl,rfl⟩
 | succ k ih=>
  intro d p subs s stk hd hl;rcases main_of ih (d:=d+1) (base:=p) (stk:=stk) (by omega) (by omega) subs [] s [] with⟨e,h1,h2⟩|⟨s',sibs',rest',h1,h2⟩
  · refine .inl ⟨e,h1,?_⟩;unfold yP;rw [h2]
  · refine .inr ⟨s',_,h1,?_⟩;unfold yP;rw [h2]
theorem geo_walk(l:List RegT):(∃e,(preL 7 1 l).foldl wStep (.ok ⟨[],[],[(⟨0,0,0⟩,[])]⟩) = .error e∧geoP l = .error e)∨
 ∃s ways,(preL 7 1 l).foldl wStep (.ok ⟨[],[],[(⟨0,0,0⟩,[])]⟩) = .ok ⟨s.ns,s.ps,ways⟩∧geoP l = .ok s:=by
 rcases main_of (sub_all 6) (d:=1) (base:=⟨0,0,0⟩) (stk:=[]) (by decide) (by decide) l [] ⟨[],[]⟩ [] with⟨e,h1,h2⟩|⟨s',sibs',rest',h1,h2⟩
 · refine .inl ⟨e,h1,?_⟩;unfold geoP yP;rw [show(1:Int)+1=2 from rfl]at h2;rw [show(1:Int)+1=2 from rfl,h2]
 · refine .inr ⟨s',_,h1,?_⟩;unfold geoP yP;rw [show(1:Int)+1=2 from rfl]at h2;rw [show(1:Int)+1=2 from rfl,h2]
def PlG(p:Pl):Prop:=0≤p.at_∧1≤p.width∧p.at_+p.width≤64
structure GOK (s:GSt):Prop where
 nd:s.ns.Nodup
 len:s.ps.length=s.ns.length
 le:s.ns.length≤200
 pl:∀p∈s.ps,PlG p
 nm:∀x∈s.ns,named x=true
theorem gOne_ok{d:Int}{base:Pl}{sibs:List Pl}{s:GSt}{r:RegT}{p:Pl}(h:tR d base sibs s r = .ok p)(hs:GOK s)(hb:d=1∨PlG base):p=gPl d base sibs r∧PlG p∧GOK ⟨s.ns++[r.name],s.ps++[p]⟩:=by
 unfold tR at h;split at h
 · cases h
 split at h
 · cases h
 split at h
 · cases h
 split at h
 · cases h
 split at h
 · cases h
 rename_i h1 h2 h3 h4 h5;injection h with h
 subst h
 have hp:PlG (gPl d base sibs r):=by
  unfold gPl PlG;split
  · rename_i hd;show 0≤r.a∧1≤r.w∧r.a+r.w≤64
    have:r.a=0:=by
     rcases Decidable.em (r.a=0) with h9|h9
     · exact h9
     · exact absurd (.inr (.inr (.inr (.inl ⟨hd,h9⟩)))) h4
    simp only[not_or,not_and,Int.not_lt]at h4;omega
  · rename_i hd;rcases hb with hb|hb
    · exact absurd hb hd
    · unfold PlG at hb;simp only[not_or,not_and,Int.not_lt]at h4;have:=h4.2.2.2.2 hd;show 0≤base.at_+r.a∧1≤r.w∧base.at_+r.a+r.w≤64;omega
 refine⟨rfl,hp,?_,?_,?_,?_,?_⟩
 · show(s.ns++[r.name]).Nodup;rw [List.nodup_append];refine⟨hs.nd,by simp,fun a ha b hb e=>?_⟩;simp at hb;subst e hb;exact h3 (.inr ha)
 · show(s.ps++[gPl d base sibs r]).length=(s.ns++[r.name]).length;simp [hs.len]
 · show(s.ns++[r.name]).length≤200;simp;omega
 · intro q hq;rcases List.mem_append.1 hq with h9|h9
   · exact hs.pl q h9
   · simp at h9;subst h9;exact hp
 · intro x hx;rcases List.mem_append.1 hx with h9|h9
   · exact hs.nm x h9
   · simp at h9;subst h9
     cases h8:named r.name with
     | true=>rfl
     | false=>exact absurd (.inl h8) h3
theorem gDown_ok:∀(k:Nat) (d:Int) (base:Pl) (l:List RegT) (s s':GSt),0<d→(d=1∨PlG base)→yP k d base l s = .ok s'→GOK s→GOK s':=by
 intro k
 induction k with
 | zero=>
  intro d base l s s' _ _ h hs;unfold yP at h;injection h with h
  exact h ▸ hs
 | succ k ih =>
  intro d base l s s' hd hb h hs
  have go:∀(l:List RegT) (sibs:List Pl) (s:GSt) (x:List Pl×GSt),GOK s→l.foldl (uJ (yP k (d+1)) d base) (.ok (sibs,s)) = .ok x→GOK x.2:=by
   intro l
   induction l with
   | nil=>
    intro sibs s x hs h;injection h with h
    exact h ▸ hs
   | cons r l ihl =>
    intro sibs s x hs h;rw [List.foldl_cons]at h
    cases hg:tR d base sibs s r with
    | error e=>rw [gStep_e1 hg,xY]at h;cases h
    | ok p =>
     obtain⟨_,q1,q2⟩:=gOne_ok hg hs hb
     cases hr:yP k (d+1) p r.subs ⟨s.ns++[r.name],s.ps++[p]⟩ with
     | error e=>rw [gStep_e2 hg hr,xY]at h;cases h
     | ok s2=>
      rw[gStep_ok hg hr]at h;exact ihl _ _ _ (ih (d+1) p r.subs _ _ (by omega) (.inr q1) hr q2) h
  unfold yP at h
  cases hf:l.foldl (uJ (yP k (d+1)) d base) (.ok ([],s)) with
  | error e=>rw [hf]at h;cases h
  | ok x=>
   rw[hf]at h;injection h with h
   exact h ▸ go l [] s x hs hf
theorem geo_ok{l:List RegT}{s:GSt}(h:geoP l = .ok s):GOK s:=gDown_ok 7 1 ⟨0,0,0⟩ l ⟨[],[]⟩ s (by decide) (.inl rfl) h ⟨List.nodup_nil,rfl,Nat.zero_le _,fun p hp=>(by cases hp),fun x hx=>(by cases hx)⟩
theorem PlG.ok{p:Pl}(h:PlG p):PlOK p:=by unfold PlG at h;unfold PlOK Go64;omega
theorem vN(a b:Pl):tJ a b=tJ b a:=by
 unfold tJ lapP;refine decide_eq_decide.2 ⟨fun⟨h1,h2,h3,h4⟩=>⟨h1.symm,h3,h2,?_⟩,fun⟨h1,h2,h3,h4⟩=>⟨h1.symm,h3,h2,?_⟩⟩
 · split at h4 <;> split <;> omega
 · split at h4 <;> split <;> omega
end Go.Ex.M
namespace Go.Ex.M
def FirstE{α : Type}(l:List α)(E:Nat→α→Int→Prop)(e:Int):Prop:=(e=0∧∀(i:Nat) x,l[i]? = some x→E i x 0)∨∃(i:Nat) (x: α),l[i]? = some x∧(∀(j:Nat) y,j<i→l[j]? = some y→E j y 0)∧e≠0∧E i x e
theorem rA{α : Type}{l:List α}{E:Nat→α→Int→Prop}{i:Nat}{x: α}(hx:l[i]? = some x)(h:E i x 0)(hno:∀(j:Nat) y,j<i→l[j]? = some y→E j y 0):∀(j:Nat) y,j<i+1→l[j]? = some y→E j y 0:=fun j y hj e=>by
 rcases Nat.lt_succ_iff_lt_or_eq.1 hj with h9|rfl
 · exact hno j y h9 e
 · rw[hx]at e;cases e;exact h
theorem first_all{α : Type}{l:List α}{E:Nat→α→Int→Prop}(hno:∀(j:Nat) y,j<l.length→l[j]? = some y→E j y 0):FirstE l E 0:=.inl ⟨rfl,fun i x hx=>hno i x (List.getElem?_eq_some_iff.1 hx).1 hx⟩
theorem tL{α : Type}{l:List α}{E:Nat→α→Int→Prop}{i:Nat}{x: α}{e:Int}(hx:l[i]? = some x)(h:E i x e)(he:e≠0)(hno:∀(j:Nat) y,j<i→l[j]? = some y→E j y 0):FirstE l E e:=.inr ⟨i,x,hx,hno,he,h⟩
def nameOKc(m:MachT)(ns:List Tx)(i:Nat)(c:ClassT):Prop:=named c.name=true∧yT m c.name=(i:Nat)∧c.name∉ns
def regOKc(ns:List Tx)(ps:List Pl)(c:ClassT)(j:Nat)(r:Tx):Prop:=r∈ns∧pos c.regs r=(j:Nat)∧(yG ns ps r).width=wdOf ns ps c
def restOKc(ns:List Tx)(ps:List Pl)(c:ClassT):Prop:=1≤c.regs.length∧c.regs.length≤64∧∀(j:Nat) r,c.regs[j]? = some r→regOKc ns ps c j r
def clsE(m:MachT)(ns:List Tx)(ps:List Pl)(i:Nat)(c:ClassT)(e:Int):Prop:=(e=0∧nameOKc m ns i c∧restOKc ns ps c)∨(e=5∧¬nameOKc m ns i c)∨(e=8∧nameOKc m ns i c∧¬restOKc ns ps c)
def ClsErr(m:MachT)(ns:List Tx)(ps:List Pl)(e:Int):Prop:=(e=2∧64<m.classes.length)∨(m.classes.length≤64∧FirstE m.classes (clsE m ns ps) e)
def wdC(m:MachT)(ns:List Tx)(ps:List Pl)(x:Tx):Int:=match vM m x with
 | some c=>wdOf ns ps c
 | none=>0
def nameOKo(m:MachT)(i:Nat)(o:OpT):Prop:=0<arity o.name∧posF (fun x:OpT=>decide (x.name=o.name)) m.ops=(i:Nat)
def useOKo(m:MachT)(ns:List Tx)(ps:List Pl)(o:OpT)(u:OperT):Prop:=vS m u=true∧wdC m ns ps u.cls=wdC m ns ps o.d.cls
def clobOKo(ns:List Tx)(o:OpT)(j:Nat)(r:Tx):Prop:=r∈ns∧pos o.clob r=(j:Nat)
def uO(m:MachT)(ns:List Tx)(ps:List Pl)(o:OpT):Prop:=((o.uses.length:Nat):Int)=arity o.name∧vS m o.d=true∧(∀(j:Nat) u,o.uses[j]? = some u→useOKo m ns ps o u)∧-1≤o.tie∧o.tie<o.uses.length∧(0≤o.tie→o.uses[o.tie.toNat]? = some o.d)∧o.clob.length≤64∧∀(j:Nat) r,o.clob[j]? = some r→clobOKo ns o j r
def opE(m:MachT)(ns:List Tx)(ps:List Pl)(i:Nat)(o:OpT)(e:Int):Prop:=(e=0∧nameOKo m i o∧uO m ns ps o)∨(e=5∧¬nameOKo m i o)∨(e=9∧nameOKo m i o∧¬uO m ns ps o)
def rB(m:MachT)(ns:List Tx)(ps:List Pl)(e:Int):Prop:=(e=2∧64<m.ops.length)∨(m.ops.length≤64∧FirstE m.ops (opE m ns ps) e)
theorem ClsErr.ok{m:MachT}{ns:List Tx}{ps:List Pl}(h:ClsErr m ns ps 0):m.classes.length≤64∧∀(i:Nat) c,m.classes[i]? = some c→nameOKc m ns i c∧restOKc ns ps c:=by
 rcases h with⟨h,_⟩|⟨h1,⟨_,h⟩|⟨_,_,_,_,h,_⟩⟩
 · omega
 · refine⟨h1,fun i c hc=>?_⟩;rcases h i c hc with⟨_,h⟩|⟨h,_⟩|⟨h,_⟩
   · exact h
   · omega
   · omega
 · omega
def sG(m:MachT)(ns:List Tx)(ps:List Pl)(apart:List Tx→Int→Prop):Prop:=apart m.args 16∧m.result∈ns∧apart m.saved 64∧(∀(i:Nat) x,m.saved[i]? = some x→tJ (yG ns ps x) (yG ns ps m.result)=false)∧0≤m.slots∧m.slots≤1000∧∀(i:Nat) x,(m.args++[m.result])[i]? = some x→m.classes.any (fun c=>decide (x∈c.regs))=true
def apOK(ns:List Tx)(ps:List Pl)(l:List Tx)(i:Nat)(x:Tx):Prop:=x∈ns∧∀(j:Nat) y,j<i→l[j]? = some y→tJ (yG ns ps x) (yG ns ps y)=false
def wK(ns:List Tx)(ps:List Pl)(l:List Tx)(most:Int):Prop:=(l.length:Nat)≤most∧∀(i:Nat) x,l[i]? = some x→apOK ns ps l i x
theorem xN{α : Type}{l:List α}{i:Nat}{x: α}(h:l[i]? = some x):l.take (i+1)=l.take i++[x]:=by
 rw[List.take_add_one,h];rfl
theorem zZ{lo n:Nat}{h:zB}{v:Value}{e sz len:Nat}{vs:List Value}(r:Own lo n h v e sz len vs):∀x∈(zN v).toList,lo≤x:=fun x hx=>by
 cases hb:zN v with
 | none=>rw [hb]at hx;cases hx
 | some b=>rw [hb]at hx;simp at hx;subst hx;exact(r.blk hb).1
theorem el_at{α β : Type}{f: α→β}{l:List α}{i j:Nat}{y: α}(h:l[j]? = some y)(hj:j<i):((l.take i).map f)[j]? = some (f y):=by
 rw[List.getElem?_map,List.getElem?_take_of_lt hj,h];rfl
end Go.Ex.M
namespace Go.Ex.M
def mayF(o:OperT)(r:Tx):Bool:=decide (o.fix=[]) || decide (o.fix=r)
def uS(m:MachT)(ns:List Tx)(ps:List Pl)(o:OperT):List Pl:=match vM m o.cls with
 | some c=>(c.regs.filter (mayF o)).map (yG ns ps)
 | none=>[]
def rC(m:MachT)(ns:List Tx)(ps:List Pl)(a b:OperT):Bool:=(uS m ns ps a).any fun p=>(uS m ns ps b).any fun q=> !tJ p q
def sparB(ns:List Tx)(ps:List Pl)(o:OpT)(p:Pl):Bool:=o.clob.all fun r=> !tJ p (yG ns ps r)
def defB(m:MachT)(ns:List Tx)(ps:List Pl)(o:OpT)(uses:List Pl):Bool:=if 0≤o.tie then sparB ns ps o (uses.getD o.tie.toNat ⟨0,0,0⟩) else(uS m ns ps o.d).any (sparB ns ps o)
theorem all_false{α : Type}{l:List α}{f: α→Bool}{i:Nat}{x: α}(hi:l[i]? = some x)(h:f x=false):l.all f=false:=by
 cases e:l.all f with
 | false=>rfl
 | true=>rw [List.all_eq_true.1 e x (List.mem_of_getElem? hi)]at h;cases h
theorem all_true{α : Type}{l:List α}{f: α→Bool}(h:∀(i:Nat) x,i<l.length→l[i]? = some x→f x=true):l.all f=true:=List.all_eq_true.2 fun x hx=>by
 obtain⟨i,hi⟩:=List.mem_iff_getElem?.1 hx;exact h i x (List.getElem?_eq_some_iff.1 hi).1 hi
theorem may_step{o:OperT}{l:List Tx}{i:Nat}{r:Tx}{f:Tx→Pl}(h:l[i]? = some r):((l.take (i+1)).filter (mayF o)).map f=if mayF o r then((l.take i).filter (mayF o)).map f++[f r] else((l.take i).filter (mayF o)).map f:=by
 rw[xN h,List.filter_append]
 cases e:mayF o r with
 | true=>simp [e]
 | false=>simp [e]
theorem may_pre{o:OperT}{l:List Tx}{i:Nat}{f:Tx→Pl}:((l.take i).filter (mayF o)).map f <+: (l.filter (mayF o)).map f:=((List.take_prefix i l).filter _).map _
end Go.Ex.M
namespace Go.Ex.M
def chL(m:MachT)(ns:List Tx)(ps:List Pl)(o:OpT):List (List Pl):=match o.uses with
 | []=>[]
 | [u]=>(uS m ns ps u).map fun p=>[p]
 | u::v::_=>(uS m ns ps u).flatMap fun p=>((uS m ns ps v).filter fun q=> !tJ p q).map fun q=>[p,q]
def fitsB(m:MachT)(ns:List Tx)(ps:List Pl)(o:OpT):Bool:=(chL m ns ps o).any (defB m ns ps o)
def uA(m:MachT)(ns:List Tx)(ps:List Pl):Prop:=(∀(i:Nat) o,m.ops[i]? = some o→fitsB m ns ps o=true)∧∀(a b:Nat) ca cb,b≤a→m.classes[a]? = some ca→m.classes[b]? = some cb→rC m ns ps ⟨ca.name,[]⟩ ⟨cb.name,[]⟩=true
def BodyE(m:MachT)(ns:List Tx)(ps:List Pl)(e:Int):Prop:=(e≠0∧ClsErr m ns ps e)∨(ClsErr m ns ps 0∧((e≠0∧rB m ns ps e)∨(rB m ns ps 0∧((e=10∧¬sG m ns ps (wK ns ps))∨(sG m ns ps (wK ns ps)∧((e=11∧¬uA m ns ps)∨(e=0∧uA m ns ps)))))))
def MakeE(m:MachT)(e:Int):Prop:=(named m.name=false∧e=5)∨(named m.name=true∧((geoP m.regs = .error e∧e≠0)∨∃s,geoP m.regs = .ok s∧((s.ns=[]∧e=1)∨(s.ns≠[]∧BodyE m s.ns s.ps e))))
theorem firstE_fun{α : Type}{l:List α}{E:Nat→α→Int→Prop}(hE:∀i x e e',E i x e→E i x e'→e=e'){e e':Int}(h:FirstE l E e)(h':FirstE l E e'):e=e':=by
 rcases h with⟨rfl,h⟩|⟨i,x,h1,h2,h3,h4⟩
 · rcases h' with⟨rfl,h'⟩|⟨i,x,h1,h2,h3,h4⟩
   · rfl
   · exact absurd (hE _ _ _ _ h4 (h i x h1)) h3
 · rcases h' with⟨rfl,h'⟩|⟨j,y,g1,g2,g3,g4⟩
   · exact absurd (hE _ _ _ _ h4 (h' i x h1)) h3
   · rcases Nat.lt_trichotomy i j with h9|rfl|h9
     · exact absurd (hE _ _ _ _ h4 (g2 i x h9 h1)) h3
     · rw[h1]at g1;cases g1;exact hE _ _ _ _ h4 g4
     · exact absurd (hE _ _ _ _ g4 (h2 j y h9 g1)) g3
theorem clsErr_fun{m:MachT}{ns:List Tx}{ps:List Pl}{e e':Int}(h:ClsErr m ns ps e)(h':ClsErr m ns ps e'):e=e':=by
 rcases h with⟨rfl,h⟩|⟨h,k⟩
 · rcases h' with⟨rfl,h'⟩|⟨h',k'⟩
   · rfl
   · omega
 · rcases h' with⟨rfl,h'⟩|⟨h',k'⟩
   · omega
   · refine firstE_fun (fun i x e e' a b=>?_) k k';rcases a with⟨rfl,a1,a2⟩|⟨rfl,a1⟩|⟨rfl,a1,a2⟩ <;> rcases b with⟨rfl,b1,b2⟩|⟨rfl,b1⟩|⟨rfl,b1,b2⟩ <;> first|rfl|(exfalso;exact b1 a1)|(exfalso;exact a1 b1)|(exfalso;exact b2 a2)|(exfalso;exact a2 b2)
theorem opsErr_fun{m:MachT}{ns:List Tx}{ps:List Pl}{e e':Int}(h:rB m ns ps e)(h':rB m ns ps e'):e=e':=by
 rcases h with⟨rfl,h⟩|⟨h,k⟩
 · rcases h' with⟨rfl,h'⟩|⟨h',k'⟩
   · rfl
   · omega
 · rcases h' with⟨rfl,h'⟩|⟨h',k'⟩
   · omega
   · refine firstE_fun (fun i x e e' a b=>?_) k k';rcases a with⟨rfl,a1,a2⟩|⟨rfl,a1⟩|⟨rfl,a1,a2⟩ <;> rcases b with⟨rfl,b1,b2⟩|⟨rfl,b1⟩|⟨rfl,b1,b2⟩ <;> first|rfl|(exfalso;exact b1 a1)|(exfalso;exact a1 b1)|(exfalso;exact b2 a2)|(exfalso;exact a2 b2)
theorem bodyE_fun{m:MachT}{ns:List Tx}{ps:List Pl}{e e':Int}(h:BodyE m ns ps e)(h':BodyE m ns ps e'):e=e':=by
 rcases h with⟨h1,h2⟩|⟨h1,h⟩
 · rcases h' with⟨g1,g2⟩|⟨g1,_⟩
   · exact clsErr_fun h2 g2
   · exact absurd (clsErr_fun h2 g1) h1
 rcases h' with⟨g1,g2⟩|⟨_,h'⟩
 · exact absurd (clsErr_fun g2 h1) g1
 rcases h with⟨h1,h2⟩|⟨h1,h⟩
 · rcases h' with⟨g1,g2⟩|⟨g1,_⟩
   · exact opsErr_fun h2 g2
   · exact absurd (opsErr_fun h2 g1) h1
 rcases h' with⟨g1,g2⟩|⟨_,h'⟩
 · exact absurd (opsErr_fun g2 h1) g1
 rcases h with⟨rfl,h⟩|⟨h1,h⟩
 · rcases h' with⟨rfl,_⟩|⟨g1,_⟩
   · rfl
   · exact absurd g1 h
 rcases h' with⟨_,g⟩|⟨_,h'⟩
 · exact absurd h1 g
 rcases h with⟨rfl,h⟩|⟨rfl,h⟩ <;> rcases h' with⟨rfl,g⟩|⟨rfl,g⟩
 · rfl
 · exact absurd g h
 · exact absurd h g
 · rfl
theorem makeE_fun{m:MachT}{e e':Int}(h:MakeE m e)(h':MakeE m e'):e=e':=by
 rcases h with⟨h1,rfl⟩|⟨h1,h⟩
 · rcases h' with⟨g1,rfl⟩|⟨g1,_⟩
   · rfl
   · rw[h1]at g1;cases g1
 rcases h' with⟨g1,rfl⟩|⟨_,h'⟩
 · rw[h1]at g1;cases g1
 rcases h with⟨h,_⟩|⟨s,h2,h⟩
 · rcases h' with⟨g,_⟩|⟨s,g2,_⟩
   · rw[h]at g;exact Except.error.inj g
   · rw[h]at g2;cases g2
 rcases h' with⟨g,_⟩|⟨s',g2,h'⟩
 · rw[h2]at g;cases g
 rw[h2]at g2;cases Except.ok.inj g2
 rcases h with⟨h3,rfl⟩|⟨h3,h⟩ <;> rcases h' with⟨g3,rfl⟩|⟨g3,h'⟩
 · rfl
 · exact absurd h3 g3
 · exact absurd g3 h3
 · exact bodyE_fun h h'
structure MOK (m:MachT) (ns:List Tx) (ps:List Pl):Prop where
 geo:geoP m.regs = .ok ⟨ns,ps⟩
 ne:ns≠[]
 cls:ClsErr m ns ps 0
 ops:rB m ns ps 0
 conv:sG m ns ps (wK ns ps)
 spill:uA m ns ps
 nm:named m.name=true
theorem makeE_ok{m:MachT}(h:MakeE m 0):∃ns ps,MOK m ns ps:=by
 rcases h with⟨_,h⟩|⟨h1,⟨_,h⟩|⟨s,h2,⟨_,h⟩|⟨h3,h⟩⟩⟩
 · cases h
 · exact absurd rfl h
 · cases h
 · rcases h with⟨h,_⟩|⟨h4,⟨h,_⟩|⟨h5,⟨h,_⟩|⟨h6,⟨h,_⟩|⟨_,h⟩⟩⟩⟩
   · exact absurd rfl h
   · exact absurd rfl h
   · cases h
   · cases h
   · exact⟨s.ns,s.ps,h2,h3,h4,h5,h6,h,h1⟩
theorem gOne_err{d:Int}{base:Pl}{sibs:List Pl}{s:GSt}{r:RegT}{e:Int}(h:tR d base sibs s r = .error e):e≠0:=by
 unfold tR at h;split at h
 · injection h with h;subst h;decide
 split at h
 · injection h with h;subst h;decide
 split at h
 · injection h with h;subst h;decide
 split at h
 · injection h with h;subst h;decide
 split at h
 · injection h with h;subst h;decide
 · cases h
theorem gDown_err:∀(k:Nat) (d:Int) (base:Pl) (l:List RegT) (s:GSt) (e:Int),yP k d base l s = .error e→e≠0:=by
 intro k
 induction k with
 | zero=>
  intro d base l s e h;unfold yP at h;cases h
 | succ k ih =>
  intro d base l s e h
  have go:∀(l:List RegT) (sibs:List Pl) (s:GSt),l.foldl (uJ (yP k (d+1)) d base) (.ok (sibs,s)) = .error e→e≠0:=by
   intro l
   induction l with
   | nil=>intro sibs s h;cases h
   | cons r l ihl =>
    intro sibs s h;rw [List.foldl_cons]at h
    cases hg:tR d base sibs s r with
    | error x=>rw [gStep_e1 hg,xY]at h;injection h with h;subst h;exact gOne_err hg
    | ok p =>
     cases hr:yP k (d+1) p r.subs ⟨s.ns++[r.name],s.ps++[p]⟩ with
     | error x=>rw [gStep_e2 hg hr,xY]at h;injection h with h;subst h;exact ih _ _ _ _ _ hr
     | ok s2=>
      rw[gStep_ok hg hr]at h;exact ihl _ _ h
  unfold yP at h
  cases hf:l.foldl (uJ (yP k (d+1)) d base) (.ok ([],s)) with
  | error x=>rw [hf]at h;injection h with h;subst h;exact go l [] s hf
  | ok x=>rw [hf]at h;cases h
theorem geo_err{l:List RegT}{e:Int}(h:geoP l = .error e):e≠0:=gDown_err 7 1 ⟨0,0,0⟩ l ⟨[],[]⟩ e h
end Go.Ex.M
namespace Go.Ex.M
theorem pos_inj{ns:List Tx}{a b:Tx}(ha:a∈ns)(h:pos ns a=pos ns b):a=b:=by
 rw[vK ha]at h;by_cases hb:b∈ns
 · rw[vK hb]at h;have e:ns.idxOf a=ns.idxOf b:=by omega
   have h1:=idx_lt ha;have h2:=idx_lt hb;have g1:=List.getElem_idxOf h1;have g2:=List.getElem_idxOf h2;rw [← g1,← g2];simp [e]
 · rw[pos_out hb]at h;omega
theorem pos_mem{ns l:List Tx}{x:Tx}(hl:∀r∈l,r∈ns):pos ns x∈l.map (pos ns)↔x∈l:=by
 constructor
 · intro h;obtain⟨r,hr,e⟩:=List.mem_map.1 h;rw [← pos_inj (hl r hr) e];exact hr
 · exact fun h=>List.mem_map.2 ⟨x,h,rfl⟩
def inN(m:MachT)(ns:List Tx)(c r:Int):Bool:=decide (0≤c) && match m.classes[c.toNat]? with
 | some k=>decide (r∈k.regs.map (pos ns))
 | none=>false
def wN(m:MachT)(ns:List Tx)(ps:List Pl)(c:Int):Int:=if 0≤c then match m.classes[c.toNat]? with
 | some k=>wdOf ns ps k
 | none=>0 else 0
def uK(ns l:List Tx):List Int:=(l.filter fun x=>decide (x∈ns)).map (pos ns)
theorem listN_all{ns l:List Tx}(h:∀x∈l,x∈ns):uK ns l=l.map (pos ns):=by
 unfold uK;rw [List.filter_eq_self.2 fun x hx=>decide_eq_true (h x hx)]
theorem listN_snoc{ns l:List Tx}{i:Nat}{x:Tx}(h:l[i]? = some x):uK ns (l.take (i+1))=if x∈ns then uK ns (l.take i)++[pos ns x] else uK ns (l.take i):=by
 unfold uK;rw [xN h,List.filter_append];by_cases hx:x∈ns
 · simp[hx]
 · simp[hx]
def rF(m:MachT)(ns:List Tx)(o:OperT):List Int:=match vM m o.cls with
 | none=>[]
 | some c=>if o.fix=[] then c.regs.map (pos ns) else uK ns [o.fix]
def sH(ps:List Pl)(a b:Int):Bool:=decide (0≤a) && decide (0≤b) && match ps[a.toNat]?,ps[b.toNat]? with
 | some p,some q=>tJ p q
 | _,_=>false
def clrN(ns:List Tx)(ps:List Pl)(o:OpT)(r:Int):Bool:=(uK ns o.clob).all fun c=> !sH ps c r
def plN(ps:List Pl)(a:Int):Pl:=ps.getD a.toNat ⟨0,0,0⟩
theorem plN_pos{ns:List Tx}{ps:List Pl}{x:Tx}(h:x∈ns):plN ps (pos ns x)=yG ns ps x:=by unfold plN yG;rw [vK h];rfl
theorem lapN_at{ps:List Pl}{a b:Int}(ha:0≤a)(hb:0≤b)(ha2:a<ps.length)(hb2:b<ps.length):sH ps a b=tJ (plN ps a) (plN ps b):=by
 unfold sH plN;rw [decide_eq_true ha,decide_eq_true hb,List.getElem?_eq_getElem (by omega),List.getElem?_eq_getElem (by omega),List.getD_eq_getElem?_getD,List.getD_eq_getElem?_getD,List.getElem?_eq_getElem (by omega),List.getElem?_eq_getElem (by omega)];rfl
theorem lapN_neg{ps:List Pl}{a b:Int}(hb:b<0):sH ps a b=false:=by
 unfold sH;rw [decide_eq_false (show ¬0≤b by omega)];simp
def rFits(m:MachT)(ns:List Tx)(ps:List Pl)(o:OpT)(A B:List Int):Bool:=if 0≤o.tie then A.any fun a=>B.any fun b=> !sH ps a b && (decide ((if o.tie=0 then a else b)∈rF m ns o.d) && clrN ns ps o (if o.tie=0 then a else b))
 else(A.any fun a=>B.any fun b=> !sH ps a b) && (rF m ns o.d).any (clrN ns ps o)
def secI(m:MachT)(ns:List Tx)(o:OpT):List Int:=match o.uses with
 | _::v::_=>rF m ns v
 | _=>[-1]
def firI(m:MachT)(ns:List Tx)(o:OpT):List Int:=match o.uses with
 | u::_=>rF m ns u
 | _=>[]
def rPair(ns:List Tx)(ps:List Pl)(a b:ClassT):Bool:=(a.regs.map (pos ns)).any fun x=>(b.regs.map (pos ns)).any fun y=> !sH ps x y
end Go.Ex.M
namespace Go.Proofs.YtcmohelnoldfbaaGreat
open Go Go.Ex Go.Ex.M
set_option maxRecDepth 100000
set_option maxHeartbeats 8000000
abbrev tStr:Nat:=9
abbrev tPl:Nat:=142
structure Tb (lo:Nat) (h:zB) (bt z:Nat) (m:MachT) (nsv psv kv:Value) (ns:List Tx) (ps:List Pl):Prop where
 mm:MachM lo h m
 cel:Cel h bt z 0 (yO m++[nsv,psv,kv])
 rn:Row lo h nsv tStr 1 ns.length (ns.map str)
 rp:Row lo h psv tPl 3 ps.length (ps.flatMap plC)
 hb:bt<lo
 hl:ps.length=ns.length
 hn:ns.length≤200
 ok:∀p∈ps,PlB p
variable {lo bt z n:Nat} {h:zB} {m:MachT} {nsv psv kv:Value} {ns:List Tx} {ps:List Pl}
theorem Tb.tch{n':Nat}{h':zB}(k:Tb lo h bt z m nsv psv kv ns ps)(t:Tch [] h n h' n')(hlo:lo≤n):Tb lo h' bt z m nsv psv kv ns ps:=by
 have:=k.hb;exact⟨k.mm.tch t hlo,k.cel.tch t (by omega) (by simp),k.rn.tch t hlo fun _ _ hx=>(by cases hx),k.rp.tch t hlo fun _ _ hx=>(by cases hx),k.hb,k.hl,k.hn,k.ok⟩
theorem wR(k:Tb lo h bt z m nsv psv kv ns ps)(x:Tx):Pur P 0 73 [ptr bt 0,str x] h n (I64 (pos ns x)):=by
 have hc:=k.cel;have r:=k.rn;have hn:=k.hn;refine ent fun u=>?_;repeat' first|refine st ?_|refine ob ?_|refine ob1 ?_|refine cT ?_|refine cF ?_|refine zC ?_|refine cX (fun _=>?_) fun _=>?_|refine zY (find_pur r (by omega)) ?_|fail
 exact fin rfl
theorem yH(k:Tb lo h bt z m nsv psv kv ns ps)(x:Tx):Pur P 0 34 [ptr bt 0,str x] h n (I64 (yT m x)):=by
 have hcel:=k.cel;have r:=k.mm.cls 0;have hl:=k.mm.cls.lt;have hinf:inf<4611686018427387904:=by decide
 refine ent fun u=>?_;repeat' first|refine st ?_|refine ob ?_|refine ob1 ?_|refine cT ?_|refine cF ?_|refine zC ?_|refine cX (fun _=>?_) fun _=>?_|fail
 refine lpR (fun q:Nat=>[(0,ptr bt 0),(1,str x),(5,I64 q)]) (fun q h' n'=>h'=h∧n'=n∧q≤m.classes.length∧∀(j:Nat) y,j<q→m.classes[j]? = some y→decide (y.name=x)=false) (fun q=>m.classes.length - q) 0 (by repeat' first|exact trivial|refine⟨rfl,?_⟩) ⟨rfl,rfl,Nat.zero_le _,fun j _ hj=>absurd hj (Nat.not_lt_zero _)⟩ ?_
 rintro q t h' n' ⟨rfl,rfl,hq,hno⟩
 by_cases hlt:q<m.classes.length
 · have c0:m.classes[q]? = some m.classes[q]:=List.getElem?_eq_getElem hlt;generalize m.classes[q]=c at c0
   have c1:=xP (zM r c0) (j:=0) rfl;repeat' first|refine st ?_|refine ob ?_|refine ob1 ?_|refine cT ?_|refine cF ?_|refine zC ?_|refine cX (fun _=>?_) fun _=>?_|fail
   · rename_i e1;exact fin (by unfold yT;rw [posF_hit c0 (decide_eq_true e1) hno])
   · rename_i e1
     exact⟨q+1,(by dsimp only;omega),(by repeat' first|exact trivial|refine⟨rfl,?_⟩),rfl,rfl,by omega,fun j y hj e=>by
      rcases Nat.lt_succ_iff_lt_or_eq.1 hj with h9|rfl
      · exact hno j y h9 e
      · rw[c0]at e;cases e;exact decide_eq_false e1⟩
 · obtain rfl:q=m.classes.length:=by omega
   repeat' first|refine st ?_|refine ob ?_|refine ob1 ?_|refine cT ?_|refine cF ?_|refine zC ?_|refine cX (fun _=>?_) fun _=>?_|fail
   exact fin (by unfold yT;rw [posF_no fun j y e=>hno j y (List.getElem?_eq_some_iff.1 e).1 e])
theorem rin_pur{lo2 e:Nat}{sv:Value}{l:List Int}{x:Int}(r:Row lo2 h sv e 1 l.length (l.map I64))(hl:l.length<4611686018427387904):Pur P 0 59 [sv,I64 x] h n (.bool (decide (x∈l))):=by
 refine ent fun u=>?_;repeat' first|refine st ?_|refine ob ?_|refine ob1 ?_|refine cT ?_|refine cF ?_|refine zC ?_|refine cX (fun _=>?_) fun _=>?_|fail
 refine lpR (fun q:Nat=>[(0,sv),(1,I64 x),(5,I64 q)]) (fun q h' n'=>h'=h∧n'=n∧q≤l.length∧∀(j:Nat) y,j<q→l[j]? = some y→y≠x) (fun q=>l.length - q) 0 (by repeat' first|exact trivial|refine⟨rfl,?_⟩) ⟨rfl,rfl,Nat.zero_le _,fun j _ hj=>absurd hj (Nat.not_lt_zero _)⟩ ?_
 rintro q t h' n' ⟨rfl,rfl,hq,hno⟩
 by_cases hlt:q<l.length
 · have c0:l[q]? = some l[q]:=List.getElem?_eq_getElem hlt;generalize l[q]=y at c0
   have c1:=yX r c0;repeat' first|refine st ?_|refine ob ?_|refine ob1 ?_|refine cT ?_|refine cF ?_|refine zC ?_|refine cX (fun _=>?_) fun _=>?_|fail
   · rename_i e1;exact fin (by rw[decide_eq_true (e1 ▸ List.mem_of_getElem? c0)])
   · rename_i e1
     exact⟨q+1,(by dsimp only;omega),(by repeat' first|exact trivial|refine⟨rfl,?_⟩),rfl,rfl,by omega,fun j w hj e=>by
      rcases Nat.lt_succ_iff_lt_or_eq.1 hj with h9|rfl
      · exact hno j w h9 e
      · rw[c0]at e;cases e;exact e1⟩
 · obtain rfl:q=l.length:=by omega
   repeat' first|refine st ?_|refine ob ?_|refine ob1 ?_|refine cT ?_|refine cF ?_|refine zC ?_|refine cX (fun _=>?_) fun _=>?_|fail
   exact fin (by rw[decide_eq_false fun hm=>by
    obtain⟨j,hj⟩:=List.mem_iff_getElem?.1 hm;exact hno j x (List.getElem?_eq_some_iff.1 hj).1 hj rfl])
theorem vO(k:Tb lo h bt z m nsv psv kv ns ps)(hlo:lo≤n)(a b:Int):Pur P 0 35 [ptr bt 0,I64 a,I64 b] h n (.bool (sH ps a b)):=by
 have hcel:=k.cel;have rp:=k.rp;have hbt:=k.hb;refine ent fun u=>?_;by_cases hab:0≤a∧0≤b∧a<ps.length∧b<ps.length
 · obtain⟨h1,h2,h3,h4⟩:=hab;have a0:ps[a.toNat]? = some ps[a.toNat]:=List.getElem?_eq_getElem (by omega);have b0:ps[b.toNat]? = some ps[b.toNat]:=List.getElem?_eq_getElem (by omega);generalize ps[a.toNat]=p at a0
   generalize ps[b.toNat]=q at b0
   have e0:sH ps a b=tJ p q:=by unfold sH;rw [a0,b0,decide_eq_true h1,decide_eq_true h2];rfl
   have a1:=zM rp a0;have b1:=zM rp b0;have hl2:=rp.low (by omega);repeat' first|refine st ?_|refine ob ?_|refine ob1 ?_|refine cT ?_|refine cF ?_|refine zC ?_|refine cX (fun _=>?_) fun _=>?_|refine zY (rlap_pur _ _ (k.ok _ (List.mem_of_getElem? a0)) (k.ok _ (List.mem_of_getElem? b0)) _ _) ?_|fail
   exact fin (by rw[e0])
 · have e0:sH ps a b=false:=by
    unfold sH;by_cases h1:0≤a
    · by_cases h2:0≤b
      · by_cases h3:a<ps.length
        · rw[List.getElem?_eq_none (l:=ps) (i:=b.toNat) (by omega)];cases ps[a.toNat]? <;> simp
        · rw[List.getElem?_eq_none (l:=ps) (i:=a.toNat) (by omega)];simp
      · rw[decide_eq_false h2];simp
    · rw[decide_eq_false h1];simp
   repeat' first|refine st ?_|refine ob ?_|refine ob1 ?_|refine cT ?_|refine cF ?_|refine zC ?_|refine cX (fun _=>?_) fun _=>?_|fail
   all_goals first|exact fin (by rw[e0])|(exfalso;omega)
end Go.Proofs.YtcmohelnoldfbaaGreat
namespace Go.Proofs.YtcmohelnoldfbaaGreat
open Go Go.Ex Go.Ex.M
set_option maxRecDepth 100000
set_option maxHeartbeats 8000000
variable {lo bt z n:Nat} {h:zB} {m:MachT} {nsv psv kv:Value} {ns:List Tx} {ps:List Pl}
theorem lapN_in{x y:Tx}(hl:ps.length=ns.length)(hx:x∈ns)(hy:y∈ns):sH ps (pos ns x) (pos ns y)=tJ (yG ns ps x) (yG ns ps y):=by
 rw[vK hx,vK hy];unfold sH;rw [decide_eq_true (by omega),decide_eq_true (by omega)]
 show(true && true && match ps[ns.idxOf x]?,ps[ns.idxOf y]? with
 | some p,some q=>tJ p q
 | _,_=>false)=_
 rw[plc_at hx hl,plc_at hy hl];rfl
theorem rapart_pur(k:Tb lo h bt z m nsv psv kv ns ps)(hlo:lo≤n){sv:Value}{l:List Tx}(rI:RowI lo h sv 1 l.length (l.map str)):Com P 0 72 [ptr bt 0,sv] h n fun o h' n'=>∃r,o = .ret (.bool r)∧(r=true↔∀(i:Nat) x,l[i]? = some x→apOK ns ps l i x)∧h'=h∧n'=n:=by
 have r:=rI 0;have hl:=rI.lt;have hinf:inf<4611686018427387904:=by decide
 refine ent fun u=>?_;repeat' first|refine st ?_|refine ob ?_|refine ob1 ?_|refine cT ?_|refine cF ?_|refine zC ?_|refine cX (fun _=>?_) fun _=>?_|fail
 refine lpR (fun i:Nat=>[(0,ptr bt 0),(1,sv),(5,I64 i)]) (fun i h' n'=>h'=h∧n'=n∧i≤l.length∧∀(j:Nat) c,j<i→l[j]? = some c→apOK ns ps l j c) (fun i=>l.length - i) 0 (by repeat' first|exact trivial|refine⟨rfl,?_⟩) ⟨rfl,rfl,Nat.zero_le _,fun j _ hj=>absurd hj (Nat.not_lt_zero _)⟩ ?_
 rintro i t h' n' ⟨rfl,rfl,hi,hno⟩
 by_cases hlt:i<l.length
 · have c0:l[i]? = some l[i]:=List.getElem?_eq_getElem hlt;generalize l[i]=x at c0
   have c1:=yX r c0;by_cases hx:x∈ns
   · have e1:=vK hx;repeat' first|refine st ?_|refine ob ?_|refine ob1 ?_|refine cT ?_|refine cF ?_|refine zC ?_|refine cX (fun _=>?_) fun _=>?_|refine zY (wR k x) ?_|fail
     refine lpR (fun q:Nat=>[(0,ptr bt 0),(1,sv),(5,I64 i),(6,I64 (pos ns x)),(7,I64 q)]) (fun q h2 n2=>h2=h'∧n2=n'∧q≤i∧∀(j:Nat) y,j<q→l[j]? = some y→tJ (yG ns ps x) (yG ns ps y)=false) (fun q=>i - q) 0 (by repeat' first|exact trivial|refine⟨rfl,?_⟩) ⟨rfl,rfl,Nat.zero_le _,fun j _ hj=>absurd hj (Nat.not_lt_zero _)⟩ ?_
     rintro q t h2 n2 ⟨rfl,rfl,hq,hno2⟩
     by_cases hlt2:q<i
     · have d0:l[q]? = some l[q]:=List.getElem?_eq_getElem (by omega);generalize l[q]=y at d0
       have hy:y∈ns:=(hno q y hlt2 d0).1;have d1:=yX r d0;have e2:=lapN_in (ps:=ps) k.hl hx hy;repeat' first|refine st ?_|refine ob ?_|refine ob1 ?_|refine cT ?_|refine cF ?_|refine zC ?_|refine cX (fun _=>?_) fun _=>?_|refine zY (wR k y) ?_|refine zY (vO k hlo _ _) ?_|fail
       · rename_i g1;rw [e2]at g1;exact⟨false,rfl,⟨fun e=>(by cases e),fun hall=>by rw[(hall i x c0).2 q y hlt2 d0]at g1;cases g1⟩,rfl,rfl⟩
       · rename_i g1;rw [e2]at g1
         exact⟨q+1,(by dsimp only;omega),(by repeat' first|exact trivial|refine⟨rfl,?_⟩),rfl,rfl,by omega,fun j w hj e=>by
          rcases Nat.lt_succ_iff_lt_or_eq.1 hj with h9|rfl
          · exact hno2 j w h9 e
          · rw[d0]at e;cases e;exact g1⟩
     · obtain rfl:q=i:=by omega
       repeat' first|refine st ?_|refine ob ?_|refine ob1 ?_|refine cT ?_|refine cF ?_|refine zC ?_|refine cX (fun _=>?_) fun _=>?_|fail
       exact⟨q+1,(by dsimp only;omega),(by repeat' first|exact trivial|refine⟨rfl,?_⟩),rfl,rfl,by omega,fun j w hj e=>by
        rcases Nat.lt_succ_iff_lt_or_eq.1 hj with h9|rfl
        · exact hno j w h9 e
        · rw[c0]at e;cases e;exact⟨hx,hno2⟩⟩
   · have e1:=pos_out hx;repeat' first|refine st ?_|refine ob ?_|refine ob1 ?_|refine cT ?_|refine cF ?_|refine zC ?_|refine cX (fun _=>?_) fun _=>?_|refine zY (wR k x) ?_|fail
     exact⟨false,rfl,⟨fun e=>(by cases e),fun hall=>absurd (hall i x c0).1 hx⟩,rfl,rfl⟩
 · obtain rfl:i=l.length:=by omega
   repeat' first|refine st ?_|refine ob ?_|refine ob1 ?_|refine cT ?_|refine cF ?_|refine zC ?_|refine cX (fun _=>?_) fun _=>?_|fail
   exact⟨true,rfl,⟨fun _ j y e=>hno j y (List.getElem?_eq_some_iff.1 e).1 e,fun _=>rfl⟩,rfl,rfl⟩
theorem rdist_pur(k:Tb lo h bt z m nsv psv kv ns ps){sv:Value}{l:List Tx}(rI:RowI lo h sv 1 l.length (l.map str)):Com P 0 173 [ptr bt 0,sv] h n fun o h' n'=>∃r,o = .ret (.bool r)∧(r=true↔l.length≤64∧∀(i:Nat) x,l[i]? = some x→x∈ns∧pos l x=(i:Nat))∧h'=h∧n'=n:=by
 have r:=rI 0;have hl:=rI.lt;have hinf:inf<4611686018427387904:=by decide
 refine ent fun u=>?_;by_cases h64:l.length≤64
 · repeat' first|refine st ?_|refine ob ?_|refine ob1 ?_|refine cT ?_|refine cF ?_|refine zC ?_|refine cX (fun _=>?_) fun _=>?_|fail
   refine lpR (fun i:Nat=>[(0,ptr bt 0),(1,sv),(5,I64 i)]) (fun i h' n'=>h'=h∧n'=n∧i≤l.length∧∀(j:Nat) c,j<i→l[j]? = some c→c∈ns∧pos l c=(j:Nat)) (fun i=>l.length - i) 0 (by repeat' first|exact trivial|refine⟨rfl,?_⟩) ⟨rfl,rfl,Nat.zero_le _,fun j _ hj=>absurd hj (Nat.not_lt_zero _)⟩ ?_
   rintro i t h' n' ⟨rfl,rfl,hi,hno⟩
   by_cases hlt:i<l.length
   · have c0:l[i]? = some l[i]:=List.getElem?_eq_getElem hlt;generalize l[i]=x at c0
     have c1:=yX r c0;have hm:=List.mem_of_getElem? c0;have e2:=vK hm
     have e3:(l.idxOf x:Nat)≤i:=by
      rcases Nat.lt_or_ge i (l.idxOf x) with h9|h9
      · exfalso
        have:=List.not_of_lt_findIdx (p:=(· == x)) h9;obtain⟨q1,q2⟩:=List.getElem?_eq_some_iff.1 c0;simp [q2]at this
      · exact h9
     by_cases hx:x∈ns
     · have e1:=vK hx;repeat' first|refine st ?_|refine ob ?_|refine ob1 ?_|refine cT ?_|refine cF ?_|refine zC ?_|refine cX (fun _=>?_) fun _=>?_|refine zY (wR k x) ?_|refine zY (find_pur r (by omega)) ?_|fail
       · rename_i g1;exact⟨false,rfl,⟨fun e=>(by cases e),fun hall=>by have:=(hall.2 i x c0).2;omega⟩,rfl,rfl⟩
       · rename_i g1
         exact⟨i+1,(by dsimp only;omega),(by repeat' first|exact trivial|refine⟨rfl,?_⟩),rfl,rfl,by omega,fun j w hj e=>by
          rcases Nat.lt_succ_iff_lt_or_eq.1 hj with h9|rfl
          · exact hno j w h9 e
          · rw[c0]at e;cases e;exact⟨hx,by omega⟩⟩
     · have e1:=pos_out hx;repeat' first|refine st ?_|refine ob ?_|refine ob1 ?_|refine cT ?_|refine cF ?_|refine zC ?_|refine cX (fun _=>?_) fun _=>?_|refine zY (wR k x) ?_|refine zY (find_pur r (by omega)) ?_|fail
       exact⟨false,rfl,⟨fun e=>(by cases e),fun hall=>absurd (hall.2 i x c0).1 hx⟩,rfl,rfl⟩
   · obtain rfl:i=l.length:=by omega
     repeat' first|refine st ?_|refine ob ?_|refine ob1 ?_|refine cT ?_|refine cF ?_|refine zC ?_|refine cX (fun _=>?_) fun _=>?_|fail
     exact⟨true,rfl,⟨fun _=>⟨h64,fun j y e=>hno j y (List.getElem?_eq_some_iff.1 e).1 e⟩,fun _=>rfl⟩,rfl,rfl⟩
 · repeat' first|refine st ?_|refine ob ?_|refine ob1 ?_|refine cT ?_|refine cF ?_|refine zC ?_|refine cX (fun _=>?_) fun _=>?_|fail
   exact⟨false,rfl,⟨fun e=>(by cases e),fun hall=>absurd hall.1 h64⟩,rfl,rfl⟩
end Go.Proofs.YtcmohelnoldfbaaGreat
namespace Go.Proofs.YtcmohelnoldfbaaGreat
open Go Go.Ex Go.Ex.M
set_option maxRecDepth 100000
set_option maxHeartbeats 8000000
instance rarity_c (s:Tx) (h:zB) (n:Nat):PurC P 0 170 [str s] h n (I64 (arity s)):=⟨by
 refine ent fun u=>?_;repeat' first|refine st ?_|refine ob ?_|refine ob1 ?_|refine cT ?_|refine cF ?_|refine zC ?_|refine cX (fun _=>?_) fun _=>?_|fail
 all_goals (refine fin ?_;try subst_vars)
 all_goals first|rfl|skip
 · rename_i h1;unfold arity ar2;simp_all⟩
instance num_c (e:Int) (h:zB) (n:Nat):PurC P 0 28 [I64 e] h n (I64 e):=⟨by
 refine ent fun u=>?_;repeat' first|refine st ?_|refine ob ?_|refine ob1 ?_|refine cT ?_|refine cF ?_|refine zC ?_|refine cX (fun _=>?_) fun _=>?_|fail
 exact fin rfl⟩
end Go.Proofs.YtcmohelnoldfbaaGreat
