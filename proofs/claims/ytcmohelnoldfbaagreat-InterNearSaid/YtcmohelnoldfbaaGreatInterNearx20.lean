/- What the law leans on: an executor of the model that is sound, deduction over it, and the walks through the code (part 20 of 20). Conditions: those that each theorem states. -/
import Derived.Test.YtcmohelnoldfbaaGreatInterNearx19
import Derived.Carry
import Derived.OpenShut
import Derived.Handed
import Derived.ChangeMaps5

set_option linter.unusedVariables false
set_option linter.unusedSimpArgs false
namespace Go.Proofs.YtcmohelnoldfbaaGreat
open Go Go.Ex Go.Ex.M Go.ChangeShapes Go.WideShapes Go.ChangeAt Go.RowKit
set_option maxRecDepth 1000000
section
variable {H:Type} {enc:TypeId×Value→H} {W:World}
theorem cells_ty:P.cellTypes P.depth 27=some [9,22,23,24,25,9,25,3]:=by kernel_rfl
theorem no_cells(hno:∀(b:Nat) cs el fr,W.heap[b]?≠some (Obj.cells cs el fr)){base:Nat}{t e:TypeId}(ht:P.underlying t=some (.slice e)){v:Value}(h:Cell.okWide P W .any base t v):v = .slice none 0 0:=by
 unfold Cell.okWide at h;rw [ht]at h
 have h:Cell.ok P W .any base t v:=by
  cases v <;> exact h
 unfold Cell.ok at h;rw [ht]at h
 cases v with
 | slice a len cap =>
  cases a with
  | none =>
   cases len with
   | zero=>cases cap with
    | zero=>rfl
    | succ c=>exact h.elim
   | succ l=>exact h.elim
  | some a=>
   obtain⟨_,_,_,_,row,cells,hs,_⟩:=h;unfold World.shape? at hs;split at hs
   · rename_i e;exact absurd e (hno _ _ _ _)
   · cases hs
 | _=>exact h.elim
theorem mach_in{base:Nat}{v:Value}{d:DataW H}{p:List MemPlace}(hv:Value.okWide P W .any base 27 v)(hd:DataW.Trod enc P W 0 (fun _=>true) true 27 v d p)(hwt:∀y∈d.weights P 27,y≤reachBytes) :
 ∃(b0:Nat) (l:List Value) (m:MachT),v = .agg ⟨l⟩∧(∀x∈l,Told b0 W x)∧l.map (sI b0)=yO m∧MachM W.heap.size (mirH b0 W []) m∧TxtM m:=by
 obtain⟨cs,rfl,hsz⟩:=okWide_struct Tryz.underlying27 hv;obtain⟨fuel,hd⟩:=hd;obtain⟨l⟩:=cs;have hE:ElF enc W fuel 27 l:=⟨(d,p),hd,hwt⟩;by_cases hx:∃(b:Nat) (cs:Array Value) (el:TypeId) (fr:Nat×Nat),W.heap[b]? = some (Obj.cells cs el fr)
 · obtain⟨b,cs,el,fr,hb⟩:=hx
   have hlt:b<W.heap.size:=by
    rcases Nat.lt_or_ge b W.heap.size with h1|h1
    · exact h1
    · rw[Array.getElem?_eq_none h1]at hb;cases hb
   have h0:H0 b W:=by
    rcases mirH_get b W [] b with⟨p,h1,_⟩|h1
    · cases h1
    · rw[if_pos hlt,hb]at h1;exact⟨_,_,_,by rw[h1];rfl,hlt⟩
   obtain⟨ht,m,h1,h2,h3⟩:=mach_El h0 hE;exact⟨b,l,m,rfl,ht,h1,h2,h3⟩
 · have hno:∀(b:Nat) cs el fr,W.heap[b]?≠some (Obj.cells cs el fr):=fun b cs el fr e=>hx ⟨b,cs,el,fr,e⟩;unfold Value.okWide at hv;rw [Tryz.underlying27]at hv;obtain⟨_,e,hs,ts,hts,_,hc⟩:=hv;injection e with e
   subst e;rw [cells_ty]at hts;cases hts
   obtain⟨hl,n,rfl,hf⟩:=tK Tryz.underlying27 hE;have hl:l.length=8:=hl.trans (by kernel_rfl);obtain⟨c0,c1,c2,c3,c4,c5,c6,c7,rfl⟩:=eight hl;have f0:ElF enc W n 9 [c0]:=ElF.one (off:=0) (hf 0 _ rfl) zs1 rfl;have f5:ElF enc W n 9 [c5]:=ElF.one (off:=5) (hf 5 _ rfl) zs1 rfl;have f7:ElF enc W n 3 [c7]:=ElF.one (off:=7) (hf 7 _ rfl) zi1 rfl;obtain⟨s0,e0,g0⟩:=sY f0;obtain⟨s5,e5,g5⟩:=sY f5;obtain⟨n7,e7,g7⟩:=int_El f7;injection e0 with e0 _;injection e5 with e5 _;injection e7 with e7 _
   obtain⟨_,q1,r1⟩:=hc 1 c1 rfl;obtain⟨_,q2,r2⟩:=hc 2 c2 rfl;obtain⟨_,q3,r3⟩:=hc 3 c3 rfl;obtain⟨_,q4,r4⟩:=hc 4 c4 rfl;obtain⟨_,q6,r6⟩:=hc 6 c6 rfl;cases q1;cases q2;cases q3;cases q4;cases q6
   have e1:=no_cells hno Tryz.underlying22 r1;have e2:=no_cells hno Tryz.underlying23 r2;have e3:=no_cells hno Tryz.underlying24 r3;have e4:=no_cells hno Tryz.underlying25 r4;have e6:=no_cells hno Tryz.underlying25 r6;subst e0 e1 e2 e3 e4 e5 e6 e7;have z:∀k,RowI W.heap.size (mirH 0 W []) (.slice none 0 0) k 0 []:=fun k e=>.inl ⟨rfl,rfl,rfl⟩;have hN:Told 0 W (.slice none 0 0):=⟨.nilSlice 0 0 (by decide),rfl⟩;have t0:(0:Nat)<vT:=by decide
   refine⟨0,_,⟨s0,.slice none 0 0,[],.slice none 0 0,[],.slice none 0 0,[],.slice none 0 0,[],s5,.slice none 0 0,[],n7⟩,rfl,fun v hv=>?_,rfl,⟨?_,z 2,fun _ h=>(by cases h),z 6,fun _ h=>(by cases h),fun _ h=>(by cases h),z 1,z 1,g7⟩,⟨g0,.mk t0 fun _ h=>(by cases h),t0,fun _ h=>(by cases h),t0,fun _ h=>(by cases h),⟨t0,fun _ h=>(by cases h)⟩,g5,⟨t0,fun _ h=>(by cases h)⟩⟩⟩
   · simp only[List.mem_cons,List.not_mem_nil,or_false]at hv;rcases hv with rfl|rfl|rfl|rfl|rfl|rfl|rfl|rfl
     all_goals first|exact I64_told _|exact str_told _|exact hN
   · unfold RegsM;exact⟨z 4,fun _ h=>(by cases h)⟩
theorem told_rv{b0:Nat}{l:List Value}(h:∀x∈l,Told b0 W x):RV (idI W) (.agg ⟨l.map (sI b0)⟩) (.agg ⟨l⟩):=by
 refine .agg (by simp) fun j w w' q1 q2=>?_;have q2:l[j]? = some w':=q2;have q1:(l.map (sI b0))[j]? = some w:=q1;rw [List.getElem?_map,q2]at q1;obtain rfl:sI b0 w'=w:=by simpa using q1
 exact(h w' (List.mem_iff_getElem?.2 ⟨j,q2⟩)).1
theorem near_calls{base:Nat}{v:Value}{d:DataW H}{p:List MemPlace}(a b:Tx)(hv:Value.okWide P W .any base 27 v)(hd:DataW.Trod enc P W 0 (fun _=>true) true 27 v d p)(hwt:∀y∈d.weights P 27,y≤reachBytes) :
 Calls P 3 #[v,str a,str b] W fun e w'=>e = .returned (.bool true)∧Go.RowKit.Below W.heap.size W w':=by
 obtain⟨b0,l,m,rfl,ht,hm,mm,tx⟩:=mach_in hv hd hwt;have hH:HeapR P 0 (idI W) W.heap.size W (mirH b0 W []) W.heap.size W:=mir_heapR (Nat.zero_le _) (fun p h=>by cases h) (fun p h=>by cases h);refine law_com (args:=[.agg ⟨yO m⟩,str a,str b]) (args':=[.agg ⟨l⟩,str a,str b]) (inear_com mm (Nat.le_refl _) tx a b) W hH ⟨rfl,fun i x x' h1 h2=>?_⟩
 match i,h1,h2 with
 | 0,h1,h2=>
  obtain rfl:Value.agg ⟨yO m⟩=x:=by simpa using h1
  obtain rfl:Value.agg ⟨l⟩=x':=by simpa using h2
  rw[← hm];exact told_rv ht
 | 1,h1,h2=>
  obtain rfl:str a=x:=by simpa using h1
  obtain rfl:str a=x':=by simpa using h2
  exact .string _
 | 2,h1,h2=>
  obtain rfl:str b=x:=by simpa using h1
  obtain rfl:str b=x':=by simpa using h2
  exact .string _
 | i+3,h1,h2=>simp at h1
end
end Go.Proofs.YtcmohelnoldfbaaGreat
