/- What the law leans on, part 24 of 24. Conditions: those that each theorem states. -/
import Derived.Test.YtdiejolnllipnaaGreatDoorMachPrintsx21
import Derived.Test.YtdiejolnllipnaaGreatDoorMachPrintsx8
import Derived.Test.YtdiejolnllipnaaGreatDoorMachPrintsx11
import Derived.Test.YtdiejolnllipnaaGreatDoorMachPrintsx23
import Derived.Lib.LaidTab
import Derived.ProofKit
import Derived.LaidMore
import Derived.OpenShut
import Derived.Stop.Joined
import Derived.ChangeOld
import Derived.Lib.LaidU8
import Derived.Shelf.Vars
import Derived.HandedShaped
import Derived.Below
import Derived.Carry
import Derived.Handed
import Derived.ChangeMaps5

set_option linter.unusedVariables false
set_option linter.unusedSimpArgs false
namespace Go.Proofs.YtdiejolnllipnaaGreatDoor
open Go Go.Ex Go.ChangeShapes Go.WideShapes Go.ChangeAt Go.RowKit
set_option maxRecDepth 1000000
section
theorem own:ownKnob P.godebug=none:=by kernel_rfl
theorem returns_and_shaped{H:Type}{enc:TypeId×Value->H}{a:Assume}{C:Checked}{os:Os}{f:FuncId}{fn:Func}{s:ChangeSpec}{conds:List PathCond}{apart fresh handsOn again:Bool}{X:World->Array Value->Prop}
(hX:∀(w w':World) (args:Array Value),w.heap=w'.heap->X w args->X w' args)
(own:ownKnob C.prog.godebug=none)(started:os.Started)(noInit:C.prog.inits.idxOf? f=none)(hfn:C.prog.funcs[f]? = some fn)
(witness:∃(w:World) (tape:Tape) (i:Input),w.os=os/\(w.forCall tape i).Shaped C.prog/\i.vars=[]/\Input.okWide C.prog (w.forCall tape i) .any w.heap.size f i/\
  ((s.pre enc C.prog fn conds apart (w.forCall tape i).memory i.args/\X (w.forCall tape i).memory i.args)/\sizedMet enc C.prog fn (OpenSpec.ofChange s) apart (w.forCall tape i).memory i.args)/\a.holds C.prog (lone (Frame.enter C.prog f i.args .normal) [] (w.forCall tape i)))
(contract:∀(W:World) (base:Nat) (args:Array Value) (ds gs:List (DataW H)) (before:List MemPlace),
  (∀(j:Nat) t v,fn.params[j]? = some t->args[j]? = some v->Value.okWide C.prog W .any base t v)->
  DataW.Whole enc C.prog fn.params.toList s.vars apart W args.toList ds gs before->
  conds.all (PathCond.test C.prog ⟨fn.params.toList,ds,s.plain.varTypes C.prog,gs⟩)=true->
  (DataW.weightsEach C.prog (fn.params.toList++s.plain.varTypes C.prog) (ds++gs)).all (·<=reachBytes)=true->X W args->W.ShapedOpen C.prog->
  a.holds C.prog (lone (Frame.enter C.prog f args .normal) [] W)->
  Calls C.prog f args W λe W'=>∃v,e = .returned v/\s.post enc C.prog fn apart fresh handsOn again W args v W') :
 ReturnsInHanded a C os f .any (λw args=>(s.pre enc C.prog fn conds apart w args/\X w args)/\sizedMet enc C.prog fn (OpenSpec.ofChange s) apart w args) (s.post enc C.prog fn apart fresh handsOn again):=by
 refine returnsInHanded_of_calls own started noInit witness ?_;intro w tape i _ hsh _ hok hpre hholds;obtain⟨_,_,_,fn',hfn',_,_,_,_,iY⟩:=hok;have e:fn'=fn:=Option.some.inj (hfn'.symm.trans hfn);subst e;obtain⟨⟨⟨ds,gs,before,hw,hc⟩,hx⟩,hz⟩:=hpre;have gQ:=DataW.Whole.of_heap (w':=w.forCall tape i) (by rfl) hw;refine(contract (w.forCall tape i) w.heap.size i.args ds gs before iY gQ hc (hz.weights hw) (hX _ _ _ (by rfl) hx) hsh hholds).mono λe W' ⟨v,he,hp⟩=>?_;subst he;exact ChangeSpec.post_blind hp
theorem tabIs_of_reads{W:World}{name:String}{k:IntKind}{zs:List Int}{g:Nat}{t e:TypeId}{n:Nat}
(hg:P.globalNamed name=some g)(hty:(P.globals[g]?).map (·.type)=some t)(ht:P.underlying t=some (.array n e))(he:P.underlying e=some (.int k))(hce:P.cellsOf e=1)(hct:P.cellsOf t=n)
(h:Lib.VarReads P W name (Lib.tabData k zs)):Lib.TabIs P W name k zs:=by
 obtain⟨g',t',cs,fuel,p,hg',ht',hvar,hd⟩:=h;obtain rfl:=Option.some.inj (hg.symm.trans hg');obtain rfl:=Option.some.inj (hty.symm.trans ht');unfold Lib.TabIs;rw [hvar,<- Lib.cells_of_tab ht he hce hct hd]
theorem in_of_tabIs{W:World}{name:String}{k:IntKind}{zs:List Int}{g:Nat}(hT:Lib.TabIs P W name k zs)(hg:P.globalNamed name=some g):∃el fr,W.heap[g]? = some (.cells ⟨zs.map λz=>Value.int k z⟩ el fr):=by
 unfold Lib.TabIs World.var? at hT;rw [hg]at hT;simp only[Option.bind_some]at hT;split at hT
 . rename_i cs el fr e;injection hT with hT
   exact⟨el,fr,by rw[e,hT]⟩
 . cases hT
theorem max_in{W:World}(hs:W.ShapedOpen P):∃(m:Int) (el:TypeId) (fr:Nat×Nat),W.heap[(0:Nat)]? = some (.cells ⟨[.int .i64 m]⟩ el fr):=by
 have h0:((begin P (λ_ _=>0) default).world.heap[(0:Nat)]?).bind Obj.row? = some (#[.int .i64 0],3):=by kernel_rfl
 obtain⟨cs,hh,hsz,hr⟩:=hs.1 0 _ _ (of_decide_eq_true qN) h0;obtain⟨m,hm⟩:=cell_of_shapedOpen_int (k:=.i64) hs (of_decide_eq_true qN) h0 rfl qN qN  Tryz.underlying3;refine⟨m,3,(0,0),hh.trans ?_⟩;unfold World.cell? at hm;dsimp only at hm;rw [hh]at hm;have hm':cs[0]? = some (.int .i64 m):=hm;have h1:cs.size=1:=hsz;congr 2
 apply Array.ext
 . exact h1
 . intro i i1 i2;obtain rfl:i=0:=by omega
   rw[aF qJ]at hm';injection hm'
theorem tb_in {W:World} (h1:Lib.TabIs P W "internal/strconv.uint64pow10" .u64 Lib.pow10Tab) (hs:W.ShapedOpen P):∃m,rY W (tb m):=by
 obtain⟨m,el,fr,e⟩:=max_in hs;refine⟨m,λp hp=>?_⟩;simp only[tb,au,bf,or_false]at hp;rcases hp with rfl|rfl
 . exact⟨el,fr,e⟩
 . exact in_of_tabIs (g:=1) h1 qN 
end
section
open Go Go.Ex Go.Ex.M Go.ChangeShapes Go.WideShapes Go.ChangeAt Go.RowKit
section
variable {H:Type} {enc:TypeId×Value->H} {W:World} {b0:Nat} {tbs:List (Nat×List Value)}
theorem ng_le(hs:W.ShapedOpen P):8<=W.heap.size:=by
 have h0:(((begin P (λ_ _=>0) default).world.heap[(8 - 1:Nat)]?).bind Obj.row?).isSome=true:=by kernel_rfl
 obtain⟨⟨z,t⟩,h0⟩:=Option.isSome_iff_exists.1 h0;obtain⟨cs,hh,-⟩:=hs.1 (8 - 1) z t (of_decide_eq_true qN) h0;rcases aS (8 - 1) W.heap.size with h1|h1
 . omega
 . rw[bG h1]at hh;cases hh
theorem zbb1:P.cellsOf 28=1:=by kernel_rfl
theorem three{l:List Value}(h:l.length=3):∃c0 c1 c2,l=[c0,c1,c2]:=by
 match l,h with
 | [c0,c1,c2],_=>exact⟨c0,c1,c2,rfl⟩
theorem code_El(h0:H0 b0 W tbs){k:Nat}{cs:List Value}(h:ElF enc W k 30 cs):(∀v∈cs,Told b0 W v)/\∃c:CodeT,cs.map (uY b0)=yQ c/\CodeM W.heap.size (qH b0 W tbs) c:=by
 obtain⟨hl,n,rfl,hf⟩:=uU Tryz.underlying30 h;have hl:cs.length=3:=hl.trans qN;obtain⟨c0,c1,c2,rfl⟩:=three hl;have f0:ElF enc W n 9 [c0]:=ElF.one (off:=0) (hf 0 _ rfl) zs1 rfl;have f1:ElF enc W n 3 [c1]:=ElF.one (off:=1) (hf 1 _ rfl) zi1 rfl;have f2:ElF enc W n 28 [c2]:=ElF.one (off:=2) (hf 2 _ rfl) zbb1 rfl;obtain⟨s0,e0,g0⟩:=qC f0;obtain⟨n1,e1,g1⟩:=rE f1;obtain⟨v2,l2,e2,t2,r2,x2,y2⟩:=blks_El h0 f2;injection e0 with e0 _;injection e1 with e1 _;injection e2 with e2 _
 subst e0 e1 e2;refine⟨λv hv=>?_,⟨s0,n1,uY b0 c2,l2⟩,rfl,⟨g0,r2.toI,x2,λx hx=>⟨(y2 x hx).1.toI,(y2 x hx).2.1⟩,λx hx i hi=>(y2 x hx).2.2 i hi⟩⟩;simp only[au,bf,or_false]at hv;rcases hv with rfl|rfl|rfl
 all_goals first|exact I64_told _|exact rG _|exact t2
theorem told_rv{l:List Value}(h:∀x∈l,Told b0 W x):RV (idI W) (.agg ⟨l.map (uY b0)⟩) (.agg ⟨l⟩):=by
 refine .agg qL  λj w w' q1 q2=>?_;have q2:l[j]? = some w':=q2;have q1:(l.map (uY b0))[j]? = some w:=q1;rw [ao,q2]at q1;obtain rfl:uY b0 w'=w:=by simpa using q1
 exact(h w' (aj.2 ⟨j,q2⟩)).1
theorem prints_calls{base:Nat}{v w:Value}{d e:DataW H}{p q:List MemPlace}{m:Int}(hw:rY W (tb m))(hs:W.ShapedOpen P)(hv:Value.okWide P W .any base 27 v)(hd:DataW.Trod enc P W 0 (λ_=>true) true 27 v d p)(hwt:∀y∈d.weights P 27,y<=reachBytes)
(hv2:Value.okWide P W .any base 30 w)(iF:DataW.Trod enc P W 0 (λ_=>true) true 30 w e q)(hwt2:∀y∈e.weights P 30,y<=reachBytes) :
 Calls P 3 #[v,w] W λe w'=>e = .returned (.bool true)/\Go.RowKit.Below W.heap.size W w':=by
 have hng:=ng_le hs
 have jv:∀p∈tb m,∀v∈p.2,∃k n,v = .int k n:=λp hp v hv=>by
  simp only[tb,au,bf,or_false]at hp;rcases hp with rfl|rfl
  . rw[aq.1 hv];exact⟨_,_,rfl⟩
  . obtain⟨z,-,rfl⟩:=aB.1 hv;exact⟨_,_,rfl⟩
 have hT:∀p∈tb m,zG (qH 0 W (tb m)) p.1=mkC p.2 0 2:=λp hp=>mir_tab (by
  intro a ha b hb gk;simp only[tb,au,bf,or_false]at ha hb;rcases ha with rfl|rfl <;> rcases hb with rfl|rfl <;> first|rfl|(have gk:=gk;dsimp only at gk;omega)) hp
 have m0:((0,[.int .i64 m]):Nat×List Value)∈tb m:=aN ..;have h0:H0 0 W (tb m):=⟨⟨hw,λp hp v hv=>by obtain⟨k,n,rfl⟩:=jv p hp v hv;rfl⟩,1,0,2,by rw[hT _ m0];exact vK _ _ _,by omega⟩;have hH:HeapR P 8 (idI W) W.heap.size W (qH 0 W (tb m)) W.heap.size W:=mir_heapR hng hw λp hp v hv=>by obtain⟨k,n,rfl⟩:=jv p hp v hv;exact .int _ _
 have ht:TabsH (tb m) (qH 0 W (tb m)):=λp hp=>by
  have:=hT p hp;refine⟨⟨0,?_⟩,λi=>?_⟩
  . rw[this];exact vK _ _ _
  . unfold zD;rw [this];exact wW _ _ _ _
 obtain⟨cs,rfl,-⟩:=okWide_struct Tryz.underlying27 hv;obtain⟨ds,rfl,-⟩:=okWide_struct Tryz.underlying30 hv2;obtain⟨fuel,hd⟩:=hd;obtain⟨fuel2,iF⟩:=iF;obtain⟨l⟩:=cs;obtain⟨l2⟩:=ds;have hE:ElF enc W fuel 27 l:=⟨(d,p),hd,hwt⟩;have hE2:ElF enc W fuel2 30 l2:=⟨(e,q),iF,hwt2⟩;obtain⟨ht1,mt,hm,mm,tx⟩:=mach_El h0 hE;obtain⟨ht2,c,hc,cm⟩:=code_El h0 hE2;refine law_com (args:=[.agg ⟨yR mt⟩,.agg ⟨yQ c⟩]) (args':=[.agg ⟨l⟩,.agg ⟨l2⟩]) (mprints_com ht hng mm (ad _) tx cm) W hH ⟨rfl,λi x x' h1 h2=>?_⟩
 match i,h1,h2 with
 | 0,h1,h2=>
  obtain rfl:Value.agg ⟨yR mt⟩=x:=by simpa using h1
  obtain rfl:Value.agg ⟨l⟩=x':=by simpa using h2
  rw[<- hm];exact told_rv ht1
 | 1,h1,h2=>
  obtain rfl:Value.agg ⟨yQ c⟩=x:=by simpa using h1
  obtain rfl:Value.agg ⟨l2⟩=x':=by simpa using h2
  rw[<- hc];exact told_rv ht2
 | i+2,h1,h2=>simp at h1
end
end
end Go.Proofs.YtdiejolnllipnaaGreatDoor
