/- What the law leans on: an executor of the model that is sound, deduction over it, and the walks through the code (part 2 of 43). Conditions: those that each theorem states. -/
import Derived.Test.YtdfmheghgbnkmaaGreatInterManyx1
import Derived.Defers
import Derived.Orders
import Derived.Shelf.Small.Bits
import Derived.Shelf.Small.Wraps
import Derived.Shelf.Strconv.Itoa0
import Derived.Ground.SlsfProg
import Derived.Shelf.SlSortCmp.InsertionK
import Derived.Shelf.SlSortCmp.SiftDownK
import Derived.Shelf.SlSortCmp.HeapSortK
import Derived.Shelf.SlSortCmp.MedianK
import Derived.Shelf.SlSortCmp.PivotK
import Derived.Shelf.SlSortCmp.ReverseRangeK
import Derived.Shelf.SlSortCmp.PartialInsertionK
import Derived.Shelf.SlSortCmp.PartitionEqualK
import Derived.Shelf.SlSortCmp.PartitionK
import Derived.Shelf.SlSortCmp.PdqK
import Derived.Shelf.SlSortCmp.WholeK
import Derived.Shelf.SlSortCmp.NoneTotal
import Derived.Test.YtdfmheghgbnkmaaGreatProg
import Derived.Maps.RangeWalk
import Derived.Maps.AppendAt
import Derived.Below
import Derived.Test.YtdfmheghgbnkmaaGreatRows
import Derived.WalkKit
import Derived.Tactics2
import Derived.Deep.RegionHeld3
import Derived.Lib.Small
import Derived.Sort.Grow
import Derived.Shelf.GgSortFunc.InsertionK
import Derived.Maps.Ext
import Derived.ProofKit
import Derived.OpenShut
import Derived.ChangeOld

set_option linter.unusedVariables false
set_option linter.unusedSimpArgs false
namespace Go.Ex
section
variable {P:Program} {ng:Nat}
theorem stepR_scope{b:Frame}{a:Act}{k:List Item}{cs:List Frame}{w:World}{c:Code} :
 step P (lone (b.atR a (.code (.scope c)::k)) cs w) = .next (lone (b.atR a (.code c :: .inScope c::k)) cs w):=
 step_lone_go (by simp[stepG,stepG.exec,Frame.atR])
theorem stepR_inScope{b:Frame}{a:Act}{k:List Item}{cs:List Frame}{w:World}{c:Code} :
 step P (lone (b.atR a (.inScope c::k)) cs w) = .next (lone (b.atR a k) cs w):=
 step_lone_go (by simp[stepG,stepG.exec,Frame.atR])
theorem Steps.tail{m m1 m2:Machine}(h:Steps P m m2)(hs:step P m = .next m1)(hne:m≠m2):Steps P m1 m2:=by
 obtain⟨n,hn⟩:=h
 cases n with
 | zero=>
  simp only[runN]at hn;injection hn with hn
  exact absurd hn hne
 | succ n=>
  simp only[runN,hs]at hn;exact⟨n,hn⟩
theorem lone_inj{fr fr':Frame}{cs cs':List Frame}{w w':World}(h:lone fr cs w=lone fr' cs' w'):fr=fr':=by
 have h1:(lone fr cs w).gs=(lone fr' cs' w').gs:=by rw[h]
 have h2:(#[({ frame:=fr,callers:=cs,status:=.running,dying:=none }:Goroutine)]:Array Goroutine) = #[{ frame:=fr',callers:=cs',status:=.running,dying:=none }]:=h1;have h3:=congrArg (fun x:Array Goroutine=>x.toList) h2;simp at h3;exact h3.1
theorem atR_todo{b:Frame}{a a':Act}{k k':List Item}(h:b.atR a k=b.atR a' k'):k=k':=by
 have:(b.atR a k).todo=(b.atR a' k').todo:=by rw[h]
 exact this
theorem leads_unloop{b:Frame}{k:List Item}{c:Code}{cx:Cx}{t t':Fr}{w w':W}{x:AX}(h:Leads P ng b (.code (.loop c)::k) k cx t w x t' w'):Leads P ng b (.code c :: .inLoop c::k) k cx t w x t' w':=by
 intro ρ base w0 a wd cs hI;obtain⟨ρ',a',wd',cs',h1,h2,h3,h4⟩:=h ρ base w0 a wd cs hI;refine⟨ρ',a',wd',cs',h1,h2,h3,?_⟩
 cases x with
 | normal =>
  exact Steps.tail h4 stepR_loop fun e=>by
   have:=congrArg List.length (atR_todo (lone_inj e));simp at this
 | exit id =>
  obtain⟨k2,e,s⟩:=h4
  exact⟨k2,e,Steps.tail s stepR_loop fun e=>by
   have:=atR_todo (lone_inj e);injection this with this
   injection this with this
   cases this⟩
 | goto l =>
  obtain⟨k2,e,s⟩:=h4
  exact⟨k2,e,Steps.tail s stepR_loop fun e=>by
   have:=atR_todo (lone_inj e);injection this with this
   injection this with this
   cases this⟩
 | ret =>
  obtain⟨k2,s⟩:=h4
  exact⟨k2,Steps.tail s stepR_loop fun e=>by
   have:=atR_todo (lone_inj e);injection this with this
   injection this with this
   cases this⟩
 | panic ch =>
  obtain⟨k2,ch',e,s⟩:=h4
  exact⟨k2,ch',e,Steps.tail s stepR_loop fun e=>by
   have h9:=congrArg Frame.mode (lone_inj e);cases h9⟩
theorem leads_block{b:Frame}{k0 k:List Item}{id:Nat}{cx:Cx}{t t':Fr}{w w':W}(h:Leads P ng b k0 (.inBlock id::k) cx t w (.exit id) t' w'):Leads P ng b k0 k cx t w .normal t' w':=by
 intro ρ base w0 a wd cs hI;obtain⟨ρ',a',wd',cs',h1,h2,h3,k2,e,s⟩:=h ρ base w0 a wd cs hI;refine⟨ρ',a',wd',cs',h1,h2,h3,s.trans (.one (stepR_exit ?_))⟩;rw [e];simp [exitTo]
theorem xcode_ok{lo:Lo}(hS:Sound P ng lo)
(hreg:∀id ops draw cx t w k,xcode P lo (.region id ops draw) cx t w k=true→∃x t' w',k x t' w'=true∧wX P ng (.region id ops draw) cx t w x t' w')
(hrf:∀f params asg body cx t w k,xcode P lo (.rangeFunc f params asg body) cx t w k=true→∃x t' w',k x t' w'=true∧wX P ng (.rangeFunc f params asg body) cx t w x t' w') :
 ∀c cx t w k,xcode P lo c cx t w k=true→∃x t' w',k x t' w'=true∧wX P ng c cx t w x t' w':=by
 intro c
 induction c with
 | skip=>exact fun cx t w k h=>⟨.normal,t,w,h,fun _ b k=>zO (fun _ _ _=>stepR_skip) (uI b k cx t w)⟩
 | label l=>exact fun cx t w k h=>⟨.normal,t,w,h,fun _ b k=>zO (fun _ _ _=>stepR_label) (uI b k cx t w)⟩
 | region id ops draw=>exact hreg id ops draw
 | rangeFunc f params asg body _ _=>exact hrf f params asg body
 | exit id=>exact fun cx t w k h=>⟨.exit id,t,w,h,fun _ b k ρ _ _ a wd cs hI=>⟨ρ,a,wd,cs,hI,Grow.refl _ _ _ _ hI.hp.dom,CsTo.refl _ _,k,rfl,Steps.refl _ _⟩⟩
 | goto l=>exact fun cx t w k h=>⟨.goto l,t,w,h,fun _ b k ρ _ _ a wd cs hI=>⟨ρ,a,wd,cs,hI,Grow.refl _ _ _ _ hI.hp.dom,CsTo.refl _ _,k,rfl,Steps.refl _ _⟩⟩
 | ret=>exact fun cx t w k h=>⟨.ret,t,w,h,fun _ b k ρ _ _ a wd cs hI=>⟨ρ,a,wd,cs,hI,Grow.refl _ _ _ _ hI.hp.dom,CsTo.refl _ _,k,Steps.refl _ _⟩⟩
 | refuse why=>exact fun cx t w k h=>(Bool.false_ne_true h).elim
 | seq a b iha ihb =>
  intro cx t w k h;obtain⟨x,t1,w1,hk,h1⟩:=iha cx t w _ h;have ok:∀{N},zY ng N (.seq a b)=true→zY ng N a=true∧zY ng N b=true:=fun h=>Bool.and_eq_true_iff.1 h
  have pass:x≠.normal→wX P ng (.seq a b) cx t w x t1 w1:=fun hx hc fr k=>
   zO (fun _ _ _=>stepR_seq) ((h1 (ok hc).1 fr (.code b::k)).pass hx (fun _ _=>rfl) (fun _ _=>rfl))
  cases x with
  | normal=>
   obtain⟨x2,t2,w2,hk2,h2⟩:=ihb cx t1 w1 k hk;exact⟨x2,t2,w2,hk2,fun hc fr k=>zO (fun _ _ _=>stepR_seq) ((h1 (ok hc).1 fr (.code b::k)).trans (h2 (ok hc).2 fr k))⟩
  | exit i=>exact⟨_,t1,w1,hk,pass AX.noConfusion⟩
  | goto i=>exact⟨_,t1,w1,hk,pass AX.noConfusion⟩
  | ret=>exact⟨_,t1,w1,hk,pass AX.noConfusion⟩
  | panic c=>exact⟨_,t1,w1,hk,pass AX.noConfusion⟩
 | cond c a b iha ihb =>
  intro cx t w k h;have h':onBool (ev t c) (fun q=>Bool.rec (xcode P lo b cx t w k) (xcode P lo a cx t w k) q) false=true:=h;rcases onBool_some h' with⟨q,hq,h2⟩|h2
  case inr=>cases h2
  have fin:∀{x t' w'},wX P ng (if q then a else b) cx t w x t' w'→wX P ng (.cond c a b) cx t w x t' w':=by
   intro x t' w' hc hok fr k ρ base w0 ac wd cs hI;obtain⟨o1,o2⟩:=Bool.and_eq_true_iff.1 hok;obtain⟨o2,o3⟩:=Bool.and_eq_true_iff.1 o2;have hr:=ev_rv hI.hp hI.tm o1;rw [hq]at hr;have hr:=hr.of_bool;obtain⟨ρ',a',wd',cs',h1,h2,h3,h4⟩:=hc (by cases q <;> assumption) fr k ρ base w0 ac wd cs hI;exact⟨ρ',a',wd',cs',h1,h2,h3,h4.of_steps (.one (stepR_cond hr))⟩
  cases q with
  | true=>obtain⟨x,t',w',hk,h3⟩:=iha cx t w k h2;exact⟨x,t',w',hk,fin h3⟩
  | false=>obtain⟨x,t',w',hk,h3⟩:=ihb cx t w k h2;exact⟨x,t',w',hk,fin h3⟩
 | block id b ih =>
  intro cx t w k h;obtain⟨x,t1,w1,hk,h1⟩:=ih cx t w _ h;have ok:∀{N},zY ng N (.block id b)=true→zY ng N b=true:=fun h=>h
  have pass:x≠.normal→(∀i,x = .exit i→i≠id)→wX P ng (.block id b) cx t w x t1 w1:=fun hx hi hc fr k=>
   zO (fun _ _ _=>stepR_block) ((h1 (ok hc) fr (.inBlock id::k)).pass hx (fun i e=>by
    have:(id == i)=false:=by simpa using fun e2=>hi i e e2.symm
    simp[exitTo,this]) (fun _ _=>rfl))
  cases x with
  | normal=>exact⟨.normal,t1,w1,hk,fun hc fr k=>zO (fun _ _ _=>stepR_block) ((h1 (ok hc) fr (.inBlock id::k)).trans (zO (fun _ _ _=>stepR_inBlock) (uI fr k cx t1 w1)))⟩
  | exit i =>
   have hk':(Bool.rec (k (.exit i) t1 w1) (k .normal t1 w1) (Nat.beq i id):Bool)=true:=hk
   cases hi:Nat.beq i id with
   | true=>
    rw[hi]at hk';obtain rfl:=zG hi;exact⟨.normal,t1,w1,hk',fun hc fr k=>zO (fun _ _ _=>stepR_block) (leads_block (h1 (ok hc) fr (.inBlock i::k)))⟩
   | false =>
    rw[hi]at hk'
    exact⟨_,t1,w1,hk',pass AX.noConfusion fun j e e2=>by
     injection e with e
     subst e e2;rw [Nat.beq_refl]at hi;cases hi⟩
  | goto i=>exact⟨_,t1,w1,hk,pass AX.noConfusion fun _ e=>by cases e⟩
  | ret=>exact⟨_,t1,w1,hk,pass AX.noConfusion fun _ e=>by cases e⟩
  | panic c=>exact⟨_,t1,w1,hk,pass AX.noConfusion fun _ e=>by cases e⟩
 | loop b ih =>
  intro cx t w k h;obtain⟨x,t1,w1,hk,h1⟩:=ih cx t w _ h
  have pass:x≠.normal→wX P ng (.loop b) cx t w x t1 w1:=fun hx hc fr k=>
   zO (fun _ _ _=>stepR_loop) ((h1 hc fr (.inLoop b::k)).pass hx (fun _ _=>rfl) (fun _ _=>rfl))
  cases x with
  | normal =>
   obtain⟨x2,t2,w2,hk2,h2⟩:=hS.code _ _ _ _ _ hk
   exact⟨x2,t2,w2,hk2,fun hc fr k=>zO (fun _ _ _=>stepR_loop)
    ((h1 hc fr (.inLoop b::k)).trans (zO (fun _ _ _=>stepR_inLoop) (leads_unloop (h2 hc fr k))))⟩
  | exit i=>exact⟨_,t1,w1,hk,pass AX.noConfusion⟩
  | goto i=>exact⟨_,t1,w1,hk,pass AX.noConfusion⟩
  | ret=>exact⟨_,t1,w1,hk,pass AX.noConfusion⟩
  | panic c=>exact⟨_,t1,w1,hk,pass AX.noConfusion⟩
 | scope b ih =>
  intro cx t w k h;obtain⟨x,t1,w1,hk,h1⟩:=ih cx t w _ h
  have pass:x≠.normal→(∀l,x≠.goto l)→wX P ng (.scope b) cx t w x t1 w1:=fun hx hg hc fr k=>
   zO (fun _ _ _=>stepR_scope) ((h1 hc fr (.inScope b::k)).pass hx (fun _ _=>rfl) (fun l e=>absurd e (hg l)))
  cases x with
  | normal=>exact⟨.normal,t1,w1,hk,fun hc fr k=>zO (fun _ _ _=>stepR_scope) ((h1 hc fr (.inScope b::k)).trans (zO (fun _ _ _=>stepR_inScope) (uI fr k cx t1 w1)))⟩
  | exit i=>exact⟨_,t1,w1,hk,pass AX.noConfusion fun _=>AX.noConfusion⟩
  | goto i=>exact(Bool.false_ne_true hk).elim
  | ret=>exact⟨_,t1,w1,hk,pass AX.noConfusion fun _=>AX.noConfusion⟩
  | panic c=>exact⟨_,t1,w1,hk,pass AX.noConfusion fun _=>AX.noConfusion⟩
end
section
variable {P:Program} {ng:Nat}
def pushed(P:Program):Next→Option Frame
 | .enter f args=>some (Frame.enter P f args .normal)
 | .round l f tmps a b=>some (Frame.round l f tmps a b .normal)
 | _=>none
def InvTo(P:Program)(ng:Nat)(f:Value)(args:List Value)(h:zI)(n:Nat)(o:Out)(h':zI)(n':Nat):Prop:=
 ∀(ρ : Inj) (base:Nat) (w0 wd:World) (f':Value) (args':List Value),HeapR P ng ρ base w0 h n wd→RV ρ f f'→RVs ρ args args'→
  ∃d nx fr,(Deferred.ofValue f' ⟨args'⟩).run P wd = .ok d wd∧(invoke d.target d.args).run P wd = .ok nx wd∧pushed P nx=some fr∧
   ∀(c:Frame) (cs:List Frame),∃ρ' wd',HeapR P ng ρ' base w0 h' n' wd'∧Grow ρ h n wd ρ' h' n' wd'∧Back P (lone fr (c::cs) wd) c cs wd' ρ' o
theorem callFunc_enter {f:FuncId} {fn:Func} {body:Code} (hf:P.funcs[f]? = some fn) (hb:fn.body=some body) (hn:(fn.name == "runtime.NumGoroutine")=false) (args:Array Value) (wd:World) :
 (callFunc f args).run P wd = .ok (.enter f args) wd:=by
 have hn':fn.name≠ "runtime.NumGoroutine" :=by simpa using hn
 simp only[callFunc,program,Sem.run_bind];simp [Sem.run,hf,hb,hn']
theorem leaves_back{m:Machine}{fr c:Frame}{cs:List Frame}{wd:World}{ρ : Inj}{o:Out}(hs:Steps P m (lone fr (c::cs) wd))(hl:Leaves P fr wd ρ false o):Back P m c cs wd ρ o:=by
 cases o with
 | ret v=>
  obtain⟨v',h1,h2,h3,h4,h5⟩:=hl;refine⟨v',h5,hs.trans (.one ?_)⟩;exact step_leave_returned ⟨h1,h2,h3,h4⟩
 | panic ch=>
  obtain⟨c',h1,h2,h3,h4⟩:=hl;refine⟨c',h4,hs.trans (.one ?_)⟩;exact step_leave_panicked ⟨h1,h2,h3⟩
theorem xinvoke_ok{lo:Lo}(hS:Sound P ng lo){f:Value}{args:List Value}{h:zI}{n:Nat}{k:Value→zI→Nat→Bool}{kp:yV→zI→Nat→Bool}(hx:xinvoke lo f args h n k kp=true) :
 ∃o h' n',(Out.rec (motive:=fun _=>Bool) (fun v=>k v h' n') (fun c=>kp c h' n') o)=true∧InvTo P ng f args h n o h' n':=by
 unfold xinvoke at hx;split at hx
 · rename_i g first cap;obtain⟨o,u',h',n',hk,⟨fn,body,e1,e2,e3⟩,hc⟩:=hS.call _ _ _ _ _ _ _ hx;refine⟨o,h',n',hk,fun ρ base w0 wd f' args' hH hf ha=>?_⟩
   cases hf with
   | func hy hfl hcl f1 c1=>
    rename_i first' cap';have r1:(Deferred.ofValue (.func (.func g) first' cap') ⟨args'⟩).run P wd = .ok { target:=.fn (.func g) cap',args:=first'++⟨args'⟩ } wd:=by simp[Deferred.ofValue]
    have r2:(invoke (.fn (.func g) cap') (first'++⟨args'⟩)).run P wd = .ok (.enter g (first'++⟨args'⟩++cap')) wd:=callFunc_enter e1 e2 e3 _ wd;refine⟨{ target:=.fn (.func g) cap',args:=first'++⟨args'⟩ },.enter g (first'++⟨args'⟩++cap'),Frame.enter P g (first'++⟨args'⟩++cap') .normal,r1,r2,by simp only[pushed],fun c cs=>?_⟩
    · have hr:RVs ρ (first.toList++(args++cap.toList)) (first'.toList++(args'++cap'.toList)):=RVs.append ⟨hfl,f1⟩ (ha.append ⟨hcl,c1⟩);obtain⟨ρ',wd',fr,cs',s1,s2,s3,s4,s5,s6,s7⟩:=hc ρ base w0 wd _ (c::cs) hH hr (fun e=>by cases e)
      have hcs:cs'=c::cs:=by
       rcases s4 with e|⟨e,_⟩
       · exact e
       · cases e
      subst hcs
      have earr:(first'++(⟨args'⟩:Array Value)++cap')=⟨first'.toList++(args'++cap'.toList)⟩:=by
       apply Array.toList_inj.1;simp
      refine⟨ρ',wd',s2,s3,?_⟩;rw [earr];exact leaves_back s1 s7
 · rename_i l first cap;obtain⟨o,h',n',hk,hc⟩:=hS.round _ _ _ _ _ hx;refine⟨o,h',n',by cases o <;> exact hk,fun ρ base w0 wd f' args' hH hf ha=>?_⟩
   cases hf with
   | func hy=>exact absurd rfl (hy l)
   | yield hl=>
    rename_i B;obtain⟨f,tmps,asg,body,q1,_⟩:=hc ρ base w0 wd args' B default [] hH hl (by simpa using ha);have r1:(Deferred.ofValue (.func (.yield B.b) #[] #[]) ⟨args'⟩).run P wd = .ok { target:=.fn (.yield B.b) #[],args:=⟨args'⟩ } wd:=by simp[Deferred.ofValue]
    have r2:(invoke (.fn (.yield B.b) #[]) ⟨args'⟩).run P wd = .ok (.round B.b f tmps asg body) wd:=q1;refine⟨{ target:=.fn (.yield B.b) #[],args:=⟨args'⟩ },.round B.b f tmps asg body,Frame.round B.b f tmps asg body .normal,r1,r2,by simp only[pushed],fun c cs=>?_⟩
    · obtain⟨f2,tmps2,asg2,body2,q2,ρ',wd',q3,q4,q5⟩:=hc ρ base w0 wd args' B c cs hH hl (by simpa using ha);rw [q1]at q2;injection q2 with q2 _
      injection q2 with _ q6 q7 q8 q9
      subst q6 q7 q8 q9;exact⟨ρ',wd',q3,q4,q5⟩
 · cases hx
theorem bodyOf_some{f:FuncId}{fn:Func}{body:Code}(h:bodyOf P f=some (fn,body)):P.funcs[f]? = some fn∧fn.body=some body:=by
 unfold bodyOf at h;split at h
 · rename_i fn2 e;split at h
   · rename_i b e2;injection h with h
     injection h with h1 h2
     subst h1 h2;have:=tab_some e;exact⟨by rw[← Array.getElem?_toList];exact this,e2⟩
   · cases h
 · cases h
theorem fn_ok(hP:zP ng P=true){f:FuncId}{fn:Func}(h:P.funcs[f]? = some fn):fnOK ng fn=true:=by
 unfold zP at hP;refine List.all_eq_true.1 (Bool.and_eq_true_iff.1 hP).1 fn ?_;rw [← Array.getElem?_toList]at h;exact List.mem_iff_getElem?.2 ⟨f,h⟩
theorem body_ok(hP:zP ng P=true){f:FuncId}{fn:Func}{body:Code}(h:P.funcs[f]? = some fn)(hb:fn.body=some body) :
 zY ng fn.ntmps body=true∧(fn.name == "runtime.NumGoroutine")=false:=by
 have h1:=fn_ok hP h;unfold fnOK at h1;rw [hb]at h1;have h2:=(Bool.and_eq_true_iff.1 h1).1;obtain⟨h3,h4⟩:=Bool.and_eq_true_iff.1 h2;refine⟨h3,?_⟩;simpa [bne] using h4
theorem ntm_eq{f:FuncId}{fn:Func}(h:P.funcs[f]? = some fn):ntm P f=fn.ntmps:=by simp[ntm,h]
theorem args0_true{t:Fr}{i:Nat}{l:List Value}{k:Fr→Bool}(h:args0 t i l k=true):k (Tr.ofListFrom undef t i l)=true:=by
 induction l generalizing t i with
 | nil=>exact h
 | cons v r ih=>
  have h':(uD v fun v=>fsetK t i v fun t=>args0 t (Nat.succ i) r k)=true:=h;rw [wZ]at h';unfold fsetK at h';rw [Tr.setK_eq]at h';exact ih h'
theorem xcall_ok{lo:Lo}(hP:zP ng P=true)(hS:Sound P ng lo){f:FuncId}{args:List Value}{df:Bool}{u:Option yV}{h:zI}{n:Nat}{k:KO}(hx:xcall P lo f args df u h n k=true) :
 ∃o u' h' n',k o u' h' n'=true∧CallTo P ng f args df u h n o u' h' n':=by
 unfold xcall at hx
 cases hb:bodyOf P f with
 | none=>rw [hb]at hx;cases hx
 | some p =>
  obtain⟨fn,body⟩:=p;rw [hb]at hx;obtain⟨e1,e2⟩:=bodyOf_some hb;obtain⟨e3,e4⟩:=body_ok hP e1 e2
  have hx1:(Bool.rec false (args0 fr0 0 args fun t=>
   lo.code body ⟨f,none,df⟩ t ⟨[],u,h,n⟩ fun x t w=>AX.rec (lo.leave fn none t w k) (fun _=>false) (fun _=>false) (lo.leave fn none t w k) (fun c=>lo.leave fn (some c) t w k) x) (Nat.ble args.length fn.ntmps):Bool)=true:=hx
  have hlen:Nat.ble args.length fn.ntmps=true:=by
   cases e:Nat.ble args.length fn.ntmps with
   | true=>rfl
   | false=>rw [e]at hx1;cases hx1
  rw[hlen]at hx1;have hlen:=wF hlen;have hx2:=args0_true hx1;obtain⟨x,t',w',hk,hc⟩:=hS.code _ _ _ _ _ hx2;rw [← ntm_eq e1]at e3
  have start:∀(ρ : Inj) (base:Nat) (w0 wd:World) (args':List Value) (cs:List Frame),HeapR P ng ρ base w0 h n wd→RVs ρ args args'→UR ρ df u cs→
   ∃(b:Frame) (a:Act),b.fn=f∧b.roundOf=none∧Frame.enter P f ⟨args'⟩ (kindOfDf df)=b.atR a [.code body]∧
    In P ng ρ base w0 b a wd cs ⟨f,none,df⟩ (Tr.ofListFrom undef fr0 0 args) ⟨[],u,h,n⟩:=by
   intro ρ base w0 wd args' cs hH ha hu;refine⟨{ (default:Frame) with fn:=f,kind:=kindOfDf df,roundOf:=none },{ tmps:=(⟨args'⟩:Array Value)++Array.replicate (fn.ntmps - args'.length) undef,defers:=[] },rfl,rfl,?_,?_⟩
   · simp[Frame.enter,Frame.atR,e1,e2]
   · refine⟨rfl,rfl,trivial,(fun e=>by cases e),⟨?_,?_⟩,hH,.nil,hu,fn,e1⟩
     · show((⟨args'⟩:Array Value)++Array.replicate (fn.ntmps - args'.length) undef).size=ntm P f;have:=ha.1;rw [ntm_eq e1];simp;omega
     · intro i v hv;have hv:((⟨args'⟩:Array Value)++Array.replicate (fn.ntmps - args'.length) undef)[i]? = some v:=hv;unfold fget;rw [Tr.get_ofListFrom];rw [← Array.getElem?_toList,Array.toList_append]at hv;by_cases hi:i<args'.length
       · rw[if_pos ⟨Nat.zero_le _,by have:=ha.1;omega⟩];rw [List.getElem?_append_left (by simpa using hi)]at hv;have hl:i<args.length:=by have:=ha.1;omega
         have:args[i]? = some (args.getD (i - 0) undef):=by simp[List.getElem?_eq_getElem hl]
         exact ha.2 i _ v this (by simpa using hv)
       · rw[if_neg (by have:=ha.1;omega)];rw [List.getElem?_append_right (by simpa using hi)]at hv
         have:v=undef:=by
          simp[List.getElem?_replicate]at hv;exact hv.2.symm
         subst this
         have hg:Tr.get undef fr0 i=undef:=by
          unfold fr0;exact Tr.get_leaf _ _
         rw[hg];exact RV.undef ρ
  have fin:∀{mode:Option yV},lo.leave fn mode t' w' k=true→(∀(b:Frame) (ρ : Inj) (a:Act) (wd:World) (cs:List Frame) (m0:Machine),b.roundOf=none→Arr P m0 b [] cs ρ a wd x→∃k2 m,ModeR ρ mode m∧Steps P m0 (lone { b.atR a k2 with mode:=m } cs wd))→
   ∃o u' h' n',k o u' h' n'=true∧CallTo P ng f args df u h n o u' h' n':=by
   intro mode hl hm;obtain⟨o,u',h',n',k1,hl2⟩:=hS.leave _ _ _ _ _ hl;refine⟨o,u',h',n',k1,⟨fn,body,e1,e2,e4⟩,fun ρ base w0 wd args' cs hH ha hu=>?_⟩;obtain⟨b,a,b1,b2,b3,hI⟩:=start ρ base w0 wd args' cs hH ha hu;obtain⟨ρ1,a1,wd1,cs1,i1,g1,c1,r1⟩:=hc e3 b [] ρ base w0 a wd cs hI;obtain⟨k2,m,hmode,hst⟩:=hm b ρ1 a1 wd1 cs1 _ b2 r1;have i2:In P ng ρ1 base w0 b a1 wd1 cs1 ⟨b.fn,none,df⟩ t' w':=by rw[b1];exact i1
   obtain⟨ρ2,wd2,fr,cs2,s1,s2,s3,s4,s5,s6,s7⟩:=hl2 ρ1 base w0 b a1 wd1 cs1 df i2 (by rw[b1];exact e1) k2 m hmode;refine⟨ρ2,wd2,fr,cs2,?_,s2,g1.trans s3,c1.trans s4,s5,s6.trans b1,s7⟩;rw [b3];exact hst.trans s1
  cases x with
  | normal=>exact fin (mode:=none) hk fun b ρ a wd cs m0 hb hr=>⟨[],.returning,rfl,Steps.trans hr (.one (stepR_end hb))⟩
  | ret =>
   exact fin (mode:=none) hk fun b ρ a wd cs m0 hb hr=>by
    obtain⟨k2,s⟩:=hr;exact⟨.code .ret::k2,.returning,rfl,s.trans (.one (stepR_ret hb))⟩
  | panic c =>
   exact fin (mode:=some c) hk fun b ρ a wd cs m0 hb hr=>by
    obtain⟨k2,c',hcr,s⟩:=hr;exact⟨k2,.panicking c',⟨c',rfl,hcr⟩,s⟩
  | exit i=>exact(Bool.false_ne_true hk).elim
  | goto i=>exact(Bool.false_ne_true hk).elim
end
section
variable {P:Program} {ng:Nat}
theorem ldV_ok{ρ : Inj}{base:Nat}{w0:World}{h:zI}{n:Nat}{wd:World}(hH:HeapR P ng ρ base w0 h n wd){ty:TypeId}{x x':Value}(hx:RV ρ x x'){v:Value}(hl:ldV P h ty x=some v) :
 ∃v',(do loadVar ty (← asAddr x'):Sem Value).run P wd = .ok v' wd∧RV ρ v v':=by
 obtain⟨v',h1,h2⟩:=load_ok hH hx hl;refine⟨v',?_,h2⟩;unfold ldV at hl;rcases uF hl with⟨b,off,rfl,_⟩|h3
 case inr=>cases h3
 obtain⟨B,_,_,rfl⟩:=hx.of_ptr;exact h1
def resOne(tmps:Array Value):ResultVar→Sem Value
 | .tmp t=>pure (tmps.getD t undef)
 | .cell a t=>do loadVar t (← asAddr (tmps.getD a undef))
theorem results_list{ρ : Inj}{base:Nat}{w0:World}{h:zI}{n:Nat}{wd:World}(hH:HeapR P ng ρ base w0 h n wd){N:Nat}{t:Fr}{tmps:Array Value}(hT:TmR ρ N t tmps) :
 ∀{rs:List ResultVar} {l:List Value},(∀r∈rs,(match r with | .tmp i=>Nat.blt i N | .cell i _=>Nat.blt i N)=true)→xH P t h rs=some l→∃l',(rs.mapM (resOne tmps)).run P wd = .ok l' wd∧RVs ρ l l':=by
 intro rs
 induction rs with
 | nil=>
  intro l _ hr;simp only[xH]at hr;injection hr with hr;subst hr
  exact⟨[],by simp,RVs.nil ρ⟩
 | cons r rs ih =>
  intro l hok hr;have hok2:∀x∈rs,(match x with | .tmp i=>Nat.blt i N | .cell i _=>Nat.blt i N)=true:=fun x hx=>hok x (by simp[hx])
  have slot:∀i,Nat.blt i N=true→RV ρ (fget t i) (tmps.getD i undef):=by
   intro i hi;have hi:=zR hi;have hlt:i<tmps.size:=Nat.lt_of_lt_of_le hi hT.le;have h1:=hT.tm i tmps[i] (Array.getElem?_eq_getElem hlt);simpa [Array.getD,hlt] using h1
  cases r with
  | tmp i =>
   simp only[xH]at hr
   cases hr2:xH P t h rs with
   | none=>rw [hr2]at hr;cases hr
   | some l2=>
    rw[hr2]at hr;injection hr with hr;subst hr
    obtain⟨l',h1,h2⟩:=ih hok2 hr2;refine⟨tmps.getD i undef::l',?_,RVs.cons (slot i (hok (.tmp i) (by simp))) h2⟩;simp [List.mapM_cons,resOne,h1]
  | cell i ty =>
   simp only[xH]at hr
   cases hv:ldV P h ty (fget t i) with
   | none=>rw [hv]at hr;cases hr
   | some v =>
    rw[hv]at hr
    cases hr2:xH P t h rs with
    | none=>rw [hr2]at hr;cases hr
    | some l2=>
     rw[hr2]at hr;injection hr with hr;subst hr
     obtain⟨l',h1,h2⟩:=ih hok2 hr2;obtain⟨v',h3,h4⟩:=ldV_ok hH (slot i (hok (.cell i ty) (by simp))) hv;refine⟨v'::l',?_,RVs.cons h4 h2⟩;have h3':(resOne tmps (.cell i ty)).run P wd = .ok v' wd:=h3;rw [List.mapM_cons,Sem.run_bind,h3',Result.andThen_ok,Sem.run_bind,h1];rfl
theorem results_ok(hP:zP ng P=true){ρ : Inj}{base:Nat}{w0:World}{h:zI}{n:Nat}{wd:World}(hH:HeapR P ng ρ base w0 h n wd){f:FuncId}{fn:Func}(hf:P.funcs[f]? = some fn){t:Fr}{tmps:Array Value}(hT:TmR ρ (ntm P f) t tmps)
{l:List Value}(hr:xH P t h fn.results.toList=some l):∃v',(results fn tmps).run P wd = .ok v' wd∧RV ρ (tupled l) v':=by
 rw[ntm_eq hf]at hT;have hfo:=fn_ok hP hf;unfold fnOK at hfo;have h2:=List.all_eq_true.1 (Bool.and_eq_true_iff.1 hfo).2
 obtain⟨l',h3,h4⟩:=results_list hH hT (rs:=fn.results.toList) (fun r hr=>by
  have:=h2 r hr;cases r <;> exact this) hr
 have e:fn.results.mapM (resOne tmps)=List.toArray <$> fn.results.toList.mapM (resOne tmps):=Array.mapM_eq_mapM_toList
 have h5:(fn.results.mapM (resOne tmps)).run P wd = .ok l'.toArray wd:=by
  rw[e,map_eq_pure_bind,Sem.run_bind,h3];rfl
 refine⟨(if h:l'.toArray.size=1 then l'.toArray[0] else .tuple l'.toArray),?_,?_⟩
 · have e2:results fn tmps=(do
    let vs ← fn.results.mapM (resOne tmps)
    pure (if h:vs.size=1 then vs[0] else .tuple vs)):=by
    unfold results;congr 1
   rw[e2,Sem.run_bind,h5];rfl
 · cases l with
   | nil=>obtain rfl:=h4.of_nil;exact RV.mk_tuple (RVs.nil ρ)
   | cons v r =>
    obtain⟨v',r',rfl,hv,hr⟩:=h4.of_cons
    cases r with
    | nil=>
     obtain rfl:=hr.of_nil;show RV ρ v _;simpa using hv
    | cons v2 r2=>
     obtain⟨v2',r2',rfl,hv2,hr2⟩:=hr.of_cons;have:¬((v'::v2'::r2').toArray.size=1):=by simp
     rw[dif_neg this];exact RV.mk_tuple (RVs.cons hv (RVs.cons hv2 hr2))
theorem step_collected{fr:Frame}{cs:List Frame}{w:World}{r:Nat}{asz:Array Value}{ds:List Deferred}(hm:fr.mode≠.run)(hd:fr.defers=⟨.collected r,asz⟩::ds)(hr:w.heap[r]? = some (.deferred (some []))) :
 step P (lone fr cs w) = .next (lone { fr with defers:=ds } cs { w with heap:=w.heap.setIfInBounds r (.deferred none) }):=by
 refine step_lone_go ?_
 have ht:(Instr.takeDeferred r).run P w = .ok [] { w with heap:=w.heap.setIfInBounds r (.deferred none) }:=by
  simp[Instr.takeDeferred,getObj,setObj,Sem.run,hr]
 cases hmode:fr.mode with
 | run=>exact absurd hmode hm
 | returning=>simp [stepG,unwind,hmode,hd,ht]
 | panicking chain=>simp [stepG,unwind,hmode,hd,ht]
theorem ModeR.ne_run{ρ : Inj}{mode:Option yV}{m:FrameMode}(h:ModeR ρ mode m):m≠.run:=by
 cases mode with
 | none=>unfold ModeR at h;subst h;exact FrameMode.noConfusion
 | some c=>obtain⟨c',rfl,_⟩:=h;exact FrameMode.noConfusion
theorem xleave_ok{lo:Lo}(hP:zP ng P=true)(hS:Sound P ng lo){fn:Func}{mode:Option yV}{t:Fr}{w:W}{k:KO}(hx:xleave P lo fn mode t w k=true) :
 ∃o u' h' n',k o u' h' n'=true∧LeaveTo P ng fn mode t w o u' h' n':=by
 obtain⟨d,u0,h,n⟩:=w;unfold xleave at hx;dsimp only at hx;split at hx
 ·
  split at hx
  · split at hx
    · rename_i l hl;rw [wZ]at hx;refine⟨_,_,_,_,hx,fun ρ base w0 b a wd cs df hI hf kk m hm=>?_⟩;obtain⟨v',h1,h2⟩:=results_ok hP hI.hp hf hI.tm hl;have hd:a.defers=[]:=by have:=hI.dr;generalize a.defers=z at this;cases this;rfl
      exact⟨ρ,wd,_,cs,Steps.refl _ _,hI.hp,Grow.refl _ _ _ _ hI.hp.dom,CsTo.refl _ _,hI.ur,rfl,v',hm,hd,hI.kind,⟨fn,hf,h1⟩,h2⟩
    · cases hx
  · rename_i c;refine⟨_,_,_,_,hx,fun ρ base w0 b a wd cs df hI hf kk m hm=>?_⟩;have hd:a.defers=[]:=by have:=hI.dr;generalize a.defers=z at this;cases this;rfl
    obtain⟨c',hm,hc⟩:=hm;exact⟨ρ,wd,_,cs,Steps.refl _ _,hI.hp,Grow.refl _ _ _ _ hI.hp.dom,CsTo.refl _ _,hI.ur,rfl,c',hm,hd,⟨fn,hf⟩,hc⟩
 ·
  rename_i r asz ds;split at hx
  · rename_i hg;rw [Tr.setK_eq]at hx;obtain⟨o,u',h',n',hk,hl⟩:=hS.leave _ _ _ _ _ hx;refine⟨o,u',h',n',hk,fun ρ base w0 b a wd cs df hI hf kk m hm=>?_⟩;have hdr:=hI.dr;obtain⟨tm,df2⟩:=a;dsimp only at hdr
    cases hdr with
    | coll hb hl2 =>
     rename_i B asz' l';have hdead:zH h r≠.dead:=by rw[hg];exact AObj.noConfusion
     obtain⟨ob,e1,e2⟩:=hI.hp.obj r B hb hdead;dsimp only at e2;rw [hg]at e2
     cases e2 with
     | ready hbb =>
      have hlt:=hI.hp.lt hb hdead
      obtain⟨g1,g2⟩:=hI.hp.turn hb hdead (.deferred false) (.deferred none) { wd with heap:=wd.heap.setIfInBounds B.b (.deferred none) } hbb (.taken hbb) (by simp[hlt]) (by simp) (fun c hc=>by
       show(wd.heap.setIfInBounds B.b _)[c]? = _;rw [Array.getElem?_setIfInBounds,if_neg (fun e=>hc e.symm)]) rfl rfl rfl
      obtain⟨ρ2,wd2,fr,cs2,s1,s2,s3,s4,s5,s6,s7⟩:=hl ρ base w0 b { tmps:=tm,defers:=l' } _ cs df
       ⟨hI.fn,hI.kind,hI.rd,hI.rdf,hI.tm,g1,hl2,hI.ur,hI.fnd⟩ hf kk m hm
      refine⟨ρ2,wd2,fr,cs2,?_,s2,g2.trans s3,s4,s5,s6,s7⟩;exact Steps.head (step_collected (fr:={ b.atR { tmps:=tm,defers:=⟨.collected B.b,asz'⟩::l' } kk with mode:=m }) hm.ne_run rfl e1) s1
  · cases hx
 ·
  rename_i g cap asz ds;obtain⟨o,u',h',n',hk,⟨gn,body,q1,q2,q3⟩,hc⟩:=hS.call _ _ _ _ _ _ _ hx
  cases o with
  | panic c=>exact(Bool.false_ne_true hk).elim
  | ret v =>
   dsimp only at hk
   have fin:∀{mode2:Option yV},lo.leave fn mode2 t ⟨ds,u0,h',n'⟩ k=true→(∀(ρ : Inj) (m:FrameMode),ModeR ρ u' m→ModeR ρ mode2 (settle m))→
    ∃o u' h' n',k o u' h' n'=true∧LeaveTo P ng fn mode t ⟨⟨.fn (.func g) cap,asz⟩::ds,u0,h,n⟩ o u' h' n':=by
    intro mode2 hl hset;obtain⟨o2,u2,h2,n2,hk2,hl2⟩:=hS.leave _ _ _ _ _ hl;refine⟨o2,u2,h2,n2,hk2,fun ρ base w0 b a wd cs df hI hf kk m hm=>?_⟩;have hdr:=hI.dr;obtain⟨tm,df2⟩:=a;dsimp only at hdr
    cases hdr with
    | fn hcap has hl3 =>
     rename_i cap' asz' l';have hr:RVs ρ (asz.toList++cap.toList) (asz'.toList++cap'.toList):=has.append hcap;obtain⟨ρ1,wd1,fr,cs1,s1,s2,s3,s4,s5,s6,s7⟩:=hc ρ base w0 wd _ ({ b.atR { tmps:=tm,defers:=l' } kk with mode:=m }::cs) hI.hp hr (fun _=>⟨_,_,rfl,hm⟩);obtain⟨c0,r0,z1,z2⟩:=s5 rfl
     have hcs:∃m1,cs1 = { b.atR { tmps:=tm,defers:=l' } kk with mode:=m1 }::cs:=by
      rcases s4 with e|⟨_,c1,r1,m1,e1,e2⟩
      · exact⟨m,e⟩
      · injection e1 with e1 e3
        subst e1 e3;exact⟨m1,e2⟩
     obtain⟨m1,hcs⟩:=hcs;subst hcs;injection z1 with z1 z3
     subst z1 z3;have z2:ModeR ρ1 u' m1:=z2;obtain⟨v',y1,y2,y3,y4,y5⟩:=s7;have hgo:fr.going P wd1 (.returned v'):=⟨y1,y2,y4⟩;have st2:=step_going_returned (P:=P) (c:={ b.atR { tmps:=tm,defers:=l' } kk with mode:=m1 }) (cs:=cs) y3 hgo;have earr:(asz'++cap':Array Value)=⟨asz'.toList++cap'.toList⟩:=by apply Array.toList_inj.1;simp
     have hinv:(invoke (.fn (.func g) cap') asz').run P wd = .ok (.enter g ⟨asz'.toList++cap'.toList⟩) wd:=by
      rw[← earr];exact callFunc_enter q1 q2 q3 _ wd
     have st1:=step_defer (P:=P) (fr:={ b.atR { tmps:=tm,defers:=⟨.fn (.func g) cap',asz'⟩::l' } kk with mode:=m }) (cs:=cs) (w:=wd) (d:=⟨.fn (.func g) cap',asz'⟩) (ds:=l') hm.ne_run rfl rfl hinv
     have hI2:In P ng ρ1 base w0 b { tmps:=tm,defers:=l' } wd1 cs ⟨b.fn,none,df⟩ t ⟨ds,u0,h',n'⟩:=
      have hle:=s3.le hI.hp.dom
      ⟨hI.fn,hI.kind,hI.rd.mono hle,hI.rdf,hI.tm.mono hle,s2,hl3.mono hle,hI.ur.mono hle,hI.fnd⟩
     obtain⟨ρ2,wd2,fr2,cs2,x1,x2,x3,x4,x5,x6,x7⟩:=hl2 ρ1 base w0 b { tmps:=tm,defers:=l' } wd1 cs df hI2 hf kk (settle m1) (hset ρ1 m1 z2);exact⟨ρ2,wd2,fr2,cs2,Steps.head st1 (s1.trans (Steps.head st2 x1)),x2,s3.trans x3,x4,x5,x6,x7⟩
   split at hk
   · rename_i v2 gx older
     cases ho:older.all fun e=> !e.goexit with
     | false=>rw [ho]at hk;cases hk
     | true =>
      rw[ho]at hk;refine fin (mode2:=none) hk fun ρ m hm=>?_;obtain⟨c',rfl,hc'⟩:=hm
      cases hc' with
      | cons hv hrec hgo hl =>
       rename_i e' l'
       have hall:l'.dropWhile (!·.goexit)=[]:=by
        clear hv hrec hgo hk hc hx fin
        induction hl with
        | nil=>rfl
        | cons hv hr hg hl ih=>
         simp only[List.all_cons,Bool.and_eq_true]at ho;rw [List.dropWhile_cons_of_pos (by rw[hg];exact ho.1)];exact ih ho.2
       obtain⟨v9,r9,g9⟩:=e';dsimp only at hrec;subst hrec;unfold ModeR settle;simp [hall]
   · rename_i hne;refine fin (mode2:=u') hk fun ρ m hm=>?_
     cases u' with
     | none=>unfold ModeR at hm;subst hm;rfl
     | some c =>
      obtain⟨c',rfl,hc'⟩:=hm;refine⟨c',?_,hc'⟩
      cases hc' with
      | nil=>rfl
      | cons hv hrec hgo hl=>
       rename_i e e' l l';obtain⟨v9,r9,g9⟩:=e;obtain⟨v8,r8,g8⟩:=e';dsimp only at hrec;subst hrec
       cases r8 with
       | true=>exact absurd rfl (hne v9 g9 l)
       | false=>rfl
 · cases hx
end
section
variable {P:Program} {ng:Nat}
theorem TmR.put{ρ : Inj}{N:Nat}{t:Fr}{ts:Array Value}(h:TmR ρ N t ts){v v':Value}(hv:RV ρ v v')(i:Nat):TmR ρ N (Tr.set undef v t i) (ts.setIfInBounds i v'):=by
 refine⟨by simpa using h.sz,fun j x hx=>?_⟩;unfold fget;rw [Tr.get_set_if];rw [Array.getElem?_setIfInBounds]at hx;by_cases e:i=j
 · subst e;rw [if_pos rfl]at hx ⊢;split at hx
   · injection hx with hx;subst hx;exact hv
   · cases hx
 · rw[if_neg e]at hx ⊢;exact h.tm j x hx
theorem run_loop{wd:World}{r:Nat}{l:Loop}(h:wd.heap[r]? = some (.loop l)):(Instr.getLoop r).run P wd = .ok l wd:=by simp[Instr.getLoop,getObj,Sem.run,h]
theorem run_setLoop{wd:World}{r:Nat}{l l2:Loop}(h:wd.heap[r]? = some (.loop l)):(setObj r (.loop l2)).run P wd = .ok () { wd with heap:=wd.heap.setIfInBounds r (.loop l2) }:=by simp[setObj,Sem.run,h]
noncomputable def setP:Fr→List Tmp→List Value→Fr
 | t,i::is,v::vs=>setP (Tr.set undef v t i) is vs
 | t,_,_=>t
theorem setParams_true:∀{is:List Tmp} {vs:List Value} {t:Fr} {k:Fr→Bool},setParams t is vs k=true→is.length=vs.length∧k (setP t is vs)=true:=by
 intro is
 induction is with
 | nil=>
  intro vs t k h
  cases vs with
  | nil=>exact⟨rfl,h⟩
  | cons v vs=>cases h
 | cons i is ih =>
  intro vs t k h
  cases vs with
  | nil=>cases h
  | cons v vs=>
   simp only[setParams,wZ,fsetK,Tr.setK_eq]at h;obtain⟨h1,h2⟩:=ih h;exact⟨by simp[h1],h2⟩
theorem setP_ok{ρ : Inj}{N:Nat}:∀{is:List Tmp} {vs vs':List Value} {t:Fr} {ts:Array Value},TmR ρ N t ts→RVs ρ vs vs'→
 TmR ρ N (setP t is vs) ((is.zip vs').foldl (fun tmps (x:Tmp×Value)=>tmps.setIfInBounds x.1 x.2) ts):=by
 intro is
 induction is with
 | nil=>intro vs vs' t ts h _;cases vs <;> exact h
 | cons i is ih =>
  intro vs vs' t ts h hv
  cases vs with
  | nil=>obtain rfl:=hv.of_nil;exact h
  | cons v vs=>
   obtain⟨v',r',rfl,h1,h2⟩:=hv.of_cons;exact ih (h.put h1 i) h2
theorem HeapR.turnLoop{ρ : Inj}{base:Nat}{w0:World}{h:zI}{n:Nat}{wd:World}(r:HeapR P ng ρ base w0 h n wd){l:Nat}{B:Bl}(hb: ρ l=some B){l1:Loop}{t1:Fr}(hg:zH h l = .loop l1 t1)(s:LoopState)(p:Option Code)
(hp:∀j,p=some j→∀N,zY ng N j=true) :
 ∃l1':Loop,wd.heap[B.b]? = some (.loop l1')∧l1'.state=l1.state∧l1'.pending=l1.pending∧
  HeapR P ng ρ base w0 (h.set .dead (.loop { l1 with state:=s,pending:=p } t1) l) n { wd with heap:=wd.heap.setIfInBounds B.b (.loop { l1' with state:=s,pending:=p }) }∧
  Grow ρ h n wd ρ (h.set .dead (.loop { l1 with state:=s,pending:=p } t1) l) n { wd with heap:=wd.heap.setIfInBounds B.b (.loop { l1' with state:=s,pending:=p }) }:=by
 have hdead:zH h l≠.dead:=by rw[hg];exact AObj.noConfusion
 obtain⟨ob,e1,e2⟩:=r.obj l B hb hdead;rw [hg]at e2
 cases e2 with
 | loop h1 h2 h3 h4 h5 h6 h7 h8 h9 h10 h11 h12 hbb =>
  rename_i l1';have hlt:=r.lt hb hdead
  obtain⟨g1,g2⟩:=r.turn hb hdead (.loop { l1 with state:=s,pending:=p } t1) (.loop { l1' with state:=s,pending:=p }) { wd with heap:=wd.heap.setIfInBounds B.b (.loop { l1' with state:=s,pending:=p }) } hbb
   (.loop rfl rfl h3 h4 h5 h6 h7 h8 h9 h10 hp h12 hbb) (by simp[hlt]) (by simp) (fun c hc=>by
    show(wd.heap.setIfInBounds B.b _)[c]? = _;rw [Array.getElem?_setIfInBounds,if_neg (fun e=>hc e.symm)]) rfl rfl rfl
  exact⟨l1',e1,h1,h2,g1,g2⟩
def jumpOK(j:Option Code):Prop:=∀c,j=some c→∀(ng N:Nat),zY ng N c=true
theorem endRound_ok{l:Nat}{j:Option Code}(hj:jumpOK j){h:zI}{n:Nat}{k:Out→zI→Nat→Bool}(hx:endRound l j h n k=true) :
 ∃h',k (.ret (.bool j.isNone)) h' n=true∧∀(ρ : Inj) (base:Nat) (w0 wd:World) (B:Bl),HeapR P ng ρ base w0 h n wd→ρ l=some B→
  ∃wd',(Instr.endRound B.b j).run P wd = .ok (.bool j.isNone) wd'∧HeapR P ng ρ base w0 h' n wd'∧Grow ρ h n wd ρ h' n wd':=by
 unfold endRound at hx;split at hx
 case h_2=>cases hx
 rename_i l2 t2 hg;rw [Tr.setK_eq]at hx
 have key:∀(s:LoopState) (q:Bool),s=(if j.isNone then .ready else .done)→q=j.isNone→k (.ret (.bool q)) (h.set .dead (.loop { l2 with state:=s,pending:=j } t2) l) n=true→
  ∃h',k (.ret (.bool j.isNone)) h' n=true∧∀(ρ : Inj) (base:Nat) (w0 wd:World) (B:Bl),HeapR P ng ρ base w0 h n wd→ρ l=some B→
   ∃wd',(Instr.endRound B.b j).run P wd = .ok (.bool j.isNone) wd'∧HeapR P ng ρ base w0 h' n wd'∧Grow ρ h n wd ρ h' n wd':=by
  intro s q hs hq hk;subst hq;refine⟨_,hk,fun ρ base w0 wd B hH hb=>?_⟩;obtain⟨l1',e1,e2,e3,e4,e5⟩:=hH.turnLoop hb hg s j (fun c hc N=>hj c hc ng N);refine⟨_,?_,e4,e5⟩;subst hs;simp [Instr.endRound,Instr.getLoop,getObj,setObj,Sem.run,e1]
 cases j with
 | none=>exact key _ _ rfl rfl hx
 | some c=>exact key _ _ rfl rfl hx
theorem xround_ok{lo:Lo}(_hP:zP ng P=true)(hS:Sound P ng lo){l:Nat}{args:List Value}{h:zI}{n:Nat}{k:Out→zI→Nat→Bool}(hx:xround lo l args h n k=true) :
 ∃o h' n',k o h' n'=true∧RoundTo P ng l args h n o h' n':=by
 unfold xround at hx;split at hx
 case h_2=>cases hx
 rename_i ll t0 hg;obtain⟨hlen,hx⟩:=setParams_true hx;obtain⟨x,t1,w1,hk,hc⟩:=hS.code _ _ _ _ _ hx
 cases x with
 | normal =>
  obtain⟨d1,u1,h1,n1⟩:=w1;dsimp only at hk;split at hk
  case h_2=>cases hk
  rename_i l1 tt1 hg1;split at hk
  case h_2=>cases hk
  rename_i hst1;rw [Tr.setK_eq]at hk;obtain⟨x2,t2,w2,hk2,hc2⟩:=hS.code _ _ _ _ _ hk;obtain⟨d2,u2,h2,n2⟩:=w2
  have body:∀(ρ : Inj) (base:Nat) (w0 wd:World) (args':List Value) (B:Bl) (c:Frame) (cs:List Frame),HeapR P ng ρ base w0 h n wd→ρ l=some B→RVs ρ args args'→
   ∃f tmps asg body,(Instr.yield B.b ⟨args'⟩).run P wd = .ok (.round B.b f tmps asg body) wd∧
    ∃(b:Frame) (ρ2:Inj) (a2:Act) (wd2:World),b.roundOf=some B.b∧b.kind = .normal∧In P ng ρ2 base w0 b a2 wd2 (c::cs) ⟨ll.fn,some l,false⟩ t2 ⟨d2,u2,h2,n2⟩∧Grow ρ h n wd ρ2 h2 n2 wd2∧ρ2 l=some B∧
     Arr P (lone (Frame.round B.b f tmps asg body .normal) (c::cs) wd) b [] (c::cs) ρ2 a2 wd2 x2:=by
   intro ρ base w0 wd args' B c cs hH hb ha;have hdead:zH h l≠.dead:=by rw[hg];exact AObj.noConfusion
   obtain⟨ob,e1,e2⟩:=hH.obj l B hb hdead;rw [hg]at e2
   cases e2 with
   | loop q1 q2 q3 q4 q5 q6 q7 q8 q9 q10 q11 q12 hbb =>
    rename_i ll'
    have hsz:¬((⟨args'⟩:Array Value).size≠ll'.params.size):=by
     have:ll'.params.size=args.length:=by rw[q4];simpa using hlen
     have h3:=ha.1;simp;omega
    have hy:(Instr.yield B.b ⟨args'⟩).run P wd = .ok (.round B.b ll.fn ((ll'.params.zip ⟨args'⟩).foldl (fun tmps (x:Tmp×Value)=>tmps.setIfInBounds x.1 x.2) ll'.tmps) ll.assign ll.body) wd:=by
     simp only[Instr.yield,Sem.run_bind,run_loop e1,Result.andThen_ok,if_neg hsz,q3,q5,q6];rfl
    refine⟨_,_,_,_,hy,?_⟩
    have hb0:Frame.round B.b ll.fn ((ll'.params.zip ⟨args'⟩).foldl (fun tmps (x:Tmp×Value)=>tmps.setIfInBounds x.1 x.2) ll'.tmps) ll.assign ll.body .normal =
     ({ (default:Frame) with fn:=ll.fn,kind:=.normal,roundOf:=some B.b }:Frame).atR { tmps:=(ll'.params.zip ⟨args'⟩).foldl (fun tmps (x:Tmp×Value)=>tmps.setIfInBounds x.1 x.2) ll'.tmps,defers:=[] } [.code ll.assign,.beginRound,.code ll.body]:=rfl
    rw[hb0]
    have htm:TmR ρ (ntm P ll.fn) (setP t0 ll.params.toList args) ((ll'.params.zip ⟨args'⟩).foldl (fun tmps (x:Tmp×Value)=>tmps.setIfInBounds x.1 x.2) ll'.tmps):=by
     have:=setP_ok (is:=ll.params.toList) q8 ha;rw [q4,← Array.foldl_toList,Array.toList_zip];exact this
    have hI:In P ng ρ base w0 ({ (default:Frame) with fn:=ll.fn,kind:=.normal,roundOf:=some B.b }:Frame) { tmps:=(ll'.params.zip ⟨args'⟩).foldl (fun tmps (x:Tmp×Value)=>tmps.setIfInBounds x.1 x.2) ll'.tmps,defers:=[] } wd (c::cs) ⟨ll.fn,some l,false⟩ (setP t0 ll.params.toList args) ⟨[],none,h,n⟩:=
     ⟨rfl,rfl,⟨B,hb,rfl⟩,fun _=>rfl,htm,hH,.nil,(fun e=>by cases e),q12⟩
    obtain⟨ρ1,a1,wd1,cs1,i1,g1,c1,r1⟩:=hc q9 _ [.beginRound,.code ll.body] ρ base w0 _ wd (c::cs) hI
    have hcs:cs1=c::cs:=by
     rcases c1 with e|⟨e,_⟩
     · exact e
     · cases e
    subst hcs;have hb1: ρ1 l=some B:=g1.le hH.dom _ _ hb
    obtain⟨l1',z1,z2,z3,z4,z5⟩:=i1.hp.turnLoop hb1 hg1 .busy l1.pending (by
     have hd1:zH h1 l≠.dead:=by rw[hg1];exact AObj.noConfusion
     obtain⟨ob1,y1,y2⟩:=i1.hp.obj l B hb1 hd1;dsimp only at y2;rw [hg1]at y2
     cases y2 with
     | loop _ _ _ _ _ _ _ _ _ _ q _ _=>exact q)
    have hbr:(Instr.beginRound B.b).run P wd1 = .ok () { wd1 with heap:=wd1.heap.setIfInBounds B.b (.loop { l1' with state:=.busy,pending:=l1.pending }) }:=by
     have e9:({ l1' with state:=.busy,pending:=l1.pending }:Loop) = { l1' with state:=.busy }:=by rw[← z3]
     rw[e9];simp only[Instr.beginRound,Sem.run_bind,run_loop z1,Result.andThen_ok,z2,hst1,run_setLoop z1];rfl
    have st:=stepR_beginRound (P:=P) (b:=({ (default:Frame) with fn:=ll.fn,kind:=.normal,roundOf:=some B.b }:Frame)) (a:=a1) (k:=[.code ll.body]) (cs:=c::cs) (w:=wd1) rfl hbr
    have hI2:In P ng ρ1 base w0 ({ (default:Frame) with fn:=ll.fn,kind:=.normal,roundOf:=some B.b }:Frame) a1 _ (c::cs) ⟨ll.fn,some l,false⟩ t1 ⟨d1,u1,_,n1⟩:=
     ⟨i1.fn,i1.kind,i1.rd,i1.rdf,i1.tm,z4,i1.dr,(fun e=>by cases e),i1.fnd⟩
    obtain⟨ρ2,a2,wd2,cs2,i2,g2,c2,r2⟩:=hc2 q10 _ [] ρ1 base w0 a1 _ (c::cs) hI2
    have hcs:cs2=c::cs:=by
     rcases c2 with e|⟨e,_⟩
     · exact e
     · cases e
    subst hcs;exact⟨_,ρ2,a2,wd2,rfl,rfl,i2,(g1.trans z5).trans g2,g2.le z4.dom _ _ hb1,r2.of_steps (Steps.trans r1 (.one st))⟩
  cases d2 with
  | cons _ _=>cases hk2
  | nil =>
   dsimp only at hk2
   have fin:∀(j:Option Code),jumpOK j→endRound l j h2 n2 k=true→(∀(b:Frame) (ρ : Inj) (a:Act) (wd wd':World) (m0:Machine) (c:Frame) (cs:List Frame) (L:Nat),b.roundOf=some L→b.kind = .normal→(Instr.endRound L j).run P wd = .ok (.bool j.isNone) wd'→
    Arr P m0 b [] (c::cs) ρ a wd x2→Steps P m0 (lone (c.finish (.bool j.isNone)) cs wd'))→∃o h' n',k o h' n'=true∧RoundTo P ng l args h n o h' n':=by
    intro j hj he hm;obtain⟨h3,k3,hend⟩:=endRound_ok (P:=P) (ng:=ng) hj he;refine⟨_,h3,n2,k3,fun ρ base w0 wd args' B c cs hH hb ha=>?_⟩;obtain⟨f,tmps,asg,bd,y1,b,ρ2,a2,wd2,y2,y3,y4,y5,y6,y7⟩:=body ρ base w0 wd args' B c cs hH hb ha;obtain⟨wd3,z1,z2,z3⟩:=hend ρ2 base w0 wd2 B y4.hp y6;exact⟨f,tmps,asg,bd,y1,ρ2,wd3,z2,y5.trans z3,.bool j.isNone,RV.bool _,hm b ρ2 a2 wd2 wd3 _ c cs B.b y2 y3 z1 y7⟩
   cases x2 with
   | normal =>
    exact fin none (fun c e=>by cases e) hk2 fun b ρ a wd wd' m0 c cs L hb hkd he hr=>
     Steps.trans hr (.one (stepR_round_end hb hkd he))
   | ret =>
    exact fin (some .ret) (fun c e _ _=>by injection e with e;subst e;rfl) hk2 fun b ρ a wd wd' m0 c cs L hb hkd he hr=>by
     obtain⟨k2,s⟩:=hr;exact s.trans (.one (stepR_round_ret hb hkd he))
   | exit id =>
    exact fin (some (.exit id)) (fun c e _ _=>by injection e with e;subst e;rfl) hk2 fun b ρ a wd wd' m0 c cs L hb hkd he hr=>by
     obtain⟨k2,ex,s⟩:=hr;exact s.trans (.one (stepR_round_exit hb hkd (by rw[ex];rfl) he))
   | goto id =>
    exact fin (some (.goto id)) (fun c e _ _=>by injection e with e;subst e;rfl) hk2 fun b ρ a wd wd' m0 c cs L hb hkd he hr=>by
     obtain⟨k2,ex,s⟩:=hr;exact s.trans (.one (stepR_round_goto hb hkd (by rw[ex];rfl) he))
   | panic ch=>
    refine⟨_,h2,n2,hk2,fun ρ base w0 wd args' B c cs hH hb ha=>?_⟩;obtain⟨f,tmps,asg,bd,y1,b,ρ2,a2,wd2,y2,y3,y4,y5,y6,k2,ch',y7,y8⟩:=body ρ base w0 wd args' B c cs hH hb ha;have hd:a2.defers=[]:=by have:=y4.dr;generalize a2.defers=z at this;cases this;rfl
    exact⟨f,tmps,asg,bd,y1,ρ2,wd2,y4.hp,y5,ch',y7,y8.trans (.one (step_leave_panicked ⟨rfl,hd,y4.fnd⟩))⟩
 | exit i=>cases hk
 | goto i=>cases hk
 | ret=>cases hk
 | panic c=>cases hk
end
section
variable {P:Program} {ng:Nat}
theorem step_range{b:Frame}{a:Act}{kk:List Item}{cs:List Frame}{wd wd1:World}{f:Operand}{params:Array Tmp}{asg body:Code}{l:Nat}{mark:List Deferred}{d:Deferred}{nx:Next}{fr:Frame}
(he:(Instr.enterLoop b.fn a.tmps params asg body b.roundOf).run P wd = .ok (l,mark) wd1)
(hd:(Deferred.ofValue (a.eval f) #[.func (.yield l) #[] #[]]).run P wd1 = .ok d wd1)(hi:(invoke d.target d.args).run P wd1 = .ok nx wd1)(hp:pushed P nx=some fr) :
 step P (lone (b.atR a (.code (.rangeFunc f params asg body)::kk)) cs wd) = .next (lone fr (b.atR { tmps:=a.tmps,defers:=mark++a.defers } (.inRangeFunc l::kk)::cs) wd1):=by
 refine step_lone_go ?_;have ev1:(b.atR { tmps:=a.tmps,defers:=mark++a.defers } (.inRangeFunc l::kk)).eval=a.eval:=Frame.eval_atR b _ _
 have hr:(resolve a.eval { callee:=.value f,args:= #[.const (.func (.yield l) #[] #[])],argTypes:= #[] } 0).run P wd1 = .ok d wd1:=by
  simpa [resolve,Act.eval] using hd
 simp only[Frame.atR]at ev1;cases nx <;> simp only[pushed]at hp <;> first|(cases hp;done)|skip
 all_goals
  injection hp with hp
  subst hp;simp [stepG,stepG.exec,stepG.apply,Frame.atR,he,ev1,hr,hi]
theorem step_endRange{b:Frame}{a:Act}{kk:List Item}{cs:List Frame}{wd wd1:World}{l:Nat}{j:Option Code}(he:(Instr.endLoop l).run P wd = .ok j wd1) :
 step P (lone (b.atR a (.endRangeFunc l::kk)) cs wd) = .next (lone (b.atR a ((j.map Item.code).toList++kk)) cs wd1):=
 step_lone_go (by simp[stepG,stepG.exec,Frame.atR,he])
theorem xrange_ok{lo:Lo}(hS:Sound P ng lo){f:Operand}{params:Array Tmp}{asg body:Code}{cx:Cx}{t:Fr}{d:List Deferred}{u:Option yV}{h:zI}{n blk:Nat}{k:KX}(hx:xrange lo f params asg body cx t d u h n blk k=true) :
 ∃x t' w',k x t' w'=true∧∀(_hok:zY ng (ntm P cx.fn) (.rangeFunc f params asg body)=true) (ρ : Inj) (base:Nat) (w0:World) (b:Frame) (a:Act) (wd:World) (cs:List Frame) (D:Bl) (kk:List Item),In P ng ρ base w0 b a wd cs cx t ⟨d,u,h,n⟩→ρ blk=some D→
  ∃dd nx fr,(Deferred.ofValue (a.eval f) #[.func (.yield wd.heap.size) #[] #[]]).run P { wd with heap:=wd.heap.push (.loop { state:=.ready,pending:=none,fn:=b.fn,tmps:=a.tmps,params,assign:=asg,body,defers:=D.b }) } =
   .ok dd { wd with heap:=wd.heap.push (.loop { state:=.ready,pending:=none,fn:=b.fn,tmps:=a.tmps,params,assign:=asg,body,defers:=D.b }) }∧
   (invoke dd.target dd.args).run P { wd with heap:=wd.heap.push (.loop { state:=.ready,pending:=none,fn:=b.fn,tmps:=a.tmps,params,assign:=asg,body,defers:=D.b }) } =
    .ok nx { wd with heap:=wd.heap.push (.loop { state:=.ready,pending:=none,fn:=b.fn,tmps:=a.tmps,params,assign:=asg,body,defers:=D.b }) }∧pushed P nx=some fr∧
   ∃ρ' a' wd' cs',In P ng ρ' base w0 b a' wd' cs' cx t' w'∧Grow ρ h n wd ρ' w'.h w'.n wd'∧CsTo cx.df cs cs'∧
    Arr P (lone fr (b.atR a (.inRangeFunc wd.heap.size::kk)::cs) { wd with heap:=wd.heap.push (.loop { state:=.ready,pending:=none,fn:=b.fn,tmps:=a.tmps,params,assign:=asg,body,defers:=D.b }) }) b kk cs' ρ' a' wd' x:=by
 unfold xrange at hx;rw [zT]at hx;obtain⟨o,h2,n2,hk,hc⟩:=xinvoke_ok hS hx
 have call:∀(hok:zY ng (ntm P cx.fn) (.rangeFunc f params asg body)=true) (ρ : Inj) (base:Nat) (w0:World) (b:Frame) (a:Act) (wd:World) (cs:List Frame) (D:Bl) (kk:List Item),In P ng ρ base w0 b a wd cs cx t ⟨d,u,h,n⟩→ρ blk=some D→
  ∃dd nx fr,(Deferred.ofValue (a.eval f) #[.func (.yield wd.heap.size) #[] #[]]).run P { wd with heap:=wd.heap.push (.loop { state:=.ready,pending:=none,fn:=b.fn,tmps:=a.tmps,params,assign:=asg,body,defers:=D.b }) } =
   .ok dd { wd with heap:=wd.heap.push (.loop { state:=.ready,pending:=none,fn:=b.fn,tmps:=a.tmps,params,assign:=asg,body,defers:=D.b }) }∧
   (invoke dd.target dd.args).run P { wd with heap:=wd.heap.push (.loop { state:=.ready,pending:=none,fn:=b.fn,tmps:=a.tmps,params,assign:=asg,body,defers:=D.b }) } =
    .ok nx { wd with heap:=wd.heap.push (.loop { state:=.ready,pending:=none,fn:=b.fn,tmps:=a.tmps,params,assign:=asg,body,defers:=D.b }) }∧pushed P nx=some fr∧
   ∃ρ2 wd2,In P ng ρ2 base w0 b a wd2 cs cx t ⟨d,u,h2,n2⟩∧Grow ρ h n wd ρ2 h2 n2 wd2∧ρ2 n=some ⟨wd.heap.size,0,0⟩∧
    Back P (lone fr (b.atR a (.inRangeFunc wd.heap.size::kk)::cs) { wd with heap:=wd.heap.push (.loop { state:=.ready,pending:=none,fn:=b.fn,tmps:=a.tmps,params,assign:=asg,body,defers:=D.b }) }) (b.atR a (.inRangeFunc wd.heap.size::kk)) cs wd2 ρ2 o:=by
  intro hok ρ base w0 b a wd cs D kk hI hD;obtain⟨o1,o2⟩:=Bool.and_eq_true_iff.1 hok;obtain⟨o2,o3⟩:=Bool.and_eq_true_iff.1 o2;have hle:=Inj.le_put (⟨wd.heap.size,0,0⟩:Bl) (hI.hp.dom n (Nat.le_refl _))
  obtain⟨a1,a2⟩:=hI.hp.alloc (.loop { state:=.ready,pending:=none,fn:=cx.fn,tmps:= #[],params,assign:=asg,body,defers:=blk } t)
   (.loop { state:=.ready,pending:=none,fn:=b.fn,tmps:=a.tmps,params,assign:=asg,body,defers:=D.b }) ⟨wd.heap.size,0,0⟩ rfl
   (.loop rfl rfl hI.fn rfl rfl rfl ⟨D,hle _ _ hD,rfl⟩ (hI.tm.mono hle) o2 o3 (fun j e=>by cases e) (by have:=hI.fnd;rwa [hI.fn]at this) hI.hp.size)
  have hf:RV (ρ.put n ⟨wd.heap.size,0,0⟩) (ev t f) (a.eval f):=(ev_rv hI.hp hI.tm o1).mono hle;obtain⟨dd,nx,fr,r1,r2,r3,r4⟩:=hc _ base w0 _ (a.eval f) [.func (.yield wd.heap.size) #[] #[]] a1 hf (RVs.cons (RV.yield (B:=⟨wd.heap.size,0,0⟩) (zU _ _ _)) (RVs.nil _));refine⟨dd,nx,fr,r1,r2,r3,?_⟩;obtain⟨ρ2,wd2,s1,s2,s3⟩:=r4 (b.atR a (.inRangeFunc wd.heap.size::kk)) cs;have hle2:=hle.trans (s2.le a1.dom);exact⟨ρ2,wd2,⟨hI.fn,hI.kind,hI.rd.mono hle2,hI.rdf,hI.tm.mono hle2,s1,hI.dr.mono hle2,hI.ur.mono hle2,hI.fnd⟩,a2.trans s2,s2.le a1.dom _ _ (zU _ _ _),s3⟩
 cases o with
 | panic c=>
  refine⟨_,_,_,hk,fun hok ρ base w0 b a wd cs D kk hI hD=>?_⟩;obtain⟨dd,nx,fr,r1,r2,r3,ρ2,wd2,i2,g2,b2,ch',c1,c2⟩:=call hok ρ base w0 b a wd cs D kk hI hD;exact⟨dd,nx,fr,r1,r2,r3,ρ2,a,wd2,cs,i2,g2,CsTo.refl _ _,_,ch',c1,by rw[Frame.raise_atR]at c2;exact c2⟩
 | ret v =>
  have hk':(match zH h2 n with
   | .loop l t0 => match l.state with
    | .busy=>false
    | _=>h2.setK .dead (.loop { l with state:=.exhausted } t0) n fun h3=>match l.pending with
     | none=>k .normal t ⟨d,u,h3,n2⟩
     | some j=>lo.code j cx t ⟨d,u,h3,n2⟩ k
   | _=>false)=true:=hk
  cases hg:zH h2 n with
  | loop l t0 =>
   rw[hg]at hk';dsimp only at hk'
   have hk3:l.state≠.busy∧(h2.setK .dead (.loop { l with state:=.exhausted } t0) n fun h3=>match l.pending with
    | none=>k .normal t ⟨d,u,h3,n2⟩
    | some j=>lo.code j cx t ⟨d,u,h3,n2⟩ k)=true:=by
    split at hk'
    · cases hk'
    · rename_i hb;exact⟨hb,hk'⟩
   obtain⟨hbusy,hk4⟩:=hk3;rw [Tr.setK_eq]at hk4
   have ends:∀(hok:zY ng (ntm P cx.fn) (.rangeFunc f params asg body)=true) (ρ : Inj) (base:Nat) (w0:World) (b:Frame) (a:Act) (wd:World) (cs:List Frame) (D:Bl) (kk:List Item),In P ng ρ base w0 b a wd cs cx t ⟨d,u,h,n⟩→ρ blk=some D→
    ∃dd nx fr,(Deferred.ofValue (a.eval f) #[.func (.yield wd.heap.size) #[] #[]]).run P { wd with heap:=wd.heap.push (.loop { state:=.ready,pending:=none,fn:=b.fn,tmps:=a.tmps,params,assign:=asg,body,defers:=D.b }) } =
     .ok dd { wd with heap:=wd.heap.push (.loop { state:=.ready,pending:=none,fn:=b.fn,tmps:=a.tmps,params,assign:=asg,body,defers:=D.b }) }∧
     (invoke dd.target dd.args).run P { wd with heap:=wd.heap.push (.loop { state:=.ready,pending:=none,fn:=b.fn,tmps:=a.tmps,params,assign:=asg,body,defers:=D.b }) } =
      .ok nx { wd with heap:=wd.heap.push (.loop { state:=.ready,pending:=none,fn:=b.fn,tmps:=a.tmps,params,assign:=asg,body,defers:=D.b }) }∧pushed P nx=some fr∧
     ∃ρ2 wd3,In P ng ρ2 base w0 b a wd3 cs cx t ⟨d,u,h2.set .dead (.loop { l with state:=.exhausted } t0) n,n2⟩∧Grow ρ h n wd ρ2 (h2.set .dead (.loop { l with state:=.exhausted } t0) n) n2 wd3∧(∀j,l.pending=some j→∀N,zY ng N j=true)∧
      Steps P (lone fr (b.atR a (.inRangeFunc wd.heap.size::kk)::cs) { wd with heap:=wd.heap.push (.loop { state:=.ready,pending:=none,fn:=b.fn,tmps:=a.tmps,params,assign:=asg,body,defers:=D.b }) }) (lone (b.atR a ((l.pending.map Item.code).toList++kk)) cs wd3):=by
    intro hok ρ base w0 b a wd cs D kk hI hD;obtain⟨dd,nx,fr,r1,r2,r3,ρ2,wd2,i2,g2,b2,v',c1,c2⟩:=call hok ρ base w0 b a wd cs D kk hI hD;refine⟨dd,nx,fr,r1,r2,r3,ρ2,?_⟩;have hd1:zH h2 n≠.dead:=by rw[hg];exact AObj.noConfusion
    have hpend:∀j,l.pending=some j→∀N,zY ng N j=true:=by
     obtain⟨ob1,y1,y2⟩:=i2.hp.obj n _ b2 hd1;dsimp only at y2;rw [hg]at y2
     cases y2 with
     | loop _ _ _ _ _ _ _ _ _ _ q _ _=>exact q
    obtain⟨l1',z1,z2,z3,z4,z5⟩:=i2.hp.turnLoop b2 hg .exhausted l.pending hpend
    have he:(Instr.endLoop wd.heap.size).run P wd2 = .ok l.pending { wd2 with heap:=wd2.heap.setIfInBounds wd.heap.size (.loop { l1' with state:=.exhausted,pending:=l.pending }) }:=by
     have hnb:¬((l1'.state == LoopState.busy)=true):=by rw[z2];simpa using hbusy
     have e9:({ l1' with state:=.exhausted,pending:=l.pending }:Loop) = { l1' with state:=.exhausted }:=by rw[← z3]
     rw[e9];simp only[Instr.endLoop,Sem.run_bind,run_loop z1,Result.andThen_ok,if_neg hnb,run_setLoop z1,Sem.run_pure,z3]
    refine⟨_,⟨i2.fn,i2.kind,i2.rd,i2.rdf,i2.tm,z4,i2.dr,i2.ur,i2.fnd⟩,g2.trans z5,hpend,c2.trans (.one ?_)⟩;exact step_endRange (b:=b) (a:=a) (kk:=kk) (cs:=cs) he
   cases hp:l.pending with
   | none=>
    rw[hp]at hk4;refine⟨_,_,_,hk4,fun hok ρ base w0 b a wd cs D kk hI hD=>?_⟩;obtain⟨dd,nx,fr,r1,r2,r3,ρ2,wd3,i3,g3,_,s3⟩:=ends hok ρ base w0 b a wd cs D kk hI hD;rw [hp]at i3 g3 s3;exact⟨dd,nx,fr,r1,r2,r3,ρ2,a,wd3,cs,i3,g3,CsTo.refl _ _,s3⟩
   | some j=>
    rw[hp]at hk4;obtain⟨x,t',w',k5,hc5⟩:=hS.code _ _ _ _ _ hk4;refine⟨x,t',w',k5,fun hok ρ base w0 b a wd cs D kk hI hD=>?_⟩;obtain⟨dd,nx,fr,r1,r2,r3,ρ2,wd3,i3,g3,hpe,s3⟩:=ends hok ρ base w0 b a wd cs D kk hI hD;have hpe':=hpe j hp;rw [hp]at i3 g3 s3;obtain⟨ρ4,a4,wd4,cs4,i4,g4,c4,r4⟩:=hc5 (hpe' _) b kk ρ2 base w0 a wd3 cs i3;exact⟨dd,nx,fr,r1,r2,r3,ρ4,a4,wd4,cs4,i4,g3.trans g4,c4,r4.of_steps s3⟩
  | dead=>rw [hg]at hk';cases hk'
  | cells _ _ _ _=>rw [hg]at hk';cases hk'
  | map _ _=>rw [hg]at hk';cases hk'
  | deferred _=>rw [hg]at hk';cases hk'
  | siter _ _ _ _=>rw [hg]at hk';cases hk'
theorem xrangeFunc_ok{lo:Lo}(hS:Sound P ng lo)(f:Operand)(params:Array Tmp)(asg body:Code)(cx:Cx)(t:Fr)(w:W)(k:KX)(hx:xcode P lo (.rangeFunc f params asg body) cx t w k=true) :
 ∃x t' w',k x t' w'=true∧wX P ng (.rangeFunc f params asg body) cx t w x t' w':=by
 obtain⟨d,u,h,n⟩:=w;obtain⟨fn,rd,df⟩:=cx
 cases rd with
 | none =>
  have hx':(zQ h n (.deferred true) fun h' n'=>xrange lo f params asg body ⟨fn,none,df⟩ t ({ target:=.collected n,args:= #[] }::d) u h' n' n k)=true:=hx;rw [zT]at hx';obtain⟨x,t',w',hk,hc⟩:=xrange_ok hS hx';refine⟨x,t',w',hk,fun hok b kk ρ base w0 a wd cs hI=>?_⟩;have hle:=Inj.le_put (⟨wd.heap.size,0,0⟩:Bl) (hI.hp.dom n (Nat.le_refl _));obtain⟨a1,a2⟩:=hI.hp.alloc (.deferred true) (.deferred (some [])) ⟨wd.heap.size,0,0⟩ rfl (.ready hI.hp.size)
  have hI2:In P ng (ρ.put n ⟨wd.heap.size,0,0⟩) base w0 b { tmps:=a.tmps,defers:=⟨.collected wd.heap.size,#[]⟩::a.defers } { wd with heap:=wd.heap.push (.deferred (some [])) } cs ⟨fn,none,df⟩ t ⟨{ target:=.collected n,args:= #[] }::d,u,h.set .dead (.deferred true) n,n+1⟩:=
   ⟨hI.fn,hI.kind,hI.rd.mono hle,hI.rdf,hI.tm.mono hle,a1,.coll (B:=⟨wd.heap.size,0,0⟩) (zU _ _ _) (hI.dr.mono hle),hI.ur.mono hle,hI.fnd⟩
  obtain⟨dd,nx,fr,r1,r2,r3,ρ2,a2',wd2,cs2,i2,g2,c2,s2⟩:=hc hok _ base w0 b _ _ cs ⟨wd.heap.size,0,0⟩ kk hI2 (zU _ _ _);refine⟨ρ2,a2',wd2,cs2,i2,a2.trans g2,c2,s2.of_steps (.one ?_)⟩
  have hro:b.roundOf=none:=by
   have:=hI.rd
   cases hb:b.roundOf with
   | none=>rfl
   | some l=>rw [hb]at this;exact this.elim
  exact step_range (mark:=[⟨.collected wd.heap.size,#[]⟩]) (by rw[hro];simp [Instr.enterLoop];rfl) r1 r2 r3
 | some l =>
  have hx':(match zH h l with
   | .loop ll _=>xrange lo f params asg body ⟨fn,some l,df⟩ t d u h n ll.defers k
   | _=>false)=true:=hx
  cases hg:zH h l with
  | loop ll t0 =>
   rw[hg]at hx';dsimp only at hx';obtain⟨x,t',w',hk,hc⟩:=xrange_ok hS hx';refine⟨x,t',w',hk,fun hok b kk ρ base w0 a wd cs hI=>?_⟩;have hro:=hI.rd
   cases hb:b.roundOf with
   | none=>rw [hb]at hro;exact hro.elim
   | some l' =>
    rw[hb]at hro;obtain⟨B,hB,hBl⟩:=hro;have hd1:zH h l≠.dead:=by rw[hg];exact AObj.noConfusion
    obtain⟨ob1,y1,y2⟩:=hI.hp.obj l _ hB hd1;dsimp only at y2;rw [hg]at y2
    cases y2 with
    | loop _ _ _ _ _ _ q7 _ _ _ _ _ _=>
     rename_i ll';obtain⟨D,hD,hDb⟩:=q7;obtain⟨dd,nx,fr,r1,r2,r3,ρ2,a2',wd2,cs2,i2,g2,c2,s2⟩:=hc hok ρ base w0 b a wd cs D kk hI hD;refine⟨ρ2,a2',wd2,cs2,i2,g2,c2,s2.of_steps (.one ?_)⟩;refine step_range (mark:=[]) ?_ r1 r2 r3;rw [hb,← hBl];simp only[Instr.enterLoop,Sem.run_bind,run_loop y1,Result.andThen_ok,Sem.run_pure,hDb];simp [newObj,Sem.run]
  | dead=>rw [hg]at hx';cases hx'
  | cells _ _ _ _=>rw [hg]at hx';cases hx'
  | map _ _=>rw [hg]at hx';cases hx'
  | deferred _=>rw [hg]at hx';cases hx'
  | siter _ _ _ _=>rw [hg]at hx';cases hx'
end
section
variable (P:Program) (ng:Nat)
structure In0 (ρ : Inj) (base:Nat) (w0:World) (b:Frame) (a:Act) (wd:World) (cs:List Frame) (cx:Cx) (w:W):Prop where
 fn:b.fn=cx.fn
 kind:b.kind=kindOfDf cx.df
 rd:RdR ρ cx.round b.roundOf
 rdf:cx.round.isSome=true→cx.df=false
 hp:HeapR P ng ρ base w0 w.h w.n wd
 dr:DRs ρ w.d a.defers
 ur:UR ρ cx.df w.u cs
 fnd:∃fn,P.funcs[b.fn]? = some fn
def Done(m:Machine)(b:Frame)(a':Act)(cs':List Frame)(wd':World)(ρ':Inj)(o:Oper)(ops:Array Oper)(i:Nat)(rest:List Nat)(k:List Item):Out→Prop
 | .ret v=>∃v',RV ρ' v v'∧Steps P m (lone (b.atR (a'.put o.dst v') (.inRegion ops rest::k)) cs' wd')
 | .panic c=>∃c',ChR ρ' c c'∧Steps P m (lone { b.atR a' (.inRegion ops (i::rest)::k) with mode:=.panicking c' } cs' wd')
def OpTo(o:Oper)(cx:Cx)(t:Fr)(w:W)(out:Out)(w':W):Prop:=
 ∀(ρ : Inj) (base:Nat) (w0:World) (b:Frame) (a:Act) (wd:World) (cs:List Frame),In0 P ng ρ base w0 b a wd cs cx w→OpsR ρ t a o→
  ∀(ops:Array Oper) (i:Nat) (rest:List Nat) (k:List Item),ops[i]? = some o→Region.wanted o (yielded ops a.tmps)=true→
   ∃ρ' a' wd' cs',In0 P ng ρ' base w0 b a' wd' cs' cx w'∧a'.tmps=a.tmps∧Grow ρ w.h w.n wd ρ' w'.h w'.n wd'∧CsTo cx.df cs cs'∧
    Done P (lone (b.atR a (.inRegion ops (i::rest)::k)) cs wd) b a' cs' wd' ρ' o ops i rest k out
end
section
variable {P:Program} {ng:Nat}
theorem In.in0{ρ : Inj}{base:Nat}{w0:World}{b:Frame}{a:Act}{wd:World}{cs:List Frame}{cx:Cx}{t:Fr}{w:W}(h:In P ng ρ base w0 b a wd cs cx t w):In0 P ng ρ base w0 b a wd cs cx w:=
 ⟨h.fn,h.kind,h.rd,h.rdf,h.hp,h.dr,h.ur,h.fnd⟩
theorem In0.next{ρ ρ':Inj}{base:Nat}{w0:World}{b:Frame}{a:Act}{wd wd':World}{cs:List Frame}{cx:Cx}{w w':W}(h:In0 P ng ρ base w0 b a wd cs cx w)(hd:w'.d=w.d)(hu:w'.u=w.u)
(hp:HeapR P ng ρ' base w0 w'.h w'.n wd')(hg:Grow ρ w.h w.n wd ρ' w'.h w'.n wd'):In0 P ng ρ' base w0 b a wd' cs cx w':=
 have hle:=hg.le h.hp.dom
 ⟨h.fn,h.kind,h.rd.mono hle,h.rdf,hp,by rw[hd];exact h.dr.mono hle,by rw[hu];exact h.ur.mono hle,h.fnd⟩
theorem step_res{b:Frame}{a:Act}{cs:List Frame}{wd wd':World}{o:Oper}{ops:Array Oper}{i:Nat}{rest:List Nat}{k:List Item}{v':Value}(hnd:∀c,o.op≠.defer c)(ho:ops[i]? = some o)
(hw:Region.wanted o (yielded ops a.tmps)=true)(hr:Res ((execOp a.eval o).run P wd) v' wd') :
 step P (lone (b.atR a (.inRegion ops (i::rest)::k)) cs wd) = .next (lone (b.atR (a.put o.dst v') (.inRegion ops rest::k)) cs wd'):=by
 refine step_lone_go ?_;rw [stepGR_op ho hw,Oper.semAt_eq _ _ _ hnd]
 have hf:(b.atR a (.inRegion ops (i::rest)::k)).finish v'=b.atR (a.put o.dst v') (.inRegion ops rest::k):=by
  rw[Frame.finish_atR,ho];rfl
 rcases hr with hr|⟨hr,rfl⟩
 · rw[← hf];simp [stepG.apply,hr]
 · rw[← hf];simp [stepG.apply,hr]
theorem uJ{o:Oper}{cx:Cx}{t:Fr}{w w':W}{v:Value}(hnd:∀c,o.op≠.defer c)(h:EffVal P ng o t w v w'):OpTo P ng o cx t w (.ret v) w':=by
 intro ρ base w0 b a wd cs hI hO ops i rest k ho hw;obtain⟨ρ',v',wd',h1,h2,h3,h4⟩:=h.2.2 ρ base w0 a wd hO hI.hp;exact⟨ρ',a,wd',cs,hI.next h.1 h.2.1 h3 h4,rfl,h4,CsTo.refl _ _,v',h2,.one (step_res hnd ho hw h1)⟩
theorem step_push{b:Frame}{a:Act}{cs:List Frame}{wd:World}{o:Oper}{ops:Array Oper}{i:Nat}{rest:List Nat}{k:List Item}{nx:Next}{fr:Frame}(hnd:∀c,o.op≠.defer c)(ho:ops[i]? = some o)
(hw:Region.wanted o (yielded ops a.tmps)=true)(hr:(execOp a.eval o).run P wd = .ok nx wd)(hp:pushed P nx=some fr) :
 step P (lone (b.atR a (.inRegion ops (i::rest)::k)) cs wd) = .next (lone fr (b.atR a (.inRegion ops (i::rest)::k)::cs) wd):=by
 refine step_lone_go ?_;rw [stepGR_op ho hw,Oper.semAt_eq _ _ _ hnd];cases nx <;> simp only[pushed]at hp <;> first|(cases hp;done)|skip
 all_goals
  injection hp with hp
  subst hp;simp [stepG.apply,hr,Frame.atR]
theorem step_recover{b:Frame}{a:Act}{cs:List Frame}{wd:World}{o:Oper}{ops:Array Oper}{i:Nat}{rest:List Nat}{k:List Item}(hnd:∀c,o.op≠.defer c)(ho:ops[i]? = some o)
(hw:Region.wanted o (yielded ops a.tmps)=true)(hro:b.roundOf=none)(hr:(execOp a.eval o).run P wd = .ok .recover wd) :
 (∀{v cs'},tryRecover (b.atR a (.inRegion ops (i::rest)::k)) cs=some (v,cs')→step P (lone (b.atR a (.inRegion ops (i::rest)::k)) cs wd) = .next (lone (b.atR (a.put o.dst v) (.inRegion ops rest::k)) cs' wd))∧
 (tryRecover (b.atR a (.inRegion ops (i::rest)::k)) cs=none→step P (lone (b.atR a (.inRegion ops (i::rest)::k)) cs wd) = .next (lone (b.atR (a.put o.dst .nilIface) (.inRegion ops rest::k)) cs wd)):=by
 have hf:∀v',(b.atR a (.inRegion ops (i::rest)::k)).finish v'=b.atR (a.put o.dst v') (.inRegion ops rest::k):=by
  intro v';rw [Frame.finish_atR,ho];rfl
 have hro':(b.atR a (.inRegion ops (i::rest)::k)).roundOf=none:=hro;refine⟨fun {v cs'} ht=>step_lone_go ?_,fun ht=>step_lone_go ?_⟩
 · rw[stepGR_op ho hw,Oper.semAt_eq _ _ _ hnd,← hf];generalize b.atR a (.inRegion ops (i::rest)::k)=fr at ht hro' ⊢
   simp only[stepG.apply,Sem.runT_eq,hr,if_true,GStep.bare_after,hro',ht,GStep.bare_go]
 · rw[stepGR_op ho hw,Oper.semAt_eq _ _ _ hnd,← hf];generalize b.atR a (.inRegion ops (i::rest)::k)=fr at ht hro' ⊢
   simp only[stepG.apply,Sem.runT_eq,hr,if_true,GStep.bare_after,hro',ht,GStep.bare_go]
theorem OpsR.list{ρ : Inj}{t:Fr}{a:Act}{o:Oper}(h:OpsR ρ t a o){l:List Operand}(hl:∀x∈l,x∈o.op.operands.toList):RVs ρ (l.map (ev t)) (l.map a.eval):=
 RVs.map (ρ := ρ) (ev t) a.eval l fun x hx=>h x (hl x hx)
theorem eff_ok{lo:Lo}(hP:zP ng P=true)(hS:Sound P ng lo){o:Oper}{cx:Cx}{t:Fr}{w:W}{k:KV}{kp:KP}(hx:eff o.op P lo cx t w k kp=true) :
 ∃out w',(Out.rec (motive:=fun _=>Bool) (fun v=>k w' v) (fun c=>kp c w') out)=true∧OpTo P ng o cx t w out w':=by
 have nv:(∃v ob,NewVal P ng o t v ob∧k (W.mk w.d w.u (w.h.set .dead ob w.n) (w.n+1)) (v w.n)=true)→(∀c,o.op≠.defer c)→
  ∃out w',(Out.rec (motive:=fun _=>Bool) (fun v=>k w' v) (fun c=>kp c w') out)=true∧OpTo P ng o cx t w out w':=by
  rintro ⟨v,ob,h1,h2⟩ hnd
  exact⟨.ret (v w.n),_,h2,uJ hnd h1.eff⟩
 have evl:(∃w' v,EffVal P ng o t w v w'∧k w' v=true)→(∀c,o.op≠.defer c)→
  ∃out w',(Out.rec (motive:=fun _=>Bool) (fun v=>k w' v) (fun c=>kp c w') out)=true∧OpTo P ng o cx t w out w':=by
  rintro ⟨w',v,h1,h2⟩ hnd
  exact⟨.ret v,w',h2,uJ hnd h1⟩
 cases hop:o.op with
 | alloc el=>exact nv (alloc_ok hP hop hx) (by rw[hop];exact fun _=>Op.noConfusion)
 | box el x=>exact nv (box_ok hop hx) (by rw[hop];exact fun _=>Op.noConfusion)
 | buildSlice ty len parts=>exact nv (buildSlice_ok hP hop hx) (by rw[hop];exact fun _=>Op.noConfusion)
 | insert ty m key v=>exact evl (mapUpdate_ok (.inr hop) hx) (by rw[hop];exact fun _=>Op.noConfusion)
 | store ty x v=>exact evl (store_ok hop hx) (by rw[hop];exact fun _=>Op.noConfusion)
 | makeMap ty r=>exact nv (makeMap_ok hop hx) (by rw[hop];exact fun _=>Op.noConfusion)
 | makeSlice ty l c=>exact nv (makeSlice_ok hP hop hx) (by rw[hop];exact fun _=>Op.noConfusion)
 | mapUpdate ty m key v=>exact evl (mapUpdate_ok (.inl hop) hx) (by rw[hop];exact fun _=>Op.noConfusion)
 | range ty x=>exact evl (range_ok hop hx) (by rw[hop];exact fun _=>Op.noConfusion)
 | next x s=>exact evl (next_ok hop hx) (by rw[hop];exact fun _=>Op.noConfusion)
 | entry x=>exact evl (entry_ok hop hx) (by rw[hop];exact fun _=>Op.noConfusion)
 | panic x =>
  rw[hop]at hx
  have hx':(match ev t x with
   | .iface ty v=>kp [⟨.iface ty v,false,false⟩] w
   | _=>false)=true:=hx
  split at hx'
  case h_2=>cases hx'
  rename_i ty v hv;refine⟨.panic _,w,hx',fun ρ base w0 b a wd cs hI hO ops i rest k ho hw=>?_⟩;have hr:=hO x (by rw[hop];simp [Op.operands]);rw [hv]at hr;generalize hz:a.eval x=x' at hr
  cases hr with
  | iface hv'=>
   rename_i v';refine⟨ρ,a,wd,cs,hI,rfl,Grow.refl _ _ _ _ hI.hp.dom,CsTo.refl _ _,[⟨.iface ty v',false,false⟩],.cons (RV.iface hv') rfl rfl .nil,.one (step_lone_go ?_)⟩;rw [stepGR_op ho hw,Oper.semAt_eq _ _ _ (by rw[hop];exact fun _=>Op.noConfusion),← Frame.raise_atR];have hrun:(execOp a.eval o).run P wd = .halt (.panic (.iface ty v')) wd:=by simp[execOp,hop,hz,Instr.panic]
   simp[stepG.apply,hrun]
 | defer c =>
  rw[hop]at hx;obtain⟨callee,args,tys⟩:=c;obtain⟨fn,rd,df⟩:=cx;obtain⟨d,u,h,n⟩:=w
  cases callee with
  | builtin _=>exact(Bool.false_ne_true hx).elim
  | invoke _ _=>exact(Bool.false_ne_true hx).elim
  | value f =>
   cases rd with
   | some _=>exact(Bool.false_ne_true hx).elim
   | none =>
    have hx':(match ev t f with
     | .func (.func g) first cap=>k ⟨{ target:=.fn (.func g) cap,args:=⟨first.toList++args.toList.map (ev t)⟩ }::d,u,h,n⟩ undef
     | _=>false)=true:=hx
    split at hx'
    case h_2=>cases hx'
    rename_i g first cap hv;refine⟨.ret undef,_,hx',fun ρ base w0 b a wd cs hI hO ops i rest k ho hw=>?_⟩;have hr:=hO f (by rw[hop];simp [Op.operands,Call.operands]);have hargs:RVs ρ (args.toList.map (ev t)) (args.toList.map a.eval):=hO.list fun x hx=>by rw[hop];simp [Op.operands,Call.operands,hx]
    rw[hv]at hr;generalize hz:a.eval f=f' at hr
    have hro:b.roundOf=none:=by
     have:=hI.rd
     cases hb:b.roundOf with
     | none=>rfl
     | some l=>rw [hb]at this;exact this.elim
    cases hr with
    | func hy hfl hcl f1 c1 =>
     rename_i first' cap'
     refine⟨ρ,{ tmps:=a.tmps,defers:=⟨.fn (.func g) cap',⟨first'.toList++args.toList.map a.eval⟩⟩::a.defers },wd,cs,
      ⟨hI.fn,hI.kind,hI.rd,hI.rdf,hI.hp,.fn ⟨hcl,c1⟩ (RVs.append ⟨hfl,f1⟩ hargs) hI.dr,hI.ur,hI.fnd⟩,rfl,Grow.refl _ _ _ _ hI.hp.dom,CsTo.refl _ _,undef,RV.undef ρ,.one (step_lone_go ?_)⟩
     rw[stepGR_op ho hw,hro,Oper.semAt_none];have earr:(first'++args.map a.eval:Array Value)=⟨first'.toList++args.toList.map a.eval⟩:=by apply Array.toList_inj.1;simp
     have hrun:(execOp a.eval o).run P wd = .ok (.defer ⟨.fn (.func g) cap',⟨first'.toList++args.toList.map a.eval⟩⟩) wd:=by
      rw[← earr];simp [execOp,hop,resolve,hz,Deferred.ofValue]
     have hf:({ b.atR a (.inRegion ops (i::rest)::k) with defers:=⟨.fn (.func g) cap',⟨first'.toList++args.toList.map a.eval⟩⟩::a.defers }:Frame).finish undef =
      b.atR (Act.put { tmps:=a.tmps,defers:=⟨.fn (.func g) cap',⟨first'.toList++args.toList.map a.eval⟩⟩::a.defers } o.dst undef) (.inRegion ops rest::k):=by
      have:=Frame.finish_atR b { tmps:=a.tmps,defers:=⟨.fn (.func g) cap',⟨first'.toList++args.toList.map a.eval⟩⟩::a.defers } ops i rest k undef;rw [ho]at this;exact this
     rw[← hf];simp [stepG.apply,hrun,Frame.atR]
 | call c =>
  have hnd:∀c,o.op≠.defer c:=by rw[hop];exact fun _=>Op.noConfusion
  rw[hop]at hx;obtain⟨callee,args,tys⟩:=c
  cases callee with
  | invoke _ _=>exact(Bool.false_ne_true hx).elim
  | value f =>
   have hx':(yG w fun h n mk=>xinvoke lo (ev t f) (args.toList.map (ev t)) h n (fun v h n=>k (mk h n) v) (fun c h n=>kp c (mk h n)))=true:=hx;rw [yH]at hx';obtain⟨out,h',n',hk,hc⟩:=xinvoke_ok hS hx';refine⟨out,W.mk w.d w.u h' n',by cases out <;> exact hk,fun ρ base w0 b a wd cs hI hO ops i rest k ho hw=>?_⟩;have hr:=hO f (by rw[hop];simp [Op.operands,Call.operands]);have hargs:RVs ρ (args.toList.map (ev t)) (args.toList.map a.eval):=hO.list fun x hx=>by rw[hop];simp [Op.operands,Call.operands,hx]
   obtain⟨dd,nx,fr,r1,r2,r3,r4⟩:=hc ρ base w0 wd (a.eval f) (args.toList.map a.eval) hI.hp hr hargs;obtain⟨ρ',wd',s1,s2,s3⟩:=r4 (b.atR a (.inRegion ops (i::rest)::k)) cs;have earr:(args.map a.eval:Array Value)=⟨args.toList.map a.eval⟩:=arr_map _ _
   have hrun:(execOp a.eval o).run P wd = .ok nx wd:=by
    simp only[execOp,hop,resolve,Sem.run_bind,earr];rw [r1,Result.andThen_ok,r2]
   have st:=step_push (b:=b) (cs:=cs) (rest:=rest) (k:=k) hnd ho hw hrun r3;refine⟨ρ',a,wd',cs,hI.next rfl rfl s1 s2,rfl,s2,CsTo.refl _ _,?_⟩
   cases out with
   | ret v =>
    obtain⟨v',y1,y2⟩:=s3;refine⟨v',y1,Steps.head st ?_⟩
    have hf:(b.atR a (.inRegion ops (i::rest)::k)).finish v'=b.atR (a.put o.dst v') (.inRegion ops rest::k):=by
     rw[Frame.finish_atR,ho];rfl
    rw[← hf];exact y2
   | panic c=>
    obtain⟨c',y1,y2⟩:=s3;refine⟨c',y1,Steps.head st ?_⟩;rw [← Frame.raise_atR];exact y2
  | builtin bi =>
   have hx':builtinK P cx bi tys.toList (args.toList.map (ev t)) w k=true:=hx;obtain⟨d,u,h,n⟩:=w
   have hrunB:∀(a:Act) (wd wd':World) (v':Value) (s:Sem Value),(∀q,builtin bi tys o.type q (args.map a.eval)=(do pure (Next.value (← s))))→s.run P wd = .ok v' wd'→(execOp a.eval o).run P wd = .ok (.value v') wd':=by
    intro a wd wd' v' s e1 e2;simp only[execOp,hop,Sem.run_bind,vM,Result.andThen_ok,invoke];rw [e1,Sem.run_bind,e2];rfl
   have hargs:∀{ρ : Inj} {a:Act},OpsR ρ t a o→RVs ρ (args.toList.map (ev t)) (args.toList.map a.eval):=fun hO=>hO.list fun x hx=>by rw[hop];simp [Op.operands,Call.operands,hx]
   have earr:∀a:Act,(args.map a.eval:Array Value)=⟨args.toList.map a.eval⟩:=fun a=>arr_map _ _;unfold builtinK at hx';dsimp only at hx';split at hx'
   ·
    obtain⟨v,h',n',hk,hc⟩:=xappend_ok (ng:=ng) (rt:=o.type) hP hx';refine⟨.ret v,_,hk,uJ hnd ⟨rfl,rfl,fun ρ base w0 a wd hO hH=>?_⟩⟩;obtain⟨ρ',v',wd',r1,r2,r3,r4⟩:=hc ρ base w0 wd _ hH (hargs hO);exact⟨ρ',v',wd',.inl (hrunB a wd wd' v' _ (fun q=>by rw[earr a];rfl) r1),r2,r3,r4⟩
   ·
    obtain⟨h',hk,hc⟩:=xclear_ok (ng:=ng) (rt:=o.type) hP hx';refine⟨.ret (.tuple #[]),_,hk,uJ hnd ⟨rfl,rfl,fun ρ base w0 a wd hO hH=>?_⟩⟩;obtain⟨wd',r1,r2,r3⟩:=hc n ρ base w0 wd _ hH (hargs hO);exact⟨ρ,.tuple #[],wd',.inl (hrunB a wd wd' _ _ (fun q=>by rw[earr a];rfl) r1),RV.undef ρ,r2,r3⟩
   ·
    obtain⟨h',hk,hc⟩:=xdelete_ok (ng:=ng) (rt:=o.type) hx';refine⟨.ret (.tuple #[]),_,hk,uJ hnd ⟨rfl,rfl,fun ρ base w0 a wd hO hH=>?_⟩⟩;obtain⟨wd',r1,r2,r3⟩:=hc n ρ base w0 wd _ hH (hargs hO);exact⟨ρ,.tuple #[],wd',.inl (hrunB a wd wd' _ _ (fun q=>by rw[earr a];rfl) r1),RV.undef ρ,r2,r3⟩
   ·
    have hrun:∀(a:Act) (wd:World),(execOp a.eval o).run P wd = .ok .recover wd:=by
     intro a wd;simp only[execOp,hop,Sem.run_bind,vM,Result.andThen_ok,invoke];rfl
    obtain⟨fn,rd,df⟩:=cx
    cases rd with
    | some _=>cases hx'
    | none =>
     have hro:∀{b:Frame} {ρ : Inj},RdR ρ none b.roundOf→b.roundOf=none:=by
      intro b ρ h
      cases hb:b.roundOf with
      | none=>rfl
      | some l=>rw [hb]at h;exact h.elim
     cases df with
     | false=>
      refine⟨.ret .nilIface,_,hx',fun ρ base w0 b a wd cs hI hO ops i rest k ho hw=>?_⟩;refine⟨ρ,a,wd,cs,hI,rfl,Grow.refl _ _ _ _ hI.hp.dom,CsTo.refl _ _,.nilIface,RV.nilIface,.one ?_⟩;refine(step_recover hnd ho hw (hro hI.rd) (hrun a wd)).2 ?_;have:(b.atR a (.inRegion ops (i::rest)::k)).kind = .normal:=hI.kind;unfold tryRecover;simp only[this]
     | true=>
      dsimp only[cond]at hx';split at hx'
      · rename_i v older;refine⟨.ret v,_,hx',fun ρ base w0 b a wd cs hI hO ops i rest k ho hw=>?_⟩;obtain⟨c0,r,rfl,c',hm,hc⟩:=hI.ur rfl
        cases hc with
        | cons hv hrec hgo hl =>
         rename_i e' l';obtain⟨v',r',g'⟩:=e';dsimp only at hrec hgo hv;subst hrec hgo
         refine⟨ρ,a,wd,{ c0 with mode:=.panicking (⟨v',true,false⟩::l') }::r,⟨hI.fn,hI.kind,hI.rd,hI.rdf,hI.hp,hI.dr,fun _=>⟨_,_,rfl,_,rfl,.cons hv rfl rfl hl⟩,hI.fnd⟩,rfl,
          Grow.refl _ _ _ _ hI.hp.dom,.inr ⟨rfl,c0,r,_,rfl,rfl⟩,v',hv,.one ?_⟩
         refine(step_recover hnd ho hw (hro hI.rd) (hrun a wd)).1 ?_;have:(b.atR a (.inRegion ops (i::rest)::k)).kind = .deferred:=hI.kind;unfold tryRecover;simp only[this,hm]
      · refine⟨.ret .nilIface,_,hx',fun ρ base w0 b a wd cs hI hO ops i rest k ho hw=>?_⟩;refine⟨ρ,a,wd,cs,hI,rfl,Grow.refl _ _ _ _ hI.hp.dom,CsTo.refl _ _,.nilIface,RV.nilIface,.one ?_⟩;refine(step_recover hnd ho hw (hro hI.rd) (hrun a wd)).2 ?_;obtain⟨c0,r,rfl,hm⟩:=hI.ur rfl;have hm:c0.mode = .returning:=hm;have:(b.atR a (.inRegion ops (i::rest)::k)).kind = .deferred:=hI.kind;unfold tryRecover;simp only[this,hm]
      · cases hx'
   · cases hx'
 | _=>rw [hop]at hx;exact(Bool.false_ne_true hx).elim
end
section
variable {P:Program} {ng:Nat}
def boolOf:Value→Option Bool
 | .bool b=>some b
 | _=>none
theorem RV.boolOf{ρ : Inj}{v v':Value}(h:RV ρ v v'):boolOf v'=boolOf v:=by cases h <;> rfl
theorem wants_eq(ops:Array Oper)(t:Fr)(g:Nat)(b:Bool):wants ops t g b=((dstOf ops g).bind (fun d=>boolOf (fget t d)) == some b):=by
 unfold wants
 cases dstOf ops g with
 | none=>rfl
 | some d=>
  show onBool (fget t d) (fun z=>Bool.rec (Bool.rec true false b) b z) false=(boolOf (fget t d) == some b)
  cases fget t d with
  | bool z=>cases z <;> cases b <;> rfl
  | _=>rfl
theorem wanted_ok{ops:Array Oper}{t:Fr}{tmps:Array Value}{o:Oper}(h:∀g b,o.guard=some (g,b)→∀d,dstOf ops g=some d→∃v,tmps[d]? = some v∧boolOf v=boolOf (fget t d)) :
 Region.wanted o (yielded ops tmps)=wanted ops t o.guard:=by
 unfold Region.wanted wanted
 cases hg:o.guard with
 | none=>rfl
 | some p =>
  obtain⟨g,b⟩:=p;show(yielded ops tmps g == some b)=wants ops t g b;rw [wants_eq];unfold yielded dstOf at *
  cases ho:ops[g]? with
  | none=>rfl
  | some og =>
   cases hd:og.dst with
   | none=>simp [hd]
   | some d=>
    obtain⟨v,h1,h2⟩:=h g b hg d (by rw[ho];exact hd);simp only[Option.bind_some,hd,h1];rw [← h2];cases v <;> rfl
noncomputable def putF(t:Fr)(dst:Option Tmp)(v:Value):Fr:=match dst with|some d=>Tr.set undef v t d|none=>t
theorem uK{t:Fr}{dst:Option Tmp}{v:Value}{k:Fr→Bool}(h:putT t dst v k=true):k (putF t dst v)=true:=by
 cases dst with
 | none=>exact h
 | some d=>
  have h':fsetK t d v k=true:=h;unfold fsetK at h';rw [Tr.setK_eq]at h';exact h'
theorem In0.act{ρ : Inj}{base:Nat}{w0:World}{b:Frame}{a a2:Act}{wd:World}{cs:List Frame}{cx:Cx}{w:W}(h:In0 P ng ρ base w0 b a wd cs cx w)(hd:a2.defers=a.defers):In0 P ng ρ base w0 b a2 wd cs cx w:=
 ⟨h.fn,h.kind,h.rd,h.rdf,h.hp,by rw[hd];exact h.dr,h.ur,h.fnd⟩
theorem put_defers(a:Act)(dst:Option Tmp)(v:Value):(a.put dst v).defers=a.defers:=by cases dst <;> rfl
theorem TmR.putF{ρ : Inj}{N:Nat}{t:Fr}{a:Act}(h:TmR ρ N t a.tmps){v v':Value}(hv:RV ρ v v')(dst:Option Tmp):TmR ρ N (putF t dst v) (a.put dst v').tmps:=by
 cases dst with
 | none=>exact h
 | some d=>exact h.put hv d
theorem In0.toIn{ρ : Inj}{base:Nat}{w0:World}{b:Frame}{a:Act}{wd:World}{cs:List Frame}{cx:Cx}{t:Fr}{w:W}(h:In0 P ng ρ base w0 b a wd cs cx w)(ht:TmR ρ (ntm P cx.fn) t a.tmps):In P ng ρ base w0 b a wd cs cx t w:=
 ⟨h.fn,h.kind,h.rd,h.rdf,ht,h.hp,h.dr,h.ur,h.fnd⟩
theorem skip_put{ops:Array Oper}{b:Frame}{a:Act}{cs:List Frame}{wd:World}{i:Nat}{rest:List Nat}{k:List Item}{o:Oper}(ho:ops[i]? = some o)(hw:Region.wanted o (yielded ops a.tmps)=false) :
 step P (lone (b.atR a (.inRegion ops (i::rest)::k)) cs wd) = .next (lone (b.atR (a.put o.dst undef) (.inRegion ops rest::k)) cs wd):=by
 have:=stepR_op_skip (P:=P) (b:=b) (a:=a) (k:=k) (cs:=cs) (w:=wd) (ops:=ops) (i:=i) (rest:=rest) (by simp[ho,hw]);rw [ho]at this;exact this
theorem one_ok{lo:Lo}(hP:zP ng P=true)(hS:Sound P ng lo){all:Array Oper}{o:Oper}{cx:Cx}{t:Fr}{w:W}{kv:KV}{kp:KP}(hm:o∈all.toList)
(hx:(Bool.rec (kv w undef) (Option.rec (eff o.op P lo cx t w kv kp) (kv w) (vY o.op P t w.h)) (wanted all t o.guard):Bool)=true) :
 ∃out w',(Out.rec (motive:=fun _=>Bool) (fun v=>kv w' v) (fun c=>kp c w') out)=true∧
  ∀(_hc:∀o∈all.toList,vJ ng (ntm P cx.fn) o=true) (ρ : Inj) (base:Nat) (w0:World) (b:Frame) (a:Act) (wd:World) (cs:List Frame),In P ng ρ base w0 b a wd cs cx t w→∀(i:Nat) (rest:List Nat) (k:List Item),all[i]? = some o→
   ∃ρ' a' wd' cs',In0 P ng ρ' base w0 b a' wd' cs' cx w'∧a'.tmps=a.tmps∧Grow ρ w.h w.n wd ρ' w'.h w'.n wd'∧CsTo cx.df cs cs'∧
    Done P (lone (b.atR a (.inRegion all (i::rest)::k)) cs wd) b a' cs' wd' ρ' o all i rest k out:=by
 have hops:∀(hc:∀o∈all.toList,vJ ng (ntm P cx.fn) o=true) {ρ : Inj} {base:Nat} {w0:World} {b:Frame} {a:Act} {wd:World} {cs:List Frame},In P ng ρ base w0 b a wd cs cx t w→OpsR ρ t a o:=by
  intro hc ρ base w0 b a wd cs hI x hx;exact ev_rv hI.hp hI.tm (List.all_eq_true.1 (Bool.and_eq_true_iff.1 (hc o hm)).1 x hx)
 have hwant:∀(hc:∀o∈all.toList,vJ ng (ntm P cx.fn) o=true) {ρ : Inj} {base:Nat} {w0:World} {b:Frame} {a:Act} {wd:World} {cs:List Frame},In P ng ρ base w0 b a wd cs cx t w→Region.wanted o (yielded all a.tmps)=wanted all t o.guard:=by
  intro hc ρ base w0 b a wd cs hI;refine wanted_ok fun g q _ d hd=>?_
  have hlt:d<ntm P cx.fn:=by
   unfold dstOf at hd
   cases ho:all[g]? with
   | none=>rw [ho]at hd;cases hd
   | some og=>
    rw[ho]at hd;have hmem:og∈all.toList:=by rw[← Array.getElem?_toList]at ho;exact List.mem_iff_getElem?.2 ⟨g,ho⟩
    have:=(Bool.and_eq_true_iff.1 (hc og hmem)).2;dsimp only at hd;rw [hd]at this;exact zR this
  have hlt2:d<a.tmps.size:=Nat.lt_of_lt_of_le hlt hI.tm.le;exact⟨a.tmps[d],Array.getElem?_eq_getElem hlt2,(hI.tm.tm d _ (Array.getElem?_eq_getElem hlt2)).boolOf⟩
 cases hw:wanted all t o.guard with
 | false=>
  rw[hw]at hx;refine⟨.ret undef,w,hx,fun hc ρ base w0 b a wd cs hI i rest k ho=>?_⟩;exact⟨ρ,a,wd,cs,hI.in0,rfl,Grow.refl _ _ _ _ hI.hp.dom,CsTo.refl _ _,undef,RV.undef ρ,.one (skip_put ho ((hwant hc hI).trans hw))⟩
 | true =>
  rw[hw]at hx
  have fin:∀{out w'},OpTo P ng o cx t w out w'→∀(hc:∀o∈all.toList,vJ ng (ntm P cx.fn) o=true) (ρ : Inj) (base:Nat) (w0:World) (b:Frame) (a:Act) (wd:World) (cs:List Frame),In P ng ρ base w0 b a wd cs cx t w→∀(i:Nat) (rest:List Nat) (k:List Item),all[i]? = some o→
   ∃ρ' a' wd' cs',In0 P ng ρ' base w0 b a' wd' cs' cx w'∧a'.tmps=a.tmps∧Grow ρ w.h w.n wd ρ' w'.h w'.n wd'∧CsTo cx.df cs cs'∧
    Done P (lone (b.atR a (.inRegion all (i::rest)::k)) cs wd) b a' cs' wd' ρ' o all i rest k out:=
   fun h hc ρ base w0 b a wd cs hI i rest k ho=>h ρ base w0 b a wd cs hI.in0 (hops hc hI) all i rest k ho ((hwant hc hI).trans hw)
  cases hq:vY o.op P t w.h with
  | some v=>
   rw[hq]at hx;refine⟨.ret v,w,hx,fin (uJ ?_ (effVal_quiet hP hq))⟩;intro c e;rw [e]at hq;cases hq
  | none=>
   rw[hq]at hx;obtain⟨out,w',hk,ho⟩:=eff_ok hP hS hx;exact⟨out,w',hk,fin ho⟩
theorem xops_ok{lo:Lo}(hP:zP ng P=true)(hS:Sound P ng lo){all:Array Oper}{cx:Cx}:∀(l:List Oper) (t:Fr) (w:W) (k:KX),(∀o∈l,o∈all.toList)→xops P lo cx all l t w k=true→
 ∃x t' w',k x t' w'=true∧((∀o∈all.toList,vJ ng (ntm P cx.fn) o=true)→∀(is:List Nat),is.length=l.length→(∀(j i:Nat),is[j]? = some i→all[i]? = l[j]?)→∀(b:Frame) (kk:List Item),
  Leads P ng b (.inRegion all is::kk) kk cx t w x t' w'):=by
 intro l
 induction l with
 | nil=>
  intro t w k _ hx;refine⟨.normal,t,w,hx,fun _ is hl _ b kk=>?_⟩;have:is=[]:=List.length_eq_zero_iff.1 hl;subst this;exact zO (fun _ _ _=>stepR_region_end) (uI b kk cx t w)
 | cons o l ih =>
  intro t w k hmem hx;obtain⟨out,w1,hk,h1⟩:=one_ok (o:=o) (all:=all) (kv:=fun w v=>putT t o.dst v fun t=>xops P lo cx all l t w k) (kp:=fun c w=>k (.panic c) t w) hP hS (hmem o (by simp)) hx
  have head:∀{is:List Nat},is.length=(o::l).length→(∀(j i:Nat),is[j]? = some i→all[i]? = (o::l)[j]?)→∃i is',is=i::is'∧all[i]? = some o∧is'.length=l.length∧(∀(j i:Nat),is'[j]? = some i→all[i]? = l[j]?):=by
   intro is hl hi
   cases is with
   | nil=>simp at hl
   | cons i is'=>exact⟨i,is',rfl,by simpa using hi 0 i rfl,by simpa using hl,fun j i2 h=>by simpa using hi (j+1) i2 (by simpa using h)⟩
  cases out with
  | panic c=>
   refine⟨.panic c,t,w1,hk,fun hc is hl hi b kk ρ base w0 a wd cs hI=>?_⟩;obtain⟨i,is',rfl,ho,_,_⟩:=head hl hi;obtain⟨ρ',a',wd',cs',i1,i2,i3,i4,c',i5,i6⟩:=h1 hc ρ base w0 b a wd cs hI i is' kk ho;exact⟨ρ',a',wd',cs',i1.toIn (by rw[i2];exact hI.tm.mono (i3.le hI.hp.dom)),i3,i4,_,c',i5,i6⟩
  | ret v=>
   have hk':=uK hk;obtain⟨x,t',w',hk2,h2⟩:=ih (putF t o.dst v) w1 k (fun q hq=>hmem q (by simp[hq])) hk';refine⟨x,t',w',hk2,fun hc is hl hi b kk ρ base w0 a wd cs hI=>?_⟩;obtain⟨i,is',rfl,ho,hl',hi'⟩:=head hl hi;obtain⟨ρ',a',wd',cs',i1,i2,i3,i4,v',i5,i6⟩:=h1 hc ρ base w0 b a wd cs hI i is' kk ho;have htm:TmR ρ' (ntm P cx.fn) t a'.tmps:=by rw[i2];exact hI.tm.mono (i3.le hI.hp.dom)
   obtain⟨ρ2,a2,wd2,cs2,g1,g2,g3,g4⟩:=h2 hc is' hl' hi' b kk ρ' base w0 (a'.put o.dst v') wd' cs' ((i1.act (put_defers a' o.dst v')).toIn (htm.putF i5 o.dst));exact⟨ρ2,a2,wd2,cs2,g1,i3.trans g2,i4.trans g3,g4.of_steps i6⟩
theorem region_ok{lo:Lo}(hP:zP ng P=true)(hS:Sound P ng lo)(id:Nat)(ops:Array Oper)(cx:Cx)(t:Fr)(w:W)(k:KX)(hx:xcode P lo (.region id ops false) cx t w k=true) :
 ∃x t' w',k x t' w'=true∧wX P ng (.region id ops false) cx t w x t' w':=by
 have hx':xops P lo cx ops ops.toList t w k=true:=hx;obtain⟨x,t',w',hk,h⟩:=xops_ok hP hS ops.toList t w k (fun _ h=>h) hx';refine⟨x,t',w',hk,fun hc b kk=>zO (fun _ _ _=>stepR_region) (h ?_ (List.range ops.size) (by simp) ?_ b kk)⟩
 · exact List.all_eq_true.1 hc
 · intro j i hj
   have:i=j:=by
    by_cases h9:j<ops.size
    · rw[List.getElem?_range h9]at hj;injection hj with hj;exact hj.symm
    · rw[List.getElem?_eq_none (by simpa using h9)]at hj;cases hj
   subst this;rw [Array.getElem?_toList]
end
section
variable {P:Program} {ng:Nat}
def DrawOK(P:Program)(ng:Nat):Prop:=
 ∀lo,Sound P ng lo→∀id ops cx t w k,xcode P lo (.region id ops true) cx t w k=true→∃x t' w',k x t' w'=true∧wX P ng (.region id ops true) cx t w x t' w'
theorem sound_next(hD:DrawOK P ng)(hP:zP ng P=true){lo:Lo}(hS:Sound P ng lo):Sound P ng (Lo.next P lo) where
 code c cx t w k h:=xcode_ok hS (fun id ops draw cx t w k h=>by
  cases draw with
  | true=>exact hD lo hS id ops cx t w k h
  | false=>exact region_ok hP hS id ops cx t w k h) (fun f params asg body cx t w k h=>xrangeFunc_ok hS f params asg body cx t w k h) c cx t w k h
 call _ _ _ _ _ _ _ h:=xcall_ok hP hS h
 round _ _ _ _ _ h:=xround_ok hP hS h
 leave _ _ _ _ _ h:=xleave_ok hP hS h
theorem sound_run(hD:DrawOK P ng)(hP:zP ng P=true):∀fuel,Sound P ng (run P fuel):=by
 intro fuel
 induction fuel with
 | zero=>exact sound_bot
 | succ n ih=>exact sound_next hD hP ih
def EndR(ρ : Inj):Out→Ending→Prop
 | .ret v,.returned v'=>RV ρ v v'
 | .panic c,.panicked c'=>ChR ρ c c'
 | _,_=>False
theorem calls_of{lo:Lo}(hS:Sound P ng lo){f:FuncId}{args:List Value}{h:zI}{n:Nat}{fin:KO}(hx:lo.call f args false none h n fin=true) :
 ∃o u' h' n',fin o u' h' n'=true∧∀(ρ : Inj) (base:Nat) (w0 w:World) (args':List Value),HeapR P ng ρ base w0 h n w→RVs ρ args args'→
  Calls P f ⟨args'⟩ w fun e w'=>∃ρ',HeapR P ng ρ' base w0 h' n' w'∧Grow ρ h n w ρ' h' n' w'∧EndR ρ' o e:=by
 obtain⟨o,u',h',n',hk,_,hc⟩:=hS.call _ _ _ _ _ _ _ hx;refine⟨o,u',h',n',hk,fun ρ base w0 w args' hH ha cs=>?_⟩;obtain⟨ρ',wd',fr,cs',s1,s2,s3,s4,s5,s6,s7⟩:=hc ρ base w0 w args' cs hH ha (fun e=>by cases e)
 have hcs:cs'=cs:=by
  rcases s4 with e|⟨e,_⟩
  · exact e
  · cases e
 subst hcs
 cases o with
 | ret v=>
  obtain⟨v',y1,y2,y3,y4,y5⟩:=s7;exact⟨.returned v',wd',fr,⟨ρ',s2,s3,y5⟩,s1,s6,y1,y2,y3,y4⟩
 | panic c=>
  obtain⟨c',y1,y2,y3,y4⟩:=s7;exact⟨.panicked c',wd',fr,⟨ρ',s2,s3,y4⟩,s1,s6,y1,y2,y3⟩
end
theorem bitB_eq(m i:Nat):zL m i=m.testBit i:=by
 unfold zL;show Nat.beq (Nat.land (Nat.shiftRight m i) 1) 1=_;rw [Nat.testBit];show Nat.beq ((m >>> i) &&& 1) 1=(1 &&& (m >>> i) != 0);rw [Nat.and_comm]
 have h:1 &&& (m >>> i)=0∨1 &&& (m >>> i)=1:=by
  have:=Nat.and_le_left (n:=1) (m:=m >>> i);omega
 rcases h with h|h <;> rw[h] <;> rfl
theorem lor_bit(a b i:Nat):zL (Nat.lor a b) i=(zL a i || zL b i):=by
 simp only[bitB_eq];exact Nat.testBit_or a b i
theorem one_bit(j i:Nat):zL (Nat.shiftLeft 1 j) i=Nat.beq j i:=by
 rw[bitB_eq];show(1 <<< j).testBit i=_;rw [Nat.one_shiftLeft,Nat.testBit_two_pow];by_cases h:j=i
 · subst h;simp
 · have:Nat.beq j i=false:=by
    cases e:Nat.beq j i with
    | false=>rfl
    | true=>exact absurd (zG e) h
   rw[this];simp [h]
theorem land_sub{a b i:Nat}(h:Nat.beq (Nat.land a b) a=true)(hi:zL a i=true):zL b i=true:=by
 have h:=zG h;rw [bitB_eq]at hi ⊢
 have:(a &&& b).testBit i=a.testBit i:=by
  have h:a &&& b=a:=h;rw [h]
 rw[Nat.testBit_and,hi]at this;simpa using this
def xO(e:Edge):Bool:=Region.binds .any e
theorem edgesMask_ok{acc:Tr Nat}{j:Nat}:∀{es:List Edge} {m0 m:Nat},xW acc j es m0=some m→
 (∀b,zL m b=true→zL m0 b=true∨∃e∈es,xO e=true∧(b=e.on∨zL (Tr.get 0 acc e.on) b=true))∧(∀e∈es,xO e=true→e.on<j):=by
 intro es
 induction es with
 | nil=>
  intro m0 m h;simp only[xW]at h;injection h with h;subst h
  exact⟨fun b hb=>.inl hb,fun e he=>by simp at he⟩
 | cons e es ih =>
  intro m0 m h
  have skip:xO e=false→xW acc j es m0=some m→_:=fun ha h=>(show(∀b,zL m b=true→zL m0 b=true∨∃e'∈e::es,xO e'=true∧(b=e'.on∨zL (Tr.get 0 acc e'.on) b=true))∧(∀e'∈e::es,xO e'=true→e'.on<j) from
   have⟨h1,h2⟩:=ih h
   ⟨fun b hb=>(h1 b hb).imp id fun⟨e',m1,m2⟩=>⟨e',by simp[m1],m2⟩,fun e' he ha'=>by
    rcases List.mem_cons.1 he with rfl|he
    · rw[ha]at ha';cases ha'
    · exact h2 e' he ha'⟩)
  have take:xO e=true→(Bool.rec none (xW acc j es (Nat.lor m0 (Nat.lor (Nat.shiftLeft 1 e.on) (Tr.get 0 acc e.on)))) (Nat.blt e.on j):Option Nat)=some m→
   (∀b,zL m b=true→zL m0 b=true∨∃e'∈e::es,xO e'=true∧(b=e'.on∨zL (Tr.get 0 acc e'.on) b=true))∧(∀e'∈e::es,xO e'=true→e'.on<j):=by
   intro ha h
   cases hj:Nat.blt e.on j with
   | false=>rw [hj]at h;cases h
   | true=>
    rw[hj]at h;obtain⟨h1,h2⟩:=ih h;refine⟨fun b hb=>?_,fun e' he ha'=>?_⟩
    · rcases h1 b hb with h3|⟨e',m1,m2⟩
      · rw[lor_bit,lor_bit,one_bit]at h3;simp only[Bool.or_eq_true]at h3;rcases h3 with h3|h3|h3
        · exact .inl h3
        · exact .inr ⟨e,by simp,ha,.inl (zG h3).symm⟩
        · exact .inr ⟨e,by simp,ha,.inr h3⟩
      · exact .inr ⟨e',by simp[m1],m2⟩
    · rcases List.mem_cons.1 he with rfl|he
      · exact zR hj
      · exact h2 e' he ha'
  simp only[xW]at h;unfold xO Region.binds at skip take;cases hg:e.ground <;> rw[hg]at h skip take <;> first|exact take rfl h|exact skip rfl h
theorem tmpMask_ok:∀{xs:List Operand} {m0 b:Nat},(zL m0 b=true∨.tmp b∈xs)→zL (tmpMask xs m0) b=true:=by
 intro xs
 induction xs with
 | nil=>intro m0 b h;rcases h with h|h;(· exact h);(· simp at h)
 | cons x xs ih=>
  intro m0 b h;simp only[tmpMask];apply ih;rcases h with h|h
  · left
    cases x with
    | tmp t=>show zL (Nat.lor m0 (Nat.shiftLeft 1 t)) b=true;rw [lor_bit,h];rfl
    | const v=>exact h
    | global g=>exact h
    | func f=>exact h
  · rcases List.mem_cons.1 h with rfl|h
    · left
      show zL (Nat.lor m0 (Nat.shiftLeft 1 b)) b=true;rw [lor_bit,one_bit,Nat.beq_refl,Bool.or_true]
    · exact .inr h
structure XOK (all:Array Oper) (M:Nat→Nat) (x:XOp):Prop where
 kd:x.kd=wE x.o.op
 ds:x.ds=dstMask x.o.dst
 m:x.m=M x.i
 bits:∀b,zL x.m b=true→∃e∈x.o.after.toList,xO e=true∧(b=e.on∨zL (M e.on) b=true)
 on:∀e∈x.o.after.toList,xO e=true→e.on<x.i
 lk:∀t,.tmp t∈x.o.op.operands.toList→zL x.lk t=true
 glk:∀g b d,x.o.guard=some (g,b)→dstOf all g=some d→zL x.lk d=true
 ga:∀g b,x.o.guard=some (g,b)→zL x.m g=true
theorem xlist_ok{all:Array Oper}:∀{l:List Oper} {j:Nat} {acc:Tr Nat} {xl:List XOp},xlist all l j acc=some xl→
 ∃M:Nat→Nat,(∀k,k<j→M k=Tr.get 0 acc k)∧xl.length=l.length∧∀q o,l[q]? = some o→∃x,xl[q]? = some x∧x.o=o∧x.i=j+q∧XOK all M x:=by
 intro l
 induction l with
 | nil=>
  intro j acc xl h;simp only[xlist]at h;injection h with h;subst h
  exact⟨fun k=>Tr.get 0 acc k,fun _ _=>rfl,rfl,fun q o h=>by simp at h⟩
 | cons o l ih =>
  intro j acc xl h;simp only[xlist]at h
  cases hm:xW acc j o.after.toList 0 with
  | none=>rw [hm]at h;cases h
  | some m=>
   rw[hm]at h;dsimp only at h;split at h
   · cases h
   · rename_i gm hgm
     cases hr:xlist all l (Nat.succ j) (Tr.set 0 m acc j) with
     | none=>rw [hr]at h;cases h
     | some xl' =>
      rw[hr]at h;injection h with h;subst h
      obtain⟨M,h1,h2,h3⟩:=ih hr;obtain⟨e1,e2⟩:=edgesMask_ok hm;have hMj:M j=m:=by rw[h1 j (Nat.lt_succ_self j),Tr.get_set_if,if_pos rfl]
      have hMk:∀k,k<j→M k=Tr.get 0 acc k:=by
       intro k hk;rw [h1 k (Nat.lt_succ_of_lt hk),Tr.get_set_if,if_neg (by omega)]
      refine⟨M,hMk,by simp[h2],fun q o' hq=>?_⟩
      cases q with
      | succ q=>
       obtain⟨x,f1,f2,f3,f4⟩:=h3 q o' (by simpa using hq);exact⟨x,by simpa using f1,f2,by omega,f4⟩
      | zero=>
       simp at hq;subst hq;refine⟨_,rfl,rfl,rfl,rfl,rfl,hMj.symm,fun b hb=>?_,e2,fun t ht=>tmpMask_ok (.inr ht),fun g b d hg hd=>?_,fun g b hg=>?_⟩
       · rcases e1 b hb with h4|⟨e,q1,q2,q3⟩
         · rw[bitB_eq,Nat.zero_testBit]at h4;cases h4
         · exact⟨e,q1,q2,q3.imp id fun h5=>by rw[hMk _ (e2 e q1 q2)];exact h5⟩
       · apply tmpMask_ok;left
         rw[hg]at hgm;dsimp only at hgm
         cases hb:zL m g with
         | false=>rw [hb]at hgm;cases hgm
         | true=>
          rw[hb]at hgm;injection hgm with hgm
          rw[← hgm,hd];show zL (Nat.shiftLeft 1 d) d=true;rw [one_bit,Nat.beq_refl]
       · rw[hg]at hgm;dsimp only at hgm
         cases hb:zL m g with
         | false=>rw [hb]at hgm;cases hgm
         | true=>rfl
theorem sigB_head{x:XOp}{r:List XOp}{sm pm:Nat}(h:sigB (x::r) sm pm=true) :
 (∀b,zL x.m b=true→zL sm b=true)∧zL sm x.i=false∧
 (x.kd=3→(∀b,zL pm b=true→zL x.m b=true)∧sigB r (Nat.lor sm (Nat.shiftLeft 1 x.i)) 0=true)∧
 (x.kd≠3→sigB r (Nat.lor sm (Nat.shiftLeft 1 x.i)) (Nat.lor pm (Nat.shiftLeft 1 x.i))=true):=by
 simp only[sigB]at h
 cases h1:Nat.beq (Nat.land x.m sm) x.m with
 | false=>rw [h1]at h;cases h
 | true =>
  rw[h1]at h;dsimp only at h
  cases h2:zL sm x.i with
  | true=>rw [h2]at h;cases h
  | false=>
   rw[h2]at h;dsimp only at h;refine⟨fun b hb=>land_sub h1 hb,rfl,fun hk=>?_,fun hk=>?_⟩
   · rw[hk]at h;have h:(Bool.rec false (sigB r (Nat.lor sm (Nat.shiftLeft 1 x.i)) 0) (Nat.beq (Nat.land x.m pm) pm):Bool)=true:=h
     cases h3:Nat.beq (Nat.land x.m pm) pm with
     | false=>rw [h3]at h;cases h
     | true =>
      rw[h3]at h;refine⟨fun b hb=>?_,h⟩
      have e:Nat.land pm x.m=pm:=by
       have:=zG h3;show pm &&& x.m=pm;rw [Nat.and_comm];exact this
      exact land_sub (a:=pm) (by rw[e];exact Nat.beq_refl pm) hb
   · have hk':Nat.beq x.kd 3=false:=by
      cases e:Nat.beq x.kd 3 with
      | false=>rfl
      | true=>exact absurd (zG e) hk
     rw[hk']at h;exact h
theorem sigB_app:∀{pre rest:List XOp} {sm pm:Nat},sigB (pre++rest) sm pm=true→
 ∃sm' pm',sigB rest sm' pm'=true∧(∀b,zL sm' b=true↔(zL sm b=true∨∃y∈pre,y.i=b))∧
  ((∀y∈pre,y.kd≠3)→∀b,(zL pm b=true∨∃y∈pre,y.i=b)→zL pm' b=true):=by
 intro pre
 induction pre with
 | nil=>intro rest sm pm h;exact⟨sm,pm,h,fun b=>by simp,fun _ b hb=>by simpa using hb⟩
 | cons x pre ih =>
  intro rest sm pm h;obtain⟨_,_,h3,h4⟩:=sigB_head h
  have bits:∀{m b},zL (Nat.lor m (Nat.shiftLeft 1 x.i)) b=true↔(zL m b=true∨x.i=b):=by
   intro m b;rw [lor_bit,one_bit,Bool.or_eq_true];exact⟨fun h=>h.imp id zG,fun h=>h.imp id fun e=>by rw[e];exact Nat.beq_refl b⟩
  have key:∀{pm2},sigB (pre++rest) (Nat.lor sm (Nat.shiftLeft 1 x.i)) pm2=true→(x.kd≠3→pm2=Nat.lor pm (Nat.shiftLeft 1 x.i))→
   ∃sm' pm',sigB rest sm' pm'=true∧(∀b,zL sm' b=true↔(zL sm b=true∨∃y∈x::pre,y.i=b))∧
    ((∀y∈x::pre,y.kd≠3)→∀b,(zL pm b=true∨∃y∈x::pre,y.i=b)→zL pm' b=true):=by
   intro pm2 hs hp;obtain⟨sm',pm',a1,a2,a3⟩:=ih hs;refine⟨sm',pm',a1,fun b=>?_,fun hall b hb=>?_⟩
   · rw[a2,bits];simp only[List.mem_cons];constructor
     · rintro ((h|h)|⟨y,h1,h2⟩)
       · exact .inl h
       · exact .inr ⟨x,.inl rfl,h⟩
       · exact .inr ⟨y,.inr h1,h2⟩
     · rintro (h|⟨y,rfl|h1,h2⟩)
       · exact .inl (.inl h)
       · exact .inl (.inr h2)
       · exact .inr ⟨y,h1,h2⟩
   · have e:=hp (hall x (by simp));refine a3 (fun y hy=>hall y (by simp[hy])) b ?_;rw [e,bits];rcases hb with h|⟨y,h1,h2⟩
     · exact .inl (.inl h)
     · rcases List.mem_cons.1 h1 with rfl|h1
       · exact .inl (.inr h2)
       · exact .inr ⟨y,h1,h2⟩
  by_cases hk:x.kd=3
  · exact key (h3 hk).2 (fun e=>absurd hk e)
  · exact key (h4 hk) (fun _=>rfl)
theorem sig_ord{pre post:List XOp}{x:XOp}(h:sigB (pre++x::post) 0 0=true):(∀b,zL x.m b=true→∃y∈pre,y.i=b)∧(∀y∈pre,y.i≠x.i):=by
 obtain⟨sm,pm,h1,h2,_⟩:=sigB_app h;obtain⟨h3,h4,_,_⟩:=sigB_head h1;have z:∀b,¬zL 0 b=true:=fun b e=>by rw[bitB_eq,Nat.zero_testBit]at e;cases e
 refine⟨fun b hb=>((h2 b).1 (h3 b hb)).resolve_left (z b),fun y hy e=>?_⟩;have:=(h2 x.i).2 (.inr ⟨y,hy,e⟩);rw [h4]at this;cases this
theorem sig_next{pre seg post:List XOp}{c:XOp}(h:sigB (pre++(seg++c::post)) 0 0=true)(hc:c.kd=3)(hs:∀y∈seg,y.kd≠3):∀y∈seg,zL c.m y.i=true:=by
 obtain⟨sm,pm,h1,_,_⟩:=sigB_app h;obtain⟨sm2,pm2,h2,_,h3⟩:=sigB_app h1;obtain⟨_,_,h4,_⟩:=sigB_head h2;exact fun y hy=>(h4 hc).1 _ (h3 hs _ (.inr ⟨y,hy,rfl⟩))
theorem allB_ok{α : Type}{f: α→Bool}:∀{l:List α},allB f l=true→∀x∈l,f x=true:=by
 intro l
 induction l with
 | nil=>intro _ x hx;simp at hx
 | cons y l ih =>
  intro h x hx;have h':(Bool.rec false (allB f l) (f y):Bool)=true:=h
  cases hf:f y with
  | false=>rw [hf]at h';cases h'
  | true=>
   rw[hf]at h';rcases List.mem_cons.1 hx with rfl|hx
   · exact hf
   · exact ih h' x hx
theorem sigmaFrom_mem:∀{acts rest:List XOp} {x:XOp},x∈wP rest acts→x∈rest∨x∈acts:=by
 intro acts
 induction acts with
 | nil=>intro rest x h;exact .inl h
 | cons c cs ih=>
  intro rest x h;simp only[wP,List.mem_append,List.mem_cons,List.mem_filter]at h;rcases h with⟨h,_⟩|rfl|h
  · exact .inl h
  · exact .inr (by simp)
  · rcases ih h with h|h
    · exact .inl (List.mem_filter.1 h).1
    · exact .inr (by simp[h])
structure PlanOK (ops:Array Oper) (M:Nat→Nat) (xl S:List XOp):Prop where
 at':∀x∈xl,ops[x.i]? = some x.o
 ok:∀x∈xl,XOK ops M x
 cov:∀i,i<ops.size→∃x∈xl,x.i=i
 sub:∀x∈S,x∈xl
 sig:sigB S 0 0=true
 len:S.length=ops.size
 pair:∀x∈xl,∀y∈xl,∀d,x.o.dst=some d→(zL y.lk d=true∨y.o.dst=some d)→x.i=y.i∨(y.o.dst≠some d∧(zL y.m x.i=true∨zL x.m y.i=true))
 act:∀x∈xl,∀y∈xl,x.kd=3→y.kd=3→x.i=y.i∨zL y.m x.i=true∨zL x.m y.i=true
theorem dst_bit{o:Option Tmp}{d:Nat}:zL (dstMask o) d=true↔o=some d:=by
 cases o with
 | none=>
  show zL 0 d=true↔_;rw [bitB_eq,Nat.zero_testBit];simp
 | some t=>
  show zL (Nat.shiftLeft 1 t) d=true↔_;rw [one_bit];exact⟨fun h=>by rw[zG h],fun h=>by injection h with h;rw [h];exact Nat.beq_refl d⟩
theorem land_zero{a b d:Nat}(h:Nat.beq (Nat.land a b) 0=true)(ha:zL a d=true):zL b d=false:=by
 have h:a &&& b=0:=zG h;rw [bitB_eq]at ha ⊢;have:(a &&& b).testBit d=false:=by rw[h,Nat.zero_testBit]
 rw[Nat.testBit_and,ha]at this;simpa using this
theorem plan_ok{ops:Array Oper}{L:List DOp}(h:plan ops=some L) :
 ∃M xl S,PlanOK ops M xl S∧L=S.map (dopOf xl (S.filter fun x=>Nat.beq x.kd 3)):=by
 unfold plan at h
 cases hx:xlist ops ops.toList 0 .lF with
 | none=>rw [hx]at h;cases h
 | some xl =>
  rw[hx]at h;dsimp only at h;obtain⟨M,_,hlen,hat⟩:=xlist_ok hx;generalize hA:xl.filter (fun x=>Nat.beq x.kd 3)=acts at h
  unfold planOf at h
  cases hc:(pairsOK xl && actsOK acts && Nat.beq (wP xl acts).length ops.toList.length && sigB (wP xl acts) 0 0) with
  | false=>rw [hc]at h;cases h
  | true =>
   rw[hc]at h;dsimp only[cond]at h;injection h with h
   simp only[Bool.and_eq_true]at hc;obtain⟨⟨⟨c1,c2⟩,c3⟩,c4⟩:=hc
   have hact:∀x,x∈acts→x∈xl∧x.kd=3:=by
    intro x hx;rw [← hA]at hx;obtain⟨h1,h2⟩:=List.mem_filter.1 hx;exact⟨h1,zG h2⟩
   have hmem:∀x∈wP xl acts,x∈xl:=by
    intro x hx;rcases sigmaFrom_mem hx with h|h
    · exact h
    · exact(hact x h).1
   have hxl:∀x∈xl,ops[x.i]? = some x.o∧XOK ops M x:=by
    intro x hx;obtain⟨q,hq⟩:=List.mem_iff_getElem?.1 hx
    have hlt:q<ops.toList.length:=by
     rcases Nat.lt_or_ge q xl.length with h5|h5
     · omega
     · rw[List.getElem?_eq_none h5]at hq;cases hq
    obtain⟨x',f1,f2,f3,f4⟩:=hat q _ (List.getElem?_eq_getElem hlt);rw [hq]at f1;injection f1 with f1;subst f1
    refine⟨?_,f4⟩;rw [f3,Nat.zero_add,f2,← Array.getElem?_toList];exact List.getElem?_eq_getElem hlt
   have hcov:∀i,i<ops.size→∃x∈xl,x.i=i:=by
    intro i hi;obtain⟨x',f1,_,f3,_⟩:=hat i _ (List.getElem?_eq_getElem (by simpa using hi));exact⟨x',List.mem_iff_getElem?.2 ⟨i,f1⟩,by omega⟩
   refine⟨M,xl,wP xl acts,⟨fun x hx=>(hxl x hx).1,fun x hx=>(hxl x hx).2,hcov,hmem,c4,by simpa using zG c3,?_,?_⟩,h.symm⟩
   · intro x hx y hy d hd hl;have kx:=(hxl x hx).2;have ky:=(hxl y hy).2;have dx:zL x.ds d=true:=by rw[kx.ds];exact dst_bit.2 hd
     have dy:zL (Nat.lor y.lk y.ds) d=true:=by
      rw[lor_bit,Bool.or_eq_true];exact hl.imp id fun h=>by rw[ky.ds];exact dst_bit.2 h
     have hne:Nat.beq x.ds 0=false:=by
      cases e:Nat.beq x.ds 0 with
      | false=>rfl
      | true=>
       rw[zG e,bitB_eq,Nat.zero_testBit]at dx;cases dx
     have hp:=allB_ok (allB_ok c1 x (List.mem_filter.2 ⟨hx,by rw[hne];rfl⟩)) y hy;unfold pairOK at hp
     cases e:Nat.beq (Nat.land x.ds (Nat.lor y.lk y.ds)) 0 with
     | true=>
      have:=land_zero e dx;rw [dy]at this;cases this
     | false=>
      rw[e]at hp;have hp:(Nat.beq x.i y.i || (Nat.beq (Nat.land x.ds y.ds) 0 && (zL y.m x.i || zL x.m y.i)))=true:=hp;simp only[Bool.or_eq_true,Bool.and_eq_true]at hp;rcases hp with hp|⟨hp1,hp2⟩
      · exact .inl (zG hp)
      · refine .inr ⟨fun e2=>?_,hp2⟩;have:=land_zero hp1 dx;rw [ky.ds,dst_bit.2 e2]at this;cases this
   · intro x hx y hy kx ky;have mx:x∈acts:=by rw[← hA];exact List.mem_filter.2 ⟨hx,by rw[kx];rfl⟩
     have my:y∈acts:=by rw[← hA];exact List.mem_filter.2 ⟨hy,by rw[ky];rfl⟩
     have:=allB_ok (allB_ok c2 x mx) y my;simp only[Bool.or_eq_true]at this;rcases this with(h|h)|h
     · exact .inl (zG h)
     · exact .inr (.inl h)
     · exact .inr (.inr h)
structure Rec where
 x:DOp
 t:Fr
 w:W
 sk:Bool
 v:Value
 w2:W
section
variable (P:Program) (ng:Nat) (all:Array Oper) (cx:Cx)
inductive RecOK:Rec→Prop
 | skip {x:DOp} {t:Fr} {w:W} (hw:wanted all t x.o.guard=false):RecOK ⟨x,t,w,true,undef,w⟩
 | look {x:DOp} {t:Fr} {w:W} {v:Value} (hw:wanted all t x.o.guard=true) (hk:x.kd=0∨x.kd=1) (hq:vY x.o.op P t w.h=some v):RecOK ⟨x,t,w,false,v,w⟩
 | made {x:DOp} {t:Fr} {w:W} {v:Nat→Value} {ob:AObj} (hw:wanted all t x.o.guard=true) (hk:x.kd=2) (hn:NewVal P ng x.o t v ob) :
  RecOK ⟨x,t,w,false,v w.n,W.mk w.d w.u (w.h.set .dead ob w.n) (w.n+1)⟩
 | act {x:DOp} {t:Fr} {w w2:W} {v:Value} (hw:wanted all t x.o.guard=true) (hk:x.kd≠0∧x.kd≠1∧x.kd≠2) (ho:OpTo P ng x.o cx t w (.ret v) w2) (hn:w.n≤w2.n):RecOK ⟨x,t,w,false,v,w2⟩
inductive RecsOK:List Rec→Fr→W→Fr→W→Prop
 | nil (t:Fr) (w:W):RecsOK [] t w t w
 | cons {r:Rec} {R:List Rec} {t':Fr} {w':W} (h:RecOK P ng all cx r) (hr:RecsOK R (putF r.t r.x.o.dst r.v) r.w2 t' w'):RecsOK (r::R) r.t r.w t' w'
end
def hsOf:List Rec→List W→List W
 | [],hs=>hs
 | r::R,hs=>hsOf R (cond (Nat.beq r.x.kd 3) (r.w2::hs) hs)
def lsOf:List Rec→List Look→List Look
 | [],ls=>ls
 | r::R,ls=>lsOf R (cond (!r.sk && (Nat.beq r.x.kd 1 && !Nat.beq r.x.low r.x.high)) (⟨r.x.o.op,r.t,r.v,r.x.low,r.x.high⟩::ls) ls)
section
variable {P:Program} {ng:Nat} {all:Array Oper} {cx:Cx}
def Drew(P:Program)(ng:Nat)(all:Array Oper)(cx:Cx)(L:List DOp)(t:Fr)(w:W)(hs:List W)(ls:List Look)(k:KX):Prop:=
 (∃R t' w',R.map (·.x)=L∧RecsOK P ng all cx R t w t' w'∧k .normal t' w'=true∧wT P (hsOf R hs).length (hsOf R hs) (lsOf R ls)=true)∨
 (∃R d rest c t1 w1 w2,L=R.map (·.x)++d::rest∧RecsOK P ng all cx R t w t1 w1∧wanted all t1 d.o.guard=true∧OpTo P ng d.o cx t1 w1 (.panic c) w2∧d.solo=true∧
  wT P (hsOf R hs).length (hsOf R hs) (lsOf R ls)=true∧k (.panic c) t1 w2=true)
theorem Drew.cons{r:Rec}{L:List DOp}{hs:List W}{ls:List Look}{k:KX}(h:RecOK P ng all cx r)
(d:Drew P ng all cx L (putF r.t r.x.o.dst r.v) r.w2 (cond (Nat.beq r.x.kd 3) (r.w2::hs) hs) (cond (!r.sk && (Nat.beq r.x.kd 1 && !Nat.beq r.x.low r.x.high)) (⟨r.x.o.op,r.t,r.v,r.x.low,r.x.high⟩::ls) ls) k) :
 Drew P ng all cx (r.x::L) r.t r.w hs ls k:=by
 rcases d with⟨R,t',w',h1,h2,h3,h4⟩|⟨R,d,rest,c,t1,w1,w2,h1,h2,h3,h4,h5,h6,h7⟩
 · exact .inl ⟨r::R,t',w',by simp[h1],.cons h h2,h3,h4⟩
 · exact .inr ⟨r::R,d,rest,c,t1,w1,w2,by simp[h1],.cons h h2,h3,h4,h5,h6,h7⟩
theorem new_ok{lo:Lo}(hP:zP ng P=true){o:Oper}{t:Fr}{w:W}{k:KV}{kp:KP}(hk:wE o.op=2)(hx:eff o.op P lo cx t w k kp=true) :
 ∃v ob,NewVal P ng o t v ob∧k (W.mk w.d w.u (w.h.set .dead ob w.n) (w.n+1)) (v w.n)=true:=by
 cases hop:o.op with
 | insert _ _ _ _=>rw [hop]at hk;cases hk
 | store _ _ _=>rw [hop]at hk;cases hk
 | mapUpdate _ _ _ _=>rw [hop]at hk;cases hk
 | defer _=>rw [hop]at hk;cases hk
 | panic _=>rw [hop]at hk;cases hk
 | range _ _=>rw [hop]at hk;cases hk
 | next _ _=>rw [hop]at hk;cases hk
 | entry _=>rw [hop]at hk;cases hk
 | alloc el=>exact alloc_ok hP hop hx
 | box el x=>exact box_ok hop hx
 | buildSlice ty len parts=>exact buildSlice_ok hP hop hx
 | makeMap ty r=>exact makeMap_ok hop hx
 | makeSlice ty l c=>exact makeSlice_ok hP hop hx
 | call c=>
  rw[hop]at hk;obtain⟨callee,asz,ts⟩:=c
  cases callee with
  | builtin b=>cases b <;> cases hk
  | value f=>cases hk
  | invoke r m=>cases hk
 | _=>rw [hop]at hx;exact(Bool.false_ne_true hx).elim
theorem xdraw_ok{lo:Lo}(hP:zP ng P=true)(hS:Sound P ng lo):∀(L:List DOp) (t:Fr) (w:W) (hs:List W) (ls:List Look) (k:KX),(∀d∈L,d.kd=wE d.o.op)→xdraw P lo cx all L t w hs ls k=true→Drew P ng all cx L t w hs ls k:=by
 intro L
 induction L with
 | nil=>
  intro t w hs ls k _ h;simp only[xdraw,Bool.and_eq_true]at h;exact .inl ⟨[],t,w,rfl,.nil t w,h.1,h.2⟩
 | cons x L ih =>
  intro t w hs ls k hkd h;have hkd':∀d∈L,d.kd=wE d.o.op:=fun d hd=>hkd d (by simp[hd]);have hx:=hkd x (by simp);simp only[xdraw]at h
  cases hw:wanted all t x.o.guard with
  | false=>
   rw[hw]at h;exact Drew.cons (.skip hw) (ih _ _ _ _ _ hkd' (uK h))
  | true=>
   rw[hw]at h;dsimp only at h;split at h
   · rename_i hk;split at h
     · rename_i v hq
       have:=Drew.cons (r:=⟨x,t,w,false,v,w⟩) (hs:=hs) (ls:=ls) (.look hw (.inl hk) hq) (by
        have:=ih _ _ _ _ _ hkd' (uK h);dsimp only;rw [hk];exact this)
       exact this
     · cases h
   · rename_i hk;split at h
     · rename_i v hq
       have:=Drew.cons (r:=⟨x,t,w,false,v,w⟩) (hs:=hs) (ls:=ls) (k:=k) (.look hw (.inr hk) hq) (by
        have:=ih _ _ _ _ _ hkd' (uK h);dsimp only;rw [hk];cases hlh:Nat.beq x.low x.high <;> rw[hlh]at this <;> exact this)
       exact this
     · cases h
   · rename_i hk;obtain⟨v,ob,h1,h2⟩:=new_ok hP (by rw[← hx,hk]) h;have:=ih _ _ _ _ _ hkd' (uK h2)
     exact Drew.cons (r:=⟨x,t,w,false,v w.n,W.mk w.d w.u (w.h.set .dead ob w.n) (w.n+1)⟩) (.made hw hk h1) (by
      dsimp only;rw [hk];exact this)
   · rename_i hk0 hk1 hk2;obtain⟨out,w2,h1,h2⟩:=eff_ok hP hS h
     have hk3:x.kd=3:=by
      have h9:wE x.o.op≤3:=by unfold wE;split <;> (try split) <;> omega
      have a0:x.kd≠0:=hk0;have a1:x.kd≠1:=hk1;have a2:x.kd≠2:=hk2;omega
     cases out with
     | ret v =>
      have h1':cond (Nat.ble w.n w2.n) (putT t x.o.dst v fun t'=>xdraw P lo cx all L t' w2 (w2::hs) ls k) false=true:=h1
      cases hnn:Nat.ble w.n w2.n with
      | false=>rw [hnn]at h1';cases h1'
      | true=>
      rw[hnn]at h1';dsimp only[cond]at h1';have:=ih _ _ _ _ _ hkd' (uK h1')
      exact Drew.cons (r:=⟨x,t,w,false,v,w2⟩) (.act hw ⟨hk0,hk1,hk2⟩ h2 (wF hnn)) (by
       dsimp only;rw [hk3];exact this)
     | panic c =>
      have h1':cond (x.solo && wT P hs.length hs ls) (k (.panic c) t w2) false=true:=h1
      cases hc:(x.solo && wT P hs.length hs ls) with
      | false=>rw [hc]at h1';cases h1'
      | true=>
       rw[hc]at h1';obtain⟨c1,c2⟩:=Bool.and_eq_true_iff.1 hc;exact .inr ⟨[],x,L,c,t,w,w2,rfl,.nil t w,hw,h2,c1,c2,h1'⟩
end
def Inj.cut(ρ : Inj)(m:Nat):Inj:=fun b=>if b<m then ρ b else none
theorem zW{ρ : Inj}{m b:Nat}(h:b<m):(ρ.cut m) b = ρ b:=by simp[Inj.cut,h]
theorem cut_ge{ρ : Inj}{m b:Nat}(h:m≤b):(ρ.cut m) b=none:=by simp[Inj.cut,Nat.not_lt.2 h]
theorem yQ{ρ : Inj}{m b:Nat}{B:Bl}(e:(ρ.cut m) b=some B):b<m∧ρ b=some B:=by
 rcases Nat.lt_or_ge b m with h1|h1
 · rw[zW h1]at e;exact⟨h1,e⟩
 · rw[cut_ge h1]at e;cases e
theorem cut_le{ρ : Inj}{m m':Nat}(h:m≤m'):(ρ.cut m).le (ρ.cut m'):=by
 intro b B e;obtain⟨h1,h2⟩:=yQ e;rw [zW (by omega)];exact h2
theorem cut_mono{ρ ρ':Inj}(h: ρ.le ρ')(m:Nat):(ρ.cut m).le (ρ'.cut m):=by
 intro b B e;obtain⟨h1,h2⟩:=yQ e;rw [zW h1];exact h _ _ h2
theorem glue(h1 h2:zI)(m:Nat):∀N,∃h:zI,(∀b,b<m→zH h b=zH h1 b)∧(∀b,m≤b→b<N→zH h b=zH h2 b):=by
 intro N
 induction N with
 | zero=>exact⟨h1,fun _ _=>rfl,fun _ _ h=>absurd h (Nat.not_lt_zero _)⟩
 | succ N ih=>
  obtain⟨h,e1,e2⟩:=ih;by_cases hm:m≤N
  · refine⟨h.set .dead (zH h2 N) N,fun b hb=>?_,fun b hb hN=>?_⟩
    · rw[zJ,if_neg (by omega)];exact e1 b hb
    · rw[zJ];by_cases hbn:N=b
      · subst hbn;rw [if_pos rfl]
      · rw[if_neg hbn];exact e2 b hb (by omega)
  · exact⟨h,e1,fun b hb hN=>absurd hb (by omega)⟩
section
variable {P:Program} {ng:Nat}
theorem HeapR.congr{ρ : Inj}{base:Nat}{w0:World}{h h':zI}{n:Nat}{wd:World}(r:HeapR P ng ρ base w0 h n wd)(e:∀b B,ρ b=some B→zH h' b=zH h b):HeapR P ng ρ base w0 h' n wd where
 dom:=r.dom
 obj b B hb hl:=by rw[e b B hb]at hl ⊢;exact r.obj b B hb hl
 inj a b A B ha hb la lb hab:=by rw[e a A ha]at la;rw [e b B hb]at lb;exact r.inj a b A B ha hb la lb hab
 below:=r.below
 size:=r.size
 glob:=r.glob
 ngn:=r.ngn
theorem Grow.congr{ρ0:Inj}{h0:zI}{n0:Nat}{wd0:World}{ρ : Inj}{h h':zI}{n:Nat}{wd:World}(g:Grow ρ0 h0 n0 wd0 ρ h n wd)(e:∀b,b<n0→zH h' b=zH h b):Grow ρ0 h0 n0 wd0 ρ h' n wd where
 nn:=g.nn
 old:=g.old
 new:=g.new
 keep:=g.keep
 size:=g.size
 dead b hb hd:=by rw[e b hb];exact g.dead b hb hd
 tape:=g.tape
theorem HeapR.push{ρ : Inj}{base:Nat}{w0:World}{h:zI}{n:Nat}{wd:World}(r:HeapR P ng ρ base w0 h n wd)(o':Obj):HeapR P ng ρ base w0 h n { wd with heap:=wd.heap.push o' } where
 dom:=r.dom
 obj b B hb hl:=by
  obtain⟨o,e1,e2⟩:=r.obj b B hb hl;refine⟨o,?_,e2⟩;have:=r.lt hb hl;show(wd.heap.push o')[B.b]? = _;rw [Array.getElem?_push,if_neg (by omega)];exact e1
 inj:=r.inj
 below:=r.below.trans ⟨rfl,rfl,rfl,by simp,fun k hk=>by
  have:=r.size;show(wd.heap.push o')[k]? = _;rw [Array.getElem?_push,if_neg (by omega)]⟩
 size:=by have:=r.size;simp;omega
 glob:=r.glob
 ngn:=r.ngn
theorem HeapR.add{ρ : Inj}{base:Nat}{w0:World}{h:zI}{n:Nat}{wd:World}(r:HeapR P ng ρ base w0 h n wd){x:Nat}(hx: ρ x=none)(hxn:x<n)(o:AObj)(o':Obj)(B:Bl)(hB:B.b=wd.heap.size)
(hr:ObjR P ng (ρ.put x B) base B o o'):HeapR P ng (ρ.put x B) base w0 (h.set .dead o x) n { wd with heap:=wd.heap.push o' }:=by
 have hle:=Inj.le_put B hx;have r2:=r.push o';refine⟨?_,?_,?_,r2.below,r2.size,?_,r2.ngn⟩
 · intro b hb;have:b≠x:=by omega
   simp[Inj.put,this];exact r.dom b (by omega)
 · intro b C e hl;by_cases hb:b=x
   · subst hb;simp [Inj.put]at e;subst e;refine⟨o',by simp[hB],?_⟩;rw [zJ];simpa using hr
   · have e': ρ b=some C:=by simpa [Inj.put,hb] using e
     rw[zJ,if_neg (fun x=>hb x.symm)]at hl ⊢;obtain⟨ob,h1,h2⟩:=r2.obj b C e' hl;exact⟨ob,h1,h2.mono hle⟩
 · intro a b A C ea eb ha hb hab
   have lt:∀y X,y≠x→(ρ.put x B) y=some X→zH (h.set .dead o x) y≠.dead→X.b<wd.heap.size:=by
    intro y X hy ex hlx;have ex': ρ y=some X:=by simpa [Inj.put,hy] using ex
    rw[zJ,if_neg (fun z=>hy z.symm)]at hlx;exact r.lt ex' hlx
   by_cases h1:a=x
   · by_cases h2:b=x
     · rw[h1,h2]
     · have:=lt b C h2 eb hb;subst h1;simp [Inj.put]at ea;subst ea;omega
   · by_cases h2:b=x
     · have:=lt a A h1 ea ha;subst h2;simp [Inj.put]at eb;subst eb;omega
     · rw[zJ,if_neg (fun y=>h1 y.symm)]at ha;rw [zJ,if_neg (fun y=>h2 y.symm)]at hb;exact r.inj a b A C (by simpa [Inj.put,h1] using ea) (by simpa [Inj.put,h2] using eb) ha hb hab
 · intro g hg;obtain⟨G,e1,e2⟩:=r.glob g hg;exact⟨G,hle _ _ e1,e2⟩
theorem Grow.push{ρ0:Inj}{h0:zI}{n0:Nat}{wd0:World}{ρ : Inj}{h:zI}{n:Nat}{wd:World}(g:Grow ρ0 h0 n0 wd0 ρ h n wd)(o':Obj):Grow ρ0 h0 n0 wd0 ρ h n { wd with heap:=wd.heap.push o' } where
 nn:=g.nn
 old:=g.old
 new:=g.new
 keep c hc hn:=by
  have:=g.size;show(wd.heap.push o')[c]? = _;rw [Array.getElem?_push,if_neg (by omega)];exact g.keep c hc hn
 size:=by have:=g.size;simp;omega
 dead:=g.dead
 tape:=g.tape
theorem Grow.add{ρ0:Inj}{h0:zI}{n0:Nat}{wd0:World}{ρ : Inj}{h:zI}{n:Nat}{wd:World}(g:Grow ρ0 h0 n0 wd0 ρ h n wd){x:Nat}(hx0:n0≤x)(o:AObj)(o':Obj)(B:Bl)(hB:B.b=wd.heap.size) :
 Grow ρ0 h0 n0 wd0 (ρ.put x B) (h.set .dead o x) n { wd with heap:=wd.heap.push o' } where
 nn:=g.nn
 old b hb:=by
  have:b≠x:=by omega
  simp[Inj.put,this];exact g.old b hb
 new b C hb e:=by
  by_cases h1:b=x
  · subst h1;simp [Inj.put]at e;subst e;have:=g.size;exact .inl (by omega)
  · exact g.new b C hb (by simpa [Inj.put,h1] using e)
 keep:=(g.push o').keep
 size:=(g.push o').size
 dead b hb hd:=by rw[zJ,if_neg (by omega)];exact g.dead b hb hd
 tape:=g.tape
theorem put_cut_ge{ρ : Inj}{x m:Nat}(B:Bl)(h:m≤x):(ρ.put x B).cut m = ρ.cut m:=by
 funext b
 by_cases hb:b<m
 · rw[zW hb,zW hb];have:b≠x:=by omega
   simp[Inj.put,this]
 · rw[cut_ge (by omega),cut_ge (by omega)]
theorem put_cut_lt{ρ : Inj}{x m:Nat}(B:Bl)(h:x<m):(ρ.put x B).cut m=(ρ.cut m).put x B:=by
 funext b
 by_cases hx:b=x
 · subst hx;rw [zW h];simp [Inj.put]
 · by_cases hb:b<m
   · rw[zW hb];simp [Inj.put,hx,zW hb]
   · rw[cut_ge (by omega)];simp [Inj.put,hx,cut_ge (Nat.le_of_not_lt hb)]
theorem put_cut_succ{ρ : Inj}{x:Nat}(B:Bl):(ρ.put x B).cut (x+1)=(ρ.cut x).put x B:=by
 funext b
 by_cases hx:b=x
 · subst hx;rw [zW (by omega)];simp [Inj.put]
 · by_cases hb:b<x
   · rw[zW (by omega)];simp [Inj.put,hx,zW hb]
   · rw[cut_ge (by omega)];simp [Inj.put,hx,cut_ge (Nat.le_of_not_lt hb)]
theorem early{ρ ρ':Inj}{base:Nat}{w0:World}{H hq h2:zI}{nq n2:Nat}{wd wd':World}
(hp:∀m,nq≤m→HeapR P ng (ρ.cut m) base w0 H m wd)(hn:nq≤n2)(none':∀b,nq≤b→b<n2→ρ b=none)
(hH:∀b B,b<nq→ρ b=some B→zH hq b=zH H b)
(h2':HeapR P ng ρ' base w0 h2 n2 wd')(g:Grow (ρ.cut nq) hq nq wd ρ' h2 n2 wd')
{ρ1:Inj}(r1:∀b,b<n2→ρ1 b = ρ' b)(r2:∀b,n2≤b→ρ1 b = ρ b){H1:zI}(e1:∀b,b<n2→zH H1 b=zH h2 b)(e2:∀b B,n2≤b→ρ b=some B→zH H1 b=zH H b) :
 ρ.le ρ1∧∀m,n2≤m→HeapR P ng (ρ1.cut m) base w0 H1 m wd':=by
 have hle: ρ.le ρ1:=by
  intro b B e;rcases Nat.lt_or_ge b n2 with h|h
  · rcases Nat.lt_or_ge b nq with h'|h'
    · rw[r1 b h,g.old b h',zW h'];exact e
    · rw[none' b h' h]at e;cases e
  · rw[r2 b h];exact e
 have c1: ρ1.cut n2 = ρ':=by
  funext b
  rcases Nat.lt_or_ge b n2 with h|h
  · rw[zW h,r1 b h]
  · rw[cut_ge h,h2'.dom b h]
 refine⟨hle,fun m hm=>?_⟩;have hpm:=hp m (by omega)
 have old:∀b B,n2≤b→b<m→ρ b=some B→zH H b≠.dead→∃o,wd'.heap[B.b]? = some o∧wd.heap[B.b]? = some o∧B.b<wd.heap.size∧ObjR P ng (ρ.cut m) base B (zH H b) o:=by
  intro b B hb hbm e hl;have ec:(ρ.cut m) b=some B:=by rw[zW hbm];exact e
  obtain⟨o,q1,q2⟩:=hpm.obj b B ec hl;have hlt:=hpm.lt ec hl;refine⟨o,?_,q1,hlt,q2⟩;rw [g.keep B.b hlt ?_,q1];intro b' B' e' hl' hbb;obtain⟨l1,e''⟩:=yQ e';rw [hH b' B' l1 e'']at hl';have:=hpm.inj b' b B' B (by rw[zW (by omega)];exact e'') ec hl' hl hbb;omega
 have mixed:∀a b A B,a<n2→n2≤b→b<m→ρ' a=some A→zH h2 a≠.dead→ρ b=some B→zH H b≠.dead→A.b≠B.b:=by
  intro a b A B ha hb hbm ea la eb lb hab;obtain⟨_,_,_,hlt,_⟩:=old b B hb hbm eb lb;have ec:(ρ.cut m) b=some B:=by rw[zW hbm];exact eb
  rcases Nat.lt_or_ge a nq with h|h
  · rw[g.old a h,zW h]at ea;have la':zH H a≠.dead:=fun hd=>la (g.dead a h (by rw[hH a A h ea];exact hd));have:=hpm.inj a b A B (by rw[zW (by omega)];exact ea) ec la' lb hab;omega
  · rcases g.new a A h ea with h4|⟨a',A',ha',ea',hab',la'⟩
    · omega
    · obtain⟨_,ea''⟩:=yQ ea';rw [hH a' A' ha' ea'']at la';have:=hpm.inj a' b A' B (by rw[zW (by omega)];exact ea'') ec la' lb (hab'.trans hab);omega
 refine⟨fun b hb=>cut_ge hb,?_,?_,h2'.below,h2'.size,?_,by have:=h2'.ngn;omega⟩
 · intro b B e hl;obtain⟨hbm,e⟩:=yQ e;rcases Nat.lt_or_ge b n2 with h|h
   · rw[r1 b h]at e;rw [e1 b h]at hl ⊢;obtain⟨o,q1,q2⟩:=h2'.obj b B e hl;refine⟨o,q1,q2.mono ?_⟩;rw [← c1];exact cut_le hm
   · rw[r2 b h]at e;rw [e2 b B h e]at hl ⊢;obtain⟨o,q1,_,_,q2⟩:=old b B h hbm e hl;exact⟨o,q1,q2.mono (cut_mono hle m)⟩
 · intro a b A B ea eb la lb hab;obtain⟨ham,ea⟩:=yQ ea;obtain⟨hbm,eb⟩:=yQ eb;rcases Nat.lt_or_ge a n2 with h|h
   · rw[r1 a h]at ea;rw [e1 a h]at la;rcases Nat.lt_or_ge b n2 with h'|h'
     · rw[r1 b h']at eb;rw [e1 b h']at lb;exact h2'.inj a b A B ea eb la lb hab
     · rw[r2 b h']at eb;rw [e2 b B h' eb]at lb;exact absurd hab (mixed a b A B h h' hbm ea la eb lb)
   · rw[r2 a h]at ea;rw [e2 a A h ea]at la;rcases Nat.lt_or_ge b n2 with h'|h'
     · rw[r1 b h']at eb;rw [e1 b h']at lb;exact absurd hab.symm (mixed b a B A h' h ham eb lb ea la)
     · rw[r2 b h']at eb;rw [e2 b B h' eb]at lb;exact hpm.inj a b A B (by rw[zW ham];exact ea) (by rw[zW hbm];exact eb) la lb hab
 · intro g' hg;obtain⟨G,q1,q2⟩:=h2'.glob g' hg;have hgn:g'<n2:=by have:=h2'.ngn;omega
   exact⟨G,by rw[zW (by omega),r1 g' hgn];exact q1,q2⟩
theorem Grow.early{ρ0:Inj}{h0:zI}{n0:Nat}{wd0:World}{ρ ρ':Inj}{H hq h2:zI}{nq n2:Nat}{wd wd':World}(hn0:n0≤nq)
(gr:∀m,nq≤m→Grow ρ0 h0 n0 wd0 (ρ.cut m) H m wd)(hn:nq≤n2)
(hH:∀b,b<n0→zH hq b=zH H b)(g:Grow (ρ.cut nq) hq nq wd ρ' h2 n2 wd')
{ρ1:Inj}(r1:∀b,b<n2→ρ1 b = ρ' b)(r2:∀b,n2≤b→ρ1 b = ρ b){H1:zI}(e1:∀b,b<n2→zH H1 b=zH h2 b) :
 ∀m,n2≤m→Grow ρ0 h0 n0 wd0 (ρ1.cut m) H1 m wd':=by
 intro m hm;have t:Grow ρ0 h0 n0 wd0 ρ' h2 n2 wd':=((gr nq (Nat.le_refl _)).congr hH).trans g;refine⟨by omega,fun b hb=>?_,fun b B hb e=>?_,t.keep,t.size,fun b hb hd=>?_,t.tape⟩
 · rw[zW (by omega),r1 b (by omega)];exact t.old b hb
 · obtain⟨hbm,e⟩:=yQ e;rcases Nat.lt_or_ge b n2 with h|h
   · rw[r1 b h]at e;exact t.new b B hb e
   · rw[r2 b h]at e;exact(gr m (by omega)).new b B hb (by rw[zW hbm];exact e)
 · rw[e1 b (by omega)];exact t.dead b hb hd
end
section
variable {P:Program} {ng:Nat} {all:Array Oper} {cx:Cx}
theorem vF:∀{A B:List Rec} {t t':Fr} {w w':W},RecsOK P ng all cx (A++B) t w t' w'→∃t1 w1,RecsOK P ng all cx A t w t1 w1∧RecsOK P ng all cx B t1 w1 t' w':=by
 intro A
 induction A with
 | nil=>intro B t t' w w' h;exact⟨t,w,.nil t w,h⟩
 | cons r A ih =>
  intro B t t' w w' h
  cases h with
  | cons h hr=>
   obtain⟨t1,w1,h1,h2⟩:=ih hr;exact⟨t1,w1,.cons h h1,h2⟩
theorem recs_app:∀{A B:List Rec} {t t1 t':Fr} {w w1 w':W},RecsOK P ng all cx A t w t1 w1→RecsOK P ng all cx B t1 w1 t' w'→RecsOK P ng all cx (A++B) t w t' w':=by
 intro A
 induction A with
 | nil=>intro B t t1 t' w w1 w' h h';cases h;exact h'
 | cons r A ih=>
  intro B t t1 t' w w1 w' h h'
  cases h with
  | cons h hr=>exact .cons h (ih hr h')
theorem recs_end:∀{A:List Rec} {t t1 t2:Fr} {w w1 w2:W},RecsOK P ng all cx A t w t1 w1→RecsOK P ng all cx A t w t2 w2→w1=w2:=by
 intro A
 induction A with
 | nil=>intro t t1 t2 w w1 w2 h h';cases h;cases h';rfl
 | cons r A ih =>
  intro t t1 t2 w w1 w2 h h'
  cases h with
  | cons h hr=>cases h' with
   | cons h' hr'=>exact ih hr hr'
theorem rec_n{r:Rec}(h:RecOK P ng all cx r):r.w.n≤r.w2.n:=by
 cases h with
 | skip=>exact Nat.le_refl _
 | look=>exact Nat.le_refl _
 | made=>exact Nat.le_succ _
 | act _ _ _ hn=>exact hn
theorem xP:∀{R:List Rec} {t t':Fr} {w w':W},RecsOK P ng all cx R t w t' w'→w.n≤w'.n∧∀r∈R,RecOK P ng all cx r∧w.n≤r.w.n∧r.w2.n≤w'.n:=by
 intro R
 induction R with
 | nil=>intro t t' w w' h;cases h;exact⟨Nat.le_refl _,fun r hr=>by simp at hr⟩
 | cons r R ih =>
  intro t t' w w' h
  cases h with
  | cons h hr=>
   obtain⟨h1,h2⟩:=ih hr;have h3:=rec_n h;refine⟨by omega,fun r' hr'=>?_⟩;rcases List.mem_cons.1 hr' with rfl|hr'
   · exact⟨h,Nat.le_refl _,h1⟩
   · obtain⟨h4,h5,h6⟩:=h2 r' hr';exact⟨h4,by omega,h6⟩
theorem fget_putF(t:Fr)(dst:Option Tmp)(v:Value)(d:Nat):fget (putF t dst v) d=if dst=some d then v else fget t d:=by
 cases dst with
 | none=>rfl
 | some e=>
  unfold putF fget;dsimp only;rw [Tr.get_set_if];by_cases h:e=d
  · subst h;simp
  · rw[if_neg h,if_neg (fun e2=>h (by injection e2))]
theorem recs_slot{d:Nat}:∀{R:List Rec} {t t':Fr} {w w':W},RecsOK P ng all cx R t w t' w'→(∀r∈R,r.x.o.dst≠some d)→fget t' d=fget t d:=by
 intro R
 induction R with
 | nil=>intro t t' w w' h _;cases h;rfl
 | cons r R ih =>
  intro t t' w w' h hd
  cases h with
  | cons h hr=>
   rw[ih hr (fun r' hr'=>hd r' (by simp[hr'])),fget_putF,if_neg (hd r (by simp))]
theorem recs_write{d:Nat}{A B:List Rec}{r:Rec}{t t':Fr}{w w':W}(h:RecsOK P ng all cx (A++r::B) t w t' w')(hr:r.x.o.dst=some d)(hB:∀y∈B,y.x.o.dst≠some d):fget t' d=r.v:=by
 obtain⟨t1,w1,_,h2⟩:=vF h
 cases h2 with
 | cons h hr'=>rw [recs_slot hr' hB,fget_putF,if_pos hr]
end
def Sees(all:Array Oper)(o:Oper)(d:Nat):Prop:=.tmp d∈o.op.operands.toList∨∃g b,o.guard=some (g,b)∧dstOf all g=some d
structure RecPlan (all:Array Oper) (M:Nat→Nat) (D:List DOp):Prop where
 at':∀x∈D,all[x.i]? = some x.o
 kd:∀x∈D,x.kd=wE x.o.op
 bits:∀x∈D,∀b,zL (M x.i) b=true→∃e∈x.o.after.toList,xO e=true∧(b=e.on∨zL (M e.on) b=true)
 ahead:∀A x B,D=A++x::B→(∀b,zL (M x.i) b=true→∃y∈A,y.i=b)∧(∀y∈A,y.i≠x.i)
 next:∀A S x B,D=A++(S++x::B)→x.kd=3→(∀y∈S,y.kd≠3)→∀y∈S,zL (M x.i) y.i=true
 pair:∀x∈D,∀y∈D,∀d,x.o.dst=some d→(Sees all y.o d∨y.o.dst=some d)→x.i=y.i∨(y.o.dst≠some d∧(zL (M y.i) x.i=true∨zL (M x.i) y.i=true))
 act:∀x∈D,∀y∈D,x.kd=3→y.kd=3→x.i=y.i∨zL (M y.i) x.i=true∨zL (M x.i) y.i=true
 low:∀x∈D,x.low=D.countP fun c=>Nat.beq c.kd 3 && zL (M x.i) c.i
 high:∀x∈D,x.high=D.countP fun c=>Nat.beq c.kd 3 && (!zL (M c.i) x.i && !Nat.beq c.i x.i)
section
variable {all:Array Oper} {M:Nat→Nat} {D:List DOp}
theorem RecPlan.later(K:RecPlan all M D){A B C:List DOp}{x y:DOp}(h:D=A++x::(B++y::C)):zL (M x.i) y.i=false∧x.i≠y.i:=by
 obtain⟨h1,h2⟩:=K.ahead A x _ h;obtain⟨_,h4⟩:=K.ahead (A++x::B) y C (by rw[h];simp);refine⟨?_,h4 x (by simp)⟩
 cases e:zL (M x.i) y.i with
 | false=>rfl
 | true=>
  obtain⟨z,hz,ez⟩:=h1 _ e;exact absurd ez (h4 z (by simp[hz]))
end
structure Cfg where
 t0:Fr
 W0:W
 a0:Act
 wd0:World
 cs0:List Frame
 ρ0:Inj
 base:Nat
 w00:World
 b:Frame
 cx:Cx
 t1:Fr
 w1:W
section
variable (P:Program) (ng:Nat) (all:Array Oper) (M:Nat→Nat) (D E:List DOp) (C:Cfg)
structure Inv (pre suf:List Rec) (ts:Fr) (ws:W) (lst:Nat→Prop) (ρ : Inj) (H:zI) (a:Act) (wd:World) (cs:List Frame):Prop where
 dd:D=(pre++suf).map (·.x)++E
 r1:RecsOK P ng all C.cx pre C.t0 C.W0 ts ws
 r2:RecsOK P ng all C.cx suf ts ws C.t1 C.w1
 last:pre=[]∨∃p r,pre=p++[r]∧r.x.kd=3
 pl:∀r∈pre,lst r.x.i
 sl:∀r∈suf,r.x.kd=3→¬lst r.x.i
 only:∀i,lst i→∃r∈pre++suf,r.x.i=i
 closed:∀i,lst i→∀j,zL (M i) j=true→lst j
 in0:In0 P ng (ρ.cut ws.n) C.base C.w00 C.b a wd cs C.cx ws
 hp:∀m,ws.n≤m→HeapR P ng (ρ.cut m) C.base C.w00 H m wd
 gr:∀m,ws.n≤m→Grow C.ρ0 C.W0.h C.W0.n C.wd0 (ρ.cut m) H m wd
 cst:CsTo C.cx.df C.cs0 cs
 hh:∀b,b<ws.n→zH H b=zH ws.h b
 mkd:∀r∈suf,r.x.kd=2→r.sk=false→lst r.x.i→zH H r.w.n=zH r.w2.h r.w.n
 ex:∀b B,ws.n≤b→ρ b=some B→∃r∈suf,r.x.kd=2∧r.sk=false∧lst r.x.i∧r.w.n=b
 val:∀r∈pre++suf,lst r.x.i→∀d,r.x.o.dst=some d→∃v',a.tmps[d]? = some v'∧RV (ρ.cut r.w2.n) r.v v'
 un:∀d,(∀r∈pre++suf,lst r.x.i→r.x.o.dst≠some d)→a.tmps[d]? = C.a0.tmps[d]?
 tm0:TmR (ρ.cut C.W0.n) (ntm P C.cx.fn) C.t0 C.a0.tmps
 sz:a.tmps.size=C.a0.tmps.size
variable {P ng all M D E C}
variable {pre suf:List Rec} {ts:Fr} {ws:W} {lst:Nat→Prop} {ρ : Inj} {H:zI} {a:Act} {wd:World} {cs:List Frame}
theorem Inv.slot(I:Inv P ng all M D E C pre suf ts ws lst ρ H a wd cs)(K:RecPlan all M D){A S:List Rec}{x:DOp}{rest:List DOp}{t:Fr}{w:W}(hs:suf=A++S)
(hD:D=(pre++A).map (·.x)++x::rest)(hA:RecsOK P ng all C.cx A ts ws t w)(hx:¬lst x.i)(hm:∀b,zL (M x.i) b=true→lst b){d:Nat}(hd:Sees all x.o d){v:Value}(hv:a.tmps[d]? = some v) :
 RV (ρ.cut w.n) (fget t d) v:=by
 have hall:RecsOK P ng all C.cx (pre++A) C.t0 C.W0 t w:=recs_app I.r1 hA
 have hrest:S.map (·.x)++E=x::rest:=by
  have e:=I.dd;rw [hs,hD,← List.append_assoc,List.map_append (l₁:=pre++A),List.append_assoc]at e;exact(List.append_cancel_left e).symm
 have hxD:x∈D:=by rw[hD];simp
 obtain⟨ha1,ha2⟩:=K.ahead _ x rest hD;by_cases hw:∃y∈pre++A,y.x.o.dst=some d
 · obtain⟨y,hy,hyd⟩:=hw;obtain⟨A1,A2,hsp⟩:=List.append_of_mem hy;have hDy:D=A1.map (·.x)++y.x::(A2.map (·.x)++x::rest):=by rw[hD,hsp];simp
   obtain⟨l1,l2⟩:=K.later hDy
   have hyl:lst y.x.i:=by
    rcases K.pair y.x (by rw[hDy];simp) x hxD d hyd (.inl hd) with h|⟨_,h|h⟩
    · exact absurd h l2
    · exact hm _ h
    · rw[l1]at h;cases h
   obtain⟨v',q1,q2⟩:=I.val y (by rw[hs,← List.append_assoc];exact List.mem_append_left _ hy) hyl d hyd;rw [hv]at q1;injection q1 with q1;subst q1
   rw[hsp]at hall
   have h2:fget t d=y.v:=recs_write hall hyd fun z hz e=>by
    obtain⟨B1,B2,hz2⟩:=List.append_of_mem hz;have hDz:D=A1.map (·.x)++y.x::(B1.map (·.x)++z.x::(B2.map (·.x)++x::rest)):=by rw[hDy,hz2];simp
    obtain⟨_,l4⟩:=K.later hDz;rcases K.pair y.x (by rw[hDz];simp) z.x (by rw[hDz];simp) d hyd (.inr e) with h|⟨h,_⟩
    · exact l4 h
    · exact h e
   rw[h2];have:=((xP hall).2 y (by simp)).2.2;exact q2.mono (cut_le this)
 · have hno:∀r∈pre++A,r.x.o.dst≠some d:=fun r hr e=>hw ⟨r,hr,e⟩;rw [recs_slot hall hno]
   have hun:a.tmps[d]? = C.a0.tmps[d]? :=I.un d fun r hr hl e=>by
    rw[hs,← List.append_assoc]at hr;rcases List.mem_append.1 hr with hr|hr
    · exact hno r hr e
    have hmem:r.x∈x::rest:=by rw[← hrest];exact List.mem_append_left _ (List.mem_map.2 ⟨r,hr,rfl⟩)
    rcases List.mem_cons.1 hmem with h|h
    · rw[h]at hl;exact hx hl
    · obtain⟨B1,B2,hz2⟩:=List.append_of_mem h;have hDz:D=(pre++A).map (·.x)++x::(B1++r.x::B2):=by rw[hD,hz2]
      obtain⟨l3,l4⟩:=K.later hDz;rcases K.pair r.x (by rw[hDz];simp) x hxD d e (.inl hd) with h|⟨_,h|h⟩
      · exact l4 h.symm
      · rw[l3]at h;cases h
      · exact hx (I.closed _ hl _ h)
   rw[hun]at hv;exact(I.tm0.tm d v hv).mono (cut_le (xP hall).1)
theorem ev_one{N m:Nat}{h:zI}(hH:HeapR P ng ρ C.base C.w00 h m wd){t:Fr}{x:Operand}(hx:opnOK ng N x=true)(hN:N≤a.tmps.size)(hs:∀d,x = .tmp d→∀v,a.tmps[d]? = some v→RV ρ (fget t d) v):RV ρ (ev t x) (a.eval x):=by
 cases x with
 | tmp i=>
  have hi:i<N:=zR hx;have hlt:i<a.tmps.size:=Nat.lt_of_lt_of_le hi hN;have h:=hs i rfl a.tmps[i] (Array.getElem?_eq_getElem hlt);show RV ρ (fget t i) (a.tmps.getD i undef);rw [Array.getD,dif_pos hlt];exact h
 | const v=>exact RV.plain hx ρ
 | global g=>
  obtain⟨B,e1,e2⟩:=hH.glob g (zR hx);have:=RV.ptr (o:=0) e1;rw [e2]at this;exact this
 | func f=>exact .func (by intro l;exact Fn.noConfusion) rfl rfl (by intro i v v' e;simp at e) (by intro i v v' e;simp at e)
theorem Inv.looks(I:Inv P ng all M D E C pre suf ts ws lst ρ H a wd cs)(K:RecPlan all M D)(hc:∀o∈all.toList,vJ ng (ntm P C.cx.fn) o=true){A S:List Rec}{x:DOp}{rest:List DOp}{t:Fr}{w:W}(hs:suf=A++S)
(hD:D=(pre++A).map (·.x)++x::rest)(hA:RecsOK P ng all C.cx A ts ws t w)(hx:¬lst x.i)(hm:∀b,zL (M x.i) b=true→lst b) :
 OpsR (ρ.cut w.n) t a x.o∧Region.wanted x.o (yielded all a.tmps)=wanted all t x.o.guard:=by
 have hall:RecsOK P ng all C.cx (pre++A) C.t0 C.W0 t w:=recs_app I.r1 hA;have hwn:ws.n≤w.n:=(xP hA).1;have hxD:x∈D:=by rw[hD];simp
 have hmem:∀{g:Nat} {o:Oper},all[g]? = some o→o∈all.toList:=fun ho=>by rw[← Array.getElem?_toList]at ho;exact List.mem_iff_getElem?.2 ⟨_,ho⟩
 have hN:ntm P C.cx.fn≤a.tmps.size:=by rw[I.sz];exact I.tm0.le
 refine⟨fun y hy=>?_,wanted_ok fun g q hg d hd=>?_⟩
 · refine ev_one (I.hp w.n hwn) (List.all_eq_true.1 (Bool.and_eq_true_iff.1 (hc x.o (hmem (K.at' x hxD)))).1 y hy) hN fun d e v hv=>?_;subst e;exact I.slot K hs hD hA hx hm (.inl hy) hv
 · have hlt:d<ntm P C.cx.fn:=by
    unfold dstOf at hd
    cases ho:all[g]? with
    | none=>rw [ho]at hd;cases hd
    | some og=>
     rw[ho]at hd;have:=(Bool.and_eq_true_iff.1 (hc og (hmem ho))).2;dsimp only at hd;rw [hd]at this;exact zR this
   have hlt2:d<a.tmps.size:=Nat.lt_of_lt_of_le hlt hN;have e1:=Array.getElem?_eq_getElem hlt2;exact⟨a.tmps[d],e1,(I.slot K hs hD hA hx hm (.inr ⟨g,q,hg,hd⟩) e1).boolOf⟩
end
theorem quiet_free{o:Op}(hk:wE o=0)(P:Program)(t:Fr)(h h':zI):vY o P t h=vY o P t h':=by
 cases o with
 | call c=>
  obtain⟨callee,asz,ts⟩:=c
  cases callee with
  | builtin b=>cases b <;> cases hk
  | value f=>cases hk
  | invoke r m=>cases hk
 | load _ _=>cases hk
 | lookup _ _ _ _=>cases hk
 | slice _ _ _ _ _=>cases hk
 | _=>rfl
theorem blkLt_ptr{n:Nat}{a:Addr}(h:blkLt n (.pointer (some a))=true):a.block<n:=zR h
theorem blkLt_slice{n l c:Nat}{a:Addr}(h:blkLt n (.slice (some a) l c)=true):a.block<n:=zR h
theorem blkLt_map{n r:Nat}(h:blkLt n (.map (some r))=true):r<n:=zR h
theorem quiet_at{o:Op}(hk:wE o=1)(P:Program)(t:Fr){n:Nat}(hl:lookLt n o t=true){h h':zI}(e:∀b,b<n→zH h' b=zH h b):vY o P t h'=vY o P t h:=by
 cases o with
 | load ty x =>
  have hl:blkLt n (ev t x)=true:=hl;show onPtr (ev t x) _ none=onPtr (ev t x) _ none;generalize ev t x=v at hl
  cases v with
  | pointer a =>
   cases a with
   | none=>rfl
   | some a =>
    obtain⟨b,off,s⟩:=a
    cases s with
    | some s=>rfl
    | none=>
     have:=e b (blkLt_ptr hl);unfold zH at this;show onCells (zH h' b) _ none=onCells (zH h b) _ none;unfold zH;rw [this]
  | _=>rfl
 | lookup ty x key ok =>
  have hl:blkLt n (ev t x)=true:=hl;show aLookup P h' ty (ev t x) (ev t key) ok=aLookup P h ty (ev t x) (ev t key) ok;generalize ev t x=v at hl
  cases v with
  | map r =>
   cases r with
   | none=>rfl
   | some r=>
    have:=e r (blkLt_map hl);unfold aLookup;simp only[this]
  | _=>rfl
 | slice ty x lo hi mx =>
  have hl:blkLt n (ev t x)=true:=hl;show aSlice P h' ty (ev t x) (lo.map (ev t)) (hi.map (ev t)) (mx.map (ev t))=aSlice P h ty (ev t x) (lo.map (ev t)) (hi.map (ev t)) (mx.map (ev t));generalize ev t x=v at hl
  unfold aSlice
  cases und P ty with
  | none=>rfl
  | some d =>
   cases v with
   | slice a l c =>
    cases a with
    | none=>cases d <;> rfl
    | some a =>
     have:=e a.block (blkLt_slice hl);obtain⟨b,off,s⟩:=a
     cases s with
     | some s=>cases d <;> rfl
     | none=>
      have this:zH h' b=zH h b:=this;cases d <;> simp only[this]
   | pointer a =>
    cases a with
    | none=>cases d <;> rfl
    | some a=>
     obtain⟨b,off,s⟩:=a;cases s <;> cases d <;> rfl
   | _=>cases d <;> rfl
 | call c =>
  obtain⟨callee,asz,ts⟩:=c
  cases callee with
  | value f=>cases hk
  | invoke r m=>cases hk
  | builtin b =>
   show quietB P b ts.toList (asz.toList.map (ev t)) h'=quietB P b ts.toList (asz.toList.map (ev t)) h;have hl:(match asz.toList with|x::_=>blkLt n (ev t x)|[]=>true)=true:=hl;generalize asz.toList=l at hl ⊢
   generalize ts.toList=tl
   cases b <;> first|rfl|skip
   cases l with
   | nil=>rfl
   | cons x l =>
    cases tl with
    | nil=>rfl
    | cons ty tl =>
     have hl:blkLt n (ev t x)=true:=hl;show aLen P h' ty (ev t x)=aLen P h ty (ev t x);generalize ev t x=v at hl
     unfold aLen
     cases und P ty with
     | none=>rfl
     | some d =>
      cases v with
      | map r =>
       cases r with
       | none=>cases d <;> rfl
       | some r=>
        have:=e r (blkLt_map hl);cases d <;> simp only[this]
      | _=>cases d <;> rfl
 | makeMap t r=>cases r <;> cases hk
 | _=>cases hk
theorem two_of{α : Type}{l:List α}{x y: α}(hx:x∈l)(hy:y∈l):x=y∨(∃A B C,l=A++x::(B++y::C))∨∃A B C,l=A++y::(B++x::C):=by
 obtain⟨A,B,rfl⟩:=List.append_of_mem hx;rcases List.mem_append.1 hy with h|h
 · obtain⟨A1,A2,rfl⟩:=List.append_of_mem h;exact .inr (.inr ⟨A1,A2,B,by simp⟩)
 · rcases List.mem_cons.1 h with h|h
   · exact .inl h.symm
   · obtain⟨B1,B2,rfl⟩:=List.append_of_mem h;exact .inr (.inl ⟨A,B1,B2,rfl⟩)
section
variable {P:Program} {ng:Nat} {all:Array Oper} {M:Nat→Nat} {D E:List DOp} {C:Cfg}
variable {pre suf:List Rec} {ts:Fr} {ws:W} {lst:Nat→Prop} {ρ : Inj} {H:zI} {a:Act} {wd:World} {cs:List Frame}
theorem Inv.uniq(I:Inv P ng all M D E C pre suf ts ws lst ρ H a wd cs)(K:RecPlan all M D){r r':Rec}(h:r∈pre++suf)(h':r'∈pre++suf)(e:r.x.i=r'.x.i):r=r':=by
 rcases two_of h h' with h1|⟨X,Y,Z,h1⟩|⟨X,Y,Z,h1⟩
 · exact h1
 · exact absurd e (K.later (A:=X.map (·.x)) (B:=Y.map (·.x)) (C:=Z.map (·.x)++E) (by rw[I.dd,h1];simp)).2
 · exact absurd e.symm (K.later (A:=X.map (·.x)) (B:=Y.map (·.x)) (C:=Z.map (·.x)++E) (by rw[I.dd,h1];simp)).2
theorem put_at{a:Act}{o:Option Tmp}{v:Value}{d:Nat}(h:o≠some d):(a.put o v).tmps[d]? = a.tmps[d]? :=by
 cases o with
 | none=>rfl
 | some e=>
  have:e≠d:=fun q=>h (by rw[q]);simp [Act.put,Array.getElem?_setIfInBounds_ne this]
theorem put_self_at{a:Act}{v:Value}{d:Nat}(h:d<a.tmps.size):(a.put (some d) v).tmps[d]? = some v:=by
 simp[Act.put,h]
theorem put_size{a:Act}{o:Option Tmp}{v:Value}:(a.put o v).tmps.size=a.tmps.size:=by
 cases o <;> simp[Act.put]
theorem Inv.note(I:Inv P ng all M D E C pre suf ts ws lst ρ H a wd cs)(K:RecPlan all M D)(hc:∀o∈all.toList,vJ ng (ntm P C.cx.fn) o=true){r:Rec}(hr:r∈suf)(h3:r.x.kd≠3)
(hx:¬lst r.x.i)(hm:∀b,zL (M r.x.i) b=true→lst b){ρ1:Inj}{H1:zI}{wd1:World}{v':Value}(hle: ρ.le ρ1)(hv:RV (ρ1.cut r.w2.n) r.v v')
(in0:In0 P ng (ρ1.cut ws.n) C.base C.w00 C.b a wd1 cs C.cx ws)(hp:∀m,ws.n≤m→HeapR P ng (ρ1.cut m) C.base C.w00 H1 m wd1)(gr:∀m,ws.n≤m→Grow C.ρ0 C.W0.h C.W0.n C.wd0 (ρ1.cut m) H1 m wd1)
(hh:∀b,b<ws.n→zH H1 b=zH ws.h b)(mkd:∀q∈suf,q.x.kd=2→q.sk=false→(lst q.x.i∨q=r)→zH H1 q.w.n=zH q.w2.h q.w.n)
(ex:∀b B,ws.n≤b→ρ1 b=some B→∃q∈suf,q.x.kd=2∧q.sk=false∧(lst q.x.i∨q=r)∧q.w.n=b) :
 Inv P ng all M D E C pre suf ts ws (fun i=>lst i∨i=r.x.i) ρ1 H1 (a.put r.x.o.dst v') wd1 cs:=by
 have hrm:r∈pre++suf:=List.mem_append_right _ hr;have hrD:r.x∈D:=by rw[I.dd];exact List.mem_append_left _ (List.mem_map.2 ⟨r,hrm,rfl⟩)
 have hdst:∀q∈pre++suf,lst q.x.i→∀d,q.x.o.dst=some d→r.x.o.dst≠some d:=by
  intro q hq hl d e e2;have hqD:q.x∈D:=by rw[I.dd];exact List.mem_append_left _ (List.mem_map.2 ⟨q,hq,rfl⟩)
  rcases K.pair q.x hqD r.x hrD d e (.inr e2) with h|⟨h,_⟩
  · rw[h]at hl;exact hx hl
  · exact h e2
 have hlt:∀d,r.x.o.dst=some d→d<a.tmps.size:=by
  intro d e
  have hmem:r.x.o∈all.toList:=by
   have ho:=K.at' r.x hrD;rw [← Array.getElem?_toList]at ho;exact List.mem_iff_getElem?.2 ⟨_,ho⟩
  have:=(Bool.and_eq_true_iff.1 (hc r.x.o hmem)).2;rw [e]at this;have h1:d<ntm P C.cx.fn:=zR this;rw [I.sz];exact Nat.lt_of_lt_of_le h1 I.tm0.le
 refine⟨I.dd,I.r1,I.r2,I.last,fun q hq=>.inl (I.pl q hq),?_,?_,?_,in0.act (put_defers a _ _),hp,gr,I.cst,hh,?_,?_,?_,?_,I.tm0.mono (cut_mono hle _),put_size.trans I.sz⟩
 · intro q hq hk hl;rcases hl with hl|hl
   · exact I.sl q hq hk hl
   · have:=I.uniq K (List.mem_append_right _ hq) hrm hl;rw [this]at hk;exact h3 hk
 · intro i hi;rcases hi with hi|rfl
   · exact I.only i hi
   · exact⟨r,hrm,rfl⟩
 · intro i hi j hj;rcases hi with hi|rfl
   · exact .inl (I.closed i hi j hj)
   · exact .inl (hm j hj)
 · intro q hq h2 hsk hl;refine mkd q hq h2 hsk ?_;rcases hl with hl|hl
   · exact .inl hl
   · exact .inr (I.uniq K (List.mem_append_right _ hq) hrm hl)
 · intro b B hb e;obtain⟨q,q1,q2,q3,q4,q5⟩:=ex b B hb e;exact⟨q,q1,q2,q3,q4.imp id (fun e=>by rw[e]),q5⟩
 · intro q hq hl d hd;by_cases hql:lst q.x.i
   · obtain⟨v2,e1,e2⟩:=I.val q hq hql d hd;exact⟨v2,by rw[put_at (hdst q hq hql d hd)];exact e1,e2.mono (cut_mono hle _)⟩
   · have hqr:q=r:=I.uniq K hq hrm (hl.resolve_left hql);subst hqr;exact⟨v',by rw[hd];exact put_self_at (hlt d hd),hv⟩
 · intro d hd;rw [put_at (hd r hrm (.inr rfl))];exact I.un d fun q hq hl=>hd q hq (.inl hl)
theorem Inv.calm(I:Inv P ng all M D E C pre suf ts ws lst ρ H a wd cs)(K:RecPlan all M D)(hc:∀o∈all.toList,vJ ng (ntm P C.cx.fn) o=true){r:Rec}(hr:r∈suf)(h3:r.x.kd≠3)(h2:r.x.kd≠2∨r.sk=true)
(hx:¬lst r.x.i)(hm:∀b,zL (M r.x.i) b=true→lst b){v':Value}(hv:RV (ρ.cut r.w2.n) r.v v') :
 Inv P ng all M D E C pre suf ts ws (fun i=>lst i∨i=r.x.i) ρ H (a.put r.x.o.dst v') wd cs:=
 I.note K hc hr h3 hx hm (Inj.le.refl ρ) hv I.in0 I.hp I.gr I.hh
  (fun q hq q2 q3 q4=>I.mkd q hq q2 q3 (q4.resolve_right fun e=>by
   subst e;rcases h2 with h2|h2
   · exact h2 q2
   · rw[h2]at q3;cases q3))
  (fun b B hb e=>let ⟨q,q1,q2,q3,q4,q5⟩:=I.ex b B hb e;⟨q,q1,q2,q3,.inl q4,q5⟩)
end
theorem hsOf_app:∀(A B:List Rec) (hs:List W),hsOf (A++B) hs=hsOf B (hsOf A hs):=by
 intro A
 induction A with
 | nil=>intro B hs;rfl
 | cons r A ih=>intro B hs;exact ih B _
theorem hsOf_ends:∀(R:List Rec) (hs:List W),∃X,hsOf R hs=X++hs:=by
 intro R
 induction R with
 | nil=>intro hs;exact⟨[],rfl⟩
 | cons r R ih=>
  intro hs;obtain⟨X,e⟩:=ih (cond (Nat.beq r.x.kd 3) (r.w2::hs) hs)
  cases h:Nat.beq r.x.kd 3 with
  | true=>exact⟨X++[r.w2],by rw[h]at e;show hsOf R (cond (Nat.beq r.x.kd 3) (r.w2::hs) hs)=_;rw [h,e];simp⟩
  | false=>exact⟨X,by rw[h]at e;show hsOf R (cond (Nat.beq r.x.kd 3) (r.w2::hs) hs)=_;rw [h,e];rfl⟩
theorem hsOf_len:∀(R:List Rec) (hs:List W),(hsOf R hs).length=(R.map (·.x)).countP (fun c=>Nat.beq c.kd 3)+hs.length:=by
 intro R
 induction R with
 | nil=>intro hs;simp [hsOf]
 | cons r R ih=>
  intro hs;show(hsOf R (cond (Nat.beq r.x.kd 3) (r.w2::hs) hs)).length=_;rw [ih];cases h:Nat.beq r.x.kd 3 <;> simp[h];omega
theorem lsOf_keep:∀(R:List Rec) (ls:List Look) (l:Look),l∈ls→l∈lsOf R ls:=by
 intro R
 induction R with
 | nil=>intro ls l h;exact h
 | cons r R ih=>
  intro ls l h;refine ih _ l ?_
  cases (!r.sk && (Nat.beq r.x.kd 1 && !Nat.beq r.x.low r.x.high)) with
  | true=>exact List.mem_cons_of_mem _ h
  | false=>exact h
theorem lsOf_mem:∀(R:List Rec) (ls:List Look) (r:Rec),r∈R→r.sk=false→r.x.kd=1→r.x.low≠r.x.high→(⟨r.x.o.op,r.t,r.v,r.x.low,r.x.high⟩:Look)∈lsOf R ls:=by
 intro R
 induction R with
 | nil=>intro ls r h;simp at h
 | cons q R ih=>
  intro ls r h h1 h2 h3;rcases List.mem_cons.1 h with rfl|h
  · refine lsOf_keep R _ _ ?_
    have e:Nat.beq r.x.low r.x.high=false:=by
     cases e:Nat.beq r.x.low r.x.high with
     | false=>rfl
     | true=>exact absurd (zG e) h3
    rw[h1,h2,e];exact List.mem_cons_self
  · exact ih _ r h h1 h2 h3
theorem looksOK_mem{P:Program}{k:Nat}{hs:List W}:∀{ls:List Look},wT P k hs ls=true→∀l∈ls,lookOK P l k hs=true:=by
 intro ls
 induction ls with
 | nil=>intro _ l h;simp at h
 | cons q ls ih=>
  intro h l hl;have h':(lookOK P q k hs && wT P k hs ls)=true:=h;obtain⟨h1,h2⟩:=Bool.and_eq_true_iff.1 h';rcases List.mem_cons.1 hl with rfl|hl
  · exact h1
  · exact ih h2 l hl
theorem le_ble{a b:Nat}(h:a≤b):Nat.ble a b=true:=by rw[Nat.ble_eq];exact h
theorem lookOK_at{P:Program}{l:Look}:∀{X:List W} {w:W} {Y:List W},lookOK P l (X++w::Y).length (X++w::Y)=true→l.low≤Y.length→Y.length≤l.high→
 lookLt w.n l.o l.t=true∧∃v,vY l.o P l.t w.h=some v∧sameB v l.v=true:=by
 intro X
 induction X with
 | nil =>
  intro w Y h h1 h2
  have h':((cond (Nat.ble l.low Y.length && Nat.ble Y.length l.high) (lookLt w.n l.o l.t && (match vY l.o P l.t w.h with
   | some v=>sameB v l.v
   | none=>false)) true) && lookOK P l Y.length Y)=true:=h
  obtain⟨h3,_⟩:=Bool.and_eq_true_iff.1 h';rw [le_ble h1,le_ble h2]at h3
  obtain⟨h4,h5⟩:=Bool.and_eq_true_iff.1 (show(lookLt w.n l.o l.t && (match vY l.o P l.t w.h with
   | some v=>sameB v l.v
   | none=>false))=true from h3)
  refine⟨h4,?_⟩
  cases hq:vY l.o P l.t w.h with
  | none=>rw [hq]at h5;cases h5
  | some v=>rw [hq]at h5;exact⟨v,rfl,h5⟩
 | cons q X ih =>
  intro w Y h h1 h2
  have h':((cond (Nat.ble l.low (X++w::Y).length && Nat.ble (X++w::Y).length l.high) (lookLt q.n l.o l.t && (match vY l.o P l.t q.h with
   | some v=>sameB v l.v
   | none=>false)) true) && lookOK P l (X++w::Y).length (X++w::Y))=true:=h
  exact ih (Bool.and_eq_true_iff.1 h').2 h1 h2
theorem wM{v v':Value}(h:scalB v v'=true):v=v':=by
 unfold scalB at h;split at h <;> try (first|rfl|(exact absurd h Bool.false_ne_true))
 · rename_i a b;cases a <;> cases b <;> first|rfl|cases h
 · obtain⟨h1,h2⟩:=Bool.and_eq_true_iff.1 h;rw [vK]at h2;rw [vL h1,of_decide_eq_true h2]
 · rename_i a b;rw [vD]at h;have e:=eq_of_beq h;obtain⟨⟨a⟩⟩:=a;obtain⟨⟨b⟩⟩:=b;have e:a=b:=e;rw [e]
 · obtain⟨h1,h2⟩:=Bool.and_eq_true_iff.1 h;rw [zG h1,zG h2]
 · obtain⟨h1,h2⟩:=Bool.and_eq_true_iff.1 h;rw [zG h1,zG h2]
 · obtain⟨h1,h4⟩:=Bool.and_eq_true_iff.1 h;obtain⟨h1,h3⟩:=Bool.and_eq_true_iff.1 h1;obtain⟨h1,h2⟩:=Bool.and_eq_true_iff.1 h1;rw [zG h1,zG h2,zG h3,zG h4]
 · rw[zG h]
theorem scalsB_eq:∀{l l':List Value},scalsB l l'=true→l=l':=by
 intro l
 induction l with
 | nil=>intro l' h;cases l' with
  | nil=>rfl
  | cons b l'=>cases h
 | cons a l ih => intro l' h; cases l' with
  | nil=>cases h
  | cons b l'=>
   have h':(scalB a b && scalsB l l')=true:=h;obtain⟨h1,h2⟩:=Bool.and_eq_true_iff.1 h';rw [wM h1,ih h2]
theorem sameB_eq{v v':Value}(h:sameB v v'=true):v=v':=by
 unfold sameB at h;split at h
 · rename_i a b;have e:=scalsB_eq h;obtain⟨a⟩:=a;obtain⟨b⟩:=b;have e:a=b:=e;rw [e]
 · rename_i a b;have e:=scalsB_eq h;obtain⟨a⟩:=a;obtain⟨b⟩:=b;have e:a=b:=e;rw [e]
 · rename_i f a b g c d;obtain⟨h1,h2⟩:=Bool.and_eq_true_iff.1 h;obtain⟨h2,h3⟩:=Bool.and_eq_true_iff.1 h2;have e1:=scalsB_eq h2;have e2:=scalsB_eq h3;obtain⟨a⟩:=a;obtain⟨b⟩:=b;obtain⟨c⟩:=c;obtain⟨d⟩:=d;have e1:a=c:=e1;have e2:b=d:=e2;rw [zG h1,e1,e2]
 · exact wM h
theorem countP_lt{α : Type}{p q: α→Bool}{l:List α}(h:∀x∈l,p x=true→q x=true){c: α}(hc:c∈l)(hp:p c=false)(hq:q c=true):l.countP p<l.countP q:=by
 obtain⟨A,B,rfl⟩:=List.append_of_mem hc;have h1:A.countP p≤A.countP q:=List.countP_mono_left fun x hx=>h x (by simp[hx]);have h2:B.countP p≤B.countP q:=List.countP_mono_left fun x hx=>h x (by simp[hx]);simp only[List.countP_append,List.countP_cons,hp,hq];simp;omega
section
variable {P:Program} {ng:Nat} {all:Array Oper} {M:Nat→Nat} {D E:List DOp} {C:Cfg}
variable {pre suf:List Rec} {ts:Fr} {ws:W} {lst:Nat→Prop} {ρ : Inj} {H:zI} {a:Act} {wd:World} {cs:List Frame}
theorem seg_ok{cx:Cx}:∀{A:List Rec} {t t':Fr} {w w':W},RecsOK P ng all cx A t w t' w'→(∀r∈A,r.x.kd≠3∧r.x.kd=wE r.x.o.op)→
 w'.d=w.d∧w'.u=w.u∧(∀b,b<w.n→zH w'.h b=zH w.h b)∧∀r∈A,r.x.kd=2→r.sk=false→zH w'.h r.w.n=zH r.w2.h r.w.n:=by
 intro A
 induction A with
 | nil=>intro t t' w w' h _;cases h;exact⟨rfl,rfl,fun _ _=>rfl,fun r hr=>by simp at hr⟩
 | cons r A ih =>
  intro t t' w w' h hk;have hk':∀r∈A,r.x.kd≠3∧r.x.kd=wE r.x.o.op:=fun q hq=>hk q (by simp[hq]);obtain⟨k3,kk⟩:=hk r (by simp)
  cases h with
  | cons hr hrs =>
   obtain⟨i1,i2,i3,i4⟩:=ih hrs hk'
   have key:r.w2.d=r.w.d∧r.w2.u=r.w.u∧(∀b,b<r.w.n→zH r.w2.h b=zH r.w.h b)∧(r.x.kd=2→r.sk=false→r.w.n<r.w2.n):=by
    cases hr with
    | skip=>exact⟨rfl,rfl,fun _ _=>rfl,fun _ h=>by cases h⟩
    | look hw hkk=>exact⟨rfl,rfl,fun _ _=>rfl,fun h=>by dsimp only at h;omega⟩
    | made hw hkk hn=>exact⟨rfl,rfl,fun b hb=>by dsimp only at hb ⊢;rw [zJ,if_neg (by omega)],fun _ _=>Nat.lt_succ_self _⟩
    | act hw hkk ho hn=>
     exfalso
     rename_i x t w w2 v;have h9:wE x.o.op≤3:=by unfold wE;split <;> (try split) <;> omega
     dsimp only at k3 kk;omega
   obtain⟨k1,k2,k4,k5⟩:=key;have hn:=rec_n hr;refine⟨i1.trans k1,i2.trans k2,fun b hb=>(i3 b (by omega)).trans (k4 b hb),fun q hq h2 hsk=>?_⟩;rcases List.mem_cons.1 hq with rfl|hq
   · exact i3 _ (k5 h2 hsk)
   · exact i4 q hq h2 hsk
theorem maker_uniq{cx:Cx}{R:List Rec}{t t':Fr}{w w':W}(h:RecsOK P ng all cx R t w t' w'){r r':Rec}(hr:r∈R)(hr':r'∈R)(k:r.x.kd=2)(k':r'.x.kd=2)(s:r.sk=false)(s':r'.sk=false)(e:r.w.n=r'.w.n):r=r':=by
 have grow:∀{r:Rec},RecOK P ng all cx r→r.x.kd=2→r.sk=false→r.w.n<r.w2.n:=by
  intro r h k s
  cases h with
  | skip=>cases s
  | look hw hkk=>dsimp only at k;omega
  | made=>exact Nat.lt_succ_self _
  | act hw hkk=>exact absurd k hkk.2.2
 have key:∀{r r':Rec} {X Y Z:List Rec},r.x.kd=2→r.sk=false→R=X++r::(Y++r'::Z)→r.w.n<r'.w.n:=by
  intro r r' X Y Z k s hR;rw [hR]at h;obtain⟨t1,w1,_,h2⟩:=vF h
  cases h2 with
  | cons h3 h4=>
   have h5:=grow h3 k s;have h6:=((xP h4).2 r' (by simp)).2.1;omega
 rcases two_of hr hr' with h1|⟨X,Y,Z,h1⟩|⟨X,Y,Z,h1⟩
 · exact h1
 · have:=key k s h1;omega
 · have:=key k' s' h1;omega
theorem Inv.seg(I:Inv P ng all M D E C pre suf ts ws lst ρ H a wd cs)(K:RecPlan all M D){A S:List Rec}{t:Fr}{w:W}(hs:suf=A++S)(hA:RecsOK P ng all C.cx A ts ws t w)(h3:∀r∈A,r.x.kd≠3) :
 w.d=ws.d∧w.u=ws.u∧∀b B,b<w.n→ρ b=some B→zH w.h b=zH H b:=by
 have hD:∀r∈A,r.x∈D:=fun r hr=>by rw[I.dd];exact List.mem_append_left _ (List.mem_map.2 ⟨r,by rw[hs];simp [hr],rfl⟩)
 obtain⟨s1,s2,s3,s4⟩:=seg_ok hA fun r hr=>⟨h3 r hr,K.kd _ (hD r hr)⟩;refine⟨s1,s2,fun b B hb e=>?_⟩;rcases Nat.lt_or_ge b ws.n with h|h
 · rw[s3 b h,I.hh b h]
 · obtain⟨q,q1,q2,q3,q4,q5⟩:=I.ex b B h e;have hr2:=I.r2;rw [hs]at hr2;obtain⟨t1,w1,x1,x2⟩:=vF hr2
   have hqA:q∈A:=by
    rw[hs]at q1;rcases List.mem_append.1 q1 with h|h
    · exact h
    · exfalso
      have h6:=((xP x2).2 q h).2.1;have e1:=recs_end hA x1;rw [← e1]at h6;omega
   subst q5;rw [s4 q hqA q2 q3,I.mkd q q1 q2 q3 q4]
end
section
variable {P:Program} {ng:Nat} {all:Array Oper} {M:Nat→Nat} {D E:List DOp} {C:Cfg}
variable {pre suf:List Rec} {ts:Fr} {ws:W} {lst:Nat→Prop} {ρ : Inj} {H:zI} {a:Act} {wd:World} {cs:List Frame}
theorem Inv.mem(I:Inv P ng all M D E C pre suf ts ws lst ρ H a wd cs){r:Rec}(h:r∈pre++suf):r.x∈D:=by
 rw[I.dd];exact List.mem_append_left _ (List.mem_map.2 ⟨r,h,rfl⟩)
theorem Inv.head(I:Inv P ng all M D E C pre suf ts ws lst ρ H a wd cs):∃Y,hsOf pre [C.W0]=ws::Y∧Y.length=(pre.map (·.x)).countP (fun c=>Nat.beq c.kd 3):=by
 rcases I.last with h|⟨p,r,h,h3⟩
 · subst h;have:=I.r1;cases this
   exact⟨[],rfl,rfl⟩
 · have h1:=I.r1;rw [h]at h1;obtain⟨t1,w1,_,h2⟩:=vF h1
   cases h2 with
   | cons h3' h4=>
    cases h4
    refine⟨hsOf p [C.W0],?_,?_⟩
    · rw[h,hsOf_app];show cond (Nat.beq r.x.kd 3) (r.w2::hsOf p [C.W0]) (hsOf p [C.W0])=_;rw [h3];rfl
    · rw[h,hsOf_len];simp [h3]
theorem Inv.look(hP:zP ng P=true)(I:Inv P ng all M D E C pre suf ts ws lst ρ H a wd cs)(K:RecPlan all M D)
(hL:wT P (hsOf (pre++suf) [C.W0]).length (hsOf (pre++suf) [C.W0]) (lsOf (pre++suf) [])=true)
{A B:List Rec}{r:Rec}(hs:suf=A++r::B)(hA:RecsOK P ng all C.cx A ts ws r.t r.w)(hsk:r.sk=false)(hk:r.x.kd=0∨r.x.kd=1)(hq:vY r.x.o.op P r.t r.w.h=some r.v)
(hx:¬lst r.x.i)(hm:∀b,zL (M r.x.i) b=true→lst b)(hO:OpsR (ρ.cut r.w.n) r.t a r.x.o) :
 ∃v',(execOp a.eval r.x.o).run P wd = .ok (.value v') wd∧RV (ρ.cut r.w.n) r.v v':=by
 have hwn:ws.n≤r.w.n:=(xP hA).1;have hrm:r∈pre++suf:=by rw[hs];simp
 have hrD:=I.mem hrm;have hkd:=K.kd _ hrD;have hDr:D=(pre++A).map (·.x)++r.x::(B.map (·.x)++E):=by rw[I.dd,hs];simp
 rcases hk with hk|hk
 · rw[quiet_free (hkd.symm.trans hk) P r.t r.w.h H]at hq;exact quiet_ok hP (I.hp _ hwn) hO hq
 by_cases hlh:r.x.low=r.x.high
 ·
  have hno:∀q∈A,q.x.kd≠3:=by
   intro q hqA h3;have hql:¬lst q.x.i:=I.sl q (by rw[hs];simp [hqA]) h3;obtain⟨A1,A2,hA2⟩:=List.append_of_mem hqA;have hDq:D=(pre++A1).map (·.x)++q.x::(A2.map (·.x)++r.x::(B.map (·.x)++E)):=by rw[hDr,hA2];simp
   obtain⟨l1,l2⟩:=K.later hDq
   have hlt:=countP_lt (l:=D) (p:=fun c=>Nat.beq c.kd 3 && zL (M r.x.i) c.i) (q:=fun c=>Nat.beq c.kd 3 && (!zL (M c.i) r.x.i && !Nat.beq c.i r.x.i)) (c:=q.x)
    (fun c hc hp=>by
     obtain⟨p1,p2⟩:=Bool.and_eq_true_iff.1 hp
     have b1:zL (M c.i) r.x.i=false∧c.i≠r.x.i:=by
      rcases two_of hc hrD with e|⟨X,Y,Z,e⟩|⟨X,Y,Z,e⟩
      · exfalso
        rw[e,hk]at p1;cases p1
      · exact K.later e
      · rw[(K.later e).1]at p2;cases p2
     have b2:Nat.beq c.i r.x.i=false:=by
      cases e:Nat.beq c.i r.x.i with
      | false=>rfl
      | true=>exact absurd (zG e) b1.2
     simp only[p1,b1.1,b2];rfl)
    (by rw[hDq];simp)
    (by
     have:zL (M r.x.i) q.x.i=false:=by
      cases e:zL (M r.x.i) q.x.i with
      | false=>rfl
      | true=>exact absurd (hm _ e) hql
     simp only[this,Bool.and_false])
    (by
     have b2:Nat.beq q.x.i r.x.i=false:=by
      cases e:Nat.beq q.x.i r.x.i with
      | false=>rfl
      | true=>exact absurd (zG e) l2
     simp only[h3,l1,b2];rfl)
   rw[← K.low _ hrD,← K.high _ hrD]at hlt;omega
  obtain⟨_,_,s3⟩:=I.seg K hs hA hno;exact quiet_ok hP ((I.hp _ hwn).congr fun b B e=>let ⟨h1,h2⟩:=yQ e;s3 b B h1 h2) hO hq
 ·
  have hmem:=lsOf_mem (pre++suf) [] r hrm hsk hk hlh;have hl:=looksOK_mem hL _ hmem;obtain⟨Y,hY1,hY2⟩:=I.head;obtain⟨X,hX⟩:=hsOf_ends suf (hsOf pre [C.W0]);rw [hsOf_app,hX,hY1]at hl
  have split:∀p:DOp→Bool,D.countP p=(pre.map (·.x)).countP p+((suf.map (·.x))++E).countP p:=by
   intro p;rw [I.dd,List.map_append,List.append_assoc,List.countP_append]
  have hlow:r.x.low≤Y.length:=by
   rw[K.low _ hrD,split,hY2]
   have z:((suf.map (·.x))++E).countP (fun c=>Nat.beq c.kd 3 && zL (M r.x.i) c.i)=0:=by
    rw[List.countP_eq_zero];intro c hc hp;obtain⟨p1,p2⟩:=Bool.and_eq_true_iff.1 hp;have hl':=hm _ p2;rcases List.mem_append.1 hc with hc|hc
    · obtain⟨q,hq1,rfl⟩:=List.mem_map.1 hc;exact I.sl q hq1 (zG p1) hl'
    · obtain⟨E1,E2,hE⟩:=List.append_of_mem hc;rw [(K.later (x:=r.x) (y:=c) (A:=(pre++A).map (·.x)) (B:=B.map (·.x)++E1) (C:=E2) (by rw[hDr,hE];simp)).1]at p2;cases p2
   rw[z];exact Nat.le_trans (Nat.le_of_eq (Nat.add_zero _)) (List.countP_mono_left fun c _ hp=>(Bool.and_eq_true_iff.1 hp).1)
  have hhigh:Y.length≤r.x.high:=by
   rw[K.high _ hrD,split,hY2];refine Nat.le_trans (List.countP_mono_left fun c hc hp=>?_) (Nat.le_add_right _ _);obtain⟨q,hq1,rfl⟩:=List.mem_map.1 hc;have hql:=I.pl q hq1
   have b1:zL (M q.x.i) r.x.i=false:=by
    cases e:zL (M q.x.i) r.x.i with
    | false=>rfl
    | true=>exact absurd (I.closed _ hql _ e) hx
   have b2:Nat.beq q.x.i r.x.i=false:=by
    cases e:Nat.beq q.x.i r.x.i with
    | false=>rfl
    | true=>rw [zG e]at hql;exact absurd hql hx
   simp only[hp,b1,b2];rfl
  obtain⟨k1,v,k2,k3⟩:=lookOK_at hl hlow hhigh;have hv:v=r.v:=sameB_eq k3;subst hv;have k2:vY r.x.o.op P r.t ws.h=some r.v:=k2;rw [← quiet_at (h':=H) (hkd.symm.trans hk) P r.t k1 I.hh]at k2;exact quiet_ok hP (I.hp _ hwn) hO k2
theorem Inv.made(I:Inv P ng all M D E C pre suf ts ws lst ρ H a wd cs)(K:RecPlan all M D)(hc:∀o∈all.toList,vJ ng (ntm P C.cx.fn) o=true)
{A B:List Rec}{r:Rec}{v:Nat→Value}{ob:AObj}(hs:suf=A++r::B)(hA:RecsOK P ng all C.cx A ts ws r.t r.w)(hk:r.x.kd=2)(hsk:r.sk=false)(hn:NewVal P ng r.x.o r.t v ob)
(hv:r.v=v r.w.n)(hw2:r.w2=W.mk r.w.d r.w.u (r.w.h.set .dead ob r.w.n) (r.w.n+1))
(hx:¬lst r.x.i)(hm:∀b,zL (M r.x.i) b=true→lst b)(hO:OpsR (ρ.cut r.w.n) r.t a r.x.o) :
 ∃v' wd' ρ1 H1,(execOp a.eval r.x.o).run P wd = .ok (.value v') wd'∧
  Inv P ng all M D E C pre suf ts ws (fun i=>lst i∨i=r.x.i) ρ1 H1 (a.put r.x.o.dst v') wd' cs:=by
 have hwn:ws.n≤r.w.n:=(xP hA).1;have hW0:C.W0.n≤ws.n:=(xP I.r1).1;have hr:r∈suf:=by rw[hs];simp
 obtain⟨Bl,o',v',b1,b2,b3,b4⟩:=hn (ρ.cut r.w.n) C.base C.w00 a wd H r.w.n hO (I.hp _ hwn)
 have hnone: ρ r.w.n=none:=by
  cases e: ρ r.w.n with
  | none=>rfl
  | some B=>
   obtain⟨q,q1,q2,q3,q4,q5⟩:=I.ex _ B hwn e;have:=maker_uniq I.r2 q1 hr q2 hk q3 hsk q5;rw [this]at q4;exact absurd q4 hx
 have hle:=Inj.le_put Bl hnone
 have hv':RV ((ρ.put r.w.n Bl).cut r.w2.n) r.v v':=by
  rw[hw2];show RV ((ρ.put r.w.n Bl).cut (r.w.n+1)) r.v v';rw [put_cut_succ,hv];exact b3
 refine⟨v',_,ρ.put r.w.n Bl,H.set .dead ob r.w.n,b2,I.note K hc hr (by omega) hx hm hle hv' ?_ ?_ ?_ ?_ ?_ ?_⟩
 · rw[put_cut_ge Bl hwn];exact⟨I.in0.fn,I.in0.kind,I.in0.rd,I.in0.rdf,I.in0.hp.push o',I.in0.dr,I.in0.ur,I.in0.fnd⟩
 · intro m hm';rcases Nat.lt_or_ge r.w.n m with h|h
   · rw[put_cut_lt Bl h];refine(I.hp m hm').add (by rw[zW h];exact hnone) h ob o' Bl b1 (b4.mono ?_);intro b B e;by_cases hb:b=r.w.n
     · simpa [Inj.put,hb] using e
     · simp[Inj.put,hb]at e ⊢;exact cut_le (Nat.le_of_lt h) _ _ e
   · rw[put_cut_ge Bl h]
     exact((I.hp m hm').push o').congr fun b B e=>by
      have:=(yQ e).1;rw [zJ,if_neg (by omega)]
 · intro m hm';rcases Nat.lt_or_ge r.w.n m with h|h
   · rw[put_cut_lt Bl h];exact(I.gr m hm').add (by omega) ob o' Bl b1
   · rw[put_cut_ge Bl h];exact((I.gr m hm').push o').congr fun b e=>by rw[zJ,if_neg (by omega)]
 · intro b hb;rw [zJ,if_neg (by omega)];exact I.hh b hb
 · intro q hq q2 q3 q4;rw [zJ];by_cases h:r.w.n=q.w.n
   · have:=maker_uniq I.r2 hr hq hk q2 hsk q3 h;subst this;rw [if_pos rfl,hw2];show ob=zH (r.w.h.set .dead ob r.w.n) r.w.n;rw [zJ,if_pos rfl]
   · rw[if_neg h];rcases q4 with q4|q4
     · exact I.mkd q hq q2 q3 q4
     · subst q4;exact absurd rfl h
 · intro b B hb e;by_cases h:b=r.w.n
   · exact⟨r,hr,hk,hsk,.inr rfl,h.symm⟩
   · obtain⟨q,q1,q2,q3,q4,q5⟩:=I.ex b B hb (by simpa [Inj.put,h] using e);exact⟨q,q1,q2,q3,.inl q4,q5⟩
end
section
variable {P:Program} {ng:Nat} {all:Array Oper} {M:Nat→Nat} {D E:List DOp} {C:Cfg}
variable {pre suf:List Rec} {ts:Fr} {ws:W} {lst:Nat→Prop} {ρ : Inj} {H:zI} {a:Act} {wd:World} {cs:List Frame}
theorem maker_grows{cx:Cx}{r:Rec}(h:RecOK P ng all cx r)(k:r.x.kd=2)(s:r.sk=false):r.w.n<r.w2.n:=by
 cases h with
 | skip=>cases s
 | look hw hkk=>dsimp only at k;omega
 | made=>exact Nat.lt_succ_self _
 | act hw hkk=>exact absurd k hkk.2.2
theorem Inv.at_act(I:Inv P ng all M D E C pre suf ts ws lst ρ H a wd cs)(K:RecPlan all M D){A S:List Rec}{t:Fr}{w:W}(hs:suf=A++S)(hA:RecsOK P ng all C.cx A ts ws t w)(hno:∀q∈A,q.x.kd≠3) :
 In0 P ng (ρ.cut w.n) C.base C.w00 C.b a wd cs C.cx w:=by
 have hwn:ws.n≤w.n:=(xP hA).1;obtain⟨s1,s2,s3⟩:=I.seg K hs hA hno;have hle:=cut_le (ρ := ρ) hwn;exact⟨I.in0.fn,I.in0.kind,I.in0.rd.mono hle,I.in0.rdf,(I.hp _ hwn).congr fun b B e=>let ⟨h1,h2⟩:=yQ e;s3 b B h1 h2,by rw[s1];exact I.in0.dr.mono hle,by rw[s2];exact I.in0.ur.mono hle,I.in0.fnd⟩
theorem Inv.no_act(I:Inv P ng all M D E C pre suf ts ws lst ρ H a wd cs)(K:RecPlan all M D){A:List Rec}{S:List Rec}{x:DOp}{rest:List DOp}(hs:suf=A++S)(hD:D=(pre++A).map (·.x)++x::rest)(hk:x.kd=3)(hm:∀b,zL (M x.i) b=true→lst b) :
 (∀q∈A,q.x.kd≠3)∧∀q∈A,lst q.x.i:=by
 have hno:∀q∈A,q.x.kd≠3:=by
  intro q hq h3;have hql:¬lst q.x.i:=I.sl q (by rw[hs];simp [hq]) h3;obtain⟨A1,A2,hA2⟩:=List.append_of_mem hq;have hDq:D=(pre++A1).map (·.x)++q.x::(A2.map (·.x)++x::rest):=by rw[hD,hA2];simp
  obtain⟨l1,l2⟩:=K.later hDq;rcases K.act q.x (by rw[hDq];simp) x (by rw[hD];simp) h3 hk with h|h|h
  · exact l2 h
  · exact hql (hm _ h)
  · rw[l1]at h;cases h
 refine⟨hno,fun q hq=>hm _ ?_⟩;refine K.next (pre.map (·.x)) (A.map (·.x)) x rest (by rw[hD];simp) hk (fun y hy=>?_) q.x (List.mem_map.2 ⟨q,hq,rfl⟩);obtain⟨q',hq',rfl⟩:=List.mem_map.1 hy;exact hno q' hq'
theorem Inv.acted(I:Inv P ng all M D E C pre suf ts ws lst ρ H a wd cs)(K:RecPlan all M D)(hc:∀o∈all.toList,vJ ng (ntm P C.cx.fn) o=true)
{A B:List Rec}{r:Rec}(hs:suf=A++r::B)(hA:RecsOK P ng all C.cx A ts ws r.t r.w)(hk:r.x.kd=3)
(hx:¬lst r.x.i)(hm:∀b,zL (M r.x.i) b=true→lst b){ρ':Inj}{a':Act}{wd':World}{cs':List Frame}{v':Value}
(in0:In0 P ng ρ' C.base C.w00 C.b a' wd' cs' C.cx r.w2)(ha:a'.tmps=a.tmps)(g:Grow (ρ.cut r.w.n) r.w.h r.w.n wd ρ' r.w2.h r.w2.n wd')(hcs:CsTo C.cx.df cs cs')(hv:RV ρ' r.v v') :
 ∃ρ1 H1,Inv P ng all M D E C (pre++A++[r]) B (putF r.t r.x.o.dst r.v) r.w2 (fun i=>lst i∨i=r.x.i) ρ1 H1 (a'.put r.x.o.dst v') wd' cs':=by
 have hwn:ws.n≤r.w.n:=(xP hA).1;have hW0:C.W0.n≤ws.n:=(xP I.r1).1;have hDr:D=(pre++A).map (·.x)++r.x::(B.map (·.x)++E):=by rw[I.dd,hs];simp
 have hrm:r∈pre++suf:=by rw[hs];simp
 have hrD:=I.mem hrm;obtain⟨hno,hAl⟩:=I.no_act K hs hDr hk hm;obtain⟨s1,s2,s3⟩:=I.seg K hs hA hno;have hkA:∀q∈A,q.x.kd≠3∧q.x.kd=wE q.x.o.op:=fun q hq=>⟨hno q hq,K.kd _ (I.mem (by rw[hs];simp [hq]))⟩;obtain⟨_,_,s4,_⟩:=seg_ok hA hkA;have hr2:=I.r2;rw [hs]at hr2;obtain⟨t1,w1,x1,x2⟩:=vF hr2;have ew:r.w=w1:=recs_end hA x1;subst ew
 have hB:RecsOK P ng all C.cx B (putF r.t r.x.o.dst r.v) r.w2 C.t1 C.w1∧RecOK P ng all C.cx r∧r.t=t1:=by
  cases x2 with
  | cons h1 h2=>exact⟨h2,h1,rfl⟩
 obtain⟨hB,hrok,et⟩:=hB;have hn:=rec_n hrok
 have inB:∀b Bk,r.w.n≤b→ρ b=some Bk→∃q∈B,q.x.kd=2∧q.sk=false∧lst q.x.i∧q.w.n=b:=by
  intro b Bk hb e;obtain⟨q,q1,q2,q3,q4,q5⟩:=I.ex b Bk (by omega) e;rw [hs]at q1;rcases List.mem_append.1 q1 with h|h
  · obtain⟨y1,y2,y3⟩:=(xP hA).2 q h;have:=maker_grows y1 q2 q3;omega
  · rcases List.mem_cons.1 h with h|h
    · rw[h,hk]at q2;cases q2
    · exact⟨q,h,q2,q3,q4,q5⟩
 obtain⟨H1,e1,e2⟩:=glue r.w2.h H r.w2.n (C.w1.n+1)
 have none':∀b,r.w.n≤b→b<r.w2.n→ρ b=none:=by
  intro b h1 h2
  cases e: ρ b with
  | none=>rfl
  | some Bk=>
   obtain⟨q,q1,q2,q3,q4,q5⟩:=inB b Bk h1 e;have:=((xP hB).2 q q1).2.1;omega
 have r1:∀b,b<r.w2.n→(fun b=>if b<r.w2.n then ρ' b else ρ b:Inj) b = ρ' b:=fun b h=>if_pos h;have r2:∀b,r.w2.n≤b→(fun b=>if b<r.w2.n then ρ' b else ρ b:Inj) b = ρ b:=fun b h=>if_neg (by omega);obtain⟨ρ1,r1,r2⟩:∃ρ1:Inj,(∀b,b<r.w2.n→ρ1 b = ρ' b)∧∀b,r.w2.n≤b→ρ1 b = ρ b:=⟨_,r1,r2⟩
 have c1: ρ1.cut r.w2.n = ρ':=by
  funext b
  rcases Nat.lt_or_ge b r.w2.n with h|h
  · rw[zW h,r1 b h]
  · rw[cut_ge h,in0.hp.dom b h]
 obtain⟨hle,hp⟩:=early (fun m hm=>I.hp m (by omega)) hn none' (fun b Bk hb e=>s3 b Bk hb e) in0.hp g r1 r2 e1 (fun b Bk hb e=>by
  obtain⟨q,q1,q2,q3,q4,q5⟩:=inB b Bk (by omega) e;have:=((xP hB).2 q q1).2.2;have:=rec_n ((xP hB).2 q q1).1;exact e2 b hb (by omega))
 have gr:=Grow.early (n0:=C.W0.n) (by omega) (fun m hm=>I.gr m (by omega)) hn (fun b hb=>by rw[s4 b (by omega),I.hh b (by omega)]) g r1 r2 e1
 have hdst:∀q∈pre++suf,lst q.x.i→∀d,q.x.o.dst=some d→r.x.o.dst≠some d:=by
  intro q hq hl d e e2;rcases K.pair q.x (I.mem hq) r.x hrD d e (.inr e2) with h|⟨h,_⟩
  · rw[h]at hl;exact hx hl
  · exact h e2
 have hlt:∀d,r.x.o.dst=some d→d<a'.tmps.size:=by
  intro d e
  have hmem:r.x.o∈all.toList:=by
   have ho:=K.at' r.x hrD;rw [← Array.getElem?_toList]at ho;exact List.mem_iff_getElem?.2 ⟨_,ho⟩
  have:=(Bool.and_eq_true_iff.1 (hc r.x.o hmem)).2;rw [e]at this;have h1:d<ntm P C.cx.fn:=zR this;rw [ha,I.sz];exact Nat.lt_of_lt_of_le h1 I.tm0.le
 have hall:pre++A++[r]++B=pre++suf:=by rw[hs];simp
 refine⟨ρ1,H1,?_,?_,hB,.inr ⟨_,r,rfl,hk⟩,?_,?_,?_,?_,?_,hp,gr,I.cst.trans hcs,e1,?_,?_,?_,?_,I.tm0.mono (cut_mono hle _),(put_size.trans (by rw[ha])).trans I.sz⟩
 · rw[hall];exact I.dd
 · refine recs_app (recs_app I.r1 hA) (.cons hrok (.nil _ _))
 · intro q hq;rcases List.mem_append.1 hq with hq|hq
   · rcases List.mem_append.1 hq with hq|hq
     · exact .inl (I.pl q hq)
     · exact .inl (hAl q hq)
   · simp at hq;subst hq;exact .inr rfl
 · intro q hq h3 hl;rcases hl with hl|hl
   · exact I.sl q (by rw[hs];simp [hq]) h3 hl
   · obtain⟨B1,B2,hB2⟩:=List.append_of_mem hq;exact(K.later (x:=r.x) (y:=q.x) (A:=(pre++A).map (·.x)) (B:=B1.map (·.x)) (C:=B2.map (·.x)++E) (by rw[hDr,hB2];simp)).2 hl.symm
 · intro i hi;rw [hall];rcases hi with hi|rfl
   · exact I.only i hi
   · exact⟨r,hrm,rfl⟩
 · intro i hi j hj;rcases hi with hi|rfl
   · exact .inl (I.closed i hi j hj)
   · exact .inl (hm j hj)
 · rw[c1];exact in0.act (put_defers a' _ _)
 · intro q hq q2 q3 q4;obtain⟨y1,y2,y3⟩:=(xP hB).2 q hq;have:=maker_grows y1 q2 q3;rw [e2 _ y2 (by omega)];refine I.mkd q (by rw[hs];simp [hq]) q2 q3 (q4.resolve_right fun e=>?_);obtain⟨B1,B2,hB2⟩:=List.append_of_mem hq;exact(K.later (x:=r.x) (y:=q.x) (A:=(pre++A).map (·.x)) (B:=B1.map (·.x)) (C:=B2.map (·.x)++E) (by rw[hDr,hB2];simp)).2 e.symm
 · intro b Bk hb e;rw [r2 b hb]at e;obtain⟨q,q1,q2,q3,q4,q5⟩:=inB b Bk (by omega) e;exact⟨q,q1,q2,q3,.inl q4,q5⟩
 · intro q hq hl d hd;rw [hall]at hq;by_cases hql:lst q.x.i
   · obtain⟨v2,y1,y2⟩:=I.val q hq hql d hd;exact⟨v2,by rw[put_at (hdst q hq hql d hd),ha];exact y1,y2.mono (cut_mono hle _)⟩
   · have hqr:q=r:=I.uniq K hq hrm (hl.resolve_left hql);subst hqr;exact⟨v',by rw[hd];exact put_self_at (hlt d hd),by rw[c1];exact hv⟩
 · intro d hd;rw [hall]at hd;rw [put_at (hd r hrm (.inr rfl)),ha];exact I.un d fun q hq hl=>hd q hq (.inl hl)
theorem rec_cases{cx:Cx}{r:Rec}(h:RecOK P ng all cx r) :
 (r.sk=true∧wanted all r.t r.x.o.guard=false∧r.v=undef∧r.w2=r.w)∨
 (r.sk=false∧wanted all r.t r.x.o.guard=true∧(r.x.kd=0∨r.x.kd=1)∧vY r.x.o.op P r.t r.w.h=some r.v∧r.w2=r.w)∨
 (r.sk=false∧wanted all r.t r.x.o.guard=true∧r.x.kd=2∧∃v ob,NewVal P ng r.x.o r.t v ob∧r.v=v r.w.n∧r.w2=W.mk r.w.d r.w.u (r.w.h.set .dead ob r.w.n) (r.w.n+1))∨
 (r.sk=false∧wanted all r.t r.x.o.guard=true∧(r.x.kd≠0∧r.x.kd≠1∧r.x.kd≠2)∧OpTo P ng r.x.o cx r.t r.w (.ret r.v) r.w2):=by
 cases h with
 | skip hw=>exact .inl ⟨rfl,hw,rfl,rfl⟩
 | look hw hk hq=>exact .inr (.inl ⟨rfl,hw,hk,hq,rfl⟩)
 | made hw hk hn=>exact .inr (.inr (.inl ⟨rfl,hw,hk,_,_,hn,rfl,rfl⟩))
 | act hw hk ho hn=>exact .inr (.inr (.inr ⟨rfl,hw,hk,ho⟩))
theorem Inv.step(hP:zP ng P=true)(I:Inv P ng all M D E C pre suf ts ws lst ρ H a wd cs)(K:RecPlan all M D)(hc:∀o∈all.toList,vJ ng (ntm P C.cx.fn) o=true)
(hL:wT P (hsOf (pre++suf) [C.W0]).length (hsOf (pre++suf) [C.W0]) (lsOf (pre++suf) [])=true)
{r:Rec}(hr:r∈pre++suf)(hx:¬lst r.x.i)(hm:∀b,zL (M r.x.i) b=true→lst b)(is:List Nat)(kk:List Item) :
 ∃pre' suf' ts' ws' ρ1 H1 a1 wd1 cs1,Inv P ng all M D E C pre' suf' ts' ws' (fun i=>lst i∨i=r.x.i) ρ1 H1 a1 wd1 cs1∧pre'++suf'=pre++suf∧
  Steps P (lone (C.b.atR a (.inRegion all (r.x.i::is)::kk)) cs wd) (lone (C.b.atR a1 (.inRegion all is::kk)) cs1 wd1):=by
 have hrs:r∈suf:=(List.mem_append.1 hr).resolve_left fun h=>hx (I.pl r h);obtain⟨A,B,hs⟩:=List.append_of_mem hrs;have hrD:=I.mem hr;have hat:=K.at' _ hrD;have hDr:D=(pre++A).map (·.x)++r.x::(B.map (·.x)++E):=by rw[I.dd,hs];simp
 have hr2:=I.r2;rw [hs]at hr2;obtain⟨t1,w1,hA,x2⟩:=vF hr2
 have hB:RecOK P ng all C.cx r∧r.t=t1∧r.w=w1:=by
  cases x2 with
  | cons h1 h2=>exact⟨h1,rfl,rfl⟩
 obtain⟨hrok,et,ew⟩:=hB;subst et ew;obtain⟨hO,hW⟩:=I.looks K hc hs hDr hA hx hm;have hnd:r.x.kd≠3→∀c,r.x.o.op≠.defer c:=fun h3 c e=>h3 (by rw[K.kd _ hrD,e];rfl);have h9:r.x.kd≤3:=by rw[K.kd _ hrD];unfold wE;split <;> (try split) <;> omega
 rcases rec_cases hrok with⟨hsk,hw,hv,hw2⟩|⟨hsk,hw,hk,hq,hw2⟩|⟨hsk,hw,hk,v,ob,hn,hv,hw2⟩|⟨hsk,hw,hk,ho⟩
 · have hstep:Steps P (lone (C.b.atR a (.inRegion all (r.x.i::is)::kk)) cs wd) (lone (C.b.atR (a.put r.x.o.dst undef) (.inRegion all is::kk)) cs wd):=.one (skip_put hat (hW.trans hw));by_cases h3:r.x.kd=3
   · have hno:=(I.no_act K hs hDr h3 hm).1;have hi:=I.at_act K hs hA hno;obtain⟨ρ1,H1,hI⟩:=I.acted K hc hs hA h3 hx hm (v':=undef) (by rw[hw2];exact hi) rfl (by rw[hw2];exact Grow.refl _ _ _ _ hi.hp.dom) (CsTo.refl _ _) (by rw[hv];exact RV.undef _);exact⟨_,_,_,_,ρ1,H1,_,_,_,hI,by rw[hs];simp,hstep⟩
   · have hI:=I.calm K hc hrs h3 (.inr hsk) hx hm (v':=undef) (by rw[hv];exact RV.undef _);exact⟨_,_,_,_,ρ,H,_,_,_,hI,rfl,hstep⟩
 · obtain⟨v',y1,y2⟩:=I.look hP K hL hs hA hsk hk hq hx hm hO;have hI:=I.calm K hc hrs (by omega) (.inl (by omega)) hx hm (v':=v') (by rw[hw2];exact y2);exact⟨_,_,_,_,ρ,H,_,_,_,hI,rfl,.one (step_res (hnd (by omega)) hat (hW.trans hw) (.inl y1))⟩
 · obtain⟨v',wd',ρ1,H1,y1,hI⟩:=I.made K hc hs hA hk hsk hn hv hw2 hx hm hO;exact⟨_,_,_,_,ρ1,H1,_,_,_,hI,rfl,.one (step_res (hnd (by omega)) hat (hW.trans hw) (.inl y1))⟩
 · have h3:r.x.kd=3:=by omega
   have hno:=(I.no_act K hs hDr h3 hm).1;have hi:=I.at_act K hs hA hno;obtain⟨ρ',a',wd',cs',i1,i2,i3,i4,v',i5,i6⟩:=ho _ _ _ _ _ _ _ hi hO all r.x.i is kk hat (hW.trans hw);obtain⟨ρ1,H1,hI⟩:=I.acted K hc hs hA h3 hx hm i1 i2 i3 i4 i5;exact⟨_,_,_,_,ρ1,H1,_,_,_,hI,by rw[hs];simp,i6⟩
end
theorem map_split{α β : Type}{f: α→β}{l:List α}{A:List β}{x: β}{B:List β}(h:l.map f=A++x::B):∃A' x' B',l=A'++x'::B'∧A=A'.map f∧x=f x'∧B=B'.map f:=by
 obtain⟨A',r,e1,e2,e3⟩:=List.map_eq_append_iff.1 h;obtain⟨x',B',e4,e5,e6⟩:=List.map_eq_cons_iff.1 e3;exact⟨A',x',B',by rw[e1,e4],e2.symm,e5.symm,e6.symm⟩
theorem sees_bit{all:Array Oper}{M:Nat→Nat}{x:XOp}(h:XOK all M x){d:Nat}(hd:Sees all x.o d):zL x.lk d=true:=by
 rcases hd with hd|⟨g,b,h1,h2⟩
 · exact h.lk d hd
 · exact h.glk g b d h1 h2
theorem count_map{S:List XOp}{f:XOp→DOp}(hf:∀x,(f x).i=x.i∧(f x).kd=x.kd)(p:Nat→Bool):((S.filter fun x=>Nat.beq x.kd 3).filter fun c=>p c.i).length=(S.map f).countP fun c=>Nat.beq c.kd 3 && p c.i:=by
 rw[List.filter_filter,← List.countP_eq_length_filter,List.countP_map];congr 1
 funext c
 simp only[Function.comp,(hf c).1,(hf c).2];exact Bool.and_comm _ _
theorem PlanOK.recPlan{ops:Array Oper}{M:Nat→Nat}{xl S:List XOp}(h:PlanOK ops M xl S):RecPlan ops M (S.map (dopOf xl (S.filter fun x=>Nat.beq x.kd 3))):=by
 have hf:∀x,(dopOf xl (S.filter fun x=>Nat.beq x.kd 3) x).i=x.i∧(dopOf xl (S.filter fun x=>Nat.beq x.kd 3) x).kd=x.kd:=fun x=>⟨rfl,rfl⟩;have hm:∀x∈xl,x.m=M x.i:=fun x hx=>(h.ok x hx).m;refine⟨?_,?_,?_,?_,?_,?_,?_,?_,?_⟩
 · intro x hx;obtain⟨y,hy,rfl⟩:=List.mem_map.1 hx;exact h.at' y (h.sub y hy)
 · intro x hx;obtain⟨y,hy,rfl⟩:=List.mem_map.1 hx;exact(h.ok y (h.sub y hy)).kd
 · intro x hx b hb;obtain⟨y,hy,rfl⟩:=List.mem_map.1 hx;exact(h.ok y (h.sub y hy)).bits b (by rw[hm y (h.sub y hy)];exact hb)
 · intro A x B e;obtain⟨A',x',B',e1,rfl,rfl,rfl⟩:=map_split e;have hs:=h.sig;rw [e1]at hs;obtain⟨o1,o2⟩:=sig_ord hs;refine⟨fun b hb=>?_,fun y hy=>?_⟩
   · obtain⟨y,hy,e2⟩:=o1 b (by rw[hm x' (h.sub x' (by rw[e1];simp))];exact hb);exact⟨_,List.mem_map.2 ⟨y,hy,rfl⟩,e2⟩
   · obtain⟨y',hy',rfl⟩:=List.mem_map.1 hy;exact o2 y' hy'
 · intro A T x B e hk hT y hy;obtain⟨A',r,e1,e2,e3⟩:=List.map_eq_append_iff.1 e;obtain⟨T',x',B',e4,rfl,rfl,rfl⟩:=map_split e3;have hs:=h.sig;rw [e1,e4]at hs;obtain⟨y',hy',rfl⟩:=List.mem_map.1 hy;have:=sig_next hs hk (fun z hz=>hT _ (List.mem_map.2 ⟨z,hz,rfl⟩)) y' hy';rw [hm x' (h.sub x' (by rw[e1,e4];simp))]at this;exact this
 · intro x hx y hy d hd hs;obtain⟨x',hx',rfl⟩:=List.mem_map.1 hx;obtain⟨y',hy',rfl⟩:=List.mem_map.1 hy;have:=h.pair x' (h.sub x' hx') y' (h.sub y' hy') d hd (hs.imp (fun q=>sees_bit (h.ok y' (h.sub y' hy')) q) id);rw [hm x' (h.sub x' hx'),hm y' (h.sub y' hy')]at this;exact this
 · intro x hx y hy kx ky;obtain⟨x',hx',rfl⟩:=List.mem_map.1 hx;obtain⟨y',hy',rfl⟩:=List.mem_map.1 hy;have:=h.act x' (h.sub x' hx') y' (h.sub y' hy') kx ky;rw [hm x' (h.sub x' hx'),hm y' (h.sub y' hy')]at this;exact this
 · intro x hx;obtain⟨x',hx',rfl⟩:=List.mem_map.1 hx;rw [← count_map hf (fun i=>zL (M (dopOf xl (S.filter fun x=>Nat.beq x.kd 3) x').i) i)];show((S.filter fun x=>Nat.beq x.kd 3).filter fun c=>zL x'.m c.i).length=_;rw [hm x' (h.sub x' hx')];rfl
 · intro x hx;obtain⟨x',hx',rfl⟩:=List.mem_map.1 hx;have e:=count_map hf (S:=S) (fun i=> !zL (M i) x'.i && !Nat.beq i x'.i);show((S.filter fun x=>Nat.beq x.kd 3).filter fun c=> !zL c.m x'.i && !Nat.beq c.i x'.i).length=_;refine Eq.trans (congrArg List.length (List.filter_congr fun c hc=>?_)) e;rw [hm c (h.sub c (List.mem_filter.1 hc).1)]
theorem PlanOK.solo{ops:Array Oper}{M:Nat→Nat}{xl S:List XOp}(h:PlanOK ops M xl S){x:DOp}(hx:x∈S.map (dopOf xl (S.filter fun x=>Nat.beq x.kd 3)))(hs:x.solo=true){i:Nat}(hi:i<ops.size) :
 x.i=i∨zL (M x.i) i=true∨zL (M i) x.i=true:=by
 obtain⟨x',hx',rfl⟩:=List.mem_map.1 hx;obtain⟨y,hy,rfl⟩:=h.cov i hi;have hs:(xl.all fun y=>Nat.beq x'.i y.i || zL x'.m y.i || zL y.m x'.i)=true:=hs;have:=List.all_eq_true.1 hs y hy;rw [(h.ok x' (h.sub x' hx')).m,(h.ok y hy).m]at this;simp only[Bool.or_eq_true]at this;rcases this with(e|e)|e
 · exact .inl (zG e)
 · exact .inr (.inl e)
 · exact .inr (.inr e)
theorem nodup_len:∀{l m:List Nat},l.Nodup→(∀x∈l,x∈m)→l.length≤m.length:=by
 intro l
 induction l with
 | nil=>intro m _ _;exact Nat.zero_le _
 | cons x l ih=>
  intro m hn hs;obtain⟨h1,h2⟩:=List.nodup_cons.1 hn;have hx:=hs x (by simp);have:=ih (m:=m.erase x) h2 fun y hy=>(List.mem_erase_of_ne (fun e=>h1 (by rw[← e];exact hy))).2 (hs y (by simp[hy]));rw [List.length_erase_of_mem hx]at this;have:0<m.length:=List.length_pos_of_mem hx;simp only[List.length_cons];omega
theorem PlanOK.all{ops:Array Oper}{M:Nat→Nat}{xl S:List XOp}(h:PlanOK ops M xl S){i:Nat}(hi:i<ops.size):∃x∈S.map (dopOf xl (S.filter fun x=>Nat.beq x.kd 3)),x.i=i:=by
 have K:=h.recPlan;generalize hD:S.map (dopOf xl (S.filter fun x=>Nat.beq x.kd 3))=D at K
 have hlen:D.length=ops.size:=by rw[← hD,List.length_map];exact h.len
 have hnd:(D.map (·.i)).Nodup:=by
  unfold List.Nodup;rw [List.pairwise_map]
  have key:∀(X Y:List DOp),D=X++Y→Y.Pairwise fun a b=>a.i≠b.i:=by
   intro X Y
   induction Y generalizing X with
   | nil=>intro _;exact .nil
   | cons y Y ih=>
    intro e;refine .cons (fun z hz=>?_) (ih (X++[y]) (by rw[e];simp));obtain⟨Y1,Y2,rfl⟩:=List.append_of_mem hz;exact(K.later e).2
  exact key [] D rfl
 refine Classical.byContradiction fun hno=>?_
 have hsub:∀x∈i::D.map (·.i),x∈List.range ops.size:=by
  intro x hx;rcases List.mem_cons.1 hx with rfl|hx
  · exact List.mem_range.2 hi
  · obtain⟨y,hy,rfl⟩:=List.mem_map.1 hx;have:=K.at' y hy;rcases Nat.lt_or_ge y.i ops.size with h1|h1
    · exact List.mem_range.2 h1
    · rw[Array.getElem?_eq_none h1]at this;cases this
 have:=nodup_len (List.nodup_cons.2 ⟨fun hx=>hno (let ⟨y,hy,e⟩:=List.mem_map.1 hx;⟨y,hy,e⟩),hnd⟩) hsub;simp at this;omega
theorem ready_mem{ops:Array Oper}{listed:Array Bool}{i:Nat}(h:i∈Region.ready .any ops listed) :
 i<ops.size∧listed.getD i true=false∧∃o,ops[i]? = some o∧∀e∈o.after.toList,xO e=true→listed.getD e.on false=true:=by
 unfold Region.ready at h;obtain⟨h1,h2⟩:=List.mem_filter.1 h;obtain⟨h3,h4⟩:=Bool.and_eq_true_iff.1 h2;refine⟨List.mem_range.1 h1,by simpa using h3,?_⟩
 cases ho:ops[i]? with
 | none=>rw [ho]at h4;cases h4
 | some o=>
  rw[ho]at h4;refine⟨o,rfl,fun e he ha=>?_⟩;have h5:(o.after.all fun e=> !Region.binds .any e || listed.getD e.on false)=true:=h4;rw [Array.all_eq_true_iff_forall_mem]at h5;have:=h5 e (Array.mem_toList_iff.1 he);unfold xO at ha;rw [ha]at this;simpa using this
theorem ready_mk{ops:Array Oper}{listed:Array Bool}{i:Nat}{o:Oper}(hi:ops[i]? = some o)(h:listed.getD i true=false)(he:∀e∈o.after.toList,xO e=true→listed.getD e.on false=true):i∈Region.ready .any ops listed:=by
 have hlt:i<ops.size:=by
  rcases Nat.lt_or_ge i ops.size with h1|h1
  · exact h1
  · rw[Array.getElem?_eq_none h1]at hi;cases hi
 unfold Region.ready;refine List.mem_filter.2 ⟨List.mem_range.2 hlt,?_⟩;rw [h,hi];show(o.after.all fun e=> !Region.binds .any e || listed.getD e.on false)=true;rw [Array.all_eq_true_iff_forall_mem];intro e hm
 cases ha:Region.binds .any e with
 | false=>rfl
 | true=>simpa using he e (Array.mem_toList_iff.2 hm) ha
theorem ready_nil{ops:Array Oper}{listed:Array Bool}(hs:listed.size=ops.size)(hedge:∀i o,ops[i]? = some o→∀e∈o.after.toList,xO e=true→e.on<i)(h:Region.ready .any ops listed=[]) :
 ∀n i,i<n→i<ops.size→listed.getD i false=true:=by
 intro n
 induction n with
 | zero=>intro i hi;omega
 | succ n ih=>
  intro i hi hlt;rcases Nat.lt_or_ge i n with h1|h1
  · exact ih i h1 hlt
  · have:i=n:=by omega
    subst this;have hlt':i<listed.size:=by omega
    have g1:listed.getD i true=listed[i]:=by simp[hlt']
    have g2:listed.getD i false=listed[i]:=by simp[hlt']
    cases e:listed.getD i true with
    | true=>rw [g2,← g1];exact e
    | false =>
     have hm:=ready_mk (ops:=ops) (Array.getElem?_eq_getElem hlt) e fun ed hed ha=>by
      have:=hedge i _ (Array.getElem?_eq_getElem hlt) ed hed ha;exact ih ed.on this (by omega)
     rw[h]at hm;simp at hm
def unlisted(n:Nat)(listed:Array Bool):Nat:=(List.range n).countP fun i=> !listed.getD i true
section
variable {P:Program} {ng:Nat} {all:Array Oper} {M:Nat→Nat} {D E:List DOp} {C:Cfg}
theorem Inv.lst_congr{pre suf:List Rec}{ts:Fr}{ws:W}{lst lst':Nat→Prop}{ρ : Inj}{H:zI}{a:Act}{wd:World}{cs:List Frame}(I:Inv P ng all M D E C pre suf ts ws lst ρ H a wd cs)(h:∀i,lst i↔lst' i) :
 Inv P ng all M D E C pre suf ts ws lst' ρ H a wd cs:=by
 have:lst=lst':=funext fun i=>propext (h i);rw [← this];exact I
theorem draw_go{Goal:Machine→List Item→Prop}(hG:∀m m1 kk,Steps P m m1→Goal m1 kk→Goal m kk)(hP:zP ng P=true)(K:RecPlan all M D)(hc:∀o∈all.toList,vJ ng (ntm P C.cx.fn) o=true)
(hedge:∀i o,all[i]? = some o→∀e∈o.after.toList,xO e=true→e.on<i)
(hbits:∀i o,all[i]? = some o→∀b,zL (M i) b=true→∃e∈o.after.toList,xO e=true∧(b=e.on∨zL (M e.on) b=true))
{R:List Rec}(hL:wT P (hsOf R [C.W0]).length (hsOf R [C.W0]) (lsOf R [])=true)
(hnext:∀pre suf ts ws lst ρ H a wd cs,pre++suf=R→Inv P ng all M D E C pre suf ts ws lst ρ H a wd cs→∀i,i<all.size→¬lst i→(∀b,zL (M i) b=true→lst b)→
  (∃r∈R,r.x.i=i)∨∀is kk,Goal (lone (C.b.atR a (.inRegion all (i::is)::kk)) cs wd) kk)
(hend:∀pre suf ts ws lst ρ H a wd cs,pre++suf=R→Inv P ng all M D E C pre suf ts ws lst ρ H a wd cs→(∀i,i<all.size→lst i)→∀kk,Goal (lone (C.b.atR a (.inRegion all []::kk)) cs wd) kk) :
 ∀(fuel t:Nat) (listed:Array Bool) (pre suf:List Rec) (ts:Fr) (ws:W) (ρ : Inj) (H:zI) (a:Act) (wd:World) (cs:List Frame),pre++suf=R→listed.size=all.size→
  Inv P ng all M D E C pre suf ts ws (fun i=>listed.getD i false=true) ρ H a wd cs→unlisted all.size listed≤fuel→
  ∀kk,Goal (lone (C.b.atR a (.inRegion all (Region.linearise.go .any all fuel t listed [])::kk)) cs wd) kk:=by
 have swap:∀{listed:Array Bool} {i:Nat},i<listed.size→listed.getD i true=listed.getD i false:=by
  intro listed i h;simp [h]
 have finish:∀{listed:Array Bool} {pre suf:List Rec} {ts:Fr} {ws:W} {ρ : Inj} {H:zI} {a:Act} {wd:World} {cs:List Frame},pre++suf=R→listed.size=all.size→
  Inv P ng all M D E C pre suf ts ws (fun i=>listed.getD i false=true) ρ H a wd cs→(∀i,i<all.size→listed.getD i false=true)→∀kk,Goal (lone (C.b.atR a (.inRegion all []::kk)) cs wd) kk:=
  fun hR hs I hl kk=>hend _ _ _ _ _ _ _ _ _ _ hR I hl kk
 intro fuel
 induction fuel with
 | zero=>
  intro t listed pre suf ts ws ρ H a wd cs hR hs I hu kk;refine finish hR hs I (fun i hi=>?_) kk;have h0:unlisted all.size listed=0:=by omega
  have:=List.countP_eq_zero.1 h0 i (List.mem_range.2 hi);rw [← swap (by omega)];simpa using this
 | succ fuel ih =>
  intro t listed pre suf ts ws ρ H a wd cs hR hs I hu kk;simp only[Region.linearise.go]
  change Goal (lone (C.b.atR a (.inRegion all (match (Region.ready .any all listed)[t % (Region.ready .any all listed).length]? with
   | some i=>Region.linearise.go .any all fuel (t / (Region.ready .any all listed).length) (listed.setIfInBounds i true) [i]
   | none=>[].reverse)::kk)) cs wd) kk
  cases hi:(Region.ready .any all listed)[t % (Region.ready .any all listed).length]? with
  | none =>
   have hnil:Region.ready .any all listed=[]:=by
    cases hr:Region.ready .any all listed with
    | nil=>rfl
    | cons x xs=>
     rw[hr]at hi;have hlt:t % (x::xs).length<(x::xs).length:=Nat.mod_lt _ (by simp);simp at hi;simp at hlt;omega
   exact finish hR hs I (fun i h=>ready_nil hs hedge hnil (i+1) i (by omega) h) kk
  | some i =>
   simp only[];rw [linearise_go_acc,List.reverse_singleton,List.singleton_append];obtain⟨r1,r2,o,r3,r4⟩:=ready_mem (List.mem_of_getElem? hi)
   have hnl:¬listed.getD i false=true:=by
    rw[← swap (by omega),r2];exact Bool.false_ne_true
   have hm:∀b,zL (M i) b=true→listed.getD b false=true:=by
    intro b hb;obtain⟨e,e1,e2,e3⟩:=hbits i o r3 b hb;have h1:=r4 e e1 e2;rcases e3 with rfl|e3
    · exact h1
    · exact I.closed _ h1 _ e3
   rcases hnext _ _ _ _ _ _ _ _ _ _ hR I i r1 hnl hm with⟨r,hr,rfl⟩|hg
   · obtain⟨pre',suf',ts',ws',ρ1,H1,a1,wd1,cs1,I1,hR1,hst⟩:=I.step hP K hc (by rw[hR];exact hL) (by rw[hR];exact hr) hnl hm
      (Region.linearise.go .any all fuel (t / (Region.ready .any all listed).length) (listed.setIfInBounds r.x.i true) []) kk
     have hs1:(listed.setIfInBounds r.x.i true).size=all.size:=by simpa using hs
     have zH:∀j d,(listed.setIfInBounds r.x.i true).getD j d=if r.x.i=j then true else listed.getD j d:=by
      intro j d;by_cases hj:j<listed.size
      · have hj':j<(listed.setIfInBounds r.x.i true).size:=by simpa using hj
        simp[hj,Array.getElem_setIfInBounds]
      · have hne:r.x.i≠j:=by omega
        simp[hj,hne]
     refine hG _ _ _ hst (ih _ _ pre' suf' ts' ws' ρ1 H1 a1 wd1 cs1 (hR1.trans hR) hs1 (I1.lst_congr fun j=>?_) ?_ kk)
     · rw[zH];by_cases hj:r.x.i=j
       · simp[hj]
       · rw[if_neg hj];exact⟨fun h=>h.resolve_right fun e=>hj e.symm,.inl⟩
     · have:unlisted all.size (listed.setIfInBounds r.x.i true)<unlisted all.size listed:=
        countP_lt (fun j _ h=>by
         rw[zH]at h;by_cases hj:r.x.i=j
         · rw[if_pos hj]at h;cases h
         · rw[if_neg hj]at h;exact h) (List.mem_range.2 r1) (by rw[zH,if_pos rfl];rfl) (by rw[r2];rfl)
       omega
   · exact hg _ kk
end
section
variable {P:Program} {ng:Nat} {all:Array Oper} {M:Nat→Nat} {D E:List DOp} {C:Cfg}
variable {pre suf:List Rec} {ts:Fr} {ws:W} {lst:Nat→Prop} {ρ : Inj} {H:zI} {a:Act} {wd:World} {cs:List Frame}
theorem Inv.all_done(I:Inv P ng all M D E C pre suf ts ws lst ρ H a wd cs)(K:RecPlan all M D)(hl:∀r∈pre++suf,lst r.x.i) :
 In P ng (ρ.cut C.w1.n) C.base C.w00 C.b a wd cs C.cx C.t1 C.w1∧Grow C.ρ0 C.W0.h C.W0.n C.wd0 (ρ.cut C.w1.n) C.w1.h C.w1.n wd:=by
 have hno:∀q∈suf,q.x.kd≠3:=fun q hq h3=>I.sl q hq h3 (hl q (List.mem_append_right _ hq));have hs:suf=suf++[]:=by simp
 have h0:=I.at_act K hs I.r2 hno;have hall:=recs_app I.r1 I.r2;have hW0:C.W0.n≤ws.n:=(xP I.r1).1;have hkA:∀q∈suf,q.x.kd≠3∧q.x.kd=wE q.x.o.op:=fun q hq=>⟨hno q hq,K.kd _ (I.mem (List.mem_append_right _ hq))⟩;obtain⟨_,_,s4,_⟩:=seg_ok I.r2 hkA;refine⟨h0.toIn ⟨by rw[I.sz];exact I.tm0.sz,fun d v hv=>?_⟩,(I.gr _ (xP I.r2).1).congr fun b hb=>by rw[s4 b (by omega),I.hh b (by omega)]⟩;by_cases hw:∃y∈pre++suf,y.x.o.dst=some d
 · obtain⟨y,hy,hyd⟩:=hw;obtain⟨A1,A2,hsp⟩:=List.append_of_mem hy;have hDy:D=A1.map (·.x)++y.x::(A2.map (·.x)++E):=by rw[I.dd,hsp];simp
   obtain⟨v',q1,q2⟩:=I.val y hy (hl y hy) d hyd;rw [hv]at q1;injection q1 with q1;subst q1
   have hb:=((xP hall).2 y hy).2.2;rw [hsp]at hall
   have h2:fget C.t1 d=y.v:=recs_write hall hyd fun z hz e=>by
    obtain⟨B1,B2,hz2⟩:=List.append_of_mem hz;have hDz:D=A1.map (·.x)++y.x::(B1.map (·.x)++z.x::(B2.map (·.x)++E)):=by rw[hDy,hz2];simp
    obtain⟨_,l4⟩:=K.later hDz;rcases K.pair y.x (by rw[hDz];simp) z.x (by rw[hDz];simp) d hyd (.inr e) with h|⟨h,_⟩
    · exact l4 h
    · exact h e
   rw[h2];exact q2.mono (cut_le hb)
 · have hno':∀r∈pre++suf,r.x.o.dst≠some d:=fun r hr e=>hw ⟨r,hr,e⟩;rw [recs_slot hall hno'];rw [I.un d fun r hr _=>hno' r hr]at hv;exact(I.tm0.tm d v hv).mono (cut_le (xP hall).1)
theorem HeapR.later{base:Nat}{w0:World}{h:zI}{n m:Nat}(r:HeapR P ng ρ base w0 h n wd)(hm:n≤m):HeapR P ng ρ base w0 h m wd:=
 ⟨fun b hb=>r.dom b (by omega),r.obj,r.inj,r.below,r.size,r.glob,by have:=r.ngn;omega⟩
theorem cut_dom{n m:Nat}(h:∀b,n≤b→ρ b=none)(hm:n≤m): ρ.cut m = ρ :=by
 funext b
 rcases Nat.lt_or_ge b m with h1|h1
 · exact zW h1
 · rw[cut_ge h1,h b (by omega)]
theorem drew_ok(hP:zP ng P=true)(hmix:P.follows .mixedOrders=true){ops:Array Oper}{L:List DOp}(hpl:plan ops=some L){cx:Cx}{t:Fr}{w:W}{k:KX}(hD:Drew P ng ops cx L t w [w] [] k)(id:Nat) :
 ∃x t' w',k x t' w'=true∧wX P ng (.region id ops true) cx t w x t' w':=by
 obtain⟨M,xl,S,hp,hL⟩:=plan_ok hpl;have K:RecPlan ops M L:=by rw[hL];exact hp.recPlan
 have hsolo:∀x∈L,x.solo=true→∀i,i<ops.size→x.i=i∨zL (M x.i) i=true∨zL (M i) x.i=true:=by
  intro x hx hs i hi;rw [hL]at hx;exact hp.solo hx hs hi
 have hcov:∀i,i<ops.size→∃x∈L,x.i=i:=by
  intro i hi;rw [hL];exact hp.all hi
 have hxl:∀i o,ops[i]? = some o→∃x,x.i=i∧x.o=o∧XOK ops M x:=by
  intro i o ho
  have hlt:i<ops.size:=by
   rcases Nat.lt_or_ge i ops.size with h1|h1
   · exact h1
   · rw[Array.getElem?_eq_none h1]at ho;cases ho
  obtain⟨x,h1,h2⟩:=hp.cov i hlt;have h3:=hp.at' x h1;rw [h2,ho]at h3;exact⟨x,h2,by injection h3 with h3;exact h3.symm,hp.ok x h1⟩
 have hedge:∀i o,ops[i]? = some o→∀e∈o.after.toList,xO e=true→e.on<i:=by
  intro i o ho e he ha;obtain⟨x,h1,h2,h3⟩:=hxl i o ho;rw [← h1];exact h3.on e (by rw[h2];exact he) ha
 have hbits:∀i o,ops[i]? = some o→∀b,zL (M i) b=true→∃e∈o.after.toList,xO e=true∧(b=e.on∨zL (M e.on) b=true):=by
  intro i o ho b hb;obtain⟨x,h1,h2,h3⟩:=hxl i o ho;have:=h3.bits b (by rw[h3.m,h1];exact hb);rw [h2]at this;exact this
 have start:∀{R:List Rec} {E:List DOp} {t1:Fr} {w1:W},R.map (·.x)++E=L→RecsOK P ng ops cx R t w t1 w1→∀{ρ : Inj} {base:Nat} {w0:World} {b:Frame} {a:Act} {wd:World} {cs:List Frame},In P ng ρ base w0 b a wd cs cx t w→
  Inv P ng ops M L E ⟨t,w,a,wd,cs,ρ,base,w0,b,cx,t1,w1⟩ [] R t w (fun i=>(Array.replicate ops.size false).getD i false=true) ρ w.h a { wd with drawn:=wd.drawn+1 } cs:=by
  intro R E t1 w1 hR hrecs ρ base w0 b a wd cs hI
  have hf:∀i,¬(Array.replicate ops.size false).getD i false=true:=by
   intro i;by_cases h:i<ops.size <;> simp[h]
  refine⟨hR.symm,.nil t w,hrecs,.inl rfl,fun r hr=>by simp at hr,fun r _ _ h=>hf _ h,fun i h=>absurd h (hf i),fun i h=>absurd h (hf i),?_,?_,?_,CsTo.refl _ _,fun _ _=>rfl,fun r _ _ _ h=>absurd h (hf _),?_,fun r _ h=>absurd h (hf _),fun _ _=>rfl,?_,rfl⟩
  · dsimp only;rw [cut_dom hI.hp.dom (Nat.le_refl _)];exact⟨hI.fn,hI.kind,hI.rd,hI.rdf,hI.hp.drawn _,hI.dr,hI.ur,hI.fnd⟩
  · intro m hm;rw [cut_dom hI.hp.dom hm];exact(hI.hp.later hm).drawn _
  · intro m hm;rw [cut_dom hI.hp.dom hm];exact⟨hm,fun _ _=>rfl,fun b B hb e=>(by rw[hI.hp.dom b hb]at e;cases e),fun _ _ _=>rfl,Nat.le_refl _,fun _ _ e=>e,rfl⟩
  · intro b B hb e;rw [hI.hp.dom b hb]at e;cases e
  · dsimp only;rw [cut_dom hI.hp.dom (Nat.le_refl _)];exact hI.tm
 have unl:unlisted ops.size (Array.replicate ops.size false)≤ops.size:=by
  unfold unlisted;exact Nat.le_trans List.countP_le_length (by simp)
 rcases hD with⟨R,t',w',h1,h2,h3,h4⟩|⟨R,d,rest,c,t1,w1,w2,h1,h2,h3,h4,h5,h6,h7⟩
 · refine⟨.normal,t',w',h3,fun hc b kk ρ base w0 a wd cs hI=>?_⟩;have hc':∀o∈ops.toList,vJ ng (ntm P cx.fn) o=true:=List.all_eq_true.1 hc;have I0:=start (E:=[]) (by simpa using h1) h2 hI
   have go:=draw_go (C:=⟨t,w,a,wd,cs,ρ,base,w0,b,cx,t',w'⟩) (E:=[]) (R:=R)
    (Goal:=fun m kk=>∃ρ' a' wd' cs',In P ng ρ' base w0 b a' wd' cs' cx t' w'∧Grow ρ w.h w.n wd ρ' w'.h w'.n wd'∧CsTo cx.df cs cs'∧Arr P m b kk cs' ρ' a' wd' .normal)
    (fun m m1 kk hst ⟨ρ',a',wd',cs',g1,g2,g3,g4⟩=>⟨ρ',a',wd',cs',g1,g2,g3,g4.of_steps hst⟩) hP K hc' hedge hbits h4 ?_ ?_
    ops.size (wd.tape wd.drawn (.order b.fn id)) _ [] R t w ρ w.h a _ cs rfl (by simp) I0 unl kk
   · have hst:step P (lone (b.atR a (.code (.region id ops true)::kk)) cs wd) = .next (lone (b.atR a (.inRegion ops (Region.schedule (P.follows .mixedOrders) ops (wd.tape wd.drawn (.order b.fn id)))::kk)) cs { wd with drawn:=wd.drawn+1 }):=stepR_region_draw
     have hsch:∀tt,Region.schedule (P.follows .mixedOrders) ops tt=Region.linearise.go .any ops ops.size tt (Array.replicate ops.size false) []:=by
      intro tt;simp only[Region.schedule,hmix,Bool.true_or,if_true];rfl
     rw[hsch]at hst;obtain⟨ρ',a',wd',cs',g1,g2,g3,g4⟩:=go;exact⟨ρ',a',wd',cs',g1,g2,g3,g4.of_steps (.one hst)⟩
   · intro pre suf ts ws lst ρ1 H a1 wd1 cs1 hR I i hi _ _;obtain⟨x,hx1,hx2⟩:=hcov i hi;rw [← h1]at hx1;obtain⟨r,hr,rfl⟩:=List.mem_map.1 hx1;exact .inl ⟨r,hr,hx2⟩
   · intro pre suf ts ws lst ρ1 H a1 wd1 cs1 hR I hall kk
     obtain⟨g1,g2⟩:=I.all_done K fun r hr=>hall _ (by
      have:=K.at' _ (I.mem hr);rcases Nat.lt_or_ge r.x.i ops.size with h1|h1
      · exact h1
      · rw[Array.getElem?_eq_none h1]at this;cases this)
     exact⟨_,a1,wd1,cs1,g1,g2,I.cst,.one stepR_region_end⟩
 · refine⟨.panic c,t1,w2,h7,fun hc b kk ρ base w0 a wd cs hI=>?_⟩;have hc':∀o∈ops.toList,vJ ng (ntm P cx.fn) o=true:=List.all_eq_true.1 hc;have I0:=start (E:=d::rest) h1.symm h2 hI;have hdL:d∈L:=by rw[h1];simp
   have hdi:d.i<ops.size:=by
    have:=K.at' _ hdL;rcases Nat.lt_or_ge d.i ops.size with h1|h1
    · exact h1
    · rw[Array.getElem?_eq_none h1]at this;cases this
   have hdR:∀r∈R,r.x.i≠d.i∧zL (M r.x.i) d.i=false:=by
    intro r hr;obtain⟨A,B,hAB⟩:=List.append_of_mem hr;obtain⟨l1,l2⟩:=K.later (x:=r.x) (y:=d) (A:=A.map (·.x)) (B:=B.map (·.x)) (C:=rest) (by rw[h1,hAB];simp);exact⟨l2,l1⟩
   have go:=draw_go (C:=⟨t,w,a,wd,cs,ρ,base,w0,b,cx,t1,w1⟩) (E:=d::rest) (R:=R)
    (Goal:=fun m kk=>∃ρ' a' wd' cs',In P ng ρ' base w0 b a' wd' cs' cx t1 w2∧Grow ρ w.h w.n wd ρ' w2.h w2.n wd'∧CsTo cx.df cs cs'∧Arr P m b kk cs' ρ' a' wd' (.panic c))
    (fun m m1 kk hst ⟨ρ',a',wd',cs',g1,g2,g3,g4⟩=>⟨ρ',a',wd',cs',g1,g2,g3,g4.of_steps hst⟩) hP K hc' hedge hbits h6 ?_ ?_
    ops.size (wd.tape wd.drawn (.order b.fn id)) _ [] R t w ρ w.h a _ cs rfl (by simp) I0 unl kk
   · have hst:step P (lone (b.atR a (.code (.region id ops true)::kk)) cs wd) = .next (lone (b.atR a (.inRegion ops (Region.schedule (P.follows .mixedOrders) ops (wd.tape wd.drawn (.order b.fn id)))::kk)) cs { wd with drawn:=wd.drawn+1 }):=stepR_region_draw
     have hsch:∀tt,Region.schedule (P.follows .mixedOrders) ops tt=Region.linearise.go .any ops ops.size tt (Array.replicate ops.size false) []:=by
      intro tt;simp only[Region.schedule,hmix,Bool.true_or,if_true];rfl
     rw[hsch]at hst;obtain⟨ρ',a',wd',cs',g1,g2,g3,g4⟩:=go;exact⟨ρ',a',wd',cs',g1,g2,g3,g4.of_steps (.one hst)⟩
   · intro pre suf ts ws lst ρ1 H a1 wd1 cs1 hR I i hi hnl hm
     have hdn:¬lst d.i:=fun h=>by
      obtain⟨r,hr,e⟩:=I.only _ h;rw [hR]at hr;exact(hdR r hr).1 e
     rcases hsolo d hdL h5 i hi with e|e|e
     · right
       subst e;intro is kk
       have hlR:∀r∈pre++suf,lst r.x.i:=by
        intro r hr
        have hri:r.x.i<ops.size:=by
         have:=K.at' _ (I.mem hr);rcases Nat.lt_or_ge r.x.i ops.size with h1|h1
         · exact h1
         · rw[Array.getElem?_eq_none h1]at this;cases this
        rw[hR]at hr;obtain⟨n1,n2⟩:=hdR r hr;rcases hsolo d hdL h5 _ hri with e|e|e
        · exact absurd e.symm n1
        · exact hm _ e
        · rw[n2]at e;cases e
       obtain⟨g1,g2⟩:=I.all_done K hlR;obtain⟨hO,hW⟩:=I.looks K hc' (A:=suf) (S:=[]) (by simp) I.dd I.r2 hdn hm;obtain⟨ρ',a',wd',cs',i1,i2,i3,i4,c',i5,i6⟩:=h4 _ _ _ _ _ _ _ g1.in0 hO ops d.i is kk (K.at' _ hdL) (hW.trans h3);exact⟨ρ',a',wd',cs',i1.toIn (by rw[i2];exact g1.tm.mono (i3.le g1.hp.dom)),g2.trans i3,I.cst.trans i4,_,c',i5,i6⟩
     · left
       obtain⟨y,hy,e2⟩:=(K.ahead (R.map (·.x)) d rest h1).1 _ e;obtain⟨r,hr,rfl⟩:=List.mem_map.1 hy;exact⟨r,hr,e2⟩
     · exact absurd (hm _ e) hdn
   · intro pre suf ts ws lst ρ1 H a1 wd1 cs1 hR I hall kk;exfalso
     obtain⟨r,hr,e⟩:=I.only _ (hall d.i hdi);rw [hR]at hr;exact(hdR r hr).1 e
theorem plan_kd{ops:Array Oper}{L:List DOp}(h:plan ops=some L):∀d∈L,d.kd=wE d.o.op:=by
 obtain⟨M,xl,S,hp,hL⟩:=plan_ok h;rw [hL];exact hp.recPlan.kd
theorem draw_ok(hP:zP ng P=true)(hmix:P.follows .mixedOrders=true):DrawOK P ng:=by
 intro lo hS id ops cx t w k hx
 have hx':(match plan ops with
  | some l=>xdraw P lo cx ops l t w [w] [] k
  | none=>false)=true:=hx
 cases hpl:plan ops with
 | none=>rw [hpl]at hx';cases hx'
 | some L=>
  rw[hpl]at hx';exact drew_ok hP hmix hpl (xdraw_ok hP hS L t w [w] [] k (plan_kd hpl) hx') id
theorem sound(hP:zP ng P=true)(hmix:P.follows .mixedOrders=true)(fuel:Nat):Sound P ng (run P fuel):=sound_run (draw_ok hP hmix) hP fuel
end
abbrev Hook:=FuncId→List Value→zI→Option Value
def HookOK(P:Program)(ng:Nat)(hk:Hook):Prop:=∀f args h v,hk f args h=some v→∀u n,CallTo P ng f args false u h n (.ret v) u h n
noncomputable def heap0:List (Nat×List Value)→zI
 | []=>.lF
 | (g,vs)::r=>(heap0 r).set .dead (.cells (Tr.ofListFrom undef .lF 0 vs) vs.length 0 2) g
noncomputable def cellsB(c:Tr Value):Nat→List Value→Bool
 | _,[]=>true
 | i,v::r=>scalB (Tr.get undef c i) v && cellsB c (Nat.succ i) r
noncomputable def tabB(vs:List Value)(o:AObj):Bool:=
 match o with
 | .cells c n _ kd=>Nat.beq kd 2 && (Nat.beq n vs.length && cellsB c 0 vs)
 | _=>false
noncomputable def tabsB:List (Nat×List Value)→zI→Bool
 | [],_=>true
 | (g,vs)::r,h=>tabB vs (zH h g) && tabsB r h
def isInt:Value→Bool
 | .int _ _=>true
 | _=>false
noncomputable def tabsOK(ng:Nat)(tabs:List (Nat×List Value)):Bool:=tabs.all fun p=>Nat.blt p.1 ng && p.2.all isInt
theorem cellsB_at{c:Tr Value}:∀{vs:List Value} {i j:Nat} {v:Value},cellsB c i vs=true→vs[j]? = some v→Tr.get undef c (i+j)=v:=by
 intro vs
 induction vs with
 | nil=>intro i j v _ h;simp at h
 | cons x vs ih =>
  intro i j v h hj;have h':(scalB (Tr.get undef c i) x && cellsB c (Nat.succ i) vs)=true:=h;obtain⟨h1,h2⟩:=Bool.and_eq_true_iff.1 h'
  cases j with
  | zero=>simp at hj;subst hj;exact wM h1
  | succ j=>
   have:=ih h2 (j:=j) (v:=v) (by simpa using hj);rw [← this];congr 1;omega
theorem heap0_get{tabs:List (Nat×List Value)}{b:Nat}(h:zH (heap0 tabs) b≠.dead):∃vs,(b,vs)∈tabs∧zH (heap0 tabs) b = .cells (Tr.ofListFrom undef .lF 0 vs) vs.length 0 2:=by
 induction tabs with
 | nil=>exact absurd (Tr.get_leaf _ _) h
 | cons p r ih=>
  obtain⟨g,vs⟩:=p;have e:zH (heap0 ((g,vs)::r)) b=if g=b then .cells (Tr.ofListFrom undef .lF 0 vs) vs.length 0 2 else zH (heap0 r) b:=zJ _ _ _ _
  by_cases hb:g=b
  · subst hb;exact⟨vs,by simp,by rw[e,if_pos rfl]⟩
  · rw[e,if_neg hb]at h;obtain⟨vs',h1,h2⟩:=ih h;exact⟨vs',by simp[h1],by rw[e,if_neg hb,h2]⟩
theorem tabsB_mem{h:zI}:∀{tabs:List (Nat×List Value)},tabsB tabs h=true→∀p∈tabs,tabB p.2 (zH h p.1)=true:=by
 intro tabs
 induction tabs with
 | nil=>intro _ p hp;simp at hp
 | cons q r ih=>
  intro hB p hp;have h':(tabB q.2 (zH h q.1) && tabsB r h)=true:=hB;obtain⟨h1,h2⟩:=Bool.and_eq_true_iff.1 h';rcases List.mem_cons.1 hp with rfl|hp
  · exact h1
  · exact ih h2 p hp
section
variable {P:Program} {ng:Nat}
theorem tab_obj{ρ ρ':Inj}{base base':Nat}{B:Bl}{vs:List Value}{o:AObj}{o':Obj}(hi:vs.all isInt=true)(ht:tabB vs o=true)(h:ObjR P ng ρ base B o o') :
 ObjR P ng ρ' base' B (.cells (Tr.ofListFrom undef .lF 0 vs) vs.length 0 2) o':=by
 cases h with
 | cells hn hs hk hz hv hb hf=>
  rename_i c n z kd c' el lo hi';have ht':(Nat.beq kd 2 && (Nat.beq n vs.length && cellsB c 0 vs))=true:=ht;obtain⟨t1,t2⟩:=Bool.and_eq_true_iff.1 ht';obtain⟨t2,t3⟩:=Bool.and_eq_true_iff.1 t2;obtain rfl:=zG t1;obtain rfl:=zG t2;refine .cells hn hs (fun _=>hk (by omega)) ⟨fun h=>by omega,fun h=>by omega⟩ (fun i v' hi2 e=>?_) (fun h=>absurd rfl h) (fun h=>absurd rfl h);rw [Tr.get_ofListFrom,if_pos (by omega)];have e1:vs[i]? = some (vs.getD (i - 0) undef):=by simp[List.getElem?_eq_getElem hi2]
  have e2:=cellsB_at t3 e1;rw [Nat.zero_add]at e2;have r:=hv i v' hi2 e;rw [e2]at r;have hint:=List.all_eq_true.1 hi _ (List.mem_iff_getElem?.2 ⟨i,e1⟩);generalize vs.getD (i - 0) undef=x at r hint
  cases x <;> first|(cases hint;done)|skip
  rw[r.of_int];exact .int _ _
 | map=>cases ht
 | loop=>cases ht
 | siter0=>cases ht
 | siter=>cases ht
 | ready=>cases ht
 | taken=>cases ht
theorem HeapR.fresh{ρ : Inj}{base:Nat}{w0:World}{h:zI}{n:Nat}{wd:World}(r:HeapR P ng ρ base w0 h n wd){tabs:List (Nat×List Value)}(hok:tabsOK ng tabs=true)(ht:tabsB tabs h=true) :
 HeapR P ng (ρ.cut ng) wd.heap.size wd (heap0 tabs) ng wd:=by
 have hall:=List.all_eq_true.1 hok;refine⟨fun b hb=>cut_ge hb,?_,?_,Go.RowKit.Below.refl _ _,Nat.le_refl _,?_,Nat.le_refl _⟩
 · intro b B e hl;obtain⟨_,e⟩:=yQ e;obtain⟨vs,h1,h2⟩:=heap0_get hl;have hb:=tabsB_mem ht _ h1
   have hne:zH h b≠.dead:=fun hd=>by
    dsimp only at hb;rw [hd]at hb;cases hb
   obtain⟨o,q1,q2⟩:=r.obj b B e hne;have hi:=(Bool.and_eq_true_iff.1 (hall _ h1)).2;exact⟨o,q1,by rw[h2];exact tab_obj hi hb q2⟩
 · intro a b A B ea eb la lb hab;obtain⟨_,ea⟩:=yQ ea;obtain⟨_,eb⟩:=yQ eb;obtain⟨va,h1,_⟩:=heap0_get la;obtain⟨vb,h2,_⟩:=heap0_get lb;have ha:=tabsB_mem ht _ h1;have hb:=tabsB_mem ht _ h2;exact r.inj a b A B ea eb (fun hd=>by dsimp only at ha;rw [hd]at ha;cases ha) (fun hd=>by dsimp only at hb;rw [hd]at hb;cases hb) hab
 · intro g hg;obtain⟨B,e1,e2⟩:=r.glob g hg;exact⟨B,by rw[zW hg];exact e1,e2⟩
theorem HeapR.stay{ρ : Inj}{base:Nat}{w0:World}{h:zI}{n:Nat}{wd wd':World}(r:HeapR P ng ρ base w0 h n wd)(hb:Go.RowKit.Below wd.heap.size wd wd'):HeapR P ng ρ base w0 h n wd'∧Grow ρ h n wd ρ h n wd':=by
 have hlt:∀{c:Nat} {o:Obj},wd.heap[c]? = some o→c<wd.heap.size:=by
  intro c o e;rcases Nat.lt_or_ge c wd.heap.size with h3|h3
  · exact h3
  · rw[Array.getElem?_eq_none h3]at e;cases e
 refine⟨⟨r.dom,fun b B e hl=>?_,r.inj,r.below.trans ⟨hb.os,hb.tape,hb.output,hb.size,fun k hk=>hb.block k (by have:=r.size;omega)⟩,by have:=hb.size;have:=r.size;omega,r.glob,r.ngn⟩,⟨Nat.le_refl _,fun _ _=>rfl,fun b B h1 e=>(by rw[r.dom b h1]at e;cases e),fun c hc _=>hb.block c hc,hb.size,fun _ _ e=>e,hb.tape⟩⟩;obtain⟨o,q1,q2⟩:=r.obj b B e hl;exact⟨o,by rw[hb.block _ (hlt q1)];exact q1,q2⟩
noncomputable def finV(v:Value):KO:=fun o _ _ _=>Out.rec (fun x=>scalB x v) (fun _=>false) o
theorem finV_ret{v:Value}{o:Out}{u:Option yV}{h:zI}{n:Nat}(hf:finV v o u h n=true):o = .ret v:=by
 cases o with
 | ret x=>rw [wM (v:=x) (v':=v) hf]
 | panic c=>cases hf
theorem plains{args:List Value}(h:args.all xX=true)(ρ : Inj):RVs ρ args args:=
 ⟨rfl,fun i v v' e e'=>by
  rw[e]at e';injection e' with e';subst e'
  exact RV.plain (List.all_eq_true.1 h v (List.mem_iff_getElem?.2 ⟨i,e⟩)) ρ⟩
theorem hook_of_run{lo:Lo}(hS:Sound P ng lo){f:FuncId}{args:List Value}{v:Value}{tabs:List (Nat×List Value)}(hok:tabsOK ng tabs=true)(hint:args.all isInt=true)(hv:isInt v=true∨∃b,v = .bool b)
(hx:lo.call f args false none (heap0 tabs) ng (finV v)=true){h:zI}(ht:tabsB tabs h=true)(u:Option yV)(n:Nat):CallTo P ng f args false u h n (.ret v) u h n:=by
 obtain⟨o,u',h',n',hk,hfn,hc⟩:=hS.call _ _ _ _ _ _ _ hx;obtain rfl:=finV_ret hk;refine⟨hfn,fun ρ base w0 wd args' cs hH ha hu=>?_⟩
 have hpl:args'=args:=by
  apply List.ext_getElem?;intro i
  cases e:args[i]? with
  | none=>
   have:=List.getElem?_eq_none_iff.1 e;exact List.getElem?_eq_none (by rw[← ha.1];exact this)
  | some x=>
   obtain⟨x',e1,e2⟩:=ha.at e;have:=List.all_eq_true.1 hint x (List.mem_iff_getElem?.2 ⟨i,e⟩);cases x <;> first|(cases this;done)|skip
   rw[e1,e2.of_int]
 subst hpl
 have hpa:args'.all xX=true:=by
  rw[List.all_eq_true]at hint ⊢;intro x hx;have:=hint x hx;cases x <;> first|(cases this;done)|rfl
 obtain⟨ρ',wd',fr,cs',s1,s2,s3,s4,s5,s6,s7⟩:=hc (ρ.cut ng) wd.heap.size wd wd args' cs (hH.fresh hok ht) (plains hpa _) (fun e=>by cases e)
 have hcs:cs'=cs:=by
  rcases s4 with e|⟨e,_⟩
  · exact e
  · cases e
 subst hcs;obtain⟨k1,k2⟩:=hH.stay s2.below;refine⟨ρ,wd',fr,cs',s1,k1,k2,CsTo.refl _ _,(fun e=>Bool.noConfusion e),s6,?_⟩;obtain⟨v',y1,y2,y3,y4,y5⟩:=s7;refine⟨v',y1,y2,y3,y4,?_⟩;rcases hv with hv|⟨b,rfl⟩
 · cases v <;> first|(cases hv;done)|skip
   rw[y5.of_int];exact .int _ _
 · rw[y5.of_bool];exact .bool _
def zK(w:World)(tabs:List (Nat×List Value)):Prop:=∀p∈tabs,∃el fr,w.heap[p.1]? = some (.cells ⟨p.2⟩ el fr)
theorem init_heap{w:World}{tabs:List (Nat×List Value)}(hok:tabsOK ng tabs=true)(hw:zK w tabs) :
 ∃ρ,HeapR P ng ρ w.heap.size w (heap0 tabs) ng w:=by
 have hall:=List.all_eq_true.1 hok
 let size:Nat→Nat:=fun b=>match w.heap[b]? with|some (.cells cs _ _)=>cs.size|_=>0
 refine⟨fun b=>if b<ng then some ⟨b,size b,0⟩ else none,fun b hb=>if_neg (by omega),?_,?_,Go.RowKit.Below.refl _ _,Nat.le_refl _,?_,Nat.le_refl _⟩
 · intro b B e hl;obtain⟨vs,h1,h2⟩:=heap0_get hl;obtain⟨el,fr,h3⟩:=hw _ h1;have hb:b<ng:=zR (Bool.and_eq_true_iff.1 (hall _ h1)).1;rw [if_pos hb]at e;injection e with e;subst e
   refine⟨_,h3,?_⟩
   have hs:size b=vs.length:=by
    show(match w.heap[b]? with|some (.cells cs _ _)=>cs.size|_=>0)=_;rw [h3];rfl
   rw[h2];obtain⟨lo,hi⟩:=fr;refine .cells (by rw[hs];exact Nat.le_refl _) (by rw[hs];rfl) (fun _=>hs.symm) ⟨fun h=>by omega,fun h=>by omega⟩ (fun i v' hi2 e=>?_) (fun h=>absurd rfl h) (fun h=>absurd rfl h);rw [Tr.get_ofListFrom,if_pos (by omega)];have e1:vs[i]? = some (vs.getD (i - 0) undef):=by simp[List.getElem?_eq_getElem hi2]
   have e2:vs[i]? = some v':=by simpa using e
   rw[e1]at e2;injection e2 with e2;subst e2
   have hint:=List.all_eq_true.1 (Bool.and_eq_true_iff.1 (hall _ h1)).2 _ (List.mem_iff_getElem?.2 ⟨i,e1⟩);generalize vs.getD (i - 0) undef=x at hint
   cases x <;> first|(cases hint;done)|skip
   exact .int _ _
 · intro a b A B ea eb _ _ hab;by_cases ha:a<ng
   · rw[if_pos ha]at ea;by_cases hb:b<ng
     · rw[if_pos hb]at eb;injection ea with ea;injection eb with eb
       rw[← ea,← eb]at hab;exact hab
     · rw[if_neg hb]at eb;cases eb
   · rw[if_neg ha]at ea;cases ea
 · intro g hg;exact⟨_,if_pos hg,rfl⟩
theorem law_calls{lo:Lo}(hS:Sound P ng lo){f:FuncId}{args:List Value}{tabs:List (Nat×List Value)}(hok:tabsOK ng tabs=true)(hpa:args.all xX=true)
(hx:lo.call f args false none (heap0 tabs) ng (finV (.bool true))=true)(w:World)(hw:zK w tabs) :
 Calls P f ⟨args⟩ w fun e w'=>e = .returned (.bool true)∧Go.RowKit.Below w.heap.size w w':=by
 obtain⟨o,u',h',n',hk,hc⟩:=calls_of hS hx;obtain rfl:=finV_ret hk;obtain⟨ρ,hH⟩:=init_heap (P:=P) hok hw;refine(hc ρ w.heap.size w w args hH (plains hpa ρ)).mono fun e w' ⟨ρ',h1,h2,h3⟩=>?_
 cases e with
 | returned v'=>
  have h3:RV ρ' (.bool true) v':=h3;rw [h3.of_bool];exact⟨rfl,h1.below⟩
 | _=>cases h3
end
def Sub(l h:zI):Prop:=∀b,zH l b = .dead∨zH h b=zH l b
theorem Sub.refl(h:zI):Sub h h:=fun _=>.inr rfl
section
variable {P:Program} {ng:Nat}
theorem HeapR.sub{ρ : Inj}{base:Nat}{w0:World}{h l:zI}{n:Nat}{wd:World}(r:HeapR P ng ρ base w0 h n wd)(hs:Sub l h):HeapR P ng ρ base w0 l n wd:=by
 refine⟨r.dom,fun b B e hl=>?_,fun a b A B ea eb la lb=>?_,r.below,r.size,r.glob,r.ngn⟩
 · rcases hs b with h1|h1
   · exact absurd h1 hl
   · rw[← h1]at hl ⊢;exact r.obj b B e hl
 · rcases hs a with h1|h1
   · exact absurd h1 la
   · rcases hs b with h2|h2
     · exact absurd h2 lb
     · exact r.inj a b A B ea eb (by rw[h1];exact la) (by rw[h2];exact lb)
theorem Grow.sub{ρ ρ':Inj}{h l h1 l1:zI}{n n':Nat}{wd wd':World}(g:Grow ρ l n wd ρ' h1 n' wd')(hs:Sub l h)(hs1:Sub l1 h1):Grow ρ h n wd ρ' l1 n' wd':=by
 have up:∀b,zH l b≠.dead→zH h b≠.dead:=fun b hb=>by
  rcases hs b with h2|h2
  · exact absurd h2 hb
  · rw[h2];exact hb
 have dn:∀b,zH h1 b = .dead→zH l1 b = .dead:=fun b hb=>by
  rcases hs1 b with h2|h2
  · exact h2
  · rw[← h2];exact hb
 refine⟨g.nn,g.old,fun b B hb e=>?_,fun c hc hk=>g.keep c hc fun b B e hl=>hk b B e (up b hl),g.size,fun b hb hd=>dn b (g.dead b hb ?_),g.tape⟩
 · rcases g.new b B hb e with h2|⟨a,A,h3,h4,h5,h6⟩
   · exact .inl h2
   · exact .inr ⟨a,A,h3,h4,h5,up a h6⟩
 · rcases hs b with h2|h2
   · exact h2
   · rw[← h2];exact hd
theorem CallTo.sub{f:FuncId}{args:List Value}{df:Bool}{u u':Option yV}{h l h1 l1:zI}{n n':Nat}{o:Out}(c:CallTo P ng f args df u l n o u' h1 n')(hs:Sub l h)(hs1:Sub l1 h1) :
 CallTo P ng f args df u h n o u' l1 n':=by
 refine⟨c.1,fun ρ base w0 wd args' cs hH ha hu=>?_⟩;obtain⟨ρ',wd',fr,cs',s1,s2,s3,s4,s5,s6,s7⟩:=c.2 ρ base w0 wd args' cs (hH.sub hs) ha hu;exact⟨ρ',wd',fr,cs',s1,s2.sub hs1,s3.sub hs hs1,s4,s5,s6,s7⟩
theorem CallTo.chain{f:FuncId}{args:List Value}{u':Option yV}{h h1:zI}{n n':Nat}{o:Out}(c:CallTo P ng f args false none h n o u' h1 n')(u:Option yV) :
 CallTo P ng f args false u h n o u h1 n':=by
 refine⟨c.1,fun ρ base w0 wd args' cs hH ha hu=>?_⟩;obtain⟨ρ',wd',fr,cs',s1,s2,s3,s4,s5,s6,s7⟩:=c.2 ρ base w0 wd args' cs hH ha (fun e=>by cases e);exact⟨ρ',wd',fr,cs',s1,s2,s3,s4,(fun e=>Bool.noConfusion e),s6,s7⟩
end
noncomputable def eqVs(a b:List Value)(f:Value→Value→Bool):Bool:=
 List.rec (motive:=fun _=>List Value→Bool) (fun b=>List.rec true (fun _ _ _=>false) b) (fun x _ ih b=>List.rec false (fun y r _=>Bool.rec false (ih r) (f x y)) b) a b
noncomputable def eqV0(x y:Value):Bool:=scalB x y
noncomputable def eqV1(x y:Value):Bool:=
 match x,y with
 | .func (.func f) a b,.func (.func g) c d=>Nat.beq f g && (eqVs a.toList c.toList eqV0 && eqVs b.toList d.toList eqV0)
 | .iface t a,.iface s b=>Nat.beq t s && scalB a b
 | .agg a,.agg b=>eqVs a.toList b.toList eqV0
 | .tuple a,.tuple b=>eqVs a.toList b.toList eqV0
 | x,y=>scalB x y
noncomputable def eqTr(a b:Tr Value):Bool:=
 Tr.rec (motive:=fun _=>Tr Value→Bool) (fun b=>Tr.rec true (fun _ _ _ _ _=>false) b)
  (fun _ v _ il ir b=>Tr.rec false (fun l w r _ _=>Bool.rec false (Bool.rec false (ir r) (il l)) (eqV1 v w)) b) a b
noncomputable def eqEs(a b:List MapEntry):Bool:=
 List.rec (motive:=fun _=>List MapEntry→Bool) (fun b=>List.rec true (fun _ _ _=>false) b)
  (fun x _ ih b=>List.rec false (fun y r _=>Bool.rec false (ih r) (Nat.beq x.born y.born && (eqV1 x.key y.key && eqV1 x.val y.val))) b) a b
noncomputable def eqObj(a b:AObj):Bool:=
 match a,b with
 | .cells c n z kd,.cells c' n' z' kd'=>Nat.beq n n' && (Nat.beq z z' && (Nat.beq kd kd' && eqTr c c'))
 | .map es k,.map es' k'=>Nat.beq k k' && eqEs es es'
 | _,_=>false
noncomputable def subH(l h:zI):Bool:=
 Tr.rec (motive:=fun _=>zI→Bool) (fun _=>true)
  (fun _ v _ il ir h=>Tr.rec false (fun hl w hr _ _=>Bool.rec false (Bool.rec false (ir hr) (il hl)) (AObj.rec (motive:=fun _=>AObj→Bool) (fun _=>true) (fun c n z kd w=>eqObj (.cells c n z kd) w) (fun es k w=>eqObj (.map es k) w) (fun _ _ _=>false) (fun _ _=>false) (fun _ _ _ _ _=>false) v w)) h) l h
theorem eqVs_eq{f:Value→Value→Bool}(hf:∀x y,f x y=true→x=y):∀{a b:List Value},eqVs a b f=true→a=b:=by
 intro a
 induction a with
 | nil=>intro b h;cases b with
  | nil=>rfl
  | cons _ _=>cases h
 | cons x a ih => intro b h; cases b with
  | nil=>cases h
  | cons y b=>
   have h':(Bool.rec false (eqVs a b f) (f x y):Bool)=true:=h
   cases e:f x y with
   | false=>rw [e]at h';cases h'
   | true=>rw [e]at h';rw [hf _ _ e,ih h']
theorem arr_eq{a b:Array Value}(h:a.toList=b.toList):a=b:=by cases a;cases b;cases h;rfl
theorem eqV1_eq{x y:Value}(h:eqV1 x y=true):x=y:=by
 unfold eqV1 at h;split at h
 · obtain⟨h1,h2⟩:=Bool.and_eq_true_iff.1 h;obtain⟨h2,h3⟩:=Bool.and_eq_true_iff.1 h2;rw [zG h1,arr_eq (eqVs_eq (fun _ _=>wM) h2),arr_eq (eqVs_eq (fun _ _=>wM) h3)]
 · obtain⟨h1,h2⟩:=Bool.and_eq_true_iff.1 h;rw [zG h1,wM h2]
 · rw[arr_eq (eqVs_eq (fun _ _=>wM) h)]
 · rw[arr_eq (eqVs_eq (fun _ _=>wM) h)]
 · exact wM h
theorem eqTr_eq:∀{a b:Tr Value},eqTr a b=true→a=b:=by
 intro a
 induction a with
 | lF=>intro b h;cases b with
  | lF=>rfl
  | nD _ _ _=>cases h
 | nD l v r il ir => intro b h; cases b with
  | lF=>cases h
  | nD l' w r' =>
   have h':(Bool.rec false (Bool.rec false (eqTr r r') (eqTr l l')) (eqV1 v w):Bool)=true:=h
   cases e1:eqV1 v w with
   | false=>rw [e1]at h';cases h'
   | true=>
    rw[e1]at h'
    cases e2:eqTr l l' with
    | false=>rw [e2]at h';cases h'
    | true=>rw [e2]at h';rw [eqV1_eq e1,il e2,ir h']
theorem eqEs_eq:∀{a b:List MapEntry},eqEs a b=true→a=b:=by
 intro a
 induction a with
 | nil=>intro b h;cases b with
  | nil=>rfl
  | cons _ _=>cases h
 | cons x a ih => intro b h; cases b with
  | nil=>cases h
  | cons y b =>
   have h':(Bool.rec false (eqEs a b) (Nat.beq x.born y.born && (eqV1 x.key y.key && eqV1 x.val y.val)):Bool)=true:=h
   cases e:(Nat.beq x.born y.born && (eqV1 x.key y.key && eqV1 x.val y.val)) with
   | false=>rw [e]at h';cases h'
   | true=>
    rw[e]at h';obtain⟨e1,e2⟩:=Bool.and_eq_true_iff.1 e;obtain⟨e2,e3⟩:=Bool.and_eq_true_iff.1 e2;obtain⟨k1,v1,b1⟩:=x;obtain⟨k2,v2,b2⟩:=y;dsimp only at e1 e2 e3;rw [ih h',zG e1,eqV1_eq e2,eqV1_eq e3]
theorem eqObj_eq{a b:AObj}(h:eqObj a b=true):a=b:=by
 unfold eqObj at h;split at h
 · obtain⟨h1,h2⟩:=Bool.and_eq_true_iff.1 h;obtain⟨h2,h3⟩:=Bool.and_eq_true_iff.1 h2;obtain⟨h3,h4⟩:=Bool.and_eq_true_iff.1 h3;rw [zG h1,zG h2,zG h3,eqTr_eq h4]
 · obtain⟨h1,h2⟩:=Bool.and_eq_true_iff.1 h;rw [zG h1,eqEs_eq h2]
 · cases h
theorem subP:∀{l h:zI},subH l h=true→∀p,Tr.getP .dead p l = .dead∨Tr.getP .dead p h=Tr.getP .dead p l:=by
 intro l
 induction l with
 | lF=>intro h _ p;exact .inl (Tr.getP_leaf _ _)
 | nD l v r il ir => intro h hs p; cases h with
  | lF=>cases hs
  | nD hl w hr =>
   have h':(Bool.rec false (Bool.rec false (subH r hr) (subH l hl)) (AObj.rec (motive:=fun _=>AObj→Bool) (fun _=>true) (fun c n z kd w=>eqObj (.cells c n z kd) w) (fun es k w=>eqObj (.map es k) w) (fun _ _ _=>false) (fun _ _=>false) (fun _ _ _ _ _=>false) v w):Bool)=true:=hs
   cases e1:(AObj.rec (motive:=fun _=>AObj→Bool) (fun _=>true) (fun c n z kd w=>eqObj (.cells c n z kd) w) (fun es k w=>eqObj (.map es k) w) (fun _ _ _=>false) (fun _ _=>false) (fun _ _ _ _ _=>false) v w:Bool) with
   | false=>rw [e1]at h';cases h'
   | true =>
    rw[e1]at h'
    cases e2:subH l hl with
    | false=>rw [e2]at h';cases h'
    | true =>
     rw[e2]at h'
     cases p with
     | here=>
      show v = .dead∨w=v
      cases v with
      | dead=>exact .inl rfl
      | cells=>exact .inr (eqObj_eq e1).symm
      | map=>exact .inr (eqObj_eq e1).symm
      | _=>cases e1
     | l p=>exact il e2 p
     | r p=>exact ir h' p
theorem subH_ok{l h:zI}(hs:subH l h=true):Sub l h:=fun _=>subP hs _
structure Rsl where
 v:Value
 h:zI
 n:Nat
abbrev HookH:=FuncId→List Value→zI→Nat→Option Rsl
noncomputable def Lo.hookH(hk:HookH)(lo:Lo):Lo:=
 { lo with call:=fun f args df u h n k=>Bool.rec (Option.rec (lo.call f args df u h n k) (fun r=>k (.ret r.v) u r.h r.n) (hk f args h n)) (lo.call f args df u h n k) df }
noncomputable def runHH(P:Program)(hk:HookH)(fuel:Nat):Lo:=Nat.rec Lo.bot (fun _ lo=>Lo.hookH hk (Lo.next P lo)) fuel
def HookHOK(P:Program)(ng:Nat)(hk:HookH):Prop:=∀f args h n r,hk f args h n=some r→∀u,CallTo P ng f args false u h n (.ret r.v) u r.h r.n
theorem hookH_sound{P:Program}{ng:Nat}{hk:HookH}(hh:HookHOK P ng hk){lo:Lo}(hS:Sound P ng lo):Sound P ng (Lo.hookH hk lo) where
 code:=hS.code
 round:=hS.round
 leave:=hS.leave
 call f args df u h n k hx:=by
  cases df with
  | true=>exact hS.call f args true u h n k hx
  | false =>
   have hx':(Option.rec (lo.call f args false u h n k) (fun r=>k (.ret r.v) u r.h r.n) (hk f args h n):Bool)=true:=hx
   cases e:hk f args h n with
   | none=>rw [e]at hx';exact hS.call f args false u h n k hx'
   | some r=>
    rw[e]at hx';exact⟨.ret r.v,u,r.h,r.n,hx',hh f args h n r e u⟩
theorem soundHH{P:Program}{ng:Nat}(hP:zP ng P=true)(hmix:P.follows .mixedOrders=true){hk:HookH}(hh:HookHOK P ng hk):∀fuel,Sound P ng (runHH P hk fuel):=by
 intro fuel
 induction fuel with
 | zero=>exact sound_bot
 | succ n ih=>exact hookH_sound hh (sound_next (draw_ok hP hmix) hP ih)
structure Once where
 f:FuncId
 args:List Value
 h:zI
 n:Nat
 r:Rsl
noncomputable def Once.fits(o:Once)(f:FuncId)(args:List Value)(h:zI)(n:Nat):Bool:=
 Bool.rec false (Bool.rec false (Bool.rec false (subH o.h h) (eqVs o.args args eqV1)) (Nat.beq o.n n)) (Nat.beq o.f f)
inductive Ty where
 | any
 | val
 | int (k:IntKind)
 | bool
noncomputable def fb(x:Bool)(K:Bool→Bool):Bool:=Bool.rec (K false) (K true) x
noncomputable def fn(x:Nat)(K:Nat→Bool):Bool:=Nat.rec (K 0) (fun m _=>K (Nat.succ m)) x
noncomputable abbrev yPut(t:Fr)(i:Nat)(v:Value)(k:Fr→Bool):Bool:=
 Tr.Pa.rec (motive:=fun _=>Fr→(Fr→Bool)→Bool)
  (fun t k=>Tr.rec (k (.nD .lF v .lF)) (fun l _ r _ _=>k (.nD l v r)) t)
  (fun _ ih t k=>Tr.rec (ih .lF fun l=>k (.nD l undef .lF)) (fun l w r _ _=>ih l fun l=>k (.nD l w r)) t)
  (fun _ ih t k=>Tr.rec (ih .lF fun r=>k (.nD .lF undef r)) (fun l w r _ _=>ih r fun r=>k (.nD l w r)) t) (Tr.pa (Nat.succ i) i) t k
noncomputable def rtI(kd:IntKind)(v:Value)(K:Int→Bool):Bool:=onInt v (fun k a=>Bool.rec false (K a) (vH k kd)) false
noncomputable def rtB(v:Value)(K:Bool→Bool):Bool:=onBool v K false
noncomputable def full(F:Nat):(Nat→Value)→Nat→Fr:=
 Nat.rec (motive:=fun _=>(Nat→Value)→Nat→Fr) (fun _ _=>.lF)
  (fun _ ih f n=>Nat.rec .lF (fun m _=>.nD (ih (fun i=>f (Nat.succ (Nat.add i i))) (Nat.div (Nat.succ m) 2)) (f 0) (ih (fun i=>f (Nat.succ (Nat.succ (Nat.add i i)))) (Nat.div m 2))) n) F
noncomputable abbrev rtGo(l:List Ty)(i:Nat)(t t':Fr)(K:Fr→Bool):Bool:=
 List.rec (motive:=fun _=>Nat→Fr→Fr→(Fr→Bool)→Bool) (fun _ _ t' K=>K t')
  (fun T _ ih i t t' K=>Ty.rec (motive:=fun _=>Bool) (ih (Nat.succ i) t t' K) (uD (fget t i) fun v=>yPut t' i v fun t'=>ih (Nat.succ i) t t' K)
   (fun kd=>rtI kd (fget t i) fun a=>yPut t' i (.int kd a) fun t'=>ih (Nat.succ i) t t' K)
   (rtB (fget t i) fun b=>yPut t' i (.bool b) fun t'=>ih (Nat.succ i) t t' K) T) l i t t' K
noncomputable abbrev rt(N:Nat)(l:List Ty)(t:Fr)(K:Fr→Bool):Bool:=rtGo l 0 t (full N (fget t) N) K
noncomputable def idOf(c:Code):Nat:=
 Option.rec 0 (fun x=>x) (Code.rec (motive:=fun _=>Option Nat) none (fun id _ _=>some id) (fun _ _ a b=>Option.rec b some a) (fun _ _ _ a b=>Option.rec b some a) (fun _ _ a=>a) (fun _ a=>Option.rec none (fun x=>some (Nat.add x 1000000)) a)
  (fun _ _ _ _ a b=>Option.rec b some a) (fun _=>none) (fun _ a=>a) (fun _=>none) (fun _=>none) none (fun _=>none) c)
abbrev LP:=Nat→Cx→Fr→W→KX→Bool
structure Lk where
 g:Bool
 f:W→Bool
 low:Nat
 high:Nat
noncomputable def loopsOf(c:Code):List Code:=
 Code.rec (motive:=fun _=>List Code) [] (fun _ _ _=>[]) (fun _ _ a b=>a++b) (fun _ _ _ a b=>a++b) (fun _ _ a=>a) (fun b a=>.loop b::a)
  (fun _ _ _ _ a b=>a++b) (fun _=>[]) (fun _ a=>a) (fun _=>[]) (fun _=>[]) [] (fun _=>[]) c
noncomputable def findC(i:Nat)(l:List Code):Code:=List.rec .skip (fun c _ ih=>Bool.rec ih c (Nat.beq (idOf c) i)) l
noncomputable def codeTab(P:Program)(f:FuncId)(i:Nat):Code:=Option.rec .skip (fun fb=>findC i (loopsOf fb.2)) (bodyOf P f)
noncomputable def same(d:List Deferred)(u:Option yV)(w:W):Bool:=@decide (w.d=d∧w.u=u) (Classical.propDecidable _)
section
variable {P:Program} {ng:Nat}
end
section
variable {P:Program} {ng:Nat}
end
section
variable {P:Program} {ng:Nat}
end
section
variable {P:Program} {ng:Nat}
def LpOK(P:Program)(ng:Nat)(lp:LP):Prop:=∀i cx t w k,lp i cx t w k=true→∃x t' w',k x t' w'=true∧wX P ng (codeTab P cx.fn i) cx t w x t' w'
end
section
variable {P:Program} {ng:Nat}
end
abbrev CF:=Lo→LP→List Value→Bool→Option yV→zI→Nat→KO→Bool
abbrev BF:=Lo→LP→Option Nat→Bool→Fr→W→KX→Bool
structure EntF (P:Program) (ng:Nat) where
 f:FuncId
 F:CF
 ok:∀lo lp,Sound P ng lo→LpOK P ng lp→∀args df u h n k,F lo lp args df u h n k=true→∃o u' h' n',k o u' h' n'=true∧CallTo P ng f args df u h n o u' h' n'
structure EntL (P:Program) (ng:Nat) where
 f:FuncId
 i:Nat
 B:BF
 ok:∀lo lp,Sound P ng lo→LpOK P ng lp→∀rd df t w k,B lo lp rd df t w k=true→∃x t' w',k x t' w'=true∧wX P ng (codeTab P f i) ⟨f,rd,df⟩ t w x t' w'
section
variable {P:Program} {ng:Nat}
structure Two where
 lo:Lo
 lp:LP
end
section
variable {P:Program} {ng:Nat}
end
section
variable {P:Program} {ng:Nat}
end
section
variable {P:Program} {ng:Nat}
theorem CallTo.frameH{f:FuncId}{args:List Value}{df:Bool}{u u':Option yV}{l h1 hh g:zI}{n n':Nat}{o:Out}(c:CallTo P ng f args df u l n o u' h1 n')(hs:Sub l hh)
(hg:∀b,zH g b=zH h1 b∨(b<n∧zH l b = .dead∧zH g b=zH hh b)):CallTo P ng f args df u hh n o u' g n':=by
 refine⟨c.1,fun ρ base w0 wd args' cs hH ha hu=>?_⟩;obtain⟨ρ',wd',fr,cs',s1,s2,s3,s4,s5,s6,s7⟩:=c.2 ρ base w0 wd args' cs (hH.sub hs) ha hu
 have up:∀{x},zH l x≠.dead→zH hh x≠.dead:=fun {x} hx=>by
  rcases hs x with h9|h9
  · exact absurd h9 hx
  · rw[h9];exact hx
 have hlt:∀{x X},ρ x=some X→x<n:=fun {x X} e=>by
  rcases Nat.lt_or_ge x n with h9|h9
  · exact h9
  · rw[hH.dom x h9]at e;cases e
 have hle: ρ.le ρ':=fun x X e=>by rw[s3.old x (hlt e)];exact e
 have hobj:∀b X,b<n→zH l b = .dead→ρ' b=some X→zH hh b≠.dead→(∃o',wd'.heap[X.b]? = some o'∧ObjR P ng ρ' base X (zH hh b) o')∧X.b<wd.heap.size∧ρ b=some X:=by
  intro b X hb hl e hd;have e0: ρ b=some X:=by rw[← s3.old b hb];exact e
  obtain⟨o',q1,q2⟩:=hH.obj b X e0 hd
  have hsz:X.b<wd.heap.size:=by
   rcases Nat.lt_or_ge X.b wd.heap.size with h9|h9
   · exact h9
   · rw[Array.getElem?_eq_none h9]at q1;cases q1
  have hk:=s3.keep X.b hsz fun x X2 ex hlx heq=>by
   have hne:x≠b:=fun e9=>by subst e9;exact hlx hl
   exact hne (hH.inj x b X2 X ex e0 (up hlx) hd heq)
  exact⟨⟨o',by rw[hk];exact q1,q2.mono hle⟩,hsz,e0⟩
 have apart:∀x X b B,zH h1 x≠.dead→ρ' x=some X→b<n→zH l b = .dead→ρ' b=some B→zH hh b≠.dead→X.b≠B.b:=by
  intro x X b B hlx ex hb hl eb hd heq;obtain⟨_,hsz,eb0⟩:=hobj b B hb hl eb hd;have h1b:zH h1 b = .dead:=s3.dead b hb hl;have hne:x≠b:=fun e9=>by subst e9;exact hlx h1b
  rcases Nat.lt_or_ge x n with h9|h9
  · have ex0: ρ x=some X:=by rw[← s3.old x h9];exact ex
    have hlx2:zH l x≠.dead:=fun e9=>hlx (s3.dead x h9 e9);exact hne (hH.inj x b X B ex0 eb0 (up hlx2) hd heq)
  · rcases s3.new x X h9 ex with h8|⟨y,Y,hy,ey,eyb,hly⟩
    · omega
    · have hyb:y≠b:=fun e9=>by subst e9;exact hly hl
      exact hyb (hH.inj y b Y B ey eb0 (up hly) hd (eyb.trans heq))
 refine⟨ρ',wd',fr,cs',s1,⟨s2.dom,fun x X e hlx=>?_,fun x y X Y ex ey hlx hly heq=>?_,s2.below,s2.size,s2.glob,s2.ngn⟩,⟨s3.nn,s3.old,fun x X hx e=>?_,fun cx hcx hk=>s3.keep cx hcx fun x X e hlx=>hk x X e (up hlx),s3.size,fun x hx hd=>?_,s3.tape⟩,s4,s5,s6,s7⟩
 · rcases hg x with h9|⟨h7,h8,h9⟩
   · rw[h9]at hlx ⊢;exact s2.obj x X e hlx
   · rw[h9]at hlx ⊢;exact(hobj x X h7 h8 e hlx).1
 · rcases hg x with h9|⟨h7,h8,h9⟩
   · rw[h9]at hlx;rcases hg y with g9|⟨g7,g8,g9⟩
     · rw[g9]at hly;exact s2.inj x y X Y ex ey hlx hly heq
     · rw[g9]at hly;exact absurd heq (apart x X y Y hlx ex g7 g8 ey hly)
   · rw[h9]at hlx;rcases hg y with g9|⟨g7,g8,g9⟩
     · rw[g9]at hly;exact absurd heq.symm (apart y Y x X hly ey h7 h8 ex hlx)
     · rw[g9]at hly;exact hH.inj x y X Y (hobj x X h7 h8 ex hlx).2.2 (hobj y Y g7 g8 ey hly).2.2 hlx hly heq
 · rcases s3.new x X hx e with h8|⟨y,Y,hy,ey,eyb,hly⟩
   · exact .inl h8
   · exact .inr ⟨y,Y,hy,ey,eyb,up hly⟩
 · rcases hg x with h9|⟨h7,h8,h9⟩
   · rw[h9];refine s3.dead x hx ?_;rcases hs x with h8|h8
     · exact h8
     · rw[← h8];exact hd
   · rw[h9];exact hd
noncomputable def isDead(o:AObj):Bool:=match o with
 | .dead=>true
 | _=>false
noncomputable def carry(n:Nat)(l hh:zI)(bs:List Nat)(h1:zI):zI:=
 List.rec (motive:=fun _=>zI→zI) (fun g=>g) (fun b _ ih g=>Bool.rec (ih g) (g.setK .dead (zH hh b) b fun g=>ih g) (Nat.blt b n && isDead (zH l b))) bs h1
theorem carry_ok{n:Nat}{l hh:zI}:∀(bs:List Nat) (h1 g:zI),(∀b,zH g b=zH h1 b∨(b<n∧zH l b = .dead∧zH g b=zH hh b))→∀b,zH (carry n l hh bs g) b=zH h1 b∨(b<n∧zH l b = .dead∧zH (carry n l hh bs g) b=zH hh b):=by
 intro bs
 induction bs with
 | nil=>intro h1 g h;exact h
 | cons x bs ih =>
  intro h1 g h;have e:carry n l hh (x::bs) g=(Bool.rec (carry n l hh bs g) (g.setK .dead (zH hh x) x fun g=>carry n l hh bs g) (Nat.blt x n && isDead (zH l x)):zI):=rfl;rw [e]
  cases hc:(Nat.blt x n && isDead (zH l x)) with
  | false=>exact ih h1 g h
  | true =>
   obtain⟨c1,c2⟩:=Bool.and_eq_true_iff.1 hc
   have c3:zH l x = .dead:=by
    unfold isDead at c2;split at c2
    · assumption
    · cases c2
   show ∀b,zH (g.setK .dead (zH hh x) x fun g=>carry n l hh bs g) b=zH h1 b∨(b<n∧zH l b = .dead∧zH (g.setK .dead (zH hh x) x fun g=>carry n l hh bs g) b=zH hh b);rw [Tr.setK_eq];refine ih h1 _ fun b=>?_;rw [zJ];by_cases hx:x=b
   · subst hx;rw [if_pos rfl];exact .inr ⟨zR c1,c3,rfl⟩
   · rw[if_neg hx];exact h b
noncomputable def eqV2(x y:Value):Bool:=match x,y with
 | .tuple a,.tuple b=>eqVs a.toList b.toList eqV1
 | x,y=>eqV1 x y
theorem eqV2_eq{x y:Value}(h:eqV2 x y=true):x=y:=by
 unfold eqV2 at h;split at h
 · rw[Array.toList_inj.1 (eqVs_eq (fun _ _=>eqV1_eq) h)]
 · exact eqV1_eq h
structure OnceC where
 o:Once
 bs:List Nat
noncomputable def OnceC.fin(c:OnceC):KO:=fun x _ h n=>Out.rec (fun v=>Bool.rec false (Bool.rec false (subH c.o.r.h h) (Nat.beq n c.o.r.n)) (eqV2 v c.o.r.v)) (fun _=>false) x
noncomputable def OnceC.run(c:OnceC)(lo:Lo):Bool:=lo.call c.o.f c.o.args false none c.o.h c.o.n c.fin
theorem onceC_to{lo:Lo}(hS:Sound P ng lo){c:OnceC}(hr:c.run lo=true)(u:Option yV):CallTo P ng c.o.f c.o.args false u c.o.h c.o.n (.ret c.o.r.v) u c.o.r.h c.o.r.n:=by
 obtain⟨x,u',h',n',hk,hc⟩:=hS.call _ _ _ _ _ _ _ hr
 cases x with
 | panic c=>cases hk
 | ret v =>
  have hk':(Bool.rec false (Bool.rec false (subH c.o.r.h h') (Nat.beq n' c.o.r.n)) (eqV2 v c.o.r.v):Bool)=true:=hk
  cases e1:eqV2 v c.o.r.v with
  | false=>rw [e1]at hk';cases hk'
  | true =>
   rw[e1]at hk'
   cases e2:Nat.beq n' c.o.r.n with
   | false=>rw [e2]at hk';cases hk'
   | true=>
    rw[e2]at hk';obtain rfl:=eqV2_eq e1;obtain rfl:=zG e2;exact(hc.chain u).sub (Sub.refl _) (subH_ok hk')
noncomputable def hookC(l:List OnceC):HookH:=fun f args h n=>List.rec none (fun c _ ih=>Bool.rec ih (some ⟨c.o.r.v,carry c.o.n c.o.h h c.bs c.o.r.h,c.o.r.n⟩) (c.o.fits f args h n)) l
theorem hookC_ok{lo:Lo}(hS:Sound P ng lo):∀{l:List OnceC},(∀c∈l,c.run lo=true)→HookHOK P ng (hookC l):=by
 intro l
 induction l with
 | nil=>intro _ f args h n r e;cases e
 | cons c l ih =>
  intro hl f args h n r e u;have e':(Bool.rec (hookC l f args h n) (some ⟨c.o.r.v,carry c.o.n c.o.h h c.bs c.o.r.h,c.o.r.n⟩) (c.o.fits f args h n):Option Rsl)=some r:=e
  cases ef:c.o.fits f args h n with
  | false=>rw [ef]at e';exact ih (fun o' ho=>hl o' (List.mem_cons_of_mem _ ho)) f args h n r e' u
  | true =>
   rw[ef]at e';injection e' with e'
   subst e';unfold Once.fits at ef
   cases e1:Nat.beq c.o.f f with
   | false=>rw [e1]at ef;cases ef
   | true =>
    rw[e1]at ef
    cases e2:Nat.beq c.o.n n with
    | false=>rw [e2]at ef;cases ef
    | true =>
     rw[e2]at ef
     cases e3:eqVs c.o.args args eqV1 with
     | false=>rw [e3]at ef;cases ef
     | true=>
      rw[e3]at ef;obtain rfl:=zG e1;obtain rfl:=zG e2;obtain rfl:=eqVs_eq (fun _ _=>eqV1_eq) e3;exact(onceC_to hS (hl c (List.mem_cons_self ..)) u).frameH (subH_ok ef) (carry_ok _ _ _ fun b=>.inl rfl)
end
end Go.Ex
namespace Go.Proofs
open Go.Shelf
def Tryz.laysSlF06_f96_ren:Go.Shelf.Ren:=⟨fun|6=>96|15=>133|14=>132|28=>162|29=>163|20=>154|21=>155|22=>156|23=>157|24=>158|25=>159|26=>160|27=>161|46=>170|47=>171|48=>172|49=>173|50=>174|57=>177|n=>n,fun|22=>39|24=>45|25=>137|3=>3|39=>48|0=>0|53=>222|55=>120|4=>4|46=>216|45=>215|50=>160|5=>5|9=>9|66=>224|70=>228|76=>232|77=>233|n=>n,fun|n=>n⟩
theorem Tryz.laysSlF06_f96:Go.Proofs.SlLaysF0.n6 Tryz.prog Tryz.laysSlF06_f96_ren:={
 mixed:=by kernel_rfl
 f6:=⟨Tryz.f96.name,by decide,Tryz.func96.trans (congrArg some (by kernel_rfl))⟩
 f14:=⟨Tryz.f132.name,by decide,Tryz.func132.trans (congrArg some (by kernel_rfl))⟩
 f15:=Tryz.func133.trans (congrArg some (by kernel_rfl))
 f20:=⟨Tryz.f154.name,by decide,Tryz.func154.trans (congrArg some (by kernel_rfl))⟩
 f21:=⟨Tryz.f155.name,by decide,Tryz.func155.trans (congrArg some (by kernel_rfl))⟩
 f22:=⟨Tryz.f156.name,by decide,Tryz.func156.trans (congrArg some (by kernel_rfl))⟩
 f23:=⟨Tryz.f157.name,by decide,Tryz.func157.trans (congrArg some (by kernel_rfl))⟩
 f24:=⟨Tryz.f158.name,by decide,Tryz.func158.trans (congrArg some (by kernel_rfl))⟩
 f25:=⟨Tryz.f159.name,by decide,Tryz.func159.trans (congrArg some (by kernel_rfl))⟩
 f26:=⟨Tryz.f160.name,by decide,Tryz.func160.trans (congrArg some (by kernel_rfl))⟩
 f27:=⟨Tryz.f161.name,by decide,Tryz.func161.trans (congrArg some (by kernel_rfl))⟩
 f28:=Tryz.func162.trans (congrArg some (by kernel_rfl))
 f29:=Tryz.func163.trans (congrArg some (by kernel_rfl))
 f46:=⟨Tryz.f170.name,by decide,Tryz.func170.trans (congrArg some (by kernel_rfl))⟩
 f47:=Tryz.func171.trans (congrArg some (by kernel_rfl))
 f48:=Tryz.func172.trans (congrArg some (by kernel_rfl))
 f49:=⟨Tryz.f173.name,by decide,Tryz.func173.trans (congrArg some (by kernel_rfl))⟩
 f50:=⟨Tryz.f174.name,by decide,Tryz.func174.trans (congrArg some (by kernel_rfl))⟩
 f57:=⟨Tryz.f177.name,by decide,Tryz.func177.trans (congrArg some (by kernel_rfl))⟩
 t0:=Tryz.underlying0
 a0:=Tryz.isAgg0
 z0:=Tryz.sizeOf0
 v0:=Tryz.zeroValue0
 t3:=Tryz.underlying3
 a3:=Tryz.isAgg3
 z3:=Tryz.sizeOf3
 v3:=Tryz.zeroValue3
 t4:=Tryz.underlying4
 a4:=Tryz.isAgg4
 z4:=Tryz.sizeOf4
 v4:=Tryz.zeroValue4
 t5:=Tryz.underlying5
 a5:=Tryz.isAgg5
 z5:=Tryz.sizeOf5
 v5:=Tryz.zeroValue5
 t9:=Tryz.underlying9
 a9:=Tryz.isAgg9
 z9:=Tryz.sizeOf9
 v9:=Tryz.zeroValue9
 t22:=Tryz.underlying39
 a22:=Tryz.isAgg39
 z22:=Tryz.sizeOf39
 v22:=Tryz.zeroValue39
 t25:=Tryz.underlying137
 a25:=Tryz.isAgg137
 z25:=Tryz.sizeOf137
 v25:=Tryz.zeroValue137
 t39:=Tryz.underlying48
 a39:=Tryz.isAgg48
 z39:=Tryz.sizeOf48
 v39:=Tryz.zeroValue48
 t45:=Tryz.underlying215
 a45:=Tryz.isAgg215
 z45:=Tryz.sizeOf215
 v45:=Tryz.zeroValue215
 t46:=Tryz.underlying216
 a46:=Tryz.isAgg216
 z46:=Tryz.sizeOf216
 v46:=Tryz.zeroValue216
 t50:=Tryz.underlying160
 a50:=Tryz.isAgg160
 z50:=Tryz.sizeOf160
 v50:=Tryz.zeroValue160
 t53:=Tryz.underlying222
 a53:=Tryz.isAgg222
 z53:=Tryz.sizeOf222
 v53:=Tryz.zeroValue222
 t55:=Tryz.underlying120
 a55:=Tryz.isAgg120
 z55:=Tryz.sizeOf120
 v55:=Tryz.zeroValue120
 t66:=Tryz.underlying224
 a66:=Tryz.isAgg224
 z66:=Tryz.sizeOf224
 v66:=Tryz.zeroValue224
 t70:=Tryz.underlying228
 a70:=Tryz.isAgg228
 z70:=Tryz.sizeOf228
 v70:=Tryz.zeroValue228
 t76:=Tryz.underlying232
 a76:=Tryz.isAgg232
 z76:=Tryz.sizeOf232
 v76:=Tryz.zeroValue232
 t77:=Tryz.underlying233
 a77:=Tryz.isAgg233
 z77:=Tryz.sizeOf233
 v77:=Tryz.zeroValue233 }
open Go.RowKit Go.Lib Go.Sort in
theorem Tryz.slices_SortFunc_total{α : Type}[Inhabited α](k:Nat)(aE:∀w,(isAgg 45).run Tryz.prog w = .ok true w)(zE:∀w,(Go.sizeOf 45).run Tryz.prog w = .ok k w)(enc: α→List Value)(hk:∀x,(enc x).length=k)(h1:∀x,∀v∈enc x,v.oneCell'=true)(cf: α→α→Int)(hO:SWO (ltOf cf))(g:Nat)(cb:Array Value)(blk off cap:Nat)(d:Array α)(w:World)(eg:∀args w,(callFunc g args).run Tryz.prog w = .ok (.enter g args) w)(hcmp:CmpLays Tryz.prog g cb enc k cf blk off d.size w)(hH:HoldsK enc k w blk off d)(hblk:blk<w.heap.size)(hsz:d.size<4611686018427387904)(hT:∀x y,(ltOf cf) x y=false→(ltOf cf) y x=false→x=y) :
 Calls Tryz.prog 96 #[.slice (some ⟨blk,off,none⟩) d.size cap,.func (.func g) #[] cb] w fun e w'=>
  e = .returned (.tuple #[])∧∃n os,w'=sortWorldK enc k w blk off n (d.toList.mergeSort fun x y=> !(ltOf cf) y x).toArray os:=AnyQ.slices_SortFunc_total Tryz.laysSlF06_f96 k aE zE enc hk h1 cf hO g cb blk off cap d w eg hcmp hH hblk hsz hT
end Go.Proofs
namespace Go.Ex.Im
open Go Go.RowKit
open Go.ChangeMaps (setBlock)
open Go.MapKept (heap_set)
variable {P:Program}
def met(es:Array MapEntry)(seen:Array Nat):List MapEntry:=es.toList.filter fun e=>seen.contains e.born
structure Rng (w:World) (b r:Nat) (es:Array MapEntry) (clock:Nat) (seen:Array Nat):Prop where
 hb:w.heap[b]? = some (.map es clock)
 hr:∃since c0,w.heap[r]? = some (.mapIter (some b) since seen c0)∧(∀x∈es.toList,x.born<since)∧since≤c0∧since≤clock
theorem Rng.ne{w:World}{b r:Nat}{es:Array MapEntry}{clock:Nat}{seen:Array Nat}(h:Rng w b r es clock seen):r≠b:=by
 obtain⟨hb,s,c,hr,_⟩:=h
 rintro rfl
 rw[hb]at hr;cases hr
theorem Rng.kept{w w':World}{b r:Nat}{es:Array MapEntry}{clock:Nat}{seen:Array Nat}{row:Option Nat}(h:Rng w b r es clock seen)(hg:w.grownBy w' row)(hb':some b≠row)(hr':some r≠row):Rng w' b r es clock seen:=by
 obtain⟨hb,s,c,hr,q⟩:=h;have lt:∀{k:Nat} {o:Obj},w.heap[k]? = some o→k<w.heap.size:=fun e=>(Array.getElem?_eq_some_iff.1 e).1;exact⟨(hg.block b (lt hb) hb').trans hb,s,c,(hg.block r (lt hr) hr').trans hr,q⟩
theorem Rng.left{w:World}{b r:Nat}{es:Array MapEntry}{clock:Nat}{seen:Array Nat}(h:Rng w b r es clock seen):w.rangeLeft b r=(leftOf es seen).size:=by
 obtain⟨hb,s,c,hr,_⟩:=h;unfold World.rangeLeft;rw [hb,hr]
theorem met_push{es:List MapEntry}{seen:Array Nat}{e:MapEntry}(he:e∈es)(hs:seen.contains e.born=false)(hn:(es.map (·.born)).Nodup):(es.filter fun x=>(seen.push e.born).contains x.born).Perm ((es.filter fun x=>seen.contains x.born)++[e]):=by
 induction es with
 | nil=>cases he
 | cons x r ih=>
  rw[List.map_cons,List.nodup_cons]at hn;have hc:∀y:Nat,(seen.push e.born).contains y=(seen.contains y || y == e.born):=fun y=>contains_push seen e.born y;rcases List.mem_cons.1 he with rfl|he
  · have hr:(r.filter fun x=>(seen.push e.born).contains x.born)=r.filter fun x=>seen.contains x.born:=List.filter_congr fun y hy=>by
     rw[hc];have:y.born≠e.born:=fun h=>hn.1 (List.mem_map.2 ⟨y,hy,h⟩);simp [this]
    rw[List.filter_cons,if_pos (by rw[hc];simp),List.filter_cons,if_neg (by rw[hs];simp),hr];exact List.perm_append_comm (l₁:=[e])
  · have hx:x.born≠e.born:=fun h=>hn.1 (List.mem_map.2 ⟨e,he,h.symm⟩);rw [List.filter_cons,List.filter_cons,hc];cases hq:seen.contains x.born
    · simp only[Bool.false_or,beq_iff_eq,hx,Bool.false_eq_true,if_false];exact ih he hn.2
    · simp only[Bool.true_or,if_true];exact(ih he hn.2).cons x
theorem mem_leftOf{es:Array MapEntry}{seen:Array Nat}{e:MapEntry}(h:e∈leftOf es seen):e∈es.toList∧seen.contains e.born=false:=by
 have h:e∈(leftOf es seen).toList:=Array.mem_toList_iff.2 h;unfold leftOf at h;rw [Array.toList_filter,List.mem_filter]at h;exact⟨h.1,by simpa using h.2⟩
theorem met_all{es:Array MapEntry}{seen:Array Nat}(h:leftOf es seen = #[]):met es seen=es.toList:=by
 unfold met;rw [List.filter_eq_self];intro e he;cases hc:seen.contains e.born
 · have:e∈(leftOf es seen).toList:=by
    unfold leftOf;rw [Array.toList_filter,List.mem_filter];exact⟨he,by rw[hc];rfl⟩
   have hnil:(leftOf es seen).toList=[]:=by rw[h]
   rw[hnil]at this;cases this
 · rfl
theorem left_push{es:Array MapEntry}{seen:Array Nat}{e:MapEntry}(he:e∈leftOf es seen):(leftOf es (seen.push e.born)).size<(leftOf es seen).size:=left_shrinks es seen e (Array.mem_toList_iff.2 he)
section
variable (w:World) {ops:Array Oper} {rest:List Oper} {o:Oper} {a:Act} {Q:Exit→Act→World→Prop}
theorem wpList_range_raw(hg:o.guard=none)(m:Operand)(t:TypeId)(hop:o.op=Op.range t m){k e:TypeId}(ht:P.underlying t=some (.map k e)){b:Nat}{es:Array MapEntry}{clock:Nat}
(hm:a.eval m = .map (some b))(hb:w.heap[b]? = some (.map es clock))(hold:∀x∈es.toList,x.born<clock)
(hK:∀w',Rng w' b w.heap.size es clock #[]→w.grownBy w' none→w'.heap.size=w.heap.size+1→wpList P ops Q rest (a.put o.dst (.pointer (some ⟨w.heap.size,0,none⟩))) w') :
 wpList P ops Q (o::rest) a w:=by
 refine wpList_plain hg fun K' hK'=>?_;have hlt:b<w.heap.size:=(Array.getElem?_eq_some_iff.1 hb).1;have hrun:=run_range_map (P:=P) w t k e b es clock ht hb;unfold Oper.wp;simp [execOp,hop,hm,hrun,Result.andThen];exact hK' _ _ (hK _ ⟨((MapKept.heap_alloc w _).2 b hlt).trans hb,clock,clock,(MapKept.heap_alloc w _).1,hold,Nat.le_refl _,Nat.le_refl _⟩ (World.grownBy_alloc w _ none) (by simp))
theorem wpList_next_raw(hg:o.guard=none)(it:Operand)(hop:o.op=Op.next it false){b r:Nat}{es:Array MapEntry}{clock:Nat}{seen:Array Nat}
(hit:a.eval it = .pointer (some ⟨r,0,none⟩))(h:Rng w b r es clock seen)(hn:(es.toList.map (·.born)).Nodup)
(hDone:leftOf es seen = #[]→wpList P ops Q rest (a.put o.dst (.tuple #[.bool false])) w)
(hMore:∀(e:MapEntry) (w':World),e∈leftOf es seen→Rng w' b r es clock (seen.push e.born)→w.grownBy w' (some r)→w'.heap.size=w.heap.size→
  (Instr.entry (.pointer (some ⟨r,0,none⟩))).run P w' = .ok (.tuple #[e.key,e.val]) w'→wpList P ops Q rest (a.put o.dst (.tuple #[.bool true,e.key,e.val])) w') :
 wpList P ops Q (o::rest) a w:=by
 refine wpList_plain hg fun K' hK'=>?_;have hne:=h.ne;obtain⟨hb,since,c0,hr,hold,hsc,hsk⟩:=h;unfold Oper.wp;rcases run_next_at (P:=P) w o.type r b since c0 seen es clock hr hb hold hsc with⟨h0,hrun⟩|⟨e,he,w1,hal,hrun⟩
 · simp[execOp,hop,hit,hrun,Result.andThen];exact hK' _ _ (hDone (Array.eq_empty_of_size_eq_zero h0))
 · have hr1:w1.heap[r]? = some (.mapIter (some b) since seen c0):=by rcases hal with rfl|rfl <;> exact hr
   have hb1:w1.heap[b]? = some (.map es clock):=by rcases hal with rfl|rfl <;> exact hb
   have hset:=heap_set (o':=.mapIter (some b) since (seen.push e.born) clock) hr1;have hb':(setBlock w1 r (.mapIter (some b) since (seen.push e.born) clock)).heap[b]? = some (.map es clock):=(hset.2 b (fun e1=>hne e1.symm)).trans hb1;have hen:=run_entry_at (P:=P) _ r b since seen es clock e hset.1 hb' (mem_leftOf (Array.mem_toList_iff.1 he)).1 hn;simp [execOp,hop,hit,hrun,Result.andThen];refine hK' _ _ (hMore e _ (Array.mem_toList_iff.1 he) ⟨hb',since,clock,hset.1,hold,hsk,hsk⟩ ?_ ?_ hen)
   · rcases hal with rfl|rfl <;> exact⟨rfl,rfl,rfl,by simp[setBlock],fun i _ hi=>hset.2 i (fun e1=>hi (by rw[e1]))⟩
   · rcases hal with rfl|rfl <;> simp[setBlock]
end
open Go Go.Sort Go.Shelf Go.Proofs
abbrev Pr:=Int×Int
def cfP(x y:Pr):Int:=if Lib.compareInt x.1 y.1=0 then Lib.compareInt x.2 y.2 else Lib.compareInt x.1 y.1
def ltP(x y:Pr):Bool:=decide (x.1<y.1∨(x.1=y.1∧x.2<y.2))
theorem lt_cfP(x y:Pr):ltOf cfP x y=ltP x y:=by
 unfold ltOf cfP ltP Lib.compareInt;by_cases h1:x.1<y.1
 · simp[h1]
 · by_cases h2:y.1<x.1
   · have:¬x.1=y.1:=by omega
     simp[h1,h2,this]
   · have h3:x.1=y.1:=by omega
     by_cases h4:x.2<y.2
     · simp[h3,h4]
     · by_cases h5:y.2<x.2 <;> simp[h3,h4,h5]
theorem swoP:SWO (ltOf cfP) where
 irrefl x:=by rw[lt_cfP];simp [ltP]
 trans x y z h1 h2:=by rw[lt_cfP]at *;simp only[ltP,decide_eq_true_eq]at *;omega
 ntrans x y z h1 h2:=by rw[lt_cfP]at *;simp only[ltP,decide_eq_false_iff_not]at *;omega
theorem totP:∀x y,ltOf cfP x y=false→ltOf cfP y x=false→x=y:=by
 intro x y h1 h2;rw [lt_cfP]at h1 h2;simp only[ltP,decide_eq_false_iff_not]at h1 h2;exact Prod.ext (by omega) (by omega)
theorem eq_of_sorted{α : Type}{le: α→α→Prop}(anti:∀a b,le a b→le b a→a=b):∀{l l':List α},l.Perm l'→l.Pairwise le→l'.Pairwise le→l=l':=by
 intro l
 induction l with
 | nil=>intro l' hp _ _;exact(List.Perm.nil_eq hp)
 | cons a r ih =>
  intro l' hp hs hs'
  cases l' with
  | nil=>exact absurd hp.length_eq (by simp)
  | cons b r' =>
   rw[List.pairwise_cons]at hs hs'
   have hab:a=b:=by
    rcases List.mem_cons.1 (hp.mem_iff.1 (List.mem_cons_self ..)) with h|h
    · exact h
    rcases List.mem_cons.1 (hp.mem_iff.2 (List.mem_cons_self ..)) with h2|h2
    · exact h2.symm
    exact anti _ _ (hs.1 b h2) (hs'.1 a h)
   subst hab;rw [ih hp.cons_inv hs.2 hs'.2]
theorem sort_is{l E:List Pr}(hp:l.Perm E)(hs:E.Pairwise fun x y=>ltP x y=true):l.mergeSort (fun x y=> !(ltOf cfP) y x)=E:=by
 have hle:∀x y,(!(ltOf cfP) y x)=true↔ltP y x=false:=fun x y=>by rw[lt_cfP];simp
 refine eq_of_sorted (le:=fun x y=>ltP y x=false) (fun a b h1 h2=>totP a b (by rw[lt_cfP];exact h2) (by rw[lt_cfP];exact h1)) ((List.mergeSort_perm l _).trans hp) ?_ (hs.imp fun {a b} h=>?_)
 · have h1:=List.pairwise_mergeSort (le:=fun x y:Pr=> !(ltOf cfP) y x) (fun a b c h1 h2=>?_) (fun a b=>?_) l
   · exact h1.imp fun {a b} h=>(hle a b).1 h
   · rw[hle]at *;simp only[ltP,decide_eq_false_iff_not]at *;omega
   · rw[lt_cfP,lt_cfP];simp only[ltP,Bool.or_eq_true,Bool.not_eq_true',decide_eq_false_iff_not];omega
 · simp only[ltP,decide_eq_true_eq,decide_eq_false_iff_not]at *;omega
theorem perm_of_sub{α : Type}[BEq α][LawfulBEq α]:∀{E ks:List α},E.Nodup→E.length=ks.length→(∀x∈E,x∈ks)→ks.Perm E:=by
 intro E
 induction E with
 | nil=>intro ks _ hl _;rw [List.eq_nil_of_length_eq_zero hl.symm]
 | cons x r ih=>
  intro ks hn hl hs;rw [List.nodup_cons]at hn;have hx:=hs x (List.mem_cons_self ..);refine(List.perm_cons_erase hx).trans (List.Perm.cons x (ih hn.2 ?_ fun y hy=>?_))
  · rw[List.length_erase_of_mem hx];simp at hl;omega
  · have:y≠x:=fun h=>hn.1 (h ▸ hy);exact(List.mem_erase_of_ne this).2 (hs y (List.mem_cons_of_mem _ hy))
def encP(p:Pr):List Value:=[.int .i64 p.1,.int .i64 p.2]
noncomputable def wU(E:List Pr):List Value:=List.rec [] (fun p _ ih=>.int .i64 p.1 :: .int .i64 p.2::ih) E
theorem flatP_eq(E:List Pr):wU E=E.flatMap encP:=by
 induction E with
 | nil=>rfl
 | cons p r ih=>show Value.int .i64 p.1 :: .int .i64 p.2::wU r=_;rw [ih];rfl
theorem vO(E:List Pr):(wU E).length=E.length*2:=by
 induction E with
 | nil=>rfl
 | cons p r ih=>show(wU r).length+1+1=_;rw [ih,List.length_cons];omega
theorem flatP_int{E:List Pr}{v:Value}(h:v∈wU E):∃n,v = .int .i64 n:=by
 induction E with
 | nil=>cases h
 | cons p r ih=>
  have h:v∈Value.int .i64 p.1 :: .int .i64 p.2::wU r:=h;rcases List.mem_cons.1 h with rfl|h
  · exact⟨_,rfl⟩
  rcases List.mem_cons.1 h with rfl|h
  · exact⟨_,rfl⟩
  · exact ih h
structure OkS (es:List MapEntry) (clock:Nat) (E:List Pr):Prop where
 lt:∀e∈es,e.born<clock
 nd:(es.map (·.born)).Nodup
 len:es.length=E.length
 keys:∃ks:List Pr,es.map (·.key)=ks.map (fun p=>.agg ⟨encP p⟩)∧ks.Perm E
 srt:E.Pairwise fun x y=>ltP x y=true
def SortedC(P:Program)(f0 g0:FuncId)(el:TypeId):Prop:=∀(wd:World) (b:Nat) (es:Array MapEntry) (clock:Nat) (E:List Pr),wd.heap[b]? = some (.map es clock)→OkS es.toList clock E→0<E.length→E.length<100000→
 Calls P f0 #[.map (some b),.func (.func g0) #[] #[]] wd fun e w'=>∃(g cap:Nat) (cur:Array Value),e = .returned (.slice (some ⟨g,0,none⟩) E.length cap)∧wd.heap.size≤g∧w'.heap[g]? = some (.cells cur el (0,0))∧
  cur.size=cap*2∧E.length≤cap∧cur.toList.take (E.length*2)=wU E∧Go.RowKit.Below wd.heap.size wd w'
end Go.Ex.Im
namespace Go.Proofs.YtdfmheghgbnkmaaGreat
open Go.RowKit
set_option maxRecDepth 100000
theorem nan_calls(x:Int)(w:World):Calls Tryz.prog 97 #[.int .i64 x] w fun e w'=>e = .returned (.bool false)∧w'=w:=by
 go_enter Tryz.func97,Tryz.ntmps97
 go_wp2
 go_ret
 exact⟨rfl,rfl⟩
theorem cmp_calls(x y:Int)(w:World):Calls Tryz.prog 63 #[.int .i64 x,.int .i64 y] w fun e w'=>e = .returned (.int .i64 (Lib.compareInt x y))∧w'=w:=by
 have hcon:=fun(x:Int) (w:World)=>nan_calls x w
 go_enter Tryz.func63,Tryz.ntmps63
 go_wp2_with (go_at_call 97;refine(hcon _ _).mono ?_;rintro e w' ⟨rfl,rfl⟩)
 · go_ret
   refine⟨?_,rfl⟩;unfold Lib.compareInt;rw [if_pos (by assumption)];rfl
 · go_ret
   refine⟨?_,rfl⟩;unfold Lib.compareInt;rw [if_neg (by omega),if_pos (by assumption)];rfl
 · go_ret
   refine⟨?_,rfl⟩;unfold Lib.compareInt;rw [if_neg (by omega),if_neg (by omega)];rfl
theorem or_nz(k:Nat)(u v:Int)(w:World)(c0:w.cell? ⟨k,0,none⟩=some (.int .i64 u))(hu:u≠0) :
 Calls Tryz.prog 62 #[.slice (some ⟨k,0,none⟩) 2 2] w fun e w'=>e = .returned (.int .i64 u)∧w'=w:=by
 go_enter Tryz.func62,Tryz.ntmps62
 go_wp2
 refine wp_loop_rounds 1 ?_;rw [rounds_succ]
 go_wp2
 go_ret
 exact⟨rfl,rfl⟩
theorem or_z(k:Nat)(v:Int)(w:World)(c0:w.cell? ⟨k,0,none⟩=some (.int .i64 0))(c1:w.cell? ⟨k,1,none⟩=some (.int .i64 v)) :
 Calls Tryz.prog 62 #[.slice (some ⟨k,0,none⟩) 2 2] w fun e w'=>e = .returned (.int .i64 v)∧w'=w:=by
 by_cases hv:v=0
 · subst hv
   go_enter Tryz.func62,Tryz.ntmps62
   go_wp2
   refine wp_loop_rounds 3 ?_;rw [rounds_succ]
   go_wp2
   rw[rounds_succ]
   go_wp2
   rw[rounds_succ]
   go_wp2
   go_ret
   exact⟨rfl,rfl⟩
 · go_enter Tryz.func62,Tryz.ntmps62
   go_wp2
   refine wp_loop_rounds 2 ?_;rw [rounds_succ]
   go_wp2
   rw[rounds_succ]
   go_wp2
   go_ret
   exact⟨rfl,rfl⟩
theorem new0(w:World)(a b:Value)(t:TypeId)(n:Nat)(hn:w.heap.size=n):(w.alloc (.cells #[a,b] t)).cell? ⟨n,0,none⟩=some a:=by
 subst hn;have h1:(w.alloc (.cells #[a,b] t)).heap[w.heap.size]? = some (.cells #[a,b] t):=heap_alloc_new w _;unfold World.cell?;dsimp only;rw [h1];rfl
theorem new1(w:World)(a b:Value)(t:TypeId)(n:Nat)(hn:w.heap.size=n):(w.alloc (.cells #[a,b] t)).cell? ⟨n,1,none⟩=some b:=by
 subst hn;have h1:(w.alloc (.cells #[a,b] t)).heap[w.heap.size]? = some (.cells #[a,b] t):=heap_alloc_new w _;unfold World.cell?;dsimp only;rw [h1];rfl
theorem new0d(w:World)(a b:Value)(t:TypeId)(n:Nat)(hn:w.heap.size=n):((w.alloc (.cells #[a,b] t)).drew).cell? ⟨n,0,none⟩=some a:=new0 w a b t n hn
theorem new1d(w:World)(a b:Value)(t:TypeId)(n:Nat)(hn:w.heap.size=n):((w.alloc (.cells #[a,b] t)).drew).cell? ⟨n,1,none⟩=some b:=new1 w a b t n hn
def orI(u v:Int):Int:=if u=0 then v else u
theorem or_calls(k:Nat)(u v:Int)(w:World)(c0:w.cell? ⟨k,0,none⟩=some (.int .i64 u))(c1:w.cell? ⟨k,1,none⟩=some (.int .i64 v)) :
 Calls Tryz.prog 62 #[.slice (some ⟨k,0,none⟩) 2 2] w fun e w'=>e = .returned (.int .i64 (orI u v))∧w'=w:=by
 unfold orI;by_cases hu:u=0
 · subst hu;rw [if_pos rfl];exact or_z k v w c0 c1
 · rw[if_neg hu];exact or_nz k u v w c0 hu
theorem list_calls(x y:Int×Int)(w:World):Calls Tryz.prog 61 #[.agg #[.int .i64 x.1,.int .i64 x.2],.agg #[.int .i64 y.1,.int .i64 y.2]] w fun e w'=>e = .returned (.int .i64 (orI (Lib.compareInt x.1 y.1) (Lib.compareInt x.2 y.2)))∧∃q os',w'=Sort.grow (w.drewN q) os':=by
 have hcon:=fun(x y:Int) (w:World)=>cmp_calls x y w
 go_enter Tryz.func61,Tryz.ntmps61
 go_wp2
 go_region_held3 (fun w'=>w'.cell? ⟨w.heap.size,0,none⟩=some (.int .i64 x.1)∧w'.cell? ⟨w.heap.size,1,none⟩=some (.int .i64 x.2)∧w'.cell? ⟨w.heap.size+1,0,none⟩=some (.int .i64 y.1)∧w'.cell? ⟨w.heap.size+1,1,none⟩=some (.int .i64 y.2)) (go_keep)
  (first|(go_at_call 63;refine(hcon _ _ _).mono ?_;rintro e w' ⟨rfl,rfl⟩)|(go_at_call 62;refine(or_calls (w.heap.size+1+1) (Lib.compareInt x.1 y.1) (Lib.compareInt x.2 y.2) _ ?_ ?_).mono ?_;(first|exact new0 _ _ _ _ _ (by simp)|exact new0d _ _ _ _ _ (by simp));(first|exact new1 _ _ _ _ _ (by simp)|exact new1d _ _ _ _ _ (by simp));rintro e w' ⟨rfl,rfl⟩))
 go_wp2
 go_ret
 exact⟨rfl,1,_,by rw[Sort.alloc_eq_grow,Sort.alloc_eq_grow,Sort.alloc_eq_grow,Sort.grow_grow,Sort.grow_grow];rfl⟩
open Go.RowKit Go.Maps Go.Ex.Im Go.Sort Go.Shelf
set_option maxHeartbeats 1000000
theorem flatP_get:∀(l:List Pr) (t:Nat),t<l.length*2→(wU l)[t]? = some ((encP l[t / 2]!)[t % 2]!):=by
 intro l
 induction l with
 | nil=>intro t h;simp at h
 | cons p r ih =>
  intro t h;rw [List.length_cons]at h;have e:wU (p::r)=Value.int .i64 p.1::Value.int .i64 p.2::wU r:=rfl;rw [e]
  match t with
  | 0=>rfl
  | 1=>rfl
  | t+2=>
   have h1:(t+2) / 2=t / 2+1:=by omega
   have h2:(t+2) % 2=t % 2:=by omega
   rw[h1,h2];have:=ih t (by omega);simpa using this
theorem flatK_list(l:List Pr):flatK encP 2 l.toArray=(wU l).toArray:=by
 apply Array.ext
 · rw[size_flatK];simp [vO]
 · intro t h1 h2;have ht:t<l.length*2:=by rw[size_flatK]at h1;simpa using h1
   have a:=get_flatK encP 2 l.toArray t (by simpa using ht);rw [getElem!_pos _ t h1]at a;have b:=flatP_get l t ht;rw [a];rw [List.getElem?_eq_getElem (by rw[vO];exact ht)]at b;have b:=Option.some.inj b;simp only[List.getElem_toArray];rw [b];simp
theorem holdsK_of{w:World}{g:Nat}{cur:Array Value}{e:TypeId}{l:List Pr}(hb:w.heap[g]? = some (.cells cur e (0,0)))(ht:cur.toList.take (l.length*2)=wU l):HoldsK encP 2 w g 0 l.toArray:=by
 unfold HoldsK;rw [flatK_list];intro j hj;have hj':j<l.length*2:=by simpa [vO] using hj
 refine⟨?_,by simp[World.frozen?,hb]⟩;have h1:(cur.toList.take (l.length*2))[j]? = (wU l)[j]? :=by rw[ht]
 rw[List.getElem?_take_of_lt hj']at h1;simp only[World.cell?,hb,Nat.zero_add];simp only[Option.isSome_none,Bool.false_eq_true,if_false];rw [← Array.getElem?_toList,h1];have hlt:j<(wU l).length:=by rw[vO];exact hj'
 simp[hlt]
theorem grownBy_sortK{w:World}{g n:Nat}{os:Array Obj}(F:Array Value):w.grownBy (grow (putRow id (Sort.ahead w n) g 0 F) os) (some g):=by
 refine⟨rfl,rfl,rfl,by simp,fun k hk hne=>?_⟩;rw [heap_grow_old _ _ (by simpa using hk)];have:g≠k:=fun e=>hne (by rw[e]);simp [putRow,mapBlock,Sort.ahead,Array.getElem?_modify,this]
theorem heap_sortK{w:World}{g n:Nat}{os:Array Obj}(F:Array Value){cur:Array Value}{e:TypeId}(hb:w.heap[g]? = some (.cells cur e (0,0))):(grow (putRow id (Sort.ahead w n) g 0 F) os).heap[g]? = some (.cells (putCells id 0 F cur) e (0,0)):=by
 have hlt:g<w.heap.size:=(Array.getElem?_eq_some_iff.1 hb).1;rw [heap_grow_old _ _ (by simpa using hlt)];simp [putRow,mapBlock,Sort.ahead,Array.getElem?_modify,hb];rfl
theorem take_putK(cur:Array Value)(ts:List Value)(h:ts.length≤cur.size):(putCells id 0 ts.toArray cur).toList.take ts.length=ts:=by
 apply List.ext_getElem?;intro j;by_cases hj:j<ts.length
 · rw[List.getElem?_take_of_lt hj,Array.getElem?_toList];simp [putCells,hj,show j<cur.size by omega]
 · rw[List.getElem?_eq_none (by simp;omega),List.getElem?_eq_none (by omega)]
theorem two_new(w:World)(a b:Value)(t:TypeId)(n:Nat)(hn:w.heap.size=n):∀j u,[a,b][j]? = some u→(w.alloc (.cells #[a,b] t)).cell? ((⟨n,0,none⟩:Addr).add j)=some u:=by
 subst hn;intro j u hj
 match j,hj with
 | 0,hj=>
  obtain rfl:a=u:=by simpa using hj
  exact new0 w a b t _ rfl
 | 1,hj=>
  obtain rfl:b=u:=by simpa using hj
  exact new1 w a b t _ rfl
theorem sorts(blk off cap:Nat)(d:Array Pr)(w:World)(hH:HoldsK encP 2 w blk off d)(hblk:blk<w.heap.size)(hsz:d.size<4611686018427387904) :
 Calls Tryz.prog 96 #[.slice (some ⟨blk,off,none⟩) d.size cap,.func (.func 61) #[] #[]] w fun e w'=>e = .returned (.tuple #[])∧∃n os,w'=sortWorldK encP 2 w blk off n (d.toList.mergeSort fun x y=> !(ltOf cfP) y x).toArray os:=by
 have eg:∀args w,(callFunc 61 args).run Tryz.prog w = .ok (.enter 61 args) w:=enters_of Tryz.func61 (by kernel_rfl) rfl
 exact Tryz.slices_SortFunc_total 2 Tryz.isAgg45 Tryz.sizeOf45 encP (fun _=>rfl) (fun x v hv=>by simp[encP]at hv;rcases hv with rfl|rfl <;> rfl) cfP swoP 61 #[] blk off cap d w eg
  (fun m os dk hdk x y=>list_calls x y _) hH hblk hsz totP
structure RelS (w:World) (b:Nat) (es:Array MapEntry) (clock:Nat) (v:Value) (wr:World) (seen:Array Nat) (ks:List Pr):Prop where
 rng:Rng wr b w.heap.size es clock seen
 row:wr.ownsRow w.heap.size 45 2 v ks.length (wU ks)
 perm:((met es seen).map (·.key)).Perm (ks.map fun p=>.agg ⟨encP p⟩)
 low:Below w.heap.size w wr
theorem flatP_app(a b:List Pr):wU (a++b)=wU a++wU b:=by
 rw[flatP_eq,flatP_eq,flatP_eq,List.flatMap_append]
theorem row_rng{w:World}{base e sz n b r clock:Nat}{v:Value}{xs:List Value}{es:Array MapEntry}{seen:Array Nat}(h:w.ownsRow base e sz v n xs)(R:Rng w b r es clock seen):v.ownBlock≠some r∧v.ownBlock≠some b:=by
 obtain⟨hb,s,c,hr,-⟩:=R;rcases h.2 with⟨rfl,-⟩|⟨g,cap,cur,rfl,-,hg,-⟩
 · exact⟨fun e=>(by cases e),fun e=>(by cases e)⟩
 · refine⟨fun e=>?_,fun e=>?_⟩
   · obtain rfl:g=r:=Option.some.inj e;rw [hg]at hr;cases hr
   · obtain rfl:g=b:=Option.some.inj e;rw [hg]at hb;cases hb
theorem rng_alloc{w:World}{b r clock:Nat}{es:Array MapEntry}{seen:Array Nat}(R:Rng w b r es clock seen)(o:Obj):Rng (w.alloc o) b r es clock seen:=R.kept (World.grownBy_alloc w o none) (by simp) (by simp)
def unP:Value→Pr
 | .agg ⟨[.int _ a,.int _ b]⟩=>(a,b)
 | _=>(0,0)
theorem map_unP(l:List Pr):(l.map fun p=>Value.agg ⟨encP p⟩).map unP=l:=by
 rw[List.map_map];exact(List.map_congr_left fun p _=>rfl).trans (List.map_id _)
theorem sorted_calls:SortedC Tryz.prog 60 61 45:=by
 intro w b es clock E hb ho hpos hmax;have hlt:=ho.lt;have hn:=ho.nd;obtain⟨ks0,hk0,hp0⟩:=ho.keys;have hel:es.toList.length=E.length:=ho.len;obtain⟨i0,hi,hz0,hz1,hz2⟩:∃i0,Tryz.prog.info? 45=some i0∧i0.zero=some (.agg #[.int .i64 0,.int .i64 0])∧i0.size=2∧i0.bytes=16:=⟨_,rfl,rfl,rfl,rfl⟩;have hbl:b<w.heap.size:=(Array.getElem?_eq_some_iff.1 hb).1
 go_enter Tryz.func60,Tryz.ntmps60
 go_wp2_with (first
  | (at_range;refine wpList_range_raw _ rfl _ 80 rfl Tryz.underlying80 rfl hb hlt ?_;intro w0 hrg0 hg0 hs0)
  | go_in)
 go_frame
 go_loopw [5] (fun v wr=>∃(seen:Array Nat) (ks:List Pr),RelS w b es clock v wr seen ks)
  (fun _ wr=>wr.rangeLeft b w.heap.size)
 case atStart=>
  exact⟨_,[],hrg0,⟨rfl,.inl ⟨rfl,rfl⟩⟩,by unfold met;simp,(Below.refl _ _).grown hg0 (Nat.le_refl _) (fun j hj=>by cases hj)⟩
 case round=>
  obtain⟨seen,ks,R⟩:=hrel;obtain⟨hrg,hrow,hperm,hlow⟩:=R
  have hkl:ks.length≤E.length:=by
   have h1:=hperm.length_eq;simp only[List.length_map]at h1;have h2:(met es seen).length≤es.toList.length:=List.length_filter_le _ _;omega
  go_wp2_with (first
   | (at_next;refine wpList_next_raw _ rfl _ rfl rfl hrg hn ?_ ?_)
   | go_in)
  · intro h0;rw [met_all h0,hk0]at hperm
    have hpE:ks.Perm E:=by
     have:=(hperm.map unP).symm;rw [map_unP,map_unP]at this;exact this.trans hp0
    have hlen:E.length=ks.length:=hpE.length_eq.symm;rcases hrow.2 with⟨-,hz⟩|⟨g,cap,cur,rfl,hbase,hgb,h1,h2,h3,h4⟩
    · omega
    have hH:=holdsK_of hgb h4;have hgl:g<wr.heap.size:=(Array.getElem?_eq_some_iff.1 hgb).1;have hc:=sorts g 0 cap ks.toArray wr hH hgl (by simp;omega);rw [List.size_toArray]at hc;have hsort:(ks.toArray.toList.mergeSort fun x y=> !(Go.Proofs.ltOf cfP) y x)=E:=sort_is hpE ho.srt;rw [hsort]at hc
    go_wp2_with (go_at_call 96;refine hc.mono ?_;rintro e w' ⟨rfl,nn,os,rfl⟩)
    go_ret
    have hF:flatK encP 2 E.toArray=(wU E).toArray:=flatK_list E;refine⟨g,cap,putCells id 0 (wU E).toArray cur,by rw[hlen];rfl,hbase,?_,by simp[putCells,h3],by omega,?_,?_⟩
    · show(grow (putRow id (Sort.ahead wr nn) g 0 (flatK encP 2 E.toArray)) os).heap[g]? = _;rw [hF];exact heap_sortK _ hgb
    · have:=take_putK cur (wU E) (by rw[vO,h3,hlen];omega);rw [vO]at this;exact this
    · exact hlow.grown (grownBy_sortK (flatK encP 2 E.toArray)) hlow.size (fun j hj=>by cases hj;exact hbase)
  · intro e w2 he hrg2 hg2 hs2 hen
    obtain⟨x,y,hxy⟩:∃x y:Int,e.key = .agg #[.int .i64 x,.int .i64 y]:=by
     have:e.key∈ks0.map fun p=>Value.agg ⟨encP p⟩:=by rw[← hk0];exact List.mem_map.2 ⟨e,(mem_leftOf he).1,rfl⟩
     obtain⟨p,-,hp⟩:=List.mem_map.1 this;exact⟨p.1,p.2,hp.symm⟩
    rw[hxy]at hen ⊢;have hrow2:=hrow.kept hg2 (.inr (row_rng hrow hrg).1);have hw2:w.heap.size≤w2.heap.size:=by rw[hs2];exact hlow.size
    clear hs2
    go_wp2_with (first
     | (at_builtin;refine wpList_append_own_at _ rfl _ _ 39 rfl w.heap.size 45 i0 (.agg #[.int .i64 0,.int .i64 0]) 2 16 Tryz.underlying39 hi hz0 hz1 hz2 rfl (by decide) _ _ _ rfl ((hrow2.alloc _).alloc _) ⟨w2.heap.size+1,0,none⟩ 1 1 [.int .i64 x,.int .i64 y] rfl rfl (two_new _ _ _ _ _ (by simp)) (by simp;constructor <;> rfl) (by unfold maxLen;omega) (by omega) (by simp;omega) ?_;intro v' w3 hown' hg3 hnil3 hblk3)
     | go_in)
    have hne:=row_rng hrow2 hrg2;have hrg3:=(rng_alloc (rng_alloc hrg2 _) _).kept hg3 (fun e=>hne.2 e.symm) (fun e=>hne.1 e.symm)
    go_roundw
    case rel=>
     refine⟨_,ks++[(x,y)],hrg3,?_,?_,?_⟩
     · rw[flatP_app,List.length_append];exact hown'
     · have h1:=(met_push (mem_leftOf he).1 (mem_leftOf he).2 hn).map (·.key);refine h1.trans ?_;rw [List.map_append,List.map_append];have h2:[e].map (·.key)=[(x,y)].map fun p:Pr=>Value.agg ⟨encP p⟩:=by rw[List.map_cons,hxy];rfl
       rw[h2];exact hperm.append_right _
     · exact(((hlow.grown hg2 hlow.size (fun j hj=>by cases hj;exact Nat.le_refl _)).alloc hw2 _).alloc (by simp;omega) _).grown hg3 (by simp;omega) (fun j hj=>(hrow2.lt j hj).1)
    case measure=>rw [hrg3.left,hrg.left];exact left_push he
end Go.Proofs.YtdfmheghgbnkmaaGreat
namespace Go.Ex
open Go.RowKit
section
variable {P:Program} {ng:Nat}
theorem HeapR.adopt{ρ : Inj}{base:Nat}{w0:World}{h:zI}{n:Nat}{wd wd':World}(r:HeapR P ng ρ base w0 h n wd)(hb:Go.RowKit.Below wd.heap.size wd wd')(o:AObj)(o':Obj)(B:Bl)(hB:wd.heap.size≤B.b)
(ho:wd'.heap[B.b]? = some o')(hr:ObjR P ng (ρ.put n B) base B o o') :
 HeapR P ng (ρ.put n B) base w0 (h.set .dead o n) (n+1) wd'∧Grow ρ h n wd (ρ.put n B) (h.set .dead o n) (n+1) wd':=by
 have hn: ρ n=none:=r.dom n (Nat.le_refl _);have hle:=Inj.le_put B hn;obtain⟨r1,g1⟩:=r.stay hb
 have lt:∀x X,x≠n→(ρ.put n B) x=some X→zH (h.set .dead o n) x≠.dead→X.b<wd.heap.size:=by
  intro x X hx ex hlx;have ex': ρ x=some X:=by simpa [Inj.put,hx] using ex
  rw[zJ,if_neg (fun y=>hx y.symm)]at hlx;obtain⟨ob,h1,_⟩:=r.obj x X ex' hlx;rcases Nat.lt_or_ge X.b wd.heap.size with h3|h3
  · exact h3
  · rw[Array.getElem?_eq_none h3]at h1;cases h1
 refine⟨⟨?_,?_,?_,r1.below,r1.size,?_,?_⟩,⟨by omega,?_,?_,fun c hc _=>hb.block c hc,hb.size,?_,hb.tape⟩⟩
 · intro b hb;have:b≠n:=by omega
   simp[Inj.put,this];exact r.dom b (by omega)
 · intro b C e hl;by_cases hb:b=n
   · subst hb;simp [Inj.put]at e;subst e;refine⟨o',ho,?_⟩;rw [zJ];simpa using hr
   · have e': ρ b=some C:=by simpa [Inj.put,hb] using e
     rw[zJ,if_neg (fun x=>hb x.symm)]at hl ⊢;obtain⟨ob,h1,h2⟩:=r1.obj b C e' hl;exact⟨ob,h1,h2.mono hle⟩
 · intro a b A C ea eb ha hb hab;by_cases h1:a=n
   · by_cases h2:b=n
     · rw[h1,h2]
     · have:=lt b C h2 eb hb;subst h1;simp [Inj.put]at ea;subst ea;omega
   · by_cases h2:b=n
     · have:=lt a A h1 ea ha;subst h2;simp [Inj.put]at eb;subst eb;omega
     · rw[zJ,if_neg (fun y=>h1 y.symm)]at ha;rw [zJ,if_neg (fun y=>h2 y.symm)]at hb;exact r.inj a b A C (by simpa [Inj.put,h1] using ea) (by simpa [Inj.put,h2] using eb) ha hb hab
 · intro g hg;obtain⟨G,e1,e2⟩:=r.glob g hg;exact⟨G,hle _ _ e1,e2⟩
 · have:=r.ngn;omega
 · intro b hb;have:b≠n:=by omega
   simp[Inj.put,this]
 · intro b C hb e;by_cases h1:b=n
   · subst h1;simp [Inj.put]at e;subst e;exact .inl hB
   · have e': ρ b=some C:=by simpa [Inj.put,h1] using e
     rw[r.dom b (by omega)]at e';cases e'
 · intro b hb e;rw [zJ,if_neg (by omega)];exact e
end
namespace Im
def decP:Value→Option Pr
 | .agg ⟨[.int .i64 a,.int .i64 b]⟩=>some (a,b)
 | _=>none
theorem decP_of{v:Value}{p:Pr}(h:decP v=some p):v = .agg ⟨encP p⟩:=by
 unfold decP at h;split at h
 · injection h with h;subst h;rfl
 · cases h
noncomputable def keysL(es:List MapEntry):Option (List Pr):=List.rec (some []) (fun e _ ih=>Option.rec none (fun p=>Option.rec none (fun l=>some (p::l)) ih) (decP e.key)) es
theorem keysL_map{es:List MapEntry}:∀{ks:List Pr},keysL es=some ks→es.map (·.key)=ks.map fun p=>.agg ⟨encP p⟩:=by
 induction es with
 | nil=>intro ks h;injection h with h;subst h;rfl
 | cons e r ih =>
  intro ks h;have h:(Option.rec none (fun p=>Option.rec none (fun l=>some (p::l)) (keysL r)) (decP e.key):Option (List Pr))=some ks:=h
  cases h1:decP e.key with
  | none=>rw [h1]at h;cases h
  | some p =>
   rw[h1]at h
   cases h2:keysL r with
   | none=>rw [h2]at h;cases h
   | some l=>
    rw[h2]at h;injection h with h
    subst h;rw [List.map_cons,List.map_cons,ih h2,decP_of h1]
noncomputable def bornsB(clock:Nat)(es:List MapEntry):Nat→Bool:=List.rec (fun _=>true) (fun e _ ih k=>Bool.rec false (Bool.rec false (ih (e.born+1)) (Nat.blt e.born clock)) (Nat.ble k e.born)) es
theorem bornsB_of{clock:Nat}:∀{es:List MapEntry} {k:Nat},bornsB clock es k=true→(∀e∈es,k≤e.born∧e.born<clock)∧(es.map (·.born)).Nodup:=by
 intro es
 induction es with
 | nil=>intro k _;exact⟨fun _ h=>(by cases h),List.nodup_nil⟩
 | cons e r ih =>
  intro k h;have h:(Bool.rec false (Bool.rec false (bornsB clock r (e.born+1)) (Nat.blt e.born clock)) (Nat.ble k e.born):Bool)=true:=h
  cases h1:Nat.ble k e.born with
  | false=>rw [h1]at h;cases h
  | true =>
   rw[h1]at h
   cases h2:Nat.blt e.born clock with
   | false=>rw [h2]at h;cases h
   | true=>
    rw[h2]at h;obtain⟨q1,q2⟩:=ih h;have h1:=Nat.le_of_ble_eq_true h1;have h2:e.born<clock:=Nat.le_of_ble_eq_true h2;refine⟨fun x hx=>?_,?_⟩
    · rcases List.mem_cons.1 hx with rfl|hx
      · exact⟨h1,h2⟩
      · have:=q1 x hx;omega
    · rw[List.map_cons,List.nodup_cons];refine⟨fun hm=>?_,q2⟩;obtain⟨x,hx,hxe⟩:=List.mem_map.1 hm;have:=q1 x hx;omega
noncomputable def ltB(x y:Pr):Bool:=Bool.rec (Bool.rec false (iltB x.2 y.2) (ieqB x.1 y.1)) true (iltB x.1 y.1)
theorem ltB_of{x y:Pr}(h:ltB x y=true):ltP x y=true:=by
 unfold ltB at h;unfold ltP;rw [iltB_eq,iltB_eq,vK]at h;by_cases h1:x.1<y.1
 · simp[h1]
 · rw[decide_eq_false h1]at h;by_cases h2:x.1=y.1
   · rw[decide_eq_true h2]at h;have h3:=of_decide_eq_true h;simp [h2,h3]
   · rw[decide_eq_false h2]at h;cases h
noncomputable def chainB(E:List Pr):Pr→Bool:=List.rec (fun _=>true) (fun p _ ih q=>Bool.rec false (ih p) (ltB q p)) E
theorem chainB_of:∀{E:List Pr} {q:Pr},chainB E q=true→(q::E).Pairwise fun x y=>ltP x y=true:=by
 intro E
 induction E with
 | nil=>intro q _;exact List.pairwise_singleton _ _
 | cons p r ih =>
  intro q h;have h:(Bool.rec false (chainB r p) (ltB q p):Bool)=true:=h
  cases h1:ltB q p with
  | false=>rw [h1]at h;cases h
  | true=>
   rw[h1]at h;have h2:=ih h;have h1:=ltB_of h1;rw [List.pairwise_cons];refine⟨fun y hy=>?_,h2⟩;rcases List.mem_cons.1 hy with rfl|hy
   · exact h1
   · have h3:=(List.pairwise_cons.1 h2).1 y hy;simp only[ltP,decide_eq_true_eq]at h1 h3 ⊢;omega
def codeP(p:Pr):Nat:=p.1.toNat*64+p.2.toNat
noncomputable def natB(x:Int):Bool:=Int.rec (fun a=>Nat.blt a 64) (fun _=>false) x
theorem natB_of{x:Int}(h:natB x=true):0≤x∧x<64:=by
 cases x with
 | ofNat a=>have:a<64:=Nat.le_of_ble_eq_true h;constructor <;> simp <;> omega
 | negSucc a=>cases h
noncomputable def rngB(l:List Pr):Bool:=List.rec true (fun p _ ih=>Bool.rec false (Bool.rec false ih (natB p.2)) (natB p.1)) l
theorem rngB_of{l:List Pr}(h:rngB l=true):∀p∈l,(0≤p.1∧p.1<64)∧0≤p.2∧p.2<64:=by
 induction l with
 | nil=>intro p hp;cases hp
 | cons q r ih =>
  have h:(Bool.rec false (Bool.rec false (rngB r) (natB q.2)) (natB q.1):Bool)=true:=h
  cases h1:natB q.1 with
  | false=>rw [h1]at h;cases h
  | true =>
   rw[h1]at h
   cases h2:natB q.2 with
   | false=>rw [h2]at h;cases h
   | true=>
    rw[h2]at h;intro p hp;rcases List.mem_cons.1 hp with rfl|hp
    · exact⟨natB_of h1,natB_of h2⟩
    · exact ih h p hp
noncomputable def maskP(l:List Pr):Nat:=List.rec 0 (fun p _ ih=>Nat.lor (Nat.shiftLeft 1 (codeP p)) ih) l
theorem maskP_bit{l:List Pr}{i:Nat}:(maskP l).testBit i=true↔∃p∈l,codeP p=i:=by
 induction l with
 | nil=>simp [maskP]
 | cons q r ih =>
  have e:maskP (q::r)=(1 <<< codeP q) ||| maskP r:=rfl;rw [e,Nat.testBit_or,Bool.or_eq_true,ih]
  have hb:(1 <<< codeP q).testBit i=true↔codeP q=i:=by
   rw[Nat.one_shiftLeft,Nat.testBit_two_pow];simp
  rw[hb];constructor
  · rintro (h|⟨p,hp,h⟩)
    · exact⟨q,List.mem_cons_self ..,h⟩
    · exact⟨p,List.mem_cons_of_mem _ hp,h⟩
  · rintro ⟨p,hp,h⟩
    rcases List.mem_cons.1 hp with rfl|hp
    · exact .inl h
    · exact .inr ⟨p,hp,h⟩
noncomputable def allHas(E ks:List Pr):Bool:=Bool.rec false (Bool.rec false (rngB E) (rngB ks)) (Nat.beq (maskP E) (maskP ks))
theorem allHas_of{E ks:List Pr}(h:allHas E ks=true):∀x∈E,x∈ks:=by
 unfold allHas at h
 cases h1:Nat.beq (maskP E) (maskP ks) with
 | false=>rw [h1]at h;cases h
 | true =>
  rw[h1]at h
  cases h2:rngB ks with
  | false=>rw [h2]at h;cases h
  | true=>
   rw[h2]at h;have h1:=Nat.eq_of_beq_eq_true h1;have hk:=rngB_of h2;have hE:=rngB_of h;intro x hx;obtain⟨p,hp,hc⟩:=maskP_bit.1 (h1 ▸ maskP_bit.2 ⟨x,hx,rfl⟩:(maskP ks).testBit (codeP x)=true);have a:=hk p hp;have b:=hE x hx;unfold codeP at hc;have:p=x:=Prod.ext (by omega) (by omega);rw [← this];exact hp
noncomputable def okS(es:List MapEntry)(clock:Nat)(q:Pr)(E:List Pr):Bool:=
 Option.rec false (fun ks=>Bool.rec false (Bool.rec false (Bool.rec false (allHas (q::E) ks) (chainB E q)) (bornsB clock es 0)) (Nat.beq es.length (E.length+1))) (keysL es)
theorem okS_of{es:List MapEntry}{clock:Nat}{q:Pr}{E:List Pr}(h:okS es clock q E=true):OkS es clock (q::E):=by
 unfold okS at h
 cases h1:keysL es with
 | none=>rw [h1]at h;cases h
 | some ks =>
  rw[h1]at h;dsimp only at h
  cases h2:Nat.beq es.length (E.length+1) with
  | false=>rw [h2]at h;cases h
  | true =>
   rw[h2]at h
   cases h3:bornsB clock es 0 with
   | false=>rw [h3]at h;cases h
   | true =>
    rw[h3]at h
    cases h4:chainB E q with
    | false=>rw [h4]at h;cases h
    | true=>
     rw[h4]at h;have h2:=Nat.eq_of_beq_eq_true h2;obtain⟨b1,b2⟩:=bornsB_of h3;have hk:=keysL_map h1;have hs:=chainB_of h4;have hl:es.length=(q::E).length:=h2;have hkl:ks.length=es.length:=by have:=congrArg List.length hk;simpa using this.symm
     refine⟨fun e he=>(b1 e he).2,b2,hl,⟨ks,hk,perm_of_sub ?_ (by omega) (allHas_of h)⟩,hs⟩;refine hs.imp fun {a b} hab hne=>?_;subst hne;simp [ltP]at hab
end Im
end Go.Ex
namespace Go.Ex.Im
open Go.RowKit
section
variable {P:Program} {ng:Nat}
noncomputable def hkR(el:Nat)(q:Pr)(E:List Pr)(h:zI)(n:Nat):Rsl:=⟨.slice (some ⟨n,0,none⟩) (E.length+1) inf,h.set .dead (.cells (Tr.ofListFrom undef .lF 0 (wU (q::E))) ((E.length+1)*2) (zc el 2) 1) n,n+1⟩
noncomputable def hkS(f0 g0:FuncId)(el:TypeId)(q:Pr)(E:List Pr):HookH:=fun f args h n=>
 Bool.rec none (match args with
  | [.map (some b),.func (.func g) ⟨[]⟩ ⟨[]⟩]=>match zH h b with
   | .map es clock=>Bool.rec none (some (hkR el q E h n)) (Bool.rec false (okS es clock q E) (Nat.beq g g0))
   | _=>none
  | _=>none) (Nat.beq f f0)
theorem func_nil{ρ : Inj}{g:FuncId}{v:Value}(h:RV ρ (.func (.func g) #[] #[]) v):v = .func (.func g) #[] #[]:=by
 cases h with
 | @func _ _ f' _ c' hy hf hc _ _=>
  have ef:f' = #[]:=Array.eq_empty_of_size_eq_zero (by simpa using hf.symm);have ec:c' = #[]:=Array.eq_empty_of_size_eq_zero (by simpa using hc.symm);rw [ef,ec]
theorem EsR.keys{ρ : Inj}{es es':List MapEntry}(r:EsR ρ es es'):es'.map (·.key)=es.map (·.key)∧es'.map (·.born)=es.map (·.born):=by
 obtain⟨hl,hv⟩:=r
 constructor <;> (
  apply List.ext_getElem?;intro i;rw [List.getElem?_map,List.getElem?_map]
  cases e1:es[i]? with
  | none=>rw [List.getElem?_eq_none (by rw[← hl];exact List.getElem?_eq_none_iff.1 e1)]
  | some x=>
   have hi:i<es.length:=(List.getElem?_eq_some_iff.1 e1).1;have e2:es'[i]? = some es'[i]:=List.getElem?_eq_getElem (by omega);have:=hv i x es'[i] e1 e2;rw [e2];simp only[Option.map_some];first|rw [this.1]|rw [this.2.2])
theorem OkS.real{ρ : Inj}{es es':List MapEntry}{clock:Nat}{E:List Pr}(o:OkS es clock E)(r:EsR ρ es es'):OkS es' clock E:=by
 obtain⟨k,b⟩:=EsR.keys r;refine⟨fun e he=>?_,by rw[b];exact o.nd,by rw[← r.1];exact o.len,by rw[k];exact o.keys,o.srt⟩;have hm:e.born∈es'.map (·.born):=List.mem_map.2 ⟨e,he,rfl⟩;rw [b]at hm;obtain⟨x,hx,hxe⟩:=List.mem_map.1 hm;rw [← hxe];exact o.lt x hx
theorem hkS_ok {f0 g0:FuncId} {el:TypeId} {q:Pr} {E:List Pr} (hf:∃fn body,P.funcs[f0]? = some fn∧fn.body=some body∧(fn.name == "runtime.NumGoroutine")=false) (hlen:E.length+1<100000) (H:SortedC P f0 g0 el):HookHOK P ng (hkS f0 g0 el q E):=by
 intro f args h n r e u;unfold hkS at e
 cases ef:Nat.beq f f0 with
 | false=>rw [ef]at e;cases e
 | true=>
 rw[ef]at e;dsimp only at e;split at e
 case h_2=>cases e
 rename_i b g;split at e
 case h_2=>cases e
 rename_i es clock hm
 cases eg:Nat.beq g g0 with
 | false=>rw [eg]at e;cases e
 | true=>
 rw[eg]at e
 cases eo:okS es clock q E with
 | false=>rw [eo]at e;cases e
 | true=>
 rw[eo]at e;injection e with e
 subst e;obtain rfl:=Nat.eq_of_beq_eq_true ef;obtain rfl:=Nat.eq_of_beq_eq_true eg;have ho:=okS_of eo;refine⟨hf,fun ρ base w0 wd args' cs hH hra hu=>?_⟩
 obtain⟨a0,a1,rfl⟩:∃a0 a1,args'=[a0,a1]:=by
  have:=hra.1
  match args',this with
  | [a0,a1],_=>exact⟨a0,a1,rfl⟩
 have r0:RV ρ (.map (some b)) a0:=hra.2 0 _ _ rfl rfl;have r1:RV ρ (.func (.func g) #[] #[]) a1:=hra.2 1 _ _ rfl rfl
 cases r0 with
 | map hb=>
 rename_i B;obtain rfl:=func_nil r1;obtain⟨o,q1,q2⟩:=hH.obj b B hb (by rw[hm];intro h;cases h);rw [hm]at q2
 cases q2 with
 | map he hbb=>
 rename_i es';obtain⟨e,w',fr,⟨gb,cap,cur,rfl,hg1,hg2,hg3,hg4,hg5,hbel⟩,hcm,hfn,hl⟩:=H wd B.b ⟨es'⟩ clock (q::E) q1 (ho.real he) (by simp) (by simpa using hlen) cs;have hsz:=hH.size;have hfl:=vO (q::E)
 obtain⟨k1,k2⟩:=hH.adopt hbel (.cells (Tr.ofListFrom undef .lF 0 (wU (q::E))) ((E.length+1)*2) (zc el 2) 1) (.cells cur el (0,0)) ⟨gb,cap*2,2⟩ hg1 hg2
  (.cells (by have:E.length+1≤cap:=hg4;show(E.length+1)*2≤cap*2;omega) hg3 (fun h=>absurd rfl h) ⟨fun _=>rfl,fun h=>by cases h⟩ (fun i v' hi hv=>by
   have hvt:(cur.toList.take ((q::E).length*2))[i]? = some v':=by
    rw[List.getElem?_take,if_pos (by simpa using hi)];simpa using hv
   rw[hg5]at hvt;have hil:i<(wU (q::E)).length:=by rw[hfl];simpa using hi
   rw[Tr.get_ofListFrom,if_pos (by omega)];have e1:(wU (q::E)).getD (i - 0) undef=v':=by simp[List.getD_eq_getElem?_getD,hvt]
   rw[e1];obtain⟨z,rfl⟩:=flatP_int (List.mem_iff_getElem?.2 ⟨i,hvt⟩);exact .int _ _) (fun _=>by show base≤gb;omega) (fun _=>⟨rfl,rfl⟩))
 obtain⟨y1,y2,y3,y4⟩:=hl;refine⟨_,w',fr,cs,hcm,k1,k2,CsTo.refl _ _,(fun e=>Bool.noConfusion e),hfn,_,y1,y2,y3,y4,?_⟩;exact .opened (B:=⟨gb,cap*2,2⟩) (by show(if n=n then _ else _)=_;rw [if_pos rfl]) hg4 (.inl ⟨rfl,by show 0+cap*2=cap*2;omega⟩)
end
end Go.Ex.Im
namespace Go.Proofs.YtdfmheghgbnkmaaGreat
open Go.Ex Go.Ex.Im Go.ChangeShapes Go.WideShapes Go.ChangeAt Go.RowKit
set_option maxRecDepth 1000000
theorem prog_ok:zP 0 Tryz.prog=true:=by decide +kernel
theorem mixed:Tryz.prog.follows .mixedOrders=true:=by decide +kernel
def tabs:List (Nat×List Value):=[]
theorem tabs_ok:tabsOK 0 tabs=true:=by decide +kernel
theorem alive_run:(run Tryz.prog 1000000).call 6 [] false none (heap0 tabs) 0 (finV (.bool true))=true:=by decide +kernel
noncomputable def hk:Hook:=fun f args h=>Bool.rec none (Bool.rec none (some (.bool true)) (tabsB tabs h)) (Nat.beq f 6 && Nat.beq args.length 0)
theorem hk_ok:HookOK Tryz.prog 0 hk:=by
 intro f args h v e u n;unfold hk at e
 cases h1:(Nat.beq f 6 && Nat.beq args.length 0) with
 | false=>rw [h1]at e;cases e
 | true =>
  rw[h1]at e
  cases h2:tabsB tabs h with
  | false=>rw [h2]at e;cases e
  | true=>
   rw[h2]at e;injection e with e
   subst e;obtain⟨a1,a2⟩:=Bool.and_eq_true_iff.1 h1;obtain rfl:=zG a1;obtain rfl:args=[]:=List.length_eq_zero_iff.1 (zG a2);exact hook_of_run (sound prog_ok mixed 1000000) tabs_ok rfl (.inr ⟨_,rfl⟩) alive_run h2 u n
noncomputable def rowQ(a:Nat)(k:Nat)(t:List Pr):Nat→List Pr:=Nat.rec (fun _=>t) (fun _ ih b=>((a:Int),(b:Int))::ih (b+1)) k
noncomputable def allQ(k:Nat):Nat→List Pr:=Nat.rec (fun _=>[]) (fun k ih a=>rowQ a (k+1) (ih (a+1)) (a+1)) k
noncomputable def hkM(n:Nat):HookH:=fun f args h k=>Option.rec (hkS 60 61 45 (0,1) (allQ n 0).tail f args h k) (fun v=>some ⟨v,h,k⟩) (hk f args h)
theorem hkM_ok{n:Nat}(hn:(allQ n 0).tail.length+1<100000):HookHOK Tryz.prog 0 (hkM n):=by
 intro f args h k r e u;unfold hkM at e
 cases h1:hk f args h with
 | some v=>
  rw[h1]at e;injection e with e
  subst e;exact hk_ok f args h v h1 u k
 | none=>
  rw[h1]at e;exact hkS_ok ⟨Tryz.f60,_,Tryz.func60,rfl,by kernel_rfl⟩ hn sorted_calls f args h k r e u
noncomputable def lo(n:Nat):Lo:=runHH Tryz.prog (hkM n) 1000000
theorem lo_ok{n:Nat}(hn:(allQ n 0).tail.length+1<100000):Sound Tryz.prog 0 (lo n):=soundHH prog_ok mixed (hkM_ok hn) 1000000
noncomputable def yes(n:Nat)(f:FuncId)(args:List Value):Bool:=(lo n).call f args false none (heap0 tabs) 0 (finV (.bool true))
theorem walk_of{n:Nat}{f:FuncId}{args:List Value}(hn:(allQ n 0).tail.length+1<100000)(hp:args.all xX=true)(hx:yes n f args=true)(w:World)(hw:zK w tabs) :
 Calls Tryz.prog f ⟨args⟩ w fun e w'=>e = .returned (.bool true)∧Below w.heap.size w w':=
 law_calls (lo_ok hn) tabs_ok hp hx w hw
theorem own:ownKnob Tryz.prog.godebug=none:=by kernel_rfl
open Go.Ex Go.Ex.Im Go.RowKit
set_option maxRecDepth 1000000
noncomputable def mkH(l:List (Nat×AObj)):zI:=List.rec .lF (fun p _ ih=>ih.set .dead p.2 p.1) l
noncomputable def iv(n:Nat):Value:=.int .i64 (.ofNat n)
noncomputable def ns:Value:=.slice none 0 0
noncomputable def sv(b l c:Nat):Value:=.slice (some ⟨b,0,none⟩) l c
noncomputable def so(b l:Nat):Value:=.slice (some ⟨b,0,none⟩) l inf
noncomputable def pv(b:Nat):Value:=.pointer (some ⟨b,0,none⟩)
noncomputable def tx(l:List UInt8):Value:=.string ⟨⟨l⟩⟩
noncomputable def tg:Value:=tx [103]
noncomputable def cO(l:List Value)(z kd:Nat):AObj:=.cells (Tr.ofListFrom undef .lF 0 l) l.length z kd
noncomputable def iC(d:Nat):List Value:=[iv 1,iv d,iv 0,iv 0,iv d,tx [],ns,iv 0,iv 0]
noncomputable def iA(b:Nat):List Value:=[iv 3,iv 0,iv 0,iv 0,iv 0,tx [97,100,100],sv b 2 2,iv 0,iv 0]
noncomputable def iR:List Value:=[iv 9,iv 0,iv 0,iv 0,iv 0,tx [],ns,iv 0,iv 0]
noncomputable def ag(l:List Value):Value:=.agg ⟨l⟩
noncomputable def csC(n:Nat)(t:List Value):Nat→List Value:=Nat.rec (fun _=>t) (fun _ ih d=>List.rec (ih (d+1)) (fun x _ r=>x::r) (iC d)) n
noncomputable def asC(l:List Nat):List Value:=List.rec iR (fun b _ ih=>List.rec ih (fun x _ r=>x::r) (iA b)) l
noncomputable def vR(n:Nat)(l:List Nat)(z:Nat):AObj:=cO (csC n (asC l) 1) z 1
noncomputable def rpV(n:Nat)(v:Value):List Value:=Nat.rec [] (fun _ ih=>v::ih) n
noncomputable def esO(l:List (Nat×Nat))(c:Nat):List MapEntry:=List.rec (motive:=fun _=>Nat→Nat→List MapEntry) (fun _ _=>[]) (fun p _ ih c i=>Nat.rec [] (fun c _=>⟨.agg ⟨[iv p.1,iv p.2]⟩,iv 1,i⟩::ih c (i+1)) c) l c 0
noncomputable def mO(l:List (Nat×Nat))(c:Nat):AObj:=.map (esO l c) c
noncomputable def wO(w:Nat):AObj:=cO [.int .u64 (.ofNat w)] 14761 1
noncomputable def aO(i:Nat):AObj:=cO [iv 0,iv i] 0 0
noncomputable def fO(st:List (Nat×AObj))(es:List (Nat×Nat))(O P k:Nat)(i:List Value)(A w n n1 c c1:Nat)(bs:List Nat):OnceC:=
 ⟨⟨56,[iv k,ag i,ag [sv A 1 1],pv P],mkH ((O,mO es c)::(A,wO w)::st),n,⟨.tuple #[],mkH ((O,mO es c1)::(A,wO w)::st),n1⟩⟩,bs⟩
noncomputable def lo0:Lo:=run Tryz.prog 1000000
theorem lo0_ok:Sound Tryz.prog 0 lo0:=sound prog_ok mixed 1000000
noncomputable def zC(l:List OnceC):Bool:=List.rec true (fun c _ ih=>Bool.rec false ih (c.run lo0)) l
theorem zA{l:List OnceC}(h:zC l=true):∀c∈l,c.run lo0=true:=by
 induction l with
 | nil=>intro c hc;cases hc
 | cons x r ih =>
  have h:(Bool.rec false (zC r) (x.run lo0):Bool)=true:=h
  cases h1:x.run lo0 with
  | false=>rw [h1]at h;cases h
  | true=>
   rw[h1]at h;intro c hc;rcases List.mem_cons.1 hc with rfl|hc
   · exact h1
   · exact ih h c hc
theorem zB{a b:List OnceC}(ha:∀c∈a,c.run lo0=true)(hb:∀c∈b,c.run lo0=true):∀c∈a++b,c.run lo0=true:=fun c hc=>by
 rcases List.mem_append.1 hc with h|h
 · exact ha c h
 · exact hb c h
noncomputable def hkN(n:Nat)(l:List OnceC):HookH:=fun f args h k=>Option.rec (hookC l f args h k) some (hkM n f args h k)
theorem hkN_ok{n:Nat}(hn:(allQ n 0).tail.length+1<100000){l:List OnceC}(hl:∀c∈l,c.run lo0=true):HookHOK Tryz.prog 0 (hkN n l):=by
 intro f args h k r e u;unfold hkN at e
 cases h1:hkM n f args h k with
 | some v=>
  rw[h1]at e;injection e with e
  subst e;exact hkM_ok hn f args h k v h1 u
 | none=>
  rw[h1]at e;exact hookC_ok lo0_ok hl f args h k r e u
noncomputable def uL(n:Nat)(l:List OnceC):Bool:=(runHH Tryz.prog (hkN n l) 1000000).call 3 [.int .i64 (.ofNat n)] false none (heap0 tabs) 0 (finV (.bool true))
theorem zD{n:Nat}{l:List OnceC}(hn:(allQ n 0).tail.length+1<100000)(hl:∀c∈l,c.run lo0=true)(hx:uL n l=true)(w:World)(hw:zK w tabs) :
 Calls Tryz.prog 3 #[.int .i64 (.ofNat n)] w fun e w'=>e = .returned (.bool true)∧Go.RowKit.Below w.heap.size w w':=
 law_calls (soundHH prog_ok mixed (hkN_ok hn hl) 1000000) tabs_ok (by rfl) hx w hw
open Go.Ex Go.Ex.Im Go.RowKit
set_option maxRecDepth 1000000
noncomputable def q0:AObj:=cO [tx [114,48,48]] 0 0
noncomputable def q1:AObj:=cO [tx [97,100,100],tg,tx [],sv 21 2 2,.int .i64 (.negSucc 0),ns,tx [110,111,116],tg,tx [],sv 22 1 1,.int .i64 (.negSucc 0),ns,tx [100,105,118],tg,tx [],sv 23 2 2,.int .i64 (.negSucc 0),ns] 0 0
noncomputable def q2:AObj:=cO [tg,tx [],tg,tx []] 0 0
noncomputable def q3:AObj:=cO [tx [114,48,48],tx [114,48,49],tx [114,48,50],tx [114,48,51]] 109 1
noncomputable def q4:AObj:=cO [tx [114,48,48],iv 8,iv 0,ns,tx [114,48,49],iv 8,iv 0,ns,tx [114,48,50],iv 8,iv 0,ns,tx [114,48,51],iv 8,iv 0,ns] 6802 1
noncomputable def q5:AObj:=cO [so 581 3,so 596 2,so 615 3] 3421 1
noncomputable def q6:AObj:=cO [sv 496 1 1,sv 517 1 1,sv 538 1 1,sv 559 1 1] 4031 1
noncomputable def q7:AObj:=.map [⟨tx [97,100,100],iv 0,0⟩,⟨tx [110,111,116],iv 1,1⟩,⟨tx [100,105,118],iv 2,2⟩] 3
noncomputable def q8:AObj:=cO [iv 0,iv 1,iv 2,iv 3] 19 1
noncomputable def q9:AObj:=.map [⟨tx [114,48,48],iv 0,0⟩,⟨tx [114,48,49],iv 1,1⟩,⟨tx [114,48,50],iv 2,2⟩,⟨tx [114,48,51],iv 3,3⟩] 4
noncomputable def q10:AObj:=cO [tx [109],so 347 4,so 349 1,so 351 3,so 361 1,tx [114,48,48],ns,iv 100,so 436 4,so 438 4,(.map (some 440)),(.map (some 477)),(.map (some 478)),so 562 4,so 453 1,so 467 1,so 617 3,so 601 3,ns,so 564 1,ns] 65 0
noncomputable def q11:AObj:=cO [tg,tx [],tg,tx []] 5698 1
noncomputable def q12:AObj:=cO [tx [97,100,100],tg,tx [],so 355 2,.int .i64 (.negSucc 0),ns,tx [110,111,116],tg,tx [],so 357 1,.int .i64 (.negSucc 0),ns,tx [100,105,118],tg,tx [],so 359 2,.int .i64 (.negSucc 0),ns] 6800 1
noncomputable def mkC:OnceC:=⟨⟨7,[ag [tx [109],so 16 4,sv 19 1 1,sv 24 3 3,sv 25 1 1,tx [114,48,48],ns,iv 100]],mkH [(25,q0),(24,q1),(23,q2),(22,cO [tg,tx []] 0 0),(21,q2),(19,cO [tg,so 18 4] 0 0),(18,q3),(16,q4)],26,⟨.tuple #[pv 362,iv 0],mkH [(617,q5),(564,cO [iv 0] 19 1),(562,q6),(496,wO 1),(478,q7),(477,.map [⟨tg,iv 0,0⟩] 1),(467,cO [sv 464 1 1] 4031 1),(464,wO 15),(453,cO [so 451 4] 1405 1),(451,q8),(440,q9),(362,q10),(355,q11),(351,q12)],625⟩⟩,[]⟩
theorem zM:zC [mkC]=true:=by kernel_rfl
end Go.Proofs.YtdfmheghgbnkmaaGreat
