/- What the law leans on: an executor of the model that is sound, deduction over it, and the walks through the code (part 15 of 24). Conditions: those that each theorem states. -/
import Derived.Test.YtdipdkkpgjdnkaaGreatDoorVirLinesx14
import Derived.Test.YtdipdkkpgjdnkaaGreatDoorVirLinesx13
import Derived.Lib.AtoiAll
import Derived.Lib.AppendIntMem

set_option linter.unusedVariables false
set_option linter.unusedSimpArgs false
namespace Go.Ex.M
theorem finB{z:Bool}{p:Prop}{_i:Decidable p}{h:zB}{n:Nat}(hz:z=true↔p):Out.ret (.bool z)=Out.ret (.bool (decide p))∧h=h∧n=n:=⟨by
 cases z with
 | true=>rw [decide_eq_true (hz.1 rfl)]
 | false=>rw [decide_eq_false fun e=>Bool.noConfusion (hz.2 e)],rfl,rfl⟩
theorem fin{v w:Value}{h:zB}{n:Nat}(e:v=w):Out.ret v=Out.ret w∧h=h∧n=n:=⟨by rw[e],rfl,rfl⟩
theorem finT{S:List Nat}{v w:Value}{h h':zB}{n n':Nat}(e:v=w)(t:Tch S h n h' n'):Out.ret v=Out.ret w∧Tch S h n h' n':=⟨by rw[e],t⟩
def wordsL:List Tx:=[[109,97,99,104,105,110,101],[114,101,103],[97,116],[99,108,97,115,115],[111,112],[116,105,101],[99,108,111,98],[97,114,103,115],[114,101,115,117,108,116],[115,97,118,101,100],[115,108,111,116,115]]
def wordB(s:Tx):Bool:=decide (s∈wordsL)
def named(s:Tx):Bool:=nameB s && !wordB s
theorem flat_at{α : Type}{f: α→List Value}{sz:Nat}(hf:∀x,(f x).length=sz):∀{l:List α} {k j:Nat} {x: α} {v:Value},l[k]? = some x→(f x)[j]? = some v→(l.flatMap f)[k*sz+j]? = some v:=by
 intro l
 induction l with
 | nil=>intro k j x v h;cases h
 | cons y r ih =>
  intro k j x v h1 h2;rw [List.flatMap_cons]
  cases k with
  | zero=>
   cases h1
   rw[Nat.zero_mul,Nat.zero_add,List.getElem?_append_left (List.getElem?_eq_some_iff.1 h2).1];exact h2
  | succ k=>
   rw[List.getElem?_cons_succ]at h1;rw [List.getElem?_append_right (by rw[hf];have:=Nat.add_one_mul k sz;omega),hf,show(k+1)*sz+j - sz=k*sz+j by have:=Nat.add_one_mul k sz;omega];exact ih h1 h2
theorem rd_of{h:zB}{b:Nat}:∀{sz o:Nat} {vs:List Value},vs.length=sz→(∀j v,vs[j]? = some v→zD h b (o+j)=some v)→Rd h b o sz vs:=by
 intro sz
 induction sz with
 | zero=>intro o vs h1 _;exact List.length_eq_zero_iff.1 h1
 | succ k ih=>
  intro o vs h1 h2
  cases vs with
  | nil=>cases h1
  | cons x r=>exact⟨x,r,rfl,h2 0 x rfl,ih (by simpa using h1) fun j v hj=>by have:=h2 (j+1) v (by simpa using hj);rwa [show o+(j+1)=o+1+j by omega]at this⟩
theorem row_el{α : Type}{f: α→List Value}{sz lo e len:Nat}{h:zB}{v:Value}{l:List α}{k:Nat}{x: α}(r:Row lo h v e sz len (l.flatMap f))(hk:l[k]? = some x)(hf:∀x,(f x).length=sz:=by intro _;rfl):Rd h (sbk v) (sof v+k*sz) sz (f x):=
 rd_of (hf x) fun j w hj=>by rw[Nat.add_assoc];exact r.at (flat_at hf hk hj)
theorem xX{α : Type}{g: α→Value}{lo e len:Nat}{h:zB}{v:Value}{l:List α}{k:Nat}{x: α}(r:Row lo h v e 1 len (l.map g))(hk:l[k]? = some x):zD h (sbk v) (sof v+k*1)=some (g x):=by
 rw[Nat.mul_one];exact r.at (by rw[List.getElem?_map,hk];rfl)
theorem tail_step{s:Tx}{k:Nat}(h:k<s.length):tailB s=true→letB s[k].toNat=true∨digB s[k].toNat=true:=fun ht=>by
 have:=List.all_eq_true.1 ht s[k] (List.getElem_mem h);simpa using this
theorem tail_all{s:Tx}(hno:∀j (hj:j<s.length),letB s[j].toNat=true∨digB s[j].toNat=true):tailB s=true:=by
 refine List.all_eq_true.2 fun c hc=>?_;obtain⟨j,hj,rfl⟩:=List.mem_iff_getElem.1 hc;have:=hno j hj;simpa using this
end Go.Ex.M
namespace Go.Ex.Vir
open Go Go.Ex
abbrev Tx:=List UInt8
structure Ins where
 kind:Int
 d:Int
 a:Int
 b:Int
 n:Int
 name:Tx
 args:List Int
 t:Int
 f:Int
def Ins.z:Ins:=⟨0,0,0,0,0,[],[],0,0⟩
structure Fct where
 name:Tx
 vregs:List Tx
 params:List Int
 result:Tx
 blocks:List (List Ins)
def Fct.z:Fct:=⟨[],[],[],[],[]⟩
abbrev named(s:Tx):Bool:=M.nameB s
abbrev tFunc:Tx:=[102,117,110,99]
abbrev tRegs:Tx:=[114,101,103,115]
abbrev tParams:Tx:=[112,97,114,97,109,115]
abbrev tResult:Tx:=[114,101,115,117,108,116]
abbrev tBlock:Tx:=[98,108,111,99,107]
abbrev tEnd:Tx:=[101,110,100]
abbrev tConst:Tx:=[99,111,110,115,116]
abbrev tCopy:Tx:=[99,111,112,121]
abbrev tLoad:Tx:=[108,111,97,100]
abbrev tCall:Tx:=[99,97,108,108]
abbrev tStore:Tx:=[115,116,111,114,101]
abbrev tBr:Tx:=[98,114]
abbrev tJump:Tx:=[106,117,109,112]
abbrev tRet:Tx:=[114,101,116]
abbrev tEq:Tx:=[61]
abbrev tTwo:Tx:=[32,32]
def small(n:Int):Bool:=decide (0≤n∧n≤99999)
def restI(i:Ins):Ins:=
 if i.kind=1 then { i with kind:=0,d:=0,n:=0 }
 else if i.kind=2∨i.kind=4 then { i with kind:=0,d:=0,a:=0 }
 else if i.kind=3∨i.kind=6 then { i with kind:=0,d:=0,name:=[],args:=[] }
 else if i.kind=5 then { i with kind:=0,a:=0,b:=0 }
 else if i.kind=7 then { i with kind:=0,a:=0,t:=0,f:=0 }
 else if i.kind=8 then { i with kind:=0,t:=0 }
 else if i.kind=9 then { i with kind:=0,a:=0 }
 else { i with kind:=0 }
def zeroI(i:Ins):Bool:=decide (i.kind=0∧i.d=0∧i.a=0∧i.b=0∧i.n=0∧i.name=[]∧i.args.length=0∧i.t=0∧i.f=0)
def wordB(x:Tx):Bool:=[tConst,tCopy,tLoad,tCall].any (x == ·)
def plainI(i:Ins):Bool:=decide (1≤i.kind) && decide (i.kind≤9) && zeroI (restI i) && [i.a,i.b,i.t,i.f].all small && i.args.all small && decide (i.args.length≤16) &&
  (if i.kind=3 then named i.name && !wordB i.name && decide (1≤i.args.length) && decide (i.args.length≤2) && small i.d
   else if i.kind=6 then named i.name && (decide (i.d = -1) || small i.d) else small i.d)
def plainF(f:Fct):Bool:=named f.name && named f.result && decide (f.vregs.length≤500) && decide (f.params.length≤16) && decide (f.blocks.length≤200) && f.params.all small && f.vregs.all named &&
 f.blocks.all fun b=>decide (b.length≤400) && b.all plainI
abbrev Res(α : Type):=Except Int (α×List Tx)
def nextW:List Tx→Res Tx
 | []=>.error 3
 | s::r=>.ok (s,r)
def wantW(x:Tx)(ws:List Tx):Res Unit:=match ws with
 | []=>.error 3
 | s::r=>if s == x then .ok ((),r) else .error 3
def nameW(ws:List Tx):Res Tx:=match ws with
 | []=>.error 3
 | s::r=>if named s then .ok (s,r) else .error 3
def anyOf(s:Tx):Option Int:=match Lib.atoiAll s with
 | .ok v=>if Lib.itoa v == s then some v else none
 | _=>none
theorem anyOf_ok{s:Tx}{a:Int}(h:Lib.atoiAll s = .ok a):anyOf s=if Lib.itoa a == s then some a else none:=by unfold anyOf;rw [h]
theorem anyOf_bad{s:Tx}(h:∀a,Lib.atoiAll s≠.ok a):anyOf s=none:=by
 unfold anyOf;split
 · rename_i v e;exact absurd e (h v)
 · rfl
def anyW(ws:List Tx):Res Int:=match ws with
 | []=>.error 3
 | s::r=>match anyOf s with
  | some v=>.ok (v,r)
  | none=>.error 3
def numberW(ws:List Tx):Res Int:=match anyW ws with
 | .error e=>.error e
 | .ok (v,r)=>if small v then .ok (v,r) else .error 3
def endW(ws:List Tx):Res Unit:=match ws with
 | []=>.ok ((),[])
 | _::_=>.error 3
def restW{α : Type}(one:List Tx→Res α):Nat→List Tx→Res (List α)
 | _,[]=>.ok ([],[])
 | 0,ws=>.ok ([],ws)
 | k + 1, ws => match one ws with
  | .error e=>.error e
  | .ok (x,r)=>match restW one k r with
   | .error e=>.error e
   | .ok (l,r')=>.ok (x::l,r')
theorem restW_ok{α : Type}{one:List Tx→Res α}{k:Nat}{s:Tx}{r r' ws':List Tx}{x: α}{l:List α}(h1:one (s::r) = .ok (x,r'))(h2:restW one k r' = .ok (l,ws')):restW one (k+1) (s::r) = .ok (x::l,ws'):=by
 unfold restW;rw [h1];dsimp only;rw [h2]
theorem restW_er1{α : Type}{one:List Tx→Res α}{k:Nat}{s:Tx}{r:List Tx}{e:Int}(h1:one (s::r) = .error e):restW one (k+1) (s::r) = .error e:=by
 unfold restW;rw [h1]
theorem restW_er2{α : Type}{one:List Tx→Res α}{k:Nat}{s:Tx}{r r':List Tx}{x: α}{e:Int}(h1:one (s::r) = .ok (x,r'))(h2:restW one k r' = .error e):restW one (k+1) (s::r) = .error e:=by
 unfold restW;rw [h1];dsimp only;rw [h2]
def restNames(ws:List Tx):Res (List Tx):=restW nameW ws.length ws
def restNums(ws:List Tx):Res (List Int):=restW numberW ws.length ws
def calledI(i:Ins)(ws:List Tx):Res Ins:=match nameW ws with
 | .error e=>.error e
 | .ok (s,r)=>match restNums r with
  | .error e=>.error e
  | .ok (l,r')=>if l.length≤16 then .ok ({ i with kind:=6,name:=s,args:=l },r') else .error 2
def definingI(ws:List Tx):Res Ins:=match numberW ws with
 | .error e=>.error e
 | .ok (d, r) => match wantW tEq r with
  | .error e=>.error e
  | .ok (_, r) => match nameW r with
   | .error e=>.error e
   | .ok (s, r) =>
    if s == tConst then(match anyW r with
     | .error e=>.error e
     | .ok (v,r)=>.ok ({ Ins.z with kind:=1,d:=d,n:=v },r))
    else if s == tCopy then(match numberW r with
     | .error e=>.error e
     | .ok (v,r)=>.ok ({ Ins.z with kind:=2,d:=d,a:=v },r))
    else if s == tLoad then(match numberW r with
     | .error e=>.error e
     | .ok (v,r)=>.ok ({ Ins.z with kind:=4,d:=d,a:=v },r))
    else if s == tCall then calledI { Ins.z with d:=d } r
    else(match restNums r with
     | .error e=>.error e
     | .ok (l,r')=>if 1≤l.length then(if l.length≤2 then .ok ({ Ins.z with kind:=3,d:=d,name:=s,args:=l },r') else .error 3) else .error 3)
def wordAt1(ws:List Tx):Tx:=(ws[1]?).getD []
def oneI(ws:List Tx):Res Ins:=
 if wordAt1 ws == tEq then definingI ws else match nextW ws with
 | .error e=>.error e
 | .ok (s, r) =>
  if s == tStore then(match numberW r with
   | .error e=>.error e
   | .ok (a,r)=>match numberW r with
    | .error e=>.error e
    | .ok (b,r)=>.ok ({ Ins.z with kind:=5,a:=a,b:=b },r))
  else if s == tCall then calledI { Ins.z with d:= -1 } r
  else if s == tBr then(match numberW r with
   | .error e=>.error e
   | .ok (a, r) => match numberW r with
    | .error e=>.error e
    | .ok (b,r)=>match numberW r with
     | .error e=>.error e
     | .ok (c,r)=>.ok ({ Ins.z with kind:=7,a:=a,t:=b,f:=c },r))
  else if s == tJump then(match numberW r with
   | .error e=>.error e
   | .ok (a,r)=>.ok ({ Ins.z with kind:=8,t:=a },r))
  else if s == tRet then(match numberW r with
   | .error e=>.error e
   | .ok (a,r)=>.ok ({ Ins.z with kind:=9,a:=a },r))
  else .error 3
def ofW(line head:Tx):Except Int (List Tx):=
 if Lib.hasPrefix line head && !(Lib.trimPrefix line head == []) then
  (if (zO 32 (Lib.trimPrefix line head)).all (fun s=> !(s == [])) then .ok (zO 32 (Lib.trimPrefix line head)) else .error 3)
 else .error 3
structure St where
 step:Nat
 opn:Bool
 ended:Bool
 f:Fct
def St.z:St:=⟨0,false,false,Fct.z⟩
def headS(st:St)(ws:List Tx):Except Int Fct:=match st.step with
 | 0 => match wantW tFunc ws with
  | .error e=>.error e
  | .ok (_, r) => match nameW r with
   | .error e=>.error e
   | .ok (s,r)=>match endW r with
    | .error e=>.error e
    | .ok _=>.ok { st.f with name:=s }
 | 1 => match wantW tRegs ws with
  | .error e=>.error e
  | .ok (_,r)=>match restNames r with
   | .error e=>.error e
   | .ok (l,_)=>if l.length≤500 then .ok { st.f with vregs:=l } else .error 2
 | 2 => match wantW tParams ws with
  | .error e=>.error e
  | .ok (_,r)=>match restNums r with
   | .error e=>.error e
   | .ok (l,_)=>if l.length≤16 then .ok { st.f with params:=l } else .error 2
 | _ => match wantW tResult ws with
  | .error e=>.error e
  | .ok (_, r) => match nameW r with
   | .error e=>.error e
   | .ok (s,r)=>match endW r with
    | .error e=>.error e
    | .ok _=>.ok { st.f with result:=s }
theorem headS_blocks{st:St}{ws:List Tx}{f':Fct}(h:headS st ws = .ok f'):f'.blocks=st.f.blocks:=by
 unfold headS at h;repeat' (split at h)
 all_goals first
  | (cases h;done)
  | (injection h with h;subst h;rfl)
def addIns(l:List (List Ins))(i:Ins):List (List Ins):=l.dropLast++[l.getLastD []++[i]]
def insS(st:St)(ws:List Tx):Except Int Fct:=match oneI ws with
 | .error e=>.error e
 | .ok (i,r)=>match endW r with
  | .error e=>.error e
  | .ok _=>if (st.f.blocks.getLastD []).length<400 then .ok { st.f with blocks:=addIns st.f.blocks i } else .error 2
def lineS(st:St)(s:Tx):Except Int St:=
 if !st.ended && !(s == []) then
  if st.step<4 then(match ofW s [] with
   | .error e=>.error e
   | .ok ws=>match headS st ws with
    | .error e=>.error e
    | .ok f=>.ok { st with step:=st.step+1,f:=f })
  else if s == tEnd then .ok { st with ended:=true }
  else if s == tBlock then(if st.f.blocks.length<200 then .ok { st with opn:=true,f:={ st.f with blocks:=st.f.blocks++[[]] } } else .error 2)
  else if st.opn then(match ofW s tTwo with
   | .error e=>.error e
   | .ok ws=>match insS st ws with
    | .error e=>.error e
    | .ok f=>.ok { st with f:=f })
  else .error 3
 else .error 3
def lineOf(s:Tx):Tx:=if (vE 10 s).2.2 then(vE 10 s).1 else []
def runS:Nat→Nat→Tx→St→Except (Nat×Int) (St×Nat)
 | 0,no,_,st=>.ok (st,no)
 | k + 1, no, s, st =>
  if s == [] then .ok (st,no)
  else match lineS st (lineOf s) with
   | .error e=>.error (no,e)
   | .ok st'=>runS k (no+1) (vE 10 s).2.1 st'
def tellS(r:Except (Nat×Int) (St×Nat)):Fct×Int×Int:=match r with
 | .error (no,e)=>(Fct.z,no,e)
 | .ok (st,no)=>if st.ended then(st.f,0,0) else(Fct.z,no,3)
def readS(s:Tx):Fct×Int×Int:=if 65536<s.length then(Fct.z,0,2) else tellS (runS (s.length+1) 1 s St.z)
end Go.Ex.Vir
namespace Go.Ex.M
def tMax:Nat:=1125899906842624
def RowA(lo:Nat)(h:zB)(v:Value)(sz len:Nat)(vs:List Value):Prop:=∀e,Row lo h v e sz len vs
structure RowI (lo:Nat) (h:zB) (v:Value) (sz len:Nat) (vs:List Value):Prop where
 lt:len<inf
 ex:∃e,Row lo h v e sz len vs
instance {lo:Nat} {h:zB} {v:Value} {sz len:Nat} {vs:List Value}:CoeFun (RowI lo h v sz len vs) (fun r=>Nat→Row lo h v r.ex.choose sz len vs):=⟨fun r _=>r.ex.choose_spec⟩
section
variable {e lo:Nat} {h h':zB} {v:Value} {sz len n n':Nat} {vs:List Value}
end
structure InsT where
 kind:Int
 d:Int
 a:Int
 b:Int
 n:Int
 name:Tx
 av:Value
 args:List Int
 t:Int
 f:Int
abbrev uE(i:InsT):List Value:=[I64 i.kind,I64 i.d,I64 i.a,I64 i.b,I64 i.n,str i.name,i.av,I64 i.t,I64 i.f]
abbrev toI(i:InsT):Vir.Ins:=⟨i.kind,i.d,i.a,i.b,i.n,i.name,i.args,i.t,i.f⟩
structure InsM (lo:Nat) (h:zB) (i:InsT):Prop where
 ar:RowI lo h i.av 1 i.args.length (i.args.map I64)
 al:i.args.length<tMax
 ag:∀x∈i.args,Go64 x
 gk:Go64 i.kind
 gd:Go64 i.d
 gn:Go64 i.n
 nl:i.name.length<tMax
structure FunT where
 name:Tx
 vv:Value
 vregs:List Tx
 pv:Value
 params:List Int
 result:Tx
 bv:Value
 blocks:List (Value×List InsT)
abbrev funC(f:FunT):List Value:=[str f.name,f.vv,f.pv,str f.result,f.bv]
abbrev toF(f:FunT):Vir.Fct:=⟨f.name,f.vregs,f.params,f.result,f.blocks.map fun x=>x.2.map toI⟩
structure FunM (lo:Nat) (h:zB) (f:FunT):Prop where
 nl:f.name.length<tMax
 rl:f.result.length<tMax
 vr:RowI lo h f.vv 1 f.vregs.length (f.vregs.map str)
 vl:f.vregs.length<tMax
 vt:∀x∈f.vregs,x.length<tMax
 pr:RowI lo h f.pv 1 f.params.length (f.params.map I64)
 pl:f.params.length<tMax
 pg:∀x∈f.params,Go64 x
 bl:RowI lo h f.bv 1 f.blocks.length (f.blocks.map (·.1))
 bll:f.blocks.length<tMax
 el:∀x∈f.blocks,RowI lo h x.1 9 x.2.length (x.2.flatMap uE)
 ell:∀x∈f.blocks,x.2.length<tMax
 ins:∀x∈f.blocks,∀i∈x.2,InsM lo h i
end Go.Ex.M
namespace Go.Proofs.YtdipdkkpgjdnkaaGreatDoor
open Go Go.Ex Go.Ex.M
set_option maxRecDepth 100000
set_option maxHeartbeats 8000000
theorem index_pur{lo e n:Nat}{h:zB}{sv:Value}{ss:List Tx}{x:Tx}(r:Row lo h sv e 1 ss.length (ss.map str))(hl:ss.length<4611686018427387904):Pur P 8 86 [sv,str x] h n (I64 (pos ss x)):=by
 refine ent fun u=>?_;repeat' first|refine wk ?_|refine cX (fun _=>?_) fun _=>?_|fail
 refine lpR (fun k:Nat=>[(0,sv),(1,str x),(6,sv),(7,I64 ss.length),(8,I64 k)]) (fun k h' n'=>h'=h∧n'=n∧k≤ss.length∧∀j,j<k→ss[j]?≠some x) (fun k=>ss.length - k) 0 ⟨rfl,rfl,Nat.zero_le _,fun j hj=>by omega⟩ ?_
 rintro k t h' n' ⟨rfl,rfl,hk,hno⟩
 by_cases hlt:k<ss.length
 · have c1:zD h' (sbk sv) (sof sv+k*1)=some (str ss[k]):=by rw[Nat.mul_one];exact r.at (str_at hlt)
   repeat' first|refine wk ?_|refine cX (fun _=>?_) fun _=>?_|fail
   · rename_i e1;exact⟨by rw[pos_hit (by rw[List.getElem?_eq_getElem hlt,e1]) hno],rfl,rfl⟩
   · rename_i e1
     exact⟨k+1,by dsimp only;omega,⟨rfl,rfl,rfl,rfl,rfl,trivial⟩,rfl,rfl,by omega,fun j hj e2=>by
      rcases Nat.lt_succ_iff_lt_or_eq.1 hj with h9|rfl
      · exact hno j h9 e2
      · rw[List.getElem?_eq_getElem hlt]at e2;exact e1 (Option.some.inj e2).symm⟩
 · obtain rfl:k=ss.length:=by omega
   repeat' first|refine wk ?_|refine cX (fun _=>?_) fun _=>?_|fail
   exact⟨by rw[pos_no hno],rfl,rfl⟩
instance (c:Nat) (h:zB) (n:Nat):PurC P 8 61 [.int .u8 c] h n (.bool (letB c)):=⟨by
 refine ent fun u=>?_;repeat' first|refine wk ?_|refine cX (fun _=>?_) fun _=>?_|fail
 all_goals (first|unfold letB|unfold digB|skip);all_goals (refine finB ?_;first|exact⟨fun _=>by omega,fun _=>rfl⟩|exact⟨fun h=>Bool.noConfusion h,fun h=>by omega⟩|(rw [decide_eq_true_iff];omega))⟩
instance (c:Nat) (h:zB) (n:Nat):PurC P 8 62 [.int .u8 c] h n (.bool (digB c)):=⟨by
 refine ent fun u=>?_;repeat' first|refine wk ?_|refine cX (fun _=>?_) fun _=>?_|fail
 all_goals (first|unfold letB|unfold digB|skip);all_goals (refine finB ?_;first|exact⟨fun _=>by omega,fun _=>rfl⟩|exact⟨fun h=>Bool.noConfusion h,fun h=>by omega⟩|(rw [decide_eq_true_iff];omega))⟩
instance named_c (s:Tx) (h:zB) (n:Nat):PurC P 8 40 [str s] h n (.bool (nameB s)):=⟨by
 refine ent fun u=>?_
 cases s with
 | nil=>
  repeat' first|refine wk ?_|refine cX (fun _=>?_) fun _=>?_|fail
  exact fin rfl
 | cons c r=>
  have c0:(c::r)[0]? = some c:=rfl;have hn:nameB (c::r)=(decide ((c::r).length≤20) && letB c.toNat && tailB (c::r)):=rfl;repeat' first|refine wk ?_|refine cX (fun _=>?_) fun _=>?_|fail
  · rename_i h2;exact fin (by rw[hn,decide_eq_false (by omega)];rfl)
  · rename_i h2;exact fin (by rw[hn,h2];simp)
  · rename_i h2 h3;replace hn:nameB (c::r)=tailB (c::r):=by rw[hn,decide_eq_true (by omega),h3];rfl
    generalize c::r=s at *
    refine lpR (fun k:Nat=>[(0,str s),(18,I64 s.length),(19,I64 k)]) (fun k h' n'=>h'=h∧n'=n∧k≤s.length∧∀j (hj:j<s.length),j<k→letB s[j].toNat=true∨digB s[j].toNat=true) (fun k=>s.length - k) 0 ⟨rfl,rfl,Nat.zero_le _,fun j _ hj=>by omega⟩ ?_
    rintro k t h' n' ⟨rfl,rfl,hk,hno⟩
    by_cases hlt:k<s.length
    · have c1:s[k]? = some s[k]:=List.getElem?_eq_getElem hlt
      have go:letB s[k].toNat=true∨digB s[k].toNat=true→∀j (hj:j<s.length),j<k+1→letB s[j].toNat=true∨digB s[j].toNat=true:=fun hx j hj hlt=>by
       rcases Nat.lt_succ_iff_lt_or_eq.1 hlt with h9|rfl
       · exact hno j hj h9
       · exact hx
      repeat' first|refine wk ?_|refine cX (fun _=>?_) fun _=>?_|fail
      · rename_i h7 h8;refine fin ?_;rw [hn]
        cases h9:tailB s with
        | false=>rfl
        | true=>rcases tail_step hlt h9 with e|e <;> simp_all
      · rename_i h7 h8;exact⟨k+1,by dsimp only;omega,⟨rfl,rfl,rfl,trivial⟩,rfl,rfl,by omega,go (.inr h8)⟩
      · rename_i h7;exact⟨k+1,by dsimp only;omega,⟨rfl,rfl,rfl,trivial⟩,rfl,rfl,by omega,go (.inl h7)⟩
    · obtain rfl:k=s.length:=by omega
      repeat' first|refine wk ?_|refine cX (fun _=>?_) fun _=>?_|fail
      exact fin (by rw[hn,tail_all fun j hj=>hno j hj hj])⟩
theorem contains_pur{lo e n:Nat}{h:zB}{sv:Value}{ss:List Tx}{x:Tx}(r:Row lo h sv e 1 ss.length (ss.map str))(hl:ss.length<4611686018427387904):Pur P 8 79 [sv,str x] h n (.bool (decide (x∈ss))):=by
 refine ent fun u=>?_;repeat' first|refine wk ?_|refine cX (fun _=>?_) fun _=>?_|refine yV (index_pur r hl) ?_|fail
 exact⟨by rw[show decide (0≤pos ss x)=decide (x∈ss) from decide_eq_decide.2 pos_ge],rfl,rfl⟩
instance (c:Nat) (h:zB) (n:Nat):PurC P 8 35 [.int .u8 c] h n (.bool (letB c)):=⟨by
 refine ent fun u=>?_;repeat' first|refine wk ?_|refine cX (fun _=>?_) fun _=>?_|fail
 all_goals (first|unfold letB|unfold digB|skip);all_goals (refine finB ?_;first|exact⟨fun _=>by omega,fun _=>rfl⟩|exact⟨fun h=>Bool.noConfusion h,fun h=>by omega⟩|(rw [decide_eq_true_iff];omega))⟩
instance (c:Nat) (h:zB) (n:Nat):PurC P 8 36 [.int .u8 c] h n (.bool (digB c)):=⟨by
 refine ent fun u=>?_;repeat' first|refine wk ?_|refine cX (fun _=>?_) fun _=>?_|fail
 all_goals (first|unfold letB|unfold digB|skip);all_goals (refine finB ?_;first|exact⟨fun _=>by omega,fun _=>rfl⟩|exact⟨fun h=>Bool.noConfusion h,fun h=>by omega⟩|(rw [decide_eq_true_iff];omega))⟩
instance rname_c (s:Tx) (h:zB) (n:Nat):PurC P 8 13 [str s] h n (.bool (nameB s)):=⟨by
 refine ent fun u=>?_
 cases s with
 | nil=>
  repeat' first|refine wk ?_|refine cX (fun _=>?_) fun _=>?_|fail
  exact fin rfl
 | cons c r=>
  have c0:(c::r)[0]? = some c:=rfl;have hn:nameB (c::r)=(decide ((c::r).length≤20) && letB c.toNat && tailB (c::r)):=rfl;repeat' first|refine wk ?_|refine cX (fun _=>?_) fun _=>?_|fail
  · rename_i h2;exact fin (by rw[hn,decide_eq_false (by omega)];rfl)
  · rename_i h2;replace hn:nameB (c::r)=(letB c.toNat && tailB (c::r)):=by rw[hn,decide_eq_true (by omega)];rfl
    generalize c::r=s at *
    refine lpR (fun k:Nat=>[(0,str s),(3,.bool (letB c.toNat)),(4,I64 k)]) (fun k h' n'=>h'=h∧n'=n∧k≤s.length∧∀j (hj:j<s.length),j<k→letB s[j].toNat=true∨digB s[j].toNat=true) (fun k=>s.length - k) 0 ⟨rfl,rfl,Nat.zero_le _,fun j _ hj=>by omega⟩ ?_
    rintro k t h' n' ⟨rfl,rfl,hk,hno⟩
    by_cases hlt:k<s.length
    · have c1:s[k]? = some s[k]:=List.getElem?_eq_getElem hlt
      have go:letB s[k].toNat=true∨digB s[k].toNat=true→∀j (hj:j<s.length),j<k+1→letB s[j].toNat=true∨digB s[j].toNat=true:=fun hx j hj hlt=>by
       rcases Nat.lt_succ_iff_lt_or_eq.1 hlt with h9|rfl
       · exact hno j hj h9
       · exact hx
      repeat' first|refine wk ?_|refine cX (fun _=>?_) fun _=>?_|fail
      · rename_i h7 h8;refine fin ?_;rw [hn]
        cases h9:tailB s with
        | false=>simp
        | true=>rcases tail_step hlt h9 with e|e <;> simp_all
      · rename_i h7 h8;exact rnd (k+1) ⟨rfl,rfl,by omega,go (.inr h8)⟩
      · rename_i h7;exact rnd (k+1) ⟨rfl,rfl,by omega,go (.inl h7)⟩
    · obtain rfl:k=s.length:=by omega
      repeat' first|refine wk ?_|refine cX (fun _=>?_) fun _=>?_|fail
      exact fin (by rw[hn,tail_all fun j hj=>hno j hj hj];simp)⟩
end Go.Proofs.YtdipdkkpgjdnkaaGreatDoor
namespace Go.Ex
theorem own_head{lo n:Nat}{h:zB}{v:Value}{e sz len:Nat}{vs:List Value}(o:Own lo n h v e sz len vs)(h0:0<len):∃b,v = .slice (some ⟨b,0,none⟩) len inf∧lo≤b∧b<n:=by
 rcases o with⟨_,rfl,_⟩|⟨b,q1,q2,rfl,_⟩
 · omega
 · exact⟨b,rfl,q1,q2⟩
theorem own_put{lo n i b cap:Nat}{h:zB}{v x:Value}{e sz len:Nat}{vs:List Value}(o:Own lo n h v e sz len vs)(hv:v = .slice (some ⟨b,0,none⟩) len cap)(hi:i<vs.length):Own lo n (hst h b i [x]) v e sz len (vs.set i x):=by
 rcases o with⟨rfl,_⟩|⟨b2,q1,q2,rfl,q3,q4,q5,q6⟩
 · cases hv
 injection hv with hv _ _
 injection hv with hv
 injection hv with hv _
 subst hv;refine .inr ⟨b2,q1,q2,rfl,by rw[yL,if_pos rfl,infoOf_stC,List.length_set];exact q3,by rw[List.length_set];exact q4,q5,fun j=>?_⟩;unfold zD;rw [yL,if_pos rfl,cellOf_stC _ _ _ q3 (by simp;omega) (by decide)];by_cases e:i=j
 · subst e;rw [if_pos (by simp),Nat.sub_self,List.getElem?_set_self hi];rfl
 · rw[if_neg (by simp;omega),List.getElem?_set_ne e];exact q6 j
theorem stp_own{lo n i b cap:Nat}{h:zB}{v x:Value}{e sz len:Nat}{vs:List Value}(o:Own lo n h v e sz len vs)(hv:v = .slice (some ⟨b,0,none⟩) len cap)(hi:i<vs.length)(hx:x.oneCell'=true):StP h (ptr b i) [x] (hst h b i [x]):=by
 rcases o with⟨rfl,_⟩|⟨b2,q1,q2,rfl,q3,q4,q5,q6⟩
 · cases hv
 injection hv with hv _ _
 injection hv with hv
 injection hv with hv _
 subst hv;exact⟨b2,i,vs.length,zc e sz,1,rfl,q3,⟨by decide,by decide⟩,by simp;omega,fun y hy=>by simp at hy;subst hy;exact hx,rfl⟩
end Go.Ex
namespace Go.Ex
section
variable {P:Program} {ty:Nat} [s:UnC P ty .string] {t:List UInt8} {h:zB}
theorem txt_cut{i j:Nat}(hi:i≤j)(hj:j≤t.length):yZ P h ty (str t) (some (I64 (i:Nat))) (some (I64 (j:Nat))) none=some (str ((t.drop i).take (j - i))):=by
 unfold yZ;rw [s.ok]
 show(match zX t.length t.length (some (I64 (j:Nat))) with
  | none=>none
  | some h=>match zX 0 h (some (I64 (i:Nat))) with
   | none=>none
   | some l=>some (Value.string ⟨⟨cutS t l (Nat.sub h l)⟩⟩))=_
 rw[show zX t.length t.length (some (I64 (j:Nat)))=some j from by show cond (Nat.ble j t.length) (some j) none=_;rw [wQ hj];rfl];dsimp only;rw [show zX 0 j (some (I64 (i:Nat)))=some i from by show cond (Nat.ble i j) (some i) none=_;rw [wQ hi];rfl];dsimp only;rw [cutS_eq];rfl
theorem txt_from{i:Nat}(hi:i≤t.length):yZ P h ty (str t) (some (I64 (i:Nat))) none none=some (str (t.drop i)):=by
 unfold yZ;rw [s.ok]
 show(match zX 0 t.length (some (I64 (i:Nat))) with
  | none=>none
  | some l=>some (Value.string ⟨⟨cutS t l (Nat.sub t.length l)⟩⟩))=_
 rw[show zX 0 t.length (some (I64 (i:Nat)))=some i from by show cond (Nat.ble i t.length) (some i) none=_;rw [wQ hi];rfl];dsimp only;rw [cutS_eq,List.take_of_length_le (by rw[List.length_drop];exact Nat.le_refl _)]
theorem txt_to{j:Nat}(hj:j≤t.length):yZ P h ty (str t) none (some (I64 (j:Nat))) none=some (str (t.take j)):=by
 unfold yZ;rw [s.ok]
 show(match zX t.length t.length (some (I64 (j:Nat))) with
  | none=>none
  | some h=>some (Value.string ⟨⟨cutS t 0 (Nat.sub h 0)⟩⟩))=_
 rw[show zX t.length t.length (some (I64 (j:Nat)))=some j from by show cond (Nat.ble j t.length) (some j) none=_;rw [wQ hj];rfl];dsimp only;rw [cutS_eq];rfl
end
theorem zQ{P:Program}{l:List (Nat×Value)}{t:Fr}{h:zB}{i ty b k:Nat}{r:List ResultVar}{vs:List Value}[s:ShC P ty (.agg k)]{cs:List Value}(e:lk l t i = .pointer (some ⟨b,0,none⟩))(h0:0<k)(g:Rd h b 0 k cs)(f:Rs P l t h r vs):Rs P l t h (.cell i ty::r) (.agg ⟨cs⟩::vs):=by
 refine⟨_,vs,rfl,?_,f⟩;rw [e];exact load_agg s.ok g.row.1 h0 g.row.2
def NgE(x y:Value):Prop:=aUn .neg x=some y
section
variable {P:Program} {ng:Nat} {cx:Cx} {l:List (Nat×Value)} {t:Fr} {K:W→Value→Prop} {Kp:zJ→W→Prop}
instance {ty:Nat} {x:Operand} {w:W}:Stp (OpB P ng (.unOp .neg ty x) cx (FA l t) w K Kp) (Ob (Ev l t x) fun a=>Ob (NgE a) fun b=>K w b):=
 ⟨fun⟨a,h1,b,h2,h3⟩=>q_of (v:=b) (by show aUn .neg (ev (FA l t) x)=_;rw [yK,show evb l t x=_ from h1];exact h2) h3⟩
theorem neg_of{a b:Int}(h: -9223372036854775808<a∧a<9223372036854775808)(e: -a=b):NgE (I64 a) (I64 b):=by
 subst e;show some (Value.int .i64 (wL .i64 (isub 0 a)))=_;rw [isub_eq,show(0:Int) - a = -a by omega,wrap_in ⟨by omega,by omega⟩]
end
section
variable {P:Program} {ty:Nat} {ox oy:Operand}
theorem bn_mulN{m:Nat}(h:(10*m:Int)≤9223372036854775808):Bn P .mul ty ox oy (I64 10) (I64 (-(m:Int))) (I64 (-((10*m:Nat):Int))):=by
 unfold Bn;rw [binI];show some (Value.int .i64 (wL .i64 (Int.mul 10 (-(m:Int)))))=_;have e:Int.mul 10 (-(m:Int)) = -((10*m:Nat):Int):=by show(10:Int) * -(m:Int)=_;omega
 rw[e,wrap_in ⟨by omega,by omega⟩]
theorem bn_subN{a c b:Int}(h: -9223372036854775808≤b∧b<9223372036854775808)(e:a - c=b):Bn P .sub ty ox oy (I64 a) (I64 c) (I64 b):=by
 subst e;exact bn_sub h
theorem bn_quoN{c:Nat}(hc:c≤9):Bn P .quo ty ox oy (I64 (-9223372036854775808+(c:Nat))) (I64 10) (I64 (-(((9223372036854775808 - c) / 10:Nat):Int))):=by
 unfold Bn;rw [binI];show cond (ieqB 10 0) none (some (Value.int .i64 (wL .i64 (Int.tdiv (-9223372036854775808+(c:Nat)) 10))))=_;rw [xI];show some (Value.int .i64 (wL .i64 (Int.tdiv (-9223372036854775808+(c:Nat)) 10)))=_
 have e:Int.tdiv (-9223372036854775808+(c:Nat)) 10 = -(((9223372036854775808 - c) / 10:Nat):Int):=by
  rw[show(-9223372036854775808+(c:Nat):Int) = -((9223372036854775808 - c:Nat):Int) by omega,Int.neg_tdiv,show(10:Int)=((10:Nat):Int) from rfl,Int.ofNat_tdiv]
 rw[e,wrap_in ⟨by omega,by omega⟩]
end
end Go.Ex
namespace Go.Proofs.YtdipdkkpgjdnkaaGreatDoor
open Go Go.Ex Go.Ex.M
set_option maxRecDepth 100000
set_option maxHeartbeats 8000000
attribute [local simp] yG
theorem uT(c:UInt8):∀(s:Tx),(zO c s).length≤s.length+1∧∀x∈zO c s,x.length≤s.length:=by
 intro s
 induction s with
 | nil=>simp [zO]
 | cons a r ih=>
  unfold zO;split
  · refine⟨by simp;omega,fun x hx=>?_⟩;rcases List.mem_cons.1 hx with rfl|hx
    · simp
    · have:=ih.2 x hx;simp;omega
  · split
    · simp
    · rename_i e;rw [e]at ih;refine⟨by simp at ih ⊢;omega,fun x hx=>?_⟩;rcases List.mem_cons.1 hx with rfl|hx
      · have:=ih.2 _ (List.mem_cons_self ..);simp;omega
      · have:=ih.2 x (List.mem_cons_of_mem _ hx);simp;omega
variable {n br nb:Nat} {h:zB} {F:FunT}
theorem xY{lo:Nat}{v:Value}{e sz len:Nat}{vs:List Value}(r:Own lo n h v e sz len vs):∀x∈(yE v).toList,lo≤x:=fun x hx=>by
 cases hb:yE v with
 | none=>rw [hb]at hx;cases hx
 | some b=>rw [hb]at hx;simp at hx;subst hx;exact(r.blk hb).1
theorem own_dn{lo lo' e sz len:Nat}{v:Value}{vs:List Value}(o:Own lo n h v e sz len vs)(hl:lo'≤lo):Own lo' n h v e sz len vs:=by
 rcases o with o|⟨b,q1,q⟩
 · exact .inl o
 · exact .inr ⟨b,Nat.le_trans hl q1,q⟩
theorem own_off{lo e sz len L:Nat}{v:Value}{vs:List Value}(o:Own lo n h v e sz len vs)(hL:L<lo):∀b,yE v=some b→b∉[L]:=fun b hb hx=>by simp at hx;have:=(o.blk hb).1;omega
theorem vU{lo e sz len L:Nat}{v:Value}{vs:List Value}(o:Own lo n h v e sz len vs)(hL:L<lo):L∉(yE v).toList:=fun hx=>by have:=xY o _ hx;omega
theorem own_of2{lo e sz len L K:Nat}{v:Value}{vs:List Value}(o:Own lo n h v e sz len vs)(hL:L<lo)(hK:K<lo):∀b,yE v=some b→b∉[L,K]:=fun b hb hx=>by simp at hx;have:=(o.blk hb).1;omega
abbrev zR:Nat:=61+1
abbrev tBk:Nat:=42
abbrev tIn:Nat:=41
structure RdZ (z br n:Nat) (h:zB) (F:FunT) (nb:Nat):Prop where
 lt:br<nb
 nn:nb≤n
 ce:Cel h br z 0 [str F.name,F.vv,F.pv,str F.result,F.bv]
 vr:Own (br+1) n h F.vv 9 1 F.vregs.length (F.vregs.map str)
 pr:Own (br+1) n h F.pv 3 1 F.params.length (F.params.map I64)
 bv:Own (br+1) nb h F.bv tBk 1 F.blocks.length (F.blocks.map (·.1))
 old:∀x∈F.blocks.dropLast,Own (br+1) nb h x.1 tIn 9 x.2.length (x.2.flatMap uE)
 las:∀x,F.blocks.getLast? = some x→Own nb n h x.1 tIn 9 x.2.length (x.2.flatMap uE)
 ar:∀x∈F.blocks,∀i∈x.2,Own (br+1) n h i.av 3 1 i.args.length (i.args.map I64)∧i.args.length≤16
 bl:F.blocks.length≤200
 el:∀x∈F.blocks,x.2.length≤400
abbrev RdM:=RdZ zR
theorem xG{lo n n' e sz len S0:Nat}{h h':zB}{v:Value}{vs:List Value}(o:Own lo n h v e sz len vs)(t:Tch [S0] h n h' n')(hS:S0<lo):Own lo n' h' v e sz len vs:=o.tch t (own_off o hS)
theorem RdZ.put{z:Nat}{n':Nat}{h':zB}(R:RdZ z br n h F nb)(t:Tch [br] h n h' n'){nm re:Tx}{vv pv:Value}{vs:List Tx}{ps:List Int}(c:Cel h' br z 0 [str nm,vv,pv,str re,F.bv])(v:Own (br+1) n' h' vv 9 1 vs.length (vs.map str))(p:Own (br+1) n' h' pv 3 1 ps.length (ps.map I64)):RdZ z br n' h' ⟨nm,vv,vs,pv,ps,re,F.bv,F.blocks⟩ nb:=by
 have tb:Tch [br] h nb h' nb:=⟨Nat.le_refl _,fun b hb hx=>t.2 b (Nat.lt_of_lt_of_le hb R.nn) hx⟩;exact⟨R.lt,Nat.le_trans R.nn t.1,c,v,p,xG R.bv tb (by omega),fun x hx=>xG (R.old x hx) tb (by omega),fun x hx=>xG (R.las x hx) t R.lt,fun x hx i hi=>⟨xG (R.ar x hx i hi).1 t (by omega),(R.ar x hx i hi).2⟩,R.bl,R.el⟩
theorem own_ne{lo lo' n n':Nat}{h:zB}{v v':Value}{e sz len e' sz' len':Nat}{vs vs':List Value}(o:Own lo n h v e sz len vs)(o':Own lo' n' h v' e' sz' len' vs')(hne:e≠e'∨sz≠sz'):∀b,yE v=some b→b∉(yE v').toList:=fun b hb hx=>by
 rcases o with⟨rfl,_⟩|⟨b1,_,_,rfl,q3,_⟩
 · cases hb
 rcases o' with⟨rfl,_⟩|⟨b2,_,_,rfl,p3,_⟩
 · cases hx
 injection hb with hb
 have hb:b1=b:=hb;have hx:b∈(some b2).toList:=hx;simp at hx;subst hb hx;rw [q3]at p3;injection p3 with p3
 injection p3 with _ p3
 injection p3 with p3 _
 obtain⟨a,b⟩:=zc_inj p3;omega
def Kr(br:Nat)(h:zB)(n:Nat)(h':zB)(n':Nat):Prop:=n≤n'∧∀b,b<n→b≠br→(∀m z,yF (zF h b)≠some (m,z,1))→zF h' b=zF h b
theorem kr_own{lo e sz len n':Nat}{h':zB}{v:Value}{vs:List Value}(o:Own lo n h v e sz len vs)(t:Tch (br::(yE v).toList) h n h' n'):Kr br h n h' n':=⟨t.1,fun b hb hne hi=>t.2 b hb fun hx=>by
 rcases List.mem_cons.1 hx with hx|hx
 · exact hne hx
 · rcases o with⟨rfl,_⟩|⟨b2,_,_,rfl,q,_⟩
   · cases hx
   · have hx:b∈(some b2).toList:=hx;simp at hx;subst hx;exact hi _ _ q⟩
theorem RdZ.all{z:Nat}(R:RdZ z br n h F nb):∀x∈F.blocks,Own (br+1) n h x.1 tIn 9 x.2.length (x.2.flatMap uE):=by
 intro x hx;have hlt:=R.lt;rcases List.eq_nil_or_concat F.blocks with e|⟨l,y,e⟩
 · rw[e]at hx;cases hx
 · rw[List.concat_eq_append]at e;have hx':=hx;rw [e,List.mem_append,List.mem_singleton]at hx';rcases hx' with hx'|rfl
   · exact(R.old x (by rw[e,List.dropLast_concat];exact hx')).keep R.nn fun _ _=>rfl
   · exact own_dn (R.las x (by rw[e,List.getLast?_concat])) (by omega)
theorem RdZ.tch{z:Nat}{n':Nat}{h':zB}(R:RdZ z br n h F nb)(t:Tch [] h n h' n'):RdZ z br n' h' F nb:=by
 have t1:Tch [br] h n h' n':=⟨t.1,fun b hb _=>t.2 b hb (by simp)⟩;have hlt:=R.lt;have hnn:=R.nn;exact R.put t1 (R.ce.tch t (by omega) (by simp)) (xG R.vr t1 (by omega)) (xG R.pr t1 (by omega))
theorem own_nr{lo e sz len x:Nat}{v:Value}{vs:List Value}(o:Own lo n h v e sz len vs)(c:∀m z,yF (zF h x)≠some (m,z,1)):∀b,yE v=some b→b∉[x]:=fun b hb hx=>by
 rw[List.mem_singleton]at hx;subst hx;rcases o with⟨rfl,_⟩|⟨b2,_,_,rfl,q,_⟩
 · cases hb
 · injection hb with hb
   have hb:b2=b:=hb;subst hb;exact c _ _ q
theorem vH{x z:Nat}{cs:List Value}(c:Cel h x z 0 cs):∀m z,yF (zF h x)≠some (m,z,1):=fun m z' h9=>by rw[c.1]at h9;exact absurd (kd_of h9) (by decide)
theorem RdZ.off{z:Nat}{h':zB}{n' x:Nat}(R:RdZ z br n h F nb)(t:Tch [x] h n h' n')(hx:x≠br)(c:∀m z,yF (zF h x)≠some (m,z,1)):RdZ z br n' h' F nb:=by
 have hlt:=R.lt;have hnn:=R.nn;have tb:Tch [x] h nb h' nb:=⟨Nat.le_refl _,fun b hb hx=>t.2 b (Nat.lt_of_lt_of_le hb hnn) hx⟩;exact⟨R.lt,Nat.le_trans hnn t.1,R.ce.tch t (by omega) (by simp;omega),R.vr.tch t (own_nr R.vr c),R.pr.tch t (own_nr R.pr c),R.bv.tch tb (own_nr R.bv c),fun y hy=>(R.old y hy).tch tb (own_nr (R.old y hy) c),fun y hy=>(R.las y hy).tch t (own_nr (R.las y hy) c),fun y hy i hi=>⟨(R.ar y hy i hi).1.tch t (own_nr (R.ar y hy i hi).1 c),(R.ar y hy i hi).2⟩,R.bl,R.el⟩
theorem RdZ.offs{z:Nat}{S:List Nat}{h':zB}{n':Nat}(R:RdZ z br n h F nb)(t:Tch S h n h' n')(hS:∀x∈S,x≠br∧∀m z,yF (zF h x)≠some (m,z,1)):RdZ z br n' h' F nb:=by
 have hlt:=R.lt;have hnn:=R.nn;have tb:Tch S h nb h' nb:=⟨Nat.le_refl _,fun b hb hx=>t.2 b (Nat.lt_of_lt_of_le hb hnn) hx⟩;have nr:∀{lo n e sz len:Nat} {v:Value} {vs:List Value},Own lo n h v e sz len vs→∀b,yE v=some b→b∉S:=fun o b hb hx=>own_nr o (hS b hx).2 b hb (by simp);exact⟨R.lt,Nat.le_trans hnn t.1,R.ce.tch t (by omega) (fun hx=>(hS _ hx).1 rfl),R.vr.tch t (nr R.vr),R.pr.tch t (nr R.pr),R.bv.tch tb (nr R.bv),fun y hy=>(R.old y hy).tch tb (nr (R.old y hy)),fun y hy=>(R.las y hy).tch t (nr (R.las y hy)),fun y hy i hi=>⟨(R.ar y hy i hi).1.tch t (nr (R.ar y hy i hi).1),(R.ar y hy i hi).2⟩,R.bl,R.el⟩
structure FunQ (lo:Nat) (h:zB) (F:FunT):Prop where
 vr:Row lo h F.vv 9 1 F.vregs.length (F.vregs.map str)
 pr:Row lo h F.pv 3 1 F.params.length (F.params.map I64)
 bv:Row lo h F.bv tBk 1 F.blocks.length (F.blocks.map (·.1))
 el:∀x∈F.blocks,Row lo h x.1 tIn 9 x.2.length (x.2.flatMap uE)
 ar:∀x∈F.blocks,∀i∈x.2,Row lo h i.av 3 1 i.args.length (i.args.map I64)
theorem FunQ.tch{lo n':Nat}{h':zB}(q:FunQ lo h F)(t:Tch [] h n h' n')(hl:lo≤n):FunQ lo h' F:=
 ⟨q.vr.tch t hl (by simp),q.pr.tch t hl (by simp),q.bv.tch t hl (by simp),fun x hx=>(q.el x hx).tch t hl (by simp),fun x hx i hi=>(q.ar x hx i hi).tch t hl (by simp)⟩
theorem RdZ.q{z:Nat}(R:RdZ z br n h F nb):FunQ n h F:=by
 have hn:=R.nn;exact⟨R.vr.row (by decide),R.pr.row (by decide),(R.bv.row (by decide)).up hn,fun x hx=>(R.all x hx).row (by decide),fun x hx i hi=>(R.ar x hx i hi).1.row (by decide)⟩
theorem RdZ.q2{z:Nat}{h':zB}{n' x z2:Nat}{cs:List Value}(R:RdZ z br n h F nb)(t:Tch [x] h n h' n')(hx:x≠br)(c:Cel h x z2 0 cs):FunQ n' h' F:=(R.off t hx (vH c)).q
theorem RdZ.addB{z n3:Nat}{h3:zB}{v:Value}(R:RdZ z br n h F nb)(ho:Own (br+1) n3 h3 v tBk 1 (F.blocks.length+1) (F.blocks.map (·.1)++[.slice none 0 0]))(t:Tch (yE F.bv).toList h n h3 n3)(hl:F.blocks.length<200)(ce:Cel (hst h3 br 4 [v]) br z 0 [str F.name,F.vv,F.pv,str F.result,v]) :
 Kr br h n (hst h3 br 4 [v]) n3∧RdZ z br n3 (hst h3 br 4 [v]) ⟨F.name,F.vv,F.vregs,F.pv,F.params,F.result,v,F.blocks++[(.slice none 0 0,[])]⟩ n3:=by
 have hlt:=R.lt;have hnn:=R.nn;have hn3:=t.le;have ob1':Own (br+1) n h F.bv tBk 1 F.blocks.length (F.blocks.map (·.1)):=R.bv.keep hnn fun _ _=>rfl;have t4:Tch (br::(yE F.bv).toList) h n (hst h3 br 4 [v]) n3:=⟨by omega,fun b hb hx=>by rw[List.mem_cons,not_or]at hx;rw [yL,if_neg fun e=>hx.1 e.symm];exact t.2 b hb hx.2⟩
 have kp:∀{lo e sz len:Nat} {w:Value} {vs:List Value},Own lo n h w e sz len vs→br<lo→(e≠tBk∨sz≠1)→Own lo n3 (hst h3 br 4 [v]) w e sz len vs:=fun o hl hne=>o.tch t4 fun b hb hx=>by
  rcases List.mem_cons.1 hx with hx|hx
  · have:=(o.blk hb).1;omega
  · exact own_ne o ob1' hne b hb hx
 refine⟨kr_own ob1' t4,⟨by omega,Nat.le_refl _,ce,kp R.vr (by omega) (.inl (by decide)),kp R.pr (by omega) (.inl (by decide)),?_,?_,?_,?_,?_,?_⟩⟩
 · rw[List.length_append,List.map_append];exact xG ho (S0:=br) ⟨Nat.le_refl _,fun b hb hx=>by rw[yL,if_neg fun e=>hx (by simp[e])]⟩ (by omega)
 · rw[List.dropLast_concat];exact fun x hx=>kp (R.all x hx) (by omega) (.inr (by decide))
 · intro x hx;rw [List.getLast?_concat]at hx;injection hx with hx
   subst hx;exact Own.nil
 · intro x hx i hi;rcases List.mem_append.1 hx with hx|hx
   · exact⟨kp (R.ar x hx i hi).1 (by omega) (.inl (by decide)),(R.ar x hx i hi).2⟩
   · rw[List.mem_singleton]at hx;subst hx;cases hi
 · rw[List.length_append,List.length_singleton];omega
 · intro x hx;rcases List.mem_append.1 hx with hx|hx
   · exact R.el x hx
   · rw[List.mem_singleton]at hx;subst hx;simp
theorem RdZ.addI{z n4 bb:Nat}{h4:zB}{v lv:Value}{l:List (Value×List InsT)}{il:List InsT}{i:InsT}(R3:RdZ z br n h F nb)(e9:F.blocks=l++[(lv,il)])(hbv:F.bv = .slice (some ⟨bb,0,none⟩) (l.length+1) inf)(ho4:Own nb n4 h4 v tIn 9 (il.length+1) (il.flatMap uE++uE i))(t4:Tch (yE lv).toList h n h4 n4)(hil:il.length<400)(o3:Own (br+1) n h i.av 3 1 i.args.length (i.args.map I64))(l2:i.args.length≤16) :
 Tch (bb::(yE lv).toList) h n (hst h4 bb l.length [v]) n4∧RdZ z br n4 (hst h4 bb l.length [v]) ⟨F.name,F.vv,F.vregs,F.pv,F.params,F.result,F.bv,l++[(v,il++[i])]⟩ nb:=by
 have hlt:=R3.lt;have hnn:=R3.nn;have hlen:F.blocks.length=l.length+1:=by rw[e9];simp
 have hlast:F.blocks.getLast? = some (lv,il):=by rw[e9];simp
 have ol:=R3.las (lv,il) hlast;dsimp only at ol;have obs:=R3.bv;have ecl:(F.blocks.map (·.1)).length=l.length+1:=by rw[List.length_map,hlen]
 rw[hbv,hlen]at obs;have hb2:=(obs.blk (b:=bb) rfl);have hn4:=t4.le;have hbl:=R3.bl;have tb4:Tch [] h nb h4 nb:=⟨Nat.le_refl _,fun b hb _=>t4.2 b (by omega) fun hx=>by have:=xY ol b hx;omega⟩;have ob4:=obs.tch tb4 (by simp);have hp:=own_put ob4 (i:=l.length) (x:=v) rfl (by omega);have t5:Tch (bb::(yE lv).toList) h n (hst h4 bb l.length [v]) n4:=⟨by omega,fun b hb hx=>by rw[List.mem_cons,not_or]at hx;rw [yL,if_neg fun e=>hx.1 e.symm];exact t4.2 b hb hx.2⟩
 have t6:Tch [bb] h nb (hst h4 bb l.length [v]) nb:=⟨Nat.le_refl _,fun b hb hx=>t5.2 b (by omega) fun hm=>by
  rcases List.mem_cons.1 hm with hm|hm
  · exact hx (by simp[hm])
  · have:=xY ol b hm;omega⟩
 have cs:Cel (hst h4 bb l.length [v]) br z 0 [str F.name,F.vv,F.pv,str F.result,F.bv]:=R3.ce.tch t5 (by omega) fun hm=>by
  rcases List.mem_cons.1 hm with hm|hm
  · omega
  · have:=xY ol br hm;omega
 have kp:∀{lo e sz len:Nat} {w:Value} {vs:List Value},Own lo n h w e sz len vs→(e≠tBk∨sz≠1)→(e≠tIn∨sz≠9)→Own lo n4 (hst h4 bb l.length [v]) w e sz len vs:=fun o h1 h2=>o.tch t5 fun b hb hx=>by
  rcases List.mem_cons.1 hx with hx|hx
  · subst hx;exact own_ne o obs h1 b hb (by simp[yE])
  · exact own_ne o ol h2 b hb hx
 refine⟨t5,⟨by omega,by omega,cs,kp R3.vr (.inl (by decide)) (.inl (by decide)),kp R3.pr (.inl (by decide)) (.inl (by decide)),?_,?_,?_,?_,?_,?_⟩⟩
 · have e5:(l++[(v,il++[i])]).length=l.length+1:=by simp
   have e6:(F.blocks.map (·.1)).set l.length v=(l++[(v,il++[i])]).map (·.1):=by rw[e9];simp
   rw[hbv,e5,← e6];exact hp
 · rw[List.dropLast_concat];intro x hx;have ox:=R3.old x (by rw[e9,List.dropLast_concat];exact hx);exact ox.tch t6 fun b hb hm=>by simp at hm;subst hm;exact own_ne ox obs (.inr (by decide)) b hb (by simp[yE])
 · intro x hx;rw [List.getLast?_concat]at hx;injection hx with hx
   subst hx;dsimp only;rw [List.length_append,List.flatMap_append];have:=xG ho4 (h':=hst h4 bb l.length [v]) (n':=n4) (S0:=bb) ⟨Nat.le_refl _,fun b hb hx=>by rw[yL,if_neg fun e=>hx (by simp[e])]⟩ (by omega);simpa using this
 · intro x hx j hj;rcases List.mem_append.1 hx with hx|hx
   · have:=R3.ar x (by rw[e9];exact List.mem_append_left _ hx) j hj;exact⟨kp this.1 (.inl (by decide)) (.inl (by decide)),this.2⟩
   · rw[List.mem_singleton]at hx;subst hx;rcases List.mem_append.1 hj with hj|hj
     · have:=R3.ar (lv,il) (by rw[e9];simp) j hj;exact⟨kp this.1 (.inl (by decide)) (.inl (by decide)),this.2⟩
     · rw[List.mem_singleton]at hj;subst hj;exact⟨kp o3 (.inl (by decide)) (.inl (by decide)),l2⟩
 · show(l++[(v,il++[i])]).length≤200;rw [List.length_append,List.length_singleton];omega
 · intro x hx;rcases List.mem_append.1 hx with hx|hx
   · exact R3.el x (by rw[e9];exact List.mem_append_left _ hx)
   · rw[List.mem_singleton]at hx;subst hx;simp;omega
end Go.Proofs.YtdipdkkpgjdnkaaGreatDoor
