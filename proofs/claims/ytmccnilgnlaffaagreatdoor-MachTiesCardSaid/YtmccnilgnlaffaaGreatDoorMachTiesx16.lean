/- What the law leans on: an executor of the model that is sound, deduction over it, and the walks through the code (part 16 of 18). Conditions: those that each theorem states. -/
import Derived.Test.YtmccnilgnlaffaaGreatDoorMachTiesx15

set_option linter.unusedVariables false
set_option linter.unusedSimpArgs false
namespace Go.Proofs.YtmccnilgnlaffaaGreatDoor
open Go Go.Ex Go.Ex.M
set_option maxRecDepth 100000
set_option maxHeartbeats 8000000
attribute [local simp] xV
abbrev nlS:Value:=.slice none 0 0
section
variable {lo lo' n n':Nat} {h h':zB} {v:Value}
theorem sets_dn{L:List (Value×List Nat)}(o:Sets lo n h v L)(hl:lo'≤lo):Sets lo' n h v L:=⟨o.1.dnl hl,fun x hx=>⟨(o.2 x hx).1,(o.2 x hx).2.dnl hl⟩⟩
theorem ints_dn{L:List (Value×List Int)}(o:Ints lo n h v L)(hl:lo'≤lo):Ints lo' n h v L:=⟨o.1.dnl hl,fun x hx=>Own.dnl (o.2 x hx) hl⟩
theorem mays_dn{L:List (Value×List (Value×List Nat))}(o:Mays lo n h v L)(hl:lo'≤lo):Mays lo' n h v L:=⟨o.1.dnl hl,fun x hx=>sets_dn (o.2 x hx) hl⟩
theorem mays_kx{e:Nat}{L:List (Value×List (Value×List Nat))}(o:Mays lo n h v L)(k:Kx e h n h' n')(h1:eSets≠e)(h2:eSet≠e)(h3:tU≠e):Mays lo n' h' v L:=Lst.kx o k h1 fun _ s=>zY s k h2 h3
theorem mays_cel{bt z:Nat}{cs:List Value}{L:List (Value×List (Value×List Nat))}(o:Mays lo n h v L)(c:Cel h bt z 0 cs)(t:Tch [bt] h n h' n'):Mays lo n' h' v L:=mays_kx (e:=yK) o (kx_cel c t) (by decide) (by decide) (by decide)
theorem cpm_dn{m m':MachT}(k:CpM lo n h m m')(hl:lo'≤lo):CpM lo' n h m m':=⟨k.nm,k.res,k.slots,k.ag,k.sd,k.r1,k.cl,xO k.cr hl,fun i c hc=>by
 obtain⟨c',e1,e2⟩:=k.ce i c hc;exact⟨c',e1,⟨e2.nm,e2.rg,xO e2.row hl⟩⟩,k.ol,xO k.orr hl,fun i o ho=>by
 obtain⟨o',e1,e2⟩:=k.oe i o ho;exact⟨o',e1,⟨e2.nm,e2.d,e2.tie,e2.us,e2.cb,xO e2.ru hl,xO e2.rc hl⟩⟩,xO k.ar hl,xO k.sr hl⟩
end
theorem cpm_gen{lo n:Nat}{h:zB}{m:MachT}{S:List Nat}{n':Nat}{h':zB}{m':MachT}(k:CpM lo n h m m')(t:Tch S h n h' n')(hS:∀{v e sz len vs},OwnE lo n h v e sz len vs→∀b,zO v=some b→b∉S):CpM lo n' h' m m':=⟨k.nm,k.res,k.slots,k.ag,k.sd,k.r1,k.cl,k.cr.tch t (hS k.cr),fun i c hc=>by
 obtain⟨c',e1,e2⟩:=k.ce i c hc;exact⟨c',e1,CpC.tchS e2 t (hS e2.row)⟩,k.ol,k.orr.tch t (hS k.orr),fun i o ho=>by
 obtain⟨o',e1,e2⟩:=k.oe i o ho;exact⟨o',e1,CpO.tchS e2 t (hS e2.ru) (hS e2.rc)⟩,k.ar.tch t (hS k.ar),k.sr.tch t (hS k.sr)⟩
theorem cpm_tch{lo n:Nat}{h:zB}{m:MachT}{n':Nat}{h':zB}{m':MachT}(k:CpM lo n h m m')(t:Tch [] h n h' n'):CpM lo n' h' m m':=cpm_gen k t fun _ _ _=>by simp
theorem cpm_cel{lo n:Nat}{h:zB}{m:MachT}{bt z n':Nat}{h':zB}{m':MachT}{cs:List Value}(k:CpM lo n h m m')(c:Cel h bt z 0 cs)(h0:0<cs.length)(t:Tch [bt] h n h' n'):CpM lo n' h' m m':=cpm_gen k t fun o=>celE c h0 o
def ixs(ns l:List Tx):List Int:=l.map fun r=>((ns.idxOf r:Nat):Int)
theorem ixs_row{lo n:Nat}{h:zB}{v:Value}{e:Nat}{ns l:List Tx}(o:Own lo n h v e 1 l.length (l.map fun x=>I64 (ns.idxOf x:Nat))):Own lo n h v e 1 (ixs ns l).length ((ixs ns l).map I64):=by
 unfold ixs;rw [List.map_map,List.length_map];exact o
structure TabV where
 mc:MachT
 nsv:Value
 psv:Value
 rb:Nat
 cb:Nat
 ob:Nat
 lv:Value
 ofv:Value
 inv:Value
 mv:Value
 cv:Value
 sv:Value
 av:Value
 kv:Value
 L:List (Value×List Nat)
 O:List (Value×List Int)
 I:List (Value×List Nat)
 M:List (Value×List (Value×List Nat))
 C:List (Value×List Int)
 ks:List Nat
abbrev tabC(v:TabV):List Value:=vT v.mc++[v.nsv,v.psv,.map (some v.rb),.map (some v.cb),.map (some v.ob),v.lv,v.ofv,v.inv,v.mv,v.cv,v.sv,v.av,v.kv]
structure TabM (lo n:Nat) (h:zB) (bt:Nat) (m:MachT) (ns:List Tx) (ps:List Pl) (v:TabV):Prop where
 hb:lo≤bt∧bt<n
 hr:v.rb<n∧v.cb<n∧v.ob<n
 cel:Cel h bt zTb 0 (tabC v)
 cp:CpM lo n h m v.mc
 on:Own lo n h v.nsv sK 1 ns.length (ns.map str)
 op:Own lo n h v.psv ePl 3 ps.length (ps.flatMap plC)
 mr:MpS h v.rb (numL ns)
 mc:MpS h v.cb (numL (cNs m))
 mo:MpS h v.ob (numL (oNs m))
 lap:Sets lo n h v.lv v.L
 lapl:v.L.length=ps.length
 lapw:∀(j:Nat) p,v.L[j]? = some p→LapW ps j p.2
 ofs:Ints lo n h v.ofv v.O
 ofl:v.O.length=m.classes.length
 ofe:∀(j:Nat) c,m.classes[j]? = some c→∃x,v.O[j]? = some (x,ixs ns c.regs)
 ins:Sets lo n h v.inv v.I
 inl:v.I.length=m.classes.length
 ine:∀(j:Nat) c,m.classes[j]? = some c→∃p,v.I[j]? = some p∧∀r:Nat,vE p.2 r=c.regs.any fun x=>decide (ns.idxOf x=r)
 may:Mays lo n h v.mv v.M
 mayl:v.M.length=m.ops.length
 clob:Ints lo n h v.cv v.C
 clol:v.C.length=m.ops.length
 ope:∀(j:Nat) o,m.ops[j]? = some o→(∃x,v.C[j]? = some (x,ixs ns o.clob))∧∃sv S,v.M[j]? = some (sv,S)∧S.length=(o.d::o.uses).length∧∀(k:Nat) x p,(o.d::o.uses)[k]? = some x→S[k]? = some p→∀r,vE p.2 r=mayF v.L v.I ns (cNs m) o k x r
 sv:Own lo n h v.sv tN 1 (ixs ns m.saved).length ((ixs ns m.saved).map I64)
 av:Own lo n h v.av tN 1 (ixs ns m.args).length ((ixs ns m.args).map I64)
 ks:SetEl lo n h (v.kv,v.ks)
 ksw:∀k:Nat,vE v.ks k=match ps[k]? with|some p=>surB ps (ixs ns m.saved) p|none=>false
theorem TabM.tch{lo n n' bt:Nat}{h h':zB}{m:MachT}{ns:List Tx}{ps:List Pl}{v:TabV}(k:TabM lo n h bt m ns ps v)(t:Tch [] h n h' n'):TabM lo n' h' bt m ns ps v:=by
 obtain⟨b1,b2⟩:=k.hb;obtain⟨r1,r2,r3⟩:=k.hr;have:=t.le
 exact⟨⟨b1,by omega⟩,⟨by omega,by omega,by omega⟩,k.cel.tch t b2 (by simp),cpm_tch k.cp t,k.on.tch t (by simp),k.op.tch t (by simp),k.mr.tch t r1 (by simp),k.mc.tch t r2 (by simp),k.mo.tch t r3 (by simp),
  zY (e:=yK) k.lap t.kx (by decide) (by decide),k.lapl,k.lapw,wP (e:=eSets) k.ofs t.kx (by decide) (by decide),k.ofl,k.ofe,zY (e:=yK) k.ins t.kx (by decide) (by decide),k.inl,k.ine,mays_kx (e:=yK) k.may t.kx (by decide) (by decide) (by decide),k.mayl,wP (e:=eSets) k.clob t.kx (by decide) (by decide),k.clol,k.ope,k.sv.tch t (by simp),k.av.tch t (by simp),SetEl.kx (e:=yK) k.ks t.kx (by decide),k.ksw⟩
end Go.Proofs.YtmccnilgnlaffaaGreatDoor
namespace Go.Ex.M
def tMax:Nat:=1125899906842624
def TxtR(l:List RegT):Prop:=l.length<tMax∧∀r,(_:r∈l)→r.name.length<tMax∧TxtR r.subs
 termination_by SizeOf.sizeOf l
 decreasing_by
  rename_i hr;have h1:=List.sizeOf_lt_of_mem hr;cases r
  simp only[RegT.subs];simp at h1;omega
def TxtL(l:List Tx):Prop:=l.length<tMax∧∀x∈l,x.length<tMax
structure TxtM (m:MachT):Prop where
 nm:m.name.length<tMax
 rg:TxtR m.regs
 cll:m.classes.length<tMax
 cl:∀c∈m.classes,c.name.length<tMax∧TxtL c.regs
 opl:m.ops.length<tMax
 op:∀o∈m.ops,o.name.length<tMax∧o.d.cls.length<tMax∧o.d.fix.length<tMax∧o.uses.length<tMax∧(∀x∈o.uses,x.cls.length<tMax∧x.fix.length<tMax)∧TxtL o.clob
 ar:TxtL m.args
 re:m.result.length<tMax
 sv:TxtL m.saved
end Go.Ex.M
namespace Go.Ex.M
structure InsT where
 kind:Int
 d:Int
 a:Int
 b:Int
 n:Int
 name:Tx
 av:Value
 args:List Int
 t:Int
 f:Int
abbrev insC(i:InsT):List Value:=[I64 i.kind,I64 i.d,I64 i.a,I64 i.b,I64 i.n,str i.name,i.av,I64 i.t,I64 i.f]
structure InsM (lo:Nat) (h:zB) (i:InsT):Prop where
 ar:RowA lo h i.av 1 i.args.length (i.args.map I64)
 al:i.args.length<tMax
 ag:∀x∈i.args,Go64 x
 g:Go64 i.d∧Go64 i.a∧Go64 i.b
 nl:i.name.length<tMax
structure CodeT where
 name:Tx
 slots:Int
 bv:Value
 blocks:List (Value×List InsT)
abbrev codeC(c:CodeT):List Value:=[str c.name,I64 c.slots,c.bv]
structure CodeM (lo:Nat) (h:zB) (c:CodeT):Prop where
 nl:c.name.length<tMax
 bl:RowI lo h c.bv 1 c.blocks.length (c.blocks.map (·.1))
 bll:c.blocks.length<tMax
 el:∀x∈c.blocks,RowI lo h x.1 9 x.2.length (x.2.flatMap insC)∧x.2.length<tMax
 ins:∀x∈c.blocks,∀i∈x.2,InsM lo h i
theorem InsM.tch{lo n n':Nat}{h h':zB}{i:InsT}(k:InsM lo h i)(t:Tch [] h n h' n')(hl:lo≤n):InsM lo h' i:=⟨k.ar.tch t hl,k.al,k.ag,k.g,k.nl⟩
theorem CodeM.tch{lo n n':Nat}{h h':zB}{c:CodeT}(k:CodeM lo h c)(t:Tch [] h n h' n')(hl:lo≤n):CodeM lo h' c:=⟨k.nl,k.bl.tch t hl,k.bll,fun x hx=>⟨(k.el x hx).1.tch t hl,(k.el x hx).2⟩,fun x hx i hi=>(k.ins x hx i hi).tch t hl⟩
def vH(i:InsT):List Int:=if i.kind=1∨i.kind=11∨i.kind=2∨i.kind=4∨i.kind=3 then [i.d] else []
def vI(i:InsT):List Int:=if i.kind=2∨i.kind=4∨i.kind=7∨i.kind=10 then [i.a] else if i.kind=3 then i.args else if i.kind=5 then [i.a,i.b] else []
def endB(k:Int):Bool:=decide (k=7) || decide (k=8) || decide (k=9)
def inR(k:Int)(n:Nat):Bool:=decide (0≤k) && decide (k<(n:Nat))
def opAt(m:MachT)(x:Tx):Option OpT:=m.ops.find? fun o=>decide (o.name=x)
def mayB(m:MachT)(ns:List Tx)(ps:List Pl)(o:OpT)(k:Nat)(x:OperT)(r:Int):Bool:=decide (r∈mayI m ns x) && (decide (k≠0) || clrN ns ps o r)
def kindB(m:MachT)(i:InsT)(last:Bool):Bool:=decide (1≤i.kind) && decide (i.kind≤11) && (endB i.kind == last) &&
  (if i.kind=3 then match opAt m i.name with|some o=>decide (i.args.length=o.uses.length)|none=>false
   else if i.kind=6 then nameB i.name && decide (0≤i.n) && decide (i.n≤(m.args.length:Nat)) && (decide (i.d = -1) || decide (i.d=0)) else true)
def opsB(m:MachT)(ns:List Tx)(ps:List Pl)(i:InsT)(o:OpT):Bool:=mayB m ns ps o 0 o.d i.d && ((i.args.zip o.uses).all fun p=>mayB m ns ps o 1 p.2 p.1) && (decide (o.tie<0) || (decide (i.args[o.tie.toNat]? = some i.d)))
def widthA(ps:List Pl)(r:Int):Int:=match ps[r.toNat]? with|some p=>p.width|none=>0
def insE(m:MachT)(ns:List Tx)(ps:List Pl)(slots:Int)(nb:Nat)(i:InsT)(last:Bool):Int:=
 if kindB m i last=false then 22
 else if ((vH i++vI i).all fun r=>inR r ns.length)=false then 23
 else if i.kind=2 then(if widthA ps i.d=widthA ps i.a then 0 else 23)
 else if i.kind=3 then(match opAt m i.name with|some o=>if opsB m ns ps i o then 0 else 23|none=>23)
 else if i.kind=10∨i.kind=11 then(if 0≤i.n∧i.n<slots then 0 else 24)
 else if i.kind=7 then(if inR i.t nb && inR i.f nb then 0 else 20)
 else if i.kind=8 then(if inR i.t nb then 0 else 20)
 else 0
def BlkOK(m:MachT)(ns:List Tx)(ps:List Pl)(c:CodeT)(l:List InsT):Prop:=(1≤l.length∧l.length≤25600)∧∀(q:Nat) i,l[q]? = some i→insE m ns ps c.slots c.blocks.length i (decide (q=l.length - 1))=0
def CodeE(m:MachT)(ns:List Tx)(ps:List Pl)(c:CodeT)(b k e:Int):Prop:=
 (200<c.blocks.length∧b=0∧k=0∧e=2)∨(c.blocks.length≤200∧(
 (nameB c.name=false∧b=0∧k=0∧e=5)∨(nameB c.name=true∧(
 (¬(0≤c.slots∧c.slots≤m.slots)∧b=0∧k=0∧e=24)∨((0≤c.slots∧c.slots≤m.slots)∧(
 (c.blocks.length=0∧b=0∧k=0∧e=20)∨(0<c.blocks.length∧(
 ((∀(j:Nat) x,c.blocks[j]? = some x→BlkOK m ns ps c x.2)∧b=0∧k=0∧e=0)∨
 ∃(j:Nat) (x:Value×List InsT),c.blocks[j]? = some x∧(∀(j':Nat) x',j'<j→c.blocks[j']? = some x'→BlkOK m ns ps c x'.2)∧b=(j:Nat)∧
  ((¬(1≤x.2.length∧x.2.length≤25600)∧k=0∧e=20)∨((1≤x.2.length∧x.2.length≤25600)∧∃(q:Nat) (i:InsT),x.2[q]? = some i∧
   (∀(q':Nat) i',q'<q→x.2[q']? = some i'→insE m ns ps c.slots c.blocks.length i' (decide (q'=x.2.length - 1))=0)∧k=(q:Nat)∧e=insE m ns ps c.slots c.blocks.length i (decide (q=x.2.length - 1))∧e≠0))))))))))
theorem codeE_fun{m:MachT}{ns:List Tx}{ps:List Pl}{c:CodeT}{b k e b' k' e':Int}(h:CodeE m ns ps c b k e)(h':CodeE m ns ps c b' k' e'):b=b'∧k=k'∧e=e':=by
 rcases h with⟨h1,rfl,rfl,rfl⟩|⟨h1,h⟩
 · rcases h' with⟨_,rfl,rfl,rfl⟩|⟨h2,_⟩
   · exact⟨rfl,rfl,rfl⟩
   · omega
 rcases h' with⟨h2,_⟩|⟨_,h'⟩
 · omega
 rcases h with⟨h1,rfl,rfl,rfl⟩|⟨h1,h⟩
 · rcases h' with⟨_,rfl,rfl,rfl⟩|⟨h2,_⟩
   · exact⟨rfl,rfl,rfl⟩
   · rw[h1]at h2;cases h2
 rcases h' with⟨h2,_⟩|⟨_,h'⟩
 · rw[h1]at h2;cases h2
 rcases h with⟨h1,rfl,rfl,rfl⟩|⟨h1,h⟩
 · rcases h' with⟨_,rfl,rfl,rfl⟩|⟨h2,_⟩
   · exact⟨rfl,rfl,rfl⟩
   · exact absurd h2 h1
 rcases h' with⟨h2,_⟩|⟨_,h'⟩
 · exact absurd h1 h2
 rcases h with⟨h1,rfl,rfl,rfl⟩|⟨h1,h⟩
 · rcases h' with⟨_,rfl,rfl,rfl⟩|⟨h2,_⟩
   · exact⟨rfl,rfl,rfl⟩
   · omega
 rcases h' with⟨h2,_⟩|⟨_,h'⟩
 · omega
 have bad:∀{x:Value×List InsT} {k e:Int},((¬(1≤x.2.length∧x.2.length≤25600)∧k=0∧e=20)∨((1≤x.2.length∧x.2.length≤25600)∧∃(q:Nat) (i:InsT),x.2[q]? = some i∧(∀(q':Nat) i',q'<q→x.2[q']? = some i'→insE m ns ps c.slots c.blocks.length i' (decide (q'=x.2.length - 1))=0)∧k=(q:Nat)∧e=insE m ns ps c.slots c.blocks.length i (decide (q=x.2.length - 1))∧e≠0))→¬BlkOK m ns ps c x.2:=fun hx hb=>by
  rcases hx with⟨h9,_⟩|⟨_,q,i,h9,_,_,h8,h7⟩
  · exact h9 hb.1
  · exact h7 (by rw[h8];exact hb.2 q i h9)
 rcases h with⟨h1,rfl,rfl,rfl⟩|⟨j,x,h1,h2,rfl,h3⟩
 · rcases h' with⟨_,rfl,rfl,rfl⟩|⟨j,x,h4,_,_,h5⟩
   · exact⟨rfl,rfl,rfl⟩
   · exact absurd (h1 j x h4) (bad h5)
 rcases h' with⟨h4,_⟩|⟨j',x',g1,g2,rfl,g3⟩
 · exact absurd (h4 j x h1) (bad h3)
 rcases Nat.lt_trichotomy j j' with h9|rfl|h9
 · exact absurd (g2 j x h9 h1) (bad h3)
 · rw[h1]at g1;cases g1;refine⟨rfl,?_⟩;rcases h3 with⟨h3,rfl,rfl⟩|⟨h3,q,i,h4,h5,rfl,h6,h7⟩
   · rcases g3 with⟨_,rfl,rfl⟩|⟨g3,_⟩
     · exact⟨rfl,rfl⟩
     · exact absurd g3 h3
   · rcases g3 with⟨g3,_⟩|⟨_,q',i',g4,g5,rfl,g6,g7⟩
     · exact absurd h3 g3
     · rcases Nat.lt_trichotomy q q' with h9|rfl|h9
       · exact absurd (h6.trans (g5 q i h9 h4)) h7
       · rw[h4]at g4;cases g4;exact⟨rfl,h6.trans g6.symm⟩
       · exact absurd (g6.trans (h5 q' i' h9 g4)) g7
 · exact absurd (h2 j' x' h9 g1) (bad g3)
end Go.Ex.M
namespace Go.Proofs.YtmccnilgnlaffaaGreatDoor
open Go Go.Ex Go.Ex.M
set_option maxRecDepth 100000
variable {lo n bt:Nat} {h:zB} {m:MachT} {ns:List Tx} {ps:List Pl} {v:TabV}
theorem cnx'{x:Tx}(hx:x∈cNs m):∃c,m.classes[(cNs m).idxOf x]? = some c∧c.name=x:=by
 have h2:(cNs m)[(cNs m).idxOf x]? = some x:=idx_at hx;generalize (cNs m).idxOf x=i at *
 unfold cNs at h2;rw [List.getElem?_map]at h2
 cases e:m.classes[i]? with
 | none=>rw [e]at h2;cases h2
 | some c=>rw [e]at h2;exact⟨c,rfl,by injection h2⟩
theorem mayI_in(cs:CsOK m ns){x:OperT}(hc:x.cls∈cNs m)(hf:x.fix=[]∨x.fix∈ns):∃c,m.classes[(cNs m).idxOf x.cls]? = some c∧mayI m ns x=if x.fix=[] then c.regs.map (pos ns) else [pos ns x.fix]:=by
 obtain⟨c,h1,h2⟩:=cnx' hc;refine⟨c,h1,?_⟩;have h3:wT m x.cls=some c:=by rw[← h2];exact cls_of cs h1
 unfold mayI;rw [h3];dsimp only;by_cases h4:x.fix=[]
 · rw[if_pos h4,if_pos h4]
 · rw[if_neg h4,if_neg h4,listN_all (fun y hy=>by simp at hy;subst hy;exact hf.resolve_left h4)];rfl
theorem may_eq(k:TabM lo n h bt m ns ps v)(ok:MOK m ns ps){op q:Nat}{o:OpT}{x:OperT}(ho:m.ops[op]? = some o)(hx:(o.d::o.uses)[q]? = some x)(r:Int):(decide (0≤r) && mayF v.L v.I ns (cNs m) o q x r.toNat)=mayB m ns ps o q x r:=by
 have cs:=CsOK.of ok.cls;have od:=MOK.opd ok (List.mem_of_getElem? ho) rfl rfl rfl;obtain⟨hc,hf⟩:=od.cl x (List.mem_of_getElem? hx);obtain⟨c,h1,h2⟩:=mayI_in cs hc hf;have gok:=geo_ok ok.geo;have hpl:ps.length=ns.length:=gok.len;by_cases h0:0≤r
 · obtain⟨a,rfl⟩:=Int.eq_ofNat_of_zero_le h0;rw [decide_eq_true h0,Bool.true_and,Int.toNat_natCast];unfold mayF mayB;congr 1
   · rw[h2];by_cases h4:x.fix=[]
     · rw[if_pos h4,if_pos h4];obtain⟨p,e1,e2⟩:=k.ine _ _ h1;unfold memI;rw [e1];dsimp only;rw [e2];refine Bool.eq_iff_iff.2 ?_;rw [List.any_eq_true,decide_eq_true_iff];constructor
       · rintro ⟨y,hy,e⟩
         exact List.mem_map.2 ⟨y,hy,by rw[pos_in (cs.mem _ _ h1 y hy),of_decide_eq_true e]⟩
       · intro hm;obtain⟨y,hy,e⟩:=List.mem_map.1 hm;rw [pos_in (cs.mem _ _ h1 y hy)]at e;exact⟨y,hy,decide_eq_true (by omega)⟩
     · rw[if_neg h4,if_neg h4,pos_in (hf.resolve_left h4)];refine Bool.eq_iff_iff.2 ?_;rw [decide_eq_true_iff,decide_eq_true_iff];simp only[List.mem_singleton];omega
   · have e1:clrN ns ps o (a:Nat) = !(o.clob.any fun c=>memI v.L (ns.idxOf c) a):=by
      unfold clrN;rw [listN_all od.cb,List.all_map]
      have:∀l:List Tx,(∀r∈l,r∈ns)→(l.all ((fun c=> !lapN ps c (a:Nat)) ∘ pos ns)) = !(l.any fun c=>memI v.L (ns.idxOf c) a):=by
       intro l
       induction l with
       | nil=>intro _;rfl
       | cons y l ih=>
        intro hl;rw [List.all_cons,List.any_cons,ih fun r hr=>hl r (List.mem_cons_of_mem _ hr),Bool.not_or];congr 1
        show(!lapN ps (pos ns y) (a:Nat))=_;have hy:=hl y (List.mem_cons_self ..);have hlt:=List.idxOf_lt_length_iff.2 hy;have hL:=k.lapl;have e3:v.L[ns.idxOf y]? = some v.L[ns.idxOf y]:=List.getElem?_eq_getElem (by omega);have e4:=k.lapw _ _ e3 a;rw [pos_in hy];unfold memI;rw [e3];dsimp only;rw [e4];unfold lapN;rw [decide_eq_true (by omega),decide_eq_true (by omega)];rfl
      exact this _ od.cb
     rw[e1];by_cases hq:q=0
     · rw[decide_eq_true hq,decide_eq_false (fun h9=>h9 hq)];simp
     · rw[decide_eq_false hq,decide_eq_true hq];rfl
 · rw[decide_eq_false h0,Bool.false_and];unfold mayB;rw [decide_eq_false (fun hm=>?_),Bool.false_and];rw [h2]at hm;split at hm
   · obtain⟨y,hy,rfl⟩:=List.mem_map.1 hm;exact h0 (pos_ge.2 (cs.mem _ _ h1 y hy))
   · rename_i h4;rw [List.mem_singleton.1 hm]at h0;exact h0 (pos_ge.2 (hf.resolve_left h4))
end Go.Proofs.YtmccnilgnlaffaaGreatDoor
namespace Go.Proofs.YtmccnilgnlaffaaGreatDoor
open Go Go.Ex Go.Ex.M
set_option maxRecDepth 100000
set_option maxHeartbeats 8000000
theorem ato_op{lo n len:Nat}{h:zB}{sv:Value}{vs:List Value}(r:Row lo h sv 50 6 len vs)(_hlt:len<4611686018427387904)(i:Int):Pur P 8 167 [sv,I64 i] h n (.bool (decide (0≤i) && decide (i<len))):=by
 refine ent fun u=>?_;by_cases h0:0≤i
 · by_cases h1:i<len
   · repeat' first|refine wk ?_|refine cX (fun _=>?_) fun _=>?_|fail
     exact fin (by rw[decide_eq_true h0,decide_eq_true h1];rfl)
   · repeat' first|refine wk ?_|refine cX (fun _=>?_) fun _=>?_|fail
     exact fin (by rw[decide_eq_true h0,decide_eq_false h1];rfl)
 · repeat' first|refine wk ?_|refine cX (fun _=>?_) fun _=>?_|fail
   exact fin (by rw[decide_eq_false h0];rfl)
theorem ato_op_in{lo n len:Nat}{h:zB}{sv:Value}{vs:List Value}(r:Row lo h sv 50 6 len vs)(hlt:len<4611686018427387904){i:Nat}(hi:i<len):Pur P 8 167 [sv,I64 (i:Nat)] h n (.bool true):=by
 have:=ato_op (n:=n) r hlt ((i:Nat):Int)
 rwa [decide_eq_true (by omega:(0:Int)≤(i:Nat)),decide_eq_true (by omega:((i:Nat):Int)<(len:Nat))]at this
theorem ato_set{lo n len:Nat}{h:zB}{sv:Value}{vs:List Value}(r:Row lo h sv 92 1 len vs)(_hlt:len<4611686018427387904)(i:Int):Pur P 8 170 [sv,I64 i] h n (.bool (decide (0≤i) && decide (i<len))):=by
 refine ent fun u=>?_;by_cases h0:0≤i
 · by_cases h1:i<len
   · repeat' first|refine wk ?_|refine cX (fun _=>?_) fun _=>?_|fail
     exact fin (by rw[decide_eq_true h0,decide_eq_true h1];rfl)
   · repeat' first|refine wk ?_|refine cX (fun _=>?_) fun _=>?_|fail
     exact fin (by rw[decide_eq_true h0,decide_eq_false h1];rfl)
 · repeat' first|refine wk ?_|refine cX (fun _=>?_) fun _=>?_|fail
   exact fin (by rw[decide_eq_false h0];rfl)
theorem ato_set_in{lo n len:Nat}{h:zB}{sv:Value}{vs:List Value}(r:Row lo h sv 92 1 len vs)(hlt:len<4611686018427387904){i:Nat}(hi:i<len):Pur P 8 170 [sv,I64 (i:Nat)] h n (.bool true):=by
 have:=ato_set (n:=n) r hlt ((i:Nat):Int)
 rwa [decide_eq_true (by omega:(0:Int)≤(i:Nat)),decide_eq_true (by omega:((i:Nat):Int)<(len:Nat))]at this
theorem ato_sets{lo n len:Nat}{h:zB}{sv:Value}{vs:List Value}(r:Row lo h sv 88 1 len vs)(_hlt:len<4611686018427387904)(i:Int):Pur P 8 169 [sv,I64 i] h n (.bool (decide (0≤i) && decide (i<len))):=by
 refine ent fun u=>?_;by_cases h0:0≤i
 · by_cases h1:i<len
   · repeat' first|refine wk ?_|refine cX (fun _=>?_) fun _=>?_|fail
     exact fin (by rw[decide_eq_true h0,decide_eq_true h1];rfl)
   · repeat' first|refine wk ?_|refine cX (fun _=>?_) fun _=>?_|fail
     exact fin (by rw[decide_eq_true h0,decide_eq_false h1];rfl)
 · repeat' first|refine wk ?_|refine cX (fun _=>?_) fun _=>?_|fail
   exact fin (by rw[decide_eq_false h0];rfl)
theorem ato_sets_in{lo n len:Nat}{h:zB}{sv:Value}{vs:List Value}(r:Row lo h sv 88 1 len vs)(hlt:len<4611686018427387904){i:Nat}(hi:i<len):Pur P 8 169 [sv,I64 (i:Nat)] h n (.bool true):=by
 have:=ato_sets (n:=n) r hlt ((i:Nat):Int)
 rwa [decide_eq_true (by omega:(0:Int)≤(i:Nat)),decide_eq_true (by omega:((i:Nat):Int)<(len:Nat))]at this
theorem ato_pl{lo n len:Nat}{h:zB}{sv:Value}{vs:List Value}(r:Row lo h sv 135 3 len vs)(_hlt:len<4611686018427387904)(i:Int):Pur P 8 121 [sv,I64 i] h n (.bool (decide (0≤i) && decide (i<len))):=by
 refine ent fun u=>?_;by_cases h0:0≤i
 · by_cases h1:i<len
   · repeat' first|refine wk ?_|refine cX (fun _=>?_) fun _=>?_|fail
     exact fin (by rw[decide_eq_true h0,decide_eq_true h1];rfl)
   · repeat' first|refine wk ?_|refine cX (fun _=>?_) fun _=>?_|fail
     exact fin (by rw[decide_eq_true h0,decide_eq_false h1];rfl)
 · repeat' first|refine wk ?_|refine cX (fun _=>?_) fun _=>?_|fail
   exact fin (by rw[decide_eq_false h0];rfl)
theorem ato_pl_in{lo n len:Nat}{h:zB}{sv:Value}{vs:List Value}(r:Row lo h sv 135 3 len vs)(hlt:len<4611686018427387904){i:Nat}(hi:i<len):Pur P 8 121 [sv,I64 (i:Nat)] h n (.bool true):=by
 have:=ato_pl (n:=n) r hlt ((i:Nat):Int)
 rwa [decide_eq_true (by omega:(0:Int)≤(i:Nat)),decide_eq_true (by omega:((i:Nat):Int)<(len:Nat))]at this
variable {lo n bt:Nat} {h:zB} {m:MachT} {ns:List Tx} {ps:List Pl} {v:TabV}
theorem onx{x:Tx}(hx:x∈oNs m):∃o,m.ops[(oNs m).idxOf x]? = some o∧o.name=x:=by
 have h2:(oNs m)[(oNs m).idxOf x]? = some x:=idx_at hx;generalize (oNs m).idxOf x=i at *
 unfold oNs at h2;rw [List.getElem?_map]at h2
 cases e:m.ops[i]? with
 | none=>rw [e]at h2;cases h2
 | some c=>rw [e]at h2;exact⟨c,rfl,by injection h2⟩
theorem top_in(k:TabM lo n h bt m ns ps v)(hon:(oNs m).Nodup){x:Tx}(hx:x∈oNs m):Pur P 8 117 [ptr bt 0,str x] h n (.tuple ⟨[I64 ((oNs m).idxOf x:Nat),.bool true]⟩):=by
 have hcel:=k.cel;have mo:=k.mo;obtain⟨A,B,e1,e2⟩:=sJ (idx_at hx) hon;rw [e1]at mo;have lk:yQ P h 87 (.map (some v.ob)) (str x) true=some (.tuple ⟨[I64 ((oNs m).idxOf x:Nat),.bool true]⟩):=lku_at (P:=P) (ty:=87) (ok:=true) mo e2;refine ent fun u=>?_;repeat' first|refine wk ?_|refine cX (fun _=>?_) fun _=>?_|fail
 exact fin rfl
theorem top_no(k:TabM lo n h bt m ns ps v){x:Tx}(hx:x∉oNs m):Pur P 8 117 [ptr bt 0,str x] h n (.tuple ⟨[I64 0,.bool false]⟩):=by
 have hcel:=k.cel;have mo:=k.mo
 have lk:yQ P h 87 (.map (some v.ob)) (str x) true=some (.tuple ⟨[I64 0,.bool false]⟩):=lku_no (P:=P) (ty:=87) mo fun p hp e=>hx (by
  have:=numL_key hp
  rwa [e]at this)
 refine ent fun u=>?_;repeat' first|refine wk ?_|refine cX (fun _=>?_) fun _=>?_|fail
 exact fin rfl
theorem tuses_pur(k:TabM lo n h bt m ns ps v)(hol:m.ops.length≤64){j:Nat}{o:OpT}(hj:m.ops[j]? = some o):Pur P 8 118 [ptr bt 0,I64 (j:Nat)] h n (I64 (o.uses.length:Nat)):=by
 have hcel:=k.cel;have r0:=k.cp.orr.row (by decide);obtain⟨o',e1,e2⟩:=k.cp.oe j o hj;have hlt:=(List.getElem?_eq_some_iff.1 hj).1;have c3:=rd_at (yE r0 e1) (j:=3) rfl;have ru:=e2.ru.row (by decide);have low:=r0.low (by omega);refine ent fun u=>?_;repeat' first|refine wk ?_|refine cX (fun _=>?_) fun _=>?_|refine wM (ato_op_in r0 (by omega) (by omega)) ?_|fail
 exact fin rfl
theorem ttie_pur(k:TabM lo n h bt m ns ps v)(hol:m.ops.length≤64){j:Nat}{o:OpT}(hj:m.ops[j]? = some o):Pur P 8 123 [ptr bt 0,I64 (j:Nat)] h n (I64 o.tie):=by
 have hcel:=k.cel;have r0:=k.cp.orr.row (by decide);obtain⟨o',e1,e2⟩:=k.cp.oe j o hj;have hlt:=(List.getElem?_eq_some_iff.1 hj).1;have c3:=rd_at (yE r0 e1) (j:=4) rfl;have ru:=e2.ru.row (by decide);have low:=r0.low (by omega);refine ent fun u=>?_;repeat' first|refine wk ?_|refine cX (fun _=>?_) fun _=>?_|refine wM (ato_op_in r0 (by omega) (by omega)) ?_|fail
 exact fin (by rw[e2.tie])
theorem tregs_pur(k:TabM lo n h bt m ns ps v):Pur P 8 61 [ptr bt 0] h n (I64 (ns.length:Nat)):=by
 have hcel:=k.cel;have r0:=k.on.row (by decide);refine ent fun u=>?_;repeat' first|refine wk ?_|refine cX (fun _=>?_) fun _=>?_|fail
 exact fin rfl
theorem tslots_pur(k:TabM lo n h bt m ns ps v):Pur P 8 23 [ptr bt 0] h n (I64 m.slots):=by
 have hcel:=k.cel;have e:=k.cp.slots;refine ent fun u=>?_;repeat' first|refine wk ?_|refine cX (fun _=>?_) fun _=>?_|fail
 exact fin (by rw[e])
theorem targs_ret(k:TabM lo n h bt m ns ps v)(hal:m.args.length≤200):Ret P 8 119 [ptr bt 0] h n fun w h' n'=>OwnE n n' h' w tN 1 m.args.length ((ixs ns m.args).map I64)∧Tch [] h n h' n':=by
 have hcel:=k.cel;have al:(ixs ns m.args).length=m.args.length:=by unfold ixs;rw [List.length_map]
 refine ent fun u=>?_;repeat' first|refine wk ?_|refine cX (fun _=>?_) fun _=>?_|fail
 refine uB (clone_int (lo:=n) (Own.row k.av (by decide)) (Nat.le_refl _) (fun y hy=>by obtain⟨z,_,rfl⟩:=List.mem_map.1 hy;rfl) (by omega)) ?_
 rintro w h2 n2 ⟨ho,ht⟩
 have o2:=yT ho;rw [al]at ho;repeat' first|refine wk ?_|refine cX (fun _=>?_) fun _=>?_|fail
 exact⟨_,rfl,ho,ht⟩
theorem rs_cellN{P:Program}{l:List (Nat×Value)}{t:Fr}{h:zB}{i ty sz:Nat}[s:ShC P ty (.agg sz)]{r:List ResultVar}{p:Value}{vs ws:List Value}(e:lk l t i=p)(g:LdN h p sz ws)(f:Rs P l t h r vs):Rs P l t h (.cell i ty::r) (.agg ⟨ws⟩::vs):=by
 obtain⟨b,o,rfl,h0,g⟩:=g;exact⟨_,vs,rfl,by rw[e];exact load_agg s.ok g.row.1 h0 g.row.2,f⟩
abbrev zPl:Nat:=135+1
theorem tplace_ret(k:TabM lo n h bt m ns ps v)(hpl:ps.length≤200){j:Nat}{p:Pl}(hj:ps[j]? = some p):Ret P 8 63 [ptr bt 0,I64 (j:Nat)] h n fun w h' n'=>w=plV p∧Tch [] h n h' n':=by
 have hcel:=k.cel;obtain⟨_,hbn⟩:=k.hb;have r0:=k.op.row (by decide);have hlt:=(List.getElem?_eq_some_iff.1 hj).1;have c3:=yE r0 hj;have low:=r0.low (by omega);refine ent fun u=>?_;repeat' first|refine wk ?_|refine cX (fun _=>?_) fun _=>?_|refine wM (ato_pl_in (Own.row (k.tch zA).op (by decide)) (by omega) (by omega)) ?_|fail
 have t1:Tch [] h n (hal h n (mkC [I64 0,I64 0,I64 0] zPl 0)) (n+1):=zA;refine ob (a:=plC p) ?_ (ldN_of (by decide) (yE (Own.row (k.tch t1).op (by decide)) hj));repeat' first|refine wk ?_|refine cX (fun _=>?_) fun _=>?_|fail
 refine ob (a:=[plV p]) ?_ (rs_cellN (ws:=plC p) (by apply lk_box;((conv=>lhs;whnf) <;> exact rfl)) (ldN_of (by decide) (vS zJ (vS zJ (vS zJ rd_nil)))) rs_nil);repeat' first|refine wk ?_|refine cX (fun _=>?_) fun _=>?_|fail
 exact⟨_,rfl,rfl,zA⟩
theorem tmay_pur(k:TabM lo n h bt m ns ps v)(ok:MOK m ns ps)(hol:m.ops.length≤64){op q:Nat}{o:OpT}{x:OperT}(ho:m.ops[op]? = some o)(hx:(o.d::o.uses)[q]? = some x)(r:Int)(hr:r<9223372036854775808):Pur P 8 122 [ptr bt 0,I64 (op:Nat),I64 (q:Nat),I64 r] h n (.bool (mayB m ns ps o q x r)):=by
 have hcel:=k.cel;have hml:=k.mayl;obtain⟨_,sv,S,e1,e2,e3⟩:=k.ope op o ho;have hlt:=(List.getElem?_eq_some_iff.1 ho).1;have hqlt:=(List.getElem?_eq_some_iff.1 hx).1;have hul:o.uses.length≤2:=(MOK.sml ok).opu o (List.mem_of_getElem? ho);have r0:=k.may.1.row (by decide);have hS:=k.may.2 _ (List.mem_of_getElem? e1);have r1:=hS.1.row (by decide);dsimp only at r1;have e4:S[q]? = some S[q]:=List.getElem?_eq_getElem (by omega);have hel:=hS.2 _ (List.getElem_mem (by omega:q<S.length));have e5:=e3 q x _ hx e4;generalize S[q]=p at e4 hel e5
 have y0:zC h (sbk v.mv) (sof v.mv+op*1)=some sv:=by rw[Nat.mul_one];exact r0.at (by rw[List.getElem?_map,e1];rfl)
 have y1:zC h (sbk sv) (sof sv+q*1)=some p.1:=by rw[Nat.mul_one];exact r1.at (by rw[List.getElem?_map,e4];rfl)
 have low0:=r0.low (by omega);have low1:=r1.low (by omega);have o1:=hel.2.one;have e6:(decide (0≤r) && vE p.2 r.toNat)=mayB m ns ps o q x r:=by rw[e5,may_eq k ok ho hx r]
 have hsl:(o.d::o.uses).length≤3:=by simp;omega
 refine Com.pure (ent fun u=>?_) (.inl rfl);repeat' first|refine wk ?_|refine cX (fun _=>?_) fun _=>?_|refine wM (ato_sets_in r0 (by omega) (by omega)) ?_|refine wM (ato_set_in r1 (by omega) (by omega)) ?_|refine wM (has_pur (hel.2.row (by decide)) (Nat.le_refl _) hel.1 _ hr) ?_|fail
 exact finT (by rw[e6]) zA
end Go.Proofs.YtmccnilgnlaffaaGreatDoor
namespace Go.Proofs.YtmccnilgnlaffaaGreatDoor
open Go Go.Ex Go.Ex.M
set_option maxRecDepth 100000
set_option maxHeartbeats 8000000
abbrev wrC(b k e:Int):zH:=[⟨.iface 70 (.agg ⟨[I64 b,I64 k,I64 e]⟩),false,false⟩]
abbrev zMk:Nat:=74+1
abbrev mkC3(bt:Nat)(c:CodeT)(b k:Int):List Value:=ptr bt 0::(codeC c++[I64 b,I64 k])
variable {n bc:Nat} {h:zB} {bt:Nat} {c:CodeT} {b k:Int}
theorem mneed_com(hc:Cel h bc zMk 0 (mkC3 bt c b k))(hb:bc<n)(z:Bool)(e:Int):Com P 8 21 [ptr bc 0,.bool z,I64 e] h n fun o h' n'=>o=(if z then .ret (.tuple #[]) else .panic (wrC b k e))∧h'=h∧n'=n:=by
 refine ent fun u=>?_
 cases z with
 | true=>
  repeat' first|refine wk ?_|refine cX (fun _=>?_) fun _=>?_|fail
  exact⟨rfl,rfl,rfl⟩
 | false=>
  repeat' first|refine wk ?_|refine cX (fun _=>?_) fun _=>?_|fail
  exact⟨rfl,rfl,rfl⟩
instance ends_c (x:Int) (h:zB) (n:Nat):PurC P 8 116 [I64 x] h n (.bool (endB x)):=⟨by
 refine ent fun u=>?_;by_cases h7:x=7
 · repeat' first|refine wk ?_|refine cX (fun _=>?_) fun _=>?_|fail
   exact fin (by unfold endB;rw [decide_eq_true h7];rfl)
 · by_cases h8:x=8
   · repeat' first|refine wk ?_|refine cX (fun _=>?_) fun _=>?_|fail
     exact fin (by unfold endB;rw [decide_eq_false h7,decide_eq_true h8];rfl)
   · repeat' first|refine wk ?_|refine cX (fun _=>?_) fun _=>?_|fail
     exact fin (by unfold endB;rw [decide_eq_false h7,decide_eq_false h8];simp)⟩
theorem ins1_pur{p:Nat}{lo:Nat}(hc:Cel h bc zMk 0 (mkC3 bt c b k))(hb:bc<n)(hp:zC h p 0=some (ptr bc 0))(hpn:p<n)(cm:CodeM lo h c)(x:Int):Pur P 8 62 [I64 x,ptr p 0] h n (.bool (inR x c.blocks.length)):=by
 have rb:=cm.bl 0;refine ent fun u=>?_;by_cases h0:0≤x
 · repeat' first|refine wk ?_|refine cX (fun _=>?_) fun _=>?_|fail
   exact fin (by unfold inR;rw [decide_eq_true h0];rfl)
 · repeat' first|refine wk ?_|refine cX (fun _=>?_) fun _=>?_|fail
   exact fin (by unfold inR;rw [decide_eq_false h0];rfl)
theorem regsW_len(i:InsT):(vH i).length≤1:=by unfold vH;split <;> simp
theorem mregs_ret{lo:Nat}{i:InsT}(hi:InsM lo h i)(hlo:lo≤n):Ret P 8 59 [.agg ⟨insC i⟩] h n fun v h' n'=>∃wv rv,v = .tuple ⟨[wv,rv]⟩∧Row n' h' wv tN 1 (vH i).length ((vH i).map I64)∧Row n' h' rv tN 1 (vI i).length ((vI i).map I64)∧Tch [] h n h' n':=by
 have o1:=(hi.ar 0).one;have ra:=hi.ar tN;refine ent fun u=>?_;repeat' first|refine wk ?_|refine cX (fun _=>?_) fun _=>?_|fail
 all_goals (refine⟨_,rfl,_,_,rfl,?_,?_,zA⟩)
 · rw[show vH i=[i.d] by unfold vH;simp [*]];exact zR (e:=tN) rfl (by decide)
 · rw[show vI i=[] by unfold vI;simp [*]];exact .inl ⟨rfl,rfl,rfl⟩
 · rw[show vH i=[i.d] by unfold vH;simp [*]];exact zR (e:=tN) rfl (by decide)
 · rw[show vI i=[] by unfold vI;simp [*]];exact .inl ⟨rfl,rfl,rfl⟩
 · rw[show vH i=[i.d] by unfold vH;simp [*]];exact Row.up (Row.tch (h:=hal (hal h n (mkC (insC i) (57+1) 0)) (n+1) (mkC [I64 i.d] 0 0)) (zR (e:=tN) rfl (by decide)) (show Tch [] _ (n+1+1) _ (n+1+1+1) from zA) (Nat.le_refl _) fun _ _ hx=>by cases hx) (by omega)
 · rw[show vI i=[i.a] by unfold vI;simp [*]];exact zR (e:=tN) rfl (by decide)
 · rw[show vH i=[i.d] by unfold vH;simp [*]];exact Row.up (Row.tch (h:=hal (hal h n (mkC (insC i) (57+1) 0)) (n+1) (mkC [I64 i.d] 0 0)) (zR (e:=tN) rfl (by decide)) (show Tch [] _ (n+1+1) _ (n+1+1+1) from zA) (Nat.le_refl _) fun _ _ hx=>by cases hx) (by omega)
 · rw[show vI i=[i.a] by unfold vI;simp [*]];exact zR (e:=tN) rfl (by decide)
 · rw[show vH i=[i.d] by unfold vH;simp [*]];exact zR (e:=tN) rfl (by decide)
 · rw[show vI i=i.args by unfold vI;simp [*]];exact Row.up (Row.tch ra (show Tch [] h n _ (n+1+1) from zA) hlo fun _ _ hx=>by cases hx) (by omega)
 · rw[show vH i=[] by unfold vH;simp [*]];exact .inl ⟨rfl,rfl,rfl⟩
 · rw[show vI i=[i.a,i.b] by unfold vI;simp [*]];exact zR (e:=tN) rfl (by decide)
 · rw[show vH i=[] by unfold vH;simp [*]];exact .inl ⟨rfl,rfl,rfl⟩
 · rw[show vI i=[i.a] by unfold vI;simp [*]];exact zR (e:=tN) rfl (by decide)
 · rw[show vH i=[] by unfold vH;simp [*]];exact .inl ⟨rfl,rfl,rfl⟩
 · rw[show vI i=[i.a] by unfold vI;simp [*]];exact zR (e:=tN) rfl (by decide)
 · rw[show vH i=[] by unfold vH;simp [*]];exact .inl ⟨rfl,rfl,rfl⟩
 · rw[show vI i=[] by unfold vI;simp [*]];exact .inl ⟨rfl,rfl,rfl⟩
end Go.Proofs.YtmccnilgnlaffaaGreatDoor
namespace Go.Proofs.YtmccnilgnlaffaaGreatDoor
open Go Go.Ex Go.Ex.M
set_option maxRecDepth 100000
set_option maxHeartbeats 8000000
variable {n:Nat} {h:zB}
theorem grow_ret(k:Nat)(hk:k<100000):Ret P 8 120 [.slice none 0 0,I64 (k:Nat)] h n fun v h' n'=>Tch [] h n h' n'∧((k=0∧v = .slice none 0 0)∨(0<k∧WayR n n' h' v tN 1 0 []∧∀b c,v = .slice b 0 c→c=inf)):=by
 refine ent fun u=>?_;by_cases h0:0<k
 · repeat' first|refine wk ?_|refine cX (fun _=>?_) fun _=>?_|refine ob (a:=some (I64 0)) ?_ cap_nil|refine ob (a:=.slice none 0 0) ?_ slice_nil0|fail
   rw[show((k:Nat):Int) - (0 - ((0:Nat):Int))=(k:Nat) by omega];refine appZ (e:=tN) (by kernel_rfl) h0 hk ?_;have w0:WayR n (n+1) (hal h n (mkC (rep [I64 0] k) (zc tN 1) 1)) (.slice (some ⟨n,0,none⟩) k inf) tN 1 k (rep [I64 0] k):=wayZ (Nat.le_refl _);obtain⟨v',e1,w,bl⟩:=way_cut (P:=P) (ty:=55) (k:=0) w0 (Nat.zero_le _) (Nat.le_refl _)
   have hinf:∀b c,v' = .slice b 0 c→c=inf:=fun b c e=>by
    subst e;obtain⟨b',m,z,kd,cap,q1,q2,q3,q4,q5,q6,q7,q8⟩:=w;injection q3 with q3 _ q9
    subst q3 q9;have bl:some b'=some n:=bl;injection bl with bl
    subst bl;rw [zM,if_pos rfl]at q4;have q4:=(uJ _ _ _).symm.trans q4;rcases q8 with⟨rfl,_⟩|⟨_,q8,_⟩
    · exact absurd (kd_of q4) (by decide)
    · exact q8
   have o1:v'.oneCell'=true:=by
    obtain⟨b',m,z,kd,cap,q1,q2,rfl,_⟩:=w;rfl
   repeat' first|refine wk ?_|refine cX (fun _=>?_) fun _=>?_|refine ob (a:=v') ?_ e1|fail
   exact⟨_,rfl,zA,.inr ⟨h0,by simpa using w,hinf⟩⟩
 · obtain rfl:k=0:=by omega
   repeat' first|refine wk ?_|refine cX (fun _=>?_) fun _=>?_|refine ob (a:=some (I64 0)) ?_ cap_nil|fail
   exact⟨_,rfl,zA,.inl ⟨rfl,rfl⟩⟩
end Go.Proofs.YtmccnilgnlaffaaGreatDoor
namespace Go.Proofs.YtmccnilgnlaffaaGreatDoor
open Go Go.Ex Go.Ex.M
set_option maxRecDepth 100000
set_option maxHeartbeats 8000000
variable {n:Nat} {h:zB}
def sI(a b:Int):Nat→Int|0=>0|1=>0+a|_=>0+a+b
def tkI(A B:List Int):Nat→List Int|0=>[]|1=>A|_=>A++B
def AccC(n0 n:Nat)(h:zB)(k:Nat)(acc:Value)(L:List Int):Prop:=(k=0∧acc = .slice none 0 0)∨(0<k∧WayR n0 n h acc tN 1 L.length (L.map I64)∧(L.length=0→∀b c,acc = .slice b 0 c→c=inf))
theorem AccC.row{n0 n:Nat}{h:zB}{k:Nat}{acc:Value}{L:List Int}(a:AccC n0 n h k acc L)(hk:L.length≤k):Row n h acc tN 1 L.length (L.map I64):=by
 rcases a with⟨rfl,rfl⟩|⟨_,w,_⟩
 · obtain rfl:L=[]:=List.length_eq_zero_iff.1 (by omega);exact .inl ⟨rfl,rfl,rfl⟩
 · exact w.row (by decide)
theorem acc_app{n0 n:Nat}{h:zB}{k:Nat}{acc x:Value}{L M:List Int}{cx:Cx}{d:List Deferred}{u:Option zH}{K:W→Value→Prop}(a:AccC n0 n h k acc L)(hn:n0≤n)(hr:Row n h x tN 1 M.length (M.map I64))(hL:(L++M).length≤k)(hk:k<100000)
(q:∀v' h' n',AccC n0 n' h' k v' (L++M)→(∀b,b<n0→zF h' b=zF h b)→n≤n'→K ⟨d,u,h',n'⟩ v'):BuB P cx .append [55,55] [acc,x] d u h n K:=by
 rcases a with⟨rfl,rfl⟩|⟨h0,w,hc⟩
 · have e:L++M=[]:=List.length_eq_zero_iff.1 (by omega);obtain⟨rfl,rfl⟩:=List.append_eq_nil_iff.1 e;exact app_nil0 hr (q _ _ _ (.inl ⟨rfl,rfl⟩) (fun _ _=>rfl) (Nat.le_refl _))
 · by_cases hm:M=[]
   · subst hm;refine way_app0 w hr (by rw[List.length_append]at hL;omega) hc (q _ _ _ (.inr ⟨h0,?_,?_⟩) (fun _ _=>rfl) (Nat.le_refl _))
     · rw[List.append_nil];exact w
     · rw[List.append_nil];exact hc
   · have hm0:0<M.length:=List.length_pos_iff.2 hm;rw [List.length_append]at hL;refine way_app w (fun y hy=>by obtain⟨z,_,rfl⟩:=List.mem_map.1 hy;rfl) hn hr hm0 (fun y hy=>by obtain⟨z,_,rfl⟩:=List.mem_map.1 hy;rfl) (by omega) ?_;intro v' h' n' w' _ t;refine q _ _ _ (.inr ⟨h0,?_,fun e=>?_⟩) (fun b hb=>?_) t.le
     · rw[List.length_append,List.map_append];exact w'
     · rw[List.length_append]at e;omega
     · refine t.2 b (by omega) fun hb'=>?_;rw [Option.mem_toList]at hb';have:=(w.blk hb').1;omega
theorem concat2_ret{lo:Nat}{sv wv rv:Value}{A B:List Int}(hlo:lo≤n)(rs:Row lo h sv yK 1 2 [wv,rv])(ra:Row lo h wv tN 1 A.length (A.map I64))(rb:Row lo h rv tN 1 B.length (B.map I64))(hA:A.length<1000)(hB:B.length<1000) :
 Ret P 8 60 [sv] h n fun v h' n'=>Row n' h' v tN 1 (A++B).length ((A++B).map I64)∧Tch [] h n h' n':=by
 have c0:zC h (sbk sv) (sof sv+0*1)=some wv:=rs.at (i:=0) rfl;have c1:zC h (sbk sv) (sof sv+1*1)=some rv:=rs.at (i:=1) rfl;have low:=rs.low (by omega);have low1:sbk sv<n:=by omega
 have o1:=ra.one;have o2:=rb.one;refine ent fun u=>?_;repeat' first|refine wk ?_|refine cX (fun _=>?_) fun _=>?_|fail
 refine lpR (fun i:Nat=>[(0,sv),(3,I64 (sI A.length B.length i)),(9,sv),(10,I64 (2:Nat)),(11,I64 i)]) (fun i h' n'=>h'=h∧n'=n∧i≤2) (fun i=>2 - i) 0 ⟨rfl,rfl,Nat.zero_le _⟩ ?_
 rintro i t h' n' ⟨e1,e2,hi⟩
 subst e1 e2;obtain rfl|rfl|rfl:i=0∨i=1∨i=2:=by omega
 · rw[show sI A.length B.length 0=0 from rfl];repeat' first|refine wk ?_|refine cX (fun _=>?_) fun _=>?_|fail
   exact rnd 1 ⟨rfl,rfl,by omega⟩
 · rw[show sI A.length B.length 1=0+(A.length:Nat) from rfl];repeat' first|refine wk ?_|refine cX (fun _=>?_) fun _=>?_|fail
   exact rnd 2 ⟨rfl,rfl,by omega⟩
 · rw[show sI A.length B.length 2=((A.length+B.length:Nat):Int) from by show(0:Int)+_+_=_;omega];repeat' first|refine wk ?_|refine cX (fun _=>?_) fun _=>?_|fail
   refine uB (grow_ret _ (by omega)) ?_
   rintro v2 h2 n2 ⟨t2,g⟩
   have hn2:=t2.le
   have o3:v2.oneCell'=true:=by
    rcases g with⟨_,rfl⟩|⟨_,w,_⟩
    · rfl
    · exact(w.row (by decide)).one
   have a2:AccC n' n2 h2 (A.length+B.length) v2 []:=by
    rcases g with⟨g1,g2⟩|⟨g1,w,g2⟩
    · exact .inl ⟨g1,g2⟩
    · exact .inr ⟨g1,w,fun _=>g2⟩
   repeat' first|refine wk ?_|refine cX (fun _=>?_) fun _=>?_|fail
   refine lpR (α :=Nat×Value) (fun p=>[(6,p.2),(25,sv),(26,I64 (2:Nat)),(27,I64 p.1)]) (fun p h3 n3=>Tch [] h' n' h3 n3∧p.1≤2∧AccC n' n3 h3 (A.length+B.length) p.2 (tkI A B p.1)) (fun p=>2 - p.1) (0,v2) ⟨t2,Nat.zero_le _,a2⟩ ?_
   rintro ⟨i,acc⟩ t3 h3 n3 ⟨ht3,hi3,a3⟩
   dsimp only at hi3 a3 ⊢;have hn3:=ht3.le;have rs3:=rs.tch ht3 hlo fun _ _ hx=>by cases hx
   have ra3:=(ra.tch ht3 hlo fun _ _ hx=>by cases hx).up (Nat.le_trans hlo hn3);have rb3:=(rb.tch ht3 hlo fun _ _ hx=>by cases hx).up (Nat.le_trans hlo hn3);have d0:zC h3 (sbk sv) (sof sv+0*1)=some wv:=rs3.at (i:=0) rfl;have d1:zC h3 (sbk sv) (sof sv+1*1)=some rv:=rs3.at (i:=1) rfl;have lk:(A++B).length≤A.length+B.length:=by rw[List.length_append];omega
   obtain rfl|rfl|rfl:i=0∨i=1∨i=2:=by omega
   · have o4:=(a3.row (Nat.zero_le _)).one;repeat' first|refine wk ?_|refine cX (fun _=>?_) fun _=>?_|fail
     refine acc_app a3 hn3 ra3 (by show A.length≤_;omega) (by omega) ?_;intro v4 h4 n4 a4 k4 hn4;have o5:=(a4.row (by show A.length≤_;omega)).one;have t4:Tch [] h' n' h4 n4:=⟨by omega,fun b hb hx=>(k4 b hb).trans (ht3.2 b hb hx)⟩;repeat' first|refine wk ?_|refine cX (fun _=>?_) fun _=>?_|fail
     exact rnd (1,v4) ⟨t4,by omega,a4⟩
   · have o4:=(a3.row (by show A.length≤_;omega)).one;repeat' first|refine wk ?_|refine cX (fun _=>?_) fun _=>?_|fail
     refine acc_app a3 hn3 rb3 lk (by omega) ?_;intro v4 h4 n4 a4 k4 hn4;have o5:=(a4.row lk).one;have t4:Tch [] h' n' h4 n4:=⟨by omega,fun b hb hx=>(k4 b hb).trans (ht3.2 b hb hx)⟩;repeat' first|refine wk ?_|refine cX (fun _=>?_) fun _=>?_|fail
     exact rnd (2,v4) ⟨t4,by omega,a4⟩
   · have r4:=a3.row lk;have o4:=r4.one;repeat' first|refine wk ?_|refine cX (fun _=>?_) fun _=>?_|fail
     exact⟨_,rfl,r4,ht3⟩
end Go.Proofs.YtmccnilgnlaffaaGreatDoor
namespace Go.Proofs.YtmccnilgnlaffaaGreatDoor
open Go Go.Ex Go.Ex.M
set_option maxRecDepth 100000
set_option maxHeartbeats 8000000
variable {n bc:Nat} {h:zB} {bt:Nat} {c:CodeT} {b k:Int}
theorem mchk1_none{p q r:Nat}:Def P 8 20 [ptr p 0,ptr q 0,ptr r 0] none h n fun u' h' n'=>u'=none∧Tch [] h n h' n':=by
 refine entD ?_;repeat' first|refine wk ?_|refine cX (fun _=>?_) fun _=>?_|fail
 exact⟨_,rfl,rfl,zA⟩
theorem wY{p q r zp zq zr:Nat}{x y z:Int}(hp:p<n)(hq:q<n)(hr:r<n)(hpq:p≠q)(hpr:p≠r)(hqr:q≠r)(cp:Cel h p zp 0 [I64 x])(cq:Cel h q zq 0 [I64 y])(cr:Cel h r zr 0 [I64 z])(e:Int) :
 Def P 8 20 [ptr p 0,ptr q 0,ptr r 0] (some (wrC b k e)) h n fun u' h' n'=>u'=some [⟨.iface 70 (.agg ⟨[I64 b,I64 k,I64 e]⟩),true,false⟩]∧Tch [p,q,r] h n h' n'∧Cel h' p zp 0 [I64 b]∧Cel h' q zq 0 [I64 k]∧Cel h' r zr 0 [I64 e]:=by
 refine entD ?_;repeat' first|refine wk ?_|refine cX (fun _=>?_) fun _=>?_|fail
 exact⟨_,rfl,rfl,zA,zD,zD,zD⟩
theorem needC{G:Prop}{z:Bool}{e:Int}{K:Out→zB→Nat→Prop}[s:IsCall G P 8 21 [ptr bc 0,.bool z,I64 e] h n K](hc:Cel h bc zMk 0 (mkC3 bt c b k))(hb:bc<n)(k1:Ch z (K (.ret (.tuple #[])) h n) (K (.panic (wrC b k e)) h n)):G:=cal (mneed_com hc hb z e) fun o h' n' ⟨e1,e2,e3⟩=>by
 subst e1 e2 e3;cases z
 · exact k1.2 rfl
 · exact k1.1 rfl
theorem mop_K{lo:Nat}{m:MachT}{ns:List Tx}{ps:List Pl}{v:TabV}(kt:TabM lo n h bt m ns ps v)(hon:(oNs m).Nodup){x:Tx}{G:Prop}{K:Out→zB→Nat→Prop}[s:IsCall G P 8 117 [ptr bt 0,str x] h n K]
(k1:∀j o,m.ops[j]? = some o→opAt m x=some o→K (.ret (.tuple ⟨[I64 (j:Nat),.bool true]⟩)) h n)(k2:opAt m x=none→K (.ret (.tuple ⟨[I64 0,.bool false]⟩)) h n):G:=by
 by_cases hx:x∈oNs m
 · obtain⟨o,h1,h2⟩:=onx hx;refine wM (top_in kt hon hx) (k1 _ o h1 ?_);unfold opAt
   have h3:∃y,m.ops.find? (fun o=>decide (o.name=x))=some y:=by
    cases e:m.ops.find? (fun o=>decide (o.name=x)) with
    | some y=>exact⟨y,rfl⟩
    | none=>exact absurd (List.find?_eq_none.1 e o (List.mem_of_getElem? h1)) (by simp[h2])
   obtain⟨y,hy⟩:=h3;have hy1:y.name=x:=by simpa using List.find?_some hy
   have hy2:=List.mem_of_find?_eq_some hy;obtain⟨i,hi,rfl⟩:=List.getElem_of_mem hy2;have a1:(oNs m)[i]? = some x:=by unfold oNs;rw [List.getElem?_map,List.getElem?_eq_getElem hi];simp [hy1]
   have a2:(oNs m)[(oNs m).idxOf x]? = some x:=idx_at hx;have hi':=(List.getElem?_eq_some_iff.1 a1).1;have:i=(oNs m).idxOf x:=(List.getElem?_inj hi' hon).1 (a1.trans a2.symm);rw [hy,List.getElem?_eq_getElem hi |>.symm,this,h1]
 · refine wM (top_no kt hx) (k2 ?_);unfold opAt;rw [List.find?_eq_none];intro o ho;have:o.name≠x:=fun e=>hx (by unfold oNs;rw [← e];exact List.mem_map_of_mem ho);simpa using this
theorem mkind_com{lo lq:Nat}{m:MachT}{ns:List Tx}{ps:List Pl}{v:TabV}(kt:TabM lq n h bt m ns ps v)(ok:MOK m ns ps)(hon:(oNs m).Nodup)(hc:Cel h bc zMk 0 (mkC3 bt c b k))(hb:bc<n){i:InsT}(hi:InsM lo h i)(hlo:lo≤n)(last:Bool):Com P 8 58 [ptr bc 0,.agg ⟨insC i⟩,.bool last] h n fun o h' n'=>o=(if kindB m i last then .ret (.tuple #[]) else .panic (wrC b k 22))∧Tch [] h n h' n':=by
 have o1:=(hi.ar 0).one;have sm:=MOK.sml ok;have t1:Tch [] h n (hal h n (mkC (insC i) (57+1) 0)) (n+1):=zA;have kt1:=kt.tch t1;have yes:∀{h':zB} {n':Nat},Tch [] h n h' n'→kindB m i last=true→(Out.ret (.tuple ⟨[]⟩)=(if kindB m i last then Out.ret (.tuple #[]) else Out.panic (wrC b k 22))∧Tch [] h n h' n'):=fun t e=>⟨by rw[if_pos e],t⟩;have noo:∀{h':zB} {n':Nat},Tch [] h n h' n'→kindB m i last=false→(Out.panic (wrC b k 22)=(if kindB m i last then Out.ret (.tuple #[]) else Out.panic (wrC b k 22))∧Tch [] h n h' n'):=fun t e=>⟨by rw[if_neg (by rw[e];exact Bool.false_ne_true)],t⟩;have al:=sm.args;have ra:=hi.ar tN;refine ent fun u=>?_;repeat' first|refine wk ?_|refine cX (fun _=>?_) fun _=>?_|refine needC zG (by omega) ?_|refine mop_K kt1 hon (fun j o hj ho=>?_) (fun ho=>?_)|refine wM (tuses_pur kt1 sm.ops (by assumption)) ?_|(refine uB (targs_ret kt1 sm.args) ?_;rintro w h2 n2 ⟨ho,ht⟩;have hn2:=ht.le;have o2:=(OwnE.row ho (by decide)))|fail
 all_goals (try have hN:i.args.length=o.uses.length:=by omega)
 all_goals (try have hN:¬i.args.length=o.uses.length:=by omega)
 all_goals first
  | refine yes zA ?_;unfold kindB;rw [‹(endB i.kind == last)=true›];simp [*];done
  | refine noo zA ?_;unfold kindB;rw [‹(endB i.kind == last)=true›];simp [*];done
  | refine noo zA ?_;unfold kindB;rw [‹(endB i.kind == last)=false›];simp;done
  | refine noo zA ?_;unfold kindB;simp [*];done
end Go.Proofs.YtmccnilgnlaffaaGreatDoor
namespace Go.Proofs.YtmccnilgnlaffaaGreatDoor
open Go Go.Ex Go.Ex.M
set_option maxRecDepth 100000
set_option maxHeartbeats 8000000
theorem oY{z:Bool}{b k e:Int}{A:Prop}(a:A)(hz:z=true):(Out.ret (.tuple ⟨[]⟩)=(if z then .ret (.tuple #[]) else .panic (wrC b k e)))∧A:=⟨by rw[if_pos hz],a⟩
theorem oN{z:Bool}{b k e:Int}{A:Prop}(a:A)(hz:z=false):(Out.panic (wrC b k e)=(if z then .ret (.tuple #[]) else .panic (wrC b k e)))∧A:=⟨by rw[if_neg (by rw[hz];exact Bool.false_ne_true)],a⟩
theorem mayB_succ{m:MachT}{ns:List Tx}{ps:List Pl}{o:OpT}{j:Nat}{x:OperT}{r:Int}:mayB m ns ps o (j+1) x r=mayB m ns ps o 1 x r:=by
 unfold mayB;rw [decide_eq_true (by omega:j+1≠0),decide_eq_true (by omega:(1:Nat)≠0)]
theorem zip_all{α β : Type}{p: α×β→Bool}:∀{A:List α} {B:List β},A.length=B.length→(∀(j:Nat) a b,A[j]? = some a→B[j]? = some b→p (a,b)=true)→(A.zip B).all p=true
 | [],[],_,_=>rfl
 | a::A,b::B,hl,h=>by
  rw[List.zip_cons_cons,List.all_cons,h 0 a b rfl rfl,zip_all (by simpa using hl) fun j x y hx hy=>h (j+1) x y hx hy];rfl
 | [],_::_,hl,_=>by cases hl
 | _::_,[],hl,_=>by cases hl
theorem zip_no{α β : Type}{p: α×β→Bool}{A:List α}{B:List β}{j:Nat}{a: α}{b: β}(ha:A[j]? = some a)(hb:B[j]? = some b)(h:p (a,b)=false):(A.zip B).all p=false:=by
 cases e:(A.zip B).all p with
 | false=>rfl
 | true=>
  have:=List.all_eq_true.1 e (a,b) (List.mem_iff_getElem?.2 ⟨j,by rw[List.getElem?_zip_eq_some];exact⟨ha,hb⟩⟩);rw [h]at this;cases this
variable {n bc:Nat} {h:zB} {bt:Nat} {c:CodeT} {b k:Int}
theorem moperands_com{lo lq:Nat}{m:MachT}{ns:List Tx}{ps:List Pl}{v:TabV}(kt:TabM lq n h bt m ns ps v)(ok:MOK m ns ps)(hon:(oNs m).Nodup)(hc:Cel h bc zMk 0 (mkC3 bt c b k))(hb:bc<n){i:InsT}(hi:InsM lo h i)(hlo:lo≤n){o:OpT}(ho:opAt m i.name=some o)(hlen:i.args.length=o.uses.length):Com P 8 64 [ptr bc 0,.agg ⟨insC i⟩] h n fun out h' n'=>out=(if opsB m ns ps i o then .ret (.tuple #[]) else .panic (wrC b k 23))∧Tch [] h n h' n':=by
 have o1:=(hi.ar 0).one;have sm:=MOK.sml ok;have t1:Tch [] h n (hal h n (mkC (insC i) (57+1) 0)) (n+1):=zA;have kt1:=kt.tch t1;have ra:=hi.ar tN;have hoM:o∈m.ops:=List.mem_of_find?_eq_some ho;have hul:=sm.opu o hoM;have hg:=hi.g.1;have hoo:=(MOK.oo ok o hoM).1;have ra1:Row lo (hal h n (mkC (insC i) (57+1) 0)) i.av tN 1 i.args.length (i.args.map I64):=(hi.ar tN).tch t1 hlo fun _ _ hx=>by cases hx
 refine ent fun u=>?_;repeat' first|refine wk ?_|refine cX (fun _=>?_) fun _=>?_|refine mop_K kt1 hon (fun j o' hj ho'=>?_) (fun ho'=>?_)|fail
 · rw[ho]at ho';obtain rfl:=Option.some.inj ho';repeat' first|refine wk ?_|refine cX (fun _=>?_) fun _=>?_|refine needC zG (by omega) ?_|refine wM (tmay_pur kt1 ok sm.ops hj (q:=0) (x:=o.d) rfl i.d hg.2) ?_|fail
   · rename_i hd;refine lpR (fun q:Nat=>[(0,ptr bc 0),(3,ptr n 0),(4,I64 j),(30,i.av),(31,I64 i.args.length),(32,I64 q)]) (fun q h' n'=>h'=hal h n (mkC (insC i) (57+1) 0)∧n'=n+1∧q≤i.args.length∧∀(j':Nat) a x,j'<q→i.args[j']? = some a→o.uses[j']? = some x→mayB m ns ps o 1 x a=true) (fun q=>i.args.length - q) 0 ⟨rfl,rfl,Nat.zero_le _,fun _ _ _ hj'=>by omega⟩ ?_
     rintro q t h' n' ⟨e1,e2,hq,hall⟩
     subst e1 e2;by_cases hlt:q<i.args.length
     · have d0:i.args[q]? = some i.args[q]:=List.getElem?_eq_getElem hlt;have d1:o.uses[q]? = some o.uses[q]:=List.getElem?_eq_getElem (by omega);generalize i.args[q]=a at d0
       generalize o.uses[q]=x at d1
       have c1:zC (hal h n (mkC (insC i) (57+1) 0)) (sbk i.av) (sof i.av+q*1)=some (I64 a):=by rw[Nat.mul_one];exact ra1.at (by rw[List.getElem?_map,d0];rfl)
       have ga:=hi.ag a (List.mem_of_getElem? d0);have hm:=tmay_pur (n:=n+1) kt1 ok sm.ops hj (q:=q+1) (x:=x) (by rw[List.getElem?_cons_succ];exact d1) a ga.2;rw [mayB_succ]at hm;repeat' first|refine wk ?_|refine cX (fun _=>?_) fun _=>?_|refine needC zG (by omega) ?_|refine wM hm ?_|fail
       · rename_i g1
         exact rnd (q+1) ⟨rfl,rfl,by omega,fun j' a' x' hj' f1 f2=>by
          rcases Nat.lt_succ_iff_lt_or_eq.1 hj' with h9|rfl
          · exact hall j' a' x' h9 f1 f2
          · rw[d0]at f1;rw [d1]at f2;cases f1;cases f2;exact g1⟩
       · rename_i g1;exact oN zA (by unfold opsB;rw [zip_no d0 d1 g1];simp)
     · obtain rfl:q=i.args.length:=by omega
       have zz:((i.args.zip o.uses).all fun p=>mayB m ns ps o 1 p.2 p.1)=true:=zip_all hlen fun j' a x f1 f2=>hall j' a x (List.getElem?_eq_some_iff.1 f1).1 f1 f2;have tl:=hoo.2.2.2.1;have th:=hoo.2.2.2.2.1;by_cases h0:o.tie<0
       · repeat' first|refine wk ?_|refine cX (fun _=>?_) fun _=>?_|refine needC zG (by omega) ?_|refine wM (ttie_pur kt1 sm.ops hj) ?_|fail
         exact oY zA (by unfold opsB;rw [hd,zz,decide_eq_true h0];rfl)
       · have htl:o.tie.toNat<i.args.length:=by omega
         have d0:i.args[o.tie.toNat]? = some i.args[o.tie.toNat]:=List.getElem?_eq_getElem htl;generalize i.args[o.tie.toNat]=a at d0
         have c1:zC (hal h n (mkC (insC i) (57+1) 0)) (sbk i.av) (sof i.av+o.tie.toNat*1)=some (I64 a):=by rw[Nat.mul_one];exact ra1.at (by rw[List.getElem?_map,d0];rfl)
         repeat' first|refine wk ?_|refine cX (fun _=>?_) fun _=>?_|refine needC zG (by omega) ?_|refine wM (ttie_pur kt1 sm.ops hj) ?_|fail
         · rename_i g1;exact oY zA (by unfold opsB;rw [hd,zz,d0,g1,decide_eq_true (rfl:some a=some a)];simp)
         · rename_i g1;exact oN zA (by unfold opsB;rw [hd,zz,d0,decide_eq_false h0,decide_eq_false (fun e=>g1 (Option.some.inj e).symm)];rfl)
   · exact oN zA (by unfold opsB;simp [*])
 · rw[ho]at ho';cases ho'
end Go.Proofs.YtmccnilgnlaffaaGreatDoor
namespace Go.Proofs.YtmccnilgnlaffaaGreatDoor
open Go Go.Ex Go.Ex.M
set_option maxRecDepth 100000
set_option maxHeartbeats 8000000
variable {n bc:Nat} {h:zB} {bt:Nat} {c:CodeT} {b k:Int}
theorem tch_row{lo:Nat}{h':zB}{n':Nat}{v:Value}{e sz len:Nat}{vs:List Value}(r:Row lo h v e sz len vs)(t:Tch [] h n h' n')(hl:lo≤n):Row lo h' v e sz len vs:=r.tch t hl fun _ _ hx=>by cases hx
theorem regsR_len{m:MachT}{i:InsT}{last:Bool}(hk:kindB m i last=true)(hu:∀o∈m.ops,o.uses.length≤2):(vI i).length≤2:=by
 unfold vI;split
 · simp
 · split
   · rename_i h3;unfold kindB at hk;rw [if_pos h3]at hk
     cases e:opAt m i.name with
     | none=>rw [e]at hk;simp at hk
     | some o=>
      rw[e]at hk;have h4:i.args.length=o.uses.length:=by simp at hk;exact hk.2
      rw[h4];exact hu o (List.mem_of_find?_eq_some e)
   · split <;> simp
theorem kind3{m:MachT}{i:InsT}{last:Bool}(hk:kindB m i last=true)(h3:i.kind=3):∃o,opAt m i.name=some o∧i.args.length=o.uses.length:=by
 unfold kindB at hk;rw [if_pos h3]at hk
 cases e:opAt m i.name with
 | none=>rw [e]at hk;simp at hk
 | some o=>
  rw[e]at hk;exact⟨o,rfl,by simp at hk;exact hk.2⟩
theorem tplaceI{lo:Nat}{m:MachT}{ns:List Tx}{ps:List Pl}{v:TabV}(kt:TabM lo n h bt m ns ps v)(hpl:ps.length≤200){r:Int}(h0:0≤r){p:Pl}(hj:ps[r.toNat]? = some p):Ret P 8 63 [ptr bt 0,I64 r] h n fun w h' n'=>w=plV p∧Tch [] h n h' n':=by
 have:=tplace_ret kt hpl hj
 rwa [Int.toNat_of_nonneg h0]at this
theorem fld_pl(p:Pl):aField P 135 (plV p) 2=some (I64 p.width):=by
 show aField P 135 (.agg ⟨[I64 p.root,I64 p.at_,I64 p.width]⟩) 2=_;kernel_rfl
theorem mY{x b k:Int}{A:Prop}(a:A)(hx:x=0):(Out.ret (.tuple ⟨[]⟩)=(if x=0 then .ret (.tuple #[]) else .panic (wrC b k x)))∧A:=⟨by rw[if_pos hx],a⟩
theorem mN{x e b k:Int}{A:Prop}(a:A)(hx:x=e)(he:e≠0):(Out.panic (wrC b k e)=(if x=0 then .ret (.tuple #[]) else .panic (wrC b k x)))∧A:=⟨by subst hx;rw [if_neg he],a⟩
theorem mins_com{lo lq:Nat}{m:MachT}{ns:List Tx}{ps:List Pl}{v:TabV}(kt:TabM lq n h bt m ns ps v)(ok:MOK m ns ps)(hon:(oNs m).Nodup)(hc:Cel h bc zMk 0 (mkC3 bt c b k))(hb:bc<n)(cm:CodeM lo h c){i:InsT}(hi:InsM lo h i)(hlo:lo≤n)(last:Bool) :
 Com P 8 24 [ptr bc 0,.agg ⟨insC i⟩,.bool last] h n fun o h' n'=>(o=if insE m ns ps c.slots c.blocks.length i last=0 then .ret (.tuple #[]) else .panic (wrC b k (insE m ns ps c.slots c.blocks.length i last)))∧Tch [] h n h' n':=by
 have o1:=(hi.ar 0).one;have sm:=MOK.sml ok;have gok:=geo_ok ok.geo;have t1:Tch [] h n (hal (hal h n (mkC [ptr bc 0] (72+1) 0)) (n+1) (mkC (insC i) (57+1) 0)) (n+1+1):=zA;have kt1:=kt.tch t1;have hi1:=hi.tch t1 hlo;have hc1:=hc.tch t1 hb (by simp);refine ent fun u=>?_;repeat' first|refine wk ?_|refine cX (fun _=>?_) fun _=>?_|fail
 refine cal (mkind_com kt1 ok hon hc1 (by omega) hi1 (by omega) last) ?_
 rintro _ h2 n2 ⟨rfl,t2⟩
 have hn2:=t2.le;have cB:Cel h2 n (72+1) 0 [ptr bc 0]:=by clear t1;exact zD
 have cI:Cel h2 (n+1) (57+1) 0 (insC i):=by clear t1;exact zD
 have t02:Tch [] h n h2 n2:=zA;have kt2:=kt.tch t02;have hi2:=hi.tch t02 hlo;have hc2:=hc.tch t02 hb (by simp);clear t2 t1 kt1 hi1 hc1
 cases hk:kindB m i last with
 | false=>
  rw[if_neg Bool.false_ne_true];repeat' first|refine wk ?_|refine cX (fun _=>?_) fun _=>?_|fail
  exact mN zA (by unfold insE;rw [if_pos hk]) (by decide)
 | true=>
  rw[if_pos rfl];repeat' first|refine wk ?_|refine cX (fun _=>?_) fun _=>?_|fail
  refine uB (mregs_ret hi2 (by omega)) ?_
  rintro _ h3 n3 ⟨wv,rv,rfl,rw3,rr3,t3⟩
  have hn3:=t3.le;obtain⟨pw,cw,rfl⟩:=rw3.sl;obtain⟨pr,cr,rfl⟩:=rr3.sl;have hwl:=regsW_len i;have hrl:=regsR_len hk sm.opu;repeat' first|refine wk ?_|refine cX (fun _=>?_) fun _=>?_|fail
  have t4:Tch [] h3 n3 (hal h3 n3 (mkC [.slice pw (vH i).length cw,.slice pr (vI i).length cr] 0 0)) (n3+1):=zA;refine uB (concat2_ret (lo:=n3+1) (A:=vH i) (B:=vI i) (Nat.le_refl _) (zR (e:=yK) rfl (by decide)) ((tch_row rw3 t4 (Nat.le_refl _)).up (by omega)) ((tch_row rr3 t4 (Nat.le_refl _)).up (by omega)) (by omega) (by omega)) ?_
  rintro sv h5 n5 ⟨rs,t5⟩
  have hn5:=t5.le;have os:=rs.one;have t25:Tch [] h2 n2 h5 n5:=zA;have t05:Tch [] h n h5 n5:=zA;have cB5:Cel h5 n (72+1) 0 [ptr bc 0]:=cB.tch t25 (by omega) (by simp);have cI5:Cel h5 (n+1) (57+1) 0 (insC i):=cI.tch t25 (by omega) (by simp);have kt5:=kt.tch t05;have hi5:=hi.tch t05 hlo;have hc5:=hc.tch t05 hb (by simp);have cm5:=cm.tch t05 hlo;clear t5 t25 t4 t3 t02 cB cI kt2 hi2 hc2 rw3 rr3;generalize hL:vH i++vI i=L at rs
  have hLl:L.length≤3:=by rw[← hL,List.length_append];omega
  repeat' first|refine wk ?_|refine cX (fun _=>?_) fun _=>?_|fail
  refine lpR (fun q:Nat=>[(3,ptr n 0),(4,ptr (n+1) 0),(23,sv),(24,I64 L.length),(25,I64 q)]) (fun q h' n'=>h'=h5∧n'=n5∧q≤L.length∧∀(j:Nat) r,j<q→L[j]? = some r→inR r ns.length=true) (fun q=>L.length - q) 0 ⟨rfl,rfl,Nat.zero_le _,fun _ _ hj'=>by omega⟩ ?_
  rintro q t h' n' ⟨e1,e2,hq,hall⟩
  subst e1 e2;by_cases hlt:q<L.length
  · have d0:L[q]? = some L[q]:=List.getElem?_eq_getElem hlt;generalize L[q]=r at d0
    have c1:zC h' (sbk sv) (sof sv+q*1)=some (I64 r):=by rw[Nat.mul_one];exact rs.at (by rw[List.getElem?_map,d0];rfl)
    have bad:inR r ns.length=false→insE m ns ps c.slots c.blocks.length i last=23:=fun hr=>by
     unfold insE;rw [if_neg (by rw[hk];exact Bool.false_ne_true.symm),hL,if_pos]
     cases e:(L.all fun r=>inR r ns.length) with
     | false=>rfl
     | true=>rw [List.all_eq_true.1 e r (List.mem_of_getElem? d0)]at hr;cases hr
    repeat' first|refine wk ?_|refine cX (fun _=>?_) fun _=>?_|refine needC zG (by omega) ?_|refine wM (tregs_pur kt5) ?_|fail
    · rename_i g1 g2
      exact rnd (q+1) ⟨rfl,rfl,by omega,fun j r' hj' f1=>by
       rcases Nat.lt_succ_iff_lt_or_eq.1 hj' with h9|rfl
       · exact hall j r' h9 f1
       · rw[d0]at f1;cases f1;unfold inR;rw [decide_eq_true g1,decide_eq_true g2];rfl⟩
    · rename_i g1 g2;exact mN zA (bad (by unfold inR;rw [decide_eq_false g2,Bool.and_false])) (by decide)
    · rename_i g1;exact mN zA (bad (by unfold inR;rw [decide_eq_false g1,Bool.false_and])) (by decide)
  · obtain rfl:q=L.length:=by omega
    have good:(L.all fun r=>inR r ns.length)=true:=List.all_eq_true.2 fun r hr=>by
     obtain⟨j,hj⟩:=List.mem_iff_getElem?.1 hr;exact hall j r (List.getElem?_eq_some_iff.1 hj).1 hj
    have E:insE m ns ps c.slots c.blocks.length i last=if i.kind=2 then(if widthA ps i.d=widthA ps i.a then 0 else 23)
     else if i.kind=3 then(match opAt m i.name with|some o=>if opsB m ns ps i o then 0 else 23|none=>23)
     else if i.kind=10∨i.kind=11 then(if 0≤i.n∧i.n<c.slots then 0 else 24)
     else if i.kind=7 then(if inR i.t c.blocks.length && inR i.f c.blocks.length then 0 else 20)
     else if i.kind=8 then(if inR i.t c.blocks.length then 0 else 20) else 0:=by
     unfold insE;rw [if_neg (by rw[hk];exact Bool.noConfusion),hL,if_neg (by rw[good];exact Bool.noConfusion)];try rfl
    by_cases h2:i.kind=2
    · have w2:∀r,r∈L→0≤r∧∃p,ps[r.toNat]? = some p∧widthA ps r=p.width:=fun r hr=>by
       have hr1:=List.all_eq_true.1 good r hr;unfold inR at hr1;obtain⟨g1,g2⟩:=Bool.and_eq_true_iff.1 hr1;have g1:=of_decide_eq_true g1;have g2:=of_decide_eq_true g2;have lp:ps.length=ns.length:=gok.len;have g3:ps[r.toNat]? = some (ps[r.toNat]'(by omega)):=List.getElem?_eq_getElem _;exact⟨g1,_,g3,by unfold widthA;rw [g3]⟩
      obtain⟨a0,p,a1,a2⟩:=w2 i.d (by rw[← hL];exact List.mem_append.2 (.inl (by unfold vH;rw [if_pos (by omega)];exact List.mem_singleton.2 rfl)));obtain⟨b0,p',b1,b2⟩:=w2 i.a (by rw[← hL];exact List.mem_append.2 (.inr (by unfold vI;rw [if_pos (by omega)];exact List.mem_singleton.2 rfl)));have lp:ps.length≤200:=by have h8:ps.length=ns.length:=gok.len;have h9:ns.length≤200:=gok.le;omega
      repeat' first|refine wk ?_|refine cX (fun _=>?_) fun _=>?_|fail
      refine uB (tplaceI kt5 lp a0 a1) ?_
      rintro _ h6 n6 ⟨rfl,t6⟩
      have hn6:=t6.le;have cI6:Cel h6 (n+1) (57+1) 0 (insC i):=cI5.tch t6 (by omega) (by simp);have cB6:Cel h6 n (72+1) 0 [ptr bc 0]:=cB5.tch t6 (by omega) (by simp);have hc6:=hc5.tch t6 (by omega) (by simp);have kt6:=kt5.tch t6;have t06:Tch [] h n h6 n6:=zA;repeat' first|refine wk ?_|refine cX (fun _=>?_) fun _=>?_|fail
      refine uB (tplaceI kt6 lp b0 b1) ?_
      rintro _ h7 n7 ⟨rfl,t7⟩
      have hn7:=t7.le;have cI7:Cel h7 (n+1) (57+1) 0 (insC i):=cI6.tch t7 (by omega) (by simp);have cB7:Cel h7 n (72+1) 0 [ptr bc 0]:=cB6.tch t7 (by omega) (by simp);have hc7:=hc6.tch t7 (by omega) (by simp);have t07:Tch [] h n h7 n7:=zA;repeat' first|refine wk ?_|refine cX (fun _=>?_) fun _=>?_|fail
      refine ob (a:=I64 p.width) ?_ (fld_pl p);repeat' first|refine wk ?_|refine cX (fun _=>?_) fun _=>?_|fail
      refine ob (a:=I64 p'.width) ?_ (fld_pl p');repeat' first|refine wk ?_|refine cX (fun _=>?_) fun _=>?_|refine needC zG (by omega) ?_|fail
      · rename_i g1;exact mY t07 (by rw[E,if_pos h2,a2,b2,if_pos g1])
      · rename_i g1;exact mN t07 (by rw[E,if_pos h2,a2,b2,if_neg g1]) (by decide)
    by_cases h3:i.kind=3
    · obtain⟨o,ho,hlen⟩:=kind3 hk h3;repeat' first|refine wk ?_|refine cX (fun _=>?_) fun _=>?_|fail
      refine cal (moperands_com kt5 ok hon hc5 (by omega) hi5 (by omega) ho hlen) ?_
      rintro _ h6 n6 ⟨rfl,t6⟩
      have hn6:=t6.le
      cases e:opsB m ns ps i o with
      | true=>
       rw[if_pos rfl];repeat' first|refine wk ?_|refine cX (fun _=>?_) fun _=>?_|fail
       exact mY zA (by rw[E,if_neg h2,if_pos h3,ho];show(if opsB m ns ps i o then(0:Int) else 23)=0;rw [e];rfl)
      | false=>
       rw[if_neg Bool.false_ne_true];repeat' first|refine wk ?_|refine cX (fun _=>?_) fun _=>?_|fail
       exact mN zA (by rw[E,if_neg h2,if_pos h3,ho];show(if opsB m ns ps i o then(0:Int) else 23)=23;rw [e];rfl) (by decide)
    have cat5:zC h' n 0=some (ptr bc 0):=cB5.cell rfl;rw [if_neg h2,if_neg h3]at E;clear hall rs;repeat' first|refine wk ?_|refine cX (fun _=>?_) fun _=>?_|refine needC zG (by omega) ?_|refine wM (ins1_pur hc5 (by omega) cat5 (by omega) cm5 _) ?_|fail
    all_goals first
     | exact mY zA (by rw[E];simp [*];done)
     | exact mN zA (by rw[E];simp [*];done) (by decide)
end Go.Proofs.YtmccnilgnlaffaaGreatDoor
namespace Go.Proofs.YtmccnilgnlaffaaGreatDoor
open Go Go.Ex Go.Ex.M
set_option maxRecDepth 100000
set_option maxHeartbeats 8000000
attribute [local simp] xV
variable {n:Nat} {h:zB} {bt:Nat} {c:CodeT}
theorem mins_K{n0 lo lq bc:Nat}{h0:zB}{m:MachT}{ns:List Tx}{ps:List Pl}{v:TabV}{b k:Int}{i:InsT}{last:Bool}{G:Prop}{K:Out→zB→Nat→Prop}[s:IsCall G P 8 24 [ptr bc 0,.agg ⟨insC i⟩,.bool last] h n K]
(kt:TabM lq n0 h0 bt m ns ps v)(ok:MOK m ns ps)(hon:(oNs m).Nodup)(cm:CodeM lo h0 c)(hi:InsM lo h0 i)(hlo:lo≤n0)(t:Tch [] h0 n0 h n)(hc:Cel h bc zMk 0 (mkC3 bt c b k))(hb:bc<n)
(k1:insE m ns ps c.slots c.blocks.length i last=0→∀h' n',Tch [] h n h' n'→K (.ret (.tuple #[])) h' n')(k2:insE m ns ps c.slots c.blocks.length i last≠0→∀h' n',Tch [] h n h' n'→K (.panic (wrC b k (insE m ns ps c.slots c.blocks.length i last))) h' n'):G:=by
 have hn:=t.le;refine cal (mins_com (kt.tch t) ok hon hc hb (cm.tch t hlo) (hi.tch t hlo) (by omega) last) ?_
 rintro _ h' n' ⟨rfl,t'⟩
 by_cases e:insE m ns ps c.slots c.blocks.length i last=0
 · rw[if_pos e];exact k1 e h' n' t'
 · rw[if_neg e];exact k2 e h' n' t'
noncomputable abbrev hpC(h:zB)(n bt:Nat)(c:CodeT):zB:=hal (hal (hal (hal (hal h n (mkC (codeC c) (30+1) 0)) (n+1) (mkC [I64 0] (3+1) 0)) (n+1+1) (mkC [I64 0] (3+1) 0)) (n+1+1+1) (mkC [I64 0] (38+1) 0)) (n+1+1+1+1) (mkC (mkC3 bt c 0 0) zMk 0)
theorem mcheck_ret{lo lq:Nat}{m:MachT}{ns:List Tx}{ps:List Pl}{v:TabV}(kt:TabM lq n h bt m ns ps v)(ok:MOK m ns ps)(hon:(oNs m).Nodup)(cm:CodeM lo h c)(hlo:lo≤n) :
 Ret P 8 9 [ptr bt 0,.agg ⟨codeC c⟩] h n fun w h' n'=>∃b k e,w = .tuple ⟨[I64 b,I64 k,I64 e]⟩∧CodeE m ns ps c b k e∧Tch [] h n h' n':=by
 have o1:=(cm.bl 0).one;have hbn:=kt.hb.2;have rb0:=cm.bl 0;have t0:Tch [] h n (hpC h n bt c) (n+1+1+1+1+1):=zA;have kt0:=kt.tch t0;have cM0:Cel (hpC h n bt c) (n+1+1+1+1) zMk 0 (mkC3 bt c 0 0):=zG;have cA0:Cel (hpC h n bt c) (n+1) (3+1) 0 [I64 0]:=zG;have cB0:Cel (hpC h n bt c) (n+1+1) (3+1) 0 [I64 0]:=zG;have cC0:Cel (hpC h n bt c) (n+1+1+1) (38+1) 0 [I64 0]:=zG;have cK0:Cel (hpC h n bt c) n (30+1) 0 (codeC c):=zG;refine ent fun u=>?_;by_cases h200:c.blocks.length≤200
 rotate_left
 · repeat' first|refine wk ?_|refine cX (fun _=>?_) fun _=>?_|refine needC cM0 (by omega) ?_|fail
   refine uZ (g:=20) (args:=[]) (cap:=[ptr (n+1) 0,ptr (n+2) 0,ptr (n+3) 0]) (wY (b:=0) (k:=0) (by omega) (by omega) (by omega) (by omega) (by omega) (by omega) zG zG zG 2) ?_
   rintro h9 n9 ⟨t9,c91,c92,c93⟩
   have t09:Tch [] h n h9 n9:=Tch.tch t9 zA fun x hx=>.inl (by simp at hx;omega);clear t9;repeat' first|refine wk ?_|refine cX (fun _=>?_) fun _=>?_|fail
   exact⟨_,rfl,0,0,2,rfl,.inl ⟨by omega,rfl,rfl,rfl⟩,t09⟩
 cases hnm:nameB c.name with
 | false=>
  repeat' first|refine wk ?_|refine cX (fun _=>?_) fun _=>?_|refine needC cM0 (by omega) ?_|fail
  refine uZ (g:=20) (args:=[]) (cap:=[ptr (n+1) 0,ptr (n+2) 0,ptr (n+3) 0]) (wY (b:=0) (k:=0) (by omega) (by omega) (by omega) (by omega) (by omega) (by omega) zG zG zG 5) ?_
  rintro h9 n9 ⟨t9,c91,c92,c93⟩
  have t09:Tch [] h n h9 n9:=Tch.tch t9 zA fun x hx=>.inl (by simp at hx;omega);clear t9;repeat' first|refine wk ?_|refine cX (fun _=>?_) fun _=>?_|fail
  exact⟨_,rfl,0,0,5,rfl,.inr ⟨h200,.inl ⟨hnm,rfl,rfl,rfl⟩⟩,t09⟩
 | true=>
 by_cases hsl:0≤c.slots∧c.slots≤m.slots
 rotate_left
 · repeat' first|refine wk ?_|refine cX (fun _=>?_) fun _=>?_|refine needC cM0 (by omega) ?_|refine wM (tslots_pur kt0) ?_|fail
   refine uZ (g:=20) (args:=[]) (cap:=[ptr (n+1) 0,ptr (n+2) 0,ptr (n+3) 0]) (wY (b:=0) (k:=0) (by omega) (by omega) (by omega) (by omega) (by omega) (by omega) zG zG zG 24) ?_
   rintro h9 n9 ⟨t9,c91,c92,c93⟩
   have t09:Tch [] h n h9 n9:=Tch.tch t9 zA fun x hx=>.inl (by simp at hx;omega);clear t9;repeat' first|refine wk ?_|refine cX (fun _=>?_) fun _=>?_|fail
   exact⟨_,rfl,0,0,24,rfl,.inr ⟨h200,.inr ⟨hnm,.inl ⟨hsl,rfl,rfl,rfl⟩⟩⟩,t09⟩;refine uZ (g:=20) (args:=[]) (cap:=[ptr (n+1) 0,ptr (n+2) 0,ptr (n+3) 0]) (wY (b:=0) (k:=0) (by omega) (by omega) (by omega) (by omega) (by omega) (by omega) zG zG zG 24) ?_
   rintro h9 n9 ⟨t9,c91,c92,c93⟩
   have t09:Tch [] h n h9 n9:=Tch.tch t9 zA fun x hx=>.inl (by simp at hx;omega);clear t9;repeat' first|refine wk ?_|refine cX (fun _=>?_) fun _=>?_|fail
   exact⟨_,rfl,0,0,24,rfl,.inr ⟨h200,.inr ⟨hnm,.inl ⟨hsl,rfl,rfl,rfl⟩⟩⟩,t09⟩
 obtain⟨hs0,hs1⟩:=hsl;by_cases hb0:0<c.blocks.length
 rotate_left
 · repeat' first|refine wk ?_|refine cX (fun _=>?_) fun _=>?_|refine needC cM0 (by omega) ?_|refine wM (tslots_pur kt0) ?_|fail
   refine uZ (g:=20) (args:=[]) (cap:=[ptr (n+1) 0,ptr (n+2) 0,ptr (n+3) 0]) (wY (b:=0) (k:=0) (by omega) (by omega) (by omega) (by omega) (by omega) (by omega) zG zG zG 20) ?_
   rintro h9 n9 ⟨t9,c91,c92,c93⟩
   have t09:Tch [] h n h9 n9:=Tch.tch t9 zA fun x hx=>.inl (by simp at hx;omega);clear t9;repeat' first|refine wk ?_|refine cX (fun _=>?_) fun _=>?_|fail
   exact⟨_,rfl,0,0,20,rfl,.inr ⟨h200,.inr ⟨hnm,.inr ⟨⟨hs0,hs1⟩,.inl ⟨by omega,rfl,rfl,rfl⟩⟩⟩⟩,t09⟩
 repeat' first|refine wk ?_|refine cX (fun _=>?_) fun _=>?_|refine needC cM0 (by omega) ?_|refine wM (tslots_pur kt0) ?_|fail
 refine lpR (fun i:Nat=>[(0,ptr bt 0),(3,ptr n 0),(4,ptr (n+1) 0),(5,ptr (n+1+1) 0),(6,ptr (n+1+1+1) 0),(7,ptr (n+1+1+1+1) 0),(49,c.bv),(50,I64 c.blocks.length),(51,I64 i)])
  (fun i h' n'=>Tch [] h n h' n'∧n+4<n'∧(∃b k,Cel h' (n+1+1+1+1) zMk 0 (mkC3 bt c b k))∧Cel h' (n+1) (3+1) 0 [I64 0]∧Cel h' (n+1+1) (3+1) 0 [I64 0]∧Cel h' (n+1+1+1) (38+1) 0 [I64 0]∧i≤c.blocks.length∧∀(j:Nat) x,j<i→c.blocks[j]? = some x→BlkOK m ns ps c x.2) (fun i=>c.blocks.length - i) 0
  ⟨t0,by omega,⟨_,_,cM0⟩,cA0,cB0,cC0,Nat.zero_le _,fun _ _ hj=>by omega⟩ ?_
 clear t0 kt0 cM0 cA0 cB0 cC0 cK0
 rintro i t h2 n2 ⟨t2,hn2,⟨b,k,cM⟩,cA,cB,cC,hi,hall⟩
 have cm2:=cm.tch t2 hlo;have rb2:=cm2.bl 0;by_cases hlt:i<c.blocks.length
 · have d0:c.blocks[i]? = some c.blocks[i]:=List.getElem?_eq_getElem hlt;generalize c.blocks[i]=x at d0
   have hx:=List.mem_of_getElem? d0;obtain⟨rxI,hxl⟩:=cm2.el x hx;have hmx:=cm.ins x hx;obtain⟨xv,xl⟩:=x;dsimp only at rxI hxl hmx;have rx:=rxI 0;have ox:=rx.one;have d1:zC h2 (sbk c.bv) (sof c.bv+i*1)=some xv:=by rw[Nat.mul_one];exact rb2.at (by rw[List.getElem?_map,d0];rfl)
   have R:∀{b k e:Int},(b=(i:Nat)∧((¬(1≤xl.length∧xl.length≤25600)∧k=0∧e=20)∨((1≤xl.length∧xl.length≤25600)∧∃(q:Nat) (i:InsT),xl[q]? = some i∧
    (∀(q':Nat) i',q'<q→xl[q']? = some i'→insE m ns ps c.slots c.blocks.length i' (decide (q'=xl.length - 1))=0)∧k=(q:Nat)∧e=insE m ns ps c.slots c.blocks.length i (decide (q=xl.length - 1))∧e≠0)))→CodeE m ns ps c b k e:=fun hz=>.inr ⟨h200,.inr ⟨hnm,.inr ⟨⟨hs0,hs1⟩,.inr ⟨hb0,.inr ⟨i,(xv,xl),d0,hall,hz.1,hz.2⟩⟩⟩⟩⟩
   by_cases hln:1≤xl.length∧xl.length≤25600
   rotate_left
   · repeat' first|refine wk ?_|refine cX (fun _=>?_) fun _=>?_|refine needC (bt:=bt) (c:=c) (b:=(i:Nat)) (k:=0) zD (by omega) ?_|fail
     refine uZ (g:=20) (args:=[]) (cap:=[ptr (n+1) 0,ptr (n+2) 0,ptr (n+3) 0]) (wY (b:=(i:Nat)) (k:=0) (by omega) (by omega) (by omega) (by omega) (by omega) (by omega) zG zG zG 20) ?_
     rintro h9 n9 ⟨t9,c91,c92,c93⟩
     have t09:Tch [] h n h9 n9:=Tch.tch t9 zA fun x hx=>.inl (by simp at hx;omega);clear t9;repeat' first|refine wk ?_|refine cX (fun _=>?_) fun _=>?_|fail
     exact⟨_,rfl,(i:Nat),0,20,rfl,R ⟨rfl,.inl ⟨hln,rfl,rfl⟩⟩,t09⟩;refine uZ (g:=20) (args:=[]) (cap:=[ptr (n+1) 0,ptr (n+2) 0,ptr (n+3) 0]) (wY (b:=(i:Nat)) (k:=0) (by omega) (by omega) (by omega) (by omega) (by omega) (by omega) zG zG zG 20) ?_
     rintro h9 n9 ⟨t9,c91,c92,c93⟩
     have t09:Tch [] h n h9 n9:=Tch.tch t9 zA fun x hx=>.inl (by simp at hx;omega);clear t9;repeat' first|refine wk ?_|refine cX (fun _=>?_) fun _=>?_|fail
     exact⟨_,rfl,(i:Nat),0,20,rfl,R ⟨rfl,.inl ⟨hln,rfl,rfl⟩⟩,t09⟩
   · obtain⟨hl1,hl2⟩:=hln;repeat' first|refine wk ?_|refine cX (fun _=>?_) fun _=>?_|refine needC (bt:=bt) (c:=c) (b:=(i:Nat)) (k:=0) zD (by omega) ?_|fail
     refine lpR (fun q:Nat=>[(0,ptr bt 0),(3,ptr n 0),(4,ptr (n+1) 0),(5,ptr (n+1+1) 0),(6,ptr (n+1+1+1) 0),(7,ptr (n+1+1+1+1) 0),(49,c.bv),(50,I64 c.blocks.length),(51,I64 i),(8,I64 i),(9,xv),(73,xv),(74,I64 xl.length),(75,I64 q)])
      (fun q h' n'=>Tch [] h n h' n'∧n+4<n'∧(∃k,Cel h' (n+1+1+1+1) zMk 0 (mkC3 bt c (i:Nat) k))∧Cel h' (n+1) (3+1) 0 [I64 0]∧Cel h' (n+1+1) (3+1) 0 [I64 0]∧Cel h' (n+1+1+1) (38+1) 0 [I64 0]∧q≤xl.length∧∀(q':Nat) y,q'<q→xl[q']? = some y→insE m ns ps c.slots c.blocks.length y (decide (q'=xl.length - 1))=0) (fun q=>xl.length - q) 0
      ⟨zA,by omega,⟨_,zD⟩,zD,zD,zD,Nat.zero_le _,fun _ _ hj=>by omega⟩ ?_
     clear cM cA cB cC
     rintro q t h3 n3 ⟨t3,hn3,⟨k3,cM⟩,cA,cB,cC,hq,hall2⟩
     have rx3:=(cm.tch t3 hlo).el (xv,xl) hx |>.1 0;dsimp only at rx3;by_cases hlt2:q<xl.length
     · have f0:xl[q]? = some xl[q]:=List.getElem?_eq_getElem hlt2;generalize xl[q]=y at f0
       have c3:=yE rx3 f0;have hy:=hmx y (List.mem_of_getElem? f0);have oy:=(hy.ar 0).one;have el:decide ((q:Int)=(xl.length:Int) - 1)=decide (q=xl.length - 1):=decide_eq_decide.2 (by omega);repeat' first|refine wk ?_|refine cX (fun _=>?_) fun _=>?_|fail
       refine mins_K (b:=(i:Nat)) (k:=(q:Nat)) kt ok hon cm hy hlo zA zD (by omega) (fun e h4 n4 t4=>?_) (fun e h4 n4 t4=>?_)
       · have hn4:=t4.le;have cM4:Cel h4 (n+1+1+1+1) zMk 0 (mkC3 bt c (i:Nat) (q:Nat)):=zD;have cA4:Cel h4 (n+1) (3+1) 0 [I64 0]:=zD;have cB4:Cel h4 (n+1+1) (3+1) 0 [I64 0]:=zD;have cC4:Cel h4 (n+1+1+1) (38+1) 0 [I64 0]:=zD;have t04:Tch [] h n h4 n4:=zA;rw [el]at e;clear t4;repeat' first|refine wk ?_|refine cX (fun _=>?_) fun _=>?_|fail
         exact rnd (q+1) ⟨t04,by omega,⟨_,cM4⟩,cA4,cB4,cC4,by omega,fun q' y' hq' f1=>by
          rcases Nat.lt_succ_iff_lt_or_eq.1 hq' with h9|rfl
          · exact hall2 q' y' h9 f1
          · rw[f0]at f1;cases f1;exact e⟩
       · have hn4:=t4.le;have cM4:Cel h4 (n+1+1+1+1) zMk 0 (mkC3 bt c (i:Nat) (q:Nat)):=zD;have cA4:Cel h4 (n+1) (3+1) 0 [I64 0]:=zD;have cB4:Cel h4 (n+1+1) (3+1) 0 [I64 0]:=zD;have cC4:Cel h4 (n+1+1+1) (38+1) 0 [I64 0]:=zD;have t04:Tch [] h n h4 n4:=zA;rw [el]at e ⊢;clear t4;repeat' first|refine wk ?_|refine cX (fun _=>?_) fun _=>?_|fail
         refine uZ (g:=20) (args:=[]) (cap:=[ptr (n+1) 0,ptr (n+2) 0,ptr (n+3) 0]) (wY (b:=(i:Nat)) (k:=(q:Nat)) (by omega) (by omega) (by omega) (by omega) (by omega) (by omega) zG zG zG (insE m ns ps c.slots c.blocks.length y (decide (q=xl.length - 1)))) ?_
         rintro h9 n9 ⟨t9,c91,c92,c93⟩
         have t09:Tch [] h n h9 n9:=Tch.tch t9 zA fun x hx=>.inl (by simp at hx;omega);clear t9;repeat' first|refine wk ?_|refine cX (fun _=>?_) fun _=>?_|fail
         exact⟨_,rfl,(i:Nat),(q:Nat),(insE m ns ps c.slots c.blocks.length y (decide (q=xl.length - 1))),rfl,R ⟨rfl,.inr ⟨⟨hl1,hl2⟩,q,y,f0,hall2,rfl,rfl,e⟩⟩,t09⟩
     · obtain rfl:q=xl.length:=by omega
       repeat' first|refine wk ?_|refine cX (fun _=>?_) fun _=>?_|fail
       exact rnd (i+1) ⟨t3,hn3,⟨_,_,cM⟩,cA,cB,cC,by omega,fun j x' hj f1=>by
        rcases Nat.lt_succ_iff_lt_or_eq.1 hj with h9|rfl
        · exact hall j x' h9 f1
        · rw[d0]at f1;cases f1;exact⟨⟨hl1,hl2⟩,fun q y f2=>hall2 q y (List.getElem?_eq_some_iff.1 f2).1 f2⟩⟩
 · obtain rfl:i=c.blocks.length:=by omega
   repeat' first|refine wk ?_|refine cX (fun _=>?_) fun _=>?_|fail
   refine lv_none (g:=20) (args:=[]) (cap:=[ptr (n+1) 0,ptr (n+2) 0,ptr (n+3) 0]) mchk1_none ?_
   rintro h9 n9 t9
   have cA9:Cel h9 (n+1) (3+1) 0 [I64 0]:=zD;have cB9:Cel h9 (n+1+1) (3+1) 0 [I64 0]:=zD;have cC9:Cel h9 (n+1+1+1) (38+1) 0 [I64 0]:=zD;have t09:Tch [] h n h9 n9:=zA;clear t9;repeat' first|refine wk ?_|refine cX (fun _=>?_) fun _=>?_|fail
   exact⟨_,rfl,0,0,0,rfl,.inr ⟨h200,.inr ⟨hnm,.inr ⟨⟨hs0,hs1⟩,.inr ⟨hb0,.inl ⟨fun j x f1=>hall j x (List.getElem?_eq_some_iff.1 f1).1 f1,rfl,rfl,rfl⟩⟩⟩⟩⟩,t09⟩
end Go.Proofs.YtmccnilgnlaffaaGreatDoor
namespace Go.Ex.M
abbrev tO:Value:=.slice none 0 0
def nam(i:Nat):Tx:=[114,UInt8.ofNat (48+i / 10),UInt8.ofNat (48+i % 10)]
def smR(n:Nat):List RegT:=(List.range n).map fun i=>.mk (nam i) 8 0 tO []
def smN(n:Nat):List Tx:=(List.range n).map nam
def smP(n:Nat):List Pl:=(List.range n).map fun i=>⟨(i:Nat),0,8⟩
def gO:OperT:=⟨[103],[]⟩
def addT:Tx:=[97,100,100]
def notT:Tx:=[110,111,116]
def divT:Tx:=[100,105,118]
structure SmV where
 r:Value
 c:Value
 cr:Value
 o:Value
 u0:Value
 u1:Value
 u2:Value
 a:Value
abbrev smM(v:SmV)(n:Nat)(tie:Int)(fx:Tx):MachT:=⟨[109],v.r,smR n,v.c,[⟨[103],v.cr,smN n⟩],v.o,[⟨addT,gO,v.u0,[gO,gO],tie,tO,[]⟩,⟨notT,gO,v.u1,[gO],-1,tO,[]⟩,⟨divT,gO,v.u2,[gO,⟨[103],fx⟩],-1,tO,[]⟩],v.a,[nam 0],nam 0,tO,[],100⟩
def geoB(n:Nat):Bool:=match geoP (smR n) with
 | .ok s=>decide (s.ns=smN n) && decide (s.ps=smP n)
 | .error _=>false
def regsB(n:Nat):Bool:=decide ([103]∉smN n) && (List.range n).all fun j=>decide (pos (smN n) (nam j)=(j:Nat)) && decide ((xJ (smN n) (smP n) (nam j))=⟨(j:Nat),0,8⟩)
theorem geo_all:∀n∈List.range 41,geoB n=true:=by decide +kernel
theorem regs_all:∀n∈List.range 41,regsB n=true:=by decide +kernel
section
variable {n:Nat}
theorem sm_geo(h:n≤40):geoP (smR n) = .ok ⟨smN n,smP n⟩:=by
 have:=geo_all n (List.mem_range.2 (by omega));unfold geoB at this;split at this
 · rename_i s e;obtain⟨h1,h2⟩:=Bool.and_eq_true_iff.1 this;rw [e,← of_decide_eq_true h1,← of_decide_eq_true h2]
 · cases this
theorem sm_regs(h:n≤40):[103]∉smN n∧∀j,j<n→pos (smN n) (nam j)=(j:Nat)∧xJ (smN n) (smP n) (nam j)=⟨(j:Nat),0,8⟩:=by
 have:=regs_all n (List.mem_range.2 (by omega));obtain⟨h1,h2⟩:=Bool.and_eq_true_iff.1 this;refine⟨of_decide_eq_true h1,fun j hj=>?_⟩;obtain⟨h3,h4⟩:=Bool.and_eq_true_iff.1 (List.all_eq_true.1 h2 j (List.mem_range.2 hj));exact⟨of_decide_eq_true h3,of_decide_eq_true h4⟩
theorem smN_len:(smN n).length=n:=by unfold smN;rw [List.length_map,List.length_range]
theorem smN_at{j:Nat}(h:j<n):(smN n)[j]? = some (nam j):=by unfold smN;rw [List.getElem?_map,List.getElem?_range h];rfl
theorem smN_mem{j:Nat}(h:j<n):nam j∈smN n:=List.mem_of_getElem? (smN_at h)
theorem sm_wd(h:n≤40)(h0:0<n)(cr:Value):wdOf (smN n) (smP n) ⟨[103],cr,smN n⟩=8:=by
 unfold wdOf;dsimp only;split
 · rename_i e;have:=smN_len (n:=n);rw [e]at this;simp at this;omega
 · rename_i r l e;have:=smN_at (n:=n) h0;rw [e]at this;injection this with this
   rw[this,((sm_regs h).2 0 h0).2]
theorem lap_far{i j:Nat}(h:i≠j):lapB ⟨(i:Nat),0,8⟩ ⟨(j:Nat),0,8⟩=false:=decide_eq_false fun⟨h1,_⟩=>h (by dsimp only at h1;omega)
variable {v:SmV} {tie:Int} {fx:Tx}
theorem sm_may(h:n≤40){j:Nat}(hj:j<n){fix:Tx}(hf:fix=[]∨fix=nam j):(⟨(j:Nat),0,8⟩:Pl)∈tL (smM v n tie fx) (smN n) (smP n) ⟨[103],fix⟩:=by
 show _∈((smN n).filter (mayF ⟨[103],fix⟩)).map (xJ (smN n) (smP n));refine List.mem_map.2 ⟨nam j,List.mem_filter.2 ⟨smN_mem hj,?_⟩,((sm_regs h).2 j hj).2⟩;unfold mayF;rcases hf with rfl|rfl
 · rfl
 · simp
theorem sm_fit2(h:n≤40){o:OpT}{u w:OperT}(hu:o.uses=[u,w])(hd:o.d=gO)(hc:o.clob=[])(h0:0<n){i j:Nat}(hi:i<n)(hj:j<n)(hij:i≠j)(h1:u=gO)(h2:w.cls=[103]∧(w.fix=[]∨w.fix=nam j)):fitsB (smM v n tie fx) (smN n) (smP n) o=true:=by
 unfold fitsB chL;rw [hu];dsimp only;obtain⟨wc,wf⟩:=w;obtain⟨h2,h4⟩:=h2;dsimp only at h2 h4;subst h1 h2;refine List.any_eq_true.2 ⟨[⟨(i:Nat),0,8⟩,⟨(j:Nat),0,8⟩],List.mem_flatMap.2 ⟨_,sm_may h hi (.inl rfl),List.mem_map.2 ⟨_,List.mem_filter.2 ⟨sm_may h hj h4,by rw[lap_far hij];rfl⟩,rfl⟩⟩,?_⟩;unfold defB sparB;rw [hc,hd];split
 · rfl
 · exact List.any_eq_true.2 ⟨_,sm_may h h0 (.inl rfl),rfl⟩
theorem sm_ok{f:Nat}(h3:3≤n)(h40:n≤40)(ht: -1≤tie∧tie≤1)(hf:f<n):MOK (smM v n tie (nam f)) (smN n) (smP n):=by
 have hN:=smN_len (n:=n);have hm0:=smN_mem (n:=n) (j:=0) (by omega);obtain⟨hg,hr⟩:=sm_regs h40;refine⟨sm_geo h40,fun e=>?_,.inr ⟨(by decide:1≤64),.inl ⟨rfl,fun i c hc=>?_⟩⟩,.inr ⟨(by decide:3≤64),.inl ⟨rfl,fun i o ho=>?_⟩⟩,?_,⟨fun i o ho=>?_,fun a b ca cb _ e1 e2=>?_⟩,rfl⟩
 · rw[e]at hN;simp at hN;omega
 · match i,hc with
   | 0,hc=>
    injection hc with hc
    subst hc;refine .inl ⟨rfl,⟨rfl,rfl,hg⟩,⟨?_,?_,fun j r hj=>?_⟩⟩
    · show 1≤(smN n).length;omega
    · show(smN n).length≤64;omega
    · have hlt:=(List.getElem?_eq_some_iff.1 hj).1;have hlt:j<(smN n).length:=hlt;have hj:(smN n)[j]? = some r:=hj;rw [hN]at hlt;rw [smN_at hlt]at hj;injection hj with hj
      subst hj;exact⟨smN_mem hlt,(hr j hlt).1,by rw[(hr j hlt).2,sm_wd h40 (by omega)]⟩
   | i+1,hc=>simp at hc
 · match i,ho with
   | 0,ho=>
    injection ho with ho
    subst ho;refine .inl ⟨rfl,⟨(by decide:0<arity addT),rfl⟩,⟨rfl,rfl,fun j u hu=>?_,ht.1,?_,fun h0=>?_,Nat.zero_le _,fun j r hj=>?_⟩⟩
    · match j,hu with
      | 0,hu=>injection hu with hu;subst hu;exact⟨rfl,rfl⟩
      | 1,hu=>injection hu with hu;subst hu;exact⟨rfl,rfl⟩
      | j+2,hu=>simp at hu
    · show tie<2;omega
    · have h0:0≤tie:=h0;have:tie=0∨tie=1:=by omega
      rcases this with rfl|rfl <;> rfl
    · simp at hj
   | 1,ho=>
    injection ho with ho
    subst ho;refine .inl ⟨rfl,⟨(by decide:0<arity notT),rfl⟩,⟨rfl,rfl,fun j u hu=>?_,(by decide:(-1:Int)≤-1),(by decide:(-1:Int)<1),fun h0=>absurd h0 (by decide:¬(0:Int)≤-1),Nat.zero_le _,fun j r hj=>?_⟩⟩
    · match j,hu with
      | 0,hu=>injection hu with hu;subst hu;exact⟨rfl,rfl⟩
      | j+1,hu=>simp at hu
    · simp at hj
   | 2,ho=>
    injection ho with ho
    subst ho;refine .inl ⟨rfl,⟨(by decide:0<arity divT),rfl⟩,⟨rfl,rfl,fun j u hu=>?_,(by decide:(-1:Int)≤-1),(by decide:(-1:Int)<2),fun h0=>absurd h0 (by decide:¬(0:Int)≤-1),Nat.zero_le _,fun j r hj=>?_⟩⟩
    · match j,hu with
      | 0,hu=>injection hu with hu;subst hu;exact⟨rfl,rfl⟩
      | 1,hu=>
       injection hu with hu
       subst hu;refine⟨?_,rfl⟩;show(decide (nam f=[]) || decide (nam f∈smN n))=true;rw [decide_eq_true (smN_mem hf)];simp
      | j+2,hu=>simp at hu
    · simp at hj
   | i+3,ho=>simp at ho
 · refine⟨⟨(by decide:((1:Nat):Int)≤16),fun i x hi=>?_⟩,hm0,⟨(by decide:((0:Nat):Int)≤64),fun i x hi=>by simp at hi⟩,fun i x hi=>by simp at hi,(by decide:(0:Int)≤100),(by decide:(100:Int)≤1000),fun i x hi=>?_⟩
   · match i,hi with
     | 0,hi=>injection hi with hi;subst hi;exact⟨hm0,fun j _ hj=>absurd hj (Nat.not_lt_zero _)⟩
     | i+1,hi=>simp at hi
   · have hx:x=nam 0:=by
      match i,hi with
      | 0,hi=>injection hi with hi;exact hi.symm
      | 1,hi=>injection hi with hi;exact hi.symm
      | i+2,hi=>simp at hi
     subst hx;show(decide (nam 0∈smN n) || false)=true;rw [decide_eq_true hm0];rfl
 · match i,ho with
   | 0,ho=>
    injection ho with ho
    subst ho;exact sm_fit2 h40 rfl rfl rfl (by omega) (i:=0) (j:=1) (by omega) (by omega) (by decide) rfl ⟨rfl,.inl rfl⟩
   | 1,ho=>
    injection ho with ho
    subst ho;unfold fitsB;refine List.any_eq_true.2 ⟨[⟨(0:Nat),0,8⟩],List.mem_map.2 ⟨_,sm_may h40 (j:=0) (by omega) (.inl rfl),rfl⟩,?_⟩;exact List.any_eq_true.2 ⟨_,sm_may h40 (j:=0) (by omega) (.inl rfl),rfl⟩
   | 2,ho=>
    injection ho with ho
    subst ho;by_cases h0:f=0
    · exact sm_fit2 h40 rfl rfl rfl (by omega) (i:=1) (j:=f) (by omega) (by omega) (by omega) rfl ⟨rfl,.inr rfl⟩
    · exact sm_fit2 h40 rfl rfl rfl (by omega) (i:=0) (j:=f) (by omega) (by omega) (by omega) rfl ⟨rfl,.inr rfl⟩
   | i+3,ho=>simp at ho
 · have hc:∀{i:Nat} {c:ClassT},(smM v n tie (nam f)).classes[i]? = some c→c.name=[103]:=fun {i c} hc=>by
    match i,hc with
    | 0,hc=>injection hc with hc;rw [← hc]
    | i+1,hc=>simp at hc
   rw[hc e1,hc e2];exact List.any_eq_true.2 ⟨_,sm_may h40 (j:=0) (by omega) (.inl rfl),List.any_eq_true.2 ⟨_,sm_may h40 (j:=1) (by omega) (.inl rfl),by rw[lap_far (by decide)];rfl⟩⟩
end
end Go.Ex.M
