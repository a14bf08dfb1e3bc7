/- What the law leans on: an executor of the model that is sound, deduction over it, and the walks through the code (part 5 of 24). Conditions: those that each theorem states. -/
import Derived.Test.YtdipdkkpgjdnkaaGreatDoorVirLinesx4
import Derived.Laws.CopyRow

set_option linter.unusedVariables false
set_option linter.unusedSimpArgs false
namespace Go.Ex
theorem uC{c:Tr Value}{i:Nat}{l:List Value}{k:Tr Value→Bool}(h:wG c i l k=true) :
 (∀v∈l,v.oneCell'=true)∧k (Tr.ofListFrom undef c i l)=true:=by
 induction l generalizing c i with
 | nil=>exact⟨fun _ h=>by simp at h,h⟩
 | cons v r ih =>
  have h':(forceOne v fun v=>c.setK undef v i fun c'=>wG c' (Nat.succ i) r k)=true:=h;obtain⟨h1,h2⟩:=forceOne_true h';rw [Tr.setK_eq]at h2;obtain⟨h3,h4⟩:=ih h2
  exact⟨fun x hx=>by
   rcases List.mem_cons.1 hx with rfl|hx
   · exact h1
   · exact h3 x hx,h4⟩
theorem yJ(h:zB)(n:Nat)(o:AObj)(k:zB→Nat→Bool):zV h n o k=k (h.set .dead o n) (n+1):=by
 unfold zV;rw [Tr.setK_eq]
def Res(r:Result Next)(v:Value)(w:World):Prop:=r = .ok (.value v) w∨(r = .ok .skip w∧v=undef)
section
variable (P:Program) (ng:Nat)
def OpsR(ρ : Inj)(t:Fr)(a:Act)(o:Oper):Prop:=∀x,x∈o.op.operands.toList→RV ρ (ev t x) (a.eval x)
def EffVal(o:Oper)(t:Fr)(w:W)(v:Value)(w':W):Prop:=
 w'.d=w.d∧w'.u=w.u∧∀(ρ : Inj) (base:Nat) (w0:World) (a:Act) (wd:World),OpsR ρ t a o→HeapR P ng ρ base w0 w.h w.n wd→
  ∃ρ' v' wd',Res ((execOp a.eval o).run P wd) v' wd'∧RV ρ' v v'∧HeapR P ng ρ' base w0 w'.h w'.n wd'∧Grow ρ w.h w.n wd ρ' w'.h w'.n wd'
variable {P ng} {t:Fr} {w:W}
variable (P ng) in
def NewVal(o:Oper)(t:Fr)(v:Nat→Value)(ob:AObj):Prop:=
 ∀(ρ : Inj) (base:Nat) (w0:World) (a:Act) (wd:World) (h:zB) (n:Nat),OpsR ρ t a o→HeapR P ng ρ base w0 h n wd→
  ∃(B:Bl) (o':Obj) (v':Value),B.b=wd.heap.size∧(execOp a.eval o).run P wd = .ok (.value v') { wd with heap:=wd.heap.push o' }∧RV (ρ.put n B) (v n) v'∧ObjR P ng (ρ.put n B) base B ob o'
theorem NewVal.eff{o:Oper}{v:Nat→Value}{ob:AObj}(hn:NewVal P ng o t v ob):EffVal P ng o t w (v w.n) (W.mk w.d w.u (w.h.set .dead ob w.n) (w.n+1)):=by
 refine⟨rfl,rfl,fun ρ base w0 a wd hT hH=>?_⟩;obtain⟨B,o',v',h1,h2,h3,h4⟩:=hn ρ base w0 a wd w.h w.n hT hH;obtain⟨h5,h6⟩:=hH.alloc ob o' B h1 h4;exact⟨_,v',_,.inl h2,h3,h5,h6⟩
theorem effVal_quiet(hP:yH ng P=true){o:Oper}{v:Value}(h:xB o.op P t w.h=some v):EffVal P ng o t w v w:=by
 refine⟨rfl,rfl,fun ρ base w0 a wd hT hH=>?_⟩;obtain⟨v',e1,e2⟩:=quiet_ok hP hH hT h;exact⟨ρ,v',wd,.inl e1,e2,hH,Grow.refl _ _ _ _ hH.dom⟩
theorem HeapR.newRowT{ρ : Inj}{base:Nat}{w0:World}{h:zB}{n:Nat}{wd:World}(r:HeapR P ng ρ base w0 h n wd){cs:List Value}{cs':Array Value}(hc:RVs ρ cs cs'.toList)(el:TypeId){z:Nat}(hz0:z≠0→z=el+1) :
 ObjR P ng (ρ.put n ⟨wd.heap.size,cs'.size,0⟩) base ⟨wd.heap.size,cs'.size,0⟩ (.cells (Tr.ofListFrom undef .lF 0 cs) cs.length z 0) (.cells cs' el (0,0)):=by
 have hle:=Inj.le_put (⟨wd.heap.size,cs'.size,0⟩:Bl) (r.dom n (Nat.le_refl _));have hl:cs.length=cs'.size:=by have:=hc.1;simpa using this
 exact .cells (by show cs.length≤cs'.size;omega) rfl (fun _=>hl) ⟨fun h=>absurd h (by decide),fun _ h=>hz0 h⟩ (fun i v' hi e=>by
  rw[Tr.get_ofListFrom,if_pos (by omega)];have e1:cs[i]? = some (cs.getD (i - 0) undef):=by simp[List.getElem?_eq_getElem hi]
  exact(hc.2 i _ v' e1 (by simpa using e)).mono hle) (fun _=>r.size) (fun _=>⟨rfl,rfl⟩)
theorem HeapR.newRow{ρ : Inj}{base:Nat}{w0:World}{h:zB}{n:Nat}{wd:World}(r:HeapR P ng ρ base w0 h n wd){cs:List Value}{cs':Array Value}(hc:RVs ρ cs cs'.toList)(el:TypeId) :
 ObjR P ng (ρ.put n ⟨wd.heap.size,cs'.size,0⟩) base ⟨wd.heap.size,cs'.size,0⟩ (.cells (Tr.ofListFrom undef .lF 0 cs) cs.length 0 0) (.cells cs' el (0,0)):=r.newRowT hc el fun h=>absurd rfl h
theorem yS(ρ : Inj)(n:Nat)(B:Bl):(ρ.put n B) n=some B:=by simp[Inj.put]
theorem xL(w:W)(f:zB→Nat→(zB→Nat→W)→Bool):xK w f=f w.h w.n (W.mk w.d w.u):=by cases w;rfl
theorem alloc_ok(hP:yH ng P=true){o:Oper}{el:TypeId}(hop:o.op = .alloc el){lo:Lo}{cx:Cx}{k:KV}{kp:KP}(h:eff o.op P lo cx t w k kp=true) :
 ∃v ob,NewVal P ng o t v ob∧k (W.mk w.d w.u (w.h.set .dead ob w.n) (w.n+1)) (v w.n)=true:=by
 rw[hop]at h;have h':(xK w fun h n mk=>Option.rec false (fun z=>zV h n (mkCellsT (cellsOf z) el) fun h' n'=>k (mk h' n') (.pointer (some ⟨n,0,none⟩))) (yT P el))=true:=h;rw [xL]at h'
 cases hz:yT P el with
 | none=>rw [hz]at h';cases h'
 | some z=>
  rw[hz]at h';have h2:zV w.h w.n (mkCellsT (cellsOf z) el) (fun h' n'=>k (W.mk w.d w.u h' n') (.pointer (some ⟨w.n,0,none⟩)))=true:=h';rw [yJ]at h2;refine⟨fun n=>.pointer (some ⟨n,0,none⟩),_,fun ρ base w0 a wd h n hT hH=>?_,h2⟩;refine⟨_,_,.pointer (some ⟨wd.heap.size,0,none⟩),rfl,?_,?_,hH.newRowT (RV.cells (RV.plain (wI hP hz) ρ)) el fun _=>rfl⟩
  · simp[execOp,hop,Instr.alloc,wA hz,newVar,newRow]
  · exact RV.ptr (B:=⟨wd.heap.size,z.cells.size,0⟩) (yS _ _ _)
theorem box_ok{o:Oper}{el:TypeId}{x:Operand}(hop:o.op = .box el x){lo:Lo}{cx:Cx}{k:KV}{kp:KP}(h:eff o.op P lo cx t w k kp=true) :
 ∃v ob,NewVal P ng o t v ob∧k (W.mk w.d w.u (w.h.set .dead ob w.n) (w.n+1)) (v w.n)=true:=by
 rw[hop]at h
 have h':(xK w fun h n mk=>wG .lF 0 (cellsOf (ev t x)) fun c=>
  zV h n (.cells c (cellsOf (ev t x)).length (Nat.succ el) 0) fun h' n'=>k (mk h' n') (.pointer (some ⟨n,0,none⟩)))=true:=h
 rw[xL]at h';obtain⟨_,h2⟩:=uC h';rw [yJ]at h2;refine⟨fun n=>.pointer (some ⟨n,0,none⟩),_,fun ρ base w0 a wd h n hT hH=>?_,h2⟩;have hx:RV ρ (ev t x) (a.eval x):=hT x ((by simp[hop,Op.operands]));refine⟨_,_,.pointer (some ⟨wd.heap.size,0,none⟩),rfl,?_,?_,hH.newRowT hx.cells el fun _=>rfl⟩
 · simp[execOp,hop,Instr.box,newVar,newRow]
 · exact RV.ptr (B:=⟨wd.heap.size,(a.eval x).cells.size,0⟩) (yS _ _ _)
theorem wC(z:List Value):∀k,(rep z k).length=k*z.length:=by
 intro k
 induction k with
 | zero=>simp [rep]
 | succ k ih=>simp [rep,ih,Nat.succ_mul];omega
theorem rep_get(z:List Value):∀(k j:Nat),j<k*z.length→(rep z k)[j]? = z[j % z.length]? :=by
 intro k
 induction k with
 | zero=>intro j h;simp at h
 | succ k ih=>
  intro j h;rw [rep,List.getElem?_append];by_cases hj:j<z.length
  · rw[if_pos hj,Nat.mod_eq_of_lt hj]
  · rw[if_neg hj];have hj':z.length≤j:=by omega
    have:j - z.length<k*z.length:=by rw[Nat.succ_mul]at h;omega
    rw[ih _ this];congr 1
    conv=>rhs;rw [← Nat.sub_add_cancel hj',Nat.add_mod_right]
theorem made_eq(z:Array Value)(k:Nat)(hz:1≤z.size):((Array.range (k*z.size)).map (fun i=>z[i % z.size]!)).toList=rep z.toList k:=by
 apply List.ext_getElem?;intro j;by_cases hj:j<k*z.size
 · have hm:j % z.size<z.size:=Nat.mod_lt _ (by omega);have h2:j<k*z.toList.length:=by simpa using hj
   rw[rep_get _ _ _ h2];simp [hj,hm]
 · have h2:(rep z.toList k).length≤j:=by rw[wC];simp;omega
   rw[List.getElem?_eq_none h2];rw [List.getElem?_eq_none (by simp;omega)]
theorem buildSlice_ok(hP:yH ng P=true){o:Oper}{ty:TypeId}{len:Nat}{parts:Array (Nat×Operand)}(hop:o.op = .buildSlice ty len parts){lo:Lo}{cx:Cx}{k:KV}{kp:KP}
   (h:eff o.op P lo cx t w k kp=true):∃v ob,NewVal P ng o t v ob∧k (W.mk w.d w.u (w.h.set .dead ob w.n) (w.n+1)) (v w.n)=true:=by
  rw[hop]at h
  have h':(xK w fun h n mk=>Option.rec false (fun ob=>zV h n ob fun h' n'=>k (mk h' n') (.slice (some ⟨n,0,none⟩) len len))
      (xW P ty len (parts.toList.map fun p=>(p.1,ev t p.2))))=true:=h
  rw[xL]at h'
  cases hb:xW P ty len (parts.toList.map fun p=>(p.1,ev t p.2)) with
  | none=>rw [hb]at h';cases h'
  | some ob =>
    rw[hb]at h';have h2:zV w.h w.n ob (fun h' n'=>k (W.mk w.d w.u h' n') (.slice (some ⟨w.n,0,none⟩) len len))=true:=h';rw [yJ]at h2;refine⟨fun n=>.slice (some ⟨n,0,none⟩) len len,_,fun ρ base w0 a wd h n hT hH=>?_,h2⟩;unfold xW at hb;split at hb
    case h_2=>cases hb
    rename_i e hd;split at hb
    case h_2=>cases hb
    rename_i z ei hz hi
    cases hc:(Nat.ble 1 ei.size && Nat.beq (cellsOf z).length ei.size && Nat.ble (Nat.mul len ei.size) 16777216) with
    | false=>rw [hc]at hb;cases hb
    | true =>
      rw[hc]at hb;dsimp only[cond]at hb;obtain⟨hc1,hc3⟩:=Bool.and_eq_true_iff.1 hc;obtain⟨hc1,hc2⟩:=Bool.and_eq_true_iff.1 hc1;have hc1:=yQ hc1;have hc2:=zG hc2;have hc3:len*ei.size≤16777216:=yQ hc3;split at hb
      case h_2=>cases hb
      rename_i cs hf;injection hb with hb
      subst hb;have hzc:=RV.cells (RV.plain (wI hP hz) ρ);have hzs:z.cells.size=ei.size:=by have:=hzc.1;simp at this;omega
      have hps:PsR ρ (parts.toList.map fun p=>(p.1,ev t p.2)) (parts.toList.map fun p=>(p.1,a.eval p.2)):=
        PsR.map _ _ _ fun p hp=>hT p.2 ((by
          simp only[hop,Op.operands,List.mem_map];exact⟨p,hp,rfl⟩))
      have hzz:cellsOf z=z.cells.toList:=by cases z <;> rfl
      have hrep:RVs ρ (rep (cellsOf z) len) ((Array.range (len*ei.size)).map (fun i=>z.cells[i % z.cells.size]!)).toList:=by
        have:=made_eq z.cells len (by omega);rw [hzs]at this ⊢;rw [this,← hzz];refine⟨rfl,fun i v v' e1 e2=>?_⟩;rw [e1]at e2;injection e2 with e2;subst e2
        have hlt:i<len*(cellsOf z).length:=by
          rcases Nat.lt_or_ge i (rep (cellsOf z) len).length with h1|h1
          · rwa [wC]at h1
          · rw[List.getElem?_eq_none h1]at e1;cases e1
        rw[rep_get _ _ _ hlt]at e1;exact hzc.2 _ v v e1 (by rw[← hzz];exact e1)
      obtain⟨r',f1,f2⟩:=fill_ok (fun i=>some (Nat.mul i ei.size,ei.size)) hps hrep hf;refine⟨_,_,.slice (some ⟨wd.heap.size,0,none⟩) len len,rfl,?_,?_,hH.newRow f2 e⟩
      · have hbig : ¬ (len * ei.size > 2 ^ 24) := by have : (2 : Nat) ^ 24 = 16777216 := by decide
                                                     omega
        have hpm:(parts.map fun(x:Nat×Operand)=>(x.1,a.eval x.2)).toList=parts.toList.map fun p=>(p.1,a.eval p.2):=by simp
        have f1':Instr.fill (fun i=>some (i*ei.size,ei.size)) ((Array.range (len*ei.size)).map (fun i=>z.cells[i % z.cells.size]!)) (parts.toList.map fun p=>(p.1,a.eval p.2))=some r':=f1;simp only[execOp,hop,Instr.buildSlice,Sem.run_bind,zM hd,Result.andThen_ok,yN hi,if_neg hbig,hpm];by_cases hz0:len*ei.size=0
        · have hl0:len=0:=by
            rcases Nat.mul_eq_zero.1 hz0 with h0|h0
            · exact h0
            · omega
          subst hl0;simp only[Nat.zero_mul]at f1' ⊢;have e0:∀f:Nat→Value,(Array.range 0).map f = #[]:=fun f=>by simp
          rw[e0]at f1';simp only[if_true,Sem.run_bind,Sem.run_pure,Result.andThen_ok,e0,f1'];simp [newRow]
        · simp only[if_neg hz0,Sem.run_bind,wA hz,Result.andThen_ok,Sem.run_pure,f1'];simp [newRow]
      · refine RV.slice (B:=⟨wd.heap.size,r'.size,0⟩) (yS _ _ _) ?_ (Nat.le_refl _) (.inl rfl);intro hinf;rw [hinf]at hc3;have:inf*ei.size≥inf:=Nat.le_mul_of_pos_right _ (by omega);have h9:inf=1000000000000000000:=rfl;omega
theorem makeSlice_ok(hP:yH ng P=true){o:Oper}{ty:TypeId}{l c:Operand}(hop:o.op = .makeSlice ty l c){lo:Lo}{cx:Cx}{k:KV}{kp:KP}
(h:eff o.op P lo cx t w k kp=true):∃v ob,NewVal P ng o t v ob∧k (W.mk w.d w.u (w.h.set .dead ob w.n) (w.n+1)) (v w.n)=true:=by
 rw[hop]at h
 have h':(xK w fun h n mk=>match wT P ty (ev t l) (ev t c) with
  | some (ob,i,m)=>zV h n ob fun h' n'=>k (mk h' n') (.slice (some ⟨n,0,none⟩) i m)
  | none=>false)=true:=h
 rw[xL]at h'
 cases hb:wT P ty (ev t l) (ev t c) with
 | none=>rw [hb]at h';cases h'
 | some p =>
  obtain⟨ob,i,m⟩:=p;rw [hb]at h';have h2:zV w.h w.n ob (fun h' n'=>k (W.mk w.d w.u h' n') (.slice (some ⟨w.n,0,none⟩) i m))=true:=h';rw [yJ]at h2;refine⟨fun n=>.slice (some ⟨n,0,none⟩) i m,_,fun ρ base w0 a wd h n hT hH=>?_,h2⟩;have hl:=hT l ((by simp[hop,Op.operands]));have hc:=hT c ((by simp[hop,Op.operands]));unfold wT at hb;split at hb
  case h_2=>cases hb
  rename_i e i2 m2 hd hnl hnc;obtain⟨k1,hlk⟩:=natOf_some hnl;obtain⟨k2,hck⟩:=natOf_some hnc;rw [hlk]at hl;rw [hck]at hc;have hl:=hl.of_int;have hc:=hc.of_int;split at hb
  case h_2=>cases hb
  rename_i z ei hz hi
  cases hcn:(Nat.ble 1 ei.size && Nat.beq (cellsOf z).length ei.size && Nat.ble i2 m2 && Nat.blt m2 100000 && Nat.blt ei.bytes 100000) with
  | false=>rw [hcn]at hb;cases hb
  | true =>
   rw[hcn]at hb;dsimp only[cond]at hb;injection hb with hb
   injection hb with hb1 hb2
   injection hb2 with hb2 hb3
   subst hb1 hb2 hb3;obtain⟨hcn,q5⟩:=Bool.and_eq_true_iff.1 hcn;obtain⟨hcn,q4⟩:=Bool.and_eq_true_iff.1 hcn;obtain⟨hcn,q3⟩:=Bool.and_eq_true_iff.1 hcn;obtain⟨q1,q2⟩:=Bool.and_eq_true_iff.1 hcn;have q1:=yQ q1;have q2:=zG q2;have q3:=yQ q3;have q4:=zY q4;have q5:=zY q5;have hzc:=RV.cells (RV.plain (wI hP hz) ρ);have hzs:z.cells.size=ei.size:=by have:=hzc.1;simp at this;omega
   have hzz:cellsOf z=z.cells.toList:=by cases z <;> rfl
   have hrep:RVs ρ (rep (cellsOf z) m2) ((Array.range (m2*ei.size)).map (fun i=>z.cells[i % z.cells.size]!)).toList:=by
    have:=made_eq z.cells m2 (by omega);rw [hzs]at this ⊢;rw [this,← hzz];refine⟨rfl,fun i v v' e1 e2=>?_⟩;rw [e1]at e2;injection e2 with e2;subst e2
    have hlt:i<m2*(cellsOf z).length:=by
     rcases Nat.lt_or_ge i (rep (cellsOf z) m2).length with h1|h1
     · rwa [wC]at h1
     · rw[List.getElem?_eq_none h1]at e1;cases e1
    rw[rep_get _ _ _ hlt]at e1;exact hzc.2 _ v v e1 (by rw[← hzz];exact e1)
   refine⟨_,_,.slice (some ⟨wd.heap.size,0,none⟩) i2 m2,rfl,?_,?_,hH.newRow hrep e⟩
   · have w1:IntKind.i64.wrap ((m2:Nat):Int)=(m2:Int):=IntWalk.i64_in _ (by omega);have w2:IntKind.i64.wrap ((i2:Nat):Int)=(i2:Int):=IntWalk.i64_in _ (by omega);have b1:ei.bytes*m2≤100000*100000:=Nat.mul_le_mul (by omega) (by omega);have b2:ei.bytes*i2≤100000*100000:=Nat.mul_le_mul (by omega) (by omega)
     have t1:¬(((ei.bytes:Nat):Int)*(m2:Int) > 2 ^ 48):=by
      have:((ei.bytes*m2:Nat):Int)≤10000000000:=by omega
      have e:((ei.bytes:Nat):Int)*(m2:Int)=((ei.bytes*m2:Nat):Int):=by push_cast;rfl
      rw[e];have:(2:Int) ^ 48=281474976710656:=by decide
      omega
     have n1:¬((m2:Int)<0):=by omega
     have n2:¬((i2:Int)<0):=by omega
     have n3:¬((i2:Int) > (m2:Int)):=by omega
     have hm':a.eval c = .int k2 (m2:Int):=hc;have hl':a.eval l = .int k1 (i2:Int):=hl;simp only[execOp,hop,Instr.makeSlice,Sem.run_bind,zM hd,Result.andThen_ok,hm',hl',asInt,asIntOf,Sem.run_pure,runTI (yX hi).2,w1,w2];simp only[n1,n2,n3,t1,decide_false,Bool.false_or,Bool.or_self,Bool.false_eq_true,if_false,Sem.run_bind,run_askRoom,Result.andThen_ok,yN hi,Int.toNat_natCast];by_cases hz0:m2*ei.size=0
     · have e00:Array.range 0 = #[]:=rfl;simp only[hz0,if_true,Sem.run_bind,Sem.run_pure,Result.andThen_ok];simp [newRow,e00]
     · simp only[if_neg hz0,Sem.run_bind,wA hz,Result.andThen_ok,Sem.run_pure];simp [newRow]
   · refine RV.slice (B:=⟨wd.heap.size,_,0⟩) (yS _ _ _) ?_ q3 (.inl rfl);intro hinf;rw [hinf]at q4;have h9:inf=1000000000000000000:=rfl;omega
theorem makeMap_ok{o:Oper}{ty:TypeId}{r:Option Operand}(hop:o.op = .makeMap ty r){lo:Lo}{cx:Cx}{k:KV}{kp:KP}
(h:eff o.op P lo cx t w k kp=true):∃v ob,NewVal P ng o t v ob∧k (W.mk w.d w.u (w.h.set .dead ob w.n) (w.n+1)) (v w.n)=true:=by
 rw[hop]at h
 cases r with
 | some r=>
  have h':(xK w fun _ _ _=>false)=true:=h;rw [xL]at h';cases h'
 | none=>
  have h':(xK w fun h n mk=>zV h n (.map [] 0) fun h' n'=>k (mk h' n') (.map (some n)))=true:=h;rw [xL,yJ]at h';refine⟨fun n=>.map (some n),_,fun ρ base w0 a wd h n hT hH=>?_,h'⟩;refine⟨⟨wd.heap.size,0,0⟩,.map #[] 0,.map (some wd.heap.size),rfl,?_,?_,.map ⟨rfl,fun i e e' h=>by simp at h⟩ hH.size⟩
  · simp[execOp,hop,Instr.makeMap]
  · exact RV.map (B:=⟨wd.heap.size,0,0⟩) (yS _ _ _)
theorem storeAt_ok{h:zB}{b off:Nat}{vs:List Value}{k:zB→Bool}(hs:storeAt h b off vs k=true) :
 ∃h',k h'=true∧(∀v∈vs,v.oneCell'=true)∧(∃c m z kd,zF h b = .cells c m z kd∧off+vs.length≤m∧h'=h.set .dead (.cells (Tr.ofListFrom undef c off vs) m z kd) b)∧
  ∀(n:Nat) (ρ : Inj) (base:Nat) (w0 wd:World) (B:Bl) (vs':List Value),HeapR P ng ρ base w0 h n wd→ρ b=some B→RVs ρ vs vs'→
   ∃wd',(storeCells ⟨B.b,off,none⟩ vs').run P wd = .ok () wd'∧HeapR P ng ρ base w0 h' n wd'∧Grow ρ h n wd ρ h' n wd':=by
 unfold storeAt at hs;rcases onCells_some hs with⟨c,m,z,kd,hg,h1⟩|h1
 case inr=>cases h1
 cases hk:Nat.beq kd 2 with
 | true=>rw [hk]at h1;cases h1
 | false =>
  rw[hk]at h1
  cases hle:Nat.ble (Nat.add off vs.length) m with
  | false=>rw [hle]at h1;cases h1
  | true =>
   rw[hle]at h1;have h2:wG c off vs (fun c'=>h.setK .dead (.cells c' m z kd) b k)=true:=h1;obtain⟨hone,h3⟩:=uC h2;rw [Tr.setK_eq]at h3;have hfit:off+vs.length≤m:=yQ hle;refine⟨_,h3,hone,⟨c,m,z,kd,hg,hfit,rfl⟩,?_⟩;intro n ρ base w0 wd B vs' hH hb hv;have hkd:kd≠2:=fun e=>by subst e;cases hk
   obtain⟨o,e1,e2⟩:=hH.obj b B hb (by rw[hg];exact AObj.noConfusion);rw [hg]at e2
   cases e2 with
   | cells hn hs' hk' hz' hv' hb' hf =>
    rename_i c' el l0 h0;obtain⟨rfl,rfl⟩:=hf hkd;have hlen:vs'.length=vs.length:=hv.1.symm
    have hone':∀v∈vs',v.oneCell'=true:=by
     intro v' hm;obtain⟨i,hi⟩:=List.mem_iff_getElem?.1 hm
     have hlt:i<vs.length:=by
      rcases Nat.lt_or_ge i vs'.length with h5|h5
      · omega
      · rw[List.getElem?_eq_none h5]at hi;cases hi
     have:=hv.2 i vs[i] v' (List.getElem?_eq_getElem hlt) hi;exact this.one (hone _ (List.getElem_mem hlt))
    have hst:=run_storeCells_at P B.b off el vs' 0 c' wd e1 (by omega) hone';refine⟨_,hst,?_⟩;refine hH.turn hb (by rw[hg];exact AObj.noConfusion) _ (.cells (c'.toList.take (off+0)++vs'++c'.toList.drop (off+0+vs'.length)).toArray el (0,0)) _ (hb' hkd) ?_ (setRow_heap wd B.b c' _ el _ e1) ?_ (fun x hx=>setRow_other wd B.b x _ hx) rfl rfl rfl
    · have hsz:(c'.toList.take (off+0)++vs'++c'.toList.drop (off+0+vs'.length)).length=c'.size:=by simp;omega
      refine .cells hn (by simpa using hsz.trans hs') hk' hz' (fun i v' hi e=>?_) hb' (fun _=>⟨rfl,rfl⟩);rw [Tr.get_ofListFrom];have e':(c'.toList.take (off+0)++vs'++c'.toList.drop (off+0+vs'.length))[i]? = some v':=by simpa using e
      by_cases h6:off≤i∧i<off+vs.length
      · rw[if_pos h6];rw [List.append_assoc,List.getElem?_append_right (by simp;omega),List.getElem?_append_left (by simp;omega)]at e';have hi2:i - (c'.toList.take (off+0)).length=i - off:=by simp;omega
        rw[hi2]at e';have hlt:i - off<vs.length:=by omega
        have:vs[i - off]? = some (vs.getD (i - off) undef):=by simp[List.getElem?_eq_getElem hlt]
        exact hv.2 _ _ v' this e'
      · rw[if_neg h6];apply hv' i v' hi;by_cases h7:i<off
        · rw[List.append_assoc,List.getElem?_append_left (by simp;omega),List.getElem?_take_of_lt (by omega)]at e';simpa using e'
        · rw[List.getElem?_append_right (by simp;omega),List.getElem?_drop]at e';have:off+0+vs'.length+(i - (c'.toList.take (off+0)++vs').length)=i:=by simp;omega
          rw[this]at e';simpa using e'
    · simp[World.setRow]
theorem store_ok{o:Oper}{ty:TypeId}{x v:Operand}(hop:o.op = .store ty x v){lo:Lo}{cx:Cx}{k:KV}{kp:KP}
(h:eff o.op P lo cx t w k kp=true):∃w' v,EffVal P ng o t w v w'∧k w' v=true:=by
 rw[hop]at h
 have h':(xK w fun h n mk=>onPtr (ev t x) (fun b off=>Sh.rec false
  (Bool.rec false (storeAt h b off (cellsOf (ev t v)) fun h'=>k (mk h' n) undef) (Nat.beq (cellsOf (ev t v)).length 1))
  (fun sz=>Bool.rec false (storeAt h b off (cellsOf (ev t v)) fun h'=>k (mk h' n) undef) (Nat.beq (cellsOf (ev t v)).length sz)) (yM P ty)) false)=true:=h
 rw[xL]at h';rcases uM h' with⟨b,off,hx,h2⟩|h2
 case inr=>cases h2
 have key:∃i,inf? P ty=some i∧(cellsOf (ev t v)).length=i.size∧storeAt w.h b off (cellsOf (ev t v)) (fun h'=>k (W.mk w.d w.u h' w.n) undef)=true:=by
  cases hs:yM P ty with
  | bad=>rw [hs]at h2;cases h2
  | scal=>
   rw[hs]at h2;obtain⟨d,i,_,_,hi,h1⟩:=shape_scal hs
   cases hl:Nat.beq (cellsOf (ev t v)).length 1 with
   | false=>rw [hl]at h2;cases h2
   | true=>rw [hl]at h2;exact⟨i,hi,by rw[h1];exact zG hl,h2⟩
  | agg sz=>
   rw[hs]at h2;dsimp only at h2;obtain⟨d,i,_,_,hi,h1⟩:=shape_agg hs
   cases hl:Nat.beq (cellsOf (ev t v)).length sz with
   | false=>rw [hl]at h2;cases h2
   | true=>rw [hl]at h2;exact⟨i,hi,by rw[h1];exact zG hl,h2⟩
 obtain⟨i,hi,hlen,h3⟩:=key;obtain⟨h',e1,_,_,e2⟩:=storeAt_ok (P:=P) (ng:=ng) h3;refine⟨W.mk w.d w.u h' w.n,undef,⟨rfl,rfl,fun ρ base w0 a wd hT hH=>?_⟩,e1⟩;have hxr:=hT x ((by simp[hop,Op.operands]));have hvr:=hT v ((by simp[hop,Op.operands]));rw [hx]at hxr;obtain⟨B,hb,_,hx'⟩:=hxr.of_ptr;obtain⟨wd',f1,f2,f3⟩:=e2 w.n ρ base w0 wd B (a.eval v).cells.toList hH hb hvr.cells;refine⟨ρ,undef,wd',.inr ⟨?_,rfl⟩,RV.undef ρ,f2,f3⟩;have hsz:(a.eval v).cells.size=i.size:=by have:=hvr.cells.1;simp at this;omega
 have hx'':a.eval x = .pointer (some ⟨B.b,off,none⟩):=hx';simp [execOp,hop,Instr.storeAt,Instr.sureAddr,hx'',storeVar,yN hi,hsz,f1]
end
end Go.Ex
namespace Go.Ex
theorem growBy_le(m:Nat):∀(r c:Nat),c≤2*m+192→Builtin.growBy m r c≤2*m+192:=by
 intro r
 induction r with
 | zero=>intro c h;exact h
 | succ r ih=>
  intro c h;unfold Builtin.growBy;split
  · exact h
  · apply ih;omega
theorem nextcap_le{m c:Nat}(h:c<m):Builtin.nextslicecap m c≤2*m+192:=by
 unfold Builtin.nextslicecap;split
 · omega
 · split
   · omega
   · exact growBy_le m 4 c (by omega)
section
variable {P:Program} {ng:Nat}
theorem rowOf_ok{ρ : Inj}{base:Nat}{w0:World}{h:zB}{n:Nat}{wd:World}(hH:HeapR P ng ρ base w0 h n wd){size m:Nat}{x x':Value}(hx:RV ρ x x'){l:List Value}(hr:rowOf h size m x=some l)
(hstr:∀s,x = .string s→size=1):∃l',RVs ρ l l'∧(Builtin.firstCells size m x').run P wd = .ok ⟨l'⟩ wd:=by
 unfold rowOf at hr;split at hr
 · cases hm:Nat.beq m 0 with
   | false=>rw [hm]at hr;cases hr
   | true=>
    rw[hm]at hr;injection hr with hr;subst hr
    cases hx
    exact⟨[],RVs.nil ρ,rfl⟩
 · rename_i b off len c;rcases hx.of_slice with⟨B,o',c',hb,rfl,ho,hl,_⟩|⟨rfl,rfl,_,a,rfl⟩
   rotate_left
   · have key:m=0∧l=[]:=by
      split at hr
      · rename_i cc kn z kd hg
        cases hc:(Nat.ble m 0 && Nat.ble (Nat.add off (Nat.mul m size)) kn) with
        | false=>rw [hc]at hr;cases hr
        | true=>
         rw[hc]at hr;dsimp only[cond]at hr;injection hr with hr;subst hr
         have h1:=yQ (Bool.and_eq_true_iff.1 hc).1;obtain rfl:m=0:=by omega
         refine⟨rfl,?_⟩;rw [show Nat.mul 0 size=0 from Nat.zero_mul size];rfl
      · rename_i cc kn hg
        cases hc:(Nat.ble m 0 && Nat.ble (Nat.add off (Nat.mul m size)) kn) with
        | false=>rw [hc]at hr;cases hr
        | true=>
         rw[hc]at hr;dsimp only[cond]at hr;obtain⟨hu,rfl⟩:=knownL_some hr;have h1:=yQ (Bool.and_eq_true_iff.1 hc).1;obtain rfl:m=0:=by omega
         refine⟨rfl,?_⟩;rw [show Nat.mul 0 size=0 from Nat.zero_mul size];rfl
      · cases hr
     obtain⟨rfl,rfl⟩:=key;refine⟨[],RVs.nil ρ,?_⟩;simp only[Builtin.firstCells,Nat.zero_mul];rfl
   split at hr
   · rename_i cc kn z kd hg
     cases hc:(Nat.ble m len && Nat.ble (Nat.add off (Nat.mul m size)) kn) with
     | false=>rw [hc]at hr;cases hr
     | true=>
      rw[hc]at hr;dsimp only[cond]at hr;injection hr with hr;subst hr
      obtain⟨h1,h2⟩:=Bool.and_eq_true_iff.1 hc;have h1:=yQ h1;have h2:off+m*size≤kn:=yQ h2;obtain⟨l',r1,r2⟩:=run_loadRow hH hb hg h2;refine⟨l',r1,?_⟩;by_cases h0:m*size=0
      · have:l'=[]:=by
         have:=r1.1;rw [h0]at this;simp [Tr.toListFrom]at this;exact List.length_eq_zero_iff.1 this.symm
        subst this;simp only[Builtin.firstCells,h0];rfl
      · have h3:0<len:=by
         rcases Nat.eq_zero_or_pos m with e|e
         · subst e;simp at h0
         · omega
        rw[ho h3];exact r2
   · rename_i cc kn hg
     cases hc:(Nat.ble m len && Nat.ble (Nat.add off (Nat.mul m size)) kn) with
     | false=>rw [hc]at hr;cases hr
     | true=>
      rw[hc]at hr;dsimp only[cond]at hr;obtain⟨hu,rfl⟩:=knownL_some hr;obtain⟨h1,h2⟩:=Bool.and_eq_true_iff.1 hc;have h1:=yQ h1;have h2:off+m*size≤kn:=yQ h2;obtain⟨l',r1,r2⟩:=run_loadRows hH hb hg h2 hu;refine⟨l',r1,?_⟩;by_cases h0:m*size=0
      · have:l'=[]:=by
         have:=r1.1;rw [h0]at this;simp [Tr.toListFrom]at this;exact List.length_eq_zero_iff.1 this.symm
        subst this;simp only[Builtin.firstCells,h0];rfl
      · have h3:0<len:=by
         rcases Nat.eq_zero_or_pos m with e|e
         · subst e;simp at h0
         · omega
        rw[ho h3];exact r2
   · cases hr
 · rename_i s;injection hr with hr;subst hr
   obtain rfl:=hx.of_string;refine⟨((s.extract 0 m).data.map fun b=>Value.int .u8 b.toNat).toList,?_,?_⟩
   · rw[str_extract];simp only[Array.toList_map,List.drop_zero,Nat.sub_zero];refine⟨by simp,fun i v v' e1 e2=>?_⟩;rw [List.getElem?_map]at e1 e2
     cases hq:(s.data.toList.take m)[i]? with
     | none=>rw [hq]at e1;cases e1
     | some q=>
      rw[hq]at e1 e2;injection e1 with e1
      injection e2 with e2
      subst e1 e2;exact RV.int _ _
   · rfl
 · cases hr
theorem lenV_ok{ρ : Inj}{x x':Value}(hx:RV ρ x x'){m:Nat}(h:lenV x=some m)(wd:World):(Builtin.lenOf x').run P wd = .ok m wd:=by
 unfold lenV at h;split at h
 · injection h with h;subst h
   cases hx <;> rfl
 · injection h with h;subst h
   obtain rfl:=hx.of_string;rfl
 · cases h
def isIntT:TypeDesc→Bool
 | .int _=>true
 | _=>false
def appSem(e:TypeId)(ei:TypeInfo)(xd:TypeDesc)(x':Value)(m:Nat):Sem (Array Value):=
 if isIntT xd=true then(if m*ei.size=0 then pure #[] else do pure (Builtin.zeroCells (← zeroValue e).cells m)) else Builtin.firstCells ei.size m x'
def appLen(wd:World)(P:Program)(xd:TypeDesc)(x':Value)(m:Nat):Prop:=
 if isIntT xd=true then ∃k,x' = .int k (m:Int)∧m<100000 else(Builtin.lenOf x').run P wd = .ok m wd
theorem wW(hP:yH ng P=true){ρ : Inj}{base:Nat}{w0:World}{h:zB}{n:Nat}{wd:World}(hH:HeapR P ng ρ base w0 h n wd){e:TypeId}{ei:TypeInfo}{xd:TypeDesc}{x x':Value}(hx:RV ρ x x')
{z:Value}(hz:yT P e=some z){m:Nat}{new:List Value}(ha:xR P h e ei.size xd x=some (m,new)) :
 appLen wd P xd x' m∧∃new',RVs ρ new new'∧(appSem e ei xd x' m).run P wd = .ok ⟨new'⟩ wd∧new.length=m*ei.size:=by
 unfold xR at ha;unfold appLen appSem;split at ha
 · rename_i kk;split at ha
   · rename_i m2 z2 hn hz2;rw [hz]at hz2;injection hz2 with hz2;subst hz2
     cases hc:(Nat.blt m2 100000 && Nat.beq (cellsOf z).length ei.size) with
     | false=>rw [hc]at ha;cases ha
     | true=>
      rw[hc]at ha;dsimp only[cond]at ha;injection ha with ha
      injection ha with ha1 ha2
      subst ha1 ha2;obtain⟨h1,h2⟩:=Bool.and_eq_true_iff.1 hc;have h1:=zY h1;have h2:=zG h2;obtain⟨k,rfl⟩:=natOf_some hn;obtain rfl:=hx.of_int;refine⟨⟨k,rfl,h1⟩,?_⟩;have hzz:cellsOf z=z.cells.toList:=by cases z <;> rfl
      have hzc:=RV.cells (RV.plain (wI hP hz) ρ);have hzs:z.cells.size=ei.size:=by rw[hzz]at h2;simpa using h2
      by_cases h0:m2*ei.size=0
      · refine⟨[],?_,?_,?_⟩
        · have:rep (cellsOf z) m2=[]:=List.length_eq_zero_iff.1 (by rw[wC,h2];exact h0);rw [this];exact RVs.nil ρ
        · simp[isIntT,h0]
        · rw[wC,h2]
      · refine⟨(Builtin.zeroCells z.cells m2).toList,?_,?_,by rw[wC,h2]⟩
        · have hsz1:1≤z.cells.size:=by
           rcases Nat.eq_zero_or_pos z.cells.size with e0|e0
           · rw[hzs]at e0;rw [e0]at h0;simp at h0
           · exact e0
          have:=made_eq z.cells m2 hsz1;unfold Builtin.zeroCells;rw [this,← hzz];refine⟨rfl,fun i v v' e1 e2=>?_⟩;rw [e1]at e2;injection e2 with e2;subst e2
          have hlt:i<m2*(cellsOf z).length:=by
           rcases Nat.lt_or_ge i (rep (cellsOf z) m2).length with h1|h1
           · rwa [wC]at h1
           · rw[List.getElem?_eq_none h1]at e1;cases e1
          rw[rep_get _ _ _ hlt]at e1;exact hzc.2 _ v v e1 (by rw[← hzz];exact e1)
        · simp[isIntT,h0,wA hz]
   · cases ha
 · rename_i hni;have hint:isIntT xd=false:=by cases xd <;> first|rfl|exact absurd rfl (hni _)
   rw[hint];simp only[Bool.false_eq_true,if_false]
   cases hl:lenV x with
   | none=>rw [hl]at ha;cases ha
   | some m2 =>
    rw[hl]at ha;dsimp only at ha
    cases hs:strFits ei.size x with
    | false=>rw [hs]at ha;cases ha
    | true =>
     rw[hs]at ha;dsimp only[cond]at ha
     cases hr:rowOf h ei.size m2 x with
     | none=>rw [hr]at ha;cases ha
     | some l=>
      rw[hr]at ha;dsimp only at ha;injection ha with ha
      injection ha with ha1 ha2
      subst ha1 ha2;have hstr:∀s,x = .string s→ei.size=1:=fun s e=>by subst e;exact zG hs
      obtain⟨l',r1,r2⟩:=rowOf_ok hH hx hr hstr;refine⟨lenV_ok hx hl wd,l',r1,r2,?_⟩;unfold rowOf at hr;split at hr
      · cases hm:Nat.beq m2 0 with
        | false=>rw [hm]at hr;cases hr
        | true=>
         rw[hm]at hr;injection hr with hr;subst hr
         obtain rfl:=zG hm;simp
      · rename_i b off len c;split at hr
        · rename_i cc kn z2 kd hg
          cases hc:(Nat.ble m2 len && Nat.ble (Nat.add off (Nat.mul m2 ei.size)) kn) with
          | false=>rw [hc]at hr;cases hr
          | true=>
           rw[hc]at hr;dsimp only[cond]at hr;injection hr with hr;subst hr
           exact Tr.length_toListFrom _ _ _ _
        · rename_i cc kn hg
          cases hc:(Nat.ble m2 len && Nat.ble (Nat.add off (Nat.mul m2 ei.size)) kn) with
          | false=>rw [hc]at hr;cases hr
          | true=>
           rw[hc]at hr;dsimp only[cond]at hr;obtain⟨_,rfl⟩:=knownL_some hr;exact Tr.length_toListFrom _ _ _ _
        · cases hr
      · rename_i s;injection hr with hr;subst hr
        simp only[lenV]at hl;injection hl with hl
        rw[hstr s rfl,← hl];simp
      · cases hr
end
end Go.Ex
namespace Go.Ex
section
variable {P:Program} {ng:Nat}
theorem isIntT_or(xd:TypeDesc):(∃k,xd = .int k)∨(isIntT xd=false∧∀k,xd≠.int k):=by
 cases xd
 case int k=>exact .inl ⟨k,rfl⟩
 all_goals exact .inr ⟨rfl,fun _=>TypeDesc.noConfusion⟩
theorem int_facts{m:Nat}{b:Nat}(hm:m<100000)(hb:b<100000) :
 IntKind.i64.wrap ((m:Nat):Int)=(m:Int)∧¬((m:Int)<0)∧¬((m:Int)*((b:Nat):Int) > 2 ^ 48):=by
 refine⟨IntWalk.i64_in _ (by omega),by omega,?_⟩;have b1:m*b≤100000*100000:=Nat.mul_le_mul (by omega) (by omega);have e:(m:Int)*((b:Nat):Int)=((m*b:Nat):Int):=by push_cast;rfl
 rw[e];have:(2:Int) ^ 48=281474976710656:=by decide
 omega
theorem wX{wd wd':World}{sT xT e rt:TypeId}{ei:TypeInfo}{xd:TypeDesc}{base:Option Addr}{sLen sCap m:Nat}{x':Value}{new':List Value}{tr:List TypeId}{xr:List Value}
(hd:und P sT=some (.slice e))(hxd:und P xT=some xd)(hi:inf? P e=some ei)(hl:appLen wd P xd x' m)(hb:ei.bytes<100000)(hn:sLen+m≤sCap)
(ha:(appSem e ei xd x' m).run P wd = .ok ⟨new'⟩ wd)
(hst:match base with
  | some a=>(storeCells (a.add (sLen*ei.size)) new').run P wd = .ok () wd'
  | none=>wd'=wd) :
 (Builtin.append_ ⟨sT::xT::tr⟩ rt ⟨.slice base sLen sCap::x'::xr⟩).run P wd = .ok (.slice base (sLen+m) sCap) wd':=by
 unfold appSem at ha;unfold appLen at hl;have e1:(⟨sT::xT::tr⟩:Array TypeId)[0]? = some sT:=by simp
 have e2:(⟨sT::xT::tr⟩:Array TypeId)[1]? = some xT:=by simp
 have e3:(⟨.slice base sLen sCap::x'::xr⟩:Array Value)[0]? = some (.slice base sLen sCap):=by simp
 have e4:(⟨.slice base sLen sCap::x'::xr⟩:Array Value)[1]? = some x':=by simp
 unfold Builtin.append_;simp only[e1,e2,e3,e4,Sem.run_bind,zM hd,zM hxd,yN hi,Result.andThen_ok,Sem.run_pure];rcases isIntT_or xd with⟨kk,rfl⟩|⟨hz,hni⟩
 · simp only[isIntT,if_true]at ha hl;obtain⟨k,rfl,hm⟩:=hl;obtain⟨w1,n1,t1⟩:=int_facts hm hb;simp only[if_true,Sem.run_bind,asInt,asIntOf,Sem.run_pure,Result.andThen_ok,w1,if_neg n1,runTI (yX hi).2,if_neg t1,Int.toNat_natCast,if_pos hn,Bool.not_true,Bool.false_eq_true,if_false];rw [ha];simp only[Result.andThen_ok]
   cases base with
   | none=>subst hst;rfl
   | some a=>dsimp only at hst ⊢;rw [Sem.run_bind,hst];rfl
 · rw[hz]at ha hl;simp only[Bool.false_eq_true,if_false]at ha hl;cases xd
   case int=>exact absurd rfl (hni _)
   all_goals simp only[Bool.false_eq_true,if_false,hl,Result.andThen_ok,if_pos hn,Sem.run_bind,Bool.not_false,if_true]
   all_goals rw[ha]
   all_goals simp only[Result.andThen_ok]
   all_goals cases base with
   | none=>subst hst;rfl
   | some a=>dsimp only at hst ⊢;rw [Sem.run_bind,hst];rfl
theorem append_grows{wd:World}{sT xT e rt:TypeId}{ei:TypeInfo}{xd:TypeDesc}{base:Option Addr}{sLen sCap m:Nat}{x' z:Value}{old' new':List Value}{tr:List TypeId}{xr:List Value}
(hd:und P sT=some (.slice e))(hxd:und P xT=some xd)(hi:inf? P e=some ei)(hz:yT P e=some z)(hl:appLen wd P xd x' m)(hb:ei.bytes<100000)(hn:¬sLen+m≤sCap)(hm:sLen+m<1000000)
(ha':(appSem e ei xd x' m).run P { wd with drawn:=wd.drawn+1 } = .ok ⟨new'⟩ { wd with drawn:=wd.drawn+1 })
(ho':(Builtin.firstCells ei.size sLen (.slice base sLen sCap)).run P { wd with drawn:=wd.drawn+1 } = .ok ⟨old'⟩ { wd with drawn:=wd.drawn+1 }) :
 ∃newCap dr,sLen+m≤newCap∧
 (Builtin.append_ ⟨sT::xT::tr⟩ rt ⟨.slice base sLen sCap::x'::xr⟩).run P wd =
  .ok (.slice (some ⟨wd.heap.size,0,none⟩) (sLen+m) newCap) { wd with drawn:=dr,heap:=wd.heap.push (.cells ((⟨old'⟩:Array Value)++⟨new'⟩++Builtin.zeroCells z.cells (newCap - (sLen+m))) e) }:=by
 have e1:(⟨sT::xT::tr⟩:Array TypeId)[0]? = some sT:=by simp
 have e2:(⟨sT::xT::tr⟩:Array TypeId)[1]? = some xT:=by simp
 have e3:(⟨.slice base sLen sCap::x'::xr⟩:Array Value)[0]? = some (.slice base sLen sCap):=by simp
 have e4:(⟨.slice base sLen sCap::x'::xr⟩:Array Value)[1]? = some x':=by simp
 have hmax:∀q:Prop,¬(((sLen+m:Nat):Int) > IntKind.i64.max∧q):=by
  have:IntKind.i64.max=9223372036854775807:=by decide
  rw[this]
  rintro q ⟨h,_⟩
  omega
 have hnc:¬(Builtin.nextslicecap (sLen+m) sCap*ei.bytes > 2 ^ 48):=by
  have h1:=nextcap_le (m:=sLen+m) (c:=sCap) (by omega);have h2:Builtin.nextslicecap (sLen+m) sCap*ei.bytes≤2000192*100000:=Nat.mul_le_mul (by omega) (by omega);have:(2:Nat) ^ 48=281474976710656:=by decide
  omega
 refine⟨(Question.appendCap (sLen+m) sCap e).cut (wd.tape wd.drawn (.appendCap (sLen+m) sCap e)),wd.drawn+1,?_,?_⟩
 · simp[Question.cut]
 · unfold appSem at ha';unfold appLen at hl;unfold Builtin.append_;simp only[e1,e2,e3,e4,Sem.run_bind,zM hd,zM hxd,yN hi,Result.andThen_ok,Sem.run_pure];rcases isIntT_or xd with⟨kk,rfl⟩|⟨hz2,hni⟩
   · simp only[isIntT,if_true]at ha' hl;obtain⟨k,rfl,hm2⟩:=hl;obtain⟨w1,n1,t1⟩:=int_facts hm2 hb;simp only[if_true,Sem.run_bind,asInt,asIntOf,Sem.run_pure,Result.andThen_ok,w1,if_neg n1,runTI (yX hi).2,if_neg t1,Int.toNat_natCast,if_neg hn,if_neg (hmax _),Bool.not_true,Bool.false_eq_true,if_false,if_neg hnc];have hch:(choose (Question.appendCap (sLen+m) sCap e)).run P wd = .ok ((Question.appendCap (sLen+m) sCap e).cut (wd.tape wd.drawn (Question.appendCap (sLen+m) sCap e))) { wd with drawn:=wd.drawn+1 }:=rfl;rw [hch];simp only[Result.andThen_ok,run_askRoom];rw [ho'];simp only[Result.andThen_ok];rw [ha'];simp only[Result.andThen_ok,wA hz,newRow];rfl
   · rw[hz2]at ha' hl;simp only[Bool.false_eq_true,if_false]at ha' hl;cases xd
     case int=>exact absurd rfl (hni _)
     all_goals simp only[Bool.false_eq_true,if_false,hl,Sem.run_bind,Result.andThen_ok,runTI (yX hi).2,if_neg hn,if_neg (hmax _),if_neg hnc,Bool.not_false,if_true]
     all_goals
      have hch:(choose (Question.appendCap (sLen+m) sCap e)).run P wd = .ok ((Question.appendCap (sLen+m) sCap e).cut (wd.tape wd.drawn (Question.appendCap (sLen+m) sCap e))) { wd with drawn:=wd.drawn+1 }:=rfl;rw [hch];simp only[Result.andThen_ok,run_askRoom];rw [ho'];simp only[Result.andThen_ok];rw [ha'];simp only[Result.andThen_ok,wA hz,newRow];rfl
end
end Go.Ex
namespace Go.Ex
section
variable {P:Program} {ng:Nat}
theorem HeapR.kill{ρ : Inj}{base:Nat}{w0:World}{h:zB}{n:Nat}{wd:World}(r:HeapR P ng ρ base w0 h n wd)(b:Nat) :
 HeapR P ng ρ base w0 (h.set .dead .dead b) n wd∧Grow ρ h n wd ρ (h.set .dead .dead b) n wd:=by
 have live:∀x,zF (h.set .dead .dead b) x≠.dead→zF (h.set .dead .dead b) x=zF h x∧zF h x≠.dead:=by
  intro x hx;rw [zK]at hx ⊢;by_cases e:b=x
  · rw[if_pos e]at hx;exact absurd rfl hx
  · rw[if_neg e]at hx ⊢;exact⟨rfl,hx⟩
 refine⟨⟨r.dom,?_,?_,r.below,r.size,r.glob,r.ngn⟩,⟨Nat.le_refl _,fun _ _=>rfl,?_,fun _ _ _=>rfl,Nat.le_refl _,?_,rfl⟩⟩
 · intro x X e hx;obtain⟨e1,e2⟩:=live x hx;rw [e1];exact r.obj x X e e2
 · intro x y X Y ex ey hx hy;exact r.inj x y X Y ex ey (live x hx).2 (live y hy).2
 · intro x X hx e;rw [r.dom x hx]at e;cases e
 · intro x hx e;rw [zK];split
   · rfl
   · exact e
theorem HeapR.anew{ρ : Inj}{base:Nat}{w0:World}{h:zB}{n:Nat}{wd:World}(r:HeapR P ng ρ base w0 h n wd){b:Nat}{A B:Bl}(hb: ρ b=some A)(hl:zF h b≠.dead)(hAB:B.b=A.b)
(o:AObj)(o':Obj)(wd':World)(hbase:base≤B.b)(hr:ObjR P ng (ρ.put n B) base B o o')(hw:wd'.heap[B.b]? = some o')(hsz:wd'.heap.size=wd.heap.size)
(hk:∀c,c≠B.b→wd'.heap[c]? = wd.heap[c]?)(h1:wd'.os=wd.os)(h2:wd'.tape=wd.tape)(h3:wd'.output=wd.output) :
 HeapR P ng (ρ.put n B) base w0 ((h.set .dead .dead b).set .dead o n) (n+1) wd'∧Grow ρ h n wd (ρ.put n B) ((h.set .dead .dead b).set .dead o n) (n+1) wd':=by
 have hn: ρ n=none:=r.dom n (Nat.le_refl _);have hle:=Inj.le_put B hn;have hbn:b≠n:=fun e=>by rw[e,hn]at hb;cases hb
 have get:∀x,zF ((h.set .dead .dead b).set .dead o n) x=if n=x then o else if b=x then .dead else zF h x:=by
  intro x;rw [zK,zK]
 have live:∀x,x≠n→zF ((h.set .dead .dead b).set .dead o n) x≠.dead→zF ((h.set .dead .dead b).set .dead o n) x=zF h x∧zF h x≠.dead∧x≠b:=by
  intro x hx hd;rw [get,if_neg (fun e=>hx e.symm)]at hd ⊢;by_cases e:b=x
  · rw[if_pos e]at hd;exact absurd rfl hd
  · rw[if_neg e]at hd ⊢;exact⟨rfl,hd,fun e2=>e e2.symm⟩
 have oldρ : ∀x,x≠n→(ρ.put n B) x = ρ x:=fun x hx=>by simp[Inj.put,hx]
 refine⟨⟨?_,?_,?_,?_,by rw[hsz];exact r.size,?_,?_⟩,⟨by omega,?_,?_,?_,by omega,?_,h2⟩⟩
 · intro x hx;rw [oldρ x (by omega)];exact r.dom x (by omega)
 · intro x X e hx;by_cases hxn:x=n
   · subst hxn;rw [yS]at e;injection e with e;subst e
     refine⟨o',hw,?_⟩;rw [get,if_pos rfl];exact hr
   · obtain⟨e1,e2,e3⟩:=live x hxn hx;rw [oldρ x hxn]at e;obtain⟨ob,f1,f2⟩:=r.obj x X e e2;refine⟨ob,?_,?_⟩
     · rw[hk _ (fun e4=>e3 (r.inj x b X A e hb e2 hl (e4.trans hAB))),f1]
     · rw[e1];exact f2.mono hle
 · intro x y X Y ex ey hx hy hxy;by_cases hxn:x=n
   · by_cases hyn:y=n
     · rw[hxn,hyn]
     · obtain⟨e1,e2,e3⟩:=live y hyn hy;subst hxn;rw [yS]at ex;injection ex with ex;subst ex
       rw[oldρ y hyn]at ey;exact absurd (r.inj y b Y A ey hb e2 hl (hxy.symm.trans hAB)) e3
   · obtain⟨e1,e2,e3⟩:=live x hxn hx;rw [oldρ x hxn]at ex;by_cases hyn:y=n
     · subst hyn;rw [yS]at ey;injection ey with ey;subst ey
       exact absurd (r.inj x b X A ex hb e2 hl (hxy.trans hAB)) e3
     · obtain⟨f1,f2,f3⟩:=live y hyn hy;rw [oldρ y hyn]at ey;exact r.inj x y X Y ex ey e2 f2 hxy
 · exact r.below.trans ⟨h1,h2,h3,by omega,fun k hk'=>hk k (by omega)⟩
 · intro g hg;obtain⟨G,e1,e2⟩:=r.glob g hg;exact⟨G,hle _ _ e1,e2⟩
 · have:=r.ngn;omega
 · intro x hx;exact oldρ x (by omega)
 · intro x X hx e;by_cases hxn:x=n
   · subst hxn;rw [yS]at e;injection e with e;subst e
     refine .inr ⟨b,A,?_,hb,hAB.symm,hl⟩;rcases Nat.lt_or_ge b x with h5|h5
     · exact h5
     · rw[r.dom b h5]at hb;cases hb
   · rw[oldρ x hxn,r.dom x (by omega)]at e;cases e
 · intro c _ hn';exact hk c fun e=>hn' b A hb hl (by rw[e,hAB])
 · intro x hx e;rw [get,if_neg (by omega)];split
   · rfl
   · exact e
theorem HeapR.drawn{ρ : Inj}{base:Nat}{w0:World}{h:zB}{n:Nat}{wd:World}(r:HeapR P ng ρ base w0 h n wd)(d:Nat):HeapR P ng ρ base w0 h n { wd with drawn:=d }:=
 ⟨r.dom,r.obj,r.inj,⟨r.below.os,r.below.tape,r.below.output,r.below.size,r.below.block⟩,r.size,r.glob,r.ngn⟩
theorem zeroCells_size(z:Array Value)(k:Nat):(Builtin.zeroCells z k).size=k*z.size:=by simp[Builtin.zeroCells]
theorem HeapR.grown{ρ : Inj}{base:Nat}{w0:World}{h:zB}{n:Nat}{wd:World}(r:HeapR P ng ρ base w0 h n wd){c:Tr Value}{need size newCap:Nat}{old' new':List Value}{z:Array Value}{e:TypeId}{dr:Nat}
(hl:old'.length+new'.length=need*size)(hz:z.size=size)(hn:need≤newCap)
(hv:∀(i:Nat) (v':Value),i<need*size→(old'++new')[i]? = some v'→RV ρ (Tr.get undef c i) v') :
 HeapR P ng (ρ.put n ⟨wd.heap.size,newCap*size,size⟩) base w0 (h.set .dead (.cells c (need*size) (zc e size) 1) n) (n+1)
  { wd with drawn:=dr,heap:=wd.heap.push (.cells ((⟨old'⟩:Array Value)++⟨new'⟩++Builtin.zeroCells z (newCap - need)) e) }∧
  Grow ρ h n wd (ρ.put n ⟨wd.heap.size,newCap*size,size⟩) (h.set .dead (.cells c (need*size) (zc e size) 1) n) (n+1)
   { wd with drawn:=dr,heap:=wd.heap.push (.cells ((⟨old'⟩:Array Value)++⟨new'⟩++Builtin.zeroCells z (newCap - need)) e) }:=by
 have hle:=Inj.le_put (⟨wd.heap.size,newCap*size,size⟩:Bl) (r.dom n (Nat.le_refl _));have hmul:need*size≤newCap*size:=Nat.mul_le_mul_right _ hn
 have hobj:ObjR P ng (ρ.put n ⟨wd.heap.size,newCap*size,size⟩) base ⟨wd.heap.size,newCap*size,size⟩ (.cells c (need*size) (zc e size) 1)
  (.cells ((⟨old'⟩:Array Value)++⟨new'⟩++Builtin.zeroCells z (newCap - need)) e (0,0)):=by
  refine .cells hmul ?_ (fun h=>absurd rfl h) ⟨fun _=>rfl,fun h=>absurd h (by decide)⟩ ?_ (fun _=>r.size) (fun _=>⟨rfl,rfl⟩)
  · show((⟨old'⟩:Array Value)++⟨new'⟩++Builtin.zeroCells z (newCap - need)).size=newCap*size;have e1:((⟨old'⟩:Array Value)++(⟨new'⟩:Array Value)).size=old'.length+new'.length:=by simp
    rw[Array.size_append,e1,zeroCells_size,hz,hl,← Nat.add_mul];congr 1;omega
  · intro i v' hi e1;refine(hv i v' hi ?_).mono hle;have e2:(((⟨old'⟩:Array Value)++⟨new'⟩++Builtin.zeroCells z (newCap - need)).toList)[i]? = some v':=by rw[Array.getElem?_toList];exact e1
    rw[Array.toList_append,Array.toList_append,List.getElem?_append_left (by simp;omega)]at e2;exact e2
 obtain⟨a1,a2⟩:=(r.drawn dr).alloc (.cells c (need*size) (zc e size) 1) _ ⟨wd.heap.size,newCap*size,size⟩ rfl hobj;exact⟨a1,⟨a2.nn,a2.old,a2.new,a2.keep,a2.size,a2.dead,a2.tape⟩⟩
theorem growOpen_ok(hP:yH ng P=true){h:zB}{n b sLen m:Nat}{sT xT e rt:TypeId}{ei:TypeInfo}{xd:TypeDesc}{x z:Value}{new:List Value}{k:Value→zB→Nat→Bool}{tr:List TypeId}
(hd:und P sT=some (.slice e))(hxd:und P xT=some xd)(hi:inf? P e=some ei)(hz:yT P e=some z)(hsz:1≤ei.size)(hzl:(cellsOf z).length=ei.size)(hm:sLen+m<1000000)(hb:ei.bytes<100000)
(ha:xR P h e ei.size xd x=some (m,new))
(hg:growOpen h n b sLen m ei.size (zc e ei.size) new k=true) :
 ∃v h' n',k v h' n'=true∧∀(ρ : Inj) (base:Nat) (w0 wd:World) (s' x':Value) (xr:List Value),HeapR P ng ρ base w0 h n wd→RV ρ (.slice (some ⟨b,0,none⟩) sLen inf) s'→RV ρ x x'→
  ∃ρ' v' wd',(Builtin.append_ ⟨sT::xT::tr⟩ rt ⟨s'::x'::xr⟩).run P wd = .ok v' wd'∧RV ρ' v v'∧HeapR P ng ρ' base w0 h' n' wd'∧Grow ρ h n wd ρ' h' n' wd':=by
 unfold growOpen at hg;split at hg
 case h_2=>cases hg
 rename_i c kn zz hgb
 cases hzz:Nat.beq zz (zc e ei.size) with
 | false=>rw [hzz]at hg;cases hg
 | true =>
  rw[hzz]at hg;dsimp only[cond]at hg;obtain rfl:=zG hzz;have hdead:zF h b≠.dead:=by rw[hgb];exact AObj.noConfusion
  have facts:∀(ρ : Inj) (base:Nat) (w0 wd:World) (s' x':Value),HeapR P ng ρ base w0 h n wd→RV ρ (.slice (some ⟨b,0,none⟩) sLen inf) s'→RV ρ x x'→
   ∃(B:Bl) (c':Nat) (cs:Array Value) (el:TypeId) (new':List Value),ρ b=some B∧s' = .slice (some ⟨B.b,0,none⟩) sLen c'∧sLen≤c'∧c'*ei.size=B.n∧wd.heap[B.b]? = some (.cells cs el (0,0))∧cs.size=B.n∧kn≤B.n∧
    (B.z=ei.size∧el=e)∧base≤B.b∧(∀(i:Nat) (v':Value),i<kn→cs[i]? = some v'→RV ρ (Tr.get undef c i) v')∧
    appLen wd P xd x' m∧RVs ρ new new'∧(appSem e ei xd x' m).run P wd = .ok ⟨new'⟩ wd∧new.length=m*ei.size:=by
   intro ρ base w0 wd s' x' hH hs hx;rcases hs.of_slice with⟨B,o',c',hb',rfl,_,hl,hcs⟩|⟨_,h0,_⟩
   rotate_left
   · exact absurd h0 (by decide)
   obtain⟨o,e1,e2⟩:=hH.obj b B hb' hdead;rw [hgb]at e2
   cases e2 with
   | cells hn hs' hk' hz' hv' hbb hf =>
    rename_i cs el l0 h0;obtain⟨rfl,rfl⟩:=hf (by decide);obtain⟨hel,hBz⟩:=zc_inj (hz'.1 rfl)
    have hc2:o'=0∧c'*ei.size=B.n:=by
     rcases hcs with⟨h1,_⟩|⟨_,⟨h1,h2⟩|⟨_,h1⟩⟩
     · exact absurd rfl h1
     · exact⟨h1,by rw[hBz];simpa using h2⟩
     · exact absurd h1 (Nat.lt_irrefl _)
    obtain⟨rfl,hcn⟩:=hc2;obtain⟨a1,new',a2,a3,a4⟩:=wW hP hH hx hz ha;exact⟨B,c',cs,el,new',hb',rfl,hl,hcn,e1,hs',hn,⟨hBz.symm,hel.symm⟩,hbb (by decide),hv',a1,a2,a3,a4⟩
  cases hin:Nat.ble (Nat.mul (Nat.add sLen m) ei.size) kn with
  | true=>
   rw[hin]at hg;have hin:(sLen+m)*ei.size≤kn:=yQ hin;obtain⟨h',g1,_,_,g2⟩:=storeAt_ok (P:=P) (ng:=ng) hg;refine⟨_,h',n,g1,fun ρ base w0 wd s' x' xr hH hs hx=>?_⟩;obtain⟨B,c',cs,el,new',f1,rfl,f3,f4,f5,f6,f7,⟨f8,f8e⟩,f9,f10,f11,f12,f13,f14⟩:=facts ρ base w0 wd s' x' hH hs hx;obtain⟨wd',q1,q2,q3⟩:=g2 n ρ base w0 wd B new' hH f1 f12;have hfit:sLen+m≤c':=Nat.le_of_mul_le_mul_right (by omega:(sLen+m)*ei.size≤c'*ei.size) hsz;refine⟨ρ,.slice (some ⟨B.b,0,none⟩) (sLen+m) c',wd',?_,?_,q2,q3⟩
   · exact wX hd hxd hi f11 hb hfit f13 (by
      dsimp only;rw [add_eq,Nat.zero_add];exact q1)
   · exact .opened f1 hfit (.inl ⟨rfl,by rw[f8];simpa using f4⟩)
  | false =>
   rw[hin]at hg;dsimp only[cond]at hg
   cases hkn:Nat.ble (Nat.mul sLen ei.size) kn with
   | false=>rw [hkn]at hg;cases hg
   | true=>
    rw[hkn]at hg;have hkn:sLen*ei.size≤kn:=yQ hkn;obtain⟨hone,g2⟩:=uC hg;rw [Tr.setK_eq,yJ]at g2;refine⟨_,_,_,g2,fun ρ base w0 wd s' x' xr hH hs hx=>?_⟩;obtain⟨B,c',cs,el,new',f1,rfl,f3,f4,f5,f6,f7,⟨f8,f8e⟩,f9,f10,f11,f12,f13,f14⟩:=facts ρ base w0 wd s' x' hH hs hx;have hlen:new'.length=m*ei.size:=f12.1.symm.trans f14;have hmul:(sLen+m)*ei.size=sLen*ei.size+m*ei.size:=Nat.add_mul _ _ _;by_cases hfit:sLen+m≤c'
    · have hfit2:(sLen+m)*ei.size≤c'*ei.size:=Nat.mul_le_mul_right _ hfit
      have hone':∀v∈new',v.oneCell'=true:=by
       intro v' hm;obtain⟨i,hi⟩:=List.mem_iff_getElem?.1 hm
       have hlt:i<new.length:=by
        rcases Nat.lt_or_ge i new'.length with h5|h5
        · have:=f12.1;omega
        · rw[List.getElem?_eq_none h5]at hi;cases hi
       have:=f12.2 i new[i] v' (List.getElem?_eq_getElem hlt) hi;exact this.one (hone _ (List.getElem_mem hlt))
      have hst:=run_storeCells_at P B.b (sLen*ei.size) el new' 0 cs wd f5 (by omega) hone';have hsz2:(cs.toList.take (sLen*ei.size+0)++new'++cs.toList.drop (sLen*ei.size+0+new'.length)).length=cs.size:=by simp;omega
      obtain⟨r1,r2⟩:=hH.anew f1 hdead (B:=B) rfl (.cells (Tr.ofListFrom undef c (sLen*ei.size) new) ((sLen+m)*ei.size) (zc e ei.size) 1)
       (.cells (cs.toList.take (sLen*ei.size+0)++new'++cs.toList.drop (sLen*ei.size+0+new'.length)).toArray el (0,0)) _ f9 (by
        refine .cells (by omega) (by simpa using hsz2.trans f6) (fun h=>absurd rfl h) ⟨fun _=>by rw[f8,f8e],fun h=>absurd h (by decide)⟩ (fun i v' hi e=>?_) (fun _=>f9) (fun _=>⟨rfl,rfl⟩);have hle:=Inj.le_put B (hH.dom n (Nat.le_refl _));rw [Tr.get_ofListFrom];have e':(cs.toList.take (sLen*ei.size+0)++new'++cs.toList.drop (sLen*ei.size+0+new'.length))[i]? = some v':=by simpa using e
        by_cases h6:sLen*ei.size≤i∧i<sLen*ei.size+new.length
        · rw[if_pos h6];rw [List.append_assoc,List.getElem?_append_right (by simp;omega),List.getElem?_append_left (by simp;omega)]at e';have hi2:i - (cs.toList.take (sLen*ei.size+0)).length=i - sLen*ei.size:=by simp;omega
          rw[hi2]at e';have hlt:i - sLen*ei.size<new.length:=by omega
          have:new[i - sLen*ei.size]? = some (new.getD (i - sLen*ei.size) undef):=by simp[List.getElem?_eq_getElem hlt]
          exact(f12.2 _ _ v' this e').mono hle
        · rw[if_neg h6];refine(f10 i v' (by omega) ?_).mono hle;rw [List.append_assoc,List.getElem?_append_left (by simp;omega),List.getElem?_take_of_lt (by omega)]at e';simpa using e') (setRow_heap wd B.b cs _ el _ f5) (by simp[World.setRow]) (fun x hx=>setRow_other wd B.b x _ hx) rfl rfl rfl
      refine⟨_,.slice (some ⟨B.b,0,none⟩) (sLen+m) c',_,?_,?_,r1,r2⟩
      · exact wX hd hxd hi f11 hb hfit f13 (by
         dsimp only;rw [add_eq,Nat.zero_add];exact hst)
      · exact .opened (yS _ _ _) hfit (.inl ⟨rfl,by rw[f8];simpa using f4⟩)
    · have hHd:=hH.drawn (wd.drawn+1);obtain⟨_,new2,b2,b3,_⟩:=wW hP hHd hx hz ha;obtain⟨old',o1,o2⟩:=run_loadRow hHd f1 hgb (off:=0) (k:=sLen*ei.size) (by omega);have hold:old'.length=sLen*ei.size:=by rw[← o1.1];exact Tr.length_toListFrom _ _ _ _
      have hnew2:new2.length=m*ei.size:=b2.1.symm.trans f14;obtain⟨newCap,dr,p1,p2⟩:=append_grows (base:=some ⟨B.b,0,none⟩) (tr:=tr) (xr:=xr) (rt:=rt) hd hxd hi hz f11 hb hfit hm b3 o2
      have hzz2:z.cells.size=ei.size:=by
       have:cellsOf z=z.cells.toList:=by cases z <;> rfl
       rw[this]at hzl;simpa using hzl
      obtain⟨k1,k2⟩:=hH.kill b
      obtain⟨r1,r2⟩:=k1.grown (c:=Tr.ofListFrom undef c (sLen*ei.size) new) (need:=sLen+m) (old':=old') (new':=new2) (z:=z.cells) (e:=e) (dr:=dr) (newCap:=newCap) (size:=ei.size) (by omega) hzz2 p1 (by
       intro i v' hi e1;rw [Tr.get_ofListFrom];by_cases h6:sLen*ei.size≤i∧i<sLen*ei.size+new.length
       · rw[if_pos h6];rw [List.getElem?_append_right (by omega)]at e1;have hi2:i - old'.length=i - sLen*ei.size:=by rw[hold]
         rw[hi2]at e1;have hlt:i - sLen*ei.size<new.length:=by omega
         have:new[i - sLen*ei.size]? = some (new.getD (i - sLen*ei.size) undef):=by simp[List.getElem?_eq_getElem hlt]
         exact b2.2 _ _ v' this e1
       · rw[if_neg h6];rw [List.getElem?_append_left (by omega)]at e1
         have:(Tr.toListFrom undef c 0 (sLen*ei.size))[i]? = some (Tr.get undef c i):=by
          rw[Tr.getElem?_toListFrom,if_pos (by omega),Nat.zero_add]
         exact o1.2 i _ v' this e1)
      exact⟨_,_,_,p2,.opened (yS _ _ _) p1 (.inl ⟨rfl,by simp⟩),r1,k2.trans r2⟩
theorem growEx_ok(hP:yH ng P=true){h:zB}{n sLen cap m:Nat}{bs:Option Addr}{sT xT e rt:TypeId}{ei:TypeInfo}{xd:TypeDesc}{x z:Value}{new:List Value}{k:Value→zB→Nat→Bool}{tr:List TypeId}
(hd:und P sT=some (.slice e))(hxd:und P xT=some xd)(hi:inf? P e=some ei)(hz:yT P e=some z)(_hsz:1≤ei.size)(hzl:(cellsOf z).length=ei.size)(hm:sLen+m<1000000)(hb:ei.bytes<100000)(hcap:cap≠inf)
(ha:xR P h e ei.size xd x=some (m,new))
(hg:growEx h n bs sLen cap m ei.size (zc e ei.size) new k=true) :
 ∃v h' n',k v h' n'=true∧∀(ρ : Inj) (base:Nat) (w0 wd:World) (s' x':Value) (xr:List Value),HeapR P ng ρ base w0 h n wd→RV ρ (.slice bs sLen cap) s'→RV ρ x x'→
  ∃ρ' v' wd',(Builtin.append_ ⟨sT::xT::tr⟩ rt ⟨s'::x'::xr⟩).run P wd = .ok v' wd'∧RV ρ' v v'∧HeapR P ng ρ' base w0 h' n' wd'∧Grow ρ h n wd ρ' h' n' wd':=by
 unfold growEx at hg
 cases hin:Nat.ble (Nat.add sLen m) cap with
 | true=>
  rw[hin]at hg;have hin:sLen+m≤cap:=yQ hin;dsimp only[cond]at hg;split at hg
  case h_3=>cases hg
  · rename_i b off;obtain⟨h',g1,_,⟨cc,mm,zz,kd,gg,gl,ge⟩,g2⟩:=storeAt_ok (P:=P) (ng:=ng) hg;refine⟨_,h',n,g1,fun ρ base w0 wd s' x' xr hH hs hx=>?_⟩;obtain⟨a1,new',a2,a3,a4⟩:=wW hP hH hx hz ha
    cases hs with
    | opened=>exact absurd rfl hcap
    | slice0 f1 a=>
     obtain⟨B,f1⟩:∃B,ρ b=some B:=⟨_,f1⟩;obtain rfl:m=0:=by omega
     have hn0:new'=[]:=List.length_eq_zero_iff.1 (by rw[← a2.1,a4,Nat.zero_mul]);subst hn0;obtain⟨wd',q1,q2,q3⟩:=g2 n ρ base w0 wd B [] hH f1 a2;have q1':Result.ok () wd=Result.ok () wd':=q1;injection q1' with _ q1'
     subst q1';refine⟨ρ,.slice (some a) 0 0,wd,?_,.slice0 f1 a,q2,q3⟩;exact wX (base:=some a) (m:=0) hd hxd hi a1 hb hin a3 rfl
    | slice f1 hc hl ho=>
     rename_i B o';obtain⟨wd',q1,q2,q3⟩:=g2 n ρ base w0 wd B new' hH f1 a2;refine⟨ρ,.slice (some ⟨B.b,o',none⟩) (sLen+m) cap,wd',?_,.slice f1 hc hin ho,q2,q3⟩;refine wX hd hxd hi a1 hb hin a3 ?_;dsimp only;rw [add_eq];rcases ho with rfl|ho
     · exact q1
     · have:m*ei.size=0:=by
        have:m=0:=by omega
        rw[this,Nat.zero_mul]
       have hn0:new'=[]:=List.length_eq_zero_iff.1 (by rw[← a2.1,a4,this]);subst hn0;exact q1
  · cases hm0:Nat.beq m 0 with
    | false=>rw [hm0]at hg;cases hg
    | true =>
     rw[hm0]at hg;obtain rfl:=zG hm0;refine⟨_,h,n,hg,fun ρ base w0 wd s' x' xr hH hs hx=>?_⟩;obtain⟨a1,new',a2,a3,a4⟩:=wW hP hH hx hz ha
     cases hs with
     | nilSlice=>
      refine⟨ρ,.slice none sLen cap,wd,?_,.nilSlice _ _ hcap,hH,Grow.refl _ _ _ _ hH.dom⟩;exact wX (base:=none) (m:=0) hd hxd hi a1 hb hin a3 rfl
 | false =>
  rw[hin]at hg;dsimp only[cond]at hg
  have hin:¬sLen+m≤cap:=fun e=>by
   have:Nat.ble (Nat.add sLen m) cap=true:=Nat.ble_eq ▸ e;rw [hin]at this;cases this
  split at hg
  case h_2=>cases hg
  rename_i old ho;obtain⟨_,g2⟩:=uC hg;rw [yJ]at g2;refine⟨_,_,_,g2,fun ρ base w0 wd s' x' xr hH hs hx=>?_⟩;have hHd:=hH.drawn (wd.drawn+1);obtain⟨a1,new',a2,a3,a4⟩:=wW hP hHd hx hz ha;obtain⟨old',o1,o2⟩:=rowOf_ok hHd hs ho (fun s e=>by cases e)
  have holen:old.length=sLen*ei.size:=by
   unfold rowOf at ho;split at ho
   · rename_i cq
     cases hq:Nat.beq sLen 0 with
     | false=>rw [hq]at ho;cases ho
     | true=>
      rw[hq]at ho;injection ho with ho;subst ho
      obtain rfl:=zG hq;simp
   · rename_i bq oq lq cq heq;injection heq with hq1 hq2 hq3
     split at ho
     · rename_i c1 kn1 z1 kd1 hg1
       cases hcq:(Nat.ble sLen sLen && Nat.ble (Nat.add oq (Nat.mul sLen ei.size)) kn1) with
       | false=>subst hq2;rw [hcq]at ho;cases ho
       | true=>
        subst hq2;rw [hcq]at ho;dsimp only[cond]at ho;injection ho with ho;subst ho
        exact Tr.length_toListFrom _ _ _ _
     · rename_i c1 kn1 hg1
       cases hcq:(Nat.ble sLen sLen && Nat.ble (Nat.add oq (Nat.mul sLen ei.size)) kn1) with
       | false=>subst hq2;rw [hcq]at ho;cases ho
       | true=>
        subst hq2;rw [hcq]at ho;dsimp only[cond]at ho;obtain⟨_,rfl⟩:=knownL_some ho;exact Tr.length_toListFrom _ _ _ _
     · cases ho
   · rename_i heq;cases heq
   · cases ho
  have hold':old'.length=sLen*ei.size:=by rw[← o1.1,holen]
  have hnew':new'.length=m*ei.size:=by rw[← a2.1,a4]
  have hmul:(sLen+m)*ei.size=sLen*ei.size+m*ei.size:=Nat.add_mul _ _ _
  have hzz2:z.cells.size=ei.size:=by
   have:cellsOf z=z.cells.toList:=by cases z <;> rfl
   rw[this]at hzl;simpa using hzl
  obtain⟨bs',hs',hbs⟩:∃bs',s' = .slice bs' sLen cap∧True:=by
   cases hs with
   | nilSlice=>exact⟨_,rfl,trivial⟩
   | slice=>exact⟨_,rfl,trivial⟩
   | slice0 _ a=>exact⟨_,rfl,trivial⟩
   | opened=>exact absurd rfl hcap
  subst hs'
  have a1':appLen wd P xd x' m:=by
   unfold appLen at a1 ⊢;split
   · rename_i hq;rw [if_pos hq]at a1;exact a1
   · rename_i hq;rw [if_neg hq]at a1;unfold xR at ha;split at ha
     · exact absurd rfl hq
     · cases hl:lenV x with
       | none=>rw [hl]at ha;cases ha
       | some m2=>
        have h1:=lenV_ok (P:=P) hx hl wd;have h2:=lenV_ok (P:=P) hx hl { wd with drawn:=wd.drawn+1 };rw [h2]at a1;injection a1 with a1
        rw[← a1];exact h1
  obtain⟨newCap,dr,p1,p2⟩:=append_grows (base:=bs') (tr:=tr) (xr:=xr) (rt:=rt) hd hxd hi hz a1' hb hin hm a3 o2;have hall:=o1.append a2
  obtain⟨r1,r2⟩:=hH.grown (c:=Tr.ofListFrom undef .lF 0 (old++new)) (need:=sLen+m) (old':=old') (new':=new') (z:=z.cells) (e:=e) (dr:=dr) (newCap:=newCap) (size:=ei.size) (by omega) hzz2 p1 (by
   intro i v' hi e1;have hlt:i<(old++new).length:=by simp;omega
   rw[Tr.get_ofListFrom,if_pos (by omega)];have:(old++new)[i]? = some ((old++new).getD (i - 0) undef):=by simp[List.getElem?_eq_getElem hlt]
   exact hall.2 i _ v' this e1)
  exact⟨_,_,_,p2,.opened (yS _ _ _) p1 (.inl ⟨rfl,by simp⟩),r1,r2⟩
theorem xappend_ok(hP:yH ng P=true){h:zB}{n:Nat}{tys:List TypeId}{args:List Value}{rt:TypeId}{k:Value→zB→Nat→Bool}(hx:xappend P tys args h n k=true) :
 ∃v h' n',k v h' n'=true∧∀(ρ : Inj) (base:Nat) (w0 wd:World) (args':List Value),HeapR P ng ρ base w0 h n wd→RVs ρ args args'→
  ∃ρ' v' wd',(Builtin.append_ ⟨tys⟩ rt ⟨args'⟩).run P wd = .ok v' wd'∧RV ρ' v v'∧HeapR P ng ρ' base w0 h' n' wd'∧Grow ρ h n wd ρ' h' n' wd':=by
 unfold xappend at hx;split at hx
 case h_2=>cases hx
 rename_i sT xT tr bs sLen cap x xr;split at hx
 case h_2=>cases hx
 rename_i e xd hd hxd;split at hx
 case h_2=>cases hx
 rename_i ei z hi hz
 cases ha:xR P h e ei.size xd x with
 | none=>rw [ha]at hx;cases hx
 | some p =>
  obtain⟨m,new⟩:=p;rw [ha]at hx;dsimp only at hx
  cases hc:(Nat.beq ei.size 0 || !Nat.beq (cellsOf z).length ei.size || !Nat.blt (Nat.add sLen m) 1000000 || !Nat.blt ei.bytes 100000) with
  | true=>rw [hc]at hx;cases hx
  | false =>
   rw[hc]at hx;dsimp only[cond]at hx;simp only[Bool.or_eq_false_iff,Bool.not_eq_false']at hc;obtain⟨⟨⟨q1,q2⟩,q3⟩,q4⟩:=hc
   have q1:1≤ei.size:=by
    rcases Nat.eq_zero_or_pos ei.size with e0|e0
    · rw[e0]at q1;cases q1
    · exact e0
   have q2:=zG q2;have q3:sLen+m<1000000:=zY q3;have q4:=zY q4
   have pass:∀{R:Prop},(∃v h' n',k v h' n'=true∧∀(ρ : Inj) (base:Nat) (w0 wd:World) (s' x':Value) (xr':List Value),HeapR P ng ρ base w0 h n wd→RV ρ (.slice bs sLen cap) s'→RV ρ x x'→
    ∃ρ' v' wd',(Builtin.append_ ⟨sT::xT::tr⟩ rt ⟨s'::x'::xr'⟩).run P wd = .ok v' wd'∧RV ρ' v v'∧HeapR P ng ρ' base w0 h' n' wd'∧Grow ρ h n wd ρ' h' n' wd')→
    ∃v h' n',k v h' n'=true∧∀(ρ : Inj) (base:Nat) (w0 wd:World) (args':List Value),HeapR P ng ρ base w0 h n wd→RVs ρ (.slice bs sLen cap::x::xr) args'→
    ∃ρ' v' wd',(Builtin.append_ ⟨sT::xT::tr⟩ rt ⟨args'⟩).run P wd = .ok v' wd'∧RV ρ' v v'∧HeapR P ng ρ' base w0 h' n' wd'∧Grow ρ h n wd ρ' h' n' wd':=by
    rintro - ⟨v,h',n',k1,k2⟩
    refine⟨v,h',n',k1,fun ρ base w0 wd args' hH hr=>?_⟩;obtain⟨s',l1,rfl,hs,hr⟩:=hr.of_cons;obtain⟨x',l2,rfl,hx,_⟩:=hr.of_cons;exact k2 ρ base w0 wd s' x' l2 hH hs hx
   apply pass (R:=True)
   cases hm0:(Nat.beq m 0 && !Nat.beq cap 0 && (Nat.beq cap inf || Nat.ble sLen cap)) with
   | true =>
    rw[hm0]at hx;simp only[Bool.and_eq_true]at hm0;obtain⟨⟨m1,m2⟩,m3⟩:=hm0;obtain rfl:=zG m1;refine⟨_,h,n,hx,fun ρ base w0 wd s' x' xr' hH hs hx=>?_⟩;obtain⟨a1,new',a2,a3,a4⟩:=wW hP hH hx hz ha;have hn0:new'=[]:=List.length_eq_zero_iff.1 (by rw[← a2.1,a4,Nat.zero_mul]);subst hn0
    have key:∃bs' c',s' = .slice bs' sLen c'∧sLen≤c':=by
     cases hs with
     | nilSlice _ _ hc=>
      refine⟨_,_,rfl,?_⟩;rcases Bool.or_eq_true_iff.1 m3 with e1|e1
      · exact absurd (zG e1) hc
      · exact yQ e1
     | slice _ _ hl _=>exact⟨_,_,rfl,hl⟩
     | slice0 _ a=>exact⟨_,_,rfl,Nat.le_refl _⟩
     | opened _ hl _=>exact⟨_,_,rfl,hl⟩
    obtain⟨bs',c',rfl,hle⟩:=key;refine⟨ρ,.slice bs' sLen c',wd,?_,hs,hH,Grow.refl _ _ _ _ hH.dom⟩;exact wX (m:=0) hd hxd hi a1 q4 hle a3 (by cases bs' <;> rfl)
   | false =>
    rw[hm0]at hx;dsimp only[cond]at hx
    cases hc:Nat.beq cap inf with
    | true=>
     rw[hc]at hx;obtain rfl:=zG hc;dsimp only at hx;split at hx
     · rename_i b;exact growOpen_ok hP hd hxd hi hz q1 q2 q3 q4 ha hx
     · cases hx
    | false=>
     rw[hc]at hx;have hcap:cap≠inf:=fun e=>by subst e;rw [Nat.beq_refl]at hc;cases hc
     exact growEx_ok hP hd hxd hi hz q1 q2 q3 q4 hcap ha hx
end
end Go.Ex
