/- What the law leans on: an executor of the model that is sound, deduction over it, and the walks through the code (part 3 of 24). Conditions: those that each theorem states. -/
import Derived.Test.YtdipdkkpgjdnkaaGreatDoorVirLinesx2
import Derived.Laws.Cells
import Derived.Laws.Entries
import Derived.ChangeKeysEq
import Derived.IntWalk
import Derived.Laws.Slices
import Derived.Laws.Strings
import Derived.Laws.StructEq
import Derived.Laws.Tables

set_option linter.unusedVariables false
set_option linter.unusedSimpArgs false
namespace Go.Ex
theorem zY{a b:Nat}(h:Nat.blt a b=true):a<b:=by rw[Nat.blt_eq]at h;exact h
theorem yQ{a b:Nat}(h:Nat.ble a b=true):a≤b:=Nat.le_of_ble_eq_true h
theorem zG{a b:Nat}(h:Nat.beq a b=true):a=b:=Nat.eq_of_beq_eq_true h
theorem get_tabFrom{α : Type}:∀(l:List α) (t:Tr (Option α)) (i j:Nat),Tr.get none (tabFrom t i l) j=if i≤j∧j<i+l.length then l[j - i]? else Tr.get none t j:=by
 intro l
 induction l with
 | nil=>intro t i j;simp [tabFrom];omega
 | cons v l ih=>
  intro t i j;simp only[tabFrom,ih,Tr.get_set_if,List.length_cons];by_cases h1:i=j
  · subst h1;have h2:¬(i+1≤i∧i<i+1+l.length):=by omega
    have h3:i≤i∧i<i+(l.length+1):=by omega
    rw[if_neg h2,if_pos h3];simp
  · by_cases h2:i+1≤j∧j<i+1+l.length
    · have h3:i≤j∧j<i+(l.length+1):=by omega
      rw[if_pos h2,if_pos h3];have:j - i=(j - (i+1))+1:=by omega
      rw[this];rfl
    · have h3:¬(i≤j∧j<i+(l.length+1)):=by omega
      simp[h2,h3,h1]
theorem tab_some{α : Type}{l:List α}{j:Nat}{x: α}(h:Tr.get none (tabFrom .lF 0 l) j=some x):l[j]? = some x:=by
 rw[get_tabFrom]at h;split at h
 · simpa using h
 · rw[Tr.get_leaf]at h;cases h
theorem yX{P:Program}{t:TypeId}{i:TypeInfo}(h:inf? P t=some i):P.types[t]? = some i∧P.info? t=some i:=by
 have h1:P.types.toList[t]? = some i:=tab_some h;have h2:P.types[t]? = some i:=by simpa using h1
 refine⟨h2,?_⟩
 have hlt:t<P.types.size:=by
  rcases Nat.lt_or_ge t P.types.size with h3|h3
  · exact h3
  · rw[Array.getElem?_eq_none h3]at h2;cases h2
 unfold Tables.info?;rw [if_pos hlt];exact h2
theorem xS{P:Program}{t:TypeId}{d:TypeDesc}(h:und P t=some d):P.underlying t=some d:=by
 unfold und at h;unfold Program.underlying
 cases hi:inf? P t with
 | none=>rw [hi]at h;cases h
 | some i =>
  rw[hi]at h;rw [(yX hi).2];obtain⟨desc,st,sz,by_,hp,al,fa,zr,co,me⟩:=i
  cases desc with
  | named nm u=>
   simp only at h ⊢
   cases hj:inf? P u with
   | none=>rw [hj]at h;cases h
   | some j=>rw [hj]at h;rw [(yX hj).2];exact h
  | _=>exact h
theorem zero_some{P:Program}{t:TypeId}{z:Value}(h:yT P t=some z):∃i,P.info? t=some i∧P.types[t]? = some i∧i.zero=some z:=by
 unfold yT at h
 cases hi:inf? P t with
 | none=>rw [hi]at h;cases h
 | some i=>rw [hi]at h;exact⟨i,(yX hi).2,(yX hi).1,h⟩
theorem runTI{P:Program}{t:TypeId}{i:TypeInfo}(h:P.info? t=some i)(w:World):(typeInfo t).run P w = .ok i w:=by
 simp[typeInfo,h]
theorem wA{P:Program}{t:TypeId}{z:Value}(h:yT P t=some z)(w:World):(zeroValue t).run P w = .ok z w:=by
 obtain⟨i,h1,_,h3⟩:=zero_some h;simp [zeroValue,runTI h1,h3]
theorem wI{P:Program}{ng:Nat}(hP:yH ng P=true){t:TypeId}{z:Value}(h:yT P t=some z):vC z=true:=by
 obtain⟨i,_,h2,h3⟩:=zero_some h;unfold yH at hP;have h4:=(Bool.and_eq_true_iff.1 hP).2
 have h5:=List.all_eq_true.1 h4 i (by
  have:P.types.toList[t]? = some i:=by simpa using h2
  exact List.mem_of_getElem? this)
 rw[h3]at h5;exact h5
theorem yN{P:Program}{t:TypeId}{i:TypeInfo}(h:inf? P t=some i)(w:World):(sizeOf t).run P w = .ok i.size w:=by
 simp[sizeOf,runTI (yX h).2]
theorem zM{P:Program}{t:TypeId}{d:TypeDesc}(h:und P t=some d)(w:World):(underlying t).run P w = .ok d w:=run_underlying (xS h) w
theorem run_agg?{P:Program}{t:TypeId}{d:TypeDesc}(h:und P t=some d)(w:World):(isAgg t).run P w = .ok (aggT d) w:=by
 simp only[isAgg,Sem.run_bind,zM h,Result.andThen_ok];cases d <;> rfl
theorem uL{R:Type}{v:Value}{f:IntKind→Int→R}{d r:R}(h:onInt v f d=r):(∃k n,v = .int k n∧f k n=r)∨d=r:=by
 cases v with
 | int k n=>exact .inl ⟨k,n,rfl,h⟩
 | _=>exact .inr h
theorem onBool_some{R:Type}{v:Value}{f:Bool→R}{d r:R}(h:onBool v f d=r):(∃b,v = .bool b∧f b=r)∨d=r:=by
 cases v with
 | bool b=>exact .inl ⟨b,rfl,h⟩
 | _=>exact .inr h
theorem uM{R:Type}{v:Value}{f:Nat→Nat→R}{d r:R}(h:onPtr v f d=r):(∃b o,v = .pointer (some ⟨b,o,none⟩)∧f b o=r)∨d=r:=by
 cases v with
 | pointer a =>
  cases a with
  | none=>exact .inr h
  | some a=>
   obtain⟨b,o,s⟩:=a
   cases s with
   | none=>exact .inl ⟨b,o,rfl,h⟩
   | some s=>exact .inr h
 | _=>exact .inr h
theorem onSlice_some{R:Type}{v:Value}{f:Nat→Nat→Nat→Nat→R}{d r:R}(h:onSlice v f d=r):(∃b o l c,v = .slice (some ⟨b,o,none⟩) l c∧f b o l c=r)∨d=r:=by
 cases v with
 | slice a l c =>
  cases a with
  | none=>exact .inr h
  | some a=>
   obtain⟨b,o,s⟩:=a
   cases s with
   | none=>exact .inl ⟨b,o,l,c,rfl,h⟩
   | some s=>exact .inr h
 | _=>exact .inr h
theorem onCells_some{R:Type}{o:AObj}{f:Tr Value→Nat→Nat→Nat→R}{d r:R}(h:onCells o f d=r):(∃c n z kd,o = .cells c n z kd∧f c n z kd=r)∨d=r:=by
 cases o with
 | cells c n z kd=>exact .inl ⟨c,n,z,kd,rfl,h⟩
 | _=>exact .inr h
theorem onRows_some{R:Type}{o:AObj}{f g:Tr Value→Nat→R}{d r:R}(h:onRows o f g d=r):(∃c n z kd,o = .cells c n z kd∧f c n=r)∨(∃c n,o = .rows c n∧g c n=r)∨d=r:=by
 cases o with
 | cells c n z kd=>exact .inl ⟨c,n,z,kd,rfl,h⟩
 | rows c n=>exact .inr (.inl ⟨c,n,rfl,h⟩)
 | _=>exact .inr (.inr h)
theorem yI{R:Type}(v:Value)(k:Value→R):xA v k=k v:=by cases v <;> rfl
theorem known1_some{v w:Value}(h:uJ v=some w):isU v=false∧v=w:=by
 unfold uJ at h
 cases e:isU v with
 | true=>rw [e]at h;cases h
 | false=>rw [e]at h;simp only[yI]at h;injection h with h;exact⟨rfl,h⟩
theorem known1_of{v:Value}(h:isU v=false):uJ v=some v:=by unfold uJ;rw [h];simp only[yI]
theorem knownL_some{l w:List Value}(h:knownL l=some w):l.any isU=false∧l=w:=by
 unfold knownL at h
 cases e:l.any isU with
 | true=>rw [e]at h;cases h
 | false=>rw [e]at h;injection h with h;exact⟨rfl,h⟩
theorem knownL_of{l:List Value}(h:l.any isU=false):knownL l=some l:=by unfold knownL;rw [h]
theorem knownN_some{l:List Value}{w:Value}(h:uK l=some w):l.any isU=false∧w = .agg ⟨l⟩:=by
 unfold uK at h
 cases e:l.any isU with
 | true=>rw [e]at h;cases h
 | false=>rw [e]at h;injection h with h;exact⟨rfl,h.symm⟩
theorem knownN_of{l:List Value}(h:l.any isU=false):uK l=some (.agg ⟨l⟩):=by unfold uK;rw [h]
theorem forceOne_true{v:Value}{k:Value→Bool}(h:forceOne v k=true):v.oneCell'=true∧k v=true:=by
 cases v <;> first|exact⟨rfl,h⟩|cases h
theorem RV.one{ρ : Inj}{v v':Value}(h:RV ρ v v')(h1:v.oneCell'=true):v'.oneCell'=true:=by
 cases h <;> first|rfl|cases h1
section
variable {P:Program} {ng:Nat} {ρ : Inj} {base:Nat} {w0:World} {hp:zB} {n:Nat} {wd:World} {N:Nat} {t:Fr} {a:Act}
theorem ev_rv(hH:HeapR P ng ρ base w0 hp n wd)(hT:TmR ρ N t a.tmps){x:Operand}(hx:opnOK ng N x=true):RV ρ (ev t x) (a.eval x):=by
 cases x with
 | tmp i=>
  have hi:i<N:=zY hx;have hlt:i<a.tmps.size:=Nat.lt_of_lt_of_le hi hT.le;have h:=hT.tm i a.tmps[i] (Array.getElem?_eq_getElem hlt);show RV ρ (fget t i) (a.tmps.getD i undef);rw [Array.getD,dif_pos hlt];exact h
 | const v=>exact RV.plain hx ρ
 | global g=>
  obtain⟨B,e1,e2⟩:=hH.glob g (zY hx);have:=RV.ptr (o:=0) e1;rw [e2]at this;exact this
 | func f=>exact .func (by intro l;exact Fn.noConfusion) rfl rfl (by intro i v v' e;simp at e) (by intro i v v' e;simp at e)
theorem cell_at(hH:HeapR P ng ρ base w0 hp n wd){b:Nat}{B:Bl}(hb: ρ b=some B){c:Tr Value}{m z kd:Nat}(hg:zF hp b = .cells c m z kd){i:Nat}(hi:i<m) :
 ∃v',wd.cell? ⟨B.b,i,none⟩=some v'∧RV ρ (Tr.get undef c i) v':=by
 obtain⟨o,e1,e2⟩:=hH.obj b B hb (by rw[hg];exact AObj.noConfusion);rw [hg]at e2
 cases e2 with
 | cells hn hs hk hz hv hb' hf=>
  rename_i c' el lo hi';have hlt:i<c'.size:=by omega
  refine⟨c'[i],?_,hv i c'[i] hi (Array.getElem?_eq_getElem hlt)⟩;simp [World.cell?,e1,hlt]
theorem cells_at(hH:HeapR P ng ρ base w0 hp n wd){b:Nat}{B:Bl}(hb: ρ b=some B){c:Tr Value}{m z kd:Nat}(hg:zF hp b = .cells c m z kd){off k:Nat}(hi:off+k≤m) :
 ∃l',RVs ρ (c.toListFrom undef off k) l'∧l'.length=k∧∀(j:Nat) (v:Value),l'[j]? = some v→wd.cell? ⟨B.b,off+j,none⟩=some v:=by
 induction k generalizing off with
 | zero=>exact⟨[],RVs.nil ρ,rfl,fun j v e=>by simp at e⟩
 | succ k ih =>
  obtain⟨v',e1,e2⟩:=cell_at hH hb hg (i:=off) (by omega);obtain⟨l',r1,r2,r3⟩:=ih (off:=off+1) (by omega);refine⟨v'::l',RVs.cons e2 r1,by simp[r2],fun j v e=>?_⟩
  cases j with
  | zero=>simp at e;subst e;simpa using e1
  | succ j=>
   have:=r3 j v (by simpa using e);rw [← this];congr 2
   omega
theorem rcell_at(hH:HeapR P ng ρ base w0 hp n wd){b:Nat}{B:Bl}(hb: ρ b=some B){c:Tr Value}{m:Nat}(hg:zF hp b = .rows c m){i:Nat}(hi:i<m)(hu:isU (Tr.get undef c i)=false) :
 ∃v',wd.cell? ⟨B.b,i,none⟩=some v'∧RV ρ (Tr.get undef c i) v':=by
 obtain⟨o,e1,e2⟩:=hH.obj b B hb (by rw[hg];exact AObj.noConfusion);rw [hg]at e2
 cases e2 with
 | rows hn hv=>
  rename_i c' el fr;have hlt:i<c'.size:=by omega
  refine⟨c'[i],?_,hv i c'[i] (Array.getElem?_eq_getElem hlt) hu⟩;simp [World.cell?,e1,hlt]
theorem rcells_at(hH:HeapR P ng ρ base w0 hp n wd){b:Nat}{B:Bl}(hb: ρ b=some B){c:Tr Value}{m:Nat}(hg:zF hp b = .rows c m){off k:Nat}(hi:off+k≤m)(hu:(c.toListFrom undef off k).any isU=false) :
 ∃l',RVs ρ (c.toListFrom undef off k) l'∧l'.length=k∧∀(j:Nat) (v:Value),l'[j]? = some v→wd.cell? ⟨B.b,off+j,none⟩=some v:=by
 induction k generalizing off with
 | zero=>exact⟨[],RVs.nil ρ,rfl,fun j v e=>by simp at e⟩
 | succ k ih =>
  have hu2:(isU (Tr.get undef c off) || (c.toListFrom undef (off+1) k).any isU)=false:=hu;obtain⟨u1,u2⟩:=Bool.or_eq_false_iff.1 hu2;obtain⟨v',e1,e2⟩:=rcell_at hH hb hg (i:=off) (by omega) u1;obtain⟨l',r1,r2,r3⟩:=ih (off:=off+1) (by omega) u2;refine⟨v'::l',RVs.cons e2 r1,by simp[r2],fun j v e=>?_⟩
  cases j with
  | zero=>simp at e;subst e;simpa using e1
  | succ j=>
   have:=r3 j v (by simpa using e);rw [← this];congr 2
   omega
theorem run_loadRows(hH:HeapR P ng ρ base w0 hp n wd){b:Nat}{B:Bl}(hb: ρ b=some B){c:Tr Value}{m:Nat}(hg:zF hp b = .rows c m){off k:Nat}(hi:off+k≤m)(hu:(c.toListFrom undef off k).any isU=false) :
 ∃l',RVs ρ (c.toListFrom undef off k) l'∧(loadCells ⟨B.b,off,none⟩ k).run P wd = .ok ⟨l'⟩ wd:=by
 obtain⟨l',r1,r2,r3⟩:=rcells_at hH hb hg hi hu;refine⟨l',r1,?_⟩
 have:=run_loadCells_list (P:=P) (w:=wd) ⟨B.b,off,none⟩ l' fun j v e=>by
  have h:=r3 j v e;unfold Addr.add;split
  · rename_i h0;subst h0;simpa using h
  · exact h
 rw[r2]at this;exact this
theorem run_loadRow(hH:HeapR P ng ρ base w0 hp n wd){b:Nat}{B:Bl}(hb: ρ b=some B){c:Tr Value}{m z kd:Nat}(hg:zF hp b = .cells c m z kd){off k:Nat}(hi:off+k≤m) :
 ∃l',RVs ρ (c.toListFrom undef off k) l'∧(loadCells ⟨B.b,off,none⟩ k).run P wd = .ok ⟨l'⟩ wd:=by
 obtain⟨l',r1,r2,r3⟩:=cells_at hH hb hg hi;refine⟨l',r1,?_⟩
 have:=run_loadCells_list (P:=P) (w:=wd) ⟨B.b,off,none⟩ l' fun j v e=>by
  have h:=r3 j v e;unfold Addr.add;split
  · rename_i h0;subst h0;simpa using h
  · exact h
 rw[r2]at this;exact this
theorem shape_scal{ty:TypeId}(h:yM P ty = .scal):∃d i,und P ty=some d∧aggT d=false∧inf? P ty=some i∧i.size=1:=by
 unfold yM at h
 cases h1:und P ty with
 | none=>rw [h1]at h;cases h
 | some d =>
  cases h2:inf? P ty with
  | none=>rw [h1,h2]at h;cases h
  | some i =>
   rw[h1,h2]at h;dsimp only at h
   cases h3:aggT d with
   | true=>rw [h3]at h;cases h
   | false=>
    rw[h3]at h;dsimp only[cond]at h
    cases h4:Nat.beq i.size 1 with
    | false=>rw [h4]at h;cases h
    | true=>exact⟨d,i,rfl,h3,rfl,zG h4⟩
theorem shape_agg{ty:TypeId}{k:Nat}(h:yM P ty = .agg k):∃d i,und P ty=some d∧aggT d=true∧inf? P ty=some i∧i.size=k:=by
 unfold yM at h
 cases h1:und P ty with
 | none=>rw [h1]at h;cases h
 | some d =>
  cases h2:inf? P ty with
  | none=>rw [h1,h2]at h;cases h
  | some i =>
   rw[h1,h2]at h
   cases h3:aggT d with
   | false=>
    simp only[h3,cond]at h;cases h4:Nat.beq i.size 1 <;> rw[h4]at h <;> cases h
   | true=>
    simp only[h3,cond]at h;injection h with h
    exact⟨d,i,rfl,h3,rfl,h⟩
theorem load_ok(hH:HeapR P ng ρ base w0 hp n wd){ty:TypeId}{x x':Value}(hx:RV ρ x x'){v:Value}
(h:onPtr x (fun b off=>onRows (zF hp b) (fun c kn=>
  Sh.rec none (Bool.rec none (xA (Tr.get undef c off) some) (Nat.blt off kn))
   (fun sz=>Bool.rec none (some (.agg ⟨c.toListFrom undef off sz⟩)) (Nat.ble (Nat.add off sz) kn)) (yM P ty)) (fun c kn=>
  Sh.rec none (Bool.rec none (uJ (Tr.get undef c off)) (Nat.blt off kn))
   (fun sz=>Bool.rec none (uK (c.toListFrom undef off sz)) (Nat.ble (Nat.add off sz) kn)) (yM P ty)) none) none=some v) :
 ∃v',(Instr.loadAt ty x').run P wd = .ok v' wd∧RV ρ v v':=by
 rcases uM h with⟨b,off,rfl,h⟩|h
 case inr=>cases h
 obtain⟨B,hb,_,rfl⟩:=hx.of_ptr;have hb': ρ b=some B:=hb;rcases onRows_some h with⟨c,kn,z,kd,hg,h⟩|⟨c,kn,hg,h⟩|h
 case inr.inr=>cases h
 case inr.inl=>
  cases hs:yM P ty with
  | bad=>rw [hs]at h;cases h
  | scal =>
   rw[hs]at h;dsimp only at h;obtain⟨d,_,hd,ha,_⟩:=shape_scal hs
   cases hlt:Nat.blt off kn with
   | false=>rw [hlt]at h;cases h
   | true=>
    rw[hlt]at h;obtain⟨u1,u2⟩:=known1_some (show uJ (Tr.get undef c off)=some v from h);subst u2;obtain⟨v',e1,e2⟩:=rcell_at hH hb' hg (zY hlt) u1;refine⟨v',?_,e2⟩;simp [Instr.loadAt,Instr.sureAddr,loadVar,run_agg? hd,ha,e1]
  | agg sz =>
   rw[hs]at h;dsimp only at h;obtain⟨d,i,hd,ha,hi,hsz⟩:=shape_agg hs
   cases hle:Nat.ble (Nat.add off sz) kn with
   | false=>rw [hle]at h;cases h
   | true=>
    rw[hle]at h;obtain⟨u1,u2⟩:=knownN_some (show uK (c.toListFrom undef off sz)=some v from h);subst u2;obtain⟨l',r1,r2⟩:=run_loadRows hH hb' hg (off:=off) (k:=sz) (yQ hle) u1;refine⟨.agg ⟨l'⟩,?_,RV.mk_agg r1⟩;simp [Instr.loadAt,Instr.sureAddr,loadVar,run_agg? hd,ha,yN hi,hsz,r2]
 cases hs:yM P ty with
 | bad=>rw [hs]at h;cases h
 | scal =>
  rw[hs]at h;dsimp only at h;obtain⟨d,_,hd,ha,_⟩:=shape_scal hs
  cases hlt:Nat.blt off kn with
  | false=>rw [hlt]at h;cases h
  | true=>
   rw[hlt]at h;simp only[yI]at h;injection h with h
   subst h;obtain⟨v',e1,e2⟩:=cell_at hH hb' hg (zY hlt);refine⟨v',?_,e2⟩;simp [Instr.loadAt,Instr.sureAddr,loadVar,run_agg? hd,ha,e1]
 | agg sz =>
  rw[hs]at h;dsimp only at h;obtain⟨d,i,hd,ha,hi,hsz⟩:=shape_agg hs
  cases hle:Nat.ble (Nat.add off sz) kn with
  | false=>rw [hle]at h;cases h
  | true=>
   rw[hle]at h;injection h with h
   subst h;obtain⟨l',r1,r2⟩:=run_loadRow hH hb' hg (off:=off) (k:=sz) (yQ hle);refine⟨.agg ⟨l'⟩,?_,RV.mk_agg r1⟩;simp [Instr.loadAt,Instr.sureAddr,loadVar,run_agg? hd,ha,yN hi,hsz,r2]
end
end Go.Ex
namespace Go.Ex
theorem add_eq(b o n:Nat):(⟨b,o,none⟩:Addr).add n=⟨b,o+n,none⟩:=by
 unfold Addr.add;by_cases h:n=0
 · subst h;rfl
 · rw[if_neg h]
theorem takeFrom_eq:∀(i n:Nat) (l:List Value),wM i n l=(l.drop i).take n:=by
 intro i
 induction i with
 | zero =>
  intro n
  induction n with
  | zero=>intro l;simp [wM]
  | succ n ih =>
   intro l
   cases l with
   | nil=>simp [wM]
   | cons v r=>
    have:=ih r;simp only[List.drop_zero]at this ⊢;show v::wM 0 n r=_;rw [this];rfl
 | succ i ih =>
  intro n l
  cases n with
  | zero=>simp [wM]
  | succ n =>
   cases l with
   | nil=>simp [wM]
   | cons v r=>
    show wM i (n+1) r=_;rw [ih (n+1) r];rfl
theorem extract_toList(c:Array Value)(i n:Nat):(c.extract i (i+n)).toList=(c.toList.drop i).take n:=by
 simp[Array.toList_extract]
section
variable {P:Program} {ng:Nat} {ρ : Inj} {base:Nat} {w0:World} {hp:zB} {n:Nat} {wd:World}
theorem part_ok{t:TypeId}{cs cs':List Value}{off:Nat}{v:Value}(hc:RVs ρ cs cs')(h:aPart P t cs off=some v) :
 ∃v',(part t ⟨cs'⟩ off).run P wd = .ok v' wd∧RV ρ v v':=by
 unfold aPart at h
 cases hd:und P t with
 | none=>rw [hd]at h;cases h
 | some d =>
  cases hi:inf? P t with
  | none=>rw [hd,hi]at h;cases h
  | some i =>
   rw[hd,hi]at h;dsimp only at h
   cases ha:aggT d with
   | true =>
    rw[ha]at h;dsimp only[cond]at h
    cases hb:Nat.ble (Nat.add off i.size) cs.length with
    | false=>rw [hb]at h;cases h
    | true=>
     rw[hb]at h;dsimp only[cond]at h;injection h with h
     subst h;refine⟨.agg ((⟨cs'⟩:Array Value).extract off (off+i.size)),?_,?_⟩
     · simp[part,run_agg? hd,ha,yN hi]
     · have:RVs ρ (wM off i.size cs) ((⟨cs'⟩:Array Value).extract off (off+i.size)).toList:=by
        rw[extract_toList,takeFrom_eq];exact(hc.drop off).take i.size
       exact .agg this.1 this.2
   | false=>
    rw[ha]at h;dsimp only[cond]at h;obtain⟨v',e1,e2⟩:=hc.at h;refine⟨v',?_,e2⟩;simp [part,run_agg? hd,ha,e1]
theorem off_some{t:TypeId}{f o:Nat}(h:offOf P t f=some o):∃fs fd i,und P t=some (.struct fs)∧fs[f]? = some fd∧inf? P fd.type=some i∧i.size≠0∧fd.offset=o:=by
 unfold offOf at h
 cases hd:und P t with
 | none=>rw [hd]at h;cases h
 | some d =>
  rw[hd]at h
  cases d with
  | struct fs =>
   dsimp only at h
   cases hf:fs[f]? with
   | none=>rw [hf]at h;cases h
   | some fd =>
    rw[hf]at h;dsimp only at h
    cases hi:inf? P fd.type with
    | none=>rw [hi]at h;cases h
    | some i =>
     rw[hi]at h;dsimp only at h
     cases hz:Nat.beq i.size 0 with
     | true=>rw [hz]at h;cases h
     | false=>
      rw[hz]at h;dsimp only[cond]at h;injection h with h
      exact⟨fs,fd,i,rfl,hf,hi,fun e=>(by rw[e]at hz;cases hz),h⟩
  | _=>cases h
theorem fieldAddr_ok{t:TypeId}{f o b':Nat}{off:Nat}(h:offOf P t f=some o) :
 (Instr.fieldAt t (.pointer (some ⟨b',off,none⟩)) f).run P wd = .ok (.pointer (some ⟨b',off+o,none⟩)) wd:=by
 obtain⟨fs,fd,i,hd,hf,hi,hz,rfl⟩:=off_some h;simp [Instr.fieldAt,zM hd,hf,Instr.sureAddr,fieldPlace,yN hi,hz,add_eq]
theorem ix_slice{t:TypeId}{sz:Nat}(h:ixOf P t = .slice sz):∃e i,und P t=some (.slice e)∧inf? P e=some i∧i.size=sz:=by
 unfold ixOf at h
 cases hd:und P t with
 | none=>rw [hd]at h;cases h
 | some d =>
  rw[hd]at h
  cases d with
  | slice e=>
   dsimp only at h
   cases hi:inf? P e with
   | none=>rw [hi]at h;cases h
   | some i=>rw [hi]at h;dsimp only at h;injection h with h;exact⟨e,i,rfl,hi,h⟩
  | array len e=>
   dsimp only at h
   cases hi:inf? P e with
   | none=>rw [hi]at h;cases h
   | some i=>rw [hi]at h;cases h
  | _=>cases h
theorem ix_array{t:TypeId}{len sz:Nat}(h:ixOf P t = .array len sz):∃e i,und P t=some (.array len e)∧inf? P e=some i∧i.size=sz:=by
 unfold ixOf at h
 cases hd:und P t with
 | none=>rw [hd]at h;cases h
 | some d =>
  rw[hd]at h
  cases d with
  | slice e=>
   dsimp only at h
   cases hi:inf? P e with
   | none=>rw [hi]at h;cases h
   | some i=>rw [hi]at h;cases h
  | array l e=>
   dsimp only at h
   cases hi:inf? P e with
   | none=>rw [hi]at h;cases h
   | some i=>rw [hi]at h;dsimp only at h;injection h with h1 h2;subst h1;exact⟨e,i,rfl,hi,h2⟩
  | _=>cases h
theorem RV.of_slice{ρ : Inj}{b o l c:Nat}{v:Value}(h:RV ρ (.slice (some ⟨b,o,none⟩) l c) v) :
 (∃(B:Bl) (o' c':Nat),ρ b=some B∧v = .slice (some ⟨B.b,o',none⟩) l c'∧(0<l→o'=o)∧l≤c'∧
  ((c≠inf∧c'=c∧(o'=o∨c=0))∨(c=inf∧((o'=o∧o+c'*B.z=B.n)∨(c'=0∧0<o)))))∨
 (l=0∧c=0∧(∃B:Bl,ρ b=some B)∧∃a:Addr,v = .slice (some a) 0 0):=by
 cases h with
 | slice h hc hl ho=>exact .inl ⟨_,_,c,h,rfl,fun h0=>ho.resolve_right (by omega),hl,.inl ⟨hc,rfl,ho⟩⟩
 | slice0 h a=>exact .inr ⟨rfl,rfl,⟨_,h⟩,a,rfl⟩
 | opened h hl ho=>
  refine .inl ?_;refine⟨_,_,_,h,rfl,fun hl0=>?_,hl,.inr ⟨rfl,ho⟩⟩;rcases ho with ho|ho
  · exact ho.1
  · omega
theorem indexAddr_ok{ty:TypeId}{x x':Value}{k:IntKind}{i:Int}(hx:RV ρ x x'){v:Value}
(h:(Int.rec (fun i=>Ix.rec none
  (fun sz=>onSlice x (fun b off len _=>Bool.rec none (some (.pointer (some ⟨b,Nat.add off (Nat.mul i sz),none⟩))) (Nat.blt i len)) none)
  (fun len sz=>onPtr x (fun b off=>Bool.rec none (some (.pointer (some ⟨b,Nat.add off (Nat.mul i sz),none⟩))) (Nat.blt i len)) none) (ixOf P ty)) (fun _=>none) i:Option Value)=some v) :
 ∃v',(Instr.indexAt ty x' (.int k i)).run P wd = .ok v' wd∧RV ρ v v':=by
 cases i with
 | negSucc m=>cases h
 | ofNat m =>
  dsimp only at h
  cases hix:ixOf P ty with
  | bad=>rw [hix]at h;cases h
  | slice sz =>
   rw[hix]at h;dsimp only at h;obtain⟨e,ei,hd,hi,rfl⟩:=ix_slice hix;rcases onSlice_some h with⟨b,off,len,c,hxe,h2⟩|h2
   case inr=>cases h2
   clear h;have h:=h2;clear h2;subst hxe
   cases hlt:Nat.blt m len with
   | false=>rw [hlt]at h;cases h
   | true=>
    rw[hlt]at h;dsimp only at h;injection h with h
    subst h;have hm:=zY hlt;rcases hx.of_slice with⟨B,o',c',hb,rfl,ho,_⟩|⟨h0,_⟩
    rotate_left
    · omega
    obtain rfl:=ho (by omega);refine⟨.pointer (some ⟨B.b,o'+m*ei.size,none⟩),?_,RV.ptr hb⟩;simp [Instr.indexAt,asIntOf,zM hd,yN hi,add_eq,hm]
  | array len sz =>
   rw[hix]at h;dsimp only at h;obtain⟨e,ei,hd,hi,rfl⟩:=ix_array hix;rcases uM h with⟨b,off,hxe,h2⟩|h2
   case inr=>cases h2
   clear h;have h:=h2;clear h2;subst hxe
   cases hlt:Nat.blt m len with
   | false=>rw [hlt]at h;cases h
   | true=>
    rw[hlt]at h;dsimp only at h;injection h with h
    subst h;have hm:=zY hlt;obtain⟨B,hb,_,rfl⟩:=hx.of_ptr;refine⟨.pointer (some ⟨B.b,off+m*ei.size,none⟩),?_,RV.ptr hb⟩;simp [Instr.indexAt,asIntOf,zM hd,yN hi,add_eq,hm,Instr.sureAddr]
theorem index_ok{ty:TypeId}{x x' ix ix':Value}(hx:RV ρ x x')(hix:RV ρ ix ix'){v:Value}(h:aIndex P ty x ix=some v) :
 ∃v',(Instr.index ty x' ix').run P wd = .ok v' wd∧RV ρ v v':=by
 unfold aIndex at h;split at h
 case h_2=>cases h
 rename_i k m;obtain rfl:=hix.of_int;split at h
 · rename_i len e cs hd;obtain⟨cs',rfl,hcs⟩:=hx.of_agg
   cases hi:inf? P e with
   | none=>rw [hi]at h;cases h
   | some ei =>
    rw[hi]at h;dsimp only at h
    cases hlt:Nat.blt m len with
    | false=>rw [hlt]at h;cases h
    | true=>
     rw[hlt]at h;have hm:=zY hlt;obtain⟨v',e1,e2⟩:=part_ok (wd:=wd) hcs h;refine⟨v',?_,e2⟩;have:(⟨cs'.toList⟩:Array Value)=cs':=rfl;rw [this]at e1;have e1':(part e cs' (m*ei.size)).run P wd = .ok v' wd:=e1;simp [Instr.index,asIntOf,zM hd,yN hi,hm,e1']
 · rename_i s hd;obtain rfl:=hx.of_string;rw [nthB_eq]at h;split at h
   · rename_i b hb;injection h with h
     subst h;refine⟨.int .u8 b.toNat,?_,RV.int _ _⟩
     have hlt:m<s.data.toList.length:=by
      rcases Nat.lt_or_ge m s.data.toList.length with h1|h1
      · exact h1
      · rw[List.getElem?_eq_none h1]at hb;cases hb
     have hs:s[m]? = some b:=by
      have h2:m<s.size:=hlt;rw [getElem?_pos s m h2];rw [List.getElem?_eq_getElem hlt]at hb;injection hb with hb
      rw[← hb];rfl
     simp[Instr.index,asIntOf,zM hd,hs]
   · cases h
 · cases h
theorem field_ok{ty:TypeId}{x x':Value}{f:Nat}(hx:RV ρ x x'){v:Value}(h:aField P ty x f=some v) :
 ∃v',(Instr.field ty x' f).run P wd = .ok v' wd∧RV ρ v v':=by
 unfold aField at h;split at h
 · rename_i fs cs hd;obtain⟨cs',rfl,hcs⟩:=hx.of_agg;split at h
   · rename_i fd hf;obtain⟨v',e1,e2⟩:=part_ok (wd:=wd) hcs h;refine⟨v',?_,e2⟩;have e1':(part fd.type cs' fd.offset).run P wd = .ok v' wd:=e1;simp [Instr.field,zM hd,hf,asAgg,e1']
   · cases h
 · cases h
theorem extract_ok{x x':Value}{i:Nat}(hx:RV ρ x x'){v:Value}{vs:Array Value}(he:x = .tuple vs)(h:vs.toList[i]? = some v) :
 ∃v',(Instr.extract x' i).run P wd = .ok v' wd∧RV ρ v v':=by
 subst he;obtain⟨vs',rfl,hvs⟩:=hx.of_tuple;obtain⟨v',e1,e2⟩:=hvs.at h;refine⟨v',?_,e2⟩;have:vs'[i]? = some v':=by simpa using e1
 simp[Instr.extract,this]
end
end Go.Ex
namespace Go.Ex
section
variable {P:Program} {ng:Nat} {ρ : Inj} {base:Nat} {w0:World} {hp:zB} {n:Nat} {wd:World}
def ORV(ρ : Inj)(o o':Option Value):Prop:=
 match o,o' with
 | none,none=>True
 | some v,some v'=>RV ρ v v'
 | _,_=>False
theorem natOf_some{v:Value}{m:Nat}(h:natOf v=some m):∃k,v = .int k (.ofNat m):=by
 unfold natOf at h;split at h
 · injection h with h;subst h;exact⟨_,rfl⟩
 · cases h
theorem yD{d most m:Nat}{o o':Option Value}(hr:ORV ρ o o')(h:zX d most o=some m) :
 (o=none∧o'=none∧m=d)∨∃v k,o=some v∧o'=some (.int k m)∧m≤most:=by
 cases o with
 | none=>
  cases o' with
  | none=>simp only[zX]at h;injection h with h;exact .inl ⟨rfl,rfl,h.symm⟩
  | some v=>exact hr.elim
 | some v =>
  cases o' with
  | none=>exact hr.elim
  | some v' =>
   simp only[zX]at h
   cases hn:natOf v with
   | none=>rw [hn]at h;cases h
   | some i =>
    rw[hn]at h;dsimp only at h
    cases hle:Nat.ble i most with
    | false=>rw [hle]at h;cases h
    | true=>
     rw[hle]at h;dsimp only[cond]at h;injection h with h
     subst h;obtain⟨k,rfl⟩:=natOf_some hn;have hr':RV ρ (.int k (.ofNat i)) v':=hr;obtain rfl:=hr'.of_int;exact .inr ⟨_,k,rfl,rfl,yQ hle⟩
theorem wO(k:IntKind){m y:Nat}(code:BoundsCode)(h:m≤y):(Instr.sliceBound (.int k (m:Int)) y code).run P wd = .ok m wd:=by
 have:=Go.run_sliceBound (P:=P) (w:=wd) k m y code (by omega) (by omega);simpa using this
theorem uN{isS:Bool}{len cap c':Nat}{lo hi mx lo' hi' mx':Option Value}(h1:ORV ρ lo lo')(h2:ORV ρ hi hi')(h3:ORV ρ mx mx')(hf:fullOK hi mx=true){m hh l dm:Nat}{most:Nat}
(e1:zX dm cap mx=some m)(e2:zX len most hi=some hh)(e3:zX 0 hh lo=some l)
(hmx:mx=none→most≤c')(hmx2:mx≠none→cap≤c'∧most=m) :
 (Instr.sliceBounds isS len c' lo' hi' mx').run P wd = .ok (l,hh,if mx=none then c' else m) wd:=by
 rcases yD h3 e1 with⟨rfl,rfl,_⟩|⟨v,k,rfl,rfl,hm⟩
 · have hc:=hmx rfl;rcases yD h2 e2 with⟨rfl,rfl,rfl⟩|⟨v2,k2,rfl,rfl,hh2⟩
   · rcases yD h1 e3 with⟨rfl,rfl,rfl⟩|⟨v3,k3,rfl,rfl,hl⟩
     · simp[Instr.sliceBounds]
     · simp[Instr.sliceBounds,wO k3 _ hl]
   · rcases yD h1 e3 with⟨rfl,rfl,rfl⟩|⟨v3,k3,rfl,rfl,hl⟩
     · simp[Instr.sliceBounds,wO k2 _ (Nat.le_trans hh2 hc)]
     · simp[Instr.sliceBounds,wO k2 _ (Nat.le_trans hh2 hc),wO k3 _ hl]
 · obtain⟨hc,rfl⟩:=hmx2 (by simp);rcases yD h2 e2 with⟨rfl,rfl,rfl⟩|⟨v2,k2,rfl,rfl,hh2⟩
   · cases hf
   · rcases yD h1 e3 with⟨rfl,rfl,rfl⟩|⟨v3,k3,rfl,rfl,hl⟩
     · simp[Instr.sliceBounds,wO k _ (Nat.le_trans hm hc),wO k2 _ hh2]
     · simp[Instr.sliceBounds,wO k _ (Nat.le_trans hm hc),wO k2 _ hh2,wO k3 _ hl]
theorem far_eq(b o n:Nat):far ⟨b,o,none⟩ n=⟨b,o+n,none⟩:=rfl
theorem sliceEx_ok{isS:Bool}{b off off' len cap size:Nat}{B:Bl}(hb: ρ b=some B)(ho:off'=off∨cap=0){lo hi mx lo' hi' mx':Option Value}(h1:ORV ρ lo lo')(h2:ORV ρ hi hi')(h3:ORV ρ mx mx')
   (hf:fullOK hi mx=true){v:Value}(h:vI ⟨b,off,none⟩ len cap size lo hi mx=some v) :
    ∃l hh m,(Instr.sliceBounds isS len cap lo' hi' mx').run P wd = .ok (l,hh,m) wd∧
      RV ρ v (.slice (some (if m=l then⟨B.b,off',none⟩ else(⟨B.b,off',none⟩:Addr).add (l*size))) (hh - l) (m - l)):=by
  unfold vI at h
  cases e1:zX cap cap mx with
  | none=>rw [e1]at h;cases h
  | some m =>
    rw[e1]at h;dsimp only at h
    cases e2:zX len m hi with
    | none=>rw [e2]at h;cases h
    | some hh =>
      rw[e2]at h;dsimp only at h
      cases e3:zX 0 hh lo with
      | none=>rw [e3]at h;cases h
      | some l =>
        rw[e3]at h;dsimp only at h
        cases hc:(Nat.blt m inf && Nat.ble hh m) with
        | false=>rw [hc]at h;cases h
        | true =>
          rw[hc]at h;dsimp only[cond]at h;injection h with h
          subst h;obtain⟨hm,hhm⟩:=Bool.and_eq_true_iff.1 hc;have hm:=zY hm;have hhm:=yQ hhm
          have hmc:m≤cap:=by
            rcases yD h3 e1 with⟨_,_,e⟩|⟨_,_,_,_,e⟩
            · omega
            · exact e
          have hlh:l≤hh:=by
            rcases yD h1 e3 with⟨_,_,e⟩|⟨_,_,_,_,e⟩
            · omega
            · exact e
          have hm0:mx=none→m=cap:=fun e=>by
            subst e;simp only[zX]at e1;injection e1 with e1;exact e1.symm
          refine⟨l,hh,m,?_,?_⟩
          · have:=uN (P:=P) (wd:=wd) (isS:=isS) (c':=cap) h1 h2 h3 hf e1 e2 e3 (fun _=>hmc) (fun _=>⟨Nat.le_refl _,rfl⟩);rw [this];split
            · rename_i e;rw [hm0 e]
            · rfl
          · by_cases hml:m=l
            · subst hml;have e0:hh - m≤m - m:=by omega
              have:Nat.beq m m=true:=Nat.beq_refl m;rw [this,if_pos rfl];dsimp only[cond]
              exact .slice hb (by show m - m ≠ inf; have : inf ≠ 0 := by decide
                                  omega) e0 (.inr (by show m - m=0;omega))
            · have hbq:Nat.beq m l=false:=by
                cases e:Nat.beq m l with
                | false=>rfl
                | true=>exact absurd (zG e) hml
              rw[hbq,if_neg hml,add_eq];dsimp only[cond];rw [far_eq];refine .slice hb (by show m - l≠inf;omega) (by show hh - l≤m - l;omega) (.inl ?_);rcases ho with ho|ho
              · rw[ho];rfl
              · omega
theorem sliceOp_ok{isS:Bool}{b off off' len c' size:Nat}{B:Bl}(hb: ρ b=some B)(hl:len≤c')(ho:(off'=off∧off+c'*B.z=B.n)∨(c'=0∧0<off))(hz:B.z=size)(hz1:1≤size)
   {lo hi mx lo' hi' mx':Option Value}(h1:ORV ρ lo lo')(h2:ORV ρ hi hi')(h3:ORV ρ mx mx')
   (hf:fullOK hi mx=true){v:Value}(h:aSliceOp ⟨b,off,none⟩ len size lo hi mx=some v) :
    ∃l hh m,(Instr.sliceBounds isS len c' lo' hi' mx').run P wd = .ok (l,hh,m) wd∧
      RV ρ v (.slice (some (if m=l then⟨B.b,off',none⟩ else(⟨B.b,off',none⟩:Addr).add (l*size))) (hh - l) (m - l)):=by
  unfold aSliceOp at h
  cases mx with
  | none =>
    dsimp only at h
    cases e2:zX len len hi with
    | none=>rw [e2]at h;cases h
    | some hh =>
      rw[e2]at h;dsimp only at h
      cases e3:zX 0 hh lo with
      | none=>rw [e3]at h;cases h
      | some l =>
        rw[e3]at h;dsimp only at h;injection h with h
        subst h
        have hhl:hh≤len:=by
          rcases yD h2 e2 with⟨_,_,e⟩|⟨_,_,_,_,e⟩
          · omega
          · exact e
        have hlh:l≤hh:=by
          rcases yD h1 e3 with⟨_,_,e⟩|⟨_,_,_,_,e⟩
          · omega
          · exact e
        refine⟨l,hh,c',?_,?_⟩
        · have:=uN (P:=P) (wd:=wd) (isS:=isS) (cap:=0) (c':=c') (dm:=0) (m:=0) h1 h2 h3 hf rfl e2 e3 (fun _=>hl) (fun e=>absurd rfl e);rw [this,if_pos rfl]
        · rw[far_eq];by_cases hml:c'=l
          · subst hml;rw [if_pos rfl];refine .opened hb (by show hh - c'≤c' - c';omega) ?_;rw [Nat.sub_self];rcases Nat.eq_zero_or_pos c' with e0|e0
            · subst e0;rcases ho with⟨ho1,ho2⟩|ho
              · exact .inl ⟨by rw[ho1];simp,by simpa using ho2⟩
              · exact .inr ⟨rfl,by simpa using ho.2⟩
            · exact .inr ⟨rfl,by
                have:1*1≤c'*size:=Nat.mul_le_mul (by omega) hz1;show 0<off+c'*size;omega⟩
          · rw[if_neg hml,add_eq];rcases ho with⟨ho1,ho2⟩|ho
            · subst hz;refine .opened hb (by show hh - l≤c' - l;omega) (.inl ⟨by rw[ho1];rfl,?_⟩);show off+l*B.z+(c' - l)*B.z=B.n;rw [← ho2,Nat.sub_mul];have:l*B.z≤c'*B.z:=Nat.mul_le_mul_right _ (by omega);omega
            · omega
  | some vm =>
    dsimp only at h
    cases e1:zX len len (some vm) with
    | none=>rw [e1]at h;cases h
    | some m =>
      rw[e1]at h;dsimp only at h
      cases e2:zX m m hi with
      | none=>rw [e2]at h;cases h
      | some hh =>
        rw[e2]at h;dsimp only at h
        cases e3:zX 0 hh lo with
        | none=>rw [e3]at h;cases h
        | some l =>
          rw[e3]at h;dsimp only at h
          cases hc:Nat.blt m inf with
          | false=>rw [hc]at h;cases h
          | true =>
            rw[hc]at h;dsimp only[cond]at h;injection h with h
            subst h;have hm:=zY hc
            have hml':m≤len:=by
              rcases yD h3 e1 with⟨e,_⟩|⟨_,_,_,_,e⟩
              · cases e
              · exact e
            have hhm:hh≤m:=by
              rcases yD h2 e2 with⟨_,_,e⟩|⟨_,_,_,_,e⟩
              · omega
              · exact e
            have hlh:l≤hh:=by
              rcases yD h1 e3 with⟨_,_,e⟩|⟨_,_,_,_,e⟩
              · omega
              · exact e
            refine⟨l,hh,m,?_,?_⟩
            · cases hi with
              | none=>cases hf
              | some vh =>
                have e2':zX len m (some vh)=some hh:=e2;have:=uN (P:=P) (wd:=wd) (isS:=isS) (c':=c') h1 h2 h3 hf e1 e2' e3 (fun e=>by cases e) (fun _=>⟨hl,rfl⟩);rw [this,if_neg (by simp)]
            · by_cases hml:m=l
              · subst hml;have:Nat.beq m m=true:=Nat.beq_refl m;rw [this,if_pos rfl];dsimp only[cond]
                exact .slice hb (by show m - m ≠ inf; have : inf ≠ 0 := by decide
                                    omega) (by show hh - m≤m - m;omega) (.inr (by show m - m=0;omega))
              · have hbq:Nat.beq m l=false:=by
                  cases e:Nat.beq m l with
                  | false=>rfl
                  | true=>exact absurd (zG e) hml
                rw[hbq,if_neg hml,add_eq];dsimp only[cond];rw [far_eq];refine .slice hb (by show m - l≠inf;omega) (by show hh - l≤m - l;omega) (.inl ?_);rcases ho with⟨ho1,_⟩|ho
                · rw[ho1];rfl
                · omega
end
end Go.Ex
namespace Go.Ex
theorem str_extract(s:ByteArray)(l h:Nat):s.extract l h=⟨⟨(s.data.toList.drop l).take (h - l)⟩⟩:=by
 have:(s.extract l h).data=s.data.extract l h:=ByteArray.data_extract;have h2:(s.extract l h).data.toList=(s.data.toList.drop l).take (h - l):=by rw[this];simp [Array.toList_extract]
 cases hs:s.extract l h with
 | mk d=>
  rw[hs]at h2
  cases d with
  | mk q=>simp only at h2;rw [h2]
theorem sliceEx_zero{a:Addr}{size:Nat}{lo hi mx:Option Value}{v:Value}(h:vI a 0 0 size lo hi mx=some v) :
 ∃m hh l,zX 0 0 mx=some m∧zX 0 m hi=some hh∧zX 0 hh lo=some l∧v = .slice (some (cond (Nat.beq m l) a (far a (Nat.mul l size)))) (Nat.sub hh l) (Nat.sub m l):=by
 unfold vI at h
 cases e1:zX 0 0 mx with
 | none=>rw [e1]at h;cases h
 | some m =>
  rw[e1]at h;dsimp only at h
  cases e2:zX 0 m hi with
  | none=>rw [e2]at h;cases h
  | some hh =>
   rw[e2]at h;dsimp only at h
   cases e3:zX 0 hh lo with
   | none=>rw [e3]at h;cases h
   | some l =>
    rw[e3]at h;dsimp only at h
    cases hc:(Nat.blt m inf && Nat.ble hh m) with
    | false=>rw [hc]at h;cases h
    | true=>
     rw[hc]at h;injection h with h
     exact⟨m,hh,l,rfl,e2,e3,h.symm⟩
section
variable {P:Program} {ng:Nat} {ρ : Inj} {base:Nat} {w0:World} {hp:zB} {n:Nat} {wd:World}
theorem nat_sub(a b:Nat):Nat.sub a b=a - b:=rfl
theorem slice_ok(hH:HeapR P ng ρ base w0 hp n wd){ty:TypeId}{x x':Value}(hx:RV ρ x x'){lo hi mx lo' hi' mx':Option Value}(h1:ORV ρ lo lo')(h2:ORV ρ hi hi')(h3:ORV ρ mx mx')
{v:Value}(h:yZ P hp ty x lo hi mx=some v):∃v',(Instr.sliceAt ty x' lo' hi' mx').run P wd = .ok v' wd∧RV ρ v v':=by
 unfold yZ at h
 cases hf:fullOK hi mx with
 | false=>rw [hf]at h;cases h
 | true =>
  rw[hf]at h;dsimp only[cond]at h;split at h
  ·
   rename_i e len cap hd
   cases hc:(Nat.beq len 0 && Nat.beq cap 0) with
   | false=>rw [hc]at h;cases h
   | true=>
    rw[hc]at h;obtain⟨h4,h5⟩:=Bool.and_eq_true_iff.1 hc;obtain rfl:=zG h4;obtain rfl:=zG h5;cases hx
    dsimp only at h;split at h
    · rename_i m hh l i e1 e2 e3 hi;injection h with h
      subst h
      have m0:m=0:=by
       rcases yD h3 e1 with⟨_,_,e⟩|⟨_,_,_,_,e⟩ <;> omega
      have hh0:hh=0:=by
       rcases yD h2 e2 with⟨_,_,e⟩|⟨_,_,_,_,e⟩ <;> omega
      have l0:l=0:=by
       rcases yD h1 e3 with⟨_,_,e⟩|⟨_,_,_,_,e⟩ <;> omega
      subst m0 hh0 l0;have:=uN (P:=P) (wd:=wd) (isS:=true) (c':=0) h1 h2 h3 hf e1 e2 e3 (fun _=>Nat.le_refl _) (fun _=>⟨Nat.le_refl _,rfl⟩);refine⟨.slice none 0 0,?_,RV.nilSlice 0 0 (by decide)⟩;have this':(Instr.sliceBounds true 0 0 lo' hi' mx').run P wd = .ok (0,0,0) wd:=by rw[this];split <;> rfl
      simp[Instr.sliceAt,zM hd,Instr.slice,this',yN hi]
    · cases h
  · rename_i e b off len cap hd
    cases hi:inf? P e with
    | none=>rw [hi]at h;cases h
    | some ei =>
     rw[hi]at h;dsimp only at h;rcases hx.of_slice with⟨B,o',c',hb,rfl,_,hl,hcs⟩|⟨rfl,rfl,⟨B,hb⟩,a,rfl⟩
     rotate_left
     · have hci:Nat.beq 0 inf=false:=by decide
       rw[hci]at h;dsimp only[cond]at h;obtain⟨m,hh,l,e1,e2,e3,e4⟩:=sliceEx_zero h
       have m0:m=0:=by
        rcases yD h3 e1 with⟨_,_,e⟩|⟨_,_,_,_,e⟩ <;> omega
       have hh0:hh=0:=by
        rcases yD h2 e2 with⟨_,_,e⟩|⟨_,_,_,_,e⟩ <;> omega
       have l0:l=0:=by
        rcases yD h1 e3 with⟨_,_,e⟩|⟨_,_,_,_,e⟩ <;> omega
       subst m0 hh0 l0;subst e4;have:=uN (P:=P) (wd:=wd) (isS:=true) (c':=0) h1 h2 h3 hf e1 e2 e3 (fun _=>Nat.le_refl _) (fun _=>⟨Nat.le_refl _,rfl⟩);have this':(Instr.sliceBounds true 0 0 lo' hi' mx').run P wd = .ok (0,0,0) wd:=by rw[this];split <;> rfl
       refine⟨.slice (some a) 0 0,?_,RV.slice0 hb a⟩;simp [Instr.sliceAt,zM hd,Instr.slice,this',yN hi]
     cases hci:Nat.beq cap inf with
     | true=>
      rw[hci]at h;obtain rfl:=zG hci;dsimp only[cond]at h;split at h
      · rename_i c kn z hg
        cases hz:(Nat.beq z (zc e ei.size) && Nat.ble 1 ei.size) with
        | false=>rw [hz]at h;cases h
        | true =>
         rw[hz]at h;dsimp only[cond]at h;obtain⟨hz,hz1⟩:=Bool.and_eq_true_iff.1 hz;have hz1:=yQ hz1;obtain rfl:=zG hz
         have hBz:B.z=ei.size:=by
          obtain⟨o,e1,e2⟩:=hH.obj b B hb (by rw[hg];exact AObj.noConfusion);rw [hg]at e2
          cases e2 with
          | cells _ _ _ hz' _ _ _=>exact(zc_inj (hz'.1 rfl)).2.symm
         have ho:(o'=off∧off+c'*B.z=B.n)∨(c'=0∧0<off):=by
          rcases hcs with⟨h6,_⟩|⟨_,h6⟩
          · exact absurd rfl h6
          · exact h6
         obtain⟨l,hh,m,r1,r2⟩:=sliceOp_ok (P:=P) (wd:=wd) (isS:=true) hb hl ho hBz hz1 h1 h2 h3 hf h;refine⟨_,?_,r2⟩;simp [Instr.sliceAt,zM hd,Instr.slice,r1,yN hi];split <;> rfl
      · cases h
     | false=>
      rw[hci]at h;dsimp only[cond]at h;rcases hcs with⟨_,rfl,ho⟩|⟨h6,_⟩
      case inr=>subst h6;rw [Nat.beq_refl]at hci;cases hci
      obtain⟨l,hh,m,r1,r2⟩:=sliceEx_ok (P:=P) (wd:=wd) (isS:=true) hb ho h1 h2 h3 hf h;refine⟨_,?_,r2⟩;simp [Instr.sliceAt,zM hd,Instr.slice,r1,yN hi];split <;> rfl
  · rename_i k e b off hd
    cases hi:inf? P e with
    | none=>rw [hi]at h;cases h
    | some ei=>
     rw[hi]at h;dsimp only at h;obtain⟨B,hb,_,rfl⟩:=hx.of_ptr;obtain⟨l,hh,m,r1,r2⟩:=sliceEx_ok (P:=P) (wd:=wd) (isS:=false) (off':=off) hb (.inl rfl) h1 h2 h3 hf h;refine⟨_,?_,r2⟩;simp [Instr.sliceAt,zM hd,Instr.sureAddr,r1,yN hi]
  · rename_i arr b off hd;split at h
    · rename_i k e hd2
      cases hi:inf? P e with
      | none=>rw [hi]at h;cases h
      | some ei=>
       rw[hi]at h;dsimp only at h;obtain⟨B,hb,_,rfl⟩:=hx.of_ptr;obtain⟨l,hh,m,r1,r2⟩:=sliceEx_ok (P:=P) (wd:=wd) (isS:=false) (off':=off) hb (.inl rfl) h1 h2 h3 hf h;refine⟨_,?_,r2⟩;simp [Instr.sliceAt,zM hd,Instr.slice,asAddr,zM hd2,r1,yN hi]
    · cases h
  · rename_i s hd
    cases mx with
    | some _=>cases h
    | none =>
     dsimp only at h
     cases e2:zX s.data.toList.length s.data.toList.length hi with
     | none=>rw [e2]at h;cases h
     | some hh =>
      rw[e2]at h;dsimp only at h
      cases e3:zX 0 hh lo with
      | none=>rw [e3]at h;cases h
      | some l =>
       rw[e3]at h;dsimp only at h;injection h with h
       subst h;obtain rfl:=hx.of_string
       cases mx' with
       | some _=>exact h3.elim
       | none=>
        have:=uN (P:=P) (wd:=wd) (isS:=false) (cap:=0) (c':=s.data.toList.length) (dm:=0) (m:=0) h1 h2 h3 hf rfl e2 e3 (fun _=>Nat.le_refl _) (fun e=>absurd rfl e);refine⟨_,?_,RV.string _⟩;have this':(Instr.sliceBounds false s.size s.size lo' hi' none).run P wd = .ok (l,hh,s.data.toList.length) wd:=this;rw [cutS_eq,nat_sub,← str_extract];simp [Instr.sliceAt,zM hd,Instr.slice,this']
  · cases h
end
end Go.Ex
namespace Go.Ex
theorem putAll_eq(off:Nat):∀(l:List Value) (k:Nat) (cs:Array Value),
 ((l.zipIdx k).foldl (fun(cs:Array Value) (x:Value×Nat)=>cs.setIfInBounds (off+x.2) x.1) cs).toList=putAll cs.toList (off+k) l:=by
 intro l
 induction l with
 | nil=>intro k cs;rfl
 | cons v r ih=>
  intro k cs;simp only[List.zipIdx_cons,List.foldl_cons,ih,putAll,Array.toList_setIfInBounds];rfl
theorem RVs.putAll{ρ : Inj}:∀{l l':List Value},RVs ρ l l'→∀{cs cs':List Value} (off:Nat),RVs ρ cs cs'→RVs ρ (putAll cs off l) (putAll cs' off l'):=by
 intro l
 induction l with
 | nil=>intro l' h cs cs' off k;obtain rfl:=h.of_nil;exact k
 | cons v r ih=>
  intro l' h cs cs' off k;obtain⟨v',r',rfl,hv,hr⟩:=h.of_cons;exact ih hr (off+1) (k.set off hv)
def PsR(ρ : Inj):List (Nat×Value)→List (Nat×Value)→Prop
 | [],[]=>True
 | (i,v)::r,(j,v')::r'=>i=j∧RV ρ v v'∧PsR ρ r r'
 | _,_=>False
theorem PsR.map{ρ : Inj}(f g:Operand→Value):∀(l:List (Nat×Operand)),(∀p∈l,RV ρ (f p.2) (g p.2))→PsR ρ (l.map fun p=>(p.1,f p.2)) (l.map fun p=>(p.1,g p.2))
 | [],_=>trivial
 | p::l,h=>⟨rfl,h p (by simp),PsR.map f g l fun q hq=>h q (by simp[hq])⟩
theorem fill_ok{ρ : Inj}(place:Nat→Option (Nat×Nat)):∀{ps ps':List (Nat×Value)},PsR ρ ps ps'→∀{cs:List Value} {cs':Array Value},RVs ρ cs cs'.toList→∀{r:List Value},
 aFill place cs ps=some r→∃r',Instr.fill place cs' ps'=some r'∧RVs ρ r r'.toList:=by
 intro ps
 induction ps with
 | nil=>
  intro ps' h cs cs' hc r hr
  cases ps' with
  | nil=>simp only[aFill]at hr;injection hr with hr;subst hr;exact⟨cs',rfl,hc⟩
  | cons _ _=>exact h.elim
 | cons p rest ih =>
  intro ps' h cs cs' hc r hr;obtain⟨i,v⟩:=p
  cases ps' with
  | nil=>exact h.elim
  | cons p' rest' =>
   obtain⟨i',v'⟩:=p';obtain⟨rfl,hv,hrest⟩:=h;simp only[aFill]at hr
   cases hp:place i with
   | none=>rw [hp]at hr;cases hr
   | some os =>
    obtain⟨off,size⟩:=os;rw [hp]at hr;dsimp only at hr
    cases hb:(Nat.beq (cellsOf v).length size && Nat.ble (Nat.add off size) cs.length) with
    | false=>rw [hb]at hr;cases hr
    | true =>
     rw[hb]at hr;dsimp only[cond]at hr;obtain⟨h1,h2⟩:=Bool.and_eq_true_iff.1 hb;have h1:=zG h1;have h2:off+size≤cs.length:=yQ h2;have hvc:=hv.cells
     have hsz:v'.cells.size=size:=by
      have:=hvc.1;simp at this;omega
     have hcl:cs'.size=cs.length:=by have:=hc.1;simp at this;omega
     have hcs:RVs ρ (putAll cs off (cellsOf v)) ((v'.cells.zipIdx.foldl (fun(cs:Array Value) (x:Value×Nat)=>cs.setIfInBounds (off+x.2) x.1) cs').toList):=by
      have e:(v'.cells.zipIdx.foldl (fun(cs:Array Value) (x:Value×Nat)=>cs.setIfInBounds (off+x.2) x.1) cs').toList=putAll cs'.toList off v'.cells.toList:=by
       have:=putAll_eq off v'.cells.toList 0 cs';rw [← Array.foldl_toList];simpa [Array.toList_zipIdx] using this
      rw[e];exact RVs.putAll hvc off hc
     obtain⟨r',e1,e2⟩:=ih hrest hcs hr;refine⟨r',?_,e2⟩;rw [Instr.fill,hp];dsimp only;rw [if_neg (by simp;omega)];exact e1
section
variable {P:Program} {ng:Nat} {ρ : Inj} {base:Nat} {w0:World} {hp:zB} {n:Nat} {wd:World}
theorem places_some:∀{fs:List Field} {l:List (Nat×Nat)},placesOf P fs=some l→fs.mapM (fun f=>(P.info? f.type).map fun i=>(f.offset,i.size))=some l:=by
 intro fs
 induction fs with
 | nil=>intro l h;simp only[placesOf]at h;injection h with h;subst h;rfl
 | cons f fs ih =>
  intro l h;simp only[placesOf]at h
  cases hi:inf? P f.type with
  | none=>rw [hi]at h;cases h
  | some i =>
   cases hr:placesOf P fs with
   | none=>rw [hi,hr]at h;cases h
   | some r=>
    rw[hi,hr]at h;dsimp only at h;injection h with h
    subst h;simp [List.mapM_cons,(yX hi).2,ih hr]
theorem build_ok(hP:yH ng P=true){ty:TypeId}{ps ps':List (Nat×Value)}(hps:PsR ρ ps ps'){v:Value}(h:aBuild P ty ps=some v) :
 ∃v',(Instr.build ty ⟨ps'⟩).run P wd = .ok v' wd∧RV ρ v v':=by
 unfold aBuild at h
 cases hz:yT P ty with
 | none=>rw [hz]at h;cases h
 | some z =>
  rw[hz]at h;dsimp only at h;have hzz:=RV.cells (RV.plain (wI hP hz) ρ)
  cases hs:structPlaces P ty with
  | some pl =>
   rw[hs]at h;dsimp only at h
   cases hf:aFill (fun i=>pl[i]?) (cellsOf z) ps with
   | none=>rw [hf]at h;cases h
   | some cs=>
    rw[hf]at h;injection h with h
    subst h;unfold structPlaces at hs;split at hs
    · rename_i fs hd;obtain⟨r',e1,e2⟩:=fill_ok (fun i=>pl[i]?) hps hzz hf;refine⟨.agg r',?_,RV.agg e2.1 e2.2⟩;have:=Go.run_places (P:=P) wd fs.toList pl (places_some hs);simp [Instr.build,wA hz,zM hd,Array.mapM_eq_mapM_toList,this,e1]
    · cases hs
  | none =>
   rw[hs]at h;dsimp only at h
   cases hix:ixOf P ty with
   | bad=>rw [hix]at h;cases h
   | slice sz=>rw [hix]at h;cases h
   | array len sz =>
    rw[hix]at h;dsimp only at h;obtain⟨e,ei,hd,hi,rfl⟩:=ix_array hix
    cases hf:aFill (fun i=>some (Nat.mul i ei.size,ei.size)) (cellsOf z) ps with
    | none=>rw [hf]at h;cases h
    | some cs=>
     rw[hf]at h;injection h with h
     subst h;obtain⟨r',e1,e2⟩:=fill_ok (fun i=>some (Nat.mul i ei.size,ei.size)) hps hzz hf;refine⟨.agg r',?_,RV.agg e2.1 e2.2⟩;have e1':Instr.fill (fun i=>some (i*ei.size,ei.size)) z.cells ps'=some r':=e1;simp [Instr.build,wA hz,zM hd,yN hi,e1']
theorem ble_dec(a b:Nat):Nat.ble a b=decide (a≤b):=by
 cases h:Nat.ble a b with
 | true=>simp [Nat.le_of_ble_eq_true h]
 | false=>
  have:¬a≤b:=fun e=>by rw[Nat.ble_eq_true_of_le e]at h;cases h
  simp[this]
theorem beq_dec(a b:Nat):Nat.beq a b=decide (a=b):=by
 cases h:Nat.beq a b with
 | true=>simp [Nat.eq_of_beq_eq_true h]
 | false=>
  have:¬a=b:=fun e=>by subst e;rw [Nat.beq_refl]at h;cases h
  simp[this]
theorem ileB_eq(a b:Int):ileB a b=decide (a≤b):=by
 cases a with
 | ofNat a => cases b with
  | ofNat b=>
   show Nat.ble a b=_;rw [ble_dec];apply decide_eq_decide.2;show a≤b↔(a:Int)≤(b:Int);omega
  | negSucc b=>exact(decide_eq_false (by simp only[Int.ofNat_eq_natCast];omega)).symm
 | negSucc a => cases b with
  | ofNat b=>exact(decide_eq_true (by simp only[Int.ofNat_eq_natCast];omega)).symm
  | negSucc b=>
   show Nat.ble b a=_;rw [ble_dec];apply decide_eq_decide.2;omega
theorem xI(a b:Int):ieqB a b=decide (a=b):=by
 cases a with
 | ofNat a => cases b with
  | ofNat b=>
   show Nat.beq a b=_;rw [beq_dec];apply decide_eq_decide.2;show a=b↔(a:Int)=(b:Int);omega
  | negSucc b=>exact(decide_eq_false (by simp only[Int.ofNat_eq_natCast];omega)).symm
 | negSucc a => cases b with
  | ofNat b=>exact(decide_eq_false (by simp only[Int.ofNat_eq_natCast];omega)).symm
  | negSucc b=>
   show Nat.beq b a=_;rw [beq_dec];apply decide_eq_decide.2;omega
theorem iltB_eq(a b:Int):iltB a b=decide (a<b):=by
 show(Bool.rec true false (ileB b a):Bool)=_;rw [ileB_eq];by_cases h:b≤a
 · have h2:¬a<b:=by omega
   simp[h,h2]
 · have h2:a<b:=by omega
   simp[h,h2]
theorem subNN_eq(m k:Nat):subNN m k=(m:Int) - (k:Int):=by
 show(Bool.rec (Int.negSucc (Nat.pred (Nat.sub k m))) (Int.ofNat (Nat.sub m k)) (Nat.ble k m):Int)=_;by_cases h:k≤m
 · rw[Nat.ble_eq_true_of_le h];show Int.ofNat (m - k)=_;simp only[Int.ofNat_eq_natCast];omega
 · have:Nat.ble k m=false:=by
    cases e:Nat.ble k m with
    | false=>rfl
    | true=>exact absurd (Nat.le_of_ble_eq_true e) h
   rw[this];show Int.negSucc (k - m - 1)=_;omega
theorem iadd_eq(a b:Int):iadd a b=a+b:=by
 cases a with
 | ofNat a=>cases b with
  | ofNat b=>rfl
  | negSucc b=>show subNN a (b+1)=_;rw [subNN_eq];simp only[Int.ofNat_eq_natCast];omega
 | negSucc a=>cases b with
  | ofNat b=>show subNN b (a+1)=_;rw [subNN_eq];simp only[Int.ofNat_eq_natCast];omega
  | negSucc b=>show Int.negSucc (Nat.succ (a+b))=_;omega
theorem isub_eq(a b:Int):isub a b=a - b:=by
 cases b with
 | ofNat b=>cases a with
  | ofNat a=>show subNN a b=_;rw [subNN_eq];rfl
  | negSucc a=>show Int.negSucc (a+b)=_;simp only[Int.ofNat_eq_natCast];omega
 | negSucc b=>cases a with
  | ofNat a=>show Int.ofNat (a+(b+1))=_;simp only[Int.ofNat_eq_natCast];omega
  | negSucc a=>show subNN b a=_;rw [subNN_eq];omega
theorem wB(k:IntKind)(m:Int):wL k m=k.wrap m:=by
 cases k with
 | i64 =>
  cases m with
  | ofNat m =>
   show(Bool.rec (IntKind.wrap .i64 (.ofNat m)) (Int.ofNat m) (Nat.blt m 9223372036854775808):Int)=_
   cases h:Nat.blt m 9223372036854775808 with
   | false=>rfl
   | true=>
    have:=zY h;show Int.ofNat m=_;rw [IntWalk.i64_in];simp only[Int.ofNat_eq_natCast];omega
  | negSucc m =>
   show(Bool.rec (IntKind.wrap .i64 (.negSucc m)) (Int.negSucc m) (Nat.blt m 9223372036854775808):Int)=_
   cases h:Nat.blt m 9223372036854775808 with
   | false=>rfl
   | true=>
    have:=zY h;show Int.negSucc m=_;rw [IntWalk.i64_in];omega
 | u64 =>
  cases m with
  | negSucc m=>rfl
  | ofNat m =>
   simp only[wL]
   cases h:Nat.blt m 18446744073709551616 with
   | false=>rfl
   | true=>
    have:=zY h;simp only[cond,IntKind.wrap,IntKind.signed,IntKind.bits,Bool.false_and,Bool.false_eq_true,if_false];show Int.ofNat m=_;simp only[Int.ofNat_eq_natCast];omega
 | u8 =>
  cases m with
  | negSucc m=>rfl
  | ofNat m =>
   simp only[wL]
   cases h:Nat.blt m 256 with
   | false=>rfl
   | true=>
    have:=zY h;simp only[cond,IntKind.wrap,IntKind.signed,IntKind.bits,Bool.false_and,Bool.false_eq_true,if_false];show Int.ofNat m=_;simp only[Int.ofNat_eq_natCast];omega
 | _=>rfl
theorem wP{k k':IntKind}(h:xH k k'=true):k=k':=by
 cases k <;> cases k' <;> first|rfl|cases h
end
end Go.Ex
