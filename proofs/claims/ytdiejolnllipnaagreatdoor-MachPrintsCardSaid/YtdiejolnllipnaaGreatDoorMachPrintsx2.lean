/- What the law leans on, part 2 of 24. Conditions: those that each theorem states. -/
import Derived.Test.YtdiejolnllipnaaGreatDoorMachPrintsx1
import Derived.Laws.Cells
import Derived.Laws.Entries
import Derived.ChangeKeysEq
import Derived.IntWalk
import Derived.Laws.Slices
import Derived.Laws.Strings
import Derived.Laws.StructEq
import Derived.Laws.Tables

set_option linter.unusedVariables false
set_option linter.unusedSimpArgs false
namespace Go.Ex
section
theorem xJ{a b:Nat}(h:Nat.blt a b=true):a<b:=by rw[Nat.blt_eq]at h;exact h
theorem xQ{a b:Nat}(h:Nat.ble a b=true):a<=b:=dJ h
theorem zT{a b:Nat}(h:Nat.beq a b=true):a=b:=de h
theorem get_tabFrom{α : Type}:∀(l:List α) (t:Tr (Option α)) (i j:Nat),Tr.get none (tabFrom t i l) j=if i<=j/\j<i+l.length then l[j - i]? else Tr.get none t j:=by
 intro l
 induction l with
 | nil=>intro t i j;simp [tabFrom];omega
 | cons v l ih=>
  intro t i j;simp only[tabFrom,ih,Tr.get_set_if,ay];by_cases h1:i=j
  . subst h1;have h2:¬(i+1<=i/\i<i+1+l.length):=by omega
    have h3:i<=i/\i<i+(l.length+1):=by omega
    rw[if_neg h2,if_pos h3];simp
  . by_cases h2:i+1<=j/\j<i+1+l.length
    . have h3:i<=j/\j<i+(l.length+1):=by omega
      rw[if_pos h2,if_pos h3];have:j - i=(j - (i+1))+1:=by omega
      rw[this];rfl
    . have h3:¬(i<=j/\j<i+(l.length+1)):=by omega
      simp[h2,h3,h1]
theorem tab_some{α : Type}{l:List α}{j:Nat}{x: α}(h:Tr.get none (tabFrom .lF 0 l) j=some x):l[j]? = some x:=by
 rw[get_tabFrom]at h;split at h
 . simpa using h
 . rw[Tr.get_leaf]at h;cases h
theorem xY{P:Program}{t:TypeId}{i:TypeInfo}(h:inf? P t=some i):P.types[t]? = some i/\P.info? t=some i:=by
 have h1:P.types.toList[t]? = some i:=tab_some h;have h2:P.types[t]? = some i:=by simpa using h1
 refine⟨h2,?_⟩
 have eD:t<P.types.size:=by
  rcases aS t P.types.size with h3|h3
  . exact h3
  . rw[bG h3]at h2;cases h2
 unfold Tables.info?;rw [if_pos eD];exact h2
theorem wI{P:Program}{t:TypeId}{d:TypeDesc}(h:und P t=some d):P.underlying t=some d:=by
 unfold und at h;unfold Program.underlying
 cases hi:inf? P t with
 | none=>rw [hi]at h;cases h
 | some i =>
  rw[hi]at h;rw [(xY hi).2];obtain⟨desc,st,sz,by_,hp,al,fa,zr,co,me⟩:=i
  cases desc with
  | named nm u=>
   simp only at h ⊢
   cases hj:inf? P u with
   | none=>rw [hj]at h;cases h
   | some j=>rw [hj]at h;rw [(xY hj).2];exact h
  | _=>exact h
theorem zero_some{P:Program}{t:TypeId}{z:Value}(h:xI P t=some z):∃i,P.info? t=some i/\P.types[t]? = some i/\i.zero=some z:=by
 unfold xI at h
 cases hi:inf? P t with
 | none=>rw [hi]at h;cases h
 | some i=>rw [hi]at h;exact⟨i,(xY hi).2,(xY hi).1,h⟩
theorem runTI{P:Program}{t:TypeId}{i:TypeInfo}(h:P.info? t=some i)(w:World):(typeInfo t).run P w = .ok i w:=by
 simp[typeInfo,h]
theorem vV{P:Program}{t:TypeId}{z:Value}(h:xI P t=some z)(w:World):(zeroValue t).run P w = .ok z w:=by
 obtain⟨i,h1,_,h3⟩:=zero_some h;simp [zeroValue,runTI h1,h3]
theorem tT{P:Program}{ng:Nat}(hP:xC ng P=true){t:TypeId}{z:Value}(h:xI P t=some z):sF z=true:=by
 obtain⟨i,_,h2,h3⟩:=zero_some h;unfold xC at hP;have h4:=(ak.1 hP).2
 have h5:=aH.1 h4 i (by
  have:P.types.toList[t]? = some i:=by simpa using h2
  exact ae this)
 rw[h3]at h5;exact h5
theorem xE{P:Program}{t:TypeId}{i:TypeInfo}(h:inf? P t=some i)(w:World):(sizeOf t).run P w = .ok i.size w:=by
 simp[sizeOf,runTI (xY h).2]
theorem zR{P:Program}{t:TypeId}{d:TypeDesc}(h:und P t=some d)(w:World):(underlying t).run P w = .ok d w:=run_underlying (wI h) w
theorem run_agg?{P:Program}{t:TypeId}{d:TypeDesc}(h:und P t=some d)(w:World):(isAgg t).run P w = .ok (aggT d) w:=by
 simp only[isAgg,Sem.run_bind,zR h,Result.andThen_ok];cases d <;> rfl
theorem onInt_some{R:Type}{v:Value}{f:IntKind->Int->R}{d r:R}(h:onInt v f d=r):(∃k n,v = .int k n/\f k n=r)\/d=r:=by
 cases v with
 | int k n=>exact .inl ⟨k,n,rfl,h⟩
 | _=>exact .inr h
theorem onBool_some{R:Type}{v:Value}{f:Bool->R}{d r:R}(h:onBool v f d=r):(∃b,v = .bool b/\f b=r)\/d=r:=by
 cases v with
 | bool b=>exact .inl ⟨b,rfl,h⟩
 | _=>exact .inr h
theorem rU{R:Type}{v:Value}{f:Nat->Nat->R}{d r:R}(h:onPtr v f d=r):(∃b o,v = .pointer (some ⟨b,o,none⟩)/\f b o=r)\/d=r:=by
 cases v with
 | pointer a =>
  cases a with
  | none=>exact .inr h
  | some a=>
   obtain⟨b,o,s⟩:=a
   cases s with
   | none=>exact .inl ⟨b,o,rfl,h⟩
   | some s=>exact .inr h
 | _=>exact .inr h
theorem onSlice_some{R:Type}{v:Value}{f:Nat->Nat->Nat->Nat->R}{d r:R}(h:onSlice v f d=r):(∃b o l c,v = .slice (some ⟨b,o,none⟩) l c/\f b o l c=r)\/d=r:=by
 cases v with
 | slice a l c =>
  cases a with
  | none=>exact .inr h
  | some a=>
   obtain⟨b,o,s⟩:=a
   cases s with
   | none=>exact .inl ⟨b,o,l,c,rfl,h⟩
   | some s=>exact .inr h
 | _=>exact .inr h
theorem onCells_some{R:Type}{o:AObj}{f:Tr Value->Nat->Nat->Nat->R}{d r:R}(h:onCells o f d=r):(∃c n z kd,o = .cells c n z kd/\f c n z kd=r)\/d=r:=by
 cases o with
 | cells c n z kd=>exact .inl ⟨c,n,z,kd,rfl,h⟩
 | _=>exact .inr h
theorem onRows_some{R:Type}{o:AObj}{f g:Tr Value->Nat->R}{d r:R}(h:onRows o f g d=r):(∃c n z kd,o = .cells c n z kd/\f c n=r)\/(∃c n,o = .rows c n/\g c n=r)\/d=r:=by
 cases o with
 | cells c n z kd=>exact .inl ⟨c,n,z,kd,rfl,h⟩
 | rows c n=>exact .inr (.inl ⟨c,n,rfl,h⟩)
 | _=>exact .inr (.inr h)
theorem yN{R:Type}(v:Value)(k:Value->R):xU v k=k v:=by cases v <;> rfl
theorem known1_some{v w:Value}(h:rS v=some w):isU v=false/\v=w:=by
 unfold rS at h
 cases e:isU v with
 | true=>rw [e]at h;cases h
 | false=>rw [e]at h;simp only[yN]at h;injection h with h;exact⟨rfl,h⟩
theorem known1_of{v:Value}(h:isU v=false):rS v=some v:=by unfold rS;rw [h];simp only[yN]
theorem knownL_some{l w:List Value}(h:knownL l=some w):l.any isU=false/\l=w:=by
 unfold knownL at h
 cases e:l.any isU with
 | true=>rw [e]at h;cases h
 | false=>rw [e]at h;injection h with h;exact⟨rfl,h⟩
theorem knownL_of{l:List Value}(h:l.any isU=false):knownL l=some l:=by unfold knownL;rw [h]
theorem knownN_some{l:List Value}{w:Value}(h:rT l=some w):l.any isU=false/\w = .agg ⟨l⟩:=by
 unfold rT at h
 cases e:l.any isU with
 | true=>rw [e]at h;cases h
 | false=>rw [e]at h;injection h with h;exact⟨rfl,h.symm⟩
theorem knownN_of{l:List Value}(h:l.any isU=false):rT l=some (.agg ⟨l⟩):=by unfold rT;rw [h]
theorem forceOne_true{v:Value}{k:Value->Bool}(h:forceOne v k=true):v.oneCell'=true/\k v=true:=by
 cases v <;> first|exact⟨rfl,h⟩|cases h
theorem RV.one{ρ : Inj}{v v':Value}(h:RV ρ v v')(h1:v.oneCell'=true):v'.oneCell'=true:=by
 cases h <;> first|rfl|cases h1
section
variable {P:Program} {ng:Nat} {ρ : Inj} {base:Nat} {w0:World} {hp:zB} {n:Nat} {wd:World} {N:Nat} {t:Fr} {a:Act}
theorem ev_rv(hH:HeapR P ng ρ base w0 hp n wd)(hT:TmR ρ N t a.tmps){x:Operand}(hx:opnOK ng N x=true):RV ρ (ev t x) (a.eval x):=by
 cases x with
 | tmp i=>
  have hi:i<N:=xJ hx;have eD:i<a.tmps.size:=aG hi hT.le;have h:=hT.tm i a.tmps[i] (aF eD);show RV ρ (fget t i) (a.tmps.getD i undef);rw [Array.getD,dif_pos eD];exact h
 | const v=>exact RV.plain hx ρ
 | global g=>
  obtain⟨B,e1,e2⟩:=hH.glob g (xJ hx);have:=RV.ptr (o:=0) e1;rw [e2]at this;exact this
 | func f=>exact .func (by intro l;exact Fn.noConfusion) rfl rfl (by intro i v v' e;simp at e) (by intro i v v' e;simp at e)
theorem cell_at(hH:HeapR P ng ρ base w0 hp n wd){b:Nat}{B:Bl}(hb: ρ b=some B){c:Tr Value}{m z kd:Nat}(hg:zG hp b = .cells c m z kd){i:Nat}(hi:i<m) :
 ∃v',wd.cell? ⟨B.b,i,none⟩=some v'/\RV ρ (Tr.get undef c i) v':=by
 obtain⟨o,e1,e2⟩:=hH.obj b B hb (by rw[hg];exact AObj.noConfusion);rw [hg]at e2
 cases e2 with
 | cells hn hs hk hz hv fg hf=>
  rename_i c' el lo fQ;have eD:i<c'.size:=by omega
  refine⟨c'[i],?_,hv i c'[i] hi (aF eD)⟩;simp [World.cell?,e1,eD]
theorem cells_at(hH:HeapR P ng ρ base w0 hp n wd){b:Nat}{B:Bl}(hb: ρ b=some B){c:Tr Value}{m z kd:Nat}(hg:zG hp b = .cells c m z kd){off k:Nat}(hi:off+k<=m) :
 ∃l',RVs ρ (c.toListFrom undef off k) l'/\l'.length=k/\∀(j:Nat) (v:Value),l'[j]? = some v->wd.cell? ⟨B.b,off+j,none⟩=some v:=by
 induction k generalizing off with
 | zero=>exact⟨[],RVs.nil ρ,rfl,λj v e=>by simp at e⟩
 | succ k ih =>
  obtain⟨v',e1,e2⟩:=cell_at hH hb hg (i:=off) qJ;obtain⟨l',r1,r2,r3⟩:=ih (off:=off+1) qJ;refine⟨v'::l',RVs.cons e2 r1,by simp[r2],λj v e=>?_⟩
  cases j with
  | zero=>simp at e;subst e;simpa using e1
  | succ j=>
   have:=r3 j v (by simpa using e);rw [<- this];congr 2
   omega
theorem rcell_at(hH:HeapR P ng ρ base w0 hp n wd){b:Nat}{B:Bl}(hb: ρ b=some B){c:Tr Value}{m:Nat}(hg:zG hp b = .rows c m){i:Nat}(hi:i<m)(hu:isU (Tr.get undef c i)=false) :
 ∃v',wd.cell? ⟨B.b,i,none⟩=some v'/\RV ρ (Tr.get undef c i) v':=by
 obtain⟨o,e1,e2⟩:=hH.obj b B hb (by rw[hg];exact AObj.noConfusion);rw [hg]at e2
 cases e2 with
 | rows hn hv=>
  rename_i c' el fr;have eD:i<c'.size:=by omega
  refine⟨c'[i],?_,hv i c'[i] (aF eD) hu⟩;simp [World.cell?,e1,eD]
theorem rcells_at(hH:HeapR P ng ρ base w0 hp n wd){b:Nat}{B:Bl}(hb: ρ b=some B){c:Tr Value}{m:Nat}(hg:zG hp b = .rows c m){off k:Nat}(hi:off+k<=m)(hu:(c.toListFrom undef off k).any isU=false) :
 ∃l',RVs ρ (c.toListFrom undef off k) l'/\l'.length=k/\∀(j:Nat) (v:Value),l'[j]? = some v->wd.cell? ⟨B.b,off+j,none⟩=some v:=by
 induction k generalizing off with
 | zero=>exact⟨[],RVs.nil ρ,rfl,λj v e=>by simp at e⟩
 | succ k ih =>
  have hu2:(isU (Tr.get undef c off) || (c.toListFrom undef (off+1) k).any isU)=false:=hu;obtain⟨u1,u2⟩:=Bool.or_eq_false_iff.1 hu2;obtain⟨v',e1,e2⟩:=rcell_at hH hb hg (i:=off) qJ  u1;obtain⟨l',r1,r2,r3⟩:=ih (off:=off+1) qJ  u2;refine⟨v'::l',RVs.cons e2 r1,by simp[r2],λj v e=>?_⟩
  cases j with
  | zero=>simp at e;subst e;simpa using e1
  | succ j=>
   have:=r3 j v (by simpa using e);rw [<- this];congr 2
   omega
theorem run_loadRows(hH:HeapR P ng ρ base w0 hp n wd){b:Nat}{B:Bl}(hb: ρ b=some B){c:Tr Value}{m:Nat}(hg:zG hp b = .rows c m){off k:Nat}(hi:off+k<=m)(hu:(c.toListFrom undef off k).any isU=false) :
 ∃l',RVs ρ (c.toListFrom undef off k) l'/\(loadCells ⟨B.b,off,none⟩ k).run P wd = .ok ⟨l'⟩ wd:=by
 obtain⟨l',r1,r2,r3⟩:=rcells_at hH hb hg hi hu;refine⟨l',r1,?_⟩
 have:=run_loadCells_list (P:=P) (w:=wd) ⟨B.b,off,none⟩ l' λj v e=>by
  have h:=r3 j v e;unfold Addr.add;split
  . rename_i h0;subst h0;simpa using h
  . exact h
 rw[r2]at this;exact this
theorem run_loadRow(hH:HeapR P ng ρ base w0 hp n wd){b:Nat}{B:Bl}(hb: ρ b=some B){c:Tr Value}{m z kd:Nat}(hg:zG hp b = .cells c m z kd){off k:Nat}(hi:off+k<=m) :
 ∃l',RVs ρ (c.toListFrom undef off k) l'/\(loadCells ⟨B.b,off,none⟩ k).run P wd = .ok ⟨l'⟩ wd:=by
 obtain⟨l',r1,r2,r3⟩:=cells_at hH hb hg hi;refine⟨l',r1,?_⟩
 have:=run_loadCells_list (P:=P) (w:=wd) ⟨B.b,off,none⟩ l' λj v e=>by
  have h:=r3 j v e;unfold Addr.add;split
  . rename_i h0;subst h0;simpa using h
  . exact h
 rw[r2]at this;exact this
theorem shape_scal{ty:TypeId}(h:yP P ty = .scal):∃d i,und P ty=some d/\aggT d=false/\inf? P ty=some i/\i.size=1:=by
 unfold yP at h
 cases h1:und P ty with
 | none=>rw [h1]at h;cases h
 | some d =>
  cases h2:inf? P ty with
  | none=>rw [h1,h2]at h;cases h
  | some i =>
   rw[h1,h2]at h;dsimp only at h
   cases h3:aggT d with
   | true=>rw [h3]at h;cases h
   | false=>
    rw[h3]at h;dsimp only[cond]at h
    cases h4:Nat.beq i.size 1 with
    | false=>rw [h4]at h;cases h
    | true=>exact⟨d,i,rfl,h3,rfl,zT h4⟩
theorem shape_agg{ty:TypeId}{k:Nat}(h:yP P ty = .agg k):∃d i,und P ty=some d/\aggT d=true/\inf? P ty=some i/\i.size=k:=by
 unfold yP at h
 cases h1:und P ty with
 | none=>rw [h1]at h;cases h
 | some d =>
  cases h2:inf? P ty with
  | none=>rw [h1,h2]at h;cases h
  | some i =>
   rw[h1,h2]at h
   cases h3:aggT d with
   | false=>
    simp only[h3,cond]at h;cases h4:Nat.beq i.size 1 <;> rw[h4]at h <;> cases h
   | true=>
    simp only[h3,cond]at h;injection h with h
    exact⟨d,i,rfl,h3,rfl,h⟩
theorem load_ok(hH:HeapR P ng ρ base w0 hp n wd){ty:TypeId}{x x':Value}(hx:RV ρ x x'){v:Value}
(h:onPtr x (λb off=>onRows (zG hp b) (λc kn=>
  Sh.rec none (Bool.rec none (xU (Tr.get undef c off) some) (Nat.blt off kn))
   (λsz=>Bool.rec none (some (.agg ⟨c.toListFrom undef off sz⟩)) (Nat.ble (Nat.add off sz) kn)) (yP P ty)) (λc kn=>
  Sh.rec none (Bool.rec none (rS (Tr.get undef c off)) (Nat.blt off kn))
   (λsz=>Bool.rec none (rT (c.toListFrom undef off sz)) (Nat.ble (Nat.add off sz) kn)) (yP P ty)) none) none=some v) :
 ∃v',(Instr.loadAt ty x').run P wd = .ok v' wd/\RV ρ v v':=by
 rcases rU h with⟨b,off,rfl,h⟩|h
 case inr=>cases h
 obtain⟨B,hb,_,rfl⟩:=hx.of_ptr;have fg: ρ b=some B:=hb;rcases onRows_some h with⟨c,kn,z,kd,hg,h⟩|⟨c,kn,hg,h⟩|h
 case inr.inr=>cases h
 case inr.inl=>
  cases hs:yP P ty with
  | bad=>rw [hs]at h;cases h
  | scal =>
   rw[hs]at h;dsimp only at h;obtain⟨d,_,hd,ha,_⟩:=shape_scal hs
   cases eD:Nat.blt off kn with
   | false=>rw [eD]at h;cases h
   | true=>
    rw[eD]at h;obtain⟨u1,u2⟩:=known1_some (show rS (Tr.get undef c off)=some v from h);subst u2;obtain⟨v',e1,e2⟩:=rcell_at hH fg hg (xJ eD) u1;refine⟨v',?_,e2⟩;simp [Instr.loadAt,Instr.sureAddr,loadVar,run_agg? hd,ha,e1]
  | agg sz =>
   rw[hs]at h;dsimp only at h;obtain⟨d,i,hd,ha,hi,hsz⟩:=shape_agg hs
   cases hle:Nat.ble (Nat.add off sz) kn with
   | false=>rw [hle]at h;cases h
   | true=>
    rw[hle]at h;obtain⟨u1,u2⟩:=knownN_some (show rT (c.toListFrom undef off sz)=some v from h);subst u2;obtain⟨l',r1,r2⟩:=run_loadRows hH fg hg (off:=off) (k:=sz) (xQ hle) u1;refine⟨.agg ⟨l'⟩,?_,RV.mk_agg r1⟩;simp [Instr.loadAt,Instr.sureAddr,loadVar,run_agg? hd,ha,xE hi,hsz,r2]
 cases hs:yP P ty with
 | bad=>rw [hs]at h;cases h
 | scal =>
  rw[hs]at h;dsimp only at h;obtain⟨d,_,hd,ha,_⟩:=shape_scal hs
  cases eD:Nat.blt off kn with
  | false=>rw [eD]at h;cases h
  | true=>
   rw[eD]at h;simp only[yN]at h;injection h with h
   subst h;obtain⟨v',e1,e2⟩:=cell_at hH fg hg (xJ eD);refine⟨v',?_,e2⟩;simp [Instr.loadAt,Instr.sureAddr,loadVar,run_agg? hd,ha,e1]
 | agg sz =>
  rw[hs]at h;dsimp only at h;obtain⟨d,i,hd,ha,hi,hsz⟩:=shape_agg hs
  cases hle:Nat.ble (Nat.add off sz) kn with
  | false=>rw [hle]at h;cases h
  | true=>
   rw[hle]at h;injection h with h
   subst h;obtain⟨l',r1,r2⟩:=run_loadRow hH fg hg (off:=off) (k:=sz) (xQ hle);refine⟨.agg ⟨l'⟩,?_,RV.mk_agg r1⟩;simp [Instr.loadAt,Instr.sureAddr,loadVar,run_agg? hd,ha,xE hi,hsz,r2]
end
end
section
theorem add_eq(b o n:Nat):(⟨b,o,none⟩:Addr).add n=⟨b,o+n,none⟩:=by
 unfold Addr.add;by_cases h:n=0
 . subst h;rfl
 . rw[if_neg h]
theorem takeFrom_eq:∀(i n:Nat) (l:List Value),vU i n l=(l.drop i).take n:=by
 intro i
 induction i with
 | zero =>
  intro n
  induction n with
  | zero=>intro l;simp [vU]
  | succ n ih =>
   intro l
   cases l with
   | nil=>simp [vU]
   | cons v r=>
    have:=ih r;simp only[List.drop_zero]at this ⊢;show v::vU 0 n r=_;rw [this];rfl
 | succ i ih =>
  intro n l
  cases n with
  | zero=>simp [vU]
  | succ n =>
   cases l with
   | nil=>simp [vU]
   | cons v r=>
    show vU i (n+1) r=_;rw [ih (n+1) r];rfl
theorem extract_toList(c:Array Value)(i n:Nat):(c.extract i (i+n)).toList=(c.toList.drop i).take n:=by
 simp[Array.toList_extract]
section
variable {P:Program} {ng:Nat} {ρ : Inj} {base:Nat} {w0:World} {hp:zB} {n:Nat} {wd:World}
theorem part_ok{t:TypeId}{cs cs':List Value}{off:Nat}{v:Value}(hc:RVs ρ cs cs')(h:aPart P t cs off=some v) :
 ∃v',(part t ⟨cs'⟩ off).run P wd = .ok v' wd/\RV ρ v v':=by
 unfold aPart at h
 cases hd:und P t with
 | none=>rw [hd]at h;cases h
 | some d =>
  cases hi:inf? P t with
  | none=>rw [hd,hi]at h;cases h
  | some i =>
   rw[hd,hi]at h;dsimp only at h
   cases ha:aggT d with
   | true =>
    rw[ha]at h;dsimp only[cond]at h
    cases hb:Nat.ble (Nat.add off i.size) cs.length with
    | false=>rw [hb]at h;cases h
    | true=>
     rw[hb]at h;dsimp only[cond]at h;injection h with h
     subst h;refine⟨.agg ((⟨cs'⟩:Array Value).extract off (off+i.size)),?_,?_⟩
     . simp[part,run_agg? hd,ha,xE hi]
     . have:RVs ρ (vU off i.size cs) ((⟨cs'⟩:Array Value).extract off (off+i.size)).toList:=by
        rw[extract_toList,takeFrom_eq];exact(hc.drop off).take i.size
       exact .agg this.1 this.2
   | false=>
    rw[ha]at h;dsimp only[cond]at h;obtain⟨v',e1,e2⟩:=hc.at h;refine⟨v',?_,e2⟩;simp [part,run_agg? hd,ha,e1]
theorem off_some{t:TypeId}{f o:Nat}(h:offOf P t f=some o):∃fs fd i,und P t=some (.struct fs)/\fs[f]? = some fd/\inf? P fd.type=some i/\i.size≠0/\fd.offset=o:=by
 unfold offOf at h
 cases hd:und P t with
 | none=>rw [hd]at h;cases h
 | some d =>
  rw[hd]at h
  cases d with
  | struct fs =>
   dsimp only at h
   cases hf:fs[f]? with
   | none=>rw [hf]at h;cases h
   | some fd =>
    rw[hf]at h;dsimp only at h
    cases hi:inf? P fd.type with
    | none=>rw [hi]at h;cases h
    | some i =>
     rw[hi]at h;dsimp only at h
     cases hz:Nat.beq i.size 0 with
     | true=>rw [hz]at h;cases h
     | false=>
      rw[hz]at h;dsimp only[cond]at h;injection h with h
      exact⟨fs,fd,i,rfl,hf,hi,λe=>(by rw[e]at hz;cases hz),h⟩
  | _=>cases h
theorem fieldAddr_ok{t:TypeId}{f o b':Nat}{off:Nat}(h:offOf P t f=some o) :
 (Instr.fieldAt t (.pointer (some ⟨b',off,none⟩)) f).run P wd = .ok (.pointer (some ⟨b',off+o,none⟩)) wd:=by
 obtain⟨fs,fd,i,hd,hf,hi,hz,rfl⟩:=off_some h;simp [Instr.fieldAt,zR hd,hf,Instr.sureAddr,fieldPlace,xE hi,hz,add_eq]
theorem ix_slice{t:TypeId}{sz:Nat}(h:ixOf P t = .slice sz):∃e i,und P t=some (.slice e)/\inf? P e=some i/\i.size=sz:=by
 unfold ixOf at h
 cases hd:und P t with
 | none=>rw [hd]at h;cases h
 | some d =>
  rw[hd]at h
  cases d with
  | slice e=>
   dsimp only at h
   cases hi:inf? P e with
   | none=>rw [hi]at h;cases h
   | some i=>rw [hi]at h;dsimp only at h;injection h with h;exact⟨e,i,rfl,hi,h⟩
  | array len e=>
   dsimp only at h
   cases hi:inf? P e with
   | none=>rw [hi]at h;cases h
   | some i=>rw [hi]at h;cases h
  | _=>cases h
theorem ix_array{t:TypeId}{len sz:Nat}(h:ixOf P t = .array len sz):∃e i,und P t=some (.array len e)/\inf? P e=some i/\i.size=sz:=by
 unfold ixOf at h
 cases hd:und P t with
 | none=>rw [hd]at h;cases h
 | some d =>
  rw[hd]at h
  cases d with
  | slice e=>
   dsimp only at h
   cases hi:inf? P e with
   | none=>rw [hi]at h;cases h
   | some i=>rw [hi]at h;cases h
  | array l e=>
   dsimp only at h
   cases hi:inf? P e with
   | none=>rw [hi]at h;cases h
   | some i=>rw [hi]at h;dsimp only at h;injection h with h1 h2;subst h1;exact⟨e,i,rfl,hi,h2⟩
  | _=>cases h
theorem RV.of_slice{ρ : Inj}{b o l c:Nat}{v:Value}(h:RV ρ (.slice (some ⟨b,o,none⟩) l c) v) :
 (∃(B:Bl) (o' c':Nat),ρ b=some B/\v = .slice (some ⟨B.b,o',none⟩) l c'/\(0<l->o'=o)/\l<=c'/\
  ((c≠inf/\c'=c/\(o'=o\/c=0))\/(c=inf/\((o'=o/\o+c'*B.z=B.n)\/(c'=0/\0<o)))))\/
 (l=0/\c=0/\(∃B:Bl,ρ b=some B)/\∃a:Addr,v = .slice (some a) 0 0):=by
 cases h with
 | slice h hc hl ho=>exact .inl ⟨_,_,c,h,rfl,λh0=>ho.resolve_right qJ,hl,.inl ⟨hc,rfl,ho⟩⟩
 | slice0 h a=>exact .inr ⟨rfl,rfl,⟨_,h⟩,a,rfl⟩
 | opened h hl ho=>
  refine .inl ?_;refine⟨_,_,_,h,rfl,λkH=>?_,hl,.inr ⟨rfl,ho⟩⟩;rcases ho with ho|ho
  . exact ho.1
  . omega
theorem indexAddr_ok{ty:TypeId}{x x':Value}{k:IntKind}{i:Int}(hx:RV ρ x x'){v:Value}
(h:(Int.rec (λi=>Ix.rec none
  (λsz=>onSlice x (λb off len _=>Bool.rec none (some (.pointer (some ⟨b,Nat.add off (Nat.mul i sz),none⟩))) (Nat.blt i len)) none)
  (λlen sz=>onPtr x (λb off=>Bool.rec none (some (.pointer (some ⟨b,Nat.add off (Nat.mul i sz),none⟩))) (Nat.blt i len)) none) (ixOf P ty)) (λ_=>none) i:Option Value)=some v) :
 ∃v',(Instr.indexAt ty x' (.int k i)).run P wd = .ok v' wd/\RV ρ v v':=by
 cases i with
 | negSucc m=>cases h
 | ofNat m =>
  dsimp only at h
  cases hix:ixOf P ty with
  | bad=>rw [hix]at h;cases h
  | slice sz =>
   rw[hix]at h;dsimp only at h;obtain⟨e,ei,hd,hi,rfl⟩:=ix_slice hix;rcases onSlice_some h with⟨b,off,len,c,hxe,h2⟩|h2
   case inr=>cases h2
   clear h;have h:=h2;clear h2;subst hxe
   cases eD:Nat.blt m len with
   | false=>rw [eD]at h;cases h
   | true=>
    rw[eD]at h;dsimp only at h;injection h with h
    subst h;have hm:=xJ eD;rcases hx.of_slice with⟨B,o',c',hb,rfl,ho,_⟩|⟨h0,_⟩
    rotate_left
    . omega
    obtain rfl:=ho qJ;refine⟨.pointer (some ⟨B.b,o'+m*ei.size,none⟩),?_,RV.ptr hb⟩;simp [Instr.indexAt,asIntOf,zR hd,xE hi,add_eq,hm]
  | array len sz =>
   rw[hix]at h;dsimp only at h;obtain⟨e,ei,hd,hi,rfl⟩:=ix_array hix;rcases rU h with⟨b,off,hxe,h2⟩|h2
   case inr=>cases h2
   clear h;have h:=h2;clear h2;subst hxe
   cases eD:Nat.blt m len with
   | false=>rw [eD]at h;cases h
   | true=>
    rw[eD]at h;dsimp only at h;injection h with h
    subst h;have hm:=xJ eD;obtain⟨B,hb,_,rfl⟩:=hx.of_ptr;refine⟨.pointer (some ⟨B.b,off+m*ei.size,none⟩),?_,RV.ptr hb⟩;simp [Instr.indexAt,asIntOf,zR hd,xE hi,add_eq,hm,Instr.sureAddr]
theorem index_ok{ty:TypeId}{x x' ix ix':Value}(hx:RV ρ x x')(hix:RV ρ ix ix'){v:Value}(h:aIndex P ty x ix=some v) :
 ∃v',(Instr.index ty x' ix').run P wd = .ok v' wd/\RV ρ v v':=by
 unfold aIndex at h;split at h
 case h_2=>cases h
 rename_i k m;obtain rfl:=hix.of_int;split at h
 . rename_i len e cs hd;obtain⟨cs',rfl,fI⟩:=hx.of_agg
   cases hi:inf? P e with
   | none=>rw [hi]at h;cases h
   | some ei =>
    rw[hi]at h;dsimp only at h
    cases eD:Nat.blt m len with
    | false=>rw [eD]at h;cases h
    | true=>
     rw[eD]at h;have hm:=xJ eD;obtain⟨v',e1,e2⟩:=part_ok (wd:=wd) fI h;refine⟨v',?_,e2⟩;have:(⟨cs'.toList⟩:Array Value)=cs':=rfl;rw [this]at e1;have e1':(part e cs' (m*ei.size)).run P wd = .ok v' wd:=e1;simp [Instr.index,asIntOf,zR hd,xE hi,hm,e1']
 . rename_i s hd;obtain rfl:=hx.of_string;rw [nthB_eq]at h;split at h
   . rename_i b hb;injection h with h
     subst h;refine⟨.int .u8 b.toNat,?_,RV.int _ _⟩
     have eD:m<s.data.toList.length:=by
      rcases aS m s.data.toList.length with h1|h1
      . exact h1
      . rw[aw h1]at hb;cases hb
     have hs:s[m]? = some b:=by
      have h2:m<s.size:=eD;rw [getElem?_pos s m h2];rw [aa eD]at hb;injection hb with hb
      rw[<- hb];rfl
     simp[Instr.index,asIntOf,zR hd,hs]
   . cases h
 . cases h
theorem field_ok{ty:TypeId}{x x':Value}{f:Nat}(hx:RV ρ x x'){v:Value}(h:aField P ty x f=some v) :
 ∃v',(Instr.field ty x' f).run P wd = .ok v' wd/\RV ρ v v':=by
 unfold aField at h;split at h
 . rename_i fs cs hd;obtain⟨cs',rfl,fI⟩:=hx.of_agg;split at h
   . rename_i fd hf;obtain⟨v',e1,e2⟩:=part_ok (wd:=wd) fI h;refine⟨v',?_,e2⟩;have e1':(part fd.type cs' fd.offset).run P wd = .ok v' wd:=e1;simp [Instr.field,zR hd,hf,asAgg,e1']
   . cases h
 . cases h
theorem extract_ok{x x':Value}{i:Nat}(hx:RV ρ x x'){v:Value}{vs:Array Value}(he:x = .tuple vs)(h:vs.toList[i]? = some v) :
 ∃v',(Instr.extract x' i).run P wd = .ok v' wd/\RV ρ v v':=by
 subst he;obtain⟨vs',rfl,hvs⟩:=hx.of_tuple;obtain⟨v',e1,e2⟩:=hvs.at h;refine⟨v',?_,e2⟩;have:vs'[i]? = some v':=by simpa using e1
 simp[Instr.extract,this]
end
end
section
section
variable {P:Program} {ng:Nat} {ρ : Inj} {base:Nat} {w0:World} {hp:zB} {n:Nat} {wd:World}
def ORV(ρ : Inj)(o o':Option Value):Prop:=
 match o,o' with
 | none,none=>True
 | some v,some v'=>RV ρ v v'
 | _,_=>False
theorem natOf_some{v:Value}{m:Nat}(h:natOf v=some m):∃k,v = .int k (.ofNat m):=by
 unfold natOf at h;split at h
 . injection h with h;subst h;exact⟨_,rfl⟩
 . cases h
theorem yF{d most m:Nat}{o o':Option Value}(hr:ORV ρ o o')(h:zZ d most o=some m) :
 (o=none/\o'=none/\m=d)\/∃v k,o=some v/\o'=some (.int k m)/\m<=most:=by
 cases o with
 | none=>
  cases o' with
  | none=>simp only[zZ]at h;injection h with h;exact .inl ⟨rfl,rfl,h.symm⟩
  | some v=>exact hr.elim
 | some v =>
  cases o' with
  | none=>exact hr.elim
  | some v' =>
   simp only[zZ]at h
   cases hn:natOf v with
   | none=>rw [hn]at h;cases h
   | some i =>
    rw[hn]at h;dsimp only at h
    cases hle:Nat.ble i most with
    | false=>rw [hle]at h;cases h
    | true=>
     rw[hle]at h;dsimp only[cond]at h;injection h with h
     subst h;obtain⟨k,rfl⟩:=natOf_some hn;have hr':RV ρ (.int k (.ofNat i)) v':=hr;obtain rfl:=hr'.of_int;exact .inr ⟨_,k,rfl,rfl,xQ hle⟩
theorem vW(k:IntKind){m y:Nat}(code:BoundsCode)(h:m<=y):(Instr.sliceBound (.int k (m:Int)) y code).run P wd = .ok m wd:=by
 have:=Go.run_sliceBound (P:=P) (w:=wd) k m y code qJ qJ;simpa using this
theorem rV{isS:Bool}{len cap c':Nat}{lo hi mx lo' fQ mx':Option Value}(h1:ORV ρ lo lo')(h2:ORV ρ hi fQ)(h3:ORV ρ mx mx')(hf:fullOK hi mx=true){m hh l dm:Nat}{most:Nat}
(e1:zZ dm cap mx=some m)(e2:zZ len most hi=some hh)(e3:zZ 0 hh lo=some l)
(iK:mx=none->most<=c')(hmx2:mx≠none->cap<=c'/\most=m) :
 (Instr.sliceBounds isS len c' lo' fQ mx').run P wd = .ok (l,hh,if mx=none then c' else m) wd:=by
 rcases yF h3 e1 with⟨rfl,rfl,_⟩|⟨v,k,rfl,rfl,hm⟩
 . have hc:=iK rfl;rcases yF h2 e2 with⟨rfl,rfl,rfl⟩|⟨v2,k2,rfl,rfl,hh2⟩
   . rcases yF h1 e3 with⟨rfl,rfl,rfl⟩|⟨v3,k3,rfl,rfl,hl⟩
     . simp[Instr.sliceBounds]
     . simp[Instr.sliceBounds,vW k3 _ hl]
   . rcases yF h1 e3 with⟨rfl,rfl,rfl⟩|⟨v3,k3,rfl,rfl,hl⟩
     . simp[Instr.sliceBounds,vW k2 _ (aW hh2 hc)]
     . simp[Instr.sliceBounds,vW k2 _ (aW hh2 hc),vW k3 _ hl]
 . obtain⟨hc,rfl⟩:=hmx2 qL;rcases yF h2 e2 with⟨rfl,rfl,rfl⟩|⟨v2,k2,rfl,rfl,hh2⟩
   . cases hf
   . rcases yF h1 e3 with⟨rfl,rfl,rfl⟩|⟨v3,k3,rfl,rfl,hl⟩
     . simp[Instr.sliceBounds,vW k _ (aW hm hc),vW k2 _ hh2]
     . simp[Instr.sliceBounds,vW k _ (aW hm hc),vW k2 _ hh2,vW k3 _ hl]
theorem far_eq(b o n:Nat):far ⟨b,o,none⟩ n=⟨b,o+n,none⟩:=rfl
theorem sliceEx_ok{isS:Bool}{b off off' len cap size:Nat}{B:Bl}(hb: ρ b=some B)(ho:off'=off\/cap=0){lo hi mx lo' fQ mx':Option Value}(h1:ORV ρ lo lo')(h2:ORV ρ hi fQ)(h3:ORV ρ mx mx')
   (hf:fullOK hi mx=true){v:Value}(h:wT ⟨b,off,none⟩ len cap size lo hi mx=some v) :
    ∃l hh m,(Instr.sliceBounds isS len cap lo' fQ mx').run P wd = .ok (l,hh,m) wd/\
      RV ρ v (.slice (some (if m=l then⟨B.b,off',none⟩ else(⟨B.b,off',none⟩:Addr).add (l*size))) (hh - l) (m - l)):=by
  unfold wT at h
  cases e1:zZ cap cap mx with
  | none=>rw [e1]at h;cases h
  | some m =>
    rw[e1]at h;dsimp only at h
    cases e2:zZ len m hi with
    | none=>rw [e2]at h;cases h
    | some hh =>
      rw[e2]at h;dsimp only at h
      cases e3:zZ 0 hh lo with
      | none=>rw [e3]at h;cases h
      | some l =>
        rw[e3]at h;dsimp only at h
        cases hc:(Nat.blt m inf && Nat.ble hh m) with
        | false=>rw [hc]at h;cases h
        | true =>
          rw[hc]at h;dsimp only[cond]at h;injection h with h
          subst h;obtain⟨hm,hhm⟩:=ak.1 hc;have hm:=xJ hm;have hhm:=xQ hhm
          have hmc:m<=cap:=by
            rcases yF h3 e1 with⟨_,_,e⟩|⟨_,_,_,_,e⟩
            . omega
            . exact e
          have hlh:l<=hh:=by
            rcases yF h1 e3 with⟨_,_,e⟩|⟨_,_,_,_,e⟩
            . omega
            . exact e
          have fG:mx=none->m=cap:=λe=>by
            subst e;simp only[zZ]at e1;injection e1 with e1;exact e1.symm
          refine⟨l,hh,m,?_,?_⟩
          . have:=rV (P:=P) (wd:=wd) (isS:=isS) (c':=cap) h1 h2 h3 hf e1 e2 e3 (λ_=>hmc) (λ_=>⟨ad _,rfl⟩);rw [this];split
            . rename_i e;rw [fG e]
            . rfl
          . by_cases gB:m=l
            . subst gB;have e0:hh - m<=m - m:=by omega
              have:Nat.beq m m=true:=aR m;rw [this,if_pos rfl];dsimp only[cond]
              exact .slice hb (by show m - m ≠ inf; have : inf ≠ 0 := by decide
                                  omega) e0 (.inr (by show m - m=0;omega))
            . have jt:Nat.beq m l=false:=by
                cases e:Nat.beq m l with
                | false=>rfl
                | true=>exact absurd (zT e) gB
              rw[jt,if_neg gB,add_eq];dsimp only[cond];rw [far_eq];refine .slice hb (by show m - l≠inf;omega) (by show hh - l<=m - l;omega) (.inl ?_);rcases ho with ho|ho
              . rw[ho];rfl
              . omega
theorem sliceOp_ok{isS:Bool}{b off off' len c' size:Nat}{B:Bl}(hb: ρ b=some B)(hl:len<=c')(ho:(off'=off/\off+c'*B.z=B.n)\/(c'=0/\0<off))(hz:B.z=size)(mS:1<=size)
   {lo hi mx lo' fQ mx':Option Value}(h1:ORV ρ lo lo')(h2:ORV ρ hi fQ)(h3:ORV ρ mx mx')
   (hf:fullOK hi mx=true){v:Value}(h:uP ⟨b,off,none⟩ len size lo hi mx=some v) :
    ∃l hh m,(Instr.sliceBounds isS len c' lo' fQ mx').run P wd = .ok (l,hh,m) wd/\
      RV ρ v (.slice (some (if m=l then⟨B.b,off',none⟩ else(⟨B.b,off',none⟩:Addr).add (l*size))) (hh - l) (m - l)):=by
  unfold uP at h
  cases mx with
  | none =>
    dsimp only at h
    cases e2:zZ len len hi with
    | none=>rw [e2]at h;cases h
    | some hh =>
      rw[e2]at h;dsimp only at h
      cases e3:zZ 0 hh lo with
      | none=>rw [e3]at h;cases h
      | some l =>
        rw[e3]at h;dsimp only at h;injection h with h
        subst h
        have hhl:hh<=len:=by
          rcases yF h2 e2 with⟨_,_,e⟩|⟨_,_,_,_,e⟩
          . omega
          . exact e
        have hlh:l<=hh:=by
          rcases yF h1 e3 with⟨_,_,e⟩|⟨_,_,_,_,e⟩
          . omega
          . exact e
        refine⟨l,hh,c',?_,?_⟩
        . have:=rV (P:=P) (wd:=wd) (isS:=isS) (cap:=0) (c':=c') (dm:=0) (m:=0) h1 h2 h3 hf rfl e2 e3 (λ_=>hl) (λe=>absurd rfl e);rw [this,if_pos rfl]
        . rw[far_eq];by_cases gB:c'=l
          . subst gB;rw [if_pos rfl];refine .opened hb (by show hh - c'<=c' - c';omega) ?_;rw [bB];rcases bK c' with e0|e0
            . subst e0;rcases ho with⟨fW,ho2⟩|ho
              . exact .inl ⟨by rw[fW];simp,by simpa using ho2⟩
              . exact .inr ⟨rfl,by simpa using ho.2⟩
            . exact .inr ⟨rfl,by
                have:1*1<=c'*size:=eh qJ  mS;show 0<off+c'*size;omega⟩
          . rw[if_neg gB,add_eq];rcases ho with⟨fW,ho2⟩|ho
            . subst hz;refine .opened hb (by show hh - l<=c' - l;omega) (.inl ⟨by rw[fW];rfl,?_⟩);show off+l*B.z+(c' - l)*B.z=B.n;rw [<- ho2,Nat.sub_mul];have:l*B.z<=c'*B.z:=bN _ qJ;omega
            . omega
  | some vm =>
    dsimp only at h
    cases e1:zZ len len (some vm) with
    | none=>rw [e1]at h;cases h
    | some m =>
      rw[e1]at h;dsimp only at h
      cases e2:zZ m m hi with
      | none=>rw [e2]at h;cases h
      | some hh =>
        rw[e2]at h;dsimp only at h
        cases e3:zZ 0 hh lo with
        | none=>rw [e3]at h;cases h
        | some l =>
          rw[e3]at h;dsimp only at h
          cases hc:Nat.blt m inf with
          | false=>rw [hc]at h;cases h
          | true =>
            rw[hc]at h;dsimp only[cond]at h;injection h with h
            subst h;have hm:=xJ hc
            have hml':m<=len:=by
              rcases yF h3 e1 with⟨e,_⟩|⟨_,_,_,_,e⟩
              . cases e
              . exact e
            have hhm:hh<=m:=by
              rcases yF h2 e2 with⟨_,_,e⟩|⟨_,_,_,_,e⟩
              . omega
              . exact e
            have hlh:l<=hh:=by
              rcases yF h1 e3 with⟨_,_,e⟩|⟨_,_,_,_,e⟩
              . omega
              . exact e
            refine⟨l,hh,m,?_,?_⟩
            . cases hi with
              | none=>cases hf
              | some vh =>
                have e2':zZ len m (some vh)=some hh:=e2;have:=rV (P:=P) (wd:=wd) (isS:=isS) (c':=c') h1 h2 h3 hf e1 e2' e3 (λe=>by cases e) (λ_=>⟨hl,rfl⟩);rw [this,if_neg qL]
            . by_cases gB:m=l
              . subst gB;have:Nat.beq m m=true:=aR m;rw [this,if_pos rfl];dsimp only[cond]
                exact .slice hb (by show m - m ≠ inf; have : inf ≠ 0 := by decide
                                    omega) (by show hh - m<=m - m;omega) (.inr (by show m - m=0;omega))
              . have jt:Nat.beq m l=false:=by
                  cases e:Nat.beq m l with
                  | false=>rfl
                  | true=>exact absurd (zT e) gB
                rw[jt,if_neg gB,add_eq];dsimp only[cond];rw [far_eq];refine .slice hb (by show m - l≠inf;omega) (by show hh - l<=m - l;omega) (.inl ?_);rcases ho with⟨fW,_⟩|ho
                . rw[fW];rfl
                . omega
end
end
section
theorem str_extract(s:ByteArray)(l h:Nat):s.extract l h=⟨⟨(s.data.toList.drop l).take (h - l)⟩⟩:=by
 have:(s.extract l h).data=s.data.extract l h:=ByteArray.data_extract;have h2:(s.extract l h).data.toList=(s.data.toList.drop l).take (h - l):=by rw[this];simp [Array.toList_extract]
 cases hs:s.extract l h with
 | mk d=>
  rw[hs]at h2
  cases d with
  | mk q=>simp only at h2;rw [h2]
theorem sliceEx_zero{a:Addr}{size:Nat}{lo hi mx:Option Value}{v:Value}(h:wT a 0 0 size lo hi mx=some v) :
 ∃m hh l,zZ 0 0 mx=some m/\zZ 0 m hi=some hh/\zZ 0 hh lo=some l/\v = .slice (some (cond (Nat.beq m l) a (far a (Nat.mul l size)))) (Nat.sub hh l) (Nat.sub m l):=by
 unfold wT at h
 cases e1:zZ 0 0 mx with
 | none=>rw [e1]at h;cases h
 | some m =>
  rw[e1]at h;dsimp only at h
  cases e2:zZ 0 m hi with
  | none=>rw [e2]at h;cases h
  | some hh =>
   rw[e2]at h;dsimp only at h
   cases e3:zZ 0 hh lo with
   | none=>rw [e3]at h;cases h
   | some l =>
    rw[e3]at h;dsimp only at h
    cases hc:(Nat.blt m inf && Nat.ble hh m) with
    | false=>rw [hc]at h;cases h
    | true=>
     rw[hc]at h;injection h with h
     exact⟨m,hh,l,rfl,e2,e3,h.symm⟩
section
variable {P:Program} {ng:Nat} {ρ : Inj} {base:Nat} {w0:World} {hp:zB} {n:Nat} {wd:World}
theorem nat_sub(a b:Nat):Nat.sub a b=a - b:=rfl
theorem slice_ok(hH:HeapR P ng ρ base w0 hp n wd){ty:TypeId}{x x':Value}(hx:RV ρ x x'){lo hi mx lo' fQ mx':Option Value}(h1:ORV ρ lo lo')(h2:ORV ρ hi fQ)(h3:ORV ρ mx mx')
{v:Value}(h:xS P hp ty x lo hi mx=some v):∃v',(Instr.sliceAt ty x' lo' fQ mx').run P wd = .ok v' wd/\RV ρ v v':=by
 unfold xS at h
 cases hf:fullOK hi mx with
 | false=>rw [hf]at h;cases h
 | true =>
  rw[hf]at h;dsimp only[cond]at h;split at h
  ·
   rename_i e len cap hd
   cases hc:(Nat.beq len 0 && Nat.beq cap 0) with
   | false=>rw [hc]at h;cases h
   | true=>
    rw[hc]at h;obtain⟨h4,h5⟩:=ak.1 hc;obtain rfl:=zT h4;obtain rfl:=zT h5;cases hx
    dsimp only at h;split at h
    . rename_i m hh l i e1 e2 e3 hi;injection h with h
      subst h
      have m0:m=0:=by
       rcases yF h3 e1 with⟨_,_,e⟩|⟨_,_,_,_,e⟩ <;> omega
      have hh0:hh=0:=by
       rcases yF h2 e2 with⟨_,_,e⟩|⟨_,_,_,_,e⟩ <;> omega
      have l0:l=0:=by
       rcases yF h1 e3 with⟨_,_,e⟩|⟨_,_,_,_,e⟩ <;> omega
      subst m0 hh0 l0;have:=rV (P:=P) (wd:=wd) (isS:=true) (c':=0) h1 h2 h3 hf e1 e2 e3 (λ_=>ad _) (λ_=>⟨ad _,rfl⟩);refine⟨.slice none 0 0,?_,RV.nilSlice 0 0 qK⟩;have this':(Instr.sliceBounds true 0 0 lo' fQ mx').run P wd = .ok (0,0,0) wd:=by rw[this];split <;> rfl
      simp[Instr.sliceAt,zR hd,Instr.slice,this',xE hi]
    . cases h
  . rename_i e b off len cap hd
    cases hi:inf? P e with
    | none=>rw [hi]at h;cases h
    | some ei =>
     rw[hi]at h;dsimp only at h;rcases hx.of_slice with⟨B,o',c',hb,rfl,_,hl,fI⟩|⟨rfl,rfl,⟨B,hb⟩,a,rfl⟩
     rotate_left
     . have fz:Nat.beq 0 inf=false:=by decide
       rw[fz]at h;dsimp only[cond]at h;obtain⟨m,hh,l,e1,e2,e3,e4⟩:=sliceEx_zero h
       have m0:m=0:=by
        rcases yF h3 e1 with⟨_,_,e⟩|⟨_,_,_,_,e⟩ <;> omega
       have hh0:hh=0:=by
        rcases yF h2 e2 with⟨_,_,e⟩|⟨_,_,_,_,e⟩ <;> omega
       have l0:l=0:=by
        rcases yF h1 e3 with⟨_,_,e⟩|⟨_,_,_,_,e⟩ <;> omega
       subst m0 hh0 l0;subst e4;have:=rV (P:=P) (wd:=wd) (isS:=true) (c':=0) h1 h2 h3 hf e1 e2 e3 (λ_=>ad _) (λ_=>⟨ad _,rfl⟩);have this':(Instr.sliceBounds true 0 0 lo' fQ mx').run P wd = .ok (0,0,0) wd:=by rw[this];split <;> rfl
       refine⟨.slice (some a) 0 0,?_,RV.slice0 hb a⟩;simp [Instr.sliceAt,zR hd,Instr.slice,this',xE hi]
     cases fz:Nat.beq cap inf with
     | true=>
      rw[fz]at h;obtain rfl:=zT fz;dsimp only[cond]at h;split at h
      . rename_i c kn z hg
        cases hz:(Nat.beq z (zc e ei.size) && Nat.ble 1 ei.size) with
        | false=>rw [hz]at h;cases h
        | true =>
         rw[hz]at h;dsimp only[cond]at h;obtain⟨hz,mS⟩:=ak.1 hz;have mS:=xQ mS;obtain rfl:=zT hz
         have hBz:B.z=ei.size:=by
          obtain⟨o,e1,e2⟩:=hH.obj b B hb (by rw[hg];exact AObj.noConfusion);rw [hg]at e2
          cases e2 with
          | cells _ _ _ hz' _ _ _=>exact(zc_inj (hz'.1 rfl)).2.symm
         have ho:(o'=off/\off+c'*B.z=B.n)\/(c'=0/\0<off):=by
          rcases fI with⟨h6,_⟩|⟨_,h6⟩
          . exact absurd rfl h6
          . exact h6
         obtain⟨l,hh,m,r1,r2⟩:=sliceOp_ok (P:=P) (wd:=wd) (isS:=true) hb hl ho hBz mS h1 h2 h3 hf h;refine⟨_,?_,r2⟩;simp [Instr.sliceAt,zR hd,Instr.slice,r1,xE hi];split <;> rfl
      . cases h
     | false=>
      rw[fz]at h;dsimp only[cond]at h;rcases fI with⟨_,rfl,ho⟩|⟨h6,_⟩
      case inr=>subst h6;rw [aR]at fz;cases fz
      obtain⟨l,hh,m,r1,r2⟩:=sliceEx_ok (P:=P) (wd:=wd) (isS:=true) hb ho h1 h2 h3 hf h;refine⟨_,?_,r2⟩;simp [Instr.sliceAt,zR hd,Instr.slice,r1,xE hi];split <;> rfl
  . rename_i k e b off hd
    cases hi:inf? P e with
    | none=>rw [hi]at h;cases h
    | some ei=>
     rw[hi]at h;dsimp only at h;obtain⟨B,hb,_,rfl⟩:=hx.of_ptr;obtain⟨l,hh,m,r1,r2⟩:=sliceEx_ok (P:=P) (wd:=wd) (isS:=false) (off':=off) hb (.inl rfl) h1 h2 h3 hf h;refine⟨_,?_,r2⟩;simp [Instr.sliceAt,zR hd,Instr.sureAddr,r1,xE hi]
  . rename_i arr b off hd;split at h
    . rename_i k e iF
      cases hi:inf? P e with
      | none=>rw [hi]at h;cases h
      | some ei=>
       rw[hi]at h;dsimp only at h;obtain⟨B,hb,_,rfl⟩:=hx.of_ptr;obtain⟨l,hh,m,r1,r2⟩:=sliceEx_ok (P:=P) (wd:=wd) (isS:=false) (off':=off) hb (.inl rfl) h1 h2 h3 hf h;refine⟨_,?_,r2⟩;simp [Instr.sliceAt,zR hd,Instr.slice,asAddr,zR iF,r1,xE hi]
    . cases h
  . rename_i s hd
    cases mx with
    | some _=>cases h
    | none =>
     dsimp only at h
     cases e2:zZ s.data.toList.length s.data.toList.length hi with
     | none=>rw [e2]at h;cases h
     | some hh =>
      rw[e2]at h;dsimp only at h
      cases e3:zZ 0 hh lo with
      | none=>rw [e3]at h;cases h
      | some l =>
       rw[e3]at h;dsimp only at h;injection h with h
       subst h;obtain rfl:=hx.of_string
       cases mx' with
       | some _=>exact h3.elim
       | none=>
        have:=rV (P:=P) (wd:=wd) (isS:=false) (cap:=0) (c':=s.data.toList.length) (dm:=0) (m:=0) h1 h2 h3 hf rfl e2 e3 (λ_=>ad _) (λe=>absurd rfl e);refine⟨_,?_,RV.string _⟩;have this':(Instr.sliceBounds false s.size s.size lo' fQ none).run P wd = .ok (l,hh,s.data.toList.length) wd:=this;rw [cutS_eq,nat_sub,<- str_extract];simp [Instr.sliceAt,zR hd,Instr.slice,this']
  . cases h
end
end
section
theorem putAll_eq(off:Nat):∀(l:List Value) (k:Nat) (cs:Array Value),
 ((l.zipIdx k).foldl (λ(cs:Array Value) (x:Value×Nat)=>cs.setIfInBounds (off+x.2) x.1) cs).toList=putAll cs.toList (off+k) l:=by
 intro l
 induction l with
 | nil=>intro k cs;rfl
 | cons v r ih=>
  intro k cs;simp only[List.zipIdx_cons,cz,ih,putAll,Array.toList_setIfInBounds];rfl
theorem RVs.putAll{ρ : Inj}:∀{l l':List Value},RVs ρ l l'->∀{cs cs':List Value} (off:Nat),RVs ρ cs cs'->RVs ρ (putAll cs off l) (putAll cs' off l'):=by
 intro l
 induction l with
 | nil=>intro l' h cs cs' off k;obtain rfl:=h.of_nil;exact k
 | cons v r ih=>
  intro l' h cs cs' off k;obtain⟨v',r',rfl,hv,hr⟩:=h.of_cons;exact ih hr (off+1) (k.set off hv)
def PsR(ρ : Inj):List (Nat×Value)->List (Nat×Value)->Prop
 | [],[]=>True
 | (i,v)::r,(j,v')::r'=>i=j/\RV ρ v v'/\PsR ρ r r'
 | _,_=>False
theorem PsR.map{ρ : Inj}(f g:Operand->Value):∀(l:List (Nat×Operand)),(∀p∈l,RV ρ (f p.2) (g p.2))->PsR ρ (l.map λp=>(p.1,f p.2)) (l.map λp=>(p.1,g p.2))
 | [],_=>trivial
 | p::l,h=>⟨rfl,h p qL,PsR.map f g l λq hq=>h q (by simp[hq])⟩
theorem fill_ok{ρ : Inj}(place:Nat->Option (Nat×Nat)):∀{ps ps':List (Nat×Value)},PsR ρ ps ps'->∀{cs:List Value} {cs':Array Value},RVs ρ cs cs'.toList->∀{r:List Value},
 aFill place cs ps=some r->∃r',Instr.fill place cs' ps'=some r'/\RVs ρ r r'.toList:=by
 intro ps
 induction ps with
 | nil=>
  intro ps' h cs cs' hc r hr
  cases ps' with
  | nil=>simp only[aFill]at hr;injection hr with hr;subst hr;exact⟨cs',rfl,hc⟩
  | cons _ _=>exact h.elim
 | cons p rest ih =>
  intro ps' h cs cs' hc r hr;obtain⟨i,v⟩:=p
  cases ps' with
  | nil=>exact h.elim
  | cons p' rest' =>
   obtain⟨i',v'⟩:=p';obtain⟨rfl,hv,hrest⟩:=h;simp only[aFill]at hr
   cases hp:place i with
   | none=>rw [hp]at hr;cases hr
   | some os =>
    obtain⟨off,size⟩:=os;rw [hp]at hr;dsimp only at hr
    cases hb:(Nat.beq (cellsOf v).length size && Nat.ble (Nat.add off size) cs.length) with
    | false=>rw [hb]at hr;cases hr
    | true =>
     rw[hb]at hr;dsimp only[cond]at hr;obtain⟨h1,h2⟩:=ak.1 hb;have h1:=zT h1;have h2:off+size<=cs.length:=xQ h2;have hvc:=hv.cells
     have hsz:v'.cells.size=size:=by
      have:=hvc.1;simp at this;omega
     have eX:cs'.size=cs.length:=by have:=hc.1;simp at this;omega
     have fI:RVs ρ (putAll cs off (cellsOf v)) ((v'.cells.zipIdx.foldl (λ(cs:Array Value) (x:Value×Nat)=>cs.setIfInBounds (off+x.2) x.1) cs').toList):=by
      have e:(v'.cells.zipIdx.foldl (λ(cs:Array Value) (x:Value×Nat)=>cs.setIfInBounds (off+x.2) x.1) cs').toList=putAll cs'.toList off v'.cells.toList:=by
       have:=putAll_eq off v'.cells.toList 0 cs';rw [<- Array.foldl_toList];simpa [Array.toList_zipIdx] using this
      rw[e];exact RVs.putAll hvc off hc
     obtain⟨r',e1,e2⟩:=ih hrest fI hr;refine⟨r',?_,e2⟩;rw [Instr.fill,hp];dsimp only;rw [if_neg qM];exact e1
section
variable {P:Program} {ng:Nat} {ρ : Inj} {base:Nat} {w0:World} {hp:zB} {n:Nat} {wd:World}
theorem places_some:∀{fs:List Field} {l:List (Nat×Nat)},placesOf P fs=some l->fs.mapM (λf=>(P.info? f.type).map λi=>(f.offset,i.size))=some l:=by
 intro fs
 induction fs with
 | nil=>intro l h;simp only[placesOf]at h;injection h with h;subst h;rfl
 | cons f fs ih =>
  intro l h;simp only[placesOf]at h
  cases hi:inf? P f.type with
  | none=>rw [hi]at h;cases h
  | some i =>
   cases hr:placesOf P fs with
   | none=>rw [hi,hr]at h;cases h
   | some r=>
    rw[hi,hr]at h;dsimp only at h;injection h with h
    subst h;simp [List.mapM_cons,(xY hi).2,ih hr]
theorem build_ok(hP:xC ng P=true){ty:TypeId}{ps ps':List (Nat×Value)}(gP:PsR ρ ps ps'){v:Value}(h:aBuild P ty ps=some v) :
 ∃v',(Instr.build ty ⟨ps'⟩).run P wd = .ok v' wd/\RV ρ v v':=by
 unfold aBuild at h
 cases hz:xI P ty with
 | none=>rw [hz]at h;cases h
 | some z =>
  rw[hz]at h;dsimp only at h;have ik:=RV.cells (RV.plain (tT hP hz) ρ)
  cases hs:structPlaces P ty with
  | some pl =>
   rw[hs]at h;dsimp only at h
   cases hf:aFill (λi=>pl[i]?) (cellsOf z) ps with
   | none=>rw [hf]at h;cases h
   | some cs=>
    rw[hf]at h;injection h with h
    subst h;unfold structPlaces at hs;split at hs
    . rename_i fs hd;obtain⟨r',e1,e2⟩:=fill_ok (λi=>pl[i]?) gP ik hf;refine⟨.agg r',?_,RV.agg e2.1 e2.2⟩;have:=Go.run_places (P:=P) wd fs.toList pl (places_some hs);simp [Instr.build,vV hz,zR hd,Array.mapM_eq_mapM_toList,this,e1]
    . cases hs
  | none =>
   rw[hs]at h;dsimp only at h
   cases hix:ixOf P ty with
   | bad=>rw [hix]at h;cases h
   | slice sz=>rw [hix]at h;cases h
   | array len sz =>
    rw[hix]at h;dsimp only at h;obtain⟨e,ei,hd,hi,rfl⟩:=ix_array hix
    cases hf:aFill (λi=>some (Nat.mul i ei.size,ei.size)) (cellsOf z) ps with
    | none=>rw [hf]at h;cases h
    | some cs=>
     rw[hf]at h;injection h with h
     subst h;obtain⟨r',e1,e2⟩:=fill_ok (λi=>some (Nat.mul i ei.size,ei.size)) gP ik hf;refine⟨.agg r',?_,RV.agg e2.1 e2.2⟩;have e1':Instr.fill (λi=>some (i*ei.size,ei.size)) z.cells ps'=some r':=e1;simp [Instr.build,vV hz,zR hd,xE hi,e1']
theorem ble_dec(a b:Nat):Nat.ble a b=decide (a<=b):=by
 cases h:Nat.ble a b with
 | true=>simp [dJ h]
 | false=>
  have:¬a<=b:=λe=>by rw[db e]at h;cases h
  simp[this]
theorem beq_dec(a b:Nat):Nat.beq a b=decide (a=b):=by
 cases h:Nat.beq a b with
 | true=>simp [de h]
 | false=>
  have:¬a=b:=λe=>by subst e;rw [aR]at h;cases h
  simp[this]
theorem ileB_eq(a b:Int):ileB a b=decide (a<=b):=by
 cases a with
 | ofNat a => cases b with
  | ofNat b=>
   show Nat.ble a b=_;rw [ble_dec];apply decide_eq_decide.2;show a<=b↔(a:Int)<=(b:Int);omega
  | negSucc b=>exact(decide_eq_false (by simp only[bp];omega)).symm
 | negSucc a => cases b with
  | ofNat b=>exact(decide_eq_true (by simp only[bp];omega)).symm
  | negSucc b=>
   show Nat.ble b a=_;rw [ble_dec];apply decide_eq_decide.2;omega
theorem wQ(a b:Int):ieqB a b=decide (a=b):=by
 cases a with
 | ofNat a => cases b with
  | ofNat b=>
   show Nat.beq a b=_;rw [beq_dec];apply decide_eq_decide.2;show a=b↔(a:Int)=(b:Int);omega
  | negSucc b=>exact(decide_eq_false (by simp only[bp];omega)).symm
 | negSucc a => cases b with
  | ofNat b=>exact(decide_eq_false (by simp only[bp];omega)).symm
  | negSucc b=>
   show Nat.beq b a=_;rw [beq_dec];apply decide_eq_decide.2;omega
theorem iltB_eq(a b:Int):iltB a b=decide (a<b):=by
 show(Bool.rec true false (ileB b a):Bool)=_;rw [ileB_eq];by_cases h:b<=a
 . have h2:¬a<b:=by omega
   simp[h,h2]
 . have h2:a<b:=by omega
   simp[h,h2]
theorem subNN_eq(m k:Nat):subNN m k=(m:Int) - (k:Int):=by
 show(Bool.rec (Int.negSucc (Nat.pred (Nat.sub k m))) (Int.ofNat (Nat.sub m k)) (Nat.ble k m):Int)=_;by_cases h:k<=m
 . rw[db h];show Int.ofNat (m - k)=_;simp only[bp];omega
 . have:Nat.ble k m=false:=by
    cases e:Nat.ble k m with
    | false=>rfl
    | true=>exact absurd (dJ e) h
   rw[this];show Int.negSucc (k - m - 1)=_;omega
theorem iadd_eq(a b:Int):iadd a b=a+b:=by
 cases a with
 | ofNat a=>cases b with
  | ofNat b=>rfl
  | negSucc b=>show subNN a (b+1)=_;rw [subNN_eq];simp only[bp];omega
 | negSucc a=>cases b with
  | ofNat b=>show subNN b (a+1)=_;rw [subNN_eq];simp only[bp];omega
  | negSucc b=>show Int.negSucc (Nat.succ (a+b))=_;omega
theorem isub_eq(a b:Int):isub a b=a - b:=by
 cases b with
 | ofNat b=>cases a with
  | ofNat a=>show subNN a b=_;rw [subNN_eq];rfl
  | negSucc a=>show Int.negSucc (a+b)=_;simp only[bp];omega
 | negSucc b=>cases a with
  | ofNat a=>show Int.ofNat (a+(b+1))=_;simp only[bp];omega
  | negSucc a=>show subNN b a=_;rw [subNN_eq];omega
theorem wU(k:IntKind)(m:Int):vS k m=k.wrap m:=by
 cases k with
 | i64 =>
  cases m with
  | ofNat m =>
   show(Bool.rec (IntKind.wrap .i64 (.ofNat m)) (Int.ofNat m) (Nat.blt m 9223372036854775808):Int)=_
   cases h:Nat.blt m 9223372036854775808 with
   | false=>rfl
   | true=>
    have:=xJ h;show Int.ofNat m=_;rw [IntWalk.i64_in];simp only[bp];omega
  | negSucc m =>
   show(Bool.rec (IntKind.wrap .i64 (.negSucc m)) (Int.negSucc m) (Nat.blt m 9223372036854775808):Int)=_
   cases h:Nat.blt m 9223372036854775808 with
   | false=>rfl
   | true=>
    have:=xJ h;show Int.negSucc m=_;rw [IntWalk.i64_in];omega
 | u64 =>
  cases m with
  | negSucc m=>rfl
  | ofNat m =>
   simp only[vS]
   cases h:Nat.blt m 18446744073709551616 with
   | false=>rfl
   | true=>
    have:=xJ h;simp only[cond,IntKind.wrap,IntKind.signed,IntKind.bits,dp,bz,if_false];show Int.ofNat m=_;simp only[bp];omega
 | u8 =>
  cases m with
  | negSucc m=>rfl
  | ofNat m =>
   simp only[vS]
   cases h:Nat.blt m 256 with
   | false=>rfl
   | true=>
    have:=xJ h;simp only[cond,IntKind.wrap,IntKind.signed,IntKind.bits,dp,bz,if_false];show Int.ofNat m=_;simp only[bp];omega
 | _=>rfl
theorem sG{k k':IntKind}(h:tJ k k'=true):k=k':=by
 cases k <;> cases k' <;> first|rfl|cases h
end
end
section
theorem byte_ext{a b:UInt8}(h:a.toNat=b.toNat):a=b:=UInt8.toNat_inj.1 h
theorem tV:∀(x y:List UInt8),vT x y=(x == y):=by
 intro x
 induction x with
 | nil=>intro y;cases y <;> rfl
 | cons a x ih =>
  intro y
  cases y with
  | nil=>rfl
  | cons b y =>
   simp only[vT]
   cases h:Nat.beq a.toNat b.toNat with
   | true=>
    have:=byte_ext (zT h);subst this;simp [ih]
   | false=>
    have:¬a=b:=λe=>by subst e;rw [aR]at h;cases h
    simp[this]
section
variable {P:Program} {ρ : Inj} {wd:World}
def xK(op:BinOp)(t:TypeId)(ox oy:Operand)(x y:Value):Sem Value:=do eqGuard op t ox oy x y;binOp op t x y
theorem intOp_ok{op:BinOp}{t:TypeId}{ox oy:Operand}{k:IntKind}{a b:Int}{s:Option Value}{v:Value}(h:intOp op k a b s=some v) :
 (xK op t ox oy (.int k a) (.int k b)).run P wd = .ok v wd\/s=some v:=by
 cases op with
 | add =>
  left
  have h':(Int.rec (λm=>some (Value.int k (.ofNat m))) (λm=>some (Value.int k (.negSucc m))) (vS k (iadd a b)):Option Value)=some v:=h
  have:v = .int k (k.wrap (a+b)):=by
   rw[wU,iadd_eq]at h';cases hw:k.wrap (a+b) <;> rw[hw]at h' <;> (injection h' with h';exact h'.symm)
  subst this;simp [xK,eqGuard,binOp,Op.intArith]
 | sub =>
  left
  have h':(Int.rec (λm=>some (Value.int k (.ofNat m))) (λm=>some (Value.int k (.negSucc m))) (vS k (isub a b)):Option Value)=some v:=h
  have:v = .int k (k.wrap (a - b)):=by
   rw[wU,isub_eq]at h';cases hw:k.wrap (a - b) <;> rw[hw]at h' <;> (injection h' with h';exact h'.symm)
  subst this;simp [xK,eqGuard,binOp,Op.intArith]
 | eql=>left;injection h with h;subst h;simp [xK,eqGuard,binOp,Op.intCmp,wQ];rfl
 | neq=>
  left
  have h':some (Value.bool (Bool.rec true false (ieqB a b)))=some v:=h;injection h' with h';subst h'
  rw[wQ];by_cases e:a=b <;> simp[xK,eqGuard,binOp,Op.intCmp,e]
 | lss=>left;injection h with h;subst h;simp [xK,eqGuard,binOp,Op.intCmp,iltB_eq]
 | leq=>left;injection h with h;subst h;simp [xK,eqGuard,binOp,Op.intCmp,ileB_eq]
 | gtr=>left;injection h with h;subst h;simp [xK,eqGuard,binOp,Op.intCmp,iltB_eq]
 | geq=>left;injection h with h;subst h;simp [xK,eqGuard,binOp,Op.intCmp,ileB_eq]
 | _=>right;exact h
theorem sZ{bits x:Nat}(hx:x<2 ^ bits):(BitVec.ofInt bits (x:Int)).toNat=x:=by
 rw[BitVec.ofInt_natCast,BitVec.toNat_ofNat,Nat.mod_eq_of_lt hx]
theorem land_ofNat(bits x y:Nat)(hx:x<2 ^ bits)(hy:y<2 ^ bits):((BitVec.ofInt bits (x:Int)) &&& (BitVec.ofInt bits (y:Int))).toNat=x &&& y:=by
 rw[BitVec.toNat_and,sZ hx,sZ hy]
theorem lor_ofNat(bits x y:Nat)(hx:x<2 ^ bits)(hy:y<2 ^ bits):((BitVec.ofInt bits (x:Int)) ||| (BitVec.ofInt bits (y:Int))).toNat=x ||| y:=by
 rw[BitVec.toNat_or,sZ hx,sZ hy]
theorem xor_ofNat(bits x y:Nat)(hx:x<2 ^ bits)(hy:y<2 ^ bits):((BitVec.ofInt bits (x:Int)) ^^^ (BitVec.ofInt bits (y:Int))).toNat=x ^^^ y:=by
 rw[BitVec.toNat_xor,sZ hx,sZ hy]
theorem andNot_ofNat(bits x y:Nat)(hx:x<2 ^ bits)(hy:y<2 ^ bits):((BitVec.ofInt bits (x:Int)) &&& ~~~(BitVec.ofInt bits (y:Int))).toNat=x ^^^ (x &&& y):=by
 rw[BitVec.toNat_and];apply Nat.eq_of_testBit_eq;intro i;rw [dX,Nat.testBit_xor,dX,sZ hx];by_cases hi:i<bits
 . have:(~~~(BitVec.ofInt bits (y:Int))).toNat.testBit i = !(y.testBit i):=by
    have h1:(~~~(BitVec.ofInt bits (y:Int))).toNat.testBit i=(~~~(BitVec.ofInt bits (y:Int))).getLsbD i:=rfl;rw [h1,BitVec.getLsbD_not];have h2:(BitVec.ofInt bits (y:Int)).getLsbD i=(BitVec.ofInt bits (y:Int)).toNat.testBit i:=rfl;rw [h2,sZ hy];simp [hi]
   rw[this];cases x.testBit i <;> cases y.testBit i <;> rfl
 . have:x.testBit i=false:=Nat.testBit_lt_two_pow (aG hx (dS qJ qJ));simp [this]
theorem wrap_nat{k:IntKind}{m:Nat}(h:k = .i64->m<9223372036854775808)(h2:k≠.i64->k.signed=false/\m<2 ^ k.bits):k.wrap (m:Int)=(m:Int):=by
 by_cases hk:k = .i64
 . subst hk;have:=h rfl;rw [IntWalk.i64_in];omega
 . obtain⟨h3,h4⟩:=h2 hk;unfold IntKind.wrap;rw [h3];simp only[dp,bz,if_false];have:(m:Int)<(2:Int) ^ k.bits:=by exact_mod_cast h4
   exact Int.emod_eq_of_lt qJ  this
theorem bitsOp_ok{op:BinOp}{t:TypeId}{ox oy:Operand}{k:IntKind}{x y:Nat}{r:Nat}(hx:x<2 ^ k.bits)(hy:y<2 ^ k.bits)
(hr:(op = .and/\r=Nat.land x y)\/(op = .or/\r=Nat.lor x y)\/(op = .xor/\r=Nat.xor x y)\/(op = .andNot/\r=Nat.xor x (Nat.land x y)))
(hw:k.wrap (r:Int)=(r:Int)):(xK op t ox oy (.int k (x:Int)) (.int k (y:Int))).run P wd = .ok (.int k (r:Int)) wd:=by
 rcases hr with⟨rfl,e⟩|⟨rfl,e⟩|⟨rfl,e⟩|⟨rfl,e⟩
 . have:((BitVec.ofInt k.bits (x:Int)) &&& (BitVec.ofInt k.bits (y:Int))).toNat=r:=by rw[land_ofNat _ _ _ hx hy,e];rfl
   simp[xK,eqGuard,binOp,Op.intBits,this,hw,-BitVec.toNat_and,-BitVec.ofInt_natCast]
 . have:((BitVec.ofInt k.bits (x:Int)) ||| (BitVec.ofInt k.bits (y:Int))).toNat=r:=by rw[lor_ofNat _ _ _ hx hy,e];rfl
   simp[xK,eqGuard,binOp,Op.intBits,this,hw,-BitVec.toNat_or,-BitVec.ofInt_natCast]
 . have:((BitVec.ofInt k.bits (x:Int)) ^^^ (BitVec.ofInt k.bits (y:Int))).toNat=r:=by rw[xor_ofNat _ _ _ hx hy,e];rfl
   simp[xK,eqGuard,binOp,Op.intBits,this,hw,-BitVec.toNat_xor,-BitVec.ofInt_natCast]
 . have:((BitVec.ofInt k.bits (x:Int)) &&& ~~~(BitVec.ofInt k.bits (y:Int))).toNat=r:=by rw[andNot_ofNat _ _ _ hx hy,e];rfl
   simp[xK,eqGuard,binOp,Op.intBits,this,hw,-BitVec.toNat_and,-BitVec.ofInt_natCast]
theorem xor_land_le(x y:Nat):Nat.xor x (Nat.land x y)<=x:=by
 have h:Nat.xor x (Nat.land x y)=x &&& (x ^^^ (x &&& y)):=by
  apply Nat.eq_of_testBit_eq;intro i;show(x ^^^ (x &&& y)).testBit i=_;simp only[Nat.testBit_xor,dX];cases x.testBit i <;> cases y.testBit i <;> rfl
 rw[h];exact Nat.and_le_left
theorem lim_some{k:IntKind}{m:Nat}(h:bitLim k=some m):∃e,m=2 ^ e/\e<=k.bits/\∀r:Nat,r<m->k.wrap (r:Int)=(r:Int):=by
 cases k <;> simp only[bitLim]at h <;> cases h
 . exact⟨63,by decide,by decide,λr hr=>wrap_nat (λ_=>hr) (λe=>absurd rfl e)⟩
 . exact⟨8,by decide,by decide,λr hr=>wrap_nat (λe=>by cases e) (λ_=>⟨rfl,by simpa [IntKind.bits] using hr⟩)⟩
 . exact⟨16,by decide,by decide,λr hr=>wrap_nat (λe=>by cases e) (λ_=>⟨rfl,by simpa [IntKind.bits] using hr⟩)⟩
 . exact⟨32,by decide,by decide,λr hr=>wrap_nat (λe=>by cases e) (λ_=>⟨rfl,by simpa [IntKind.bits] using hr⟩)⟩
 . exact⟨64,by decide,by decide,λr hr=>wrap_nat (λe=>by cases e) (λ_=>⟨rfl,by simpa [IntKind.bits] using hr⟩)⟩
theorem bitNat_lt{op:BinOp}{x y r e:Nat}(hx:x<2 ^ e)(hy:y<2 ^ e)(h:bitNat op x y=some r):r<2 ^ e:=by
 cases op <;> simp only[bitNat]at h <;> cases h
 . exact bV Nat.and_le_left hx
 . exact Nat.or_lt_two_pow hx hy
 . exact Nat.xor_lt_two_pow hx hy
 . exact bV (xor_land_le x y) hx
theorem bits_ok{op:BinOp}{t:TypeId}{ox oy:Operand}{k:IntKind}{a b:Int}{v:Value}(h:aBits op k a b=some v) :
 (xK op t ox oy (.int k a) (.int k b)).run P wd = .ok v wd:=by
 unfold aBits at h;split at h
 . rename_i x y m hm
   cases hc:(Nat.blt x m && Nat.blt y m) with
   | false=>rw [hc]at h;cases h
   | true =>
    rw[hc]at h;obtain⟨h1,h2⟩:=ak.1 hc;have h1:=xJ h1;have h2:=xJ h2
    cases hr:bitNat op x y with
    | none=>rw [hr]at h;cases h
    | some r=>
     rw[hr]at h;injection h with h
     subst h;obtain⟨e,rfl,he,hw⟩:=lim_some hm;have eD:=bitNat_lt h1 h2 hr;have hle:2 ^ e<=2 ^ k.bits:=dS qJ  he;refine bitsOp_ok qJ qJ  ?_ (hw r eD);cases op <;> simp only[bitNat]at hr <;> cases hr
     . exact .inl ⟨rfl,rfl⟩
     . exact .inr (.inl ⟨rfl,rfl⟩)
     . exact .inr (.inr (.inl ⟨rfl,rfl⟩))
     . exact .inr (.inr (.inr ⟨rfl,rfl⟩))
 . rename_i x y m hm
   cases hc:(Nat.blt x m && Nat.blt y m) with
   | false=>rw [hc]at h;cases h
   | true=>
    rw[hc]at h;obtain⟨h1,h2⟩:=ak.1 hc;have h1:=xJ h1;have h2:=xJ h2;dsimp only[cond]at h;split at h
    . injection h with h
      subst h;obtain⟨e,rfl,he,hw⟩:=lim_some hm;have hle:2 ^ e<=2 ^ k.bits:=dS qJ  he;have eD:Nat.xor y (Nat.land y x)<2 ^ e:=bV (xor_land_le y x) h2
      have hn:BitVec.ofInt k.bits (Int.negSucc x) = ~~~(BitVec.ofInt k.bits (x:Int)):=by
       apply BitVec.eq_of_toNat_eq;simp
      have e2:((BitVec.ofInt k.bits (Int.negSucc x)) &&& (BitVec.ofInt k.bits (y:Int))).toNat=Nat.xor y (Nat.land y x):=by
       rw[hn,BitVec.and_comm];exact andNot_ofNat _ _ _ qJ qJ 
      have mQ:=hw _ eD;show(xK .and t ox oy (.int k (.negSucc x)) (.int k (y:Int))).run P wd = .ok (.int k ((Nat.xor y (Nat.land y x):Nat):Int)) wd;simp [xK,eqGuard,binOp,Op.intBits,-BitVec.toNat_and,-BitVec.ofInt_natCast];rw [show(~~~BitVec.ofNat k.bits x)=BitVec.ofInt k.bits (Int.negSucc x) by rw[hn];simp,e2];exact mQ
    . cases h
 . cases h
theorem arith_ok{op:BinOp}{t:TypeId}{ox oy:Operand}{k:IntKind}{a b:Int}{v:Value}(h:aArith op k a b=some v) :
 (xK op t ox oy (.int k a) (.int k b)).run P wd = .ok v wd:=by
 cases op with
 | add=>injection h with h;subst h;simp [xK,eqGuard,binOp,Op.intArith,wU,iadd_eq]
 | sub=>injection h with h;subst h;simp [xK,eqGuard,binOp,Op.intArith,wU,isub_eq]
 | mul=>injection h with h;subst h;simp [xK,eqGuard,binOp,Op.intArith,wU]
 | quo=>
  have h':cond (ieqB b 0) none (some (.int k (vS k (Int.tdiv a b))))=some v:=h;rw [wQ]at h';by_cases e:b=0
  . simp[e]at h'
  . simp only[e,decide_false,cond]at h';injection h' with h';subst h'
    simp[xK,eqGuard,binOp,Op.intDiv,e,wU]
 | rem=>
  have h':cond (ieqB b 0) none (some (.int k (Int.tmod a b)))=some v:=h;rw [wQ]at h';by_cases e:b=0
  . simp[e]at h'
  . simp only[e,decide_false,cond]at h';injection h' with h';subst h'
    simp[xK,eqGuard,binOp,Op.intDiv,e]
 | eql=>injection h with h;subst h;simp [xK,eqGuard,binOp,Op.intCmp,wQ];rfl
 | neq=>injection h with h;subst h;by_cases e:a=b <;> simp[xK,eqGuard,binOp,Op.intCmp,wQ,e]
 | lss=>injection h with h;subst h;simp [xK,eqGuard,binOp,Op.intCmp,iltB_eq]
 | leq=>injection h with h;subst h;simp [xK,eqGuard,binOp,Op.intCmp,ileB_eq]
 | gtr=>injection h with h;subst h;simp [xK,eqGuard,binOp,Op.intCmp,iltB_eq]
 | geq=>injection h with h;subst h;simp [xK,eqGuard,binOp,Op.intCmp,ileB_eq]
 | and=>exact bits_ok h
 | or=>exact bits_ok h
 | xor=>exact bits_ok h
 | andNot=>exact bits_ok h
 | shl=>
  have h':aBits .shl k a b=some v:=h;unfold aBits at h';split at h'
  . rename_i x y m hm;cases hc:(Nat.blt x m && Nat.blt y m) <;> rw[hc]at h' <;> cases h'
  . rename_i x y m hm;cases hc:(Nat.blt x m && Nat.blt y m) <;> rw[hc]at h' <;> cases h'
  . cases h'
 | shr=>
  have h':aBits .shr k a b=some v:=h;unfold aBits at h';split at h'
  . rename_i x y m hm;cases hc:(Nat.blt x m && Nat.blt y m) <;> rw[hc]at h' <;> cases h'
  . rename_i x y m hm;cases hc:(Nat.blt x m && Nat.blt y m) <;> rw[hc]at h' <;> cases h'
  . cases h'
theorem shift_ok{op:BinOp}{t:TypeId}{ox oy:Operand}{k k':IntKind}{a b:Int}{v:Value}(eT:op = .shl\/op = .shr)(h:aShift op k a b=some v) :
 (xK op t ox oy (.int k a) (.int k' b)).run P wd = .ok v wd:=by
 unfold aShift at h
 cases b with
 | negSucc m=>cases h
 | ofNat m =>
  dsimp only at h
  cases hc:Nat.blt m k.bits with
  | false=>rw [hc]at h;cases h
  | true=>
   rw[hc]at h;have hm:=xJ hc;have kJ:min m k.bits=m:=by omega
   rcases eT with rfl|rfl
   . dsimp only[cond]at h;injection h with h;subst h
     have hn:¬((m:Int)<0):=by omega
     simp[xK,eqGuard,binOp,Op.shift,kJ,wU,hn]
   . dsimp only[cond]at h
     cases a with
     | negSucc x =>
      dsimp only at h;injection h with h;subst h
      have hn:¬((m:Int)<0):=by omega
      have hs':Int.fdiv (Int.negSucc x) (2 ^ m)=Int.negSucc (Nat.shiftRight x m):=by
       obtain⟨d,hd⟩:∃d,2 ^ m=d+1:=⟨2 ^ m - 1,by have:=Nat.two_pow_pos m;omega⟩;have:(2:Int) ^ m=((2 ^ m:Nat):Int):=by simp
       rw[this,show Nat.shiftRight x m=x / 2 ^ m from Nat.shiftRight_eq_div_pow x m,hd];rfl
      simp[xK,eqGuard,binOp,Op.shift,kJ,hn,hs']
     | ofNat x =>
      dsimp only at h;injection h with h;subst h
      have hn:¬((m:Int)<0):=by omega
      have hs:(Int.ofNat x).fdiv (2 ^ m)=Int.ofNat (Nat.shiftRight x m):=by
       have:(2:Int) ^ m=((2 ^ m:Nat):Int):=by simp
       rw[this];show Int.fdiv (x:Int) ((2 ^ m:Nat):Int)=((x >>> m:Nat):Int);rw [Nat.shiftRight_eq_div_pow,Int.fdiv_eq_ediv_of_nonneg _ (Int.natCast_nonneg _)];rfl
      have hs':Int.fdiv (x:Int) (2 ^ m)=((Nat.shiftRight x m:Nat):Int):=hs;simp [xK,eqGuard,binOp,Op.shift,kJ,hn,hs']
end
end
section
theorem str_append(a b:ByteArray):a++b=⟨⟨a.data.toList++b.data.toList⟩⟩:=by
 have h:(a++b).data=a.data++b.data:=ByteArray.data_append
 cases hs:a++b with
 | mk d =>
  rw[hs]at h
  cases d with
  | mk q =>
   have h2:q=a.data.toList++b.data.toList:=by
    have:=congrArg Array.toList h;simpa using this
   rw[h2]
section
variable {P:Program} {ng:Nat} {ρ : Inj} {base:Nat} {w0:World} {hp:zB} {n:Nat} {wd:World}
theorem eqNil_ok{t:TypeId}{d:TypeDesc}(hd:und P t=some d){x y x' y':Value}(hx:RV ρ x x')(hy:RV ρ y y'){r:Bool}(h:vQ d x y=some r)(k:Nat) :
 (Op.equalIn (k+1) t x' y').run P wd = .ok r wd:=by
 unfold vQ at h;split at h
 case h_1 a b=>
  injection h with h
  subst h;obtain rfl:=hx.of_bool;obtain rfl:=hy.of_bool;simp [Op.equalIn,zR hd];cases a <;> cases b <;> rfl
 all_goals first
  | (cases h;done)
  | (injection h with h;subst h;cases hx <;> cases hy <;> (rw [Op.equalIn,Sem.run_bind,zR hd];rfl))
theorem eqNil_bin{t:TypeId}{d:TypeDesc}(hd:und P t=some d){x y x' y':Value}(hx:RV ρ x x')(hy:RV ρ y y'){r:Bool}(h:vQ d x y=some r) :
 (binOp .eql t x' y').run P wd = .ok (.bool r) wd/\(binOp .neq t x' y').run P wd = .ok (.bool (!r)) wd:=by
 have key:(Op.equal t x' y').run P wd = .ok r wd:=eqNil_ok hd hx hy h 9999
 have fin:binOp .eql t x' y'=(do let b <- Op.equal t x' y';pure (.bool b))->binOp .neq t x' y'=(do let b <- Op.equal t x' y';pure (.bool (!b)))->
  (binOp .eql t x' y').run P wd = .ok (.bool r) wd/\(binOp .neq t x' y').run P wd = .ok (.bool (!r)) wd:=λe1 e2=>by
  rw[e1,e2];exact⟨by simp only[Sem.run_bind,key,Result.andThen_ok,Sem.run_pure],by simp only[Sem.run_bind,key,Result.andThen_ok,Sem.run_pure]⟩
 clear key;unfold vQ at h;split at h
 all_goals first
  | (cases h;done)
  | (cases hx <;> cases hy <;> exact fin rfl rfl)
theorem asks_guard{op:BinOp}{t:TypeId}{ox oy:Operand}{x' y':Value}(h:(eqGuard .eql t ox oy x' y').run P wd = .ok () wd):(eqGuard op t ox oy x' y').run P wd = .ok () wd:=by
 cases op <;> first|exact h|rfl
theorem asks_ok{op:BinOp}{t:TypeId}{ox oy:Operand}{x y x' y':Value}(hx:RV ρ x x')(hy:RV ρ y y')(h:zV ox oy x y=true) :
 (eqGuard op t ox oy x' y').run P wd = .ok () wd:=by
 refine asks_guard ?_;cases hx <;> cases hy <;> first|rfl|(cases h;done)|skip
 simp only[zV]at h;cases ox <;> cases oy <;> first|rfl|cases h
theorem arith_plain{op:BinOp}{k:IntKind}{a b:Int}{v:Value}(h:aArith op k a b=some v):sF v=true:=by
  cases op <;> simp only[aArith]at h <;> first
    | (injection h with h;subst h;rfl)
    | (cases hc:ieqB b 0 <;> rw[hc]at h <;> cases h;rfl)
    | (unfold aBits at h
       split at h
       . rename_i x y m hm
         cases hc:(Nat.blt x m && Nat.blt y m) with
         | false=>rw [hc]at h;cases h
         | true =>
           rw[hc]at h;dsimp only[cond]at h
           cases hr:bitNat _ x y with
           | none=>rw [hr]at h;cases h
           | some r=>rw [hr]at h;injection h with h;subst h;rfl
       . rename_i x y m hm
         cases hc:(Nat.blt x m && Nat.blt y m) with
         | false=>rw [hc]at h;cases h
         | true =>
           rw[hc]at h;dsimp only[cond]at h;first|(cases h;done)|(injection h with h;subst h;rfl)
       . cases h)
theorem shift_plain{op:BinOp}{k:IntKind}{a b:Int}{v:Value}(h:aShift op k a b=some v):sF v=true:=by
 unfold aShift at h
 cases b with
 | negSucc m=>cases h
 | ofNat m =>
  dsimp only at h
  cases hc:Nat.blt m k.bits with
  | false=>rw [hc]at h;cases h
  | true =>
   rw[hc]at h
   cases op <;> dsimp only[cond]at h <;> first
    | (cases h;done)
    | (injection h with h;subst h;rfl)
    | (cases a <;> dsimp only at h <;> first|(cases h;done)|(injection h with h;subst h;rfl))
theorem uG{kd:TypeDesc}{e:TypeId}(hd:und P e=some kd){x:Value}(hx:uD kd x=true):P.plainKey e=true:=by
 unfold Program.plainKey;rw [wI hd];unfold uD at hx;split at hx <;> first|rfl|cases hx
theorem scalEq_run{kd:TypeDesc}{e:TypeId}(hd:und P e=some kd){x y:Value}(hx:uD kd x=true){r:Bool}(h:wH x y=some r)(d:Nat):(Op.equalIn (d+1) e x y).run P wd = .ok r wd:=by
 unfold uD at hx;split at hx
 . rename_i k k2 a;cases y <;> simp only[wH]at h <;> first|(cases h;done)|skip
   rename_i k3 b
   cases hq:tJ k2 k3 with
   | false=>rw [hq]at h;cases h
   | true=>
    rw[hq]at h;injection h with h;subst h
    obtain rfl:=sG hq;rw [run_equalIn_int wd d e k2 k a b (wI hd),wQ];rfl
 . rename_i s;cases y <;> simp only[wH]at h <;> first|(cases h;done)|skip
   injection h with h;subst h
   rw[run_equalIn_string wd d e _ _ (wI hd),tV,ByteArray.toList_eq,ByteArray.toList_eq]
 . rename_i b;cases y <;> simp only[wH]at h <;> first|(cases h;done)|skip
   rename_i b';injection h with h;subst h
   rw[run_equalIn_bool' wd d e b b' (wI hd)];cases b <;> cases b' <;> rfl
 . cases hx
theorem scal_rv{kd:TypeDesc}{x x':Value}(hx:uD kd x=true)(hr:RV ρ x x'):x'=x:=by
 unfold uD at hx;split at hx
 . exact hr.of_int
 . exact hr.of_string
 . exact hr.of_bool
 . cases hx
theorem scalEq_rv{x y y':Value}{r:Bool}(h:wH x y=some r)(hr:RV ρ y y'):y'=y:=by
 cases x <;> cases y <;> simp only[wH]at h <;> first|(cases h;done)|exact hr.of_bool|exact hr.of_int|exact hr.of_string
theorem rvs_at{l l':List Value}(h:RVs ρ l l'){i:Nat}{v:Value}(e:l[i]? = some v):∃v',l'[i]? = some v'/\RV ρ v v':=by
 have eD:i<l.length:=by
  rcases aS i l.length with h1|h1
  . exact h1
  . rw[aw h1]at e;cases e
 refine⟨l'[i]'(h.1 ▸ eD),aa _,?_⟩;exact h.2 i _ _ e (aa _)
theorem eqItems_run{kd:TypeDesc}{e:TypeId}(hd:und P e=some kd){ei:TypeInfo}(hi:inf? P e=some ei){xs ys:List Value}{xs' ys':Array Value}(hx:RVs ρ xs xs'.toList)(hy:RVs ρ ys ys'.toList)(d:Nat):∀(is:List Nat) {r:Bool},eqItemsA kd ei.size xs ys is=some r->
 (Op.eqItems (d+1) e (P.cellsOf e) xs' ys' is).run P wd = .ok r wd:=by
 have hc:P.cellsOf e=ei.size:=by simp[Program.cellsOf,(xY hi).2]
 intro is
 induction is with
 | nil=>intro r h;injection h with h;subst h;simp [Op.eqItems]
 | cons i is ih =>
  intro r h;simp only[eqItemsA]at h;split at h
  case h_2=>cases h
  rename_i x y ex ey
  cases hs:uD kd x with
  | false=>rw [hs]at h;cases h
  | true =>
   rw[hs]at h;dsimp only[cond]at h;obtain⟨x',ex',rx⟩:=rvs_at hx ex;obtain⟨y',ey',ry⟩:=rvs_at hy ey;have exx:=scal_rv hs rx;subst exx;have p1:=run_part_plain (P:=P) wd (uG hd hs) (xs:=xs') (off:=i*P.cellsOf e) (v:=x') (by rw[hc,<- aO];exact ex')
   cases hq:wH x' y with
   | none=>rw [hq]at h;cases h
   | some b =>
    rw[hq]at h;have eyy:=scalEq_rv hq ry;subst eyy;have p2:=run_part_plain (P:=P) wd (uG hd hs) (xs:=ys') (off:=i*P.cellsOf e) (v:=y') (by rw[hc,<- aO];exact ey');have p3:=scalEq_run (wd:=wd) hd hs hq d
    cases b with
    | true=>
     simp only[Op.eqItems,Sem.run_bind,p1,p2,p3,Result.andThen_ok];simpa using ih h
    | false=>
     injection h with h;subst h
     simp only[Op.eqItems,Sem.run_bind,p1,p2,p3,Result.andThen_ok];simp
theorem eqFlds_run{xs ys:List Value}{xs' ys':Array Value}(hx:RVs ρ xs xs'.toList)(hy:RVs ρ ys ys'.toList)(d:Nat):∀(fs:List Field),fs.all (fldA P)=true->∀{r:Bool},eqFldsA P xs ys fs=some r->
 (Op.eqFields (d+1) xs' ys' fs).run P wd = .ok r wd:=by
 intro fs
 induction fs with
 | nil=>intro _ r h;injection h with h;subst h;simp [Op.eqFields]
 | cons f fs ih =>
  intro ha r h;rw [dM]at ha;obtain⟨g1,g2⟩:=ak.1 ha
  have hn:f.name≠ "_" :=by
   have:=(ak.1 g1).1;simpa using this
  simp only[eqFldsA]at h;split at h
  case h_2=>cases h
  rename_i kd x y hd ex ey
  cases hs:uD kd x with
  | false=>rw [hs]at h;cases h
  | true =>
   rw[hs]at h;dsimp only[cond]at h;obtain⟨x',ex',rx⟩:=rvs_at hx ex;obtain⟨y',ey',ry⟩:=rvs_at hy ey;have exx:=scal_rv hs rx;subst exx;have p1:=run_part_plain (P:=P) wd (uG hd hs) (xs:=xs') (off:=f.offset) (v:=x') (by rw[<- aO];exact ex')
   cases hq:wH x' y with
   | none=>rw [hq]at h;cases h
   | some b =>
    rw[hq]at h;have eyy:=scalEq_rv hq ry;subst eyy;have p2:=run_part_plain (P:=P) wd (uG hd hs) (xs:=ys') (off:=f.offset) (v:=y') (by rw[<- aO];exact ey');have p3:=scalEq_run (wd:=wd) hd hs hq d
    cases b with
    | true=>
     simp only[Op.eqFields,if_pos hn,Sem.run_bind,p1,p2,p3,Result.andThen_ok];simpa using ih g2 h
    | false=>
     injection h with h;subst h
     simp only[Op.eqFields,if_pos hn,Sem.run_bind,p1,p2,p3,Result.andThen_ok];simp
theorem flds_guard{m:Nat}:∀(fs:List Field),fs.all (fldA P)=true->(fs.any λf=>f.name != "_" && P.eqGuardType (m+1) f.type)=false:=by
 intro fs
 induction fs with
 | nil=>intro _;rfl
 | cons f fs ih =>
  intro ha;rw [dM]at ha;obtain⟨g1,g2⟩:=ak.1 ha;rw [dN,ih g2];have g3:=(ak.1 g1).2
  have:P.eqGuardType (m+1) f.type=false:=by
   unfold Program.eqGuardType
   cases hd:und P f.type with
   | none=>rw [hd]at g3;cases g3
   | some kd=>
    rw[hd]at g3;rw [wI hd];cases kd <;> first|rfl|cases g3
  rw[this];simp
theorem eqA_run{t:TypeId}{xs ys:List Value}{xs' ys':Array Value}(hx:RVs ρ xs xs'.toList)(hy:RVs ρ ys ys'.toList){r:Bool}(h:eqA P t xs ys=some r)(d:Nat) :
 (Op.equalIn (d+2) t (.agg xs') (.agg ys')).run P wd = .ok r wd/\P.eqGuardType P.depth t=false:=by
 obtain⟨m,hm⟩:∃m,P.depth=m+2:=⟨2*(P.types.size+Made.depth),rfl⟩;unfold eqA at h;split at h
 case h_3=>cases h
 . rename_i fs hd
   cases hc:(fs.toList.all (fldA P) && !P.stoodInHeld t) with
   | false=>rw [hc]at h;cases h
   | true=>
    rw[hc]at h;dsimp only[cond]at h;obtain⟨g1,g2⟩:=ak.1 hc;have g3:P.stoodInHeld t=false:=by simpa using g2
    have hf:P.fieldsOf t=fs:=by unfold Program.fieldsOf;rw [wI hd]
    refine⟨?_,?_⟩
    . rw[run_equalIn_agg wd (d+1) t xs' ys' (by rw[hf];exact wI hd) g3,hf];exact eqFlds_run hx hy d _ g1 h
    . rw[hm];unfold Program.eqGuardType;rw [wI hd];dsimp only;rw [<- Array.any_toList];exact flds_guard _ g1
 rename_i len e hd;split at h
 case h_2=>cases h
 rename_i kd ei hk hi
 cases hsd:scalD kd with
 | false=>rw [hsd]at h;cases h
 | true=>
 rw[hsd]at h;dsimp only[cond]at h;refine⟨?_,?_⟩
 . rw[run_equalIn_array wd (d+1) xs' ys' (wI hd) (xY hi).2];exact eqItems_run hk hi hx hy d _ h
 . rw[hm];unfold Program.eqGuardType;rw [wI hd];dsimp only;unfold Program.eqGuardType;rw [wI hk];cases kd <;> first|rfl|cases hsd
theorem bin_ok{op:BinOp}{t:TypeId}{ox oy:Operand}{x y x' y':Value}(hx:RV ρ x x')(hy:RV ρ y y'){v:Value}(h:aBin P op t ox oy x y=some v) :
 ∃v',(xK op t ox oy x' y').run P wd = .ok v' wd/\RV ρ v v':=by
 have plain:∀v:Value,sF v=true->(xK op t ox oy x' y').run P wd = .ok v wd->∃v',(xK op t ox oy x' y').run P wd = .ok v' wd/\RV ρ v v':=
  λv hp he=>⟨v,he,RV.plain hp ρ⟩
 unfold aBin at h;split at h
 . rename_i k a k' b;obtain rfl:=hx.of_int;obtain rfl:=hy.of_int;split at h
   . exact plain v (shift_plain h) (shift_ok (.inl rfl) h)
   . exact plain v (shift_plain h) (shift_ok (.inr rfl) h)
   . cases hk:tJ k k' with
     | false=>rw [hk]at h;cases h
     | true=>
      rw[hk]at h;obtain rfl:=sG hk;exact plain v (arith_plain h) (arith_ok h)
 . rename_i a b;obtain rfl:=hx.of_string;obtain rfl:=hy.of_string;split at h
   . injection h with h;subst h
     refine plain _ rfl ?_;simp [xK,eqGuard,binOp,Op.stringOp,tV,ByteArray.toList_eq]
   . injection h with h;subst h
     refine plain _ rfl ?_;simp [xK,eqGuard,binOp,Op.stringOp,tV,ByteArray.toList_eq]
   . cases hc:Nat.blt (Nat.add a.data.toList.length b.data.toList.length) 1000000 with
     | false=>rw [hc]at h;cases h
     | true =>
      rw[hc]at h;injection h with h;subst h
      refine plain _ rfl ?_;have h1:a.size+b.size<1000000:=xJ hc
      have h2:¬(((a.size+b.size:Nat):Int) > IntKind.i64.max):=by
       have:IntKind.i64.max=9223372036854775807:=by decide
       rw[this];omega
      rw[<- str_append];simp only[xK,eqGuard,binOp,Op.stringOp,Sem.run_bind,Sem.run_pure,if_neg h2];rfl
   . cases h
 . rename_i a b;obtain⟨a',rfl,ra⟩:=hx.of_agg;obtain⟨b',rfl,rb⟩:=hy.of_agg;split at h
   . cases hr:eqA P t a.toList b.toList with
     | none=>rw [hr]at h;cases h
     | some r=>
      rw[hr]at h;injection h with h;subst h
      obtain⟨q1,q2⟩:=eqA_run (wd:=wd) ra rb hr 9998;refine plain _ rfl ?_;simp only[xK,Sem.run_bind,run_eqGuard_agg wd .eql t ox oy a' b' q2,Result.andThen_ok,run_eql_struct,q1]
   . cases hr:eqA P t a.toList b.toList with
     | none=>rw [hr]at h;cases h
     | some r=>
      rw[hr]at h;injection h with h;subst h
      obtain⟨q1,q2⟩:=eqA_run (wd:=wd) ra rb hr 9998;refine plain _ rfl ?_;simp only[xK,Sem.run_bind,run_eqGuard_agg wd .neq t ox oy a' b' q2,Result.andThen_ok,run_neq_struct,q1]
   . cases h
 . split at h
   . rename_i d hd
     cases ha:zV ox oy x y with
     | false=>rw [ha]at h;cases h
     | true =>
      rw[ha]at h;dsimp only[cond]at h
      cases hr:vQ d x y with
      | none=>rw [hr]at h;cases h
      | some r=>
       rw[hr]at h;injection h with h;subst h
       refine plain _ rfl ?_;simp only[xK,Sem.run_bind,asks_ok hx hy ha,Result.andThen_ok,(eqNil_bin hd hx hy hr).1]
   . rename_i d hd
     cases ha:zV ox oy x y with
     | false=>rw [ha]at h;cases h
     | true =>
      rw[ha]at h;dsimp only[cond]at h
      cases hr:vQ d x y with
      | none=>rw [hr]at h;cases h
      | some r=>
       rw[hr]at h;injection h with h;subst h
       refine plain _ rfl ?_;simp only[xK,Sem.run_bind,asks_ok hx hy ha,Result.andThen_ok,(eqNil_bin hd hx hy hr).2]
   . cases h
end
end
end Go.Ex
