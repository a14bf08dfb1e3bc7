/- What the law leans on: an executor of the model that is sound, deduction over it, and the walks through the code (part 17 of 24). Conditions: those that each theorem states. -/
import Derived.Test.YtdipdkkpgjdnkaaGreatDoorVirLinesx16
import Derived.Test.YtdipdkkpgjdnkaaGreatDoorVirLinesx15
import Derived.Test.YtdipdkkpgjdnkaaGreatDoorVirLinesx13
import Derived.Test.YtdipdkkpgjdnkaaGreatDoorVirLinesx14
import Derived.ChangeArms
import Derived.ProofKit

set_option linter.unusedVariables false
set_option linter.unusedSimpArgs false
namespace Go.Ex.Vir
open Go Go.Ex
theorem cutB_len(c:UInt8):∀s:Tx,s≠[]→(vE c s).2.1.length<s.length:=by
 intro s
 induction s with
 | nil=>intro h;exact absurd rfl h
 | cons a r ih=>
  intro _;unfold vE;split
  · simp
  · cases r with
    | nil=>simp [vE]
    | cons b t=>
     have:=ih (by simp);simp only[List.length_cons]at this ⊢;omega
theorem linesR_nil:linesR []=([],true):=rfl
theorem linesR_cut{s:Tx}(h:(vE 10 s).2.2=true):linesR s=((vE 10 s).1::(linesR (vE 10 s).2.1).1,(linesR (vE 10 s).2.1).2):=by
 unfold linesR;rw [splitL_cut,if_pos h]
 cases e:zO 10 (vE 10 s).2.1 with
 | nil=>exact absurd e (wR 10 _)
 | cons x l=>
  rw[show((vE 10 s).1::x::l).getLastD []=(x::l).getLastD [] from rfl,show((vE 10 s).1::x::l).dropLast=(vE 10 s).1::(x::l).dropLast from rfl];split <;> rfl
theorem linesR_no{s:Tx}(hs:s≠[])(h:(vE 10 s).2.2=false):linesR s=([s],false):=by
 unfold linesR;rw [splitL_cut,h];simp only[Bool.false_eq_true,if_false];rw [if_neg (show ¬([s]:List Tx).getLastD []=[] from hs)]
theorem linesR_ne{s:Tx}(hs:s≠[]):(linesR s).1≠[]:=by
 cases h:(vE 10 s).2.2 with
 | true=>rw [linesR_cut h];simp
 | false=>rw [linesR_no hs h];simp
theorem linesR_f{s:Tx}(h:(linesR s).2=false):(linesR s).1≠[]:=by
 apply linesR_ne
 rintro rfl
 cases h
theorem ofW_nil{a:Tx}(ha:a≠[]):ofW a []=if (zO 32 a).all (fun s=> !(s == [])) then .ok (zO 32 a) else .error 3:=by
 unfold ofW;have h1:Lib.hasPrefix a []=true:=by cases a <;> rfl
 have h2:Lib.trimPrefix a []=a:=by unfold Lib.trimPrefix;rw [if_pos h1];rfl
 rw[h1,h2,yR ha];rfl
theorem pre_two{a:Tx}:Lib.hasPrefix a tTwo=decide (a.take 2=tTwo):=by
 unfold Lib.hasPrefix;rcases a with _|⟨x,_|⟨y,a⟩⟩
 · rfl
 · simp[List.isPrefixOf]
 · simp only[List.isPrefixOf,List.take,Bool.and_true];by_cases h1:x=32
   · by_cases h2:y=32
     · subst h1 h2;rfl
     · simp[h1,h2,Ne.symm h2]
   · simp[h1,Ne.symm h1]
theorem ofW_two(a:Tx):ofW a tTwo=if a.length<3∨a.take 2≠tTwo then .error 3 else(if (zO 32 (a.drop 2)).all (fun s=> !(s == [])) then .ok (zO 32 (a.drop 2)) else .error 3):=by
 unfold ofW;rw [pre_two];by_cases h:a.take 2=tTwo
 · have ht:Lib.trimPrefix a tTwo=a.drop 2:=by unfold Lib.trimPrefix;rw [pre_two,if_pos (by simpa using h)];rfl
   rw[ht];by_cases hl:a.length<3
   · have:a.drop 2=[]:=List.drop_eq_nil_of_le (by omega);simp only[this,hl,h,decide_true,beq_self_eq_true,Bool.not_true,Bool.and_false,Bool.false_eq_true,if_false,true_or,if_true]
   · have:a.drop 2≠[]:=fun e=>by have:=List.drop_eq_nil_iff.1 e;omega
     simp only[yR this,hl,h,decide_true,Bool.not_false,Bool.and_true,if_true,ne_eq,not_true,or_self,if_false]
 · simp only[h,decide_false,Bool.false_and,Bool.false_eq_true,if_false,ne_eq,not_false_iff,or_true,if_true]
theorem all_ne{ws:List Tx}(h:¬ws.all (fun s=> !(s == []))=true):[]∈ws:=by
 false_or_by_contra
 rename_i hn;apply h;rw [List.all_eq_true];intro x hx
 cases x with
 | nil=>exact absurd hx hn
 | cons=>rfl
theorem insS_is(st:St)(ws:List Tx)(hw:ws≠[]):insS st ws=match insR ws with
 | .error e=>.error e
 | .ok i=>if (st.f.blocks.getLastD []).length<400 then .ok { st.f with blocks:=addIns st.f.blocks i } else .error 2:=by
 rw[← ins_is ws hw];unfold insS allI
 cases oneI ws with
 | error e=>rfl
 | ok p=>
  dsimp only;cases endW p.2 <;> rfl
theorem run_is:∀(k:Nat) (s:Tx) (i:Nat) (st:St),s.length<k→st.ended=false→st.opn=decide (st.f.blocks≠[])→st.step=min i 4→tellS (runS k (i+1) s st)=runR (linesR s).2 (linesR s).1 i st.f:=by
 intro k
 induction k with
 | zero=>intro s i st hk;omega
 | succ k ih=>
  intro s i st hk he ho hst;rcases st with⟨step,opn,ended,f⟩
  dsimp only at he ho hst;subst he;unfold runS;by_cases hs:s=[]
  · subst hs;rw [linesR_nil];simp only[beq_self_eq_true,if_true,tellS,Bool.false_eq_true,if_false,runR];rfl
  · rw[yR hs];simp only[Bool.false_eq_true,if_false];have hl:=cutB_len 10 s hs
    cases hc:(vE 10 s).2.2 with
    | false=>
     have:lineS ⟨step,opn,false,f⟩ (lineOf s) = .error 3:=by unfold lineS lineOf;rw [hc];simp
     rw[this,linesR_no hs hc];simp only[tellS,runR,true_and,if_true];rfl
    | true=>
     rw[linesR_cut hc];have ea:lineOf s=(vE 10 s).1:=by unfold lineOf;rw [hc];rfl
     rw[ea];generalize (vE 10 s).1=a
     revert hl
     generalize (vE 10 s).2.1=t
     intro hl;unfold runR;dsimp only;rw [if_neg (fun h=>linesR_f h.1 h.2)];unfold lineS;have hE:∀e:Int,tellS (.error (i+1,e))=(Fct.z,(i:Int)+1,e):=fun e=>rfl;by_cases ha:a=[]
     · subst ha;simp only[beq_self_eq_true,Bool.not_true,Bool.and_false,Bool.false_eq_true,if_false,hE];by_cases h4:i<4
       · rw[if_pos h4,headR_empty (show []∈zO 32 [] by simp[zO])]
       · rw[if_neg h4,if_neg (by simp),if_neg (by simp),if_pos (.inl (by simp))]
     · simp only[yR ha,Bool.not_false,Bool.and_true,if_true];by_cases h4:i<4
       · have h4':step<4:=by omega
         have hstep:(St.mk step opn false f).step=i:=by show step=i;omega
         simp only[h4,h4',if_true,ofW_nil ha];by_cases hw:(zO 32 a).all (fun s=> !(s == []))=true
         · simp only[hw,if_true,← head_is hstep h4]
           cases hh:headS ⟨step,opn,false,f⟩ (zO 32 a) with
           | error e=>exact hE e
           | ok f'=>
            dsimp only;exact ih t (i+1) ⟨step+1,opn,false,f'⟩ (by omega) rfl (by show opn=_;rw [ho,headS_blocks hh]) (by show step+1=_;omega)
         · simp only[hw,if_false,headR_empty (all_ne hw),hE,Bool.false_eq_true]
       · have h4':¬step<4:=by omega
         simp only[h4,h4',if_false];by_cases h5:a=tEnd
         · simp only[h5,beq_self_eq_true,if_true];obtain⟨k,rfl⟩:∃j,k=j+1:=⟨k - 1,by omega⟩;unfold runS;by_cases ht:t=[]
           · subst ht;simp only[beq_self_eq_true,if_true,tellS,linesR_nil]
           · simp only[yR ht,Bool.false_eq_true,if_false,lineS,Bool.not_true,Bool.false_and,tellS,linesR_ne ht];congr 1
         · simp only[h5,yR h5,Bool.false_eq_true,if_false];by_cases h6:a=tBlock
           · simp only[h6,beq_self_eq_true,if_true];by_cases hb:f.blocks.length<200
             · simp only[hb,if_true];exact ih t (i+1) ⟨step,true,false,{ f with blocks:=f.blocks++[[]] }⟩ (by omega) rfl (by simp) (by show step=_;omega)
             · simp only[hb,if_false,hE]
           · simp only[h6,yR h6,Bool.false_eq_true,if_false,ho];by_cases hb:f.blocks=[]
             · simp only[hb,ne_eq,not_true,decide_false,Bool.false_eq_true,if_false,or_true,if_true,hE]
             · simp only[hb,ne_eq,not_false_iff,decide_true,if_true,or_false,ofW_two];by_cases hp:a.length<3∨¬a.take 2=tTwo
               · simp only[hp,ne_eq,if_true,hE]
               · simp only[hp,ne_eq,if_false];by_cases hw:(zO 32 (a.drop 2)).all (fun s=> !(s == []))=true
                 · simp only[hw,if_true,insS_is _ _ (wR 32 _)]
                   cases hi:insR (zO 32 (a.drop 2)) with
                   | error e=>exact hE e
                   | ok x=>
                    dsimp only;by_cases hn:(f.blocks.getLastD []).length<400
                    · simp only[hn,if_true];exact ih t (i+1) ⟨step,true,false,{ f with blocks:=addIns f.blocks x }⟩ (by omega) rfl (by simp[addIns]) (by show step=_;omega)
                    · simp only[hn,if_false,hE]
                 · simp only[hw,if_false,insR_empty (all_ne hw),hE,Bool.false_eq_true]
theorem readS_is(s:Tx):readS s=readR s:=by
 unfold readS readR;split
 · rfl
 · exact run_is (s.length+1) s 0 St.z (by omega) rfl rfl rfl
end Go.Ex.Vir
namespace Go.Ex.Vir
open Go Go.Ex
def Bad(e:Int):Prop:=e=2∨e=3
theorem wantW_bad{x:Tx}{ws:List Tx}{e:Int}(h:wantW x ws = .error e):Bad e:=by
 unfold wantW at h;repeat' (split at h)
 all_goals first
  | (cases h;done)
  | (injection h with h;exact .inr h.symm)
theorem nameW_bad{ws:List Tx}{e:Int}(h:nameW ws = .error e):Bad e:=by
 unfold nameW at h;repeat' (split at h)
 all_goals first
  | (cases h;done)
  | (injection h with h;exact .inr h.symm)
theorem nextW_bad{ws:List Tx}{e:Int}(h:nextW ws = .error e):Bad e:=by
 unfold nextW at h;repeat' (split at h)
 all_goals first
  | (cases h;done)
  | (injection h with h;exact .inr h.symm)
theorem anyW_bad{ws:List Tx}{e:Int}(h:anyW ws = .error e):Bad e:=by
 unfold anyW at h;repeat' (split at h)
 all_goals first
  | (cases h;done)
  | (injection h with h;exact .inr h.symm)
theorem numberW_bad{ws:List Tx}{e:Int}(h:numberW ws = .error e):Bad e:=by
 unfold numberW at h;split at h
 · rename_i e' h1;injection h with h;subst h;exact anyW_bad h1
 · split at h
   · cases h
   · injection h with h;exact .inr h.symm
theorem endW_bad{ws:List Tx}{e:Int}(h:endW ws = .error e):Bad e:=by
 unfold endW at h;repeat' (split at h)
 all_goals first
  | (cases h;done)
  | (injection h with h;exact .inr h.symm)
theorem restW_bad{α : Type}{one:List Tx→Res α}(ho:∀ws e,one ws = .error e→Bad e):∀(k:Nat) (ws:List Tx) (e:Int),restW one k ws = .error e→Bad e:=by
 intro k
 induction k with
 | zero=>intro ws e h;cases ws <;> cases h
 | succ k ih =>
  intro ws e h
  cases ws with
  | nil=>cases h
  | cons s r =>
   cases h1:one (s::r) with
   | error e'=>rw [restW_er1 h1]at h;injection h with h;subst h;exact ho _ _ h1
   | ok p=>
    obtain⟨x,r'⟩:=p
    cases h2:restW one k r' with
    | error e'=>rw [restW_er2 h1 h2]at h;injection h with h;subst h;exact ih _ _ h2
    | ok q=>obtain⟨l,r2⟩:=q;rw [restW_ok h1 h2]at h;cases h
theorem restNames_bad{ws:List Tx}{e:Int}(h:restNames ws = .error e):Bad e:=restW_bad (fun _ _=>nameW_bad) _ _ _ h
theorem restNums_bad{ws:List Tx}{e:Int}(h:restNums ws = .error e):Bad e:=restW_bad (fun _ _=>numberW_bad) _ _ _ h
theorem calledI_bad{i:Ins}{ws:List Tx}{e:Int}(h:calledI i ws = .error e):Bad e:=by
 unfold calledI at h;split at h
 · rename_i h1;injection h with h;subst h;exact nameW_bad h1
 · split at h
   · rename_i h1;injection h with h;subst h;exact restNums_bad h1
   · split at h
     · cases h
     · injection h with h;exact .inl h.symm
theorem definingI_bad{ws:List Tx}{e:Int}(h:definingI ws = .error e):Bad e:=by
 unfold definingI at h;repeat' (split at h)
 all_goals first
  | (cases h;done)
  | exact calledI_bad h
  | (rename_i h1;injection h with h;subst h;first|exact numberW_bad h1|exact wantW_bad h1|exact nameW_bad h1|exact anyW_bad h1|exact restNums_bad h1)
  | (injection h with h;exact .inr h.symm)
theorem oneI_bad{ws:List Tx}{e:Int}(h:oneI ws = .error e):Bad e:=by
 unfold oneI at h;repeat' (split at h)
 all_goals first
  | (cases h;done)
  | exact calledI_bad h
  | exact definingI_bad h
  | (rename_i h1;injection h with h;subst h;first|exact numberW_bad h1|exact nextW_bad h1)
  | (injection h with h;exact .inr h.symm)
theorem ofW_bad{s hd:Tx}{e:Int}(h:ofW s hd = .error e):Bad e:=by
 unfold ofW at h;repeat' (split at h)
 all_goals first
  | (cases h;done)
  | (injection h with h;exact .inr h.symm)
theorem headS_bad{st:St}{ws:List Tx}{e:Int}(h:headS st ws = .error e):Bad e:=by
 unfold headS at h;repeat' (split at h)
 all_goals first
  | (cases h;done)
  | (rename_i h1;injection h with h;subst h;first|exact wantW_bad h1|exact nameW_bad h1|exact endW_bad h1|exact restNames_bad h1|exact restNums_bad h1)
  | (injection h with h;exact .inl h.symm)
theorem insS_bad{st:St}{ws:List Tx}{e:Int}(h:insS st ws = .error e):Bad e:=by
 unfold insS at h;repeat' (split at h)
 all_goals first
  | (cases h;done)
  | (rename_i h1;injection h with h;subst h;first|exact oneI_bad h1|exact endW_bad h1)
  | (injection h with h;exact .inl h.symm)
theorem lineS_bad{st:St}{s:Tx}{e:Int}(h:lineS st s = .error e):Bad e:=by
 unfold lineS at h;repeat' (split at h)
 all_goals first
  | (cases h;done)
  | (rename_i h1;injection h with h;subst h;first|exact ofW_bad h1|exact headS_bad h1|exact insS_bad h1)
  | (injection h with h;exact .inl h.symm)
  | (injection h with h;exact .inr h.symm)
theorem cutB_len2(c:UInt8):∀s:Tx,s≠[]→(vE c s).2.1.length<s.length∧(vE c s).1.length≤s.length:=by
 intro s
 induction s with
 | nil=>intro h;exact absurd rfl h
 | cons a r ih=>
  intro _;unfold vE;split
  · simp
  · cases r with
    | nil=>simp [vE]
    | cons b t=>
     have:=ih (by simp);simp only[List.length_cons]at this ⊢;omega
theorem lineOf_len(s:Tx):(lineOf s).length≤s.length:=by
 unfold lineOf;split
 · cases s with
   | nil=>simp [vE]
   | cons a r=>exact(cutB_len2 10 (a::r) (by simp)).2
 · simp
theorem runS_nil(k no:Nat)(st:St):runS (k+1) no [] st = .ok (st,no):=rfl
theorem runS_er{k no:Nat}{s:Tx}{st:St}{e:Int}(hs:(s == [])=false)(h:lineS st (lineOf s) = .error e):runS (k+1) no s st = .error (no,e):=by
 unfold runS;rw [hs,h];rfl
theorem runS_ok{k no:Nat}{s:Tx}{st st':St}(hs:(s == [])=false)(h:lineS st (lineOf s) = .ok st'):runS (k+1) no s st=runS k (no+1) (vE 10 s).2.1 st':=by
 conv=>lhs;unfold runS
 rw[hs,h];rfl
theorem runS_bad:∀(k no:Nat) (s:Tx) (st:St) (no':Nat) (e:Int),runS k no s st = .error (no',e)→Bad e:=by
 intro k
 induction k with
 | zero=>intro no s st no' e h;cases h
 | succ k ih =>
  intro no s st no' e h
  cases hs:(s == []) with
  | true=>
   have:s=[]:=by simpa using hs
   subst this;rw [runS_nil]at h;cases h
  | false=>
   cases hl:lineS st (lineOf s) with
   | error e'=>rw [runS_er hs hl]at h;injection h with h;injection h with _ h;subst h;exact lineS_bad hl
   | ok st'=>rw [runS_ok hs hl]at h;exact ih _ _ _ _ _ h
end Go.Ex.Vir
namespace Go.Ex.Vir
open Go Go.Ex
theorem splitL_c(c x:UInt8)(r:Tx):zO c (x::r)=if x=c then []::zO c r else match zO c r with
 | []=>[[x]]
 | h::t=>(x::h)::t:=rfl
theorem splitL_pre{c:UInt8}{r:Tx}:∀{p:Tx},(∀x∈p,x≠c)→zO c (p++c::r)=p::zO c r:=by
 intro p
 induction p with
 | nil=>intro _;show zO c (c::r)=_;rw [splitL_c,if_pos rfl]
 | cons a p ih=>
  intro h;have e:=ih fun x hx=>h x (List.mem_cons_of_mem _ hx);show zO c (a::(p++c::r))=_;rw [splitL_c,if_neg (h a (List.mem_cons_self ..)),e]
theorem splitL_all{c:UInt8}:∀{p:Tx},(∀x∈p,x≠c)→zO c p=[p]:=by
 intro p
 induction p with
 | nil=>intro _;rfl
 | cons a p ih=>
  intro h;have e:=ih fun x hx=>h x (List.mem_cons_of_mem _ hx);rw [splitL_c,if_neg (h a (List.mem_cons_self ..)),e]
theorem split_step{c:UInt8}{s:Tx}{f i:Nat}(hf:f≤i)(hi:s[i]? = some c)(hno:∀j,f≤j→j<i→s[j]?≠some c):zO c (s.drop f)=(s.drop f).take (i - f)::zO c (s.drop (i+1)):=by
 obtain⟨hl,e⟩:=List.getElem?_eq_some_iff.1 hi
 have e1:s.drop f=(s.drop f).take (i - f)++c::s.drop (i+1):=by
  conv=>lhs;rw [← List.take_append_drop (i - f) (s.drop f)]
  rw[List.drop_drop,show f+(i - f)=i by omega,List.drop_eq_getElem_cons hl,e]
 conv=>lhs;rw [e1]
 refine splitL_pre fun x hx e2=>?_;obtain⟨j,hj,e3⟩:=List.mem_iff_getElem.1 hx;rw [List.length_take,List.length_drop]at hj;refine hno (f+j) (by omega) (by omega) ?_;rw [List.getElem_take,List.getElem_drop]at e3;rw [List.getElem?_eq_getElem (by omega),e3,e2]
theorem split_end{c:UInt8}{s:Tx}{f:Nat}(hno:∀j,f≤j→j<s.length→s[j]?≠some c):zO c (s.drop f)=[s.drop f]:=splitL_all fun x hx e2=>by
 obtain⟨j,hj,e3⟩:=List.mem_iff_getElem.1 hx;rw [List.length_drop]at hj;refine hno (f+j) (by omega) (by omega) ?_;rw [List.getElem_drop]at e3;rw [List.getElem?_eq_getElem (by omega),e3,e2]
theorem linesR_of{s x:Tx}{l:List Tx}(h:zO 10 s=l++[x]):linesR s=if x=[] then(l,true) else(l++[x],false):=by
 unfold linesR;rw [h,List.getLastD_concat,List.dropLast_concat]
end Go.Ex.Vir
namespace Go.Ex.Vir
open Go.RowKit
theorem splitL_sum(c:UInt8):∀s:Tx,((zO c s).map fun x=>x.length+1).sum=s.length+1:=by
 intro s
 induction s with
 | nil=>rfl
 | cons x r ih=>
  rw[splitL_c];split
  · simp only[List.map_cons,List.sum_cons,List.length_nil,List.length_cons,ih];omega
  · cases e:zO c r with
    | nil=>exact absurd e (wR c r)
    | cons a t=>
     rw[e]at ih;simp only[List.map_cons,List.sum_cons,List.length_cons]at ih ⊢;omega
theorem sumL_le{α : Type}(f: α→Nat):∀(l:List α) (k:Nat),((l.take k).map f).sum≤(l.map f).sum:=by
 intro l
 induction l with
 | nil=>intro k;simp
 | cons a l ih=>
  intro k
  cases k with
  | zero=>simp
  | succ k=>simp only[List.take_succ_cons,List.map_cons,List.sum_cons];have:=ih k;omega
theorem linesR_sum(s:Tx):((linesR s).1.map fun x=>x.length+1).sum≤s.length+1:=by
 have h:=splitL_sum 10 s;unfold linesR;split
 · rw[List.dropLast_eq_take];exact Nat.le_trans (sumL_le _ _ _) (Nat.le_of_eq h)
 · exact Nat.le_of_eq h
structure FB (f:Fct):Prop where
 v:f.vregs.length≤500
 p:f.params.length≤16
 b:f.blocks.length≤200
 l:∀b∈f.blocks,b.length≤400∧∀i∈b,i.args.length≤16
theorem fb_z:FB Fct.z:=⟨by decide,by decide,by decide,fun b hb=>by cases hb⟩
theorem head_fb{f f':Fct}{n:Nat}{ws:List Tx}(h:headR f n ws = .ok f')(a:FB f):FB f':=by
 unfold headR at h;repeat' (split at h)
 all_goals first
  | (cases h;done)
  | (injection h with h;subst h;exact⟨a.v,a.p,a.b,a.l⟩)
  | (injection h with h;subst h;exact⟨a.v,by assumption,a.b,a.l⟩)
  | (injection h with h;subst h;exact⟨by assumption,a.p,a.b,a.l⟩)
theorem callR_args'{d:Int}{ws:List Tx}{x:Ins}(h:callR d ws = .ok x):x.args.length≤16:=by
 unfold callR at h;repeat' (split at h)
 all_goals first
  | (cases h;done)
  | (injection h with h;subst h;assumption)
theorem insR_args'{ws:List Tx}{x:Ins}(h:insR ws = .ok x):x.args.length≤16:=by
 unfold insR at h;repeat' (split at h)
 all_goals first
  | (cases h;done)
  | exact callR_args' h
  | skip
 · unfold ownR at h;repeat' (split at h)
   all_goals first
    | (cases h;done)
    | (injection h with h;subst h;simp [Ins.z])
 · unfold defR at h;repeat' (split at h)
   all_goals first
    | (cases h;done)
    | exact callR_args' h
    | (injection h with h;subst h;simp [Ins.z];done)
    | (rename_i h9;injection h with h;subst h;have:=h9.2.2;dsimp only;omega)
theorem addIns_all{bs:List (List Ins)}{x:Ins}(hne:bs≠[])(hl:(bs.getLastD []).length<400)(hx:x.args.length≤16)(h:∀b∈bs,b.length≤400∧∀i∈b,i.args.length≤16):(addIns bs x).length=bs.length∧∀b∈addIns bs x,b.length≤400∧∀i∈b,i.args.length≤16:=by
 rcases List.eq_nil_or_concat bs with rfl|⟨l,b,rfl⟩
 · exact absurd rfl hne
 · simp only[List.concat_eq_append,List.getLastD_concat]at hl h;have e:addIns (l++[b]) x=l++[b++[x]]:=by simp[addIns]
   rw[List.concat_eq_append,e];refine⟨by simp,fun c hc=>?_⟩;rcases List.mem_append.1 hc with hc|hc
   · exact h c (List.mem_append_left _ hc)
   · rw[List.mem_singleton.1 hc];obtain⟨h1,h2⟩:=h b (by simp);refine⟨by rw[List.length_append,List.length_singleton];omega,fun i hi=>?_⟩;rcases List.mem_append.1 hi with hi|hi
     · exact h2 i hi
     · rw[List.mem_singleton.1 hi];exact hx
theorem run_fb(w:Bool):∀(ls:List Tx) (i:Nat) (f:Fct),FB f→FB (runR w ls i f).1:=by
 intro ls
 induction ls with
 | nil=>intro i f _;exact fb_z
 | cons a r ih=>
  intro i f hf;unfold runR;split
  · exact fb_z
  · split
    · split
      · exact fb_z
      · rename_i he;exact ih _ _ (head_fb he hf)
    · split
      · split
        · exact hf
        · exact fb_z
      · split
        · split
          · exact ih _ _ ⟨hf.v,hf.p,by simp;omega,fun b hb=>by
             rcases List.mem_append.1 hb with hb|hb
             · exact hf.l b hb
             · rw[List.mem_singleton.1 hb];exact⟨by decide,fun i hi=>by cases hi⟩⟩
          · exact fb_z
        · split
          · exact fb_z
          · rename_i h7;split
            · exact fb_z
            · rename_i he;split
              · rename_i hl;obtain⟨e1,e2⟩:=addIns_all (bs:=f.blocks) (fun e=>h7 (.inr (.inr e))) hl (insR_args' he) hf.l;exact ih _ _ ⟨hf.v,hf.p,by show(addIns f.blocks _).length≤_;rw [e1];exact hf.b,e2⟩
              · exact fb_z
theorem read_fb(s:Tx):FB (readR s).1:=by
 unfold readR;split
 · exact fb_z
 · exact run_fb _ _ _ _ fb_z
end Go.Ex.Vir
namespace Go.Ex
theorem app0{P:Program}{sT xT e sz len cap b n:Nat}[A:ApC P sT xT e sz]{cx:Cx}{d:List Deferred}{u:Option zJ}{h:zB}{x:Value}{K:W→Value→Prop}(h0:0<len)(hl:len<1000000)(hc:cap=inf∨len≤cap)(hr:Row n h x e sz 0 [])
(k:K ⟨d,u,h,n⟩ (.slice (some ⟨b,0,none⟩) len cap)):BuB P cx .append [sT,xT] [.slice (some ⟨b,0,none⟩) len cap,x] d u h n K:=by
 obtain⟨xd,ei,z0,t1,t2,t3,t4,t5,t6,t7,t8,t9⟩:=apTB_of A.ok;have hap:xR P h e ei.size xd x=some (0,[]):=by rw[t6];exact appended_of t3 hr
 show eAppend P [sT,xT] [.slice (some ⟨b,0,none⟩) len cap,x] h n (fun h' n' v'=>xE (K ⟨d,u,h',n'⟩ v'))=true;unfold eAppend xappend;dsimp only;rw [t1,t2];dsimp only;rw [t4,t5];dsimp only;rw [hap];dsimp only
 have c1:(Nat.beq ei.size 0 || !Nat.beq (cellsOf z0).length ei.size || !Nat.blt (Nat.add len 0) 1000000 || !Nat.blt ei.bytes 100000)=false:=by
  have a1:Nat.beq ei.size 0=false:=by
   cases e9:Nat.beq ei.size 0 with
   | false=>rfl
   | true=>have:=zG e9;omega
  have a2:Nat.beq (cellsOf z0).length ei.size=true:=by rw[t7,t6];exact Nat.beq_refl _
  rw[a1,a2,xO (show Nat.add len 0<1000000 from hl),xO t9];rfl
 rw[c1]
 have hb0:Nat.beq cap 0=false:=by
  cases e9:Nat.beq cap 0 with
  | false=>rfl
  | true=>
   have:=zG e9;rcases hc with hc|hc
   · have hinf:inf≠0:=by decide
     omega
   · omega
 have hc2:(Nat.beq cap inf || Nat.ble len cap)=true:=by
  rcases hc with rfl|hc
  · rw[Nat.beq_refl];rfl
  · rw[wQ hc,Bool.or_true]
 show cond (Nat.beq 0 0 && !Nat.beq cap 0 && (Nat.beq cap inf || Nat.ble len cap)) (xE (K ⟨d,u,h,n⟩ (.slice (some ⟨b,0,none⟩) len cap))) _=true;rw [hb0,hc2];exact isSo_iff.2 k
theorem uI{P:Program}{sT xT e sz len m lo n:Nat}[A:ApC P sT xT e sz]{cx:Cx}{d:List Deferred}{u:Option zJ}{h:zB}{v x:Value}{vs new:List Value}{K:W→Value→Prop}(r:WayR lo n h v e sz len vs)(h0:0<len)(hvs:∀y∈vs,y.oneCell'=true)(hlo:lo≤n)(hr:Row n h x e sz m new)(h1:∀y∈new,y.oneCell'=true)(hlim:len+m<1000000)
(k:∀v' h' n',WayR lo n' h' v' e sz (len+m) (vs++new)→Tch (yE v).toList h n h' n'→K ⟨d,u,h',n'⟩ v'):BuB P cx .append [sT,xT] [v,x] d u h n K:=by
 by_cases hm:m=0
 · subst hm;have hn:new=[]:=List.length_eq_zero_iff.1 (by rw[hr.lens,Nat.zero_mul]);subst hn;have r':=r;obtain⟨b,m',z,kd,cap,_,_,rfl,_,_,_,_,g⟩:=r'
   exact app0 h0 (by omega) (by
    rcases g with⟨_,_,_,g,_⟩|⟨_,g,_⟩
    · exact .inr g
    · exact .inl g) hr (k _ _ _ (by rw[List.append_nil];exact r) (Tch.refl _ _ _))
 · exact way_app r hvs hlo hr (by omega) h1 hlim fun v' h' n' w _ t=>k v' h' n' w t
theorem uF{P:Program}{ty:Nat}{ox oy:Operand}{a b:List UInt8}(h:a.length+b.length<1000000):Bn P .add ty ox oy (str a) (str b) (str (a++b)):=by
 show cond (Nat.blt (Nat.add a.length b.length) 1000000) (some (str (a++b))) none=_;rw [xO (show Nat.add a.length b.length<1000000 from h)];rfl
end Go.Ex
namespace Go.Proofs.YtdipdkkpgjdnkaaGreatDoor
open Go Go.Ex Go.Ex.M
set_option maxRecDepth 100000
set_option maxHeartbeats 8000000
attribute [local simp] yG
variable {n lo lo':Nat} {h:zB}
theorem int_at{lo e len:Nat}{v:Value}{l:List Int}{k:Nat}{x:Int}(r:Row lo h v e 1 len (l.map I64))(hx:l[k]? = some x):zD h (sbk v) (sof v+k*1)=some (I64 x):=by
 rw[Nat.mul_one];exact r.at (by rw[List.getElem?_map,hx];rfl)
theorem same_ints{e e':Nat}{av bv:Value}{a b:List Int}(ra:Row lo h av e 1 a.length (a.map I64))(rb:Row lo' h bv e' 1 b.length (b.map I64))(hl:a.length<4611686018427387904):Pur P 8 33 [av,bv] h n (.bool (decide (a=b))):=by
 refine ent fun u=>?_;by_cases he:a.length=b.length
 rotate_left
 · have hd:((a.length:Nat):Int)≠(b.length:Nat):=by omega
   repeat' first|refine wk ?_|refine cX (fun _=>?_) fun _=>?_|fail
   exact fin (by rw[decide_eq_false fun e=>he (by rw[e])])
 have hd:¬(((a.length:Nat):Int)≠(b.length:Nat)):=by omega
 repeat' first|refine wk ?_|refine cX (fun _=>?_) fun _=>?_|fail
 refine lpR (fun k:Nat=>[(0,av),(1,bv),(5,I64 (k:Nat))]) (fun k h' n'=>h'=h∧n'=n∧k≤a.length∧∀j,j<k→a[j]? = b[j]?) (fun k=>a.length - k) 0 ⟨rfl,rfl,Nat.zero_le _,fun j hj=>by omega⟩ ?_
 rintro k t h' n' ⟨rfl,rfl,hk,hall⟩
 by_cases hlt:k<a.length
 · have c0:a[k]? = some a[k]:=List.getElem?_eq_getElem hlt;have d0:b[k]? = some (b[k]'(by omega)):=List.getElem?_eq_getElem (by omega);generalize a[k]=x at c0
   generalize (b[k]'(by omega))=y at d0
   have c1:=int_at ra c0;have d1:=int_at rb d0;by_cases hxy:x=y
   · have hd2:¬(x≠y):=fun h9=>h9 hxy;repeat' first|refine wk ?_|refine cX (fun _=>?_) fun _=>?_|fail
     exact rnd (k+1) ⟨rfl,rfl,hlt,fun j hj=>by
      rcases Nat.lt_succ_iff_lt_or_eq.1 hj with h9|rfl
      · exact hall j h9
      · rw[c0,d0,hxy]⟩
   · have hd2:x≠y:=hxy;repeat' first|refine wk ?_|refine cX (fun _=>?_) fun _=>?_|fail
     exact fin (by rw[decide_eq_false fun e=>hxy (by rw[e,d0]at c0;injection c0 with c0;exact c0.symm)])
 · obtain rfl:k=a.length:=by omega
   repeat' first|refine wk ?_|refine cX (fun _=>?_) fun _=>?_|fail
   exact fin (by rw[decide_eq_true (List.ext_getElem? fun j=>by
    by_cases hj:j<a.length
    · exact hall j hj
    · rw[List.getElem?_eq_none (by omega),List.getElem?_eq_none (by omega)])])
def sameI(i j:InsT):Bool:=decide (i.kind=j.kind∧i.d=j.d∧i.a=j.a∧i.b=j.b∧i.n=j.n∧i.name=j.name∧i.t=j.t∧i.f=j.f∧i.args=j.args)
theorem same_ins{e e':Nat}{i j:InsT}(ra:Row lo h i.av e 1 i.args.length (i.args.map I64))(rb:Row lo' h j.av e' 1 j.args.length (j.args.map I64))(hlo:lo≤n)(hlo':lo'≤n)(hl:i.args.length<4611686018427387904):Pur P 8 37 [.agg ⟨uE i⟩,.agg ⟨uE j⟩] h n (.bool (sameI i j)):=by
 have o1:=ra.one;have o2:=rb.one;refine Com.pure (ent fun u=>?_) (.inl rfl);repeat' first|refine wk ?_|refine cX (fun _=>?_) fun _=>?_|refine yV (same_ints (Row.tch (S:=[]) ra zA hlo (by simp)) (Row.tch (S:=[]) rb zA hlo' (by simp)) hl) ?_|fail
 all_goals exact finT (by unfold sameI;simp [*]) zA
theorem sameI_of{i j:InsT}(h:toI i=toI j):sameI i j=true:=by
 unfold sameI;injection h with h1 h2 h3 h4 h5 h6 h7 h8 h9
 exact decide_eq_true ⟨h1,h2,h3,h4,h5,h6,h8,h9,h7⟩
theorem ins_rd{lo e len:Nat}{v:Value}{l:List InsT}{k:Nat}{i:InsT}(r:Row lo h v e 9 len (l.flatMap uE))(hk:l[k]? = some i):Rd h (sbk v) (sof v+k*9) 9 (uE i):=row_el r hk
theorem val_at{lo e len:Nat}{v:Value}{l:List (Value×List InsT)}{k:Nat}{x:Value×List InsT}(r:Row lo h v e 1 len (l.map (·.1)))(hx:l[k]? = some x):zD h (sbk v) (sof v+k*1)=some x.1:=by
 rw[Nat.mul_one];exact r.at (by rw[List.getElem?_map,hx];rfl)
structure BlkQ (lo:Nat) (h:zB) (v:Value) (A:List (Value×List InsT)):Prop where
 bv:Row lo h v tBk 1 A.length (A.map (·.1))
 el:∀x∈A,Row lo h x.1 tIn 9 x.2.length (x.2.flatMap uE)
 ar:∀x∈A,∀i∈x.2,Row lo h i.av 3 1 i.args.length (i.args.map I64)
structure BlkS (A:List (Value×List InsT)):Prop where
 a:A.length<4611686018427387904
 b:∀x∈A,x.2.length<4611686018427387904
 c:∀x∈A,∀i∈x.2,i.args.length<4611686018427387904
theorem same_blocks{av bv:Value}{A B:List (Value×List InsT)}(qa:BlkQ lo h av A)(qb:BlkQ lo' h bv B)(s:BlkS A)(hlo:lo≤n)(hlo':lo'≤n)(heq:A.map (fun x=>x.2.map toI)=B.map fun x=>x.2.map toI):Pur P 8 34 [av,bv] h n (.bool true):=by
 have ra:=qa.bv;have rb:=qb.bv;have hl:A.length=B.length:=by have:=congrArg List.length heq;simpa using this
 have hA:=s.a;refine ent fun u=>?_;have hd:¬(((A.length:Nat):Int)≠(B.length:Nat)):=by omega
 repeat' first|refine wk ?_|refine cX (fun _=>?_) fun _=>?_|fail
 refine lpR (fun k:Nat=>[(0,av),(1,bv),(5,I64 (k:Nat))]) (fun k h' n'=>h'=h∧n'=n∧k≤A.length) (fun k=>A.length - k) 0 ⟨rfl,rfl,Nat.zero_le _⟩ ?_
 rintro k t h' n' ⟨e1,e2,hk⟩
 subst e1 e2;by_cases hlt:k<A.length
 rotate_left
 · obtain rfl:k=A.length:=by omega
   repeat' first|refine wk ?_|refine cX (fun _=>?_) fun _=>?_|fail
   exact fin rfl
 have c0:A[k]? = some A[k]:=List.getElem?_eq_getElem hlt;have d0:B[k]? = some (B[k]'(by omega)):=List.getElem?_eq_getElem (by omega);have ma:=List.getElem_mem hlt;have mb:B[k]'(by omega)∈B:=List.getElem_mem _
 have e1:(A[k]).2.map toI=(B[k]'(by omega)).2.map toI:=by
  have:=congrArg (·[k]?) heq;simp only[List.getElem?_map,c0,d0,Option.map_some]at this;injection this
 generalize A[k]=x at c0 ma e1
 generalize (B[k]'(by omega))=y at d0 mb e1
 have c1:=val_at ra c0;have d1:=val_at rb d0;have rx:=qa.el x ma;have ry:=qb.el y mb;have hl2:x.2.length=y.2.length:=by have:=congrArg List.length e1;simpa using this
 have hd2:¬(((x.2.length:Nat):Int)≠(y.2.length:Nat)):=by omega
 have hx:=s.b x ma;obtain⟨xv,xl⟩:=x;obtain⟨yv,yl⟩:=y;dsimp only at c1 d1 rx ry hl2 hd2 hx e1;have oxv:=rx.one;have oyv:=ry.one;repeat' first|refine wk ?_|refine cX (fun _=>?_) fun _=>?_|fail
 refine lpR (fun q:Nat=>[(0,av),(1,bv),(5,I64 (k:Nat)),(6,I64 (q:Nat))]) (fun q h2 n2=>h2=h'∧n2=n'∧q≤xl.length) (fun q=>xl.length - q) 0 ⟨rfl,rfl,Nat.zero_le _⟩ ?_
 rintro q t h2 n2 ⟨e3,e4,hq⟩
 subst e3 e4;by_cases hlt2:q<xl.length
 · have i0:xl[q]? = some xl[q]:=List.getElem?_eq_getElem hlt2;have j0:yl[q]? = some (yl[q]'(by omega)):=List.getElem?_eq_getElem (by omega);have mi:=List.getElem_mem hlt2;have mj:yl[q]'(by omega)∈yl:=List.getElem_mem _
   have e5:toI xl[q]=toI (yl[q]'(by omega)):=by
    have:=congrArg (·[q]?) e1;simp only[List.getElem?_map,i0,j0,Option.map_some]at this;injection this
   generalize xl[q]=i at i0 mi e5
   generalize (yl[q]'(by omega))=j at j0 mj e5
   have ri:=ins_rd rx i0;have rj:=ins_rd ry j0;have gi:=qa.ar _ ma i mi;have gj:=qb.ar _ mb j mj;have oi:=gi.one;have oj:=gj.one;have p:=same_ins (n:=n2) gi gj hlo hlo' (s.c _ ma i mi);rw [sameI_of e5]at p;repeat' first|refine wk ?_|refine cX (fun _=>?_) fun _=>?_|refine yV p ?_|fail
   exact rnd (q+1) ⟨rfl,rfl,hlt2⟩
 · obtain rfl:q=xl.length:=by omega
   repeat' first|refine wk ?_|refine cX (fun _=>?_) fun _=>?_|fail
   exact rnd (k+1) ⟨rfl,rfl,hlt⟩
theorem same_func{F G:FunT}(qa:FunQ lo h F)(qb:FunQ lo' h G)(s:BlkS F.blocks)(hv:F.vregs.length<4611686018427387904)(hp:F.params.length<4611686018427387904)(hlo:lo≤n)(hlo':lo'≤n)(heq:toF F=toF G):Pur P 8 12 [.agg ⟨funC F⟩,.agg ⟨funC G⟩] h n (.bool true):=by
 injection heq with h1 h2 h3 h4 h5
 have o1:=qa.vr.one;have o2:=qa.pr.one;have o3:=qa.bv.one;have o4:=qb.vr.one;have o5:=qb.pr.one;have o6:=qb.bv.one;refine Com.pure (ent fun u=>?_) (.inl rfl);have hl:F.vregs.length=G.vregs.length:=by rw[h2]
 have hd1:¬(F.name≠G.name):=fun h9=>h9 h1;have hd2:¬(F.result≠G.result):=fun h9=>h9 h4;have hd3:¬(((F.vregs.length:Nat):Int)≠(G.vregs.length:Nat)):=by omega
 have rv:=qa.vr;have rw2:=qb.vr;repeat' first|refine wk ?_|refine cX (fun _=>?_) fun _=>?_|fail
 refine lpR (fun k:Nat=>[(2,ptr n 0),(3,ptr (n+1) 0),(5,I64 (k:Nat))]) (fun k h' n'=>Tch [] h n h' n'∧n+2≤n'∧k≤F.vregs.length∧Cel h' n (26+1) 0 (funC F)∧Cel h' (n+1) (26+1) 0 (funC G)) (fun k=>F.vregs.length - k) 0 ⟨zA,by omega,Nat.zero_le _,zH,zH⟩ ?_
 rintro k t h' n' ⟨ht,hn,hk,c1,c2⟩
 by_cases hlt:k<F.vregs.length
 · have c0:F.vregs[k]? = some F.vregs[k]:=List.getElem?_eq_getElem hlt;have d0:G.vregs[k]? = some F.vregs[k]:=by rw[← h2];exact c0
   generalize F.vregs[k]=x at c0 d0
   have rv':=rv.tch ht hlo (by simp);have rw':=rw2.tch ht hlo' (by simp);have e1:zD h' (sbk F.vv) (sof F.vv+k*1)=some (str x):=by rw[Nat.mul_one];exact rv'.at (by rw[List.getElem?_map,c0];rfl)
   have e2:zD h' (sbk G.vv) (sof G.vv+k*1)=some (str x):=by rw[Nat.mul_one];exact rw'.at (by rw[List.getElem?_map,d0];rfl)
   have hd4:¬(x≠x):=fun h9=>h9 rfl;repeat' first|refine wk ?_|refine cX (fun _=>?_) fun _=>?_|fail
   exact rnd (k+1) ⟨ht,hn,hlt,c1,c2⟩
 · obtain rfl:k=F.vregs.length:=by omega
   have p1:=same_ints (n:=n') (qa.pr.tch ht hlo (by simp)) (qb.pr.tch ht hlo' (by simp)) hp;rw [decide_eq_true h3]at p1;have p2:=same_blocks (n:=n') ⟨qa.bv.tch ht hlo (by simp),fun x hx=>(qa.el x hx).tch ht hlo (by simp),fun x hx i hi=>(qa.ar x hx i hi).tch ht hlo (by simp)⟩ ⟨qb.bv.tch ht hlo' (by simp),fun x hx=>(qb.el x hx).tch ht hlo' (by simp),fun x hx i hi=>(qb.ar x hx i hi).tch ht hlo' (by simp)⟩ s (by omega) (by omega) h5;repeat' first|refine wk ?_|refine cX (fun _=>?_) fun _=>?_|refine yV p1 ?_|refine yV p2 ?_|fail
   exact finT rfl zA
end Go.Proofs.YtdipdkkpgjdnkaaGreatDoor
namespace Go.Proofs.YtdipdkkpgjdnkaaGreatDoor
open Go Go.Ex Go.Ex.M
set_option maxRecDepth 100000
set_option maxHeartbeats 8000000
attribute [local simp] yG
variable {n lo:Nat} {h:zB} {F:FunT}
structure FunS (F:FunT):Prop where
 nl:F.name.length<tMax
 rl:F.result.length<tMax
 vl:F.vregs.length<tMax
 vt:∀x∈F.vregs,x.length<tMax
 pl:F.params.length<tMax
 pg:∀x∈F.params,Go64 x
 bl:F.blocks.length<tMax
 el:∀x∈F.blocks,x.2.length<tMax
 al:∀x∈F.blocks,∀i∈x.2,i.args.length<tMax∧i.name.length<tMax∧Go64 i.n
def sumA(l:List InsT):Nat:=(l.map fun i=>i.args.length).sum
def sumB(l:List (Value×List InsT)):Nat:=(l.map fun x=>1+x.2.length+sumA x.2).sum
theorem sum_take{α : Type}{f: α→Nat}{l:List α}{k:Nat}{x: α}(h:l[k]? = some x):((l.take (k+1)).map f).sum=((l.take k).map f).sum+f x:=by
 obtain⟨hk,rfl⟩:=List.getElem?_eq_some_iff.1 h;rw [List.take_succ_eq_append_getElem hk,List.map_append,List.sum_append];simp
theorem big_com(q:FunQ lo h F)(s:FunS F)(hlo:lo≤n):Com P 8 5 [.agg ⟨funC F⟩] h n fun o h' n'=>∃b,o = .ret (.bool b)∧Tch [] h n h' n'∧(b=false→F.vregs.length+F.params.length+sumB F.blocks≤3000):=by
 have o1:=q.vr.one;have o2:=q.pr.one;have o3:=q.bv.one;have rv:=q.vr;have rp:=q.pr;have rb:=q.bv;have ht:tMax=1125899906842624:=rfl;have g0:=s.nl;have g1:=s.rl;have g2:=s.vl;have g3:=s.pl;have g4:=s.bl;refine ent fun u=>?_;repeat' first|refine wk ?_|refine cX (fun _=>?_) fun _=>?_|fail
 refine lpR (α :=Nat×Nat) (fun a=>[(1,ptr n 0),(3,I64 a.2),(4,I64 a.1)]) (fun a h' n'=>Tch [] h n h' n'∧Cel h' n (26+1) 0 (funC F)∧a.1≤F.vregs.length∧n+1≤n'∧a.2<9007199254740992∧F.vregs.length+F.params.length≤a.2) (fun a=>F.vregs.length - a.1) (0,F.vregs.length+F.params.length+F.name.length / 8+F.result.length / 8) ⟨zA,zH,Nat.zero_le _,by omega,by dsimp only;omega,by dsimp only;omega⟩ ?_
 rintro ⟨i,k⟩ t h' n' ⟨t1,c1,hi,hn,hk,hge⟩
 dsimp only at hi hk hge ⊢;have rv1:=rv.tch t1 hlo (by simp);by_cases hg:i<F.vregs.length∧k≤3000
 · obtain⟨hg1,hg2⟩:=hg;have c0:F.vregs[i]? = some F.vregs[i]:=List.getElem?_eq_getElem hg1;have hx:=s.vt _ (List.getElem_mem hg1);generalize F.vregs[i]=x at c0 hx
   have c2:zD h' (sbk F.vv) (sof F.vv+i*1)=some (str x):=by rw[Nat.mul_one];exact rv1.at (by rw[List.getElem?_map,c0];rfl)
   repeat' first|refine wk ?_|refine cX (fun _=>?_) fun _=>?_|fail
   exact rnd (i+1,k+x.length / 8) ⟨t1,c1,hg1,hn,by dsimp only;omega,by dsimp only;omega⟩
 by_cases hk3:k≤3000
 rotate_left
 · repeat' first|refine wk ?_|refine cX (fun _=>?_) fun _=>?_|fail
   all_goals
    refine wc_loop1 ?_;repeat' first|refine wk ?_|refine cX (fun _=>?_) fun _=>?_|fail
    all_goals exact⟨_,rfl,t1,fun h9=>by have:=of_decide_eq_false h9;omega⟩
 obtain rfl:i=F.vregs.length:=by omega
 repeat' first|refine wk ?_|refine cX (fun _=>?_) fun _=>?_|fail
 refine lpR (α :=Nat×Nat) (fun a=>[(1,ptr n 0),(3,I64 a.2),(5,I64 a.1)]) (fun a h' n'=>Tch [] h n h' n'∧Cel h' n (26+1) 0 (funC F)∧a.1≤F.blocks.length∧n+1≤n'∧a.2<9007199254740992∧(a.2≤3000→F.vregs.length+F.params.length+sumB (F.blocks.take a.1)≤a.2)) (fun a=>F.blocks.length - a.1) (0,k) ⟨t1,c1,Nat.zero_le _,hn,hk,fun _=>by simp[sumB];omega⟩ ?_;clear t1 c1 hn rv1
 rintro ⟨b,k⟩ t h' n' ⟨t1,c1,hi,hn,hk,hge⟩
 dsimp only at hi hk hge ⊢;have rb1:=rb.tch t1 hlo (by simp);by_cases hk3:k≤3000
 rotate_left
 · repeat' first|refine wk ?_|refine cX (fun _=>?_) fun _=>?_|fail
   all_goals exact⟨_,rfl,t1,fun h9=>by have:=of_decide_eq_false h9;omega⟩
 have hge:=hge hk3;by_cases hb:b<F.blocks.length
 rotate_left
 · obtain rfl:b=F.blocks.length:=by omega
   rw[List.take_length]at hge;repeat' first|refine wk ?_|refine cX (fun _=>?_) fun _=>?_|fail
   exact⟨_,rfl,t1,fun _=>by omega⟩
 have c0:F.blocks[b]? = some F.blocks[b]:=List.getElem?_eq_getElem hb;have mx:=List.getElem_mem hb;generalize F.blocks[b]=x at c0 mx
 have c2:=val_at rb1 c0;have hsum:=sum_take (f:=fun x:Value×List InsT=>1+x.2.length+sumA x.2) c0;obtain⟨xv,xl⟩:=x;dsimp only at c2 hsum;have rx:=q.el _ mx;have hgx:=q.ar _ mx;have hxl:=s.el _ mx;have hal:=s.al _ mx;dsimp only at rx hgx hxl hal;have rx1:=rx.tch t1 hlo (by simp);have ox:=rx.one;repeat' first|refine wk ?_|refine cX (fun _=>?_) fun _=>?_|fail
 refine lpR (α :=Nat×Nat) (fun a=>[(1,ptr n 0),(3,I64 a.2),(5,I64 b),(6,I64 a.1)]) (fun a h' n'=>Tch [] h n h' n'∧Cel h' n (26+1) 0 (funC F)∧a.1≤xl.length∧n+1≤n'∧a.2<9007199254740992∧(a.2≤3000→k+1+xl.length+sumA (xl.take a.1)≤a.2)) (fun a=>xl.length - a.1) (0,k+1+xl.length) ⟨t1,c1,Nat.zero_le _,hn,by dsimp only;omega,fun _=>by simp[sumA]⟩ ?_;clear t1 c1 hn rb1 rx1 c2
 rintro ⟨p,k6⟩ t h' n' ⟨t1,c1,hp,hn,hk6,hge6⟩
 dsimp only at hp hk6 hge6 ⊢;have rb1:=rb.tch t1 hlo (by simp);have rx1:=rx.tch t1 hlo (by simp);have c2:zD h' (sbk F.bv) (sof F.bv+b*1)=some xv:=val_at rb1 c0;by_cases hg:p<xl.length∧k6≤3000
 rotate_left
 · have hfin:k6≤3000→F.vregs.length+F.params.length+sumB (F.blocks.take (b+1))≤k6:=fun h9=>by
    have hp9:p=xl.length:=by omega
    have:=hge6 h9;rw [hp9,List.take_length]at this;show _+_+((F.blocks.take (b+1)).map fun x=>1+x.2.length+sumA x.2).sum≤_;rw [hsum];unfold sumB at hge;omega
   by_cases hp9:p<xl.length
   all_goals
    repeat' first|refine wk ?_|refine cX (fun _=>?_) fun _=>?_|fail
    exact rnd (b+1,k6) ⟨t1,c1,hb,hn,hk6,hfin⟩
 obtain⟨hg1,hg2⟩:=hg;have hge6:=hge6 hg2;have i0:xl[p]? = some xl[p]:=List.getElem?_eq_getElem hg1;have mi:=List.getElem_mem hg1;have hsum2:=sum_take (f:=fun i:InsT=>i.args.length) i0;generalize xl[p]=i at i0 mi hsum2
 obtain⟨s1,s2,_⟩:=hal i mi;have ri:=ins_rd rx1 i0;have gi:=(hgx i mi).tch t1 hlo (by simp);have oi:=gi.one;have d5:zD h' (sbk xv) (sof xv+p*9+5)=some (str i.name):=ri.row.2 5 _ rfl;have d6:zD h' (sbk xv) (sof xv+p*9+6)=some i.av:=ri.row.2 6 _ rfl;repeat' first|refine wk ?_|refine cX (fun _=>?_) fun _=>?_|fail
 exact rnd (p+1,k6+i.args.length+i.name.length / 8) ⟨t1,c1,hg1,hn,by dsimp only;omega,fun h9=>by
  show _+((xl.take (p+1)).map fun i=>i.args.length).sum≤_;rw [hsum2];unfold sumA at hge6;dsimp only at h9 ⊢;omega⟩
end Go.Proofs.YtdipdkkpgjdnkaaGreatDoor
namespace Go.Proofs.YtdipdkkpgjdnkaaGreatDoor
open Go Go.Ex Go.Ex.M Go.RowKit
set_option maxRecDepth 100000
def TxtL(l:List Tx):Prop:=l.length<tMax∧∀x∈l,x.length<tMax
structure InsW (lo:Nat) (h:zB) (i:InsT):Prop where
 ar:RowA lo h i.av 1 i.args.length (i.args.map I64)
 al:i.args.length<tMax
 nl:i.name.length<tMax
 gn:Go64 i.n
section
variable {H:Type} {enc:TypeId×Value→H} {W:World} {b0:Nat} {tabs:List (Nat×List Value)}
theorem go_of{a:Int}(w:(Lit.int .i64 a).wf=true):Go64 a:=by
 unfold Lit.wf at w;rw [Bool.and_eq_true]at w;have e1:IntKind.i64.min = -9223372036854775808:=by decide
 have e2:IntKind.i64.max=9223372036854775807:=by decide
 have h1:=of_decide_eq_true w.1;have h2:=of_decide_eq_true w.2;rw [e1]at h1;rw [e2]at h2;exact⟨h1,by omega⟩
def ElF(enc:TypeId×Value→H)(W:World)(fuel:Nat)(t:TypeId)(cs:List Value):Prop:=∃x,DataW.trod enc P W 0 (fun _=>true) true fuel t cs=some x∧∀y∈x.1.weights P t,y≤reachBytes
def Told(b0:Nat)(W:World)(v:Value):Prop:=RV (idI W) (absV b0 v) v∧isU (absV b0 v)=false
theorem int_El{k:Nat}{cs:List Value}(h:ElF enc W k 3 cs):∃n:Int,cs=[I64 n]∧Go64 n:=by
 obtain⟨x,hx,-⟩:=h;obtain⟨n,h1,-,h3⟩:=DataW.trod_int Tryz.underlying3 hx;exact⟨n,h1,go_of h3⟩
theorem str_El{k:Nat}{cs:List Value}(h:ElF enc W k 9 cs):∃s:Tx,cs=[str s]∧s.length<tMax:=by
 obtain⟨x,hx,hw⟩:=h;obtain⟨s,h1,h2,h3⟩:=DataW.trod_string Tryz.underlying9 hx;subst h2;have h4:s.data.toList.length≤reachBytes:=hw _ (by simp[DataW.weights]);have h5:reachBytes<tMax:=by decide
 exact⟨s.data.toList,h1,by omega⟩
theorem vV{ts:List TypeId}{ds:List (DataW H)}{i:Nat}{t:TypeId}{d:DataW H}(h1:ts[i]? = some t)(h2:ds[i]? = some d){y:Nat}(hy:y∈d.weights P t):y∈DataW.weightsEach P ts ds:=by
 induction ts generalizing ds i with
 | nil=>simp at h1
 | cons a r ih => cases ds with
  | nil=>simp at h2
  | cons b s=>
   unfold DataW.weightsEach
   cases i with
   | zero=>simp at h1 h2;subst h1 h2;exact List.mem_append_left _ hy
   | succ i=>exact List.mem_append_right _ (ih (by simpa using h1) (by simpa using h2))
theorem weightsAll_get{t:TypeId}{ds:List (DataW H)}{d:DataW H}(h2:d∈ds){y:Nat}(hy:y∈d.weights P t):y∈DataW.weightsAll P t ds:=by
 induction ds with
 | nil=>cases h2
 | cons b s ih=>
  unfold DataW.weightsAll;rcases List.mem_cons.1 h2 with rfl|h2
  · exact List.mem_append_left _ hy
  · exact List.mem_append_right _ (ih h2)
theorem struct_El{k:Nat}{t:TypeId}{fs:Array Field}(ht:P.underlying t=some (.struct fs)){cs:List Value}(h:ElF enc W k t cs) :
 cs.length=P.cellsOf t∧∃n,k=n+1∧∀(i:Nat) (f:Field),fs[i]? = some f→ElF enc W n f.type ((cs.drop f.offset).take (P.cellsOf f.type)):=by
 obtain⟨x,hx,hw⟩:=h
 have hk:∃n,k=n+1:=by
  cases k with
  | zero=>simp [DataW.trod]at hx
  | succ n=>exact⟨n,rfl⟩
 obtain⟨n,rfl⟩:=hk;obtain⟨xs,n',h1,h2,h3,h4,h5⟩:=DataW.trod_struct ht hx;obtain rfl:n=n':=by omega
 subst h2;refine⟨h3,n,rfl,fun i f hf=>?_⟩;have hi:i<xs.length:=by rw[h4];exact(Array.getElem?_eq_some_iff.1 hf).1
 refine⟨xs[i],by rw[h5 i f hf,List.getElem?_eq_getElem hi],fun y hy=>hw y ?_⟩;dsimp only;unfold DataW.weights;simp only[ht];exact vV (i:=i) (t:=f.type) (d:=xs[i].1) (by simp[hf]) (by simp[List.getElem?_eq_getElem hi]) hy
theorem cells_get{w:World}{base:Nat}{a:Addr}{n:Nat}{l:List Value}(h:w.cells? base a n=some l):l.length=n∧∀i,i<n→w.cell? (a.add i)=l[i]? :=by
 unfold World.cells? at h;split at h
 · refine⟨by simpa using mapM_some_length h,fun i hi=>mapM_some_get h i i (by simp[hi])⟩
 · cases h
theorem add_none(b o k:Nat):(⟨b,o,none⟩:Addr).add k=⟨b,o+k,none⟩:=by
 unfold Addr.add;split
 · subst_vars;rfl
 · rfl
theorem spot_none{w:World}{a:Addr}{v:Value}(h:w.cell? a=some v):a.spot=none:=by
 obtain⟨b,o,s⟩:=a;unfold World.cell? at h;split at h
 · cases s with
   | none=>rfl
   | some x=>rw [if_pos (by rfl)]at h;cases h
 · cases h
theorem mir_info(hw:TabsIn W tabs){b i:Nat}{v:Value}(hc:W.cell? ⟨b,i,none⟩=some v) :
 b<W.heap.size∧∃kd,yF (zF (mirH b0 W tabs) b)=some (szB W b,0,kd)∧i<szB W b∧kd≠0:=by
 unfold World.cell? at hc;dsimp only at hc;split at hc
 · rename_i cs el fr ho;have hc:cs[i]? = some v:=by simpa using hc
   have hb:b<W.heap.size:=by
    rcases Nat.lt_or_ge b W.heap.size with h1|h1
    · exact h1
    · rw[Array.getElem?_eq_none h1]at ho;cases ho
   have hi:i<cs.size:=(Array.getElem?_eq_some_iff.1 hc).1;have hs:szB W b=cs.size:=by unfold szB;rw [ho]
   refine⟨hb,?_⟩;rcases mirH_get b0 W tabs b with⟨p,h1,rfl,h3⟩|h1
   · obtain⟨el',fr',h4⟩:=hw p h1;rw [ho]at h4;injection h4 with h4;injection h4 with h4 _ _;subst h4
     exact⟨2,by rw[h3,hs];rfl,by rw[hs];exact hi,by decide⟩
   · exact⟨3,by rw[h1,if_pos hb,ho,hs];rfl,by rw[hs];exact hi,by decide⟩
 · cases hc
theorem rowAt_flat{b sz:Nat}{h:zB}:∀{ess:List (List Value)} {off:Nat},(∀(j:Nat) c,ess[j]? = some c→c.length=sz∧∀(k:Nat) x,c[k]? = some x→zD h b (off+(j*sz+k))=some (absV b0 x))→Go.Ex.rowAt h b off (ess.flatten.map (absV b0)):=by
 intro ess
 induction ess with
 | nil=>intro off _;exact Go.Ex.rowAt.nil _ _ _
 | cons c r ih =>
  intro off hc;obtain⟨c1,c2⟩:=hc 0 c rfl
  have hr:=ih (off:=off+sz) fun j c' hj=>⟨(hc (j+1) c' (by simpa using hj)).1,fun k x hk=>by
   have:=(hc (j+1) c' (by simpa using hj)).2 k x hk;rw [show off+sz+(j*sz+k)=off+((j+1)*sz+k) by rw[Nat.succ_mul];omega];exact this⟩
  intro q v hq;rw [List.flatten_cons,List.map_append]at hq;by_cases hlt:q<c.length
  · rw[List.getElem?_append_left (by simpa using hlt),List.getElem?_map,List.getElem?_eq_getElem hlt]at hq;obtain rfl:absV b0 c[q]=v:=by simpa using hq
    have:=c2 q _ (List.getElem?_eq_getElem hlt);rw [show off+(0*sz+q)=off+q by omega]at this;exact this
  · rw[List.getElem?_append_right (by simp;omega),List.length_map]at hq;have:=hr (q - c.length) v hq;rw [show off+sz+(q - c.length)=off+q by omega]at this;exact this
theorem flen_of{sz:Nat}(l:List (List Value))(h:∀c∈l,c.length=sz):l.flatten.length=l.length*sz:=by
 induction l with
 | nil=>simp
 | cons c r ih=>rw [List.flatten_cons,List.length_append,ih fun c hc=>h c (List.mem_cons_of_mem _ hc),h c (List.mem_cons_self ..),List.length_cons,Nat.succ_mul];omega
theorem absV_cap{a:Option Addr}{l c:Nat}(h:c≠0):absV b0 (.slice a l c) = .slice a l c:=by
 cases a with
 | none=>rfl
 | some a =>
  cases l with
  | succ l=>rfl
  | zero=>cases c with
   | zero=>exact absurd rfl h
   | succ c=>rfl
abbrev H0(b0:Nat)(W:World)(tabs:List (Nat×List Value)):Prop:=(TabsIn W tabs∧∀p∈tabs,∀v∈p.2,absV b0 v=v)∧∃m z kd,yF (zF (mirH b0 W tabs) b0)=some (m,z,kd)∧b0<W.heap.size
theorem slice_El{t e:TypeId}{sz:Nat}{fu:Nat}(h0:H0 b0 W tabs)
(ht:P.underlying t=some (.slice e))(hsz:P.cellsOf e=sz)(h1:1≤sz)(hby:1≤P.bytesOf e)(hE:∀n c,fu=n+1→ElF enc W n e c→c.length=sz∧∀v∈c,Told b0 W v){cs:List Value}(h:ElF enc W fu t cs) :
 ∃(v:Value) (ess:List (List Value)),cs=[v]∧Told b0 W v∧(∀c∈ess,∃n,fu=n+1∧ElF enc W n e c)∧RowA W.heap.size (mirH b0 W tabs) (absV b0 v) sz ess.length (ess.flatten.map (absV b0))∧ess.length<tMax:=by
 obtain⟨x,hx,hwt⟩:=h;rcases DataW.trod_slice ht hx with⟨rfl,-⟩|⟨a,len,cap,elems,rest,n,rfl,rfl,rfl,hb,hlc,hcm,hel,hg,hsp,-⟩
 · exact⟨_,[],rfl,⟨.nilSlice 0 0 (by decide),rfl⟩,fun _ h=>(by cases h),fun _=>.inl ⟨rfl,rfl,rfl⟩,by decide⟩
 obtain⟨hrl,hrg⟩:=hsp rfl;unfold DataW.weights at hwt;simp only[ht]at hwt
 have hcap:cap<tMax:=by
  have q1:=hwt _ (List.mem_cons_self ..);simp only[List.length_map]at q1;have q2:=Nat.le_mul_of_pos_right (elems.length+rest.length) hby
  have h5:reachBytes<tMax:=by decide
  omega
 have hinf:cap<inf:=by
  have:tMax<inf:=by decide
  omega
 have hall:∀j,j<cap→∃c,W.cells? 0 (a.add (j*sz)) sz=some c∧ElF enc W n e c:=by
  intro j hj;rw [hsz]at hg hrg;by_cases hlt:j<len
  · have q:=hg j hlt;rw [List.getElem?_eq_getElem (by omega)]at q;obtain⟨c,q1,q2⟩:=Option.bind_eq_some_iff.1 q;exact⟨c,q1,_,q2,fun y hy=>hwt y (List.mem_cons_of_mem _ (List.mem_append_left _ (weightsAll_get (List.mem_map.2 ⟨_,List.getElem_mem (by omega),rfl⟩) hy)))⟩
  · have q:=hrg (j - len) (by omega);rw [List.getElem?_eq_getElem (by omega),show len+(j - len)=j by omega]at q;obtain⟨c,q1,q2⟩:=Option.bind_eq_some_iff.1 q;exact⟨c,q1,_,q2,fun y hy=>hwt y (List.mem_cons_of_mem _ (List.mem_append_right _ (weightsAll_get (List.mem_map.2 ⟨_,List.getElem_mem (by omega),rfl⟩) hy)))⟩
 by_cases hc0:cap=0
 · subst hc0;obtain rfl:len=0:=by omega
   obtain⟨_,m,z,kd,i1,i3⟩:=h0;exact⟨_,[],rfl,⟨.slice0 (idI_of i3) a,rfl⟩,fun _ h=>(by cases h),fun _=>.inr ⟨b0,0,0,m,z,kd,i3,rfl,by simp,i1,by simp,Go.Ex.rowAt.nil _ _ _,.inl ⟨by decide,Nat.le_refl _⟩⟩,by decide⟩
 have hspot:a.spot=none:=by
  obtain⟨c,q1,q2⟩:=hall 0 (by omega);obtain⟨l1,l2⟩:=cells_get q1;have:=l2 0 (by omega);rw [List.getElem?_eq_getElem (by omega)]at this;have:=spot_none this
  rwa [show(a.add (0*sz)).add 0=a by rw[Nat.zero_mul];rfl]at this
 obtain⟨b,o,s⟩:=a;dsimp only at hspot;subst hspot
 have hcell:∀j,j<cap→∃c,W.cells? 0 ((⟨b,o,none⟩:Addr).add (j*sz)) sz=some c∧ElF enc W n e c∧c.length=sz∧(∀v∈c,Told b0 W v)∧∀(k:Nat) x,c[k]? = some x→W.cell? ⟨b,o+(j*sz+k),none⟩=some x:=by
  intro j hj;obtain⟨c,q1,q2⟩:=hall j hj;obtain⟨l1,l2⟩:=cells_get q1;refine⟨c,q1,q2,l1,(hE n c rfl q2).2,fun k x hk=>?_⟩;have hlt:k<c.length:=(List.getElem?_eq_some_iff.1 hk).1;have:=l2 k (by omega);rw [add_none,add_none,hk,Nat.add_assoc]at this;exact this
 obtain⟨hbs,kd,hinfo,hkd,hlast⟩:b<W.heap.size∧∃kd,yF (zF (mirH b0 W tabs) b)=some (szB W b,0,kd)∧kd≠0∧o+cap*sz≤szB W b:=by
  obtain⟨c,-,-,l1,-,l2⟩:=hcell (cap - 1) (by omega);obtain⟨q1,kd,q2,q3,q4⟩:=mir_info h0.1.1 (l2 (sz - 1) _ (List.getElem?_eq_getElem (by omega)));refine⟨q1,kd,q2,q4,?_⟩;have e1:cap*sz=(cap - 1)*sz+sz:=by rw[← Nat.succ_mul];congr 1;omega
  omega
 have hflat:((List.range len).map fun j=>(W.cells? 0 ((⟨b,o,none⟩:Addr).add (j*sz)) sz).getD []).flatten.length=len*sz:=by
  rw[flen_of _ fun c hc=>?_,List.length_map,List.length_range];obtain⟨j,hj,rfl⟩:=List.mem_map.1 hc;obtain⟨c,q1,q2,q3,-⟩:=hcell j (by have:=List.mem_range.1 hj;omega);rw [q1];exact q3
 refine⟨_,(List.range len).map fun j=>(W.cells? 0 ((⟨b,o,none⟩:Addr).add (j*sz)) sz).getD [],rfl,⟨?_,?_⟩,?_,fun _=>.inr ⟨b,o,cap,szB W b,0,kd,hbs,?_,?_,hinfo,?_,?_,.inl ⟨hinf,?_⟩⟩,?_⟩
 · rw[absV_cap hc0];exact .slice (B:=⟨b,szB W b,0⟩) (idI_of hbs) (by omega) hlc (.inl rfl)
 · rw[absV_cap hc0];rfl
 · intro c hc;obtain⟨j,hj,rfl⟩:=List.mem_map.1 hc;obtain⟨c,q1,q2,-⟩:=hcell j (by have:=List.mem_range.1 hj;omega);rw [q1];exact⟨n,rfl,q2⟩
 · rw[absV_cap hc0];simp
 · rw[List.length_map,hflat,List.length_map,List.length_range]
 · rw[List.length_map,hflat];have:=Nat.mul_le_mul_right sz hlc;omega
 · refine rowAt_flat (sz:=sz) fun j c hj=>?_;rw [List.getElem?_map]at hj
   have hlt:j<len:=by
    rcases Nat.lt_or_ge j len with h|h
    · exact h
    · rw[List.getElem?_eq_none (by simpa using h)]at hj;cases hj
   rw[List.getElem?_range hlt]at hj;obtain⟨c',q1,q2,q3,q4,q5⟩:=hcell j (by omega);obtain rfl:c'=c:=by simpa [q1] using hj
   refine⟨q3,fun k x hk=>?_⟩;obtain⟨r1,r2⟩:=q4 x (List.mem_iff_getElem?.2 ⟨k,hk⟩);exact(mir_cell h0.1.1 h0.1.2 (q5 k x hk) r1 r2).1
 · simpa using hlc
 · simp;omega
theorem flat_of{α : Type}(C: α→List Value)(Q: α→Prop):∀{ess:List (List Value)},(∀c∈ess,∃r,c.map (absV b0)=C r∧Q r)→∃l:List α,ess.flatten.map (absV b0)=l.flatMap C∧l.length=ess.length∧∀r∈l,Q r:=by
 intro ess
 induction ess with
 | nil=>intro _;exact⟨[],rfl,rfl,fun _ h=>by cases h⟩
 | cons c r ih=>
  intro h;obtain⟨l,h1,h2,h3⟩:=ih fun c hc=>h c (List.mem_cons_of_mem _ hc);obtain⟨a,g1,g2⟩:=h c (List.mem_cons_self ..);refine⟨a::l,?_,by rw[List.length_cons,List.length_cons,h2],fun x hx=>?_⟩
  · rw[List.flatten_cons,List.map_append,h1,g1];rfl
  · rcases List.mem_cons.1 hx with rfl|hx
    · exact g2
    · exact h3 x hx
theorem fm_one{α : Type}(f: α→Value)(l:List α):l.flatMap (fun x=>[f x])=l.map f:=by
 induction l with
 | nil=>rfl
 | cons a l ih=>rw [List.flatMap_cons,ih];rfl
theorem I64_told(n:Int):Told b0 W (I64 n):=⟨.int _ _,rfl⟩
theorem str_told(s:Tx):Told b0 W (str s):=⟨.string _,rfl⟩
theorem ElF.one{k:Nat}{t:TypeId}{off:Nat}{c:Value}{cs:List Value}(h:ElF enc W k t ((cs.drop off).take (P.cellsOf t)))(hz:P.cellsOf t=1)(hc:(cs.drop off).take 1=[c]):ElF enc W k t [c]:=by rw[hz,hc]at h;exact h
theorem strs_El(h0:H0 b0 W tabs){k:Nat}{cs:List Value}(h:ElF enc W k 22 cs):∃(v:Value) (l:List Tx),cs=[v]∧Told b0 W v∧RowA W.heap.size (mirH b0 W tabs) (absV b0 v) 1 l.length (l.map str)∧TxtL l:=by
 obtain⟨v,ess,h1,h2,h3,h4,h5⟩:=slice_El h0 Tryz.underlying22 (e:=9) (sz:=1) (by kernel_rfl) (Nat.le_refl _) (of_decide_eq_true (by kernel_rfl)) (fun n c _ hc=>by
  obtain⟨s,rfl,_⟩:=str_El hc;exact⟨rfl,fun v hv=>by rw[List.mem_singleton.1 hv];exact str_told s⟩) h
 obtain⟨l,g1,g2,g3⟩:=flat_of (b0:=b0) (fun s:Tx=>[str s]) (fun s=>s.length<tMax) fun c hc=>by
  obtain⟨n,_,hc⟩:=h3 c hc;obtain⟨s,rfl,hs⟩:=str_El hc;exact⟨s,rfl,hs⟩
 rw[fm_one]at g1;rw [g1,← g2]at h4;exact⟨v,l,h1,h2,h4,by omega,g3⟩
theorem zi1:P.cellsOf 3=1:=by kernel_rfl
theorem zs1:P.cellsOf 9=1:=by kernel_rfl
theorem zss1:P.cellsOf 22=1:=by kernel_rfl
theorem zbb1:P.cellsOf 24=1:=by kernel_rfl
theorem nine{l:List Value}(h:l.length=9):∃c0 c1 c2 c3 c4 c5 c6 c7 c8,l=[c0,c1,c2,c3,c4,c5,c6,c7,c8]:=by
 match l,h with
 | [c0,c1,c2,c3,c4,c5,c6,c7,c8],_=>exact⟨c0,c1,c2,c3,c4,c5,c6,c7,c8,rfl⟩
theorem zii1:P.cellsOf 23=1:=by kernel_rfl
theorem ints_El(h0:H0 b0 W tabs){k:Nat}{cs:List Value}(h:ElF enc W k 23 cs):∃(v:Value) (l:List Int),cs=[v]∧Told b0 W v∧RowA W.heap.size (mirH b0 W tabs) (absV b0 v) 1 l.length (l.map I64)∧l.length<tMax∧∀x∈l,Go64 x:=by
 obtain⟨v,ess,h1,h2,h3,h4,h5⟩:=slice_El h0 Tryz.underlying23 (e:=3) (sz:=1) (by kernel_rfl) (Nat.le_refl _) (of_decide_eq_true (by kernel_rfl)) (fun n c _ hc=>by
  obtain⟨s,rfl,_⟩:=int_El hc;exact⟨rfl,fun v hv=>by rw[List.mem_singleton.1 hv];exact I64_told s⟩) h
 obtain⟨l,g1,g2,g3⟩:=flat_of (b0:=b0) (fun s:Int=>[I64 s]) Go64 fun c hc=>by
  obtain⟨n,_,hc⟩:=h3 c hc;obtain⟨s,rfl,hs⟩:=int_El hc;exact⟨s,rfl,hs⟩
 rw[fm_one]at g1;rw [g1,← g2]at h4;exact⟨v,l,h1,h2,h4,by omega,g3⟩
theorem inss_El(h0:H0 b0 W tabs){k:Nat}{cs:List Value}(h:ElF enc W k 42 cs):∃(v:Value) (l:List InsT),cs=[v]∧Told b0 W v∧RowA W.heap.size (mirH b0 W tabs) (absV b0 v) 9 l.length (l.flatMap uE)∧l.length<tMax∧∀i∈l,InsW W.heap.size (mirH b0 W tabs) i:=by
 have hel:∀n c,ElF enc W n 41 c→c.length=9∧(∀v∈c,Told b0 W v)∧∃r:InsT,c.map (absV b0)=uE r∧InsW W.heap.size (mirH b0 W tabs) r:=by
  intro n c hc;obtain⟨hl,n',rfl,hf⟩:=struct_El Tryz.underlying41 hc;have hl:c.length=9:=hl.trans (by kernel_rfl);obtain⟨c0,c1,c2,c3,c4,c5,c6,c7,c8,rfl⟩:=nine hl;have f0:ElF enc W n' 3 [c0]:=ElF.one (off:=0) (hf 0 _ rfl) zi1 rfl;have f1:ElF enc W n' 3 [c1]:=ElF.one (off:=1) (hf 1 _ rfl) zi1 rfl;have f2:ElF enc W n' 3 [c2]:=ElF.one (off:=2) (hf 2 _ rfl) zi1 rfl;have f3:ElF enc W n' 3 [c3]:=ElF.one (off:=3) (hf 3 _ rfl) zi1 rfl;have f4:ElF enc W n' 3 [c4]:=ElF.one (off:=4) (hf 4 _ rfl) zi1 rfl;have f5:ElF enc W n' 9 [c5]:=ElF.one (off:=5) (hf 5 _ rfl) zs1 rfl;have f6:ElF enc W n' 23 [c6]:=ElF.one (off:=6) (hf 6 _ rfl) zii1 rfl;have f7:ElF enc W n' 3 [c7]:=ElF.one (off:=7) (hf 7 _ rfl) zi1 rfl;have f8:ElF enc W n' 3 [c8]:=ElF.one (off:=8) (hf 8 _ rfl) zi1 rfl;obtain⟨n0,e0,g0⟩:=int_El f0;obtain⟨n1,e1,g1⟩:=int_El f1;obtain⟨n2,e2,g2⟩:=int_El f2;obtain⟨n3,e3,g3⟩:=int_El f3;obtain⟨n4,e4,g4⟩:=int_El f4;obtain⟨s5,e5,g5⟩:=str_El f5;obtain⟨v6,l6,e6,t6,r6,x6,y6⟩:=ints_El h0 f6;obtain⟨n7,e7,g7⟩:=int_El f7;obtain⟨n8,e8,g8⟩:=int_El f8
  injection e0 with e0 _;injection e1 with e1 _;injection e2 with e2 _;injection e3 with e3 _;injection e4 with e4 _;injection e5 with e5 _;injection e6 with e6 _;injection e7 with e7 _;injection e8 with e8 _
  subst e0 e1 e2 e3 e4 e5 e6 e7 e8;refine⟨rfl,fun v hv=>?_,⟨n0,n1,n2,n3,n4,s5,absV b0 c6,l6,n7,n8⟩,rfl,⟨r6,x6,g5,g4⟩⟩;simp only[List.mem_cons,List.not_mem_nil,or_false]at hv;rcases hv with rfl|rfl|rfl|rfl|rfl|rfl|rfl|rfl|rfl
  all_goals first|exact I64_told _|exact str_told _|exact t6
 obtain⟨v,ess,h1,h2,h3,h4,h5⟩:=slice_El h0 Tryz.underlying42 (e:=41) (sz:=9) (by kernel_rfl) (by decide) (of_decide_eq_true (by kernel_rfl)) (fun n c _ hc=>⟨(hel n c hc).1,(hel n c hc).2.1⟩) h
 obtain⟨l,g1,g2,g3⟩:=flat_of (b0:=b0) uE (InsW W.heap.size (mirH b0 W tabs)) fun c hc=>by
  obtain⟨n,e,hc⟩:=h3 c hc;exact(hel n c hc).2.2
 rw[g1,← g2]at h4;exact⟨v,l,h1,h2,h4,by omega,g3⟩
def BlkW(b0:Nat)(W:World)(tabs:List (Nat×List Value))(x:Value×List InsT):Prop:=RowA W.heap.size (mirH b0 W tabs) x.1 9 x.2.length (x.2.flatMap uE)∧x.2.length<tMax∧∀i∈x.2,InsW W.heap.size (mirH b0 W tabs) i
theorem blks_El(h0:H0 b0 W tabs){k:Nat}{cs:List Value}(h:ElF enc W k 24 cs):∃(v:Value) (l:List (Value×List InsT)),cs=[v]∧Told b0 W v∧RowA W.heap.size (mirH b0 W tabs) (absV b0 v) 1 l.length (l.map (·.1))∧l.length<tMax∧∀x∈l,BlkW b0 W tabs x:=by
 obtain⟨v,ess,h1,h2,h3,h4,h5⟩:=slice_El h0 Tryz.underlying24 (e:=42) (sz:=1) (by kernel_rfl) (Nat.le_refl _) (of_decide_eq_true (by kernel_rfl)) (fun n c _ hc=>by
  obtain⟨s,_,rfl,hs,_⟩:=inss_El h0 hc;exact⟨rfl,fun v hv=>by rw[List.mem_singleton.1 hv];exact hs⟩) h
 obtain⟨l,g1,g2,g3⟩:=flat_of (b0:=b0) (fun s:Value×List InsT=>[s.1]) (BlkW b0 W tabs) fun c hc=>by
  obtain⟨n,_,hc⟩:=h3 c hc;obtain⟨s,l,rfl,_,q1,q2,q3⟩:=inss_El h0 hc;exact⟨(absV b0 s,l),rfl,q1,q2,q3⟩
 rw[fm_one]at g1;rw [g1,← g2]at h4;exact⟨v,l,h1,h2,h4,by omega,g3⟩
theorem five{l:List Value}(h:l.length=5):∃c0 c1 c2 c3 c4,l=[c0,c1,c2,c3,c4]:=by
 match l,h with
 | [c0,c1,c2,c3,c4],_=>exact⟨c0,c1,c2,c3,c4,rfl⟩
theorem fun_El(h0:H0 b0 W tabs){k:Nat}{cs:List Value}(h:ElF enc W k 26 cs):(∀v∈cs,Told b0 W v)∧∃F:FunT,cs.map (absV b0)=funC F∧FunQ W.heap.size (mirH b0 W tabs) F∧FunS F:=by
 obtain⟨hl,n,rfl,hf⟩:=struct_El Tryz.underlying26 h;have hl:cs.length=5:=hl.trans (by kernel_rfl);obtain⟨c0,c1,c2,c3,c4,rfl⟩:=five hl;have f0:ElF enc W n 9 [c0]:=ElF.one (off:=0) (hf 0 _ rfl) zs1 rfl;have f1:ElF enc W n 22 [c1]:=ElF.one (off:=1) (hf 1 _ rfl) zss1 rfl;have f2:ElF enc W n 23 [c2]:=ElF.one (off:=2) (hf 2 _ rfl) zii1 rfl;have f3:ElF enc W n 9 [c3]:=ElF.one (off:=3) (hf 3 _ rfl) zs1 rfl;have f4:ElF enc W n 24 [c4]:=ElF.one (off:=4) (hf 4 _ rfl) zbb1 rfl;obtain⟨s0,e0,g0⟩:=str_El f0;obtain⟨v1,l1,e1,t1,r1,x1⟩:=strs_El h0 f1;obtain⟨v2,l2,e2,t2,r2,x2,y2⟩:=ints_El h0 f2;obtain⟨s3,e3,g3⟩:=str_El f3;obtain⟨v4,l4,e4,t4,r4,x4,y4⟩:=blks_El h0 f4;injection e0 with e0 _;injection e1 with e1 _;injection e2 with e2 _;injection e3 with e3 _;injection e4 with e4 _
 subst e0 e1 e2 e3 e4;refine⟨fun v hv=>?_,⟨s0,absV b0 c1,l1,absV b0 c2,l2,s3,absV b0 c4,l4⟩,rfl,⟨r1 _,r2 _,r4 _,fun x hx=>(y4 x hx).1 _,fun x hx i hi=>((y4 x hx).2.2 i hi).ar _⟩,⟨g0,g3,x1.1,x1.2,x2,y2,x4,fun x hx=>(y4 x hx).2.1,fun x hx i hi=>have q:=(y4 x hx).2.2 i hi;⟨q.al,q.nl,q.gn⟩⟩⟩;simp only[List.mem_cons,List.not_mem_nil,or_false]at hv;rcases hv with rfl|rfl|rfl|rfl|rfl
 all_goals first|exact str_told _|exact t1|exact t2|exact t4
end
end Go.Proofs.YtdipdkkpgjdnkaaGreatDoor
