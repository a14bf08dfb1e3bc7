/- What the law leans on: an executor of the model that is sound, deduction over it, and the walks through the code (part 12 of 24). Conditions: those that each theorem states. -/
import Derived.Test.YtdipdkkpgjdnkaaGreatDoorVirLinesx11

set_option linter.unusedVariables false
set_option linter.unusedSimpArgs false
namespace Go.Ex
abbrev KH:=zB→Nat→Value→Bool
noncomputable def eAppend(P:Program)(tys:List TypeId)(args:List Value)(h:zB)(n:Nat)(K:KH):Bool:=xappend P tys args h n fun v h n=>K h n v
noncomputable def apTB(P:Program)(sT xT el sz:Nat):Bool:=
 match und P sT,und P xT with
 | some (.slice e), some xd => match xd with
  | .int _=>false
  | _=>match inf? P e,yT P e with
   | some ei,some z=>Nat.beq e el && (Nat.beq ei.size sz && (Nat.beq (cellsOf z).length sz && (Nat.blt 0 sz && Nat.blt ei.bytes 100000)))
   | _,_=>false
 | _,_=>false
theorem apTB_of{P:Program}{sT xT e sz:Nat}(h:apTB P sT xT e sz=true):∃xd ei z,und P sT=some (.slice e)∧und P xT=some xd∧(∀k,xd≠.int k)∧inf? P e=some ei∧yT P e=some z∧ei.size=sz∧(cellsOf z).length=sz∧0<sz∧ei.bytes<100000:=by
 unfold apTB at h;split at h
 · rename_i e' xd h1 h2;split at h
   · cases h
   · rename_i hne;split at h
     · rename_i ei z h3 h4;obtain⟨a0,hrest⟩:=Bool.and_eq_true_iff.1 h;obtain rfl:=zG a0;obtain⟨a1,a2⟩:=Bool.and_eq_true_iff.1 hrest;obtain⟨a2,a3⟩:=Bool.and_eq_true_iff.1 a2;obtain⟨a3,a4⟩:=Bool.and_eq_true_iff.1 a3;exact⟨xd,ei,z,h1,h2,fun k hk=>hne k hk,h3,h4,zG a1,zG a2,zY a3,zY a4⟩
     · cases h
 · cases h
def Own(lo n:Nat)(h:zB)(v:Value)(e sz:Nat)(len:Nat)(vs:List Value):Prop:=
 (v = .slice none 0 0∧len=0∧vs=[])∨∃b,lo≤b∧b<n∧v = .slice (some ⟨b,0,none⟩) len inf∧yF (zF h b)=some (vs.length,zc e sz,1)∧vs.length=len*sz∧0<len∧∀i,zD h b i=vs[i]?
def Row(n:Nat)(h:zB)(v:Value)(e sz len:Nat)(vs:List Value):Prop:=
 (v = .slice none 0 0∧len=0∧vs=[])∨∃b off cap m z kd,b<n∧v = .slice (some ⟨b,off,none⟩) len cap∧vs.length=len*sz∧yF (zF h b)=some (m,z,kd)∧off+vs.length≤m∧rowAt h b off vs∧((cap<inf∧len≤cap)∨(cap=inf∧kd=1∧z=zc e sz∧1≤sz))
def yE:Value→Option Nat
 | .slice (some a) _ _=>some a.block
 | _=>none
theorem row_of{n:Nat}{h:zB}{v:Value}{e sz len:Nat}{vs:List Value}(r:Row n h v e sz len vs):rowOf h sz len v=some vs∧lenV v=some len∧strFits sz v=true:=by
 rcases r with⟨rfl,rfl,rfl⟩|⟨b,off,cap,m,z,kd,hb,rfl,hl,hi,hm,hr⟩
 · exact⟨rfl,rfl,rfl⟩
 · refine⟨?_,rfl,rfl⟩;obtain⟨hr,hcap⟩:=hr;unfold rowAt zD at hr;unfold rowOf;dsimp only;have e1:Nat.mul len sz=vs.length:=hl.symm
   have e:∀kn,kn=m→(Nat.ble len len && Nat.ble (Nat.add off (Nat.mul len sz)) kn)=true:=fun kn hk=>by
    rw[e1,wQ (Nat.le_refl _),hk,wQ (show Nat.add off vs.length≤m from hm)];rfl
   cases hg:zF h b <;> rw[hg]at hi <;> first|(cases hi;done)|skip
   · rename_i c kn z' kd';injection hi with hi
     injection hi with h1 h2
     rw[hg]at hr;dsimp only;rw [e kn h1,e1];show some (c.toListFrom undef off vs.length)=some vs;rw [row_list (fun i v e=>cells_cell e) hr]
   · rename_i c kn;injection hi with hi
     injection hi with h1 h2
     rw[hg]at hr;dsimp only;rw [e kn h1,e1];show knownL (c.toListFrom undef off vs.length)=some vs;rw [row_list (fun i v e=>(rows_cell e).1) hr];exact knownL_of (rows_known hr)
section
variable {P:Program}
theorem appended_of{sz n:Nat}{h:zB}{e:TypeId}{xd:TypeDesc}(hne:∀k,xd≠.int k){x:Value}{m:Nat}{new:List Value}(r:Row n h x e sz m new):xR P h e sz xd x=some (m,new):=by
 obtain⟨r1,r2,r3⟩:=row_of r;unfold xR;split
 · rename_i k;exact absurd rfl (hne k)
 · rw[r2];dsimp only;rw [r3,r1];rfl
theorem append_own0{sT xT e sz lo n len m:Nat}{h:zB}{v x:Value}{vs new:List Value}{K:KH}(hT:apTB P sT xT e sz=true)(ho:Own lo n h v e sz len vs)(hlo:lo≤n)(hap0:∀xd,(∀k,xd≠.int k)→xR P h e sz xd x=some (m,new))(hnew:new.length=m*sz)(h1:∀y∈new,y.oneCell'=true)
(hlim:len+m<1000000)(hK:∀v' h' n',Own lo n' h' v' e sz (len+m) (vs++new)→n≤n'→(∀b,b<n→yE v≠some b→zF h' b=zF h b)→K h' n' v'=true):eAppend P [sT,xT] [v,x] h n K=true:=by
 obtain⟨xd,ei,z,t1,t2,t3,t4,t5,t6,t7,t8,t9⟩:=apTB_of hT;have hap:xR P h e ei.size xd x=some (m,new):=by rw[t6];exact hap0 _ t3
 unfold eAppend xappend
 obtain⟨base,cap,hv⟩:∃base cap,v = .slice base len cap:=by
  rcases ho with⟨rfl,rfl,rfl⟩|⟨b,_,_,rfl,_⟩
  · exact⟨_,_,rfl⟩
  · exact⟨_,_,rfl⟩
 subst hv;dsimp only;rw [t1,t2];dsimp only;rw [t4,t5];dsimp only;rw [hap];dsimp only
 have c1:(Nat.beq ei.size 0 || !Nat.beq (cellsOf z).length ei.size || !Nat.blt (Nat.add len m) 1000000 || !Nat.blt ei.bytes 100000)=false:=by
  have a1:Nat.beq ei.size 0=false:=by
   cases e9:Nat.beq ei.size 0 with
   | false=>rfl
   | true=>have:=zG e9;omega
  have a2:Nat.beq (cellsOf z).length ei.size=true:=by rw[t7,t6];exact Nat.beq_refl _
  rw[a1,a2,xO (show Nat.add len m<1000000 from hlim),xO t9];rfl
 rw[c1];show cond (Nat.beq m 0 && !Nat.beq cap 0 && (Nat.beq cap inf || Nat.ble len cap)) _ _=true;by_cases hm:m=0
 · subst hm;have hn0:new=[]:=List.length_eq_zero_iff.1 (by simpa using hnew);subst hn0;rcases ho with⟨hv,rfl,rfl⟩|⟨b,q1,q2,hv,q3,q4,q5,q6⟩
   · injection hv with hv1 _ hv2
     subst hv1 hv2;show K h n (.slice none 0 0)=true;exact hK _ _ _ (.inl ⟨rfl,rfl,rfl⟩) (Nat.le_refl _) fun _ _ _=>rfl
   · injection hv with hv1 _ hv2
     subst hv1 hv2;show K h n (.slice (some ⟨b,0,none⟩) len inf)=true;refine hK _ _ _ (.inr ⟨b,q1,q2,rfl,?_⟩) (Nat.le_refl _) fun _ _ _=>rfl;rw [List.append_nil];exact⟨q3,q4,q5,q6⟩
 · have hm0:Nat.beq m 0=false:=by
    cases e9:Nat.beq m 0 with
    | false=>rfl
    | true=>exact absurd (zG e9) hm
   rw[hm0];show cond (Nat.beq cap inf) _ _=true;rcases ho with⟨hv,rfl,rfl⟩|⟨b,q1,q2,hv,q3,q4,q5,q6⟩
   · injection hv with hv1 _ hv2
     subst hv1 hv2;have hb0:Nat.beq 0 inf=false:=by decide
     rw[hb0];dsimp only[cond_false];unfold growEx
     have b1:Nat.ble (Nat.add 0 m) 0=false:=by
      cases e9:Nat.ble (Nat.add 0 m) 0 with
      | false=>rfl
      | true=>
       have h9:Nat.add 0 m≤0:=yQ e9;have h10:0+m≤0:=h9;omega
     rw[b1];show wG .lF 0 ([]++new) _=true;refine vN h1 ?_;rw [yJ]
     have hne:Nat.mul (Nat.add 0 m) ei.size=new.length:=by
      have:Nat.add 0 m=m:=Nat.zero_add m;rw [this,t6];exact hnew.symm
     rw[hne,t6];have hz:Nat.add 0 m=m:=Nat.zero_add m;rw [hz];have hpos:0<m:=by omega
     refine hK _ _ _ (.inr ⟨n,hlo,Nat.lt_succ_self n,by rw[Nat.zero_add],?_,?_,by omega,fun i=>?_⟩) (Nat.le_succ n) fun b hb _=>?_
     · rw[zK,if_pos rfl];rfl
     · simpa using hnew
     · unfold zD;rw [zK,if_pos rfl];exact wK new (zc e sz) 1 i
     · rw[zK,if_neg (by omega)]
   · injection hv with hv1 _ hv2
     subst hv1 hv2;have hb1:Nat.beq inf inf=true:=Nat.beq_refl inf;rw [hb1];show growOpen h n b len m ei.size (zc e ei.size) new (fun v h n=>K h n v)=true;unfold growOpen;cases hg:zF h b <;> rw[hg]at q3 <;> first|(cases q3;done)|(exact absurd (kd_of q3) (by decide))|skip
     rename_i c kn z' kd';have q3':some (kn,z',kd')=some (vs.length,zc e sz,1):=q3;simp only[Option.some.injEq,Prod.mk.injEq]at q3';obtain⟨rfl,rfl,rfl⟩:=q3';show cond (Nat.beq (zc e sz) (zc e ei.size)) _ _=true;have e5:Nat.beq (zc e sz) (zc e ei.size)=true:=by rw[t6];exact Nat.beq_refl _
     rw[e5];have hml:Nat.mul len ei.size=vs.length:=by rw[t6];exact q4.symm
     have e6:Nat.ble (Nat.mul (Nat.add len m) ei.size) vs.length=false:=by
      cases e9:Nat.ble (Nat.mul (Nat.add len m) ei.size) vs.length with
      | false=>rfl
      | true=>
       have h9:(len+m)*ei.size≤vs.length:=yQ e9;rw [t6,q4,Nat.add_mul]at h9;have:0<m*sz:=Nat.mul_pos (by omega) t8;omega
     rw[e6,hml,wQ (Nat.le_refl _)];show wG c vs.length new _=true;refine vN h1 ?_;rw [Tr.setK_eq,yJ]
     have hmm:Nat.mul (Nat.add len m) ei.size=(vs++new).length:=by
      rw[t6,List.length_append,q4,hnew];exact Nat.add_mul len m sz
     rw[hmm];refine hK _ _ _ (.inr ⟨n,hlo,Nat.lt_succ_self n,rfl,?_,?_,by omega,fun i=>?_⟩) (Nat.le_succ n) fun b' hb hne=>?_
     · rw[zK,if_pos rfl];rfl
     · rw[List.length_append,q4,hnew,Nat.add_mul]
     · unfold zD;rw [zK,if_pos rfl];unfold xN;dsimp only;have q6':=q6 i;unfold zD at q6';rw [hg]at q6';unfold xN at q6';dsimp only at q6';by_cases hi:i<vs.length
       · rw[if_pos hi]at q6';rw [if_pos (by rw[List.length_append];omega),Tr.get_ofListFrom,if_neg (by omega),q6',List.getElem?_append_left hi]
       · rw[List.getElem?_append_right (by omega)];by_cases hi2:i<(vs++new).length
         · rw[List.length_append]at hi2;rw [if_pos (by rw[List.length_append];omega),Tr.get_ofListFrom,if_pos (by omega)];simp [List.getElem?_eq_getElem (show i - vs.length<new.length by omega),List.getD_eq_getElem?_getD]
         · rw[List.length_append]at hi2;rw [if_neg (by rw[List.length_append];omega),List.getElem?_eq_none (by omega)]
     · have hbb:b≠b':=fun e=>hne (by rw[e];rfl);rw [zK,if_neg (by omega),zK,if_neg hbb]
theorem append_own{sT xT e sz lo n len m:Nat}{h:zB}{v x:Value}{vs new:List Value}{K:KH}(hT:apTB P sT xT e sz=true)(ho:Own lo n h v e sz len vs)(hlo:lo≤n)(hr:Row n h x e sz m new)(hnew:new.length=m*sz)(h1:∀y∈new,y.oneCell'=true)
(hlim:len+m<1000000)(hK:∀v' h' n',Own lo n' h' v' e sz (len+m) (vs++new)→n≤n'→(∀b,b<n→yE v≠some b→zF h' b=zF h b)→K h' n' v'=true):eAppend P [sT,xT] [v,x] h n K=true:=
 append_own0 hT ho hlo (fun _ hne=>appended_of hne hr) hnew h1 hlim hK
theorem append_text{sT xT e lo n len:Nat}{h:zB}{v:Value}{vs:List Value}{l:List UInt8}{K:KH}(hT:apTB P sT xT e 1=true)(ho:Own lo n h v e 1 len vs)(hlo:lo≤n)
(hlim:len+l.length<1000000)(hK:∀v' h' n',Own lo n' h' v' e 1 (len+l.length) (vs++l.map fun b=>Value.int .u8 (b.toNat:Nat))→n≤n'→(∀b,b<n→yE v≠some b→zF h' b=zF h b)→K h' n' v'=true):eAppend P [sT,xT] [v,.string ⟨⟨l⟩⟩] h n K=true:=by
 refine append_own0 hT ho hlo (fun xd hne=>?_) (by simp) (fun y hy=>?_) hlim hK
 · unfold xR;split
   · rename_i k;exact absurd rfl (hne k)
   · have e1:lenV (.string ⟨⟨l⟩⟩)=some l.length:=rfl
     have e2:rowOf h 1 l.length (.string ⟨⟨l⟩⟩)=some (l.map fun b=>Value.int .u8 (b.toNat:Nat)):=by
      show some ((l.take l.length).map fun b=>Value.int .u8 (.ofNat b.toNat))=_;rw [List.take_length];rfl
     have e3:strFits 1 (.string ⟨⟨l⟩⟩)=true:=rfl;rw [e1];dsimp only;rw [e3,e2];rfl
 · obtain⟨b,_,rfl⟩:=List.mem_map.1 hy;rfl
theorem Own.row{lo n:Nat}{h:zB}{v:Value}{e sz len:Nat}{vs:List Value}(o:Own lo n h v e sz len vs)(hsz:1≤sz):Row n h v e sz len vs:=by
 rcases o with⟨rfl,rfl,rfl⟩|⟨b,q1,q2,rfl,q3,q4,q5,q6⟩
 · exact .inl ⟨rfl,rfl,rfl⟩
 · exact .inr ⟨b,0,inf,vs.length,zc e sz,1,q2,rfl,q4,q3,by omega,fun j v e=>by rw[q6,Nat.zero_add];exact e,.inr ⟨rfl,rfl,rfl,hsz⟩⟩
theorem Row.keep{n:Nat}{h:zB}{v:Value}{e sz len:Nat}{vs:List Value}(r:Row n h v e sz len vs){h':zB}{n':Nat}(hn:n≤n')(ek:∀b,yE v=some b→zF h' b=zF h b):Row n' h' v e sz len vs:=by
 rcases r with⟨rfl,rfl,rfl⟩|⟨b,off,cap,m,z,kd,hb,rfl,hl,hi,hm,hr,hc⟩
 · exact .inl ⟨rfl,rfl,rfl⟩
 · have he:=ek b rfl;exact .inr ⟨b,off,cap,m,z,kd,Nat.lt_of_lt_of_le hb hn,rfl,hl,by rw[he];exact hi,hm,fun j v e=>by unfold zD;rw [he];exact hr j v e,hc⟩
theorem Own.keep{lo n:Nat}{h:zB}{v:Value}{e sz len:Nat}{vs:List Value}(r:Own lo n h v e sz len vs){h':zB}{n':Nat}(hn:n≤n')(ek:∀b,yE v=some b→zF h' b=zF h b):Own lo n' h' v e sz len vs:=by
 rcases r with⟨rfl,rfl,rfl⟩|⟨b,q1,q2,rfl,q3,q4,q5,q6⟩
 · exact .inl ⟨rfl,rfl,rfl⟩
 · have he:=ek b rfl;exact .inr ⟨b,q1,Nat.lt_of_lt_of_le q2 hn,rfl,by rw[he];exact q3,q4,q5,fun i=>by unfold zD;rw [he];exact q6 i⟩
theorem slice_from{n:Nat}{h:zB}{v:Value}{e sz len:Nat}{vs:List Value}{ty:TypeId}{ei:TypeInfo}(hu:und P ty=some (.slice e))(hi:inf? P e=some ei)(hs:ei.size=sz)(r:Row n h v e sz len vs){k:IntKind}{i:Nat}(hle:i≤len) :
 ∃v',yZ P h ty v (some (.int k (i:Nat))) none none=some v'∧Row n h v' e sz (len - i) (vs.drop (i*sz))∧(yE v'=yE v):=by
 rcases r with⟨rfl,rfl,rfl⟩|⟨b,off,cap,m,z,kd,hb,rfl,hl,hi2,hm,hr,hc⟩
 · obtain rfl:i=0:=by omega
   refine⟨.slice none 0 0,?_,.inl ⟨rfl,rfl,by simp⟩,rfl⟩;unfold yZ;rw [hu];dsimp only;rw [hi];rfl
 · have hdl:(vs.drop (i*sz)).length=(len - i)*sz:=by rw[List.length_drop,hl,Nat.sub_mul]
   have hrd:∀off',off'=off+i*sz→rowAt h b off' (vs.drop (i*sz)):=fun off' e j v hj=>by
    subst e;rw [List.getElem?_drop]at hj;have:=hr _ v hj;rw [← this];congr 1;omega
   have hle2:i*sz≤len*sz:=Nat.mul_le_mul_right _ hle;rcases hc with⟨hc1,hc2⟩|⟨rfl,rfl,rfl,hsz⟩
   · have hci:Nat.beq cap inf=false:=by
      cases e9:Nat.beq cap inf with
      | false=>rfl
      | true=>have:=zG e9;omega
     have b1:zX 0 len (some (.int k (i:Nat)))=some i:=by
      show(cond (Nat.ble i len) (some i) none:Option Nat)=some i;rw [wQ hle];rfl
     have main:yZ P h ty (.slice (some ⟨b,off,none⟩) len cap) (some (.int k (i:Nat))) none none=some (Value.slice (some (cond (Nat.beq cap i) ⟨b,off,none⟩ (far ⟨b,off,none⟩ (Nat.mul i sz)))) (Nat.sub len i) (Nat.sub cap i)):=by
      unfold yZ;rw [hu];dsimp only;rw [hi];dsimp only;rw [hci];show vI ⟨b,off,none⟩ len cap ei.size (some (.int k (i:Nat))) none none=_;unfold vI
      show((match zX len cap none with
       | none=>none
       | some h=>match zX 0 h (some (.int k (i:Nat))) with
        | none=>none
        | some l=>cond (Nat.blt cap inf && Nat.ble h cap) (some (Value.slice (some (cond (Nat.beq cap l) ⟨b,off,none⟩ (far ⟨b,off,none⟩ (Nat.mul l ei.size)))) (Nat.sub h l) (Nat.sub cap l))) none):Option Value)=_
      show((match zX 0 len (some (.int k (i:Nat))) with
       | none=>none
       | some l=>cond (Nat.blt cap inf && Nat.ble len cap) (some (Value.slice (some (cond (Nat.beq cap l) ⟨b,off,none⟩ (far ⟨b,off,none⟩ (Nat.mul l ei.size)))) (Nat.sub len l) (Nat.sub cap l))) none):Option Value)=_
      rw[b1];dsimp only;rw [xO hc1,wQ hc2,hs];rfl
     refine⟨_,main,?_,?_⟩
     · cases e9:Nat.beq cap i with
       | true=>
        have:=zG e9;obtain rfl:i=len:=by omega
        refine .inr ⟨b,off,Nat.sub cap i,m,z,kd,hb,rfl,hdl,hi2,?_,fun j v hj=>?_,.inl ⟨?_,?_⟩⟩
        · rw[hdl];have:i - i=0:=Nat.sub_self i;rw [this];omega
        · have:(vs.drop (i*sz)).length=0:=by rw[hdl,Nat.sub_self,Nat.zero_mul]
          rw[List.length_eq_zero_iff.1 this]at hj;simp at hj
        · show cap - i<inf;omega
        · show i - i≤cap - i;omega
       | false=>
        refine .inr ⟨b,off+i*sz,Nat.sub cap i,m,z,kd,hb,rfl,hdl,hi2,?_,hrd _ rfl,.inl ⟨?_,?_⟩⟩
        · rw[hdl,Nat.sub_mul];omega
        · show cap - i<inf;omega
        · show len - i≤cap - i;omega
     · cases Nat.beq cap i <;> rfl
   · have b1:zX 0 len (some (.int k (i:Nat)))=some i:=by
      show(cond (Nat.ble i len) (some i) none:Option Nat)=some i;rw [wQ hle];rfl
     have hci:Nat.beq inf inf=true:=Nat.beq_refl _
     have main:yZ P h ty (.slice (some ⟨b,off,none⟩) len inf) (some (.int k (i:Nat))) none none=some (Value.slice (some (far ⟨b,off,none⟩ (Nat.mul i sz))) (Nat.sub len i) inf):=by
      unfold yZ;rw [hu];dsimp only;rw [hi];dsimp only;rw [hci];cases hg:zF h b <;> rw[hg]at hi2 <;> first|(cases hi2;done)|(exact absurd (kd_of hi2) (by decide))|skip
      rename_i c kn z' kd';have q3':some (kn,z',kd')=some (m,zc e sz,1):=hi2;simp only[Option.some.injEq,Prod.mk.injEq]at q3';obtain⟨rfl,rfl,rfl⟩:=q3';show cond (Nat.beq (zc e sz) (zc e ei.size) && Nat.ble 1 ei.size) (aSliceOp ⟨b,off,none⟩ len ei.size (some (.int k (i:Nat))) none none) none=_;rw [hs,Nat.beq_refl,wQ hsz]
      show((match zX 0 len (some (.int k (i:Nat))) with
       | none=>none
       | some l=>some (Value.slice (some (far ⟨b,off,none⟩ (Nat.mul l sz))) (Nat.sub len l) inf)):Option Value)=_
      rw[b1]
     refine⟨_,main,.inr ⟨b,off+i*sz,inf,m,zc e sz,1,hb,rfl,hdl,hi2,?_,hrd _ rfl,.inr ⟨rfl,rfl,rfl,hsz⟩⟩,rfl⟩;rw [hdl,Nat.sub_mul];omega
end
section
variable {P:Program}
end
end Go.Ex
namespace Go.Ex
theorem TmR.same{ρ : Inj}{N:Nat}{t t2:Fr}{ts:Array Value}(h:∀i,fget t2 i=fget t i)(r:TmR ρ N t ts):TmR ρ N t2 ts:=⟨r.sz,fun i v e=>by rw[h i];exact r.tm i v e⟩
section
variable {P:Program} {ng:Nat}
theorem CodeTo.pre{c:Code}{cx:Cx}{t t2 t':Fr}{w w':W}{x:AX}(h:∀i,fget t2 i=fget t i)(r:CodeTo P ng c cx t2 w x t' w'):CodeTo P ng c cx t w x t' w':=fun hc b k ρ base w0 a wd cs hI=>
 r hc b k ρ base w0 a wd cs ⟨hI.fn,hI.kind,hI.rd,hI.rdf,hI.tm.same h,hI.hp,hI.dr,hI.ur,hI.fnd⟩
theorem WC.pre{c:Code}{cx:Cx}{t t2:Fr}{w:W}{Q:QX}(h:∀i,fget t2 i=fget t i)(r:WC P ng c cx t2 w Q):WC P ng c cx t w Q:=by
 obtain⟨x,t',w',q,r⟩:=r;exact⟨x,t',w',q,r.pre h⟩
def Slots(l:List (Nat×Value))(t:Fr):List (Nat×Value)→Prop
 | []=>True
 | p::r=>lk l t p.1=p.2∧Slots l t r
theorem Slots.lk{l:List (Nat×Value)}{t:Fr}:∀{s:List (Nat×Value)},Slots l t s→∀i,Go.Ex.lk s (FA l t) i=Go.Ex.lk l t i:=by
 intro s
 induction s with
 | nil=>intro _ i;exact fget_FA l t i
 | cons p r ih=>
  rintro ⟨h1,h2⟩ i
  show(bif Nat.beq p.1 i then p.2 else Go.Ex.lk r (FA l t) i)=_
  cases e:Nat.beq p.1 i with
  | true=>rw [← zG e,h1];rfl
  | false=>exact ih h2 i
theorem Slots.fget{l s:List (Nat×Value)}{t:Fr}(h:Slots l t s):∀i,fget (FA s (FA l t)) i=Go.Ex.fget (FA l t) i:=fun i=>by rw[fget_FA,fget_FA,h.lk]
def Rnd{α : Type}(l:List (Nat×Value))(t:Fr)(I: α→List (Nat×Value))(J: α→zB→Nat→Prop)(m: α→Nat)(a: α)(h:zB)(n:Nat):Prop:=∃a',m a'<m a∧Slots l t (I a')∧J a' h n
theorem rnd{α : Type}{l:List (Nat×Value)}{t:Fr}{I: α→List (Nat×Value)}{J: α→zB→Nat→Prop}{m: α→Nat}{a: α}{h:zB}{n:Nat}(a': α)(hJ:J a' h n)(h1:m a'<m a:=by first|omega|(dsimp only;omega))(h2:Slots l t (I a'):=by repeat' first|exact trivial|refine⟨rfl,?_⟩):Rnd l t I J m a h n:=⟨a',h1,h2,hJ⟩
def lpQ{α : Type}(I: α→List (Nat×Value))(J: α→zB→Nat→Prop)(m: α→Nat)(a: α)(d:List Deferred)(u:Option zJ)(Q:QX):QX:=fun x t w=>match x with
 | .normal=>∃a',m a'<m a∧(∀i,fget (FA (I a') t) i=fget t i)∧∃h n,w=⟨d,u,h,n⟩∧J a' h n
 | x=>Q x t w
theorem lpR{b:Code}{cx:Cx}{Q:QX}{l:List (Nat×Value)}{t:Fr}{d:List Deferred}{u:Option zJ}{h:zB}{n:Nat}{α : Type}(I: α→List (Nat×Value))(J: α→zB→Nat→Prop)(m: α→Nat)(a0: α)(hJ:J a0 h n)
(step:∀a t h n,J a h n→WC P ng b cx (FA (I a) t) ⟨d,u,h,n⟩ (lpQ I J m a d u Q))(h0:Slots l t (I a0):=by repeat' first|exact trivial|refine⟨rfl,?_⟩):WC P ng (.loop b) cx (FA l t) ⟨d,u,h,n⟩ Q:=by
 refine wc_loop (α := α) (fun a t w=>(∀i,fget (FA (I a) t) i=fget t i)∧∃h n,w=⟨d,u,h,n⟩∧J a h n) m ?_ a0 _ _ ⟨h0.fget,h,n,rfl,hJ⟩
 rintro a t w ⟨h1,h,n,rfl,h2⟩
 refine((step a t h n h2).pre h1).mono fun x t' w' q=>?_
 cases x with
 | normal=>exact q
 | exit i=>exact q
 | goto i=>exact q
 | ret=>exact q
 | panic c=>exact q
section
variable {α : Type} {I: α→List (Nat×Value)} {J: α→zB→Nat→Prop} {m: α→Nat} {a: α} {d:List Deferred} {u:Option zJ} {Q:QX} {l:List (Nat×Value)} {t:Fr} {h:zB} {n:Nat} {w:W}
instance:Stp (lpQ I J m a d u Q .normal (FA l t) ⟨d,u,h,n⟩) (Rnd l t I J m a h n):=⟨fun⟨a',h1,h2,h3⟩=>⟨a',h1,h2.fget,h,n,rfl,h3⟩⟩
instance {i:Nat}:Stp (lpQ I J m a d u Q (.exit i) t w) (Q (.exit i) t w):=⟨id⟩
instance:Stp (lpQ I J m a d u Q .ret t w) (Q .ret t w):=⟨id⟩
instance {c:zJ}:Stp (lpQ I J m a d u Q (.panic c) t w) (Q (.panic c) t w):=⟨id⟩
def cutQ{α : Type}(I: α→List (Nat×Value))(J: α→zB→Nat→Prop)(d:List Deferred)(u:Option zJ)(Q:QX):QX:=fun x t w=>match x with
 | .normal=>∃a,(∀i,fget (FA (I a) t) i=fget t i)∧∃h n,w=⟨d,u,h,n⟩∧J a h n
 | x=>Q x t w
def Btw{α : Type}(l:List (Nat×Value))(t:Fr)(I: α→List (Nat×Value))(J: α→zB→Nat→Prop)(h:zB)(n:Nat):Prop:=∃a,Slots l t (I a)∧J a h n
instance:Stp (cutQ I J d u Q .normal (FA l t) ⟨d,u,h,n⟩) (Btw l t I J h n):=⟨fun⟨a',h2,h3⟩=>⟨a',h2.fget,h,n,rfl,h3⟩⟩
instance {i:Nat}:Stp (cutQ I J d u Q (.exit i) t w) (Q (.exit i) t w):=⟨id⟩
instance:Stp (cutQ I J d u Q .ret t w) (Q .ret t w):=⟨id⟩
instance {c:zJ}:Stp (cutQ I J d u Q (.panic c) t w) (Q (.panic c) t w):=⟨id⟩
theorem cut{α : Type}{c:Code}{cx:Cx}{Q:QX}{l:List (Nat×Value)}{t:Fr}{d:List Deferred}{u:Option zJ}{h:zB}{n:Nat}(I: α→List (Nat×Value))(J: α→zB→Nat→Prop)(first:WC P ng c cx (FA l t) ⟨d,u,h,n⟩ (cutQ I J d u Q))
(rest:∀a t h n,J a h n→Q .normal (FA (I a) t) ⟨d,u,h,n⟩)(hQ:∀(t t2:Fr) (w:W),(∀i,fget t2 i=fget t i)→Q .normal t2 w→Q .normal t w):WC P ng c cx (FA l t) ⟨d,u,h,n⟩ Q:=by
 refine first.mono fun x t' w' q=>?_
 cases x with
 | normal=>
  obtain⟨a,h1,h,n,rfl,h2⟩:=q;exact hQ _ _ _ h1 (rest a t' h n h2)
 | exit i=>exact q
 | goto i=>exact q
 | ret=>exact q
 | panic c=>exact q
theorem cut_seq{α : Type}{c b:Code}{cx:Cx}{Q:QX}{l:List (Nat×Value)}{t:Fr}{d:List Deferred}{u:Option zJ}{h:zB}{n:Nat}(I: α→List (Nat×Value))(J: α→zB→Nat→Prop)(first:WC P ng c cx (FA l t) ⟨d,u,h,n⟩ (cutQ I J d u (seqQ P ng b cx Q)))
(rest:∀a t h n,J a h n→WC P ng b cx (FA (I a) t) ⟨d,u,h,n⟩ Q):WC P ng (.seq c b) cx (FA l t) ⟨d,u,h,n⟩ Q:=
 wc_seq (cut I J first rest fun t t2 w h1 h2=>WC.pre h1 h2)
end
theorem cat_hal{h:zB}{n b i:Nat}{o:AObj}{v:Value}(hb:b≠n)(c:zD h b i=some v):zD (hal h n o) b i=some v:=by unfold zD;rw [yY,if_neg fun e=>hb e.symm];exact c
theorem cat_hst{h:zB}{a off b i:Nat}{ws:List Value}{v:Value}(hb:b≠a)(c:zD h b i=some v):zD (hst h a off ws) b i=some v:=by unfold zD;rw [yL,if_neg fun e=>hb e.symm];exact c
theorem cat_tch{S:List Nat}{h h':zB}{n n' b i:Nat}{v:Value}(t:Tch S h n h' n')(hb:b<n)(hS:b∉S)(c:zD h b i=some v):zD h' b i=some v:=by unfold zD;rw [t.2 b hb hS];exact c
theorem Tch.le{S:List Nat}{h h':zB}{n n':Nat}(t:Tch S h n h' n'):n≤n':=t.1
theorem Tch.hal{S:List Nat}{h h':zB}{n m:Nat}{o:AObj}(t:Tch S h n h' m):Tch S h n (Go.Ex.hal h' m o) (m+1):=⟨Nat.le_succ_of_le t.1,fun b hb hS=>by rw[yY,if_neg (by have:=t.1;omega)];exact t.2 b hb hS⟩
theorem Tch.upd{S:List Nat}{h h':zB}{n m L:Nat}{o:AObj}(t:Tch S h n h' m)(hL:n≤L∨L∈S):Tch S h n (Go.Ex.hal h' L o) m:=⟨t.1,fun b hb hS=>by
 rw[yY,if_neg (by
  rintro rfl
  rcases hL with h1|h1
  · omega
  · exact hS h1)]
 exact t.2 b hb hS⟩
theorem Tch.hst{S:List Nat}{h h':zB}{n n' a off:Nat}{ws:List Value}(t:Tch S h n h' n')(ha:n≤a∨a∈S):Tch S h n (Go.Ex.hst h' a off ws) n':=⟨t.1,fun b hb hS=>by
 rw[yL,if_neg (by
  rintro rfl
  rcases ha with h1|h1
  · omega
  · exact hS h1)]
 exact t.2 b hb hS⟩
theorem Tch.tch{S S':List Nat}{h h1 h':zB}{n n1 n':Nat}(t':Tch S' h1 n1 h' n')(t:Tch S h n h1 n1)(hs:∀x∈S',n≤x∨x∈S):Tch S h n h' n':=⟨Nat.le_trans t.1 t'.1,fun b hb hS=>by
 rw[t'.2 b (Nat.lt_of_lt_of_le hb t.1) fun hx=>(hs b hx).elim (fun h1=>absurd hb (by omega)) hS];exact t.2 b hb hS⟩
theorem zA{S:List Nat}{h h':zB}{n n':Nat}(t:Tch S h n h' n':=by
 repeat' first
  | with_reducible exact Tch.refl _ _ _
  | with_reducible assumption
  | with_reducible apply Tch.hal
  | with_reducible apply Tch.upd
  | with_reducible apply Tch.hst
  | ((with_reducible apply Tch.tch);(focus (with_reducible assumption)))
  | (left;omega)
  | omega
  | (right;simp;done)
  | (simp;done)
  | (simp;omega)):Tch S h n h' n':=t
def sbk:Value→Nat
 | .slice (some a) _ _=>a.block
 | _=>0
def sof:Value→Nat
 | .slice (some a) _ _=>a.off
 | _=>0
section
variable {lo:Nat} {h:zB} {v:Value} {e sz len:Nat} {vs:List Value}
theorem Row.one(r:Row lo h v e sz len vs):v.oneCell'=true:=by
 rcases r with⟨rfl,_⟩|⟨b,off,cap,m,z,kd,_,rfl,_⟩ <;> rfl
theorem Row.lens(r:Row lo h v e sz len vs):vs.length=len*sz:=by
 rcases r with⟨rfl,rfl,rfl⟩|⟨b,off,cap,m,z,kd,_,rfl,h1,_⟩
 · simp
 · exact h1
theorem Row.low(r:Row lo h v e sz len vs)(h0:0<len):sbk v<lo:=by
 rcases r with⟨rfl,rfl,rfl⟩|⟨b,off,cap,m,z,kd,h1,rfl,_⟩
 · omega
 · exact h1
theorem Row.at(r:Row lo h v e sz len vs){i:Nat}{x:Value}(hi:vs[i]? = some x):zD h (sbk v) (sof v+i)=some x:=by
 rcases r with⟨rfl,rfl,rfl⟩|⟨b,off,cap,m,z,kd,h1,rfl,_,_,_,h2,_⟩
 · cases hi
 · exact h2 i x hi
theorem len_rw{P:Program}{ty el:Nat}[s:UnC P ty (.slice el)]{h':zB}(r:Row lo h v e sz len vs):Qb P .len [ty] [v] h' (some (I64 (len:Nat))):=by
 rcases r with⟨rfl,rfl,rfl⟩|⟨b,off,cap,m,z,kd,h1,rfl,_⟩
 · exact len_slc
 · exact len_slc
theorem iad_rw{k:IntKind}{i:Nat}(r:Row lo h v e sz len vs)(hi:i<len):Iad sz v (.int k (i:Nat)) (.pointer (some ⟨sbk v,sof v+i*sz,none⟩)):=by
 rcases r with⟨rfl,rfl,rfl⟩|⟨b,off,cap,m,z,kd,h1,rfl,_⟩
 · omega
 · exact⟨b,off,len,cap,k,i,rfl,rfl,hi,rfl⟩
theorem iad_rwI{k:IntKind}{x:Int}(r:Row lo h v e sz len vs)(h0:0≤x)(hi:x<len):Iad sz v (.int k x) (.pointer (some ⟨sbk v,sof v+x.toNat*sz,none⟩)):=by
 obtain⟨i,rfl⟩:=Int.eq_ofNat_of_zero_le h0;exact iad_rw r (by omega)
theorem Row.tch{S:List Nat}{h':zB}{n n':Nat}(r:Row lo h v e sz len vs)(t:Tch S h n h' n')(hl:lo≤n)(hS:∀b,yE v=some b→b∉S):Row lo h' v e sz len vs:=by
 refine r.keep (Nat.le_refl _) fun b hb=>t.2 b ?_ (hS b hb);rcases r with⟨rfl,rfl,rfl⟩|⟨b',off,cap,m,z,kd,h1,rfl,_⟩
 · cases hb
 · injection hb with hb;have hb:b'=b:=hb;omega
theorem Row.up(r:Row lo h v e sz len vs){lo':Nat}(hl:lo≤lo'):Row lo' h v e sz len vs:=r.keep hl fun _ _=>rfl
theorem yA{n:Nat}{cs:List Value}(hl:cs.length=len*sz)(hlt:len<inf):Row (n+1) (hal h n (mkC cs 0 0)) (.slice (some ⟨n,0,none⟩) len len) e sz len cs:=by
 refine .inr ⟨n,0,len,cs.length,0,0,Nat.lt_succ_self _,rfl,hl,?_,by omega,fun j x hj=>?_,.inl ⟨hlt,Nat.le_refl _⟩⟩
 · rw[yY,if_pos rfl];exact wZ _ _ _
 · unfold zD;rw [yY,if_pos rfl,Nat.zero_add];rw [wK];exact hj
end
 class ApC (P:Program) (sT xT:Nat) (e sz:outParam Nat):Prop where ok:apTB P sT xT e sz=true
theorem appO{sT xT e sz:Nat}[A:ApC P sT xT e sz]{cx:Cx}{d:List Deferred}{u:Option zJ}{h:zB}{n lo len m:Nat}{v x:Value}{vs new:List Value}{K:W→Value→Prop}(ho:Own lo n h v e sz len vs)(hr:Row n h x e sz m new)(hlo:lo≤n)(h1:One new)(hlim:len+m<1000000)
(k:∀v' h' n',Own lo n' h' v' e sz (len+m) (vs++new)→Tch (yE v).toList h n h' n'→K ⟨d,u,h',n'⟩ v'):BuB P cx .append [sT,xT] [v,x] d u h n K:=by
 have:=append_own (K:=fun h' n' v'=>xE (K ⟨d,u,h',n'⟩ v')) A.ok ho hlo hr hr.lens h1.all hlim fun v' h' n' o a b=>isSo_iff.2 (k v' h' n' o ⟨a,fun b' hb hS=>b b' hb fun e=>hS (by rw[e];simp)⟩);exact this
theorem Own.tch{S:List Nat}{lo n n':Nat}{h h':zB}{v:Value}{e sz len:Nat}{vs:List Value}(r:Own lo n h v e sz len vs)(t:Tch S h n h' n')(hS:∀b,yE v=some b→b∉S):Own lo n' h' v e sz len vs:=by
 refine r.keep t.1 fun b hb=>t.2 b ?_ (hS b hb);rcases r with⟨rfl,_,_⟩|⟨b',_,h1,rfl,_⟩
 · cases hb
 · injection hb with hb;subst hb;exact h1
theorem Own.nil{lo n:Nat}{h:zB}{e sz:Nat}:Own lo n h (.slice none 0 0) e sz 0 []:=.inl ⟨rfl,rfl,rfl⟩
theorem Own.one{lo n:Nat}{h:zB}{v:Value}{e sz len:Nat}{vs:List Value}(r:Own lo n h v e sz len vs):v.oneCell'=true:=by
 rcases r with⟨rfl,_⟩|⟨b,_,_,rfl,_⟩ <;> rfl
theorem Own.blk{lo n:Nat}{h:zB}{v:Value}{e sz len:Nat}{vs:List Value}(r:Own lo n h v e sz len vs){b:Nat}(hb:yE v=some b):lo≤b∧b<n:=by
 rcases r with⟨rfl,_⟩|⟨b',h1,h2,rfl,_⟩
 · cases hb
 · injection hb with hb;subst hb;exact⟨h1,h2⟩
end
end Go.Ex
namespace Go.Ex
noncomputable def regIn(id:Nat):Code→List (Array Oper):=Code.rec (motive:=fun _=>List (Array Oper)) [] (fun i ops dr=>Bool.rec [] (Bool.rec [] [ops] (Nat.beq i id)) dr) (fun _ _ a b=>a++b) (fun _ _ _ a b=>a++b) (fun _ _ a=>a) (fun _ a=>a)
 (fun _ _ _ _ a b=>a++b) (fun _=>[]) (fun _ a=>a) (fun _=>[]) (fun _=>[]) [] (fun _=>[])
noncomputable def regOf(P:Program)(f id:Nat):Array Oper:=Option.rec #[] (fun fb=>List.rec #[] (fun a _ _=>a) (regIn id fb.2)) (bodyOf P f)
noncomputable def dl(ops:Array Oper):List (Nat×Nat×Nat×Bool×List Nat)→List DOp
  | []=>[]
  | x :: r => match ops.toList[x.1]? with
    | some o=>⟨o,x.1,zU o.op,x.2.1,x.2.2.1,x.2.2.2.1,x.2.2.2.2⟩::dl ops r
    | none=>[]
 class DrC (P:Program) (f id:Nat) (tbl:outParam (List (Nat×Nat×Nat×Bool×List Nat))):Prop where ok:plan (regOf P f id)=some (dl (regOf P f id) tbl)
def RgE(P:Program)(f id:Nat)(ops:Array Oper):Prop:=regOf P f id=ops
def NLe(a b:Nat):Prop:=a≤b
def LksOK(P:Program)(hs:List W)(ls:List Look):Prop:=xC P hs.length hs ls=true
theorem quiet_e{op:Op}{P:Program}{t:Fr}{h:zB}(hk:2≤zU op):xB op P t h=none:=by
 cases op <;> first|rfl|(exfalso;have h0:2≤0:=hk;omega)|(exfalso;have h0:2≤1:=hk;omega)|skip
 case call c=>
  obtain⟨callee,args,tys⟩:=c
  cases callee with
  | value f=>rfl
  | invoke a b=>rfl
  | builtin b=>cases b <;> first|rfl|(exfalso;have h0:2≤1:=hk;omega)
theorem eff_q{op:Op}{P:Program}{lo:Lo}{cx:Cx}{t:Fr}{w:W}{k:KV}{kp:KP}(hk:zU op≤1):eff op P lo cx t w k kp=false:=by
 cases op <;> first|rfl|(exfalso;have h0:2≤1:=hk;omega)|(exfalso;have h0:3≤1:=hk;omega)|skip
 case makeMap a b=>cases b <;> first|(exfalso;have h0:2≤1:=hk;omega)|(exfalso;have h0:3≤1:=hk;omega)
 case call c=>
  obtain⟨callee,args,tys⟩:=c
  cases callee with
  | value f=>exfalso;have h0:3≤1:=hk;omega
  | invoke a b=>exfalso;have h0:3≤1:=hk;omega
  | builtin b=>cases b <;> first|rfl|(exfalso;have h0:3≤1:=hk;omega)
section
variable {P:Program} {ng:Nat}
noncomputable def panM(P:Program)(ng:Nat)(cx:Cx)(all:Array Oper)(Q:QX)(m:Bool):DOp→List DOp→Fr→W→List W→List Look→zJ→W→Bool:=match m with
 | true=>panD P (loS P ng) cx all (soK Q)
 | false=>fun _ _ _ _ _ _ _ _=>false
def WD(P:Program)(ng:Nat)(m:Bool)(all:Array Oper)(l:List DOp)(cx:Cx)(t:Fr)(w:W)(hs:List W)(ls:List Look)(Q:QX):Prop:=wF P (loS P ng) cx all (panM P ng cx all Q m) l t w hs ls (soK Q)=true
theorem wc_drawn[Fit P ng]{f id:Nat}{rd:Option Nat}{df:Bool}{ops:Array Oper}{tbl:List (Nat×Nat×Nat×Bool×List Nat)}[D:DrC P f id tbl]{t:Fr}{w:W}{Q:QX}(he:RgE P f id ops)(h:WD P ng true ops (dl ops tbl) ⟨f,rd,df⟩ t w [w] [] Q):WC P ng (.region id ops true) ⟨f,rd,df⟩ t w Q:=by
 refine wc_of ?_
 show(match plan ops with
 | some l=>xdraw P (loS P ng) ⟨f,rd,df⟩ ops l t w [w] [] (soK Q)
 | none=>false)=true
 have hp:=D.ok;rw [show regOf P f id=ops from he]at hp;rw [hp];exact h
instance [Fit P ng] {f id:Nat} {rd:Option Nat} {df:Bool} {ops:Array Oper} {tbl:List (Nat×Nat×Nat×Bool×List Nat)} [DrC P f id tbl] {t:Fr} {w:W} {Q:QX} :
 Stp (WC P ng (.region id ops true) ⟨f,rd,df⟩ t w Q) (Ob1 (RgE P f id ops) <| WD P ng true ops (dl ops tbl) ⟨f,rd,df⟩ t w [w] [] Q):=⟨fun⟨h1,h2⟩=>wc_drawn h1 h2⟩
section
variable {all ops:Array Oper} {cx:Cx} {l:List (Nat×Value)} {t:Fr} {w:W} {hs:List W} {ls:List Look} {Q:QX} {r:List DOp} {op:Op} {d:Option Nat} {ty:TypeId} {pos:String} {af:Array Edge} {i lo hi:Nat} {so m:Bool} {un:List Nat} {g:Option (Nat×Bool)}
instance:Stp (WD P ng m all (dl ops []) cx t w hs ls Q) (Ob1 (LksOK P hs ls) <| Q .normal t w):=⟨fun⟨h1,h2⟩=>by
 show(soK Q .normal t w && xC P hs.length hs ls)=true;rw [show xC P hs.length hs ls=true from h1,show soK Q .normal t w=true from isSo_iff.2 h2];rfl⟩
instance {x:Nat×Nat×Nat×Bool×List Nat} {tb:List (Nat×Nat×Nat×Bool×List Nat)}:Stp (WD P ng m all (dl ops (x::tb)) cx t w hs ls Q)
 (Ob (fun o=>Wh (ops.toList[x.1]?) (some o)) fun o=>WD P ng m all (⟨o,x.1,zU o.op,x.2.1,x.2.2.1,x.2.2.2.1,x.2.2.2.2⟩::dl ops tb) cx t w hs ls Q):=⟨fun⟨o,h1,h2⟩=>by
 have:dl ops (x::tb)=⟨o,x.1,zU o.op,x.2.1,x.2.2.1,x.2.2.2.1,x.2.2.2.2⟩::dl ops tb:=by
  show(match ops.toList[x.1]? with
  | some o=>(⟨o,x.1,zU o.op,x.2.1,x.2.2.1,x.2.2.2.1,x.2.2.2.2⟩:DOp)::dl ops tb
  | none=>[])=_
  rw[show ops.toList[x.1]? = some o from h1]
 rw[this];exact h2⟩
def drQ(P:Program)(ng:Nat)(m:Bool)(all:Array Oper)(d:Option Nat)(r:List DOp)(cx:Cx)(l:List (Nat×Value))(t:Fr)(hs:List W)(ls:List Look)(Q:QX)(w:W)(v:Value):Prop:=match d with
 | some i=>WD P ng m all r cx (FA ((i,v)::l) t) w hs ls Q
 | none=>WD P ng m all r cx (FA l t) w hs ls Q
instance {v:Value} {j:Nat}:Stp (drQ P ng m all (some j) r cx l t hs ls Q w v) (WD P ng m all r cx (FA ((j,v)::l) t) w hs ls Q):=⟨id⟩
instance {v:Value}:Stp (drQ P ng m all none r cx l t hs ls Q w v) (WD P ng m all r cx (FA l t) w hs ls Q):=⟨id⟩
theorem drQ_so:(fun(w:W) v=>xE (drQ P ng m all d r cx l t hs ls Q w v))=fun w v=>putT (FA l t) d v fun t=>wF P (loS P ng) cx all (panM P ng cx all Q m) r t w hs ls (soK Q):=by
 funext w v
 cases d with
 | none=>exact isSo_bool _
 | some i=>rw [putT_some,fset_FA];exact isSo_bool _
def lkK(P:Program)(ng:Nat)(m:Bool)(all:Array Oper)(op:Op)(d:Option Nat)(lo hi:Nat)(r:List DOp)(cx:Cx)(l:List (Nat×Value))(t:Fr)(hs:List W)(ls:List Look)(Q:QX)(w:W)(v:Value):Prop:=
 drQ P ng m all d r cx l t hs (cond (Nat.beq lo hi) ls (⟨op,FA l t,v,lo,hi⟩::ls)) Q w v
instance {v:Value}:Stp (lkK P ng m all op d lo hi r cx l t hs ls Q w v) (Ob (Wh (Nat.beq lo hi)) fun z=>Ch z (drQ P ng m all d r cx l t hs ls Q w v) (drQ P ng m all d r cx l t hs (⟨op,FA l t,v,lo,hi⟩::ls) Q w v)):=⟨fun⟨z,h1,h2,h3⟩=>by
 unfold lkK;rw [show Nat.beq lo hi=z from h1]
 cases z with
 | true=>exact h2 rfl
 | false=>exact h3 rfl⟩
def drC(P:Program)(ng:Nat)(m:Bool)(all:Array Oper)(d:Option Nat)(r:List DOp)(cx:Cx)(l:List (Nat×Value))(t:Fr)(n:Nat)(hs:List W)(ls:List Look)(Q:QX)(w:W)(v:Value):Prop:=n≤w.n∧drQ P ng m all d r cx l t (w::hs) ls Q w v
instance {v:Value} {n n2:Nat} {dd:List Deferred} {u:Option zJ} {h:zB}:Stp (drC P ng m all d r cx l t n hs ls Q ⟨dd,u,h,n2⟩ v) (Ob1 (NLe n n2) <| drQ P ng m all d r cx l t (⟨dd,u,h,n2⟩::hs) ls Q ⟨dd,u,h,n2⟩ v):=⟨fun⟨h1,h2⟩=>⟨h1,h2⟩⟩
def drP(P:Program)(ng:Nat)(m:Bool)(all:Array Oper)(x:DOp)(r:List DOp)(cx:Cx)(l:List (Nat×Value))(t:Fr)(w:W)(hs:List W)(ls:List Look)(Q:QX)(c:zJ)(w':W):Prop:=panM P ng cx all Q m x r (FA l t) w hs ls c w'=true
def dryQ(Q:QX)(c:zJ)(t:Fr)(w:W):QX:=fun e _ _=>match e with
 | .normal=>Q (.panic c) t w
 | _=>False
instance {c:zJ} {t2:Fr} {w2:W}:Stp (dryQ Q c t w .normal t2 w2) (Q (.panic c) t w):=⟨id⟩
theorem soK_dry{c:zJ}{w':W}:(soK (dryQ Q c t w'))=fun e _ _=>match e with | .normal=>soK Q (.panic c) t w'|_=>false:=by
 funext e t2 w2
 cases e with
 | normal=>rfl
 | exit i=>exact Bool.eq_false_iff.2 fun h=>(isSo_iff.1 h).elim
 | goto i=>exact Bool.eq_false_iff.2 fun h=>(isSo_iff.1 h).elim
 | ret=>exact Bool.eq_false_iff.2 fun h=>(isSo_iff.1 h).elim
 | panic c=>exact Bool.eq_false_iff.2 fun h=>(isSo_iff.1 h).elim
instance {o:Oper} {k:Nat} {c:zJ} {dd:List Deferred} {u:Option zJ} {h:zB} {n:Nat}:Stp (drP P ng true all ⟨o,i,k,lo,hi,so,un⟩ r cx l t w hs ls Q c ⟨dd,u,h,n⟩)
 (Ob (Wh so) fun z=>Ch z (Ob1 (LksOK P hs ls) <| Q (.panic c) (FA l t) ⟨dd,u,h,n⟩) (Ob1 (dd=[]) <| WD P ng false all (dryOf un r) cx (FA l t) w hs ls (dryQ Q c (FA l t) ⟨dd,u,h,n⟩))):=⟨fun⟨z,h1,h2,h3⟩=>by
 show panD P (loS P ng) cx all (soK Q) ⟨o,i,k,lo,hi,so,un⟩ r (FA l t) w hs ls c ⟨dd,u,h,n⟩=true;unfold panD;dsimp only;rw [show so=z from h1]
 cases z with
 | true=>
  obtain⟨h4,h5⟩:=h2 rfl;show cond (xC P hs.length hs ls) (soK Q (.panic c) (FA l t) ⟨dd,u,h,n⟩) false=true;rw [show xC P hs.length hs ls=true from h4];exact isSo_iff.2 h5
 | false=>
  obtain⟨h4,h5⟩:=h3 rfl;subst h4;unfold WD at h5;rw [soK_dry]at h5;exact h5⟩
instance {un:List Nat}:Stp (WD P ng m all (dryOf un (dl ops [])) cx t w hs ls Q) (WD P ng m all (dl ops []) cx t w hs ls Q):=⟨id⟩
instance {un:List Nat} {x:Nat×Nat×Nat×Bool×List Nat} {tb:List (Nat×Nat×Nat×Bool×List Nat)}:Stp (WD P ng m all (dryOf un (dl ops (x::tb))) cx t w hs ls Q)
 (Ob (fun o=>Wh (ops.toList[x.1]?) (some o)) fun o=>Ob (Wh (un.any fun i=>Nat.beq i x.1)) fun z=>Ch z (WD P ng m all (⟨o,x.1,zU o.op,x.2.1,x.2.2.1,x.2.2.2.1,x.2.2.2.2⟩::dryOf un (dl ops tb)) cx t w hs ls Q) (WD P ng m all (dryOf un (dl ops tb)) cx t w hs ls Q)):=⟨fun⟨o,h1,z,h2,h3,h4⟩=>by
 have e:dl ops (x::tb)=⟨o,x.1,zU o.op,x.2.1,x.2.2.1,x.2.2.2.1,x.2.2.2.2⟩::dl ops tb:=by
  show(match ops.toList[x.1]? with
  | some o=>(⟨o,x.1,zU o.op,x.2.1,x.2.2.1,x.2.2.2.1,x.2.2.2.2⟩:DOp)::dl ops tb
  | none=>[])=_
  rw[show ops.toList[x.1]? = some o from h1]
 rw[e];unfold dryOf;rw [List.filter_cons];dsimp only;rw [show(un.any fun i=>Nat.beq i x.1)=z from h2]
 cases z with
 | true=>exact h3 rfl
 | false=>exact h4 rfl⟩
def WK(P:Program)(ng:Nat)(m:Bool)(all:Array Oper)(op:Op)(d:Option Nat)(ty:TypeId)(pos:String)(af:Array Edge)(g:Option (Nat×Bool))(i lo hi:Nat)(so:Bool)(un:List Nat)(r:List DOp)(cx:Cx)(l:List (Nat×Value))(t:Fr)(w:W)(hs:List W)(ls:List Look)(Q:QX):Nat→Prop
 | 0=>OpB P ng op cx (FA l t) w (drQ P ng m all d r cx l t hs ls Q) fun _ _=>False
 | 1=>OpB P ng op cx (FA l t) w (lkK P ng m all op d lo hi r cx l t hs ls Q) fun _ _=>False
 | 2=>OpB P ng op cx (FA l t) w (drQ P ng m all d r cx l t hs ls Q) fun _ _=>False
 | _=>OpB P ng op cx (FA l t) w (drC P ng m all d r cx l t w.n hs ls Q) (drP P ng m all ⟨⟨d,op,ty,pos,af,g⟩,i,zU op,lo,hi,so,un⟩ r cx l t w hs ls Q)
instance:Stp (WK P ng m all op d ty pos af g i lo hi so un r cx l t w hs ls Q 0) (OpB P ng op cx (FA l t) w (drQ P ng m all d r cx l t hs ls Q) fun _ _=>False):=⟨id⟩
instance:Stp (WK P ng m all op d ty pos af g i lo hi so un r cx l t w hs ls Q 1) (OpB P ng op cx (FA l t) w (lkK P ng m all op d lo hi r cx l t hs ls Q) fun _ _=>False):=⟨id⟩
instance:Stp (WK P ng m all op d ty pos af g i lo hi so un r cx l t w hs ls Q 2) (OpB P ng op cx (FA l t) w (drQ P ng m all d r cx l t hs ls Q) fun _ _=>False):=⟨id⟩
instance {dd:List Deferred} {u:Option zJ} {h:zB} {n:Nat}:Stp (WK P ng m all op d ty pos af g i lo hi so un r cx l t ⟨dd,u,h,n⟩ hs ls Q 3) (OpB P ng op cx (FA l t) ⟨dd,u,h,n⟩ (drC P ng m all d r cx l t n hs ls Q) (drP P ng m all ⟨⟨d,op,ty,pos,af,g⟩,i,zU op,lo,hi,so,un⟩ r cx l t ⟨dd,u,h,n⟩ hs ls Q)):=⟨id⟩
theorem kind_le(op:Op):zU op≤3:=by
 have h0:(0:Nat)≤3:=by decide
 have h1:(1:Nat)≤3:=by decide
 have h2:(2:Nat)≤3:=by decide
 have h3:(3:Nat)≤3:=by decide
 cases op <;> first|exact h0|exact h1|exact h2|exact h3|skip
 case makeMap a b=>cases b <;> first|exact h2|exact h3
 case call c=>
  obtain⟨callee,args,tys⟩:=c
  cases callee with
  | value f=>exact h3
  | invoke a b=>exact h3
  | builtin b=>cases b <;> first|exact h1|exact h3
theorem wd_do{g:Option (Nat×Bool)}(hg:wanted all (FA l t) g=true)(h:WK P ng m all op d ty pos af g i lo hi so un r cx l t w hs ls Q (zU op)):WD P ng m all (⟨⟨d,op,ty,pos,af,g⟩,i,zU op,lo,hi,so,un⟩::r) cx (FA l t) w hs ls Q:=by
 show(match wanted all (FA l t) g with
  | false=>putT (FA l t) d undef fun t'=>wF P (loS P ng) cx all (panM P ng cx all Q m) r t' w (cond (Nat.beq (zU op) 3) (w::hs) hs) ls (soK Q)
  | true => match zU op with
   | 0=>match xB op P (FA l t) w.h with
    | some v=>putT (FA l t) d v fun t'=>wF P (loS P ng) cx all (panM P ng cx all Q m) r t' w hs ls (soK Q)
    | none=>false
   | 1=>match xB op P (FA l t) w.h with
    | some v=>putT (FA l t) d v fun t'=>wF P (loS P ng) cx all (panM P ng cx all Q m) r t' w hs (cond (Nat.beq lo hi) ls (⟨op,FA l t,v,lo,hi⟩::ls)) (soK Q)
    | none=>false
   | 2=>eff op P (loS P ng) cx (FA l t) w (fun w' v=>putT (FA l t) d v fun t'=>wF P (loS P ng) cx all (panM P ng cx all Q m) r t' w' hs ls (soK Q)) fun _ _=>false
   | _=>eff op P (loS P ng) cx (FA l t) w (fun w' v=>cond (Nat.ble w.n w'.n) (putT (FA l t) d v fun t'=>wF P (loS P ng) cx all (panM P ng cx all Q m) r t' w' (w'::hs) ls (soK Q)) false)
    fun c w'=>panM P ng cx all Q m ⟨⟨d,op,ty,pos,af,g⟩,i,zU op,lo,hi,so,un⟩ r (FA l t) w hs ls c w')=true
 rw[hg];dsimp only;have hle:=kind_le op
 have q01:zU op≤1→∀{K:W→Value→Prop} {Kp:zJ→W→Prop},OpB P ng op cx (FA l t) w K Kp→∃v,xB op P (FA l t) w.h=some v∧K w v:=fun hk K Kp ho=>by
  replace ho:=ho.1;unfold OpB0 at ho
  cases hq:xB op P (FA l t) w.h with
  | some v=>rw [hq]at ho;exact⟨v,rfl,ho⟩
  | none=>rw [hq]at ho;dsimp only at ho;rw [eff_q hk]at ho;cases ho
 have e23:2≤zU op→∀{K:W→Value→Prop} {Kp:zJ→W→Prop},OpB P ng op cx (FA l t) w K Kp→eff op P (loS P ng) cx (FA l t) w (fun w v=>xE (K w v)) (fun c w=>xE (Kp c w))=true:=fun hk K Kp ho=>by
  replace ho:=ho.1;unfold OpB0 at ho;rw [quiet_e hk]at ho;exact ho
 have put:∀(w':W) (v:Value) (hs:List W) (ls:List Look),drQ P ng m all d r cx l t hs ls Q w' v→(putT (FA l t) d v fun t'=>wF P (loS P ng) cx all (panM P ng cx all Q m) r t' w' hs ls (soK Q))=true:=fun w' v hs ls hq=>by
  rw[← congrFun (congrFun drQ_so w') v];exact isSo_iff.2 hq
 rcases(show zU op=0∨zU op=1∨zU op=2∨zU op=3 by omega) with e|e|e|e
 · rw[e]at h ⊢;obtain⟨v,h1,h2⟩:=q01 (by omega) h;rw [h1];exact put _ _ _ _ h2
 · rw[e]at h ⊢;obtain⟨v,h1,h2⟩:=q01 (by omega) h;rw [h1];exact put _ _ _ _ h2
 · rw[e]at h ⊢;have:=e23 (by omega) h;rw [drQ_so]at this
   have e9:(fun(_:zJ) (_:W)=>xE False)=fun _ _=>false:=by
    funext _ _
    cases hh:xE False with
    | false=>rfl
    | true=>exact(isSo_iff.1 hh).elim
   rw[e9]at this;exact this
 · rw[e]at h ⊢;have:=e23 (by omega) h
   have e8:(fun(w':W) v=>xE (drC P ng m all d r cx l t w.n hs ls Q w' v))=fun w' v=>cond (Nat.ble w.n w'.n) (putT (FA l t) d v fun t'=>wF P (loS P ng) cx all (panM P ng cx all Q m) r t' w' (w'::hs) ls (soK Q)) false:=by
    funext w' v
    rw[← congrFun (congrFun (drQ_so (hs:=w'::hs)) w') v]
    cases hh:Nat.ble w.n w'.n with
    | true=>
     show xE _=xE _;congr 1
     exact propext ⟨fun h=>h.2,fun h=>⟨Nat.le_of_ble_eq_true hh,h⟩⟩
    | false=>
     show xE _=false
     cases h7:xE (drC P ng m all d r cx l t w.n hs ls Q w' v) with
     | false=>rfl
     | true=>rw [wQ (isSo_iff.1 h7).1]at hh;cases hh
   have e7:(fun(c:zJ) (w':W)=>xE (drP P ng m all ⟨⟨d,op,ty,pos,af,g⟩,i,3,lo,hi,so,un⟩ r cx l t w hs ls Q c w'))=fun c w'=>panM P ng cx all Q m ⟨⟨d,op,ty,pos,af,g⟩,i,3,lo,hi,so,un⟩ r (FA l t) w hs ls c w':=by
    funext c w'
    exact isSo_bool _
   have h:OpB P ng op cx (FA l t) w (drC P ng m all d r cx l t w.n hs ls Q) (drP P ng m all ⟨⟨d,op,ty,pos,af,g⟩,i,zU op,lo,hi,so,un⟩ r cx l t w hs ls Q):=h;rw [e]at h;have:=e23 (by omega) h;rw [e8,e7]at this;exact this
theorem wd_skip{g:Option (Nat×Bool)}(hg:wanted all (FA l t) g=false)(h:drQ P ng m all d r cx l t (cond (Nat.beq (zU op) 3) (w::hs) hs) ls Q w undef):WD P ng m all (⟨⟨d,op,ty,pos,af,g⟩,i,zU op,lo,hi,so,un⟩::r) cx (FA l t) w hs ls Q:=by
 have h2:(putT (FA l t) d undef fun t'=>wF P (loS P ng) cx all (panM P ng cx all Q m) r t' w (cond (Nat.beq (zU op) 3) (w::hs) hs) ls (soK Q))=true:=by
  rw[← congrFun (congrFun drQ_so w) undef];exact isSo_iff.2 h
 unfold WD wF;dsimp only;rw [hg];exact h2
instance:Stp (WD P ng m all (⟨⟨d,op,ty,pos,af,none⟩,i,zU (⟨d,op,ty,pos,af,none⟩:Oper).op,lo,hi,so,un⟩::r) cx (FA l t) w hs ls Q) (Ob (Wh (zU op)) (WK P ng m all op d ty pos af none i lo hi so un r cx l t w hs ls Q)):=⟨fun⟨k,h1,h2⟩=>wd_do (g:=none) rfl (by rw[show zU op=k from h1];exact h2)⟩
def drS(P:Program)(ng:Nat)(m:Bool)(all:Array Oper)(op:Op)(d:Option Nat)(r:List DOp)(cx:Cx)(l:List (Nat×Value))(t:Fr)(w:W)(hs:List W)(ls:List Look)(Q:QX):Prop:=drQ P ng m all d r cx l t (cond (Nat.beq (zU op) 3) (w::hs) hs) ls Q w undef
instance:Stp (drS P ng m all op d r cx l t w hs ls Q) (Ob (Wh (Nat.beq (zU op) 3)) fun z=>Ch z (drQ P ng m all d r cx l t (w::hs) ls Q w undef) (drQ P ng m all d r cx l t hs ls Q w undef)):=⟨fun⟨z,h1,h2,h3⟩=>by
 unfold drS;rw [show Nat.beq (zU op) 3=z from h1]
 cases z with
 | true=>exact h2 rfl
 | false=>exact h3 rfl⟩
instance {g:Nat}:Stp (WD P ng m all (⟨⟨d,op,ty,pos,af,some (g,true)⟩,i,zU (⟨d,op,ty,pos,af,some (g,true)⟩:Oper).op,lo,hi,so,un⟩::r) cx (FA l t) w hs ls Q)
 (Ob (fun z=>Gv all l t g true z) fun z=>Ch z (Ob (Wh (zU op)) (WK P ng m all op d ty pos af (some (g,true)) i lo hi so un r cx l t w hs ls Q)) (drS P ng m all op d r cx l t w hs ls Q)):=⟨fun⟨z,h1,h2,h3⟩=>by
 cases z with
 | true=>
  obtain⟨k,h4,h5⟩:=h2 rfl;exact wd_do h1.wants (by rw[show zU op=k from h4];exact h5)
 | false=>exact wd_skip h1.wants (h3 rfl)⟩
instance {g:Nat}:Stp (WD P ng m all (⟨⟨d,op,ty,pos,af,some (g,false)⟩,i,zU (⟨d,op,ty,pos,af,some (g,false)⟩:Oper).op,lo,hi,so,un⟩::r) cx (FA l t) w hs ls Q)
 (Ob (fun z=>Gv all l t g false z) fun z=>Ch z (drS P ng m all op d r cx l t w hs ls Q) (Ob (Wh (zU op)) (WK P ng m all op d ty pos af (some (g,false)) i lo hi so un r cx l t w hs ls Q))):=⟨fun⟨z,h1,h2,h3⟩=>by
 cases z with
 | false=>
  obtain⟨k,h4,h5⟩:=h3 rfl;exact wd_do h1.wants (by rw[show zU op=k from h4];exact h5)
 | true=>exact wd_skip h1.wants (h2 rfl)⟩
theorem lks_nil:LksOK P hs []:=rfl
def Sm(v:Value):Prop:=sameB v v=true
theorem sm_int{k:IntKind}{a:Int}:Sm (.int k a):=by
 show(xH k k && ieqB a a)=true;rw [xI,decide_eq_true rfl];cases k <;> rfl
theorem sm_str{a:List UInt8}:Sm (str a):=by show vG a a=true;rw [bytesEq_dec,decide_eq_true rfl]
theorem sm_bool{b:Bool}:Sm (.bool b):=by cases b <;> rfl
theorem sm_ptr{b o:Nat}:Sm (ptr b o):=by show(Nat.beq b b && Nat.beq o o)=true;rw [Nat.beq_refl,Nat.beq_refl];rfl
theorem sm_map{b:Nat}:Sm (.map (some b)):=by show Nat.beq b b=true;exact Nat.beq_refl _
theorem Row.sm{lo:Nat}{h:zB}{v:Value}{e sz len:Nat}{vs:List Value}(r:Row lo h v e sz len vs):Sm v:=by
 rcases r with⟨rfl,_⟩|⟨b,off,cap,m,z,kd,_,rfl,_⟩
 · rfl
 · show(Nat.beq b b && Nat.beq off off && Nat.beq len len && Nat.beq cap cap)=true;rw [Nat.beq_refl,Nat.beq_refl,Nat.beq_refl,Nat.beq_refl];rfl
theorem Own.sm{lo n:Nat}{h:zB}{v:Value}{e sz len:Nat}{vs:List Value}(r:Own lo n h v e sz len vs):Sm v:=by
 rcases r with⟨rfl,_⟩|⟨b,_,_,rfl,_⟩
 · rfl
 · show(Nat.beq b b && Nat.beq 0 0 && Nat.beq len len && Nat.beq inf inf)=true;rw [Nat.beq_refl,Nat.beq_refl,Nat.beq_refl,Nat.beq_refl];rfl
def LkA(P:Program)(l:Look)(k:Nat)(hs:List W):Prop:=uA P l k hs=true
theorem lks_cons{lk:Look}(h:LkA P lk hs.length hs)(r:LksOK P hs ls):LksOK P hs (lk::ls):=by
 show(uA P lk hs.length hs && xC P hs.length hs ls)=true;rw [show uA P lk hs.length hs=true from h,show xC P hs.length hs ls=true from r];rfl
theorem lka_nil{lk:Look}{k:Nat}:LkA P lk k []:=rfl
theorem lka_off{o:Op}{tt:Fr}{v:Value}{k:Nat}(hr:(Nat.ble lo (Nat.pred k) && Nat.ble (Nat.pred k) hi)=false)(r:LkA P ⟨o,tt,v,lo,hi⟩ (Nat.pred k) hs):LkA P ⟨o,tt,v,lo,hi⟩ k (w::hs):=by
 show(cond (Nat.ble lo (Nat.pred k) && Nat.ble (Nat.pred k) hi) _ true && uA P ⟨o,tt,v,lo,hi⟩ (Nat.pred k) hs)=true;rw [hr,show uA P ⟨o,tt,v,lo,hi⟩ (Nat.pred k) hs=true from r];rfl
theorem lka_on{o:Op}{tt:Fr}{v:Value}{k:Nat}(h1:lookLt w.n o tt=true)(h2:xB o P tt w.h=some v)(h3:Sm v)(r:LkA P ⟨o,tt,v,lo,hi⟩ (Nat.pred k) hs):LkA P ⟨o,tt,v,lo,hi⟩ k (w::hs):=by
 show(cond (Nat.ble lo (Nat.pred k) && Nat.ble (Nat.pred k) hi) (lookLt w.n o tt && (match xB o P tt w.h with
  | some v'=>sameB v' v
  | none=>false)) true && uA P ⟨o,tt,v,lo,hi⟩ (Nat.pred k) hs)=true
 rw[h1,h2,show uA P ⟨o,tt,v,lo,hi⟩ (Nat.pred k) hs=true from r];dsimp only;rw [show sameB v v=true from h3];cases (Nat.ble lo (Nat.pred k) && Nat.ble (Nat.pred k) hi) <;> rfl
theorem lka_ld1{x:Operand}{v:Value}{k b o n:Nat}{h:zB}{dd:List Deferred}{u:Option zJ}[s:ShC P ty .scal](e:evb l t x = .pointer (some ⟨b,o,none⟩))(hb:b<n)(c:zD h b o=some v)(h3:Sm v)(r:LkA P ⟨.load ty x,FA l t,v,lo,hi⟩ (Nat.pred k) hs) :
 LkA P ⟨.load ty x,FA l t,v,lo,hi⟩ k (⟨dd,u,h,n⟩::hs):=by
 refine lka_on ?_ ?_ h3 r
 · show blkLt n (ev (FA l t) x)=true;rw [yK,e];exact xO hb
 · show qLoad P ty h (ev (FA l t) x)=_;rw [yK,e];exact load_scal s.ok c
def Sms(vs:List Value):Prop:=vZ vs vs=true
theorem sml_nil:Sms []:=rfl
theorem sml_int{k:IntKind}{a:Int}{r:List Value}(h:Sms r):Sms (.int k a::r):=by
 show(scalB (.int k a) (.int k a) && vZ r r)=true;rw [show scalB (.int k a) (.int k a)=true from sm_int,show vZ r r=true from h];rfl
theorem sml_str{a:List UInt8}{r:List Value}(h:Sms r):Sms (str a::r):=by
 show(scalB (str a) (str a) && vZ r r)=true;rw [show scalB (str a) (str a)=true from sm_str,show vZ r r=true from h];rfl
theorem sml_row{lo:Nat}{h:zB}{v:Value}{e sz len:Nat}{vs r:List Value}(q:Row lo h v e sz len vs)(h:Sms r):Sms (v::r):=by
 show(scalB v v && vZ r r)=true
 have:scalB v v=true:=by
  have:=q.sm;rcases q with⟨rfl,_⟩|⟨b,off,cap,m,z,kd,_,rfl,_⟩ <;> exact this
 rw[this,show vZ r r=true from h];rfl
theorem lka_ldN{x:Operand}{vs:List Value}{k b o n sz:Nat}{h:zB}{dd:List Deferred}{u:Option zJ}[s:ShC P ty (.agg sz)](e:evb l t x = .pointer (some ⟨b,o,none⟩))(hb:b<n)(h0:0<sz)(c:Rd h b o sz vs)(h3:Sms vs)(r:LkA P ⟨.load ty x,FA l t,.agg ⟨vs⟩,lo,hi⟩ (Nat.pred k) hs) :
 LkA P ⟨.load ty x,FA l t,.agg ⟨vs⟩,lo,hi⟩ k (⟨dd,u,h,n⟩::hs):=by
 refine lka_on ?_ ?_ h3 r
 · show blkLt n (ev (FA l t) x)=true;rw [yK,e];exact xO hb
 · show qLoad P ty h (ev (FA l t) x)=_;rw [yK,e];obtain⟨h1,h2⟩:=c.row;exact load_agg s.ok h1 h0 h2
theorem Row.blk{lo0:Nat}{h:zB}{v:Value}{e sz len:Nat}{vs:List Value}{n:Nat}(r:Row lo0 h v e sz len vs)(hl:lo0≤n):blkLt n v=true:=by
 rcases r with⟨rfl,_⟩|⟨b,off,cap,m,z,kd,h1,rfl,_⟩
 · rfl
 · exact xO (show b<n by omega)
theorem lka_len{x:Operand}{v:Value}{k lo0 n el ee sz len:Nat}{h h0:zB}{vs:List Value}{dd:List Deferred}{u:Option zJ}[s:UnC P ty (.slice el)](e:evb l t x=v)(hr:Row lo0 h0 v ee sz len vs)(hlo:lo0≤n)(r:LkA P ⟨.call ⟨.builtin .len,[x].toArray,[ty].toArray⟩,FA l t,I64 (len:Nat),lo,hi⟩ (Nat.pred k) hs) :
 LkA P ⟨.call ⟨.builtin .len,[x].toArray,[ty].toArray⟩,FA l t,I64 (len:Nat),lo,hi⟩ k (⟨dd,u,h,n⟩::hs):=by
 refine lka_on ?_ ?_ sm_int r
 · show blkLt n (ev (FA l t) x)=true;rw [yK,e];exact hr.blk hlo
 · show quietB P .len [ty] [ev (FA l t) x] h=_;rw [yK,e];exact len_rw hr
end
end
end Go.Ex
