/- What the law leans on: an executor of the model that is sound, deduction over it, and the walks through the code (part 3 of 6). Conditions: those that each theorem states. -/
import Derived.Test.YtapnnpoljobanaaGreatDoorVirPrintsx2
import Derived.Calls
import Derived.Lib.IndexMore
import Derived.Lib.Split
import Derived.Lib.CountLaws
import Derived.Shelf.Strings.Builder1
import Derived.Lib.AtoiAll
import Derived.Lib.AppendIntMem
import Derived.Lib.ItoaLen
import Derived.Lib.Join
import Derived.Shelf.Strings.Builder2
import Derived.Shelf.Strings.OnBuilder
import Derived.Shelf.Small.Wraps
import Derived.Shelf.Utf8.RuneCount
import Derived.Shelf.Strconv.Atoi
import Derived.Shelf.Strconv.Itoa0
import Derived.Shelf.Strconv.Itoa1
import Derived.Shelf.LaysM
import Derived.Shelf.Strconv.Itoa2
import Derived.Shelf.Strconv.Itoa3
import Derived.Shelf.Strconv.AtoiErrFast
import Derived.Shelf.Strconv.ParseIntEmpty
import Derived.Shelf.Strconv.AtoiFail
import Derived.Shelf.Strconv.Clone
import Derived.Shelf.Strconv.SyntaxError
import Derived.Shelf.LaysC
import Derived.Shelf.Strconv.ToError
import Derived.Shelf.Strconv.AtoiErr
import Derived.Shelf.Strconv.ErrVar
import Derived.Shelf.Strconv.Lower
import Derived.Shelf.Strconv.ParseUint10
import Derived.Shelf.Strconv.ParseUint10Empty
import Derived.Shelf.Strconv.ParseUint10Any
import Derived.Shelf.Strconv.ParseInt10
import Derived.Shelf.Strconv.AtoiLong
import Derived.Shelf.Strconv.AtoiInnerAll
import Derived.Shelf.Strconv.RangeError
import Derived.Shelf.Strconv.ToErrorRange
import Derived.Shelf.Strconv.AtoiAll
import Derived.Shelf.Strings.Search1
import Derived.Shelf.Strings.Search2
import Derived.Shelf.Strings.Search3
import Derived.Shelf.Strings.Cut
import Derived.Shelf.Strings.Count
import Derived.Shelf.Strings.Shaped
import Derived.Shelf.Strings.Prefix
import Derived.Shelf.Strings.Split
import Derived.Shelf.Strings.SplitShaped
import Derived.Shelf.Unicode.Decode
import Derived.Shelf.Strings.RuneCount
import Derived.Shelf.Strings.Explode
import Derived.Shelf.Bits.Mul64
import Derived.Shelf.Unicode.DecodeSlow
import Derived.Shelf.Unicode.DecodeAny
import Derived.Test.YtapnnpoljobanaaGreatDoorProg
import Derived.Test.YtapnnpoljobanaaGreatDoorRows
import Derived.KernelRfl
import Derived.Lib.AtoiErrMem
import Derived.WalkSmall

set_option linter.unusedVariables false
set_option linter.unusedSimpArgs false
namespace Go.Ex
noncomputable def apTB(P:Program)(sT xT el sz:Nat):Bool:=
 match und P sT,und P xT with
 | some (.slice e), some xd => match xd with
  | .int _=>false
  | _=>match inf? P e,wU P e with
   | some ei,some z=>Nat.beq e el && (Nat.beq ei.size sz && (Nat.beq (cellsOf z).length sz && (Nat.blt 0 sz && Nat.blt ei.bytes 100000)))
   | _,_=>false
 | _,_=>false
theorem apTB_of{P:Program}{sT xT e sz:Nat}(h:apTB P sT xT e sz=true):∃xd ei z,und P sT=some (.slice e)∧und P xT=some xd∧(∀k,xd≠.int k)∧inf? P e=some ei∧wU P e=some z∧ei.size=sz∧(cellsOf z).length=sz∧0<sz∧ei.bytes<100000:=by
 unfold apTB at h;split at h
 · rename_i e' xd h1 h2;split at h
   · cases h
   · rename_i hne;split at h
     · rename_i ei z h3 h4;obtain⟨a0,hrest⟩:=Bool.and_eq_true_iff.1 h;obtain rfl:=yL a0;obtain⟨a1,a2⟩:=Bool.and_eq_true_iff.1 hrest;obtain⟨a2,a3⟩:=Bool.and_eq_true_iff.1 a2;obtain⟨a3,a4⟩:=Bool.and_eq_true_iff.1 a3;exact⟨xd,ei,z,h1,h2,fun k hk=>hne k hk,h3,h4,yL a1,yL a2,vA a3,vA a4⟩
     · cases h
 · cases h
def Own(lo n:Nat)(h:zH)(v:Value)(e sz:Nat)(len:Nat)(vs:List Value):Prop:=
 (v = .slice none 0 0∧len=0∧vs=[])∨∃b,lo≤b∧b<n∧v = .slice (some ⟨b,0,none⟩) len inf∧tH (yG h b)=some (vs.length,zc e sz,1)∧vs.length=len*sz∧0<len∧∀i,xX h b i=vs[i]?
def Row(n:Nat)(h:zH)(v:Value)(e sz len:Nat)(vs:List Value):Prop:=
 (v = .slice none 0 0∧len=0∧vs=[])∨∃b off cap m z kd,b<n∧v = .slice (some ⟨b,off,none⟩) len cap∧vs.length=len*sz∧tH (yG h b)=some (m,z,kd)∧off+vs.length≤m∧rowAt h b off vs∧((cap<inf∧len≤cap)∨(cap=inf∧kd=1∧z=zc e sz∧1≤sz))
def wQ:Value→Option Nat
 | .slice (some a) _ _=>some a.block
 | _=>none
theorem row_of{n:Nat}{h:zH}{v:Value}{e sz len:Nat}{vs:List Value}(r:Row n h v e sz len vs):rowOf h sz len v=some vs∧lenV v=some len∧strFits sz v=true:=by
 rcases r with⟨rfl,rfl,rfl⟩|⟨b,off,cap,m,z,kd,hb,rfl,hl,hi,hm,hr⟩
 · exact⟨rfl,rfl,rfl⟩
 · refine⟨?_,rfl,rfl⟩;obtain⟨hr,hcap⟩:=hr;unfold rowAt xX at hr;unfold rowOf;dsimp only;have e1:Nat.mul len sz=vs.length:=hl.symm
   have e:∀kn,kn=m→(Nat.ble len len && Nat.ble (Nat.add off (Nat.mul len sz)) kn)=true:=fun kn hk=>by
    rw[e1,vE (Nat.le_refl _),hk,vE (show Nat.add off vs.length≤m from hm)];rfl
   cases hg:yG h b <;> rw[hg]at hi <;> first|(cases hi;done)|skip
   · rename_i c kn z' kd';injection hi with hi
     injection hi with h1 h2
     rw[hg]at hr;dsimp only;rw [e kn h1,e1];show some (c.toListFrom undef off vs.length)=some vs;rw [row_list (fun i v e=>cells_cell e) hr]
   · rename_i c kn;injection hi with hi
     injection hi with h1 h2
     rw[hg]at hr;dsimp only;rw [e kn h1,e1];show knownL (c.toListFrom undef off vs.length)=some vs;rw [row_list (fun i v e=>(rows_cell e).1) hr];exact knownL_of (rows_known hr)
section
variable {P:Program}
theorem pD{sz n:Nat}{h:zH}{e:TypeId}{xd:TypeDesc}(hne:∀k,xd≠.int k){x:Value}{m:Nat}{new:List Value}(r:Row n h x e sz m new):uR P h e sz xd x=some (m,new):=by
 obtain⟨r1,r2,r3⟩:=row_of r;unfold uR;split
 · rename_i k;exact absurd rfl (hne k)
 · rw[r2];dsimp only;rw [r3,r1];rfl
theorem append_own0{sT xT e sz lo n len m:Nat}{h:zH}{v x:Value}{vs new:List Value}{K:KH}(hT:apTB P sT xT e sz=true)(ho:Own lo n h v e sz len vs)(hlo:lo≤n)(hap0:∀xd,(∀k,xd≠.int k)→uR P h e sz xd x=some (m,new))(hnew:new.length=m*sz)(h1:∀y∈new,y.oneCell'=true)
(hlim:len+m<1000000)(hK:∀v' h' n',Own lo n' h' v' e sz (len+m) (vs++new)→n≤n'→(∀b,b<n→wQ v≠some b→yG h' b=yG h b)→K h' n' v'=true):wD P [sT,xT] [v,x] h n K=true:=by
 obtain⟨xd,ei,z,t1,t2,t3,t4,t5,t6,t7,t8,t9⟩:=apTB_of hT;have hap:uR P h e ei.size xd x=some (m,new):=by rw[t6];exact hap0 _ t3
 unfold wD pQ
 obtain⟨base,cap,hv⟩:∃base cap,v = .slice base len cap:=by
  rcases ho with⟨rfl,rfl,rfl⟩|⟨b,_,_,rfl,_⟩
  · exact⟨_,_,rfl⟩
  · exact⟨_,_,rfl⟩
 subst hv;dsimp only;rw [t1,t2];dsimp only;rw [t4,t5];dsimp only;rw [hap];dsimp only
 have c1:(Nat.beq ei.size 0 || !Nat.beq (cellsOf z).length ei.size || !Nat.blt (Nat.add len m) 1000000 || !Nat.blt ei.bytes 100000)=false:=by
  have a1:Nat.beq ei.size 0=false:=by
   cases e9:Nat.beq ei.size 0 with
   | false=>rfl
   | true=>have:=yL e9;omega
  have a2:Nat.beq (cellsOf z).length ei.size=true:=by rw[t7,t6];exact Nat.beq_refl _
  rw[a1,a2,rA (show Nat.add len m<1000000 from hlim),rA t9];rfl
 rw[c1];show cond (Nat.beq m 0 && !Nat.beq cap 0 && (Nat.beq cap inf || Nat.ble len cap)) _ _=true;by_cases hm:m=0
 · subst hm;have hn0:new=[]:=List.length_eq_zero_iff.1 (by simpa using hnew);subst hn0;rcases ho with⟨hv,rfl,rfl⟩|⟨b,q1,q2,hv,q3,q4,q5,q6⟩
   · injection hv with hv1 _ hv2
     subst hv1 hv2;show K h n (.slice none 0 0)=true;exact hK _ _ _ (.inl ⟨rfl,rfl,rfl⟩) (Nat.le_refl _) fun _ _ _=>rfl
   · injection hv with hv1 _ hv2
     subst hv1 hv2;show K h n (.slice (some ⟨b,0,none⟩) len inf)=true;refine hK _ _ _ (.inr ⟨b,q1,q2,rfl,?_⟩) (Nat.le_refl _) fun _ _ _=>rfl;rw [List.append_nil];exact⟨q3,q4,q5,q6⟩
 · have hm0:Nat.beq m 0=false:=by
    cases e9:Nat.beq m 0 with
    | false=>rfl
    | true=>exact absurd (yL e9) hm
   rw[hm0];show cond (Nat.beq cap inf) _ _=true;rcases ho with⟨hv,rfl,rfl⟩|⟨b,q1,q2,hv,q3,q4,q5,q6⟩
   · injection hv with hv1 _ hv2
     subst hv1 hv2;have hb0:Nat.beq 0 inf=false:=by decide
     rw[hb0];dsimp only[cond_false];unfold growEx
     have b1:Nat.ble (Nat.add 0 m) 0=false:=by
      cases e9:Nat.ble (Nat.add 0 m) 0 with
      | false=>rfl
      | true=>
       have h9:Nat.add 0 m≤0:=uN e9;have h10:0+m≤0:=h9;omega
     rw[b1];show uP .lF 0 ([]++new) _=true;refine sO h1 ?_;rw [xC]
     have hne:Nat.mul (Nat.add 0 m) ei.size=new.length:=by
      have:Nat.add 0 m=m:=Nat.zero_add m;rw [this,t6];exact hnew.symm
     rw[hne,t6];have hz:Nat.add 0 m=m:=Nat.zero_add m;rw [hz];have hpos:0<m:=by omega
     refine hK _ _ _ (.inr ⟨n,hlo,Nat.lt_succ_self n,by rw[Nat.zero_add],?_,?_,by omega,fun i=>?_⟩) (Nat.le_succ n) fun b hb _=>?_
     · rw[zP,if_pos rfl];rfl
     · simpa using hnew
     · unfold xX;rw [zP,if_pos rfl];exact uW new (zc e sz) 1 i
     · rw[zP,if_neg (by omega)]
   · injection hv with hv1 _ hv2
     subst hv1 hv2;have hb1:Nat.beq inf inf=true:=Nat.beq_refl inf;rw [hb1];show growOpen h n b len m ei.size (zc e ei.size) new (fun v h n=>K h n v)=true;unfold growOpen;cases hg:yG h b <;> rw[hg]at q3 <;> first|(cases q3;done)|(exact absurd (kd_of q3) (by decide))|skip
     rename_i c kn z' kd';have q3':some (kn,z',kd')=some (vs.length,zc e sz,1):=q3;simp only[Option.some.injEq,Prod.mk.injEq]at q3';obtain⟨rfl,rfl,rfl⟩:=q3';show cond (Nat.beq (zc e sz) (zc e ei.size)) _ _=true;have e5:Nat.beq (zc e sz) (zc e ei.size)=true:=by rw[t6];exact Nat.beq_refl _
     rw[e5];have hml:Nat.mul len ei.size=vs.length:=by rw[t6];exact q4.symm
     have e6:Nat.ble (Nat.mul (Nat.add len m) ei.size) vs.length=false:=by
      cases e9:Nat.ble (Nat.mul (Nat.add len m) ei.size) vs.length with
      | false=>rfl
      | true=>
       have h9:(len+m)*ei.size≤vs.length:=uN e9;rw [t6,q4,Nat.add_mul]at h9;have:0<m*sz:=Nat.mul_pos (by omega) t8;omega
     rw[e6,hml,vE (Nat.le_refl _)];show uP c vs.length new _=true;refine sO h1 ?_;rw [Tr.setK_eq,xC]
     have hmm:Nat.mul (Nat.add len m) ei.size=(vs++new).length:=by
      rw[t6,List.length_append,q4,hnew];exact Nat.add_mul len m sz
     rw[hmm];refine hK _ _ _ (.inr ⟨n,hlo,Nat.lt_succ_self n,rfl,?_,?_,by omega,fun i=>?_⟩) (Nat.le_succ n) fun b' hb hne=>?_
     · rw[zP,if_pos rfl];rfl
     · rw[List.length_append,q4,hnew,Nat.add_mul]
     · unfold xX;rw [zP,if_pos rfl];unfold sA;dsimp only;have q6':=q6 i;unfold xX at q6';rw [hg]at q6';unfold sA at q6';dsimp only at q6';by_cases hi:i<vs.length
       · rw[if_pos hi]at q6';rw [if_pos (by rw[List.length_append];omega),Tr.get_ofListFrom,if_neg (by omega),q6',List.getElem?_append_left hi]
       · rw[List.getElem?_append_right (by omega)];by_cases hi2:i<(vs++new).length
         · rw[List.length_append]at hi2;rw [if_pos (by rw[List.length_append];omega),Tr.get_ofListFrom,if_pos (by omega)];simp [List.getElem?_eq_getElem (show i - vs.length<new.length by omega),List.getD_eq_getElem?_getD]
         · rw[List.length_append]at hi2;rw [if_neg (by rw[List.length_append];omega),List.getElem?_eq_none (by omega)]
     · have hbb:b≠b':=fun e=>hne (by rw[e];rfl);rw [zP,if_neg (by omega),zP,if_neg hbb]
theorem qS{sT xT e sz lo n len m:Nat}{h:zH}{v x:Value}{vs new:List Value}{K:KH}(hT:apTB P sT xT e sz=true)(ho:Own lo n h v e sz len vs)(hlo:lo≤n)(hr:Row n h x e sz m new)(hnew:new.length=m*sz)(h1:∀y∈new,y.oneCell'=true)
(hlim:len+m<1000000)(hK:∀v' h' n',Own lo n' h' v' e sz (len+m) (vs++new)→n≤n'→(∀b,b<n→wQ v≠some b→yG h' b=yG h b)→K h' n' v'=true):wD P [sT,xT] [v,x] h n K=true:=
 append_own0 hT ho hlo (fun _ hne=>pD hne hr) hnew h1 hlim hK
theorem append_text{sT xT e lo n len:Nat}{h:zH}{v:Value}{vs:List Value}{l:List UInt8}{K:KH}(hT:apTB P sT xT e 1=true)(ho:Own lo n h v e 1 len vs)(hlo:lo≤n)
(hlim:len+l.length<1000000)(hK:∀v' h' n',Own lo n' h' v' e 1 (len+l.length) (vs++l.map fun b=>Value.int .u8 (b.toNat:Nat))→n≤n'→(∀b,b<n→wQ v≠some b→yG h' b=yG h b)→K h' n' v'=true):wD P [sT,xT] [v,.string ⟨⟨l⟩⟩] h n K=true:=by
 refine append_own0 hT ho hlo (fun xd hne=>?_) (by simp) (fun y hy=>?_) hlim hK
 · unfold uR;split
   · rename_i k;exact absurd rfl (hne k)
   · have e1:lenV (.string ⟨⟨l⟩⟩)=some l.length:=rfl
     have e2:rowOf h 1 l.length (.string ⟨⟨l⟩⟩)=some (l.map fun b=>Value.int .u8 (b.toNat:Nat)):=by
      show some ((l.take l.length).map fun b=>Value.int .u8 (.ofNat b.toNat))=_;rw [List.take_length];rfl
     have e3:strFits 1 (.string ⟨⟨l⟩⟩)=true:=rfl;rw [e1];dsimp only;rw [e3,e2];rfl
 · obtain⟨b,_,rfl⟩:=List.mem_map.1 hy;rfl
theorem Own.row{lo n:Nat}{h:zH}{v:Value}{e sz len:Nat}{vs:List Value}(o:Own lo n h v e sz len vs)(hsz:1≤sz):Row n h v e sz len vs:=by
 rcases o with⟨rfl,rfl,rfl⟩|⟨b,q1,q2,rfl,q3,q4,q5,q6⟩
 · exact .inl ⟨rfl,rfl,rfl⟩
 · exact .inr ⟨b,0,inf,vs.length,zc e sz,1,q2,rfl,q4,q3,by omega,fun j v e=>by rw[q6,Nat.zero_add];exact e,.inr ⟨rfl,rfl,rfl,hsz⟩⟩
theorem Row.ext{n:Nat}{h:zH}{v:Value}{e sz len:Nat}{vs:List Value}(r:Row n h v e sz len vs){h':zH}{n':Nat}(ex:Ext h n h' n'):Row n' h' v e sz len vs:=by
 rcases r with⟨rfl,rfl,rfl⟩|⟨b,off,cap,m,z,kd,hb,rfl,hl,hi,hm,hr,hc⟩
 · exact .inl ⟨rfl,rfl,rfl⟩
 · exact .inr ⟨b,off,cap,m,z,kd,Nat.lt_of_lt_of_le hb ex.1,rfl,hl,by rw[ex.2 b hb];exact hi,hm,ex.row hb hr,hc⟩
theorem Row.elem{n:Nat}{h:zH}{v:Value}{e sz len:Nat}{vs:List Value}(r:Row n h v e sz len vs){i:Nat}(hi:i<len):∃b off cap,v = .slice (some ⟨b,off,none⟩) len cap∧b<n∧rowAt h b (off+i*sz) ((vs.drop (i*sz)).take sz)∧((vs.drop (i*sz)).take sz).length=sz:=by
 rcases r with⟨rfl,rfl,rfl⟩|⟨b,off,cap,m,z,kd,hb,rfl,hl,hi2,hm,hr,hc⟩
 · omega
 · refine⟨b,off,cap,rfl,hb,fun j v e=>?_,?_⟩
   · rw[List.getElem?_take]at e;split at e
     · rw[List.getElem?_drop]at e;have:=hr _ v e;rw [← this];congr 1;omega
     · cases e
   · rw[List.length_take,List.length_drop,hl];have:i*sz+sz≤len*sz:=by rw[← Nat.succ_mul];exact Nat.mul_le_mul_right _ hi
     omega
theorem slice_from{n:Nat}{h:zH}{v:Value}{e sz len:Nat}{vs:List Value}{ty:TypeId}{ei:TypeInfo}(hu:und P ty=some (.slice e))(hi:inf? P e=some ei)(hs:ei.size=sz)(r:Row n h v e sz len vs){k:IntKind}{i:Nat}(hle:i≤len) :
 ∃v',uJ P h ty v (some (.int k (i:Nat))) none none=some v'∧Row n h v' e sz (len - i) (vs.drop (i*sz))∧(wQ v'=wQ v):=by
 rcases r with⟨rfl,rfl,rfl⟩|⟨b,off,cap,m,z,kd,hb,rfl,hl,hi2,hm,hr,hc⟩
 · obtain rfl:i=0:=by omega
   refine⟨.slice none 0 0,?_,.inl ⟨rfl,rfl,by simp⟩,rfl⟩;unfold uJ;rw [hu];dsimp only;rw [hi];rfl
 · have hdl:(vs.drop (i*sz)).length=(len - i)*sz:=by rw[List.length_drop,hl,Nat.sub_mul]
   have hrd:∀off',off'=off+i*sz→rowAt h b off' (vs.drop (i*sz)):=fun off' e j v hj=>by
    subst e;rw [List.getElem?_drop]at hj;have:=hr _ v hj;rw [← this];congr 1;omega
   have hle2:i*sz≤len*sz:=Nat.mul_le_mul_right _ hle;rcases hc with⟨hc1,hc2⟩|⟨rfl,rfl,rfl,hsz⟩
   · have hci:Nat.beq cap inf=false:=by
      cases e9:Nat.beq cap inf with
      | false=>rfl
      | true=>have:=yL e9;omega
     have b1:wK 0 len (some (.int k (i:Nat)))=some i:=by
      show(cond (Nat.ble i len) (some i) none:Option Nat)=some i;rw [vE hle];rfl
     have main:uJ P h ty (.slice (some ⟨b,off,none⟩) len cap) (some (.int k (i:Nat))) none none=some (Value.slice (some (cond (Nat.beq cap i) ⟨b,off,none⟩ (far ⟨b,off,none⟩ (Nat.mul i sz)))) (Nat.sub len i) (Nat.sub cap i)):=by
      unfold uJ;rw [hu];dsimp only;rw [hi];dsimp only;rw [hci];show qG ⟨b,off,none⟩ len cap ei.size (some (.int k (i:Nat))) none none=_;unfold qG
      show((match wK len cap none with
       | none=>none
       | some h=>match wK 0 h (some (.int k (i:Nat))) with
        | none=>none
        | some l=>cond (Nat.blt cap inf && Nat.ble h cap) (some (Value.slice (some (cond (Nat.beq cap l) ⟨b,off,none⟩ (far ⟨b,off,none⟩ (Nat.mul l ei.size)))) (Nat.sub h l) (Nat.sub cap l))) none):Option Value)=_
      show((match wK 0 len (some (.int k (i:Nat))) with
       | none=>none
       | some l=>cond (Nat.blt cap inf && Nat.ble len cap) (some (Value.slice (some (cond (Nat.beq cap l) ⟨b,off,none⟩ (far ⟨b,off,none⟩ (Nat.mul l ei.size)))) (Nat.sub len l) (Nat.sub cap l))) none):Option Value)=_
      rw[b1];dsimp only;rw [rA hc1,vE hc2,hs];rfl
     refine⟨_,main,?_,?_⟩
     · cases e9:Nat.beq cap i with
       | true=>
        have:=yL e9;obtain rfl:i=len:=by omega
        refine .inr ⟨b,off,Nat.sub cap i,m,z,kd,hb,rfl,hdl,hi2,?_,fun j v hj=>?_,.inl ⟨?_,?_⟩⟩
        · rw[hdl];have:i - i=0:=Nat.sub_self i;rw [this];omega
        · have:(vs.drop (i*sz)).length=0:=by rw[hdl,Nat.sub_self,Nat.zero_mul]
          rw[List.length_eq_zero_iff.1 this]at hj;simp at hj
        · show cap - i<inf;omega
        · show i - i≤cap - i;omega
       | false=>
        refine .inr ⟨b,off+i*sz,Nat.sub cap i,m,z,kd,hb,rfl,hdl,hi2,?_,hrd _ rfl,.inl ⟨?_,?_⟩⟩
        · rw[hdl,Nat.sub_mul];omega
        · show cap - i<inf;omega
        · show len - i≤cap - i;omega
     · cases Nat.beq cap i <;> rfl
   · have b1:wK 0 len (some (.int k (i:Nat)))=some i:=by
      show(cond (Nat.ble i len) (some i) none:Option Nat)=some i;rw [vE hle];rfl
     have hci:Nat.beq inf inf=true:=Nat.beq_refl _
     have main:uJ P h ty (.slice (some ⟨b,off,none⟩) len inf) (some (.int k (i:Nat))) none none=some (Value.slice (some (far ⟨b,off,none⟩ (Nat.mul i sz))) (Nat.sub len i) inf):=by
      unfold uJ;rw [hu];dsimp only;rw [hi];dsimp only;rw [hci];cases hg:yG h b <;> rw[hg]at hi2 <;> first|(cases hi2;done)|(exact absurd (kd_of hi2) (by decide))|skip
      rename_i c kn z' kd';have q3':some (kn,z',kd')=some (m,zc e sz,1):=hi2;simp only[Option.some.injEq,Prod.mk.injEq]at q3';obtain⟨rfl,rfl,rfl⟩:=q3';show cond (Nat.beq (zc e sz) (zc e ei.size) && Nat.ble 1 ei.size) (aSliceOp ⟨b,off,none⟩ len ei.size (some (.int k (i:Nat))) none none) none=_;rw [hs,Nat.beq_refl,vE hsz]
      show((match wK 0 len (some (.int k (i:Nat))) with
       | none=>none
       | some l=>some (Value.slice (some (far ⟨b,off,none⟩ (Nat.mul l sz))) (Nat.sub len l) inf)):Option Value)=_
      rw[b1]
     refine⟨_,main,.inr ⟨b,off+i*sz,inf,m,zc e sz,1,hb,rfl,hdl,hi2,?_,hrd _ rfl,.inr ⟨rfl,rfl,rfl,hsz⟩⟩,rfl⟩;rw [hdl,Nat.sub_mul];omega
end
def TabsH(tabs:List (Nat×List Value))(h:zH):Prop:=∀p∈tabs,(∃z,tH (yG h p.1)=some (p.2.length,z,2))∧∀i,xX h p.1 i=p.2[i]?
noncomputable def hasB(P:Program)(f:FuncId):Bool:=match P.funcs[f]? with
 | some fn=>match fn.body with
  | some _=> !(fn.name == "runtime.NumGoroutine")
  | none=>false
 | none=>false
section
variable {P:Program} {ng:Nat}
theorem hasB_of{f:FuncId}(h:hasB P f=true):∃fn body,P.funcs[f]? = some fn∧fn.body=some body∧(fn.name == "runtime.NumGoroutine")=false:=by
 unfold hasB at h;split at h
 · rename_i fn e;split at h
   · rename_i body e2;exact⟨fn,body,e,e2,by simpa using h⟩
   · cases h
 · cases h
theorem scal_one{ρ : Inj}{v v':Value}(hv:uV v=true)(r:RV ρ v v'):v'=v:=by
 cases r <;> first|(cases hv;done)|rfl
theorem TabsH.world{tabs:List (Nat×List Value)}{h:zH}{n:Nat}{ρ : Inj}{base:Nat}{w0 wd:World}(t:TabsH tabs h)(hg:∀p∈tabs,p.1<ng∧p.2.all uV=true)(r:HeapR P ng ρ base w0 h n wd):oF wd tabs:=by
 intro p hp;obtain⟨⟨z,h1⟩,h2⟩:=t p hp;obtain⟨g1,g2⟩:=hg p hp;obtain⟨B,e1,e2⟩:=r.glob p.1 g1;have hl:yG h p.1≠.dead:=fun e=>by rw[e]at h1;cases h1
 obtain⟨o,q1,q2⟩:=r.obj p.1 B e1 hl;unfold xX at h2;cases ho:yG h p.1 <;> rw[ho]at h1 <;> first|(cases h1;done)|(exact absurd (kd_of h1) (by decide))|skip
 rename_i c k z' kd;have h1':some (k,z',kd)=some (p.2.length,z,2):=h1;simp only[Option.some.injEq,Prod.mk.injEq]at h1';obtain⟨rfl,rfl,rfl⟩:=h1';rw [ho]at q2 h2
 cases q2 with
 | cells hn hs hk hz hv hb hf =>
  rename_i c' el lo hi;rw [e2]at q1;have hsz:c'.size=p.2.length:=by rw[hs];exact(hk (by omega)).symm
  have:c'=⟨p.2⟩:=by
   apply Array.ext
   · simpa using hsz
   · intro i i1 i2;have i3:i<p.2.length:=by omega
     have r1:=hv i c'[i] i3 (Array.getElem?_eq_getElem i1);have r2:=h2 i;unfold sA at r2;dsimp only at r2;rw [if_pos i3,List.getElem?_eq_getElem i3]at r2;injection r2 with r2
     rw[r2]at r1;have:=scal_one (List.all_eq_true.1 g2 _ (List.getElem_mem i3)) r1;rw [this];rfl
  rw[this]at q1;exact⟨el,(lo,hi),q1⟩
theorem scals_same{ρ : Inj}{args args':List Value}(ha:args.all uV=true)(r:RVs ρ args args'):args'=args:=by
 apply List.ext_getElem?;intro i
 cases e:args[i]? with
 | none=>exact List.getElem?_eq_none (by rw[← r.1];exact List.getElem?_eq_none_iff.1 e)
 | some x=>
  obtain⟨x',e1,e2⟩:=r.at e;rw [e1,scal_one (List.all_eq_true.1 ha x (List.mem_iff_getElem?.2 ⟨i,e⟩)) e2]
theorem RV.scal_refl{ρ : Inj}{v:Value}(hv:uV v=true):RV ρ v v:=by
 cases v <;> first|(cases hv;done)|skip
 · exact .bool _
 · exact .int _ _
 · exact .string _
 · exact .nilFunc
 · exact .nilIface
def isRes(v:Value):Bool:=match v with
 | .tuple l=>l.toList.all uV
 | v=>uV v
theorem RV.res_refl{ρ : Inj}{v:Value}(hv:isRes v=true):RV ρ v v:=by
 cases v <;> first|(cases hv;done)|skip
 · exact .bool _
 · exact .int _ _
 · exact .string _
 · exact .nilFunc
 · exact .nilIface
 · rename_i l;refine .tuple rfl fun i w w' a b=>?_;rw [a]at b;injection b with b;subst b
   exact RV.scal_refl (List.all_eq_true.1 hv w (List.mem_iff_getElem?.2 ⟨i,a⟩))
theorem qI{f:FuncId}{args:List Value}{h:zH}{n:Nat}{v:Value}{tabs:List (Nat×List Value)}(hf:hasB P f=true)(ha:args.all uV=true)(hv:isRes v=true)(ht:TabsH tabs h)(hg:∀p∈tabs,p.1<ng∧p.2.all uV=true)
(H:∀wd:World,oF wd tabs→Calls P f ⟨args⟩ wd fun e w'=>e = .returned v∧Go.RowKit.Below wd.heap.size wd w'):pA P ng f args h n v:=by
 intro u k hk;refine loS_call.2 ⟨.ret v,u,h,n,hk _ _ _ ⟨rfl,rfl,rfl⟩,hasB_of hf,fun ρ base w0 wd args' cs hH hra hu=>?_⟩;obtain rfl:=scals_same ha hra;obtain⟨e,w',fr,⟨rfl,hb⟩,hc,hfn,hl⟩:=H wd (ht.world hg hH) cs;obtain⟨k1,k2⟩:=hH.stay hb;obtain⟨y1,y2,y3,y4⟩:=hl;exact⟨ρ,w',fr,cs,hc,k1,k2,CsTo.refl _ _,(fun e=>Bool.noConfusion e),hfn,v,y1,y2,y3,y4,RV.res_refl hv⟩
theorem row_of_calls{f:FuncId}{args:List Value}{h:zH}{n len cap:Nat}{cs:List Value}{el:TypeId}{tabs:List (Nat×List Value)}(hf:hasB P f=true)(ha:args.all uV=true)(hc:cs.all uV=true)(hlen:len≤cap)(hcap:cap≠inf)
(ht:TabsH tabs h)(hg:∀p∈tabs,p.1<ng∧p.2.all uV=true)
(H:∀wd:World,oF wd tabs→Calls P f ⟨args⟩ wd fun e w'=>e = .returned (.slice (some ⟨wd.heap.size,0,none⟩) len cap)∧w'=wd.alloc (.cells ⟨cs⟩ el)) :
 Rets P ng f args h n fun v' h' n'=>v' = .slice (some ⟨n,0,none⟩) len cap∧h'=h.set .dead (mkC cs 0 0) n∧n'=n+1:=by
 intro u k hk;refine loS_call.2 ⟨_,u,_,_,hk _ _ _ ⟨rfl,rfl,rfl⟩,hasB_of hf,fun ρ base w0 wd args' cs' hH hra hu=>?_⟩;obtain rfl:=scals_same ha hra;obtain⟨e,w',fr,⟨rfl,rfl⟩,hcm,hfn,hl⟩:=H wd (ht.world hg hH) cs'
 have hrow:RVs ρ cs (⟨cs⟩:Array Value).toList:=⟨rfl,fun i v v' a b=>by
  have b':cs[i]? = some v':=b;rw [a]at b';injection b' with b';subst b'
  exact RV.scal_refl (List.all_eq_true.1 hc v (List.mem_iff_getElem?.2 ⟨i,a⟩))⟩
 obtain⟨k1,k2⟩:=hH.alloc (mkC cs 0 0) (.cells ⟨cs⟩ el) ⟨wd.heap.size,cs.length,0⟩ rfl (hH.newRow (cs:=cs) (cs':=⟨cs⟩) hrow el);obtain⟨y1,y2,y3,y4⟩:=hl;refine⟨_,_,fr,cs',hcm,k1,k2,CsTo.refl _ _,(fun e=>Bool.noConfusion e),hfn,_,y1,y2,y3,y4,?_⟩;exact .slice (B:=⟨wd.heap.size,cs.length,0⟩) (by show(if n=n then _ else _)=_;rw [if_pos rfl]) hcap hlen (.inl rfl)
end
abbrev str(l:List UInt8):Value:=.string ⟨⟨l⟩⟩
section
variable {P:Program} {ng:Nat}
theorem yE{ty:TypeId}{q:Bool}{a b:List UInt8}{K:Value→Bool}(h:a.length+b.length<1000000)(hK:K (str (a++b))=true):xY uF P .add ty q (str a) (str b) K=true:=by
 show opt (cond (Nat.blt (Nat.add a.length b.length) 1000000) (some (Value.string ⟨⟨a++b⟩⟩)) none) K=true;rw [rA (show Nat.add a.length b.length<1000000 from h)];exact hK
theorem len_strL{ty:TypeId}(hu:und P ty=some .string)(l:List UInt8)(r:List Value)(h:zH):zX P .len [ty] (str l::r) h=some (.int .i64 (l.length:Nat)):=len_str hu _ r h
theorem index_strL{ty:TypeId}(hu:und P ty=some .string)(l:List UInt8)(k:IntKind)(i:Nat)(b:UInt8)(hb:l[i]? = some b):rF P ty (str l) (.int k (i:Nat))=some (.int .u8 (b.toNat:Nat)):=index_str hu _ k i b hb
theorem vX(f:Int→Int→Bool)(ty:TypeId)(q:Bool)(a b:List UInt8)(K:Bool→Bool):yB f P .eql ty q (str a) (str b) K=K (a == b):=cmpS_eq f P ty q _ _ K
theorem cmpSL_ne(f:Int→Int→Bool)(ty:TypeId)(q:Bool)(a b:List UInt8)(K:Bool→Bool):yB f P .neq ty q (str a) (str b) K=K (!(a == b)):=cmpS_ne f P ty q _ _ K
theorem yX{ty e:TypeId}(hu:und P ty=some (.slice e)){n:Nat}{h:zH}{v:Value}{el sz len:Nat}{vs:List Value}(r:Row n h v el sz len vs)(l:List Value)(h':zH):zX P .len [ty] (v::l) h'=some (.int .i64 (len:Nat)):=by
 rcases r with⟨rfl,rfl,rfl⟩|⟨b,off,cap,m,z,kd,hb,rfl,_⟩
 · exact len_sl hu _ _ _ _ _
 · exact len_sl hu _ _ _ _ _
theorem xG{ty tl:TypeId}{n:Nat}{h:zH}{v:Value}{el len:Nat}{vs:List Value}(r:Row n h v el 1 len vs)(hx:ixOf P ty = .slice 1)(hs:yJ P tl = .scal){k:IntKind}{i:Nat}{x:Value}(hi:vs[i]? = some x) :
 ∃p,zR P ty v (.int k (i:Nat))=some p∧zE P tl h p=some x:=by
 rcases r with⟨rfl,rfl,rfl⟩|⟨b,off,cap,m,z,kd,hb,rfl,hl,hi2,hm,hr,hc⟩
 · simp at hi
 · have hlt:i<len:=by
    have:=(List.getElem?_eq_some_iff.1 hi).1;omega
   refine⟨_,index_sl hx hlt,load_scal hs ?_⟩;rw [Nat.mul_one];exact hr i x hi
theorem tL{ty tl:TypeId}{n:Nat}{h:zH}{v:Value}{el sz len:Nat}{vs:List Value}(r:Row n h v el sz len vs)(hx:ixOf P ty = .slice sz)(hs:yJ P tl = .agg sz)(hsz:0<sz){k:IntKind}{i:Nat}(hi:i<len) :
 ∃p,zR P ty v (.int k (i:Nat))=some p∧zE P tl h p=some (.agg ⟨(vs.drop (i*sz)).take sz⟩):=by
 obtain⟨b,off,cap,rfl,hb,hr,hl⟩:=r.elem hi;exact⟨_,index_sl hx hi,load_agg hs hl hsz hr⟩
theorem opt_of{α : Type}{q:Option α}{x: α}{K: α→Bool}(h:q=some x)(hK:K x=true):opt q K=true:=by rw[h];exact hK
end
section
variable {P:Program} {ng:Nat}
theorem Row.world{n:Nat}{h:zH}{v v':Value}{el len:Nat}{vs:List Value}{ρ : Inj}{base:Nat}{w0 wd:World}(r:Row n h v el 1 len vs)(hs:vs.all uV=true)(hH:HeapR P ng ρ base w0 h n wd)(hv:RV ρ v v') :
 (len=0∧∃a c,v' = .slice a 0 c)∨(∃bk o c,v' = .slice (some ⟨bk,o,none⟩) len c∧len≤c∧bk<wd.heap.size∧∀(j:Nat) x,vs[j]? = some x→wd.cell? ⟨bk,o+j,none⟩=some x):=by
 rcases r with⟨rfl,rfl,rfl⟩|⟨b,off,cap,m,z,kd,hb,rfl,hl,hi,hm,hr,hc⟩
 · cases hv;exact .inl ⟨rfl,_,_,rfl⟩
 · rw[Nat.mul_one]at hl;have hlive:yG h b≠.dead:=fun e=>by rw[e]at hi;cases hi
   have main:∀(B:Bl),ρ b=some B→B.b<wd.heap.size∧∀(j:Nat) x,vs[j]? = some x→wd.cell? ⟨B.b,off+j,none⟩=some x:=by
    intro B eB;obtain⟨o,q1,q2⟩:=hH.obj b B eB hlive
    have hsz:B.b<wd.heap.size:=by
     rcases Nat.lt_or_ge B.b wd.heap.size with h1|h1
     · exact h1
     · rw[Array.getElem?_eq_none h1]at q1;cases q1
    refine⟨hsz,fun j x hj=>?_⟩;have hcell:=hr j x hj;unfold xX at hcell;cases ho:yG h b <;> rw[ho]at hcell <;> first|(cases hcell;done)|skip
    rotate_left
    · rename_i c kn;rw [ho]at q2
      cases q2 with
      | rows hn hv' =>
       rename_i c' el fr;obtain⟨hcv,hu⟩:=rows_cell hcell
       have hlt:off+j<kn:=by
        rcases pC hcell with⟨_,_,_,_,e1,_⟩|⟨_,_,e1,e2,_⟩
        · cases e1
        · injection e1 with _ e1;subst e1;exact e2
       have h2:off+j<c'.size:=by omega
       have rr:=hv' (off+j) c'[off+j] (Array.getElem?_eq_getElem h2) (by rw[hcv];exact hu);rw [hcv]at rr;have e3:=scal_one (List.all_eq_true.1 hs x (List.mem_iff_getElem?.2 ⟨j,hj⟩)) rr;unfold World.cell?;dsimp only;rw [q1];show c'[off+j]? = some x;rw [Array.getElem?_eq_getElem h2,e3]
    rename_i c kn z' kd';unfold sA at hcell;dsimp only at hcell;rw [ho]at q2
    cases q2 with
    | cells hn hs' hk hz hv' hb' hf=>
     rename_i c' el lo hi';by_cases hlt:off+j<kn
     · rw[if_pos hlt]at hcell;injection hcell with hcell
       have h2:off+j<c'.size:=by omega
       have rr:=hv' (off+j) c'[off+j] hlt (Array.getElem?_eq_getElem h2);rw [hcell]at rr;have e3:=scal_one (List.all_eq_true.1 hs x (List.mem_iff_getElem?.2 ⟨j,hj⟩)) rr;unfold World.cell?;dsimp only;rw [q1];show c'[off+j]? = some x;rw [Array.getElem?_eq_getElem h2,e3]
     · rw[if_neg hlt]at hcell;cases hcell
   cases hv with
   | slice0 e a=>exact .inl ⟨rfl,_,_,rfl⟩
   | slice e hc' hlc ho=>
    rename_i B o';obtain⟨m1,m2⟩:=main B e;rcases ho with rfl|h0
    · exact .inr ⟨B.b,o',cap,rfl,hlc,m1,m2⟩
    · exact .inl ⟨by omega,_,_,by rw[show len=0 by omega]⟩
   | opened e hlc ho=>
    rename_i B o' c';obtain⟨m1,m2⟩:=main B e;rcases ho with⟨rfl,_⟩|⟨h0,_⟩
    · exact .inr ⟨B.b,o',c',rfl,hlc,m1,m2⟩
    · exact .inl ⟨by omega,_,_,by rw[show len=0 by omega]⟩
theorem pure_of_calls_row{f:FuncId}{sv:Value}{args:List Value}{h:zH}{n el len:Nat}{vs:List Value}{v:Value}{tabs:List (Nat×List Value)}(hf:hasB P f=true)(r:Row n h sv el 1 len vs)(hvs:vs.all uV=true)(ha:args.all uV=true)(hv:isRes v=true)
(ht:TabsH tabs h)(hg:∀p∈tabs,p.1<ng∧p.2.all uV=true)
(H:∀(wd:World) (sv':Value),oF wd tabs→((len=0∧∃a c,sv' = .slice a 0 c)∨(∃bk o c,sv' = .slice (some ⟨bk,o,none⟩) len c∧len≤c∧bk<wd.heap.size∧∀(j:Nat) x,vs[j]? = some x→wd.cell? ⟨bk,o+j,none⟩=some x))→
  Calls P f ⟨sv'::args⟩ wd fun e w'=>e = .returned v∧Go.RowKit.Below wd.heap.size wd w'):pA P ng f (sv::args) h n v:=by
 intro u k hk;refine loS_call.2 ⟨.ret v,u,h,n,hk _ _ _ ⟨rfl,rfl,rfl⟩,hasB_of hf,fun ρ base w0 wd args' cs hH hra hu=>?_⟩;obtain⟨sv',r',rfl,hsv,hr'⟩:=hra.of_cons;obtain rfl:=scals_same ha hr';obtain⟨e,w',fr,⟨rfl,hb⟩,hc,hfn,hl⟩:=H wd sv' (ht.world hg hH) (r.world hvs hH hsv) cs;obtain⟨k1,k2⟩:=hH.stay hb;obtain⟨y1,y2,y3,y4⟩:=hl;exact⟨ρ,w',fr,cs,hc,k1,k2,CsTo.refl _ _,(fun e=>Bool.noConfusion e),hfn,v,y1,y2,y3,y4,RV.res_refl hv⟩
end
def Bld(T:Nat)(h:zH)(b:Nat)(p sv:Value):Prop:=tH (yG h b)=some (2,T+1,0)∧xX h b 0=some p∧xX h b 1=some sv
structure OneTurned (w w':World) (g:Nat):Prop where
 os:w'.os=w.os
 tape:w'.tape=w.tape
 output:w'.output=w.output
 size:w'.heap.size=w.heap.size
 rest:∀c,c≠g→w'.heap[c]? = w.heap[c]?
section
variable {P:Program} {ng:Nat}
theorem Bld.world{T:Nat}{h:zH}{b n:Nat}{p sv:Value}{ρ : Inj}{base:Nat}{w0 wd:World}{B:Bl}(hB:Bld T h b p sv)(hH:HeapR P ng ρ base w0 h n wd)(e: ρ b=some B) :
 ∃x y c,yG h b = .cells c 2 (T+1) 0∧Tr.get undef c 0=p∧Tr.get undef c 1=sv∧wd.heap[B.b]? = some (.cells #[x,y] T (0,0))∧RV ρ p x∧RV ρ sv y∧base≤B.b∧B.n=2:=by
 obtain⟨h1,h2,h3⟩:=hB;have hlive:yG h b≠.dead:=fun e=>by rw[e]at h1;cases h1
 obtain⟨o,q1,q2⟩:=hH.obj b B e hlive;unfold xX at h2 h3;cases ho:yG h b <;> rw[ho]at h1 <;> first|(cases h1;done)|(exact absurd (kd_of h1) (by decide))|skip
 rename_i c kn z kd;have h1':some (kn,z,kd)=some (2,T+1,0):=h1;simp only[Option.some.injEq,Prod.mk.injEq]at h1';obtain⟨rfl,rfl,rfl⟩:=h1';rw [ho]at q2 h2 h3;have g0:Tr.get undef c 0=p:=by have:some (Tr.get undef c 0)=some p:=h2;injection this
 have g1:Tr.get undef c 1=sv:=by have:some (Tr.get undef c 1)=some sv:=h3;injection this
 cases q2 with
 | cells hn hs hk hz hv hb hf=>
  rename_i c' el lo hi;obtain⟨rfl,rfl⟩:=hf (by decide);have hel:T+1=el+1:=hz.2 rfl (by omega);obtain rfl:T=el:=by omega
  have hn2:=hk (by decide);have hsz:c'.size=2:=by omega
  have e0:c'[0]? = some (c'[0]'(by omega)):=Array.getElem?_eq_getElem (by omega);have e1:c'[1]? = some (c'[1]'(by omega)):=Array.getElem?_eq_getElem (by omega);have r0:=hv 0 _ (by omega) e0;have r1:=hv 1 _ (by omega) e1;rw [g0]at r0;rw [g1]at r1;refine⟨_,_,c,rfl,g0,g1,?_,r0,r1,hb (by decide),hn2.symm⟩;rw [q1];congr 2
  apply Array.ext
  · simp[hsz]
  · intro i i1 i2;have:i=0∨i=1:=by omega
    rcases this with rfl|rfl <;> rfl
theorem copyCheck_fresh{f:FuncId}{T b n:Nat}{h:zH}{sv:Value}(hf:hasB P f=true)(hB:Bld T h b (.pointer none) sv)
(H:∀(wd:World) (c:Nat),wd.cell? ⟨c,0,none⟩=some (.pointer none)→wd.shape? c=some (T,2)→wd.frozen? ⟨c,0,none⟩=false→
  Calls P f #[.pointer (some ⟨c,0,none⟩)] wd fun e w'=>e = .returned (.tuple #[])∧w'=wd.setCell ⟨c,0,none⟩ (.pointer (some ⟨c,0,none⟩))) :
 Rets P ng f [.pointer (some ⟨b,0,none⟩)] h n fun v h' n'=>v = .tuple #[]∧h'=h.set .dead (stC (yG h b) 0 [.pointer (some ⟨b,0,none⟩)]) b∧n'=n:=by
 intro u k hk;refine loS_call.2 ⟨_,u,_,_,hk _ _ _ ⟨rfl,rfl,rfl⟩,hasB_of hf,fun ρ base w0 wd args' cs hH hra hu=>?_⟩;obtain⟨v',r',rfl,hv,hr'⟩:=hra.of_cons;obtain rfl:=hr'.of_nil
 cases hv with
 | ptr e =>
  rename_i B;obtain⟨x,y,c,ho,g0,g1,q1,rx,ry,hbase,hBn⟩:=hB.world hH e;cases rx
  have hc0:wd.cell? ⟨B.b,0,none⟩=some (.pointer none):=by unfold World.cell?;dsimp only;rw [q1];rfl
  have hsh:wd.shape? B.b=some (T,2):=by unfold World.shape?;rw [q1];rfl
  have hfz:wd.frozen? ⟨B.b,0,none⟩=false:=by unfold World.frozen?;dsimp only;rw [q1];rfl
  obtain⟨e2,w',fr,⟨rfl,rfl⟩,hcm,hfn,hl⟩:=H wd B.b hc0 hsh hfz cs;obtain⟨y1,y2,y3,y4⟩:=hl
  have hheap:(wd.setCell ⟨B.b,0,none⟩ (.pointer (some ⟨B.b,0,none⟩))).heap[B.b]? = some (.cells #[.pointer (some ⟨B.b,0,none⟩),y] T (0,0)):=by
   unfold World.setCell;dsimp only;rw [Array.getElem?_modify,if_pos rfl,q1];rfl
  obtain⟨k1,k2⟩:=hH.turn e (by rw[ho];exact AObj.noConfusion) (stC (yG h b) 0 [.pointer (some ⟨b,0,none⟩)]) (.cells #[.pointer (some ⟨B.b,0,none⟩),y] T (0,0)) (wd.setCell ⟨B.b,0,none⟩ (.pointer (some ⟨B.b,0,none⟩))) hbase (by
   rw[ho];refine .cells (by omega) (by simp[hBn]) (fun _=>hBn.symm) ⟨fun h=>absurd h (by decide),fun _ _=>rfl⟩ (fun i v' hi e3=>?_) (fun _=>hbase) (fun _=>⟨rfl,rfl⟩);rw [Tr.get_ofListFrom];have hi2:i=0∨i=1:=by omega
   rcases hi2 with rfl|rfl
   · rw[if_pos (by simp)];have e4:some (Value.pointer (some ⟨B.b,0,none⟩))=some v':=e3;injection e4 with e4;subst e4
     exact .ptr e
   · rw[if_neg (by simp),g1];have e4:some y=some v':=e3;injection e4 with e4;subst e4
     exact ry) hheap (by simp[World.setCell]) (fun c hc=>by
   unfold World.setCell;dsimp only;rw [Array.getElem?_modify,if_neg (fun h=>hc h.symm)]) rfl rfl rfl
  exact⟨ρ,_,fr,cs,hcm,k1,k2,CsTo.refl _ _,(fun e=>Bool.noConfusion e),hfn,_,y1,y2,y3,y4,RV.res_refl rfl⟩
theorem copyCheck_used{f:FuncId}{T b n:Nat}{h:zH}{sv:Value}(hf:hasB P f=true)(hB:Bld T h b (.pointer (some ⟨b,0,none⟩)) sv)
(H:∀(wd:World) (c:Nat),wd.cell? ⟨c,0,none⟩=some (.pointer (some ⟨c,0,none⟩))→Calls P f #[.pointer (some ⟨c,0,none⟩)] wd fun e w'=>e = .returned (.tuple #[])∧w'=wd) :
 Rets P ng f [.pointer (some ⟨b,0,none⟩)] h n fun v h' n'=>v = .tuple #[]∧h'=h∧n'=n:=by
 intro u k hk;refine loS_call.2 ⟨_,u,_,_,hk _ _ _ ⟨rfl,rfl,rfl⟩,hasB_of hf,fun ρ base w0 wd args' cs hH hra hu=>?_⟩;obtain⟨v',r',rfl,hv,hr'⟩:=hra.of_cons;obtain rfl:=hr'.of_nil
 cases hv with
 | ptr e =>
  rename_i B;obtain⟨x,y,c,ho,g0,g1,q1,rx,ry,hbase,hBn⟩:=hB.world hH e
  cases rx with
  | ptr e'=>
   rename_i B';rw [e]at e';injection e' with e'
   subst e';have hc0:wd.cell? ⟨B.b,0,none⟩=some (.pointer (some ⟨B.b,0,none⟩)):=by unfold World.cell?;dsimp only;rw [q1];rfl
   obtain⟨e2,w',fr,⟨rfl,rfl⟩,hcm,hfn,hl⟩:=H wd B.b hc0 cs;obtain⟨y1,y2,y3,y4⟩:=hl;exact⟨ρ,_,fr,cs,hcm,hH,Grow.refl _ _ _ _ hH.dom,CsTo.refl _ _,(fun e=>Bool.noConfusion e),hfn,_,y1,y2,y3,y4,RV.res_refl rfl⟩
abbrev bytesV(l:List UInt8):List Value:=l.map fun b=>Value.int .u8 (b.toNat:Nat)
theorem builder_String{f:FuncId}{T e8 b lo n:Nat}{h:zH}{p sv:Value}{l:List UInt8}(hf:hasB P f=true)(hB:Bld T h b p sv)(ho:Own lo n h sv e8 1 l.length (bytesV l))(hne:wQ sv≠some b)(hlen:l.length<1000000)
(H0:∀(wd:World) (c:Nat) (x:Value),wd.heap[c]? = some (.cells #[x,.slice none 0 0] T (0,0))→Calls P f #[.pointer (some ⟨c,0,none⟩)] wd fun e w'=>e = .returned (.string ⟨#[]⟩)∧Go.RowKit.Below wd.heap.size wd w')
(H:∀(wd:World) (c g cap:Nat) (x:Value) (cur:Array Value),l≠[]→wd.heap[c]? = some (.cells #[x,.slice (some ⟨g,0,none⟩) l.length cap] T (0,0))→wd.heap[g]? = some (.cells cur e8 (0,0))→l.length≤cap→cap≤cur.size→
  (∀(j:Nat) (y:UInt8),l[j]? = some y→cur[j]? = some (.int .u8 (y.toNat:Nat)))→Calls P f #[.pointer (some ⟨c,0,none⟩)] wd fun e w'=>e = .returned (.string ⟨⟨l⟩⟩)∧OneTurned wd w' g) :
 Rets P ng f [.pointer (some ⟨b,0,none⟩)] h n fun v h' n'=>v=str l∧n'=n∧(∀b',wQ sv≠some b'→yG h' b'=yG h b'):=by
 intro u k hk;rcases ho with⟨rfl,h0,h1⟩|⟨b2,q1,q2,rfl,q3,q4,q5,q6⟩
 · have hl0:l=[]:=List.length_eq_zero_iff.1 h0;subst hl0;refine loS_call.2 ⟨_,u,_,_,hk _ _ _ ⟨rfl,rfl,fun _ _=>rfl⟩,hasB_of hf,fun ρ base w0 wd args' cs hH hra hu=>?_⟩;obtain⟨v',r',rfl,hv,hr'⟩:=hra.of_cons;obtain rfl:=hr'.of_nil
   cases hv with
   | ptr e=>
    rename_i B;obtain⟨x,y,c,ho,g0,g1,w1,rx,ry,hbase,hBn⟩:=hB.world hH e;cases ry
    obtain⟨e2,w',fr,⟨rfl,hbl⟩,hcm,hfn,hl⟩:=H0 wd B.b x w1 cs;obtain⟨y1,y2,y3,y4⟩:=hl;obtain⟨k1,k2⟩:=hH.stay hbl;exact⟨ρ,_,fr,cs,hcm,k1,k2,CsTo.refl _ _,(fun e=>Bool.noConfusion e),hfn,_,y1,y2,y3,y4,RV.res_refl rfl⟩
 · refine loS_call.2 ⟨.ret (str l),u,h.set .dead .dead b2,n,hk _ _ _ ⟨rfl,rfl,fun b' hb'=>?_⟩,hasB_of hf,fun ρ base w0 wd args' cs hH hra hu=>?_⟩
   · rw[zP,if_neg (fun e=>hb' (by rw[e];rfl))]
   · obtain⟨v',r',rfl,hv,hr'⟩:=hra.of_cons;obtain rfl:=hr'.of_nil
     cases hv with
     | ptr e=>
      rename_i B;obtain⟨x,y,c,ho,g0,g1,w1,rx,ry,hbase,hBn⟩:=hB.world hH e;have hlive:yG h b2≠.dead:=fun e=>by rw[e]at q3;cases q3
      rcases ry.of_slice with⟨G,o',c',eg,rfl,_,hl',⟨hc,_⟩|⟨_,hog⟩⟩|⟨_,hc,_⟩
      · exact absurd rfl hc
      rotate_left
      · exact absurd hc (by decide)
      · skip
        obtain⟨o,z1,z2⟩:=hH.obj b2 G eg hlive;unfold xX at q6;cases hob:yG h b2 <;> rw[hob]at q3 <;> first|(cases q3;done)|(exact absurd (kd_of q3) (by decide))|skip
        rename_i cc kn z kd;have h1':some (kn,z,kd)=some ((bytesV l).length,zc e8 1,1):=q3;simp only[Option.some.injEq,Prod.mk.injEq]at h1';obtain⟨rfl,rfl,rfl⟩:=h1';rw [hob]at z2 q6
        cases z2 with
        | cells hn hs hk' hz hv hb hf' =>
         rename_i cur el lo' hi';obtain⟨rfl,rfl⟩:=hf' (by decide);obtain⟨hel,hGz⟩:=zc_inj (hz.1 rfl);subst hel
         have hc':o'=0∧0+c'*G.z=G.n:=by
          rcases hog with h9|⟨_,h9⟩
          · exact h9
          · exact absurd h9 (Nat.lt_irrefl _)
         obtain⟨rfl,hcn⟩:=hc';rw [← hGz]at hcn
         have hcur:∀(j:Nat) (y:UInt8),l[j]? = some y→cur[j]? = some (.int .u8 (y.toNat:Nat)):=by
          intro j y hj;have hjl:j<l.length:=(List.getElem?_eq_some_iff.1 hj).1;have hjk:j<(bytesV l).length:=by simpa using hjl
          have r2:=q6 j;unfold sA at r2;dsimp only at r2;rw [if_pos hjk]at r2;have e5:(bytesV l)[j]? = some (.int .u8 (y.toNat:Nat)):=by rw[List.getElem?_map,hj];rfl
          rw[e5]at r2;injection r2 with r2
          have hjc:j<cur.size:=by omega
          have r1:=hv j cur[j] hjk (Array.getElem?_eq_getElem hjc);rw [r2]at r1;rw [Array.getElem?_eq_getElem hjc,scal_one rfl r1]
         obtain⟨e2,w',fr,⟨rfl,ht⟩,hcm,hfn,hl⟩:=H wd B.b G.b c' x cur (fun e9=>by rw[e9]at q5;exact absurd q5 (Nat.lt_irrefl _)) w1 z1 hl' (by omega) hcur cs;obtain⟨y1,y2,y3,y4⟩:=hl;obtain⟨k1,k2⟩:=hH.kill b2;have hGbase:base≤G.b:=hb (by decide)
         have hother:∀a A,ρ a=some A→yG (h.set .dead .dead b2) a≠.dead→A.b≠G.b:=by
          intro a A ea hla heq;rw [zP]at hla;by_cases hab:b2=a
          · rw[if_pos hab]at hla;exact hla rfl
          · rw[if_neg hab]at hla;exact hab (hH.inj b2 a G A eg ea hlive hla heq.symm)
         refine⟨ρ,w',fr,cs,hcm,⟨k1.dom,fun a A ea hla=>?_,k1.inj,?_,by rw[ht.size];exact k1.size,k1.glob,k1.ngn⟩,⟨k2.nn,k2.old,k2.new,fun cx hcx hk9=>?_,by rw[ht.size];exact Nat.le_refl _,k2.dead,ht.tape⟩,CsTo.refl _ _,(fun e=>Bool.noConfusion e),hfn,_,y1,y2,y3,y4,RV.res_refl rfl⟩
         · obtain⟨o1,p1,p2⟩:=k1.obj a A ea hla;exact⟨o1,by rw[ht.rest _ (hother a A ea hla)];exact p1,p2⟩
         · exact k1.below.trans ⟨ht.os,ht.tape,ht.output,by rw[ht.size];exact Nat.le_refl _,fun kx hkx=>ht.rest kx (by omega)⟩
         · exact ht.rest cx (fun h9=>hk9 b2 G eg hlive h9.symm)
end
open Go
def cutB(c:UInt8):List UInt8→List UInt8×List UInt8×Bool
 | []=>([],[],false)
 | x::r=>if x=c then([],r,true) else(x::(cutB c r).1,(cutB c r).2.1,(cutB c r).2.2)
def vB(c:UInt8):List UInt8→List (List UInt8)
 | []=>[[]]
 | x::r=>if x=c then []::vB c r else match vB c r with
  | []=>[[x]]
  | h::t=>(x::h)::t
theorem splitL_ne(c:UInt8):∀s,vB c s≠[]:=by
 intro s
 induction s with
 | nil=>simp [vB]
 | cons x r ih=>
  unfold vB;split
  · simp
  · split <;> simp
theorem cutB_idx(c:UInt8):∀s:List UInt8,(Lib.index s [c] = -1∧cutB c s=(s,[],false)∧c∉s)∨(∃i:Nat,Lib.index s [c]=i∧cutB c s=(s.take i,s.drop (i+1),true)∧i<s.length∧s=s.take i++c::s.drop (i+1)∧c∉s.take i):=by
 intro s
 induction s with
 | nil=>exact .inl ⟨rfl,rfl,by simp⟩
 | cons x r ih=>
  by_cases h:x=c
  · subst h;refine .inr ⟨0,?_,?_,by simp,by simp,by simp⟩
    · unfold Lib.index;simp
    · unfold cutB;simp
  · have hp:([c].isPrefixOf (x::r))=false:=by simp[List.isPrefixOf];exact fun e=>h e.symm
    rcases ih with⟨h1,h2,h3⟩|⟨i,h1,h2,h3,h4,h5⟩
    · refine .inl ⟨?_,?_,?_⟩
      · unfold Lib.index;rw [hp,h1];rfl
      · unfold cutB;rw [if_neg h,h2]
      · intro hm;rcases List.mem_cons.1 hm with e|e
        · exact h e.symm
        · exact h3 e
    · refine .inr ⟨i+1,?_,?_,by simp;exact h3,?_,?_⟩
      · unfold Lib.index;rw [hp,h1];have:((i:Int) == -1)=false:=by simp
        rw[this];simp
      · unfold cutB;rw [if_neg h,h2];simp
      · simp only[List.take_succ_cons,List.drop_succ_cons,List.cons_append];rw [← h4]
      · simp only[List.take_succ_cons,List.mem_cons,not_or];exact⟨fun e=>h e.symm,h5⟩
theorem cut_one(c:UInt8)(s:List UInt8):Lib.cut s [c]=cutB c s:=by
 unfold Lib.cut;rcases cutB_idx c s with⟨h1,h2,_⟩|⟨i,h1,h2,h3,_⟩
 · rw[h1,h2];rfl
 · rw[h1,h2,if_pos (by omega)];simp
theorem splitL_cut(c:UInt8):∀s:List UInt8,vB c s=if (cutB c s).2.2 then(cutB c s).1::vB c (cutB c s).2.1 else [s]:=by
 intro s
 induction s with
 | nil=>rfl
 | cons x r ih =>
  have e1:vB c (x::r)=if x=c then []::vB c r else match vB c r with
   | []=>[[x]]
   | h::t=>(x::h)::t:=rfl
  have e2:cutB c (x::r)=if x=c then([],r,true) else(x::(cutB c r).1,(cutB c r).2.1,(cutB c r).2.2):=rfl
  rw[e1,e2];by_cases h:x=c
  · rw[if_pos h,if_pos h];rfl
  · rw[if_neg h,if_neg h,ih];by_cases hb:(cutB c r).2.2=true
    · rw[if_pos hb];dsimp only;rw [if_pos hb]
    · rw[if_neg hb];dsimp only;rw [if_neg hb]
theorem countFrom_one(c:UInt8):∀(k:Nat) (s:List UInt8),s.length<k→Lib.countFrom [c] k s=s.count c:=by
 intro k
 induction k with
 | zero=>intro s h;omega
 | succ k ih=>
  intro s h;unfold Lib.countFrom;rcases cutB_idx c s with⟨h1,_,h3⟩|⟨i,h1,_,h3,h4,h5⟩
  · rw[h1,List.count_eq_zero_of_not_mem h3];rfl
  · have hi:(Lib.index s [c] == -1)=false:=by rw[h1];simp
    rw[hi,h1];simp only[Bool.false_eq_true,if_false,Int.toNat_natCast,List.length_singleton];rw [ih (s.drop (i+1)) (by rw[List.length_drop];omega)]
    have:s.count c=(s.take i).count c+((s.drop (i+1)).count c+1):=by
     conv=>lhs;rw [h4]
     rw[List.count_append,List.count_cons_self]
    rw[this,List.count_eq_zero_of_not_mem h5];omega
theorem splitK_one(c:UInt8):∀(k:Nat) (s:List UInt8),s.count c≤k→Lib.splitK [c] 0 k s=vB c s:=by
 intro k
 induction k with
 | zero=>
  intro s h;rw [splitL_cut];rcases cutB_idx c s with⟨_,h2,_⟩|⟨i,_,_,_,h4,_⟩
  · rw[h2];rfl
  · rw[h4,List.count_append,List.count_cons_self]at h;omega
 | succ k ih=>
  intro s h;rw [splitL_cut];unfold Lib.splitK;rcases cutB_idx c s with⟨h1,h2,_⟩|⟨i,h1,h2,h3,h4,_⟩
  · rw[h1,h2];rfl
  · have hi:(Lib.index s [c] == -1)=false:=by rw[h1];simp
    rw[hi,h2,h1]
    have hc:(s.drop (i+1)).count c≤k:=by
     rw[h4,List.count_append,List.count_cons_self]at h;omega
    have:=ih (s.drop (i+1)) hc;simp only[Bool.false_eq_true,if_false,if_true,Int.toNat_natCast,Nat.add_zero,List.length_singleton];rw [this]
theorem split_one(c:UInt8)(s:ByteArray):(Lib.splitB ⟨#[c]⟩ 0 (Lib.countB s ⟨#[c]⟩) s).map (·.data.toList)=vB c s.data.toList:=by
 rw[Lib.splitB_data];refine splitK_one c _ _ ?_;show _≤Lib.countFrom [c] (s.data.toList.length+1) s.data.toList;rw [countFrom_one c _ _ (by omega)];exact Nat.le_refl _
theorem count_one(c:UInt8)(s:ByteArray):Lib.countB s ⟨#[c]⟩=s.data.toList.count c:=countFrom_one c _ _ (by omega)
theorem splitL_length(c:UInt8):∀s,(vB c s).length=s.count c+1:=by
 intro s
 induction s with
 | nil=>rfl
 | cons x r ih=>
  unfold vB;by_cases h:x=c
  · subst h;simp [ih]
  · rw[if_neg h,List.count_cons_of_ne h];split
    · rename_i e;exact absurd e (splitL_ne c r)
    · rename_i a b e;rw [e]at ih;simpa using ih
open Go.Shelf Go.RowKit Go.Proofs
variable {P:Program} {ρ : Ren}
theorem freeze_one(w:World)(g m:Nat):OneTurned w (w.freeze ⟨g,0,none⟩ m) g:=by
 unfold World.freeze;split
 · exact⟨rfl,rfl,rfl,rfl,fun _ _=>rfl⟩
 · refine⟨rfl,rfl,rfl,by simp,fun c hc=>?_⟩;dsimp only;rw [Array.getElem?_modify,if_neg (fun h=>hc h.symm)]
theorem OneTurned.drew{w w':World}{g:Nat}(h:OneTurned w.drew w' g):OneTurned w w' g:=⟨h.os,h.tape,h.output,h.size,h.rest⟩
set_option maxHeartbeats 1000000 in
set_option maxRecDepth 100000 in
theorem string_model(L:Lays.n169 P ρ)(X:Builder.Extra P ρ)(b g cap:Nat)(p:Value)(cur:Array Value)(l:List UInt8)(w:World)(h0:l≠[])(hmx:l.length<1000000)(hbk:w.heap[b]? = some (.cells #[p,.slice (some ⟨g,0,none⟩) l.length cap] (ρ.t 72) (0,0)))(hg:w.heap[g]? = some (.cells cur (ρ.t 5) (0,0)))
(hnc:l.length≤cap)(hcs:cap≤cur.size)(hcur:∀(j:Nat) (y:UInt8),l[j]? = some y→cur[j]? = some (.int .u8 (y.toNat:Nat))) :
 Calls P (ρ.f 169) #[.pointer (some ⟨b,0,none⟩)] w fun e w'=>e = .returned (.string ⟨l.toArray⟩)∧OneTurned w w' g:=by
 have hl0:l.length≠0:=by simpa using h0
 have c1:w.drew.cell? ⟨b,1,none⟩=some (.slice (some ⟨g,0,none⟩) l.length cap):=by
  have:w.drew.heap[b]? = some (.cells #[p,.slice (some ⟨g,0,none⟩) l.length cap] (ρ.t 72) (0,0)):=hbk;rw [Lib.cell_of_heap this];rfl
 have hSD:(Builtin.unsafeSliceData_ #[(ρ.t 37)] (ρ.t 127) #[.slice (some ⟨g,0,none⟩) l.length cap]).run P w.drew = .ok (.pointer (some ⟨g,0,none⟩)) w.drew:=
  Lib.run_unsafeSliceData_row _ _ _ _ _ _ (by omega)
 have hUS:(Builtin.unsafeString_ #[(ρ.t 127),(ρ.t 3)] (ρ.t 9) #[.pointer (some ⟨g,0,none⟩),.int .i64 l.length]).run P w.drew = .ok (.string ⟨l.toArray⟩) (w.drew.freeze ⟨g,0,none⟩ l.length):=by
  refine Lib.run_unsafeString_row w.drew (ρ.t 127) (ρ.t 3) (ρ.t 9) (ρ.t 5) L.t127 X.cellsByte g cur.size (by have hg':w.drew.heap[g]? = some (.cells cur (ρ.t 5) (0,0)):=hg;simp [World.shape?,hg']) l h0 (by omega) (by omega) ?_;intro j x hx;have hg':w.drew.heap[g]? = some (.cells cur (ρ.t 5) (0,0)):=hg;have e9:Addr.add ⟨g,0,none⟩ j=⟨g,j,none⟩:=by simp[Addr.add];omega
  rw[e9,Lib.cell_of_heap hg'];exact hcur j x hx
 have mixed:=L.mixed;have t72:=L.t72;have a72:=L.a72;have z72:=L.z72;have v72:=L.v72;have u72:=run_underlying L.t72;have t70:=L.t70;have a70:=L.a70;have z70:=L.z70;have v70:=L.v70;have u70:=run_underlying L.t70;have t37:=L.t37;have a37:=L.a37;have z37:=L.z37;have v37:=L.v37;have u37:=run_underlying L.t37;have t127:=L.t127;have a127:=L.a127;have z127:=L.z127;have v127:=L.v127;have u127:=run_underlying L.t127;have t3:=L.t3;have a3:=L.a3;have z3:=L.z3;have v3:=L.v3;have u3:=run_underlying L.t3;have t9:=L.t9;have a9:=L.a9;have z9:=L.z9;have v9:=L.v9;have u9:=run_underlying L.t9;have t5:=X.t5;have a5:=X.a5;have z5:=X.z5;have v5:=X.v5;have u5:=run_underlying X.t5
 go_enter L.f169,Body.n169_ntmps ρ
 go_wp2
 go_region_o
 all_goals (go_wp2;go_ret;exact⟨rfl,(freeze_one _ _ _).drew⟩)
section
variable {P:Program} {ng:Nat}
end
section
variable {P:Program} {ng:Nat}
def ComesE(P:Program)(ng:Nat)(f:FuncId)(args:List Value)(h:zH)(n:Nat)(Q:Out→zH→Nat→Prop):Prop:=
 ∀(u:Option yF) (k:KO),(∀o h' n',Q o h' n'→k o u h' n'=true)→(loS P ng).call f args false u h n k=true
theorem ComesE.mono{f:FuncId}{args:List Value}{h:zH}{n:Nat}{Q Q':Out→zH→Nat→Prop}(r:ComesE P ng f args h n Q)(hq:∀o h' n',Q o h' n'→Q' o h' n'):ComesE P ng f args h n Q':=
 fun u k hk=>r u k fun o h' n' q=>hk o h' n' (hq o h' n' q)
theorem xE(hP:xV ng P=true)(hmix:P.follows .mixedOrders=true){hint:rD}{f:FuncId}(hl:yU P f=true){args:List Value}{h:zH}{n:Nat}{Q:Out→zH→Nat→Prop}
(hF:∀u k,(∀o h' n',Q o h' n'→k o u h' n'=true)→yCall P hint (loS P ng) (lpS P ng) f args false u h n k=true):ComesE P ng f args h n Q:=
 fun u k hk=>loS_call.2 (yCall_ok hP hmix qZ lpOK_lpS hint (loops_of hl) (hF u k hk))
theorem xL{g:FuncId}{args:List Value}{h:zH}{n:Nat}{Q:Out→zH→Nat→Prop}{Kp:KC}{K:Value→zH→Nat→Bool}(r:ComesE P ng g args h n Q)
(hK:∀v h' n',Q (.ret v) h' n'→K v h' n'=true)(hp:∀c h' n',Q (.panic c) h' n'→Kp c h' n'=true):yO (loS P ng) g args h n Kp K=true:=
 r none _ fun o h' n' q=>by
  cases o with
  | ret v=>exact hK v h' n' q
  | panic c=>exact hp c h' n' q
theorem callI_comes{kd:IntKind}{g:FuncId}{args:List Value}{h:zH}{n:Nat}{Q:Out→zH→Nat→Prop}{Kp:KC}{K:Int→zH→Nat→Bool}(r:ComesE P ng g args h n Q)
(hK:∀v h' n',Q (.ret v) h' n'→∃a,v = .int kd a∧K a h' n'=true)(hp:∀c h' n',Q (.panic c) h' n'→Kp c h' n'=true):pJ (loS P ng) kd g args h n Kp K=true:=
 r none _ fun o h' n' q=>by
  cases o with
  | ret v=>
   obtain⟨a,rfl,hk⟩:=hK v h' n' q;show rtI kd (.int kd a) (fun a=>K a h' n')=true;rw [zD];exact hk
  | panic c=>exact hp c h' n' q
theorem qJ{g:FuncId}{first cap args:List Value}{h:zH}{n:Nat}{Q:Out→zH→Nat→Prop}{Kp:KC}{K:Value→zH→Nat→Bool}(r:ComesE P ng g (first++(args++cap)) h n Q)
(hK:∀v h' n',Q (.ret v) h' n'→K v h' n'=true)(hp:∀c h' n',Q (.panic c) h' n'→Kp c h' n'=true):vR (loS P ng) (.func (.func g) ⟨first⟩ ⟨cap⟩) args h n Kp K=true:=
 r none _ fun o h' n' q=>by
  cases o with
  | ret v=>exact hK v h' n' q
  | panic c=>exact hp c h' n' q
theorem invokeI_comes{kd:IntKind}{g:FuncId}{first cap args:List Value}{h:zH}{n:Nat}{Q:Out→zH→Nat→Prop}{Kp:KC}{K:Int→zH→Nat→Bool}(r:ComesE P ng g (first++(args++cap)) h n Q)
(hK:∀v h' n',Q (.ret v) h' n'→∃a,v = .int kd a∧K a h' n'=true)(hp:∀c h' n',Q (.panic c) h' n'→Kp c h' n'=true):invokeI (loS P ng) kd (.func (.func g) ⟨first⟩ ⟨cap⟩) args h n Kp K=true:=
 r none _ fun o h' n' q=>by
  cases o with
  | ret v=>
   obtain⟨a,rfl,hk⟩:=hK v h' n' q;show rtI kd (.int kd a) (fun a=>K a h' n')=true;rw [zD];exact hk
  | panic c=>exact hp c h' n' q
theorem xH{L:Lo}{f:FuncId}{rs:List ResultVar}(hr:xW P f=some rs){k:KO}{t:Fr}{u:Option yF}{h:zH}{n:Nat}{c:yF}(hk:k (.panic c) u h n=true) :
 zJ P L f k (.panic c) t ⟨[],u,h,n⟩=true:=by
 unfold xW at hr
 cases hb:rU P f with
 | none=>rw [hb]at hr;cases hr
 | some fb=>
  unfold zJ;rw [hb];exact hk
theorem leaveC{L:Lo}{f:FuncId}{i:Nat}{ty:TypeId}(hr:xW P f=some [.cell i ty]){k:KO}{t:Fr}{u:Option yF}{h:zH}{n:Nat}{v w:Value}(hw:zA t i=w)(hv:zE P ty h w=some v)(hk:k (.ret v) u h n=true) :
 zJ P L f k .ret t ⟨[],u,h,n⟩=true:=by
 subst hw
 have hl:wI P t h [.cell i ty]=some [v]:=by
  have e:ldV P h ty (zA t i)=some v:=hv;unfold wI
  show(match ldV P h ty (zA t i),wI P t h [] with
  | some v,some l=>some (v::l)
  | _,_=>none)=_
  rw[e];rfl
 rw[leave_res hr hl];exact hk
def TouchE(S:List Nat)(h:zH)(n:Nat)(h':zH)(n':Nat):Prop:=n≤n'∧∀b,b<n→b∉S→yG h' b=yG h b
theorem TouchE.refl(S:List Nat)(h:zH)(n:Nat):TouchE S h n h n:=⟨Nat.le_refl _,fun _ _ _=>rfl⟩
theorem TouchE.trans{S:List Nat}{h h1 h2:zH}{n n1 n2:Nat}(a:TouchE S h n h1 n1)(b:TouchE S h1 n1 h2 n2):TouchE S h n h2 n2:=
 ⟨Nat.le_trans a.1 b.1,fun x hx hS=>(b.2 x (Nat.lt_of_lt_of_le hx a.1) hS).trans (a.2 x hx hS)⟩
theorem TouchE.mono{S S':List Nat}{h h':zH}{n n':Nat}(a:TouchE S h n h' n')(hs:∀x∈S,x∈S'):TouchE S' h n h' n':=⟨a.1,fun b hb hS=>a.2 b hb fun hx=>hS (hs b hx)⟩
theorem Ext.touch{h h':zH}{n n':Nat}(e:Ext h n h' n')(S:List Nat):TouchE S h n h' n':=⟨e.1,fun b hb _=>e.2 b hb⟩
theorem yA{h h':zH}{n b:Nat}(e:∀b',b'≠b→yG h' b'=yG h b'){S:List Nat}(hb:b∈S):TouchE S h n h' n:=⟨Nat.le_refl _,fun x _ hS=>e x fun e=>hS (e ▸ hb)⟩
theorem TouchE.old{S S':List Nat}{h h':zH}{n n':Nat}(a:TouchE S h n h' n')(hs:∀x∈S,x∈S'∨n≤x):TouchE S' h n h' n':=⟨a.1,fun b hb hS=>a.2 b hb fun hx=>(hs b hx).elim hS fun h9=>absurd hb (by omega)⟩
theorem TouchE.step{S S':List Nat}{h h1 h2:zH}{n n1 n2:Nat}(a:TouchE S h n h1 n1)(b:TouchE S' h1 n1 h2 n2)(hs:∀x∈S',x∈S∨n≤x):TouchE S h n h2 n2:=
 ⟨Nat.le_trans a.1 b.1,fun x hx hS=>(b.2 x (Nat.lt_of_lt_of_le hx a.1) fun h9=>(hs x h9).elim hS fun h8=>absurd hx (by omega)).trans (a.2 x hx hS)⟩
def Cel(h:zH)(b z:Nat)(vs:List Value):Prop:=tH (yG h b)=some (vs.length,z,0)∧∀i,xX h b i=vs[i]?
theorem Cel.touch{S:List Nat}{h h':zH}{n n' b z:Nat}{vs:List Value}(c:Cel h b z vs)(t:TouchE S h n h' n')(hb:b<n)(hS:b∉S):Cel h' b z vs:=by
 have e:=t.2 b hb hS;exact⟨by rw[e];exact c.1,fun i=>by unfold xX;rw [e];exact c.2 i⟩
theorem Cel.keep{h h':zH}{b z:Nat}{vs:List Value}(c:Cel h b z vs)(e:yG h' b=yG h b):Cel h' b z vs:=⟨by rw[e];exact c.1,fun i=>by unfold xX;rw [e];exact c.2 i⟩
theorem Row.touch{S:List Nat}{n:Nat}{h:zH}{v:Value}{e sz len:Nat}{vs:List Value}(r:Row n h v e sz len vs){h':zH}{n':Nat}(t:TouchE S h n h' n')(hS:∀b,wQ v=some b→b∉S):Row n' h' v e sz len vs:=by
 rcases r with⟨rfl,rfl,rfl⟩|⟨b,off,cap,m,z,kd,hb,rfl,hl,hi,hm,hr,hc⟩
 · exact .inl ⟨rfl,rfl,rfl⟩
 · have he:=t.2 b hb (hS b rfl);exact .inr ⟨b,off,cap,m,z,kd,Nat.lt_of_lt_of_le hb t.1,rfl,hl,by rw[he];exact hi,hm,fun j v e=>by unfold xX;rw [he];exact hr j v e,hc⟩
theorem Own.touch{S:List Nat}{lo n:Nat}{h:zH}{v:Value}{e sz len:Nat}{vs:List Value}(r:Own lo n h v e sz len vs){h':zH}{n':Nat}(t:TouchE S h n h' n')(hS:∀b,wQ v=some b→b∉S):Own lo n' h' v e sz len vs:=by
 rcases r with⟨rfl,rfl,rfl⟩|⟨b,q1,q2,rfl,q3,q4,q5,q6⟩
 · exact .inl ⟨rfl,rfl,rfl⟩
 · have he:=t.2 b q2 (hS b rfl);exact .inr ⟨b,q1,Nat.lt_of_lt_of_le q2 t.1,rfl,by rw[he];exact q3,q4,q5,fun i=>by unfold xX;rw [he];exact q6 i⟩
theorem Own.ge{lo n:Nat}{h:zH}{v:Value}{e sz len:Nat}{vs:List Value}(r:Own lo n h v e sz len vs):∀b,wQ v=some b→lo≤b∧b<n:=by
 rcases r with⟨rfl,rfl,rfl⟩|⟨b,q1,q2,rfl,q3,q4,q5,q6⟩
 · intro b e;cases e
 · intro b' e;injection e with e;subst e;exact⟨q1,q2⟩
theorem Row.lt{n:Nat}{h:zH}{v:Value}{e sz len:Nat}{vs:List Value}(r:Row n h v e sz len vs):∀b,wQ v=some b→b<n:=by
 rcases r with⟨rfl,rfl,rfl⟩|⟨b,off,cap,m,z,kd,hb,rfl,hl,hi,hm,hr,hc⟩
 · intro b e;cases e
 · intro b' e;injection e with e;subst e;exact hb
theorem Own.low{lo lo' n:Nat}{h:zH}{v:Value}{e sz len:Nat}{vs:List Value}(r:Own lo n h v e sz len vs)(hl:lo'≤lo):Own lo' n h v e sz len vs:=by
 rcases r with h1|⟨b,q1,q⟩
 · exact .inl h1
 · exact .inr ⟨b,Nat.le_trans hl q1,q⟩
theorem TabsH.touch{tabs:List (Nat×List Value)}{S:List Nat}{h h':zH}{n n':Nat}(t:TabsH tabs h)(e:TouchE S h n h' n')(hl:∀p∈tabs,p.1<n)(hS:∀p∈tabs,p.1∉S):TabsH tabs h':=fun p hp=>by
 have he:=e.2 p.1 (hl p hp) (hS p hp);obtain⟨a,b⟩:=t p hp;exact⟨by rw[he];exact a,fun i=>by unfold xX;rw [he];exact b i⟩
theorem cellsOf_one{v:Value}(h:v.oneCell'=true):cellsOf v=[v]:=by cases v <;> first|rfl|(cases h;done)
theorem cel_mkC{h:zH}{n z:Nat}{l:List Value}:Cel (h.set .dead (mkC l z 0) n) n z l:=by
 refine⟨?_,fun i=>?_⟩
 · rw[zP,if_pos rfl,oH]
 · unfold xX;rw [zP,if_pos rfl,uW]
theorem set_ext{h:zH}{n:Nat}{o:AObj}:Ext h n (h.set .dead o n) (n+1):=(Ext.refl h n).set (Nat.le_refl _) (Nat.le_succ _)
theorem wZ{el:TypeId}{h:zH}{n:Nat}{K:KH}{z:Value}(hz:wU P el=some z)(hK:∀h',Cel h' n (el+1) (cellsOf z)→Ext h n h' (n+1)→K h' (n+1) (.pointer (some ⟨n,0,none⟩))=true):tZ P el h n K=true:=
 eAlloc_ok hz (hK _ cel_mkC set_ext)
theorem tE{v:Value}{h:zH}{n:Nat}{K:KH}(h1:∀x∈cellsOf v,x.oneCell'=true)(hK:∀h',Cel h' n 0 (cellsOf v)→Ext h n h' (n+1)→K h' (n+1) (.pointer (some ⟨n,0,none⟩))=true):eBox v h n K=true:=
 eBox_ok h1 (hK _ cel_mkC set_ext)
theorem wA{ty:TypeId}{b off z:Nat}{vs:List Value}{v:Value}{h:zH}{n:Nat}{K:KH}(hc:Cel h b z vs)(hs:yJ P ty = .scal)(ho:off<vs.length)(hv:v.oneCell'=true)
(hK:∀h',Cel h' b z (vs.set off v)→(∀b',b'≠b→yG h' b'=yG h b')→K h' n undef=true):zW P ty (.pointer (some ⟨b,off,none⟩)) v h n K=true:=by
 have e1:=cellsOf_one hv;refine eStore_ok (.inl ⟨hs,rfl⟩) (by rw[e1];rfl) (by rw[e1];simpa using hv) hc.1 (by decide) (by omega) (hK _ ⟨?_,fun i=>?_⟩ fun b' hb'=>?_)
 · rw[zP,if_pos rfl,oJ,hc.1,List.length_set]
 · unfold xX;rw [zP,if_pos rfl,e1,oI _ _ _ hc.1 (by simp;omega)];have h2:=hc.2 i;unfold xX at h2;rw [h2,List.getElem?_set];by_cases hi:i=off
   · subst hi;rw [if_pos ⟨Nat.le_refl _,by simp⟩,if_pos rfl];simp [ho]
   · rw[if_neg (by simp;omega),if_neg (fun h=>hi h.symm)]
 · rw[zP,if_neg (fun h=>hb' h.symm)]
theorem xU{ty:TypeId}{b z sz:Nat}{vs ws:List Value}{h:zH}{n:Nat}{K:KH}(hc:Cel h b z vs)(hs:yJ P ty = .agg sz)(hl:ws.length=sz)(hl2:vs.length=sz)(hv:∀x∈ws,x.oneCell'=true)
(hK:∀h',Cel h' b z ws→(∀b',b'≠b→yG h' b'=yG h b')→K h' n undef=true):zW P ty (.pointer (some ⟨b,0,none⟩)) (.agg ⟨ws⟩) h n K=true:=by
 refine eStore_ok (.inr hs) (show ws.length=sz from hl) (show ∀x∈ws,_ from hv) hc.1 (by decide) (by omega) (hK _ ⟨?_,fun i=>?_⟩ fun b' hb'=>?_)
 · rw[zP,if_pos rfl,oJ,hc.1,hl,hl2]
 · unfold xX;rw [zP,if_pos rfl];show sA (stC (yG h b) 0 ws) i=_;rw [oI _ _ _ hc.1 (by omega)];by_cases hi:i<ws.length
   · rw[if_pos (by omega)];rfl
   · have h2:=hc.2 i;unfold xX at h2;rw [if_neg (by omega),h2,List.getElem?_eq_none (by omega),List.getElem?_eq_none (by omega)]
 · rw[zP,if_neg (fun h=>hb' h.symm)]
theorem zG{ty:TypeId}{h:zH}{b off z:Nat}{vs:List Value}{v:Value}(hc:Cel h b z vs)(hs:yJ P ty = .scal)(hv:vs[off]? = some v):zE P ty h (.pointer (some ⟨b,off,none⟩))=some v:=
 load_scal hs (by rw[hc.2];exact hv)
theorem xA{ty:TypeId}{h:zH}{b z sz:Nat}{vs:List Value}(hc:Cel h b z vs)(hs:yJ P ty = .agg sz)(hl:vs.length=sz)(h0:0<sz):zE P ty h (.pointer (some ⟨b,0,none⟩))=some (.agg ⟨vs⟩):=
 load_agg hs hl h0 fun j v e=>by rw[Nat.zero_add,hc.2];exact e
theorem rB{ty:TypeId}{len:Nat}{parts:List (Nat×Value)}{h:zH}{n:Nat}{K:KH}{e sz:Nat}{cs:List Value}(hb:xP P ty len parts=some (tM cs 0))(hl:cs.length=len*sz)(hlt:len<inf)
(hK:∀h',Row (n+1) h' (.slice (some ⟨n,0,none⟩) len len) e sz len cs→Ext h n h' (n+1)→K h' (n+1) (.slice (some ⟨n,0,none⟩) len len)=true):zS P ty len parts h n K=true:=by
 unfold zS;rw [hb];show xB h n (tM cs 0) (fun h' n'=>K h' n' (.slice (some ⟨n,0,none⟩) len len))=true;rw [xC];refine hK _ (.inr ⟨n,0,len,cs.length,0,0,Nat.lt_succ_self _,rfl,hl,?_,by omega,fun j v ej=>?_,.inl ⟨hlt,Nat.le_refl _⟩⟩) set_ext
 · rw[zP,if_pos rfl];rfl
 · unfold xX;rw [zP,if_pos rfl,Nat.zero_add];exact(uW cs 0 0 j).trans ej
noncomputable def oneTB(P:Program)(ty e:TypeId):Bool:=
 match und P ty with
 | some (.slice e')=>match wU P e',inf? P e' with
  | some z,some ei=>Nat.beq e' e && (Nat.beq ei.size 1 && Nat.beq (cellsOf z).length 1)
  | _,_=>false
 | _=>false
theorem tI{ty e:TypeId}(ht:oneTB P ty e=true){v:Value}(hv:v.oneCell'=true){h:zH}{n:Nat}{K:KH}
(hK:∀h',Row (n+1) h' (.slice (some ⟨n,0,none⟩) 1 1) e 1 1 [v]→Ext h n h' (n+1)→K h' (n+1) (.slice (some ⟨n,0,none⟩) 1 1)=true):zS P ty 1 [(0,v)] h n K=true:=by
 refine rB (cs:=[v]) ?_ rfl (by unfold inf;omega) hK;unfold oneTB at ht;unfold xP;cases h1:und P ty <;> rw[h1]at ht <;> first|(cases ht;done)|skip
 rename_i d;cases d <;> first|(cases ht;done)|skip
 rename_i e';dsimp only at ht ⊢;cases h2:wU P e' <;> rw[h2]at ht <;> first|(cases ht;done)|skip
 rename_i z;cases h3:inf? P e' <;> rw[h3]at ht <;> first|(cases ht;done)|skip
 rename_i ei;dsimp only at ht ⊢;obtain⟨_,ht⟩:=Bool.and_eq_true_iff.1 ht;obtain⟨a1,a2⟩:=Bool.and_eq_true_iff.1 ht;have e1:=yL a1;have e2:=yL a2;rw [e1,e2];obtain⟨x,hx⟩:∃x,cellsOf z=[x]:=List.length_eq_one_iff.1 e2;rw [hx];have e3:=cellsOf_one hv
 show(match aFill (fun i=>some (Nat.mul i 1,1)) [x] [(0,v)] with
  | some cs=>some (tM cs 0)
  | none=>none)=_
 have:aFill (fun i=>some (Nat.mul i 1,1)) [x] [(0,v)]=some [v]:=by
  unfold aFill;dsimp only;rw [e3];rfl
 rw[this]
theorem slice_fromI{n:Nat}{h:zH}{v:Value}{e sz len:Nat}{vs:List Value}{ty:TypeId}(hu:und P ty=some (.slice e))(hi:(inf? P e).map (·.size)=some sz)(r:Row n h v e sz len vs){k:IntKind}{i:Nat}(hle:i≤len) :
 ∃v',uJ P h ty v (some (.int k (i:Nat))) none none=some v'∧Row n h v' e sz (len - i) (vs.drop (i*sz))∧(wQ v'=wQ v):=by
 cases hx:inf? P e with
 | none=>rw [hx]at hi;cases hi
 | some ei=>rw [hx]at hi;injection hi with hi;exact slice_from hu hx hi r hle
theorem Row.one{n:Nat}{h:zH}{v:Value}{e sz len:Nat}{vs:List Value}(r:Row n h v e sz len vs):v.oneCell'=true:=by
 rcases r with⟨rfl,_⟩|⟨b,off,cap,m,z,kd,hb,rfl,_⟩ <;> rfl
theorem Own.one{lo n:Nat}{h:zH}{v:Value}{e sz len:Nat}{vs:List Value}(r:Own lo n h v e sz len vs):v.oneCell'=true:=by
 rcases r with⟨rfl,_⟩|⟨b,_,_,rfl,_⟩ <;> rfl
end
section
variable {P:Program} {ng:Nat}
def ErrH(h:zH)(g:Nat):Prop:=∃z,tH (yG h g)=some (1,z,2)∧∃te v,xX h g 0=some (.iface te v)
theorem ErrH.touch{S:List Nat}{h h':zH}{n n' g:Nat}(t:ErrH h g)(e:TouchE S h n h' n')(hl:g<n)(hS:g∉S):ErrH h' g:=by
 have he:=e.2 g hl hS;obtain⟨z,a,te,v,b⟩:=t;exact⟨z,by rw[he];exact a,te,v,by unfold xX;rw [he];exact b⟩
theorem ErrH.world{h:zH}{g n:Nat}{ρ : Inj}{base:Nat}{w0 wd:World}(t:ErrH h g)(hg:g<ng)(r:HeapR P ng ρ base w0 h n wd):∃te pe,wd.cell? ⟨g,0,none⟩=some (.iface te pe):=by
 obtain⟨z,h1,te,v,h2⟩:=t;obtain⟨B,e1,e2⟩:=r.glob g hg;have hl:yG h g≠.dead:=fun e=>by rw[e]at h1;cases h1
 obtain⟨o,q1,q2⟩:=r.obj g B e1 hl;unfold xX at h2;cases ho:yG h g <;> rw[ho]at h1 <;> first|(cases h1;done)|(exact absurd (kd_of h1) (by decide))|skip
 rename_i c k z' kd;have h1':some (k,z',kd)=some (1,z,2):=h1;simp only[Option.some.injEq,Prod.mk.injEq]at h1';obtain⟨rfl,rfl,rfl⟩:=h1';rw [ho]at q2 h2
 cases q2 with
 | cells hn hs hk hz hv hb hf =>
  rename_i c' el lo hi;rw [e2]at q1;have hsz:c'.size=1:=by rw[hs];exact(hk (by omega)).symm
  have h3:some (Tr.get undef c 0)=some (Value.iface te v):=h2;injection h3 with h3
  have e0:c'[0]? = some (c'[0]'(by omega)):=Array.getElem?_eq_getElem (by omega);have r0:=hv 0 _ (by omega) e0;rw [h3]at r0;generalize hx:c'[0]'(by omega)=x at r0 e0
  cases r0 with
  | iface r=>
   rename_i v';refine⟨te,v',?_⟩;unfold World.cell?;dsimp only;rw [q1];exact e0
theorem HeapR.put_dead{ρ : Inj}{base:Nat}{w0:World}{h:zH}{n:Nat}{wd wd':World}(r:HeapR P ng ρ base w0 h n wd)(hb:Go.RowKit.Below wd.heap.size wd wd')(B:Bl)(hN:wd.heap.size≤B.b) :
 HeapR P ng (ρ.put n B) base w0 (h.set .dead .dead n) (n+1) wd'∧Grow ρ h n wd (ρ.put n B) (h.set .dead .dead n) (n+1) wd':=by
 obtain⟨k1,k2⟩:=r.stay hb;have hn: ρ n=none:=r.dom n (Nat.le_refl _);have hle:=Inj.le_put B hn;have old:∀b,b≠n→(ρ.put n B) b = ρ b:=fun b hb=>by simp[Inj.put,hb]
 refine⟨⟨fun b hb=>?_,fun b C e hl=>?_,fun a b A C ea eb hla hlb hAC=>?_,k1.below,k1.size,fun g hg=>?_,?_⟩,⟨Nat.le_succ _,fun b hb=>old b (by omega),fun b C hb e=>?_,k2.keep,k2.size,fun b hb e=>?_,k2.tape⟩⟩
 · rw[old b (by omega)];exact r.dom b (by omega)
 · rw[zP]at hl ⊢;by_cases hbn:n=b
   · rw[if_pos hbn]at hl;exact absurd rfl hl
   · rw[if_neg hbn]at hl ⊢;rw [old b (fun e=>hbn e.symm)]at e;obtain⟨o,q1,q2⟩:=k1.obj b C e hl;exact⟨o,q1,q2.mono hle⟩
 · rw[zP]at hla hlb;by_cases h1:n=a
   · rw[if_pos h1]at hla;exact absurd rfl hla
   · by_cases h2:n=b
     · rw[if_pos h2]at hlb;exact absurd rfl hlb
     · rw[if_neg h1]at hla;rw [if_neg h2]at hlb;rw [old a (fun e=>h1 e.symm)]at ea;rw [old b (fun e=>h2 e.symm)]at eb;exact r.inj a b A C ea eb hla hlb hAC
 · obtain⟨C,e1,e2⟩:=r.glob g hg;exact⟨C,by rw[old g (by have:=r.ngn;omega)];exact e1,e2⟩
 · have:=r.ngn;omega
 · by_cases hbn:b=n
   · subst hbn;have:C=B:=by simpa [Inj.put] using e.symm
     subst this;exact .inl hN
   · rw[old b hbn,r.dom b hb]at e;cases e
 · rw[zP];split
   · rfl
   · exact e
theorem err_of_calls{f:FuncId}{args:List Value}{h:zH}{n g:Nat}{x:Int}{T:TypeId}(hf:hasB P f=true)(ha:args.all uV=true)(hE:ErrH h g)(hg:g<ng)
(H:∀wd:World,(∃te pe,wd.cell? ⟨g,0,none⟩=some (.iface te pe))→Calls P f ⟨args⟩ wd fun e w'=>∃N,e = .returned (.tuple #[.int .i64 x,.iface T (.pointer (some ⟨N,0,none⟩))])∧wd.heap.size≤N∧Go.RowKit.Below wd.heap.size wd w') :
 Rets P ng f args h n fun v h' n'=>v = .tuple #[.int .i64 x,.iface T (.pointer (some ⟨n,0,none⟩))]∧Ext h n h' n':=by
 intro u k hk;refine loS_call.2 ⟨.ret (.tuple #[.int .i64 x,.iface T (.pointer (some ⟨n,0,none⟩))]),u,h.set .dead .dead n,n+1,hk _ _ _ ⟨rfl,set_ext⟩,hasB_of hf,fun ρ base w0 wd args' cs' hH hra hu=>?_⟩;obtain rfl:=scals_same ha hra;obtain⟨e,w',fr,⟨N,rfl,hN,hbl⟩,hcm,hfn,hl⟩:=H wd (hE.world hg hH) cs';obtain⟨k1,k2⟩:=hH.put_dead hbl ⟨N,1,0⟩ hN;obtain⟨y1,y2,y3,y4⟩:=hl;refine⟨_,_,fr,cs',hcm,k1,k2,CsTo.refl _ _,(fun e=>Bool.noConfusion e),hfn,_,y1,y2,y3,y4,?_⟩;refine .tuple rfl fun i w w' a b=>?_;have hi:i=0∨i=1∨2≤i:=by omega
 rcases hi with rfl|rfl|hi
 · have a':some (Value.int .i64 x)=some w:=a;have b':some (Value.int .i64 x)=some w':=b;injection a' with a';injection b' with b';subst a' b';exact .int _ _
 · have a':some (Value.iface T (.pointer (some ⟨n,0,none⟩)))=some w:=a;have b':some (Value.iface T (.pointer (some ⟨N,0,none⟩)))=some w':=b;injection a' with a';injection b' with b';subst a' b'
   exact .iface (.ptr (B:=⟨N,1,0⟩) (by simp[Inj.put]))
 · have a':([Value.int .i64 x,.iface T (.pointer (some ⟨n,0,none⟩))])[i]? = some w:=a;rw [List.getElem?_eq_none (by simpa using hi)]at a';cases a'
end
section
variable {P:Program} {ng:Nat}
noncomputable abbrev lo1(P:Program)(ng:Nat):Lo:=Lo.next P (loS P ng)
theorem sound_lo1(hP:xV ng P=true)(hmix:P.follows .mixedOrders=true):Sound P ng (lo1 P ng):=sound_next (draw_ok hP hmix) hP qZ
theorem comes_intro1(hP:xV ng P=true)(hmix:P.follows .mixedOrders=true){f:FuncId}{args:List Value}{h:zH}{n:Nat}{Q:Out→zH→Nat→Prop}
(hF:∀u k,(∀o h' n',Q o h' n'→k o u h' n'=true)→xcall P (lo1 P ng) f args false u h n k=true):ComesE P ng f args h n Q:=
 fun u k hk=>loS_call.2 (xcall_ok hP (sound_lo1 hP hmix) (hF u k hk))
theorem call_intro1(hP:xV ng P=true)(hmix:P.follows .mixedOrders=true){f:FuncId}{args:List Value}{df:Bool}{u:Option yF}{h:zH}{n:Nat}{k:KO}
(hF:xcall P (lo1 P ng) f args df u h n k=true):(loS P ng).call f args df u h n k=true:=loS_call.2 (xcall_ok hP (sound_lo1 hP hmix) hF)
theorem leave_intro(hP:xV ng P=true){fn:Func}{mode:Option yF}{t:Fr}{w:W}{k:KO}(h:sC P (loS P ng) fn mode t w k=true):(loS P ng).leave fn mode t w k=true:=
 loS_leave.2 (xleave_ok hP qZ h)
theorem storeAt_is{b off m z kd:Nat}{vs:List Value}{h:zH}{K:zH→Bool}(hi:tH (yG h b)=some (m,z,kd))(hk:kd≠2∧kd≠3)(hle:off+vs.length≤m)(h1:∀x∈vs,x.oneCell'=true)
(hK:K (h.set .dead (stC (yG h b) off vs) b)=true):storeAt h b off vs K=true:=by
 cases ho:yG h b <;> rw[ho]at hi <;> first|(cases hi;done)|(exact absurd (kd_of hi).symm hk.2)|skip
 rename_i c n' z' kd';injection hi with hi
 injection hi with e1 hi
 injection hi with e2 e3
 subst e1 e2 e3;unfold storeAt;rw [ho];show(Bool.rec (Bool.rec false (uP c off vs fun c'=>h.setK .dead (.cells c' n' z' kd') b fun h'=>K h') (Nat.ble (Nat.add off vs.length) n')) false (Nat.beq kd' 2):Bool)=true
 have e4:Nat.beq kd' 2=false:=by
  cases e:Nat.beq kd' 2 with
  | false=>rfl
  | true=>exact absurd (yL e) hk.1
 rw[e4];show(Bool.rec false (uP c off vs fun c'=>h.setK .dead (.cells c' n' z' kd') b fun h'=>K h') (Nat.ble (Nat.add off vs.length) n'):Bool)=true;rw [vE (show Nat.add off vs.length≤n' by show off+_≤_;omega)];refine sO h1 ?_;rw [Tr.setK_eq];rw [ho]at hK;exact hK
theorem sG{b off z:Nat}{vs:List Value}{v:Value}{h:zH}{K:zH→Bool}(hc:Cel h b z vs)(ho:off<vs.length)(hv:v.oneCell'=true)
(hK:∀h',Cel h' b z (vs.set off v)→(∀b',b'≠b→yG h' b'=yG h b')→K h'=true):storeAt h b off [v] K=true:=by
 refine storeAt_is hc.1 (by decide) (by simp;omega) (by simpa using hv) (hK _ ⟨?_,fun i=>?_⟩ fun b' hb'=>?_)
 · rw[zP,if_pos rfl,oJ,hc.1,List.length_set]
 · unfold xX;rw [zP,if_pos rfl,oI _ _ _ hc.1 (by simp;omega)];have h2:=hc.2 i;unfold xX at h2;rw [h2,List.getElem?_set];by_cases hi:i=off
   · subst hi;rw [if_pos ⟨Nat.le_refl _,by simp⟩,if_pos rfl];simp [ho]
   · rw[if_neg (by simp;omega),if_neg (fun h=>hi h.symm)]
 · rw[zP,if_neg (fun h=>hb' h.symm)]
theorem xleave_defer0{L:Lo}{fn:Func}{t:Fr}{g:FuncId}{cap args:Array Value}{ds:List Deferred}{u:Option yF}{h:zH}{n:Nat}{k:KO}{Q:zH→Nat→Prop}{v:Value}
(hc:∀k':KO,(∀h' n',Q h' n'→k' (.ret v) none h' n'=true)→L.call g (args.toList++cap.toList) true none h n k'=true)(hl:∀h' n',Q h' n'→L.leave fn none t ⟨ds,u,h',n'⟩ k=true) :
 sC P L fn none t ⟨⟨.fn (.func g) cap,args⟩::ds,u,h,n⟩ k=true:=by
 unfold sC;exact hc _ fun h' n' q=>hl h' n' q
theorem xleave_defer1{L:Lo}{fn:Func}{t:Fr}{g:FuncId}{cap args:Array Value}{ds:List Deferred}{u:Option yF}{h:zH}{n:Nat}{k:KO}{c:yF}{Q:zH→Nat→Prop}{v x:Value}
(hc:∀k':KO,(∀h' n',Q h' n'→k' (.ret v) (some [⟨x,true,false⟩]) h' n'=true)→L.call g (args.toList++cap.toList) true (some c) h n k'=true)(hl:∀h' n',Q h' n'→L.leave fn none t ⟨ds,u,h',n'⟩ k=true) :
 sC P L fn (some c) t ⟨⟨.fn (.func g) cap,args⟩::ds,u,h,n⟩ k=true:=by
 unfold sC;exact hc _ fun h' n' q=>hl h' n' q
theorem xleave_cell{L:Lo}{fn:Func}{i:Nat}{ty:TypeId}(hr:fn.results.toList=[.cell i ty]){t:Fr}{u:Option yF}{h:zH}{n:Nat}{k:KO}{v:Value}(hv:zE P ty h (zA t i)=some v)(hk:k (.ret v) u h n=true) :
 sC P L fn none t ⟨[],u,h,n⟩ k=true:=by
 have hl:wI P t h [.cell i ty]=some [v]:=by
  have e:ldV P h ty (zA t i)=some v:=hv;unfold wI
  show(match ldV P h ty (zA t i),wI P t h [] with
  | some v,some l=>some (v::l)
  | _,_=>none)=_
  rw[e];rfl
 unfold sC;dsimp only;rw [hr,hl];dsimp only;rw [wY];exact hk
theorem append_new{sT xT e sz lo n len m:Nat}{h:zH}{v x:Value}{vs new:List Value}{K:KH}(hT:apTB P sT xT e sz=true)(ho:Own lo n h v e sz len vs)(hm0':0<m)(hr:Row n h x e sz m new)(hnew:new.length=m*sz)(h1:∀y∈new,y.oneCell'=true)
(hlim:len+m<1000000)(hK:∀v' h' n',Own n n' h' v' e sz (len+m) (vs++new)→n≤n'→(∀b,b<n→wQ v≠some b→yG h' b=yG h b)→K h' n' v'=true):wD P [sT,xT] [v,x] h n K=true:=by
 obtain⟨xd,ei,z,t1,t2,t3,t4,t5,t6,t7,t8,t9⟩:=apTB_of hT;have hap:uR P h e ei.size xd x=some (m,new):=by rw[t6];exact pD t3 hr
 unfold wD pQ
 obtain⟨base,cap,hv⟩:∃base cap,v = .slice base len cap:=by
  rcases ho with⟨rfl,rfl,rfl⟩|⟨b,_,_,rfl,_⟩
  · exact⟨_,_,rfl⟩
  · exact⟨_,_,rfl⟩
 subst hv;dsimp only;rw [t1,t2];dsimp only;rw [t4,t5];dsimp only;rw [hap];dsimp only
 have c1:(Nat.beq ei.size 0 || !Nat.beq (cellsOf z).length ei.size || !Nat.blt (Nat.add len m) 1000000 || !Nat.blt ei.bytes 100000)=false:=by
  have a1:Nat.beq ei.size 0=false:=by
   cases e9:Nat.beq ei.size 0 with
   | false=>rfl
   | true=>have:=yL e9;omega
  have a2:Nat.beq (cellsOf z).length ei.size=true:=by rw[t7,t6];exact Nat.beq_refl _
  rw[a1,a2,rA (show Nat.add len m<1000000 from hlim),rA t9];rfl
 rw[c1];show cond (Nat.beq m 0 && !Nat.beq cap 0 && (Nat.beq cap inf || Nat.ble len cap)) _ _=true;by_cases hm:m=0
 · omega
 · have hm0:Nat.beq m 0=false:=by
    cases e9:Nat.beq m 0 with
    | false=>rfl
    | true=>exact absurd (yL e9) hm
   rw[hm0];show cond (Nat.beq cap inf) _ _=true;rcases ho with⟨hv,rfl,rfl⟩|⟨b,q1,q2,hv,q3,q4,q5,q6⟩
   · injection hv with hv1 _ hv2
     subst hv1 hv2;have hb0:Nat.beq 0 inf=false:=by decide
     rw[hb0];dsimp only[cond_false];unfold growEx
     have b1:Nat.ble (Nat.add 0 m) 0=false:=by
      cases e9:Nat.ble (Nat.add 0 m) 0 with
      | false=>rfl
      | true=>
       have h9:Nat.add 0 m≤0:=uN e9;have h10:0+m≤0:=h9;omega
     rw[b1];show uP .lF 0 ([]++new) _=true;refine sO h1 ?_;rw [xC]
     have hne:Nat.mul (Nat.add 0 m) ei.size=new.length:=by
      have:Nat.add 0 m=m:=Nat.zero_add m;rw [this,t6];exact hnew.symm
     rw[hne,t6];have hz:Nat.add 0 m=m:=Nat.zero_add m;rw [hz];have hpos:0<m:=by omega
     refine hK _ _ _ (.inr ⟨n,Nat.le_refl n,Nat.lt_succ_self n,by rw[Nat.zero_add],?_,?_,by omega,fun i=>?_⟩) (Nat.le_succ n) fun b hb _=>?_
     · rw[zP,if_pos rfl];rfl
     · simpa using hnew
     · unfold xX;rw [zP,if_pos rfl];exact uW new (zc e sz) 1 i
     · rw[zP,if_neg (by omega)]
   · injection hv with hv1 _ hv2
     subst hv1 hv2;have hb1:Nat.beq inf inf=true:=Nat.beq_refl inf;rw [hb1];show growOpen h n b len m ei.size (zc e ei.size) new (fun v h n=>K h n v)=true;unfold growOpen;cases hg:yG h b <;> rw[hg]at q3 <;> first|(cases q3;done)|(exact absurd (kd_of q3) (by decide))|skip
     rename_i c kn z' kd';have q3':some (kn,z',kd')=some (vs.length,zc e sz,1):=q3;simp only[Option.some.injEq,Prod.mk.injEq]at q3';obtain⟨rfl,rfl,rfl⟩:=q3';show cond (Nat.beq (zc e sz) (zc e ei.size)) _ _=true;have e5:Nat.beq (zc e sz) (zc e ei.size)=true:=by rw[t6];exact Nat.beq_refl _
     rw[e5];have hml:Nat.mul len ei.size=vs.length:=by rw[t6];exact q4.symm
     have e6:Nat.ble (Nat.mul (Nat.add len m) ei.size) vs.length=false:=by
      cases e9:Nat.ble (Nat.mul (Nat.add len m) ei.size) vs.length with
      | false=>rfl
      | true=>
       have h9:(len+m)*ei.size≤vs.length:=uN e9;rw [t6,q4,Nat.add_mul]at h9;have:0<m*sz:=Nat.mul_pos (by omega) t8;omega
     rw[e6,hml,vE (Nat.le_refl _)];show uP c vs.length new _=true;refine sO h1 ?_;rw [Tr.setK_eq,xC]
     have hmm:Nat.mul (Nat.add len m) ei.size=(vs++new).length:=by
      rw[t6,List.length_append,q4,hnew];exact Nat.add_mul len m sz
     rw[hmm];refine hK _ _ _ (.inr ⟨n,Nat.le_refl n,Nat.lt_succ_self n,rfl,?_,?_,by omega,fun i=>?_⟩) (Nat.le_succ n) fun b' hb hne=>?_
     · rw[zP,if_pos rfl];rfl
     · rw[List.length_append,q4,hnew,Nat.add_mul]
     · unfold xX;rw [zP,if_pos rfl];unfold sA;dsimp only;have q6':=q6 i;unfold xX at q6';rw [hg]at q6';unfold sA at q6';dsimp only at q6';by_cases hi:i<vs.length
       · rw[if_pos hi]at q6';rw [if_pos (by rw[List.length_append];omega),Tr.get_ofListFrom,if_neg (by omega),q6',List.getElem?_append_left hi]
       · rw[List.getElem?_append_right (by omega)];by_cases hi2:i<(vs++new).length
         · rw[List.length_append]at hi2;rw [if_pos (by rw[List.length_append];omega),Tr.get_ofListFrom,if_pos (by omega)];simp [List.getElem?_eq_getElem (show i - vs.length<new.length by omega),List.getD_eq_getElem?_getD]
         · rw[List.length_append]at hi2;rw [if_neg (by rw[List.length_append];omega),List.getElem?_eq_none (by omega)]
     · have hbb:b≠b':=fun e=>hne (by rw[e];rfl);rw [zP,if_neg (by omega),zP,if_neg hbb]
theorem buildS_in{ty:TypeId}{len:Nat}{parts:List (Nat×Value)}{h:zH}{n:Nat}{K:KH}{e sz:Nat}{cs:List Value}(hb:xP P ty len parts=some (tM cs 0))(hl:cs.length=len*sz)(hlt:len<inf)
(hK:∀h',Row (n+1) h' (.slice (some ⟨n,0,none⟩) len len) e sz len cs→tH (yG h' n)=some (cs.length,0,0)→Ext h n h' (n+1)→K h' (n+1) (.slice (some ⟨n,0,none⟩) len len)=true):zS P ty len parts h n K=true:=by
 unfold zS;rw [hb];show xB h n (tM cs 0) (fun h' n'=>K h' n' (.slice (some ⟨n,0,none⟩) len len))=true;rw [xC];refine hK _ (.inr ⟨n,0,len,cs.length,0,0,Nat.lt_succ_self _,rfl,hl,?_,by omega,fun j v ej=>?_,.inl ⟨hlt,Nat.le_refl _⟩⟩) ?_ set_ext
 · rw[zP,if_pos rfl];rfl
 · unfold xX;rw [zP,if_pos rfl,Nat.zero_add];exact(uW cs 0 0 j).trans ej
 · rw[zP,if_pos rfl];rfl
end
open Go.RowKit
section
variable {P:Program} {ng:Nat}
end
open Go.RowKit Classical
section
variable {P:Program} {ng:Nat}
def szB(w:World)(b:Nat):Nat:=match w.heap[b]? with|some (.cells cs _ _)=>cs.size|_=>0
def idI(w:World):Inj:=fun b=>if b<w.heap.size then some ⟨b,szB w b,0⟩ else none
theorem idI_lt{w:World}{b:Nat}{B:Bl}(h:idI w b=some B):b<w.heap.size∧B=⟨b,szB w b,0⟩:=by
 unfold idI at h;split at h
 · rename_i hb;injection h with h;exact⟨hb,h.symm⟩
 · cases h
theorem idI_of{w:World}{b:Nat}(h:b<w.heap.size):idI w b=some ⟨b,szB w b,0⟩:=if_pos h
def oP:Value→Value
 | .slice (some _) 0 0=>.slice (some ⟨0,0,none⟩) 0 0
 | v=>v
noncomputable def tellV(w:World)(v:Value):Value:=if RV (idI w) (oP v) v then oP v else undef
noncomputable def tellO(w:World)(o:Option Obj):AObj:=match o with
 | some (.cells cs _ _)=>.rows (Tr.ofListFrom undef .lF 0 (cs.toList.map (tellV w))) cs.size
 | _=>.dead
noncomputable def tellH(w:World):Nat→zH
 | 0=>.lF
 | k+1=>(tellH w k).set .dead (tellO w w.heap[k]?) k
theorem tellH_get(w:World)(k b:Nat):yG (tellH w k) b=if b<k then tellO w w.heap[b]? else .dead:=by
 induction k with
 | zero=>rw [if_neg (by omega)];exact Tr.get_leaf _ _
 | succ k ih=>
  show yG ((tellH w k).set .dead (tellO w w.heap[k]?) k) b=_;rw [zP,ih];by_cases h:k=b
  · subst h;rw [if_pos rfl,if_pos (by omega)]
  · rw[if_neg h];by_cases h2:b<k
    · rw[if_pos h2,if_pos (by omega)]
    · rw[if_neg h2,if_neg (by omega)]
noncomputable def mirH(w:World):List (Nat×List Value)→zH
 | []=>tellH w w.heap.size
 | p::r=>(mirH w r).set .dead (mkC p.2 0 2) p.1
theorem mirH_get(w:World)(tabs:List (Nat×List Value))(b:Nat):(∃p∈tabs,p.1=b∧yG (mirH w tabs) b=mkC p.2 0 2)∨yG (mirH w tabs) b=if b<w.heap.size then tellO w w.heap[b]? else .dead:=by
 induction tabs with
 | nil=>exact .inr (tellH_get w _ b)
 | cons p r ih=>
  have e:yG (mirH w (p::r)) b=if p.1=b then mkC p.2 0 2 else yG (mirH w r) b:=zP _ _ _ _
  by_cases h:p.1=b
  · exact .inl ⟨p,List.mem_cons_self ..,h,by rw[e,if_pos h]⟩
  · rw[e,if_neg h];rcases ih with⟨q,h1,h2,h3⟩|h1
    · exact .inl ⟨q,List.mem_cons_of_mem _ h1,h2,h3⟩
    · exact .inr h1
theorem mir_heapR{w:World}{tabs:List (Nat×List Value)}(hng:ng≤w.heap.size)(hw:oF w tabs)(hgood:∀p∈tabs,∀v∈p.2,RV (idI w) v v) :
 HeapR P ng (idI w) w.heap.size w (mirH w tabs) w.heap.size w:=by
 refine⟨fun b hb=>if_neg (by omega),fun b B e hl=>?_,fun a b A B ea eb _ _ hab=>?_,Below.refl _ _,Nat.le_refl _,fun g hg=>⟨_,idI_of (by omega),rfl⟩,hng⟩
 · obtain⟨hb,rfl⟩:=idI_lt e;rcases mirH_get w tabs b with⟨p,h1,rfl,h3⟩|h1
   · obtain⟨el,⟨lo,hi⟩,h4⟩:=hw p h1;refine⟨_,h4,?_⟩;have hs:szB w p.1=p.2.length:=by unfold szB;rw [h4];rfl
     rw[h3];refine .cells (by rw[hs];exact Nat.le_refl _) (by rw[hs];rfl) (fun _=>hs.symm) ⟨fun h=>by omega,fun h=>by omega⟩ (fun i v' hi2 e=>?_) (fun h=>absurd rfl h) (fun h=>absurd rfl h);rw [Tr.get_ofListFrom,if_pos (by omega)];have e1:p.2[i]? = some (p.2.getD (i - 0) undef):=by simp[List.getElem?_eq_getElem hi2]
     have e2:p.2[i]? = some v':=by simpa using e
     rw[e1]at e2;injection e2 with e2;subst e2
     exact hgood p h1 _ (List.mem_iff_getElem?.2 ⟨i,e1⟩)
   · rw[if_pos hb]at h1;rw [h1]at hl ⊢
     cases ho:w.heap[b]? with
     | none=>rw [ho]at hl;exact absurd rfl hl
     | some o =>
      rw[ho]at hl;refine⟨o,rfl,?_⟩;cases o <;> first|exact absurd rfl hl|skip
      rename_i cs el fr;refine .rows rfl (fun i v' e hu=>?_);have hi:i<cs.size:=(Array.getElem?_eq_some_iff.1 e).1;have e1:(cs.toList.map (tellV w))[i]? = some (tellV w v'):=by rw[List.getElem?_map,Array.getElem?_toList,e];rfl
      have e2:Tr.get undef (Tr.ofListFrom undef .lF 0 (cs.toList.map (tellV w))) i=tellV w v':=by
       rw[Tr.get_ofListFrom,if_pos (by simp;exact hi)];simp only[List.getD_eq_getElem?_getD,Nat.sub_zero,e1,Option.getD_some]
      rw[e2]at hu ⊢;unfold tellV at hu ⊢;by_cases hr:RV (idI w) (oP v') v'
      · rw[if_pos hr];exact hr
      · rw[if_neg hr]at hu;cases hu
 · obtain⟨_,rfl⟩:=idI_lt ea;obtain⟨_,rfl⟩:=idI_lt eb;exact hab
theorem mir_tab{w:World}{tabs:List (Nat×List Value)}(hd:∀p∈tabs,∀q∈tabs,p.1=q.1→p=q){p:Nat×List Value}(hp:p∈tabs):yG (mirH w tabs) p.1=mkC p.2 0 2:=by
 induction tabs with
 | nil=>cases hp
 | cons q r ih=>
  have e:yG (mirH w (q::r)) p.1=if q.1=p.1 then mkC q.2 0 2 else yG (mirH w r) p.1:=zP _ _ _ _
  rw[e];by_cases h:q.1=p.1
  · rw[if_pos h,hd q (List.mem_cons_self ..) p hp h]
  · rw[if_neg h];rcases List.mem_cons.1 hp with rfl|hp
    · exact absurd rfl h
    · exact ih (fun a ha b hb=>hd a (List.mem_cons_of_mem _ ha) b (List.mem_cons_of_mem _ hb)) hp
theorem mir_cell{w:World}{tabs:List (Nat×List Value)}(hw:oF w tabs)(hab:∀p∈tabs,∀v∈p.2,oP v=v){b i:Nat}{v:Value}(hc:w.cell? ⟨b,i,none⟩=some v)(hr:RV (idI w) (oP v) v)(hu:isU (oP v)=false) :
 xX (mirH w tabs) b i=some (oP v)∧b<w.heap.size∧∃m kd,tH (yG (mirH w tabs) b)=some (m,0,kd)∧m=szB w b∧i<m∧kd≠0:=by
 unfold World.cell? at hc;dsimp only at hc;split at hc
 · rename_i cs el fr ho;have hc:cs[i]? = some v:=by simpa using hc
   have hb:b<w.heap.size:=by
    rcases Nat.lt_or_ge b w.heap.size with h1|h1
    · exact h1
    · rw[Array.getElem?_eq_none h1]at ho;cases ho
   have hi:i<cs.size:=(Array.getElem?_eq_some_iff.1 hc).1;have hs:szB w b=cs.size:=by unfold szB;rw [ho]
   refine⟨?_,hb,?_⟩
   · unfold xX;rcases mirH_get w tabs b with⟨p,h1,rfl,h3⟩|h1
     · obtain⟨el',fr',h4⟩:=hw p h1;rw [ho]at h4;injection h4 with h4;injection h4 with h4 _ _;subst h4
       rw[h3,uW];have hc:p.2[i]? = some v:=by simpa using hc
       rw[hab p h1 v (List.mem_iff_getElem?.2 ⟨i,hc⟩)];exact hc
     · rw[h1,if_pos hb,ho];have e1:(cs.toList.map (tellV w))[i]? = some (oP v):=by rw[List.getElem?_map,Array.getElem?_toList,hc];exact congrArg some (if_pos hr)
       have e2:Tr.get undef (Tr.ofListFrom undef .lF 0 (cs.toList.map (tellV w))) i=oP v:=by
        rw[Tr.get_ofListFrom,if_pos (by simp;exact hi)];simp only[List.getD_eq_getElem?_getD,Nat.sub_zero,e1,Option.getD_some]
       show(if i<cs.size∧isU (Tr.get undef (Tr.ofListFrom undef .lF 0 (cs.toList.map (tellV w))) i)=false then some (Tr.get undef (Tr.ofListFrom undef .lF 0 (cs.toList.map (tellV w))) i) else none)=some (oP v);rw [e2,if_pos ⟨hi,hu⟩]
   · rcases mirH_get w tabs b with⟨p,h1,rfl,h3⟩|h1
     · obtain⟨el',fr',h4⟩:=hw p h1;rw [ho]at h4;injection h4 with h4;injection h4 with h4 _ _;subst h4
       exact⟨_,2,by rw[h3];rfl,hs.symm,hi,by decide⟩
     · exact⟨_,3,by rw[h1,if_pos hb,ho];rfl,hs.symm,hi,by decide⟩
 · cases hc
theorem law_retsV{f:FuncId}{args args':List Value}{h:zH}{n:Nat}(r:Rets P ng f args h n fun v _ _=>v = .bool true)(w:World){ρ : Inj}(hH:HeapR P ng ρ w.heap.size w h n w)(hra:RVs ρ args args') :
 Calls P f ⟨args'⟩ w fun e w'=>e = .returned (.bool true)∧Go.RowKit.Below w.heap.size w w':=by
 have hx:(loS P ng).call f args false none h n (finV (.bool true))=true:=r none _ fun v h' n' e=>by rw[e];rfl
 obtain⟨o,u',h',n',hk,hc⟩:=calls_of qZ hx;obtain rfl:=finV_ret hk;refine(hc ρ w.heap.size w w args' hH hra).mono fun e w' ⟨ρ',h1,h2,h3⟩=>?_
 cases e with
 | returned v'=>
  have h3:RV ρ' (.bool true) v':=h3;rw [h3.of_bool];exact⟨rfl,h1.below⟩
 | _=>cases h3
end
end Go.Ex
namespace Go.Ex.Vir
open Go Go.Ex
abbrev Tx:=List UInt8
structure Ins where
 kind:Int
 d:Int
 a:Int
 b:Int
 n:Int
 name:Tx
 args:List Int
 t:Int
 f:Int
def Ins.z:Ins:=⟨0,0,0,0,0,[],[],0,0⟩
structure Fct where
 name:Tx
 vregs:List Tx
 params:List Int
 result:Tx
 blocks:List (List Ins)
def Fct.z:Fct:=⟨[],[],[],[],[]⟩
def qF(c:Int):Bool:=decide ((97≤c∧c≤122)∨(65≤c∧c≤90)∨c=95)
def digit(c:Int):Bool:=decide (48≤c∧c≤57)
def nameB(c:UInt8):Bool:=qF c.toNat || digit c.toNat
def named(l:Tx):Bool:=match l with
 | []=>false
 | c::r=>decide (l.length≤20) && (qF c.toNat && (c::r).all nameB)
abbrev tFunc:Tx:=[102,117,110,99]
abbrev tRegs:Tx:=[114,101,103,115]
abbrev pT:Tx:=[112,97,114,97,109,115]
abbrev tResult:Tx:=[114,101,115,117,108,116]
abbrev rY:Tx:=[98,108,111,99,107]
abbrev tEnd:Tx:=[101,110,100]
abbrev tConst:Tx:=[99,111,110,115,116]
abbrev tCopy:Tx:=[99,111,112,121]
abbrev tLoad:Tx:=[108,111,97,100]
abbrev pU:Tx:=[99,97,108,108]
abbrev tStore:Tx:=[115,116,111,114,101]
abbrev tBr:Tx:=[98,114]
abbrev tJump:Tx:=[106,117,109,112]
abbrev tRet:Tx:=[114,101,116]
abbrev tEq:Tx:=[61]
abbrev tTwo:Tx:=[32,32]
def xS(n:Int):Bool:=decide (0≤n∧n≤99999)
def tX(i:Ins):Ins:=
 if i.kind=1 then { i with kind:=0,d:=0,n:=0 }
 else if i.kind=2∨i.kind=4 then { i with kind:=0,d:=0,a:=0 }
 else if i.kind=3∨i.kind=6 then { i with kind:=0,d:=0,name:=[],args:=[] }
 else if i.kind=5 then { i with kind:=0,a:=0,b:=0 }
 else if i.kind=7 then { i with kind:=0,a:=0,t:=0,f:=0 }
 else if i.kind=8 then { i with kind:=0,t:=0 }
 else if i.kind=9 then { i with kind:=0,a:=0 }
 else { i with kind:=0 }
def zeroI(i:Ins):Bool:=decide (i.kind=0∧i.d=0∧i.a=0∧i.b=0∧i.n=0∧i.name=[]∧i.args.length=0∧i.t=0∧i.f=0)
def wordB(x:Tx):Bool:=[tConst,tCopy,tLoad,pU].any (x == ·)
def wL(i:Ins):Bool:=decide (1≤i.kind) && decide (i.kind≤9) && zeroI (tX i) && [i.a,i.b,i.t,i.f].all xS && i.args.all xS && decide (i.args.length≤16) &&
  (if i.kind=3 then named i.name && !wordB i.name && decide (1≤i.args.length) && decide (i.args.length≤2) && xS i.d
   else if i.kind=6 then named i.name && (decide (i.d = -1) || xS i.d) else xS i.d)
def rG(f:Fct):Bool:=named f.name && named f.result && decide (f.vregs.length≤500) && decide (f.params.length≤16) && decide (f.blocks.length≤200) && f.params.all xS && f.vregs.all named &&
 f.blocks.all fun b=>decide (b.length≤400) && b.all wL
abbrev Res(α : Type):=Except Int (α×List Tx)
def nextW:List Tx→Res Tx
 | []=>.error 3
 | s::r=>.ok (s,r)
def wantW(x:Tx)(ws:List Tx):Res Unit:=match ws with
 | []=>.error 3
 | s::r=>if s == x then .ok ((),r) else .error 3
def rE(ws:List Tx):Res Tx:=match ws with
 | []=>.error 3
 | s::r=>if named s then .ok (s,r) else .error 3
def anyOf(s:Tx):Option Int:=match Lib.atoiAll s with
 | .ok v=>if Lib.itoa v == s then some v else none
 | _=>none
theorem anyOf_ok{s:Tx}{a:Int}(h:Lib.atoiAll s = .ok a):anyOf s=if Lib.itoa a == s then some a else none:=by unfold anyOf;rw [h]
theorem anyOf_bad{s:Tx}(h:∀a,Lib.atoiAll s≠.ok a):anyOf s=none:=by
 unfold anyOf;split
 · rename_i v e;exact absurd e (h v)
 · rfl
def anyW(ws:List Tx):Res Int:=match ws with
 | []=>.error 3
 | s::r=>match anyOf s with
  | some v=>.ok (v,r)
  | none=>.error 3
def wM(ws:List Tx):Res Int:=match anyW ws with
 | .error e=>.error e
 | .ok (v,r)=>if xS v then .ok (v,r) else .error 3
def endW(ws:List Tx):Res Unit:=match ws with
 | []=>.ok ((),[])
 | _::_=>.error 3
def restW{α : Type}(one:List Tx→Res α):Nat→List Tx→Res (List α)
 | _,[]=>.ok ([],[])
 | 0,ws=>.ok ([],ws)
 | k + 1, ws => match one ws with
  | .error e=>.error e
  | .ok (x,r)=>match restW one k r with
   | .error e=>.error e
   | .ok (l,r')=>.ok (x::l,r')
theorem restW_ok{α : Type}{one:List Tx→Res α}{k:Nat}{s:Tx}{r r' ws':List Tx}{x: α}{l:List α}(h1:one (s::r) = .ok (x,r'))(h2:restW one k r' = .ok (l,ws')):restW one (k+1) (s::r) = .ok (x::l,ws'):=by
 unfold restW;rw [h1];dsimp only;rw [h2]
theorem restW_er1{α : Type}{one:List Tx→Res α}{k:Nat}{s:Tx}{r:List Tx}{e:Int}(h1:one (s::r) = .error e):restW one (k+1) (s::r) = .error e:=by
 unfold restW;rw [h1]
theorem restW_er2{α : Type}{one:List Tx→Res α}{k:Nat}{s:Tx}{r r':List Tx}{x: α}{e:Int}(h1:one (s::r) = .ok (x,r'))(h2:restW one k r' = .error e):restW one (k+1) (s::r) = .error e:=by
 unfold restW;rw [h1];dsimp only;rw [h2]
def sE(ws:List Tx):Res (List Tx):=restW rE ws.length ws
def uH(ws:List Tx):Res (List Int):=restW wM ws.length ws
def qD(i:Ins)(ws:List Tx):Res Ins:=match rE ws with
 | .error e=>.error e
 | .ok (s,r)=>match uH r with
  | .error e=>.error e
  | .ok (l,r')=>if l.length≤16 then .ok ({ i with kind:=6,name:=s,args:=l },r') else .error 2
def wN(ws:List Tx):Res Ins:=match wM ws with
 | .error e=>.error e
 | .ok (d, r) => match wantW tEq r with
  | .error e=>.error e
  | .ok (_, r) => match rE r with
   | .error e=>.error e
   | .ok (s, r) =>
    if s == tConst then(match anyW r with
     | .error e=>.error e
     | .ok (v,r)=>.ok ({ Ins.z with kind:=1,d:=d,n:=v },r))
    else if s == tCopy then(match wM r with
     | .error e=>.error e
     | .ok (v,r)=>.ok ({ Ins.z with kind:=2,d:=d,a:=v },r))
    else if s == tLoad then(match wM r with
     | .error e=>.error e
     | .ok (v,r)=>.ok ({ Ins.z with kind:=4,d:=d,a:=v },r))
    else if s == pU then qD { Ins.z with d:=d } r
    else(match uH r with
     | .error e=>.error e
     | .ok (l,r')=>if 1≤l.length then(if l.length≤2 then .ok ({ Ins.z with kind:=3,d:=d,name:=s,args:=l },r') else .error 3) else .error 3)
def wordAt1(ws:List Tx):Tx:=(ws[1]?).getD []
def oneI(ws:List Tx):Res Ins:=
 if wordAt1 ws == tEq then wN ws else match nextW ws with
 | .error e=>.error e
 | .ok (s, r) =>
  if s == tStore then(match wM r with
   | .error e=>.error e
   | .ok (a,r)=>match wM r with
    | .error e=>.error e
    | .ok (b,r)=>.ok ({ Ins.z with kind:=5,a:=a,b:=b },r))
  else if s == pU then qD { Ins.z with d:= -1 } r
  else if s == tBr then(match wM r with
   | .error e=>.error e
   | .ok (a, r) => match wM r with
    | .error e=>.error e
    | .ok (b,r)=>match wM r with
     | .error e=>.error e
     | .ok (c,r)=>.ok ({ Ins.z with kind:=7,a:=a,t:=b,f:=c },r))
  else if s == tJump then(match wM r with
   | .error e=>.error e
   | .ok (a,r)=>.ok ({ Ins.z with kind:=8,t:=a },r))
  else if s == tRet then(match wM r with
   | .error e=>.error e
   | .ok (a,r)=>.ok ({ Ins.z with kind:=9,a:=a },r))
  else .error 3
def ofW(line head:Tx):Except Int (List Tx):=
 if Lib.hasPrefix line head && !(Lib.trimPrefix line head == []) then
  (if (vB 32 (Lib.trimPrefix line head)).all (fun s=> !(s == [])) then .ok (vB 32 (Lib.trimPrefix line head)) else .error 3)
 else .error 3
structure St where
 step:Nat
 opn:Bool
 ended:Bool
 f:Fct
def St.z:St:=⟨0,false,false,Fct.z⟩
def qK(st:St)(ws:List Tx):Except Int Fct:=match st.step with
 | 0 => match wantW tFunc ws with
  | .error e=>.error e
  | .ok (_, r) => match rE r with
   | .error e=>.error e
   | .ok (s,r)=>match endW r with
    | .error e=>.error e
    | .ok _=>.ok { st.f with name:=s }
 | 1 => match wantW tRegs ws with
  | .error e=>.error e
  | .ok (_,r)=>match sE r with
   | .error e=>.error e
   | .ok (l,_)=>if l.length≤500 then .ok { st.f with vregs:=l } else .error 2
 | 2 => match wantW pT ws with
  | .error e=>.error e
  | .ok (_,r)=>match uH r with
   | .error e=>.error e
   | .ok (l,_)=>if l.length≤16 then .ok { st.f with params:=l } else .error 2
 | _ => match wantW tResult ws with
  | .error e=>.error e
  | .ok (_, r) => match rE r with
   | .error e=>.error e
   | .ok (s,r)=>match endW r with
    | .error e=>.error e
    | .ok _=>.ok { st.f with result:=s }
theorem headS_blocks{st:St}{ws:List Tx}{f':Fct}(h:qK st ws = .ok f'):f'.blocks=st.f.blocks:=by
 unfold qK at h;repeat' (split at h)
 all_goals first
  | (cases h;done)
  | (injection h with h;subst h;rfl)
def oK(l:List (List Ins))(i:Ins):List (List Ins):=l.dropLast++[l.getLastD []++[i]]
def insS(st:St)(ws:List Tx):Except Int Fct:=match oneI ws with
 | .error e=>.error e
 | .ok (i,r)=>match endW r with
  | .error e=>.error e
  | .ok _=>if (st.f.blocks.getLastD []).length<400 then .ok { st.f with blocks:=oK st.f.blocks i } else .error 2
theorem insS_blocks{st:St}{ws:List Tx}{f':Fct}(h:insS st ws = .ok f'):f'.blocks≠[]:=by
 unfold insS at h;repeat' (split at h)
 all_goals first
  | (cases h;done)
  | (injection h with h;subst h;simp [oK])
def uY(st:St)(s:Tx):Except Int St:=
 if !st.ended && !(s == []) then
  if st.step<4 then(match ofW s [] with
   | .error e=>.error e
   | .ok ws=>match qK st ws with
    | .error e=>.error e
    | .ok f=>.ok { st with step:=st.step+1,f:=f })
  else if s == tEnd then .ok { st with ended:=true }
  else if s == rY then(if st.f.blocks.length<200 then .ok { st with opn:=true,f:={ st.f with blocks:=st.f.blocks++[[]] } } else .error 2)
  else if st.opn then(match ofW s tTwo with
   | .error e=>.error e
   | .ok ws=>match insS st ws with
    | .error e=>.error e
    | .ok f=>.ok { st with f:=f })
  else .error 3
 else .error 3
def rH(s:Tx):Tx:=if (cutB 10 s).2.2 then(cutB 10 s).1 else []
def runS:Nat→Nat→Tx→St→Except (Nat×Int) (St×Nat)
 | 0,no,_,st=>.ok (st,no)
 | k + 1, no, s, st =>
  if s == [] then .ok (st,no)
  else match uY st (rH s) with
   | .error e=>.error (no,e)
   | .ok st'=>runS k (no+1) (cutB 10 s).2.1 st'
def tellS(r:Except (Nat×Int) (St×Nat)):Fct×Int×Int:=match r with
 | .error (no,e)=>(Fct.z,no,e)
 | .ok (st,no)=>if st.ended then(st.f,0,0) else(Fct.z,no,3)
def readS(s:Tx):Fct×Int×Int:=if 65536<s.length then(Fct.z,0,2) else tellS (runS (s.length+1) 1 s St.z)
def Bad(e:Int):Prop:=e=2∨e=3
theorem wantW_bad{x:Tx}{ws:List Tx}{e:Int}(h:wantW x ws = .error e):Bad e:=by
 unfold wantW at h;repeat' (split at h)
 all_goals first
  | (cases h;done)
  | (injection h with h;exact .inr h.symm)
theorem nameW_bad{ws:List Tx}{e:Int}(h:rE ws = .error e):Bad e:=by
 unfold rE at h;repeat' (split at h)
 all_goals first
  | (cases h;done)
  | (injection h with h;exact .inr h.symm)
theorem nextW_bad{ws:List Tx}{e:Int}(h:nextW ws = .error e):Bad e:=by
 unfold nextW at h;repeat' (split at h)
 all_goals first
  | (cases h;done)
  | (injection h with h;exact .inr h.symm)
theorem anyW_bad{ws:List Tx}{e:Int}(h:anyW ws = .error e):Bad e:=by
 unfold anyW at h;repeat' (split at h)
 all_goals first
  | (cases h;done)
  | (injection h with h;exact .inr h.symm)
theorem numberW_bad{ws:List Tx}{e:Int}(h:wM ws = .error e):Bad e:=by
 unfold wM at h;split at h
 · rename_i e' h1;injection h with h;subst h;exact anyW_bad h1
 · split at h
   · cases h
   · injection h with h;exact .inr h.symm
theorem endW_bad{ws:List Tx}{e:Int}(h:endW ws = .error e):Bad e:=by
 unfold endW at h;repeat' (split at h)
 all_goals first
  | (cases h;done)
  | (injection h with h;exact .inr h.symm)
theorem restW_bad{α : Type}{one:List Tx→Res α}(ho:∀ws e,one ws = .error e→Bad e):∀(k:Nat) (ws:List Tx) (e:Int),restW one k ws = .error e→Bad e:=by
 intro k
 induction k with
 | zero=>intro ws e h;cases ws <;> cases h
 | succ k ih =>
  intro ws e h
  cases ws with
  | nil=>cases h
  | cons s r =>
   cases h1:one (s::r) with
   | error e'=>rw [restW_er1 h1]at h;injection h with h;subst h;exact ho _ _ h1
   | ok p=>
    obtain⟨x,r'⟩:=p
    cases h2:restW one k r' with
    | error e'=>rw [restW_er2 h1 h2]at h;injection h with h;subst h;exact ih _ _ h2
    | ok q=>obtain⟨l,r2⟩:=q;rw [restW_ok h1 h2]at h;cases h
theorem restNames_bad{ws:List Tx}{e:Int}(h:sE ws = .error e):Bad e:=restW_bad (fun _ _=>nameW_bad) _ _ _ h
theorem restNums_bad{ws:List Tx}{e:Int}(h:uH ws = .error e):Bad e:=restW_bad (fun _ _=>numberW_bad) _ _ _ h
theorem calledI_bad{i:Ins}{ws:List Tx}{e:Int}(h:qD i ws = .error e):Bad e:=by
 unfold qD at h;split at h
 · rename_i h1;injection h with h;subst h;exact nameW_bad h1
 · split at h
   · rename_i h1;injection h with h;subst h;exact restNums_bad h1
   · split at h
     · cases h
     · injection h with h;exact .inl h.symm
theorem definingI_bad{ws:List Tx}{e:Int}(h:wN ws = .error e):Bad e:=by
 unfold wN at h;repeat' (split at h)
 all_goals first
  | (cases h;done)
  | exact calledI_bad h
  | (rename_i h1;injection h with h;subst h;first|exact numberW_bad h1|exact wantW_bad h1|exact nameW_bad h1|exact anyW_bad h1|exact restNums_bad h1)
  | (injection h with h;exact .inr h.symm)
theorem oneI_bad{ws:List Tx}{e:Int}(h:oneI ws = .error e):Bad e:=by
 unfold oneI at h;repeat' (split at h)
 all_goals first
  | (cases h;done)
  | exact calledI_bad h
  | exact definingI_bad h
  | (rename_i h1;injection h with h;subst h;first|exact numberW_bad h1|exact nextW_bad h1)
  | (injection h with h;exact .inr h.symm)
theorem ofW_bad{s hd:Tx}{e:Int}(h:ofW s hd = .error e):Bad e:=by
 unfold ofW at h;repeat' (split at h)
 all_goals first
  | (cases h;done)
  | (injection h with h;exact .inr h.symm)
theorem headS_bad{st:St}{ws:List Tx}{e:Int}(h:qK st ws = .error e):Bad e:=by
 unfold qK at h;repeat' (split at h)
 all_goals first
  | (cases h;done)
  | (rename_i h1;injection h with h;subst h;first|exact wantW_bad h1|exact nameW_bad h1|exact endW_bad h1|exact restNames_bad h1|exact restNums_bad h1)
  | (injection h with h;exact .inl h.symm)
theorem insS_bad{st:St}{ws:List Tx}{e:Int}(h:insS st ws = .error e):Bad e:=by
 unfold insS at h;repeat' (split at h)
 all_goals first
  | (cases h;done)
  | (rename_i h1;injection h with h;subst h;first|exact oneI_bad h1|exact endW_bad h1)
  | (injection h with h;exact .inl h.symm)
theorem lineS_bad{st:St}{s:Tx}{e:Int}(h:uY st s = .error e):Bad e:=by
 unfold uY at h;repeat' (split at h)
 all_goals first
  | (cases h;done)
  | (rename_i h1;injection h with h;subst h;first|exact ofW_bad h1|exact headS_bad h1|exact insS_bad h1)
  | (injection h with h;exact .inl h.symm)
  | (injection h with h;exact .inr h.symm)
def RunOK:Nat→Tx→St→(St→Tx→Prop)→Prop
 | 0,_,_,_=>True
 | k+1,s,st,Q=>s=[]∨(Q st (rH s)∧∀st',uY st (rH s) = .ok st'→RunOK k (cutB 10 s).2.1 st' Q)
theorem cutB_len(c:UInt8):∀s:Tx,s≠[]→(cutB c s).2.1.length<s.length∧(cutB c s).1.length≤s.length:=by
 intro s
 induction s with
 | nil=>intro h;exact absurd rfl h
 | cons a r ih=>
  intro _;unfold cutB;split
  · simp
  · cases r with
    | nil=>simp [cutB]
    | cons b t=>
     have:=ih (by simp);simp only[List.length_cons]at this ⊢;omega
theorem lineOf_len(s:Tx):(rH s).length≤s.length:=by
 unfold rH;split
 · cases s with
   | nil=>simp [cutB]
   | cons a r=>exact(cutB_len 10 (a::r) (by simp)).2
 · simp
theorem runS_nil(k no:Nat)(st:St):runS (k+1) no [] st = .ok (st,no):=rfl
theorem runS_er{k no:Nat}{s:Tx}{st:St}{e:Int}(hs:(s == [])=false)(h:uY st (rH s) = .error e):runS (k+1) no s st = .error (no,e):=by
 unfold runS;rw [hs,h];rfl
theorem runS_ok{k no:Nat}{s:Tx}{st st':St}(hs:(s == [])=false)(h:uY st (rH s) = .ok st'):runS (k+1) no s st=runS k (no+1) (cutB 10 s).2.1 st':=by
 conv=>lhs;unfold runS
 rw[hs,h];rfl
theorem runS_bad:∀(k no:Nat) (s:Tx) (st:St) (no':Nat) (e:Int),runS k no s st = .error (no',e)→Bad e:=by
 intro k
 induction k with
 | zero=>intro no s st no' e h;cases h
 | succ k ih =>
  intro no s st no' e h
  cases hs:(s == []) with
  | true=>
   have:s=[]:=by simpa using hs
   subst this;rw [runS_nil]at h;cases h
  | false=>
   cases hl:uY st (rH s) with
   | error e'=>rw [runS_er hs hl]at h;injection h with h;injection h with _ h;subst h;exact lineS_bad hl
   | ok st'=>rw [runS_ok hs hl]at h;exact ih _ _ _ _ _ h
theorem dec_ofNat{k:Nat}(h:k<10):(UInt8.ofNat (48+k)).toNat=48+k:=by
 rw[UInt8.toNat_ofNat'];omega
theorem decDigits_dig(u:Nat):∀c∈Lib.decDigits u,48≤c.toNat∧c.toNat≤57:=by
 induction u using Nat.strongRecOn with
 | _ u ih=>
  intro c hc;rw [Lib.decDigits]at hc;split at hc
  · rename_i h;simp only[List.mem_cons,List.not_mem_nil,or_false]at hc;subst hc;rw [dec_ofNat h];omega
  · rename_i h;rw [List.mem_append]at hc;rcases hc with hc|hc
    · exact ih (u / 10) (by omega) c hc
    · simp only[List.mem_cons,List.not_mem_nil,or_false]at hc;subst hc;rw [dec_ofNat (by omega)];omega
theorem decDigits_ne(u:Nat):Lib.decDigits u≠[]:=by
 rw[Lib.decDigits];split
 · simp
 · simp
theorem itoa_chars(n:Int):∀c∈Lib.itoa n,c.toNat=45∨(48≤c.toNat∧c.toNat≤57):=by
 intro c hc;unfold Lib.itoa at hc;split at hc
 · rw[List.mem_cons]at hc;rcases hc with rfl|hc
   · exact .inl rfl
   · exact .inr (decDigits_dig _ c hc)
 · exact .inr (decDigits_dig _ c hc)
theorem itoa_ne(n:Int):Lib.itoa n≠[]:=by
 unfold Lib.itoa;split
 · simp
 · exact decDigits_ne _
theorem parse_append(l:List UInt8)(c:UInt8):∀(acc u:Nat),Lib.parseUint10 acc l = .ok u→Lib.parseUint10 acc (l++[c])=Lib.parseUint10 u [c]:=by
 induction l with
 | nil=>intro acc u h;simp only[Lib.parseUint10]at h;injection h with h;subst h;rfl
 | cons x r ih=>
  intro acc u h;rw [List.cons_append];simp only[Lib.parseUint10]at h ⊢;split at h
  · split at h
    · cases h
    · split at h
      · cases h
      · rename_i h1 h2 h3;rw [if_pos h1,if_neg h2,if_neg h3];exact ih _ _ h
  · cases h
theorem parse_dec(u:Nat)(hu:u<18446744073709551616):Lib.parseUint10 0 (Lib.decDigits u) = .ok u:=by
 induction u using Nat.strongRecOn with
 | _ u ih=>
  rw[Lib.decDigits];split
  · rename_i h;have e:=dec_ofNat h;simp only[Lib.parseUint10,e];rw [if_pos (by omega),if_neg (by omega),if_neg (by omega)];congr 1;omega
  · rename_i h;rw [parse_append _ _ 0 (u / 10) (ih (u / 10) (by omega) (by omega))];have e:=dec_ofNat (show u % 10<10 by omega);simp only[Lib.parseUint10,e];rw [if_pos (by omega),if_neg (by omega),if_neg (by omega)];congr 1;omega
theorem parseMag_dec(u:Nat)(hu:u<18446744073709551616):Lib.parseMag (Lib.decDigits u) = .ok u:=by
 unfold Lib.parseMag;rw [if_neg (decDigits_ne u),parse_dec u hu]
def Go64(x:Int):Prop:= -9223372036854775808≤x∧x≤9223372036854775807
theorem atoi_itoa{n:Int}(h:Go64 n):Lib.atoiAll (Lib.itoa n) = .ok n:=by
 obtain⟨h0,h1⟩:=h;unfold Lib.itoa;split
 · rename_i hn;have hm:=parseMag_dec n.natAbs (by omega);unfold Lib.atoiAll;dsimp only;have e45:(45:UInt8).toNat=45:=rfl;rw [e45,if_pos (by omega),hm];dsimp only;rw [if_neg (by omega),if_neg (by omega),if_pos rfl];congr 1;omega
 · rename_i hn;have hm:=parseMag_dec n.toNat (by omega);have hd:=decDigits_dig n.toNat;revert hm hd
   cases e:Lib.decDigits n.toNat with
   | nil=>exact absurd e (decDigits_ne _)
   | cons c r=>
    intro hm hd;have hc:=hd c (List.mem_cons_self ..);unfold Lib.atoiAll;dsimp only;rw [if_neg (by omega),hm];dsimp only;rw [if_neg (by omega),if_neg (by omega),if_neg (by omega)];congr 1;omega
theorem any_itoa{n:Int}(h:Go64 n):anyOf (Lib.itoa n)=some n:=by
 rw[anyOf_ok (atoi_itoa h),if_pos (by simp)]
theorem rS{n:Int}(h:xS n=true):Go64 n:=by
 have:=of_decide_eq_true h;exact⟨by omega,by omega⟩
theorem anyW_itoa{n:Int}(h:Go64 n)(r:List Tx):anyW (Lib.itoa n::r) = .ok (n,r):=by
 unfold anyW;dsimp only;rw [any_itoa h]
theorem vF{n:Int}(h:xS n=true)(r:List Tx):wM (Lib.itoa n::r) = .ok (n,r):=by
 unfold wM;rw [anyW_itoa (rS h)];dsimp only;rw [if_pos h]
theorem restNums_itoa:∀(ns:List Int) (k:Nat),ns.length≤k→ns.all xS=true→restW wM k (ns.map Lib.itoa) = .ok (ns,[]):=by
 intro ns
 induction ns with
 | nil=>intro k _ _;cases k <;> rfl
 | cons x r ih=>
  intro k hk ha;obtain⟨k,rfl⟩:∃j,k=j+1:=⟨k - 1,by simp at hk;omega⟩;rw [List.all_cons,Bool.and_eq_true]at ha;rw [List.map_cons];exact restW_ok (vF ha.1 _) (ih k (by simpa using hk) ha.2)
theorem pV{ns:List Int}(ha:ns.all xS=true):uH (ns.map Lib.itoa) = .ok (ns,[]):=
 restNums_itoa ns _ (by simp) ha
theorem qL{s:Tx}(h:named s=true)(r:List Tx):rE (s::r) = .ok (s,r):=by
 unfold rE;dsimp only;rw [if_pos h]
theorem qM(x:Tx)(r:List Tx):wantW x (x::r) = .ok ((),r):=by
 unfold wantW;dsimp only;rw [if_pos (by simp)]
theorem restNames_ok:∀(ns:List Tx) (k:Nat),ns.length≤k→ns.all named=true→restW rE k ns = .ok (ns,[]):=by
 intro ns
 induction ns with
 | nil=>intro k _ _;cases k <;> rfl
 | cons x r ih=>
  intro k hk ha;obtain⟨k,rfl⟩:∃j,k=j+1:=⟨k - 1,by simp at hk;omega⟩;rw [List.all_cons,Bool.and_eq_true]at ha;exact restW_ok (qL ha.1 _) (ih k (by simpa using hk) ha.2)
def WordOK(s:Tx):Prop:=s≠[]∧(32:UInt8)∉s∧(10:UInt8)∉s
theorem nameB_ne{c:UInt8}(h:nameB c=true):c≠32∧c≠10∧c≠61:=by
 refine⟨?_,?_,?_⟩ <;> (intro e;subst e;revert h;decide)
theorem named_ok{s:Tx}(h:named s=true):WordOK s∧s≠tEq:=by
 unfold named at h;split at h
 · cases h
 · rename_i c r;rw [Bool.and_eq_true,Bool.and_eq_true]at h;obtain⟨_,_,h⟩:=h;have h':=List.all_eq_true.1 h;refine⟨⟨by simp,fun hm=>(nameB_ne (h' _ hm)).1 rfl,fun hm=>(nameB_ne (h' _ hm)).2.1 rfl⟩,fun e=>?_⟩;injection e with e _
   exact(nameB_ne (h' c (List.mem_cons_self ..))).2.2 e
theorem itoa_word(n:Int):WordOK (Lib.itoa n):=by
 refine⟨itoa_ne n,fun h=>?_,fun h=>?_⟩ <;> (have:=itoa_chars n _ h;revert this;decide)
theorem itoa_ne_eq(n:Int):Lib.itoa n≠tEq:=by
 intro e;have:=itoa_chars n 61 (by rw[e];exact List.mem_cons_self ..);revert this;decide
theorem splitL_no{c:UInt8}:∀{s:Tx},c∉s→vB c s=[s]:=by
 intro s
 induction s with
 | nil=>intro _;rfl
 | cons a r ih=>
  intro h;rw [List.mem_cons,not_or]at h;unfold vB;rw [if_neg (fun e=>h.1 e.symm),ih h.2]
theorem splitL_at{c:UInt8}{t:Tx}:∀{s:Tx},c∉s→vB c (s++c::t)=s::vB c t:=by
  intro s
  induction s with
  | nil => intro _; show vB c (c :: t) = _; conv => lhs; unfold vB
           rw[if_pos rfl]
  | cons a r ih =>
    intro h;rw [List.mem_cons,not_or]at h;rw [List.cons_append];conv=>lhs;unfold vB
    rw[if_neg (fun e=>h.1 e.symm),ih h.2]
theorem join_two(x y:Tx)(r:List Tx)(c:UInt8):Lib.join (x::y::r) [c]=x++c::Lib.join (y::r) [c]:=by
 rw[Lib.join_cons,Lib.join_cons];unfold Lib.joinTail;simp
theorem splitL_join{ws:List Tx}:∀{w:Tx},(∀s∈w::ws,(32:UInt8)∉s)→vB 32 (Lib.join (w::ws) [32])=w::ws:=by
 induction ws with
 | nil=>intro w h;rw [Lib.join_one];exact splitL_no (h w (List.mem_cons_self ..))
 | cons y r ih=>
  intro w h;rw [join_two,splitL_at (h w (List.mem_cons_self ..)),ih fun s hs=>h s (List.mem_cons_of_mem _ hs)]
theorem join_no{c:UInt8}(hc:c≠32){ws:List Tx}:∀{w:Tx},(∀s∈w::ws,c∉s)→c∉Lib.join (w::ws) [32]:=by
 induction ws with
 | nil=>intro w h;rw [Lib.join_one];exact h w (List.mem_cons_self ..)
 | cons y r ih=>
  intro w h;rw [join_two,List.mem_append,List.mem_cons]
  rintro (e|e|e)
  · exact h w (List.mem_cons_self ..) e
  · exact hc e
  · exact ih (fun s hs=>h s (List.mem_cons_of_mem _ hs)) e
theorem join_ne{w:Tx}(ws:List Tx)(h:w≠[]):Lib.join (w::ws) [32]≠[]:=by
 rw[Lib.join_cons];intro e;exact h (List.append_eq_nil_iff.1 e).1
theorem ofW_join{hd w:Tx}{ws:List Tx}(h:∀s∈w::ws,WordOK s):ofW (hd++Lib.join (w::ws) [32]) hd = .ok (w::ws):=by
 have e1:Lib.hasPrefix (hd++Lib.join (w::ws) [32]) hd=true:=by
  unfold Lib.hasPrefix;rw [List.isPrefixOf_iff_prefix];exact List.prefix_append ..
 have e2:Lib.trimPrefix (hd++Lib.join (w::ws) [32]) hd=Lib.join (w::ws) [32]:=by
  unfold Lib.trimPrefix;rw [if_pos e1,List.drop_left]
 have e3:=splitL_join (w:=w) (ws:=ws) fun s hs=>(h s hs).2.1
 have e4:(Lib.join (w::ws) [32] == [])=false:=by
  rw[beq_eq_false_iff_ne];exact join_ne ws (h w (List.mem_cons_self ..)).1
 have e5:(w::ws).all (fun s=> !(s == []))=true:=by
  rw[List.all_eq_true];intro s hs;have:=(h s hs).1;simpa using this
 unfold ofW;rw [e1,e2,e3,e4,e5];rfl
def sH(i:Ins):List Tx:=
 if i.kind=1 then [Lib.itoa i.d,tEq,tConst,Lib.itoa i.n]
 else if i.kind=2 then [Lib.itoa i.d,tEq,tCopy,Lib.itoa i.a]
 else if i.kind=3 then [Lib.itoa i.d,tEq,i.name]++i.args.map Lib.itoa
 else if i.kind=4 then [Lib.itoa i.d,tEq,tLoad,Lib.itoa i.a]
 else if i.kind=5 then [tStore,Lib.itoa i.a,Lib.itoa i.b]
 else if i.kind=6 then(if i.d = -1 then [] else [Lib.itoa i.d,tEq])++[pU,i.name]++i.args.map Lib.itoa
 else if i.kind=7 then [tBr,Lib.itoa i.a,Lib.itoa i.t,Lib.itoa i.f]
 else if i.kind=8 then [tJump,Lib.itoa i.t]
 else [tRet,Lib.itoa i.a]
def InsAll(i:Ins):Prop:=Go64 i.d∧Go64 i.a∧Go64 i.b∧Go64 i.n∧Go64 i.t∧Go64 i.f∧(∀x∈i.args,Go64 x)∧i.args.length<50000
theorem plainI_of{i:Ins}(h:wL i=true):(1≤i.kind∧i.kind≤9)∧zeroI (tX i)=true∧(xS i.a=true∧xS i.b=true∧xS i.t=true∧xS i.f=true)∧i.args.all xS=true∧i.args.length≤16∧
    (if i.kind=3 then named i.name && !wordB i.name && decide (1≤i.args.length) && decide (i.args.length≤2) && xS i.d
     else if i.kind=6 then named i.name && (decide (i.d = -1) || xS i.d) else xS i.d)=true:=by
  unfold wL at h;simp only[Bool.and_eq_true,decide_eq_true_eq]at h;obtain⟨⟨⟨⟨⟨⟨h1,h2⟩,h3⟩,h4⟩,h5⟩,h6⟩,h7⟩:=h;simp only[List.all_cons,List.all_nil,Bool.and_true,Bool.and_eq_true]at h4;exact⟨⟨h1,h2⟩,h3,⟨h4.1,h4.2.1,h4.2.2.1,h4.2.2.2⟩,h5,h6,h7⟩
theorem zero_of{i:Ins}(h:zeroI i=true):i=Ins.z:=by
 unfold zeroI at h;obtain⟨kind,d,a,b,n,name,args,t,f⟩:=i;obtain⟨h1,h2,h3,h4,h5,h6,h7,h8,h9⟩:=of_decide_eq_true h;dsimp only at h1 h2 h3 h4 h5 h6 h7 h8 h9;have:=List.length_eq_zero_iff.1 h7;subst h1 h2 h3 h4 h5 h6 this h8 h9;rfl
theorem tk:named tConst=true∧named tCopy=true∧named tLoad=true∧named pU=true:=by decide
theorem oneI_def{d:Int}{r:List Tx}:oneI (Lib.itoa d::tEq::r)=wN (Lib.itoa d::tEq::r):=by
 unfold oneI;rw [if_pos (by rfl)]
theorem oL{s w:Tx}{r:List Tx}(h:s≠tEq):(wordAt1 (w::s::r) == tEq)=false:=by
 rw[beq_eq_false_iff_ne];exact h
theorem oneI_show{i:Ins}(h:wL i=true)(hn:Go64 i.n):oneI (sH i) = .ok (i,[]):=by
 obtain⟨⟨h1,h2⟩,h3,⟨ha,hb,ht,hf⟩,hargs,hal,hk⟩:=plainI_of h;have hz:=zero_of h3;have d1:∀{d:Int} {r:List Tx} ,xS d=true→wM (Lib.itoa d::tEq::r) = .ok (d,tEq::r):=fun hd=>vF hd _;unfold tX at hz;unfold sH;obtain⟨kind,d,a,b,n,name,args,t,f⟩:=i;dsimp only at h1 h2 h3 ha hb ht hf hargs hal hk hz hn ⊢;have cs:kind=1∨kind=2∨kind=3∨kind=4∨kind=5∨kind=6∨kind=7∨kind=8∨kind=9:=by omega
 have hz':=hz;rcases cs with rfl|rfl|rfl|rfl|rfl|rfl|rfl|rfl|rfl <;> simp[Ins.z]at hz hk ⊢
 · obtain⟨rfl,rfl,rfl,rfl,rfl,rfl⟩:=hz;rw [oneI_def];unfold wN;rw [d1 hk];dsimp only;rw [qM];dsimp only;rw [qL tk.1];dsimp only;rw [if_pos (by rfl),anyW_itoa hn];rfl
 · obtain⟨rfl,rfl,rfl,rfl,rfl,rfl⟩:=hz;rw [oneI_def];unfold wN;rw [d1 hk];dsimp only;rw [qM];dsimp only;rw [qL tk.2.1];dsimp only;rw [if_neg (by decide),if_pos (by rfl),vF ha];rfl
 · obtain⟨rfl,rfl,rfl,rfl,rfl⟩:=hz;obtain⟨⟨⟨⟨k1,k2⟩,k3⟩,k4⟩,k5⟩:=hk
   have w:∀x,x=tConst∨x=tCopy∨x=tLoad∨x=pU→(name == x)=false:=fun x hx=>by
    cases e:(name == x) with
    | false=>rfl
    | true=>
     have:name=x:=by simpa using e
     subst this;rcases hx with rfl|rfl|rfl|rfl <;> (revert k2;decide)
   rw[oneI_def];unfold wN;rw [d1 k5];dsimp only;rw [qM];dsimp only;rw [qL k1];dsimp only;rw [w tConst (by simp),w tCopy (by simp),w tLoad (by simp),w pU (by simp)];simp only[Bool.false_eq_true,reduceIte];rw [pV hargs];dsimp only;rw [if_pos (by omega),if_pos k4];rfl
 · obtain⟨rfl,rfl,rfl,rfl,rfl,rfl⟩:=hz;rw [oneI_def];unfold wN;rw [d1 hk];dsimp only;rw [qM];dsimp only;rw [qL tk.2.2.1];dsimp only;rw [if_neg (by decide),if_neg (by decide),if_pos (by rfl),vF ha];rfl
 · obtain⟨rfl,rfl,rfl,rfl,rfl,rfl⟩:=hz;unfold oneI;rw [oL (itoa_ne_eq a)];simp only[Bool.false_eq_true,reduceIte,nextW];rw [if_pos (by rfl),vF ha];dsimp only;rw [vF hb];rfl
 · obtain⟨rfl,rfl,rfl,rfl,rfl⟩:=hz;obtain⟨k1,k2⟩:=hk
   have hc:∀j:Ins,qD j (name::args.map Lib.itoa) = .ok ({ j with kind:=6,name:=name,args:=args },[]):=fun j=>by
    unfold qD;rw [qL k1];dsimp only;rw [pV hargs];dsimp only;rw [if_pos hal]
   by_cases hd:d = -1
   · subst hd;rw [if_pos rfl];unfold oneI;rw [List.nil_append,oL (named_ok k1).2];simp only[Bool.false_eq_true,reduceIte,nextW];rw [if_neg (by decide),if_pos (by rfl),hc];rfl
   · rw[if_neg hd];have k3:xS d=true:=k2.resolve_left hd;show oneI (Lib.itoa d::tEq::pU::name::args.map Lib.itoa)=_;rw [oneI_def];unfold wN;rw [d1 k3];dsimp only;rw [qM];dsimp only;rw [qL tk.2.2.2];dsimp only;rw [if_neg (by decide),if_neg (by decide),if_neg (by decide),if_pos (by rfl),hc];rfl
 · obtain⟨rfl,rfl,rfl,rfl,rfl⟩:=hz;unfold oneI;rw [oL (itoa_ne_eq a)];simp only[Bool.false_eq_true,reduceIte,nextW];rw [if_neg (by decide),if_neg (by decide),if_pos (by rfl),vF ha];dsimp only;rw [vF ht];dsimp only;rw [vF hf];rfl
 · obtain⟨rfl,rfl,rfl,rfl,rfl,rfl,rfl⟩:=hz;unfold oneI;rw [oL (itoa_ne_eq t)];simp only[Bool.false_eq_true,reduceIte,nextW];rw [if_neg (by decide),if_neg (by decide),if_neg (by decide),if_pos (by rfl),vF ht];rfl
 · obtain⟨rfl,rfl,rfl,rfl,rfl,rfl,rfl⟩:=hz;unfold oneI;rw [oL (itoa_ne_eq a)];simp only[Bool.false_eq_true,reduceIte,nextW];rw [if_neg (by decide),if_neg (by decide),if_neg (by decide),if_neg (by decide),if_pos (by rfl),vF ha];rfl
theorem cutB_at{c:UInt8}{t:Tx}:∀{s:Tx},c∉s→cutB c (s++c::t)=(s,t,true):=by
 intro s
 induction s with
 | nil=>intro _;show cutB c (c::t)=_;unfold cutB;rw [if_pos rfl]
 | cons a r ih=>
  intro h;rw [List.mem_cons,not_or]at h;rw [List.cons_append];unfold cutB;rw [if_neg (fun e=>h.1 e.symm),ih h.2]
theorem lineOf_at{s t:Tx}(h:(10:UInt8)∉s):rH (s++10::t)=s∧(cutB 10 (s++10::t)).2.1=t:=by
 unfold rH;rw [cutB_at h];exact⟨rfl,rfl⟩
def rZ:List Tx→St→Option St
 | [],st=>some st
 | l::r,st=>match uY st l with
  | .ok st'=>rZ r st'
  | .error _=>none
theorem tF{l:Tx}{r:List Tx}{st st':St}(h:uY st l = .ok st'):rZ (l::r) st=rZ r st':=by
 show(match uY st l with | .ok st'=>rZ r st' | .error _=>none)=_;rw [h]
theorem stepsS_append{r:List Tx}:∀{l:List Tx} {st st':St},rZ l st=some st'→rZ (l++r) st=rZ r st':=by
 intro l
 induction l with
 | nil=>intro st st' h;injection h with h;subst h;rfl
 | cons a l ih=>
  intro st st' h
  cases e:uY st a with
  | error x=>simp only[rZ,e]at h;cases h
  | ok st1=>rw [tF e]at h;rw [List.cons_append,tF e];exact ih h
def vG(ls:List Tx):Tx:=ls.flatMap (· ++ [10])
theorem wR(l:Tx)(r:List Tx):vG (l::r)=l++10::vG r:=by
 unfold vG;rw [List.flatMap_cons,List.append_assoc];rfl
theorem uO(a b:List Tx):vG (a++b)=vG a++vG b:=by unfold vG;rw [List.flatMap_append]
theorem textL_len(ls:List Tx):ls.length≤(vG ls).length:=by
 induction ls with
 | nil=>exact Nat.le_refl _
 | cons l r ih=>rw [wR];simp only[List.length_cons,List.length_append];omega
theorem runS_lines{Q:St→Tx→Prop}(hQ:∀st l st',uY st l = .ok st'→Q st l)(t:Tx):∀(ls:List Tx),(∀l∈ls,(10:UInt8)∉l)→∀(k no:Nat) (st st':St),rZ ls st=some st'→
 runS (k+ls.length) no (vG ls++t) st=runS k (no+ls.length) t st'∧(RunOK k t st' Q→RunOK (k+ls.length) (vG ls++t) st Q):=by
 intro ls
 induction ls with
 | nil=>intro _ k no st st' h;injection h with h;subst h;exact⟨rfl,fun h=>h⟩
 | cons l r ih =>
  intro hl k no st st' h
  cases e:uY st l with
  | error x=>simp only[rZ,e]at h;cases h
  | ok st1=>
   rw[tF e]at h;obtain⟨i1,i2⟩:=ih (fun x hx=>hl x (List.mem_cons_of_mem _ hx)) k (no+1) st1 st' h;have hat:=lineOf_at (t:=vG r++t) (hl l (List.mem_cons_self ..));have et:vG (l::r)++t=l++10::(vG r++t):=by rw[wR,List.append_assoc];rfl
   have ek:k+(l::r).length=(k+r.length)+1:=by rw[List.length_cons];omega
   rw[et,ek];constructor
   · rw[runS_ok (by cases l <;> rfl) (by rw[hat.1];exact e),hat.2,i1];congr 1;rw [List.length_cons];omega
   · intro hr;refine .inr ⟨by rw[hat.1];exact hQ _ _ _ e,fun st2 h2=>?_⟩;rw [hat.1,e]at h2;injection h2 with h2;subst h2
     rw[hat.2];exact i2 hr
def qA(f:Fct):List Tx:=[Lib.join [tFunc,f.name] [32],Lib.join (tRegs::f.vregs) [32],Lib.join (pT::f.params.map Lib.itoa) [32],Lib.join [tResult,f.result] [32]]
def uC(i:Ins):Tx:=tTwo++Lib.join (sH i) [32]
def wJ(b:List Ins):List Tx:=rY::b.map uC
def tR(f:Fct):List Tx:=f.blocks.flatMap wJ
def tA(f:Fct):List Tx:=qA f++tR f++[tEnd]
def tJ(f:Fct):Tx:=if rG f then vG (tA f) else []
theorem plainF_of{f:Fct}(h:rG f=true):named f.name=true∧named f.result=true∧f.vregs.length≤500∧f.params.length≤16∧f.blocks.length≤200∧f.params.all xS=true∧f.vregs.all named=true∧
 ∀b∈f.blocks,b.length≤400∧b.all wL=true:=by
 unfold rG at h;simp only[Bool.and_eq_true,decide_eq_true_eq]at h;obtain⟨⟨⟨⟨⟨⟨⟨h1,h2⟩,h3⟩,h4⟩,h5⟩,h6⟩,h7⟩,h8⟩:=h;refine⟨h1,h2,h3,h4,h5,h6,h7,fun b hb=>?_⟩;have:=List.all_eq_true.1 h8 b hb;rw [Bool.and_eq_true]at this;exact⟨of_decide_eq_true this.1,this.2⟩
theorem kw{s:Tx}(h:s∈[tFunc,tRegs,pT,tResult,tConst,tCopy,tLoad,pU,tStore,tBr,tJump,tRet,tEq]):WordOK s:=by
 simp only[List.mem_cons,List.not_mem_nil,or_false]at h;rcases h with rfl|rfl|rfl|rfl|rfl|rfl|rfl|rfl|rfl|rfl|rfl|rfl|rfl <;> (refine⟨?_,?_,?_⟩ <;> decide)
theorem all_word{ns:List Int}:∀s∈ns.map Lib.itoa,WordOK s:=by
 intro s hs;obtain⟨n,_,rfl⟩:=List.mem_map.1 hs;exact itoa_word n
theorem showI_words{i:Ins}(h:wL i=true):sH i≠[]∧∀s∈sH i,WordOK s:=by
 obtain⟨⟨h1,h2⟩,_,_,_,_,hk⟩:=plainI_of h;unfold sH;have cs:i.kind=1∨i.kind=2∨i.kind=3∨i.kind=4∨i.kind=5∨i.kind=6∨i.kind=7∨i.kind=8∨i.kind=9:=by omega
 have it:=itoa_word;rcases cs with e|e|e|e|e|e|e|e|e <;> rw[e]at hk ⊢ <;> simp at hk ⊢
 · exact⟨it _,kw (by simp),kw (by simp),it _⟩
 · exact⟨it _,kw (by simp),kw (by simp),it _⟩
 · exact⟨it _,kw (by simp),(named_ok hk.1.1.1.1).1,fun a _=>it a⟩
 · exact⟨it _,kw (by simp),kw (by simp),it _⟩
 · exact⟨kw (by simp),it _,it _⟩
 · rintro s (⟨_,rfl|rfl⟩|rfl|rfl|⟨a,_,rfl⟩)
   · exact it _
   · exact kw (by simp)
   · exact kw (by simp)
   · exact(named_ok hk.1).1
   · exact it a
 · exact⟨kw (by simp),it _,it _,it _⟩
 · exact⟨kw (by simp),it _⟩
 · exact⟨kw (by simp),it _⟩
theorem ofW_nil{w:Tx}{ws:List Tx}(h:∀s∈w::ws,WordOK s):ofW (Lib.join (w::ws) [32]) [] = .ok (w::ws):=ofW_join (hd:=[]) h
theorem join_beq{w:Tx}(ws:List Tx)(h:w≠[]):(Lib.join (w::ws) [32] == [])=false:=by
 rw[beq_eq_false_iff_ne];exact join_ne ws h
theorem ins_step{i:Ins}(h:wL i=true)(hn:Go64 i.n){g:Fct}{B:List (List Ins)}{p:List Ins}(hg:g.blocks=B++[p])(hp:p.length<400) :
 uY ⟨4,true,false,g⟩ (uC i) = .ok ⟨4,true,false,{ g with blocks:=B++[p++[i]] }⟩:=by
 obtain⟨h0,hw⟩:=showI_words h;have ho:=oneI_show h hn;unfold uC
 cases e:sH i with
 | nil=>exact absurd e h0
 | cons w ws =>
  rw[e]at hw ho;have e1:ofW (tTwo++Lib.join (w::ws) [32]) tTwo = .ok (w::ws):=ofW_join hw;generalize Lib.join (w::ws) [32]=J at e1
  unfold uY;dsimp only;have b0:((tTwo++J) == [])=false:=rfl;have b1:((tTwo++J) == tEnd)=false:=rfl;have b2:((tTwo++J) == rY)=false:=rfl;have e3:g.blocks.getLastD []=p:=by rw[hg];simp
  have e4:oK g.blocks i=B++[p++[i]]:=by unfold oK;rw [e3,hg];simp
  have e5:insS ⟨4,true,false,g⟩ (w::ws) = .ok { g with blocks:=B++[p++[i]] }:=by
   unfold insS;rw [ho];dsimp only[endW];rw [e3,e4,if_pos hp]
  rw[b0,b1,b2,e1];dsimp only;rw [e5];rfl
theorem inss_steps:∀(l:List Ins),l.all wL=true→(∀i∈l,Go64 i.n)→∀{g:Fct} {B:List (List Ins)} {p:List Ins},g.blocks=B++[p]→p.length+l.length≤400→
 rZ (l.map uC) ⟨4,true,false,g⟩=some ⟨4,true,false,{ g with blocks:=B++[p++l] }⟩:=by
 intro l
 induction l with
 | nil=>intro _ _ g B p hg _;simp [rZ,← hg]
 | cons i r ih=>
  intro ha hn g B p hg hl;rw [List.all_cons,Bool.and_eq_true]at ha;rw [List.length_cons]at hl;rw [List.map_cons,tF (ins_step ha.1 (hn i (List.mem_cons_self ..)) hg (by omega))];rw [ih ha.2 (fun j hj=>hn j (List.mem_cons_of_mem _ hj)) (g:={ g with blocks:=B++[p++[i]] }) rfl (by simp;omega)];simp
theorem block_steps{b:List Ins}(ha:b.all wL=true)(hn:∀i∈b,Go64 i.n)(hl:b.length≤400){g:Fct}(hg:g.blocks.length<200)(op:Bool) :
 rZ (wJ b) ⟨4,op,false,g⟩=some ⟨4,true,false,{ g with blocks:=g.blocks++[b] }⟩:=by
 have e:uY ⟨4,op,false,g⟩ rY = .ok ⟨4,true,false,{ g with blocks:=g.blocks++[[]] }⟩:=by
  unfold uY;dsimp only;have b1:(rY == [])=false:=by decide
  have b2:(rY == tEnd)=false:=by decide
  have b3:(rY == rY)=true:=by decide
  rw[b1,b2,b3];simp [hg]
 unfold wJ;rw [tF e,inss_steps b ha hn (g:={ g with blocks:=g.blocks++[[]] }) rfl (by simpa using hl)];simp
theorem body_steps:∀(bs:List (List Ins)),(∀b∈bs,b.length≤400∧b.all wL=true∧∀i∈b,Go64 i.n)→∀(g:Fct) (op:Bool),g.blocks.length+bs.length≤200→
 ∃op',rZ (bs.flatMap wJ) ⟨4,op,false,g⟩=some ⟨4,op',false,{ g with blocks:=g.blocks++bs }⟩:=by
 intro bs
 induction bs with
 | nil=>intro _ g op _;exact⟨op,by simp[rZ]⟩
 | cons b r ih=>
  intro h g op hl;obtain⟨h1,h2,h3⟩:=h b (List.mem_cons_self ..);rw [List.length_cons]at hl;obtain⟨op',e⟩:=ih (fun x hx=>h x (List.mem_cons_of_mem _ hx)) { g with blocks:=g.blocks++[b] } true (by simp;omega);refine⟨op',?_⟩;rw [List.flatMap_cons,stepsS_append (block_steps h2 h3 h1 (by omega) op),e];simp
theorem head_steps{f:Fct}(h1:named f.name=true)(h2:named f.result=true)(h3:f.vregs.length≤500)(h4:f.params.length≤16)(h6:f.params.all xS=true)(h7:f.vregs.all named=true) :
 rZ (qA f) St.z=some ⟨4,false,false,{ f with blocks:=[] }⟩:=by
 have w2:∀{k s:Tx},k∈[tFunc,tRegs,pT,tResult,tConst,tCopy,tLoad,pU,tStore,tBr,tJump,tRet,tEq]→named s=true→∀x∈[k,s],WordOK x:=fun hk hs x hx=>by
  simp only[List.mem_cons,List.not_mem_nil,or_false]at hx;rcases hx with rfl|rfl
  · exact kw hk
  · exact(named_ok hs).1
 have l0:∀(st:St) (w:Tx) (ws:List Tx) (F:Fct),st.ended=false→st.step<4→(∀x∈w::ws,WordOK x)→qK st (w::ws) = .ok F→uY st (Lib.join (w::ws) [32]) = .ok { st with step:=st.step+1,f:=F }:=fun st w ws F he hs hw hh=>by
  unfold uY;rw [he,join_beq ws (hw w (List.mem_cons_self ..)).1];simp only[Bool.not_false,Bool.and_self,reduceIte];rw [if_pos hs,ofW_nil hw];dsimp only;rw [hh]
 unfold qA
 rw[tF (l0 _ _ _ { Fct.z with name:=f.name } rfl (of_decide_eq_true rfl) (w2 (by simp) h1) (by
  show qK St.z [tFunc,f.name]=_;unfold qK;dsimp only[St.z];rw [qM];dsimp only;rw [qL h1];dsimp only[endW];rfl))]
 rw[tF (l0 _ _ _ { Fct.z with name:=f.name,vregs:=f.vregs } rfl (of_decide_eq_true rfl) (fun x hx=>by
  rcases List.mem_cons.1 hx with rfl|hx
  · exact kw (by simp)
  · exact(named_ok (List.all_eq_true.1 h7 x hx)).1) (by
  unfold qK;dsimp only[St.z];rw [qM];dsimp only;unfold sE;rw [restNames_ok _ _ (Nat.le_refl _) h7];dsimp only;rw [if_pos h3];rfl))]
 rw[tF (l0 _ _ _ { Fct.z with name:=f.name,vregs:=f.vregs,params:=f.params } rfl (of_decide_eq_true rfl) (fun x hx=>by
  rcases List.mem_cons.1 hx with rfl|hx
  · exact kw (by simp)
  · exact all_word x hx) (by
  unfold qK;dsimp only[St.z];rw [qM];dsimp only;rw [pV h6];dsimp only;rw [if_pos h4];rfl))]
 rw[tF (l0 _ _ _ { Fct.z with name:=f.name,vregs:=f.vregs,params:=f.params,result:=f.result } rfl (of_decide_eq_true rfl) (w2 (by simp) h2) (by
  unfold qK;dsimp only[St.z];rw [qM];dsimp only;rw [qL h2];dsimp only[endW];rfl))]
 rfl
theorem fLines_no{f:Fct}(h:rG f=true):∀l∈tA f,(10:UInt8)∉l:=by
 obtain⟨h1,h2,h3,h4,h5,h6,h7,h8⟩:=plainF_of h;have nj:∀{w:Tx} {ws:List Tx},(∀s∈w::ws,WordOK s)→(10:UInt8)∉Lib.join (w::ws) [32]:=fun hw=>join_no (by decide) fun s hs=>(hw s hs).2.2
 have w2:∀{k s:Tx},k∈[tFunc,tRegs,pT,tResult,tConst,tCopy,tLoad,pU,tStore,tBr,tJump,tRet,tEq]→named s=true→∀x∈[k,s],WordOK x:=fun hk hs x hx=>by
  simp only[List.mem_cons,List.not_mem_nil,or_false]at hx;rcases hx with rfl|rfl
  · exact kw hk
  · exact(named_ok hs).1
 intro l hl;unfold tA at hl;rw [List.mem_append,List.mem_append]at hl;rcases hl with(hl|hl)|hl
 · unfold qA at hl;simp only[List.mem_cons,List.not_mem_nil,or_false]at hl;rcases hl with rfl|rfl|rfl|rfl
   · exact nj (w2 (by simp) h1)
   · refine nj fun x hx=>?_;rcases List.mem_cons.1 hx with rfl|hx
     · exact kw (by simp)
     · exact(named_ok (List.all_eq_true.1 h7 x hx)).1
   · refine nj fun x hx=>?_;rcases List.mem_cons.1 hx with rfl|hx
     · exact kw (by simp)
     · exact all_word x hx
   · exact nj (w2 (by simp) h2)
 · unfold tR at hl;obtain⟨b,hb,hl⟩:=List.mem_flatMap.1 hl;rcases List.mem_cons.1 hl with rfl|hl
   · decide
   · obtain⟨i,hi,rfl⟩:=List.mem_map.1 hl;obtain⟨g0,gw⟩:=showI_words (List.all_eq_true.1 (h8 b hb).2 i hi);unfold uC
     cases e:sH i with
     | nil=>exact absurd e g0
     | cons w ws=>
      rw[e]at gw;have:=nj gw;intro hm;rcases List.mem_append.1 hm with hm|hm
      · revert hm;decide
      · exact this hm
 · simp only[List.mem_cons,List.not_mem_nil,or_false]at hl;subst hl;decide
theorem fLines_steps{f:Fct}(h:rG f=true)(hn:∀b∈f.blocks,∀i∈b,Go64 i.n):∃op,rZ (tA f) St.z=some ⟨4,op,true,f⟩:=by
 obtain⟨h1,h2,h3,h4,h5,h6,h7,h8⟩:=plainF_of h;obtain⟨op,e⟩:=body_steps f.blocks (fun b hb=>⟨(h8 b hb).1,(h8 b hb).2,hn b hb⟩) { f with blocks:=[] } false (by simpa using h5);refine⟨op,?_⟩;unfold tA tR;rw [List.append_assoc,stepsS_append (head_steps h1 h2 h3 h4 h6 h7),stepsS_append e];rfl
theorem readS_print{Q:St→Tx→Prop}(hQ:∀st l st',uY st l = .ok st'→Q st l){f:Fct}(h:rG f=true)(hn:∀b∈f.blocks,∀i∈b,Go64 i.n)(hl:(tJ f).length≤65536) :
 readS (tJ f)=(f,0,0)∧RunOK ((tJ f).length+1) (tJ f) St.z Q:=by
 unfold tJ at hl ⊢;rw [if_pos h]at hl ⊢;obtain⟨op,e⟩:=fLines_steps h hn;have hk:=textL_len (tA f);obtain⟨k,ek⟩:∃k,(vG (tA f)).length+1=k+1+(tA f).length:=⟨(vG (tA f)).length - (tA f).length,by omega⟩;obtain⟨r1,r2⟩:=runS_lines hQ [] (tA f) (fLines_no h) (k+1) 1 St.z _ e;rw [List.append_nil]at r1 r2;unfold readS;rw [if_neg (by omega),ek,r1,runS_nil];exact⟨rfl,r2 (.inl rfl)⟩
theorem itoa_len{n:Int}(h:Go64 n):(Lib.itoa n).length≤21:=Lib.itoa_length_le n h.1 h.2
theorem printF_plain{f:Fct}(h:rG f=true):tJ f=vG (tA f):=by unfold tJ;rw [if_pos h]
theorem itoa_nat(u:Nat):Lib.itoa (u:Int)=Lib.decDigits u:=by
 unfold Lib.itoa;rw [if_neg (by omega)];simp
theorem itoa_minus{a:Int}(h:0<a):Lib.itoa (-a)=45::Lib.itoa a:=by
 unfold Lib.itoa;rw [if_pos (by omega),if_neg (by omega)];congr 2;omega
end Go.Ex.Vir
namespace Go.Proofs
open Go.Shelf
def Tryz.lays169_ren:Go.Shelf.Ren:=⟨fun|169=>57|n=>n,fun|70=>94|9=>9|0=>0|72=>97|37=>95|127=>154|3=>3|5=>5|n=>n,fun|n=>n⟩
theorem Tryz.lays169:Go.Proofs.Lays.n169 Tryz.prog Tryz.lays169_ren:={
 mixed:=by kernel_rfl
 f169:=Tryz.func57.trans (congrArg some (by kernel_rfl))
 t0:=Tryz.underlying0
 a0:=Tryz.isAgg0
 z0:=Tryz.sizeOf0
 v0:=Tryz.zeroValue0
 t3:=Tryz.underlying3
 a3:=Tryz.isAgg3
 z3:=Tryz.sizeOf3
 v3:=Tryz.zeroValue3
 t9:=Tryz.underlying9
 a9:=Tryz.isAgg9
 z9:=Tryz.sizeOf9
 v9:=Tryz.zeroValue9
 t37:=Tryz.underlying95
 a37:=Tryz.isAgg95
 z37:=Tryz.sizeOf95
 v37:=Tryz.zeroValue95
 t70:=Tryz.underlying94
 a70:=Tryz.isAgg94
 z70:=Tryz.sizeOf94
 v70:=Tryz.zeroValue94
 t72:=Tryz.underlying97
 a72:=Tryz.isAgg97
 z72:=Tryz.sizeOf97
 v72:=Tryz.zeroValue97
 t127:=Tryz.underlying154
 a127:=Tryz.isAgg154
 z127:=Tryz.sizeOf154
 v127:=Tryz.zeroValue154 }
theorem Tryz.Builder_Extra_169:Builder.Extra Tryz.prog Tryz.lays169_ren:={
 sizeBuilder:=by kernel_rfl
 liesBuilder:=by kernel_rfl
 t5:=Tryz.underlying5
 a5:=Tryz.isAgg5
 z5:=Tryz.sizeOf5
 v5:=Tryz.zeroValue5
 infoByte:=by kernel_rfl
 cellsByte:=by kernel_rfl
 sizeByte:=by kernel_rfl
 neB5:=by decide }
def Tryz.lays156_ren:Go.Shelf.Ren:=⟨fun|156=>54|165=>109|166=>53|169=>57|240=>108|241=>151|276=>150|277=>177|n=>n,fun|31=>23|9=>9|3=>3|4=>4|0=>0|20=>20|72=>97|76=>100|70=>94|37=>95|75=>99|127=>154|164=>185|5=>5|80=>70|n=>n,fun|n=>n⟩
theorem Tryz.lays156:Go.Proofs.Lays.n156 Tryz.prog Tryz.lays156_ren:={
 mixed:=by kernel_rfl
 f156:=Tryz.func54.trans (congrArg some (by kernel_rfl))
 f165:=Tryz.func109.trans (congrArg some (by kernel_rfl))
 f166:=Tryz.func53.trans (congrArg some (by kernel_rfl))
 f169:=Tryz.func57.trans (congrArg some (by kernel_rfl))
 f240:=Tryz.func108.trans (congrArg some (by kernel_rfl))
 f241:=Tryz.func151.trans (congrArg some (by kernel_rfl))
 f276:=Tryz.func150.trans (congrArg some (by kernel_rfl))
 f277:=Tryz.func177.trans (congrArg some (by kernel_rfl))
 t0:=Tryz.underlying0
 a0:=Tryz.isAgg0
 z0:=Tryz.sizeOf0
 v0:=Tryz.zeroValue0
 t3:=Tryz.underlying3
 a3:=Tryz.isAgg3
 z3:=Tryz.sizeOf3
 v3:=Tryz.zeroValue3
 t4:=Tryz.underlying4
 a4:=Tryz.isAgg4
 z4:=Tryz.sizeOf4
 v4:=Tryz.zeroValue4
 t9:=Tryz.underlying9
 a9:=Tryz.isAgg9
 z9:=Tryz.sizeOf9
 v9:=Tryz.zeroValue9
 t20:=Tryz.underlying20
 a20:=Tryz.isAgg20
 z20:=Tryz.sizeOf20
 v20:=Tryz.zeroValue20
 t31:=Tryz.underlying23
 a31:=Tryz.isAgg23
 z31:=Tryz.sizeOf23
 v31:=Tryz.zeroValue23
 t37:=Tryz.underlying95
 a37:=Tryz.isAgg95
 z37:=Tryz.sizeOf95
 v37:=Tryz.zeroValue95
 t70:=Tryz.underlying94
 a70:=Tryz.isAgg94
 z70:=Tryz.sizeOf94
 v70:=Tryz.zeroValue94
 t72:=Tryz.underlying97
 a72:=Tryz.isAgg97
 z72:=Tryz.sizeOf97
 v72:=Tryz.zeroValue97
 t75:=Tryz.underlying99
 a75:=Tryz.isAgg99
 z75:=Tryz.sizeOf99
 v75:=Tryz.zeroValue99
 t76:=Tryz.underlying100
 a76:=Tryz.isAgg100
 z76:=Tryz.sizeOf100
 v76:=Tryz.zeroValue100
 t127:=Tryz.underlying154
 a127:=Tryz.isAgg154
 z127:=Tryz.sizeOf154
 v127:=Tryz.zeroValue154
 t164:=Tryz.underlying185
 a164:=Tryz.isAgg185
 z164:=Tryz.sizeOf185
 v164:=Tryz.zeroValue185 }
theorem Tryz.Builder_Extra_156:Builder.Extra Tryz.prog Tryz.lays156_ren:={
 sizeBuilder:=by kernel_rfl
 liesBuilder:=by kernel_rfl
 t5:=Tryz.underlying5
 a5:=Tryz.isAgg5
 z5:=Tryz.sizeOf5
 v5:=Tryz.zeroValue5
 infoByte:=by kernel_rfl
 cellsByte:=by kernel_rfl
 sizeByte:=by kernel_rfl
 neB5:=by decide }
open Go.RowKit in
theorem Tryz.strings_Join_none(a:Option Addr)(c:Nat)(sep:ByteArray)(w:World) :
 Calls Tryz.prog 54 #[.slice a 0 c,.string sep] w fun e w'=>e = .returned (.string ⟨#[]⟩)∧w'=w:=Any.strings_Join_none Tryz.lays156 Tryz.Builder_Extra_156 a c sep w
open Go.RowKit in
theorem Tryz.strings_Join(bk o c:Nat)(xs:List ByteArray)(sep:ByteArray)(w:World)(hcells:∀(j:Nat) x,xs[j]? = some x→w.cell? ⟨bk,o+j,none⟩=some (.string x))(hbk:bk<w.heap.size)(hN:xs.length≤140737488355328)(hcap:xs.length≤c)(hlen:(Lib.join (xs.map (·.data.toList)) sep.data.toList).length≤140737488355328) :
 Calls Tryz.prog 54 #[.slice (some ⟨bk,o,none⟩) xs.length c,.string sep] w fun e w'=>e = .returned (.string ⟨(Lib.join (xs.map (·.data.toList)) sep.data.toList).toArray⟩)∧Below w.heap.size w w':=Any.strings_Join Tryz.lays156 Tryz.Builder_Extra_156 bk o c xs sep w hcells hbk hN hcap hlen
def Tryz.lays103_ren:Go.Shelf.Ren:=⟨fun|103=>181|210=>196|206=>192|n=>n,fun|9=>9|4=>4|24=>215|3=>3|n=>n,fun|n=>n⟩
theorem Tryz.lays103:Go.Proofs.Lays.n103 Tryz.prog Tryz.lays103_ren:={
 mixed:=by kernel_rfl
 f103:=Tryz.func181.trans (congrArg some (by kernel_rfl))
 f206:=Tryz.func192.trans (congrArg some (by kernel_rfl))
 f210:=Tryz.func196.trans (congrArg some (by kernel_rfl))
 t3:=Tryz.underlying3
 a3:=Tryz.isAgg3
 z3:=Tryz.sizeOf3
 v3:=Tryz.zeroValue3
 t4:=Tryz.underlying4
 a4:=Tryz.isAgg4
 z4:=Tryz.sizeOf4
 v4:=Tryz.zeroValue4
 t9:=Tryz.underlying9
 a9:=Tryz.isAgg9
 z9:=Tryz.sizeOf9
 v9:=Tryz.zeroValue9
 t24:=Tryz.underlying215
 a24:=Tryz.isAgg215
 z24:=Tryz.sizeOf215
 v24:=Tryz.zeroValue215 }
open Go.RowKit in
theorem Tryz.strings_CutPrefix(s p:ByteArray)(w:World) :
 Calls Tryz.prog 181 #[.string s,.string p] w fun e w'=>e = .returned (.tuple #[.string ⟨(Lib.trimPrefix s.data.toList p.data.toList).toArray⟩,.bool (Lib.hasPrefix s.data.toList p.data.toList)])∧w'=w:=Any.strings_CutPrefix Tryz.lays103 s p w
def Tryz.laysM171_ren:Go.Shelf.Ren:=⟨fun|171=>81|243=>131|246=>163|283=>183|284=>184|285=>185|286=>186|129=>199|317=>198|318=>200|319=>201|320=>202|337=>215|338=>216|n=>n,fun|3=>3|9=>9|2=>2|4=>4|171=>218|0=>0|53=>219|37=>95|5=>5|173=>222|212=>234|51=>226|20=>20|213=>235|46=>204|232=>255|233=>256|n=>n,fun|17=>1|18=>4|19=>5|n=>n⟩
theorem Tryz.laysM171:Go.Proofs.LaysM.n171 Tryz.prog Tryz.laysM171_ren:={
 mixed:=by kernel_rfl
 f129:=Tryz.func199.trans (congrArg some (by kernel_rfl))
 f171:=Tryz.func81.trans (congrArg some (by kernel_rfl))
 f243:=Tryz.func131.trans (congrArg some (by kernel_rfl))
 f246:=Tryz.func163.trans (congrArg some (by kernel_rfl))
 f283:=Tryz.func183.trans (congrArg some (by kernel_rfl))
 f284:=Tryz.func184.trans (congrArg some (by kernel_rfl))
 f285:=Tryz.func185.trans (congrArg some (by kernel_rfl))
 f286:=Tryz.func186.trans (congrArg some (by kernel_rfl))
 f317:=Tryz.func198.trans (congrArg some (by kernel_rfl))
 f318:=Tryz.func200.trans (congrArg some (by kernel_rfl))
 f319:=Tryz.func201.trans (congrArg some (by kernel_rfl))
 f320:=Tryz.func202.trans (congrArg some (by kernel_rfl))
 f337:=Tryz.func215.trans (congrArg some (by kernel_rfl))
 f338:=Tryz.func216.trans (congrArg some (by kernel_rfl))
 t0:=Tryz.underlying0
 a0:=Tryz.isAgg0
 z0:=Tryz.sizeOf0
 v0:=Tryz.zeroValue0
 t2:=Tryz.underlying2
 a2:=Tryz.isAgg2
 z2:=Tryz.sizeOf2
 v2:=Tryz.zeroValue2
 t3:=Tryz.underlying3
 a3:=Tryz.isAgg3
 z3:=Tryz.sizeOf3
 v3:=Tryz.zeroValue3
 t4:=Tryz.underlying4
 a4:=Tryz.isAgg4
 z4:=Tryz.sizeOf4
 v4:=Tryz.zeroValue4
 t5:=Tryz.underlying5
 a5:=Tryz.isAgg5
 z5:=Tryz.sizeOf5
 v5:=Tryz.zeroValue5
 t9:=Tryz.underlying9
 a9:=Tryz.isAgg9
 z9:=Tryz.sizeOf9
 v9:=Tryz.zeroValue9
 t20:=Tryz.underlying20
 a20:=Tryz.isAgg20
 z20:=Tryz.sizeOf20
 v20:=Tryz.zeroValue20
 t37:=Tryz.underlying95
 a37:=Tryz.isAgg95
 z37:=Tryz.sizeOf95
 v37:=Tryz.zeroValue95
 t46:=Tryz.underlying204
 a46:=Tryz.isAgg204
 z46:=Tryz.sizeOf204
 v46:=Tryz.zeroValue204
 t51:=Tryz.underlying226
 a51:=Tryz.isAgg226
 z51:=Tryz.sizeOf226
 v51:=Tryz.zeroValue226
 t53:=Tryz.underlying219
 a53:=Tryz.isAgg219
 z53:=Tryz.sizeOf219
 v53:=Tryz.zeroValue219
 t171:=Tryz.underlying218
 a171:=Tryz.isAgg218
 z171:=Tryz.sizeOf218
 v171:=Tryz.zeroValue218
 t173:=Tryz.underlying222
 a173:=Tryz.isAgg222
 z173:=Tryz.sizeOf222
 v173:=Tryz.zeroValue222
 t212:=Tryz.underlying234
 a212:=Tryz.isAgg234
 z212:=Tryz.sizeOf234
 v212:=Tryz.zeroValue234
 t213:=Tryz.underlying235
 a213:=Tryz.isAgg235
 z213:=Tryz.sizeOf235
 t232:=Tryz.underlying255
 a232:=Tryz.isAgg255
 z232:=Tryz.sizeOf255
 v232:=Tryz.zeroValue255
 t233:=Tryz.underlying256
 a233:=Tryz.isAgg256
 z233:=Tryz.sizeOf256
 v233:=Tryz.zeroValue256
 g17:=by kernel_rfl
 g18:=by kernel_rfl
 g19:=by kernel_rfl
 i0:=by kernel_rfl
 i2:=by kernel_rfl
 i3:=by kernel_rfl
 i4:=by kernel_rfl
 i5:=by kernel_rfl
 i9:=by kernel_rfl
 i20:=by kernel_rfl
 i37:=by kernel_rfl
 i46:=by kernel_rfl
 i51:=by kernel_rfl
 i53:=by kernel_rfl
 i171:=by kernel_rfl
 i173:=by kernel_rfl
 i212:=by kernel_rfl
 i232:=by kernel_rfl
 i233:=by kernel_rfl
 m17:=by kernel_rfl
 m18:=by kernel_rfl
 m19:=by kernel_rfl }
open Go.RowKit Go.Sort Go.Lib in
theorem Tryz.strconv_Itoa (n:Int) (h0: -9223372036854775808≤n) (h1:n≤9223372036854775807) (w:World) (htab:Lib.TabIs Tryz.prog w "internal/strconv.uint64pow10" .u64 Lib.pow10Tab) :
 Calls Tryz.prog 81 #[.int .i64 n] w fun e w'=>e = .returned (.string ⟨(Lib.itoa n).toArray⟩)∧∃k os,w'=grow (w.drewN k) os:=Any.strconv_Itoa Tryz.laysM171 n h0 h1 w htab
def Tryz.laysC172_ren:Go.Shelf.Ren:=⟨fun|172=>179|244=>193|245=>194|247=>203|279=>204|280=>205|281=>206|282=>207|287=>217|316=>218|171=>81|205=>219|321=>225|322=>226|243=>131|246=>163|283=>183|284=>184|285=>185|286=>186|129=>199|317=>198|318=>200|319=>201|320=>202|337=>215|338=>216|n=>n,fun|9=>9|3=>3|75=>99|76=>100|4=>4|5=>5|167=>237|37=>95|0=>0|85=>238|2=>2|168=>240|53=>219|175=>246|46=>204|210=>250|127=>154|145=>260|143=>258|21=>21|171=>218|173=>222|212=>234|51=>226|20=>20|213=>235|232=>255|233=>256|80=>70|n=>n,fun|15=>2|16=>3|17=>1|18=>4|19=>5|n=>n⟩
theorem Tryz.laysC172:Go.Proofs.LaysC.n172 Tryz.prog Tryz.laysC172_ren:={
 mixed:=by kernel_rfl
 f129:=Tryz.func199.trans (congrArg some (by kernel_rfl))
 f171:=Tryz.func81.trans (congrArg some (by kernel_rfl))
 f172:=Tryz.func179.trans (congrArg some (by kernel_rfl))
 f205:=Tryz.func219.trans (congrArg some (by kernel_rfl))
 f243:=Tryz.func131.trans (congrArg some (by kernel_rfl))
 f244:=Tryz.func193.trans (congrArg some (by kernel_rfl))
 f245:=Tryz.func194.trans (congrArg some (by kernel_rfl))
 f246:=Tryz.func163.trans (congrArg some (by kernel_rfl))
 f247:=Tryz.func203.trans (congrArg some (by kernel_rfl))
 f279:=Tryz.func204.trans (congrArg some (by kernel_rfl))
 f280:=Tryz.func205.trans (congrArg some (by kernel_rfl))
 f281:=Tryz.func206.trans (congrArg some (by kernel_rfl))
 f282:=Tryz.func207.trans (congrArg some (by kernel_rfl))
 f283:=Tryz.func183.trans (congrArg some (by kernel_rfl))
 f284:=Tryz.func184.trans (congrArg some (by kernel_rfl))
 f285:=Tryz.func185.trans (congrArg some (by kernel_rfl))
 f286:=Tryz.func186.trans (congrArg some (by kernel_rfl))
 f287:=Tryz.func217.trans (congrArg some (by kernel_rfl))
 f316:=Tryz.func218.trans (congrArg some (by kernel_rfl))
 f317:=Tryz.func198.trans (congrArg some (by kernel_rfl))
 f318:=Tryz.func200.trans (congrArg some (by kernel_rfl))
 f319:=Tryz.func201.trans (congrArg some (by kernel_rfl))
 f320:=Tryz.func202.trans (congrArg some (by kernel_rfl))
 f321:=Tryz.func225.trans (congrArg some (by kernel_rfl))
 f322:=Tryz.func226.trans (congrArg some (by kernel_rfl))
 f337:=Tryz.func215.trans (congrArg some (by kernel_rfl))
 f338:=Tryz.func216.trans (congrArg some (by kernel_rfl))
 t0:=Tryz.underlying0
 a0:=Tryz.isAgg0
 z0:=Tryz.sizeOf0
 v0:=Tryz.zeroValue0
 t2:=Tryz.underlying2
 a2:=Tryz.isAgg2
 z2:=Tryz.sizeOf2
 v2:=Tryz.zeroValue2
 t3:=Tryz.underlying3
 a3:=Tryz.isAgg3
 z3:=Tryz.sizeOf3
 v3:=Tryz.zeroValue3
 t4:=Tryz.underlying4
 a4:=Tryz.isAgg4
 z4:=Tryz.sizeOf4
 v4:=Tryz.zeroValue4
 t5:=Tryz.underlying5
 a5:=Tryz.isAgg5
 z5:=Tryz.sizeOf5
 v5:=Tryz.zeroValue5
 t9:=Tryz.underlying9
 a9:=Tryz.isAgg9
 z9:=Tryz.sizeOf9
 v9:=Tryz.zeroValue9
 t20:=Tryz.underlying20
 a20:=Tryz.isAgg20
 z20:=Tryz.sizeOf20
 v20:=Tryz.zeroValue20
 t21:=Tryz.underlying21
 a21:=Tryz.isAgg21
 z21:=Tryz.sizeOf21
 v21:=Tryz.zeroValue21
 t37:=Tryz.underlying95
 a37:=Tryz.isAgg95
 z37:=Tryz.sizeOf95
 v37:=Tryz.zeroValue95
 t46:=Tryz.underlying204
 a46:=Tryz.isAgg204
 z46:=Tryz.sizeOf204
 v46:=Tryz.zeroValue204
 t51:=Tryz.underlying226
 a51:=Tryz.isAgg226
 z51:=Tryz.sizeOf226
 v51:=Tryz.zeroValue226
 t53:=Tryz.underlying219
 a53:=Tryz.isAgg219
 z53:=Tryz.sizeOf219
 v53:=Tryz.zeroValue219
 t75:=Tryz.underlying99
 a75:=Tryz.isAgg99
 z75:=Tryz.sizeOf99
 v75:=Tryz.zeroValue99
 t76:=Tryz.underlying100
 a76:=Tryz.isAgg100
 z76:=Tryz.sizeOf100
 v76:=Tryz.zeroValue100
 t85:=Tryz.underlying238
 a85:=Tryz.isAgg238
 z85:=Tryz.sizeOf238
 v85:=Tryz.zeroValue238
 t127:=Tryz.underlying154
 a127:=Tryz.isAgg154
 z127:=Tryz.sizeOf154
 v127:=Tryz.zeroValue154
 t143:=Tryz.underlying258
 a143:=Tryz.isAgg258
 z143:=Tryz.sizeOf258
 v143:=Tryz.zeroValue258
 t145:=Tryz.underlying260
 a145:=Tryz.isAgg260
 z145:=Tryz.sizeOf260
 v145:=Tryz.zeroValue260
 t167:=Tryz.underlying237
 a167:=Tryz.isAgg237
 z167:=Tryz.sizeOf237
 v167:=Tryz.zeroValue237
 t168:=Tryz.underlying240
 a168:=Tryz.isAgg240
 z168:=Tryz.sizeOf240
 v168:=Tryz.zeroValue240
 t171:=Tryz.underlying218
 a171:=Tryz.isAgg218
 z171:=Tryz.sizeOf218
 v171:=Tryz.zeroValue218
 t173:=Tryz.underlying222
 a173:=Tryz.isAgg222
 z173:=Tryz.sizeOf222
 v173:=Tryz.zeroValue222
 t175:=Tryz.underlying246
 a175:=Tryz.isAgg246
 z175:=Tryz.sizeOf246
 v175:=Tryz.zeroValue246
 t210:=Tryz.underlying250
 a210:=Tryz.isAgg250
 z210:=Tryz.sizeOf250
 v210:=Tryz.zeroValue250
 t212:=Tryz.underlying234
 a212:=Tryz.isAgg234
 z212:=Tryz.sizeOf234
 v212:=Tryz.zeroValue234
 t213:=Tryz.underlying235
 a213:=Tryz.isAgg235
 z213:=Tryz.sizeOf235
 t232:=Tryz.underlying255
 a232:=Tryz.isAgg255
 z232:=Tryz.sizeOf255
 v232:=Tryz.zeroValue255
 t233:=Tryz.underlying256
 a233:=Tryz.isAgg256
 z233:=Tryz.sizeOf256
 v233:=Tryz.zeroValue256
 g15:=by kernel_rfl
 g16:=by kernel_rfl
 g17:=by kernel_rfl
 g18:=by kernel_rfl
 g19:=by kernel_rfl
 t80:=Tryz.underlying70
 a80:=Tryz.isAgg70
 z80:=Tryz.sizeOf70
 v80:=Tryz.zeroValue70
 i0:=by kernel_rfl
 i2:=by kernel_rfl
 i3:=by kernel_rfl
 i4:=by kernel_rfl
 i5:=by kernel_rfl
 i9:=by kernel_rfl
 i20:=by kernel_rfl
 i21:=by kernel_rfl
 i37:=by kernel_rfl
 i46:=by kernel_rfl
 i51:=by kernel_rfl
 i53:=by kernel_rfl
 i75:=by kernel_rfl
 i76:=by kernel_rfl
 i80:=by kernel_rfl
 i85:=by kernel_rfl
 i127:=by kernel_rfl
 i143:=by kernel_rfl
 i145:=by kernel_rfl
 i167:=by kernel_rfl
 i168:=by kernel_rfl
 i171:=by kernel_rfl
 i173:=by kernel_rfl
 i175:=by kernel_rfl
 i210:=by kernel_rfl
 i212:=by kernel_rfl
 i232:=by kernel_rfl
 i233:=by kernel_rfl
 m15:=by kernel_rfl
 m16:=by kernel_rfl
 m17:=by kernel_rfl
 m18:=by kernel_rfl
 m19:=by kernel_rfl
 c0:=by kernel_rfl
 c2:=by kernel_rfl
 c3:=by kernel_rfl
 c4:=by kernel_rfl
 c5:=by kernel_rfl
 c9:=by kernel_rfl
 c20:=by kernel_rfl
 c21:=by kernel_rfl
 c37:=by kernel_rfl
 c46:=by kernel_rfl
 c51:=by kernel_rfl
 c53:=by kernel_rfl
 c75:=by kernel_rfl
 c76:=by kernel_rfl
 c80:=by kernel_rfl
 c85:=by kernel_rfl
 c127:=by kernel_rfl
 c143:=by kernel_rfl
 c145:=by kernel_rfl
 c167:=by kernel_rfl
 c168:=by kernel_rfl
 c171:=by kernel_rfl
 c173:=by kernel_rfl
 c175:=by kernel_rfl
 c210:=by kernel_rfl
 c212:=by kernel_rfl
 c213:=by kernel_rfl
 c232:=by kernel_rfl
 c233:=by kernel_rfl }
open Go.RowKit in
theorem Tryz.strconv_Atoi_ok(s:ByteArray)(hmax:s.size≤9223372036854775806)(v:Int)(h:Lib.atoiAll s.data.toList = .ok v)(w:World) :
 Calls Tryz.prog 179 #[.string s] w fun e w'=>e = .returned (.tuple #[.int .i64 v,.nilIface])∧(w'=w∨∃t,w'=Lib.bytesWorld w 5 t):=Any.strconv_Atoi_ok Tryz.laysC172 s hmax v h w
def Tryz.lays145_ren:Go.Shelf.Ren:=⟨fun|145=>160|220=>180|219=>195|217=>208|225=>209|224=>210|267=>211|266=>220|314=>221|n=>n,fun|9=>9|4=>4|59=>194|3=>3|5=>5|46=>204|146=>227|51=>226|n=>n,fun|1=>0|n=>n⟩
theorem Tryz.lays145:Go.Proofs.Lays.n145 Tryz.prog Tryz.lays145_ren:={
 mixed:=by kernel_rfl
 f145:=Tryz.func160.trans (congrArg some (by kernel_rfl))
 f217:=Tryz.func208.trans (congrArg some (by kernel_rfl))
 f219:=Tryz.func195.trans (congrArg some (by kernel_rfl))
 f220:=Tryz.func180.trans (congrArg some (by kernel_rfl))
 f224:=Tryz.func210.trans (congrArg some (by kernel_rfl))
 f225:=Tryz.func209.trans (congrArg some (by kernel_rfl))
 f266:=Tryz.func220.trans (congrArg some (by kernel_rfl))
 f267:=Tryz.func211.trans (congrArg some (by kernel_rfl))
 f314:=Tryz.func221.trans (congrArg some (by kernel_rfl))
 t3:=Tryz.underlying3
 a3:=Tryz.isAgg3
 z3:=Tryz.sizeOf3
 v3:=Tryz.zeroValue3
 t4:=Tryz.underlying4
 a4:=Tryz.isAgg4
 z4:=Tryz.sizeOf4
 v4:=Tryz.zeroValue4
 t5:=Tryz.underlying5
 a5:=Tryz.isAgg5
 z5:=Tryz.sizeOf5
 v5:=Tryz.zeroValue5
 t9:=Tryz.underlying9
 a9:=Tryz.isAgg9
 z9:=Tryz.sizeOf9
 v9:=Tryz.zeroValue9
 t46:=Tryz.underlying204
 a46:=Tryz.isAgg204
 z46:=Tryz.sizeOf204
 v46:=Tryz.zeroValue204
 t51:=Tryz.underlying226
 a51:=Tryz.isAgg226
 z51:=Tryz.sizeOf226
 v51:=Tryz.zeroValue226
 t59:=Tryz.underlying194
 a59:=Tryz.isAgg194
 z59:=Tryz.sizeOf194
 v59:=Tryz.zeroValue194
 t146:=Tryz.underlying227
 a146:=Tryz.isAgg227
 z146:=Tryz.sizeOf227
 v146:=Tryz.zeroValue227
 g1:=by kernel_rfl }
open Go.RowKit Go.Lib in
theorem Tryz.strings_Cut(s sep:ByteArray)(m:Int)(w:World)(hs:s.size<4294967281)(hm:w.cell? ⟨0,0,none⟩=some (.int .i64 m)) :
 Calls Tryz.prog 160 #[.string s,.string sep] w fun e w'=>e = .returned (.tuple #[.string ⟨(Lib.cut s.data.toList sep.data.toList).1.toArray⟩,.string ⟨(Lib.cut s.data.toList sep.data.toList).2.1.toArray⟩,.bool (Lib.cut s.data.toList sep.data.toList).2.2])∧∃n,w'=w.drewN n:=Any.strings_Cut Tryz.lays145 s sep m w hs hm
def Tryz.lays146_ren:Go.Shelf.Ren:=⟨fun|146=>182|221=>197|268=>212|138=>213|143=>214|195=>222|197=>223|218=>224|219=>195|260=>227|217=>208|225=>209|224=>210|267=>211|266=>220|314=>221|n=>n,fun|9=>9|31=>23|3=>3|4=>4|0=>0|105=>253|21=>21|5=>5|46=>204|119=>261|139=>264|138=>263|146=>227|51=>226|n=>n,fun|1=>0|3=>6|4=>7|n=>n⟩
theorem Tryz.lays146:Go.Proofs.Lays.n146 Tryz.prog Tryz.lays146_ren:={
 mixed:=by kernel_rfl
 f138:=Tryz.func213.trans (congrArg some (by kernel_rfl))
 f143:=Tryz.func214.trans (congrArg some (by kernel_rfl))
 f146:=Tryz.func182.trans (congrArg some (by kernel_rfl))
 f195:=Tryz.func222.trans (congrArg some (by kernel_rfl))
 f197:=Tryz.func223.trans (congrArg some (by kernel_rfl))
 f217:=Tryz.func208.trans (congrArg some (by kernel_rfl))
 f218:=Tryz.func224.trans (congrArg some (by kernel_rfl))
 f219:=Tryz.func195.trans (congrArg some (by kernel_rfl))
 f221:=Tryz.func197.trans (congrArg some (by kernel_rfl))
 f224:=Tryz.func210.trans (congrArg some (by kernel_rfl))
 f225:=Tryz.func209.trans (congrArg some (by kernel_rfl))
 f260:=Tryz.func227.trans (congrArg some (by kernel_rfl))
 f266:=Tryz.func220.trans (congrArg some (by kernel_rfl))
 f267:=Tryz.func211.trans (congrArg some (by kernel_rfl))
 f268:=Tryz.func212.trans (congrArg some (by kernel_rfl))
 f314:=Tryz.func221.trans (congrArg some (by kernel_rfl))
 t0:=Tryz.underlying0
 a0:=Tryz.isAgg0
 z0:=Tryz.sizeOf0
 v0:=Tryz.zeroValue0
 t3:=Tryz.underlying3
 a3:=Tryz.isAgg3
 z3:=Tryz.sizeOf3
 v3:=Tryz.zeroValue3
 t4:=Tryz.underlying4
 a4:=Tryz.isAgg4
 z4:=Tryz.sizeOf4
 v4:=Tryz.zeroValue4
 t5:=Tryz.underlying5
 a5:=Tryz.isAgg5
 z5:=Tryz.sizeOf5
 v5:=Tryz.zeroValue5
 t9:=Tryz.underlying9
 a9:=Tryz.isAgg9
 z9:=Tryz.sizeOf9
 v9:=Tryz.zeroValue9
 t21:=Tryz.underlying21
 a21:=Tryz.isAgg21
 z21:=Tryz.sizeOf21
 v21:=Tryz.zeroValue21
 t31:=Tryz.underlying23
 a31:=Tryz.isAgg23
 z31:=Tryz.sizeOf23
 v31:=Tryz.zeroValue23
 t46:=Tryz.underlying204
 a46:=Tryz.isAgg204
 z46:=Tryz.sizeOf204
 v46:=Tryz.zeroValue204
 t51:=Tryz.underlying226
 a51:=Tryz.isAgg226
 z51:=Tryz.sizeOf226
 v51:=Tryz.zeroValue226
 t105:=Tryz.underlying253
 a105:=Tryz.isAgg253
 z105:=Tryz.sizeOf253
 v105:=Tryz.zeroValue253
 t119:=Tryz.underlying261
 a119:=Tryz.isAgg261
 z119:=Tryz.sizeOf261
 t138:=Tryz.underlying263
 a138:=Tryz.isAgg263
 z138:=Tryz.sizeOf263
 v138:=Tryz.zeroValue263
 t139:=Tryz.underlying264
 a139:=Tryz.isAgg264
 z139:=Tryz.sizeOf264
 v139:=Tryz.zeroValue264
 t146:=Tryz.underlying227
 a146:=Tryz.isAgg227
 z146:=Tryz.sizeOf227
 v146:=Tryz.zeroValue227
 g1:=by kernel_rfl
 g3:=by kernel_rfl
 g4:=by kernel_rfl }
open Go.RowKit Go.Lib in
theorem Tryz.strings_Split(s sep:ByteArray)(m:Int)(w:World)(hs:s.size<4294967281)(hm:w.cell? ⟨0,0,none⟩=some (.int .i64 m))(h1:1≤sep.size) :
 Calls Tryz.prog 182 #[.string s,.string sep] w fun e w'=>
  e = .returned (.slice (some ⟨w.heap.size,0,none⟩) (Lib.countB s sep+1) (Lib.countB s sep+1))∧w'=w.alloc (.cells ((Lib.splitB sep 0 (Lib.countB s sep) s).map Value.string).toArray 9):=Any.strings_Split Tryz.lays146 (by kernel_rfl) s sep m w hs hm h1
end Go.Proofs
namespace Go.Proofs.YtapnnpoljobanaaGreatDoor
open Go.Ex Go.RowKit
set_option maxRecDepth 1000000
noncomputable abbrev P:=Tryz.prog
theorem zK:xV 8 P=true:=by decide +kernel
theorem mixed:P.follows .mixedOrders=true:=by decide +kernel
def tb(m:Int):List (Nat×List Value):=[(0,[.int .i64 m]),(1,Lib.pow10Tab.map fun z=>Value.int .u64 z)]
theorem tb_ok(m:Int):∀p∈tb m,p.1<8∧p.2.all uV=true:=by
 intro p hp;simp only[tb,List.mem_cons,List.not_mem_nil,or_false]at hp;rcases hp with rfl|rfl
 · exact⟨(by decide:(0:Nat)<8),rfl⟩
 · exact⟨(by decide:(1:Nat)<8),by simp[Lib.pow10Tab,uV]⟩
theorem tb_max{m:Int}{wd:World}(h:oF wd (tb m)):wd.cell? ⟨0,0,none⟩=some (.int .i64 m):=by
 obtain⟨el,fr,e⟩:=h (0,[.int .i64 m]) (by simp[tb]);unfold World.cell?;dsimp only at e ⊢;rw [e];rfl
theorem tb_pow{m:Int}{wd:World}(h:oF wd (tb m)):Lib.TabIs P wd "internal/strconv.uint64pow10" .u64 Lib.pow10Tab:=by
 obtain⟨el,fr,e⟩:=h (1,Lib.pow10Tab.map fun z=>Value.int .u64 z) (by simp[tb]);unfold Lib.TabIs World.var?;rw [show P.globalNamed "internal/strconv.uint64pow10" = some 1 by kernel_rfl];simp only[Option.bind_some];dsimp only at e;rw [e]
theorem h_cut:hasB P 160=true:=by kernel_rfl
theorem h_cutPrefix:hasB P 181=true:=by kernel_rfl
theorem h_split:hasB P 182=true:=by kernel_rfl
theorem h_join:hasB P 54=true:=by kernel_rfl
theorem h_itoa:hasB P 81=true:=by kernel_rfl
theorem h_check:hasB P 108=true:=by kernel_rfl
theorem h_string:hasB P 57=true:=by kernel_rfl
theorem cut_pure{m:Int}{h:zH}(n:Nat)(ht:TabsH (tb m) h)(s:List UInt8)(c:UInt8)(hs:s.length<1000000) :
 pA P 8 160 [str s,str [c]] h n (.tuple #[str (cutB c s).1,str (cutB c s).2.1,.bool (cutB c s).2.2]):=by
 refine qI h_cut rfl rfl ht (tb_ok m) fun wd hw=>?_;refine(Tryz.strings_Cut ⟨⟨s⟩⟩ ⟨#[c]⟩ m wd ?_ (tb_max hw)).mono fun e w' ⟨he,k,hw'⟩=>?_
 · show s.length<_;omega
 · subst hw';refine⟨?_,below_drewN (Below.refl _ _) k⟩;rw [he];show Ending.returned (.tuple #[.string ⟨(Lib.cut s [c]).1.toArray⟩,.string ⟨(Lib.cut s [c]).2.1.toArray⟩,.bool (Lib.cut s [c]).2.2])=_;rw [cut_one]
theorem cutPrefix_pure{h:zH}(n:Nat)(s p:List UInt8) :
 pA P 8 181 [str s,str p] h n (.tuple #[str (Lib.trimPrefix s p),.bool (Lib.hasPrefix s p)]):=by
 refine qI (tabs:=[]) h_cutPrefix rfl rfl (fun _ h=>by cases h) (fun _ h=>by cases h) fun wd hw=>?_;refine(Tryz.strings_CutPrefix ⟨⟨s⟩⟩ ⟨⟨p⟩⟩ wd).mono fun e w' ⟨he,hw'⟩=>?_;subst hw';exact⟨he,Below.refl _ _⟩
theorem split_rets{m:Int}{h:zH}(n:Nat)(ht:TabsH (tb m) h)(s:List UInt8)(c:UInt8)(hs:s.length<1000000) :
 Rets P 8 182 [str s,str [c]] h n fun v' h' n'=>v' = .slice (some ⟨n,0,none⟩) (vB c s).length (vB c s).length∧h'=h.set .dead (mkC ((vB c s).map str) 0 0) n∧n'=n+1:=by
 have hl:(vB c s).length<1000001:=by rw[splitL_length];have:=List.count_le_length (a:=c) (l:=s);omega
 refine row_of_calls h_split rfl ?_ (Nat.le_refl _) ?_ ht (tb_ok m) (el:=9) fun wd hw=>?_
 · simp[uV]
 · unfold inf;omega
 · refine(Tryz.strings_Split ⟨⟨s⟩⟩ ⟨#[c]⟩ m wd ?_ (tb_max hw) (Nat.le_refl 1)).mono fun e w' ⟨he,hw'⟩=>?_
   · show s.length<_;omega
   · have e1:Lib.countB ⟨⟨s⟩⟩ ⟨#[c]⟩+1=(vB c s).length:=by rw[count_one,splitL_length]
     have e2:(Lib.splitB ⟨#[c]⟩ 0 (Lib.countB ⟨⟨s⟩⟩ ⟨#[c]⟩) ⟨⟨s⟩⟩).map Value.string=(vB c s).map str:=by
      have:=split_one c ⟨⟨s⟩⟩;rw [← this,List.map_map];apply List.map_congr_left;intro x _;rfl
     rw[e1]at he;refine⟨he,?_⟩;rw [hw',e2]
theorem join_pure{h:zH}{n:Nat}{sv:Value}{el:Nat}(ls:List (List UInt8))(sep:List UInt8)(r:Row n h sv el 1 ls.length (ls.map str))(hn:ls.length<1000000)(hl:(Lib.join ls sep).length<1000000) :
 pA P 8 54 [sv,str sep] h n (str (Lib.join ls sep)):=by
 refine pure_of_calls_row (tabs:=[]) h_join r (by simp[uV]) rfl rfl (fun _ h=>by cases h) (fun _ h=>by cases h) fun wd sv' _ hsv=>?_;rcases hsv with⟨h0,a,c,rfl⟩|⟨bk,o,c,rfl,hc,hb,hcells⟩
 · have:ls=[]:=List.length_eq_zero_iff.1 h0;subst this;refine(Tryz.strings_Join_none a c ⟨⟨sep⟩⟩ wd).mono fun e w' ⟨he,hw'⟩=>?_;subst hw';exact⟨he,Below.refl _ _⟩
 · have e1:(ls.map fun l=>(⟨⟨l⟩⟩:ByteArray)).length=ls.length:=List.length_map ..;have e2:(ls.map fun l=>(⟨⟨l⟩⟩:ByteArray)).map (·.data.toList)=ls:=by rw[List.map_map];exact List.map_id' _
   have:=Tryz.strings_Join bk o c (ls.map fun l=>(⟨⟨l⟩⟩:ByteArray)) ⟨⟨sep⟩⟩ wd (fun j x hj=>hcells j (.string x) (by
    rw[List.getElem?_map]at hj ⊢
    cases e:ls[j]? with
    | none=>rw [e]at hj;cases hj
    | some l=>rw [e]at hj;injection hj with hj;subst hj;rfl)) hb (by rw[e1];omega) (by rw[e1];exact hc) (by rw[e2];show(Lib.join ls sep).length≤_;omega)
   rw[e1,e2]at this;exact this.mono fun _ _ ⟨he,hw'⟩=>⟨he,hw'⟩
theorem itoa_pure{m:Int}{h:zH}(n:Nat)(ht:TabsH (tb m) h)(a:Int)(h0: -9223372036854775808≤a)(h1:a≤9223372036854775807) :
 pA P 8 81 [.int .i64 a] h n (str (Lib.itoa a)):=by
 refine qI h_itoa rfl rfl ht (tb_ok m) fun wd hw=>?_;refine(Tryz.strconv_Itoa a h0 h1 wd (tb_pow hw)).mono fun e w' ⟨he,k,os,hw'⟩=>?_;subst hw';exact⟨he,Lib.below_grow _ _ (Nat.le_refl _) k os⟩
theorem h_atoi:hasB P 179=true:=by kernel_rfl
theorem atoi_pure{h:zH}(n:Nat)(s:List UInt8)(v:Int)(hs:s.length≤1000000)(hv:Lib.atoiAll s = .ok v) :
 pA P 8 179 [str s] h n (.tuple #[.int .i64 v,.nilIface]):=by
 refine qI (tabs:=[]) h_atoi rfl rfl (fun _ h=>by cases h) (fun _ h=>by cases h) fun wd hw=>?_;refine(Tryz.strconv_Atoi_ok ⟨⟨s⟩⟩ (by show s.length≤_;omega) v hv wd).mono fun e w' ⟨he,hw'⟩=>?_;rcases hw' with rfl|⟨t,rfl⟩
 · exact⟨he,Below.refl _ _⟩
 · exact⟨he,Lib.bytesWorld_below _ _ _⟩
theorem check_fresh{b n:Nat}{h:zH}{sv:Value}(hB:Bld 97 h b (.pointer none) sv) :
 Rets P 8 108 [.pointer (some ⟨b,0,none⟩)] h n fun v h' n'=>v = .tuple #[]∧h'=h.set .dead (stC (yG h b) 0 [.pointer (some ⟨b,0,none⟩)]) b∧n'=n:=
 copyCheck_fresh h_check hB fun wd c h1 h2 h3=>Any.Builder_copyCheck_fresh { Tryz.lays156 with } { Tryz.Builder_Extra_156 with } c wd h1 h2 h3
theorem check_used{b n:Nat}{h:zH}{sv:Value}(hB:Bld 97 h b (.pointer (some ⟨b,0,none⟩)) sv) :
 Rets P 8 108 [.pointer (some ⟨b,0,none⟩)] h n fun v h' n'=>v = .tuple #[]∧h'=h∧n'=n:=
 copyCheck_used h_check hB fun wd c h1=>Any.Builder_copyCheck_used { Tryz.lays156 with } { Tryz.Builder_Extra_156 with } c wd h1
theorem string_rets{b lo n:Nat}{h:zH}{p sv:Value}{l:List UInt8}(hB:Bld 97 h b p sv)(ho:Own lo n h sv 5 1 l.length (bytesV l))(hne:wQ sv≠some b)(hlen:l.length<1000000) :
 Rets P 8 57 [.pointer (some ⟨b,0,none⟩)] h n fun v h' n'=>v=str l∧n'=n∧(∀b',wQ sv≠some b'→yG h' b'=yG h b'):=
 builder_String h_string hB ho hne hlen
  (fun wd c x hx=>(Any.Builder_String_nil Tryz.lays169 Tryz.Builder_Extra_169 wd.heap.size c x wd hx).mono fun _ _ ⟨he,hb⟩=>⟨he,hb⟩)
  (fun wd c g cap x cur h0 h1 h2 h3 h4 h5=>(string_model Tryz.lays169 Tryz.Builder_Extra_169 c g cap x cur l wd h0 hlen h1 h2 h3 h4 h5).mono fun _ _ ⟨he,hb⟩=>⟨he,hb⟩)
open Go.Ex
theorem sh41:yJ P 41 = .scal:=by kernel_rfl
theorem us41:und P 41=some (.slice 51):=by kernel_rfl
theorem ix41:ixOf P 41 = .slice 1:=by kernel_rfl
theorem ap41:apTB P 41 41 51 1=true:=by kernel_rfl
theorem on41:oneTB P 41 51=true:=by kernel_rfl
theorem sh51:yJ P 51 = .scal:=by kernel_rfl
theorem us51:und P 51=some (.slice 50):=by kernel_rfl
theorem ix51:ixOf P 51 = .slice 9:=by kernel_rfl
theorem ap51:apTB P 51 51 50 9=true:=by kernel_rfl
theorem sh114:yJ P 114 = .scal:=by kernel_rfl
theorem us114:und P 114=some (.slice 113):=by kernel_rfl
theorem ix114:ixOf P 114 = .slice 1:=by kernel_rfl
theorem sh40:yJ P 40 = .scal:=by kernel_rfl
theorem us40:und P 40=some (.slice 3):=by kernel_rfl
theorem ix40:ixOf P 40 = .slice 1:=by kernel_rfl
theorem ap40:apTB P 40 40 3 1=true:=by kernel_rfl
theorem on40:oneTB P 40 3=true:=by kernel_rfl
theorem sh23:yJ P 23 = .scal:=by kernel_rfl
theorem us23:und P 23=some (.slice 9):=by kernel_rfl
theorem ix23:ixOf P 23 = .slice 1:=by kernel_rfl
theorem ap23:apTB P 23 23 9 1=true:=by kernel_rfl
theorem on23:oneTB P 23 9=true:=by kernel_rfl
theorem in23:(inf? P 9).map (·.size)=some 1:=by kernel_rfl
theorem sh25:yJ P 25 = .scal:=by kernel_rfl
theorem ze25:wU P 25=some (.int .i64 0):=by kernel_rfl
theorem sh43:yJ P 43 = .agg 5:=by kernel_rfl
theorem ze43:wU P 43=some (.agg ⟨[str [],.slice none 0 0,.slice none 0 0,str [],.slice none 0 0]⟩):=by kernel_rfl
theorem fa43_0(b:Nat):zB P 43 0 (.pointer (some ⟨b,0,none⟩))=some (.pointer (some ⟨b,0,none⟩)):=by rw[yM (o:=0) (by kernel_rfl),Nat.zero_add]
theorem tB(b:Nat):zB P 43 1 (.pointer (some ⟨b,0,none⟩))=some (.pointer (some ⟨b,1,none⟩)):=by rw[yM (o:=1) (by kernel_rfl),Nat.zero_add]
theorem oM(b:Nat):zB P 43 2 (.pointer (some ⟨b,0,none⟩))=some (.pointer (some ⟨b,2,none⟩)):=by rw[yM (o:=2) (by kernel_rfl),Nat.zero_add]
theorem fa43_3(b:Nat):zB P 43 3 (.pointer (some ⟨b,0,none⟩))=some (.pointer (some ⟨b,3,none⟩)):=by rw[yM (o:=3) (by kernel_rfl),Nat.zero_add]
theorem vP(b:Nat):zB P 43 4 (.pointer (some ⟨b,0,none⟩))=some (.pointer (some ⟨b,4,none⟩)):=by rw[yM (o:=4) (by kernel_rfl),Nat.zero_add]
theorem sh50:yJ P 50 = .agg 9:=by kernel_rfl
theorem ze50:wU P 50=some (.agg ⟨[.int .i64 0,.int .i64 0,.int .i64 0,.int .i64 0,.int .i64 0,str [],.slice none 0 0,.int .i64 0,.int .i64 0]⟩):=by kernel_rfl
theorem uK(b:Nat):zB P 50 0 (.pointer (some ⟨b,0,none⟩))=some (.pointer (some ⟨b,0,none⟩)):=by rw[yM (o:=0) (by kernel_rfl),Nat.zero_add]
theorem tP(b:Nat):zB P 50 1 (.pointer (some ⟨b,0,none⟩))=some (.pointer (some ⟨b,1,none⟩)):=by rw[yM (o:=1) (by kernel_rfl),Nat.zero_add]
theorem uX(b:Nat):zB P 50 2 (.pointer (some ⟨b,0,none⟩))=some (.pointer (some ⟨b,2,none⟩)):=by rw[yM (o:=2) (by kernel_rfl),Nat.zero_add]
theorem fa50_3(b:Nat):zB P 50 3 (.pointer (some ⟨b,0,none⟩))=some (.pointer (some ⟨b,3,none⟩)):=by rw[yM (o:=3) (by kernel_rfl),Nat.zero_add]
theorem fa50_4(b:Nat):zB P 50 4 (.pointer (some ⟨b,0,none⟩))=some (.pointer (some ⟨b,4,none⟩)):=by rw[yM (o:=4) (by kernel_rfl),Nat.zero_add]
theorem tC(b:Nat):zB P 50 5 (.pointer (some ⟨b,0,none⟩))=some (.pointer (some ⟨b,5,none⟩)):=by rw[yM (o:=5) (by kernel_rfl),Nat.zero_add]
theorem vZ(b:Nat):zB P 50 6 (.pointer (some ⟨b,0,none⟩))=some (.pointer (some ⟨b,6,none⟩)):=by rw[yM (o:=6) (by kernel_rfl),Nat.zero_add]
theorem pN(b:Nat):zB P 50 7 (.pointer (some ⟨b,0,none⟩))=some (.pointer (some ⟨b,7,none⟩)):=by rw[yM (o:=7) (by kernel_rfl),Nat.zero_add]
theorem fa50_8(b:Nat):zB P 50 8 (.pointer (some ⟨b,0,none⟩))=some (.pointer (some ⟨b,8,none⟩)):=by rw[yM (o:=8) (by kernel_rfl),Nat.zero_add]
theorem sh4:yJ P 4 = .scal:=by kernel_rfl
theorem sh1:yJ P 1 = .scal:=by kernel_rfl
theorem sh113:yJ P 113 = .scal:=by kernel_rfl
theorem sh3:yJ P 3 = .scal:=by kernel_rfl
theorem ze3:wU P 3=some (.int .i64 0):=by kernel_rfl
theorem sh9:yJ P 9 = .scal:=by kernel_rfl
theorem us9:und P 9=some .string:=by kernel_rfl
theorem fa116_0(b:Nat):zB P 116 0 (.pointer (some ⟨b,0,none⟩))=some (.pointer (some ⟨b,0,none⟩)):=by rw[yM (o:=0) (by kernel_rfl),Nat.zero_add]
theorem fa116_1(b:Nat):zB P 116 1 (.pointer (some ⟨b,0,none⟩))=some (.pointer (some ⟨b,1,none⟩)):=by rw[yM (o:=1) (by kernel_rfl),Nat.zero_add]
theorem fa116_2(b:Nat):zB P 116 2 (.pointer (some ⟨b,0,none⟩))=some (.pointer (some ⟨b,2,none⟩)):=by rw[yM (o:=2) (by kernel_rfl),Nat.zero_add]
theorem fa116_3(b:Nat):zB P 116 3 (.pointer (some ⟨b,0,none⟩))=some (.pointer (some ⟨b,3,none⟩)):=by rw[yM (o:=3) (by kernel_rfl),Nat.zero_add]
theorem fa116_4(b:Nat):zB P 116 4 (.pointer (some ⟨b,0,none⟩))=some (.pointer (some ⟨b,4,none⟩)):=by rw[yM (o:=4) (by kernel_rfl),Nat.zero_add]
theorem fa116_5(b:Nat):zB P 116 5 (.pointer (some ⟨b,0,none⟩))=some (.pointer (some ⟨b,5,none⟩)):=by rw[yM (o:=5) (by kernel_rfl),Nat.zero_add]
theorem fa189_0(b:Nat):zB P 189 0 (.pointer (some ⟨b,0,none⟩))=some (.pointer (some ⟨b,0,none⟩)):=by rw[yM (o:=0) (by kernel_rfl),Nat.zero_add]
theorem pE(b:Nat):zB P 111 0 (.pointer (some ⟨b,0,none⟩))=some (.pointer (some ⟨b,0,none⟩)):=by rw[yM (o:=0) (by kernel_rfl),Nat.zero_add]
noncomputable abbrev ud:Value:=undef
abbrev vi(x:Int):Value:=.int .i64 x
abbrev vb(x:Bool):Value:=.bool x
noncomputable abbrev kp(L:Lo)(f:FuncId)(k:KO)(t:Fr)(d:List Deferred)(u:Option yF):KC:=fun c h n=>zJ P L f k (.panic c) t (W.mk d u h n)
noncomputable abbrev kb(k:KX)(t:Fr)(d:List Deferred)(u:Option yF):KC:=fun c h n=>k (.panic c) t (W.mk d u h n)
noncomputable abbrev hq(l:List (Nat×Nat×List Ty)):rD:=fun k _ i=>List.rec [] (fun e _ ih=>Bool.rec ih (Bool.rec ih e.2.2 (Nat.beq e.2.1 i)) (Nat.beq e.1 k)) l
noncomputable abbrev hq0:rD:=hq []
abbrev TY0:=Lo→LP→Bool→Option yF→zH→Nat→KO→Bool
abbrev EY0(f:FuncId)(g:rD)(F:TY0):Prop:=∀L lp  df u h n k,yCall P g L lp f [] df u h n k=F L lp  df u h n k
abbrev TY1:=Lo→LP→Value→Bool→Option yF→zH→Nat→KO→Bool
abbrev EY1(f:FuncId)(g:rD)(F:TY1):Prop:=∀L lp p0 df u h n k,yCall P g L lp f [p0] df u h n k=F L lp p0 df u h n k
abbrev TY2:=Lo→LP→Value→Value→Bool→Option yF→zH→Nat→KO→Bool
abbrev EY2(f:FuncId)(g:rD)(F:TY2):Prop:=∀L lp p0 p1 df u h n k,yCall P g L lp f [p0,p1] df u h n k=F L lp p0 p1 df u h n k
abbrev TY3:=Lo→LP→Value→Value→Value→Bool→Option yF→zH→Nat→KO→Bool
abbrev EY3(f:FuncId)(g:rD)(F:TY3):Prop:=∀L lp p0 p1 p2 df u h n k,yCall P g L lp f [p0,p1,p2] df u h n k=F L lp p0 p1 p2 df u h n k
abbrev TYB:=Lo→LP→Option Nat→Bool→Fr→W→KX→Bool
abbrev EYB(f:FuncId)(i:Nat)(g:rD)(B:TYB):Prop:=∀L lp rd df t w ka,yLoop P g L lp (unL (yZ P f i)) ⟨f,rd,df⟩ t w ka=B L lp rd df t w ka
noncomputable abbrev gf1(s0:Value):Fr:=.nD .lF s0 .lF
noncomputable abbrev gf2(s0 s1:Value):Fr:=.nD (gf1 s1) s0 .lF
noncomputable abbrev gf3(s0 s1 s2:Value):Fr:=.nD (gf1 s1) s0 (gf1 s2)
noncomputable abbrev gf4(s0 s1 s2 s3:Value):Fr:=.nD (gf2 s1 s3) s0 (gf1 s2)
noncomputable abbrev gf5(s0 s1 s2 s3 s4:Value):Fr:=.nD (gf2 s1 s3) s0 (gf2 s2 s4)
noncomputable abbrev gf6(s0 s1 s2 s3 s4 s5:Value):Fr:=.nD (gf3 s1 s3 s5) s0 (gf2 s2 s4)
noncomputable abbrev gf7(s0 s1 s2 s3 s4 s5 s6:Value):Fr:=.nD (gf3 s1 s3 s5) s0 (gf3 s2 s4 s6)
noncomputable abbrev gf8(s0 s1 s2 s3 s4 s5 s6 s7:Value):Fr:=.nD (gf4 s1 s3 s5 s7) s0 (gf3 s2 s4 s6)
noncomputable abbrev gf9(s0 s1 s2 s3 s4 s5 s6 s7 s8:Value):Fr:=.nD (gf4 s1 s3 s5 s7) s0 (gf4 s2 s4 s6 s8)
noncomputable abbrev gf10(s0 s1 s2 s3 s4 s5 s6 s7 s8 s9:Value):Fr:=.nD (gf5 s1 s3 s5 s7 s9) s0 (gf4 s2 s4 s6 s8)
noncomputable abbrev gf11(s0 s1 s2 s3 s4 s5 s6 s7 s8 s9 s10:Value):Fr:=.nD (gf5 s1 s3 s5 s7 s9) s0 (gf5 s2 s4 s6 s8 s10)
noncomputable abbrev gf12(s0 s1 s2 s3 s4 s5 s6 s7 s8 s9 s10 s11:Value):Fr:=.nD (gf6 s1 s3 s5 s7 s9 s11) s0 (gf5 s2 s4 s6 s8 s10)
noncomputable abbrev gf13(s0 s1 s2 s3 s4 s5 s6 s7 s8 s9 s10 s11 s12:Value):Fr:=.nD (gf6 s1 s3 s5 s7 s9 s11) s0 (gf6 s2 s4 s6 s8 s10 s12)
noncomputable abbrev gf14(s0 s1 s2 s3 s4 s5 s6 s7 s8 s9 s10 s11 s12 s13:Value):Fr:=.nD (gf7 s1 s3 s5 s7 s9 s11 s13) s0 (gf6 s2 s4 s6 s8 s10 s12)
noncomputable abbrev gf15(s0 s1 s2 s3 s4 s5 s6 s7 s8 s9 s10 s11 s12 s13 s14:Value):Fr:=.nD (gf7 s1 s3 s5 s7 s9 s11 s13) s0 (gf7 s2 s4 s6 s8 s10 s12 s14)
noncomputable abbrev gf16(s0 s1 s2 s3 s4 s5 s6 s7 s8 s9 s10 s11 s12 s13 s14 s15:Value):Fr:=.nD (gf8 s1 s3 s5 s7 s9 s11 s13 s15) s0 (gf7 s2 s4 s6 s8 s10 s12 s14)
noncomputable abbrev gf17(s0 s1 s2 s3 s4 s5 s6 s7 s8 s9 s10 s11 s12 s13 s14 s15 s16:Value):Fr:=.nD (gf8 s1 s3 s5 s7 s9 s11 s13 s15) s0 (gf8 s2 s4 s6 s8 s10 s12 s14 s16)
noncomputable abbrev gf18(s0 s1 s2 s3 s4 s5 s6 s7 s8 s9 s10 s11 s12 s13 s14 s15 s16 s17:Value):Fr:=.nD (gf9 s1 s3 s5 s7 s9 s11 s13 s15 s17) s0 (gf8 s2 s4 s6 s8 s10 s12 s14 s16)
noncomputable abbrev gf19(s0 s1 s2 s3 s4 s5 s6 s7 s8 s9 s10 s11 s12 s13 s14 s15 s16 s17 s18:Value):Fr:=.nD (gf9 s1 s3 s5 s7 s9 s11 s13 s15 s17) s0 (gf9 s2 s4 s6 s8 s10 s12 s14 s16 s18)
noncomputable abbrev gf20(s0 s1 s2 s3 s4 s5 s6 s7 s8 s9 s10 s11 s12 s13 s14 s15 s16 s17 s18 s19:Value):Fr:=.nD (gf10 s1 s3 s5 s7 s9 s11 s13 s15 s17 s19) s0 (gf9 s2 s4 s6 s8 s10 s12 s14 s16 s18)
noncomputable abbrev gf21(s0 s1 s2 s3 s4 s5 s6 s7 s8 s9 s10 s11 s12 s13 s14 s15 s16 s17 s18 s19 s20:Value):Fr:=.nD (gf10 s1 s3 s5 s7 s9 s11 s13 s15 s17 s19) s0 (gf10 s2 s4 s6 s8 s10 s12 s14 s16 s18 s20)
noncomputable abbrev gf22(s0 s1 s2 s3 s4 s5 s6 s7 s8 s9 s10 s11 s12 s13 s14 s15 s16 s17 s18 s19 s20 s21:Value):Fr:=.nD (gf11 s1 s3 s5 s7 s9 s11 s13 s15 s17 s19 s21) s0 (gf10 s2 s4 s6 s8 s10 s12 s14 s16 s18 s20)
noncomputable abbrev gf23(s0 s1 s2 s3 s4 s5 s6 s7 s8 s9 s10 s11 s12 s13 s14 s15 s16 s17 s18 s19 s20 s21 s22:Value):Fr:=.nD (gf11 s1 s3 s5 s7 s9 s11 s13 s15 s17 s19 s21) s0 (gf11 s2 s4 s6 s8 s10 s12 s14 s16 s18 s20 s22)
noncomputable abbrev gf24(s0 s1 s2 s3 s4 s5 s6 s7 s8 s9 s10 s11 s12 s13 s14 s15 s16 s17 s18 s19 s20 s21 s22 s23:Value):Fr:=.nD (gf12 s1 s3 s5 s7 s9 s11 s13 s15 s17 s19 s21 s23) s0 (gf11 s2 s4 s6 s8 s10 s12 s14 s16 s18 s20 s22)
noncomputable abbrev gf25(s0 s1 s2 s3 s4 s5 s6 s7 s8 s9 s10 s11 s12 s13 s14 s15 s16 s17 s18 s19 s20 s21 s22 s23 s24:Value):Fr:=.nD (gf12 s1 s3 s5 s7 s9 s11 s13 s15 s17 s19 s21 s23) s0 (gf12 s2 s4 s6 s8 s10 s12 s14 s16 s18 s20 s22 s24)
noncomputable abbrev gf26(s0 s1 s2 s3 s4 s5 s6 s7 s8 s9 s10 s11 s12 s13 s14 s15 s16 s17 s18 s19 s20 s21 s22 s23 s24 s25:Value):Fr:=.nD (gf13 s1 s3 s5 s7 s9 s11 s13 s15 s17 s19 s21 s23 s25) s0 (gf12 s2 s4 s6 s8 s10 s12 s14 s16 s18 s20 s22 s24)
noncomputable abbrev gf27(s0 s1 s2 s3 s4 s5 s6 s7 s8 s9 s10 s11 s12 s13 s14 s15 s16 s17 s18 s19 s20 s21 s22 s23 s24 s25 s26:Value):Fr:=.nD (gf13 s1 s3 s5 s7 s9 s11 s13 s15 s17 s19 s21 s23 s25) s0 (gf13 s2 s4 s6 s8 s10 s12 s14 s16 s18 s20 s22 s24 s26)
noncomputable abbrev gf28(s0 s1 s2 s3 s4 s5 s6 s7 s8 s9 s10 s11 s12 s13 s14 s15 s16 s17 s18 s19 s20 s21 s22 s23 s24 s25 s26 s27:Value):Fr:=.nD (gf14 s1 s3 s5 s7 s9 s11 s13 s15 s17 s19 s21 s23 s25 s27) s0 (gf13 s2 s4 s6 s8 s10 s12 s14 s16 s18 s20 s22 s24 s26)
noncomputable abbrev gf30(s0 s1 s2 s3 s4 s5 s6 s7 s8 s9 s10 s11 s12 s13 s14 s15 s16 s17 s18 s19 s20 s21 s22 s23 s24 s25 s26 s27 s28 s29:Value):Fr:=.nD (gf15 s1 s3 s5 s7 s9 s11 s13 s15 s17 s19 s21 s23 s25 s27 s29) s0 (gf14 s2 s4 s6 s8 s10 s12 s14 s16 s18 s20 s22 s24 s26 s28)
noncomputable abbrev gf31(s0 s1 s2 s3 s4 s5 s6 s7 s8 s9 s10 s11 s12 s13 s14 s15 s16 s17 s18 s19 s20 s21 s22 s23 s24 s25 s26 s27 s28 s29 s30:Value):Fr:=.nD (gf15 s1 s3 s5 s7 s9 s11 s13 s15 s17 s19 s21 s23 s25 s27 s29) s0 (gf15 s2 s4 s6 s8 s10 s12 s14 s16 s18 s20 s22 s24 s26 s28 s30)
noncomputable abbrev gf32(s0 s1 s2 s3 s4 s5 s6 s7 s8 s9 s10 s11 s12 s13 s14 s15 s16 s17 s18 s19 s20 s21 s22 s23 s24 s25 s26 s27 s28 s29 s30 s31:Value):Fr:=.nD (gf16 s1 s3 s5 s7 s9 s11 s13 s15 s17 s19 s21 s23 s25 s27 s29 s31) s0 (gf15 s2 s4 s6 s8 s10 s12 s14 s16 s18 s20 s22 s24 s26 s28 s30)
noncomputable abbrev gf33(s0 s1 s2 s3 s4 s5 s6 s7 s8 s9 s10 s11 s12 s13 s14 s15 s16 s17 s18 s19 s20 s21 s22 s23 s24 s25 s26 s27 s28 s29 s30 s31 s32:Value):Fr:=.nD (gf16 s1 s3 s5 s7 s9 s11 s13 s15 s17 s19 s21 s23 s25 s27 s29 s31) s0 (gf16 s2 s4 s6 s8 s10 s12 s14 s16 s18 s20 s22 s24 s26 s28 s30 s32)
noncomputable abbrev gf35(s0 s1 s2 s3 s4 s5 s6 s7 s8 s9 s10 s11 s12 s13 s14 s15 s16 s17 s18 s19 s20 s21 s22 s23 s24 s25 s26 s27 s28 s29 s30 s31 s32 s33 s34:Value):Fr:=.nD (gf17 s1 s3 s5 s7 s9 s11 s13 s15 s17 s19 s21 s23 s25 s27 s29 s31 s33) s0 (gf17 s2 s4 s6 s8 s10 s12 s14 s16 s18 s20 s22 s24 s26 s28 s30 s32 s34)
noncomputable abbrev gf36(s0 s1 s2 s3 s4 s5 s6 s7 s8 s9 s10 s11 s12 s13 s14 s15 s16 s17 s18 s19 s20 s21 s22 s23 s24 s25 s26 s27 s28 s29 s30 s31 s32 s33 s34 s35:Value):Fr:=.nD (gf18 s1 s3 s5 s7 s9 s11 s13 s15 s17 s19 s21 s23 s25 s27 s29 s31 s33 s35) s0 (gf17 s2 s4 s6 s8 s10 s12 s14 s16 s18 s20 s22 s24 s26 s28 s30 s32 s34)
noncomputable abbrev gf37(s0 s1 s2 s3 s4 s5 s6 s7 s8 s9 s10 s11 s12 s13 s14 s15 s16 s17 s18 s19 s20 s21 s22 s23 s24 s25 s26 s27 s28 s29 s30 s31 s32 s33 s34 s35 s36:Value):Fr:=.nD (gf18 s1 s3 s5 s7 s9 s11 s13 s15 s17 s19 s21 s23 s25 s27 s29 s31 s33 s35) s0 (gf18 s2 s4 s6 s8 s10 s12 s14 s16 s18 s20 s22 s24 s26 s28 s30 s32 s34 s36)
noncomputable abbrev gf38(s0 s1 s2 s3 s4 s5 s6 s7 s8 s9 s10 s11 s12 s13 s14 s15 s16 s17 s18 s19 s20 s21 s22 s23 s24 s25 s26 s27 s28 s29 s30 s31 s32 s33 s34 s35 s36 s37:Value):Fr:=.nD (gf19 s1 s3 s5 s7 s9 s11 s13 s15 s17 s19 s21 s23 s25 s27 s29 s31 s33 s35 s37) s0 (gf18 s2 s4 s6 s8 s10 s12 s14 s16 s18 s20 s22 s24 s26 s28 s30 s32 s34 s36)
noncomputable abbrev gf39(s0 s1 s2 s3 s4 s5 s6 s7 s8 s9 s10 s11 s12 s13 s14 s15 s16 s17 s18 s19 s20 s21 s22 s23 s24 s25 s26 s27 s28 s29 s30 s31 s32 s33 s34 s35 s36 s37 s38:Value):Fr:=.nD (gf19 s1 s3 s5 s7 s9 s11 s13 s15 s17 s19 s21 s23 s25 s27 s29 s31 s33 s35 s37) s0 (gf19 s2 s4 s6 s8 s10 s12 s14 s16 s18 s20 s22 s24 s26 s28 s30 s32 s34 s36 s38)
noncomputable abbrev gf40(s0 s1 s2 s3 s4 s5 s6 s7 s8 s9 s10 s11 s12 s13 s14 s15 s16 s17 s18 s19 s20 s21 s22 s23 s24 s25 s26 s27 s28 s29 s30 s31 s32 s33 s34 s35 s36 s37 s38 s39:Value):Fr:=.nD (gf20 s1 s3 s5 s7 s9 s11 s13 s15 s17 s19 s21 s23 s25 s27 s29 s31 s33 s35 s37 s39) s0 (gf19 s2 s4 s6 s8 s10 s12 s14 s16 s18 s20 s22 s24 s26 s28 s30 s32 s34 s36 s38)
noncomputable abbrev gf41(s0 s1 s2 s3 s4 s5 s6 s7 s8 s9 s10 s11 s12 s13 s14 s15 s16 s17 s18 s19 s20 s21 s22 s23 s24 s25 s26 s27 s28 s29 s30 s31 s32 s33 s34 s35 s36 s37 s38 s39 s40:Value):Fr:=.nD (gf20 s1 s3 s5 s7 s9 s11 s13 s15 s17 s19 s21 s23 s25 s27 s29 s31 s33 s35 s37 s39) s0 (gf20 s2 s4 s6 s8 s10 s12 s14 s16 s18 s20 s22 s24 s26 s28 s30 s32 s34 s36 s38 s40)
noncomputable abbrev gf45(s0 s1 s2 s3 s4 s5 s6 s7 s8 s9 s10 s11 s12 s13 s14 s15 s16 s17 s18 s19 s20 s21 s22 s23 s24 s25 s26 s27 s28 s29 s30 s31 s32 s33 s34 s35 s36 s37 s38 s39 s40 s41 s42 s43 s44:Value):Fr:=.nD (gf22 s1 s3 s5 s7 s9 s11 s13 s15 s17 s19 s21 s23 s25 s27 s29 s31 s33 s35 s37 s39 s41 s43) s0 (gf22 s2 s4 s6 s8 s10 s12 s14 s16 s18 s20 s22 s24 s26 s28 s30 s32 s34 s36 s38 s40 s42 s44)
noncomputable abbrev gf46(s0 s1 s2 s3 s4 s5 s6 s7 s8 s9 s10 s11 s12 s13 s14 s15 s16 s17 s18 s19 s20 s21 s22 s23 s24 s25 s26 s27 s28 s29 s30 s31 s32 s33 s34 s35 s36 s37 s38 s39 s40 s41 s42 s43 s44 s45:Value):Fr:=.nD (gf23 s1 s3 s5 s7 s9 s11 s13 s15 s17 s19 s21 s23 s25 s27 s29 s31 s33 s35 s37 s39 s41 s43 s45) s0 (gf22 s2 s4 s6 s8 s10 s12 s14 s16 s18 s20 s22 s24 s26 s28 s30 s32 s34 s36 s38 s40 s42 s44)
noncomputable abbrev gf47(s0 s1 s2 s3 s4 s5 s6 s7 s8 s9 s10 s11 s12 s13 s14 s15 s16 s17 s18 s19 s20 s21 s22 s23 s24 s25 s26 s27 s28 s29 s30 s31 s32 s33 s34 s35 s36 s37 s38 s39 s40 s41 s42 s43 s44 s45 s46:Value):Fr:=.nD (gf23 s1 s3 s5 s7 s9 s11 s13 s15 s17 s19 s21 s23 s25 s27 s29 s31 s33 s35 s37 s39 s41 s43 s45) s0 (gf23 s2 s4 s6 s8 s10 s12 s14 s16 s18 s20 s22 s24 s26 s28 s30 s32 s34 s36 s38 s40 s42 s44 s46)
noncomputable abbrev gf50(s0 s1 s2 s3 s4 s5 s6 s7 s8 s9 s10 s11 s12 s13 s14 s15 s16 s17 s18 s19 s20 s21 s22 s23 s24 s25 s26 s27 s28 s29 s30 s31 s32 s33 s34 s35 s36 s37 s38 s39 s40 s41 s42 s43 s44 s45 s46 s47 s48 s49:Value):Fr:=.nD (gf25 s1 s3 s5 s7 s9 s11 s13 s15 s17 s19 s21 s23 s25 s27 s29 s31 s33 s35 s37 s39 s41 s43 s45 s47 s49) s0 (gf24 s2 s4 s6 s8 s10 s12 s14 s16 s18 s20 s22 s24 s26 s28 s30 s32 s34 s36 s38 s40 s42 s44 s46 s48)
noncomputable abbrev gf51(s0 s1 s2 s3 s4 s5 s6 s7 s8 s9 s10 s11 s12 s13 s14 s15 s16 s17 s18 s19 s20 s21 s22 s23 s24 s25 s26 s27 s28 s29 s30 s31 s32 s33 s34 s35 s36 s37 s38 s39 s40 s41 s42 s43 s44 s45 s46 s47 s48 s49 s50:Value):Fr:=.nD (gf25 s1 s3 s5 s7 s9 s11 s13 s15 s17 s19 s21 s23 s25 s27 s29 s31 s33 s35 s37 s39 s41 s43 s45 s47 s49) s0 (gf25 s2 s4 s6 s8 s10 s12 s14 s16 s18 s20 s22 s24 s26 s28 s30 s32 s34 s36 s38 s40 s42 s44 s46 s48 s50)
noncomputable abbrev gf52(s0 s1 s2 s3 s4 s5 s6 s7 s8 s9 s10 s11 s12 s13 s14 s15 s16 s17 s18 s19 s20 s21 s22 s23 s24 s25 s26 s27 s28 s29 s30 s31 s32 s33 s34 s35 s36 s37 s38 s39 s40 s41 s42 s43 s44 s45 s46 s47 s48 s49 s50 s51:Value):Fr:=.nD (gf26 s1 s3 s5 s7 s9 s11 s13 s15 s17 s19 s21 s23 s25 s27 s29 s31 s33 s35 s37 s39 s41 s43 s45 s47 s49 s51) s0 (gf25 s2 s4 s6 s8 s10 s12 s14 s16 s18 s20 s22 s24 s26 s28 s30 s32 s34 s36 s38 s40 s42 s44 s46 s48 s50)
noncomputable abbrev gf53(s0 s1 s2 s3 s4 s5 s6 s7 s8 s9 s10 s11 s12 s13 s14 s15 s16 s17 s18 s19 s20 s21 s22 s23 s24 s25 s26 s27 s28 s29 s30 s31 s32 s33 s34 s35 s36 s37 s38 s39 s40 s41 s42 s43 s44 s45 s46 s47 s48 s49 s50 s51 s52:Value):Fr:=.nD (gf26 s1 s3 s5 s7 s9 s11 s13 s15 s17 s19 s21 s23 s25 s27 s29 s31 s33 s35 s37 s39 s41 s43 s45 s47 s49 s51) s0 (gf26 s2 s4 s6 s8 s10 s12 s14 s16 s18 s20 s22 s24 s26 s28 s30 s32 s34 s36 s38 s40 s42 s44 s46 s48 s50 s52)
noncomputable abbrev gf54(s0 s1 s2 s3 s4 s5 s6 s7 s8 s9 s10 s11 s12 s13 s14 s15 s16 s17 s18 s19 s20 s21 s22 s23 s24 s25 s26 s27 s28 s29 s30 s31 s32 s33 s34 s35 s36 s37 s38 s39 s40 s41 s42 s43 s44 s45 s46 s47 s48 s49 s50 s51 s52 s53:Value):Fr:=.nD (gf27 s1 s3 s5 s7 s9 s11 s13 s15 s17 s19 s21 s23 s25 s27 s29 s31 s33 s35 s37 s39 s41 s43 s45 s47 s49 s51 s53) s0 (gf26 s2 s4 s6 s8 s10 s12 s14 s16 s18 s20 s22 s24 s26 s28 s30 s32 s34 s36 s38 s40 s42 s44 s46 s48 s50 s52)
noncomputable abbrev gf56(s0 s1 s2 s3 s4 s5 s6 s7 s8 s9 s10 s11 s12 s13 s14 s15 s16 s17 s18 s19 s20 s21 s22 s23 s24 s25 s26 s27 s28 s29 s30 s31 s32 s33 s34 s35 s36 s37 s38 s39 s40 s41 s42 s43 s44 s45 s46 s47 s48 s49 s50 s51 s52 s53 s54 s55:Value):Fr:=.nD (gf28 s1 s3 s5 s7 s9 s11 s13 s15 s17 s19 s21 s23 s25 s27 s29 s31 s33 s35 s37 s39 s41 s43 s45 s47 s49 s51 s53 s55) s0 (gf27 s2 s4 s6 s8 s10 s12 s14 s16 s18 s20 s22 s24 s26 s28 s30 s32 s34 s36 s38 s40 s42 s44 s46 s48 s50 s52 s54)
noncomputable abbrev gf61(s0 s1 s2 s3 s4 s5 s6 s7 s8 s9 s10 s11 s12 s13 s14 s15 s16 s17 s18 s19 s20 s21 s22 s23 s24 s25 s26 s27 s28 s29 s30 s31 s32 s33 s34 s35 s36 s37 s38 s39 s40 s41 s42 s43 s44 s45 s46 s47 s48 s49 s50 s51 s52 s53 s54 s55 s56 s57 s58 s59 s60:Value):Fr:=.nD (gf30 s1 s3 s5 s7 s9 s11 s13 s15 s17 s19 s21 s23 s25 s27 s29 s31 s33 s35 s37 s39 s41 s43 s45 s47 s49 s51 s53 s55 s57 s59) s0 (gf30 s2 s4 s6 s8 s10 s12 s14 s16 s18 s20 s22 s24 s26 s28 s30 s32 s34 s36 s38 s40 s42 s44 s46 s48 s50 s52 s54 s56 s58 s60)
noncomputable abbrev gf62(s0 s1 s2 s3 s4 s5 s6 s7 s8 s9 s10 s11 s12 s13 s14 s15 s16 s17 s18 s19 s20 s21 s22 s23 s24 s25 s26 s27 s28 s29 s30 s31 s32 s33 s34 s35 s36 s37 s38 s39 s40 s41 s42 s43 s44 s45 s46 s47 s48 s49 s50 s51 s52 s53 s54 s55 s56 s57 s58 s59 s60 s61:Value):Fr:=.nD (gf31 s1 s3 s5 s7 s9 s11 s13 s15 s17 s19 s21 s23 s25 s27 s29 s31 s33 s35 s37 s39 s41 s43 s45 s47 s49 s51 s53 s55 s57 s59 s61) s0 (gf30 s2 s4 s6 s8 s10 s12 s14 s16 s18 s20 s22 s24 s26 s28 s30 s32 s34 s36 s38 s40 s42 s44 s46 s48 s50 s52 s54 s56 s58 s60)
noncomputable abbrev gf63(s0 s1 s2 s3 s4 s5 s6 s7 s8 s9 s10 s11 s12 s13 s14 s15 s16 s17 s18 s19 s20 s21 s22 s23 s24 s25 s26 s27 s28 s29 s30 s31 s32 s33 s34 s35 s36 s37 s38 s39 s40 s41 s42 s43 s44 s45 s46 s47 s48 s49 s50 s51 s52 s53 s54 s55 s56 s57 s58 s59 s60 s61 s62:Value):Fr:=.nD (gf31 s1 s3 s5 s7 s9 s11 s13 s15 s17 s19 s21 s23 s25 s27 s29 s31 s33 s35 s37 s39 s41 s43 s45 s47 s49 s51 s53 s55 s57 s59 s61) s0 (gf31 s2 s4 s6 s8 s10 s12 s14 s16 s18 s20 s22 s24 s26 s28 s30 s32 s34 s36 s38 s40 s42 s44 s46 s48 s50 s52 s54 s56 s58 s60 s62)
noncomputable abbrev gf66(s0 s1 s2 s3 s4 s5 s6 s7 s8 s9 s10 s11 s12 s13 s14 s15 s16 s17 s18 s19 s20 s21 s22 s23 s24 s25 s26 s27 s28 s29 s30 s31 s32 s33 s34 s35 s36 s37 s38 s39 s40 s41 s42 s43 s44 s45 s46 s47 s48 s49 s50 s51 s52 s53 s54 s55 s56 s57 s58 s59 s60 s61 s62 s63 s64 s65:Value):Fr:=.nD (gf33 s1 s3 s5 s7 s9 s11 s13 s15 s17 s19 s21 s23 s25 s27 s29 s31 s33 s35 s37 s39 s41 s43 s45 s47 s49 s51 s53 s55 s57 s59 s61 s63 s65) s0 (gf32 s2 s4 s6 s8 s10 s12 s14 s16 s18 s20 s22 s24 s26 s28 s30 s32 s34 s36 s38 s40 s42 s44 s46 s48 s50 s52 s54 s56 s58 s60 s62 s64)
noncomputable abbrev gf74(s0 s1 s2 s3 s4 s5 s6 s7 s8 s9 s10 s11 s12 s13 s14 s15 s16 s17 s18 s19 s20 s21 s22 s23 s24 s25 s26 s27 s28 s29 s30 s31 s32 s33 s34 s35 s36 s37 s38 s39 s40 s41 s42 s43 s44 s45 s46 s47 s48 s49 s50 s51 s52 s53 s54 s55 s56 s57 s58 s59 s60 s61 s62 s63 s64 s65 s66 s67 s68 s69 s70 s71 s72 s73:Value):Fr:=.nD (gf37 s1 s3 s5 s7 s9 s11 s13 s15 s17 s19 s21 s23 s25 s27 s29 s31 s33 s35 s37 s39 s41 s43 s45 s47 s49 s51 s53 s55 s57 s59 s61 s63 s65 s67 s69 s71 s73) s0 (gf36 s2 s4 s6 s8 s10 s12 s14 s16 s18 s20 s22 s24 s26 s28 s30 s32 s34 s36 s38 s40 s42 s44 s46 s48 s50 s52 s54 s56 s58 s60 s62 s64 s66 s68 s70 s72)
noncomputable abbrev gf76(s0 s1 s2 s3 s4 s5 s6 s7 s8 s9 s10 s11 s12 s13 s14 s15 s16 s17 s18 s19 s20 s21 s22 s23 s24 s25 s26 s27 s28 s29 s30 s31 s32 s33 s34 s35 s36 s37 s38 s39 s40 s41 s42 s43 s44 s45 s46 s47 s48 s49 s50 s51 s52 s53 s54 s55 s56 s57 s58 s59 s60 s61 s62 s63 s64 s65 s66 s67 s68 s69 s70 s71 s72 s73 s74 s75:Value):Fr:=.nD (gf38 s1 s3 s5 s7 s9 s11 s13 s15 s17 s19 s21 s23 s25 s27 s29 s31 s33 s35 s37 s39 s41 s43 s45 s47 s49 s51 s53 s55 s57 s59 s61 s63 s65 s67 s69 s71 s73 s75) s0 (gf37 s2 s4 s6 s8 s10 s12 s14 s16 s18 s20 s22 s24 s26 s28 s30 s32 s34 s36 s38 s40 s42 s44 s46 s48 s50 s52 s54 s56 s58 s60 s62 s64 s66 s68 s70 s72 s74)
noncomputable abbrev gf78(s0 s1 s2 s3 s4 s5 s6 s7 s8 s9 s10 s11 s12 s13 s14 s15 s16 s17 s18 s19 s20 s21 s22 s23 s24 s25 s26 s27 s28 s29 s30 s31 s32 s33 s34 s35 s36 s37 s38 s39 s40 s41 s42 s43 s44 s45 s46 s47 s48 s49 s50 s51 s52 s53 s54 s55 s56 s57 s58 s59 s60 s61 s62 s63 s64 s65 s66 s67 s68 s69 s70 s71 s72 s73 s74 s75 s76 s77:Value):Fr:=.nD (gf39 s1 s3 s5 s7 s9 s11 s13 s15 s17 s19 s21 s23 s25 s27 s29 s31 s33 s35 s37 s39 s41 s43 s45 s47 s49 s51 s53 s55 s57 s59 s61 s63 s65 s67 s69 s71 s73 s75 s77) s0 (gf38 s2 s4 s6 s8 s10 s12 s14 s16 s18 s20 s22 s24 s26 s28 s30 s32 s34 s36 s38 s40 s42 s44 s46 s48 s50 s52 s54 s56 s58 s60 s62 s64 s66 s68 s70 s72 s74 s76)
noncomputable abbrev gf83(s0 s1 s2 s3 s4 s5 s6 s7 s8 s9 s10 s11 s12 s13 s14 s15 s16 s17 s18 s19 s20 s21 s22 s23 s24 s25 s26 s27 s28 s29 s30 s31 s32 s33 s34 s35 s36 s37 s38 s39 s40 s41 s42 s43 s44 s45 s46 s47 s48 s49 s50 s51 s52 s53 s54 s55 s56 s57 s58 s59 s60 s61 s62 s63 s64 s65 s66 s67 s68 s69 s70 s71 s72 s73 s74 s75 s76 s77 s78 s79 s80 s81 s82:Value):Fr:=.nD (gf41 s1 s3 s5 s7 s9 s11 s13 s15 s17 s19 s21 s23 s25 s27 s29 s31 s33 s35 s37 s39 s41 s43 s45 s47 s49 s51 s53 s55 s57 s59 s61 s63 s65 s67 s69 s71 s73 s75 s77 s79 s81) s0 (gf41 s2 s4 s6 s8 s10 s12 s14 s16 s18 s20 s22 s24 s26 s28 s30 s32 s34 s36 s38 s40 s42 s44 s46 s48 s50 s52 s54 s56 s58 s60 s62 s64 s66 s68 s70 s72 s74 s76 s78 s80 s82)
noncomputable abbrev gf91(s0 s1 s2 s3 s4 s5 s6 s7 s8 s9 s10 s11 s12 s13 s14 s15 s16 s17 s18 s19 s20 s21 s22 s23 s24 s25 s26 s27 s28 s29 s30 s31 s32 s33 s34 s35 s36 s37 s38 s39 s40 s41 s42 s43 s44 s45 s46 s47 s48 s49 s50 s51 s52 s53 s54 s55 s56 s57 s58 s59 s60 s61 s62 s63 s64 s65 s66 s67 s68 s69 s70 s71 s72 s73 s74 s75 s76 s77 s78 s79 s80 s81 s82 s83 s84 s85 s86 s87 s88 s89 s90:Value):Fr:=.nD (gf45 s1 s3 s5 s7 s9 s11 s13 s15 s17 s19 s21 s23 s25 s27 s29 s31 s33 s35 s37 s39 s41 s43 s45 s47 s49 s51 s53 s55 s57 s59 s61 s63 s65 s67 s69 s71 s73 s75 s77 s79 s81 s83 s85 s87 s89) s0 (gf45 s2 s4 s6 s8 s10 s12 s14 s16 s18 s20 s22 s24 s26 s28 s30 s32 s34 s36 s38 s40 s42 s44 s46 s48 s50 s52 s54 s56 s58 s60 s62 s64 s66 s68 s70 s72 s74 s76 s78 s80 s82 s84 s86 s88 s90)
noncomputable abbrev gf92(s0 s1 s2 s3 s4 s5 s6 s7 s8 s9 s10 s11 s12 s13 s14 s15 s16 s17 s18 s19 s20 s21 s22 s23 s24 s25 s26 s27 s28 s29 s30 s31 s32 s33 s34 s35 s36 s37 s38 s39 s40 s41 s42 s43 s44 s45 s46 s47 s48 s49 s50 s51 s52 s53 s54 s55 s56 s57 s58 s59 s60 s61 s62 s63 s64 s65 s66 s67 s68 s69 s70 s71 s72 s73 s74 s75 s76 s77 s78 s79 s80 s81 s82 s83 s84 s85 s86 s87 s88 s89 s90 s91:Value):Fr:=.nD (gf46 s1 s3 s5 s7 s9 s11 s13 s15 s17 s19 s21 s23 s25 s27 s29 s31 s33 s35 s37 s39 s41 s43 s45 s47 s49 s51 s53 s55 s57 s59 s61 s63 s65 s67 s69 s71 s73 s75 s77 s79 s81 s83 s85 s87 s89 s91) s0 (gf45 s2 s4 s6 s8 s10 s12 s14 s16 s18 s20 s22 s24 s26 s28 s30 s32 s34 s36 s38 s40 s42 s44 s46 s48 s50 s52 s54 s56 s58 s60 s62 s64 s66 s68 s70 s72 s74 s76 s78 s80 s82 s84 s86 s88 s90)
noncomputable abbrev gf102(s0 s1 s2 s3 s4 s5 s6 s7 s8 s9 s10 s11 s12 s13 s14 s15 s16 s17 s18 s19 s20 s21 s22 s23 s24 s25 s26 s27 s28 s29 s30 s31 s32 s33 s34 s35 s36 s37 s38 s39 s40 s41 s42 s43 s44 s45 s46 s47 s48 s49 s50 s51 s52 s53 s54 s55 s56 s57 s58 s59 s60 s61 s62 s63 s64 s65 s66 s67 s68 s69 s70 s71 s72 s73 s74 s75 s76 s77 s78 s79 s80 s81 s82 s83 s84 s85 s86 s87 s88 s89 s90 s91 s92 s93 s94 s95 s96 s97 s98 s99 s100 s101:Value):Fr:=.nD (gf51 s1 s3 s5 s7 s9 s11 s13 s15 s17 s19 s21 s23 s25 s27 s29 s31 s33 s35 s37 s39 s41 s43 s45 s47 s49 s51 s53 s55 s57 s59 s61 s63 s65 s67 s69 s71 s73 s75 s77 s79 s81 s83 s85 s87 s89 s91 s93 s95 s97 s99 s101) s0 (gf50 s2 s4 s6 s8 s10 s12 s14 s16 s18 s20 s22 s24 s26 s28 s30 s32 s34 s36 s38 s40 s42 s44 s46 s48 s50 s52 s54 s56 s58 s60 s62 s64 s66 s68 s70 s72 s74 s76 s78 s80 s82 s84 s86 s88 s90 s92 s94 s96 s98 s100)
noncomputable abbrev gf104(s0 s1 s2 s3 s4 s5 s6 s7 s8 s9 s10 s11 s12 s13 s14 s15 s16 s17 s18 s19 s20 s21 s22 s23 s24 s25 s26 s27 s28 s29 s30 s31 s32 s33 s34 s35 s36 s37 s38 s39 s40 s41 s42 s43 s44 s45 s46 s47 s48 s49 s50 s51 s52 s53 s54 s55 s56 s57 s58 s59 s60 s61 s62 s63 s64 s65 s66 s67 s68 s69 s70 s71 s72 s73 s74 s75 s76 s77 s78 s79 s80 s81 s82 s83 s84 s85 s86 s87 s88 s89 s90 s91 s92 s93 s94 s95 s96 s97 s98 s99 s100 s101 s102 s103:Value):Fr:=.nD (gf52 s1 s3 s5 s7 s9 s11 s13 s15 s17 s19 s21 s23 s25 s27 s29 s31 s33 s35 s37 s39 s41 s43 s45 s47 s49 s51 s53 s55 s57 s59 s61 s63 s65 s67 s69 s71 s73 s75 s77 s79 s81 s83 s85 s87 s89 s91 s93 s95 s97 s99 s101 s103) s0 (gf51 s2 s4 s6 s8 s10 s12 s14 s16 s18 s20 s22 s24 s26 s28 s30 s32 s34 s36 s38 s40 s42 s44 s46 s48 s50 s52 s54 s56 s58 s60 s62 s64 s66 s68 s70 s72 s74 s76 s78 s80 s82 s84 s86 s88 s90 s92 s94 s96 s98 s100 s102)
noncomputable abbrev gf107(s0 s1 s2 s3 s4 s5 s6 s7 s8 s9 s10 s11 s12 s13 s14 s15 s16 s17 s18 s19 s20 s21 s22 s23 s24 s25 s26 s27 s28 s29 s30 s31 s32 s33 s34 s35 s36 s37 s38 s39 s40 s41 s42 s43 s44 s45 s46 s47 s48 s49 s50 s51 s52 s53 s54 s55 s56 s57 s58 s59 s60 s61 s62 s63 s64 s65 s66 s67 s68 s69 s70 s71 s72 s73 s74 s75 s76 s77 s78 s79 s80 s81 s82 s83 s84 s85 s86 s87 s88 s89 s90 s91 s92 s93 s94 s95 s96 s97 s98 s99 s100 s101 s102 s103 s104 s105 s106:Value):Fr:=.nD (gf53 s1 s3 s5 s7 s9 s11 s13 s15 s17 s19 s21 s23 s25 s27 s29 s31 s33 s35 s37 s39 s41 s43 s45 s47 s49 s51 s53 s55 s57 s59 s61 s63 s65 s67 s69 s71 s73 s75 s77 s79 s81 s83 s85 s87 s89 s91 s93 s95 s97 s99 s101 s103 s105) s0 (gf53 s2 s4 s6 s8 s10 s12 s14 s16 s18 s20 s22 s24 s26 s28 s30 s32 s34 s36 s38 s40 s42 s44 s46 s48 s50 s52 s54 s56 s58 s60 s62 s64 s66 s68 s70 s72 s74 s76 s78 s80 s82 s84 s86 s88 s90 s92 s94 s96 s98 s100 s102 s104 s106)
noncomputable abbrev gf108(s0 s1 s2 s3 s4 s5 s6 s7 s8 s9 s10 s11 s12 s13 s14 s15 s16 s17 s18 s19 s20 s21 s22 s23 s24 s25 s26 s27 s28 s29 s30 s31 s32 s33 s34 s35 s36 s37 s38 s39 s40 s41 s42 s43 s44 s45 s46 s47 s48 s49 s50 s51 s52 s53 s54 s55 s56 s57 s58 s59 s60 s61 s62 s63 s64 s65 s66 s67 s68 s69 s70 s71 s72 s73 s74 s75 s76 s77 s78 s79 s80 s81 s82 s83 s84 s85 s86 s87 s88 s89 s90 s91 s92 s93 s94 s95 s96 s97 s98 s99 s100 s101 s102 s103 s104 s105 s106 s107:Value):Fr:=.nD (gf54 s1 s3 s5 s7 s9 s11 s13 s15 s17 s19 s21 s23 s25 s27 s29 s31 s33 s35 s37 s39 s41 s43 s45 s47 s49 s51 s53 s55 s57 s59 s61 s63 s65 s67 s69 s71 s73 s75 s77 s79 s81 s83 s85 s87 s89 s91 s93 s95 s97 s99 s101 s103 s105 s107) s0 (gf53 s2 s4 s6 s8 s10 s12 s14 s16 s18 s20 s22 s24 s26 s28 s30 s32 s34 s36 s38 s40 s42 s44 s46 s48 s50 s52 s54 s56 s58 s60 s62 s64 s66 s68 s70 s72 s74 s76 s78 s80 s82 s84 s86 s88 s90 s92 s94 s96 s98 s100 s102 s104 s106)
noncomputable abbrev go5:Fr:=gf5 ud ud ud ud ud
noncomputable abbrev go9:Fr:=gf9 ud ud ud ud ud ud ud ud ud
noncomputable abbrev go11:Fr:=gf11 ud ud ud ud ud ud ud ud ud ud ud
noncomputable abbrev go14:Fr:=gf14 ud ud ud ud ud ud ud ud ud ud ud ud ud ud
noncomputable abbrev go21:Fr:=gf21 ud ud ud ud ud ud ud ud ud ud ud ud ud ud ud ud ud ud ud ud ud
noncomputable abbrev go22:Fr:=gf22 ud ud ud ud ud ud ud ud ud ud ud ud ud ud ud ud ud ud ud ud ud ud
noncomputable abbrev go26:Fr:=gf26 ud ud ud ud ud ud ud ud ud ud ud ud ud ud ud ud ud ud ud ud ud ud ud ud ud ud
noncomputable abbrev go37:Fr:=gf37 ud ud ud ud ud ud ud ud ud ud ud ud ud ud ud ud ud ud ud ud ud ud ud ud ud ud ud ud ud ud ud ud ud ud ud ud ud
noncomputable abbrev go74:Fr:=gf74 ud ud ud ud ud ud ud ud ud ud ud ud ud ud ud ud ud ud ud ud ud ud ud ud ud ud ud ud ud ud ud ud ud ud ud ud ud ud ud ud ud ud ud ud ud ud ud ud ud ud ud ud ud ud ud ud ud ud ud ud ud ud ud ud ud ud ud ud ud ud ud ud ud ud
noncomputable abbrev fo110(s2:Value):Fr:=gf21 ud ud s2 ud ud ud ud ud ud ud ud ud ud ud ud ud ud ud ud ud ud
noncomputable abbrev hint110:rD:=hq [(4,0,[(.int .u8)])]
noncomputable def F110:TY1:=fun L lp p0 df u h n k=>
 rtI .u8 p0 fun ap0=>
 fb (sQ 97 ap0) fun a1=>
 grd a1 (fun k2=>
 k2 h n (.int .u8 ap0)) (fun h3 n4 v5=>
 grd a1 (fun k6=>
 yB sQ P .leq 5 true v5 (.int .u8 122) fun Aa=>
 k6 h3 n4 (.bool Aa)) (fun h7 n8 v9=>
 rtB (sel a1 v9 (.bool false)) fun AB=>
 grd (nt AB) (fun Ac=>
 Ac h7 n8 (.int .u8 ap0)) (fun AJ AK Ad=>
 grd (nt AB) (fun Ae=>
 yB igeB P .geq 5 true Ad (.int .u8 65) fun Af=>
 Ae AJ AK (.bool Af)) (fun AL AM Ag=>
 grd (nt AB) (fun Ah=>
 Ah AL AM Ag) (fun AN AO AD=>
 grd (gv AD) (fun Ai=>
 Ai AN AO (.int .u8 ap0)) (fun AP AQ Aj=>
 grd (gv AD) (fun Ak=>
 yB sQ P .leq 5 true Aj (.int .u8 90) fun Al=>
 Ak AP AQ (.bool Al)) (fun AR AS Am=>
 grd (nt AB) (fun An=>
 wV AD (fun Ao=>
 rtB (sel Ao Am (.bool false)) fun Ap=>
 An AR AS (.bool Ap)) false) (fun AT AU Aq=>
 rtB (sel AB (.bool true) Aq) fun AE=>
 grd (nt AE) (fun Ar=>
 Ar AT AU (.int .u8 ap0)) (fun AV AW As=>
 grd (nt AE) (fun At=>
 yB xN P .eql 5 true As (.int .u8 95) fun Au=>
 At AV AW (.bool Au)) (fun Av Aw Ax=>
 rtB (sel AE (.bool true) Ax) fun Ay=>
 zJ P L 110 k .ret (fo110 (.bool Ay)) (W.mk [] u Av Aw)) AV AW) AT AU) AR AS) AP AQ) AN AO) AL AM) AJ AK) h7 n8) h3 n4) h n
theorem F110_eq:EY1 110 hint110 F110:=fun _ _ _ _ _ _ _ _=>by kernel_rfl
theorem l110:yU P 110=true:=by kernel_rfl
theorem r110:xW P 110=some [.tmp 2]:=by kernel_rfl
noncomputable abbrev fo111(s2:Value):Fr:=gf9 ud ud s2 ud ud ud ud ud ud
noncomputable abbrev hint111:rD:=hq [(4,0,[(.int .u8)])]
noncomputable def F111:TY1:=fun L lp p0 df u h n k=>
 rtI .u8 p0 fun ap0=>
 fb (sQ 48 ap0) fun a1=>
 grd a1 (fun k2=>
 k2 h n (.int .u8 ap0)) (fun h3 n4 v5=>
 grd a1 (fun k6=>
 yB sQ P .leq 5 true v5 (.int .u8 57) fun AH=>
 k6 h3 n4 (.bool AH)) (fun h7 n8 v9=>
 rtB (sel a1 v9 (.bool false)) fun AL=>
 zJ P L 111 k .ret (fo111 (.bool AL)) (W.mk [] u h7 n8)) h3 n4) h n
theorem F111_eq:EY1 111 hint111 F111:=fun _ _ _ _ _ _ _ _=>by kernel_rfl
theorem l111:yU P 111=true:=by kernel_rfl
theorem r111:xW P 111=some [.tmp 2]:=by kernel_rfl
noncomputable abbrev fo58(s2:Value):Fr:=gf35 ud ud s2 ud ud ud ud ud ud ud ud ud ud ud ud ud ud ud ud ud ud ud ud ud ud ud ud ud ud ud ud ud ud ud ud
noncomputable abbrev fj58_0(t:Fr)(s0 s2 s3 s18 s19 s20 s21 s22 s23 s24 s25 s26 s27 s28 s29 s30 s34:Value):Fr:=gf35 s0 (zA t 1) s2 s3 (zA t 4) (zA t 5) (zA t 6) (zA t 7) (zA t 8) (zA t 9) (zA t 10) (zA t 11) (zA t 12) (zA t 13) (zA t 14) (zA t 15) (zA t 16) (zA t 17) s18 s19 s20 s21 s22 s23 s24 s25 s26 s27 s28 s29 s30 (zA t 31) (zA t 32) (zA t 33) s34
noncomputable abbrev hint58:rD:=hq [(0,1000004,[.val,.any,.any,.any,.any,.any,.any,.any,.any,.any,.any,.any,.any,.any,.any,.any,.any,.any,(.int .i64),(.int .i64)]),(1,1,[.val,.any,.any,.any,.any,.any,.any,.any,.any,.any,.any,.any,.any,.any,.any,.any,.any,.any,(.int .i64),(.int .i64)]),(2,0,[.val,.any,.any,.any,.any,.any,.any,.any,.any,.any,.any,.any,.any,.any,.any,.any,.any,.any,(.int .i64),(.int .i64)]),(2,2,[.val]),(2,7,[.val,.any,.any,.any,.any,.any,.any,.any,.any,.any,.any,.any,.any,.any,.any,.any,.any,.any,(.int .i64),(.int .i64)])]
noncomputable def F58:TY1:=fun L lp p0 df u h n k=>
 yB xN P .eql 9 true p0 (.string (ByteArray.mk #[])) fun a1=>
 grd (nt a1) (fun k2=>
 k2 h n p0) (fun h3 n4 v5=>
 grd (nt a1) (fun k6=>
 opt (zX P .len [9] [v5] h3) fun Ab=>
 rtI .i64 Ab fun Ac=>
 k6 h3 n4 (.int .i64 Ac)) (fun h7 n8 v9=>
 grd (nt a1) (fun Ad=>
 yB igtB P .gtr 3 true v9 (.int .i64 20) fun Ae=>
 Ad h7 n8 (.bool Ae)) (fun AK AL AM=>
 rtB (sel a1 (.bool true) AM) fun AB=>
 grd (nt AB) (fun Af=>
 Af AK AL p0) (fun AN AO AP=>
 grd (nt AB) (fun Ag=>
 opt (rF P 9 AP (.int .i64 0)) fun Ah=>
 rtI .u8 Ah fun Aj=>
 Ag AN AO (.int .u8 Aj)) (fun AQ AR AS=>
 grd (nt AB) (fun Ak=>
 uL L 110 [AS] AQ AR (kp L 58 k (fo58 (.bool false)) [] u) fun Ao Ap Aq=>
 Ak Ap Aq (.bool Ao)) (fun AT AU AV=>
 grd (nt AB) (fun Ar=>
 opt (aUn .not AV) fun As=>
 rtB As fun At=>
 Ar AT AU (.bool At)) (fun AE AW AX=>
 rtB (sel AB (.bool true) AX) fun AY=>
 br AY (
 zJ P L 58 k .ret (fo58 (.bool false)) (W.mk [] u AE AW)) (
 opt (zX P .len [9] [p0] AE) fun Au=>
 rtI .i64 Au fun Av=>
 lp 1000004 ⟨58,none,df⟩ (gf35 p0 ud (vb false) ud p0 (vb a1) (vb a1) v5 v9 AM (vb AB) (vb AB) AP AS AV AX (vb AY) p0 (vi Av) (vi 0) ud ud ud ud ud ud ud ud ud ud ud ud ud ud ud) (W.mk [] u AE AW) (pH noK (pI 0 (fun AA Aw=>
 onW Aw fun Ax Ay Az A0=>
 zJ P L 58 k .ret (fj58_0 AA (zA AA 0) (vb true) (zA AA 3) (zA AA 18) (zA AA 19) (zA AA 20) (zA AA 21) (zA AA 22) (zA AA 23) (zA AA 24) (zA AA 25) (zA AA 26) (zA AA 27) (zA AA 28) (zA AA 29) (zA AA 30) (zA AA 34)) (W.mk Ax Ay Az A0)) (zJ P L 58 k))))) AT AU) AQ AR) AN AO) AK AL) h7 n8) h3 n4) h n
theorem F58_eq:EY1 58 hint58 F58:=fun _ _ _ _ _ _ _ _=>by kernel_rfl
noncomputable def B58_1000004:TYB:=fun L lp rd df t w ka=>
 zL (zA t 0) fun AD=>
 rtI .i64 (zA t 18) fun AF=>
 rtI .i64 (zA t 19) fun AA=>
 onW w fun AH AI AR AS=>
 fb (wB AA AF) fun AG=>
 br AG (
 pM (fun Ag=>
 opt (rF P 9 AD (.int .i64 AA)) fun Ah=>
 rtI .u8 Ah fun AJ=>
 uL L 110 [(.int .u8 AJ)] AR AS (kb ka (fj58_0 t AD (zA t 2) (vi AA) (vi AF) (vi AA) (vb AG) (vi AA) AD (vi AA) (.int .u8 AJ) (zA t 25) (zA t 26) (zA t 27) (zA t 28) (zA t 29) (zA t 30) (zA t 34)) AH AI) fun AK AT AU=>
 opt (aUn .not (.bool AK)) fun Al=>
 rtB Al fun AC=>
 grd AC (fun Am=>
 Am AT AU AD) (fun AV AW AL=>
 grd AC (fun An=>
 An AV AW (.int .i64 AA)) (fun AX AY AM=>
 grd AC (fun Ao=>
 opt (rF P 9 AL AM) fun Ap=>
 rtI .u8 Ap fun Aq=>
 Ao AX AY (.int .u8 Aq)) (fun AZ Aa AN=>
 grd AC (fun Ar=>
 uL L 111 [AN] AZ Aa (kb ka (fj58_0 t AD (zA t 2) (vi AA) (vi AF) (vi AA) (vb AG) (vi AA) AD (vi AA) (.int .u8 AJ) (vb AK) (vb AC) (vb AC) AL AM AN (zA t 34)) AH AI) fun Av Aw Ax=>
 Ar Aw Ax (.bool Av)) (fun Ab Ac AO=>
 grd AC (fun Ay=>
 opt (aUn .not AO) fun Az=>
 rtB Az fun A0=>
 Ay Ab Ac (.bool A0)) (fun Ad Ae AP=>
 rtB (sel AC AP (.bool false)) fun AQ=>
 br AQ (
 ka .ret (gf35 AD (zA t 1) (vb false) (vi AA) (zA t 4) (zA t 5) (zA t 6) (zA t 7) (zA t 8) (zA t 9) (zA t 10) (zA t 11) (zA t 12) (zA t 13) (zA t 14) (zA t 15) (zA t 16) (zA t 17) (vi AF) (vi AA) (vb AG) (vi AA) AD (vi AA) (.int .u8 AJ) (vb AK) (vb AC) (vb AC) AL AM AN AO AP (vb AQ) (zA t 34)) (W.mk AH AI Ad Ae)) (
 Ag (gf35 AD (zA t 1) (zA t 2) (vi AA) (zA t 4) (zA t 5) (zA t 6) (zA t 7) (zA t 8) (zA t 9) (zA t 10) (zA t 11) (zA t 12) (zA t 13) (zA t 14) (zA t 15) (zA t 16) (zA t 17) (vi AF) (vi AA) (vb AG) (vi AA) AD (vi AA) (.int .u8 AJ) (vb AK) (vb AC) (vb AC) AL AM AN AO AP (vb AQ) (zA t 34)) (W.mk AH AI Ad Ae))) Ab Ac) AZ Aa) AX AY) AV AW) AT AU) (fun AB A1=>
 zL (zA AB 0) fun A2=>
 rtI .i64 (zA AB 18) fun A3=>
 rtI .i64 (zA AB 19) fun A4=>
 onW A1 fun A5 A6 A7 A8=>
 fi (wH .i64 (uF A4 1)) fun Af=>
 lp 1000004 ⟨58,rd,df⟩ (fj58_0 AB A2 (zA AB 2) (zA AB 3) (vi A3) (vi Af) (zA AB 20) (zA AB 21) (zA AB 22) (zA AB 23) (zA AB 24) (zA AB 25) (zA AB 26) (zA AB 27) (zA AB 28) (zA AB 29) (zA AB 30) (vi Af)) (W.mk A5 A6 A7 A8) ka)) (
 ka (.exit 0) (fj58_0 t AD (zA t 2) (zA t 3) (vi AF) (vi AA) (vb AG) (zA t 21) (zA t 22) (zA t 23) (zA t 24) (zA t 25) (zA t 26) (zA t 27) (zA t 28) (zA t 29) (zA t 30) (zA t 34)) (W.mk AH AI AR AS))
theorem B58_1000004_eq:EYB 58 1000004 hint58 B58_1000004:=fun _ _ _ _ _ _ _=>by kernel_rfl
theorem l58:yU P 58=true:=by kernel_rfl
theorem r58:xW P 58=some [.tmp 2]:=by kernel_rfl
theorem lp58_1000004:vC (yZ P 58 1000004)=true:=by kernel_rfl
noncomputable abbrev fj178_0(t:Fr)(s0 s1 s4 s7 s8 s9 s18:Value):Fr:=gf19 s0 s1 (zA t 2) (zA t 3) s4 (zA t 5) (zA t 6) s7 s8 s9 (zA t 10) (zA t 11) (zA t 12) (zA t 13) (zA t 14) (zA t 15) (zA t 16) (zA t 17) s18
noncomputable abbrev hint178:rD:=hq [(0,1000002,[.val,.val,.any,.any,.any,.any,.any,(.int .i64),(.int .i64)]),(1,1,[.val,.val,.any,.any,.any,.any,.any,(.int .i64),(.int .i64)]),(2,0,[.val,.val,.any,.any,.any,.any,.any,(.int .i64),(.int .i64)]),(2,5,[.val,.val,.any,.any,.any,.any,.any,(.int .i64),(.int .i64)])]
noncomputable def F178:TY2:=fun L lp p0 p1 df u h n k=>
 opt (zX P .len [23] [p0] h) fun v1=>
 rtI .i64 v1 fun a2=>
 lp 1000002 ⟨178,none,df⟩ (gf19 p0 p1 ud ud (vi 0) ud p0 (vi a2) (vi 0) ud ud ud ud ud ud ud ud ud ud) (W.mk [] u h n) (pH noK (pI 0 (fun t3 w4=>
 onW w4 fun d5 u6 h7 n8=>
 zJ P L 178 k .ret (fj178_0 t3 (zA t3 0) (zA t3 1) (.int .i64 (-1)) (zA t3 7) (zA t3 8) (zA t3 9) (zA t3 18)) (W.mk d5 u6 h7 n8)) (zJ P L 178 k)))
theorem F178_eq:EY2 178 hint178 F178:=fun _ _ _ _ _ _ _ _ _=>by kernel_rfl
noncomputable def B178_1000002:TYB:=fun L lp rd df t w ka=>
 zL (zA t 0) fun s9=>
 zL (zA t 1) fun AD=>
 rtI .i64 (zA t 7) fun AE=>
 rtI .i64 (zA t 8) fun AA=>
 onW w fun AH AI AF AJ=>
 fb (wB AA AE) fun AG=>
 br AG (
 pM (fun AO=>
 opt (zR P 23 s9 (.int .i64 AA)) fun AK=>
 opt (zE P 9 AF AK) fun AL=>
 yB xN P .eql 9 false AD AL fun AM=>
 br AM (
 ka .ret (gf19 s9 AD (zA t 2) (zA t 3) (vi AA) (vi AA) (zA t 6) (vi AE) (vi AA) (vb AG) (vi AA) AD s9 (vi AA) AK AL (vb AM) (vi AA) (zA t 18)) (W.mk AH AI AF AJ)) (
 AO (gf19 s9 AD (zA t 2) (zA t 3) (zA t 4) (vi AA) (zA t 6) (vi AE) (vi AA) (vb AG) (vi AA) AD s9 (vi AA) AK AL (vb AM) (zA t 17) (zA t 18)) (W.mk AH AI AF AJ))) (fun AB AP=>
 zL (zA AB 0) fun AQ=>
 zL (zA AB 1) fun AR=>
 rtI .i64 (zA AB 7) fun AS=>
 rtI .i64 (zA AB 8) fun AT=>
 onW AP fun AU AV AW AX=>
 fi (wH .i64 (uF AT 1)) fun AN=>
 lp 1000002 ⟨178,rd,df⟩ (fj178_0 AB AQ AR (zA AB 4) (vi AS) (vi AN) (zA AB 9) (vi AN)) (W.mk AU AV AW AX) ka)) (
 ka (.exit 0) (fj178_0 t s9 AD (zA t 4) (vi AE) (vi AA) (vb AG) (zA t 18)) (W.mk AH AI AF AJ))
theorem B178_1000002_eq:EYB 178 1000002 hint178 B178_1000002:=fun _ _ _ _ _ _ _=>by kernel_rfl
theorem l178:yU P 178=true:=by kernel_rfl
theorem r178:xW P 178=some [.tmp 4]:=by kernel_rfl
theorem lp178_1000002:vC (yZ P 178 1000002)=true:=by kernel_rfl
noncomputable abbrev fo152(s4:Value):Fr:=gf9 ud ud ud ud s4 ud ud ud ud
noncomputable def F152:TY2:=fun L lp p0 p1 df u h n k=>
 pJ L .i64 178 [p0,p1] h n (kp L 152 k (fo152 (.bool false)) [] u) fun a1 h2 n3=>
 fb (sQ 0 a1) fun a7=>
 zJ P L 152 k .ret (fo152 (.bool a7)) (W.mk [] u h2 n3)
theorem F152_eq:EY2 152 hq0 F152:=fun _ _ _ _ _ _ _ _ _=>by kernel_rfl
theorem l152:yU P 152=true:=by kernel_rfl
theorem r152:xW P 152=some [.tmp 4]:=by kernel_rfl
noncomputable abbrev hint120:rD:=hq [(4,0,[.bool,(.int .i64)])]
noncomputable def F120:TY2:=fun L lp p0 p1 df u h n k=>
 rtB p0 fun ap0=>
 rtI .i64 p1 fun ap1=>
 opt (aUn .not (.bool ap0)) fun v1=>
 rtB v1 fun a2=>
 brJ a2 (fun k3=>
 opt (uZ P 191 [(0,(.int .i64 ap1))]) fun v5=>
 opt (qMakeIface P 191 v5) fun v6=>
 ePanic v6 h n fun c7 h8 n9=>
 zJ P L 120 k (.panic c7) go9 (W.mk [] u h8 n9)) (fun k4=>
 k4 (gf9 (vb ap0) (vi ap1) ud ud (vb ap0) (vb a2) ud ud ud) (W.mk [] u h n)) (fun AA AJ=>
 onW AJ fun AK AL AM AN=>
 zJ P L 120 k .ret (gf9 (zA AA 0) (zA AA 1) (zA AA 2) (zA AA 3) (zA AA 4) (zA AA 5) (zA AA 6) (zA AA 7) (zA AA 8)) (W.mk AK AL AM AN))
theorem F120_eq:EY2 120 hint120 F120:=fun _ _ _ _ _ _ _ _ _=>by kernel_rfl
theorem l120:yU P 120=true:=by kernel_rfl
theorem r120:xW P 120=some []:=by kernel_rfl
noncomputable abbrev fo154(s2:Value):Fr:=gf8 ud ud s2 ud ud ud ud ud
noncomputable def F154:TY1:=fun L lp p0 df u h n k=>
 opt (qY p0) fun v1=>
 opt (zB P 189 0 v1) fun v2=>
 opt (zE P 23 h v2) fun v3=>
 opt (zX P .len [23] [v3] h) fun v4=>
 rtI .i64 v4 fun a5=>
 zJ P L 154 k .ret (fo154 (.int .i64 a5)) (W.mk [] u h n)
theorem F154_eq:EY1 154 hq0 F154:=fun _ _ _ _ _ _ _ _=>by kernel_rfl
theorem l154:yU P 154=true:=by kernel_rfl
theorem r154:xW P 154=some [.tmp 2]:=by kernel_rfl
noncomputable abbrev fo156(s4:Value):Fr:=gf19 ud ud ud ud s4 ud ud ud ud ud ud ud ud ud ud ud ud ud ud
noncomputable abbrev hint156:rD:=hq [(2,2,[.val,(.int .i64)]),(4,0,[.any,(.int .i64)])]
noncomputable def F156:TY2:=fun L lp p0 p1 df u h n k=>
 rtI .i64 p1 fun ap1=>
 opt (qY p0) fun v1=>
 opt (zB P 189 0 v1) fun v2=>
 opt (zE P 23 h v2) fun v3=>
 opt (zX P .len [23] [v3] h) fun v4=>
 rtI .i64 v4 fun a5=>
 fb (sQ a5 ap1) fun a6=>
 br a6 (
 zJ P L 156 k .ret (fo156 (.string (ByteArray.mk #[]))) (W.mk [] u h n)) (
 opt (qY p0) fun v7=>
 opt (zB P 189 0 v7) fun v8=>
 opt (zE P 23 h v8) fun v9=>
 opt (zR P 23 v9 (.int .i64 ap1)) fun AJ=>
 opt (zE P 9 h AJ) fun AK=>
 zJ P L 156 k .ret (fo156 AK) (W.mk [] u h n))
theorem F156_eq:EY2 156 hint156 F156:=fun _ _ _ _ _ _ _ _ _=>by kernel_rfl
theorem l156:yU P 156=true:=by kernel_rfl
theorem r156:xW P 156=some [.tmp 4]:=by kernel_rfl
noncomputable abbrev fo153(s2:Value):Fr:=gf26 ud ud s2 ud ud ud ud ud ud ud ud ud ud ud ud ud ud ud ud ud ud ud ud ud ud ud
noncomputable def F153:TY1:=fun L lp p0 df u h n k=>
 opt (qY p0) fun v1=>
 opt (zB P 189 0 v1) fun v2=>
 opt (zE P 23 h v2) fun v3=>
 opt (zX P .len [23] [v3] h) fun v4=>
 rtI .i64 v4 fun a5=>
 fb (wB 0 a5) fun a6=>
 yO L 120 [(.bool a6),(.int .i64 3)] h n (fun AH AI AJ=>
 zJ P L 153 k (.panic AH) (fo153 (.string (ByteArray.mk #[]))) (W.mk [] u AI AJ)) fun a7 h8 n9=>
 opt (qY p0) fun AL=>
 opt (zB P 189 0 AL) fun AM=>
 opt (zE P 23 h8 AM) fun AN=>
 opt (zR P 23 AN (.int .i64 0)) fun AO=>
 opt (zE P 9 h8 AO) fun AP=>
 opt (qY p0) fun AQ=>
 opt (zB P 189 0 AQ) fun AR=>
 opt (zE P 23 h8 AR) fun AS=>
 opt (uJ P h8 23 AS (some (.int .i64 1)) none none) fun AT=>
 opt (qY p0) fun AU=>
 opt (zB P 189 0 AU) fun AV=>
 zW P 23 AV AT h8 n9 fun AW AX AZ=>
 zJ P L 153 k .ret (fo153 AP) (W.mk [] u AW AX)
theorem F153_eq:EY1 153 hq0 F153:=fun _ _ _ _ _ _ _ _=>by kernel_rfl
theorem l153:yU P 153=true:=by kernel_rfl
theorem r153:xW P 153=some [.tmp 2]:=by kernel_rfl
noncomputable def F116:TY2:=fun L lp p0 p1 df u h n k=>
 yO L 153 [p0] h n (kp L 116 k go9 [] u) fun a1 h2 n3=>
 yB xN P .eql 9 false a1 p1 fun a7=>
 yO L 120 [(.bool a7),(.int .i64 3)] h2 n3 (kp L 116 k go9 [] u) fun a8 h9 AL=>
 zJ P L 116 k .ret go9 (W.mk [] u h9 AL)
theorem F116_eq:EY2 116 hq0 F116:=fun _ _ _ _ _ _ _ _ _=>by kernel_rfl
theorem l116:yU P 116=true:=by kernel_rfl
theorem r116:xW P 116=some []:=by kernel_rfl
noncomputable abbrev fo117(s2:Value):Fr:=gf10 ud ud s2 ud ud ud ud ud ud ud
noncomputable def F117:TY1:=fun L lp p0 df u h n k=>
 yO L 153 [p0] h n (fun c4 h5 n6=>
 zJ P L 117 k (.panic c4) (fo117 (.string (ByteArray.mk #[]))) (W.mk [] u h5 n6)) fun a1 h2 n3=>
 uL L 58 [a1] h2 n3 (fun AG AH AI=>
 zJ P L 117 k (.panic AG) (fo117 (.string (ByteArray.mk #[]))) (W.mk [] u AH AI)) fun a7 h8 n9=>
 yO L 120 [(.bool a7),(.int .i64 3)] h8 n9 (fun AM AN AO=>
 zJ P L 117 k (.panic AM) (fo117 (.string (ByteArray.mk #[]))) (W.mk [] u AN AO)) fun AR AP AQ=>
 zJ P L 117 k .ret (fo117 a1) (W.mk [] u AP AQ)
theorem F117_eq:EY1 117 hq0 F117:=fun _ _ _ _ _ _ _ _=>by kernel_rfl
theorem l117:yU P 117=true:=by kernel_rfl
theorem r117:xW P 117=some [.tmp 2]:=by kernel_rfl
noncomputable abbrev fo155(s2:Value):Fr:=gf23 ud ud s2 ud ud ud ud ud ud ud ud ud ud ud ud ud ud ud ud ud ud ud ud
noncomputable def F155:TY1:=fun L lp p0 df u h n k=>
 yO L 153 [p0] h n (kp L 155 k (fo155 (.int .i64 0)) [] u) fun a1 h2 n3=>
 yO L 179 [a1] h2 n3 (kp L 155 k (fo155 (.int .i64 0)) [] u) fun a7 h8 n9=>
 opt (xO 0 a7) fun AU=>
 rtI .i64 AU fun AF=>
 opt (xO 1 a7) fun AV=>
 yB xN P .eql 99 true AV .nilIface fun AA=>
 grd AA (fun AW=>
 AW h8 n9 (.int .i64 AF)) (fun AG AH AX=>
 grd AA (fun AY=>
 yO L 81 [AX] AG AH (kp L 155 k (fo155 (.int .i64 0)) [] u) fun Ac Ad Ae=>
 AY Ad Ae Ac) (fun AI AJ Af=>
 grd AA (fun Ag=>
 Ag AI AJ a1) (fun AK AL Ah=>
 grd AA (fun Ai=>
 yB xN P .eql 9 false Af Ah fun Aj=>
 Ai AK AL (.bool Aj)) (fun Ak Al Am=>
 rtB (sel AA Am (.bool false)) fun An=>
 yO L 120 [(.bool An),(.int .i64 3)] Ak Al (kp L 155 k (fo155 (.int .i64 0)) [] u) fun At Ar As=>
 zJ P L 155 k .ret (fo155 (.int .i64 AF)) (W.mk [] u Ar As)) AK AL) AI AJ) AG AH) h8 n9
theorem F155_eq:EY1 155 hq0 F155:=fun _ _ _ _ _ _ _ _=>by kernel_rfl
theorem l155:yU P 155=true:=by kernel_rfl
theorem r155:xW P 155=some [.tmp 2]:=by kernel_rfl
noncomputable abbrev fo122(s2:Value):Fr:=gf14 ud ud s2 ud ud ud ud ud ud ud ud ud ud ud
noncomputable def F122:TY1:=fun L lp p0 df u h n k=>
 pJ L .i64 155 [p0] h n (kp L 122 k (fo122 (.int .i64 0)) [] u) fun a1 h2 n3=>
 fb (sQ 0 a1) fun a7=>
 grd a7 (fun k8=>
 k8 h2 n3 (.int .i64 a1)) (fun h9 AF AK=>
 grd a7 (fun AL=>
 yB sQ P .leq 3 true AK (.int .i64 99999) fun AM=>
 AL h9 AF (.bool AM)) (fun AN AO AP=>
 rtB (sel a7 AP (.bool false)) fun AQ=>
 yO L 120 [(.bool AQ),(.int .i64 3)] AN AO (kp L 122 k (fo122 (.int .i64 0)) [] u) fun AW AU AV=>
 zJ P L 122 k .ret (fo122 (.int .i64 a1)) (W.mk [] u AU AV)) h9 AF) h2 n3
theorem F122_eq:EY1 122 hq0 F122:=fun _ _ _ _ _ _ _ _=>by kernel_rfl
theorem l122:yU P 122=true:=by kernel_rfl
theorem r122:xW P 122=some [.tmp 2]:=by kernel_rfl
noncomputable def F118:TY1:=fun L lp p0 df u h n k=>
 opt (qY p0) fun v1=>
 opt (zB P 189 0 v1) fun v2=>
 opt (zE P 23 h v2) fun v3=>
 opt (zX P .len [23] [v3] h) fun v4=>
 rtI .i64 v4 fun a5=>
 fb (xN a5 0) fun a6=>
 yO L 120 [(.bool a6),(.int .i64 3)] h n (kp L 118 k go9 [] u) fun a7 h8 n9=>
 zJ P L 118 k .ret go9 (W.mk [] u h8 n9)
theorem F118_eq:EY1 118 hq0 F118:=fun _ _ _ _ _ _ _ _=>by kernel_rfl
theorem l118:yU P 118=true:=by kernel_rfl
theorem r118:xW P 118=some []:=by kernel_rfl
noncomputable abbrev fo114(s2:Value):Fr:=gf6 ud ud s2 ud ud ud
noncomputable def F114:TY1:=fun L lp p0 df u h n k=>
 zS P 23 4 [(0,(.string (ByteArray.mk #[99,111,110,115,116]))),(1,(.string (ByteArray.mk #[99,111,112,121]))),(2,(.string (ByteArray.mk #[108,111,97,100]))),(3,(.string (ByteArray.mk #[99,97,108,108])))] h n fun h1 n2 v3=>
 uL L 152 [v3,p0] h1 n2 (kp L 114 k (fo114 (.bool false)) [] u) fun a4 h5 n6=>
 zJ P L 114 k .ret (fo114 (.bool a4)) (W.mk [] u h5 n6)
theorem F114_eq:EY1 114 hq0 F114:=fun _ _ _ _ _ _ _ _=>by kernel_rfl
theorem l114:yU P 114=true:=by kernel_rfl
theorem r114:xW P 114=some [.tmp 2]:=by kernel_rfl
noncomputable abbrev fj59_0(t:Fr)(s2 s5 s6 s7 s8 s17:Value):Fr:=gf18 (zA t 0) (zA t 1) s2 (zA t 3) (zA t 4) s5 s6 s7 s8 (zA t 9) (zA t 10) (zA t 11) (zA t 12) (zA t 13) (zA t 14) (zA t 15) (zA t 16) s17
noncomputable abbrev hint59:rD:=hq [(0,1000002,[.any,.any,.any,.any,.any,.val,(.int .i64),(.int .i64)]),(1,1,[.any,.any,.any,.any,.any,.val,(.int .i64),(.int .i64)]),(2,0,[.any,.any,.any,.any,.any,.val,(.int .i64),(.int .i64)]),(2,5,[.any,.any,.any,.any,.any,.val,(.int .i64),(.int .i64)])]
noncomputable def F59:TY1:=fun L lp p0 df u h n k=>
 opt (zX P .len [40] [p0] h) fun v1=>
 rtI .i64 v1 fun a2=>
 lp 1000002 ⟨59,none,df⟩ (gf18 p0 ud (vb false) ud ud p0 (vi a2) (vi 0) ud ud ud ud ud ud ud ud ud ud) (W.mk [] u h n) (pH noK (pI 0 (fun t3 w4=>
 onW w4 fun d5 u6 h7 n8=>
 zJ P L 59 k .ret (fj59_0 t3 (vb true) (zA t3 5) (zA t3 6) (zA t3 7) (zA t3 8) (zA t3 17)) (W.mk d5 u6 h7 n8)) (zJ P L 59 k)))
theorem F59_eq:EY1 59 hint59 F59:=fun _ _ _ _ _ _ _ _=>by kernel_rfl
noncomputable def B59_1000002:TYB:=fun L lp rd df t w ka=>
 zL (zA t 5) fun s9=>
 rtI .i64 (zA t 6) fun AF=>
 rtI .i64 (zA t 7) fun AD=>
 onW w fun AI AJ AG AK=>
 fb (wB AD AF) fun AH=>
 br AH (
 pM (fun AU=>
 opt (zR P 40 s9 (.int .i64 AD)) fun AL=>
 opt (zE P 3 AG AL) fun AV=>
 rtI .i64 AV fun AA=>
 fb (wB AA 0) fun AB=>
 grd (nt AB) (fun AW=>
 AW AG AK (.int .i64 AA)) (fun AP AQ AM=>
 grd (nt AB) (fun AX=>
 yB igtB P .gtr 3 true AM (.int .i64 99999) fun AY=>
 AX AP AQ (.bool AY)) (fun AR AS AN=>
 rtB (sel AB (.bool true) AN) fun AO=>
 br AO (
 ka .ret (gf18 (zA t 0) (zA t 1) (vb false) (zA t 3) (vi AA) s9 (vi AF) (vi AD) (vb AH) AL (vi AA) (vi AA) (vb AB) (vb AB) AM AN (vb AO) (zA t 17)) (W.mk AI AJ AR AS)) (
 AU (gf18 (zA t 0) (zA t 1) (zA t 2) (zA t 3) (vi AA) s9 (vi AF) (vi AD) (vb AH) AL (vi AA) (vi AA) (vb AB) (vb AB) AM AN (vb AO) (zA t 17)) (W.mk AI AJ AR AS))) AP AQ) AG AK) (fun AC AZ=>
 zL (zA AC 5) fun Aa=>
 rtI .i64 (zA AC 6) fun Ab=>
 rtI .i64 (zA AC 7) fun Ac=>
 onW AZ fun Ad Ae Af Ag=>
 fi (wH .i64 (uF Ac 1)) fun AT=>
 lp 1000002 ⟨59,rd,df⟩ (fj59_0 AC (zA AC 2) Aa (vi Ab) (vi AT) (zA AC 8) (vi AT)) (W.mk Ad Ae Af Ag) ka)) (
 ka (.exit 0) (fj59_0 t (zA t 2) s9 (vi AF) (vi AD) (vb AH) (zA t 17)) (W.mk AI AJ AG AK))
theorem B59_1000002_eq:EYB 59 1000002 hint59 B59_1000002:=fun _ _ _ _ _ _ _=>by kernel_rfl
theorem l59:yU P 59=true:=by kernel_rfl
theorem r59:xW P 59=some [.tmp 2]:=by kernel_rfl
theorem lp59_1000002:vC (yZ P 59 1000002)=true:=by kernel_rfl
noncomputable abbrev fj55_0(t:Fr)(s2 s3 s6 s7 s8 s9 s17 s18:Value):Fr:=gf19 (zA t 0) (zA t 1) s2 s3 (zA t 4) (zA t 5) s6 s7 s8 s9 (zA t 10) (zA t 11) (zA t 12) (zA t 13) (zA t 14) (zA t 15) (zA t 16) s17 s18
noncomputable abbrev hint55:rD:=hq [(0,1000003,[.any,.any,.any,.val,.any,.any,.val,(.int .i64),(.int .i64)]),(1,0,[.any,.any,.any,.val]),(1,1,[.any,.any,.any,.val,.any,.any,.val,(.int .i64),(.int .i64)]),(2,0,[.any,.any,.any,.val,.any,.any,.val,(.int .i64),(.int .i64)])]
noncomputable def F55:TY1:=fun L lp p0 df u h n k=>
 opt (zX P .len [40] [p0] h) fun v1=>
 rtI .i64 v1 fun a2=>
 lp 1000003 ⟨55,none,df⟩ (gf19 p0 ud (.slice none 0 0) (.slice none 0 0) ud ud p0 (vi a2) (vi 0) ud ud ud ud ud ud ud ud ud ud) (W.mk [] u h n) (pH noK (pI 0 (fun t3 w4=>
 zL (zA t3 3) fun s5=>
 onW w4 fun d6 u7 h8 n9=>
 zJ P L 55 k .ret (fj55_0 t3 s5 s5 (zA t3 6) (zA t3 7) (zA t3 8) (zA t3 9) (zA t3 17) s5) (W.mk d6 u7 h8 n9)) (zJ P L 55 k)))
theorem F55_eq:EY1 55 hint55 F55:=fun _ _ _ _ _ _ _ _=>by kernel_rfl
noncomputable def B55_1000003:TYB:=fun L lp rd df t w ka=>
 zL (zA t 3) fun AC=>
 zL (zA t 6) fun AE=>
 rtI .i64 (zA t 7) fun AF=>
 rtI .i64 (zA t 8) fun AD=>
 onW w fun AH AI AJ AL=>
 fb (wB AD AF) fun AG=>
 br AG (
 pM (fun AQ=>
 opt (zR P 40 AE (.int .i64 AD)) fun AK=>
 opt (zE P 3 AJ AK) fun AR=>
 rtI .i64 AR fun AB=>
 yO L 81 [(.int .i64 AB)] AJ AL (kb ka (gf19 (zA t 0) (zA t 1) (zA t 2) AC (zA t 4) (vi AB) AE (vi AF) (vi AD) (vb AG) AK (vi AB) AC (vi AB) (zA t 14) (zA t 15) (zA t 16) (zA t 17) (zA t 18)) AH AI) fun AM AV AW=>
 zS P 23 1 [(0,AM)] AV AW fun AX AY AN=>
 wD P [23,23] [AC,AN] AX AY fun AZ Aa AO=>
 AQ (gf19 (zA t 0) (zA t 1) (zA t 2) AO (zA t 4) (vi AB) AE (vi AF) (vi AD) (vb AG) AK (vi AB) AC (vi AB) AM AN AO (zA t 17) (zA t 18)) (W.mk AH AI AZ Aa)) (fun AA Ab=>
 zL (zA AA 3) fun Ac=>
 zL (zA AA 6) fun Ad=>
 rtI .i64 (zA AA 7) fun Ae=>
 rtI .i64 (zA AA 8) fun Af=>
 onW Ab fun Ag Ah Ai Aj=>
 fi (wH .i64 (uF Af 1)) fun AP=>
 lp 1000003 ⟨55,rd,df⟩ (fj55_0 AA (zA AA 2) Ac Ad (vi Ae) (vi AP) (zA AA 9) (vi AP) (zA AA 18)) (W.mk Ag Ah Ai Aj) ka)) (
 ka (.exit 0) (fj55_0 t (zA t 2) AC AE (vi AF) (vi AD) (vb AG) (zA t 17) (zA t 18)) (W.mk AH AI AJ AL))
theorem B55_1000003_eq:EYB 55 1000003 hint55 B55_1000003:=fun _ _ _ _ _ _ _=>by kernel_rfl
theorem l55:yU P 55=true:=by kernel_rfl
theorem r55:xW P 55=some [.tmp 2]:=by kernel_rfl
theorem lp55_1000003:vC (yZ P 55 1000003)=true:=by kernel_rfl
noncomputable abbrev fo112(s2:Value):Fr:=gf47 ud ud s2 ud ud ud ud ud ud ud ud ud ud ud ud ud ud ud ud ud ud ud ud ud ud ud ud ud ud ud ud ud ud ud ud ud ud ud ud ud ud ud ud ud ud ud ud
noncomputable def F112:TY1:=fun L lp p0 df u h n k=>
 eBox p0 h n fun h1 n2 v3=>
 opt (zB P 50 0 v3) fun v4=>
 opt (zE P 3 h1 v4) fun v5=>
 rtI .i64 v5 fun a6=>
 fb (xN a6 0) fun a7=>
 grd a7 (fun k8=>
 opt (zB P 50 1 v3) fun BB=>
 k8 h1 n2 BB) (fun h9 AU BC=>
 grd a7 (fun BD=>
 opt (zE P 3 h9 BC) fun BE=>
 rtI .i64 BE fun BF=>
 BD h9 AU (.int .i64 BF)) (fun AV AW BG=>
 grd a7 (fun BH=>
 yB xN P .eql 3 true BG (.int .i64 0) fun BI=>
 BH AV AW (.bool BI)) (fun AX AY BJ=>
 rtB (sel a7 BJ (.bool false)) fun AD=>
 grd AD (fun BK=>
 opt (zB P 50 2 v3) fun BL=>
 BK AX AY BL) (fun AL AZ BM=>
 grd AD (fun BN=>
 opt (zE P 3 AL BM) fun BO=>
 rtI .i64 BO fun BP=>
 BN AL AZ (.int .i64 BP)) (fun Aa Ab BQ=>
 grd AD (fun BR=>
 yB xN P .eql 3 true BQ (.int .i64 0) fun BS=>
 BR Aa Ab (.bool BS)) (fun Ac Ad BT=>
 rtB (sel AD BT (.bool false)) fun AE=>
 grd AE (fun BU=>
 opt (zB P 50 3 v3) fun BV=>
 BU Ac Ad BV) (fun AM Ae BW=>
 grd AE (fun BX=>
 opt (zE P 3 AM BW) fun BY=>
 rtI .i64 BY fun BZ=>
 BX AM Ae (.int .i64 BZ)) (fun Af Ag Ba=>
 grd AE (fun Bb=>
 yB xN P .eql 3 true Ba (.int .i64 0) fun Bc=>
 Bb Af Ag (.bool Bc)) (fun Ah Ai Bd=>
 rtB (sel AE Bd (.bool false)) fun AF=>
 grd AF (fun Be=>
 opt (zB P 50 4 v3) fun Bf=>
 Be Ah Ai Bf) (fun AN Aj Bg=>
 grd AF (fun Bh=>
 opt (zE P 3 AN Bg) fun Bi=>
 rtI .i64 Bi fun Bj=>
 Bh AN Aj (.int .i64 Bj)) (fun Ak Al Bk=>
 grd AF (fun Bl=>
 yB xN P .eql 3 true Bk (.int .i64 0) fun Bm=>
 Bl Ak Al (.bool Bm)) (fun Am An Bn=>
 rtB (sel AF Bn (.bool false)) fun AG=>
 grd AG (fun Bo=>
 opt (zB P 50 5 v3) fun Bp=>
 Bo Am An Bp) (fun AO Ao Bq=>
 grd AG (fun Br=>
 opt (zE P 9 AO Bq) fun Bs=>
 Br AO Ao Bs) (fun Ap Aq Bt=>
 grd AG (fun Bu=>
 yB xN P .eql 9 true Bt (.string (ByteArray.mk #[])) fun Bv=>
 Bu Ap Aq (.bool Bv)) (fun Ar As Bw=>
 rtB (sel AG Bw (.bool false)) fun AB=>
 grd AB (fun Bx=>
 opt (zB P 50 6 v3) fun By=>
 Bx Ar As By) (fun AP At Bz=>
 grd AB (fun B0=>
 opt (zE P 40 AP Bz) fun B1=>
 B0 AP At B1) (fun AQ Au B2=>
 grd AB (fun B3=>
 opt (zX P .len [40] [B2] AQ) fun B4=>
 rtI .i64 B4 fun B5=>
 B3 AQ Au (.int .i64 B5)) (fun Av Aw B6=>
 grd AB (fun B7=>
 yB xN P .eql 3 true B6 (.int .i64 0) fun B8=>
 B7 Av Aw (.bool B8)) (fun Ax Ay B9=>
 rtB (sel AB B9 (.bool false)) fun AH=>
 grd AH (fun CA=>
 opt (zB P 50 7 v3) fun CB=>
 CA Ax Ay CB) (fun AR Az CC=>
 grd AH (fun CD=>
 opt (zE P 3 AR CC) fun CE=>
 rtI .i64 CE fun CF=>
 CD AR Az (.int .i64 CF)) (fun A0 A1 CG=>
 grd AH (fun CH=>
 yB xN P .eql 3 true CG (.int .i64 0) fun CI=>
 CH A0 A1 (.bool CI)) (fun A2 A3 CJ=>
 rtB (sel AH CJ (.bool false)) fun AI=>
 grd AI (fun CK=>
 opt (zB P 50 8 v3) fun CL=>
 CK A2 A3 CL) (fun AS A4 CM=>
 grd AI (fun CN=>
 opt (zE P 3 AS CM) fun CO=>
 rtI .i64 CO fun CP=>
 CN AS A4 (.int .i64 CP)) (fun A5 A6 CQ=>
 grd AI (fun CR=>
 yB xN P .eql 3 true CQ (.int .i64 0) fun CS=>
 CR A5 A6 (.bool CS)) (fun CT CU CV=>
 rtB (sel AI CV (.bool false)) fun CW=>
 zJ P L 112 k .ret (fo112 (.bool CW)) (W.mk [] u CT CU)) A5 A6) AS A4) A2 A3) A0 A1) AR Az) Ax Ay) Av Aw) AQ Au) AP At) Ar As) Ap Aq) AO Ao) Am An) Ak Al) AN Aj) Ah Ai) Af Ag) AM Ae) Ac Ad) Aa Ab) AL AZ) AX AY) AV AW) h9 AU) h1 n2
theorem F112_eq:EY1 112 hq0 F112:=fun _ _ _ _ _ _ _ _=>by kernel_rfl
theorem l112:yU P 112=true:=by kernel_rfl
theorem r112:xW P 112=some [.tmp 2]:=by kernel_rfl
noncomputable abbrev fj113_2(t:Fr)(s1 s2 s7 s12 s17 s18 s19 s23 s24 s25 s26 s27 s28 s29 s30 s31 s32 s33 s34 s35 s36 s37:Value):Fr:=gf39 (zA t 0) s1 s2 (zA t 3) (zA t 4) (zA t 5) (zA t 6) s7 (zA t 8) (zA t 9) (zA t 10) (zA t 11) s12 (zA t 13) (zA t 14) (zA t 15) (zA t 16) s17 s18 s19 (zA t 20) (zA t 21) (zA t 22) s23 s24 s25 s26 s27 s28 s29 s30 s31 s32 s33 s34 s35 s36 s37 (zA t 38)
noncomputable abbrev fj113_0(t:Fr)(s1 s2 s7 s12 s15 s16 s17 s18 s20 s21 s22 s38:Value):Fr:=gf39 (zA t 0) s1 s2 (zA t 3) (zA t 4) (zA t 5) (zA t 6) s7 (zA t 8) (zA t 9) (zA t 10) (zA t 11) s12 (zA t 13) (zA t 14) s15 s16 s17 s18 (zA t 19) s20 s21 s22 (zA t 23) (zA t 24) (zA t 25) (zA t 26) (zA t 27) (zA t 28) (zA t 29) (zA t 30) (zA t 31) (zA t 32) (zA t 33) (zA t 34) (zA t 35) (zA t 36) (zA t 37) s38
noncomputable abbrev fj113_1(t:Fr)(s1 s2:Value):Fr:=fj113_0 t s1 s2 (zA t 7) (zA t 12) (zA t 15) (zA t 16) (zA t 17) (zA t 18) (zA t 20) (zA t 21) (zA t 22) (zA t 38)
noncomputable abbrev hint113:rD:=hq [(1,0,[.any,.val,.val]),(2,5,[.any,.val,.val]),(2,7,[.any,.val,.val,.any,.any,.any,.any,(.int .i64),.any,.any,.any,.any,.bool]),(2,8,[.any,.val,.val]),(2,10,[.any,.val,.val,.any,.any,.any,.any,(.int .i64),.any,.any,.any,.any,.any,.any,.any,.any,.any,.bool]),(2,11,[.any,.val,.val]),(2,13,[.any,.val,.val]),(2,15,[.any,.val,.val]),(2,17,[.any,.val,.val]),(2,19,[.any,.val,.val])]
noncomputable def F113:TY1:=fun L lp p0 df u h n k=>
 eBox p0 h n fun h1 n2 v3=>
 tZ P 50 h1 n2 fun h4 n5 v6=>
 opt (zB P 50 0 v3) fun v7=>
 opt (zE P 3 h4 v7) fun v8=>
 rtI .i64 v8 fun a9=>
 opt (zB P 50 0 v3) fun AV=>
 zW P 3 AV (.int .i64 0) h4 n5 fun Aa Ab Ct=>
 pM (fun BD=>
 fb (xN a9 1) fun AJ=>
 brJ AJ (fun BE=>
 opt (zB P 50 1 v3) fun Ap=>
 zW P 3 Ap (.int .i64 0) Aa Ab fun BF BG Cu=>
 opt (zB P 50 4 v3) fun Aq=>
 zW P 3 Aq (.int .i64 0) BF BG fun BH BI Cv=>
 BE (gf39 p0 v3 v6 (vi a9) v7 (vi a9) AV (vi a9) (vb AJ) (vb AJ) Ap Aq ud ud ud ud ud ud ud ud ud ud ud ud ud ud ud ud ud ud ud ud ud ud ud ud ud ud ud) (W.mk [] u BH BI)) (fun BJ=>
 fb (xN a9 2) fun AW=>
 brJ AW (fun BK=>
 BK (gf39 p0 v3 v6 (vi a9) v7 (vi a9) AV (vi a9) (vb AJ) (vb AJ) ud ud (vb AW) (vb AW) ud ud ud ud ud ud ud ud ud ud ud ud ud ud ud ud ud ud ud ud ud ud ud ud ud) (W.mk [] u Aa Ab)) (fun BL=>
 fb (xN a9 4) fun Ar=>
 BL (gf39 p0 v3 v6 (vi a9) v7 (vi a9) AV (vi a9) (vb AJ) (vb AJ) ud ud (vb Ar) (vb AW) (vb Ar) ud ud ud ud ud ud ud ud ud ud ud ud ud ud ud ud ud ud ud ud ud ud ud ud) (W.mk [] u Aa Ab)) (fun AB BM=>
 zL (zA AB 1) fun AR=>
 zL (zA AB 2) fun Ac=>
 rtI .i64 (zA AB 7) fun AS=>
 rtB (zA AB 12) fun AX=>
 onW BM fun Ad Ae Af Ag=>
 brJ AX (fun BN=>
 opt (zB P 50 1 AR) fun As=>
 zW P 3 As (.int .i64 0) Af Ag fun BO BP Cw=>
 opt (zB P 50 2 AR) fun At=>
 zW P 3 At (.int .i64 0) BO BP fun BQ BR Cx=>
 BN (fj113_0 AB AR Ac (vi AS) (vb AX) As At (zA AB 17) (zA AB 18) (zA AB 20) (zA AB 21) (zA AB 22) (zA AB 38)) (W.mk Ad Ae BQ BR)) (fun BS=>
 fb (xN AS 3) fun AY=>
 brJ AY (fun BT=>
 BT (fj113_0 AB AR Ac (vi AS) (vb AX) (zA AB 15) (zA AB 16) (vb AY) (vb AY) (zA AB 20) (zA AB 21) (zA AB 22) (zA AB 38)) (W.mk Ad Ae Af Ag)) (fun BU=>
 fb (xN AS 6) fun Au=>
 BU (fj113_2 AB AR Ac (vi AS) (vb AX) (vb Au) (vb AY) (vb Au) (zA AB 23) (zA AB 24) (zA AB 25) (zA AB 26) (zA AB 27) (zA AB 28) (zA AB 29) (zA AB 30) (zA AB 31) (zA AB 32) (zA AB 33) (zA AB 34) (zA AB 35) (zA AB 36) (zA AB 37)) (W.mk Ad Ae Af Ag)) (fun AA BV=>
 zL (zA AA 1) fun AC=>
 zL (zA AA 2) fun AM=>
 rtI .i64 (zA AA 7) fun AG=>
 rtB (zA AA 17) fun AK=>
 onW BV fun AN AO AP AQ=>
 brJ AK (fun BW=>
 opt (zB P 50 1 AC) fun Av=>
 zW P 3 Av (.int .i64 0) AP AQ fun BX BY Cy=>
 opt (zB P 50 5 AC) fun Aw=>
 zW P 9 Aw (.string (ByteArray.mk #[])) BX BY fun BZ Ba Cz=>
 opt (zB P 50 6 AC) fun Ax=>
 zW P 40 Ax (.slice none 0 0) BZ Ba fun Bb Bc C0=>
 BW (fj113_0 AA AC AM (vi AG) (zA AA 12) (zA AA 15) (zA AA 16) (vb AK) (zA AA 18) Av Aw Ax (zA AA 38)) (W.mk AN AO Bb Bc)) (fun Bd=>
 fb (xN AG 5) fun AF=>
 brJ AF (fun Be=>
 opt (zB P 50 2 AC) fun Ay=>
 zW P 3 Ay (.int .i64 0) AP AQ fun Bf Bg C1=>
 opt (zB P 50 3 AC) fun Az=>
 zW P 3 Az (.int .i64 0) Bf Bg fun Bh Bi C2=>
 Be (fj113_2 AA AC AM (vi AG) (zA AA 12) (vb AK) (zA AA 18) (zA AA 19) (vb AF) (vb AF) Ay Az (zA AA 27) (zA AA 28) (zA AA 29) (zA AA 30) (zA AA 31) (zA AA 32) (zA AA 33) (zA AA 34) (zA AA 35) (zA AA 36) (zA AA 37)) (W.mk AN AO Bh Bi)) (fun Bj=>
 fb (xN AG 7) fun AH=>
 brJ AH (fun Bk=>
 opt (zB P 50 2 AC) fun A0=>
 zW P 3 A0 (.int .i64 0) AP AQ fun Bl Bm C3=>
 opt (zB P 50 7 AC) fun A1=>
 zW P 3 A1 (.int .i64 0) Bl Bm fun Bn Bo C4=>
 opt (zB P 50 8 AC) fun A2=>
 zW P 3 A2 (.int .i64 0) Bn Bo fun Bp Bq C5=>
 Bk (fj113_2 AA AC AM (vi AG) (zA AA 12) (vb AK) (zA AA 18) (zA AA 19) (vb AF) (vb AF) (zA AA 25) (zA AA 26) (vb AH) (vb AH) A0 A1 A2 (zA AA 32) (zA AA 33) (zA AA 34) (zA AA 35) (zA AA 36) (zA AA 37)) (W.mk AN AO Bp Bq)) (fun Br=>
 fb (xN AG 8) fun AL=>
 brJ AL (fun Bs=>
 opt (zB P 50 7 AC) fun A3=>
 zW P 3 A3 (.int .i64 0) AP AQ fun Bt Bu C6=>
 Bs (fj113_2 AA AC AM (vi AG) (zA AA 12) (vb AK) (zA AA 18) (zA AA 19) (vb AF) (vb AF) (zA AA 25) (zA AA 26) (vb AH) (vb AH) (zA AA 29) (zA AA 30) (zA AA 31) (vb AL) (vb AL) A3 (zA AA 35) (zA AA 36) (zA AA 37)) (W.mk AN AO Bt Bu)) (fun Bv=>
 fb (xN AG 9) fun AT=>
 brJ AT (fun Bw=>
 opt (zB P 50 2 AC) fun A4=>
 zW P 3 A4 (.int .i64 0) AP AQ fun Bx By C7=>
 Bw (fj113_2 AA AC AM (vi AG) (zA AA 12) (vb AK) (zA AA 18) (zA AA 19) (vb AF) (vb AF) (zA AA 25) (zA AA 26) (vb AH) (vb AH) (zA AA 29) (zA AA 30) (zA AA 31) (vb AL) (vb AL) (zA AA 34) (vb AT) (vb AT) A4) (W.mk AN AO Bx By)) (fun Bz=>
 Bz (fj113_2 AA AC AM (vi AG) (zA AA 12) (vb AK) (zA AA 18) (zA AA 19) (vb AF) (vb AF) (zA AA 25) (zA AA 26) (vb AH) (vb AH) (zA AA 29) (zA AA 30) (zA AA 31) (vb AL) (vb AL) (zA AA 34) (vb AT) (vb AT) (zA AA 37)) (W.mk AN AO AP AQ)) (fun Ah B0=>
 zL (zA Ah 1) fun B1=>
 zL (zA Ah 2) fun B2=>
 onW B0 fun B3 B4 B5 B6=>
 Bv (fj113_1 Ah B1 B2) (W.mk B3 B4 B5 B6))) (fun Ai B7=>
 zL (zA Ai 1) fun B8=>
 zL (zA Ai 2) fun B9=>
 onW B7 fun CA CB CC CD=>
 Br (fj113_1 Ai B8 B9) (W.mk CA CB CC CD))) (fun Aj CE=>
 zL (zA Aj 1) fun CF=>
 zL (zA Aj 2) fun CG=>
 onW CE fun CH CI CJ CK=>
 Bj (fj113_1 Aj CF CG) (W.mk CH CI CJ CK))) (fun Ak CL=>
 zL (zA Ak 1) fun CM=>
 zL (zA Ak 2) fun CN=>
 onW CL fun CO CP CQ CR=>
 Bd (fj113_1 Ak CM CN) (W.mk CO CP CQ CR))) (fun Al CS=>
 zL (zA Al 1) fun CT=>
 zL (zA Al 2) fun CU=>
 onW CS fun CV CW CX CY=>
 BS (fj113_1 Al CT CU) (W.mk CV CW CX CY)))) (fun Am CZ=>
 zL (zA Am 1) fun Ca=>
 zL (zA Am 2) fun Cb=>
 onW CZ fun Cc Cd Ce Cf=>
 BJ (fj113_1 Am Ca Cb) (W.mk Cc Cd Ce Cf)))) (fun An Cg=>
 zL (zA An 1) fun Ch=>
 zL (zA An 2) fun Ci=>
 onW Cg fun Cj Ck Cl Cm=>
 BD (fj113_1 An Ch Ci) (W.mk Cj Ck Cl Cm))) (fun AE Cn=>
 zL (zA AE 1) fun A5=>
 zL (zA AE 2) fun A6=>
 onW Cn fun Co Cp A7 Cq=>
 opt (zE P 50 A7 A5) fun A8=>
 zW P 50 A6 A8 A7 Cq fun Cr Cs C8=>
 zJ P L 113 k .ret (fj113_0 AE A5 A6 (zA AE 7) (zA AE 12) (zA AE 15) (zA AE 16) (zA AE 17) (zA AE 18) (zA AE 20) (zA AE 21) (zA AE 22) A8) (W.mk Co Cp Cr Cs))
theorem F113_eq:EY1 113 hint113 F113:=fun _ _ _ _ _ _ _ _=>by kernel_rfl
theorem l113:yU P 113=true:=by kernel_rfl
theorem r113:xW P 113=some [.cell 2 50]:=by kernel_rfl
noncomputable def F52:TY3:=fun L lp p0 p1 p2 df u h n k=>
 yO L 54 [p1,(.string (ByteArray.mk #[32]))] h n (kp L 52 k go11 [] u) fun a1 h2 n3=>
 xY uF P .add 9 false p0 a1 fun v7=>
 xY uF P .add 9 true v7 (.string (ByteArray.mk #[10])) fun v8=>
 yO L 53 [p2,v8] h2 n3 (kp L 52 k go11 [] u) fun a9 AL AM=>
 zJ P L 52 k .ret go11 (W.mk [] u AL AM)
theorem F52_eq:EY3 52 hq0 F52:=fun _ _ _ _ _ _ _ _ _ _=>by kernel_rfl
theorem l52:yU P 52=true:=by kernel_rfl
theorem r52:xW P 52=some []:=by kernel_rfl
noncomputable abbrev fo53(s4 s5:Value):Fr:=gf19 ud ud ud ud s4 s5 ud ud ud ud ud ud ud ud ud ud ud ud ud
noncomputable def F53:TY2:=fun L lp p0 p1 df u h n k=>
 yO L 108 [p0] h n (kp L 53 k (fo53 (.int .i64 0) .nilIface) [] u) fun a1 h2 n3=>
 opt (qY p0) fun v7=>
 opt (zB P 97 1 v7) fun v8=>
 opt (zE P 95 h2 v8) fun v9=>
 wD P [95,9] [v9,p1] h2 n3 fun AJ AK AL=>
 opt (qY p0) fun AM=>
 opt (zB P 97 1 AM) fun AN=>
 zW P 95 AN AL AJ AK fun AB AO AS=>
 opt (zX P .len [9] [p1] AB) fun AP=>
 rtI .i64 AP fun AQ=>
 zJ P L 53 k .ret (fo53 (.int .i64 AQ) .nilIface) (W.mk [] u AB AO)
theorem F53_eq:EY2 53 hq0 F53:=fun _ _ _ _ _ _ _ _ _=>by kernel_rfl
theorem l53:yU P 53=true:=by kernel_rfl
theorem r53:xW P 53=some [.tmp 4,.tmp 5]:=by kernel_rfl
noncomputable abbrev fo162(s4:Value):Fr:=gf40 ud ud ud ud s4 ud ud ud ud ud ud ud ud ud ud ud ud ud ud ud ud ud ud ud ud ud ud ud ud ud ud ud ud ud ud ud ud ud ud ud
noncomputable abbrev fj162_0(t:Fr)(s4 s7 s9 s29 s30 s31 s32 s33 s34 s35 s36 s37 s38 s39:Value):Fr:=gf40 (zA t 0) (zA t 1) (zA t 2) (zA t 3) s4 (zA t 5) (zA t 6) s7 (zA t 8) s9 (zA t 10) (zA t 11) (zA t 12) (zA t 13) (zA t 14) (zA t 15) (zA t 16) (zA t 17) (zA t 18) (zA t 19) (zA t 20) (zA t 21) (zA t 22) (zA t 23) (zA t 24) (zA t 25) (zA t 26) (zA t 27) (zA t 28) s29 s30 s31 s32 s33 s34 s35 s36 s37 s38 s39
noncomputable abbrev hint162:rD:=hq [(0,1000005,[.any,.any,.any,.any,.any,.any,.any,.val,.any,.any,.any,.any,.any,.any,.any,.any,.any,.any,.any,.any,.any,.any,.any,.any,.any,.any,.any,.any,.any,.val,(.int .i64),(.int .i64)]),(1,0,[.any,.any,.any,.any,.any,.any,.any,.val]),(1,1,[.any,.any,.any,.any,.any,.any,.any,.val,.any,.any,.any,.any,.any,.any,.any,.any,.any,.any,.any,.any,.any,.any,.any,.any,.any,.any,.any,.any,.any,.val,(.int .i64),(.int .i64)]),(2,0,[.any,.any,.any,.any,.any,.any,.any,.val,.any,.any,.any,.any,.any,.any,.any,.any,.any,.any,.any,.any,.any,.any,.any,.any,.any,.any,.any,.any,.any,.val,(.int .i64),(.int .i64)])]
noncomputable def F162:TY2:=fun L lp p0 p1 df u h n k=>
 yO L 181 [p0,p1] h n (kp L 162 k (fo162 (.pointer none)) [] u) fun a1 h2 n3=>
 opt (xO 0 a1) fun v7=>
 opt (xO 1 a1) fun v8=>
 rtB v8 fun a9=>
 grd a9 (fun AX=>
 AX h2 n3 v7) (fun AJ AK AL=>
 grd a9 (fun AY=>
 yB pW P .neq 9 true AL (.string (ByteArray.mk #[])) fun AZ=>
 AY AJ AK (.bool AZ)) (fun Aa Ab AM=>
 rtB (sel a9 AM (.bool false)) fun AN=>
 yO L 120 [(.bool AN),(.int .i64 3)] Aa Ab (kp L 162 k (fo162 (.pointer none)) [] u) fun Af Ag Ah=>
 yO L 182 [v7,(.string (ByteArray.mk #[32]))] Ag Ah (kp L 162 k (fo162 (.pointer none)) [] u) fun AO Al Am=>
 opt (uZ P 189 [(0,AO)]) fun AP=>
 eBox AP Al Am fun AF An AE=>
 opt (qY AE) fun AQ=>
 opt (zB P 189 0 AQ) fun AR=>
 opt (zE P 23 AF AR) fun AS=>
 opt (zX P .len [23] [AS] AF) fun Ao=>
 rtI .i64 Ao fun Ap=>
 lp 1000005 ⟨162,none,df⟩ (gf40 p0 p1 ud ud (.pointer none) v7 (vb a9) AE ud ud a1 p0 p1 a1 v7 (vb a9) (vb a9) (vb a9) AL AM (vb AN) Af v7 AO AP AE AE AQ AR AS (vi Ap) (vi 0) ud ud ud ud ud ud ud ud) (W.mk [] u AF An) (pH noK (pI 0 (fun AA Aq=>
 zL (zA AA 7) fun AG=>
 onW Aq fun Ar As At Au=>
 zJ P L 162 k .ret (fj162_0 AA AG AG (zA AA 9) (zA AA 29) (zA AA 30) (zA AA 31) (zA AA 32) (zA AA 33) (zA AA 34) (zA AA 35) (zA AA 36) (zA AA 37) (zA AA 38) AG) (W.mk Ar As At Au)) (zJ P L 162 k)))) AJ AK) h2 n3
theorem F162_eq:EY2 162 hint162 F162:=fun _ _ _ _ _ _ _ _ _=>by kernel_rfl
noncomputable def B162_1000005:TYB:=fun L lp rd df t w ka=>
 zL (zA t 7) fun AG=>
 zL (zA t 29) fun AD=>
 rtI .i64 (zA t 30) fun AE=>
 rtI .i64 (zA t 31) fun AC=>
 onW w fun AH AI AJ AM=>
 fb (wB AC AE) fun AF=>
 br AF (
 pM (fun AO=>
 opt (zR P 23 AD (.int .i64 AC)) fun AK=>
 opt (zE P 9 AJ AK) fun AB=>
 yB pW P .neq 9 true AB (.string (ByteArray.mk #[])) fun AL=>
 yO L 120 [(.bool AL),(.int .i64 3)] AJ AM (kb ka (fj162_0 t (zA t 4) AG AB AD (vi AE) (vi AC) (vb AF) AK AB AB (vb AL) (zA t 37) (zA t 38) (zA t 39)) AH AI) fun AS AT AU=>
 AO (fj162_0 t (zA t 4) AG AB AD (vi AE) (vi AC) (vb AF) AK AB AB (vb AL) AS (zA t 38) (zA t 39)) (W.mk AH AI AT AU)) (fun AA AV=>
 zL (zA AA 7) fun AW=>
 zL (zA AA 29) fun AX=>
 rtI .i64 (zA AA 30) fun AY=>
 rtI .i64 (zA AA 31) fun AZ=>
 onW AV fun Aa Ab Ac Ad=>
 fi (wH .i64 (uF AZ 1)) fun AN=>
 lp 1000005 ⟨162,rd,df⟩ (fj162_0 AA (zA AA 4) AW (zA AA 9) AX (vi AY) (vi AN) (zA AA 32) (zA AA 33) (zA AA 34) (zA AA 35) (zA AA 36) (zA AA 37) (vi AN) (zA AA 39)) (W.mk Aa Ab Ac Ad) ka)) (
 ka (.exit 0) (fj162_0 t (zA t 4) AG (zA t 9) AD (vi AE) (vi AC) (vb AF) (zA t 33) (zA t 34) (zA t 35) (zA t 36) (zA t 37) (zA t 38) (zA t 39)) (W.mk AH AI AJ AM))
theorem B162_1000005_eq:EYB 162 1000005 hint162 B162_1000005:=fun _ _ _ _ _ _ _=>by kernel_rfl
theorem l162:yU P 162=true:=by kernel_rfl
theorem r162:xW P 162=some [.tmp 4]:=by kernel_rfl
theorem lp162_1000005:vC (yZ P 162 1000005)=true:=by kernel_rfl
noncomputable abbrev fj119_0(t:Fr)(s0 s1 s4 s5 s6 s7 s8 s14:Value):Fr:=gf15 s0 s1 (zA t 2) (zA t 3) s4 s5 s6 s7 s8 (zA t 9) (zA t 10) (zA t 11) (zA t 12) (zA t 13) s14
noncomputable abbrev hint119:rD:=hq [(0,1000002,[.val,.val,.any,.any,.any,.val]),(1,0,[.any,.any,.any,.any,.any,.val]),(1,1,[.val,.val,.any,.any,.any,.val]),(2,0,[.val,.val,.any,.any,.any,.val])]
noncomputable def F119:TY2:=fun L lp p0 p1 df u h n k=>
 lp 1000002 ⟨119,none,df⟩ (gf15 p0 p1 ud ud (.slice none 0 0) (.slice none 0 0) ud ud ud ud ud ud ud ud ud) (W.mk [] u h n) (pH noK (pI 0 (fun t1 w2=>
 zL (zA t1 5) fun s3=>
 onW w2 fun d4 u5 h6 n7=>
 zJ P L 119 k .ret (fj119_0 t1 (zA t1 0) (zA t1 1) s3 s3 (zA t1 6) (zA t1 7) (zA t1 8) s3) (W.mk d4 u5 h6 n7)) (zJ P L 119 k)))
theorem F119_eq:EY2 119 hint119 F119:=fun _ _ _ _ _ _ _ _ _=>by kernel_rfl
noncomputable def B119_1000002:TYB:=fun L lp rd df t w ka=>
 zL (zA t 0) fun s8=>
 zL (zA t 1) fun s9=>
 zL (zA t 5) fun AD=>
 onW w fun AE AF AN AO=>
 pJ L .i64 154 [s8] AN AO (kb ka (fj119_0 t s8 s9 (zA t 4) AD s8 (zA t 7) (zA t 8) (zA t 14)) AE AF) fun AG AI AJ=>
 fb (wB 0 AG) fun AH=>
 br AH (
 pM (fun AS=>
 vR L s9 [] AI AJ (kb ka (gf15 s8 s9 (zA t 2) (zA t 3) (zA t 4) AD s8 (vi AG) (vb AH) AD s9 (zA t 11) (zA t 12) (zA t 13) (zA t 14)) AE AF) fun AK AW AX=>
 zS P 23 1 [(0,AK)] AW AX fun AY AZ AL=>
 wD P [23,23] [AD,AL] AY AZ fun Aa Ab AM=>
 AS (gf15 s8 s9 (zA t 2) (zA t 3) (zA t 4) AM s8 (vi AG) (vb AH) AD s9 AK AL AM (zA t 14)) (W.mk AE AF Aa Ab)) (fun AB Ac=>
 zL (zA AB 0) fun Ad=>
 zL (zA AB 1) fun Ae=>
 zL (zA AB 5) fun Af=>
 onW Ac fun Ag Ah Ai Aj=>
 lp 1000002 ⟨119,rd,df⟩ (fj119_0 AB Ad Ae (zA AB 4) Af (zA AB 6) (zA AB 7) (zA AB 8) (zA AB 14)) (W.mk Ag Ah Ai Aj) ka)) (
 ka (.exit 0) (fj119_0 t s8 s9 (zA t 4) AD s8 (vi AG) (vb AH) (zA t 14)) (W.mk AE AF AI AJ))
theorem B119_1000002_eq:EYB 119 1000002 hint119 B119_1000002:=fun _ _ _ _ _ _ _=>by kernel_rfl
theorem l119:yU P 119=true:=by kernel_rfl
theorem r119:xW P 119=some [.tmp 4]:=by kernel_rfl
theorem lp119_1000002:vC (yZ P 119 1000002)=true:=by kernel_rfl
noncomputable abbrev fj121_0(t:Fr)(s0 s1 s4 s5 s6 s7 s8 s14:Value):Fr:=gf15 s0 s1 (zA t 2) (zA t 3) s4 s5 s6 s7 s8 (zA t 9) (zA t 10) (zA t 11) (zA t 12) (zA t 13) s14
noncomputable abbrev hint121:rD:=hq [(0,1000002,[.val,.val,.any,.any,.any,.val]),(1,0,[.any,.any,.any,.any,.any,.val]),(1,1,[.val,.val,.any,.any,.any,.val]),(2,0,[.val,.val,.any,.any,.any,.val])]
noncomputable def F121:TY2:=fun L lp p0 p1 df u h n k=>
 lp 1000002 ⟨121,none,df⟩ (gf15 p0 p1 ud ud (.slice none 0 0) (.slice none 0 0) ud ud ud ud ud ud ud ud ud) (W.mk [] u h n) (pH noK (pI 0 (fun t1 w2=>
 zL (zA t1 5) fun s3=>
 onW w2 fun d4 u5 h6 n7=>
 zJ P L 121 k .ret (fj121_0 t1 (zA t1 0) (zA t1 1) s3 s3 (zA t1 6) (zA t1 7) (zA t1 8) s3) (W.mk d4 u5 h6 n7)) (zJ P L 121 k)))
theorem F121_eq:EY2 121 hint121 F121:=fun _ _ _ _ _ _ _ _ _=>by kernel_rfl
noncomputable def B121_1000002:TYB:=fun L lp rd df t w ka=>
 zL (zA t 0) fun s8=>
 zL (zA t 1) fun s9=>
 zL (zA t 5) fun AD=>
 onW w fun AE AF AN AO=>
 pJ L .i64 154 [s8] AN AO (kb ka (fj121_0 t s8 s9 (zA t 4) AD s8 (zA t 7) (zA t 8) (zA t 14)) AE AF) fun AG AI AJ=>
 fb (wB 0 AG) fun AH=>
 br AH (
 pM (fun AS=>
 invokeI L .i64 s9 [] AI AJ (kb ka (gf15 s8 s9 (zA t 2) (zA t 3) (zA t 4) AD s8 (vi AG) (vb AH) AD s9 (zA t 11) (zA t 12) (zA t 13) (zA t 14)) AE AF) fun AK AW AX=>
 zS P 40 1 [(0,(.int .i64 AK))] AW AX fun AY AZ AL=>
 wD P [40,40] [AD,AL] AY AZ fun Aa Ab AM=>
 AS (gf15 s8 s9 (zA t 2) (zA t 3) (zA t 4) AM s8 (vi AG) (vb AH) AD s9 (vi AK) AL AM (zA t 14)) (W.mk AE AF Aa Ab)) (fun AB Ac=>
 zL (zA AB 0) fun Ad=>
 zL (zA AB 1) fun Ae=>
 zL (zA AB 5) fun Af=>
 onW Ac fun Ag Ah Ai Aj=>
 lp 1000002 ⟨121,rd,df⟩ (fj121_0 AB Ad Ae (zA AB 4) Af (zA AB 6) (zA AB 7) (zA AB 8) (zA AB 14)) (W.mk Ag Ah Ai Aj) ka)) (
 ka (.exit 0) (fj121_0 t s8 s9 (zA t 4) AD s8 (vi AG) (vb AH) (zA t 14)) (W.mk AE AF AI AJ))
theorem B121_1000002_eq:EYB 121 1000002 hint121 B121_1000002:=fun _ _ _ _ _ _ _=>by kernel_rfl
theorem l121:yU P 121=true:=by kernel_rfl
theorem r121:xW P 121=some [.tmp 4]:=by kernel_rfl
theorem lp121_1000002:vC (yZ P 121 1000002)=true:=by kernel_rfl
noncomputable def F158:TY2:=fun L lp p0 p1 df u h n k=>
 yO L 117 [p1] h n (kp L 158 k go26 [] u) fun a1 h2 n3=>
 opt (qY p0) fun v7=>
 opt (zB P 50 0 v7) fun v8=>
 zW P 3 v8 (.int .i64 6) h2 n3 fun h9 AK Ak=>
 opt (qY p0) fun AL=>
 opt (zB P 50 5 AL) fun AM=>
 zW P 9 AM a1 h9 AK fun AN AO Al=>
 letV (.func (.func 122) (Array.mk [p1]) (Array.mk [])) fun AP=>
 yO L 121 [p1,AP] AN AO (kp L 158 k go26 [] u) fun AT AU AV=>
 opt (qY p0) fun AW=>
 opt (zB P 50 6 AW) fun AX=>
 zW P 40 AX AT AU AV fun AA AY Am=>
 opt (qY p0) fun AZ=>
 opt (zB P 50 6 AZ) fun Aa=>
 opt (zE P 40 AA Aa) fun Ab=>
 opt (zX P .len [40] [Ab] AA) fun Ac=>
 rtI .i64 Ac fun Ad=>
 fb (sQ Ad 16) fun Ae=>
 yO L 120 [(.bool Ae),(.int .i64 2)] AA AY (kp L 158 k go26 [] u) fun An Ai Aj=>
 zJ P L 158 k .ret go26 (W.mk [] u Ai Aj)
theorem F158_eq:EY2 158 hq0 F158:=fun _ _ _ _ _ _ _ _ _=>by kernel_rfl
theorem l158:yU P 158=true:=by kernel_rfl
theorem r158:xW P 158=some []:=by kernel_rfl
noncomputable abbrev fo157(s2:Value):Fr:=gf54 ud ud s2 ud ud ud ud ud ud ud ud ud ud ud ud ud ud ud ud ud ud ud ud ud ud ud ud ud ud ud ud ud ud ud ud ud ud ud ud ud ud ud ud ud ud ud ud ud ud ud ud ud ud ud
noncomputable abbrev fj157_0(t:Fr)(s2 s3 s53:Value):Fr:=gf54 (zA t 0) (zA t 1) s2 s3 (zA t 4) (zA t 5) (zA t 6) (zA t 7) (zA t 8) (zA t 9) (zA t 10) (zA t 11) (zA t 12) (zA t 13) (zA t 14) (zA t 15) (zA t 16) (zA t 17) (zA t 18) (zA t 19) (zA t 20) (zA t 21) (zA t 22) (zA t 23) (zA t 24) (zA t 25) (zA t 26) (zA t 27) (zA t 28) (zA t 29) (zA t 30) (zA t 31) (zA t 32) (zA t 33) (zA t 34) (zA t 35) (zA t 36) (zA t 37) (zA t 38) (zA t 39) (zA t 40) (zA t 41) (zA t 42) (zA t 43) (zA t 44) (zA t 45) (zA t 46) (zA t 47) (zA t 48) (zA t 49) (zA t 50) (zA t 51) (zA t 52) s53
noncomputable abbrev hint157:rD:=hq [(1,0,[.any,.any,.val,.val]),(2,10,[.any,.any,.val,.val]),(2,12,[.any,.any,.val,.val]),(2,14,[.any,.any,.val,.val]),(2,16,[.any,.any,.val,.val])]
noncomputable def F157:TY1:=fun L lp p0 df u h n k=>
 tZ P 50 h n fun h1 n2 v3=>
 pJ L .i64 122 [p0] h1 n2 (kp L 157 k (fo157 v3) [] u) fun a4 h5 n6=>
 opt (uZ P 50 [(1,(.int .i64 a4))]) fun AH=>
 tZ P 50 h5 n6 fun A0 A1 AB=>
 zW P 50 AB AH A0 A1 fun A2 A3 Cn=>
 yO L 116 [p0,(.string (ByteArray.mk #[61]))] A2 A3 (kp L 157 k (fo157 v3) [] u) fun AI A7 A8=>
 yO L 117 [p0] A7 A8 (kp L 157 k (fo157 v3) [] u) fun AA AJ AK=>
 pM (fun BC=>
 yB xN P .eql 9 true AA (.string (ByteArray.mk #[99,111,110,115,116])) fun AD=>
 brJ AD (fun BD=>
 pJ L .i64 155 [p0] AJ AK (kp L 157 k (fo157 v3) [] u) fun AT BH BI=>
 opt (zB P 50 0 AB) fun AU=>
 zW P 3 AU (.int .i64 1) BH BI fun BJ BK Co=>
 opt (zB P 50 4 AB) fun AV=>
 zW P 3 AV (.int .i64 AT) BJ BK fun BL BM Cp=>
 BD (gf54 p0 ud v3 AB AA p0 (vi a4) AH p0 AI p0 AA AA ud ud ud ud ud ud ud ud ud ud ud ud ud ud ud ud ud ud (vb AD) (vb AD) p0 (vi AT) AU AV ud ud ud ud ud ud ud ud ud ud ud ud ud ud ud ud ud) (W.mk [] u BL BM)) (fun BN=>
 yB xN P .eql 9 true AA (.string (ByteArray.mk #[99,111,112,121])) fun AE=>
 brJ AE (fun BO=>
 pJ L .i64 122 [p0] AJ AK (kp L 157 k (fo157 v3) [] u) fun AW BS BT=>
 opt (zB P 50 0 AB) fun AX=>
 zW P 3 AX (.int .i64 2) BS BT fun BU BV Cq=>
 opt (zB P 50 2 AB) fun AY=>
 zW P 3 AY (.int .i64 AW) BU BV fun BW BX Cr=>
 BO (gf54 p0 ud v3 AB AA p0 (vi a4) AH p0 AI p0 AA AA ud ud ud ud ud ud ud ud ud ud ud ud ud ud ud ud ud ud (vb AD) (vb AD) ud ud ud ud (vb AE) (vb AE) p0 (vi AW) AX AY ud ud ud ud ud ud ud ud ud ud ud) (W.mk [] u BW BX)) (fun BY=>
 yB xN P .eql 9 true AA (.string (ByteArray.mk #[108,111,97,100])) fun AF=>
 brJ AF (fun BZ=>
 pJ L .i64 122 [p0] AJ AK (kp L 157 k (fo157 v3) [] u) fun AZ Bd Be=>
 opt (zB P 50 0 AB) fun Aa=>
 zW P 3 Aa (.int .i64 4) Bd Be fun Bf Bg Cs=>
 opt (zB P 50 2 AB) fun Ab=>
 zW P 3 Ab (.int .i64 AZ) Bf Bg fun Bh Bi Ct=>
 BZ (gf54 p0 ud v3 AB AA p0 (vi a4) AH p0 AI p0 AA AA ud ud ud ud ud ud ud ud ud ud ud ud ud ud ud ud ud ud (vb AD) (vb AD) ud ud ud ud (vb AE) (vb AE) ud ud ud ud (vb AF) (vb AF) p0 (vi AZ) Aa Ab ud ud ud ud ud) (W.mk [] u Bh Bi)) (fun Bj=>
 yB xN P .eql 9 true AA (.string (ByteArray.mk #[99,97,108,108])) fun AL=>
 brJ AL (fun Bk=>
 yO L 158 [AB,p0] AJ AK (kp L 157 k (fo157 v3) [] u) fun Bo Bp Bq=>
 Bk (gf54 p0 ud v3 AB AA p0 (vi a4) AH p0 AI p0 AA AA ud ud ud ud ud ud ud ud ud ud ud ud ud ud ud ud ud ud (vb AD) (vb AD) ud ud ud ud (vb AE) (vb AE) ud ud ud ud (vb AF) (vb AF) ud ud ud ud (vb AL) (vb AL) p0 Bo ud) (W.mk [] u Bp Bq)) (fun Br=>
 opt (zB P 50 0 AB) fun Ac=>
 zW P 3 Ac (.int .i64 3) AJ AK fun Bs Bt Cu=>
 opt (zB P 50 5 AB) fun Ad=>
 zW P 9 Ad AA Bs Bt fun Bu Bv Cv=>
 letV (.func (.func 122) (Array.mk [p0]) (Array.mk [])) fun Ae=>
 yO L 121 [p0,Ae] Bu Bv (kp L 157 k (fo157 v3) [] u) fun Af Bz B0=>
 opt (zB P 50 6 AB) fun Ag=>
 zW P 40 Ag Af Bz B0 fun AQ B1 Cw=>
 opt (zB P 50 6 AB) fun Ah=>
 opt (zE P 40 AQ Ah) fun Ai=>
 opt (zX P .len [40] [Ai] AQ) fun B2=>
 rtI .i64 B2 fun Aj=>
 fb (sQ 1 Aj) fun Ak=>
 yO L 120 [(.bool Ak),(.int .i64 3)] AQ B1 (kp L 157 k (fo157 v3) [] u) fun B6 AR B7=>
 opt (zB P 50 6 AB) fun Al=>
 opt (zE P 40 AR Al) fun Am=>
 opt (zX P .len [40] [Am] AR) fun B8=>
 rtI .i64 B8 fun An=>
 fb (sQ An 2) fun Ao=>
 yO L 120 [(.bool Ao),(.int .i64 3)] AR B7 (kp L 157 k (fo157 v3) [] u) fun CC CD CE=>
 Br (gf54 p0 ud v3 AB AA p0 (vi a4) AH p0 AI p0 AA AA AA Ac Ad p0 p0 Ae Af Ag Ah Ai (vi Aj) (vb Ak) B6 Al Am (vi An) (vb Ao) CC (vb AD) (vb AD) ud ud ud ud (vb AE) (vb AE) ud ud ud ud (vb AF) (vb AF) ud ud ud ud (vb AL) (vb AL) ud ud ud) (W.mk [] u CD CE)) (fun AM CF=>
 zL (zA AM 2) fun CG=>
 zL (zA AM 3) fun CH=>
 onW CF fun CI CJ CK CL=>
 Bj (fj157_0 AM CG CH (zA AM 53)) (W.mk CI CJ CK CL))) (fun AN CM=>
 zL (zA AN 2) fun CN=>
 zL (zA AN 3) fun CO=>
 onW CM fun CP CQ CR CS=>
 BY (fj157_0 AN CN CO (zA AN 53)) (W.mk CP CQ CR CS))) (fun AO CT=>
 zL (zA AO 2) fun CU=>
 zL (zA AO 3) fun CV=>
 onW CT fun CW CX CY CZ=>
 BN (fj157_0 AO CU CV (zA AO 53)) (W.mk CW CX CY CZ))) (fun AP Ca=>
 zL (zA AP 2) fun Cb=>
 zL (zA AP 3) fun Cc=>
 onW Ca fun Cd Ce Cf Cg=>
 BC (fj157_0 AP Cb Cc (zA AP 53)) (W.mk Cd Ce Cf Cg))) (fun AS Ch=>
 zL (zA AS 2) fun Ap=>
 zL (zA AS 3) fun Aq=>
 onW Ch fun Ci Cj Ar Ck=>
 opt (zE P 50 Ar Aq) fun As=>
 zW P 50 Ap As Ar Ck fun Cl Cm Cx=>
 zJ P L 157 k .ret (fj157_0 AS Ap Aq As) (W.mk Ci Cj Cl Cm))
theorem F157_eq:EY1 157 hint157 F157:=fun _ _ _ _ _ _ _ _=>by kernel_rfl
theorem l157:yU P 157=true:=by kernel_rfl
theorem r157:xW P 157=some [.cell 2 50]:=by kernel_rfl
noncomputable abbrev fo123(s2:Value):Fr:=gf52 ud ud s2 ud ud ud ud ud ud ud ud ud ud ud ud ud ud ud ud ud ud ud ud ud ud ud ud ud ud ud ud ud ud ud ud ud ud ud ud ud ud ud ud ud ud ud ud ud ud ud ud ud
noncomputable abbrev fj123_0(t:Fr)(s2 s3 s51:Value):Fr:=gf52 (zA t 0) (zA t 1) s2 s3 (zA t 4) (zA t 5) (zA t 6) (zA t 7) (zA t 8) (zA t 9) (zA t 10) (zA t 11) (zA t 12) (zA t 13) (zA t 14) (zA t 15) (zA t 16) (zA t 17) (zA t 18) (zA t 19) (zA t 20) (zA t 21) (zA t 22) (zA t 23) (zA t 24) (zA t 25) (zA t 26) (zA t 27) (zA t 28) (zA t 29) (zA t 30) (zA t 31) (zA t 32) (zA t 33) (zA t 34) (zA t 35) (zA t 36) (zA t 37) (zA t 38) (zA t 39) (zA t 40) (zA t 41) (zA t 42) (zA t 43) (zA t 44) (zA t 45) (zA t 46) (zA t 47) (zA t 48) (zA t 49) (zA t 50) s51
noncomputable abbrev hint123:rD:=hq [(1,0,[.any,.any,.val,.val]),(2,2,[.val,.any,.val]),(2,7,[.any,.any,.val,.val]),(2,10,[.any,.any,.val,.val]),(2,13,[.any,.any,.val,.val]),(2,17,[.any,.any,.val,.val]),(2,19,[.any,.any,.val,.val])]
noncomputable def F123:TY1:=fun L lp p0 df u h n k=>
 tZ P 50 h n fun h1 n2 v3=>
 yO L 156 [p0,(.int .i64 1)] h1 n2 (kp L 123 k (fo123 v3) [] u) fun a4 h5 n6=>
 yB xN P .eql 9 true a4 (.string (ByteArray.mk #[61])) fun AH=>
 br AH (
 yO L 157 [p0] h5 n6 (kp L 123 k (fo123 v3) [] u) fun A0 A1 A2=>
 zW P 50 v3 A0 A1 A2 fun A3 A4 DB=>
 zJ P L 123 k .ret (fo123 v3) (W.mk [] u A3 A4)) (
 opt (uZ P 50 []) fun AI=>
 tZ P 50 h5 n6 fun A5 A6 AB=>
 zW P 50 AB AI A5 A6 fun A7 A8 DC=>
 yO L 153 [p0] A7 A8 (kp L 123 k (fo123 v3) [] u) fun AD AK AL=>
 pM (fun BC=>
 yB xN P .eql 9 true AD (.string (ByteArray.mk #[115,116,111,114,101])) fun AC=>
 brJ AC (fun BD=>
 pJ L .i64 122 [p0] AK AL (kp L 123 k (fo123 v3) [] u) fun AV BH BI=>
 opt (zB P 50 0 AB) fun AW=>
 zW P 3 AW (.int .i64 5) BH BI fun BJ BK DD=>
 opt (zB P 50 2 AB) fun AX=>
 zW P 3 AX (.int .i64 AV) BJ BK fun BL BM DE=>
 pJ L .i64 122 [p0] BL BM (kp L 123 k (fo123 v3) [] u) fun AY BQ BR=>
 opt (zB P 50 3 AB) fun AZ=>
 zW P 3 AZ (.int .i64 AY) BQ BR fun BS BT DF=>
 BD (gf52 p0 ud v3 AB p0 a4 (vb AH) ud ud AI p0 AD ud (vb AC) (vb AC) p0 (vi AV) AW AX p0 (vi AY) AZ ud ud ud ud ud ud ud ud ud ud ud ud ud ud ud ud ud ud ud ud ud ud ud ud ud ud ud ud ud ud) (W.mk [] u BS BT)) (fun BU=>
 yB xN P .eql 9 true AD (.string (ByteArray.mk #[99,97,108,108])) fun AE=>
 brJ AE (fun BV=>
 opt (zB P 50 1 AB) fun Aa=>
 zW P 3 Aa (.int .i64 (-1)) AK AL fun BW BX DG=>
 yO L 158 [AB,p0] BW BX (kp L 123 k (fo123 v3) [] u) fun Bb Bc Bd=>
 BV (gf52 p0 ud v3 AB p0 a4 (vb AH) ud ud AI p0 AD ud (vb AC) (vb AC) ud ud ud ud ud ud ud (vb AE) (vb AE) Aa p0 Bb ud ud ud ud ud ud ud ud ud ud ud ud ud ud ud ud ud ud ud ud ud ud ud ud ud) (W.mk [] u Bc Bd)) (fun Be=>
 yB xN P .eql 9 true AD (.string (ByteArray.mk #[98,114])) fun AF=>
 brJ AF (fun Bf=>
 pJ L .i64 122 [p0] AK AL (kp L 123 k (fo123 v3) [] u) fun Ab Bj Bk=>
 opt (zB P 50 0 AB) fun Ac=>
 zW P 3 Ac (.int .i64 7) Bj Bk fun Bl Bm DH=>
 opt (zB P 50 2 AB) fun Ad=>
 zW P 3 Ad (.int .i64 Ab) Bl Bm fun Bn Bo DI=>
 pJ L .i64 122 [p0] Bn Bo (kp L 123 k (fo123 v3) [] u) fun Ae Bs Bt=>
 opt (zB P 50 7 AB) fun Af=>
 zW P 3 Af (.int .i64 Ae) Bs Bt fun Bu Bv DJ=>
 pJ L .i64 122 [p0] Bu Bv (kp L 123 k (fo123 v3) [] u) fun Ag Bz B0=>
 opt (zB P 50 8 AB) fun Ah=>
 zW P 3 Ah (.int .i64 Ag) Bz B0 fun B1 B2 DK=>
 Bf (gf52 p0 ud v3 AB p0 a4 (vb AH) ud ud AI p0 AD ud (vb AC) (vb AC) ud ud ud ud ud ud ud (vb AE) (vb AE) ud ud ud (vb AF) (vb AF) p0 (vi Ab) Ac Ad p0 (vi Ae) Af p0 (vi Ag) Ah ud ud ud ud ud ud ud ud ud ud ud ud ud) (W.mk [] u B1 B2)) (fun B3=>
 yB xN P .eql 9 true AD (.string (ByteArray.mk #[106,117,109,112])) fun AJ=>
 brJ AJ (fun B4=>
 pJ L .i64 122 [p0] AK AL (kp L 123 k (fo123 v3) [] u) fun Ai B8 B9=>
 opt (zB P 50 0 AB) fun Aj=>
 zW P 3 Aj (.int .i64 8) B8 B9 fun CA CB DL=>
 opt (zB P 50 7 AB) fun Ak=>
 zW P 3 Ak (.int .i64 Ai) CA CB fun CC CD DM=>
 B4 (gf52 p0 ud v3 AB p0 a4 (vb AH) ud ud AI p0 AD ud (vb AC) (vb AC) ud ud ud ud ud ud ud (vb AE) (vb AE) ud ud ud (vb AF) (vb AF) ud ud ud ud ud ud ud ud ud ud (vb AJ) (vb AJ) p0 (vi Ai) Aj Ak ud ud ud ud ud ud ud) (W.mk [] u CC CD)) (fun CE=>
 yB xN P .eql 9 true AD (.string (ByteArray.mk #[114,101,116])) fun AM=>
 brJ AM (fun CF=>
 pJ L .i64 122 [p0] AK AL (kp L 123 k (fo123 v3) [] u) fun Al CJ CK=>
 opt (zB P 50 0 AB) fun Am=>
 zW P 3 Am (.int .i64 9) CJ CK fun CL CM DN=>
 opt (zB P 50 2 AB) fun An=>
 zW P 3 An (.int .i64 Al) CL CM fun CN CO DO=>
 CF (gf52 p0 ud v3 AB p0 a4 (vb AH) ud ud AI p0 AD ud (vb AC) (vb AC) ud ud ud ud ud ud ud (vb AE) (vb AE) ud ud ud (vb AF) (vb AF) ud ud ud ud ud ud ud ud ud ud (vb AJ) (vb AJ) ud ud ud ud (vb AM) (vb AM) p0 (vi Al) Am An ud) (W.mk [] u CN CO)) (fun CP=>
 yO L 120 [(.bool false),(.int .i64 3)] AK AL (kp L 123 k (fo123 v3) [] u) fun CT CU CV=>
 CP (gf52 p0 ud v3 AB p0 a4 (vb AH) ud ud AI p0 AD CT (vb AC) (vb AC) ud ud ud ud ud ud ud (vb AE) (vb AE) ud ud ud (vb AF) (vb AF) ud ud ud ud ud ud ud ud ud ud (vb AJ) (vb AJ) ud ud ud ud (vb AM) (vb AM) ud ud ud ud ud) (W.mk [] u CU CV)) (fun AN CW=>
 zL (zA AN 2) fun CX=>
 zL (zA AN 3) fun CY=>
 onW CW fun CZ Ca Cb Cc=>
 CE (fj123_0 AN CX CY (zA AN 51)) (W.mk CZ Ca Cb Cc))) (fun AO Cd=>
 zL (zA AO 2) fun Ce=>
 zL (zA AO 3) fun Cf=>
 onW Cd fun Cg Ch Ci Cj=>
 B3 (fj123_0 AO Ce Cf (zA AO 51)) (W.mk Cg Ch Ci Cj))) (fun AP Ck=>
 zL (zA AP 2) fun Cl=>
 zL (zA AP 3) fun Cm=>
 onW Ck fun Cn Co Cp Cq=>
 Be (fj123_0 AP Cl Cm (zA AP 51)) (W.mk Cn Co Cp Cq))) (fun AQ Cr=>
 zL (zA AQ 2) fun Cs=>
 zL (zA AQ 3) fun Ct=>
 onW Cr fun Cu Cv Cw Cx=>
 BU (fj123_0 AQ Cs Ct (zA AQ 51)) (W.mk Cu Cv Cw Cx))) (fun AR Cy=>
 zL (zA AR 2) fun Cz=>
 zL (zA AR 3) fun C0=>
 onW Cy fun C1 C2 C3 C4=>
 BC (fj123_0 AR Cz C0 (zA AR 51)) (W.mk C1 C2 C3 C4))) (fun AS C5=>
 zL (zA AS 2) fun Ao=>
 zL (zA AS 3) fun Ap=>
 onW C5 fun C6 C7 Aq C8=>
 opt (zE P 50 Aq Ap) fun Ar=>
 zW P 50 Ao Ar Aq C8 fun C9 DA DP=>
 zJ P L 123 k .ret (fj123_0 AS Ao Ap Ar) (W.mk C6 C7 C9 DA)))
theorem F123_eq:EY1 123 hint123 F123:=fun _ _ _ _ _ _ _ _=>by kernel_rfl
theorem l123:yU P 123=true:=by kernel_rfl
theorem r123:xW P 123=some [.cell 2 50]:=by kernel_rfl
noncomputable abbrev fj127_0(t:Fr):Fr:=gf74 (zA t 0) (zA t 1) (zA t 2) (zA t 3) (zA t 4) (zA t 5) (zA t 6) (zA t 7) (zA t 8) (zA t 9) (zA t 10) (zA t 11) (zA t 12) (zA t 13) (zA t 14) (zA t 15) (zA t 16) (zA t 17) (zA t 18) (zA t 19) (zA t 20) (zA t 21) (zA t 22) (zA t 23) (zA t 24) (zA t 25) (zA t 26) (zA t 27) (zA t 28) (zA t 29) (zA t 30) (zA t 31) (zA t 32) (zA t 33) (zA t 34) (zA t 35) (zA t 36) (zA t 37) (zA t 38) (zA t 39) (zA t 40) (zA t 41) (zA t 42) (zA t 43) (zA t 44) (zA t 45) (zA t 46) (zA t 47) (zA t 48) (zA t 49) (zA t 50) (zA t 51) (zA t 52) (zA t 53) (zA t 54) (zA t 55) (zA t 56) (zA t 57) (zA t 58) (zA t 59) (zA t 60) (zA t 61) (zA t 62) (zA t 63) (zA t 64) (zA t 65) (zA t 66) (zA t 67) (zA t 68) (zA t 69) (zA t 70) (zA t 71) (zA t 72) (zA t 73)
noncomputable def F127:TY2:=fun L lp p0 p1 df u h n k=>
 opt (qY p0) fun v1=>
 opt (zB P 116 5 v1) fun v2=>
 opt (zE P 4 h v2) fun v3=>
 rtB v3 fun a4=>
 opt (aUn .not (.bool a4)) fun v5=>
 rtB v5 fun a6=>
 grd a6 (fun k7=>
 k7 h n p1) (fun h8 n9 AN=>
 grd a6 (fun BG=>
 yB pW P .neq 9 true AN (.string (ByteArray.mk #[])) fun BH=>
 BG h8 n9 (.bool BH)) (fun BI BJ AO=>
 rtB (sel a6 AO (.bool false)) fun AP=>
 yO L 120 [(.bool AP),(.int .i64 3)] BI BJ (kp L 127 k go74 [] u) fun Aa AA AD=>
 pM (fun BN=>
 opt (qY p0) fun AQ=>
 opt (zB P 116 3 AQ) fun AR=>
 opt (zE P 3 AA AR) fun BO=>
 rtI .i64 BO fun AS=>
 opt (qY p0) fun AT=>
 opt (zB P 116 0 AT) fun AU=>
 opt (zE P 114 AA AU) fun AV=>
 opt (zX P .len [114] [AV] AA) fun BP=>
 rtI .i64 BP fun AW=>
 fb (wB AS AW) fun AC=>
 gt (lks [(W.mk [] u AA AD)] []) (
 brJ AC (fun BQ=>
 yO L 162 [p1,(.string (ByteArray.mk #[]))] AA AD (fun CL CM CN=>
 false) fun Ar AF AX=>
 gt (Nat.ble AD AX) (
 opt (qY p0) fun As=>
 opt (zB P 116 0 As) fun AG=>
 opt (zE P 114 AF AG) fun Ab=>
 opt (qY p0) fun At=>
 opt (zB P 116 3 At) fun AH=>
 opt (zE P 3 AF AH) fun BR=>
 rtI .i64 BR fun Ac=>
 opt (zR P 114 Ab (.int .i64 Ac)) fun AI=>
 opt (zE P 113 AF AI) fun Ad=>
 vR L Ad [Ar] AF AX (fun BS BT BU=>
 gt (lks [(W.mk [] u AF AX),(W.mk [] u AA AD)] [⟨true,(lkQ (fun Ah=>zE P 113 Ah AI) AI Ad),0,1⟩,⟨true,(lkQ (fun Ai=>zE P 3 Ai AH) AH (.int .i64 Ac)),0,1⟩,⟨true,(lkQ (fun Aj=>zE P 114 Aj AG) AG Ab),0,1⟩]) (
 zJ P L 127 k (.panic BS) go74 (W.mk [] u BT BU))) fun BV Ak Al=>
 gt (Nat.ble AX Al) (
 gt (lks [(W.mk [] u Ak Al),(W.mk [] u AF AX),(W.mk [] u AA AD)] [⟨true,(lkQ (fun Ah=>zE P 113 Ah AI) AI Ad),0,1⟩,⟨true,(lkQ (fun Ai=>zE P 3 Ai AH) AH (.int .i64 Ac)),0,1⟩,⟨true,(lkQ (fun Aj=>zE P 114 Aj AG) AG Ab),0,1⟩]) (
 opt (qY p0) fun Au=>
 opt (zB P 116 3 Au) fun Av=>
 opt (zE P 3 Ak Av) fun BW=>
 rtI .i64 BW fun Aw=>
 fi (wH .i64 (uF Aw 1)) fun Ax=>
 opt (qY p0) fun Ay=>
 opt (zB P 116 3 Ay) fun Az=>
 zW P 3 Az (.int .i64 Ax) Ak Al fun BX BY CO=>
 BQ (gf74 p0 p1 ud ud p0 v1 v2 (vb a4) (vb a6) (vb a6) AN AO (vb AP) Aa ud ud ud ud ud ud ud ud ud ud ud ud (vb AC) p0 AQ AR (vi AS) p0 AT AU AV (vi AW) (vb AC) p0 As AG Ab p0 At AH (vi Ac) AI Ad p1 Ar BV p0 Au Av (vi Aw) (vi Ax) Ay Az ud ud ud ud ud ud ud ud ud ud ud ud ud ud ud ud ud) (W.mk [] u BX BY))))) (fun BZ=>
 yB xN P .eql 9 true p1 (.string (ByteArray.mk #[101,110,100])) fun AE=>
 brJ AE (fun Ba=>
 opt (qY p0) fun A0=>
 opt (zB P 116 5 A0) fun A1=>
 zW P 4 A1 (.bool true) AA AD fun Bb Bc CP=>
 Ba (gf74 p0 p1 ud ud p0 v1 v2 (vb a4) (vb a6) (vb a6) AN AO (vb AP) Aa ud ud ud ud ud ud ud ud ud ud ud ud (vb AC) p0 AQ AR (vi AS) p0 AT AU AV (vi AW) (vb AC) ud ud ud ud ud ud ud ud ud ud ud ud ud ud ud ud ud ud ud ud (vb AE) p1 (vb AE) p0 A0 A1 ud ud ud ud ud ud ud ud ud ud ud) (W.mk [] u Bb Bc)) (fun Bd=>
 yB xN P .eql 9 true p1 (.string (ByteArray.mk #[98,108,111,99,107])) fun AY=>
 brJ AY (fun Be=>
 opt (qY p0) fun A2=>
 opt (zB P 116 1 A2) fun A3=>
 opt (zE P 1 AA A3) fun A4=>
 vR L A4 [] AA AD (kp L 127 k go74 [] u) fun Bi Bj Bk=>
 opt (qY p0) fun A5=>
 opt (zB P 116 4 A5) fun A6=>
 zW P 4 A6 (.bool true) Bj Bk fun Bl Bm CQ=>
 Be (gf74 p0 p1 ud ud p0 v1 v2 (vb a4) (vb a6) (vb a6) AN AO (vb AP) Aa ud ud ud ud ud ud ud ud ud ud ud ud (vb AC) p0 AQ AR (vi AS) p0 AT AU AV (vi AW) (vb AC) ud ud ud ud ud ud ud ud ud ud ud ud ud ud ud ud ud ud ud ud (vb AE) p1 (vb AE) ud ud ud (vb AY) p1 (vb AY) p0 A2 A3 A4 Bi p0 A5 A6) (W.mk [] u Bl Bm)) (fun Bn=>
 opt (qY p0) fun A7=>
 opt (zB P 116 4 A7) fun A8=>
 opt (zE P 4 AA A8) fun Bo=>
 rtB Bo fun A9=>
 yO L 120 [(.bool A9),(.int .i64 3)] AA AD (kp L 127 k go74 [] u) fun Bs Am Ae=>
 yO L 162 [p1,(.string (ByteArray.mk #[32,32]))] Am Ae (fun CR CS CT=>
 false) fun BA Af AZ=>
 gt (Nat.ble Ae AZ) (
 opt (qY p0) fun BB=>
 opt (zB P 116 2 BB) fun AJ=>
 opt (zE P 113 Af AJ) fun Ag=>
 vR L Ag [BA] Af AZ (fun Bt Bu Bv=>
 gt (lks [(W.mk [] u Af AZ),(W.mk [] u Am Ae)] [⟨true,(lkQ (fun An=>zE P 113 An AJ) AJ Ag),0,1⟩]) (
 zJ P L 127 k (.panic Bt) go74 (W.mk [] u Bu Bv))) fun Bw BC Ao=>
 gt (Nat.ble AZ Ao) (
 gt (lks [(W.mk [] u BC Ao),(W.mk [] u Af AZ),(W.mk [] u Am Ae)] [⟨true,(lkQ (fun An=>zE P 113 An AJ) AJ Ag),0,1⟩]) (
 Bn (gf74 p0 p1 ud ud p0 v1 v2 (vb a4) (vb a6) (vb a6) AN AO (vb AP) Aa p0 A7 A8 (vb A9) Bs p0 BB AJ Ag p1 BA Bw (vb AC) p0 AQ AR (vi AS) p0 AT AU AV (vi AW) (vb AC) ud ud ud ud ud ud ud ud ud ud ud ud ud ud ud ud ud ud ud ud (vb AE) p1 (vb AE) ud ud ud (vb AY) p1 (vb AY) ud ud ud ud ud ud ud ud) (W.mk [] u BC Ao))))) (fun Bx By=>
 onW By fun Bz B0 B1 B2=>
 Bd (fj127_0 Bx) (W.mk Bz B0 B1 B2))) (fun B3 B4=>
 onW B4 fun B5 B6 B7 B8=>
 BZ (fj127_0 B3) (W.mk B5 B6 B7 B8))) (fun B9 CA=>
 onW CA fun CB CC CD CE=>
 BN (fj127_0 B9) (W.mk CB CC CD CE)))) (fun CF CG=>
 onW CG fun CH CI CJ CK=>
 zJ P L 127 k .ret (fj127_0 CF) (W.mk CH CI CJ CK))) h8 n9) h n
theorem F127_eq:EY2 127 hq0 F127:=fun _ _ _ _ _ _ _ _ _=>by kernel_rfl
theorem l127:yU P 127=true:=by kernel_rfl
theorem r127:xW P 127=some []:=by kernel_rfl
noncomputable abbrev fo69(s4 s5:Value):Fr:=gf28 ud ud ud ud s4 s5 ud ud ud ud ud ud ud ud ud ud ud ud ud ud ud ud ud ud ud ud ud ud
noncomputable abbrev fj69_0(t:Fr)(s2 s4 s5 s6 s21 s22 s23 s24 s25 s26 s27:Value):Fr:=gf28 (zA t 0) (zA t 1) s2 (zA t 3) s4 s5 s6 (zA t 7) (zA t 8) (zA t 9) (zA t 10) (zA t 11) (zA t 12) (zA t 13) (zA t 14) (zA t 15) (zA t 16) (zA t 17) (zA t 18) (zA t 19) (zA t 20) s21 s22 s23 s24 s25 s26 s27
noncomputable abbrev hint69:rD:=hq [(1,0,[.any,.any,.val,.any,.val,.val,.val]),(2,10,[.any,.any,.any,.any,.val,.val]),(3,5,[.any,.any,.val,.any,.val,.val,.val])]
noncomputable def F69:TY2:=fun L lp p0 p1 df u h n k=>
 eBox p0 h n fun h1 n2 v3=>
 tZ P 3 h1 n2 fun h4 n5 v6=>
 tZ P 25 h4 n5 fun h7 n8 v9=>
 tZ P 3 h7 n8 fun Ad Ae AO=>
 zW P 3 AO (.int .i64 0) Ad Ae fun Af Ag A7=>
 yO L 124 [p1] Af Ag (kp L 69 k (fo69 v6 v9) [] u) fun AP Ak Al=>
 pM (fun AQ=>
 yRange L AP (rfP P 69 5) (rfA P 69 5) (rfB P 69 5) ⟨69,none,df⟩ (gf28 p0 p1 v3 ud v6 v9 AO ud ud ud p1 AP ud ud ud ud ud ud ud ud ud ud ud ud ud ud ud ud) [] u Ak Al (pH (fun AA Am=>
 zL (zA AA 2) fun An=>
 zL (zA AA 4) fun Ao=>
 zL (zA AA 5) fun Ap=>
 zL (zA AA 6) fun Aq=>
 onW Am fun Ar As At Au=>
 AQ (fj69_0 AA An Ao Ap Aq (zA AA 21) (zA AA 22) (zA AA 23) (zA AA 24) (zA AA 25) (zA AA 26) (zA AA 27)) (W.mk Ar As At Au)) (pI 0 AQ (zJ P L 69 k)))) (fun AB Av=>
 zL (zA AB 2) fun AF=>
 zL (zA AB 4) fun AD=>
 zL (zA AB 5) fun AE=>
 zL (zA AB 6) fun AG=>
 onW Av fun AR AS AC AT=>
 opt (zE P 112 AC AF) fun AH=>
 opt (qY AH) fun AI=>
 opt (zB P 116 5 AI) fun AJ=>
 opt (zE P 4 AC AJ) fun Aw=>
 rtB Aw fun AK=>
 opt (aUn .not (.bool AK)) fun Ax=>
 rtB Ax fun AL=>
 br AL (
 opt (zE P 3 AC AG) fun Ay=>
 rtI .i64 Ay fun AU=>
 fi (wH .i64 (uF AU 1)) fun AV=>
 zW P 3 AD (.int .i64 AV) AC AT fun Az A0 A8=>
 zW P 25 AE (.int .i64 3) Az A0 fun A1 A2 A9=>
 zJ P L 69 k .ret (fj69_0 AB AF AD AE AG AH AI AJ (vb AK) (vb AL) (vi AU) (vi AV)) (W.mk AR AS A1 A2)) (
 zW P 3 AD (.int .i64 0) AC AT fun A3 A4 BA=>
 zW P 25 AE (.int .i64 0) A3 A4 fun A5 A6 BB=>
 zJ P L 69 k .ret (fj69_0 AB AF AD AE AG AH AI AJ (vb AK) (vb AL) (zA AB 26) (zA AB 27)) (W.mk AR AS A5 A6)))
theorem F69_eq:EY2 69 hint69 F69:=fun _ _ _ _ _ _ _ _ _=>by kernel_rfl
theorem l69:yU P 69=true:=by kernel_rfl
theorem r69:xW P 69=some [.cell 4 3,.cell 5 25]:=by kernel_rfl
noncomputable def F126:TY2:=fun L lp p0 p1 df u h n k=>
 opt (zE P 112 h p0) fun v1=>
 opt (zE P 9 h p1) fun v2=>
 yO L 127 [v1,v2] h n (kp L 126 k go5 [] u) fun a3 h4 n5=>
 zJ P L 126 k .ret go5 (W.mk [] u h4 n5)
theorem F126_eq:EY2 126 hq0 F126:=fun _ _ _ _ _ _ _ _ _=>by kernel_rfl
theorem l126:yU P 126=true:=by kernel_rfl
theorem r126:xW P 126=some []:=by kernel_rfl
noncomputable def F63:TY2:=fun L lp p0 p1 df u h n k=>
 yO L 116 [p1,(.string (ByteArray.mk #[102,117,110,99]))] h n (kp L 63 k go14 [] u) fun a1 h2 n3=>
 yO L 117 [p1] h2 n3 (kp L 63 k go14 [] u) fun a7 h8 n9=>
 opt (qY p0) fun AL=>
 opt (zB P 111 0 AL) fun AM=>
 opt (zB P 43 0 AM) fun AN=>
 zW P 9 AN a7 h8 n9 fun AO AP AW=>
 yO L 118 [p1] AO AP (kp L 63 k go14 [] u) fun AX AT AU=>
 zJ P L 63 k .ret go14 (W.mk [] u AT AU)
theorem F63_eq:EY2 63 hq0 F63:=fun _ _ _ _ _ _ _ _ _=>by kernel_rfl
theorem l63:yU P 63=true:=by kernel_rfl
theorem r63:xW P 63=some []:=by kernel_rfl
noncomputable def F64:TY2:=fun L lp p0 p1 df u h n k=>
 yO L 116 [p1,(.string (ByteArray.mk #[114,101,103,115]))] h n (kp L 64 k go22 [] u) fun a1 h2 n3=>
 letV (.func (.func 117) (Array.mk [p1]) (Array.mk [])) fun v7=>
 yO L 119 [p1,v7] h2 n3 (kp L 64 k go22 [] u) fun a8 h9 AM=>
 opt (qY p0) fun AN=>
 opt (zB P 111 0 AN) fun AO=>
 opt (zB P 43 1 AO) fun AP=>
 zW P 23 AP a8 h9 AM fun AA AQ Ae=>
 opt (qY p0) fun AR=>
 opt (zB P 111 0 AR) fun AS=>
 opt (zB P 43 1 AS) fun AT=>
 opt (zE P 23 AA AT) fun AU=>
 opt (zX P .len [23] [AU] AA) fun AV=>
 rtI .i64 AV fun AW=>
 fb (sQ AW 500) fun AX=>
 yO L 120 [(.bool AX),(.int .i64 2)] AA AQ (kp L 64 k go22 [] u) fun Af Ab Ac=>
 zJ P L 64 k .ret go22 (W.mk [] u Ab Ac)
theorem F64_eq:EY2 64 hq0 F64:=fun _ _ _ _ _ _ _ _ _=>by kernel_rfl
theorem l64:yU P 64=true:=by kernel_rfl
theorem r64:xW P 64=some []:=by kernel_rfl
noncomputable def F65:TY2:=fun L lp p0 p1 df u h n k=>
 yO L 116 [p1,(.string (ByteArray.mk #[112,97,114,97,109,115]))] h n (kp L 65 k go22 [] u) fun a1 h2 n3=>
 letV (.func (.func 122) (Array.mk [p1]) (Array.mk [])) fun v7=>
 yO L 121 [p1,v7] h2 n3 (kp L 65 k go22 [] u) fun a8 h9 AM=>
 opt (qY p0) fun AN=>
 opt (zB P 111 0 AN) fun AO=>
 opt (zB P 43 2 AO) fun AP=>
 zW P 40 AP a8 h9 AM fun AA AQ Ae=>
 opt (qY p0) fun AR=>
 opt (zB P 111 0 AR) fun AS=>
 opt (zB P 43 2 AS) fun AT=>
 opt (zE P 40 AA AT) fun AU=>
 opt (zX P .len [40] [AU] AA) fun AV=>
 rtI .i64 AV fun AW=>
 fb (sQ AW 16) fun AX=>
 yO L 120 [(.bool AX),(.int .i64 2)] AA AQ (kp L 65 k go22 [] u) fun Af Ab Ac=>
 zJ P L 65 k .ret go22 (W.mk [] u Ab Ac)
theorem F65_eq:EY2 65 hq0 F65:=fun _ _ _ _ _ _ _ _ _=>by kernel_rfl
theorem l65:yU P 65=true:=by kernel_rfl
theorem r65:xW P 65=some []:=by kernel_rfl
noncomputable def F66:TY2:=fun L lp p0 p1 df u h n k=>
 yO L 116 [p1,(.string (ByteArray.mk #[114,101,115,117,108,116]))] h n (kp L 66 k go14 [] u) fun a1 h2 n3=>
 yO L 117 [p1] h2 n3 (kp L 66 k go14 [] u) fun a7 h8 n9=>
 opt (qY p0) fun AL=>
 opt (zB P 111 0 AL) fun AM=>
 opt (zB P 43 3 AM) fun AN=>
 zW P 9 AN a7 h8 n9 fun AO AP AW=>
 yO L 118 [p1] AO AP (kp L 66 k go14 [] u) fun AX AT AU=>
 zJ P L 66 k .ret go14 (W.mk [] u AT AU)
theorem F66_eq:EY2 66 hq0 F66:=fun _ _ _ _ _ _ _ _ _=>by kernel_rfl
theorem l66:yU P 66=true:=by kernel_rfl
theorem r66:xW P 66=some []:=by kernel_rfl
noncomputable def F67:TY1:=fun L lp p0 df u h n k=>
 opt (qY p0) fun v1=>
 opt (zB P 111 0 v1) fun v2=>
 opt (zB P 43 4 v2) fun v3=>
 opt (zE P 41 h v3) fun v4=>
 opt (zX P .len [41] [v4] h) fun v5=>
 rtI .i64 v5 fun a6=>
 fb (wB a6 200) fun a7=>
 yO L 120 [(.bool a7),(.int .i64 2)] h n (kp L 67 k go21 [] u) fun a8 h9 AL=>
 opt (qY p0) fun AM=>
 opt (zB P 111 0 AM) fun AN=>
 opt (zB P 43 4 AN) fun AO=>
 opt (zE P 41 h9 AO) fun AP=>
 zS P 41 1 [(0,(.slice none 0 0))] h9 AL fun AQ AR AS=>
 wD P [41,41] [AP,AS] AQ AR fun AT AU AV=>
 opt (qY p0) fun AW=>
 opt (zB P 111 0 AW) fun AX=>
 opt (zB P 43 4 AX) fun AY=>
 zW P 41 AY AV AT AU fun AZ Aa Ac=>
 zJ P L 67 k .ret go21 (W.mk [] u AZ Aa)
theorem F67_eq:EY1 67 hq0 F67:=fun _ _ _ _ _ _ _ _=>by kernel_rfl
theorem l67:yU P 67=true:=by kernel_rfl
theorem r67:xW P 67=some []:=by kernel_rfl
noncomputable def F68:TY2:=fun L lp p0 p1 df u h n k=>
 yO L 123 [p1] h n (kp L 68 k go37 [] u) fun a1 h2 n3=>
 tZ P 50 h2 n3 fun h7 n8 v9=>
 zW P 50 v9 a1 h7 n8 fun AT AU Ay=>
 yO L 118 [p1] AT AU (kp L 68 k go37 [] u) fun Az AA AG=>
 opt (qY p0) fun AY=>
 opt (zB P 111 0 AY) fun AZ=>
 opt (zB P 43 4 AZ) fun Aa=>
 opt (zE P 41 AA Aa) fun Ab=>
 opt (qY p0) fun Ac=>
 opt (zB P 111 0 Ac) fun Ad=>
 opt (zB P 43 4 Ad) fun Ae=>
 opt (zE P 41 AA Ae) fun Af=>
 opt (zX P .len [41] [Af] AA) fun Ag=>
 rtI .i64 Ag fun Ah=>
 fi (wH .i64 (isub Ah 1)) fun Ai=>
 opt (zR P 41 Ab (.int .i64 Ai)) fun AD=>
 gt (lks [(W.mk [] u AA AG)] []) (
 opt (qY AD) fun Aj=>
 opt (zE P 51 AA Aj) fun Ak=>
 opt (zX P .len [51] [Ak] AA) fun Al=>
 rtI .i64 Al fun Am=>
 fb (wB Am 400) fun An=>
 yO L 120 [(.bool An),(.int .i64 2)] AA AG (kp L 68 k go37 [] u) fun A0 AB AH=>
 opt (qY AD) fun Ar=>
 opt (zE P 51 AB Ar) fun As=>
 opt (zE P 50 AB v9) fun At=>
 zS P 51 1 [(0,At)] AB AH fun Au AI Av=>
 wD P [51,51] [As,Av] Au AI fun AJ AC Aw=>
 gt (Nat.ble AI AC) (
 opt (qY AD) fun Ax=>
 zW P 51 Ax Aw AJ AC fun AK AE A1=>
 gt (Nat.ble AC AE) (
 gt (lks [(W.mk [] u AK AE),(W.mk [] u AJ AC),(W.mk [] u AB AH)] []) (
 zJ P L 68 k .ret go37 (W.mk [] u AK AE)))))
theorem F68_eq:EY2 68 hq0 F68:=fun _ _ _ _ _ _ _ _ _=>by kernel_rfl
theorem l68:yU P 68=true:=by kernel_rfl
theorem r68:xW P 68=some []:=by kernel_rfl
noncomputable abbrev fo124(s2:Value):Fr:=gf4 ud ud s2 ud
noncomputable def F124:TY1:=fun L lp p0 df u h n k=>
 eBox p0 h n fun h1 n2 v3=>
 letV (.func (.func 159) (Array.mk []) (Array.mk [v3])) fun v4=>
 zJ P L 124 k .ret (fo124 v4) (W.mk [] u h1 n2)
theorem F124_eq:EY1 124 hq0 F124:=fun _ _ _ _ _ _ _ _=>by kernel_rfl
theorem l124:yU P 124=true:=by kernel_rfl
theorem r124:xW P 124=some [.tmp 2]:=by kernel_rfl
noncomputable abbrev fj159_0(t:Fr)(s0 s3 s4 s5 s7 s8 s9 s10 s12 s19 s20 s21 s22 s23 s24:Value):Fr:=gf25 s0 (zA t 1) (zA t 2) s3 s4 s5 (zA t 6) s7 s8 s9 s10 (zA t 11) s12 (zA t 13) (zA t 14) (zA t 15) (zA t 16) (zA t 17) (zA t 18) s19 s20 s21 s22 s23 s24
noncomputable abbrev hint159:rD:=hq [(0,1000001,[.val,.any,.any,(.int .i64)]),(1,1,[.val,.any,.any,(.int .i64)]),(2,0,[.val,.any,.any,(.int .i64)]),(2,5,[.val,.any,.any,(.int .i64),.val,.val])]
noncomputable def F159:TY2:=fun L lp p0 p1 df u h n k=>
 lp 1000001 ⟨159,none,df⟩ (gf25 p0 p1 ud (vi 1) ud ud ud ud ud ud ud ud ud ud ud ud ud ud ud ud ud ud ud ud ud) (W.mk [] u h n) (pH noK (pI 0 (fun t1 w2=>
 onW w2 fun d3 u4 h5 n6=>
 zJ P L 159 k .ret (fj159_0 t1 (zA t1 0) (zA t1 3) (zA t1 4) (zA t1 5) (zA t1 7) (zA t1 8) (zA t1 9) (zA t1 10) (zA t1 12) (zA t1 19) (zA t1 20) (zA t1 21) (zA t1 22) (zA t1 23) (zA t1 24)) (W.mk d3 u4 h5 n6)) (zJ P L 159 k)))
theorem F159_eq:EY2 159 hint159 F159:=fun _ _ _ _ _ _ _ _ _=>by kernel_rfl
noncomputable def B159_1000001:TYB:=fun L lp rd df t w ka=>
 zL (zA t 0) fun s7=>
 rtI .i64 (zA t 3) fun s8=>
 onW w fun d9 AN AO AX=>
 opt (zE P 9 AO (zA t 1)) fun AH=>
 yB pW P .neq 9 true AH (.string (ByteArray.mk #[])) fun AI=>
 br AI (
 pM (fun Ae=>
 opt (zE P 9 AO (zA t 1)) fun AP=>
 yO L 160 [AP,(.string (ByteArray.mk #[10]))] AO AX (kb ka (fj159_0 t s7 (vi s8) (zA t 4) (zA t 5) AH (vb AI) (zA t 9) (zA t 10) AP (zA t 19) (zA t 20) (zA t 21) (zA t 22) (zA t 23) (zA t 24)) d9 AN) fun AC AY AZ=>
 opt (xO 0 AC) fun AR=>
 opt (xO 1 AC) fun AQ=>
 opt (xO 2 AC) fun Ai=>
 rtB Ai fun AD=>
 opt (aUn .not (.bool AD)) fun Aj=>
 rtB Aj fun AS=>
 brJ AS (fun Ak=>
 Ak (gf25 s7 (zA t 1) (zA t 2) (vi s8) (.string (ByteArray.mk #[])) AQ (vb AD) AH (vb AI) (zA t 9) (zA t 10) AC AP AC AR AQ (vb AD) (vb AD) (vb AS) (zA t 19) (zA t 20) (zA t 21) (zA t 22) (zA t 23) (zA t 24)) (W.mk d9 AN AY AZ)) (fun Al=>
 Al (gf25 s7 (zA t 1) (zA t 2) (vi s8) AR AQ (vb AD) AH (vb AI) (zA t 9) (zA t 10) AC AP AC AR AQ (vb AD) (vb AD) (vb AS) (zA t 19) (zA t 20) (zA t 21) (zA t 22) (zA t 23) (zA t 24)) (W.mk d9 AN AY AZ)) (fun AA Am=>
 zL (zA AA 0) fun AE=>
 rtI .i64 (zA AA 3) fun AF=>
 zL (zA AA 4) fun AG=>
 zL (zA AA 5) fun AJ=>
 onW Am fun AT AU An Ao=>
 invokeB L AE [(.int .i64 AF),AG] An Ao (kb ka (fj159_0 AA AE (vi AF) AG AJ (zA AA 7) (zA AA 8) (zA AA 9) (zA AA 10) (zA AA 12) AE (vi AF) AG (zA AA 22) (zA AA 23) (zA AA 24)) AT AU) fun AV Aa Ab=>
 opt (aUn .not (.bool AV)) fun As=>
 rtB As fun AW=>
 br AW (
 ka .ret (fj159_0 AA AE (vi AF) AG AJ (zA AA 7) (zA AA 8) (zA AA 9) (zA AA 10) (zA AA 12) AE (vi AF) AG (vb AV) (vb AW) (zA AA 24)) (W.mk AT AU Aa Ab)) (
 zW P 9 (zA AA 1) AJ Aa Ab fun At Au A1=>
 Ae (fj159_0 AA AE (vi AF) AG AJ (zA AA 7) (zA AA 8) (zA AA 9) (zA AA 10) (zA AA 12) AE (vi AF) AG (vb AV) (vb AW) AJ) (W.mk AT AU At Au)))) (fun AB Av=>
 zL (zA AB 0) fun Aw=>
 rtI .i64 (zA AB 3) fun Ac=>
 onW Av fun Ax Ay Az A0=>
 fi (wH .i64 (uF Ac 1)) fun Ad=>
 lp 1000001 ⟨159,rd,df⟩ (fj159_0 AB Aw (vi Ad) (zA AB 4) (zA AB 5) (zA AB 7) (zA AB 8) (vi Ac) (vi Ad) (zA AB 12) (zA AB 19) (zA AB 20) (zA AB 21) (zA AB 22) (zA AB 23) (zA AB 24)) (W.mk Ax Ay Az A0) ka)) (
 ka (.exit 0) (fj159_0 t s7 (vi s8) (zA t 4) (zA t 5) AH (vb AI) (zA t 9) (zA t 10) (zA t 12) (zA t 19) (zA t 20) (zA t 21) (zA t 22) (zA t 23) (zA t 24)) (W.mk d9 AN AO AX))
theorem B159_1000001_eq:EYB 159 1000001 hint159 B159_1000001:=fun _ _ _ _ _ _ _=>by kernel_rfl
theorem l159:yU P 159=true:=by kernel_rfl
theorem r159:xW P 159=some []:=by kernel_rfl
theorem lp159_1000001:vC (yZ P 159 1000001)=true:=by kernel_rfl
noncomputable abbrev fo22(s2 s3 s4:Value):Fr:=gf45 ud ud s2 s3 s4 ud ud ud ud ud ud ud ud ud ud ud ud ud ud ud ud ud ud ud ud ud ud ud ud ud ud ud ud ud ud ud ud ud ud ud ud ud ud ud ud
noncomputable abbrev hint22:rD:=hq [(2,2,[.val,.any,.val]),(2,7,[.any,.any,.val,.any,.any,.val])]
noncomputable def F22:TY1:=fun L lp p0 df u h n k=>
 tZ P 43 h n fun h1 n2 v3=>
 opt (zX P .len [9] [p0] h1) fun v4=>
 rtI .i64 v4 fun a5=>
 fb (wB 65536 a5) fun a6=>
 br a6 (
 opt (uZ P 43 []) fun v7=>
 zW P 43 v3 v7 h1 n2 fun h8 n9 At=>
 zJ P L 22 k .ret (fo22 v3 (.int .i64 0) (.int .i64 2)) (W.mk [] u h8 n9)) (
 opt (uZ P 111 []) fun AO=>
 eBox AO h1 n2 fun AP AQ AB=>
 letV (.func (.func 63) (Array.mk [AB]) (Array.mk [])) fun AR=>
 letV (.func (.func 64) (Array.mk [AB]) (Array.mk [])) fun AS=>
 letV (.func (.func 65) (Array.mk [AB]) (Array.mk [])) fun AT=>
 letV (.func (.func 66) (Array.mk [AB]) (Array.mk [])) fun AU=>
 zS P 114 4 [(0,AR),(1,AS),(2,AT),(3,AU)] AP AQ fun AV AW AX=>
 letV (.func (.func 67) (Array.mk [AB]) (Array.mk [])) fun AY=>
 letV (.func (.func 68) (Array.mk [AB]) (Array.mk [])) fun AZ=>
 opt (uZ P 116 [(0,AX),(1,AY),(2,AZ)]) fun Aa=>
 eBox Aa AV AW fun Ab Ac Ad=>
 yO L 69 [Ad,p0] Ab Ac (kp L 22 k (fo22 v3 (.int .i64 0) (.int .i64 0)) [] u) fun AF AD AG=>
 opt (xO 0 AF) fun Ah=>
 rtI .i64 Ah fun Ai=>
 opt (xO 1 AF) fun Aj=>
 rtI .i64 Aj fun AH=>
 fb (pW AH 0) fun Ak=>
 br Ak (
 opt (uZ P 43 []) fun Al=>
 zW P 43 v3 Al AD AG fun Am An Au=>
 zJ P L 22 k .ret (fo22 v3 (.int .i64 Ai) (.int .i64 AH)) (W.mk [] u Am An)) (
 opt (qY AB) fun Ao=>
 opt (zB P 111 0 Ao) fun Ap=>
 opt (zE P 43 AD Ap) fun Aq=>
 zW P 43 v3 Aq AD AG fun Ar As Av=>
 zJ P L 22 k .ret (fo22 v3 (.int .i64 0) (.int .i64 0)) (W.mk [] u Ar As)))
theorem F22_eq:EY1 22 hint22 F22:=fun _ _ _ _ _ _ _ _=>by kernel_rfl
theorem l22:yU P 22=true:=by kernel_rfl
theorem r22:xW P 22=some [.cell 2 43,.tmp 3,.tmp 4]:=by kernel_rfl
end Go.Proofs.YtapnnpoljobanaaGreatDoor
