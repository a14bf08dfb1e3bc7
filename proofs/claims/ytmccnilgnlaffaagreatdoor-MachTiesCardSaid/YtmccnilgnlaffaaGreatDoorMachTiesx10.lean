/- What the law leans on: an executor of the model that is sound, deduction over it, and the walks through the code (part 10 of 18). Conditions: those that each theorem states. -/
import Derived.Test.YtmccnilgnlaffaaGreatDoorMachTiesx9
import Derived.KernelRfl
import Derived.Calls
import Derived.Shelf.Strings.Builder1
import Derived.Lib.IndexMore
import Derived.Lib.Split
import Derived.Lib.CountLaws
import Derived.Test.YtmccnilgnlaffaaGreatDoorProg

set_option linter.unusedVariables false
set_option linter.unusedSimpArgs false
namespace Go.Ex
noncomputable def slB(P:Program)(ty e sz:Nat):Bool:=match und P ty with
  | some (.slice e') => match inf? P e' with
    | some ei=>Nat.beq e' e && Nat.beq ei.size sz
    | none=>false
  | _=>false
 class SlC (P:Program) (ty:Nat) (e sz:outParam Nat):Prop where ok:slB P ty e sz=true
theorem SlC.get{P:Program}{ty e sz:Nat}(s:SlC P ty e sz):und P ty=some (.slice e)∧∃ei,inf? P e=some ei∧ei.size=sz:=by
 have h:=s.ok;unfold slB at h;split at h
 · rename_i e' h1;split at h
   · rename_i ei h2;obtain⟨a,b⟩:=Bool.and_eq_true_iff.1 h;have a:=zE a;have b:=zE b;subst a;exact⟨h1,ei,h2,b⟩
   · cases h
 · cases h
theorem bound_at{d most k:Nat}(h:k≤most):zX d most (some (I64 (k:Nat)))=some k:=by
 show(cond (Nat.ble k most) (some k) none:Option Nat)=some k;rw [vJ h];rfl
section
variable {P:Program} {ty e sz lo n len k:Nat} {h:zB} {v:Value} {vs:List Value}
theorem slice_full[s:SlC P ty e sz](o:Own lo n h v e sz len vs)(hk:k≤len)(hl:len<1000000)(hs:1≤sz):∃v',wB P h ty v none (some (I64 (k:Nat))) (some (I64 (k:Nat)))=some v'∧Row n h v' e sz k (vs.take (k*sz))∧zO v'=zO v∧(v' = .slice none 0 0∨∃b,v' = .slice (some ⟨b,0,none⟩) k k):=by
 obtain⟨hu,ei,hi,hsz⟩:=s.get;rcases o with⟨rfl,rfl,rfl⟩|⟨b,q1,q2,rfl,q3,q4,q5,q6⟩
 · obtain rfl:k=0:=by omega
   refine⟨.slice none 0 0,?_,.inl ⟨rfl,rfl,by simp⟩,rfl,.inl rfl⟩;unfold wB;rw [hu];dsimp only;rw [hi];rfl
 · have hinf:(1000000:Nat)≤inf:=by decide
   refine⟨.slice (some ⟨b,0,none⟩) k k,?_,?_,rfl,.inr ⟨b,rfl⟩⟩
   · unfold wB;rw [hu];dsimp only;rw [hi];dsimp only;have hci:Nat.beq inf inf=true:=Nat.beq_refl _;rw [hci];cases hg:zF h b <;> rw[hg]at q3 <;> first|(cases q3;done)|(exact absurd (kd_of q3) (by decide))|skip
     rename_i c kn z' kd';have q3':some (kn,z',kd')=some (vs.length,zc e sz,1):=q3;simp only[Option.some.injEq,Prod.mk.injEq]at q3';obtain⟨rfl,rfl,rfl⟩:=q3';show cond (Nat.beq (zc e sz) (zc e ei.size) && Nat.ble 1 ei.size) (uC ⟨b,0,none⟩ len ei.size none (some (I64 (k:Nat))) (some (I64 (k:Nat)))) none=_;rw [hsz,Nat.beq_refl,vJ hs];unfold uC;dsimp only[Bool.and_self,cond_true];rw [bound_at hk];dsimp only;rw [bound_at (Nat.le_refl k)];show cond (Nat.blt k inf) (some (Value.slice (some (cond (Nat.beq k 0) ⟨b,0,none⟩ (far ⟨b,0,none⟩ (Nat.mul 0 sz)))) (Nat.sub k 0) (Nat.sub k 0))) none=_;rw [yU (by omega)];have e0:Nat.mul 0 sz=0:=Nat.zero_mul sz;rw [e0];have e1:far ⟨b,0,none⟩ 0=⟨b,0,none⟩:=rfl;rw [e1];cases Nat.beq k 0 <;> rfl
   · have hkl:k*sz≤len*sz:=Nat.mul_le_mul_right _ hk;refine .inr ⟨b,0,k,vs.length,zc e sz,1,q2,rfl,?_,q3,?_,fun j x hj=>?_,.inl ⟨by omega,Nat.le_refl _⟩⟩
     · rw[List.length_take,q4];omega
     · rw[List.length_take];omega
     · rw[List.getElem?_take]at hj;split at hj
       · rw[Nat.zero_add,q6];exact hj
       · cases hj
theorem ofListFrom_append:∀(l:List Value) (c:Tr Value) (i:Nat) (l':List Value),Tr.ofListFrom undef (Tr.ofListFrom undef c i l) (i+l.length) l'=Tr.ofListFrom undef c i (l++l'):=by
 intro l
 induction l with
 | nil=>intro c i l';rfl
 | cons a l ih=>
  intro c i l';rw [List.cons_append,List.length_cons,show i+(l.length+1)=(i+1)+l.length by omega];exact ih _ (i+1) l'
def WayR(lo n:Nat)(h:zB)(v:Value)(e sz len:Nat)(vs:List Value):Prop:=∃b m z kd cap,lo≤b∧b<n∧v = .slice (some ⟨b,0,none⟩) len cap∧xI (zF h b)=some (m,z,kd)∧vs.length=len*sz∧vs.length≤m∧(∀i,i<vs.length→zC h b i=vs[i]?)∧
 ((kd=0∧z=0∧cap<inf∧len≤cap∧cap*sz≤m)∨(kd=1∧cap=inf∧z=zc e sz))
theorem WayR.row(r:WayR lo n h v e sz len vs)(hs:1≤sz):Row n h v e sz len vs:=by
 obtain⟨b,m,z,kd,cap,h1,h2,rfl,h3,h4,h5,h6,h7⟩:=r;refine .inr ⟨b,0,cap,m,z,kd,h2,rfl,h4,h3,by omega,fun j x hj=>?_,?_⟩
 · rw[Nat.zero_add,h6 j (List.getElem?_eq_some_iff.1 hj).1];exact hj
 · rcases h7 with⟨rfl,_,g1,g2,g3⟩|⟨rfl,rfl,rfl⟩
   · exact .inl ⟨g1,g2⟩
   · exact .inr ⟨rfl,rfl,rfl,hs⟩
theorem WayR.blk(r:WayR lo n h v e sz len vs){b:Nat}(hb:zO v=some b):lo≤b∧b<n:=by
 obtain⟨b',m,z,kd,cap,h1,h2,rfl,_⟩:=r;injection hb with hb;subst hb;exact⟨h1,h2⟩
theorem WayR.keep(r:WayR lo n h v e sz len vs){h':zB}{n':Nat}(hn:n≤n')(ek:∀b,zO v=some b→zF h' b=zF h b):WayR lo n' h' v e sz len vs:=by
 obtain⟨b,m,z,kd,cap,h1,h2,rfl,h3,h4,h5,h6,h7⟩:=r;have he:=ek b rfl;exact⟨b,m,z,kd,cap,h1,Nat.lt_of_lt_of_le h2 hn,rfl,by rw[he];exact h3,h4,h5,fun i hi=>by unfold zC;rw [he];exact h6 i hi,h7⟩
theorem WayR.tch{S:List Nat}{h':zB}{n':Nat}(r:WayR lo n h v e sz len vs)(t:Tch S h n h' n')(hS:∀b,zO v=some b→b∉S):WayR lo n' h' v e sz len vs:=
 r.keep t.1 fun b hb=>t.2 b (r.blk hb).2 (hS b hb)
theorem way_new{cs:List Value}(hlo:lo≤n)(hl:cs.length=len*sz)(hlt:len<inf):WayR lo (n+1) (hal h n (mkC cs 0 0)) (.slice (some ⟨n,0,none⟩) len len) e sz len cs:=by
 refine⟨n,cs.length,0,0,len,hlo,Nat.lt_succ_self n,rfl,?_,hl,Nat.le_refl _,fun i _=>?_,.inl ⟨rfl,rfl,hlt,Nat.le_refl _,by omega⟩⟩
 · rw[zM,if_pos rfl];exact uJ _ _ _
 · unfold zC;rw [zM,if_pos rfl];exact vP _ _ _ _
theorem way_cut[s:SlC P ty e sz](r:WayR lo n h v e sz len vs)(hk:k≤len)(hs:1≤sz):∃v',wB P h ty v none (some (I64 (k:Nat))) none=some v'∧WayR lo n h v' e sz k (vs.take (k*sz))∧zO v'=zO v:=by
 obtain⟨hu,ei,hi,hsz⟩:=s.get;obtain⟨b,m,z,kd,cap,h1,h2,rfl,h3,h4,h5,h6,h7⟩:=r;have hkl:k*sz≤len*sz:=Nat.mul_le_mul_right _ hk
 have hw:∀cap',((kd=0∧z=0∧cap'<inf∧k≤cap'∧cap'*sz≤m)∨(kd=1∧cap'=inf∧z=zc e sz))→WayR lo n h (.slice (some ⟨b,0,none⟩) k cap') e sz k (vs.take (k*sz)):=fun cap' hc=>by
  refine⟨b,m,z,kd,cap',h1,h2,rfl,h3,by rw[List.length_take];omega,by rw[List.length_take];omega,fun i hi=>?_,hc⟩;rw [List.length_take]at hi;rw [h6 i (by omega),List.getElem?_take_of_lt (by omega)]
 rcases h7 with⟨rfl,rfl,g1,g2,g3⟩|⟨rfl,rfl,rfl⟩
 · refine⟨.slice (some ⟨b,0,none⟩) k cap,?_,hw cap (.inl ⟨rfl,rfl,g1,by omega,g3⟩),rfl⟩;unfold wB;rw [hu];dsimp only;rw [hi];dsimp only
   have hci:Nat.beq cap inf=false:=by
    cases e9:Nat.beq cap inf with
    | false=>rfl
    | true=>have:=zE e9;omega
   rw[hci];show vA ⟨b,0,none⟩ len cap ei.size none (some (I64 (k:Nat))) none=_;unfold vA
   show(match zX len cap (some (I64 (k:Nat))) with
    | none=>none
    | some h=>match zX 0 h none with
     | none=>none
     | some l=>cond (Nat.blt cap inf && Nat.ble h cap) (some (Value.slice (some (cond (Nat.beq cap l) ⟨b,0,none⟩ (far ⟨b,0,none⟩ (Nat.mul l ei.size)))) (Nat.sub h l) (Nat.sub cap l))) none:Option Value)=_
   rw[bound_at (by omega)];show cond (Nat.blt cap inf && Nat.ble k cap) (some (Value.slice (some (cond (Nat.beq cap 0) ⟨b,0,none⟩ (far ⟨b,0,none⟩ (Nat.mul 0 ei.size)))) (Nat.sub k 0) (Nat.sub cap 0))) none=_;rw [yU g1,vJ (by omega)];have e0:Nat.mul 0 ei.size=0:=Nat.zero_mul _;rw [e0];have e1:far ⟨b,0,none⟩ 0=⟨b,0,none⟩:=rfl;rw [e1];cases Nat.beq cap 0 <;> rfl
 · refine⟨.slice (some ⟨b,0,none⟩) k inf,?_,hw inf (.inr ⟨rfl,rfl,rfl⟩),rfl⟩;unfold wB;rw [hu];dsimp only;rw [hi];dsimp only;have hci:Nat.beq inf inf=true:=Nat.beq_refl _;rw [hci];cases hg:zF h b <;> rw[hg]at h3 <;> first|(cases h3;done)|(exact absurd (kd_of h3) (by decide))|skip
   rename_i c kn z' kd';have q3':some (kn,z',kd')=some (m,zc e sz,1):=h3;simp only[Option.some.injEq,Prod.mk.injEq]at q3';obtain⟨rfl,rfl,rfl⟩:=q3';show cond (Nat.beq (zc e sz) (zc e ei.size) && Nat.ble 1 ei.size) (uC ⟨b,0,none⟩ len ei.size none (some (I64 (k:Nat))) none) none=_;rw [hsz,Nat.beq_refl,vJ hs];unfold uC;dsimp only[Bool.and_self,cond_true];rw [bound_at hk];show some (Value.slice (some (far ⟨b,0,none⟩ (Nat.mul 0 sz))) (Nat.sub k 0) inf)=_;have e0:Nat.mul 0 sz=0:=Nat.zero_mul _;rw [e0];rfl
theorem way_app{sT xT m:Nat}{x:Value}{new:List Value}[A:ApC P sT xT e sz]{cx:Cx}{d:List Deferred}{u:Option zH}{K:W→Value→Prop}(r:WayR lo n h v e sz len vs)(hvs:∀y∈vs,y.oneCell'=true)(hlo:lo≤n)(hr:Row n h x e sz m new)(hm:0<m)(h1:∀y∈new,y.oneCell'=true)(hlim:len+m<1000000)
(k:∀v' h' n',WayR lo n' h' v' e sz (len+m) (vs++new)→(∀b,zO v'=some b→zO v=some b∨n≤b)→Tch (zO v).toList h n h' n'→K ⟨d,u,h',n'⟩ v'):BuB P cx .append [sT,xT] [v,x] d u h n K:=by
 obtain⟨xd,ei,z0,t1,t2,t3,t4,t5,t6,t7,t8,t9⟩:=apTB_of A.ok;have hnew:new.length=m*sz:=hr.lens;have hap:yW P h e ei.size xd x=some (m,new):=by rw[t6];exact vR t3 hr
 have hrow:=(row_of (r.row (by omega))).1;obtain⟨b,bm,z,kd,cap,g1,g2,rfl,g3,g4,g5,g6,g7⟩:=r;show wS P [sT,xT] [.slice (some ⟨b,0,none⟩) len cap,x] h n (fun h' n' v'=>yZ (K ⟨d,u,h',n'⟩ v'))=true;unfold wS uL;dsimp only;rw [t1,t2];dsimp only;rw [t4,t5];dsimp only;rw [hap];dsimp only
 have c1:(Nat.beq ei.size 0 || !Nat.beq (cellsOf z0).length ei.size || !Nat.blt (Nat.add len m) 1000000 || !Nat.blt ei.bytes 100000)=false:=by
  have a1:Nat.beq ei.size 0=false:=by
   cases e9:Nat.beq ei.size 0 with
   | false=>rfl
   | true=>have:=zE e9;omega
  have a2:Nat.beq (cellsOf z0).length ei.size=true:=by rw[t7,t6];exact Nat.beq_refl _
  rw[a1,a2,yU (show Nat.add len m<1000000 from hlim),yU t9];rfl
 rw[c1]
 have hm0:Nat.beq m 0=false:=by
  cases e9:Nat.beq m 0 with
  | false=>rfl
  | true=>have:=zE e9;omega
 rw[hm0];show cond (Nat.beq cap inf) _ _=true;have hlen:(vs++new).length=(len+m)*sz:=by rw[List.length_append,g4,hnew,Nat.add_mul]
 have inplace:(len+m)*sz≤bm→∀cap',((kd=0∧z=0∧cap'<inf∧len+m≤cap'∧cap'*sz≤bm)∨(kd=1∧cap'=inf∧z=zc e sz))→K ⟨d,u,hst h b (len*sz) new,n⟩ (.slice (some ⟨b,0,none⟩) (len+m) cap'):=fun hle cap' hc=>by
  have hk3:kd≠3:=by rcases hc with⟨rfl,_⟩|⟨rfl,_⟩ <;> decide
  have hfit:len*sz+new.length≤bm:=by rw[hnew,← Nat.add_mul];exact hle
  refine k _ _ _ ⟨b,bm,z,kd,cap',g1,g2,rfl,?_,hlen,by omega,fun i hi=>?_,hc⟩ (fun b' hb'=>.inl hb') ⟨Nat.le_refl _,fun b' hb' hS=>?_⟩
  · rw[xB,if_pos rfl,sE];exact g3
  · unfold zC;rw [xB,if_pos rfl,cellOf_stC _ _ _ g3 hfit hk3];by_cases hi2:len*sz≤i
    · rw[if_pos (by rw[List.length_append]at hi;omega),List.getElem?_append_right (by omega),g4]
    · rw[if_neg (by omega),List.getElem?_append_left (by omega)];exact g6 i (by omega)
  · rw[xB,if_neg (by
     rintro rfl
     exact hS (by simp[zO]))]
 have fresh:∀(c:Tr Value) (h1':zB),(∀i,i<vs.length→Tr.get undef c i=(vs[i]?).getD undef)→(∀b',b'≠b→zF h1' b'=zF h b')→K ⟨d,u,hal h1' n (.cells (Tr.ofListFrom undef c vs.length new) ((len+m)*sz) (zc e sz) 1),n+1⟩ (.slice (some ⟨n,0,none⟩) (len+m) inf):=fun c h1' hc hh=>by
  refine k _ _ _ ⟨n,(len+m)*sz,zc e sz,1,inf,hlo,Nat.lt_succ_self n,rfl,?_,hlen,by omega,fun i hi=>?_,.inr ⟨rfl,rfl,rfl⟩⟩ (fun b' hb'=>.inr (by
   injection hb' with hb';have hb':n=b':=hb';omega)) ⟨Nat.le_succ n,fun b' hb' hS=>?_⟩
  · rw[zM,if_pos rfl];rfl
  · unfold zC;rw [zM,if_pos rfl];unfold xH;dsimp only;rw [if_pos (by omega),Tr.get_ofListFrom];rw [List.length_append]at hi;by_cases hi2:vs.length≤i
    · rw[if_pos (by omega),List.getElem?_append_right hi2];simp [List.getElem?_eq_getElem (show i - vs.length<new.length by omega),List.getD_eq_getElem?_getD]
    · rw[if_neg (by omega),hc i (by omega),List.getElem?_append_left (by omega),List.getElem?_eq_getElem (by omega)];rfl
  · rw[zM,if_neg (by omega)]
    exact hh b' (by
     rintro rfl
     exact hS (by simp[zO]))
 rcases g7 with⟨rfl,rfl,p1,p2,p3⟩|⟨rfl,rfl,rfl⟩
 · have hci:Nat.beq cap inf=false:=by
    cases e9:Nat.beq cap inf with
    | false=>rfl
    | true=>have:=zE e9;omega
   rw[hci];show growEx h n (some ⟨b,0,none⟩) len cap m ei.size (zc e ei.size) new (fun v h n=>yZ (K ⟨d,u,h,n⟩ v))=true;unfold growEx;by_cases hc:len+m≤cap
   · rw[vJ (show Nat.add len m≤cap from hc)];show storeAt h b (Nat.add 0 (Nat.mul len ei.size)) new (fun h'=>yZ (K ⟨d,u,h',n⟩ (.slice (some ⟨b,0,none⟩) (Nat.add len m) cap)))=true;have e0:Nat.add 0 (Nat.mul len ei.size)=len*sz:=by rw[t6];exact Nat.zero_add _
     rw[e0];have hcm:(len+m)*sz≤bm:=Nat.le_trans (Nat.mul_le_mul_right _ hc) p3;refine sF g3 ⟨by decide,by decide⟩ (by rw[hnew,← Nat.add_mul];exact hcm) h1 ?_;exact isSo_iff.2 (inplace hcm cap (.inl ⟨rfl,rfl,p1,hc,p3⟩))
   · have e1:Nat.ble (Nat.add len m) cap=false:=by
      cases e9:Nat.ble (Nat.add len m) cap with
      | false=>rfl
      | true=>exact absurd (yG e9) hc
     rw[e1]
     show(match rowOf h ei.size len (.slice (some ⟨b,0,none⟩) len cap) with
      | some old=>yX .lF 0 (old++new) fun c=>zP h n (.cells c (Nat.mul (Nat.add len m) ei.size) (zc e ei.size) 1) fun h' n'=>yZ (K ⟨d,u,h',n'⟩ (.slice (some ⟨n,0,none⟩) (Nat.add len m) inf))
      | none=>false)=true
     rw[t6,hrow];dsimp only;refine xU (fun y hy=>(List.mem_append.1 hy).elim (hvs y) (h1 y)) ?_;rw [xM];have:=fresh (Tr.ofListFrom undef .lF 0 vs) h (fun i hi=>by rw[Tr.get_ofListFrom,if_pos (by omega)];simp [List.getD_eq_getElem?_getD]) (fun _ _=>rfl)
     have e3:Tr.ofListFrom undef (Tr.ofListFrom undef .lF 0 vs) vs.length new=Tr.ofListFrom undef .lF 0 (vs++new):=by
      have:=ofListFrom_append vs .lF 0 new
      rwa [Nat.zero_add]at this
     rw[e3]at this;exact isSo_iff.2 this
 · have hci:Nat.beq inf inf=true:=Nat.beq_refl _;rw [hci];show uD h n b len m ei.size (zc e ei.size) new (fun v h n=>yZ (K ⟨d,u,h,n⟩ v))=true;unfold uD;have g3':=g3;cases hg:zF h b <;> rw[hg]at g3 <;> first|(cases g3;done)|(exact absurd (kd_of g3) (by decide))|skip
   rename_i c kn z' kd';have q3':some (kn,z',kd')=some (bm,zc e sz,1):=g3;simp only[Option.some.injEq,Prod.mk.injEq]at q3';obtain⟨rfl,rfl,rfl⟩:=q3';show cond (Nat.beq (zc e sz) (zc e ei.size)) _ _=true;have e5:Nat.beq (zc e sz) (zc e ei.size)=true:=by rw[t6];exact Nat.beq_refl _
   rw[e5];by_cases hc:(len+m)*sz≤kn
   · rw[vJ (show Nat.mul (Nat.add len m) ei.size≤kn by rw[t6];exact hc)];show storeAt h b (Nat.mul len ei.size) new (fun h'=>yZ (K ⟨d,u,h',n⟩ (.slice (some ⟨b,0,none⟩) (Nat.add len m) inf)))=true;have e0:Nat.mul len ei.size=len*sz:=by rw[t6];rfl
     rw[e0];refine sF g3' ⟨by decide,by decide⟩ (by rw[hnew,← Nat.add_mul];exact hc) h1 ?_;exact isSo_iff.2 (inplace hc inf (.inr ⟨rfl,rfl,rfl⟩))
   · have e6:Nat.ble (Nat.mul (Nat.add len m) ei.size) kn=false:=by
      cases e9:Nat.ble (Nat.mul (Nat.add len m) ei.size) kn with
      | false=>rfl
      | true=>have:=yG e9;rw [t6]at this;exact absurd this hc
     rw[e6];have e7:Nat.mul len ei.size=vs.length:=by rw[t6];exact g4.symm
     rw[e7,vJ g5];show yX c vs.length new _=true;refine xU h1 ?_;rw [Tr.setK_eq,xM];have hmm:Nat.mul (Nat.add len m) ei.size=(len+m)*sz:=by rw[t6];rfl
     rw[hmm];refine isSo_iff.2 (fresh c _ (fun i hi=>?_) fun b' hb'=>?_)
     · have:=g6 i hi;unfold zC at this;rw [hg]at this;unfold xH at this;dsimp only at this;rw [if_pos (by omega)]at this;rw [← this];rfl
     · rw[zI,if_neg fun e=>hb' e.symm]
end
end Go.Ex
namespace Go.Ex
def Low(nI:Nat)(h:zB)(n:Nat)(h':zB)(n':Nat):Prop:=n≤n'∧∀b,b<nI→zF h' b=zF h b
theorem Tch.lowR{S:List Nat}{h h':zB}{n n' nI:Nat}(t:Tch S h n h' n')(hn:nI≤n)(hS:∀b∈S,nI≤b):Low nI h n h' n':=⟨t.1,fun b hb=>t.2 b (by omega) fun hx=>by have:=hS b hx;omega⟩
section
variable {P:Program} {ng:Nat}
def IterM(P:Program)(ng:Nat){α : Type}(elR: α→Value→zB→Nat→Prop)(elems:List α)(g:FuncId)(args:List Value)(L nI:Nat)(h:zB)(n:Nat)(E:zB→Nat→Prop):Prop:=
 ∀(J:List α→zB→Nat→Prop) (JF:zB→Nat→Prop),(∀done h' n',J done h' n'→E h' n')→(∀done h' n' h2 n2,J done h' n'→Low nI h' n' h2 n2→J done h2 n2)→(∀h' n' h2 n2,JF h' n'→Low nI h' n' h2 n2→JF h2 n2)→J [] h n→
  (∀done e v h' n',J done h' n'→elR e v h' n'→(done++[e]) <+: elems→Rou P ng L [v] h' n' fun r h2 n2=>n'≤n2∧((r = .ret (.bool true)∧J (done++[e]) h2 n2∧Tch (List.range nI) h' n' h2 n2)∨(r = .ret (.bool false)∧JF h2 n2∧Tch (List.range nI) h' n' h2 n2)))→
  Com P ng g args h n fun r h' n'=>n≤n'∧r = .ret (.tuple #[])∧(J elems h' n'∨JF h' n')
theorem it_coreM[Fit P ng]{α : Type}{elR: α→Value→zB→Nat→Prop}{elems:List α}{ps:List Tmp}{assign body:Code}{fn:FuncId}{l:List (Nat×Value)}{t:Fr}{cx:Cx}{d:List Deferred}{u:Option zH}{h:zB}{n L D nI:Nat}{Q:QX}{g:FuncId}{args:List Value}{E:zB→Nat→Prop}
(I:List α→zB→Nat→Prop)(F:Code→zB→Nat→Prop)(hps:ps.length=1)(it:IterM P ng elR elems g args L nI h n E)(hE:∀done h' n',I done h' n'→E h' n')
(hcl:∀done h' n' h2 n2,I done h' n'→Low nI h' n' h2 n2→I done h2 n2)(hclF:∀j h' n' h2 n2,F j h' n'→Low nI h' n' h2 n2→F j h2 n2)(hLI:L<nI)
(hL:zF h L=LoO .ready none fn ps.toArray assign body D (FA l t))(h0:I [] h n)
(bd:∀done e v h' n',I done h' n'→zF h' L=LoO .ready none fn ps.toArray assign body D (FA l t)→elR e v h' n'→(done++[e]) <+: elems→WC P ng assign ⟨fn,some L,false⟩ (FA (parl ps [v] l) t) ⟨[],none,h',n'⟩ (asQ P ng L fn ps.toArray assign body D (FA l t) fun r h2 n2=>n'≤n2∧((r = .ret (.bool true)∧zF h2 L=LoO .ready none fn ps.toArray assign body D (FA l t)∧I (done++[e]) h2 n2∧Tch (List.range nI) h' n' h2 n2)∨(r = .ret (.bool false)∧(∃j,zF h2 L=LoO .done (some j) fn ps.toArray assign body D (FA l t)∧F j h2 n2)∧Tch (List.range nI) h' n' h2 n2))))
(fin:∀h' n',n≤n'→I elems h' n'→Q .normal (FA l t) ⟨d,u,hal h' L (LoO .exhausted none fn ps.toArray assign body D (FA l t)),n'⟩)
(finF:∀j h' n',n≤n'→F j h' n'→WC P ng j cx (FA l t) ⟨d,u,hal h' L (LoO .exhausted (some j) fn ps.toArray assign body D (FA l t)),n'⟩ Q) :
 CallB P ng g args h n (rgQ P ng L fn ps.toArray assign body D cx (FA l t) d u Q):=by
 refine cal0 (it (fun done h' n'=>zF h' L=LoO .ready none fn ps.toArray assign body D (FA l t)∧I done h' n') (fun h' n'=>∃j,zF h' L=LoO .done (some j) fn ps.toArray assign body D (FA l t)∧F j h' n') (fun done h' n' q=>hE _ _ _ q.2)
  (fun done h' n' h2 n2 q t=>⟨by rw[t.2 L hLI];exact q.1,hcl _ _ _ _ _ q.2 t⟩) (fun h' n' h2 n2 ⟨j,q1,q2⟩ t=>⟨j,by rw[t.2 L hLI];exact q1,hclF _ _ _ _ _ q2 t⟩) ⟨hL,h0⟩ fun done e v h' n' ⟨q1,q2⟩ he hp=>(rou (args:=[v]) q1 hps (bd done e v h' n' q2 q1 he hp)).mono ?_) ?_
 · rintro r h2 n2 ⟨a,⟨b1,b2,b3,b4⟩|b⟩
   · exact⟨a,.inl ⟨b1,⟨b2,b3⟩,b4⟩⟩
   · exact⟨a,.inr b⟩
 · rintro _ h' n' ⟨hn,rfl,⟨q1,q2⟩|⟨j,q1,q2⟩⟩
   · exact .inl ⟨q1,fin h' n' hn q2⟩
   · exact .inr ⟨j,q1,finF j h' n' hn q2⟩
end
end Go.Ex
namespace Go.Ex
section
variable {P:Program} {ty:Nat} {ox oy:Operand} {a:Nat}
theorem bn_quo64(h:(a:Int)<9223372036854775808):Bn P .quo ty ox oy (I64 (a:Nat)) (I64 64) (I64 ((a / 64:Nat):Int)):=by
 unfold Bn;rw [binI];show cond (ieqB 64 0) none (some (Value.int .i64 (vF .i64 (Int.tdiv (a:Nat) 64))))=_;rw [xL];show some (Value.int .i64 (vF .i64 (Int.tdiv (a:Nat) 64)))=_
 have e:Int.tdiv ((a:Nat):Int) 64=((a / 64:Nat):Int):=by
  rw[show(64:Int)=((64:Nat):Int) from rfl,Int.ofNat_tdiv]
 rw[e,wrap_in ⟨by omega,by omega⟩]
theorem bn_rem64:Bn P .rem ty ox oy (I64 (a:Nat)) (I64 64) (I64 ((a % 64:Nat):Int)):=by
 unfold Bn;rw [binI];show cond (ieqB 64 0) none (some (Value.int .i64 (Int.tmod (a:Nat) 64)))=_;rw [xL];show some (Value.int .i64 (Int.tmod (a:Nat) 64))=_
 have e:Int.tmod ((a:Nat):Int) 64=((a % 64:Nat):Int):=by
  rw[show(64:Int)=((64:Nat):Int) from rfl,Int.ofNat_tmod]
 rw[e]
abbrev U64(x:Nat):Value:=.int .u64 ((x:Nat):Int)
theorem wrap_u{x:Nat}(h:x<18446744073709551616):vF .u64 ((x:Nat):Int)=(x:Nat):=by
 rw[wI];show((x:Nat):Int) % 18446744073709551616=_;omega
theorem bn_shl{x m:Nat}(hm:m<64)(h:x*2 ^ m<18446744073709551616):Bn P .shl ty ox oy (U64 x) (I64 (m:Nat)) (U64 (x*2 ^ m)):=by
 show(cond (Nat.blt m 64) (some (Value.int .u64 (vF .u64 (Int.mul (x:Nat) (.ofNat (Nat.pow 2 m)))))) none:Option Value)=_;rw [yU hm];have e:Int.mul ((x:Nat):Int) (.ofNat (Nat.pow 2 m))=((x*2 ^ m:Nat):Int):=rfl;rw [e,wrap_u h];rfl
theorem bn_shl1{m:Nat}(hm:m<64):Bn P .shl ty ox oy (.int .u64 1) (I64 (m:Nat)) (U64 (2 ^ m)):=by
 have h:2 ^ m<18446744073709551616:=Nat.pow_lt_pow_right (by decide) hm;have:=bn_shl (P:=P) (ty:=ty) (ox:=ox) (oy:=oy) (x:=1) hm (by omega);rw [Nat.one_mul]at this;exact this
theorem bn_shr{x m:Nat}(hm:m<64):Bn P .shr ty ox oy (U64 x) (I64 (m:Nat)) (U64 (x >>> m)):=by
 show(cond (Nat.blt m 64) (some (Value.int .u64 (.ofNat (Nat.shiftRight x m)))) none:Option Value)=_;rw [yU hm];rfl
theorem bits_of{op:BinOp}{x y r:Nat}(hx:x<18446744073709551616)(hy:y<18446744073709551616)(he:bitNat op x y=some r):aBits op .u64 ((x:Nat):Int) ((y:Nat):Int)=some (U64 r):=by
 show cond (Nat.blt x 18446744073709551616 && Nat.blt y 18446744073709551616) ((bitNat op x y).map fun r=>Value.int .u64 (.ofNat r)) none=_;rw [yU hx,yU hy,he];rfl
theorem bn_and{x y:Nat}(hx:x<18446744073709551616)(hy:y<18446744073709551616):Bn P .and ty ox oy (U64 x) (U64 y) (U64 (x &&& y)):=by
 unfold Bn;rw [binI];exact bits_of hx hy rfl
theorem bn_and1{x:Nat}(hx:x<18446744073709551616):Bn P .and ty ox oy (U64 x) (.int .u64 1) (U64 (x &&& 1)):=bn_and hx (by decide)
theorem bn_or{x y:Nat}(hx:x<18446744073709551616)(hy:y<18446744073709551616):Bn P .or ty ox oy (U64 x) (U64 y) (U64 (x ||| y)):=by
 unfold Bn;rw [binI];exact bits_of hx hy rfl
theorem bn_andnot{x y:Nat}(hx:x<18446744073709551616)(hy:y<18446744073709551616):Bn P .andNot ty ox oy (U64 x) (U64 y) (U64 (x ^^^ (x &&& y))):=by
 unfold Bn;rw [binI];exact bits_of hx hy rfl
end
end Go.Ex
namespace Go.Ex
section
variable {P:Program} {ty el:Nat} {ox oy:Operand} {p:Addr} {a b:Bool}
theorem bn_p1[s:UnC P ty (.pointer el)]:Bn P .eql ty ox oy (.pointer (some p)) (.pointer none) (.bool false):=by
 show(match BinOp.eql,und P ty with
  | .eql,some d=>cond (zS ox oy (.pointer (some p)) (.pointer none)) ((vG d (.pointer (some p)) (.pointer none)).map Value.bool) none
  | .neq,some d=>cond (zS ox oy (.pointer (some p)) (.pointer none)) ((vG d (.pointer (some p)) (.pointer none)).map fun b=>Value.bool (!b)) none
  | _,_=>none:Option Value)=_
 rw[s.ok];rfl
theorem bn_p0[s:UnC P ty (.pointer el)]:Bn P .eql ty ox oy (.pointer none) (.pointer none) (.bool true):=by
 show(match BinOp.eql,und P ty with
  | .eql,some d=>cond (zS ox oy (.pointer none) (.pointer none)) ((vG d (.pointer none) (.pointer none)).map Value.bool) none
  | .neq,some d=>cond (zS ox oy (.pointer none) (.pointer none)) ((vG d (.pointer none) (.pointer none)).map fun b=>Value.bool (!b)) none
  | _,_=>none:Option Value)=_
 rw[s.ok];rfl
theorem bn_q1[s:UnC P ty (.pointer el)]:Bn P .neq ty ox oy (.pointer (some p)) (.pointer none) (.bool true):=by
 show(match BinOp.neq,und P ty with
  | .eql,some d=>cond (zS ox oy (.pointer (some p)) (.pointer none)) ((vG d (.pointer (some p)) (.pointer none)).map Value.bool) none
  | .neq,some d=>cond (zS ox oy (.pointer (some p)) (.pointer none)) ((vG d (.pointer (some p)) (.pointer none)).map fun b=>Value.bool (!b)) none
  | _,_=>none:Option Value)=_
 rw[s.ok];rfl
theorem bn_q0[s:UnC P ty (.pointer el)]:Bn P .neq ty ox oy (.pointer none) (.pointer none) (.bool false):=by
 show(match BinOp.neq,und P ty with
  | .eql,some d=>cond (zS ox oy (.pointer none) (.pointer none)) ((vG d (.pointer none) (.pointer none)).map Value.bool) none
  | .neq,some d=>cond (zS ox oy (.pointer none) (.pointer none)) ((vG d (.pointer none) (.pointer none)).map fun b=>Value.bool (!b)) none
  | _,_=>none:Option Value)=_
 rw[s.ok];rfl
theorem bn_be[s:UnC P ty .bool]:Bn P .eql ty ox oy (.bool a) (.bool b) (.bool (a == b)):=by
 show(match BinOp.eql,und P ty with
  | .eql,some d=>cond (zS ox oy (.bool a) (.bool b)) ((vG d (.bool a) (.bool b)).map Value.bool) none
  | .neq,some d=>cond (zS ox oy (.bool a) (.bool b)) ((vG d (.bool a) (.bool b)).map fun b=>Value.bool (!b)) none
  | _,_=>none:Option Value)=_
 rw[s.ok];cases a <;> cases b <;> rfl
theorem bn_bn[s:UnC P ty .bool]:Bn P .neq ty ox oy (.bool a) (.bool b) (.bool (a != b)):=by
 show(match BinOp.neq,und P ty with
  | .eql,some d=>cond (zS ox oy (.bool a) (.bool b)) ((vG d (.bool a) (.bool b)).map Value.bool) none
  | .neq,some d=>cond (zS ox oy (.bool a) (.bool b)) ((vG d (.bool a) (.bool b)).map fun b=>Value.bool (!b)) none
  | _,_=>none:Option Value)=_
 rw[s.ok];cases a <;> cases b <;> rfl
end
section
variable {P:Program} {ty:Nat} {ox oy:Operand} {a:Nat}
theorem bn_quo8(h:(a:Int)<9223372036854775808):Bn P .quo ty ox oy (I64 (a:Nat)) (I64 8) (I64 ((a / 8:Nat):Int)):=by
 unfold Bn;rw [binI];show cond (ieqB 8 0) none (some (Value.int .i64 (vF .i64 (Int.tdiv (a:Nat) 8))))=_;rw [xL];show some (Value.int .i64 (vF .i64 (Int.tdiv (a:Nat) 8)))=_
 have e:Int.tdiv ((a:Nat):Int) 8=((a / 8:Nat):Int):=by
  rw[show(8:Int)=((8:Nat):Int) from rfl,Int.ofNat_tdiv]
 rw[e,wrap_in ⟨by omega,by omega⟩]
end
theorem lka_lent{P:Program}{l:List (Nat×Value)}{t:Fr}{lo hi:Nat}{hs:List W}{ty:Nat}{x:Operand}{a:List UInt8}{k n:Nat}{h:zB}{dd:List Deferred}{u:Option zH}[s:UnC P ty .string](e:evb l t x=str a)(r:LkA P ⟨.call ⟨.builtin .len,[x].toArray,[ty].toArray⟩,FA l t,I64 (a.length:Nat),lo,hi⟩ (Nat.pred k) hs) :
 LkA P ⟨.call ⟨.builtin .len,[x].toArray,[ty].toArray⟩,FA l t,I64 (a.length:Nat),lo,hi⟩ k (⟨dd,u,h,n⟩::hs):=by
 refine lka_on ?_ ?_ sm_int r
 · show blkLt n (ev (FA l t) x)=true;rw [yH,e];rfl
 · show quietB P .len [ty] [ev (FA l t) x] h=_;rw [yH,e];exact len_txt
end Go.Ex
namespace Go.Ex
theorem Cel.cell{h:zB}{b z kd i:Nat}{vs:List Value}{v:Value}(c:Cel h b z kd vs)(e:vs[i]? = some v):zC h b i=some v:=(c.2 i).trans e
theorem iad_sl{sz b off len cap j:Nat}{k:IntKind}(h:j<len):Iad sz (.slice (some ⟨b,off,none⟩) len cap) (.int k (j:Nat)) (.pointer (some ⟨b,off+j*sz,none⟩)):=⟨b,off,len,cap,k,j,rfl,rfl,h,rfl⟩
theorem ixv_0{P:Program}{ty:Nat}[UnC P ty .string]{a:List UInt8}{k:IntKind}{b:UInt8}(hb:a[0]? = some b):Ixv P ty (str a) (.int k 0) (.int .u8 (b.toNat:Nat)):=ixv_str (i:=0) hb
theorem iad_0{lo:Nat}{h:zB}{v:Value}{e sz len:Nat}{vs:List Value}{k:IntKind}(r:Row lo h v e sz len vs)(hi:0<len):Iad sz v (.int k 0) (.pointer (some ⟨sbk v,sof v+0*sz,none⟩)):=iad_rw (i:=0) r hi
theorem iad_1{lo:Nat}{h:zB}{v:Value}{e sz len:Nat}{vs:List Value}{k:IntKind}(r:Row lo h v e sz len vs)(hi:1<len):Iad sz v (.int k 1) (.pointer (some ⟨sbk v,sof v+1*sz,none⟩)):=iad_rw (i:=1) r hi
theorem nT{z:Bool}(h:z=false):(!z)=true:=by rw[h];rfl
theorem nF{z:Bool}(h:z=true):(!z)=false:=by rw[h];rfl
structure VBox where
 v:Value
noncomputable def lkB(l:List (Nat×Value))(t:Fr)(i:Nat):VBox:=match l with
 | []=>⟨fget t i⟩
 | (j,v)::r=>bif Nat.beq j i then⟨v⟩ else lkB r t i
theorem lkB_eq(l:List (Nat×Value))(t:Fr)(i:Nat):lkB l t i=⟨lk l t i⟩:=by
 induction l with
 | nil=>rfl
 | cons p r ih=>
  show(bif Nat.beq p.1 i then(⟨p.2⟩:VBox) else lkB r t i)=⟨bif Nat.beq p.1 i then p.2 else lk r t i⟩;rw [ih];cases Nat.beq p.1 i <;> rfl
noncomputable def evbB(l:List (Nat×Value))(t:Fr)(x:Operand):VBox:=match x with
 | .tmp i=>lkB l t i
 | .const v=>⟨v⟩
 | .global g=>⟨.pointer (some ⟨g,0,none⟩)⟩
 | .func f=>⟨.func (.func f) #[] #[]⟩
theorem lk_box{l:List (Nat×Value)}{t:Fr}{i:Nat}{v:Value}(h:lkB l t i=⟨v⟩):lk l t i=v:=by rw[lkB_eq]at h;injection h
theorem uX{l:List (Nat×Value)}{t:Fr}{x:Operand}{v:Value}(h:evbB l t x=⟨v⟩):evb l t x=v:=by
 cases x with
 | tmp i=>exact lk_box h
 | const w=>injection h
 | global g=>injection h
 | func g=>injection h
theorem bx_one{v:Value}(e:v.oneCell'=true):Bx v [v]:=⟨by cases v <;> first|rfl|(cases e;done),e,trivial⟩
theorem bx_row{lo:Nat}{h:zB}{v:Value}{e sz len:Nat}{vs:List Value}(r:Row lo h v e sz len vs):Bx v [v]:=bx_one r.one
theorem zG{h:zB}{b z kd:Nat}{vs:List Value}(c:Cel h b z kd vs:=by
 repeat' first
  | with_reducible assumption
  | with_reducible exact cel_hal _ _ _ _ _
  | with_reducible apply Cel.put
  | with_reducible apply Cel.hal
  | with_reducible apply Cel.hst
  | ((with_reducible apply Cel.tcm);(focus (with_reducible assumption)))
  | decide
  | omega
  | (simp;done)
  | (simp;omega)):Cel h b z kd vs:=c
theorem Cel.as{h:zB}{b z kd:Nat}{vs vs':List Value}(c:Cel h b z kd vs')(e:vs'=vs):Cel h b z kd vs:=e ▸ c
theorem zD{h:zB}{b z kd:Nat}{vs:List Value}(c:Cel h b z kd vs:=by(apply Cel.as;(focus exact zG);exact rfl)):Cel h b z kd vs:=c
theorem cat_ask{h:zB}{b i:Nat}{v:Value}(c:zC h b i=some v:=by
 repeat' first
  | with_reducible assumption
  | with_reducible apply cat_hal
  | with_reducible apply cat_hst
  | ((with_reducible apply cat_tch);(focus (with_reducible assumption)))
  | omega
  | (simp;done)
  | (simp;omega)):zC h b i=some v:=c
theorem tI{h:zB}{L:Nat}{o:AObj}(c:zF h L=o:=by
 repeat' first
  | with_reducible assumption
  | with_reducible exact xN
  | with_reducible apply obe_hal
  | with_reducible apply obe_hst
  | ((with_reducible apply obe_tch);(focus (with_reducible assumption)))
  | omega
  | (simp;done)
  | (simp;omega)):zF h L=o:=c
theorem zJ{h:zB}{b i:Nat}{v:Value}(c:zC h b i=some v:=by first|(with_reducible assumption)|(apply Cel.cell;(focus exact zG);exact rfl)|exact cat_ask):zC h b i=some v:=c
theorem ld1_of{h:zB}{b o:Nat}{v:Value}(e:zC h b o=some v):Ld1 h (.pointer (some ⟨b,o,none⟩)) v:=⟨b,o,rfl,e⟩
theorem ldN_of{h:zB}{b o k:Nat}{vs:List Value}(h0:0<k)(e:Rd h b o k vs):LdN h (.pointer (some ⟨b,o,none⟩)) k vs:=⟨b,o,rfl,h0,e⟩
theorem rd_nil{h:zB}{b o:Nat}:Rd h b o 0 []:=rfl
theorem vS{h:zB}{b o k:Nat}{v:Value}{r:List Value}(e:zC h b o=some v)(f:Rd h b (o+1) k r):Rd h b o (k+1) (v::r):=⟨v,r,rfl,e,f⟩
theorem fad_of{o b off:Nat}:Fad o (.pointer (some ⟨b,off,none⟩)) (.pointer (some ⟨b,off+o,none⟩)):=⟨b,off,rfl,rfl⟩
theorem gv_of{all:Array Oper}{l:List (Nat×Value)}{t:Fr}{g i:Nat}{b z:Bool}(h:dstOf all g=some i)(e:lk l t i = .bool z):Gv all l t g b z:=⟨i,h,.inl e⟩
theorem gv_uT{all:Array Oper}{l:List (Nat×Value)}{t:Fr}{g i:Nat}(h:dstOf all g=some i)(e:lk l t i=undef):Gv all l t g true false:=⟨i,h,.inr ⟨e,rfl⟩⟩
theorem gv_uF{all:Array Oper}{l:List (Nat×Value)}{t:Fr}{g i:Nat}(h:dstOf all g=some i)(e:lk l t i=undef):Gv all l t g false true:=⟨i,h,.inr ⟨e,rfl⟩⟩
theorem evs_nil{l:List (Nat×Value)}{t:Fr}:Evs l t [] []:=rfl
theorem evs_cons{l:List (Nat×Value)}{t:Fr}{x:Operand}{v:Value}{xs:List Operand}{vs:List Value}(e:evb l t x=v)(f:Evs l t xs vs):Evs l t (x::xs) (v::vs):=⟨v,vs,rfl,e,f⟩
theorem evp_nil{l:List (Nat×Value)}{t:Fr}:Evp l t [] []:=rfl
theorem evp_cons{l:List (Nat×Value)}{t:Fr}{i:Nat}{x:Operand}{v:Value}{xs:List (Nat×Operand)}{vs:List (Nat×Value)}(e:evb l t x=v)(f:Evp l t xs vs):Evp l t ((i,x)::xs) ((i,v)::vs):=⟨v,vs,rfl,e,f⟩
theorem evo_none{l:List (Nat×Value)}{t:Fr}:Evo l t none none:=rfl
theorem evo_some{l:List (Nat×Value)}{t:Fr}{x:Operand}{v:Value}(e:evb l t x=v):Evo l t (some x) (some v):=⟨v,rfl,e⟩
theorem stN_of{h:zB}{b o z kd k:Nat}{vs ws:List Value}(c:Cel h b z kd vs)(hk:kd≠2∧kd≠3)(ho:o+ws.length≤vs.length)(h1:One ws)(hl:ws.length=k):StP' h (.pointer (some ⟨b,o,none⟩)) ws k (hst h b o ws):=⟨StP.of c hk ho h1,hl⟩
theorem bx_of{v:Value}{cs:List Value}(e:cellsOf v=cs)(f:One cs):Bx v cs:=⟨e,f⟩
theorem one_nil:One []:=trivial
theorem one_cons{x:Value}{r:List Value}(e:x.oneCell'=true)(f:One r):One (x::r):=⟨e,f⟩
theorem ex1_of{i:Nat}{vs:List Value}{v:Value}(e:vs[i]? = some v):Ext1 i (.tuple ⟨vs⟩) v:=⟨vs,rfl,e⟩
theorem rs_nil{P:Program}{l:List (Nat×Value)}{t:Fr}{h:zB}:Rs P l t h [] []:=rfl
theorem rs_tmp{P:Program}{l:List (Nat×Value)}{t:Fr}{h:zB}{i:Nat}{r:List ResultVar}{v:Value}{vs:List Value}(e:lk l t i=v)(f:Rs P l t h r vs):Rs P l t h (.tmp i::r) (v::vs):=⟨v,vs,rfl,e,f⟩
theorem rs_cell{P:Program}{l:List (Nat×Value)}{t:Fr}{h:zB}{i ty:Nat}[s:ShC P ty .scal]{r:List ResultVar}{p v:Value}{vs:List Value}(e:lk l t i=p)(g:Ld1 h p v)(f:Rs P l t h r vs):Rs P l t h (.cell i ty::r) (v::vs):=by
 obtain⟨b,o,rfl,g⟩:=g;exact⟨v,vs,rfl,by rw[e];exact load_scal s.ok g,f⟩
theorem rd_any{h:zB}{b o k:Nat}{vs:List Value}(c:Rd h b o k vs:=by repeat' first|(with_reducible assumption)|exact rd_nil|(apply vS;(focus exact zJ))):Rd h b o k vs:=c
 class IsOb (G:Prop) {α : outParam Type} (A K:outParam (α→Prop)):Prop where ok:Ob A K→G
instance {α : Type} {A K: α→Prop}:IsOb (Ob A K) A K:=⟨id⟩
 class IsCh (G:Prop) (z:outParam Bool) (A B:outParam Prop):Prop where ok:Ch z A B→G
instance {z:Bool} {A B:Prop}:IsCh (Ch z A B) z A B:=⟨id⟩
theorem ob{G:Prop}{α : Type}{A K: α→Prop}[s:IsOb G A K]{a: α}(k:K a)(h:A a:=by first
 | ((with_reducible show Ev _ _ _ _) <;> (show evb _ _ _=_) <;> (apply uX) <;> ((conv=>lhs;whnf) <;> exact rfl))
 | ((with_reducible apply ld1_of);focus first|(with_reducible assumption)|(apply Cel.cell;(focus exact zG);exact rfl)|exact cat_ask)
 | with_reducible exact fad_of
 | (with_reducible show Bn _ _ _ _ _ _ _ _) <;> with_reducible first|exact bn_eq|exact bn_ne|exact bn_lt|exact bn_le|exact bn_gt|exact bn_ge|exact bs_eq|exact bs_ne|(apply bn_add;omega)|(apply bn_sub;omega)|exact bn_subu|(apply bn_quo64;omega)|exact bn_rem64|(apply bn_shl1;omega)|(apply bn_shr;omega)|(apply bn_and1;assumption)|(apply bn_and <;> assumption)|exact bn_p1|exact bn_q1|exact bn_p0|exact bn_q0|exact bn_be|exact bn_bn|(apply bn_quo8;omega)|(apply bn_or <;> assumption)|(apply bn_andnot <;> assumption)|exact bn_if1|exact bn_if0|exact bn_c|exact bn_s0|exact bn_s1|assumption
 | ((with_reducible apply gv_of);(focus exact rfl);focus ((conv=>lhs;whnf) <;> exact rfl))
 | ((with_reducible apply gv_uT);(focus exact rfl);focus ((conv=>lhs;whnf) <;> exact rfl))
 | ((with_reducible apply gv_uF);(focus exact rfl);focus ((conv=>lhs;whnf) <;> exact rfl))
 | ((with_reducible show Evs _ _ _ _) <;> repeat' first|exact evs_nil|apply evs_cons|(apply uX;((conv=>lhs;whnf) <;> exact rfl)))
 | ((with_reducible apply bx_one);(with_reducible assumption))
 | ((with_reducible apply bx_row);(with_reducible assumption))
 | ((with_reducible apply bx_of) <;> repeat' first|exact one_nil|(apply one_cons;(focus first|exact rfl|(with_reducible assumption)))|((conv=>lhs;whnf) <;> exact rfl))
 | ((with_reducible apply StP.of);(focus exact zG);(focus exact⟨by decide,by decide⟩);(focus first|decide|(simp;done)|(simp;omega));focus repeat' first|exact one_nil|(apply one_cons;(focus first|exact rfl|(with_reducible assumption))))
 | ((with_reducible apply iad_sl);omega)
 | ((with_reducible apply iad_rw);(focus (with_reducible assumption));omega)
 | ((with_reducible apply iad_0);(focus (with_reducible assumption));omega)
 | ((with_reducible apply iad_1);(focus (with_reducible assumption));omega)
 | ((with_reducible apply iad_rwI);(focus (with_reducible assumption));(focus omega);omega)
 | ((with_reducible apply len_rw);(with_reducible assumption))
 | ((with_reducible apply ldN_of);(focus decide);(focus (with_reducible assumption)))
 | ((with_reducible apply ldN_of) <;> repeat' first|decide|exact rd_nil|(apply vS;focus first|(with_reducible assumption)|(apply Cel.cell;(focus exact zG);exact rfl)|exact cat_ask))
 | ((with_reducible apply ex1_of);exact rfl)
 | ((with_reducible show Rs _ _ _ _ _ _) <;> repeat' first|exact rs_nil|(apply rs_tmp;(focus (apply lk_box;((conv=>lhs;whnf) <;> exact rfl))))|(apply rs_cell;(focus (apply lk_box;((conv=>lhs;whnf) <;> exact rfl)));focus ((with_reducible apply ld1_of);focus first|(with_reducible assumption)|(apply Cel.cell;(focus exact zG);exact rfl)|exact cat_ask)))
 | with_reducible exact cv_int
 | with_reducible exact bd_c
 | with_reducible exact bs_c
 | ((with_reducible apply ixv_str);(with_reducible assumption))
 | ((with_reducible apply ixv_0);(with_reducible assumption))
 | with_reducible exact len_slc
 | with_reducible exact len_txt
 | with_reducible exact bi_app
 | with_reducible exact bi_rec
 | ((with_reducible show Evp _ _ _ _) <;> repeat' first|exact evp_nil|apply evp_cons|(apply uX;((conv=>lhs;whnf) <;> exact rfl)))
 | with_reducible exact evo_none
 | with_reducible exact fnv_of
 | with_reducible exact ifv_of
 | with_reducible exact tya_hit
 | ((with_reducible apply evo_some);focus (apply uX;((conv=>lhs;whnf) <;> exact rfl)))
 | (with_reducible assumption)
 | ((with_reducible apply stN_of);(focus exact zG);(focus exact⟨by decide,by decide⟩);(focus first|decide|(simp;done)|(simp;omega));(focus repeat' first|exact one_nil|(apply one_cons;(focus first|exact rfl|(with_reducible assumption))));exact rfl)
 | ((with_reducible show Wh (_++(_++_)) _) <;> (show _=_) <;> ((conv=>lhs;simp only[List.nil_append,List.cons_append,List.append_nil]) <;> exact rfl))
 | ((with_reducible show Wh _ _) <;> (show _=_) <;> ((conv=>lhs;whnf) <;> exact rfl))):G:=s.ok ⟨a,h,k⟩
theorem nTF:(!false)=true:=rfl
theorem nFT:(!true)=false:=rfl
theorem dT{p:Prop}{i:Decidable p}(h:p):@decide p i=true:=decide_eq_true h
theorem dG{p:Prop}{i:Decidable p}(h:p→False):@decide p i=false:=decide_eq_false h
theorem dF{p:Prop}{i:Decidable p}(h:¬p):@decide p i=false:=decide_eq_false h
 class IsOb1 (G:Prop) (A K:outParam Prop):Prop where ok:Ob1 A K→G
instance {A K:Prop}:IsOb1 (Ob1 A K) A K:=⟨id⟩
theorem ob1{G A K:Prop}[s:IsOb1 G A K](k:K)(h:A:=by first
 | ((with_reducible show RgE _ _ _ _) <;> (show regOf _ _ _=_) <;> kernel_rfl)
 | ((with_reducible show NLe _ _) <;> (show _≤_) <;> first|omega|exact Nat.le_refl _|exact Tch.le (by with_reducible assumption))
 | with_reducible exact lks_nil
 | ((with_reducible show LksOK _ _ _) <;> repeat' first|with_reducible exact lks_nil|with_reducible apply lks_cons|with_reducible exact lka_nil|((with_reducible apply lka_off);(focus exact rfl))|((with_reducible apply lka_ldN);(focus ((conv=>lhs;whnf) <;> exact rfl));(focus omega);(focus decide);(focus exact rd_any);(focus repeat' first|exact sml_nil|apply sml_int|apply sml_str|(apply sml_row;(focus (with_reducible assumption)))))|((with_reducible apply lka_lent);(focus (apply uX;((conv=>lhs;whnf) <;> exact rfl))))|((with_reducible apply lka_len);(focus (apply uX;((conv=>lhs;whnf) <;> exact rfl)));(focus (with_reducible assumption));(focus omega))|((with_reducible apply lka_ld1);(focus ((conv=>lhs;whnf) <;> exact rfl));(focus omega);(focus first|(with_reducible assumption)|(apply Cel.cell;(focus exact zG);exact rfl)|exact cat_ask);(focus first|exact sm_int|exact sm_str|exact sm_bool|exact sm_ptr|exact sm_map|(apply Row.sm;with_reducible assumption)|(apply Own.sm;with_reducible assumption)|(with_reducible assumption))))
 | ((with_reducible show ObE _ _ _) <;> (show zF _ _=_) <;> exact tI)
 | ((with_reducible show Clt _ _) <;> (show zF _ _=_) <;> exact tI)
 | with_reducible exact rfl
 | assumption):G:=s.ok ⟨h,k⟩
instance {A B:Prop}:Stp (Ch true A B) A:=⟨fun h=>⟨fun _=>h,fun e=>Bool.noConfusion e⟩⟩
instance {A B:Prop}:Stp (Ch false A B) B:=⟨fun h=>⟨fun e=>Bool.noConfusion e,fun _=>h⟩⟩
theorem cT{G:Prop}{z:Bool}{A B:Prop}[s:IsCh G z A B](k:A)(h:z=true:=by with_reducible first
 | assumption
 | exact nTF
 | (apply dT;first|assumption|omega|exact rfl)
 | (apply nT;first|assumption|(apply dF;first|assumption|omega))):G:=s.ok ⟨fun _=>k,fun e=>Bool.noConfusion (h.symm.trans e)⟩
theorem cF{G:Prop}{z:Bool}{A B:Prop}[s:IsCh G z A B](k:B)(h:z=false:=by with_reducible first
  | assumption
  | exact nFT
  | (apply dF;first|assumption|omega)
  | (apply dG;intro hh;cases hh;done)
  | (apply nF;first|assumption|(apply dT;first|assumption|omega))):G:=s.ok ⟨fun e=>Bool.noConfusion (h.symm.trans e),fun _=>k⟩
 class Pr2 (z:Bool) (p q:outParam Prop):Prop where ok:(z=true→p)∧(z=false→q)
instance (priority:=low) {z:Bool}:Pr2 z (z=true) (z=false):=⟨⟨id,id⟩⟩
instance {z:Bool}:Pr2 (!z) (z=false) (z=true):=⟨by cases z <;> simp⟩
instance {p:Prop} {_i:Decidable p}:Pr2 (decide p) p (¬p):=⟨⟨of_decide_eq_true,of_decide_eq_false⟩⟩
instance {p:Prop} {_i:Decidable p}:Pr2 (!decide p) (¬p) p:=⟨by by_cases h:p <;> simp[h]⟩
theorem cX{z:Bool}{A B p q:Prop}[s:Pr2 z p q](k:p→A)(j:q→B):Ch z A B:=⟨fun e=>k (s.ok.1 e),fun e=>j (s.ok.2 e)⟩
theorem wk{G C:Prop}(k:C)(h:C→G:=by first|exact fun k=>st k|exact fun k=>ob k|exact fun k=>ob1 k|exact fun k=>cT k|exact fun k=>cF k|exact fun k=>calC k|fail):G:=h k
end Go.Ex
namespace Go.Ex
theorem rep_len(l:List Value)(m:Nat):(rep l m).length=m*l.length:=by
 induction m with
 | zero=>simp [rep]
 | succ m ih=>show(l++rep l m).length=_;rw [List.length_append,ih,Nat.succ_mul,Nat.add_comm]
theorem rep_mem{l:List Value}{m:Nat}{y:Value}(h:y∈rep l m):y∈l:=by
 induction m with
 | zero=>simp [rep]at h
 | succ m ih=>
  rcases List.mem_append.1 (show y∈l++rep l m from h) with h|h
  · exact h
  · exact ih h
noncomputable def apZB(P:Program)(sT xT e:Nat):Bool:=match und P sT,und P xT,inf? P e,yP P e with
 | some (.slice e'),some (.int _),some ei,some z=>Nat.beq e' e && (Nat.beq ei.size 1 && (Nat.blt ei.bytes 100000 && scalB z (.int .i64 0)))
 | _,_,_,_=>false
section
variable {P:Program} {sT xT e:Nat} {cx:Cx} {d:List Deferred} {u:Option zH} {h:zB} {n:Nat} {K:W→Value→Prop}
theorem appZ(hT:apZB P sT xT e=true){m:Nat}(h0:0<m)(hm:m<100000)(k:K ⟨d,u,hal h n (mkC (rep [I64 0] m) (zc e 1) 1),n+1⟩ (.slice (some ⟨n,0,none⟩) m inf)):BuB P cx .append [sT,xT] [.slice none 0 0,I64 (m:Nat)] d u h n K:=by
 unfold apZB at hT;split at hT
 · rename_i e' kk ei z t1 t2 t3 t4;obtain⟨a1,hT⟩:=Bool.and_eq_true_iff.1 hT;obtain⟨a2,hT⟩:=Bool.and_eq_true_iff.1 hT;obtain⟨a3,a4⟩:=Bool.and_eq_true_iff.1 hT;obtain rfl:=zE a1;have a2:=zE a2;obtain rfl:=scalB_eq a4;show wS P [sT,xT] [.slice none 0 0,I64 (m:Nat)] h n (fun h' n' v'=>yZ (K ⟨d,u,h',n'⟩ v'))=true;unfold wS uL;dsimp only;rw [t1,t2];dsimp only;rw [t3,t4];dsimp only
   have hap:yW P h e' ei.size (.int kk) (I64 (m:Nat))=some (m,rep [I64 0] m):=by
    show(match natOf (I64 (m:Nat)),yP P e' with
     | some m,some z=>cond (Nat.blt m 100000 && Nat.beq (cellsOf z).length ei.size) (some (m,rep (cellsOf z) m)) none
     | _,_=>none)=_
    rw[t4];show cond (Nat.blt m 100000 && Nat.beq 1 ei.size) (some (m,rep [I64 0] m)) none=_;rw [yU hm,a2];rfl
   rw[hap];dsimp only
   have c1:(Nat.beq ei.size 0 || !Nat.beq (cellsOf (Value.int .i64 0)).length ei.size || !Nat.blt (Nat.add 0 m) 1000000 || !Nat.blt ei.bytes 100000)=false:=by
    rw[a2,a3,yU (show Nat.add 0 m<1000000 from by have:Nat.add 0 m=m:=Nat.zero_add m;omega)];rfl
   rw[c1];have c2:(Nat.beq m 0 && !Nat.beq 0 0 && (Nat.beq 0 inf || Nat.ble 0 0))=false:=by simp
   rw[c2];have hb0:Nat.beq 0 inf=false:=by decide
   rw[hb0];show growEx h n none 0 0 m ei.size (zc e' ei.size) (rep [I64 0] m) (fun v h n=>yZ (K ⟨d,u,h,n⟩ v))=true;unfold growEx
   have b1:Nat.ble (Nat.add 0 m) 0=false:=by
    cases e9:Nat.ble (Nat.add 0 m) 0 with
    | false=>rfl
    | true=>
     have h9:Nat.add 0 m≤0:=yG e9;have h10:0+m≤0:=h9;omega
   rw[b1,a2];show yX .lF 0 ([]++rep [I64 0] m) _=true;refine xU (fun y hy=>?_) ?_
   · have hy:y∈rep [I64 0] m:=hy;have:=rep_mem hy;simp at this;subst this;rfl
   · rw[zU];refine isSo_iff.2 ?_
     have e1:Nat.mul (Nat.add 0 m) 1=(rep [I64 0] m).length:=by
      rw[rep_len];show(0+m)*1=m*1;omega
     have e2:Nat.add 0 m=m:=Nat.zero_add m;rw [e1,e2];exact k
 · cases hT
theorem wayZ{lo m:Nat}(hlo:lo≤n):WayR lo (n+1) (hal h n (mkC (rep [I64 0] m) (zc e 1) 1)) (.slice (some ⟨n,0,none⟩) m inf) e 1 m (rep [I64 0] m):=by
 refine⟨n,_,_,_,inf,hlo,Nat.lt_succ_self n,rfl,by rw[zM,if_pos rfl];exact uJ _ _ _,by rw[rep_len];rfl,Nat.le_refl _,fun i _=>?_,.inr ⟨rfl,rfl,rfl⟩⟩;unfold zC;rw [zM,if_pos rfl];exact vP _ _ _ _
theorem way_app0{lo len sz:Nat}{v x:Value}{vs:List Value}[A:ApC P sT xT e sz](r:WayR lo n h v e sz len vs)(hr:Row n h x e sz 0 [])(hl:len<1000000)(hc:len=0→∀b c,v = .slice b 0 c→c=inf)(k:K ⟨d,u,h,n⟩ v):BuB P cx .append [sT,xT] [v,x] d u h n K:=by
 obtain⟨xd,ei,z0,t1,t2,t3,t4,t5,t6,t7,t8,t9⟩:=apTB_of A.ok;have hap:yW P h e ei.size xd x=some (0,[]):=by rw[t6];exact vR t3 hr
 obtain⟨b,bm,z,kd,cap,g1,g2,rfl,g3,g4,g5,g6,g7⟩:=r
 have hcap:Nat.beq cap 0=false∧(Nat.beq cap inf || Nat.ble len cap)=true:=by
  have hi0:inf≠0:=by decide
  rcases g7 with⟨_,_,q1,q2,_⟩|⟨_,rfl,_⟩
  · refine⟨?_,by rw[vJ q2,Bool.or_true]⟩
    cases e9:Nat.beq cap 0 with
    | false=>rfl
    | true=>
     have h9:=zE e9;have h8:len=0:=by omega
     subst h8;have:=hc rfl _ _ rfl;omega
  · refine⟨?_,by rw[show Nat.beq inf inf=true from Nat.beq_refl _];rfl⟩
    cases e9:Nat.beq inf 0 with
    | false=>rfl
    | true=>exact absurd (zE e9) hi0
 show wS P [sT,xT] [.slice (some ⟨b,0,none⟩) len cap,x] h n (fun h' n' v'=>yZ (K ⟨d,u,h',n'⟩ v'))=true;unfold wS uL;dsimp only;rw [t1,t2];dsimp only;rw [t4,t5];dsimp only;rw [hap];dsimp only
 have c1:(Nat.beq ei.size 0 || !Nat.beq (cellsOf z0).length ei.size || !Nat.blt (Nat.add len 0) 1000000 || !Nat.blt ei.bytes 100000)=false:=by
  have a1:Nat.beq ei.size 0=false:=by
   cases e9:Nat.beq ei.size 0 with
   | false=>rfl
   | true=>have:=zE e9;omega
  have a2:Nat.beq (cellsOf z0).length ei.size=true:=by rw[t7,t6];exact Nat.beq_refl _
  rw[a1,a2,yU (show Nat.add len 0<1000000 from hl),yU t9];rfl
 rw[c1];have c2:(Nat.beq 0 0 && !Nat.beq cap 0 && (Nat.beq cap inf || Nat.ble len cap))=true:=by rw[hcap.1,hcap.2];rfl
 rw[c2];exact isSo_iff.2 k
theorem slice_nil0{ty sz:Nat}[s:SlC P ty e sz]:wB P h ty (.slice none 0 0) none (some (I64 0)) none=some (.slice none 0 0):=by
 obtain⟨hu,ei,hi,_⟩:=s.get;unfold wB;rw [hu];dsimp only;rw [hi];rfl
theorem cap_nil{ty:Nat}{el:TypeId}[s:UnC P ty (.slice el)]:Qb P .cap [ty] [.slice none 0 0] h (some (I64 0)):=by
 show aCap P ty _=_;unfold aCap;rw [s.ok];rfl
theorem app_nil0{sz:Nat}{x:Value}[A:ApC P sT xT e sz](hr:Row n h x e sz 0 [])(k:K ⟨d,u,h,n⟩ (.slice none 0 0)):BuB P cx .append [sT,xT] [.slice none 0 0,x] d u h n K:=by
 obtain⟨xd,ei,z0,t1,t2,t3,t4,t5,t6,t7,t8,t9⟩:=apTB_of A.ok;have hap:yW P h e ei.size xd x=some (0,[]):=by rw[t6];exact vR t3 hr
 show wS P [sT,xT] [.slice none 0 0,x] h n (fun h' n' v'=>yZ (K ⟨d,u,h',n'⟩ v'))=true;unfold wS uL;dsimp only;rw [t1,t2];dsimp only;rw [t4,t5];dsimp only;rw [hap];dsimp only
 have c1:(Nat.beq ei.size 0 || !Nat.beq (cellsOf z0).length ei.size || !Nat.blt (Nat.add 0 0) 1000000 || !Nat.blt ei.bytes 100000)=false:=by
  have a1:Nat.beq ei.size 0=false:=by
   cases e9:Nat.beq ei.size 0 with
   | false=>rfl
   | true=>have:=zE e9;omega
  have a2:Nat.beq (cellsOf z0).length ei.size=true:=by rw[t7,t6];exact Nat.beq_refl _
  rw[a1,a2,yU (show Nat.add 0 0<1000000 from by decide),yU t9];rfl
 rw[c1];have hb0:Nat.beq 0 inf=false:=by decide
 rw[hb0];exact isSo_iff.2 k
end
end Go.Ex
namespace Go.Ex
section
variable {P:Program} {ng:Nat}
def Rets(P:Program)(ng:Nat)(f:FuncId)(args:List Value)(h:zB)(n:Nat)(Q:Value→zB→Nat→Prop):Prop:=
 ∀(u:Option zH) (k:KO),(∀v h' n',Q v h' n'→k (.ret v) u h' n'=true)→(loS P ng).call f args false u h n k=true
abbrev Pure(P:Program)(ng:Nat)(f:FuncId)(args:List Value)(h:zB)(n:Nat)(v:Value):Prop:=
 Rets P ng f args h n fun v' h' n'=>v'=v∧h'=h∧n'=n
theorem Rets.does{f:FuncId}{args:List Value}{h:zB}{n:Nat}{Q:Value→zB→Nat→Prop}(r:Rets P ng f args h n Q)(u:Option zH):∃v h' n',Q v h' n'∧CallTo P ng f args false u h n (.ret v) u h' n':=by
 have:=r u (fun o u' h' n'=>yZ (∃v,o = .ret v∧u'=u∧Q v h' n')) (fun v h' n' q=>isSo_iff.2 ⟨v,rfl,rfl,q⟩);obtain⟨o,u',h',n',hk,hc⟩:=loS_call.1 this;obtain⟨v,rfl,rfl,q⟩:=isSo_iff.1 hk;exact⟨v,h',n',q,hc⟩
end
def TabsH(tabs:List (Nat×List Value))(h:zB):Prop:=∀p∈tabs,(∃z,xI (zF h p.1)=some (p.2.length,z,2))∧∀i,zC h p.1 i=p.2[i]?
noncomputable def hasB(P:Program)(f:FuncId):Bool:=match P.funcs[f]? with
 | some fn=>match fn.body with
  | some _=> !(fn.name == "runtime.NumGoroutine")
  | none=>false
 | none=>false
section
variable {P:Program} {ng:Nat}
theorem hasB_of{f:FuncId}(h:hasB P f=true):∃fn body,P.funcs[f]? = some fn∧fn.body=some body∧(fn.name == "runtime.NumGoroutine")=false:=by
 unfold hasB at h;split at h
 · rename_i fn e;split at h
   · rename_i body e2;exact⟨fn,body,e,e2,by simpa using h⟩
   · cases h
 · cases h
theorem scal_one{ρ : Inj}{v v':Value}(hv:xK v=true)(r:RV ρ v v'):v'=v:=by
 cases r <;> first|(cases hv;done)|rfl
theorem TabsH.world{tabs:List (Nat×List Value)}{h:zB}{n:Nat}{ρ : Inj}{base:Nat}{w0 wd:World}(t:TabsH tabs h)(hg:∀p∈tabs,p.1<ng∧p.2.all xK=true)(r:HeapR P ng ρ base w0 h n wd):TabsIn wd tabs:=by
 intro p hp;obtain⟨⟨z,h1⟩,h2⟩:=t p hp;obtain⟨g1,g2⟩:=hg p hp;obtain⟨B,e1,e2⟩:=r.glob p.1 g1;have hl:zF h p.1≠.dead:=fun e=>by rw[e]at h1;cases h1
 obtain⟨o,q1,q2⟩:=r.obj p.1 B e1 hl;unfold zC at h2;cases ho:zF h p.1 <;> rw[ho]at h1 <;> first|(cases h1;done)|(exact absurd (kd_of h1) (by decide))|skip
 rename_i c k z' kd;have h1':some (k,z',kd)=some (p.2.length,z,2):=h1;simp only[Option.some.injEq,Prod.mk.injEq]at h1';obtain⟨rfl,rfl,rfl⟩:=h1';rw [ho]at q2 h2
 cases q2 with
 | cells hn hs hk hz hv hb hf =>
  rename_i c' el lo hi;rw [e2]at q1;have hsz:c'.size=p.2.length:=by rw[hs];exact(hk (by omega)).symm
  have:c'=⟨p.2⟩:=by
   apply Array.ext
   · simpa using hsz
   · intro i i1 i2;have i3:i<p.2.length:=by omega
     have r1:=hv i c'[i] i3 (Array.getElem?_eq_getElem i1);have r2:=h2 i;unfold xH at r2;dsimp only at r2;rw [if_pos i3,List.getElem?_eq_getElem i3]at r2;injection r2 with r2
     rw[r2]at r1;have:=scal_one (List.all_eq_true.1 g2 _ (List.getElem_mem i3)) r1;rw [this];rfl
  rw[this]at q1;exact⟨el,(lo,hi),q1⟩
theorem scals_same{ρ : Inj}{args args':List Value}(ha:args.all xK=true)(r:RVs ρ args args'):args'=args:=by
 apply List.ext_getElem?;intro i
 cases e:args[i]? with
 | none=>exact List.getElem?_eq_none (by rw[← r.1];exact List.getElem?_eq_none_iff.1 e)
 | some x=>
  obtain⟨x',e1,e2⟩:=r.at e;rw [e1,scal_one (List.all_eq_true.1 ha x (List.mem_iff_getElem?.2 ⟨i,e⟩)) e2]
theorem RV.scal_refl{ρ : Inj}{v:Value}(hv:xK v=true):RV ρ v v:=by
 cases v <;> first|(cases hv;done)|skip
 · exact .bool _
 · exact .int _ _
 · exact .string _
 · exact .nilFunc
 · exact .nilIface
def isRes(v:Value):Bool:=match v with
 | .tuple l=>l.toList.all xK
 | v=>xK v
theorem RV.res_refl{ρ : Inj}{v:Value}(hv:isRes v=true):RV ρ v v:=by
 cases v <;> first|(cases hv;done)|skip
 · exact .bool _
 · exact .int _ _
 · exact .string _
 · exact .nilFunc
 · exact .nilIface
 · rename_i l;refine .tuple rfl fun i w w' a b=>?_;rw [a]at b;injection b with b;subst b
   exact RV.scal_refl (List.all_eq_true.1 hv w (List.mem_iff_getElem?.2 ⟨i,a⟩))
theorem uF{f:FuncId}{args:List Value}{h:zB}{n:Nat}{v:Value}{tabs:List (Nat×List Value)}(hf:hasB P f=true)(ha:args.all xK=true)(hv:isRes v=true)(ht:TabsH tabs h)(hg:∀p∈tabs,p.1<ng∧p.2.all xK=true)
(H:∀wd:World,TabsIn wd tabs→Calls P f ⟨args⟩ wd fun e w'=>e = .returned v∧Go.RowKit.Below wd.heap.size wd w'):Pure P ng f args h n v:=by
 intro u k hk;refine loS_call.2 ⟨.ret v,u,h,n,hk _ _ _ ⟨rfl,rfl,rfl⟩,hasB_of hf,fun ρ base w0 wd args' cs hH hra hu=>?_⟩;obtain rfl:=scals_same ha hra;obtain⟨e,w',fr,⟨rfl,hb⟩,hc,hfn,hl⟩:=H wd (ht.world hg hH) cs;obtain⟨k1,k2⟩:=hH.stay hb;obtain⟨y1,y2,y3,y4⟩:=hl;exact⟨ρ,w',fr,cs,hc,k1,k2,CsTo.refl _ _,(fun e=>Bool.noConfusion e),hfn,v,y1,y2,y3,y4,RV.res_refl hv⟩
theorem row_of_calls{f:FuncId}{args:List Value}{h:zB}{n len cap:Nat}{cs:List Value}{el:TypeId}{tabs:List (Nat×List Value)}(hf:hasB P f=true)(ha:args.all xK=true)(hc:cs.all xK=true)(hlen:len≤cap)(hcap:cap≠inf)
(ht:TabsH tabs h)(hg:∀p∈tabs,p.1<ng∧p.2.all xK=true)
(H:∀wd:World,TabsIn wd tabs→Calls P f ⟨args⟩ wd fun e w'=>e = .returned (.slice (some ⟨wd.heap.size,0,none⟩) len cap)∧w'=wd.alloc (.cells ⟨cs⟩ el)) :
 Rets P ng f args h n fun v' h' n'=>v' = .slice (some ⟨n,0,none⟩) len cap∧h'=h.set .dead (mkC cs 0 0) n∧n'=n+1:=by
 intro u k hk;refine loS_call.2 ⟨_,u,_,_,hk _ _ _ ⟨rfl,rfl,rfl⟩,hasB_of hf,fun ρ base w0 wd args' cs' hH hra hu=>?_⟩;obtain rfl:=scals_same ha hra;obtain⟨e,w',fr,⟨rfl,rfl⟩,hcm,hfn,hl⟩:=H wd (ht.world hg hH) cs'
 have hrow:RVs ρ cs (⟨cs⟩:Array Value).toList:=⟨rfl,fun i v v' a b=>by
  have b':cs[i]? = some v':=b;rw [a]at b';injection b' with b';subst b'
  exact RV.scal_refl (List.all_eq_true.1 hc v (List.mem_iff_getElem?.2 ⟨i,a⟩))⟩
 obtain⟨k1,k2⟩:=hH.alloc (mkC cs 0 0) (.cells ⟨cs⟩ el) ⟨wd.heap.size,cs.length,0⟩ rfl (hH.newRow (cs:=cs) (cs':=⟨cs⟩) hrow el);obtain⟨y1,y2,y3,y4⟩:=hl;refine⟨_,_,fr,cs',hcm,k1,k2,CsTo.refl _ _,(fun e=>Bool.noConfusion e),hfn,_,y1,y2,y3,y4,?_⟩;exact .slice (B:=⟨wd.heap.size,cs.length,0⟩) (by show(if n=n then _ else _)=_;rw [if_pos rfl]) hcap hlen (.inl rfl)
end
section
variable {P:Program} {ng:Nat}
theorem Row.world{n:Nat}{h:zB}{v v':Value}{el len:Nat}{vs:List Value}{ρ : Inj}{base:Nat}{w0 wd:World}(r:Row n h v el 1 len vs)(hs:vs.all xK=true)(hH:HeapR P ng ρ base w0 h n wd)(hv:RV ρ v v') :
 (len=0∧∃a c,v' = .slice a 0 c)∨(∃bk o c,v' = .slice (some ⟨bk,o,none⟩) len c∧len≤c∧bk<wd.heap.size∧∀(j:Nat) x,vs[j]? = some x→wd.cell? ⟨bk,o+j,none⟩=some x):=by
 rcases r with⟨rfl,rfl,rfl⟩|⟨b,off,cap,m,z,kd,hb,rfl,hl,hi,hm,hr,hc⟩
 · cases hv;exact .inl ⟨rfl,_,_,rfl⟩
 · rw[Nat.mul_one]at hl;have hlive:zF h b≠.dead:=fun e=>by rw[e]at hi;cases hi
   have main:∀(B:Bl),ρ b=some B→B.b<wd.heap.size∧∀(j:Nat) x,vs[j]? = some x→wd.cell? ⟨B.b,off+j,none⟩=some x:=by
    intro B eB;obtain⟨o,q1,q2⟩:=hH.obj b B eB hlive
    have hsz:B.b<wd.heap.size:=by
     rcases Nat.lt_or_ge B.b wd.heap.size with h1|h1
     · exact h1
     · rw[Array.getElem?_eq_none h1]at q1;cases q1
    refine⟨hsz,fun j x hj=>?_⟩;have hcell:=hr j x hj;unfold zC at hcell;cases ho:zF h b <;> rw[ho]at hcell <;> first|(cases hcell;done)|skip
    rotate_left
    · rename_i c kn;rw [ho]at q2
      cases q2 with
      | rows hn hv' =>
       rename_i c' el fr;obtain⟨hcv,hu⟩:=rows_cell hcell
       have hlt:off+j<kn:=by
        rcases uP hcell with⟨_,_,_,_,e1,_⟩|⟨_,_,e1,e2,_⟩
        · cases e1
        · injection e1 with _ e1;subst e1;exact e2
       have h2:off+j<c'.size:=by omega
       have rr:=hv' (off+j) c'[off+j] (Array.getElem?_eq_getElem h2) (by rw[hcv];exact hu);rw [hcv]at rr;have e3:=scal_one (List.all_eq_true.1 hs x (List.mem_iff_getElem?.2 ⟨j,hj⟩)) rr;unfold World.cell?;dsimp only;rw [q1];show c'[off+j]? = some x;rw [Array.getElem?_eq_getElem h2,e3]
    rename_i c kn z' kd';unfold xH at hcell;dsimp only at hcell;rw [ho]at q2
    cases q2 with
    | cells hn hs' hk hz hv' hb' hf=>
     rename_i c' el lo hi';by_cases hlt:off+j<kn
     · rw[if_pos hlt]at hcell;injection hcell with hcell
       have h2:off+j<c'.size:=by omega
       have rr:=hv' (off+j) c'[off+j] hlt (Array.getElem?_eq_getElem h2);rw [hcell]at rr;have e3:=scal_one (List.all_eq_true.1 hs x (List.mem_iff_getElem?.2 ⟨j,hj⟩)) rr;unfold World.cell?;dsimp only;rw [q1];show c'[off+j]? = some x;rw [Array.getElem?_eq_getElem h2,e3]
     · rw[if_neg hlt]at hcell;cases hcell
   cases hv with
   | slice0 e a=>exact .inl ⟨rfl,_,_,rfl⟩
   | slice e hc' hlc ho=>
    rename_i B o';obtain⟨m1,m2⟩:=main B e;rcases ho with rfl|h0
    · exact .inr ⟨B.b,o',cap,rfl,hlc,m1,m2⟩
    · exact .inl ⟨by omega,_,_,by rw[show len=0 by omega]⟩
   | opened e hlc ho=>
    rename_i B o' c';obtain⟨m1,m2⟩:=main B e;rcases ho with⟨rfl,_⟩|⟨h0,_⟩
    · exact .inr ⟨B.b,o',c',rfl,hlc,m1,m2⟩
    · exact .inl ⟨by omega,_,_,by rw[show len=0 by omega]⟩
theorem pure_of_calls_row{f:FuncId}{sv:Value}{args:List Value}{h:zB}{n el len:Nat}{vs:List Value}{v:Value}{tabs:List (Nat×List Value)}(hf:hasB P f=true)(r:Row n h sv el 1 len vs)(hvs:vs.all xK=true)(ha:args.all xK=true)(hv:isRes v=true)
(ht:TabsH tabs h)(hg:∀p∈tabs,p.1<ng∧p.2.all xK=true)
(H:∀(wd:World) (sv':Value),TabsIn wd tabs→((len=0∧∃a c,sv' = .slice a 0 c)∨(∃bk o c,sv' = .slice (some ⟨bk,o,none⟩) len c∧len≤c∧bk<wd.heap.size∧∀(j:Nat) x,vs[j]? = some x→wd.cell? ⟨bk,o+j,none⟩=some x))→
  Calls P f ⟨sv'::args⟩ wd fun e w'=>e = .returned v∧Go.RowKit.Below wd.heap.size wd w'):Pure P ng f (sv::args) h n v:=by
 intro u k hk;refine loS_call.2 ⟨.ret v,u,h,n,hk _ _ _ ⟨rfl,rfl,rfl⟩,hasB_of hf,fun ρ base w0 wd args' cs hH hra hu=>?_⟩;obtain⟨sv',r',rfl,hsv,hr'⟩:=hra.of_cons;obtain rfl:=scals_same ha hr';obtain⟨e,w',fr,⟨rfl,hb⟩,hc,hfn,hl⟩:=H wd sv' (ht.world hg hH) (r.world hvs hH hsv) cs;obtain⟨k1,k2⟩:=hH.stay hb;obtain⟨y1,y2,y3,y4⟩:=hl;exact⟨ρ,w',fr,cs,hc,k1,k2,CsTo.refl _ _,(fun e=>Bool.noConfusion e),hfn,v,y1,y2,y3,y4,RV.res_refl hv⟩
end
def Bld(T:Nat)(h:zB)(b:Nat)(p sv:Value):Prop:=xI (zF h b)=some (2,T+1,0)∧zC h b 0=some p∧zC h b 1=some sv
structure OneTurned (w w':World) (g:Nat):Prop where
 os:w'.os=w.os
 tape:w'.tape=w.tape
 output:w'.output=w.output
 size:w'.heap.size=w.heap.size
 rest:∀c,c≠g→w'.heap[c]? = w.heap[c]?
section
variable {P:Program} {ng:Nat}
theorem Bld.world{T:Nat}{h:zB}{b n:Nat}{p sv:Value}{ρ : Inj}{base:Nat}{w0 wd:World}{B:Bl}(hB:Bld T h b p sv)(hH:HeapR P ng ρ base w0 h n wd)(e: ρ b=some B) :
 ∃x y c,zF h b = .cells c 2 (T+1) 0∧Tr.get undef c 0=p∧Tr.get undef c 1=sv∧wd.heap[B.b]? = some (.cells #[x,y] T (0,0))∧RV ρ p x∧RV ρ sv y∧base≤B.b∧B.n=2:=by
 obtain⟨h1,h2,h3⟩:=hB;have hlive:zF h b≠.dead:=fun e=>by rw[e]at h1;cases h1
 obtain⟨o,q1,q2⟩:=hH.obj b B e hlive;unfold zC at h2 h3;cases ho:zF h b <;> rw[ho]at h1 <;> first|(cases h1;done)|(exact absurd (kd_of h1) (by decide))|skip
 rename_i c kn z kd;have h1':some (kn,z,kd)=some (2,T+1,0):=h1;simp only[Option.some.injEq,Prod.mk.injEq]at h1';obtain⟨rfl,rfl,rfl⟩:=h1';rw [ho]at q2 h2 h3;have g0:Tr.get undef c 0=p:=by have:some (Tr.get undef c 0)=some p:=h2;injection this
 have g1:Tr.get undef c 1=sv:=by have:some (Tr.get undef c 1)=some sv:=h3;injection this
 cases q2 with
 | cells hn hs hk hz hv hb hf=>
  rename_i c' el lo hi;obtain⟨rfl,rfl⟩:=hf (by decide);have hel:T+1=el+1:=hz.2 rfl (by omega);obtain rfl:T=el:=by omega
  have hn2:=hk (by decide);have hsz:c'.size=2:=by omega
  have e0:c'[0]? = some (c'[0]'(by omega)):=Array.getElem?_eq_getElem (by omega);have e1:c'[1]? = some (c'[1]'(by omega)):=Array.getElem?_eq_getElem (by omega);have r0:=hv 0 _ (by omega) e0;have r1:=hv 1 _ (by omega) e1;rw [g0]at r0;rw [g1]at r1;refine⟨_,_,c,rfl,g0,g1,?_,r0,r1,hb (by decide),hn2.symm⟩;rw [q1];congr 2
  apply Array.ext
  · simp[hsz]
  · intro i i1 i2;have:i=0∨i=1:=by omega
    rcases this with rfl|rfl <;> rfl
theorem copyCheck_fresh{f:FuncId}{T b n:Nat}{h:zB}{sv:Value}(hf:hasB P f=true)(hB:Bld T h b (.pointer none) sv)
(H:∀(wd:World) (c:Nat),wd.cell? ⟨c,0,none⟩=some (.pointer none)→wd.shape? c=some (T,2)→wd.frozen? ⟨c,0,none⟩=false→
  Calls P f #[.pointer (some ⟨c,0,none⟩)] wd fun e w'=>e = .returned (.tuple #[])∧w'=wd.setCell ⟨c,0,none⟩ (.pointer (some ⟨c,0,none⟩))) :
 Rets P ng f [.pointer (some ⟨b,0,none⟩)] h n fun v h' n'=>v = .tuple #[]∧h'=h.set .dead (stC (zF h b) 0 [.pointer (some ⟨b,0,none⟩)]) b∧n'=n:=by
 intro u k hk;refine loS_call.2 ⟨_,u,_,_,hk _ _ _ ⟨rfl,rfl,rfl⟩,hasB_of hf,fun ρ base w0 wd args' cs hH hra hu=>?_⟩;obtain⟨v',r',rfl,hv,hr'⟩:=hra.of_cons;obtain rfl:=hr'.of_nil
 cases hv with
 | ptr e =>
  rename_i B;obtain⟨x,y,c,ho,g0,g1,q1,rx,ry,hbase,hBn⟩:=hB.world hH e;cases rx
  have hc0:wd.cell? ⟨B.b,0,none⟩=some (.pointer none):=by unfold World.cell?;dsimp only;rw [q1];rfl
  have hsh:wd.shape? B.b=some (T,2):=by unfold World.shape?;rw [q1];rfl
  have hfz:wd.frozen? ⟨B.b,0,none⟩=false:=by unfold World.frozen?;dsimp only;rw [q1];rfl
  obtain⟨e2,w',fr,⟨rfl,rfl⟩,hcm,hfn,hl⟩:=H wd B.b hc0 hsh hfz cs;obtain⟨y1,y2,y3,y4⟩:=hl
  have hheap:(wd.setCell ⟨B.b,0,none⟩ (.pointer (some ⟨B.b,0,none⟩))).heap[B.b]? = some (.cells #[.pointer (some ⟨B.b,0,none⟩),y] T (0,0)):=by
   unfold World.setCell;dsimp only;rw [Array.getElem?_modify,if_pos rfl,q1];rfl
  obtain⟨k1,k2⟩:=hH.turn e (by rw[ho];exact AObj.noConfusion) (stC (zF h b) 0 [.pointer (some ⟨b,0,none⟩)]) (.cells #[.pointer (some ⟨B.b,0,none⟩),y] T (0,0)) (wd.setCell ⟨B.b,0,none⟩ (.pointer (some ⟨B.b,0,none⟩))) hbase (by
   rw[ho];refine .cells (by omega) (by simp[hBn]) (fun _=>hBn.symm) ⟨fun h=>absurd h (by decide),fun _ _=>rfl⟩ (fun i v' hi e3=>?_) (fun _=>hbase) (fun _=>⟨rfl,rfl⟩);rw [Tr.get_ofListFrom];have hi2:i=0∨i=1:=by omega
   rcases hi2 with rfl|rfl
   · rw[if_pos (by simp)];have e4:some (Value.pointer (some ⟨B.b,0,none⟩))=some v':=e3;injection e4 with e4;subst e4
     exact .ptr e
   · rw[if_neg (by simp),g1];have e4:some y=some v':=e3;injection e4 with e4;subst e4
     exact ry) hheap (by simp[World.setCell]) (fun c hc=>by
   unfold World.setCell;dsimp only;rw [Array.getElem?_modify,if_neg (fun h=>hc h.symm)]) rfl rfl rfl
  exact⟨ρ,_,fr,cs,hcm,k1,k2,CsTo.refl _ _,(fun e=>Bool.noConfusion e),hfn,_,y1,y2,y3,y4,RV.res_refl rfl⟩
theorem copyCheck_used{f:FuncId}{T b n:Nat}{h:zB}{sv:Value}(hf:hasB P f=true)(hB:Bld T h b (.pointer (some ⟨b,0,none⟩)) sv)
(H:∀(wd:World) (c:Nat),wd.cell? ⟨c,0,none⟩=some (.pointer (some ⟨c,0,none⟩))→Calls P f #[.pointer (some ⟨c,0,none⟩)] wd fun e w'=>e = .returned (.tuple #[])∧w'=wd) :
 Rets P ng f [.pointer (some ⟨b,0,none⟩)] h n fun v h' n'=>v = .tuple #[]∧h'=h∧n'=n:=by
 intro u k hk;refine loS_call.2 ⟨_,u,_,_,hk _ _ _ ⟨rfl,rfl,rfl⟩,hasB_of hf,fun ρ base w0 wd args' cs hH hra hu=>?_⟩;obtain⟨v',r',rfl,hv,hr'⟩:=hra.of_cons;obtain rfl:=hr'.of_nil
 cases hv with
 | ptr e =>
  rename_i B;obtain⟨x,y,c,ho,g0,g1,q1,rx,ry,hbase,hBn⟩:=hB.world hH e
  cases rx with
  | ptr e'=>
   rename_i B';rw [e]at e';injection e' with e'
   subst e';have hc0:wd.cell? ⟨B.b,0,none⟩=some (.pointer (some ⟨B.b,0,none⟩)):=by unfold World.cell?;dsimp only;rw [q1];rfl
   obtain⟨e2,w',fr,⟨rfl,rfl⟩,hcm,hfn,hl⟩:=H wd B.b hc0 cs;obtain⟨y1,y2,y3,y4⟩:=hl;exact⟨ρ,_,fr,cs,hcm,hH,Grow.refl _ _ _ _ hH.dom,CsTo.refl _ _,(fun e=>Bool.noConfusion e),hfn,_,y1,y2,y3,y4,RV.res_refl rfl⟩
abbrev bytesV(l:List UInt8):List Value:=l.map fun b=>Value.int .u8 (b.toNat:Nat)
theorem builder_String{f:FuncId}{T e8 b lo n:Nat}{h:zB}{p sv:Value}{l:List UInt8}(hf:hasB P f=true)(hB:Bld T h b p sv)(ho:Own lo n h sv e8 1 l.length (bytesV l))(hne:zO sv≠some b)(hlen:l.length<1000000)
(H0:∀(wd:World) (c:Nat) (x:Value),wd.heap[c]? = some (.cells #[x,.slice none 0 0] T (0,0))→Calls P f #[.pointer (some ⟨c,0,none⟩)] wd fun e w'=>e = .returned (.string ⟨#[]⟩)∧Go.RowKit.Below wd.heap.size wd w')
(H:∀(wd:World) (c g cap:Nat) (x:Value) (cur:Array Value),l≠[]→wd.heap[c]? = some (.cells #[x,.slice (some ⟨g,0,none⟩) l.length cap] T (0,0))→wd.heap[g]? = some (.cells cur e8 (0,0))→l.length≤cap→cap≤cur.size→
  (∀(j:Nat) (y:UInt8),l[j]? = some y→cur[j]? = some (.int .u8 (y.toNat:Nat)))→Calls P f #[.pointer (some ⟨c,0,none⟩)] wd fun e w'=>e = .returned (.string ⟨⟨l⟩⟩)∧OneTurned wd w' g) :
 Rets P ng f [.pointer (some ⟨b,0,none⟩)] h n fun v h' n'=>v=str l∧n'=n∧(∀b',zO sv≠some b'→zF h' b'=zF h b'):=by
 intro u k hk;rcases ho with⟨rfl,h0,h1⟩|⟨b2,q1,q2,rfl,q3,q4,q5,q6⟩
 · have hl0:l=[]:=List.length_eq_zero_iff.1 h0;subst hl0;refine loS_call.2 ⟨_,u,_,_,hk _ _ _ ⟨rfl,rfl,fun _ _=>rfl⟩,hasB_of hf,fun ρ base w0 wd args' cs hH hra hu=>?_⟩;obtain⟨v',r',rfl,hv,hr'⟩:=hra.of_cons;obtain rfl:=hr'.of_nil
   cases hv with
   | ptr e=>
    rename_i B;obtain⟨x,y,c,ho,g0,g1,w1,rx,ry,hbase,hBn⟩:=hB.world hH e;cases ry
    obtain⟨e2,w',fr,⟨rfl,hbl⟩,hcm,hfn,hl⟩:=H0 wd B.b x w1 cs;obtain⟨y1,y2,y3,y4⟩:=hl;obtain⟨k1,k2⟩:=hH.stay hbl;exact⟨ρ,_,fr,cs,hcm,k1,k2,CsTo.refl _ _,(fun e=>Bool.noConfusion e),hfn,_,y1,y2,y3,y4,RV.res_refl rfl⟩
 · refine loS_call.2 ⟨.ret (str l),u,h.set .dead .dead b2,n,hk _ _ _ ⟨rfl,rfl,fun b' hb'=>?_⟩,hasB_of hf,fun ρ base w0 wd args' cs hH hra hu=>?_⟩
   · rw[zI,if_neg (fun e=>hb' (by rw[e];rfl))]
   · obtain⟨v',r',rfl,hv,hr'⟩:=hra.of_cons;obtain rfl:=hr'.of_nil
     cases hv with
     | ptr e=>
      rename_i B;obtain⟨x,y,c,ho,g0,g1,w1,rx,ry,hbase,hBn⟩:=hB.world hH e;have hlive:zF h b2≠.dead:=fun e=>by rw[e]at q3;cases q3
      rcases ry.of_slice with⟨G,o',c',eg,rfl,_,hl',⟨hc,_⟩|⟨_,hog⟩⟩|⟨_,hc,_⟩
      · exact absurd rfl hc
      rotate_left
      · exact absurd hc (by decide)
      · skip
        obtain⟨o,z1,z2⟩:=hH.obj b2 G eg hlive;unfold zC at q6;cases hob:zF h b2 <;> rw[hob]at q3 <;> first|(cases q3;done)|(exact absurd (kd_of q3) (by decide))|skip
        rename_i cc kn z kd;have h1':some (kn,z,kd)=some ((bytesV l).length,zc e8 1,1):=q3;simp only[Option.some.injEq,Prod.mk.injEq]at h1';obtain⟨rfl,rfl,rfl⟩:=h1';rw [hob]at z2 q6
        cases z2 with
        | cells hn hs hk' hz hv hb hf' =>
         rename_i cur el lo' hi';obtain⟨rfl,rfl⟩:=hf' (by decide);obtain⟨hel,hGz⟩:=zc_inj (hz.1 rfl);subst hel
         have hc':o'=0∧0+c'*G.z=G.n:=by
          rcases hog with h9|⟨_,h9⟩
          · exact h9
          · exact absurd h9 (Nat.lt_irrefl _)
         obtain⟨rfl,hcn⟩:=hc';rw [← hGz]at hcn
         have hcur:∀(j:Nat) (y:UInt8),l[j]? = some y→cur[j]? = some (.int .u8 (y.toNat:Nat)):=by
          intro j y hj;have hjl:j<l.length:=(List.getElem?_eq_some_iff.1 hj).1;have hjk:j<(bytesV l).length:=by simpa using hjl
          have r2:=q6 j;unfold xH at r2;dsimp only at r2;rw [if_pos hjk]at r2;have e5:(bytesV l)[j]? = some (.int .u8 (y.toNat:Nat)):=by rw[List.getElem?_map,hj];rfl
          rw[e5]at r2;injection r2 with r2
          have hjc:j<cur.size:=by omega
          have r1:=hv j cur[j] hjk (Array.getElem?_eq_getElem hjc);rw [r2]at r1;rw [Array.getElem?_eq_getElem hjc,scal_one rfl r1]
         obtain⟨e2,w',fr,⟨rfl,ht⟩,hcm,hfn,hl⟩:=H wd B.b G.b c' x cur (fun e9=>by rw[e9]at q5;exact absurd q5 (Nat.lt_irrefl _)) w1 z1 hl' (by omega) hcur cs;obtain⟨y1,y2,y3,y4⟩:=hl;obtain⟨k1,k2⟩:=hH.kill b2;have hGbase:base≤G.b:=hb (by decide)
         have hother:∀a A,ρ a=some A→zF (h.set .dead .dead b2) a≠.dead→A.b≠G.b:=by
          intro a A ea hla heq;rw [zI]at hla;by_cases hab:b2=a
          · rw[if_pos hab]at hla;exact hla rfl
          · rw[if_neg hab]at hla;exact hab (hH.inj b2 a G A eg ea hlive hla heq.symm)
         refine⟨ρ,w',fr,cs,hcm,⟨k1.dom,fun a A ea hla=>?_,k1.inj,?_,by rw[ht.size];exact k1.size,k1.glob,k1.ngn⟩,⟨k2.nn,k2.old,k2.new,fun cx hcx hk9=>?_,by rw[ht.size];exact Nat.le_refl _,k2.dead,ht.tape⟩,CsTo.refl _ _,(fun e=>Bool.noConfusion e),hfn,_,y1,y2,y3,y4,RV.res_refl rfl⟩
         · obtain⟨o1,p1,p2⟩:=k1.obj a A ea hla;exact⟨o1,by rw[ht.rest _ (hother a A ea hla)];exact p1,p2⟩
         · exact k1.below.trans ⟨ht.os,ht.tape,ht.output,by rw[ht.size];exact Nat.le_refl _,fun kx hkx=>ht.rest kx (by omega)⟩
         · exact ht.rest cx (fun h9=>hk9 b2 G eg hlive h9.symm)
end
end Go.Ex
namespace Go.Ex
open Go
def cutB(c:UInt8):List UInt8→List UInt8×List UInt8×Bool
 | []=>([],[],false)
 | x::r=>if x=c then([],r,true) else(x::(cutB c r).1,(cutB c r).2.1,(cutB c r).2.2)
def wN(c:UInt8):List UInt8→List (List UInt8)
 | []=>[[]]
 | x::r=>if x=c then []::wN c r else match wN c r with
  | []=>[[x]]
  | h::t=>(x::h)::t
theorem splitL_ne(c:UInt8):∀s,wN c s≠[]:=by
 intro s
 induction s with
 | nil=>simp [wN]
 | cons x r ih=>
  unfold wN;split
  · simp
  · split <;> simp
theorem cutB_idx(c:UInt8):∀s:List UInt8,(Lib.index s [c] = -1∧cutB c s=(s,[],false)∧c∉s)∨(∃i:Nat,Lib.index s [c]=i∧cutB c s=(s.take i,s.drop (i+1),true)∧i<s.length∧s=s.take i++c::s.drop (i+1)∧c∉s.take i):=by
 intro s
 induction s with
 | nil=>exact .inl ⟨rfl,rfl,by simp⟩
 | cons x r ih=>
  by_cases h:x=c
  · subst h;refine .inr ⟨0,?_,?_,by simp,by simp,by simp⟩
    · unfold Lib.index;simp
    · unfold cutB;simp
  · have hp:([c].isPrefixOf (x::r))=false:=by simp[List.isPrefixOf];exact fun e=>h e.symm
    rcases ih with⟨h1,h2,h3⟩|⟨i,h1,h2,h3,h4,h5⟩
    · refine .inl ⟨?_,?_,?_⟩
      · unfold Lib.index;rw [hp,h1];rfl
      · unfold cutB;rw [if_neg h,h2]
      · intro hm;rcases List.mem_cons.1 hm with e|e
        · exact h e.symm
        · exact h3 e
    · refine .inr ⟨i+1,?_,?_,by simp;exact h3,?_,?_⟩
      · unfold Lib.index;rw [hp,h1];have:((i:Int) == -1)=false:=by simp
        rw[this];simp
      · unfold cutB;rw [if_neg h,h2];simp
      · simp only[List.take_succ_cons,List.drop_succ_cons,List.cons_append];rw [← h4]
      · simp only[List.take_succ_cons,List.mem_cons,not_or];exact⟨fun e=>h e.symm,h5⟩
theorem cut_one(c:UInt8)(s:List UInt8):Lib.cut s [c]=cutB c s:=by
 unfold Lib.cut;rcases cutB_idx c s with⟨h1,h2,_⟩|⟨i,h1,h2,h3,_⟩
 · rw[h1,h2];rfl
 · rw[h1,h2,if_pos (by omega)];simp
theorem splitL_cut(c:UInt8):∀s:List UInt8,wN c s=if (cutB c s).2.2 then(cutB c s).1::wN c (cutB c s).2.1 else [s]:=by
 intro s
 induction s with
 | nil=>rfl
 | cons x r ih =>
  have e1:wN c (x::r)=if x=c then []::wN c r else match wN c r with
   | []=>[[x]]
   | h::t=>(x::h)::t:=rfl
  have e2:cutB c (x::r)=if x=c then([],r,true) else(x::(cutB c r).1,(cutB c r).2.1,(cutB c r).2.2):=rfl
  rw[e1,e2];by_cases h:x=c
  · rw[if_pos h,if_pos h];rfl
  · rw[if_neg h,if_neg h,ih];by_cases hb:(cutB c r).2.2=true
    · rw[if_pos hb];dsimp only;rw [if_pos hb]
    · rw[if_neg hb];dsimp only;rw [if_neg hb]
theorem countFrom_one(c:UInt8):∀(k:Nat) (s:List UInt8),s.length<k→Lib.countFrom [c] k s=s.count c:=by
 intro k
 induction k with
 | zero=>intro s h;omega
 | succ k ih=>
  intro s h;unfold Lib.countFrom;rcases cutB_idx c s with⟨h1,_,h3⟩|⟨i,h1,_,h3,h4,h5⟩
  · rw[h1,List.count_eq_zero_of_not_mem h3];rfl
  · have hi:(Lib.index s [c] == -1)=false:=by rw[h1];simp
    rw[hi,h1];simp only[Bool.false_eq_true,if_false,Int.toNat_natCast,List.length_singleton];rw [ih (s.drop (i+1)) (by rw[List.length_drop];omega)]
    have:s.count c=(s.take i).count c+((s.drop (i+1)).count c+1):=by
     conv=>lhs;rw [h4]
     rw[List.count_append,List.count_cons_self]
    rw[this,List.count_eq_zero_of_not_mem h5];omega
theorem splitK_one(c:UInt8):∀(k:Nat) (s:List UInt8),s.count c≤k→Lib.splitK [c] 0 k s=wN c s:=by
 intro k
 induction k with
 | zero=>
  intro s h;rw [splitL_cut];rcases cutB_idx c s with⟨_,h2,_⟩|⟨i,_,_,_,h4,_⟩
  · rw[h2];rfl
  · rw[h4,List.count_append,List.count_cons_self]at h;omega
 | succ k ih=>
  intro s h;rw [splitL_cut];unfold Lib.splitK;rcases cutB_idx c s with⟨h1,h2,_⟩|⟨i,h1,h2,h3,h4,_⟩
  · rw[h1,h2];rfl
  · have hi:(Lib.index s [c] == -1)=false:=by rw[h1];simp
    rw[hi,h2,h1]
    have hc:(s.drop (i+1)).count c≤k:=by
     rw[h4,List.count_append,List.count_cons_self]at h;omega
    have:=ih (s.drop (i+1)) hc;simp only[Bool.false_eq_true,if_false,if_true,Int.toNat_natCast,Nat.add_zero,List.length_singleton];rw [this]
theorem split_one(c:UInt8)(s:ByteArray):(Lib.splitB ⟨#[c]⟩ 0 (Lib.countB s ⟨#[c]⟩) s).map (·.data.toList)=wN c s.data.toList:=by
 rw[Lib.splitB_data];refine splitK_one c _ _ ?_;show _≤Lib.countFrom [c] (s.data.toList.length+1) s.data.toList;rw [countFrom_one c _ _ (by omega)];exact Nat.le_refl _
theorem count_one(c:UInt8)(s:ByteArray):Lib.countB s ⟨#[c]⟩=s.data.toList.count c:=countFrom_one c _ _ (by omega)
theorem splitL_length(c:UInt8):∀s,(wN c s).length=s.count c+1:=by
 intro s
 induction s with
 | nil=>rfl
 | cons x r ih=>
  unfold wN;by_cases h:x=c
  · subst h;simp [ih]
  · rw[if_neg h,List.count_cons_of_ne h];split
    · rename_i e;exact absurd e (splitL_ne c r)
    · rename_i a b e;rw [e]at ih;simpa using ih
end Go.Ex
namespace Go.Ex
section
open Go.Shelf Go.RowKit Go.Proofs
variable {P:Program} {ρ : Ren}
theorem freeze_one(w:World)(g m:Nat):OneTurned w (w.freeze ⟨g,0,none⟩ m) g:=by
 unfold World.freeze;split
 · exact⟨rfl,rfl,rfl,rfl,fun _ _=>rfl⟩
 · refine⟨rfl,rfl,rfl,by simp,fun c hc=>?_⟩;dsimp only;rw [Array.getElem?_modify,if_neg (fun h=>hc h.symm)]
theorem OneTurned.drew{w w':World}{g:Nat}(h:OneTurned w.drew w' g):OneTurned w w' g:=⟨h.os,h.tape,h.output,h.size,h.rest⟩
set_option maxHeartbeats 1000000 in
set_option maxRecDepth 100000 in
theorem string_model(L:Lays.n169 P ρ)(X:Builder.Extra P ρ)(b g cap:Nat)(p:Value)(cur:Array Value)(l:List UInt8)(w:World)(h0:l≠[])(hmx:l.length<1000000)(hbk:w.heap[b]? = some (.cells #[p,.slice (some ⟨g,0,none⟩) l.length cap] (ρ.t 72) (0,0)))(hg:w.heap[g]? = some (.cells cur (ρ.t 5) (0,0)))
(hnc:l.length≤cap)(hcs:cap≤cur.size)(hcur:∀(j:Nat) (y:UInt8),l[j]? = some y→cur[j]? = some (.int .u8 (y.toNat:Nat))) :
 Calls P (ρ.f 169) #[.pointer (some ⟨b,0,none⟩)] w fun e w'=>e = .returned (.string ⟨l.toArray⟩)∧OneTurned w w' g:=by
 have hl0:l.length≠0:=by simpa using h0
 have c1:w.drew.cell? ⟨b,1,none⟩=some (.slice (some ⟨g,0,none⟩) l.length cap):=by
  have:w.drew.heap[b]? = some (.cells #[p,.slice (some ⟨g,0,none⟩) l.length cap] (ρ.t 72) (0,0)):=hbk;rw [Lib.cell_of_heap this];rfl
 have hSD:(Builtin.unsafeSliceData_ #[(ρ.t 37)] (ρ.t 127) #[.slice (some ⟨g,0,none⟩) l.length cap]).run P w.drew = .ok (.pointer (some ⟨g,0,none⟩)) w.drew:=
  Lib.run_unsafeSliceData_row _ _ _ _ _ _ (by omega)
 have hUS:(Builtin.unsafeString_ #[(ρ.t 127),(ρ.t 3)] (ρ.t 9) #[.pointer (some ⟨g,0,none⟩),.int .i64 l.length]).run P w.drew = .ok (.string ⟨l.toArray⟩) (w.drew.freeze ⟨g,0,none⟩ l.length):=by
  refine Lib.run_unsafeString_row w.drew (ρ.t 127) (ρ.t 3) (ρ.t 9) (ρ.t 5) L.t127 X.cellsByte g cur.size (by have hg':w.drew.heap[g]? = some (.cells cur (ρ.t 5) (0,0)):=hg;simp [World.shape?,hg']) l h0 (by omega) (by omega) ?_;intro j x hx;have hg':w.drew.heap[g]? = some (.cells cur (ρ.t 5) (0,0)):=hg;have e9:Addr.add ⟨g,0,none⟩ j=⟨g,j,none⟩:=by simp[Addr.add];omega
  rw[e9,Lib.cell_of_heap hg'];exact hcur j x hx
 have mixed:=L.mixed;have t72:=L.t72;have a72:=L.a72;have z72:=L.z72;have v72:=L.v72;have u72:=run_underlying L.t72;have t70:=L.t70;have a70:=L.a70;have z70:=L.z70;have v70:=L.v70;have u70:=run_underlying L.t70;have t37:=L.t37;have a37:=L.a37;have z37:=L.z37;have v37:=L.v37;have u37:=run_underlying L.t37;have t127:=L.t127;have a127:=L.a127;have z127:=L.z127;have v127:=L.v127;have u127:=run_underlying L.t127;have t3:=L.t3;have a3:=L.a3;have z3:=L.z3;have v3:=L.v3;have u3:=run_underlying L.t3;have t9:=L.t9;have a9:=L.a9;have z9:=L.z9;have v9:=L.v9;have u9:=run_underlying L.t9;have t5:=X.t5;have a5:=X.a5;have z5:=X.z5;have v5:=X.v5;have u5:=run_underlying X.t5
 go_enter L.f169,Body.n169_ntmps ρ
 go_wp2
 go_region_o
 all_goals (go_wp2;go_ret;exact⟨rfl,(freeze_one _ _ _).drew⟩)
end
end Go.Ex
namespace Go.Ex
def Sub(l h:zB):Prop:=∀b,zF l b = .dead∨zF h b=zF l b
theorem Sub.refl(h:zB):Sub h h:=fun _=>.inr rfl
section
variable {P:Program} {ng:Nat}
theorem HeapR.sub{ρ : Inj}{base:Nat}{w0:World}{h l:zB}{n:Nat}{wd:World}(r:HeapR P ng ρ base w0 h n wd)(hs:Sub l h):HeapR P ng ρ base w0 l n wd:=by
 refine⟨r.dom,fun b B e hl=>?_,fun a b A B ea eb la lb=>?_,r.below,r.size,r.glob,r.ngn⟩
 · rcases hs b with h1|h1
   · exact absurd h1 hl
   · rw[← h1]at hl ⊢;exact r.obj b B e hl
 · rcases hs a with h1|h1
   · exact absurd h1 la
   · rcases hs b with h2|h2
     · exact absurd h2 lb
     · exact r.inj a b A B ea eb (by rw[h1];exact la) (by rw[h2];exact lb)
theorem Grow.sub{ρ ρ':Inj}{h l h1 l1:zB}{n n':Nat}{wd wd':World}(g:Grow ρ l n wd ρ' h1 n' wd')(hs:Sub l h)(hs1:Sub l1 h1):Grow ρ h n wd ρ' l1 n' wd':=by
 have up:∀b,zF l b≠.dead→zF h b≠.dead:=fun b hb=>by
  rcases hs b with h2|h2
  · exact absurd h2 hb
  · rw[h2];exact hb
 have dn:∀b,zF h1 b = .dead→zF l1 b = .dead:=fun b hb=>by
  rcases hs1 b with h2|h2
  · exact h2
  · rw[← h2];exact hb
 refine⟨g.nn,g.old,fun b B hb e=>?_,fun c hc hk=>g.keep c hc fun b B e hl=>hk b B e (up b hl),g.size,fun b hb hd=>dn b (g.dead b hb ?_),g.tape⟩
 · rcases g.new b B hb e with h2|⟨a,A,h3,h4,h5,h6⟩
   · exact .inl h2
   · exact .inr ⟨a,A,h3,h4,h5,up a h6⟩
 · rcases hs b with h2|h2
   · exact h2
   · rw[← h2];exact hd
theorem CallTo.sub{f:FuncId}{args:List Value}{df:Bool}{u u':Option zH}{h l h1 l1:zB}{n n':Nat}{o:Out}(c:CallTo P ng f args df u l n o u' h1 n')(hs:Sub l h)(hs1:Sub l1 h1) :
 CallTo P ng f args df u h n o u' l1 n':=by
 refine⟨c.1,fun ρ base w0 wd args' cs hH ha hu=>?_⟩;obtain⟨ρ',wd',fr,cs',s1,s2,s3,s4,s5,s6,s7⟩:=c.2 ρ base w0 wd args' cs (hH.sub hs) ha hu;exact⟨ρ',wd',fr,cs',s1,s2.sub hs1,s3.sub hs hs1,s4,s5,s6,s7⟩
end
structure Rsl where
 v:Value
 h:zB
 n:Nat
abbrev HookH:=FuncId→List Value→zB→Nat→Option Rsl
noncomputable def Lo.hookH(hk:HookH)(lo:Lo):Lo:=
 { lo with call:=fun f args df u h n k=>Bool.rec (Option.rec (lo.call f args df u h n k) (fun r=>k (.ret r.v) u r.h r.n) (hk f args h n)) (lo.call f args df u h n k) df }
noncomputable def runHH(P:Program)(hk:HookH)(fuel:Nat):Lo:=Nat.rec Lo.bot (fun _ lo=>Lo.hookH hk (Lo.next P lo)) fuel
def HookHOK(P:Program)(ng:Nat)(hk:HookH):Prop:=∀f args h n r,hk f args h n=some r→∀u,CallTo P ng f args false u h n (.ret r.v) u r.h r.n
theorem hookH_sound{P:Program}{ng:Nat}{hk:HookH}(hh:HookHOK P ng hk){lo:Lo}(hS:Sound P ng lo):Sound P ng (Lo.hookH hk lo) where
 code:=hS.code
 round:=hS.round
 leave:=hS.leave
 call f args df u h n k hx:=by
  cases df with
  | true=>exact hS.call f args true u h n k hx
  | false =>
   have hx':(Option.rec (lo.call f args false u h n k) (fun r=>k (.ret r.v) u r.h r.n) (hk f args h n):Bool)=true:=hx
   cases e:hk f args h n with
   | none=>rw [e]at hx';exact hS.call f args false u h n k hx'
   | some r=>
    rw[e]at hx';exact⟨.ret r.v,u,r.h,r.n,hx',hh f args h n r e u⟩
theorem soundHH{P:Program}{ng:Nat}(hP:yC ng P=true)(hmix:P.follows .mixedOrders=true){hk:HookH}(hh:HookHOK P ng hk):∀fuel,Sound P ng (runHH P hk fuel):=by
 intro fuel
 induction fuel with
 | zero=>exact sound_bot
 | succ n ih=>exact hookH_sound hh (sound_next (draw_ok hP hmix) hP ih)
structure Once where
 f:FuncId
 args:List Value
 h:zB
 n:Nat
 r:Rsl
end Go.Ex
namespace Go.Ex
open Go.RowKit Classical
section
variable {P:Program} {ng:Nat}
theorem law_com{f:FuncId}{args args':List Value}{h:zB}{n:Nat}(r:Com P ng f args h n fun o _ _=>o = .ret (.bool true))(w:World){ρ : Inj}(hH:HeapR P ng ρ w.heap.size w h n w)(hra:RVs ρ args args') :
 Calls P f ⟨args'⟩ w fun e w'=>e = .returned (.bool true)∧Go.RowKit.Below w.heap.size w w':=by
 obtain⟨o,h',n',rfl,hc⟩:=r none;have hx:(loS P ng).call f args false none h n (finV (.bool true))=true:=loS_call.2 ⟨.ret (.bool true),none,h',n',rfl,hc⟩;obtain⟨o,u',h',n',hk,hc⟩:=calls_of sD hx;obtain rfl:=finV_ret hk;refine(hc ρ w.heap.size w w args' hH hra).mono fun e w' ⟨ρ',h1,h2,h3⟩=>?_
 cases e with
 | returned v'=>
  have h3:RV ρ' (.bool true) v':=h3;rw [h3.of_bool];exact⟨rfl,h1.below⟩
 | _=>cases h3
end
end Go.Ex
namespace Go.Proofs.YtmccnilgnlaffaaGreatDoor
open Go.Ex
set_option maxRecDepth 100000
set_option maxHeartbeats 80000000
noncomputable abbrev P:=Tryz.prog
theorem prog_ok:yC 8 P=true:=by decide +kernel
theorem mixed:P.follows .mixedOrders=true:=by decide +kernel
instance:Fit P 8:=⟨prog_ok,mixed⟩
end Go.Proofs.YtmccnilgnlaffaaGreatDoor
