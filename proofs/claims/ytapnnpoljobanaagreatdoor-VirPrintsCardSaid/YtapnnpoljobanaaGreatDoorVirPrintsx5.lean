/- What the law leans on: an executor of the model that is sound, deduction over it, and the walks through the code (part 5 of 6). Conditions: those that each theorem states. -/
import Derived.Test.YtapnnpoljobanaaGreatDoorVirPrintsx4
import Derived.Lib.LaidTab
import Derived.ProofKit
import Derived.LaidMore
import Derived.OpenShut
import Derived.Stop.Joined
import Derived.Stop.LaidErr
import Derived.ChangeOld
import Derived.Lib.LaidU8
import Derived.Shelf.Vars
import Derived.HandedShaped
import Derived.Below
import Derived.Lib.ItoaNum

set_option linter.unusedVariables false
set_option linter.unusedSimpArgs false
namespace Go.Proofs.YtapnnpoljobanaaGreatDoor
open Go.Ex Go.Ex.Vir Go.RowKit
set_option maxRecDepth 100000
set_option maxHeartbeats 4000000
theorem own_set{ty:TypeId}{lo n e len i:Nat}{h:zH}{bv v:Value}{vs:List Value}{bb:Nat}{K:KH}(o:Own lo n h bv e 1 len vs)(hb:wQ bv=some bb)(hs:yJ P ty = .scal)(hi:i<vs.length)(hv:v.oneCell'=true)
(hK:∀h',Own lo n h' bv e 1 len (vs.set i v)→(∀b',b'≠bb→yG h' b'=yG h b')→K h' n undef=true):zW P ty (.pointer (some ⟨bb,i,none⟩)) v h n K=true:=by
 rcases o with⟨rfl,rfl,rfl⟩|⟨b,q1,q2,rfl,q3,q4,q5,q6⟩
 · simp at hi
 · injection hb with hb
   subst hb;have e1:=cellsOf_one hv;refine eStore_ok (.inl ⟨hs,rfl⟩) (by rw[e1];rfl) (by rw[e1];simpa using hv) q3 (by decide) (by omega) (hK _ (.inr ⟨b,q1,q2,rfl,?_,?_,q5,fun j=>?_⟩) fun b' hb'=>?_)
   · rw[zP,if_pos rfl,oJ,q3,List.length_set]
   · rw[List.length_set];exact q4
   · unfold xX;rw [zP,if_pos rfl,e1,oI _ _ _ q3 (by simp;omega)];have h2:=q6 j;unfold xX at h2;rw [h2,List.getElem?_set];by_cases hj:j=i
     · subst hj;rw [if_pos ⟨Nat.le_refl _,by simp⟩,if_pos rfl];simp [hi]
     · rw[if_neg (by simp;omega),if_neg (fun h=>hj h.symm)]
   · rw[zP,if_neg (fun h=>hb' h.symm)]
def GQ(lo pb rb:Nat)(M S:List Nat)(h0:zH)(n0 nc:Nat)(r:Except Int Fct):Out→zH→Nat→Prop:=fun o h' n'=>TouchE S h0 n0 h' n'∧
 match r with
 | .ok f'=>o = .ret (.tuple ⟨[]⟩)∧nc≤n'∧∃vv pv bv svs,RAt lo n' h' pb rb f' vv pv bv svs∧∀x∈MM pb rb bv svs,x∈M∨n0≤x
 | .error e=>o = .panic (sB e)
theorem HQ.gq{lo pb rb:Nat}{bv:Value}{svs:List Value}{h0:zH}{n0 nc:Nat}{r:Except Int Fct}{o:Out}{h':zH}{n':Nat}(q:HQ lo pb rb bv svs h0 n0 nc r o h' n'):GQ lo pb rb (MM pb rb bv svs) (rb::((wQ bv).toList++oN svs)) h0 n0 nc r o h' n':=by
 refine⟨q.1.mono (by simp),?_⟩
 cases r with
 | ok f'=>obtain⟨q1,q3,vv,pv,q2⟩:=q.2;exact⟨q1,q3,vv,pv,bv,svs,q2,fun x hx=>.inl hx⟩
 | error e=>exact q.2
theorem mem_lastB{svs:List Value}{x:Nat}:x∈oN svs↔svs.getLast?.bind wQ=some x:=by unfold oN;rw [Option.mem_toList]
def blockF(f:Fct):Except Int Fct:=if f.blocks.length<200 then .ok { f with blocks:=f.blocks++[[]] } else .error 2
theorem block_comes{lo n pb rb:Nat}{h:zH}{f:Fct}{vv pv bv:Value}{svs:List Value}(r:RAt lo n h pb rb f vv pv bv svs) :
 ComesE P 8 67 [ptr rb 0] h n (GQ lo pb rb (MM pb rb bv svs) (rb::((wQ bv).toList++oN svs)) h n n (blockF f)):=by
 obtain⟨l1,l2,l3,l4,l5,l6⟩:=r.low;refine xE zK mixed (hint:=hq0) l67 fun u k hk=>?_;rw [F67_eq];unfold F67;unfold blockF at hk;have e1:zE P 41 h (.pointer (some ⟨rb,4,none⟩))=some bv:=zG r.cel sh41 rfl;have e2:=yX (P:=P) us41 (r.bo.row (Nat.le_refl 1)) [] h;try simp only[↓xF,↓pE,↓vP,↓zC,↓e1,↓e2,↓zD]
 by_cases hl:f.blocks.length<200
 · rw[if_pos hl]at hk;have e3:wB (f.blocks.length:Nat) 200=true:=by rw[zT];exact decide_eq_true (by omega)
   simp only[↓e3,↓zY];refine yQ (fun _=>?_) (fun e=>by cases e);try simp only[↓xF,↓pE,↓vP,↓zC,↓e1,↓e2,↓zD]
   refine tI on41 (v:=.slice none 0 0) rfl fun h1 c1 x1=>?_;have o1:=r.bo.touch (x1.touch []) (fun _ _ h=>by cases h);refine append_new ap41 o1 (by omega) c1 rfl (by simp[Value.oneCell']) (by omega) fun v2 h2 n2 o2 n2le k2=>?_;have t2:TouchE (wQ bv).toList h1 (n+1) h2 n2:=touch_blk (lo:=0) n2le k2;have t02:TouchE (wQ bv).toList h n h2 n2:=(x1.touch _).trans t2;try simp only[↓xF,↓pE,↓vP,↓zC]
   have hrb:rb∉(wQ bv).toList:=fun hx=>(r.bne rb (by simpa using hx)).2 rfl;refine wA (r.cel.touch t02 l5 hrb) sh41 (by simp) o2.one fun h3 c3 k3=>?_;have t3:TouchE [rb] h2 n2 h3 n2:=yA k3 (by simp);have t03:TouchE (rb::(wQ bv).toList) h n h3 n2:=(t02.mono (fun x hx=>List.mem_cons_of_mem _ hx)).trans (t3.mono (by simp));have t:TouchE (rb::((wQ bv).toList++oN svs)) h n h3 n2:=t03.mono (fun x hx=>(List.mem_cons.1 hx).elim (fun e=>by rw[e];exact List.mem_cons_self) (fun e=>List.mem_cons_of_mem _ (List.mem_append_left _ e)))
   have hS:∀x∈rb::(wQ bv).toList,x∈MM pb rb bv svs∨n≤x:=fun x hx=>.inl (mem_MM.2 (by
    rcases List.mem_cons.1 hx with rfl|hx
    · exact .inr (.inl rfl)
    · exact .inr (.inr (.inl (by simpa using hx)))))
   have hl2:(svs++[Value.slice none 0 0]).getLast?.bind wQ=none:=by rw[List.getLast?_append];rfl
   have hM:∀x∈MM pb rb v2 (svs++[.slice none 0 0]),x∈MM pb rb bv svs∨n≤x:=fun x hx=>by
    rcases mem_MM.1 hx with hx|rfl|hx|hx
    · exact .inl (mem_MM.2 (.inl hx))
    · exact .inl (mem_MM.2 (.inr (.inl rfl)))
    · exact .inr (by have:=(o2.ge x hx).1;omega)
    · rw[hl2]at hx;cases hx
   have o3:=o2.touch t3 (fun x hx hS=>by have:=(o2.ge x hx).1;simp at hS;omega);have hlen:=r.bl.len;refine pB r67 (hk _ _ _ ⟨t,rfl,t.1,vv,pv,v2,svs++[.slice none 0 0],⟨c3,⟨l1,l2,l3,Nat.lt_of_lt_of_le l4 t.1,Nat.lt_of_lt_of_le l5 t.1,l6⟩,r.vr.step t03 hS hM,r.pr.step t03 hS hM,?_,?_,?_,⟨?_,?_,?_⟩,?_⟩,hM⟩)
   · have h9:(f.blocks++[[]]).length=f.blocks.length+1:=by simp
     show Own lo n2 h3 v2 51 1 (f.blocks++[[]]).length _;rw [h9];exact o3.low (by omega)
   · intro b hb;have:=(o2.ge b hb).1;omega
   · intro b hb;rw [hl2]at hb;cases hb
   · simp[hlen]
   · intro k' l v h1' h2' h3';have h1'':k'<f.blocks.length:=by simpa using h1'
     rw[List.getElem?_append_left h1'']at h2';rw [List.getElem?_append_left (by omega)]at h3';by_cases hkl:k'+1<f.blocks.length
     · exact(r.bl.ro k' l v hkl h2' h3').step t03 hS hM
     · have hlast:f.blocks.getLast? = some l:=by rw[List.getLast?_eq_getElem?,← h2'];congr 1;omega
       have hlast2:svs.getLast? = some v:=by rw[List.getLast?_eq_getElem?,← h3'];congr 1;omega
       obtain⟨av,a1,a2⟩:=r.bl.last l v hlast hlast2;refine⟨av,a1.step t03 hS hM,own_ro (a2.touch t03 fun x hx hxS=>?_) (by omega) (fun x hx hxM=>?_)⟩
       · have h8:=r.lne x (by rw[hlast2];exact hx);rcases List.mem_cons.1 hxS with h7|h7
         · exact h8.2.1 h7
         · exact h8.2.2 (by simpa using h7)
       · have h8:=r.lne x (by rw[hlast2];exact hx);have h6:=(a2.ge x hx).2;rcases mem_MM.1 hxM with h7|h7|h7|h7
         · have:=h8.1;omega
         · exact h8.2.1 h7
         · have:=(o2.ge x h7).1;omega
         · rw[hl2]at h7;cases h7
   · intro l v h1' h2';rw [List.getLast?_append]at h1' h2';have h1'':some ([]:List Ins)=some l:=h1';have h2'':some (Value.slice none 0 0)=some v:=h2';injection h1'' with h1''
     injection h2'' with h2''
     subst h1'' h2'';exact⟨[],⟨rfl,fun j i a h=>by simp at h⟩,.inl ⟨rfl,rfl,rfl⟩⟩
   · show(f.blocks++[[]]).length≤200;simp;omega
 · rw[if_neg hl]at hk;have e3:wB (f.blocks.length:Nat) 200=false:=by rw[zT];exact decide_eq_false (by omega)
   simp only[↓e3,↓zY];refine yQ (fun e=>by cases e) (fun _=>?_);exact xH r67 (hk _ _ _ ⟨TouchE.refl _ _ _,rfl⟩)
theorem ins_comes{m:Int}{lo hi n n0 b pb rb:Nat}{h h0:zH}{ws:List Tx}{f:Fct}{vv pv bv:Value}{svs:List Value}{st:Nat}{op en:Bool}(r:RAt lo n0 h0 pb rb f vv pv bv svs)(j:KW m [] n hi b n0 h0 n h ws)(hne:f.blocks≠[]) :
 ComesE P 8 68 [ptr rb 0,ptr b 0] h n (GQ lo pb rb (MM pb rb bv svs) (rb::((wQ bv).toList++oN svs)) h0 n0 n (insS ⟨st,op,en,f⟩ ws)):=by
 obtain⟨l1,l2,l3,l4,l5,l6⟩:=r.low;obtain⟨bi,bl,hbl⟩:∃bi bl,f.blocks=bi++[bl]:=⟨f.blocks.dropLast,f.blocks.getLast hne,(List.dropLast_concat_getLast hne).symm⟩;have hlen:=r.bl.len;have hsne:svs≠[]:=fun e=>by rw[e,hbl]at hlen;simp at hlen
 obtain⟨si,sl,hsl⟩:∃si sl,svs=si++[sl]:=⟨svs.dropLast,svs.getLast hsne,(List.dropLast_concat_getLast hsne).symm⟩;have hsi:si.length=bi.length:=by rw[hbl,hsl]at hlen;simpa using hlen
 have hlast:f.blocks.getLast? = some bl:=by rw[hbl];simp
 have hlast2:svs.getLast? = some sl:=by rw[hsl];simp
 obtain⟨av,a1,a2⟩:=r.bl.last bl sl hlast hlast2;have hgd:f.blocks.getLastD []=bl:=by rw[hbl];simp
 have hbe:∃bb,wQ bv=some bb∧bv = .slice (some ⟨bb,0,none⟩) f.blocks.length inf∧bb<n0:=by
  rcases r.bo with⟨_,e,_⟩|⟨bb,q1,q2,q3,_⟩
  · rw[hbl]at e;simp at e
  · exact⟨bb,by rw[q3];rfl,q3,q2⟩
 obtain⟨bb,hbb,hbv,hbbn⟩:=hbe;have hb:=j.w.1;have hrb:rb≠b:=by omega
 have hn0:=j.t.1;refine xE zK mixed (hint:=hq0) l68 fun u k hk=>?_;rw [F68_eq];unfold F68;unfold insS at hk;dsimp only at hk;rw [hgd]at hk;refine xL (one_comes j.w j.env j.g) (fun v h1 n1 q=>?_) (fun c h1 n1 q=>?_)
 · obtain⟨q1,q2⟩:=q
   cases ha:oneI ws with
   | error e=>rw [ha]at q2;cases q2
   | ok p =>
    obtain⟨i,r1⟩:=p;rw [ha]at q2 hk;obtain⟨sv,q2,o1,il,w1⟩:=q2;injection q2 with q2;subst q2
    dsimp only at hk;have j1:=j.call q1 w1
    have hone:∀x∈vH i sv,x.oneCell'=true:=by
     intro x hx;simp only[vH,List.mem_cons,List.not_mem_nil,or_false]at hx;rcases hx with rfl|rfl|rfl|rfl|rfl|rfl|rfl|rfl|rfl <;> first|rfl|exact o1.one
    refine wZ ze50 fun h2 c2 x2=>?_;refine xU c2 sh50 rfl rfl hone fun h3 c3 k3=>?_;have t13:TouchE [n1] h1 n1 h3 (n1+1):=(x2.touch _).trans (yA k3 (by simp));have j3:=j1.wr t13 (fun x hx=>by simp at hx;subst hx;exact .inr (Nat.le_refl _));have n01:=j1.t.1;refine j3.fin (fun r4 h4 n4 ha4 u4 j4=>?_) (fun e h4 n4 ha4 t4=>?_)
    · rw[ha4]at hk;dsimp only at hk;have hb1:=q1.1;have n34:=u4.1;have c4:=r.cel.touch j4.t l5 (by simp);have e1:zE P 41 h4 (.pointer (some ⟨rb,4,none⟩))=some bv:=zG c4 sh41 rfl;have o4:=r.bo.touch j4.t (fun _ _ h=>by cases h);have e2:=yX (P:=P) us41 (o4.row (Nat.le_refl 1)) [] h4;try simp only[↓xF,↓pE,↓vP,↓zC,↓e1,↓e2,↓zD]
      have hbl1:f.blocks.length=bi.length+1:=by rw[hbl];simp
      have hbnd:=r.bnd;refine fi_sub (by omega) ?_;have e3:((f.blocks.length:Nat):Int) - 1=(bi.length:Nat):=by omega
      rw[e3]
      have e4:zR P 41 bv (.int .i64 (bi.length:Nat))=some (.pointer (some ⟨bb,bi.length,none⟩)):=by
       rw[hbv,index_sl ix41 (by omega)];simp
      have hcell:xX h4 bb bi.length=some sl:=by
       rcases o4 with⟨_,e,_⟩|⟨bb',_,_,q3,_,_,_,q6⟩
       · rw[hbl]at e;simp at e
       · rw[hbv]at q3;injection q3 with q3;injection q3 with q3;injection q3 with q3
         subst q3;rw [q6,hsl,List.getElem?_append_right (by omega)];simp [hsi]
      have e5:zE P 51 h4 (.pointer (some ⟨bb,bi.length,none⟩))=some sl:=load_scal sh51 hcell;have a24:=a2.touch j4.t (fun _ _ h=>by cases h);have e6:=yX (P:=P) us51 (a24.row (by omega)) [] h4;have hbn:b<n:=by have:=j.w.2.1;omega
      have c34:=c3.touch u4 (by omega) (by simp;omega);have e7:zE P 50 h4 (ptr n1 0)=some (.agg ⟨vH i sv⟩):=xA c34 sh50 rfl (by decide);try simp only[↓e4,↓zC,↓xQ,↓uB,↓xF,↓e5,↓e6,↓zD]
      by_cases hl:bl.length<400
      · rw[if_pos hl]at hk;have e8:wB (bl.length:Nat) 400=true:=by rw[zT];exact decide_eq_true (by omega)
        simp only[↓e8,↓zY];refine yQ (fun _=>?_) (fun e=>by cases e);try simp only[↓zC,↓xF,↓e5,↓e7]
        have e9:xP P 51 1 [(0,.agg ⟨vH i sv⟩)]=some (tM (vH i sv) 0):=by kernel_rfl
        refine rB (e:=50) (sz:=9) e9 rfl (by unfold inf;omega) fun h5 c5 x5=>?_;have o5:=a24.touch (x5.touch []) (fun _ _ h=>by cases h);refine append_new ap51 o5 (by omega) c5 rfl hone (by omega) fun v6 h6 n6 o6 n6le k6=>?_;have t6:TouchE (wQ sl).toList h5 (n4+1) h6 n6:=touch_blk (lo:=0) n6le k6;rw [vE n6le];have hls:∀x∈(wQ sl).toList,x∈oN svs:=fun x hx=>mem_lastB.2 (by rw[hlast2];simpa using hx);have hlsn:∀x∈(wQ sl).toList,x<n0:=fun x hx=>(a2.ge x (by simpa using hx)).2;have t06:TouchE (oN svs) h0 n0 h6 n6:=((j4.t.mono (S':=oN svs) (by simp)).trans (x5.touch _)).trans (t6.mono hls);have hbbl:bb∉oN svs:=fun hx=>(r.lne bb (mem_lastB.1 hx)).2.2 hbb;have ob6:=r.bo.touch t06 (fun x hx hxS=>by rw[hbb]at hx;injection hx with hx;subst hx;exact hbbl hxS);try simp only[↓uB,↓zC,↓xF]
        refine own_set ob6 hbb sh51 (by rw[hsl];simp [hsi]) o6.one fun h7 o7 k7=>?_;rw [vE (Nat.le_refl _)];try simp only[↓uB,↓xQ]
        have t7:TouchE [bb] h6 n6 h7 n6:=yA k7 (by simp);have T:TouchE ((wQ bv).toList++oN svs) h0 n0 h7 n6:=(t06.mono (fun x hx=>List.mem_append_right _ hx)).trans (t7.mono (fun x hx=>by simp at hx;subst hx;exact List.mem_append_left _ (by rw[hbb];simp)))
        have hset:svs.set bi.length v6=si++[v6]:=by
         rw[hsl,← hsi,List.set_append_right _ _ (Nat.le_refl _)];simp
        rw[hset]at o7
        have hS:∀x∈(wQ bv).toList++oN svs,x∈MM pb rb bv svs∨n0≤x:=fun x hx=>.inl (mem_MM.2 (by
         rcases List.mem_append.1 hx with hx|hx
         · exact .inr (.inr (.inl (by simpa using hx)))
         · exact .inr (.inr (.inr (mem_lastB.1 hx)))))
        have hl2:(si++[v6]).getLast? = some v6:=by simp
        have hM:∀x∈MM pb rb bv (si++[v6]),x∈MM pb rb bv svs∨n0≤x:=fun x hx=>by
         rcases mem_MM.1 hx with hx|rfl|hx|hx
         · exact .inl (mem_MM.2 (.inl hx))
         · exact .inl (mem_MM.2 (.inr (.inl rfl)))
         · exact .inl (mem_MM.2 (.inr (.inr (.inl hx))))
         · rw[hl2]at hx;exact .inr (by have:=(o6.ge x hx).1;omega)
        have hrbS:rb∉(wQ bv).toList++oN svs:=fun hx=>by
         rcases List.mem_append.1 hx with hx|hx
         · exact(r.bne rb (by simpa using hx)).2 rfl
         · exact(r.lne rb (mem_lastB.1 hx)).2.1 rfl
        have o67:=o6.touch t7 (fun x hx hS=>by have:=(o6.ge x hx).1;simp at hS;omega);have hadd:oK f.blocks i=bi++[bl++[i]]:=by unfold oK;rw [hgd,hbl];simp
        refine pB r68 (hk _ _ _ ⟨T.mono (fun x hx=>List.mem_cons_of_mem _ hx),rfl,(by have:=j4.nn;have:=x5.1;omega),vv,pv,bv,si++[v6],⟨r.cel.touch T l5 hrbS,⟨l1,l2,l3,Nat.lt_of_lt_of_le l4 T.1,Nat.lt_of_lt_of_le l5 T.1,l6⟩,r.vr.step T hS hM,r.pr.step T hS hM,?_,r.bne,?_,⟨?_,?_,?_⟩,?_⟩,hM⟩)
        · show Own lo n6 h7 bv 51 1 (oK f.blocks i).length _;have h9:(oK f.blocks i).length=f.blocks.length:=by rw[hadd,hbl];simp
          rw[h9];exact o7
        · intro x hx;rw [hl2]at hx;have h8:=(o6.ge x hx).1;refine⟨by omega,by omega,fun e=>?_⟩;rw [hbb]at e;injection e with e;omega
        · show(si++[v6]).length=(oK f.blocks i).length;rw [hadd];simp [hsi]
        · intro k' l v h1' h2' h3';have h1'':k'+1<(oK f.blocks i).length:=h1';have h2'':(oK f.blocks i)[k']? = some l:=h2';rw [hadd]at h1'' h2'';have hk':k'<bi.length:=by simpa using h1''
          rw[List.getElem?_append_left hk']at h2'';rw [List.getElem?_append_left (by omega)]at h3';exact(r.bl.ro k' l v (by omega) (by rw[hbl,List.getElem?_append_left hk'];exact h2'') (by rw[hsl,List.getElem?_append_left (by omega)];exact h3')).step T hS hM
        · intro l v h1' h2';have h1'':(oK f.blocks i).getLast? = some l:=h1';rw [hadd]at h1'';have h3'':some (bl++[i])=some l:=by simpa using h1''
          have h4'':some v6=some v:=by rw[hl2]at h2';exact h2'
          injection h3'' with h3''
          injection h4'' with h4''
          subst h3'' h4'';refine⟨av++[sv],⟨by simp[a1.1],fun jx ix ax g1 g2=>?_⟩,?_⟩
          · by_cases hjx:jx<bl.length
            · rw[List.getElem?_append_left hjx]at g1;rw [List.getElem?_append_left (by rw[a1.1];exact hjx)]at g2;exact(a1.2 jx ix ax g1 g2).step T hS hM
            · rw[List.getElem?_append_right (by omega)]at g1;rw [List.getElem?_append_right (by rw[a1.1];omega),a1.1]at g2
              have hz:jx - bl.length=0:=by
               cases hh:jx - bl.length with
               | zero=>rfl
               | succ z=>rw [hh]at g1;simp at g1
              rw[hz]at g1 g2;simp at g1 g2;subst g1 g2;have osv:∀x,wQ sv=some x→n≤x∧x<n1:=o1.ge;have oo:=(o1.touch (S:=[n1]) (t13) (fun x hx hS=>by have:=(osv x hx).2;simp at hS;omega)).touch u4 (fun x hx hS=>by have:=(osv x hx).1;have:=j.w.2.1;simp at hS;omega);have oo7:=((oo.touch (x5.touch []) (fun _ _ h=>by cases h)).touch t6 (fun x hx hS=>by have:=(osv x hx).1;have:=hlsn x hS;omega)).touch t7 (fun x hx hS=>by have:=(osv x hx).1;simp at hS;omega);refine own_ro oo7 (Nat.le_refl 1) (fun x hx hxM=>?_);have h8:=osv x hx;rcases mem_MM.1 hxM with h7|h7|h7|h7
              · omega
              · omega
              · rw[hbb]at h7;injection h7 with h7;omega
              · rw[hl2]at h7;have:=(o6.ge x h7).1;omega
          · rw[insFlat_add a1.1];have h9:(bl++[i]).length=bl.length+1:=by simp
            rw[h9];exact o67.low (by omega)
        · show(oK f.blocks i).length≤200;rw [hadd];have:=r.bnd;rw [hbl]at this;simpa using this
      · rw[if_neg hl]at hk;have e8:wB (bl.length:Nat) 400=false:=by rw[zT];exact decide_eq_false (by omega)
        simp only[↓e8,↓zY];refine yQ (fun e=>by cases e) (fun _=>?_);exact xH r68 (hk _ _ _ ⟨j4.t.mono (by simp),rfl⟩)
    · rw[ha4]at hk;exact xH r68 (hk _ _ _ ⟨t4.mono (by simp),rfl⟩)
 · obtain⟨q1,q2⟩:=q
   cases ha:oneI ws with
   | error e=>rw [ha]at q2 hk;injection q2 with q2;subst q2;exact xH r68 (hk _ _ _ ⟨(j.t.mono (by simp)).step q1 (fun x hx=>by simp at hx;subst hx;exact .inr hb),rfl⟩)
   | ok p=>rw [ha]at q2;obtain⟨v',q2,_⟩:=q2;cases q2
theorem lk_ok{q:zH→Option Value}{p v:Value}{w:W}(hp:blkLt w.n p=true)(hq:q w.h=some v)(hs:qH v v=true):lkQ q p v w=true:=by
 unfold lkQ;rw [hp,uB,hq];exact hs
theorem qN(x:Int):qH (I64 x) (I64 x)=true:=by
 show scalB (I64 x) (I64 x)=true;unfold scalB;show(uI .i64 .i64 && xN x x)=true;rw [xZ];simp;rfl
theorem lks2{wa wb:W}{f:W→Bool}{ls:List Lk}(hb:f wb=true)(ha:f wa=true)(h:lks [wa,wb] ls=true):lks [wa,wb] (⟨true,f,0,1⟩::ls)=true:=by
 show gt (gt (gt (f wa) true) (gt (gt (f wb) true) true)) (lks [wa,wb] ls)=true;rw [hb,ha,h];rfl
theorem lks3{wa wb wc:W}{f:W→Bool}{ls:List Lk}(hb:f wb=true)(hc:f wc=true)(h:lks [wa,wb,wc] ls=true):lks [wa,wb,wc] (⟨true,f,0,1⟩::ls)=true:=by
 show gt (gt true (gt (gt (f wb) true) (gt (gt (f wc) true) true))) (lks [wa,wb,wc] ls)=true;rw [hb,hc,h];rfl
theorem same_slice(b o l c:Nat):qH (.slice (some ⟨b,o,none⟩) l c) (.slice (some ⟨b,o,none⟩) l c)=true:=by
 show(Nat.beq b b && Nat.beq o o && Nat.beq l l && Nat.beq c c)=true;simp
abbrev hd(g rb:Nat):Value:=.func (.func g) ⟨[ptr rb 0]⟩ ⟨[]⟩
theorem same_hd(g rb:Nat):qH (hd g rb) (hd g rb)=true:=by
 show(Nat.beq g g && (((Nat.beq rb rb && Nat.beq 0 0) && true) && true))=true;simp
structure PAt (M:List Nat) (n:Nat) (h:zH) (pb rb:Nat) (step:Nat) (op en:Bool) (hv:Value):Prop where
 cel:Cel h pb 0 [hv,hd 67 rb,hd 68 rb,I64 (step:Nat),.bool op,.bool en]
 row:RO M n h hv 113 1 4 [hd 63 rb,hd 64 rb,hd 65 rb,hd 66 rb]
structure SAt (lo n:Nat) (h:zH) (pb rb:Nat) (st:St) (vv pv bv:Value) (svs:List Value) (hv:Value):Prop where
 r:RAt lo n h pb rb st.f vv pv bv svs
 p:PAt (MM pb rb bv svs) n h pb rb st.step st.opn st.ended hv
 o:st.opn=true→st.f.blocks≠[]
 s:st.step≤4
def TS(pb rb:Nat)(bv:Value)(svs:List Value):List Nat:=pb::rb::((wQ bv).toList++oN svs)
def LQ(lo pb rb:Nat)(S M:List Nat)(h:zH)(n:Nat)(r:Except Int St):Out→zH→Nat→Prop:=fun o h' n'=>TouchE S h n h' n'∧
 match r with
 | .ok st'=>o = .ret (.tuple ⟨[]⟩)∧∃vv pv bv svs hv,SAt lo n' h' pb rb st' vv pv bv svs hv∧∀x∈MM pb rb bv svs,x∈M∨n≤x
 | .error e=>o = .panic (sB e)
def OfOK(st:St)(s:Tx):Prop:=(st.step<4→∃ws,ofW s [] = .ok ws)∧(4≤st.step→(s == tEnd)=false→(s == rY)=false→st.opn=true→∃ws,ofW s tTwo = .ok ws)
theorem RAt.pwr{lo n:Nat}{h h':zH}{pb rb:Nat}{f:Fct}{vv pv bv:Value}{svs:List Value}(r:RAt lo n h pb rb f vv pv bv svs)(t:TouchE [pb] h n h' n):RAt lo n h' pb rb f vv pv bv svs:=by
 obtain⟨l1,l2,l3,l4,l5,l6⟩:=r.low;have hS:∀x∈[pb],x∈MM pb rb bv svs∨n≤x:=fun x hx=>by simp at hx;subst hx;exact .inl (mem_MM.2 (.inl (by omega)))
 exact r.step t (fun x hx=>by simp at hx;exact .inl (by omega)) rfl (r.cel.touch t l5 (by simp;omega)) (r.vr.step t hS (fun x hx=>.inl hx)) (r.pr.step t hS (fun x hx=>.inl hx))
theorem PAt.step{M M' S:List Nat}{n n':Nat}{h h':zH}{pb rb step:Nat}{op en:Bool}{hv:Value}(p:PAt M n h pb rb step op en hv)(t:TouchE S h n h' n')(hpb:pb<n)(h1:pb∉S)(hS:∀x∈S,x∈M∨n≤x)(hM:∀x∈M',x∈M∨n≤x):PAt M' n' h' pb rb step op en hv:=
 ⟨p.cel.touch t hpb h1,p.row.step t hS hM⟩
theorem gS_ok{lo n:Nat}{h:zH}{pb rb:Nat}{f:Fct}{vv pv bv:Value}{svs:List Value}(r:RAt lo n h pb rb f vv pv bv svs):pb∉rb::((wQ bv).toList++oN svs)∧(∀x∈rb::((wQ bv).toList++oN svs),x∈MM pb rb bv svs):=by
 obtain⟨l1,l2,l3,l4,l5,l6⟩:=r.low;refine⟨fun hx=>?_,fun x hx=>mem_MM.2 ?_⟩
 · rcases List.mem_cons.1 hx with hx|hx
   · omega
   · rcases List.mem_append.1 hx with hx|hx
     · have:=(r.bne pb (by simpa using hx)).1;omega
     · have:=(r.lne pb (mem_lastB.1 hx)).1;omega
 · rcases List.mem_cons.1 hx with hx|hx
   · exact .inr (.inl hx)
   · rcases List.mem_append.1 hx with hx|hx
     · exact .inr (.inr (.inl (by simpa using hx)))
     · exact .inr (.inr (.inr (mem_lastB.1 hx)))
def DoneL(lo pb rb:Nat)(S M:List Nat)(h:zH)(n:Nat)(u:Option yF)(g:Except Int St)(t:Fr)(w:W):Prop:=∃h' n',w=⟨[],u,h',n'⟩∧LQ lo pb rb S M h n g (.ret (.tuple ⟨[]⟩)) h' n'
theorem head_comes{m:Int}{lo hi n n0 b pb rb:Nat}{h h0:zH}{ws:List Tx}{f:Fct}{vv pv bv:Value}{svs:List Value}{op en:Bool}{st:Nat}{g:Nat}(hst:st<4)(hg:[hd 63 rb,hd 64 rb,hd 65 rb,hd 66 rb][st]? = some (hd g rb))
(r:RAt lo n0 h0 pb rb f vv pv bv svs)(j:KW m [] n hi b n0 h0 n h ws) :
 ComesE P 8 g [ptr rb 0,ptr b 0] h n (GQ lo pb rb (MM pb rb bv svs) (rb::((wQ bv).toList++oN svs)) h0 n0 n (qK ⟨st,op,en,f⟩ ws)):=by
 have h4:st=0∨st=1∨st=2∨st=3:=by omega
 rcases h4 with rfl|rfl|rfl|rfl
 · have:hd 63 rb=hd g rb:=Option.some.inj hg;injection this with e _ _;injection e with e;subst e
   exact(hname_comes r j).mono fun _ _ _ q=>q.gq
 · have:hd 64 rb=hd g rb:=Option.some.inj hg;injection this with e _ _;injection e with e;subst e
   exact(hregs_comes r j).mono fun _ _ _ q=>q.gq
 · have:hd 65 rb=hd g rb:=Option.some.inj hg;injection this with e _ _;injection e with e;subst e
   exact(hparams_comes r j).mono fun _ _ _ q=>q.gq
 · have:hd 66 rb=hd g rb:=Option.some.inj hg;injection this with e _ _;injection e with e;subst e
   exact(hresult_comes r j).mono fun _ _ _ q=>q.gq
theorem line_comes{m:Int}{lo n pb rb:Nat}{h:zH}{st:St}{vv pv bv:Value}{svs:List Value}{hv:Value}(s:SAt lo n h pb rb st vv pv bv svs hv)(hE:Env m h)(x:Tx)(hx:x.length<90000)(hof:OfOK st x) :
 ComesE P 8 127 [ptr pb 0,str x] h n (LQ lo pb rb (TS pb rb bv svs) (MM pb rb bv svs) h n (uY st x)):=by
 obtain⟨l1,l2,l3,l40,l5,l6⟩:=s.r.low;have l4:pb<n:=by omega
 have hgS:=gS_ok s.r;have hpM:pb∈MM pb rb bv svs:=mem_MM.2 (.inl (by omega))
 have hts:∀y∈TS pb rb bv svs,y∈MM pb rb bv svs:=fun y hy=>by
  rcases List.mem_cons.1 hy with rfl|hy
  · exact hpM
  · exact hgS.2 y hy
 have hself:∀y∈MM pb rb bv svs,y∈MM pb rb bv svs∨n≤y:=fun y hy=>.inl hy;refine xE zK mixed (hint:=hq0) l127 fun u k hk=>?_;rw [F127_eq];unfold F127;have hm:uY st x=uY st x:=rfl;conv at hm=>rhs;unfold uY
 have e1:zE P 4 h (.pointer (some ⟨pb,5,none⟩))=some (.bool st.ended):=zG s.p.cel sh4 rfl;have e2:zE P 3 h (.pointer (some ⟨pb,3,none⟩))=some (I64 (st.step:Nat)):=zG s.p.cel sh3 rfl;have e3:zE P 114 h (ptr pb 0)=some hv:=zG s.p.cel sh114 rfl;have e4:=yX (P:=P) us114 s.p.row.1 [] h;have e5:zE P 4 h (.pointer (some ⟨pb,4,none⟩))=some (.bool st.opn):=zG s.p.cel sh4 rfl;have e6:zE P 1 h (.pointer (some ⟨pb,1,none⟩))=some (hd 67 rb):=zG s.p.cel sh1 rfl;have e7:zE P 113 h (.pointer (some ⟨pb,2,none⟩))=some (hd 68 rb):=zG s.p.cel sh113 rfl;have ec:((ByteArray.mk #[]).data.toList:List UInt8)=[]:=rfl
 have hbad:(!st.ended && !(x == []))=false→∀t,zJ P (loS P 8) 127 k (.panic (sB 3)) t ⟨[],u,h,n⟩=true:=fun e t=>by
  rw[if_neg (by rw[e];exact Bool.false_ne_true)]at hm;exact xH r127 (hk _ _ _ (by rw[hm];exact⟨TouchE.refl _ _ _,rfl⟩))
 try simp only[↓xF,↓zC,↓fa116_5,↓e1,↓zI,↓xD]
 cases hen:st.ended with
 | true=>
  simp only[↓Bool.not_true,↓xJ,↓yV,↓zI];refine yQ (fun e=>by cases e) (fun _=>hbad (by rw[hen];rfl) _)
 | false=>
  simp only[↓Bool.not_false,↓yS,↓yR,↓zI];rw [cmpS_ne,ec];simp only[↓zI];show yO (loS P 8) 120 [.bool (!(x == [])),I64 3] h n _ _=true;refine yQ (fun hne=>?_) (fun hne=>hbad (by rw[hen,hne];rfl) _);rw [hen,hne,if_pos (show(!false && true)=true from rfl)]at hm;refine wG (DoneL lo pb rb (TS pb rb bv svs) (MM pb rb bv svs) h n u (uY st x)) (fun t w q=>?_) (fun kk hkk=>?_)
  · obtain⟨h',n',rfl,q⟩:=q;try simp only[↓xI]
    exact pB r127 (hk _ _ _ q)
  try simp only[↓xF,↓zC,↓fa116_3,↓fa116_0,↓e2,↓e3,↓e4,↓zD,↓xQ,↓uB,↓zY]
  refine wO (DoneL lo pb rb (TS pb rb bv svs) (MM pb rb bv svs) h n u (uY st x)) (fun t w q=>?_) (fun hc kk' hkk'=>?_) (fun hc kk hkk=>?_)
  · obtain⟨h',n',rfl,q⟩:=q;try simp only[↓xI]
    exact hkk _ _ ⟨h',n',rfl,q⟩
  · have hst:st.step<4:=by
     rw[zT]at hc;have:=of_decide_eq_true hc;omega
    rw[if_pos hst]at hm;obtain⟨ws,hws⟩:=hof.1 hst;rw [hws]at hm;dsimp only at hm;refine xL (of_comes hE (by omega) x [] hx) (fun v h1 n1 q=>?_) (fun c h1 n1 q=>?_)
    · obtain⟨x1,q⟩:=q;rw [hws]at q;obtain⟨b,q,w1⟩:=q;injection q with q;subst q
      have j:KW m [] n1 n1 b n h n1 h1 ws:=⟨x1.touch [],hE.touch (x1.touch []) (by omega) (fun _ h=>by cases h),w1,by omega,Nat.le_refl _⟩;have p1:=s.p.step (x1.touch []) l4 (by simp) (by simp) (M':=MM pb rb bv svs) (fun y hy=>.inl hy)
      obtain⟨g,hg⟩:∃g,[hd 63 rb,hd 64 rb,hd 65 rb,hd 66 rb][st.step]? = some (hd g rb):=by
       have h4:st.step=0∨st.step=1∨st.step=2∨st.step=3:=by omega
       rcases h4 with e|e|e|e <;> rw[e] <;> exact⟨_,rfl⟩
      obtain⟨bb,off,cap,hvb,hbb,hrow⟩:∃bb off cap,hv = .slice (some ⟨bb,off,none⟩) 4 cap∧bb<n∧True:=by
       rcases s.p.row.1 with⟨_,e,_⟩|⟨bb,off,cap,_,_,_,hb,e,_⟩
       · cases e
       · exact⟨bb,off,cap,e,hb,trivial⟩
      obtain⟨pp,i1,i2⟩:=xG (P:=P) (k:=.i64) s.p.row.1 ix114 (tl:=113) sh113 (i:=st.step) hg;obtain⟨pp',i1',i3⟩:=xG (P:=P) (k:=.i64) p1.row.1 ix114 (tl:=113) sh113 (i:=st.step) hg;obtain rfl:pp=pp':=Option.some.inj (i1.symm.trans i1')
      have hpp:pp = .pointer (some ⟨bb,off+st.step*1,none⟩):=by
       rw[hvb,index_sl ix114 hst]at i1;exact(Option.some.inj i1).symm
      have f3:zE P 114 h1 (ptr pb 0)=some hv:=zG p1.cel sh114 rfl;have f2:zE P 3 h1 (.pointer (some ⟨pb,3,none⟩))=some (I64 (st.step:Nat)):=zG p1.cel sh3 rfl;have lt1:∀{y off':Nat},y<n→blkLt n (.pointer (some ⟨y,off',none⟩))=true:=fun hy=>rA hy;have lt2:∀{y off':Nat},y<n→blkLt n1 (.pointer (some ⟨y,off',none⟩))=true:=fun hy=>rA (Nat.lt_of_lt_of_le hy x1.1);have k1a:∀{d:List Deferred} {u:Option yF},lkQ (fun h53=>zE P 113 h53 pp) pp (hd g rb) ⟨d,u,h1,n1⟩=true:=lk_ok (by rw[hpp];exact lt2 hbb) i3 (same_hd g rb);have k1b:∀{d:List Deferred} {u:Option yF},lkQ (fun h53=>zE P 113 h53 pp) pp (hd g rb) ⟨d,u,h,n⟩=true:=lk_ok (by rw[hpp];exact lt1 hbb) i2 (same_hd g rb);have k2a:∀{d:List Deferred} {u:Option yF},lkQ (fun h50=>zE P 3 h50 (.pointer (some ⟨pb,3,none⟩))) (.pointer (some ⟨pb,3,none⟩)) (I64 (st.step:Nat)) ⟨d,u,h1,n1⟩=true:=lk_ok (lt2 l4) f2 (qN _)
      have k2b:∀{d:List Deferred} {u:Option yF},lkQ (fun h50=>zE P 3 h50 (.pointer (some ⟨pb,3,none⟩))) (.pointer (some ⟨pb,3,none⟩)) (I64 (st.step:Nat)) ⟨d,u,h,n⟩=true:=lk_ok (lt1 l4) e2 (qN _);have k3a:∀{d:List Deferred} {u:Option yF},lkQ (fun h45=>zE P 114 h45 (ptr pb 0)) (ptr pb 0) hv ⟨d,u,h1,n1⟩=true:=lk_ok (lt2 l4) f3 (by rw[hvb];exact same_slice _ _ _ _);have k3b:∀{d:List Deferred} {u:Option yF},lkQ (fun h45=>zE P 114 h45 (ptr pb 0)) (ptr pb 0) hv ⟨d,u,h,n⟩=true:=lk_ok (lt1 l4) e3 (by rw[hvb];exact same_slice _ _ _ _);rw [vE x1.1];try simp only[↓uB,↓xF,↓zC,↓fa116_3,↓fa116_0,↓f2,↓f3,↓zD,↓i1,↓i3]
      refine qJ (first:=[ptr rb 0]) (cap:=[]) (args:=[ptr b 0]) (head_comes (op:=st.opn) (en:=false) hst hg s.r j) (fun v h2 n2 q=>?_) (fun c h2 n2 q=>?_)
      · obtain⟨q1,q2⟩:=q
        cases ha:qK ⟨st.step,st.opn,false,st.f⟩ ws with
        | error e=>rw [ha]at q2;cases q2
        | ok f' =>
         rw[ha]at q2;have ha':qK st ws = .ok f':=by rw[← ha];cases st;dsimp only at hen ⊢;subst hen;rfl
         rw[ha']at hm;dsimp only at hm;obtain⟨q2,q3,vv',pv',bv',svs',r',hM'⟩:=q2;rw [vE q3];rw [uB,lks3 k1a k1b (lks3 k2a k2b (lks3 k3a k3b rfl)),uB];have c2:=s.p.cel.touch q1 l4 hgS.1;have g2:zE P 3 h2 (.pointer (some ⟨pb,3,none⟩))=some (I64 (st.step:Nat)):=zG c2 sh3 rfl;try simp only[↓xF,↓zC,↓fa116_3,↓g2,↓zD]
         refine vT (by omega) ?_;refine wA c2 sh3 (by simp) rfl fun h3 c3 k3=>?_;have t3:TouchE [pb] h2 n2 h3 n2:=yA k3 (by simp);have T:TouchE (TS pb rb bv svs) h n h3 n2:=(q1.mono (fun y hy=>List.mem_cons_of_mem _ hy)).trans (t3.mono (fun y hy=>by simp at hy;subst hy;exact List.mem_cons_self));refine hkk' _ _ ⟨h3,n2,rfl,T,?_⟩;rw [hm]
         have c3':Cel h3 pb 0 [hv,hd 67 rb,hd 68 rb,I64 ((st.step+1:Nat)),.bool st.opn,.bool false]:=by
          rw[hen]at c3;exact c3
         refine⟨rfl,vv',pv',bv',svs',hv,⟨r'.pwr t3,⟨c3',s.p.row.step T (fun y hy=>.inl (hts y hy)) hM'⟩,fun ho=>?_,by show st.step+1≤4;omega⟩,hM'⟩;rw [show f'.blocks=st.f.blocks from headS_blocks ha'];exact s.o ho
      · obtain⟨q1,q2⟩:=q
        cases ha:qK ⟨st.step,st.opn,false,st.f⟩ ws with
        | ok f'=>rw [ha]at q2;obtain⟨q2,_⟩:=q2;cases q2
        | error e=>
         rw[ha]at q2;have ha':qK st ws = .error e:=by rw[← ha];cases st;dsimp only at hen ⊢;subst hen;rfl
         rw[ha']at hm;dsimp only at hm;injection q2 with q2;subst q2
         rw[lks2 k1b k1a (lks2 k2b k2a (lks2 k3b k3a rfl)),uB];exact xH r127 (hk _ _ _ (by rw[hm];exact⟨q1.mono (fun y hy=>List.mem_cons_of_mem _ hy),rfl⟩))
    · obtain⟨x1,q⟩:=q;rw [hws]at q;obtain⟨b,q,w1⟩:=q;cases q
  · have hst:¬st.step<4:=by
     rw[zT]at hc;have:=of_decide_eq_false hc;omega
    rw[if_neg hst]at hm;have y1:∀K,yB xN P .eql 9 true (str x) (.string (ByteArray.mk #[101,110,100])) K=K (x == tEnd):=fun K=>vX _ _ _ _ _ K;have y2:∀K,yB xN P .eql 9 true (str x) (.string (ByteArray.mk #[98,108,111,99,107])) K=K (x == rY):=fun K=>vX _ _ _ _ _ K;simp only[↓y1,↓y2];refine wO (DoneL lo pb rb (TS pb rb bv svs) (MM pb rb bv svs) h n u (uY st x)) (fun t w q=>?_) (fun hc1 kk' hkk'=>?_) (fun hc1 kk hkk=>?_)
    · obtain⟨h',n',rfl,q⟩:=q;try simp only[↓xI]
      exact hkk _ _ ⟨h',n',rfl,q⟩
    · rw[hc1,if_pos rfl]at hm;try simp only[↓xF,↓zC,↓fa116_5]
      refine wA s.p.cel sh4 (by simp) rfl fun h3 c3 k3=>?_;have t3:TouchE [pb] h n h3 n:=yA k3 (by simp);have T:TouchE (TS pb rb bv svs) h n h3 n:=t3.mono (fun y hy=>by simp at hy;subst hy;exact List.mem_cons_self);refine hkk' _ _ ⟨h3,n,rfl,T,?_⟩;rw [hm];exact⟨rfl,vv,pv,bv,svs,hv,⟨s.r.pwr t3,⟨c3,s.p.row.step T (fun y hy=>.inl (hts y hy)) (fun y hy=>.inl hy)⟩,s.o,s.s⟩,hself⟩
    rw[hc1,if_neg Bool.false_ne_true]at hm;refine wO (DoneL lo pb rb (TS pb rb bv svs) (MM pb rb bv svs) h n u (uY st x)) (fun t w q=>?_) (fun hc2 kk' hkk'=>?_) (fun hc2 kk hkk=>?_)
    · obtain⟨h',n',rfl,q⟩:=q;try simp only[↓xI]
      exact hkk _ _ ⟨h',n',rfl,q⟩
    · rw[hc2,if_pos rfl]at hm;try simp only[↓xF,↓zC,↓fa116_1,↓fa116_4,↓e6]
      refine qJ (first:=[ptr rb 0]) (cap:=[]) (args:=[]) (block_comes s.r) (fun v h2 n2 q=>?_) (fun c h2 n2 q=>?_)
      · obtain⟨q1,q2⟩:=q;unfold blockF at q2;by_cases hl:st.f.blocks.length<200
        · rw[if_pos hl]at q2 hm;obtain⟨q2,q3,vv',pv',bv',svs',r',hM'⟩:=q2;have c2:=s.p.cel.touch q1 l4 hgS.1;refine wA c2 sh4 (by simp) rfl fun h3 c3 k3=>?_;have t3:TouchE [pb] h2 n2 h3 n2:=yA k3 (by simp);have T:TouchE (TS pb rb bv svs) h n h3 n2:=(q1.mono (fun y hy=>List.mem_cons_of_mem _ hy)).trans (t3.mono (fun y hy=>by simp at hy;subst hy;exact List.mem_cons_self));refine hkk' _ _ ⟨h3,n2,rfl,T,?_⟩;rw [hm]
          have c3':Cel h3 pb 0 [hv,hd 67 rb,hd 68 rb,I64 (st.step:Nat),.bool true,.bool false]:=by
           rw[hen]at c3;exact c3
          exact⟨rfl,vv',pv',bv',svs',hv,⟨r'.pwr t3,⟨c3',s.p.row.step T (fun y hy=>.inl (hts y hy)) hM'⟩,fun _=>by simp,s.s⟩,hM'⟩
        · rw[if_neg hl]at q2;cases q2
      · obtain⟨q1,q2⟩:=q;unfold blockF at q2;by_cases hl:st.f.blocks.length<200
        · rw[if_pos hl]at q2;obtain⟨q2,_⟩:=q2;cases q2
        · rw[if_neg hl]at q2 hm;injection q2 with q2;subst q2
          exact xH r127 (hk _ _ _ (by rw[hm];exact⟨q1.mono (fun y hy=>List.mem_cons_of_mem _ hy),rfl⟩))
    · rw[hc2,if_neg Bool.false_ne_true]at hm;try simp only[↓xF,↓zC,↓fa116_2,↓fa116_4,↓e5,↓zI]
      refine yQ (fun ho=>?_) (fun ho=>?_)
      · rw[if_pos ho]at hm;obtain⟨ws,hws⟩:=hof.2 (by omega) hc1 hc2 ho;rw [hws]at hm;dsimp only at hm;refine xL (of_comes hE (by omega) x tTwo hx) (fun v h1 n1 q=>?_) (fun c h1 n1 q=>?_)
        · obtain⟨x1,q⟩:=q;rw [hws]at q;obtain⟨b,q,w1⟩:=q;injection q with q;subst q
          have j:KW m [] n1 n1 b n h n1 h1 ws:=⟨x1.touch [],hE.touch (x1.touch []) (by omega) (fun _ h=>by cases h),w1,by omega,Nat.le_refl _⟩;have p1:=s.p.step (x1.touch []) l4 (by simp) (by simp) (M':=MM pb rb bv svs) (fun y hy=>.inl hy);have f7:zE P 113 h1 (.pointer (some ⟨pb,2,none⟩))=some (hd 68 rb):=zG p1.cel sh113 rfl;have k7a:∀{d:List Deferred} {u:Option yF},lkQ (fun h45=>zE P 113 h45 (.pointer (some ⟨pb,2,none⟩))) (.pointer (some ⟨pb,2,none⟩)) (hd 68 rb) ⟨d,u,h1,n1⟩=true:=lk_ok (rA (Nat.lt_of_lt_of_le l4 x1.1)) f7 (same_hd _ rb);have k7b:∀{d:List Deferred} {u:Option yF},lkQ (fun h45=>zE P 113 h45 (.pointer (some ⟨pb,2,none⟩))) (.pointer (some ⟨pb,2,none⟩)) (hd 68 rb) ⟨d,u,h,n⟩=true:=lk_ok (rA l4) e7 (same_hd _ rb);rw [vE x1.1];try simp only[↓uB,↓xF,↓zC,↓fa116_2,↓f7]
          refine qJ (first:=[ptr rb 0]) (cap:=[]) (args:=[ptr b 0]) (ins_comes (st:=st.step) (op:=st.opn) (en:=st.ended) s.r j (s.o ho)) (fun v h2 n2 q=>?_) (fun c h2 n2 q=>?_)
          · obtain⟨q1,q2⟩:=q
            cases ha:insS ⟨st.step,st.opn,st.ended,st.f⟩ ws with
            | error e=>rw [ha]at q2;cases q2
            | ok f'=>
             rw[ha]at q2;have ha':insS st ws = .ok f':=ha;rw [ha']at hm;dsimp only at hm;obtain⟨q2,q3,vv',pv',bv',svs',r',hM'⟩:=q2;rw [vE q3,uB,lks3 k7a k7b rfl,uB];have T:TouchE (TS pb rb bv svs) h n h2 n2:=q1.mono (fun y hy=>List.mem_cons_of_mem _ hy);refine hkk _ _ ⟨h2,n2,rfl,T,?_⟩;rw [hm];refine⟨rfl,vv',pv',bv',svs',hv,⟨r',⟨?_,s.p.row.step T (fun y hy=>.inl (hts y hy)) hM'⟩,fun _=>?_,s.s⟩,hM'⟩
             · have c2:=s.p.cel.touch q1 l4 hgS.1;rw [hen]at c2;exact c2
             · exact insS_blocks ha'
          · obtain⟨q1,q2⟩:=q
            cases ha:insS ⟨st.step,st.opn,st.ended,st.f⟩ ws with
            | ok f'=>rw [ha]at q2;obtain⟨q2,_⟩:=q2;cases q2
            | error e=>
             rw[ha]at q2;have ha':insS st ws = .error e:=ha;rw [ha']at hm;dsimp only at hm;injection q2 with q2;subst q2
             rw[lks2 k7b k7a rfl,uB];exact xH r127 (hk _ _ _ (by rw[hm];exact⟨q1.mono (fun y hy=>List.mem_cons_of_mem _ hy),rfl⟩))
        · obtain⟨x1,q⟩:=q;rw [hws]at q;obtain⟨b,q,w1⟩:=q;cases q
      · rw[if_neg (by rw[ho];exact Bool.false_ne_true)]at hm;exact xH r127 (hk _ _ _ (by rw[hm];exact⟨TouchE.refl _ _ _,rfl⟩))
set_option maxRecDepth 1000000
theorem line1_comes{m:Int}{lo n pb rb pbx lbx zl:Nat}{h:zH}{st:St}{vv pv bv:Value}{svs:List Value}{hv:Value}(s:SAt lo n h pb rb st vv pv bv svs hv)(hE:Env m h)(x:Tx)(hx:x.length<90000)(hof:OfOK st x)
(hp:Cel h pbx 0 [ptr pb 0])(hl:Cel h lbx zl [str x])(shp:yJ P 112 = .scal) :
 ComesE P 8 126 [ptr pbx 0,ptr lbx 0] h n (LQ lo pb rb (TS pb rb bv svs) (MM pb rb bv svs) h n (uY st x)):=by
 refine xE zK mixed (hint:=hq0) l126 fun u k hk=>?_;rw [F126_eq];unfold F126;have e1:zE P 112 h (ptr pbx 0)=some (ptr pb 0):=zG hp shp rfl;have e2:zE P 9 h (ptr lbx 0)=some (str x):=zG hl sh9 rfl;simp only[↓e1,↓e2,↓zC];refine xL (line_comes s hE x hx hof) (fun v h' n' q=>?_) (fun c h' n' q=>?_)
 · have hv:v = .tuple ⟨[]⟩:=by
    obtain⟨_,q2⟩:=q
    cases hm:uY st x with
    | error e=>rw [hm]at q2;cases q2
    | ok st'=>rw [hm]at q2;obtain⟨q2,_⟩:=q2;injection q2
   subst hv;exact pB r126 (hk _ _ _ q)
 · exact xH r126 (hk _ _ _ q)
noncomputable def ansL(o:Out)(h:zH)(n:Nat):Lo:=⟨fun _ _ _ _ _=>false,fun _ _ _ _ _ _ k=>k o none h n,fun _ _ _ _ _=>false,fun _ _ _ _ _=>false⟩
section
variable (L:Lo) (s0 s1 s3 s7 s8 s9 s10 s11 s12 s13 s14 s15 s16 s17 s18 s19 s20 s21 s22 s23 s24 s25 s26 s27:Value) (b2 b4 b5 b6 b8 l n:Nat) (no:Int) (x:Tx) (h:zH)
theorem assign_eq(k:KX) :
 pZ (gf28 s0 s1 (ptr b2 0) s3 (ptr b4 0) (ptr b5 0) (ptr b6 0) s7 s8 s9 s10 s11 s12 s13 s14 s15 s16 s17 s18 s19 s20 s21 s22 s23 s24 s25 s26 s27) (rfP P 69 5).toList [.int .i64 no,str x] (fun t'=>xcode P L (rfA P 69 5) ⟨69,some l,false⟩ t' ⟨[],none,h,n⟩ k) =
  xB h n (uG [str []] 9) fun h1 n1=>storeAt h1 n 0 [str x] fun h2=>
   k .normal (gf28 s0 s1 (ptr b2 0) s3 (ptr b4 0) (ptr b5 0) (ptr b6 0) (.int .i64 no) (ptr n 0) s9 s10 s11 (.int .i64 no) (str x) s14 s15 s16 s17 s18 s19 s20 s21 s22 s23 s24 s25 s26 s27) ⟨[],none,h2,n1⟩:=by kernel_rfl
theorem body_eq(k:KX)(u:Option yF) :
 xcode P L (rfB P 69 5) ⟨69,some l,false⟩ (gf28 s0 s1 (ptr b2 0) s3 (ptr b4 0) (ptr b5 0) (ptr b6 0) (.int .i64 no) (ptr b8 0) s9 s10 s11 s12 s13 s14 s15 s16 s17 s18 s19 s20 s21 s22 s23 s24 s25 s26 s27) ⟨[],u,h,n⟩ k =
  L.call 125 [(.func (.func 126) ⟨[]⟩ ⟨[ptr b2 0,ptr b8 0]⟩)] false none h n fun o _ h' n'=>
   xcode P (ansL o h' n') (rfB P 69 5) ⟨69,some l,false⟩ (gf28 s0 s1 (ptr b2 0) s3 (ptr b4 0) (ptr b5 0) (ptr b6 0) (.int .i64 no) (ptr b8 0) s9 s10 s11 s12 s13 s14 s15 s16 s17 s18 s19 s20 s21 s22 s23 s24 s25 s26 s27) ⟨[],u,h,n⟩ k:=by kernel_rfl
theorem body_ans(k:KX)(u:Option yF)(e:Int)(h':zH)(n':Nat) :
 xcode P (ansL (.ret (.int .i64 e)) h' n') (rfB P 69 5) ⟨69,some l,false⟩ (gf28 s0 s1 (ptr b2 0) s3 (ptr b4 0) (ptr b5 0) (ptr b6 0) (.int .i64 no) (ptr b8 0) s9 s10 s11 s12 s13 s14 s15 s16 s17 s18 s19 s20 s21 s22 s23 s24 s25 s26 s27) ⟨[],u,h,n⟩ k =
  Bool.rec (storeAt h' b6 0 [.int .i64 no] fun h3=>k .normal (gf28 s0 s1 (ptr b2 0) s3 (ptr b4 0) (ptr b5 0) (ptr b6 0) (.int .i64 no) (ptr b8 0) (.int .i64 e) s10 s11 s12 s13 (.func (.func 126) ⟨[]⟩ ⟨[ptr b2 0,ptr b8 0]⟩) (.int .i64 e) (.int .i64 e) (.bool (Bool.rec true false (xN e 0))) s18 s19 (.int .i64 no) s21 s22 s23 s24 s25 s26 s27) ⟨[],u,h3,n'⟩) (storeAt h' b4 0 [.int .i64 no] fun h3=>storeAt h3 b5 0 [.int .i64 e] fun h4=>k .ret (gf28 s0 s1 (ptr b2 0) s3 (ptr b4 0) (ptr b5 0) (ptr b6 0) (.int .i64 no) (ptr b8 0) (.int .i64 e) s10 s11 s12 s13 (.func (.func 126) ⟨[]⟩ ⟨[ptr b2 0,ptr b8 0]⟩) (.int .i64 e) (.int .i64 e) (.bool (Bool.rec true false (xN e 0))) (.int .i64 no) (.int .i64 e) s20 s21 s22 s23 s24 s25 s26 s27) ⟨[],u,h4,n'⟩) (Bool.rec true false (xN e 0)):=by kernel_rfl
end
theorem SAt.wr{lo n n' pb rb:Nat}{h h':zH}{st:St}{vv pv bv:Value}{svs:List Value}{hv:Value}{S:List Nat}(s:SAt lo n h pb rb st vv pv bv svs hv)(t:TouchE S h n h' n')(hS:∀x∈S,(pb<x∧x≤pb+7)∨n≤x):SAt lo n' h' pb rb st vv pv bv svs hv:=by
 obtain⟨l1,l2,l3,l4,l5,l6⟩:=s.r.low;have hM:∀x∈S,x∈MM pb rb bv svs∨n≤x:=fun x hx=>(hS x hx).imp (fun h=>mem_MM.2 (.inl ⟨by omega,h.2⟩)) id;have hM2:∀x∈MM pb rb bv svs,x∈MM pb rb bv svs∨n≤x:=fun x hx=>.inl hx;refine⟨s.r.step t (fun x hx=>(hS x hx).elim (fun h=>.inl ⟨by omega,h.2⟩) (fun h=>.inr (.inr h))) rfl (s.r.cel.touch t l5 fun hx=>?_) (s.r.vr.step t hM hM2) (s.r.pr.step t hM hM2),s.p.step t (by omega) (fun hx=>?_) hM hM2,s.o,s.s⟩
 · rcases hS rb hx with h|h <;> omega
 · rcases hS pb hx with h|h <;> omega
theorem SAt.hole{lo n n' x m z pb rb:Nat}{h h':zH}{st:St}{vv pv bv:Value}{svs:List Value}{hv:Value}(s:SAt lo n h pb rb st vv pv bv svs hv)(t:TouchE [x] h n h' n')(hx:tH (yG h x)=some (m,z+1,0)):SAt lo n' h' pb rb st vv pv bv svs hv:=by
 obtain⟨l1,l2,l3,l4,l5,l6⟩:=s.r.low;refine⟨s.r.hole t hx,⟨s.p.cel.touch t (by omega) fun hr=>?_,s.p.row.hole t hx⟩,s.o,s.s⟩;simp at hr;subst hr;rw [s.p.cel.1]at hx;injection hx with hx;injection hx with _ hx;injection hx with hx _;cases hx
noncomputable def LL(blk:Nat):Loop:={ state:=.ready,pending:=none,fn:=69,tmps:= #[],params:=rfP P 69 5,assign:=rfA P 69 5,body:=rfB P 69 5,defers:=blk }
noncomputable def LB(blk:Nat):Loop:={ state:=.busy,pending:=none,fn:=69,tmps:= #[],params:=rfP P 69 5,assign:=rfA P 69 5,body:=rfB P 69 5,defers:=blk }
noncomputable def LD(blk:Nat):Loop:={ state:=.done,pending:=some .ret,fn:=69,tmps:= #[],params:=rfP P 69 5,assign:=rfA P 69 5,body:=rfB P 69 5,defers:=blk }
noncomputable def T0(pb:Nat)(s0 s1 s10 s11:Value):Fr:=gf28 s0 s1 (ptr (pb+1) 0) undef (ptr (pb+2) 0) (ptr (pb+3) 0) (ptr (pb+4) 0) undef undef undef s10 s11 undef undef undef undef undef undef undef undef undef undef undef undef undef undef undef undef
structure BX (h:zH) (pb:Nat) (x4 x5 x6:Value):Prop where
 c2:Cel h (pb+1) 0 [ptr pb 0]
 c4:Cel h (pb+2) (3+1) [x4]
 c5:Cel h (pb+3) (25+1) [x5]
 c6:Cel h (pb+4) (3+1) [x6]
theorem BX.step{h h':zH}{pb:Nat}{x4 x5 x6:Value}(b:BX h pb x4 x5 x6)(k:∀y,pb+1≤y→y≤pb+4→yG h' y=yG h y):BX h' pb x4 x5 x6:=
 ⟨b.c2.keep (k _ (by omega) (by omega)),b.c4.keep (k _ (by omega) (by omega)),b.c5.keep (k _ (by omega) (by omega)),b.c6.keep (k _ (by omega) (by omega))⟩
def RdQ(lo pb rb:Nat)(S M:List Nat)(blk:Nat)(t0:Fr)(h:zH)(n:Nat)(no:Int)(r:Except Int St)(v:Value)(h':zH)(n':Nat):Prop:=
 match r with
 | .ok st'=>v = .bool true∧TouchE ((pb+7)::(pb+4)::S) h n h' n'∧yG h' (pb+7) = .loop (LL blk) t0∧(∃vv pv bv svs hv,SAt lo n' h' pb rb st' vv pv bv svs hv∧∀x∈MM pb rb bv svs,x∈M∨n≤x)∧∃x4 x5,BX h' pb x4 x5 (I64 no)
 | .error e=>v = .bool false∧TouchE ((pb+7)::(pb+2)::(pb+3)::S) h n h' n'∧yG h' (pb+7) = .loop (LD blk) t0∧Cel h' (pb+2) (3+1) [I64 no]∧Cel h' (pb+3) (25+1) [I64 e]
theorem TS_far{lo n pb rb:Nat}{h:zH}{f:Fct}{vv pv bv:Value}{svs:List Value}(r:RAt lo n h pb rb f vv pv bv svs):∀y,pb<y→y≤pb+7→y∉TS pb rb bv svs:=by
 obtain⟨l1,l2,l3,l4,l5,l6⟩:=r.low;intro y h1 h2 hx;unfold TS at hx;rcases List.mem_cons.1 hx with hx|hx
 · omega
 · rcases List.mem_cons.1 hx with hx|hx
   · omega
   · rcases List.mem_append.1 hx with hx|hx
     · have:=(r.bne y (by simpa using hx)).1;omega
     · have:=(r.lne y (mem_lastB.1 hx)).1;omega
theorem round_comes{m:Int}{lo n pb rb:Nat}{h:zH}{st:St}{vv pv bv:Value}{svs:List Value}{hv:Value}{blk:Nat}{s0 s1 s10 s11 x4 x5 x6:Value}(shp:yJ P 112 = .scal)
(s:SAt lo n h pb rb st vv pv bv svs hv)(hE:Env m h)(hll:yG h (pb+7) = .loop (LL blk) (T0 pb s0 s1 s10 s11))(B:BX h pb x4 x5 x6)(no:Int)(x:Tx)(hx:x.length<90000)(hof:OfOK st x)(he0:∀e,uY st x = .error e→e≠0)
(k:Out→zH→Nat→Bool)(hk:∀v h' n',RdQ lo pb rb (TS pb rb bv svs) (MM pb rb bv svs) blk (T0 pb s0 s1 s10 s11) h n no (uY st x) v h' n'→k (.ret v) h' n'=true) :
 (loS P 8).round (pb+7) [.int .i64 no,str x] h n k=true:=by
 obtain⟨l1,l2,l3,l4,l5,l6⟩:=s.r.low;have hfar:=TS_far s.r
 have hTSn:∀y∈TS pb rb bv svs,y<n:=fun y hy=>(s.r.lt y (by
  unfold TS at hy;rcases List.mem_cons.1 hy with hy|hy
  · exact mem_MM.2 (.inl (by omega))
  · exact(gS_ok s.r).2 _ hy)).2
 refine loS_round.2 (xround_ok zK (sound_lo1 zK mixed) ?_);unfold xround;rw [hll];show pZ (T0 pb s0 s1 s10 s11) (rfP P 69 5).toList [.int .i64 no,str x] (fun t'=>xcode P (loS P 8) (rfA P 69 5) ⟨69,some (pb+7),false⟩ t' ⟨[],none,h,n⟩ _)=true;unfold T0;rw [assign_eq,xC];have c1:Cel (h.set .dead (uG [str []] 9) n) n (9+1) [str []]:=cel_mkC;have x1:Ext h n (h.set .dead (uG [str []] 9) n) (n+1):=set_ext;generalize h.set .dead (uG [str []] 9) n=h1 at c1 x1
 refine sG c1 (by simp) rfl fun h2 c2 k2=>?_;have t02:TouchE [] h n h2 (n+1):=(x1.touch []).step (yA (n:=n+1) k2 (S:=[n]) (by simp)) (fun y hy=>by simp at hy;subst hy;exact .inr (Nat.le_refl _));have hl2:yG h2 (pb+7) = .loop (LL blk) (T0 pb s0 s1 s10 s11):=by rw[t02.2 (pb+7) l4 (by simp)];exact hll
 dsimp only;rw [hl2];dsimp only[LL];rw [Tr.setK_eq];have hl3:yG (h2.set .dead (.loop (LB blk) (T0 pb s0 s1 s10 s11)) (pb+7)) (pb+7) = .loop (LB blk) (T0 pb s0 s1 s10 s11):=by rw[zP,if_pos rfl]
 have k3:∀y,y≠pb+7→yG (h2.set .dead (.loop (LB blk) (T0 pb s0 s1 s10 s11)) (pb+7)) y=yG h2 y:=fun y hy=>by rw[zP,if_neg (fun e=>hy e.symm)]
 dsimp only[LB]at hl3 k3;generalize h2.set .dead _ (pb+7)=h3 at hl3 k3 ⊢
 have hcode:(lo1 P 8).code=xcode P (loS P 8):=rfl;rw [hcode];have t03:TouchE [pb+7] h n h3 (n+1):=(t02.mono (by simp)).trans (yA (n:=n+1) k3 (by simp));have c3:Cel h3 n (9+1) [str x]:=Cel.keep c2 (k3 n (by omega));rw [body_eq];have hE3:Env m h3:=hE.touch t03 (by omega) (fun y hy=>by simp at hy;omega);have s3:=s.wr t03 (fun y hy=>by simp at hy;exact .inl ⟨by omega,by omega⟩);have hB3:BX h3 pb x4 x5 x6:=B.step fun y h1 h2=>t03.2 y (by omega) (by simp;omega)
 refine(caught_comes (g:=126) (first:=[]) (cap:=[ptr (pb+1) 0,ptr n 0])
  (Q:=fun o h5 n5=>TouchE (TS pb rb bv svs) h3 (n+1) h5 n5∧match uY st x with
   | .ok st'=>o = .ret (.tuple ⟨[]⟩)∧∃vv pv bv' svs' hv,SAt lo n5 h5 pb rb st' vv pv bv' svs' hv∧∀y∈MM pb rb bv' svs',y∈MM pb rb bv svs∨n≤y
   | .error e=>o = .panic (sB e)) ?_ ?_) none _ fun o h7 n7 q=>?_
 · intro h4 c4 x4';have s4:=s3.wr (x4'.touch []) (fun _ h=>by cases h);have hE4:=hE3.touch (x4'.touch []) (by omega) (fun _ h=>by cases h);refine(line1_comes s4 hE4 x hx hof (hB3.c2.touch (x4'.touch []) (by omega) (by simp)) (c3.touch (x4'.touch []) (by omega) (by simp)) shp).mono fun o h5 n5 q=>?_;obtain⟨q1,q2⟩:=q
   refine⟨⟨(x4'.touch _).trans q1,?_⟩,q1.1,c4.touch q1 (by omega) (fun hy=>by
    have:=hTSn (n+1) hy;omega)⟩
   cases hm:uY st x with
   | error e=>rw [hm]at q2;exact q2
   | ok st'=>
    rw[hm]at q2;obtain⟨q2,vv',pv',bv',svs',hv',q3,q4⟩:=q2;exact⟨q2,vv',pv',bv',svs',hv',q3,fun y hy=>(q4 y hy).imp id (fun h=>by omega)⟩
 · intro c h5 n5 q;obtain⟨q1,q2⟩:=q
   cases hm:uY st x with
   | error e=>rw [hm]at q2;injection q2 with q2;exact⟨e,q2⟩
   | ok st'=>rw [hm]at q2;obtain⟨q2,_⟩:=q2;cases q2
 · obtain⟨h5,n5,hn5,cn5,t57,q⟩:=q
   have hgo:∀(hq:TouchE (TS pb rb bv svs) h3 (n+1) h5 n5),(∀y,pb+1≤y→y≤pb+7→yG h7 y=yG h3 y)∧TouchE ((pb+7)::TS pb rb bv svs) h n h7 n7:=fun hq=>by
    refine⟨fun y h1 h2=>?_,?_⟩
    · have e1:=hq.2 y (by omega) (hfar y (by omega) h2);rw [t57.2 y (by have:=hq.1;omega) (by simp;omega),e1]
    · have t1:TouchE ((pb+7)::TS pb rb bv svs) h n h5 n5:=(t03.mono (fun y hy=>by simp at hy;subst hy;exact List.mem_cons_self)).trans (hq.mono (fun y hy=>List.mem_cons_of_mem _ hy));exact t1.step t57 (fun y hy=>by simp at hy;subst hy;exact .inr (by omega))
   rcases q with⟨v,⟨q1,q2⟩,rfl⟩|⟨e,⟨q1,q2⟩,rfl⟩
   · obtain⟨g1,g2⟩:=hgo q1
     cases hm:uY st x with
     | error e=>rw [hm]at q2;cases q2
     | ok st' =>
      rw[hm]at q2 hk;obtain⟨q2,vv',pv',bv',svs',hv',q3,q4⟩:=q2;rw [body_ans];have e0:(Bool.rec true false (xN 0 0):Bool)=false:=rfl;rw [e0];have hB7:BX h7 pb x4 x5 x6:=hB3.step fun y h1 h2=>g1 y h1 (by omega);refine sG hB7.c6 (by simp) rfl fun h8 c8 k8=>?_
      have hl8:yG h8 (pb+7) = .loop (LB blk) (T0 pb s0 s1 s10 s11):=by
       rw[k8 (pb+7) (by omega),g1 (pb+7) (by omega) (by omega),hl3];rfl
      dsimp only;unfold endRound;rw [hl8];dsimp only[LB];rw [Tr.setK_eq];have hl9:yG (h8.set .dead (.loop (LL blk) (T0 pb s0 s1 s10 s11)) (pb+7)) (pb+7) = .loop (LL blk) (T0 pb s0 s1 s10 s11):=by rw[zP,if_pos rfl]
      have k9:∀y,y≠pb+7→yG (h8.set .dead (.loop (LL blk) (T0 pb s0 s1 s10 s11)) (pb+7)) y=yG h8 y:=fun y hy=>by rw[zP,if_neg (fun e=>hy e.symm)]
      dsimp only[LL]at hl9 k9;generalize h8.set .dead _ (pb+7)=h9 at hl9 k9 ⊢
      have t8:TouchE [pb+4] h7 n7 h8 n7:=yA k8 (by simp);have t9:TouchE [pb+7] h8 n7 h9 n7:=yA k9 (by simp);refine hk _ _ _ ⟨rfl,?_,hl9,⟨vv',pv',bv',svs',hv',?_,fun y hy=>q4 y hy⟩,x4,x5,?_⟩
      · refine((g2.mono (fun y hy=>?_)).trans (t8.mono (fun y hy=>by simp at hy;subst hy;simp))).trans (t9.mono (fun y hy=>by simp at hy;subst hy;simp));rcases List.mem_cons.1 hy with rfl|hy
        · simp
        · exact List.mem_cons_of_mem _ (List.mem_cons_of_mem _ hy)
      · exact((q3.hole t57 (by rw[cn5.1])).wr t8 (fun y hy=>by simp at hy;exact .inl ⟨by omega,by omega⟩)).wr t9 (fun y hy=>by simp at hy;exact .inl ⟨by omega,by omega⟩)
      · have c6:Cel h8 (pb+4) (3+1) [I64 no]:=c8;exact⟨(hB7.c2.keep (k8 _ (by omega))).keep (k9 _ (by omega)),(hB7.c4.keep (k8 _ (by omega))).keep (k9 _ (by omega)),(hB7.c5.keep (k8 _ (by omega))).keep (k9 _ (by omega)),c6.keep (k9 _ (by omega))⟩
   · obtain⟨g1,g2⟩:=hgo q1
     cases hm:uY st x with
     | ok st'=>rw [hm]at q2;obtain⟨q2,_⟩:=q2;cases q2
     | error e' =>
      rw[hm]at q2 hk;injection q2 with q2;injection q2 with q2 _;injection q2 with q2 _ _;injection q2 with _ q2;injection q2 with q2;injection q2 with q2;injection q2 with q2 _;injection q2 with _ q2
      subst q2;rw [body_ans]
      have e0:(Bool.rec true false (xN e 0):Bool)=true:=by
       rw[xZ,decide_eq_false (he0 e hm)]
      rw[e0];have hB7:BX h7 pb x4 x5 x6:=hB3.step fun y h1 h2=>g1 y h1 (by omega);refine sG hB7.c4 (by simp) rfl fun h8 c8 k8=>?_;refine sG (hB7.c5.keep (k8 _ (by omega))) (by simp) rfl fun h10 c10 k10=>?_
      have hl8:yG h10 (pb+7) = .loop (LB blk) (T0 pb s0 s1 s10 s11):=by
       rw[k10 (pb+7) (by omega),k8 (pb+7) (by omega),g1 (pb+7) (by omega) (by omega),hl3];rfl
      dsimp only;unfold endRound;rw [hl8];dsimp only[LB];rw [Tr.setK_eq];have hl9:yG (h10.set .dead (.loop (LD blk) (T0 pb s0 s1 s10 s11)) (pb+7)) (pb+7) = .loop (LD blk) (T0 pb s0 s1 s10 s11):=by rw[zP,if_pos rfl]
      have k9:∀y,y≠pb+7→yG (h10.set .dead (.loop (LD blk) (T0 pb s0 s1 s10 s11)) (pb+7)) y=yG h10 y:=fun y hy=>by rw[zP,if_neg (fun e=>hy e.symm)]
      dsimp only[LD]at hl9 k9;generalize h10.set .dead _ (pb+7)=h9 at hl9 k9 ⊢
      have t8:TouchE [pb+2,pb+3] h7 n7 h10 n7:=(yA (n:=n7) k8 (S:=[pb+2,pb+3]) (by simp)).trans (yA k10 (by simp));have t9:TouchE [pb+7] h10 n7 h9 n7:=yA k9 (by simp);have c4:Cel h8 (pb+2) (3+1) [I64 no]:=c8;have c5:Cel h10 (pb+3) (25+1) [I64 e]:=c10;refine hk _ _ _ ⟨rfl,?_,hl9,(c4.keep (k10 _ (by omega))).keep (k9 _ (by omega)),c5.keep (k9 _ (by omega))⟩;refine((g2.mono (fun y hy=>?_)).trans (t8.mono (fun y hy=>by simp at hy;rcases hy with rfl|rfl <;> simp))).trans (t9.mono (fun y hy=>by simp at hy;subst hy;simp));rcases List.mem_cons.1 hy with rfl|hy
      · simp
      · exact List.mem_cons_of_mem _ (List.mem_cons_of_mem _ (List.mem_cons_of_mem _ hy))
theorem zO{d:List Deferred}{u:Option yF}{h:zH}{n:Nat}{f:List Deferred→Option yF→zH→Nat→Bool}(hf:f d u h n=true):onW ⟨d,u,h,n⟩ f=true:=hf
def Low(lo:Nat)(h:zH)(n:Nat)(h':zH)(n':Nat):Prop:=n≤n'∧∀b,b<lo→b<n→yG h' b=yG h b
theorem Low.touch{lo:Nat}{h h1 h2:zH}{n n1 n2:Nat}{S:List Nat}(a:Low lo h n h1 n1)(t:TouchE S h1 n1 h2 n2)(hS:∀x∈S,lo≤x):Low lo h n h2 n2:=
 ⟨Nat.le_trans a.1 t.1,fun b hb hbn=>(t.2 b (Nat.lt_of_lt_of_le hbn a.1) (fun hx=>by have:=hS b hx;omega)).trans (a.2 b hb hbn)⟩
structure Mid (lo:Nat) (h0:zH) (n0:Nat) (pb:Nat) (t0:Fr) (last:Int) (n:Nat) (h:zH):Prop where
 low:Low lo h0 n0 h n
 ll:yG h (pb+7) = .loop (LL (pb+6)) t0
 df:yG h (pb+6) = .deferred true
 bx:∃x4 x5,BX h pb x4 x5 (I64 last)
structure Fell (lo:Nat) (h0:zH) (n0:Nat) (pb:Nat) (t0:Fr) (no e:Int) (n:Nat) (h:zH):Prop where
 low:Low lo h0 n0 h n
 ll:yG h (pb+7) = .loop (LD (pb+6)) t0
 df:yG h (pb+6) = .deferred true
 c4:Cel h (pb+2) (3+1) [I64 no]
 c5:Cel h (pb+3) (25+1) [I64 e]
theorem lines_loop{m:Int}{lo pb rb n0:Nat}{h0:zH}{s0 s1 s10 s11:Value}(shp:yJ P 112 = .scal)(u:Option yF)(ka:KX) :
 ∀(k no:Nat) (s:Tx) (st:St) (vv pv bv:Value) (svs:List Value) (hv:Value) (h:zH) (n:Nat) (t:Fr),s.length<k→s.length<90000→no+s.length<1000000→1≤no→RunOK k s st OfOK→
 SAt lo n h pb rb st vv pv bv svs hv→Env m h→Mid lo h0 n0 pb (T0 pb s0 s1 s10 s11) ((no:Int) - 1) n h→Cel h (pb+5) 0 [str s]→
 zA t 0 = .func (.yield (pb+7)) #[] #[]→zA t 1=ptr (pb+5) 0→zA t 3=I64 (no:Nat)→
 (∀st' no' t' h' n',runS k no s st = .ok (st',no')→(∃vv pv bv svs hv,SAt lo n' h' pb rb st' vv pv bv svs hv)→Env m h'→Mid lo h0 n0 pb (T0 pb s0 s1 s10 s11) ((no':Int) - 1) n' h'→no'<1000000→ka (.exit 0) t' ⟨[],u,h',n'⟩=true)→
 (∀no' e t' h' n',runS k no s st = .error (no',e)→Fell lo h0 n0 pb (T0 pb s0 s1 s10 s11) (no':Nat) e n' h'→ka .ret t' ⟨[],u,h',n'⟩=true)→
 lpS P 8 1000001 ⟨159,none,false⟩ t ⟨[],u,h,n⟩ ka=true:=by
 intro k
 induction k with
 | zero=>intro no s st vv pv bv svs hv h n t hs;omega
 | succ k ih =>
  intro no s st vv pv bv svs hv h n t hs hsl hno hno1 hrun sa hE hM hc t0 t1 t3 hok herr;obtain⟨l1,l2,l3,l4,l5,l6⟩:=sa.r.low;refine yK zK mixed (hint:=hint159) l159 lp159_1000001 ?_;rw [B159_1000001_eq];unfold B159_1000001;rw [t0,t1,t3];have e1:zE P 9 h (ptr (pb+5) 0)=some (str s):=zG hc sh9 rfl;have ec:((ByteArray.mk #[]).data.toList:List UInt8)=[]:=rfl;simp only[↓zF,↓zD];refine zO ?_;simp only[↓e1,↓zC];rw [cmpS_ne,ec];show br (!(s == [])) _ _=true
  cases hse:(s == []) with
  | true=>
   have hs0:s=[]:=by simpa using hse
   subst hs0;simp only[Bool.not_true,↓wT];exact hok st no _ h n rfl ⟨vv,pv,bv,svs,hv,sa⟩ hE hM (by omega)
  | false=>
   have hne:s≠[]:=fun e=>by rw[e]at hse;simp at hse
   obtain⟨hof,hrun'⟩:=hrun.resolve_left hne;have hcl:=cutB_len 10 s hne;simp only[Bool.not_false,↓wP,↓xR];refine yH (cut_pure n hE.tabs s 10 (by omega)) ?_;have x0:∀a b c,xO 0 (.tuple #[str a,str b,.bool c])=some (str a):=fun _ _ _=>rfl;have x1:∀a b c,xO 1 (.tuple #[str a,str b,.bool c])=some (str b):=fun _ _ _=>rfl;have x2:∀a b c,xO 2 (.tuple #[str a,str b,.bool c])=some (.bool c):=fun _ _ _=>rfl;simp only[↓x0,↓x1,↓x2,↓zC,↓zI,↓xD];obtain⟨x4,x5,hB⟩:=hM.bx;refine wO (fun t w=>zA t 0 = .func (.yield (pb+7)) #[] #[]∧zA t 1=ptr (pb+5) 0∧zA t 3=I64 (no:Nat)∧zA t 4=str (rH s)∧zA t 5=str (cutB 10 s).2.1∧w=⟨[],u,h,n⟩) (fun t w q=>?_) (fun hb kk hkk=>?_) (fun hb kk hkk=>?_)
   · obtain⟨q0,q1,q3,q4,q5,rfl⟩:=q;rw [q0,q1,q3,q4,q5];simp only[↓zF,↓zD];refine zO ?_;show(loS P 8).round (pb+7) [.int .i64 (no:Nat),str (rH s)] h n _=true;refine round_comes shp sa hE hM.ll hB (no:Nat) (rH s) (by have:=lineOf_len s;omega) hof (fun e he=>by have:=lineS_bad he;unfold Bad at this;omega) _ fun v h2 n2 q=>?_
     have hTS:∀y∈TS pb rb bv svs,lo≤y:=fun y hy=>(sa.r.lt y (by
      unfold TS at hy;rcases List.mem_cons.1 hy with hy|hy
      · exact mem_MM.2 (.inl (by omega))
      · exact(gS_ok sa.r).2 _ hy)).1
     have hfar:=TS_far sa.r;unfold RdQ at q
     cases hm:uY st (rH s) with
     | error e=>
      rw[hm]at q;obtain⟨rfl,q2,q3,q4,q5⟩:=q;show rtB (.bool false) _=true;simp only[↓zI,↓xD,↓zC,Bool.not_false,↓wP];refine herr no e _ h2 n2 (runS_er hse hm) ⟨hM.low.touch q2 (fun y hy=>?_),q3,?_,q4,q5⟩
      · simp only[List.mem_cons]at hy;rcases hy with rfl|rfl|rfl|hy
        · omega
        · omega
        · omega
        · exact hTS y hy
      · rw[q2.2 (pb+6) (by omega) (by
         intro hy;simp only[List.mem_cons]at hy;rcases hy with hy|hy|hy|hy
         · omega
         · omega
         · omega
         · exact hfar (pb+6) (by omega) (by omega) hy)]
        exact hM.df
     | ok st' =>
      rw[hm]at q;obtain⟨rfl,q2,q3,⟨vv',pv',bv',svs',hv',q4,q4'⟩,x4',x5',q5⟩:=q;show rtB (.bool true) _=true;simp only[↓zI,↓xD,↓zC,Bool.not_true,↓wT]
      have hn5:∀y,pb+5≤y→y≤pb+6→y∉(pb+7)::(pb+4)::TS pb rb bv svs:=fun y h1 h2 hy=>by
       simp only[List.mem_cons]at hy;rcases hy with hy|hy|hy
       · omega
       · omega
       · exact hfar y (by omega) (by omega) hy
      have hc2:=hc.touch q2 (by omega) (hn5 (pb+5) (by omega) (by omega));refine wA hc2 sh9 (by simp) rfl fun h3 c3 k3=>?_;have t3':TouchE [pb+5] h2 n2 h3 n2:=yA k3 (by simp)
      have hlow2:Low lo h0 n0 h2 n2:=hM.low.touch q2 (fun y hy=>by
       simp only[List.mem_cons]at hy;rcases hy with rfl|rfl|hy
       · omega
       · omega
       · exact hTS y hy)
      have hE2:Env m h2:=hE.touch q2 (by omega) (fun y hy=>by
       simp only[List.mem_cons]at hy;rcases hy with rfl|rfl|hy
       · omega
       · omega
       · have:=hTS y hy;omega)
      simp only[↓fg0,↓fg1,↓fg3,q0,q1,q3,↓zF,↓zD];refine zO ?_;refine vT (by omega) ?_
      refine ih (no+1) (cutB 10 s).2.1 st' vv' pv' bv' svs' hv' h3 n2 _ (by omega) (by omega) (by omega) (by omega) (hrun' st' hm) (q4.wr t3' (fun y hy=>by simp at hy;exact .inl ⟨by omega,by omega⟩)) (hE2.touch t3' (by have:=q2.1;omega) (fun y hy=>by simp at hy;omega))
       ⟨hlow2.touch t3' (fun y hy=>by simp at hy;omega),by rw[k3 _ (by omega)];assumption,?_,x4',x5',?_⟩ c3 (by first|rfl|exact q0|exact q1|exact q3) (by first|rfl|exact q0|exact q1|exact q3) (by first|rfl|exact q0|exact q1|exact q3) ?_ ?_
      · rw[k3 _ (by omega),q2.2 (pb+6) (by omega) (hn5 (pb+6) (by omega) (by omega))];exact hM.df
      · have e9:(((no+1:Nat):Int) - 1)=(no:Nat):=by omega
        rw[e9];exact q5.step fun y h1 h2=>k3 y (by omega)
      · intro st'' no'' t' h' n' hr;exact hok st'' no'' t' h' n' (by rw[runS_ok hse hm];exact hr)
      · intro no'' e t' h' n' hr;exact herr no'' e t' h' n' (by rw[runS_ok hse hm];exact hr)
   · have hb':(cutB 10 s).2.2=false:=by simpa using hb
     exact hkk _ _ ⟨rfl,rfl,rfl,by show str []=str (rH s);unfold rH;rw [hb'];rfl,rfl,rfl⟩
   · have hb':(cutB 10 s).2.2=true:=by simpa using hb
     exact hkk _ _ ⟨rfl,rfl,rfl,by show str _=str (rH s);unfold rH;rw [hb'];rfl,rfl,rfl⟩
theorem lines_rets(s:Tx)(h:zH)(n:Nat):Rets P 8 124 [str s] h n fun v h' n'=>v = .func (.func 159) ⟨[]⟩ ⟨[ptr n 0]⟩∧n'=n+1∧Cel h' n 0 [str s]∧Ext h n h' (n+1):=by
 refine zZ zK mixed (hint:=hq0) l124 fun u k hk=>?_;rw [F124_eq];unfold F124;refine tE (by simp[cellsOf,Value.oneCell']) fun h1 c1 x1=>?_;simp only[↓xK];exact zV r124 rfl (hk _ _ _ ⟨rfl,rfl,c1,x1⟩)
theorem code_ret{cx:Cx}{t:Fr}{w:W}{k:KX}(h:k .ret t w=true):(loS P 8).code .ret cx t w k=true:=by
 have h1:(lo1 P 8).code .ret cx t w k=true:=h;exact loS_code.2 ((sound_lo1 zK mixed).code _ _ _ _ _ h1)
theorem range_at{f:FuncId}{cap:List Value}{params:Array Tmp}{assign body:Code}{fn:FuncId}{t:Fr}{u:Option yF}{h:zH}{n:Nat}{K:KX}{Q:Out→zH→Nat→Prop}
(hc:∀h1,yG h1 n = .deferred true→yG h1 (n+1) = .loop { state:=.ready,pending:=none,fn:=fn,tmps:= #[],params:=params,assign:=assign,body:=body,defers:=n } t→TouchE [] h n h1 (n+2)→
  ComesE P 8 f (.func (.yield (n+1)) #[] #[]::cap) h1 (n+2) Q)
(hq:∀o h2 n2,Q o h2 n2→∃v l t1,o = .ret v∧yG h2 (n+1) = .loop l t1∧((l.state = .ready∧l.pending=none∧∀h3,(∀y,y≠n+1→yG h3 y=yG h2 y)→K .normal t ⟨[{ target:=.collected n,args:= #[] }],u,h3,n2⟩=true)∨(l.state = .done∧l.pending=some .ret∧∀h3,(∀y,y≠n+1→yG h3 y=yG h2 y)→K .ret t ⟨[{ target:=.collected n,args:= #[] }],u,h3,n2⟩=true))) :
 yRange (loS P 8) (.func (.func f) ⟨[]⟩ ⟨cap⟩) params assign body ⟨fn,none,false⟩ t [] u h n K=true:=by
 unfold yRange;dsimp only;rw [xC];unfold xrange;rw [xC]
 have d1:yG ((h.set .dead (.deferred true) n).set .dead (.loop { state:=.ready,pending:=none,fn:=fn,tmps:= #[],params:=params,assign:=assign,body:=body,defers:=n } t) (n+1)) n = .deferred true:=by
  rw[zP,if_neg (by omega),zP,if_pos rfl]
 have d2:yG ((h.set .dead (.deferred true) n).set .dead (.loop { state:=.ready,pending:=none,fn:=fn,tmps:= #[],params:=params,assign:=assign,body:=body,defers:=n } t) (n+1)) (n+1) = .loop { state:=.ready,pending:=none,fn:=fn,tmps:= #[],params:=params,assign:=assign,body:=body,defers:=n } t:=by
  rw[zP,if_pos rfl]
 have d3:TouchE [] h n ((h.set .dead (.deferred true) n).set .dead (.loop { state:=.ready,pending:=none,fn:=fn,tmps:= #[],params:=params,assign:=assign,body:=body,defers:=n } t) (n+1)) (n+2):=
  ⟨by omega,fun b hb _=>by rw[zP,if_neg (by omega),zP,if_neg (by omega)]⟩
 dsimp only at d1 d2 d3 ⊢;generalize (h.set .dead (.deferred true) n).set .dead _ (n+1)=h1 at d1 d2 d3 ⊢
 have hcc:=hc h1 d1 d2 d3;refine hcc none _ fun o h2 n2 q=>?_;obtain⟨v,l,t1,rfl,hl,hk⟩:=hq o h2 n2 q;dsimp only;rw [hl];dsimp only;have k3:∀y,y≠n+1→yG (h2.set .dead (.loop { l with state:=.exhausted } t1) (n+1)) y=yG h2 y:=fun y hy=>by rw[zP,if_neg (fun e=>hy e.symm)]
 rcases hk with⟨e1,e2,hk⟩|⟨e1,e2,hk⟩
 · rw[e1,e2];dsimp only;rw [Tr.setK_eq];refine hk _ ?_;rw [e2]at k3;exact k3
 · rw[e1,e2];dsimp only;rw [Tr.setK_eq];refine code_ret (hk _ ?_);rw [e2]at k3;exact k3
theorem leave_coll2{f:FuncId}{i j:Nat}{ti tj:TypeId}(hr:xW P f=some [.cell i ti,.cell j tj]){t:Fr}{u:Option yF}{h:zH}{n r:Nat}{k:KO}{v w:Value}(hd:yG h r = .deferred true)
(hv:∀h',(∀y,y≠r→yG h' y=yG h y)→zE P ti h' (zA t i)=some v∧zE P tj h' (zA t j)=some w∧k (.ret (.tuple ⟨[v,w]⟩)) u h' n=true) :
 zJ P (loS P 8) f k .ret t ⟨[{ target:=.collected r,args:= #[] }],u,h,n⟩=true:=by
 unfold xW at hr
 cases hb:rU P f with
 | none=>rw [hb]at hr;cases hr
 | some fb =>
  rw[hb]at hr;injection hr with hr
  unfold zJ;rw [hb];show sC P (loS P 8) fb.1 none t ⟨[{ target:=.collected r,args:= #[] }],u,h,n⟩ k=true;unfold sC;dsimp only;rw [hd];dsimp only;rw [Tr.setK_eq];refine leave_intro zK ?_;have k3:∀y,y≠r→yG (h.set .dead (.deferred false) r) y=yG h y:=fun y hy=>by rw[zP,if_neg (fun e=>hy e.symm)]
  obtain⟨e1,e2,e3⟩:=hv _ k3
  have hl:wI P t (h.set .dead (.deferred false) r) fb.1.results.toList=some [v,w]:=by
   have q1:ldV P (h.set .dead (.deferred false) r) ti (zA t i)=some v:=e1;have q2:ldV P (h.set .dead (.deferred false) r) tj (zA t j)=some w:=e2;dsimp only at hr;rw [hr];unfold wI;rw [q1];unfold wI;rw [q2];rfl
  unfold sC;dsimp only;rw [hl];dsimp only;rw [wY];exact e3
def LnQ(m:Int)(lo:Nat)(h0:zH)(n0 pb rb:Nat)(t0:Fr)(r:Except (Nat×Int) (St×Nat))(h2:zH)(n2:Nat):Prop:=
 (∃st no,r = .ok (st,no)∧(∃vv pv bv svs hv,SAt lo n2 h2 pb rb st vv pv bv svs hv)∧Env m h2∧Mid lo h0 n0 pb t0 ((no:Int) - 1) n2 h2∧no<1000000)∨
 (∃no e,r = .error (no,e)∧Fell lo h0 n0 pb t0 (no:Nat) e n2 h2)
theorem lines1_comes{m:Int}{lo pb rb n n0:Nat}{h h0:zH}{s0 s1 s10 s11:Value}(shp:yJ P 112 = .scal){s:Tx}{vv pv bv:Value}{svs:List Value}{hv:Value}(hs:s.length≤65536)(hrun:RunOK (s.length+1) s St.z OfOK)
(sa:SAt lo n h pb rb St.z vv pv bv svs hv)(hE:Env m h)(hM:Mid lo h0 n0 pb (T0 pb s0 s1 s10 s11) 0 n h)(hc:Cel h (pb+5) 0 [str s]) :
 ComesE P 8 159 [.func (.yield (pb+7)) #[] #[],ptr (pb+5) 0] h n fun o h2 n2=>o = .ret (.tuple ⟨[]⟩)∧LnQ m lo h0 n0 pb rb (T0 pb s0 s1 s10 s11) (runS (s.length+1) 1 s St.z) h2 n2:=by
 refine xE zK mixed (hint:=hint159) l159 fun u k hk=>?_;rw [F159_eq];unfold F159;refine lines_loop shp u _ (s.length+1) 1 s St.z vv pv bv svs hv h n _ (by omega) (by omega) (by omega) (by omega) hrun sa hE hM hc rfl rfl rfl ?_ ?_
 · intro st' no' t' h' n' hr h1 h2 h3 h4;simp only[↓zM,↓zN];exact pB r159 (hk _ _ _ ⟨rfl,.inl ⟨st',no',hr,h1,h2,h3,h4⟩⟩)
 · intro no' e t' h' n' hr h1;simp only[↓yC,↓yD];exact pB r159 (hk _ _ _ ⟨rfl,.inr ⟨no',e,hr,h1⟩⟩)
def PRQ(lo pb rb:Nat)(r:Except (Nat×Int) (St×Nat))(o:Out)(h':zH)(n':Nat):Prop:=
 (∃st no,r = .ok (st,no)∧st.ended=true∧o = .ret (.tuple ⟨[I64 0,I64 0]⟩)∧∃vv pv bv svs hv,SAt lo n' h' pb rb st vv pv bv svs hv)∨
 (∃st no,r = .ok (st,no)∧st.ended=false∧o = .ret (.tuple ⟨[I64 (no:Nat),I64 3]⟩))∨
 (∃no e,r = .error (no,e)∧o = .ret (.tuple ⟨[I64 (no:Nat),I64 e]⟩))
theorem endA_normal(kn:KN)(ka:KX)(t:Fr)(w:W):pH kn ka .normal t w=kn t w:=rfl
theorem paper_comes{m:Int}{lo pb rb:Nat}{h:zH}(shp:yJ P 112 = .scal){s:Tx}{hv:Value}(hs:s.length≤65536)(hrun:RunOK (s.length+1) s St.z OfOK)
(hlo:8≤lo∧lo≤rb∧rb<pb)(cp:Cel h pb 0 [hv,hd 67 rb,hd 68 rb,I64 0,.bool false,.bool false])(cr:Cel h rb 0 [str [],.slice none 0 0,.slice none 0 0,str [],.slice none 0 0])
(rh:RO [] (pb+1) h hv 113 1 4 [hd 63 rb,hd 64 rb,hd 65 rb,hd 66 rb])(rhb:∀b,wQ hv=some b→b<pb∧b≠rb)(hE:Env m h) :
 ComesE P 8 69 [ptr pb 0,str s] h (pb+1) fun o h' n'=>Low lo h (pb+1) h' n'∧PRQ lo pb rb (runS (s.length+1) 1 s St.z) o h' n':=by
 obtain⟨l1,l2,l3⟩:=hlo;refine xE zK mixed (hint:=hint69) l69 fun u k hk=>?_;rw [F69_eq];unfold F69;refine tE (by simp[cellsOf,Value.oneCell']) fun h1 c1 x1=>?_;refine wZ ze3 fun h2 c2 x2=>?_;refine wZ ze25 fun h3 c3 x3=>?_;refine wZ ze3 fun h4 c4 x4=>?_;refine wA c4 sh3 (by simp[cellsOf]) rfl fun h5 c5 k5=>?_;refine uT (lines_rets s h5 (pb+1+1+1+1+1)) fun v h6 n6 ⟨e1,e2,c6,x6⟩=>?_;subst e1 e2;have g5:∀y,y≠pb+4→yG h5 y=yG h4 y:=fun y hy=>k5 y (by omega)
 have T06:TouchE [] h (pb+1) h6 (pb+6):=by
  refine⟨by omega,fun b hb _=>?_⟩;rw [x6.2 b (by omega),g5 b (by omega),x4.2 b (by omega),x3.2 b (by omega),x2.2 b (by omega),x1.2 b (by omega)]
 have B6:BX h6 pb (I64 0) (I64 0) (I64 0):=by
  refine⟨Cel.keep c1 ?_,Cel.keep c2 ?_,Cel.keep c3 ?_,Cel.keep c5 ?_⟩
  · rw[x6.2 _ (by omega),g5 _ (by omega),x4.2 _ (by omega),x3.2 _ (by omega),x2.2 _ (by omega)]
  · show yG h6 (pb+1+1)=_;rw [x6.2 _ (by omega),g5 _ (by omega),x4.2 _ (by omega),x3.2 _ (by omega)]
  · show yG h6 (pb+1+1+1)=_;rw [x6.2 _ (by omega),g5 _ (by omega),x4.2 _ (by omega)]
  · show yG h6 (pb+1+1+1+1)=_;rw [x6.2 _ (by omega)]
 have c6':Cel h6 (pb+5) 0 [str s]:=c6;have cp6:=cp.touch T06 (by omega) (by simp);have cr6:=cr.touch T06 (by omega) (by simp);have hE6:Env m h6:=hE.touch T06 (by omega) (by simp)
 refine wG (fun t w=>zA t 2=ptr (pb+1) 0∧zA t 4=ptr (pb+2) 0∧zA t 5=ptr (pb+3) 0∧zA t 6=ptr (pb+4) 0∧∃h7 n7 st no x4 x5,w=⟨[{ target:=.collected (pb+6),args:= #[] }],u,h7,n7⟩∧runS (s.length+1) 1 s St.z = .ok (st,no)∧
  (∃vv pv bv svs hv,SAt lo n7 h7 pb rb st vv pv bv svs hv)∧Low lo h (pb+1) h7 n7∧yG h7 (pb+6) = .deferred true∧BX h7 pb x4 x5 (I64 ((no:Int) - 1))∧no<1000000) (fun t w q=>?_) (fun kk hkk=>?_)
 · obtain⟨q2,q4,q5,q6,h7,n7,st,no,y4,y5,rfl,hr,⟨vv,pv,bv,svs,hv',sa⟩,hlow,hdf,B7,hno⟩:=q;obtain⟨m1,m2,m3,m4,m5,m6⟩:=sa.r.low;simp only[q2,q4,q5,q6,↓zF];refine zO ?_;have e1:zE P 112 h7 (ptr (pb+1) 0)=some (ptr pb 0):=zG B7.c2 shp rfl;have e2:zE P 4 h7 (.pointer (some ⟨pb,5,none⟩))=some (.bool st.ended):=zG sa.p.cel sh4 rfl;have e3:zE P 3 h7 (ptr (pb+4) 0)=some (I64 ((no:Int) - 1)):=zG B7.c6 sh3 rfl;simp only[↓e1,↓zC,↓xF,↓fa116_5,↓e2,↓zI,↓xD]
   cases hen:st.ended with
   | true=>
    simp only[↓Bool.not_true,↓wT];refine wA B7.c4 sh3 (by simp) rfl fun h8 c8 k8=>?_;refine wA (B7.c5.keep (k8 _ (by omega))) sh25 (by simp) rfl fun h9 c9 k9=>?_;have t8:TouchE [pb+2,pb+3] h7 n7 h9 n7:=(yA (n:=n7) k8 (S:=[pb+2,pb+3]) (by simp)).trans (yA k9 (by simp));refine leave_coll2 r69 (r:=pb+6) (v:=I64 0) (w:=I64 0) (by rw[k9 _ (by omega),k8 _ (by omega)];exact hdf) fun h10 k10=>⟨?_,?_,hk _ _ _ ⟨?_,.inl ⟨st,no,hr,hen,rfl,vv,pv,bv,svs,hv',?_⟩⟩⟩
    · exact zG ((Cel.keep c8 (k9 _ (by omega))).keep (k10 _ (by omega))) sh3 rfl
    · exact zG (Cel.keep c9 (k10 _ (by omega))) sh25 rfl
    · exact(hlow.touch t8 (fun y hy=>by simp at hy;omega)).touch (yA (n:=n7) k10 (S:=[pb+6]) (by simp)) (fun y hy=>by simp at hy;omega)
    · exact(sa.wr t8 (fun y hy=>by simp at hy;exact .inl ⟨by omega,by omega⟩)).wr (yA (n:=n7) k10 (S:=[pb+6]) (by simp)) (fun y hy=>by simp at hy;exact .inl ⟨by omega,by omega⟩)
   | false=>
    simp only[↓Bool.not_false,↓wP,↓e3,↓zC,↓zD];refine vT (by omega) ?_;refine wA B7.c4 sh3 (by simp) rfl fun h8 c8 k8=>?_;refine wA (B7.c5.keep (k8 _ (by omega))) sh25 (by simp) rfl fun h9 c9 k9=>?_;have t8:TouchE [pb+2,pb+3] h7 n7 h9 n7:=(yA (n:=n7) k8 (S:=[pb+2,pb+3]) (by simp)).trans (yA k9 (by simp));have eno:(no:Int) - 1+1=(no:Nat):=by omega
    refine leave_coll2 r69 (r:=pb+6) (v:=I64 (no:Nat)) (w:=I64 3) (by rw[k9 _ (by omega),k8 _ (by omega)];exact hdf) fun h10 k10=>⟨?_,?_,hk _ _ _ ⟨?_,.inr (.inl ⟨st,no,hr,hen,rfl⟩)⟩⟩
    · have c8':Cel h8 (pb+2) (3+1) [I64 (no:Nat)]:=by rw[eno]at c8;exact c8
      exact zG ((Cel.keep c8' (k9 _ (by omega))).keep (k10 _ (by omega))) sh3 rfl
    · exact zG (Cel.keep c9 (k10 _ (by omega))) sh25 rfl
    · exact(hlow.touch t8 (fun y hy=>by simp at hy;omega)).touch (yA (n:=n7) k10 (S:=[pb+6]) (by simp)) (fun y hy=>by simp at hy;omega)
 · refine range_at (f:=159) (cap:=[ptr (pb+5) 0]) (n:=pb+6) (Q:=fun o h2 n2=>o = .ret (.tuple ⟨[]⟩)∧LnQ m lo h (pb+1) pb rb (T0 pb (ptr pb 0) (str s) (str s) (.func (.func 159) ⟨[]⟩ ⟨[ptr (pb+5) 0]⟩)) (runS (s.length+1) 1 s St.z) h2 n2) ?_ ?_
   · intro h7 d1 d2 t7;have T07:TouchE [] h (pb+1) h7 (pb+8):=T06.trans t7;have hM:MM pb rb (.slice none 0 0) []=List.range' pb 8++[rb]:=by unfold MM oN;simp [wQ]
     have rnil:∀{e sz:Nat},RO (MM pb rb (.slice none 0 0) []) (pb+8) h7 (.slice none 0 0) e sz 0 []:=⟨.inl ⟨rfl,rfl,rfl⟩,fun _ hb=>(by cases hb),fun _ _ _ hb=>(by cases hb)⟩
     have sa:SAt lo (pb+8) h7 pb rb St.z (.slice none 0 0) (.slice none 0 0) (.slice none 0 0) [] hv:=by
      refine⟨⟨cr6.touch t7 (by omega) (by simp),⟨l1,by omega,l2,by omega,by omega,l3⟩,rnil,rnil,.inl ⟨rfl,rfl,rfl⟩,fun _ hb=>(by cases hb),fun _ hb=>(by cases hb),⟨rfl,fun k l v h1=>?_,fun l v h1=>?_⟩,?_⟩,⟨cp6.touch t7 (by omega) (by simp),rh.1.touch T07 (by simp),fun b hb hbM=>?_,fun b m z hb hi=>?_⟩,fun h=>?_,?_⟩
      · exact absurd h1 (by show ¬(k+1<0);omega)
      · cases h1
      · show 0≤200;omega
      · have:=rhb b hb;rw [hM]at hbM;simp only[List.mem_append,List.mem_range'_1,List.mem_cons,List.not_mem_nil,or_false]at hbM;omega
      · have hb':=(rhb b hb).1;rw [T07.2 b (by omega) (by simp)]at hi;exact rh.2.2 b m z hb hi
      · cases h
      · show 0≤4;omega
     exact lines1_comes shp hs hrun sa (hE6.touch t7 (by omega) (by simp)) ⟨⟨T07.1,fun b hb hbn=>T07.2 b hbn (by simp)⟩,d2,d1,I64 0,I64 0,B6.step fun y h1 h2=>t7.2 y (by omega) (by simp)⟩ (c6'.touch t7 (by omega) (by simp))
   · intro o h7 n7 q;obtain⟨rfl,q⟩:=q;rcases q with⟨st,no,hr,⟨vv,pv,bv,svs,hv',sa⟩,hE7,hM,hno⟩|⟨no,e,hr,hF⟩
     · obtain⟨y4,y5,hB⟩:=hM.bx;obtain⟨m1,m2,m3,m4,m5,m6⟩:=sa.r.low;refine⟨_,_,_,rfl,hM.ll,.inl ⟨rfl,rfl,fun h8 k8=>?_⟩⟩;have t8:TouchE [pb+7] h7 n7 h8 n7:=yA k8 (by simp);simp only[↓endA_normal];show kk _ _=true;refine hkk _ _ ⟨rfl,rfl,rfl,rfl,h8,n7,st,no,y4,y5,rfl,hr,⟨vv,pv,bv,svs,hv',sa.wr t8 (fun y hy=>by simp at hy;exact .inl ⟨by omega,by omega⟩)⟩,hM.low.touch t8 (fun y hy=>by simp at hy;omega),?_,hB.step fun y h1 h2=>k8 y (by omega),hno⟩;rw [k8 (pb+6) (by omega)];exact hM.df
     · refine⟨_,_,_,rfl,hF.ll,.inr ⟨rfl,rfl,fun h8 k8=>?_⟩⟩;have t8:TouchE [pb+7] h7 n7 h8 n7:=yA k8 (by simp);simp only[↓yC,↓yD];refine leave_coll2 r69 (r:=pb+6) (v:=I64 (no:Nat)) (w:=I64 e) (by rw[k8 (pb+6) (by omega)];exact hF.df) fun h10 k10=>⟨?_,?_,hk _ _ _ ⟨?_,.inr (.inr ⟨no,e,hr,rfl⟩)⟩⟩
       · exact zG ((hF.c4.keep (k8 _ (by omega))).keep (k10 _ (by omega))) sh3 rfl
       · exact zG ((hF.c5.keep (k8 _ (by omega))).keep (k10 _ (by omega))) sh25 rfl
       · exact(hF.low.touch t8 (fun y hy=>by simp at hy;omega)).touch (yA (n:=n7) k10 (S:=[pb+6]) (by simp)) (fun y hy=>by simp at hy;omega)
def FunAt(n:Nat)(h:zH)(v:Value)(f:Fct):Prop:=∃vv pv bv svs,v = .agg ⟨[str f.name,vv,pv,str f.result,bv]⟩∧RO [] n h vv 9 1 f.vregs.length (f.vregs.map str)∧RO [] n h pv 3 1 f.params.length (f.params.map I64)∧
 RO [] n h bv 51 1 f.blocks.length svs∧svs.length=f.blocks.length∧∀(k:Nat) (l:List Ins) (v:Value),f.blocks[k]? = some l→svs[k]? = some v→BlkRO [] n h v l
theorem RO.any{M:List Nat}{n:Nat}{h:zH}{v:Value}{e sz len:Nat}{vs:List Value}(r:RO M n h v e sz len vs):RO [] n h v e sz len vs:=⟨r.1,fun _ _=>by simp,r.2.2⟩
theorem BlkRO.any{M:List Nat}{n:Nat}{h:zH}{v:Value}{l:List Ins}(r:BlkRO M n h v l):BlkRO [] n h v l:=by
 obtain⟨av,a,b⟩:=r;exact⟨av,⟨a.1,fun j i a' h1 h2=>(a.2 j i a' h1 h2).any⟩,b.any⟩
theorem BlkRO.ext{n n':Nat}{h h':zH}{v:Value}{l:List Ins}(r:BlkRO [] n h v l)(x:Ext h n h' n'):BlkRO [] n' h' v l:=r.step (x.touch []) (by simp) (by simp)
theorem FunAt.ext{n n':Nat}{h h':zH}{v:Value}{f:Fct}(a:FunAt n h v f)(x:Ext h n h' n'):FunAt n' h' v f:=by
 obtain⟨vv,pv,bv,svs,e,r1,r2,r3,r4,r5⟩:=a;exact⟨vv,pv,bv,svs,e,r1.step (x.touch []) (by simp) (by simp),r2.step (x.touch []) (by simp) (by simp),r3.step (x.touch []) (by simp) (by simp),r4,fun k l v h1 h2=>(r5 k l v h1 h2).ext x⟩
theorem funAt_z(n:Nat)(h:zH):FunAt n h (.agg ⟨[str [],.slice none 0 0,.slice none 0 0,str [],.slice none 0 0]⟩) Fct.z:=by
 have rnil:∀{e sz:Nat},RO [] n h (.slice none 0 0) e sz 0 []:=⟨.inl ⟨rfl,rfl,rfl⟩,fun _ hb=>(by cases hb),fun _ _ _ hb=>(by cases hb)⟩;exact⟨_,_,_,[],rfl,rnil,rnil,rnil,rfl,fun k l v h1=>by simp[Fct.z]at h1⟩
theorem SAt.funAt{lo n pb rb x m z n':Nat}{h h':zH}{st:St}{vv pv bv:Value}{svs:List Value}{hv:Value}(s:SAt lo n h pb rb st vv pv bv svs hv)(t:TouchE [x] h n h' n')(hx:tH (yG h x)=some (m,z+1,0)) :
 FunAt n' h' (.agg ⟨[str st.f.name,vv,pv,str st.f.result,bv]⟩) st.f:=by
 have r:=s.r.hole t hx;refine⟨vv,pv,bv,svs,rfl,r.vr.any,r.pr.any,own_ro r.bo (Nat.le_refl 1) (by simp),r.bl.len,fun k l v h1 h2=>?_⟩;by_cases hk:k+1<st.f.blocks.length
 · exact(r.bl.ro k l v hk h1 h2).any
 · have hkl:k<st.f.blocks.length:=(List.getElem?_eq_some_iff.1 h1).1;have hlen:=r.bl.len;obtain⟨av,a,o⟩:=r.bl.last l v (by rw[List.getLast?_eq_getElem?,← h1];congr 1;omega) (by rw[List.getLast?_eq_getElem?,← h2];congr 1;omega);exact⟨av,⟨a.1,fun j i a' g1 g2=>(a.2 j i a' g1 g2).any⟩,own_ro o (by omega) (by simp)⟩
theorem leave_c2{L:Lo}{f:FuncId}{i j l:Nat}{ty:TypeId}(hr:xW P f=some [.cell i ty,.tmp j,.tmp l]){k:KO}{t:Fr}{u:Option yF}{h:zH}{n:Nat}{v:Value}(hv:zE P ty h (zA t i)=some v)(hk:k (.ret (.tuple ⟨[v,zA t j,zA t l]⟩)) u h n=true) :
 zJ P L f k .ret t ⟨[],u,h,n⟩=true:=by
 have hl:wI P t h [.cell i ty,.tmp j,.tmp l]=some [v,zA t j,zA t l]:=by
  have e:ldV P h ty (zA t i)=some v:=hv;unfold wI;rw [e];rfl
 rw[leave_res hr hl];exact hk
theorem read_rets{m:Int}{h:zH}{n:Nat}(shp:yJ P 112 = .scal)(hE:Env m h)(hn:8≤n)(s:Tx)(hs:s.length<1000000)(hrun:s.length≤65536→RunOK (s.length+1) s St.z OfOK) :
 Rets P 8 22 [str s] h n fun v h' n'=>Ext h n h' n'∧∃fv,v = .tuple ⟨[fv,I64 (readS s).2.1,I64 (readS s).2.2]⟩∧FunAt n' h' fv (readS s).1:=by
 refine zZ zK mixed (hint:=hint22) l22 fun u k hk=>?_;rw [F22_eq];unfold F22;refine wZ ze43 fun h1 c1 x1=>?_;have e1:zX P .len [9] [str s] h1=some (I64 (s.length:Nat)):=len_strL us9 s [] h1;have z1:uZ P 43 []=some (.agg ⟨[str [],.slice none 0 0,.slice none 0 0,str [],.slice none 0 0]⟩):=by kernel_rfl
 have zone:∀x∈[str [],Value.slice none 0 0,.slice none 0 0,str [],.slice none 0 0],x.oneCell'=true:=by
  intro x hx;simp only[List.mem_cons,List.not_mem_nil,or_false]at hx;rcases hx with rfl|rfl|rfl|rfl|rfl <;> rfl
 simp only[↓e1,↓zC,↓zD];unfold readS at hk;by_cases hl:65536<s.length
 · rw[if_pos hl]at hk;have e2:wB 65536 (s.length:Nat)=true:=by rw[zT];exact decide_eq_true (by omega)
   simp only[↓e2,↓zY,↓wP,↓z1,↓zC];refine xU c1 sh43 rfl rfl zone fun h2 c2 k2=>?_;have x2:Ext h n h2 (n+1):=⟨by omega,fun b hb=>by rw[k2 b (by omega)];exact x1.2 b hb⟩;exact leave_c2 r22 (xA c2 sh43 rfl (by decide)) (hk _ _ _ ⟨x2,_,rfl,funAt_z _ _⟩)
 · rw[if_neg hl]at hk;have e2:wB 65536 (s.length:Nat)=false:=by rw[zT];exact decide_eq_false (by omega)
   have z2:uZ P 111 []=some (.agg ⟨[str [],.slice none 0 0,.slice none 0 0,str [],.slice none 0 0]⟩):=by kernel_rfl
   simp only[↓e2,↓zY,↓wT,↓z2,↓zC];refine tE zone fun h2 c2 x2=>?_;simp only[↓xK];have z3:xP P 114 4 [(0,hd 63 (n+1)),(1,hd 64 (n+1)),(2,hd 65 (n+1)),(3,hd 66 (n+1))]=some (tM [hd 63 (n+1),hd 64 (n+1),hd 65 (n+1),hd 66 (n+1)] 0):=by kernel_rfl
   refine buildS_in (e:=113) (sz:=1) z3 rfl (by unfold inf;omega) fun h3 c3 i3 x3=>?_;have z4:uZ P 116 [(0,.slice (some ⟨n+1+1,0,none⟩) 4 4),(1,hd 67 (n+1)),(2,hd 68 (n+1))]=some (.agg ⟨[.slice (some ⟨n+1+1,0,none⟩) 4 4,hd 67 (n+1),hd 68 (n+1),I64 0,.bool false,.bool false]⟩):=by kernel_rfl
   simp only[↓xK,↓z4,↓zC];refine tE (by intro x hx;simp only[cellsOf,List.mem_cons,List.not_mem_nil,or_false]at hx;rcases hx with rfl|rfl|rfl|rfl|rfl|rfl <;> rfl) fun h4 c4 x4=>?_;have x24:Ext h2 (n+1+1) h4 (n+1+1+1+1):=x3.trans x4;have x04:Ext h n h4 (n+1+1+1+1):=(x1.trans x2).trans x24
   have rh:RO [] (n+3+1) h4 (.slice (some ⟨n+1+1,0,none⟩) 4 4) 113 1 4 [hd 63 (n+1),hd 64 (n+1),hd 65 (n+1),hd 66 (n+1)]:=by
    refine⟨c3.ext x4,fun _ _=>by simp,fun b m z hb hi=>?_⟩;have hb':some (n+1+1)=some b:=hb;injection hb' with hb'
    subst hb';rw [x4.2 _ (by omega),i3]at hi;injection hi with hi;injection hi with _ hi;injection hi with hi _;cases hi
   refine xL (paper_comes (lo:=n+1) (pb:=n+3) (rb:=n+1) shp (by omega) (hrun (by omega)) ⟨by omega,by omega,by omega⟩ c4 (Cel.touch c2 (x24.touch []) (by omega) (by simp)) rh (fun b hb=>?_) (hE.touch (x04.touch []) hn (by simp))) (fun v h5 n5 q=>?_) (fun c h5 n5 q=>?_)
   · have hb':some (n+1+1)=some b:=hb;injection hb' with hb'
     omega
   · obtain⟨lw,q⟩:=q;have c15:Cel h5 n (43+1) [str [],.slice none 0 0,.slice none 0 0,str [],.slice none 0 0]:=Cel.keep c1 (by rw[lw.2 n (by omega) (by omega),x24.2 n (by omega),x2.2 n (by omega)]);have x05:Ext h n h5 n5:=⟨by have:=lw.1;omega,fun b hb=>by rw[lw.2 b (by omega) (by omega)];exact x04.2 b hb⟩;have y0:∀a b,xO 0 (.tuple ⟨[I64 a,I64 b]⟩)=some (I64 a):=fun _ _=>rfl;have y1:∀a b,xO 1 (.tuple ⟨[I64 a,I64 b]⟩)=some (I64 b):=fun _ _=>rfl;rcases q with⟨st,no,hr,hen,hv,vv,pv,bv,svs,hv',sa⟩|⟨st,no,hr,hen,hv⟩|⟨no,e,hr,hv⟩
     · injection hv with hv
       subst hv;have ht:tellS (runS (s.length+1) 1 s St.z)=(st.f,0,0):=by rw[hr];unfold tellS;dsimp only;rw [if_pos hen]
       rw[ht]at hk;have ne:pW 0 0=false:=rfl;have e9:zE P 43 h5 (ptr (n+1) 0)=some (.agg ⟨[str st.f.name,vv,pv,str st.f.result,bv]⟩):=xA sa.r.cel sh43 rfl (by decide);have f9:zB P 111 0 (ptr (n+1) 0)=some (ptr (n+1) 0):=pE _;simp only[↓y0,↓y1,↓zC,↓zD,↓ne,↓zY,↓wT,↓xF,↓f9,↓e9]
       have hone:∀x∈[str st.f.name,vv,pv,str st.f.result,bv],x.oneCell'=true:=by
        intro x hx;simp only[List.mem_cons,List.not_mem_nil,or_false]at hx;rcases hx with rfl|rfl|rfl|rfl|rfl
        · rfl
        · exact sa.r.vr.1.one
        · exact sa.r.pr.1.one
        · rfl
        · exact sa.r.bo.one
       refine xU c15 sh43 rfl rfl hone fun h6 c6 k6=>?_;have x6:Ext h n h6 n5:=⟨x05.1,fun b hb=>by rw[k6 b (by omega)];exact x05.2 b hb⟩;exact leave_c2 r22 (xA c6 sh43 rfl (by decide)) (hk _ _ _ ⟨x6,_,rfl,sa.funAt (yA k6 (by simp)) c15.1⟩)
     · injection hv with hv
       subst hv;have ht:tellS (runS (s.length+1) 1 s St.z)=(Fct.z,(no:Int),3):=by rw[hr];unfold tellS;dsimp only;rw [if_neg (by rw[hen];exact Bool.false_ne_true)]
       rw[ht]at hk;have ne:pW 3 0=true:=rfl;simp only[↓y0,↓y1,↓zC,↓zD,↓ne,↓zY,↓wP,↓z1];refine xU c15 sh43 rfl rfl zone fun h6 c6 k6=>?_;have x6:Ext h n h6 n5:=⟨x05.1,fun b hb=>by rw[k6 b (by omega)];exact x05.2 b hb⟩;exact leave_c2 r22 (xA c6 sh43 rfl (by decide)) (hk _ _ _ ⟨x6,_,rfl,funAt_z _ _⟩)
     · injection hv with hv
       subst hv;have ht:tellS (runS (s.length+1) 1 s St.z)=(Fct.z,(no:Int),e):=by rw[hr];rfl
       rw[ht]at hk;have hbad:=runS_bad _ _ _ _ _ _ hr;have ne:pW e 0=true:=by rw[pS,decide_eq_false (by unfold Bad at hbad;omega)];rfl
       simp only[↓y0,↓y1,↓zC,↓zD,↓ne,↓zY,↓wP,↓z1];refine xU c15 sh43 rfl rfl zone fun h6 c6 k6=>?_;have x6:Ext h n h6 n5:=⟨x05.1,fun b hb=>by rw[k6 b (by omega)];exact x05.2 b hb⟩;exact leave_c2 r22 (xA c6 sh43 rfl (by decide)) (hk _ _ _ ⟨x6,_,rfl,funAt_z _ _⟩)
   · obtain⟨_,q⟩:=q;rcases q with⟨_,_,_,_,q,_⟩|⟨_,_,_,_,q⟩|⟨_,_,_,q⟩ <;> cases q
set_option maxRecDepth 100000
def pG(l:List (List UInt8))(x:List UInt8)(i:Nat):Int:=match l with
 | []=> -1
 | y::r=>if x == y then(i:Int) else pG r x (i+1)
theorem idxFrom_neg(l:List (List UInt8))(x:List UInt8):∀i,decide (0≤pG l x i)=l.any (x == ·):=by
 induction l with
 | nil=>intro i;rfl
 | cons y r ih=>intro i;unfold pG;cases h:(x == y) <;> simp[h,ih,List.any_cons]
theorem idxFrom_m1(l:List (List UInt8))(x:List UInt8):∀i,pG l x i<0→pG l x i = -1:=by
 induction l with
 | nil=>intro i _;rfl
 | cons y r ih=>intro i h;unfold pG at h ⊢;cases hx:(x == y) <;> simp[hx]at h ⊢;exact ih _ h;omega
theorem index_loop(ls:List (List UInt8))(x:List UInt8)(sv:Value)(h:zH)(n:Nat)(d:List Deferred)(u:Option yF)(ka:KX)(hr:Row n h sv 9 1 ls.length (ls.map str))(hlen:ls.length<100000) :
 ∀(m i:Nat),m+i=ls.length→∀t,zA t 0=sv→zA t 1=str x→zA t 7 = .int .i64 (ls.length:Nat)→zA t 8 = .int .i64 (i:Nat)→
 (pG (ls.drop i) x i<0→∀t',ka (.exit 0) t' ⟨d,u,h,n⟩=true)→(0≤pG (ls.drop i) x i→∀t',zA t' 4 = .int .i64 (pG (ls.drop i) x i)→ka .ret t' ⟨d,u,h,n⟩=true)→
 lpS P 8 1000002 ⟨178,none,false⟩ t ⟨d,u,h,n⟩ ka=true:=by
 intro m
 induction m with
 | zero =>
  intro i hi t h0 h1 h7 h8 hE hR;refine yK zK mixed (hint:=hint178) l178 lp178_1000002 ?_;rw [B178_1000002_eq];unfold B178_1000002;rw [h0,h1,h7,h8]
  repeat' (first
   | omega
   | with_reducible first|refine tV (fun _=>?_) (fun _=>?_)|refine tW (fun _=>?_) (fun _=>?_)|refine vN (fun _=>?_) (fun _=>?_)|refine vO (fun _=>?_) (fun _=>?_)|refine vI (fun _=>?_) (fun _=>?_)|refine vJ (fun _=>?_) (fun _=>?_)|refine vD (fun _=>?_) (fun _=>?_)|refine vK (fun _=>?_) (fun _=>?_)|refine vL (fun _=>?_) (fun _=>?_)|refine vM (fun _=>?_) (fun _=>?_)
   | simp only[↓zD,↓zI,↓zC,↓zF,↓xK,↓xI,↓zQ,↓yS,↓xJ,↓wP,↓wT,↓uB,↓yR,↓yV,↓rM,↓sR,↓wF,↓yY,↓xM,↓yP,↓xQ,↓xD,↓xR,↓zM,↓yC,↓zN,↓yD,Bool.not_true,Bool.not_false,yW,yI])
  refine hE ?_ _;rw [List.drop_eq_nil_of_le (by omega)];show(-1:Int)<0;decide
 | succ m ih=>
  intro i hi t h0 h1 h7 h8 hE hR;have hlt:i<ls.length:=by omega
  have hd:ls.drop i=ls[i]::ls.drop (i+1):=List.drop_eq_getElem_cons hlt;obtain⟨p,hp,hq⟩:=xG (P:=P) (k:=.i64) hr ix23 (tl:=9) sh9 (i:=i) (x:=str ls[i]) (by rw[List.getElem?_map,List.getElem?_eq_getElem hlt];rfl);generalize ls[i]=y at hd hq
  refine yK zK mixed (hint:=hint178) l178 lp178_1000002 ?_;rw [B178_1000002_eq];unfold B178_1000002;rw [h0,h1,h7,h8];rw [hd]at hE hR;unfold pG at hE hR;cases hxy:(x == y) <;> rw[hxy]at hE hR
  · repeat' (first
     | rw[vX,hxy]
     | exact ih (i+1) (by omega) _ rfl rfl rfl rfl hE hR
     | omega
     | with_reducible refine vT (by omega) ?_
     | with_reducible first|refine tV (fun _=>?_) (fun _=>?_)|refine tW (fun _=>?_) (fun _=>?_)|refine vN (fun _=>?_) (fun _=>?_)|refine vO (fun _=>?_) (fun _=>?_)|refine vI (fun _=>?_) (fun _=>?_)|refine vJ (fun _=>?_) (fun _=>?_)|refine vD (fun _=>?_) (fun _=>?_)|refine vK (fun _=>?_) (fun _=>?_)|refine vL (fun _=>?_) (fun _=>?_)|refine vM (fun _=>?_) (fun _=>?_)
     | simp only[↓zD,↓zI,↓zC,↓zF,↓xK,↓xI,↓zQ,↓yS,↓xJ,↓wP,↓wT,↓uB,↓yR,↓yV,↓rM,↓sR,↓wF,↓yY,↓xM,↓yP,↓xQ,↓xD,↓xR,↓zM,↓yC,↓zN,↓yD,Bool.not_true,Bool.not_false,yW,yI,  ↓hp,↓hq,fg0,fg1,fg7,fg8])
  · repeat' (first
     | rw[vX,hxy]
     | exact hR (by simp) _ rfl
     | omega
     | with_reducible first|refine tV (fun _=>?_) (fun _=>?_)|refine tW (fun _=>?_) (fun _=>?_)|refine vN (fun _=>?_) (fun _=>?_)|refine vO (fun _=>?_) (fun _=>?_)|refine vI (fun _=>?_) (fun _=>?_)|refine vJ (fun _=>?_) (fun _=>?_)|refine vD (fun _=>?_) (fun _=>?_)|refine vK (fun _=>?_) (fun _=>?_)|refine vL (fun _=>?_) (fun _=>?_)|refine vM (fun _=>?_) (fun _=>?_)
     | simp only[↓zD,↓zI,↓zC,↓zF,↓xK,↓xI,↓zQ,↓yS,↓xJ,↓wP,↓wT,↓uB,↓yR,↓yV,↓rM,↓sR,↓wF,↓yY,↓xM,↓yP,↓xQ,↓xD,↓xR,↓zM,↓yC,↓zN,↓yD,Bool.not_true,Bool.not_false,yW,yI,  ↓hp,↓hq,fg0,fg1,fg7,fg8])
theorem index_pure(ls:List (List UInt8))(x:List UInt8)(sv:Value)(h:zH)(n:Nat)(hr:Row n h sv 9 1 ls.length (ls.map str))(hlen:ls.length<100000) :
 pA P 8 178 [sv,str x] h n (.int .i64 (pG ls x 0)):=by
 refine zZ zK mixed (hint:=hint178) l178 fun u k hk=>?_;rw [F178_eq];unfold F178;have hl:=yX (P:=P) us23 hr [] h
 repeat' (first
  | refine index_loop ls x sv h n [] u _ hr hlen _ 0 (Nat.add_zero _) _ rfl rfl rfl rfl ?_ ?_
  | with_reducible first|refine tV (fun _=>?_) (fun _=>?_)|refine tW (fun _=>?_) (fun _=>?_)|refine vN (fun _=>?_) (fun _=>?_)|refine vO (fun _=>?_) (fun _=>?_)|refine vI (fun _=>?_) (fun _=>?_)|refine vJ (fun _=>?_) (fun _=>?_)|refine vD (fun _=>?_) (fun _=>?_)|refine vK (fun _=>?_) (fun _=>?_)|refine vL (fun _=>?_) (fun _=>?_)|refine vM (fun _=>?_) (fun _=>?_)
  | simp only[↓zD,↓zI,↓zC,↓zF,↓xK,↓xI,↓zQ,↓yS,↓xJ,↓wP,↓wT,↓uB,↓yR,↓yV,↓rM,↓sR,↓wF,↓yY,↓xM,↓yP,↓xQ,↓xD,↓xR,↓zM,↓yC,↓zN,↓yD,Bool.not_true,Bool.not_false,yW,yI,  ↓hl])
 · intro hneg t'
   repeat' (first
    | refine zV r178 (v:=.int _ _) rfl (hk _ _ _ ⟨congrArg (Value.int .i64) ?_,rfl,rfl⟩)
    | with_reducible first|refine tV (fun _=>?_) (fun _=>?_)|refine tW (fun _=>?_) (fun _=>?_)|refine vN (fun _=>?_) (fun _=>?_)|refine vO (fun _=>?_) (fun _=>?_)|refine vI (fun _=>?_) (fun _=>?_)|refine vJ (fun _=>?_) (fun _=>?_)|refine vD (fun _=>?_) (fun _=>?_)|refine vK (fun _=>?_) (fun _=>?_)|refine vL (fun _=>?_) (fun _=>?_)|refine vM (fun _=>?_) (fun _=>?_)
    | simp only[↓zD,↓zI,↓zC,↓zF,↓xK,↓xI,↓zQ,↓yS,↓xJ,↓wP,↓wT,↓uB,↓yR,↓yV,↓rM,↓sR,↓wF,↓yY,↓xM,↓yP,↓xQ,↓xD,↓xR,↓zM,↓yC,↓zN,↓yD,Bool.not_true,Bool.not_false,yW,yI])
   exact(idxFrom_m1 ls x 0 hneg).symm
 · intro hpos t' h4
   repeat' (first
    | exact zV r178 h4 (hk _ _ _ ⟨rfl,rfl,rfl⟩)
    | with_reducible first|refine tV (fun _=>?_) (fun _=>?_)|refine tW (fun _=>?_) (fun _=>?_)|refine vN (fun _=>?_) (fun _=>?_)|refine vO (fun _=>?_) (fun _=>?_)|refine vI (fun _=>?_) (fun _=>?_)|refine vJ (fun _=>?_) (fun _=>?_)|refine vD (fun _=>?_) (fun _=>?_)|refine vK (fun _=>?_) (fun _=>?_)|refine vL (fun _=>?_) (fun _=>?_)|refine vM (fun _=>?_) (fun _=>?_)
    | simp only[↓zD,↓zI,↓zC,↓zF,↓xK,↓xI,↓zQ,↓yS,↓xJ,↓wP,↓wT,↓uB,↓yR,↓yV,↓rM,↓sR,↓wF,↓yY,↓xM,↓yP,↓xQ,↓xD,↓xR,↓zM,↓yC,↓zN,↓yD,Bool.not_true,Bool.not_false,yW,yI])
theorem contains_pure(ls:List (List UInt8))(x:List UInt8)(sv:Value)(h:zH)(n:Nat)(hr:Row n h sv 9 1 ls.length (ls.map str))(hlen:ls.length<100000) :
 pA P 8 152 [sv,str x] h n (.bool (ls.any (x == ·))):=by
 refine zZ zK mixed (hint:=hq0) l152 fun u k hk=>?_;rw [F152_eq];unfold F152;rw [← idxFrom_neg ls x 0]at hk
 repeat' (first
  | with_reducible refine rL (index_pure ls x sv h n hr hlen) ?_
  | refine zV r152 (v:=.bool _) rfl (hk _ _ _ ⟨congrArg Value.bool ?_,rfl,rfl⟩)
  | with_reducible first|refine tV (fun _=>?_) (fun _=>?_)|refine tW (fun _=>?_) (fun _=>?_)|refine vN (fun _=>?_) (fun _=>?_)|refine vO (fun _=>?_) (fun _=>?_)|refine vI (fun _=>?_) (fun _=>?_)|refine vJ (fun _=>?_) (fun _=>?_)|refine vD (fun _=>?_) (fun _=>?_)|refine vK (fun _=>?_) (fun _=>?_)|refine vL (fun _=>?_) (fun _=>?_)|refine vM (fun _=>?_) (fun _=>?_)
  | simp only[↓zD,↓zI,↓zC,↓zF,↓xK,↓xI,↓zQ,↓yS,↓xJ,↓wP,↓wT,↓uB,↓yR,↓yV,↓rM,↓sR,↓wF,↓yY,↓xM,↓yP,↓xQ,↓xD,↓xR,↓zM,↓yC,↓zN,↓yD,Bool.not_true,Bool.not_false,yW,yI])
 · exact(decide_eq_true (by assumption)).symm
 · exact(decide_eq_false (by omega)).symm
theorem word_pure(x:Tx)(h:zH)(n:Nat):pA P 8 114 [str x] h n (.bool (wordB x)):=by
 refine Rets.pureE (zZ zK mixed (hint:=hq0) l114 fun u k hk=>?_) (.inl rfl);rw [F114_eq];unfold F114;have z3:xP P 23 4 [(0,.string (ByteArray.mk #[99,111,110,115,116])),(1,.string (ByteArray.mk #[99,111,112,121])),(2,.string (ByteArray.mk #[108,111,97,100])),(3,.string (ByteArray.mk #[99,97,108,108]))]=some (tM ([tConst,tCopy,tLoad,pU].map str) 0):=by kernel_rfl
 refine rB (e:=9) (sz:=1) z3 rfl (by unfold inf;omega) fun h1 c1 x1=>?_;refine zU (contains_pure [tConst,tCopy,tLoad,pU] x _ h1 (n+1) c1 (by decide)) ?_;exact zV r114 rfl (hk _ _ _ ⟨rfl,x1⟩)
theorem number_loop(ns:List Int)(sv:Value)(h:zH)(n:Nat)(u:Option yF)(ka:KX)(hr:Row n h sv 3 1 ns.length (ns.map I64))(hlen:ns.length<100000):∀(m i:Nat),m+i=ns.length→∀t,zA t 5=sv→zA t 6=I64 (ns.length:Nat)→zA t 7=I64 (i:Nat)→
 ((ns.drop i).all xS=true→∀t',ka (.exit 0) t' ⟨[],u,h,n⟩=true)→((ns.drop i).all xS=false→∀t',zA t' 2 = .bool false→ka .ret t' ⟨[],u,h,n⟩=true)→
 lpS P 8 1000002 ⟨59,none,false⟩ t ⟨[],u,h,n⟩ ka=true:=by
 intro m
 induction m with
 | zero=>
  intro i hi t t5 t6 t7 hE hR;refine yK zK mixed (hint:=hint59) l59 lp59_1000002 ?_;rw [B59_1000002_eq];unfold B59_1000002;rw [t5,t6,t7];have e3:wB (i:Nat) (ns.length:Nat)=false:=by rw[zT];exact decide_eq_false (by omega)
  simp only[↓zF,↓zD];refine zO ?_;simp only[↓e3,↓zY,↓wT];refine hE ?_ _;rw [List.drop_eq_nil_of_le (by omega)];rfl
 | succ m ih=>
  intro i hi t t5 t6 t7 hE hR;have hlt:i<ns.length:=by omega
  have hd:ns.drop i=ns[i]::ns.drop (i+1):=List.drop_eq_getElem_cons hlt;obtain⟨q,q1,q2⟩:=xG (P:=P) (k:=.i64) hr ix40 (tl:=3) sh3 (i:=i) (x:=I64 ns[i]) (by rw[List.getElem?_map,List.getElem?_eq_getElem hlt];rfl);generalize ns[i]=y at hd q2
  have ea:(y::ns.drop (i+1)).all xS=(xS y && (ns.drop (i+1)).all xS):=rfl;rw [hd,ea]at hE hR;refine yK zK mixed (hint:=hint59) l59 lp59_1000002 ?_;rw [B59_1000002_eq];unfold B59_1000002;rw [t5,t6,t7];have e3:wB (i:Nat) (ns.length:Nat)=true:=by rw[zT];exact decide_eq_true (by omega)
  simp only[↓zF,↓zD];refine zO ?_;simp only[↓e3,↓zY,↓wP,↓xR,↓q1,↓q2,↓zC,↓zD];by_cases h0:y<0
  · have e4:wB y 0=true:=by rw[zT];exact decide_eq_true h0
    have hs:xS y=false:=decide_eq_false (by omega);rw [hs]at hR;simp only[↓e4,↓rM,↓xJ,↓yR,↓zI,↓wP];exact hR rfl _ rfl
  · have e4:wB y 0=false:=by rw[zT];exact decide_eq_false h0
    simp only[↓e4,↓sR,↓yS,↓yV,cmpI];by_cases h1:99999<y
    · have e5:igtB y 99999=true:=by rw[igtB_ap];exact decide_eq_true h1
      have hs:xS y=false:=decide_eq_false (by omega);rw [hs]at hR;simp only[↓e5,↓zI,↓wP];exact hR rfl _ rfl
    · have e5:igtB y 99999=false:=by rw[igtB_ap];exact decide_eq_false h1
      have hs:xS y=true:=decide_eq_true (by omega);rw [hs]at hE hR;simp only[↓e5,↓zI,↓wT,↓fg5,↓fg6,↓fg7,↓zF,↓zD];refine zO ?_;refine vT (by omega) ?_;exact ih (i+1) (by omega) _ rfl rfl rfl hE hR
theorem rO(ns:List Int)(sv:Value)(h:zH)(n:Nat)(hr:Row n h sv 3 1 ns.length (ns.map I64))(hlen:ns.length<100000):pA P 8 59 [sv] h n (.bool (ns.all xS)):=by
 refine zZ zK mixed (hint:=hint59) l59 fun u k hk=>?_;rw [F59_eq];unfold F59;have e2:=yX (P:=P) us40 hr [] h;simp only[↓e2,↓zC,↓zD];refine number_loop ns sv h n u _ hr hlen ns.length 0 (Nat.add_zero _) _ rfl rfl rfl ?_ ?_
 · intro ha t';rw [List.drop_zero]at ha;rw [ha]at hk;simp only[↓zM,↓zN];refine zO ?_;exact zV r59 rfl (hk _ _ _ ⟨rfl,rfl,rfl⟩)
 · intro ha t' t2;rw [List.drop_zero]at ha;rw [ha]at hk;simp only[↓yC,↓yD];exact zV r59 t2 (hk _ _ _ ⟨rfl,rfl,rfl⟩)
theorem texts_loop{m:Int}(ns:List Int)(hns:∀x∈ns,-9223372036854775808≤x∧x≤9223372036854775807)(sv:Value)(h0:zH)(n0:Nat)(hn8:8≤n0)(hlen:ns.length<50000)(u:Option yF)(ka:KX):∀(m' i:Nat),m'+i=ns.length→∀(t:Fr) (h:zH) (n:Nat) (ov:Value),Env m h→Ext h0 n0 h n→Row n0 h0 sv 3 1 ns.length (ns.map I64)→
 Own n0 n h ov 9 1 i ((ns.take i).map fun x=>str (Lib.itoa x))→zA t 3=ov→zA t 6=sv→zA t 7=I64 (ns.length:Nat)→zA t 8=I64 (i:Nat)→
 (∀t' h' n' ov',zA t' 3=ov'→Ext h0 n0 h' n'→Own n0 n' h' ov' 9 1 ns.length (ns.map fun x=>str (Lib.itoa x))→ka (.exit 0) t' ⟨[],u,h',n'⟩=true)→
 lpS P 8 1000003 ⟨55,none,false⟩ t ⟨[],u,h,n⟩ ka=true:=by
 intro m'
 induction m' with
 | zero=>
  intro i hi t h n ov hE x hr ho t3 t6 t7 t8 hk;refine yK zK mixed (hint:=hint55) l55 lp55_1000003 ?_;rw [B55_1000003_eq];unfold B55_1000003;rw [t3,t6,t7,t8];have e3:wB (i:Nat) (ns.length:Nat)=false:=by rw[zT];exact decide_eq_false (by omega)
  simp only[↓zF,↓zD];refine zO ?_;simp only[↓e3,↓zY,↓wT];have hi':i=ns.length:=by omega
  subst hi';rw [List.take_length]at ho;exact hk _ h n ov rfl x ho
 | succ m' ih =>
  intro i hi t h n ov hE x hr ho t3 t6 t7 t8 hk;have hlt:i<ns.length:=by omega
  have hr':=hr.ext x;obtain⟨q,q1,q2⟩:=xG (P:=P) (k:=.i64) hr' ix40 (tl:=3) sh3 (i:=i) (x:=I64 ns[i]) (by rw[List.getElem?_map,List.getElem?_eq_getElem hlt];rfl);refine yK zK mixed (hint:=hint55) l55 lp55_1000003 ?_;rw [B55_1000003_eq];unfold B55_1000003;rw [t3,t6,t7,t8];have e3:wB (i:Nat) (ns.length:Nat)=true:=by rw[zT];exact decide_eq_true (by omega)
  simp only[↓zF,↓zD];refine zO ?_;simp only[↓e3,↓zY,↓wP,↓xR,↓q1,↓q2,↓zC,↓zD];have hb:=hns ns[i] (List.getElem_mem hlt);refine yH (itoa_pure n hE.tabs ns[i] hb.1 hb.2) ?_;refine tI on23 (rN _) fun h1 c1 x1=>?_;have o1:=ho.touch (x1.touch []) (fun _ _ h=>by cases h);have hxn:=x.1;refine qS ap23 o1 (by omega) c1 rfl (by simpa using rN _) (by omega) fun v2 h2 n2 o2 n2le k2=>?_;have t2:=touch_blk (lo:=0) n2le k2
  have xx:Ext h0 n0 h2 n2:=by
   refine⟨by omega,fun b hb=>?_⟩;rw [k2 b (by omega) (fun e=>by have:=(ho.ge b e).1;omega),x1.2 b (by omega),x.2 b hb]
  have hE2:Env m h2:=(hE.touch (x1.touch []) (by omega) (by simp)).touch t2 (by omega) (fun y hy=>by have:=(ho.ge y (by simpa using hy)).1;omega);simp only[↓fg3,↓fg6,↓fg7,↓fg8,↓zF,↓zD];refine zO ?_;refine vT (by omega) ?_;refine ih (i+1) (by omega) _ h2 n2 v2 hE2 xx hr ?_ rfl rfl rfl rfl hk
  have e9:(ns.take (i+1)).map (fun x=>str (Lib.itoa x))=(ns.take i).map (fun x=>str (Lib.itoa x))++[str (Lib.itoa ns[i])]:=by
   have e8:ns.take (i+1)=ns.take i++[ns[i]]:=by
    rw[List.take_add_one,List.getElem?_eq_getElem hlt];rfl
   rw[e8,List.map_append];rfl
  rw[e9];exact o2
theorem texts_rets{m:Int}{h:zH}{n:Nat}(hE:Env m h)(hn:8≤n)(ns:List Int)(hns:∀x∈ns,-9223372036854775808≤x∧x≤9223372036854775807)(sv:Value)(hr:Row n h sv 3 1 ns.length (ns.map I64))(hlen:ns.length<50000) :
 Rets P 8 55 [sv] h n fun v h' n'=>Ext h n h' n'∧Own n n' h' v 9 1 ns.length (ns.map fun x=>str (Lib.itoa x)):=by
 refine zZ zK mixed (hint:=hint55) l55 fun u k hk=>?_;rw [F55_eq];unfold F55;have e2:=yX (P:=P) us40 hr [] h;simp only[↓e2,↓zC,↓zD];refine texts_loop (m:=m) ns hns sv h n hn hlen u _ ns.length 0 (Nat.add_zero _) _ h n (.slice none 0 0) hE (Ext.refl _ _) hr (.inl ⟨rfl,rfl,by simp⟩) rfl rfl rfl rfl ?_;intro t' h' n' ov' t3 x o;simp only[↓zM,↓zN,↓zF,t3];refine zO ?_;exact zV r55 rfl (hk _ _ _ ⟨x,o⟩)
theorem tQ{i:Ins}{sv:Value}(hs:sv.oneCell'=true):∀x∈vH i sv,x.oneCell'=true:=by
 intro x hx;simp only[vH,List.mem_cons,List.not_mem_nil,or_false]at hx;rcases hx with rfl|rfl|rfl|rfl|rfl|rfl|rfl|rfl|rfl <;> first|rfl|exact hs
theorem zero_pure(i:Ins)(sv:Value)(h:zH)(n:Nat)(hr:Row n h sv 3 1 i.args.length (i.args.map I64)):pA P 8 112 [.agg ⟨vH i sv⟩] h n (.bool (zeroI i)):=by
 refine Rets.pureE (zZ zK mixed (hint:=hq0) l112 fun u k hk=>?_) (.inl rfl);rw [F112_eq];unfold F112;refine tE (tQ hr.one) fun h1 c1 x1=>?_;have hr1:=hr.ext x1;have c1':Cel h1 n 0 (vH i sv):=c1;have f0:zE P 3 h1 (ptr n 0)=some (I64 i.kind):=zG c1' sh3 rfl;have f1:zE P 3 h1 (.pointer (some ⟨n,1,none⟩))=some (I64 i.d):=zG c1' sh3 rfl;have f2:zE P 3 h1 (.pointer (some ⟨n,2,none⟩))=some (I64 i.a):=zG c1' sh3 rfl;have f3:zE P 3 h1 (.pointer (some ⟨n,3,none⟩))=some (I64 i.b):=zG c1' sh3 rfl;have f4:zE P 3 h1 (.pointer (some ⟨n,4,none⟩))=some (I64 i.n):=zG c1' sh3 rfl;have f5:zE P 9 h1 (.pointer (some ⟨n,5,none⟩))=some (str i.name):=zG c1' sh9 rfl;have f6:zE P 40 h1 (.pointer (some ⟨n,6,none⟩))=some sv:=zG c1' sh40 rfl;have f7:zE P 3 h1 (.pointer (some ⟨n,7,none⟩))=some (I64 i.t):=zG c1' sh3 rfl;have f8:zE P 3 h1 (.pointer (some ⟨n,8,none⟩))=some (I64 i.f):=zG c1' sh3 rfl;have fl:=yX (P:=P) us40 hr1 [] h1
 have ec:∀(x:Tx) K,yB xN P .eql 9 true (str x) (.string (ByteArray.mk #[])) K=K (x == []):=fun x K=>vX _ _ _ _ [] K;have ei:∀(a:Int) K,yB xN P .eql 3 true (.int .i64 a) (.int .i64 0) K=K (decide (a=0)):=fun a K=>by rw[cmpI,xZ]
 have e0:xN i.kind 0=decide (i.kind=0):=xZ _ _;have fin:∀t,∀b,b=zeroI i→zA t 2 = .bool b→zJ P (loS P 8) 112 k .ret t ⟨[],u,h1,n+1⟩=true:=fun t b hb ht=>zV r112 ht (hk _ _ _ ⟨by rw[hb],x1⟩)
 have hz:∀b:Bool,(b=true↔(i.kind=0∧i.d=0∧i.a=0∧i.b=0∧i.n=0∧i.name=[]∧i.args.length=0∧i.t=0∧i.f=0))→b=zeroI i:=fun b hb=>by
  unfold zeroI
  cases b with
  | true=>exact(decide_eq_true (hb.1 rfl)).symm
  | false=>exact(decide_eq_false (fun h=>Bool.false_ne_true (hb.2 h))).symm
 simp only[↓uK,↓zC,↓f0,↓zD,↓e0,↓zY];by_cases g0:i.kind=0
 case neg=>
  simp only[↓decide_eq_false g0,↓xJ,↓yV,↓zI];exact fin _ false (hz _ (by simp[g0])) rfl
 simp only[↓decide_eq_true g0,↓yS,↓yR,↓tP,↓zC,↓f1,↓zD,↓ei];by_cases g1:i.d=0
 case neg=>
  simp only[↓decide_eq_false g1,↓xJ,↓yV,↓zI];exact fin _ false (hz _ (by simp[g1])) rfl
 simp only[↓decide_eq_true g1,↓zI,↓yS,↓yR,↓uX,↓zC,↓f2,↓zD,↓ei];by_cases g2:i.a=0
 case neg=>
  simp only[↓decide_eq_false g2,↓xJ,↓yV,↓zI];exact fin _ false (hz _ (by simp[g2])) rfl
 simp only[↓decide_eq_true g2,↓zI,↓yS,↓yR,↓fa50_3,↓zC,↓f3,↓zD,↓ei];by_cases g3:i.b=0
 case neg=>
  simp only[↓decide_eq_false g3,↓xJ,↓yV,↓zI];exact fin _ false (hz _ (by simp[g3])) rfl
 simp only[↓decide_eq_true g3,↓zI,↓yS,↓yR,↓fa50_4,↓zC,↓f4,↓zD,↓ei];by_cases g4:i.n=0
 case neg=>
  simp only[↓decide_eq_false g4,↓xJ,↓yV,↓zI];exact fin _ false (hz _ (by simp[g4])) rfl
 simp only[↓decide_eq_true g4,↓zI,↓yS,↓yR,↓tC,↓zC,↓f5,↓ec]
 cases g5:(i.name == []) with
 | false=>
  have g5':i.name≠[]:=fun e=>by rw[e]at g5;simp at g5
  simp only[↓xJ,↓yV,↓zI];exact fin _ false (hz _ (by simp[g5'])) rfl
 | true=>
 have g5':i.name=[]:=by simpa using g5
 simp only[↓zI,↓yS,↓yR,↓vZ,↓zC,↓f6,↓fl,↓zD,↓ei];by_cases g6:((i.args.length:Nat):Int)=0
 case neg=>
  simp only[↓decide_eq_false g6,↓xJ,↓yV,↓zI];exact fin _ false (hz _ ⟨fun h=>(by cases h),fun h=>absurd h.2.2.2.2.2.2.1 (by omega)⟩) rfl
 simp only[↓decide_eq_true g6,↓zI,↓yS,↓yR,↓pN,↓zC,↓f7,↓zD,↓ei];by_cases g7:i.t=0
 case neg=>
  simp only[↓decide_eq_false g7,↓xJ,↓yV,↓zI];exact fin _ false (hz _ (by simp[g7])) rfl
 simp only[↓decide_eq_true g7,↓zI,↓yS,↓yR,↓fa50_8,↓zC,↓f8,↓zD,↓ei];exact fin _ (decide (i.f=0)) (hz _ ⟨fun h=>⟨g0,g1,g2,g3,g4,g5',by omega,g7,of_decide_eq_true h⟩,fun h=>decide_eq_true h.2.2.2.2.2.2.2.2⟩) rfl
def RD(n:Nat)(h:zH)(u:Option yF)(i:Ins)(sv:Value)(t:Fr)(w:W):Prop:=
 zA t 1=ptr n 0∧zA t 2=ptr (n+1) 0∧∃h' sv',w=⟨[],u,h',n+1+1⟩∧Cel h' n 0 (vH (tX i) sv')∧(∃vs,vs.length=9∧Cel h' (n+1) (50+1) vs)∧Ext h n h' (n+1+1)∧((sv'=sv∧(tX i).args=i.args)∨(sv' = .slice none 0 0∧(tX i).args=[]))
theorem rest_rets(i:Ins)(sv:Value)(h:zH)(n:Nat)(hs:sv.oneCell'=true):Rets P 8 113 [.agg ⟨vH i sv⟩] h n fun v h' n'=>Ext h n h' n'∧∃sv',v = .agg ⟨vH (tX i) sv'⟩∧((sv'=sv∧(tX i).args=i.args)∨(sv' = .slice none 0 0∧(tX i).args=[])):=by
 refine zZ zK mixed (hint:=hint113) l113 fun u k hk=>?_;rw [F113_eq];unfold F113;refine tE (tQ hs) fun h1 c1 x1=>?_;refine wZ ze50 fun h2 c2 x2=>?_;have c1':Cel h2 n 0 (vH i sv):=Cel.touch c1 (x2.touch []) (by omega) (by simp);have f0:zE P 3 h2 (ptr n 0)=some (I64 i.kind):=zG c1' sh3 rfl;simp only[↓uK,↓zC,↓f0,↓zD];refine wA c1' sh3 (by simp[vH]) rfl fun h3 c3 k3=>?_;have c3':Cel h3 n 0 (vH { i with kind:=0 } sv):=c3;have x3:Ext h n h3 (n+1+1):=⟨by omega,fun b hb=>by rw[k3 b (by omega),x2.2 b (by omega),x1.2 b hb]⟩;have r3:∃vs,vs.length=9∧Cel h3 (n+1) (50+1) vs:=⟨_,rfl,Cel.keep c2 (k3 _ (by omega))⟩
 have sto:∀{h':zH} {j:Ins} {sw:Value} {off:Nat} {v:Value} {ty:TypeId} {K:KH} (j':Ins) (sw':Value),Cel h' n 0 (vH j sw)→(∃vs,vs.length=9∧Cel h' (n+1) (50+1) vs)→Ext h n h' (n+1+1)→yJ P ty = .scal→off<9→v.oneCell'=true→(vH j sw).set off v=vH j' sw'→
  (∀h'',Cel h'' n 0 (vH j' sw')→(∃vs,vs.length=9∧Cel h'' (n+1) (50+1) vs)→Ext h n h'' (n+1+1)→K h'' (n+1+1) undef=true)→zW P ty (.pointer (some ⟨n,off,none⟩)) v h' (n+1+1) K=true:=by
  intro h' j sw off v ty K j' sw' c r x hs ho hv he hK;refine wA c hs (by show off<9;exact ho) hv fun h'' c'' k''=>?_;obtain⟨vs,r1,r2⟩:=r;exact hK h'' (by rw[← he];exact c'') ⟨vs,r1,r2.keep (k'' _ (by omega))⟩ ⟨x.1,fun b hb=>by rw[k'' b (by omega)];exact x.2 b hb⟩
 refine wG (RD n h u i sv) (fun t w q=>?_) (fun kk hkk=>?_)
 · obtain⟨q1,q2,h',sv',rfl,c,⟨vs,r1,r2⟩,x,hsv⟩:=q;simp only[q1,q2,↓zF];refine zO ?_;refine opt_of (xA c sh50 rfl (by decide)) ?_;have hs':sv'.oneCell'=true:=by rcases hsv with⟨rfl,_⟩|⟨rfl,_⟩;exact hs;rfl
   refine xU r2 sh50 rfl r1 (tQ hs') fun h4 c4 k4=>?_;refine leaveC r113 rfl (xA c4 sh50 rfl (by decide)) (hk _ _ _ ⟨⟨x.1,fun b hb=>by rw[k4 b (by omega)];exact x.2 b hb⟩,sv',rfl,hsv⟩)
 have join:∀{kk:KN},(∀t w,RD n h u i sv t w→kk t w=true)→∀t w,RD n h u i sv t w→∀T:Fr,zA T 1=ptr n 0→zA T 2=ptr (n+1) 0→kk T w=true:=fun hkk t w q T h1 h2=>by
  obtain⟨q1,q2,q3⟩:=q;exact hkk _ _ ⟨h1,h2,q3⟩
 have ib:∀c:Int,xN i.kind c=decide (i.kind=c):=fun c=>xZ _ _;try simp only[↓ib,↓zY]
 refine wO (RD n h u i sv) (fun t w q=>?_) (fun hc kk' hkk'=>?_) (fun hc kk hkk=>?_)
 · obtain⟨q1,q2,h',sv',rfl,q3⟩:=q;simp only[q1,q2,↓zF];refine zO ?_;exact hkk _ _ ⟨rfl,rfl,h',sv',rfl,q3⟩
 · have k1:i.kind=1:=of_decide_eq_true hc;try simp only[↓tP,↓zC]
   refine sto { i with kind:=0,d:=0 } sv c3' r3 x3 sh3 (by decide) rfl rfl fun g0 cc0 rr0 xx0=>?_;try simp only[↓fa50_4,↓zC]
   refine sto { i with kind:=0,d:=0,n:=0 } sv cc0 rr0 xx0 sh3 (by decide) rfl rfl fun g1 cc1 rr1 xx1=>?_;have hR:tX i = { i with kind:=0,d:=0,n:=0 }:=by unfold tX;rw [if_pos k1]
   exact hkk' _ _ ⟨rfl,rfl,g1,sv,rfl,by rw[hR];exact cc1,rr1,xx1,.inl ⟨rfl,by rw[hR]⟩⟩
 have hn0:¬(i.kind=1):=of_decide_eq_false hc;try simp only[↓ib,↓zY]
 refine wO (fun t w=>zA t 1=ptr n 0∧zA t 2=ptr (n+1) 0∧zA t 7=I64 i.kind∧zA t 12 = .bool (decide (i.kind=2∨i.kind=4))∧w=⟨[],u,h3,n+1+1⟩) (fun t w q=>?_) (fun hc kk hkk=>?_) (fun hc kk hkk=>?_)
 rotate_left
 · have k1:i.kind=2:=of_decide_eq_true hc;exact hkk _ _ ⟨rfl,rfl,rfl,by show Value.bool (decide (i.kind=2))=_;rw [hc,decide_eq_true (Or.inl k1)],rfl⟩
 · have k1:¬i.kind=2:=of_decide_eq_false hc;try simp only[↓ib,↓zY]
   refine hkk _ _ ⟨rfl,rfl,rfl,?_,rfl⟩;show Value.bool (decide (i.kind=4))=_;by_cases k2:i.kind=4
   · rw[decide_eq_true k2,decide_eq_true (Or.inr k2)]
   · rw[decide_eq_false k2,decide_eq_false (fun h=>h.elim k1 k2)]
 obtain⟨q1,q2,q7,q12,rfl⟩:=q;simp only[q1,q2,q7,q12,↓zF,↓zD,↓zI];refine zO ?_;refine wO (RD n h u i sv) (fun t w q=>?_) (fun hc kk' hkk'=>?_) (fun hc kk hkk=>?_)
 · obtain⟨q1,q2,h',sv',rfl,q3⟩:=q;simp only[q1,q2,↓zF];refine zO ?_;exact hkk _ _ ⟨rfl,rfl,h',sv',rfl,q3⟩
 · have k1:i.kind=2∨i.kind=4:=of_decide_eq_true hc;try simp only[↓tP,↓zC]
   refine sto { i with kind:=0,d:=0 } sv c3' r3 x3 sh3 (by decide) rfl rfl fun g0 cc0 rr0 xx0=>?_;try simp only[↓uX,↓zC]
   refine sto { i with kind:=0,d:=0,a:=0 } sv cc0 rr0 xx0 sh3 (by decide) rfl rfl fun g1 cc1 rr1 xx1=>?_;have hR:tX i = { i with kind:=0,d:=0,a:=0 }:=by unfold tX;rw [if_neg hn0];rw [if_pos k1]
   exact hkk' _ _ ⟨rfl,rfl,g1,sv,rfl,by rw[hR];exact cc1,rr1,xx1,.inl ⟨rfl,by rw[hR]⟩⟩
 have hn1:¬(i.kind=2∨i.kind=4):=of_decide_eq_false hc;try simp only[↓ib,↓zY]
 refine wO (fun t w=>zA t 1=ptr n 0∧zA t 2=ptr (n+1) 0∧zA t 7=I64 i.kind∧zA t 17 = .bool (decide (i.kind=3∨i.kind=6))∧w=⟨[],u,h3,n+1+1⟩) (fun t w q=>?_) (fun hc kk hkk=>?_) (fun hc kk hkk=>?_)
 rotate_left
 · have k1:i.kind=3:=of_decide_eq_true hc;exact hkk _ _ ⟨rfl,rfl,rfl,by show Value.bool (decide (i.kind=3))=_;rw [hc,decide_eq_true (Or.inl k1)],rfl⟩
 · have k1:¬i.kind=3:=of_decide_eq_false hc;try simp only[↓ib,↓zY]
   refine hkk _ _ ⟨rfl,rfl,rfl,?_,rfl⟩;show Value.bool (decide (i.kind=6))=_;by_cases k2:i.kind=6
   · rw[decide_eq_true k2,decide_eq_true (Or.inr k2)]
   · rw[decide_eq_false k2,decide_eq_false (fun h=>h.elim k1 k2)]
 obtain⟨q1,q2,q7,q17,rfl⟩:=q;simp only[q1,q2,q7,q17,↓zF,↓zD,↓zI];refine zO ?_;refine wO (RD n h u i sv) (fun t w q=>?_) (fun hc kk' hkk'=>?_) (fun hc kk hkk=>?_)
 · obtain⟨q1,q2,h',sv',rfl,q3⟩:=q;simp only[q1,q2,↓zF];refine zO ?_;exact hkk _ _ ⟨rfl,rfl,h',sv',rfl,q3⟩
 · have k1:i.kind=3∨i.kind=6:=of_decide_eq_true hc;try simp only[↓tP,↓zC]
   refine sto { i with kind:=0,d:=0 } sv c3' r3 x3 sh3 (by decide) rfl rfl fun g0 cc0 rr0 xx0=>?_;try simp only[↓tC,↓zC]
   refine sto { i with kind:=0,d:=0,name:=[] } sv cc0 rr0 xx0 sh9 (by decide) rfl rfl fun g1 cc1 rr1 xx1=>?_;try simp only[↓vZ,↓zC]
   refine sto { i with kind:=0,d:=0,name:=[],args:=[] } (.slice none 0 0) cc1 rr1 xx1 sh40 (by decide) rfl rfl fun g2 cc2 rr2 xx2=>?_;have hR:tX i = { i with kind:=0,d:=0,name:=[],args:=[] }:=by unfold tX;rw [if_neg hn0];rw [if_neg hn1];rw [if_pos k1]
   exact hkk' _ _ ⟨rfl,rfl,g2,(.slice none 0 0),rfl,by rw[hR];exact cc2,rr2,xx2,.inr ⟨rfl,by rw[hR]⟩⟩
 have hn2:¬(i.kind=3∨i.kind=6):=of_decide_eq_false hc;try simp only[↓ib,↓zY]
 refine wO (RD n h u i sv) (fun t w q=>?_) (fun hc kk' hkk'=>?_) (fun hc kk hkk=>?_)
 · obtain⟨q1,q2,h',sv',rfl,q3⟩:=q;simp only[q1,q2,↓zF];refine zO ?_;exact hkk _ _ ⟨rfl,rfl,h',sv',rfl,q3⟩
 · have k1:i.kind=5:=of_decide_eq_true hc;try simp only[↓uX,↓zC]
   refine sto { i with kind:=0,a:=0 } sv c3' r3 x3 sh3 (by decide) rfl rfl fun g0 cc0 rr0 xx0=>?_;try simp only[↓fa50_3,↓zC]
   refine sto { i with kind:=0,a:=0,b:=0 } sv cc0 rr0 xx0 sh3 (by decide) rfl rfl fun g1 cc1 rr1 xx1=>?_;have hR:tX i = { i with kind:=0,a:=0,b:=0 }:=by unfold tX;rw [if_neg hn0];rw [if_neg hn1];rw [if_neg hn2];rw [if_pos k1]
   exact hkk' _ _ ⟨rfl,rfl,g1,sv,rfl,by rw[hR];exact cc1,rr1,xx1,.inl ⟨rfl,by rw[hR]⟩⟩
 have hn3:¬(i.kind=5):=of_decide_eq_false hc;try simp only[↓ib,↓zY]
 refine wO (RD n h u i sv) (fun t w q=>?_) (fun hc kk' hkk'=>?_) (fun hc kk hkk=>?_)
 · obtain⟨q1,q2,h',sv',rfl,q3⟩:=q;simp only[q1,q2,↓zF];refine zO ?_;exact hkk _ _ ⟨rfl,rfl,h',sv',rfl,q3⟩
 · have k1:i.kind=7:=of_decide_eq_true hc;try simp only[↓uX,↓zC]
   refine sto { i with kind:=0,a:=0 } sv c3' r3 x3 sh3 (by decide) rfl rfl fun g0 cc0 rr0 xx0=>?_;try simp only[↓pN,↓zC]
   refine sto { i with kind:=0,a:=0,t:=0 } sv cc0 rr0 xx0 sh3 (by decide) rfl rfl fun g1 cc1 rr1 xx1=>?_;try simp only[↓fa50_8,↓zC]
   refine sto { i with kind:=0,a:=0,t:=0,f:=0 } sv cc1 rr1 xx1 sh3 (by decide) rfl rfl fun g2 cc2 rr2 xx2=>?_;have hR:tX i = { i with kind:=0,a:=0,t:=0,f:=0 }:=by unfold tX;rw [if_neg hn0];rw [if_neg hn1];rw [if_neg hn2];rw [if_neg hn3];rw [if_pos k1]
   exact hkk' _ _ ⟨rfl,rfl,g2,sv,rfl,by rw[hR];exact cc2,rr2,xx2,.inl ⟨rfl,by rw[hR]⟩⟩
 have hn4:¬(i.kind=7):=of_decide_eq_false hc;try simp only[↓ib,↓zY]
 refine wO (RD n h u i sv) (fun t w q=>?_) (fun hc kk' hkk'=>?_) (fun hc kk hkk=>?_)
 · obtain⟨q1,q2,h',sv',rfl,q3⟩:=q;simp only[q1,q2,↓zF];refine zO ?_;exact hkk _ _ ⟨rfl,rfl,h',sv',rfl,q3⟩
 · have k1:i.kind=8:=of_decide_eq_true hc;try simp only[↓pN,↓zC]
   refine sto { i with kind:=0,t:=0 } sv c3' r3 x3 sh3 (by decide) rfl rfl fun g0 cc0 rr0 xx0=>?_;have hR:tX i = { i with kind:=0,t:=0 }:=by unfold tX;rw [if_neg hn0];rw [if_neg hn1];rw [if_neg hn2];rw [if_neg hn3];rw [if_neg hn4];rw [if_pos k1]
   exact hkk' _ _ ⟨rfl,rfl,g0,sv,rfl,by rw[hR];exact cc0,rr0,xx0,.inl ⟨rfl,by rw[hR]⟩⟩
 have hn5:¬(i.kind=8):=of_decide_eq_false hc;try simp only[↓ib,↓zY]
 refine wO (RD n h u i sv) (fun t w q=>?_) (fun hc kk' hkk'=>?_) (fun hc kk hkk=>?_)
 · obtain⟨q1,q2,h',sv',rfl,q3⟩:=q;simp only[q1,q2,↓zF];refine zO ?_;exact hkk _ _ ⟨rfl,rfl,h',sv',rfl,q3⟩
 · have k1:i.kind=9:=of_decide_eq_true hc;try simp only[↓uX,↓zC]
   refine sto { i with kind:=0,a:=0 } sv c3' r3 x3 sh3 (by decide) rfl rfl fun g0 cc0 rr0 xx0=>?_;have hR:tX i = { i with kind:=0,a:=0 }:=by unfold tX;rw [if_neg hn0];rw [if_neg hn1];rw [if_neg hn2];rw [if_neg hn3];rw [if_neg hn4];rw [if_neg hn5];rw [if_pos k1]
   exact hkk' _ _ ⟨rfl,rfl,g0,sv,rfl,by rw[hR];exact cc0,rr0,xx0,.inl ⟨rfl,by rw[hR]⟩⟩
 have hn6:¬(i.kind=9):=of_decide_eq_false hc;have hR:tX i = { i with kind:=0 }:=by unfold tX;rw [if_neg hn0];rw [if_neg hn1];rw [if_neg hn2];rw [if_neg hn3];rw [if_neg hn4];rw [if_neg hn5];rw [if_neg hn6]
 exact hkk _ _ ⟨rfl,rfl,h3,sv,rfl,by rw[hR];exact c3',r3,x3,.inl ⟨rfl,by rw[hR]⟩⟩
theorem max_two(a:Int)(h:zH):zX P .max [3,3] [.int .i64 0,.int .i64 a] h=some (I64 (max 0 a)):=by
 show some (Value.int .i64 (cond (wB 0 a) a 0))=some (I64 (max 0 a));rw [zT];by_cases g:0<a
 · rw[decide_eq_true g,show max 0 a=a by omega];rfl
 · rw[decide_eq_false g,show max 0 a=0 by omega];rfl
theorem plainIns_pure(i:Ins)(sv:Value)(h:zH)(n:Nat)(hr:Row n h sv 3 1 i.args.length (i.args.map I64))(hd: -9223372036854775808≤i.d∧i.d≤9223372036854775807)(hal:i.args.length<100000):pA P 8 60 [.agg ⟨vH i sv⟩] h n (.bool (wL i)):=by
  refine Rets.pureE (zZ zK mixed (hint:=hint60) l60 fun u k hk=>?_) (.inl rfl);rw [F60_eq];unfold F60;refine tE (tQ hr.one) fun h1 c1 x1=>?_;have LD:∀{h':zH} {n':Nat},Ext h1 (n+1) h' n'→Cel h' n 0 (vH i sv):=fun x=>Cel.touch c1 (x.touch []) (by omega) (by simp);have LR:∀{h':zH} {n':Nat},Ext h1 (n+1) h' n'→Row n' h' sv 3 1 i.args.length (i.args.map I64):=fun x=>(hr.ext x1).ext x;have x0:Ext h1 (n+1) h1 (n+1):=Ext.refl _ _;have fin:∀{h':zH} {n':Nat} (x:Ext h1 (n+1) h' n') (t:Fr) (b:Bool),b=wL i→zA t 2 = .bool b→zJ P (loS P 8) 60 k .ret t ⟨[],u,h',n'⟩=true:=fun x t b hb ht=>zV r60 ht (hk _ _ _ ⟨by rw[hb],x1.trans x⟩);have f0:zE P 3 h1 (ptr n 0)=some (I64 i.kind):=zG (LD x0) sh3 rfl;simp only[↓uK,↓zC,↓f0,↓zD];by_cases g1:i.kind<1
  · have e1:wB i.kind 1=true:=by rw[zT];exact decide_eq_true g1
    simp only[↓e1,↓zY,↓rM,↓xJ,↓yR,↓zI,↓wP];exact fin x0 _ false (by unfold wL;rw [decide_eq_false (show ¬1≤i.kind by omega)];simp) rfl
  have e1:wB i.kind 1=false:=by rw[zT];exact decide_eq_false g1
  have cg:∀(a b:Int) K,yB igtB P .gtr 3 true (.int .i64 a) (.int .i64 b) K=K (decide (b<a)):=fun a b K=>by rw[cmpI,igtB_ap]
  have cl:∀(a b:Int) K,yB wB P .lss 3 true (.int .i64 a) (.int .i64 b) K=K (decide (a<b)):=fun a b K=>by rw[cmpI,zT]
  simp only[↓e1,↓zY,↓sR,↓yS,↓yV,↓uK,↓zC,↓f0,↓zD,↓cg];by_cases g2:9<i.kind
  · simp only[↓decide_eq_true g2,↓zY,↓rM,↓xJ,↓yR,↓zI,↓wP];exact fin x0 _ false (by unfold wL;rw [decide_eq_false (show ¬i.kind≤9 by omega)];simp) rfl
  have fA:zE P 50 h1 (ptr n 0)=some (.agg ⟨vH i sv⟩):=xA (LD x0) sh50 rfl (by decide);simp only[↓decide_eq_false g2,↓zI,↓sR,↓yS,↓yV,↓fA,↓zC];refine uT (rest_rets i sv h1 (n+1) hr.one) fun v h2 n2 ⟨x2,sv',e2,hsv⟩=>?_;subst e2
  have hr2:Row n2 h2 sv' 3 1 (tX i).args.length ((tX i).args.map I64):=by
    rcases hsv with⟨rfl,ha⟩|⟨rfl,ha⟩
    · rw[ha];exact LR x2
    · rw[ha];exact .inl ⟨rfl,rfl,rfl⟩
  refine zU (zero_pure (tX i) sv' h2 n2 hr2) ?_;try simp only[↓xD,↓zC,↓zI]
  cases g3:zeroI (tX i) with
  | false =>
    simp only[↓Bool.not_false,↓zY,↓rM,↓xJ,↓yR,↓zI,↓wP];exact fin x2 _ false (by unfold wL;rw [g3];simp) rfl
  | true=>
  have f2:zE P 3 h2 (.pointer (some ⟨n,2,none⟩))=some (I64 i.a):=zG (LD x2) sh3 rfl;have f3:zE P 3 h2 (.pointer (some ⟨n,3,none⟩))=some (I64 i.b):=zG (LD x2) sh3 rfl;have f7:zE P 3 h2 (.pointer (some ⟨n,7,none⟩))=some (I64 i.t):=zG (LD x2) sh3 rfl;have f8:zE P 3 h2 (.pointer (some ⟨n,8,none⟩))=some (I64 i.f):=zG (LD x2) sh3 rfl;simp only[↓Bool.not_true,↓sR,↓yS,↓yV,↓uX,↓fa50_3,↓pN,↓fa50_8,↓zC,↓f2,↓f3,↓f7,↓f8,↓zD];have z3:xP P 40 4 [(0,.int .i64 i.a),(1,.int .i64 i.b),(2,.int .i64 i.t),(3,.int .i64 i.f)]=some (tM ([i.a,i.b,i.t,i.f].map I64) 0):=by kernel_rfl
  refine rB (e:=3) (sz:=1) z3 rfl (by unfold inf;omega) fun h3 c3 x3'=>?_;have x3:=x2.trans x3';refine zU (rO [i.a,i.b,i.t,i.f] _ h3 (n2+1) c3 (by simp)) ?_;try simp only[↓xD,↓zC,↓zI]
  cases g4:[i.a,i.b,i.t,i.f].all xS with
  | false =>
    simp only[↓Bool.not_false,↓zY,↓rM,↓xJ,↓yR,↓zI,↓wP];exact fin x3 _ false (by unfold wL;rw [g4];simp) rfl
  | true=>
  have f6:zE P 40 h3 (.pointer (some ⟨n,6,none⟩))=some sv:=zG (LD x3) sh40 rfl;have fl:=yX (P:=P) us40 (LR x3) [] h3;simp only[↓Bool.not_true,↓sR,↓yS,↓yV,↓vZ,↓zC,↓f6];refine zU (rO i.args sv h3 (n2+1) (LR x3) hal) ?_;try simp only[↓xD,↓zC,↓zI]
  cases g5:i.args.all xS with
  | false =>
    simp only[↓Bool.not_false,↓zY,↓rM,↓xJ,↓yR,↓zI,↓wP];exact fin x3 _ false (by unfold wL;rw [g5];simp) rfl
  | true=>
  simp only[↓Bool.not_true,↓sR,↓yS,↓yV,↓vZ,↓zC,↓f6,↓fl,↓zD,↓cg];by_cases g6:(16:Int)<(i.args.length:Nat)
  · simp only[↓decide_eq_true g6,↓zI,↓wP];exact fin x3 _ false (by unfold wL;rw [decide_eq_false (show ¬i.args.length≤16 by omega)];simp) rfl
  have hp:wL i=(if i.kind=3 then named i.name && !wordB i.name && decide (1≤i.args.length) && decide (i.args.length≤2) && xS i.d
   else if i.kind=6 then named i.name && (decide (i.d = -1) || xS i.d) else xS i.d):=by
    unfold wL;rw [g3,g4,g5,decide_eq_true (show 1≤i.kind by omega),decide_eq_true (show i.kind≤9 by omega),decide_eq_true (show i.args.length≤16 by omega)];simp
  have f1:zE P 3 h3 (.pointer (some ⟨n,1,none⟩))=some (I64 i.d):=zG (LD x3) sh3 rfl;have f0':zE P 3 h3 (ptr n 0)=some (I64 i.kind):=zG (LD x3) sh3 rfl;have f5:zE P 9 h3 (.pointer (some ⟨n,5,none⟩))=some (str i.name):=zG (LD x3) sh9 rfl;simp only[↓decide_eq_false g6,↓zI,↓wT,↓uK,↓tP,↓zC,↓f1,↓f0',↓zD];refine wG (fun t w=>zA t 3=I64 i.d∧w=⟨[],u,h3,n2+1⟩∧wL i=xS i.d) (fun t w q=>?_) (fun kk hkk=>?_)
  · obtain⟨q3,rfl,hq⟩:=q;simp only[q3,↓zD];refine zO ?_;refine tI on40 (v:=I64 i.d) rfl fun h4 c4 x4=>?_;refine zU (rO [i.d] _ h4 _ c4 (by simp)) ?_;exact fin (x3.trans x4) _ _ (by rw[hq];simp) rfl
  have ib:∀c:Int,xN i.kind c=decide (i.kind=c):=fun c=>xZ _ _;simp only[↓ib,↓zY];refine wO (fun t w=>zA t 3=I64 i.d∧w=⟨[],u,h3,n2+1⟩∧wL i=xS i.d) (fun t w q=>?_) (fun hc kk' hkk'=>?_) (fun hc kk hkk=>?_)
  · obtain⟨q3,rfl,hq⟩:=q;simp only[q3,↓zD];refine zO ?_;exact hkk _ _ ⟨rfl,rfl,hq⟩
  · have k3:i.kind=3:=of_decide_eq_true hc;rw [if_pos k3]at hp;simp only[↓tC,↓vZ,↓zC,↓f5,↓f6];refine zU (qT i.name h3 (n2+1)) ?_;try simp only[↓xD,↓zC,↓zI]
    cases n3:named i.name with
    | false =>
      simp only[↓Bool.not_false,↓rM,↓xJ,↓yR,↓zI,↓wP];exact fin x3 _ false (by rw[hp,n3];simp) rfl
    | true=>
    simp only[↓Bool.not_true,↓sR,↓yS,↓yV,↓tC,↓zC,↓f5];refine zU (word_pure i.name h3 (n2+1)) ?_
    cases n4:wordB i.name with
    | true =>
      simp only[↓zI,↓rM,↓xJ,↓yR,↓wP];exact fin x3 _ false (by rw[hp,n4];simp) rfl
    | false=>
    simp only[↓zI,↓sR,↓yS,↓yV,↓vZ,↓zC,↓f6,↓fl,↓zD,↓cl];by_cases n5:((i.args.length:Nat):Int)<1
    · simp only[↓decide_eq_true n5,↓zI,↓rM,↓xJ,↓yR,↓wP];exact fin x3 _ false (by rw[hp,decide_eq_false (show ¬1≤i.args.length by omega)];simp) rfl
    simp only[↓decide_eq_false n5,↓zI,↓sR,↓yS,↓yV,↓vZ,↓zC,↓f6,↓fl,↓zD,↓cg];by_cases n6:(2:Int)<((i.args.length:Nat):Int)
    · simp only[↓decide_eq_true n6,↓zI,↓wP];exact fin x3 _ false (by rw[hp,decide_eq_false (show ¬i.args.length≤2 by omega)];simp) rfl
    simp only[↓decide_eq_false n6,↓zI,↓wT];exact hkk' _ _ ⟨rfl,rfl,by rw[hp,n3,n4,decide_eq_true (show 1≤i.args.length by omega),decide_eq_true (show i.args.length≤2 by omega)];simp⟩
  · have k3:¬i.kind=3:=of_decide_eq_false hc;rw [if_neg k3]at hp;try simp only[↓ib,↓zY]
    by_cases k6:i.kind=6
    · rw[if_pos k6]at hp;simp only[↓decide_eq_true k6,↓wP,↓tC,↓zC,↓f5];refine zU (qT i.name h3 (n2+1)) ?_;try simp only[↓xD,↓zC,↓zI]
      cases n3:named i.name with
      | false =>
        simp only[↓Bool.not_false,↓wP];exact fin x3 _ false (by rw[hp,n3];simp) rfl
      | true=>
      rw[n3]at hp;simp only[↓Bool.not_true,↓wT];have ib1:xN i.d (-1)=decide (i.d = -1):=xZ _ _;have go:∀d':Int,(d'=i.d∨(d' = -1∧xS i.d=false∧i.d≠-1)∨i.d = -1)→∀(T:Bool→Value→Value→Value→Value→Bool→Fr),(∀a b c d e f,zA (T a b c d e f) 2 = .bool f)→True:=fun _ _ _ _=>trivial;by_cases m1:i.d=9223372036854775807
      · have ew:IntKind.i64.wrap (i.d+1) = -9223372036854775808:=by rw[m1];decide
        rw[fi_eq,iadd_eq,tN,ew];simp only[↓max_two,↓zC,↓zD];refine fi_sub (by omega) ?_;simp only[↓tP,↓zC,↓f1,↓zD,↓ib1,↓zY];have m2:¬i.d = -1:=by omega
        simp only[↓decide_eq_false m2,↓sR,↓yS,↓yV];refine tI on40 (v:=I64 _) rfl fun h4 c4 x4=>?_;refine zU (rO [max 0 (-9223372036854775808) - 1] _ h4 _ c4 (by simp)) ?_;simp only[↓zI];refine fin (x3.trans x4) _ _ ?_ rfl;rw [hp,m1];decide
      · refine vT (by omega) ?_;simp only[↓max_two,↓zC,↓zD];refine fi_sub (by omega) ?_;simp only[↓tP,↓zC,↓f1,↓zD,↓ib1,↓zY];by_cases m2:i.d = -1
        · simp only[↓decide_eq_true m2,↓rM,↓xJ,↓yR,↓zI];exact fin x3 _ true (by rw[hp,decide_eq_true m2];rfl) rfl
        · simp only[↓decide_eq_false m2,↓sR,↓yS,↓yV];refine tI on40 (v:=I64 _) rfl fun h4 c4 x4=>?_;refine zU (rO [max 0 (i.d+1) - 1] _ h4 _ c4 (by simp)) ?_;simp only[↓zI];refine fin (x3.trans x4) _ _ ?_ rfl;rw [hp,decide_eq_false m2];simp only[List.all_cons,List.all_nil,Bool.and_true,Bool.true_and,Bool.false_or];unfold xS;by_cases m3:0≤i.d
          · have:max 0 (i.d+1) - 1=i.d:=by omega
            rw[this]
          · rw[decide_eq_false (by omega),decide_eq_false (by omega)]
    · rw[if_neg k6]at hp;simp only[↓decide_eq_false k6,↓wT];exact hkk _ _ ⟨rfl,rfl,hp⟩
theorem uD(ns:List Tx)(cv sv:Value)(h:zH)(n:Nat)(u:Option yF)(ka:KX)(hr:Row n h sv 9 1 ns.length (ns.map str))(hlen:ns.length<1000000):∀(m i:Nat),m+i=ns.length→∀acc t,zA t 1=cv→zA t 3 = .bool acc→zA t 42=sv→zA t 43=I64 (ns.length:Nat)→zA t 44=I64 (i:Nat)→
 (∀t',zA t' 1=cv→zA t' 3 = .bool (acc && (ns.drop i).all named)→ka (.exit 0) t' ⟨[],u,h,n⟩=true)→
 lpS P 8 1000003 ⟨20,none,false⟩ t ⟨[],u,h,n⟩ ka=true:=by
 intro m
 induction m with
 | zero=>
  intro i hi acc t t1 t3 t42 t43 t44 hE;refine yK zK mixed (hint:=hint20) l20 lp20_1000003 ?_;rw [B20_1000003_eq];unfold B20_1000003;rw [t1,t3,t42,t43,t44];have e3:wB (i:Nat) (ns.length:Nat)=false:=by rw[zT];exact decide_eq_false (by omega)
  simp only[↓zF,↓zI,↓zD];refine zO ?_;simp only[↓e3,↓zY,↓wT];refine hE _ rfl ?_;rw [List.drop_eq_nil_of_le (by omega),List.all_nil,Bool.and_true];rfl
 | succ m ih=>
  intro i hi acc t t1 t3 t42 t43 t44 hE;have hlt:i<ns.length:=by omega
  have hd:ns.drop i=ns[i]::ns.drop (i+1):=List.drop_eq_getElem_cons hlt;obtain⟨q,q1,q2⟩:=xG (P:=P) (k:=.i64) hr ix23 (tl:=9) sh9 (i:=i) (x:=str ns[i]) (by rw[List.getElem?_map,List.getElem?_eq_getElem hlt];rfl);generalize ns[i]=y at hd q2
  have ea:(acc && (y::ns.drop (i+1)).all named)=((acc && named y) && (ns.drop (i+1)).all named):=by rw[List.all_cons,Bool.and_assoc]
  rw[hd,ea]at hE;refine yK zK mixed (hint:=hint20) l20 lp20_1000003 ?_;rw [B20_1000003_eq];unfold B20_1000003;rw [t1,t3,t42,t43,t44];have e3:wB (i:Nat) (ns.length:Nat)=true:=by rw[zT];exact decide_eq_true (by omega)
  simp only[↓zF,↓zI,↓zD];refine zO ?_;simp only[↓e3,↓zY,↓wP];refine wG (fun t w=>zA t 1=cv∧zA t 3 = .bool (acc && named y)∧zA t 42=sv∧zA t 43=I64 (ns.length:Nat)∧zA t 44=I64 (i:Nat)∧w=⟨[],u,h,n⟩) (fun t w q=>?_) (fun kk hkk=>?_)
  · obtain⟨p1,p3,p42,p43,p44,rfl⟩:=q;simp only[p1,p3,p42,p43,p44,↓zF,↓zI,↓zD];refine zO ?_;refine vT (by omega) ?_;exact ih (i+1) (by omega) _ _ rfl rfl rfl rfl rfl hE
  · simp only[↓q1,↓q2,↓zC]
    cases acc with
    | false=>
     simp only[↓xJ,↓yV,↓zI];exact hkk _ _ ⟨rfl,rfl,rfl,rfl,rfl,rfl⟩
    | true=>
     simp only[↓yS];refine zU (qT y h n) ?_;simp only[↓yR,↓zI];exact hkk _ _ ⟨rfl,rfl,rfl,rfl,rfl,rfl⟩
def InsFit(i:Ins):Prop:=(-9223372036854775808≤i.d∧i.d≤9223372036854775807)∧i.args.length<100000
theorem rP{l:List Ins}:∀{av:List Value} (h:av.length=l.length) {j:Nat} {i:Ins} {a:Value} (hi:l[j]? = some i) (ha:av[j]? = some a),((qE l av).drop (j*9)).take 9=vH i a:=by
 induction l with
 | nil=>intro av h j i a hi;simp at hi
 | cons x r ih =>
  intro av h j i a hi ha
  cases av with
  | nil=>simp at h
  | cons y s =>
   have e:qE (x::r) (y::s)=vH x y++qE r s:=by unfold qE;rw [List.zip_cons_cons,List.flatMap_cons]
   have el:(vH x y).length=9:=rfl;rw [e]
   cases j with
   | zero=>
    simp only[List.getElem?_cons_zero,Option.some.injEq]at hi ha;subst hi;subst ha;rw [Nat.zero_mul,List.drop_zero,← el,List.take_left]
   | succ j=>
    simp only[List.getElem?_cons_succ]at hi ha;have:(j+1)*9=(vH x y).length+j*9:=by rw[el];omega
    rw[this,List.drop_append,List.drop_eq_nil_of_le (by omega),List.nil_append,Nat.add_sub_cancel_left];exact ih (by simpa using h) hi ha
theorem plainBlk_loop(l:List Ins)(bv v:Value)(bl bi:Int)(hfit:∀i∈l,InsFit i)(hlen:l.length<1000000)(u:Option yF)(ka:KX):∀(m i:Nat),m+i=l.length→∀acc t (h:zH) (n:Nat),BlkRO [] n h v l→zA t 3 = .bool acc→zA t 55=bv→zA t 56=I64 bl→zA t 57=I64 bi→zA t 67=v→zA t 68=I64 (l.length:Nat)→zA t 69=I64 (i:Nat)→
 (∀t' h' n',Ext h n h' n'→zA t' 3 = .bool (acc && (l.drop i).all wL)→zA t' 55=bv→zA t' 56=I64 bl→zA t' 57=I64 bi→ka (.exit 4) t' ⟨[],u,h',n'⟩=true)→
 ((acc && (l.drop i).all wL)=false→∀t' h' n',Ext h n h' n'→zA t' 2 = .bool false→ka .ret t' ⟨[],u,h',n'⟩=true)→
 lpS P 8 1000012 ⟨20,none,false⟩ t ⟨[],u,h,n⟩ ka=true:=by
 intro m
 induction m with
 | zero=>
  intro i hi acc t h n hb t3 t55 t56 t57 t67 t68 t69 hE hR;refine yK zK mixed (hint:=hint20) l20 lp20_1000012 ?_;rw [B20_1000012_eq];unfold B20_1000012;rw [t3,t55,t56,t57,t67,t68,t69];have e3:wB (i:Nat) (l.length:Nat)=false:=by rw[zT];exact decide_eq_false (by omega)
  simp only[↓zF,↓zI,↓zD];refine zO ?_;simp only[↓e3,↓zY,↓wT];refine hE _ h n (Ext.refl _ _) ?_ rfl rfl rfl;rw [List.drop_eq_nil_of_le (by omega),List.all_nil,Bool.and_true];rfl
 | succ m ih=>
  intro i hi acc t h n hb t3 t55 t56 t57 t67 t68 t69 hE hR;have hlt:i<l.length:=by omega
  have hd:l.drop i=l[i]::l.drop (i+1):=List.drop_eq_getElem_cons hlt;obtain⟨av,⟨ha1,ha2⟩,hr⟩:=id hb;have hlt2:i<av.length:=by omega
  have hg:l[i]? = some l[i]:=List.getElem?_eq_getElem hlt;have hga:av[i]? = some av[i]:=List.getElem?_eq_getElem hlt2;have hfl:=rP ha1 hg hga;have hra:=(ha2 i _ _ hg hga).1;obtain⟨q,q1,q2⟩:=tL (P:=P) (k:=.i64) hr.1 ix51 (tl:=50) sh50 (by decide) hlt;rw [hfl]at q2;have hfi:=hfit _ (List.getElem_mem hlt);generalize l[i]=y at hd q2 hra hfi
  generalize av[i]=sv at q2 hra
  have ea:(acc && (y::l.drop (i+1)).all wL)=((acc && wL y) && (l.drop (i+1)).all wL):=by rw[List.all_cons,Bool.and_assoc]
  rw[hd,ea]at hE hR;refine yK zK mixed (hint:=hint20) l20 lp20_1000012 ?_;rw [B20_1000012_eq];unfold B20_1000012;rw [t3,t55,t56,t57,t67,t68,t69];have e3:wB (i:Nat) (l.length:Nat)=true:=by rw[zT];exact decide_eq_true (by omega)
  simp only[↓zF,↓zI,↓zD];refine zO ?_;simp only[↓e3,↓zY,↓wP];refine wG (fun t w=>zA t 3 = .bool true∧(acc && wL y)=true∧zA t 55=bv∧zA t 56=I64 bl∧zA t 57=I64 bi∧zA t 67=v∧zA t 68=I64 (l.length:Nat)∧zA t 69=I64 (i:Nat)∧∃h' n',w=⟨[],u,h',n'⟩∧Ext h n h' n') (fun t w q=>?_) (fun kk hkk=>?_)
  · obtain⟨p3,pp,p55,p56,p57,p67,p68,p69,h',n',rfl,x⟩:=q;rw [pp]at hE hR;simp only[p3,p55,p56,p57,p67,p68,p69,↓zF,↓zI,↓zD];refine zO ?_;refine vT (by omega) ?_;exact ih (i+1) (by omega) true _ h' n' (hb.ext x) rfl rfl rfl rfl rfl rfl rfl (fun t' h2 n2 x2=>hE t' h2 n2 (x.trans x2)) (fun hf t' h2 n2 x2=>hR hf t' h2 n2 (x.trans x2))
  · simp only[↓q1,↓q2,↓zC];refine wZ ze50 fun h1 c1 x1=>?_;refine xU c1 sh50 rfl rfl (tQ hra.one) fun h2 c2 k2=>?_;have x2:Ext h n h2 (n+1):=⟨by omega,fun b hb=>(k2 b (by omega)).trans (x1.2 b hb)⟩
    cases acc with
    | false=>
     simp only[↓xJ,↓yV,↓zI,↓xD,↓Bool.not_false,↓zC,↓wP];exact hR rfl _ h2 _ x2 rfl
    | true =>
     have fA:zE P 50 h2 (.pointer (some ⟨n,0,none⟩))=some (.agg ⟨vH y sv⟩):=xA c2 sh50 rfl (by decide);simp only[↓yS,↓fA,↓zC];refine zU (plainIns_pure y sv h2 (n+1) (hra.ext x2) hfi.1 hfi.2) ?_
     cases hp:wL y with
     | false=>
      rw[hp]at hR;simp only[↓yR,↓zI,↓xD,↓Bool.not_false,↓zC,↓wP];exact hR rfl _ h2 _ x2 rfl
     | true=>
      simp only[↓yR,↓zI,↓xD,↓Bool.not_true,↓zC,↓wT];exact hkk _ _ ⟨rfl,by rw[hp];rfl,rfl,rfl,rfl,rfl,rfl,rfl,h2,_,rfl,x2⟩
def plainB(b:List Ins):Bool:=decide (b.length≤400) && b.all wL
def BlksRow(n:Nat)(h:zH)(bv:Value)(bs:List (List Ins))(svs:List Value):Prop:=
 Row n h bv 51 1 bs.length svs∧svs.length=bs.length∧∀(k:Nat) (l:List Ins) (v:Value),bs[k]? = some l→svs[k]? = some v→BlkRO [] n h v l
theorem BlksRow.ext{n n':Nat}{h h':zH}{bv:Value}{bs:List (List Ins)}{svs:List Value}(r:BlksRow n h bv bs svs)(x:Ext h n h' n'):BlksRow n' h' bv bs svs:=
 ⟨r.1.ext x,r.2.1,fun k l v h1 h2=>(r.2.2 k l v h1 h2).ext x⟩
theorem uQ(bs:List (List Ins))(bv:Value)(svs:List Value)(hfit:∀b∈bs,b.length<1000000∧∀i∈b,InsFit i)(hlen:bs.length<1000000)(u:Option yF)(ka:KX):∀(m i:Nat),m+i=bs.length→∀acc t (h:zH) (n:Nat),BlksRow n h bv bs svs→zA t 3 = .bool acc→zA t 55=bv→zA t 56=I64 (bs.length:Nat)→zA t 57=I64 (i:Nat)→
 (∀t' h' n',Ext h n h' n'→zA t' 3 = .bool (acc && (bs.drop i).all plainB)→ka (.exit 2) t' ⟨[],u,h',n'⟩=true)→
 ((acc && (bs.drop i).all plainB)=false→∀t' h' n',Ext h n h' n'→zA t' 2 = .bool false→ka .ret t' ⟨[],u,h',n'⟩=true)→
 lpS P 8 1000008 ⟨20,none,false⟩ t ⟨[],u,h,n⟩ ka=true:=by
 intro m
 induction m with
 | zero=>
  intro i hi acc t h n hb t3 t55 t56 t57 hE hR;refine yK zK mixed (hint:=hint20) l20 lp20_1000008 ?_;rw [B20_1000008_eq];unfold B20_1000008;rw [t3,t55,t56,t57];have e3:wB (i:Nat) (bs.length:Nat)=false:=by rw[zT];exact decide_eq_false (by omega)
  simp only[↓zF,↓zI,↓zD];refine zO ?_;simp only[↓e3,↓zY,↓wT];refine hE _ h n (Ext.refl _ _) ?_;rw [List.drop_eq_nil_of_le (by omega),List.all_nil,Bool.and_true];rfl
 | succ m ih=>
  intro i hi acc t h n hb t3 t55 t56 t57 hE hR;have hlt:i<bs.length:=by omega
  have hd:bs.drop i=bs[i]::bs.drop (i+1):=List.drop_eq_getElem_cons hlt;have hsl:=hb.2.1;have hlt2:i<svs.length:=by omega
  have hg:bs[i]? = some bs[i]:=List.getElem?_eq_getElem hlt;have hgs:svs[i]? = some svs[i]:=List.getElem?_eq_getElem hlt2;have hk:=hb.2.2 i _ _ hg hgs;have hfi:=hfit _ (List.getElem_mem hlt);obtain⟨q,q1,q2⟩:=xG (P:=P) (k:=.i64) hb.1 ix41 (tl:=51) sh51 hgs;generalize bs[i]=y at hd hk hfi
  generalize svs[i]=v at q2 hk hgs
  have ea:(acc && (y::bs.drop (i+1)).all plainB)=((acc && plainB y) && (bs.drop (i+1)).all plainB):=by rw[List.all_cons,Bool.and_assoc]
  rw[hd,ea]at hE hR;obtain⟨av,_,hr⟩:=id hk;have fl:=yX (P:=P) us51 hr.1 [] h;refine yK zK mixed (hint:=hint20) l20 lp20_1000008 ?_;rw [B20_1000008_eq];unfold B20_1000008;rw [t3,t55,t56,t57];have e3:wB (i:Nat) (bs.length:Nat)=true:=by rw[zT];exact decide_eq_true (by omega)
  have cle:∀(a b:Int) K,yB sQ P .leq 3 true (.int .i64 a) (.int .i64 b) K=K (decide (a≤b)):=fun a b K=>by rw[cmpI,vW]
  simp only[↓zF,↓zI,↓zD];refine zO ?_;simp only[↓e3,↓zY,↓wP];refine wG (fun t w=>∃h' n',w=⟨[],u,h',n'⟩∧Ext h n h' n'∧zA t 3 = .bool (acc && plainB y)∧zA t 55=bv∧zA t 56=I64 (bs.length:Nat)∧zA t 57=I64 (i:Nat)) (fun t w q=>?_) (fun kk hkk=>?_)
  · obtain⟨h',n',rfl,x,p3,p55,p56,p57⟩:=q;simp only[p3,p55,p56,p57,↓zF,↓zI,↓zD];refine zO ?_;refine vT (by omega) ?_;exact ih (i+1) (by omega) _ _ h' n' (hb.ext x) rfl rfl rfl rfl (fun t' h2 n2 x2=>hE t' h2 n2 (x.trans x2)) (fun hf t' h2 n2 x2=>hR hf t' h2 n2 (x.trans x2))
  · simp only[↓q1,↓q2,↓zC]
    have tail:∀(T:Fr) (K:KX),zA T 3 = .bool (acc && decide (y.length≤400))→zA T 55=bv→zA T 56=I64 (bs.length:Nat)→zA T 57=I64 (i:Nat)→zA T 67=v→zA T 68=I64 (y.length:Nat)→zA T 69=I64 0→
     (∀t' h' n',Ext h n h' n'→zA t' 3 = .bool (acc && plainB y)→zA t' 55=bv→zA t' 56=I64 (bs.length:Nat)→zA t' 57=I64 (i:Nat)→K (.exit 4) t' ⟨[],u,h',n'⟩=true)→
     ((acc && plainB y)=false→∀t' h' n',Ext h n h' n'→zA t' 2 = .bool false→K .ret t' ⟨[],u,h',n'⟩=true)→
     lpS P 8 1000012 ⟨20,none,false⟩ T ⟨[],u,h,n⟩ K=true:=fun T K p3 p55 p56 p57 p67 p68 p69 gE gR=>by
     have e2:(acc && plainB y)=((acc && decide (y.length≤400)) && y.all wL):=by unfold plainB;rw [Bool.and_assoc]
     rw[e2]at gE gR;exact plainBlk_loop y bv v _ _ hfi.2 hfi.1 u K y.length 0 (Nat.add_zero _) _ T h n hk p3 p55 p56 p57 p67 p68 p69 gE gR
    cases acc with
    | false=>
     simp only[↓xJ,↓yV,↓zI,↓fl,↓zC,↓zD];refine tail _ _ rfl rfl rfl rfl rfl rfl rfl (fun t' h' n' x p3 p55 p56 p57=>?_) (fun hf t' h' n' x p2=>?_)
     · simp only[↓zM,↓zN];simp only[p3,p55,p56,p57,↓zF,↓zI,↓zD];refine zO ?_;exact hkk _ _ ⟨h',n',rfl,x,rfl,rfl,rfl,rfl⟩
     · exact hR (by rw[hf];rfl) t' h' n' x p2
    | true=>
     simp only[↓yS,↓fl,↓zC,↓zD,↓cle,↓yR,↓zI];refine tail _ _ ?_ rfl rfl rfl rfl rfl rfl (fun t' h' n' x p3 p55 p56 p57=>?_) (fun hf t' h' n' x p2=>?_)
     · show Value.bool _=_;rw [Bool.true_and];exact congrArg Value.bool (by congr 1;exact propext (by omega))
     · simp only[↓zM,↓zN];simp only[p3,p55,p56,p57,↓zF,↓zI,↓zD];refine zO ?_;exact hkk _ _ ⟨h',n',rfl,x,rfl,rfl,rfl,rfl⟩
     · exact hR (by rw[hf];rfl) t' h' n' x p2
def FctFit(f:Fct):Prop:=f.vregs.length<1000000∧f.params.length<100000∧f.blocks.length<1000000∧∀b∈f.blocks,b.length<1000000∧∀i∈b,InsFit i
theorem plainF_eq(f:Fct):rG f=(named f.name && named f.result && decide (f.vregs.length≤500) && decide (f.params.length≤16) && decide (f.blocks.length≤200) && f.params.all xS && f.vregs.all named && f.blocks.all plainB):=rfl
theorem plain_pure(f:Fct)(fv:Value)(h:zH)(n:Nat)(hf:FunAt n h fv f)(hfit:FctFit f):pA P 8 20 [fv] h n (.bool (rG f)):=by
 obtain⟨vv,pv,bv,svs,rfl,r1,r2,r3,r4,r5⟩:=hf;obtain⟨z1,z2,z3,z4⟩:=hfit;refine Rets.pureE (zZ zK mixed (hint:=hint20) l20 fun u k hk=>?_) (.inl rfl);rw [F20_eq];unfold F20;refine tE (fun x hx=>?_) fun h1 c1 x1=>?_
 · have hx:x∈[str f.name,vv,pv,str f.result,bv]:=hx;simp only[List.mem_cons,List.not_mem_nil,or_false]at hx;rcases hx with rfl|rfl|rfl|rfl|rfl
   · rfl
   · exact r1.1.one
   · exact r2.1.one
   · rfl
   · exact r3.1.one
 have c1':Cel h1 n 0 [str f.name,vv,pv,str f.result,bv]:=c1;have R1:=r1.1.ext x1;have R2:=r2.1.ext x1;have R3:BlksRow (n+1) h1 bv f.blocks svs:=⟨r3.1.ext x1,r4,fun k l v a b=>(r5 k l v a b).ext x1⟩;have f0:zE P 9 h1 (ptr n 0)=some (str f.name):=zG c1' sh9 rfl;have f3:zE P 9 h1 (.pointer (some ⟨n,3,none⟩))=some (str f.result):=zG c1' sh9 rfl;have f1:zE P 23 h1 (.pointer (some ⟨n,1,none⟩))=some vv:=zG c1' sh23 rfl;have f2:zE P 40 h1 (.pointer (some ⟨n,2,none⟩))=some pv:=zG c1' sh40 rfl;have f4:zE P 41 h1 (.pointer (some ⟨n,4,none⟩))=some bv:=zG c1' sh41 rfl;have l1:=yX (P:=P) us23 R1 [] h1;have l2:=yX (P:=P) us40 R2 [] h1;have l4:=yX (P:=P) us41 R3.1 [] h1;have cle:∀(a b:Int) K,yB sQ P .leq 3 true (.int .i64 a) (.int .i64 b) K=K (decide (a≤b)):=fun a b K=>by rw[cmpI,vW]
 have d3:decide (((f.vregs.length:Nat):Int)≤500)=decide (f.vregs.length≤500):=decide_eq_decide.2 (by omega);have d4:decide (((f.params.length:Nat):Int)≤16)=decide (f.params.length≤16):=decide_eq_decide.2 (by omega);have d5:decide (((f.blocks.length:Nat):Int)≤200)=decide (f.blocks.length≤200):=decide_eq_decide.2 (by omega);have hpl:=plainF_eq f;simp only[↓fa43_0,↓zC,↓f0];refine zU (qT f.name h1 (n+1)) ?_
 cases g1:named f.name with
 | false=>
  rw[g1]at hpl;simp only[↓xJ,↓yV,↓zI,↓tB,↓zC,↓f1,↓l1,↓zD];refine uD f.vregs (ptr n 0) vv h1 (n+1) u _ R1 z1 _ 0 (Nat.add_zero _) false _ rfl rfl rfl rfl rfl ?_;intro t' p1 p3;simp only[↓zM,↓zN,p1,p3,↓zF,↓zI];refine zO ?_;simp only[↓vP,↓zC,↓f4,↓l4,↓zD];refine uQ f.blocks bv svs z4 z3 u _ _ 0 (Nat.add_zero _) _ _ h1 (n+1) R3 rfl rfl rfl rfl (fun t2 h2 n2 x2 q3=>?_) (fun hf t2 h2 n2 x2 q2=>?_)
  · simp only[↓zM,↓zN,q3,↓zI];refine zO ?_;refine zV r20 rfl (hk _ _ _ ⟨congrArg Value.bool ?_,x1.trans x2⟩);rw [hpl];simp [*,List.drop_zero]
  · simp only[↓yC,↓yD];refine zV r20 q2 (hk _ _ _ ⟨congrArg Value.bool ?_,x1.trans x2⟩);rw [hpl];simp [*]
 | true=>
 rw[g1]at hpl;simp only[↓yS,↓fa43_3,↓zC,↓f3];refine zU (qT f.result h1 (n+1)) ?_;simp only[↓yR,↓zI]
 cases g2:named f.result with
 | false=>
  rw[g2]at hpl;simp only[↓xJ,↓yV,↓zI,↓tB,↓zC,↓f1,↓l1,↓zD];refine uD f.vregs (ptr n 0) vv h1 (n+1) u _ R1 z1 _ 0 (Nat.add_zero _) false _ rfl rfl rfl rfl rfl ?_;intro t' p1 p3;simp only[↓zM,↓zN,p1,p3,↓zF,↓zI];refine zO ?_;simp only[↓vP,↓zC,↓f4,↓l4,↓zD];refine uQ f.blocks bv svs z4 z3 u _ _ 0 (Nat.add_zero _) _ _ h1 (n+1) R3 rfl rfl rfl rfl (fun t2 h2 n2 x2 q3=>?_) (fun hf t2 h2 n2 x2 q2=>?_)
  · simp only[↓zM,↓zN,q3,↓zI];refine zO ?_;refine zV r20 rfl (hk _ _ _ ⟨congrArg Value.bool ?_,x1.trans x2⟩);rw [hpl];simp [*,List.drop_zero]
  · simp only[↓yC,↓yD];refine zV r20 q2 (hk _ _ _ ⟨congrArg Value.bool ?_,x1.trans x2⟩);rw [hpl];simp [*]
 | true=>
 rw[g2]at hpl;simp only[↓yS,↓tB,↓zC,↓f1,↓l1,↓zD,↓cle,↓d3,↓yR,↓zI]
 cases g3:decide (f.vregs.length≤500) with
 | false=>
  rw[g3]at hpl;simp only[↓xJ,↓yV,↓zI,↓tB,↓zC,↓f1,↓l1,↓zD];refine uD f.vregs (ptr n 0) vv h1 (n+1) u _ R1 z1 _ 0 (Nat.add_zero _) false _ rfl rfl rfl rfl rfl ?_;intro t' p1 p3;simp only[↓zM,↓zN,p1,p3,↓zF,↓zI];refine zO ?_;simp only[↓vP,↓zC,↓f4,↓l4,↓zD];refine uQ f.blocks bv svs z4 z3 u _ _ 0 (Nat.add_zero _) _ _ h1 (n+1) R3 rfl rfl rfl rfl (fun t2 h2 n2 x2 q3=>?_) (fun hf t2 h2 n2 x2 q2=>?_)
  · simp only[↓zM,↓zN,q3,↓zI];refine zO ?_;refine zV r20 rfl (hk _ _ _ ⟨congrArg Value.bool ?_,x1.trans x2⟩);rw [hpl];simp [*,List.drop_zero]
  · simp only[↓yC,↓yD];refine zV r20 q2 (hk _ _ _ ⟨congrArg Value.bool ?_,x1.trans x2⟩);rw [hpl];simp [*]
 | true=>
 rw[g3]at hpl;simp only[↓yS,↓oM,↓zC,↓f2,↓l2,↓zD,↓cle,↓d4,↓yR,↓zI]
 cases g4:decide (f.params.length≤16) with
 | false=>
  rw[g4]at hpl;simp only[↓xJ,↓yV,↓zI,↓tB,↓zC,↓f1,↓l1,↓zD];refine uD f.vregs (ptr n 0) vv h1 (n+1) u _ R1 z1 _ 0 (Nat.add_zero _) false _ rfl rfl rfl rfl rfl ?_;intro t' p1 p3;simp only[↓zM,↓zN,p1,p3,↓zF,↓zI];refine zO ?_;simp only[↓vP,↓zC,↓f4,↓l4,↓zD];refine uQ f.blocks bv svs z4 z3 u _ _ 0 (Nat.add_zero _) _ _ h1 (n+1) R3 rfl rfl rfl rfl (fun t2 h2 n2 x2 q3=>?_) (fun hf t2 h2 n2 x2 q2=>?_)
  · simp only[↓zM,↓zN,q3,↓zI];refine zO ?_;refine zV r20 rfl (hk _ _ _ ⟨congrArg Value.bool ?_,x1.trans x2⟩);rw [hpl];simp [*,List.drop_zero]
  · simp only[↓yC,↓yD];refine zV r20 q2 (hk _ _ _ ⟨congrArg Value.bool ?_,x1.trans x2⟩);rw [hpl];simp [*]
 | true=>
 rw[g4]at hpl;simp only[↓yS,↓vP,↓zC,↓f4,↓l4,↓zD,↓cle,↓d5,↓yR,↓zI]
 cases g5:decide (f.blocks.length≤200) with
 | false=>
  rw[g5]at hpl;simp only[↓xJ,↓yV,↓zI,↓tB,↓zC,↓f1,↓l1,↓zD];refine uD f.vregs (ptr n 0) vv h1 (n+1) u _ R1 z1 _ 0 (Nat.add_zero _) false _ rfl rfl rfl rfl rfl ?_;intro t' p1 p3;simp only[↓zM,↓zN,p1,p3,↓zF,↓zI];refine zO ?_;simp only[↓vP,↓zC,↓f4,↓l4,↓zD];refine uQ f.blocks bv svs z4 z3 u _ _ 0 (Nat.add_zero _) _ _ h1 (n+1) R3 rfl rfl rfl rfl (fun t2 h2 n2 x2 q3=>?_) (fun hf t2 h2 n2 x2 q2=>?_)
  · simp only[↓zM,↓zN,q3,↓zI];refine zO ?_;refine zV r20 rfl (hk _ _ _ ⟨congrArg Value.bool ?_,x1.trans x2⟩);rw [hpl];simp [*,List.drop_zero]
  · simp only[↓yC,↓yD];refine zV r20 q2 (hk _ _ _ ⟨congrArg Value.bool ?_,x1.trans x2⟩);rw [hpl];simp [*]
 | true=>
 rw[g5]at hpl;simp only[↓yS,↓oM,↓zC,↓f2];refine zU (rO f.params pv h1 (n+1) R2 z2) ?_;simp only[↓yR,↓zI]
 cases g6:f.params.all xS with
 | false=>
  rw[g6]at hpl;simp only[↓xJ,↓yV,↓zI,↓tB,↓zC,↓f1,↓l1,↓zD];refine uD f.vregs (ptr n 0) vv h1 (n+1) u _ R1 z1 _ 0 (Nat.add_zero _) false _ rfl rfl rfl rfl rfl ?_;intro t' p1 p3;simp only[↓zM,↓zN,p1,p3,↓zF,↓zI];refine zO ?_;simp only[↓vP,↓zC,↓f4,↓l4,↓zD];refine uQ f.blocks bv svs z4 z3 u _ _ 0 (Nat.add_zero _) _ _ h1 (n+1) R3 rfl rfl rfl rfl (fun t2 h2 n2 x2 q3=>?_) (fun hf t2 h2 n2 x2 q2=>?_)
  · simp only[↓zM,↓zN,q3,↓zI];refine zO ?_;refine zV r20 rfl (hk _ _ _ ⟨congrArg Value.bool ?_,x1.trans x2⟩);rw [hpl];simp [*,List.drop_zero]
  · simp only[↓yC,↓yD];refine zV r20 q2 (hk _ _ _ ⟨congrArg Value.bool ?_,x1.trans x2⟩);rw [hpl];simp [*]
 | true=>
 rw[g6]at hpl;simp only[↓tB,↓zC,↓f1,↓l1,↓zD];refine uD f.vregs (ptr n 0) vv h1 (n+1) u _ R1 z1 _ 0 (Nat.add_zero _) true _ rfl rfl rfl rfl rfl ?_;intro t' p1 p3;simp only[↓zM,↓zN,p1,p3,↓zF,↓zI];refine zO ?_;simp only[↓vP,↓zC,↓f4,↓l4,↓zD];refine uQ f.blocks bv svs z4 z3 u _ _ 0 (Nat.add_zero _) _ _ h1 (n+1) R3 rfl rfl rfl rfl (fun t2 h2 n2 x2 q3=>?_) (fun hf t2 h2 n2 x2 q2=>?_)
 · simp only[↓zM,↓zN,q3,↓zI];refine zO ?_;refine zV r20 rfl (hk _ _ _ ⟨congrArg Value.bool ?_,x1.trans x2⟩);rw [hpl];simp [*,List.drop_zero]
 · simp only[↓yC,↓yD];refine zV r20 q2 (hk _ _ _ ⟨congrArg Value.bool ?_,x1.trans x2⟩);rw [hpl];simp [*]at hf ⊢;try exact hf
theorem uE{m:Int}{h:zH}{n:Nat}{x:Int}{Kp:KC}{K:Value→zH→Nat→Bool}(hE:Env m h)(hx:Go64 x)(hK:K (str (Lib.itoa x)) h n=true) :
 vR (loS P 8) (.func (.func 81) #[] #[]) [.int .i64 x] h n Kp K=true:=
 show yO (loS P 8) 81 [.int .i64 x] h n Kp K=true from yH (itoa_pure n hE.tabs x hx.1 hx.2) hK
theorem rC{a b:Tx}{h:zH}{n:Nat}{K:KH}
(hK:∀h',Row (n+1) h' (.slice (some ⟨n,0,none⟩) 2 2) 9 1 2 [str a,str b]→Ext h n h' (n+1)→K h' (n+1) (.slice (some ⟨n,0,none⟩) 2 2)=true) :
 zS P 23 2 [(0,str a),(1,str b)] h n K=true:=by
 have z:xP P 23 2 [(0,str a),(1,str b)]=some (tM [str a,str b] 0):=rfl;exact rB (e:=9) (sz:=1) z rfl (by unfold inf;omega) hK
theorem sI{sT xT e sz n len b off m:Nat}{h:zH}{x:Value}{vs new:List Value}{K:KH}(hT:apTB P sT xT e sz=true)(hv:Row n h (.slice (some ⟨b,off,none⟩) len len) e sz len vs)(hlt:len<inf)(hvs:∀y∈vs,y.oneCell'=true)(hm:0<m)
(hr:Row n h x e sz m new)(hnew:new.length=m*sz)(h1:∀y∈new,y.oneCell'=true)(hlim:len+m<1000000)(hK:∀v' h',Own n (n+1) h' v' e sz (len+m) (vs++new)→Ext h n h' (n+1)→K h' (n+1) v'=true) :
 wD P [sT,xT] [.slice (some ⟨b,off,none⟩) len len,x] h n K=true:=by
 obtain⟨xd,ei,z,t1,t2,t3,t4,t5,t6,t7,t8,t9⟩:=apTB_of hT;have hap:uR P h e ei.size xd x=some (m,new):=by rw[t6];exact pD t3 hr
 have hro:=(row_of hv).1
 have hvl:vs.length=len*sz:=by
  rcases hv with⟨hv,_⟩|⟨_,_,_,_,_,_,_,_,hl,_⟩
  · cases hv
  · exact hl
 unfold wD pQ;dsimp only;rw [t1,t2];dsimp only;rw [t4,t5];dsimp only;rw [hap];dsimp only
 have c1:(Nat.beq ei.size 0 || !Nat.beq (cellsOf z).length ei.size || !Nat.blt (Nat.add len m) 1000000 || !Nat.blt ei.bytes 100000)=false:=by
  have a1:Nat.beq ei.size 0=false:=by
   cases e9:Nat.beq ei.size 0 with
   | false=>rfl
   | true=>have:=yL e9;omega
  have a2:Nat.beq (cellsOf z).length ei.size=true:=by rw[t7,t6];exact Nat.beq_refl _
  rw[a1,a2,rA (show Nat.add len m<1000000 from hlim),rA t9];rfl
 rw[c1];show cond (Nat.beq m 0 && !Nat.beq len 0 && (Nat.beq len inf || Nat.ble len len)) _ _=true
 have hm0:Nat.beq m 0=false:=by
  cases e9:Nat.beq m 0 with
  | false=>rfl
  | true=>have:=yL e9;omega
 rw[hm0];show cond (Nat.beq len inf) _ _=true
 have hi0:Nat.beq len inf=false:=by
  cases e9:Nat.beq len inf with
  | false=>rfl
  | true=>have:=yL e9;omega
 rw[hi0];dsimp only[cond_false];unfold growEx
 have b1:Nat.ble (Nat.add len m) len=false:=by
  cases e9:Nat.ble (Nat.add len m) len with
  | false=>rfl
  | true=>
   have h9:Nat.add len m≤len:=uN e9;have h10:len+m≤len:=h9;omega
 rw[b1,t6,hro];show uP .lF 0 (vs++new) _=true;refine sO (fun y hy=>(List.mem_append.1 hy).elim (hvs y) (h1 y)) ?_;rw [xC]
 have hne:Nat.mul (Nat.add len m) sz=(vs++new).length:=by
  rw[List.length_append,hvl,hnew];exact Nat.add_mul len m sz
 rw[hne];refine hK _ _ (.inr ⟨n,Nat.le_refl n,Nat.lt_succ_self n,rfl,?_,?_,by omega,fun i=>?_⟩) ⟨Nat.le_succ n,fun b hb=>?_⟩
 · rw[zP,if_pos rfl];rfl
 · rw[List.length_append,hvl,hnew,Nat.add_mul]
 · unfold xX;rw [zP,if_pos rfl];exact uW (vs++new) (zc e sz) 1 i
 · rw[zP,if_neg (by omega)]
theorem lks4{wa wb wc wd:W}{f:W→Bool}{ls:List Lk}(hc:f wc=true)(hd:f wd=true)(h:lks [wa,wb,wc,wd] ls=true):lks [wa,wb,wc,wd] (⟨true,f,0,1⟩::ls)=true:=by
 show gt (gt true (gt true (gt (gt (f wc) true) (gt (gt (f wd) true) true)))) (lks [wa,wb,wc,wd] ls)=true;rw [hc,hd,h];rfl
theorem lks42{wa wb wc wd:W}{f:W→Bool}{ls:List Lk}(hb:f wb=true)(hc:f wc=true)(hd:f wd=true)(h:lks [wa,wb,wc,wd] ls=true):lks [wa,wb,wc,wd] (⟨true,f,0,2⟩::ls)=true:=by
 show gt (gt true (gt (gt (f wb) true) (gt (gt (f wc) true) (gt (gt (f wd) true) true)))) (lks [wa,wb,wc,wd] ls)=true;rw [hb,hc,hd,h];rfl
theorem lks31{wb wc wd:W}{f:W→Bool}{ls:List Lk}(hc:f wc=true)(hd:f wd=true)(h:lks [wb,wc,wd] ls=true):lks [wb,wc,wd] (⟨true,f,0,1⟩::ls)=true:=by
 show gt (gt true (gt (gt (f wc) true) (gt (gt (f wd) true) true))) (lks [wb,wc,wd] ls)=true;rw [hc,hd,h];rfl
theorem lkp{b off n:Nat}(h:b<n):blkLt n (.pointer (some ⟨b,off,none⟩))=true:=rA h
theorem tG{q:zH→Option Value}{b off n:Nat}{v:Value}{h:zH}{d:List Deferred}{u:Option yF}(hp:b<n)(hq:q h=some v)(hs:qH v v=true):lkQ q (.pointer (some ⟨b,off,none⟩)) v ⟨d,u,h,n⟩=true:=
 lk_ok (lkp hp) hq hs
theorem qO{n len:Nat}{h:zH}{v:Value}{e sz:Nat}{vs:List Value}(r:Row n h v e sz len vs):qH v v=true:=by
 rcases r with⟨rfl,_⟩|⟨b,off,cap,_,_,_,_,rfl,_⟩
 · rfl
 · exact same_slice _ _ _ _
theorem build_three{a b c:Tx}{h:zH}{n:Nat}{K:KH}
(hK:∀h',Row (n+1) h' (.slice (some ⟨n,0,none⟩) 3 3) 9 1 3 [str a,str b,str c]→Ext h n h' (n+1)→K h' (n+1) (.slice (some ⟨n,0,none⟩) 3 3)=true) :
 zS P 23 3 [(0,str a),(1,str b),(2,str c)] h n K=true:=by
 have z:xP P 23 3 [(0,str a),(1,str b),(2,str c)]=some (tM [str a,str b,str c] 0):=rfl;exact rB (e:=9) (sz:=1) z rfl (by unfold inf;omega) hK
theorem build_four{a b c d:Tx}{h:zH}{n:Nat}{K:KH}
(hK:∀h',Row (n+1) h' (.slice (some ⟨n,0,none⟩) 4 4) 9 1 4 [str a,str b,str c,str d]→Ext h n h' (n+1)→K h' (n+1) (.slice (some ⟨n,0,none⟩) 4 4)=true) :
 zS P 23 4 [(0,str a),(1,str b),(2,str c),(3,str d)] h n K=true:=by
 have z:xP P 23 4 [(0,str a),(1,str b),(2,str c),(3,str d)]=some (tM [str a,str b,str c,str d] 0):=rfl;exact rB (e:=9) (sz:=1) z rfl (by unfold inf;omega) hK
theorem show_rets{m:Int}{h:zH}{n:Nat}(hE:Env m h)(hn:8≤n)(i:Ins)(sv:Value)(hi:InsAll i)(hr:Row n h sv 3 1 i.args.length (i.args.map I64)) :
 Rets P 8 56 [.agg ⟨vH i sv⟩] h n fun v h' n'=>Ext h n h' n'∧Row n' h' v 9 1 (sH i).length ((sH i).map str):=by
 obtain⟨gd,ga,gb,gn,gt',gf,gargs,gl⟩:=hi;refine zZ zK mixed (hint:=hint56) l56 fun u k hk=>?_;rw [F56_eq];unfold F56;refine tE (tQ hr.one) fun h1 c1 x1=>?_;have hE1:Env m h1:=hE.touch (x1.touch []) hn (by simp);have c1':Cel h1 n 0 (vH i sv):=c1;have f1:zE P 3 h1 (.pointer (some ⟨n,1,none⟩))=some (I64 i.d):=zG c1' sh3 rfl;simp only[↓tP,↓zC,↓f1,↓zD];refine uE hE1 gd ?_;refine rC (a:=Lib.itoa i.d) (b:=tEq) fun h2 c2 x2'=>?_;have x2:=x1.trans x2';have hE2:Env m h2:=hE1.touch (x2'.touch []) (by omega) (by simp);have LD:∀{h':zH} {n':Nat},Ext h2 (n+1+1) h' n'→Cel h' n 0 (vH i sv):=fun x=>(c1'.touch (x2'.touch []) (by omega) (by simp)).touch (x.touch []) (by omega) (by simp);have xr:Ext h2 (n+1+1) h2 (n+1+1):=Ext.refl _ _;have q0:zE P 3 h2 (ptr n 0)=some (I64 i.kind):=zG (LD xr) sh3 rfl;have q1:zE P 3 h2 (.pointer (some ⟨n,1,none⟩))=some (I64 i.d):=zG (LD xr) sh3 rfl;have q2:zE P 3 h2 (.pointer (some ⟨n,2,none⟩))=some (I64 i.a):=zG (LD xr) sh3 rfl
 have q3:zE P 3 h2 (.pointer (some ⟨n,3,none⟩))=some (I64 i.b):=zG (LD xr) sh3 rfl;have q4:zE P 3 h2 (.pointer (some ⟨n,4,none⟩))=some (I64 i.n):=zG (LD xr) sh3 rfl;have q5:zE P 9 h2 (.pointer (some ⟨n,5,none⟩))=some (str i.name):=zG (LD xr) sh9 rfl;have q6':zE P 40 h2 (.pointer (some ⟨n,6,none⟩))=some sv:=zG (LD xr) sh40 rfl;have q7:zE P 3 h2 (.pointer (some ⟨n,7,none⟩))=some (I64 i.t):=zG (LD xr) sh3 rfl;have q8:zE P 3 h2 (.pointer (some ⟨n,8,none⟩))=some (I64 i.f):=zG (LD xr) sh3 rfl;have ib:∀c:Int,xN i.kind c=decide (i.kind=c):=fun c=>xZ _ _;have ibd:∀c:Int,xN i.d c=decide (i.d=c):=fun c=>xZ _ _
 have s2:∀a b:Tx,∀y∈[str a,str b],y.oneCell'=true:=fun a b y hy=>by
  simp only[List.mem_cons,List.not_mem_nil,or_false]at hy;rcases hy with rfl|rfl <;> rfl
 have nn:n<n+1+1:=by omega
 obtain⟨S,sh⟩:∃S,S=sH i:=⟨_,rfl⟩;rw [← sh]at hk;unfold sH at sh;simp only[↓uK,↓zC,↓q0,↓zD]
 have tail:∀{D:List Tx} {h4:zH} {n4:Nat} {v4:Value} {fA:Value→zH→Nat→Bool} {Kp:KC},S=D++i.args.map Lib.itoa→D.length≤4→Own (n+1+1) n4 h4 v4 9 1 D.length (D.map str)→Ext h2 (n+1+1) h4 n4→
  (∀v5 h5 n5,Ext h4 n4 h5 n5→Own n4 n5 h5 v5 9 1 i.args.length (i.args.map fun x=>str (Lib.itoa x))→fA v5 h5 n5=true)→yO (loS P 8) 55 [sv] h4 n4 Kp fA=true:=by
  intro D h4 n4 v4 fA Kp hS hD o4 x4 hf;have hE4:Env m h4:=hE2.touch (x4.touch []) (by omega) (by simp);exact uT (texts_rets hE4 (by have:=x4.1;omega) i.args gargs sv ((hr.ext x2).ext x4) gl) fun v5 h5 n5 ⟨x5,o5⟩=>hf v5 h5 n5 x5 o5
 have tail2:∀{D:List Tx} {h4 h5:zH} {n4 n5:Nat} {v4 v5:Value} {K:KH},S=D++i.args.map Lib.itoa→D.length≤4→Own (n+1+1) n4 h4 v4 9 1 D.length (D.map str)→Ext h2 (n+1+1) h4 n4→Ext h4 n4 h5 n5→
  Own n4 n5 h5 v5 9 1 i.args.length (i.args.map fun x=>str (Lib.itoa x))→(∀v6 h6 n6,Ext h n h6 n6→Row n6 h6 v6 9 1 S.length (S.map str)→n5≤n6→K h6 n6 v6=true)→wD P [23,23] [v4,v5] h5 n5 K=true:=by
  intro D h4 h5 n4 n5 v4 v5 K hS hD o4 x4 x5 o5 hK;refine qS ap23 (o4.touch (x5.touch []) (fun _ _ h=>by cases h)) (by have:=x4.1;have:=x5.1;omega) (o5.row (Nat.le_refl _)) (by simp) (fun y hy=>?_) (by omega) fun v6 h6 n6 o6 n6le k6=>?_
  · obtain⟨z,_,rfl⟩:=List.mem_map.1 hy;rfl
  have x6:Ext h n h6 n6:=⟨by have:=x2.1;have:=x4.1;have:=x5.1;omega,fun b hb=>by
   have:=x2.1;have:=x4.1;have:=x5.1;rw [k6 b (by omega) (fun e=>by have:=(o4.ge b e).1;omega)];exact((x2.trans x4).trans x5).2 b hb⟩
  refine hK v6 h6 n6 x6 ?_ n6le;have e9:S.map str=D.map str++i.args.map fun x=>str (Lib.itoa x):=by rw[hS,List.map_append,List.map_map];rfl
  have e8:S.length=D.length+i.args.length:=by rw[hS];simp
  rw[e9,e8];exact o6.row (Nat.le_refl _)
 refine wG (fun t w=>zA t 1=ptr n 0∧zA t 3 = .func (.func 81) #[] #[]∧w=⟨[],u,h2,n+1+1⟩∧S=[tRet,Lib.itoa i.a]) (fun t w q=>?_) (fun kk hkk=>?_)
 · obtain⟨p1,p3,rfl,p4⟩:=q;simp only[p1,p3,↓zF];refine zO ?_;simp only[↓uX,↓zC,↓q2,↓zD];refine uE hE2 ga ?_;refine rC (a:=tRet) (b:=Lib.itoa i.a) fun h3 c3 x3=>?_;exact zV r56 rfl (hk _ _ _ ⟨x2.trans x3,by rw[p4];exact c3⟩)
 try simp only[↓ib,↓zY]
 refine wO (fun t w=>zA t 1=ptr n 0∧zA t 3 = .func (.func 81) #[] #[]∧w=⟨[],u,h2,n+1+1⟩∧S=[tRet,Lib.itoa i.a]) (fun t w q=>?_) (fun hc kk' hkk'=>?_) (fun hc kk hkk=>?_)
 · obtain⟨p1,p3,rfl,p4⟩:=q;simp only[p1,p3,↓zF];refine zO ?_;exact hkk _ _ ⟨rfl,rfl,rfl,p4⟩
 · rw[if_pos (of_decide_eq_true hc)]at sh;simp only[↓fa50_4,↓zC,↓q4,↓zD];refine uE hE2 gn ?_;refine rC (a:=tConst) (b:=Lib.itoa i.n) fun h3 c3 x3=>?_;refine sI ap23 (c2.ext x3) (by decide) (s2 _ _) (by omega) c3 rfl (s2 _ _) (by omega) fun v4 h4 o4 x4=>?_;exact zV r56 rfl (hk _ _ _ ⟨(x2.trans x3).trans x4,by rw[sh];exact o4.row (Nat.le_refl _)⟩)
 rw[if_neg (of_decide_eq_false hc)]at sh;try simp only[↓ib,↓zY]
 refine wO (fun t w=>zA t 1=ptr n 0∧zA t 3 = .func (.func 81) #[] #[]∧w=⟨[],u,h2,n+1+1⟩∧S=[tRet,Lib.itoa i.a]) (fun t w q=>?_) (fun hc kk' hkk'=>?_) (fun hc kk hkk=>?_)
 · obtain⟨p1,p3,rfl,p4⟩:=q;simp only[p1,p3,↓zF];refine zO ?_;exact hkk _ _ ⟨rfl,rfl,rfl,p4⟩
 · rw[if_pos (of_decide_eq_true hc)]at sh;simp only[↓uX,↓zC,↓q2,↓zD];refine uE hE2 ga ?_;refine rC (a:=tCopy) (b:=Lib.itoa i.a) fun h3 c3 x3=>?_;refine sI ap23 (c2.ext x3) (by decide) (s2 _ _) (by omega) c3 rfl (s2 _ _) (by omega) fun v4 h4 o4 x4=>?_;exact zV r56 rfl (hk _ _ _ ⟨(x2.trans x3).trans x4,by rw[sh];exact o4.row (Nat.le_refl _)⟩)
 rw[if_neg (of_decide_eq_false hc)]at sh;try simp only[↓ib,↓zY]
 refine wO (fun t w=>zA t 1=ptr n 0∧zA t 3 = .func (.func 81) #[] #[]∧w=⟨[],u,h2,n+1+1⟩∧S=[tRet,Lib.itoa i.a]) (fun t w q=>?_) (fun hc kk' hkk'=>?_) (fun hc kk hkk=>?_)
 · obtain⟨p1,p3,rfl,p4⟩:=q;simp only[p1,p3,↓zF];refine zO ?_;exact hkk _ _ ⟨rfl,rfl,rfl,p4⟩
 · rw[if_pos (of_decide_eq_true hc)]at sh;simp only[↓tC,↓zC,↓q5];refine tI on23 (rN _) fun h3 c3 x3=>?_;refine sI ap23 (c2.ext x3) (by decide) (s2 _ _) (by omega) c3 rfl (by simpa using rN _) (by omega) fun v4 h4 o4 x4=>?_;have x34:=x3.trans x4;have q6:zE P 40 h4 (.pointer (some ⟨n,6,none⟩))=some sv:=zG (LD x34) sh40 rfl;have o4':Own (n+1+1) (n+1+1+1+1) h4 v4 9 1 [Lib.itoa i.d,tEq,i.name].length ([Lib.itoa i.d,tEq,i.name].map str):=o4.low (by omega);rw [vE (by omega),uB];simp only[↓vZ,↓zC,↓q6];refine tail sh (by simp) o4' x34 fun v5 h5 n5 x5 o5=>?_;rw [vE x5.1,uB];refine tail2 sh (by simp) o4' x34 x5 o5 fun v6 h6 n6 x6 r6 n6le=>?_;rw [vE n6le,uB,lks4 (tG (by omega) q6 (qO (hr.ext x2))) (tG (by omega) q6' (qO (hr.ext x2))) rfl,uB];exact zV r56 rfl (hk _ _ _ ⟨x6,r6⟩)
 rw[if_neg (of_decide_eq_false hc)]at sh;try simp only[↓ib,↓zY]
 refine wO (fun t w=>zA t 1=ptr n 0∧zA t 3 = .func (.func 81) #[] #[]∧w=⟨[],u,h2,n+1+1⟩∧S=[tRet,Lib.itoa i.a]) (fun t w q=>?_) (fun hc kk' hkk'=>?_) (fun hc kk hkk=>?_)
 · obtain⟨p1,p3,rfl,p4⟩:=q;simp only[p1,p3,↓zF];refine zO ?_;exact hkk _ _ ⟨rfl,rfl,rfl,p4⟩
 · rw[if_pos (of_decide_eq_true hc)]at sh;simp only[↓uX,↓zC,↓q2,↓zD];refine uE hE2 ga ?_;refine rC (a:=tLoad) (b:=Lib.itoa i.a) fun h3 c3 x3=>?_;refine sI ap23 (c2.ext x3) (by decide) (s2 _ _) (by omega) c3 rfl (s2 _ _) (by omega) fun v4 h4 o4 x4=>?_;exact zV r56 rfl (hk _ _ _ ⟨(x2.trans x3).trans x4,by rw[sh];exact o4.row (Nat.le_refl _)⟩)
 rw[if_neg (of_decide_eq_false hc)]at sh;try simp only[↓ib,↓zY]
 refine wO (fun t w=>zA t 1=ptr n 0∧zA t 3 = .func (.func 81) #[] #[]∧w=⟨[],u,h2,n+1+1⟩∧S=[tRet,Lib.itoa i.a]) (fun t w q=>?_) (fun hc kk' hkk'=>?_) (fun hc kk hkk=>?_)
 · obtain⟨p1,p3,rfl,p4⟩:=q;simp only[p1,p3,↓zF];refine zO ?_;exact hkk _ _ ⟨rfl,rfl,rfl,p4⟩
 · rw[if_pos (of_decide_eq_true hc)]at sh;simp only[↓uX,↓zC,↓q2,↓zD];refine uE hE2 ga ?_;rw [vE (Nat.le_refl _),uB];simp only[↓fa50_3,↓zC,↓q3,↓zD];refine uE hE2 gb ?_;rw [vE (Nat.le_refl _),uB];refine build_three (a:=tStore) (b:=Lib.itoa i.a) (c:=Lib.itoa i.b) fun h3 c3 x3=>?_;rw [lks31 (tG nn q3 (qN _)) (tG nn q3 (qN _)) rfl,uB];exact zV r56 rfl (hk _ _ _ ⟨x2.trans x3,by rw[sh];exact c3⟩)
 rw[if_neg (of_decide_eq_false hc)]at sh;try simp only[↓ib,↓zY]
 refine wO (fun t w=>zA t 1=ptr n 0∧zA t 3 = .func (.func 81) #[] #[]∧w=⟨[],u,h2,n+1+1⟩∧S=[tRet,Lib.itoa i.a]) (fun t w q=>?_) (fun hc kk' hkk'=>?_) (fun hc kk hkk=>?_)
 · obtain⟨p1,p3,rfl,p4⟩:=q;simp only[p1,p3,↓zF];refine zO ?_;exact hkk _ _ ⟨rfl,rfl,rfl,p4⟩
 · rw[if_pos (of_decide_eq_true hc)]at sh;simp only[↓tP,↓zC,↓q1,↓zD,↓ibd,↓zY];refine wO (fun t w=>zA t 1=ptr n 0∧w=⟨[],u,h2,n+1+1⟩∧((zA t 4 = .slice none 0 0∧i.d = -1)∨(zA t 4 = .slice (some ⟨n+1,0,none⟩) 2 2∧i.d≠-1))) (fun t w q=>?_) (fun hd kk hkk=>?_) (fun hd kk hkk=>?_)
   · obtain⟨p1,rfl,p4⟩:=q;simp only[p1,↓zF];refine zO ?_;simp only[↓tC,↓zC,↓q5];refine rC (a:=pU) (b:=i.name) fun h3 c3 x3=>?_
     have go:∀{K:KH},(∀(D:List Tx) v4 h4 n4,S=D++i.args.map Lib.itoa→D.length≤4→Own (n+1+1) n4 h4 v4 9 1 D.length (D.map str)→Ext h2 (n+1+1) h4 n4→n+1+1+1≤n4→K h4 n4 v4=true)→
      wD P [23,23] [zA t 4,.slice (some ⟨n+1+1,0,none⟩) 2 2] h3 (n+1+1+1) K=true:=by
      intro K hK;rcases p4 with⟨p4,hd⟩|⟨p4,hd⟩
      · rw[if_pos hd]at sh;rw [p4];refine qS ap23 (lo:=n+1+1) (v:=.slice none 0 0) (len:=0) (vs:=[]) (.inl ⟨rfl,rfl,rfl⟩) (by omega) c3 rfl (s2 _ _) (by omega) fun v4 h4 n4 o4 n4le k4=>?_;refine hK [pU,i.name] v4 h4 n4 sh (by simp) ?_ ⟨by omega,fun b hb=>?_⟩ n4le
        · simpa using o4
        · rw[k4 b (by omega) (fun e=>by cases e),x3.2 b hb]
      · rw[if_neg hd]at sh;rw [p4];refine sI ap23 (c2.ext x3) (by decide) (s2 _ _) (by omega) c3 rfl (s2 _ _) (by omega) fun v4 h4 o4 x4=>?_;exact hK [Lib.itoa i.d,tEq,pU,i.name] v4 h4 _ sh (by simp) (o4.low (by omega)) (x3.trans x4) (by omega)
     refine go fun D v4 h4 n4 hS hD o4 x34 n4le=>?_;have q6:zE P 40 h4 (.pointer (some ⟨n,6,none⟩))=some sv:=zG (LD x34) sh40 rfl;rw [vE n4le,uB];simp only[↓vZ,↓zC,↓q6];refine tail hS hD o4 x34 fun v5 h5 n5 x5 o5=>?_;rw [vE x5.1,uB];refine tail2 hS hD o4 x34 x5 o5 fun v6 h6 n6 x6 r6 n6le=>?_;rw [vE n6le,uB,lks4 (tG (by omega) q6 (qO (hr.ext x2))) (tG (by omega) q6' (qO (hr.ext x2))) rfl,uB];exact zV r56 rfl (hk _ _ _ ⟨x6,r6⟩)
   · exact hkk _ _ ⟨rfl,rfl,.inl ⟨rfl,of_decide_eq_true hd⟩⟩
   · exact hkk _ _ ⟨rfl,rfl,.inr ⟨rfl,of_decide_eq_false hd⟩⟩
 rw[if_neg (of_decide_eq_false hc)]at sh;try simp only[↓ib,↓zY]
 by_cases k7:i.kind=7
 · rw[if_pos k7]at sh;simp only[↓decide_eq_true k7,↓wP,↓uX,↓zC,↓q2,↓zD];refine uE hE2 ga ?_;rw [vE (Nat.le_refl _),uB];simp only[↓pN,↓zC,↓q7,↓zD];refine uE hE2 gt' ?_;rw [vE (Nat.le_refl _),uB];simp only[↓fa50_8,↓zC,↓q8,↓zD];refine uE hE2 gf ?_;rw [vE (Nat.le_refl _),uB];refine build_four (a:=tBr) (b:=Lib.itoa i.a) (c:=Lib.itoa i.t) (d:=Lib.itoa i.f) fun h3 c3 x3=>?_;rw [lks42 (tG nn q8 (qN _)) (tG nn q8 (qN _)) (tG nn q8 (qN _)) (lks4 (tG nn q7 (qN _)) (tG nn q7 (qN _)) rfl),uB];exact zV r56 rfl (hk _ _ _ ⟨x2.trans x3,by rw[sh];exact c3⟩)
 rw[if_neg k7]at sh;simp only[↓decide_eq_false k7,↓wT];try simp only[↓ib,↓zY]
 by_cases k8:i.kind=8
 · rw[if_pos k8]at sh;simp only[↓decide_eq_true k8,↓wP,↓pN,↓zC,↓q7,↓zD];refine uE hE2 gt' ?_;refine rC (a:=tJump) (b:=Lib.itoa i.t) fun h3 c3 x3=>?_;exact zV r56 rfl (hk _ _ _ ⟨x2.trans x3,by rw[sh];exact c3⟩)
 rw[if_neg k8]at sh;simp only[↓decide_eq_false k8,↓wT];exact hkk _ _ ⟨rfl,rfl,rfl,sh⟩
def Under(b:Nat)(h:zH)(n:Nat)(h':zH)(n':Nat):Prop:=n≤n'∧∀x,x<b→yG h' x=yG h x
theorem Under.refl(b:Nat)(h:zH)(n:Nat):Under b h n h n:=⟨Nat.le_refl _,fun _ _=>rfl⟩
theorem Under.trans{b n n1 n2:Nat}{h h1 h2:zH}(a:Under b h n h1 n1)(c:Under b h1 n1 h2 n2):Under b h n h2 n2:=⟨Nat.le_trans a.1 c.1,fun x hx=>(c.2 x hx).trans (a.2 x hx)⟩
theorem Under.ext{b n n':Nat}{h h':zH}(a:Under b h n h' n'):Ext h b h' b:=⟨Nat.le_refl _,a.2⟩
theorem Under.of_ext{b n n':Nat}{h h':zH}(a:Ext h n h' n')(hb:b≤n):Under b h n h' n':=⟨a.1,fun x hx=>a.2 x (by omega)⟩
theorem Env.under{m:Int}{b n n':Nat}{h h':zH}(e:Env m h)(a:Under b h n h' n')(hb:8≤b):Env m h':=e.touch (a.ext.touch []) hb (by simp)
def BldT(b n:Nat)(h:zH)(l:Tx):Prop:=b<n∧∃p sv,Cel h b (97+1) [p,sv]∧(p = .pointer none∨p=ptr b 0)∧Own (b+1) n h sv 5 1 l.length (bytesV l)
theorem BldT.ext{b n n':Nat}{h h':zH}{l:Tx}(w:BldT b n h l)(x:Ext h n h' n'):BldT b n' h' l:=by
 obtain⟨hb,p,sv,c,hp,o⟩:=w;exact⟨Nat.lt_of_lt_of_le hb x.1,p,sv,c.touch (x.touch []) hb (by simp),hp,o.touch (x.touch []) (fun _ _ h=>by cases h)⟩
theorem cel_set{h:zH}{b z:Nat}{vs:List Value}{v:Value}(hc:Cel h b z vs)(h0:0<vs.length):Cel (h.set .dead (stC (yG h b) 0 [v]) b) b z (vs.set 0 v):=by
 obtain⟨hi,hx⟩:=hc;refine⟨?_,fun i=>?_⟩
 · rw[zP,if_pos rfl,oJ,hi,List.length_set]
 · unfold xX;rw [zP,if_pos rfl,oI _ 0 [v] hi (by simp only[List.length_cons,List.length_nil];omega)];by_cases hi0:i=0
   · subst hi0;rw [if_pos (by simp)];rw [List.getElem?_set_self h0];rfl
   · rw[if_neg (by simp;omega),List.getElem?_set_ne (by omega)];exact hx i
theorem write_rets{b n:Nat}{h:zH}{l s:Tx}(w:BldT b n h l)(hlen:l.length+s.length<1000000) :
 Rets P 8 53 [ptr b 0,str s] h n fun v h' n'=>Under b h n h' n'∧BldT b n' h' (l++s):=by
 obtain⟨hb,p,sv,c,hp,o⟩:=w;have hne:wQ sv≠some b:=fun e=>by have:=(o.ge b e).1;omega
 refine zZ zK mixed (hint:=hq0) l53 fun u k hk=>?_;rw [F53_eq];unfold F53
 have rest:∀{h1:zH} {K:KH},Cel h1 b (97+1) [ptr b 0,sv]→(∀x,x≠b→yG h1 x=yG h x)→
  (∀v2 h2 n2,Own (b+1) n2 h2 v2 5 1 (l++s).length (bytesV (l++s))→Cel h2 b (97+1) [ptr b 0,sv]→Under b h n h2 n2→K h2 n2 v2=true)→
  wD P [95,9] [sv,str s] h1 n K=true:=by
  intro h1 K c1 k1 hK;have o1:Own (b+1) n h1 sv 5 1 l.length (bytesV l):=o.touch (yA k1 (S:=[b]) (by simp)) (fun x hx hm=>by simp at hm;subst hm;exact hne hx);refine append_text (by kernel_rfl) o1 (by omega) hlen fun v2 h2 n2 o2 n2le k2=>?_;refine hK v2 h2 n2 ?_ (c1.keep (k2 b hb (fun e=>hne e))) ⟨n2le,fun x hx=>?_⟩
  · rw[List.length_append];have e:bytesV (l++s)=bytesV l++s.map fun b=>Value.int .u8 (b.toNat:Nat):=by simp[bytesV]
    rw[e];exact o2
  · rw[k2 x (by omega) (fun e=>by have:=(o.ge x e).1;omega),k1 x (by omega)]
 have go:∀{h1:zH},Cel h1 b (97+1) [ptr b 0,sv]→(∀x,x≠b→yG h1 x=yG h x)→∀T:Value,
  opt (qY (ptr b 0)) (fun v7=>opt (zB P 97 1 v7) fun v8=>opt (zE P 95 h1 v8) fun v9=>wD P [95,9] [v9,str s] h1 n fun h10 n11 v12=>
   opt (qY (ptr b 0)) fun v13=>opt (zB P 97 1 v13) fun v14=>zW P 95 v14 v12 h10 n11 fun h15 n16 v17=>opt (zX P .len [9] [str s] h15) fun v18=>rtI .i64 v18 fun a19=>
    zJ P (loS P 8) 53 k .ret ((gf19 (ptr b 0) (str s) undef undef (.int .i64 a19) .nilIface (ptr b 0) T (ptr b 0) (ptr b 0) v7 v8 v9 (str s) v12 v13 v14 (str s) (.int .i64 a19))) (W.mk [] u h15 n16))=true:=by
  intro h1 c1 k1 T;have e9:zE P 95 h1 (.pointer (some ⟨b,1,none⟩))=some sv:=zG c1 (by kernel_rfl) rfl;have f1:zB P 97 1 (ptr b 0)=some (.pointer (some ⟨b,1,none⟩)):=by rw[yM (o:=1) (by kernel_rfl),Nat.zero_add]
  simp only[↓xF,↓zC,↓f1,↓e9];refine rest c1 k1 fun v2 h2 n2 o2 c2 x2=>?_;try simp only[↓xF,↓zC,↓f1]
  refine wA c2 (by kernel_rfl) (by simp) o2.one fun h3 c3 k3=>?_;have e5:=len_strL (P:=P) us9 s [] h3;simp only[↓e5,↓zC,↓zD];refine leave2 r53 rfl rfl (hk _ _ _ ⟨⟨x2.1,fun x hx=>by rw[k3 x (by omega)];exact x2.2 x hx⟩,Nat.lt_of_lt_of_le hb x2.1,ptr b 0,v2,c3,.inr rfl,?_⟩);exact o2.touch (yA k3 (S:=[b]) (by simp)) (fun x hx hm=>by simp at hm;subst hm;have:=(o2.ge _ hx).1;omega)
 rcases hp with rfl|rfl
 · refine uT (check_fresh (sv:=sv) ⟨c.1,c.2 0,c.2 1⟩) fun v h1 n1 ⟨q1,q2,q3⟩=>?_;subst q1 q2 q3;exact go (cel_set c (by simp)) (fun x hx=>by rw[zP,if_neg (fun e=>hx e.symm)]) (.tuple #[])
 · refine uT (check_used (sv:=sv) ⟨c.1,c.2 0,c.2 1⟩) fun v h1 n1 ⟨q1,q2,q3⟩=>?_;subst q1 q2 q3;exact go c (fun x hx=>rfl) (.tuple #[])
theorem line_rets{b n:Nat}{h:zH}{l hd:Tx}{ws:List Tx}{sv:Value}(w:BldT b n h l)(r:Row n h sv 9 1 ws.length (ws.map str))(hn:ws.length<100000)(hlen:l.length+(hd++Lib.join ws [32]++[10]).length<1000000) :
 Rets P 8 52 [str hd,sv,ptr b 0] h n fun v h' n'=>Under b h n h' n'∧BldT b n' h' (l++(hd++Lib.join ws [32]++[10])):=by
 refine zZ zK mixed (hint:=hq0) l52 fun u k hk=>?_;rw [F52_eq];unfold F52;simp only[List.length_append,List.length_cons,List.length_nil]at hlen;refine yH (join_pure ws [32] r (by omega) (by omega)) ?_;refine yE (by omega) ?_;refine yE (a:=hd++Lib.join ws [32]) (b:=[10]) (by simp;omega) ?_;refine uT (write_rets w (by simp;omega)) fun v h1 n1 q=>?_;exact pB r52 (hk _ _ _ q)
abbrev lineFn(b:Nat):Value:=.func (.func 52) (Array.mk []) (Array.mk [ptr b 0])
theorem sJ{b n:Nat}{h:zH}{l hd:Tx}{ws:List Tx}{sv:Value}{Kp:KC}{K:Value→zH→Nat→Bool}(w:BldT b n h l)(r:Row n h sv 9 1 ws.length (ws.map str))(hn:ws.length<100000)(hlen:l.length+(hd++Lib.join ws [32]++[10]).length<1000000)
(hK:∀v h' n',Under b h n h' n'→BldT b n' h' (l++(hd++Lib.join ws [32]++[10]))→K v h' n'=true):vR (loS P 8) (lineFn b) [str hd,sv] h n Kp K=true:=
 show yO (loS P 8) 52 [str hd,sv,ptr b 0] h n Kp K=true from uT (line_rets w r hn hlen) fun v h' n' q=>hK v h' n' q.1 q.2
theorem oO(l:Tx):vG [l]=l++[10]:=by simp[vG]
theorem printBlk_loop{m:Int}{b:Nat}(hg:8≤b)(l:List Ins)(v bv:Value)(bl bi:Int)(hl:l.length<1000000)(hall:∀i∈l,InsAll i)(u:Option yF)(ka:KX):∀(m' i:Nat),m'+i=l.length→∀(t:Fr) (h:zH) (n:Nat) (txt:Tx),Env m h→BlkRO [] b h v l→BldT b n h txt→
 txt.length+(vG ((l.drop i).map uC)).length<1000000→zA t 3=ptr b 0→zA t 4=lineFn b→zA t 37=bv→zA t 38=I64 bl→zA t 39=I64 bi→zA t 46=v→zA t 47=I64 (l.length:Nat)→zA t 48=I64 (i:Nat)→
 (∀t' h' n',Under b h n h' n'→BldT b n' h' (txt++vG ((l.drop i).map uC))→zA t' 3=ptr b 0→zA t' 4=lineFn b→zA t' 37=bv→zA t' 38=I64 bl→zA t' 39=I64 bi→ka (.exit 2) t' ⟨[],u,h',n'⟩=true)→
 lpS P 8 1000014 ⟨19,none,false⟩ t ⟨[],u,h,n⟩ ka=true:=by
 intro m'
 induction m' with
 | zero=>
  intro i hi t h n txt hE hb w hlen t3 t4 t37 t38 t39 t46 t47 t48 hk;refine yK zK mixed (hint:=hint19) l19 lp19_1000014 ?_;rw [B19_1000014_eq];unfold B19_1000014;rw [t3,t4,t37,t38,t39,t46,t47,t48];have e3:wB (i:Nat) (l.length:Nat)=false:=by rw[zT];exact decide_eq_false (by omega)
  simp only[↓zF,↓zD];refine zO ?_;simp only[↓e3,↓zY,↓wT];refine hk _ h n (Under.refl _ _ _) ?_ rfl rfl rfl rfl rfl;rw [List.drop_eq_nil_of_le (by omega)];simpa [vG] using w
 | succ m' ih=>
  intro i hi t h n txt hE hb w hlen t3 t4 t37 t38 t39 t46 t47 t48 hk;have hlt:i<l.length:=by omega
  have hd:l.drop i=l[i]::l.drop (i+1):=List.drop_eq_getElem_cons hlt;obtain⟨av,⟨ha1,ha2⟩,hr⟩:=id hb;have hlt2:i<av.length:=by omega
  have hgt:l[i]? = some l[i]:=List.getElem?_eq_getElem hlt;have hga:av[i]? = some av[i]:=List.getElem?_eq_getElem hlt2;have hfl:=rP ha1 hgt hga;have hra:=(ha2 i _ _ hgt hga).1;obtain⟨q,q1,q2⟩:=tL (P:=P) (k:=.i64) hr.1 ix51 (tl:=50) sh50 (by decide) hlt;rw [hfl]at q2;have hfi:=hall _ (List.getElem_mem hlt);generalize l[i]=y at hd q2 hra hfi
  generalize av[i]=sv at q2 hra
  rw[hd,List.map_cons,wR]at hlen hk;simp only[List.length_append,List.length_cons]at hlen;refine yK zK mixed (hint:=hint19) l19 lp19_1000014 ?_;rw [B19_1000014_eq];unfold B19_1000014;rw [t3,t4,t37,t38,t39,t46,t47,t48];have e3:wB (i:Nat) (l.length:Nat)=true:=by rw[zT];exact decide_eq_true (by omega)
  simp only[↓zF,↓zD];refine zO ?_;simp only[↓e3,↓zY,↓wP];refine wG (fun t w=>zA t 3=ptr b 0∧zA t 4=lineFn b∧zA t 37=bv∧zA t 38=I64 bl∧zA t 39=I64 bi∧zA t 46=v∧zA t 47=I64 (l.length:Nat)∧zA t 48=I64 (i:Nat)∧∃h' n',w=⟨[],u,h',n'⟩∧Under b h n h' n'∧BldT b n' h' (txt++(uC y++[10]))) (fun t w q=>?_) (fun kk hkk=>?_)
  · obtain⟨p3,p4,p37,p38,p39,p46,p47,p48,h',n',rfl,x,w'⟩:=q;simp only[p3,p4,p37,p38,p39,p46,p47,p48,↓zF,↓zD];refine zO ?_;refine vT (by omega) ?_;refine ih (i+1) (by omega) _ h' n' _ (hE.under x hg) (hb.ext x.ext) w' (by simp only[List.length_append,List.length_cons,List.length_nil];omega) rfl rfl rfl rfl rfl rfl rfl rfl fun t2 h2 n2 x2 w2=>?_;refine hk t2 h2 n2 (x.trans x2) ?_;rw [List.append_assoc,List.append_assoc]at w2;exact w2
  · simp only[↓q1,↓q2,↓zC];have hbn:=w.1;refine wZ ze50 fun h1 c1 x1=>?_;refine xU c1 sh50 rfl rfl (tQ hra.one) fun h2 c2 k2=>?_;have x2:Ext h n h2 (n+1):=⟨by omega,fun b hb=>(k2 b (by omega)).trans (x1.2 b hb)⟩;have fA:zE P 50 h2 (.pointer (some ⟨n,0,none⟩))=some (.agg ⟨vH y sv⟩):=xA c2 sh50 rfl (by decide);simp only[↓fA,↓zC];have xb:Ext h b h2 (n+1):=⟨by omega,fun z hz=>x2.2 z (by omega)⟩;refine uT (show_rets (hE.under (Under.of_ext x2 (by omega)) hg) (by omega) y sv hfi (hra.ext xb)) fun v3 h3 n3 ⟨x3,r3⟩=>?_
    have hll:(sH y).length<100000:=by
     have:=hfi.2.2.2.2.2.2.2;unfold sH;repeat' split
     all_goals simp
     all_goals omega
    refine sJ (w.ext (x2.trans x3)) r3 hll (by unfold uC at hlen;simp only[List.length_append,List.length_cons,List.length_nil]at hlen ⊢;omega) fun v4 h4 n4 x4 w4=>?_;exact hkk _ _ ⟨rfl,rfl,rfl,rfl,rfl,rfl,rfl,rfl,h4,n4,rfl,(Under.of_ext (x2.trans x3) (by omega)).trans x4,w4⟩
theorem printBlks_loop{m:Int}{b:Nat}(hg:8≤b)(bs:List (List Ins))(bv:Value)(svs:List Value)(hl:bs.length<1000000)(hall:∀l∈bs,l.length<1000000∧∀i∈l,InsAll i)(u:Option yF)(ka:KX):∀(m' i:Nat),m'+i=bs.length→∀(t:Fr) (h:zH) (n:Nat) (txt:Tx),Env m h→BlksRow b h bv bs svs→BldT b n h txt→
 txt.length+(vG ((bs.drop i).flatMap wJ)).length<1000000→zA t 3=ptr b 0→zA t 4=lineFn b→zA t 37=bv→zA t 38=I64 (bs.length:Nat)→zA t 39=I64 (i:Nat)→
 (∀t' h' n',Under b h n h' n'→BldT b n' h' (txt++vG ((bs.drop i).flatMap wJ))→zA t' 3=ptr b 0→zA t' 4=lineFn b→ka (.exit 0) t' ⟨[],u,h',n'⟩=true)→
 lpS P 8 1000010 ⟨19,none,false⟩ t ⟨[],u,h,n⟩ ka=true:=by
 intro m'
 induction m' with
 | zero=>
  intro i hi t h n txt hE hb w hlen t3 t4 t37 t38 t39 hk;refine yK zK mixed (hint:=hint19) l19 lp19_1000010 ?_;rw [B19_1000010_eq];unfold B19_1000010;rw [t3,t4,t37,t38,t39];have e3:wB (i:Nat) (bs.length:Nat)=false:=by rw[zT];exact decide_eq_false (by omega)
  simp only[↓zF,↓zD];refine zO ?_;simp only[↓e3,↓zY,↓wT];refine hk _ h n (Under.refl _ _ _) ?_ rfl rfl;rw [List.drop_eq_nil_of_le (by omega)];simpa [vG] using w
 | succ m' ih =>
  intro i hi t h n txt hE hb w hlen t3 t4 t37 t38 t39 hk;have hlt:i<bs.length:=by omega
  have hd:bs.drop i=bs[i]::bs.drop (i+1):=List.drop_eq_getElem_cons hlt;have hsl:=hb.2.1;have hlt2:i<svs.length:=by omega
  have hgt:bs[i]? = some bs[i]:=List.getElem?_eq_getElem hlt;have hgs:svs[i]? = some svs[i]:=List.getElem?_eq_getElem hlt2;have hk2:=hb.2.2 i _ _ hgt hgs;have hfi:=hall _ (List.getElem_mem hlt);obtain⟨q,q1,q2⟩:=xG (P:=P) (k:=.i64) hb.1 ix41 (tl:=51) sh51 hgs;generalize bs[i]=y at hd hk2 hfi
  generalize svs[i]=v at q2 hk2 hgs
  have el:vG ((y::bs.drop (i+1)).flatMap wJ)=(rY++[10])++vG (y.map uC)++vG ((bs.drop (i+1)).flatMap wJ):=by
   have e:vG (wJ y)=(rY++[10])++vG (y.map uC):=by
    unfold wJ;rw [wR];simp
   rw[List.flatMap_cons,uO,e]
  rw[hd,el]at hlen hk;simp only[List.length_append,List.length_cons,List.length_nil]at hlen;refine yK zK mixed (hint:=hint19) l19 lp19_1000010 ?_;rw [B19_1000010_eq];unfold B19_1000010;rw [t3,t4,t37,t38,t39];have e3:wB (i:Nat) (bs.length:Nat)=true:=by rw[zT];exact decide_eq_true (by omega)
  simp only[↓zF,↓zD];refine zO ?_;simp only[↓e3,↓zY,↓wP];refine wG (fun t w=>zA t 3=ptr b 0∧zA t 4=lineFn b∧zA t 37=bv∧zA t 38=I64 (bs.length:Nat)∧zA t 39=I64 (i:Nat)∧∃h' n',w=⟨[],u,h',n'⟩∧Under b h n h' n'∧BldT b n' h' (txt++((rY++[10])++vG (y.map uC)))) (fun t w q=>?_) (fun kk hkk=>?_)
  · obtain⟨p3,p4,p37,p38,p39,h',n',rfl,x,w'⟩:=q;simp only[p3,p4,p37,p38,p39,↓zF,↓zD];refine zO ?_;refine vT (by omega) ?_;refine ih (i+1) (by omega) _ h' n' _ (hE.under x hg) (hb.ext x.ext) w' (by simp only[List.length_append,List.length_cons,List.length_nil];omega) rfl rfl rfl rfl rfl fun t2 h2 n2 x2 w2=>?_;refine hk t2 h2 n2 (x.trans x2) ?_;rw [List.append_assoc]at w2;exact w2
  · simp only[↓q1,↓q2,↓zC];have hbn:=w.1;refine tI on23 (rN rY) fun h1 c1 x1=>?_;refine sJ (hd:=[]) (ws:=[rY]) (w.ext x1) c1 (by decide) (by rw[Lib.join_one];simp;omega) fun v2 h2 n2 x2 w2=>?_;rw [Lib.join_one]at w2;have x12:=(Under.of_ext x1 (by omega:b≤n)).trans x2;have hk3:=hk2.ext x12.ext;obtain⟨av,_,hr⟩:=id hk3;have fl:=yX (P:=P) us51 hr.1 [] h2;simp only[↓fl,↓zC,↓zD];refine printBlk_loop hg y v bv _ _ hfi.1 hfi.2 u _ y.length 0 (Nat.add_zero _) _ h2 n2 _ (hE.under x12 hg) hk3 w2 (by rw[List.drop_zero];simp;omega) rfl rfl rfl rfl rfl rfl rfl rfl fun t3 h3 n3 x3 w3 p3 p4 p37 p38 p39=>?_;rw [List.drop_zero,List.append_assoc]at w3;simp only[↓zM,↓zN];simp only[p3,p4,p37,p38,p39,↓zF,↓zD];refine zO ?_;exact hkk _ _ ⟨rfl,rfl,rfl,rfl,rfl,h3,n3,rfl,x12.trans x3,w3⟩
theorem append_one{sT xT e n b m:Nat}{h:zH}{x a:Value}{new:List Value}{K:KH}(hT:apTB P sT xT e 1=true)(hv:Row n h (.slice (some ⟨b,0,none⟩) 1 1) e 1 1 [a])(ha:a.oneCell'=true)
(hr:Row n h x e 1 m new)(hnew:new.length=m)(h1:∀y∈new,y.oneCell'=true)(hlim:1+m<1000000)(hK:∀v' h' n',Row n' h' v' e 1 (1+m) (a::new)→Ext h n h' n'→K h' n' v'=true) :
 wD P [sT,xT] [.slice (some ⟨b,0,none⟩) 1 1,x] h n K=true:=by
 by_cases hm:0<m
 · refine sI hT hv (by decide) (by simpa using ha) hm hr (by omega) h1 hlim fun v' h' o x'=>?_;exact hK v' h' _ (o.row (Nat.le_refl _)) x'
 · have hm0:m=0:=by omega
   subst hm0;have hn0:new=[]:=List.length_eq_zero_iff.1 hnew;subst hn0;obtain⟨xd,ei,z,t1,t2,t3,t4,t5,t6,t7,t8,t9⟩:=apTB_of hT;have hap:uR P h e ei.size xd x=some (0,[]):=by rw[t6];exact pD t3 hr
   unfold wD pQ;dsimp only;rw [t1,t2];dsimp only;rw [t4,t5];dsimp only;rw [hap];dsimp only
   have c1:(Nat.beq ei.size 0 || !Nat.beq (cellsOf z).length ei.size || !Nat.blt (Nat.add 1 0) 1000000 || !Nat.blt ei.bytes 100000)=false:=by
    have a2:Nat.beq (cellsOf z).length ei.size=true:=by rw[t7,t6];exact Nat.beq_refl _
    rw[a2,t6,rA t9];rfl
   rw[c1];exact hK _ _ _ hv (Ext.refl _ _)
theorem ze_builder:wU P 97=some (.agg ⟨[.pointer none,.slice none 0 0]⟩):=by kernel_rfl
def FctAll(f:Fct):Prop:=FctFit f∧(∀b∈f.blocks,∀i∈b,InsAll i)∧f.vregs.length<90000∧(∀x∈f.params,Go64 x)∧f.params.length<50000
theorem print_pure{m:Int}{h:zH}{n:Nat}(hE:Env m h)(hn:8≤n)(f:Fct)(fv:Value)(hf:FunAt n h fv f)(hfit:FctAll f)(hlen:(vG (tA f)).length<1000000) :
 pA P 8 19 [fv] h n (str (tJ f)):=by
 obtain⟨hfit,hins,hv9,hp9,hp8⟩:=hfit;have hf0:=hf;obtain⟨vv,pv,bv,svs,rfl,r1,r2,r3,r4,r5⟩:=hf;obtain⟨z1,z2,z3,z4⟩:=hfit;refine Rets.pureE (zZ zK mixed (hint:=hint19) l19 fun u k hk=>?_) (.inl rfl);rw [F19_eq];unfold F19;refine tE (fun x hx=>?_) fun h1 c1 x1=>?_
 · have hx:x∈[str f.name,vv,pv,str f.result,bv]:=hx;simp only[List.mem_cons,List.not_mem_nil,or_false]at hx;rcases hx with rfl|rfl|rfl|rfl|rfl
   · rfl
   · exact r1.1.one
   · exact r2.1.one
   · rfl
   · exact r3.1.one
 have c1:Cel h1 n 0 [str f.name,vv,pv,str f.result,bv]:=c1;have fA:zE P 43 h1 (ptr n 0)=some (.agg ⟨[str f.name,vv,pv,str f.result,bv]⟩):=xA c1 sh43 rfl (by decide);simp only[↓fA,↓zC];refine zU (plain_pure f _ h1 (n+1) (hf0.ext x1) ⟨z1,z2,z3,z4⟩) ?_;simp only[↓xD,↓zC,↓zI]
 cases hp:rG f with
 | false=>
  have e0:tJ f=[]:=by unfold tJ;rw [hp];rfl
  rw[e0]at hk;simp only[↓Bool.not_false,↓wP];exact zV r19 rfl (hk _ _ _ ⟨rfl,x1⟩)
 | true=>
 have e0:tJ f=vG (tA f):=by unfold tJ;rw [hp];rfl
 rw[e0]at hk;simp only[↓Bool.not_true,↓wT];refine wZ ze_builder fun h2 c2 x2=>?_;have w2:BldT (n+1) (n+1+1) h2 []:=⟨by omega,.pointer none,.slice none 0 0,c2,.inl rfl,.inl ⟨rfl,rfl,rfl⟩⟩;have hg:8≤n+1:=by omega
 have hE2:Env m h2:=(hE.touch (x1.touch []) hn (by simp)).touch (x2.touch []) hg (by simp);have C:∀{h':zH} {n':Nat},Under (n+1) h2 (n+1+1) h' n'→Cel h' n 0 [str f.name,vv,pv,str f.result,bv]:=fun x=>(c1.touch (x2.touch []) (by omega) (by simp)).keep (x.2 n (by omega));have X:∀{h':zH} {n':Nat},Under (n+1) h2 (n+1+1) h' n'→Ext h n h' (n+1):=fun x=>⟨by omega,fun y hy=>by rw[x.2 y (by omega),x2.2 y (by omega),x1.2 y hy]⟩;have X':∀{h':zH} {n':Nat},Under (n+1) h2 (n+1+1) h' n'→Ext h n h' n':=fun x=>⟨by have:=x.1;omega,(X x).2⟩;simp only[↓xK]
 have eT:vG (tA f)=(Lib.join [tFunc,f.name] [32]++[10])++(Lib.join (tRegs::f.vregs) [32]++[10])++(Lib.join (pT::f.params.map Lib.itoa) [32]++[10])++(Lib.join [tResult,f.result] [32]++[10])++vG (tR f)++(tEnd++[10]):=by
  unfold tA qA;rw [uO,uO,oO,wR,wR,wR,oO];simp
 rw[eT]at hlen hk;simp only[List.length_append,List.length_cons,List.length_nil]at hlen;have s0:Under (n+1) h2 (n+1+1) h2 (n+1+1):=Under.refl _ _ _;have g0:zE P 9 h2 (ptr n 0)=some (str f.name):=zG (C s0) sh9 rfl;simp only[↓fa43_0,↓zC,↓g0];refine rC (a:=tFunc) (b:=f.name) fun h3 c3 x3=>?_;refine sJ (hd:=[]) (ws:=[tFunc,f.name]) (w2.ext x3) c3 (by simp) (by simp only[List.nil_append,List.length_append,List.length_cons,List.length_nil];omega) fun v4 h4 n4 x4 w4=>?_;have s4:=(Under.of_ext x3 (by omega:n+1≤n+1+1)).trans x4;have n4b:=w4.1;refine tI on23 (rN tRegs) fun h5 c5 x5=>?_;have s5:=s4.trans (Under.of_ext x5 (by omega:n+1≤n4));have g1:zE P 23 h5 (.pointer (some ⟨n,1,none⟩))=some vv:=zG (C s5) sh23 rfl;simp only[↓tB,↓zC,↓g1];refine append_one ap23 c5 (rN _) (r1.1.ext (X' s5)) (by simp) (fun y hy=>by obtain⟨z,_,rfl⟩:=List.mem_map.1 hy;rfl) (by omega) fun v6 h6 n6 r6 x6=>?_;have r6:Row n6 h6 v6 9 1 (tRegs::f.vregs).length ((tRegs::f.vregs).map str):=by rw[List.length_cons,Nat.add_comm];exact r6
 refine sJ (hd:=[]) (w4.ext (x5.trans x6)) r6 (by rw[List.length_cons];omega) (by simp only[List.nil_append,List.length_append,List.length_cons,List.length_nil];omega) fun v7 h7 n7 x7 w7=>?_;have s7:=s5.trans ((Under.of_ext x6 (by have:=x5.1;omega)).trans x7);have n7b:=w7.1;refine tI on23 (rN pT) fun h8 c8 x8=>?_;have s8:=s7.trans (Under.of_ext x8 (by omega:n+1≤n7));have g2:zE P 40 h8 (.pointer (some ⟨n,2,none⟩))=some pv:=zG (C s8) sh40 rfl;simp only[↓oM,↓zC,↓g2];refine uT (texts_rets (hE2.under s8 hg) (by omega) f.params hp9 pv (r2.1.ext (X' s8)) hp8) fun v9 h9 n9 ⟨x9,o9⟩=>?_;refine append_one ap23 (c8.ext x9) (rN _) (o9.row (Nat.le_refl _)) (by simp) (fun y hy=>by obtain⟨z,_,rfl⟩:=List.mem_map.1 hy;rfl) (by omega) fun v10 h10 n10 r10 x10=>?_
 have r10:Row n10 h10 v10 9 1 (pT::f.params.map Lib.itoa).length ((pT::f.params.map Lib.itoa).map str):=by
  rw[List.length_cons,Nat.add_comm,List.length_map,List.map_cons,List.map_map];exact r10
 have x89:=x8.trans (x9.trans x10);refine sJ (hd:=[]) (w7.ext x89) r10 (by rw[List.length_cons,List.length_map];omega) (by simp only[List.nil_append,List.length_append,List.length_cons,List.length_nil];omega) fun v11 h11 n11 x11 w11=>?_;have s11:=s7.trans ((Under.of_ext x89 (by omega:n+1≤n7)).trans x11);have n11b:=w11.1;have g3:zE P 9 h11 (.pointer (some ⟨n,3,none⟩))=some (str f.result):=zG (C s11) sh9 rfl;simp only[↓fa43_3,↓zC,↓g3];refine rC (a:=tResult) (b:=f.result) fun h12 c12 x12=>?_;refine sJ (hd:=[]) (ws:=[tResult,f.result]) (w11.ext x12) c12 (by simp) (by simp only[List.nil_append,List.length_append,List.length_cons,List.length_nil];omega) fun v13 h13 n13 x13 w13=>?_;have s13:=s11.trans ((Under.of_ext x12 (by omega:n+1≤n11)).trans x13);have n13b:=w13.1;have g4:zE P 41 h13 (.pointer (some ⟨n,4,none⟩))=some bv:=zG (C s13) sh41 rfl;have R3:BlksRow (n+1) h13 bv f.blocks svs:=⟨r3.1.ext (X s13),r4,fun k l v h1 h2=>(r5 k l v h1 h2).ext (X s13)⟩;have l4:=yX (P:=P) us41 R3.1 [] h13;simp only[↓vP,↓zC,↓g4,↓l4,↓zD]
 refine printBlks_loop hg f.blocks bv svs z3 (fun l hl=>⟨(z4 l hl).1,hins l hl⟩) u _ f.blocks.length 0 (Nat.add_zero _) _ h13 n13 _ (hE2.under s13 hg) R3 w13 (by rw[List.drop_zero];simp only[List.nil_append,List.length_append,List.length_cons,List.length_nil];unfold tR at hlen;omega) rfl rfl rfl rfl rfl fun t14 h14 n14 x14 w14 p3 p4=>?_;rw [List.drop_zero]at w14;simp only[↓zM,↓zN];simp only[p3,p4,↓zF];refine zO ?_;have s14:=s13.trans x14;have n14b:=w14.1;refine tI on23 (rN tEnd) fun h15 c15 x15=>?_;refine sJ (hd:=[]) (ws:=[tEnd]) (w14.ext x15) c15 (by decide) (by rw[Lib.join_one];simp only[List.nil_append,List.length_append,List.length_cons,List.length_nil];unfold tR at hlen;omega) fun v16 h16 n16 x16 w16=>?_;rw [Lib.join_one]at w16;have s16:=s14.trans ((Under.of_ext x15 (by omega:n+1≤n14)).trans x16);obtain⟨b16,p,sv,cB,hpp,oB⟩:=w16;have hne:wQ sv≠some (n+1):=fun e=>by have:=(oB.ge _ e).1;omega
 refine uT (string_rets (p:=p) (sv:=sv) ⟨cB.1,cB.2 0,cB.2 1⟩ oB hne (by simp only[List.nil_append,List.length_append,List.length_cons,List.length_nil];unfold tR at hlen;omega)) fun v17 h17 n17 ⟨q1,q2,q3⟩=>?_;subst q1 q2;refine zV r19 rfl (hk _ _ _ ⟨?_,?_⟩)
 · simp only[List.nil_append,List.append_assoc,tR];rfl
 · refine⟨(X' s16).1,fun y hy=>?_⟩;rw [q3 y (fun e=>by have:=(oB.ge _ e).1;omega)];exact(X' s16).2 y hy
theorem sameInts_loop(xs ys:List Int)(hl:xs.length=ys.length)(av bv:Value)(h:zH)(n:Nat)(ra:Row n h av 3 1 xs.length (xs.map I64))(rb:Row n h bv 3 1 ys.length (ys.map I64))(hlen:xs.length<1000000)(u:Option yF)(ka:KX) :
 ∀(m i:Nat),m+i=xs.length→∀t,zA t 0=av→zA t 1=bv→zA t 5=I64 (i:Nat)→
 (xs.drop i=ys.drop i→∀t',ka (.exit 0) t' ⟨[],u,h,n⟩=true)→(xs.drop i≠ys.drop i→∀t',zA t' 4 = .bool false→ka .ret t' ⟨[],u,h,n⟩=true)→
 lpS P 8 1000004 ⟨70,none,false⟩ t ⟨[],u,h,n⟩ ka=true:=by
 have fl:=yX (P:=P) us40 ra [] h;intro m
 induction m with
 | zero=>
  intro i hi t t0 t1 t5 hE hR;refine yK zK mixed (hint:=hint70) l70 lp70_1000004 ?_;rw [B70_1000004_eq];unfold B70_1000004;rw [t0,t1,t5];have e3:wB (i:Nat) (xs.length:Nat)=false:=by rw[zT];exact decide_eq_false (by omega)
  simp only[↓zF,↓zD];refine zO ?_;simp only[↓fl,↓zC,↓zD,↓e3,↓zY,↓wT];refine hE ?_ _;rw [List.drop_eq_nil_of_le (by omega),List.drop_eq_nil_of_le (by omega)]
 | succ m ih=>
  intro i hi t t0 t1 t5 hE hR;have hlt:i<xs.length:=by omega
  have hlb:i<ys.length:=by omega
  have hda:xs.drop i=xs[i]::xs.drop (i+1):=List.drop_eq_getElem_cons hlt;have hdb:ys.drop i=ys[i]::ys.drop (i+1):=List.drop_eq_getElem_cons hlb;obtain⟨q,q1,q2⟩:=xG (P:=P) (k:=.i64) ra ix40 (tl:=3) sh3 (i:=i) (x:=I64 xs[i]) (by rw[List.getElem?_map,List.getElem?_eq_getElem hlt];rfl);obtain⟨p,p1,p2⟩:=xG (P:=P) (k:=.i64) rb ix40 (tl:=3) sh3 (i:=i) (x:=I64 ys[i]) (by rw[List.getElem?_map,List.getElem?_eq_getElem hlb];rfl);generalize xs[i]=x at hda q2
  generalize ys[i]=y at hdb p2
  rw[hda,hdb]at hE hR;refine yK zK mixed (hint:=hint70) l70 lp70_1000004 ?_;rw [B70_1000004_eq];unfold B70_1000004;rw [t0,t1,t5];have e3:wB (i:Nat) (xs.length:Nat)=true:=by rw[zT];exact decide_eq_true (by omega)
  simp only[↓zF,↓zD];refine zO ?_;simp only[↓fl,↓zC,↓zD,↓e3,↓zY,↓wP];refine wG (fun t w=>zA t 0=av∧zA t 1=bv∧zA t 5=I64 (i:Nat)∧w=⟨[],u,h,n⟩∧x=y) (fun t w q=>?_) (fun kk hkk=>?_)
  · obtain⟨p0,p1,p5,rfl,hxy⟩:=q;simp only[p0,p1,p5,↓zF,↓zD];refine zO ?_;refine vT (by omega) ?_;subst hxy;exact ih (i+1) (by omega) _ rfl rfl rfl (fun e=>hE (by rw[e])) (fun e=>hR (fun e'=>e (List.cons.inj e').2))
  · simp only[↓q1,↓q2,↓p1,↓p2,↓zC,↓zD,↓xQ,↓uB];by_cases hxy:x=y
    · have e4:pW x y=false:=by rw[pS,decide_eq_true hxy];rfl
      simp only[↓e4,↓zY,↓wT];exact hkk _ _ ⟨rfl,rfl,rfl,rfl,hxy⟩
    · have e4:pW x y=true:=by rw[pS,decide_eq_false hxy];rfl
      simp only[↓e4,↓zY,↓wP];exact hR (fun e=>hxy (List.cons.inj e).1) _ rfl
theorem sameInts_pure(xs ys:List Int)(av bv:Value)(h:zH)(n:Nat)(ra:Row n h av 3 1 xs.length (xs.map I64))(rb:Row n h bv 3 1 ys.length (ys.map I64))(hlen:xs.length<1000000) :
 pA P 8 70 [av,bv] h n (.bool (decide (xs=ys))):=by
 refine zZ zK mixed (hint:=hint70) l70 fun u k hk=>?_;rw [F70_eq];unfold F70;have e1:=yX (P:=P) us40 ra [] h;have e2:=yX (P:=P) us40 rb [] h;simp only[↓e1,↓e2,↓zC,↓zD];by_cases hl:xs.length=ys.length
 · have e4:pW (xs.length:Nat) (ys.length:Nat)=false:=by rw[pS,decide_eq_true (by omega)];rfl
   simp only[↓e4,↓zY,↓wT];refine sameInts_loop xs ys hl av bv h n ra rb hlen u _ xs.length 0 (Nat.add_zero _) _ rfl rfl rfl (fun e t'=>?_) (fun e t' t4=>?_)
   · rw[List.drop_zero,List.drop_zero]at e;simp only[↓zM,↓zN];refine zO ?_;exact zV r70 (v:=.bool true) rfl (hk _ _ _ ⟨by rw[decide_eq_true e],rfl,rfl⟩)
   · rw[List.drop_zero,List.drop_zero]at e;simp only[↓yC,↓yD];exact zV r70 t4 (hk _ _ _ ⟨by rw[decide_eq_false e],rfl,rfl⟩)
 · have e4:pW (xs.length:Nat) (ys.length:Nat)=true:=by rw[pS,decide_eq_false (by omega)];rfl
   simp only[↓e4,↓zY,↓wP];exact zV r70 (v:=.bool false) rfl (hk _ _ _ ⟨by rw[decide_eq_false (fun e=>hl (by rw[e]))],rfl,rfl⟩)
def sameI(i j:Ins):Bool:=decide (i.kind=j.kind∧i.d=j.d∧i.a=j.a∧i.b=j.b∧i.n=j.n∧i.name=j.name∧i.t=j.t∧i.f=j.f∧i.args=j.args)
theorem sameI_eq{i j:Ins}:sameI i j=true↔i=j:=by
 unfold sameI;rw [decide_eq_true_eq];cases i;cases j
 constructor
 · rintro ⟨h1,h2,h3,h4,h5,h6,h7,h8,h9⟩
   dsimp only at h1 h2 h3 h4 h5 h6 h7 h8 h9;subst h1 h2 h3 h4 h5 h6 h7 h8 h9;rfl
 · intro h;injection h with h1 h2 h3 h4 h5 h6 h7 h8 h9
   exact⟨h1,h2,h3,h4,h5,h6,h8,h9,h7⟩
theorem sameIns_pure(i j:Ins)(sv sw:Value)(h:zH)(n:Nat)(rs:Row n h sv 3 1 i.args.length (i.args.map I64))(rw':Row n h sw 3 1 j.args.length (j.args.map I64))(hlen:i.args.length<1000000) :
 pA P 8 105 [.agg ⟨vH i sv⟩,.agg ⟨vH j sw⟩] h n (.bool (sameI i j)):=by
 refine Rets.pureE (zZ zK mixed (hint:=hq0) l105 fun u k hk=>?_) (.inl rfl);rw [F105_eq];unfold F105;refine tE (tQ rs.one) fun h1 c1 x1=>?_;refine tE (tQ rw'.one) fun h2 c2 x2=>?_;have c1':Cel h2 n 0 (vH i sv):=Cel.touch c1 (x2.touch []) (by omega) (by simp);have c2':Cel h2 (n+1) 0 (vH j sw):=c2;have X:=x1.trans x2;have p0:zE P 3 h2 (.pointer (some ⟨n,0,none⟩))=some (I64 i.kind):=zG c1' sh3 rfl;have q0:zE P 3 h2 (.pointer (some ⟨n+1,0,none⟩))=some (I64 j.kind):=zG c2' sh3 rfl;have p1:zE P 3 h2 (.pointer (some ⟨n,1,none⟩))=some (I64 i.d):=zG c1' sh3 rfl;have q1:zE P 3 h2 (.pointer (some ⟨n+1,1,none⟩))=some (I64 j.d):=zG c2' sh3 rfl;have p2:zE P 3 h2 (.pointer (some ⟨n,2,none⟩))=some (I64 i.a):=zG c1' sh3 rfl;have q2:zE P 3 h2 (.pointer (some ⟨n+1,2,none⟩))=some (I64 j.a):=zG c2' sh3 rfl;have p3:zE P 3 h2 (.pointer (some ⟨n,3,none⟩))=some (I64 i.b):=zG c1' sh3 rfl;have q3:zE P 3 h2 (.pointer (some ⟨n+1,3,none⟩))=some (I64 j.b):=zG c2' sh3 rfl
 have p4:zE P 3 h2 (.pointer (some ⟨n,4,none⟩))=some (I64 i.n):=zG c1' sh3 rfl;have q4:zE P 3 h2 (.pointer (some ⟨n+1,4,none⟩))=some (I64 j.n):=zG c2' sh3 rfl;have p5:zE P 9 h2 (.pointer (some ⟨n,5,none⟩))=some (str i.name):=zG c1' sh9 rfl;have q5:zE P 9 h2 (.pointer (some ⟨n+1,5,none⟩))=some (str j.name):=zG c2' sh9 rfl;have p7:zE P 3 h2 (.pointer (some ⟨n,7,none⟩))=some (I64 i.t):=zG c1' sh3 rfl;have q7:zE P 3 h2 (.pointer (some ⟨n+1,7,none⟩))=some (I64 j.t):=zG c2' sh3 rfl;have p8:zE P 3 h2 (.pointer (some ⟨n,8,none⟩))=some (I64 i.f):=zG c1' sh3 rfl;have q8:zE P 3 h2 (.pointer (some ⟨n+1,8,none⟩))=some (I64 j.f):=zG c2' sh3 rfl;have p6:zE P 40 h2 (.pointer (some ⟨n,6,none⟩))=some sv:=zG c1' sh40 rfl;have q6:zE P 40 h2 (.pointer (some ⟨n+1,6,none⟩))=some sw:=zG c2' sh40 rfl;have fin:∀(t:Fr) (b:Bool),b=sameI i j→zA t 4 = .bool b→zJ P (loS P 8) 105 k .ret t ⟨[],u,h2,n+1+1⟩=true:=fun t b hb ht=>zV r105 ht (hk _ _ _ ⟨by rw[hb],X⟩)
 have ei:∀(a b:Int) K,yB xN P .eql 3 false (.int .i64 a) (.int .i64 b) K=K (decide (a=b)):=fun a b K=>by rw[cmpI,xZ]
 have ec:∀(a b:Tx) K,yB xN P .eql 9 false (str a) (str b) K=K (decide (a=b)):=fun a b K=>by
  rw[vX];congr 1
  by_cases e:a=b
  · rw[decide_eq_true e,e];simp
  · rw[decide_eq_false e];simpa using e
 have e0:xN i.kind j.kind=decide (i.kind=j.kind):=xZ _ _;simp only[↓zY,↓uK,↓zC,↓p0,↓q0,↓zD,↓e0];by_cases g0:i.kind=j.kind
 case neg=>
  simp only[↓decide_eq_false g0,↓xJ,↓zQ,↓yR,↓yV,↓zI,↓yS];exact fin _ false (by unfold sameI;exact(decide_eq_false (by simp[g0])).symm) rfl
 simp only[↓decide_eq_true g0,↓zQ,↓yR,↓zI,↓yS,↓tP,↓zC,↓p1,↓q1,↓zD,↓ei];by_cases g1:i.d=j.d
 case neg=>
  simp only[↓decide_eq_false g1,↓xJ,↓zQ,↓yR,↓yV,↓zI,↓yS];exact fin _ false (by unfold sameI;exact(decide_eq_false (by simp[g1])).symm) rfl
 simp only[↓decide_eq_true g1,↓zQ,↓yR,↓zI,↓yS,↓uX,↓zC,↓p2,↓q2,↓zD,↓ei];by_cases g2:i.a=j.a
 case neg=>
  simp only[↓decide_eq_false g2,↓xJ,↓zQ,↓yR,↓yV,↓zI,↓yS];exact fin _ false (by unfold sameI;exact(decide_eq_false (by simp[g2])).symm) rfl
 simp only[↓decide_eq_true g2,↓zQ,↓yR,↓zI,↓yS,↓fa50_3,↓zC,↓p3,↓q3,↓zD,↓ei];by_cases g3:i.b=j.b
 case neg=>
  simp only[↓decide_eq_false g3,↓xJ,↓zQ,↓yR,↓yV,↓zI,↓yS];exact fin _ false (by unfold sameI;exact(decide_eq_false (by simp[g3])).symm) rfl
 simp only[↓decide_eq_true g3,↓zQ,↓yR,↓zI,↓yS,↓fa50_4,↓zC,↓p4,↓q4,↓zD,↓ei];by_cases g4:i.n=j.n
 case neg=>
  simp only[↓decide_eq_false g4,↓xJ,↓zQ,↓yR,↓yV,↓zI,↓yS];exact fin _ false (by unfold sameI;exact(decide_eq_false (by simp[g4])).symm) rfl
 simp only[↓decide_eq_true g4,↓zQ,↓yR,↓zI,↓yS,↓tC,↓zC,↓p5,↓q5,↓zD,↓ec];by_cases g5:i.name=j.name
 case neg=>
  simp only[↓decide_eq_false g5,↓xJ,↓zQ,↓yR,↓yV,↓zI,↓yS];exact fin _ false (by unfold sameI;exact(decide_eq_false (by simp[g5])).symm) rfl
 simp only[↓decide_eq_true g5,↓zQ,↓yR,↓zI,↓yS,↓pN,↓zC,↓p7,↓q7,↓zD,↓ei];by_cases g7:i.t=j.t
 case neg=>
  simp only[↓decide_eq_false g7,↓xJ,↓zQ,↓yR,↓yV,↓zI,↓yS];exact fin _ false (by unfold sameI;exact(decide_eq_false (by simp[g7])).symm) rfl
 simp only[↓decide_eq_true g7,↓zQ,↓yR,↓zI,↓yS,↓fa50_8,↓zC,↓p8,↓q8,↓zD,↓ei];by_cases g8:i.f=j.f
 case neg=>
  simp only[↓decide_eq_false g8,↓xJ,↓zQ,↓yR,↓yV,↓zI,↓yS];exact fin _ false (by unfold sameI;exact(decide_eq_false (by simp[g8])).symm) rfl
 simp only[↓decide_eq_true g8,↓zQ,↓yR,↓zI,↓yS,↓vZ,↓zC,↓p6,↓q6];refine zU (sameInts_pure i.args j.args sv sw h2 _ (rs.ext X) (rw'.ext X) hlen) ?_;try simp only[↓zQ,↓yR,↓zI]
 exact fin _ (decide (i.args=j.args)) (by unfold sameI;simp [*]) rfl
theorem lks_none(hs:List W):lks hs []=true:=rfl
theorem sameBlk_loop(l:List Ins)(hl:l.length<1000000)(hlen:∀i∈l,i.args.length<1000000)(av bv va vb:Value)(ix:Int)(h:zH)(n:Nat){qa qb:Value}(a1:zR P 41 av (I64 ix)=some qa)(a2:zE P 51 h qa=some va)
(b1:zR P 41 bv (I64 ix)=some qb)(b2:zE P 51 h qb=some vb)(ra:BlkRO [] n h va l)(rb:BlkRO [] n h vb l)(u:Option yF)(ka:KX) :
 ∀(m j:Nat),m+j=l.length→∀t,zA t 0=av→zA t 1=bv→zA t 5=I64 ix→zA t 6=I64 (j:Nat)→(∀t',zA t' 0=av→zA t' 1=bv→zA t' 5=I64 ix→ka (.exit 2) t' ⟨[],u,h,n⟩=true)→
 lpS P 8 1000009 ⟨71,none,false⟩ t ⟨[],u,h,n⟩ ka=true:=by
 obtain⟨ava,⟨ha1,ha2⟩,hra⟩:=id ra;obtain⟨avb,⟨hb1,hb2⟩,hrb⟩:=id rb;have fl:=yX (P:=P) us51 hra.1 [] h;intro m
 induction m with
 | zero=>
  intro j hj t t0 t1 t5 t6 hE;refine yK zK mixed (hint:=hint71) l71 lp71_1000009 ?_;rw [B71_1000009_eq];unfold B71_1000009;rw [t0,t1,t5,t6];have e3:wB (j:Nat) (l.length:Nat)=false:=by rw[zT];exact decide_eq_false (by omega)
  simp only[↓zF,↓zD];refine zO ?_;simp only[↓a1,↓a2,↓fl,↓zC,↓zD,↓e3,↓zY,↓wT];exact hE _ rfl rfl rfl
 | succ m ih=>
  intro j hj t t0 t1 t5 t6 hE;have hlt:j<l.length:=by omega
  have hgt:l[j]? = some l[j]:=List.getElem?_eq_getElem hlt;have hga:ava[j]? = some (ava[j]'(by omega)):=List.getElem?_eq_getElem (by omega);have hgb:avb[j]? = some (avb[j]'(by omega)):=List.getElem?_eq_getElem (by omega);obtain⟨q,q1,q2⟩:=tL (P:=P) (k:=.i64) hra.1 ix51 (tl:=50) sh50 (by decide) hlt;obtain⟨p,p1,p2⟩:=tL (P:=P) (k:=.i64) hrb.1 ix51 (tl:=50) sh50 (by decide) hlt;rw [rP ha1 hgt hga]at q2;rw [rP hb1 hgt hgb]at p2;have hsa:=(ha2 j _ _ hgt hga).1;have hsb:=(hb2 j _ _ hgt hgb).1;refine yK zK mixed (hint:=hint71) l71 lp71_1000009 ?_;rw [B71_1000009_eq];unfold B71_1000009;rw [t0,t1,t5,t6];have e3:wB (j:Nat) (l.length:Nat)=true:=by rw[zT];exact decide_eq_true (by omega)
  simp only[↓zF,↓zD];refine zO ?_;simp only[↓a1,↓a2,↓fl,↓zC,↓zD,↓e3,↓zY,↓wP];refine wG (fun t w=>zA t 0=av∧zA t 1=bv∧zA t 5=I64 ix∧zA t 6=I64 (j:Nat)∧w=⟨[],u,h,n⟩) (fun t w q=>?_) (fun kk hkk=>?_)
  · obtain⟨p0,p1,p5,p6,rfl⟩:=q;simp only[p0,p1,p5,p6,↓zF,↓zD];refine zO ?_;refine vT (by omega) ?_;exact ih (j+1) (by omega) _ rfl rfl rfl rfl hE
  · simp only[↓a1,↓a2,↓b1,↓b2,↓q1,↓q2,↓p1,↓p2,↓zC];refine zU (sameIns_pure _ _ _ _ h n hsa hsb (hlen _ (List.getElem_mem hlt))) ?_;rw [vE (Nat.le_refl _),uB,lks_none,uB];have es:sameI l[j] l[j]=true:=sameI_eq.2 rfl;simp only[↓es,↓xD,↓zC,↓zI,↓Bool.not_true,↓wT];exact hkk _ _ ⟨rfl,rfl,rfl,rfl,rfl⟩
theorem sameBlks_loop(ls:List (List Ins))(hl:ls.length<1000000)(hlen:∀l∈ls,l.length<1000000∧∀i∈l,i.args.length<1000000)(av bv:Value)(sva svb:List Value)(h:zH)(n:Nat)(ra:BlksRow n h av ls sva)(rb:BlksRow n h bv ls svb)(u:Option yF)(ka:KX) :
 ∀(m i:Nat),m+i=ls.length→∀t,zA t 0=av→zA t 1=bv→zA t 5=I64 (i:Nat)→(∀t',ka (.exit 0) t' ⟨[],u,h,n⟩=true)→
 lpS P 8 1000004 ⟨71,none,false⟩ t ⟨[],u,h,n⟩ ka=true:=by
 have fl:=yX (P:=P) us41 ra.1 [] h;intro m
 induction m with
 | zero=>
  intro i hi t t0 t1 t5 hE;refine yK zK mixed (hint:=hint71) l71 lp71_1000004 ?_;rw [B71_1000004_eq];unfold B71_1000004;rw [t0,t1,t5];have e3:wB (i:Nat) (ls.length:Nat)=false:=by rw[zT];exact decide_eq_false (by omega)
  simp only[↓zF,↓zD];refine zO ?_;simp only[↓fl,↓zC,↓zD,↓e3,↓zY,↓wT];exact hE _
 | succ m ih=>
  intro i hi t t0 t1 t5 hE;have hlt:i<ls.length:=by omega
  have sa:=ra.2.1;have sb:=rb.2.1;have hgt:ls[i]? = some ls[i]:=List.getElem?_eq_getElem hlt;have hga:sva[i]? = some (sva[i]'(by omega)):=List.getElem?_eq_getElem (by omega);have hgb:svb[i]? = some (svb[i]'(by omega)):=List.getElem?_eq_getElem (by omega);have ba:=ra.2.2 i _ _ hgt hga;have bb:=rb.2.2 i _ _ hgt hgb;have hfi:=hlen _ (List.getElem_mem hlt);obtain⟨q,q1,q2⟩:=xG (P:=P) (k:=.i64) ra.1 ix41 (tl:=51) sh51 hga;obtain⟨p,p1,p2⟩:=xG (P:=P) (k:=.i64) rb.1 ix41 (tl:=51) sh51 hgb;generalize ls[i]=y at ba bb hfi
  obtain⟨_,_,ya⟩:=id ba;obtain⟨_,_,yb⟩:=id bb;have la:=yX (P:=P) us51 ya.1 [] h;have lb:=yX (P:=P) us51 yb.1 [] h;refine yK zK mixed (hint:=hint71) l71 lp71_1000004 ?_;rw [B71_1000004_eq];unfold B71_1000004;rw [t0,t1,t5];have e3:wB (i:Nat) (ls.length:Nat)=true:=by rw[zT];exact decide_eq_true (by omega)
  have e4:pW (y.length:Nat) (y.length:Nat)=false:=by rw[pS,decide_eq_true rfl];rfl
  simp only[↓zF,↓zD];refine zO ?_;simp only[↓fl,↓zC,↓zD,↓e3,↓zY,↓wP];refine wG (fun t w=>zA t 0=av∧zA t 1=bv∧zA t 5=I64 (i:Nat)∧w=⟨[],u,h,n⟩) (fun t w q=>?_) (fun kk hkk=>?_)
  · obtain⟨p0,p1,p5,rfl⟩:=q;simp only[p0,p1,p5,↓zF,↓zD];refine zO ?_;refine vT (by omega) ?_;exact ih (i+1) (by omega) _ rfl rfl rfl hE
  · simp only[↓q1,↓q2,↓p1,↓p2,↓la,↓lb,↓zC,↓zD,↓e4,↓zY,↓wT,↓xQ,↓uB];refine sameBlk_loop y hfi.1 hfi.2 av bv _ _ _ h n q1 q2 p1 p2 ba bb u _ y.length 0 (Nat.add_zero _) _ rfl rfl rfl rfl fun t' r0 r1 r5=>?_;simp only[↓zM,↓zN];simp only[r0,r1,r5,↓zF,↓zD];refine zO ?_;exact hkk _ _ ⟨rfl,rfl,rfl,rfl⟩
theorem sameBlocks_true(ls:List (List Ins))(hl:ls.length<1000000)(hlen:∀l∈ls,l.length<1000000∧∀i∈l,i.args.length<1000000)(av bv:Value)(sva svb:List Value)(h:zH)(n:Nat)(ra:BlksRow n h av ls sva)(rb:BlksRow n h bv ls svb) :
 pA P 8 71 [av,bv] h n (.bool true):=by
 refine zZ zK mixed (hint:=hint71) l71 fun u k hk=>?_;rw [F71_eq];unfold F71;have e1:=yX (P:=P) us41 ra.1 [] h;have e2:=yX (P:=P) us41 rb.1 [] h;have e4:pW (ls.length:Nat) (ls.length:Nat)=false:=by rw[pS,decide_eq_true rfl];rfl
 simp only[↓e1,↓e2,↓zC,↓zD,↓e4,↓zY,↓wT];refine sameBlks_loop ls hl hlen av bv sva svb h n ra rb u _ ls.length 0 (Nat.add_zero _) _ rfl rfl rfl fun t'=>?_;simp only[↓zM,↓zN];refine zO ?_;exact zV r71 (v:=.bool true) rfl (hk _ _ _ ⟨rfl,rfl,rfl⟩)
theorem sameVregs_loop(ws:List Tx)(hlen:ws.length<1000000)(fb gb:Nat)(av bv:Value)(h:zH)(n:Nat){ca cb:List Value}(c1:Cel h fb 0 ca)(c2:Cel h gb 0 cb)(a1:ca[1]? = some av)(b1:cb[1]? = some bv)
(ra:Row n h av 9 1 ws.length (ws.map str))(rb:Row n h bv 9 1 ws.length (ws.map str))(u:Option yF)(ka:KX) :
 ∀(m i:Nat),m+i=ws.length→∀t,zA t 2=ptr fb 0→zA t 3=ptr gb 0→zA t 5=I64 (i:Nat)→(∀t',zA t' 2=ptr fb 0→zA t' 3=ptr gb 0→ka (.exit 0) t' ⟨[],u,h,n⟩=true)→
 lpS P 8 1000004 ⟨24,none,false⟩ t ⟨[],u,h,n⟩ ka=true:=by
 have la:zE P 23 h (.pointer (some ⟨fb,1,none⟩))=some av:=zG c1 sh23 a1;have lb:zE P 23 h (.pointer (some ⟨gb,1,none⟩))=some bv:=zG c2 sh23 b1;have fl:=yX (P:=P) us23 ra [] h;intro m
 induction m with
 | zero=>
  intro i hi t t2 t3 t5 hE;refine yK zK mixed (hint:=hint24) l24 lp24_1000004 ?_;rw [B24_1000004_eq];unfold B24_1000004;rw [t2,t3,t5];have e3:wB (i:Nat) (ws.length:Nat)=false:=by rw[zT];exact decide_eq_false (by omega)
  simp only[↓zF,↓zD];refine zO ?_;simp only[↓tB,↓la,↓fl,↓zC,↓zD,↓e3,↓zY,↓wT];exact hE _ rfl rfl
 | succ m ih=>
  intro i hi t t2 t3 t5 hE;have hlt:i<ws.length:=by omega
  obtain⟨q,q1,q2⟩:=xG (P:=P) (k:=.i64) ra ix23 (tl:=9) sh9 (i:=i) (x:=str ws[i]) (by rw[List.getElem?_map,List.getElem?_eq_getElem hlt];rfl);obtain⟨p,p1,p2⟩:=xG (P:=P) (k:=.i64) rb ix23 (tl:=9) sh9 (i:=i) (x:=str ws[i]) (by rw[List.getElem?_map,List.getElem?_eq_getElem hlt];rfl);generalize ws[i]=x at q2 p2
  refine yK zK mixed (hint:=hint24) l24 lp24_1000004 ?_;rw [B24_1000004_eq];unfold B24_1000004;rw [t2,t3,t5];have e3:wB (i:Nat) (ws.length:Nat)=true:=by rw[zT];exact decide_eq_true (by omega)
  have e4:(x == x)=true:=by simp
  simp only[↓zF,↓zD];refine zO ?_;simp only[↓tB,↓la,↓fl,↓zC,↓zD,↓e3,↓zY,↓wP];refine wG (fun t w=>zA t 2=ptr fb 0∧zA t 3=ptr gb 0∧zA t 5=I64 (i:Nat)∧w=⟨[],u,h,n⟩) (fun t w q=>?_) (fun kk hkk=>?_)
  · obtain⟨p0,p1,p5,rfl⟩:=q;simp only[p0,p1,p5,↓zF,↓zD];refine zO ?_;refine vT (by omega) ?_;exact ih (i+1) (by omega) _ rfl rfl rfl hE
  · simp only[↓tB,↓la,↓lb,↓q1,↓q2,↓p1,↓p2,↓zC,↓cmpSL_ne,↓e4,↓Bool.not_true,↓xQ,↓uB,↓wT];exact hkk _ _ ⟨rfl,rfl,rfl,rfl⟩
theorem sameFunc_true(f:Fct)(v w:Value)(h:zH)(n:Nat)(hv:FunAt n h v f)(hw:FunAt n h w f)(hfit:FctFit f) :
 pA P 8 24 [v,w] h n (.bool true):=by
 obtain⟨vv,pv,bv,svs,rfl,r1,r2,r3,r4,r5⟩:=hv;obtain⟨vv',pv',bv',svs',rfl,s1,s2,s3,s4,s5⟩:=hw;obtain⟨z1,z2,z3,z4⟩:=hfit;refine Rets.pureE (zZ zK mixed (hint:=hint24) l24 fun u k hk=>?_) (.inl rfl);rw [F24_eq];unfold F24
 have one5:∀{a b c:Value} {x y:Tx},a.oneCell'=true→b.oneCell'=true→c.oneCell'=true→∀z∈[str x,a,b,str y,c],z.oneCell'=true:=fun ha hb hc z hz=>by
  simp only[List.mem_cons,List.not_mem_nil,or_false]at hz;rcases hz with rfl|rfl|rfl|rfl|rfl <;> first|rfl|assumption
 refine tE (one5 r1.1.one r2.1.one r3.1.one) fun h1 c1 x1=>?_;refine tE (one5 s1.1.one s2.1.one s3.1.one) fun h2 c2 x2=>?_;have c1':Cel h2 n 0 [str f.name,vv,pv,str f.result,bv]:=Cel.touch c1 (x2.touch []) (by omega) (by simp);have c2':Cel h2 (n+1) 0 [str f.name,vv',pv',str f.result,bv']:=c2;have X:=x1.trans x2;have R1:=r1.1.ext X;have R2:=r2.1.ext X;have R3:BlksRow (n+1+1) h2 bv f.blocks svs:=⟨r3.1.ext X,r4,fun k l v h1 h2=>(r5 k l v h1 h2).ext X⟩;have S1:=s1.1.ext X;have S2:=s2.1.ext X;have S3:BlksRow (n+1+1) h2 bv' f.blocks svs':=⟨s3.1.ext X,s4,fun k l v h1 h2=>(s5 k l v h1 h2).ext X⟩;have p0:zE P 9 h2 (ptr n 0)=some (str f.name):=zG c1' sh9 rfl;have q0:zE P 9 h2 (ptr (n+1) 0)=some (str f.name):=zG c2' sh9 rfl;have p3:zE P 9 h2 (.pointer (some ⟨n,3,none⟩))=some (str f.result):=zG c1' sh9 rfl;have q3:zE P 9 h2 (.pointer (some ⟨n+1,3,none⟩))=some (str f.result):=zG c2' sh9 rfl;have p1:zE P 23 h2 (.pointer (some ⟨n,1,none⟩))=some vv:=zG c1' sh23 rfl
 have q1:zE P 23 h2 (.pointer (some ⟨n+1,1,none⟩))=some vv':=zG c2' sh23 rfl;have p2:zE P 40 h2 (.pointer (some ⟨n,2,none⟩))=some pv:=zG c1' sh40 rfl;have q2:zE P 40 h2 (.pointer (some ⟨n+1,2,none⟩))=some pv':=zG c2' sh40 rfl;have p4:zE P 41 h2 (.pointer (some ⟨n,4,none⟩))=some bv:=zG c1' sh41 rfl;have q4:zE P 41 h2 (.pointer (some ⟨n+1,4,none⟩))=some bv':=zG c2' sh41 rfl;have lp:=yX (P:=P) us23 R1 [] h2;have lq:=yX (P:=P) us23 S1 [] h2;have en:∀a:Tx,(a == a)=true:=fun a=>by simp
 have ei:∀(a:Int) K,yB pW P .neq 3 false (.int .i64 a) (.int .i64 a) K=K false:=fun a K=>by
  rw[cmpI,pS,decide_eq_true rfl];rfl
 simp only[↓fa43_0,↓tB,↓fa43_3,↓zC,↓p0,↓q0,↓cmpSL_ne,↓en,↓Bool.not_true,↓sR,↓yS,↓p3,↓q3,↓yV,↓zI,↓p1,↓q1,↓lp,↓lq,↓zD,↓ei,↓wT];refine sameVregs_loop f.vregs z1 n (n+1) vv vv' h2 (n+1+1) c1' c2' rfl rfl R1 S1 u _ f.vregs.length 0 (Nat.add_zero _) _ rfl rfl rfl fun t' g2 g3=>?_;simp only[↓zM,↓zN];simp only[g2,g3,↓zF];refine zO ?_;simp only[↓oM,↓vP,↓zC,↓p2,↓q2];have hI:=sameInts_pure f.params f.params pv pv' h2 _ R2 S2 (by omega);rw [show decide (f.params=f.params)=true from decide_eq_true rfl]at hI;refine zU hI ?_;simp only[↓oM,↓vP,↓zC,↓p4,↓q4];refine zU (sameBlocks_true f.blocks z3 (fun l hl=>⟨(z4 l hl).1,fun i hi=>by have:=((z4 l hl).2 i hi).2;omega⟩) bv bv' svs svs' h2 _ R3 S3) ?_;simp only[↓yS,↓yR,↓zI];exact zV r24 (v:=.bool true) rfl (hk _ _ _ ⟨rfl,X⟩)
theorem ofOK_of{st:St}{l:Tx}{st':St}(h:uY st l = .ok st'):OfOK st l:=by
 unfold uY at h;cases hc:(!st.ended && !(l == [])) <;> rw[hc]at h
 · cases h
 simp only[reduceIte]at h;refine⟨fun hs=>?_,fun hs h1 h2 ho=>?_⟩
 · rw[if_pos hs]at h
   cases e:ofW l [] with
   | error x=>rw [e]at h;cases h
   | ok ws=>exact⟨ws,rfl⟩
 · rw[if_neg (by omega),h1,h2,ho]at h
   cases e:ofW l tTwo with
   | error x=>rw [e]at h;cases h
   | ok ws=>exact⟨ws,rfl⟩
theorem ro_nil{n:Nat}{h:zH}{e sz:Nat}:RO [] n h (.slice none 0 0) e sz 0 []:=⟨.inl ⟨rfl,rfl,rfl⟩,fun _ hb=>(by cases hb),fun _ _ _ hb=>(by cases hb)⟩
theorem RO.ext{n n':Nat}{h h':zH}{v:Value}{e sz len:Nat}{vs:List Value}(r:RO [] n h v e sz len vs)(x:Ext h n h' n'):RO [] n' h' v e sz len vs:=r.step (x.touch []) (by simp) (by simp)
theorem ro_built{n len e sz m:Nat}{h:zH}{vs:List Value}(r:Row (n+1) h (.slice (some ⟨n,0,none⟩) len len) e sz len vs)(hi:tH (yG h n)=some (m,0,0)):RO [] (n+1) h (.slice (some ⟨n,0,none⟩) len len) e sz len vs:=
 ⟨r,fun _ _=>by simp,fun b m' z hb hx=>by
  injection hb with hb
  subst hb;rw [hi]at hx;injection hx with hx;injection hx with _ hx;injection hx with hx _;cases hx⟩
theorem build_one_ro{ty e:TypeId}(ht:oneTB P ty e=true){v:Value}(hv:v.oneCell'=true){h:zH}{n:Nat}{K:KH}
(hK:∀h',RO [] (n+1) h' (.slice (some ⟨n,0,none⟩) 1 1) e 1 1 [v]→Ext h n h' (n+1)→K h' (n+1) (.slice (some ⟨n,0,none⟩) 1 1)=true):zS P ty 1 [(0,v)] h n K=true:=by
 refine buildS_in (cs:=[v]) ?_ rfl (by unfold inf;omega) fun h' r hi x=>hK h' (ro_built r hi) x;unfold oneTB at ht;unfold xP;cases h1:und P ty <;> rw[h1]at ht <;> first|(cases ht;done)|skip
 rename_i d;cases d <;> first|(cases ht;done)|skip
 rename_i e';dsimp only at ht ⊢;cases h2:wU P e' <;> rw[h2]at ht <;> first|(cases ht;done)|skip
 rename_i z;cases h3:inf? P e' <;> rw[h3]at ht <;> first|(cases ht;done)|skip
 rename_i ei;dsimp only at ht ⊢;obtain⟨_,ht⟩:=Bool.and_eq_true_iff.1 ht;obtain⟨a1,a2⟩:=Bool.and_eq_true_iff.1 ht;have e1:=yL a1;have e2:=yL a2;rw [e1,e2];obtain⟨x,hx⟩:∃x,cellsOf z=[x]:=List.length_eq_one_iff.1 e2;rw [hx];have e3:=cellsOf_one hv
 show(match aFill (fun i=>some (Nat.mul i 1,1)) [x] [(0,v)] with
  | some cs=>some (tM cs 0)
  | none=>none)=_
 have:aFill (fun i=>some (Nat.mul i 1,1)) [x] [(0,v)]=some [v]:=by
  unfold aFill;dsimp only;rw [e3];rfl
 rw[this]
theorem build_ins{i:Ins}{sv:Value}{h:zH}{n:Nat}{K:KH}(ha:RO [] n h sv 3 1 i.args.length (i.args.map I64))
(hK:∀h',BlkRO [] (n+1) h' (.slice (some ⟨n,0,none⟩) 1 1) [i]→Ext h n h' (n+1)→K h' (n+1) (.slice (some ⟨n,0,none⟩) 1 1)=true):zS P 51 1 [(0,.agg ⟨vH i sv⟩)] h n K=true:=by
 have z:xP P 51 1 [(0,.agg ⟨vH i sv⟩)]=some (tM (vH i sv) 0):=rfl;refine buildS_in (e:=50) (sz:=9) z rfl (by unfold inf;omega) fun h' r hi x=>hK h' ⟨[sv],⟨rfl,fun j i' a h1 h2=>?_⟩,?_⟩ x
 · cases j with
   | zero=>
    simp only[List.getElem?_cons_zero,Option.some.injEq]at h1 h2;subst h1 h2;exact ha.ext x
   | succ j=>simp at h1
 · have e:qE [i] [sv]=vH i sv:=by simp[qE]
   rw[e];exact ro_built r hi
theorem num_pure(e:Int)(h:zH)(n:Nat):pA P 8 23 [I64 e] h n (I64 e):=by
 refine zZ zK mixed (hint:=hint23) l23 fun u k hk=>?_;rw [F23_eq];unfold F23;simp only[↓zD];exact zV r23 rfl (hk _ _ _ ⟨rfl,rfl,rfl⟩)
theorem itoa_zero:Lib.itoa 0=[48]:=by
 unfold Lib.itoa;rw [if_neg (by decide),show(0:Int).toNat=0 from rfl,Lib.decDigits_one (by decide)];rfl
def exF:Fct:=⟨[102],[[103]],[0],[103],[[{ Ins.z with kind:=9 }]]⟩
def exT:Tx:=[102,117,110,99,32,102,10,114,101,103,115,32,103,10,112,97,114,97,109,115,32,48,10,114,101,115,117,108,116,32,103,10,98,108,111,99,107,10,32,32,114,101,116,32,48,10,101,110,100,10]
theorem exF_plain:rG exF=true:=by decide
theorem exF_text:vG (tA exF)=exT:=by
 unfold tA qA tR exF;simp [vG,wJ,uC,sH,Ins.z,itoa_zero,Lib.join_cons,Lib.joinTail,exT]
theorem exF_print:tJ exF=exT:=by rw[printF_plain exF_plain,exF_text]
theorem exF_ins:∀b∈exF.blocks,∀i∈b,Go64 i.n:=by
 intro b hb i hi;simp only[exF,List.mem_cons,List.not_mem_nil,or_false]at hb;subst hb;simp only[List.mem_cons,List.not_mem_nil,or_false]at hi;subst hi;exact⟨by decide,by decide⟩
theorem exF_read:readS exT=(exF,0,0)∧RunOK (exT.length+1) exT St.z OfOK:=by
 have h:=readS_print (Q:=OfOK) (fun _ _ _ h=>ofOK_of h) exF_plain exF_ins (by rw[exF_print];decide);rw [exF_print]at h;exact h
theorem insAll_of{i:Ins}(h:wL i=true)(hn:Go64 i.n):InsAll i:=by
 obtain⟨_,_,⟨sa,sb,st,sf⟩,hargs,hal,hk⟩:=plainI_of h
 have hd:Go64 i.d:=by
  split at hk
  · simp only[Bool.and_eq_true]at hk;exact rS hk.2
  · split at hk
    · simp only[Bool.and_eq_true,Bool.or_eq_true,decide_eq_true_eq]at hk;rcases hk.2 with e|e
      · rw[e];exact⟨by decide,by decide⟩
      · exact rS e
    · exact rS hk
 exact⟨hd,rS sa,rS sb,hn,rS st,rS sf,fun x hx=>rS (List.all_eq_true.1 hargs x hx),by omega⟩
theorem fctAll_of{f:Fct}(h:rG f=true)(hn:∀b∈f.blocks,∀i∈b,Go64 i.n):FctAll f:=by
 obtain⟨h1,h2,h3,h4,h5,h6,h7,h8⟩:=plainF_of h;have hi:∀b∈f.blocks,∀i∈b,InsAll i:=fun b hb i hi=>insAll_of (List.all_eq_true.1 (h8 b hb).2 i hi) (hn b hb i hi);refine⟨⟨by omega,by omega,by omega,fun b hb=>⟨by have:=(h8 b hb).1;omega,fun i hib=>?_⟩⟩,hi,by omega,fun x hx=>rS (List.all_eq_true.1 h6 x hx),by omega⟩;have a:=hi b hb i hib;exact⟨a.1,by have:=a.2.2.2.2.2.2.2;omega⟩
theorem fun_one{n:Nat}{h:zH}{v:Value}{f:Fct}(a:FunAt n h v f):∃l,v = .agg ⟨l⟩∧l.length=5∧∀x∈l,x.oneCell'=true:=by
 obtain⟨vv,pv,bv,svs,rfl,r1,r2,r3,_⟩:=a;refine⟨_,rfl,rfl,fun x hx=>?_⟩;simp only[List.mem_cons,List.not_mem_nil,or_false]at hx;rcases hx with rfl|rfl|rfl|rfl|rfl
 · rfl
 · exact r1.1.one
 · exact r2.1.one
 · rfl
 · exact r3.1.one
theorem store_fun{n b:Nat}{h h0:zH}{v:Value}{f:Fct}{K:KH}(a:FunAt n h v f)(c:∃z vs,Cel h0 b z vs∧vs.length=5)(hb:b<n)(hK:∀h',(∀x,x≠b→yG h' x=yG h0 x)→(∀{h2:zH} {n2:Nat},Ext h' n h2 n2→zE P 43 h2 (ptr b 0)=some v)→K h' n undef=true) :
 zW P 43 (ptr b 0) v h0 n K=true:=by
 obtain⟨l,rfl,h5,hone⟩:=fun_one a;obtain⟨z,vs,c,hl⟩:=c;refine xU c sh43 h5 hl hone fun h2 c2 k2=>hK h2 k2 fun x=>?_;exact xA (c2.touch (x.touch []) hb (by simp)) sh43 h5 (by decide)
theorem cmp_same{f:Int→Int→Bool}{ty:TypeId}{q:Bool}{a b:Tx}{K:Bool→Bool}(h:a=b)(hK:K true=true):yB f P .eql ty q (str a) (str b) K=true:=by
 rw[vX,h];simpa using hK
theorem shp:yJ P 112 = .scal:=by kernel_rfl
theorem alive_pure{m:Int}{h:zH}{n:Nat}(hE:Env m h)(hn:8≤n):pA P 8 16 [] h n (.bool true):=by
 refine Rets.pureE (zZ zK mixed (hint:=hq0) l16 fun u k hk=>?_) (.inl rfl);rw [F16_eq];unfold F16;refine build_one_ro on23 (rN [103]) fun h1 r1 x1=>?_;refine build_one_ro on40 (v:=I64 0) rfl fun h2 r2 x2=>?_;have z1:uZ P 50 [(0,.int .i64 9)]=some (.agg ⟨vH { Ins.z with kind:=9 } (.slice none 0 0)⟩):=by kernel_rfl
 simp only[↓z1,↓zC];refine build_ins (i:={ Ins.z with kind:=9 }) ro_nil fun h3 r3 x3=>?_;refine build_one_ro on41 (v:=.slice (some ⟨n+1+1,0,none⟩) 1 1) rfl fun h4 r4 x4=>?_
 have z2:uZ P 43 [(0,.string (ByteArray.mk #[102])),(1,.slice (some ⟨n,0,none⟩) 1 1),(2,.slice (some ⟨n+1,0,none⟩) 1 1),(3,.string (ByteArray.mk #[103])),(4,.slice (some ⟨n+1+1+1,0,none⟩) 1 1)] =
  some (.agg ⟨[str [102],.slice (some ⟨n,0,none⟩) 1 1,.slice (some ⟨n+1,0,none⟩) 1 1,str [103],.slice (some ⟨n+1+1+1,0,none⟩) 1 1]⟩):=by kernel_rfl
 simp only[↓z2,↓zC];have x04:Ext h n h4 (n+1+1+1+1):=((x1.trans x2).trans x3).trans x4
 have fa:FunAt (n+1+1+1+1) h4 (.agg ⟨[str [102],.slice (some ⟨n,0,none⟩) 1 1,.slice (some ⟨n+1,0,none⟩) 1 1,str [103],.slice (some ⟨n+1+1+1,0,none⟩) 1 1]⟩) exF:=by
  refine⟨_,_,_,[.slice (some ⟨n+1+1,0,none⟩) 1 1],rfl,r1.ext ((x2.trans x3).trans x4),r2.ext (x3.trans x4),r4,rfl,fun k l v h1 h2=>?_⟩
  cases k with
  | zero=>
   simp only[exF,List.getElem?_cons_zero,Option.some.injEq]at h1 h2;subst h1 h2;exact r3.ext x4
  | succ k=>simp [exF]at h1
 generalize (Value.agg ⟨[str [102],.slice (some ⟨n,0,none⟩) 1 1,.slice (some ⟨n+1,0,none⟩) 1 1,str [103],.slice (some ⟨n+1+1+1,0,none⟩) 1 1]⟩)=fv at fa
 refine wZ ze43 fun h5 c5 x5=>?_;refine store_fun (fa.ext x5) ⟨_,_,c5,rfl⟩ (by omega) fun h6 k6 ld6=>?_;have x6:Ext h4 (n+1+1+1+1) h6 (n+1+1+1+1+1):=⟨by omega,fun b hb=>by rw[k6 b (by omega)];exact x5.2 b hb⟩;have x06:=x04.trans x6;have hE6:Env m h6:=hE.touch (x06.touch []) hn (by simp);obtain⟨er,eo⟩:=exF_read;refine uT (read_rets shp hE6 (by omega) exT (by decide) (fun _=>eo)) fun v h7 n7 ⟨x7,gv,e7,ga⟩=>?_;rw [er]at e7 ga;subst e7;dsimp only at ga;obtain⟨gl,rfl,-,-⟩:=fun_one ga;have y0:∀a b:Int,xO 0 (.tuple ⟨[.agg ⟨gl⟩,I64 a,I64 b]⟩)=some (.agg ⟨gl⟩):=fun _ _=>rfl;have y1:∀a b:Int,xO 1 (.tuple ⟨[.agg ⟨gl⟩,I64 a,I64 b]⟩)=some (I64 a):=fun _ _=>rfl;have y2:∀a b:Int,xO 2 (.tuple ⟨[.agg ⟨gl⟩,I64 a,I64 b]⟩)=some (I64 b):=fun _ _=>rfl;simp only[↓y0,↓y1,↓y2,↓zC,↓zD];refine wZ ze43 fun h8 c8 x8=>?_;refine store_fun (ga.ext x8) ⟨_,_,c8,rfl⟩ (by omega) fun h9 k9 ld9=>?_;have x9:Ext h7 n7 h9 (n7+1):=⟨by omega,fun b hb=>by rw[k9 b (by omega)];exact x8.2 b hb⟩;have x69:=x7.trans x9;have x49:=x6.trans x69
 have x09:=x04.trans x49;have l1:=ld6 x69;simp only[↓l1,↓zC];have hall:=fctAll_of exF_plain exF_ins;refine yH (print_pure (hE.touch (x09.touch []) hn (by simp)) (by have:=x09.1;omega) exF fv (fa.ext x49) hall (by rw[exF_text];decide)) ?_;rw [exF_print];have l2:=ld9 (Ext.refl h9 (n7+1));have ez:∀K,yB xN P .eql 3 true (.int .i64 0) (.int .i64 0) K=K true:=fun K=>by rw[cmpI];rfl
 refine cmp_same (a:=exT) (b:=exT) rfl ?_;simp only[↓yS];refine rL (num_pure 0 h9 (n7+1)) ?_;simp only[↓yS,↓ez,↓zQ,↓yR,↓zI,↓l1,↓l2,↓zC];refine zU (sameFunc_true exF fv _ h9 (n7+1) (fa.ext x49) (ga.ext x9) hall.1) ?_;try simp only[↓zQ,↓yR,↓zI]
 exact zV r16 (v:=.bool true) rfl (hk _ _ _ ⟨rfl,x09⟩)
theorem cmp_gtr(a b:Int)(q:Bool)(ty:TypeId)(K:Bool→Bool):yB igtB P .gtr ty q (.int .i64 a) (.int .i64 b) K=K (decide (b<a)):=by rw[cmpI,igtB_ap]
open Go.Ex Go.ChangeShapes Go.WideShapes Go.ChangeAt Go.RowKit
set_option maxRecDepth 1000000
theorem own:ownKnob P.godebug=none:=by kernel_rfl
theorem returns_and_shaped{H:Type}{enc:TypeId×Value→H}{a:Assume}{C:Checked}{os:Os}{f:FuncId}{fn:Func}{s:ChangeSpec}{conds:List PathCond}{apart fresh handsOn again:Bool}{X:World→Array Value→Prop}
(hX:∀(w w':World) (args:Array Value),w.heap=w'.heap→X w args→X w' args)
(own:ownKnob C.prog.godebug=none)(started:os.Started)(noInit:C.prog.inits.idxOf? f=none)(hfn:C.prog.funcs[f]? = some fn)
(witness:∃(w:World) (tape:Tape) (i:Input),w.os=os∧(w.forCall tape i).Shaped C.prog∧i.vars=[]∧Input.okWide C.prog (w.forCall tape i) .any w.heap.size f i∧
  ((s.pre enc C.prog fn conds apart (w.forCall tape i).memory i.args∧X (w.forCall tape i).memory i.args)∧sizedMet enc C.prog fn (OpenSpec.ofChange s) apart (w.forCall tape i).memory i.args)∧a.holds C.prog (lone (Frame.enter C.prog f i.args .normal) [] (w.forCall tape i)))
(contract:∀(W:World) (base:Nat) (args:Array Value) (ds gs:List (DataW H)) (before:List MemPlace),
  (∀(j:Nat) t v,fn.params[j]? = some t→args[j]? = some v→Value.okWide C.prog W .any base t v)→
  DataW.Whole enc C.prog fn.params.toList s.vars apart W args.toList ds gs before→
  conds.all (PathCond.test C.prog ⟨fn.params.toList,ds,s.plain.varTypes C.prog,gs⟩)=true→
  (DataW.weightsEach C.prog (fn.params.toList++s.plain.varTypes C.prog) (ds++gs)).all (·≤reachBytes)=true→X W args→W.ShapedOpen C.prog→
  a.holds C.prog (lone (Frame.enter C.prog f args .normal) [] W)→
  Calls C.prog f args W fun e W'=>∃v,e = .returned v∧s.post enc C.prog fn apart fresh handsOn again W args v W') :
 ReturnsInHanded a C os f .any (fun w args=>(s.pre enc C.prog fn conds apart w args∧X w args)∧sizedMet enc C.prog fn (OpenSpec.ofChange s) apart w args) (s.post enc C.prog fn apart fresh handsOn again):=by
 refine returnsInHanded_of_calls own started noInit witness ?_;intro w tape i _ hsh _ hok hpre hholds;obtain⟨_,_,_,fn',hfn',_,_,_,_,hval⟩:=hok;have e:fn'=fn:=Option.some.inj (hfn'.symm.trans hfn);subst e;obtain⟨⟨⟨ds,gs,before,hw,hc⟩,hx⟩,hz⟩:=hpre;have hw':=DataW.Whole.of_heap (w':=w.forCall tape i) (by rfl) hw;refine(contract (w.forCall tape i) w.heap.size i.args ds gs before hval hw' hc (hz.weights hw) (hX _ _ _ (by rfl) hx) hsh hholds).mono fun e W' ⟨v,he,hp⟩=>?_;subst he;exact ChangeSpec.post_blind hp
theorem tabIs_of_reads{W:World}{name:String}{k:IntKind}{zs:List Int}{g:Nat}{t e:TypeId}{n:Nat}
(hg:P.globalNamed name=some g)(hty:(P.globals[g]?).map (·.type)=some t)(ht:P.underlying t=some (.array n e))(he:P.underlying e=some (.int k))(hce:P.cellsOf e=1)(hct:P.cellsOf t=n)
(h:Lib.VarReads P W name (Lib.tabData k zs)):Lib.TabIs P W name k zs:=by
 obtain⟨g',t',cs,fuel,p,hg',ht',hvar,hd⟩:=h;obtain rfl:=Option.some.inj (hg.symm.trans hg');obtain rfl:=Option.some.inj (hty.symm.trans ht');unfold Lib.TabIs;rw [hvar,← Lib.cells_of_tab ht he hce hct hd]
theorem in_of_tabIs{W:World}{name:String}{k:IntKind}{zs:List Int}{g:Nat}(hT:Lib.TabIs P W name k zs)(hg:P.globalNamed name=some g):∃el fr,W.heap[g]? = some (.cells ⟨zs.map fun z=>Value.int k z⟩ el fr):=by
 unfold Lib.TabIs World.var? at hT;rw [hg]at hT;simp only[Option.bind_some]at hT;split at hT
 · rename_i cs el fr e;injection hT with hT
   exact⟨el,fr,by rw[e,hT]⟩
 · cases hT
theorem max_in{W:World}(hs:W.ShapedOpen P):∃(m:Int) (el:TypeId) (fr:Nat×Nat),W.heap[(0:Nat)]? = some (.cells ⟨[.int .i64 m]⟩ el fr):=by
 have h0:((begin P (fun _ _=>0) default).world.heap[(0:Nat)]?).bind Obj.row? = some (#[.int .i64 0],3):=by kernel_rfl
 obtain⟨cs,hh,hsz,hr⟩:=hs.1 0 _ _ (of_decide_eq_true (by kernel_rfl)) h0;obtain⟨m,hm⟩:=cell_of_shapedOpen_int (k:=.i64) hs (of_decide_eq_true (by kernel_rfl)) h0 rfl (by kernel_rfl) (by kernel_rfl) Tryz.underlying3;refine⟨m,3,(0,0),hh.trans ?_⟩;unfold World.cell? at hm;dsimp only at hm;rw [hh]at hm;have hm':cs[0]? = some (.int .i64 m):=hm;have h1:cs.size=1:=hsz;congr 2
 apply Array.ext
 · exact h1
 · intro i i1 i2;obtain rfl:i=0:=by omega
   rw[Array.getElem?_eq_getElem (by omega)]at hm';injection hm'
theorem tabs_in {W:World} (h1:Lib.TabIs P W "internal/strconv.uint64pow10" .u64 Lib.pow10Tab) (hs:W.ShapedOpen P):∃m,oF W (tb m):=by
 obtain⟨m,el,fr,e⟩:=max_in hs;refine⟨m,fun p hp=>?_⟩;simp only[tb,List.mem_cons,List.not_mem_nil,or_false]at hp;rcases hp with rfl|rfl
 · exact⟨el,fr,e⟩
 · exact in_of_tabIs (g:=1) h1 (by kernel_rfl)
theorem row_es (u:TypeId) (h:P.typeName? 3 u=some "*errors.errorString"):u=258:=
 typeName_ptr_named (nm:= "errors.errorString") (by rw[show "*" ++ "errors.errorString" = "*errors.errorString" by decide];kernel_rfl) (by kernel_rfl) (by decide) u (by rw[show "*" ++ "errors.errorString" = "*errors.errorString" by decide];exact h)
theorem go_of{a:Int}(w:(Lit.int .i64 a).wf=true):Go.Ex.Vir.Go64 a:=by
 unfold Lit.wf at w;rw [Bool.and_eq_true]at w;have e1:IntKind.i64.min = -9223372036854775808:=by decide
 have e2:IntKind.i64.max=9223372036854775807:=by decide
 have h1:=of_decide_eq_true w.1;have h2:=of_decide_eq_true w.2;rw [e1]at h1;rw [e2]at h2;exact⟨h1,h2⟩
set_option maxRecDepth 100000
theorem rletter_pure(c:Int)(h:zH)(n:Nat):pA P 8 87 [.int .u8 c] h n (.bool (qF c)):=by
 refine zZ zK mixed (hint:=hint87) l87 fun u k hk=>?_;rw [F87_eq];unfold F87
 repeat' (first
  | refine zV r87 (v:=.bool _) rfl (hk _ _ _ ⟨congrArg Value.bool ?_,rfl,rfl⟩)
  | with_reducible first|refine tV (fun _=>?_) (fun _=>?_)|refine tW (fun _=>?_) (fun _=>?_)|refine vN (fun _=>?_) (fun _=>?_)|refine vO (fun _=>?_) (fun _=>?_)|refine vI (fun _=>?_) (fun _=>?_)|refine vJ (fun _=>?_) (fun _=>?_)|refine vD (fun _=>?_) (fun _=>?_)|refine vK (fun _=>?_) (fun _=>?_)|refine vL (fun _=>?_) (fun _=>?_)|refine vM (fun _=>?_) (fun _=>?_)
  | simp only[↓zD,↓zI,↓zC,↓zF,↓xK,↓xI,↓zQ,↓yS,↓xJ,↓wP,↓wT,↓uB,↓yR,↓yV,↓rM,↓sR,↓wF,↓yY,↓xM,↓yP,↓xQ,↓xD,↓xR,↓zM,↓yC,↓zN,↓yD,Bool.not_true,Bool.not_false,yW,yI])
 all_goals (unfold qF;first|exact(decide_eq_true (by omega)).symm|exact(decide_eq_false (by omega)).symm)
theorem rdigit_pure(c:Int)(h:zH)(n:Nat):pA P 8 88 [.int .u8 c] h n (.bool (digit c)):=by
 refine zZ zK mixed (hint:=hint88) l88 fun u k hk=>?_;rw [F88_eq];unfold F88
 repeat' (first
  | refine zV r88 (v:=.bool _) rfl (hk _ _ _ ⟨congrArg Value.bool ?_,rfl,rfl⟩)
  | with_reducible first|refine tV (fun _=>?_) (fun _=>?_)|refine tW (fun _=>?_) (fun _=>?_)|refine vN (fun _=>?_) (fun _=>?_)|refine vO (fun _=>?_) (fun _=>?_)|refine vI (fun _=>?_) (fun _=>?_)|refine vJ (fun _=>?_) (fun _=>?_)|refine vD (fun _=>?_) (fun _=>?_)|refine vK (fun _=>?_) (fun _=>?_)|refine vL (fun _=>?_) (fun _=>?_)|refine vM (fun _=>?_) (fun _=>?_)
  | simp only[↓zD,↓zI,↓zC,↓zF,↓xK,↓xI,↓zQ,↓yS,↓xJ,↓wP,↓wT,↓uB,↓yR,↓yV,↓rM,↓sR,↓wF,↓yY,↓xM,↓yP,↓xQ,↓xD,↓xR,↓zM,↓yC,↓zN,↓yD,Bool.not_true,Bool.not_false,yW,yI])
 all_goals (unfold digit;first|exact(decide_eq_true (by omega)).symm|exact(decide_eq_false (by omega)).symm)
theorem rname_loop(s:Tx)(fst:Bool)(h:zH)(n:Nat)(d:List Deferred)(u:Option yF)(ka:KX)(hs:s.length<1000):∀(m i:Nat),m+i=s.length→∀t,zA t 0=str s→zA t 3 = .bool fst→zA t 4 = .int .i64 i→
 ((s.drop i).all nameB=true→∀t',zA t' 3 = .bool fst→ka (.exit 0) t' ⟨d,u,h,n⟩=true)→((s.drop i).all nameB=false→∀t',zA t' 2 = .bool false→ka .ret t' ⟨d,u,h,n⟩=true)→
 lpS P 8 1000005 ⟨49,none,false⟩ t ⟨d,u,h,n⟩ ka=true:=by
 intro m;have hlen:zX P .len [9] [str s] h=some (.int .i64 (s.length:Nat)):=len_strL us9 s [] h
 induction m with
 | zero=>
  intro i hi t h0 h3 h4 hE hR;refine yK zK mixed (hint:=hint49) l49 lp49_1000005 ?_;rw [B49_1000005_eq];unfold B49_1000005;rw [h0,h3,h4];have e3:wB (i:Nat) (s.length:Nat)=false:=by rw[zT];exact decide_eq_false (by omega)
  simp only[↓zF,↓zD,↓zI];refine zO ?_;simp only[↓hlen,↓zC,↓zD,↓e3,↓zY,↓wT];refine hE ?_ _ rfl;rw [List.drop_eq_nil_of_le (by omega)];rfl
 | succ m ih=>
  intro i hi t h0 h3 h4 hE hR;have hlt:i<s.length:=by omega
  have hx:s[i]? = some (s[i]):=List.getElem?_eq_getElem hlt;have hd:s.drop i=s[i]::s.drop (i+1):=List.drop_eq_getElem_cons hlt;refine yK zK mixed (hint:=hint49) l49 lp49_1000005 ?_;rw [B49_1000005_eq];unfold B49_1000005;rw [h0,h3,h4];generalize s[i]=c at hx hd
  rw[hd]at hE hR;have hix:rF P 9 (str s) (.int .i64 i)=some (.int .u8 (c.toNat:Nat)):=index_strL us9 s .i64 i c hx;have e3:wB (i:Nat) (s.length:Nat)=true:=by rw[zT];exact decide_eq_true (by omega)
  have ea:(c::s.drop (i+1)).all nameB=((qF c.toNat || digit c.toNat) && (s.drop (i+1)).all nameB):=rfl;rw [ea]at hE hR;simp only[↓zF,↓zD,↓zI];refine zO ?_;simp only[↓hlen,↓zC,↓zD,↓e3,↓zY,↓wP];refine wG (fun t w=>zA t 0=str s∧zA t 3 = .bool fst∧zA t 4=I64 (i:Nat)∧w=⟨d,u,h,n⟩∧(qF c.toNat || digit c.toNat)=true) (fun t w q=>?_) (fun kk hkk=>?_)
  · obtain⟨p0,p3,p4,rfl,p5⟩:=q;rw [p5]at hE hR;simp only[p0,p3,p4,↓zF,↓zD,↓zI];refine zO ?_;refine vT (by omega) ?_;exact ih (i+1) (by omega) _ rfl rfl rfl hE hR
  · try simp only[↓hix,↓zC,↓zD]
    refine zU (rletter_pure _ h n) ?_;try simp only[↓hix,↓zC,↓zD]
    refine zU (rdigit_pure _ h n) ?_
    cases hl:qF c.toNat <;> cases hdg:digit c.toNat <;> rw[hl,hdg]at hE hR hkk <;> simp only[↓xD,↓zC,↓zI,↓Bool.not_true,↓Bool.not_false,↓yS,↓xJ,↓yR,↓yV,↓wP,↓wT] <;>
     first
     | exact hR rfl _ rfl
     | exact hkk _ _ ⟨rfl,rfl,rfl,rfl,rfl⟩
theorem rQ(s:Tx)(h:zH)(n:Nat):pA P 8 49 [str s] h n (.bool (named s)):=by
 refine zZ zK mixed (hint:=hint49) l49 fun u k hk=>?_;rw [F49_eq];unfold F49;rw [cmpS_eq]
 cases s with
 | nil =>
  have e0:(([]:List UInt8) == (ByteArray.mk #[]).data.toList)=true:=rfl;show(fun b=>_) (([]:List UInt8) == (ByteArray.mk #[]).data.toList)=true;rw [e0];dsimp only
  repeat' (first
   | exact zV r49 (v:=.bool _) rfl (hk _ _ _ ⟨rfl,rfl,rfl⟩)
   | with_reducible first|refine tV (fun _=>?_) (fun _=>?_)|refine tW (fun _=>?_) (fun _=>?_)|refine vN (fun _=>?_) (fun _=>?_)|refine vO (fun _=>?_) (fun _=>?_)|refine vI (fun _=>?_) (fun _=>?_)|refine vJ (fun _=>?_) (fun _=>?_)|refine vD (fun _=>?_) (fun _=>?_)|refine vK (fun _=>?_) (fun _=>?_)|refine vL (fun _=>?_) (fun _=>?_)|refine vM (fun _=>?_) (fun _=>?_)
   | simp only[↓zD,↓zI,↓zC,↓zF,↓xK,↓xI,↓zQ,↓yS,↓xJ,↓wP,↓wT,↓uB,↓yR,↓yV,↓rM,↓sR,↓wF,↓yY,↓xM,↓yP,↓xQ,↓xD,↓xR,↓zM,↓yC,↓zN,↓yD,Bool.not_true,Bool.not_false,yW,yI])
 | cons c r=>
  have e0:((c::r) == (ByteArray.mk #[]).data.toList)=false:=rfl;show(fun b=>_) ((c::r) == (ByteArray.mk #[]).data.toList)=true;rw [e0];dsimp only;have hix:rF P 9 (str (c::r)) (.int .i64 0)=some (.int .u8 (c.toNat:Nat)):=index_strL us9 (c::r) .i64 0 c rfl;have hlen:zX P .len [9] [str (c::r)] h=some (.int .i64 ((c::r).length:Nat)):=len_strL us9 (c::r) [] h;have hn:named (c::r)=(decide ((c::r).length≤20) && (qF c.toNat && (c::r).all nameB)):=rfl;rw [hn]at hk;simp only[↓sR,↓yS,↓hlen,↓zC,↓zD];refine vD (fun hgt=>?_) (fun hle=>?_)
  · rw[decide_eq_false (by omega)]at hk;simp only[↓yV,↓zI,↓wP];exact zV r49 rfl (hk _ _ _ ⟨rfl,rfl,rfl⟩)
  · have hle2:(c::r).length≤20:=by omega
    rw[decide_eq_true hle2]at hk;simp only[↓yV,↓zI,↓wT,↓hix,↓zC,↓zD];refine zU (rletter_pure _ h n) ?_;refine rname_loop (c::r) (qF c.toNat) h n [] u _ (by omega) _ 0 (Nat.add_zero _) _ rfl rfl rfl ?_ ?_
    · intro ha t' t3;rw [List.drop_zero]at ha;rw [ha]at hk;simp only[↓zM,↓zN];simp only[t3,↓zI];refine zO ?_;exact zV r49 (v:=.bool (qF c.toNat)) rfl (hk _ _ _ ⟨by simp,rfl,rfl⟩)
    · intro ha t' h2;rw [List.drop_zero]at ha;rw [ha]at hk;simp only[↓yC,↓yD];exact zV r49 h2 (hk _ _ _ ⟨by simp,rfl,rfl⟩)
theorem rsmall_pure(c:Int)(h:zH)(n:Nat):pA P 8 50 [I64 c] h n (.bool (xS c)):=by
 refine zZ zK mixed (hint:=hint50) l50 fun u k hk=>?_;rw [F50_eq];unfold F50
 repeat' (first
  | refine zV r50 (v:=.bool _) rfl (hk _ _ _ ⟨congrArg Value.bool ?_,rfl,rfl⟩)
  | with_reducible first|refine tV (fun _=>?_) (fun _=>?_)|refine tW (fun _=>?_) (fun _=>?_)|refine vN (fun _=>?_) (fun _=>?_)|refine vO (fun _=>?_) (fun _=>?_)|refine vI (fun _=>?_) (fun _=>?_)|refine vJ (fun _=>?_) (fun _=>?_)|refine vD (fun _=>?_) (fun _=>?_)|refine vK (fun _=>?_) (fun _=>?_)|refine vL (fun _=>?_) (fun _=>?_)|refine vM (fun _=>?_) (fun _=>?_)
  | simp only[↓zD,↓zI,↓zC,↓zF,↓xK,↓xI,↓zQ,↓yS,↓xJ,↓wP,↓wT,↓uB,↓yR,↓yV,↓rM,↓sR,↓wF,↓yY,↓xM,↓yP,↓xQ,↓xD,↓xR,↓zM,↓yC,↓zN,↓yD,Bool.not_true,Bool.not_false,yW,yI])
 all_goals (unfold xS;first|exact(decide_eq_true (by omega)).symm|exact(decide_eq_false (by omega)).symm)
theorem ropName_pure(x:Tx)(h:zH)(n:Nat):pA P 8 107 [str x] h n (.bool (named x && !wordB x)):=by
 refine zZ zK mixed (hint:=hq0) l107 fun u k hk=>?_;rw [F107_eq];unfold F107;refine zU (rQ x h n) ?_;have hw:wordB x=((x == tConst) || ((x == tCopy) || ((x == tLoad) || ((x == pU) || false)))):=rfl;rw [hw]at hk;have c1:∀K,yB pW P .neq 9 true (str x) (.string (ByteArray.mk #[99,111,110,115,116])) K=K (!(x == tConst)):=fun K=>cmpSL_ne ..;have c2:∀K,yB pW P .neq 9 true (str x) (.string (ByteArray.mk #[99,111,112,121])) K=K (!(x == tCopy)):=fun K=>cmpSL_ne ..;have c3:∀K,yB pW P .neq 9 true (str x) (.string (ByteArray.mk #[108,111,97,100])) K=K (!(x == tLoad)):=fun K=>cmpSL_ne ..;have c4:∀K,yB pW P .neq 9 true (str x) (.string (ByteArray.mk #[99,97,108,108])) K=K (!(x == pU)):=fun K=>cmpSL_ne ..
 cases h0:named x <;> cases h1:(x == tConst) <;> cases h2:(x == tCopy) <;> cases h3:(x == tLoad) <;> cases h4:(x == pU) <;> rw[h0,h1,h2,h3,h4]at hk <;>
  simp only[↓yS,↓xJ,↓c1,↓c2,↓c3,↓c4,h1,h2,h3,h4,↓yR,↓yV,↓zI,↓Bool.not_true,↓Bool.not_false] <;>
  exact zV r107 rfl (hk _ _ _ ⟨rfl,rfl,rfl⟩)
theorem rem_nat(ty:TypeId)(q:Bool)(u m:Nat)(hm:m≠0):qBin P .rem ty q (.int .i64 u) (.int .i64 m)=some (I64 ((u % m:Nat):Int)):=by
 show(cond (xN (m:Int) 0) none (some (.int .i64 (Int.tmod u m))):Option Value)=_;have e:xN (m:Int) 0=false:=by rw[xZ];exact decide_eq_false (by omega)
 rw[e];rfl
theorem wrap_nat{q:Nat}(h:q<9223372036854775808):IntKind.i64.wrap (q:Int)=(q:Int):=by
 unfold IntKind.wrap;simp [IntKind.bits,IntKind.signed];omega
theorem quo_nat(ty:TypeId)(q:Bool)(u m:Nat)(hm:m≠0)(hu:u<9223372036854775808):qBin P .quo ty q (.int .i64 u) (.int .i64 m)=some (I64 ((u / m:Nat):Int)):=by
 show(cond (xN (m:Int) 0) none (some (.int .i64 (wH .i64 (Int.tdiv u m)))):Option Value)=_;have e:xN (m:Int) 0=false:=by rw[xZ];exact decide_eq_false (by omega)
 rw[e,tN];have e2:Int.tdiv (u:Int) (m:Int)=((u / m:Nat):Int):=rfl;have hle:u / m≤u:=Nat.div_le_self u m;rw [e2,wrap_nat (by omega)];rfl
theorem neg_i64(a:Int)(h: -9223372036854775808<a∧a<9223372036854775808):aUn .neg (.int .i64 a)=some (I64 (-a)):=by
 show some (Value.int .i64 (wH .i64 (isub 0 a)))=_;rw [isub_eq,tN]
 have e3:IntKind.i64.wrap (0 - a) = -a:=by
  unfold IntKind.wrap;simp [IntKind.bits,IntKind.signed];omega
 rw[e3]
theorem dig0(h:zH):uJ P h 9 (.string (ByteArray.mk #[48,49,50,51,52,53,54,55,56,57])) (some (.int .i64 ((0:Nat):Int))) (some (.int .i64 (((0:Nat):Int)+1))) none=some (str [UInt8.ofNat (48+0)]):=by kernel_rfl
theorem dig1(h:zH):uJ P h 9 (.string (ByteArray.mk #[48,49,50,51,52,53,54,55,56,57])) (some (.int .i64 ((1:Nat):Int))) (some (.int .i64 (((1:Nat):Int)+1))) none=some (str [UInt8.ofNat (48+1)]):=by kernel_rfl
theorem dig2(h:zH):uJ P h 9 (.string (ByteArray.mk #[48,49,50,51,52,53,54,55,56,57])) (some (.int .i64 ((2:Nat):Int))) (some (.int .i64 (((2:Nat):Int)+1))) none=some (str [UInt8.ofNat (48+2)]):=by kernel_rfl
theorem dig3(h:zH):uJ P h 9 (.string (ByteArray.mk #[48,49,50,51,52,53,54,55,56,57])) (some (.int .i64 ((3:Nat):Int))) (some (.int .i64 (((3:Nat):Int)+1))) none=some (str [UInt8.ofNat (48+3)]):=by kernel_rfl
theorem dig4(h:zH):uJ P h 9 (.string (ByteArray.mk #[48,49,50,51,52,53,54,55,56,57])) (some (.int .i64 ((4:Nat):Int))) (some (.int .i64 (((4:Nat):Int)+1))) none=some (str [UInt8.ofNat (48+4)]):=by kernel_rfl
theorem dig5(h:zH):uJ P h 9 (.string (ByteArray.mk #[48,49,50,51,52,53,54,55,56,57])) (some (.int .i64 ((5:Nat):Int))) (some (.int .i64 (((5:Nat):Int)+1))) none=some (str [UInt8.ofNat (48+5)]):=by kernel_rfl
theorem dig6(h:zH):uJ P h 9 (.string (ByteArray.mk #[48,49,50,51,52,53,54,55,56,57])) (some (.int .i64 ((6:Nat):Int))) (some (.int .i64 (((6:Nat):Int)+1))) none=some (str [UInt8.ofNat (48+6)]):=by kernel_rfl
theorem dig7(h:zH):uJ P h 9 (.string (ByteArray.mk #[48,49,50,51,52,53,54,55,56,57])) (some (.int .i64 ((7:Nat):Int))) (some (.int .i64 (((7:Nat):Int)+1))) none=some (str [UInt8.ofNat (48+7)]):=by kernel_rfl
theorem dig8(h:zH):uJ P h 9 (.string (ByteArray.mk #[48,49,50,51,52,53,54,55,56,57])) (some (.int .i64 ((8:Nat):Int))) (some (.int .i64 (((8:Nat):Int)+1))) none=some (str [UInt8.ofNat (48+8)]):=by kernel_rfl
theorem dig9(h:zH):uJ P h 9 (.string (ByteArray.mk #[48,49,50,51,52,53,54,55,56,57])) (some (.int .i64 ((9:Nat):Int))) (some (.int .i64 (((9:Nat):Int)+1))) none=some (str [UInt8.ofNat (48+9)]):=by kernel_rfl
theorem digit_slice(h:zH)(r:Nat)(hr:r<10):uJ P h 9 (.string (ByteArray.mk #[48,49,50,51,52,53,54,55,56,57])) (some (.int .i64 (r:Int))) (some (.int .i64 ((r:Int)+1))) none=some (str [UInt8.ofNat (48+r)]):=by
 have h10:r=0∨r=1∨r=2∨r=3∨r=4∨r=5∨r=6∨r=7∨r=8∨r=9:=by omega
 rcases h10 with rfl|rfl|rfl|rfl|rfl|rfl|rfl|rfl|rfl|rfl
 · exact dig0 h
 · exact dig1 h
 · exact dig2 h
 · exact dig3 h
 · exact dig4 h
 · exact dig5 h
 · exact dig6 h
 · exact dig7 h
 · exact dig8 h
 · exact dig9 h
theorem decDigits_len(u:Nat)(hu:u<9223372036854775808):(Lib.decDigits u).length<30:=by
 have h1:=Lib.itoa_length_le (u:Int) (by omega) (by omega);rw [Vir.itoa_nat]at h1;omega
theorem rnumber_nat:∀(u:Nat),u<9223372036854775808→∀(h:zH) (n:Nat),pA P 8 48 [I64 (u:Int)] h n (str (Lib.decDigits u)):=by
 intro u
 induction u using Nat.strongRecOn with
 | _ u ih=>
  intro hu h n;refine zZ zK mixed (hint:=hint48) l48 fun u' k hk=>?_;rw [F48_eq];unfold F48;have e0:wB (u:Int) 0=false:=by rw[zT];exact decide_eq_false (by omega)
  have r10:qBin P .rem 3 true (.int .i64 (u:Int)) (.int .i64 10)=some (I64 ((u % 10:Nat):Int)):=rem_nat 3 true u 10 (by decide);have q10:qBin P .quo 3 true (.int .i64 (u:Int)) (.int .i64 10)=some (I64 ((u / 10:Nat):Int)):=quo_nat 3 true u 10 (by decide) hu;simp only[↓zD,↓e0,↓zY,↓wT,↓r10,↓zC];refine vT (by omega) ?_;have hlt:u % 10<10:=Nat.mod_lt _ (by decide);simp only[↓digit_slice h (u % 10) hlt,↓zC];by_cases h9:u<10
  · have e9:wB 9 (u:Int)=false:=by rw[zT];exact decide_eq_false (by omega)
    simp only[↓e9,↓zY,↓wT];rw [Lib.decDigits,dif_pos h9]at hk;rw [Nat.mod_eq_of_lt h9];exact zV r48 rfl (hk _ _ _ ⟨rfl,rfl,rfl⟩)
  · have e9:wB 9 (u:Int)=true:=by rw[zT];exact decide_eq_true (by omega)
    simp only[↓e9,↓zY,↓wP,↓q10,↓zC,↓zD];refine yH (ih (u / 10) (by omega) (by omega) h n) ?_;have hl:=decDigits_len (u / 10) (by omega);refine yE (by simp;omega) ?_;rw [Lib.decDigits,dif_neg h9]at hk;exact zV r48 rfl (hk _ _ _ ⟨rfl,rfl,rfl⟩)
theorem itoa_min:Lib.itoa (-9223372036854775808)=[45,57,50,50,51,51,55,50,48,51,54,56,53,52,55,55,53,56,48,56]:=by
 have e:Lib.itoa (-9223372036854775808)=45::Lib.decDigits 9223372036854775808:=by unfold Lib.itoa;rw [if_pos (by omega)];rfl
 rw[e];repeat (rw [Lib.decDigits];simp only[Nat.reduceLT,Nat.reduceDiv,Nat.reduceMod,Nat.reduceAdd,dite_true,dite_false,↓reduceDIte])
 rfl
theorem rnumber_pure(x:Int)(hx:Go64 x)(h:zH)(n:Nat):pA P 8 48 [I64 x] h n (str (Lib.itoa x)):=by
 obtain⟨x1,x2⟩:=hx;by_cases h0:0≤x
 · obtain⟨u,rfl⟩:=Int.eq_ofNat_of_zero_le h0;have e:Lib.itoa ((u:Nat):Int)=Lib.decDigits u:=Vir.itoa_nat u;rw [e];exact rnumber_nat u (by omega) h n
 · refine zZ zK mixed (hint:=hint48) l48 fun u' k hk=>?_;rw [F48_eq];unfold F48;have e0:wB x 0=true:=by rw[zT];exact decide_eq_true (by omega)
   simp only[↓zD,↓e0,↓zY,↓wP];by_cases hm:x = -9223372036854775808
   · have e1:xN x (-9223372036854775808)=true:=by rw[xZ];exact decide_eq_true hm
     simp only[↓e1,↓zY,↓wP];rw [hm,itoa_min]at hk;exact zV r48 rfl (hk _ _ _ ⟨rfl,rfl,rfl⟩)
   · have e1:xN x (-9223372036854775808)=false:=by rw[xZ];exact decide_eq_false hm
     simp only[↓e1,↓zY,↓wT,↓neg_i64 x ⟨by omega,by omega⟩,↓zC,↓zD];obtain⟨u,hu⟩:=Int.eq_ofNat_of_zero_le (show 0≤-x by omega);rw [hu];refine yH (rnumber_nat u (by omega) h n) ?_;have hl:=decDigits_len u (by omega);refine yE (a:=[45]) (by simp;omega) ?_
     have e:Lib.itoa x=[45]++Lib.decDigits u:=by
      have:x = -(u:Int):=by omega
      rw[this,Vir.itoa_minus (by omega),Vir.itoa_nat];rfl
     rw[e]at hk;exact zV r48 rfl (hk _ _ _ ⟨rfl,rfl,rfl⟩)
theorem vU(x:Int)(hx:Go64 x)(h:zH)(n:Nat):pA P 8 115 [I64 x] h n (str (Lib.itoa x)):=by
 refine zZ zK mixed (hint:=hint115) l115 fun u' k hk=>?_;rw [F115_eq];unfold F115;simp only[↓zD];refine yH (rnumber_pure x hx h n) ?_;exact zV r115 rfl (hk _ _ _ ⟨rfl,rfl,rfl⟩)
def numsT(ns:List Int):Tx:=ns.flatMap fun x=>32::Lib.itoa x
theorem numsT_len{ns:List Int}(h:∀x∈ns,Go64 x):(numsT ns).length≤ns.length*22:=by
 induction ns with
 | nil=>exact Nat.zero_le _
 | cons x r ih=>
  have h1:=Vir.itoa_len (h x (List.mem_cons_self ..));have h2:=ih fun y hy=>h y (List.mem_cons_of_mem _ hy);have e:numsT (x::r)=32::Lib.itoa x++numsT r:=rfl;rw [e,List.length_append,List.length_cons,List.length_cons];omega
theorem numsT_take{ns:List Int}{i:Nat}(hi:i<ns.length):numsT (ns.take (i+1))=numsT (ns.take i)++[32]++Lib.itoa ns[i]:=by
 have e8:ns.take (i+1)=ns.take i++[ns[i]]:=by
  rw[List.take_add_one,List.getElem?_eq_getElem hi];rfl
 rw[e8];unfold numsT;rw [List.flatMap_append];simp
theorem nums_loop(ns:List Int)(hns:∀x∈ns,Go64 x)(sv:Value)(h:zH)(n:Nat)(u:Option yF)(ka:KX)(hr:Row n h sv 3 1 ns.length (ns.map I64))(hlen:ns.length<40000):∀(m i:Nat),m+i=ns.length→∀t,zA t 0=sv→zA t 3=str (numsT (ns.take i))→zA t 4=I64 (i:Nat)→
 (∀t',zA t' 3=str (numsT ns)→ka (.exit 0) t' ⟨[],u,h,n⟩=true)→
 lpS P 8 1000003 ⟨61,none,false⟩ t ⟨[],u,h,n⟩ ka=true:=by
 intro m;have fl:=yX (P:=P) us40 hr [] h
 induction m with
 | zero=>
  intro i hi t t0 t3 t4 hE;refine yK zK mixed (hint:=hint61) l61 lp61_1000003 ?_;rw [B61_1000003_eq];unfold B61_1000003;rw [t0,t3,t4];have e3:wB (i:Nat) (ns.length:Nat)=false:=by rw[zT];exact decide_eq_false (by omega)
  simp only[↓zF,↓zD];refine zO ?_;simp only[↓fl,↓zC,↓zD,↓e3,↓zY,↓wT];refine hE _ ?_;rw [show i=ns.length by omega,List.take_length];rfl
 | succ m ih=>
  intro i hi t t0 t3 t4 hE;have hlt:i<ns.length:=by omega
  obtain⟨q,q1,q2⟩:=xG (P:=P) (k:=.i64) hr ix40 (tl:=3) sh3 (i:=i) (x:=I64 ns[i]) (by rw[List.getElem?_map,List.getElem?_eq_getElem hlt];rfl);have hg:=hns _ (List.getElem_mem hlt);have hl1:=numsT_len (ns:=ns.take i) fun x hx=>hns x (List.mem_of_mem_take hx);have hl2:(ns.take i).length≤40000:=by rw[List.length_take];omega
  have hl3:=Vir.itoa_len hg;have et:=numsT_take hlt;generalize hy:ns[i]=y at q2 hg hl3 et
  refine yK zK mixed (hint:=hint61) l61 lp61_1000003 ?_;rw [B61_1000003_eq];unfold B61_1000003;rw [t0,t3,t4];have e3:wB (i:Nat) (ns.length:Nat)=true:=by rw[zT];exact decide_eq_true (by omega)
  simp only[↓zF,↓zD];refine zO ?_;simp only[↓fl,↓zC,↓zD,↓e3,↓zY,↓wP];refine wG (fun t w=>zA t 0=sv∧zA t 3=str (numsT (ns.take (i+1)))∧zA t 4=I64 (i:Nat)∧w=⟨[],u,h,n⟩) (fun t w q=>?_) (fun kk hkk=>?_)
  · obtain⟨p0,p3,p4,rfl⟩:=q;simp only[p0,p3,p4,↓zF,↓zD];refine zO ?_;refine vT (by omega) ?_;exact ih (i+1) (by omega) _ rfl rfl rfl hE
  · refine yE (b:=[32]) (by simp;omega) ?_;simp only[↓q1,↓q2,↓zC,↓zD];refine yH (vU y hg h n) ?_;refine yE (by simp;omega) ?_;exact hkk _ _ ⟨rfl,congrArg str et.symm,rfl,rfl⟩
theorem nums_pure(ns:List Int)(hns:∀x∈ns,Go64 x)(sv:Value)(h:zH)(n:Nat)(hr:Row n h sv 3 1 ns.length (ns.map I64))(hlen:ns.length<40000):pA P 8 61 [sv] h n (str (numsT ns)):=by
 refine zZ zK mixed (hint:=hint61) l61 fun u k hk=>?_;rw [F61_eq];unfold F61;refine nums_loop ns hns sv h n u _ hr hlen ns.length 0 (Nat.add_zero _) _ rfl rfl rfl ?_;intro t' t3;simp only[↓zM,↓zN];simp only[t3,↓zF];refine zO ?_;exact zV r61 rfl (hk _ _ _ ⟨rfl,rfl,rfl⟩)
def uA(i:Ins):Ins:=
 if i.kind=1 then { Ins.z with kind:=i.kind,d:=i.d,n:=i.n }
 else if i.kind=2∨i.kind=4 then { Ins.z with kind:=i.kind,d:=i.d,a:=i.a }
 else if i.kind=3 then { Ins.z with kind:=i.kind,d:=i.d,name:=i.name,args:=i.args }
 else if i.kind=5 then { Ins.z with kind:=i.kind,a:=i.a,b:=i.b }
 else if i.kind=6 then { Ins.z with kind:=i.kind,d:=i.d,name:=i.name,args:=i.args }
 else if i.kind=7 then { Ins.z with kind:=i.kind,a:=i.a,t:=i.t,f:=i.f }
 else if i.kind=8 then { Ins.z with kind:=i.kind,t:=i.t }
 else if i.kind=9 then { Ins.z with kind:=i.kind,a:=i.a }
 else { Ins.z with kind:=i.kind }
def StC(n:Nat)(h0:zH)(i:Ins)(sv:Value)(h':zH)(j:Ins)(sw:Value):Prop:=
 Cel h' n 0 (vH i sv)∧(∃vs,vs.length=9∧Cel h' (n+1) (50+1) vs)∧Cel h' (n+1+1) (50+1) (vH j sw)∧Ext h0 n h' (n+1+1+1)
def RDc(n:Nat)(h0:zH)(u:Option yF)(i:Ins)(sv:Value)(t:Fr)(w:W):Prop:=
 zA t 2=ptr (n+1) 0∧zA t 3=ptr (n+1+1) 0∧∃h' sw,w=⟨[],u,h',n+1+1+1⟩∧StC n h0 i sv h' (uA i) sw∧((sw=sv∧(uA i).args=i.args)∨(sw = .slice none 0 0∧(uA i).args=[]))
theorem clear_rets(i:Ins)(sv:Value)(h:zH)(n:Nat)(hs:sv.oneCell'=true) :
 Rets P 8 106 [.agg ⟨vH i sv⟩] h n fun v h' n'=>Ext h n h' n'∧∃sw,v = .agg ⟨vH (uA i) sw⟩∧((sw=sv∧(uA i).args=i.args)∨(sw = .slice none 0 0∧(uA i).args=[])):=by
 refine zZ zK mixed (hint:=hint106) l106 fun u k hk=>?_;rw [F106_eq];unfold F106;refine tE (tQ hs) fun h1 c1 x1=>?_;have c1:Cel h1 n 0 (vH i sv):=c1;refine wZ ze50 fun h2 c2 x2=>?_;have c12:Cel h2 n 0 (vH i sv):=Cel.touch c1 (x2.touch []) (by omega) (by simp);have L0:∀{h'},Cel h' n 0 (vH i sv)→zE P 3 h' (ptr n 0)=some (I64 i.kind):=fun c=>zG c sh3 rfl;have L1:∀{h'},Cel h' n 0 (vH i sv)→zE P 3 h' (.pointer (some ⟨n,1,none⟩))=some (I64 i.d):=fun c=>zG c sh3 rfl;have L2:∀{h'},Cel h' n 0 (vH i sv)→zE P 3 h' (.pointer (some ⟨n,2,none⟩))=some (I64 i.a):=fun c=>zG c sh3 rfl;have L3:∀{h'},Cel h' n 0 (vH i sv)→zE P 3 h' (.pointer (some ⟨n,3,none⟩))=some (I64 i.b):=fun c=>zG c sh3 rfl;have L4:∀{h'},Cel h' n 0 (vH i sv)→zE P 3 h' (.pointer (some ⟨n,4,none⟩))=some (I64 i.n):=fun c=>zG c sh3 rfl;have L5:∀{h'},Cel h' n 0 (vH i sv)→zE P 9 h' (.pointer (some ⟨n,5,none⟩))=some (str i.name):=fun c=>zG c sh9 rfl
 have L6:∀{h'},Cel h' n 0 (vH i sv)→zE P 40 h' (.pointer (some ⟨n,6,none⟩))=some sv:=fun c=>zG c sh40 rfl;have L7:∀{h'},Cel h' n 0 (vH i sv)→zE P 3 h' (.pointer (some ⟨n,7,none⟩))=some (I64 i.t):=fun c=>zG c sh3 rfl;have L8:∀{h'},Cel h' n 0 (vH i sv)→zE P 3 h' (.pointer (some ⟨n,8,none⟩))=some (I64 i.f):=fun c=>zG c sh3 rfl;have zb:uZ P 50 [(0,.int .i64 i.kind)]=some (.agg ⟨vH { Ins.z with kind:=i.kind } (.slice none 0 0)⟩):=by kernel_rfl
 simp only[↓uK,↓zC,↓L0 c12,↓zD,↓zb];refine wZ ze50 fun h3 c3 x3=>?_;refine xU c3 sh50 rfl rfl (tQ rfl) fun h4 c4 k4=>?_;have c14:Cel h4 n 0 (vH i sv):=(Cel.touch c12 (x3.touch []) (by omega) (by simp)).keep (k4 _ (by omega))
 have s4:StC n h i sv h4 { Ins.z with kind:=i.kind } (.slice none 0 0):=
  ⟨c14,⟨_,rfl,(Cel.touch c2 (x3.touch []) (by omega) (by simp)).keep (k4 _ (by omega))⟩,c4,⟨by omega,fun b hb=>by rw[k4 b (by omega),x3.2 b (by omega),x2.2 b (by omega),x1.2 b hb]⟩⟩
 simp only[↓uK,↓zC,↓L0 c14,↓zD]
 have sto:∀{h':zH} {j:Ins} {sw:Value} {off:Nat} {v:Value} {ty:TypeId} {K:KH} (j':Ins) (sw':Value),StC n h i sv h' j sw→yJ P ty = .scal→off<9→v.oneCell'=true→(vH j sw).set off v=vH j' sw'→
  (∀h'',StC n h i sv h'' j' sw'→K h'' (n+1+1+1) undef=true)→zW P ty (.pointer (some ⟨n+1+1,off,none⟩)) v h' (n+1+1+1) K=true:=by
  intro h' j sw off v ty K j' sw' s hs ho hv he hK;obtain⟨s1,⟨vs,r1,r2⟩,s3,s4⟩:=s;refine wA s3 hs (by show off<9;exact ho) hv fun h'' c'' k''=>?_;exact hK h'' ⟨s1.keep (k'' _ (by omega)),⟨vs,r1,r2.keep (k'' _ (by omega))⟩,by rw[← he];exact c'',⟨s4.1,fun b hb=>by rw[k'' b (by omega)];exact s4.2 b hb⟩⟩
 refine wG (RDc n h u i sv) (fun t w q=>?_) (fun kk hkk=>?_)
 · obtain⟨q1,q2,h',sw,rfl,⟨s1,⟨vs,r1,r2⟩,s3,s4⟩,hsw⟩:=q;simp only[q1,q2,↓zF];refine zO ?_;refine opt_of (xA s3 sh50 rfl (by decide)) ?_;have hs':sw.oneCell'=true:=by rcases hsw with⟨rfl,_⟩|⟨rfl,_⟩;exact hs;rfl
   refine xU r2 sh50 rfl r1 (tQ hs') fun h5 c5 k5=>?_;refine leaveC r106 rfl (xA c5 sh50 rfl (by decide)) (hk _ _ _ ⟨⟨s4.1,fun b hb=>by rw[k5 b (by omega)];exact s4.2 b hb⟩,sw,rfl,hsw⟩)
 have ib:∀c:Int,xN i.kind c=decide (i.kind=c):=fun c=>xZ _ _;try simp only[↓ib,↓zY]
 refine wO (RDc n h u i sv) (fun t w q=>?_) (fun hc kk' hkk'=>?_) (fun hc kk hkk=>?_)
 · obtain⟨q1,q2,h',sw',rfl,q3⟩:=q;simp only[q1,q2,↓zF];refine zO ?_;exact hkk _ _ ⟨rfl,rfl,h',sw',rfl,q3⟩
 · have k1:i.kind=1:=of_decide_eq_true hc;simp only[↓tP,↓zC,↓L1 s4.1,↓zD];refine sto { Ins.z with kind:=i.kind,d:=i.d } (.slice none 0 0) s4 sh3 (by decide) rfl rfl fun g0 ss0=>?_;simp only[↓fa50_4,↓zC,↓L4 ss0.1,↓zD];refine sto { Ins.z with kind:=i.kind,d:=i.d,n:=i.n } (.slice none 0 0) ss0 sh3 (by decide) rfl rfl fun g1 ss1=>?_;have hR:uA i = { Ins.z with kind:=i.kind,d:=i.d,n:=i.n }:=by unfold uA;rw [if_pos k1]
   exact hkk' _ _ ⟨rfl,rfl,g1,(.slice none 0 0),rfl,by rw[hR];exact ss1,.inr ⟨rfl,by rw[hR];rfl⟩⟩
 have hn0:¬(i.kind=1):=of_decide_eq_false hc;try simp only[↓ib,↓zY]
 refine wO (fun t w=>zA t 1=ptr n 0∧zA t 2=ptr (n+1) 0∧zA t 3=ptr (n+1+1) 0∧zA t 8=I64 i.kind∧zA t 17 = .bool (decide (i.kind=2∨i.kind=4))∧w=⟨[],u,h4,n+1+1+1⟩) (fun t w q=>?_) (fun hc kk hkk=>?_) (fun hc kk hkk=>?_)
 rotate_left
 · have k1:i.kind=2:=of_decide_eq_true hc;exact hkk _ _ ⟨rfl,rfl,rfl,rfl,by show Value.bool (decide (i.kind=2))=_;rw [hc,decide_eq_true (Or.inl k1)],rfl⟩
 · have k1:¬i.kind=2:=of_decide_eq_false hc;try simp only[↓ib,↓zY]
   refine hkk _ _ ⟨rfl,rfl,rfl,rfl,?_,rfl⟩;show Value.bool (decide (i.kind=4))=_;by_cases k2:i.kind=4
   · rw[decide_eq_true k2,decide_eq_true (Or.inr k2)]
   · rw[decide_eq_false k2,decide_eq_false (fun h=>h.elim k1 k2)]
 obtain⟨q1,q2,q3,q8,q17,rfl⟩:=q;simp only[q1,q2,q3,q8,q17,↓zF,↓zD,↓zI];refine zO ?_;refine wO (RDc n h u i sv) (fun t w q=>?_) (fun hc kk' hkk'=>?_) (fun hc kk hkk=>?_)
 · obtain⟨q1,q2,h',sw',rfl,q3⟩:=q;simp only[q1,q2,↓zF];refine zO ?_;exact hkk _ _ ⟨rfl,rfl,h',sw',rfl,q3⟩
 · have k1:i.kind=2∨i.kind=4:=of_decide_eq_true hc;simp only[↓tP,↓zC,↓L1 s4.1,↓zD];refine sto { Ins.z with kind:=i.kind,d:=i.d } (.slice none 0 0) s4 sh3 (by decide) rfl rfl fun g0 ss0=>?_;simp only[↓uX,↓zC,↓L2 ss0.1,↓zD];refine sto { Ins.z with kind:=i.kind,d:=i.d,a:=i.a } (.slice none 0 0) ss0 sh3 (by decide) rfl rfl fun g1 ss1=>?_;have hR:uA i = { Ins.z with kind:=i.kind,d:=i.d,a:=i.a }:=by unfold uA;rw [if_neg hn0];rw [if_pos k1]
   exact hkk' _ _ ⟨rfl,rfl,g1,(.slice none 0 0),rfl,by rw[hR];exact ss1,.inr ⟨rfl,by rw[hR];rfl⟩⟩
 have hn1:¬(i.kind=2∨i.kind=4):=of_decide_eq_false hc;try simp only[↓ib,↓zY]
 refine wO (RDc n h u i sv) (fun t w q=>?_) (fun hc kk' hkk'=>?_) (fun hc kk hkk=>?_)
 · obtain⟨q1,q2,h',sw',rfl,q3⟩:=q;simp only[q1,q2,↓zF];refine zO ?_;exact hkk _ _ ⟨rfl,rfl,h',sw',rfl,q3⟩
 · have k1:i.kind=3:=of_decide_eq_true hc;simp only[↓tP,↓zC,↓L1 s4.1,↓zD];refine sto { Ins.z with kind:=i.kind,d:=i.d } (.slice none 0 0) s4 sh3 (by decide) rfl rfl fun g0 ss0=>?_;simp only[↓tC,↓zC,↓L5 ss0.1];refine sto { Ins.z with kind:=i.kind,d:=i.d,name:=i.name } (.slice none 0 0) ss0 sh9 (by decide) rfl rfl fun g1 ss1=>?_;simp only[↓vZ,↓zC,↓L6 ss1.1];refine sto { Ins.z with kind:=i.kind,d:=i.d,name:=i.name,args:=i.args } sv ss1 sh40 (by decide) hs rfl fun g2 ss2=>?_;have hR:uA i = { Ins.z with kind:=i.kind,d:=i.d,name:=i.name,args:=i.args }:=by unfold uA;rw [if_neg hn0];rw [if_neg hn1];rw [if_pos k1]
   exact hkk' _ _ ⟨rfl,rfl,g2,sv,rfl,by rw[hR];exact ss2,.inl ⟨rfl,by rw[hR]⟩⟩
 have hn2:¬(i.kind=3):=of_decide_eq_false hc;try simp only[↓ib,↓zY]
 refine wO (RDc n h u i sv) (fun t w q=>?_) (fun hc kk' hkk'=>?_) (fun hc kk hkk=>?_)
 · obtain⟨q1,q2,h',sw',rfl,q3⟩:=q;simp only[q1,q2,↓zF];refine zO ?_;exact hkk _ _ ⟨rfl,rfl,h',sw',rfl,q3⟩
 · have k1:i.kind=5:=of_decide_eq_true hc;simp only[↓uX,↓zC,↓L2 s4.1,↓zD];refine sto { Ins.z with kind:=i.kind,a:=i.a } (.slice none 0 0) s4 sh3 (by decide) rfl rfl fun g0 ss0=>?_;simp only[↓fa50_3,↓zC,↓L3 ss0.1,↓zD];refine sto { Ins.z with kind:=i.kind,a:=i.a,b:=i.b } (.slice none 0 0) ss0 sh3 (by decide) rfl rfl fun g1 ss1=>?_;have hR:uA i = { Ins.z with kind:=i.kind,a:=i.a,b:=i.b }:=by unfold uA;rw [if_neg hn0];rw [if_neg hn1];rw [if_neg hn2];rw [if_pos k1]
   exact hkk' _ _ ⟨rfl,rfl,g1,(.slice none 0 0),rfl,by rw[hR];exact ss1,.inr ⟨rfl,by rw[hR];rfl⟩⟩
 have hn3:¬(i.kind=5):=of_decide_eq_false hc;try simp only[↓ib,↓zY]
 refine wO (RDc n h u i sv) (fun t w q=>?_) (fun hc kk' hkk'=>?_) (fun hc kk hkk=>?_)
 · obtain⟨q1,q2,h',sw',rfl,q3⟩:=q;simp only[q1,q2,↓zF];refine zO ?_;exact hkk _ _ ⟨rfl,rfl,h',sw',rfl,q3⟩
 · have k1:i.kind=6:=of_decide_eq_true hc;simp only[↓tP,↓zC,↓L1 s4.1,↓zD];refine sto { Ins.z with kind:=i.kind,d:=i.d } (.slice none 0 0) s4 sh3 (by decide) rfl rfl fun g0 ss0=>?_;simp only[↓tC,↓zC,↓L5 ss0.1];refine sto { Ins.z with kind:=i.kind,d:=i.d,name:=i.name } (.slice none 0 0) ss0 sh9 (by decide) rfl rfl fun g1 ss1=>?_;simp only[↓vZ,↓zC,↓L6 ss1.1];refine sto { Ins.z with kind:=i.kind,d:=i.d,name:=i.name,args:=i.args } sv ss1 sh40 (by decide) hs rfl fun g2 ss2=>?_;have hR:uA i = { Ins.z with kind:=i.kind,d:=i.d,name:=i.name,args:=i.args }:=by unfold uA;rw [if_neg hn0];rw [if_neg hn1];rw [if_neg hn2];rw [if_neg hn3];rw [if_pos k1]
   exact hkk' _ _ ⟨rfl,rfl,g2,sv,rfl,by rw[hR];exact ss2,.inl ⟨rfl,by rw[hR]⟩⟩
 have hn4:¬(i.kind=6):=of_decide_eq_false hc;try simp only[↓ib,↓zY]
 refine wO (RDc n h u i sv) (fun t w q=>?_) (fun hc kk' hkk'=>?_) (fun hc kk hkk=>?_)
 · obtain⟨q1,q2,h',sw',rfl,q3⟩:=q;simp only[q1,q2,↓zF];refine zO ?_;exact hkk _ _ ⟨rfl,rfl,h',sw',rfl,q3⟩
 · have k1:i.kind=7:=of_decide_eq_true hc;simp only[↓uX,↓zC,↓L2 s4.1,↓zD];refine sto { Ins.z with kind:=i.kind,a:=i.a } (.slice none 0 0) s4 sh3 (by decide) rfl rfl fun g0 ss0=>?_;simp only[↓pN,↓zC,↓L7 ss0.1,↓zD];refine sto { Ins.z with kind:=i.kind,a:=i.a,t:=i.t } (.slice none 0 0) ss0 sh3 (by decide) rfl rfl fun g1 ss1=>?_;simp only[↓fa50_8,↓zC,↓L8 ss1.1,↓zD];refine sto { Ins.z with kind:=i.kind,a:=i.a,t:=i.t,f:=i.f } (.slice none 0 0) ss1 sh3 (by decide) rfl rfl fun g2 ss2=>?_;have hR:uA i = { Ins.z with kind:=i.kind,a:=i.a,t:=i.t,f:=i.f }:=by unfold uA;rw [if_neg hn0];rw [if_neg hn1];rw [if_neg hn2];rw [if_neg hn3];rw [if_neg hn4];rw [if_pos k1]
   exact hkk' _ _ ⟨rfl,rfl,g2,(.slice none 0 0),rfl,by rw[hR];exact ss2,.inr ⟨rfl,by rw[hR];rfl⟩⟩
 have hn5:¬(i.kind=7):=of_decide_eq_false hc;try simp only[↓ib,↓zY]
 refine wO (RDc n h u i sv) (fun t w q=>?_) (fun hc kk' hkk'=>?_) (fun hc kk hkk=>?_)
 · obtain⟨q1,q2,h',sw',rfl,q3⟩:=q;simp only[q1,q2,↓zF];refine zO ?_;exact hkk _ _ ⟨rfl,rfl,h',sw',rfl,q3⟩
 · have k1:i.kind=8:=of_decide_eq_true hc;simp only[↓pN,↓zC,↓L7 s4.1,↓zD];refine sto { Ins.z with kind:=i.kind,t:=i.t } (.slice none 0 0) s4 sh3 (by decide) rfl rfl fun g0 ss0=>?_;have hR:uA i = { Ins.z with kind:=i.kind,t:=i.t }:=by unfold uA;rw [if_neg hn0];rw [if_neg hn1];rw [if_neg hn2];rw [if_neg hn3];rw [if_neg hn4];rw [if_neg hn5];rw [if_pos k1]
   exact hkk' _ _ ⟨rfl,rfl,g0,(.slice none 0 0),rfl,by rw[hR];exact ss0,.inr ⟨rfl,by rw[hR];rfl⟩⟩
 have hn6:¬(i.kind=8):=of_decide_eq_false hc;try simp only[↓ib,↓zY]
 refine wO (RDc n h u i sv) (fun t w q=>?_) (fun hc kk' hkk'=>?_) (fun hc kk hkk=>?_)
 · obtain⟨q1,q2,h',sw',rfl,q3⟩:=q;simp only[q1,q2,↓zF];refine zO ?_;exact hkk _ _ ⟨rfl,rfl,h',sw',rfl,q3⟩
 · have k1:i.kind=9:=of_decide_eq_true hc;simp only[↓uX,↓zC,↓L2 s4.1,↓zD];refine sto { Ins.z with kind:=i.kind,a:=i.a } (.slice none 0 0) s4 sh3 (by decide) rfl rfl fun g0 ss0=>?_;have hR:uA i = { Ins.z with kind:=i.kind,a:=i.a }:=by unfold uA;rw [if_neg hn0];rw [if_neg hn1];rw [if_neg hn2];rw [if_neg hn3];rw [if_neg hn4];rw [if_neg hn5];rw [if_neg hn6];rw [if_pos k1]
   exact hkk' _ _ ⟨rfl,rfl,g0,(.slice none 0 0),rfl,by rw[hR];exact ss0,.inr ⟨rfl,by rw[hR];rfl⟩⟩
 have hn7:¬(i.kind=9):=of_decide_eq_false hc;have hR:uA i = { Ins.z with kind:=i.kind }:=by unfold uA;rw [if_neg hn0];rw [if_neg hn1];rw [if_neg hn2];rw [if_neg hn3];rw [if_neg hn4];rw [if_neg hn5];rw [if_neg hn6];rw [if_neg hn7]
 exact hkk _ _ ⟨rfl,rfl,h4,(.slice none 0 0),rfl,by rw[hR];exact s4,.inr ⟨rfl,by rw[hR];rfl⟩⟩
def LowB(lo:Nat)(h:zH)(n:Nat)(h':zH)(n':Nat):Prop:=n≤n'∧∀b,b<lo→yG h' b=yG h b
theorem LowB.trans{lo n n1 n2:Nat}{h h1 h2:zH}(a:LowB lo h n h1 n1)(b:LowB lo h1 n1 h2 n2):LowB lo h n h2 n2:=⟨Nat.le_trans a.1 b.1,fun x hx=>(b.2 x hx).trans (a.2 x hx)⟩
theorem Ext.lowB{lo n n':Nat}{h h':zH}(x:Ext h n h' n')(hl:lo≤n):LowB lo h n h' n':=⟨x.1,fun b hb=>x.2 b (by omega)⟩
def Lst(lo n:Nat)(h:zH)(v:Value)(vs:List Value):Prop:=
 Own lo n h v 3 1 vs.length vs∨∃b,lo≤b∧v = .slice (some ⟨b,0,none⟩) vs.length vs.length∧Row n h v 3 1 vs.length vs∧0<vs.length
theorem Lst.row{lo n:Nat}{h:zH}{v:Value}{vs:List Value}(l:Lst lo n h v vs):Row n h v 3 1 vs.length vs:=by
 rcases l with o|⟨b,h1,h2,h3,h4⟩
 · exact o.row (Nat.le_refl _)
 · exact h3
theorem app_lst{lo n:Nat}{h:zH}{v x:Value}{vs new:List Value}{K:KH}(L:Lst lo n h v vs)(hlo:lo≤n)(hr:Row n h x 3 1 new.length new)(hvs:∀y∈vs,y.oneCell'=true)(h1:∀y∈new,y.oneCell'=true)(hlim:vs.length+new.length<1000000)
(hK:∀v' h' n',Lst lo n' h' v' (vs++new)→LowB lo h n h' n'→K h' n' v'=true):wD P [40,40] [v,x] h n K=true:=by
 rcases L with o|⟨b,q1,rfl,q3,q4⟩
 · refine qS ap40 o hlo hr (by omega) h1 hlim fun v' h' n' o' hn k=>?_;refine hK v' h' n' (.inl (by rw[List.length_append];exact o')) ⟨hn,fun b hb=>k b (by omega) fun e=>?_⟩;have:=(o.ge b e).1;omega
 · by_cases hm:0<new.length
   · refine sI ap40 q3 (by unfold inf;omega) hvs hm hr (by omega) h1 hlim fun v' h' o' x'=>?_;refine hK v' h' _ (.inl ?_) (Ext.lowB x' hlo);rw [List.length_append];rcases o' with⟨h9,h8,_⟩|⟨b',p1,p2⟩
     · exact .inl ⟨h9,h8,by assumption⟩
     · exact .inr ⟨b',Nat.le_trans hlo p1,p2⟩
   · have hn0:new=[]:=List.length_eq_zero_iff.1 (by omega);subst hn0;obtain⟨xd,ei,z,t1,t2,t3,t4,t5,t6,t7,t8,t9⟩:=apTB_of (P:=P) ap40;obtain rfl:xd = .slice 3:=Option.some.inj (t2.symm.trans t1);have hap:uR P h 3 ei.size (.slice 3) x=some (0,[]):=by rw[t6];exact pD t3 hr
     unfold wD pQ;dsimp only;rw [t1];dsimp only;rw [t4,t5];dsimp only;rw [hap];dsimp only
     have c1:(Nat.beq ei.size 0 || !Nat.beq (cellsOf z).length ei.size || !Nat.blt (Nat.add vs.length 0) 1000000 || !Nat.blt ei.bytes 100000)=false:=by
      have a2:Nat.beq (cellsOf z).length ei.size=true:=by rw[t7,t6];exact Nat.beq_refl _
      rw[a2,t6,rA t9,rA (show Nat.add vs.length 0<1000000 by show vs.length+0<_;simp at hlim;omega)];rfl
     have c2:(Nat.beq 0 0 && !Nat.beq vs.length 0 && (Nat.beq vs.length inf || Nat.ble vs.length vs.length))=true:=by
      have e0:Nat.beq vs.length 0=false:=by
       cases e9:Nat.beq vs.length 0 with
       | false=>rfl
       | true=>have:=yL e9;omega
      rw[e0,vE (Nat.le_refl _)];simp
     rw[c1];show cond (Nat.beq 0 0 && !Nat.beq vs.length 0 && (Nat.beq vs.length inf || Nat.ble vs.length vs.length)) _ _=true;rw [c2];refine hK _ _ _ (.inr ⟨b,q1,?_,?_,?_⟩) ⟨Nat.le_refl _,fun _ _=>rfl⟩
     · rw[List.append_nil]
     · rw[List.append_nil];exact q3
     · rw[List.append_nil];exact q4
theorem build_1{a:Int}{h:zH}{n:Nat}{K:KH}(hK:∀h',Row (n+1) h' (.slice (some ⟨n,0,none⟩) 1 1) 3 1 1 [I64 a]→Ext h n h' (n+1)→K h' (n+1) (.slice (some ⟨n,0,none⟩) 1 1)=true) :
 zS P 40 1 [(0,I64 a)] h n K=true:=by
 have z:xP P 40 1 [(0,I64 a)]=some (tM [I64 a] 0):=rfl;exact rB (e:=3) (sz:=1) z rfl (by unfold inf;omega) hK
theorem build_4{a b c d:Int}{h:zH}{n:Nat}{K:KH}(hK:∀h',Row (n+1) h' (.slice (some ⟨n,0,none⟩) 4 4) 3 1 4 [I64 a,I64 b,I64 c,I64 d]→Ext h n h' (n+1)→K h' (n+1) (.slice (some ⟨n,0,none⟩) 4 4)=true) :
 zS P 40 4 [(0,I64 a),(1,I64 b),(2,I64 c),(3,I64 d)] h n K=true:=by
 have z:xP P 40 4 [(0,I64 a),(1,I64 b),(2,I64 c),(3,I64 d)]=some (tM [I64 a,I64 b,I64 c,I64 d] 0):=rfl;exact rB (e:=3) (sz:=1) z rfl (by unfold inf;omega) hK
theorem same_ins{i:Ins}{sv:Value}(hs:qH sv sv=true)(h1:∀c,sv≠.agg c)(h2:∀c,sv≠.tuple c)(h3:∀f a b,sv≠.func f a b):qH (.agg ⟨vH i sv⟩) (.agg ⟨vH i sv⟩)=true:=by
 have hb:∀x:Int,xN x x=true:=fun x=>by rw[xZ];exact decide_eq_true rfl
 have hx:∀l:List UInt8,qC l l=true:=fun l=>by rw[tT];simp
 have hv:scalB sv sv=true:=by
  cases sv <;> first|exact hs|(rename_i c;exact absurd rfl (h1 c))|(rename_i c;exact absurd rfl (h2 c))|(rename_i a b c;exact absurd rfl (h3 a b c))
 show((true && xN i.kind i.kind) && ((true && xN i.d i.d) && ((true && xN i.a i.a) && ((true && xN i.b i.b) && ((true && xN i.n i.n) && (qC i.name i.name && (scalB sv sv && ((true && xN i.t i.t) && ((true && xN i.f i.f) && true)))))))))=true;rw [hb,hb,hb,hb,hb,hb,hb,hx,hv];rfl
theorem lks31'{wb wc wd:W}{f:W→Bool}(hc:f wc=true)(hd:f wd=true):lks [wb,wc,wd] [⟨true,f,0,1⟩]=true:=lks31 hc hd rfl
theorem rsmalls_loop(ns:List Int)(bp sv:Value)(h:zH)(n:Nat)(u:Option yF)(ka:KX)(hr:Row n h sv 3 1 ns.length (ns.map I64))(hlen:ns.length<1000000):∀(m i:Nat),m+i=ns.length→∀t,zA t 1=bp→zA t 4=sv→zA t 5=I64 (i:Nat)→
 ((ns.drop i).all xS=true→∀t',zA t' 1=bp→ka (.exit 0) t' ⟨[],u,h,n⟩=true)→((ns.drop i).all xS=false→∀t',zA t' 2 = .bool false→ka .ret t' ⟨[],u,h,n⟩=true)→
 lpS P 8 1000010 ⟨51,none,false⟩ t ⟨[],u,h,n⟩ ka=true:=by
 intro m;have fl:=yX (P:=P) us40 hr [] h
 induction m with
 | zero=>
  intro i hi t t1 t4 t5 hE hR;refine yK zK mixed (hint:=hint51) l51 lp51_1000010 ?_;rw [B51_1000010_eq];unfold B51_1000010;rw [t1,t4,t5];have e3:wB (i:Nat) (ns.length:Nat)=false:=by rw[zT];exact decide_eq_false (by omega)
  simp only[↓zF,↓zD];refine zO ?_;simp only[↓fl,↓zC,↓zD,↓e3,↓zY,↓wT];refine hE ?_ _ rfl;rw [List.drop_eq_nil_of_le (by omega)];rfl
 | succ m ih=>
  intro i hi t t1 t4 t5 hE hR;have hlt:i<ns.length:=by omega
  have hd:ns.drop i=ns[i]::ns.drop (i+1):=List.drop_eq_getElem_cons hlt;obtain⟨q,q1,q2⟩:=xG (P:=P) (k:=.i64) hr ix40 (tl:=3) sh3 (i:=i) (x:=I64 ns[i]) (by rw[List.getElem?_map,List.getElem?_eq_getElem hlt];rfl);generalize ns[i]=y at hd q2
  have ea:(y::ns.drop (i+1)).all xS=(xS y && (ns.drop (i+1)).all xS):=rfl;rw [hd,ea]at hE hR;refine yK zK mixed (hint:=hint51) l51 lp51_1000010 ?_;rw [B51_1000010_eq];unfold B51_1000010;rw [t1,t4,t5];have e3:wB (i:Nat) (ns.length:Nat)=true:=by rw[zT];exact decide_eq_true (by omega)
  simp only[↓zF,↓zD];refine zO ?_;simp only[↓fl,↓zC,↓zD,↓e3,↓zY,↓wP];refine wG (fun t w=>zA t 1=bp∧zA t 4=sv∧zA t 5=I64 (i:Nat)∧w=⟨[],u,h,n⟩∧xS y=true) (fun t w q=>?_) (fun kk hkk=>?_)
  · obtain⟨p0,p3,p4,rfl,p5⟩:=q;rw [p5]at hE hR;simp only[p0,p3,p4,↓zF,↓zD];refine zO ?_;refine vT (by omega) ?_;exact ih (i+1) (by omega) _ rfl rfl rfl hE hR
  · simp only[↓q1,↓q2,↓zC,↓zD];refine zU (rsmall_pure _ h n) ?_;cases hs:xS y <;> rw[hs]at hE hR hkk <;> simp only[↓xD,↓zC,↓zI,↓Bool.not_true,↓Bool.not_false,↓wP,↓wT]
    · exact hR rfl _ rfl
    · exact hkk _ _ ⟨rfl,rfl,rfl,rfl,rfl⟩
def vS(i:Ins):List Int:=([i.a,i.b,i.t,i.f]++i.args)++(if i.kind=6∧i.d = -1 then [] else [i.d])
def wordsI(i:Ins):Bool:=if i.kind=3 then(named i.name && !wordB i.name) && (decide (i.args.length=1) || decide (i.args.length=2)) else if i.kind=6 then named i.name else true
def rplainI(i:Ins):Bool:=decide (1≤i.kind) && (decide (i.kind≤9) && (decide (i.args.length≤16) && (sameI i (uA i) && ((vS i).all xS && wordsI i))))
theorem smallsI_eq(i:Ins):(vS i).all xS=([i.a,i.b,i.t,i.f].all xS && (i.args.all xS && (if i.kind=6∧i.d = -1 then true else xS i.d))):=by
 unfold vS;rw [List.all_append,List.all_append,Bool.and_assoc];by_cases h:i.kind=6∧i.d = -1
 · rw[if_pos h,if_pos h];rfl
 · rw[if_neg h,if_neg h];simp only[List.all_cons,List.all_nil,Bool.and_true]
theorem sameI_clear(i:Ins)(h1:1≤i.kind)(h9:i.kind≤9):sameI i (uA i)=zeroI (tX i):=by
 have hk:i.kind=1∨i.kind=2∨i.kind=3∨i.kind=4∨i.kind=5∨i.kind=6∨i.kind=7∨i.kind=8∨i.kind=9:=by omega
 unfold sameI zeroI;apply decide_eq_decide.2;rcases hk with h|h|h|h|h|h|h|h|h <;> simp[uA,tX,h,Ins.z,List.length_eq_zero_iff] <;> (try (intros;constructor <;> (intro hh;simp_all)))
theorem rplainI_eq(i:Ins):rplainI i=wL i:=by
 unfold rplainI wL;by_cases h1:1≤i.kind
 · by_cases h9:i.kind≤9
   · rw[smallsI_eq,sameI_clear i h1 h9];unfold wordsI;by_cases h3:i.kind=3
     · have h6:¬(i.kind=6∧i.d = -1):=by omega
       have hl:(decide (i.args.length=1) || decide (i.args.length=2))=(decide (1≤i.args.length) && decide (i.args.length≤2)):=by
        by_cases g1:i.args.length=1
        · simp[g1]
        · by_cases g2:i.args.length=2
          · simp[g2]
          · have:¬(1≤i.args.length∧i.args.length≤2):=by omega
            rw[decide_eq_false g1,decide_eq_false g2,← Bool.decide_and,decide_eq_false this];rfl
       rw[if_neg h6,if_pos h3,if_pos h3,hl];generalize decide (1≤i.kind)=b1;generalize decide (i.kind≤9)=b2;generalize decide (i.args.length≤16)=b3;generalize zeroI (tX i)=b4;generalize [i.a,i.b,i.t,i.f].all xS=b5
       generalize i.args.all xS=b6;generalize xS i.d=b7;generalize named i.name=b8;generalize wordB i.name=b9;generalize decide (1≤i.args.length)=c1;generalize decide (i.args.length≤2)=c2
       revert b1 b2 b3 b4 b5 b6 b7 b8 b9 c1 c2;decide
     · rw[if_neg h3,if_neg h3];by_cases h6:i.kind=6
       · rw[if_pos h6,if_pos h6]
         have e:(if i.kind=6∧i.d = -1 then true else xS i.d)=(decide (i.d = -1) || xS i.d):=by
          by_cases g:i.d = -1
          · rw[if_pos ⟨h6,g⟩,decide_eq_true g];rfl
          · rw[if_neg (fun h=>g h.2),decide_eq_false g];rfl
         rw[e];generalize decide (1≤i.kind)=b1;generalize decide (i.kind≤9)=b2;generalize decide (i.args.length≤16)=b3;generalize zeroI (tX i)=b4;generalize [i.a,i.b,i.t,i.f].all xS=b5
         generalize i.args.all xS=b6;generalize xS i.d=b7;generalize named i.name=b8;generalize decide (i.d = -1)=c1
         revert b1 b2 b3 b4 b5 b6 b7 b8 c1;decide
       · rw[if_neg h6,if_neg h6,if_neg (fun h=>h6 h.1)];generalize decide (1≤i.kind)=b1;generalize decide (i.kind≤9)=b2;generalize decide (i.args.length≤16)=b3;generalize zeroI (tX i)=b4;generalize [i.a,i.b,i.t,i.f].all xS=b5
         generalize i.args.all xS=b6;generalize xS i.d=b7
         revert b1 b2 b3 b4 b5 b6 b7;decide
   · rw[decide_eq_false h9];simp
 · rw[decide_eq_false h1];simp
theorem rplainIns_pure(i:Ins)(sv:Value)(h:zH)(n:Nat)(hr:Row n h sv 3 1 i.args.length (i.args.map I64))(hlen:i.args.length<1000000) :
 pA P 8 51 [.agg ⟨vH i sv⟩] h n (.bool (wL i)):=by
 rw[← rplainI_eq];have hs:=hr.one;refine Rets.pureE (zZ zK mixed (hint:=hint51) l51 fun u k hk=>?_) (.inl rfl);rw [F51_eq];unfold F51;refine tE (tQ hs) fun h1 c1 x1=>?_;have c1:Cel h1 n 0 (vH i sv):=c1;have hr1:=hr.ext x1;have L0:∀{h'},Cel h' n 0 (vH i sv)→zE P 3 h' (ptr n 0)=some (I64 i.kind):=fun c=>zG c sh3 rfl;have L1:∀{h'},Cel h' n 0 (vH i sv)→zE P 3 h' (.pointer (some ⟨n,1,none⟩))=some (I64 i.d):=fun c=>zG c sh3 rfl;have L2:∀{h'},Cel h' n 0 (vH i sv)→zE P 3 h' (.pointer (some ⟨n,2,none⟩))=some (I64 i.a):=fun c=>zG c sh3 rfl;have L3:∀{h'},Cel h' n 0 (vH i sv)→zE P 3 h' (.pointer (some ⟨n,3,none⟩))=some (I64 i.b):=fun c=>zG c sh3 rfl;have L5:∀{h'},Cel h' n 0 (vH i sv)→zE P 9 h' (.pointer (some ⟨n,5,none⟩))=some (str i.name):=fun c=>zG c sh9 rfl;have L6:∀{h'},Cel h' n 0 (vH i sv)→zE P 40 h' (.pointer (some ⟨n,6,none⟩))=some sv:=fun c=>zG c sh40 rfl;have L7:∀{h'},Cel h' n 0 (vH i sv)→zE P 3 h' (.pointer (some ⟨n,7,none⟩))=some (I64 i.t):=fun c=>zG c sh3 rfl
 have L8:∀{h'},Cel h' n 0 (vH i sv)→zE P 3 h' (.pointer (some ⟨n,8,none⟩))=some (I64 i.f):=fun c=>zG c sh3 rfl;have LA:∀{h'},Cel h' n 0 (vH i sv)→zE P 50 h' (ptr n 0)=some (.agg ⟨vH i sv⟩):=fun c=>xA c sh50 rfl (by decide);have fl:=yX (P:=P) us40 hr1 [] h1;have ib:∀c:Int,xN i.kind c=decide (i.kind=c):=fun c=>xZ _ _;simp only[↓uK,↓zC,↓L0 c1,↓zD];by_cases g1:i.kind<1
 · have e1:wB i.kind 1=true:=by rw[zT];exact decide_eq_true g1
   simp only[↓e1,↓zY,↓rM,↓xJ,↓yR,↓zI,↓wP];refine zV r51 (v:=.bool false) rfl (hk _ _ _ ⟨?_,x1⟩);refine congrArg Value.bool (Eq.symm ?_);unfold rplainI;rw [decide_eq_false (by omega)];rfl
 have e1:wB i.kind 1=false:=by rw[zT];exact decide_eq_false g1
 simp only[↓e1,↓zY,↓sR,↓yS,↓uK,↓zC,↓L0 c1,↓zD,↓cmp_gtr];by_cases g2:9<i.kind
 · simp only[↓decide_eq_true g2,↓yV,↓zI,↓rM,↓xJ,↓yR,↓wP];refine zV r51 (v:=.bool false) rfl (hk _ _ _ ⟨?_,x1⟩);refine congrArg Value.bool (Eq.symm ?_);unfold rplainI;rw [decide_eq_false (show ¬i.kind≤9 by omega)];simp
 simp only[↓decide_eq_false g2,↓yV,↓zI,↓sR,↓yS,↓vZ,↓zC,↓L6 c1,↓fl,↓zD,↓cmp_gtr];by_cases g3:(16:Int)<(i.args.length:Nat)
 · simp only[↓decide_eq_true g3,↓yV,↓zI,↓wP];refine zV r51 (v:=.bool false) rfl (hk _ _ _ ⟨?_,x1⟩);refine congrArg Value.bool (Eq.symm ?_);unfold rplainI;rw [decide_eq_false (show ¬i.args.length≤16 by omega)];simp
 have hp:rplainI i=(sameI i (uA i) && ((vS i).all xS && wordsI i)):=by
  unfold rplainI;rw [decide_eq_true (show 1≤i.kind by omega),decide_eq_true (show i.kind≤9 by omega),decide_eq_true (show i.args.length≤16 by omega)];rfl
 rw[hp]at hk;simp only[↓decide_eq_false g3,↓yV,↓zI,↓wT,↓LA c1,↓zC];refine uT (clear_rets i sv h1 (n+1) hs) fun v2 h2 n2 ⟨x2,sw,hv2,hsw⟩=>?_;subst hv2;have c2:Cel h2 n 0 (vH i sv):=c1.touch (x2.touch []) (by omega) (by simp);have hr2:=hr1.ext x2;have hn2:=x2.1
 have hw2:Row n2 h2 sw 3 1 (uA i).args.length ((uA i).args.map I64):=by
  rcases hsw with⟨rfl,e⟩|⟨rfl,e⟩
  · rw[e];exact hr2
  · rw[e];exact .inl ⟨rfl,rfl,rfl⟩
 rw[vE hn2,uB];simp only[↓LA c2,↓zC];refine zU (sameIns_pure i (uA i) sv sw h2 n2 hr2 hw2 hlen) ?_;rw [vE (Nat.le_refl _),uB]
 have hss:qH (.agg ⟨vH i sv⟩) (.agg ⟨vH i sv⟩)=true:=by
  refine same_ins (qO hr) (fun c e=>?_) (fun c e=>?_) (fun a b c e=>?_) <;> (rw [e]at hs;first|(cases hs;done)|(rcases hr with⟨q,_⟩|⟨_,_,_,_,_,_,_,q,_⟩ <;> (rw [e]at q;cases q)))
 rw[lks31' (tG (by omega) (LA c2) hss) (tG (by omega) (LA c1) hss),uB];simp only[↓xD,↓zC,↓zI];have X2:=x1.trans x2
 cases hsame:sameI i (uA i) with
 | false=>
  simp only[↓Bool.not_false,↓wP];exact zV r51 rfl (hk _ _ _ ⟨by rw[hsame];rfl,X2⟩)
 | true=>
 rw[hsame,Bool.true_and]at hk;simp only[↓Bool.not_true,↓wT,↓uX,↓fa50_3,↓pN,↓fa50_8,↓zC,↓L2 c2,↓L3 c2,↓L7 c2,↓L8 c2,↓zD];refine build_4 fun h3 r3 x3=>?_;have c3:Cel h3 n 0 (vH i sv):=c2.touch (x3.touch []) (by omega) (by simp);simp only[↓vZ,↓zC,↓L6 c3];have l3:Lst n2 (n2+1) h3 (.slice (some ⟨n2,0,none⟩) 4 4) [I64 i.a,I64 i.b,I64 i.t,I64 i.f]:=.inr ⟨n2,Nat.le_refl _,rfl,r3,by simp⟩
 have one4:∀y∈[I64 i.a,I64 i.b,I64 i.t,I64 i.f],y.oneCell'=true:=fun y hy=>by
  simp only[List.mem_cons,List.not_mem_nil,or_false]at hy;rcases hy with rfl|rfl|rfl|rfl <;> rfl
 have oneM:∀(l:List Int),∀y∈l.map I64,y.oneCell'=true:=fun l y hy=>by
  obtain⟨z,_,rfl⟩:=List.mem_map.1 hy;rfl
 have hr3:Row (n2+1) h3 sv 3 1 (i.args.map I64).length (i.args.map I64):=by rw[List.length_map];exact hr2.ext x3
 refine app_lst l3 (by omega) hr3 one4 (oneM _) (by rw[List.length_map];simp;omega) fun v4 h4 n4 l4 x4=>?_;have x34:LowB n2 h2 n2 h4 n4:=(Ext.lowB x3 (Nat.le_refl _)).trans x4;have c4:Cel h4 n 0 (vH i sv):=c2.keep (x34.2 _ (by omega));have hn4:=x34.1;have el4:[I64 i.a,I64 i.b,I64 i.t,I64 i.f]++i.args.map I64=([i.a,i.b,i.t,i.f]++i.args).map I64:=by simp
 rw[el4]at l4;simp only[↓uK,↓zC,↓L0 c4,↓zD,↓ib,↓zY];have cm1:∀K,yB xN P .eql 3 true (I64 i.d) (.int .i64 (-1)) K=K (decide (i.d = -1)):=fun K=>by rw[cmpI,xZ]
 by_cases k6:i.kind=6
 · simp only[↓decide_eq_true k6,↓yS,↓tP,↓zC,↓L1 c4,↓zD,↓cm1];by_cases kd:i.d = -1
   · have hk6:i.kind=6∧i.d = -1:=⟨k6,kd⟩;simp only[↓decide_eq_true kd,↓yR,↓zI,↓xD,↓zC,↓Bool.not_true];refine wO (fun t w=>zA t 1=ptr n 0∧∃lv h5 n5,zA t 4=lv∧w=⟨[],u,h5,n5⟩∧Row n5 h5 lv 3 1 (vS i).length ((vS i).map I64)∧Cel h5 n 0 (vH i sv)∧Ext h n h5 n5) (fun t w q=>?_) (fun hc kk hkk=>?_) (fun hc kk hkk=>?_)
     · obtain⟨q1,lv,h5,n5,q4,rfl,r5,c5,X5⟩:=q;simp only[q1,q4,↓zF];refine zO ?_;have hr5:=hr.ext X5
       have hl5:(vS i).length<1000000:=by
        unfold vS;rw [List.length_append,List.length_append];have:(if i.kind=6∧i.d = -1 then [] else [i.d]).length≤1:=by split <;> simp
        simp only[List.length_cons,List.length_nil];omega
       refine rsmalls_loop (vS i) (ptr n 0) lv h5 n5 u _ r5 hl5 _ 0 (Nat.add_zero _) _ rfl rfl rfl (fun ha t1 p1=>?_) (fun ha t1 p2=>?_)
       · rw[List.drop_zero]at ha;rw [ha,Bool.true_and]at hk;unfold wordsI at hk;simp only[↓zM,↓zN];simp only[p1,↓zF];refine zO ?_;simp only[↓uK,↓zC,↓L0 c5,↓zD];refine wG (fun t w=>i.kind≠3∧i.kind≠6∧w=⟨[],u,h5,n5⟩) (fun t w q=>?_) (fun kk hkk=>?_)
         · obtain⟨k3,k6,rfl⟩:=q;rw [if_neg k3,if_neg k6]at hk;refine zO ?_;exact zV r51 rfl (hk _ _ _ ⟨rfl,X5⟩)
         · simp only[↓ib,↓zY];by_cases k3:i.kind=3
           · rw[if_pos k3]at hk;simp only[↓decide_eq_true k3,↓wP,↓tC,↓zC,↓L5 c5];refine zU (ropName_pure i.name h5 n5) ?_;have fl5:=yX (P:=P) us40 hr5 [] h5;have ce:∀(a b:Int) K,yB xN P .eql 3 true (I64 a) (.int .i64 b) K=K (decide (a=b)):=fun a b K=>by rw[cmpI,xZ]
             have d1:decide (((i.args.length:Nat):Int)=1)=decide (i.args.length=1):=decide_eq_decide.2 (by omega);have d2:decide (((i.args.length:Nat):Int)=2)=decide (i.args.length=2):=decide_eq_decide.2 (by omega)
             cases g8:(named i.name && !wordB i.name) with
             | false=>
              rw[g8]at hk;simp only[↓xJ,↓yP,↓yV,↓zI];exact zV r51 rfl (hk _ _ _ ⟨rfl,X5⟩)
             | true =>
              rw[g8]at hk;simp only[↓yS,↓vZ,↓zC,↓L6 c5,↓fl5,↓zD,↓ce,↓d1]
              cases g9:decide (i.args.length=1) with
              | true=>
               rw[g9]at hk;simp only[↓yY,↓rM,↓xJ,↓zQ,↓yR,↓zI];exact zV r51 rfl (hk _ _ _ ⟨rfl,X5⟩)
              | false=>
               rw[g9]at hk;simp only[↓yY,↓sR,↓yS,↓vZ,↓zC,↓L6 c5,↓fl5,↓zD,↓ce,↓d2,↓zQ,↓yV,↓yR,↓zI];exact zV r51 rfl (hk _ _ _ ⟨rfl,X5⟩)
           · rw[if_neg k3]at hk;simp only[↓decide_eq_false k3,↓wT];by_cases k6':i.kind=6
             · rw[if_pos k6']at hk;simp only[↓decide_eq_true k6',↓wP,↓tC,↓zC,↓L5 c5];refine zU (rQ i.name h5 n5) ?_;exact zV r51 rfl (hk _ _ _ ⟨rfl,X5⟩)
             · simp only[↓decide_eq_false k6',↓wT];exact hkk _ _ ⟨k3,k6',rfl⟩
       · rw[List.drop_zero]at ha;rw [ha]at hk;simp only[↓yC,↓yD];exact zV r51 p2 (hk _ _ _ ⟨rfl,X5⟩)
     · cases hc
     · have e7:([i.a,i.b,i.t,i.f]++i.args).map I64=(vS i).map I64:=by unfold vS;rw [if_pos hk6];simp
       rw[e7]at l4;have r7:=l4.row;rw [List.length_map]at r7;exact hkk _ _ ⟨rfl,v4,h4,n4,rfl,rfl,r7,c4,⟨by omega,fun b hb=>by rw[x34.2 b (by omega)];exact X2.2 b hb⟩⟩
   · have hk6:¬(i.kind=6∧i.d = -1):=fun h=>kd h.2;simp only[↓decide_eq_false kd,↓yR,↓zI,↓xD,↓zC,↓Bool.not_false];refine wO (fun t w=>zA t 1=ptr n 0∧∃lv h5 n5,zA t 4=lv∧w=⟨[],u,h5,n5⟩∧Row n5 h5 lv 3 1 (vS i).length ((vS i).map I64)∧Cel h5 n 0 (vH i sv)∧Ext h n h5 n5) (fun t w q=>?_) (fun hc kk hkk=>?_) (fun hc kk hkk=>?_)
     · obtain⟨q1,lv,h5,n5,q4,rfl,r5,c5,X5⟩:=q;simp only[q1,q4,↓zF];refine zO ?_;have hr5:=hr.ext X5
       have hl5:(vS i).length<1000000:=by
        unfold vS;rw [List.length_append,List.length_append];have:(if i.kind=6∧i.d = -1 then [] else [i.d]).length≤1:=by split <;> simp
        simp only[List.length_cons,List.length_nil];omega
       refine rsmalls_loop (vS i) (ptr n 0) lv h5 n5 u _ r5 hl5 _ 0 (Nat.add_zero _) _ rfl rfl rfl (fun ha t1 p1=>?_) (fun ha t1 p2=>?_)
       · rw[List.drop_zero]at ha;rw [ha,Bool.true_and]at hk;unfold wordsI at hk;simp only[↓zM,↓zN];simp only[p1,↓zF];refine zO ?_;simp only[↓uK,↓zC,↓L0 c5,↓zD];refine wG (fun t w=>i.kind≠3∧i.kind≠6∧w=⟨[],u,h5,n5⟩) (fun t w q=>?_) (fun kk hkk=>?_)
         · obtain⟨k3,k6,rfl⟩:=q;rw [if_neg k3,if_neg k6]at hk;refine zO ?_;exact zV r51 rfl (hk _ _ _ ⟨rfl,X5⟩)
         · simp only[↓ib,↓zY];by_cases k3:i.kind=3
           · rw[if_pos k3]at hk;simp only[↓decide_eq_true k3,↓wP,↓tC,↓zC,↓L5 c5];refine zU (ropName_pure i.name h5 n5) ?_;have fl5:=yX (P:=P) us40 hr5 [] h5;have ce:∀(a b:Int) K,yB xN P .eql 3 true (I64 a) (.int .i64 b) K=K (decide (a=b)):=fun a b K=>by rw[cmpI,xZ]
             have d1:decide (((i.args.length:Nat):Int)=1)=decide (i.args.length=1):=decide_eq_decide.2 (by omega);have d2:decide (((i.args.length:Nat):Int)=2)=decide (i.args.length=2):=decide_eq_decide.2 (by omega)
             cases g8:(named i.name && !wordB i.name) with
             | false=>
              rw[g8]at hk;simp only[↓xJ,↓yP,↓yV,↓zI];exact zV r51 rfl (hk _ _ _ ⟨rfl,X5⟩)
             | true =>
              rw[g8]at hk;simp only[↓yS,↓vZ,↓zC,↓L6 c5,↓fl5,↓zD,↓ce,↓d1]
              cases g9:decide (i.args.length=1) with
              | true=>
               rw[g9]at hk;simp only[↓yY,↓rM,↓xJ,↓zQ,↓yR,↓zI];exact zV r51 rfl (hk _ _ _ ⟨rfl,X5⟩)
              | false=>
               rw[g9]at hk;simp only[↓yY,↓sR,↓yS,↓vZ,↓zC,↓L6 c5,↓fl5,↓zD,↓ce,↓d2,↓zQ,↓yV,↓yR,↓zI];exact zV r51 rfl (hk _ _ _ ⟨rfl,X5⟩)
           · rw[if_neg k3]at hk;simp only[↓decide_eq_false k3,↓wT];by_cases k6':i.kind=6
             · rw[if_pos k6']at hk;simp only[↓decide_eq_true k6',↓wP,↓tC,↓zC,↓L5 c5];refine zU (rQ i.name h5 n5) ?_;exact zV r51 rfl (hk _ _ _ ⟨rfl,X5⟩)
             · simp only[↓decide_eq_false k6',↓wT];exact hkk _ _ ⟨k3,k6',rfl⟩
       · rw[List.drop_zero]at ha;rw [ha]at hk;simp only[↓yC,↓yD];exact zV r51 p2 (hk _ _ _ ⟨rfl,X5⟩)
     · try simp only[↓tP,↓zC,↓L1 c4,↓zD]
       refine build_1 fun h6 r6 x6=>?_
       have l6:Lst n2 (n4+1) h6 v4 (([i.a,i.b,i.t,i.f]++i.args).map I64):=by
        rcases l4 with o|⟨b,w1,w2,w3,w4⟩
        · exact .inl (o.touch (x6.touch []) (by simp))
        · exact .inr ⟨b,w1,w2,w3.ext x6,w4⟩
       refine app_lst (new:=[I64 i.d]) l6 (by omega) r6 (oneM _) (fun y hy=>by simp only[List.mem_cons,List.not_mem_nil,or_false]at hy;subst hy;rfl) (by rw[List.length_map];simp;omega) fun v7 h7 n7 l7 x7=>?_;have x67:LowB n2 h4 n4 h7 n7:=(Ext.lowB x6 (by omega)).trans x7;have hn7:=x67.1;have e7:([i.a,i.b,i.t,i.f]++i.args).map I64++[I64 i.d]=(vS i).map I64:=by unfold vS;rw [if_neg hk6];simp
       rw[e7]at l7;have r7:=l7.row;rw [List.length_map]at r7;exact hkk _ _ ⟨rfl,v7,h7,n7,rfl,rfl,r7,c4.keep (x67.2 _ (by omega)),⟨by omega,fun b hb=>by rw[x67.2 b (by omega),x34.2 b (by omega)];exact X2.2 b hb⟩⟩
     · cases hc
 · have hk6:¬(i.kind=6∧i.d = -1):=fun h=>k6 h.1;simp only[↓decide_eq_false k6,↓xJ,↓yV,↓zI,↓xD,↓zC,↓Bool.not_false];refine wO (fun t w=>zA t 1=ptr n 0∧∃lv h5 n5,zA t 4=lv∧w=⟨[],u,h5,n5⟩∧Row n5 h5 lv 3 1 (vS i).length ((vS i).map I64)∧Cel h5 n 0 (vH i sv)∧Ext h n h5 n5) (fun t w q=>?_) (fun hc kk hkk=>?_) (fun hc kk hkk=>?_)
   · obtain⟨q1,lv,h5,n5,q4,rfl,r5,c5,X5⟩:=q;simp only[q1,q4,↓zF];refine zO ?_;have hr5:=hr.ext X5
     have hl5:(vS i).length<1000000:=by
      unfold vS;rw [List.length_append,List.length_append];have:(if i.kind=6∧i.d = -1 then [] else [i.d]).length≤1:=by split <;> simp
      simp only[List.length_cons,List.length_nil];omega
     refine rsmalls_loop (vS i) (ptr n 0) lv h5 n5 u _ r5 hl5 _ 0 (Nat.add_zero _) _ rfl rfl rfl (fun ha t1 p1=>?_) (fun ha t1 p2=>?_)
     · rw[List.drop_zero]at ha;rw [ha,Bool.true_and]at hk;unfold wordsI at hk;simp only[↓zM,↓zN];simp only[p1,↓zF];refine zO ?_;simp only[↓uK,↓zC,↓L0 c5,↓zD];refine wG (fun t w=>i.kind≠3∧i.kind≠6∧w=⟨[],u,h5,n5⟩) (fun t w q=>?_) (fun kk hkk=>?_)
       · obtain⟨k3,k6,rfl⟩:=q;rw [if_neg k3,if_neg k6]at hk;refine zO ?_;exact zV r51 rfl (hk _ _ _ ⟨rfl,X5⟩)
       · simp only[↓ib,↓zY];by_cases k3:i.kind=3
         · rw[if_pos k3]at hk;simp only[↓decide_eq_true k3,↓wP,↓tC,↓zC,↓L5 c5];refine zU (ropName_pure i.name h5 n5) ?_;have fl5:=yX (P:=P) us40 hr5 [] h5;have ce:∀(a b:Int) K,yB xN P .eql 3 true (I64 a) (.int .i64 b) K=K (decide (a=b)):=fun a b K=>by rw[cmpI,xZ]
           have d1:decide (((i.args.length:Nat):Int)=1)=decide (i.args.length=1):=decide_eq_decide.2 (by omega);have d2:decide (((i.args.length:Nat):Int)=2)=decide (i.args.length=2):=decide_eq_decide.2 (by omega)
           cases g8:(named i.name && !wordB i.name) with
           | false=>
            rw[g8]at hk;simp only[↓xJ,↓yP,↓yV,↓zI];exact zV r51 rfl (hk _ _ _ ⟨rfl,X5⟩)
           | true =>
            rw[g8]at hk;simp only[↓yS,↓vZ,↓zC,↓L6 c5,↓fl5,↓zD,↓ce,↓d1]
            cases g9:decide (i.args.length=1) with
            | true=>
             rw[g9]at hk;simp only[↓yY,↓rM,↓xJ,↓zQ,↓yR,↓zI];exact zV r51 rfl (hk _ _ _ ⟨rfl,X5⟩)
            | false=>
             rw[g9]at hk;simp only[↓yY,↓sR,↓yS,↓vZ,↓zC,↓L6 c5,↓fl5,↓zD,↓ce,↓d2,↓zQ,↓yV,↓yR,↓zI];exact zV r51 rfl (hk _ _ _ ⟨rfl,X5⟩)
         · rw[if_neg k3]at hk;simp only[↓decide_eq_false k3,↓wT];by_cases k6':i.kind=6
           · rw[if_pos k6']at hk;simp only[↓decide_eq_true k6',↓wP,↓tC,↓zC,↓L5 c5];refine zU (rQ i.name h5 n5) ?_;exact zV r51 rfl (hk _ _ _ ⟨rfl,X5⟩)
           · simp only[↓decide_eq_false k6',↓wT];exact hkk _ _ ⟨k3,k6',rfl⟩
     · rw[List.drop_zero]at ha;rw [ha]at hk;simp only[↓yC,↓yD];exact zV r51 p2 (hk _ _ _ ⟨rfl,X5⟩)
   · try simp only[↓tP,↓zC,↓L1 c4,↓zD]
     refine build_1 fun h6 r6 x6=>?_
     have l6:Lst n2 (n4+1) h6 v4 (([i.a,i.b,i.t,i.f]++i.args).map I64):=by
      rcases l4 with o|⟨b,w1,w2,w3,w4⟩
      · exact .inl (o.touch (x6.touch []) (by simp))
      · exact .inr ⟨b,w1,w2,w3.ext x6,w4⟩
     refine app_lst (new:=[I64 i.d]) l6 (by omega) r6 (oneM _) (fun y hy=>by simp only[List.mem_cons,List.not_mem_nil,or_false]at hy;subst hy;rfl) (by rw[List.length_map];simp;omega) fun v7 h7 n7 l7 x7=>?_;have x67:LowB n2 h4 n4 h7 n7:=(Ext.lowB x6 (by omega)).trans x7;have hn7:=x67.1;have e7:([i.a,i.b,i.t,i.f]++i.args).map I64++[I64 i.d]=(vS i).map I64:=by unfold vS;rw [if_neg hk6];simp
     rw[e7]at l7;have r7:=l7.row;rw [List.length_map]at r7;exact hkk _ _ ⟨rfl,v7,h7,n7,rfl,rfl,r7,c4.keep (x67.2 _ (by omega)),⟨by omega,fun b hb=>by rw[x67.2 b (by omega),x34.2 b (by omega)];exact X2.2 b hb⟩⟩
   · cases hc
end Go.Proofs.YtapnnpoljobanaaGreatDoor
