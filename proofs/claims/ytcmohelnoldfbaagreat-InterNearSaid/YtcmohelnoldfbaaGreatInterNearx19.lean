/- What the law leans on: an executor of the model that is sound, deduction over it, and the walks through the code (part 19 of 20). Conditions: those that each theorem states. -/
import Derived.Test.YtcmohelnoldfbaaGreatInterNearx18

set_option linter.unusedVariables false
set_option linter.unusedSimpArgs false
namespace Go.Proofs.YtcmohelnoldfbaaGreat
open Go Go.Ex Go.Ex.M
set_option maxRecDepth 100000
set_option maxHeartbeats 8000000
theorem at_ints{lo n len:Nat}{h:zB}{sv:Value}{vs:List Value}(r:Row lo h sv 45 1 len vs)(hlt:len<4611686018427387904)(i:Int):Pur P 0 76 [sv,I64 i] h n (.bool (decide (0≤i) && decide (i<len))):=by
 refine ent fun u=>?_;by_cases h0:0≤i
 · by_cases h1:i<len
   · repeat' first|refine st ?_|refine ob ?_|refine ob1 ?_|refine cT ?_|refine cF ?_|refine zC ?_|refine cX (fun _=>?_) fun _=>?_|fail
     exact fin (by rw[decide_eq_true h0,decide_eq_true h1];rfl)
   · repeat' first|refine st ?_|refine ob ?_|refine ob1 ?_|refine cT ?_|refine cF ?_|refine zC ?_|refine cX (fun _=>?_) fun _=>?_|fail
     exact fin (by rw[decide_eq_true h0,decide_eq_false h1];rfl)
 · repeat' first|refine st ?_|refine ob ?_|refine ob1 ?_|refine cT ?_|refine cF ?_|refine zC ?_|refine cX (fun _=>?_) fun _=>?_|fail
   exact fin (by rw[decide_eq_false h0];rfl)
theorem at_ints_in{lo n len:Nat}{h:zB}{sv:Value}{vs:List Value}(r:Row lo h sv 45 1 len vs)(hlt:len<4611686018427387904){i:Nat}(hi:i<len):Pur P 0 76 [sv,I64 (i:Nat)] h n (.bool true):=by
 have:=at_ints (n:=n) r hlt ((i:Nat):Int)
 rwa [decide_eq_true (by omega:(0:Int)≤(i:Nat)),decide_eq_true (by omega:((i:Nat):Int)<(len:Nat))]at this
theorem at_set{lo n len:Nat}{h:zB}{sv:Value}{vs:List Value}(r:Row lo h sv 93 1 len vs)(hlt:len<4611686018427387904)(i:Int):Pur P 0 79 [sv,I64 i] h n (.bool (decide (0≤i) && decide (i<len))):=by
 refine ent fun u=>?_;by_cases h0:0≤i
 · by_cases h1:i<len
   · repeat' first|refine st ?_|refine ob ?_|refine ob1 ?_|refine cT ?_|refine cF ?_|refine zC ?_|refine cX (fun _=>?_) fun _=>?_|fail
     exact fin (by rw[decide_eq_true h0,decide_eq_true h1];rfl)
   · repeat' first|refine st ?_|refine ob ?_|refine ob1 ?_|refine cT ?_|refine cF ?_|refine zC ?_|refine cX (fun _=>?_) fun _=>?_|fail
     exact fin (by rw[decide_eq_true h0,decide_eq_false h1];rfl)
 · repeat' first|refine st ?_|refine ob ?_|refine ob1 ?_|refine cT ?_|refine cF ?_|refine zC ?_|refine cX (fun _=>?_) fun _=>?_|fail
   exact fin (by rw[decide_eq_false h0];rfl)
theorem at_set_in{lo n len:Nat}{h:zB}{sv:Value}{vs:List Value}(r:Row lo h sv 93 1 len vs)(hlt:len<4611686018427387904){i:Nat}(hi:i<len):Pur P 0 79 [sv,I64 (i:Nat)] h n (.bool true):=by
 have:=at_set (n:=n) r hlt ((i:Nat):Int)
 rwa [decide_eq_true (by omega:(0:Int)≤(i:Nat)),decide_eq_true (by omega:((i:Nat):Int)<(len:Nat))]at this
abbrev zIn:Nat:=3+1
def lapI(ps:List Pl)(a b:Nat):Bool:=match ps[a]?,ps[b]? with|some p,some q=>tJ p q|_,_=>false
def tV(m:MachT)(ns:List Tx)(ps:List Pl)(a b:Tx):Bool:=match m.classes[(cNs m).idxOf a]?,m.classes[(cNs m).idxOf b]? with|some c,some d=>(ixs ns c.regs).any fun x=>(ixs ns d.regs).any fun y=>lapI ps x.toNat y.toNat|_,_=>false
variable {lo n bt:Nat} {h:zB} {m:MachT} {ns:List Tx} {ps:List Pl} {v:TabV}
theorem cnx{x:Tx}(hx:x∈cNs m):∃c,m.classes[(cNs m).idxOf x]? = some c∧c.name=x:=by
 have h1:=List.idxOf_lt_length_iff.2 hx;have h2:(cNs m)[(cNs m).idxOf x]? = some x:=idx_at hx;unfold cNs at h2;rw [List.getElem?_map]at h2
 cases e:m.classes[(cNs m).idxOf x]? with
 | none=>unfold cNs at e;rw [e]at h2;cases h2
 | some c=>
  unfold cNs at e;rw [e]at h2;exact⟨c,rfl,by injection h2⟩
theorem tclass_in(k:TabM lo n h bt m ns ps v)(hcn:(cNs m).Nodup){x:Tx}(hx:x∈cNs m):Pur P 0 29 [ptr bt 0,str x] h n (.tuple ⟨[I64 ((cNs m).idxOf x:Nat),.bool true]⟩):=by
 have hcel:=k.cel;have mc:=k.mc;obtain⟨A,B,e1,e2⟩:=rE (idx_at hx) hcn;rw [e1]at mc;have lk:yV P h 88 (.map (some v.cb)) (str x) true=some (.tuple ⟨[I64 ((cNs m).idxOf x:Nat),.bool true]⟩):=lku_at (P:=P) (ty:=88) (ok:=true) mc e2;refine ent fun u=>?_;repeat' first|refine st ?_|refine ob ?_|refine ob1 ?_|refine cT ?_|refine cF ?_|refine zC ?_|refine cX (fun _=>?_) fun _=>?_|fail
 exact fin rfl
theorem tclass_no(k:TabM lo n h bt m ns ps v){x:Tx}(hx:x∉cNs m):Pur P 0 29 [ptr bt 0,str x] h n (.tuple ⟨[I64 0,.bool false]⟩):=by
 have hcel:=k.cel;have mc:=k.mc
 have lk:yV P h 88 (.map (some v.cb)) (str x) true=some (.tuple ⟨[I64 0,.bool false]⟩):=lku_no (P:=P) (ty:=88) mc fun p hp e=>hx (by
  have:=numL_key hp
  rwa [e]at this)
 refine ent fun u=>?_;repeat' first|refine st ?_|refine ob ?_|refine ob1 ?_|refine cT ?_|refine cF ?_|refine zC ?_|refine cX (fun _=>?_) fun _=>?_|fail
 exact fin rfl
theorem tof_ret(k:TabM lo n h bt m ns ps v)(hcl:m.classes.length≤64){j:Nat}{c:ClassT}(hj:m.classes[j]? = some c)(hr:c.regs.length≤64):Ret P 0 30 [ptr bt 0,I64 (j:Nat)] h n fun w h' n'=>OwnE n n' h' w eInt 1 (ixs ns c.regs).length ((ixs ns c.regs).map I64)∧Tch [] h n h' n':=by
 have hcel:=k.cel;have ofs:=k.ofs;have hlt:=(List.getElem?_eq_some_iff.1 hj).1;obtain⟨x,e1⟩:=k.ofe j c hj;have hol:=k.ofl;have orow:=ofs.1.row (by decide);have hel:=ofs.2 _ (List.mem_of_getElem? e1);have y0:zD h (sbk v.ofv) (sof v.ofv+j*1)=some x:=by rw[Nat.mul_one];exact orow.at (by rw[List.getElem?_map,e1];rfl)
 have low:=orow.low (by omega);have xl:(ixs ns c.regs).length=c.regs.length:=by unfold ixs;rw [List.length_map]
 refine ent fun u=>?_;repeat' first|refine st ?_|refine ob ?_|refine ob1 ?_|refine cT ?_|refine cF ?_|refine zC ?_|refine cX (fun _=>?_) fun _=>?_|refine zY (at_ints_in orow (by omega) (by omega)) ?_|fail
 refine vR (clone_int (lo:=n) (sv:=x) (Own.row hel (by decide)) (Nat.le_refl _) (fun y hy=>by obtain⟨z,_,rfl⟩:=List.mem_map.1 hy;rfl) (by show(ixs ns c.regs).length<1000000;omega)) ?_
 rintro w h2 n2 ⟨ho,ht⟩
 have o2:=yZ ho;repeat' first|refine st ?_|refine ob ?_|refine ob1 ?_|refine cT ?_|refine cF ?_|refine zC ?_|refine cX (fun _=>?_) fun _=>?_|fail
 exact⟨_,rfl,ho,ht⟩
theorem tlapt_pur(k:TabM lo n h bt m ns ps v)(hpl:ps.length≤200){a:Nat}(ha:a<ps.length){b:Nat}(hb:b<4611686018427387904):Pur P 0 33 [ptr bt 0,I64 (a:Nat),I64 (b:Nat)] h n (.bool (lapI ps a b)):=by
 have hcel:=k.cel;have lap:=k.lap;have hll:=k.lapl;have e1:v.L[a]? = some v.L[a]:=List.getElem?_eq_getElem (by omega);have hel:=lap.2 _ (List.getElem_mem (by omega:a<v.L.length));have hw:=k.lapw a _ e1 b;generalize v.L[a]=p at e1 hel hw
 have lrow:=lap.1.row (by decide);have y0:zD h (sbk v.lv) (sof v.lv+a*1)=some p.1:=by rw[Nat.mul_one];exact lrow.at (by rw[List.getElem?_map,e1];rfl)
 have low:=lrow.low (by omega);have o1:=hel.2.one;have e2:(decide ((0:Int)≤(b:Nat)) && vP p.2 ((b:Nat):Int).toNat)=lapI ps a b:=by rw[decide_eq_true (by omega),Int.toNat_natCast,hw];rfl
 refine Com.pure (ent fun u=>?_) (.inl rfl);repeat' first|refine st ?_|refine ob ?_|refine ob1 ?_|refine cT ?_|refine cF ?_|refine zC ?_|refine cX (fun _=>?_) fun _=>?_|refine zY (at_set_in lrow (by omega) (by omega)) ?_|refine zY (has_pur (hel.2.row (by decide)) (Nat.le_refl _) hel.1 _ (by omega)) ?_|fail
 exact finT (by rw[e2]) zA
theorem near1_pur{pt pr:Nat}(k:TabM lo n h bt m ns ps v)(hpl:ps.length≤200){a:Nat}(ha:a<ps.length){b:Nat}(hb:b<4611686018427387904)(c1:zD h pt 0=some (ptr bt 0))(c2:zD h pr 0=some (I64 (a:Nat))):Pur P 0 32 [I64 (b:Nat),ptr pt 0,ptr pr 0] h n (.bool (lapI ps a b)):=by
 refine Com.pure (ent fun u=>?_) (.inl rfl);repeat' first|refine st ?_|refine ob ?_|refine ob1 ?_|refine cT ?_|refine cF ?_|refine zC ?_|refine cX (fun _=>?_) fun _=>?_|refine zY (tlapt_pur k hpl ha hb) ?_|fail
 exact finT rfl zA
theorem near_com(k:TabM lo n h bt m ns ps v)(cs:CsOK m ns)(hcl:m.classes.length≤64)(hcr:∀c∈m.classes,c.regs.length≤64)(hcn:(cNs m).Nodup)(hpl:ps.length≤200)(hlen:ps.length=ns.length)(a b:Tx):Ret P 0 9 [ptr bt 0,str a,str b] h n fun v h' n'=>v = .bool (tV m ns ps a b)∧Tch [] h n h' n':=by
 refine ent fun u=>?_;have t1:Tch [] h n (hal h n (mkC [ptr bt 0] zPt 0)) (n+1):=zA;have k1:=k.tch t1
 have hno:∀x:Tx,x∉cNs m→m.classes[(cNs m).idxOf x]? = none:=fun x hx=>by
  have h9:(cNs m).idxOf x=(cNs m).length:=List.idxOf_eq_length hx;unfold cNs at h9 ⊢;rw [h9,List.length_map];exact List.getElem?_eq_none (Nat.le_refl _)
 by_cases ha:a∈cNs m
 · by_cases hb:b∈cNs m
   · obtain⟨ca,a1,a2⟩:=cnx ha;obtain⟨cb,b1,b2⟩:=cnx hb;have hca:=hcr ca (List.mem_of_getElem? a1);have hcb:=hcr cb (List.mem_of_getElem? b1);have e0:tV m ns ps a b=(ixs ns ca.regs).any fun x=>(ixs ns cb.regs).any fun y=>lapI ps x.toNat y.toNat:=by unfold tV;rw [a1,b1]
     have hA:∀x∈ixs ns ca.regs,∃k:Nat,x=(k:Nat)∧k<ps.length:=fun x hx=>by
      unfold ixs at hx;obtain⟨r,hr,rfl⟩:=List.mem_map.1 hx;exact⟨_,rfl,by have:=List.idxOf_lt_length_iff.2 (cs.mem _ _ a1 r hr);omega⟩
     have hB:∀x∈ixs ns cb.regs,∃k:Nat,x=(k:Nat)∧k<ps.length:=fun x hx=>by
      unfold ixs at hx;obtain⟨r,hr,rfl⟩:=List.mem_map.1 hx;exact⟨_,rfl,by have:=List.idxOf_lt_length_iff.2 (cs.mem _ _ b1 r hr);omega⟩
     have hAl:(ixs ns ca.regs).length≤64:=by unfold ixs;rw [List.length_map];exact hca
     have hBl:(ixs ns cb.regs).length≤64:=by unfold ixs;rw [List.length_map];exact hcb
     repeat' first|refine st ?_|refine ob ?_|refine ob1 ?_|refine cT ?_|refine cF ?_|refine zC ?_|refine cX (fun _=>?_) fun _=>?_|refine ob (a:=.bool false) ?_ bn_p1|refine zY (tclass_in k1 hcn ha) ?_|refine zY (tclass_in k1 hcn hb) ?_|fail
     refine vR (tof_ret k1 hcl a1 hca) ?_
     rintro w h2 n2 ⟨ow,t2⟩
     have hn2:=t2.le;have hof:∀{h' n'},Tch [] h n h' n'→Ret P 0 30 [ptr bt 0,I64 ((cNs m).idxOf b:Nat)] h' n' fun w h2 n2=>OwnE n' n2 h2 w eInt 1 (ixs ns cb.regs).length ((ixs ns cb.regs).map I64)∧Tch [] h' n' h2 n2:=fun t9=>tof_ret (k.tch t9) hcl b1 hcb;generalize hAe:ixs ns ca.regs=A at *
     have rw2:=ow.row (by decide);repeat' first|refine st ?_|refine ob ?_|refine ob1 ?_|refine cT ?_|refine cF ?_|refine zC ?_|refine cX (fun _=>?_) fun _=>?_|fail
     have cP:Cel h2 n zPt 0 [ptr bt 0]:=zE;have t02:Tch [] h n h2 n2:=zA;refine lpR (fun i:Nat=>[(3,ptr n 0),(9,I64 ((cNs m).idxOf b:Nat)),(35,w),(36,I64 A.length),(37,I64 i)]) (fun i h' n'=>Tch [] h2 n2 h' n'∧i≤A.length∧∀(j:Nat) x,j<i→A[j]? = some x→((ixs ns cb.regs).any fun y=>lapI ps x.toNat y.toNat)=false) (fun i=>A.length - i) 0 (by repeat' first|exact trivial|refine⟨rfl,?_⟩) ⟨Tch.refl _ _ _,Nat.zero_le _,fun j x hj=>by omega⟩ ?_
     rintro i t h' n' ⟨ht,hi,hno2⟩
     have hn':=ht.le;have rw':=rw2.tch ht (Nat.le_refl _) (by simp);have cP':=cP.tch ht (by omega) (by simp);have t0':Tch [] h n h' n':=Tch.tch ht t02 (by simp);by_cases hlt:i<A.length
     · have c0:A[i]? = some A[i]:=List.getElem?_eq_getElem hlt;generalize A[i]=x at c0
       obtain⟨x,rfl,hx⟩:=hA x (List.mem_of_getElem? c0);have c1:zD h' (sbk w) (sof w+i*1)=some (I64 (x:Nat)):=by rw[Nat.mul_one];exact rw'.at (by rw[List.getElem?_map,c0];rfl)
       have low:=rw'.low (by omega);repeat' first|refine st ?_|refine ob ?_|refine ob1 ?_|refine cT ?_|refine cF ?_|refine zC ?_|refine cX (fun _=>?_) fun _=>?_|fail
       have tX:Tch [] h n (hst (hal h' n' (mkC [Value.int IntKind.i64 0] (3+1) 0)) n' 0 [I64 (x:Nat)]) (n'+1):=zA;refine vR (hof tX) ?_
       rintro w3 h3 n3 ⟨ow3,t3⟩
       have hn3:=t3.le;clear tX;have cP3:Cel h3 n zPt 0 [ptr bt 0]:=zE;have cR3:Cel h3 n' zIn 0 [I64 (x:Nat)]:=zE;have t23:Tch [] h2 n2 h3 n3:=zA;have t03:Tch [] h n h3 n3:=zA;clear t3;have k3:=k.tch t03
       have hpp:∀y∈ixs ns cb.regs,Pur P 0 32 ([]++([I64 y]++[ptr n 0,ptr n' 0])) h3 n3 (.bool (lapI ps x y.toNat)):=fun y hy=>by
        obtain⟨y,rfl,hy⟩:=hB y hy;exact near1_pur k3 hpl hx (by omega) (cP3.cell rfl) (cR3.cell rfl)
       repeat' first|refine st ?_|refine ob ?_|refine ob1 ?_|refine cT ?_|refine cF ?_|refine zC ?_|refine cX (fun _=>?_) fun _=>?_|refine zY (contf_int (p:=fun y=>lapI ps x y.toNat) (ow3.row (by decide)) (by unfold inf;omega) hpp) ?_|fail
       · rename_i e1;exact⟨_,rfl,by rw[e0,tP c0 e1],t03⟩
       · rename_i e1
         exact⟨i+1,(by dsimp only;omega),(by repeat' first|exact trivial|refine⟨rfl,?_⟩),t23,by omega,fun j y hj e=>by
          rcases Nat.lt_succ_iff_lt_or_eq.1 hj with h9|rfl
          · exact hno2 j y h9 e
          · rw[c0]at e;cases e;exact e1⟩
     · obtain rfl:i=A.length:=by omega
       repeat' first|refine st ?_|refine ob ?_|refine ob1 ?_|refine cT ?_|refine cF ?_|refine zC ?_|refine cX (fun _=>?_) fun _=>?_|fail
       exact⟨_,rfl,by rw[e0];exact congrArg Value.bool (Eq.symm (any_ft fun j x e=>hno2 j x (List.getElem?_eq_some_iff.1 e).1 e)),t0'⟩
   · have e0:tV m ns ps a b=false:=by unfold tV;rw [hno b hb];cases m.classes[(cNs m).idxOf a]? <;> rfl
     repeat' first|refine st ?_|refine ob ?_|refine ob1 ?_|refine cT ?_|refine cF ?_|refine zC ?_|refine cX (fun _=>?_) fun _=>?_|refine ob (a:=.bool false) ?_ bn_p1|refine zY (tclass_in k1 hcn ha) ?_|refine zY (tclass_no k1 hb) ?_|fail
     exact⟨_,rfl,by rw[e0],zA⟩
 · have e0:tV m ns ps a b=false:=by unfold tV;rw [hno a ha]
   by_cases hb:b∈cNs m
   · repeat' first|refine st ?_|refine ob ?_|refine ob1 ?_|refine cT ?_|refine cF ?_|refine zC ?_|refine cX (fun _=>?_) fun _=>?_|refine ob (a:=.bool false) ?_ bn_p1|refine zY (tclass_no k1 ha) ?_|refine zY (tclass_in k1 hcn hb) ?_|fail
     exact⟨_,rfl,by rw[e0],zA⟩
   · repeat' first|refine st ?_|refine ob ?_|refine ob1 ?_|refine cT ?_|refine cF ?_|refine zC ?_|refine cX (fun _=>?_) fun _=>?_|refine ob (a:=.bool false) ?_ bn_p1|refine zY (tclass_no k1 ha) ?_|refine zY (tclass_no k1 hb) ?_|fail
     exact⟨_,rfl,by rw[e0],zA⟩
end Go.Proofs.YtcmohelnoldfbaaGreat
namespace Go.Proofs.YtcmohelnoldfbaaGreat
open Go Go.Ex Go.Ex.M
set_option maxRecDepth 100000
set_option maxHeartbeats 8000000
variable {lo bt z n:Nat} {h:zB} {m:MachT} {nsv psv kv:Value} {ns:List Tx} {ps:List Pl} {kvs:List Value}
theorem clsPos_in(hcn:(cNs m).Nodup){x:Tx}(hx:x∈cNs m):yT m x=((cNs m).idxOf x:Nat):=by
 obtain⟨c,h1,h2⟩:=cnx hx;rcases wE (m:=m) (x:=x) with⟨h3,h4⟩|⟨k,c',h3,h4,h5,h6,h7⟩
 · obtain⟨c,hc,e⟩:=List.mem_map.1 hx;obtain⟨i,hi⟩:=List.mem_iff_getElem?.1 hc;exfalso
   unfold yT at h4;have h9:(m.classes.any fun c=>decide (c.name=x))=true:=List.any_eq_true.2 ⟨c,hc,decide_eq_true e⟩;unfold posF at h4;rw [if_pos h9]at h4;omega
 · rw[h5];have e1:(cNs m)[k]? = some x:=by unfold cNs;rw [List.getElem?_map,h4];exact congrArg some h7
   have:=nodup_at hcn (idx_at hx) e1;omega
theorem clsPos_out{x:Tx}(hx:x∉cNs m):yT m x = -1:=by
 rcases wE (m:=m) (x:=x) with⟨h3,h4⟩|⟨k,c',h3,h4,h5,h6,h7⟩
 · exact h4
 · exact absurd (List.mem_map.2 ⟨c',List.mem_of_getElem? h4,h7⟩) hx
theorem ixs_pos{ns l:List Tx}(h:∀r∈l,r∈ns):ixs ns l=l.map (pos ns):=List.map_congr_left fun r hr=>(vK (h r hr)).symm
theorem lapI_N{x y:Int}(hx:0≤x)(hy:0≤y):lapI ps x.toNat y.toNat=sH ps x y:=by unfold sH lapI;rw [decide_eq_true hx,decide_eq_true hy];rfl
theorem any_congr{α : Type}{l:List α}{f g: α→Bool}(h:∀x∈l,f x=g x):l.any f=l.any g:=by
 induction l with
 | nil=>rfl
 | cons a l ih=>rw [List.any_cons,List.any_cons,h a (List.mem_cons_self ..),ih fun x hx=>h x (List.mem_cons_of_mem _ hx)]
theorem rnear_pur(k:Tc lo h bt z m nsv psv kv ns ps kvs)(hlo:lo≤n)(cs:CsOK m ns)(hcn:(cNs m).Nodup)(a b:Tx):Pur P 0 10 [ptr bt 0,str a,str b] h n (.bool (tV m ns ps a b)):=by
 have hcel:=k.tb.cel;have kr:=k.kr;have kl:=k.kl;have hcl:=k.tb.mm.cls.lt;have hinf:inf<4611686018427387904:=by decide
 have hno:∀x:Tx,x∉cNs m→m.classes[(cNs m).idxOf x]? = none:=fun x hx=>by
  have h9:(cNs m).idxOf x=(cNs m).length:=List.idxOf_eq_length hx;unfold cNs at h9 ⊢;rw [h9,List.length_map];exact List.getElem?_eq_none (Nat.le_refl _)
 refine ent fun u=>?_;by_cases ha:a∈cNs m
 · by_cases hb:b∈cNs m
   · obtain⟨ca,a0,a9⟩:=cnx ha;obtain⟨cb,b0,b9⟩:=cnx hb;have qa:Pur P 0 34 [ptr bt 0,str a] h n (I64 ((cNs m).idxOf a:Nat)):=clsPos_in hcn ha ▸ yH k.tb a;have qb:Pur P 0 34 [ptr bt 0,str b] h n (I64 ((cNs m).idxOf b:Nat)):=clsPos_in hcn hb ▸ yH k.tb b
     have e0:tV m ns ps a b=(ca.regs.map (pos ns)).any fun x=>(cb.regs.map (pos ns)).any fun y=>sH ps x y:=by
      unfold tV;rw [a0,b0];dsimp only;rw [ixs_pos (cs.mem _ _ a0),ixs_pos (cs.mem _ _ b0)]
      have hp:∀(c:ClassT) (i:Nat),m.classes[i]? = some c→∀x∈c.regs.map (pos ns),0≤x:=fun c i hi x hx=>by
       obtain⟨r,hr,rfl⟩:=List.mem_map.1 hx;exact pos_ge.2 (cs.mem _ _ hi r hr)
      refine any_congr fun x hx=>any_congr fun y hy=>lapI_N (hp _ _ a0 x hx) (hp _ _ b0 y hy)
     have hla:=(List.getElem?_eq_some_iff.1 a0).1;have hlb:=(List.getElem?_eq_some_iff.1 b0).1;obtain⟨va,a1,a2⟩:=k.ke _ _ a0;obtain⟨vb,b1,b2⟩:=k.ke _ _ b0;have ya:=row_ee kr a1;have yb:=row_ee kr b1;have hAl:=cls_len k (List.mem_of_getElem? a0);have hBl:=cls_len k (List.mem_of_getElem? b0);have ra:Row lo h va tInt 1 (ca.regs.map (pos ns)).length ((ca.regs.map (pos ns)).map I64):=by rw[List.length_map];exact a2
     have rb:Row lo h vb tInt 1 (cb.regs.map (pos ns)).length ((cb.regs.map (pos ns)).map I64):=by rw[List.length_map];exact b2
     have hAl:(ca.regs.map (pos ns)).length<inf:=by rw[List.length_map];exact hAl
     have hBl:(cb.regs.map (pos ns)).length<inf:=by rw[List.length_map];exact hBl
     clear a2 b2;generalize (cNs m).idxOf a=ia at *
     generalize (cNs m).idxOf b=ib at *
     generalize ca.regs.map (pos ns)=A at *
     generalize cb.regs.map (pos ns)=B at *
     repeat' first|refine st ?_|refine ob ?_|refine ob1 ?_|refine cT ?_|refine cF ?_|refine zC ?_|refine cX (fun _=>?_) fun _=>?_|refine zY qa ?_|refine zY qb ?_|fail
     refine lpR (fun i:Nat=>[(0,ptr bt 0),(7,I64 ia),(8,I64 ib),(9,I64 i)]) (fun i h' n'=>h'=h∧n'=n∧i≤A.length∧∀(j:Nat) x,j<i→A[j]? = some x→(B.any fun y=>sH ps x y)=false) (fun i=>A.length - i) 0 (by repeat' first|exact trivial|refine⟨rfl,?_⟩) ⟨rfl,rfl,Nat.zero_le _,fun j _ hj=>absurd hj (Nat.not_lt_zero _)⟩ ?_
     rintro i t h' n' ⟨rfl,rfl,hi,hno2⟩
     by_cases hlt:i<A.length
     · have c0:A[i]? = some A[i]:=List.getElem?_eq_getElem hlt;generalize A[i]=x at c0
       have c1:=yX ra c0;repeat' first|refine st ?_|refine ob ?_|refine ob1 ?_|refine cT ?_|refine cF ?_|refine zC ?_|refine cX (fun _=>?_) fun _=>?_|fail
       refine lpR (fun q:Nat=>[(0,ptr bt 0),(7,I64 ia),(8,I64 ib),(9,I64 i),(10,I64 q)]) (fun q h2 n2=>h2=h'∧n2=n'∧q≤B.length∧∀(j:Nat) y,j<q→B[j]? = some y→sH ps x y=false) (fun q=>B.length - q) 0 (by repeat' first|exact trivial|refine⟨rfl,?_⟩) ⟨rfl,rfl,Nat.zero_le _,fun j _ hj=>absurd hj (Nat.not_lt_zero _)⟩ ?_
       rintro q t h2 n2 ⟨rfl,rfl,hq,hno3⟩
       by_cases hlt2:q<B.length
       · have d0:B[q]? = some B[q]:=List.getElem?_eq_getElem hlt2;generalize B[q]=y at d0
         have d1:=yX rb d0;repeat' first|refine st ?_|refine ob ?_|refine ob1 ?_|refine cT ?_|refine cF ?_|refine zC ?_|refine cX (fun _=>?_) fun _=>?_|refine zY (vO k.tb hlo x y) ?_|fail
         · rename_i f1;exact fin (by rw[e0,tP c0 (tP d0 f1)])
         · rename_i f1
           exact⟨q+1,(by dsimp only;omega),(by repeat' first|exact trivial|refine⟨rfl,?_⟩),rfl,rfl,by omega,fun j w hj e=>by
            rcases Nat.lt_succ_iff_lt_or_eq.1 hj with h9|rfl
            · exact hno3 j w h9 e
            · rw[d0]at e;cases e;exact f1⟩
       · obtain rfl:q=B.length:=by omega
         repeat' first|refine st ?_|refine ob ?_|refine ob1 ?_|refine cT ?_|refine cF ?_|refine zC ?_|refine cX (fun _=>?_) fun _=>?_|fail
         exact⟨i+1,(by dsimp only;omega),(by repeat' first|exact trivial|refine⟨rfl,?_⟩),rfl,rfl,by omega,fun j w hj e=>by
          rcases Nat.lt_succ_iff_lt_or_eq.1 hj with h9|rfl
          · exact hno2 j w h9 e
          · rw[c0]at e;cases e;exact any_ft fun q y e=>hno3 q y (List.getElem?_eq_some_iff.1 e).1 e⟩
     · obtain rfl:i=A.length:=by omega
       repeat' first|refine st ?_|refine ob ?_|refine ob1 ?_|refine cT ?_|refine cF ?_|refine zC ?_|refine cX (fun _=>?_) fun _=>?_|fail
       exact fin (by rw[e0,any_ft fun j x e=>hno2 j x (List.getElem?_eq_some_iff.1 e).1 e])
   · have e0:tV m ns ps a b=false:=by unfold tV;rw [hno b hb];cases m.classes[(cNs m).idxOf a]? <;> rfl
     have qa:Pur P 0 34 [ptr bt 0,str a] h n (I64 ((cNs m).idxOf a:Nat)):=clsPos_in hcn ha ▸ yH k.tb a;have qb:Pur P 0 34 [ptr bt 0,str b] h n (I64 (-1)):=clsPos_out hb ▸ yH k.tb b;repeat' first|refine st ?_|refine ob ?_|refine ob1 ?_|refine cT ?_|refine cF ?_|refine zC ?_|refine cX (fun _=>?_) fun _=>?_|refine zY qa ?_|refine zY qb ?_|fail
     all_goals exact fin (by rw[e0])
 · have e0:tV m ns ps a b=false:=by unfold tV;rw [hno a ha]
   have qa:Pur P 0 34 [ptr bt 0,str a] h n (I64 (-1)):=clsPos_out ha ▸ yH k.tb a;have qb:=yH (n:=n) k.tb b;repeat' first|refine st ?_|refine ob ?_|refine ob1 ?_|refine cT ?_|refine cF ?_|refine zC ?_|refine cX (fun _=>?_) fun _=>?_|refine zY qa ?_|refine zY qb ?_|fail
   all_goals exact fin (by rw[e0])
end Go.Proofs.YtcmohelnoldfbaaGreat
namespace Go.Proofs.YtcmohelnoldfbaaGreat
open Go Go.Ex Go.Ex.M
set_option maxRecDepth 100000
set_option maxHeartbeats 8000000
theorem long_com{lo e n:Nat}{h:zB}{sv:Value}{l:List Tx}(r:Row lo h sv e 1 l.length (l.map str))(hl:l.length<vT)(ht:∀x∈l,x.length<vT):Com P 0 26 [sv] h n fun o h' n'=>∃k:Nat,o = .ret (I64 (k:Nat))∧k<2*vT∧h'=h∧n'=n:=by
 have hinf:vT=1125899906842624:=rfl;refine ent fun u=>?_;repeat' first|refine st ?_|refine ob ?_|refine ob1 ?_|refine cT ?_|refine cF ?_|refine zC ?_|refine cX (fun _=>?_) fun _=>?_|fail
 refine lpR (α :=Nat×Nat) (fun a=>[(0,sv),(3,I64 a.2),(4,I64 a.1)]) (fun a h' n'=>h'=h∧n'=n∧a.1≤l.length∧a.2<2*vT) (fun a=>l.length - a.1) (0,l.length) (by repeat' first|exact trivial|refine⟨rfl,?_⟩) ⟨rfl,rfl,Nat.zero_le _,by dsimp only;omega⟩ ?_
 rintro ⟨i,k⟩ t h' n' ⟨rfl,rfl,hi,hk⟩
 dsimp only at hi hk ⊢;by_cases hlt:i<l.length
 · have c0:l[i]? = some l[i]:=List.getElem?_eq_getElem hlt;have hx:=ht _ (List.getElem_mem hlt);generalize l[i]=x at c0 hx
   have c1:=yX r c0;by_cases hg:k≤5000
   · repeat' first|refine st ?_|refine ob ?_|refine ob1 ?_|refine cT ?_|refine cF ?_|refine zC ?_|refine cX (fun _=>?_) fun _=>?_|fail
     exact⟨(i+1,k+x.length / 8),(by dsimp only;omega),(by repeat' first|exact trivial|refine⟨rfl,?_⟩),rfl,rfl,by omega,by dsimp only;omega⟩
   · repeat' first|refine st ?_|refine ob ?_|refine ob1 ?_|refine cT ?_|refine cF ?_|refine zC ?_|refine cX (fun _=>?_) fun _=>?_|fail
     exact⟨k,rfl,by omega,rfl,rfl⟩
 · obtain rfl:i=l.length:=by omega
   repeat' first|refine st ?_|refine ob ?_|refine ob1 ?_|refine cT ?_|refine cF ?_|refine zC ?_|refine cX (fun _=>?_) fun _=>?_|fail
   exact⟨k,rfl,by omega,rfl,rfl⟩
theorem size_com:∀(d:Nat) {l:List RegT} {x:Int} {sv:Value} {lo n:Nat} {h:zB},d≤30→x=(d:Nat)→RegsM lo h sv l→lo≤n→TxtR l→Com P 0 25 [sv,I64 x] h n fun o h' n'=>∃k:Nat,o = .ret (I64 (k:Nat))∧k<(d+1)*9007199254740992∧h'=h∧n'=n:=by
 intro d
 induction d with
 | zero=>
  rintro l x sv lo n h - rfl hr hlo ht
  have r:=hr.row 0;have hl:=ht.len;have hinf9:vT=1125899906842624:=rfl;refine ent fun u=>?_;repeat' first|refine st ?_|refine ob ?_|refine ob1 ?_|refine cT ?_|refine cF ?_|refine zC ?_|refine cX (fun _=>?_) fun _=>?_|fail
  refine lpR (fun _:Nat=>[(0,sv),(1,I64 ((0:Nat):Int)),(5,I64 l.length),(6,I64 0)]) (fun _ h' n'=>h'=h∧n'=n) (fun _=>0) 0 (by repeat' first|exact trivial|refine⟨rfl,?_⟩) ⟨rfl,rfl⟩ ?_
  rintro i t h' n' ⟨rfl,rfl⟩
  by_cases hlt:0<l.length
  · repeat' first|refine st ?_|refine ob ?_|refine ob1 ?_|refine cT ?_|refine cF ?_|refine zC ?_|refine cX (fun _=>?_) fun _=>?_|fail
    · exact⟨5001,rfl,by omega,rfl,rfl⟩
    · exact⟨l.length,rfl,by omega,rfl,rfl⟩
  · repeat' first|refine st ?_|refine ob ?_|refine ob1 ?_|refine cT ?_|refine cF ?_|refine zC ?_|refine cX (fun _=>?_) fun _=>?_|fail
    exact⟨l.length,rfl,by omega,rfl,rfl⟩
 | succ d ih=>
  rintro l x sv lo n h hd rfl hr hlo ht
  have hinf:vT=1125899906842624:=rfl;have r:=hr.row 0;have hl:=ht.len;have hinf9:vT=1125899906842624:=rfl;refine ent fun u=>?_;repeat' first|refine st ?_|refine ob ?_|refine ob1 ?_|refine cT ?_|refine cF ?_|refine zC ?_|refine cX (fun _=>?_) fun _=>?_|fail
  refine lpR (α :=Nat×Nat) (fun a=>[(0,sv),(1,I64 ((d+1:Nat):Int)),(5,I64 a.2),(6,I64 a.1)]) (fun a h' n'=>h'=h∧n'=n∧a.1≤l.length∧a.2<(d+1+1)*9007199254740992) (fun a=>l.length - a.1) (0,l.length) (by repeat' first|exact trivial|refine⟨rfl,?_⟩) ⟨rfl,rfl,Nat.zero_le _,by dsimp only;omega⟩ ?_
  rintro ⟨i,k⟩ t h' n' ⟨rfl,rfl,hi,hk⟩
  dsimp only at hi hk ⊢;by_cases hlt:i<l.length
  · have c0:l[i]? = some l[i]:=List.getElem?_eq_getElem hlt;generalize l[i]=x at c0
    have hm:=List.mem_of_getElem? c0;obtain⟨hx,hs⟩:=ht.at hm;have c1:=xP (zM r c0) (j:=0) rfl;have low:=r.low (by omega);have c3:=xP (zM r c0) (j:=3) rfl;by_cases hg:k≤5000
    · repeat' first|refine st ?_|refine ob ?_|refine ob1 ?_|refine cT ?_|refine cF ?_|refine zC ?_|refine cX (fun _=>?_) fun _=>?_|fail
      refine cal (ih (by omega) (by omega) (hr.sub hm) hlo hs) ?_
      rintro _ _ _ ⟨k2,rfl,hk2,rfl,rfl⟩
      repeat' first|refine st ?_|refine ob ?_|refine ob1 ?_|refine cT ?_|refine cF ?_|refine zC ?_|refine cX (fun _=>?_) fun _=>?_|fail
      exact⟨(i+1,k+x.name.length / 8+k2),(by dsimp only;omega),(by repeat' first|exact trivial|refine⟨rfl,?_⟩),rfl,rfl,by omega,by dsimp only;omega⟩
    · repeat' first|refine st ?_|refine ob ?_|refine ob1 ?_|refine cT ?_|refine cF ?_|refine zC ?_|refine cX (fun _=>?_) fun _=>?_|fail
      exact⟨k,rfl,by omega,rfl,rfl⟩
  · obtain rfl:i=l.length:=by omega
    repeat' first|refine st ?_|refine ob ?_|refine ob1 ?_|refine cT ?_|refine cF ?_|refine zC ?_|refine cX (fun _=>?_) fun _=>?_|fail
    exact⟨k,rfl,by omega,rfl,rfl⟩
end Go.Proofs.YtcmohelnoldfbaaGreat
namespace Go.Proofs.YtcmohelnoldfbaaGreat
open Go Go.Ex Go.Ex.M
set_option maxRecDepth 100000
set_option maxHeartbeats 8000000
variable {lo n:Nat} {h:zB} {m:MachT}
theorem bn_quo8s{P:Program}{ty:Nat}{ox oy:Operand}{a b:Nat}(h:((a+b:Nat):Int)<9223372036854775808):Bn P .quo ty ox oy (I64 ((a:Nat)+(b:Nat))) (I64 8) (I64 (((a+b) / 8:Nat):Int)):=by
 rw[← Int.natCast_add];exact bn_quo8 h
theorem big_com(mm:MachM lo h m)(hlo:lo≤n)(tx:TxtM m):Com P 0 7 [.agg ⟨yO m⟩] h n fun o h' n'=>∃b,o = .ret (.bool b)∧Tch [] h n h' n':=by
 obtain⟨o1,o2,o3,o4,o5⟩:=tQ mm;have ht:vT=1125899906842624:=rfl;have g0:=tx.nm;have g5:=tx.re;have g2:=tx.cll;have g3:=tx.opl;refine ent fun u=>?_;repeat' first|refine st ?_|refine ob ?_|refine ob1 ?_|refine cT ?_|refine cF ?_|refine zC ?_|refine cX (fun _=>?_) fun _=>?_|fail
 have t1:Tch [] h n (hal h n (mkC (yO m) zMc 0)) (n+1):=zA;have c1:Cel (hal h n (mkC (yO m) zMc 0)) n zMc 0 (yO m):=cel_hal _ _ _ _ _;have m1:=mm.tch t1 hlo;have za:=m1.args 0;have zs:=m1.saved 0;have zr:=m1.regs.row 0;have zc:=m1.cls 0;have zo:=m1.ops 0;generalize hal h n (mkC (yO m) zMc 0)=h1 at *
 refine cal (size_com 30 (Nat.le_refl _) rfl m1.regs (by omega) tx.rg) ?_
 rintro _ _ _ ⟨k1,rfl,hk1,rfl,rfl⟩
 repeat' first|refine st ?_|refine ob ?_|refine ob1 ?_|refine cT ?_|refine cF ?_|refine zC ?_|refine cX (fun _=>?_) fun _=>?_|fail
 refine cal (long_com (m1.args 0) tx.ar.1 tx.ar.2) ?_
 rintro _ _ _ ⟨k2,rfl,hk2,rfl,rfl⟩
 repeat' first|refine st ?_|refine ob ?_|refine ob1 ?_|refine cT ?_|refine cF ?_|refine zC ?_|refine cX (fun _=>?_) fun _=>?_|fail
 refine cal (long_com (m1.saved 0) tx.sv.1 tx.sv.2) ?_
 rintro _ _ _ ⟨k3,rfl,hk3,rfl,rfl⟩
 repeat' first|refine st ?_|refine ob ?_|refine ob1 ?_|refine cT ?_|refine cF ?_|refine zC ?_|refine cX (fun _=>?_) fun _=>?_|fail
 refine lpR (α :=Nat×Nat) (fun a=>[(1,ptr n 0),(3,I64 a.2),(4,I64 a.1)]) (fun a h' n'=>h'=_∧n'=n+1∧a.1≤m.classes.length∧a.2<33*9007199254740992) (fun a=>m.classes.length - a.1) (0,k1+k2+k3+m.name.length / 8+m.result.length / 8) (by repeat' first|exact trivial|refine⟨rfl,?_⟩) ⟨rfl,rfl,Nat.zero_le _,by dsimp only;omega⟩ ?_
 rintro ⟨i,k⟩ t h' n' ⟨rfl,rfl,hi,hk⟩
 dsimp only at hi hk ⊢;by_cases hlt:i<m.classes.length∧k≤5000
 · obtain⟨hlt,hg⟩:=hlt;have d0:m.classes[i]? = some m.classes[i]:=List.getElem?_eq_getElem hlt;generalize m.classes[i]=c at d0
   have hcm:=List.mem_of_getElem? d0;obtain⟨x1,x2⟩:=tx.cl c hcm;have d1:=xP (zM zc d0) (j:=0) rfl;have d2:=xP (zM zc d0) (j:=1) rfl;have low:=zc.low (by omega);have zr2:=m1.clsr c hcm 0;repeat' first|refine st ?_|refine ob ?_|refine ob1 ?_|refine cT ?_|refine cF ?_|refine zC ?_|refine cX (fun _=>?_) fun _=>?_|fail
   refine cal (long_com zr2 x2.1 x2.2) ?_
   rintro _ _ _ ⟨q,rfl,hq,rfl,rfl⟩
   repeat' first|refine st ?_|refine ob ?_|refine ob1 ?_|refine cT ?_|refine cF ?_|refine zC ?_|refine cX (fun _=>?_) fun _=>?_|fail
   exact⟨(i+1,k+1+q+c.name.length / 8),(by dsimp only;omega),(by repeat' first|exact trivial|refine⟨rfl,?_⟩),rfl,rfl,by omega,by dsimp only;omega⟩
 · by_cases hlt2:i<m.classes.length
   · have hg:¬k≤5000:=fun h9=>hlt ⟨hlt2,h9⟩;repeat' first|refine st ?_|refine ob ?_|refine ob1 ?_|refine cT ?_|refine cF ?_|refine zC ?_|refine cX (fun _=>?_) fun _=>?_|fail
     have cM:=c1;have tM:=t1;refine lpR (α :=Nat×Nat) (fun a=>[(1,ptr n 0),(3,I64 a.2),(5,I64 a.1)]) (fun a h2 n2=>Tch [] h n h2 n2∧n+1≤n2∧Cel h2 n zMc 0 (yO m)∧a.1≤m.ops.length∧a.2<64*9007199254740992) (fun a=>m.ops.length - a.1) (0,k) (by repeat' first|exact trivial|refine⟨rfl,?_⟩) ⟨t1,Nat.le_refl _,c1,Nat.zero_le _,by dsimp only;omega⟩ ?_
     rintro ⟨i2,k4⟩ t h2 n2 ⟨t2,hn2,c2,hi2,hk4⟩
     dsimp only at hi2 hk4 ⊢;have m2:=mm.tch t2 hlo;have zo2:=m2.ops 0;by_cases hlt3:i2<m.ops.length
     · by_cases hg3:k4≤5000
       · have d0:m.ops[i2]? = some m.ops[i2]:=List.getElem?_eq_getElem hlt3;generalize m.ops[i2]=o at d0
         have hom:=List.mem_of_getElem? d0;obtain⟨x1,x2,x3,x4,x5,x6⟩:=tx.op o hom;have d1:=zM zo2 d0;have low:=zo2.low (by omega);have zu:=m2.opsu o hom 0;have zv:=m2.opsc o hom 0;have ou1:=zu.one;have oc1:=zv.one;repeat' first|refine st ?_|refine ob ?_|refine ob1 ?_|refine cT ?_|refine cF ?_|refine zC ?_|refine cX (fun _=>?_) fun _=>?_|fail
         have t3:Tch [] h n (hst (hal h2 n2 (mkC [str [],str [],str [],.slice none 0 0,I64 0,.slice none 0 0] (eOp+1) 0)) n2 0 (opC o)) (n2+1):=zA;have cO:Cel (hst (hal h2 n2 (mkC [str [],str [],str [],.slice none 0 0,I64 0,.slice none 0 0] (eOp+1) 0)) n2 0 (opC o)) n2 (eOp+1) 0 (opC o):=zE;have cM3:Cel (hst (hal h2 n2 (mkC [str [],str [],str [],.slice none 0 0,I64 0,.slice none 0 0] (eOp+1) 0)) n2 0 (opC o)) n zMc 0 (yO m):=zE;have m3:=mm.tch t3 hlo;generalize (hst (hal h2 n2 (mkC [str [],str [],str [],.slice none 0 0,I64 0,.slice none 0 0] (eOp+1) 0)) n2 0 (opC o))=h3 at *
         have zu3:=m3.opsu o hom 0;have zv3:=m3.opsc o hom 0;refine cal (long_com zv3 x6.1 x6.2) ?_
         rintro _ _ _ ⟨q5,rfl,hq5,rfl,rfl⟩
         repeat' first|refine st ?_|refine ob ?_|refine ob1 ?_|refine cT ?_|refine cF ?_|refine zC ?_|refine cX (fun _=>?_) fun _=>?_|refine ob (a:=_) ?_ (bn_quo8s (by omega))|fail
         refine lpR (α :=Nat×Nat) (fun a=>[(1,ptr n 0),(3,I64 a.2),(5,I64 i2),(6,ptr n2 0),(7,I64 a.1)]) (fun a h5 n5=>h5=_∧n5=n2+1∧a.1≤o.uses.length∧a.2<63*9007199254740992) (fun a=>o.uses.length - a.1) (0,k4+2+q5+o.name.length / 8+(o.d.cls.length+o.d.fix.length) / 8+o.uses.length) (by repeat' first|exact trivial|refine⟨rfl,?_⟩) ⟨rfl,rfl,Nat.zero_le _,by dsimp only;omega⟩ ?_
         rintro ⟨e,k6⟩ t h5 n5 ⟨rfl,rfl,he,hk6⟩
         dsimp only at he hk6 ⊢;by_cases hlt4:e<o.uses.length
         · by_cases hg4:k6≤5000
           · have e0:o.uses[e]? = some o.uses[e]:=List.getElem?_eq_getElem hlt4;generalize o.uses[e]=x at e0
             obtain⟨y1,y2⟩:=x5 x (List.mem_of_getElem? e0);have e1:=xP (zM zu3 e0) (j:=0) rfl;have e2:=xP (zM zu3 e0) (j:=1) rfl;have low3:=zu3.low (by omega);repeat' first|refine st ?_|refine ob ?_|refine ob1 ?_|refine cT ?_|refine cF ?_|refine zC ?_|refine cX (fun _=>?_) fun _=>?_|refine ob (a:=_) ?_ (bn_quo8s (by omega))|fail
             exact⟨(e+1,k6+(x.cls.length+x.fix.length) / 8),(by dsimp only;omega),(by repeat' first|exact trivial|refine⟨rfl,?_⟩),rfl,rfl,by omega,by dsimp only;omega⟩
           · repeat' first|refine st ?_|refine ob ?_|refine ob1 ?_|refine cT ?_|refine cF ?_|refine zC ?_|refine cX (fun _=>?_) fun _=>?_|fail
             exact⟨(i2+1,k6),(by dsimp only;omega),(by repeat' first|exact trivial|refine⟨rfl,?_⟩),t3,by omega,cM3,by dsimp only;omega,by dsimp only;omega⟩
         · obtain rfl:e=o.uses.length:=by omega
           repeat' first|refine st ?_|refine ob ?_|refine ob1 ?_|refine cT ?_|refine cF ?_|refine zC ?_|refine cX (fun _=>?_) fun _=>?_|fail
           exact⟨(i2+1,k6),(by dsimp only;omega),(by repeat' first|exact trivial|refine⟨rfl,?_⟩),t3,by omega,cM3,by dsimp only;omega,by dsimp only;omega⟩
       · repeat' first|refine st ?_|refine ob ?_|refine ob1 ?_|refine cT ?_|refine cF ?_|refine zC ?_|refine cX (fun _=>?_) fun _=>?_|fail
         exact⟨_,rfl,t2⟩
     · obtain rfl:i2=m.ops.length:=by omega
       repeat' first|refine st ?_|refine ob ?_|refine ob1 ?_|refine cT ?_|refine cF ?_|refine zC ?_|refine cX (fun _=>?_) fun _=>?_|fail
       exact⟨_,rfl,t2⟩
   · obtain rfl:i=m.classes.length:=by omega
     repeat' first|refine st ?_|refine ob ?_|refine ob1 ?_|refine cT ?_|refine cF ?_|refine zC ?_|refine cX (fun _=>?_) fun _=>?_|fail
     have cM:=c1;have tM:=t1;refine lpR (α :=Nat×Nat) (fun a=>[(1,ptr n 0),(3,I64 a.2),(5,I64 a.1)]) (fun a h2 n2=>Tch [] h n h2 n2∧n+1≤n2∧Cel h2 n zMc 0 (yO m)∧a.1≤m.ops.length∧a.2<64*9007199254740992) (fun a=>m.ops.length - a.1) (0,k) (by repeat' first|exact trivial|refine⟨rfl,?_⟩) ⟨t1,Nat.le_refl _,c1,Nat.zero_le _,by dsimp only;omega⟩ ?_
     rintro ⟨i2,k4⟩ t h2 n2 ⟨t2,hn2,c2,hi2,hk4⟩
     dsimp only at hi2 hk4 ⊢;have m2:=mm.tch t2 hlo;have zo2:=m2.ops 0;by_cases hlt3:i2<m.ops.length
     · by_cases hg3:k4≤5000
       · have d0:m.ops[i2]? = some m.ops[i2]:=List.getElem?_eq_getElem hlt3;generalize m.ops[i2]=o at d0
         have hom:=List.mem_of_getElem? d0;obtain⟨x1,x2,x3,x4,x5,x6⟩:=tx.op o hom;have d1:=zM zo2 d0;have low:=zo2.low (by omega);have zu:=m2.opsu o hom 0;have zv:=m2.opsc o hom 0;have ou1:=zu.one;have oc1:=zv.one;repeat' first|refine st ?_|refine ob ?_|refine ob1 ?_|refine cT ?_|refine cF ?_|refine zC ?_|refine cX (fun _=>?_) fun _=>?_|fail
         have t3:Tch [] h n (hst (hal h2 n2 (mkC [str [],str [],str [],.slice none 0 0,I64 0,.slice none 0 0] (eOp+1) 0)) n2 0 (opC o)) (n2+1):=zA;have cO:Cel (hst (hal h2 n2 (mkC [str [],str [],str [],.slice none 0 0,I64 0,.slice none 0 0] (eOp+1) 0)) n2 0 (opC o)) n2 (eOp+1) 0 (opC o):=zE;have cM3:Cel (hst (hal h2 n2 (mkC [str [],str [],str [],.slice none 0 0,I64 0,.slice none 0 0] (eOp+1) 0)) n2 0 (opC o)) n zMc 0 (yO m):=zE;have m3:=mm.tch t3 hlo;generalize (hst (hal h2 n2 (mkC [str [],str [],str [],.slice none 0 0,I64 0,.slice none 0 0] (eOp+1) 0)) n2 0 (opC o))=h3 at *
         have zu3:=m3.opsu o hom 0;have zv3:=m3.opsc o hom 0;refine cal (long_com zv3 x6.1 x6.2) ?_
         rintro _ _ _ ⟨q5,rfl,hq5,rfl,rfl⟩
         repeat' first|refine st ?_|refine ob ?_|refine ob1 ?_|refine cT ?_|refine cF ?_|refine zC ?_|refine cX (fun _=>?_) fun _=>?_|refine ob (a:=_) ?_ (bn_quo8s (by omega))|fail
         refine lpR (α :=Nat×Nat) (fun a=>[(1,ptr n 0),(3,I64 a.2),(5,I64 i2),(6,ptr n2 0),(7,I64 a.1)]) (fun a h5 n5=>h5=_∧n5=n2+1∧a.1≤o.uses.length∧a.2<63*9007199254740992) (fun a=>o.uses.length - a.1) (0,k4+2+q5+o.name.length / 8+(o.d.cls.length+o.d.fix.length) / 8+o.uses.length) (by repeat' first|exact trivial|refine⟨rfl,?_⟩) ⟨rfl,rfl,Nat.zero_le _,by dsimp only;omega⟩ ?_
         rintro ⟨e,k6⟩ t h5 n5 ⟨rfl,rfl,he,hk6⟩
         dsimp only at he hk6 ⊢;by_cases hlt4:e<o.uses.length
         · by_cases hg4:k6≤5000
           · have e0:o.uses[e]? = some o.uses[e]:=List.getElem?_eq_getElem hlt4;generalize o.uses[e]=x at e0
             obtain⟨y1,y2⟩:=x5 x (List.mem_of_getElem? e0);have e1:=xP (zM zu3 e0) (j:=0) rfl;have e2:=xP (zM zu3 e0) (j:=1) rfl;have low3:=zu3.low (by omega);repeat' first|refine st ?_|refine ob ?_|refine ob1 ?_|refine cT ?_|refine cF ?_|refine zC ?_|refine cX (fun _=>?_) fun _=>?_|refine ob (a:=_) ?_ (bn_quo8s (by omega))|fail
             exact⟨(e+1,k6+(x.cls.length+x.fix.length) / 8),(by dsimp only;omega),(by repeat' first|exact trivial|refine⟨rfl,?_⟩),rfl,rfl,by omega,by dsimp only;omega⟩
           · repeat' first|refine st ?_|refine ob ?_|refine ob1 ?_|refine cT ?_|refine cF ?_|refine zC ?_|refine cX (fun _=>?_) fun _=>?_|fail
             exact⟨(i2+1,k6),(by dsimp only;omega),(by repeat' first|exact trivial|refine⟨rfl,?_⟩),t3,by omega,cM3,by dsimp only;omega,by dsimp only;omega⟩
         · obtain rfl:e=o.uses.length:=by omega
           repeat' first|refine st ?_|refine ob ?_|refine ob1 ?_|refine cT ?_|refine cF ?_|refine zC ?_|refine cX (fun _=>?_) fun _=>?_|fail
           exact⟨(i2+1,k6),(by dsimp only;omega),(by repeat' first|exact trivial|refine⟨rfl,?_⟩),t3,by omega,cM3,by dsimp only;omega,by dsimp only;omega⟩
       · repeat' first|refine st ?_|refine ob ?_|refine ob1 ?_|refine cT ?_|refine cF ?_|refine zC ?_|refine cX (fun _=>?_) fun _=>?_|fail
         exact⟨_,rfl,t2⟩
     · obtain rfl:i2=m.ops.length:=by omega
       repeat' first|refine st ?_|refine ob ?_|refine ob1 ?_|refine cT ?_|refine cF ?_|refine zC ?_|refine cX (fun _=>?_) fun _=>?_|fail
       exact⟨_,rfl,t2⟩
end Go.Proofs.YtcmohelnoldfbaaGreat
namespace Go.Proofs.YtcmohelnoldfbaaGreat
open Go Go.Ex Go.Ex.M
set_option maxRecDepth 100000
set_option maxHeartbeats 8000000
attribute [local simp] wX
variable {lo n:Nat} {h:zB} {m:MachT}
theorem make_com(mm:MachM lo h m)(hlo:lo≤n):Com P 0 11 [.agg ⟨yO m⟩] h n fun o h' n'=>∃e,MakeE m e∧Tch [] h n h' n'∧((e≠0∧o = .ret (.tuple ⟨[.pointer none,I64 e]⟩))∨(e=0∧∃bt ns ps v,o = .ret (.tuple ⟨[ptr bt 0,I64 0]⟩)∧MOK m ns ps∧TabM n n' h' bt m ns ps v)):=by
 obtain⟨o1,o2,o3,o4,o5⟩:=tQ mm;refine ent fun u=>?_;repeat' first|refine st ?_|refine ob ?_|refine ob1 ?_|refine cT ?_|refine cF ?_|refine zC ?_|refine cX (fun _=>?_) fun _=>?_|fail
 refine cal (check_com (MachM.tch zA hlo mm) (by omega)) ?_
 rintro _ h2 n2 ⟨e,rfl,he,ht2⟩
 have hn2:=ht2.le;have cM:Cel h2 n zMc 0 (yO m):=zE;have t02:Tch [] h n h2 n2:=zA;by_cases e0:e=0
 · subst e0;obtain⟨ns,ps,ok⟩:=makeE_ok he;have sm:=MOK.sml ok;have cs:=CsOK.of ok.cls;have gok:=geo_ok ok.geo;clear ht2;repeat' first|refine st ?_|refine ob ?_|refine ob1 ?_|refine cT ?_|refine cF ?_|refine zC ?_|refine cX (fun _=>?_) fun _=>?_|fail
   refine vR (copied_ret (mm.tch t02 hlo) (by omega) sm) ?_
   rintro _ h3 n3 ⟨m',rfl,cp,t3⟩
   have hn3:=t3.le;have q1:=cp.r1;have q2:=yZ cp.cr;have q3:=yZ cp.orr;have q4:=yZ cp.ar;have q5:=yZ cp.sr;have cM3:=cM.tch t3 (by omega) (by simp);repeat' first|refine st ?_|refine ob ?_|refine ob1 ?_|refine cT ?_|refine cF ?_|refine zC ?_|refine cX (fun _=>?_) fun _=>?_|fail
   refine cal (places_com (RegsM.tch zA hlo mm.regs) (by omega)) ?_
   rintro _ h4 n4 ⟨t4,⟨e,he4,rfl⟩|⟨s,nsv,psv,hs4,rfl,on,op⟩⟩
   · rw[ok.geo]at he4;cases he4
   rw[ok.geo]at hs4;cases Except.ok.inj hs4
   dsimp only at on op;have hn4:=t4.le;have on1:=on.one;have op1:=op.one;have rn:=on.row (by decide);have rp:=op.row (by decide);have cM4:=(show Cel (hal h3 n3 _) n zMc 0 (yO m) from cM3.hal (by omega)).tch t4 (by omega) (by simp);have cB4:Cel h4 n3 zTb 0 (yO m'++[nlS,nlS,.map none,.map none,.map none,nlS,nlS,nlS,nlS,nlS,nlS,nlS,nlS]):=zE;have cp4:CpM n2 n4 h4 m m':=cpm_tch cp (Tch.tch t4 (zA:Tch [] h3 n3 (hal h3 n3 _) (n3+1)) (by simp));have t04:Tch [] h n h4 n4:=zA;clear t4 t3 cM3 cp;repeat' first|refine st ?_|refine ob ?_|refine ob1 ?_|refine cT ?_|refine cF ?_|refine zC ?_|refine cX (fun _=>?_) fun _=>?_|fail
   have tS:Tch [n3] h4 n4 (hst (hst h4 n3 (0+8) [nsv]) n3 (0+9) [psv]) n4:=zA;have cT:Cel (hst (hst h4 n3 (0+8) [nsv]) n3 (0+9) [psv]) n3 zTb 0 (yO m'++[nsv,psv,.map none,.map none,.map none,nlS,nlS,nlS,nlS,nlS,nlS,nlS,nlS]):=zE;have t0T:Tch [] h n (hst (hst h4 n3 (0+8) [nsv]) n3 (0+9) [psv]) n4:=zA;have cMT:Cel (hst (hst h4 n3 (0+8) [nsv]) n3 (0+9) [psv]) n zMc 0 (yO m):=zE;have cpT:=cpm_cel cp4 cB4 (by simp) tS;have onT:=on.tch tS (yQ (yE cB4 on));have opT:=op.tch tS (yQ (yE cB4 op));clear tS cB4 cM4 on op rn rp cp4 t04;generalize hst (hst h4 n3 (0+8) [nsv]) n3 (0+9) [psv]=hT at *
   have hns2:=gok.le;have hinf:inf<4611686018427387904:=by decide
   have hinf2:1000000≤inf:=by decide
   refine vR (numbered_ret (onT.row (by decide)) (Nat.le_refl _) (by dsimp only at hns2;omega) gok.nd) ?_
   rintro _ h5 n5 ⟨rb,rfl,b1,b2,mp,t5⟩
   have hn5:=t5.le;have c5:=cT.tch t5 (by omega) (by simp);have cM5:=cMT.tch t5 (by omega) (by simp);have cp5:=cpm_tch cpT t5;have on5:=onT.tch t5 (by simp);have op5:=opT.tch t5 (by simp);have t05:Tch [] h n h5 n5:=Tch.tch t5 t0T (by simp);clear cT cMT cpT onT opT t5 t0T;have zc:=mm.cls 0;have zo:=mm.ops 0;have za:=mm.args 0;have zs:=mm.saved 0;repeat' first|refine st ?_|refine ob ?_|refine ob1 ?_|refine cT ?_|refine cF ?_|refine zC ?_|refine cX (fun _=>?_) fun _=>?_|fail
   have tS:Tch [n3] h5 n5 (hst h5 n3 (0+10) [.map (some rb)]) n5:=zA;have c6:Cel (hst h5 n3 (0+10) [.map (some rb)]) n3 zTb 0 (yO m'++[nsv,psv,.map (some rb),.map none,.map none,nlS,nlS,nlS,nlS,nlS,nlS,nlS,nlS]):=zE;have cM6:Cel (hst h5 n3 (0+10) [.map (some rb)]) n zMc 0 (yO m):=zE;have t06:Tch [] h n (hst h5 n3 (0+10) [.map (some rb)]) n5:=zA;have cp6:=cpm_cel cp5 c5 (by simp) tS;have on6:=on5.tch tS (yQ (yE c5 on5));have op6:=op5.tch tS (yQ (yE c5 op5));have mp6:=mp.tch tS b2 (by simpa using xB mp c5);clear tS c5 cM5 t05 cp5 on5 op5 mp;generalize hst h5 n3 (0+10) [.map (some rb)]=h6 at *
   have hcl:=sm.cls;have hcN:(cNs m).length=m.classes.length:=by unfold cNs;rw [List.length_map]
   refine lpR (α :=Nat×Value) (fun a=>[(1,ptr n 0),(5,ptr n3 0),(6,a.2),(7,nlS),(43,m.csv),(44,I64 m.classes.length),(45,I64 a.1)]) (fun a h' n'=>Tch [n3] h6 n5 h' n'∧a.1≤m.classes.length∧Own n5 n' h' a.2 rD 1 a.1 (((cNs m).take a.1).map str)∧∃ofv O inv I,Cel h' n3 zTb 0 (yO m'++[nsv,psv,.map (some rb),.map none,.map none,nlS,ofv,inv,nlS,nlS,nlS,nlS,nlS])∧Ints n5 n' h' ofv O∧Sets n5 n' h' inv I∧O.length=a.1∧I.length=a.1∧∀(j:Nat) c,j<a.1→m.classes[j]? = some c→(∃v,O[j]? = some (v,c.regs.map fun r=>((ns.idxOf r:Nat):Int)))∧∃p,I[j]? = some p∧∀r:Nat,vP p.2 r=c.regs.any fun x=>decide (ns.idxOf x=r)) (fun a=>m.classes.length - a.1) (0,nlS) (by repeat' first|exact trivial|refine⟨rfl,?_⟩) ⟨Tch.refl _ _ _,Nat.zero_le _,Own.nil,_,[],_,[],c6,Lst.nil,Lst.nil,rfl,rfl,fun j c hj=>by dsimp only at hj;omega⟩ ?_
   rintro ⟨i,v6⟩ t h' n' ⟨ht,hi,hv,ofv,O,inv,I,hc,hO,hI,hOl,hIl,hall⟩
   dsimp only at hi hv hOl hIl hall ⊢;have hn':=ht.le;have t0':Tch [] h n h' n':=Tch.tch ht t06 fun x hx=>.inl (by simp at hx;omega);have cM':=cM6.tch ht (by omega) (by simp;omega);have mp':=mp6.tch ht (by omega) (by simpa using xB mp6 c6);have mm':=mm.tch t0' hlo;by_cases hlt:i<m.classes.length
   · have d0:m.classes[i]? = some m.classes[i]:=List.getElem?_eq_getElem hlt;generalize m.classes[i]=c at d0
     have hcm:=List.mem_of_getElem? d0;have crw:=mm'.cls 0;have d1:=zM crw d0;have hlow:=crw.low (by omega);have zr:=mm'.clsr c hcm 0;have hro:=zr.one;have hle:=sm.clr c hcm;have hrin:=cs.mem i c d0;have orow:=hO.1.row (by decide);have irow:=hI.1.row (by decide);have oone:=hO.1.one;have ione:=hI.1.one;repeat' first|refine st ?_|refine ob ?_|refine ob1 ?_|refine cT ?_|refine cF ?_|refine zC ?_|refine cX (fun _=>?_) fun _=>?_|fail
     refine appN (hv.tch (S:=[]) zA (by simp)) (zS (e:=rD) (sz:=1) (len:=1) rfl (by decide)) (by decide) ⟨rfl,trivial⟩ (by omega) ?_
     rintro v7 h7 n7 w7 t7
     have hn7:=t7.le;have tX:Tch [] h' n' (hal (hst (hal h' n' (mkC [str [],nlS] (eCls+1) 0)) n' 0 [str c.name,c.rsv]) (n'+1) (mkC [str c.name] 0 0)) (n'+1+1):=zA;have hvX:=hv.tch tX (by simp);have kx7:Kx rD _ _ h7 n7:=kx_own hvX t7;have c7:=Cel.app (hc.tch tX (by omega) (by simp)) hvX t7 (by omega);have cM7:=Cel.app (cM'.tch tX (by omega) (by simp)) hvX t7 (by omega);have cC7:Cel h7 n' (eCls+1) 0 (clsC c):=Cel.app (show Cel (hal (hst (hal h' n' (mkC [str [],nlS] (eCls+1) 0)) n' 0 [str c.name,c.rsv]) (n'+1) (mkC [str c.name] 0 0)) n' (eCls+1) 0 (clsC c) from zE) hvX t7 (by omega);have mp7:=(mp'.tch tX (by omega) (by simp)).tch t7 (by omega) (sK (mp'.tch tX (by omega) (by simp)) hvX);have hO7:=wU (wU (e:=eSets) hO tX.kx (by decide) (by decide)) kx7 (by decide) (by decide);have hI7:=yD (yD (e:=yU) hI tX.kx (by decide) (by decide)) kx7 (by decide) (by decide);have t67:Tch [n3] h6 n5 h7 n7:=Tch.tch t7 (zA:Tch [n3] h6 n5 (hal (hst (hal h' n' (mkC [str [],nlS] (eCls+1) 0)) n' 0 [str c.name,c.rsv]) (n'+1) (mkC [str c.name] 0 0)) (n'+1+1)) fun x hx=>.inl (zZ hv x hx)
     have t07:Tch [] h n h7 n7:=Tch.tch t67 t06 fun x hx=>.inl (by simp at hx;omega);have mm7:=mm.tch t07 hlo;have zr7:=mm7.clsr c hcm 0;have o7:=w7.one;clear t7 tX hvX kx7 hc cM' mp' hO hI ht t0' mm' orow irow crw hv d1 zr;have orow:=hO7.1.row (by decide);have irow:=hI7.1.row (by decide);repeat' first|refine st ?_|refine ob ?_|refine ob1 ?_|refine cT ?_|refine cF ?_|refine zC ?_|refine cX (fun _=>?_) fun _=>?_|fail
     refine vR (wY (e:=rD) (br:=rb) (ns:=ns) (show Row n7 h7 c.rsv rD 1 c.regs.length (c.regs.map str) from(mm7.clsr c hcm rD).up (by omega)) (Nat.le_refl _) (by omega) (by omega) (by omega) (c7.cell rfl) mp7 gok.nd hrin) ?_
     rintro v8 h8 n8 ⟨w8,t8⟩
     have hn8:=t8.le;obtain⟨s1,s2,s3,rfl⟩:=own_slv w8;have c8:=c7.tch t8 (by omega) (by simp);have hOX:∀x,Ints n5 (n8+1) (hal h8 n8 x) ofv O:=fun x=>wU (e:=eSets) (wU (e:=eSets) hO7 t8.kx (by decide) (by decide)) (Tch.kx (zA:Tch [] h8 n8 (hal h8 n8 x) (n8+1))) (by decide) (by decide);repeat' first|refine st ?_|refine ob ?_|refine ob1 ?_|refine cT ?_|refine cF ?_|refine zC ?_|refine cX (fun _=>?_) fun _=>?_|fail
     refine appN (hOX _).1 (zS (e:=yU) (sz:=1) (len:=1) rfl (by decide)) (by decide) ⟨rfl,trivial⟩ (by omega) ?_
     rintro v9 h9 n9 w9 t9
     have hn9:=t9.le;have o9:=w9.one;have tX8:Tch [] h8 n8 (hal h8 n8 (mkC [.slice s1 s2 s3] 0 0)) (n8+1):=zA;have kx9:Kx yU _ _ h9 n9:=kx_own (hOX _).1 t9;have k79:Kx yU h7 n7 h9 n9:=Kx.trans (Kx.trans t8.kx tX8.kx) kx9;have c9:=Cel.app (c8.tch tX8 (by omega) (by simp)) (hOX _).1 t9 (by omega);have cM9:=Cel.app ((cM7.tch t8 (by omega) (by simp)).tch tX8 (by omega) (by simp)) (hOX _).1 t9 (by omega);have cC9:=Cel.app ((cC7.tch t8 (by omega) (by simp)).tch tX8 (by omega) (by simp)) (hOX _).1 t9 (by omega);have mpX:=(mp7.tch t8 (by omega) (by simp)).tch tX8 (by omega) (by simp);have mp9:=mpX.tch t9 (by omega) (sK mpX (hOX _).1)
     have hO9:Ints n5 n9 h9 v9 (O++[(.slice s1 s2 s3,c.regs.map fun r=>((ns.idxOf r:Nat):Int))]):=Lst.app (hOX _) w9 (by omega) (fun y s=>IntEl.kx s kx9 (by decide)) (IntEl.kx (n:=n8+1) (h:=(hal h8 n8 (mkC [.slice s1 s2 s3] 0 0))) (show Own n5 (n8+1) (hal h8 n8 (mkC [.slice s1 s2 s3] 0 0)) (.slice s1 s2 s3) eInt 1 (c.regs.map fun r=>((ns.idxOf r:Nat):Int)).length ((c.regs.map fun r=>((ns.idxOf r:Nat):Int)).map I64) from by
      rw[List.map_map,List.length_map];exact Own.dnl (w8.tch tX8 (by simp)) (by omega)) kx9 (by decide))
     have hI9:=yD hI7 k79 (by decide) (by decide);have w79:=w7.kx k79 (.inl (by decide));have t8X:Tch [n3] h6 n5 (hal h8 n8 (mkC [.slice s1 s2 s3] 0 0)) (n8+1):=Tch.tch tX8 (Tch.tch t8 t67 (by simp)) (by simp);have t69:Tch [n3] h6 n5 h9 n9:=Tch.tch t9 t8X fun x hx=>.inl (zZ hO7.1 x hx);clear t8 t9 tX8 kx9 k79 cM7 cC7 mp7 mpX hO7 hI7 w7 t67 t8X mm7 zr7 t07 hOX w8 w9;repeat' first|refine st ?_|refine ob ?_|refine ob1 ?_|refine cT ?_|refine cF ?_|refine zC ?_|refine cX (fun _=>?_) fun _=>?_|fail
     have tA:Tch [n3] h9 n9 (hst h9 n3 (0+14) [v9]) n9:=zA;have c10:Cel (hst h9 n3 (0+14) [v9]) n3 zTb 0 (yO m'++[nsv,psv,.map (some rb),.map none,.map none,nlS,v9,inv,nlS,nlS,nlS,nlS,nlS]):=zE;have cM10:=cM9.tch tA (by omega) (by simp;omega);have cC10:=cC9.tch tA (by omega) (by simp;omega);have mp10:=mp9.tch tA (by omega) (by simpa using xB mp9 c9);have hO10:=uB hO9 c9 tA;have hI10:=wG hI9 c9 tA;have w10:=w79.tch tA (yQ (yE c9 w79));have t610:Tch [n3] h6 n5 (hst h9 n3 (0+14) [v9]) n9:=Tch.tch tA t69 fun x hx=>.inr hx;have t010:Tch [] h n (hst h9 n3 (0+14) [v9]) n9:=Tch.tch t610 t06 fun x hx=>.inl (by simp at hx;omega);have mm10:=mm.tch t010 hlo;clear tA c9 cM9 cC9 mp9 hO9 hI9 w79 t69 c7 c8 orow irow;generalize (hst h9 n3 (0+14) [v9])=h10 at *
     have irow:=hI10.1.row (by decide);refine vR (wY (e:=rD) (br:=rb) (ns:=ns) (show Row n9 h10 c.rsv rD 1 c.regs.length (c.regs.map str) from(mm10.clsr c hcm rD).up (by omega)) (Nat.le_refl _) (by omega) (by omega) (by omega) (c10.cell rfl) mp10 gok.nd hrin) ?_
     rintro v11 h11 n11 ⟨w11,t11⟩
     have hn11:=t11.le;have o11:=w11.one;have c11:=c10.tch t11 (by omega) (by simp);repeat' first|refine st ?_|refine ob ?_|refine ob1 ?_|refine cT ?_|refine cF ?_|refine zC ?_|refine cX (fun _=>?_) fun _=>?_|fail
     refine vR (of_ret (l:=c.regs.map fun r=>((ns.idxOf r:Nat):Int)) (show Row n11 h11 v11 eInt 1 _ _ from by
      have:=w11.row (by decide);rw [List.map_map,List.length_map];exact this) (Nat.le_refl _) (by rw[List.length_map];omega)) ?_
     rintro _ h12 n12 ⟨wv,ws,rfl,hsw,hws,kw,t12⟩
     have hn12:=t12.le;have wone:=kw.one;have c12:=c11.tch t12 (by omega) (by simp);have t1012:Tch [] h10 n9 h12 n12:=Tch.tch t12 t11 (by simp);have hIX:∀x,Sets n5 (n12+1) (hal h12 n12 x) inv I:=fun x=>yD (e:=yU) (yD (e:=yU) hI10 t1012.kx (by decide) (by decide)) (Tch.kx (zA:Tch [] h12 n12 (hal h12 n12 x) (n12+1))) (by decide) (by decide);repeat' first|refine st ?_|refine ob ?_|refine ob1 ?_|refine cT ?_|refine cF ?_|refine zC ?_|refine cX (fun _=>?_) fun _=>?_|fail
     refine appN (hIX _).1 (zS (e:=eSet) (sz:=1) (len:=1) rfl (by decide)) (by decide) ⟨wone,trivial⟩ (by omega) ?_
     rintro v13 h13 n13 w13 t13
     have hn13:=t13.le;have o13:=w13.one;have tX:Tch [] h12 n12 (hal h12 n12 (mkC [wv] 0 0)) (n12+1):=zA;have kx13:Kx eSet _ _ h13 n13:=kx_own (hIX _).1 t13;have k1013:Kx eSet h10 n9 h13 n13:=Kx.trans (Kx.trans t1012.kx tX.kx) kx13;have c13:=Cel.app (c12.tch tX (by omega) (by simp)) (hIX _).1 t13 (by omega);have hI13:Sets n5 n13 h13 v13 (I++[(wv,ws)]):=Lst.app (hIX _) w13 (by omega) (fun y s=>SetEl.kx s kx13 (by decide)) (SetEl.kx (SetEl.kx (e:=yU) (p:=(wv,ws)) ⟨hsw,kw.dnl (by omega)⟩ tX.kx (by decide)) kx13 (by decide));have hO13:=wU hO10 k1013 (by decide) (by decide);have w1013:=w10.kx k1013 (.inl (by decide));have t6X:Tch [n3] h6 n5 (hal h12 n12 (mkC [wv] 0 0)) (n12+1):=Tch.tch tX (Tch.tch t1012 t610 (by simp)) (by simp);have t613:Tch [n3] h6 n5 h13 n13:=Tch.tch t13 t6X fun x hx=>.inl (zZ hI10.1 x hx);clear t13 tX kx13 k1013 hIX w13 t6X t1012 t12 t11 w11 kw hO10 w10 t610 t010 mm10;repeat' first|refine st ?_|refine ob ?_|refine ob1 ?_|refine cT ?_|refine cF ?_|refine zC ?_|refine cX (fun _=>?_) fun _=>?_|fail
     have tB:Tch [n3] h13 n13 (hst h13 n3 (0+15) [v13]) n13:=zA;have cF:Cel (hst h13 n3 (0+15) [v13]) n3 zTb 0 (yO m'++[nsv,psv,.map (some rb),.map none,.map none,nlS,v9,v13,nlS,nlS,nlS,nlS,nlS]):=zE;have hcn:(cNs m)[i]? = some c.name:=by unfold cNs;rw [List.getElem?_map,d0];rfl
     have wF:=(w1013.tch tB (yQ (yE c13 w1013))).dnl (lo':=n5) (by omega)
     exact⟨(i+1,v7),(by dsimp only;omega),(by repeat' first|exact trivial|refine⟨rfl,?_⟩),Tch.tch tB t613 (fun x hx=>.inr hx),by dsimp only;omega,by dsimp only;rw [xN hcn,List.map_append];exact wF,v9,_,v13,_,cF,uB hO13 c13 tB,wG hI13 c13 tB,by rw[List.length_append,hOl];rfl,by rw[List.length_append,hIl];rfl,fun j c' hj e=>by
      dsimp only at hj;rcases Nat.lt_succ_iff_lt_or_eq.1 hj with h9|rfl
      · obtain⟨⟨v,a1⟩,p,a2,a3⟩:=hall j c' h9 e;exact⟨⟨v,by rw[List.getElem?_append_left (by omega)];exact a1⟩,p,by rw[List.getElem?_append_left (by omega)];exact a2,a3⟩
      · rw[d0]at e;cases e;refine⟨⟨_,by rw[List.getElem?_append_right (by omega),hOl,Nat.sub_self];rfl⟩,_,by rw[List.getElem?_append_right (by omega),hIl,Nat.sub_self];rfl,fun r=>?_⟩;refine Bool.eq_iff_iff.2 ((hws r).trans ?_);rw [List.any_eq_true];refine⟨fun⟨h9,_⟩=>?_,fun⟨x,h9,h8⟩=>?_⟩
        · obtain⟨x,h8,h7⟩:=List.mem_map.1 h9;exact⟨x,h8,decide_eq_true (by omega)⟩
        · have h8:=of_decide_eq_true h8;subst h8;have:=List.idxOf_lt_length_iff.2 (hrin x h9);exact⟨List.mem_map.2 ⟨x,h9,rfl⟩,by dsimp only at hns2;omega⟩⟩
   · obtain rfl:i=m.classes.length:=by omega
     have hvl:((cNs m).take m.classes.length)=cNs m:=List.take_of_length_le (by omega);rw [hvl]at hv;have hol:=sm.ops;have hall':∀(j:Nat) c,m.classes[j]? = some c→(∃v,O[j]? = some (v,c.regs.map fun r=>((ns.idxOf r:Nat):Int)))∧∃p,I[j]? = some p∧∀r:Nat,vP p.2 r=c.regs.any fun x=>decide (ns.idxOf x=r):=fun j c e=>hall j c (List.getElem?_eq_some_iff.1 e).1 e;have hone:=hv.one;clear hall hlt hi;repeat' first|refine st ?_|refine ob ?_|refine ob1 ?_|refine cT ?_|refine cF ?_|refine zC ?_|refine cX (fun _=>?_) fun _=>?_|fail
     have hoN:(oNs m).length=m.ops.length:=by unfold oNs;rw [List.length_map]
     refine lpR (α :=Nat×Value) (fun a=>[(1,ptr n 0),(5,ptr n3 0),(6,v6),(7,a.2),(83,m.osv),(84,I64 m.ops.length),(85,I64 a.1)]) (fun a h2 n2=>Tch [] h' n' h2 n2∧a.1≤m.ops.length∧Own n' n2 h2 a.2 rD 1 a.1 (((oNs m).take a.1).map str)) (fun a=>m.ops.length - a.1) (0,nlS) (by repeat' first|exact trivial|refine⟨rfl,?_⟩) ⟨Tch.refl _ _ _,Nat.zero_le _,Own.nil⟩ ?_
     rintro ⟨i,v7⟩ t h7 n7 ⟨t7,hi,hw⟩
     dsimp only at hi hw ⊢;have hn7:=t7.le;have t07:Tch [] h n h7 n7:=Tch.tch t7 t0' (by simp);by_cases hlt:i<m.ops.length
     · have d0:m.ops[i]? = some m.ops[i]:=List.getElem?_eq_getElem hlt;generalize m.ops[i]=o at d0
       have hom:=List.mem_of_getElem? d0;have mm7:=mm.tch t07 hlo;have crw:=mm7.ops 0;have d1:=zM crw d0;have hlow:=crw.low (by omega);have hro:=(mm7.opsu o hom 0).one;have hro2:=(mm7.opsc o hom 0).one;have honm:(oNs m)[i]? = some o.name:=by unfold oNs;rw [List.getElem?_map,d0];rfl
       repeat' first|refine st ?_|refine ob ?_|refine ob1 ?_|refine cT ?_|refine cF ?_|refine zC ?_|refine cX (fun _=>?_) fun _=>?_|fail
       refine appO (hw.tch (S:=[]) zA (by simp)) (zS (e:=rD) (sz:=1) (len:=1) rfl (by decide)) (by omega) ⟨rfl,trivial⟩ (by omega) ?_
       rintro v8 h8 n8 w8 t8
       have hn8:=t8.le;have t9:Tch [] h' n' h8 n8:=Tch.tch t8 zA fun x hx=>.inl (zZ hw x hx);repeat' first|refine st ?_|refine ob ?_|refine ob1 ?_|refine cT ?_|refine cF ?_|refine zC ?_|refine cX (fun _=>?_) fun _=>?_|fail
       exact⟨(i+1,v8),(by dsimp only;omega),(by repeat' first|exact trivial|refine⟨rfl,?_⟩),t9,by dsimp only;omega,by dsimp only;rw [xN honm,List.map_append];exact w8⟩
     · obtain rfl:i=m.ops.length:=by omega
       rw[List.take_of_length_le (by omega)]at hw;have hone7:=hw.one;have c7:=hc.tch t7 (by omega) (by simp);have cM7:=cM'.tch t7 (by omega) (by simp);have hv7:=hv.tch t7 (by simp);have mp7:=mp'.tch t7 (by omega) (by simp);have hO7:=wU (e:=eSets) hO t7.kx (by decide) (by decide);have hI7:=yD (e:=yU) hI t7.kx (by decide) (by decide);have t67:=Tch.tch t7 ht (by simp);clear hlt hi;repeat' first|refine st ?_|refine ob ?_|refine ob1 ?_|refine cT ?_|refine cF ?_|refine zC ?_|refine cX (fun _=>?_) fun _=>?_|fail
       refine vR (numbered_ret (show Row n7 h7 v6 rD 1 (cNs m).length ((cNs m).map str) from by rw[hcN];exact hv7.row (by decide)) (Nat.le_refl _) (by omega) (MOK.cnd ok)) ?_
       rintro _ h8 n8 ⟨cb,rfl,cb1,cb2,mc8,t8⟩
       have hn8:=t8.le;have hw8:=hw.tch t8 (by simp);repeat' first|refine st ?_|refine ob ?_|refine ob1 ?_|refine cT ?_|refine cF ?_|refine zC ?_|refine cX (fun _=>?_) fun _=>?_|fail
       refine vR (numbered_ret (show Row n8 h8 v7 rD 1 (oNs m).length ((oNs m).map str) from by rw[hoN];exact hw8.row (by decide)) (Nat.le_refl _) (by omega) (MOK.ond ok)) ?_
       rintro _ h9 n9 ⟨ob9,rfl,hob1,hob2,mo9,t9⟩
       have hn9:=t9.le;have t79:Tch [] h7 n7 h9 n9:=Tch.tch t9 t8 (by simp);have c9:=c7.tch t79 (by omega) (by simp);have cM9:=cM7.tch t79 (by omega) (by simp);have mc9:=mc8.tch t9 (by omega) (by simp);have mp9:=mp7.tch t79 (by omega) (by simp);have hO9:=wU (e:=eSets) hO7 t79.kx (by decide) (by decide);have hI9:=yD (e:=yU) hI7 t79.kx (by decide) (by decide);have t69:Tch [n3] h6 n5 h9 n9:=Tch.tch t79 t67 (by simp);clear t8 t9 t79 c7 cM7 mc8 mp7 hO7 hI7 t67 t7 hO hI hc cM' hw hw8 hv hv7 ht t0';repeat' first|refine st ?_|refine ob ?_|refine ob1 ?_|refine cT ?_|refine cF ?_|refine zC ?_|refine cX (fun _=>?_) fun _=>?_|fail
       have tA:Tch [n3] h9 n9 (hst (hst h9 n3 (0+11) [.map (some cb)]) n3 (0+12) [.map (some ob9)]) n9:=zA;have c10:Cel (hst (hst h9 n3 (0+11) [.map (some cb)]) n3 (0+12) [.map (some ob9)]) n3 zTb 0 (yO m'++[nsv,psv,.map (some rb),.map (some cb),.map (some ob9),nlS,ofv,inv,nlS,nlS,nlS,nlS,nlS]):=zE;have cM10:=cM9.tch tA (by omega) (by simp;omega);have mc10:=mc9.tch tA (by omega) (by simpa using xB mc9 c9);have mo10:=mo9.tch tA (by omega) (by simpa using xB mo9 c9);have mp10:=mp9.tch tA (by omega) (by simpa using xB mp9 c9);have hO10:=uB hO9 c9 tA;have hI10:=wG hI9 c9 tA;have t610:Tch [n3] h6 n5 (hst (hst h9 n3 (0+11) [.map (some cb)]) n3 (0+12) [.map (some ob9)]) n9:=Tch.tch tA t69 fun x hx=>.inr hx;have op10:=op6.tch t610 (yQ (yE c6 op6));have cp10:=cpm_cel cp6 c6 (by simp) t610;clear tA c9 cM9 mc9 mo9 mp9 hO9 hI9 t69;generalize (hst (hst h9 n3 (0+11) [.map (some cb)]) n3 (0+12) [.map (some ob9)])=h10 at *
       have hpl2:=gok.len;refine cal (lapping_com c10 (by omega) op10 (by omega) (by dsimp only at hpl2 hns2;omega) gok.pl) ?_
       rintro _ h11 n11 ⟨rfl,t11,lv,L,c11,hL11,hLl,hLw⟩
       have hn11:=t11.le;have mc11:=mc10.tch t11 (by omega) (by simpa using xB mc10 c10);have mo11:=mo10.tch t11 (by omega) (by simpa using xB mo10 c10);have mp11:=mp10.tch t11 (by omega) (by simpa using xB mp10 c10);have cM11:=cM10.tch t11 (by omega) (by simp;omega);have hO11:=uB hO10 c10 t11;have hI11:=wG hI10 c10 t11;have op11:=op10.tch t11 (yQ (yE c10 op10));have cp11:=cpm_cel cp10 c10 (by simp) t11;have t611:Tch [n3] h6 n5 h11 n11:=Tch.tch t11 t610 fun x hx=>.inr hx;clear t11 mc10 mo10 mp10 cM10 hO10 hI10 op10 cp10 t610 c10;have t011:Tch [] h n h11 n11:=Tch.tch t611 t06 fun x hx=>.inl (by simp at hx;omega);have mm11:=mm.tch t011 hlo;have hcv:=ok.conv
       have hain:∀x∈m.args,x∈ns:=fun x hx=>by
        obtain⟨i,hi⟩:=List.mem_iff_getElem?.1 hx;exact(hcv.1.2 i x hi).1
       have hsin:∀x∈m.saved,x∈ns:=fun x hx=>by
        obtain⟨i,hi⟩:=List.mem_iff_getElem?.1 hx;exact(hcv.2.2.1.2 i x hi).1
       have hal:m.args.length≤16:=by have:=hcv.1.1;omega
       have hsl:m.saved.length≤64:=by have:=hcv.2.2.1.1;omega
       have a11:=(mm11.args 0).one;have s11:=(mm11.saved 0).one;repeat' first|refine st ?_|refine ob ?_|refine ob1 ?_|refine cT ?_|refine cF ?_|refine zC ?_|refine cX (fun _=>?_) fun _=>?_|fail
       refine vR (wY (e:=rD) (br:=rb) (ns:=ns) ((mm11.args rD).up (by omega)) (Nat.le_refl _) (by omega) (by omega) (by omega) (c11.cell rfl) mp11 gok.nd hain) ?_
       rintro v12 h12 n12 ⟨w12,t12⟩
       have hn12:=t12.le;have o12:=w12.one;have c12:=c11.tch t12 (by omega) (by simp);have cM12:=cM11.tch t12 (by omega) (by simp);have mp12:=mp11.tch t12 (by omega) (by simp);have mm12:=mm.tch (Tch.tch t12 t011 (by simp):Tch [] h n h12 n12) hlo;clear mm11;repeat' first|refine st ?_|refine ob ?_|refine ob1 ?_|refine cT ?_|refine cF ?_|refine zC ?_|refine cX (fun _=>?_) fun _=>?_|fail
       refine vR (wY (e:=rD) (br:=rb) (ns:=ns) ((mm12.saved rD).up (by omega)) (Nat.le_refl _) (by omega) (by omega) (by omega) (c12.cell rfl) mp12 gok.nd hsin) ?_
       rintro v13 h13 n13 ⟨w13,t13⟩
       have hn13:=t13.le;have o13:=w13.one;have t1113:Tch [] h11 n11 h13 n13:=Tch.tch t13 t12 (by simp);have c13:=c12.tch t13 (by omega) (by simp);have cM13:=cM12.tch t13 (by omega) (by simp);have w12':=w12.tch t13 (by simp);have mc13:=mc11.tch t1113 (by omega) (by simp);have mo13:=mo11.tch t1113 (by omega) (by simp);have mp13:=mp12.tch t13 (by omega) (by simp);have hO13:=wU (e:=eSets) hO11 t1113.kx (by decide) (by decide);have hI13:=yD (e:=yU) hI11 t1113.kx (by decide) (by decide);have hL13:=yD (e:=yU) hL11 t1113.kx (by decide) (by decide);have on13:=(on6.tch t611 (yQ (yE c6 on6))).tch t1113 (by simp);have op13:=op11.tch t1113 (by simp);have cp13:=cpm_tch cp11 t1113;have t013:Tch [] h n h13 n13:=Tch.tch t1113 t011 (by simp);clear t12 t13 t1113 w12 mc11 mo11 mp11 mp12 hO11 hI11 hL11 on6 op11 op6 cp11 cp6 mm12 t611 c6 mp6 cM6;repeat' first|refine st ?_|refine ob ?_|refine ob1 ?_|refine cT ?_|refine cF ?_|refine zC ?_|refine cX (fun _=>?_) fun _=>?_|fail
       have tA:Tch [n3] h13 n13 (hst (hst h13 n3 (0+19) [v12]) n3 (0+18) [v13]) n13:=zA;have c14:Cel (hst (hst h13 n3 (0+19) [v12]) n3 (0+18) [v13]) n3 zTb 0 (yO m'++[nsv,psv,.map (some rb),.map (some cb),.map (some ob9),lv,ofv,inv,nlS,nlS,v13,v12,nlS]):=zE;have w12:=w12'.tch tA (yQ (yE c13 w12'));have w13':=w13.tch tA (yQ (yE c13 w13));have mc14:=mc13.tch tA (by omega) (by simpa using xB mc13 c13);have mo14:=mo13.tch tA (by omega) (by simpa using xB mo13 c13);have mp14:=mp13.tch tA (by omega) (by simpa using xB mp13 c13);have hO14:=uB hO13 c13 tA;have hI14:=wG hI13 c13 tA;have hL14:=wG hL13 c13 tA;have on14:=on13.tch tA (yQ (yE c13 on13));have op14:=op13.tch tA (yQ (yE c13 op13));have cp14:=cpm_cel cp13 c13 (by simp) tA;have t014:Tch [] h n (hst (hst h13 n3 (0+19) [v12]) n3 (0+18) [v13]) n13:=Tch.tch tA t013 fun x hx=>.inl (by simp at hx;omega);have cM14:=cM13.tch tA (by omega) (by simp;omega);clear tA c13 c11 c12 cM11 cM12 w12' w13 mc13 mo13 mp13 hO13 hI13 hL13 on13 op13 cp13 t013 cM13
       generalize (hst (hst h13 n3 (0+19) [v12]) n3 (0+18) [v13])=h14 at *
       have hK:Opd n2 n13 h14 rb cb m'.osv lv inv m'.ops ns (cNs m) L I:=⟨by rw[cp14.ol];exact cp14.orr,fun o ho=>by
        obtain⟨i,hi⟩:=List.mem_iff_getElem?.1 ho;have hil:=(List.getElem?_eq_some_iff.1 hi).1;have e1:=cp14.ol;obtain⟨o',e2,e3⟩:=cp14.oe i _ (List.getElem?_eq_getElem (by omega));rw [hi]at e2;cases e2;have:=e3.ru;rw [← e3.us]at this;exact this,fun o ho=>by
        obtain⟨i,hi⟩:=List.mem_iff_getElem?.1 ho;have hil:=(List.getElem?_eq_some_iff.1 hi).1;have e1:=cp14.ol;obtain⟨o',e2,e3⟩:=cp14.oe i _ (List.getElem?_eq_getElem (by omega));rw [hi]at e2;cases e2;have:=e3.rc;rw [← e3.cb]at this;exact this,mp14,mc14,⟨by omega,by omega⟩,sets_dn hL14 (by omega),sets_dn hI14 (by omega)⟩
       have hoO:∀o∈m'.ops,OpdOK ns (cNs m) o:=fun o ho=>by
        obtain⟨i,hi⟩:=List.mem_iff_getElem?.1 ho;have hil:=(List.getElem?_eq_some_iff.1 hi).1;have e1:=cp14.ol;have e9:m.ops[i]? = some m.ops[i]:=List.getElem?_eq_getElem (by omega);obtain⟨o',e2,e3⟩:=cp14.oe i _ e9;rw [hi]at e2;cases e2;exact MOK.opd ok (List.mem_of_getElem? e9) e3.d e3.us e3.cb
       have hol:=sm.ops;have hps:ps.length=ns.length:=gok.len;refine cal (operands_com hK c14 (by omega) (by omega) gok.nd (MOK.cnd ok) (by omega) (by omega) (by dsimp only at hns2;omega) (by rw[cp14.ol];omega) hoO) ?_
       rintro _ h15 n15 ⟨rfl,t15,mv,M,cv,C,c15,hM15,hC15,hMl,hCl,hop⟩
       have hn15:=t15.le;have w1215:=w12.tch t15 (yQ (yE c14 w12));have w1315:=w13'.tch t15 (yQ (yE c14 w13'));have mc15:=mc14.tch t15 (by omega) (by simpa using xB mc14 c14);have mo15:=mo14.tch t15 (by omega) (by simpa using xB mo14 c14);have mp15:=mp14.tch t15 (by omega) (by simpa using xB mp14 c14);have hO15:=uB hO14 c14 t15;have hI15:=wG hI14 c14 t15;have hL15:=wG hL14 c14 t15;have on15:=on14.tch t15 (yQ (yE c14 on14));have op15:=op14.tch t15 (yQ (yE c14 op14));have cp15:=cpm_cel cp14 c14 (by simp) t15;have t015:Tch [] h n h15 n15:=Tch.tch t15 t014 fun x hx=>.inl (by simp at hx;omega);clear t15 w12 w13' mc14 mo14 mp14 hO14 hI14 hL14 on14 op14 t014 cM14 c14 hK;repeat' first|refine st ?_|refine ob ?_|refine ob1 ?_|refine cT ?_|refine cF ?_|refine zC ?_|refine cX (fun _=>?_) fun _=>?_|fail
       have w13i:=ixs_row w1315
       refine cal (surviving_com (lo:=n2) c15 (by omega) (op15.dnl (by omega)) (w13i.dnl (by omega)) (by omega) (by dsimp only at hns2;omega) (by unfold ixs;rw [List.length_map];omega) gok.pl fun s hs=>by
        unfold ixs at hs;obtain⟨x,hx,rfl⟩:=List.mem_map.1 hs;exact⟨_,rfl,by have:=List.idxOf_lt_length_iff.2 (hsin x hx);omega⟩) ?_
       rintro _ h16 n16 ⟨rfl,t16,kv,ws,c16,hk16,hkw⟩
       have hn16:=t16.le;have t016:Tch [] h n h16 n16:=Tch.tch t16 t015 fun x hx=>.inl (by simp at hx;omega);have mc16:=mc15.tch t16 (by omega) (by simpa using xB mc15 c15);have mo16:=mo15.tch t16 (by omega) (by simpa using xB mo15 c15);have mp16:=mp15.tch t16 (by omega) (by simpa using xB mp15 c15)
       have tM:TabM n n16 h16 n3 m ns ps ⟨m',nsv,psv,rb,cb,ob9,lv,ofv,inv,mv,cv,v13,v12,kv,L,O,I,M,C,ws⟩:=⟨⟨by omega,by omega⟩,⟨by dsimp only;omega,by dsimp only;omega,by dsimp only;omega⟩,c16,cpm_dn (cpm_cel cp15 c15 (by simp) t16) (by omega),
        (on15.tch t16 (yQ (yE c15 on15))).dnl (by omega),(op15.tch t16 (yQ (yE c15 op15))).dnl (by omega),mp16,mc16,mo16,sets_dn (wG hL15 c15 t16) (by omega),hLl,hLw,ints_dn (uB hO15 c15 t16) (by omega),hOl,fun j c e=>(hall' j c e).1,sets_dn (wG hI15 c15 t16) (by omega),hIl,fun j c e=>(hall' j c e).2,
        mays_dn (mays_cel hM15 c15 t16) (by omega),by have:=cp15.ol;dsimp only;omega,ints_dn (uB hC15 c15 t16) (by omega),by have:=cp15.ol;dsimp only;omega,fun j o e=>by
         obtain⟨o',e2,e3⟩:=cp15.oe j o e;have e4:=hop j o' e2;rw [e3.cb,e3.d,e3.us]at e4;obtain⟨e5,sv,S,e6,e7,e8⟩:=e4;refine⟨e5,sv,S,e6,e7,fun k x p g1 g2 r=>?_⟩;rw [e8 k x p g1 g2 r];unfold mayF;rw [e3.cb],
        (w13i.tch t16 (yQ (yE c15 w13i))).dnl (by omega),((ixs_row w1215).tch t16 (yQ (yE c15 w1215))).dnl (by omega),⟨hk16.1,hk16.2.dnl (by omega)⟩,hkw⟩
       clear cp15 mc15 mo15 mp15 mc16 mo16 mp16 hO15 hI15 hL15 on15 op15 w1215 w1315 w13i c15 c16 t16 t015 hM15 hC15 hop hall';repeat' first|refine st ?_|refine ob ?_|refine ob1 ?_|refine cT ?_|refine cF ?_|refine zC ?_|refine cX (fun _=>?_) fun _=>?_|fail
       exact⟨0,he,t016,.inr ⟨rfl,n3,ns,ps,_,rfl,ok,tM⟩⟩
 · repeat' first|refine st ?_|refine ob ?_|refine ob1 ?_|refine cT ?_|refine cF ?_|refine zC ?_|refine cX (fun _=>?_) fun _=>?_|fail
   exact⟨e,he,t02,.inl ⟨e0,rfl⟩⟩
end Go.Proofs.YtcmohelnoldfbaaGreat
namespace Go.Proofs.YtcmohelnoldfbaaGreat
open Go Go.Ex
set_option maxRecDepth 1000000
theorem alive_run:(run P 1000000).call 6 [] false none (heap0 []) 0 (finV (.bool true))=true:=by decide +kernel
instance alive_c (h:zB) (n:Nat):PurC P 0 6 [] h n (.bool true):=⟨fun u=>⟨_,_,_,⟨rfl,rfl,rfl⟩,hook_of_run (sound prog_ok mixed 1000000) (show tabsOK 0 []=true from rfl) rfl (.inr ⟨_,rfl⟩) alive_run rfl u n⟩⟩
end Go.Proofs.YtcmohelnoldfbaaGreat
namespace Go.Proofs.YtcmohelnoldfbaaGreat
open Go Go.Ex Go.Ex.M
set_option maxRecDepth 100000
set_option maxHeartbeats 8000000
variable {lo n:Nat} {h:zB} {m:MachT}
theorem TabM.dn{lo lo' n bt:Nat}{h:zB}{m:MachT}{ns:List Tx}{ps:List Pl}{v:TabV}(k:TabM lo n h bt m ns ps v)(hl:lo'≤lo):TabM lo' n h bt m ns ps v:=⟨⟨by have:=k.hb;omega,k.hb.2⟩,k.hr,k.cel,cpm_dn k.cp hl,k.on.dnl hl,k.op.dnl hl,k.mr,k.mc,k.mo,sets_dn k.lap hl,k.lapl,k.lapw,ints_dn k.ofs hl,k.ofl,k.ofe,sets_dn k.ins hl,k.inl,k.ine,mays_dn k.may hl,k.mayl,ints_dn k.clob hl,k.clol,k.ope,k.sv.dnl hl,k.av.dnl hl,⟨k.ks.1,k.ks.2.dnl hl⟩,k.ksw⟩
theorem lmake_com(mm:MachM lo h m)(hlo:lo≤n):Com P 0 8 [.agg ⟨yO m⟩] h n fun o h' n'=>Tch [] h n h' n'∧(o = .ret (.tuple ⟨[.pointer none,.pointer none,.bool true]⟩)∨∃bt bt2 v nsv psv kv kvs ns ps,o = .ret (.tuple ⟨[ptr bt 0,ptr bt2 0,.bool true]⟩)∧MOK m ns ps∧TabM n n' h' bt m ns ps v∧Tc n' h' bt2 zTab m nsv psv kv ns ps kvs):=by
 obtain⟨o1,o2,o3,o4,o5⟩:=tQ mm;refine ent fun u=>?_;repeat' first|refine st ?_|refine ob ?_|refine ob1 ?_|refine cT ?_|refine cF ?_|refine zC ?_|refine cX (fun _=>?_) fun _=>?_|fail
 refine cal (make_com (MachM.tch zA hlo mm) (by omega)) ?_
 rintro _ h2 n2 ⟨e,he,t2,hr⟩
 have hn2:=t2.le;have cM:Cel h2 n zMc 0 (yO m):=zE;have t02:Tch [] h n h2 n2:=zA;clear t2;rcases hr with⟨e0,rfl⟩|⟨rfl,bt,ns,ps,v,rfl,ok,tm⟩
 · repeat' first|refine st ?_|refine ob ?_|refine ob1 ?_|refine cT ?_|refine cF ?_|refine zC ?_|refine cX (fun _=>?_) fun _=>?_|fail
   refine cal (rmake_com (MachM.tch zA hlo mm) (by omega)) ?_
   rintro _ h3 n3 ⟨e',he',t3,hr'⟩
   obtain rfl:=makeE_fun he he';have hn3:=t3.le;have t03:Tch [] h n h3 n3:=zA;rcases hr' with⟨_,rfl⟩|⟨h9,_⟩
   · repeat' first|refine st ?_|refine ob ?_|refine ob1 ?_|refine cT ?_|refine cF ?_|refine zC ?_|refine cX (fun _=>?_) fun _=>?_|fail
     · rename_i f1;exact absurd f1 (by decide)
     · exact⟨t03,.inl rfl⟩
   · exact absurd h9 e0
 · repeat' first|refine st ?_|refine ob ?_|refine ob1 ?_|refine cT ?_|refine cF ?_|refine zC ?_|refine cX (fun _=>?_) fun _=>?_|fail
   refine cal (rmake_com (MachM.tch zA hlo mm) (by omega)) ?_
   rintro _ h3 n3 ⟨e',he',t3,hr'⟩
   obtain rfl:=makeE_fun he he';have hn3:=t3.le;have t03:Tch [] h n h3 n3:=zA;rcases hr' with⟨h9,_⟩|⟨_,bt2,nsv,psv,kv,kvs,s,rfl,hbt2,hg,hgo,tc,ok2⟩
   · exact absurd rfl h9
   · have hgg:=ok.geo;rw [hg]at hgg;obtain rfl:=Except.ok.inj hgg;have tm3:=tm.tch t3;repeat' first|refine st ?_|refine ob ?_|refine ob1 ?_|refine cT ?_|refine cF ?_|refine zC ?_|refine cX (fun _=>?_) fun _=>?_|fail
     · rename_i f1;exact absurd f1 (by decide)
     · exact⟨t03,.inr ⟨bt,bt2,v,nsv,psv,kv,kvs,ns,ps,rfl,ok,tm3.dn (by omega),tc⟩⟩
theorem near_nil(a b:Tx):Pur P 0 9 [.pointer none,str a,str b] h n (.bool false):=by
 refine Com.pure (ent fun u=>?_) (.inl rfl);repeat' first|refine st ?_|refine ob ?_|refine ob1 ?_|refine cT ?_|refine cF ?_|refine zC ?_|refine cX (fun _=>?_) fun _=>?_|fail
 exact finT rfl zA
theorem any_swap{α β : Type}{l:List α}{k:List β}{f: α→β→Bool}:(l.any fun x=>k.any fun y=>f x y)=(k.any fun y=>l.any fun x=>f x y):=by
 refine Bool.eq_iff_iff.2 ?_;rw [List.any_eq_true,List.any_eq_true];constructor
 · rintro ⟨x,hx,h⟩
   obtain⟨y,hy,h⟩:=List.any_eq_true.1 h;exact⟨y,hy,List.any_eq_true.2 ⟨x,hx,h⟩⟩
 · rintro ⟨y,hy,h⟩
   obtain⟨x,hx,h⟩:=List.any_eq_true.1 h;exact⟨x,hx,List.any_eq_true.2 ⟨y,hy,h⟩⟩
theorem nearB_comm(m:MachT)(ns:List Tx)(ps:List Pl)(a b:Tx):tV m ns ps b a=tV m ns ps a b:=by
 unfold tV
 cases m.classes[(cNs m).idxOf a]? with
 | none=>cases m.classes[(cNs m).idxOf b]? <;> rfl
 | some c => cases m.classes[(cNs m).idxOf b]? with
  | none=>rfl
  | some d=>
   dsimp only;rw [any_swap];refine any_congr fun x _=>any_congr fun y _=>?_;unfold lapI;cases ps[x.toNat]? <;> cases ps[y.toNat]? <;> first|rfl|exact vN _ _
theorem lap_self{p:Pl}(h:PlG p):tJ p p=true:=by
 obtain⟨h1,h2,h3⟩:=h;exact decide_eq_true (by unfold lapP;refine⟨rfl,h2,h2,?_⟩;rw [if_neg (by omega)];omega)
theorem near_self{ns:List Tx}{ps:List Pl}(ok:MOK m ns ps){i:Nat}{c:ClassT}(hi:m.classes[i]? = some c):tV m ns ps c.name c.name=true:=by
 have cs:=CsOK.of ok.cls;have gok:=geo_ok ok.geo;have hc:c.name∈cNs m:=List.mem_map.2 ⟨c,List.mem_of_getElem? hi,rfl⟩;have e1:(cNs m)[i]? = some c.name:=by unfold cNs;rw [List.getElem?_map,hi];rfl
 have e2:=nodup_at (MOK.cnd ok) (idx_at hc) e1;unfold tV;rw [e2,hi];dsimp only;have h1:=cs.ne i c hi
 obtain⟨r,hr⟩:∃r,r∈c.regs:=by
  cases hl:c.regs with
  | nil=>rw [hl]at h1;simp at h1
  | cons a l=>exact⟨a,List.mem_cons_self ..⟩
 have hn:=cs.mem i c hi r hr;have hx:((ns.idxOf r:Nat):Int)∈ixs ns c.regs:=List.mem_map.2 ⟨r,hr,rfl⟩;have hlt:=List.idxOf_lt_length_iff.2 hn;have hpl:=gok.len;dsimp only at hpl;refine List.any_eq_true.2 ⟨_,hx,List.any_eq_true.2 ⟨_,hx,?_⟩⟩;unfold lapI;rw [Int.toNat_natCast,List.getElem?_eq_getElem (by omega)];exact lap_self (gok.pl _ (List.getElem_mem _))
theorem inear_com(mm:MachM lo h m)(hlo:lo≤n)(tx:TxtM m)(a b:Tx):Com P 0 3 [.agg ⟨yO m⟩,str a,str b] h n fun o _ _=>o = .ret (.bool true):=by
 obtain⟨o1,o2,o3,o4,o5⟩:=tQ mm;refine ent fun u=>?_;repeat' first|refine st ?_|refine ob ?_|refine ob1 ?_|refine cT ?_|refine cF ?_|refine zC ?_|refine cX (fun _=>?_) fun _=>?_|fail
 refine cal (big_com (MachM.tch zA hlo mm) (by omega) tx) ?_
 rintro _ h2 n2 ⟨big,rfl,t2⟩
 have hn2:=t2.le;have cM:Cel h2 n zMc 0 (yO m):=zE;have t02:Tch [] h n h2 n2:=zA;clear t2
 cases big with
 | true=>
  repeat' first|refine st ?_|refine ob ?_|refine ob1 ?_|refine cT ?_|refine cF ?_|refine zC ?_|refine cX (fun _=>?_) fun _=>?_|fail
  rfl
 | false=>
  repeat' first|refine st ?_|refine ob ?_|refine ob1 ?_|refine cT ?_|refine cF ?_|refine zC ?_|refine cX (fun _=>?_) fun _=>?_|fail
  · rfl
  · rfl
  refine cal (lmake_com (MachM.tch t02 hlo mm) (by omega)) ?_
  rintro _ h3 n3 ⟨t3,rfl|⟨bt,bt2,v,nsv,psv,kv,kvs,ns,ps,rfl,ok,tm,tc⟩⟩
  · have hn3:=t3.le;repeat' first|refine st ?_|refine ob ?_|refine ob1 ?_|refine cT ?_|refine cF ?_|refine zC ?_|refine cX (fun _=>?_) fun _=>?_|refine zY (near_nil _ _) ?_|fail
    rfl
  · have hn3:=t3.le;have cM3:=cM.tch t3 (by omega) (by simp);have t03:Tch [] h n h3 n3:=Tch.tch t3 t02 (by simp);have cs:=CsOK.of ok.cls;obtain⟨hcl,c2⟩:=ClsErr.ok ok.cls;have gok:=geo_ok ok.geo;have hcr:∀c∈m.classes,c.regs.length≤64:=fun c hc=>(MOK.sml ok).clr c hc;have hle:=gok.le;have hpl:=gok.len;have hcn:=MOK.cnd ok;dsimp only at hle hpl;clear t3 cM t02;repeat' first|refine st ?_|refine ob ?_|refine ob1 ?_|refine cT ?_|refine cF ?_|refine zC ?_|refine cX (fun _=>?_) fun _=>?_|fail
    have hN:∀{h' n'} (x y:Tx),Tch [] h3 n3 h' n'→Ret P 0 9 [ptr bt 0,str x,str y] h' n' fun v h2 n2=>v = .bool (tV m ns ps x y)∧Tch [] h' n' h2 n2:=fun x y t9=>near_com (tm.tch t9) cs hcl hcr hcn (by omega) hpl x y;refine lpR (fun i:Nat=>[(1,str a),(2,str b),(3,ptr n 0),(9,ptr bt 0),(10,ptr bt2 0),(12,I64 i)]) (fun i h4 n4=>Tch [] h3 n3 h4 n4∧i≤m.classes.length) (fun i=>m.classes.length - i) 0 (by repeat' first|exact trivial|refine⟨rfl,?_⟩) ⟨Tch.refl _ _ _,Nat.zero_le _⟩ ?_
    rintro i t h4 n4 ⟨t4,hi⟩
    have hn4:=t4.le;have cM4:=cM3.tch t4 (by omega) (by simp);have m4:=mm.tch (Tch.tch t4 t03 (by simp):Tch [] h n h4 n4) hlo;have zc:=m4.cls 0;by_cases hlt:i<m.classes.length
    · have d0:m.classes[i]? = some m.classes[i]:=List.getElem?_eq_getElem hlt;generalize m.classes[i]=c at d0
      have d1:=xP (zM zc d0) (j:=0) rfl;have low:=zc.low (by omega);have hself:=hN c.name c.name t4;rw [near_self ok d0]at hself;repeat' first|refine st ?_|refine ob ?_|refine ob1 ?_|refine cT ?_|refine cF ?_|refine zC ?_|refine cX (fun _=>?_) fun _=>?_|fail
      refine vR hself ?_
      rintro _ h5 n5 ⟨rfl,t5⟩
      have hn5:=t5.le;have cM5:=cM4.tch t5 (by omega) (by simp);have zc5:=zc.tch t5 (by omega) (by simp);have d15:=xP (zM zc5 d0) (j:=0) rfl;repeat' first|refine st ?_|refine ob ?_|refine ob1 ?_|refine cT ?_|refine cF ?_|refine zC ?_|refine cX (fun _=>?_) fun _=>?_|fail
      exact⟨i+1,(by dsimp only;omega),(by repeat' first|exact trivial|refine⟨rfl,?_⟩),Tch.tch t5 t4 (by simp),by omega⟩
    · obtain rfl:i=m.classes.length:=by omega
      repeat' first|refine st ?_|refine ob ?_|refine ob1 ?_|refine cT ?_|refine cF ?_|refine zC ?_|refine cX (fun _=>?_) fun _=>?_|fail
      refine vR (hN a b t4) ?_
      rintro _ h5 n5 ⟨rfl,t5⟩
      have hn5:=t5.le;have t35:Tch [] h3 n3 h5 n5:=Tch.tch t5 t4 (by simp);have qr:Pur P 0 10 [ptr bt2 0,str a,str b] h5 n5 (.bool (tV m ns ps a b)):=rnear_pur (tc.tch t35 (Nat.le_refl _)) (by omega) cs hcn a b;have hba:=hN b a t35;rw [nearB_comm]at hba;generalize hz:tV m ns ps a b=z at *
      have ez:(z == z)=true:=by cases z <;> rfl
      repeat' first|refine st ?_|refine ob ?_|refine ob1 ?_|refine cT ?_|refine cF ?_|refine zC ?_|refine cX (fun _=>?_) fun _=>?_|refine zY qr ?_|fail
      refine vR hba ?_
      rintro _ h6 n6 ⟨rfl,t6⟩
      have hn6:=t6.le;have hab:=hN a b (Tch.tch t6 t35 (by simp):Tch [] h3 n3 h6 n6);rw [hz]at hab;repeat' first|refine st ?_|refine ob ?_|refine ob1 ?_|refine cT ?_|refine cF ?_|refine zC ?_|refine cX (fun _=>?_) fun _=>?_|fail
      refine vR hab ?_
      rintro _ h7 n7 ⟨rfl,t7⟩
      have hn7:=t7.le;repeat' first|refine st ?_|refine ob ?_|refine ob1 ?_|refine cT ?_|refine cF ?_|refine zC ?_|refine cX (fun _=>?_) fun _=>?_|fail
      rw[ez]
end Go.Proofs.YtcmohelnoldfbaaGreat
