/- What the law leans on: an executor of the model that is sound, deduction over it, and the walks through the code (part 15 of 20). Conditions: those that each theorem states. -/
import Derived.Test.YtcmohelnoldfbaaGreatInterNearx14

set_option linter.unusedVariables false
set_option linter.unusedSimpArgs false
namespace Go.Proofs.YtcmohelnoldfbaaGreat
open Go Go.Ex Go.Ex.M
set_option maxRecDepth 100000
set_option maxHeartbeats 8000000
variable {lo bt z n:Nat} {h:zB} {m:MachT} {nsv psv kv:Value} {ns:List Tx} {ps:List Pl} {kvs:List Value}
theorem rresult_pur(k:Tb lo h bt z m nsv psv kv ns ps):Pur P 0 61 [ptr bt 0] h n (I64 (pos ns m.result)):=by
 have hcel:=k.cel;refine ent fun u=>?_;repeat' first|refine st ?_|refine ob ?_|refine ob1 ?_|refine cT ?_|refine cF ?_|refine zC ?_|refine cX (fun _=>?_) fun _=>?_|refine zY (wR k _) ?_|fail
 exact fin rfl
theorem rargs_ret(k:Tb lo h bt z m nsv psv kv ns ps)(hlo:lo≤n)(hl:m.args.length<100000):Ret P 0 58 [ptr bt 0] h n fun v h' n'=>Row n' h' v tInt 1 (uK ns m.args).length ((uK ns m.args).map I64)∧Tch [] h n h' n':=by
 have hcel:=k.cel;refine ent fun u=>?_;repeat' first|refine st ?_|refine ob ?_|refine ob1 ?_|refine cT ?_|refine cF ?_|refine zC ?_|refine cX (fun _=>?_) fun _=>?_|fail
 refine vR (rlist_ret k hlo (k.mm.args 0) hlo hl) ?_
 rintro v' h3 n3 ⟨hw,ht⟩
 repeat' first|refine st ?_|refine ob ?_|refine ob1 ?_|refine cT ?_|refine cF ?_|refine zC ?_|refine cX (fun _=>?_) fun _=>?_|fail
 exact⟨_,rfl,hw.row (by decide),ht⟩
theorem rpair_pur(k:Tc lo h bt z m nsv psv kv ns ps kvs)(hlo:lo≤n){a b:Nat}{ca cb:ClassT}(ha:m.classes[a]? = some ca)(hb:m.classes[b]? = some cb):Pur P 0 75 [ptr bt 0,I64 (a:Nat),I64 (b:Nat)] h n (.bool (rPair ns ps ca cb)):=by
 have hcel:=k.tb.cel;have kr:=k.kr;have kl:=k.kl;have hcl:=k.tb.mm.cls.lt;have hla:=(List.getElem?_eq_some_iff.1 ha).1;have hlb:=(List.getElem?_eq_some_iff.1 hb).1;obtain⟨va,a1,a2⟩:=k.ke _ _ ha;obtain⟨vb,b1,b2⟩:=k.ke _ _ hb;have ya:=row_ee kr a1;have yb:=row_ee kr b1;have hAl:=cls_len k (List.mem_of_getElem? ha);have hBl:=cls_len k (List.mem_of_getElem? hb);have hinf:inf<4611686018427387904:=by decide
 have e0:rPair ns ps ca cb=(ca.regs.map (pos ns)).any fun x=>(cb.regs.map (pos ns)).any fun y=> !sH ps x y:=rfl;have ra:Row lo h va tInt 1 (ca.regs.map (pos ns)).length ((ca.regs.map (pos ns)).map I64):=by rw[List.length_map];exact a2
 have rb:Row lo h vb tInt 1 (cb.regs.map (pos ns)).length ((cb.regs.map (pos ns)).map I64):=by rw[List.length_map];exact b2
 have hAl:(ca.regs.map (pos ns)).length<inf:=by rw[List.length_map];exact hAl
 have hBl:(cb.regs.map (pos ns)).length<inf:=by rw[List.length_map];exact hBl
 clear a2 b2;generalize ca.regs.map (pos ns)=A at *
 generalize cb.regs.map (pos ns)=B at *
 refine ent fun u=>?_;repeat' first|refine st ?_|refine ob ?_|refine ob1 ?_|refine cT ?_|refine cF ?_|refine zC ?_|refine cX (fun _=>?_) fun _=>?_|fail
 refine lpR (fun i:Nat=>[(0,ptr bt 0),(1,I64 a),(2,I64 b),(7,I64 i)]) (fun i h' n'=>h'=h∧n'=n∧i≤A.length∧∀(j:Nat) x,j<i→A[j]? = some x→(B.any fun y=> !sH ps x y)=false) (fun i=>A.length - i) 0 (by repeat' first|exact trivial|refine⟨rfl,?_⟩) ⟨rfl,rfl,Nat.zero_le _,fun j _ hj=>absurd hj (Nat.not_lt_zero _)⟩ ?_
 rintro i t h' n' ⟨rfl,rfl,hi,hno⟩
 by_cases hlt:i<A.length
 · have c0:A[i]? = some A[i]:=List.getElem?_eq_getElem hlt;generalize A[i]=x at c0
   have c1:=yX ra c0;repeat' first|refine st ?_|refine ob ?_|refine ob1 ?_|refine cT ?_|refine cF ?_|refine zC ?_|refine cX (fun _=>?_) fun _=>?_|fail
   refine lpR (fun q:Nat=>[(0,ptr bt 0),(1,I64 a),(2,I64 b),(7,I64 i),(8,I64 q)]) (fun q h2 n2=>h2=h'∧n2=n'∧q≤B.length∧∀(j:Nat) y,j<q→B[j]? = some y→(!sH ps x y)=false) (fun q=>B.length - q) 0 (by repeat' first|exact trivial|refine⟨rfl,?_⟩) ⟨rfl,rfl,Nat.zero_le _,fun j _ hj=>absurd hj (Nat.not_lt_zero _)⟩ ?_
   rintro q t h2 n2 ⟨rfl,rfl,hq,hno2⟩
   by_cases hlt2:q<B.length
   · have d0:B[q]? = some B[q]:=List.getElem?_eq_getElem hlt2;generalize B[q]=y at d0
     have d1:=yX rb d0;repeat' first|refine st ?_|refine ob ?_|refine ob1 ?_|refine cT ?_|refine cF ?_|refine zC ?_|refine cX (fun _=>?_) fun _=>?_|refine zY (vO k.tb hlo x y) ?_|fail
     · rename_i f1;exact fin (by rw[e0,tP c0 (tP d0 (by rw[f1];rfl))])
     · rename_i f1
       exact⟨q+1,(by dsimp only;omega),(by repeat' first|exact trivial|refine⟨rfl,?_⟩),rfl,rfl,by omega,fun j w hj e=>by
        rcases Nat.lt_succ_iff_lt_or_eq.1 hj with h9|rfl
        · exact hno2 j w h9 e
        · rw[d0]at e;cases e;rw [f1];rfl⟩
   · obtain rfl:q=B.length:=by omega
     repeat' first|refine st ?_|refine ob ?_|refine ob1 ?_|refine cT ?_|refine cF ?_|refine zC ?_|refine cX (fun _=>?_) fun _=>?_|fail
     exact⟨i+1,(by dsimp only;omega),(by repeat' first|exact trivial|refine⟨rfl,?_⟩),rfl,rfl,by omega,fun j w hj e=>by
      rcases Nat.lt_succ_iff_lt_or_eq.1 hj with h9|rfl
      · exact hno j w h9 e
      · rw[c0]at e;cases e;exact any_ft fun q y e=>hno2 q y (List.getElem?_eq_some_iff.1 e).1 e⟩
 · obtain rfl:i=A.length:=by omega
   repeat' first|refine st ?_|refine ob ?_|refine ob1 ?_|refine cT ?_|refine cF ?_|refine zC ?_|refine cX (fun _=>?_) fun _=>?_|fail
   exact fin (by rw[e0,any_ft fun j x e=>hno j x (List.getElem?_eq_some_iff.1 e).1 e])
theorem rmake_com(mm:MachM lo h m)(hlo:lo≤n):Com P 0 27 [.agg ⟨yO m⟩] h n fun o h' n'=>∃e,MakeE m e∧Tch [] h n h' n'∧((e≠0∧o = .ret (.tuple ⟨[.pointer none,I64 e]⟩))∨(e=0∧∃bt nsv psv kv kvs s,o = .ret (.tuple ⟨[ptr bt 0,I64 0]⟩)∧n≤bt∧geoP m.regs = .ok s∧GOK s∧Tc n' h' bt zTab m nsv psv kv s.ns s.ps kvs∧MOK m s.ns s.ps)):=by
 obtain⟨o1,o2,o3,o4,o5⟩:=mach_one mm;have hinf:inf<4611686018427387904:=by decide
 have hal:=mm.args.lt;have hsl:=mm.saved.lt;have hol:=mm.ops.lt;have hcl:=mm.cls.lt;refine ent fun u=>?_;repeat' first|refine st ?_|refine ob ?_|refine ob1 ?_|refine cT ?_|refine cF ?_|refine zC ?_|refine cX (fun _=>?_) fun _=>?_|fail
 refine cal (rbegin_com (MachM.tch zA hlo mm) (by omega)) ?_
 rintro _ h2 n2 ⟨e,hb,ht,⟨he,rfl⟩|⟨rfl,bt,nsv,psv,kv,kvs,s,rfl,hbt,hg,hgo,hne,tc,hce,hoe⟩⟩
 · repeat' first|refine st ?_|refine ob ?_|refine ob1 ?_|refine cT ?_|refine cF ?_|refine zC ?_|refine cX (fun _=>?_) fun _=>?_|fail
   refine⟨e,?_,zA,.inl ⟨he,rfl⟩⟩;rcases hb with hb|⟨hnm,hb|⟨s,hs,hb|⟨hne,⟨_,hb⟩|⟨hc0,hb⟩⟩⟩⟩
   · exact .inl hb
   · exact .inr ⟨hnm,.inl hb⟩
   · exact .inr ⟨hnm,.inr ⟨s,hs,.inl hb⟩⟩
   · exact .inr ⟨hnm,.inr ⟨s,hs,.inr ⟨hne,.inl ⟨he,hb⟩⟩⟩⟩
   · exact .inr ⟨hnm,.inr ⟨s,hs,.inr ⟨hne,.inr ⟨hc0,.inl ⟨he,hb⟩⟩⟩⟩⟩
 have hnm:named m.name=true:=by
  rcases hb with⟨_,hb⟩|⟨hnm,_⟩
  · cases hb
  · exact hnm
 have hn2:=ht.le;have hcm:Cel h2 n (27+1) 0 (yO m):=zE;have htn:Tch [] h n h2 n2:=zA;clear ht;have qa:=(mm.args.tch htn hlo) 0;have qs:=(mm.saved.tch htn hlo) 0;have qo:=(mm.ops.tch htn hlo) 0;have cs:=CsOK.of hce;have hpl:=hgo.len;have hbl:=tc.tb.hb
 have oo:∀(i:Nat) o,m.ops[i]? = some o→uO m s.ns s.ps o∧(o.uses.length=1∨o.uses.length=2):=fun i o ho=>by
  rcases hoe with⟨h9,_⟩|⟨_,⟨_,h9⟩|⟨_,_,_,_,h9,_⟩⟩
  · omega
  · rcases h9 i o ho with⟨_,h8,h7⟩|⟨h8,_⟩|⟨h8,_⟩
    · have:=h7.1;have h6:=h8.1;have:=ar_ge o.name;exact⟨h7,by omega⟩
    · omega
    · omega
  · omega
 have hcb:ClobLe m:=fun i o ho=>by have:=(oo i o ho).1.2.2.2.2.2.2.1;omega
 have mke:∀e,((e=10∧¬sG m s.ns s.ps (wK s.ns s.ps))∨(sG m s.ns s.ps (wK s.ns s.ps)∧((e=11∧¬uA m s.ns s.ps)∨(e=0∧uA m s.ns s.ps))))→MakeE m e:=fun e he=>.inr ⟨hnm,.inr ⟨s,hg,.inr ⟨hne,.inr ⟨hce,.inr ⟨hoe,he⟩⟩⟩⟩⟩;have bad10:¬sG m s.ns s.ps (wK s.ns s.ps)→∀h3 n3,Tch [] h n h3 n3→∃e,MakeE m e∧Tch [] h n h3 n3∧((e≠0∧Out.ret (.tuple ⟨[.pointer none,I64 10]⟩) = .ret (.tuple ⟨[.pointer none,I64 e]⟩))∨(e=0∧∃bt nsv psv kv kvs s,Out.ret (.tuple ⟨[.pointer none,I64 10]⟩) = .ret (.tuple ⟨[ptr bt 0,I64 0]⟩)∧n≤bt∧geoP m.regs = .ok s∧GOK s∧Tc n3 h3 bt zTab m nsv psv kv s.ns s.ps kvs∧MOK m s.ns s.ps)):=fun hc h3 n3 t3=>⟨10,mke 10 (.inl ⟨rfl,hc⟩),t3,.inl ⟨by decide,rfl⟩⟩;repeat' first|refine st ?_|refine ob ?_|refine ob1 ?_|refine cT ?_|refine cF ?_|refine zC ?_|refine cX (fun _=>?_) fun _=>?_|fail
 refine cal (rapart_pur tc.tb (by omega) (RowI.up (mm.args.tch htn hlo) (by omega))) ?_
 rintro _ _ _ ⟨ra,rfl,hra,rfl,rfl⟩
 repeat' first|refine st ?_|refine ob ?_|refine ob1 ?_|refine cT ?_|refine cF ?_|refine zC ?_|refine cX (fun _=>?_) fun _=>?_|fail
 refine cal (rapart_pur tc.tb (by omega) (RowI.up (mm.saved.tch htn hlo) (by omega))) ?_
 rintro _ _ _ ⟨rs,rfl,hrs,rfl,rfl⟩
 repeat' first|refine st ?_|refine ob ?_|refine ob1 ?_|refine cT ?_|refine cF ?_|refine zC ?_|refine cX (fun _=>?_) fun _=>?_|refine zY (rresult_pur tc.tb) ?_|fail
 · exact bad10 (fun hb=>by have:=hb.1.1;omega) _ _ htn
 · rename_i f1 f2;exact bad10 (fun hb=>by have:=hra.2 hb.1.2;rw [f2]at this;cases this) _ _ htn
 · rename_i f1 f2 f3;exact bad10 (fun hb=>by have:=pos_ge.2 hb.2.1;omega) _ _ htn
 · exact bad10 (fun hb=>by have:=hb.2.2.1.1;omega) _ _ htn
 · rename_i f1 f2 f3 f4 f5;exact bad10 (fun hb=>by have:=hrs.2 hb.2.2.1.2;rw [f5]at this;cases this) _ _ htn
 · exact bad10 (fun hb=>by have:=hb.2.2.2.2.1;omega) _ _ htn
 · exact bad10 (fun hb=>by have:=hb.2.2.2.2.2.1;omega) _ _ htn
 rename_i h' n' f1 f2 f3 f4 f5 f6 f7;have hres:m.result∈s.ns:=pos_ge.1 (by omega);have hargs:=hra.1 f2;have hsav:=hrs.1 f5
 have ain:∀x∈m.args,x∈s.ns:=fun x hx=>by
  obtain⟨i,hi⟩:=List.mem_iff_getElem?.1 hx;exact(hargs i x hi).1
 refine lpR (fun i:Nat=>[(1,ptr n 0),(4,ptr bt 0),(8,I64 i)]) (fun i h3 n3=>h3=h'∧n3=n'∧i≤m.saved.length∧∀(j:Nat) x,j<i→m.saved[j]? = some x→tJ (yG s.ns s.ps x) (yG s.ns s.ps m.result)=false) (fun i=>m.saved.length - i) 0 (by repeat' first|exact trivial|refine⟨rfl,?_⟩) ⟨rfl,rfl,Nat.zero_le _,fun j _ hj=>absurd hj (Nat.not_lt_zero _)⟩ ?_
 rintro i t h' n' ⟨rfl,rfl,hi,hno⟩
 by_cases hlt:i<m.saved.length
 · have c0:m.saved[i]? = some m.saved[i]:=List.getElem?_eq_getElem hlt;generalize m.saved[i]=x at c0
   have c1:=yX qs c0;have hx:=(hsav i x c0).1;have e2:sH s.ps (pos s.ns m.result) (pos s.ns x)=tJ (yG s.ns s.ps x) (yG s.ns s.ps m.result):=by rw[lapN_in hpl hres hx,vN]
   have hsb:=qs.low (by omega);repeat' first|refine st ?_|refine ob ?_|refine ob1 ?_|refine cT ?_|refine cF ?_|refine zC ?_|refine cX (fun _=>?_) fun _=>?_|refine zY (rresult_pur tc.tb) ?_|refine zY (wR tc.tb _) ?_|refine zY (vO tc.tb (by omega) _ _) ?_|fail
   · rename_i g1;rw [e2]at g1;exact bad10 (fun hb=>by have:=hb.2.2.2.1 i x c0;rw [g1]at this;cases this) _ _ htn
   · rename_i g1;rw [e2]at g1
     exact⟨i+1,(by dsimp only;omega),(by repeat' first|exact trivial|refine⟨rfl,?_⟩),rfl,rfl,by omega,fun j y hj e=>by
      rcases Nat.lt_succ_iff_lt_or_eq.1 hj with h9|rfl
      · exact hno j y h9 e
      · rw[c0]at e;cases e;exact g1⟩
 obtain rfl:i=m.saved.length:=by omega
 have hsl2:∀(j:Nat) x,m.saved[j]? = some x→tJ (yG s.ns s.ps x) (yG s.ns s.ps m.result)=false:=fun j x e=>hno j x (List.getElem?_eq_some_iff.1 e).1 e;clear hno hi hlt;repeat' first|refine st ?_|refine ob ?_|refine ob1 ?_|refine cT ?_|refine cF ?_|refine zC ?_|refine cX (fun _=>?_) fun _=>?_|fail
 refine vR (rargs_ret tc.tb (by omega) (by omega)) ?_
 rintro va h4 n4 ⟨rva,ht4⟩
 have hn4:=ht4.le;have hll:(uK s.ns m.args).length=m.args.length:=by rw[listN_all ain,List.length_map]
 rw[hll]at rva;repeat' first|refine st ?_|refine ob ?_|refine ob1 ?_|refine cT ?_|refine cF ?_|refine zC ?_|refine cX (fun _=>?_) fun _=>?_|fail
 refine appO (lo:=n4) (Own.nil (e:=tInt) (sz:=1)) rva (Nat.le_refl _) (by
  have:∀l:List Int,One (l.map I64):=fun l=>by
   induction l with
   | nil=>trivial
   | cons a l ih=>exact⟨rfl,ih⟩
  exact this _) (by omega) ?_
 rintro v5 h5 n5 ho5 ht5
 have hn5:=ht5.le;have ht5':Tch [] h' n' h5 n5:=Tch.tch ht5 ht4 (by simp[zN]);have tc5:=tc.tch ht5' (Nat.le_refl _);clear ht5 ht4 rva;repeat' first|refine st ?_|refine ob ?_|refine ob1 ?_|refine cT ?_|refine cF ?_|refine zC ?_|refine cX (fun _=>?_) fun _=>?_|refine zY (rresult_pur tc5.tb) ?_|fail
 refine appO (ho5.tch (S:=[]) zA (by simp)) (zS (e:=tInt) (sz:=1) (len:=1) rfl (by decide)) (by omega) ⟨rfl,trivial⟩ (by omega) ?_
 rintro v6 h6 n6 ho6 ht6
 have hn6:=ht6.le;have ht6':Tch [] h' n' h6 n6:=Tch.tch ht6 zA fun b hb=>.inl (by have:=zZ ho5 b hb;omega);have tc6:=tc.tch ht6' (Nat.le_refl _);have htn6:Tch [] h n h6 n6:=Tch.tch ht6' htn (by simp);have hcm6:Cel h6 n (27+1) 0 (yO m):=hcm.tch ht6' (by omega) (by simp);have qo6:=(mm.ops.tch htn6 hlo) 0;have hcel6:=tc6.tb.cel;have kr6:=tc6.kr;have kl6:=tc6.kl
 have r6:Row n6 h6 v6 tInt 1 (m.args++[m.result]).length (((m.args++[m.result]).map (pos s.ns)).map I64):=by
  have:=ho6.row (by decide);rw [listN_all ain]at this;simpa using this
 have hLl:(m.args++[m.result]).length≤17:=by simp;omega
 clear ho6 ht6 ho5 ht5' ht6';generalize hL:m.args++[m.result]=L at *
 have Lin:∀x∈L,x∈s.ns:=fun x hx=>by
  rw[← hL]at hx;rcases List.mem_append.1 hx with h9|h9
  · exact ain x h9
  · simp at h9;subst h9;exact hres
 have hbl6:=tc6.tb.hb;repeat' first|refine st ?_|refine ob ?_|refine ob1 ?_|refine cT ?_|refine cF ?_|refine zC ?_|refine cX (fun _=>?_) fun _=>?_|fail
 refine lpR (fun i:Nat=>[(1,ptr n 0),(4,ptr bt 0),(10,v6),(11,I64 i)]) (fun i h3 n3=>h3=h6∧n3=n6∧i≤L.length∧∀(j:Nat) x,j<i→L[j]? = some x→m.classes.any (fun c=>decide (x∈c.regs))=true) (fun i=>L.length - i) 0 (by repeat' first|exact trivial|refine⟨rfl,?_⟩) ⟨rfl,rfl,Nat.zero_le _,fun j _ hj=>absurd hj (Nat.not_lt_zero _)⟩ ?_
 rintro i t h3 n3 ⟨rfl,rfl,hi,hno⟩
 by_cases hlt:i<L.length
 · have c0:L[i]? = some L[i]:=List.getElem?_eq_getElem hlt;generalize L[i]=x at c0
   have c1:zD h3 (sbk v6) (sof v6+i*1)=some (I64 (pos s.ns x)):=by rw[Nat.mul_one];exact r6.at (by rw[List.getElem?_map,List.getElem?_map,c0];rfl)
   have hx:=Lin x (List.mem_of_getElem? c0);repeat' first|refine st ?_|refine ob ?_|refine ob1 ?_|refine cT ?_|refine cF ?_|refine zC ?_|refine cX (fun _=>?_) fun _=>?_|fail
   refine lpR (α :=Nat×Bool) (fun a=>[(1,ptr n 0),(4,ptr bt 0),(10,v6),(11,I64 i),(12,.bool a.2),(13,I64 a.1)]) (fun a h4 n4=>h4=h3∧n4=n3∧a.1≤kvs.length∧(a.2=true↔∃(j:Nat) (c:ClassT),j<a.1∧m.classes[j]? = some c∧x∈c.regs)) (fun a=>kvs.length - a.1) (0,false) (by repeat' first|exact trivial|refine⟨rfl,?_⟩) ⟨rfl,rfl,Nat.zero_le _,fun h9=>(by cases h9),fun⟨j,_,h9,_⟩=>absurd h9 (Nat.not_lt_zero _)⟩ ?_
   rintro ⟨q,b⟩ t h4 n4 ⟨rfl,rfl,hq,hb⟩
   dsimp only at hq hb ⊢;by_cases hlt2:q<kvs.length
   · have d0:m.classes[q]? = some m.classes[q]:=List.getElem?_eq_getElem (by omega);generalize m.classes[q]=c at d0
     have e2:inN m s.ns (q:Nat) (pos s.ns x)=decide (x∈c.regs):=by
      unfold inN;rw [decide_eq_true (by omega)];show(true && match m.classes[q]? with|some k=>decide (pos s.ns x∈k.regs.map (pos s.ns))|none=>false)=_;rw [d0];exact decide_eq_decide.2 (pos_mem (cs.mem _ _ d0))
     cases b with
     | true =>
      repeat' first|refine st ?_|refine ob ?_|refine ob1 ?_|refine cT ?_|refine cF ?_|refine zC ?_|refine cX (fun _=>?_) fun _=>?_|fail
      exact⟨(q+1,true),(by dsimp only;omega),(by repeat' first|exact trivial|refine⟨rfl,?_⟩),rfl,rfl,by omega,fun _=>by
       obtain⟨j,c',h7,h8⟩:=hb.1 rfl;exact⟨j,c',by omega,h8⟩,fun _=>rfl⟩
     | false =>
      repeat' first|refine st ?_|refine ob ?_|refine ob1 ?_|refine cT ?_|refine cF ?_|refine zC ?_|refine cX (fun _=>?_) fun _=>?_|refine zY (tin_pur tc6 _ _) ?_|fail
      exact⟨(q+1,inN m s.ns (q:Nat) (pos s.ns x)),(by dsimp only;omega),(by repeat' first|exact trivial|refine⟨rfl,?_⟩),rfl,rfl,by omega,fun h9=>⟨q,c,by omega,d0,by rw[e2]at h9;exact of_decide_eq_true h9⟩,fun⟨j,c',h7,h8,h9⟩=>by
       rcases Nat.lt_succ_iff_lt_or_eq.1 h7 with h7|rfl
       · have:=hb.2 ⟨j,c',h7,h8,h9⟩;cases this
       · rw[d0]at h8;cases h8;rw [e2];exact decide_eq_true h9⟩
   · obtain rfl:q=kvs.length:=by omega
     cases b with
     | false=>
      repeat' first|refine st ?_|refine ob ?_|refine ob1 ?_|refine cT ?_|refine cF ?_|refine zC ?_|refine cX (fun _=>?_) fun _=>?_|fail
      refine bad10 (fun hc=>?_) _ _ htn6;have h9:=hc.2.2.2.2.2.2 i x (by rw[hL];exact c0);obtain⟨c,h7,h8⟩:=List.any_eq_true.1 h9;obtain⟨j,hj⟩:=List.mem_iff_getElem?.1 h7;have:=hb.2 ⟨j,c,by have:=(List.getElem?_eq_some_iff.1 hj).1;omega,hj,of_decide_eq_true h8⟩;cases this
     | true =>
      obtain⟨j,c,h7,h8,h9⟩:=hb.1 rfl;repeat' first|refine st ?_|refine ob ?_|refine ob1 ?_|refine cT ?_|refine cF ?_|refine zC ?_|refine cX (fun _=>?_) fun _=>?_|fail
      exact⟨i+1,(by dsimp only;omega),(by repeat' first|exact trivial|refine⟨rfl,?_⟩),rfl,rfl,by omega,fun j' y hj e=>by
       rcases Nat.lt_succ_iff_lt_or_eq.1 hj with h6|rfl
       · exact hno j' y h6 e
       · rw[c0]at e;cases e;exact List.any_eq_true.2 ⟨c,List.mem_of_getElem? h8,decide_eq_true h9⟩⟩
 obtain rfl:i=L.length:=by omega
 have hconv:sG m s.ns s.ps (wK s.ns s.ps):=⟨⟨by omega,hargs⟩,hres,⟨by omega,hsav⟩,hsl2,by omega,by omega,fun i x e=>by rw[hL]at e;exact hno i x (List.getElem?_eq_some_iff.1 e).1 e⟩;have bad11:¬uA m s.ns s.ps→∀h3 n3,Tch [] h n h3 n3→∃e,MakeE m e∧Tch [] h n h3 n3∧((e≠0∧Out.ret (.tuple ⟨[.pointer none,I64 11]⟩) = .ret (.tuple ⟨[.pointer none,I64 e]⟩))∨(e=0∧∃bt nsv psv kv kvs s,Out.ret (.tuple ⟨[.pointer none,I64 11]⟩) = .ret (.tuple ⟨[ptr bt 0,I64 0]⟩)∧n≤bt∧geoP m.regs = .ok s∧GOK s∧Tc n3 h3 bt zTab m nsv psv kv s.ns s.ps kvs∧MOK m s.ns s.ps)):=fun hc h3 n3 t3=>⟨11,mke 11 (.inr ⟨hconv,.inl ⟨rfl,hc⟩⟩),t3,.inl ⟨by decide,rfl⟩⟩;clear hno hi hlt;repeat' first|refine st ?_|refine ob ?_|refine ob1 ?_|refine cT ?_|refine cF ?_|refine zC ?_|refine cX (fun _=>?_) fun _=>?_|fail
 clear r6;refine lpR (fun i:Nat=>[(1,ptr n 0),(4,ptr bt 0),(14,I64 i)]) (fun i h4 n4=>h4=h3∧n4=n3∧i≤m.ops.length∧∀(j:Nat) o,j<i→m.ops[j]? = some o→fitsB m s.ns s.ps o=true) (fun i=>m.ops.length - i) 0 (by repeat' first|exact trivial|refine⟨rfl,?_⟩) ⟨rfl,rfl,Nat.zero_le _,fun j _ hj=>absurd hj (Nat.not_lt_zero _)⟩ ?_
 rintro i t h4 n4 ⟨rfl,rfl,hi,hno⟩
 by_cases hlt:i<m.ops.length
 · have c0:m.ops[i]? = some m.ops[i]:=List.getElem?_eq_getElem hlt;generalize m.ops[i]=o at c0
   obtain⟨⟨g1,g2,g3,g4,g5,g6,g7,g8⟩,glen⟩:=oo i o c0
   have ef:=fits_eq cs hpl glen g2 (fun u hu=>by
    obtain⟨j,hj⟩:=List.mem_iff_getElem?.1 hu;exact(g3 j u hj).1) (fun r hr=>by
    obtain⟨j,hj⟩:=List.mem_iff_getElem?.1 hr;exact(g8 j r hj).1) g5 g6
   repeat' first|refine st ?_|refine ob ?_|refine ob1 ?_|refine cT ?_|refine cF ?_|refine zC ?_|refine cX (fun _=>?_) fun _=>?_|refine zY (rfits_pur tc6 (by omega) hcb c0 g5 glen) ?_|fail
   · rename_i q1;rw [ef]at q1;exact bad11 (fun hb=>by have:=hb.1 i o c0;rw [q1]at this;cases this) _ _ htn6
   · rename_i q1;rw [ef]at q1
     exact⟨i+1,(by dsimp only;omega),(by repeat' first|exact trivial|refine⟨rfl,?_⟩),rfl,rfl,by omega,fun j y hj e=>by
      rcases Nat.lt_succ_iff_lt_or_eq.1 hj with h9|rfl
      · exact hno j y h9 e
      · rw[c0]at e;cases e;exact q1⟩
 obtain rfl:i=m.ops.length:=by omega
 have hfits:∀(j:Nat) o,m.ops[j]? = some o→fitsB m s.ns s.ps o=true:=fun j o e=>hno j o (List.getElem?_eq_some_iff.1 e).1 e;clear hno hi hlt;repeat' first|refine st ?_|refine ob ?_|refine ob1 ?_|refine cT ?_|refine cF ?_|refine zC ?_|refine cX (fun _=>?_) fun _=>?_|fail
 refine lpR (fun i:Nat=>[(1,ptr n 0),(4,ptr bt 0),(16,I64 i)]) (fun i h5 n5=>h5=h4∧n5=n4∧i≤kvs.length∧∀(a b:Nat) ca cb,a<i→a≤b→m.classes[a]? = some ca→m.classes[b]? = some cb→rPair s.ns s.ps ca cb=true) (fun i=>kvs.length - i) 0 (by repeat' first|exact trivial|refine⟨rfl,?_⟩) ⟨rfl,rfl,Nat.zero_le _,fun j _ _ _ hj=>absurd hj (Nat.not_lt_zero _)⟩ ?_
 rintro i t h5 n5 ⟨rfl,rfl,hi,hno⟩
 by_cases hlt:i<kvs.length
 · have c0:m.classes[i]? = some m.classes[i]:=List.getElem?_eq_getElem (by omega);generalize m.classes[i]=ca at c0
   repeat' first|refine st ?_|refine ob ?_|refine ob1 ?_|refine cT ?_|refine cF ?_|refine zC ?_|refine cX (fun _=>?_) fun _=>?_|fail
   refine lpR (fun q:Nat=>[(1,ptr n 0),(4,ptr bt 0),(16,I64 i),(17,I64 q)]) (fun q h6 n6=>h6=h5∧n6=n5∧i≤q∧q≤kvs.length∧∀(b:Nat) cb,i≤b→b<q→m.classes[b]? = some cb→rPair s.ns s.ps ca cb=true) (fun q=>kvs.length - q) i (by repeat' first|exact trivial|refine⟨rfl,?_⟩) ⟨rfl,rfl,Nat.le_refl _,by omega,fun b cb h8 h9=>by omega⟩ ?_
   rintro q t h6 n6 ⟨rfl,rfl,hq0,hq,hno2⟩
   by_cases hlt2:q<kvs.length
   · have d0:m.classes[q]? = some m.classes[q]:=List.getElem?_eq_getElem (by omega);generalize m.classes[q]=cb at d0
     repeat' first|refine st ?_|refine ob ?_|refine ob1 ?_|refine cT ?_|refine cF ?_|refine zC ?_|refine cX (fun _=>?_) fun _=>?_|refine zY (rpair_pur tc6 (by omega) c0 d0) ?_|fail
     · rename_i q1;refine bad11 (fun hb=>?_) _ _ htn6;have:=hb.2 q i cb ca hq0 d0 c0;rw [pairBB_comm,← pair_eq cs hpl c0 d0,q1]at this;cases this
     · rename_i q1
       exact⟨q+1,(by dsimp only;omega),(by repeat' first|exact trivial|refine⟨rfl,?_⟩),rfl,rfl,by omega,by omega,fun b cb' h8 h9 e=>by
        rcases Nat.lt_succ_iff_lt_or_eq.1 h9 with h9|rfl
        · exact hno2 b cb' h8 h9 e
        · rw[d0]at e;cases e;exact q1⟩
   · obtain rfl:q=kvs.length:=by omega
     repeat' first|refine st ?_|refine ob ?_|refine ob1 ?_|refine cT ?_|refine cF ?_|refine zC ?_|refine cX (fun _=>?_) fun _=>?_|fail
     exact⟨i+1,(by dsimp only;omega),(by repeat' first|exact trivial|refine⟨rfl,?_⟩),rfl,rfl,by omega,fun a b ca' cb h7 h8 e1 e2=>by
      rcases Nat.lt_succ_iff_lt_or_eq.1 h7 with h7|rfl
      · exact hno a b ca' cb h7 h8 e1 e2
      · rw[c0]at e1;cases e1;exact hno2 b cb h8 (by have:=(List.getElem?_eq_some_iff.1 e2).1;omega) e2⟩
 obtain rfl:i=kvs.length:=by omega
 have hspill:uA m s.ns s.ps:=⟨hfits,fun a b ca cb hba e1 e2=>by
  rw[pairBB_comm,← pair_eq cs hpl e2 e1];exact hno b a cb ca (by have:=(List.getElem?_eq_some_iff.1 e2).1;omega) hba e2 e1⟩
 repeat' first|refine st ?_|refine ob ?_|refine ob1 ?_|refine cT ?_|refine cF ?_|refine zC ?_|refine cX (fun _=>?_) fun _=>?_|fail
 exact⟨0,mke 0 (.inr ⟨hconv,.inr ⟨rfl,hspill⟩⟩),htn6,.inr ⟨rfl,bt,nsv,psv,kv,kvs,s,rfl,by omega,hg,hgo,⟨Tb.up tc6.tb (by omega),tc6.kr.up (by omega),tc6.kl,fun i c hc=>by
  obtain⟨v,g1,g2⟩:=tc6.ke i c hc;exact⟨v,g1,g2.up (by omega)⟩⟩,⟨hg,hne,hce,hoe,hconv,hspill,hnm⟩⟩⟩
end Go.Proofs.YtcmohelnoldfbaaGreat
namespace Go.Proofs.YtcmohelnoldfbaaGreat
open Go Go.Ex Go.Ex.M
set_option maxRecDepth 100000
set_option maxHeartbeats 8000000
theorem clone_cls{lo n len:Nat}{h:zB}{sv:Value}{vs:List Value}(r:Row lo h sv 36 2 len vs)(hlo:lo≤n)(h1:∀y∈vs,y.oneCell'=true)(hlim:len<1000000):Ret P 0 90 [sv] h n fun v h' n'=>OwnE n n' h' v 36 2 len vs∧Tch [] h n h' n':=by
 refine ent fun u=>?_;have r':=r;rcases r with⟨rfl,rfl,rfl⟩|⟨b,off,cap,m,z,kd,_,rfl,_⟩
 · repeat' first|refine st ?_|refine ob ?_|refine ob1 ?_|refine cT ?_|refine cF ?_|refine zC ?_|refine cX (fun _=>?_) fun _=>?_|fail
   exact⟨_,rfl,.inl Own.nil,zA⟩
 · repeat' first|refine st ?_|refine ob ?_|refine ob1 ?_|refine cT ?_|refine cF ?_|refine zC ?_|refine cX (fun _=>?_) fun _=>?_|fail
   refine appE (.inr ⟨mty_new (Nat.le_refl n),rfl,rfl⟩) ((r'.tch (S:=[]) zA hlo fun _ _ hx=>(by cases hx)).up (by omega)) (by omega) h1 (by omega) ?_
   rintro v' h2 n2 ho ht
   have ht2:Tch [] h n h2 n2:=Tch.tch ht zA fun x hx=>.inl (by
    have hx:x∈(some n).toList:=hx;simp at hx;omega)
   rw[Nat.zero_add,List.nil_append]at ho;repeat' first|refine st ?_|refine ob ?_|refine ob1 ?_|refine cT ?_|refine cF ?_|refine zC ?_|refine cX (fun _=>?_) fun _=>?_|fail
   exact⟨_,rfl,ho,ht2⟩
theorem clone_op{lo n len:Nat}{h:zB}{sv:Value}{vs:List Value}(r:Row lo h sv 72 6 len vs)(hlo:lo≤n)(h1:∀y∈vs,y.oneCell'=true)(hlim:len<1000000):Ret P 0 91 [sv] h n fun v h' n'=>OwnE n n' h' v 72 6 len vs∧Tch [] h n h' n':=by
 refine ent fun u=>?_;have r':=r;rcases r with⟨rfl,rfl,rfl⟩|⟨b,off,cap,m,z,kd,_,rfl,_⟩
 · repeat' first|refine st ?_|refine ob ?_|refine ob1 ?_|refine cT ?_|refine cF ?_|refine zC ?_|refine cX (fun _=>?_) fun _=>?_|fail
   exact⟨_,rfl,.inl Own.nil,zA⟩
 · repeat' first|refine st ?_|refine ob ?_|refine ob1 ?_|refine cT ?_|refine cF ?_|refine zC ?_|refine cX (fun _=>?_) fun _=>?_|fail
   refine appE (.inr ⟨mty_new (Nat.le_refl n),rfl,rfl⟩) ((r'.tch (S:=[]) zA hlo fun _ _ hx=>(by cases hx)).up (by omega)) (by omega) h1 (by omega) ?_
   rintro v' h2 n2 ho ht
   have ht2:Tch [] h n h2 n2:=Tch.tch ht zA fun x hx=>.inl (by
    have hx:x∈(some n).toList:=hx;simp at hx;omega)
   rw[Nat.zero_add,List.nil_append]at ho;repeat' first|refine st ?_|refine ob ?_|refine ob1 ?_|refine cT ?_|refine cF ?_|refine zC ?_|refine cX (fun _=>?_) fun _=>?_|fail
   exact⟨_,rfl,ho,ht2⟩
theorem clone_opr{lo n len:Nat}{h:zB}{sv:Value}{vs:List Value}(r:Row lo h sv 69 2 len vs)(hlo:lo≤n)(h1:∀y∈vs,y.oneCell'=true)(hlim:len<1000000):Ret P 0 93 [sv] h n fun v h' n'=>OwnE n n' h' v 69 2 len vs∧Tch [] h n h' n':=by
 refine ent fun u=>?_;have r':=r;rcases r with⟨rfl,rfl,rfl⟩|⟨b,off,cap,m,z,kd,_,rfl,_⟩
 · repeat' first|refine st ?_|refine ob ?_|refine ob1 ?_|refine cT ?_|refine cF ?_|refine zC ?_|refine cX (fun _=>?_) fun _=>?_|fail
   exact⟨_,rfl,.inl Own.nil,zA⟩
 · repeat' first|refine st ?_|refine ob ?_|refine ob1 ?_|refine cT ?_|refine cF ?_|refine zC ?_|refine cX (fun _=>?_) fun _=>?_|fail
   refine appE (.inr ⟨mty_new (Nat.le_refl n),rfl,rfl⟩) ((r'.tch (S:=[]) zA hlo fun _ _ hx=>(by cases hx)).up (by omega)) (by omega) h1 (by omega) ?_
   rintro v' h2 n2 ho ht
   have ht2:Tch [] h n h2 n2:=Tch.tch ht zA fun x hx=>.inl (by
    have hx:x∈(some n).toList:=hx;simp at hx;omega)
   rw[Nat.zero_add,List.nil_append]at ho;repeat' first|refine st ?_|refine ob ?_|refine ob1 ?_|refine cT ?_|refine cF ?_|refine zC ?_|refine cX (fun _=>?_) fun _=>?_|fail
   exact⟨_,rfl,ho,ht2⟩
theorem clone_reg{lo n len:Nat}{h:zB}{sv:Value}{vs:List Value}(r:Row lo h sv 102 4 len vs)(hlo:lo≤n)(h1:∀y∈vs,y.oneCell'=true)(hlim:len<1000000):Ret P 0 148 [sv] h n fun v h' n'=>OwnE n n' h' v 102 4 len vs∧Tch [] h n h' n':=by
 refine ent fun u=>?_;have r':=r;rcases r with⟨rfl,rfl,rfl⟩|⟨b,off,cap,m,z,kd,_,rfl,_⟩
 · repeat' first|refine st ?_|refine ob ?_|refine ob1 ?_|refine cT ?_|refine cF ?_|refine zC ?_|refine cX (fun _=>?_) fun _=>?_|fail
   exact⟨_,rfl,.inl Own.nil,zA⟩
 · repeat' first|refine st ?_|refine ob ?_|refine ob1 ?_|refine cT ?_|refine cF ?_|refine zC ?_|refine cX (fun _=>?_) fun _=>?_|fail
   refine appE (.inr ⟨mty_new (Nat.le_refl n),rfl,rfl⟩) ((r'.tch (S:=[]) zA hlo fun _ _ hx=>(by cases hx)).up (by omega)) (by omega) h1 (by omega) ?_
   rintro v' h2 n2 ho ht
   have ht2:Tch [] h n h2 n2:=Tch.tch ht zA fun x hx=>.inl (by
    have hx:x∈(some n).toList:=hx;simp at hx;omega)
   rw[Nat.zero_add,List.nil_append]at ho;repeat' first|refine st ?_|refine ob ?_|refine ob1 ?_|refine cT ?_|refine cF ?_|refine zC ?_|refine cX (fun _=>?_) fun _=>?_|fail
   exact⟨_,rfl,ho,ht2⟩
theorem clone_int{lo n len:Nat}{h:zB}{sv:Value}{vs:List Value}(r:Row lo h sv 3 1 len vs)(hlo:lo≤n)(h1:∀y∈vs,y.oneCell'=true)(hlim:len<1000000):Ret P 0 77 [sv] h n fun v h' n'=>OwnE n n' h' v 3 1 len vs∧Tch [] h n h' n':=by
 refine ent fun u=>?_;have r':=r;rcases r with⟨rfl,rfl,rfl⟩|⟨b,off,cap,m,z,kd,_,rfl,_⟩
 · repeat' first|refine st ?_|refine ob ?_|refine ob1 ?_|refine cT ?_|refine cF ?_|refine zC ?_|refine cX (fun _=>?_) fun _=>?_|fail
   exact⟨_,rfl,.inl Own.nil,zA⟩
 · repeat' first|refine st ?_|refine ob ?_|refine ob1 ?_|refine cT ?_|refine cF ?_|refine zC ?_|refine cX (fun _=>?_) fun _=>?_|fail
   refine appE (.inr ⟨mty_new (Nat.le_refl n),rfl,rfl⟩) ((r'.tch (S:=[]) zA hlo fun _ _ hx=>(by cases hx)).up (by omega)) (by omega) h1 (by omega) ?_
   rintro v' h2 n2 ho ht
   have ht2:Tch [] h n h2 n2:=Tch.tch ht zA fun x hx=>.inl (by
    have hx:x∈(some n).toList:=hx;simp at hx;omega)
   rw[Nat.zero_add,List.nil_append]at ho;repeat' first|refine st ?_|refine ob ?_|refine ob1 ?_|refine cT ?_|refine cF ?_|refine zC ?_|refine cX (fun _=>?_) fun _=>?_|fail
   exact⟨_,rfl,ho,ht2⟩
end Go.Proofs.YtcmohelnoldfbaaGreat
namespace Go.Ex
def Kep(lo n:Nat)(h:zB)(v:Value)(e sz len:Nat)(vs:List Value):Prop:=
 (v = .slice none 0 0∧len=0∧vs=[])∨∃b cap m,lo≤b∧b<n∧v = .slice (some ⟨b,0,none⟩) len cap∧xD (zF h b)=some (m,zc e sz,1)∧vs.length=len*sz∧vs.length≤m∧(∀i,i<vs.length→zD h b i=vs[i]?)∧((cap<inf∧len≤cap)∨cap=inf)
theorem Kep.row{lo n:Nat}{h:zB}{v:Value}{e sz len:Nat}{vs:List Value}(o:Kep lo n h v e sz len vs)(hs:1≤sz):Row n h v e sz len vs:=by
 rcases o with o|⟨b,cap,m,q1,q2,rfl,q3,q4,q5,q6,q7⟩
 · exact .inl o
 · exact .inr ⟨b,0,cap,m,zc e sz,1,q2,rfl,q4,q3,by omega,fun j x hj=>by rw[Nat.zero_add,q6 j (List.getElem?_eq_some_iff.1 hj).1];exact hj,q7.elim .inl fun e=>.inr ⟨e,rfl,rfl,hs⟩⟩
theorem Kep.tch{S:List Nat}{lo n n':Nat}{h h':zB}{v:Value}{e sz len:Nat}{vs:List Value}(o:Kep lo n h v e sz len vs)(t:Tch S h n h' n')(hS:∀b,zN v=some b→b∉S):Kep lo n' h' v e sz len vs:=by
 rcases o with o|⟨b,cap,m,q1,q2,rfl,q3,q4,q5,q6,q7⟩
 · exact .inl o
 · have ek:=t.2 b q2 (hS b rfl);exact .inr ⟨b,cap,m,q1,Nat.lt_of_lt_of_le q2 t.1,rfl,by rw[ek];exact q3,q4,q5,fun i hi=>by unfold zD;rw [ek];exact q6 i hi,q7⟩
theorem Kep.one{lo n:Nat}{h:zB}{v:Value}{e sz len:Nat}{vs:List Value}(o:Kep lo n h v e sz len vs):v.oneCell'=true:=by
 rcases o with⟨rfl,_⟩|⟨b,cap,m,q1,q2,rfl,_⟩ <;> rfl
theorem Kep.blk{lo n:Nat}{h:zB}{v:Value}{e sz len:Nat}{vs:List Value}(o:Kep lo n h v e sz len vs){b:Nat}(hb:zN v=some b):lo≤b∧b<n:=by
 rcases o with⟨rfl,_⟩|⟨b',cap,m,q1,q2,rfl,_⟩
 · cases hb
 · injection hb with hb;subst hb;exact⟨q1,q2⟩
theorem Kep.dnl{lo lo' n:Nat}{h:zB}{v:Value}{e sz len:Nat}{vs:List Value}(o:Kep lo n h v e sz len vs)(hl:lo'≤lo):Kep lo' n h v e sz len vs:=by
 rcases o with o|⟨b,cap,m,q1,q2⟩
 · exact .inl o
 · exact .inr ⟨b,cap,m,Nat.le_trans hl q1,q2⟩
theorem own_head{lo n:Nat}{h:zB}{v:Value}{e sz len:Nat}{vs:List Value}(o:Own lo n h v e sz len vs)(h0:0<len):∃b,v = .slice (some ⟨b,0,none⟩) len inf∧lo≤b∧b<n:=by
 rcases o with⟨_,rfl,_⟩|⟨b,q1,q2,rfl,_⟩
 · omega
 · exact⟨b,rfl,q1,q2⟩
theorem own_put{lo n i b cap:Nat}{h:zB}{v x:Value}{e sz len:Nat}{vs:List Value}(o:Own lo n h v e sz len vs)(hv:v = .slice (some ⟨b,0,none⟩) len cap)(hi:i<vs.length):Own lo n (hst h b i [x]) v e sz len (vs.set i x):=by
 rcases o with⟨rfl,_⟩|⟨b2,q1,q2,rfl,q3,q4,q5,q6⟩
 · cases hv
 injection hv with hv _ _
 injection hv with hv
 injection hv with hv _
 subst hv;refine .inr ⟨b2,q1,q2,rfl,by rw[xG,if_pos rfl,sV,List.length_set];exact q3,by rw[List.length_set];exact q4,q5,fun j=>?_⟩;unfold zD;rw [xG,if_pos rfl,cellOf_stC _ _ _ q3 (by simp;omega) (by decide)];by_cases e:i=j
 · subst e;rw [if_pos (by simp),Nat.sub_self,List.getElem?_set_self hi];rfl
 · rw[if_neg (by simp;omega),List.getElem?_set_ne e];exact q6 j
theorem stp_own{lo n i b cap:Nat}{h:zB}{v x:Value}{e sz len:Nat}{vs:List Value}(o:Own lo n h v e sz len vs)(hv:v = .slice (some ⟨b,0,none⟩) len cap)(hi:i<vs.length)(hx:x.oneCell'=true):StP h (ptr b i) [x] (hst h b i [x]):=by
 rcases o with⟨rfl,_⟩|⟨b2,q1,q2,rfl,q3,q4,q5,q6⟩
 · cases hv
 injection hv with hv _ _
 injection hv with hv
 injection hv with hv _
 subst hv;exact⟨b2,i,vs.length,zc e sz,1,rfl,q3,⟨by decide,by decide⟩,by simp;omega,fun y hy=>by simp at hy;subst hy;exact hx,rfl⟩
namespace M
def vP(ws:List Nat)(k:Nat):Bool:=((ws[k / 64]?).getD 0).testBit (k % 64)
structure SetW (ws:List Nat):Prop where
 lt:∀w∈ws,w<18446744073709551616
 tr:∀w,ws.getLast? = some w→w≠0
 le:ws.length≤1024
def tT(ws:List Nat):Nat→Nat
 | 0=>0
 | k+1=>if ws[k]? = some 0 then tT ws k else k+1
theorem trimN_le(ws:List Nat):∀k,tT ws k≤k:=by
 intro k
 induction k with
 | zero=>exact Nat.le_refl _
 | succ k ih=>
  unfold tT;split
  · omega
  · exact Nat.le_refl _
theorem trimN_zero(ws:List Nat):∀k j,tT ws k≤j→j<k→ws[j]? = some 0:=by
 intro k
 induction k with
 | zero=>intro j h1 h2;omega
 | succ k ih=>
  intro j h1 h2;unfold tT at h1;split at h1
  · rename_i h0;rcases Nat.lt_succ_iff_lt_or_eq.1 h2 with h9|rfl
    · exact ih j h1 h9
    · exact h0
  · omega
theorem trimN_last(ws:List Nat):∀k,0<tT ws k→ws[tT ws k - 1]?≠some 0:=by
 intro k
 induction k with
 | zero=>intro h;exact absurd h (Nat.lt_irrefl 0)
 | succ k ih=>
  unfold tT;split
  · exact ih
  · rename_i h0;intro _;exact h0
theorem trim_has(ws:List Nat)(k:Nat):vP (ws.take (tT ws ws.length)) k=vP ws k:=by
 unfold vP;rw [List.getElem?_take];split
 · rfl
 · rename_i h;rcases Nat.lt_or_ge (k / 64) ws.length with h9|h9
   · rw[trimN_zero ws ws.length (k / 64) (by omega) h9];simp
   · rw[List.getElem?_eq_none h9]
theorem trim_set{ws:List Nat}(h:∀w∈ws,w<18446744073709551616)(hl:ws.length≤1024):SetW (ws.take (tT ws ws.length)):=by
 have hle:=trimN_le ws ws.length;refine⟨fun w hw=>h w (List.mem_of_mem_take hw),fun w hw=>?_,by rw[List.length_take];omega⟩
 rintro rfl
 rw[List.getLast?_eq_getElem?,List.length_take,Nat.min_eq_left hle]at hw;have h1:=(List.getElem?_eq_some_iff.1 hw).1;rw [List.length_take]at h1;rw [List.getElem?_take_of_lt (by omega)]at hw;exact trimN_last ws ws.length (by omega) hw
theorem has_put{ws:List Nat}{a k:Nat}(ha:a / 64<ws.length):vP (ws.set (a / 64) (((ws[a / 64]?).getD 0) ||| 2 ^ (a % 64))) k=(vP ws k || decide (k=a)):=by
 unfold vP;rw [List.getElem?_set];split
 · rename_i e;rw [← e];show(((ws[a / 64]?).getD 0) ||| 2 ^ (a % 64)).testBit (k % 64)=_;rw [Nat.testBit_or,Nat.testBit_two_pow];congr 1
   refine decide_eq_decide.2 ⟨fun h=>?_,fun h=>by rw[h]⟩;have:=Nat.div_add_mod a 64;have:=Nat.div_add_mod k 64;omega
 · rename_i e;have:¬k=a:=fun h=>e (by rw[h]);rw [decide_eq_false this,Bool.or_false]
theorem has_grow{ws:List Nat}{k:Nat}:vP (ws++[0]) k=vP ws k:=by
 unfold vP;rcases Nat.lt_trichotomy (k / 64) ws.length with h|h|h
 · rw[List.getElem?_append_left h]
 · rw[List.getElem?_append_right (by omega),h,Nat.sub_self,List.getElem?_eq_none (Nat.le_refl _)];simp
 · rw[List.getElem?_eq_none (by simp;omega),List.getElem?_eq_none (by omega)]
theorem or_lt{a m:Nat}(ha:a<18446744073709551616)(hm:m<64):a ||| 2 ^ m<18446744073709551616:=by
 have h1:a<2 ^ 64:=ha;have h2:2 ^ m<2 ^ 64:=Nat.pow_lt_pow_right (by decide) hm;exact Nat.or_lt_two_pow h1 h2
def subW(a b:List Nat):List Nat:=(List.range (max a.length b.length)).map fun i=>(a[i]?).getD 0 ^^^ ((a[i]?).getD 0 &&& (b[i]?).getD 0)
theorem sub_has(a b:List Nat)(k:Nat):vP (subW a b) k=(vP a k && !vP b k):=by
 unfold vP subW;rw [List.getElem?_map];rcases Nat.lt_or_ge (k / 64) (max a.length b.length) with h|h
 · rw[List.getElem?_range h];show((a[k / 64]?).getD 0 ^^^ ((a[k / 64]?).getD 0 &&& (b[k / 64]?).getD 0)).testBit (k % 64)=_;rw [Nat.testBit_xor,Nat.testBit_and];cases ((a[k / 64]?).getD 0).testBit (k % 64) <;> cases ((b[k / 64]?).getD 0).testBit (k % 64) <;> rfl
 · rw[List.getElem?_eq_none (by simpa using h),List.getElem?_eq_none (l:=a) (by omega)];simp
theorem getD_lt{a:List Nat}(ha:∀w∈a,w<18446744073709551616)(i:Nat):(a[i]?).getD 0<18446744073709551616:=by
 cases e:a[i]? with
 | none=>exact(by decide:0<18446744073709551616)
 | some w=>exact ha w (List.mem_of_getElem? e)
theorem andn_lt{x y:Nat}(hx:x<18446744073709551616):x ^^^ (x &&& y)<18446744073709551616:=by
 have h1:x<2 ^ 64:=hx;exact Nat.xor_lt_two_pow h1 (Nat.lt_of_le_of_lt Nat.and_le_left h1)
theorem bit_has{w m:Nat}:(((w >>> m) &&& 1:Nat):Int)≠0↔w.testBit m=true:=by
 have e:w.testBit m=((w >>> m &&& 1) != 0):=by unfold Nat.testBit;rw [Nat.and_comm]
 rw[e];generalize (w >>> m &&& 1)=x
 rw[bne_iff_ne];omega
end M
end Go.Ex
namespace Go.Ex.M
def Sml:Nat→List RegT→Prop
 | 0,l=>l=[]
 | k+1,l=>l.length≤200∧∀r∈l,Sml k r.subs
theorem sml_of:∀(k:Nat) (d:Int) (base:Pl) (l:List RegT) (s s':GSt),d+k=7→yP (k+1) d base l s = .ok s'→s'.ns.length≤200→Sml k l:=by
 intro k
 induction k with
 | zero =>
  intro d base l s s' hd h _
  cases l with
  | nil=>rfl
  | cons r l=>
   unfold yP at h;rw [List.foldl_cons,gStep_e1 (gOne4 (by omega)),xY]at h;cases h
 | succ k ih =>
  intro d base l s s' hd h hle
  have go:∀(l:List RegT) (sibs:List Pl) (s:GSt) (x:List Pl×GSt),l.foldl (uJ (yP (k+1) (d+1)) d base) (.ok (sibs,s)) = .ok x→s.ns.length+l.length≤x.2.ns.length∧∀r∈l,∃p s1 s2,yP (k+1) (d+1) p r.subs s1 = .ok s2∧s2.ns.length≤x.2.ns.length:=by
   intro l
   induction l with
   | nil=>
    intro sibs s x h;injection h with h
    exact h ▸ ⟨Nat.le_refl _,fun r hr=>by cases hr⟩
   | cons r l ihl =>
    intro sibs s x h;rw [List.foldl_cons]at h
    cases hg:tR d base sibs s r with
    | error e=>rw [gStep_e1 hg,xY]at h;cases h
    | ok p =>
     cases hr:yP (k+1) (d+1) p r.subs ⟨s.ns++[r.name],s.ps++[p]⟩ with
     | error e=>rw [gStep_e2 hg hr,xY]at h;cases h
     | ok s2=>
      rw[gStep_ok hg hr]at h;have h1:(s.ns++[r.name]).length≤s2.ns.length:=gDown_ge _ _ _ _ _ _ hr;obtain⟨h2,h3⟩:=ihl _ _ _ h;rw [List.length_append]at h1;simp only[List.length_cons,List.length_nil]at h1 ⊢;refine⟨by omega,fun r' hr'=>?_⟩;rcases List.mem_cons.1 hr' with rfl|hr'
      · exact⟨p,_,s2,hr,by omega⟩
      · exact h3 r' hr'
  unfold yP at h
  cases hf:l.foldl (uJ (yP (k+1) (d+1)) d base) (.ok ([],s)) with
  | error e=>rw [hf]at h;cases h
  | ok x=>
   rw[hf]at h;injection h with h
   subst h;obtain⟨h1,h2⟩:=go l [] s x hf;refine⟨by omega,fun r hr=>?_⟩;obtain⟨p,s1,s2,h3,h4⟩:=h2 r hr;exact ih (d+1) p r.subs s1 s2 (by omega) h3 (by omega)
theorem geo_sml{l:List RegT}{s:GSt}(h:geoP l = .ok s):Sml 6 l:=sml_of 6 1 _ _ _ _ rfl h (geo_ok h).le
theorem flat_set{α : Type}{f: α→List Value}{sz:Nat}(hf:∀x,(f x).length=sz){v:Value}{x y: α}{j:Nat}(hj:j<sz)(hy:f y=(f x).set j v):∀{l:List α} {i:Nat},l[i]? = some x→(l.flatMap f).set (i*sz+j) v=(l.set i y).flatMap f:=by
 intro l
 induction l with
 | nil=>intro i h;cases h
 | cons a l ih =>
  intro i h
  cases i with
  | zero=>
   cases h
   rw[List.flatMap_cons,List.set_cons_zero,List.flatMap_cons,List.set_append_left _ _ (by rw[hf];omega),hy,Nat.zero_mul,Nat.zero_add]
  | succ i=>
   have h:l[i]? = some x:=h;rw [List.flatMap_cons,List.set_cons_succ,List.flatMap_cons,List.set_append_right _ _ (by rw[hf,Nat.succ_mul];omega),hf,← ih h];congr 2
   rw[Nat.succ_mul];omega
end Go.Ex.M
namespace Go.Proofs.YtcmohelnoldfbaaGreat
open Go Go.Ex Go.Ex.M
set_option maxRecDepth 100000
set_option maxHeartbeats 8000000
variable {lo bc z n:Nat} {h:zB} {m:MachT} {nsv psv:Value} {ns:List Tx} {ps:List Pl}
theorem ops_com(k:Ck lo h bc z m nsv psv ns ps)(hlo:lo≤n)(hcl:∀c∈m.classes,∃r0 rr,c.regs=r0::rr∧r0∈ns):Com P 0 86 [ptr bc 0] h n fun o h' n'=>∃e,o=outE e∧rB m ns ps e∧Tch [] h n h' n':=by
 have hbc:=k.hb;have hcel:=k.cel;have r:=k.mm.ops 0;refine ent fun u=>?_;by_cases h64:m.ops.length≤64
 · repeat' first|refine st ?_|refine ob ?_|refine ob1 ?_|refine cT ?_|refine cF ?_|refine zC ?_|refine cX (fun _=>?_) fun _=>?_|fail
   refine lpR (fun i:Nat=>[(0,ptr bc 0),(16,I64 m.ops.length),(17,I64 i)]) (fun i h' n'=>Tch [] h n h' n'∧i≤m.ops.length∧∀(j:Nat) c,j<i→m.ops[j]? = some c→opE m ns ps j c 0) (fun i=>m.ops.length - i) 0 ⟨rfl,rfl,rfl,trivial⟩ ⟨zA,Nat.zero_le _,fun j _ hj=>by omega⟩ ?_
   rintro i t h' n' ⟨ht,hi,hno⟩
   have hn':=ht.le;have k':=k.tch ht hlo;by_cases hlt:i<m.ops.length
   · have c0:m.ops[i]? = some m.ops[i]:=List.getElem?_eq_getElem hlt;repeat' first|refine st ?_|refine ob ?_|refine ob1 ?_|refine cT ?_|refine cF ?_|refine zC ?_|refine cX (fun _=>?_) fun _=>?_|fail
     refine cal (op_com k' (by omega) hcl c0) ?_
     rintro _ h2 n2 ⟨e,rfl,he,ht2⟩
     by_cases e0:e=0
     · subst e0;rw [show outE 0 = .ret (.tuple #[]) from rfl];repeat' first|refine st ?_|refine ob ?_|refine ob1 ?_|refine cT ?_|refine cF ?_|refine zC ?_|refine cX (fun _=>?_) fun _=>?_|fail
       exact⟨i+1,(by dsimp only;omega),(by repeat' first|exact trivial|refine⟨rfl,?_⟩),zA,by omega,rA c0 he hno⟩
     · rw[show outE e = .panic (tO e) from if_neg e0];repeat' first|refine st ?_|refine ob ?_|refine ob1 ?_|refine cT ?_|refine cF ?_|refine zC ?_|refine cX (fun _=>?_) fun _=>?_|fail
       exact⟨e,(if_neg e0).symm,.inr ⟨h64,tL c0 he e0 hno⟩,zA⟩
   · obtain rfl:i=m.ops.length:=by omega
     repeat' first|refine st ?_|refine ob ?_|refine ob1 ?_|refine cT ?_|refine cF ?_|refine zC ?_|refine cX (fun _=>?_) fun _=>?_|fail
     exact⟨0,rfl,.inr ⟨h64,first_all hno⟩,ht⟩
 · repeat' first|refine st ?_|refine ob ?_|refine ob1 ?_|refine cT ?_|refine cF ?_|refine zC ?_|refine cX (fun _=>?_) fun _=>?_|fail
   exact⟨2,rfl,.inl ⟨rfl,by omega⟩,zA⟩
end Go.Proofs.YtcmohelnoldfbaaGreat
namespace Go.Proofs.YtcmohelnoldfbaaGreat
open Go Go.Ex Go.Ex.M
set_option maxRecDepth 100000
set_option maxHeartbeats 8000000
variable {lo bc z n:Nat} {h:zB} {m:MachT} {nsv psv:Value} {ns:List Tx} {ps:List Pl}
theorem apart_com(k:Ck lo h bc z m nsv psv ns ps)(hlo:lo≤n){sv:Value}{l:List Tx}{most:Int}(rI:RowI lo h sv 1 l.length (l.map str))(hm:most≤64):Com P 0 143 [ptr bc 0,sv,I64 most] h n fun o h' n'=>Tch [] h n h' n'∧((o = .panic (tO 10)∧¬wK ns ps l most)∨∃v,o = .ret v∧wK ns ps l most∧Own n n' h' v ePl 3 l.length ((l.map (yG ns ps)).flatMap plC)):=by
 have hbc:=k.hb;have hcel:=k.cel;have r:=rI 0;have hns:=k.hn;refine ent fun u=>?_;by_cases h64:(l.length:Nat)≤most
 · repeat' first|refine st ?_|refine ob ?_|refine ob1 ?_|refine cT ?_|refine cF ?_|refine zC ?_|refine cX (fun _=>?_) fun _=>?_|fail
   refine lpR (α :=Nat×Value) (fun a=>[(0,ptr bc 0),(7,a.2),(18,sv),(19,I64 l.length),(20,I64 a.1)]) (fun a h' n'=>Tch [] h n h' n'∧a.1≤l.length∧Own n n' h' a.2 ePl 3 a.1 (((l.take a.1).map (yG ns ps)).flatMap plC)∧∀(j:Nat) c,j<a.1→l[j]? = some c→apOK ns ps l j c) (fun a=>l.length - a.1) (0,.slice none 0 0) ⟨rfl,rfl,rfl,rfl,rfl,trivial⟩ ⟨zA,Nat.zero_le _,Own.nil,fun j _ hj=>absurd hj (Nat.not_lt_zero _)⟩ ?_
   rintro ⟨i,ov⟩ t h' n' ⟨ht,hi,ho,hno⟩
   dsimp only at hi ho hno ⊢;have hn':=ht.le;have k':=k.tch ht hlo;have hcel':=k'.cel;have rp':=k'.rp;have r':=(rI.tch ht hlo) 0;have ro:=ho.row (by decide);by_cases hlt:i<l.length
   · have c0:l[i]? = some l[i]:=List.getElem?_eq_getElem hlt;generalize l[i]=x at c0
     have c1:=yX r' c0;have bad:¬apOK ns ps l i x→¬wK ns ps l most:=fun hb hr=>hb (hr.2 i x c0);repeat' first|refine st ?_|refine ob ?_|refine ob1 ?_|refine cT ?_|refine cF ?_|refine zC ?_|refine cX (fun _=>?_) fun _=>?_|refine regK k' (fun _ _ _ _ _ _=>?_) (fun _=>?_)|fail
     · rename_i f1 f2 f3 f4 f5 f6;have hpl:=f5;refine lpR (fun q:Nat=>[(0,ptr bc 0),(7,ov),(18,sv),(19,I64 l.length),(20,I64 i),(10,ptr n' 0),(33,ov),(34,I64 i),(35,I64 q)]) (fun q h2 n2=>Tch [] h n h2 n2∧n'<n2∧Cel h2 n' (ePl+1) 0 (plC (yG ns ps x))∧Own n n2 h2 ov ePl 3 i (((l.take i).map (yG ns ps)).flatMap plC)∧q≤i∧∀(j:Nat) y,j<q→l[j]? = some y→tJ (yG ns ps x) (yG ns ps y)=false) (fun q=>i - q) 0 (by repeat' first|exact trivial|refine⟨rfl,?_⟩) ⟨zA,by omega,zE,ho.tch (S:=[]) zA (by simp),Nat.zero_le _,fun j _ hj=>absurd hj (Nat.not_lt_zero _)⟩ ?_
       rintro q t h2 n2 ⟨ht2,hn2,hc2,ho2,hq,hno2⟩
       have hn3:=ht2.le;have ro2:=ho2.row (by decide);by_cases hlt2:q<i
       · have d0:l[q]? = some l[q]:=List.getElem?_eq_getElem (by omega);generalize l[q]=y at d0
         have hy:y∈ns:=(hno q y hlt2 d0).1;have d1:=zM ro2 (el_at d0 hlt2);have oky:PlOK (yG ns ps y):=k.ok _ (plc_mem hy k.hl);repeat' first|refine st ?_|refine ob ?_|refine ob1 ?_|refine cT ?_|refine cF ?_|refine zC ?_|refine cX (fun _=>?_) fun _=>?_|refine zY (lap_pur _ _ hpl oky _ _) ?_|fail
         · rename_i g1
           exact⟨q+1,(by dsimp only;omega),(by repeat' first|exact trivial|refine⟨rfl,?_⟩),zA,by omega,zV,ho2.tch (S:=[]) zA (by simp),by omega,fun j z hj e=>by
            rcases Nat.lt_succ_iff_lt_or_eq.1 hj with h9|rfl
            · exact hno2 j z h9 e
            · rw[d0]at e;cases e;exact g1⟩
         · rename_i g1;exact⟨zA,.inl ⟨rfl,bad fun hb=>by rw[hb.2 q y hlt2 d0]at g1;cases g1⟩⟩
       · obtain rfl:q=i:=by omega
         repeat' first|refine st ?_|refine ob ?_|refine ob1 ?_|refine cT ?_|refine cF ?_|refine zC ?_|refine cX (fun _=>?_) fun _=>?_|fail
         refine appO (ho2.tch (S:=[]) zA (by simp)) (zS (e:=ePl) (sz:=3) (len:=1) rfl (by decide)) (by omega) ⟨rfl,rfl,rfl,trivial⟩ (by omega) ?_
         rintro v' h3 n3 ho3 ht3
         have ht4:Tch [] h n h3 n3:=Tch.tch ht3 zA fun x hx=>.inl (zZ ho2 x hx);repeat' first|refine st ?_|refine ob ?_|refine ob1 ?_|refine cT ?_|refine cF ?_|refine zC ?_|refine cX (fun _=>?_) fun _=>?_|fail
         exact⟨(q+1,v'),(by dsimp only;omega),(by repeat' first|exact trivial|refine⟨rfl,?_⟩),ht4,by omega,by rw[xN c0,List.map_append,List.flatMap_append];exact ho3,fun j z hj e=>by
          rcases Nat.lt_succ_iff_lt_or_eq.1 hj with h9|rfl
          · exact hno j z h9 e
          · rw[c0]at e;cases e;exact⟨f1,hno2⟩⟩
     · rename_i f1;exact⟨ht,.inl ⟨rfl,bad fun hb=>f1 hb.1⟩⟩
   · obtain rfl:i=l.length:=by omega
     repeat' first|refine st ?_|refine ob ?_|refine ob1 ?_|refine cT ?_|refine cF ?_|refine zC ?_|refine cX (fun _=>?_) fun _=>?_|fail
     exact⟨ht,.inr ⟨ov,rfl,⟨h64,fun j y e=>hno j y (List.getElem?_eq_some_iff.1 e).1 e⟩,by rwa [List.take_length]at ho⟩⟩
 · repeat' first|refine st ?_|refine ob ?_|refine ob1 ?_|refine cT ?_|refine cF ?_|refine zC ?_|refine cX (fun _=>?_) fun _=>?_|fail
   exact⟨zA,.inl ⟨rfl,fun hb=>h64 hb.1⟩⟩
end Go.Proofs.YtcmohelnoldfbaaGreat
namespace Go.Proofs.YtcmohelnoldfbaaGreat
open Go Go.Ex Go.Ex.M
set_option maxRecDepth 100000
set_option maxHeartbeats 8000000
theorem clone_str{lo n len:Nat}{h:zB}{sv:Value}{vs:List Value}(r:Row lo h sv rD 1 len vs)(hlo:lo≤n)(h1:∀y∈vs,y.oneCell'=true)(hlim:len<1000000):Ret P 0 92 [sv] h n fun v h' n'=>OwnE n n' h' v rD 1 len vs∧Tch [] h n h' n':=by
 refine ent fun u=>?_;have r':=r;rcases r with⟨rfl,rfl,rfl⟩|⟨b,off,cap,m,z,kd,_,rfl,_⟩
 · repeat' first|refine st ?_|refine ob ?_|refine ob1 ?_|refine cT ?_|refine cF ?_|refine zC ?_|refine cX (fun _=>?_) fun _=>?_|fail
   exact⟨_,rfl,.inl Own.nil,zA⟩
 · repeat' first|refine st ?_|refine ob ?_|refine ob1 ?_|refine cT ?_|refine cF ?_|refine zC ?_|refine cX (fun _=>?_) fun _=>?_|fail
   refine appE (.inr ⟨mty_new (Nat.le_refl n),rfl,rfl⟩) ((r'.tch (S:=[]) zA hlo fun _ _ hx=>(by cases hx)).up (by omega)) (by omega) h1 (by omega) ?_
   rintro v' h2 n2 ho ht
   have ht2:Tch [] h n h2 n2:=Tch.tch ht zA fun x hx=>.inl (by
    have hx:x∈(some n).toList:=hx;simp at hx;omega)
   rw[Nat.zero_add,List.nil_append]at ho;repeat' first|refine st ?_|refine ob ?_|refine ob1 ?_|refine cT ?_|refine cF ?_|refine zC ?_|refine cX (fun _=>?_) fun _=>?_|fail
   exact⟨_,rfl,ho,ht2⟩
theorem str_one(l:List Tx):∀y∈l.map str,y.oneCell'=true:=fun y hy=>by obtain⟨z,_,rfl⟩:=List.mem_map.1 hy;rfl
variable {lo bc z n:Nat} {h:zB} {m:MachT} {nsv psv:Value} {ns:List Tx} {ps:List Pl}
theorem conv1_pur{b6:Nat}{x:Tx}{c:ClassT}(rI:RowI lo h c.rsv 1 c.regs.length (c.regs.map str))(hlo:lo≤n)(hb:b6<n)(hc:zD h b6 0=some (str x)):Pur P 0 144 [.agg ⟨clsC c⟩,ptr b6 0] h n (.bool (decide (x∈c.regs))):=by
 have hl:=rI.lt;have hinf:inf<4611686018427387904:=by decide
 have ro:=(rI 0).one;refine Com.pure (ent fun u=>?_) (.inl rfl);repeat' first|refine st ?_|refine ob ?_|refine ob1 ?_|refine cT ?_|refine cF ?_|refine zC ?_|refine cX (fun _=>?_) fun _=>?_|refine zY (sF (RowI.tchE rI zA hlo) (by omega)) ?_|fail
 exact finT rfl zA
theorem contf_cls{lo e n:Nat}{h:zB}{sv:Value}{l:List ClassT}{g:FuncId}{fs cs:List Value}{p:ClassT→Bool}(r:Row lo h sv e 2 l.length (l.flatMap clsC))(hl:l.length<inf)(hp:∀x∈l,Pur P 0 g (fs++([.agg ⟨clsC x⟩]++cs)) h n (.bool (p x))):Pur P 0 145 [sv,.func (.func g) ⟨fs⟩ ⟨cs⟩] h n (.bool (l.any p)):=by
 refine ent fun u=>?_;repeat' first|refine st ?_|refine ob ?_|refine ob1 ?_|refine cT ?_|refine cF ?_|refine zC ?_|refine cX (fun _=>?_) fun _=>?_|refine zY (idxf_cls r hl hp) ?_|fail
 exact fin (by rw[show decide (0≤posF p l)=l.any p from by cases h9:l.any p with
  | true=>exact decide_eq_true (posF_ge.2 h9)
  | false=>exact decide_eq_false fun h=>by rw[posF_ge.1 h]at h9;cases h9])
theorem conv_com(k:Ck lo h bc z m nsv psv ns ps)(hlo:lo≤n):Com P 0 87 [ptr bc 0] h n fun o h' n'=>∃e,o=outE e∧((e=0∧sG m ns ps (wK ns ps))∨(e=10∧¬sG m ns ps (wK ns ps)))∧Tch [] h n h' n':=by
 have hbc:=k.hb;have hcel:=k.cel;have hns:=k.hn;have bad:¬sG m ns ps (wK ns ps)→∀h2 n2,Tch [] h n h2 n2→∃e,Out.panic (tO 10)=outE e∧((e=0∧sG m ns ps (wK ns ps))∨(e=10∧¬sG m ns ps (wK ns ps)))∧Tch [] h n h2 n2:=fun hb h2 n2 t2=>⟨10,rfl,.inr ⟨rfl,hb⟩,t2⟩;refine ent fun u=>?_;repeat' first|refine st ?_|refine ob ?_|refine ob1 ?_|refine cT ?_|refine cF ?_|refine zC ?_|refine cX (fun _=>?_) fun _=>?_|fail
 refine cal (apart_com k hlo k.mm.args (by decide)) ?_
 rintro _ h2 n2 ⟨ht2,⟨rfl,hb⟩|⟨v,rfl,hargs,ho⟩⟩
 · repeat' first|refine st ?_|refine ob ?_|refine ob1 ?_|refine cT ?_|refine cF ?_|refine zC ?_|refine cX (fun _=>?_) fun _=>?_|fail
   exact bad (fun hc=>hb hc.1) _ _ ht2
 have hn2:=ht2.le;have k2:=k.tch ht2 hlo;have hcel2:=k2.cel;have rp2:=k2.rp;repeat' first|refine st ?_|refine ob ?_|refine ob1 ?_|refine cT ?_|refine cF ?_|refine zC ?_|refine cX (fun _=>?_) fun _=>?_|refine regK k2 (fun _ _ _ _ _ _=>?_) (fun _=>?_)|fail
 · rename_i f1 f2 f3 f4 f5 f6;refine cal (apart_com (Ck.tch k2 zA (by omega)) (by omega) (RowI.tch k2.mm.saved zA (by omega)) (by decide)) ?_
   rintro _ h3 n3 ⟨ht3,⟨rfl,hb⟩|⟨v3,rfl,hsav,ho3⟩⟩
   · repeat' first|refine st ?_|refine ob ?_|refine ob1 ?_|refine cT ?_|refine cF ?_|refine zC ?_|refine cX (fun _=>?_) fun _=>?_|fail
     exact bad (fun hc=>hb hc.2.2.1) _ _ zA
   have hn3:=ht3.le;have hc3:Cel h3 n2 (ePl+1) 0 (plC (yG ns ps m.result)):=zE;have ht4:Tch [] h n h3 n3:=zA;have r3:=ho3.row (by decide);clear ht3;repeat' first|refine st ?_|refine ob ?_|refine ob1 ?_|refine cT ?_|refine cF ?_|refine zC ?_|refine cX (fun _=>?_) fun _=>?_|fail
   refine lpR (fun q:Nat=>[(0,ptr bc 0),(2,ptr n2 0),(34,v3),(35,I64 m.saved.length),(36,I64 q)]) (fun q h4 n4=>Tch [] h n h4 n4∧n2<n4∧Cel h4 n2 (ePl+1) 0 (plC (yG ns ps m.result))∧Own (n2+1) n4 h4 v3 ePl 3 m.saved.length ((m.saved.map (yG ns ps)).flatMap plC)∧q≤m.saved.length∧∀(j:Nat) y,j<q→m.saved[j]? = some y→tJ (yG ns ps y) (yG ns ps m.result)=false) (fun q=>m.saved.length - q) 0 (by repeat' first|exact trivial|refine⟨rfl,?_⟩) ⟨ht4,by omega,hc3,ho3,Nat.zero_le _,fun j _ hj=>absurd hj (Nat.not_lt_zero _)⟩ ?_;clear hc3 ht4 r3 ho3 hn3
   rintro q t h4 n4 ⟨ht4,hn4,hc4,ho4,hq,hno⟩
   have hn5:=ht4.le;have r4:=ho4.row (by decide);have sl:=k.mm.saved.lt;have hinf:inf<4611686018427387904:=by decide
   by_cases hlt:q<m.saved.length
   · have d0:m.saved[q]? = some m.saved[q]:=List.getElem?_eq_getElem hlt;generalize m.saved[q]=y at d0
     have hy:y∈ns:=(hsav.2 q y d0).1;have d1:=zM r4 (show(m.saved.map (yG ns ps))[q]? = some (yG ns ps y) by rw[List.getElem?_map,d0];rfl);have oky:PlOK (yG ns ps y):=k.ok _ (plc_mem hy k.hl);repeat' first|refine st ?_|refine ob ?_|refine ob1 ?_|refine cT ?_|refine cF ?_|refine zC ?_|refine cX (fun _=>?_) fun _=>?_|refine zY (lap_pur _ _ oky f5 _ _) ?_|fail
     · rename_i g1
       exact⟨q+1,(by dsimp only;omega),(by repeat' first|exact trivial|refine⟨rfl,?_⟩),zA,by omega,zV,ho4.tch (S:=[]) zA (by simp),by omega,fun j z hj e=>by
        rcases Nat.lt_succ_iff_lt_or_eq.1 hj with h9|rfl
        · exact hno j z h9 e
        · rw[d0]at e;cases e;exact g1⟩
     · rename_i g1;exact bad (fun hc=>by rw[hc.2.2.2.1 q y d0]at g1;cases g1) _ _ zA
   · obtain rfl:q=m.saved.length:=by omega
     have k4:=k.tch ht4 hlo;have hcel4:=k4.cel;have ra4:Row lo h4 m.asv rD 1 m.args.length (m.args.map str):=k4.mm.args rD;have hal:=hargs.1;repeat' first|refine st ?_|refine ob ?_|refine ob1 ?_|refine cT ?_|refine cF ?_|refine zC ?_|refine cX (fun _=>?_) fun _=>?_|fail
     · rename_i s1 s2;refine vR (clone_str ra4 (by omega) (str_one _) (by omega)) ?_
       rintro v5 h5 n5 ⟨ho5,ht5⟩
       have hn6:=ht5.le;repeat' first|refine st ?_|refine ob ?_|refine ob1 ?_|refine cT ?_|refine cF ?_|refine zC ?_|refine cX (fun _=>?_) fun _=>?_|fail
       refine appE (ho5.tch (S:=[]) zA (by simp)) (zS (e:=rD) (sz:=1) (len:=1) rfl (by decide)) (by omega) (str_one [m.result]) (by omega) ?_
       rintro v6 h6 n6 ho6 ht6
       have ht7:Tch [] h n h6 n6:=Tch.tch ht6 zA fun x hx=>.inl (by have:=ho5.low x hx;omega);have hn7:=ht6.le;replace ho6:OwnE n4 n6 h6 v6 rD 1 (m.args.length+1) ((m.args++[m.result]).map str):=by rw[List.map_append];exact ho6
       have r6:=ho6.row (by decide);have hlen:(m.args++[m.result]).length=m.args.length+1:=by simp
       generalize m.args.length+1=len at *
       have hlen2:len≤17:=by have:=hargs.1;simp at hlen;omega
       have allb:∀{q:Nat} {y:Tx},(m.args++[m.result])[q]? = some y→¬m.classes.any (fun c=>decide (y∈c.regs))=true→¬sG m ns ps (wK ns ps):=fun hd hb hc=>hb (hc.2.2.2.2.2.2 _ _ hd);have hcel5:Cel h5 bc z 0 (yO m++[nsv,psv]):=hcel4.tch ht5 (by omega) (by simp);have hcel6:Cel h6 bc z 0 (yO m++[nsv,psv]):=hcel.tch ht7 (by omega) (by simp);clear ht6 ho5 ht5;repeat' first|refine st ?_|refine ob ?_|refine ob1 ?_|refine cT ?_|refine cF ?_|refine zC ?_|refine cX (fun _=>?_) fun _=>?_|fail
       refine lpR (fun q:Nat=>[(0,ptr bc 0),(73,v6),(74,I64 len),(75,I64 q)]) (fun q h7 n7=>Tch [] h n h7 n7∧n4≤n7∧OwnE n4 n7 h7 v6 rD 1 len ((m.args++[m.result]).map str)∧q≤len∧∀(j:Nat) y,j<q→(m.args++[m.result])[j]? = some y→m.classes.any (fun c=>decide (y∈c.regs))=true) (fun q=>len - q) 0 (by repeat' first|exact trivial|refine⟨rfl,?_⟩) ⟨ht7,by omega,ho6,Nat.zero_le _,fun j _ hj=>absurd hj (Nat.not_lt_zero _)⟩ ?_
       rintro q t h7 n7 ⟨hta,hna,hoa,hqa,hnoa⟩
       have hna2:=hta.le;have ra:=hoa.row (by decide);have ka:=k.tch hta hlo;have hcela:=ka.cel;by_cases hlta:q<len
       · have d0:(m.args++[m.result])[q]? = some (m.args++[m.result])[q]:=List.getElem?_eq_getElem (by omega);generalize (m.args++[m.result])[q]=y at d0
         have d1:=yX ra d0;repeat' first|refine st ?_|refine ob ?_|refine ob1 ?_|refine cT ?_|refine cF ?_|refine zC ?_|refine cX (fun _=>?_) fun _=>?_|fail
         refine zY (contf_cls (p:=fun c=>decide (y∈c.regs)) (RowI.tchE ka.mm.cls zA (by omega)) ka.mm.cls.lt (fun c hc=>conv1_pur (RowI.tch (ka.mm.clsr c hc) zA (by omega)) (by omega) (by omega) zL)) ?_;repeat' first|refine st ?_|refine ob ?_|refine ob1 ?_|refine cT ?_|refine cF ?_|refine zC ?_|refine cX (fun _=>?_) fun _=>?_|fail
         · rename_i g1
           exact⟨q+1,(by dsimp only;omega),(by repeat' first|exact trivial|refine⟨rfl,?_⟩),zA,by omega,hoa.tch (S:=[]) zA (by simp),by omega,fun j z hj e=>by
            rcases Nat.lt_succ_iff_lt_or_eq.1 hj with h9|rfl
            · exact hnoa j z h9 e
            · rw[d0]at e;cases e;exact g1⟩
         · rename_i g1;exact bad (allb d0 (by rw[g1];decide)) _ _ zA
       · obtain rfl:q=len:=by omega
         repeat' first|refine st ?_|refine ob ?_|refine ob1 ?_|refine cT ?_|refine cF ?_|refine zC ?_|refine cX (fun _=>?_) fun _=>?_|fail
         exact⟨0,rfl,.inl ⟨rfl,hargs,f1,hsav,fun i x e=>hno i x (List.getElem?_eq_some_iff.1 e).1 e,s1,s2,fun i x e=>hnoa i x (by have:=(List.getElem?_eq_some_iff.1 e).1;omega) e⟩,hta⟩
     · rename_i s2;exact bad (fun hc=>s2 hc.2.2.2.2.2.1) _ _ ht4
     · rename_i s2;exact bad (fun hc=>s2 hc.2.2.2.2.1) _ _ ht4
 · rename_i f1;exact bad (fun hc=>f1 hc.2.1) _ _ ht2
end Go.Proofs.YtcmohelnoldfbaaGreat
namespace Go.Proofs.YtcmohelnoldfbaaGreat
open Go Go.Ex Go.Ex.M
set_option maxRecDepth 100000
set_option maxHeartbeats 8000000
variable {lo bc z n:Nat} {h:zB} {m:MachT} {nsv psv:Value} {ns:List Tx} {ps:List Pl}
theorem may1_com{pc po L:Nat}{o:OperT}{c:ClassT}{i:Nat}(hcls:vM m o.cls=some c)(hci:m.classes[i]? = some c)(hcp:yT m o.cls=(i:Nat))(hcr:∀r∈c.regs,r∈ns)(J:List Pl→zB→Nat→Prop)(JF:zB→Nat→Prop)
(hE:∀done h' n',J done h' n'→Ck lo h' bc z m nsv psv ns ps∧lo≤n'∧pc<n'∧po<n'∧zD h' pc 0=some (ptr bc 0)∧zD h' po 0=some (str o.cls)∧zD h' po 1=some (str o.fix))(h0:J [] h n)
(hy:∀done p h' n',J done h' n'→(done++[p]) <+: uS m ns ps o→Rou P 0 L [plV p] h' n' fun r h2 n2=>n'≤n2∧((r = .ret (.bool true)∧J (done++[p]) h2 n2)∨(r = .ret (.bool false)∧JF h2 n2))) :
 Com P 0 208 [.func (.yield L) #[] #[],ptr pc 0,ptr po 0] h n fun r h' n'=>r = .ret (.tuple #[])∧(J (uS m ns ps o) h' n'∨JF h' n'):=by
 have hL:uS m ns ps o=(c.regs.filter (mayF o)).map (yG ns ps):=by unfold uS;rw [hcls]
 have hilt:i<m.classes.length:=(List.getElem?_eq_some_iff.1 hci).1;have hcm:=List.mem_of_getElem? hci;obtain⟨k,hlo,hpc,hpo,d1,d2,d3⟩:=hE _ _ _ h0;have hinf:inf<4611686018427387904:=by decide
 have hbc:=k.hb;have hcel:=k.cel;have r:=k.mm.cls 0;have e2:=xP (zM r hci) (j:=1) rfl;have rcI:=k.mm.clsr c hcm;have rc:=rcI 0;have hrl:=rcI.lt;have hrl2:=r.low (by omega);refine ent fun u=>?_;repeat' first|refine st ?_|refine ob ?_|refine ob1 ?_|refine cT ?_|refine cF ?_|refine zC ?_|refine cX (fun _=>?_) fun _=>?_|refine zY (class_purE k hlo _ hcp) ?_|fail
 refine lpR (fun q:Nat=>[(0,.func (.yield L) #[] #[]),(1,ptr pc 0),(2,ptr po 0),(17,c.rsv),(18,I64 c.regs.length),(19,I64 q)]) (fun q h' n'=>q≤c.regs.length∧J (((c.regs.take q).filter (mayF o)).map (yG ns ps)) h' n') (fun q=>c.regs.length - q) 0 (by repeat' first|exact trivial|refine⟨rfl,?_⟩) ⟨Nat.zero_le _,h0⟩ ?_;clear hcel k d1 d2 d3 hlo hpc hpo e2 r rc hrl2
 rintro q t h' n' ⟨hq,hJ⟩
 obtain⟨k,hlo,hpc,hpo,d1,d2,d3⟩:=hE _ _ _ hJ;have hcel:=k.cel;have rc:=k.mm.clsr c hcm 0;have rp:=k.rp;by_cases hlt:q<c.regs.length
 · have c0:c.regs[q]? = some c.regs[q]:=List.getElem?_eq_getElem hlt;generalize c.regs[q]=x at c0
   have hx:x∈ns:=hcr x (List.mem_of_getElem? c0);have c1:=yX rc c0;have st1:=may_step (o:=o) (f:=yG ns ps) c0;repeat' first|refine st ?_|refine ob ?_|refine ob1 ?_|refine cT ?_|refine cF ?_|refine zC ?_|refine cX (fun _=>?_) fun _=>?_|refine regP k hx (fun _ _ _ _ _=>?_)|fail
   · rename_i f1 _ _ _ _ _;have hf:mayF o x=true:=by unfold mayF;rw [f1];rfl
     rw[hf,if_pos rfl]at st1;refine inv_yield (fs:=[]) (cs:=[]) ((hy _ _ _ _ hJ (by rw[hL,← st1];exact may_pre)).mono ?_)
     rintro _ h2 n2 ⟨hn2,⟨rfl,hJ2⟩|⟨rfl,hF⟩⟩
     · repeat' first|refine st ?_|refine ob ?_|refine ob1 ?_|refine cT ?_|refine cF ?_|refine zC ?_|refine cX (fun _=>?_) fun _=>?_|fail
       exact⟨q+1,(by dsimp only;omega),(by repeat' first|exact trivial|refine⟨rfl,?_⟩),by omega,by rw[st1];exact hJ2⟩
     · repeat' first|refine st ?_|refine ob ?_|refine ob1 ?_|refine cT ?_|refine cF ?_|refine zC ?_|refine cX (fun _=>?_) fun _=>?_|fail
       exact⟨rfl,.inr hF⟩
   · rename_i f0 f1 _ _ _ _ _;have hf:mayF o x=true:=by unfold mayF;rw [f1];simp
     rw[hf,if_pos rfl]at st1;refine inv_yield (fs:=[]) (cs:=[]) ((hy _ _ _ _ hJ (by rw[hL,← st1];exact may_pre)).mono ?_)
     rintro _ h2 n2 ⟨hn2,⟨rfl,hJ2⟩|⟨rfl,hF⟩⟩
     · repeat' first|refine st ?_|refine ob ?_|refine ob1 ?_|refine cT ?_|refine cF ?_|refine zC ?_|refine cX (fun _=>?_) fun _=>?_|fail
       exact⟨q+1,(by dsimp only;omega),(by repeat' first|exact trivial|refine⟨rfl,?_⟩),by omega,by rw[st1];exact hJ2⟩
     · repeat' first|refine st ?_|refine ob ?_|refine ob1 ?_|refine cT ?_|refine cF ?_|refine zC ?_|refine cX (fun _=>?_) fun _=>?_|fail
       exact⟨rfl,.inr hF⟩
   · rename_i f0 f1;have hf:mayF o x=false:=by unfold mayF;simp [f0,f1]
     rw[hf]at st1;exact⟨q+1,(by dsimp only;omega),(by repeat' first|exact trivial|refine⟨rfl,?_⟩),by omega,by rw[st1];exact hJ⟩
 · obtain rfl:q=c.regs.length:=by omega
   repeat' first|refine st ?_|refine ob ?_|refine ob1 ?_|refine cT ?_|refine cF ?_|refine zC ?_|refine cX (fun _=>?_) fun _=>?_|fail
   rw[List.take_length,← hL]at hJ;exact⟨rfl,.inl hJ⟩
def MayE(lo bc z:Nat)(m:MachT)(nsv psv:Value)(ns:List Tx)(ps:List Pl)(o:OperT)(pc po:Nat)(h':zB)(n':Nat):Prop:=Ck lo h' bc z m nsv psv ns ps∧lo≤n'∧pc<n'∧po<n'∧zD h' pc 0=some (ptr bc 0)∧zD h' po 0=some (str o.cls)∧zD h' po 1=some (str o.fix)
theorem may1_it{pc po L:Nat}{o:OperT}{c:ClassT}{i:Nat}(hcls:vM m o.cls=some c)(hci:m.classes[i]? = some c)(hcp:yT m o.cls=(i:Nat))(hcr:∀r∈c.regs,r∈ns):Iter P 0 plV (uS m ns ps o) 208 [.func (.yield L) #[] #[],ptr pc 0,ptr po 0] L h n (MayE lo bc z m nsv psv ns ps o pc po):=
 fun J JF hE h0 hy=>may1_com hcls hci hcp hcr J JF hE h0 hy
theorem may_ret(k:bc<n)(o:OperT):Ret P 0 186 [ptr bc 0,.agg ⟨oprC o⟩] h n fun v h' n'=>∃pc po,v = .func (.func 208) ⟨[]⟩ ⟨[ptr pc 0,ptr po 0]⟩∧n≤pc∧n≤po∧pc<n'∧po<n'∧zD h' pc 0=some (ptr bc 0)∧zD h' po 0=some (str o.cls)∧zD h' po 1=some (str o.fix)∧Tch [] h n h' n':=by
 refine ent fun u=>?_;repeat' first|refine st ?_|refine ob ?_|refine ob1 ?_|refine cT ?_|refine cF ?_|refine zC ?_|refine cX (fun _=>?_) fun _=>?_|fail
 exact⟨_,rfl,n,n+1,rfl,by omega,by omega,by omega,by omega,zL,zL,zL,zA⟩
end Go.Proofs.YtcmohelnoldfbaaGreat
namespace Go.Proofs.YtcmohelnoldfbaaGreat
open Go Go.Ex Go.Ex.M
set_option maxRecDepth 100000
set_option maxHeartbeats 8000000
variable {lo bc z n:Nat} {h:zB} {m:MachT} {nsv psv:Value} {ns:List Tx} {ps:List Pl}
abbrev opA(c:ClassT):OperT:=⟨c.name,[]⟩
def pairB(m:MachT)(ns:List Tx)(ps:List Pl)(a b:OperT):Prop:=∃p∈uS m ns ps a,∃q∈uS m ns ps b,tJ p q=false
theorem pair_ret(k:Ck lo h bc z m nsv psv ns ps)(hlo:lo≤n)(hok:∀(i:Nat) c,m.classes[i]? = some c→yT m c.name=(i:Nat)∧∀r∈c.regs,r∈ns){a b:Nat}{ca cb:ClassT}(ha:m.classes[a]? = some ca)(hb:m.classes[b]? = some cb):Com P 0 147 [ptr bc 0,I64 (a:Nat),I64 (b:Nat)] h n fun o h' n'=>∃r,o = .ret (.bool r)∧(r=true↔pairB m ns ps (opA ca) (opA cb))∧Tch [] h n h' n':=by
 have hbc:=k.hb;have hcel:=k.cel;have r:=k.mm.cls 0;have hla:=(List.getElem?_eq_some_iff.1 ha).1;have hbl:=(List.getElem?_eq_some_iff.1 hb).1;have a1:=zM r ha;have b1:=zM r hb;have a2:=xP a1 (j:=0) rfl;have b2:=xP b1 (j:=0) rfl;have hl1:=r.low (by omega)
 have cf:∀{i:Nat} {c:ClassT},m.classes[i]? = some c→vM m c.name=some c∧yT m c.name=(i:Nat):=fun {i c} hi=>by
  have h1:=(hok i c hi).1;rcases wE (m:=m) (x:=c.name) with⟨_,h3⟩|⟨j,c',h2,h3,h4,h5,h6⟩
  · rw[h1]at h3;omega
  · have:j=i:=by rw[h1]at h4;omega
    subst this;rw [hi]at h3;cases h3;exact⟨h2,h4⟩
 have mok:∀{o:OperT} {p:Pl},p∈uS m ns ps o→PlOK p:=fun {o p} hp=>by
  unfold uS at hp
  cases hc:vM m o.cls with
  | none=>rw [hc]at hp;cases hp
  | some c=>
   rw[hc]at hp;obtain⟨x,hx,rfl⟩:=List.mem_map.1 hp;obtain⟨i,hi⟩:=List.mem_iff_getElem?.1 (List.mem_of_find?_eq_some hc);exact k.ok _ (plc_mem ((hok i c hi).2 x (List.mem_filter.1 hx).1) k.hl)
 refine ent fun u=>?_;repeat' first|refine st ?_|refine ob ?_|refine ob1 ?_|refine cT ?_|refine cF ?_|refine zC ?_|refine cX (fun _=>?_) fun _=>?_|fail
 refine vR (may_ret (by omega) (opA ca)) ?_
 rintro _ h2 n2 ⟨pc,po,rfl,p1,p2,p3,p4,p5,p6,p7,ht2⟩
 have hn2:=ht2.le;obtain⟨ka1,ka2⟩:=cf ha;obtain⟨kb1,kb2⟩:=cf hb;repeat' first|refine st ?_|refine ob ?_|refine ob1 ?_|refine cT ?_|refine cF ?_|refine zC ?_|refine cX (fun _=>?_) fun _=>?_|fail
 have base:Tch [] h n (hal h2 n2 (.deferred true)) (n2+1):=zA;have g3:zD h2 n 0=some (ptr bc 0):=zL;have g5:zD h2 (n+1) 0=some (I64 (b:Nat)):=zL;have g6:Cel h2 (n+2) (4+1) 0 [.bool false]:=zE;clear ht2;refine wc_rg0 (g:=208) (fs:=[]) (cs:=[ptr pc 0,ptr po 0]) (by(apply sE;((conv=>lhs;whnf) <;> exact rfl))) ?_
 refine it_core (enc:=plV) (elems:=uS m ns ps (opA ca)) (ps:=[21]) (fun done h' n'=>Tch [] (hal h2 n2 (.deferred true)) (n2+1) h' n'∧n2+2≤n'∧∀p∈done,∀q∈uS m ns ps (opA cb),tJ p q=true)
  (fun j h' n'=>j = .ret∧Tch [n+2] (hal h2 n2 (.deferred true)) (n2+1) h' n'∧n2+2≤n'∧Cel h' (n+2) (4+1) 0 [.bool true]∧pairB m ns ps (opA ca) (opA cb)) rfl (may1_it (lo:=lo) (bc:=bc) (z:=z) (nsv:=nsv) (psv:=psv) ka1 ha ka2 (hok a ca ha).2) ?_ sJ ⟨zA,by omega,fun p hp=>by cases hp⟩ ?_ ?_ ?_
 · rintro done h' n' ⟨ht,hn',_⟩
   exact⟨k.tch (Tch.tch ht base (by simp)) hlo,by omega,by omega,by omega,zL,zL,zL⟩
 · rintro done p h' n' ⟨ht,hn',hno⟩ hL hpre
   have hpm:p∈uS m ns ps (opA ca):=hpre.subset (by simp);have g3':zD h' n 0=some (ptr bc 0):=zL;have g5':zD h' (n+1) 0=some (I64 (b:Nat)):=zL;have g6':Cel h' (n+2) (4+1) 0 [.bool false]:=zV;have k':=k.tch (Tch.tch ht base (by simp)) hlo;have hcel':=k'.cel;have r':=k'.mm.cls 0;have b1':=zM r' hb;have b2':=xP b1' (j:=0) rfl;repeat' first|refine st ?_|refine ob ?_|refine ob1 ?_|refine cT ?_|refine cF ?_|refine zC ?_|refine cX (fun _=>?_) fun _=>?_|fail
   refine vR (may_ret (by omega) (opA cb)) ?_
   rintro _ h4 n4 ⟨pc2,po2,rfl,q1,q2,q3,q4,q5,q6,q7,ht4⟩
   have hn4:=ht4.le;repeat' first|refine st ?_|refine ob ?_|refine ob1 ?_|refine cT ?_|refine cF ?_|refine zC ?_|refine cX (fun _=>?_) fun _=>?_|fail
   have c7:Cel h4 n' (ePl+1) 0 (plC p):=zE;have g6'':Cel h4 (n+2) (4+1) 0 [.bool false]:=zV;have ht5:Tch [] (hal h2 n2 (.deferred true)) (n2+1) h4 n4:=zA;have hbu:=obe_tch ht4 (by omega) (by simp) xS;clear ht4;refine wc_rg1 (g:=208) (fs:=[]) (cs:=[ptr pc2 0,ptr po2 0]) hbu (by(apply sE;((conv=>lhs;whnf) <;> exact rfl))) ?_
   refine it_core (enc:=plV) (elems:=uS m ns ps (opA cb)) (ps:=[34]) (fun done h5 n5=>Tch [] h4 n4 h5 n5∧n4+1≤n5∧∀q∈done,tJ p q=true)
    (fun j h5 n5=>j = .ret∧Tch [n+2] h4 n4 h5 n5∧n4+1≤n5∧Cel h5 (n+2) (4+1) 0 [.bool true]∧∃q∈uS m ns ps (opA cb),tJ p q=false) rfl (may1_it (lo:=lo) (bc:=bc) (z:=z) (nsv:=nsv) (psv:=psv) kb1 hb kb2 (hok b cb hb).2) ?_ sJ ⟨zA,by omega,fun p hp=>by cases hp⟩ ?_ ?_ ?_
   · rintro done2 h5 n5 ⟨ht6,hn5,_⟩
     exact⟨k.tch (Tch.tch (Tch.tch ht6 ht5 (by simp)) base (by simp)) hlo,by omega,by omega,by omega,zL,zL,zL⟩
   · rintro done2 q h5 n5 ⟨ht6,hn5,hno2⟩ hL2 hpre2
     have hqm:q∈uS m ns ps (opA cb):=hpre2.subset (by simp);repeat' first|refine st ?_|refine ob ?_|refine ob1 ?_|refine cT ?_|refine cF ?_|refine zC ?_|refine cX (fun _=>?_) fun _=>?_|refine zY (lap_pur _ _ (mok hpm) (mok hqm) _ _) ?_|fail
     · rename_i f1;exact⟨by omega,.inr ⟨rfl,.ret,xS,rfl,zA,by omega,zE,q,hqm,f1⟩⟩
     · rename_i f1
       exact⟨by omega,.inl ⟨rfl,xS,zA,by omega,fun x hx=>by
        rcases List.mem_append.1 hx with h9|h9
        · exact hno2 x h9
        · simp at h9;subst h9;exact f1⟩⟩
   · rintro h5 n5 ⟨ht6,hn5,hno2⟩
     repeat' first|refine st ?_|refine ob ?_|refine ob1 ?_|refine cT ?_|refine cF ?_|refine zC ?_|refine cX (fun _=>?_) fun _=>?_|fail
     exact⟨by omega,.inl ⟨rfl,xS,zA,by omega,fun x hx=>by
      rcases List.mem_append.1 hx with h9|h9
      · exact hno x h9
      · simp at h9;subst h9;exact hno2⟩⟩
   · rintro _ h5 n5 ⟨rfl,ht6,hn5,hc2,hp2⟩
     repeat' first|refine st ?_|refine ob ?_|refine ob1 ?_|refine cT ?_|refine cF ?_|refine zC ?_|refine cX (fun _=>?_) fun _=>?_|fail
     exact⟨by omega,.inr ⟨rfl,.ret,xS,rfl,zA,by omega,zV,p,hpm,hp2⟩⟩
 · rintro h' n' ⟨ht,hn',hno⟩
   repeat' first|refine st ?_|refine ob ?_|refine ob1 ?_|refine cT ?_|refine cF ?_|refine zC ?_|refine cX (fun _=>?_) fun _=>?_|fail
   exact⟨false,rfl,⟨Bool.noConfusion,fun⟨p,hp,q,hq,e⟩=>by rw[hno p hp q hq]at e;cases e⟩,zA⟩
 · rintro _ h' n' ⟨rfl,ht,hn',hc,hp⟩
   repeat' first|refine st ?_|refine ob ?_|refine ob1 ?_|refine cT ?_|refine cF ?_|refine zC ?_|refine cX (fun _=>?_) fun _=>?_|fail
   exact⟨true,rfl,⟨fun _=>hp,fun _=>rfl⟩,zA⟩
theorem pair_pur(k:Ck lo h bc z m nsv psv ns ps)(hlo:lo≤n)(hok:∀(i:Nat) c,m.classes[i]? = some c→yT m c.name=(i:Nat)∧∀r∈c.regs,r∈ns){a b:Nat}{ca cb:ClassT}(ha:m.classes[a]? = some ca)(hb:m.classes[b]? = some cb):Pur P 0 147 [ptr bc 0,I64 (a:Nat),I64 (b:Nat)] h n (.bool (rC m ns ps (opA ca) (opA cb))):=by
 refine Com.pure ((pair_ret k hlo hok ha hb).mono fun o h' n' ⟨r,e,hr,t⟩=>⟨?_,t⟩) (.inl rfl);rw [e]
 have e2:rC m ns ps (opA ca) (opA cb)=true↔pairB m ns ps (opA ca) (opA cb):=by
  unfold rC pairB;simp [List.any_eq_true]
 congr 2
 exact Bool.eq_iff_iff.2 (hr.trans e2.symm)
theorem spared_pur(k:Ck lo h bc z m nsv psv ns ps)(hlo:lo≤n){o:OpT}(hm:o∈m.ops)(hc:∀r∈o.clob,r∈ns){p:Pl}(hp:PlOK p):Pur P 0 207 [ptr bc 0,.agg ⟨opC o⟩,plV p] h n (.bool (sparB ns ps o p)):=by
 have hbc:=k.hb;have rI:=k.mm.opsc o hm;have ru1:=(k.mm.opsu o hm 0).one;have rc1:=(rI 0).one;have hl:=rI.lt;have hinf:inf<4611686018427387904:=by decide
 have rc:Row lo h o.csv 0 1 o.clob.length (o.clob.map str):=rI 0;refine Com.pure (ent fun u=>?_) (.inl rfl);repeat' first|refine st ?_|refine ob ?_|refine ob1 ?_|refine cT ?_|refine cF ?_|refine zC ?_|refine cX (fun _=>?_) fun _=>?_|fail
 refine lpR (fun q:Nat=>[(0,ptr bc 0),(5,ptr (n+1) 0),(10,o.csv),(11,I64 o.clob.length),(12,I64 q)]) (fun q h' n'=>Tch [] h n h' n'∧n+2≤n'∧Cel h' (n+1) (ePl+1) 0 (plC p)∧q≤o.clob.length∧∀(j:Nat) r,j<q→o.clob[j]? = some r→tJ p (yG ns ps r)=false) (fun q=>o.clob.length - q) 0 (by repeat' first|exact trivial|refine⟨rfl,?_⟩) ⟨zA,by omega,zE,Nat.zero_le _,fun j _ hj=>absurd hj (Nat.not_lt_zero _)⟩ ?_
 rintro q t h' n' ⟨ht,hn',hc5,hq,hno⟩
 have k':=k.tch ht hlo;have hcel':=k'.cel;have rp':=k'.rp;have rc':=k'.mm.opsc o hm 0;by_cases hlt:q<o.clob.length
 · have c0:o.clob[q]? = some o.clob[q]:=List.getElem?_eq_getElem hlt;generalize o.clob[q]=x at c0
   have c1:=yX rc' c0;have hx:x∈ns:=hc x (List.mem_of_getElem? c0);have okx:PlOK (yG ns ps x):=k.ok _ (plc_mem hx k.hl);repeat' first|refine st ?_|refine ob ?_|refine ob1 ?_|refine cT ?_|refine cF ?_|refine zC ?_|refine cX (fun _=>?_) fun _=>?_|refine regP k' hx (fun _ _ _ _ _=>?_)|refine zY (lap_pur _ _ hp okx _ _) ?_|fail
   · rename_i f1;exact finT (by unfold sparB;rw [all_false c0 (by rw[f1];rfl)]) ht
   · rename_i f1
     exact⟨q+1,(by dsimp only;omega),(by repeat' first|exact trivial|refine⟨rfl,?_⟩),ht,hn',hc5,by omega,fun j y hj e=>by
      rcases Nat.lt_succ_iff_lt_or_eq.1 hj with h9|rfl
      · exact hno j y h9 e
      · rw[c0]at e;cases e;exact f1⟩
 · obtain rfl:q=o.clob.length:=by omega
   repeat' first|refine st ?_|refine ob ?_|refine ob1 ?_|refine cT ?_|refine cF ?_|refine zC ?_|refine cX (fun _=>?_) fun _=>?_|fail
   exact finT (by unfold sparB;rw [all_true fun i x hi e=>by rw[hno i x hi e];rfl]) ht
end Go.Proofs.YtcmohelnoldfbaaGreat
namespace Go.Proofs.YtcmohelnoldfbaaGreat
open Go Go.Ex Go.Ex.M
set_option maxRecDepth 100000
set_option maxHeartbeats 8000000
variable {lo bc z n:Nat} {h:zB} {m:MachT} {nsv psv:Value} {ns:List Tx} {ps:List Pl}
theorem may_ok(k:Ck lo h bc z m nsv psv ns ps)(hok:∀(i:Nat) c,m.classes[i]? = some c→yT m c.name=(i:Nat)∧∀r∈c.regs,r∈ns){o:OperT}{p:Pl}(hp:p∈uS m ns ps o):PlOK p:=by
 unfold uS at hp
 cases hc:vM m o.cls with
 | none=>rw [hc]at hp;cases hp
 | some c=>
  rw[hc]at hp;obtain⟨x,hx,rfl⟩:=List.mem_map.1 hp;obtain⟨i,hi⟩:=List.mem_iff_getElem?.1 (List.mem_of_find?_eq_some hc);exact k.ok _ (plc_mem ((hok i c hi).2 x (List.mem_filter.1 hx).1) k.hl)
theorem def_pur(k:Ck lo h bc z m nsv psv ns ps)(hlo:lo≤n)(hok:∀(i:Nat) c,m.classes[i]? = some c→yT m c.name=(i:Nat)∧∀r∈c.regs,r∈ns){o:OpT}(hm:o∈m.ops)(hc:∀r∈o.clob,r∈ns){c:ClassT}{i:Nat}(hd1:vM m o.d.cls=some c)(hd2:m.classes[i]? = some c)(hd3:yT m o.d.cls=(i:Nat))
{lo2:Nat}{uv:Value}{uses:List Pl}(ru:Row lo2 h uv ePl 3 uses.length (uses.flatMap plC))(hlo2:lo2≤n)(hut:o.tie<uses.length)(huo:∀p∈uses,PlOK p)(hul:uses.length<1000):Pur P 0 185 [ptr bc 0,.agg ⟨opC o⟩,uv] h n (.bool (defB m ns ps o uses)):=by
 have hbc:=k.hb;have ru1:=(k.mm.opsu o hm 0).one;have rc1:=(k.mm.opsc o hm 0).one;have rul:=ru.low;refine Com.pure (ent fun u=>?_) (.inl rfl);by_cases htie:0≤o.tie
 · have htl:o.tie.toNat<uses.length:=by omega
   have d0:uses[o.tie.toNat]? = some uses[o.tie.toNat]:=List.getElem?_eq_getElem htl;have e0:defB m ns ps o uses=sparB ns ps o uses[o.tie.toNat]:=by unfold defB;rw [if_pos htie,List.getD_eq_getElem?_getD,d0];rfl
   generalize uses[o.tie.toNat]=x at d0 e0
   have okx:PlOK x:=huo x (List.mem_of_getElem? d0);have d1:=zM ru d0;have hl2:=ru.low (by omega);have y0:zD h (sbk uv) (sof uv+o.tie.toNat*3)=some (I64 x.root):=xP d1 (j:=0) rfl;have y1:zD h (sbk uv) (sof uv+o.tie.toNat*3+1)=some (I64 x.at_):=xP d1 (j:=1) rfl;have y2:zD h (sbk uv) (sof uv+o.tie.toNat*3+1+1)=some (I64 x.width):=xP d1 (j:=2) rfl;repeat' first|refine st ?_|refine ob ?_|refine ob1 ?_|refine cT ?_|refine cF ?_|refine zC ?_|refine cX (fun _=>?_) fun _=>?_|refine zY (spared_pur (Ck.tch k zA hlo) (by omega) hm hc okx) ?_|fail
   exact finT (by rw[e0]) zA
 · have e0:defB m ns ps o uses=(uS m ns ps o.d).any (sparB ns ps o):=by unfold defB;rw [if_neg htie]
   repeat' first|refine st ?_|refine ob ?_|refine ob1 ?_|refine cT ?_|refine cF ?_|refine zC ?_|refine cX (fun _=>?_) fun _=>?_|fail
   refine vR (may_ret (by omega) o.d) ?_
   rintro _ h2 n2 ⟨pc,po,rfl,p1,p2,p3,p4,p5,p6,p7,ht2⟩
   have hn2:=ht2.le;have g3:zD h2 n 0=some (ptr bc 0):=zL;have g4:Cel h2 (n+1) (72+1) 0 (opC o):=zE;have g6:Cel h2 (n+2) (4+1) 0 [.bool false]:=zE;have base:Tch [] h n (hal h2 n2 (.deferred true)) (n2+1):=zA;clear ht2;repeat' first|refine st ?_|refine ob ?_|refine ob1 ?_|refine cT ?_|refine cF ?_|refine zC ?_|refine cX (fun _=>?_) fun _=>?_|fail
   refine wc_rg0 (g:=208) (fs:=[]) (cs:=[ptr pc 0,ptr po 0]) (by(apply sE;((conv=>lhs;whnf) <;> exact rfl))) ?_
   refine it_core (enc:=plV) (elems:=uS m ns ps o.d) (ps:=[23]) (fun done h' n'=>Tch [] (hal h2 n2 (.deferred true)) (n2+1) h' n'∧n2+2≤n'∧∀p∈done,sparB ns ps o p=false)
    (fun j h' n'=>j = .ret∧Tch [n+2] (hal h2 n2 (.deferred true)) (n2+1) h' n'∧n2+2≤n'∧Cel h' (n+2) (4+1) 0 [.bool true]∧∃p∈uS m ns ps o.d,sparB ns ps o p=true) rfl (may1_it (lo:=lo) (bc:=bc) (z:=z) (nsv:=nsv) (psv:=psv) hd1 hd2 hd3 (hok i c hd2).2) ?_ sJ ⟨zA,by omega,fun p hp=>by cases hp⟩ ?_ ?_ ?_
   · rintro done h' n' ⟨ht,hn',_⟩
     exact⟨k.tch (Tch.tch ht base (by simp)) hlo,by omega,by omega,by omega,zL,zL,zL⟩
   · rintro done p h' n' ⟨ht,hn',hno⟩ hL hpre
     have hpm:p∈uS m ns ps o.d:=hpre.subset (by simp);have k':=k.tch (Tch.tch ht base (by simp)) hlo;have g3':zD h' n 0=some (ptr bc 0):=zL;have g4':Cel h' (n+1) (72+1) 0 (opC o):=zV;have g6':Cel h' (n+2) (4+1) 0 [.bool false]:=zV;repeat' first|refine st ?_|refine ob ?_|refine ob1 ?_|refine cT ?_|refine cF ?_|refine zC ?_|refine cX (fun _=>?_) fun _=>?_|refine zY (spared_pur (Ck.tch k' zA (by omega)) (by omega) hm hc (may_ok k hok hpm)) ?_|fail
     · rename_i f1;exact⟨by omega,.inr ⟨rfl,.ret,xS,rfl,zA,by omega,zE,p,hpm,f1⟩⟩
     · rename_i f1
       exact⟨by omega,.inl ⟨rfl,xS,zA,by omega,fun x hx=>by
        rcases List.mem_append.1 hx with h9|h9
        · exact hno x h9
        · simp at h9;subst h9;exact f1⟩⟩
   · rintro h' n' ⟨ht,hn',hno⟩
     repeat' first|refine st ?_|refine ob ?_|refine ob1 ?_|refine cT ?_|refine cF ?_|refine zC ?_|refine cX (fun _=>?_) fun _=>?_|fail
     exact finT (by rw[e0];congr 1;cases e:(uS m ns ps o.d).any (sparB ns ps o) with
      | false=>rfl
      | true=>
       obtain⟨p,hp,e2⟩:=List.any_eq_true.1 e;rw [hno p hp]at e2;cases e2) zA
   · rintro _ h' n' ⟨rfl,ht,hn',hc,p,hp,e2⟩
     repeat' first|refine st ?_|refine ob ?_|refine ob1 ?_|refine cT ?_|refine cF ?_|refine zC ?_|refine cX (fun _=>?_) fun _=>?_|fail
     exact finT (by rw[e0,List.any_eq_true.2 ⟨p,hp,e2⟩]) zA
end Go.Proofs.YtcmohelnoldfbaaGreat
