/- What the law leans on: an executor of the model that is sound, deduction over it, and the walks through the code (part 17 of 18). Conditions: those that each theorem states. -/
import Derived.Test.YtmccnilgnlaffaaGreatDoorMachTiesx16
import Derived.Shelf.Strings.Builder1
import Derived.Shelf.Strings.Builder2
import Derived.Shelf.Strings.OnBuilder
import Derived.Shelf.Small.Wraps
import Derived.Shelf.Utf8.RuneCount
import Derived.Shelf.Strconv.Atoi
import Derived.Shelf.Strconv.Itoa0
import Derived.Shelf.Strconv.Itoa1
import Derived.Shelf.LaysM
import Derived.Shelf.Strconv.Itoa2
import Derived.Shelf.Strconv.Itoa3
import Derived.Shelf.Strings.Search1
import Derived.Shelf.Strings.Search2
import Derived.Shelf.Strings.Search3
import Derived.Shelf.Strings.Cut
import Derived.Shelf.Strings.Count
import Derived.Shelf.Strings.Shaped
import Derived.Shelf.Strings.Prefix
import Derived.Shelf.Strings.Split
import Derived.Shelf.Strings.SplitShaped
import Derived.Shelf.Unicode.Decode
import Derived.Shelf.Strings.RuneCount
import Derived.Shelf.Strings.Explode
import Derived.Shelf.Unicode.DecodeSlow
import Derived.Shelf.Unicode.DecodeAny
import Derived.Ground.Names2Prog
import Derived.Shelf.Slices.Clone
import Derived.Ground.SlgnProg
import Derived.Shelf.SlicesE.Clone
import Derived.Test.YtmccnilgnlaffaaGreatDoorProg
import Derived.Test.YtmccnilgnlaffaaGreatDoorRows
import Derived.KernelRfl
import Derived.Lib.AppendIntMem
import Derived.Lib.AtoiErrMem
import Derived.WalkSmall

set_option linter.unusedVariables false
set_option linter.unusedSimpArgs false
namespace Go.Proofs.YtmccnilgnlaffaaGreatDoor
open Go Go.Ex Go.Ex.M
set_option maxRecDepth 100000
set_option maxHeartbeats 8000000
attribute [local simp] xV
variable {n:Nat} {h:zB}
theorem dig_cut{q:Nat}(hq:q<10):wB P h 9 (str [48,49,50,51,52,53,54,55,56,57]) (some (I64 (q:Nat))) (some (I64 ((q:Nat)+1))) none=some (str [UInt8.ofNat (48+q)]):=by
 have:q=0∨q=1∨q=2∨q=3∨q=4∨q=5∨q=6∨q=7∨q=8∨q=9:=by omega
 rcases this with rfl|rfl|rfl|rfl|rfl|rfl|rfl|rfl|rfl|rfl <;> (show _=_;kernel_rfl)
theorem bs_add{P:Program}{ty:Nat}{ox oy:Operand}{a b:List UInt8}(h:a.length+b.length<1000000):Bn P .add ty ox oy (str a) (str b) (str (a++b)):=by
 show cond (Nat.blt (Nat.add a.length b.length) 1000000) (some (str (a++b))) none=_;rw [yU (show Nat.add a.length b.length<1000000 from h)];rfl
theorem bn_quo10{P:Program}{ty:Nat}{ox oy:Operand}{a:Nat}(h:(a:Int)<9223372036854775808):Bn P .quo ty ox oy (I64 (a:Nat)) (I64 10) (I64 ((a / 10:Nat):Int)):=by
 unfold Bn;rw [binI];show cond (ieqB 10 0) none (some (Value.int .i64 (vF .i64 (Int.tdiv (a:Nat) 10))))=_;rw [xL];show some (Value.int .i64 (vF .i64 (Int.tdiv (a:Nat) 10)))=_
 have e:Int.tdiv ((a:Nat):Int) 10=((a / 10:Nat):Int):=by
  rw[show(10:Int)=((10:Nat):Int) from rfl,Int.ofNat_tdiv]
 rw[e,wrap_in ⟨by omega,by omega⟩]
theorem bn_rem10{P:Program}{ty:Nat}{ox oy:Operand}{a:Nat}:Bn P .rem ty ox oy (I64 (a:Nat)) (I64 10) (I64 ((a % 10:Nat):Int)):=by
 unfold Bn;rw [binI];show cond (ieqB 10 0) none (some (Value.int .i64 (Int.tmod (a:Nat) 10)))=_;rw [xL];show some (Value.int .i64 (Int.tmod (a:Nat) 10))=_
 have e:Int.tmod ((a:Nat):Int) 10=((a % 10:Nat):Int):=by
  rw[show(10:Int)=((10:Nat):Int) from rfl,Int.ofNat_tmod]
 rw[e]
abbrev eReg:Nat:=52
abbrev sl0(b len:Nat):Value:=.slice (some ⟨b,0,none⟩) len len
theorem cel_row{b z kd len sz e:Nat}{cs:List Value}(c:Cel h b z kd cs)(hb:b<n)(hl:cs.length=len*sz)(hlt:len<inf):Row n h (sl0 b len) e sz len cs:=
 .inr ⟨b,0,len,cs.length,z,kd,hb,rfl,hl,c.1,by omega,fun j x hj=>by rw[Nat.zero_add];exact(c.2 j).trans hj,.inl ⟨hlt,Nat.le_refl _⟩⟩
abbrev smV(rv cv:Value)(b:Nat):SmV:=⟨rv,sl0 b 1,cv,sl0 (b+1+1+1+1+1) 3,sl0 (b+1+1) 2,sl0 (b+1+1+1) 1,sl0 (b+1+1+1+1) 2,sl0 (b+1+1+1+1+1+1) 1⟩
structure SmF (lo n:Nat) (h:zB) (rv cv:Value) (N b:Nat) (tie:Int) (fx:Tx):Prop where
 hb:lo≤b∧b+7≤n
 hN:N≤40
 rr:Own lo n h rv eReg 4 N ((smR N).flatMap regC)
 cr:Own lo n h cv sK 1 N ((smN N).map str)
 k0:Cel h b 0 0 [str [103],cv]
 k2:Cel h (b+1+1) 0 0 [str [103],str [],str [103],str []]
 k3:Cel h (b+1+1+1) 0 0 [str [103],str []]
 k4:Cel h (b+1+1+1+1) 0 0 [str [103],str [],str [103],str fx]
 k5:Cel h (b+1+1+1+1+1) 0 0 ((smM (smV rv cv b) N tie fx).ops.flatMap opC)
 k6:Cel h (b+1+1+1+1+1+1) 0 0 [str (nam 0)]
theorem SmF.mach{lo N b:Nat}{rv cv:Value}{tie:Int}{fx:Tx}(k:SmF lo n h rv cv N b tie fx):MachM n h (smM (smV rv cv b) N tie fx):=by
 obtain⟨hlo,hbn⟩:=k.hb;have hN:=k.hN;have hinf:1000<inf:=by decide
 have l1:(smR N).length=N:=by unfold smR;rw [List.length_map,List.length_range]
 have l2:(smN N).length=N:=smN_len;refine⟨?_,fun e=>cel_row k.k0 (by omega) rfl (by decide),fun c hc=>?_,fun e=>cel_row k.k5 (by omega) rfl (by decide),fun o ho e=>?_,fun o ho e=>?_,fun e=>cel_row k.k6 (by omega) rfl (by decide),fun e=>.inl ⟨rfl,rfl,rfl⟩,by show Go64 100;exact⟨by decide,by decide⟩⟩
 · unfold RegsM;refine⟨⟨by rw[l1];omega,by rw[l1];exact k.rr.row (by decide)⟩,fun r hr=>?_⟩;obtain⟨i,_,rfl⟩:=List.mem_map.1 hr;show RegsM n h tO [];unfold RegsM;exact⟨⟨by decide,.inl ⟨rfl,rfl,rfl⟩⟩,fun _ h=>by cases h⟩
 · obtain rfl:=List.mem_singleton.1 hc;exact⟨by show(smN N).length<inf;omega,by show Row n h cv sK 1 (smN N).length ((smN N).map str);rw [l2];exact k.cr.row (by decide)⟩
 · simp only[List.mem_cons,List.not_mem_nil,or_false]at ho;rcases ho with rfl|rfl|rfl
   · exact cel_row k.k2 (by omega) rfl (by decide)
   · exact cel_row k.k3 (by omega) rfl (by decide)
   · exact cel_row k.k4 (by omega) rfl (by decide)
 · simp only[List.mem_cons,List.not_mem_nil,or_false]at ho;rcases ho with rfl|rfl|rfl <;> exact .inl ⟨rfl,rfl,rfl⟩
theorem small_ret{N:Nat}(hN:N≤40):Ret P 8 12 [I64 (N:Nat)] h n fun w h' n'=>∃rv cv b,w = .agg ⟨vT (smM (smV rv cv b) N (-1) [])⟩∧SmF n n' h' rv cv N b (-1) []∧Tch [] h n h' n':=by
 refine ent fun u=>?_;repeat' first|refine wk ?_|refine cX (fun _=>?_) fun _=>?_|fail
 refine lpR (α :=Nat×Value×Value) (fun p=>[(0,I64 (N:Nat)),(2,ptr n 0),(3,ptr (n+1) 0),(4,ptr (n+1+1) 0),(5,I64 p.1)])
  (fun p h' n'=>Tch [] h n h' n'∧n+2<n'∧p.1≤N∧Cel h' (n+1) (27+1) 0 [str [109],p.2.1,tO,tO,tO,str [],tO,I64 100]∧Cel h' (n+1+1) (66+1) 0 [str [103],p.2.2]
   ∧Own (n+1+1+1) n' h' p.2.1 eReg 4 p.1 ((smR p.1).flatMap regC)∧Own (n+1+1+1) n' h' p.2.2 sK 1 p.1 ((smN p.1).map str)∧Cel h' n (27+1) 0 [str [],tO,tO,tO,tO,str [],tO,I64 0]) (fun p=>N - p.1) (0,tO,tO) ?_ ?_
 · exact⟨zA,by omega,Nat.zero_le _,zD,zD,.inl ⟨rfl,rfl,rfl⟩,.inl ⟨rfl,rfl,rfl⟩,zD⟩
 rintro ⟨i,rv,cv⟩ t h2 n2 ⟨t2,hn2,hi,cM,cC,oR,oC,cZ⟩
 dsimp only at hi cM cC oR oC ⊢;by_cases hlt:i<N
 · have q1:((i:Nat):Int) / 10=((i / 10:Nat):Int):=by omega
   have q2:((i:Nat):Int) % 10=((i % 10:Nat):Int):=by omega
   have x1:i / 10<10:=by omega
   have x2:i % 10<10:=by omega
   repeat' first|refine wk ?_|refine cX (fun _=>?_) fun _=>?_|fail
   refine ob ?_ (bn_quo10 (by omega));repeat' first|refine wk ?_|refine cX (fun _=>?_) fun _=>?_|fail
   refine ob ?_ (bn_quo10 (by omega));repeat' first|refine wk ?_|refine cX (fun _=>?_) fun _=>?_|fail
   refine ob (a:=str [UInt8.ofNat (48+i / 10)]) ?_ (dig_cut x1);repeat' first|refine wk ?_|refine cX (fun _=>?_) fun _=>?_|fail
   refine ob (a:=str ([114]++[UInt8.ofNat (48+i / 10)])) ?_ (bs_add (by show 1+1<1000000;omega));repeat' first|refine wk ?_|refine cX (fun _=>?_) fun _=>?_|fail
   refine ob ?_ bn_rem10;repeat' first|refine wk ?_|refine cX (fun _=>?_) fun _=>?_|fail
   refine ob ?_ bn_rem10;repeat' first|refine wk ?_|refine cX (fun _=>?_) fun _=>?_|fail
   refine ob (a:=str [UInt8.ofNat (48+i % 10)]) ?_ (dig_cut x2);repeat' first|refine wk ?_|refine cX (fun _=>?_) fun _=>?_|fail
   refine ob (a:=str (nam i)) ?_ (bs_add (a:=[114]++[UInt8.ofNat (48+i / 10)]) (b:=[UInt8.ofNat (48+i % 10)]) (by show 2+1<1000000;omega));have or1:=(oR.row (by decide)).one;have oc1:=(oC.row (by decide)).one;repeat' first|refine wk ?_|refine cX (fun _=>?_) fun _=>?_|fail
   refine appO (e:=eReg) (sz:=4) (oR.tch (S:=[]) zA (by simp)) (zR (e:=eReg) (sz:=4) (len:=1) rfl (by decide)) (by omega) ⟨rfl,rfl,rfl,rfl,trivial⟩ (by omega) ?_;intro rv3 h3 n3 oR3 t3;have hn3:=t3.le;have lowR:=yN oR;have t23:Tch (zO rv).toList h2 n2 h3 n3:=Tch.tch t3 zA fun x hx=>.inr hx;have cM3:=cM.tch t23 (by omega) fun hx=>by have:=lowR _ hx;omega
   have cC3:=cC.tch t23 (by omega) fun hx=>by have:=lowR _ hx;omega
   have cZ3:=cZ.tch t23 (by omega) fun hx=>by have:=lowR _ hx;omega
   have t03:Tch [] h n h3 n3:=Tch.tch t23 t2 fun x hx=>.inl (by have:=lowR x hx;omega);have oC3:=oC.tch t23 (own_ne oC oR (.inr (by decide)));have or3:=(oR3.row (by decide)).one;clear t3 t23;repeat' first|refine wk ?_|refine cX (fun _=>?_) fun _=>?_|fail
   have tH:Tch [n+1] h3 n3 (hal (hst h3 (n+1) (0+1) [rv3]) n3 (mkC [str (nam i)] 0 0)) (n3+1):=zA;have cMH:Cel (hal (hst h3 (n+1) (0+1) [rv3]) n3 (mkC [str (nam i)] 0 0)) (n+1) (27+1) 0 [str [109],rv3,tO,tO,tO,str [],tO,I64 100]:=by clear tH;exact zD
   have cCH:=cC3.tch tH (by omega) (by simp);have cZH:=cZ3.tch tH (by omega) (by simp);have oRH:=oR3.tch tH fun b hb hx=>by have:=yN oR3 b (by rw[hb];simp);simp at hx;omega
   have oCH:=oC3.tch tH fun b hb hx=>by have:=yN oC3 b (by rw[hb];simp);simp at hx;omega
   have t0H:Tch [] h n (hal (hst h3 (n+1) (0+1) [rv3]) n3 (mkC [str (nam i)] 0 0)) (n3+1):=Tch.tch tH t03 fun x hx=>.inl (by simp at hx;omega);refine appO (e:=sK) (sz:=1) oCH (zR (e:=sK) (sz:=1) (len:=1) rfl (by decide)) (by omega) ⟨rfl,trivial⟩ (by omega) ?_;intro cv4 h4 n4 oC4 t4;have hn4:=t4.le;have lowC:=yN oCH;have cM4:=cMH.tch t4 (by omega) fun hx=>by have:=lowC _ hx;omega
   have cC4:=cCH.tch t4 (by omega) fun hx=>by have:=lowC _ hx;omega
   have cZ4:=cZH.tch t4 (by omega) fun hx=>by have:=lowC _ hx;omega
   have oR4:=oRH.tch t4 (own_ne oRH oCH (.inr (by decide)));have t04:Tch [] h n h4 n4:=Tch.tch t4 t0H fun x hx=>.inl (by have:=lowC x hx;omega);have oc4:=(oC4.row (by decide)).one;clear t4 tH t0H cMH cCH cZH oRH oCH t03 oR3 oC3 cM3 cC3 cZ3;have eR:(smR (i+1)).flatMap regC=(smR i).flatMap regC++[str (nam i),I64 8,I64 0,tO]:=by unfold smR;rw [List.range_succ,List.map_append,List.flatMap_append];rfl
   have eC:(smN (i+1)).map str=(smN i).map str++[str (nam i)]:=by unfold smN;rw [List.range_succ,List.map_append,List.map_append];rfl
   repeat' first|refine wk ?_|refine cX (fun _=>?_) fun _=>?_|fail
   have cC5:Cel (hst h4 (n+1+1) (0+1) [cv4]) (n+1+1) (66+1) 0 [str [103],cv4]:=zD;have tE:Tch [n+1+1] h4 n4 (hst h4 (n+1+1) (0+1) [cv4]) n4:=zA
   exact rnd (i+1,rv3,cv4) ⟨Tch.tch tE t04 fun x hx=>.inl (by simp at hx;omega),by omega,by omega,cM4.tch tE (by omega) (by simp),cC5,by rw[eR];exact oR4.tch tE fun b hb hx=>by have:=yN oR4 b (by rw[hb];simp);simp at hx;omega,
    by rw[eC];exact oC4.tch tE fun b hb hx=>by have:=yN oC4 b (by rw[hb];simp);simp at hx;omega,cZ4.tch tE (by omega) (by simp;omega)⟩
 · obtain rfl:i=N:=by omega
   have or1:=(oR.row (by decide)).one;have oc1:=(oC.row (by decide)).one;repeat' first|refine wk ?_|refine cX (fun _=>?_) fun _=>?_|fail
   refine ob (a:=[.agg ⟨vT (smM (smV rv cv n2) i (-1) [])⟩]) ?_ (rs_cellN (ws:=vT (smM (smV rv cv n2) i (-1) [])) (by apply lk_box;((conv=>lhs;whnf) <;> exact rfl)) (ldN_of (by decide) (vS zJ (vS zJ (vS zJ (vS zJ (vS zJ (vS zJ (vS zJ (vS zJ rd_nil))))))))) rs_nil);repeat' first|refine wk ?_|refine cX (fun _=>?_) fun _=>?_|fail
   refine⟨_,rfl,rv,cv,n2,rfl,⟨⟨by omega,by omega⟩,hN,?_,?_,zD,zD,zD,zD,zD,zD⟩,zA⟩
   · exact Own.dnl (oR.tch (S:=[n+1,n]) zA fun b hb hx=>by have:=yN oR b (by rw[hb];simp);simp at hx;omega) (by omega)
   · exact Own.dnl (oC.tch (S:=[n+1,n]) zA fun b hb hx=>by have:=yN oC b (by rw[hb];simp);simp at hx;omega) (by omega)
end Go.Proofs.YtmccnilgnlaffaaGreatDoor
namespace Go.Proofs.YtmccnilgnlaffaaGreatDoor
open Go Go.Ex Go.Ex.M
set_option maxRecDepth 100000
set_option maxHeartbeats 8000000
attribute [local simp] xV
variable {lo n:Nat} {h:zB} {m:MachT}
theorem make_com(mm:MachM lo h m)(hlo:lo≤n):Com P 8 13 [.agg ⟨vT m⟩] h n fun o h' n'=>∃e,MakeE m e∧Tch [] h n h' n'∧((e≠0∧o = .ret (.tuple ⟨[.pointer none,I64 e]⟩))∨(e=0∧∃bt ns ps v,o = .ret (.tuple ⟨[ptr bt 0,I64 0]⟩)∧MOK m ns ps∧TabM n n' h' bt m ns ps v)):=by
 obtain⟨o1,o2,o3,o4,o5⟩:=mach_oneG mm;refine ent fun u=>?_;repeat' first|refine wk ?_|refine cX (fun _=>?_) fun _=>?_|fail
 refine cal (check_com (MachM.tch zA hlo mm) (by omega)) ?_
 rintro _ h2 n2 ⟨e,rfl,he,ht2⟩
 have hn2:=ht2.le;have cM:Cel h2 n zMc 0 (vT m):=zD;have t02:Tch [] h n h2 n2:=zA;by_cases e0:e=0
 · subst e0;obtain⟨ns,ps,ok⟩:=makeE_ok he;have sm:=MOK.sml ok;have cs:=CsOK.of ok.cls;have gok:=geo_ok ok.geo;clear ht2;repeat' first|refine wk ?_|refine cX (fun _=>?_) fun _=>?_|fail
   refine uB (copied_ret (mm.tch t02 hlo) (by omega) sm) ?_
   rintro _ h3 n3 ⟨m',rfl,cp,t3⟩
   have hn3:=t3.le;have q1:=cp.r1;have q2:=yT cp.cr;have q3:=yT cp.orr;have q4:=yT cp.ar;have q5:=yT cp.sr;have cM3:=cM.tch t3 (by omega) (by simp);repeat' first|refine wk ?_|refine cX (fun _=>?_) fun _=>?_|fail
   refine cal (places_com (RegsM.tch zA hlo mm.regs) (by omega)) ?_
   rintro _ h4 n4 ⟨t4,⟨e,he4,rfl⟩|⟨s,nsv,psv,hs4,rfl,on,op⟩⟩
   · rw[ok.geo]at he4;cases he4
   rw[ok.geo]at hs4;cases Except.ok.inj hs4
   dsimp only at on op;have hn4:=t4.le;have on1:=on.one;have op1:=op.one;have rn:=on.row (by decide);have rp:=op.row (by decide);have cM4:=(show Cel (hal h3 n3 _) n zMc 0 (vT m) from cM3.hal (by omega)).tch t4 (by omega) (by simp);have cB4:Cel h4 n3 zTb 0 (vT m'++[nlS,nlS,.map none,.map none,.map none,nlS,nlS,nlS,nlS,nlS,nlS,nlS,nlS]):=zD;have cp4:CpM n2 n4 h4 m m':=cpm_tch cp (Tch.tch t4 (zA:Tch [] h3 n3 (hal h3 n3 _) (n3+1)) (by simp));have t04:Tch [] h n h4 n4:=zA;clear t4 t3 cM3 cp;repeat' first|refine wk ?_|refine cX (fun _=>?_) fun _=>?_|fail
   have tS:Tch [n3] h4 n4 (hst (hst h4 n3 (0+8) [nsv]) n3 (0+9) [psv]) n4:=zA;have cT:Cel (hst (hst h4 n3 (0+8) [nsv]) n3 (0+9) [psv]) n3 zTb 0 (vT m'++[nsv,psv,.map none,.map none,.map none,nlS,nlS,nlS,nlS,nlS,nlS,nlS,nlS]):=zD;have t0T:Tch [] h n (hst (hst h4 n3 (0+8) [nsv]) n3 (0+9) [psv]) n4:=zA;have cMT:Cel (hst (hst h4 n3 (0+8) [nsv]) n3 (0+9) [psv]) n zMc 0 (vT m):=zD;have cpT:=cpm_cel cp4 cB4 (by simp) tS;have onT:=on.tch tS (yJ (zZ cB4 on));have opT:=op.tch tS (yJ (zZ cB4 op));clear tS cB4 cM4 on op rn rp cp4 t04;generalize hst (hst h4 n3 (0+8) [nsv]) n3 (0+9) [psv]=hT at *
   have hns2:=gok.le;have hinf:inf<4611686018427387904:=by decide
   have hinf2:1000000≤inf:=by decide
   refine uB (numbered_ret (onT.row (by decide)) (Nat.le_refl _) (by dsimp only at hns2;omega) gok.nd) ?_
   rintro _ h5 n5 ⟨rb,rfl,b1,b2,mp,t5⟩
   have hn5:=t5.le;have c5:=cT.tch t5 (by omega) (by simp);have cM5:=cMT.tch t5 (by omega) (by simp);have cp5:=cpm_tch cpT t5;have on5:=onT.tch t5 (by simp);have op5:=opT.tch t5 (by simp);have t05:Tch [] h n h5 n5:=Tch.tch t5 t0T (by simp);clear cT cMT cpT onT opT t5 t0T;have zc:=mm.cls 0;have zo:=mm.ops 0;have za:=mm.args 0;have zs:=mm.saved 0;repeat' first|refine wk ?_|refine cX (fun _=>?_) fun _=>?_|fail
   have tS:Tch [n3] h5 n5 (hst h5 n3 (0+10) [.map (some rb)]) n5:=zA;have c6:Cel (hst h5 n3 (0+10) [.map (some rb)]) n3 zTb 0 (vT m'++[nsv,psv,.map (some rb),.map none,.map none,nlS,nlS,nlS,nlS,nlS,nlS,nlS,nlS]):=zD;have cM6:Cel (hst h5 n3 (0+10) [.map (some rb)]) n zMc 0 (vT m):=zD;have t06:Tch [] h n (hst h5 n3 (0+10) [.map (some rb)]) n5:=zA;have cp6:=cpm_cel cp5 c5 (by simp) tS;have on6:=on5.tch tS (yJ (zZ c5 on5));have op6:=op5.tch tS (yJ (zZ c5 op5));have mp6:=mp.tch tS b2 (by simpa using yV mp c5);clear tS c5 cM5 t05 cp5 on5 op5 mp;generalize hst h5 n3 (0+10) [.map (some rb)]=h6 at *
   have hcl:=sm.cls;have hcN:(cNs m).length=m.classes.length:=by unfold cNs;rw [List.length_map]
   refine lpR (α :=Nat×Value) (fun a=>[(1,ptr n 0),(5,ptr n3 0),(6,a.2),(7,nlS),(43,m.csv),(44,I64 m.classes.length),(45,I64 a.1)]) (fun a h' n'=>Tch [n3] h6 n5 h' n'∧a.1≤m.classes.length∧Own n5 n' h' a.2 sK 1 a.1 (((cNs m).take a.1).map str)∧∃ofv O inv I,Cel h' n3 zTb 0 (vT m'++[nsv,psv,.map (some rb),.map none,.map none,nlS,ofv,inv,nlS,nlS,nlS,nlS,nlS])∧Ints n5 n' h' ofv O∧Sets n5 n' h' inv I∧O.length=a.1∧I.length=a.1∧∀(j:Nat) c,j<a.1→m.classes[j]? = some c→(∃v,O[j]? = some (v,c.regs.map fun r=>((ns.idxOf r:Nat):Int)))∧∃p,I[j]? = some p∧∀r:Nat,vE p.2 r=c.regs.any fun x=>decide (ns.idxOf x=r)) (fun a=>m.classes.length - a.1) (0,nlS) ⟨Tch.refl _ _ _,Nat.zero_le _,Own.nil,_,[],_,[],c6,Lst.nil,Lst.nil,rfl,rfl,fun j c hj=>by dsimp only at hj;omega⟩ ?_
   rintro ⟨i,v6⟩ t h' n' ⟨ht,hi,hv,ofv,O,inv,I,hc,hO,hI,hOl,hIl,hall⟩
   dsimp only at hi hv hOl hIl hall ⊢;have hn':=ht.le;have t0':Tch [] h n h' n':=Tch.tch ht t06 fun x hx=>.inl (by simp at hx;omega);have cM':=cM6.tch ht (by omega) (by simp;omega);have mp':=mp6.tch ht (by omega) (by simpa using yV mp6 c6);have mm':=mm.tch t0' hlo;by_cases hlt:i<m.classes.length
   · have d0:m.classes[i]? = some m.classes[i]:=List.getElem?_eq_getElem hlt;generalize m.classes[i]=c at d0
     have hcm:=List.mem_of_getElem? d0;have crw:=mm'.cls 0;have d1:=yE crw d0;have hlow:=crw.low (by omega);have zr:=mm'.clsr c hcm 0;have hro:=zr.one;have hle:=sm.clr c hcm;have hrin:=cs.mem i c d0;have orow:=hO.1.row (by decide);have irow:=hI.1.row (by decide);have oone:=hO.1.one;have ione:=hI.1.one;repeat' first|refine wk ?_|refine cX (fun _=>?_) fun _=>?_|fail
     refine appN (hv.tch (S:=[]) zA (by simp)) (zR (e:=sK) (sz:=1) (len:=1) rfl (by decide)) (by decide) ⟨rfl,trivial⟩ (by omega) ?_
     rintro v7 h7 n7 w7 t7
     have hn7:=t7.le;have tX:Tch [] h' n' (hal (hst (hal h' n' (mkC [str [],nlS] (eCls+1) 0)) n' 0 [str c.name,c.rsv]) (n'+1) (mkC [str c.name] 0 0)) (n'+1+1):=zA;have hvX:=hv.tch tX (by simp);have kx7:Kx sK _ _ h7 n7:=kx_own hvX t7;have c7:=Cel.app (hc.tch tX (by omega) (by simp)) hvX t7 (by omega);have cM7:=Cel.app (cM'.tch tX (by omega) (by simp)) hvX t7 (by omega);have cC7:Cel h7 n' (eCls+1) 0 (clsC c):=Cel.app (show Cel (hal (hst (hal h' n' (mkC [str [],nlS] (eCls+1) 0)) n' 0 [str c.name,c.rsv]) (n'+1) (mkC [str c.name] 0 0)) n' (eCls+1) 0 (clsC c) from zD) hvX t7 (by omega);have mp7:=(mp'.tch tX (by omega) (by simp)).tch t7 (by omega) (tJ (mp'.tch tX (by omega) (by simp)) hvX);have hO7:=wP (wP (e:=eSets) hO tX.kx (by decide) (by decide)) kx7 (by decide) (by decide);have hI7:=zY (zY (e:=yK) hI tX.kx (by decide) (by decide)) kx7 (by decide) (by decide);have t67:Tch [n3] h6 n5 h7 n7:=Tch.tch t7 (zA:Tch [n3] h6 n5 (hal (hst (hal h' n' (mkC [str [],nlS] (eCls+1) 0)) n' 0 [str c.name,c.rsv]) (n'+1) (mkC [str c.name] 0 0)) (n'+1+1)) fun x hx=>.inl (yN hv x hx)
     have t07:Tch [] h n h7 n7:=Tch.tch t67 t06 fun x hx=>.inl (by simp at hx;omega);have mm7:=mm.tch t07 hlo;have zr7:=mm7.clsr c hcm 0;have o7:=w7.one;clear t7 tX hvX kx7 hc cM' mp' hO hI ht t0' mm' orow irow crw hv d1 zr;have orow:=hO7.1.row (by decide);have irow:=hI7.1.row (by decide);repeat' first|refine wk ?_|refine cX (fun _=>?_) fun _=>?_|fail
     refine uB (wU (br:=rb) (ns:=ns) (show Row n7 h7 c.rsv _ 1 c.regs.length (c.regs.map str) from(mm7.clsr c hcm 0).up (by omega)) (Nat.le_refl _) (by omega) (by omega) (by omega) (c7.cell rfl) mp7 gok.nd hrin) ?_
     rintro v8 h8 n8 ⟨w8,t8⟩
     have hn8:=t8.le;obtain⟨s1,s2,s3,rfl⟩:=own_slv w8;have c8:=c7.tch t8 (by omega) (by simp);have hOX:∀x,Ints n5 (n8+1) (hal h8 n8 x) ofv O:=fun x=>wP (e:=eSets) (wP (e:=eSets) hO7 t8.kx (by decide) (by decide)) (Tch.kx (zA:Tch [] h8 n8 (hal h8 n8 x) (n8+1))) (by decide) (by decide);repeat' first|refine wk ?_|refine cX (fun _=>?_) fun _=>?_|fail
     refine appN (hOX _).1 (zR (e:=yK) (sz:=1) (len:=1) rfl (by decide)) (by decide) ⟨rfl,trivial⟩ (by omega) ?_
     rintro v9 h9 n9 w9 t9
     have hn9:=t9.le;have o9:=w9.one;have tX8:Tch [] h8 n8 (hal h8 n8 (mkC [.slice s1 s2 s3] 0 0)) (n8+1):=zA;have kx9:Kx yK _ _ h9 n9:=kx_own (hOX _).1 t9;have k79:Kx yK h7 n7 h9 n9:=Kx.trans (Kx.trans t8.kx tX8.kx) kx9;have c9:=Cel.app (c8.tch tX8 (by omega) (by simp)) (hOX _).1 t9 (by omega);have cM9:=Cel.app ((cM7.tch t8 (by omega) (by simp)).tch tX8 (by omega) (by simp)) (hOX _).1 t9 (by omega);have cC9:=Cel.app ((cC7.tch t8 (by omega) (by simp)).tch tX8 (by omega) (by simp)) (hOX _).1 t9 (by omega);have mpX:=(mp7.tch t8 (by omega) (by simp)).tch tX8 (by omega) (by simp);have mp9:=mpX.tch t9 (by omega) (tJ mpX (hOX _).1)
     have hO9:Ints n5 n9 h9 v9 (O++[(.slice s1 s2 s3,c.regs.map fun r=>((ns.idxOf r:Nat):Int))]):=Lst.app (hOX _) w9 (by omega) (fun y s=>IntEl.kx s kx9 (by decide)) (IntEl.kx (n:=n8+1) (h:=(hal h8 n8 (mkC [.slice s1 s2 s3] 0 0))) (show Own n5 (n8+1) (hal h8 n8 (mkC [.slice s1 s2 s3] 0 0)) (.slice s1 s2 s3) tN 1 (c.regs.map fun r=>((ns.idxOf r:Nat):Int)).length ((c.regs.map fun r=>((ns.idxOf r:Nat):Int)).map I64) from by
      rw[List.map_map,List.length_map];exact Own.dnl (w8.tch tX8 (by simp)) (by omega)) kx9 (by decide))
     have hI9:=zY hI7 k79 (by decide) (by decide);have w79:=w7.kx k79 (.inl (by decide));have t8X:Tch [n3] h6 n5 (hal h8 n8 (mkC [.slice s1 s2 s3] 0 0)) (n8+1):=Tch.tch tX8 (Tch.tch t8 t67 (by simp)) (by simp);have t69:Tch [n3] h6 n5 h9 n9:=Tch.tch t9 t8X fun x hx=>.inl (yN hO7.1 x hx);clear t8 t9 tX8 kx9 k79 cM7 cC7 mp7 mpX hO7 hI7 w7 t67 t8X mm7 zr7 t07 hOX w8 w9;repeat' first|refine wk ?_|refine cX (fun _=>?_) fun _=>?_|fail
     have tA:Tch [n3] h9 n9 (hst h9 n3 (0+14) [v9]) n9:=zA;have c10:Cel (hst h9 n3 (0+14) [v9]) n3 zTb 0 (vT m'++[nsv,psv,.map (some rb),.map none,.map none,nlS,v9,inv,nlS,nlS,nlS,nlS,nlS]):=zD;have cM10:=cM9.tch tA (by omega) (by simp;omega);have cC10:=cC9.tch tA (by omega) (by simp;omega);have mp10:=mp9.tch tA (by omega) (by simpa using yV mp9 c9);have hO10:=vV hO9 c9 tA;have hI10:=wA hI9 c9 tA;have w10:=w79.tch tA (yJ (zZ c9 w79));have t610:Tch [n3] h6 n5 (hst h9 n3 (0+14) [v9]) n9:=Tch.tch tA t69 fun x hx=>.inr hx;have t010:Tch [] h n (hst h9 n3 (0+14) [v9]) n9:=Tch.tch t610 t06 fun x hx=>.inl (by simp at hx;omega);have mm10:=mm.tch t010 hlo;clear tA c9 cM9 cC9 mp9 hO9 hI9 w79 t69 c7 c8 orow irow;generalize (hst h9 n3 (0+14) [v9])=h10 at *
     have irow:=hI10.1.row (by decide);refine uB (wU (br:=rb) (ns:=ns) (show Row n9 h10 c.rsv _ 1 c.regs.length (c.regs.map str) from(mm10.clsr c hcm 0).up (by omega)) (Nat.le_refl _) (by omega) (by omega) (by omega) (c10.cell rfl) mp10 gok.nd hrin) ?_
     rintro v11 h11 n11 ⟨w11,t11⟩
     have hn11:=t11.le;have o11:=w11.one;have c11:=c10.tch t11 (by omega) (by simp);repeat' first|refine wk ?_|refine cX (fun _=>?_) fun _=>?_|fail
     refine uB (of_ret (l:=c.regs.map fun r=>((ns.idxOf r:Nat):Int)) (show Row n11 h11 v11 tN 1 _ _ from by
      have:=w11.row (by decide);rw [List.map_map,List.length_map];exact this) (Nat.le_refl _) (by rw[List.length_map];omega)) ?_
     rintro _ h12 n12 ⟨wv,ws,rfl,hsw,hws,kw,t12⟩
     have hn12:=t12.le;have wone:=kw.one;have c12:=c11.tch t12 (by omega) (by simp);have t1012:Tch [] h10 n9 h12 n12:=Tch.tch t12 t11 (by simp);have hIX:∀x,Sets n5 (n12+1) (hal h12 n12 x) inv I:=fun x=>zY (e:=yK) (zY (e:=yK) hI10 t1012.kx (by decide) (by decide)) (Tch.kx (zA:Tch [] h12 n12 (hal h12 n12 x) (n12+1))) (by decide) (by decide);repeat' first|refine wk ?_|refine cX (fun _=>?_) fun _=>?_|fail
     refine appN (hIX _).1 (zR (e:=eSet) (sz:=1) (len:=1) rfl (by decide)) (by decide) ⟨wone,trivial⟩ (by omega) ?_
     rintro v13 h13 n13 w13 t13
     have hn13:=t13.le;have o13:=w13.one;have tX:Tch [] h12 n12 (hal h12 n12 (mkC [wv] 0 0)) (n12+1):=zA;have kx13:Kx eSet _ _ h13 n13:=kx_own (hIX _).1 t13;have k1013:Kx eSet h10 n9 h13 n13:=Kx.trans (Kx.trans t1012.kx tX.kx) kx13;have c13:=Cel.app (c12.tch tX (by omega) (by simp)) (hIX _).1 t13 (by omega);have hI13:Sets n5 n13 h13 v13 (I++[(wv,ws)]):=Lst.app (hIX _) w13 (by omega) (fun y s=>SetEl.kx s kx13 (by decide)) (SetEl.kx (SetEl.kx (e:=yK) (p:=(wv,ws)) ⟨hsw,kw.dnl (by omega)⟩ tX.kx (by decide)) kx13 (by decide));have hO13:=wP hO10 k1013 (by decide) (by decide);have w1013:=w10.kx k1013 (.inl (by decide));have t6X:Tch [n3] h6 n5 (hal h12 n12 (mkC [wv] 0 0)) (n12+1):=Tch.tch tX (Tch.tch t1012 t610 (by simp)) (by simp);have t613:Tch [n3] h6 n5 h13 n13:=Tch.tch t13 t6X fun x hx=>.inl (yN hI10.1 x hx);clear t13 tX kx13 k1013 hIX w13 t6X t1012 t12 t11 w11 kw hO10 w10 t610 t010 mm10;repeat' first|refine wk ?_|refine cX (fun _=>?_) fun _=>?_|fail
     have tB:Tch [n3] h13 n13 (hst h13 n3 (0+15) [v13]) n13:=zA;have cF:Cel (hst h13 n3 (0+15) [v13]) n3 zTb 0 (vT m'++[nsv,psv,.map (some rb),.map none,.map none,nlS,v9,v13,nlS,nlS,nlS,nlS,nlS]):=zD;have hcn:(cNs m)[i]? = some c.name:=by unfold cNs;rw [List.getElem?_map,d0];rfl
     have wF:=(w1013.tch tB (yJ (zZ c13 w1013))).dnl (lo':=n5) (by omega)
     exact rnd (i+1,v7) ⟨Tch.tch tB t613 (fun x hx=>.inr hx),by dsimp only;omega,by dsimp only;rw [wQ hcn,List.map_append];exact wF,v9,_,v13,_,cF,vV hO13 c13 tB,wA hI13 c13 tB,by rw[List.length_append,hOl];rfl,by rw[List.length_append,hIl];rfl,fun j c' hj e=>by
      dsimp only at hj;rcases Nat.lt_succ_iff_lt_or_eq.1 hj with h9|rfl
      · obtain⟨⟨v,a1⟩,p,a2,a3⟩:=hall j c' h9 e;exact⟨⟨v,by rw[List.getElem?_append_left (by omega)];exact a1⟩,p,by rw[List.getElem?_append_left (by omega)];exact a2,a3⟩
      · rw[d0]at e;cases e;refine⟨⟨_,by rw[List.getElem?_append_right (by omega),hOl,Nat.sub_self];rfl⟩,_,by rw[List.getElem?_append_right (by omega),hIl,Nat.sub_self];rfl,fun r=>?_⟩;refine Bool.eq_iff_iff.2 ((hws r).trans ?_);rw [List.any_eq_true];refine⟨fun⟨h9,_⟩=>?_,fun⟨x,h9,h8⟩=>?_⟩
        · obtain⟨x,h8,h7⟩:=List.mem_map.1 h9;exact⟨x,h8,decide_eq_true (by omega)⟩
        · have h8:=of_decide_eq_true h8;subst h8;have:=List.idxOf_lt_length_iff.2 (hrin x h9);exact⟨List.mem_map.2 ⟨x,h9,rfl⟩,by dsimp only at hns2;omega⟩⟩
   · obtain rfl:i=m.classes.length:=by omega
     have hvl:((cNs m).take m.classes.length)=cNs m:=List.take_of_length_le (by omega);rw [hvl]at hv;have hol:=sm.ops;have hall':∀(j:Nat) c,m.classes[j]? = some c→(∃v,O[j]? = some (v,c.regs.map fun r=>((ns.idxOf r:Nat):Int)))∧∃p,I[j]? = some p∧∀r:Nat,vE p.2 r=c.regs.any fun x=>decide (ns.idxOf x=r):=fun j c e=>hall j c (List.getElem?_eq_some_iff.1 e).1 e;have hone:=hv.one;clear hall hlt hi;repeat' first|refine wk ?_|refine cX (fun _=>?_) fun _=>?_|fail
     have hoN:(oNs m).length=m.ops.length:=by unfold oNs;rw [List.length_map]
     refine lpR (α :=Nat×Value) (fun a=>[(1,ptr n 0),(5,ptr n3 0),(6,v6),(7,a.2),(83,m.osv),(84,I64 m.ops.length),(85,I64 a.1)]) (fun a h2 n2=>Tch [] h' n' h2 n2∧a.1≤m.ops.length∧Own n' n2 h2 a.2 sK 1 a.1 (((oNs m).take a.1).map str)) (fun a=>m.ops.length - a.1) (0,nlS) ⟨Tch.refl _ _ _,Nat.zero_le _,Own.nil⟩ ?_
     rintro ⟨i,v7⟩ t h7 n7 ⟨t7,hi,hw⟩
     dsimp only at hi hw ⊢;have hn7:=t7.le;have t07:Tch [] h n h7 n7:=Tch.tch t7 t0' (by simp);by_cases hlt:i<m.ops.length
     · have d0:m.ops[i]? = some m.ops[i]:=List.getElem?_eq_getElem hlt;generalize m.ops[i]=o at d0
       have hom:=List.mem_of_getElem? d0;have mm7:=mm.tch t07 hlo;have crw:=mm7.ops 0;have d1:=yE crw d0;have hlow:=crw.low (by omega);have hro:=(mm7.opsu o hom 0).one;have hro2:=(mm7.opsc o hom 0).one;have honm:(oNs m)[i]? = some o.name:=by unfold oNs;rw [List.getElem?_map,d0];rfl
       repeat' first|refine wk ?_|refine cX (fun _=>?_) fun _=>?_|fail
       refine appO (hw.tch (S:=[]) zA (by simp)) (zR (e:=sK) (sz:=1) (len:=1) rfl (by decide)) (by omega) ⟨rfl,trivial⟩ (by omega) ?_
       rintro v8 h8 n8 w8 t8
       have hn8:=t8.le;have t9:Tch [] h' n' h8 n8:=Tch.tch t8 zA fun x hx=>.inl (yN hw x hx);repeat' first|refine wk ?_|refine cX (fun _=>?_) fun _=>?_|fail
       exact rnd (i+1,v8) ⟨t9,by dsimp only;omega,by dsimp only;rw [wQ honm,List.map_append];exact w8⟩
     · obtain rfl:i=m.ops.length:=by omega
       rw[List.take_of_length_le (by omega)]at hw;have hone7:=hw.one;have c7:=hc.tch t7 (by omega) (by simp);have cM7:=cM'.tch t7 (by omega) (by simp);have hv7:=hv.tch t7 (by simp);have mp7:=mp'.tch t7 (by omega) (by simp);have hO7:=wP (e:=eSets) hO t7.kx (by decide) (by decide);have hI7:=zY (e:=yK) hI t7.kx (by decide) (by decide);have t67:=Tch.tch t7 ht (by simp);clear hlt hi;repeat' first|refine wk ?_|refine cX (fun _=>?_) fun _=>?_|fail
       refine uB (numbered_ret (show Row n7 h7 v6 sK 1 (cNs m).length ((cNs m).map str) from by rw[hcN];exact hv7.row (by decide)) (Nat.le_refl _) (by omega) (MOK.cnd ok)) ?_
       rintro _ h8 n8 ⟨cb,rfl,cb1,cb2,mc8,t8⟩
       have hn8:=t8.le;have hw8:=hw.tch t8 (by simp);repeat' first|refine wk ?_|refine cX (fun _=>?_) fun _=>?_|fail
       refine uB (numbered_ret (show Row n8 h8 v7 sK 1 (oNs m).length ((oNs m).map str) from by rw[hoN];exact hw8.row (by decide)) (Nat.le_refl _) (by omega) (MOK.ond ok)) ?_
       rintro _ h9 n9 ⟨ob9,rfl,hob1,hob2,mo9,t9⟩
       have hn9:=t9.le;have t79:Tch [] h7 n7 h9 n9:=Tch.tch t9 t8 (by simp);have c9:=c7.tch t79 (by omega) (by simp);have cM9:=cM7.tch t79 (by omega) (by simp);have mc9:=mc8.tch t9 (by omega) (by simp);have mp9:=mp7.tch t79 (by omega) (by simp);have hO9:=wP (e:=eSets) hO7 t79.kx (by decide) (by decide);have hI9:=zY (e:=yK) hI7 t79.kx (by decide) (by decide);have t69:Tch [n3] h6 n5 h9 n9:=Tch.tch t79 t67 (by simp);clear t8 t9 t79 c7 cM7 mc8 mp7 hO7 hI7 t67 t7 hO hI hc cM' hw hw8 hv hv7 ht t0';repeat' first|refine wk ?_|refine cX (fun _=>?_) fun _=>?_|fail
       have tA:Tch [n3] h9 n9 (hst (hst h9 n3 (0+11) [.map (some cb)]) n3 (0+12) [.map (some ob9)]) n9:=zA;have c10:Cel (hst (hst h9 n3 (0+11) [.map (some cb)]) n3 (0+12) [.map (some ob9)]) n3 zTb 0 (vT m'++[nsv,psv,.map (some rb),.map (some cb),.map (some ob9),nlS,ofv,inv,nlS,nlS,nlS,nlS,nlS]):=zD;have cM10:=cM9.tch tA (by omega) (by simp;omega);have mc10:=mc9.tch tA (by omega) (by simpa using yV mc9 c9);have mo10:=mo9.tch tA (by omega) (by simpa using yV mo9 c9);have mp10:=mp9.tch tA (by omega) (by simpa using yV mp9 c9);have hO10:=vV hO9 c9 tA;have hI10:=wA hI9 c9 tA;have t610:Tch [n3] h6 n5 (hst (hst h9 n3 (0+11) [.map (some cb)]) n3 (0+12) [.map (some ob9)]) n9:=Tch.tch tA t69 fun x hx=>.inr hx;have op10:=op6.tch t610 (yJ (zZ c6 op6));have cp10:=cpm_cel cp6 c6 (by simp) t610;clear tA c9 cM9 mc9 mo9 mp9 hO9 hI9 t69;generalize (hst (hst h9 n3 (0+11) [.map (some cb)]) n3 (0+12) [.map (some ob9)])=h10 at *
       have hpl2:=gok.len;refine cal (lapping_com c10 (by omega) op10 (by omega) (by dsimp only at hpl2 hns2;omega) gok.pl) ?_
       rintro _ h11 n11 ⟨rfl,t11,lv,L,c11,hL11,hLl,hLw⟩
       have hn11:=t11.le;have mc11:=mc10.tch t11 (by omega) (by simpa using yV mc10 c10);have mo11:=mo10.tch t11 (by omega) (by simpa using yV mo10 c10);have mp11:=mp10.tch t11 (by omega) (by simpa using yV mp10 c10);have cM11:=cM10.tch t11 (by omega) (by simp;omega);have hO11:=vV hO10 c10 t11;have hI11:=wA hI10 c10 t11;have op11:=op10.tch t11 (yJ (zZ c10 op10));have cp11:=cpm_cel cp10 c10 (by simp) t11;have t611:Tch [n3] h6 n5 h11 n11:=Tch.tch t11 t610 fun x hx=>.inr hx;clear t11 mc10 mo10 mp10 cM10 hO10 hI10 op10 cp10 t610 c10;have t011:Tch [] h n h11 n11:=Tch.tch t611 t06 fun x hx=>.inl (by simp at hx;omega);have mm11:=mm.tch t011 hlo;have hcv:=ok.conv
       have hain:∀x∈m.args,x∈ns:=fun x hx=>by
        obtain⟨i,hi⟩:=List.mem_iff_getElem?.1 hx;exact(hcv.1.2 i x hi).1
       have hsin:∀x∈m.saved,x∈ns:=fun x hx=>by
        obtain⟨i,hi⟩:=List.mem_iff_getElem?.1 hx;exact(hcv.2.2.1.2 i x hi).1
       have hal:m.args.length≤16:=by have:=hcv.1.1;omega
       have hsl:m.saved.length≤64:=by have:=hcv.2.2.1.1;omega
       have a11:=(mm11.args 0).one;have s11:=(mm11.saved 0).one;repeat' first|refine wk ?_|refine cX (fun _=>?_) fun _=>?_|fail
       refine uB (wU (e:=sK) (br:=rb) (ns:=ns) ((mm11.args sK).up (by omega)) (Nat.le_refl _) (by omega) (by omega) (by omega) (c11.cell rfl) mp11 gok.nd hain) ?_
       rintro v12 h12 n12 ⟨w12,t12⟩
       have hn12:=t12.le;have o12:=w12.one;have c12:=c11.tch t12 (by omega) (by simp);have cM12:=cM11.tch t12 (by omega) (by simp);have mp12:=mp11.tch t12 (by omega) (by simp);have mm12:=mm.tch (Tch.tch t12 t011 (by simp):Tch [] h n h12 n12) hlo;clear mm11;repeat' first|refine wk ?_|refine cX (fun _=>?_) fun _=>?_|fail
       refine uB (wU (e:=sK) (br:=rb) (ns:=ns) ((mm12.saved sK).up (by omega)) (Nat.le_refl _) (by omega) (by omega) (by omega) (c12.cell rfl) mp12 gok.nd hsin) ?_
       rintro v13 h13 n13 ⟨w13,t13⟩
       have hn13:=t13.le;have o13:=w13.one;have t1113:Tch [] h11 n11 h13 n13:=Tch.tch t13 t12 (by simp);have c13:=c12.tch t13 (by omega) (by simp);have cM13:=cM12.tch t13 (by omega) (by simp);have w12':=w12.tch t13 (by simp);have mc13:=mc11.tch t1113 (by omega) (by simp);have mo13:=mo11.tch t1113 (by omega) (by simp);have mp13:=mp12.tch t13 (by omega) (by simp);have hO13:=wP (e:=eSets) hO11 t1113.kx (by decide) (by decide);have hI13:=zY (e:=yK) hI11 t1113.kx (by decide) (by decide);have hL13:=zY (e:=yK) hL11 t1113.kx (by decide) (by decide);have on13:=(on6.tch t611 (yJ (zZ c6 on6))).tch t1113 (by simp);have op13:=op11.tch t1113 (by simp);have cp13:=cpm_tch cp11 t1113;have t013:Tch [] h n h13 n13:=Tch.tch t1113 t011 (by simp);clear t12 t13 t1113 w12 mc11 mo11 mp11 mp12 hO11 hI11 hL11 on6 op11 op6 cp11 cp6 mm12 t611 c6 mp6 cM6;repeat' first|refine wk ?_|refine cX (fun _=>?_) fun _=>?_|fail
       have tA:Tch [n3] h13 n13 (hst (hst h13 n3 (0+19) [v12]) n3 (0+18) [v13]) n13:=zA;have c14:Cel (hst (hst h13 n3 (0+19) [v12]) n3 (0+18) [v13]) n3 zTb 0 (vT m'++[nsv,psv,.map (some rb),.map (some cb),.map (some ob9),lv,ofv,inv,nlS,nlS,v13,v12,nlS]):=zD;have w12:=w12'.tch tA (yJ (zZ c13 w12'));have w13':=w13.tch tA (yJ (zZ c13 w13));have mc14:=mc13.tch tA (by omega) (by simpa using yV mc13 c13);have mo14:=mo13.tch tA (by omega) (by simpa using yV mo13 c13);have mp14:=mp13.tch tA (by omega) (by simpa using yV mp13 c13);have hO14:=vV hO13 c13 tA;have hI14:=wA hI13 c13 tA;have hL14:=wA hL13 c13 tA;have on14:=on13.tch tA (yJ (zZ c13 on13));have op14:=op13.tch tA (yJ (zZ c13 op13));have cp14:=cpm_cel cp13 c13 (by simp) tA;have t014:Tch [] h n (hst (hst h13 n3 (0+19) [v12]) n3 (0+18) [v13]) n13:=Tch.tch tA t013 fun x hx=>.inl (by simp at hx;omega);have cM14:=cM13.tch tA (by omega) (by simp;omega);clear tA c13 c11 c12 cM11 cM12 w12' w13 mc13 mo13 mp13 hO13 hI13 hL13 on13 op13 cp13 t013 cM13
       generalize (hst (hst h13 n3 (0+19) [v12]) n3 (0+18) [v13])=h14 at *
       have hK:Opd n2 n13 h14 rb cb m'.osv lv inv m'.ops ns (cNs m) L I:=⟨by rw[cp14.ol];exact cp14.orr,fun o ho=>by
        obtain⟨i,hi⟩:=List.mem_iff_getElem?.1 ho;have hil:=(List.getElem?_eq_some_iff.1 hi).1;have e1:=cp14.ol;obtain⟨o',e2,e3⟩:=cp14.oe i _ (List.getElem?_eq_getElem (by omega));rw [hi]at e2;cases e2;have:=e3.ru;rw [← e3.us]at this;exact this,fun o ho=>by
        obtain⟨i,hi⟩:=List.mem_iff_getElem?.1 ho;have hil:=(List.getElem?_eq_some_iff.1 hi).1;have e1:=cp14.ol;obtain⟨o',e2,e3⟩:=cp14.oe i _ (List.getElem?_eq_getElem (by omega));rw [hi]at e2;cases e2;have:=e3.rc;rw [← e3.cb]at this;exact this,mp14,mc14,⟨by omega,by omega⟩,sets_dn hL14 (by omega),sets_dn hI14 (by omega)⟩
       have hoO:∀o∈m'.ops,OpdOK ns (cNs m) o:=fun o ho=>by
        obtain⟨i,hi⟩:=List.mem_iff_getElem?.1 ho;have hil:=(List.getElem?_eq_some_iff.1 hi).1;have e1:=cp14.ol;have e9:m.ops[i]? = some m.ops[i]:=List.getElem?_eq_getElem (by omega);obtain⟨o',e2,e3⟩:=cp14.oe i _ e9;rw [hi]at e2;cases e2;exact MOK.opd ok (List.mem_of_getElem? e9) e3.d e3.us e3.cb
       have hol:=sm.ops;have hps:ps.length=ns.length:=gok.len;refine cal (operands_com hK c14 (by omega) (by omega) gok.nd (MOK.cnd ok) (by omega) (by omega) (by dsimp only at hns2;omega) (by rw[cp14.ol];omega) hoO) ?_
       rintro _ h15 n15 ⟨rfl,t15,mv,M,cv,C,c15,hM15,hC15,hMl,hCl,hop⟩
       have hn15:=t15.le;have w1215:=w12.tch t15 (yJ (zZ c14 w12));have w1315:=w13'.tch t15 (yJ (zZ c14 w13'));have mc15:=mc14.tch t15 (by omega) (by simpa using yV mc14 c14);have mo15:=mo14.tch t15 (by omega) (by simpa using yV mo14 c14);have mp15:=mp14.tch t15 (by omega) (by simpa using yV mp14 c14);have hO15:=vV hO14 c14 t15;have hI15:=wA hI14 c14 t15;have hL15:=wA hL14 c14 t15;have on15:=on14.tch t15 (yJ (zZ c14 on14));have op15:=op14.tch t15 (yJ (zZ c14 op14));have cp15:=cpm_cel cp14 c14 (by simp) t15;have t015:Tch [] h n h15 n15:=Tch.tch t15 t014 fun x hx=>.inl (by simp at hx;omega);clear t15 w12 w13' mc14 mo14 mp14 hO14 hI14 hL14 on14 op14 t014 cM14 c14 hK;repeat' first|refine wk ?_|refine cX (fun _=>?_) fun _=>?_|fail
       have w13i:=ixs_row w1315
       refine cal (surviving_com (lo:=n2) c15 (by omega) (op15.dnl (by omega)) (w13i.dnl (by omega)) (by omega) (by dsimp only at hns2;omega) (by unfold ixs;rw [List.length_map];omega) gok.pl fun s hs=>by
        unfold ixs at hs;obtain⟨x,hx,rfl⟩:=List.mem_map.1 hs;exact⟨_,rfl,by have:=List.idxOf_lt_length_iff.2 (hsin x hx);omega⟩) ?_
       rintro _ h16 n16 ⟨rfl,t16,kv,ws,c16,hk16,hkw⟩
       have hn16:=t16.le;have t016:Tch [] h n h16 n16:=Tch.tch t16 t015 fun x hx=>.inl (by simp at hx;omega);have mc16:=mc15.tch t16 (by omega) (by simpa using yV mc15 c15);have mo16:=mo15.tch t16 (by omega) (by simpa using yV mo15 c15);have mp16:=mp15.tch t16 (by omega) (by simpa using yV mp15 c15)
       have tM:TabM n n16 h16 n3 m ns ps ⟨m',nsv,psv,rb,cb,ob9,lv,ofv,inv,mv,cv,v13,v12,kv,L,O,I,M,C,ws⟩:=⟨⟨by omega,by omega⟩,⟨by dsimp only;omega,by dsimp only;omega,by dsimp only;omega⟩,c16,cpm_dn (cpm_cel cp15 c15 (by simp) t16) (by omega),
        (on15.tch t16 (yJ (zZ c15 on15))).dnl (by omega),(op15.tch t16 (yJ (zZ c15 op15))).dnl (by omega),mp16,mc16,mo16,sets_dn (wA hL15 c15 t16) (by omega),hLl,hLw,ints_dn (vV hO15 c15 t16) (by omega),hOl,fun j c e=>(hall' j c e).1,sets_dn (wA hI15 c15 t16) (by omega),hIl,fun j c e=>(hall' j c e).2,
        mays_dn (mays_cel hM15 c15 t16) (by omega),by have:=cp15.ol;dsimp only;omega,ints_dn (vV hC15 c15 t16) (by omega),by have:=cp15.ol;dsimp only;omega,fun j o e=>by
         obtain⟨o',e2,e3⟩:=cp15.oe j o e;have e4:=hop j o' e2;rw [e3.cb,e3.d,e3.us]at e4;obtain⟨e5,sv,S,e6,e7,e8⟩:=e4;refine⟨e5,sv,S,e6,e7,fun k x p g1 g2 r=>?_⟩;rw [e8 k x p g1 g2 r];unfold mayF;rw [e3.cb],
        (w13i.tch t16 (yJ (zZ c15 w13i))).dnl (by omega),((ixs_row w1215).tch t16 (yJ (zZ c15 w1215))).dnl (by omega),⟨hk16.1,hk16.2.dnl (by omega)⟩,hkw⟩
       clear cp15 mc15 mo15 mp15 mc16 mo16 mp16 hO15 hI15 hL15 on15 op15 w1215 w1315 w13i c15 c16 t16 t015 hM15 hC15 hop hall';repeat' first|refine wk ?_|refine cX (fun _=>?_) fun _=>?_|fail
       exact⟨0,he,t016,.inr ⟨rfl,n3,ns,ps,_,rfl,ok,tM⟩⟩
 · repeat' first|refine wk ?_|refine cX (fun _=>?_) fun _=>?_|fail
   exact⟨e,he,t02,.inl ⟨e0,rfl⟩⟩
end Go.Proofs.YtmccnilgnlaffaaGreatDoor
namespace Go.Ex.M
abbrev mtI(d a b:Nat)(nm:Tx)(av:Value):InsT:=⟨3,(d:Nat),0,0,0,nm,av,[((a:Nat):Int),((b:Nat):Int)],0,0⟩
abbrev mtE:InsT:=⟨9,0,0,0,0,[],tO,[],0,0⟩
abbrev mtC(d a b:Nat)(nm:Tx)(av bv iv:Value):CodeT:=⟨[102],0,bv,[(iv,[mtI d a b nm av,mtE])]⟩
def tieB(tie:Int)(d a b:Nat):Bool:=decide (tie<0) || decide ([((a:Nat):Int),((b:Nat):Int)][tie.toNat]? = some ((d:Nat):Int))
section
variable {n:Nat} {v:SmV} {tie:Int} {fx:Tx} {f d a b:Nat} {av bv iv:Value}
theorem sm_mayG(h:n≤40){j:Nat}(hj:j<n):decide (((j:Nat):Int)∈mayI (smM v n tie fx) (smN n) gO)=true:=by
 refine decide_eq_true ?_;show _∈(smN n).map (pos (smN n));exact List.mem_map.2 ⟨nam j,smN_mem hj,((sm_regs h).2 j hj).1⟩
theorem sm_mayF(h:n≤40)(hf:f<n):mayI (smM v n tie fx) (smN n) ⟨[103],nam f⟩=[((f:Nat):Int)]:=by
 show listN (smN n) [nam f]=_;rw [listN_all fun x hx=>by rw[List.mem_singleton.1 hx];exact smN_mem hf];show [pos (smN n) (nam f)]=_;rw [((sm_regs h).2 f hf).1]
theorem sm_regsB(hd:d<n)(ha:a<n)(hb:b<n){nm:Tx}:((vH (mtI d a b nm av)++vI (mtI d a b nm av)).all fun r=>inR r (smN n).length)=true:=by
 have z:∀j:Nat,j<n→inR ((j:Nat):Int) (smN n).length=true:=fun j hj=>by
  unfold inR;rw [smN_len,decide_eq_true (by omega),decide_eq_true (by omega)];rfl
 show(inR ((d:Nat):Int) (smN n).length && (inR ((a:Nat):Int) (smN n).length && (inR ((b:Nat):Int) (smN n).length && true)))=true;rw [z d hd,z a ha,z b hb];rfl
theorem sm_insA(h:n≤40)(hd:d<n)(ha:a<n)(hb:b<n):insE (smM v n tie fx) (smN n) (smP n) 0 1 (mtI d a b addT av) false=if tieB tie d a b then 0 else 23:=by
 unfold insE;rw [if_neg (by rw[show kindB (smM v n tie fx) (mtI d a b addT av) false=true from rfl];decide),if_neg (by rw[sm_regsB hd ha hb];decide),if_neg (by show ¬(3:Int)=2;decide),if_pos rfl];show(if opsB (smM v n tie fx) (smN n) (smP n) (mtI d a b addT av) ⟨addT,gO,v.u0,[gO,gO],tie,tO,[]⟩ then 0 else 23)=_
 have e:opsB (smM v n tie fx) (smN n) (smP n) (mtI d a b addT av) ⟨addT,gO,v.u0,[gO,gO],tie,tO,[]⟩=tieB tie d a b:=by
  show((decide (((d:Nat):Int)∈mayI (smM v n tie fx) (smN n) gO) && true) && ((decide (((a:Nat):Int)∈mayI (smM v n tie fx) (smN n) gO) && true) && ((decide (((b:Nat):Int)∈mayI (smM v n tie fx) (smN n) gO) && true) && true)) && tieB tie d a b)=_;rw [sm_mayG h hd,sm_mayG h ha,sm_mayG h hb];rfl
 rw[e]
theorem sm_insD(h:n≤40)(hd:d<n)(ha:a<n)(hb:b<n)(hf:f<n):insE (smM v n tie (nam f)) (smN n) (smP n) 0 1 (mtI d a b divT av) false=if b=f then 0 else 23:=by
 unfold insE;rw [if_neg (by rw[show kindB (smM v n tie (nam f)) (mtI d a b divT av) false=true from rfl];decide),if_neg (by rw[sm_regsB hd ha hb];decide),if_neg (by show ¬(3:Int)=2;decide),if_pos rfl];show(if opsB (smM v n tie (nam f)) (smN n) (smP n) (mtI d a b divT av) ⟨divT,gO,v.u2,[gO,⟨[103],nam f⟩],-1,tO,[]⟩ then 0 else 23)=_
 have e:opsB (smM v n tie (nam f)) (smN n) (smP n) (mtI d a b divT av) ⟨divT,gO,v.u2,[gO,⟨[103],nam f⟩],-1,tO,[]⟩=decide (b=f):=by
  show((decide (((d:Nat):Int)∈mayI (smM v n tie (nam f)) (smN n) gO) && true) && ((decide (((a:Nat):Int)∈mayI (smM v n tie (nam f)) (smN n) gO) && true) && ((decide (((b:Nat):Int)∈mayI (smM v n tie (nam f)) (smN n) ⟨[103],nam f⟩) && true) && true)) && true)=_;rw [sm_mayG h hd,sm_mayG h ha,sm_mayF h hf];simp only[Bool.true_and,Bool.and_true,List.mem_singleton];exact decide_eq_decide.2 (by omega)
 rw[e];by_cases hbf:b=f
 · rw[if_pos hbf,if_pos (decide_eq_true hbf)]
 · rw[if_neg hbf,if_neg (by rw[decide_eq_false hbf];decide)]
theorem sm_code{nm:Tx}{e:Int}(he:insE (smM v n tie fx) (smN n) (smP n) 0 1 (mtI d a b nm av) false=e):CodeE (smM v n tie fx) (smN n) (smP n) (mtC d a b nm av bv iv) 0 0 e:=by
 have h2:insE (smM v n tie fx) (smN n) (smP n) 0 1 mtE true=0:=rfl;refine .inr ⟨by show 1≤200;decide,.inr ⟨by show nameB [102]=true;decide,.inr ⟨⟨by show(0:Int)≤0;decide,by show(0:Int)≤100;decide⟩,.inr ⟨by show 0<1;decide,?_⟩⟩⟩⟩;by_cases h0:e=0
 · subst h0;refine .inl ⟨fun j x hx=>?_,rfl,rfl,rfl⟩
   match j,hx with
   | 0,hx=>
    injection hx with hx
    subst hx;refine⟨by show 1≤2∧2≤25600;decide,fun q i hi=>?_⟩
    match q,hi with
    | 0,hi=>injection hi with hi;subst hi;exact he
    | 1,hi=>injection hi with hi;subst hi;exact h2
    | q+2,hi=>simp at hi
   | j+1,hx=>simp at hx
 · exact .inr ⟨0,_,rfl,fun _ _ h=>absurd h (Nat.not_lt_zero _),rfl,.inr ⟨by show 1≤2∧2≤25600;decide,0,_,rfl,fun _ _ h=>absurd h (Nat.not_lt_zero _),rfl,he.symm,h0⟩⟩
end
end Go.Ex.M
namespace Go.Proofs
open Go.Shelf
def Tryz.lays169_ren:Go.Shelf.Ren:=⟨fun|169=>46|n=>n,fun|70=>111|9=>9|0=>0|72=>114|37=>112|127=>179|3=>3|5=>5|n=>n,fun|n=>n⟩
theorem Tryz.lays169:Go.Proofs.Lays.n169 Tryz.prog Tryz.lays169_ren:={
 mixed:=by kernel_rfl
 f169:=Tryz.func46.trans (congrArg some (by kernel_rfl))
 t0:=Tryz.underlying0
 a0:=Tryz.isAgg0
 z0:=Tryz.sizeOf0
 v0:=Tryz.zeroValue0
 t3:=Tryz.underlying3
 a3:=Tryz.isAgg3
 z3:=Tryz.sizeOf3
 v3:=Tryz.zeroValue3
 t9:=Tryz.underlying9
 a9:=Tryz.isAgg9
 z9:=Tryz.sizeOf9
 v9:=Tryz.zeroValue9
 t37:=Tryz.underlying112
 a37:=Tryz.isAgg112
 z37:=Tryz.sizeOf112
 v37:=Tryz.zeroValue112
 t70:=Tryz.underlying111
 a70:=Tryz.isAgg111
 z70:=Tryz.sizeOf111
 v70:=Tryz.zeroValue111
 t72:=Tryz.underlying114
 a72:=Tryz.isAgg114
 z72:=Tryz.sizeOf114
 v72:=Tryz.zeroValue114
 t127:=Tryz.underlying179
 a127:=Tryz.isAgg179
 z127:=Tryz.sizeOf179
 v127:=Tryz.zeroValue179 }
theorem Tryz.Builder_Extra_169:Builder.Extra Tryz.prog Tryz.lays169_ren:={
 sizeBuilder:=by kernel_rfl
 liesBuilder:=by kernel_rfl
 t5:=Tryz.underlying5
 a5:=Tryz.isAgg5
 z5:=Tryz.sizeOf5
 v5:=Tryz.zeroValue5
 infoByte:=by kernel_rfl
 cellsByte:=by kernel_rfl
 sizeByte:=by kernel_rfl
 neB5:=by decide }
def Tryz.lays156_ren:Go.Shelf.Ren:=⟨fun|156=>43|165=>102|166=>42|169=>46|240=>101|241=>156|276=>155|277=>190|n=>n,fun|31=>25|9=>9|3=>3|4=>4|0=>0|20=>20|72=>114|76=>117|70=>111|37=>112|75=>116|127=>179|164=>215|5=>5|80=>123|n=>n,fun|n=>n⟩
theorem Tryz.lays156:Go.Proofs.Lays.n156 Tryz.prog Tryz.lays156_ren:={
 mixed:=by kernel_rfl
 f156:=Tryz.func43.trans (congrArg some (by kernel_rfl))
 f165:=Tryz.func102.trans (congrArg some (by kernel_rfl))
 f166:=Tryz.func42.trans (congrArg some (by kernel_rfl))
 f169:=Tryz.func46.trans (congrArg some (by kernel_rfl))
 f240:=Tryz.func101.trans (congrArg some (by kernel_rfl))
 f241:=Tryz.func156.trans (congrArg some (by kernel_rfl))
 f276:=Tryz.func155.trans (congrArg some (by kernel_rfl))
 f277:=Tryz.func190.trans (congrArg some (by kernel_rfl))
 t0:=Tryz.underlying0
 a0:=Tryz.isAgg0
 z0:=Tryz.sizeOf0
 v0:=Tryz.zeroValue0
 t3:=Tryz.underlying3
 a3:=Tryz.isAgg3
 z3:=Tryz.sizeOf3
 v3:=Tryz.zeroValue3
 t4:=Tryz.underlying4
 a4:=Tryz.isAgg4
 z4:=Tryz.sizeOf4
 v4:=Tryz.zeroValue4
 t9:=Tryz.underlying9
 a9:=Tryz.isAgg9
 z9:=Tryz.sizeOf9
 v9:=Tryz.zeroValue9
 t20:=Tryz.underlying20
 a20:=Tryz.isAgg20
 z20:=Tryz.sizeOf20
 v20:=Tryz.zeroValue20
 t31:=Tryz.underlying25
 a31:=Tryz.isAgg25
 z31:=Tryz.sizeOf25
 v31:=Tryz.zeroValue25
 t37:=Tryz.underlying112
 a37:=Tryz.isAgg112
 z37:=Tryz.sizeOf112
 v37:=Tryz.zeroValue112
 t70:=Tryz.underlying111
 a70:=Tryz.isAgg111
 z70:=Tryz.sizeOf111
 v70:=Tryz.zeroValue111
 t72:=Tryz.underlying114
 a72:=Tryz.isAgg114
 z72:=Tryz.sizeOf114
 v72:=Tryz.zeroValue114
 t75:=Tryz.underlying116
 a75:=Tryz.isAgg116
 z75:=Tryz.sizeOf116
 v75:=Tryz.zeroValue116
 t76:=Tryz.underlying117
 a76:=Tryz.isAgg117
 z76:=Tryz.sizeOf117
 v76:=Tryz.zeroValue117
 t127:=Tryz.underlying179
 a127:=Tryz.isAgg179
 z127:=Tryz.sizeOf179
 v127:=Tryz.zeroValue179
 t164:=Tryz.underlying215
 a164:=Tryz.isAgg215
 z164:=Tryz.sizeOf215
 v164:=Tryz.zeroValue215 }
theorem Tryz.Builder_Extra_156:Builder.Extra Tryz.prog Tryz.lays156_ren:={
 sizeBuilder:=by kernel_rfl
 liesBuilder:=by kernel_rfl
 t5:=Tryz.underlying5
 a5:=Tryz.isAgg5
 z5:=Tryz.sizeOf5
 v5:=Tryz.zeroValue5
 infoByte:=by kernel_rfl
 cellsByte:=by kernel_rfl
 sizeByte:=by kernel_rfl
 neB5:=by decide }
open Go.RowKit in
theorem Tryz.strings_Join_none(a:Option Addr)(c:Nat)(sep:ByteArray)(w:World) :
 Calls Tryz.prog 43 #[.slice a 0 c,.string sep] w fun e w'=>e = .returned (.string ⟨#[]⟩)∧w'=w:=Any.strings_Join_none Tryz.lays156 Tryz.Builder_Extra_156 a c sep w
open Go.RowKit in
theorem Tryz.strings_Join(bk o c:Nat)(xs:List ByteArray)(sep:ByteArray)(w:World)(hcells:∀(j:Nat) x,xs[j]? = some x→w.cell? ⟨bk,o+j,none⟩=some (.string x))(hbk:bk<w.heap.size)(hN:xs.length≤140737488355328)(hcap:xs.length≤c)(hlen:(Lib.join (xs.map (·.data.toList)) sep.data.toList).length≤140737488355328) :
 Calls Tryz.prog 43 #[.slice (some ⟨bk,o,none⟩) xs.length c,.string sep] w fun e w'=>e = .returned (.string ⟨(Lib.join (xs.map (·.data.toList)) sep.data.toList).toArray⟩)∧Below w.heap.size w w':=Any.strings_Join Tryz.lays156 Tryz.Builder_Extra_156 bk o c xs sep w hcells hbk hN hcap hlen
def Tryz.lays103_ren:Go.Shelf.Ren:=⟨fun|103=>188|210=>205|206=>221|n=>n,fun|9=>9|4=>4|24=>244|3=>3|n=>n,fun|n=>n⟩
theorem Tryz.lays103:Go.Proofs.Lays.n103 Tryz.prog Tryz.lays103_ren:={
 mixed:=by kernel_rfl
 f103:=Tryz.func188.trans (congrArg some (by kernel_rfl))
 f206:=Tryz.func221.trans (congrArg some (by kernel_rfl))
 f210:=Tryz.func205.trans (congrArg some (by kernel_rfl))
 t3:=Tryz.underlying3
 a3:=Tryz.isAgg3
 z3:=Tryz.sizeOf3
 v3:=Tryz.zeroValue3
 t4:=Tryz.underlying4
 a4:=Tryz.isAgg4
 z4:=Tryz.sizeOf4
 v4:=Tryz.zeroValue4
 t9:=Tryz.underlying9
 a9:=Tryz.isAgg9
 z9:=Tryz.sizeOf9
 v9:=Tryz.zeroValue9
 t24:=Tryz.underlying244
 a24:=Tryz.isAgg244
 z24:=Tryz.sizeOf244
 v24:=Tryz.zeroValue244 }
open Go.RowKit in
theorem Tryz.strings_CutPrefix(s p:ByteArray)(w:World) :
 Calls Tryz.prog 188 #[.string s,.string p] w fun e w'=>e = .returned (.tuple #[.string ⟨(Lib.trimPrefix s.data.toList p.data.toList).toArray⟩,.bool (Lib.hasPrefix s.data.toList p.data.toList)])∧w'=w:=Any.strings_CutPrefix Tryz.lays103 s p w
def Tryz.lays172_ren:Go.Shelf.Ren:=⟨fun|172=>184|244=>201|245=>202|247=>212|279=>213|280=>214|281=>215|282=>216|287=>227|316=>228|171=>44|205=>229|321=>235|322=>236|243=>103|246=>157|283=>191|284=>192|285=>193|286=>194|129=>208|317=>207|318=>209|319=>210|320=>211|337=>225|338=>226|n=>n,fun|9=>9|3=>3|75=>116|76=>117|4=>4|5=>5|167=>265|37=>112|0=>0|85=>266|2=>2|168=>268|53=>167|175=>275|46=>202|210=>279|127=>179|145=>290|143=>288|21=>21|171=>248|173=>251|212=>261|51=>262|20=>20|213=>263|232=>285|233=>286|80=>123|n=>n,fun|15=>2|16=>3|17=>1|18=>4|19=>5|n=>n⟩
theorem Tryz.lays172:Go.Proofs.Lays.n172 Tryz.prog Tryz.lays172_ren:={
 mixed:=by kernel_rfl
 f129:=Tryz.func208.trans (congrArg some (by kernel_rfl))
 f171:=Tryz.func44.trans (congrArg some (by kernel_rfl))
 f172:=Tryz.func184.trans (congrArg some (by kernel_rfl))
 f205:=Tryz.func229.trans (congrArg some (by kernel_rfl))
 f243:=Tryz.func103.trans (congrArg some (by kernel_rfl))
 f244:=Tryz.func201.trans (congrArg some (by kernel_rfl))
 f245:=Tryz.func202.trans (congrArg some (by kernel_rfl))
 f246:=Tryz.func157.trans (congrArg some (by kernel_rfl))
 f247:=Tryz.func212.trans (congrArg some (by kernel_rfl))
 f279:=Tryz.func213.trans (congrArg some (by kernel_rfl))
 f280:=Tryz.func214.trans (congrArg some (by kernel_rfl))
 f281:=Tryz.func215.trans (congrArg some (by kernel_rfl))
 f282:=Tryz.func216.trans (congrArg some (by kernel_rfl))
 f283:=Tryz.func191.trans (congrArg some (by kernel_rfl))
 f284:=Tryz.func192.trans (congrArg some (by kernel_rfl))
 f285:=Tryz.func193.trans (congrArg some (by kernel_rfl))
 f286:=Tryz.func194.trans (congrArg some (by kernel_rfl))
 f287:=Tryz.func227.trans (congrArg some (by kernel_rfl))
 f316:=Tryz.func228.trans (congrArg some (by kernel_rfl))
 f317:=Tryz.func207.trans (congrArg some (by kernel_rfl))
 f318:=Tryz.func209.trans (congrArg some (by kernel_rfl))
 f319:=Tryz.func210.trans (congrArg some (by kernel_rfl))
 f320:=Tryz.func211.trans (congrArg some (by kernel_rfl))
 f321:=Tryz.func235.trans (congrArg some (by kernel_rfl))
 f322:=Tryz.func236.trans (congrArg some (by kernel_rfl))
 f337:=Tryz.func225.trans (congrArg some (by kernel_rfl))
 f338:=Tryz.func226.trans (congrArg some (by kernel_rfl))
 t0:=Tryz.underlying0
 a0:=Tryz.isAgg0
 z0:=Tryz.sizeOf0
 v0:=Tryz.zeroValue0
 t2:=Tryz.underlying2
 a2:=Tryz.isAgg2
 z2:=Tryz.sizeOf2
 v2:=Tryz.zeroValue2
 t3:=Tryz.underlying3
 a3:=Tryz.isAgg3
 z3:=Tryz.sizeOf3
 v3:=Tryz.zeroValue3
 t4:=Tryz.underlying4
 a4:=Tryz.isAgg4
 z4:=Tryz.sizeOf4
 v4:=Tryz.zeroValue4
 t5:=Tryz.underlying5
 a5:=Tryz.isAgg5
 z5:=Tryz.sizeOf5
 v5:=Tryz.zeroValue5
 t9:=Tryz.underlying9
 a9:=Tryz.isAgg9
 z9:=Tryz.sizeOf9
 v9:=Tryz.zeroValue9
 t20:=Tryz.underlying20
 a20:=Tryz.isAgg20
 z20:=Tryz.sizeOf20
 v20:=Tryz.zeroValue20
 t21:=Tryz.underlying21
 a21:=Tryz.isAgg21
 z21:=Tryz.sizeOf21
 v21:=Tryz.zeroValue21
 t37:=Tryz.underlying112
 a37:=Tryz.isAgg112
 z37:=Tryz.sizeOf112
 v37:=Tryz.zeroValue112
 t46:=Tryz.underlying202
 a46:=Tryz.isAgg202
 z46:=Tryz.sizeOf202
 v46:=Tryz.zeroValue202
 t51:=Tryz.underlying262
 a51:=Tryz.isAgg262
 z51:=Tryz.sizeOf262
 v51:=Tryz.zeroValue262
 t53:=Tryz.underlying167
 a53:=Tryz.isAgg167
 z53:=Tryz.sizeOf167
 v53:=Tryz.zeroValue167
 t75:=Tryz.underlying116
 a75:=Tryz.isAgg116
 z75:=Tryz.sizeOf116
 v75:=Tryz.zeroValue116
 t76:=Tryz.underlying117
 a76:=Tryz.isAgg117
 z76:=Tryz.sizeOf117
 v76:=Tryz.zeroValue117
 t85:=Tryz.underlying266
 a85:=Tryz.isAgg266
 z85:=Tryz.sizeOf266
 v85:=Tryz.zeroValue266
 t127:=Tryz.underlying179
 a127:=Tryz.isAgg179
 z127:=Tryz.sizeOf179
 v127:=Tryz.zeroValue179
 t143:=Tryz.underlying288
 a143:=Tryz.isAgg288
 z143:=Tryz.sizeOf288
 v143:=Tryz.zeroValue288
 t145:=Tryz.underlying290
 a145:=Tryz.isAgg290
 z145:=Tryz.sizeOf290
 v145:=Tryz.zeroValue290
 t167:=Tryz.underlying265
 a167:=Tryz.isAgg265
 z167:=Tryz.sizeOf265
 v167:=Tryz.zeroValue265
 t168:=Tryz.underlying268
 a168:=Tryz.isAgg268
 z168:=Tryz.sizeOf268
 v168:=Tryz.zeroValue268
 t171:=Tryz.underlying248
 a171:=Tryz.isAgg248
 z171:=Tryz.sizeOf248
 v171:=Tryz.zeroValue248
 t173:=Tryz.underlying251
 a173:=Tryz.isAgg251
 z173:=Tryz.sizeOf251
 v173:=Tryz.zeroValue251
 t175:=Tryz.underlying275
 a175:=Tryz.isAgg275
 z175:=Tryz.sizeOf275
 v175:=Tryz.zeroValue275
 t210:=Tryz.underlying279
 a210:=Tryz.isAgg279
 z210:=Tryz.sizeOf279
 v210:=Tryz.zeroValue279
 t212:=Tryz.underlying261
 a212:=Tryz.isAgg261
 z212:=Tryz.sizeOf261
 v212:=Tryz.zeroValue261
 t213:=Tryz.underlying263
 a213:=Tryz.isAgg263
 z213:=Tryz.sizeOf263
 t232:=Tryz.underlying285
 a232:=Tryz.isAgg285
 z232:=Tryz.sizeOf285
 v232:=Tryz.zeroValue285
 t233:=Tryz.underlying286
 a233:=Tryz.isAgg286
 z233:=Tryz.sizeOf286
 v233:=Tryz.zeroValue286
 g15:=by kernel_rfl
 g16:=by kernel_rfl
 g17:=by kernel_rfl
 g18:=by kernel_rfl
 g19:=by kernel_rfl }
open Go.RowKit in
theorem Tryz.strconv_Atoi(s:ByteArray)(n:Int)(hl:s.size≤18)(h:Lib.atoi s.data.toList=some n)(w:World) :
 Calls Tryz.prog 184 #[.string s] w fun e w'=>e = .returned (.tuple #[.int .i64 n,.nilIface])∧∃t,w'=Lib.bytesWorld w 5 t:=Any.strconv_Atoi Tryz.lays172 s n hl h w
def Tryz.laysM171_ren:Go.Shelf.Ren:=⟨fun|171=>44|243=>103|246=>157|283=>191|284=>192|285=>193|286=>194|129=>208|317=>207|318=>209|319=>210|320=>211|337=>225|338=>226|n=>n,fun|3=>3|9=>9|2=>2|4=>4|171=>248|0=>0|53=>167|37=>112|5=>5|173=>251|212=>261|51=>262|20=>20|213=>263|46=>202|232=>285|233=>286|n=>n,fun|17=>1|18=>4|19=>5|n=>n⟩
theorem Tryz.laysM171:Go.Proofs.LaysM.n171 Tryz.prog Tryz.laysM171_ren:={
 mixed:=by kernel_rfl
 f129:=Tryz.func208.trans (congrArg some (by kernel_rfl))
 f171:=Tryz.func44.trans (congrArg some (by kernel_rfl))
 f243:=Tryz.func103.trans (congrArg some (by kernel_rfl))
 f246:=Tryz.func157.trans (congrArg some (by kernel_rfl))
 f283:=Tryz.func191.trans (congrArg some (by kernel_rfl))
 f284:=Tryz.func192.trans (congrArg some (by kernel_rfl))
 f285:=Tryz.func193.trans (congrArg some (by kernel_rfl))
 f286:=Tryz.func194.trans (congrArg some (by kernel_rfl))
 f317:=Tryz.func207.trans (congrArg some (by kernel_rfl))
 f318:=Tryz.func209.trans (congrArg some (by kernel_rfl))
 f319:=Tryz.func210.trans (congrArg some (by kernel_rfl))
 f320:=Tryz.func211.trans (congrArg some (by kernel_rfl))
 f337:=Tryz.func225.trans (congrArg some (by kernel_rfl))
 f338:=Tryz.func226.trans (congrArg some (by kernel_rfl))
 t0:=Tryz.underlying0
 a0:=Tryz.isAgg0
 z0:=Tryz.sizeOf0
 v0:=Tryz.zeroValue0
 t2:=Tryz.underlying2
 a2:=Tryz.isAgg2
 z2:=Tryz.sizeOf2
 v2:=Tryz.zeroValue2
 t3:=Tryz.underlying3
 a3:=Tryz.isAgg3
 z3:=Tryz.sizeOf3
 v3:=Tryz.zeroValue3
 t4:=Tryz.underlying4
 a4:=Tryz.isAgg4
 z4:=Tryz.sizeOf4
 v4:=Tryz.zeroValue4
 t5:=Tryz.underlying5
 a5:=Tryz.isAgg5
 z5:=Tryz.sizeOf5
 v5:=Tryz.zeroValue5
 t9:=Tryz.underlying9
 a9:=Tryz.isAgg9
 z9:=Tryz.sizeOf9
 v9:=Tryz.zeroValue9
 t20:=Tryz.underlying20
 a20:=Tryz.isAgg20
 z20:=Tryz.sizeOf20
 v20:=Tryz.zeroValue20
 t37:=Tryz.underlying112
 a37:=Tryz.isAgg112
 z37:=Tryz.sizeOf112
 v37:=Tryz.zeroValue112
 t46:=Tryz.underlying202
 a46:=Tryz.isAgg202
 z46:=Tryz.sizeOf202
 v46:=Tryz.zeroValue202
 t51:=Tryz.underlying262
 a51:=Tryz.isAgg262
 z51:=Tryz.sizeOf262
 v51:=Tryz.zeroValue262
 t53:=Tryz.underlying167
 a53:=Tryz.isAgg167
 z53:=Tryz.sizeOf167
 v53:=Tryz.zeroValue167
 t171:=Tryz.underlying248
 a171:=Tryz.isAgg248
 z171:=Tryz.sizeOf248
 v171:=Tryz.zeroValue248
 t173:=Tryz.underlying251
 a173:=Tryz.isAgg251
 z173:=Tryz.sizeOf251
 v173:=Tryz.zeroValue251
 t212:=Tryz.underlying261
 a212:=Tryz.isAgg261
 z212:=Tryz.sizeOf261
 v212:=Tryz.zeroValue261
 t213:=Tryz.underlying263
 a213:=Tryz.isAgg263
 z213:=Tryz.sizeOf263
 t232:=Tryz.underlying285
 a232:=Tryz.isAgg285
 z232:=Tryz.sizeOf285
 v232:=Tryz.zeroValue285
 t233:=Tryz.underlying286
 a233:=Tryz.isAgg286
 z233:=Tryz.sizeOf286
 v233:=Tryz.zeroValue286
 g17:=by kernel_rfl
 g18:=by kernel_rfl
 g19:=by kernel_rfl
 i0:=by kernel_rfl
 i2:=by kernel_rfl
 i3:=by kernel_rfl
 i4:=by kernel_rfl
 i5:=by kernel_rfl
 i9:=by kernel_rfl
 i20:=by kernel_rfl
 i37:=by kernel_rfl
 i46:=by kernel_rfl
 i51:=by kernel_rfl
 i53:=by kernel_rfl
 i171:=by kernel_rfl
 i173:=by kernel_rfl
 i212:=by kernel_rfl
 i232:=by kernel_rfl
 i233:=by kernel_rfl
 m17:=by kernel_rfl
 m18:=by kernel_rfl
 m19:=by kernel_rfl }
open Go.RowKit Go.Sort Go.Lib in
theorem Tryz.strconv_Itoa (n:Int) (h0: -9223372036854775808≤n) (h1:n≤9223372036854775807) (w:World) (htab:Lib.TabIs Tryz.prog w "internal/strconv.uint64pow10" .u64 Lib.pow10Tab) :
 Calls Tryz.prog 44 #[.int .i64 n] w fun e w'=>e = .returned (.string ⟨(Lib.itoa n).toArray⟩)∧∃k os,w'=grow (w.drewN k) os:=Any.strconv_Itoa Tryz.laysM171 n h0 h1 w htab
def Tryz.lays145_ren:Go.Shelf.Ren:=⟨fun|145=>152|220=>187|219=>204|217=>217|225=>218|224=>219|267=>220|266=>230|314=>231|n=>n,fun|9=>9|4=>4|59=>209|3=>3|5=>5|46=>202|146=>281|51=>262|n=>n,fun|1=>0|n=>n⟩
theorem Tryz.lays145:Go.Proofs.Lays.n145 Tryz.prog Tryz.lays145_ren:={
 mixed:=by kernel_rfl
 f145:=Tryz.func152.trans (congrArg some (by kernel_rfl))
 f217:=Tryz.func217.trans (congrArg some (by kernel_rfl))
 f219:=Tryz.func204.trans (congrArg some (by kernel_rfl))
 f220:=Tryz.func187.trans (congrArg some (by kernel_rfl))
 f224:=Tryz.func219.trans (congrArg some (by kernel_rfl))
 f225:=Tryz.func218.trans (congrArg some (by kernel_rfl))
 f266:=Tryz.func230.trans (congrArg some (by kernel_rfl))
 f267:=Tryz.func220.trans (congrArg some (by kernel_rfl))
 f314:=Tryz.func231.trans (congrArg some (by kernel_rfl))
 t3:=Tryz.underlying3
 a3:=Tryz.isAgg3
 z3:=Tryz.sizeOf3
 v3:=Tryz.zeroValue3
 t4:=Tryz.underlying4
 a4:=Tryz.isAgg4
 z4:=Tryz.sizeOf4
 v4:=Tryz.zeroValue4
 t5:=Tryz.underlying5
 a5:=Tryz.isAgg5
 z5:=Tryz.sizeOf5
 v5:=Tryz.zeroValue5
 t9:=Tryz.underlying9
 a9:=Tryz.isAgg9
 z9:=Tryz.sizeOf9
 v9:=Tryz.zeroValue9
 t46:=Tryz.underlying202
 a46:=Tryz.isAgg202
 z46:=Tryz.sizeOf202
 v46:=Tryz.zeroValue202
 t51:=Tryz.underlying262
 a51:=Tryz.isAgg262
 z51:=Tryz.sizeOf262
 v51:=Tryz.zeroValue262
 t59:=Tryz.underlying209
 a59:=Tryz.isAgg209
 z59:=Tryz.sizeOf209
 v59:=Tryz.zeroValue209
 t146:=Tryz.underlying281
 a146:=Tryz.isAgg281
 z146:=Tryz.sizeOf281
 v146:=Tryz.zeroValue281
 g1:=by kernel_rfl }
open Go.RowKit Go.Lib in
theorem Tryz.strings_Cut(s sep:ByteArray)(m:Int)(w:World)(hs:s.size<4294967281)(hm:w.cell? ⟨0,0,none⟩=some (.int .i64 m)) :
 Calls Tryz.prog 152 #[.string s,.string sep] w fun e w'=>e = .returned (.tuple #[.string ⟨(Lib.cut s.data.toList sep.data.toList).1.toArray⟩,.string ⟨(Lib.cut s.data.toList sep.data.toList).2.1.toArray⟩,.bool (Lib.cut s.data.toList sep.data.toList).2.2])∧∃n,w'=w.drewN n:=Any.strings_Cut Tryz.lays145 s sep m w hs hm
def Tryz.lays146_ren:Go.Shelf.Ren:=⟨fun|146=>189|221=>206|268=>222|138=>223|143=>224|195=>232|197=>233|218=>234|219=>204|260=>237|217=>217|225=>218|224=>219|267=>220|266=>230|314=>231|n=>n,fun|9=>9|31=>25|3=>3|4=>4|0=>0|105=>283|21=>21|5=>5|46=>202|119=>291|139=>294|138=>293|146=>281|51=>262|n=>n,fun|1=>0|3=>6|4=>7|n=>n⟩
theorem Tryz.lays146:Go.Proofs.Lays.n146 Tryz.prog Tryz.lays146_ren:={
 mixed:=by kernel_rfl
 f138:=Tryz.func223.trans (congrArg some (by kernel_rfl))
 f143:=Tryz.func224.trans (congrArg some (by kernel_rfl))
 f146:=Tryz.func189.trans (congrArg some (by kernel_rfl))
 f195:=Tryz.func232.trans (congrArg some (by kernel_rfl))
 f197:=Tryz.func233.trans (congrArg some (by kernel_rfl))
 f217:=Tryz.func217.trans (congrArg some (by kernel_rfl))
 f218:=Tryz.func234.trans (congrArg some (by kernel_rfl))
 f219:=Tryz.func204.trans (congrArg some (by kernel_rfl))
 f221:=Tryz.func206.trans (congrArg some (by kernel_rfl))
 f224:=Tryz.func219.trans (congrArg some (by kernel_rfl))
 f225:=Tryz.func218.trans (congrArg some (by kernel_rfl))
 f260:=Tryz.func237.trans (congrArg some (by kernel_rfl))
 f266:=Tryz.func230.trans (congrArg some (by kernel_rfl))
 f267:=Tryz.func220.trans (congrArg some (by kernel_rfl))
 f268:=Tryz.func222.trans (congrArg some (by kernel_rfl))
 f314:=Tryz.func231.trans (congrArg some (by kernel_rfl))
 t0:=Tryz.underlying0
 a0:=Tryz.isAgg0
 z0:=Tryz.sizeOf0
 v0:=Tryz.zeroValue0
 t3:=Tryz.underlying3
 a3:=Tryz.isAgg3
 z3:=Tryz.sizeOf3
 v3:=Tryz.zeroValue3
 t4:=Tryz.underlying4
 a4:=Tryz.isAgg4
 z4:=Tryz.sizeOf4
 v4:=Tryz.zeroValue4
 t5:=Tryz.underlying5
 a5:=Tryz.isAgg5
 z5:=Tryz.sizeOf5
 v5:=Tryz.zeroValue5
 t9:=Tryz.underlying9
 a9:=Tryz.isAgg9
 z9:=Tryz.sizeOf9
 v9:=Tryz.zeroValue9
 t21:=Tryz.underlying21
 a21:=Tryz.isAgg21
 z21:=Tryz.sizeOf21
 v21:=Tryz.zeroValue21
 t31:=Tryz.underlying25
 a31:=Tryz.isAgg25
 z31:=Tryz.sizeOf25
 v31:=Tryz.zeroValue25
 t46:=Tryz.underlying202
 a46:=Tryz.isAgg202
 z46:=Tryz.sizeOf202
 v46:=Tryz.zeroValue202
 t51:=Tryz.underlying262
 a51:=Tryz.isAgg262
 z51:=Tryz.sizeOf262
 v51:=Tryz.zeroValue262
 t105:=Tryz.underlying283
 a105:=Tryz.isAgg283
 z105:=Tryz.sizeOf283
 v105:=Tryz.zeroValue283
 t119:=Tryz.underlying291
 a119:=Tryz.isAgg291
 z119:=Tryz.sizeOf291
 t138:=Tryz.underlying293
 a138:=Tryz.isAgg293
 z138:=Tryz.sizeOf293
 v138:=Tryz.zeroValue293
 t139:=Tryz.underlying294
 a139:=Tryz.isAgg294
 z139:=Tryz.sizeOf294
 v139:=Tryz.zeroValue294
 t146:=Tryz.underlying281
 a146:=Tryz.isAgg281
 z146:=Tryz.sizeOf281
 v146:=Tryz.zeroValue281
 g1:=by kernel_rfl
 g3:=by kernel_rfl
 g4:=by kernel_rfl }
open Go.RowKit Go.Lib in
theorem Tryz.strings_Split(s sep:ByteArray)(m:Int)(w:World)(hs:s.size<4294967281)(hm:w.cell? ⟨0,0,none⟩=some (.int .i64 m))(h1:1≤sep.size) :
 Calls Tryz.prog 189 #[.string s,.string sep] w fun e w'=>
  e = .returned (.slice (some ⟨w.heap.size,0,none⟩) (Lib.countB s sep+1) (Lib.countB s sep+1))∧w'=w.alloc (.cells ((Lib.splitB sep 0 (Lib.countB s sep) s).map Value.string).toArray 9):=Any.strings_Split Tryz.lays146 (by kernel_rfl) s sep m w hs hm h1
end Go.Proofs
namespace Go.Proofs.YtmccnilgnlaffaaGreatDoor
open Go.Ex Go.RowKit
set_option maxRecDepth 1000000
def tb(m:Int):List (Nat×List Value):=[(0,[.int .i64 m]),(1,Lib.pow10Tab.map fun z=>Value.int .u64 z)]
theorem tb_ok(m:Int):∀p∈tb m,p.1<8∧p.2.all xK=true:=by
 intro p hp;simp only[tb,List.mem_cons,List.not_mem_nil,or_false]at hp;rcases hp with rfl|rfl
 · exact⟨(by decide:(0:Nat)<8),rfl⟩
 · exact⟨(by decide:(1:Nat)<8),by simp[Lib.pow10Tab,xK]⟩
theorem tb_max{m:Int}{wd:World}(h:TabsIn wd (tb m)):wd.cell? ⟨0,0,none⟩=some (.int .i64 m):=by
 obtain⟨el,fr,e⟩:=h (0,[.int .i64 m]) (by simp[tb]);unfold World.cell?;dsimp only at e ⊢;rw [e];rfl
theorem tb_pow{m:Int}{wd:World}(h:TabsIn wd (tb m)):Lib.TabIs P wd "internal/strconv.uint64pow10" .u64 Lib.pow10Tab:=by
 obtain⟨el,fr,e⟩:=h (1,Lib.pow10Tab.map fun z=>Value.int .u64 z) (by simp[tb]);unfold Lib.TabIs World.var?;rw [show P.globalNamed "internal/strconv.uint64pow10" = some 1 by kernel_rfl];simp only[Option.bind_some];dsimp only at e;rw [e]
theorem h_cut:hasB P 152=true:=by kernel_rfl
theorem h_cutPrefix:hasB P 188=true:=by kernel_rfl
theorem h_split:hasB P 189=true:=by kernel_rfl
theorem h_join:hasB P 43=true:=by kernel_rfl
theorem h_itoa:hasB P 44=true:=by kernel_rfl
theorem h_check:hasB P 101=true:=by kernel_rfl
theorem h_string:hasB P 46=true:=by kernel_rfl
theorem cut_pure{m:Int}{h:zB}(n:Nat)(ht:TabsH (tb m) h)(s:List UInt8)(c:UInt8)(hs:s.length<1000000) :
 Pure P 8 152 [str s,str [c]] h n (.tuple #[str (cutB c s).1,str (cutB c s).2.1,.bool (cutB c s).2.2]):=by
 refine uF h_cut rfl rfl ht (tb_ok m) fun wd hw=>?_;refine(Tryz.strings_Cut ⟨⟨s⟩⟩ ⟨#[c]⟩ m wd ?_ (tb_max hw)).mono fun e w' ⟨he,k,hw'⟩=>?_
 · show s.length<_;omega
 · subst hw';refine⟨?_,below_drewN (Below.refl _ _) k⟩;rw [he];show Ending.returned (.tuple #[.string ⟨(Lib.cut s [c]).1.toArray⟩,.string ⟨(Lib.cut s [c]).2.1.toArray⟩,.bool (Lib.cut s [c]).2.2])=_;rw [cut_one]
theorem cutPrefix_pure{h:zB}(n:Nat)(s p:List UInt8) :
 Pure P 8 188 [str s,str p] h n (.tuple #[str (Lib.trimPrefix s p),.bool (Lib.hasPrefix s p)]):=by
 refine uF (tabs:=[]) h_cutPrefix rfl rfl (fun _ h=>by cases h) (fun _ h=>by cases h) fun wd hw=>?_;refine(Tryz.strings_CutPrefix ⟨⟨s⟩⟩ ⟨⟨p⟩⟩ wd).mono fun e w' ⟨he,hw'⟩=>?_;subst hw';exact⟨he,Below.refl _ _⟩
theorem split_rets{m:Int}{h:zB}(n:Nat)(ht:TabsH (tb m) h)(s:List UInt8)(c:UInt8)(hs:s.length<1000000) :
 Rets P 8 189 [str s,str [c]] h n fun v' h' n'=>v' = .slice (some ⟨n,0,none⟩) (wN c s).length (wN c s).length∧h'=h.set .dead (mkC ((wN c s).map str) 0 0) n∧n'=n+1:=by
 have hl:(wN c s).length<1000001:=by rw[splitL_length];have:=List.count_le_length (a:=c) (l:=s);omega
 refine row_of_calls h_split rfl ?_ (Nat.le_refl _) ?_ ht (tb_ok m) (el:=9) fun wd hw=>?_
 · simp[xK]
 · unfold inf;omega
 · refine(Tryz.strings_Split ⟨⟨s⟩⟩ ⟨#[c]⟩ m wd ?_ (tb_max hw) (Nat.le_refl 1)).mono fun e w' ⟨he,hw'⟩=>?_
   · show s.length<_;omega
   · have e1:Lib.countB ⟨⟨s⟩⟩ ⟨#[c]⟩+1=(wN c s).length:=by rw[count_one,splitL_length]
     have e2:(Lib.splitB ⟨#[c]⟩ 0 (Lib.countB ⟨⟨s⟩⟩ ⟨#[c]⟩) ⟨⟨s⟩⟩).map Value.string=(wN c s).map str:=by
      have:=split_one c ⟨⟨s⟩⟩;rw [← this,List.map_map];apply List.map_congr_left;intro x _;rfl
     rw[e1]at he;refine⟨he,?_⟩;rw [hw',e2]
theorem join_pure{h:zB}{n:Nat}{sv:Value}{el:Nat}(ls:List (List UInt8))(sep:List UInt8)(r:Row n h sv el 1 ls.length (ls.map str))(hn:ls.length<1000000)(hl:(Lib.join ls sep).length<1000000) :
 Pure P 8 43 [sv,str sep] h n (str (Lib.join ls sep)):=by
 refine pure_of_calls_row (tabs:=[]) h_join r (by simp[xK]) rfl rfl (fun _ h=>by cases h) (fun _ h=>by cases h) fun wd sv' _ hsv=>?_;rcases hsv with⟨h0,a,c,rfl⟩|⟨bk,o,c,rfl,hc,hb,hcells⟩
 · have:ls=[]:=List.length_eq_zero_iff.1 h0;subst this;refine(Tryz.strings_Join_none a c ⟨⟨sep⟩⟩ wd).mono fun e w' ⟨he,hw'⟩=>?_;subst hw';exact⟨he,Below.refl _ _⟩
 · have e1:(ls.map fun l=>(⟨⟨l⟩⟩:ByteArray)).length=ls.length:=List.length_map ..;have e2:(ls.map fun l=>(⟨⟨l⟩⟩:ByteArray)).map (·.data.toList)=ls:=by rw[List.map_map];exact List.map_id' _
   have:=Tryz.strings_Join bk o c (ls.map fun l=>(⟨⟨l⟩⟩:ByteArray)) ⟨⟨sep⟩⟩ wd (fun j x hj=>hcells j (.string x) (by
    rw[List.getElem?_map]at hj ⊢
    cases e:ls[j]? with
    | none=>rw [e]at hj;cases hj
    | some l=>rw [e]at hj;injection hj with hj;subst hj;rfl)) hb (by rw[e1];omega) (by rw[e1];exact hc) (by rw[e2];show(Lib.join ls sep).length≤_;omega)
   rw[e1,e2]at this;exact this.mono fun _ _ ⟨he,hw'⟩=>⟨he,hw'⟩
theorem itoa_pure{m:Int}{h:zB}(n:Nat)(ht:TabsH (tb m) h)(a:Int)(h0: -9223372036854775808≤a)(h1:a≤9223372036854775807) :
 Pure P 8 44 [.int .i64 a] h n (str (Lib.itoa a)):=by
 refine uF h_itoa rfl rfl ht (tb_ok m) fun wd hw=>?_;refine(Tryz.strconv_Itoa a h0 h1 wd (tb_pow hw)).mono fun e w' ⟨he,k,os,hw'⟩=>?_;subst hw';exact⟨he,Lib.below_grow _ _ (Nat.le_refl _) k os⟩
theorem h_atoi:hasB P 184=true:=by kernel_rfl
theorem atoi_pure{h:zB}(n:Nat)(s:List UInt8)(v:Int)(hs:s.length≤18)(hv:Lib.atoi s=some v) :
 Pure P 8 184 [str s] h n (.tuple #[.int .i64 v,.nilIface]):=by
 refine uF (tabs:=[]) h_atoi rfl rfl (fun _ h=>by cases h) (fun _ h=>by cases h) fun wd hw=>?_;refine(Tryz.strconv_Atoi ⟨⟨s⟩⟩ v hs hv wd).mono fun e w' ⟨he,t,hw'⟩=>?_;subst hw';exact⟨he,Lib.bytesWorld_below _ _ _⟩
theorem check_fresh{b n:Nat}{h:zB}{sv:Value}(hB:Bld 114 h b (.pointer none) sv) :
 Rets P 8 101 [.pointer (some ⟨b,0,none⟩)] h n fun v h' n'=>v = .tuple #[]∧h'=h.set .dead (stC (zF h b) 0 [.pointer (some ⟨b,0,none⟩)]) b∧n'=n:=
 copyCheck_fresh h_check hB fun wd c h1 h2 h3=>Any.Builder_copyCheck_fresh { Tryz.lays156 with } { Tryz.Builder_Extra_156 with } c wd h1 h2 h3
theorem check_used{b n:Nat}{h:zB}{sv:Value}(hB:Bld 114 h b (.pointer (some ⟨b,0,none⟩)) sv) :
 Rets P 8 101 [.pointer (some ⟨b,0,none⟩)] h n fun v h' n'=>v = .tuple #[]∧h'=h∧n'=n:=
 copyCheck_used h_check hB fun wd c h1=>Any.Builder_copyCheck_used { Tryz.lays156 with } { Tryz.Builder_Extra_156 with } c wd h1
theorem string_rets{b lo n:Nat}{h:zB}{p sv:Value}{l:List UInt8}(hB:Bld 114 h b p sv)(ho:Own lo n h sv 5 1 l.length (bytesV l))(hne:zO sv≠some b)(hlen:l.length<1000000) :
 Rets P 8 46 [.pointer (some ⟨b,0,none⟩)] h n fun v h' n'=>v=str l∧n'=n∧(∀b',zO sv≠some b'→zF h' b'=zF h b'):=
 builder_String h_string hB ho hne hlen
  (fun wd c x hx=>(Any.Builder_String_nil Tryz.lays169 Tryz.Builder_Extra_169 wd.heap.size c x wd hx).mono fun _ _ ⟨he,hb⟩=>⟨he,hb⟩)
  (fun wd c g cap x cur h0 h1 h2 h3 h4 h5=>(string_model Tryz.lays169 Tryz.Builder_Extra_169 c g cap x cur l wd h0 hlen h1 h2 h3 h4 h5).mono fun _ _ ⟨he,hb⟩=>⟨he,hb⟩)
end Go.Proofs.YtmccnilgnlaffaaGreatDoor
