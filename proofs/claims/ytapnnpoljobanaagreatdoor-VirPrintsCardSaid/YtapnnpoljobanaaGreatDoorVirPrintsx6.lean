/- What the law leans on: an executor of the model that is sound, deduction over it, and the walks through the code (part 6 of 6). Conditions: those that each theorem states. -/
import Derived.Test.YtapnnpoljobanaaGreatDoorVirPrintsx5
import Derived.ChangeArms
import Derived.Carry

set_option linter.unusedVariables false
set_option linter.unusedSimpArgs false
namespace Go.Proofs.YtapnnpoljobanaaGreatDoor
open Go.Ex Go.Ex.Vir Go.RowKit
set_option maxRecDepth 100000
set_option maxHeartbeats 4000000
structure FBox (n:Nat) (h:zH) (b:Nat) (f:Fct) (vv pv bv:Value) (svs:List Value):Prop where
 c:Cel h b 0 [str f.name,vv,pv,str f.result,bv]
 r1:Row n h vv 9 1 f.vregs.length (f.vregs.map str)
 r2:Row n h pv 3 1 f.params.length (f.params.map I64)
 r3:BlksRow n h bv f.blocks svs
theorem FBox.l0{n b:Nat}{h:zH}{f:Fct}{vv pv bv:Value}{svs:List Value}(x:FBox n h b f vv pv bv svs):zE P 9 h (ptr b 0)=some (str f.name):=zG x.c sh9 rfl
theorem FBox.l3{n b:Nat}{h:zH}{f:Fct}{vv pv bv:Value}{svs:List Value}(x:FBox n h b f vv pv bv svs):zE P 9 h (.pointer (some ⟨b,3,none⟩))=some (str f.result):=zG x.c sh9 rfl
theorem FBox.l1{n b:Nat}{h:zH}{f:Fct}{vv pv bv:Value}{svs:List Value}(x:FBox n h b f vv pv bv svs):zE P 23 h (.pointer (some ⟨b,1,none⟩))=some vv:=zG x.c sh23 rfl
theorem FBox.l2{n b:Nat}{h:zH}{f:Fct}{vv pv bv:Value}{svs:List Value}(x:FBox n h b f vv pv bv svs):zE P 40 h (.pointer (some ⟨b,2,none⟩))=some pv:=zG x.c sh40 rfl
theorem FBox.l4{n b:Nat}{h:zH}{f:Fct}{vv pv bv:Value}{svs:List Value}(x:FBox n h b f vv pv bv svs):zE P 41 h (.pointer (some ⟨b,4,none⟩))=some bv:=zG x.c sh41 rfl
theorem FBox.n1{n b:Nat}{h:zH}{f:Fct}{vv pv bv:Value}{svs:List Value}(x:FBox n h b f vv pv bv svs):zX P .len [23] [vv] h=some (I64 (f.vregs.length:Nat)):=yX us23 x.r1 [] h
theorem FBox.n2{n b:Nat}{h:zH}{f:Fct}{vv pv bv:Value}{svs:List Value}(x:FBox n h b f vv pv bv svs):zX P .len [40] [pv] h=some (I64 (f.params.length:Nat)):=yX us40 x.r2 [] h
theorem FBox.n4{n b:Nat}{h:zH}{f:Fct}{vv pv bv:Value}{svs:List Value}(x:FBox n h b f vv pv bv svs):zX P .len [41] [bv] h=some (I64 (f.blocks.length:Nat)):=yX us41 x.r3.1 [] h
theorem fbox_of{f:Fct}{fv:Value}{h:zH}{n:Nat}(hf:FunAt n h fv f){K:KH}(hK:∀h1 vv pv bv svs,FBox (n+1) h1 n f vv pv bv svs→Ext h n h1 (n+1)→fv = .agg ⟨[str f.name,vv,pv,str f.result,bv]⟩→K h1 (n+1) (ptr n 0)=true):eBox fv h n K=true:=by
 obtain⟨vv,pv,bv,svs,rfl,r1,r2,r3,r4,r5⟩:=hf;refine tE (fun x hx=>?_) fun h1 c1 x1=>?_
 · have hx:x∈[str f.name,vv,pv,str f.result,bv]:=hx;simp only[List.mem_cons,List.not_mem_nil,or_false]at hx;rcases hx with rfl|rfl|rfl|rfl|rfl
   · rfl
   · exact r1.1.one
   · exact r2.1.one
   · rfl
   · exact r3.1.one
 exact hK h1 vv pv bv svs ⟨c1,r1.1.ext x1,r2.1.ext x1,⟨r3.1.ext x1,r4,fun k l v a b=>(r5 k l v a b).ext x1⟩⟩ x1 rfl
theorem rNames_loop(f:Fct)(fb:Nat)(vv pv bv:Value)(svs:List Value)(h:zH)(n:Nat)(X:FBox n h fb f vv pv bv svs)(hlen:f.vregs.length<1000000)(u:Option yF)(ka:KX):∀(m i:Nat),m+i=f.vregs.length→∀t,zA t 1=ptr fb 0→zA t 5=I64 (i:Nat)→
 ((f.vregs.drop i).all named=true→∀t',zA t' 1=ptr fb 0→ka (.exit 0) t' ⟨[],u,h,n⟩=true)→((f.vregs.drop i).all named=false→∀t',zA t' 2 = .bool false→ka .ret t' ⟨[],u,h,n⟩=true)→
 lpS P 8 1000006 ⟨18,none,false⟩ t ⟨[],u,h,n⟩ ka=true:=by
 intro m
 induction m with
 | zero=>
  intro i hi t t1 t5 hE hR;refine yK zK mixed (hint:=pP) l18 lp18_1000006 ?_;rw [B18_1000006_eq];unfold B18_1000006;rw [t1,t5];have e3:wB (i:Nat) (f.vregs.length:Nat)=false:=by rw[zT];exact decide_eq_false (by omega)
  simp only[↓zF,↓zD];refine zO ?_;simp only[↓tB,↓zC,↓X.l1,↓X.n1,↓zD,↓e3,↓zY,↓wT];refine hE ?_ _ rfl;rw [List.drop_eq_nil_of_le (by omega)];rfl
 | succ m ih=>
  intro i hi t t1 t5 hE hR;have hlt:i<f.vregs.length:=by omega
  have hd:f.vregs.drop i=f.vregs[i]::f.vregs.drop (i+1):=List.drop_eq_getElem_cons hlt;obtain⟨q,q1,q2⟩:=xG (P:=P) (k:=.i64) X.r1 ix23 (tl:=9) sh9 (i:=i) (x:=str f.vregs[i]) (by rw[List.getElem?_map,List.getElem?_eq_getElem hlt];rfl);generalize f.vregs[i]=y at hd q2
  have ea:(y::f.vregs.drop (i+1)).all named=(named y && (f.vregs.drop (i+1)).all named):=rfl;rw [hd,ea]at hE hR;refine yK zK mixed (hint:=pP) l18 lp18_1000006 ?_;rw [B18_1000006_eq];unfold B18_1000006;rw [t1,t5];have e3:wB (i:Nat) (f.vregs.length:Nat)=true:=by rw[zT];exact decide_eq_true (by omega)
  simp only[↓zF,↓zD];refine zO ?_;simp only[↓tB,↓zC,↓X.l1,↓X.n1,↓zD,↓e3,↓zY,↓wP];refine wG (fun t w=>zA t 1=ptr fb 0∧zA t 5=I64 (i:Nat)∧w=⟨[],u,h,n⟩∧named y=true) (fun t w q=>?_) (fun kk hkk=>?_)
  · obtain⟨p1,p5,rfl,py⟩:=q;rw [py]at hE hR;simp only[p1,p5,↓zF,↓zD];refine zO ?_;refine vT (by omega) ?_;exact ih (i+1) (by omega) _ rfl rfl hE hR
  · simp only[↓tB,↓zC,↓X.l1,↓q1,↓q2];refine zU (rQ _ h n) ?_;cases hs:named y <;> rw[hs]at hE hR hkk <;> simp only[↓xD,↓zC,↓zI,↓Bool.not_true,↓Bool.not_false,↓wP,↓wT]
    · exact hR rfl _ rfl
    · exact hkk _ _ ⟨rfl,rfl,rfl,rfl⟩
theorem rParams_loop(f:Fct)(fb:Nat)(vv pv bv:Value)(svs:List Value)(h:zH)(n:Nat)(X:FBox n h fb f vv pv bv svs)(hlen:f.params.length<1000000)(u:Option yF)(ka:KX):∀(m i:Nat),m+i=f.params.length→∀t,zA t 1=ptr fb 0→zA t 7=I64 (i:Nat)→
 ((f.params.drop i).all xS=true→∀t',zA t' 1=ptr fb 0→ka (.exit 2) t' ⟨[],u,h,n⟩=true)→((f.params.drop i).all xS=false→∀t',zA t' 2 = .bool false→ka .ret t' ⟨[],u,h,n⟩=true)→
 lpS P 8 1000012 ⟨18,none,false⟩ t ⟨[],u,h,n⟩ ka=true:=by
 intro m
 induction m with
 | zero=>
  intro i hi t t1 t5 hE hR;refine yK zK mixed (hint:=pP) l18 lp18_1000012 ?_;rw [B18_1000012_eq];unfold B18_1000012;rw [t1,t5];have e3:wB (i:Nat) (f.params.length:Nat)=false:=by rw[zT];exact decide_eq_false (by omega)
  simp only[↓zF,↓zD];refine zO ?_;simp only[↓oM,↓zC,↓X.l2,↓X.n2,↓zD,↓e3,↓zY,↓wT];refine hE ?_ _ rfl;rw [List.drop_eq_nil_of_le (by omega)];rfl
 | succ m ih=>
  intro i hi t t1 t5 hE hR;have hlt:i<f.params.length:=by omega
  have hd:f.params.drop i=f.params[i]::f.params.drop (i+1):=List.drop_eq_getElem_cons hlt;obtain⟨q,q1,q2⟩:=xG (P:=P) (k:=.i64) X.r2 ix40 (tl:=3) sh3 (i:=i) (x:=I64 f.params[i]) (by rw[List.getElem?_map,List.getElem?_eq_getElem hlt];rfl);generalize f.params[i]=y at hd q2
  have ea:(y::f.params.drop (i+1)).all xS=(xS y && (f.params.drop (i+1)).all xS):=rfl;rw [hd,ea]at hE hR;refine yK zK mixed (hint:=pP) l18 lp18_1000012 ?_;rw [B18_1000012_eq];unfold B18_1000012;rw [t1,t5];have e3:wB (i:Nat) (f.params.length:Nat)=true:=by rw[zT];exact decide_eq_true (by omega)
  simp only[↓zF,↓zD];refine zO ?_;simp only[↓oM,↓zC,↓X.l2,↓X.n2,↓zD,↓e3,↓zY,↓wP];refine wG (fun t w=>zA t 1=ptr fb 0∧zA t 7=I64 (i:Nat)∧w=⟨[],u,h,n⟩∧xS y=true) (fun t w q=>?_) (fun kk hkk=>?_)
  · obtain⟨p1,p5,rfl,py⟩:=q;rw [py]at hE hR;simp only[p1,p5,↓zF,↓zD];refine zO ?_;refine vT (by omega) ?_;exact ih (i+1) (by omega) _ rfl rfl hE hR
  · simp only[↓oM,↓zC,↓X.l2,↓q1,↓q2,↓zD];refine zU (rsmall_pure _ h n) ?_;cases hs:xS y <;> rw[hs]at hE hR hkk <;> simp only[↓xD,↓zC,↓zI,↓Bool.not_true,↓Bool.not_false,↓wP,↓wT]
    · exact hR rfl _ rfl
    · exact hkk _ _ ⟨rfl,rfl,rfl,rfl⟩
theorem rIns_loop(f:Fct)(fb:Nat)(vv pv bv:Value)(svs:List Value)(h:zH)(n:Nat)(X:FBox n h fb f vv pv bv svs)(b:Nat)(q:Value)(l:List Ins)(bl:Value)(q1:zR P 41 bv (.int .i64 (b:Nat))=some q)(q2:zE P 51 h q=some bl)(hb:BlkRO [] n h bl l)(hfit:∀i∈l,InsFit i)(hlen:l.length<1000000)(u:Option yF)(ka:KX):∀(m i:Nat),m+i=l.length→∀t,zA t 1=ptr fb 0→zA t 9=I64 (b:Nat)→zA t 10=I64 (i:Nat)→
 ((l.drop i).all wL=true→∀t',zA t' 1=ptr fb 0→zA t' 9=I64 (b:Nat)→ka (.exit 6) t' ⟨[],u,h,n⟩=true)→((l.drop i).all wL=false→∀t',zA t' 2 = .bool false→ka .ret t' ⟨[],u,h,n⟩=true)→
 lpS P 8 1000023 ⟨18,none,false⟩ t ⟨[],u,h,n⟩ ka=true:=by
 obtain⟨av,⟨ha1,ha2⟩,hr⟩:=id hb;have fl:=yX (P:=P) us51 hr.1 [] h;intro m
 induction m with
 | zero=>
  intro i hi t t1 t9 t10 hE hR;refine yK zK mixed (hint:=pP) l18 lp18_1000023 ?_;rw [B18_1000023_eq];unfold B18_1000023;rw [t1,t9,t10];have e3:wB (i:Nat) (l.length:Nat)=false:=by rw[zT];exact decide_eq_false (by omega)
  simp only[↓zF,↓zD];refine zO ?_;simp only[↓vP,↓zC,↓X.l4,↓q1,↓q2,↓fl,↓zD,↓e3,↓zY,↓wT];refine hE ?_ _ rfl rfl;rw [List.drop_eq_nil_of_le (by omega)];rfl
 | succ m ih=>
  intro i hi t t1 t9 t10 hE hR;have hlt:i<l.length:=by omega
  have hd:l.drop i=l[i]::l.drop (i+1):=List.drop_eq_getElem_cons hlt;have hlt2:i<av.length:=by omega
  have hg:l[i]? = some l[i]:=List.getElem?_eq_getElem hlt;have hga:av[i]? = some av[i]:=List.getElem?_eq_getElem hlt2;have hfl:=rP ha1 hg hga;have hra:=(ha2 i _ _ hg hga).1;obtain⟨p,p1,p2⟩:=tL (P:=P) (k:=.i64) hr.1 ix51 (tl:=50) sh50 (by decide) hlt;rw [hfl]at p2;have hfi:=hfit _ (List.getElem_mem hlt);generalize l[i]=y at hd p2 hra hfi
  generalize av[i]=sv at p2 hra
  have ea:(y::l.drop (i+1)).all wL=(wL y && (l.drop (i+1)).all wL):=rfl;rw [hd,ea]at hE hR;refine yK zK mixed (hint:=pP) l18 lp18_1000023 ?_;rw [B18_1000023_eq];unfold B18_1000023;rw [t1,t9,t10];have e3:wB (i:Nat) (l.length:Nat)=true:=by rw[zT];exact decide_eq_true (by omega)
  simp only[↓zF,↓zD];refine zO ?_;simp only[↓vP,↓zC,↓X.l4,↓q1,↓q2,↓fl,↓zD,↓e3,↓zY,↓wP];refine wG (fun t w=>zA t 1=ptr fb 0∧zA t 9=I64 (b:Nat)∧zA t 10=I64 (i:Nat)∧w=⟨[],u,h,n⟩∧wL y=true) (fun t w q=>?_) (fun kk hkk=>?_)
  · obtain⟨w1,w9,w10,rfl,py⟩:=q;rw [py]at hE hR;simp only[w1,w9,w10,↓zF,↓zD];refine zO ?_;refine vT (by omega) ?_;exact ih (i+1) (by omega) _ rfl rfl rfl hE hR
  · simp only[↓vP,↓zC,↓X.l4,↓q1,↓q2,↓p1,↓p2];refine zU (rplainIns_pure y sv h n hra (by have:=hfi.2;omega)) ?_;cases hs:wL y <;> rw[hs]at hE hR hkk <;> simp only[↓xD,↓zC,↓zI,↓Bool.not_true,↓Bool.not_false,↓wP,↓wT]
    · exact hR rfl _ rfl
    · exact hkk _ _ ⟨rfl,rfl,rfl,rfl,rfl⟩
theorem rBlks_loop(f:Fct)(fb:Nat)(vv pv bv:Value)(svs:List Value)(h:zH)(n:Nat)(X:FBox n h fb f vv pv bv svs)(hlen:f.blocks.length<1000000)(hfit:∀b∈f.blocks,b.length<1000000∧∀i∈b,InsFit i)(u:Option yF)(ka:KX):∀(m i:Nat),m+i=f.blocks.length→∀t,zA t 1=ptr fb 0→zA t 9=I64 (i:Nat)→
 ((f.blocks.drop i).all plainB=true→∀t',zA t' 1=ptr fb 0→ka (.exit 4) t' ⟨[],u,h,n⟩=true)→((f.blocks.drop i).all plainB=false→∀t',zA t' 2 = .bool false→ka .ret t' ⟨[],u,h,n⟩=true)→
 lpS P 8 1000018 ⟨18,none,false⟩ t ⟨[],u,h,n⟩ ka=true:=by
 intro m
 induction m with
 | zero=>
  intro i hi t t1 t5 hE hR;refine yK zK mixed (hint:=pP) l18 lp18_1000018 ?_;rw [B18_1000018_eq];unfold B18_1000018;rw [t1,t5];have e3:wB (i:Nat) (f.blocks.length:Nat)=false:=by rw[zT];exact decide_eq_false (by omega)
  simp only[↓zF,↓zD];refine zO ?_;simp only[↓vP,↓zC,↓X.l4,↓X.n4,↓zD,↓e3,↓zY,↓wT];refine hE ?_ _ rfl;rw [List.drop_eq_nil_of_le (by omega)];rfl
 | succ m ih=>
  intro i hi t t1 t5 hE hR;have hlt:i<f.blocks.length:=by omega
  have hd:f.blocks.drop i=f.blocks[i]::f.blocks.drop (i+1):=List.drop_eq_getElem_cons hlt;have hlt2:i<svs.length:=by have:=X.r3.2.1;omega
  have hg:f.blocks[i]? = some f.blocks[i]:=List.getElem?_eq_getElem hlt;have hga:svs[i]? = some svs[i]:=List.getElem?_eq_getElem hlt2;have hbo:=X.r3.2.2 i _ _ hg hga;obtain⟨q,q1,q2⟩:=xG (P:=P) (k:=.i64) X.r3.1 ix41 (tl:=51) sh51 (i:=i) (x:=svs[i]) hga;have hfi:=hfit _ (List.getElem_mem hlt);generalize f.blocks[i]=y at hd q2 hbo hfi
  generalize svs[i]=bl at q2 hbo
  obtain⟨av,_,hrow⟩:=id hbo;have fl:=yX (P:=P) us51 hrow.1 [] h;have ea:(y::f.blocks.drop (i+1)).all plainB=(plainB y && (f.blocks.drop (i+1)).all plainB):=rfl;rw [hd,ea]at hE hR;refine yK zK mixed (hint:=pP) l18 lp18_1000018 ?_;rw [B18_1000018_eq];unfold B18_1000018;rw [t1,t5];have e3:wB (i:Nat) (f.blocks.length:Nat)=true:=by rw[zT];exact decide_eq_true (by omega)
  simp only[↓zF,↓zD];refine zO ?_;simp only[↓vP,↓zC,↓X.l4,↓X.n4,↓zD,↓e3,↓zY,↓wP];refine wG (fun t w=>zA t 1=ptr fb 0∧zA t 9=I64 (i:Nat)∧w=⟨[],u,h,n⟩∧plainB y=true) (fun t w q=>?_) (fun kk hkk=>?_)
  · obtain⟨p1,p5,rfl,py⟩:=q;rw [py]at hE hR;simp only[p1,p5,↓zF,↓zD];refine zO ?_;refine vT (by omega) ?_;exact ih (i+1) (by omega) _ rfl rfl hE hR
  · simp only[↓vP,↓zC,↓X.l4,↓q1,↓q2,↓fl,↓zD];have hpb:plainB y=(decide (y.length≤400) && y.all wL):=rfl;by_cases g4:y.length≤400
    · have e4:wB 400 (y.length:Nat)=false:=by rw[zT];exact decide_eq_false (by omega)
      rw[decide_eq_true g4,Bool.true_and]at hpb;simp only[↓e4,↓zY,↓wT];refine rIns_loop f fb vv pv bv svs h n X i q y bl q1 q2 hbo hfi.2 hfi.1 u _ _ 0 (Nat.add_zero _) _ rfl rfl rfl (fun ha t' w1 w9=>?_) (fun ha t' w2=>?_)
      · rw[List.drop_zero,← hpb]at ha;simp only[↓zM,↓zN];simp only[w1,w9,↓zF,↓zD];refine zO ?_;exact hkk _ _ ⟨rfl,rfl,rfl,ha⟩
      · rw[List.drop_zero,← hpb]at ha;rw [ha]at hR;simp only[↓yC,↓yD];exact hR rfl _ w2
    · have e4:wB 400 (y.length:Nat)=true:=by rw[zT];exact decide_eq_true (by omega)
      rw[decide_eq_false g4,Bool.false_and]at hpb;rw [hpb]at hR;simp only[↓e4,↓zY,↓wP];exact hR rfl _ rfl
def rplainF(f:Fct):Bool:=named f.name && (named f.result && (decide (f.vregs.length≤500) && (decide (f.params.length≤16) && (decide (f.blocks.length≤200) && (f.vregs.all named && (f.params.all xS && f.blocks.all plainB))))))
theorem rplainF_eq(f:Fct):rplainF f=rG f:=by
 rw[plainF_eq];unfold rplainF;generalize named f.name=b1;generalize named f.result=b2;generalize decide (f.vregs.length≤500)=b3;generalize decide (f.params.length≤16)=b4;generalize decide (f.blocks.length≤200)=b5;generalize f.vregs.all named=b6;generalize f.params.all xS=b7;generalize f.blocks.all plainB=b8
 revert b1 b2 b3 b4 b5 b6 b7 b8;decide
theorem rplain_pure(f:Fct)(fv:Value)(h:zH)(n:Nat)(hf:FunAt n h fv f)(hfit:FctFit f):pA P 8 18 [fv] h n (.bool (rG f)):=by
 rw[← rplainF_eq];obtain⟨z1,z2,z3,z4⟩:=hfit;refine Rets.pureE (zZ zK mixed (hint:=pP) l18 fun u k hk=>?_) (.inl rfl);rw [F18_eq];unfold F18;refine fbox_of hf fun h1 vv pv bv svs X x1 _=>?_;have fin:∀t,rplainF f=false→zA t 2 = .bool false→zJ P (loS P 8) 18 k .ret t ⟨[],u,h1,n+1⟩=true:=fun t e ht=>zV r18 ht (hk _ _ _ ⟨by rw[e],x1⟩);simp only[↓fa43_0,↓zC,↓X.l0];refine zU (rQ f.name h1 (n+1)) ?_;simp only[↓fa43_3,↓zC,↓X.l3];refine zU (rQ f.result h1 (n+1)) ?_;simp only[↓xD,↓zC,↓zI];unfold rplainF at hk fin
 cases g1:named f.name with
 | false=>
  simp only[↓Bool.not_false,↓rM,↓xJ,↓yR,↓zI,↓wP];exact fin _ (by rw[g1];rfl) rfl
 | true=>
 rw[g1]at hk fin;simp only[↓Bool.not_true,↓sR,↓yS,↓xD,↓zC,↓zI]
 cases g2:named f.result with
 | false=>
  simp only[↓Bool.not_false,↓yV,↓zI,↓rM,↓xJ,↓yR,↓wP];exact fin _ (by rw[g2];rfl) rfl
 | true=>
 rw[g2]at hk fin;simp only[↓Bool.not_true,↓yV,↓zI,↓sR,↓yS,↓tB,↓zC,↓X.l1,↓X.n1,↓zD,↓cmp_gtr];by_cases g3:(500:Int)<(f.vregs.length:Nat)
 · simp only[↓decide_eq_true g3,↓yV,↓zI,↓rM,↓xJ,↓yR,↓wP];exact fin _ (by rw[decide_eq_false (show ¬f.vregs.length≤500 by omega)];rfl) rfl
 rw[decide_eq_true (show f.vregs.length≤500 by omega)]at hk fin;simp only[↓decide_eq_false g3,↓yV,↓zI,↓sR,↓yS,↓oM,↓zC,↓X.l2,↓X.n2,↓zD,↓cmp_gtr];by_cases g4:(16:Int)<(f.params.length:Nat)
 · simp only[↓decide_eq_true g4,↓yV,↓zI,↓rM,↓xJ,↓yR,↓wP];exact fin _ (by rw[decide_eq_false (show ¬f.params.length≤16 by omega)];rfl) rfl
 rw[decide_eq_true (show f.params.length≤16 by omega)]at hk fin;simp only[↓decide_eq_false g4,↓yV,↓zI,↓sR,↓yS,↓vP,↓zC,↓X.l4,↓X.n4,↓zD,↓cmp_gtr];by_cases g5:(200:Int)<(f.blocks.length:Nat)
 · simp only[↓decide_eq_true g5,↓yV,↓zI,↓wP];exact fin _ (by rw[decide_eq_false (show ¬f.blocks.length≤200 by omega)];rfl) rfl
 rw[decide_eq_true (show f.blocks.length≤200 by omega)]at hk fin;simp only[↓decide_eq_false g5,↓yV,↓zI,↓wT];refine rNames_loop f n vv pv bv svs h1 (n+1) X z1 u _ _ 0 (Nat.add_zero _) _ rfl rfl (fun ha t' w1=>?_) (fun ha t' w2=>?_)
 rotate_left
 · rw[List.drop_zero]at ha;simp only[↓yC,↓yD];exact fin _ (by rw[ha];rfl) w2
 rw[List.drop_zero]at ha;rw [ha]at hk fin;simp only[↓zM,↓zN];simp only[w1,↓zF];refine zO ?_;refine rParams_loop f n vv pv bv svs h1 (n+1) X (by omega) u _ _ 0 (Nat.add_zero _) _ rfl rfl (fun ha t' w1=>?_) (fun ha t' w2=>?_)
 rotate_left
 · rw[List.drop_zero]at ha;simp only[↓yC,↓yD];exact fin _ (by rw[ha];rfl) w2
 rw[List.drop_zero]at ha;rw [ha]at hk fin;simp only[↓zM,↓zN];simp only[w1,↓zF];refine zO ?_;refine rBlks_loop f n vv pv bv svs h1 (n+1) X z3 z4 u _ _ 0 (Nat.add_zero _) _ rfl rfl (fun ha t' w1=>?_) (fun ha t' w2=>?_)
 rotate_left
 · rw[List.drop_zero]at ha;simp only[↓yC,↓yD];exact fin _ (by rw[ha];rfl) w2
 rw[List.drop_zero]at ha;rw [ha]at hk;simp only[↓zM,↓zN];refine zO ?_;exact zV r18 (v:=.bool true) rfl (hk _ _ _ ⟨rfl,x1⟩)
theorem uM(ns:List Int):numsT ns=Lib.joinTail [32] (ns.map Lib.itoa):=by
 induction ns with
 | nil=>rfl
 | cons x r ih=>
  have e1:numsT (x::r)=32::Lib.itoa x++numsT r:=rfl;have e2:Lib.joinTail [32] ((x::r).map Lib.itoa)=[32]++Lib.itoa x++Lib.joinTail [32] (r.map Lib.itoa):=by simp[Lib.joinTail]
  rw[e1,e2,ih];rfl
theorem tY(x:Int):qH (I64 x) (I64 x)=true:=by
 show(uI .i64 .i64 && xN x x)=true;rw [xZ,decide_eq_true rfl];rfl
theorem qP(l:List UInt8):qH (str l) (str l)=true:=by
 show qC l l=true;rw [tT];simp
theorem lks21{wc wd:W}{f:W→Bool}{ls:List Lk}(hc:f wc=true)(hd:f wd=true)(h:lks [wc,wd] ls=true):lks [wc,wd] (⟨true,f,0,1⟩::ls)=true:=by
 show gt (gt (gt (f wc) true) (gt (gt (f wd) true) true)) (lks [wc,wd] ls)=true;rw [hc,hd,h];rfl
theorem lks32{wb wc wd:W}{f:W→Bool}{ls:List Lk}(hb:f wb=true)(hc:f wc=true)(hd:f wd=true)(h:lks [wb,wc,wd] ls=true):lks [wb,wc,wd] (⟨true,f,0,2⟩::ls)=true:=by
 show gt (gt (gt (f wb) true) (gt (gt (f wc) true) (gt (gt (f wd) true) true))) (lks [wb,wc,wd] ls)=true;rw [hb,hc,hd,h];rfl
def LineOK(i:Ins):Prop:=InsAll i∧i.args.length≤4000∧i.name.length≤30000∧(i.kind=6→i.d = -1∨0≤i.d)
theorem rline_pure(i:Ins)(sv:Value)(h:zH)(n:Nat)(hr:Row n h sv 3 1 i.args.length (i.args.map I64))(hi:LineOK i) :
 pA P 8 62 [.agg ⟨vH i sv⟩] h n (str (Lib.join (sH i) [32])):=by
 obtain⟨⟨gd,ga,gb,gn,gt',gf,gargs,_⟩,hal,hnl,hd6⟩:=hi;have hs:=hr.one;refine Rets.pureE (zZ zK mixed (hint:=hint62) l62 fun u k hk=>?_) (.inl rfl);rw [F62_eq];unfold F62;refine tE (tQ hs) fun h1 c x1=>?_;have c:Cel h1 n 0 (vH i sv):=c;have hr1:=hr.ext x1;have L0:zE P 3 h1 (ptr n 0)=some (I64 i.kind):=zG c sh3 rfl;have L1:zE P 3 h1 (.pointer (some ⟨n,1,none⟩))=some (I64 i.d):=zG c sh3 rfl;have L2:zE P 3 h1 (.pointer (some ⟨n,2,none⟩))=some (I64 i.a):=zG c sh3 rfl;have L3:zE P 3 h1 (.pointer (some ⟨n,3,none⟩))=some (I64 i.b):=zG c sh3 rfl;have L4:zE P 3 h1 (.pointer (some ⟨n,4,none⟩))=some (I64 i.n):=zG c sh3 rfl;have L5:zE P 9 h1 (.pointer (some ⟨n,5,none⟩))=some (str i.name):=zG c sh9 rfl;have L6:zE P 40 h1 (.pointer (some ⟨n,6,none⟩))=some sv:=zG c sh40 rfl;have L7:zE P 3 h1 (.pointer (some ⟨n,7,none⟩))=some (I64 i.t):=zG c sh3 rfl;have L8:zE P 3 h1 (.pointer (some ⟨n,8,none⟩))=some (I64 i.f):=zG c sh3 rfl
 have ib:∀c:Int,xN i.kind c=decide (i.kind=c):=fun c=>xZ _ _;have ld:=Vir.itoa_len gd;have la:=Vir.itoa_len ga;have lb:=Vir.itoa_len gb;have ln:=Vir.itoa_len gn;have lt:=Vir.itoa_len gt';have lf:=Vir.itoa_len gf;have lg:=numsT_len gargs;have nn:n<n+1:=by omega
 have bb:Nat.ble (n+1) (n+1)=true:=vE (Nat.le_refl _);have hN:=nums_pure i.args gargs sv h1 (n+1) hr1 (by omega);have fin:∀t s,Lib.join (sH i) [32]=s→zA t 2=str s→zJ P (loS P 8) 62 k .ret t ⟨[],u,h1,n+1⟩=true:=fun t s e ht=>zV r62 ht (hk _ _ _ ⟨by rw[e],x1⟩);simp only[↓uK,↓zC,↓L0,↓zD];refine wG (fun t w=>zA t 1=ptr n 0∧w=⟨[],u,h1,n+1⟩∧(∀c:Int,1≤c→c≤8→i.kind≠c)) (fun t w q=>?_) (fun kk hkk=>?_)
 · obtain⟨q1,rfl,hk9⟩:=q;simp only[q1,↓zF];refine zO ?_;simp only[↓uX,↓zC,↓L2,↓zD];refine yH (vU i.a ga h1 (n+1)) ?_;refine yE (a:=[114,101,116,32]) (by simp;omega) ?_;refine fin _ _ ?_ rfl;unfold sH;rw [if_neg (hk9 1 (by decide) (by decide)),if_neg (hk9 2 (by decide) (by decide)),if_neg (hk9 3 (by decide) (by decide)),if_neg (hk9 4 (by decide) (by decide)),if_neg (hk9 5 (by decide) (by decide)),if_neg (hk9 6 (by decide) (by decide)),if_neg (hk9 7 (by decide) (by decide)),if_neg (hk9 8 (by decide) (by decide))];simp [Lib.join_cons,Lib.joinTail]
 simp only[↓ib,↓zY];by_cases k1:i.kind=1
 · simp only[↓decide_eq_true k1,↓wP];simp only[↓tP,↓zC,↓L1,↓zD];refine yH (vU i.d gd h1 (n+1)) ?_;rw [bb,uB];simp only[↓fa50_4,↓zC,↓L4,↓zD];refine yH (vU i.n gn h1 (n+1)) ?_;rw [bb,uB];refine yE (b:=[32,61,32,99,111,110,115,116,32]) (by simp;omega) ?_;refine yE (by simp;omega) ?_;rw [lks31' (tG nn L4 (tY _)) (tG nn L4 (tY _)),uB];refine fin _ _ ?_ rfl;unfold sH;rw [if_pos k1];simp [Lib.join_cons,Lib.joinTail,uM]
 simp only[↓decide_eq_false k1,↓wT,↓ib,↓zY];by_cases k2:i.kind=2
 · simp only[↓decide_eq_true k2,↓wP];simp only[↓tP,↓zC,↓L1,↓zD];refine yH (vU i.d gd h1 (n+1)) ?_;rw [bb,uB];simp only[↓uX,↓zC,↓L2,↓zD];refine yH (vU i.a ga h1 (n+1)) ?_;rw [bb,uB];refine yE (b:=[32,61,32,99,111,112,121,32]) (by simp;omega) ?_;refine yE (by simp;omega) ?_;rw [lks31' (tG nn L2 (tY _)) (tG nn L2 (tY _)),uB];refine fin _ _ ?_ rfl;unfold sH;rw [if_neg k1,if_pos k2];simp [Lib.join_cons,Lib.joinTail,uM]
 simp only[↓decide_eq_false k2,↓wT,↓ib,↓zY];by_cases k3:i.kind=3
 · simp only[↓decide_eq_true k3,↓wP];simp only[↓tP,↓zC,↓L1,↓zD];refine yH (vU i.d gd h1 (n+1)) ?_;rw [bb,uB];simp only[↓vZ,↓zC,↓L6];refine yH hN ?_;rw [bb,uB];refine yE (b:=[32,61,32]) (by simp;omega) ?_;simp only[↓tC,↓zC,↓L5];refine yE (by simp;omega) ?_;refine yE (by simp;omega) ?_;rw [lks32 (tG nn L5 (qP _)) (tG nn L5 (qP _)) (tG nn L5 (qP _)) (lks31' (tG nn L6 (qO hr)) (tG nn L6 (qO hr))),uB];refine fin _ _ ?_ rfl;unfold sH;rw [if_neg k1,if_neg k2,if_pos k3];simp [Lib.join_cons,Lib.joinTail,uM]
 simp only[↓decide_eq_false k3,↓wT,↓ib,↓zY];by_cases k4:i.kind=4
 · simp only[↓decide_eq_true k4,↓wP];simp only[↓tP,↓zC,↓L1,↓zD];refine yH (vU i.d gd h1 (n+1)) ?_;rw [bb,uB];simp only[↓uX,↓zC,↓L2,↓zD];refine yH (vU i.a ga h1 (n+1)) ?_;rw [bb,uB];refine yE (b:=[32,61,32,108,111,97,100,32]) (by simp;omega) ?_;refine yE (by simp;omega) ?_;rw [lks31' (tG nn L2 (tY _)) (tG nn L2 (tY _)),uB];refine fin _ _ ?_ rfl;unfold sH;rw [if_neg k1,if_neg k2,if_neg k3,if_pos k4];simp [Lib.join_cons,Lib.joinTail,uM]
 simp only[↓decide_eq_false k4,↓wT,↓ib,↓zY];by_cases k5:i.kind=5
 · simp only[↓decide_eq_true k5,↓wP];simp only[↓uX,↓zC,↓L2,↓zD];refine yH (vU i.a ga h1 (n+1)) ?_;rw [bb,uB];simp only[↓fa50_3,↓zC,↓L3,↓zD];refine yH (vU i.b gb h1 (n+1)) ?_;rw [bb,uB];refine yE (a:=[115,116,111,114,101,32]) (by simp;omega) ?_;refine yE (b:=[32]) (by simp;omega) ?_;refine yE (by simp;omega) ?_;rw [lks31' (tG nn L3 (tY _)) (tG nn L3 (tY _)),uB];refine fin _ _ ?_ rfl;unfold sH;rw [if_neg k1,if_neg k2,if_neg k3,if_neg k4,if_pos k5];simp [Lib.join_cons,Lib.joinTail,uM]
 simp only[↓decide_eq_false k5,↓wT,↓ib,↓zY];by_cases k6:i.kind=6
 · simp only[↓decide_eq_true k6,↓wP,↓tP,↓zC,↓L1,↓zD];by_cases kd:i.d = -1
   · have e0:wB i.d 0=true:=by rw[zT];exact decide_eq_true (by omega)
     simp only[↓e0,↓zY,↓wP,↓vZ,↓zC,↓L6];refine yH hN ?_;rw [bb,uB];simp only[↓tC,↓zC,↓L5];refine yE (a:=[99,97,108,108,32]) (by simp;omega) ?_;refine yE (by simp;omega) ?_;rw [lks21 (tG nn L5 (qP _)) (tG nn L5 (qP _)) rfl,uB];refine fin _ _ ?_ rfl;unfold sH;rw [if_neg k1,if_neg k2,if_neg k3,if_neg k4,if_neg k5,if_pos k6,if_pos kd];simp [Lib.join_cons,Lib.joinTail,uM]
   · have hd0:=(hd6 k6).resolve_left kd;have e0:wB i.d 0=false:=by rw[zT];exact decide_eq_false (by omega)
     simp only[↓e0,↓zY,↓wT,↓tP,↓zC,↓L1,↓zD];refine yH (vU i.d gd h1 (n+1)) ?_;rw [bb,uB];simp only[↓vZ,↓zC,↓L6];refine yH hN ?_;rw [bb,uB];refine yE (b:=[32,61,32,99,97,108,108,32]) (by simp;omega) ?_;simp only[↓tC,↓zC,↓L5];refine yE (by simp;omega) ?_;refine yE (by simp;omega) ?_;rw [lks32 (tG nn L5 (qP _)) (tG nn L5 (qP _)) (tG nn L5 (qP _)) (lks31' (tG nn L6 (qO hr)) (tG nn L6 (qO hr))),uB];refine fin _ _ ?_ rfl;unfold sH;rw [if_neg k1,if_neg k2,if_neg k3,if_neg k4,if_neg k5,if_pos k6,if_neg kd];simp [Lib.join_cons,Lib.joinTail,uM]
 simp only[↓decide_eq_false k6,↓wT,↓ib,↓zY];by_cases k7:i.kind=7
 · simp only[↓decide_eq_true k7,↓wP];simp only[↓uX,↓zC,↓L2,↓zD];refine yH (vU i.a ga h1 (n+1)) ?_;rw [bb,uB];simp only[↓pN,↓zC,↓L7,↓zD];refine yH (vU i.t gt' h1 (n+1)) ?_;rw [bb,uB];simp only[↓fa50_8,↓zC,↓L8,↓zD];refine yH (vU i.f gf h1 (n+1)) ?_;rw [bb,uB];refine yE (a:=[98,114,32]) (by simp;omega) ?_;refine yE (b:=[32]) (by simp;omega) ?_;refine yE (by simp;omega) ?_;refine yE (b:=[32]) (by simp;omega) ?_;refine yE (by simp;omega) ?_;rw [lks42 (tG nn L8 (tY _)) (tG nn L8 (tY _)) (tG nn L8 (tY _)) (lks4 (tG nn L7 (tY _)) (tG nn L7 (tY _)) rfl),uB];refine fin _ _ ?_ rfl;unfold sH;rw [if_neg k1,if_neg k2,if_neg k3,if_neg k4,if_neg k5,if_neg k6,if_pos k7];simp [Lib.join_cons,Lib.joinTail,uM]
 simp only[↓decide_eq_false k7,↓wT,↓ib,↓zY];by_cases k8:i.kind=8
 · simp only[↓decide_eq_true k8,↓wP];simp only[↓pN,↓zC,↓L7,↓zD];refine yH (vU i.t gt' h1 (n+1)) ?_;refine yE (a:=[106,117,109,112,32]) (by simp;omega) ?_;refine fin _ _ ?_ rfl;unfold sH;rw [if_neg k1,if_neg k2,if_neg k3,if_neg k4,if_neg k5,if_neg k6,if_neg k7,if_pos k8];simp [Lib.join_cons,Lib.joinTail,uM]
 simp only[↓decide_eq_false k8,↓wT]
 exact hkk _ _ ⟨rfl,rfl,fun c h1 h8=>by
  have:c=1∨c=2∨c=3∨c=4∨c=5∨c=6∨c=7∨c=8:=by omega
  rcases this with rfl|rfl|rfl|rfl|rfl|rfl|rfl|rfl <;> assumption⟩
theorem joinTail_cons(v:Tx)(r:List Tx):Lib.joinTail [32] (v::r)=[32]++v++Lib.joinTail [32] r:=by simp[Lib.joinTail]
theorem rNamesP_loop(f:Fct)(fb:Nat)(vv pv bv:Value)(svs:List Value)(h:zH)(n:Nat)(X:FBox n h fb f vv pv bv svs)(hlen:f.vregs.length<1000000)(u:Option yF)(ka:KX):∀(m i:Nat),m+i=f.vregs.length→∀(acc:Tx) t,acc.length+(Lib.joinTail [32] (f.vregs.drop i)).length<1000000→zA t 1=ptr fb 0→zA t 4=str acc→zA t 5=I64 (i:Nat)→
 (∀t',zA t' 1=ptr fb 0→zA t' 4=str (acc++Lib.joinTail [32] (f.vregs.drop i))→ka (.exit 0) t' ⟨[],u,h,n⟩=true)→
 lpS P 8 1000006 ⟨21,none,false⟩ t ⟨[],u,h,n⟩ ka=true:=by
 intro m
 induction m with
 | zero=>
  intro i hi acc t hl t1 t4 t5 hE;refine yK zK mixed (hint:=hint21) l21 lp21_1000006 ?_;rw [B21_1000006_eq];unfold B21_1000006;rw [t1,t4,t5];have e3:wB (i:Nat) (f.vregs.length:Nat)=false:=by rw[zT];exact decide_eq_false (by omega)
  simp only[↓zF,↓zD];refine zO ?_;simp only[↓tB,↓zC,↓X.l1,↓X.n1,↓zD,↓e3,↓zY,↓wT];refine hE _ rfl ?_;rw [List.drop_eq_nil_of_le (by omega)];show str acc=str (acc++[]);rw [List.append_nil]
 | succ m ih=>
  intro i hi acc t hl t1 t4 t5 hE;have hlt:i<f.vregs.length:=by omega
  have hd:f.vregs.drop i=f.vregs[i]::f.vregs.drop (i+1):=List.drop_eq_getElem_cons hlt;obtain⟨q,q1,q2⟩:=xG (P:=P) (k:=.i64) X.r1 ix23 (tl:=9) sh9 (i:=i) (x:=str f.vregs[i]) (by rw[List.getElem?_map,List.getElem?_eq_getElem hlt];rfl);generalize f.vregs[i]=y at hd q2
  rw[hd,joinTail_cons]at hl hE;simp only[List.length_append,List.length_cons,List.length_nil]at hl;refine yK zK mixed (hint:=hint21) l21 lp21_1000006 ?_;rw [B21_1000006_eq];unfold B21_1000006;rw [t1,t4,t5];have e3:wB (i:Nat) (f.vregs.length:Nat)=true:=by rw[zT];exact decide_eq_true (by omega)
  simp only[↓zF,↓zD];refine zO ?_;simp only[↓tB,↓zC,↓X.l1,↓X.n1,↓zD,↓e3,↓zY,↓wP];refine wG (fun t w=>zA t 1=ptr fb 0∧zA t 4=str (acc++[32]++y)∧zA t 5=I64 (i:Nat)∧w=⟨[],u,h,n⟩) (fun t w q=>?_) (fun kk hkk=>?_)
  · obtain⟨p1,p4,p5,rfl⟩:=q;simp only[p1,p4,p5,↓zF,↓zD];refine zO ?_;refine vT (by omega) ?_;refine ih (i+1) (by omega) (acc++[32]++y) _ (by simp only[List.length_append,List.length_cons,List.length_nil];omega) rfl rfl rfl fun t' w1 w4=>?_;refine hE t' w1 ?_;rw [w4];simp only[List.append_assoc]
  · refine yE (b:=[32]) (by simp only[List.length_cons,List.length_nil];omega) ?_;simp only[↓tB,↓zC,↓X.l1,↓q1,↓q2];refine yE (by simp only[List.length_append,List.length_cons,List.length_nil];omega) ?_;exact hkk _ _ ⟨rfl,rfl,rfl,rfl⟩
theorem rInsP_loop(f:Fct)(fb:Nat)(vv pv bv:Value)(svs:List Value)(h:zH)(n:Nat)(X:FBox n h fb f vv pv bv svs)(b:Nat)(q:Value)(l:List Ins)(bl:Value)(q1:zR P 41 bv (.int .i64 (b:Nat))=some q)(q2:zE P 51 h q=some bl)(hb:BlkRO [] n h bl l)(hfit:∀i∈l,LineOK i)(hlen:l.length<1000000)(u:Option yF)(ka:KX):∀(m i:Nat),m+i=l.length→∀(acc:Tx) t,acc.length+(vG ((l.drop i).map uC)).length<1000000→zA t 1=ptr fb 0→zA t 4=str acc→zA t 6=I64 (b:Nat)→zA t 7=I64 (i:Nat)→
 (∀t',zA t' 1=ptr fb 0→zA t' 4=str (acc++vG ((l.drop i).map uC))→zA t' 6=I64 (b:Nat)→ka (.exit 4) t' ⟨[],u,h,n⟩=true)→
 lpS P 8 1000015 ⟨21,none,false⟩ t ⟨[],u,h,n⟩ ka=true:=by
 obtain⟨av,⟨ha1,ha2⟩,hr⟩:=id hb;have fl:=yX (P:=P) us51 hr.1 [] h;intro m
 induction m with
 | zero=>
  intro i hi acc t hl t1 t4 t6 t7 hE;refine yK zK mixed (hint:=hint21) l21 lp21_1000015 ?_;rw [B21_1000015_eq];unfold B21_1000015;rw [t1,t4,t6,t7];have e3:wB (i:Nat) (l.length:Nat)=false:=by rw[zT];exact decide_eq_false (by omega)
  simp only[↓zF,↓zD];refine zO ?_;simp only[↓vP,↓zC,↓X.l4,↓q1,↓q2,↓fl,↓zD,↓e3,↓zY,↓wT];refine hE _ rfl ?_ rfl;rw [List.drop_eq_nil_of_le (by omega)];show str acc=str (acc++[]);rw [List.append_nil]
 | succ m ih=>
  intro i hi acc t hl t1 t4 t6 t7 hE;have hlt:i<l.length:=by omega
  have hd:l.drop i=l[i]::l.drop (i+1):=List.drop_eq_getElem_cons hlt;have hlt2:i<av.length:=by omega
  have hg:l[i]? = some l[i]:=List.getElem?_eq_getElem hlt;have hga:av[i]? = some av[i]:=List.getElem?_eq_getElem hlt2;have hfl:=rP ha1 hg hga;have hra:=(ha2 i _ _ hg hga).1;obtain⟨p,p1,p2⟩:=tL (P:=P) (k:=.i64) hr.1 ix51 (tl:=50) sh50 (by decide) hlt;rw [hfl]at p2;have hfi:=hfit _ (List.getElem_mem hlt);generalize l[i]=y at hd p2 hra hfi
  generalize av[i]=sv at p2 hra
  have ey:uC y=[32,32]++Lib.join (sH y) [32]:=rfl;rw [hd,List.map_cons,wR,ey]at hl hE;simp only[List.length_append,List.length_cons,List.length_nil]at hl;refine yK zK mixed (hint:=hint21) l21 lp21_1000015 ?_;rw [B21_1000015_eq];unfold B21_1000015;rw [t1,t4,t6,t7];have e3:wB (i:Nat) (l.length:Nat)=true:=by rw[zT];exact decide_eq_true (by omega)
  simp only[↓zF,↓zD];refine zO ?_;simp only[↓vP,↓zC,↓X.l4,↓q1,↓q2,↓fl,↓zD,↓e3,↓zY,↓wP];refine wG (fun t w=>zA t 1=ptr fb 0∧zA t 4=str (acc++[32,32]++Lib.join (sH y) [32]++[10])∧zA t 6=I64 (b:Nat)∧zA t 7=I64 (i:Nat)∧w=⟨[],u,h,n⟩) (fun t w q=>?_) (fun kk hkk=>?_)
  · obtain⟨w1,w4,w6,w7,rfl⟩:=q;simp only[w1,w4,w6,w7,↓zF,↓zD];refine zO ?_;refine vT (by omega) ?_;refine ih (i+1) (by omega) (acc++[32,32]++Lib.join (sH y) [32]++[10]) _ (by simp only[List.length_append,List.length_cons,List.length_nil];omega) rfl rfl rfl rfl fun t' w1 w4 w6=>?_;refine hE t' w1 ?_ w6;rw [w4];simp only[List.append_assoc,List.cons_append,List.nil_append]
  · refine yE (b:=[32,32]) (by simp only[List.length_cons,List.length_nil];omega) ?_;simp only[↓vP,↓zC,↓X.l4,↓q1,↓q2,↓p1,↓p2];refine yH (rline_pure y sv h n hra hfi) ?_;refine yE (by simp only[List.length_append,List.length_cons,List.length_nil];omega) ?_;refine yE (b:=[10]) (by simp only[List.length_append,List.length_cons,List.length_nil];omega) ?_;exact hkk _ _ ⟨rfl,rfl,rfl,rfl,rfl⟩
theorem rBlksP_loop(f:Fct)(fb:Nat)(vv pv bv:Value)(svs:List Value)(h:zH)(n:Nat)(X:FBox n h fb f vv pv bv svs)(hlen:f.blocks.length<1000000)(hfit:∀b∈f.blocks,b.length<1000000∧∀i∈b,LineOK i)(u:Option yF)(ka:KX):∀(m i:Nat),m+i=f.blocks.length→∀(acc:Tx) t,acc.length+(vG ((f.blocks.drop i).flatMap wJ)).length<1000000→zA t 1=ptr fb 0→zA t 4=str acc→zA t 6=I64 (i:Nat)→
 (∀t',zA t' 4=str (acc++vG ((f.blocks.drop i).flatMap wJ))→ka (.exit 2) t' ⟨[],u,h,n⟩=true)→
 lpS P 8 1000011 ⟨21,none,false⟩ t ⟨[],u,h,n⟩ ka=true:=by
 intro m
 induction m with
 | zero=>
  intro i hi acc t hl t1 t4 t6 hE;refine yK zK mixed (hint:=hint21) l21 lp21_1000011 ?_;rw [B21_1000011_eq];unfold B21_1000011;rw [t1,t4,t6];have e3:wB (i:Nat) (f.blocks.length:Nat)=false:=by rw[zT];exact decide_eq_false (by omega)
  simp only[↓zF,↓zD];refine zO ?_;simp only[↓vP,↓zC,↓X.l4,↓X.n4,↓zD,↓e3,↓zY,↓wT];refine hE _ ?_;rw [List.drop_eq_nil_of_le (by omega)];show str acc=str (acc++[]);rw [List.append_nil]
 | succ m ih=>
  intro i hi acc t hl t1 t4 t6 hE;have hlt:i<f.blocks.length:=by omega
  have hd:f.blocks.drop i=f.blocks[i]::f.blocks.drop (i+1):=List.drop_eq_getElem_cons hlt;have hlt2:i<svs.length:=by have:=X.r3.2.1;omega
  have hg:f.blocks[i]? = some f.blocks[i]:=List.getElem?_eq_getElem hlt;have hga:svs[i]? = some svs[i]:=List.getElem?_eq_getElem hlt2;have hbo:=X.r3.2.2 i _ _ hg hga;obtain⟨q,q1,q2⟩:=xG (P:=P) (k:=.i64) X.r3.1 ix41 (tl:=51) sh51 (i:=i) (x:=svs[i]) hga;have hfi:=hfit _ (List.getElem_mem hlt);generalize f.blocks[i]=y at hd q2 hbo hfi
  generalize svs[i]=bl at q2 hbo
  have ey:wJ y=rY::y.map uC:=rfl;rw [hd,List.flatMap_cons,ey,uO,wR]at hl hE;simp only[List.length_append,List.length_cons,List.length_nil]at hl;refine yK zK mixed (hint:=hint21) l21 lp21_1000011 ?_;rw [B21_1000011_eq];unfold B21_1000011;rw [t1,t4,t6];have e3:wB (i:Nat) (f.blocks.length:Nat)=true:=by rw[zT];exact decide_eq_true (by omega)
  simp only[↓zF,↓zD];refine zO ?_;simp only[↓vP,↓zC,↓X.l4,↓X.n4,↓zD,↓e3,↓zY,↓wP];refine wG (fun t w=>zA t 1=ptr fb 0∧zA t 4=str (acc++[98,108,111,99,107,10]++vG (y.map uC))∧zA t 6=I64 (i:Nat)∧w=⟨[],u,h,n⟩) (fun t w q=>?_) (fun kk hkk=>?_)
  · obtain⟨w1,w4,w6,rfl⟩:=q;simp only[w1,w4,w6,↓zF,↓zD];refine zO ?_;refine vT (by omega) ?_;refine ih (i+1) (by omega) (acc++[98,108,111,99,107,10]++vG (y.map uC)) _ (by simp only[List.length_append,List.length_cons,List.length_nil];omega) rfl rfl rfl fun t' w4=>?_;refine hE t' ?_;rw [w4];simp only[List.append_assoc,List.cons_append,List.nil_append]
  · refine yE (b:=[98,108,111,99,107,10]) (by simp only[List.length_cons,List.length_nil];omega) ?_;refine rInsP_loop f fb vv pv bv svs h n X i q y bl q1 q2 hbo hfi.2 hfi.1 u _ _ 0 (Nat.add_zero _) (acc++[98,108,111,99,107,10]) _ (by rw[List.drop_zero];simp only[List.length_append,List.length_cons,List.length_nil];omega) rfl rfl rfl rfl fun t' w1 w4 w6=>?_;rw [List.drop_zero]at w4;simp only[↓zM,↓zN];simp only[w1,w4,w6,↓zF,↓zD];refine zO ?_;exact hkk _ _ ⟨rfl,rfl,rfl,rfl⟩
def FctLine(f:Fct):Prop:=∀b∈f.blocks,b.length<1000000∧∀i∈b,LineOK i
theorem rprint_pure(f:Fct)(fv:Value)(h:zH)(n:Nat)(hf:FunAt n h fv f)(hfit:FctFit f)(hpl:rG f=true→FctLine f∧(∀x∈f.params,Go64 x)∧(vG (tA f)).length<1000000) :
 pA P 8 21 [fv] h n (str (tJ f)):=by
 refine Rets.pureE (zZ zK mixed (hint:=hint21) l21 fun u k hk=>?_) (.inl rfl);rw [F21_eq];unfold F21;refine fbox_of hf fun h1 vv pv bv svs X x1 hfv=>?_;have fA:zE P 43 h1 (ptr n 0)=some fv:=by rw[hfv];exact xA X.c sh43 rfl (by decide)
 simp only[↓fA,↓zC];refine zU (rplain_pure f fv h1 (n+1) (hf.ext x1) hfit) ?_;simp only[↓xD,↓zC,↓zI]
 cases hp:rG f with
 | false=>
  have e0:tJ f=[]:=by unfold tJ;rw [hp];rfl
  rw[e0]at hk;simp only[↓Bool.not_false,↓wP];exact zV r21 rfl (hk _ _ _ ⟨rfl,x1⟩)
 | true=>
 obtain⟨hfl,hpar,hlen⟩:=hpl hp;have e0:tJ f=vG (tA f):=by unfold tJ;rw [hp];rfl
 have eT:vG (tA f)=[102,117,110,99,32]++f.name++[10,114,101,103,115]++Lib.joinTail [32] f.vregs++[10,112,97,114,97,109,115]++numsT f.params++[10,114,101,115,117,108,116,32]++f.result++[10]++vG (f.blocks.flatMap wJ)++[101,110,100,10]:=by
  unfold tA qA tR;rw [uO,uO,wR,wR,wR,oO,oO,Lib.join_cons,Lib.join_cons,Lib.join_cons,Lib.join_cons,uM];simp [Lib.joinTail]
 rw[e0,eT]at hk;rw [eT]at hlen;simp only[List.length_append,List.length_cons,List.length_nil]at hlen;obtain⟨_,_,p3,p4,p5,_⟩:=plainF_of hp;simp only[↓Bool.not_true,↓wT,↓fa43_0,↓zC,↓X.l0];refine yE (a:=[102,117,110,99,32]) (by simp only[List.length_cons,List.length_nil];omega) ?_;refine yE (b:=[10,114,101,103,115]) (by simp only[List.length_append,List.length_cons,List.length_nil];omega) ?_;refine rNamesP_loop f n vv pv bv svs h1 (n+1) X (by omega) u _ _ 0 (Nat.add_zero _) ([102,117,110,99,32]++f.name++[10,114,101,103,115]) _ (by rw[List.drop_zero];simp only[List.length_append,List.length_cons,List.length_nil];omega) rfl rfl rfl fun t' w1 w4=>?_;rw [List.drop_zero]at w4;simp only[↓zM,↓zN];simp only[w1,w4,↓zF];refine zO ?_;simp only[↓oM,↓zC,↓X.l2];refine yH (nums_pure f.params hpar pv h1 (n+1) X.r2 (by omega)) ?_;rw [vE (Nat.le_refl _),uB];refine yE (b:=[10,112,97,114,97,109,115]) (by simp only[List.length_append,List.length_cons,List.length_nil];omega) ?_
 refine yE (by simp only[List.length_append,List.length_cons,List.length_nil];omega) ?_;refine yE (b:=[10,114,101,115,117,108,116,32]) (by simp only[List.length_append,List.length_cons,List.length_nil];omega) ?_;simp only[↓fa43_3,↓zC,↓X.l3];refine yE (by simp only[List.length_append,List.length_cons,List.length_nil];omega) ?_;refine yE (b:=[10]) (by simp only[List.length_append,List.length_cons,List.length_nil];omega) ?_;have l3:lkQ (fun h38=>zE P 9 h38 (.pointer (some ⟨n,3,none⟩))) (.pointer (some ⟨n,3,none⟩)) (str f.result) ⟨[],u,h1,n+1⟩=true:=tG (by omega) X.l3 (qP _);rw [lks21 l3 l3 rfl,uB];refine rBlksP_loop f n vv pv bv svs h1 (n+1) X (by omega) hfl u _ _ 0 (Nat.add_zero _) _ _ (by rw[List.drop_zero];simp only[List.length_append,List.length_cons,List.length_nil];omega) rfl rfl rfl fun t' w4=>?_;rw [List.drop_zero]at w4;simp only[↓zM,↓zN];simp only[w4,↓zF];refine zO ?_;refine yE (b:=[101,110,100,10]) (by simp only[List.length_append,List.length_cons,List.length_nil];omega) ?_;exact zV r21 rfl (hk _ _ _ ⟨rfl,x1⟩)
def FctMem(f:Fct):Prop:=f.vregs.length<1125899906842624∧f.params.length<1125899906842624∧f.name.length<1125899906842624∧f.result.length<1125899906842624∧f.blocks.length<1125899906842624∧(∀v∈f.vregs,v.length<1125899906842624)∧∀b∈f.blocks,b.length<1125899906842624∧∀i∈b,i.args.length<1125899906842624∧i.name.length<1125899906842624
def sumV:List Tx→Nat
 | []=>0
 | v::r=>v.length / 8+sumV r
def sumI:List Ins→Nat
 | []=>0
 | i::r=>i.args.length+i.name.length / 8+sumI r
def sumB:List (List Ins)→Nat
 | []=>0
 | b::r=>1+b.length+sumI b+sumB r
def bigN(f:Fct):Nat:=f.vregs.length+f.params.length+f.name.length / 8+f.result.length / 8+sumV f.vregs+sumB f.blocks
theorem c_le(a b:Int)(K:Bool→Bool):yB sQ P .leq 3 true (I64 a) (.int .i64 b) K=K (decide (a≤b)):=by rw[cmpI,vW]
theorem len8(s:Tx)(h:zH):zX P .len [9] [str s] h=some (I64 (s.length:Nat)):=len_strL us9 s [] h
theorem quo8(u:Nat)(hu:u<9223372036854775808):qBin P .quo 3 true (.int .i64 (u:Int)) (.int .i64 8)=some (I64 ((u / 8:Nat):Int)):=quo_nat 3 true u 8 (by decide) hu
theorem fi_addN{a b:Nat}{K:Int→Bool}(h:a+b<9223372036854775808)(hK:K ((a+b:Nat):Int)=true):fi (wH .i64 (uF (a:Int) (b:Int))) K=true:=by
 refine vT (by omega) ?_;have e:(a:Int)+(b:Int)=((a+b:Nat):Int):=by omega
 rw[e];exact hK
theorem bigV_loop(f:Fct)(fb:Nat)(vv pv bv:Value)(svs:List Value)(h:zH)(n:Nat)(X:FBox n h fb f vv pv bv svs)(hlen:f.vregs.length<1125899906842624)(hm:∀v∈f.vregs,v.length<1125899906842624)(u:Option yF)(ka:KX):∀(m i:Nat),m+i=f.vregs.length→∀(acc:Nat) t,acc<9007199254740992→zA t 1=ptr fb 0→zA t 3=I64 (acc:Nat)→zA t 4=I64 (i:Nat)→
 (∀t' (acc':Nat),zA t' 1=ptr fb 0→zA t' 3=I64 (acc':Nat)→acc'<9007199254740992→(acc'=acc+sumV (f.vregs.drop i)∨3000<acc')→ka (.exit 0) t' ⟨[],u,h,n⟩=true)→
 lpS P 8 1000003 ⟨17,none,false⟩ t ⟨[],u,h,n⟩ ka=true:=by
 intro m
 induction m with
 | zero=>
  intro i hi acc t hacc t1 t3 t4 hE;refine yK zK mixed (hint:=hint17) l17 lp17_1000003 ?_;rw [B17_1000003_eq];unfold B17_1000003;rw [t1,t3,t4];have e3:wB (i:Nat) (f.vregs.length:Nat)=false:=by rw[zT];exact decide_eq_false (by omega)
  simp only[↓zF,↓zD];refine zO ?_;simp only[↓tB,↓zC,↓X.l1,↓X.n1,↓zD,↓e3,↓zY,↓xJ,↓yV,↓zI,↓wT];refine hE _ acc rfl rfl hacc (.inl ?_);rw [List.drop_eq_nil_of_le (by omega)];rfl
 | succ m ih=>
  intro i hi acc t hacc t1 t3 t4 hE;have hlt:i<f.vregs.length:=by omega
  have hd:f.vregs.drop i=f.vregs[i]::f.vregs.drop (i+1):=List.drop_eq_getElem_cons hlt;obtain⟨q,q1,q2⟩:=xG (P:=P) (k:=.i64) X.r1 ix23 (tl:=9) sh9 (i:=i) (x:=str f.vregs[i]) (by rw[List.getElem?_map,List.getElem?_eq_getElem hlt];rfl);have hy:=hm _ (List.getElem_mem hlt);generalize f.vregs[i]=y at hd q2 hy
  have es:sumV (f.vregs.drop i)=y.length / 8+sumV (f.vregs.drop (i+1)):=by rw[hd];rfl
  rw[es]at hE;refine yK zK mixed (hint:=hint17) l17 lp17_1000003 ?_;rw [B17_1000003_eq];unfold B17_1000003;rw [t1,t3,t4];have e3:wB (i:Nat) (f.vregs.length:Nat)=true:=by rw[zT];exact decide_eq_true (by omega)
  simp only[↓zF,↓zD];refine zO ?_;simp only[↓tB,↓zC,↓X.l1,↓X.n1,↓zD,↓e3,↓zY,↓yS,↓c_le];by_cases g:(acc:Int)≤3000
  · simp only[↓decide_eq_true g,↓yR,↓zI,↓wP];refine wG (fun t w=>zA t 1=ptr fb 0∧zA t 3=I64 ((acc+y.length / 8:Nat):Int)∧zA t 4=I64 (i:Nat)∧w=⟨[],u,h,n⟩) (fun t w q=>?_) (fun kk hkk=>?_)
    · obtain⟨p1,p3,p4,rfl⟩:=q;simp only[p1,p3,p4,↓zF,↓zD];refine zO ?_;refine vT (by omega) ?_;refine ih (i+1) (by omega) (acc+y.length / 8) _ (by omega) rfl rfl rfl fun t' acc' w1 w3 hb ha=>?_;refine hE t' acc' w1 w3 hb ?_;omega
    · simp only[↓tB,↓zC,↓X.l1,↓q1,↓q2,↓len8,↓zD,↓quo8 y.length (by omega)];refine fi_addN (by omega) ?_;exact hkk _ _ ⟨rfl,rfl,rfl,rfl⟩
  · simp only[↓decide_eq_false g,↓yR,↓zI,↓wT];exact hE _ acc rfl rfl hacc (.inr (by omega))
theorem bigI_loop(f:Fct)(fb:Nat)(vv pv bv:Value)(svs:List Value)(h:zH)(n:Nat)(X:FBox n h fb f vv pv bv svs)(b:Nat)(q:Value)(l:List Ins)(bl:Value)(q1:zR P 41 bv (.int .i64 (b:Nat))=some q)(q2:zE P 51 h q=some bl)(hb:BlkRO [] n h bl l)(hm:∀i∈l,i.args.length<1125899906842624∧i.name.length<1125899906842624)(hlen:l.length<1125899906842624)(u:Option yF)(ka:KX):∀(m i:Nat),m+i=l.length→∀(acc:Nat) t,acc<9007199254740992→zA t 1=ptr fb 0→zA t 3=I64 (acc:Nat)→zA t 5=I64 (b:Nat)→zA t 6=I64 (i:Nat)→
 (∀t' (acc':Nat),zA t' 1=ptr fb 0→zA t' 3=I64 (acc':Nat)→zA t' 5=I64 (b:Nat)→acc'<9007199254740992→(acc'=acc+sumI (l.drop i)∨3000<acc')→ka (.exit 4) t' ⟨[],u,h,n⟩=true)→
 lpS P 8 1000011 ⟨17,none,false⟩ t ⟨[],u,h,n⟩ ka=true:=by
 obtain⟨av,⟨ha1,ha2⟩,hr⟩:=id hb;have fl:=yX (P:=P) us51 hr.1 [] h;intro m
 induction m with
 | zero=>
  intro i hi acc t hacc t1 t3 t5 t6 hE;refine yK zK mixed (hint:=hint17) l17 lp17_1000011 ?_;rw [B17_1000011_eq];unfold B17_1000011;rw [t1,t3,t5,t6];have e3:wB (i:Nat) (l.length:Nat)=false:=by rw[zT];exact decide_eq_false (by omega)
  simp only[↓zF,↓zD];refine zO ?_;simp only[↓vP,↓zC,↓X.l4,↓q1,↓q2,↓fl,↓zD,↓e3,↓zY,↓xJ,↓yV,↓zI,↓wT];refine hE _ acc rfl rfl rfl hacc (.inl ?_);rw [List.drop_eq_nil_of_le (by omega)];rfl
 | succ m ih=>
  intro i hi acc t hacc t1 t3 t5 t6 hE;have hlt:i<l.length:=by omega
  have hd:l.drop i=l[i]::l.drop (i+1):=List.drop_eq_getElem_cons hlt;have hlt2:i<av.length:=by omega
  have hg:l[i]? = some l[i]:=List.getElem?_eq_getElem hlt;have hga:av[i]? = some av[i]:=List.getElem?_eq_getElem hlt2;have hfl:=rP ha1 hg hga;have hra:=(ha2 i _ _ hg hga).1;obtain⟨bb,off,cap,ebl,_,hrow,_⟩:=hr.1.elem hlt;rw [hfl]at hrow;have p1:zR P 51 bl (.int .i64 (i:Nat))=some (.pointer (some ⟨bb,off+i*9,none⟩)):=by rw[ebl];exact index_sl ix51 hlt
  have hy:=hm _ (List.getElem_mem hlt);generalize l[i]=y at hd hrow hra hy
  generalize av[i]=sv at hrow hra
  have p6:zB P 50 6 (.pointer (some ⟨bb,off+i*9,none⟩))=some (.pointer (some ⟨bb,off+i*9+6,none⟩)):=yM (by kernel_rfl);have p5:zB P 50 5 (.pointer (some ⟨bb,off+i*9,none⟩))=some (.pointer (some ⟨bb,off+i*9+5,none⟩)):=yM (by kernel_rfl);have l6:zE P 40 h (.pointer (some ⟨bb,off+i*9+6,none⟩))=some sv:=load_scal sh40 (hrow 6 sv rfl);have l5:zE P 9 h (.pointer (some ⟨bb,off+i*9+5,none⟩))=some (str y.name):=load_scal sh9 (hrow 5 _ rfl);have la:=yX (P:=P) us40 hra [] h;have es:sumI (l.drop i)=y.args.length+y.name.length / 8+sumI (l.drop (i+1)):=by rw[hd];rfl
  rw[es]at hE;refine yK zK mixed (hint:=hint17) l17 lp17_1000011 ?_;rw [B17_1000011_eq];unfold B17_1000011;rw [t1,t3,t5,t6];have e3:wB (i:Nat) (l.length:Nat)=true:=by rw[zT];exact decide_eq_true (by omega)
  simp only[↓zF,↓zD];refine zO ?_;simp only[↓vP,↓zC,↓X.l4,↓q1,↓q2,↓fl,↓zD,↓e3,↓zY,↓yS,↓c_le];by_cases g:(acc:Int)≤3000
  · simp only[↓decide_eq_true g,↓yR,↓zI,↓wP];refine wG (fun t w=>zA t 1=ptr fb 0∧zA t 3=I64 ((acc+y.args.length+y.name.length / 8:Nat):Int)∧zA t 5=I64 (b:Nat)∧zA t 6=I64 (i:Nat)∧w=⟨[],u,h,n⟩) (fun t w q=>?_) (fun kk hkk=>?_)
    · obtain⟨w1,w3,w5,w6,rfl⟩:=q;simp only[w1,w3,w5,w6,↓zF,↓zD];refine zO ?_;refine vT (by omega) ?_;refine ih (i+1) (by omega) (acc+y.args.length+y.name.length / 8) _ (by omega) rfl rfl rfl rfl fun t' acc' w1 w3 w5 hb ha=>?_;refine hE t' acc' w1 w3 w5 hb ?_;omega
    · simp only[↓vP,↓zC,↓X.l4,↓q1,↓q2,↓p1,↓p6,↓l6,↓la,↓zD];refine fi_addN (by omega) ?_;simp only[↓vP,↓zC,↓X.l4,↓q1,↓q2,↓p1,↓p5,↓l5,↓len8,↓zD,↓quo8 y.name.length (by omega)];refine fi_addN (by omega) ?_;rw [xQ,uB];exact hkk _ _ ⟨rfl,rfl,rfl,rfl,rfl⟩
  · simp only[↓decide_eq_false g,↓yR,↓zI,↓wT];exact hE _ acc rfl rfl rfl hacc (.inr (by omega))
theorem bigB_loop(f:Fct)(fb:Nat)(vv pv bv:Value)(svs:List Value)(h:zH)(n:Nat)(X:FBox n h fb f vv pv bv svs)(hlen:f.blocks.length<1125899906842624)(hm:∀b∈f.blocks,b.length<1125899906842624∧∀i∈b,i.args.length<1125899906842624∧i.name.length<1125899906842624)(u:Option yF)(ka:KX):∀(m i:Nat),m+i=f.blocks.length→∀(acc:Nat) t,acc<9007199254740992→zA t 1=ptr fb 0→zA t 3=I64 (acc:Nat)→zA t 5=I64 (i:Nat)→
 (∀t' (acc':Nat),zA t' 3=I64 (acc':Nat)→acc'<9007199254740992→(acc'=acc+sumB (f.blocks.drop i)∨3000<acc')→ka (.exit 2) t' ⟨[],u,h,n⟩=true)→
 lpS P 8 1000007 ⟨17,none,false⟩ t ⟨[],u,h,n⟩ ka=true:=by
 intro m
 induction m with
 | zero=>
  intro i hi acc t hacc t1 t3 t5 hE;refine yK zK mixed (hint:=hint17) l17 lp17_1000007 ?_;rw [B17_1000007_eq];unfold B17_1000007;rw [t1,t3,t5];have e3:wB (i:Nat) (f.blocks.length:Nat)=false:=by rw[zT];exact decide_eq_false (by omega)
  simp only[↓zF,↓zD];refine zO ?_;simp only[↓vP,↓zC,↓X.l4,↓X.n4,↓zD,↓e3,↓zY,↓xJ,↓yV,↓zI,↓wT];refine hE _ acc rfl hacc (.inl ?_);rw [List.drop_eq_nil_of_le (by omega)];rfl
 | succ m ih=>
  intro i hi acc t hacc t1 t3 t5 hE;have hlt:i<f.blocks.length:=by omega
  have hd:f.blocks.drop i=f.blocks[i]::f.blocks.drop (i+1):=List.drop_eq_getElem_cons hlt;have hlt2:i<svs.length:=by have:=X.r3.2.1;omega
  have hg:f.blocks[i]? = some f.blocks[i]:=List.getElem?_eq_getElem hlt;have hga:svs[i]? = some svs[i]:=List.getElem?_eq_getElem hlt2;have hbo:=X.r3.2.2 i _ _ hg hga;obtain⟨q,q1,q2⟩:=xG (P:=P) (k:=.i64) X.r3.1 ix41 (tl:=51) sh51 (i:=i) (x:=svs[i]) hga;have hfi:=hm _ (List.getElem_mem hlt);generalize f.blocks[i]=y at hd q2 hbo hfi
  generalize svs[i]=bl at q2 hbo
  obtain⟨av,_,hrow⟩:=id hbo;have fl:=yX (P:=P) us51 hrow.1 [] h;have hyl:=hfi.1;have es:sumB (f.blocks.drop i)=1+y.length+sumI y+sumB (f.blocks.drop (i+1)):=by rw[hd];rfl
  rw[es]at hE;refine yK zK mixed (hint:=hint17) l17 lp17_1000007 ?_;rw [B17_1000007_eq];unfold B17_1000007;rw [t1,t3,t5];have e3:wB (i:Nat) (f.blocks.length:Nat)=true:=by rw[zT];exact decide_eq_true (by omega)
  simp only[↓zF,↓zD];refine zO ?_;simp only[↓vP,↓zC,↓X.l4,↓X.n4,↓zD,↓e3,↓zY,↓yS,↓c_le];by_cases g:(acc:Int)≤3000
  · simp only[↓decide_eq_true g,↓yR,↓zI,↓wP];refine wG (fun t w=>zA t 1=ptr fb 0∧(∃acc':Nat,zA t 3=I64 (acc':Nat)∧acc'<9007199254740992∧(acc'=acc+1+y.length+sumI y∨3000<acc'))∧zA t 5=I64 (i:Nat)∧w=⟨[],u,h,n⟩) (fun t w q=>?_) (fun kk hkk=>?_)
    · obtain⟨w1,⟨acc1,w3,hb1,ha1⟩,w5,rfl⟩:=q;simp only[w1,w3,w5,↓zF,↓zD];refine zO ?_;refine vT (by omega) ?_;refine ih (i+1) (by omega) acc1 _ hb1 rfl rfl rfl fun t' acc' w3 hb ha=>?_;refine hE t' acc' w3 hb ?_;omega
    · refine fi_addN (b:=1) (by omega) ?_;simp only[↓vP,↓zC,↓X.l4,↓q1,↓q2,↓fl,↓zD];refine fi_addN (by omega) ?_;refine bigI_loop f fb vv pv bv svs h n X i q y bl q1 q2 hbo hfi.2 hyl u _ _ 0 (Nat.add_zero _) (acc+1+y.length) _ (by omega) rfl rfl rfl rfl fun t' acc' w1 w3 w5 hb ha=>?_;rw [List.drop_zero]at ha;simp only[↓zM,↓zN];simp only[w1,w3,w5,↓zF,↓zD];refine zO ?_;exact hkk _ _ ⟨rfl,⟨acc',rfl,hb,ha⟩,rfl,rfl⟩
  · simp only[↓decide_eq_false g,↓yR,↓zI,↓wT];exact hE _ acc rfl hacc (.inr (by omega))
theorem big_pure(f:Fct)(fv:Value)(h:zH)(n:Nat)(hf:FunAt n h fv f)(hm:FctMem f):∃b:Bool,(b=false→bigN f≤3000)∧pA P 8 17 [fv] h n (.bool b):=by
 obtain⟨m1,m2,m3,m4,m5,m6,m7⟩:=hm
 have key:Rets P 8 17 [fv] h n fun v h' n'=>∃b:Bool,v = .bool b∧(b=false→bigN f≤3000)∧Ext h n h' n':=by
  refine zZ zK mixed (hint:=hint17) l17 fun u k hk=>?_;rw [F17_eq];unfold F17;refine fbox_of hf fun h1 vv pv bv svs X x1 hfv=>?_;simp only[↓tB,↓oM,↓zC,↓X.l1,↓X.n1,↓X.l2,↓X.n2,↓zD];refine fi_addN (by omega) ?_;simp only[↓fa43_0,↓zC,↓X.l0,↓len8,↓zD,↓quo8 f.name.length (by omega)];refine fi_addN (by omega) ?_;simp only[↓fa43_3,↓zC,↓X.l3,↓len8,↓zD,↓quo8 f.result.length (by omega)];refine fi_addN (by omega) ?_;refine bigV_loop f n vv pv bv svs h1 (n+1) X m1 m6 u _ _ 0 (Nat.add_zero _) (f.vregs.length+f.params.length+f.name.length / 8+f.result.length / 8) _ (by omega) rfl rfl rfl fun t' acc' w1 w3 hb ha=>?_;rw [List.drop_zero]at ha;simp only[↓zM,↓zN];simp only[w1,w3,↓zF,↓zD];refine zO ?_;refine bigB_loop f n vv pv bv svs h1 (n+1) X m5 m7 u _ _ 0 (Nat.add_zero _) acc' _ hb rfl rfl rfl fun t' acc2 w3 hb2 ha2=>?_;rw [List.drop_zero]at ha2;simp only[↓zM,↓zN];simp only[w3,↓zD];refine zO ?_;simp only[↓zY];refine zV r17 rfl (hk _ _ _ ⟨_,rfl,fun e=>?_,x1⟩);have e2:wB 3000 (acc2:Int)=false:=e;rw [zT]at e2
  have:=of_decide_eq_false e2;unfold bigN;omega
 obtain⟨v',h',n',⟨b,rfl,hb,hx⟩,hc⟩:=key.does none;exact⟨b,hb,fun u k hk=>loS_call.2 ⟨_,u,h,n,hk _ _ _ ⟨rfl,rfl,rfl⟩,hc.pureE hx (.inl rfl) u⟩⟩
def InsGo(i:Ins):Prop:=Go64 i.d∧Go64 i.a∧Go64 i.b∧Go64 i.n∧Go64 i.t∧Go64 i.f∧∀x∈i.args,Go64 x
def FctGo(f:Fct):Prop:=(∀x∈f.params,Go64 x)∧∀b∈f.blocks,∀i∈b,InsGo i
theorem sumI_mem{l:List Ins}{i:Ins}(h:i∈l):i.args.length+i.name.length / 8≤sumI l:=by
 induction l with
 | nil=>cases h
 | cons x r ih=>
  show _≤x.args.length+x.name.length / 8+sumI r;rcases List.mem_cons.1 h with rfl|h
  · omega
  · have:=ih h;omega
theorem sumB_mem{l:List (List Ins)}{b:List Ins}(h:b∈l):1+b.length+sumI b≤sumB l:=by
 induction l with
 | nil=>cases h
 | cons x r ih=>
  show _≤1+x.length+sumI x+sumB r;rcases List.mem_cons.1 h with rfl|h
  · omega
  · have:=ih h;omega
theorem sumB_len(l:List (List Ins)):l.length≤sumB l:=by
 induction l with
 | nil=>exact Nat.zero_le _
 | cons x r ih=>show r.length+1≤1+x.length+sumI x+sumB r;omega
theorem fctAll_big{f:Fct}(hb:bigN f≤3000)(hg:FctGo f):FctAll f:=by
 unfold bigN at hb;have hB:=sumB_len f.blocks
 have hI:∀b∈f.blocks,∀i∈b,InsAll i:=fun b hbm i hi=>by
  obtain⟨g1,g2,g3,g4,g5,g6,g7⟩:=hg.2 b hbm i hi;have h1:=sumB_mem hbm;have h2:=sumI_mem hi;exact⟨g1,g2,g3,g4,g5,g6,g7,by omega⟩
 refine⟨⟨by omega,by omega,by omega,fun b hbm=>⟨?_,fun i hi=>?_⟩⟩,hI,by omega,hg.1,by omega⟩
 · have h1:=sumB_mem hbm;omega
 · have h1:=sumB_mem hbm;have h2:=sumI_mem hi;exact⟨(hI b hbm i hi).1,by omega⟩
theorem nums_len{ns:List Int}(h:∀x∈ns,Go64 x):(Lib.joinTail [32] (ns.map Lib.itoa)).length≤ns.length*22:=by rw[← uM];exact numsT_len h
theorem insLine_len{i:Ins}(h:InsGo i):(uC i).length≤110+22*(i.args.length+i.name.length / 8):=by
 obtain⟨gd,ga,gb,gn,gt',gf,gargs⟩:=h;have ld:=Vir.itoa_len gd;have la:=Vir.itoa_len ga;have lb:=Vir.itoa_len gb;have ln:=Vir.itoa_len gn;have lt:=Vir.itoa_len gt';have lf:=Vir.itoa_len gf;have lg:=nums_len gargs;have c1:tTwo.length=2:=rfl;have c2:tEq.length≤10:=by decide
 have c3:tConst.length≤10:=by decide
 have c4:tCopy.length≤10:=by decide
 have e0:Lib.joinTail [32] ([]:List Tx)=[]:=rfl;have e1:Lib.join ([]:List Tx) [32]=[]:=rfl;unfold uC sH;repeat' split
 all_goals (simp only[List.cons_append,List.nil_append,Lib.join_cons,joinTail_cons,e0,e1,List.length_append,List.length_cons,List.length_nil];omega)
theorem block_len{b:List Ins}(h:∀i∈b,InsGo i):(vG (b.map uC)).length≤111*b.length+22*sumI b:=by
 induction b with
 | nil=>exact Nat.zero_le _
 | cons i r ih=>
  have h1:=insLine_len (h i (List.mem_cons_self ..));have h2:=ih fun x hx=>h x (List.mem_cons_of_mem _ hx);have e:sumI (i::r)=i.args.length+i.name.length / 8+sumI r:=rfl;rw [List.map_cons,wR,e];simp only[List.length_append,List.length_cons];omega
theorem body_len{bs:List (List Ins)}(h:∀b∈bs,∀i∈b,InsGo i):(vG (bs.flatMap wJ)).length≤111*sumB bs:=by
 induction bs with
 | nil=>exact Nat.zero_le _
 | cons b r ih=>
  have h1:=block_len (h b (List.mem_cons_self ..));have h2:=ih fun x hx=>h x (List.mem_cons_of_mem _ hx);have e:sumB (b::r)=1+b.length+sumI b+sumB r:=rfl;have ey:wJ b=rY::b.map uC:=rfl;rw [List.flatMap_cons,ey,uO,wR,e];simp only[List.length_append,List.length_cons,List.length_nil];omega
theorem vregs_len(vs:List Tx):(Lib.joinTail [32] vs).length≤8*vs.length+8*sumV vs:=by
 induction vs with
 | nil=>exact Nat.zero_le _
 | cons v r ih=>
  have e:sumV (v::r)=v.length / 8+sumV r:=rfl;rw [joinTail_cons,e];simp only[List.length_append,List.length_cons,List.length_nil];omega
theorem text_len{f:Fct}(hb:bigN f≤3000)(hg:FctGo f):(vG (tA f)).length<1000000:=by
 have eT:vG (tA f)=[102,117,110,99,32]++f.name++[10,114,101,103,115]++Lib.joinTail [32] f.vregs++[10,112,97,114,97,109,115]++numsT f.params++[10,114,101,115,117,108,116,32]++f.result++[10]++vG (f.blocks.flatMap wJ)++[101,110,100,10]:=by
  unfold tA qA tR;rw [uO,uO,wR,wR,wR,oO,oO,Lib.join_cons,Lib.join_cons,Lib.join_cons,Lib.join_cons,uM];simp [Lib.joinTail]
 rw[eT];have h1:=body_len hg.2;have h2:=vregs_len f.vregs;have h3:=numsT_len hg.1;unfold bigN at hb;simp only[List.length_append,List.length_cons,List.length_nil];omega
theorem fctLine_big{f:Fct}(hp:rG f=true)(hb:bigN f≤3000)(hg:FctGo f):FctLine f:=by
 obtain⟨h1,h2,h3,h4,h5,h6,h7,h8⟩:=plainF_of hp;have hA:=fctAll_big hb hg;unfold bigN at hb;intro b hbm;refine⟨by have:=(h8 b hbm).1;omega,fun i hi=>?_⟩;have q1:=sumB_mem hbm;have q2:=sumI_mem hi;refine⟨hA.2.1 b hbm i hi,by omega,by omega,fun k6=>?_⟩;have hpi:=List.all_eq_true.1 (h8 b hbm).2 i hi;obtain⟨_,_,_,_,_,hk⟩:=plainI_of hpi;rw [if_neg (by omega),if_pos k6,Bool.and_eq_true,Bool.or_eq_true]at hk;rcases hk.2 with e|e
 · exact .inl (of_decide_eq_true e)
 · exact .inr (of_decide_eq_true e).1
theorem neB_same(b:Bool)(K:Bool→Bool):yB pW P .neq 4 false (.bool b) (.bool b) K=K false:=by
 cases b
 · kernel_rfl
 · kernel_rfl
theorem ne_same(s:Tx)(K:Bool→Bool):yB pW P .neq 9 false (str s) (str s) K=K false:=by
 rw[cmpSL_ne];have:(s == s)=true:=by simp
 rw[this];rfl
theorem eq_nil(K:Bool→Bool):yB xN P .eql 9 true (str []) (.string (ByteArray.mk #[])) K=K true:=by kernel_rfl
theorem eq_zero(K:Bool→Bool):yB xN P .eql 3 true (I64 0) (.int .i64 0) K=K true:=by kernel_rfl
theorem prints_rets{m:Int}{h:zH}{n:Nat}(hE:Env m h)(hn:8≤n)(f:Fct)(fv:Value)(hf:FunAt n h fv f)(hm:FctMem f)(hg:FctGo f):Rets P 8 4 [fv] h n fun v _ _=>v = .bool true:=by
 refine zZ zK mixed (hint:=hint4) l4 fun u k hk=>?_;rw [F4_eq];unfold F4;refine fbox_of hf fun h1 vv pv bv svs X x1 hfv=>?_;have hE1:Env m h1:=hE.touch (x1.touch []) hn (by simp);have hf1:=hf.ext x1;have fA:∀{h':zH} {n':Nat},Ext h1 (n+1) h' n'→zE P 43 h' (ptr n 0)=some fv:=fun x=>by rw[hfv];exact xA (X.c.touch (x.touch []) (by omega) (by simp)) sh43 rfl (by decide)
 have f0:=fA (Ext.refl h1 (n+1));refine zU (alive_pure hE1 (by omega)) ?_;simp only[↓f0,↓zC];obtain⟨b,hb,pb⟩:=big_pure f fv h1 (n+1) hf1 hm;refine zU pb ?_;simp only[↓xD,↓zC,↓zI,↓Bool.not_true,↓sR,↓yS,↓zQ,↓yV]
 cases b with
 | true=>
  simp only[↓wP];exact zV r4 rfl (hk _ _ _ rfl)
 | false=>
 have hbig:=hb rfl;have hA:=fctAll_big hbig hg;have hlen:=text_len hbig hg;simp only[↓wT,↓f0,↓zC];refine zU (rplain_pure f fv h1 (n+1) hf1 hA.1) ?_;simp only[↓f0,↓zC];refine yH (print_pure hE1 (by omega) f fv hf1 hA hlen) ?_;simp only[↓f0,↓zC];refine zU (plain_pure f fv h1 (n+1) hf1 hA.1) ?_;simp only[↓neB_same,↓sR,↓yS,↓f0,↓zC];refine yH (rprint_pure f fv h1 (n+1) hf1 hA.1 fun hp=>⟨fctLine_big hp hbig hg,hg.1,hlen⟩) ?_;simp only[↓ne_same,↓zQ,↓yV,↓zI,↓wT,↓xD,↓zC]
 cases hp:rG f with
 | false=>
  have e0:tJ f=[]:=by unfold tJ;rw [hp];rfl
  rw[e0];simp only[↓Bool.not_false,↓rM,↓xJ,↓zQ,↓yR,↓zI,↓wP,↓sR,↓yS,↓eq_nil,↓yV];exact zV r4 (v:=.bool true) rfl (hk _ _ _ rfl)
 | true=>
 have hlp:zX P .len [9] [str (tJ f)] h1=some (I64 ((tJ f).length:Nat)):=len_strL us9 _ [] h1;have ep:tJ f=vG (tA f):=printF_plain hp;simp only[↓Bool.not_true,↓sR,↓yS,↓hlp,↓zC,↓zD,↓cmp_gtr];by_cases g:(65536:Int)<((tJ f).length:Nat)
 · simp only[↓decide_eq_true g,↓zQ,↓yV,↓zI,↓wP,↓rM,↓xJ,↓yR];exact zV r4 (v:=.bool true) rfl (hk _ _ _ rfl)
 simp only[↓decide_eq_false g,↓zQ,↓yV,↓zI,↓wT];obtain⟨er,eo⟩:=readS_print (Q:=OfOK) (fun _ _ _ h=>ofOK_of h) hp (fun b hb i hi=>(hg.2 b hb i hi).2.2.2.1) (show(tJ f).length≤65536 by omega);refine uT (read_rets shp hE1 (by omega) _ (by omega) (fun _=>eo)) fun v h7 n7 ⟨x7,gv,e7,ga⟩=>?_;rw [er]at e7 ga;subst e7;dsimp only at ga;obtain⟨gl,rfl,-,-⟩:=fun_one ga;have y0:∀a b:Int,xO 0 (.tuple ⟨[.agg ⟨gl⟩,I64 a,I64 b]⟩)=some (.agg ⟨gl⟩):=fun _ _=>rfl;have y1:∀a b:Int,xO 1 (.tuple ⟨[.agg ⟨gl⟩,I64 a,I64 b]⟩)=some (I64 a):=fun _ _=>rfl;have y2:∀a b:Int,xO 2 (.tuple ⟨[.agg ⟨gl⟩,I64 a,I64 b]⟩)=some (I64 b):=fun _ _=>rfl;simp only[↓y0,↓y1,↓y2,↓zC,↓zD];refine wZ ze43 fun h8 c8 x8=>?_;refine store_fun (ga.ext x8) ⟨_,_,c8,rfl⟩ (by omega) fun h9 k9 ld9=>?_;have x9:Ext h7 n7 h9 (n7+1):=⟨by omega,fun b hb=>by rw[k9 b (by omega)];exact x8.2 b hb⟩;have x69:=x7.trans x9;have l1:=fA x69;have l2:=ld9 (Ext.refl h9 (n7+1));refine rL (num_pure 0 h9 (n7+1)) ?_;have ez:xN 0 0=true:=rfl
 simp only[↓ez,↓zY,↓yS,↓eq_zero,↓zQ,↓yR,↓zI,↓l1,↓l2,↓zC];refine zU (sameFunc_true f fv _ h9 (n7+1) (hf1.ext x69) (ga.ext x9) hA.1) ?_;try simp only[↓zQ,↓yR,↓zI]
 exact zV r4 (v:=.bool true) rfl (hk _ _ _ rfl)
section
variable {H:Type} {enc:TypeId×Value→H} {W:World} {tabs:List (Nat×List Value)}
def El(enc:TypeId×Value→H)(W:World)(t:TypeId)(cs:List Value):Prop:=∃fuel x,DataW.trod enc P W 0 (fun _=>true) true fuel t cs=some x∧∀y∈x.1.weights P t,y≤reachBytes
def Told(W:World)(v:Value):Prop:=RV (idI W) (oP v) v∧isU (oP v)=false
theorem int_El{cs:List Value}(h:El enc W 3 cs):∃n:Int,cs=[I64 n]∧Go64 n:=by
 obtain⟨fuel,x,hx,-⟩:=h;obtain⟨n,h1,-,h3⟩:=DataW.trod_int Tryz.underlying3 hx;exact⟨n,h1,go_of h3⟩
theorem str_El{cs:List Value}(h:El enc W 9 cs):∃s:Tx,cs=[str s]∧s.length<1125899906842624:=by
 obtain⟨fuel,x,hx,hw⟩:=h;obtain⟨s,h1,h2,h3⟩:=DataW.trod_string Tryz.underlying9 hx;subst h2;have h4:s.data.toList.length≤reachBytes:=hw _ (by simp[DataW.weights]);have h5:reachBytes<1125899906842624:=by decide
 exact⟨s.data.toList,h1,by omega⟩
theorem weightsEach_get{ts:List TypeId}{ds:List (DataW H)}{i:Nat}{t:TypeId}{d:DataW H}(h1:ts[i]? = some t)(h2:ds[i]? = some d){y:Nat}(hy:y∈d.weights P t):y∈DataW.weightsEach P ts ds:=by
 induction ts generalizing ds i with
 | nil=>simp at h1
 | cons a r ih => cases ds with
  | nil=>simp at h2
  | cons b s=>
   unfold DataW.weightsEach
   cases i with
   | zero=>simp at h1 h2;subst h1 h2;exact List.mem_append_left _ hy
   | succ i=>exact List.mem_append_right _ (ih (by simpa using h1) (by simpa using h2))
theorem weightsAll_get{t:TypeId}{ds:List (DataW H)}{d:DataW H}(h2:d∈ds){y:Nat}(hy:y∈d.weights P t):y∈DataW.weightsAll P t ds:=by
 induction ds with
 | nil=>cases h2
 | cons b s ih=>
  unfold DataW.weightsAll;rcases List.mem_cons.1 h2 with rfl|h2
  · exact List.mem_append_left _ hy
  · exact List.mem_append_right _ (ih h2)
theorem struct_El{t:TypeId}{fs:Array Field}(ht:P.underlying t=some (.struct fs)){cs:List Value}(h:El enc W t cs) :
 cs.length=P.cellsOf t∧∀(i:Nat) (f:Field),fs[i]? = some f→El enc W f.type ((cs.drop f.offset).take (P.cellsOf f.type)):=by
 obtain⟨fuel,x,hx,hw⟩:=h;obtain⟨xs,n,h1,h2,h3,h4,h5⟩:=DataW.trod_struct ht hx;subst h2;refine⟨h3,fun i f hf=>?_⟩;have hi:i<xs.length:=by rw[h4];exact(Array.getElem?_eq_some_iff.1 hf).1
 refine⟨n,xs[i],by rw[h5 i f hf,List.getElem?_eq_getElem hi],fun y hy=>hw y ?_⟩;dsimp only;unfold DataW.weights;simp only[ht];exact weightsEach_get (i:=i) (t:=f.type) (d:=xs[i].1) (by simp[hf]) (by simp[List.getElem?_eq_getElem hi]) hy
theorem cells_get{w:World}{base:Nat}{a:Addr}{n:Nat}{l:List Value}(h:w.cells? base a n=some l):l.length=n∧∀i,i<n→w.cell? (a.add i)=l[i]? :=by
 unfold World.cells? at h;split at h
 · refine⟨by simpa using mapM_some_length h,fun i hi=>mapM_some_get h i i (by simp[hi])⟩
 · cases h
theorem add_none(b o k:Nat):(⟨b,o,none⟩:Addr).add k=⟨b,o+k,none⟩:=by
 unfold Addr.add;split
 · subst_vars;rfl
 · rfl
theorem spot_none{w:World}{a:Addr}{v:Value}(h:w.cell? a=some v):a.spot=none:=by
 obtain⟨b,o,s⟩:=a;unfold World.cell? at h;split at h
 · cases s with
   | none=>rfl
   | some x=>rw [if_pos (by rfl)]at h;cases h
 · cases h
theorem mir_info(hw:oF W tabs){b i:Nat}{v:Value}(hc:W.cell? ⟨b,i,none⟩=some v) :
 b<W.heap.size∧∃kd,tH (yG (mirH W tabs) b)=some (szB W b,0,kd)∧i<szB W b∧kd≠0:=by
 unfold World.cell? at hc;dsimp only at hc;split at hc
 · rename_i cs el fr ho;have hc:cs[i]? = some v:=by simpa using hc
   have hb:b<W.heap.size:=by
    rcases Nat.lt_or_ge b W.heap.size with h1|h1
    · exact h1
    · rw[Array.getElem?_eq_none h1]at ho;cases ho
   have hi:i<cs.size:=(Array.getElem?_eq_some_iff.1 hc).1;have hs:szB W b=cs.size:=by unfold szB;rw [ho]
   refine⟨hb,?_⟩;rcases mirH_get W tabs b with⟨p,h1,rfl,h3⟩|h1
   · obtain⟨el',fr',h4⟩:=hw p h1;rw [ho]at h4;injection h4 with h4;injection h4 with h4 _ _;subst h4
     exact⟨2,by rw[h3,hs];rfl,by rw[hs];exact hi,by decide⟩
   · exact⟨3,by rw[h1,if_pos hb,ho,hs];rfl,by rw[hs];exact hi,by decide⟩
 · cases hc
theorem rowAt_flat{b sz:Nat}{h:zH}:∀{ess:List (List Value)} {off:Nat},(∀(j:Nat) c,ess[j]? = some c→c.length=sz∧∀(k:Nat) x,c[k]? = some x→xX h b (off+(j*sz+k))=some (oP x))→Go.Ex.rowAt h b off (ess.flatten.map oP):=by
 intro ess
 induction ess with
 | nil=>intro off _;exact Go.Ex.rowAt.nil _ _ _
 | cons c r ih =>
  intro off hc;obtain⟨c1,c2⟩:=hc 0 c rfl
  have hr:=ih (off:=off+sz) fun j c' hj=>⟨(hc (j+1) c' (by simpa using hj)).1,fun k x hk=>by
   have:=(hc (j+1) c' (by simpa using hj)).2 k x hk;rw [show off+sz+(j*sz+k)=off+((j+1)*sz+k) by rw[Nat.succ_mul];omega];exact this⟩
  intro q v hq;rw [List.flatten_cons,List.map_append]at hq;by_cases hlt:q<c.length
  · rw[List.getElem?_append_left (by simpa using hlt),List.getElem?_map,List.getElem?_eq_getElem hlt]at hq;obtain rfl:oP c[q]=v:=by simpa using hq
    have:=c2 q _ (List.getElem?_eq_getElem hlt);rw [show off+(0*sz+q)=off+q by omega]at this;exact this
  · rw[List.getElem?_append_right (by simp;omega),List.length_map]at hq;have:=hr (q - c.length) v hq;rw [show off+sz+(q - c.length)=off+q by omega]at this;exact this
theorem flat_len{sz:Nat}(l:List (List Value))(h:∀c∈l,c.length=sz):l.flatten.length=l.length*sz:=by
 induction l with
 | nil=>simp
 | cons c r ih=>rw [List.flatten_cons,List.length_append,ih fun c hc=>h c (List.mem_cons_of_mem _ hc),h c (List.mem_cons_self ..),List.length_cons,Nat.succ_mul];omega
theorem absV_cap{a:Option Addr}{l c:Nat}(h:c≠0):oP (.slice a l c) = .slice a l c:=by
 cases a with
 | none=>rfl
 | some a =>
  cases l with
  | succ l=>rfl
  | zero=>cases c with
   | zero=>exact absurd rfl h
   | succ c=>rfl
theorem slice_El{t e:TypeId}{sz:Nat}(hw:oF W tabs)(hab:∀p∈tabs,∀v∈p.2,oP v=v)(h0:∃m z kd,tH (yG (mirH W tabs) 0)=some (m,z,kd)∧kd≠0∧0<W.heap.size)
(ht:P.underlying t=some (.slice e))(hsz:P.cellsOf e=sz)(h1:1≤sz)(hby:1≤P.bytesOf e)(hE:∀c,El enc W e c→c.length=sz∧∀v∈c,Told W v){cs:List Value}(h:El enc W t cs) :
 ∃(v:Value) (ess:List (List Value)),cs=[v]∧Told W v∧(∀c∈ess,El enc W e c)∧RO [] W.heap.size (mirH W tabs) (oP v) e sz ess.length (ess.flatten.map oP)∧ess.length<1125899906842624:=by
 obtain⟨fuel,x,hx,hwt⟩:=h;rcases DataW.trod_slice ht hx with⟨rfl,-⟩|⟨a,len,cap,elems,rest,n,-,rfl,rfl,hb,hlc,hcm,hel,hg,hsp,-⟩
 · exact⟨_,[],rfl,⟨.nilSlice 0 0 (by decide),rfl⟩,fun _ h=>(by cases h),⟨.inl ⟨rfl,rfl,rfl⟩,fun _ hb=>(by cases hb),fun _ _ _ hb=>(by cases hb)⟩,by decide⟩
 obtain⟨hrl,hrg⟩:=hsp rfl;unfold DataW.weights at hwt;simp only[ht]at hwt
 have hcap:cap<1125899906842624:=by
  have q1:=hwt _ (List.mem_cons_self ..);simp only[List.length_map]at q1;have q2:=Nat.le_mul_of_pos_right (elems.length+rest.length) hby
  have h5:reachBytes<1125899906842624:=by decide
  omega
 have hinf:cap<inf:=by unfold inf;omega
 have hall:∀j,j<cap→∃c,W.cells? 0 (a.add (j*sz)) sz=some c∧El enc W e c:=by
  intro j hj;rw [hsz]at hg hrg;by_cases hlt:j<len
  · have q:=hg j hlt;rw [List.getElem?_eq_getElem (by omega)]at q;obtain⟨c,q1,q2⟩:=Option.bind_eq_some_iff.1 q;exact⟨c,q1,n,_,q2,fun y hy=>hwt y (List.mem_cons_of_mem _ (List.mem_append_left _ (weightsAll_get (List.mem_map.2 ⟨_,List.getElem_mem (by omega),rfl⟩) hy)))⟩
  · have q:=hrg (j - len) (by omega);rw [List.getElem?_eq_getElem (by omega),show len+(j - len)=j by omega]at q;obtain⟨c,q1,q2⟩:=Option.bind_eq_some_iff.1 q;exact⟨c,q1,n,_,q2,fun y hy=>hwt y (List.mem_cons_of_mem _ (List.mem_append_right _ (weightsAll_get (List.mem_map.2 ⟨_,List.getElem_mem (by omega),rfl⟩) hy)))⟩
 by_cases hc0:cap=0
 · subst hc0;obtain rfl:len=0:=by omega
   obtain⟨m,z,kd,i1,i2,i3⟩:=h0;refine⟨_,[],rfl,⟨.slice0 (idI_of i3) a,rfl⟩,fun _ h=>(by cases h),⟨.inr ⟨0,0,0,m,z,kd,i3,rfl,by simp,i1,by simp,Go.Ex.rowAt.nil _ _ _,.inl ⟨by decide,Nat.le_refl _⟩⟩,fun _ _=>by simp,fun b m' z' hb hi=>?_⟩,by decide⟩;obtain rfl:0=b:=Option.some.inj hb;rw [i1]at hi;injection hi with hi;injection hi with _ hi;injection hi with _ hi
   exact i2 hi
 have hspot:a.spot=none:=by
  obtain⟨c,q1,q2⟩:=hall 0 (by omega);obtain⟨l1,l2⟩:=cells_get q1;have:=l2 0 (by omega);rw [List.getElem?_eq_getElem (by omega)]at this;have:=spot_none this
  rwa [show(a.add (0*sz)).add 0=a by rw[Nat.zero_mul];rfl]at this
 obtain⟨b,o,s⟩:=a;dsimp only at hspot;subst hspot
 have hcell:∀j,j<cap→∃c,W.cells? 0 ((⟨b,o,none⟩:Addr).add (j*sz)) sz=some c∧El enc W e c∧c.length=sz∧(∀v∈c,Told W v)∧∀(k:Nat) x,c[k]? = some x→W.cell? ⟨b,o+(j*sz+k),none⟩=some x:=by
  intro j hj;obtain⟨c,q1,q2⟩:=hall j hj;obtain⟨l1,l2⟩:=cells_get q1;refine⟨c,q1,q2,l1,(hE c q2).2,fun k x hk=>?_⟩;have hlt:k<c.length:=(List.getElem?_eq_some_iff.1 hk).1;have:=l2 k (by omega);rw [add_none,add_none,hk,Nat.add_assoc]at this;exact this
 obtain⟨hbs,kd,hinfo,hkd,hlast⟩:b<W.heap.size∧∃kd,tH (yG (mirH W tabs) b)=some (szB W b,0,kd)∧kd≠0∧o+cap*sz≤szB W b:=by
  obtain⟨c,-,-,l1,-,l2⟩:=hcell (cap - 1) (by omega);obtain⟨q1,kd,q2,q3,q4⟩:=mir_info hw (l2 (sz - 1) _ (List.getElem?_eq_getElem (by omega)));refine⟨q1,kd,q2,q4,?_⟩;have e1:cap*sz=(cap - 1)*sz+sz:=by rw[← Nat.succ_mul];congr 1;omega
  omega
 have hflat:((List.range len).map fun j=>(W.cells? 0 ((⟨b,o,none⟩:Addr).add (j*sz)) sz).getD []).flatten.length=len*sz:=by
  rw[flat_len _ fun c hc=>?_,List.length_map,List.length_range];obtain⟨j,hj,rfl⟩:=List.mem_map.1 hc;obtain⟨c,q1,q2,q3,-⟩:=hcell j (by have:=List.mem_range.1 hj;omega);rw [q1];exact q3
 refine⟨_,(List.range len).map fun j=>(W.cells? 0 ((⟨b,o,none⟩:Addr).add (j*sz)) sz).getD [],rfl,⟨?_,?_⟩,?_,⟨.inr ⟨b,o,cap,szB W b,0,kd,hbs,?_,?_,hinfo,?_,?_,.inl ⟨hinf,?_⟩⟩,fun _ _=>by simp,?_⟩,?_⟩
 · rw[absV_cap hc0];exact .slice (B:=⟨b,szB W b,0⟩) (idI_of hbs) (by omega) hlc (.inl rfl)
 · rw[absV_cap hc0];rfl
 · intro c hc;obtain⟨j,hj,rfl⟩:=List.mem_map.1 hc;obtain⟨c,q1,q2,-⟩:=hcell j (by have:=List.mem_range.1 hj;omega);rw [q1];exact q2
 · rw[absV_cap hc0];simp
 · rw[List.length_map,hflat,List.length_map,List.length_range]
 · rw[List.length_map,hflat];have:=Nat.mul_le_mul_right sz hlc;omega
 · refine rowAt_flat (sz:=sz) fun j c hj=>?_;rw [List.getElem?_map]at hj
   have hlt:j<len:=by
    rcases Nat.lt_or_ge j len with h|h
    · exact h
    · rw[List.getElem?_eq_none (by simpa using h)]at hj;cases hj
   rw[List.getElem?_range hlt]at hj;obtain⟨c',q1,q2,q3,q4,q5⟩:=hcell j (by omega);obtain rfl:c'=c:=by simpa [q1] using hj
   refine⟨q3,fun k x hk=>?_⟩;obtain⟨r1,r2⟩:=q4 x (List.mem_iff_getElem?.2 ⟨k,hk⟩);exact(mir_cell hw hab (q5 k x hk) r1 r2).1
 · simpa using hlc
 · intro b' m z hb' hi;rw [absV_cap hc0]at hb';obtain rfl:b=b':=Option.some.inj hb';rw [hinfo]at hi;injection hi with hi;injection hi with _ hi;injection hi with hi _
   cases hi
 · simp;omega
theorem nine{l:List Value}(h:l.length=9):∃c0 c1 c2 c3 c4 c5 c6 c7 c8,l=[c0,c1,c2,c3,c4,c5,c6,c7,c8]:=by
 match l,h with
 | [c0,c1,c2,c3,c4,c5,c6,c7,c8],_=>exact⟨c0,c1,c2,c3,c4,c5,c6,c7,c8,rfl⟩
theorem five{l:List Value}(h:l.length=5):∃c0 c1 c2 c3 c4,l=[c0,c1,c2,c3,c4]:=by
 match l,h with
 | [c0,c1,c2,c3,c4],_=>exact⟨c0,c1,c2,c3,c4,rfl⟩
theorem I64_told(n:Int):Told W (I64 n):=⟨.int _ _,rfl⟩
theorem str_told(s:Tx):Told W (str s):=⟨.string _,rfl⟩
theorem int_el1{c:List Value}(h:El enc W 3 c):c.length=1∧∀v∈c,Told W v:=by
 obtain⟨n,rfl,-⟩:=int_El h;exact⟨rfl,fun v hv=>by rw[List.mem_singleton.1 hv];exact I64_told n⟩
theorem str_el1{c:List Value}(h:El enc W 9 c):c.length=1∧∀v∈c,Told W v:=by
 obtain⟨n,rfl,-⟩:=str_El h;exact⟨rfl,fun v hv=>by rw[List.mem_singleton.1 hv];exact str_told n⟩
theorem ints_flat:∀{ess:List (List Value)},(∀c∈ess,El enc W 3 c)→∃ns:List Int,ess.flatten.map oP=ns.map I64∧ns.length=ess.length∧∀x∈ns,Go64 x:=by
 intro ess
 induction ess with
 | nil=>intro _;exact⟨[],rfl,rfl,fun _ h=>by cases h⟩
 | cons c r ih=>
  intro h;obtain⟨ns,h1,h2,h3⟩:=ih fun c hc=>h c (List.mem_cons_of_mem _ hc);obtain⟨n,rfl,hn⟩:=int_El (h c (List.mem_cons_self ..));refine⟨n::ns,?_,by rw[List.length_cons,List.length_cons,h2],fun x hx=>?_⟩
  · rw[List.flatten_cons,List.map_append,h1];rfl
  · rcases List.mem_cons.1 hx with rfl|hx
    · exact hn
    · exact h3 x hx
theorem strs_flat:∀{ess:List (List Value)},(∀c∈ess,El enc W 9 c)→∃ns:List Tx,ess.flatten.map oP=ns.map str∧ns.length=ess.length∧∀x∈ns,x.length<1125899906842624:=by
 intro ess
 induction ess with
 | nil=>intro _;exact⟨[],rfl,rfl,fun _ h=>by cases h⟩
 | cons c r ih=>
  intro h;obtain⟨ns,h1,h2,h3⟩:=ih fun c hc=>h c (List.mem_cons_of_mem _ hc);obtain⟨n,rfl,hn⟩:=str_El (h c (List.mem_cons_self ..));refine⟨n::ns,?_,by rw[List.length_cons,List.length_cons,h2],fun x hx=>?_⟩
  · rw[List.flatten_cons,List.map_append,h1];rfl
  · rcases List.mem_cons.1 hx with rfl|hx
    · exact hn
    · exact h3 x hx
structure Mir (W:World) (tabs:List (Nat×List Value)):Prop where
 hw:oF W tabs
 hab:∀p∈tabs,∀v∈p.2,oP v=v
 h0:∃m z kd,tH (yG (mirH W tabs) 0)=some (m,z,kd)∧kd≠0∧0<W.heap.size
theorem ints_El(M:Mir W tabs){cs:List Value}(h:El enc W 40 cs):∃(v:Value) (ns:List Int),cs=[v]∧Told W v∧RO [] W.heap.size (mirH W tabs) (oP v) 3 1 ns.length (ns.map I64)∧(∀x∈ns,Go64 x)∧ns.length<1125899906842624:=by
 obtain⟨v,ess,h1,h2,h3,h4,h5⟩:=slice_El M.hw M.hab M.h0 Tryz.underlying40 (e:=3) (sz:=1) (by kernel_rfl) (Nat.le_refl _) (of_decide_eq_true (by kernel_rfl)) (fun c hc=>int_el1 hc) h;obtain⟨ns,g1,g2,g3⟩:=ints_flat h3;exact⟨v,ns,h1,h2,by rw[g2,← g1];exact h4,g3,by omega⟩
theorem strs_El(M:Mir W tabs){cs:List Value}(h:El enc W 23 cs):∃(v:Value) (ns:List Tx),cs=[v]∧Told W v∧RO [] W.heap.size (mirH W tabs) (oP v) 9 1 ns.length (ns.map str)∧(∀x∈ns,x.length<1125899906842624)∧ns.length<1125899906842624:=by
 obtain⟨v,ess,h1,h2,h3,h4,h5⟩:=slice_El M.hw M.hab M.h0 Tryz.underlying23 (e:=9) (sz:=1) (by kernel_rfl) (Nat.le_refl _) (of_decide_eq_true (by kernel_rfl)) (fun c hc=>str_el1 hc) h;obtain⟨ns,g1,g2,g3⟩:=strs_flat h3;exact⟨v,ns,h1,h2,by rw[g2,← g1];exact h4,g3,by omega⟩
theorem z3:P.cellsOf 3=1:=by kernel_rfl
theorem zs:P.cellsOf 9=1:=by kernel_rfl
theorem zss:P.cellsOf 23=1:=by kernel_rfl
theorem zii:P.cellsOf 40=1:=by kernel_rfl
theorem zbb:P.cellsOf 41=1:=by kernel_rfl
theorem El.one{t:TypeId}{off:Nat}{c:Value}{cs:List Value}(h:El enc W t ((cs.drop off).take (P.cellsOf t)))(hz:P.cellsOf t=1)(hc:(cs.drop off).take 1=[c]):El enc W t [c]:=by rw[hz,hc]at h;exact h
def InsMem(i:Ins):Prop:=i.args.length<1125899906842624∧i.name.length<1125899906842624
theorem ins_El(M:Mir W tabs){cs:List Value}(h:El enc W 50 cs):(cs.length=9∧∀v∈cs,Told W v)∧
 ∃(i:Ins) (av:Value),cs.map oP=vH i av∧RO [] W.heap.size (mirH W tabs) av 3 1 i.args.length (i.args.map I64)∧InsGo i∧InsMem i:=by
 obtain⟨hl,hf⟩:=struct_El Tryz.underlying50 h;have hl:cs.length=9:=hl.trans (by kernel_rfl);obtain⟨c0,c1,c2,c3,c4,c5,c6,c7,c8,rfl⟩:=nine hl;have f0:El enc W 3 [c0]:=El.one (off:=0) (hf 0 _ rfl) z3 rfl;have f1:El enc W 3 [c1]:=El.one (off:=1) (hf 1 _ rfl) z3 rfl;have f2:El enc W 3 [c2]:=El.one (off:=2) (hf 2 _ rfl) z3 rfl;have f3:El enc W 3 [c3]:=El.one (off:=3) (hf 3 _ rfl) z3 rfl;have f4:El enc W 3 [c4]:=El.one (off:=4) (hf 4 _ rfl) z3 rfl;have f5:El enc W 9 [c5]:=El.one (off:=5) (hf 5 _ rfl) zs rfl;have f6:El enc W 40 [c6]:=El.one (off:=6) (hf 6 _ rfl) zii rfl;have f7:El enc W 3 [c7]:=El.one (off:=7) (hf 7 _ rfl) z3 rfl;have f8:El enc W 3 [c8]:=El.one (off:=8) (hf 8 _ rfl) z3 rfl;obtain⟨n0,e0,g0⟩:=int_El f0;obtain⟨n1,e1,g1⟩:=int_El f1;obtain⟨n2,e2,g2⟩:=int_El f2;obtain⟨n3,e3,g3⟩:=int_El f3;obtain⟨n4,e4,g4⟩:=int_El f4;obtain⟨s5,e5,g5⟩:=str_El f5;obtain⟨v6,n6,e6,t6,r6,g6,l6⟩:=ints_El M f6;obtain⟨n7,e7,g7⟩:=int_El f7;obtain⟨n8,e8,g8⟩:=int_El f8
 injection e0 with e0 _;injection e1 with e1 _;injection e2 with e2 _;injection e3 with e3 _;injection e4 with e4 _;injection e5 with e5 _;injection e6 with e6 _;injection e7 with e7 _;injection e8 with e8 _
 subst e0 e1 e2 e3 e4 e5 e6 e7 e8;refine⟨⟨rfl,fun v hv=>?_⟩,⟨n0,n1,n2,n3,n4,s5,n6,n7,n8⟩,oP c6,rfl,r6,⟨g1,g2,g3,g4,g7,g8,g6⟩,l6,g5⟩;simp only[List.mem_cons,List.not_mem_nil,or_false]at hv;rcases hv with rfl|rfl|rfl|rfl|rfl|rfl|rfl|rfl|rfl
 all_goals first|exact I64_told _|exact str_told _|exact t6
theorem blk_flat(M:Mir W tabs):∀{ess:List (List Value)},(∀c∈ess,El enc W 50 c)→∃(l:List Ins) (av:List Value),ess.flatten.map oP=qE l av∧l.length=ess.length∧ArgsOK [] W.heap.size (mirH W tabs) l av∧∀i∈l,InsGo i∧InsMem i:=by
 intro ess
 induction ess with
 | nil=>intro _;exact⟨[],[],rfl,rfl,⟨rfl,fun j i a h=>by simp at h⟩,fun _ h=>by cases h⟩
 | cons c r ih=>
  intro h;obtain⟨l,av,h1,h2,h3,h4⟩:=ih fun c hc=>h c (List.mem_cons_of_mem _ hc);obtain⟨-,i,a,g1,g2,g3⟩:=ins_El M (h c (List.mem_cons_self ..));refine⟨i::l,a::av,?_,by rw[List.length_cons,List.length_cons,h2],⟨by rw[List.length_cons,List.length_cons,h3.1],fun j i' a' q1 q2=>?_⟩,fun x hx=>?_⟩
  · rw[List.flatten_cons,List.map_append,h1,g1];rfl
  · cases j with
    | zero=>
     obtain rfl:i=i':=by simpa using q1
     obtain rfl:a=a':=by simpa using q2
     exact g2
    | succ j=>exact h3.2 j i' a' (by simpa using q1) (by simpa using q2)
  · rcases List.mem_cons.1 hx with rfl|hx
    · exact g3
    · exact h4 x hx
theorem blk_El(M:Mir W tabs){cs:List Value}(h:El enc W 51 cs):∃(v:Value) (l:List Ins),cs=[v]∧Told W v∧BlkRO [] W.heap.size (mirH W tabs) (oP v) l∧(∀i∈l,InsGo i∧InsMem i)∧l.length<1125899906842624:=by
 obtain⟨v,ess,h1,h2,h3,h4,h5⟩:=slice_El M.hw M.hab M.h0 Tryz.underlying51 (e:=50) (sz:=9) (by kernel_rfl) (by decide) (of_decide_eq_true (by kernel_rfl)) (fun c hc=>(ins_El M hc).1) h;obtain⟨l,av,g1,g2,g3,g4⟩:=blk_flat M h3;exact⟨v,l,h1,h2,⟨av,g3,by rw[g2,← g1];exact h4⟩,g4,by omega⟩
theorem blks_flat(M:Mir W tabs):∀{ess:List (List Value)},(∀c∈ess,El enc W 51 c)→∃(bs:List (List Ins)) (svs:List Value),ess.flatten.map oP=svs∧bs.length=ess.length∧svs.length=bs.length∧
 (∀(k:Nat) (l:List Ins) (v:Value),bs[k]? = some l→svs[k]? = some v→BlkRO [] W.heap.size (mirH W tabs) v l)∧∀b∈bs,b.length<1125899906842624∧∀i∈b,InsGo i∧InsMem i:=by
 intro ess
 induction ess with
 | nil=>intro _;exact⟨[],[],rfl,rfl,rfl,fun j i a h=>by simp at h,fun _ h=>by cases h⟩
 | cons c r ih=>
  intro h;obtain⟨l,av,h1,h2,h3,h4,h5⟩:=ih fun c hc=>h c (List.mem_cons_of_mem _ hc);obtain⟨v,i,rfl,-,g2,g3,g4⟩:=blk_El M (h c (List.mem_cons_self ..));refine⟨i::l,oP v::av,?_,by rw[List.length_cons,List.length_cons,h2],by rw[List.length_cons,List.length_cons,h3],fun j i' a' q1 q2=>?_,fun x hx=>?_⟩
  · rw[List.flatten_cons,List.map_append,h1];rfl
  · cases j with
    | zero=>
     obtain rfl:i=i':=by simpa using q1
     obtain rfl:oP v=a':=by simpa using q2
     exact g2
    | succ j=>exact h4 j i' a' (by simpa using q1) (by simpa using q2)
  · rcases List.mem_cons.1 hx with rfl|hx
    · exact⟨g4,g3⟩
    · exact h5 x hx
theorem blk_one(M:Mir W tabs){c:List Value}(h:El enc W 51 c):c.length=1∧∀v∈c,Told W v:=by
 obtain⟨v,l,rfl,h2,-⟩:=blk_El M h;exact⟨rfl,fun x hx=>by rw[List.mem_singleton.1 hx];exact h2⟩
theorem fct_El(M:Mir W tabs){cs:List Value}(h:El enc W 43 cs):(∀v∈cs,Told W v)∧∃f:Fct,FunAt W.heap.size (mirH W tabs) (.agg ⟨cs.map oP⟩) f∧FctMem f∧FctGo f:=by
 obtain⟨hl,hf⟩:=struct_El Tryz.underlying43 h;have hl:cs.length=5:=hl.trans (by kernel_rfl);obtain⟨c0,c1,c2,c3,c4,rfl⟩:=five hl;have f0:El enc W 9 [c0]:=El.one (off:=0) (hf 0 _ rfl) zs rfl;have f1:El enc W 23 [c1]:=El.one (off:=1) (hf 1 _ rfl) zss rfl;have f2:El enc W 40 [c2]:=El.one (off:=2) (hf 2 _ rfl) zii rfl;have f3:El enc W 9 [c3]:=El.one (off:=3) (hf 3 _ rfl) zs rfl;have f4:El enc W 41 [c4]:=El.one (off:=4) (hf 4 _ rfl) zbb rfl;obtain⟨s0,e0,g0⟩:=str_El f0;obtain⟨v1,n1,e1,t1,r1,g1,l1⟩:=strs_El M f1;obtain⟨v2,n2,e2,t2,r2,g2,l2⟩:=ints_El M f2;obtain⟨s3,e3,g3⟩:=str_El f3;obtain⟨v4,ess,e4,t4,k4,r4,l4⟩:=slice_El M.hw M.hab M.h0 Tryz.underlying41 (e:=51) (sz:=1) (by kernel_rfl) (Nat.le_refl _) (of_decide_eq_true (by kernel_rfl)) (fun c hc=>blk_one M hc) f4;obtain⟨bs,svs,b1,b2,b3,b4,b5⟩:=blks_flat M k4;injection e0 with e0 _;injection e1 with e1 _;injection e2 with e2 _;injection e3 with e3 _;injection e4 with e4 _
 subst e0 e1 e2 e3 e4;refine⟨fun v hv=>?_,⟨s0,n1,n2,s3,bs⟩,⟨oP c1,oP c2,oP c4,svs,rfl,r1,r2,by rw[b2,← b1];exact r4,b3,b4⟩,⟨l1,l2,g0,g3,by dsimp only;omega,g1,fun b hb=>⟨(b5 b hb).1,fun i hi=>((b5 b hb).2 i hi).2⟩⟩,g2,fun b hb i hi=>((b5 b hb).2 i hi).1⟩;simp only[List.mem_cons,List.not_mem_nil,or_false]at hv;rcases hv with rfl|rfl|rfl|rfl|rfl
 · exact str_told _
 · exact t1
 · exact t2
 · exact str_told _
 · exact t4
end
open Go.Ex Go.Ex.Vir Go.ChangeShapes Go.WideShapes Go.ChangeAt Go.RowKit
set_option maxRecDepth 1000000
def tb4(m:Int)(x y:Value):List (Nat×List Value):=tb m++[(2,[x]),(3,[y])]
theorem tb4_mem{m:Int}{x y:Value}{p:Nat×List Value}(h:p∈tb4 m x y):p=(0,[.int .i64 m])∨p=(1,Lib.pow10Tab.map fun z=>Value.int .u64 z)∨p=(2,[x])∨p=(3,[y]):=by
 simpa only[tb4,tb,List.cons_append,List.nil_append,List.mem_cons,List.not_mem_nil,or_false] using h
theorem tb4_once{m:Int}{x y:Value}:∀p∈tb4 m x y,∀q∈tb4 m x y,p.1=q.1→p=q:=by
 intro p hp q hq e;rcases tb4_mem hp with rfl|rfl|rfl|rfl <;> rcases tb4_mem hq with rfl|rfl|rfl|rfl <;> first|rfl|(dsimp only at e;omega)
theorem err_in2 {W:World} {n:String} {text:List UInt8} {r:List (String×DataW Unit)} {g:Nat} (h:laidMet P ((n,.iface "*errors.errorString" (.ptr (.agg [.lit (.string text)])))::r) W)
 (hg:P.globalNamed n=some g) (ht:(P.globals[g]?).map (·.type)=some 99) :
 ∃(t o b el:Nat) (f:Nat×Nat),W.heap[g]? = some (.cells ⟨[.iface t (.pointer (some ⟨b,o,none⟩))]⟩ el f)∧b<W.heap.size:=by
 obtain⟨a,s,hv,hc,_,_⟩:=laid_sentinel h hg ht Tryz.underlying99 row_es Tryz.underlying258 Tryz.underlying260 rfl rfl Tryz.underlying9 (by kernel_rfl) (by kernel_rfl);obtain⟨b,o,sp⟩:=a;have hsp:sp=none:=spot_none hc;subst hsp;have hb:=(mir_info (tabs:=[]) (fun p hp=>by cases hp) hc).1;unfold World.var? at hv;rw [hg]at hv;simp only[Option.bind_some]at hv;split at hv
 · rename_i cs el fr e;injection hv with hv
   exact⟨_,o,b,el,fr,by rw[e,hv],hb⟩
 · cases hv
theorem ng_le{W:World}(hs:W.ShapedOpen P):8≤W.heap.size:=by
 have h0:(((begin P (fun _ _=>0) default).world.heap[(8 - 1:Nat)]?).bind Obj.row?).isSome=true:=by kernel_rfl
 obtain⟨⟨z,t⟩,h0⟩:=Option.isSome_iff_exists.1 h0;obtain⟨cs,hh,-⟩:=hs.1 (8 - 1) z t (of_decide_eq_true (by kernel_rfl)) h0;rcases Nat.lt_or_ge (8 - 1) W.heap.size with h1|h1
 · omega
 · rw[Array.getElem?_eq_none h1]at hh;cases hh
theorem start4 {W:World} (h10:Lib.VarReads P W "internal/strconv.uint64pow10" (Lib.tabData .u64 Lib.pow10Tab)) (hes:∃text r,laidMet P (("strconv.ErrSyntax",.iface "*errors.errorString" (.ptr (.agg [.lit (.string text)])))::r) W)
 (her:∃text r,laidMet P (("strconv.ErrRange",.iface "*errors.errorString" (.ptr (.agg [.lit (.string text)])))::r) W) (hs:W.ShapedOpen P) :
 ∃(m:Int) (tabs:List (Nat×List Value)),Mir W tabs∧Env m (mirH W tabs)∧HeapR P 8 (idI W) W.heap.size W (mirH W tabs) W.heap.size W:=by
 obtain⟨m,hm⟩:=tabs_in (tabIs_of_reads (g:=1) (t:=234) (e:=219) (n:=20) (by kernel_rfl) (by kernel_rfl) (by kernel_rfl) (by kernel_rfl) (by kernel_rfl) (by kernel_rfl) h10) hs;obtain⟨_,_,h1⟩:=hes;obtain⟨_,_,h2⟩:=her;obtain⟨t1,o1,b1,el1,f1,e1,l1⟩:=err_in2 (g:=2) h1 (by kernel_rfl) (by kernel_rfl);obtain⟨t2,o2,b2,el2,f2,e2,l2⟩:=err_in2 (g:=3) h2 (by kernel_rfl) (by kernel_rfl);generalize hx:Value.iface t1 (.pointer (some ⟨b1,o1,none⟩))=x at *
 generalize hy:Value.iface t2 (.pointer (some ⟨b2,o2,none⟩))=y at *
 have hw:oF W (tb4 m x y):=by
  intro p hp;rcases tb4_mem hp with rfl|rfl|rfl|rfl
  · exact hm _ (by simp[tb])
  · exact hm _ (by simp[tb])
  · exact⟨el1,f1,e1⟩
  · exact⟨el2,f2,e2⟩
 have hgood:∀p∈tb4 m x y,∀v∈p.2,RV (idI W) v v∧oP v=v:=by
  intro p hp v hv;rcases tb4_mem hp with rfl|rfl|rfl|rfl
  · rw[List.mem_singleton.1 hv];exact⟨.int _ _,rfl⟩
  · obtain⟨z,-,rfl⟩:=List.mem_map.1 hv;exact⟨.int _ _,rfl⟩
  · rw[List.mem_singleton.1 hv,← hx];exact⟨.iface (.ptr (B:=⟨b1,szB W b1,0⟩) (idI_of l1)),rfl⟩
  · rw[List.mem_singleton.1 hv,← hy];exact⟨.iface (.ptr (B:=⟨b2,szB W b2,0⟩) (idI_of l2)),rfl⟩
 have hsz:=ng_le hs;have hT:∀p∈tb4 m x y,yG (mirH W (tb4 m x y)) p.1=mkC p.2 0 2:=fun p hp=>mir_tab tb4_once hp;have m0:((0,[.int .i64 m]):Nat×List Value)∈tb4 m x y:=by simp[tb4,tb]
 have m2:((2,[x]):Nat×List Value)∈tb4 m x y:=by simp[tb4]
 have m3:((3,[y]):Nat×List Value)∈tb4 m x y:=by simp[tb4]
 refine⟨m,tb4 m x y,⟨hw,fun p hp v hv=>(hgood p hp v hv).2,1,0,2,?_,by decide,by omega⟩,⟨fun p hp=>?_,?_,?_⟩,mir_heapR hsz hw fun p hp v hv=>(hgood p hp v hv).1⟩
 · have:=hT _ m0;dsimp only at this;rw [this];exact oH _ _ _
 · have:=hT p (List.mem_append_left _ hp);refine⟨⟨0,?_⟩,fun i=>?_⟩
   · rw[this];exact oH _ _ _
   · unfold xX;rw [this];exact uW _ _ _ _
 · have:=hT _ m2;dsimp only at this;refine⟨0,by rw[this];exact oH _ _ _,t1,.pointer (some ⟨b1,o1,none⟩),?_⟩;unfold xX;rw [this,uW,← hx];rfl
 · have:=hT _ m3;dsimp only at this;refine⟨0,by rw[this];exact oH _ _ _,t2,.pointer (some ⟨b2,o2,none⟩),?_⟩;unfold xX;rw [this,uW,← hy];rfl
theorem prints_calls {H:Type} {enc:TypeId×Value→H} {W:World} {base:Nat} {v:Value} {d:DataW H} {p:List MemPlace}
 (h10:Lib.VarReads P W "internal/strconv.uint64pow10" (Lib.tabData .u64 Lib.pow10Tab)) (hes:∃text r,laidMet P (("strconv.ErrSyntax",.iface "*errors.errorString" (.ptr (.agg [.lit (.string text)])))::r) W)
 (her:∃text r,laidMet P (("strconv.ErrRange",.iface "*errors.errorString" (.ptr (.agg [.lit (.string text)])))::r) W) (hs:W.ShapedOpen P)
 (hv:Value.okWide P W .any base 43 v) (hd:DataW.Trod enc P W 0 (fun _=>true) true 43 v d p) (hwt:∀y∈d.weights P 43,y≤reachBytes) :
 Calls P 4 #[v] W fun e w'=>e = .returned (.bool true)∧Go.RowKit.Below W.heap.size W w':=by
 obtain⟨m,tabs,M,hE,hH⟩:=start4 h10 hes her hs;obtain⟨cs,rfl,-⟩:=okWide_struct Tryz.underlying43 hv;obtain⟨fuel,hd⟩:=hd;obtain⟨l⟩:=cs;obtain⟨ht,f,hf,hm,hg⟩:=fct_El M (cs:=l) ⟨fuel,(d,p),hd,hwt⟩
 have hra:RVs (idI W) [.agg ⟨l.map oP⟩] [.agg ⟨l⟩]:=by
  refine⟨rfl,fun i v v' h1 h2=>?_⟩
  cases i with
  | zero=>
   obtain rfl:Value.agg ⟨l.map oP⟩=v:=by simpa using h1
   obtain rfl:Value.agg ⟨l⟩=v':=by simpa using h2
   refine .agg (by simp) fun j w w' q1 q2=>?_;have q2:l[j]? = some w':=q2;have q1:(l.map oP)[j]? = some w:=q1;rw [List.getElem?_map,q2]at q1;obtain rfl:oP w'=w:=by simpa using q1
   exact(ht w' (List.mem_iff_getElem?.2 ⟨j,q2⟩)).1
  | succ i=>simp at h1
 exact law_retsV (prints_rets hE (ng_le hs) f _ hf hm hg) W hH hra
end Go.Proofs.YtapnnpoljobanaaGreatDoor
