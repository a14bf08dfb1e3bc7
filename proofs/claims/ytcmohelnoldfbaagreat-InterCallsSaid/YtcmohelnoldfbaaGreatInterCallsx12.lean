/- What the law leans on: an executor of the model that is sound, deduction over it, and the walks through the code (part 12 of 13). Conditions: those that each theorem states. -/
import Derived.Test.YtcmohelnoldfbaaGreatInterCallsx11

set_option linter.unusedVariables false
set_option linter.unusedSimpArgs false
namespace Go.Proofs.YtcmohelnoldfbaaGreat
open Go Go.Ex Go.Ex.M
set_option maxRecDepth 100000
set_option maxHeartbeats 8000000
attribute [local simp] yI
variable {n lo:Nat} {h:zB}
theorem Tch.lw{S:List Nat}{h':zB}{n':Nat}(t:Tch S h n h' n')(hl:lo≤n)(hS:∀b∈S,lo≤b):Tch [] h lo h' n':=⟨Nat.le_trans hl t.1,fun b hb _=>t.2 b (by omega) fun hx=>by have:=hS b hx;omega⟩
abbrev zSets:Nat:=105+1
abbrev zFun:Nat:=53+1
abbrev eSetE:Nat:=93
def kI:Nat→Int|0=> -1|k+1=>(k:Nat)
theorem bn_kI{P:Program}{k:Nat}(h:k<100000)(ty:Nat)(ox oy:Operand):Bn P .sub ty ox oy (I64 (k:Nat)) (I64 1) (I64 (kI k)):=by
 have e:((k:Nat):Int) - 1=kI k:=by cases k with
  | zero=>rfl
  | succ k=>show((k+1:Nat):Int) - 1=(k:Nat);omega
 rw[← e];exact bn_sub (by omega)
theorem each_com{f:FunT}{iv ov wv lv:Value}{L:List Value}{ws:List Nat}{l:List InsT}{b:Nat}(i1:iv.oneCell'=true)(ro:Row n h ov eSetE 1 L.length L)(hLb:L[b]? = some wv)(sk:SetK 0 n h wv ws)(fm:FunM lo h f)(hfb:f.blocks[b]? = some (lv,l))(hll:l.length≤1000)(hbl:f.blocks.length≤1000)(hLl:L.length≤1000)(hsm:∀i∈l,InsS i)(hlo:lo≤n)
{g:FuncId}{fs cs:List Value}{B:List Nat}(hB:∀x∈B,lo≤x∧x<n)(hwB:∀b,yL wv=some b→b∉B)(J:Nat→zB→Nat→Prop)(h0:J l.length h n)
(hcl:∀k h' n' h2 n2,J k h' n'→Tch [n+2] h' n' h2 n2→J k h2 n2)
(step:∀(k:Nat) i wv' ws' h' n',l[k]? = some i→J (k+1) h' n'→Tch B h n h' n'→n+3≤n'→InsM lo h' i→(∀q,yE ws' q=bkL (yE ws) (l.drop (k+1)) q)→SetK 0 n' h' wv' ws'→Com P 0 g (fs++([I64 (k:Nat),.agg ⟨xY i⟩,.agg ⟨[wv']⟩]++cs)) h' n' fun o h2 n2=>o = .ret (.tuple #[])∧Tch B h' n' h2 n2∧J k h2 n2) :
 Com P 0 47 [.agg ⟨[iv,ov]⟩,.agg ⟨funC f⟩,I64 (b:Nat),.func (.func g) ⟨fs⟩ ⟨cs⟩] h n fun o h' n'=>o = .ret (.tuple #[])∧Tch B h n h' n'∧J 0 h' n':=by
 have o1:=ro.one;have v1:=(fm.vr 0).one;have v2:=(fm.pr 0).one;have v3:=(fm.bl 0).one;have hbL:=(List.getElem?_eq_some_iff.1 hLb).1;have hbB:=(List.getElem?_eq_some_iff.1 hfb).1;have rb:=fm.bl 0;have low1:=ro.low (by omega);have low2:=rb.low (by omega);have s1:=sk.k.one;have q0:zJ h (sbk ov) (sof ov+b*1)=some wv:=by rw[Nat.mul_one];exact ro.at hLb
 have q1:zJ h (sbk f.bv) (sof f.bv+b*1)=some lv:=by rw[Nat.mul_one];exact rb.at (by rw[List.getElem?_map,hfb];rfl)
 have rl:=fm.el _ (List.mem_of_getElem? hfb) 0;dsimp only at rl;have l1:=rl.one;refine ent fun u=>?_;have hnB:∀x,n≤x→x∉B:=fun x hx hm=>by have:=(hB x hm).2;omega
 repeat' first|refine ob (a:=I64 (kI l.length)) ?_ (bn_kI (by omega) _ _ _)|refine wk ?_|refine cX (fun _=>?_) fun _=>?_|fail
 refine lpR (fun k:Nat=>[(2,I64 (b:Nat)),(3,.func (.func g) ⟨fs⟩ ⟨cs⟩),(4,ptr n 0),(5,ptr (n+1) 0),(8,ptr (n+1+1) 0),(9,I64 (kI k))])
  (fun k h' n'=>Tch B h n h' n'∧n+3≤n'∧k≤l.length∧Cel h' n zSets 0 [iv,ov]∧Cel h' (n+1) zFun 0 (funC f)∧J k h' n'∧∃wv' ws',Cel h' (n+1+1) (tSet+1) 0 [wv']∧(∀q,yE ws' q=bkL (yE ws) (l.drop k) q)∧SetK 0 n' h' wv' ws'∧∀b,yL wv'=some b→b∉B∧b≠n+2) (fun k=>k) l.length ⟨zA,by omega,Nat.le_refl _,zM,zM,hcl _ _ _ _ _ h0 zA,wv,ws,zM,fun q=>by rw[List.drop_length];rfl,sk.tch0 zA,fun b hb=>by have:=(sk.k.blk hb).2;exact⟨hwB b hb,by omega⟩⟩ ?_
 clear q0 q1 rl rb
 rintro k t h' n' ⟨ht,hn',hk,c1,c2,hJ,wv',ws',c3,he,sk',hbl'⟩
 have tl:=Tch.lw ht hlo fun x hx=>(hB x hx).1;have fm':=fm.tch tl (Nat.le_refl _);have s1':=sk'.k.one;have r1':=sk'.row
 cases k with
 | zero=>
  dsimp only[kI];repeat' first|refine wk ?_|refine cX (fun _=>?_) fun _=>?_|fail
  exact⟨rfl,ht,hJ⟩
 | succ k=>
  have d0:l[k]? = some l[k]:=List.getElem?_eq_getElem (by omega);generalize l[k]=i at d0
  have him:=List.mem_of_getElem? d0;have hbm:=List.mem_of_getElem? hfb;have im:=fm'.ins _ hbm i him;have rb':=fm'.bl 0;have rl':=fm'.el _ hbm 0;dsimp only at rl';have q1':zJ h' (sbk f.bv) (sof f.bv+b*1)=some lv:=by rw[Nat.mul_one];exact rb'.at (by rw[List.getElem?_map,hfb];rfl)
  have ri:=row_el rl' d0;have low2:=rb'.low (by omega);have low3:=rl'.low (by omega);have ia:=im.ar 0;have a1:=ia.one;dsimp only[kI];repeat' first|refine wk ?_|refine cX (fun _=>?_) fun _=>?_|fail
  refine cal (step k i wv' ws' _ _ d0 (hcl _ _ _ _ _ hJ zA) zA (by omega) (im.tch (n:=lo) (Tch.lw (n:=n') (S:=[]) zA (by omega) (by simp)) (Nat.le_refl _)) he (sk'.tch0 zA)) ?_
  rintro _ h2 n2 ⟨rfl,t2,hJ2⟩
  have hn2:=t2.le;have c1':Cel h2 n zSets 0 [iv,ov]:=Cel.tch zC t2 (by omega) (hnB _ (by omega));have c2':Cel h2 (n+1) zFun 0 (funC f):=Cel.tch zC t2 (by omega) (hnB _ (by omega));have c3':Cel h2 (n+1+1) (tSet+1) 0 [wv']:=Cel.tch zC t2 (by omega) (hnB _ (by omega));have cI:Cel h2 n' zIns 0 (xY i):=Cel.tch zM t2 (by omega) (hnB _ (by omega));have t02:Tch B h n h2 n2:=Tch.tch t2 zA fun x hx=>.inr hx;have sk2:SetK 0 n2 h2 wv' ws':=⟨sk'.s,(sk'.k.tch (S:=[]) zA (by simp)).tch t2 fun b hb=>(hbl' b hb).1⟩;have im2:=(fm.tch (Tch.lw t02 hlo fun x hx=>(hB x hx).1) (Nat.le_refl _)).ins _ hbm i him;clear t2 c1 c2 c3 ri q1';repeat' first|refine wk ?_|refine cX (fun _=>?_) fun _=>?_|fail
  refine vM (back_ret sk2 im2 (by omega) (hsm i him).1 (hsm i him).2) ?_
  rintro _ h3 n3 ⟨w3,s3,rfl,e3,k3,t3⟩
  have hn3:=t3.le;have o3:=k3.k.one;have c1':Cel h3 n zSets 0 [iv,ov]:=c1'.tch t3 (by omega) (by simp);have c2':Cel h3 (n+1) zFun 0 (funC f):=c2'.tch t3 (by omega) (by simp);have c3':Cel h3 (n+1+1) (tSet+1) 0 [wv']:=c3'.tch t3 (by omega) (by simp);have hJ3:J k h3 n3:=hcl _ _ _ _ _ hJ2 zA;have t03:Tch B h n h3 n3:=Tch.tch t3 t02 (by simp);repeat' first|refine ob (a:=I64 (kI k)) ?_ (bn_kI (by omega) _ _ _)|refine wk ?_|refine cX (fun _=>?_) fun _=>?_|fail
  exact rnd k ⟨zA,by omega,by omega,zC,zC,hcl _ _ _ _ _ hJ3 (Tch.hst (Tch.refl _ _ _) (.inr (by simp))),w3,s3,zM,fun q=>by rw[e3,bkL_at d0];unfold backP;rw [he],(k3.tch (S:=[n+1+1]) zA (by simp;omega)).dnl (by omega),fun b hb=>by have:=(k3.k.blk hb).1;exact⟨hnB _ (by omega),by omega⟩⟩
end Go.Proofs.YtcmohelnoldfbaaGreat
namespace Go.Proofs.YtcmohelnoldfbaaGreat
open Go Go.Ex Go.Ex.M
set_option maxRecDepth 100000
set_option maxHeartbeats 8000000
attribute [local simp] yI
variable {n bc lo:Nat} {h:zB} {f:FunT} {b k:Int}
abbrev zVk:Nat:=219+1
abbrev vkC(f:FunT)(b k:Int):List Value:=[ptr 362 0,str f.name,f.vv,f.pv,str f.result,f.bv,I64 b,I64 k]
def InV(f:FunT)(x:Int):Prop:=∃v:Nat,x=(v:Nat)∧f.vregs[v]? = some [103]
instance vneed_c {v e:Value}:PurC P 0 187 [v,.bool true,e] h n (.tuple ⟨[]⟩):=⟨by
 refine ent fun u=>?_;repeat' first|refine wk ?_|refine cX (fun _=>?_) fun _=>?_|fail
 exact fin rfl⟩
theorem xR{v e:Value}{z:Bool}(hz:z=true):Pur P 0 187 [v,.bool z,e] h n (.tuple ⟨[]⟩):=by subst hz;exact vneed_c.ok
theorem wZ(k4:TabL h)(c:Cel h bc zVk 0 (vkC f b k))(fm:FunM lo h f)(hl:f.vregs.length≤1000){x:Int}(hx:InV f x):Pur P 0 191 [ptr bc 0,I64 x] h n (I64 (0:Nat)):=by
 obtain⟨v,rfl,hv⟩:=hx;have rv:=fm.vr 0;have c1:=row_e1 rv hv;have hlt:=(List.getElem?_eq_some_iff.1 hv).1;refine ent fun u=>?_;repeat' first|refine wk ?_|refine cX (fun _=>?_) fun _=>?_|refine yG (cls4 k4) ?_|fail
 exact fin rfl
theorem vvreg_pur(c:Cel h bc zVk 0 (vkC f b k))(fm:FunM lo h f){x:Int}(hx:InV f x):Pur P 0 189 [ptr bc 0,I64 x] h n (.bool true):=by
 obtain⟨v,rfl,hv⟩:=hx;have rv:=fm.vr 0;have hlt:=(List.getElem?_eq_some_iff.1 hv).1;refine ent fun u=>?_;repeat' first|refine wk ?_|refine cX (fun _=>?_) fun _=>?_|fail
 exact fin (by rw[decide_eq_true (by omega)])
theorem vends_pur(x:Int):Pur P 0 227 [I64 x] h n (.bool (decide (x=7∨x=8∨x=9))):=by
 refine ent fun u=>?_;repeat' first|refine wk ?_|refine cX (fun _=>?_) fun _=>?_|fail
 all_goals exact fin (by simp[*])
section
variable {i:InsT}
theorem TabL.tch{h':zB}{n':Nat}(k4:TabL h)(hn:625≤n)(t:Tch [] h n h' n'):TabL h':=⟨k4.bt.tch t (by omega) (by simp),k4.oB.tch t (by omega) (by simp),k4.cB.tch t (by omega) (by simp),k4.rB.tch t (by omega) (by simp),k4.qB.tch t (by omega) (by simp),k4.iB.tch t (by omega) (by simp),k4.mB.tch t (by omega) (by simp),k4.aB.tch t (by omega) (by simp),k4.uB.tch t (by omega) (by simp),k4.wB.tch t (by omega) (by simp)⟩
theorem vkind1_pur(im:InsM lo h i)(hk:i.kind=1):Pur P 0 209 [ptr bc 0,.agg ⟨xY i⟩,.bool false] h n (.tuple ⟨[]⟩):=by
 have ia:=im.ar 0;have a1:=ia.one
 have ve:∀h n,Pur P 0 227 [I64 i.kind] h n (.bool false):=fun h n=>by
  have:=vends_pur (h:=h) (n:=n) i.kind;first|rwa [decide_eq_false (by omega)]at this|rwa [decide_eq_true (by omega)]at this
 refine Com.pure (ent fun u=>?_) (.inr ⟨_,rfl,rfl⟩);repeat' first|refine wk ?_|refine cX (fun _=>?_) fun _=>?_|refine yG (ve _ _) ?_|refine yG (xR rfl) ?_|fail
 exact finT rfl zA
theorem vkind9_pur(im:InsM lo h i)(hk:i.kind=9):Pur P 0 209 [ptr bc 0,.agg ⟨xY i⟩,.bool true] h n (.tuple ⟨[]⟩):=by
 have ia:=im.ar 0;have a1:=ia.one
 have ve:∀h n,Pur P 0 227 [I64 i.kind] h n (.bool true):=fun h n=>by
  have:=vends_pur (h:=h) (n:=n) i.kind;first|rwa [decide_eq_false (by omega)]at this|rwa [decide_eq_true (by omega)]at this
 refine Com.pure (ent fun u=>?_) (.inr ⟨_,rfl,rfl⟩);repeat' first|refine wk ?_|refine cX (fun _=>?_) fun _=>?_|refine yG (ve _ _) ?_|refine yG (xR rfl) ?_|fail
 exact finT rfl zA
theorem vkind3_pur(k4:TabL h)(hn:625≤n)(c:Cel h bc zVk 0 (vkC f b k))(hb:bc<n)(hlo:lo≤n)(im:InsM lo h i)(hk:i.kind=3)(hm:i.name=[97,100,100])(ha:i.args.length=2):Pur P 0 209 [ptr bc 0,.agg ⟨xY i⟩,.bool false] h n (.tuple ⟨[]⟩):=by
 have ia:=im.ar 0;have a1:=ia.one
 have ve:∀h n,Pur P 0 227 [I64 i.kind] h n (.bool false):=fun h n=>by
  have:=vends_pur (h:=h) (n:=n) i.kind
  rwa [decide_eq_false (by omega)]at this
 rw[ha]at ia;have kt:∀{h' n'},Tch [] h n h' n'→TabL h':=fun t=>k4.tch hn t;have ho:∀{h' n'},Tch [] h n h' n'→Pur P 0 228 [ptr 362 0,str i.name] h' n' (.tuple ⟨[I64 (0:Nat),.bool true]⟩):=fun t=>by rw[hm];exact op4 (kt t)
 refine Com.pure (ent fun u=>?_) (.inr ⟨_,rfl,rfl⟩);repeat' first|refine wk ?_|refine cX (fun _=>?_) fun _=>?_|refine yG (ve _ _) ?_|refine yG (xR rfl) ?_|refine yG (ho zA) ?_|refine yG (uses4 (kt zA)) ?_|fail
 exact finT rfl zA
theorem vkind6_pur(k4:TabL h)(hn:625≤n)(c:Cel h bc zVk 0 (vkC f b k))(hb:bc<n)(hlo:lo≤n)(im:InsM lo h i)(hk:i.kind=6)(hm:i.name=[103,111])(ha:i.args.length=1):Pur P 0 209 [ptr bc 0,.agg ⟨xY i⟩,.bool false] h n (.tuple ⟨[]⟩):=by
 have ia:=im.ar 0;have a1:=ia.one
 have ve:∀h n,Pur P 0 227 [I64 i.kind] h n (.bool false):=fun h n=>by
  have:=vends_pur (h:=h) (n:=n) i.kind
  rwa [decide_eq_false (by omega)]at this
 rw[ha]at ia;have kt:∀{h' n'},Tch [] h n h' n'→TabL h':=fun t=>k4.tch hn t;have hnm:nameB i.name=true:=by rw[hm];decide
 refine Com.pure (ent fun u=>?_) (.inr ⟨_,rfl,rfl⟩);repeat' first|refine wk ?_|refine cX (fun _=>?_) fun _=>?_|refine yG (ve _ _) ?_|refine yG (xR rfl) ?_|fail
 refine vM (args4 (kt zA) (by omega)) ?_
 rintro w h2 n2 ⟨ho,t2⟩
 have hn2:=t2.le;have o2:=ho.row (by decide);have o21:=o2.one;have cI:Cel h2 n zIns 0 (xY i):=zM;repeat' first|refine wk ?_|refine cX (fun _=>?_) fun _=>?_|refine yG (xR rfl) ?_|fail
 exact finT rfl zA
end
end Go.Proofs.YtcmohelnoldfbaaGreat
namespace Go.Proofs.YtcmohelnoldfbaaGreat
open Go Go.Ex Go.Ex.M
set_option maxRecDepth 100000
set_option maxHeartbeats 8000000
attribute [local simp] yI
variable {n bc lo:Nat} {h:zB} {f:FunT} {b k:Int} {i:InsT}
theorem voper_pur(k4:TabL h)(hn:625≤n)(c:Cel h bc zVk 0 (vkC f b k))(hb:bc<n)(fm:FunM lo h f)(hl:f.vregs.length≤1000)(hlo:lo≤n)(im:InsM lo h i)(hm:i.name=[97,100,100])(hd:InV f i.d){x y:Int}(ha:i.args=[x,y])(hx:InV f x)(hy:InV f y):Pur P 0 211 [ptr bc 0,.agg ⟨xY i⟩] h n (.tuple ⟨[]⟩):=by
 have ia:=im.ar 0;have a1:=ia.one;rw [ha]at ia;have ia:Row lo h i.av 0 1 2 [I64 x,I64 y]:=ia;have low:=ia.low (by omega);have t1:Tch [] h n (hal h n (mkC (xY i) zIns 0)) (n+1):=zA;have k1:=k4.tch hn t1;have c1:Cel (hal h n (mkC (xY i) zIns 0)) bc zVk 0 (vkC f b k):=c.tch t1 hb (by simp);have f1:=fm.tch (Tch.lw t1 hlo (by simp)) (Nat.le_refl _);have r1:Row lo (hal h n (mkC (xY i) zIns 0)) i.av 0 1 2 [I64 x,I64 y]:=ia.tch (Tch.lw t1 hlo (by simp)) (Nat.le_refl _) (by simp);have ho:∀n',Pur P 0 228 [ptr 362 0,str i.name] (hal h n (mkC (xY i) zIns 0)) n' (.tuple ⟨[I64 (0:Nat),.bool true]⟩):=fun _=>by rw[hm];exact op4 k1
 refine Com.pure (ent fun u=>?_) (.inr ⟨_,rfl,rfl⟩);repeat' first|refine wk ?_|refine cX (fun _=>?_) fun _=>?_|refine yG (ho _) ?_|refine yG (wZ k1 c1 f1 hl hd) ?_|refine yG (oper0 k1) ?_|refine yG (xR rfl) ?_|fail
 refine lpR (fun q:Nat=>[(0,ptr bc 0),(4,I64 (0:Nat)),(32,i.av),(33,I64 (2:Nat)),(34,I64 q)]) (fun q h' n'=>h'=hal h n (mkC (xY i) zIns 0)∧n'=n+1∧q≤2) (fun q=>2 - q) 0 ⟨rfl,rfl,Nat.zero_le _⟩ ?_
 rintro q t h' n' ⟨rfl,rfl,hq⟩
 by_cases hlt:q<2
 · obtain⟨z,hz,hv⟩:∃z,[I64 x,I64 y][q]? = some (I64 z)∧InV f z:=by
    rcases q with _|_|q
    · exact⟨x,rfl,hx⟩
    · exact⟨y,rfl,hy⟩
    · omega
   have d0:zJ (hal h n (mkC (xY i) zIns 0)) (sbk i.av) (sof i.av+q*1)=some (I64 z):=by rw[Nat.mul_one];exact r1.at hz
   have low1:=r1.low (by omega);repeat' first|refine wk ?_|refine cX (fun _=>?_) fun _=>?_|refine yG (wZ k1 c1 f1 hl hv) ?_|refine yG (oper4 k1 hlt) ?_|refine yG (xR rfl) ?_|fail
   exact rnd (q+1) ⟨rfl,rfl,by omega⟩
 · obtain rfl:q=2:=by omega
   repeat' first|refine wk ?_|refine cX (fun _=>?_) fun _=>?_|fail
   exact finT rfl zA
theorem own_way{lo n e:Nat}{h:zB}{v x:Value}(o:OwnE lo n h v e 1 1 [x]):WayR lo n h v e 1 1 [x]:=by
 rcases o with(⟨_,h9,_⟩|⟨b,q1,q2,rfl,q3,q4,q5,q6⟩)|⟨_,h9,_⟩
 · cases h9
 · exact⟨b,1,_,1,inf,q1,q2,rfl,q3,q4,Nat.le_refl _,fun i _=>q6 i,.inr ⟨rfl,rfl,rfl⟩⟩
 · cases h9
theorem vcall_pur(k4:TabL h)(hn:625≤n)(c:Cel h bc zVk 0 (vkC f b k))(hb:bc<n)(fm:FunM lo h f)(hl:f.vregs.length≤1000)(hlo:lo≤n)(im:InsM lo h i)(hd:InV f i.d){x:Int}(ha:i.args=[x])(hx:InV f x):Pur P 0 212 [ptr bc 0,.agg ⟨xY i⟩] h n (.tuple ⟨[]⟩):=by
 have ia:=im.ar 0;have a1:=ia.one;rw [ha]at ia;have ia:Row lo h i.av 0 1 1 [I64 x]:=ia;have low:=ia.low (by omega);have kt:∀{h' n'},Tch [] h n h' n'→TabL h':=fun t=>k4.tch hn t;refine Com.pure (ent fun u=>?_) (.inr ⟨_,rfl,rfl⟩);repeat' first|refine wk ?_|refine cX (fun _=>?_) fun _=>?_|fail
 refine vM (args4 (kt zA) (by omega)) ?_
 rintro w h2 n2 ⟨ho,t2⟩
 have hn2:=t2.le;have o2:=ho.row (by decide);have o21:=o2.one;have cI:Cel h2 n zIns 0 (xY i):=zM;have t02:Tch [] h n h2 n2:=zA;obtain⟨w',e1,e2,e3⟩:=way_cut (P:=P) (ty:=45) (k:=1) (own_way ho) (Nat.le_refl _) (Nat.le_refl _);have k2:=kt t02;have c2:Cel h2 bc zVk 0 (vkC f b k):=c.tch t02 hb (by simp);have f2:=fm.tch (Tch.lw t02 hlo (by simp)) (Nat.le_refl _);have r2:Row lo h2 i.av 0 1 1 [I64 x]:=ia.tch (Tch.lw t02 hlo (by simp)) (Nat.le_refl _) (by simp);have rw':Row n2 h2 w' tI 1 1 [I64 (0:Nat)]:=e2.row (by decide);have hd0:i.d≠-1:=by obtain⟨v,hv,_⟩:=hd;omega
 have d0:zJ h2 (sbk i.av) (sof i.av+0*1)=some (I64 x):=r2.at (i:=0) rfl;have d1:zJ h2 (sbk w') (sof w'+0*1)=some (I64 (0:Nat)):=rw'.at (i:=0) rfl;have low1:=r2.low (by omega);have low2:=rw'.low (by omega);clear t2;repeat' first|refine wk ?_|refine cX (fun _=>?_) fun _=>?_|fail
 refine zV ?_;repeat' first|refine wk ?_|refine cX (fun _=>?_) fun _=>?_|refine yG (wZ k2 c2 f2 hl hx) ?_|refine yG (in4 k2 (by omega)) ?_|refine yG (xR rfl) ?_|fail
 refine zV ?_;repeat' first|refine wk ?_|refine cX (fun _=>?_) fun _=>?_|refine yG (wZ k2 c2 f2 hl hd) ?_|refine yG (res4 k2) ?_|refine yG (in4 k2 (by omega)) ?_|refine yG (xR rfl) ?_|fail
 all_goals first|exact finT rfl zA|(exfalso;omega)
theorem vret_pur(k4:TabL h)(hn:625≤n)(c:Cel h bc zVk 0 (vkC f b k))(hb:bc<n)(fm:FunM lo h f)(hl:f.vregs.length≤1000)(hlo:lo≤n)(im:InsM lo h i)(hr:f.result=[103])(ha:InV f i.a):Pur P 0 213 [ptr bc 0,.agg ⟨xY i⟩] h n (.tuple ⟨[]⟩):=by
 have ia:=im.ar 0;have a1:=ia.one;have t1:Tch [] h n (hal h n (mkC (xY i) zIns 0)) (n+1):=zA;have k1:=k4.tch hn t1;have c1:Cel (hal h n (mkC (xY i) zIns 0)) bc zVk 0 (vkC f b k):=c.tch t1 hb (by simp);have f1:=fm.tch (Tch.lw t1 hlo (by simp)) (Nat.le_refl _);have hc:∀n',Pur P 0 29 [ptr 362 0,str f.result] (hal h n (mkC (xY i) zIns 0)) n' (.tuple ⟨[I64 (0:Nat),.bool true]⟩):=fun _=>by rw[hr];exact cls4 k1
 refine Com.pure (ent fun u=>?_) (.inr ⟨_,rfl,rfl⟩);repeat' first|refine wk ?_|refine cX (fun _=>?_) fun _=>?_|refine yG (hc _) ?_|refine yG (wZ k1 c1 f1 hl ha) ?_|refine yG (xR rfl) ?_|fail
 exact finT rfl zA
inductive InsG (f:FunT) (i:InsT):Bool→Prop
 | k1 (hk:i.kind=1) (hd:InV f i.d):InsG f i false
 | k3 (hk:i.kind=3) (hm:i.name=[97,100,100]) (hd:InV f i.d) (x y:Int) (ha:i.args=[x,y]) (hx:InV f x) (hy:InV f y):InsG f i false
 | k6 (hk:i.kind=6) (hm:i.name=[103,111]) (hd:InV f i.d) (x:Int) (ha:i.args=[x]) (hx:InV f x):InsG f i false
 | k9 (hk:i.kind=9) (ha:InV f i.a):InsG f i true
theorem vkind_pur(k4:TabL h)(hn:625≤n)(c:Cel h bc zVk 0 (vkC f b k))(hb:bc<n)(hlo:lo≤n)(im:InsM lo h i){la:Bool}(g:InsG f i la):Pur P 0 209 [ptr bc 0,.agg ⟨xY i⟩,.bool la] h n (.tuple ⟨[]⟩):=by
 cases g with
 | k1 hk hd=>exact vkind1_pur im hk
 | k3 hk hm hd x y ha hx hy=>exact vkind3_pur k4 hn c hb hlo im hk hm (by rw[ha];rfl)
 | k6 hk hm hd x ha hx=>exact vkind6_pur k4 hn c hb hlo im hk hm (by rw[ha];rfl)
 | k9 hk ha=>exact vkind9_pur im hk
theorem rdG{la:Bool}(g:InsG f i la):∀x∈rdL i,InV f x:=by
 intro x hx
 cases g with
 | k1 hk hd=>unfold rdL at hx;rw [if_neg (by omega),if_neg (by omega),if_neg (by omega)]at hx;cases hx
 | k3 hk hm hd x y ha h1 h2=>unfold rdL at hx;rw [if_neg (by omega),if_neg (by omega),if_pos (by omega),ha]at hx;simp at hx;rcases hx with rfl|rfl <;> assumption
 | k6 hk hm hd x ha h1=>unfold rdL at hx;rw [if_neg (by omega),if_neg (by omega),if_pos (by omega),ha]at hx;simp at hx;subst hx;assumption
 | k9 hk ha=>unfold rdL at hx;rw [if_pos (by omega)]at hx;simp at hx;subst hx;exact ha
theorem wrG{la:Bool}(g:InsG f i la)(hw:wrB i=true):InV f (wrD i):=by
 cases g with
 | k1 hk hd=>unfold wrD;rw [if_pos (by omega)];exact hd
 | k3 hk hm hd=>unfold wrD;rw [if_pos (by omega)];exact hd
 | k6 hk hm hd=>unfold wrD;rw [if_pos (by omega)];exact hd
 | k9 hk ha=>unfold wrB at hw;simp at hw;omega
end Go.Proofs.YtcmohelnoldfbaaGreat
namespace Go.Proofs.YtcmohelnoldfbaaGreat
open Go Go.Ex Go.Ex.M
set_option maxRecDepth 100000
set_option maxHeartbeats 8000000
attribute [local simp] yI
variable {n bc lo:Nat} {h:zB} {f:FunT} {b k:Int} {i:InsT}
instance:IxC P 258 (.array 10 1):=⟨by kernel_rfl⟩
abbrev fV(g:Nat):Value:=.func (.func g) #[] #[]
instance fV_ne {g:Nat}:BnC P .neq 256 (fV g) .nilFunc (.bool true):=⟨fun ox oy=>by show _=_;kernel_rfl⟩
instance fN_ne:BnC P .neq 256 .nilFunc .nilFunc (.bool false):=⟨fun ox oy=>by show _=_;kernel_rfl⟩
abbrev askC:List Value:=[.nilFunc,.nilFunc,fV 210,fV 211,.nilFunc,.nilFunc,fV 212,fV 214,fV 214,fV 213]
theorem vins_pur(k4:TabL h)(hn:625≤n)(c:Cel h bc zVk 0 (vkC f b k))(hb:bc<n)(fm:FunM lo h f)(hl:f.vregs.length≤1000)(hlo:lo≤n)(im:InsM lo h i)(hr:f.result=[103]){la:Bool}(g:InsG f i la):Pur P 0 193 [ptr bc 0,.agg ⟨xY i⟩,.bool la] h n (.tuple ⟨[]⟩):=by
 have ia:=im.ar 0;have a1:=ia.one;have t1:Tch [] h n (hal (hal h n (mkC [ptr bc 0] (217+1) 0)) (n+1) (mkC (xY i) zIns 0)) (n+1+1):=zA;have k1:=k4.tch hn t1;have c1:Cel _ bc zVk 0 (vkC f b k):=c.tch t1 hb (by simp);have i1:=im.tch (Tch.lw t1 hlo (by simp)) (Nat.le_refl _);have f1:=fm.tch (Tch.lw t1 hlo (by simp)) (Nat.le_refl _);refine Com.pure (ent fun u=>?_) (.inr ⟨_,rfl,rfl⟩);have cc:∀{h' n'},Tch [] h n h' n'→Cel h' bc zVk 0 (vkC f b k):=fun t=>c.tch t hb (by simp);have ff:∀{h' n'},Tch [] h n h' n'→FunM lo h' f:=fun t=>fm.tch (Tch.lw t hlo (by simp)) (Nat.le_refl _);have ii:∀{h' n'},Tch [] h n h' n'→InsM lo h' i:=fun t=>im.tch (Tch.lw t hlo (by simp)) (Nat.le_refl _);have kk:∀{h' n'},Tch [] h n h' n'→TabL h':=fun t=>k4.tch hn t;repeat' first|refine wk ?_|refine cX (fun _=>?_) fun _=>?_|refine yG (vkind_pur k1 (by omega) c1 (by omega) (by omega) i1 g) ?_|refine yG (wY a1) ?_|fail
 case' refine_1 hw=>
  repeat' first|refine wk ?_|refine cX (fun _=>?_) fun _=>?_|refine yG (vvreg_pur c1 f1 (wrG g hw)) ?_|refine yG (xR rfl) ?_|fail
 all_goals
  refine vM (reads_ret a1) ?_
  rintro _ h2 n2 ⟨rfl,e2,c2,t2⟩
  have hn2:=t2.le;have cB:Cel h2 n (217+1) 0 [ptr bc 0]:=zM;have cI:Cel h2 (n+1) zIns 0 (xY i):=zM;have base:Tch [] h n (hal h2 n2 (.deferred true)) (n2+1):=zA;clear t2 t1 k1 c1 i1 f1;repeat' first|refine wk ?_|refine cX (fun _=>?_) fun _=>?_|fail
  refine wc_rg0 (g:=216) (fs:=[]) (cs:=[ptr (n+1+1) 0]) (by(apply ev_box;((conv=>lhs;whnf) <;> exact rfl))) ?_;refine it_core (enc:=I64) (elems:=rdL i) (ps:=[28]) (fun done h' n'=>Tch [] (hal h2 n2 (.deferred true)) (n2+1) h' n'∧n2+2≤n') (fun j h' n'=>False) rfl (reads1_it (lo:=lo) (p:=n+1+1)) ?_ obe_ask ⟨zA,by omega⟩ ?_ ?_ ?_
  · rintro done h' n' ⟨ht,hn'⟩
    have t0:Tch [] h n h' n':=Tch.tch ht base (by simp);exact⟨by omega,by omega,c2.tch (Tch.tch ht (S:=[]) zA (by simp)) (by omega) (by simp),ii t0⟩
  · rintro done x h' n' ⟨ht,hn'⟩ hL hpre
    have hx:=rdG g x (hpre.subset (by simp));have t0:Tch [] h n h' n':=Tch.tch ht base (by simp);have cB':Cel h' n (217+1) 0 [ptr bc 0]:=cB.tch (Tch.tch ht (S:=[]) zA (by simp)) (by omega) (by simp);repeat' first|refine wk ?_|refine cX (fun _=>?_) fun _=>?_|refine yG (vvreg_pur (cc (n':=n') zA) (ff (n':=n') zA) hx) ?_|refine yG (xR rfl) ?_|fail
    exact⟨by omega,.inl ⟨rfl,vF,zA,by omega⟩⟩
  · rintro h' n' ⟨ht,hn'⟩
    have t0:Tch [] h n h' n':=Tch.tch ht base (by simp);have cB':Cel h' n (217+1) 0 [ptr bc 0]:=cB.tch (Tch.tch ht (S:=[]) zA (by simp)) (by omega) (by simp);have cI':Cel h' (n+1) zIns 0 (xY i):=cI.tch (Tch.tch ht (S:=[]) zA (by simp)) (by omega) (by simp);have hD:zF h' n2 = .deferred true:=obe_tch ht (by omega) (by simp) vF;clear ht base cB cI c2;repeat' first|refine wk ?_|refine cX (fun _=>?_) fun _=>?_|fail
    refine ob (a:=.agg ⟨askC⟩) ?_ (by kernel_rfl);repeat' first|refine wk ?_|refine cX (fun _=>?_) fun _=>?_|fail
    cases g with
    | k1 hk hd=>
     repeat' first|refine wk ?_|refine cX (fun _=>?_) fun _=>?_|refine ob (a:=.pointer (some ⟨n',0+1*1,none⟩)) ?_ (iada (m:=1) hk (by decide))|fail
     exact finT rfl zA
    | k3 hk hm hd x y ha hx hy=>
     repeat' first|refine wk ?_|refine cX (fun _=>?_) fun _=>?_|refine ob (a:=.pointer (some ⟨n',0+3*1,none⟩)) ?_ (iada (m:=3) hk (by decide))|fail
     repeat' first|refine wk ?_|refine cX (fun _=>?_) fun _=>?_|refine yG (voper_pur (kk (n':=n'+1) zA) (by omega) (cc (n':=n'+1) zA) (by omega) (ff (n':=n'+1) zA) hl (by omega) (ii (n':=n'+1) zA) hm hd ha hx hy) ?_|fail
     exact finT rfl zA
    | k6 hk hm hd x ha hx=>
     repeat' first|refine wk ?_|refine cX (fun _=>?_) fun _=>?_|refine ob (a:=.pointer (some ⟨n',0+6*1,none⟩)) ?_ (iada (m:=6) hk (by decide))|fail
     repeat' first|refine wk ?_|refine cX (fun _=>?_) fun _=>?_|refine yG (vcall_pur (kk (n':=n'+1) zA) (by omega) (cc (n':=n'+1) zA) (by omega) (ff (n':=n'+1) zA) hl (by omega) (ii (n':=n'+1) zA) hd ha hx) ?_|fail
     exact finT rfl zA
    | k9 hk ha=>
     repeat' first|refine wk ?_|refine cX (fun _=>?_) fun _=>?_|refine ob (a:=.pointer (some ⟨n',0+9*1,none⟩)) ?_ (iada (m:=9) hk (by decide))|fail
     repeat' first|refine wk ?_|refine cX (fun _=>?_) fun _=>?_|refine yG (vret_pur (kk (n':=n'+1) zA) (by omega) (cc (n':=n'+1) zA) (by omega) (ff (n':=n'+1) zA) hl (by omega) (ii (n':=n'+1) zA) hr ha) ?_|fail
     exact finT rfl zA
  · rintro j h' n' hf
    exact hf.elim
end Go.Proofs.YtcmohelnoldfbaaGreat
namespace Go.Proofs.YtcmohelnoldfbaaGreat
open Go Go.Ex Go.Ex.M
set_option maxRecDepth 100000
set_option maxHeartbeats 8000000
attribute [local simp] yI
variable {n bc lo:Nat} {h:zB} {f:FunT} {b k:Int} {i:InsT}
theorem defs_ret{e:Nat}{lv:Value}{l:List InsT}(r:Row lo h lv e 9 l.length (l.flatMap xY))(hi:∀i∈l,InsM lo h i)(hlo:lo≤n)(hll:l.length≤1000):Ret P 0 194 [lv] h n fun v h' n'=>∃ds:List Int,Own n n' h' v tI 1 ds.length (ds.map I64)∧ds.length≤l.length∧Tch [] h n h' n':=by
 refine ent fun u=>?_;repeat' first|refine wk ?_|refine cX (fun _=>?_) fun _=>?_|fail
 refine lpR (α :=Nat×Value×List Int) (fun a=>[(3,a.2.1),(8,lv),(9,I64 l.length),(10,I64 a.1)]) (fun a h' n'=>Tch [] h n h' n'∧a.1≤l.length∧Own n n' h' a.2.1 tI 1 a.2.2.length (a.2.2.map I64)∧a.2.2.length≤a.1) (fun a=>l.length - a.1) (0,.slice none 0 0,[]) ⟨zA,Nat.zero_le _,Own.nil,Nat.le_refl _⟩ ?_
 rintro ⟨q,dv,ds⟩ t h' n' ⟨ht,hq,ho,hdl⟩
 dsimp only at hq ho hdl ⊢;have hn':=ht.le;by_cases hlt:q<l.length
 · have d0:l[q]? = some l[q]:=List.getElem?_eq_getElem hlt;generalize l[q]=i at d0
   have tl:Tch [] h lo h' n':=Tch.lw ht hlo (by simp);have im:=(hi i (List.mem_of_getElem? d0)).tch tl (Nat.le_refl _);have ia:=im.ar 0;have a1:=ia.one;have r':=r.tch tl (Nat.le_refl _) (by simp);have ri:=row_el r' d0;have low:=r'.low (by omega)
   cases hw:wrB i with
   | true=>
    have wp:∀{h n},Pur P 0 158 [.agg ⟨xY i⟩] h n (.tuple ⟨[I64 (wrD i),.bool true]⟩):=fun {h n}=>by have:=wY (h:=h) (n:=n) a1;rwa [hw]at this
    repeat' first|refine wk ?_|refine cX (fun _=>?_) fun _=>?_|refine yG wp ?_|fail
    refine appO (ho.tch (S:=[]) zA (by simp)) (xX (e:=tI) (sz:=1) (len:=1) rfl (by decide)) (by omega) ⟨rfl,trivial⟩ (by omega) ?_
    rintro v3 h3 n3 ho3 t3
    have hn3:=t3.le;have t03:Tch [] h n h3 n3:=Tch.tch t3 zA fun x hx=>.inl (by have:=xN ho x hx;omega);clear t3;repeat' first|refine wk ?_|refine cX (fun _=>?_) fun _=>?_|fail
    exact rnd (q+1,v3,ds++[wrD i]) ⟨t03,by omega,by rw[List.length_append,List.map_append];exact ho3,by rw[List.length_append];simp;omega⟩
   | false=>
    have wp:∀{h n},Pur P 0 158 [.agg ⟨xY i⟩] h n (.tuple ⟨[I64 (wrD i),.bool false]⟩):=fun {h n}=>by have:=wY (h:=h) (n:=n) a1;rwa [hw]at this
    repeat' first|refine wk ?_|refine cX (fun _=>?_) fun _=>?_|refine yG wp ?_|fail
    exact rnd (q+1,dv,ds) ⟨zA,by omega,ho.tch (S:=[]) zA (by simp),Nat.le_succ_of_le hdl⟩
 · obtain rfl:q=l.length:=by omega
   repeat' first|refine wk ?_|refine cX (fun _=>?_) fun _=>?_|fail
   exact⟨_,rfl,ds,ho,hdl,ht⟩
theorem next_ret{e:Nat}{lv:Value}{l:List InsT}(r:Row lo h lv e 9 l.length (l.flatMap xY))(hlo:lo≤n)(hll:l.length≤1000){i:InsT}(hi:l[l.length - 1]? = some i)(hk:i.kind=9)(a1:i.av.oneCell'=true):Ret P 0 195 [lv] h n fun v h' n'=>v = .slice none 0 0∧Tch [] h n h' n':=by
 have hpos:0<l.length:=by
  rcases l with _|⟨x,r⟩
  · cases hi
  · exact Nat.succ_pos _
 have ri:=row_el r hi;have low:=r.low (by omega);have el:((l.length:Nat):Int) - 1=((l.length - 1:Nat):Int):=by omega
 have bnl:∀ty ox oy,Bn P .sub ty ox oy (I64 (l.length:Nat)) (I64 1) (I64 ((l.length - 1:Nat):Int)):=fun ty ox oy=>by rw[← el];exact bn_sub (by omega)
 refine ent fun u=>?_;repeat' first|refine ob (a:=I64 ((l.length - 1:Nat):Int)) ?_ (bnl _ _ _)|refine wk ?_|refine cX (fun _=>?_) fun _=>?_|fail
 exact⟨_,rfl,rfl,zA⟩
instance mib:MiC P 259 (.bool false):=⟨⟨3,4,by kernel_rfl,by kernel_rfl,by kernel_rfl⟩⟩
end Go.Proofs.YtcmohelnoldfbaaGreat
namespace Go.Proofs.YtcmohelnoldfbaaGreat
open Go Go.Ex Go.Ex.M
set_option maxRecDepth 100000
set_option maxHeartbeats 8000000
attribute [local simp] yI
variable {n bc lo:Nat} {h:zB} {f:FunT} {b k:Int} {i:InsT}
def knB(ws:List Nat)(l:List InsT)(q:Nat)(x:Int):Bool:=((bitN ws).any fun m=>decide (x=(m:Nat))) || (l.take q).any fun i=>wrB i && decide (x=wrD i)
theorem knB_at{ws:List Nat}{l:List InsT}{q:Nat}{i:InsT}(h:l[q]? = some i)(x:Int):knB ws l (q+1) x=(knB ws l q x || (wrB i && decide (x=wrD i))):=by
 unfold knB;rw [vX h,List.any_append,Bool.or_assoc];simp
abbrev zMp:Nat:=259+1
abbrev zPc:Nat:=217+1
theorem vreads_com(c:Cel h bc zVk 0 (vkC f b k))(hb:bc<n)(hlb:lo≤bc){e:Nat}{lv:Value}{l:List InsT}(r:Row lo h lv e 9 l.length (l.flatMap xY))(hi:∀i∈l,InsM lo h i)(hll:l.length≤1000){wv:Value}{ws:List Nat}(sk:SetK 0 n h wv ws)(hwb:∀x,yL wv=some x→x≠bc)(hrd:∀(q:Nat) i,l[q]? = some i→∀x∈rdL i,knB ws l q x=true)(b0:Int) :
 Com P 0 197 [ptr bc 0,I64 b0,lv,.agg ⟨[wv]⟩] h n fun o h' n'=>o = .ret (.tuple #[])∧Tch [bc] h n h' n'∧∃b' k',Cel h' bc zVk 0 (vkC f b' k'):=by
 have w1:=sk.k.one;refine ent fun u=>?_;repeat' first|refine wk ?_|refine cX (fun _=>?_) fun _=>?_|fail
 refine vM (eachE_ret w1) ?_
 rintro _ h2 n2 ⟨rfl,e2,c2,t2⟩
 have hn2:=t2.le;have cB:Cel h2 n zPc 0 [ptr bc 0]:=zM;have cM:Cel h2 (n+1+1+1) zMp 0 [.map (some (n+1+1))]:=zM;have mp:MpK h2 (n+1+1) (.bool true) fun x=>(([]:List Nat).any fun m=>decide (x=(m:Nat))):=⟨[],0,obe_ask,(fun _ h=>by cases h),fun _ h=>by cases h⟩;have cK:Cel h2 bc zVk 0 (vkC f b k):=c.tch (S:=[]) zA hb (by simp);have base:Tch [] h n (hal h2 n2 (.deferred true)) (n2+1):=zA;clear t2;repeat' first|refine wk ?_|refine cX (fun _=>?_) fun _=>?_|fail
 refine wc_rg0 (g:=164) (fs:=[]) (cs:=[ptr (n+1+1+1+1+1) 0]) (by(apply ev_box;((conv=>lhs;whnf) <;> exact rfl))) ?_
 refine it_core (enc:=natV) (elems:=bitN ws) (ps:=[18]) (fun done h' n'=>Tch [n+1+1] (hal h2 n2 (.deferred true)) (n2+1) h' n'∧n2+2≤n'∧MpK h' (n+1+1) (.bool true) fun x=>done.any fun m=>decide (x=(m:Nat)))
  (fun j h' n'=>False) rfl (each1_it (lo:=n) (p:=n+1+1+1+1+1) (wv:=wv) sk.s) ?_ obe_ask ⟨zA,by omega,mp.tch (S:=[]) zA (by omega) (by simp)⟩ ?_ ?_ ?_
 · rintro done h' n' ⟨ht,hn',_⟩
   have t0:Tch [] h n h' n':=Tch.tch ht base (fun x hx=>by simp at hx;omega);exact⟨by omega,by omega,c2.tch (Tch.tch ht (S:=[n+1+1]) zA (by simp)) (by omega) (nm1 (by omega)),sk.row.tch t0 (Nat.le_refl _) (by simp)⟩
 · rintro done x h' n' ⟨ht,hn',hm⟩ hL hpre
   have cM':Cel h' (n+1+1+1) zMp 0 [.map (some (n+1+1))]:=cM.tch (Tch.tch ht (S:=[n+1+1]) zA (by simp)) (by omega) (nm1 (by omega));obtain⟨ob',ms⟩:=msetK2 (P:=P) (ty:=259) hm (x:Nat);repeat' first|refine wk ?_|refine cX (fun _=>?_) fun _=>?_|refine ob (a:=hal _ (n+1+1) ob') ?_ (ms _ (by rw[zP,if_neg (by omega)])).1|fail
   have eS:(fun y:Int=>(done++[x]).any fun m=>decide (y=(m:Nat)))=fun y:Int=>(done.any fun m=>decide (y=(m:Nat))) || decide (y=(x:Nat)):=funext fun y=>by rw[List.any_append];simp
   exact⟨by omega,.inl ⟨rfl,vF,zA,by omega,by rw[eS];exact(ms h' rfl).2.of_eq (by rw[zP,if_neg (by omega),zP,if_pos rfl,zP,if_pos rfl])⟩⟩
 · rintro h' n' ⟨ht,hn',hm⟩
   have t0:Tch [] h n h' n':=Tch.tch ht base (fun x hx=>by simp at hx;omega);have cB':Cel h' n zPc 0 [ptr bc 0]:=cB.tch (Tch.tch ht (S:=[n+1+1]) zA (by simp)) (by omega) (by simp;omega);have cM':Cel h' (n+1+1+1) zMp 0 [.map (some (n+1+1))]:=cM.tch (Tch.tch ht (S:=[n+1+1]) zA (by simp)) (by omega) (nm1 (by omega));have cK':Cel h' bc zVk 0 (vkC f b k):=cK.tch (Tch.tch ht (S:=[n+1+1]) zA (by simp)) (by omega) (by simp;omega);have hD:zF h' n2 = .deferred true:=obe_tch ht (by omega) (by simp;omega) vF;have e0:(fun x:Int=>(bitN ws).any fun m=>decide (x=(m:Nat)))=knB ws l 0:=funext fun x=>by unfold knB;simp
   rw[e0]at hm;clear ht base cB cM cK c2 mp;repeat' first|refine wk ?_|refine cX (fun _=>?_) fun _=>?_|fail
   refine lpD (α :=Nat×List Nat) (fun a=>[(1,I64 b0),(4,ptr n 0),(8,ptr (n+1+1+1) 0),(21,lv),(22,I64 l.length),(23,I64 a.1)]) (fun a=>colD a.2)
    (fun a h' n'=>Tch [bc] h n h' n'∧n+6≤n'∧a.1≤l.length∧Cel h' n zPc 0 [ptr bc 0]∧Cel h' (n+1+1+1) zMp 0 [.map (some (n+1+1))]∧(∃b' k',Cel h' bc zVk 0 (vkC f b' k'))∧MpK h' (n+1+1) (.bool true) (knB ws l a.1)∧a.2.Nodup∧∀r∈a.2,n+6≤r∧r<n'∧zF h' r = .deferred true) (fun a=>l.length - a.1) (0,[n2]) rfl ⟨zA,by omega,Nat.zero_le _,zC,zC,⟨b,k,zC⟩,hm.tch (S:=[n2+1]) zA (by omega) (by simp;omega),by simp,fun r hr=>by
     simp at hr;subst hr;exact⟨by omega,by omega,by rw[zP,if_neg (by omega)];exact hD⟩⟩ ?_
   clear t0 cB' cM' cK' hD hm
   rintro ⟨q,rs⟩ t h' n' ⟨ht,hn',hq,cB,cM,⟨b',k',cK⟩,mp,hnd,hrs⟩
   dsimp only at hq mp hnd hrs ⊢;by_cases hlt:q<l.length
   · have d0:l[q]? = some l[q]:=List.getElem?_eq_getElem hlt;generalize l[q]=i at d0
     have hlo:lo≤n:=by omega
     have tl:Tch [] h lo h' n':=Tch.lw ht hlo (fun x hx=>by simp at hx;omega);have him:=List.mem_of_getElem? d0;have im:=(hi i him).tch tl (Nat.le_refl _);have ia:=im.ar 0;have a1:=ia.one;have r':=r.tch tl (Nat.le_refl _) (by simp);have ri:=row_el r' d0;have low:=r'.low (by omega);repeat' first|refine wk ?_|refine cX (fun _=>?_) fun _=>?_|fail
     refine vM (reads_ret a1) ?_
     rintro _ h3 n3 ⟨rfl,e3,c3,t3⟩
     have hn3:=t3.le;have hbn:bc<n':=by omega
     have cB3:Cel h3 n zPc 0 [ptr bc 0]:=Cel.tch zC t3 (by omega) (by simp);have cM3:Cel h3 (n+1+1+1) zMp 0 [.map (some (n+1+1))]:=Cel.tch zC t3 (by omega) (by simp);have cK3:Cel h3 bc zVk 0 (vkC f b0 (q:Nat)):=Cel.tch zM t3 (by omega) (by simp);have cI3:Cel h3 n' zIns 0 (xY i):=Cel.tch zM t3 (by omega) (by simp);have tA:Tch [bc] h' n' h3 n3:=zA;have t03:Tch [bc] h n h3 n3:=Tch.tch tA ht (fun x hx=>.inr hx);have mp3:=mp.tch tA (by omega) (nm1 (by omega))
     have rs3:∀r∈rs,n+6≤r∧r<n3∧zF h3 r = .deferred true:=fun r hr=>by
      obtain⟨g1,g2,g3⟩:=hrs r hr;exact⟨g1,by omega,by rw[tA.2 r g2 (nm1 (by omega))];exact g3⟩
     have im3:=(hi i him).tch (Tch.lw t03 hlo (fun x hx=>by simp at hx;omega)) (Nat.le_refl _);clear t3 tA cB cM cK mp ht hrs r' ri tl im;repeat' first|refine wk ?_|refine cX (fun _=>?_) fun _=>?_|fail
     refine wc_rg0 (g:=216) (fs:=[]) (cs:=[ptr (n'+1) 0]) (by(apply ev_box;((conv=>lhs;whnf) <;> exact rfl))) ?_;refine it_core (enc:=I64) (elems:=rdL i) (ps:=[38]) (fun done h' n'=>Tch [] (hal h3 n3 (.deferred true)) (n3+1) h' n'∧n3+2≤n') (fun j h' n'=>False) rfl (reads1_it (lo:=lo) (p:=n'+1)) ?_ obe_ask ⟨zA,by omega⟩ ?_ ?_ ?_
     · rintro done h4 n4 ⟨ht,hn4⟩
       have tB:Tch [] h3 n3 h4 n4:=Tch.tch ht (S:=[]) zA (by simp);exact⟨by omega,by omega,c3.tch tB (by omega) (by simp),im3.tch (Tch.lw tB (by omega) (by simp)) (Nat.le_refl _)⟩
     · rintro done x h4 n4 ⟨ht,hn4⟩ hL hpre
       have hx:=hrd q i d0 x (hpre.subset (by simp));have tB:Tch [] h3 n3 h4 n4:=Tch.tch ht (S:=[]) zA (by simp);have cB4:=cB3.tch tB (by omega) (by simp);have cM4:=cM3.tch tB (by omega) (by simp)
       have lk:∀hh,zF hh (n+1+1)=zF h4 (n+1+1)→yH P hh 259 (.map (some (n+1+1))) (I64 x) false=some (.bool true):=fun hh e=>by
        have m4:MpK hh (n+1+1) (.bool true) (knB ws l q):=by
         obtain⟨es,cl,g1,g2⟩:=mp3.tch tB (by omega) (by simp);exact⟨es,cl,by rw[e];exact g1,g2⟩
        have:=lkMK (P:=P) (ty:=259) m4 x false;rw [hx]at this;exact this
       repeat' first|refine wk ?_|refine cX (fun _=>?_) fun _=>?_|refine ob (a:=.bool true) ?_ (lk _ (by rw[zP,if_neg (by omega)]))|fail
       exact⟨by omega,.inl ⟨rfl,vF,zA,by omega⟩⟩
     · rintro h4 n4 ⟨ht,hn4⟩
       have tB:Tch [] h3 n3 h4 n4:=Tch.tch ht (S:=[]) zA (by simp);have hD:zF h4 n3 = .deferred true:=obe_tch ht (by omega) (by simp) vF;have cB4:=cB3.tch tB (by omega) (by simp);have cM4:=cM3.tch tB (by omega) (by simp);have cK4:=cK3.tch tB (by omega) (by simp);have cI4:=cI3.tch tB (by omega) (by simp);have mp4:=mp3.tch tB (by omega) (by simp);have t04:Tch [bc] h n h4 n4:=Tch.tch tB t03 (by simp)
       have rs4:∀r∈n3::rs,n+6≤r∧r<n4∧r≠n3+1∧zF h4 r = .deferred true:=fun r hr=>by
        rcases List.mem_cons.1 hr with rfl|hr
        · exact⟨by omega,by omega,by omega,hD⟩
        · obtain⟨g1,g2,g3⟩:=rs3 r hr;exact⟨g1,by omega,by omega,by rw[tB.2 r g2 (by simp)];exact g3⟩
       have nd4:(n3::rs).Nodup:=List.nodup_cons.2 ⟨fun hx=>by have:=(rs3 n3 hx).2.1;omega,hnd⟩;clear ht tB t03 cB3 cM3 cK3 cI3 c3 mp3 hD
       cases hw:wrB i with
       | true =>
        obtain⟨ob',ms⟩:=msetK2 (P:=P) (ty:=259) mp4 (wrD i);have eS:(fun y:Int=>knB ws l q y || decide (y=wrD i))=knB ws l (q+1):=funext fun y=>by rw[knB_at d0,hw];rfl
        have wp:∀{h n},Pur P 0 158 [.agg ⟨xY i⟩] h n (.tuple ⟨[I64 (wrD i),.bool true]⟩):=fun {h n}=>by have:=wY (h:=h) (n:=n) a1;rwa [hw]at this
        repeat' first|refine wk ?_|refine cX (fun _=>?_) fun _=>?_|refine yG wp ?_|refine ob (a:=hal _ (n+1+1) ob') ?_ (ms _ (by rw[zP,if_neg (by omega)])).1|fail
        exact⟨(q+1,n3::rs),(by show l.length - (q+1)<l.length - q;omega),(by repeat' first|exact trivial|refine⟨rfl,?_⟩),rfl,zA,by omega,by show q+1≤l.length;omega,zC,zC,⟨b0,(q:Nat),zC⟩,by rw[← eS];exact(ms h4 rfl).2.of_eq (by rw[zP,if_pos rfl,zP,if_pos rfl]),nd4,fun r hr=>by
         obtain⟨g1,g2,g3,g4⟩:=rs4 r hr;exact⟨g1,g2,by rw[zP,if_neg (by omega),zP,if_neg (by omega)];exact g4⟩⟩
       | false =>
        have eS:knB ws l q=knB ws l (q+1):=funext fun y=>by rw[knB_at d0,hw];simp
        have wp:∀{h n},Pur P 0 158 [.agg ⟨xY i⟩] h n (.tuple ⟨[I64 (wrD i),.bool false]⟩):=fun {h n}=>by have:=wY (h:=h) (n:=n) a1;rwa [hw]at this
        repeat' first|refine wk ?_|refine cX (fun _=>?_) fun _=>?_|refine yG wp ?_|fail
        exact⟨(q+1,n3::rs),(by show l.length - (q+1)<l.length - q;omega),(by repeat' first|exact trivial|refine⟨rfl,?_⟩),rfl,zA,by omega,by show q+1≤l.length;omega,zC,zC,⟨b0,(q:Nat),zC⟩,by show MpK _ _ _ (knB ws l (q+1));rw [← eS];exact mp4.of_eq (by rw[zP,if_neg (by omega)]),nd4,fun r hr=>by
         obtain⟨g1,g2,g3,g4⟩:=rs4 r hr;exact⟨g1,g2,by rw[zP,if_neg (by omega)];exact g4⟩⟩
     · rintro j h' n' hf
       exact hf.elim
   · obtain rfl:q=l.length:=by omega
     repeat' first|refine wk ?_|refine cX (fun _=>?_) fun _=>?_|fail
     refine ret_col hnd (fun r hr=>(hrs r hr).2.2) fun h4 e4=>?_;have t4:Tch [bc] h n h4 n':=⟨ht.1,fun b hb hS=>(e4 b fun hx=>by have:=(hrs b hx).1;omega).trans (ht.2 b hb hS)⟩;have t5:Tch rs h' n' h4 n':=⟨Nat.le_refl _,fun b _ hS=>e4 b hS⟩;have c4:=cK.tch t5 (by omega) fun hx=>by have:=(hrs bc hx).1;omega
     clear t5 ht;repeat' first|refine wk ?_|refine cX (fun _=>?_) fun _=>?_|fail
     exact⟨rfl,t4,b',k',c4⟩
 · rintro j h' n' hf
   exact hf.elim
end Go.Proofs.YtcmohelnoldfbaaGreat
namespace Go.Proofs.YtcmohelnoldfbaaGreat
open Go Go.Ex Go.Ex.M
set_option maxRecDepth 100000
set_option maxHeartbeats 8000000
attribute [local simp] yI
variable {n lo:Nat} {h:zB}
instance mkSet:MkC P 89 (.slice none 0 0):=⟨by kernel_rfl⟩
instance mkBool:MkC P 124 (.bool false):=⟨by kernel_rfl⟩
theorem rsN{P:Program}{l:List (Nat×Value)}{t:Fr}{h:zB}{i ty sz:Nat}[s:ShC P ty (.agg sz)]{r:List ResultVar}{p:Value}{vs ws:List Value}(e:lk l t i=p)(g:LdN h p sz ws)(f:Rs P l t h r vs):Rs P l t h (.cell i ty::r) (.agg ⟨ws⟩::vs):=by
 obtain⟨b,o,rfl,h0,g⟩:=g;exact⟨_,vs,rfl,by rw[e];exact load_agg s.ok g.row.1 h0 g.row.2,f⟩
theorem cel_row{n b e sz len:Nat}{h:zB}{vs:List Value}(c:Cel h b 0 0 vs)(hb:b<n)(hl:vs.length=len*sz)(hlt:len<inf):Row n h (.slice (some ⟨b,0,none⟩) len len) e sz len vs:=.inr ⟨b,0,len,vs.length,0,0,hb,rfl,hl,c.1,by omega,fun j v e=>by rw[Nat.zero_add];exact(c.2 j).trans e,.inl ⟨hlt,Nat.le_refl _⟩⟩
theorem cel_row0{n b len:Nat}{h:zB}{vs:List Value}(c:Cel h b 0 0 vs)(hb:b<n)(hlt:len<inf):Row n h (.slice (some ⟨b,0,none⟩) len len) 0 0 len []:=.inr ⟨b,0,len,vs.length,0,0,hb,rfl,rfl,c.1,Nat.zero_le _,(fun j v e=>by cases e),.inl ⟨hlt,Nat.le_refl _⟩⟩
theorem hasW_nil(k:Nat):yE [] k=false:=by unfold yE;simp
theorem compact_nil:Pur P 0 159 [.slice none 0 0] h n (.slice none 0 0):=by
 refine ent fun u=>?_;repeat' first|refine wk ?_|refine cX (fun _=>?_) fun _=>?_|fail
 exact fin rfl
theorem indexF_nil(g:Value):Pur P 0 78 [.slice none 0 0,g] h n (I64 (-1)):=by
 refine ent fun u=>?_;repeat' first|refine wk ?_|refine cX (fun _=>?_) fun _=>?_|fail
 refine zV ?_;repeat' first|refine wk ?_|refine cX (fun _=>?_) fun _=>?_|fail
 exact fin rfl
theorem deleteF_nil(g:Value):Pur P 0 160 [.slice none 0 0,g] h n (.slice none 0 0):=by
 refine ent fun u=>?_;repeat' first|refine wk ?_|refine cX (fun _=>?_) fun _=>?_|refine yG (indexF_nil g) ?_|fail
 exact fin rfl
theorem succs_ret{f:FunT}{lv:Value}{l:List InsT}(fm:FunM lo h f)(hfb:f.blocks=[(lv,l)]){i:InsT}(hi:l[l.length - 1]? = some i)(hk:i.kind=9)(hll:l.length≤1000)(hlo:lo≤n):Ret P 0 105 [f.bv,I64 0] h n fun v h' n'=>v = .slice none 0 0∧Tch [] h n h' n':=by
 have hm:(lv,l)∈f.blocks:=by rw[hfb];exact List.mem_singleton.2 rfl
 obtain⟨eb,rb⟩:=fm.bl.ex;rw [hfb]at rb;have rb:Row lo h f.bv eb 1 1 [lv]:=rb;have rl:=fm.el _ hm 0;dsimp only at rl
 have hpos:0<l.length:=by
  rcases l with _|⟨x,r⟩
  · cases hi
  · exact Nat.succ_pos _
 have b1:=rb.one;have l1:=rl.one;have im:=fm.ins _ hm i (List.mem_of_getElem? hi);have ia:=im.ar 0;have a1:=ia.one;have q1:zJ h (sbk f.bv) (sof f.bv+0*1)=some lv:=rb.at (i:=0) rfl;have ri:=row_el rl hi;have low2:=rb.low (by omega);have low3:=rl.low (by omega);have el:((l.length:Nat):Int) - 1=((l.length - 1:Nat):Int):=by omega
 have bnl:∀ty ox oy,Bn P .sub ty ox oy (I64 (l.length:Nat)) (I64 1) (I64 ((l.length - 1:Nat):Int)):=fun ty ox oy=>by rw[← el];exact bn_sub (by omega)
 have t1:Tch [] h n (hal h n (mkC [f.bv] (51+1) 0)) (n+1):=zA;have ri:=row_el (rl.tch (Tch.lw t1 hlo (by simp)) (Nat.le_refl _) (by simp)) hi;refine ent fun u=>?_;repeat' first|refine ob (a:=I64 ((l.length - 1:Nat):Int)) ?_ (bnl _ _ _)|refine yG compact_nil ?_|refine yG (deleteF_nil _) ?_|refine wk ?_|refine cX (fun _=>?_) fun _=>?_|fail
 exact⟨_,rfl,rfl,zA⟩
theorem of1_ret{f:FunT}{lv:Value}{l:List InsT}(fm:FunM lo h f)(hfb:f.blocks=[(lv,l)]){i0:InsT}(hi0:l[l.length - 1]? = some i0)(hk0:i0.kind=9)(hll:l.length≤1000)(hsm:∀i∈l,InsS i)(hlo:lo≤n):Ret P 0 46 [.agg ⟨funC f⟩] h n fun v h' n'=>∃iv ov wo ws,v = .agg ⟨[iv,ov]⟩∧iv.oneCell'=true∧Row n' h' ov eSetE 1 1 [wo]∧(∀k,yE ws k=false)∧SetK n n' h' wo ws∧Tch [] h n h' n':=by
 have hm:(lv,l)∈f.blocks:=by rw[hfb];exact List.mem_singleton.2 rfl
 obtain⟨eb,rb⟩:=fm.bl.ex;rw [hfb]at rb;have rb:Row lo h f.bv eb 1 1 [lv]:=rb;have rl:=fm.el _ hm 0;dsimp only at rl;have v1:=(fm.vr 0).one;have v2:=(fm.pr 0).one;have b1:=rb.one;have l1:=rl.one;have q1:zJ h (sbk f.bv) (sof f.bv+0*1)=some lv:=rb.at (i:=0) rfl;have low2:=rb.low (by omega)
 have hpos:0<l.length:=by
  rcases l with _|⟨x,r⟩
  · cases hi0
  · exact Nat.succ_pos _
 refine ent fun u=>?_;repeat' first|refine wk ?_|refine cX (fun _=>?_) fun _=>?_|refine ob (a:=(1,[.slice none 0 0])) ?_ (mks_of (m:=1) (by decide))|fail
 refine zV ?_;repeat' first|refine ob (a:=I64 (kI l.length)) ?_ (bn_kI (by omega) _ _ _)|refine wk ?_|refine cX (fun _=>?_) fun _=>?_|fail
 dsimp only;have hsl:∀b:Nat,(Value.slice (some ⟨b,0,none⟩) 1 1).oneCell'=true:=fun _=>rfl
 refine lpR (α :=Nat×Value×List Int×Value×List Nat) (fun a=>[(1,ptr n 0),(2,ptr (n+1) 0),(3,I64 (1:Nat)),(4,ptr (n+1+1+1+1) 0),(5,.slice (some ⟨n+1+1+1+1+1,0,none⟩) 1 1),(6,.slice (some ⟨n+1+1+1+1+1+1,0,none⟩) 1 1),(7,I64 (0:Nat)),(8,lv),(9,a.2.1),(10,I64 (kI a.1)),(30,f.bv),(31,I64 (1:Nat)),(32,I64 0)])
  (fun a h' n'=>Tch [] h n h' n'∧n+7≤n'∧a.1≤l.length∧Cel h' n zFun 0 (funC f)∧Cel h' (n+1) zSets 0 [.slice none 0 0,.slice none 0 0]∧Cel h' (n+1+1) 0 0 [.slice none 0 0]∧Cel h' (n+1+1+1) 0 0 [.slice none 0 0]∧Cel h' (n+1+1+1+1) zSets 0 [.slice (some ⟨n+1+1,0,none⟩) 1 1,.slice (some ⟨n+1+1+1,0,none⟩) 1 1]∧Cel h' (n+1+1+1+1+1) 0 0 [.slice none 0 0]∧Cel h' (n+1+1+1+1+1+1) 0 0 [a.2.2.2.1]∧Own (n+7) n' h' a.2.1 tI 1 a.2.2.1.length (a.2.2.1.map I64)∧a.2.2.1.length+a.1=l.length∧(∀q,yE a.2.2.2.2 q=bkL (fun _=>false) (l.drop a.1) q)∧SetK (n+7) n' h' a.2.2.2.1 a.2.2.2.2) (fun a=>a.1) (l.length,.slice none 0 0,[],.slice none 0 0,[]) ⟨zA,by omega,Nat.le_refl _,zM,zM,zM,zM,zM,zM,zM,Own.nil,by simp,fun q=>by rw[List.drop_length];exact hasW_nil q,wM⟩ ?_
 rintro ⟨k,dv,ds,gv,gs⟩ t h' n' ⟨ht,hn',hk,c0,c1,c2,c3,c4,c5,c6,ho,hdl,he,sk⟩
 dsimp only at hk c6 ho hdl he sk ⊢;have tl:Tch [] h lo h' n':=Tch.lw ht hlo (by simp);have fm':=fm.tch tl (Nat.le_refl _);have g1:=sk.k.one;have gr:=sk.row;have o1:=ho.one;have orr:=ho.row (by decide)
 cases k with
 | zero =>
  dsimp only[kI];repeat' first|refine wk ?_|refine cX (fun _=>?_) fun _=>?_|fail
  refine vM (of_ret orr (Nat.le_refl _) (by unfold inf;omega)) ?_
  rintro _ h2 n2 ⟨kv,ks,rfl,kq1,kq2,kq3,t2⟩
  have hn2:=t2.le;have o2:=kq3.one;have kr:=kq3.row (by decide);have c0:=c0.tch t2 (by omega) (by simp);have c1:=c1.tch t2 (by omega) (by simp);have c2:=c2.tch t2 (by omega) (by simp);have c3:=c3.tch t2 (by omega) (by simp);have c4:=c4.tch t2 (by omega) (by simp);have c5:=c5.tch t2 (by omega) (by simp);have c6:=c6.tch t2 (by omega) (by simp);have t02:Tch [] h n h2 n2:=Tch.tch t2 ht (by simp);have sk2:=sk.tch0 t2;clear t2 ht tl;repeat' first|refine wk ?_|refine cX (fun _=>?_) fun _=>?_|fail
  refine zV ?_;repeat' first|refine wk ?_|refine cX (fun _=>?_) fun _=>?_|fail
  have hs0:(Value.slice none 0 0).oneCell'=true:=rfl;have b10:∀ty ox oy,Bn P .sub ty ox oy (I64 ((1:Nat):Int)) (I64 1) (I64 ((0:Nat):Int)):=fun _ _ _=>bn_sub (by decide);have gsn:∀b,b<n+7→∀b',yL gv=some b'→b'∉[b]:=fun b hb b' hb' hx=>by simp at hx;have:=(sk2.k.blk hb').1;omega
  refine lpR (α :=Nat×Value×List Nat×Value×List Nat) (fun a=>[(1,ptr n 0),(2,ptr (n+1) 0),(3,I64 (1:Nat)),(4,ptr (n+1+1+1+1) 0),(5,.slice (some ⟨n+1+1+1+1+1,0,none⟩) 1 1),(6,.slice (some ⟨n+1+1+1+1+1+1,0,none⟩) 1 1),(11,.bool (decide (a.1<2)))])
   (fun a h' n'=>Tch [] h n h' n'∧n+7≤n'∧a.1≤2∧Cel h' n zFun 0 (funC f)∧Cel h' (n+1) zSets 0 [.slice none 0 0,.slice none 0 0]∧Cel h' (n+1+1) 0 0 [a.2.1]∧Cel h' (n+1+1+1) 0 0 [a.2.2.2.1]∧Cel h' (n+1+1+1+1) zSets 0 [.slice (some ⟨n+1+1,0,none⟩) 1 1,.slice (some ⟨n+1+1+1,0,none⟩) 1 1]∧Cel h' (n+1+1+1+1+1) 0 0 [kv]∧Cel h' (n+1+1+1+1+1+1) 0 0 [gv]∧SetK (n+7) n' h' gv gs∧SetK (n+7) n' h' kv ks∧SetK (n+7) n' h' a.2.1 a.2.2.1∧SetK (n+7) n' h' a.2.2.2.1 a.2.2.2.2∧(∀k,yE a.2.2.2.2 k=false)∧(a.1=1→∀k,yE a.2.2.1 k=yE gs k)) (fun a=>2 - a.1) (0,.slice none 0 0,[],.slice none 0 0,[]) ⟨zA,by omega,by omega,zC,zC,zC,zC,zC,zM,zC,sk2.tch (S:=[n+1+1+1+1+1]) zA (fun b hb=>by simp at hb;omega),((SetK.mk kq1 kq3).tch (S:=[n+1+1+1+1+1]) zA (fun b hb=>by simp at hb;omega)).dnl (by omega),wM,wM,hasW_nil,fun h9=>by omega⟩ ?_
  clear c0 c1 c2 c3 c4 c5 c6 sk2 t02 kr gr he sk ho orr fm'
  rintro ⟨p,iv,wi,ov,wo⟩ t h' n' ⟨ht,hn',hp,c0,c1,c2,c3,c4,c5,c6,sg,sk,si,so,hz,hp1⟩
  dsimp only at hp c2 c3 si so hz hp1 ⊢;have i1:=si.k.one;have ir:=si.row;have v1:=so.k.one;have vr:=so.row;by_cases hlt:p<2
  · rw[decide_eq_true hlt];repeat' first|refine ob (a:=I64 ((0:Nat):Int)) ?_ (b10 _ _ _)|refine wk ?_|refine cX (fun _=>?_) fun _=>?_|fail
    refine zV ?_;repeat' first|refine wk ?_|refine cX (fun _=>?_) fun _=>?_|fail
    have fm1:=fm.tch (Tch.lw ht hlo (by simp)) (Nat.le_refl _);refine vM (succs_ret (fm.tch (Tch.lw (n:=n) (S:=[]) zA hlo (by simp)) (Nat.le_refl _)) hfb hi0 hk0 hll (by omega)) ?_
    rintro _ h3 n3 ⟨rfl,t3⟩
    have hn3:=t3.le;have c0:Cel h3 n zFun 0 (funC f):=Cel.tch zC t3 (by omega) (by simp);have c1:Cel h3 (n+1) zSets 0 [.slice none 0 0,.slice none 0 0]:=Cel.tch zC t3 (by omega) (by simp);have c2:Cel h3 (n+1+1) 0 0 [iv]:=Cel.tch zC t3 (by omega) (by simp);have c3:Cel h3 (n+1+1+1) 0 0 [ov]:=Cel.tch zC t3 (by omega) (by simp);have c4:Cel h3 (n+1+1+1+1) zSets 0 [.slice (some ⟨n+1+1,0,none⟩) 1 1,.slice (some ⟨n+1+1+1,0,none⟩) 1 1]:=Cel.tch zC t3 (by omega) (by simp);have c5:Cel h3 (n+1+1+1+1+1) 0 0 [kv]:=Cel.tch zC t3 (by omega) (by simp);have c6:Cel h3 (n+1+1+1+1+1+1) 0 0 [gv]:=Cel.tch zC t3 (by omega) (by simp);have cA:Cel h3 n' (tSet+1) 0 [.slice none 0 0]:=Cel.tch zC t3 (by omega) (by simp);have tT:Tch [] h' n' h3 n3:=zA;have t03:Tch [] h n h3 n3:=Tch.tch tT ht (by simp);have sg:=sg.tch0 tT;have sk:=sk.tch0 tT;have si:=si.tch0 tT;have so:=so.tch0 tT;have gr:=sg.row;have kr:=sk.row;have g1:=sg.k.one;have k1:=sk.k.one;clear t3 tT ht;repeat' first|refine wk ?_|refine cX (fun _=>?_) fun _=>?_|fail
    refine zV ?_;repeat' first|refine wk ?_|refine cX (fun _=>?_) fun _=>?_|fail
    refine vM (sub_ret (wM (lo:=0)).row sk.row (Nat.le_refl _) (wM (lo:=0) (m:=0) (h:=h)).s sk.s) ?_
    rintro _ h4 n4 ⟨v4,s4,rfl,u1,u2,u3,t4⟩
    have hn4:=t4.le;have e4:∀k,yE s4 k=false:=fun k=>by rw[u2,hasW_nil];rfl
    have c0:Cel h4 n zFun 0 (funC f):=Cel.tch zC t4 (by omega) (by simp);have c1:Cel h4 (n+1) zSets 0 [.slice none 0 0,.slice none 0 0]:=Cel.tch zC t4 (by omega) (by simp);have c2:Cel h4 (n+1+1) 0 0 [iv]:=Cel.tch zC t4 (by omega) (by simp);have c3:Cel h4 (n+1+1+1) 0 0 [ov]:=Cel.tch zC t4 (by omega) (by simp);have c4:Cel h4 (n+1+1+1+1) zSets 0 [.slice (some ⟨n+1+1,0,none⟩) 1 1,.slice (some ⟨n+1+1+1,0,none⟩) 1 1]:=Cel.tch zC t4 (by omega) (by simp);have c5:Cel h4 (n+1+1+1+1+1) 0 0 [kv]:=Cel.tch zC t4 (by omega) (by simp);have c6:Cel h4 (n+1+1+1+1+1+1) 0 0 [gv]:=Cel.tch zC t4 (by omega) (by simp);have cA:=cA.tch t4 (by omega) (by simp);have t04:Tch [] h n h4 n4:=Tch.tch t4 t03 (by simp);have sg:=sg.tch0 t4;have sk:=sk.tch0 t4;have si:=si.tch0 t4;have so:=so.tch0 t4;have gr:=sg.row;have r4:=u3.row (by decide);have o4:=u3.one;clear t4 t03;repeat' first|refine wk ?_|refine cX (fun _=>?_) fun _=>?_|fail
    refine vM (or_ret sg.row (u3.row (by decide)) (Nat.le_refl _) sg.s u1) ?_
    rintro _ h5 n5 ⟨v5,s5,rfl,y1,y2,y3,t5⟩
    have hn5:=t5.le;have e5:∀k,yE s5 k=yE gs k:=fun k=>by rw[y2,e4,Bool.or_false]
    have c0:Cel h5 n zFun 0 (funC f):=Cel.tch zC t5 (by omega) (by simp);have c1:Cel h5 (n+1) zSets 0 [.slice none 0 0,.slice none 0 0]:=Cel.tch zC t5 (by omega) (by simp);have c2:Cel h5 (n+1+1) 0 0 [iv]:=Cel.tch zC t5 (by omega) (by simp);have c3:Cel h5 (n+1+1+1) 0 0 [ov]:=Cel.tch zC t5 (by omega) (by simp);have c4:Cel h5 (n+1+1+1+1) zSets 0 [.slice (some ⟨n+1+1,0,none⟩) 1 1,.slice (some ⟨n+1+1+1,0,none⟩) 1 1]:=Cel.tch zC t5 (by omega) (by simp);have c5:Cel h5 (n+1+1+1+1+1) 0 0 [kv]:=Cel.tch zC t5 (by omega) (by simp);have c6:Cel h5 (n+1+1+1+1+1+1) 0 0 [gv]:=Cel.tch zC t5 (by omega) (by simp);have cA:=cA.tch t5 (by omega) (by simp);have t05:Tch [] h n h5 n5:=Tch.tch t5 t04 (by simp);have sg:=sg.tch0 t5;have sk:=sk.tch0 t5;have si:=si.tch0 t5;have so:=so.tch0 t5;have r5:=y3.row (by decide);have o5:=y3.one;have ir:=si.row;have vr:=so.row;have rwI:Row n5 h5 (.slice (some ⟨n+1+1,0,none⟩) 1 1) 0 0 1 []:=cel_row0 c2 (by omega) (by decide)
    have rwO:Row n5 h5 (.slice (some ⟨n+1+1+1,0,none⟩) 1 1) 0 0 1 []:=cel_row0 c3 (by omega) (by decide);clear t5 t04;have s5k:SetK (n+7) n5 h5 v5 s5:=⟨y1,y3.dnl (by omega)⟩;have hwo:wo=[]:=setW_ext so.s (wM (lo:=0) (m:=0) (h:=h)).s fun k=>by rw[hz,hasW_nil]
    subst hwo;have p1:∀{h' n'},Tch [] h5 n5 h' n'→Pur P 0 106 [.agg ⟨[v5]⟩,.agg ⟨[iv]⟩] h' n' (.bool (decide (s5=wi))):=fun t=>equal_pur (s5k.tch0 t).row (si.tch0 t).row (Nat.le_refl _) (Nat.le_refl _) s5k.s.le si.s.le;have p2:∀{h' n'},Tch [] h5 n5 h' n'→Pur P 0 106 [.agg ⟨[.slice none 0 0]⟩,.agg ⟨[ov]⟩] h' n' (.bool true):=fun t=>equal_pur (wM (lo:=0)).row (so.tch0 t).row (Nat.le_refl _) (Nat.le_refl _) (Nat.zero_le _) so.s.le
    cases hd:decide (s5=wi) with
    | true =>
     as_aux_lemma=>
      rw[hd]at p1;repeat' first|refine wk ?_|refine cX (fun _=>?_) fun _=>?_|refine yG (p1 zA) ?_|refine yG (p2 zA) ?_|fail
      refine zV ?_;repeat' first|refine wk ?_|refine cX (fun _=>?_) fun _=>?_|fail
      exact rnd (2,v5,s5,.slice none 0 0,[]) ⟨zA,by omega,by omega,zC,zC,zM,zM,zC,zC,zC,sg.tch (S:=[n+1+1,n+1+1+1]) zA (fun b hb=>by simp at hb;omega),sk.tch (S:=[n+1+1,n+1+1+1]) zA (fun b hb=>by simp at hb;omega),s5k.tch (S:=[n+1+1,n+1+1+1]) zA (fun b hb=>by simp at hb;omega),wM,hz,fun _=>e5⟩
    | false =>
     as_aux_lemma=>
      rw[hd]at p1
      obtain rfl:p=0:=by
       have:p=0∨p=1:=by omega
       rcases this with h9|h9
       · exact h9
       · exact absurd (setW_ext y1 si.s fun k=>by rw[e5,hp1 h9]) (of_decide_eq_false hd)
      repeat' first|refine wk ?_|refine cX (fun _=>?_) fun _=>?_|refine yG (p1 zA) ?_|refine yG (p2 zA) ?_|fail
      refine zV ?_;repeat' first|refine wk ?_|refine cX (fun _=>?_) fun _=>?_|fail
      exact rnd (1,v5,s5,.slice none 0 0,[]) ⟨zA,by omega,by omega,zC,zC,zM,zM,zC,zC,zC,sg.tch (S:=[n+1+1,n+1+1+1]) zA (fun b hb=>by simp at hb;omega),sk.tch (S:=[n+1+1,n+1+1+1]) zA (fun b hb=>by simp at hb;omega),s5k.tch (S:=[n+1+1,n+1+1+1]) zA (fun b hb=>by simp at hb;omega),wM,hz,fun _=>e5⟩
  · as_aux_lemma=>
     obtain rfl:p=2:=by omega
     repeat' first|refine wk ?_|refine cX (fun _=>?_) fun _=>?_|fail
     refine ob (a:=[.agg ⟨[.slice (some ⟨n+1+1,0,none⟩) 1 1,.slice (some ⟨n+1+1+1,0,none⟩) 1 1]⟩]) ?_ (rsN (by(apply lk_box;((conv=>lhs;whnf) <;> exact rfl))) (ldN_of (by decide) (rd_cons xM (rd_cons xM rd_nil))) rs_nil);repeat' first|refine wk ?_|refine cX (fun _=>?_) fun _=>?_|fail
     refine⟨_,rfl,.slice (some ⟨n+1+1,0,none⟩) 1 1,.slice (some ⟨n+1+1+1,0,none⟩) 1 1,ov,wo,rfl,rfl,?_,hz,(so.tch (S:=[n+1]) zA fun b hb=>by simp at hb;omega).dnl (by omega),zA⟩;refine cel_row (vs:=[ov]) ?_ (by omega) rfl (by decide);exact zC
 | succ k =>
  as_aux_lemma=>
   have d0:l[k]? = some l[k]:=List.getElem?_eq_getElem (by omega);generalize l[k]=i at d0
   have him:=List.mem_of_getElem? d0;have im:=fm'.ins _ hm i him;have rl':=fm'.el _ hm 0;dsimp only at rl';have ri:=row_el rl' d0;have low3:=rl'.low (by omega);have ia:=im.ar 0;have a1:=ia.one;dsimp only[kI];repeat' first|refine wk ?_|refine cX (fun _=>?_) fun _=>?_|fail
   refine vM (back_ret sk im (by omega) (hsm i him).1 (hsm i him).2) ?_
   rintro _ h2 n2 ⟨w2,s2,rfl,e2,k2,t2⟩
   have hn2:=t2.le;have o2:=k2.k.one;have gr2:=k2.row;have c0':=c0.tch t2 (by omega) (by simp);have c1':=c1.tch t2 (by omega) (by simp);have c2':=c2.tch t2 (by omega) (by simp);have c3':=c3.tch t2 (by omega) (by simp);have c4':=c4.tch t2 (by omega) (by simp);have c5':=c5.tch t2 (by omega) (by simp);have c6':=c6.tch t2 (by omega) (by simp);have ho2:=ho.tch t2 (by simp);have t02:Tch [] h n h2 n2:=Tch.tch t2 ht (by simp);clear t2 c0 c1 c2 c3 c4 c5 c6;repeat' first|refine wk ?_|refine cX (fun _=>?_) fun _=>?_|fail
   refine ob (a:=xY i) ?_ (ldN_of (by decide) (row_el (rl.tch (Tch.lw (n:=n) (S:=[]) zA hlo (by simp)) (Nat.le_refl _) (by simp)) d0));repeat' first|refine wk ?_|refine cX (fun _=>?_) fun _=>?_|refine yG (defi_pur a1) ?_|fail
   refine appO (ho2.tch (S:=[n+1+1+1+1+1+1]) zA (own_off ho2 (by omega))) (xX (e:=tI) (sz:=1) (len:=1) rfl (by decide)) (by omega) ⟨rfl,trivial⟩ (by omega) ?_
   rintro v3 h3 n3 ho3 t3
   have hn3:=t3.le;have c0:Cel h3 n zFun 0 (funC f):=Cel.tch zC t3 (by omega) (xO (L:=n) ho2 (by omega));have c1:Cel h3 (n+1) zSets 0 [.slice none 0 0,.slice none 0 0]:=Cel.tch zC t3 (by omega) (xO ho2 (by omega));have c2:Cel h3 (n+1+1) 0 0 [.slice none 0 0]:=Cel.tch zC t3 (by omega) (xO ho2 (by omega));have c3:Cel h3 (n+1+1+1) 0 0 [.slice none 0 0]:=Cel.tch zC t3 (by omega) (xO ho2 (by omega));have c4:Cel h3 (n+1+1+1+1) zSets 0 [.slice (some ⟨n+1+1,0,none⟩) 1 1,.slice (some ⟨n+1+1+1,0,none⟩) 1 1]:=Cel.tch zC t3 (by omega) (xO ho2 (by omega));have c5:Cel h3 (n+1+1+1+1+1) 0 0 [.slice none 0 0]:=Cel.tch zC t3 (by omega) (xO ho2 (by omega));have c6:Cel h3 (n+1+1+1+1+1+1) 0 0 [w2]:=Cel.tch zM t3 (by omega) (xO ho2 (by omega));have t03:Tch [] h n h3 n3:=Tch.tch t3 zA fun x hx=>.inl (by have:=xN ho2 x hx;omega)
   have k3:SetK (n+7) n3 h3 w2 s2:=⟨k2.s,((k2.k.tch (S:=[n+1+1+1+1+1+1]) zA fun b hb hx=>by simp at hx;have:=(k2.k.blk hb).1;omega).tch t3 (kep_own k2.k ho2 (.inl (by decide))).no).dnl (by omega)⟩;clear t3;repeat' first|refine ob (a:=I64 (kI k)) ?_ (bn_kI (by omega) _ _ _)|refine wk ?_|refine cX (fun _=>?_) fun _=>?_|fail
   exact rnd (k,v3,ds++[defI i],w2,s2) ⟨t03,by omega,by omega,c0,c1,c2,c3,c4,c5,c6,by rw[List.length_append,List.map_append];exact ho3,by rw[List.length_append];simp;omega,fun q=>by rw[e2,bkL_at d0];unfold backP;rw [he],k3⟩
end Go.Proofs.YtcmohelnoldfbaaGreat
namespace Go.Proofs.YtcmohelnoldfbaaGreat
open Go Go.Ex Go.Ex.M
set_option maxRecDepth 100000
set_option maxHeartbeats 8000000
attribute [local simp] yI
variable {n bc lo:Nat} {h:zB} {f:FunT} {b k:Int}
theorem vwritten_com(c:Cel h bc zVk 0 (vkC f b k))(hb:bc<n)(hlb:lo≤bc)(fm:FunM lo h f){lv:Value}{l:List InsT}(hfb:f.blocks=[(lv,l)]){i0:InsT}(hi0:l[l.length - 1]? = some i0)(hk0:i0.kind=9)(hll:l.length≤1000)
(hrd:∀ws:List Nat,(∀k:Nat,yE ws k=true↔((k:Nat):Int)∈f.params∧k≤65535)→∀(q:Nat) i,l[q]? = some i→∀x∈rdL i,knB ws l q x=true) :
 Com P 0 156 [ptr bc 0] h n fun o h' n'=>o = .ret (.tuple #[])∧Tch [bc] h n h' n'∧∃b' k',Cel h' bc zVk 0 (vkC f b' k'):=by
 have hm:(lv,l)∈f.blocks:=by rw[hfb];exact List.mem_singleton.2 rfl
 obtain⟨eb,rb⟩:=fm.bl.ex;rw [hfb]at rb;have rb:Row lo h f.bv eb 1 1 [lv]:=rb;have rl:=fm.el _ hm 0;dsimp only at rl;have rp:=fm.pr 0;have b1:=rb.one;have l1:=rl.one;have im:=fun i hi=>fm.ins _ hm i hi;have ia0:=(im i0 (List.mem_of_getElem? hi0)).ar 0;have a01:=ia0.one;have hlo:lo≤n:=by omega
 have low2:=rb.low (by omega);have hs0:(Value.slice none 0 0).oneCell'=true:=rfl;have hs1:∀b:Nat,(Value.slice (some ⟨b,0,none⟩) 1 1).oneCell'=true:=fun _=>rfl;refine ent fun u=>?_;repeat' first|refine wk ?_|refine cX (fun _=>?_) fun _=>?_|refine ob (a:=(1,[.slice none 0 0])) ?_ (@mks_of P 89 _ mkSet 1 (by decide))|refine ob (a:=(1,[.bool false])) ?_ (@mks_of P 124 _ mkBool 1 (by decide))|fail
 refine vM (of_ret (rp.tch (Tch.lw (n:=n) (S:=[]) zA hlo (by simp)) (Nat.le_refl _) (by simp)) (by omega) fm.pr.lt) ?_
 rintro _ h2 n2 ⟨wv,ws,rfl,q1,q2,q3,t2⟩
 have hn2:=t2.le;have o2:=q3.one;have r2:=q3.row (by decide);have cI:Cel h2 n 0 0 [.slice none 0 0]:=Cel.tch zC t2 (by omega) (by simp);have cS:Cel h2 (n+1) 0 0 [.bool false]:=Cel.tch zC t2 (by omega) (by simp);have cK:Cel h2 bc zVk 0 (vkC f b k):=Cel.tch zC t2 (by omega) (by simp);have t02:Tch [] h n h2 n2:=zA;have sk2:SetK (n+2) n2 h2 wv ws:=⟨q1,q3.dnl (by omega)⟩;clear t2;dsimp only;repeat' first|refine wk ?_|refine cX (fun _=>?_) fun _=>?_|refine ob (a:=.pointer (some ⟨_,0+0*1,none⟩)) ?_ (iad_sl (j:=0) (by decide))|fail
 refine zV ?_;have q0:∀{h' n'},Tch [] h n h' n'→zJ h' (sbk f.bv) (sof f.bv+0*1)=some lv:=fun t=>(rb.tch (Tch.lw t hlo (by simp)) (Nat.le_refl _) (by simp)).at (i:=0) rfl;repeat' first|refine wk ?_|refine cX (fun _=>?_) fun _=>?_|refine ob (a:=.pointer (some ⟨_,0+0*1,none⟩)) ?_ (iad_sl (j:=0) (by decide))|fail
 have rlq:∀{S h' n'},Tch S h n h' n'→(∀b∈S,lo≤b)→Row lo h' lv _ 9 l.length (l.flatMap xY):=fun t hS=>rl.tch (Tch.lw t hlo hS) (Nat.le_refl _) (by simp);have imq:∀{S h' n'},Tch S h n h' n'→(∀b∈S,lo≤b)→∀i∈l,InsM lo h' i:=fun t hS i hi=>(im i hi).tch (Tch.lw t hlo hS) (Nat.le_refl _);have n0:∀b∈([]:List Nat),lo≤b:=by simp
 refine zV ?_;repeat' first|refine wk ?_|refine cX (fun _=>?_) fun _=>?_|refine ob (a:=.pointer (some ⟨_,0+0*1,none⟩)) ?_ (iad_sl (j:=0) (by decide))|refine ob (a:=lv) ?_ (ld1_of (q0 (n':=n2) zA))|fail
 refine vM (defs_ret (rlq (S:=[]) (n':=n2) zA n0) (imq (S:=[]) (n':=n2) zA n0) (by omega) hll) ?_
 rintro dv h3 n3 ⟨ds,o3,dl,t3⟩
 have hn3:=t3.le;have o31:=o3.one;have r3:=o3.row (by decide);have cI:Cel h3 n 0 0 [wv]:=Cel.tch zM t3 (by omega) (by simp);have cS:Cel h3 (n+1) 0 0 [.bool true]:=Cel.tch zM t3 (by omega) (by simp);have cK:Cel h3 bc zVk 0 (vkC f b k):=Cel.tch zC t3 (by omega) (by simp);have tB:Tch [n,n+1] h2 n2 h3 n3:=zA;have t03:Tch [] h n h3 n3:=Tch.tch t3 zA (by simp);have sk3:SetK (n+2) n3 h3 wv ws:=sk2.tch tB (by simp);clear t3 t02 tB;repeat' first|refine wk ?_|refine cX (fun _=>?_) fun _=>?_|refine ob (a:=.pointer (some ⟨_,0+0*1,none⟩)) ?_ (iad_sl (j:=0) (by decide))|fail
 refine vM (of_ret r3 (Nat.le_refl _) (by unfold inf;omega)) ?_
 rintro _ h4 n4 ⟨v4,s4,rfl,y1,y2,y3,t4⟩
 have hn4:=t4.le;have o4:=y3.one;have r4:=y3.row (by decide);have cI:=cI.tch t4 (by omega) (by simp);have cS:=cS.tch t4 (by omega) (by simp);have cK:=cK.tch t4 (by omega) (by simp);have t04:Tch [] h n h4 n4:=Tch.tch t4 t03 (by simp);have sk4:=sk3.tch0 t4;clear t4 t03;repeat' first|refine wk ?_|refine cX (fun _=>?_) fun _=>?_|refine ob (a:=.pointer (some ⟨_,0+0*1,none⟩)) ?_ (iad_sl (j:=0) (by decide))|fail
 refine vM (or_ret sk4.row r4 (Nat.le_refl _) sk4.s y1) ?_
 rintro _ h5 n5 ⟨v5,s5,rfl,_,_,y5,t5⟩
 have hn5:=t5.le;have o5:=y5.one;have r5:=y5.row (by decide);have cI:=cI.tch t5 (by omega) (by simp);have cS:=cS.tch t5 (by omega) (by simp);have cK:=cK.tch t5 (by omega) (by simp);have t05:Tch [] h n h5 n5:=Tch.tch t5 t04 (by simp);have sk5:=sk4.tch0 t5;clear t5 t04;repeat' first|refine wk ?_|refine cX (fun _=>?_) fun _=>?_|refine ob (a:=.pointer (some ⟨_,0+0*1,none⟩)) ?_ (iad_sl (j:=0) (by decide))|fail
 refine vM (next_ret (rlq (S:=[]) (n':=n5+1) zA n0) (by omega) hll hi0 hk0 a01) ?_
 rintro _ h6 n6 ⟨rfl,t6⟩
 have hn6:=t6.le;have cI:Cel h6 n 0 0 [wv]:=Cel.tch zC t6 (by omega) (by simp);have cS:Cel h6 (n+1) 0 0 [.bool true]:=Cel.tch zC t6 (by omega) (by simp);have cK:Cel h6 bc zVk 0 (vkC f b k):=Cel.tch zC t6 (by omega) (by simp);have tB:Tch [] h5 n5 h6 n6:=zA;have t06:Tch [] h n h6 n6:=Tch.tch t6 zA (by simp);have sk6:=sk5.tch0 tB;clear t6 tB t05;repeat' first|refine wk ?_|refine cX (fun _=>?_) fun _=>?_|refine ob (a:=.pointer (some ⟨_,0+0*1,none⟩)) ?_ (iad_sl (j:=0) (by decide))|fail
 refine zV ?_;repeat' first|refine wk ?_|refine cX (fun _=>?_) fun _=>?_|refine ob (a:=.pointer (some ⟨_,0+0*1,none⟩)) ?_ (iad_sl (j:=0) (by decide))|fail
 refine zV ?_;repeat' first|refine wk ?_|refine cX (fun _=>?_) fun _=>?_|refine ob (a:=.pointer (some ⟨_,0+0*1,none⟩)) ?_ (iad_sl (j:=0) (by decide))|fail
 refine zV ?_;repeat' first|refine wk ?_|refine cX (fun _=>?_) fun _=>?_|fail
 refine zV ?_;repeat' first|refine wk ?_|refine cX (fun _=>?_) fun _=>?_|refine ob (a:=.pointer (some ⟨_,0+0*1,none⟩)) ?_ (iad_sl (j:=0) (by decide))|refine ob (a:=lv) ?_ (ld1_of (q0 (n':=n6) zA))|fail
 refine cal (vreads_com cK (by omega) hlb (rlq t06 n0) (imq t06 n0) hll (sk6.dnl (Nat.zero_le _)) (fun x hx=>by have:=(sk6.k.blk hx).1;omega) (hrd ws q2) 0) ?_
 rintro _ h7 n7 ⟨rfl,t7,b',k',cK7⟩
 have hn7:=t7.le;have t07:Tch [bc] h n h7 n7:=Tch.tch t7 ⟨t06.1,fun b hb _=>t06.2 b hb (by simp)⟩ (fun x hx=>.inr hx);clear t7 t06 cK;repeat' first|refine wk ?_|refine cX (fun _=>?_) fun _=>?_|fail
 refine zV ?_;repeat' first|refine wk ?_|refine cX (fun _=>?_) fun _=>?_|fail
 exact⟨rfl,zA,0,0,zM⟩
end Go.Proofs.YtcmohelnoldfbaaGreat
namespace Go.Proofs.YtcmohelnoldfbaaGreat
open Go Go.Ex Go.Ex.M
set_option maxRecDepth 100000
set_option maxHeartbeats 8000000
attribute [local simp] yI
variable {n bc lo:Nat} {h:zB} {f:FunT} {b k:Int}
theorem vblocks_com(k4:TabL h)(hn:625≤n)(hbc:625≤bc)(c:Cel h bc zVk 0 (vkC f b k))(hb:bc<n)(hlb:lo≤bc)(fm:FunM lo h f)(hl:f.vregs.length≤1000){lv:Value}{l:List InsT}(hfb:f.blocks=[(lv,l)])(h0:0<l.length)(hll:l.length≤400)(hr:f.result=[103])(hg:∀(q:Nat) i,l[q]? = some i→InsG f i (decide (((q:Nat):Int)=(l.length:Nat) - 1))) :
 Com P 0 155 [ptr bc 0] h n fun o h' n'=>o = .ret (.tuple #[])∧Tch [bc] h n h' n'∧∃b' k',Cel h' bc zVk 0 (vkC f b' k'):=by
 have hm:(lv,l)∈f.blocks:=by rw[hfb];exact List.mem_singleton.2 rfl
 obtain⟨eb,rb⟩:=fm.bl.ex;rw [hfb]at rb;have rb:Row lo h f.bv eb 1 1 [lv]:=rb;have rl:=fm.el _ hm 0;dsimp only at rl;have b1:=rb.one;have l1:=rl.one;have im:=fun i hi=>fm.ins _ hm i hi;have hlo:lo≤n:=by omega
 have low2:=rb.low (by omega);have q0:zJ h (sbk f.bv) (sof f.bv+0*1)=some lv:=rb.at (i:=0) rfl
 have kk:∀{h' n'},Tch [bc] h n h' n'→TabL h':=fun {h' n'} t=>by
  have t':Tch [] h 625 h' n':=Tch.lw t hn (fun x hx=>by simp at hx;omega);exact⟨k4.bt.tch t' (by decide) (by simp),k4.oB.tch t' (by decide) (by simp),k4.cB.tch t' (by decide) (by simp),k4.rB.tch t' (by decide) (by simp),k4.qB.tch t' (by decide) (by simp),k4.iB.tch t' (by decide) (by simp),k4.mB.tch t' (by decide) (by simp),k4.aB.tch t' (by decide) (by simp),k4.uB.tch t' (by decide) (by simp),k4.wB.tch t' (by decide) (by simp)⟩
 have ff:∀{h' n'},Tch [bc] h n h' n'→FunM lo h' f:=fun t=>fm.tch (Tch.lw t hlo (fun x hx=>by simp at hx;omega)) (Nat.le_refl _);refine ent fun u=>?_;repeat' first|refine wk ?_|refine cX (fun _=>?_) fun _=>?_|refine yG (xR (decide_eq_true (by omega))) ?_|fail
 refine zV ?_;repeat' first|refine wk ?_|refine cX (fun _=>?_) fun _=>?_|refine yG (xR (decide_eq_true (by omega))) ?_|fail
 refine lpR (fun q:Nat=>[(0,ptr bc 0),(3,lv),(19,f.bv),(20,I64 (1:Nat)),(21,I64 0),(43,lv),(44,I64 l.length),(45,I64 q)]) (fun q h' n'=>Tch [bc] h n h' n'∧q≤l.length∧∃b' k',Cel h' bc zVk 0 (vkC f b' k')) (fun q=>l.length - q) 0 ⟨zA,Nat.zero_le _,0,0,zM⟩ ?_;clear q0
 rintro q t h' n' ⟨ht,hq,b',k',cK⟩
 have hn':=ht.le;by_cases hlt:q<l.length
 · have d0:l[q]? = some l[q]:=List.getElem?_eq_getElem hlt;generalize l[q]=i at d0
   have tl:Tch [] h lo h' n':=Tch.lw ht hlo (fun x hx=>by simp at hx;omega);have him:=List.mem_of_getElem? d0;have im':=(im i him).tch tl (Nat.le_refl _);have ia:=im'.ar 0;have a1:=ia.one;have r':=rl.tch tl (Nat.le_refl _) (by simp);have ri:=row_el r' d0;have low:=r'.low (by omega);have gi:=hg q i d0;repeat' first|refine wk ?_|refine cX (fun _=>?_) fun _=>?_|fail
   refine yG (vins_pur (b:=b') (k:=(q:Nat)) (kk (n':=n'+1) zA) (by omega) zM (by omega) (ff (n':=n'+1) zA) hl (by omega) (im'.tch (n:=lo) (Tch.lw (n:=n') (n':=n'+1) (S:=[bc]) zA (by omega) (fun x hx=>by simp at hx;omega)) (Nat.le_refl _)) hr gi) ?_;repeat' first|refine wk ?_|refine cX (fun _=>?_) fun _=>?_|fail
   exact rnd (q+1) ⟨zA,by omega,b',(q:Nat),zM⟩
 · obtain rfl:q=l.length:=by omega
   repeat' first|refine wk ?_|refine cX (fun _=>?_) fun _=>?_|fail
   refine zV ?_;repeat' first|refine wk ?_|refine cX (fun _=>?_) fun _=>?_|fail
   exact⟨rfl,zA,0,0,zM⟩
instance mii:MiC P 246 (I64 0):=⟨⟨3,3,by kernel_rfl,by kernel_rfl,by kernel_rfl⟩⟩
theorem vhead_com(k4:TabL h)(hn:625≤n)(c:Cel h bc zVk 0 (vkC f b k))(hb:bc<n)(hlo:lo≤n)(fm:FunM lo h f)(hl:f.vregs.length≤500)(hbl:f.blocks.length=1)(hr:f.result=[103])(hnm:nameB f.name=true)(hv:∀(i:Nat) x,f.vregs[i]? = some x→x=[103])(hp:f.params=[0])(hv0:InV f 0) :
 Com P 0 154 [ptr bc 0] h n fun o h' n'=>o = .ret (.tuple #[])∧Tch [] h n h' n':=by
 have rv:=fm.vr 0;obtain⟨ep,rp⟩:=fm.pr.ex;rw [hp]at rp;have rp:Row lo h f.pv ep 1 1 [I64 0]:=rp;have rb:=fm.bl 0;have b1:=rb.one;have v1:=rv.one;have p1:=rp.one;have kk:∀{h' n'},Tch [] h n h' n'→TabL h':=fun t=>k4.tch hn t;have ff:∀{h' n'},Tch [] h n h' n'→FunM lo h' f:=fun t=>fm.tch (Tch.lw t hlo (by simp)) (Nat.le_refl _);have cc:∀{h' n'},Tch [] h n h' n'→Cel h' bc zVk 0 (vkC f b k):=fun t=>c.tch t hb (by simp);refine ent fun u=>?_;repeat' first|refine wk ?_|refine cX (fun _=>?_) fun _=>?_|refine yG (xR (decide_eq_true (by omega))) ?_|refine yG (xR hnm) ?_|fail
 refine lpR (fun q:Nat=>[(0,ptr bc 0),(42,f.vv),(43,I64 f.vregs.length),(44,I64 q)]) (fun q h' n'=>h'=h∧n'=n∧q≤f.vregs.length) (fun q=>f.vregs.length - q) 0 ⟨rfl,rfl,Nat.zero_le _⟩ ?_
 rintro q t h' n' ⟨e1,e2,hq⟩
 subst e1 e2;by_cases hlt:q<f.vregs.length
 · have d0:f.vregs[q]? = some f.vregs[q]:=List.getElem?_eq_getElem hlt;generalize f.vregs[q]=x at d0
   obtain rfl:=hv q x d0;have c1:=row_e1 rv d0;have low:=rv.low (by omega);repeat' first|refine wk ?_|refine cX (fun _=>?_) fun _=>?_|refine yG (cls4 k4) ?_|refine yG (xR rfl) ?_|fail
   exact rnd (q+1) ⟨rfl,rfl,by omega⟩
 · obtain rfl:q=f.vregs.length:=by omega
   repeat' first|refine wk ?_|refine cX (fun _=>?_) fun _=>?_|fail
   refine vM (args4 k4 hn) ?_
   rintro w h2 n2 ⟨ho,t2⟩
   have hn2:=t2.le;have wr:=ho.row (by decide);have w1:=wr.one;have k2:=kk t2;have f2:=ff t2;have c2:=cc t2;repeat' first|refine wk ?_|refine cX (fun _=>?_) fun _=>?_|refine yG (xR (decide_eq_true (by omega))) ?_|fail
   have mp:MpK (hal h2 n2 (.map [] 0)) n2 (I64 1) fun _=>false:=mpk_new;have lk:yH P (hal h2 n2 (.map [] 0)) 246 (.map (some n2)) (I64 0) false=some (I64 0):=lkMK (P:=P) (ty:=246) mp 0 false;obtain⟨o',ms⟩:=msetK2 (P:=P) (ty:=246) mp 0;have ms1:=(ms _ rfl).1;have tM:Tch [] h' n' (hal h2 n2 (.map [] 0)) (n2+1):=zA;have kM:=kk tM;have fM:=ff tM;have cM:=cc tM;have rpM:=rp.tch (Tch.lw tM hlo (by simp)) (Nat.le_refl _) (by simp);have wrM:=wr.tch (S:=[]) (h':=hal h2 n2 (.map [] 0)) (n':=n2+1) zA (Nat.le_refl _) (by simp);have q0:zJ (hal h2 n2 (.map [] 0)) (sbk f.pv) (sof f.pv+0*1)=some (I64 0):=rpM.at (i:=0) rfl;have w0:zJ (hal h2 n2 (.map [] 0)) (sbk w) (sof w+0*1)=some (I64 (0:Nat)):=wrM.at (i:=0) rfl;have lowp:=rpM.low (by omega);have loww:=wrM.low (by omega);refine zV ?_;repeat' first|refine wk ?_|refine cX (fun _=>?_) fun _=>?_|refine yG (vvreg_pur cM fM hv0) ?_|refine yG (wZ kM cM fM (by omega) hv0) ?_|refine yG (in4 kM (by omega)) ?_|refine yG (xR rfl) ?_|fail
   refine zV ?_;have hc:∀{hh:zB} {nn:Nat},TabL hh→Pur P 0 29 [ptr 362 0,str f.result] hh nn (.tuple ⟨[I64 (0:Nat),.bool true]⟩):=fun k=>by rw[hr];exact cls4 k
   repeat' first|refine wk ?_|refine cX (fun _=>?_) fun _=>?_|refine yG (hc (kk (n':=n2+1) zA)) ?_|refine yG (res4 (kk (n':=n2+1) zA)) ?_|refine yG (in4 (kk (n':=n2+1) zA) (by omega)) ?_|refine yG (xR rfl) ?_|fail
   exact⟨rfl,zA⟩
end Go.Proofs.YtcmohelnoldfbaaGreat
namespace Go.Proofs.YtcmohelnoldfbaaGreat
open Go Go.Ex Go.Ex.M
set_option maxRecDepth 100000
set_option maxHeartbeats 8000000
attribute [local simp] yI
variable {n lo:Nat} {h:zB} {f:FunT}
theorem check1_none{x y z:Value}:Def P 0 153 [x,y,z] none h n fun u' h' n'=>u'=none∧Tch [] h n h' n':=by
 refine entD ?_;repeat' first|refine wk ?_|refine cX (fun _=>?_) fun _=>?_|fail
 exact⟨_,rfl,rfl,zA⟩
structure FunG (lo:Nat) (h:zB) (f:FunT) (lv:Value) (l:List InsT):Prop where
 fm:FunM lo h f
 hl:f.vregs.length≤500
 hfb:f.blocks=[(lv,l)]
 h0:0<l.length
 hll:l.length≤400
 hr:f.result=[103]
 nm:nameB f.name=true
 hv:∀(i:Nat) x,f.vregs[i]? = some x→x=[103]
 hp:f.params=[0]
 hv0:InV f 0
 hg:∀(q:Nat) i,l[q]? = some i→InsG f i (decide (((q:Nat):Int)=(l.length:Nat) - 1))
 i0:∃i0,l[l.length - 1]? = some i0∧i0.kind=9
 hrd:∀ws:List Nat,(∀k:Nat,yE ws k=true↔((k:Nat):Int)∈f.params∧k≤65535)→∀(q:Nat) i,l[q]? = some i→∀x∈rdL i,knB ws l q x=true
theorem check_ret{lv:Value}{l:List InsT}(k4:TabL h)(hn:625≤n)(hlo:lo≤n)(g:FunG lo h f lv l):Ret P 0 102 [ptr 362 0,.agg ⟨funC f⟩] h n fun v h' n'=>v = .tuple ⟨[I64 0,I64 0,I64 0]⟩∧Tch [] h n h' n':=by
 obtain⟨fm,hl,hfb,h0,hll,hr,nm,hv,hp,hv0,hg,⟨i0,hi0,hk0⟩,hrd⟩:=g;have v1:=(fm.vr 0).one;have v2:=(fm.pr 0).one;have v3:=(fm.bl 0).one;have bl1:f.blocks.length=1:=by rw[hfb];rfl
 have kk:∀{h' n'},Tch [] h n h' n'→TabL h':=fun t=>k4.tch hn t;have ff:∀{h' n'},Tch [] h n h' n'→FunM lo h' f:=fun t=>fm.tch (Tch.lw t hlo (by simp)) (Nat.le_refl _);refine ent fun u=>?_;repeat' first|refine wk ?_|refine cX (fun _=>?_) fun _=>?_|refine ob (a:=.bool false) ?_ bn_p1|fail
 refine cal (vhead_com (b:=0) (k:=0) (kk (n':=n+1+1+1+1+1) zA) (by omega) zM (by omega) (by omega) (ff (n':=n+1+1+1+1+1) zA) hl bl1 hr nm hv hp hv0) ?_
 rintro _ h2 n2 ⟨rfl,t2⟩
 have hn2:=t2.le;have c1:Cel h2 (n+1) (3+1) 0 [I64 0]:=Cel.tch zC t2 (by omega) (by simp);have c2:Cel h2 (n+1+1) (3+1) 0 [I64 0]:=Cel.tch zC t2 (by omega) (by simp);have c3:Cel h2 (n+1+1+1) (39+1) 0 [I64 0]:=Cel.tch zC t2 (by omega) (by simp);have cK:Cel h2 (n+1+1+1+1) zVk 0 (vkC f 0 0):=Cel.tch zM t2 (by omega) (by simp);have t02:Tch [] h n h2 n2:=Tch.tch t2 zA (by simp);clear t2;repeat' first|refine wk ?_|refine cX (fun _=>?_) fun _=>?_|fail
 refine cal (vblocks_com (kk t02) (by omega) (by omega) cK (by omega) (by omega) (ff t02) (by omega) hfb h0 hll hr hg) ?_
 rintro _ h3 n3 ⟨rfl,t3,b3,k3,cK⟩
 have hn3:=t3.le;have c1:=c1.tch t3 (by omega) (nm1 (by omega));have c2:=c2.tch t3 (by omega) (nm1 (by omega));have c3:=c3.tch t3 (by omega) (nm1 (by omega));have t03:Tch [] h n h3 n3:=Tch.tch t3 t02 (fun x hx=>by simp at hx;omega);clear t3 t02;repeat' first|refine wk ?_|refine cX (fun _=>?_) fun _=>?_|fail
 refine cal (vwritten_com cK (by omega) (by omega) (ff t03) hfb hi0 hk0 (by omega) hrd) ?_
 rintro _ h4 n4 ⟨rfl,t4,b4,k4',cK⟩
 have hn4:=t4.le;have c1:=c1.tch t4 (by omega) (nm1 (by omega));have c2:=c2.tch t4 (by omega) (nm1 (by omega));have c3:=c3.tch t4 (by omega) (nm1 (by omega));have t04:Tch [] h n h4 n4:=Tch.tch t4 t03 (fun x hx=>by simp at hx;omega);clear t4 t03;repeat' first|refine wk ?_|refine cX (fun _=>?_) fun _=>?_|fail
 refine lv_none (g:=153) (args:=[]) (cap:=[ptr (n+1) 0,ptr (n+1+1) 0,ptr (n+1+1+1) 0]) check1_none ?_
 rintro h5 n5 t5
 have hn5:=t5.le;have c1:Cel h5 (n+1) (3+1) 0 [I64 0]:=Cel.tch zM t5 (by omega) (by simp);have c2:Cel h5 (n+1+1) (3+1) 0 [I64 0]:=Cel.tch zM t5 (by omega) (by simp);have c3:Cel h5 (n+1+1+1) (39+1) 0 [I64 0]:=Cel.tch zM t5 (by omega) (by simp);have t05:Tch [] h n h5 n5:=Tch.tch t5 zA (by simp);clear t5;repeat' first|refine wk ?_|refine cX (fun _=>?_) fun _=>?_|fail
 exact⟨_,rfl,rfl,t05⟩
theorem takes_ret{lv:Value}{l:List InsT}(k4:TabL h)(hn:625≤n)(hlo:lo≤n)(g:FunG lo h f lv l):Ret P 0 45 [ptr 362 0,.agg ⟨funC f⟩] h n fun v h' n'=>v = .bool true∧Tch [] h n h' n':=by
 have v1:=(g.fm.vr 0).one;have v2:=(g.fm.pr 0).one;have v3:=(g.fm.bl 0).one;have gg:∀{h' n'},Tch [] h n h' n'→FunG lo h' f lv l:=fun t=>⟨g.fm.tch (Tch.lw t hlo (by simp)) (Nat.le_refl _),g.hl,g.hfb,g.h0,g.hll,g.hr,g.nm,g.hv,g.hp,g.hv0,g.hg,g.i0,g.hrd⟩;refine ent fun u=>?_;repeat' first|refine wk ?_|refine cX (fun _=>?_) fun _=>?_|fail
 refine vM (check_ret (k4.tch hn (n':=n+1) zA) (by omega) (by omega) (gg (n':=n+1) zA)) ?_
 rintro _ h2 n2 ⟨rfl,t2⟩
 repeat' first|refine wk ?_|refine cX (fun _=>?_) fun _=>?_|fail
 exact⟨_,rfl,rfl,zA⟩
end Go.Proofs.YtcmohelnoldfbaaGreat
namespace Go.Proofs.YtcmohelnoldfbaaGreat
open Go Go.Ex Go.Ex.M
set_option maxRecDepth 100000
set_option maxHeartbeats 8000000
attribute [local simp] yI
variable {n lo:Nat} {h:zB}
theorem cross1_ret{i:InsT}{wv ov:Value}{ws os:List Nat}{p k:Nat}{la:Nat}{va:List Value}{ea sa na:Nat}{ha:zB}(ra:Row na ha i.av ea sa la va)(sk:SetK 0 n h wv ws)(cO:Cel h p (tSet+1) 0 [ov])(so:SetK lo n h ov os)(hlo:lo≤n)(hp:p<lo):Com P 0 48 [I64 (k:Nat),.agg ⟨xY i⟩,.agg ⟨[wv]⟩,ptr p 0] h n fun o h' n'=>o = .ret (.tuple #[])∧Tch [p] h n h' n'∧∃ov' os',Cel h' p (tSet+1) 0 [ov']∧SetK lo n' h' ov' os'∧∀q,yE os' q=(yE os q || (decide (i.kind=6) && (yE ws q && !decide (i.d=(q:Nat))))):=by
 have a1:=ra.one;have w1:=sk.k.one;have wr:=sk.row;have o1:=so.k.one;have orr:=so.row;refine ent fun u=>?_;by_cases h6:i.kind=6
 · repeat' first|refine wk ?_|refine cX (fun _=>?_) fun _=>?_|fail
   refine vM (without_ret (sk.tch0 zA) _) ?_
   rintro _ h2 n2 ⟨v2,s2,rfl,e2,k2,t2⟩
   have hn2:=t2.le;have o2:=k2.k.one;have r2:=k2.row;have t02:Tch [] h n h2 n2:=zA;have cO2:Cel h2 p (tSet+1) 0 [ov]:=cO.tch t02 (by omega) (by simp);have so2:=so.tch0 t02;clear t2;repeat' first|refine wk ?_|refine cX (fun _=>?_) fun _=>?_|fail
   refine vM (or_ret so2.row k2.row (Nat.le_refl _) so2.s k2.s) ?_
   rintro _ h3 n3 ⟨v3,s3,rfl,u1,u2,u3,t3⟩
   have hn3:=t3.le;have o3:=u3.one;have cO3:Cel h3 p (tSet+1) 0 [ov]:=cO2.tch t3 (by omega) (by simp);have t03:Tch [] h n h3 n3:=Tch.tch t3 t02 (by simp);clear t3;repeat' first|refine wk ?_|refine cX (fun _=>?_) fun _=>?_|fail
   exact⟨rfl,zA,v3,s3,zM,⟨u1,(u3.tch (S:=[p]) zA fun b hb hx=>by simp at hx;have:=(u3.blk hb).1;omega).dnl (by omega)⟩,fun q=>by rw[u2,e2,decide_eq_true h6];rfl⟩
 · repeat' first|refine wk ?_|refine cX (fun _=>?_) fun _=>?_|fail
   exact⟨rfl,zA,ov,os,zC,so.tch0 zA,fun q=>by rw[decide_eq_false h6];simp⟩
def crL:List InsT→Nat→Bool
 | [],_=>false
 | i::r,q=>crL r q || (decide (i.kind=6) && (bkL (fun _=>false) r q && !decide (i.d=(q:Nat))))
theorem crL_at{l:List InsT}{k:Nat}{i:InsT}(h:l[k]? = some i)(q:Nat):crL (l.drop k) q=(crL (l.drop (k+1)) q || (decide (i.kind=6) && (bkL (fun _=>false) (l.drop (k+1)) q && !decide (i.d=(q:Nat))))):=by
 obtain⟨hk,rfl⟩:=List.getElem?_eq_some_iff.1 h;rw [List.drop_eq_getElem_cons hk];rfl
theorem cross_ret{f:FunT}{lv:Value}{l:List InsT}{bt:Nat}(fm:FunM lo h f)(hfb:f.blocks=[(lv,l)]){i0:InsT}(hi0:l[l.length - 1]? = some i0)(hk0:i0.kind=9)(hll:l.length≤1000)(hsm:∀i∈l,InsS i)(hlo:lo≤n)
(htk:∀{h' n'},Tch [] h n h' n'→Ret P 0 45 [ptr bt 0,.agg ⟨funC f⟩] h' n' fun v h2 n2=>v = .bool true∧Tch [] h' n' h2 n2) :
 Ret P 0 15 [ptr bt 0,.agg ⟨funC f⟩] h n fun v h' n'=>∃ws,SetW ws∧(∀q,yE ws q=crL l q)∧Own n n' h' v tI 1 (bitN ws).length ((bitN ws).map natV)∧Tch [] h n h' n':=by
 have v1:=(fm.vr 0).one;have v2:=(fm.pr 0).one;have v3:=(fm.bl 0).one;have bl1:f.blocks.length=1:=by rw[hfb];rfl
 obtain⟨eb,rb⟩:=fm.bl.ex;rw [hfb]at rb;have rb:Row lo h f.bv eb 1 1 [lv]:=rb;refine ent fun u=>?_;repeat' first|refine wk ?_|refine cX (fun _=>?_) fun _=>?_|fail
 refine vM (htk zA) ?_
 rintro _ h2 n2 ⟨rfl,t2⟩
 have hn2:=t2.le;have cF:Cel h2 n zFun 0 (funC f):=zM;have t02:Tch [] h n h2 n2:=zA;clear t2;repeat' first|refine wk ?_|refine cX (fun _=>?_) fun _=>?_|fail
 · rename_i e9;cases e9
 refine vM (of1_ret (fm.tch (Tch.lw (n:=n) (S:=[]) zA hlo (by simp)) (Nat.le_refl _)) hfb hi0 hk0 hll hsm (by omega)) ?_
 rintro _ h3 n3 ⟨iv,ov,wo,wz,rfl,i1,ro,hz,sz,t3⟩
 have hn3:=t3.le;have o1:=ro.one;have cF:Cel h3 n zFun 0 (funC f):=Cel.tch zC t3 (by omega) (by simp);have cO:Cel h3 n2 (tSet+1) 0 [.slice none 0 0]:=Cel.tch zC t3 (by omega) (by simp);have t03:Tch [] h n h3 n3:=Tch.tch t3 zA (by simp);clear t3 t02;repeat' first|refine wk ?_|refine cX (fun _=>?_) fun _=>?_|fail
 refine zV ?_;repeat' first|refine wk ?_|refine cX (fun _=>?_) fun _=>?_|fail
 have tA:Tch [] h n (hst (hal h3 n3 (mkC [.slice none 0 0,.slice none 0 0] zSets 0)) n3 0 [iv,ov]) (n3+1):=zA;have tB:Tch [] h3 n3 (hst (hal h3 n3 (mkC [.slice none 0 0,.slice none 0 0] zSets 0)) n3 0 [iv,ov]) (n3+1):=zA;have fmA:=fm.tch (Tch.lw tA hlo (by simp)) (Nat.le_refl _);have cOA:Cel (hst (hal h3 n3 (mkC [.slice none 0 0,.slice none 0 0] zSets 0)) n3 0 [iv,ov]) n2 (tSet+1) 0 [.slice none 0 0]:=cO.tch tB (by omega) (by simp);have wr:Row n3 h3 ov eSetE 1 1 [wo]:=ro;have bl2:bkL (yE wz)=bkL fun _=>false:=by rw[show yE wz=fun _=>false from funext hz]
 refine cal (each_com (lo:=lo) (B:=[n2]) (J:=fun k h' n'=>n2<n'∧∃ov os,Cel h' n2 (tSet+1) 0 [ov]∧SetK (n3+1+3) n' h' ov os∧∀q,yE os q=crL (l.drop k) q) i1 (L:=[wo]) (wv:=wo) (ws:=wz) (lv:=lv) (l:=l) (b:=0) ((ro.tch tB (Nat.le_refl _) (by simp)).up (by omega)) rfl ((sz.tch0 tB).dnl (Nat.zero_le _)) fmA (by rw[hfb];rfl) hll (by omega) (Nat.le_of_ble_eq_true rfl) hsm (by omega) (fun x hx=>by simp at hx;omega) (fun b hb hx=>by simp at hx;have:=(sz.k.blk hb).1;omega) ?_ ?_ ?_) ?_
 · exact⟨by omega,_,[],cOA,wM,fun q=>by rw[List.drop_length];exact hasW_nil q⟩
 · rintro k h' n' h4 n4 ⟨q1,v4,s4,q2,q3,q4⟩ t4
   have:=t4.le;exact⟨by omega,v4,s4,q2.tch t4 q1 (by simp;omega),q3.tch t4 (by simp),q4⟩
 · rintro k i wv' ws' h' n' hk ⟨q1,v4,s4,q2,q3,q4⟩ tb hn' im he sk'
   refine Com.mono (cross1_ret (im.ar 0) sk' q2 q3 (by omega) (by omega)) ?_
   rintro o h4 n4 ⟨rfl,t4,v5,s5,q5,q6,q7⟩
   have:=t4.le;exact⟨rfl,t4,by omega,v5,s5,q5,q6,fun q=>by rw[q7,q4,he,bl2,crL_at hk]⟩
 rintro _ h4 n4 ⟨rfl,t4,q1,v4,s4,q2,q3,q4⟩
 have hn4:=t4.le;have v41:=q3.k.one;have cF:Cel h4 n zFun 0 (funC f):=Cel.tch zC t4 (by omega) (by simp;omega);have t04:Tch [] h n h4 n4:=Tch.tch t4 tA (by simp;omega);clear t4;repeat' first|refine wk ?_|refine cX (fun _=>?_) fun _=>?_|fail
 refine zV ?_;repeat' first|refine wk ?_|refine cX (fun _=>?_) fun _=>?_|fail
 · rename_i e9;cases e9
 refine vM (list_ret q3) ?_
 rintro v5 h5 n5 ⟨o5,t5⟩
 have o51:=o5.one;repeat' first|refine wk ?_|refine cX (fun _=>?_) fun _=>?_|fail
 exact⟨_,rfl,s4,q3.s,fun q=>by rw[q4];rfl,o5.dnl (by omega),zA⟩
end Go.Proofs.YtcmohelnoldfbaaGreat
