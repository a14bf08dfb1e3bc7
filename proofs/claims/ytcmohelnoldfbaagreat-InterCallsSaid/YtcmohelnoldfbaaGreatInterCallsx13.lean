/- What the law leans on: an executor of the model that is sound, deduction over it, and the walks through the code (part 13 of 13). Conditions: those that each theorem states. -/
import Derived.Test.YtcmohelnoldfbaaGreatInterCallsx12

set_option linter.unusedVariables false
set_option linter.unusedSimpArgs false
namespace Go.Proofs.YtcmohelnoldfbaaGreat
open Go Go.Ex Go.Ex.M
set_option maxRecDepth 100000
set_option maxHeartbeats 8000000
attribute [local simp] yI
variable {n lo:Nat} {h:zB}
abbrev eStrY:Nat:=9
abbrev eInsY:Nat:=47
theorem same_pur{lo' e e':Nat}{av bv:Value}{a:List Int}(ra:Row lo h av e 1 a.length (a.map I64))(rb:Row lo' h bv e' 1 a.length (a.map I64))(hal:a.length≤1000):Pur P 0 14 [av,bv] h n (.bool true):=by
 refine Com.pure (ent fun u=>?_) (.inl rfl);repeat' first|refine wk ?_|refine cX (fun _=>?_) fun _=>?_|fail
 refine lpR (fun q:Nat=>[(0,av),(1,bv),(5,I64 q)]) (fun q h' n'=>h'=h∧n'=n∧q≤a.length) (fun q=>a.length - q) 0 ⟨rfl,rfl,Nat.zero_le _⟩ ?_
 rintro q t h' n' ⟨e1,e2,hq⟩
 subst e1 e2;by_cases hlt:q<a.length
 · have c0:a[q]? = some a[q]:=List.getElem?_eq_getElem hlt;generalize a[q]=x at c0
   have c1:=row_e1 ra c0;have d1:=row_e1 rb c0;have hd:¬(x≠x):=fun h9=>h9 rfl;have low1:=ra.low (by omega);have low2:=rb.low (by omega);repeat' first|refine wk ?_|refine cX (fun _=>?_) fun _=>?_|fail
   exact rnd (q+1) ⟨rfl,rfl,by omega⟩
 · obtain rfl:q=a.length:=by omega
   repeat' first|refine wk ?_|refine cX (fun _=>?_) fun _=>?_|fail
   exact finT rfl zA
abbrev oneF(vv pv bv lv:Value)(m:Nat)(l:List InsT):FunT:=⟨[102],vv,List.replicate m [103],pv,[0],[103],bv,[(lv,l)]⟩
theorem rep_snoc(m:Nat):(List.replicate (m+1) ([103]:Tx)).map str=(List.replicate m ([103]:Tx)).map str++[str [103]]:=by
 rw[List.replicate_succ',List.map_append];rfl
theorem insm_up{lo':Nat}{i:InsT}(k:InsM lo h i)(hl:lo≤lo'):InsM lo' h i:=⟨fun e=>(k.ar e).up hl,k.al,k.ag,k.g,k.nl⟩
theorem one_ret{lv:Value}{l:List InsT}(r:Row lo h lv eInsY 9 l.length (l.flatMap xY))(hll:l.length≤400)(hlo:lo≤n)(hi:∀i∈l,InsM lo h i){m:Nat}(hm:m≤100):Ret P 0 16 [I64 (m:Nat),lv] h n fun v h' n'=>∃vv pv bv,v = .agg ⟨funC (oneF vv pv bv lv m l)⟩∧FunM n' h' (oneF vv pv bv lv m l)∧Tch [] h n h' n':=by
 have l1:=r.one;obtain⟨lp,lc,elv⟩:=r.sl;subst elv;have hs1:∀b:Nat,(Value.slice (some ⟨b,0,none⟩) 1 1).oneCell'=true:=fun _=>rfl;refine ent fun u=>?_;repeat' first|refine wk ?_|refine cX (fun _=>?_) fun _=>?_|fail
 refine lpR (α :=Nat×Value) (fun a=>[(0,I64 (m:Nat)),(4,ptr n 0),(5,ptr (n+1+1+1) 0),(6,I64 a.1)])
  (fun a h' n'=>Tch [] h n h' n'∧n+4≤n'∧a.1≤m∧Cel h' n zFun 0 [str [],.slice none 0 0,.slice none 0 0,str [],.slice none 0 0]∧Cel h' (n+1) 0 0 [I64 0]∧Cel h' (n+1+1) 0 0 [.slice lp l.length lc]∧Cel h' (n+1+1+1) zFun 0 [str [102],a.2,.slice (some ⟨n+1,0,none⟩) 1 1,str [103],.slice (some ⟨n+1+1,0,none⟩) 1 1]∧Own (n+4) n' h' a.2 eStrY 1 a.1 ((List.replicate a.1 ([103]:Tx)).map str)) (fun a=>m - a.1) (0,.slice none 0 0) ⟨zA,by omega,Nat.zero_le _,zM,zC,zC,zM,Own.nil⟩ ?_
 rintro ⟨q,vv⟩ t h' n' ⟨ht,hn',hq,c0,c1,c2,c3,ho⟩
 dsimp only at hq c3 ho ⊢;have o1:=ho.one;have orr:=ho.row (by decide);by_cases hlt:q<m
 · repeat' first|refine wk ?_|refine cX (fun _=>?_) fun _=>?_|fail
   refine appO (ho.tch (S:=[]) zA (by simp)) (xX (e:=eStrY) (sz:=1) (len:=1) rfl (by decide)) (by omega) ⟨rfl,trivial⟩ (by omega) ?_
   rintro v3 h3 n3 ho3 t3
   have hn3:=t3.le;have o3:=ho3.one;have c0:Cel h3 n zFun 0 [str [],.slice none 0 0,.slice none 0 0,str [],.slice none 0 0]:=Cel.tch zC t3 (by omega) (xO ho (by omega));have c1:Cel h3 (n+1) 0 0 [I64 0]:=Cel.tch zC t3 (by omega) (xO ho (by omega));have c2:Cel h3 (n+1+1) 0 0 [.slice lp l.length lc]:=Cel.tch zC t3 (by omega) (xO ho (by omega));have c3:Cel h3 (n+1+1+1) zFun 0 [str [102],vv,.slice (some ⟨n+1,0,none⟩) 1 1,str [103],.slice (some ⟨n+1+1,0,none⟩) 1 1]:=Cel.tch zC t3 (by omega) (xO ho (by omega));have t03:Tch [] h n h3 n3:=Tch.tch t3 zA fun x hx=>.inl (by have:=xN ho x hx;omega);clear t3;repeat' first|refine wk ?_|refine cX (fun _=>?_) fun _=>?_|fail
   exact rnd (q+1,v3) ⟨zA,by omega,by omega,zC,zC,zC,zM,by rw[rep_snoc];exact ho3.tch (S:=[n+1+1+1]) zA (own_off ho3 (by omega))⟩
 · obtain rfl:q=m:=by omega
   repeat' first|refine wk ?_|refine cX (fun _=>?_) fun _=>?_|fail
   refine ob (a:=[.agg ⟨[str [102],vv,.slice (some ⟨n+1,0,none⟩) 1 1,str [103],.slice (some ⟨n+1+1,0,none⟩) 1 1]⟩]) ?_ (rsN (by(apply lk_box;((conv=>lhs;whnf) <;> exact rfl))) (ldN_of (by decide) (rd_cons xM (rd_cons xM (rd_cons xM (rd_cons xM (rd_cons xM rd_nil)))))) rs_nil);repeat' first|refine wk ?_|refine cX (fun _=>?_) fun _=>?_|fail
   have tF:Tch [n] h' n' (hst h' n 0 [str [102],vv,.slice (some ⟨n+1,0,none⟩) 1 1,str [103],.slice (some ⟨n+1+1,0,none⟩) 1 1]) n':=zA;have tG:Tch [] h lo (hst h' n 0 [str [102],vv,.slice (some ⟨n+1,0,none⟩) 1 1,str [103],.slice (some ⟨n+1+1,0,none⟩) 1 1]) n':=Tch.lw (Tch.tch tF ht (fun x hx=>by simp at hx;omega)) hlo (by simp);refine⟨_,rfl,vv,.slice (some ⟨n+1,0,none⟩) 1 1,.slice (some ⟨n+1+1,0,none⟩) 1 1,rfl,⟨⟨?_,eStrY,?_⟩,⟨by show 1<inf;decide,tI,?_⟩,⟨by show 1<inf;decide,tI,?_⟩,?_,?_⟩,zA⟩
   · show(List.replicate q ([103]:Tx)).length<inf;rw [List.length_replicate];unfold inf;omega
   · show Row n' _ vv eStrY 1 (List.replicate q ([103]:Tx)).length _;rw [List.length_replicate];exact(ho.tch tF (own_off ho (by omega))).row (by decide)
   · exact cel_row (c1.tch tF (by omega) (nm1 (by omega))) (by omega) rfl (by decide)
   · exact cel_row (c2.tch tF (by omega) (nm1 (by omega))) (by omega) rfl (by decide)
   · intro x hx;obtain rfl:=List.mem_singleton.1 hx;exact⟨by show l.length<inf;unfold inf;omega,eInsY,(r.tch tG (Nat.le_refl _) (by simp)).up (by omega)⟩
   · intro x hx i him;obtain rfl:=List.mem_singleton.1 hx;exact insm_up ((hi i him).tch tG (Nat.le_refl _)) (by omega)
end Go.Proofs.YtcmohelnoldfbaaGreat
namespace Go.Proofs.YtcmohelnoldfbaaGreat
open Go Go.Ex
set_option maxRecDepth 1000000
theorem alive_run:(run P 1000000).call 6 [] false none (heap0 []) 0 (finV (.bool true))=true:=by decide +kernel
instance alive_c (h:zB) (n:Nat):PurC P 0 6 [] h n (.bool true):=⟨fun u=>⟨_,_,_,⟨rfl,rfl,rfl⟩,hook_of_run (sound prog_ok mixed 1000000) (show tabsOK 0 []=true from rfl) rfl (.inr ⟨_,rfl⟩) alive_run rfl u n⟩⟩
end Go.Proofs.YtcmohelnoldfbaaGreat
namespace Go.Proofs.YtcmohelnoldfbaaGreat
open Go Go.Ex Go.Ex.M
set_option maxRecDepth 100000
set_option maxHeartbeats 8000000
attribute [local simp] yI
variable {n:Nat} {h:zB}
abbrev nlY:Value:=.slice none 0 0
def cI(q:Nat):InsT:=⟨1,((q+1:Nat):Int),0,0,((q+1:Nat):Int),[],nlY,[],0,0⟩
def goI(w:Value):InsT:=⟨6,0,0,0,0,[103,111],w,[0],0,0⟩
def adI(w:Value)(i:Nat):InsT:=⟨3,0,0,0,0,[97,100,100],w,[0,((i:Nat):Int)],0,0⟩
def rtI:InsT:=⟨9,0,0,0,0,[],nlY,[],0,0⟩
def wR(q:Nat):List InsT:=(List.range q).map cI
theorem consts_snoc(q:Nat):(wR (q+1)).flatMap xY=(wR q).flatMap xY++xY (cI q):=by unfold wR;rw [List.range_succ,List.map_append,List.flatMap_append];rfl
theorem num18(x:Int):Pur P 0 13 [I64 x] h n (I64 x):=by
 refine ent fun u=>?_;repeat' first|refine wk ?_|refine cX (fun _=>?_) fun _=>?_|fail
 exact fin rfl
def shI:Int→Nat→Int | .ofNat x,m=>.ofNat (x >>> m) | .negSucc x,m=>.negSucc (x >>> m)
def anI:Int→Int | .ofNat x=>.ofNat (Nat.land x 1) | .negSucc x=>.ofNat (Nat.xor 1 (Nat.land 1 x))
def wB(w:Int)(m:Nat):Bool:=decide (anI (shI w m)=1)
theorem bn_shrI{ty:Nat}{ox oy:Operand}{a:Int}{m:Nat}(hm:m<64):Bn P .shr ty ox oy (I64 a) (.int .u64 (m:Nat)) (I64 (shI a m)):=by
 cases a with
 | ofNat x=>
  show(cond (Nat.blt m 64) (some (Value.int .i64 (.ofNat (Nat.shiftRight x m)))) none:Option Value)=_;rw [yU hm];rfl
 | negSucc x=>
  show(cond (Nat.blt m 64) (some (Value.int .i64 (.negSucc (Nat.shiftRight x m)))) none:Option Value)=_;rw [yU hm];rfl
theorem bn_anI{ty:Nat}{ox oy:Operand}{a:Int}(h:Go64 a){m:Nat}:Bn P .and ty ox oy (I64 (shI a m)) (I64 1) (I64 (anI (shI a m))):=by
 unfold Go64 at h;unfold Bn;rw [binI]
 cases a with
 | ofNat x=>
  have h2:=Nat.shiftRight_le x m;have h3:x >>> m<9223372036854775808:=by have h4:((x:Nat):Int)<9223372036854775808:=h.2;omega
  show cond (Nat.blt (x >>> m) 9223372036854775808 && Nat.blt 1 9223372036854775808) ((bitNat .and (x >>> m) 1).map fun r=>Value.int .i64 (.ofNat r)) none=_;rw [yU h3];rfl
 | negSucc x=>
  have h2:=Nat.shiftRight_le x m;have h3:x >>> m<9223372036854775808:=by have:=h.1;omega
  show cond (Nat.blt (x >>> m) 9223372036854775808 && Nat.blt 1 9223372036854775808) (some (Value.int .i64 (.ofNat (Nat.xor 1 (Nat.land 1 (x >>> m)))))) none=_;rw [yU h3];rfl
theorem cvu{m:Nat}(h:m<1000):Cv P 48 (I64 (m:Nat)) (.int .u64 (m:Nat)):=by
 have:=cv_int (P:=P) (dst:=48) (k:=.i64) (a:=((m:Nat):Int))
 rwa [← yZ,wrap_u (by omega)]at this
end Go.Proofs.YtcmohelnoldfbaaGreat
namespace Go.Proofs.YtcmohelnoldfbaaGreat
open Go Go.Ex Go.Ex.M
set_option maxRecDepth 100000
def wants(w:Int)(q:Nat):List Nat:=((List.range q).map (· + 1)).filter (wB w)
theorem wants_t{w:Int}{q:Nat}(h:wB w (q+1)=true):wants w (q+1)=wants w q++[q+1]:=by unfold wants;rw [List.range_succ,List.map_append,List.filter_append];simp [h]
theorem wants_f{w:Int}{q:Nat}(h:wB w (q+1)=false):wants w (q+1)=wants w q:=by unfold wants;rw [List.range_succ,List.map_append,List.filter_append];simp [h]
theorem wants_mem{w:Int}{q k:Nat}(h:k∈wants w q):1≤k∧k≤q:=by
 unfold wants at h;obtain⟨a,ha,rfl⟩:=List.mem_map.1 (List.mem_filter.1 h).1;have:=List.mem_range.1 ha;omega
theorem wants_len(w:Int)(q:Nat):(wants w q).length≤q:=by
 unfold wants;exact Nat.le_trans (List.length_filter_le _ _) (by rw[List.length_map,List.length_range];exact Nat.le_refl _)
theorem wants_pw(w:Int)(q:Nat):(wants w q).Pairwise (· < ·):=by
 unfold wants;refine List.Pairwise.filter _ ?_;rw [List.pairwise_map];exact List.pairwise_lt_range.imp fun h=>by omega
def ads(A:List (Nat×Value)):List InsT:=A.map fun p=>adI p.2 p.1
def allI(N:Nat)(g:Value)(A:List (Nat×Value)):List InsT:=wR N++goI g::(ads A++[rtI])
theorem crL_app(a b:List InsT)(h:∀i∈a,i.kind≠6)(q:Nat):crL (a++b) q=crL b q:=by
 induction a with
 | nil=>rfl
 | cons i r ih=>
  show(crL (r++b) q || (decide (i.kind=6) && _))=_;rw [ih fun x hx=>h x (List.mem_cons_of_mem _ hx),decide_eq_false (h i (List.mem_cons_self ..)),Bool.false_and,Bool.or_false]
theorem kind_c{N:Nat}{i:InsT}(h:i∈wR N):∃q,q<N∧i=cI q:=by
 obtain⟨q,hq,rfl⟩:=List.mem_map.1 h;exact⟨q,List.mem_range.1 hq,rfl⟩
theorem kind_a{A:List (Nat×Value)}{i:InsT}(h:i∈ads A):∃p∈A,i=adI p.2 p.1:=by
 obtain⟨p,hp,rfl⟩:=List.mem_map.1 h;exact⟨p,hp,rfl⟩
theorem bk_ads(A:List (Nat×Value)):bkL (fun _=>false) (ads A++[rtI])=(A.map (·.1)).foldr (fun i s=>backP 0 [0,((i:Nat):Int)] s) retP:=by
 induction A with
 | nil=>rfl
 | cons p A ih=>exact congrArg (backP 0 [0,((p.1:Nat):Int)]) ih
theorem cross_all{N:Nat}{g:Value}{A:List (Nat×Value)}(h0:∀p∈A,1≤p.1)(q:Nat):crL (allI N g A) q=decide (q∈A.map (·.1)):=by
 have hz:0∉A.map (·.1):=fun h=>by
  obtain⟨p,hp,e⟩:=List.mem_map.1 h;have:=h0 p hp;omega
 unfold allI;rw [crL_app _ _ fun i hi=>by obtain⟨_,_,rfl⟩:=kind_c hi;exact(by decide:(1:Int)≠6)];show(crL (ads A++[rtI]) q || (decide ((6:Int)=6) && (bkL (fun _=>false) (ads A++[rtI]) q && !decide ((0:Int)=(q:Nat)))))=_;rw [crL_app _ _ fun i hi=>by obtain⟨_,_,rfl⟩:=kind_a hi;exact(by decide:(3:Int)≠6),bk_ads,show crL [rtI] q=false from rfl,Bool.false_or,decide_eq_true rfl,Bool.true_and,← cross_eq hz q];congr 2
 exact decide_eq_decide.2 ⟨fun h=>by omega,fun h=>by omega⟩
theorem all_len(N:Nat)(g:Value)(A:List (Nat×Value)):(allI N g A).length=N+1+A.length+1:=by
 unfold allI wR ads;simp;omega
theorem all_at{N:Nat}{g:Value}{A:List (Nat×Value)}{q:Nat}{i:InsT}(h:(allI N g A)[q]? = some i):(q<N∧i=cI q)∨(q=N∧i=goI g)∨(∃p,A[q - N - 1]? = some p∧N<q∧q<N+1+A.length∧i=adI p.2 p.1)∨(q=N+1+A.length∧i=rtI):=by
 have lc:(wR N).length=N:=by unfold wR;simp
 have la:(ads A).length=A.length:=by unfold ads;simp
 unfold allI at h;rcases Nat.lt_or_ge q N with h1|h1
 · rw[List.getElem?_append_left (by omega)]at h;unfold wR at h;rw [List.getElem?_map,List.getElem?_range h1]at h;exact .inl ⟨h1,by injection h with h;exact h.symm⟩
 rw[List.getElem?_append_right (by omega),lc]at h;rcases Nat.eq_or_lt_of_le h1 with h2|h2
 · subst h2;rw [Nat.sub_self]at h;exact .inr (.inl ⟨rfl,by injection h with h;exact h.symm⟩)
 obtain⟨k,hk⟩:∃k,q - N=k+1:=⟨q - N - 1,by omega⟩;rw [hk,List.getElem?_cons_succ]at h;rcases Nat.lt_or_ge k A.length with h3|h3
 · rw[List.getElem?_append_left (by omega)]at h;unfold ads at h;rw [List.getElem?_map,List.getElem?_eq_getElem h3]at h;refine .inr (.inr (.inl ⟨A[k],?_,h2,by omega,by injection h with h;exact h.symm⟩));rw [show q - N - 1=k by omega,List.getElem?_eq_getElem h3]
 · rw[List.getElem?_append_right (by omega),la]at h
   have:k - A.length=0:=by
    have:=(List.getElem?_eq_some_iff.1 h).1;simp at this;omega
   rw[this]at h;exact .inr (.inr (.inr ⟨by omega,by injection h with h;exact h.symm⟩))
theorem all_c{N:Nat}{g:Value}{A:List (Nat×Value)}{j:Nat}(hj:j<N):(allI N g A)[j]? = some (cI j):=by
 have lc:(wR N).length=N:=by unfold wR;simp
 unfold allI;rw [List.getElem?_append_left (by omega)];unfold wR;rw [List.getElem?_map,List.getElem?_range hj];rfl
theorem inV{vv pv bv lv:Value}{N:Nat}{l:List InsT}{k:Nat}(hk:k≤N):InV (oneF vv pv bv lv (N+1) l) (k:Nat):=⟨k,rfl,by show(List.replicate (N+1) ([103]:Tx))[k]? = _;rw [List.getElem?_replicate,if_pos (by omega)]⟩
theorem all_G{lo:Nat}{h:zB}{vv pv bv lv g:Value}{N:Nat}{A:List (Nat×Value)}(hN:N≤30)(hA:∀p∈A,1≤p.1∧p.1≤N)(hAl:A.length≤30)(fm:FunM lo h (oneF vv pv bv lv (N+1) (allI N g A))):FunG lo h (oneF vv pv bv lv (N+1) (allI N g A)) lv (allI N g A):=by
 have len:=all_len N g A;have i0:=inV (vv:=vv) (pv:=pv) (bv:=bv) (lv:=lv) (l:=allI N g A) (Nat.zero_le N);refine⟨fm,?_,rfl,by omega,by omega,rfl,by show nameB [102]=true;decide,?_,rfl,i0,?_,?_,?_⟩
 · show(List.replicate (N+1) ([103]:Tx)).length≤500;rw [List.length_replicate];omega
 · intro i x hx;exact List.eq_of_mem_replicate (List.mem_of_getElem? hx)
 · intro q i hq;rcases all_at hq with⟨h1,rfl⟩|⟨h1,rfl⟩|⟨p,h1,h2,h3,rfl⟩|⟨h1,rfl⟩
   · rw[decide_eq_false (by omega)];exact .k1 rfl (inV (by omega))
   · rw[decide_eq_false (by omega)];exact .k6 rfl rfl i0 0 rfl i0
   · rw[decide_eq_false (by omega)];exact .k3 rfl rfl i0 0 (p.1:Nat) rfl i0 (inV (hA p (List.mem_of_getElem? h1)).2)
   · rw[decide_eq_true (by omega)];exact .k9 rfl i0
 · refine⟨rtI,?_,rfl⟩;have hlt:(allI N g A).length - 1<(allI N g A).length:=by omega
   have e:=List.getElem?_eq_getElem hlt;rcases all_at e with⟨h1,_⟩|⟨h1,_⟩|⟨p,_,_,h1,_⟩|⟨_,h1⟩
   · omega
   · omega
   · omega
   · rw[e,h1]
 · intro ws hws q i hq x hx
   have z0:∀q,knB ws (allI N g A) q 0=true:=fun q=>by
    have hz:yE ws 0=true:=(hws 0).2 ⟨List.mem_singleton.2 rfl,by omega⟩
    have hm:(0:Nat)∈bitN ws:=by
     unfold bitN bitU;refine List.mem_filter.2 ⟨List.mem_range.2 ?_,hz⟩;rcases ws with _|⟨w,r⟩
     · rw[hasW_nil]at hz;cases hz
     · rw[List.length_cons];omega
    unfold knB;rw [List.any_eq_true.2 ⟨0,hm,rfl⟩];rfl
   rcases all_at hq with⟨h1,rfl⟩|⟨h1,rfl⟩|⟨p,h1,h2,h3,rfl⟩|⟨h1,rfl⟩
   · cases hx
   · obtain rfl:=List.mem_singleton.1 (show x∈[(0:Int)] from hx);exact z0 q
   · rcases List.mem_cons.1 (show x∈[(0:Int),((p.1:Nat):Int)] from hx) with rfl|hx
     · exact z0 q
     · obtain rfl:=List.mem_singleton.1 hx;obtain⟨p1,p2⟩:=hA p (List.mem_of_getElem? h1);have hc:=all_c (N:=N) (g:=g) (A:=A) (j:=p.1 - 1) (by omega)
       have hm:cI (p.1 - 1)∈(allI N g A).take q:=by
        refine List.mem_of_getElem? (i:=p.1 - 1) ?_;rw [List.getElem?_take_of_lt (by omega)];exact hc
       unfold knB;rw [(List.any_eq_true (l:=(allI N g A).take q)).2 ⟨_,hm,?_⟩,Bool.or_true];show(true && decide (((p.1:Nat):Int)=((p.1 - 1+1:Nat):Int)))=true;rw [decide_eq_true (by omega)];rfl
   · obtain rfl:=List.mem_singleton.1 (show x∈[(0:Int)] from hx);exact z0 q
theorem all_S{N:Nat}{g:Value}{A:List (Nat×Value)}(hN:N≤30)(hA:∀p∈A,1≤p.1∧p.1≤N):∀i∈allI N g A,InsS i:=by
 intro i hi;obtain⟨q,hq⟩:=List.mem_iff_getElem?.1 hi;rcases all_at hq with⟨h1,rfl⟩|⟨h1,rfl⟩|⟨p,h1,h2,h3,rfl⟩|⟨h1,rfl⟩
 · exact⟨by show([]:List Int).length≤1000;decide,fun x hx=>by cases hx⟩
 · exact⟨by show([0]:List Int).length≤1000;decide,fun x hx=>by obtain rfl:=List.mem_singleton.1 (show x∈[(0:Int)] from hx);omega⟩
 · refine⟨by show([0,((p.1:Nat):Int)]:List Int).length≤1000;simp,fun x hx=>?_⟩;have:=hA p (List.mem_of_getElem? h1);rcases List.mem_cons.1 (show x∈[(0:Int),((p.1:Nat):Int)] from hx) with rfl|hx
   · omega
   · obtain rfl:=List.mem_singleton.1 hx;omega
 · exact⟨by show([0]:List Int).length≤1000;decide,fun x hx=>by obtain rfl:=List.mem_singleton.1 (show x∈[(0:Int)] from hx);omega⟩
theorem bits_all{N:Nat}{g:Value}{A:List (Nat×Value)}{w:Int}(hA:A.map (·.1)=wants w N){ws:List Nat}(hc:∀q,yE ws q=crL (allI N g A) q):bitN ws=wants w N:=by
 have h0:∀p∈A,1≤p.1:=fun p hp=>(wants_mem (w:=w) (q:=N) (by rw[← hA];exact List.mem_map.2 ⟨p,hp,rfl⟩)).1;have hs:∀k,yE ws k=decide (k∈wants w N):=fun k=>by rw[hc,cross_all h0,hA]
 refine bitsL_eq hs (wants_pw w N) fun k hk=>?_;have h1:yE ws k=true:=by rw[hs,decide_eq_true hk]
 rcases Nat.lt_or_ge k (64*ws.length) with h2|h2
 · exact h2
 · unfold yE at h1;rw [List.getElem?_eq_none (by omega)]at h1;simp at h1
end Go.Proofs.YtcmohelnoldfbaaGreat
namespace Go.Proofs.YtcmohelnoldfbaaGreat
open Go Go.Ex Go.Ex.M
set_option maxRecDepth 100000
set_option maxHeartbeats 8000000
attribute [local simp] yI
abbrev gV(b:Nat):Value:=.slice (some ⟨b,0,none⟩) 1 1
def ArgA(n:Nat)(h:zB)(A:List (Nat×Value)):Prop:=∀p∈A,∃b,b<n∧p.2 = .slice (some ⟨b,0,none⟩) 2 2∧Cel h b 0 0 [I64 0,I64 ((p.1:Nat):Int)]
theorem ArgA.own{n n':Nat}{h h':zB}{A:List (Nat×Value)}(a:ArgA n h A){lo e sz len:Nat}{v:Value}{vs:List Value}(o:Own lo n h v e sz len vs)(t:Tch (yL v).toList h n h' n'):ArgA n' h' A:=fun p hp=>by
 obtain⟨b,h1,h2,h3⟩:=a p hp;exact⟨b,Nat.lt_of_lt_of_le h1 t.1,h2,h3.tch t h1 (cel_own h3 o)⟩
theorem all_snoc(N:Nat)(g:Value)(A:List (Nat×Value))(i:InsT):(wR N++goI g::ads A).flatMap xY++xY i=(wR N++goI g::(ads A++[i])).flatMap xY:=by
 rw[List.flatMap_append,List.flatMap_append,List.flatMap_cons,List.flatMap_cons,List.flatMap_append,List.append_assoc,List.append_assoc];rfl
theorem ads_snoc(A:List (Nat×Value))(p:Nat×Value):ads (A++[p])=ads A++[adI p.2 p.1]:=by unfold ads;rw [List.map_append];rfl
theorem all_M{n gb N:Nat}{h:zB}{A:List (Nat×Value)}(hN:N≤30)(hA:∀p∈A,1≤p.1∧p.1≤N)(cG:Cel h gb 0 0 [I64 0])(hg:gb<n)(hAr:ArgA n h A):∀i∈allI N (gV gb) A,InsM n h i:=by
 intro i hi;obtain⟨q,hq⟩:=List.mem_iff_getElem?.1 hi;have z:Go64 0:=by unfold Go64;omega
 rcases all_at hq with⟨h1,rfl⟩|⟨h1,rfl⟩|⟨p,h1,h2,h3,rfl⟩|⟨h1,rfl⟩
 · exact⟨fun e=>.inl ⟨rfl,rfl,rfl⟩,by show 0<tMax;decide,fun x hx=>(by cases hx),⟨by unfold Go64;show _≤((q+1:Nat):Int)∧((q+1:Nat):Int)<_;omega,z,z⟩,by show 0<tMax;decide⟩
 · exact⟨fun e=>cel_row cG hg rfl (by decide),by show 1<tMax;decide,fun x hx=>by obtain rfl:=List.mem_singleton.1 (show x∈[(0:Int)] from hx);exact z,⟨z,z,z⟩,by show 2<tMax;decide⟩
 · have hm:=List.mem_of_getElem? h1;obtain⟨b,b1,b2,b3⟩:=hAr p hm;have:=hA p hm;refine⟨fun e=>?_,by show 2<tMax;decide,fun x hx=>?_,⟨z,z,z⟩,by show 3<tMax;decide⟩
   · show Row n h p.2 e 1 2 [I64 0,I64 ((p.1:Nat):Int)];rw [b2];exact cel_row b3 b1 rfl (by decide)
   · rcases List.mem_cons.1 (show x∈[(0:Int),((p.1:Nat):Int)] from hx) with rfl|hx
     · exact z
     · obtain rfl:=List.mem_singleton.1 hx;unfold Go64;omega
 · exact⟨fun e=>.inl ⟨rfl,rfl,rfl⟩,by show 0<tMax;decide,fun x hx=>(by cases hx),⟨z,z,z⟩,by show 0<tMax;decide⟩
theorem icalls_com(a w:Int)(hw:Go64 w):Com P 0 4 [I64 a,I64 w] .lF 0 fun o h' n'=>o = .ret (.bool true):=by
 refine ent fun u=>?_;repeat' first|refine wk ?_|refine cX (fun _=>?_) fun _=>?_|fail
 refine vM small4_com ?_
 rintro _ _ _ ⟨rfl,rfl,rfl⟩
 repeat' first|refine wk ?_|refine cX (fun _=>?_) fun _=>?_|fail
 refine vM make4_com ?_
 rintro _ _ _ ⟨rfl,rfl,rfl⟩
 have nf:((0:Int)≠0)=False:=by simp
 have d0:¬((0:Int)≠0):=fun h=>h rfl;have d1:(0:Int)=0:=rfl;by_cases ha:a<1
 · repeat' first|refine wk ?_|refine cX (fun _=>?_) fun _=>?_|refine yG (num18 _) ?_|fail
   rfl
 by_cases hb:30<a
 · repeat' first|refine wk ?_|refine cX (fun _=>?_) fun _=>?_|refine yG (num18 _) ?_|fail
   rfl
 obtain⟨N,rfl⟩:=Int.eq_ofNat_of_zero_le (show 0≤a by omega);have hN:1≤N∧N≤30:=by omega
 repeat' first|refine wk ?_|refine cX (fun _=>?_) fun _=>?_|refine yG (num18 _) ?_|fail
 refine lpR (α :=Nat×Value) (fun a=>[(0,I64 (N:Nat)),(1,I64 w),(6,ptr 362 0),(8,a.2),(9,nlY),(10,I64 ((a.1+1:Nat):Int))]) (fun a h' n'=>Tch [] tbH 625 h' n'∧a.1≤N∧Own 625 n' h' a.2 eInsY 9 a.1 ((wR a.1).flatMap xY)) (fun a=>N - a.1) (0,nlY) ⟨Tch.refl _ _ _,Nat.zero_le _,Own.nil⟩ ?_
 rintro ⟨q,lv⟩ t h' n' ⟨ht,hq,ho⟩
 dsimp only at hq ho ⊢;have hn':=ht.le;have o1:=ho.one;by_cases hlt:q<N
 · repeat' first|refine wk ?_|refine cX (fun _=>?_) fun _=>?_|fail
   refine appO (ho.tch (S:=[]) zA (by simp)) (xX (e:=eInsY) (sz:=9) (len:=1) rfl (by decide)) (by omega) ⟨rfl,rfl,rfl,rfl,rfl,rfl,rfl,rfl,rfl,trivial⟩ (by omega) ?_
   rintro v3 h3 n3 ho3 t3
   have t03:Tch [] tbH 625 h3 n3:=Tch.tch t3 zA fun x hx=>.inl (xN ho x hx);clear t3;repeat' first|refine wk ?_|refine cX (fun _=>?_) fun _=>?_|fail
   exact rnd (q+1,v3) ⟨t03,by omega,by rw[consts_snoc];exact ho3⟩
 obtain rfl:q=N:=by omega
 repeat' first|refine wk ?_|refine cX (fun _=>?_) fun _=>?_|fail
 refine appO (ho.tch (S:=[]) zA (by simp)) (xX (e:=eInsY) (sz:=9) (len:=1) rfl (by decide)) (by omega) ⟨rfl,rfl,rfl,rfl,rfl,rfl,rfl,rfl,rfl,trivial⟩ (by omega) ?_
 rintro v3 h3 n3 ho3 t3
 have hn3:=t3.le;have o3:=ho3.one
 have cG:Cel h3 n' 0 0 [I64 0]:=Cel.tch zC t3 (by omega) (fun hx=>by
  rw[Option.mem_toList]at hx;have:=(ho.blk hx).2;omega)
 have t03:Tch [] tbH 625 h3 n3:=Tch.tch t3 zA fun x hx=>.inl (xN ho x hx);clear t3 ht ho;have hoG:Own 625 n3 h3 v3 eInsY 9 (q+1+([]:List (Nat×Value)).length) ((wR q++goI (gV n')::ads []).flatMap xY):=by rw[List.flatMap_append];exact ho3
 clear ho3;repeat' first|refine wk ?_|refine cX (fun _=>?_) fun _=>?_|fail
 refine lpR (α :=Nat×Value×Value×List (Nat×Value)) (fun a=>[(0,I64 (q:Nat)),(1,I64 w),(6,ptr 362 0),(8,a.2.1),(9,a.2.2.1),(11,I64 ((a.1+1:Nat):Int))])
  (fun a h' n2=>Tch [] tbH 625 h' n2∧n'<n2∧a.1≤q∧a.2.2.2.map (·.1)=wants w a.1∧Own 625 n2 h' a.2.1 eInsY 9 (q+1+a.2.2.2.length) ((wR q++goI (gV n')::ads a.2.2.2).flatMap xY)∧Own 625 n2 h' a.2.2.1 tI 1 (wants w a.1).length ((wants w a.1).map natV)∧Cel h' n' 0 0 [I64 0]∧ArgA n2 h' a.2.2.2) (fun a=>q - a.1) (0,v3,nlY,[]) ⟨t03,by omega,Nat.zero_le _,rfl,hoG,Own.nil,cG,fun p hp=>by cases hp⟩ ?_
 clear cG hoG t03
 rintro ⟨p,lv,wv,A⟩ t h2 n2 ⟨ht,hg,hp,hA,ho,hwo,cG,hAr⟩
 dsimp only at hp hA ho hwo hAr ⊢;have hn2:=ht.le;have o1:=ho.one;have o2:=hwo.one;have hAl:A.length≤p:=by have:=wants_len w p;rw [← hA,List.length_map]at this;exact this
 by_cases hlt:p<q
 · cases hwb:wB w (p+1) with
   | true =>
    have hd:anI (shI w (p+1))=1:=of_decide_eq_true hwb;repeat' first|refine ob (a:=.int .u64 ((p+1:Nat):Int)) ?_ (cvu (by omega))|refine ob (a:=I64 (shI w (p+1))) ?_ (bn_shrI (by omega))|refine ob (a:=I64 (anI (shI w (p+1)))) ?_ (bn_anI hw)|refine wk ?_|refine cX (fun _=>?_) fun _=>?_|fail
    refine appO (hwo.tch (S:=[]) zA (by simp)) (xX (e:=tI) (sz:=1) (len:=1) rfl (by decide)) (by omega) ⟨rfl,trivial⟩ (by have:=wants_len w p;omega) ?_
    rintro wv3 h4 n4 hwo3 t4
    have hn4:=t4.le;have o3:=hwo3.one;have t24:Tch (yL wv).toList h2 n2 h4 n4:=Tch.tch t4 zA fun x hx=>.inr hx;have ho4:=ho.tch t24 (own_ne ho hwo (.inl (by decide)));have cG4:=cG.tch t24 (by omega) (cel_own cG hwo);have hAr4:=hAr.own hwo t24;have t04:Tch [] tbH 625 h4 n4:=Tch.tch t24 ht fun x hx=>.inl (xN hwo x hx);clear t4 t24 ht ho cG hAr hwo;repeat' first|refine wk ?_|refine cX (fun _=>?_) fun _=>?_|fail
    refine appO (ho4.tch (S:=[]) zA (by simp)) (xX (e:=eInsY) (sz:=9) (len:=1) rfl (by decide)) (by omega) ⟨rfl,rfl,rfl,rfl,rfl,rfl,rfl,rfl,rfl,trivial⟩ (by omega) ?_
    rintro lv5 h5 n5 ho5 t5
    have hn5:=t5.le;have o5:=ho5.one;have t45:Tch (yL lv).toList h4 n4 h5 n5:=Tch.tch t5 zA fun x hx=>.inr hx
    have cB:Cel h5 n4 0 0 [I64 0,I64 ((p+1:Nat):Int)]:=Cel.tch zC t5 (by omega) (fun hx=>by
     rw[Option.mem_toList]at hx;have:=(ho4.blk hx).2;omega)
    have hwo5:=hwo3.tch t45 (own_ne hwo3 ho4 (.inl (by decide)));have cG5:=cG4.tch t45 (by omega) (cel_own cG4 ho4);have hAr5:=hAr4.own ho4 t45;have t05:Tch [] tbH 625 h5 n5:=Tch.tch t45 t04 fun x hx=>.inl (xN ho4 x hx);clear t5 t45 t04;repeat' first|refine wk ?_|refine cX (fun _=>?_) fun _=>?_|fail
    exact rnd ((p+1,lv5,wv3,A++[(p+1,.slice (some ⟨n4,0,none⟩) 2 2)])) ⟨t05,by omega,by omega,by rw[List.map_append,hA,wants_t hwb];rfl,by rw[List.length_append,ads_snoc,← all_snoc];exact ho5,by rw[wants_t hwb,List.length_append,List.map_append];exact hwo5,cG5,fun x hx=>by
     rcases List.mem_append.1 hx with hx|hx
     · exact hAr5 x hx
     · obtain rfl:=List.mem_singleton.1 hx;exact⟨n4,by omega,rfl,cB⟩⟩
   | false=>
    have hd:¬(anI (shI w (p+1))=1):=of_decide_eq_false hwb;repeat' first|refine ob (a:=.int .u64 ((p+1:Nat):Int)) ?_ (cvu (by omega))|refine ob (a:=I64 (shI w (p+1))) ?_ (bn_shrI (by omega))|refine ob (a:=I64 (anI (shI w (p+1)))) ?_ (bn_anI hw)|refine wk ?_|refine cX (fun _=>?_) fun _=>?_|fail
    exact rnd (p+1,lv,wv,A) ⟨ht,by omega,by omega,by rw[wants_f hwb];exact hA,ho,by rw[wants_f hwb];exact hwo,cG,hAr⟩
 obtain rfl:p=q:=by omega
 repeat' first|refine wk ?_|refine cX (fun _=>?_) fun _=>?_|fail
 refine appO (ho.tch (S:=[]) zA (by simp)) (xX (e:=eInsY) (sz:=9) (len:=1) rfl (by decide)) (by omega) ⟨rfl,rfl,rfl,rfl,rfl,rfl,rfl,rfl,rfl,trivial⟩ (by omega) ?_
 rintro lv5 h5 n5 ho5 t5
 have hn5:=t5.le;have o5:=ho5.one;have t45:Tch (yL lv).toList h2 n2 h5 n5:=Tch.tch t5 zA fun x hx=>.inr hx;have hwo5:=hwo.tch t45 (own_ne hwo ho (.inl (by decide)));have cG5:=cG.tch t45 (by omega) (cel_own cG ho);have hAr5:=hAr.own ho t45;have t05:Tch [] tbH 625 h5 n5:=Tch.tch t45 ht fun x hx=>.inl (xN ho x hx);have len:=all_len p (gV n') A
 have ho6:Own 625 n5 h5 lv5 eInsY 9 (allI p (gV n') A).length ((allI p (gV n') A).flatMap xY):=by
  rw[len];unfold allI;rw [← all_snoc];exact ho5
 have hA2:∀x∈A,1≤x.1∧x.1≤p:=fun x hx=>wants_mem (w:=w) (by rw[← hA];exact List.mem_map.2 ⟨x,hx,rfl⟩);have hM:=all_M (by omega) hA2 cG5 (by omega) hAr5;clear t5 t45 ht ho5 ho cG hAr hwo cG5 hAr5;repeat' first|refine wk ?_|refine cX (fun _=>?_) fun _=>?_|fail
 refine vM (one_ret (m:=p+1) (ho6.row (by decide)) (by omega) (Nat.le_refl _) hM (by omega)) ?_
 rintro _ h7 n7 ⟨vv,pv,bv,rfl,fm,t7⟩
 have hn7:=t7.le;have t07:Tch [] tbH 625 h7 n7:=Tch.tch t7 t05 (by simp);have hwo7:=hwo5.tch t7 (by simp);have v1:=(fm.vr 0).one;have v2:=(fm.pr 0).one;have v3':=(fm.bl 0).one;have G:=all_G (by omega) hA2 (by omega) fm;obtain⟨i0,hi0,hk0⟩:=G.i0;clear t7 t05;repeat' first|refine wk ?_|refine cX (fun _=>?_) fun _=>?_|fail
 refine vM (cross_ret (bt:=362) fm rfl hi0 hk0 (by omega) (all_S (by omega) hA2) (Nat.le_refl _) fun {h' n'} t=>takes_ret (tabL (Tch.tch t t07 (by simp))) (by have:=t.le;omega) t.le ⟨fm.tch t (Nat.le_refl _),G.hl,G.hfb,G.h0,G.hll,G.hr,G.nm,G.hv,G.hp,G.hv0,G.hg,G.i0,G.hrd⟩) ?_
 rintro v8 h8 n8 ⟨ws,sw,hc,o8,t8⟩
 have hn8:=t8.le;rw [bits_all hA hc]at o8;have r8:=o8.row (by decide);have r9:=(hwo7.tch t8 (by simp)).row (by decide);have w8:=r8.one;have w9:=r9.one;have sp:∀n,Pur P 0 14 [v8,wv] h8 n (.bool true):=fun n=>same_pur (n:=n) (a:=(wants w p).map fun k=>((k:Nat):Int)) (lo:=n8) (lo':=n8) (e:=tI) (e':=tI) (by rw[List.length_map,List.map_map];exact r8) (by rw[List.length_map,List.map_map];exact r9) (by rw[List.length_map];have:=wants_len w p;omega);repeat' first|refine wk ?_|refine cX (fun _=>?_) fun _=>?_|refine yG (sp _) ?_|fail
 rfl
end Go.Proofs.YtcmohelnoldfbaaGreat
