/- What the law leans on, part 13 of 22. Conditions: those that each theorem states. -/
import Derived.Test.YtmccnilgnlaffaaGreatDoorMachChecksx12
import Derived.Test.YtmccnilgnlaffaaGreatDoorMachChecksx11

set_option linter.unusedVariables false
set_option linter.unusedSimpArgs false
namespace Go.Ex
def Kep(lo n:Nat)(h:zB)(v:Value)(e sz len:Nat)(vs:List Value):Prop:=
 (v = .slice none 0 0∧len=0∧vs=[])∨∃b cap m,lo≤b∧b<n∧v = .slice (some ⟨b,0,none⟩) len cap∧yZ (zF h b)=some (m,zc e sz,1)∧vs.length=len*sz∧vs.length≤m∧(∀i,i<vs.length→zC h b i=vs[i]?)∧((cap<inf∧len≤cap)∨cap=inf)
theorem Kep.row{lo n:Nat}{h:zB}{v:Value}{e sz len:Nat}{vs:List Value}(o:Kep lo n h v e sz len vs)(hs:1≤sz):Row n h v e sz len vs:=by
 rcases o with o|⟨b,cap,m,q1,q2,rfl,q3,q4,q5,q6,q7⟩
 · exact .inl o
 · exact .inr ⟨b,0,cap,m,zc e sz,1,q2,rfl,q4,q3,by omega,λj x hj=>by rw[aG,q6 j (ab.1 hj).1];exact hj,q7.elim .inl λe=>.inr ⟨e,rfl,rfl,hs⟩⟩
theorem Kep.tch{S:List Nat}{lo n n':Nat}{h h':zB}{v:Value}{e sz len:Nat}{vs:List Value}(o:Kep lo n h v e sz len vs)(t:Tch S h n h' n')(hS:∀b,zP v=some b→b∉S):Kep lo n' h' v e sz len vs:=by
 rcases o with o|⟨b,cap,m,q1,q2,rfl,q3,q4,q5,q6,q7⟩
 · exact .inl o
 · have ek:=t.2 b q2 (hS b rfl);exact .inr ⟨b,cap,m,q1,aO q2 t.1,rfl,by rw[ek];exact q3,q4,q5,λi hi=>by unfold zC;rw [ek];exact q6 i hi,q7⟩
theorem Kep.one{lo n:Nat}{h:zB}{v:Value}{e sz len:Nat}{vs:List Value}(o:Kep lo n h v e sz len vs):v.oneCell'=true:=by
 rcases o with⟨rfl,_⟩|⟨b,cap,m,q1,q2,rfl,_⟩ <;> rfl
theorem Kep.blk{lo n:Nat}{h:zB}{v:Value}{e sz len:Nat}{vs:List Value}(o:Kep lo n h v e sz len vs){b:Nat}(hb:zP v=some b):lo≤b∧b<n:=by
 rcases o with⟨rfl,_⟩|⟨b',cap,m,q1,q2,rfl,_⟩
 · cases hb
 · injection hb with hb;subst hb;exact⟨q1,q2⟩
theorem Kep.dnl{lo lo' n:Nat}{h:zB}{v:Value}{e sz len:Nat}{vs:List Value}(o:Kep lo n h v e sz len vs)(hl:lo'≤lo):Kep lo' n h v e sz len vs:=by
 rcases o with o|⟨b,cap,m,q1,q2⟩
 · exact .inl o
 · exact .inr ⟨b,cap,m,aZ hl q1,q2⟩
theorem own_head{lo n:Nat}{h:zB}{v:Value}{e sz len:Nat}{vs:List Value}(o:Own lo n h v e sz len vs)(h0:0<len):∃b,v = .slice (some ⟨b,0,none⟩) len inf∧lo≤b∧b<n:=by
 rcases o with⟨_,rfl,_⟩|⟨b,q1,q2,rfl,_⟩
 · omega
 · exact⟨b,rfl,q1,q2⟩
theorem own_put{lo n i b cap:Nat}{h:zB}{v x:Value}{e sz len:Nat}{vs:List Value}(o:Own lo n h v e sz len vs)(hv:v = .slice (some ⟨b,0,none⟩) len cap)(hi:i<vs.length):Own lo n (hst h b i [x]) v e sz len (vs.set i x):=by
 rcases o with⟨rfl,_⟩|⟨b2,q1,q2,rfl,q3,q4,q5,q6⟩
 · cases hv
 injection hv with hv _ _
 injection hv with hv
 injection hv with hv _
 subst hv;refine .inr ⟨b2,q1,q2,rfl,by rw[xL,if_pos rfl,rV,aW];exact q3,by rw[aW];exact q4,q5,λj=>?_⟩;unfold zC;rw [xL,if_pos rfl,cellOf_stC _ _ _ q3 (by simp;omega) (by decide)];by_cases e:i=j
 · subst e;rw [if_pos (by simp),bA,bQ hi];rfl
 · rw[if_neg (by simp;omega),bp e];exact q6 j
theorem stp_own{lo n i b cap:Nat}{h:zB}{v x:Value}{e sz len:Nat}{vs:List Value}(o:Own lo n h v e sz len vs)(hv:v = .slice (some ⟨b,0,none⟩) len cap)(hi:i<vs.length)(hx:x.oneCell'=true):StP h (ptr b i) [x] (hst h b i [x]):=by
 rcases o with⟨rfl,_⟩|⟨b2,q1,q2,rfl,q3,q4,q5,q6⟩
 · cases hv
 injection hv with hv _ _
 injection hv with hv
 injection hv with hv _
 subst hv;exact⟨b2,i,vs.length,zc e sz,1,rfl,q3,⟨by decide,by decide⟩,by simp;omega,λy hy=>by simp at hy;subst hy;exact hx,rfl⟩
namespace M
def uB(ws:List Nat)(k:Nat):Bool:=((ws[k / 64]?).getD 0).testBit (k % 64)
structure SetW (ws:List Nat):Prop where
 lt:∀w∈ws,w<18446744073709551616
 tr:∀w,ws.getLast? = some w→w≠0
 le:ws.length≤1024
def sR(ws:List Nat):Nat→Nat
 | 0=>0
 | k+1=>if ws[k]? = some 0 then sR ws k else k+1
theorem trimN_le(ws:List Nat):∀k,sR ws k≤k:=by
 intro k
 induction k with
 | zero=>exact ae _
 | succ k ih=>
  unfold sR;split
  · omega
  · exact ae _
theorem trimN_zero(ws:List Nat):∀k j,sR ws k≤j→j<k→ws[j]? = some 0:=by
 intro k
 induction k with
 | zero=>intro j h1 h2;omega
 | succ k ih=>
  intro j h1 h2;unfold sR at h1;split at h1
  · rename_i h0;rcases ai.1 h2 with h9|rfl
    · exact ih j h1 h9
    · exact h0
  · omega
theorem trimN_last(ws:List Nat):∀k,0<sR ws k→ws[sR ws k - 1]?≠some 0:=by
 intro k
 induction k with
 | zero=>intro h;exact absurd h (dK 0)
 | succ k ih=>
  unfold sR;split
  · exact ih
  · rename_i h0;intro _;exact h0
theorem trim_has(ws:List Nat)(k:Nat):uB (ws.take (sR ws ws.length)) k=uB ws k:=by
 unfold uB;rw [List.getElem?_take];split
 · rfl
 · rename_i h;rcases aw (k / 64) ws.length with h9|h9
   · rw[trimN_zero ws ws.length (k / 64) (by omega) h9];simp
   · rw[an h9]
theorem trim_set{ws:List Nat}(h:∀w∈ws,w<18446744073709551616)(hl:ws.length≤1024):SetW (ws.take (sR ws ws.length)):=by
 have hle:=trimN_le ws ws.length;refine⟨λw hw=>h w (List.mem_of_mem_take hw),λw hw=>?_,by rw[aF];omega⟩
 rintro rfl
 rw[List.getLast?_eq_getElem?,aF,bR hle]at hw;have h1:=(ab.1 hw).1;rw [aF]at h1;rw [aI (by omega)]at hw;exact trimN_last ws ws.length (by omega) hw
theorem has_put{ws:List Nat}{a k:Nat}(ha:a / 64<ws.length):uB (ws.set (a / 64) (((ws[a / 64]?).getD 0) ||| 2 ^ (a % 64))) k=(uB ws k || decide (k=a)):=by
 unfold uB;rw [cU];split
 · rename_i e;rw [← e];show(((ws[a / 64]?).getD 0) ||| 2 ^ (a % 64)).testBit (k % 64)=_;rw [Nat.testBit_or,Nat.testBit_two_pow];congr 1
   refine decide_eq_decide.2 ⟨λh=>?_,λh=>by rw[h]⟩;have:=Nat.div_add_mod a 64;have:=Nat.div_add_mod k 64;omega
 · rename_i e;have:¬k=a:=λh=>e (by rw[h]);rw [decide_eq_false this,dU]
theorem has_grow{ws:List Nat}{k:Nat}:uB (ws++[0]) k=uB ws k:=by
 unfold uB;rcases bS (k / 64) ws.length with h|h|h
 · rw[ax h]
 · rw[au (by omega),h,bA,an (ae _)];simp
 · rw[an (by simp;omega),an (by omega)]
theorem or_lt{a m:Nat}(ha:a<18446744073709551616)(hm:m<64):a ||| 2 ^ m<18446744073709551616:=by
 have h1:a<2 ^ 64:=ha;have h2:2 ^ m<2 ^ 64:=dO (by decide) hm;exact Nat.or_lt_two_pow h1 h2
def subW(a b:List Nat):List Nat:=(List.range (max a.length b.length)).map λi=>(a[i]?).getD 0 ^^^ ((a[i]?).getD 0 &&& (b[i]?).getD 0)
theorem sub_has(a b:List Nat)(k:Nat):uB (subW a b) k=(uB a k && !uB b k):=by
 unfold uB subW;rw [ap];rcases aw (k / 64) (max a.length b.length) with h|h
 · rw[dk h];show((a[k / 64]?).getD 0 ^^^ ((a[k / 64]?).getD 0 &&& (b[k / 64]?).getD 0)).testBit (k % 64)=_;rw [Nat.testBit_xor,cH];cases ((a[k / 64]?).getD 0).testBit (k % 64) <;> cases ((b[k / 64]?).getD 0).testBit (k % 64) <;> rfl
 · rw[an (by simpa using h),an (l:=a) (by omega)];simp
theorem getD_lt{a:List Nat}(ha:∀w∈a,w<18446744073709551616)(i:Nat):(a[i]?).getD 0<18446744073709551616:=by
 cases e:a[i]? with
 | none=>exact(by decide:0<18446744073709551616)
 | some w=>exact ha w (ah e)
theorem andn_lt{x y:Nat}(hx:x<18446744073709551616):x ^^^ (x &&& y)<18446744073709551616:=by
 have h1:x<2 ^ 64:=hx;exact Nat.xor_lt_two_pow h1 (cz dQ h1)
theorem bit_has{w m:Nat}:(((w >>> m) &&& 1:Nat):Int)≠0↔w.testBit m=true:=by
 have e:w.testBit m=((w >>> m &&& 1) != 0):=by unfold Nat.testBit;rw [Nat.and_comm]
 rw[e];generalize (w >>> m &&& 1)=x
 rw[bne_iff_ne];omega
end M
end Go.Ex
namespace Go.Ex.M
section
def Sml:Nat→List RegT→Prop
 | 0,l=>l=[]
 | k+1,l=>l.length≤200∧∀r∈l,Sml k r.subs
theorem sml_of:∀(k:Nat) (d:Int) (base:Pl) (l:List RegT) (s s':GSt),d+k=7→yO (k+1) d base l s = .ok s'→s'.ns.length≤200→Sml k l:=by
 intro k
 induction k with
 | zero =>
  intro d base l s s' hd h _
  cases l with
  | nil=>rfl
  | cons r l=>
   unfold yO at h;rw [bU,gStep_e1 (gOne4 (by omega)),wE]at h;cases h
 | succ k ih =>
  intro d base l s s' hd h hle
  have go:∀(l:List RegT) (sibs:List Pl) (s:GSt) (x:List Pl×GSt),l.foldl (uY (yO (k+1) (d+1)) d base) (.ok (sibs,s)) = .ok x→s.ns.length+l.length≤x.2.ns.length∧∀r∈l,∃p s1 s2,yO (k+1) (d+1) p r.subs s1 = .ok s2∧s2.ns.length≤x.2.ns.length:=by
   intro l
   induction l with
   | nil=>
    intro sibs s x h;injection h with h
    exact h ▸ ⟨ae _,λr hr=>by cases hr⟩
   | cons r l ihl =>
    intro sibs s x h;rw [bU]at h
    cases hg:sQ d base sibs s r with
    | error e=>rw [gStep_e1 hg,wE]at h;cases h
    | ok p =>
     cases hr:yO (k+1) (d+1) p r.subs ⟨s.ns++[r.name],s.ps++[p]⟩ with
     | error e=>rw [gStep_e2 hg hr,wE]at h;cases h
     | ok s2=>
      rw[gStep_ok hg hr]at h;have h1:(s.ns++[r.name]).length≤s2.ns.length:=gDown_ge _ _ _ _ _ _ hr;obtain⟨h2,h3⟩:=ihl _ _ _ h;rw [ak]at h1;simp only[a7,dt]at h1 ⊢;refine⟨by omega,λr' hr'=>?_⟩;rcases aA.1 hr' with rfl|hr'
      · exact⟨p,_,s2,hr,by omega⟩
      · exact h3 r' hr'
  unfold yO at h
  cases hf:l.foldl (uY (yO (k+1) (d+1)) d base) (.ok ([],s)) with
  | error e=>rw [hf]at h;cases h
  | ok x=>
   rw[hf]at h;injection h with h
   subst h;obtain⟨h1,h2⟩:=go l [] s x hf;refine⟨by omega,λr hr=>?_⟩;obtain⟨p,s1,s2,h3,h4⟩:=h2 r hr;exact ih (d+1) p r.subs s1 s2 (by omega) h3 (by omega)
theorem geo_sml{l:List RegT}{s:GSt}(h:geoP l = .ok s):Sml 6 l:=sml_of 6 1 _ _ _ _ rfl h (geo_ok h).le
theorem flat_set{α : Type}{f: α→List Value}{sz:Nat}(hf:∀x,(f x).length=sz){v:Value}{x y: α}{j:Nat}(hj:j<sz)(hy:f y=(f x).set j v):∀{l:List α} {i:Nat},l[i]? = some x→(l.flatMap f).set (i*sz+j) v=(l.set i y).flatMap f:=by
 intro l
 induction l with
 | nil=>intro i h;cases h
 | cons a l ih =>
  intro i h
  cases i with
  | zero=>
   cases h
   rw[bu,List.set_cons_zero,bu,List.set_append_left _ _ (by rw[hf];omega),hy,bB,aG]
  | succ i=>
   have h:l[i]? = some x:=h;rw [bu,List.set_cons_succ,bu,dH _ _ (by rw[hf,cd];omega),hf,← ih h];congr 2
   rw[cd];omega
end
section
theorem nodup_at{l:List Tx}{i j:Nat}{x:Tx}(hn:l.Nodup)(hi:l[i]? = some x)(hj:l[j]? = some x):i=j:=by
 have h1:=(ab.1 hi).1;exact(List.getElem?_inj h1 hn).1 (hi.trans hj.symm)
def numL(l:List Tx):List (Tx×Value):=l.zipIdx.map λp=>(p.1,I64 (p.2:Nat))
theorem numL_snoc{l:List Tx}{i:Nat}{x:Tx}(h:l[i]? = some x):numL (l.take (i+1))=numL (l.take i)++[(x,I64 (i:Nat))]:=by
 have hl:i<l.length:=(ab.1 h).1;unfold numL;rw [dA,h];rw [List.zipIdx_append,aK,aF,bR (by omega)];simp
theorem numL_key{l:List Tx}{p:Tx×Value}(h:p∈numL l):p.1∈l:=by
 unfold numL at h;obtain⟨q,hq,rfl⟩:=ao.1 h;obtain⟨a,b⟩:=q;have:=List.mem_zipIdx hq;obtain⟨_,_,e⟩:=this;show a∈l;rw [e];exact aR _
theorem qB{l:List Tx}{i:Nat}{x:Tx}(h:l[i]? = some x)(hn:l.Nodup):∃A B,numL l=A++(x,I64 (i:Nat))::B∧∀p∈A,p.1≠x:=by
 have hl:i<l.length:=(ab.1 h).1;have e:l=l.take (i+1)++l.drop (i+1):=(dE _ _).symm;refine⟨numL (l.take i),(l.drop (i+1)).zipIdx (i+1) |>.map λp=>(p.1,I64 (p.2:Nat)),?_,λp hp hx=>?_⟩
 · have h1:=numL_snoc h
   have h2:numL l=numL (l.take (i+1))++((l.drop (i+1)).zipIdx (i+1)).map λp=>(p.1,I64 (p.2:Nat)):=by
    conv=>lhs;rw [e]
    unfold numL;rw [List.zipIdx_append,aK,aF,bR (by omega)];simp
   rw[h2,h1,aN];rfl
 · have h3:=numL_key hp;rw [hx]at h3;obtain⟨j,hj⟩:=aj.1 h3;have ji:j<i:=by have:=(ab.1 hj).1;rw [aF]at this;omega
   rw[aI ji]at hj;have:=nodup_at hn hj h;omega
theorem take_map{α β : Type}{f: α→β}{l:List α}{i:Nat}{x: α}(h:l[i]? = some x):(l.take (i+1)).map f=(l.take i).map f++[f x]:=by
 rw[dA,h];simp
theorem idx_at{l:List Tx}{x:Tx}(h:x∈l):l[l.idxOf x]? = some x:=by
 have h1:=ba.2 h;rw [aa h1,dw h1]
end
section
theorem pre_pos:∀(k:Nat) (d:Int) (l:List RegT) (e:RegT×Int),e∈preL k d l→d≤e.2∧e.2<d+k:=by
 intro k
 induction k with
 | zero=>intro d l e he;cases he
 | succ k ih=>
  intro d l e he;obtain⟨r,_,he⟩:=bF.1 he;rcases aA.1 he with rfl|he
  · exact⟨Int.le_refl _,by show d<d+((k+1:Nat):Int);omega⟩
  · have:=ih _ _ _ he;omega
def wOf(wm:List (Pl×Value×List Pl)):List (Pl×List Pl):=wm.map λx=>(x.1,x.2.2)
theorem wOf_at{wm:List (Pl×Value×List Pl)}{i:Nat}{y:Pl×List Pl}(h:(wOf wm)[i]? = some y):∃v,wm[i]? = some (y.1,v,y.2):=by
 unfold wOf at h;rw [ap]at h
 cases e:wm[i]? with
 | none=>rw [e]at h;cases h
 | some x=>rw [e]at h;cases h;exact⟨x.2.1,rfl⟩
theorem wOf_step{wm:List (Pl×Value×List Pl)}{dn:Nat}{top:Pl×Value×List Pl}{v' nv:Value}{p:Pl}(h:wm[dn]? = some top):wOf ((wm.take (dn+1)).set dn (top.1,v',top.2.2++[p])++[(p,nv,[])])=(wOf wm).take dn++[(top.1,top.2.2++[p]),(p,[])]:=by
 have hl:=(ab.1 h).1
 have e1:(wm.take (dn+1)).set dn (top.1,v',top.2.2++[p])=wm.take dn++[(top.1,v',top.2.2++[p])]:=by
  rw[xS h,dH _ _ (by rw[aF];omega),aF,bR (by omega),bA];rfl
 unfold wOf;rw [e1,aK,aK,← List.map_take];simp
structure WInv (w:WSt) (wm:List (Pl×Value×List Pl)) (roots:Int):Prop where
 ways:w.ways=wOf wm
 len:wm.length≤8
 rts:∀top,wm[0]? = some top→roots=(top.2.2.length:Nat)
 el:∀(i:Nat) x,wm[i]? = some x→(0<i→PlG x.1)∧(∀q∈x.2.2,PlG q)∧x.2.2.length≤w.ns.length
 ok:GOK ⟨w.ns,w.ps⟩
theorem WInv.init{v:Value}:WInv ⟨[],[],[(⟨0,0,0⟩,[])]⟩ [(⟨0,0,0⟩,v,[])] 0:=⟨rfl,by simp,λtop h=>by cases h;rfl,λi x h=>(by
 cases i with
 | zero=>cases h;exact⟨λh=>absurd h (dK 0),λq hq=>(by cases hq),ae _⟩
 | succ i=>cases h),⟨List.nodup_nil,rfl,am _,λp hp=>(by cases hp),λx hx=>(by cases hx)⟩⟩
theorem WInv.step{w:WSt}{wm:List (Pl×Value×List Pl)}{roots:Int}(g:WInv w wm roots){x:RegT}{dn:Nat}{top:Pl×Value×List Pl}{p:Pl}{v' nv:Value}(hd:dn≤6)(ht:wm[dn]? = some top)(h:sQ ((dn+1:Nat):Int) top.1 top.2.2 ⟨w.ns,w.ps⟩ x = .ok p) :
 wStep (.ok w) (x,((dn+1:Nat):Int)) = .ok ⟨w.ns++[x.name],w.ps++[p],(wOf wm).take dn++[(top.1,top.2.2++[p]),(p,[])]⟩∧WInv ⟨w.ns++[x.name],w.ps++[p],(wOf wm).take dn++[(top.1,top.2.2++[p]),(p,[])]⟩ ((wm.take (dn+1)).set dn (top.1,v',top.2.2++[p])++[(p,nv,[])]) (if dn=0 then roots+1 else roots):=by
 have hl:=(ab.1 ht).1
 have e1:(wm.take (dn+1)).set dn (top.1,v',top.2.2++[p])=wm.take dn++[(top.1,v',top.2.2++[p])]:=by
  rw[xS ht,dH _ _ (by rw[aF];omega),aF,bR (by omega),bA];rfl
 obtain⟨g1,g2,g3⟩:=g.el dn top ht
 obtain⟨h1,h2,h3⟩:=gOne_ok h g.ok (by
  rcases bz dn with h9|h9
  · exact .inl (by omega)
  · exact .inr (g1 h9))
 refine⟨?_,(wOf_step ht).symm,?_,λt e=>?_,λi y e=>?_,h3⟩
 · unfold wStep;have e2:(((dn+1:Nat):Int) - 1).toNat=dn:=by omega
   dsimp only;rw [e2,g.ways,show(wOf wm)[dn]? = some (top.1,top.2.2) by unfold wOf;rw [ap,ht];rfl];dsimp only;rw [h]
 · rw[e1];simp;omega
 · rw[e1]at e;rcases bz dn with h9|h9
   · subst h9;cases e
     rw[if_pos rfl,g.rts top ht];simp
   · rw[if_neg (by omega)];rw [aN,ax (by rw[aF];omega),aI h9]at e;exact g.rts t e
 · rw[e1,aN]at e;have gT:(w.ns++[x.name]).length=w.ns.length+1:=by simp
   show(0<i→PlG y.1)∧(∀q∈y.2.2,PlG q)∧y.2.2.length≤(w.ns++[x.name]).length;rw [gT];rcases bS i dn with h9|h9|h9
   · rw[ax (by rw[aF];omega),aI h9]at e;obtain⟨k1,k2,k3⟩:=g.el i y e;exact⟨k1,k2,by omega⟩
   · subst h9;rw [au (by rw[aF];omega),aF,bR (by omega),bA]at e;cases e
     refine⟨g1,λq hq=>?_,by show(top.2.2++[p]).length≤_;simp;omega⟩;rcases az.1 hq with hq|hq
     · exact g2 q hq
     · simp at hq;subst hq;exact h2
   · rw[au (by rw[aF];omega),aF,bR (by omega)]at e;rcases(show i - dn=1∨2≤i - dn by omega) with h8|h8
     · rw[h8]at e;cases e
       exact⟨λ_=>h2,λq hq=>(by cases hq),am _⟩
     · rw[an (by simp;omega)]at e;cases e
theorem WInv.bad{w:WSt}{wm:List (Pl×Value×List Pl)}{roots:Int}(g:WInv w wm roots){x:RegT}{dn:Nat}{top:Pl×Value×List Pl}{e:Int}(ht:wm[dn]? = some top)(h:sQ ((dn+1:Nat):Int) top.1 top.2.2 ⟨w.ns,w.ps⟩ x = .error e):wStep (.ok w) (x,((dn+1:Nat):Int)) = .error e:=by
 unfold wStep;have e2:(((dn+1:Nat):Int) - 1).toNat=dn:=by omega
 dsimp only;rw [e2,g.ways,show(wOf wm)[dn]? = some (top.1,top.2.2) by unfold wOf;rw [ap,ht];rfl];dsimp only;rw [h]
theorem geo_bad{l:List RegT}{done:List (RegT×Int)}{x:Int}(hp:done <+: preL 7 1 l)(h:done.foldl wStep (.ok ⟨[],[],[(⟨0,0,0⟩,[])]⟩) = .error x):geoP l = .error x:=by
 obtain⟨t,ht⟩:=hp;have e:(preL 7 1 l).foldl wStep (.ok ⟨[],[],[(⟨0,0,0⟩,[])]⟩) = .error x:=by rw[← ht,bT,h,wStep_err]
 rcases geo_walk l with⟨y,h1,h2⟩|⟨s,ways,h1,_⟩
 · rw[h1]at e;cases e;exact h2
 · rw[h1]at e;cases e
theorem geo_top{l:List RegT}{done:List (RegT×Int)}{w:WSt}{x:RegT}{dn:Nat}(hp:(done++[(x,((dn+1:Nat):Int))]) <+: preL 7 1 l)(h:done.foldl wStep (.ok ⟨[],[],[(⟨0,0,0⟩,[])]⟩) = .ok w):∃top,w.ways[dn]? = some top:=by
 cases e:w.ways[dn]? with
 | some top=>exact⟨top,rfl⟩
 | none =>
  exfalso
  have e2:(((dn+1:Nat):Int) - 1).toNat=dn:=by omega
  have:=geo_bad (x:=0) hp (by
   rw[bT,h];show wStep (.ok w) (x,((dn+1:Nat):Int))=_;unfold wStep;dsimp only;rw [e2,e])
  exact geo_err this rfl
end
end Go.Ex.M
namespace Go.Ex
section
def Kx(e:Nat)(h:zB)(n:Nat)(h':zB)(n':Nat):Prop:=n≤n'∧∀b m z,b<n→z≠zc e 1→yZ (zF h b)=some (m,z,1)→zF h' b=zF h b
section
variable {e e' sz lo lo' n n' n2 len:Nat} {h h' h2:zB} {v v':Value} {vs cs:List Value}
theorem Tch.kx(t:Tch [] h n h' n'):Kx e h n h' n':=⟨t.1,λb _ _ hb _ _=>t.2 b hb (by simp)⟩
theorem kx_own(o:Own lo n h v e 1 len vs)(t:Tch (zP v).toList h n h' n'):Kx e h n h' n':=⟨t.1,λb m z hb hz hi=>t.2 b hb λhx=>by
 rcases o with⟨rfl,_⟩|⟨b2,q1,q2,rfl,p3,_⟩
 · cases hx
 · have hx:b∈(some b2).toList:=hx;simp at hx;subst hx;rw [p3]at hi;injection hi with hi
   injection hi with _ hi
   injection hi with hi _
   exact hz hi.symm⟩
theorem kx_cel{bt z:Nat}(c:Cel h bt z 0 cs)(t:Tch [bt] h n h' n'):Kx e h n h' n':=⟨t.1,λb m z' hb hz hi=>t.2 b hb λhx=>by
 simp at hx;subst hx;rw [c.1]at hi;exact absurd (kd_of hi) (by decide)⟩
theorem Kx.trans(k:Kx e h n h' n')(k2:Kx e h' n' h2 n2):Kx e h n h2 n2:=⟨aZ k.1 k2.1,λb m z hb hz hi=>by
 have e1:=k.2 b m z hb hz hi;rw [k2.2 b m z (aO hb k.1) hz (by rw[e1];exact hi),e1]⟩
theorem Own.kx(o:Own lo n h v e' sz len vs)(k:Kx e h n h' n')(eh:e'≠e∨sz≠1):Own lo n' h' v e' sz len vs:=by
 rcases o with o|⟨b2,q1,q2,rfl,p3,p4,p5,p6⟩
 · exact .inl o
 · have ek:=k.2 b2 _ _ q2 (λhz=>by have:=zc_inj hz;omega) p3;exact .inr ⟨b2,q1,aO q2 k.1,rfl,by rw[ek];exact p3,p4,p5,λi=>by unfold zC;rw [ek];exact p6 i⟩
theorem Kep.kx(o:Kep lo n h v e' sz len vs)(k:Kx e h n h' n')(eh:e'≠e∨sz≠1):Kep lo n' h' v e' sz len vs:=by
 rcases o with o|⟨b2,cap,m,q1,q2,rfl,p3,p4,p5,p6,p7⟩
 · exact .inl o
 · have ek:=k.2 b2 _ _ q2 (λhz=>by have:=zc_inj hz;omega) p3;exact .inr ⟨b2,cap,m,q1,aO q2 k.1,rfl,by rw[ek];exact p3,p4,p5,λi hi=>by unfold zC;rw [ek];exact p6 i hi,p7⟩
end
def Lst{α : Type}(e:Nat)(val: α→Value)(El:Nat→Nat→zB→α→Prop)(lo n:Nat)(h:zB)(v:Value)(L:List α):Prop:=Own lo n h v e 1 L.length (L.map val)∧∀x∈L,El lo n h x
section
variable {α : Type} {e e2 lo lo' n n':Nat} {val: α→Value} {El:Nat→Nat→zB→α→Prop} {h h':zB} {v v':Value} {L:List α} {x: α}
theorem Lst.nil:Lst e val El lo n h (.slice none 0 0) []:=⟨Own.nil,λx hx=>by cases hx⟩
theorem Lst.kx(o:Lst e val El lo n h v L)(k:Kx e2 h n h' n')(eh:e≠e2)(hEl:∀x,El lo n h x→El lo n' h' x):Lst e val El lo n' h' v L:=⟨o.1.kx k (.inl eh),λx hx=>hEl x (o.2 x hx)⟩
theorem Lst.cel{bt z:Nat}{cs:List Value}(o:Lst e val El lo n h v L)(c:Cel h bt z 0 cs)(t:Tch [bt] h n h' n')(hEl:∀x,El lo n h x→El lo n' h' x):Lst e val El lo n' h' v L:=⟨o.1.tch t (λb hb hx=>by simp at hx;subst hx;exact yE c o.1 (by rw[hb];simp)),λx hx=>hEl x (o.2 x hx)⟩
theorem Lst.app(o:Lst e val El lo n h v L)(o':Own n n' h' v' e 1 (L.length+1) (L.map val++[val x]))(hn:lo≤n)(hEl:∀y,El lo n h y→El lo n' h' y)(hx:El lo n' h' x):Lst e val El lo n' h' v' (L++[x]):=⟨by rw[ak,aK];exact o'.dnl hn,λy hy=>by
 rcases az.1 hy with h9|h9
 · exact hEl y (o.2 y h9)
 · simp at h9;subst h9;exact hx⟩
end
end
end Go.Ex
namespace Go.Proofs.YtmccnilgnlaffaaGreatDoor
open Go Go.Ex Go.Ex.M
set_option maxRecDepth 100000
set_option maxHeartbeats 8000000
section
theorem lap_pur(a b:Pl)(ha:PlOK a)(hb:PlOK b)(h:zB)(n:Nat):Pur P 8 87 [plV a,plV b] h n (.bool (sP a b)):=by
 obtain⟨ha1,ha2⟩:=ha;obtain⟨fw,hb2⟩:=hb;refine Com.pure (ent λu=>?_) (.inl rfl);repeat' first|refine wk ?_|refine cX (λ_=>?_) λ_=>?_|fail
 all_goals refine lap_fin ?_ zA
 all_goals unfold lapP
 · exact⟨Bool.noConfusion,by omega⟩
 · exact⟨Bool.noConfusion,by omega⟩
 · exact⟨Bool.noConfusion,by omega⟩
 · rw[decide_eq_true_iff,lap_u fw ha1 hb2 (by omega) (by omega)];split <;> omega
 · rw[decide_eq_true_iff,lap_u ha1 fw ha2 (by omega) (by omega)];split <;> omega
theorem within_pur(a b:Pl)(ha:PlOK a)(hb:PlOK b)(h:zB)(n:Nat):Pur P 8 90 [plV a,plV b] h n (.bool (withinB a b)):=by
 obtain⟨ha1,ha2⟩:=ha;obtain⟨fw,hb2⟩:=hb;refine Com.pure (ent λu=>?_) (.inl rfl);repeat' first|refine wk ?_|refine cX (λ_=>?_) λ_=>?_|fail
 all_goals refine within_fin ?_ zA
 all_goals unfold withinP
 · exact⟨Bool.noConfusion,by omega⟩
 · exact⟨λ_=>by omega,λ_=>rfl⟩
 · exact⟨Bool.noConfusion,by omega⟩
 · exact⟨Bool.noConfusion,by omega⟩
 · rename_i h5;rw [le_u fw ha1 hb2 (by omega) (by omega)]at h5;rw [decide_eq_true_iff,within_u fw ha1 hb2 ha2 (by omega) (by omega) (by omega) h5];omega
 · rename_i h5;rw [le_u fw ha1 hb2 (by omega) (by omega)]at h5;exact⟨Bool.noConfusion,by omega⟩
end
section
theorem qC{lo e n:Nat}{h:zB}{sv:Value}{ss:List Tx}{x:Tx}(r:Row lo h sv e 1 ss.length (ss.map str))(hl:ss.length<4611686018427387904):Pur P 8 130 [sv,str x] h n (I64 (pos ss x)):=by
 refine ent λu=>?_;repeat' first|refine wk ?_|refine cX (λ_=>?_) λ_=>?_|fail
 refine lpR (λk:Nat=>[(0,sv),(1,str x),(6,sv),(7,I64 ss.length),(8,I64 k)]) (λk h' n'=>h'=h∧n'=n∧k≤ss.length∧∀j,j<k→ss[j]?≠some x) (λk=>ss.length - k) 0 ⟨rfl,rfl,am _,λj hj=>by omega⟩ ?_
 rintro k t h' n' ⟨rfl,rfl,hk,dY⟩
 by_cases dV:k<ss.length
 · have c1:zC h' (sbk sv) (sof sv+k*1)=some (str ss[k]):=by rw[aP];exact r.at (str_at dV)
   repeat' first|refine wk ?_|refine cX (λ_=>?_) λ_=>?_|fail
   · rename_i e1;exact⟨by rw[pos_hit (by rw[aa dV,e1]) dY],rfl,rfl⟩
   · rename_i e1
     exact⟨k+1,by dsimp only;omega,⟨rfl,rfl,rfl,rfl,rfl,trivial⟩,rfl,rfl,by omega,λj hj e2=>by
      rcases ai.1 hj with h9|rfl
      · exact dY j h9 e2
      · rw[aa dV]at e2;exact e1 (Option.some.inj e2).symm⟩
 · obtain rfl:k=ss.length:=by omega
   repeat' first|refine wk ?_|refine cX (λ_=>?_) λ_=>?_|fail
   exact⟨by rw[pos_no dY],rfl,rfl⟩
end
section
instance (c:Nat) (h:zB) (n:Nat):PurC P 8 56 [.int .u8 c] h n (.bool (letB c)):=⟨by
 refine ent λu=>?_;repeat' first|refine wk ?_|refine cX (λ_=>?_) λ_=>?_|fail
 all_goals (first|unfold letB|unfold digB|skip);all_goals (refine finB ?_;first|exact⟨λ_=>by omega,λ_=>rfl⟩|exact⟨λh=>Bool.noConfusion h,λh=>by omega⟩|(rw [decide_eq_true_iff];omega))⟩
instance (c:Nat) (h:zB) (n:Nat):PurC P 8 57 [.int .u8 c] h n (.bool (digB c)):=⟨by
 refine ent λu=>?_;repeat' first|refine wk ?_|refine cX (λ_=>?_) λ_=>?_|fail
 all_goals (first|unfold letB|unfold digB|skip);all_goals (refine finB ?_;first|exact⟨λ_=>by omega,λ_=>rfl⟩|exact⟨λh=>Bool.noConfusion h,λh=>by omega⟩|(rw [decide_eq_true_iff];omega))⟩
instance named_c (s:Tx) (h:zB) (n:Nat):PurC P 8 22 [str s] h n (.bool (nameB s)):=⟨by
 refine ent λu=>?_
 cases s with
 | nil=>
  repeat' first|refine wk ?_|refine cX (λ_=>?_) λ_=>?_|fail
  exact fin rfl
 | cons c r=>
  have c0:(c::r)[0]? = some c:=rfl;have hn:nameB (c::r)=(decide ((c::r).length≤20) && letB c.toNat && tailB (c::r)):=rfl;repeat' first|refine wk ?_|refine cX (λ_=>?_) λ_=>?_|fail
  · rename_i h2;exact fin (by rw[hn,decide_eq_false (by omega)];rfl)
  · rename_i h2;exact fin (by rw[hn,h2];simp)
  · rename_i h2 h3;replace hn:nameB (c::r)=tailB (c::r):=by rw[hn,decide_eq_true (by omega),h3];rfl
    generalize c::r=s at *
    refine lpR (λk:Nat=>[(0,str s),(18,I64 s.length),(19,I64 k)]) (λk h' n'=>h'=h∧n'=n∧k≤s.length∧∀j (hj:j<s.length),j<k→letB s[j].toNat=true∨digB s[j].toNat=true) (λk=>s.length - k) 0 ⟨rfl,rfl,am _,λj _ hj=>by omega⟩ ?_
    rintro k t h' n' ⟨rfl,rfl,hk,dY⟩
    by_cases dV:k<s.length
    · have c1:s[k]? = some s[k]:=aa dV
      have go:letB s[k].toNat=true∨digB s[k].toNat=true→∀j (hj:j<s.length),j<k+1→letB s[j].toNat=true∨digB s[j].toNat=true:=λhx j hj dV=>by
       rcases ai.1 dV with h9|rfl
       · exact dY j hj h9
       · exact hx
      repeat' first|refine wk ?_|refine cX (λ_=>?_) λ_=>?_|fail
      · rename_i h7 h8;refine fin ?_;rw [hn]
        cases h9:tailB s with
        | false=>rfl
        | true=>rcases tail_step dV h9 with e|e <;> simp_all
      · rename_i h7 h8;exact⟨k+1,by dsimp only;omega,⟨rfl,rfl,rfl,trivial⟩,rfl,rfl,by omega,go (.inr h8)⟩
      · rename_i h7;exact⟨k+1,by dsimp only;omega,⟨rfl,rfl,rfl,trivial⟩,rfl,rfl,by omega,go (.inl h7)⟩
    · obtain rfl:k=s.length:=by omega
      repeat' first|refine wk ?_|refine cX (λ_=>?_) λ_=>?_|fail
      exact fin (by rw[hn,tail_all λj hj=>dY j hj hj])⟩
theorem rE{lo e n:Nat}{h:zB}{sv:Value}{ss:List Tx}{x:Tx}(r:Row lo h sv e 1 ss.length (ss.map str))(hl:ss.length<4611686018427387904):Pur P 8 128 [sv,str x] h n (.bool (decide (x∈ss))):=by
 refine ent λu=>?_;repeat' first|refine wk ?_|refine cX (λ_=>?_) λ_=>?_|refine zX (qC r hl) ?_|fail
 exact⟨by rw[show decide (0≤pos ss x)=decide (x∈ss) from decide_eq_decide.2 pos_ge],rfl,rfl⟩
instance word_c (s:Tx) (h:zB) (n:Nat):PurC P 8 172 [str s] h n (.bool (wordB s)):=⟨by
 refine Com.pure (ent λu=>?_) (.inl rfl);repeat' first|refine wk ?_|refine cX (λ_=>?_) λ_=>?_|fail
 refine zX (rE (ss:=wordsL) (zL (e:=0) (sz:=1) rfl (by decide)) (by decide)) ?_;repeat' first|refine wk ?_|refine cX (λ_=>?_) λ_=>?_|fail
 exact finT rfl zA⟩
instance dnamed_c (s:Tx) (h:zB) (n:Nat):PurC P 8 126 [str s] h n (.bool (named s)):=⟨by
 refine ent λu=>?_;repeat' first|refine wk ?_|refine cX (λ_=>?_) λ_=>?_|fail
 all_goals (refine fin ?_;unfold named;simp [*])⟩
end
section
abbrev sN(e:Int):zI:=[⟨.iface 191 (.agg ⟨[I64 e]⟩),false,false⟩]
theorem need_com(z:Bool)(e:Int)(h:zB)(n:Nat):Com P 8 125 [.bool z,I64 e] h n λo h' n'=>o=(if z then .ret (.tuple #[]) else .panic (sN e))∧h'=h∧n'=n:=by
 refine ent λu=>?_;cases z
 · repeat' first|refine wk ?_|refine cX (λ_=>?_) λ_=>?_|fail
   exact⟨rfl,rfl,rfl⟩
 · repeat' first|refine wk ?_|refine cX (λ_=>?_) λ_=>?_|fail
   exact⟨rfl,rfl,rfl⟩
instance {z:Bool} {e:Int} {h:zB} {n:Nat} {K:Out→zB→Nat→Prop}:Stp (CallB P 8 125 [.bool z,I64 e] h n K) (Ch z (K (.ret (.tuple #[])) h n) (K (.panic (sN e)) h n)):=⟨λ⟨k1,k2⟩=>cal (need_com z e h n) λo h' n' ⟨e1,e2,e3⟩=>by
 subst e1 e2 e3;cases z
 · exact k2 rfl
 · exact k1 rfl⟩
instance arity_c (s:Tx) (h:zB) (n:Nat):PurC P 8 175 [str s] h n (I64 (arity s)):=⟨by
 refine ent λu=>?_;repeat' first|refine wk ?_|refine cX (λ_=>?_) λ_=>?_|fail
 all_goals (refine fin ?_;try subst_vars)
 all_goals first|rfl|skip
 · rename_i h1;unfold arity ar2;simp_all⟩
theorem idxf_cls{lo e n:Nat}{h:zB}{sv:Value}{l:List ClassT}{g:FuncId}{fs cs:List Value}{p:ClassT→Bool}(r:Row lo h sv e 2 l.length (l.flatMap clsC))(hl:l.length<inf)(hp:∀x∈l,Pur P 8 g (fs++([.agg ⟨clsC x⟩]++cs)) h n (.bool (p x))):Pur P 8 179 [sv,.func (.func g) ⟨fs⟩ ⟨cs⟩] h n (I64 (posF p l)):=by
 have d9:inf<4611686018427387904:=by decide
 refine ent λu=>?_;repeat' first|refine wk ?_|refine cX (λ_=>?_) λ_=>?_|fail
 refine lpR (λk:Nat=>[(0,sv),(1,.func (.func g) ⟨fs⟩ ⟨cs⟩),(7,I64 l.length),(8,I64 k)]) (λk h' n'=>h'=h∧n'=n∧k≤l.length∧∀(j:Nat) (y:ClassT),j<k→l[j]? = some y→p y=false) (λk=>l.length - k) 0 ⟨rfl,rfl,am _,λj _ hj=>by omega⟩ ?_
 rintro k t h' n' ⟨rfl,rfl,hk,dY⟩
 by_cases dV:k<l.length
 · have c0:l[k]? = some l[k]:=aa dV;have c1:=zK r c0;have c2:=hp l[k] (aR dV);repeat' first|refine wk ?_|refine cX (λ_=>?_) λ_=>?_|refine zX c2 ?_|fail
   · rename_i e1;exact fin (by rw[posF_hit c0 e1 dY])
   · rename_i e1
     exact⟨k+1,by dsimp only;omega,⟨rfl,rfl,rfl,rfl,trivial⟩,rfl,rfl,by omega,λj y hj e2=>by
      rcases ai.1 hj with h9|rfl
      · exact dY j y h9 e2
      · rw[c0]at e2;cases e2;exact e1⟩
 · obtain rfl:k=l.length:=by omega
   repeat' first|refine wk ?_|refine cX (λ_=>?_) λ_=>?_|fail
   exact fin (by rw[posF_no λj y hj=>dY j y (ab.1 hj).1 hj])
theorem idxf_op{lo e n:Nat}{h:zB}{sv:Value}{l:List OpT}{g:FuncId}{fs cs:List Value}{p:OpT→Bool}(r:Row lo h sv e 6 l.length (l.flatMap opC))(hl:l.length<inf)(hp:∀x∈l,Pur P 8 g (fs++([.agg ⟨opC x⟩]++cs)) h n (.bool (p x))):Pur P 8 196 [sv,.func (.func g) ⟨fs⟩ ⟨cs⟩] h n (I64 (posF p l)):=by
 have d9:inf<4611686018427387904:=by decide
 refine ent λu=>?_;repeat' first|refine wk ?_|refine cX (λ_=>?_) λ_=>?_|fail
 refine lpR (λk:Nat=>[(0,sv),(1,.func (.func g) ⟨fs⟩ ⟨cs⟩),(7,I64 l.length),(8,I64 k)]) (λk h' n'=>h'=h∧n'=n∧k≤l.length∧∀(j:Nat) (y:OpT),j<k→l[j]? = some y→p y=false) (λk=>l.length - k) 0 ⟨rfl,rfl,am _,λj _ hj=>by omega⟩ ?_
 rintro k t h' n' ⟨rfl,rfl,hk,dY⟩
 by_cases dV:k<l.length
 · have c0:l[k]? = some l[k]:=aa dV;have c1:=zK r c0;have c2:=hp l[k] (aR dV);repeat' first|refine wk ?_|refine cX (λ_=>?_) λ_=>?_|refine zX c2 ?_|fail
   · rename_i e1;exact fin (by rw[posF_hit c0 e1 dY])
   · rename_i e1
     exact⟨k+1,by dsimp only;omega,⟨rfl,rfl,rfl,rfl,trivial⟩,rfl,rfl,by omega,λj y hj e2=>by
      rcases ai.1 hj with h9|rfl
      · exact dY j y h9 e2
      · rw[c0]at e2;cases e2;exact e1⟩
 · obtain rfl:k=l.length:=by omega
   repeat' first|refine wk ?_|refine cX (λ_=>?_) λ_=>?_|fail
   exact fin (by rw[posF_no λj y hj=>dY j y (ab.1 hj).1 hj])
end
section
theorem clone_cls{lo n len:Nat}{h:zB}{sv:Value}{vs:List Value}(r:Row lo h sv 66 2 len vs)(dX:lo≤n)(h1:∀y∈vs,y.oneCell'=true)(hlim:len<1000000):Ret P 8 79 [sv] h n λv h' n'=>OwnE n n' h' v 66 2 len vs∧Tch [] h n h' n':=by
 refine ent λu=>?_;have r':=r;rcases r with⟨rfl,rfl,rfl⟩|⟨b,off,cap,m,z,kd,_,rfl,_⟩
 · repeat' first|refine wk ?_|refine cX (λ_=>?_) λ_=>?_|fail
   exact⟨_,rfl,.inl Own.nil,zA⟩
 · repeat' first|refine wk ?_|refine cX (λ_=>?_) λ_=>?_|fail
   refine appE (.inr ⟨mty_new (ae n),rfl,rfl⟩) ((r'.tch (S:=[]) zA dX λ_ _ hx=>(by cases hx)).up (by omega)) (by omega) h1 (by omega) ?_
   rintro v' h2 n2 ho ht
   have ht2:Tch [] h n h2 n2:=Tch.tch ht zA λx hx=>.inl (by
    have hx:x∈(some n).toList:=hx;simp at hx;omega)
   rw[aG,bV]at ho;repeat' first|refine wk ?_|refine cX (λ_=>?_) λ_=>?_|fail
   exact⟨_,rfl,ho,ht2⟩
theorem clone_op{lo n len:Nat}{h:zB}{sv:Value}{vs:List Value}(r:Row lo h sv 50 6 len vs)(dX:lo≤n)(h1:∀y∈vs,y.oneCell'=true)(hlim:len<1000000):Ret P 8 80 [sv] h n λv h' n'=>OwnE n n' h' v 50 6 len vs∧Tch [] h n h' n':=by
 refine ent λu=>?_;have r':=r;rcases r with⟨rfl,rfl,rfl⟩|⟨b,off,cap,m,z,kd,_,rfl,_⟩
 · repeat' first|refine wk ?_|refine cX (λ_=>?_) λ_=>?_|fail
   exact⟨_,rfl,.inl Own.nil,zA⟩
 · repeat' first|refine wk ?_|refine cX (λ_=>?_) λ_=>?_|fail
   refine appE (.inr ⟨mty_new (ae n),rfl,rfl⟩) ((r'.tch (S:=[]) zA dX λ_ _ hx=>(by cases hx)).up (by omega)) (by omega) h1 (by omega) ?_
   rintro v' h2 n2 ho ht
   have ht2:Tch [] h n h2 n2:=Tch.tch ht zA λx hx=>.inl (by
    have hx:x∈(some n).toList:=hx;simp at hx;omega)
   rw[aG,bV]at ho;repeat' first|refine wk ?_|refine cX (λ_=>?_) λ_=>?_|fail
   exact⟨_,rfl,ho,ht2⟩
theorem clone_opr{lo n len:Nat}{h:zB}{sv:Value}{vs:List Value}(r:Row lo h sv 47 2 len vs)(dX:lo≤n)(h1:∀y∈vs,y.oneCell'=true)(hlim:len<1000000):Ret P 8 82 [sv] h n λv h' n'=>OwnE n n' h' v 47 2 len vs∧Tch [] h n h' n':=by
 refine ent λu=>?_;have r':=r;rcases r with⟨rfl,rfl,rfl⟩|⟨b,off,cap,m,z,kd,_,rfl,_⟩
 · repeat' first|refine wk ?_|refine cX (λ_=>?_) λ_=>?_|fail
   exact⟨_,rfl,.inl Own.nil,zA⟩
 · repeat' first|refine wk ?_|refine cX (λ_=>?_) λ_=>?_|fail
   refine appE (.inr ⟨mty_new (ae n),rfl,rfl⟩) ((r'.tch (S:=[]) zA dX λ_ _ hx=>(by cases hx)).up (by omega)) (by omega) h1 (by omega) ?_
   rintro v' h2 n2 ho ht
   have ht2:Tch [] h n h2 n2:=Tch.tch ht zA λx hx=>.inl (by
    have hx:x∈(some n).toList:=hx;simp at hx;omega)
   rw[aG,bV]at ho;repeat' first|refine wk ?_|refine cX (λ_=>?_) λ_=>?_|fail
   exact⟨_,rfl,ho,ht2⟩
theorem clone_reg{lo n len:Nat}{h:zB}{sv:Value}{vs:List Value}(r:Row lo h sv 52 4 len vs)(dX:lo≤n)(h1:∀y∈vs,y.oneCell'=true)(hlim:len<1000000):Ret P 8 138 [sv] h n λv h' n'=>OwnE n n' h' v 52 4 len vs∧Tch [] h n h' n':=by
 refine ent λu=>?_;have r':=r;rcases r with⟨rfl,rfl,rfl⟩|⟨b,off,cap,m,z,kd,_,rfl,_⟩
 · repeat' first|refine wk ?_|refine cX (λ_=>?_) λ_=>?_|fail
   exact⟨_,rfl,.inl Own.nil,zA⟩
 · repeat' first|refine wk ?_|refine cX (λ_=>?_) λ_=>?_|fail
   refine appE (.inr ⟨mty_new (ae n),rfl,rfl⟩) ((r'.tch (S:=[]) zA dX λ_ _ hx=>(by cases hx)).up (by omega)) (by omega) h1 (by omega) ?_
   rintro v' h2 n2 ho ht
   have ht2:Tch [] h n h2 n2:=Tch.tch ht zA λx hx=>.inl (by
    have hx:x∈(some n).toList:=hx;simp at hx;omega)
   rw[aG,bV]at ho;repeat' first|refine wk ?_|refine cX (λ_=>?_) λ_=>?_|fail
   exact⟨_,rfl,ho,ht2⟩
theorem clone_int{lo n len:Nat}{h:zB}{sv:Value}{vs:List Value}(r:Row lo h sv 3 1 len vs)(dX:lo≤n)(h1:∀y∈vs,y.oneCell'=true)(hlim:len<1000000):Ret P 8 168 [sv] h n λv h' n'=>OwnE n n' h' v 3 1 len vs∧Tch [] h n h' n':=by
 refine ent λu=>?_;have r':=r;rcases r with⟨rfl,rfl,rfl⟩|⟨b,off,cap,m,z,kd,_,rfl,_⟩
 · repeat' first|refine wk ?_|refine cX (λ_=>?_) λ_=>?_|fail
   exact⟨_,rfl,.inl Own.nil,zA⟩
 · repeat' first|refine wk ?_|refine cX (λ_=>?_) λ_=>?_|fail
   refine appE (.inr ⟨mty_new (ae n),rfl,rfl⟩) ((r'.tch (S:=[]) zA dX λ_ _ hx=>(by cases hx)).up (by omega)) (by omega) h1 (by omega) ?_
   rintro v' h2 n2 ho ht
   have ht2:Tch [] h n h2 n2:=Tch.tch ht zA λx hx=>.inl (by
    have hx:x∈(some n).toList:=hx;simp at hx;omega)
   rw[aG,bV]at ho;repeat' first|refine wk ?_|refine cX (λ_=>?_) λ_=>?_|fail
   exact⟨_,rfl,ho,ht2⟩
end
section
theorem numbered_ret{lo e n:Nat}{h:zB}{sv:Value}{l:List Tx}(r:Row lo h sv e 1 l.length (l.map str))(dX:lo≤n)(hl:l.length<inf)(hn:l.Nodup):Ret P 8 30 [sv] h n λv h' n'=>∃b,v = .map (some b)∧n≤b∧b<n'∧MpS h' b (numL l)∧Tch [] h n h' n':=by
 have d9:inf<4611686018427387904:=by decide
 have rl:=r.low;refine ent λu=>?_;repeat' first|refine wk ?_|refine cX (λ_=>?_) λ_=>?_|fail
 refine lpR (λi:Nat=>[(3,.map (some n)),(7,sv),(8,I64 l.length),(9,I64 i)]) (λi h' n'=>Tch [] h n h' n'∧n<n'∧MpS h' n (numL (l.take i))∧i≤l.length) (λi=>l.length - i) 0 ⟨zA,by omega,mps_new,am _⟩ ?_
 rintro i t h' n' ⟨ht,eu,hm,hi⟩
 have r':=r.tch ht dX λ_ _ hx=>(by cases hx);by_cases dV:i<l.length
 · have c0:l[i]? = some l[i]:=aa dV;generalize l[i]=x at c0
   have c1:=xF r' c0
   obtain⟨o,ms,hm2⟩:=mset_new (P:=P) (ty:=87) (v:=I64 (i:Nat)) (x:=x) hm λp hp hx=>by
    have h3:=numL_key hp;rw [hx]at h3;obtain⟨j,hj⟩:=aj.1 h3;have ji:j<i:=by have:=(ab.1 hj).1;rw [aF]at this;omega
    rw[aI ji]at hj;have:=nodup_at hn hj c0;omega
   repeat' first|refine wk ?_|refine cX (λ_=>?_) λ_=>?_|fail
   exact rnd (i+1) ⟨zA,eu,by rw[numL_snoc c0];exact hm2,by omega⟩
 · obtain rfl:i=l.length:=by omega
   repeat' first|refine wk ?_|refine cX (λ_=>?_) λ_=>?_|fail
   rw[bG]at hm;exact⟨_,rfl,n,rfl,ae _,eu,hm,ht⟩
theorem vJ{lo e n bt br:Nat}{h:zB}{sv:Value}{l ns:List Tx}(r:Row lo h sv e 1 l.length (l.map str))(dX:lo≤n)(hl:l.length<100000)(hb:bt<n)(kW:br<n)(ct:zC h bt 10=some (.map (some br)))(mp:MpS h br (numL ns))(gT:ns.Nodup)(eJ:∀x∈l,x∈ns):Ret P 8 31 [ptr bt 0,sv] h n λv h' n'=>Own n n' h' v 3 1 l.length (l.map λx=>I64 (ns.idxOf x:Nat))∧Tch [] h n h' n':=by
 have rl:=r.low;refine ent λu=>?_;repeat' first|refine wk ?_|refine cX (λ_=>?_) λ_=>?_|fail
 refine lpR (α :=Nat×Value) (λa=>[(0,ptr bt 0),(5,a.2),(8,sv),(9,I64 l.length),(10,I64 a.1)]) (λa h' n'=>Tch [] h n h' n'∧a.1≤l.length∧Own n n' h' a.2 3 1 a.1 ((l.take a.1).map λx=>I64 (ns.idxOf x:Nat))) (λa=>l.length - a.1) (0,.slice none 0 0) ⟨zA,am _,Own.nil⟩ ?_
 rintro ⟨i,ov⟩ t h' n' ⟨ht,hi,ho⟩
 dsimp only at hi ho ⊢;have eu:=ht.le;have r':=r.tch ht dX λ_ _ hx=>(by cases hx);have ct':zC h' bt 10=some (.map (some br)):=cat_tch ht hb (by simp) ct;have mp':=mp.tch ht kW (by simp);by_cases dV:i<l.length
 · have c0:l[i]? = some l[i]:=aa dV;generalize l[i]=x at c0
   have c1:=xF r' c0;have hx:=eJ x (ah c0);obtain⟨A,B,e1,e2⟩:=qB (idx_at hx) gT;rw [e1]at mp';have lk:=lku_at (P:=P) (ty:=87) (ok:=false) mp' e2;have kz:yX P h' 87 (.map (some br)) (str x) false=some (I64 (ns.idxOf x:Nat)):=lk;repeat' first|refine wk ?_|refine cX (λ_=>?_) λ_=>?_|fail
   refine appO (ho.tch (S:=[]) zA (by simp)) (zL (e:=3) (sz:=1) (len:=1) rfl (by decide)) (by omega) ⟨rfl,trivial⟩ (by omega) ?_
   rintro v' h3 n3 ho3 ht3
   have ht4:Tch [] h n h3 n3:=Tch.tch ht3 zA λx hx=>.inl (by
    cases hb:zP ov with
    | none=>rw [hb]at hx;cases hx
    | some b=>rw [hb]at hx;simp at hx;subst hx;exact(ho.blk hb).1)
   repeat' first|refine wk ?_|refine cX (λ_=>?_) λ_=>?_|fail
   exact rnd (i+1,v') ⟨ht4,by omega,by rw[take_map c0];exact ho3⟩
 · obtain rfl:i=l.length:=by omega
   repeat' first|refine wk ?_|refine cX (λ_=>?_) λ_=>?_|fail
   rw[bG]at ho;exact⟨_,rfl,ho,ht⟩
end
section
attribute [local simp] vB
abbrev tU:Nat:=167
abbrev tSet:Nat:=92
theorem rs1A{ty i b o:Nat}[s:ShC P ty (.agg 1)]{l:List (Nat×Value)}{t:Fr}{h:zB}{x:Value}(e:lk l t i=ptr b o)(c:zC h b o=some x):Rs P l t h [.cell i ty] [.agg ⟨[x]⟩]:=⟨_,_,rfl,by rw[e];exact load_agg s.ok rfl (by decide) (rowAt.cons c (rowAt.nil _ _ _)),rfl⟩
theorem kep_full{ty e sz lo n len k:Nat}{h:zB}{v:Value}{vs:List Value}[s:SlC P ty e sz](o:Own lo n h v e sz len vs)(hk:k≤len)(hl:len<1000000)(hs:1≤sz):∃v',wW P h ty v none (some (I64 (k:Nat))) (some (I64 (k:Nat)))=some v'∧Kep lo n h v' e sz k (vs.take (k*sz))∧zP v'=zP v:=by
 obtain⟨v',h1,h2,h3,h4⟩:=slice_full (P:=P) (ty:=ty) o hk hl hs;refine⟨v',h1,?_,h3⟩;rcases o with⟨rfl,rfl,rfl⟩|⟨b,q1,q2,rfl,q3,q4,q5,q6⟩
 · have:k=0:=by omega
   subst this;rcases h4 with rfl|⟨b,rfl⟩
   · exact .inl ⟨rfl,rfl,by simp⟩
   · cases h3
 · rcases h4 with rfl|⟨b',rfl⟩
   · cases h3
   · injection h3 with h3
     have h3:b'=b:=h3;subst h3;have jz:k*sz≤len*sz:=bH _ hk;have d9:(1000000:Nat)≤inf:=by decide
     refine .inr ⟨b',k,vs.length,q1,q2,rfl,q3,by rw[aF];omega,by rw[aF];omega,λi hi=>?_,.inl ⟨by omega,ae _⟩⟩;rw [aF]at hi;rw [q6 i,aI (by omega)]
theorem trimmed_ret{lo n:Nat}{h:zB}{v:Value}{ws:List Nat}(o:Own lo n h v tU 1 ws.length (ws.map U64))(hw:∀w∈ws,w<18446744073709551616)(hl:ws.length≤1024):Ret P 8 86 [v] h n λr h' n'=>∃sv xs,r = .agg ⟨[sv]⟩∧SetW xs∧(∀k,uB xs k=uB ws k)∧Kep lo n' h' sv tU 1 xs.length (xs.map U64)∧zP sv=zP v∧Tch [] h n h' n':=by
 refine ent λu=>?_;have r0:=o.row (by decide);repeat' first|refine wk ?_|refine cX (λ_=>?_) λ_=>?_|fail
 refine lpR (λk:Nat=>[(0,v),(2,ptr n 0),(3,I64 k)]) (λk h' n'=>Tch [] h n h' n'∧n<n'∧Cel h' n (tSet+1) 0 [.slice none 0 0]∧k≤ws.length∧sR ws k=sR ws ws.length) (λk=>k) ws.length ⟨zA,by omega,zD,ae _,rfl⟩ ?_
 rintro k t h' n' ⟨ht,eu,hc,hk,htr⟩
 have o':=o.tch ht (by simp);have r':=o'.row (by decide)
 cases k with
 | zero=>
  have e0:sR ws ws.length=0:=by rw[← htr];rfl
  obtain⟨sv,hs,hkr,hb⟩:=kep_full (ty:=90) (k:=0) o' (am _) (by omega) (by decide);have fJ:=hkr.one;obtain⟨sp,sc,rfl⟩:=(hkr.row (by decide)).sl;repeat' first|refine wk ?_|refine cX (λ_=>?_) λ_=>?_|refine ob (a:=[.agg ⟨[_]⟩]) ?_ (rs1A (by(apply lk_box;((conv=>lhs;whnf) <;> exact rfl))) zM)|fail
  exact⟨_,rfl,_,ws.take (sR ws ws.length),rfl,trim_set hw hl,trim_has ws,by rw[e0];exact hkr.tch (S:=[n]) zA (λb hb2 hx=>by simp at hx;have:=(o.blk (hb ▸ hb2)).2;omega),hb,zA⟩
 | succ k=>
  have c0:ws[k]? = some ws[k]:=aa (by omega);generalize ws[k]=w at c0
  have c1:zC h' (sbk v) (sof v+k*1)=some (U64 w):=by rw[aP];exact r'.at (by rw[ap,c0];rfl)
  have ek:((k+1:Nat):Int) - 1=(k:Nat):=by omega
  have bn:∀ty ox oy,Bn P .sub ty ox oy (I64 ((k+1:Nat):Int)) (I64 1) (I64 (k:Nat)):=λty ox oy=>by rw[← ek];exact bn_sub (by omega)
  by_cases gt:w=0
  · subst gt;have hz:sR ws (k+1)=sR ws k:=by rw[show sR ws (k+1)=if ws[k]? = some 0 then sR ws k else k+1 from rfl,if_pos c0]
    repeat' first|refine ob (a:=I64 (k:Nat)) ?_ (bn _ _ _)|refine wk ?_|refine cX (λ_=>?_) λ_=>?_|fail
    exact rnd k ⟨ht,eu,hc,by omega,by rw[← hz];exact htr⟩
  · have hz:sR ws ws.length=k+1:=by rw[← htr,show sR ws (k+1)=if ws[k]? = some 0 then sR ws k else k+1 from rfl,if_neg (by rw[c0];simpa using gt)]
    obtain⟨sv,hs,hkr,hb⟩:=kep_full (ty:=90) (k:=k+1) o' hk (by omega) (by decide);have fJ:=hkr.one;obtain⟨sp,sc,rfl⟩:=(hkr.row (by decide)).sl;repeat' first|refine ob (a:=I64 (k:Nat)) ?_ (bn _ _ _)|refine ob (a:=[.agg ⟨[_]⟩]) ?_ (rs1A (by(apply lk_box;((conv=>lhs;whnf) <;> exact rfl))) zM)|refine wk ?_|refine cX (λ_=>?_) λ_=>?_|fail
    exact⟨_,rfl,_,ws.take (sR ws ws.length),rfl,trim_set hw hl,trim_has ws,by
     rw[hz,aF,bR hk,List.map_take];rw [aP]at hkr;exact hkr.tch (S:=[n]) zA (λb hb2 hx=>by simp at hx;have:=(o.blk (hb ▸ hb2)).2;omega),hb,zA⟩
theorem max_q{a b:Nat}{tys:List Nat}{h:zB}:Qb P .max tys [I64 (a:Nat),I64 (b:Nat)] h (some (I64 ((max a b:Nat):Int))):=by
 show aMax true (I64 (a:Nat)) [I64 (b:Nat)]=_;unfold aMax;show some (Value.int .i64 (cond (iltB (a:Nat) (b:Nat)) ((b:Nat):Int) ((a:Nat):Int)))=_;rw [iltB_eq];by_cases h9:a<b
 · rw[decide_eq_true (by omega),Nat.max_eq_right (by omega)];rfl
 · rw[decide_eq_false (by omega),Nat.max_eq_left (by omega)];rfl
theorem u_at{ws:List Nat}{i w:Nat}(h:ws[i]? = some w):(ws.map U64)[i]? = some (U64 w):=by rw[ap,h];rfl
theorem of_ret{lo e n:Nat}{h:zB}{sv:Value}{l:List Int}(r:Row lo h sv e 1 l.length (l.map I64))(dX:lo≤n)(hl:l.length<inf):Ret P 8 32 [sv] h n λv h' n'=>∃wv ws,v = .agg ⟨[wv]⟩∧SetW ws∧(∀k:Nat,uB ws k=true↔((k:Nat):Int)∈l∧k≤65535)∧Kep n n' h' wv tU 1 ws.length (ws.map U64)∧Tch [] h n h' n':=by
 have d9:inf<4611686018427387904:=by decide
 have rl:=r.low;refine ent λu=>?_;repeat' first|refine wk ?_|refine cX (λ_=>?_) λ_=>?_|fail
 refine lpR (α :=Nat×Value×List Nat) (λa=>[(2,ptr n 0),(3,a.2.1),(6,sv),(7,I64 l.length),(8,I64 a.1)]) (λa h' n'=>Tch [] h n h' n'∧n<n'∧Cel h' n (tSet+1) 0 [.slice none 0 0]∧a.1≤l.length∧Own (n+1) n' h' a.2.1 tU 1 a.2.2.length (a.2.2.map U64)∧(∀w∈a.2.2,w<18446744073709551616)∧a.2.2.length≤1024∧∀k:Nat,uB a.2.2 k=true↔((k:Nat):Int)∈l.take a.1∧k≤65535) (λa=>l.length - a.1) (0,.slice none 0 0,[]) ⟨zA,by omega,zD,am _,Own.nil,λw hw=>(by cases hw),am _,λk=>⟨λh9=>(by simp[uB]at h9),λh9=>(by simp at h9)⟩⟩ ?_
 rintro ⟨i,wv,ws⟩ t h' n' ⟨ht,eu,hc,hi,ho,hw,fN,hh⟩
 dsimp only at hi ho hw fN hh ⊢;have r':=r.tch ht dX λ_ _ hx=>(by cases hx);by_cases dV:i<l.length
 · have c0:l[i]? = some l[i]:=aa dV;generalize l[i]=x at c0
   have c1:=xF r' c0;have nxt:∀k:Nat,((k:Nat):Int)∈l.take (i+1)↔((k:Nat):Int)∈l.take i∨((k:Nat):Int)=x:=λk=>by rw[xS c0,az];simp
   by_cases hx:x<0∨65535<x
   · have done:∀k:Nat,uB ws k=true↔((k:Nat):Int)∈l.take (i+1)∧k≤65535:=λk=>by
      rw[hh k,nxt k];constructor
      · rintro ⟨h1,h2⟩;exact⟨.inl h1,h2⟩
      · rintro ⟨h1|h1,h2⟩
        · exact⟨h1,h2⟩
        · omega
     rcases hx with hx|hx
     · repeat' first|refine wk ?_|refine cX (λ_=>?_) λ_=>?_|fail
       exact rnd (i+1,wv,ws) ⟨ht,eu,hc,by omega,ho,hw,fN,done⟩
     · repeat' first|refine wk ?_|refine cX (λ_=>?_) λ_=>?_|fail
       exact rnd (i+1,wv,ws) ⟨ht,eu,hc,by omega,ho,hw,fN,done⟩
   · obtain⟨a,rfl⟩:=cu (show 0≤x by omega);have ha:a≤65535:=by omega
     repeat' first|refine wk ?_|refine cX (λ_=>?_) λ_=>?_|fail
     refine lpR (α :=Value×List Nat) (λb=>[(2,ptr n 0),(3,b.1),(5,I64 (a:Nat)),(6,sv),(7,I64 l.length),(8,I64 i)]) (λb h2 n2=>Tch [] h n h2 n2∧n<n2∧Cel h2 n (tSet+1) 0 [.slice none 0 0]∧Own (n+1) n2 h2 b.1 tU 1 b.2.length (b.2.map U64)∧(∀w∈b.2,w<18446744073709551616)∧b.2.length≤1024∧∀k:Nat,uB b.2 k=uB ws k) (λb=>1025 - b.2.length) (wv,ws) ⟨ht,eu,hc,ho,hw,fN,λ_=>rfl⟩ ?_;clear c1 r' ho hw fN hc ht eu
     rintro ⟨v2,w2⟩ t h2 n2 ⟨ht,eu,hc,ho,hw,fN,he⟩
     dsimp only at ho hw fN he ⊢;have ro:=ho.row (by decide);by_cases hgo:w2.length≤a / 64
     · repeat' first|refine wk ?_|refine cX (λ_=>?_) λ_=>?_|fail
       refine appN (ho.tch (S:=[]) zA (by simp)) (zL (e:=tU) (sz:=1) (len:=1) rfl (by decide)) (by decide) ⟨rfl,trivial⟩ (by omega) ?_
       rintro v3 h3 n3 ho3 ht3
       have eH:=ht3.le;have ht4:Tch [] h n h3 n3:=Tch.tch ht3 zA λb hb=>.inl (by have:=zZ ho b hb;omega);have hc3:Cel h3 n (tSet+1) 0 [.slice none 0 0]:=(hc.hal (by omega)).tch ht3 (by omega) (λhx=>by have:=zZ ho _ hx;omega);repeat' first|refine wk ?_|refine cX (λ_=>?_) λ_=>?_|fail
       exact⟨(v3,w2++[0]),by dsimp only;rw [ak];simp;omega,(by repeat' first|exact trivial|refine⟨rfl,?_⟩),ht4,by omega,hc3,by rw[ak,aK];exact ho3.dnl (by omega),λw hw9=>by
        rcases az.1 hw9 with h9|h9
        · exact hw w h9
        · simp at h9;subst h9;decide,by rw[ak];simp;omega,λk=>by rw[has_grow];exact he k⟩
     · have hq:a / 64<w2.length:=by omega
       obtain⟨bb,rfl,fw,hb2⟩:=own_head ho (by omega);have d0:w2[a / 64]? = some w2[a / 64]:=aa hq;have hwl2:w2[a / 64]<18446744073709551616:=hw _ (aR hq);have jM:(w2[a / 64]?).getD 0=w2[a / 64]:=by rw[d0];rfl
       have l7:=λk=>has_put (k:=k) hq;rw [jM]at l7;generalize w2[a / 64]=w at *
       have hlm:(w2.map U64).length=w2.length:=aE _
       have d1:zC h2 bb (a / 64)=some (U64 w):=by
        have:=ro.at (u_at d0)
        rwa [show sof (.slice (some ⟨bb,0,none⟩) w2.length inf)+a / 64=a / 64 from aG _]at this
       have hpm:2 ^ (a % 64)<18446744073709551616:=dO (by decide) (Nat.mod_lt _ (by decide));have hor:=or_lt hwl2 (Nat.mod_lt a (show 0<64 by decide));have hnb:n≠bb:=by omega
       have iad:Iad 1 (.slice (some ⟨bb,0,none⟩) w2.length inf) (I64 ((a / 64:Nat):Int)) (ptr bb (a / 64)):=⟨bb,0,w2.length,inf,.i64,a / 64,rfl,rfl,hq,by rw[aG,aP]⟩;repeat' first|refine ob (a:=ptr bb (a / 64)) ?_ iad|refine ob (a:=hst _ bb (a / 64) [U64 (w ||| 2 ^ (a % 64))]) ?_ (stp_own ho rfl (by omega) rfl)|refine wk ?_|refine cX (λ_=>?_) λ_=>?_|fail
       have hp:=own_put ho (i:=a / 64) (x:=U64 (w ||| 2 ^ (a % 64))) rfl (by omega);refine⟨(i+1,.slice (some ⟨bb,0,none⟩) w2.length inf,w2.set (a / 64) (w ||| 2 ^ (a % 64))),(by dsimp only;omega),by simpa only[aW] using (by repeat' first|exact trivial|refine⟨rfl,?_⟩),zA,by omega,zG,by omega,by rw[aW,List.map_set];exact hp,λy hy=>?_,by rw[aW];exact fN,λk=>?_⟩
       · rcases List.mem_or_eq_of_mem_set hy with h9|h9
         · exact hw y h9
         · subst h9;exact hor
       · rw[l7 k,b8,he k,hh k,nxt k,decide_eq_true_eq];constructor
         · rintro (⟨h1,h2⟩|rfl)
           · exact⟨.inl h1,h2⟩
           · exact⟨.inr rfl,ha⟩
         · rintro ⟨h1|h1,h2⟩
           · exact .inl ⟨h1,h2⟩
           · exact .inr (by omega)
 · obtain rfl:i=l.length:=by omega
   repeat' first|refine wk ?_|refine cX (λ_=>?_) λ_=>?_|fail
   refine wY (trimmed_ret ho hw fN) ?_
   rintro _ h3 n3 ⟨wv2,xs,rfl,s1,s2,s3,s4,ht3⟩
   have hw1:=s3.one;have eH:=ht3.le;repeat' first|refine wk ?_|refine cX (λ_=>?_) λ_=>?_|refine ob (a:=[.agg ⟨[_]⟩]) ?_ (rs1A (by(apply lk_box;((conv=>lhs;whnf) <;> exact rfl))) zM)|fail
   exact⟨_,rfl,_,xs,rfl,s1,λk=>by rw[s2 k,hh k,bG],(s3.tch (S:=[n]) zA (λb hb2 hx=>by simp at hx;have:=(s3.blk hb2).1;omega)).dnl (by omega),zA⟩
end
section
theorem zat_pur{lo e n:Nat}{h:zB}{sv:Value}{ws:List Nat}(r:Row lo h sv e 1 ws.length (ws.map U64))(i:Nat):Pur P 8 183 [sv,I64 (i:Nat)] h n (U64 ((ws[i]?).getD 0)):=by
 refine ent λu=>?_;by_cases dV:i<ws.length
 · have c0:ws[i]? = some ws[i]:=aa dV;generalize ws[i]=w at c0
   have c1:zC h (sbk sv) (sof sv+i*1)=some (U64 w):=by rw[aP];exact r.at (u_at c0)
   repeat' first|refine wk ?_|refine cX (λ_=>?_) λ_=>?_|fail
   exact fin (by rw[c0];rfl)
 · repeat' first|refine wk ?_|refine cX (λ_=>?_) λ_=>?_|fail
   exact fin (by rw[an (by omega)];rfl)
theorem sub1_pur{x y n:Nat}{h:zB}(hx:x<18446744073709551616)(hy:y<18446744073709551616):Pur P 8 143 [U64 x,U64 y] h n (U64 (x ^^^ (x &&& y))):=by
 refine ent λu=>?_;repeat' first|refine wk ?_|refine cX (λ_=>?_) λ_=>?_|fail
 exact fin rfl
theorem zsub_ret{lo e n:Nat}{h:zB}{av bv:Value}{a b:List Nat}(ra:Row lo h av e 1 a.length (a.map U64))(rb:Row lo h bv e 1 b.length (b.map U64))(dX:lo≤n)(ha:∀w∈a,w<18446744073709551616)(hb:∀w∈b,w<18446744073709551616)(hal:a.length≤1024)(ku:b.length≤1024):Ret P 8 142 [av,bv,.func (.func 143) ⟨[]⟩ ⟨[]⟩] h n λv h' n'=>Own n n' h' v tU 1 (subW a b).length ((subW a b).map U64)∧Tch [] h n h' n':=by
 have hm:max a.length b.length≤1024:=by omega
 have el:(subW a b).length=max a.length b.length:=by unfold subW;simp
 have eat:∀i,i<max a.length b.length→(subW a b)[i]? = some ((a[i]?).getD 0 ^^^ ((a[i]?).getD 0 &&& (b[i]?).getD 0)):=λi hi=>by unfold subW;rw [ap,dk hi];rfl
 refine ent λu=>?_;repeat' first|refine wk ?_|refine cX (λ_=>?_) λ_=>?_|refine ob (a:=some (I64 ((max a.length b.length:Nat):Int))) ?_ max_q|fail
 generalize max a.length b.length=M at *
 refine lpR (α :=Nat×Value) (λq=>[(0,av),(1,bv),(2,.func (.func 143) ⟨[]⟩ ⟨[]⟩),(7,.func (.func 183) ⟨[]⟩ ⟨[]⟩),(8,q.2),(14,I64 M),(15,I64 q.1)]) (λq h' n'=>Tch [] h n h' n'∧q.1≤M∧Own n n' h' q.2 tU 1 q.1 (((subW a b).take q.1).map U64)) (λq=>M - q.1) (0,.slice none 0 0) ⟨zA,am _,Own.nil⟩ ?_
 rintro ⟨i,ov⟩ t h' n' ⟨ht,hi,ho⟩
 dsimp only at hi ho ⊢;have eu:=ht.le;have ra':=ra.tch ht dX λ_ _ hx=>(by cases hx);have rb':=rb.tch ht dX λ_ _ hx=>(by cases hx);by_cases dV:i<M
 · have c0:=eat i dV;have hxa:=getD_lt ha i;have hxb:=getD_lt hb i;repeat' first|refine wk ?_|refine cX (λ_=>?_) λ_=>?_|refine zX (zat_pur ra' i) ?_|refine zX (zat_pur rb' i) ?_|refine zX (sub1_pur hxa hxb) ?_|fail
   refine appO (ho.tch (S:=[]) zA (by simp)) (zL (e:=tU) (sz:=1) (len:=1) rfl (by decide)) (by omega) ⟨rfl,trivial⟩ (by omega) ?_
   rintro v' h3 n3 ho3 ht3
   have eH:=ht3.le;have ht4:Tch [] h n h3 n3:=Tch.tch ht3 zA λx hx=>.inl (zZ ho x hx);repeat' first|refine wk ?_|refine cX (λ_=>?_) λ_=>?_|fail
   exact rnd (i+1,v') ⟨ht4,by omega,by rw[xS c0,aK];exact ho3⟩
 · obtain rfl:i=M:=by omega
   repeat' first|refine wk ?_|refine cX (λ_=>?_) λ_=>?_|fail
   exact⟨_,rfl,by rw[el];rwa [cG (by omega)]at ho,ht⟩
theorem sub_ret{lo e n:Nat}{h:zB}{av bv:Value}{a b:List Nat}(ra:Row lo h av e 1 a.length (a.map U64))(rb:Row lo h bv e 1 b.length (b.map U64))(dX:lo≤n)(ha:SetW a)(hb:SetW b):Ret P 8 88 [.agg ⟨[av]⟩,.agg ⟨[bv]⟩] h n λv h' n'=>∃wv ws,v = .agg ⟨[wv]⟩∧SetW ws∧(∀k:Nat,uB ws k=(uB a k && !uB b k))∧Kep n n' h' wv tU 1 ws.length (ws.map U64)∧Tch [] h n h' n':=by
 have o1:=ra.one;have o2:=rb.one;have hal:=ha.le;have ku:=hb.le;refine ent λu=>?_;repeat' first|refine wk ?_|refine cX (λ_=>?_) λ_=>?_|fail
 refine wY (zsub_ret (Row.tch (S:=[]) ra zA dX (by simp)) (Row.tch (S:=[]) rb zA dX (by simp)) (by omega) ha.lt hb.lt hal ku) ?_
 rintro z h2 n2 ⟨ho,ht2⟩
 have hn2:=ht2.le;have el:(subW a b).length=max a.length b.length:=by unfold subW;simp
 have dV:∀w∈subW a b,w<18446744073709551616:=λw hw=>by
  unfold subW at hw;obtain⟨i,_,rfl⟩:=ao.1 hw;exact andn_lt (getD_lt ha.lt i)
 have hc2:Cel h2 (n+2) (tSet+1) 0 [.slice none 0 0]:=zD;have eP:Tch [] h n h2 n2:=zA;clear ht2;repeat' first|refine wk ?_|refine cX (λ_=>?_) λ_=>?_|fail
 refine wY (trimmed_ret ho dV (by omega)) ?_
 rintro _ h3 n3 ⟨wv2,xs,rfl,s1,s2,s3,s4,ht3⟩
 have hw1:=s3.one;have eH:=ht3.le;repeat' first|refine wk ?_|refine cX (λ_=>?_) λ_=>?_|refine ob (a:=[.agg ⟨[_]⟩]) ?_ (rs1A (by(apply lk_box;((conv=>lhs;whnf) <;> exact rfl))) zM)|fail
 exact⟨_,rfl,_,xs,rfl,s1,λk=>by rw[s2 k,sub_has],(s3.tch (S:=[n+2]) zA (λb hb2 hx=>by simp at hx;have:=(s3.blk hb2).1;omega)).dnl (by omega),zA⟩
theorem has_pur{lo e n:Nat}{h:zB}{wv:Value}{ws:List Nat}(r:Row lo h wv e 1 ws.length (ws.map U64))(dX:lo≤n)(hs:SetW ws)(k:Int)(hk:k<9223372036854775808):Pur P 8 171 [.agg ⟨[wv]⟩,I64 k] h n (.bool (decide (0≤k) && uB ws k.toNat)):=by
 have o1:=r.one;have rl:=r.low;have hle:=hs.le;refine Com.pure (ent λu=>?_) (.inl rfl);by_cases h0:0≤k
 · obtain⟨a,rfl⟩:=cu h0;have e0:(decide (0≤((a:Nat):Int)) && uB ws ((a:Nat):Int).toNat)=uB ws a:=by rw[decide_eq_true h0];rfl
   by_cases dV:a / 64<ws.length
   · have c0:ws[a / 64]? = some ws[a / 64]:=aa dV;have hw:=hs.lt _ (aR dV);generalize ws[a / 64]=w at c0 hw
     have c1:zC h (sbk wv) (sof wv+a / 64*1)=some (U64 w):=by rw[aP];exact r.at (u_at c0)
     have e1:uB ws a=w.testBit (a % 64):=by unfold uB;rw [c0];rfl
     have hsh:w >>> (a % 64)<18446744073709551616:=cz (Nat.shiftRight_le w (a % 64)) hw;have hl:=rl (by omega);repeat' first|refine wk ?_|refine cX (λ_=>?_) λ_=>?_|fail
     exact finT (by
      rw[e0,e1];congr 1
      exact bC.2 (by rw[decide_eq_true_iff];exact bit_has)) zA
   · have e1:uB ws a=false:=by unfold uB;rw [an (by omega)];simp
     repeat' first|refine wk ?_|refine cX (λ_=>?_) λ_=>?_|fail
     all_goals first|exact finT (by rw[e0,e1]) zA|(exfalso;omega)
 · have e0:(decide (0≤k) && uB ws k.toNat)=false:=by rw[decide_eq_false h0];rfl
   repeat' first|refine wk ?_|refine cX (λ_=>?_) λ_=>?_|fail
   all_goals first|exact finT (by rw[e0]) zA|(exfalso;omega)
end
end Go.Proofs.YtmccnilgnlaffaaGreatDoor
