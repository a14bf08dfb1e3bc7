/- What the law leans on, part 12 of 24. Conditions: those that each theorem states. -/
import Derived.Test.YtdiejolnllipnaaGreatDoorMachPrintsx11
import Derived.Test.YtdiejolnllipnaaGreatDoorMachPrintsx10

set_option linter.unusedVariables false
set_option linter.unusedSimpArgs false
namespace Go.Ex
def Kep(lo n:Nat)(h:zB)(v:Value)(e sz len:Nat)(vs:List Value):Prop:=
 (v = .slice none 0 0/\len=0/\vs=[])\/∃b cap m,lo<=b/\b<n/\v = .slice (some ⟨b,0,none⟩) len cap/\yC (zG h b)=some (m,zc e sz,1)/\vs.length=len*sz/\vs.length<=m/\(∀i,i<vs.length->zD h b i=vs[i]?)/\((cap<inf/\len<=cap)\/cap=inf)
theorem Kep.row{lo n:Nat}{h:zB}{v:Value}{e sz len:Nat}{vs:List Value}(o:Kep lo n h v e sz len vs)(hs:1<=sz):Row n h v e sz len vs:=by
 rcases o with o|⟨b,cap,m,q1,q2,rfl,q3,q4,q5,q6,q7⟩
 . exact .inl o
 . exact .inr ⟨b,0,cap,m,zc e sz,1,q2,rfl,q4,q3,by omega,λj x hj=>by rw[aK,q6 j (ab.1 hj).1];exact hj,q7.elim .inl λe=>.inr ⟨e,rfl,rfl,hs⟩⟩
theorem Kep.tch{S:List Nat}{lo n n':Nat}{h h':zB}{v:Value}{e sz len:Nat}{vs:List Value}(o:Kep lo n h v e sz len vs)(t:Tch S h n h' n')(hS:∀b,zH v=some b->b∉S):Kep lo n' h' v e sz len vs:=by
 rcases o with o|⟨b,cap,m,q1,q2,rfl,q3,q4,q5,q6,q7⟩
 . exact .inl o
 . have ek:=t.2 b q2 (hS b rfl);exact .inr ⟨b,cap,m,q1,aG q2 t.1,rfl,by rw[ek];exact q3,q4,q5,λi hi=>by unfold zD;rw [ek];exact q6 i hi,q7⟩
theorem Kep.one{lo n:Nat}{h:zB}{v:Value}{e sz len:Nat}{vs:List Value}(o:Kep lo n h v e sz len vs):v.oneCell'=true:=by
 rcases o with⟨rfl,_⟩|⟨b,cap,m,q1,q2,rfl,_⟩ <;> rfl
theorem Kep.blk{lo n:Nat}{h:zB}{v:Value}{e sz len:Nat}{vs:List Value}(o:Kep lo n h v e sz len vs){b:Nat}(hb:zH v=some b):lo<=b/\b<n:=by
 rcases o with⟨rfl,_⟩|⟨b',cap,m,q1,q2,rfl,_⟩
 . cases hb
 . injection hb with hb;subst hb;exact⟨q1,q2⟩
theorem Kep.dnl{lo lo' n:Nat}{h:zB}{v:Value}{e sz len:Nat}{vs:List Value}(o:Kep lo n h v e sz len vs)(hl:lo'<=lo):Kep lo' n h v e sz len vs:=by
 rcases o with o|⟨b,cap,m,q1,q2⟩
 . exact .inl o
 . exact .inr ⟨b,cap,m,aW hl q1,q2⟩
theorem own_head{lo n:Nat}{h:zB}{v:Value}{e sz len:Nat}{vs:List Value}(o:Own lo n h v e sz len vs)(h0:0<len):∃b,v = .slice (some ⟨b,0,none⟩) len inf/\lo<=b/\b<n:=by
 rcases o with⟨_,rfl,_⟩|⟨b,q1,q2,rfl,_⟩
 . omega
 . exact⟨b,rfl,q1,q2⟩
theorem own_put{lo n i b cap:Nat}{h:zB}{v x:Value}{e sz len:Nat}{vs:List Value}(o:Own lo n h v e sz len vs)(hv:v = .slice (some ⟨b,0,none⟩) len cap)(hi:i<vs.length):Own lo n (hst h b i [x]) v e sz len (vs.set i x):=by
 rcases o with⟨rfl,_⟩|⟨b2,q1,q2,rfl,q3,q4,q5,q6⟩
 . cases hv
 injection hv with hv _ _
 injection hv with hv
 injection hv with hv _
 subst hv;refine .inr ⟨b2,q1,q2,rfl,by rw[zX,if_pos rfl,sA,bh];exact q3,by rw[bh];exact q4,q5,λj=>?_⟩;unfold zD;rw [zX,if_pos rfl,cellOf_stC _ _ _ q3 qM qK];by_cases e:i=j
 . subst e;rw [if_pos qL,bB,bY hi];rfl
 . rw[if_neg qM,bH e];exact q6 j
theorem stp_own{lo n i b cap:Nat}{h:zB}{v x:Value}{e sz len:Nat}{vs:List Value}(o:Own lo n h v e sz len vs)(hv:v = .slice (some ⟨b,0,none⟩) len cap)(hi:i<vs.length)(hx:x.oneCell'=true):StP h (ptr b i) [x] (hst h b i [x]):=by
 rcases o with⟨rfl,_⟩|⟨b2,q1,q2,rfl,q3,q4,q5,q6⟩
 . cases hv
 injection hv with hv _ _
 injection hv with hv
 injection hv with hv _
 subst hv;exact⟨b2,i,vs.length,zc e sz,1,rfl,q3,⟨by decide,by decide⟩,by simp;omega,λy hy=>by simp at hy;subst hy;exact hx,rfl⟩
namespace M
def vY(ws:List Nat)(k:Nat):Bool:=((ws[k / 64]?).getD 0).testBit (k % 64)
structure SetW (ws:List Nat):Prop where
 lt:∀w∈ws,w<18446744073709551616
 tr:∀w,ws.getLast? = some w->w≠0
 le:ws.length<=1024
def sX(ws:List Nat):Nat->Nat
 | 0=>0
 | k+1=>if ws[k]? = some 0 then sX ws k else k+1
theorem trimN_le(ws:List Nat):∀k,sX ws k<=k:=by
 intro k
 induction k with
 | zero=>exact ad _
 | succ k ih=>
  unfold sX;split
  . omega
  . exact ad _
theorem trimN_zero(ws:List Nat):∀k j,sX ws k<=j->j<k->ws[j]? = some 0:=by
 intro k
 induction k with
 | zero=>intro j h1 h2;omega
 | succ k ih=>
  intro j h1 h2;unfold sX at h1;split at h1
  . rename_i h0;rcases ai.1 h2 with h9|rfl
    . exact ih j h1 h9
    . exact h0
  . omega
theorem trimN_last(ws:List Nat):∀k,0<sX ws k->ws[sX ws k - 1]?≠some 0:=by
 intro k
 induction k with
 | zero=>intro h;exact absurd h (dO 0)
 | succ k ih=>
  unfold sX;split
  . exact ih
  . rename_i h0;intro _;exact h0
theorem trim_has(ws:List Nat)(k:Nat):vY (ws.take (sX ws ws.length)) k=vY ws k:=by
 unfold vY;rw [List.getElem?_take];split
 . rfl
 . rename_i h;rcases aS (k / 64) ws.length with h9|h9
   . rw[trimN_zero ws ws.length (k / 64) qJ  h9];simp
   . rw[aw h9]
theorem trim_set{ws:List Nat}(h:∀w∈ws,w<18446744073709551616)(hl:ws.length<=1024):SetW (ws.take (sX ws ws.length)):=by
 have hle:=trimN_le ws ws.length;refine⟨λw hw=>h w (dt hw),λw hw=>?_,by rw[aI];omega⟩
 rintro rfl
 rw[List.getLast?_eq_getElem?,aI,b8 hle]at hw;have h1:=(ab.1 hw).1;rw [aI]at h1;rw [aJ qJ]at hw;exact trimN_last ws ws.length qJ  hw
theorem has_put{ws:List Nat}{a k:Nat}(ha:a / 64<ws.length):vY (ws.set (a / 64) (((ws[a / 64]?).getD 0) ||| 2 ^ (a % 64))) k=(vY ws k || decide (k=a)):=by
 unfold vY;rw [dg];split
 . rename_i e;rw [<- e];show(((ws[a / 64]?).getD 0) ||| 2 ^ (a % 64)).testBit (k % 64)=_;rw [Nat.testBit_or,Nat.testBit_two_pow];congr 1
   refine decide_eq_decide.2 ⟨λh=>?_,λh=>by rw[h]⟩;have:=Nat.div_add_mod a 64;have:=Nat.div_add_mod k 64;omega
 . rename_i e;have:¬k=a:=λh=>e (by rw[h]);rw [decide_eq_false this,eu]
theorem has_grow{ws:List Nat}{k:Nat}:vY (ws++[0]) k=vY ws k:=by
 unfold vY;rcases cn (k / 64) ws.length with h|h|h
 . rw[az h]
 . rw[ax qJ,h,bB,aw (ad _)];simp
 . rw[aw qM,aw qJ]
theorem or_lt{a m:Nat}(ha:a<18446744073709551616)(hm:m<64):a ||| 2 ^ m<18446744073709551616:=by
 have h1:a<2 ^ 64:=ha;have h2:2 ^ m<2 ^ 64:=dU qK  hm;exact Nat.or_lt_two_pow h1 h2
def subW(a b:List Nat):List Nat:=(List.range (max a.length b.length)).map λi=>(a[i]?).getD 0 ^^^ ((a[i]?).getD 0 &&& (b[i]?).getD 0)
theorem sub_has(a b:List Nat)(k:Nat):vY (subW a b) k=(vY a k && !vY b k):=by
 unfold vY subW;rw [ao];rcases aS (k / 64) (max a.length b.length) with h|h
 . rw[cN h];show((a[k / 64]?).getD 0 ^^^ ((a[k / 64]?).getD 0 &&& (b[k / 64]?).getD 0)).testBit (k % 64)=_;rw [Nat.testBit_xor,dX];cases ((a[k / 64]?).getD 0).testBit (k % 64) <;> cases ((b[k / 64]?).getD 0).testBit (k % 64) <;> rfl
 . rw[aw (by simpa using h),aw (l:=a) qJ];simp
theorem getD_lt{a:List Nat}(ha:∀w∈a,w<18446744073709551616)(i:Nat):(a[i]?).getD 0<18446744073709551616:=by
 cases e:a[i]? with
 | none=>exact(by decide:0<18446744073709551616)
 | some w=>exact ha w (ae e)
theorem andn_lt{x y:Nat}(hx:x<18446744073709551616):x ^^^ (x &&& y)<18446744073709551616:=by
 have h1:x<2 ^ 64:=hx;exact Nat.xor_lt_two_pow h1 (bV Nat.and_le_left h1)
theorem bit_has{w m:Nat}:(((w >>> m) &&& 1:Nat):Int)≠0↔w.testBit m=true:=by
 have e:w.testBit m=((w >>> m &&& 1) != 0):=by unfold Nat.testBit;rw [Nat.and_comm]
 rw[e];generalize (w >>> m &&& 1)=x
 rw[bne_iff_ne];omega
end M
end Go.Ex
namespace Go.Ex.M
section
def Sml:Nat->List RegT->Prop
 | 0,l=>l=[]
 | k+1,l=>l.length<=200/\∀r∈l,Sml k r.subs
theorem sml_of:∀(k:Nat) (d:Int) (base:Pl) (l:List RegT) (s s':GSt),d+k=7->yU (k+1) d base l s = .ok s'->s'.ns.length<=200->Sml k l:=by
 intro k
 induction k with
 | zero =>
  intro d base l s s' hd h _
  cases l with
  | nil=>rfl
  | cons r l=>
   unfold yU at h;rw [cz,gStep_e1 (gOne4 qJ),wC]at h;cases h
 | succ k ih =>
  intro d base l s s' hd h hle
  have go:∀(l:List RegT) (sibs:List Pl) (s:GSt) (x:List Pl×GSt),l.foldl (uV (yU (k+1) (d+1)) d base) (.ok (sibs,s)) = .ok x->s.ns.length+l.length<=x.2.ns.length/\∀r∈l,∃p s1 s2,yU (k+1) (d+1) p r.subs s1 = .ok s2/\s2.ns.length<=x.2.ns.length:=by
   intro l
   induction l with
   | nil=>
    intro sibs s x h;injection h with h
    exact h ▸ ⟨ad _,λr hr=>by cases hr⟩
   | cons r l ihl =>
    intro sibs s x h;rw [cz]at h
    cases hg:sV d base sibs s r with
    | error e=>rw [gStep_e1 hg,wC]at h;cases h
    | ok p =>
     cases hr:yU (k+1) (d+1) p r.subs ⟨s.ns++[r.name],s.ps++[p]⟩ with
     | error e=>rw [gStep_e2 hg hr,wC]at h;cases h
     | ok s2=>
      rw[gStep_ok hg hr]at h;have h1:(s.ns++[r.name]).length<=s2.ns.length:=gDown_ge _ _ _ _ _ _ hr;obtain⟨h2,h3⟩:=ihl _ _ _ h;rw [ah]at h1;simp only[ay,aX]at h1 ⊢;refine⟨by omega,λr' hr'=>?_⟩;rcases au.1 hr' with rfl|hr'
      . exact⟨p,_,s2,hr,by omega⟩
      . exact h3 r' hr'
  unfold yU at h
  cases hf:l.foldl (uV (yU (k+1) (d+1)) d base) (.ok ([],s)) with
  | error e=>rw [hf]at h;cases h
  | ok x=>
   rw[hf]at h;injection h with h
   subst h;obtain⟨h1,h2⟩:=go l [] s x hf;refine⟨by omega,λr hr=>?_⟩;obtain⟨p,s1,s2,h3,h4⟩:=h2 r hr;exact ih (d+1) p r.subs s1 s2 qJ  h3 qJ 
theorem geo_sml{l:List RegT}{s:GSt}(h:geoP l = .ok s):Sml 6 l:=sml_of 6 1 _ _ _ _ rfl h (geo_ok h).le
theorem flat_set{α : Type}{f: α->List Value}{sz:Nat}(hf:∀x,(f x).length=sz){v:Value}{x y: α}{j:Nat}(hj:j<sz)(hy:f y=(f x).set j v):∀{l:List α} {i:Nat},l[i]? = some x->(l.flatMap f).set (i*sz+j) v=(l.set i y).flatMap f:=by
 intro l
 induction l with
 | nil=>intro i h;cases h
 | cons a l ih =>
  intro i h
  cases i with
  | zero=>
   cases h
   rw[aV,List.set_cons_zero,aV,List.set_append_left _ _ (by rw[hf];omega),hy,bI,aK]
  | succ i=>
   have h:l[i]? = some x:=h;rw [aV,List.set_cons_succ,aV,dE _ _ (by rw[hf,cL];omega),hf,<- ih h];congr 2
   rw[cL];omega
end
section
theorem nodup_at{l:List Tx}{i j:Nat}{x:Tx}(hn:l.Nodup)(hi:l[i]? = some x)(hj:l[j]? = some x):i=j:=by
 have h1:=(ab.1 hi).1;exact(List.getElem?_inj h1 hn).1 (hi.trans hj.symm)
def numL(l:List Tx):List (Tx×Value):=l.zipIdx.map λp=>(p.1,I64 (p.2:Nat))
theorem numL_snoc{l:List Tx}{i:Nat}{x:Tx}(h:l[i]? = some x):numL (l.take (i+1))=numL (l.take i)++[(x,I64 (i:Nat))]:=by
 have hl:i<l.length:=(ab.1 h).1;unfold numL;rw [bZ,h];rw [List.zipIdx_append,aC,aI,b8 qJ];simp
theorem numL_key{l:List Tx}{p:Tx×Value}(h:p∈numL l):p.1∈l:=by
 unfold numL at h;obtain⟨q,hq,rfl⟩:=aB.1 h;obtain⟨a,b⟩:=q;have:=List.mem_zipIdx hq;obtain⟨_,_,e⟩:=this;show a∈l;rw [e];exact aM _
theorem uO{l:List Tx}{i:Nat}{x:Tx}(h:l[i]? = some x)(hn:l.Nodup):∃A B,numL l=A++(x,I64 (i:Nat))::B/\∀p∈A,p.1≠x:=by
 have hl:i<l.length:=(ab.1 h).1;have e:l=l.take (i+1)++l.drop (i+1):=(dH _ _).symm;refine⟨numL (l.take i),(l.drop (i+1)).zipIdx (i+1) |>.map λp=>(p.1,I64 (p.2:Nat)),?_,λp hp hx=>?_⟩
 . have h1:=numL_snoc h
   have h2:numL l=numL (l.take (i+1))++((l.drop (i+1)).zipIdx (i+1)).map λp=>(p.1,I64 (p.2:Nat)):=by
    conv=>lhs;rw [e]
    unfold numL;rw [List.zipIdx_append,aC,aI,b8 qJ];simp
   rw[h2,h1,ba];rfl
 . have h3:=numL_key hp;rw [hx]at h3;obtain⟨j,hj⟩:=aj.1 h3;have gq:j<i:=by have:=(ab.1 hj).1;rw [aI]at this;omega
   rw[aJ gq]at hj;have:=nodup_at hn hj h;omega
theorem take_map{α β : Type}{f: α->β}{l:List α}{i:Nat}{x: α}(h:l[i]? = some x):(l.take (i+1)).map f=(l.take i).map f++[f x]:=by
 rw[bZ,h];simp
theorem idx_at{l:List Tx}{x:Tx}(h:x∈l):l[l.idxOf x]? = some x:=by
 have h1:=bj.2 h;rw [aa h1,cU h1]
end
section
theorem pre_pos:∀(k:Nat) (d:Int) (l:List RegT) (e:RegT×Int),e∈preL k d l->d<=e.2/\e.2<d+k:=by
 intro k
 induction k with
 | zero=>intro d l e he;cases he
 | succ k ih=>
  intro d l e he;obtain⟨r,_,he⟩:=bE.1 he;rcases au.1 he with rfl|he
  . exact⟨Int.le_refl _,by show d<d+((k+1:Nat):Int);omega⟩
  . have:=ih _ _ _ he;omega
def wOf(wm:List (Pl×Value×List Pl)):List (Pl×List Pl):=wm.map λx=>(x.1,x.2.2)
theorem wOf_at{wm:List (Pl×Value×List Pl)}{i:Nat}{y:Pl×List Pl}(h:(wOf wm)[i]? = some y):∃v,wm[i]? = some (y.1,v,y.2):=by
 unfold wOf at h;rw [ao]at h
 cases e:wm[i]? with
 | none=>rw [e]at h;cases h
 | some x=>rw [e]at h;cases h;exact⟨x.2.1,rfl⟩
theorem wOf_step{wm:List (Pl×Value×List Pl)}{dn:Nat}{top:Pl×Value×List Pl}{v' nv:Value}{p:Pl}(h:wm[dn]? = some top):wOf ((wm.take (dn+1)).set dn (top.1,v',top.2.2++[p])++[(p,nv,[])])=(wOf wm).take dn++[(top.1,top.2.2++[p]),(p,[])]:=by
 have hl:=(ab.1 h).1
 have e1:(wm.take (dn+1)).set dn (top.1,v',top.2.2++[p])=wm.take dn++[(top.1,v',top.2.2++[p])]:=by
  rw[yV h,dE _ _ (by rw[aI];omega),aI,b8 qJ,bB];rfl
 unfold wOf;rw [e1,aC,aC,<- List.map_take];simp
structure WInv (w:WSt) (wm:List (Pl×Value×List Pl)) (roots:Int):Prop where
 ways:w.ways=wOf wm
 len:wm.length<=8
 rts:∀top,wm[0]? = some top->roots=(top.2.2.length:Nat)
 el:∀(i:Nat) x,wm[i]? = some x->(0<i->PlG x.1)/\(∀q∈x.2.2,PlG q)/\x.2.2.length<=w.ns.length
 ok:GOK ⟨w.ns,w.ps⟩
theorem WInv.init{v:Value}:WInv ⟨[],[],[(⟨0,0,0⟩,[])]⟩ [(⟨0,0,0⟩,v,[])] 0:=⟨rfl,by simp,λtop h=>by cases h;rfl,λi x h=>(by
 cases i with
 | zero=>cases h;exact⟨λh=>absurd h (dO 0),λq hq=>(by cases hq),ad _⟩
 | succ i=>cases h),⟨List.nodup_nil,rfl,an _,λp hp=>(by cases hp),λx hx=>(by cases hx)⟩⟩
theorem WInv.step{w:WSt}{wm:List (Pl×Value×List Pl)}{roots:Int}(g:WInv w wm roots){x:RegT}{dn:Nat}{top:Pl×Value×List Pl}{p:Pl}{v' nv:Value}(hd:dn<=6)(ht:wm[dn]? = some top)(h:sV ((dn+1:Nat):Int) top.1 top.2.2 ⟨w.ns,w.ps⟩ x = .ok p) :
 wStep (.ok w) (x,((dn+1:Nat):Int)) = .ok ⟨w.ns++[x.name],w.ps++[p],(wOf wm).take dn++[(top.1,top.2.2++[p]),(p,[])]⟩/\WInv ⟨w.ns++[x.name],w.ps++[p],(wOf wm).take dn++[(top.1,top.2.2++[p]),(p,[])]⟩ ((wm.take (dn+1)).set dn (top.1,v',top.2.2++[p])++[(p,nv,[])]) (if dn=0 then roots+1 else roots):=by
 have hl:=(ab.1 ht).1
 have e1:(wm.take (dn+1)).set dn (top.1,v',top.2.2++[p])=wm.take dn++[(top.1,v',top.2.2++[p])]:=by
  rw[yV ht,dE _ _ (by rw[aI];omega),aI,b8 qJ,bB];rfl
 obtain⟨g1,g2,g3⟩:=g.el dn top ht
 obtain⟨h1,h2,h3⟩:=gOne_ok h g.ok (by
  rcases bK dn with h9|h9
  . exact .inl qJ 
  . exact .inr (g1 h9))
 refine⟨?_,(wOf_step ht).symm,?_,λt e=>?_,λi y e=>?_,h3⟩
 . unfold wStep;have e2:(((dn+1:Nat):Int) - 1).toNat=dn:=by omega
   dsimp only;rw [e2,g.ways,show(wOf wm)[dn]? = some (top.1,top.2.2) by unfold wOf;rw [ao,ht];rfl];dsimp only;rw [h]
 . rw[e1];simp;omega
 . rw[e1]at e;rcases bK dn with h9|h9
   . subst h9;cases e
     rw[if_pos rfl,g.rts top ht];simp
   . rw[if_neg qJ];rw [ba,az (by rw[aI];omega),aJ h9]at e;exact g.rts t e
 . rw[e1,ba]at e;have gf:(w.ns++[x.name]).length=w.ns.length+1:=by simp
   show(0<i->PlG y.1)/\(∀q∈y.2.2,PlG q)/\y.2.2.length<=(w.ns++[x.name]).length;rw [gf];rcases cn i dn with h9|h9|h9
   . rw[az (by rw[aI];omega),aJ h9]at e;obtain⟨k1,k2,k3⟩:=g.el i y e;exact⟨k1,k2,by omega⟩
   . subst h9;rw [ax (by rw[aI];omega),aI,b8 qJ,bB]at e;cases e
     refine⟨g1,λq hq=>?_,by show(top.2.2++[p]).length<=_;simp;omega⟩;rcases aA.1 hq with hq|hq
     . exact g2 q hq
     . simp at hq;subst hq;exact h2
   . rw[ax (by rw[aI];omega),aI,b8 qJ]at e;rcases(show i - dn=1\/2<=i - dn by omega) with h8|h8
     . rw[h8]at e;cases e
       exact⟨λ_=>h2,λq hq=>(by cases hq),an _⟩
     . rw[aw qM]at e;cases e
theorem WInv.bad{w:WSt}{wm:List (Pl×Value×List Pl)}{roots:Int}(g:WInv w wm roots){x:RegT}{dn:Nat}{top:Pl×Value×List Pl}{e:Int}(ht:wm[dn]? = some top)(h:sV ((dn+1:Nat):Int) top.1 top.2.2 ⟨w.ns,w.ps⟩ x = .error e):wStep (.ok w) (x,((dn+1:Nat):Int)) = .error e:=by
 unfold wStep;have e2:(((dn+1:Nat):Int) - 1).toNat=dn:=by omega
 dsimp only;rw [e2,g.ways,show(wOf wm)[dn]? = some (top.1,top.2.2) by unfold wOf;rw [ao,ht];rfl];dsimp only;rw [h]
theorem geo_bad{l:List RegT}{done:List (RegT×Int)}{x:Int}(hp:done <+: preL 7 1 l)(h:done.foldl wStep (.ok ⟨[],[],[(⟨0,0,0⟩,[])]⟩) = .error x):geoP l = .error x:=by
 obtain⟨t,ht⟩:=hp;have e:(preL 7 1 l).foldl wStep (.ok ⟨[],[],[(⟨0,0,0⟩,[])]⟩) = .error x:=by rw[<- ht,cj,h,wStep_err]
 rcases geo_walk l with⟨y,h1,h2⟩|⟨s,ways,h1,_⟩
 . rw[h1]at e;cases e;exact h2
 . rw[h1]at e;cases e
theorem geo_top{l:List RegT}{done:List (RegT×Int)}{w:WSt}{x:RegT}{dn:Nat}(hp:(done++[(x,((dn+1:Nat):Int))]) <+: preL 7 1 l)(h:done.foldl wStep (.ok ⟨[],[],[(⟨0,0,0⟩,[])]⟩) = .ok w):∃top,w.ways[dn]? = some top:=by
 cases e:w.ways[dn]? with
 | some top=>exact⟨top,rfl⟩
 | none =>
  exfalso
  have e2:(((dn+1:Nat):Int) - 1).toNat=dn:=by omega
  have:=geo_bad (x:=0) hp (by
   rw[cj,h];show wStep (.ok w) (x,((dn+1:Nat):Int))=_;unfold wStep;dsimp only;rw [e2,e])
  exact geo_err this rfl
end
end Go.Ex.M
namespace Go.Ex
section
def Kx(e:Nat)(h:zB)(n:Nat)(h':zB)(n':Nat):Prop:=n<=n'/\∀b m z,b<n->z≠zc e 1->yC (zG h b)=some (m,z,1)->zG h' b=zG h b
section
variable {e e' sz lo lo' n n' n2 len:Nat} {h h' h2:zB} {v v':Value} {vs cs:List Value}
theorem Tch.kx(t:Tch [] h n h' n'):Kx e h n h' n':=⟨t.1,λb _ _ hb _ _=>t.2 b hb qL⟩
theorem kx_own(o:Own lo n h v e 1 len vs)(t:Tch (zH v).toList h n h' n'):Kx e h n h' n':=⟨t.1,λb m z hb hz hi=>t.2 b hb λhx=>by
 rcases o with⟨rfl,_⟩|⟨b2,q1,q2,rfl,p3,_⟩
 . cases hx
 . have hx:b∈(some b2).toList:=hx;simp at hx;subst hx;rw [p3]at hi;injection hi with hi
   injection hi with _ hi
   injection hi with hi _
   exact hz hi.symm⟩
theorem kx_cel{bt z:Nat}(c:Cel h bt z 0 cs)(t:Tch [bt] h n h' n'):Kx e h n h' n':=⟨t.1,λb m z' hb hz hi=>t.2 b hb λhx=>by
 simp at hx;subst hx;rw [c.1]at hi;exact absurd (kd_of hi) qK⟩
theorem Kx.trans(k:Kx e h n h' n')(k2:Kx e h' n' h2 n2):Kx e h n h2 n2:=⟨aW k.1 k2.1,λb m z hb hz hi=>by
 have e1:=k.2 b m z hb hz hi;rw [k2.2 b m z (aG hb k.1) hz (by rw[e1];exact hi),e1]⟩
theorem Own.kx(o:Own lo n h v e' sz len vs)(k:Kx e h n h' n')(eJ:e'≠e\/sz≠1):Own lo n' h' v e' sz len vs:=by
 rcases o with o|⟨b2,q1,q2,rfl,p3,p4,p5,p6⟩
 . exact .inl o
 . have ek:=k.2 b2 _ _ q2 (λhz=>by have:=zc_inj hz;omega) p3;exact .inr ⟨b2,q1,aG q2 k.1,rfl,by rw[ek];exact p3,p4,p5,λi=>by unfold zD;rw [ek];exact p6 i⟩
theorem Kep.kx(o:Kep lo n h v e' sz len vs)(k:Kx e h n h' n')(eJ:e'≠e\/sz≠1):Kep lo n' h' v e' sz len vs:=by
 rcases o with o|⟨b2,cap,m,q1,q2,rfl,p3,p4,p5,p6,p7⟩
 . exact .inl o
 . have ek:=k.2 b2 _ _ q2 (λhz=>by have:=zc_inj hz;omega) p3;exact .inr ⟨b2,cap,m,q1,aG q2 k.1,rfl,by rw[ek];exact p3,p4,p5,λi hi=>by unfold zD;rw [ek];exact p6 i hi,p7⟩
end
def Lst{α : Type}(e:Nat)(val: α->Value)(El:Nat->Nat->zB->α->Prop)(lo n:Nat)(h:zB)(v:Value)(L:List α):Prop:=Own lo n h v e 1 L.length (L.map val)/\∀x∈L,El lo n h x
section
variable {α : Type} {e e2 lo lo' n n':Nat} {val: α->Value} {El:Nat->Nat->zB->α->Prop} {h h':zB} {v v':Value} {L:List α} {x: α}
theorem Lst.nil:Lst e val El lo n h (.slice none 0 0) []:=⟨Own.nil,λx hx=>by cases hx⟩
theorem Lst.kx(o:Lst e val El lo n h v L)(k:Kx e2 h n h' n')(eJ:e≠e2)(hEl:∀x,El lo n h x->El lo n' h' x):Lst e val El lo n' h' v L:=⟨o.1.kx k (.inl eJ),λx hx=>hEl x (o.2 x hx)⟩
theorem Lst.cel{bt z:Nat}{cs:List Value}(o:Lst e val El lo n h v L)(c:Cel h bt z 0 cs)(t:Tch [bt] h n h' n')(hEl:∀x,El lo n h x->El lo n' h' x):Lst e val El lo n' h' v L:=⟨o.1.tch t (λb hb hx=>by simp at hx;subst hx;exact yK c o.1 (by rw[hb];simp)),λx hx=>hEl x (o.2 x hx)⟩
theorem Lst.app(o:Lst e val El lo n h v L)(o':Own n n' h' v' e 1 (L.length+1) (L.map val++[val x]))(hn:lo<=n)(hEl:∀y,El lo n h y->El lo n' h' y)(hx:El lo n' h' x):Lst e val El lo n' h' v' (L++[x]):=⟨by rw[ah,aC];exact o'.dnl hn,λy hy=>by
 rcases aA.1 hy with h9|h9
 . exact hEl y (o.2 y h9)
 . simp at h9;subst h9;exact hx⟩
end
end
end Go.Ex
namespace Go.Ex.M
section
abbrev nilV:Value:=.slice none 0 0
def nam(i:Nat):Tx:=[114,UInt8.ofNat (48+i / 10),UInt8.ofNat (48+i % 10)]
def smR(n:Nat):List RegT:=(List.range n).map λi=>.mk (nam i) 8 0 nilV []
def smN(n:Nat):List Tx:=(List.range n).map nam
def smP(n:Nat):List Pl:=(List.range n).map λi=>⟨(i:Nat),0,8⟩
def gO:OperT:=⟨[103],[]⟩
def addT:Tx:=[97,100,100]
def notT:Tx:=[110,111,116]
def divT:Tx:=[100,105,118]
structure SmV where
 r:Value
 c:Value
 cr:Value
 o:Value
 u0:Value
 u1:Value
 u2:Value
 a:Value
abbrev smM(v:SmV)(n:Nat)(tie:Int)(fx:Tx):MachT:=⟨[109],v.r,smR n,v.c,[⟨[103],v.cr,smN n⟩],v.o,[⟨addT,gO,v.u0,[gO,gO],tie,nilV,[]⟩,⟨notT,gO,v.u1,[gO],-1,nilV,[]⟩,⟨divT,gO,v.u2,[gO,⟨[103],fx⟩],-1,nilV,[]⟩],v.a,[nam 0],nam 0,nilV,[],100⟩
def geoB(n:Nat):Bool:=match geoP (smR n) with
 | .ok s=>decide (s.ns=smN n) && decide (s.ps=smP n)
 | .error _=>false
def regsB(n:Nat):Bool:=decide ([103]∉smN n) && (List.range n).all λj=>decide (pos (smN n) (nam j)=(j:Nat)) && decide ((yJ (smN n) (smP n) (nam j))=⟨(j:Nat),0,8⟩)
theorem geo_all:∀n∈List.range 41,geoB n=true:=by decide +kernel
theorem regs_all:∀n∈List.range 41,regsB n=true:=by decide +kernel
section
variable {n:Nat}
theorem sm_geo(h:n<=40):geoP (smR n) = .ok ⟨smN n,smP n⟩:=by
 have:=geo_all n (bU.2 qJ);unfold geoB at this;split at this
 . rename_i s e;obtain⟨h1,h2⟩:=ak.1 this;rw [e,<- of_decide_eq_true h1,<- of_decide_eq_true h2]
 . cases this
theorem sm_regs(h:n<=40):[103]∉smN n/\∀j,j<n->pos (smN n) (nam j)=(j:Nat)/\yJ (smN n) (smP n) (nam j)=⟨(j:Nat),0,8⟩:=by
 have:=regs_all n (bU.2 qJ);obtain⟨h1,h2⟩:=ak.1 this;refine⟨of_decide_eq_true h1,λj hj=>?_⟩;obtain⟨h3,h4⟩:=ak.1 (aH.1 h2 j (bU.2 hj));exact⟨of_decide_eq_true h3,of_decide_eq_true h4⟩
theorem smN_len:(smN n).length=n:=by unfold smN;rw [aD,dz]
theorem smN_at{j:Nat}(h:j<n):(smN n)[j]? = some (nam j):=by unfold smN;rw [ao,cN h];rfl
theorem smN_mem{j:Nat}(h:j<n):nam j∈smN n:=ae (smN_at h)
theorem sm_wd(h:n<=40)(h0:0<n)(cr:Value):wdOf (smN n) (smP n) ⟨[103],cr,smN n⟩=8:=by
 unfold wdOf;dsimp only;split
 . rename_i e;have:=smN_len (n:=n);rw [e]at this;simp at this;omega
 . rename_i r l e;have:=smN_at (n:=n) h0;rw [e]at this;injection this with this
   rw[this,((sm_regs h).2 0 h0).2]
theorem lap_far{i j:Nat}(h:i≠j):sU ⟨(i:Nat),0,8⟩ ⟨(j:Nat),0,8⟩=false:=decide_eq_false λ⟨h1,_⟩=>h (by dsimp only at h1;omega)
variable {v:SmV} {tie:Int} {fx:Tx}
theorem sm_may(h:n<=40){j:Nat}(hj:j<n){fix:Tx}(hf:fix=[]\/fix=nam j):(⟨(j:Nat),0,8⟩:Pl)∈tL (smM v n tie fx) (smN n) (smP n) ⟨[103],fix⟩:=by
 show _∈((smN n).filter (mayF ⟨[103],fix⟩)).map (yJ (smN n) (smP n));refine aB.2 ⟨nam j,b7.2 ⟨smN_mem hj,?_⟩,((sm_regs h).2 j hj).2⟩;unfold mayF;rcases hf with rfl|rfl
 . rfl
 . simp
theorem sm_fit2(h:n<=40){o:OpT}{u w:OperT}(hu:o.uses=[u,w])(hd:o.d=gO)(hc:o.clob=[])(h0:0<n){i j:Nat}(hi:i<n)(hj:j<n)(hij:i≠j)(h1:u=gO)(h2:w.cls=[103]/\(w.fix=[]\/w.fix=nam j)):fitsB (smM v n tie fx) (smN n) (smP n) o=true:=by
 unfold fitsB chL;rw [hu];dsimp only;obtain⟨wc,wf⟩:=w;obtain⟨h2,h4⟩:=h2;dsimp only at h2 h4;subst h1 h2;refine ap.2 ⟨[⟨(i:Nat),0,8⟩,⟨(j:Nat),0,8⟩],bE.2 ⟨_,sm_may h hi (.inl rfl),aB.2 ⟨_,b7.2 ⟨sm_may h hj h4,by rw[lap_far hij];rfl⟩,rfl⟩⟩,?_⟩;unfold defB sparB;rw [hc,hd];split
 . rfl
 . exact ap.2 ⟨_,sm_may h h0 (.inl rfl),rfl⟩
end
end
end Go.Ex.M
namespace Go.Proofs.YtdiejolnllipnaaGreatDoor
open Go Go.Ex Go.Ex.M
set_option maxRecDepth 100000
set_option maxHeartbeats 8000000
section
theorem lap_pur(a b:Pl)(ha:PlOK a)(hb:PlOK b)(h:zB)(n:Nat):Pur P 8 93 [plV a,plV b] h n (.bool (sU a b)):=by
 obtain⟨ha1,ha2⟩:=ha;obtain⟨fP,fk⟩:=hb;refine Com.pure (ent λu=>?_) (.inl rfl);repeat' first|refine wk ?_|apply cX <;> intro
 all_goals refine lap_fin ?_ zA
 all_goals unfold lapP
 . exact⟨Bool.noConfusion,by omega⟩
 . exact⟨Bool.noConfusion,by omega⟩
 . exact⟨Bool.noConfusion,by omega⟩
 . rw[decide_eq_true_iff,lap_u fP ha1 fk qJ qJ];split <;> omega
 . rw[decide_eq_true_iff,lap_u ha1 fP ha2 qJ qJ];split <;> omega
theorem within_pur(a b:Pl)(ha:PlOK a)(hb:PlOK b)(h:zB)(n:Nat):Pur P 8 96 [plV a,plV b] h n (.bool (withinB a b)):=by
 obtain⟨ha1,ha2⟩:=ha;obtain⟨fP,fk⟩:=hb;refine Com.pure (ent λu=>?_) (.inl rfl);repeat' first|refine wk ?_|apply cX <;> intro
 all_goals refine within_fin ?_ zA
 all_goals unfold withinP
 . exact⟨Bool.noConfusion,by omega⟩
 . exact⟨λ_=>by omega,λ_=>rfl⟩
 . exact⟨Bool.noConfusion,by omega⟩
 . exact⟨Bool.noConfusion,by omega⟩
 . rename_i h5;rw [le_u fP ha1 fk qJ qJ]at h5;rw [decide_eq_true_iff,within_u fP ha1 fk ha2 qJ qJ qJ  h5];omega
 . rename_i h5;rw [le_u fP ha1 fk qJ qJ]at h5;exact⟨Bool.noConfusion,by omega⟩
end
section
theorem qG{lo e n:Nat}{h:zB}{sv:Value}{ss:List Tx}{x:Tx}(r:Row lo h sv e 1 ss.length (ss.map str))(hl:ss.length<4611686018427387904):Pur P 8 144 [sv,str x] h n (I64 (pos ss x)):=by
 refine ent λu=>?_;repeat' first|refine wk ?_|apply cX <;> intro
 refine lpR (λk:Nat=>[(0,sv),(1,str x),(6,sv),(7,I64 ss.length),(8,I64 k)]) (λk h' n'=>h'=h/\n'=n/\k<=ss.length/\∀j,j<k->ss[j]?≠some x) (λk=>ss.length - k) 0 ⟨rfl,rfl,an _,λj hj=>by omega⟩ ?_
 rintro k t h' n' ⟨rfl,rfl,hk,eG⟩
 by_cases eD:k<ss.length
 . have c1:zD h' (sbk sv) (sof sv+k*1)=some (str ss[k]):=by rw[aQ];exact r.at (str_at eD)
   repeat' first|refine wk ?_|apply cX <;> intro
   . rename_i e1;exact⟨by rw[pos_hit (by rw[aa eD,e1]) eG],rfl,rfl⟩
   . rename_i e1
     exact⟨k+1,by dsimp only;omega,⟨rfl,rfl,rfl,rfl,rfl,trivial⟩,rfl,rfl,by omega,λj hj e2=>by
      rcases ai.1 hj with h9|rfl
      . exact eG j h9 e2
      . rw[aa eD]at e2;exact e1 (Option.some.inj e2).symm⟩
 . obtain rfl:k=ss.length:=by omega
   repeat' first|refine wk ?_|apply cX <;> intro
   exact⟨by rw[pos_no eG],rfl,rfl⟩
end
section
instance (c:Nat) (h:zB) (n:Nat):PurC P 8 109 [.int .u8 c] h n (.bool (letB c)):=⟨by
 refine ent λu=>?_;repeat' first|refine wk ?_|apply cX <;> intro
 all_goals (first|unfold letB|unfold digB|skip);all_goals (refine finB ?_;first|exact⟨λ_=>by omega,λ_=>rfl⟩|exact⟨λh=>Bool.noConfusion h,λh=>by omega⟩|(rw [decide_eq_true_iff];omega))⟩
instance (c:Nat) (h:zB) (n:Nat):PurC P 8 110 [.int .u8 c] h n (.bool (digB c)):=⟨by
 refine ent λu=>?_;repeat' first|refine wk ?_|apply cX <;> intro
 all_goals (first|unfold letB|unfold digB|skip);all_goals (refine finB ?_;first|exact⟨λ_=>by omega,λ_=>rfl⟩|exact⟨λh=>Bool.noConfusion h,λh=>by omega⟩|(rw [decide_eq_true_iff];omega))⟩
instance named_c (s:Tx) (h:zB) (n:Nat):PurC P 8 56 [str s] h n (.bool (xL s)):=⟨by
 refine ent λu=>?_
 cases s with
 | nil=>
  repeat' first|refine wk ?_|apply cX <;> intro
  exact fin rfl
 | cons c r=>
  have c0:(c::r)[0]? = some c:=rfl;have hn:xL (c::r)=(decide ((c::r).length<=20) && letB c.toNat && tailB (c::r)):=rfl;repeat' first|refine wk ?_|apply cX <;> intro
  . rename_i h2;exact fin (by rw[hn,decide_eq_false qJ];rfl)
  . rename_i h2;exact fin (by rw[hn,h2];simp)
  . rename_i h2 h3;replace hn:xL (c::r)=tailB (c::r):=by rw[hn,decide_eq_true qJ,h3];rfl
    generalize c::r=s at *
    refine lpR (λk:Nat=>[(0,str s),(18,I64 s.length),(19,I64 k)]) (λk h' n'=>h'=h/\n'=n/\k<=s.length/\∀j (hj:j<s.length),j<k->letB s[j].toNat=true\/digB s[j].toNat=true) (λk=>s.length - k) 0 ⟨rfl,rfl,an _,λj _ hj=>by omega⟩ ?_
    rintro k t h' n' ⟨rfl,rfl,hk,eG⟩
    by_cases eD:k<s.length
    . have c1:s[k]? = some s[k]:=aa eD
      have go:letB s[k].toNat=true\/digB s[k].toNat=true->∀j (hj:j<s.length),j<k+1->letB s[j].toNat=true\/digB s[j].toNat=true:=λhx j hj eD=>by
       rcases ai.1 eD with h9|rfl
       . exact eG j hj h9
       . exact hx
      repeat' first|refine wk ?_|apply cX <;> intro
      . rename_i h7 h8;refine fin ?_;rw [hn]
        cases h9:tailB s with
        | false=>rfl
        | true=>rcases tail_step eD h9 with e|e <;> simp_all
      . rename_i h7 h8;exact⟨k+1,by dsimp only;omega,⟨rfl,rfl,rfl,trivial⟩,rfl,rfl,by omega,go (.inr h8)⟩
      . rename_i h7;exact⟨k+1,by dsimp only;omega,⟨rfl,rfl,rfl,trivial⟩,rfl,rfl,by omega,go (.inl h7)⟩
    . obtain rfl:k=s.length:=by omega
      repeat' first|refine wk ?_|apply cX <;> intro
      exact fin (by rw[hn,tail_all λj hj=>eG j hj hj])⟩
theorem rJ{lo e n:Nat}{h:zB}{sv:Value}{ss:List Tx}{x:Tx}(r:Row lo h sv e 1 ss.length (ss.map str))(hl:ss.length<4611686018427387904):Pur P 8 142 [sv,str x] h n (.bool (decide (x∈ss))):=by
 refine ent λu=>?_;repeat' first|refine wk ?_|refine cX (λ_=>?_) λ_=>?_|refine zS (qG r hl) ?_|fail
 exact⟨by rw[show decide (0<=pos ss x)=decide (x∈ss) from decide_eq_decide.2 pos_ge],rfl,rfl⟩
instance word_c (s:Tx) (h:zB) (n:Nat):PurC P 8 186 [str s] h n (.bool (wordB s)):=⟨by
 refine Com.pure (ent λu=>?_) (.inl rfl);repeat' first|refine wk ?_|apply cX <;> intro
 refine zS (rJ (ss:=wordsL) (zF (e:=0) (sz:=1) rfl qK) qK) ?_;repeat' first|refine wk ?_|apply cX <;> intro
 exact finT rfl zA⟩
instance dnamed_c (s:Tx) (h:zB) (n:Nat):PurC P 8 140 [str s] h n (.bool (named s)):=⟨by
 refine ent λu=>?_;repeat' first|refine wk ?_|apply cX <;> intro
 all_goals (refine fin ?_;unfold named;simp [*])⟩
end
section
abbrev sR(e:Int):zK:=[⟨.iface 205 (.agg ⟨[I64 e]⟩),false,false⟩]
theorem need_com(z:Bool)(e:Int)(h:zB)(n:Nat):Com P 8 139 [.bool z,I64 e] h n λo h' n'=>o=(if z then .ret (.tuple #[]) else .panic (sR e))/\h'=h/\n'=n:=by
 refine ent λu=>?_;cases z
 . repeat' first|refine wk ?_|apply cX <;> intro
   exact⟨rfl,rfl,rfl⟩
 . repeat' first|refine wk ?_|apply cX <;> intro
   exact⟨rfl,rfl,rfl⟩
instance {z:Bool} {e:Int} {h:zB} {n:Nat} {K:Out->zB->Nat->Prop}:Stp (CallB P 8 139 [.bool z,I64 e] h n K) (Ch z (K (.ret (.tuple #[])) h n) (K (.panic (sR e)) h n)):=⟨λ⟨k1,k2⟩=>cal (need_com z e h n) λo h' n' ⟨e1,e2,e3⟩=>by
 subst e1 e2 e3;cases z
 . exact k2 rfl
 . exact k1 rfl⟩
instance arity_c (s:Tx) (h:zB) (n:Nat):PurC P 8 189 [str s] h n (I64 (arity s)):=⟨by
 refine ent λu=>?_;repeat' first|refine wk ?_|apply cX <;> intro
 all_goals (refine fin ?_;try subst_vars)
 all_goals first|rfl|skip
 . rename_i h1;unfold arity ar2;simp_all⟩
theorem idxf_cls{lo e n:Nat}{h:zB}{sv:Value}{l:List ClassT}{g:FuncId}{fs cs:List Value}{p:ClassT->Bool}(r:Row lo h sv e 2 l.length (l.flatMap clsC))(hl:l.length<inf)(hp:∀x∈l,Pur P 8 g (fs++([.agg ⟨clsC x⟩]++cs)) h n (.bool (p x))):Pur P 8 193 [sv,.func (.func g) ⟨fs⟩ ⟨cs⟩] h n (I64 (posF p l)):=by
 have eM:inf<4611686018427387904:=by decide
 refine ent λu=>?_;repeat' first|refine wk ?_|apply cX <;> intro
 refine lpR (λk:Nat=>[(0,sv),(1,.func (.func g) ⟨fs⟩ ⟨cs⟩),(7,I64 l.length),(8,I64 k)]) (λk h' n'=>h'=h/\n'=n/\k<=l.length/\∀(j:Nat) (y:ClassT),j<k->l[j]? = some y->p y=false) (λk=>l.length - k) 0 ⟨rfl,rfl,an _,λj _ hj=>by omega⟩ ?_
 rintro k t h' n' ⟨rfl,rfl,hk,eG⟩
 by_cases eD:k<l.length
 . have c0:l[k]? = some l[k]:=aa eD;have c1:=zM r c0;have c2:=hp l[k] (aM eD);repeat' first|refine wk ?_|refine cX (λ_=>?_) λ_=>?_|refine zS c2 ?_|fail
   . rename_i e1;exact fin (by rw[posF_hit c0 e1 eG])
   . rename_i e1
     exact⟨k+1,by dsimp only;omega,⟨rfl,rfl,rfl,rfl,trivial⟩,rfl,rfl,by omega,λj y hj e2=>by
      rcases ai.1 hj with h9|rfl
      . exact eG j y h9 e2
      . rw[c0]at e2;cases e2;exact e1⟩
 . obtain rfl:k=l.length:=by omega
   repeat' first|refine wk ?_|apply cX <;> intro
   exact fin (by rw[posF_no λj y hj=>eG j y (ab.1 hj).1 hj])
theorem idxf_op{lo e n:Nat}{h:zB}{sv:Value}{l:List OpT}{g:FuncId}{fs cs:List Value}{p:OpT->Bool}(r:Row lo h sv e 6 l.length (l.flatMap opC))(hl:l.length<inf)(hp:∀x∈l,Pur P 8 g (fs++([.agg ⟨opC x⟩]++cs)) h n (.bool (p x))):Pur P 8 215 [sv,.func (.func g) ⟨fs⟩ ⟨cs⟩] h n (I64 (posF p l)):=by
 have eM:inf<4611686018427387904:=by decide
 refine ent λu=>?_;repeat' first|refine wk ?_|apply cX <;> intro
 refine lpR (λk:Nat=>[(0,sv),(1,.func (.func g) ⟨fs⟩ ⟨cs⟩),(7,I64 l.length),(8,I64 k)]) (λk h' n'=>h'=h/\n'=n/\k<=l.length/\∀(j:Nat) (y:OpT),j<k->l[j]? = some y->p y=false) (λk=>l.length - k) 0 ⟨rfl,rfl,an _,λj _ hj=>by omega⟩ ?_
 rintro k t h' n' ⟨rfl,rfl,hk,eG⟩
 by_cases eD:k<l.length
 . have c0:l[k]? = some l[k]:=aa eD;have c1:=zM r c0;have c2:=hp l[k] (aM eD);repeat' first|refine wk ?_|refine cX (λ_=>?_) λ_=>?_|refine zS c2 ?_|fail
   . rename_i e1;exact fin (by rw[posF_hit c0 e1 eG])
   . rename_i e1
     exact⟨k+1,by dsimp only;omega,⟨rfl,rfl,rfl,rfl,trivial⟩,rfl,rfl,by omega,λj y hj e2=>by
      rcases ai.1 hj with h9|rfl
      . exact eG j y h9 e2
      . rw[c0]at e2;cases e2;exact e1⟩
 . obtain rfl:k=l.length:=by omega
   repeat' first|refine wk ?_|apply cX <;> intro
   exact fin (by rw[posF_no λj y hj=>eG j y (ab.1 hj).1 hj])
end
section
theorem clone_cls{lo n len:Nat}{h:zB}{sv:Value}{vs:List Value}(r:Row lo h sv 56 2 len vs)(eE:lo<=n)(h1:∀y∈vs,y.oneCell'=true)(hlim:len<1000000):Ret P 8 85 [sv] h n λv h' n'=>OwnE n n' h' v 56 2 len vs/\Tch [] h n h' n':=by
 refine ent λu=>?_;have r':=r;rcases r with⟨rfl,rfl,rfl⟩|⟨b,off,cap,m,z,kd,_,rfl,_⟩
 . repeat' first|refine wk ?_|apply cX <;> intro
   exact⟨_,rfl,.inl Own.nil,zA⟩
 . repeat' first|refine wk ?_|apply cX <;> intro
   refine appE (.inr ⟨mty_new (ad n),rfl,rfl⟩) ((r'.tch (S:=[]) zA eE λ_ _ hx=>(by cases hx)).up qJ) qJ  h1 qJ  ?_
   rintro v' h2 n2 ho ht
   have ht2:Tch [] h n h2 n2:=Tch.tch ht zA λx hx=>.inl (by
    have hx:x∈(some n).toList:=hx;simp at hx;omega)
   rw[aK,bF]at ho;repeat' first|refine wk ?_|apply cX <;> intro
   exact⟨_,rfl,ho,ht2⟩
theorem clone_op{lo n len:Nat}{h:zB}{sv:Value}{vs:List Value}(r:Row lo h sv 61 6 len vs)(eE:lo<=n)(h1:∀y∈vs,y.oneCell'=true)(hlim:len<1000000):Ret P 8 86 [sv] h n λv h' n'=>OwnE n n' h' v 61 6 len vs/\Tch [] h n h' n':=by
 refine ent λu=>?_;have r':=r;rcases r with⟨rfl,rfl,rfl⟩|⟨b,off,cap,m,z,kd,_,rfl,_⟩
 . repeat' first|refine wk ?_|apply cX <;> intro
   exact⟨_,rfl,.inl Own.nil,zA⟩
 . repeat' first|refine wk ?_|apply cX <;> intro
   refine appE (.inr ⟨mty_new (ad n),rfl,rfl⟩) ((r'.tch (S:=[]) zA eE λ_ _ hx=>(by cases hx)).up qJ) qJ  h1 qJ  ?_
   rintro v' h2 n2 ho ht
   have ht2:Tch [] h n h2 n2:=Tch.tch ht zA λx hx=>.inl (by
    have hx:x∈(some n).toList:=hx;simp at hx;omega)
   rw[aK,bF]at ho;repeat' first|refine wk ?_|apply cX <;> intro
   exact⟨_,rfl,ho,ht2⟩
theorem clone_opr{lo n len:Nat}{h:zB}{sv:Value}{vs:List Value}(r:Row lo h sv 58 2 len vs)(eE:lo<=n)(h1:∀y∈vs,y.oneCell'=true)(hlim:len<1000000):Ret P 8 88 [sv] h n λv h' n'=>OwnE n n' h' v 58 2 len vs/\Tch [] h n h' n':=by
 refine ent λu=>?_;have r':=r;rcases r with⟨rfl,rfl,rfl⟩|⟨b,off,cap,m,z,kd,_,rfl,_⟩
 . repeat' first|refine wk ?_|apply cX <;> intro
   exact⟨_,rfl,.inl Own.nil,zA⟩
 . repeat' first|refine wk ?_|apply cX <;> intro
   refine appE (.inr ⟨mty_new (ad n),rfl,rfl⟩) ((r'.tch (S:=[]) zA eE λ_ _ hx=>(by cases hx)).up qJ) qJ  h1 qJ  ?_
   rintro v' h2 n2 ho ht
   have ht2:Tch [] h n h2 n2:=Tch.tch ht zA λx hx=>.inl (by
    have hx:x∈(some n).toList:=hx;simp at hx;omega)
   rw[aK,bF]at ho;repeat' first|refine wk ?_|apply cX <;> intro
   exact⟨_,rfl,ho,ht2⟩
theorem clone_reg{lo n len:Nat}{h:zB}{sv:Value}{vs:List Value}(r:Row lo h sv 114 4 len vs)(eE:lo<=n)(h1:∀y∈vs,y.oneCell'=true)(hlim:len<1000000):Ret P 8 152 [sv] h n λv h' n'=>OwnE n n' h' v 114 4 len vs/\Tch [] h n h' n':=by
 refine ent λu=>?_;have r':=r;rcases r with⟨rfl,rfl,rfl⟩|⟨b,off,cap,m,z,kd,_,rfl,_⟩
 . repeat' first|refine wk ?_|apply cX <;> intro
   exact⟨_,rfl,.inl Own.nil,zA⟩
 . repeat' first|refine wk ?_|apply cX <;> intro
   refine appE (.inr ⟨mty_new (ad n),rfl,rfl⟩) ((r'.tch (S:=[]) zA eE λ_ _ hx=>(by cases hx)).up qJ) qJ  h1 qJ  ?_
   rintro v' h2 n2 ho ht
   have ht2:Tch [] h n h2 n2:=Tch.tch ht zA λx hx=>.inl (by
    have hx:x∈(some n).toList:=hx;simp at hx;omega)
   rw[aK,bF]at ho;repeat' first|refine wk ?_|apply cX <;> intro
   exact⟨_,rfl,ho,ht2⟩
theorem clone_int{lo n len:Nat}{h:zB}{sv:Value}{vs:List Value}(r:Row lo h sv 3 1 len vs)(eE:lo<=n)(h1:∀y∈vs,y.oneCell'=true)(hlim:len<1000000):Ret P 8 199 [sv] h n λv h' n'=>OwnE n n' h' v 3 1 len vs/\Tch [] h n h' n':=by
 refine ent λu=>?_;have r':=r;rcases r with⟨rfl,rfl,rfl⟩|⟨b,off,cap,m,z,kd,_,rfl,_⟩
 . repeat' first|refine wk ?_|apply cX <;> intro
   exact⟨_,rfl,.inl Own.nil,zA⟩
 . repeat' first|refine wk ?_|apply cX <;> intro
   refine appE (.inr ⟨mty_new (ad n),rfl,rfl⟩) ((r'.tch (S:=[]) zA eE λ_ _ hx=>(by cases hx)).up qJ) qJ  h1 qJ  ?_
   rintro v' h2 n2 ho ht
   have ht2:Tch [] h n h2 n2:=Tch.tch ht zA λx hx=>.inl (by
    have hx:x∈(some n).toList:=hx;simp at hx;omega)
   rw[aK,bF]at ho;repeat' first|refine wk ?_|apply cX <;> intro
   exact⟨_,rfl,ho,ht2⟩
end
section
theorem numbered_ret{lo e n:Nat}{h:zB}{sv:Value}{l:List Tx}(r:Row lo h sv e 1 l.length (l.map str))(eE:lo<=n)(hl:l.length<inf)(hn:l.Nodup):Ret P 8 39 [sv] h n λv h' n'=>∃b,v = .map (some b)/\n<=b/\b<n'/\MpS h' b (numL l)/\Tch [] h n h' n':=by
 have eM:inf<4611686018427387904:=by decide
 have rl:=r.low;refine ent λu=>?_;repeat' first|refine wk ?_|apply cX <;> intro
 refine lpR (λi:Nat=>[(3,.map (some n)),(7,sv),(8,I64 l.length),(9,I64 i)]) (λi h' n'=>Tch [] h n h' n'/\n<n'/\MpS h' n (numL (l.take i))/\i<=l.length) (λi=>l.length - i) 0 ⟨zA,by omega,mps_new,an _⟩ ?_
 rintro i t h' n' ⟨ht,eP,hm,hi⟩
 have r':=r.tch ht eE λ_ _ hx=>(by cases hx);by_cases eD:i<l.length
 . have c0:l[i]? = some l[i]:=aa eD;generalize l[i]=x at c0
   have c1:=yE r' c0
   obtain⟨o,ms,hm2⟩:=mset_new (P:=P) (ty:=99) (v:=I64 (i:Nat)) (x:=x) hm λp hp hx=>by
    have h3:=numL_key hp;rw [hx]at h3;obtain⟨j,hj⟩:=aj.1 h3;have gq:j<i:=by have:=(ab.1 hj).1;rw [aI]at this;omega
    rw[aJ gq]at hj;have:=nodup_at hn hj c0;omega
   repeat' first|refine wk ?_|apply cX <;> intro
   exact rnd (i+1) ⟨zA,eP,by rw[numL_snoc c0];exact hm2,by omega⟩
 . obtain rfl:i=l.length:=by omega
   repeat' first|refine wk ?_|apply cX <;> intro
   rw[aY]at hm;exact⟨_,rfl,n,rfl,ad _,eP,hm,ht⟩
theorem vJ{lo e n bt br:Nat}{h:zB}{sv:Value}{l ns:List Tx}(r:Row lo h sv e 1 l.length (l.map str))(eE:lo<=n)(hl:l.length<100000)(hb:bt<n)(im:br<n)(ct:zD h bt 10=some (.map (some br)))(mp:MpS h br (numL ns))(gf:ns.Nodup)(fe:∀x∈l,x∈ns):Ret P 8 40 [ptr bt 0,sv] h n λv h' n'=>Own n n' h' v 3 1 l.length (l.map λx=>I64 (ns.idxOf x:Nat))/\Tch [] h n h' n':=by
 have rl:=r.low;refine ent λu=>?_;repeat' first|refine wk ?_|apply cX <;> intro
 refine lpR (α :=Nat×Value) (λa=>[(0,ptr bt 0),(5,a.2),(8,sv),(9,I64 l.length),(10,I64 a.1)]) (λa h' n'=>Tch [] h n h' n'/\a.1<=l.length/\Own n n' h' a.2 3 1 a.1 ((l.take a.1).map λx=>I64 (ns.idxOf x:Nat))) (λa=>l.length - a.1) (0,.slice none 0 0) ⟨zA,an _,Own.nil⟩ ?_
 rintro ⟨i,ov⟩ t h' n' ⟨ht,hi,ho⟩
 dsimp only at hi ho ⊢;have eP:=ht.le;have r':=r.tch ht eE λ_ _ hx=>(by cases hx);have ct':zD h' bt 10=some (.map (some br)):=cat_tch ht hb qL  ct;have mp':=mp.tch ht im qL;by_cases eD:i<l.length
 . have c0:l[i]? = some l[i]:=aa eD;generalize l[i]=x at c0
   have c1:=yE r' c0;have hx:=fe x (ae c0);obtain⟨A,B,e1,e2⟩:=uO (idx_at hx) gf;rw [e1]at mp';have lk:=lku_at (P:=P) (ty:=99) (ok:=false) mp' e2;have lD:xG P h' 99 (.map (some br)) (str x) false=some (I64 (ns.idxOf x:Nat)):=lk;repeat' first|refine wk ?_|apply cX <;> intro
   refine appO (ho.tch (S:=[]) zA qL) (zF (e:=3) (sz:=1) (len:=1) rfl qK) qJ  ⟨rfl,trivial⟩ qJ  ?_
   rintro v' h3 n3 ho3 ht3
   have ht4:Tch [] h n h3 n3:=Tch.tch ht3 zA λx hx=>.inl (by
    cases hb:zH ov with
    | none=>rw [hb]at hx;cases hx
    | some b=>rw [hb]at hx;simp at hx;subst hx;exact(ho.blk hb).1)
   repeat' first|refine wk ?_|apply cX <;> intro
   exact rnd (i+1,v') ⟨ht4,by omega,by rw[take_map c0];exact ho3⟩
 . obtain rfl:i=l.length:=by omega
   repeat' first|refine wk ?_|apply cX <;> intro
   rw[aY]at ho;exact⟨_,rfl,ho,ht⟩
end
section
attribute [local simp] zY
abbrev tU:Nat:=170
abbrev tSet:Nat:=105
theorem rs1A{ty i b o:Nat}[s:ShC P ty (.agg 1)]{l:List (Nat×Value)}{t:Fr}{h:zB}{x:Value}(e:lk l t i=ptr b o)(c:zD h b o=some x):Rs P l t h [.cell i ty] [.agg ⟨[x]⟩]:=⟨_,_,rfl,by rw[e];exact load_agg s.ok rfl qK  (rowAt.cons c (rowAt.nil _ _ _)),rfl⟩
theorem kep_full{ty e sz lo n len k:Nat}{h:zB}{v:Value}{vs:List Value}[s:SlC P ty e sz](o:Own lo n h v e sz len vs)(hk:k<=len)(hl:len<1000000)(hs:1<=sz):∃v',xS P h ty v none (some (I64 (k:Nat))) (some (I64 (k:Nat)))=some v'/\Kep lo n h v' e sz k (vs.take (k*sz))/\zH v'=zH v:=by
 obtain⟨v',h1,h2,h3,h4⟩:=slice_full (P:=P) (ty:=ty) o hk hl hs;refine⟨v',h1,?_,h3⟩;rcases o with⟨rfl,rfl,rfl⟩|⟨b,q1,q2,rfl,q3,q4,q5,q6⟩
 . have:k=0:=by omega
   subst this;rcases h4 with rfl|⟨b,rfl⟩
   . exact .inl ⟨rfl,rfl,by simp⟩
   . cases h3
 . rcases h4 with rfl|⟨b',rfl⟩
   . cases h3
   . injection h3 with h3
     have h3:b'=b:=h3;subst h3;have jN:k*sz<=len*sz:=bN _ hk;have eM:(1000000:Nat)<=inf:=by decide
     refine .inr ⟨b',k,vs.length,q1,q2,rfl,q3,by rw[aI];omega,by rw[aI];omega,λi hi=>?_,.inl ⟨by omega,ad _⟩⟩;rw [aI]at hi;rw [q6 i,aJ qJ]
theorem trimmed_ret{lo n:Nat}{h:zB}{v:Value}{ws:List Nat}(o:Own lo n h v tU 1 ws.length (ws.map U64))(hw:∀w∈ws,w<18446744073709551616)(hl:ws.length<=1024):Ret P 8 92 [v] h n λr h' n'=>∃sv xs,r = .agg ⟨[sv]⟩/\SetW xs/\(∀k,vY xs k=vY ws k)/\Kep lo n' h' sv tU 1 xs.length (xs.map U64)/\zH sv=zH v/\Tch [] h n h' n':=by
 refine ent λu=>?_;have r0:=o.row qK;repeat' first|refine wk ?_|apply cX <;> intro
 refine lpR (λk:Nat=>[(0,v),(2,ptr n 0),(3,I64 k)]) (λk h' n'=>Tch [] h n h' n'/\n<n'/\Cel h' n (tSet+1) 0 [.slice none 0 0]/\k<=ws.length/\sX ws k=sX ws ws.length) (λk=>k) ws.length ⟨zA,by omega,zC,ad _,rfl⟩ ?_
 rintro k t h' n' ⟨ht,eP,hc,hk,htr⟩
 have o':=o.tch ht qL;have r':=o'.row qK 
 cases k with
 | zero=>
  have e0:sX ws ws.length=0:=by rw[<- htr];rfl
  obtain⟨sv,hs,hkr,hb⟩:=kep_full (ty:=103) (k:=0) o' (an _) qJ qK;have jk:=hkr.one;obtain⟨sp,sc,rfl⟩:=(hkr.row qK).sl;repeat' first|refine wk ?_|refine cX (λ_=>?_) λ_=>?_|refine ob (a:=[.agg ⟨[_]⟩]) ?_ (rs1A (by(apply qB;((conv=>lhs;whnf) <;> exact rfl))) zJ)|fail
  exact⟨_,rfl,_,ws.take (sX ws ws.length),rfl,trim_set hw hl,trim_has ws,by rw[e0];exact hkr.tch (S:=[n]) zA (λb fk hx=>by simp at hx;have:=(o.blk (hb ▸ fk)).2;omega),hb,zA⟩
 | succ k=>
  have c0:ws[k]? = some ws[k]:=aa qJ;generalize ws[k]=w at c0
  have c1:zD h' (sbk v) (sof v+k*1)=some (U64 w):=by rw[aQ];exact r'.at (by rw[ao,c0];rfl)
  have ek:((k+1:Nat):Int) - 1=(k:Nat):=by omega
  have bn:∀ty ox oy,Bn P .sub ty ox oy (I64 ((k+1:Nat):Int)) (I64 1) (I64 (k:Nat)):=λty ox oy=>by rw[<- ek];exact bn_sub qJ 
  by_cases gM:w=0
  . subst gM;have hz:sX ws (k+1)=sX ws k:=by rw[show sX ws (k+1)=if ws[k]? = some 0 then sX ws k else k+1 from rfl,if_pos c0]
    repeat' first|refine ob (a:=I64 (k:Nat)) ?_ (bn _ _ _)|refine wk ?_|apply cX <;> intro
    exact rnd k ⟨ht,eP,hc,by omega,by rw[<- hz];exact htr⟩
  . have hz:sX ws ws.length=k+1:=by rw[<- htr,show sX ws (k+1)=if ws[k]? = some 0 then sX ws k else k+1 from rfl,if_neg (by rw[c0];simpa using gM)]
    obtain⟨sv,hs,hkr,hb⟩:=kep_full (ty:=103) (k:=k+1) o' hk qJ qK;have jk:=hkr.one;obtain⟨sp,sc,rfl⟩:=(hkr.row qK).sl;repeat' first|refine ob (a:=I64 (k:Nat)) ?_ (bn _ _ _)|refine ob (a:=[.agg ⟨[_]⟩]) ?_ (rs1A (by(apply qB;((conv=>lhs;whnf) <;> exact rfl))) zJ)|refine wk ?_|apply cX <;> intro
    exact⟨_,rfl,_,ws.take (sX ws ws.length),rfl,trim_set hw hl,trim_has ws,by
     rw[hz,aI,b8 hk,List.map_take];rw [aQ]at hkr;exact hkr.tch (S:=[n]) zA (λb fk hx=>by simp at hx;have:=(o.blk (hb ▸ fk)).2;omega),hb,zA⟩
theorem max_q{a b:Nat}{tys:List Nat}{h:zB}:Qb P .max tys [I64 (a:Nat),I64 (b:Nat)] h (some (I64 ((max a b:Nat):Int))):=by
 show aMax true (I64 (a:Nat)) [I64 (b:Nat)]=_;unfold aMax;show some (Value.int .i64 (cond (iltB (a:Nat) (b:Nat)) ((b:Nat):Int) ((a:Nat):Int)))=_;rw [iltB_eq];by_cases h9:a<b
 . rw[decide_eq_true qJ,Nat.max_eq_right qJ];rfl
 . rw[decide_eq_false qJ,Nat.max_eq_left qJ];rfl
theorem u_at{ws:List Nat}{i w:Nat}(h:ws[i]? = some w):(ws.map U64)[i]? = some (U64 w):=by rw[ao,h];rfl
theorem of_ret{lo e n:Nat}{h:zB}{sv:Value}{l:List Int}(r:Row lo h sv e 1 l.length (l.map I64))(eE:lo<=n)(hl:l.length<inf):Ret P 8 41 [sv] h n λv h' n'=>∃wv ws,v = .agg ⟨[wv]⟩/\SetW ws/\(∀k:Nat,vY ws k=true↔((k:Nat):Int)∈l/\k<=65535)/\Kep n n' h' wv tU 1 ws.length (ws.map U64)/\Tch [] h n h' n':=by
 have eM:inf<4611686018427387904:=by decide
 have rl:=r.low;refine ent λu=>?_;repeat' first|refine wk ?_|apply cX <;> intro
 refine lpR (α :=Nat×Value×List Nat) (λa=>[(2,ptr n 0),(3,a.2.1),(6,sv),(7,I64 l.length),(8,I64 a.1)]) (λa h' n'=>Tch [] h n h' n'/\n<n'/\Cel h' n (tSet+1) 0 [.slice none 0 0]/\a.1<=l.length/\Own (n+1) n' h' a.2.1 tU 1 a.2.2.length (a.2.2.map U64)/\(∀w∈a.2.2,w<18446744073709551616)/\a.2.2.length<=1024/\∀k:Nat,vY a.2.2 k=true↔((k:Nat):Int)∈l.take a.1/\k<=65535) (λa=>l.length - a.1) (0,.slice none 0 0,[]) ⟨zA,by omega,zC,an _,Own.nil,λw hw=>(by cases hw),an _,λk=>⟨λh9=>(by simp[vY]at h9),λh9=>(by simp at h9)⟩⟩ ?_
 rintro ⟨i,wv,ws⟩ t h' n' ⟨ht,eP,hc,hi,ho,hw,gh,hh⟩
 dsimp only at hi ho hw gh hh ⊢;have r':=r.tch ht eE λ_ _ hx=>(by cases hx);by_cases eD:i<l.length
 . have c0:l[i]? = some l[i]:=aa eD;generalize l[i]=x at c0
   have c1:=yE r' c0;have nxt:∀k:Nat,((k:Nat):Int)∈l.take (i+1)↔((k:Nat):Int)∈l.take i\/((k:Nat):Int)=x:=λk=>by rw[yV c0,aA];simp
   by_cases hx:x<0\/65535<x
   . have done:∀k:Nat,vY ws k=true↔((k:Nat):Int)∈l.take (i+1)/\k<=65535:=λk=>by
      rw[hh k,nxt k];constructor
      . rintro ⟨h1,h2⟩;exact⟨.inl h1,h2⟩
      . rintro ⟨h1|h1,h2⟩
        . exact⟨h1,h2⟩
        . omega
     rcases hx with hx|hx
     . repeat' first|refine wk ?_|apply cX <;> intro
       exact rnd (i+1,wv,ws) ⟨ht,eP,hc,by omega,ho,hw,gh,done⟩
     . repeat' first|refine wk ?_|apply cX <;> intro
       exact rnd (i+1,wv,ws) ⟨ht,eP,hc,by omega,ho,hw,gh,done⟩
   . obtain⟨a,rfl⟩:=bC (show 0<=x by omega);have ha:a<=65535:=by omega
     repeat' first|refine wk ?_|apply cX <;> intro
     refine lpR (α :=Value×List Nat) (λb=>[(2,ptr n 0),(3,b.1),(5,I64 (a:Nat)),(6,sv),(7,I64 l.length),(8,I64 i)]) (λb h2 n2=>Tch [] h n h2 n2/\n<n2/\Cel h2 n (tSet+1) 0 [.slice none 0 0]/\Own (n+1) n2 h2 b.1 tU 1 b.2.length (b.2.map U64)/\(∀w∈b.2,w<18446744073709551616)/\b.2.length<=1024/\∀k:Nat,vY b.2 k=vY ws k) (λb=>1025 - b.2.length) (wv,ws) ⟨ht,eP,hc,ho,hw,gh,λ_=>rfl⟩ ?_;clear c1 r' ho hw gh hc ht eP
     rintro ⟨v2,w2⟩ t h2 n2 ⟨ht,eP,hc,ho,hw,gh,he⟩
     dsimp only at ho hw gh he ⊢;have ro:=ho.row qK;by_cases hgo:w2.length<=a / 64
     . repeat' first|refine wk ?_|apply cX <;> intro
       refine appN (ho.tch (S:=[]) zA qL) (zF (e:=tU) (sz:=1) (len:=1) rfl qK) qK  ⟨rfl,trivial⟩ qJ  ?_
       rintro v3 h3 n3 ho3 ht3
       have eS:=ht3.le;have ht4:Tch [] h n h3 n3:=Tch.tch ht3 zA λb hb=>.inl (by have:=zQ ho b hb;omega);have hc3:Cel h3 n (tSet+1) 0 [.slice none 0 0]:=(hc.hal qJ).tch ht3 qJ  (λhx=>by have:=zQ ho _ hx;omega);repeat' first|refine wk ?_|apply cX <;> intro
       exact⟨(v3,w2++[0]),by dsimp only;rw [ah];simp;omega,(by repeat' first|exact trivial|refine⟨rfl,?_⟩),ht4,by omega,hc3,by rw[ah,aC];exact ho3.dnl qJ,λw hw9=>by
        rcases aA.1 hw9 with h9|h9
        . exact hw w h9
        . simp at h9;subst h9;decide,by rw[ah];simp;omega,λk=>by rw[has_grow];exact he k⟩
     . have hq:a / 64<w2.length:=by omega
       obtain⟨bb,rfl,fP,fk⟩:=own_head ho qJ;have d0:w2[a / 64]? = some w2[a / 64]:=aa hq;have hwl2:w2[a / 64]<18446744073709551616:=hw _ (aM hq);have kE:(w2[a / 64]?).getD 0=w2[a / 64]:=by rw[d0];rfl
       have iP:=λk=>has_put (k:=k) hq;rw [kE]at iP;generalize w2[a / 64]=w at *
       have hlm:(w2.map U64).length=w2.length:=aD _
       have d1:zD h2 bb (a / 64)=some (U64 w):=by
        have:=ro.at (u_at d0)
        rwa [show sof (.slice (some ⟨bb,0,none⟩) w2.length inf)+a / 64=a / 64 from aK _]at this
       have gK:2 ^ (a % 64)<18446744073709551616:=dU qK  (Nat.mod_lt _ qK);have hor:=or_lt hwl2 (Nat.mod_lt a (show 0<64 by decide));have mw:n≠bb:=by omega
       have iad:Iad 1 (.slice (some ⟨bb,0,none⟩) w2.length inf) (I64 ((a / 64:Nat):Int)) (ptr bb (a / 64)):=⟨bb,0,w2.length,inf,.i64,a / 64,rfl,rfl,hq,by rw[aK,aQ]⟩;repeat' first|refine ob (a:=ptr bb (a / 64)) ?_ iad|refine ob (a:=hst _ bb (a / 64) [U64 (w ||| 2 ^ (a % 64))]) ?_ (stp_own ho rfl qJ  rfl)|refine wk ?_|apply cX <;> intro
       have hp:=own_put ho (i:=a / 64) (x:=U64 (w ||| 2 ^ (a % 64))) rfl qJ;refine⟨(i+1,.slice (some ⟨bb,0,none⟩) w2.length inf,w2.set (a / 64) (w ||| 2 ^ (a % 64))),(by dsimp only;omega),by simpa only[bh] using (by repeat' first|exact trivial|refine⟨rfl,?_⟩),zA,by omega,zE,by omega,by rw[bh,List.map_set];exact hp,λy hy=>?_,by rw[bh];exact gh,λk=>?_⟩
       . rcases List.mem_or_eq_of_mem_set hy with h9|h9
         . exact hw y h9
         . subst h9;exact hor
       . rw[iP k,dV,he k,hh k,nxt k,decide_eq_true_eq];constructor
         . rintro (⟨h1,h2⟩|rfl)
           . exact⟨.inl h1,h2⟩
           . exact⟨.inr rfl,ha⟩
         . rintro ⟨h1|h1,h2⟩
           . exact .inl ⟨h1,h2⟩
           . exact .inr qJ 
 . obtain rfl:i=l.length:=by omega
   repeat' first|refine wk ?_|apply cX <;> intro
   refine yG (trimmed_ret ho hw gh) ?_
   rintro _ h3 n3 ⟨wv2,xs,rfl,s1,s2,s3,s4,ht3⟩
   have hw1:=s3.one;have eS:=ht3.le;repeat' first|refine wk ?_|refine cX (λ_=>?_) λ_=>?_|refine ob (a:=[.agg ⟨[_]⟩]) ?_ (rs1A (by(apply qB;((conv=>lhs;whnf) <;> exact rfl))) zJ)|fail
   exact⟨_,rfl,_,xs,rfl,s1,λk=>by rw[s2 k,hh k,aY],(s3.tch (S:=[n]) zA (λb fk hx=>by simp at hx;have:=(s3.blk fk).1;omega)).dnl qJ,zA⟩
end
section
theorem zat_pur{lo e n:Nat}{h:zB}{sv:Value}{ws:List Nat}(r:Row lo h sv e 1 ws.length (ws.map U64))(i:Nat):Pur P 8 197 [sv,I64 (i:Nat)] h n (U64 ((ws[i]?).getD 0)):=by
 refine ent λu=>?_;by_cases eD:i<ws.length
 . have c0:ws[i]? = some ws[i]:=aa eD;generalize ws[i]=w at c0
   have c1:zD h (sbk sv) (sof sv+i*1)=some (U64 w):=by rw[aQ];exact r.at (u_at c0)
   repeat' first|refine wk ?_|apply cX <;> intro
   exact fin (by rw[c0];rfl)
 . repeat' first|refine wk ?_|apply cX <;> intro
   exact fin (by rw[aw qJ];rfl)
theorem sub1_pur{x y n:Nat}{h:zB}(hx:x<18446744073709551616)(hy:y<18446744073709551616):Pur P 8 157 [U64 x,U64 y] h n (U64 (x ^^^ (x &&& y))):=by
 refine ent λu=>?_;repeat' first|refine wk ?_|apply cX <;> intro
 exact fin rfl
theorem zsub_ret{lo e n:Nat}{h:zB}{av bv:Value}{a b:List Nat}(ra:Row lo h av e 1 a.length (a.map U64))(rb:Row lo h bv e 1 b.length (b.map U64))(eE:lo<=n)(ha:∀w∈a,w<18446744073709551616)(hb:∀w∈b,w<18446744073709551616)(hal:a.length<=1024)(gT:b.length<=1024):Ret P 8 156 [av,bv,.func (.func 157) ⟨[]⟩ ⟨[]⟩] h n λv h' n'=>Own n n' h' v tU 1 (subW a b).length ((subW a b).map U64)/\Tch [] h n h' n':=by
 have hm:max a.length b.length<=1024:=by omega
 have el:(subW a b).length=max a.length b.length:=by unfold subW;simp
 have eat:∀i,i<max a.length b.length->(subW a b)[i]? = some ((a[i]?).getD 0 ^^^ ((a[i]?).getD 0 &&& (b[i]?).getD 0)):=λi hi=>by unfold subW;rw [ao,cN hi];rfl
 refine ent λu=>?_;repeat' first|refine wk ?_|refine cX (λ_=>?_) λ_=>?_|refine ob (a:=some (I64 ((max a.length b.length:Nat):Int))) ?_ max_q|fail
 generalize max a.length b.length=M at *
 refine lpR (α :=Nat×Value) (λq=>[(0,av),(1,bv),(2,.func (.func 157) ⟨[]⟩ ⟨[]⟩),(7,.func (.func 197) ⟨[]⟩ ⟨[]⟩),(8,q.2),(14,I64 M),(15,I64 q.1)]) (λq h' n'=>Tch [] h n h' n'/\q.1<=M/\Own n n' h' q.2 tU 1 q.1 (((subW a b).take q.1).map U64)) (λq=>M - q.1) (0,.slice none 0 0) ⟨zA,an _,Own.nil⟩ ?_
 rintro ⟨i,ov⟩ t h' n' ⟨ht,hi,ho⟩
 dsimp only at hi ho ⊢;have eP:=ht.le;have ra':=ra.tch ht eE λ_ _ hx=>(by cases hx);have rb':=rb.tch ht eE λ_ _ hx=>(by cases hx);by_cases eD:i<M
 . have c0:=eat i eD;have hxa:=getD_lt ha i;have hxb:=getD_lt hb i;repeat' first|refine wk ?_|refine cX (λ_=>?_) λ_=>?_|refine zS (zat_pur ra' i) ?_|refine zS (zat_pur rb' i) ?_|refine zS (sub1_pur hxa hxb) ?_|fail
   refine appO (ho.tch (S:=[]) zA qL) (zF (e:=tU) (sz:=1) (len:=1) rfl qK) qJ  ⟨rfl,trivial⟩ qJ  ?_
   rintro v' h3 n3 ho3 ht3
   have eS:=ht3.le;have ht4:Tch [] h n h3 n3:=Tch.tch ht3 zA λx hx=>.inl (zQ ho x hx);repeat' first|refine wk ?_|apply cX <;> intro
   exact rnd (i+1,v') ⟨ht4,by omega,by rw[yV c0,aC];exact ho3⟩
 . obtain rfl:i=M:=by omega
   repeat' first|refine wk ?_|apply cX <;> intro
   exact⟨_,rfl,by rw[el];rwa [cW qJ]at ho,ht⟩
theorem sub_ret{lo e n:Nat}{h:zB}{av bv:Value}{a b:List Nat}(ra:Row lo h av e 1 a.length (a.map U64))(rb:Row lo h bv e 1 b.length (b.map U64))(eE:lo<=n)(ha:SetW a)(hb:SetW b):Ret P 8 94 [.agg ⟨[av]⟩,.agg ⟨[bv]⟩] h n λv h' n'=>∃wv ws,v = .agg ⟨[wv]⟩/\SetW ws/\(∀k:Nat,vY ws k=(vY a k && !vY b k))/\Kep n n' h' wv tU 1 ws.length (ws.map U64)/\Tch [] h n h' n':=by
 have o1:=ra.one;have o2:=rb.one;have hal:=ha.le;have gT:=hb.le;refine ent λu=>?_;repeat' first|refine wk ?_|apply cX <;> intro
 refine yG (zsub_ret (Row.tch (S:=[]) ra zA eE qL) (Row.tch (S:=[]) rb zA eE qL) qJ  ha.lt hb.lt hal gT) ?_
 rintro z h2 n2 ⟨ho,ht2⟩
 have hn2:=ht2.le;have el:(subW a b).length=max a.length b.length:=by unfold subW;simp
 have eD:∀w∈subW a b,w<18446744073709551616:=λw hw=>by
  unfold subW at hw;obtain⟨i,_,rfl⟩:=aB.1 hw;exact andn_lt (getD_lt ha.lt i)
 have hc2:Cel h2 (n+2) (tSet+1) 0 [.slice none 0 0]:=zC;have fl:Tch [] h n h2 n2:=zA;clear ht2;repeat' first|refine wk ?_|apply cX <;> intro
 refine yG (trimmed_ret ho eD qJ) ?_
 rintro _ h3 n3 ⟨wv2,xs,rfl,s1,s2,s3,s4,ht3⟩
 have hw1:=s3.one;have eS:=ht3.le;repeat' first|refine wk ?_|refine cX (λ_=>?_) λ_=>?_|refine ob (a:=[.agg ⟨[_]⟩]) ?_ (rs1A (by(apply qB;((conv=>lhs;whnf) <;> exact rfl))) zJ)|fail
 exact⟨_,rfl,_,xs,rfl,s1,λk=>by rw[s2 k,sub_has],(s3.tch (S:=[n+2]) zA (λb fk hx=>by simp at hx;have:=(s3.blk fk).1;omega)).dnl qJ,zA⟩
theorem has_pur{lo e n:Nat}{h:zB}{wv:Value}{ws:List Nat}(r:Row lo h wv e 1 ws.length (ws.map U64))(eE:lo<=n)(hs:SetW ws)(k:Int)(hk:k<9223372036854775808):Pur P 8 202 [.agg ⟨[wv]⟩,I64 k] h n (.bool (decide (0<=k) && vY ws k.toNat)):=by
 have o1:=r.one;have rl:=r.low;have hle:=hs.le;refine Com.pure (ent λu=>?_) (.inl rfl);by_cases h0:0<=k
 . obtain⟨a,rfl⟩:=bC h0;have e0:(decide (0<=((a:Nat):Int)) && vY ws ((a:Nat):Int).toNat)=vY ws a:=by rw[decide_eq_true h0];rfl
   by_cases eD:a / 64<ws.length
   . have c0:ws[a / 64]? = some ws[a / 64]:=aa eD;have hw:=hs.lt _ (aM eD);generalize ws[a / 64]=w at c0 hw
     have c1:zD h (sbk wv) (sof wv+a / 64*1)=some (U64 w):=by rw[aQ];exact r.at (u_at c0)
     have e1:vY ws a=w.testBit (a % 64):=by unfold vY;rw [c0];rfl
     have hsh:w >>> (a % 64)<18446744073709551616:=bV (Nat.shiftRight_le w (a % 64)) hw;have hl:=rl qJ;repeat' first|refine wk ?_|apply cX <;> intro
     exact finT (by
      rw[e0,e1];congr 1
      exact bL.2 (by rw[decide_eq_true_iff];exact bit_has)) zA
   . have e1:vY ws a=false:=by unfold vY;rw [aw qJ];simp
     repeat' first|refine wk ?_|apply cX <;> intro
     all_goals first|exact finT (by rw[e0,e1]) zA|(exfalso;omega)
 . have e0:(decide (0<=k) && vY ws k.toNat)=false:=by rw[decide_eq_false h0];rfl
   repeat' first|refine wk ?_|apply cX <;> intro
   all_goals first|exact finT (by rw[e0]) zA|(exfalso;omega)
end
end Go.Proofs.YtdiejolnllipnaaGreatDoor
