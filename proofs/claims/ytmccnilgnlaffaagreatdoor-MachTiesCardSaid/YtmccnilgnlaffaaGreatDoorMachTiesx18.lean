/- What the law leans on: an executor of the model that is sound, deduction over it, and the walks through the code (part 18 of 18). Conditions: those that each theorem states. -/
import Derived.Test.YtmccnilgnlaffaaGreatDoorMachTiesx17
import Derived.Lib.LaidTab
import Derived.ProofKit
import Derived.LaidMore
import Derived.OpenShut
import Derived.Stop.Joined
import Derived.ChangeOld
import Derived.Lib.LaidU8
import Derived.Shelf.Vars
import Derived.HandedShaped
import Derived.Below

set_option linter.unusedVariables false
set_option linter.unusedSimpArgs false
namespace Go.Proofs.YtmccnilgnlaffaaGreatDoor
open Go.Ex Go.RowKit
set_option maxRecDepth 1000000
theorem does_pure{f:FuncId}{args:List Value}{h:zB}{n:Nat}{v:Value}(r:Pure P 8 f args h n v)(u:Option zH):CallTo P 8 f args false u h n (.ret v) u h n:=by
 obtain⟨v',h',n',⟨rfl,rfl,rfl⟩,hc⟩:=r.does u;exact hc
def Fine(f:FuncId)(args:List Value)(h:zB)(n:Nat)(o:Option Rsl):Prop:=∀r,o=some r→∀u,CallTo P 8 f args false u h n (.ret r.v) u r.h r.n
theorem Fine.none{f:FuncId}{args:List Value}{h:zB}{n:Nat}:Fine f args h n none:=fun _ e=>by cases e
theorem Fine.pure{f:FuncId}{args:List Value}{h:zB}{n:Nat}{v:Value}(r:Pure P 8 f args h n v):Fine f args h n (some ⟨v,h,n⟩):=fun r' e u=>by
 injection e with e;subst e;exact does_pure r u
theorem Fine.cond{f:FuncId}{args:List Value}{h:zB}{n:Nat}{b:Bool}{o:Option Rsl}(ho:b=true→Fine f args h n o):Fine f args h n (_root_.cond b o Option.none):=by
 cases b with
 | true=>exact ho rfl
 | false=>exact Fine.none
def pow:List Value:=Lib.pow10Tab.map fun z=>Value.int .u64 z
def powL:List Value:=[.int .u64 1,.int .u64 10,.int .u64 100,.int .u64 1000,.int .u64 10000,.int .u64 100000,.int .u64 1000000,.int .u64 10000000,.int .u64 100000000,.int .u64 1000000000,.int .u64 10000000000,.int .u64 100000000000,.int .u64 1000000000000,.int .u64 10000000000000,.int .u64 100000000000000,.int .u64 1000000000000000,.int .u64 10000000000000000,.int .u64 100000000000000000,.int .u64 1000000000000000000,.int .u64 10000000000000000000]
theorem powL_eq:powL=pow:=by kernel_rfl
noncomputable def maxOf(o:AObj)(K:Int→Option Rsl):Option Rsl:=
 onCells o (fun c n _ kd=>Bool.rec none (onInt (Tr.get undef c 0) (fun k m=>Bool.rec none (K m) (xP k .i64)) none) (Nat.beq kd 2 && Nat.beq n 1)) none
noncomputable def withT(h:zB)(K:Option Rsl):Option Rsl:=maxOf (zF h 0) fun _=>Bool.rec none K (tabB powL (zF h 1))
theorem tabB_H{vs:List Value}{o:AObj}(h:tabB vs o=true):(∃z,xI o=some (vs.length,z,2))∧∀i,xH o i=vs[i]? :=by
 unfold tabB at h;split at h
 · rename_i c n z kd;obtain⟨h1,h2⟩:=Bool.and_eq_true_iff.1 h;obtain⟨h2,h3⟩:=Bool.and_eq_true_iff.1 h2;obtain rfl:=zE h1;obtain rfl:=zE h2;refine⟨⟨z,rfl⟩,fun i=>?_⟩;unfold xH;dsimp only;by_cases hi:i<vs.length
   · rw[if_pos hi,List.getElem?_eq_getElem hi];have:=cellsB_at h3 (List.getElem?_eq_getElem hi);rw [Nat.zero_add]at this;rw [this]
   · rw[if_neg hi,List.getElem?_eq_none (by omega)]
 · cases h
theorem withT_of{h:zB}{K:Option Rsl}{r:Rsl}(e:withT h K=some r):K=some r∧∃m,TabsH (tb m) h:=by
 unfold withT maxOf at e;cases ho:zF h 0 <;> rw[ho]at e <;> first|(cases e;done)|skip
 rename_i c n z kd;have e':(Bool.rec none (onInt (Tr.get undef c 0) (fun k m=>Bool.rec none (Bool.rec none K (tabB powL (zF h 1))) (xP k .i64)) none) (Nat.beq kd 2 && Nat.beq n 1):Option Rsl)=some r:=e
 cases h1:(Nat.beq kd 2 && Nat.beq n 1) with
 | false=>rw [h1]at e';cases e'
 | true=>
  rw[h1]at e';obtain⟨a1,a2⟩:=Bool.and_eq_true_iff.1 h1;obtain rfl:=zE a1;obtain rfl:=zE a2;rcases tR e' with⟨k,m,hv,e2⟩|e2
  · cases hk:xP k .i64 with
    | false=>rw [hk]at e2;cases e2
    | true =>
     rw[hk]at e2;obtain rfl:=vD hk
     cases h3:tabB powL (zF h 1) with
     | false=>rw [h3]at e2;cases e2
     | true=>
      rw[h3]at e2;refine⟨e2,m,fun p hp=>?_⟩;simp only[tb,List.mem_cons,List.not_mem_nil,or_false]at hp;rcases hp with rfl|rfl
      · dsimp only;rw [ho];refine⟨⟨z,rfl⟩,fun i=>?_⟩;unfold zC;rw [ho];unfold xH;dsimp only
        cases i with
        | zero=>rw [if_pos (by omega),hv];rfl
        | succ i=>rw [if_neg (by omega)];simp
      · rw[powL_eq]at h3;exact tabB_H h3
  · cases e2
theorem fine_withT{f:FuncId}{args:List Value}{h:zB}{n:Nat}{K:Option Rsl}(hk:∀m,TabsH (tb m) h→Fine f args h n K):Fine f args h n (withT h K):=fun r e u=>by
 obtain⟨e1,m,hm⟩:=withT_of e;exact hk m hm r e1 u
noncomputable def cutK(c:Nat)(s:List UInt8)(K:List UInt8→List UInt8→Bool→Option Rsl):Option Rsl:=
 List.rec (motive:=fun _=>(List UInt8→List UInt8→Bool→Option Rsl)→Option Rsl) (fun K=>K [] [] false)
  (fun x r ih K=>Bool.rec (ih fun a b f=>K (x::a) b f) (K [] r true) (Nat.beq x.toNat c)) s K
theorem beq_toNat(x c:UInt8):Nat.beq x.toNat c.toNat=decide (x=c):=by
 by_cases h:x=c
 · subst h;simp [Nat.beq_refl]
 · rw[decide_eq_false h]
   cases e:Nat.beq x.toNat c.toNat with
   | false=>rfl
   | true=>exact absurd (UInt8.toNat_inj.1 (zE e)) h
theorem cutK_eq(c:UInt8):∀(s:List UInt8) (K:List UInt8→List UInt8→Bool→Option Rsl),cutK c.toNat s K=K (cutB c s).1 (cutB c s).2.1 (cutB c s).2.2:=by
 intro s
 induction s with
 | nil=>intro K;rfl
 | cons x r ih=>
  intro K;show(Bool.rec (cutK c.toNat r fun a b f=>K (x::a) b f) (K [] r true) (Nat.beq x.toNat c.toNat):Option Rsl)=_;rw [beq_toNat];unfold cutB;by_cases h:x=c
  · rw[decide_eq_true h,if_pos h]
  · rw[decide_eq_false h,if_neg h];exact ih _
noncomputable def fits(s:List UInt8):Bool:=Nat.blt s.length 1000000
theorem fits_lt{s:List UInt8}(h:fits s=true):s.length<1000000:=zT h
noncomputable def cutH(args:List Value)(h:zB)(n:Nat):Option Rsl:=match args with
 | [.string ⟨⟨s⟩⟩,.string ⟨⟨[c]⟩⟩]=>cond (fits s) (withT h (cutK c.toNat s fun a b f=>some ⟨.tuple #[str a,str b,.bool f],h,n⟩)) none
 | _=>none
theorem cutH_ok(args:List Value)(h:zB)(n:Nat):Fine 152 args h n (cutH args h n):=by
 unfold cutH;split
 · rename_i s c;refine Fine.cond fun hs=>fine_withT fun m hm=>?_;rw [cutK_eq];exact Fine.pure (cut_pure n hm s c (fits_lt hs))
 · exact Fine.none
noncomputable def prefK(p s:List UInt8)(K:List UInt8→Option Rsl)(d:Option Rsl):Option Rsl:=
 List.rec (motive:=fun _=>List UInt8→Option Rsl) (fun s=>K s) (fun x _ ih s=>List.rec d (fun y r _=>Bool.rec d (ih r) (Nat.beq x.toNat y.toNat)) s) p s
theorem prefK_eq(K:List UInt8→Option Rsl)(d:Option Rsl):∀(p s:List UInt8),prefK p s K d=if p.isPrefixOf s then K (s.drop p.length) else d:=by
 intro p
 induction p with
 | nil=>intro s;simp [prefK]
 | cons x p ih =>
  intro s
  cases s with
  | nil=>rfl
  | cons y r=>
   show(Bool.rec d (prefK p r K d) (Nat.beq x.toNat y.toNat):Option Rsl)=_;rw [beq_toNat,ih];by_cases h:x=y
   · subst h;simp [List.isPrefixOf]
   · have:(x == y)=false:=by simpa using h
     rw[decide_eq_false h];simp [List.isPrefixOf,this]
noncomputable def cutPrefixH(args:List Value)(h:zB)(n:Nat):Option Rsl:=match args with
 | [.string ⟨⟨s⟩⟩,.string ⟨⟨p⟩⟩]=>prefK p s (fun r=>some ⟨.tuple #[str r,.bool true],h,n⟩) (some ⟨.tuple #[str s,.bool false],h,n⟩)
 | _=>none
theorem cutPrefixH_ok(args:List Value)(h:zB)(n:Nat):Fine 188 args h n (cutPrefixH args h n):=by
 unfold cutPrefixH;split
 · rename_i s p;rw [prefK_eq];have:=Fine.pure (cutPrefix_pure (h:=h) n s p);unfold Lib.trimPrefix Lib.hasPrefix at this;by_cases hp:p.isPrefixOf s=true
   · rw[if_pos hp];rw [if_pos hp,hp]at this;exact this
   · rw[if_neg hp];rw [if_neg hp,Bool.eq_false_iff.2 hp]at this;exact this
 · exact Fine.none
noncomputable def forceL{R:Type}(l:List UInt8)(K:List UInt8→R):R:=List.rec (motive:=fun _=>(List UInt8→R)→R) (fun K=>K []) (fun x _ ih K=>ih fun r=>K (x::r)) l K
theorem forceL_eq{R:Type}:∀(l:List UInt8) (K:List UInt8→R),forceL l K=K l:=by
 intro l
 induction l with
 | nil=>intro K;rfl
 | cons x r ih=>intro K;exact ih _
noncomputable def splK(c:Nat)(s:List UInt8)(K:List UInt8→List (List UInt8)→Option Rsl):Option Rsl:=
 List.rec (motive:=fun _=>(List UInt8→List (List UInt8)→Option Rsl)→Option Rsl) (fun K=>K [] [])
  (fun x _ ih K=>Bool.rec (ih fun a l=>K (x::a) l) (ih fun a l=>K [] (a::l)) (Nat.beq x.toNat c)) s K
theorem splK_eq(c:UInt8):∀(s:List UInt8) (K:List UInt8→List (List UInt8)→Option Rsl),∃a l,wN c s=a::l∧splK c.toNat s K=K a l:=by
 intro s
 induction s with
 | nil=>intro K;exact⟨[],[],rfl,rfl⟩
 | cons x r ih=>
  intro K;have e:splK c.toNat (x::r) K=(Bool.rec (splK c.toNat r fun a l=>K (x::a) l) (splK c.toNat r fun a l=>K [] (a::l)) (Nat.beq x.toNat c.toNat):Option Rsl):=rfl;rw [e,beq_toNat];unfold wN;by_cases h:x=c
  · rw[decide_eq_true h,if_pos h];obtain⟨a,l,e1,e2⟩:=ih fun a l=>K [] (a::l);exact⟨[],a::l,by rw[e1],e2⟩
  · rw[decide_eq_false h,if_neg h];obtain⟨a,l,e1,e2⟩:=ih fun a l=>K (x::a) l;exact⟨x::a,l,by rw[e1],e2⟩
noncomputable def rowK(ls:List (List UInt8))(i:Nat)(c:Tr Value)(K:Tr Value→Option Rsl):Option Rsl:=
 List.rec (motive:=fun _=>Nat→Tr Value→(Tr Value→Option Rsl)→Option Rsl) (fun _ c K=>K c) (fun l _ ih i c K=>c.setK undef (str l) i fun c'=>ih (Nat.succ i) c' K) ls i c K
theorem rowK_eq:∀(ls:List (List UInt8)) (i:Nat) (c:Tr Value) (K:Tr Value→Option Rsl),rowK ls i c K=K (Tr.ofListFrom undef c i (ls.map str)):=by
 intro ls
 induction ls with
 | nil=>intro i c K;rfl
 | cons l r ih=>
  intro i c K;show c.setK undef (str l) i (fun c'=>rowK r (Nat.succ i) c' K)=_;rw [Tr.setK_eq,ih];rfl
noncomputable def splitH(args:List Value)(h:zB)(n:Nat):Option Rsl:=match args with
 | [.string ⟨⟨s⟩⟩,.string ⟨⟨[c]⟩⟩]=>cond (fits s) (withT h (splK c.toNat s fun a l=>rowK (a::l) 0 .lF fun t=>
  h.setK .dead (.cells t (a::l).length 0 0) n fun h'=>some ⟨.slice (some ⟨n,0,none⟩) (a::l).length (a::l).length,h',Nat.succ n⟩)) none
 | _=>none
theorem splitH_ok(args:List Value)(h:zB)(n:Nat):Fine 189 args h n (splitH args h n):=by
 unfold splitH;split
 · rename_i s c;refine Fine.cond fun hs=>fine_withT fun m hm=>?_;obtain⟨a,l,e1,e2⟩:=splK_eq c s fun a l=>rowK (a::l) 0 .lF fun t=>h.setK .dead (.cells t (a::l).length 0 0) n fun h'=>some ⟨.slice (some ⟨n,0,none⟩) (a::l).length (a::l).length,h',Nat.succ n⟩;rw [e2,rowK_eq,Tr.setK_eq];intro r er u;injection er with er
   subst er;obtain⟨v,h',n',⟨rfl,rfl,rfl⟩,hc⟩:=(split_rets n hm s c (fits_lt hs)).does u;rw [e1]at hc;have e9:mkC (((a::l):List (List UInt8)).map str) 0 0 = .cells (Tr.ofListFrom undef .lF 0 ((a::l).map str)) (a::l).length 0 0:=by unfold mkC;rw [List.length_map]
   rw[e9]at hc;exact hc
 · exact Fine.none
noncomputable def onStr{R:Type}(v:Value)(f:List UInt8→R)(d:R):R:=match v with
 | .string ⟨⟨s⟩⟩=>f s
 | _=>d
theorem onStr_some{v:Value}{f:List UInt8→Option Rsl}{r:Rsl}(e:onStr v f none=some r):∃s,v=str s∧f s=some r:=by
 unfold onStr at e;split at e
 · exact⟨_,rfl,e⟩
 · cases e
noncomputable def strs(l:List Value)(K:List (List UInt8)→Option Rsl):Option Rsl:=
 List.rec (motive:=fun _=>(List (List UInt8)→Option Rsl)→Option Rsl) (fun K=>K []) (fun v _ ih K=>onStr v (fun s=>ih fun r=>K (s::r)) none) l K
theorem strs_of{l:List Value}{K:List (List UInt8)→Option Rsl}{r:Rsl}(e:strs l K=some r):∃ls,l=ls.map str∧K ls=some r:=by
 induction l generalizing K with
 | nil=>exact⟨[],rfl,e⟩
 | cons v l ih=>
  have e':onStr v (fun s=>strs l fun r=>K (s::r)) none=some r:=e;obtain⟨s,rfl,e2⟩:=onStr_some e';obtain⟨ls,e3,e4⟩:=ih e2;exact⟨s::ls,by rw[e3];rfl,e4⟩
noncomputable def rowS(h:zB)(n:Nat)(v:Value)(K:List Value→Option Rsl):Option Rsl:=match v with
 | .slice none 0 0=>K []
 | .slice (some ⟨b,off,none⟩) len cap=>match zF h b with
  | .cells c kn z kd=>cond (Nat.blt b n && (Nat.ble (Nat.add off len) kn && cond (Nat.beq cap inf) (Nat.beq kd 1 && Nat.beq z (zc 9 1)) (Nat.blt cap inf && Nat.ble len cap))) (K (c.toListFrom undef off len)) none
  | _=>none
 | _=>none
theorem rowS_of{h:zB}{n:Nat}{v:Value}{K:List Value→Option Rsl}{r:Rsl}(e:rowS h n v K=some r):∃vs,Row n h v 9 1 vs.length vs∧K vs=some r:=by
 unfold rowS at e;split at e
 · exact⟨[],.inl ⟨rfl,rfl,rfl⟩,e⟩
 · rename_i b off len cap;split at e
   · rename_i c kn z kd ho
     cases hb:(Nat.blt b n && (Nat.ble (Nat.add off len) kn && cond (Nat.beq cap inf) (Nat.beq kd 1 && Nat.beq z (zc 9 1)) (Nat.blt cap inf && Nat.ble len cap))) with
     | false=>rw [hb]at e;cases e
     | true=>
      rw[hb]at e;have e':K (c.toListFrom undef off len)=some r:=e;obtain⟨b1,b2⟩:=Bool.and_eq_true_iff.1 hb;obtain⟨b2,b3⟩:=Bool.and_eq_true_iff.1 b2;have hl:(c.toListFrom undef off len).length=len:=Tr.length_toListFrom ..;have h2:off+len≤kn:=yG b2;refine⟨_,.inr ⟨b,off,cap,kn,z,kd,zT b1,by rw[hl],by rw[Nat.mul_one],by rw[ho];rfl,by rw[hl];exact h2,fun j x hj=>?_,?_⟩,e'⟩
      · rw[Tr.getElem?_toListFrom]at hj;split at hj
        · rename_i hlt;injection hj with hj
          unfold zC;rw [ho];unfold xH;dsimp only;rw [if_pos (by omega),hj]
        · cases hj
      · rw[hl]
        cases hc:Nat.beq cap inf with
        | true=>
         rw[hc]at b3;obtain⟨c1,c2⟩:=Bool.and_eq_true_iff.1 b3;exact .inr ⟨zE hc,zE c1,zE c2,Nat.le_refl _⟩
        | false=>
         rw[hc]at b3;obtain⟨c1,c2⟩:=Bool.and_eq_true_iff.1 b3;exact .inl ⟨zT c1,yG c2⟩
   · cases e
 · cases e
noncomputable def joinH(args:List Value)(h:zB)(n:Nat):Option Rsl:=match args with
 | [v,.string ⟨⟨sep⟩⟩]=>rowS h n v fun vs=>strs vs fun ls=>forceL (Lib.join ls sep) fun t=>cond (Nat.blt ls.length 1000000 && fits t) (some ⟨str t,h,n⟩) none
 | _=>none
theorem joinH_ok(args:List Value)(h:zB)(n:Nat):Fine 43 args h n (joinH args h n):=by
 unfold joinH;split
 · rename_i v sep;intro r e u;obtain⟨vs,h1,e1⟩:=rowS_of e;obtain⟨ls,rfl,e2⟩:=strs_of e1;rw [forceL_eq]at e2
   cases hb:(Nat.blt ls.length 1000000 && fits (Lib.join ls sep)) with
   | false=>rw [hb]at e2;cases e2
   | true=>
    rw[hb]at e2;obtain⟨b1,b2⟩:=Bool.and_eq_true_iff.1 hb;injection e2 with e2
    subst e2;rw [List.length_map]at h1;exact does_pure (join_pure ls sep h1 (zT b1) (fits_lt b2)) u
 · exact Fine.none
noncomputable def decK(f:Nat):Nat→List UInt8→List UInt8:=
 Nat.rec (motive:=fun _=>Nat→List UInt8→List UInt8) (fun _ acc=>acc)
  (fun _ ih n acc=>Bool.rec (ih (Nat.div n 10) (UInt8.ofNat (Nat.add 48 (Nat.mod n 10))::acc)) (UInt8.ofNat (Nat.add 48 n)::acc) (Nat.blt n 10)) f
theorem decK_eq:∀(f n:Nat) (acc:List UInt8),n<10 ^ (f+1)→decK (f+1) n acc=Lib.decDigits n++acc:=by
 intro f
 induction f with
 | zero=>
  intro n acc h;have e:decK 1 n acc=(Bool.rec (decK 0 (Nat.div n 10) (UInt8.ofNat (Nat.add 48 (Nat.mod n 10))::acc)) (UInt8.ofNat (Nat.add 48 n)::acc) (Nat.blt n 10):List UInt8):=rfl;have h2:n<10:=by simpa using h
  rw[e,yU h2];unfold Lib.decDigits;rw [dif_pos h2];rfl
 | succ f ih=>
  intro n acc h;have e:decK (f+1+1) n acc=(Bool.rec (decK (f+1) (Nat.div n 10) (UInt8.ofNat (Nat.add 48 (Nat.mod n 10))::acc)) (UInt8.ofNat (Nat.add 48 n)::acc) (Nat.blt n 10):List UInt8):=rfl;rw [e];unfold Lib.decDigits;by_cases h2:n<10
  · rw[yU h2,dif_pos h2];rfl
  · have h3:Nat.blt n 10=false:=by
     cases e9:Nat.blt n 10 with
     | false=>rfl
     | true=>exact absurd (zT e9) h2
    rw[h3,dif_neg h2];show decK (f+1) (n / 10) (UInt8.ofNat (48+n % 10)::acc)=_;rw [ih (n / 10) _ (by rw[Nat.pow_succ]at h;omega),List.append_assoc];rfl
noncomputable def itoaH(args:List Value)(h:zB)(n:Nat):Option Rsl:=match args with
 | [.int .i64 a]=>withT h (Int.rec (motive:=fun _=>Option Rsl) (fun m=>cond (Nat.blt m 9223372036854775808) (forceL (decK 20 m []) fun t=>some ⟨str t,h,n⟩) none)
  (fun m=>cond (Nat.blt m 9223372036854775808) (forceL (decK 20 (Nat.succ m) []) fun t=>some ⟨str (45::t),h,n⟩) none) a)
 | _=>none
theorem itoaH_ok(args:List Value)(h:zB)(n:Nat):Fine 44 args h n (itoaH args h n):=by
 unfold itoaH;split
 · rename_i a;refine fine_withT fun m hm=>?_
   cases a with
   | ofNat k=>
    refine Fine.cond fun hk=>?_;have hk:=zT hk;have:=Fine.pure (itoa_pure n hm (.ofNat k) (by show(-9223372036854775808:Int)≤(k:Int);omega) (by show(k:Int)≤_;omega));have e:Lib.itoa (.ofNat k)=Lib.decDigits k:=by unfold Lib.itoa;rw [if_neg (by show ¬((k:Int)<0);omega)];rfl
    rw[e]at this;rw [forceL_eq,decK_eq 19 k [] (by omega),List.append_nil];exact this
   | negSucc k=>
    refine Fine.cond fun hk=>?_;have hk:=zT hk;have:=Fine.pure (itoa_pure n hm (.negSucc k) (by omega) (by omega));have e:Lib.itoa (.negSucc k)=45::Lib.decDigits (k+1):=by unfold Lib.itoa;rw [if_pos (by omega)];rfl
    rw[e]at this;rw [forceL_eq,decK_eq 19 (Nat.succ k) [] (by omega),List.append_nil];exact this
 · exact Fine.none
noncomputable def atoiH(args:List Value)(h:zB)(n:Nat):Option Rsl:=match args with
 | [.string ⟨⟨s⟩⟩]=>cond (Nat.ble s.length 18) (Option.rec (motive:=fun _=>Option Rsl) none (fun v=>Int.rec (motive:=fun _=>Option Rsl) (fun m=>some ⟨.tuple #[.int .i64 (.ofNat m),.nilIface],h,n⟩) (fun m=>some ⟨.tuple #[.int .i64 (.negSucc m),.nilIface],h,n⟩) v) (Lib.atoi s)) none
 | _=>none
theorem atoiH_ok(args:List Value)(h:zB)(n:Nat):Fine 184 args h n (atoiH args h n):=by
 unfold atoiH;split
 · rename_i s;refine Fine.cond fun hs=>?_
   cases hv:Lib.atoi s with
   | none=>exact Fine.none
   | some v=>
    have:=Fine.pure (atoi_pure (h:=h) n s v (yG hs) hv);cases v <;> exact this
 · exact Fine.none
noncomputable def checkH(args:List Value)(h:zB)(n:Nat):Option Rsl:=match args with
 | [.pointer (some ⟨b, 0, none⟩)] => match zF h b with
  | .cells c 2 z 0=>cond (Nat.beq z (114+1)) (match Tr.get undef c 0 with
   | .pointer none=>c.setK undef (.pointer (some ⟨b,0,none⟩)) 0 fun c'=>h.setK .dead (.cells c' 2 z 0) b fun h'=>some ⟨.tuple #[],h',n⟩
   | .pointer (some ⟨b',0,none⟩)=>cond (Nat.beq b' b) (some ⟨.tuple #[],h,n⟩) none
   | _=>none) none
  | _=>none
 | _=>none
theorem bld_of{h:zB}{b z:Nat}{c:Tr Value}(ho:zF h b = .cells c 2 z 0)(hz:Nat.beq z (114+1)=true):Bld 114 h b (Tr.get undef c 0) (Tr.get undef c 1):=by
 obtain rfl:=zE hz;unfold Bld zC;rw [ho];exact⟨rfl,rfl,rfl⟩
theorem checkH_ok(args:List Value)(h:zB)(n:Nat):Fine 101 args h n (checkH args h n):=by
 unfold checkH;split
 · rename_i b;split
   · rename_i c z ho;refine Fine.cond fun hz=>?_;have hB:=bld_of ho hz;split
     · rename_i hp;rw [hp]at hB;intro r e u;rw [Tr.setK_eq,Tr.setK_eq]at e;injection e with e
       subst e;obtain⟨v,h',n',⟨rfl,rfl,rfl⟩,hc⟩:=(check_fresh (n:=n) hB).does u;rw [ho]at hc;exact hc
     · rename_i b' hp;refine Fine.cond fun hb=>?_;obtain rfl:=zE hb;rw [hp]at hB;intro r e u;injection e with e
       subst e;obtain⟨v,h',n',⟨rfl,rfl,rfl⟩,hc⟩:=(check_used (n:=n) hB).does u;exact hc
     · exact Fine.none
   · exact Fine.none
 · exact Fine.none
noncomputable def bytesK(l:List Value)(K:List UInt8→Option Rsl):Option Rsl:=
 List.rec (motive:=fun _=>(List UInt8→Option Rsl)→Option Rsl) (fun K=>K [])
  (fun v _ ih K=>onInt v (fun k a=>Int.rec (motive:=fun _=>Option Rsl) (fun m=>Bool.rec none (ih fun r=>K (UInt8.ofNat m::r)) (xP k .u8 && Nat.blt m 256)) (fun _=>none) a) none) l K
theorem bytesK_of{l:List Value}{K:List UInt8→Option Rsl}{r:Rsl}(e:bytesK l K=some r):∃t,l=bytesV t∧K t=some r:=by
 induction l generalizing K with
 | nil=>exact⟨[],rfl,e⟩
 | cons v l ih=>
  have e':onInt v (fun k a=>Int.rec (motive:=fun _=>Option Rsl) (fun m=>Bool.rec none (bytesK l fun r=>K (UInt8.ofNat m::r)) (xP k .u8 && Nat.blt m 256)) (fun _=>none) a) none=some r:=e;rcases tR e' with⟨k,a,rfl,e2⟩|e2
  · cases a with
    | negSucc m=>cases e2
    | ofNat m =>
     have e3:(Bool.rec none (bytesK l fun r=>K (UInt8.ofNat m::r)) (xP k .u8 && Nat.blt m 256):Option Rsl)=some r:=e2
     cases hb:(xP k .u8 && Nat.blt m 256) with
     | false=>rw [hb]at e3;cases e3
     | true =>
      rw[hb]at e3;obtain⟨b1,b2⟩:=Bool.and_eq_true_iff.1 hb;obtain rfl:=vD b1;obtain⟨t,rfl,e4⟩:=ih e3;refine⟨UInt8.ofNat m::t,?_,e4⟩
      have:((UInt8.ofNat m).toNat:Int)=Int.ofNat m:=by
       rw[UInt8.toNat_ofNat',Nat.mod_eq_of_lt (zT b2)];rfl
      simp only[List.map_cons,this]
  · cases e2
noncomputable def stringH(args:List Value)(h:zB)(n:Nat):Option Rsl:=match args with
 | [.pointer (some ⟨b, 0, none⟩)] => match zF h b with
  | .cells c 2 z 0 => cond (Nat.beq z (114 + 1)) (match Tr.get undef c 1 with
   | .slice none 0 0=>some ⟨str [],h,n⟩
   | .slice (some ⟨b2, 0, none⟩) len cap => match zF h b2 with
    | .cells c2 kn z2 1=>cond (Nat.beq cap inf && (Nat.beq kn len && (Nat.beq z2 (zc 5 1) && (!Nat.beq b2 b && (Nat.blt b2 n && (Nat.blt len 1000000 && Nat.blt 0 len))))))
     (bytesK (c2.toListFrom undef 0 kn) fun t=>h.setK .dead .dead b2 fun h'=>some ⟨str t,h',n⟩) none
    | _=>none
   | _=>none) none
  | _=>none
 | _=>none
theorem stringH_ok(args:List Value)(h:zB)(n:Nat):Fine 46 args h n (stringH args h n):=by
 unfold stringH;split
 · rename_i b;split
   · rename_i c z ho;refine Fine.cond fun hz=>?_;have hB:=bld_of ho hz;split
     · rename_i hp;rw [hp]at hB;intro r e u;injection e with e
       subst e;obtain⟨v,h',n',⟨rfl,rfl,hh⟩,hc⟩:=(string_rets (lo:=0) (n:=n) (l:=[]) hB (.inl ⟨rfl,rfl,rfl⟩) (by intro e;cases e) (by decide)).does u;exact hc.sub (Sub.refl _) fun b'=>.inr (hh b' (by intro e;cases e))
     · rename_i b2 len cap hp;split
       · rename_i c2 kn z2 ho2;refine Fine.cond fun hb=>?_;obtain⟨b1,hb⟩:=Bool.and_eq_true_iff.1 hb;obtain⟨b2',hb⟩:=Bool.and_eq_true_iff.1 hb;obtain⟨b3,hb⟩:=Bool.and_eq_true_iff.1 hb;obtain⟨b4,hb⟩:=Bool.and_eq_true_iff.1 hb;obtain⟨b5,hb⟩:=Bool.and_eq_true_iff.1 hb;obtain⟨b6,b7⟩:=Bool.and_eq_true_iff.1 hb;obtain rfl:=zE b1;obtain rfl:=zE b2';obtain rfl:=zE b3;have hne:b2≠b:=fun e=>by rw[e,Nat.beq_refl]at b4;cases b4
         intro r e u;obtain⟨t,ht,e2⟩:=bytesK_of e;rw [Tr.setK_eq]at e2;injection e2 with e2
         subst e2
         have hl:t.length=kn:=by
          have:=congrArg List.length ht;rw [Tr.length_toListFrom,List.length_map]at this;exact this.symm
         subst hl;rw [hp]at hB
         have hOwn:Own 0 n h (.slice (some ⟨b2,0,none⟩) t.length inf) 5 1 t.length (bytesV t):=by
          refine .inr ⟨b2,Nat.zero_le _,zT b5,rfl,by rw[ho2];show some (t.length,_,1)=some ((bytesV t).length,_,1);rw [List.length_map],by rw[List.length_map,Nat.mul_one],zT b7,fun i=>?_⟩;unfold zC;rw [ho2,← ht,Tr.getElem?_toListFrom,Nat.zero_add];rfl
         obtain⟨v,h',n',⟨rfl,rfl,hh⟩,hc⟩:=(string_rets hB hOwn (by intro e;injection e with e;exact hne e) (zT b6)).does u;refine hc.sub (Sub.refl _) fun b'=>?_;rw [zI];by_cases hbb:b2=b'
         · rw[if_pos hbb];exact .inl rfl
         · rw[if_neg hbb];exact .inr (hh b' (by intro e;injection e with e;exact hbb e))
       · exact Fine.none
     · exact Fine.none
   · exact Fine.none
 · exact Fine.none
noncomputable def hkLib:HookH:=fun f args h n=>
 cond (Nat.beq f 101) (checkH args h n) <| cond (Nat.beq f 43) (joinH args h n) <| cond (Nat.beq f 44) (itoaH args h n) <| cond (Nat.beq f 152) (cutH args h n) <|
 cond (Nat.beq f 189) (splitH args h n) <| cond (Nat.beq f 188) (cutPrefixH args h n) <| cond (Nat.beq f 184) (atoiH args h n) <| cond (Nat.beq f 46) (stringH args h n) none
theorem vZ{b:Bool}{o o':Option Rsl}{r:Rsl}(e:cond b o o'=some r):(b=true∧o=some r)∨o'=some r:=by
 cases b with
 | true=>exact .inl ⟨rfl,e⟩
 | false=>exact .inr e
theorem hkLib_ok:HookHOK P 8 hkLib:=by
 intro f args h n r e u;unfold hkLib at e;rcases vZ e with⟨hf,e⟩|e
 · obtain rfl:=zE hf;exact checkH_ok _ _ _ r e u
 rcases vZ e with⟨hf,e⟩|e
 · obtain rfl:=zE hf;exact joinH_ok _ _ _ r e u
 rcases vZ e with⟨hf,e⟩|e
 · obtain rfl:=zE hf;exact itoaH_ok _ _ _ r e u
 rcases vZ e with⟨hf,e⟩|e
 · obtain rfl:=zE hf;exact cutH_ok _ _ _ r e u
 rcases vZ e with⟨hf,e⟩|e
 · obtain rfl:=zE hf;exact splitH_ok _ _ _ r e u
 rcases vZ e with⟨hf,e⟩|e
 · obtain rfl:=zE hf;exact cutPrefixH_ok _ _ _ r e u
 rcases vZ e with⟨hf,e⟩|e
 · obtain rfl:=zE hf;exact atoiH_ok _ _ _ r e u
 rcases vZ e with⟨hf,e⟩|e
 · obtain rfl:=zE hf;exact stringH_ok _ _ _ r e u
 cases e
end Go.Proofs.YtmccnilgnlaffaaGreatDoor
namespace Go.Proofs.YtmccnilgnlaffaaGreatDoor
open Go Go.Ex Go.RowKit
set_option maxRecDepth 1000000
def zs:List Int:=[0,1,56,2,57,49,28,3,61,58,42,50,38,29,17,4,62,47,59,36,45,43,51,22,53,39,33,30,24,18,12,5,63,55,48,27,60,41,37,16,46,35,44,21,52,32,23,11,54,26,40,15,34,20,31,10,25,14,19,9,13,8,7,6]
def tabs(m:Int):List (Nat×List Value):=[(0,[.int .i64 m]),(1,powL),(5,zs.map fun z=>Value.int .u8 z)]
theorem tabs_ok(m:Int):tabsOK 8 (tabs m)=true:=by kernel_rfl
noncomputable def lo0:Lo:=runHH P hkLib 1000000
theorem lo0_ok:Sound P 8 lo0:=soundHH prog_ok mixed hkLib_ok 1000000
theorem alive_run(m:Int):lo0.call 5 [] false none (heap0 (tabs m)) 8 (finV (.bool true))=true:=by kernel_rfl
theorem alive_pur{m:Int}{h:zB}{n:Nat}(ht:tabsB (tabs m) h=true):Pur P 8 5 [] h n (.bool true):=fun u=>⟨_,_,_,⟨rfl,rfl,rfl⟩,hook_of_run lo0_ok (tabs_ok m) rfl (.inr ⟨_,rfl⟩) (alive_run m) ht u n⟩
end Go.Proofs.YtmccnilgnlaffaaGreatDoor
namespace Go.Proofs.YtmccnilgnlaffaaGreatDoor
open Go Go.Ex Go.Ex.M
set_option maxRecDepth 100000
set_option maxHeartbeats 8000000
attribute [local simp] xV
variable {n:Nat} {h:zB}
instance num12_c (e:Int) (h:zB) (n:Nat):PurC P 8 11 [I64 e] h n (I64 e):=⟨by
 refine ent fun u=>?_;repeat' first|refine wk ?_|refine cX (fun _=>?_) fun _=>?_|fail
 exact fin rfl⟩
theorem makeE_mok{m:MachT}{ns:List Tx}{ps:List Pl}(k:MOK m ns ps):MakeE m 0:=.inr ⟨k.nm,.inr ⟨⟨ns,ps⟩,k.geo,.inr ⟨k.ne,.inr ⟨k.cls,.inr ⟨k.ops,.inr ⟨k.conv,.inr ⟨rfl,k.spill⟩⟩⟩⟩⟩⟩⟩
theorem code_m{d a b:Nat}{nm:Tx}{x y z:Nat}(hn:nm.length<tMax)(hx:x<n)(hy:y<n)(hz:z<n)(hd:d<40)(ha:a<40)(hb:b<40)
(cx:Cel h x 0 0 [I64 (a:Nat),I64 (b:Nat)])(cy:Cel h y 0 0 ([mtI d a b nm (sl0 x 2),mtE].flatMap insC))(cz:Cel h z 0 0 [sl0 y 2]):CodeM n h (mtC d a b nm (sl0 x 2) (sl0 z 1) (sl0 y 2)):=by
 have g:∀j:Nat,j<40→Go64 ((j:Nat):Int):=fun j hj=>⟨by omega,by omega⟩;have g0:Go64 0:=⟨by decide,by decide⟩;refine⟨by show 1<tMax;decide,⟨by show 1<inf;decide,0,cel_row cz hz rfl (by decide)⟩,by show 1<tMax;decide,fun q hq=>?_,fun q hq i hi=>?_⟩
 · obtain rfl:=List.mem_singleton.1 hq;exact⟨⟨by show 2<inf;decide,0,cel_row cy hy rfl (by decide)⟩,by show 2<tMax;decide⟩
 · obtain rfl:=List.mem_singleton.1 hq;simp only[List.mem_cons,List.not_mem_nil,or_false]at hi;rcases hi with rfl|rfl
   · refine⟨fun e=>cel_row cx hx rfl (by decide),by show 2<tMax;decide,fun q hq=>?_,⟨g _ hd,g0,g0⟩,hn⟩;have hq:q=(a:Nat)∨q=(b:Nat):=by simpa using hq
     rcases hq with rfl|rfl
     · exact g _ ha
     · exact g _ hb
   · exact⟨fun e=>.inl ⟨rfl,rfl,rfl⟩,(by show 0<tMax;decide),fun q hq=>(by cases hq),⟨g0,g0,g0⟩,(by show 0<tMax;decide)⟩
noncomputable abbrev hpT(h:zB)(n b0:Nat)(rv:Value)(tie:Int)(x:Tx):zB:=hst (hst (hst (hal h n (mkC [str [],tO,tO,tO,tO,str [],tO,I64 0] (27+1) 0)) n 0 [str [109],rv,sl0 b0 1,sl0 (b0+1+1+1+1+1) 3,sl0 (b0+1+1+1+1+1+1) 1,str (nam 0),tO,I64 100])
 (b0+1+1+1+1+1) (0+0*6+4) [I64 tie]) (b0+1+1+1+1) (0+1*2+1) [str x]
theorem smF_tied{lo N b0:Nat}{rv cv:Value}{tie:Int}{x:Tx}(k:SmF lo n h rv cv N b0 (-1) []):SmF lo (n+1) (hpT h n b0 rv tie x) rv cv N b0 tie x:=by
 obtain⟨hb0,hb1⟩:=k.hb;have k0:=k.k0;have k2:=k.k2;have k3:=k.k3;have k4:Cel h (b0+1+1+1+1) 0 0 [str [103],str [],str [103],str []]:=k.k4;have k5:Cel h (b0+1+1+1+1+1) 0 0 [str addT,str [103],str [],sl0 (b0+1+1) 2,I64 (-1),tO,str notT,str [103],str [],sl0 (b0+1+1+1) 1,I64 (-1),tO,str divT,str [103],str [],sl0 (b0+1+1+1+1) 2,I64 (-1),tO]:=k.k5;have k6:=k.k6;have t:Tch [b0+1+1+1+1+1,b0+1+1+1+1] h n (hpT h n b0 rv tie x) (n+1):=zA
 have z:∀{v:Value} {e sz len:Nat} {vs:List Value},Own lo n h v e sz len vs→Own lo (n+1) (hpT h n b0 rv tie x) v e sz len vs:=fun o=>o.tch t fun b hb hx=>by
  have q4:=celE k4 (Nat.succ_pos _) (.inl o) b hb;have q5:=celE k5 (Nat.succ_pos _) (.inl o) b hb;simp at hx q4 q5;omega
 refine⟨⟨hb0,by omega⟩,k.hN,z k.rr,z k.cr,?_,?_,?_,?_,?_,?_⟩
 · clear t;exact zD
 · clear t;exact zD
 · clear t;exact zD
 · clear t;exact zD
 · clear t;exact zD
 · clear t;exact zD
noncomputable abbrev hpK(h:zB)(n d a b:Nat)(nm:Tx):zB:=hst (hal (hal (hal (hal h n (mkC [I64 (a:Nat),I64 (b:Nat)] 0 0)) (n+1) (mkC ([mtI d a b nm (sl0 n 2),mtE].flatMap insC) 0 0)) (n+1+1) (mkC [sl0 (n+1) 2] 0 0)) (n+1+1+1) (mkC [str [],I64 0,tO] (30+1) 0)) (n+1+1+1) 0 [str [102],I64 0,sl0 (n+1+1) 1]
theorem code_at{d a b:Nat}{nm:Tx}(hn:nm.length<tMax)(hd:d<40)(ha:a<40)(hb:b<40):CodeM (n+1+1+1+1) (hpK h n d a b nm) (mtC d a b nm (sl0 n 2) (sl0 (n+1+1) 1) (sl0 (n+1) 2)):=
 code_m hn (by omega) (by omega) (by omega) hd ha hb zD zD zD
theorem mties_com{m0:Int}(ht:tabsB (tabs m0) h=true){N tie fx d a b:Int}:Com P 8 4 [I64 N,I64 tie,I64 fx,I64 d,I64 a,I64 b] h n fun o _ _=>o = .ret (.bool true):=by
 refine ent fun u=>?_;by_cases hN:3≤N∧N≤40∧-1≤tie∧tie≤1∧0≤fx∧fx<N∧0≤d∧0≤a∧0≤b∧d<N∧a<N∧b<N
 rotate_left
 · repeat' first|refine wk ?_|refine cX (fun _=>?_) fun _=>?_|refine wM (alive_pur ht) ?_|fail
   all_goals first|rfl|(exfalso;omega)
 obtain⟨h1,h2,h3,h4,h5,h6,h7,h8,h9,h10,h11,h12⟩:=hN;obtain⟨N,rfl⟩:=Int.eq_ofNat_of_zero_le (show 0≤N by omega);obtain⟨fx,rfl⟩:=Int.eq_ofNat_of_zero_le h5;obtain⟨d,rfl⟩:=Int.eq_ofNat_of_zero_le h7;obtain⟨a,rfl⟩:=Int.eq_ofNat_of_zero_le h8;obtain⟨b,rfl⟩:=Int.eq_ofNat_of_zero_le h9;repeat' first|refine wk ?_|refine cX (fun _=>?_) fun _=>?_|refine wM (alive_pur ht) ?_|fail
 refine uB (small_ret (by omega)) ?_
 rintro w ha na ⟨rv,cv,b0,hw,sf,ta⟩
 have hw:w = .agg ⟨[str [109],rv,sl0 b0 1,sl0 (b0+1+1+1+1+1) 3,sl0 (b0+1+1+1+1+1+1) 1,str (nam 0),tO,I64 100]⟩:=hw;subst hw;obtain⟨hb0,hb1⟩:=sf.hb;have hlR:(smR N).length=N:=by unfold smR;rw [List.length_map,List.length_range]
 have zr:=sf.rr.row (by decide);have ozr:=zr.one;have ozc:=(sf.cr.row (by decide)).one;have d0:(smR N)[fx]? = some (.mk (nam fx) 8 0 tO []):=by unfold smR;rw [List.getElem?_map,List.getElem?_range (by omega)];rfl
 have d1:=rd_at (yE zr d0) (j:=0) rfl;have low:=zr.low (by omega);have k4:Cel ha (b0+1+1+1+1) 0 0 [str [103],str [],str [103],str []]:=sf.k4;have k5:Cel ha (b0+1+1+1+1+1) 0 0 [str addT,str [103],str [],sl0 (b0+1+1) 2,I64 (-1),tO,str notT,str [103],str [],sl0 (b0+1+1+1) 1,I64 (-1),tO,str divT,str [103],str [],sl0 (b0+1+1+1+1) 2,I64 (-1),tO]:=sf.k5
 have rbk:zO rv=some (sbk rv):=by
  rcases sf.rr with⟨_,e,_⟩|⟨br,_,_,rfl,_⟩
  · omega
  · rfl
 have ne4:sbk rv≠b0+1+1+1+1:=fun e=>celE k4 (Nat.succ_pos _) (.inl sf.rr) _ rbk (by rw[e];simp);have ne5:sbk rv≠b0+1+1+1+1+1:=fun e=>celE k5 (Nat.succ_pos _) (.inl sf.rr) _ rbk (by rw[e];simp);repeat' first|refine wk ?_|refine cX (fun _=>?_) fun _=>?_|fail
 refine ob ?_ (iad_sl (j:=0) (by decide));repeat' first|refine wk ?_|refine cX (fun _=>?_) fun _=>?_|fail
 refine ob ?_ (iad_sl (j:=2) (by decide));repeat' first|refine wk ?_|refine cX (fun _=>?_) fun _=>?_|fail
 refine ob ?_ (iad_sl (j:=1) (by decide));repeat' first|refine wk ?_|refine cX (fun _=>?_) fun _=>?_|fail
 have sf2:=smF_tied (tie:=tie) (x:=nam fx) sf;have hok:=sm_ok (v:=smV rv cv b0) (n:=N) (tie:=tie) (f:=fx) (by omega) (by omega) ⟨h3,h4⟩ (by omega);refine cal (make_com (m:=smM (smV rv cv b0) N tie (nam fx)) sf2.mach (Nat.le_refl _)) ?_
 rintro _ hc nc ⟨e,he,tc,hr⟩
 obtain rfl:=makeE_fun he (makeE_mok hok);rcases hr with⟨h13,_⟩|⟨_,bt,ns,ps,v,rfl,ok,tm⟩
 · exact absurd rfl h13
 have hg:geoP (smR N) = .ok ⟨ns,ps⟩:=ok.geo;rw [sm_geo (by omega)]at hg
 obtain⟨rfl,rfl⟩:smN N=ns∧smP N=ps:=by
  injection hg with hg
  injection hg with e1 e2
  exact⟨e1,e2⟩
 clear hg he ok sf2 sf ta tc d1 k4 k5 ne4 ne5 rbk low zr d0;repeat' first|refine wk ?_|refine cX (fun _=>?_) fun _=>?_|fail
 refine uB (mcheck_ret (tm.tch zA) hok (MOK.ond hok) (code_at (d:=d) (a:=a) (b:=b) (nm:=addT) (by decide) (by omega) (by omega) (by omega)) (Nat.le_refl _)) ?_
 rintro _ hd nd ⟨x1,x2,e1,rfl,hE,td⟩
 obtain⟨rfl,rfl,rfl⟩:=codeE_fun hE (sm_code (sm_insA (by omega) (by omega) (by omega) (by omega)));have tm2:TabM (na+1) nd hd bt (smM (smV rv cv b0) N tie (nam fx)) (smN N) (smP N) v:=(tm.tch (show Tch [] hc nc (hpK hc nc d a b addT) (nc+1+1+1+1) from zA)).tch td;clear hE tm td;generalize he1:(if tieB tie d a b then 0 else 23:Int)=e1
 repeat' first|refine wk ?_|refine cX (fun _=>?_) fun _=>?_|fail
 refine uB (mcheck_ret (tm2.tch zA) hok (MOK.ond hok) (code_at (d:=d) (a:=a) (b:=b) (nm:=divT) (by decide) (by omega) (by omega) (by omega)) (Nat.le_refl _)) ?_
 rintro _ hf nf ⟨x1,x2,e2,rfl,hE,tf⟩
 obtain⟨rfl,rfl,rfl⟩:=codeE_fun hE (sm_code (sm_insD (by omega) (by omega) (by omega) (by omega) (by omega)));clear hE tm2 tf;have hz:∀x y:Nat,x≠y→¬((x:Nat):Int)=((y:Nat):Int):=fun x y hxy e=>hxy (by omega);clear hok hlR hw ht ozr ozc;rcases(by omega:tie = -1∨tie=0∨tie=1) with rfl|rfl|rfl
 · obtain rfl:(0:Int)=e1:=he1;clear h3 h4;by_cases hbf:b=fx
   · subst hbf;rw [if_pos rfl];repeat' first|refine wk ?_|refine cX (fun _=>?_) fun _=>?_|fail
     all_goals first|rfl|(exfalso;simp_all;done)
   · rw[if_neg hbf];have:=hz _ _ hbf;repeat' first|refine wk ?_|refine cX (fun _=>?_) fun _=>?_|fail
     all_goals first|rfl|(exfalso;simp_all;done)
 · have et:tieB (0:Nat) d a b=decide (a=d):=by
    show(false || decide (some ((a:Nat):Int)=some ((d:Nat):Int)))=_;rw [Bool.false_or];exact decide_eq_decide.2 ⟨fun e=>by injection e with e;omega,fun e=>by rw[e]⟩
   have he1:(if tieB (0:Nat) d a b then 0 else 23:Int)=e1:=he1;rw [et]at he1;clear h3 h4 et;by_cases had:a=d <;> by_cases hbf:b=fx
   all_goals (first|have w1:=hz _ _ had|skip)
   all_goals (first|have w2:=hz _ _ hbf|skip)
   all_goals (first|rw [if_pos (decide_eq_true had)]at he1|rw [if_neg (by rw[decide_eq_false had];decide)]at he1)
   all_goals (first|rw [if_pos hbf]|rw [if_neg hbf])
   all_goals subst he1
   all_goals (repeat' first|refine wk ?_|refine cX (fun _=>?_) fun _=>?_|fail)
   all_goals refine ob ?_ (iad_sl (j:=0) (by decide))
   all_goals (repeat' first|refine wk ?_|refine cX (fun _=>?_) fun _=>?_|fail)
   all_goals first|rfl|(exfalso;simp_all;done)|(simp_all;done)
 · have et:tieB (1:Nat) d a b=decide (b=d):=by
    show(false || decide (some ((b:Nat):Int)=some ((d:Nat):Int)))=_;rw [Bool.false_or];exact decide_eq_decide.2 ⟨fun e=>by injection e with e;omega,fun e=>by rw[e]⟩
   have he1:(if tieB (1:Nat) d a b then 0 else 23:Int)=e1:=he1;rw [et]at he1;clear h3 h4 et;by_cases had:b=d <;> by_cases hbf:b=fx
   all_goals (first|have w1:=hz _ _ had|skip)
   all_goals (first|have w2:=hz _ _ hbf|skip)
   all_goals (first|rw [if_pos (decide_eq_true had)]at he1|rw [if_neg (by rw[decide_eq_false had];decide)]at he1)
   all_goals (first|rw [if_pos hbf]|rw [if_neg hbf])
   all_goals subst he1
   all_goals (repeat' first|refine wk ?_|refine cX (fun _=>?_) fun _=>?_|fail)
   all_goals refine ob ?_ (iad_sl (j:=1) (by decide))
   all_goals (repeat' first|refine wk ?_|refine cX (fun _=>?_) fun _=>?_|fail)
   all_goals first|rfl|(exfalso;simp_all;done)|(simp_all;done)
end Go.Proofs.YtmccnilgnlaffaaGreatDoor
namespace Go.Proofs.YtmccnilgnlaffaaGreatDoor
open Go Go.Ex Go.ChangeShapes Go.WideShapes Go.ChangeAt Go.RowKit
set_option maxRecDepth 1000000
theorem own:ownKnob P.godebug=none:=by kernel_rfl
theorem returns_and_shaped{H:Type}{enc:TypeId×Value→H}{a:Assume}{C:Checked}{os:Os}{f:FuncId}{fn:Func}{s:ChangeSpec}{conds:List PathCond}{apart fresh handsOn again:Bool}{X:World→Array Value→Prop}
(hX:∀(w w':World) (args:Array Value),w.heap=w'.heap→X w args→X w' args)
(own:ownKnob C.prog.godebug=none)(started:os.Started)(noInit:C.prog.inits.idxOf? f=none)(hfn:C.prog.funcs[f]? = some fn)
(witness:∃(w:World) (tape:Tape) (i:Input),w.os=os∧(w.forCall tape i).Shaped C.prog∧i.vars=[]∧Input.okWide C.prog (w.forCall tape i) .any w.heap.size f i∧
  ((s.pre enc C.prog fn conds apart (w.forCall tape i).memory i.args∧X (w.forCall tape i).memory i.args)∧sizedMet enc C.prog fn (OpenSpec.ofChange s) apart (w.forCall tape i).memory i.args)∧a.holds C.prog (lone (Frame.enter C.prog f i.args .normal) [] (w.forCall tape i)))
(contract:∀(W:World) (base:Nat) (args:Array Value) (ds gs:List (DataW H)) (before:List MemPlace),
  (∀(j:Nat) t v,fn.params[j]? = some t→args[j]? = some v→Value.okWide C.prog W .any base t v)→
  DataW.Whole enc C.prog fn.params.toList s.vars apart W args.toList ds gs before→
  conds.all (PathCond.test C.prog ⟨fn.params.toList,ds,s.plain.varTypes C.prog,gs⟩)=true→
  (DataW.weightsEach C.prog (fn.params.toList++s.plain.varTypes C.prog) (ds++gs)).all (·≤reachBytes)=true→X W args→W.ShapedOpen C.prog→
  a.holds C.prog (lone (Frame.enter C.prog f args .normal) [] W)→
  Calls C.prog f args W fun e W'=>∃v,e = .returned v∧s.post enc C.prog fn apart fresh handsOn again W args v W') :
 ReturnsInHanded a C os f .any (fun w args=>(s.pre enc C.prog fn conds apart w args∧X w args)∧sizedMet enc C.prog fn (OpenSpec.ofChange s) apart w args) (s.post enc C.prog fn apart fresh handsOn again):=by
 refine returnsInHanded_of_calls own started noInit witness ?_;intro w tape i _ hsh _ hok hpre hholds;obtain⟨_,_,_,fn',hfn',_,_,_,_,hval⟩:=hok;have e:fn'=fn:=Option.some.inj (hfn'.symm.trans hfn);subst e;obtain⟨⟨⟨ds,gs,before,hw,hc⟩,hx⟩,hz⟩:=hpre;have hw':=DataW.Whole.of_heap (w':=w.forCall tape i) (by rfl) hw;refine(contract (w.forCall tape i) w.heap.size i.args ds gs before hval hw' hc (hz.weights hw) (hX _ _ _ (by rfl) hx) hsh hholds).mono fun e W' ⟨v,he,hp⟩=>?_;subst he;exact ChangeSpec.post_blind hp
theorem tabIs_of_reads{W:World}{name:String}{k:IntKind}{zs:List Int}{g:Nat}{t e:TypeId}{n:Nat}
(hg:P.globalNamed name=some g)(hty:(P.globals[g]?).map (·.type)=some t)(ht:P.underlying t=some (.array n e))(he:P.underlying e=some (.int k))(hce:P.cellsOf e=1)(hct:P.cellsOf t=n)
(h:Lib.VarReads P W name (Lib.tabData k zs)):Lib.TabIs P W name k zs:=by
 obtain⟨g',t',cs,fuel,p,hg',ht',hvar,hd⟩:=h;obtain rfl:=Option.some.inj (hg.symm.trans hg');obtain rfl:=Option.some.inj (hty.symm.trans ht');unfold Lib.TabIs;rw [hvar,← Lib.cells_of_tab ht he hce hct hd]
theorem in_of_tabIs{W:World}{name:String}{k:IntKind}{zs:List Int}{g:Nat}(hT:Lib.TabIs P W name k zs)(hg:P.globalNamed name=some g):∃el fr,W.heap[g]? = some (.cells ⟨zs.map fun z=>Value.int k z⟩ el fr):=by
 unfold Lib.TabIs World.var? at hT;rw [hg]at hT;simp only[Option.bind_some]at hT;split at hT
 · rename_i cs el fr e;injection hT with hT
   exact⟨el,fr,by rw[e,hT]⟩
 · cases hT
theorem max_in{W:World}(hs:W.ShapedOpen P):∃(m:Int) (el:TypeId) (fr:Nat×Nat),W.heap[(0:Nat)]? = some (.cells ⟨[.int .i64 m]⟩ el fr):=by
 have h0:((begin P (fun _ _=>0) default).world.heap[(0:Nat)]?).bind Obj.row? = some (#[.int .i64 0],3):=by kernel_rfl
 obtain⟨cs,hh,hsz,hr⟩:=hs.1 0 _ _ (of_decide_eq_true (by kernel_rfl)) h0;obtain⟨m,hm⟩:=cell_of_shapedOpen_int (k:=.i64) hs (of_decide_eq_true (by kernel_rfl)) h0 rfl (by kernel_rfl) (by kernel_rfl) Tryz.underlying3;refine⟨m,3,(0,0),hh.trans ?_⟩;unfold World.cell? at hm;dsimp only at hm;rw [hh]at hm;have hm':cs[0]? = some (.int .i64 m):=hm;have h1:cs.size=1:=hsz;congr 2
 apply Array.ext
 · exact h1
 · intro i i1 i2;obtain rfl:i=0:=by omega
   rw[Array.getElem?_eq_getElem (by omega)]at hm';injection hm'
theorem tabs_in {W:World} (h1:Lib.TabIs P W "internal/strconv.uint64pow10" .u64 Lib.pow10Tab) (h2:Lib.TabIs P W "math/bits.deBruijn64tab" .u8 zs) (hs:W.ShapedOpen P):∃m,TabsIn W (tabs m):=by
 obtain⟨m,el,fr,e⟩:=max_in hs;refine⟨m,fun p hp=>?_⟩;simp only[tabs,List.mem_cons,List.not_mem_nil,or_false]at hp;rcases hp with rfl|rfl|rfl
 · exact⟨el,fr,e⟩
 · have:=in_of_tabIs (g:=1) h1 (by kernel_rfl);dsimp only;rw [powL_eq];exact this
 · exact in_of_tabIs (g:=5) h2 (by kernel_rfl)
theorem tabs_self(m:Int):tabsB (tabs m) (heap0 (tabs m))=true:=by
 have e:ieqB m m=true:=by rw[xL];simp
 show((true && (true && ((xP .i64 .i64 && ieqB m m) && true))) && tabsB ((tabs m).drop 1) (heap0 (tabs m)))=true;rw [e];kernel_rfl
end Go.Proofs.YtmccnilgnlaffaaGreatDoor
