/- What the law leans on: an executor of the model that is sound, deduction over it, and the walks through the code (part 24 of 24). Conditions: those that each theorem states. -/
import Derived.Test.YtdipdkkpgjdnkaaGreatDoorVirLinesx16
import Derived.Test.YtdipdkkpgjdnkaaGreatDoorVirLinesx14
import Derived.Test.YtdipdkkpgjdnkaaGreatDoorVirLinesx18
import Derived.Test.YtdipdkkpgjdnkaaGreatDoorVirLinesx20
import Derived.Test.YtdipdkkpgjdnkaaGreatDoorVirLinesx22
import Derived.Test.YtdipdkkpgjdnkaaGreatDoorVirLinesx23
import Derived.Test.YtdipdkkpgjdnkaaGreatDoorVirLinesx17
import Derived.Test.YtdipdkkpgjdnkaaGreatDoorVirLinesx13
import Derived.Lib.AtoiTie
import Derived.Lib.LaidTab
import Derived.ProofKit
import Derived.LaidMore
import Derived.OpenShut
import Derived.Stop.Joined
import Derived.ChangeOld
import Derived.Lib.LaidU8
import Derived.Shelf.Vars
import Derived.HandedShaped
import Derived.Below
import Derived.Carry
import Derived.Stop.LaidErr
import Derived.Handed
import Derived.ChangeMaps5

set_option linter.unusedVariables false
set_option linter.unusedSimpArgs false
namespace Go.Proofs.YtdipdkkpgjdnkaaGreatDoor
open Go.Ex Go.RowKit
set_option maxRecDepth 1000000
theorem does_pure{f:FuncId}{args:List Value}{h:zB}{n:Nat}{v:Value}(r:Pure P 8 f args h n v)(u:Option zJ):CallTo P 8 f args false u h n (.ret v) u h n:=by
 obtain⟨v',h',n',⟨rfl,rfl,rfl⟩,hc⟩:=r.does u;exact hc
def Fine(f:FuncId)(args:List Value)(h:zB)(n:Nat)(o:Option Rsl):Prop:=∀r,o=some r→∀u,CallTo P 8 f args false u h n (.ret r.v) u r.h r.n
theorem Fine.none{f:FuncId}{args:List Value}{h:zB}{n:Nat}:Fine f args h n none:=fun _ e=>by cases e
theorem Fine.pure{f:FuncId}{args:List Value}{h:zB}{n:Nat}{v:Value}(r:Pure P 8 f args h n v):Fine f args h n (some ⟨v,h,n⟩):=fun r' e u=>by
 injection e with e;subst e;exact does_pure r u
theorem Fine.cond{f:FuncId}{args:List Value}{h:zB}{n:Nat}{b:Bool}{o:Option Rsl}(ho:b=true→Fine f args h n o):Fine f args h n (_root_.cond b o Option.none):=by
 cases b with
 | true=>exact ho rfl
 | false=>exact Fine.none
def pow:List Value:=Lib.pow10Tab.map fun z=>Value.int .u64 z
def powL:List Value:=[.int .u64 1,.int .u64 10,.int .u64 100,.int .u64 1000,.int .u64 10000,.int .u64 100000,.int .u64 1000000,.int .u64 10000000,.int .u64 100000000,.int .u64 1000000000,.int .u64 10000000000,.int .u64 100000000000,.int .u64 1000000000000,.int .u64 10000000000000,.int .u64 100000000000000,.int .u64 1000000000000000,.int .u64 10000000000000000,.int .u64 100000000000000000,.int .u64 1000000000000000000,.int .u64 10000000000000000000]
theorem powL_eq:powL=pow:=by kernel_rfl
noncomputable def maxOf(o:AObj)(K:Int→Option Rsl):Option Rsl:=
 onCells o (fun c n _ kd=>Bool.rec none (onInt (Tr.get undef c 0) (fun k m=>Bool.rec none (K m) (xH k .i64)) none) (Nat.beq kd 2 && Nat.beq n 1)) none
noncomputable def withT(h:zB)(K:Option Rsl):Option Rsl:=maxOf (zF h 0) fun _=>Bool.rec none K (tabB powL (zF h 1))
theorem tabB_H{vs:List Value}{o:AObj}(h:tabB vs o=true):(∃z,yF o=some (vs.length,z,2))∧∀i,xN o i=vs[i]? :=by
 unfold tabB at h;split at h
 · rename_i c n z kd;obtain⟨h1,h2⟩:=Bool.and_eq_true_iff.1 h;obtain⟨h2,h3⟩:=Bool.and_eq_true_iff.1 h2;obtain rfl:=zG h1;obtain rfl:=zG h2;refine⟨⟨z,rfl⟩,fun i=>?_⟩;unfold xN;dsimp only;by_cases hi:i<vs.length
   · rw[if_pos hi,List.getElem?_eq_getElem hi];have:=cellsB_at h3 (List.getElem?_eq_getElem hi);rw [Nat.zero_add]at this;rw [this]
   · rw[if_neg hi,List.getElem?_eq_none (by omega)]
 · cases h
theorem withT_of{h:zB}{K:Option Rsl}{r:Rsl}(e:withT h K=some r):K=some r∧∃m,TabsH (tb m) h:=by
 unfold withT maxOf at e;cases ho:zF h 0 <;> rw[ho]at e <;> first|(cases e;done)|skip
 rename_i c n z kd;have e':(Bool.rec none (onInt (Tr.get undef c 0) (fun k m=>Bool.rec none (Bool.rec none K (tabB powL (zF h 1))) (xH k .i64)) none) (Nat.beq kd 2 && Nat.beq n 1):Option Rsl)=some r:=e
 cases h1:(Nat.beq kd 2 && Nat.beq n 1) with
 | false=>rw [h1]at e';cases e'
 | true=>
  rw[h1]at e';obtain⟨a1,a2⟩:=Bool.and_eq_true_iff.1 h1;obtain rfl:=zG a1;obtain rfl:=zG a2;rcases uL e' with⟨k,m,hv,e2⟩|e2
  · cases hk:xH k .i64 with
    | false=>rw [hk]at e2;cases e2
    | true =>
     rw[hk]at e2;obtain rfl:=wP hk
     cases h3:tabB powL (zF h 1) with
     | false=>rw [h3]at e2;cases e2
     | true=>
      rw[h3]at e2;refine⟨e2,m,fun p hp=>?_⟩;simp only[tb,List.mem_cons,List.not_mem_nil,or_false]at hp;rcases hp with rfl|rfl
      · dsimp only;rw [ho];refine⟨⟨z,rfl⟩,fun i=>?_⟩;unfold zD;rw [ho];unfold xN;dsimp only
        cases i with
        | zero=>rw [if_pos (by omega),hv];rfl
        | succ i=>rw [if_neg (by omega)];simp
      · rw[powL_eq]at h3;exact tabB_H h3
  · cases e2
theorem fine_withT{f:FuncId}{args:List Value}{h:zB}{n:Nat}{K:Option Rsl}(hk:∀m,TabsH (tb m) h→Fine f args h n K):Fine f args h n (withT h K):=fun r e u=>by
 obtain⟨e1,m,hm⟩:=withT_of e;exact hk m hm r e1 u
noncomputable def cutK(c:Nat)(s:List UInt8)(K:List UInt8→List UInt8→Bool→Option Rsl):Option Rsl:=
 List.rec (motive:=fun _=>(List UInt8→List UInt8→Bool→Option Rsl)→Option Rsl) (fun K=>K [] [] false)
  (fun x r ih K=>Bool.rec (ih fun a b f=>K (x::a) b f) (K [] r true) (Nat.beq x.toNat c)) s K
theorem beq_toNat(x c:UInt8):Nat.beq x.toNat c.toNat=decide (x=c):=by
 by_cases h:x=c
 · subst h;simp [Nat.beq_refl]
 · rw[decide_eq_false h]
   cases e:Nat.beq x.toNat c.toNat with
   | false=>rfl
   | true=>exact absurd (UInt8.toNat_inj.1 (zG e)) h
theorem cutK_eq(c:UInt8):∀(s:List UInt8) (K:List UInt8→List UInt8→Bool→Option Rsl),cutK c.toNat s K=K (vE c s).1 (vE c s).2.1 (vE c s).2.2:=by
 intro s
 induction s with
 | nil=>intro K;rfl
 | cons x r ih=>
  intro K;show(Bool.rec (cutK c.toNat r fun a b f=>K (x::a) b f) (K [] r true) (Nat.beq x.toNat c.toNat):Option Rsl)=_;rw [beq_toNat];unfold vE;by_cases h:x=c
  · rw[decide_eq_true h,if_pos h]
  · rw[decide_eq_false h,if_neg h];exact ih _
noncomputable def fits(s:List UInt8):Bool:=Nat.blt s.length 1000000
theorem fits_lt{s:List UInt8}(h:fits s=true):s.length<1000000:=zY h
noncomputable def cutH(args:List Value)(h:zB)(n:Nat):Option Rsl:=match args with
 | [.string ⟨⟨s⟩⟩,.string ⟨⟨[c]⟩⟩]=>cond (fits s) (withT h (cutK c.toNat s fun a b f=>some ⟨.tuple #[str a,str b,.bool f],h,n⟩)) none
 | _=>none
theorem cutH_ok(args:List Value)(h:zB)(n:Nat):Fine 76 args h n (cutH args h n):=by
 unfold cutH;split
 · rename_i s c;refine Fine.cond fun hs=>fine_withT fun m hm=>?_;rw [cutK_eq];exact Fine.pure (cut_pure n hm s c (fits_lt hs))
 · exact Fine.none
noncomputable def prefK(p s:List UInt8)(K:List UInt8→Option Rsl)(d:Option Rsl):Option Rsl:=
 List.rec (motive:=fun _=>List UInt8→Option Rsl) (fun s=>K s) (fun x _ ih s=>List.rec d (fun y r _=>Bool.rec d (ih r) (Nat.beq x.toNat y.toNat)) s) p s
theorem prefK_eq(K:List UInt8→Option Rsl)(d:Option Rsl):∀(p s:List UInt8),prefK p s K d=if p.isPrefixOf s then K (s.drop p.length) else d:=by
 intro p
 induction p with
 | nil=>intro s;simp [prefK]
 | cons x p ih =>
  intro s
  cases s with
  | nil=>rfl
  | cons y r=>
   show(Bool.rec d (prefK p r K d) (Nat.beq x.toNat y.toNat):Option Rsl)=_;rw [beq_toNat,ih];by_cases h:x=y
   · subst h;simp [List.isPrefixOf]
   · have:(x == y)=false:=by simpa using h
     rw[decide_eq_false h];simp [List.isPrefixOf,this]
noncomputable def cutPrefixH(args:List Value)(h:zB)(n:Nat):Option Rsl:=match args with
 | [.string ⟨⟨s⟩⟩,.string ⟨⟨p⟩⟩]=>prefK p s (fun r=>some ⟨.tuple #[str r,.bool true],h,n⟩) (some ⟨.tuple #[str s,.bool false],h,n⟩)
 | _=>none
theorem cutPrefixH_ok(args:List Value)(h:zB)(n:Nat):Fine 84 args h n (cutPrefixH args h n):=by
 unfold cutPrefixH;split
 · rename_i s p;rw [prefK_eq];have:=Fine.pure (cutPrefix_pure (h:=h) n s p);unfold Lib.trimPrefix Lib.hasPrefix at this;by_cases hp:p.isPrefixOf s=true
   · rw[if_pos hp];rw [if_pos hp,hp]at this;exact this
   · rw[if_neg hp];rw [if_neg hp,Bool.eq_false_iff.2 hp]at this;exact this
 · exact Fine.none
noncomputable def forceL{R:Type}(l:List UInt8)(K:List UInt8→R):R:=List.rec (motive:=fun _=>(List UInt8→R)→R) (fun K=>K []) (fun x _ ih K=>ih fun r=>K (x::r)) l K
theorem forceL_eq{R:Type}:∀(l:List UInt8) (K:List UInt8→R),forceL l K=K l:=by
 intro l
 induction l with
 | nil=>intro K;rfl
 | cons x r ih=>intro K;exact ih _
noncomputable def splK(c:Nat)(s:List UInt8)(K:List UInt8→List (List UInt8)→Option Rsl):Option Rsl:=
 List.rec (motive:=fun _=>(List UInt8→List (List UInt8)→Option Rsl)→Option Rsl) (fun K=>K [] [])
  (fun x _ ih K=>Bool.rec (ih fun a l=>K (x::a) l) (ih fun a l=>K [] (a::l)) (Nat.beq x.toNat c)) s K
theorem splK_eq(c:UInt8):∀(s:List UInt8) (K:List UInt8→List (List UInt8)→Option Rsl),∃a l,zO c s=a::l∧splK c.toNat s K=K a l:=by
 intro s
 induction s with
 | nil=>intro K;exact⟨[],[],rfl,rfl⟩
 | cons x r ih=>
  intro K;have e:splK c.toNat (x::r) K=(Bool.rec (splK c.toNat r fun a l=>K (x::a) l) (splK c.toNat r fun a l=>K [] (a::l)) (Nat.beq x.toNat c.toNat):Option Rsl):=rfl;rw [e,beq_toNat];unfold zO;by_cases h:x=c
  · rw[decide_eq_true h,if_pos h];obtain⟨a,l,e1,e2⟩:=ih fun a l=>K [] (a::l);exact⟨[],a::l,by rw[e1],e2⟩
  · rw[decide_eq_false h,if_neg h];obtain⟨a,l,e1,e2⟩:=ih fun a l=>K (x::a) l;exact⟨x::a,l,by rw[e1],e2⟩
noncomputable def rowK(ls:List (List UInt8))(i:Nat)(c:Tr Value)(K:Tr Value→Option Rsl):Option Rsl:=
 List.rec (motive:=fun _=>Nat→Tr Value→(Tr Value→Option Rsl)→Option Rsl) (fun _ c K=>K c) (fun l _ ih i c K=>c.setK undef (str l) i fun c'=>ih (Nat.succ i) c' K) ls i c K
theorem rowK_eq:∀(ls:List (List UInt8)) (i:Nat) (c:Tr Value) (K:Tr Value→Option Rsl),rowK ls i c K=K (Tr.ofListFrom undef c i (ls.map str)):=by
 intro ls
 induction ls with
 | nil=>intro i c K;rfl
 | cons l r ih=>
  intro i c K;show c.setK undef (str l) i (fun c'=>rowK r (Nat.succ i) c' K)=_;rw [Tr.setK_eq,ih];rfl
noncomputable def splitH(args:List Value)(h:zB)(n:Nat):Option Rsl:=match args with
 | [.string ⟨⟨s⟩⟩,.string ⟨⟨[c]⟩⟩]=>cond (fits s) (withT h (splK c.toNat s fun a l=>rowK (a::l) 0 .lF fun t=>
  h.setK .dead (.cells t (a::l).length 0 0) n fun h'=>some ⟨.slice (some ⟨n,0,none⟩) (a::l).length (a::l).length,h',Nat.succ n⟩)) none
 | _=>none
theorem splitH_ok(args:List Value)(h:zB)(n:Nat):Fine 85 args h n (splitH args h n):=by
 unfold splitH;split
 · rename_i s c;refine Fine.cond fun hs=>fine_withT fun m hm=>?_;obtain⟨a,l,e1,e2⟩:=splK_eq c s fun a l=>rowK (a::l) 0 .lF fun t=>h.setK .dead (.cells t (a::l).length 0 0) n fun h'=>some ⟨.slice (some ⟨n,0,none⟩) (a::l).length (a::l).length,h',Nat.succ n⟩;rw [e2,rowK_eq,Tr.setK_eq];intro r er u;injection er with er
   subst er;obtain⟨v,h',n',⟨rfl,rfl,rfl⟩,hc⟩:=(split_rets n hm s c (fits_lt hs)).does u;rw [e1]at hc;have e9:mkC (((a::l):List (List UInt8)).map str) 0 0 = .cells (Tr.ofListFrom undef .lF 0 ((a::l).map str)) (a::l).length 0 0:=by unfold mkC;rw [List.length_map]
   rw[e9]at hc;exact hc
 · exact Fine.none
noncomputable def onStr{R:Type}(v:Value)(f:List UInt8→R)(d:R):R:=match v with
 | .string ⟨⟨s⟩⟩=>f s
 | _=>d
theorem onStr_some{v:Value}{f:List UInt8→Option Rsl}{r:Rsl}(e:onStr v f none=some r):∃s,v=str s∧f s=some r:=by
 unfold onStr at e;split at e
 · exact⟨_,rfl,e⟩
 · cases e
noncomputable def strs(l:List Value)(K:List (List UInt8)→Option Rsl):Option Rsl:=
 List.rec (motive:=fun _=>(List (List UInt8)→Option Rsl)→Option Rsl) (fun K=>K []) (fun v _ ih K=>onStr v (fun s=>ih fun r=>K (s::r)) none) l K
theorem strs_of{l:List Value}{K:List (List UInt8)→Option Rsl}{r:Rsl}(e:strs l K=some r):∃ls,l=ls.map str∧K ls=some r:=by
 induction l generalizing K with
 | nil=>exact⟨[],rfl,e⟩
 | cons v l ih=>
  have e':onStr v (fun s=>strs l fun r=>K (s::r)) none=some r:=e;obtain⟨s,rfl,e2⟩:=onStr_some e';obtain⟨ls,e3,e4⟩:=ih e2;exact⟨s::ls,by rw[e3];rfl,e4⟩
noncomputable def rowS(h:zB)(n:Nat)(v:Value)(K:List Value→Option Rsl):Option Rsl:=match v with
 | .slice none 0 0=>K []
 | .slice (some ⟨b,off,none⟩) len cap=>match zF h b with
  | .cells c kn z kd=>cond (Nat.blt b n && (Nat.ble (Nat.add off len) kn && cond (Nat.beq cap inf) (Nat.beq kd 1 && Nat.beq z (zc 9 1)) (Nat.blt cap inf && Nat.ble len cap))) (K (c.toListFrom undef off len)) none
  | _=>none
 | _=>none
theorem rowS_of{h:zB}{n:Nat}{v:Value}{K:List Value→Option Rsl}{r:Rsl}(e:rowS h n v K=some r):∃vs,Row n h v 9 1 vs.length vs∧K vs=some r:=by
 unfold rowS at e;split at e
 · exact⟨[],.inl ⟨rfl,rfl,rfl⟩,e⟩
 · rename_i b off len cap;split at e
   · rename_i c kn z kd ho
     cases hb:(Nat.blt b n && (Nat.ble (Nat.add off len) kn && cond (Nat.beq cap inf) (Nat.beq kd 1 && Nat.beq z (zc 9 1)) (Nat.blt cap inf && Nat.ble len cap))) with
     | false=>rw [hb]at e;cases e
     | true=>
      rw[hb]at e;have e':K (c.toListFrom undef off len)=some r:=e;obtain⟨b1,b2⟩:=Bool.and_eq_true_iff.1 hb;obtain⟨b2,b3⟩:=Bool.and_eq_true_iff.1 b2;have hl:(c.toListFrom undef off len).length=len:=Tr.length_toListFrom ..;have h2:off+len≤kn:=yQ b2;refine⟨_,.inr ⟨b,off,cap,kn,z,kd,zY b1,by rw[hl],by rw[Nat.mul_one],by rw[ho];rfl,by rw[hl];exact h2,fun j x hj=>?_,?_⟩,e'⟩
      · rw[Tr.getElem?_toListFrom]at hj;split at hj
        · rename_i hlt;injection hj with hj
          unfold zD;rw [ho];unfold xN;dsimp only;rw [if_pos (by omega),hj]
        · cases hj
      · rw[hl]
        cases hc:Nat.beq cap inf with
        | true=>
         rw[hc]at b3;obtain⟨c1,c2⟩:=Bool.and_eq_true_iff.1 b3;exact .inr ⟨zG hc,zG c1,zG c2,Nat.le_refl _⟩
        | false=>
         rw[hc]at b3;obtain⟨c1,c2⟩:=Bool.and_eq_true_iff.1 b3;exact .inl ⟨zY c1,yQ c2⟩
   · cases e
 · cases e
noncomputable def joinH(args:List Value)(h:zB)(n:Nat):Option Rsl:=match args with
 | [v,.string ⟨⟨sep⟩⟩]=>rowS h n v fun vs=>strs vs fun ls=>forceL (Lib.join ls sep) fun t=>cond (Nat.blt ls.length 1000000 && fits t) (some ⟨str t,h,n⟩) none
 | _=>none
theorem joinH_ok(args:List Value)(h:zB)(n:Nat):Fine 19 args h n (joinH args h n):=by
 unfold joinH;split
 · rename_i v sep;intro r e u;obtain⟨vs,h1,e1⟩:=rowS_of e;obtain⟨ls,rfl,e2⟩:=strs_of e1;rw [forceL_eq]at e2
   cases hb:(Nat.blt ls.length 1000000 && fits (Lib.join ls sep)) with
   | false=>rw [hb]at e2;cases e2
   | true=>
    rw[hb]at e2;obtain⟨b1,b2⟩:=Bool.and_eq_true_iff.1 hb;injection e2 with e2
    subst e2;rw [List.length_map]at h1;exact does_pure (join_pure ls sep h1 (zY b1) (fits_lt b2)) u
 · exact Fine.none
noncomputable def decK(f:Nat):Nat→List UInt8→List UInt8:=
 Nat.rec (motive:=fun _=>Nat→List UInt8→List UInt8) (fun _ acc=>acc)
  (fun _ ih n acc=>Bool.rec (ih (Nat.div n 10) (UInt8.ofNat (Nat.add 48 (Nat.mod n 10))::acc)) (UInt8.ofNat (Nat.add 48 n)::acc) (Nat.blt n 10)) f
theorem decK_eq:∀(f n:Nat) (acc:List UInt8),n<10 ^ (f+1)→decK (f+1) n acc=Lib.decDigits n++acc:=by
 intro f
 induction f with
 | zero=>
  intro n acc h;have e:decK 1 n acc=(Bool.rec (decK 0 (Nat.div n 10) (UInt8.ofNat (Nat.add 48 (Nat.mod n 10))::acc)) (UInt8.ofNat (Nat.add 48 n)::acc) (Nat.blt n 10):List UInt8):=rfl;have h2:n<10:=by simpa using h
  rw[e,xO h2];unfold Lib.decDigits;rw [dif_pos h2];rfl
 | succ f ih=>
  intro n acc h;have e:decK (f+1+1) n acc=(Bool.rec (decK (f+1) (Nat.div n 10) (UInt8.ofNat (Nat.add 48 (Nat.mod n 10))::acc)) (UInt8.ofNat (Nat.add 48 n)::acc) (Nat.blt n 10):List UInt8):=rfl;rw [e];unfold Lib.decDigits;by_cases h2:n<10
  · rw[xO h2,dif_pos h2];rfl
  · have h3:Nat.blt n 10=false:=by
     cases e9:Nat.blt n 10 with
     | false=>rfl
     | true=>exact absurd (zY e9) h2
    rw[h3,dif_neg h2];show decK (f+1) (n / 10) (UInt8.ofNat (48+n % 10)::acc)=_;rw [ih (n / 10) _ (by rw[Nat.pow_succ]at h;omega),List.append_assoc];rfl
noncomputable def itoaH(args:List Value)(h:zB)(n:Nat):Option Rsl:=match args with
 | [.int .i64 a]=>withT h (Int.rec (motive:=fun _=>Option Rsl) (fun m=>cond (Nat.blt m 9223372036854775808) (forceL (decK 20 m []) fun t=>some ⟨str t,h,n⟩) none)
  (fun m=>cond (Nat.blt m 9223372036854775808) (forceL (decK 20 (Nat.succ m) []) fun t=>some ⟨str (45::t),h,n⟩) none) a)
 | _=>none
theorem itoaH_ok(args:List Value)(h:zB)(n:Nat):Fine 45 args h n (itoaH args h n):=by
 unfold itoaH;split
 · rename_i a;refine fine_withT fun m hm=>?_
   cases a with
   | ofNat k=>
    refine Fine.cond fun hk=>?_;have hk:=zY hk;have:=Fine.pure (zZ n hm (.ofNat k) (by show(-9223372036854775808:Int)≤(k:Int);omega) (by show(k:Int)≤_;omega));have e:Lib.itoa (.ofNat k)=Lib.decDigits k:=by unfold Lib.itoa;rw [if_neg (by show ¬((k:Int)<0);omega)];rfl
    rw[e]at this;rw [forceL_eq,decK_eq 19 k [] (by omega),List.append_nil];exact this
   | negSucc k=>
    refine Fine.cond fun hk=>?_;have hk:=zY hk;have:=Fine.pure (zZ n hm (.negSucc k) (by omega) (by omega));have e:Lib.itoa (.negSucc k)=45::Lib.decDigits (k+1):=by unfold Lib.itoa;rw [if_pos (by omega)];rfl
    rw[e]at this;rw [forceL_eq,decK_eq 19 (Nat.succ k) [] (by omega),List.append_nil];exact this
 · exact Fine.none
noncomputable def atoiH(args:List Value)(h:zB)(n:Nat):Option Rsl:=match args with
 | [.string ⟨⟨s⟩⟩]=>cond (Nat.ble s.length 18) (Option.rec (motive:=fun _=>Option Rsl) none (fun v=>Int.rec (motive:=fun _=>Option Rsl) (fun m=>some ⟨.tuple #[.int .i64 (.ofNat m),.nilIface],h,n⟩) (fun m=>some ⟨.tuple #[.int .i64 (.negSucc m),.nilIface],h,n⟩) v) (Lib.atoi s)) none
 | _=>none
theorem atoiH_ok(args:List Value)(h:zB)(n:Nat):Fine 82 args h n (atoiH args h n):=by
 unfold atoiH;split
 · rename_i s;refine Fine.cond fun hs=>?_
   cases hv:Lib.atoi s with
   | none=>exact Fine.none
   | some v=>
    have:=Fine.pure (atoi_pure (h:=h) n s v (by have:=yQ hs;omega) (by rw[Lib.atoiAll_short _ (yQ hs),hv];rfl));cases v <;> exact this
 · exact Fine.none
noncomputable def checkH(args:List Value)(h:zB)(n:Nat):Option Rsl:=match args with
 | [.pointer (some ⟨b, 0, none⟩)] => match zF h b with
  | .cells c 2 z 0=>cond (Nat.beq z (49+1)) (match Tr.get undef c 0 with
   | .pointer none=>c.setK undef (.pointer (some ⟨b,0,none⟩)) 0 fun c'=>h.setK .dead (.cells c' 2 z 0) b fun h'=>some ⟨.tuple #[],h',n⟩
   | .pointer (some ⟨b',0,none⟩)=>cond (Nat.beq b' b) (some ⟨.tuple #[],h,n⟩) none
   | _=>none) none
  | _=>none
 | _=>none
theorem bld_of{h:zB}{b z:Nat}{c:Tr Value}(ho:zF h b = .cells c 2 z 0)(hz:Nat.beq z (49+1)=true):Bld 49 h b (Tr.get undef c 0) (Tr.get undef c 1):=by
 obtain rfl:=zG hz;unfold Bld zD;rw [ho];exact⟨rfl,rfl,rfl⟩
theorem checkH_ok(args:List Value)(h:zB)(n:Nat):Fine 43 args h n (checkH args h n):=by
 unfold checkH;split
 · rename_i b;split
   · rename_i c z ho;refine Fine.cond fun hz=>?_;have hB:=bld_of ho hz;split
     · rename_i hp;rw [hp]at hB;intro r e u;rw [Tr.setK_eq,Tr.setK_eq]at e;injection e with e
       subst e;obtain⟨v,h',n',⟨rfl,rfl,rfl⟩,hc⟩:=(check_fresh (n:=n) hB).does u;rw [ho]at hc;exact hc
     · rename_i b' hp;refine Fine.cond fun hb=>?_;obtain rfl:=zG hb;rw [hp]at hB;intro r e u;injection e with e
       subst e;obtain⟨v,h',n',⟨rfl,rfl,rfl⟩,hc⟩:=(check_used (n:=n) hB).does u;exact hc
     · exact Fine.none
   · exact Fine.none
 · exact Fine.none
noncomputable def bytesK(l:List Value)(K:List UInt8→Option Rsl):Option Rsl:=
 List.rec (motive:=fun _=>(List UInt8→Option Rsl)→Option Rsl) (fun K=>K [])
  (fun v _ ih K=>onInt v (fun k a=>Int.rec (motive:=fun _=>Option Rsl) (fun m=>Bool.rec none (ih fun r=>K (UInt8.ofNat m::r)) (xH k .u8 && Nat.blt m 256)) (fun _=>none) a) none) l K
theorem bytesK_of{l:List Value}{K:List UInt8→Option Rsl}{r:Rsl}(e:bytesK l K=some r):∃t,l=uD t∧K t=some r:=by
 induction l generalizing K with
 | nil=>exact⟨[],rfl,e⟩
 | cons v l ih=>
  have e':onInt v (fun k a=>Int.rec (motive:=fun _=>Option Rsl) (fun m=>Bool.rec none (bytesK l fun r=>K (UInt8.ofNat m::r)) (xH k .u8 && Nat.blt m 256)) (fun _=>none) a) none=some r:=e;rcases uL e' with⟨k,a,rfl,e2⟩|e2
  · cases a with
    | negSucc m=>cases e2
    | ofNat m =>
     have e3:(Bool.rec none (bytesK l fun r=>K (UInt8.ofNat m::r)) (xH k .u8 && Nat.blt m 256):Option Rsl)=some r:=e2
     cases hb:(xH k .u8 && Nat.blt m 256) with
     | false=>rw [hb]at e3;cases e3
     | true =>
      rw[hb]at e3;obtain⟨b1,b2⟩:=Bool.and_eq_true_iff.1 hb;obtain rfl:=wP b1;obtain⟨t,rfl,e4⟩:=ih e3;refine⟨UInt8.ofNat m::t,?_,e4⟩
      have:((UInt8.ofNat m).toNat:Int)=Int.ofNat m:=by
       rw[UInt8.toNat_ofNat',Nat.mod_eq_of_lt (zY b2)];rfl
      simp only[List.map_cons,this]
  · cases e2
noncomputable def stringH(args:List Value)(h:zB)(n:Nat):Option Rsl:=match args with
 | [.pointer (some ⟨b, 0, none⟩)] => match zF h b with
  | .cells c 2 z 0 => cond (Nat.beq z (49 + 1)) (match Tr.get undef c 1 with
   | .slice none 0 0=>some ⟨str [],h,n⟩
   | .slice (some ⟨b2, 0, none⟩) len cap => match zF h b2 with
    | .cells c2 kn z2 1=>cond (Nat.beq cap inf && (Nat.beq kn len && (Nat.beq z2 (zc 5 1) && (!Nat.beq b2 b && (Nat.blt b2 n && (Nat.blt len 1000000 && Nat.blt 0 len))))))
     (bytesK (c2.toListFrom undef 0 kn) fun t=>h.setK .dead .dead b2 fun h'=>some ⟨str t,h',n⟩) none
    | _=>none
   | _=>none) none
  | _=>none
 | _=>none
theorem stringH_ok(args:List Value)(h:zB)(n:Nat):Fine 22 args h n (stringH args h n):=by
 unfold stringH;split
 · rename_i b;split
   · rename_i c z ho;refine Fine.cond fun hz=>?_;have hB:=bld_of ho hz;split
     · rename_i hp;rw [hp]at hB;intro r e u;injection e with e
       subst e;obtain⟨v,h',n',⟨rfl,rfl,hh⟩,hc⟩:=(string_rets (lo:=0) (n:=n) (l:=[]) hB (.inl ⟨rfl,rfl,rfl⟩) (by intro e;cases e) (by decide)).does u;exact hc.sub (Sub.refl _) fun b'=>.inr (hh b' (by intro e;cases e))
     · rename_i b2 len cap hp;split
       · rename_i c2 kn z2 ho2;refine Fine.cond fun hb=>?_;obtain⟨b1,hb⟩:=Bool.and_eq_true_iff.1 hb;obtain⟨b2',hb⟩:=Bool.and_eq_true_iff.1 hb;obtain⟨b3,hb⟩:=Bool.and_eq_true_iff.1 hb;obtain⟨b4,hb⟩:=Bool.and_eq_true_iff.1 hb;obtain⟨b5,hb⟩:=Bool.and_eq_true_iff.1 hb;obtain⟨b6,b7⟩:=Bool.and_eq_true_iff.1 hb;obtain rfl:=zG b1;obtain rfl:=zG b2';obtain rfl:=zG b3;have hne:b2≠b:=fun e=>by rw[e,Nat.beq_refl]at b4;cases b4
         intro r e u;obtain⟨t,ht,e2⟩:=bytesK_of e;rw [Tr.setK_eq]at e2;injection e2 with e2
         subst e2
         have hl:t.length=kn:=by
          have:=congrArg List.length ht;rw [Tr.length_toListFrom,List.length_map]at this;exact this.symm
         subst hl;rw [hp]at hB
         have hOwn:Own 0 n h (.slice (some ⟨b2,0,none⟩) t.length inf) 5 1 t.length (uD t):=by
          refine .inr ⟨b2,Nat.zero_le _,zY b5,rfl,by rw[ho2];show some (t.length,_,1)=some ((uD t).length,_,1);rw [List.length_map],by rw[List.length_map,Nat.mul_one],zY b7,fun i=>?_⟩;unfold zD;rw [ho2,← ht,Tr.getElem?_toListFrom,Nat.zero_add];rfl
         obtain⟨v,h',n',⟨rfl,rfl,hh⟩,hc⟩:=(string_rets hB hOwn (by intro e;injection e with e;exact hne e) (zY b6)).does u;refine hc.sub (Sub.refl _) fun b'=>?_;rw [zK];by_cases hbb:b2=b'
         · rw[if_pos hbb];exact .inl rfl
         · rw[if_neg hbb];exact .inr (hh b' (by intro e;injection e with e;exact hbb e))
       · exact Fine.none
     · exact Fine.none
   · exact Fine.none
 · exact Fine.none
noncomputable def hkLib:HookH:=fun f args h n=>
 cond (Nat.beq f 43) (checkH args h n) <| cond (Nat.beq f 19) (joinH args h n) <| cond (Nat.beq f 45) (itoaH args h n) <| cond (Nat.beq f 76) (cutH args h n) <|
 cond (Nat.beq f 85) (splitH args h n) <| cond (Nat.beq f 84) (cutPrefixH args h n) <| cond (Nat.beq f 82) (atoiH args h n) <| cond (Nat.beq f 22) (stringH args h n) none
theorem vF{b:Bool}{o o':Option Rsl}{r:Rsl}(e:cond b o o'=some r):(b=true∧o=some r)∨o'=some r:=by
 cases b with
 | true=>exact .inl ⟨rfl,e⟩
 | false=>exact .inr e
theorem hkLib_ok:HookHOK P 8 hkLib:=by
 intro f args h n r e u;unfold hkLib at e;rcases vF e with⟨hf,e⟩|e
 · obtain rfl:=zG hf;exact checkH_ok _ _ _ r e u
 rcases vF e with⟨hf,e⟩|e
 · obtain rfl:=zG hf;exact joinH_ok _ _ _ r e u
 rcases vF e with⟨hf,e⟩|e
 · obtain rfl:=zG hf;exact itoaH_ok _ _ _ r e u
 rcases vF e with⟨hf,e⟩|e
 · obtain rfl:=zG hf;exact cutH_ok _ _ _ r e u
 rcases vF e with⟨hf,e⟩|e
 · obtain rfl:=zG hf;exact splitH_ok _ _ _ r e u
 rcases vF e with⟨hf,e⟩|e
 · obtain rfl:=zG hf;exact cutPrefixH_ok _ _ _ r e u
 rcases vF e with⟨hf,e⟩|e
 · obtain rfl:=zG hf;exact atoiH_ok _ _ _ r e u
 rcases vF e with⟨hf,e⟩|e
 · obtain rfl:=zG hf;exact stringH_ok _ _ _ r e u
 cases e
end Go.Proofs.YtdipdkkpgjdnkaaGreatDoor
namespace Go.Proofs.YtdipdkkpgjdnkaaGreatDoor
open Go Go.Ex Go.RowKit
set_option maxRecDepth 1000000
def tabs(m:Int):List (Nat×List Value):=[(0,[.int .i64 m]),(1,powL)]
theorem tabs_ok(m:Int):tabsOK 8 (tabs m)=true:=by kernel_rfl
noncomputable def lo0:Lo:=runHH P hkLib 1000000
theorem lo0_ok:Sound P 8 lo0:=soundHH prog_ok mixed hkLib_ok 1000000
theorem alive_run(m:Int):lo0.call 4 [] false none (heap0 (tabs m)) 8 (finV (.bool true))=true:=by kernel_rfl
theorem alive_pur{m:Int}{h:zB}{n:Nat}(ht:tabsB (tabs m) h=true):Pur P 8 4 [] h n (.bool true):=fun u=>⟨_,_,_,⟨rfl,rfl,rfl⟩,hook_of_run lo0_ok (tabs_ok m) rfl (.inr ⟨_,rfl⟩) (alive_run m) ht u n⟩
end Go.Proofs.YtdipdkkpgjdnkaaGreatDoor
namespace Go.Proofs.YtdipdkkpgjdnkaaGreatDoor
open Go Go.Ex Go.Ex.M
set_option maxRecDepth 100000
set_option maxHeartbeats 8000000
attribute [local simp] yG
section
variable {P:Program} {ty:Nat} {ox oy:Operand}
theorem bn_remN{a b:Nat}(hb:0<b):Bn P .rem ty ox oy (I64 (a:Nat)) (I64 (b:Nat)) (I64 ((a % b:Nat):Int)):=by
 unfold Bn;rw [binI];show cond (ieqB (b:Nat) 0) none (some (Value.int .i64 (Int.tmod (a:Nat) (b:Nat))))=_;rw [xI,decide_eq_false (by omega)];show some (Value.int .i64 (Int.tmod (a:Nat) (b:Nat)))=_;rw [Int.ofNat_tmod]
def and3:Int→Int
 | .ofNat x=>.ofNat (Nat.land x 3)
 | .negSucc x=>.ofNat (Nat.xor 3 (Nat.land 3 x))
theorem bn_and3{a:Int}(h:Go64 a):Bn P .and ty ox oy (I64 a) (I64 3) (I64 (and3 a)):=by
 unfold Bn;rw [binI];show aBits .and .i64 a 3=_;obtain⟨h1,h2⟩:=h
 cases a with
 | ofNat x=>
  rw[show(Int.ofNat x)=((x:Nat):Int) from rfl]at h2;show cond (Nat.blt x 9223372036854775808 && Nat.blt 3 9223372036854775808) (some (Value.int .i64 (.ofNat (Nat.land x 3)))) none=_;rw [xO (by omega:x<9223372036854775808),xO (by decide)];rfl
 | negSucc x=>
  show cond (Nat.blt x 9223372036854775808 && Nat.blt 3 9223372036854775808) (some (Value.int .i64 (.ofNat (Nat.xor 3 (Nat.land 3 x))))) none=_;rw [xO (by omega:x<9223372036854775808),xO (by decide)];rfl
end
instance num9_c (e:Int) (h:zB) (n:Nat):PurC P 8 11 [I64 e] h n (I64 e):=⟨by
 refine ent fun u=>?_;repeat' first|refine wk ?_|refine cX (fun _=>?_) fun _=>?_|fail
 exact fin rfl⟩
theorem tabsB_tch{n n':Nat}{h h':zB}(t:Tch [] h n h' n'):∀{l:List (Nat×List Value)},(∀p∈l,p.1<n)→tabsB l h=true→tabsB l h'=true
 | [],_,_=>rfl
 | (g,vs)::r,hl,e=>by
  have e:(tabB vs (zF h g) && tabsB r h)=true:=e;obtain⟨e1,e2⟩:=Bool.and_eq_true_iff.1 e;show(tabB vs (zF h' g) && tabsB r h')=true;rw [t.2 g (hl _ (List.mem_cons_self ..)) (by simp),e1,tabsB_tch t (fun p hp=>hl p (List.mem_cons_of_mem _ hp)) e2];rfl
variable {n lo:Nat} {h:zB} {m:Int} {F:FunT}
theorem vlines_com{m0 at' w:Int}{more:Tx}(ht:tabsB (tabs m0) h=true)(hE:Env m h)(hg:8≤n)(q:FunQ lo h F)(s:FunS F)(hlo:lo≤n)(hw:Go64 w)(hm:more.length<tMax):Com P 8 3 [.agg ⟨funC F⟩,I64 at',I64 w,str more] h n fun o _ _=>o = .ret (.bool true):=by
 have o1:=q.vr.one;have o2:=q.pr.one;have o3:=q.bv.one;have htm:tMax=1125899906842624:=rfl
 have hl:∀p∈tabs m0,p.1<n:=fun p hp=>by
  simp only[tabs,List.mem_cons,List.not_mem_nil,or_false]at hp;rcases hp with rfl|rfl <;> (show _<_;omega)
 refine ent fun u=>?_;repeat' first|refine wk ?_|refine cX (fun _=>?_) fun _=>?_|refine yV (alive_pur (m:=m0) (tabsB_tch (show Tch [] h n _ _ from zA) hl ht)) ?_|fail
 refine cal (big_com (q.tch zA hlo) s (by omega)) ?_
 rintro _ h2 n2 ⟨big,rfl,t2,hb⟩
 have hn2:=t2.le;have cF:Cel h2 n (26+1) 0 (funC F):=zH;have t02:Tch [] h n h2 n2:=zA;clear t2;repeat' first|refine wk ?_|refine cX (fun _=>?_) fun _=>?_|fail
 refine cal (rplain_com (q.tch t02 hlo) (by omega)) ?_
 rintro _ h3 n3 ⟨ok,rfl,t3,hp⟩
 have hn3:=t3.le;have cF3:=cF.tch t3 (by omega) (by simp);have t03:Tch [] h n h3 n3:=Tch.tch t3 t02 (by simp);clear t3 t02 cF
 cases big with
 | true=>
  repeat' first|refine wk ?_|refine cX (fun _=>?_) fun _=>?_|fail
  all_goals rfl
 | false=>
 cases ok with
 | false=>
  repeat' first|refine wk ?_|refine cX (fun _=>?_) fun _=>?_|fail
  all_goals rfl
 | true=>
 have hb:=hb rfl;have hp:=hp rfl;by_cases ha:at'<0
 · repeat' first|refine wk ?_|refine cX (fun _=>?_) fun _=>?_|fail
   all_goals rfl
 by_cases hm2:50<more.length
 · repeat' first|refine wk ?_|refine cX (fun _=>?_) fun _=>?_|fail
   all_goals rfl
 obtain⟨a,rfl⟩:=Int.eq_ofNat_of_zero_le (by omega:0≤at');clear ha;repeat' first|refine wk ?_|refine cX (fun _=>?_) fun _=>?_|refine uW (print_ret (q.tch t03 hlo) (by omega) (hE.tch (S:=[]) t03 hg (by simp)) (by omega) hp s hb) ?_|fail
 rintro _ h4 n4 ⟨s,rfl,hs0,hs1,t4⟩
 have hn4:=t4.le;have t04:Tch [] h n h4 n4:=Tch.tch t4 t03 (by simp);clear t4 t03 cF3;by_cases h20:20000<s.length
 · repeat' first|refine wk ?_|refine cX (fun _=>?_) fun _=>?_|fail
   all_goals first|rfl|(simp;omega)|(exfalso;omega)
 have hs00:0<s.length:=List.length_pos_iff.2 hs0;repeat' first|refine wk ?_|refine cX (fun _=>?_) fun _=>?_|refine uW (rlines_ret (s:=s) (by omega)) ?_|fail
 rintro _ h5 n5 ⟨lv,rfl,ol,t5⟩
 have hn5:=t5.le;have t05:Tch [] h n h5 n5:=Tch.tch t5 t04 (by simp);clear t5 t04;have rl:=ol.row (by decide);have ol1:=ol.one;have hsum:=Vir.linesR_sum s;have hne:=Vir.linesR_ne hs0;have hll:(Vir.linesR s).1.length≤20001:=by have:=(linesR_le s).1;omega
 have hlt:∀x∈(Vir.linesR s).1,x.length≤20000:=fun x hx=>by have:=(linesR_le s).2 x hx;omega
 clear ol;generalize (Vir.linesR s).2=ww at *
 generalize (Vir.linesR s).1=ls at *
 have hl0:0<ls.length:=List.length_pos_iff.2 hne;repeat' first|refine wk ?_|refine cX (fun _=>?_) fun _=>?_|refine ob ?_ (bn_remN hl0)|fail
 generalize hk:a % ls.length=k
 refine lpR (α :=Nat×Tx) (fun x=>[(2,I64 w),(3,str more),(13,lv),(15,I64 (k:Nat)),(16,str x.2),(17,I64 (x.1:Nat))]) (fun x h' n'=>h'=h5∧n'=n5∧x.1≤ls.length∧x.2.length≤((ls.take x.1).map fun y=>y.length+1).sum+(if k<x.1 then 20100 else 0)) (fun x=>ls.length - x.1) (0,[]) ⟨rfl,rfl,Nat.zero_le _,by simp⟩ ?_
 rintro ⟨i,out⟩ t h' n' ⟨e1,e2,hi,ho⟩
 dsimp only at hi ho ⊢;subst e1 e2;by_cases hlt2:i<ls.length
 rotate_left
 · obtain rfl:i=ls.length:=by omega
   rw[List.take_length]at ho;have ho2:out.length<100000:=by split at ho <;> omega
   clear ho
   as_aux_lemma=>
   repeat' first|refine wk ?_|refine cX (fun _=>?_) fun _=>?_|refine cal (vread_com (hE.tch (S:=[]) t05 hg (by simp)) (by omega) ho2) ?_|fail
   rintro _ h6 n6 ⟨hn6,G,at6,e6,rfl,r6,q6⟩
   have g1:=q6.vr.one;have g2:=q6.pr.one;have g3:=q6.bv.one;repeat' first|refine wk ?_|refine cX (fun _=>?_) fun _=>?_|refine uW (rread_ret ho2) ?_|fail
   rintro _ h7 n7 ⟨G',at7,e7,rfl,r7,q7,t7⟩
   rw[Vir.readS_is,r7]at r6;obtain⟨r61,r62⟩:=Prod.mk.inj r6;obtain⟨r62,r63⟩:=Prod.mk.inj r62;subst r62 r63;have hn7:=t7.le;have fb:=Vir.read_fb out;rw [r7]at fb;have fb2:Vir.FB (toF G):=r61 ▸ fb;have bs:BlkS G.blocks:=⟨by have:=fb2.b;simp at this;omega,fun x hx=>by have:=(fb2.l (x.2.map toI) (List.mem_map.2 ⟨x,hx,rfl⟩)).1;simp at this;omega,fun x hx i hi=>by have:=(fb2.l (x.2.map toI) (List.mem_map.2 ⟨x,hx,rfl⟩)).2 (toI i) (List.mem_map.2 ⟨i,hi,rfl⟩);have e:(toI i).args.length=i.args.length:=rfl;omega⟩;have bv:G.vregs.length≤500:=fb2.v;have bp:G.params.length≤16:=fb2.p;have g4:=q7.vr.one;have g5:=q7.pr.one;have g6:=q7.bv.one;have cG:Cel h7 n6 (26+1) 0 (funC G):=zH;have u7:Tch [] h6 n6 h7 n7:=zA;have q8:=q6.tch u7 (Nat.le_refl _);clear t7;repeat' first|refine wk ?_|refine cX (fun _=>?_) fun _=>?_|refine yV (same_func (q8.tch zA (by omega)) (q7.tch zA (by omega)) bs (by omega) (by omega) (by omega) (by omega) r61.symm) ?_|fail
   all_goals rfl
 have c0:ls[i]? = some ls[i]:=List.getElem?_eq_getElem hlt2;have hta:=hlt _ (List.getElem_mem hlt2);have hA:((ls.take i).map fun y=>y.length+1).sum≤(ls.map fun y=>y.length+1).sum:=Vir.sumL_le _ _ _;have hA1:((ls.take (i+1)).map fun y=>y.length+1).sum=((ls.take i).map fun y=>y.length+1).sum+(ls[i].length+1):=sum_take c0;have low:=rl.low (by omega);generalize ls[i]=a2 at *
 have c1:zD h' (sbk lv) (sof lv+i*1)=some (str a2):=by rw[Nat.mul_one];exact rl.at (by rw[List.getElem?_map,c0];rfl)
 have ho2:out.length≤40101:=by split at ho <;> omega
 by_cases hik:i=k
 rotate_left
 · have hik2:¬((i:Int)=(k:Nat)):=by omega
   as_aux_lemma=>
   repeat' first|refine wk ?_|refine cX (fun _=>?_) fun _=>?_|refine ob (a:=str (out++a2)) ?_ (uF (by omega))|refine ob (a:=str (out++a2++[10])) ?_ (uF (a:=out++a2) (b:=[10]) (by rw[List.length_append,List.length_singleton];omega))|fail
   exact rnd (i+1,out++a2++[10]) ⟨rfl,rfl,hlt2,by dsimp only;rw [hA1];simp only[List.length_append,List.length_singleton];split at ho <;> split <;> omega⟩
 subst hik;have ho3:out.length≤((ls.take i).map fun y=>y.length+1).sum:=by rw[if_neg (by omega)]at ho;omega
 by_cases w0:and3 w=0
 · as_aux_lemma=>
   repeat' first|refine wk ?_|refine cX (fun _=>?_) fun _=>?_|refine ob ?_ (bn_and3 hw)|fail
   exact rnd (i+1,out) ⟨rfl,rfl,hlt2,by dsimp only;rw [hA1];split <;> omega⟩
 by_cases w1:and3 w=1
 · as_aux_lemma=>
   repeat' first|refine wk ?_|refine cX (fun _=>?_) fun _=>?_|refine ob ?_ (bn_and3 hw)|refine ob (a:=str (out++a2)) ?_ (uF (by omega))|refine ob (a:=str (out++a2++[10])) ?_ (uF (a:=out++a2) (b:=[10]) (by simp only[List.length_append,List.length_singleton];omega))|refine ob (a:=str (out++a2++[10]++a2)) ?_ (uF (a:=out++a2++[10]) (b:=a2) (by simp only[List.length_append,List.length_singleton];omega))|refine ob (a:=str (out++a2++[10]++a2++[10])) ?_ (uF (a:=out++a2++[10]++a2) (b:=[10]) (by simp only[List.length_append,List.length_singleton];omega))|fail
   exact rnd (i+1,out++a2++[10]++a2++[10]) ⟨rfl,rfl,hlt2,by dsimp only;rw [hA1,if_pos (by omega)];simp only[List.length_append,List.length_singleton];omega⟩
 by_cases w2:and3 w=2
 · as_aux_lemma=>
   repeat' first|refine wk ?_|refine cX (fun _=>?_) fun _=>?_|refine ob ?_ (bn_and3 hw)|refine ob (a:=str (out++a2)) ?_ (uF (by omega))|refine ob (a:=str (out++a2++more)) ?_ (uF (a:=out++a2) (b:=more) (by simp only[List.length_append,List.length_singleton];omega))|refine ob (a:=str (out++a2++more++[10])) ?_ (uF (a:=out++a2++more) (b:=[10]) (by simp only[List.length_append,List.length_singleton];omega))|fail
   exact rnd (i+1,out++a2++more++[10]) ⟨rfl,rfl,hlt2,by dsimp only;rw [hA1,if_pos (by omega)];simp only[List.length_append,List.length_singleton];omega⟩
 · as_aux_lemma=>
   repeat' first|refine wk ?_|refine cX (fun _=>?_) fun _=>?_|refine ob ?_ (bn_and3 hw)|refine ob (a:=str (out++more)) ?_ (uF (by omega))|refine ob (a:=str (out++more++a2)) ?_ (uF (a:=out++more) (b:=a2) (by simp only[List.length_append,List.length_singleton];omega))|refine ob (a:=str (out++more++a2++[10])) ?_ (uF (a:=out++more++a2) (b:=[10]) (by simp only[List.length_append,List.length_singleton];omega))|fail
   exact rnd (i+1,out++more++a2++[10]) ⟨rfl,rfl,hlt2,by dsimp only;rw [hA1,if_pos (by omega)];simp only[List.length_append,List.length_singleton];omega⟩
end Go.Proofs.YtdipdkkpgjdnkaaGreatDoor
namespace Go.Proofs.YtdipdkkpgjdnkaaGreatDoor
open Go Go.Ex Go.ChangeShapes Go.WideShapes Go.ChangeAt Go.RowKit
set_option maxRecDepth 1000000
theorem own:ownKnob P.godebug=none:=by kernel_rfl
theorem returns_and_shaped{H:Type}{enc:TypeId×Value→H}{a:Assume}{C:Checked}{os:Os}{f:FuncId}{fn:Func}{s:ChangeSpec}{conds:List PathCond}{apart fresh handsOn again:Bool}{X:World→Array Value→Prop}
(hX:∀(w w':World) (args:Array Value),w.heap=w'.heap→X w args→X w' args)
(own:ownKnob C.prog.godebug=none)(started:os.Started)(noInit:C.prog.inits.idxOf? f=none)(hfn:C.prog.funcs[f]? = some fn)
(witness:∃(w:World) (tape:Tape) (i:Input),w.os=os∧(w.forCall tape i).Shaped C.prog∧i.vars=[]∧Input.okWide C.prog (w.forCall tape i) .any w.heap.size f i∧
  ((s.pre enc C.prog fn conds apart (w.forCall tape i).memory i.args∧X (w.forCall tape i).memory i.args)∧sizedMet enc C.prog fn (OpenSpec.ofChange s) apart (w.forCall tape i).memory i.args)∧a.holds C.prog (lone (Frame.enter C.prog f i.args .normal) [] (w.forCall tape i)))
(contract:∀(W:World) (base:Nat) (args:Array Value) (ds gs:List (DataW H)) (before:List MemPlace),
  (∀(j:Nat) t v,fn.params[j]? = some t→args[j]? = some v→Value.okWide C.prog W .any base t v)→
  DataW.Whole enc C.prog fn.params.toList s.vars apart W args.toList ds gs before→
  conds.all (PathCond.test C.prog ⟨fn.params.toList,ds,s.plain.varTypes C.prog,gs⟩)=true→
  (DataW.weightsEach C.prog (fn.params.toList++s.plain.varTypes C.prog) (ds++gs)).all (·≤reachBytes)=true→X W args→W.ShapedOpen C.prog→
  a.holds C.prog (lone (Frame.enter C.prog f args .normal) [] W)→
  Calls C.prog f args W fun e W'=>∃v,e = .returned v∧s.post enc C.prog fn apart fresh handsOn again W args v W') :
 ReturnsInHanded a C os f .any (fun w args=>(s.pre enc C.prog fn conds apart w args∧X w args)∧sizedMet enc C.prog fn (OpenSpec.ofChange s) apart w args) (s.post enc C.prog fn apart fresh handsOn again):=by
 refine returnsInHanded_of_calls own started noInit witness ?_;intro w tape i _ hsh _ hok hpre hholds;obtain⟨_,_,_,fn',hfn',_,_,_,_,hval⟩:=hok;have e:fn'=fn:=Option.some.inj (hfn'.symm.trans hfn);subst e;obtain⟨⟨⟨ds,gs,before,hw,hc⟩,hx⟩,hz⟩:=hpre;have hw':=DataW.Whole.of_heap (w':=w.forCall tape i) (by rfl) hw;refine(contract (w.forCall tape i) w.heap.size i.args ds gs before hval hw' hc (hz.weights hw) (hX _ _ _ (by rfl) hx) hsh hholds).mono fun e W' ⟨v,he,hp⟩=>?_;subst he;exact ChangeSpec.post_blind hp
theorem tabIs_of_reads{W:World}{name:String}{k:IntKind}{zs:List Int}{g:Nat}{t e:TypeId}{n:Nat}
(hg:P.globalNamed name=some g)(hty:(P.globals[g]?).map (·.type)=some t)(ht:P.underlying t=some (.array n e))(he:P.underlying e=some (.int k))(hce:P.cellsOf e=1)(hct:P.cellsOf t=n)
(h:Lib.VarReads P W name (Lib.tabData k zs)):Lib.TabIs P W name k zs:=by
 obtain⟨g',t',cs,fuel,p,hg',ht',hvar,hd⟩:=h;obtain rfl:=Option.some.inj (hg.symm.trans hg');obtain rfl:=Option.some.inj (hty.symm.trans ht');unfold Lib.TabIs;rw [hvar,← Lib.cells_of_tab ht he hce hct hd]
theorem in_of_tabIs{W:World}{name:String}{k:IntKind}{zs:List Int}{g:Nat}(hT:Lib.TabIs P W name k zs)(hg:P.globalNamed name=some g):∃el fr,W.heap[g]? = some (.cells ⟨zs.map fun z=>Value.int k z⟩ el fr):=by
 unfold Lib.TabIs World.var? at hT;rw [hg]at hT;simp only[Option.bind_some]at hT;split at hT
 · rename_i cs el fr e;injection hT with hT
   exact⟨el,fr,by rw[e,hT]⟩
 · cases hT
theorem max_in{W:World}(hs:W.ShapedOpen P):∃(m:Int) (el:TypeId) (fr:Nat×Nat),W.heap[(0:Nat)]? = some (.cells ⟨[.int .i64 m]⟩ el fr):=by
 have h0:((begin P (fun _ _=>0) default).world.heap[(0:Nat)]?).bind Obj.row? = some (#[.int .i64 0],3):=by kernel_rfl
 obtain⟨cs,hh,hsz,hr⟩:=hs.1 0 _ _ (of_decide_eq_true (by kernel_rfl)) h0;obtain⟨m,hm⟩:=cell_of_shapedOpen_int (k:=.i64) hs (of_decide_eq_true (by kernel_rfl)) h0 rfl (by kernel_rfl) (by kernel_rfl) Tryz.underlying3;refine⟨m,3,(0,0),hh.trans ?_⟩;unfold World.cell? at hm;dsimp only at hm;rw [hh]at hm;have hm':cs[0]? = some (.int .i64 m):=hm;have h1:cs.size=1:=hsz;congr 2
 apply Array.ext
 · exact h1
 · intro i i1 i2;obtain rfl:i=0:=by omega
   rw[Array.getElem?_eq_getElem (by omega)]at hm';injection hm'
theorem tabs_in {W:World} (h1:Lib.TabIs P W "internal/strconv.uint64pow10" .u64 Lib.pow10Tab) (hs:W.ShapedOpen P):∃m,TabsIn W (tabs m):=by
 obtain⟨m,el,fr,e⟩:=max_in hs;refine⟨m,fun p hp=>?_⟩;simp only[tabs,List.mem_cons,List.not_mem_nil,or_false]at hp;rcases hp with rfl|rfl
 · exact⟨el,fr,e⟩
 · have:=in_of_tabIs (g:=1) h1 (by kernel_rfl);dsimp only;rw [powL_eq];exact this
theorem tabs_self(m:Int):tabsB (tabs m) (heap0 (tabs m))=true:=by
 have e:ieqB m m=true:=by rw[xI];simp
 show((true && (true && ((xH .i64 .i64 && ieqB m m) && true))) && tabsB ((tabs m).drop 1) (heap0 (tabs m)))=true;rw [e];kernel_rfl
end Go.Proofs.YtdipdkkpgjdnkaaGreatDoor
namespace Go.Proofs.YtdipdkkpgjdnkaaGreatDoor
open Go Go.Ex Go.Ex.M Go.ChangeShapes Go.WideShapes Go.ChangeAt Go.RowKit
set_option maxRecDepth 1000000
theorem row_es (u:TypeId) (h:P.typeName? 3 u=some "*errors.errorString"):u=159:=
 typeName_ptr_named (nm:= "errors.errorString") (by rw[show "*" ++ "errors.errorString" = "*errors.errorString" by decide];kernel_rfl) (by kernel_rfl) (by decide) u (by rw[show "*" ++ "errors.errorString" = "*errors.errorString" by decide];exact h)
def tb4(m:Int)(x y:Value):List (Nat×List Value):=tabs m++[(2,[x]),(3,[y])]
theorem tb4_mem{m:Int}{x y:Value}{p:Nat×List Value}(h:p∈tb4 m x y):p=(0,[.int .i64 m])∨p=(1,powL)∨p=(2,[x])∨p=(3,[y]):=by
 simpa only[tb4,tabs,List.cons_append,List.nil_append,List.mem_cons,List.not_mem_nil,or_false] using h
theorem tb4_once{m:Int}{x y:Value}:∀p∈tb4 m x y,∀q∈tb4 m x y,p.1=q.1→p=q:=by
 intro p hp q hq e;rcases tb4_mem hp with rfl|rfl|rfl|rfl <;> rcases tb4_mem hq with rfl|rfl|rfl|rfl <;> first|rfl|(dsimp only at e;omega)
theorem err_in2 {W:World} {n:String} {text:List UInt8} {r:List (String×DataW Unit)} {g:Nat} (h:laidMet P ((n,.iface "*errors.errorString" (.ptr (.agg [.lit (.string text)])))::r) W)
 (hg:P.globalNamed n=some g) (ht:(P.globals[g]?).map (·.type)=some 51) :
 ∃(t o b el:Nat) (f:Nat×Nat),W.heap[g]? = some (.cells ⟨[.iface t (.pointer (some ⟨b,o,none⟩))]⟩ el f)∧b<W.heap.size:=by
 obtain⟨a,s,hv,hc,_,_⟩:=laid_sentinel h hg ht Tryz.underlying51 row_es Tryz.underlying159 Tryz.underlying161 rfl rfl Tryz.underlying9 (by kernel_rfl) (by kernel_rfl);obtain⟨b,o,sp⟩:=a;have hsp:sp=none:=spot_none hc;subst hsp;have hb:=(mir_info (b0:=0) (tabs:=[]) (fun p hp=>by cases hp) hc).1;unfold World.var? at hv;rw [hg]at hv;simp only[Option.bind_some]at hv;split at hv
 · rename_i cs el fr e;injection hv with hv
   exact⟨_,o,b,el,fr,by rw[e,hv],hb⟩
 · cases hv
theorem ng_le{W:World}(hs:W.ShapedOpen P):8≤W.heap.size:=by
 have h0:(((begin P (fun _ _=>0) default).world.heap[(8 - 1:Nat)]?).bind Obj.row?).isSome=true:=by kernel_rfl
 obtain⟨⟨z,t⟩,h0⟩:=Option.isSome_iff_exists.1 h0;obtain⟨cs,hh,-⟩:=hs.1 (8 - 1) z t (of_decide_eq_true (by kernel_rfl)) h0;rcases Nat.lt_or_ge (8 - 1) W.heap.size with h1|h1
 · omega
 · rw[Array.getElem?_eq_none h1]at hh;cases hh
theorem tabs_self'{m:Int}{h:zB}(hh:∀p∈tabs m,zF h p.1=zF (heap0 (tabs m)) p.1):tabsB (tabs m) h=true:=by
 have z:∀l:List (Nat×List Value),(∀p∈l,zF h p.1=zF (heap0 (tabs m)) p.1)→tabsB l (heap0 (tabs m))=true→tabsB l h=true:=by
  intro l
  induction l with
  | nil=>intro _ _;rfl
  | cons p r ih=>
   obtain⟨g,vs⟩:=p;intro hl e;have e:(tabB vs (zF (heap0 (tabs m)) g) && tabsB r (heap0 (tabs m)))=true:=e;obtain⟨e1,e2⟩:=Bool.and_eq_true_iff.1 e;show(tabB vs (zF h g) && tabsB r h)=true;rw [hl _ (List.mem_cons_self ..),e1,ih (fun p hp=>hl p (List.mem_cons_of_mem _ hp)) e2];rfl
 exact z _ hh (tabs_self m)
theorem start4 {W:World} (h10:Lib.VarReads P W "internal/strconv.uint64pow10" (Lib.tabData .u64 Lib.pow10Tab)) (hes:∃text r,laidMet P (("strconv.ErrSyntax",.iface "*errors.errorString" (.ptr (.agg [.lit (.string text)])))::r) W)
 (her:∃text r,laidMet P (("strconv.ErrRange",.iface "*errors.errorString" (.ptr (.agg [.lit (.string text)])))::r) W) (hs:W.ShapedOpen P) :
 ∃(m:Int) (tbs:List (Nat×List Value)),H0 0 W tbs∧Env m (mirH 0 W tbs)∧tabsB (tabs m) (mirH 0 W tbs)=true∧HeapR P 8 (idI W) W.heap.size W (mirH 0 W tbs) W.heap.size W:=by
 obtain⟨m,hm⟩:=tabs_in (tabIs_of_reads (g:=1) (t:=130) (e:=120) (n:=20) (by kernel_rfl) (by kernel_rfl) (by kernel_rfl) (by kernel_rfl) (by kernel_rfl) (by kernel_rfl) h10) hs;obtain⟨_,_,h1⟩:=hes;obtain⟨_,_,h2⟩:=her;obtain⟨t1,o1,b1,el1,f1,e1,l1⟩:=err_in2 (g:=2) h1 (by kernel_rfl) (by kernel_rfl);obtain⟨t2,o2,b2,el2,f2,e2,l2⟩:=err_in2 (g:=3) h2 (by kernel_rfl) (by kernel_rfl);generalize hx:Value.iface t1 (.pointer (some ⟨b1,o1,none⟩))=x at *
 generalize hy:Value.iface t2 (.pointer (some ⟨b2,o2,none⟩))=y at *
 have hw:TabsIn W (tb4 m x y):=by
  intro p hp;rcases tb4_mem hp with rfl|rfl|rfl|rfl
  · exact hm _ (by simp[tabs])
  · exact hm _ (by simp[tabs])
  · exact⟨el1,f1,e1⟩
  · exact⟨el2,f2,e2⟩
 have hgood:∀p∈tb4 m x y,∀v∈p.2,RV (idI W) v v∧absV 0 v=v:=by
  intro p hp v hv;rcases tb4_mem hp with rfl|rfl|rfl|rfl
  · rw[List.mem_singleton.1 hv];exact⟨.int _ _,rfl⟩
  · rw[powL_eq]at hv;obtain⟨z,-,rfl⟩:=List.mem_map.1 hv;exact⟨.int _ _,rfl⟩
  · rw[List.mem_singleton.1 hv,← hx];exact⟨.iface (.ptr (B:=⟨b1,szB W b1,0⟩) (idI_of l1)),rfl⟩
  · rw[List.mem_singleton.1 hv,← hy];exact⟨.iface (.ptr (B:=⟨b2,szB W b2,0⟩) (idI_of l2)),rfl⟩
 have hsz:=ng_le hs;have hT:∀p∈tb4 m x y,zF (mirH 0 W (tb4 m x y)) p.1=mkC p.2 0 2:=fun p hp=>mir_tab tb4_once hp;have m0:((0,[.int .i64 m]):Nat×List Value)∈tb4 m x y:=by simp[tb4,tabs]
 have m1:((1,powL):Nat×List Value)∈tb4 m x y:=by simp[tb4,tabs]
 have m2:((2,[x]):Nat×List Value)∈tb4 m x y:=by simp[tb4]
 have m3:((3,[y]):Nat×List Value)∈tb4 m x y:=by simp[tb4]
 refine⟨m,tb4 m x y,⟨⟨hw,fun p hp v hv=>(hgood p hp v hv).2⟩,1,0,2,?_,by omega⟩,⟨fun p hp=>?_,?_,?_⟩,tabs_self' fun p hp=>?_,mir_heapR hsz hw fun p hp v hv=>(hgood p hp v hv).1⟩
 · have:=hT _ m0;dsimp only at this;rw [this];exact wZ _ _ _
 · have hp':p∈tb4 m x y:=by
    simp only[tb,List.mem_cons,List.not_mem_nil,or_false]at hp;rcases hp with rfl|rfl
    · exact m0
    · have:=m1;rw [powL_eq]at this;exact this
   have:=hT p hp';refine⟨⟨0,?_⟩,fun i=>?_⟩
   · rw[this];exact wZ _ _ _
   · unfold zD;rw [this];exact wK _ _ _ _
 · have:=hT _ m2;dsimp only at this;refine⟨0,by rw[this];exact wZ _ _ _,t1,.pointer (some ⟨b1,o1,none⟩),?_⟩;unfold zD;rw [this,wK,← hx];rfl
 · have:=hT _ m3;dsimp only at this;refine⟨0,by rw[this];exact wZ _ _ _,t2,.pointer (some ⟨b2,o2,none⟩),?_⟩;unfold zD;rw [this,wK,← hy];rfl
 · simp only[tabs,List.mem_cons,List.not_mem_nil,or_false]at hp;rcases hp with rfl|rfl
   · rw[hT _ m0];kernel_rfl
   · rw[hT _ m1];kernel_rfl
theorem told_rv{W:World}{b0:Nat}{l:List Value}(h:∀x∈l,Told b0 W x):RV (idI W) (.agg ⟨l.map (absV b0)⟩) (.agg ⟨l⟩):=by
 refine .agg (by simp) fun j w w' q1 q2=>?_;have q2:l[j]? = some w':=q2;have q1:(l.map (absV b0))[j]? = some w:=q1;rw [List.getElem?_map,q2]at q1;obtain rfl:absV b0 w'=w:=by simpa using q1
 exact(h w' (List.mem_iff_getElem?.2 ⟨j,q2⟩)).1
theorem lines_calls {H:Type} {enc:TypeId×Value→H} {W:World} {base:Nat} {v:Value} {d:DataW H} {p:List MemPlace} (a w:Int) (more:Tx) (hgo:Go64 w) (hmo:more.length<tMax)
 (h10:Lib.VarReads P W "internal/strconv.uint64pow10" (Lib.tabData .u64 Lib.pow10Tab)) (hes:∃text r,laidMet P (("strconv.ErrSyntax",.iface "*errors.errorString" (.ptr (.agg [.lit (.string text)])))::r) W)
 (her:∃text r,laidMet P (("strconv.ErrRange",.iface "*errors.errorString" (.ptr (.agg [.lit (.string text)])))::r) W) (hs:W.ShapedOpen P)
 (hv:Value.okWide P W .any base 26 v) (hd:DataW.Trod enc P W 0 (fun _=>true) true 26 v d p) (hwt:∀y∈d.weights P 26,y≤reachBytes) :
 Calls P 3 #[v,I64 a,I64 w,str more] W fun e w'=>e = .returned (.bool true)∧Go.RowKit.Below W.heap.size W w':=by
 obtain⟨m,tbs,h0,hE,ht,hH⟩:=start4 h10 hes her hs;obtain⟨cs,rfl,-⟩:=okWide_struct Tryz.underlying26 hv;obtain⟨fuel,hd⟩:=hd;obtain⟨l⟩:=cs;have hEl:ElF enc W fuel 26 l:=⟨(d,p),hd,hwt⟩;obtain⟨ht1,F,hF,q,fs⟩:=fun_El h0 hEl;refine law_com (args:=[.agg ⟨funC F⟩,I64 a,I64 w,str more]) (args':=[.agg ⟨l⟩,I64 a,I64 w,str more]) (vlines_com ht hE (ng_le hs) q fs (Nat.le_refl _) hgo hmo) W hH ⟨rfl,fun i x x' h1 h2=>?_⟩
 match i,h1,h2 with
 | 0,h1,h2=>
  obtain rfl:Value.agg ⟨funC F⟩=x:=by simpa using h1
  obtain rfl:Value.agg ⟨l⟩=x':=by simpa using h2
  rw[← hF];exact told_rv ht1
 | 1,h1,h2=>
  obtain rfl:I64 a=x:=by simpa using h1
  obtain rfl:I64 a=x':=by simpa using h2
  exact .int _ _
 | 2,h1,h2=>
  obtain rfl:I64 w=x:=by simpa using h1
  obtain rfl:I64 w=x':=by simpa using h2
  exact .int _ _
 | 3,h1,h2=>
  obtain rfl:str more=x:=by simpa using h1
  obtain rfl:str more=x':=by simpa using h2
  exact .string _
 | i+4,h1,h2=>simp at h1
end Go.Proofs.YtdipdkkpgjdnkaaGreatDoor
