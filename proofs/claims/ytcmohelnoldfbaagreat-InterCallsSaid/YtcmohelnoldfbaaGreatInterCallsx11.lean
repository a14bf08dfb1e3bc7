/- What the law leans on: an executor of the model that is sound, deduction over it, and the walks through the code (part 11 of 13). Conditions: those that each theorem states. -/
import Derived.Test.YtcmohelnoldfbaaGreatInterCallsx10

set_option linter.unusedVariables false
set_option linter.unusedSimpArgs false
namespace Go.Ex
theorem Own.dnl{lo lo' n:Nat}{h:zB}{v:Value}{e sz len:Nat}{vs:List Value}(o:Own lo n h v e sz len vs)(hl:lo'≤lo):Own lo' n h v e sz len vs:=by
 rcases o with o|⟨b,q1,q2⟩
 · exact .inl o
 · exact .inr ⟨b,Nat.le_trans hl q1,q2⟩
theorem own_ne{lo lo' n n':Nat}{h:zB}{v v':Value}{e sz len e' sz' len':Nat}{vs vs':List Value}(o:Own lo n h v e sz len vs)(o':Own lo' n' h v' e' sz' len' vs')(hne:e≠e'∨sz≠sz'):∀b,yL v=some b→b∉(yL v').toList:=fun b hb hx=>by
 rcases o with⟨rfl,_⟩|⟨b1,_,_,rfl,q3,_⟩
 · cases hb
 rcases o' with⟨rfl,_⟩|⟨b2,_,_,rfl,p3,_⟩
 · cases hx
 injection hb with hb
 have hb:b1=b:=hb;have hx:b∈(some b2).toList:=hx;simp at hx;subst hb hx;rw [q3]at p3;injection p3 with p3
 injection p3 with _ p3
 injection p3 with p3 _
 obtain⟨a,b⟩:=zc_inj p3;omega
theorem cel_own{lo n b z:Nat}{h:zB}{v:Value}{e sz len:Nat}{vs ws:List Value}(c:Cel h b z 0 ws)(o:Own lo n h v e sz len vs):b∉(yL v).toList:=fun hx=>by
 rcases o with⟨rfl,_⟩|⟨b2,_,_,rfl,p3,_⟩
 · cases hx
 have hx:b∈(some b2).toList:=hx;simp at hx;subst hx;rw [c.1]at p3;exact absurd (kd_of p3) (by decide)
def Dj(v v':Value):Prop:=∀b,yL v=some b→yL v'≠some b
theorem Dj.no{v v':Value}(d:Dj v v'):∀b,yL v=some b→b∉(yL v').toList:=fun b hb hx=>by
 cases e:yL v' with
 | none=>rw [e]at hx;cases hx
 | some c=>rw [e]at hx;simp at hx;subst hx;exact d _ hb e
theorem appN{P:Program}{sT xT e sz:Nat}[A:ApC P sT xT e sz]{cx:Cx}{d:List Deferred}{u:Option zE}{h:zB}{n lo len m:Nat}{v x:Value}{vs new:List Value}{K:W→Value→Prop}(ho:Own lo n h v e sz len vs)(hr:Row n h x e sz m new)(hm:0<m)(h1:One new)(hlim:len+m<1000000)
(k:∀v' h' n',Own n n' h' v' e sz (len+m) (vs++new)→Tch (yL v).toList h n h' n'→K ⟨d,u,h',n'⟩ v'):BuB P cx .append [sT,xT] [v,x] d u h n K:=by
 have:=append_new (K:=fun h' n' v'=>yV (K ⟨d,u,h',n'⟩ v')) A.ok ho hm hr hr.lens h1.all hlim fun v' h' n' o a b=>isSo_iff.2 (k v' h' n' o ⟨a,fun b' hb hS=>b b' hb fun e=>hS (by rw[e];simp)⟩);exact this
namespace M
section
variable {d:Int} {base:Pl} {sibs:List Pl} {s:GSt} {r:RegT}
end
end M
end Go.Ex
namespace Go.Ex.M
section
variable {m:MachT} {ns:List Tx} {ps:List Pl}
structure CsOK (m:MachT) (ns:List Tx):Prop where
 ix:∀(i:Nat) c,m.classes[i]? = some c→clsPos m c.name=(i:Nat)
 ne:∀(i:Nat) c,m.classes[i]? = some c→1≤c.regs.length
 mem:∀(i:Nat) c,m.classes[i]? = some c→∀r∈c.regs,r∈ns
 nd:∀(i:Nat) c,m.classes[i]? = some c→c.regs.Nodup
end
end Go.Ex.M
namespace Go.Ex.M
structure InsT where
 kind:Int
 d:Int
 a:Int
 b:Int
 n:Int
 name:Tx
 av:Value
 args:List Int
 t:Int
 f:Int
abbrev xY(i:InsT):List Value:=[I64 i.kind,I64 i.d,I64 i.a,I64 i.b,I64 i.n,str i.name,i.av,I64 i.t,I64 i.f]
structure InsM (lo:Nat) (h:zB) (i:InsT):Prop where
 ar:RowA lo h i.av 1 i.args.length (i.args.map I64)
 al:i.args.length<tMax
 ag:∀x∈i.args,Go64 x
 g:Go64 i.d∧Go64 i.a∧Go64 i.b
 nl:i.name.length<tMax
structure CodeT where
 name:Tx
 slots:Int
 bv:Value
 blocks:List (Value×List InsT)
structure CodeM (lo:Nat) (h:zB) (c:CodeT):Prop where
 nl:c.name.length<tMax
 bl:RowI lo h c.bv 1 c.blocks.length (c.blocks.map (·.1))
 bll:c.blocks.length<tMax
 el:∀x∈c.blocks,RowI lo h x.1 9 x.2.length (x.2.flatMap xY)∧x.2.length<tMax
 ins:∀x∈c.blocks,∀i∈x.2,InsM lo h i
theorem InsM.tch{lo n n':Nat}{h h':zB}{i:InsT}(k:InsM lo h i)(t:Tch [] h n h' n')(hl:lo≤n):InsM lo h' i:=⟨k.ar.tch t hl,k.al,k.ag,k.g,k.nl⟩
end Go.Ex.M
namespace Go.Ex
def Kep(lo n:Nat)(h:zB)(v:Value)(e sz len:Nat)(vs:List Value):Prop:=
 (v = .slice none 0 0∧len=0∧vs=[])∨∃b cap m,lo≤b∧b<n∧v = .slice (some ⟨b,0,none⟩) len cap∧infoOf (zF h b)=some (m,zc e sz,1)∧vs.length=len*sz∧vs.length≤m∧(∀i,i<vs.length→zJ h b i=vs[i]?)∧((cap<inf∧len≤cap)∨cap=inf)
theorem Kep.row{lo n:Nat}{h:zB}{v:Value}{e sz len:Nat}{vs:List Value}(o:Kep lo n h v e sz len vs)(hs:1≤sz):Row n h v e sz len vs:=by
 rcases o with o|⟨b,cap,m,q1,q2,rfl,q3,q4,q5,q6,q7⟩
 · exact .inl o
 · exact .inr ⟨b,0,cap,m,zc e sz,1,q2,rfl,q4,q3,by omega,fun j x hj=>by rw[Nat.zero_add,q6 j (List.getElem?_eq_some_iff.1 hj).1];exact hj,q7.elim .inl fun e=>.inr ⟨e,rfl,rfl,hs⟩⟩
theorem Kep.tch{S:List Nat}{lo n n':Nat}{h h':zB}{v:Value}{e sz len:Nat}{vs:List Value}(o:Kep lo n h v e sz len vs)(t:Tch S h n h' n')(hS:∀b,yL v=some b→b∉S):Kep lo n' h' v e sz len vs:=by
 rcases o with o|⟨b,cap,m,q1,q2,rfl,q3,q4,q5,q6,q7⟩
 · exact .inl o
 · have ek:=t.2 b q2 (hS b rfl);exact .inr ⟨b,cap,m,q1,Nat.lt_of_lt_of_le q2 t.1,rfl,by rw[ek];exact q3,q4,q5,fun i hi=>by unfold zJ;rw [ek];exact q6 i hi,q7⟩
theorem Kep.one{lo n:Nat}{h:zB}{v:Value}{e sz len:Nat}{vs:List Value}(o:Kep lo n h v e sz len vs):v.oneCell'=true:=by
 rcases o with⟨rfl,_⟩|⟨b,cap,m,q1,q2,rfl,_⟩ <;> rfl
theorem Kep.blk{lo n:Nat}{h:zB}{v:Value}{e sz len:Nat}{vs:List Value}(o:Kep lo n h v e sz len vs){b:Nat}(hb:yL v=some b):lo≤b∧b<n:=by
 rcases o with⟨rfl,_⟩|⟨b',cap,m,q1,q2,rfl,_⟩
 · cases hb
 · injection hb with hb;subst hb;exact⟨q1,q2⟩
theorem Kep.dnl{lo lo' n:Nat}{h:zB}{v:Value}{e sz len:Nat}{vs:List Value}(o:Kep lo n h v e sz len vs)(hl:lo'≤lo):Kep lo' n h v e sz len vs:=by
 rcases o with o|⟨b,cap,m,q1,q2⟩
 · exact .inl o
 · exact .inr ⟨b,cap,m,Nat.le_trans hl q1,q2⟩
theorem kep_own{lo lo' n n':Nat}{h:zB}{v v':Value}{e sz len e' sz' len':Nat}{vs vs':List Value}(k:Kep lo n h v e sz len vs)(o:Own lo' n' h v' e' sz' len' vs')(hne:e≠e'∨sz≠sz'):Dj v v':=fun b hb e2=>by
 rcases k with⟨rfl,_⟩|⟨b1,cap,m,_,_,rfl,q3,_⟩
 · cases hb
 rcases o with⟨rfl,_⟩|⟨b2,_,_,rfl,p3,_⟩
 · cases e2
 injection hb with hb
 injection e2 with e2
 have hb:b1=b:=hb;have e2:b2=b:=e2;subst hb e2;rw [q3]at p3;injection p3 with p3
 injection p3 with _ p3
 injection p3 with p3 _
 obtain⟨a,b⟩:=zc_inj p3;omega
theorem own_head{lo n:Nat}{h:zB}{v:Value}{e sz len:Nat}{vs:List Value}(o:Own lo n h v e sz len vs)(h0:0<len):∃b,v = .slice (some ⟨b,0,none⟩) len inf∧lo≤b∧b<n:=by
 rcases o with⟨_,rfl,_⟩|⟨b,q1,q2,rfl,_⟩
 · omega
 · exact⟨b,rfl,q1,q2⟩
theorem own_put{lo n i b cap:Nat}{h:zB}{v x:Value}{e sz len:Nat}{vs:List Value}(o:Own lo n h v e sz len vs)(hv:v = .slice (some ⟨b,0,none⟩) len cap)(hi:i<vs.length):Own lo n (hst h b i [x]) v e sz len (vs.set i x):=by
 rcases o with⟨rfl,_⟩|⟨b2,q1,q2,rfl,q3,q4,q5,q6⟩
 · cases hv
 injection hv with hv _ _
 injection hv with hv
 injection hv with hv _
 subst hv;refine .inr ⟨b2,q1,q2,rfl,by rw[wL,if_pos rfl,infoOf_stC,List.length_set];exact q3,by rw[List.length_set];exact q4,q5,fun j=>?_⟩;unfold zJ;rw [wL,if_pos rfl,cellOf_stC _ _ _ q3 (by simp;omega) (by decide)];by_cases e:i=j
 · subst e;rw [if_pos (by simp),Nat.sub_self,List.getElem?_set_self hi];rfl
 · rw[if_neg (by simp;omega),List.getElem?_set_ne e];exact q6 j
theorem stp_own{lo n i b cap:Nat}{h:zB}{v x:Value}{e sz len:Nat}{vs:List Value}(o:Own lo n h v e sz len vs)(hv:v = .slice (some ⟨b,0,none⟩) len cap)(hi:i<vs.length)(hx:x.oneCell'=true):StP h (ptr b i) [x] (hst h b i [x]):=by
 rcases o with⟨rfl,_⟩|⟨b2,q1,q2,rfl,q3,q4,q5,q6⟩
 · cases hv
 injection hv with hv _ _
 injection hv with hv
 injection hv with hv _
 subst hv;exact⟨b2,i,vs.length,zc e sz,1,rfl,q3,⟨by decide,by decide⟩,by simp;omega,fun y hy=>by simp at hy;subst hy;exact hx,rfl⟩
namespace M
def yE(ws:List Nat)(k:Nat):Bool:=((ws[k / 64]?).getD 0).testBit (k % 64)
structure SetW (ws:List Nat):Prop where
 lt:∀w∈ws,w<18446744073709551616
 tr:∀w,ws.getLast? = some w→w≠0
 le:ws.length≤1024
def vG(ws:List Nat):Nat→Nat
 | 0=>0
 | k+1=>if ws[k]? = some 0 then vG ws k else k+1
theorem trimN_le(ws:List Nat):∀k,vG ws k≤k:=by
 intro k
 induction k with
 | zero=>exact Nat.le_refl _
 | succ k ih=>
  unfold vG;split
  · omega
  · exact Nat.le_refl _
theorem trimN_zero(ws:List Nat):∀k j,vG ws k≤j→j<k→ws[j]? = some 0:=by
 intro k
 induction k with
 | zero=>intro j h1 h2;omega
 | succ k ih=>
  intro j h1 h2;unfold vG at h1;split at h1
  · rename_i h0;rcases Nat.lt_succ_iff_lt_or_eq.1 h2 with h9|rfl
    · exact ih j h1 h9
    · exact h0
  · omega
theorem trimN_last(ws:List Nat):∀k,0<vG ws k→ws[vG ws k - 1]?≠some 0:=by
 intro k
 induction k with
 | zero=>intro h;exact absurd h (Nat.lt_irrefl 0)
 | succ k ih=>
  unfold vG;split
  · exact ih
  · rename_i h0;intro _;exact h0
theorem trim_has(ws:List Nat)(k:Nat):yE (ws.take (vG ws ws.length)) k=yE ws k:=by
 unfold yE;rw [List.getElem?_take];split
 · rfl
 · rename_i h;rcases Nat.lt_or_ge (k / 64) ws.length with h9|h9
   · rw[trimN_zero ws ws.length (k / 64) (by omega) h9];simp
   · rw[List.getElem?_eq_none h9]
theorem trim_set{ws:List Nat}(h:∀w∈ws,w<18446744073709551616)(hl:ws.length≤1024):SetW (ws.take (vG ws ws.length)):=by
 have hle:=trimN_le ws ws.length;refine⟨fun w hw=>h w (List.mem_of_mem_take hw),fun w hw=>?_,by rw[List.length_take];omega⟩
 rintro rfl
 rw[List.getLast?_eq_getElem?,List.length_take,Nat.min_eq_left hle]at hw;have h1:=(List.getElem?_eq_some_iff.1 hw).1;rw [List.length_take]at h1;rw [List.getElem?_take_of_lt (by omega)]at hw;exact trimN_last ws ws.length (by omega) hw
theorem has_put{ws:List Nat}{a k:Nat}(ha:a / 64<ws.length):yE (ws.set (a / 64) (((ws[a / 64]?).getD 0) ||| 2 ^ (a % 64))) k=(yE ws k || decide (k=a)):=by
 unfold yE;rw [List.getElem?_set];split
 · rename_i e;rw [← e];show(((ws[a / 64]?).getD 0) ||| 2 ^ (a % 64)).testBit (k % 64)=_;rw [Nat.testBit_or,Nat.testBit_two_pow];congr 1
   refine decide_eq_decide.2 ⟨fun h=>?_,fun h=>by rw[h]⟩;have:=Nat.div_add_mod a 64;have:=Nat.div_add_mod k 64;omega
 · rename_i e;have:¬k=a:=fun h=>e (by rw[h]);rw [decide_eq_false this,Bool.or_false]
theorem has_grow{ws:List Nat}{k:Nat}:yE (ws++[0]) k=yE ws k:=by
 unfold yE;rcases Nat.lt_trichotomy (k / 64) ws.length with h|h|h
 · rw[List.getElem?_append_left h]
 · rw[List.getElem?_append_right (by omega),h,Nat.sub_self,List.getElem?_eq_none (Nat.le_refl _)];simp
 · rw[List.getElem?_eq_none (by simp;omega),List.getElem?_eq_none (by omega)]
theorem or_lt{a m:Nat}(ha:a<18446744073709551616)(hm:m<64):a ||| 2 ^ m<18446744073709551616:=by
 have h1:a<2 ^ 64:=ha;have h2:2 ^ m<2 ^ 64:=Nat.pow_lt_pow_right (by decide) hm;exact Nat.or_lt_two_pow h1 h2
def subW(a b:List Nat):List Nat:=(List.range (max a.length b.length)).map fun i=>(a[i]?).getD 0 ^^^ ((a[i]?).getD 0 &&& (b[i]?).getD 0)
theorem sub_has(a b:List Nat)(k:Nat):yE (subW a b) k=(yE a k && !yE b k):=by
 unfold yE subW;rw [List.getElem?_map];rcases Nat.lt_or_ge (k / 64) (max a.length b.length) with h|h
 · rw[List.getElem?_range h];show((a[k / 64]?).getD 0 ^^^ ((a[k / 64]?).getD 0 &&& (b[k / 64]?).getD 0)).testBit (k % 64)=_;rw [Nat.testBit_xor,Nat.testBit_and];cases ((a[k / 64]?).getD 0).testBit (k % 64) <;> cases ((b[k / 64]?).getD 0).testBit (k % 64) <;> rfl
 · rw[List.getElem?_eq_none (by simpa using h),List.getElem?_eq_none (l:=a) (by omega)];simp
theorem getD_lt{a:List Nat}(ha:∀w∈a,w<18446744073709551616)(i:Nat):(a[i]?).getD 0<18446744073709551616:=by
 cases e:a[i]? with
 | none=>exact(by decide:0<18446744073709551616)
 | some w=>exact ha w (List.mem_of_getElem? e)
theorem andn_lt{x y:Nat}(hx:x<18446744073709551616):x ^^^ (x &&& y)<18446744073709551616:=by
 have h1:x<2 ^ 64:=hx;exact Nat.xor_lt_two_pow h1 (Nat.lt_of_le_of_lt Nat.and_le_left h1)
theorem bit_has{w m:Nat}:(((w >>> m) &&& 1:Nat):Int)≠0↔w.testBit m=true:=by
 have e:w.testBit m=((w >>> m &&& 1) != 0):=by unfold Nat.testBit;rw [Nat.and_comm]
 rw[e];generalize (w >>> m &&& 1)=x
 rw[bne_iff_ne];omega
end M
end Go.Ex
namespace Go.Ex.M
def zipW(f:Nat→Nat→Nat)(a b:List Nat):List Nat:=(List.range (max a.length b.length)).map fun i=>f ((a[i]?).getD 0) ((b[i]?).getD 0)
theorem zipW_len{f:Nat→Nat→Nat}{a b:List Nat}:(zipW f a b).length=max a.length b.length:=by unfold zipW;simp
theorem zipW_at{f:Nat→Nat→Nat}{a b:List Nat}{i:Nat}(hi:i<max a.length b.length):(zipW f a b)[i]? = some (f ((a[i]?).getD 0) ((b[i]?).getD 0)):=by unfold zipW;rw [List.getElem?_map,List.getElem?_range hi];rfl
theorem zipW_has{f:Nat→Nat→Nat}{g:Bool→Bool→Bool}(h0:g false false=false)(hf:∀x y m,(f x y).testBit m=g (x.testBit m) (y.testBit m))(a b:List Nat)(k:Nat):yE (zipW f a b) k=g (yE a k) (yE b k):=by
 unfold yE;rcases Nat.lt_or_ge (k / 64) (max a.length b.length) with h|h
 · rw[zipW_at h];exact hf _ _ _
 · rw[List.getElem?_eq_none (by rw[zipW_len];exact h),List.getElem?_eq_none (l:=a) (by omega),List.getElem?_eq_none (l:=b) (by omega)];simp [h0]
theorem or_has(a b:List Nat)(k:Nat):yE (zipW (· ||| ·) a b) k=(yE a k || yE b k):=zipW_has (g:=(· || ·)) rfl (fun x y m=>Nat.testBit_or x y m) a b k
theorem orn_lt{x y:Nat}(hx:x<18446744073709551616)(hy:y<18446744073709551616):x ||| y<18446744073709551616:=by
 have h1:x<2 ^ 64:=hx;have h2:y<2 ^ 64:=hy;exact Nat.or_lt_two_pow h1 h2
theorem word_bit{w:Nat}(h:w≠0)(hl:w<18446744073709551616):∃m,m<64∧w.testBit m=true:=by
 obtain⟨m,hm⟩:=Nat.exists_testBit_of_ne_zero h;refine⟨m,?_,hm⟩;rcases Nat.lt_or_ge m 64 with h9|h9
 · exact h9
 · have:w<2 ^ m:=Nat.lt_of_lt_of_le (show w<2 ^ 64 from hl) (Nat.pow_le_pow_right (by decide) h9);rw [Nat.testBit_lt_two_pow this]at hm;cases hm
theorem setW_len{a b:List Nat}(ha:SetW a)(h:∀k,yE a k=yE b k):a.length≤b.length:=by
 rcases Nat.lt_or_ge b.length a.length with h9|h9
 · exfalso
   have hl:a.getLast? = some (a[a.length - 1]'(by omega)):=by rw[List.getLast?_eq_getElem?];exact List.getElem?_eq_getElem _
   have hw:=ha.tr _ hl;obtain⟨m,hm,hb⟩:=word_bit hw (ha.lt _ (List.getElem_mem _))
   have h1:yE a ((a.length - 1)*64+m)=true:=by
    unfold yE;rw [show((a.length - 1)*64+m) / 64=a.length - 1 by omega,show((a.length - 1)*64+m) % 64=m by omega,List.getElem?_eq_getElem (by omega:a.length - 1<a.length)];exact hb
   rw[h]at h1;unfold yE at h1;rw [show((a.length - 1)*64+m) / 64=a.length - 1 by omega,List.getElem?_eq_none (by omega)]at h1;simp at h1
 · exact h9
theorem setW_ext{a b:List Nat}(ha:SetW a)(hb:SetW b)(h:∀k,yE a k=yE b k):a=b:=by
 have e:=Nat.le_antisymm (setW_len ha h) (setW_len hb fun k=>(h k).symm);refine List.ext_getElem e fun i h1 h2=>Nat.eq_of_testBit_eq fun m=>?_;rcases Nat.lt_or_ge m 64 with h9|h9
 · have:=h (i*64+m);unfold yE at this;rw [show(i*64+m) / 64=i by omega,show(i*64+m) % 64=m by omega,List.getElem?_eq_getElem h1,List.getElem?_eq_getElem h2]at this;exact this
 · have q:∀w:Nat,w<18446744073709551616→w.testBit m=false:=fun w hw=>Nat.testBit_lt_two_pow (Nat.lt_of_lt_of_le (show w<2 ^ 64 from hw) (Nat.pow_le_pow_right (by decide) h9));rw [q _ (ha.lt _ (List.getElem_mem _)),q _ (hb.lt _ (List.getElem_mem _))]
end Go.Ex.M
namespace Go.Ex.M
def backP(d:Int)(us:List Int)(s:Nat→Bool)(k:Nat):Bool:=(s k && !decide (d=(k:Nat))) || decide (((k:Nat):Int)∈us)
def retP:Nat→Bool:=backP (-1) [0] fun _=>false
theorem retP_eq(k:Nat):retP k=decide (k=0):=by
 unfold retP backP;rw [Bool.false_and,Bool.false_or];exact decide_eq_decide.2 (by rw[List.mem_singleton];omega)
theorem adds_back(l:List Nat)(k:Nat):(l.foldr (fun i s=>backP 0 [0,((i:Nat):Int)] s) retP) k=(decide (k=0) || decide (k∈l)):=by
 induction l with
 | nil=>rw [List.foldr_nil,retP_eq];simp
 | cons i r ih=>
  rw[List.foldr_cons];show((r.foldr (fun i s=>backP 0 [0,((i:Nat):Int)] s) retP) k && !decide ((0:Int)=(k:Nat)) || decide (((k:Nat):Int)∈[0,((i:Nat):Int)]))=_;rw [ih];by_cases h0:k=0
  · subst h0;simp
  · by_cases hi:k=i
    · subst hi;simp
    · have e1:¬(0:Int)=((k:Nat):Int):=by omega
      have e2:¬((k:Nat):Int)∈[0,((i:Nat):Int)]:=by
       simp only[List.mem_cons,List.not_mem_nil,or_false];omega
      rw[decide_eq_false e1,decide_eq_false e2,decide_eq_false h0];simp [hi]
theorem cross_eq{l:List Nat}(h0:0∉l)(k:Nat):((l.foldr (fun i s=>backP 0 [0,((i:Nat):Int)] s) retP) k && !decide (k=0))=decide (k∈l):=by
 rw[adds_back];by_cases hk:k=0
 · subst hk;simp [h0]
 · rw[decide_eq_false hk];simp
def bitsL(s:Nat→Bool)(n:Nat):List Nat:=(List.range n).filter s
theorem bitsL_eq{s:Nat→Bool}{l:List Nat}{n:Nat}(hs:∀k,s k=decide (k∈l))(hl:l.Pairwise (· < ·))(hn:∀k∈l,k<n):bitsL s n=l:=by
 have p1:(bitsL s n).Pairwise (· < ·):=List.Pairwise.filter _ (List.pairwise_lt_range (n:=n))
 have hm:∀k,k∈bitsL s n↔k∈l:=fun k=>by
  unfold bitsL;rw [List.mem_filter,List.mem_range,hs];exact⟨fun h=>of_decide_eq_true h.2,fun h=>⟨hn k h,decide_eq_true h⟩⟩
 generalize bitsL s n=a at *
 clear hs hn
 induction a generalizing l with
 | nil=>
  cases l with
  | nil=>rfl
  | cons x r=>have:=(hm x).2 (List.mem_cons_self ..);cases this
 | cons x r ih =>
  cases l with
  | nil=>have:=(hm x).1 (List.mem_cons_self ..);cases this
  | cons y t =>
   obtain⟨a1,a2⟩:=List.pairwise_cons.1 p1;obtain⟨b1,b2⟩:=List.pairwise_cons.1 hl
   have hxy:x=y:=by
    rcases List.mem_cons.1 ((hm x).1 (List.mem_cons_self ..)) with h|h
    · exact h
    · rcases List.mem_cons.1 ((hm y).2 (List.mem_cons_self ..)) with h9|h9
      · exact h9.symm
      · have:=b1 x h;have:=a1 y h9;omega
   subst hxy;refine congrArg (x :: ·) (ih b2 a2 fun k=>⟨fun hk=>?_,fun hk=>?_⟩)
   · rcases List.mem_cons.1 ((hm k).1 (List.mem_cons_of_mem _ hk)) with rfl|h
     · exact absurd (a1 k hk) (Nat.lt_irrefl k)
     · exact h
   · rcases List.mem_cons.1 ((hm k).2 (List.mem_cons_of_mem _ hk)) with rfl|h
     · exact absurd (b1 k hk) (Nat.lt_irrefl k)
     · exact h
end Go.Ex.M
namespace Go.Ex.M
structure FunT where
 name:Tx
 vv:Value
 vregs:List Tx
 pv:Value
 params:List Int
 result:Tx
 bv:Value
 blocks:List (Value×List InsT)
abbrev funC(f:FunT):List Value:=[str f.name,f.vv,f.pv,str f.result,f.bv]
structure FunM (lo:Nat) (h:zB) (f:FunT):Prop where
 vr:RowI lo h f.vv 1 f.vregs.length (f.vregs.map str)
 pr:RowI lo h f.pv 1 f.params.length (f.params.map I64)
 bl:RowI lo h f.bv 1 f.blocks.length (f.blocks.map (·.1))
 el:∀x∈f.blocks,RowI lo h x.1 9 x.2.length (x.2.flatMap xY)
 ins:∀x∈f.blocks,∀i∈x.2,InsM lo h i
theorem FunM.tch{lo n n':Nat}{h h':zB}{f:FunT}(k:FunM lo h f)(t:Tch [] h n h' n')(hl:lo≤n):FunM lo h' f:=⟨k.vr.tch t hl,k.pr.tch t hl,k.bl.tch t hl,fun x hx=>(k.el x hx).tch t hl,fun x hx i hi=>(k.ins x hx i hi).tch t hl⟩
def rdL(i:InsT):List Int:=if i.kind=2∨i.kind=4∨i.kind=7∨i.kind=9 then [i.a] else if i.kind=5 then [i.a,i.b] else if i.kind=3∨i.kind=6 then i.args else []
def wrB(i:InsT):Bool:=decide (i.kind=1∨i.kind=2∨i.kind=3∨i.kind=4) || (decide (i.kind=6) && decide (i.d≠-1))
def wrD(i:InsT):Int:=if i.kind=1∨i.kind=2∨i.kind=3∨i.kind=4∨i.kind=6 then i.d else 0
def defI(i:InsT):Int:=if wrB i then wrD i else -1
end Go.Ex.M
namespace Go.Proofs.YtcmohelnoldfbaaGreat
open Go Go.Ex Go.Ex.M
set_option maxRecDepth 100000
set_option maxHeartbeats 8000000
end Go.Proofs.YtcmohelnoldfbaaGreat
namespace Go.Proofs.YtcmohelnoldfbaaGreat
open Go Go.Ex Go.Ex.M
set_option maxRecDepth 100000
set_option maxHeartbeats 8000000
end Go.Proofs.YtcmohelnoldfbaaGreat
namespace Go.Proofs.YtcmohelnoldfbaaGreat
open Go Go.Ex Go.Ex.M
set_option maxRecDepth 100000
set_option maxHeartbeats 8000000
instance (c:Nat) (h:zB) (n:Nat):PurC P 0 201 [.int .u8 c] h n (.bool (letB c)):=⟨by
 refine ent fun u=>?_;repeat' first|refine wk ?_|refine cX (fun _=>?_) fun _=>?_|fail
 all_goals (first|unfold letB|unfold digB|skip);all_goals (refine finB ?_;first|exact⟨fun _=>by omega,fun _=>rfl⟩|exact⟨fun h=>Bool.noConfusion h,fun h=>by omega⟩|(rw [decide_eq_true_iff];omega))⟩
instance (c:Nat) (h:zB) (n:Nat):PurC P 0 202 [.int .u8 c] h n (.bool (digB c)):=⟨by
 refine ent fun u=>?_;repeat' first|refine wk ?_|refine cX (fun _=>?_) fun _=>?_|fail
 all_goals (first|unfold letB|unfold digB|skip);all_goals (refine finB ?_;first|exact⟨fun _=>by omega,fun _=>rfl⟩|exact⟨fun h=>Bool.noConfusion h,fun h=>by omega⟩|(rw [decide_eq_true_iff];omega))⟩
instance named_c (s:Tx) (h:zB) (n:Nat):PurC P 0 175 [str s] h n (.bool (nameB s)):=⟨by
 refine ent fun u=>?_
 cases s with
 | nil=>
  repeat' first|refine wk ?_|refine cX (fun _=>?_) fun _=>?_|fail
  exact fin rfl
 | cons c r=>
  have c0:(c::r)[0]? = some c:=rfl;have hn:nameB (c::r)=(decide ((c::r).length≤20) && letB c.toNat && tailB (c::r)):=rfl;repeat' first|refine wk ?_|refine cX (fun _=>?_) fun _=>?_|fail
  · rename_i h2;exact fin (by rw[hn,decide_eq_false (by omega)];rfl)
  · rename_i h2;exact fin (by rw[hn,h2];simp)
  · rename_i h2 h3;replace hn:nameB (c::r)=tailB (c::r):=by rw[hn,decide_eq_true (by omega),h3];rfl
    generalize c::r=s at *
    refine lpR (fun k:Nat=>[(0,str s),(18,I64 s.length),(19,I64 k)]) (fun k h' n'=>h'=h∧n'=n∧k≤s.length∧∀j (hj:j<s.length),j<k→letB s[j].toNat=true∨digB s[j].toNat=true) (fun k=>s.length - k) 0 ⟨rfl,rfl,Nat.zero_le _,fun j _ hj=>by omega⟩ ?_
    rintro k t h' n' ⟨rfl,rfl,hk,hno⟩
    by_cases hlt:k<s.length
    · have c1:s[k]? = some s[k]:=List.getElem?_eq_getElem hlt
      have go:letB s[k].toNat=true∨digB s[k].toNat=true→∀j (hj:j<s.length),j<k+1→letB s[j].toNat=true∨digB s[j].toNat=true:=fun hx j hj hlt=>by
       rcases Nat.lt_succ_iff_lt_or_eq.1 hlt with h9|rfl
       · exact hno j hj h9
       · exact hx
      repeat' first|refine wk ?_|refine cX (fun _=>?_) fun _=>?_|fail
      · rename_i h7 h8;refine fin ?_;rw [hn]
        cases h9:tailB s with
        | false=>rfl
        | true=>rcases tail_step hlt h9 with e|e <;> simp_all
      · rename_i h7 h8;exact⟨k+1,by dsimp only;omega,⟨rfl,rfl,rfl,trivial⟩,rfl,rfl,by omega,go (.inr h8)⟩
      · rename_i h7;exact⟨k+1,by dsimp only;omega,⟨rfl,rfl,rfl,trivial⟩,rfl,rfl,by omega,go (.inl h7)⟩
    · obtain rfl:k=s.length:=by omega
      repeat' first|refine wk ?_|refine cX (fun _=>?_) fun _=>?_|fail
      exact fin (by rw[hn,tail_all fun j hj=>hno j hj hj])⟩
end Go.Proofs.YtcmohelnoldfbaaGreat
namespace Go.Proofs.YtcmohelnoldfbaaGreat
open Go Go.Ex Go.Ex.M
set_option maxRecDepth 100000
set_option maxHeartbeats 8000000
abbrev stopC(e:Int):zE:=[⟨.iface 200 (.agg ⟨[I64 e]⟩),false,false⟩]
theorem need_com(z:Bool)(e:Int)(h:zB)(n:Nat):Com P 0 135 [.bool z,I64 e] h n fun o h' n'=>o=(if z then .ret (.tuple #[]) else .panic (stopC e))∧h'=h∧n'=n:=by
 refine ent fun u=>?_;cases z
 · repeat' first|refine wk ?_|refine cX (fun _=>?_) fun _=>?_|fail
   exact⟨rfl,rfl,rfl⟩
 · repeat' first|refine wk ?_|refine cX (fun _=>?_) fun _=>?_|fail
   exact⟨rfl,rfl,rfl⟩
instance {z:Bool} {e:Int} {h:zB} {n:Nat} {K:Out→zB→Nat→Prop}:Stp (CallB P 0 135 [.bool z,I64 e] h n K) (Ch z (K (.ret (.tuple #[])) h n) (K (.panic (stopC e)) h n)):=⟨fun⟨k1,k2⟩=>cal (need_com z e h n) fun o h' n' ⟨e1,e2,e3⟩=>by
 subst e1 e2 e3;cases z
 · exact k2 rfl
 · exact k1 rfl⟩
end Go.Proofs.YtcmohelnoldfbaaGreat
namespace Go.Proofs.YtcmohelnoldfbaaGreat
open Go Go.Ex Go.Ex.M
set_option maxRecDepth 100000
set_option maxHeartbeats 8000000
theorem clone_cls{lo n len:Nat}{h:zB}{sv:Value}{vs:List Value}(r:Row lo h sv 36 2 len vs)(hlo:lo≤n)(h1:∀y∈vs,y.oneCell'=true)(hlim:len<1000000):Ret P 0 90 [sv] h n fun v h' n'=>OwnE n n' h' v 36 2 len vs∧Tch [] h n h' n':=by
 refine ent fun u=>?_;have r':=r;rcases r with⟨rfl,rfl,rfl⟩|⟨b,off,cap,m,z,kd,_,rfl,_⟩
 · repeat' first|refine wk ?_|refine cX (fun _=>?_) fun _=>?_|fail
   exact⟨_,rfl,.inl Own.nil,zA⟩
 · repeat' first|refine wk ?_|refine cX (fun _=>?_) fun _=>?_|fail
   refine appE (.inr ⟨mty_new (Nat.le_refl n),rfl,rfl⟩) ((r'.tch (S:=[]) zA hlo fun _ _ hx=>(by cases hx)).up (by omega)) (by omega) h1 (by omega) ?_
   rintro v' h2 n2 ho ht
   have ht2:Tch [] h n h2 n2:=Tch.tch ht zA fun x hx=>.inl (by
    have hx:x∈(some n).toList:=hx;simp at hx;omega)
   rw[Nat.zero_add,List.nil_append]at ho;repeat' first|refine wk ?_|refine cX (fun _=>?_) fun _=>?_|fail
   exact⟨_,rfl,ho,ht2⟩
theorem clone_int{lo n len:Nat}{h:zB}{sv:Value}{vs:List Value}(r:Row lo h sv 3 1 len vs)(hlo:lo≤n)(h1:∀y∈vs,y.oneCell'=true)(hlim:len<1000000):Ret P 0 77 [sv] h n fun v h' n'=>OwnE n n' h' v 3 1 len vs∧Tch [] h n h' n':=by
 refine ent fun u=>?_;have r':=r;rcases r with⟨rfl,rfl,rfl⟩|⟨b,off,cap,m,z,kd,_,rfl,_⟩
 · repeat' first|refine wk ?_|refine cX (fun _=>?_) fun _=>?_|fail
   exact⟨_,rfl,.inl Own.nil,zA⟩
 · repeat' first|refine wk ?_|refine cX (fun _=>?_) fun _=>?_|fail
   refine appE (.inr ⟨mty_new (Nat.le_refl n),rfl,rfl⟩) ((r'.tch (S:=[]) zA hlo fun _ _ hx=>(by cases hx)).up (by omega)) (by omega) h1 (by omega) ?_
   rintro v' h2 n2 ho ht
   have ht2:Tch [] h n h2 n2:=Tch.tch ht zA fun x hx=>.inl (by
    have hx:x∈(some n).toList:=hx;simp at hx;omega)
   rw[Nat.zero_add,List.nil_append]at ho;repeat' first|refine wk ?_|refine cX (fun _=>?_) fun _=>?_|fail
   exact⟨_,rfl,ho,ht2⟩
end Go.Proofs.YtcmohelnoldfbaaGreat
namespace Go.Proofs.YtcmohelnoldfbaaGreat
open Go Go.Ex Go.Ex.M
set_option maxRecDepth 100000
set_option maxHeartbeats 8000000
attribute [local simp] yI
variable {n:Nat} {h:zB} {i:InsT}
abbrev zIns:Nat:=47+1
theorem wY(o1:i.av.oneCell'=true):Pur P 0 158 [.agg ⟨xY i⟩] h n (.tuple ⟨[I64 (wrD i),.bool (wrB i)]⟩):=by
 refine Com.pure (ent fun u=>?_) (.inr ⟨_,rfl,rfl⟩);repeat' first|refine wk ?_|refine cX (fun _=>?_) fun _=>?_|fail
 all_goals exact finT (by unfold wrD wrB;simp [*]) zA
theorem defi_pur(o1:i.av.oneCell'=true):Pur P 0 104 [.agg ⟨xY i⟩] h n (I64 (defI i)):=by
 refine Com.pure (ent fun u=>?_) (.inl rfl);repeat' first|refine wk ?_|refine cX (fun _=>?_) fun _=>?_|refine yG (wY o1) ?_|fail
 all_goals exact finT (by unfold defI;simp [*]) zA
theorem reads_ret(o1:i.av.oneCell'=true):Ret P 0 198 [.agg ⟨xY i⟩] h n fun v h' n'=>v = .func (.func 216) ⟨[]⟩ ⟨[ptr n 0]⟩∧n'=n+1∧Cel h' n zIns 0 (xY i)∧Tch [] h n h' n':=by
 refine ent fun u=>?_;repeat' first|refine wk ?_|refine cX (fun _=>?_) fun _=>?_|fail
 exact⟨_,rfl,rfl,rfl,zM,zA⟩
def RdE(lo p:Nat)(i:InsT)(h':zB)(n':Nat):Prop:=lo≤n'∧p<n'∧Cel h' p zIns 0 (xY i)∧InsM lo h' i
theorem reads1_it{lo p L:Nat}:Iter P 0 I64 (rdL i) 216 [.func (.yield L) #[] #[],ptr p 0] L h n (RdE lo p i):=by
 intro J JF hE h0 hy;obtain⟨hlo,hp,hc,hi⟩:=hE _ _ _ h0;refine ent fun u=>?_;by_cases hA:i.kind=2∨i.kind=4∨i.kind=7∨i.kind=9
 · have eL:rdL i=[i.a]:=by unfold rdL;rw [if_pos hA]
   repeat' first|refine wk ?_|refine cX (fun _=>?_) fun _=>?_|fail
   all_goals
    refine inv_yield (fs:=[]) (cs:=[]) ((hy [] i.a _ _ h0 (by rw[eL];exact List.prefix_refl _)).mono ?_)
    rintro _ h2 n2 ⟨hn2,⟨rfl,hJ2⟩|⟨rfl,hF⟩⟩
    · obtain⟨hlo2,hp2,hc2,hi2⟩:=hE _ _ _ hJ2;clear hc;repeat' first|refine wk ?_|refine cX (fun _=>?_) fun _=>?_|fail
      all_goals first|exact⟨rfl,.inl (by rw[eL];exact hJ2)⟩|(exfalso;omega)
    · repeat' first|refine wk ?_|refine cX (fun _=>?_) fun _=>?_|fail
      exact⟨rfl,.inr hF⟩
 by_cases h5:i.kind=5
 · have eL:rdL i=[i.a,i.b]:=by unfold rdL;rw [if_neg hA,if_pos h5]
   repeat' first|refine wk ?_|refine cX (fun _=>?_) fun _=>?_|fail
   refine inv_yield (fs:=[]) (cs:=[]) ((hy [] i.a _ _ h0 (by rw[eL];exact⟨[i.b],rfl⟩)).mono ?_)
   rintro _ h2 n2 ⟨hn2,⟨rfl,hJ2⟩|⟨rfl,hF⟩⟩
   · obtain⟨hlo2,hp2,hc2,hi2⟩:=hE _ _ _ hJ2;clear hc;repeat' first|refine wk ?_|refine cX (fun _=>?_) fun _=>?_|fail
     refine inv_yield (fs:=[]) (cs:=[]) ((hy [i.a] i.b _ _ hJ2 (by rw[eL];exact List.prefix_refl _)).mono ?_)
     rintro _ h3 n3 ⟨hn3,⟨rfl,hJ3⟩|⟨rfl,hF⟩⟩
     · repeat' first|refine wk ?_|refine cX (fun _=>?_) fun _=>?_|fail
       exact⟨rfl,.inl (by rw[eL];exact hJ3)⟩
     · repeat' first|refine wk ?_|refine cX (fun _=>?_) fun _=>?_|fail
       exact⟨rfl,.inr hF⟩
   · repeat' first|refine wk ?_|refine cX (fun _=>?_) fun _=>?_|fail
     exact⟨rfl,.inr hF⟩
 by_cases h36:i.kind=3∨i.kind=6
 · have eL:rdL i=i.args:=by unfold rdL;rw [if_neg hA,if_neg h5,if_pos h36]
   have r0:=hi.ar 0;have hal:=hi.ar.lt;have hinf:inf<4611686018427387904:=by decide
   repeat' first|refine wk ?_|refine cX (fun _=>?_) fun _=>?_|fail
   all_goals
    refine lpR (fun q:Nat=>[(0,.func (.yield L) #[] #[]),(34,i.av),(35,I64 i.args.length),(36,I64 q)]) (fun q h' n'=>q≤i.args.length∧J (i.args.take q) h' n') (fun q=>i.args.length - q) 0 ⟨Nat.zero_le _,h0⟩ ?_;clear hc r0
    rintro q t h' n' ⟨hq,hJ⟩
    obtain⟨hlo2,hp2,hc2,hi2⟩:=hE _ _ _ hJ;have r1:=hi2.ar 0;by_cases hlt:q<i.args.length
    · have c0:i.args[q]? = some i.args[q]:=List.getElem?_eq_getElem hlt;generalize i.args[q]=x at c0
      have c1:=row_e1 r1 c0;have low:=r1.low (by omega);repeat' first|refine wk ?_|refine cX (fun _=>?_) fun _=>?_|fail
      refine inv_yield (fs:=[]) (cs:=[]) ((hy _ x _ _ hJ (by rw[eL,← vX c0];exact List.take_prefix _ _)).mono ?_)
      rintro _ h3 n3 ⟨hn3,⟨rfl,hJ3⟩|⟨rfl,hF⟩⟩
      · repeat' first|refine wk ?_|refine cX (fun _=>?_) fun _=>?_|fail
        exact rnd (q+1) ⟨by omega,by rw[vX c0];exact hJ3⟩
      · repeat' first|refine wk ?_|refine cX (fun _=>?_) fun _=>?_|fail
        exact⟨rfl,.inr hF⟩
    · obtain rfl:q=i.args.length:=by omega
      repeat' first|refine wk ?_|refine cX (fun _=>?_) fun _=>?_|fail
      rw[List.take_length]at hJ;exact⟨rfl,.inl (by rw[eL];exact hJ)⟩
 · have eL:rdL i=[]:=by unfold rdL;rw [if_neg hA,if_neg h5,if_neg h36]
   repeat' first|refine wk ?_|refine cX (fun _=>?_) fun _=>?_|fail
   exact⟨rfl,.inl (by rw[eL];exact h0)⟩
end Go.Proofs.YtcmohelnoldfbaaGreat
namespace Go.Proofs.YtcmohelnoldfbaaGreat
open Go Go.Ex Go.Ex.M
set_option maxRecDepth 100000
set_option maxHeartbeats 8000000
attribute [local simp] yI
abbrev tU:Nat:=168
abbrev tSet:Nat:=93
abbrev tI:Nat:=3
theorem rs1A{ty i b o:Nat}[s:ShC P ty (.agg 1)]{l:List (Nat×Value)}{t:Fr}{h:zB}{x:Value}(e:lk l t i=ptr b o)(c:zJ h b o=some x):Rs P l t h [.cell i ty] [.agg ⟨[x]⟩]:=⟨_,_,rfl,by rw[e];exact load_agg s.ok rfl (by decide) (rowAt.cons c (rowAt.nil _ _ _)),rfl⟩
theorem kep_full{ty e sz lo n len k:Nat}{h:zB}{v:Value}{vs:List Value}[s:SlC P ty e sz](o:Own lo n h v e sz len vs)(hk:k≤len)(hl:len<1000000)(hs:1≤sz):∃v',wS P h ty v none (some (I64 (k:Nat))) (some (I64 (k:Nat)))=some v'∧Kep lo n h v' e sz k (vs.take (k*sz))∧yL v'=yL v:=by
 obtain⟨v',h1,h2,h3,h4⟩:=slice_full (P:=P) (ty:=ty) o hk hl hs;refine⟨v',h1,?_,h3⟩;rcases o with⟨rfl,rfl,rfl⟩|⟨b,q1,q2,rfl,q3,q4,q5,q6⟩
 · have:k=0:=by omega
   subst this;rcases h4 with rfl|⟨b,rfl⟩
   · exact .inl ⟨rfl,rfl,by simp⟩
   · cases h3
 · rcases h4 with rfl|⟨b',rfl⟩
   · cases h3
   · injection h3 with h3
     have h3:b'=b:=h3;subst h3;have hkl:k*sz≤len*sz:=Nat.mul_le_mul_right _ hk;have hinf:(1000000:Nat)≤inf:=by decide
     refine .inr ⟨b',k,vs.length,q1,q2,rfl,q3,by rw[List.length_take];omega,by rw[List.length_take];omega,fun i hi=>?_,.inl ⟨by omega,Nat.le_refl _⟩⟩;rw [List.length_take]at hi;rw [q6 i,List.getElem?_take_of_lt (by omega)]
theorem trimmed_ret{lo n:Nat}{h:zB}{v:Value}{ws:List Nat}(o:Own lo n h v tU 1 ws.length (ws.map U64))(hw:∀w∈ws,w<18446744073709551616)(hl:ws.length≤1024):Ret P 0 97 [v] h n fun r h' n'=>∃sv xs,r = .agg ⟨[sv]⟩∧SetW xs∧(∀k,yE xs k=yE ws k)∧Kep lo n' h' sv tU 1 xs.length (xs.map U64)∧yL sv=yL v∧Tch [] h n h' n':=by
 refine ent fun u=>?_;have r0:=o.row (by decide);repeat' first|refine wk ?_|refine cX (fun _=>?_) fun _=>?_|fail
 refine lpR (fun k:Nat=>[(0,v),(2,ptr n 0),(3,I64 k)]) (fun k h' n'=>Tch [] h n h' n'∧n<n'∧Cel h' n (tSet+1) 0 [.slice none 0 0]∧k≤ws.length∧vG ws k=vG ws ws.length) (fun k=>k) ws.length ⟨zA,by omega,zM,Nat.le_refl _,rfl⟩ ?_
 rintro k t h' n' ⟨ht,hn',hc,hk,htr⟩
 have o':=o.tch ht (by simp);have r':=o'.row (by decide)
 cases k with
 | zero=>
  have e0:vG ws ws.length=0:=by rw[← htr];rfl
  obtain⟨sv,hs,hkr,hb⟩:=kep_full (ty:=91) (k:=0) o' (Nat.zero_le _) (by omega) (by decide);have hs1:=hkr.one;obtain⟨sp,sc,rfl⟩:=(hkr.row (by decide)).sl;repeat' first|refine wk ?_|refine cX (fun _=>?_) fun _=>?_|refine ob (a:=[.agg ⟨[_]⟩]) ?_ (rs1A (by(apply lk_box;((conv=>lhs;whnf) <;> exact rfl))) xM)|fail
  exact⟨_,rfl,_,ws.take (vG ws ws.length),rfl,trim_set hw hl,trim_has ws,by rw[e0];exact hkr.tch (S:=[n]) zA (fun b hb2 hx=>by simp at hx;have:=(o.blk (hb ▸ hb2)).2;omega),hb,zA⟩
 | succ k=>
  have c0:ws[k]? = some ws[k]:=List.getElem?_eq_getElem (by omega);generalize ws[k]=w at c0
  have c1:zJ h' (sbk v) (sof v+k*1)=some (U64 w):=by rw[Nat.mul_one];exact r'.at (by rw[List.getElem?_map,c0];rfl)
  have ek:((k+1:Nat):Int) - 1=(k:Nat):=by omega
  have bn:∀ty ox oy,Bn P .sub ty ox oy (I64 ((k+1:Nat):Int)) (I64 1) (I64 (k:Nat)):=fun ty ox oy=>by rw[← ek];exact bn_sub (by omega)
  by_cases hw0:w=0
  · subst hw0;have hz:vG ws (k+1)=vG ws k:=by rw[show vG ws (k+1)=if ws[k]? = some 0 then vG ws k else k+1 from rfl,if_pos c0]
    repeat' first|refine ob (a:=I64 (k:Nat)) ?_ (bn _ _ _)|refine wk ?_|refine cX (fun _=>?_) fun _=>?_|fail
    exact rnd k ⟨ht,hn',hc,by omega,by rw[← hz];exact htr⟩
  · have hz:vG ws ws.length=k+1:=by rw[← htr,show vG ws (k+1)=if ws[k]? = some 0 then vG ws k else k+1 from rfl,if_neg (by rw[c0];simpa using hw0)]
    obtain⟨sv,hs,hkr,hb⟩:=kep_full (ty:=91) (k:=k+1) o' hk (by omega) (by decide);have hs1:=hkr.one;obtain⟨sp,sc,rfl⟩:=(hkr.row (by decide)).sl;repeat' first|refine ob (a:=I64 (k:Nat)) ?_ (bn _ _ _)|refine ob (a:=[.agg ⟨[_]⟩]) ?_ (rs1A (by(apply lk_box;((conv=>lhs;whnf) <;> exact rfl))) xM)|refine wk ?_|refine cX (fun _=>?_) fun _=>?_|fail
    exact⟨_,rfl,_,ws.take (vG ws ws.length),rfl,trim_set hw hl,trim_has ws,by
     rw[hz,List.length_take,Nat.min_eq_left hk,List.map_take];rw [Nat.mul_one]at hkr;exact hkr.tch (S:=[n]) zA (fun b hb2 hx=>by simp at hx;have:=(o.blk (hb ▸ hb2)).2;omega),hb,zA⟩
theorem max_q{a b:Nat}{tys:List Nat}{h:zB}:Qb P .max tys [I64 (a:Nat),I64 (b:Nat)] h (some (I64 ((max a b:Nat):Int))):=by
 show aMax true (I64 (a:Nat)) [I64 (b:Nat)]=_;unfold aMax;show some (Value.int .i64 (cond (iltB (a:Nat) (b:Nat)) ((b:Nat):Int) ((a:Nat):Int)))=_;rw [iltB_eq];by_cases h9:a<b
 · rw[decide_eq_true (by omega),Nat.max_eq_right (by omega)];rfl
 · rw[decide_eq_false (by omega),Nat.max_eq_left (by omega)];rfl
theorem u_at{ws:List Nat}{i w:Nat}(h:ws[i]? = some w):(ws.map U64)[i]? = some (U64 w):=by rw[List.getElem?_map,h];rfl
theorem of_ret{lo e n:Nat}{h:zB}{sv:Value}{l:List Int}(r:Row lo h sv e 1 l.length (l.map I64))(hlo:lo≤n)(hl:l.length<inf):Ret P 0 41 [sv] h n fun v h' n'=>∃wv ws,v = .agg ⟨[wv]⟩∧SetW ws∧(∀k:Nat,yE ws k=true↔((k:Nat):Int)∈l∧k≤65535)∧Kep n n' h' wv tU 1 ws.length (ws.map U64)∧Tch [] h n h' n':=by
 have hinf:inf<4611686018427387904:=by decide
 have rl:=r.low;refine ent fun u=>?_;repeat' first|refine wk ?_|refine cX (fun _=>?_) fun _=>?_|fail
 refine lpR (α :=Nat×Value×List Nat) (fun a=>[(2,ptr n 0),(3,a.2.1),(6,sv),(7,I64 l.length),(8,I64 a.1)]) (fun a h' n'=>Tch [] h n h' n'∧n<n'∧Cel h' n (tSet+1) 0 [.slice none 0 0]∧a.1≤l.length∧Own (n+1) n' h' a.2.1 tU 1 a.2.2.length (a.2.2.map U64)∧(∀w∈a.2.2,w<18446744073709551616)∧a.2.2.length≤1024∧∀k:Nat,yE a.2.2 k=true↔((k:Nat):Int)∈l.take a.1∧k≤65535) (fun a=>l.length - a.1) (0,.slice none 0 0,[]) ⟨zA,by omega,zM,Nat.zero_le _,Own.nil,fun w hw=>(by cases hw),Nat.zero_le _,fun k=>⟨fun h9=>(by simp[yE]at h9),fun h9=>(by simp at h9)⟩⟩ ?_
 rintro ⟨i,wv,ws⟩ t h' n' ⟨ht,hn',hc,hi,ho,hw,hwl,hh⟩
 dsimp only at hi ho hw hwl hh ⊢;have r':=r.tch ht hlo fun _ _ hx=>(by cases hx);by_cases hlt:i<l.length
 · have c0:l[i]? = some l[i]:=List.getElem?_eq_getElem hlt;generalize l[i]=x at c0
   have c1:=row_e1 r' c0;have nxt:∀k:Nat,((k:Nat):Int)∈l.take (i+1)↔((k:Nat):Int)∈l.take i∨((k:Nat):Int)=x:=fun k=>by rw[vX c0,List.mem_append];simp
   by_cases hx:x<0∨65535<x
   · have done:∀k:Nat,yE ws k=true↔((k:Nat):Int)∈l.take (i+1)∧k≤65535:=fun k=>by
      rw[hh k,nxt k];constructor
      · rintro ⟨h1,h2⟩;exact⟨.inl h1,h2⟩
      · rintro ⟨h1|h1,h2⟩
        · exact⟨h1,h2⟩
        · omega
     rcases hx with hx|hx
     · repeat' first|refine wk ?_|refine cX (fun _=>?_) fun _=>?_|fail
       exact rnd (i+1,wv,ws) ⟨ht,hn',hc,by omega,ho,hw,hwl,done⟩
     · repeat' first|refine wk ?_|refine cX (fun _=>?_) fun _=>?_|fail
       exact rnd (i+1,wv,ws) ⟨ht,hn',hc,by omega,ho,hw,hwl,done⟩
   · obtain⟨a,rfl⟩:=Int.eq_ofNat_of_zero_le (show 0≤x by omega);have ha:a≤65535:=by omega
     repeat' first|refine wk ?_|refine cX (fun _=>?_) fun _=>?_|fail
     refine lpR (α :=Value×List Nat) (fun b=>[(2,ptr n 0),(3,b.1),(5,I64 (a:Nat)),(6,sv),(7,I64 l.length),(8,I64 i)]) (fun b h2 n2=>Tch [] h n h2 n2∧n<n2∧Cel h2 n (tSet+1) 0 [.slice none 0 0]∧Own (n+1) n2 h2 b.1 tU 1 b.2.length (b.2.map U64)∧(∀w∈b.2,w<18446744073709551616)∧b.2.length≤1024∧∀k:Nat,yE b.2 k=yE ws k) (fun b=>1025 - b.2.length) (wv,ws) ⟨ht,hn',hc,ho,hw,hwl,fun _=>rfl⟩ ?_;clear c1 r' ho hw hwl hc ht hn'
     rintro ⟨v2,w2⟩ t h2 n2 ⟨ht,hn',hc,ho,hw,hwl,he⟩
     dsimp only at ho hw hwl he ⊢;have ro:=ho.row (by decide);by_cases hgo:w2.length≤a / 64
     · repeat' first|refine wk ?_|refine cX (fun _=>?_) fun _=>?_|fail
       refine appN (ho.tch (S:=[]) zA (by simp)) (xX (e:=tU) (sz:=1) (len:=1) rfl (by decide)) (by decide) ⟨rfl,trivial⟩ (by omega) ?_
       rintro v3 h3 n3 ho3 ht3
       have hn3:=ht3.le;have ht4:Tch [] h n h3 n3:=Tch.tch ht3 zA fun b hb=>.inl (by have:=xN ho b hb;omega);have hc3:Cel h3 n (tSet+1) 0 [.slice none 0 0]:=(hc.hal (by omega)).tch ht3 (by omega) (fun hx=>by have:=xN ho _ hx;omega);repeat' first|refine wk ?_|refine cX (fun _=>?_) fun _=>?_|fail
       exact⟨(v3,w2++[0]),by dsimp only;rw [List.length_append];simp;omega,(by repeat' first|exact trivial|refine⟨rfl,?_⟩),ht4,by omega,hc3,by rw[List.length_append,List.map_append];exact ho3.dnl (by omega),fun w hw9=>by
        rcases List.mem_append.1 hw9 with h9|h9
        · exact hw w h9
        · simp at h9;subst h9;decide,by rw[List.length_append];simp;omega,fun k=>by rw[has_grow];exact he k⟩
     · have hq:a / 64<w2.length:=by omega
       obtain⟨bb,rfl,hb1,hb2⟩:=own_head ho (by omega);have d0:w2[a / 64]? = some w2[a / 64]:=List.getElem?_eq_getElem hq;have hwl2:w2[a / 64]<18446744073709551616:=hw _ (List.getElem_mem hq);have hgd:(w2[a / 64]?).getD 0=w2[a / 64]:=by rw[d0];rfl
       have hput:=fun k=>has_put (k:=k) hq;rw [hgd]at hput;generalize w2[a / 64]=w at *
       have hlm:(w2.map U64).length=w2.length:=List.length_map _
       have d1:zJ h2 bb (a / 64)=some (U64 w):=by
        have:=ro.at (u_at d0)
        rwa [show sof (.slice (some ⟨bb,0,none⟩) w2.length inf)+a / 64=a / 64 from Nat.zero_add _]at this
       have hpm:2 ^ (a % 64)<18446744073709551616:=Nat.pow_lt_pow_right (by decide) (Nat.mod_lt _ (by decide));have hor:=or_lt hwl2 (Nat.mod_lt a (show 0<64 by decide));have hnb:n≠bb:=by omega
       have iad:Iad 1 (.slice (some ⟨bb,0,none⟩) w2.length inf) (I64 ((a / 64:Nat):Int)) (ptr bb (a / 64)):=⟨bb,0,w2.length,inf,.i64,a / 64,rfl,rfl,hq,by rw[Nat.zero_add,Nat.mul_one]⟩;repeat' first|refine ob (a:=ptr bb (a / 64)) ?_ iad|refine ob (a:=hst _ bb (a / 64) [U64 (w ||| 2 ^ (a % 64))]) ?_ (stp_own ho rfl (by omega) rfl)|refine wk ?_|refine cX (fun _=>?_) fun _=>?_|fail
       have hp:=own_put ho (i:=a / 64) (x:=U64 (w ||| 2 ^ (a % 64))) rfl (by omega);refine⟨(i+1,.slice (some ⟨bb,0,none⟩) w2.length inf,w2.set (a / 64) (w ||| 2 ^ (a % 64))),(by dsimp only;omega),by simpa only[List.length_set] using (by repeat' first|exact trivial|refine⟨rfl,?_⟩),zA,by omega,zC,by omega,by rw[List.length_set,List.map_set];exact hp,fun y hy=>?_,by rw[List.length_set];exact hwl,fun k=>?_⟩
       · rcases List.mem_or_eq_of_mem_set hy with h9|h9
         · exact hw y h9
         · subst h9;exact hor
       · rw[hput k,Bool.or_eq_true,he k,hh k,nxt k,decide_eq_true_eq];constructor
         · rintro (⟨h1,h2⟩|rfl)
           · exact⟨.inl h1,h2⟩
           · exact⟨.inr rfl,ha⟩
         · rintro ⟨h1|h1,h2⟩
           · exact .inl ⟨h1,h2⟩
           · exact .inr (by omega)
 · obtain rfl:i=l.length:=by omega
   repeat' first|refine wk ?_|refine cX (fun _=>?_) fun _=>?_|fail
   refine vM (trimmed_ret ho hw hwl) ?_
   rintro _ h3 n3 ⟨wv2,xs,rfl,s1,s2,s3,s4,ht3⟩
   have hw1:=s3.one;have hn3:=ht3.le;repeat' first|refine wk ?_|refine cX (fun _=>?_) fun _=>?_|refine ob (a:=[.agg ⟨[_]⟩]) ?_ (rs1A (by(apply lk_box;((conv=>lhs;whnf) <;> exact rfl))) xM)|fail
   exact⟨_,rfl,_,xs,rfl,s1,fun k=>by rw[s2 k,hh k,List.take_length],(s3.tch (S:=[n]) zA (fun b hb2 hx=>by simp at hx;have:=(s3.blk hb2).1;omega)).dnl (by omega),zA⟩
end Go.Proofs.YtcmohelnoldfbaaGreat
namespace Go.Proofs.YtcmohelnoldfbaaGreat
open Go Go.Ex Go.Ex.M
set_option maxRecDepth 100000
set_option maxHeartbeats 8000000
theorem zat_pur{lo e n:Nat}{h:zB}{sv:Value}{ws:List Nat}(r:Row lo h sv e 1 ws.length (ws.map U64))(i:Nat):Pur P 0 163 [sv,I64 (i:Nat)] h n (U64 ((ws[i]?).getD 0)):=by
 refine ent fun u=>?_;by_cases hlt:i<ws.length
 · have c0:ws[i]? = some ws[i]:=List.getElem?_eq_getElem hlt;generalize ws[i]=w at c0
   have c1:zJ h (sbk sv) (sof sv+i*1)=some (U64 w):=by rw[Nat.mul_one];exact r.at (u_at c0)
   repeat' first|refine wk ?_|refine cX (fun _=>?_) fun _=>?_|fail
   exact fin (by rw[c0];rfl)
 · repeat' first|refine wk ?_|refine cX (fun _=>?_) fun _=>?_|fail
   exact fin (by rw[List.getElem?_eq_none (by omega)];rfl)
theorem sub1_pur{x y n:Nat}{h:zB}(hx:x<18446744073709551616)(hy:y<18446744073709551616):Pur P 0 152 [U64 x,U64 y] h n (U64 (x ^^^ (x &&& y))):=by
 refine ent fun u=>?_;repeat' first|refine wk ?_|refine cX (fun _=>?_) fun _=>?_|fail
 exact fin rfl
theorem zsub_ret{lo e n:Nat}{h:zB}{av bv:Value}{a b:List Nat}(ra:Row lo h av e 1 a.length (a.map U64))(rb:Row lo h bv e 1 b.length (b.map U64))(hlo:lo≤n)(ha:∀w∈a,w<18446744073709551616)(hb:∀w∈b,w<18446744073709551616)(hal:a.length≤1024)(hbl:b.length≤1024):Ret P 0 107 [av,bv,.func (.func 152) ⟨[]⟩ ⟨[]⟩] h n fun v h' n'=>Own n n' h' v tU 1 (subW a b).length ((subW a b).map U64)∧Tch [] h n h' n':=by
 have hm:max a.length b.length≤1024:=by omega
 have el:(subW a b).length=max a.length b.length:=by unfold subW;simp
 have eat:∀i,i<max a.length b.length→(subW a b)[i]? = some ((a[i]?).getD 0 ^^^ ((a[i]?).getD 0 &&& (b[i]?).getD 0)):=fun i hi=>by unfold subW;rw [List.getElem?_map,List.getElem?_range hi];rfl
 refine ent fun u=>?_;repeat' first|refine wk ?_|refine cX (fun _=>?_) fun _=>?_|refine ob (a:=some (I64 ((max a.length b.length:Nat):Int))) ?_ max_q|fail
 generalize max a.length b.length=M at *
 refine lpR (α :=Nat×Value) (fun q=>[(0,av),(1,bv),(2,.func (.func 152) ⟨[]⟩ ⟨[]⟩),(7,.func (.func 163) ⟨[]⟩ ⟨[]⟩),(8,q.2),(14,I64 M),(15,I64 q.1)]) (fun q h' n'=>Tch [] h n h' n'∧q.1≤M∧Own n n' h' q.2 tU 1 q.1 (((subW a b).take q.1).map U64)) (fun q=>M - q.1) (0,.slice none 0 0) ⟨zA,Nat.zero_le _,Own.nil⟩ ?_
 rintro ⟨i,ov⟩ t h' n' ⟨ht,hi,ho⟩
 dsimp only at hi ho ⊢;have hn':=ht.le;have ra':=ra.tch ht hlo fun _ _ hx=>(by cases hx);have rb':=rb.tch ht hlo fun _ _ hx=>(by cases hx);by_cases hlt:i<M
 · have c0:=eat i hlt;have hxa:=getD_lt ha i;have hxb:=getD_lt hb i;repeat' first|refine wk ?_|refine cX (fun _=>?_) fun _=>?_|refine yG (zat_pur ra' i) ?_|refine yG (zat_pur rb' i) ?_|refine yG (sub1_pur hxa hxb) ?_|fail
   refine appO (ho.tch (S:=[]) zA (by simp)) (xX (e:=tU) (sz:=1) (len:=1) rfl (by decide)) (by omega) ⟨rfl,trivial⟩ (by omega) ?_
   rintro v' h3 n3 ho3 ht3
   have hn3:=ht3.le;have ht4:Tch [] h n h3 n3:=Tch.tch ht3 zA fun x hx=>.inl (xN ho x hx);repeat' first|refine wk ?_|refine cX (fun _=>?_) fun _=>?_|fail
   exact rnd (i+1,v') ⟨ht4,by omega,by rw[vX c0,List.map_append];exact ho3⟩
 · obtain rfl:i=M:=by omega
   repeat' first|refine wk ?_|refine cX (fun _=>?_) fun _=>?_|fail
   exact⟨_,rfl,by rw[el];rwa [List.take_of_length_le (by omega)]at ho,ht⟩
theorem sub_ret{lo e n:Nat}{h:zB}{av bv:Value}{a b:List Nat}(ra:Row lo h av e 1 a.length (a.map U64))(rb:Row lo h bv e 1 b.length (b.map U64))(hlo:lo≤n)(ha:SetW a)(hb:SetW b):Ret P 0 99 [.agg ⟨[av]⟩,.agg ⟨[bv]⟩] h n fun v h' n'=>∃wv ws,v = .agg ⟨[wv]⟩∧SetW ws∧(∀k:Nat,yE ws k=(yE a k && !yE b k))∧Kep n n' h' wv tU 1 ws.length (ws.map U64)∧Tch [] h n h' n':=by
 have o1:=ra.one;have o2:=rb.one;have hal:=ha.le;have hbl:=hb.le;refine ent fun u=>?_;repeat' first|refine wk ?_|refine cX (fun _=>?_) fun _=>?_|fail
 refine vM (zsub_ret (Row.tch (S:=[]) ra zA hlo (by simp)) (Row.tch (S:=[]) rb zA hlo (by simp)) (by omega) ha.lt hb.lt hal hbl) ?_
 rintro z h2 n2 ⟨ho,ht2⟩
 have hn2:=ht2.le;have el:(subW a b).length=max a.length b.length:=by unfold subW;simp
 have hlt:∀w∈subW a b,w<18446744073709551616:=fun w hw=>by
  unfold subW at hw;obtain⟨i,_,rfl⟩:=List.mem_map.1 hw;exact andn_lt (getD_lt ha.lt i)
 have hc2:Cel h2 (n+2) (tSet+1) 0 [.slice none 0 0]:=zM;have htn:Tch [] h n h2 n2:=zA;clear ht2;repeat' first|refine wk ?_|refine cX (fun _=>?_) fun _=>?_|fail
 refine vM (trimmed_ret ho hlt (by omega)) ?_
 rintro _ h3 n3 ⟨wv2,xs,rfl,s1,s2,s3,s4,ht3⟩
 have hw1:=s3.one;have hn3:=ht3.le;repeat' first|refine wk ?_|refine cX (fun _=>?_) fun _=>?_|refine ob (a:=[.agg ⟨[_]⟩]) ?_ (rs1A (by(apply lk_box;((conv=>lhs;whnf) <;> exact rfl))) xM)|fail
 exact⟨_,rfl,_,xs,rfl,s1,fun k=>by rw[s2 k,sub_has],(s3.tch (S:=[n+2]) zA (fun b hb2 hx=>by simp at hx;have:=(s3.blk hb2).1;omega)).dnl (by omega),zA⟩
theorem has_pur{lo e n:Nat}{h:zB}{wv:Value}{ws:List Nat}(r:Row lo h wv e 1 ws.length (ws.map U64))(hlo:lo≤n)(hs:SetW ws)(k:Int)(hk:k<9223372036854775808):Pur P 0 80 [.agg ⟨[wv]⟩,I64 k] h n (.bool (decide (0≤k) && yE ws k.toNat)):=by
 have o1:=r.one;have rl:=r.low;have hle:=hs.le;refine Com.pure (ent fun u=>?_) (.inl rfl);by_cases h0:0≤k
 · obtain⟨a,rfl⟩:=Int.eq_ofNat_of_zero_le h0;have e0:(decide (0≤((a:Nat):Int)) && yE ws ((a:Nat):Int).toNat)=yE ws a:=by rw[decide_eq_true h0];rfl
   by_cases hlt:a / 64<ws.length
   · have c0:ws[a / 64]? = some ws[a / 64]:=List.getElem?_eq_getElem hlt;have hw:=hs.lt _ (List.getElem_mem hlt);generalize ws[a / 64]=w at c0 hw
     have c1:zJ h (sbk wv) (sof wv+a / 64*1)=some (U64 w):=by rw[Nat.mul_one];exact r.at (u_at c0)
     have e1:yE ws a=w.testBit (a % 64):=by unfold yE;rw [c0];rfl
     have hsh:w >>> (a % 64)<18446744073709551616:=Nat.lt_of_le_of_lt (Nat.shiftRight_le w (a % 64)) hw;have hl:=rl (by omega);repeat' first|refine wk ?_|refine cX (fun _=>?_) fun _=>?_|fail
     exact finT (by
      rw[e0,e1];congr 1
      exact Bool.eq_iff_iff.2 (by rw[decide_eq_true_iff];exact bit_has)) zA
   · have e1:yE ws a=false:=by unfold yE;rw [List.getElem?_eq_none (by omega)];simp
     repeat' first|refine wk ?_|refine cX (fun _=>?_) fun _=>?_|fail
     all_goals first|exact finT (by rw[e0,e1]) zA|(exfalso;omega)
 · have e0:(decide (0≤k) && yE ws k.toNat)=false:=by rw[decide_eq_false h0];rfl
   repeat' first|refine wk ?_|refine cX (fun _=>?_) fun _=>?_|fail
   all_goals first|exact finT (by rw[e0]) zA|(exfalso;omega)
end Go.Proofs.YtcmohelnoldfbaaGreat
namespace Go.Proofs.YtcmohelnoldfbaaGreat
open Go Go.Ex Go.Ex.M
set_option maxRecDepth 100000
set_option maxHeartbeats 8000000
theorem zipf_ret{F:FuncId}{g:Nat→Nat→Nat}(hF:∀{x y n:Nat} {h:zB},x<18446744073709551616→y<18446744073709551616→Pur P 0 F [U64 x,U64 y] h n (U64 (g x y))){lo e n:Nat}{h:zB}{av bv:Value}{a b:List Nat}(ra:Row lo h av e 1 a.length (a.map U64))(rb:Row lo h bv e 1 b.length (b.map U64))(hlo:lo≤n)(ha:∀w∈a,w<18446744073709551616)(hb:∀w∈b,w<18446744073709551616)(hal:a.length≤1024)(hbl:b.length≤1024):Ret P 0 107 [av,bv,.func (.func F) ⟨[]⟩ ⟨[]⟩] h n fun v h' n'=>Own n n' h' v tU 1 (zipW g a b).length ((zipW g a b).map U64)∧Tch [] h n h' n':=by
 have hm:max a.length b.length≤1024:=by omega
 have el:(zipW g a b).length=max a.length b.length:=by exact zipW_len
 have eat:∀i,i<max a.length b.length→(zipW g a b)[i]? = some (g ((a[i]?).getD 0) ((b[i]?).getD 0)):=fun i hi=>zipW_at hi;refine ent fun u=>?_;repeat' first|refine wk ?_|refine cX (fun _=>?_) fun _=>?_|refine ob (a:=some (I64 ((max a.length b.length:Nat):Int))) ?_ max_q|fail
 generalize max a.length b.length=M at *
 refine lpR (α :=Nat×Value) (fun q=>[(0,av),(1,bv),(2,.func (.func F) ⟨[]⟩ ⟨[]⟩),(7,.func (.func 163) ⟨[]⟩ ⟨[]⟩),(8,q.2),(14,I64 M),(15,I64 q.1)]) (fun q h' n'=>Tch [] h n h' n'∧q.1≤M∧Own n n' h' q.2 tU 1 q.1 (((zipW g a b).take q.1).map U64)) (fun q=>M - q.1) (0,.slice none 0 0) ⟨zA,Nat.zero_le _,Own.nil⟩ ?_
 rintro ⟨i,ov⟩ t h' n' ⟨ht,hi,ho⟩
 dsimp only at hi ho ⊢;have hn':=ht.le;have ra':=ra.tch ht hlo fun _ _ hx=>(by cases hx);have rb':=rb.tch ht hlo fun _ _ hx=>(by cases hx);by_cases hlt:i<M
 · have c0:=eat i hlt;have hxa:=getD_lt ha i;have hxb:=getD_lt hb i;repeat' first|refine wk ?_|refine cX (fun _=>?_) fun _=>?_|refine yG (zat_pur ra' i) ?_|refine yG (zat_pur rb' i) ?_|refine yG (hF hxa hxb) ?_|fail
   refine appO (ho.tch (S:=[]) zA (by simp)) (xX (e:=tU) (sz:=1) (len:=1) rfl (by decide)) (by omega) ⟨rfl,trivial⟩ (by omega) ?_
   rintro v' h3 n3 ho3 ht3
   have hn3:=ht3.le;have ht4:Tch [] h n h3 n3:=Tch.tch ht3 zA fun x hx=>.inl (xN ho x hx);repeat' first|refine wk ?_|refine cX (fun _=>?_) fun _=>?_|fail
   exact rnd (i+1,v') ⟨ht4,by omega,by rw[vX c0,List.map_append];exact ho3⟩
 · obtain rfl:i=M:=by omega
   repeat' first|refine wk ?_|refine cX (fun _=>?_) fun _=>?_|fail
   exact⟨_,rfl,by rw[el];rwa [List.take_of_length_le (by omega)]at ho,ht⟩
end Go.Proofs.YtcmohelnoldfbaaGreat
namespace Go.Proofs.YtcmohelnoldfbaaGreat
open Go Go.Ex Go.Ex.M
set_option maxRecDepth 100000
set_option maxHeartbeats 8000000
theorem or1_pur{x y n:Nat}{h:zB}(hx:x<18446744073709551616)(hy:y<18446744073709551616):Pur P 0 108 [U64 x,U64 y] h n (U64 (x ||| y)):=by
 refine ent fun u=>?_;repeat' first|refine wk ?_|refine cX (fun _=>?_) fun _=>?_|fail
 exact fin rfl
theorem or_ret{lo e n:Nat}{h:zB}{av bv:Value}{a b:List Nat}(ra:Row lo h av e 1 a.length (a.map U64))(rb:Row lo h bv e 1 b.length (b.map U64))(hlo:lo≤n)(ha:SetW a)(hb:SetW b):Ret P 0 49 [.agg ⟨[av]⟩,.agg ⟨[bv]⟩] h n fun v h' n'=>∃wv ws,v = .agg ⟨[wv]⟩∧SetW ws∧(∀k:Nat,yE ws k=(yE a k || yE b k))∧Kep n n' h' wv tU 1 ws.length (ws.map U64)∧Tch [] h n h' n':=by
 have o1:=ra.one;have o2:=rb.one;have hal:=ha.le;have hbl:=hb.le;refine ent fun u=>?_;repeat' first|refine wk ?_|refine cX (fun _=>?_) fun _=>?_|fail
 refine vM (zipf_ret (g:=(· ||| ·)) (fun hx hy=>or1_pur hx hy) (Row.tch (S:=[]) ra zA hlo (by simp)) (Row.tch (S:=[]) rb zA hlo (by simp)) (by omega) ha.lt hb.lt hal hbl) ?_
 rintro z h2 n2 ⟨ho,ht2⟩
 have hn2:=ht2.le;have el:(zipW (· ||| ·) a b).length=max a.length b.length:=zipW_len
 have hlt:∀w∈zipW (· ||| ·) a b,w<18446744073709551616:=fun w hw=>by
  unfold zipW at hw;obtain⟨i,_,rfl⟩:=List.mem_map.1 hw;exact orn_lt (getD_lt ha.lt i) (getD_lt hb.lt i)
 have hc2:Cel h2 (n+2) (tSet+1) 0 [.slice none 0 0]:=zM;have htn:Tch [] h n h2 n2:=zA;clear ht2;repeat' first|refine wk ?_|refine cX (fun _=>?_) fun _=>?_|fail
 refine vM (trimmed_ret ho hlt (by omega)) ?_
 rintro _ h3 n3 ⟨wv2,xs,rfl,s1,s2,s3,s4,ht3⟩
 have hw1:=s3.one;have hn3:=ht3.le;repeat' first|refine wk ?_|refine cX (fun _=>?_) fun _=>?_|refine ob (a:=[.agg ⟨[_]⟩]) ?_ (rs1A (by(apply lk_box;((conv=>lhs;whnf) <;> exact rfl))) xM)|fail
 exact⟨_,rfl,_,xs,rfl,s1,fun k=>by rw[s2 k,or_has],(s3.tch (S:=[n+2]) zA (fun b hb2 hx=>by simp at hx;have:=(s3.blk hb2).1;omega)).dnl (by omega),zA⟩
end Go.Proofs.YtcmohelnoldfbaaGreat
namespace Go.Proofs.YtcmohelnoldfbaaGreat
open Go Go.Ex Go.Ex.M
set_option maxRecDepth 100000
set_option maxHeartbeats 8000000
attribute [local simp] yI
variable {n lo:Nat} {h:zB} {i:InsT}
theorem own_off{lo n e sz len L:Nat}{h:zB}{v:Value}{vs:List Value}(o:Own lo n h v e sz len vs)(hL:L<lo):∀b,yL v=some b→b∉[L]:=fun b hb hx=>by simp at hx;have:=(o.blk hb).1;omega
theorem xO{lo n e sz len L:Nat}{h:zB}{v:Value}{vs:List Value}(o:Own lo n h v e sz len vs)(hL:L<lo):L∉(yL v).toList:=fun hx=>by have:=xN o _ hx;omega
theorem own_of2{lo n e sz len L K:Nat}{h:zB}{v:Value}{vs:List Value}(o:Own lo n h v e sz len vs)(hL:L<lo)(hK:K<lo):∀b,yL v=some b→b∉[L,K]:=fun b hb hx=>by simp at hx;have:=(o.blk hb).1;omega
theorem uses_ret(hi:InsM lo h i)(hlo:lo≤n)(hl:(rdL i).length≤1000):Ret P 0 157 [.agg ⟨xY i⟩] h n fun v h' n'=>Own n n' h' v tI 1 (rdL i).length ((rdL i).map I64)∧Tch [] h n h' n':=by
 have o1:=(hi.ar 0).one;refine ent fun u=>?_;repeat' first|refine wk ?_|refine cX (fun _=>?_) fun _=>?_|fail
 refine vM (reads_ret o1) ?_
 rintro _ h2 n2 ⟨rfl,e2,c2,t2⟩
 have hn2:=t2.le;have cO:Cel h2 (n+1) (45+1) 0 [.slice none 0 0]:=zM;have base:Tch [] h n (hal h2 n2 (.deferred true)) (n2+1):=zA;clear t2;repeat' first|refine wk ?_|refine cX (fun _=>?_) fun _=>?_|fail
 refine wc_rg0 (g:=216) (fs:=[]) (cs:=[ptr (n+1+1) 0]) (by(apply ev_box;((conv=>lhs;whnf) <;> exact rfl))) ?_
 refine it_core (enc:=I64) (elems:=rdL i) (ps:=[7]) (fun done h' n'=>Tch [n+1] (hal h2 n2 (.deferred true)) (n2+1) h' n'∧n2+2≤n'∧∃v,Cel h' (n+1) (45+1) 0 [v]∧Own (n2+2) n' h' v tI 1 done.length (done.map I64))
  (fun j h' n'=>False) rfl (reads1_it (lo:=lo) (p:=n+1+1)) ?_ obe_ask ⟨zA,by omega,_,zC,Own.nil⟩ ?_ ?_ ?_
 · rintro done h' n' ⟨ht,hn',_⟩
   have t0:Tch [] h n h' n':=Tch.tch ht base (by simp);exact⟨by omega,by omega,c2.tch (Tch.tch ht (S:=[n+1]) zA (by simp)) (by omega) (by simp),hi.tch t0 hlo⟩
 · rintro done x h' n' ⟨ht,hn',v,hc,ho⟩ hL hpre
   have hdl:(done++[x]).length≤1000:=Nat.le_trans hpre.length_le hl;rw [List.length_append]at hdl;have o2:=ho.one;repeat' first|refine wk ?_|refine cX (fun _=>?_) fun _=>?_|fail
   refine appO (ho.tch (S:=[n2+1]) zA (own_off ho (by omega))) (xX (e:=tI) (sz:=1) (len:=1) rfl (by decide)) (by omega) ⟨rfl,trivial⟩ (by simp at hdl ⊢;omega) ?_
   rintro v' h3 n3 ho3 ht3
   have hn3:=ht3.le;have o3:=ho3.one;have hB:=obe_tch (L:=n2+1) ht3 (by omega) (xO ho (by omega)) (obe_hal (by omega) vF);have c3:Cel h3 (n+1) (45+1) 0 [v]:=Cel.tch zC ht3 (by omega) (xO (L:=n+1) ho (by omega));have ht4:Tch [n+1] (hal h2 n2 (.deferred true)) (n2+1) h3 n3:=Tch.tch ht3 zA fun x hx=>.inl (by have:=xN ho x hx;omega);clear ht3;repeat' first|refine wk ?_|refine cX (fun _=>?_) fun _=>?_|fail
   exact⟨by omega,.inl ⟨rfl,vF,zA,by omega,_,zM,by rw[List.length_append,List.map_append];exact ho3.tch (S:=[n+1,n2+1]) zA (own_of2 ho3 (by omega) (by omega))⟩⟩
 · rintro h' n' ⟨ht,hn',v,hc,ho⟩
   have o2:=ho.one;repeat' first|refine wk ?_|refine cX (fun _=>?_) fun _=>?_|fail
   exact⟨_,rfl,(ho.tch (S:=[n2+1,n2]) zA (own_of2 ho (by omega) (by omega))).dnl (by omega),zA⟩
 · rintro j h' n' hf
   exact hf.elim
structure SetK (lo n:Nat) (h:zB) (wv:Value) (ws:List Nat):Prop where
 s:SetW ws
 k:Kep lo n h wv tU 1 ws.length (ws.map U64)
theorem SetK.row{m:Nat}{wv:Value}{ws:List Nat}(s:SetK lo m h wv ws):Row m h wv tU 1 ws.length (ws.map U64):=s.k.row (by decide)
theorem SetK.tch{S:List Nat}{m m':Nat}{h':zB}{wv:Value}{ws:List Nat}(s:SetK lo m h wv ws)(t:Tch S h m h' m')(hS:∀b∈S,b<lo):SetK lo m' h' wv ws:=⟨s.s,s.k.tch t fun b hb hx=>by have h1:=(s.k.blk hb).1;have h2:=hS b hx;omega⟩
theorem SetK.tch0{m m':Nat}{h':zB}{wv:Value}{ws:List Nat}(s:SetK lo m h wv ws)(t:Tch [] h m h' m'):SetK lo m' h' wv ws:=s.tch t fun _ hb=>by cases hb
theorem SetK.dnl{lo' m:Nat}{wv:Value}{ws:List Nat}(s:SetK lo m h wv ws)(hl:lo'≤lo):SetK lo' m h wv ws:=⟨s.s,s.k.dnl hl⟩
theorem wM{m:Nat}:SetK lo m h (.slice none 0 0) []:=⟨⟨fun w hw=>(by cases hw),fun w hw=>(by cases hw),Nat.zero_le _⟩,.inl ⟨rfl,rfl,rfl⟩⟩
abbrev RSet(n:Nat)(h:zB)(f:Nat→Bool)(v:Value)(h':zB)(n':Nat):Prop:=∃wv ws,v = .agg ⟨[wv]⟩∧(∀k,yE ws k=f k)∧SetK n n' h' wv ws∧Tch [] h n h' n'
theorem has_lt{ws:List Nat}(hs:SetW ws){k:Nat}(h:yE ws k=true):k≤65535:=by
 have h1:=hs.le;rcases Nat.lt_or_ge (k / 64) ws.length with h2|h2
 · omega
 · unfold yE at h;rw [List.getElem?_eq_none h2]at h;simp at h
theorem without_ret{wv:Value}{ws:List Nat}(sk:SetK lo n h wv ws)(d:Int):Ret P 0 50 [.agg ⟨[wv]⟩,I64 d] h n (RSet n h fun k=>yE ws k && !decide (d=(k:Nat))):=by
 have o1:=sk.k.one;have rk:=sk.row;refine ent fun u=>?_;repeat' first|refine wk ?_|refine cX (fun _=>?_) fun _=>?_|fail
 refine vM (of_ret (l:=[d]) (lo:=n+1+1+1) (xX (e:=tI) (sz:=1) (len:=1) rfl (by decide)) (Nat.le_refl _) (by show 1<inf;decide)) ?_
 rintro _ h2 n2 ⟨v2,s2,rfl,q1,q2,q3,t2⟩
 have hn2:=t2.le;have o2:=q3.one;have r2:=q3.row (by decide);have cS:Cel h2 n (tSet+1) 0 [wv]:=zM;have cR:Cel h2 (n+1) (tSet+1) 0 [.slice none 0 0]:=zM;have t02:Tch [] h n h2 n2:=zA;clear t2;have k2:=sk.tch0 t02;repeat' first|refine wk ?_|refine cX (fun _=>?_) fun _=>?_|fail
 refine vM (sub_ret k2.row (q3.row (by decide)) (Nat.le_refl _) sk.s q1) ?_
 rintro _ h3 n3 ⟨v3,s3,rfl,u1,u2,u3,t3⟩
 have hn3:=t3.le;have o3:=u3.one;have r3:=u3.row (by decide);repeat' first|refine wk ?_|refine cX (fun _=>?_) fun _=>?_|refine ob (a:=[.agg ⟨[_]⟩]) ?_ (rs1A (by(apply lk_box;((conv=>lhs;whnf) <;> exact rfl))) xM)|fail
 refine⟨_,rfl,v3,s3,rfl,fun k=>?_,⟨u1,(u3.tch (S:=[n+1]) zA fun b hb hx=>?_).dnl (by omega)⟩,zA⟩
 · show yE s3 k=(yE ws k && !decide (d=(k:Nat)));rw [u2]
   cases e:yE ws k with
   | false=>rfl
   | true=>
    have h9:=has_lt sk.s e;have:yE s2 k=decide (d=(k:Nat)):=Bool.eq_iff_iff.2 (by rw[q2,decide_eq_true_iff,List.mem_singleton];exact⟨fun h8=>h8.1.symm,fun h8=>⟨h8.symm,h9⟩⟩);rw [this]
 · simp at hx;have:=(u3.blk hb).1;omega
theorem back_ret{lo':Nat}{wv:Value}{ws:List Nat}(k:SetK lo' n h wv ws)(hi:InsM lo h i)(hlo:lo≤n)(hl:(rdL i).length≤1000)(hr:∀x∈rdL i,x≤65535):Ret P 0 103 [.agg ⟨[wv]⟩,.agg ⟨xY i⟩] h n (RSet n h (backP (defI i) (rdL i) (yE ws))):=by
 have o1:=k.k.one;have rk:=k.row;have ra:=hi.ar 0;have o0:=ra.one;refine ent fun u=>?_;repeat' first|refine wk ?_|refine cX (fun _=>?_) fun _=>?_|refine yG (defi_pur o0) ?_|fail
 refine vM (without_ret (k.tch0 zA) _) ?_
 rintro _ h2 n2 ⟨v2,s2,rfl,q1,q2,t2⟩
 have hn2:=t2.le;have o2:=q2.k.one;have r2:=q2.row;have cI:Cel h2 (n+1) zIns 0 (xY i):=zM;have cR:Cel h2 (n+1+1) (tSet+1) 0 [.slice none 0 0]:=zM;have t02:Tch [] h n h2 n2:=zA;clear t2;repeat' first|refine wk ?_|refine cX (fun _=>?_) fun _=>?_|fail
 refine vM (uses_ret (hi.tch t02 hlo) (by omega) hl) ?_
 rintro v3 h3 n3 ⟨u1,t3⟩
 have hn3:=t3.le;have o3:=u1.one;have r3:=u1.row (by decide);have cI:Cel h3 (n+1) zIns 0 (xY i):=cI.tch t3 (by omega) (by simp);have cR:Cel h3 (n+1+1) (tSet+1) 0 [.slice none 0 0]:=cR.tch t3 (by omega) (by simp);have t03:Tch [] h n h3 n3:=Tch.tch t3 t02 (by simp);have q3:=q2.tch0 t3;clear t3 t02;repeat' first|refine wk ?_|refine cX (fun _=>?_) fun _=>?_|fail
 refine vM (of_ret (u1.row (by decide)) (Nat.le_refl _) (by unfold inf;omega)) ?_
 rintro _ h4 n4 ⟨v4,s4,rfl,w1,w2,w3,t4⟩
 have hn4:=t4.le;have o4:=w3.one;have r4:=w3.row (by decide);have cR:Cel h4 (n+1+1) (tSet+1) 0 [.slice none 0 0]:=cR.tch t4 (by omega) (by simp);have t04:Tch [] h n h4 n4:=Tch.tch t4 t03 (by simp);have q4:=q3.tch0 t4;clear t4 t03;repeat' first|refine wk ?_|refine cX (fun _=>?_) fun _=>?_|fail
 refine vM (or_ret q4.row (w3.row (by decide)) (Nat.le_refl _) q4.s w1) ?_
 rintro _ h5 n5 ⟨v5,s5,rfl,y1,y2,y3,t5⟩
 have hn5:=t5.le;have o5:=y3.one;have r5:=y3.row (by decide);repeat' first|refine wk ?_|refine cX (fun _=>?_) fun _=>?_|refine ob (a:=[.agg ⟨[_]⟩]) ?_ (rs1A (by(apply lk_box;((conv=>lhs;whnf) <;> exact rfl))) xM)|fail
 refine⟨_,rfl,v5,s5,rfl,fun k=>?_,⟨y1,(y3.tch (S:=[n+1+1]) zA fun b hb hx=>?_).dnl (by omega)⟩,zA⟩
 · rw[y2,q1];unfold backP;congr 1
   refine Bool.eq_iff_iff.2 ?_;rw [w2,decide_eq_true_iff];exact⟨fun h9=>h9.1,fun h9=>⟨h9,by have:=hr _ h9;omega⟩⟩
 · simp at hx;have:=(y3.blk hb).1;omega
end Go.Proofs.YtcmohelnoldfbaaGreat
namespace Go.Proofs.YtcmohelnoldfbaaGreat
open Go Go.Ex Go.Ex.M
set_option maxRecDepth 100000
set_option maxHeartbeats 8000000
attribute [local simp] yI
variable {n:Nat} {h:zB}
structure TabL (h:zB):Prop where
 bt:Cel h 362 96 0 btC
 oB:Cel h 351 6156 1 oBC
 cB:MpS h 477 [([103],I64 (0))]
 rB:MpS h 440 [([114,48,48],I64 (0)),([114,48,49],I64 (1)),([114,48,50],I64 (2)),([114,48,51],I64 (3))]
 qB:MpS h 478 [([97,100,100],I64 (0)),([110,111,116],I64 (1)),([100,105,118],I64 (2))]
 iB:Cel h 467 8929 1 iBC
 mB:Cel h 617 8189 1 mBC
 aB:Cel h 564 19 1 aBC
 uB:Cel h 355 5110 1 uBC
 wB:Cel h 464 28729 1 wBC
theorem tabL(t:Tch [] tbH 625 h n):TabL h:=⟨bt_cel.tch t (by decide) (by simp),oB_cel.tch t (by decide) (by simp),cB_map.tch t (by decide) (by simp),rB_map.tch t (by decide) (by simp),qB_map.tch t (by decide) (by simp),iB_cel.tch t (by decide) (by simp),mB_cel.tch t (by decide) (by simp),aB_cel.tch t (by decide) (by simp),uB_cel.tch t (by decide) (by simp),wB_cel.tch t (by decide) (by simp)⟩
theorem cls4(k:TabL h):Pur P 0 29 [ptr 362 0,str [103]] h n (.tuple ⟨[I64 0,.bool true]⟩):=by
 have hcel:=k.bt;have lk:yH P h 88 (.map (some 477)) (str [103]) true=some (.tuple ⟨[I64 0,.bool true]⟩):=lku_at (P:=P) (ty:=88) (ok:=true) (A:=[]) (B:=[]) k.cB (fun p hp=>by cases hp);refine ent fun u=>?_;repeat' first|refine wk ?_|refine cX (fun _=>?_) fun _=>?_|fail
 exact fin rfl
theorem op4(k:TabL h):Pur P 0 228 [ptr 362 0,str [97,100,100]] h n (.tuple ⟨[I64 (0:Nat),.bool true]⟩):=by
 have hcel:=k.bt;have lk:yH P h 88 (.map (some 478)) (str [97,100,100]) true=some (.tuple ⟨[I64 (0:Nat),.bool true]⟩):=lku_at (P:=P) (ty:=88) (ok:=true) (A:=[]) k.qB (fun p hp=>by cases hp);refine ent fun u=>?_;repeat' first|refine wk ?_|refine cX (fun _=>?_) fun _=>?_|fail
 exact fin rfl
theorem res4(k:TabL h):Pur P 0 192 [ptr 362 0] h n (I64 (0:Nat)):=by
 have hcel:=k.bt;have lk:yH P h 88 (.map (some 440)) (str [114,48,48]) false=some (I64 (0:Nat)):=lku_at (P:=P) (ty:=88) (ok:=false) (A:=[]) k.rB (fun p hp=>by cases hp);refine ent fun u=>?_;repeat' first|refine wk ?_|refine cX (fun _=>?_) fun _=>?_|fail
 exact fin rfl
theorem at4{b len:Nat}{cap:Nat}{i:Nat}(hi:i<len)(hl:len<100):Pur P 0 79 [.slice (some ⟨b,0,none⟩) len cap,I64 (i:Nat)] h n (.bool true):=by
 refine ent fun u=>?_;repeat' first|refine wk ?_|refine cX (fun _=>?_) fun _=>?_|fail
 exact fin (by rw[decide_eq_true (by omega)])
theorem ato4{b len:Nat}{cap:Nat}{i:Nat}(hi:i<len)(hl:len<100):Pur P 0 237 [.slice (some ⟨b,0,none⟩) len cap,I64 (i:Nat)] h n (.bool true):=by
 refine ent fun u=>?_;repeat' first|refine wk ?_|refine cX (fun _=>?_) fun _=>?_|fail
 exact fin (by rw[decide_eq_true (by omega)])
theorem ats4{b len:Nat}{cap:Nat}{i:Nat}(hi:i<len)(hl:len<100):Pur P 0 238 [.slice (some ⟨b,0,none⟩) len cap,I64 (i:Nat)] h n (.bool true):=by
 refine ent fun u=>?_;repeat' first|refine wk ?_|refine cX (fun _=>?_) fun _=>?_|fail
 exact fin (by rw[decide_eq_true (by omega)])
theorem uses4(k:TabL h):Pur P 0 229 [ptr 362 0,I64 (0:Nat)] h n (I64 (2:Nat)):=by
 have hcel:=k.bt;have ho:=k.oB;refine ent fun u=>?_;repeat' first|refine wk ?_|refine cX (fun _=>?_) fun _=>?_|refine yG (ato4 (by decide) (by decide)) ?_|fail
 exact fin rfl
theorem set15:SetW [15]:=⟨fun w hw=>by simp at hw;omega,fun w hw=>by simp at hw;omega,by decide⟩
theorem in4(k:TabL h)(hn:625≤n):Pur P 0 190 [ptr 362 0,I64 (0:Nat),I64 (0:Nat)] h n (.bool true):=by
 have hcel:=k.bt;have ho:=k.iB;have rw4:Row 625 h (.slice (some ⟨464,0,none⟩) 1 1) tU 1 1 ([15].map U64):=.inr ⟨464,0,1,1,28729,1,by decide,rfl,rfl,k.wB.1,by decide,fun j v e=>by rw[Nat.zero_add];exact(k.wB.2 j).trans e,.inl ⟨by decide,by decide⟩⟩;have hh:=has_pur (n:=n) (ws:=[15]) rw4 hn set15 (0:Nat) (by decide);have e0:(decide ((0:Int)≤((0:Nat):Int)) && yE [15] ((0:Nat):Int).toNat)=true:=by decide
 rw[e0]at hh;refine Com.pure (ent fun u=>?_) (.inl rfl);repeat' first|refine wk ?_|refine cX (fun _=>?_) fun _=>?_|refine yG (at4 (by decide) (by decide)) ?_|refine yG hh ?_|fail
 exact finT rfl zA
theorem oper0(k:TabL h):Pur P 0 230 [ptr 362 0,I64 (0:Nat),I64 (0:Nat)] h n (I64 (0:Nat)):=by
 have hcel:=k.bt;have ho:=k.oB;have hm:=k.mB;have lk:yH P h 88 (.map (some 477)) (str [103]) false=some (I64 (0:Nat)):=lku_at (P:=P) (ty:=88) (ok:=false) (A:=[]) (B:=[]) k.cB (fun p hp=>by cases hp);refine ent fun u=>?_;repeat' first|refine wk ?_|refine cX (fun _=>?_) fun _=>?_|refine yG (at4 (by decide) (by decide)) ?_|refine yG (ats4 (by decide) (by decide)) ?_|fail
 exact fin rfl
theorem oper1(k:TabL h):Pur P 0 230 [ptr 362 0,I64 (0:Nat),I64 (1:Nat)] h n (I64 (0:Nat)):=by
 have hcel:=k.bt;have ho:=k.oB;have hm:=k.mB;have hu:=k.uB;have bs:∀ty ox oy,Bn P .sub ty ox oy (I64 ((1:Nat):Int)) (I64 1) (I64 ((1 - 1:Nat):Int)):=fun _ _ _=>bn_sub (by decide);have lk:yH P h 88 (.map (some 477)) (str [103]) false=some (I64 (0:Nat)):=lku_at (P:=P) (ty:=88) (ok:=false) (A:=[]) (B:=[]) k.cB (fun p hp=>by cases hp);refine ent fun u=>?_;repeat' first|refine ob (a:=I64 ((1 - 1:Nat):Int)) ?_ (bs _ _ _)|refine yG (at4 (by decide) (by decide)) ?_|refine yG (ats4 (by decide) (by decide)) ?_|refine wk ?_|refine cX (fun _=>?_) fun _=>?_|fail
 exact fin rfl
theorem oper2(k:TabL h):Pur P 0 230 [ptr 362 0,I64 (0:Nat),I64 (2:Nat)] h n (I64 (0:Nat)):=by
 have hcel:=k.bt;have ho:=k.oB;have hm:=k.mB;have hu:=k.uB;have bs:∀ty ox oy,Bn P .sub ty ox oy (I64 ((2:Nat):Int)) (I64 1) (I64 ((2 - 1:Nat):Int)):=fun _ _ _=>bn_sub (by decide);have lk:yH P h 88 (.map (some 477)) (str [103]) false=some (I64 (0:Nat)):=lku_at (P:=P) (ty:=88) (ok:=false) (A:=[]) (B:=[]) k.cB (fun p hp=>by cases hp);refine ent fun u=>?_;repeat' first|refine ob (a:=I64 ((2 - 1:Nat):Int)) ?_ (bs _ _ _)|refine yG (at4 (by decide) (by decide)) ?_|refine yG (ats4 (by decide) (by decide)) ?_|refine wk ?_|refine cX (fun _=>?_) fun _=>?_|fail
 exact fin rfl
theorem oper4(k:TabL h){q:Nat}(hq:q<2):Pur P 0 230 [ptr 362 0,I64 (0:Nat),I64 ((q:Nat)+1)] h n (I64 (0:Nat)):=by
 rcases q with _|_|q
 · exact oper1 k
 · exact oper2 k
 · omega
theorem args4(k:TabL h)(hn:625≤n):Ret P 0 188 [ptr 362 0] h n fun v h' n'=>OwnE n n' h' v tI 1 1 [I64 (0:Nat)]∧Tch [] h n h' n':=by
 have hcel:=k.bt;have rw4:Row 625 h (.slice (some ⟨564,0,none⟩) 1 inf) tI 1 1 [I64 (0:Nat)]:=.inr ⟨564,0,inf,1,19,1,by decide,rfl,rfl,k.aB.1,by decide,fun j v e=>by rw[Nat.zero_add];exact(k.aB.2 j).trans e,.inr ⟨rfl,rfl,rfl,by decide⟩⟩;refine ent fun u=>?_;repeat' first|refine wk ?_|refine cX (fun _=>?_) fun _=>?_|fail
 refine vM (clone_int (lo:=625) rw4 hn (fun y hy=>by simp at hy;subst hy;rfl) (by decide)) ?_
 rintro w h2 n2 ⟨ho,ht⟩
 have o2:=(ho.row (by decide)).one;repeat' first|refine wk ?_|refine cX (fun _=>?_) fun _=>?_|fail
 exact⟨_,rfl,ho,ht⟩
end Go.Proofs.YtcmohelnoldfbaaGreat
namespace Go.Proofs.YtcmohelnoldfbaaGreat
open Go Go.Ex Go.Ex.M
set_option maxRecDepth 100000
set_option maxHeartbeats 8000000
attribute [local simp] yI
variable {n lo:Nat} {h:zB} {wv:Value} {ws:List Nat}
def bitU(ws:List Nat)(m:Nat):List Nat:=(List.range m).filter (yE ws)
abbrev bitN(ws:List Nat):List Nat:=bitU ws (64*ws.length)
theorem bitU_t{m:Nat}(h:yE ws m=true):bitU ws (m+1)=bitU ws m++[m]:=by unfold bitU;rw [List.range_succ,List.filter_append];simp [h]
theorem bitU_f{m:Nat}(h:yE ws m=false):bitU ws (m+1)=bitU ws m:=by unfold bitU;rw [List.range_succ,List.filter_append];simp [h]
theorem bitU_pre{m:Nat}(hm:m<64*ws.length)(h:yE ws m=true):bitU ws m++[m] <+: bitN ws:=by
 rw[← bitU_t h];show _ <+: bitU ws (64*ws.length);unfold bitU;rw [show List.range (m+1)=(List.range (64*ws.length)).take (m+1) by rw[List.take_range,Nat.min_eq_left hm]];exact(List.take_prefix _ _).filter _
theorem bitU_len(m:Nat):(bitU ws m).length≤m:=by unfold bitU;exact Nat.le_trans (List.length_filter_le _ _) (by rw[List.length_range];exact Nat.le_refl _)
theorem hasW_at{i k:Nat}{w:Nat}(hi:ws[i]? = some w)(hk:k<64):yE ws (64*i+k)=w.testBit k:=by unfold yE;rw [show(64*i+k) / 64=i by omega,show(64*i+k) % 64=k by omega,hi];rfl
theorem bn_mul64{P:Program}{ty:Nat}{ox oy:Operand}{a:Nat}(h:a<100000):Bn P .mul ty ox oy (I64 (a:Nat)) (I64 64) (I64 ((64*a:Nat):Int)):=by
 unfold Bn;rw [binI];show some (Value.int .i64 (wC .i64 (Int.mul (a:Nat) 64)))=_;have e:Int.mul ((a:Nat):Int) 64=((64*a:Nat):Int):=by show((a:Nat):Int)*64=_;omega
 rw[e,wrap_in ⟨by omega,by omega⟩]
def EaE(lo p:Nat)(wv:Value)(ws:List Nat)(h':zB)(n':Nat):Prop:=lo≤n'∧p<n'∧Cel h' p (tSet+1) 0 [wv]∧Row lo h' wv tU 1 ws.length (ws.map U64)
abbrev natV(k:Nat):Value:=I64 (k:Nat)
theorem each1_it{p L:Nat}(hs:SetW ws):Iter P 0 natV (bitN ws) 164 [.func (.yield L) #[] #[],ptr p 0] L h n (EaE lo p wv ws):=by
 intro J JF hE h0 hy;obtain⟨hlo,hp,hc,r0⟩:=hE _ _ _ h0;have hle:=hs.le;refine ent fun u=>?_;repeat' first|refine wk ?_|refine cX (fun _=>?_) fun _=>?_|fail
 refine lpR (fun q:Nat=>[(0,.func (.yield L) #[] #[]),(7,wv),(8,I64 ws.length),(9,I64 q)]) (fun q h' n'=>q≤ws.length∧J (bitU ws (64*q)) h' n') (fun q=>ws.length - q) 0 ⟨Nat.zero_le _,h0⟩ ?_;clear hc r0
 rintro i t h' n' ⟨hi,hJ⟩
 obtain⟨hlo2,hp2,hc2,r1⟩:=hE _ _ _ hJ;by_cases hlt:i<ws.length
 · have c0:ws[i]? = some ws[i]:=List.getElem?_eq_getElem hlt;have hw:=hs.lt _ (List.getElem_mem hlt);generalize ws[i]=w at c0 hw
   have c1:zJ h' (sbk wv) (sof wv+i*1)=some (U64 w):=by rw[Nat.mul_one];exact r1.at (u_at c0)
   have low:=r1.low (by omega);repeat' first|refine wk ?_|refine cX (fun _=>?_) fun _=>?_|fail
   refine lpR (fun k:Nat=>[(0,.func (.yield L) #[] #[]),(3,I64 i),(4,U64 w),(7,wv),(8,I64 ws.length),(9,I64 i),(14,I64 k)]) (fun k h' n'=>k≤64∧J (bitU ws (64*i+k)) h' n') (fun k=>64 - k) 0 ⟨Nat.zero_le _,hJ⟩ ?_;clear hc2 r1 c1 hlo2 hp2
   rintro k t h' n' ⟨hk,hJ⟩
   by_cases hk64:k<64
   · have hb:=hasW_at c0 hk64;have hsh:w >>> k<18446744073709551616:=Nat.lt_of_le_of_lt (Nat.shiftRight_le w k) hw
     cases hbit:w.testBit k with
     | true=>
      have hd:((((w >>> k) &&& 1:Nat):Int)≠0):=bit_has.2 hbit;rw [hbit]at hb;repeat' first|refine wk ?_|refine cX (fun _=>?_) fun _=>?_|refine ob (a:=I64 ((64*i:Nat):Int)) ?_ (bn_mul64 (by omega))|fail
      refine inv_yield (fs:=[]) (cs:=[]) ((hy _ (64*i+k) _ _ hJ (bitU_pre (by omega) hb)).mono ?_)
      rintro _ h3 n3 ⟨hn3,⟨rfl,hJ3⟩|⟨rfl,hF⟩⟩
      · repeat' first|refine wk ?_|refine cX (fun _=>?_) fun _=>?_|fail
        exact rnd (k+1) ⟨by omega,by rw[show 64*i+(k+1)=(64*i+k)+1 from rfl,bitU_t hb];exact hJ3⟩
      · repeat' first|refine wk ?_|refine cX (fun _=>?_) fun _=>?_|fail
        exact⟨rfl,.inr hF⟩
     | false=>
      have hd:¬((((w >>> k) &&& 1:Nat):Int)≠0):=fun h9=>by rw[bit_has.1 h9]at hbit;cases hbit
      rw[hbit]at hb;repeat' first|refine wk ?_|refine cX (fun _=>?_) fun _=>?_|fail
      exact rnd (k+1) ⟨by omega,by rw[show 64*i+(k+1)=(64*i+k)+1 from rfl,bitU_f hb];exact hJ⟩
   · obtain rfl:k=64:=by omega
     repeat' first|refine wk ?_|refine cX (fun _=>?_) fun _=>?_|fail
     exact rnd (i+1) ⟨by omega,hJ⟩
 · obtain rfl:i=ws.length:=by omega
   repeat' first|refine wk ?_|refine cX (fun _=>?_) fun _=>?_|fail
   exact⟨rfl,.inl hJ⟩
theorem each_ret(o1:wv.oneCell'=true):Ret P 0 109 [.agg ⟨[wv]⟩] h n fun v h' n'=>v = .func (.func 164) ⟨[]⟩ ⟨[ptr n 0]⟩∧n'=n+1∧Cel h' n (tSet+1) 0 [wv]∧Tch [] h n h' n':=by
 refine ent fun u=>?_;repeat' first|refine wk ?_|refine cX (fun _=>?_) fun _=>?_|fail
 exact⟨_,rfl,rfl,rfl,zM,zA⟩
theorem eachE_ret(o1:wv.oneCell'=true):Ret P 0 111 [.agg ⟨[wv]⟩] h n fun v h' n'=>v = .func (.func 164) ⟨[]⟩ ⟨[ptr (n+1) 0]⟩∧n'=n+1+1∧Cel h' (n+1) (tSet+1) 0 [wv]∧Tch [] h n h' n':=by
 refine ent fun u=>?_;repeat' first|refine wk ?_|refine cX (fun _=>?_) fun _=>?_|fail
 refine vM (each_ret o1) ?_
 rintro _ h2 n2 ⟨rfl,rfl,c2,t2⟩
 repeat' first|refine wk ?_|refine cX (fun _=>?_) fun _=>?_|fail
 exact⟨_,rfl,rfl,rfl,c2,zA⟩
theorem equ_pur{lo' e e':Nat}{av bv:Value}{a b:List Nat}(ra:Row lo h av e 1 a.length (a.map U64))(rb:Row lo' h bv e' 1 b.length (b.map U64))(hal:a.length≤1024)(_hbl:b.length≤1024):Pur P 0 162 [av,bv] h n (.bool (decide (a=b))):=by
 refine Com.pure (ent fun u=>?_) (.inl rfl);by_cases hl:a.length=b.length
 · repeat' first|refine wk ?_|refine cX (fun _=>?_) fun _=>?_|fail
   refine lpR (fun q:Nat=>[(0,av),(1,bv),(12,I64 a.length),(13,I64 q)]) (fun q h' n'=>h'=h∧n'=n∧q≤a.length∧∀j,j<q→a[j]? = b[j]?) (fun q=>a.length - q) 0 ⟨rfl,rfl,Nat.zero_le _,fun j hj=>by omega⟩ ?_
   rintro q t h' n' ⟨e1,e2,hq,hall⟩
   subst e1 e2;by_cases hlt:q<a.length
   · have c0:a[q]? = some a[q]:=List.getElem?_eq_getElem hlt;have d0:b[q]? = some (b[q]'(by omega)):=List.getElem?_eq_getElem (by omega);generalize a[q]=x at c0
     generalize (b[q]'(by omega))=y at d0
     have c1:zJ h' (sbk av) (sof av+q*1)=some (U64 x):=by rw[Nat.mul_one];exact ra.at (u_at c0)
     have d1:zJ h' (sbk bv) (sof bv+q*1)=some (U64 y):=by rw[Nat.mul_one];exact rb.at (u_at d0)
     by_cases hxy:x=y
     · subst hxy;have hd:¬(((x:Nat):Int)≠(x:Nat)):=fun h9=>h9 rfl;repeat' first|refine wk ?_|refine cX (fun _=>?_) fun _=>?_|fail
       exact rnd (q+1) ⟨rfl,rfl,by omega,fun j hj=>by
        rcases Nat.lt_succ_iff_lt_or_eq.1 hj with h9|rfl
        · exact hall j h9
        · rw[c0,d0]⟩
     · have hd:(((x:Nat):Int)≠(y:Nat)):=by omega
       repeat' first|refine wk ?_|refine cX (fun _=>?_) fun _=>?_|fail
       exact finT (by rw[decide_eq_false fun h9=>hxy (by rw[h9,d0]at c0;injection c0 with c0;exact c0.symm)]) zA
   · obtain rfl:q=a.length:=by omega
     repeat' first|refine wk ?_|refine cX (fun _=>?_) fun _=>?_|fail
     exact finT (by rw[decide_eq_true (List.ext_getElem? fun j=>by
      by_cases hj:j<a.length
      · exact hall j hj
      · rw[List.getElem?_eq_none (by omega),List.getElem?_eq_none (by omega)])]) zA
 · repeat' first|refine wk ?_|refine cX (fun _=>?_) fun _=>?_|fail
   exact finT (by rw[decide_eq_false fun h9=>hl (by rw[h9])]) zA
theorem equal_pur{lo' e e':Nat}{av bv:Value}{a b:List Nat}(ra:Row lo h av e 1 a.length (a.map U64))(rb:Row lo' h bv e' 1 b.length (b.map U64))(hlo:lo≤n)(hlo':lo'≤n)(hal:a.length≤1024)(hbl:b.length≤1024):Pur P 0 106 [.agg ⟨[av]⟩,.agg ⟨[bv]⟩] h n (.bool (decide (a=b))):=by
 have o1:=ra.one;have o2:=rb.one;refine Com.pure (ent fun u=>?_) (.inl rfl);repeat' first|refine wk ?_|refine cX (fun _=>?_) fun _=>?_|refine yG (equ_pur (Row.tch (S:=[]) ra zA hlo (by simp)) (Row.tch (S:=[]) rb zA hlo' (by simp)) hal hbl) ?_|fail
 exact finT rfl zA
end Go.Proofs.YtcmohelnoldfbaaGreat
namespace Go.Proofs.YtcmohelnoldfbaaGreat
open Go Go.Ex Go.Ex.M
set_option maxRecDepth 100000
set_option maxHeartbeats 8000000
attribute [local simp] yI
variable {n lo:Nat} {h:zB}
theorem list_ret{wv:Value}{ws:List Nat}(k:SetK lo n h wv ws):Ret P 0 51 [.agg ⟨[wv]⟩] h n fun v h' n'=>Own n n' h' v tI 1 (bitN ws).length ((bitN ws).map natV)∧Tch [] h n h' n':=by
 have o1:=k.k.one;have hle:=k.s.le;refine ent fun u=>?_;repeat' first|refine wk ?_|refine cX (fun _=>?_) fun _=>?_|fail
 refine vM (each_ret o1) ?_
 rintro _ h2 n2 ⟨rfl,e2,c2,t2⟩
 have hn2:=t2.le;have cO:Cel h2 (n+1) (45+1) 0 [.slice none 0 0]:=zM;have base:Tch [] h n (hal h2 n2 (.deferred true)) (n2+1):=zA;clear t2;repeat' first|refine wk ?_|refine cX (fun _=>?_) fun _=>?_|fail
 refine wc_rg0 (g:=164) (fs:=[]) (cs:=[ptr (n+1+1) 0]) (by(apply ev_box;((conv=>lhs;whnf) <;> exact rfl))) ?_
 refine it_core (enc:=natV) (elems:=bitN ws) (ps:=[7]) (fun done h' n'=>Tch [n+1] (hal h2 n2 (.deferred true)) (n2+1) h' n'∧n2+2≤n'∧∃v,Cel h' (n+1) (45+1) 0 [v]∧Own (n2+2) n' h' v tI 1 done.length (done.map natV))
  (fun j h' n'=>False) rfl (each1_it (lo:=n) (p:=n+1+1) (wv:=wv) k.s) ?_ obe_ask ⟨zA,by omega,_,zC,Own.nil⟩ ?_ ?_ ?_
 · rintro done h' n' ⟨ht,hn',_⟩
   have t0:Tch [] h n h' n':=Tch.tch ht base (by simp);exact⟨by omega,by omega,c2.tch (Tch.tch ht (S:=[n+1]) zA (by simp)) (by omega) (by simp),k.row.tch t0 (Nat.le_refl _) (by simp)⟩
 · rintro done x h' n' ⟨ht,hn',v,hc,ho⟩ hL hpre
   have hdl:=Nat.le_trans hpre.length_le (bitU_len _);rw [List.length_append]at hdl;have o2:=ho.one;repeat' first|refine wk ?_|refine cX (fun _=>?_) fun _=>?_|fail
   refine appO (ho.tch (S:=[n2+1]) zA (own_off ho (by omega))) (xX (e:=tI) (sz:=1) (len:=1) rfl (by decide)) (by omega) ⟨rfl,trivial⟩ (by simp at hdl ⊢;omega) ?_
   rintro v' h3 n3 ho3 ht3
   have hn3:=ht3.le;have o3:=ho3.one;have hB:=obe_tch (L:=n2+1) ht3 (by omega) (xO ho (by omega)) (obe_hal (by omega) vF);have c3:Cel h3 (n+1) (45+1) 0 [v]:=Cel.tch zC ht3 (by omega) (xO (L:=n+1) ho (by omega));have ht4:Tch [n+1] (hal h2 n2 (.deferred true)) (n2+1) h3 n3:=Tch.tch ht3 zA fun x hx=>.inl (by have:=xN ho x hx;omega);clear ht3;repeat' first|refine wk ?_|refine cX (fun _=>?_) fun _=>?_|fail
   exact⟨by omega,.inl ⟨rfl,vF,zA,by omega,_,zM,by rw[List.length_append,List.map_append];exact ho3.tch (S:=[n+1,n2+1]) zA (own_of2 ho3 (by omega) (by omega))⟩⟩
 · rintro h' n' ⟨ht,hn',v,hc,ho⟩
   have o2:=ho.one;repeat' first|refine wk ?_|refine cX (fun _=>?_) fun _=>?_|fail
   exact⟨_,rfl,(ho.tch (S:=[n2+1,n2]) zA (own_of2 ho (by omega) (by omega))).dnl (by omega),zA⟩
 · rintro j h' n' hf
   exact hf.elim
def bkL(s:Nat→Bool)(l:List InsT):Nat→Bool:=l.foldr (fun i s=>backP (defI i) (rdL i) s) s
theorem bkL_at{s:Nat→Bool}{l:List InsT}{k:Nat}{i:InsT}(h:l[k]? = some i):bkL s (l.drop k)=backP (defI i) (rdL i) (bkL s (l.drop (k+1))):=by
 obtain⟨hk,rfl⟩:=List.getElem?_eq_some_iff.1 h;rw [List.drop_eq_getElem_cons hk];rfl
def InsS(i:InsT):Prop:=(rdL i).length≤1000∧∀x∈rdL i,x≤65535
end Go.Proofs.YtcmohelnoldfbaaGreat
