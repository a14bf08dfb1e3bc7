/- What the law leans on: an executor of the model that is sound, deduction over it, and the walks through the code (part 17 of 20). Conditions: those that each theorem states. -/
import Derived.Test.YtcmohelnoldfbaaGreatInterNearx16

set_option linter.unusedVariables false
set_option linter.unusedSimpArgs false
namespace Go.Ex.M
theorem pre_pos:∀(k:Nat) (d:Int) (l:List RegT) (e:RegT×Int),e∈preL k d l→d≤e.2∧e.2<d+k:=by
 intro k
 induction k with
 | zero=>intro d l e he;cases he
 | succ k ih=>
  intro d l e he;obtain⟨r,_,he⟩:=List.mem_flatMap.1 he;rcases List.mem_cons.1 he with rfl|he
  · exact⟨Int.le_refl _,by show d<d+((k+1:Nat):Int);omega⟩
  · have:=ih _ _ _ he;omega
def wOf(wm:List (Pl×Value×List Pl)):List (Pl×List Pl):=wm.map fun x=>(x.1,x.2.2)
theorem wOf_at{wm:List (Pl×Value×List Pl)}{i:Nat}{y:Pl×List Pl}(h:(wOf wm)[i]? = some y):∃v,wm[i]? = some (y.1,v,y.2):=by
 unfold wOf at h;rw [List.getElem?_map]at h
 cases e:wm[i]? with
 | none=>rw [e]at h;cases h
 | some x=>rw [e]at h;cases h;exact⟨x.2.1,rfl⟩
theorem wOf_step{wm:List (Pl×Value×List Pl)}{dn:Nat}{top:Pl×Value×List Pl}{v' nv:Value}{p:Pl}(h:wm[dn]? = some top):wOf ((wm.take (dn+1)).set dn (top.1,v',top.2.2++[p])++[(p,nv,[])])=(wOf wm).take dn++[(top.1,top.2.2++[p]),(p,[])]:=by
 have hl:=(List.getElem?_eq_some_iff.1 h).1
 have e1:(wm.take (dn+1)).set dn (top.1,v',top.2.2++[p])=wm.take dn++[(top.1,v',top.2.2++[p])]:=by
  rw[xN h,List.set_append_right _ _ (by rw[List.length_take];omega),List.length_take,Nat.min_eq_left (by omega),Nat.sub_self];rfl
 unfold wOf;rw [e1,List.map_append,List.map_append,← List.map_take];simp
structure WInv (w:WSt) (wm:List (Pl×Value×List Pl)) (roots:Int):Prop where
 ways:w.ways=wOf wm
 len:wm.length≤8
 rts:∀top,wm[0]? = some top→roots=(top.2.2.length:Nat)
 el:∀(i:Nat) x,wm[i]? = some x→(0<i→PlG x.1)∧(∀q∈x.2.2,PlG q)∧x.2.2.length≤w.ns.length
 ok:GOK ⟨w.ns,w.ps⟩
theorem WInv.init{v:Value}:WInv ⟨[],[],[(⟨0,0,0⟩,[])]⟩ [(⟨0,0,0⟩,v,[])] 0:=⟨rfl,by simp,fun top h=>by cases h;rfl,fun i x h=>(by
 cases i with
 | zero=>cases h;exact⟨fun h=>absurd h (Nat.lt_irrefl 0),fun q hq=>(by cases hq),Nat.le_refl _⟩
 | succ i=>cases h),⟨List.nodup_nil,rfl,Nat.zero_le _,fun p hp=>(by cases hp),fun x hx=>(by cases hx)⟩⟩
theorem WInv.step{w:WSt}{wm:List (Pl×Value×List Pl)}{roots:Int}(g:WInv w wm roots){x:RegT}{dn:Nat}{top:Pl×Value×List Pl}{p:Pl}{v' nv:Value}(hd:dn≤6)(ht:wm[dn]? = some top)(h:tR ((dn+1:Nat):Int) top.1 top.2.2 ⟨w.ns,w.ps⟩ x = .ok p) :
 wStep (.ok w) (x,((dn+1:Nat):Int)) = .ok ⟨w.ns++[x.name],w.ps++[p],(wOf wm).take dn++[(top.1,top.2.2++[p]),(p,[])]⟩∧WInv ⟨w.ns++[x.name],w.ps++[p],(wOf wm).take dn++[(top.1,top.2.2++[p]),(p,[])]⟩ ((wm.take (dn+1)).set dn (top.1,v',top.2.2++[p])++[(p,nv,[])]) (if dn=0 then roots+1 else roots):=by
 have hl:=(List.getElem?_eq_some_iff.1 ht).1
 have e1:(wm.take (dn+1)).set dn (top.1,v',top.2.2++[p])=wm.take dn++[(top.1,v',top.2.2++[p])]:=by
  rw[xN ht,List.set_append_right _ _ (by rw[List.length_take];omega),List.length_take,Nat.min_eq_left (by omega),Nat.sub_self];rfl
 obtain⟨g1,g2,g3⟩:=g.el dn top ht
 obtain⟨h1,h2,h3⟩:=gOne_ok h g.ok (by
  rcases Nat.eq_zero_or_pos dn with h9|h9
  · exact .inl (by omega)
  · exact .inr (g1 h9))
 refine⟨?_,(wOf_step ht).symm,?_,fun t e=>?_,fun i y e=>?_,h3⟩
 · unfold wStep;have e2:(((dn+1:Nat):Int) - 1).toNat=dn:=by omega
   dsimp only;rw [e2,g.ways,show(wOf wm)[dn]? = some (top.1,top.2.2) by unfold wOf;rw [List.getElem?_map,ht];rfl];dsimp only;rw [h]
 · rw[e1];simp;omega
 · rw[e1]at e;rcases Nat.eq_zero_or_pos dn with h9|h9
   · subst h9;cases e
     rw[if_pos rfl,g.rts top ht];simp
   · rw[if_neg (by omega)];rw [List.append_assoc,List.getElem?_append_left (by rw[List.length_take];omega),List.getElem?_take_of_lt h9]at e;exact g.rts t e
 · rw[e1,List.append_assoc]at e;have hns:(w.ns++[x.name]).length=w.ns.length+1:=by simp
   show(0<i→PlG y.1)∧(∀q∈y.2.2,PlG q)∧y.2.2.length≤(w.ns++[x.name]).length;rw [hns];rcases Nat.lt_trichotomy i dn with h9|h9|h9
   · rw[List.getElem?_append_left (by rw[List.length_take];omega),List.getElem?_take_of_lt h9]at e;obtain⟨k1,k2,k3⟩:=g.el i y e;exact⟨k1,k2,by omega⟩
   · subst h9;rw [List.getElem?_append_right (by rw[List.length_take];omega),List.length_take,Nat.min_eq_left (by omega),Nat.sub_self]at e;cases e
     refine⟨g1,fun q hq=>?_,by show(top.2.2++[p]).length≤_;simp;omega⟩;rcases List.mem_append.1 hq with hq|hq
     · exact g2 q hq
     · simp at hq;subst hq;exact h2
   · rw[List.getElem?_append_right (by rw[List.length_take];omega),List.length_take,Nat.min_eq_left (by omega)]at e;rcases(show i - dn=1∨2≤i - dn by omega) with h8|h8
     · rw[h8]at e;cases e
       exact⟨fun _=>h2,fun q hq=>(by cases hq),Nat.zero_le _⟩
     · rw[List.getElem?_eq_none (by simp;omega)]at e;cases e
theorem WInv.bad{w:WSt}{wm:List (Pl×Value×List Pl)}{roots:Int}(g:WInv w wm roots){x:RegT}{dn:Nat}{top:Pl×Value×List Pl}{e:Int}(ht:wm[dn]? = some top)(h:tR ((dn+1:Nat):Int) top.1 top.2.2 ⟨w.ns,w.ps⟩ x = .error e):wStep (.ok w) (x,((dn+1:Nat):Int)) = .error e:=by
 unfold wStep;have e2:(((dn+1:Nat):Int) - 1).toNat=dn:=by omega
 dsimp only;rw [e2,g.ways,show(wOf wm)[dn]? = some (top.1,top.2.2) by unfold wOf;rw [List.getElem?_map,ht];rfl];dsimp only;rw [h]
theorem geo_bad{l:List RegT}{done:List (RegT×Int)}{x:Int}(hp:done <+: preL 7 1 l)(h:done.foldl wStep (.ok ⟨[],[],[(⟨0,0,0⟩,[])]⟩) = .error x):geoP l = .error x:=by
 obtain⟨t,ht⟩:=hp;have e:(preL 7 1 l).foldl wStep (.ok ⟨[],[],[(⟨0,0,0⟩,[])]⟩) = .error x:=by rw[← ht,List.foldl_append,h,wStep_err]
 rcases geo_walk l with⟨y,h1,h2⟩|⟨s,ways,h1,_⟩
 · rw[h1]at e;cases e;exact h2
 · rw[h1]at e;cases e
theorem geo_top{l:List RegT}{done:List (RegT×Int)}{w:WSt}{x:RegT}{dn:Nat}(hp:(done++[(x,((dn+1:Nat):Int))]) <+: preL 7 1 l)(h:done.foldl wStep (.ok ⟨[],[],[(⟨0,0,0⟩,[])]⟩) = .ok w):∃top,w.ways[dn]? = some top:=by
 cases e:w.ways[dn]? with
 | some top=>exact⟨top,rfl⟩
 | none =>
  exfalso
  have e2:(((dn+1:Nat):Int) - 1).toNat=dn:=by omega
  have:=geo_bad (x:=0) hp (by
   rw[List.foldl_append,h];show wStep (.ok w) (x,((dn+1:Nat):Int))=_;unfold wStep;dsimp only;rw [e2,e])
  exact geo_err this rfl
end Go.Ex.M
namespace Go.Proofs.YtcmohelnoldfbaaGreat
open Go Go.Ex Go.Ex.M
set_option maxRecDepth 100000
set_option maxHeartbeats 8000000
attribute [local simp] wX
theorem one_com{n0 n bw br dn:Nat}{h:zB}{nsv psv wsv:Value}{ns:List Tx}{ps:List Pl}{wm:List WayM}{roots:Int}{x:RegT}{top:WayM}(g:Gw n0 h n bw br [nsv,psv,.map (some br),wsv,I64 roots] nsv psv wsv ns ns ps wm)(hd7:dn≤7)(htop:wm[dn]? = some top)(hroots:dn=0→roots=(top.2.2.length:Nat))(hx:x.sv.oneCell'=true)(hok:GOK ⟨ns,ps⟩)(hpg:0<dn→PlG top.1)(hsib:∀q∈top.2.2,PlG q)(hlim:top.2.2.length≤200)(hwl:wm.length≤10):Com P 0 96 [ptr bw 0,.agg ⟨deepC (x,((dn+1:Nat):Int))⟩] h n fun o h' n'=>KeepR n0 bw br h n h' n'∧
    ((∃e,tR ((dn+1:Nat):Int) top.1 top.2.2 ⟨ns,ps⟩ x = .error e∧o = .panic (stopG e))∨
     ∃p nsv' psv' wsv' v',tR ((dn+1:Nat):Int) top.1 top.2.2 ⟨ns,ps⟩ x = .ok p∧o = .ret (.tuple #[])∧Gw n0 h' n' bw br [nsv',psv',.map (some br),wsv',I64 (if dn=0 then roots+1 else roots)] nsv' psv' wsv' (ns++[x.name]) (ns++[x.name]) (ps++[p]) ((wm.take (dn+1)).set dn (top.1,v',top.2.2++[p])++[(p,.slice none 0 0,[])])):=by
  rcases Nat.eq_zero_or_pos dn with h0|h0
  · exact one_com0 g hd7 h0 htop hroots hx hok hpg hsib hlim hwl
  · exact one_comS g hd7 h0 htop hroots hx hok hpg hsib hlim hwl
theorem pre_one{lo:Nat}{h:zB}:∀(k:Nat) (d:Int) (l:List RegT) (sv:Value) (e:RegT×Int),RegsM lo h sv l→e∈preL k d l→e.1.sv.oneCell'=true:=by
 intro k
 induction k with
 | zero=>intro d l sv e _ he;cases he
 | succ k ih=>
  intro d l sv e hr he;obtain⟨r,hm,he⟩:=List.mem_flatMap.1 he;rcases List.mem_cons.1 he with rfl|he
  · exact((hr.sub hm).row 0).one
  · exact ih _ _ _ _ (hr.sub hm) he
theorem Gw.lp{n0 n n' bw br L:Nat}{h h':zB}{cs:List Value}{nsv psv wsv:Value}{ns ms:List Tx}{ps:List Pl}{wm:List WayM}(g:Gw n0 h n bw br cs nsv psv wsv ns ms ps wm)(t:Tch [L] h n h' n')(hi:xD (zF h L)=none)(hm:∀es c,zF h L≠.map es c):Gw n0 h' n' bw br cs nsv psv wsv ns ms ps wm:=by
 obtain⟨b1,b2,b3,b4⟩:=g.hb;have:=t.le
 have ow:∀{lo v e sz len vs},Own lo n h v e sz len vs→∀b,zN v=some b→b∉[L]:=fun o b hb hx=>by
  simp at hx;subst hx;rcases o with⟨rfl,_⟩|⟨b2,_,_,rfl,p3,_⟩
  · cases hb
  · injection hb with hb
    have hb:b2=b:=hb;subst hb;rw [hi]at p3;cases p3
 refine⟨g.cel.tch t b2 (by simp;rintro rfl;have:=g.cel.1;rw [hi]at this;cases this),⟨b1,by omega,b3,by omega⟩,g.on.tch t (ow g.on),g.op.tch t (ow g.op),g.mp.tch t b4 (by simp;rintro rfl;obtain⟨es,c,e,_⟩:=g.mp;exact hm _ _ e),g.ow.tch t (fun b hb hx=>?_),fun i x hx=>(g.oi i x hx).tch t (ow (g.oi i x hx)),g.dj,g.dd⟩;simp at hx;subst hx;obtain⟨b2,m,z,kd,cap,h1,h2,e,h3,_⟩:=g.ow;rw [e]at hb;injection hb with hb
 have hb:b2=b:=hb;subst hb;rw [hi]at h3;cases h3
abbrev w0:WSt:=⟨[],[],[(⟨0,0,0⟩,[])]⟩
theorem KeepR.stepL{S:List Nat}{n0 bw br n n1 n2:Nat}{h h1 h2:zB}(k:KeepR n0 bw br h n h1 n1)(t:Tch S h1 n1 h2 n2)(hS:∀b∈S,n≤b):KeepR n0 bw br h n h2 n2:=⟨Nat.le_trans k.1 t.1,fun b hb hc=>by
 have e:=k.2 b hb hc;rw [t.2 b (by have:=k.1;omega) fun hx=>by have:=hS b hx;omega,e]⟩
theorem KeepR.mono{N n0 bw br n n1 n2:Nat}{h h1 h2:zB}(k:KeepR n0 bw br h N h1 n1)(t:KeepR n0 bw br h1 n h2 n2)(hn:n1≤n):KeepR n0 bw br h N h2 n2:=⟨by have:=k.1;have:=t.1;omega,fun b hb hc=>by
 have e:=k.2 b hb hc;rw [t.2 b (by have:=k.1;omega) (by unfold Kp at hc ⊢;rw [e];exact hc),e]⟩
theorem gw_init{n n2:Nat}{X h2:zB}{z6:Nat}{v6:List Value}(t:Tch [] (hst (hal (hal (hal (hal X (n+3) (.map [] 0)) (n+4) (mkC [I64 0,I64 0,I64 0,.slice none 0 0] 0 0)) (n+5) (mkC [.slice none 0 0,.slice none 0 0,.map (some (n+3)),.slice (some ⟨n+4,0,none⟩) 1 1,I64 0] zW 0)) (n+6) (mkC v6 z6 0)) (n+6) 0 [ptr (n+5) 0]) (n+7) h2 n2):Gw (n+3) h2 n2 (n+5) (n+3) [.slice none 0 0,.slice none 0 0,.map (some (n+3)),.slice (some ⟨n+4,0,none⟩) 1 1,I64 0] (.slice none 0 0) (.slice none 0 0) (.slice (some ⟨n+4,0,none⟩) 1 1) [] [] [] [(⟨0,0,0⟩,.slice none 0 0,[])]:=by
 have hn:=t.le;refine⟨zE,by omega,Own.nil,Own.nil,?_,?_,fun i x hx=>?_,fun i x hx=>?_,fun i j x y hij hx hy=>?_⟩
 · exact(mps_new (h:=X) (n:=n+3)).tch (zA:Tch [] (hal X (n+3) (.map [] 0)) (n+4) h2 n2) (by omega) (by simp)
 · exact(way_new (h:=hal X (n+3) (.map [] 0)) (n:=n+4) (e:=eAr) (sz:=4) (len:=1) (lo:=n+3) (cs:=[I64 0,I64 0,I64 0,.slice none 0 0]) (by omega) rfl (by decide)).tch (zA:Tch [] (hal (hal X (n+3) (.map [] 0)) (n+4) (mkC [I64 0,I64 0,I64 0,.slice none 0 0] 0 0)) (n+5) h2 n2) (by simp)
 all_goals have hi:i=0∧x=(⟨0,0,0⟩,.slice none 0 0,[]):=by(cases i with
  | zero=>exact⟨rfl,(Option.some.inj hx).symm⟩
  | succ i=>cases hx)
 · rw[hi.2];exact Own.nil
 · rw[hi.2];exact Dj.nil _
 · rw[hi.2];exact Dj.nil _
theorem all_core{lo L pl D:Nat}{l:List RegT}{sv:Value}{ps:List Tmp}{assign body:Code}{fn:FuncId}{lt:List (Nat×Value)}{t:Fr}{cx:Cx}{d:List Deferred}{u:Option zH}{h:zB}{n:Nat}{Q:QX}
(I:List (RegT×Int)→zB→Nat→Prop)(JP:zH→zB→Nat→Prop)(hps:ps.length=1)(hL:zF h L=LoO .ready none fn ps.toArray assign body D (FA lt t))(h0:I [] h n)
(hE:∀done h' n',I done h' n'→lo≤n'∧L<n')(hcl:∀done h' n' h2 n2,I done h' n'→Tch [] h' n' h2 n2→I done h2 n2)(hk:∀done h' n',I done h' n'→∀b,b<lo→zF h' b=zF h b)
(bd:∀done e h' n',I done h' n'→zF h' L=LoO .ready none fn ps.toArray assign body D (FA lt t)→(done++[e]) <+: preL 7 1 l→WC P 0 assign ⟨fn,some L,false⟩ (FA (parl ps [.agg ⟨deepC e⟩] lt) t) ⟨[],none,h',n'⟩ (asQ P 0 L fn ps.toArray assign body D (FA lt t) fun r h2 n2=>n'≤n2∧((r = .ret (.bool true)∧zF h2 L=LoO .ready none fn ps.toArray assign body D (FA lt t)∧I (done++[e]) h2 n2∧∀b,b<n'→xD (zF h' b)=some (4,102+1,0)→zF h2 b=zF h' b)∨∃c,r = .panic c∧JP c h2 n2)))
(fin:∀h' n',zF h' L=LoO .ready none fn ps.toArray assign body D (FA lt t)→I (preL 7 1 l) h' n'→Q .normal (FA lt t) ⟨d,u,hal h' L (LoO .exhausted none fn ps.toArray assign body D (FA lt t)),n'⟩)
(finP:∀c h' n',JP c h' n'→Q (.panic c) (FA lt t) ⟨d,u,h',n'⟩)
(hr:RegsM lo h sv l)(hc:zD h pl 0=some sv):CallB P 0 149 [.func (.yield L) #[] #[],ptr pl 0] h n (rgQ P 0 L fn ps.toArray assign body D cx (FA lt t) d u Q):=by
 refine cal0 (all1_com (lo:=lo) (l:=l) (sv:=sv) (J:=fun done h' n'=>zF h' L=LoO .ready none fn ps.toArray assign body D (FA lt t)∧I done h' n') (JF:=fun _ _=>False) (JP:=JP) (fun done h' n' q=>(hE _ _ _ q.2).1) (fun done h' n' h2 n2 q t=>⟨by rw[t.2 L (hE _ _ _ q.2).2 (by simp)];exact q.1,hcl _ _ _ _ _ q.2 t⟩) (fun done h' n' sv l q h0 n0 q0 r=>?_) (fun done e h' n' q hp=>(rou (args:=[.agg ⟨deepC e⟩]) q.1 hps (bd done e h' n' q.2 q.1 hp)).mono ?_) ⟨hL,h0⟩ hr hc) ?_
 · exact RegsM.tch (n:=lo) (n':=lo) ⟨Nat.le_refl _,fun b hb _=>by rw[hk _ _ _ q.2 b hb,hk _ _ _ q0.2 b hb]⟩ (Nat.le_refl _) r
 · rintro r h2 n2 ⟨a,⟨b1,b2,b3,b4⟩|⟨c,b1,b2⟩⟩
   · exact⟨a,.inl ⟨b1,⟨b2,b3⟩,b4⟩⟩
   · exact⟨a,.inr (.inr ⟨c,b1,b2⟩)⟩
 · rintro _ h' n' ⟨hn,⟨rfl,⟨q1,q2⟩|q⟩|⟨c,rfl,q⟩⟩
   · exact .inl ⟨q1,fin h' n' q1 q2⟩
   · exact q.elim
   · exact finP c h' n' q
abbrev zPw:Nat:=156+1
theorem places_com{lo n:Nat}{h:zB}{sv:Value}{l:List RegT}(hr:RegsM lo h sv l)(hlo:lo≤n):Com P 0 38 [sv] h n fun o h' n'=>Tch [] h n h' n'∧((∃e,geoP l = .error e∧o = .ret (.tuple ⟨[.slice none 0 0,.slice none 0 0,I64 e]⟩))∨∃s nsv psv,geoP l = .ok s∧o = .ret (.tuple ⟨[nsv,psv,I64 0]⟩)∧Own n n' h' nsv rD 1 s.ns.length (s.ns.map str)∧Own n n' h' psv ePl 3 s.ps.length (s.ps.flatMap plC)):=by
 refine ent fun u=>?_;have hone:=(hr.row 0).one;repeat' first|refine st ?_|refine ob ?_|refine ob1 ?_|refine cT ?_|refine cF ?_|refine zC ?_|refine cX (fun _=>?_) fun _=>?_|fail
 refine vR (all_ret hone) ?_
 rintro _ h2 n2 ⟨pl,rfl,p1,p2,p3,ht2⟩
 have hn2:=ht2.le;have g:=gw_init ht2;have c0:Cel h2 n (25+1) 0 [.slice none 0 0]:=zE;have c1:Cel h2 (n+1) (81+1) 0 [.slice none 0 0]:=zE;have c2:Cel h2 (n+2) (39+1) 0 [I64 0]:=zE;have c6:Cel h2 (n+6) zPw 0 [ptr (n+5) 0]:=zE;have tb:Tch [] h n h2 n2:=zA;repeat' first|refine st ?_|refine ob ?_|refine ob1 ?_|refine cT ?_|refine cF ?_|refine zC ?_|refine cX (fun _=>?_) fun _=>?_|fail
 clear ht2;refine wc_rg0 (g:=149) (fs:=[]) (cs:=[ptr pl 0]) (by(apply sE;((conv=>lhs;whnf) <;> exact rfl))) ?_;have tl:∀o,Tch [] h2 n2 (hal (hal h2 n2 (.deferred true)) (n2+1) o) (n2+2):=fun o=>zA;have hdf:∀o,zF (hal (hal h2 n2 (.deferred true)) (n2+1) o) n2 = .deferred true:=fun o=>by rw[zO,if_neg (by omega),zO,if_pos rfl]
 refine all_core (lo:=lo) (l:=l) (sv:=sv) (ps:=[15]) (fun done h' n'=>n2+2≤n'∧∃w wm nsv psv wsv roots,done.foldl wStep (.ok w0) = .ok w∧Gw (n+3) h' n' (n+5) (n+3) [nsv,psv,.map (some (n+3)),wsv,I64 roots] nsv psv wsv w.ns w.ns w.ps wm∧WInv w wm roots∧KeepR (n+3) (n+5) (n+3) (hal h2 n2 (.deferred true)) (n2+1) h' n')
  (fun c h' n'=>n2+2≤n'∧(∃e,geoP l = .error e∧c=stopG e)∧KeepR (n+3) (n+5) (n+3) (hal h2 n2 (.deferred true)) (n2+1) h' n') rfl sJ ⟨Nat.le_refl _,w0,_,_,_,_,_,rfl,g.tch (tl _),WInv.init,(KeepR.refl _ _ _ _ _).stepL (zA:Tch [] (hal h2 n2 (.deferred true)) (n2+1) _ (n2+2)) (by simp)⟩ ?_ ?_ ?_ ?_ ?_ ?_ (RegsM.tch zA hlo hr) zL
 · rintro done h' n' ⟨hn',_⟩;omega
 · rintro done h' n' h3 n3 ⟨hn',w,wm,nsv,psv,wsv,roots,hw,g,hi,kp⟩ t
   have:=t.le;exact⟨by omega,w,wm,nsv,psv,wsv,roots,hw,g.tch t,hi,kp.stepL t (by simp)⟩
 · rintro done h' n' ⟨hn',w,wm,nsv,psv,wsv,roots,hw,g,hi,kp⟩ b hb
   rw[kp.2 b (by omega) (.inl (by omega)),zO,if_neg (by omega),zO,if_neg (by omega),zO,if_neg (by omega)]
 · rintro done ⟨x,d⟩ h' n' ⟨hn',w,wm,nsv,psv,wsv,roots,hw,g',hi,kp⟩ hL hpre
   have hpos:=pre_pos 7 1 l (x,d) (hpre.subset (by simp));obtain⟨dn,rfl,hd6⟩:∃dn:Nat,d=((dn+1:Nat):Int)∧dn≤6:=⟨(d - 1).toNat,by dsimp only at hpos;omega,by dsimp only at hpos;omega⟩;obtain⟨top0,ht0⟩:=geo_top hpre hw;rw [hi.ways]at ht0;obtain⟨v,htop⟩:=wOf_at ht0;obtain⟨e1,e2,e3⟩:=hi.el _ _ htop;have hle:=hi.ok.le;have hle:w.ns.length≤200:=hle;have hxo:=pre_one 7 1 l sv (x,((dn+1:Nat):Int)) hr (hpre.subset (by simp));have c6B:Cel (hal h2 n2 (.deferred true)) (n+6) zPw 0 [ptr (n+5) 0]:=zE;have c6':Cel h' (n+6) zPw 0 [ptr (n+5) 0]:=cel_same c6B (kp.2 (n+6) (by omega) (.inr ⟨by omega,by omega,.inr ⟨_,_,by decide,c6B.1⟩⟩));have hiL:xD (zF h' (n2+1))=none:=by rw[hL];rfl
   have hmL:∀es c,zF h' (n2+1)≠.map es c:=fun es c e=>by rw[hL]at e;cases e
   have hbwL:xD (zF h' (n+5))=some (5,zW,0):=g'.cel.1;clear c6B;repeat' first|refine st ?_|refine ob ?_|refine ob1 ?_|refine cT ?_|refine cF ?_|refine zC ?_|refine cX (fun _=>?_) fun _=>?_|fail
   refine cal (one_com (g'.lp (L:=n2+1) (zA) hiL hmL) (by omega) htop (fun h=>by subst h;exact hi.rts _ htop) hxo hi.ok e1 e2 (by dsimp only at e3 ⊢;omega) (by have:=hi.len;omega)) ?_
   rintro _ h3 n3 ⟨k3,⟨e,he,rfl⟩|⟨p,nsv',psv',wsv',v',hp,rfl,g3⟩⟩
   · repeat' first|refine st ?_|refine ob ?_|refine ob1 ?_|refine cT ?_|refine cF ?_|refine zC ?_|refine cX (fun _=>?_) fun _=>?_|fail
     have k3n:=k3.1;exact⟨by omega,.inr ⟨_,rfl,by omega,⟨e,geo_bad hpre (by rw[List.foldl_append,hw];exact hi.bad htop he),rfl⟩,(kp.stepL (S:=[n2+1]) zA (by simp)).mono k3 (Nat.le_refl _)⟩⟩
   · have hL3:=k3.2 (n2+1) (by omega) (.inr ⟨by omega,by omega,.inl (by rw[zO,if_pos rfl];rfl)⟩);rw [zO,if_pos rfl]at hL3;have k3n:=k3.1;have k4:=(kp.stepL (S:=[n2+1]) zA (by simp)).mono k3 (Nat.le_refl _)
     have same:∀b,b<n'→xD (zF h' b)=some (4,102+1,0)→zF h3 b=zF h' b:=fun b hb hib=>by
      have hbL:b≠n2+1:=fun e=>by rw[e,hiL]at hib;cases hib
      obtain⟨es,ck,hme,_⟩:=g'.mp;refine(k3.2 b (by omega) (.inr ⟨fun e=>by rw[e,hbwL]at hib;simp at hib,fun e=>(by rw[e,hme]at hib;cases hib),.inr ⟨4,102+1,by decide,?_⟩⟩)).trans ((zA:Tch [n2+1] h' n' _ (n'+1)).2 b hb (by simpa using hbL));exact(congrArg xD ((zA:Tch [n2+1] h' n' _ (n'+1)).2 b hb (by simpa using hbL))).trans hib
     obtain⟨s1,s2⟩:=hi.step (v':=v') (nv:=.slice none 0 0) hd6 htop hp;repeat' first|refine st ?_|refine ob ?_|refine ob1 ?_|refine cT ?_|refine cF ?_|refine zC ?_|refine cX (fun _=>?_) fun _=>?_|fail
     have tz:=fun o=>(zA:Tch [n2+1] h3 n3 (hal h3 (n2+1) o) n3);refine⟨by omega,.inl ⟨rfl,xS,⟨by omega,_,_,_,_,_,_,by rw[List.foldl_append,hw];exact s1,g3.lp (tz _) (by rw[hL3];rfl) (fun es c e=>by rw[hL3]at e;cases e),s2,k4.stepL (tz _) (by simp)⟩,fun b hb hib=>?_⟩⟩;rw [zO,if_neg fun e=>by rw[← e,hiL]at hib;cases hib];exact same b hb hib
 · rintro h' n' hL ⟨hn',w,wm,nsv,psv,wsv,roots,hw,g',hi,kp⟩
   have hiL:xD (zF h' (n2+1))=none:=by rw[hL];rfl
   clear hL
   have kc:∀(b z:Nat) vs,Cel h2 b z 0 vs→0<z→b<n2→b≠n+5→b≠n+3→Cel h' b z 0 vs:=fun b z vs c hz hb h5 h3=>by
    have c':Cel (hal h2 n2 (.deferred true)) b z 0 vs:=c.hal (by omega);exact cel_same c' (kp.2 b (by omega) (.inr ⟨h5,h3,.inr ⟨_,_,hz,c'.1⟩⟩))
   have d0:=kc _ _ _ c0 (by decide) (by omega) (by omega) (by omega);have d1:=kc _ _ _ c1 (by decide) (by omega) (by omega) (by omega);have d2:=kc _ _ _ c2 (by decide) (by omega) (by omega) (by omega);have d6:=kc _ _ _ c6 (by decide) (by omega) (by omega) (by omega);have hdr:zF h' n2 = .deferred true:=by rw[kp.2 n2 (by omega) (.inr ⟨by omega,by omega,.inl (by rw[zO,if_pos rfl];rfl)⟩),zO,if_pos rfl]
   have gc:=g'.cel;have on:=g'.on;have op:=g'.op;have on1:=on.one;have op1:=op.one;have tt:Tch [] h n h' n':=⟨by omega,fun b hb _=>by rw[kp.2 b (by omega) (.inl (by omega)),zO,if_neg (by omega)];exact tb.2 b hb (by simp)⟩
   obtain⟨s,ways,hws,hgs⟩:∃s ways,(⟨s.ns,s.ps,ways⟩:WSt)=w∧geoP l = .ok s:=by
    rcases geo_walk l with⟨e,h1,_⟩|⟨s,ways,h1,h2⟩
    · rw[h1]at hw;cases hw
    · rw[h1]at hw;exact⟨s,ways,Except.ok.inj hw,h2⟩
   subst hws;clear c0 c1 c2 c6 g kc;repeat' first|refine st ?_|refine ob ?_|refine ob1 ?_|refine cT ?_|refine cF ?_|refine zC ?_|refine cX (fun _=>?_) fun _=>?_|fail
   refine lv_none (g:=94) (args:=[]) (cap:=[ptr n 0,ptr (n+1) 0,ptr (n+2) 0]) places1_none ?_
   rintro h3 n3 t3
   have e0:Cel h3 n (25+1) 0 [nsv]:=zE;have e1:Cel h3 (n+1) (81+1) 0 [psv]:=zE;have e2:Cel h3 (n+2) (39+1) 0 [I64 0]:=zE;have tE:Tch [n,n+1,n+2,n2+1,n2] h' n' h3 n3:=zA
   have no:∀{v e sz len vs},Own (n+3) n' h' v e sz len vs→∀b,zN v=some b→b∉[n,n+1,n+2,n2+1,n2]:=fun o b hb hx=>by
    rcases o with⟨rfl,_⟩|⟨b2,q1,q2,rfl,p3,_⟩
    · cases hb
    · injection hb with hb
      have hb:b2=b:=hb;subst hb;simp at hx;rcases hx with h|h|h|h|h
      · omega
      · omega
      · omega
      · rw[h,hiL]at p3;cases p3
      · rw[h,hdr]at p3;cases p3
   have on3:=(on.tch tE (no on)).dnl (lo':=n) (by omega);have op3:=(op.tch tE (no op)).dnl (lo':=n) (by omega);have tF:Tch [] h n h3 n3:=Tch.tch tE tt fun x hx=>.inl (by simp at hx;omega);clear t3 tE;repeat' first|refine st ?_|refine ob ?_|refine ob1 ?_|refine cT ?_|refine cF ?_|refine zC ?_|refine cX (fun _=>?_) fun _=>?_|fail
   exact⟨tF,.inr ⟨s,nsv,psv,hgs,rfl,on3,op3⟩⟩
 · rintro c h' n' ⟨hn',⟨e,he,rfl⟩,kp⟩
   have kc:∀(b z:Nat) vs,Cel h2 b z 0 vs→0<z→b<n2→b≠n+5→b≠n+3→Cel h' b z 0 vs:=fun b z vs c hz hb h5 h3=>by
    have c':Cel (hal h2 n2 (.deferred true)) b z 0 vs:=c.hal (by omega);exact cel_same c' (kp.2 b (by omega) (.inr ⟨h5,h3,.inr ⟨_,_,hz,c'.1⟩⟩))
   have d0:=kc _ _ _ c0 (by decide) (by omega) (by omega) (by omega);have d1:=kc _ _ _ c1 (by decide) (by omega) (by omega) (by omega);have d2:=kc _ _ _ c2 (by decide) (by omega) (by omega) (by omega);have hdr:zF h' n2 = .deferred true:=by rw[kp.2 n2 (by omega) (.inr ⟨by omega,by omega,.inl (by rw[zO,if_pos rfl];rfl)⟩),zO,if_pos rfl]
   have tt:Tch [] h n h' n':=⟨by omega,fun b hb _=>by rw[kp.2 b (by omega) (.inl (by omega)),zO,if_neg (by omega)];exact tb.2 b hb (by simp)⟩;clear c0 c1 c2 c6 g kc;repeat' first|refine st ?_|refine ob ?_|refine ob1 ?_|refine cT ?_|refine cF ?_|refine zC ?_|refine cX (fun _=>?_) fun _=>?_|fail
   refine lv_some (g:=94) (args:=[]) (cap:=[ptr n 0,ptr (n+1) 0,ptr (n+2) 0]) (places1_some (by omega) (by omega) (by omega) (by omega) (by omega) (by omega) zE zE zE) ?_
   rintro h3 n3 ⟨t3,e0,e1,e2⟩
   have tF:Tch [] h n h3 n3:=Tch.tch (zA:Tch [n,n+1,n+2,n2] h' n' h3 n3) tt fun x hx=>.inl (by simp at hx;omega);repeat' first|refine st ?_|refine ob ?_|refine ob1 ?_|refine cT ?_|refine cF ?_|refine zC ?_|refine cX (fun _=>?_) fun _=>?_|fail
   exact⟨tF,.inl ⟨e,he,rfl⟩⟩
end Go.Proofs.YtcmohelnoldfbaaGreat
namespace Go.Proofs.YtcmohelnoldfbaaGreat
open Go Go.Ex Go.Ex.M
set_option maxRecDepth 100000
set_option maxHeartbeats 8000000
attribute [local simp] wX
theorem mach_dn{lo n n':Nat}{h h':zB}{m:MachT}{S:List Nat}(t:Tch S h n h' n')(hl:lo≤n)(hS:∀b∈S,lo≤b)(r:MachM lo h m):MachM lo h' m:=MachM.tch (n:=lo) (n':=lo) ⟨Nat.le_refl _,fun b hb _=>t.2 b (by omega) fun hx=>by have:=hS b hx;omega⟩ (Nat.le_refl _) r
abbrev zCk:Nat:=145+1
theorem tQ{lo:Nat}{h:zB}{m:MachT}(mm:MachM lo h m):m.rsv.oneCell'=true∧m.csv.oneCell'=true∧m.osv.oneCell'=true∧m.asv.oneCell'=true∧m.ssv.oneCell'=true:=⟨(mm.regs.row 0).one,(mm.cls 0).one,(mm.ops 0).one,(mm.args 0).one,(mm.saved 0).one⟩
variable {lo bc n:Nat} {h:zB} {m:MachT}
theorem head_com(mm:MachM lo h m)(hlo:lo≤bc)(hbc:bc<n)(hc:Cel h bc zCk 0 (yO m++[.slice none 0 0,.slice none 0 0])):Com P 0 84 [ptr bc 0] h n fun o h' n'=>Tch [bc] h n h' n'∧((named m.name=false∧o = .panic (tO 5))∨named m.name=true∧((∃e,geoP m.regs = .error e∧o = .panic (tO e))∨∃s,geoP m.regs = .ok s∧((s.ns=[]∧o = .panic (tO 1))∨s.ns≠[]∧o = .ret (.tuple #[])∧∃nsv psv,Ck n' h' bc zCk m nsv psv s.ns s.ps))):=by
 obtain⟨o1,o2,o3,o4,o5⟩:=tQ mm;refine ent fun u=>?_;repeat' first|refine st ?_|refine ob ?_|refine ob1 ?_|refine cT ?_|refine cF ?_|refine zC ?_|refine cX (fun _=>?_) fun _=>?_|fail
 · rename_i hnm;refine cal (places_com mm.regs (by omega)) ?_
   rintro _ h2 n2 ⟨ht,⟨e,he,rfl⟩|⟨s,nsv,psv,hs,rfl,on,op⟩⟩
   · have hn2:=ht.le;have he0:=geo_err he;repeat' first|refine st ?_|refine ob ?_|refine ob1 ?_|refine cT ?_|refine cF ?_|refine zC ?_|refine cX (fun _=>?_) fun _=>?_|fail
     · exact⟨zA,.inr ⟨hnm,.inl ⟨e,he,rfl⟩⟩⟩
   · have hn2:=ht.le;have on1:=on.one;have op1:=op.one;have rn:=on.row (by decide);have rp:=op.row (by decide);have gok:=geo_ok hs;have gl:=gok.le;repeat' first|refine st ?_|refine ob ?_|refine ob1 ?_|refine cT ?_|refine cF ?_|refine zC ?_|refine cX (fun _=>?_) fun _=>?_|fail
     · rename_i f1;have c2:Cel (hst (hst h2 bc 8 [nsv]) bc 9 [psv]) bc zCk 0 (yO m++[nsv,psv]):=zE;have tE:Tch [bc] h n (hst (hst h2 bc 8 [nsv]) bc 9 [psv]) n2:=zA;have tS:Tch [bc] h2 n2 (hst (hst h2 bc 8 [nsv]) bc 9 [psv]) n2:=zA
       have nb:∀{v e sz len vs},Own n n2 h2 v e sz len vs→∀b,zN v=some b→b∉[bc]:=fun o b hb hx=>by
        have:=zZ o b (by rw[hb];simp);simp at hx;omega
       refine⟨tE,.inr ⟨hnm,.inr ⟨s,hs,.inr ⟨fun e=>by rw[e]at f1;simp at f1,rfl,nsv,psv,⟨(mach_dn tE (by omega) (by simp;omega) mm).up (by omega),c2,(on.tch tS (nb on)).row (by decide),(op.tch tS (nb op)).row (by decide),by omega,gok.len,gl,fun p hp=>(gok.pl p hp).ok⟩⟩⟩⟩⟩
     · rename_i f1;exact⟨zA,.inr ⟨hnm,.inr ⟨s,hs,.inl ⟨List.eq_nil_of_length_eq_zero (by omega),rfl⟩⟩⟩⟩
 · exact⟨zA,.inl ⟨by assumption,rfl⟩⟩
end Go.Proofs.YtcmohelnoldfbaaGreat
namespace Go.Proofs.YtcmohelnoldfbaaGreat
open Go Go.Ex Go.Ex.M
set_option maxRecDepth 100000
set_option maxHeartbeats 8000000
attribute [local simp] wX
abbrev eCls:Nat:=36
abbrev eOp:Nat:=72
abbrev eOpr:Nat:=69
abbrev zMc:Nat:=27+1
theorem uT{lo lo' n n':Nat}{h:zB}{v v':Value}{e sz len e' sz' len':Nat}{vs vs':List Value}(o:OwnE lo n h v e sz len vs)(o':Own lo' n' h v' e' sz' len' vs')(hne:e≠e'∨sz≠sz')(hs:1≤sz'):Dj v v':=fun b hb e2=>by
 rcases o with o|⟨⟨b1,z,kd,_,_,rfl,q3,_⟩,_,_⟩
 · exact tN o o' hne b hb e2
 · rcases o' with⟨rfl,_⟩|⟨b2,_,_,rfl,p3,p4,p5,_⟩
   · cases e2
   · injection hb with hb
     injection e2 with e2
     have hb:b1=b:=hb;have e2:b2=b:=e2;subst hb e2;rw [q3]at p3;injection p3 with p3
     injection p3 with p3 _
     have:0<len'*sz':=Nat.mul_pos p5 hs;omega
theorem ownE_lt{lo n b0:Nat}{h:zB}{v:Value}{e sz len:Nat}{vs:List Value}(o:OwnE lo n h v e sz len vs)(hb:b0<lo):∀b,zN v=some b→b∉[b0]:=fun b hb2 hx=>by
 have:=o.low b (by rw[hb2];simp);simp at hx;omega
theorem xU{lo lo' n:Nat}{h:zB}{v:Value}{e sz len:Nat}{vs:List Value}(o:OwnE lo n h v e sz len vs)(hl:lo'≤lo):OwnE lo' n h v e sz len vs:=by
 rcases o with o|⟨⟨b,z,kd,h1,h2⟩,h3⟩
 · exact .inl (o.dnl hl)
 · exact .inr ⟨⟨b,z,kd,by omega,h2⟩,h3⟩
structure CpC (lo n:Nat) (h:zB) (c c':ClassT):Prop where
 nm:c'.name=c.name
 rg:c'.regs=c.regs
 row:OwnE lo n h c'.rsv rD 1 c.regs.length (c.regs.map str)
structure CpO (lo n:Nat) (h:zB) (o o':OpT):Prop where
 nm:o'.name=o.name
 d:o'.d=o.d
 tie:o'.tie=o.tie
 us:o'.uses=o.uses
 cb:o'.clob=o.clob
 ru:OwnE lo n h o'.usv eOpr 2 o.uses.length (o.uses.flatMap oprC)
 rc:OwnE lo n h o'.csv rD 1 o.clob.length (o.clob.map str)
structure CpM (lo n:Nat) (h:zB) (m m':MachT):Prop where
 nm:m'.name=m.name
 res:m'.result=m.result
 slots:m'.slots=m.slots
 ag:m'.args=m.args
 sd:m'.saved=m.saved
 r1:m'.rsv.oneCell'=true
 cl:m'.classes.length=m.classes.length
 cr:OwnE lo n h m'.csv eCls 2 m.classes.length (m'.classes.flatMap clsC)
 ce:∀(i:Nat) c,m.classes[i]? = some c→∃c',m'.classes[i]? = some c'∧CpC lo n h c c'
 ol:m'.ops.length=m.ops.length
 orr:OwnE lo n h m'.osv eOp 6 m.ops.length (m'.ops.flatMap opC)
 oe:∀(i:Nat) o,m.ops[i]? = some o→∃o',m'.ops[i]? = some o'∧CpO lo n h o o'
 ar:OwnE lo n h m'.asv rD 1 m.args.length (m.args.map str)
 sr:OwnE lo n h m'.ssv rD 1 m.saved.length (m.saved.map str)
theorem CpC.tchS{S:List Nat}{lo n n':Nat}{h h':zB}{c c':ClassT}(k:CpC lo n h c c')(t:Tch S h n h' n')(hS:∀b,zN c'.rsv=some b→b∉S):CpC lo n' h' c c':=⟨k.nm,k.rg,k.row.tch t hS⟩
theorem CpO.tchS{S:List Nat}{lo n n':Nat}{h h':zB}{o o':OpT}(k:CpO lo n h o o')(t:Tch S h n h' n')(hS:∀b,zN o'.usv=some b→b∉S)(hS2:∀b,zN o'.csv=some b→b∉S):CpO lo n' h' o o':=⟨k.nm,k.d,k.tie,k.us,k.cb,k.ru.tch t hS,k.rc.tch t hS2⟩
structure SmlM (m:MachT):Prop where
 rg:Sml 6 m.regs
 cls:m.classes.length≤64
 clr:∀c∈m.classes,c.regs.length≤64
 ops:m.ops.length≤64
 opu:∀o∈m.ops,o.uses.length≤2
 opc:∀o∈m.ops,o.clob.length≤200
 args:m.args.length≤200
 saved:m.saved.length≤200
theorem clsC_one{lo:Nat}{h:zB}{m:MachT}(mm:MachM lo h m):∀y∈m.classes.flatMap clsC,y.oneCell'=true:=fun y hy=>by
 obtain⟨c,hm,hy⟩:=List.mem_flatMap.1 hy;have:=(mm.clsr c hm 0).one;simp at hy;rcases hy with rfl|rfl
 · rfl
 · exact this
theorem opC_one{lo:Nat}{h:zB}{m:MachT}(mm:MachM lo h m):∀y∈m.ops.flatMap opC,y.oneCell'=true:=fun y hy=>by
 obtain⟨c,hm,hy⟩:=List.mem_flatMap.1 hy;have h1:=(mm.opsu c hm 0).one;have h2:=(mm.opsc c hm 0).one;simp at hy;rcases hy with rfl|rfl|rfl|rfl|rfl|rfl
 · rfl
 · rfl
 · rfl
 · exact h1
 · rfl
 · exact h2
theorem oprC_one(l:List OperT):∀y∈l.flatMap oprC,y.oneCell'=true:=fun y hy=>by
 obtain⟨c,hm,hy⟩:=List.mem_flatMap.1 hy;simp at hy;rcases hy with rfl|rfl <;> rfl
abbrev mc0:List Value:=[str [],.slice none 0 0,.slice none 0 0,.slice none 0 0,.slice none 0 0,str [],.slice none 0 0,I64 0]
theorem rs_agg{l:List (Nat×Value)}{t:Fr}{h:zB}{i ty sz b off:Nat}{vs:List Value}[s:ShC P ty (.agg sz)](e:lk l t i = .pointer (some ⟨b,off,none⟩))(hl:vs.length=sz)(h0:0<sz)(hr:∀(j:Nat) x,vs[j]? = some x→zD h b (off+j)=some x):Rs P l t h [.cell i ty] [.agg ⟨vs⟩]:=⟨_,_,rfl,by rw[e];exact load_agg s.ok hl h0 hr,rfl⟩
variable {lo n:Nat} {h:zB} {m:MachT}
theorem copied_ret(mm:MachM lo h m)(hlo:lo≤n)(sm:SmlM m):Ret P 0 37 [.agg ⟨yO m⟩] h n fun v h' n'=>∃m',v = .agg ⟨yO m'⟩∧CpM n n' h' m m'∧Tch [] h n h' n':=by
 obtain⟨o1,o2,o3,o4,o5⟩:=tQ mm;have hinf:inf<4611686018427387904:=by decide
 have s1:=sm.cls;have s2:=sm.ops;refine ent fun u=>?_;repeat' first|refine st ?_|refine ob ?_|refine ob1 ?_|refine cT ?_|refine cF ?_|refine zC ?_|refine cX (fun _=>?_) fun _=>?_|fail
 refine vR (regs_ret 6 sm.rg (RegsM.tch zA hlo mm.regs) (by omega)) ?_
 rintro v1 h2 n2 ⟨ov1,ht2⟩
 have hn2:=ht2.le;repeat' first|refine st ?_|refine ob ?_|refine ob1 ?_|refine cT ?_|refine cF ?_|refine zC ?_|refine cX (fun _=>?_) fun _=>?_|fail
 have t2:Tch [] h n (hst h2 n (0+1) [v1]) n2:=zA;have hc0:Cel (hst h2 n (0+1) [v1]) n zMc 0 [str m.name,v1,m.csv,m.osv,m.asv,str m.result,m.ssv,I64 m.slots]:=zE;have hc1:Cel (hst h2 n (0+1) [v1]) (n+1) zMc 0 mc0:=zE;generalize hst h2 n (0+1) [v1]=h3 at *
 have m3:=mm.tch t2 hlo;have zc:=mm.cls 0;have zo:=mm.ops 0;have za:=mm.args 0;have zs:=mm.saved 0;clear ht2;refine vR (clone_cls (m3.cls _) (by omega) (clsC_one mm) (by omega)) ?_
 rintro v4 h4 n4 ⟨w4,t4⟩
 have hn4:=t4.le;have ov4:=yZ w4;repeat' first|refine st ?_|refine ob ?_|refine ob1 ?_|refine cT ?_|refine cF ?_|refine zC ?_|refine cX (fun _=>?_) fun _=>?_|fail
 refine vR (clone_op (MachM.tch t4 (by omega) m3 |>.ops _) (by omega) (opC_one mm) (by omega)) ?_
 rintro v5 h5 n5 ⟨w5,t5⟩
 have hn5:=t5.le;have ov5:=yZ w5;have w4r:=w4.row (by decide);have w5r:=w5.row (by decide);repeat' first|refine st ?_|refine ob ?_|refine ob1 ?_|refine cT ?_|refine cF ?_|refine zC ?_|refine cX (fun _=>?_) fun _=>?_|fail
 have t6:Tch [] h n (hst (hst h5 n (0+2) [v4]) n (0+3) [v5]) n5:=zA;have d0:Cel (hst (hst h5 n (0+2) [v4]) n (0+3) [v5]) n zMc 0 [str m.name,v1,v4,v5,m.asv,str m.result,m.ssv,I64 m.slots]:=zE;have d1:Cel (hst (hst h5 n (0+2) [v4]) n (0+3) [v5]) (n+1) zMc 0 mc0:=zE;have tS:Tch [n] h5 n5 (hst (hst h5 n (0+2) [v4]) n (0+3) [v5]) n5:=zA;have w4:=xU (lo':=n+2) ((w4.tch t5 (by simp)).tch tS (ownE_lt w4 (by omega))) (by omega);have w5:=xU (lo':=n+2) (w5.tch tS (ownE_lt w5 (by omega))) (by omega);generalize hst (hst h5 n (0+2) [v4]) n (0+3) [v5]=h6 at *
 clear tS t5 t4 w4r w5r hc0 hc1 m3 t2;refine lpR (fun i:Nat=>[(1,ptr n 0),(2,ptr (n+1) 0),(19,I64 m.classes.length),(20,I64 i)]) (fun i h' n'=>Tch [] h n h' n'∧n+2≤n'∧Cel h' n zMc 0 [str m.name,v1,v4,v5,m.asv,str m.result,m.ssv,I64 m.slots]∧Cel h' (n+1) zMc 0 mc0∧i≤m.classes.length∧OwnE (n+2) n' h' v5 eOp 6 m.ops.length (m.ops.flatMap opC)∧∃cs:List ClassT,cs.length=m.classes.length∧OwnE (n+2) n' h' v4 eCls 2 m.classes.length (cs.flatMap clsC)∧(∀(j:Nat) c,j<i→m.classes[j]? = some c→∃c',cs[j]? = some c'∧CpC (n+2) n' h' c c')∧∀j,i≤j→cs[j]? = m.classes[j]?) (fun i=>m.classes.length - i) 0 (by repeat' first|exact trivial|refine⟨rfl,?_⟩) ⟨t6,by omega,d0,d1,Nat.zero_le _,w5,m.classes,rfl,w4,fun j c hj=>by omega,fun _ _=>rfl⟩ ?_;clear w4 w5 d0 d1 t6
 rintro i t h' n' ⟨ht,hn',d0,d1,hi,wo,cs,hcl,wc,hdone,hsame⟩
 have hn9:=ht.le;by_cases hlt:i<m.classes.length
 · have c0:m.classes[i]? = some m.classes[i]:=List.getElem?_eq_getElem hlt;generalize m.classes[i]=c at c0
   have c0':cs[i]? = some c:=by rw[hsame i (Nat.le_refl _)];exact c0
   have hx:=List.mem_of_getElem? c0;have ho:=ownE_pos wc (by omega);obtain⟨bb,rfl,hb1,hb2⟩:=own_head ho (by omega);have hor:=ho.row (by decide);have y1:zD h' bb (i*2+1)=some c.rsv:=own_at ho (by decide) (uN (f:=clsC) (sz:=2) (fun _=>rfl) c0' (j:=1) rfl);have iad:=iadO (sz:=2) (b:=bb) (cap:=inf) hlt;have zr:=mm.clsr c hx 0;have hxo:=zr.one;have hle:=sm.clr c hx;repeat' first|refine ob (a:=ptr bb (i*2)) ?_ iad|refine st ?_|refine ob ?_|refine ob1 ?_|refine cT ?_|refine cF ?_|refine zC ?_|refine cX (fun _=>?_) fun _=>?_|fail
   refine vR (clone_str ((mm.tch ht hlo).clsr c hx _) (by omega) (str_one _) (by omega)) ?_
   rintro v7 h7 n7 ⟨w7,t7⟩
   have hn7:=t7.le;have ov7:=yZ w7;have ho7:=ho.tch t7 (by simp);have wo7:=wo.tch t7 (by simp);have w7r:=w7.row (by decide);have hvl:i*2+1<(cs.flatMap clsC).length:=by rw[flat_len (f:=clsC) (sz:=2) (fun _=>rfl)];omega
   repeat' first|refine ob (a:=ptr bb (i*2)) ?_ iad|refine ob (a:=hst _ bb (i*2+1) [v7]) ?_ (stp_own ho7 rfl hvl ov7)|refine st ?_|refine ob ?_|refine ob1 ?_|refine cT ?_|refine cF ?_|refine zC ?_|refine cX (fun _=>?_) fun _=>?_|fail
   have hp:=own_put (x:=v7) ho7 rfl hvl;rw [flat_set (f:=clsC) (sz:=2) (y:=⟨c.name,v7,c.regs⟩) (fun _=>rfl) (by decide) rfl c0']at hp;have tB:Tch [bb] h7 n7 (hst h7 bb (i*2+1) [v7]) n7:=zA
   exact⟨i+1,(by dsimp only;omega),(by repeat' first|exact trivial|refine⟨rfl,?_⟩),zA,by omega,zE,zE,by omega,wo7.tch tB (uT wo7 ho7 (.inl (by decide)) (by decide)).no,_,by rw[List.length_set];exact hcl,.inl hp,fun j c1 hj e=>by
    rcases Nat.lt_succ_iff_lt_or_eq.1 hj with h9|rfl
    · obtain⟨c',e1,e2⟩:=hdone j c1 h9 e;have e2:=CpC.tchS e2 t7 (by simp);exact⟨c',by rw[List.getElem?_set_ne (by omega)];exact e1,CpC.tchS e2 tB (uT e2.row ho7 (.inl (by decide)) (by decide)).no⟩
    · rw[c0]at e;cases e;exact⟨_,List.getElem?_set_self (by omega),rfl,rfl,xU (w7.tch tB (ownE_lt w7 (by omega))) (by omega)⟩,fun j hj=>by rw[List.getElem?_set_ne (by omega)];exact hsame j (by omega)⟩
 obtain rfl:i=m.classes.length:=by omega
 clear hsame hlt hi;have wor:=wo.row (by decide);repeat' first|refine st ?_|refine ob ?_|refine ob1 ?_|refine cT ?_|refine cF ?_|refine zC ?_|refine cX (fun _=>?_) fun _=>?_|fail
 clear wor;refine lpR (fun i:Nat=>[(1,ptr n 0),(2,ptr (n+1) 0),(38,I64 m.ops.length),(39,I64 i)]) (fun i h' n'=>Tch [] h n h' n'∧n+2≤n'∧Cel h' n zMc 0 [str m.name,v1,v4,v5,m.asv,str m.result,m.ssv,I64 m.slots]∧Cel h' (n+1) zMc 0 mc0∧i≤m.ops.length∧OwnE (n+2) n' h' v4 eCls 2 m.classes.length (cs.flatMap clsC)∧(∀(j:Nat) c,m.classes[j]? = some c→∃c',cs[j]? = some c'∧CpC (n+2) n' h' c c')∧∃os:List OpT,os.length=m.ops.length∧OwnE (n+2) n' h' v5 eOp 6 m.ops.length (os.flatMap opC)∧(∀(j:Nat) o,j<i→m.ops[j]? = some o→∃o',os[j]? = some o'∧CpO (n+2) n' h' o o')∧∀j,i≤j→os[j]? = m.ops[j]?) (fun i=>m.ops.length - i) 0 (by repeat' first|exact trivial|refine⟨rfl,?_⟩) ⟨ht,by omega,d0,d1,Nat.zero_le _,wc,fun j c e=>hdone j c (List.getElem?_eq_some_iff.1 e).1 e,m.ops,rfl,wo,fun j c hj=>by omega,fun _ _=>rfl⟩ ?_;clear wo wc hdone d0 d1 ht
 rintro i t h' n' ⟨ht,hn',d0,d1,hi,wc,hcd,os,hol,wo,hdone,hsame⟩
 have hn9:=ht.le;by_cases hlt:i<m.ops.length
 · have c0:m.ops[i]? = some m.ops[i]:=List.getElem?_eq_getElem hlt;generalize m.ops[i]=o at c0
   have c0':os[i]? = some o:=by rw[hsame i (Nat.le_refl _)];exact c0
   have hx:=List.mem_of_getElem? c0;have ho:=ownE_pos wo (by omega);obtain⟨bb,rfl,hb1,hb2⟩:=own_head ho (by omega);have hor:=ho.row (by decide);have y3:zD h' bb (i*6+3)=some o.usv:=own_at ho (by decide) (uN (f:=opC) (sz:=6) (fun _=>rfl) c0' (j:=3) rfl);have y5:zD h' bb (i*6+5)=some o.csv:=own_at ho (by decide) (uN (f:=opC) (sz:=6) (fun _=>rfl) c0' (j:=5) rfl);have iad:=iadO (sz:=6) (b:=bb) (cap:=inf) hlt;have zu:=mm.opsu o hx 0;have zv:=mm.opsc o hx 0;have hxo:=zu.one;have hxv:=zv.one;have hle:=sm.opu o hx;have hle2:=sm.opc o hx;repeat' first|refine ob (a:=ptr bb (i*6)) ?_ iad|refine st ?_|refine ob ?_|refine ob1 ?_|refine cT ?_|refine cF ?_|refine zC ?_|refine cX (fun _=>?_) fun _=>?_|fail
   refine vR (clone_opr ((mm.tch ht hlo).opsu o hx _) (by omega) (oprC_one _) (by omega)) ?_
   rintro v7 h7 n7 ⟨w7,t7⟩
   have hn7:=t7.le;have ov7:=yZ w7;have w7r:=w7.row (by decide);have ho7:=ho.tch t7 (by simp);have z5:zD h7 bb (i*6+5)=some o.csv:=own_at ho7 (by decide) (uN (f:=opC) (sz:=6) (fun _=>rfl) c0' (j:=5) rfl);repeat' first|refine ob (a:=ptr bb (i*6)) ?_ iad|refine st ?_|refine ob ?_|refine ob1 ?_|refine cT ?_|refine cF ?_|refine zC ?_|refine cX (fun _=>?_) fun _=>?_|fail
   refine vR (clone_str (((mm.tch ht hlo).tch t7 (by omega)).opsc o hx _) (by omega) (str_one _) (by omega)) ?_
   rintro v8 h8 n8 ⟨w8,t8⟩
   have hn8:=t8.le;have ov8:=yZ w8;have w8r:=w8.row (by decide);have ho8:=ho7.tch t8 (by simp);have wc8:=(wc.tch t7 (by simp)).tch t8 (by simp);have hfl:(os.flatMap opC).length=os.length*6:=flat_len (f:=opC) (sz:=6) (fun _=>rfl) os;have hvl:i*6+3<(os.flatMap opC).length:=by omega
   have hp:=own_put (x:=v7) ho8 rfl hvl;rw [flat_set (f:=opC) (sz:=6) (y:=⟨o.name,o.d,v7,o.uses,o.tie,o.csv,o.clob⟩) (fun _=>rfl) (by decide) rfl c0']at hp;have c0s:(os.set i ⟨o.name,o.d,v7,o.uses,o.tie,o.csv,o.clob⟩)[i]? = some ⟨o.name,o.d,v7,o.uses,o.tie,o.csv,o.clob⟩:=List.getElem?_set_self (by omega);have hvl2:i*6+5<((os.set i ⟨o.name,o.d,v7,o.uses,o.tie,o.csv,o.clob⟩).flatMap opC).length:=by rw[flat_len (f:=opC) (sz:=6) (fun _=>rfl),List.length_set];omega
   repeat' first|refine ob (a:=ptr bb (i*6)) ?_ iad|refine ob (a:=hst (hst _ bb (i*6+3) [v7]) bb (i*6+5) [v8]) ?_ (stp_own hp rfl hvl2 ov8)|refine ob (a:=hst _ bb (i*6+3) [v7]) ?_ (stp_own ho8 rfl hvl ov7)|refine st ?_|refine ob ?_|refine ob1 ?_|refine cT ?_|refine cF ?_|refine zC ?_|refine cX (fun _=>?_) fun _=>?_|fail
   have hp2:=own_put (x:=v8) hp rfl hvl2;rw [flat_set (f:=opC) (sz:=6) (y:=⟨o.name,o.d,v7,o.uses,o.tie,v8,o.clob⟩) (fun _=>rfl) (by decide) rfl c0s]at hp2;have tB:Tch [bb] h8 n8 (hst (hst h8 bb (i*6+3) [v7]) bb (i*6+5) [v8]) n8:=zA
   exact⟨i+1,(by dsimp only;omega),(by repeat' first|exact trivial|refine⟨rfl,?_⟩),zA,by omega,zE,zE,by omega,wc8.tch tB (uT wc8 ho8 (.inl (by decide)) (by decide)).no,fun j c e=>by
    obtain⟨c',e1,e2⟩:=hcd j c e;have e2:=CpC.tchS (CpC.tchS e2 t7 (by simp)) t8 (by simp);exact⟨c',e1,CpC.tchS e2 tB (uT e2.row ho8 (.inl (by decide)) (by decide)).no⟩,_,by rw[List.length_set,List.length_set];exact hol,.inl hp2,fun j c1 hj e=>by
    rcases Nat.lt_succ_iff_lt_or_eq.1 hj with h9|rfl
    · obtain⟨c',e1,e2⟩:=hdone j c1 h9 e;have e2:=CpO.tchS (CpO.tchS e2 t7 (by simp) (by simp)) t8 (by simp) (by simp);exact⟨c',by rw[List.getElem?_set_ne (by omega),List.getElem?_set_ne (by omega)];exact e1,CpO.tchS e2 tB (uT e2.ru ho8 (.inl (by decide)) (by decide)).no (uT e2.rc ho8 (.inl (by decide)) (by decide)).no⟩
    · rw[c0]at e;cases e;have w7':=w7.tch t8 (by simp);exact⟨_,List.getElem?_set_self (by rw[List.length_set];omega),rfl,rfl,rfl,rfl,rfl,xU (w7'.tch tB (ownE_lt w7' (by omega))) (by omega),xU (w8.tch tB (ownE_lt w8 (by omega))) (by omega)⟩,fun j hj=>by rw[List.getElem?_set_ne (by omega),List.getElem?_set_ne (by omega)];exact hsame j (by omega)⟩
 obtain rfl:i=m.ops.length:=by omega
 clear hsame hlt hi;have s3:=sm.args;have s4:=sm.saved;repeat' first|refine st ?_|refine ob ?_|refine ob1 ?_|refine cT ?_|refine cF ?_|refine zC ?_|refine cX (fun _=>?_) fun _=>?_|fail
 refine vR (clone_str ((mm.tch ht hlo).args _) (by omega) (str_one _) (by omega)) ?_
 rintro v7 h7 n7 ⟨w7,t7⟩
 have hn7:=t7.le;have ov7:=yZ w7;have w7r:=w7.row (by decide);repeat' first|refine st ?_|refine ob ?_|refine ob1 ?_|refine cT ?_|refine cF ?_|refine zC ?_|refine cX (fun _=>?_) fun _=>?_|fail
 refine vR (clone_str (((mm.tch ht hlo).tch t7 (by omega)).saved _) (by omega) (str_one _) (by omega)) ?_
 rintro v8 h8 n8 ⟨w8,t8⟩
 have hn8:=t8.le;have ov8:=yZ w8;have w8r:=w8.row (by decide);have wcr:=yZ wc;have wor:=yZ wo;repeat' first|refine st ?_|refine ob ?_|refine ob1 ?_|refine cT ?_|refine cF ?_|refine zC ?_|refine cX (fun _=>?_) fun _=>?_|fail
 have q1:Cel (hst (hst (hst h8 n (0+4) [v7]) n (0+6) [v8]) (n+1) 0 [str m.name,v1,v4,v5,v7,str m.result,v8,I64 m.slots]) (n+1) zMc 0 [str m.name,v1,v4,v5,v7,str m.result,v8,I64 m.slots]:=zE;have tE:Tch [n,n+1] h8 n8 (hst (hst (hst h8 n (0+4) [v7]) n (0+6) [v8]) (n+1) 0 [str m.name,v1,v4,v5,v7,str m.result,v8,I64 m.slots]) n8:=zA;have tF:Tch [n,n+1] h' n' (hst (hst (hst h8 n (0+4) [v7]) n (0+6) [v8]) (n+1) 0 [str m.name,v1,v4,v5,v7,str m.result,v8,I64 m.slots]) n8:=zA;have tG:Tch [n,n+1] h7 n7 (hst (hst (hst h8 n (0+4) [v7]) n (0+6) [v8]) (n+1) 0 [str m.name,v1,v4,v5,v7,str m.result,v8,I64 m.slots]) n8:=zA;have tZ:Tch [] h n (hst (hst (hst h8 n (0+4) [v7]) n (0+6) [v8]) (n+1) 0 [str m.name,v1,v4,v5,v7,str m.result,v8,I64 m.slots]) n8:=zA;refine ob (a:=[.agg ⟨[str m.name,v1,v4,v5,v7,str m.result,v8,I64 m.slots]⟩]) ?_ (rs_agg (b:=n+1) (off:=0) (by(apply lk_box;((conv=>lhs;whnf) <;> exact rfl))) rfl (by simp) fun j x hj=>(congrArg (zD _ _) (Nat.zero_add j)).trans ((q1.2 j).trans hj))
 repeat' first|refine st ?_|refine ob ?_|refine ob1 ?_|refine cT ?_|refine cF ?_|refine zC ?_|refine cX (fun _=>?_) fun _=>?_|fail
 have no:∀{lo' n1 h1 v e sz len vs},OwnE lo' n1 h1 v e sz len vs→n+2≤lo'→∀b,zN v=some b→b∉[n,n+1]:=fun o hl b hb hx=>by
  have:=o.low b (by rw[hb];simp);simp at hx;omega
 exact⟨_,rfl,⟨m.name,v1,m.regs,v4,cs,v5,os,v7,m.args,m.result,v8,m.saved,m.slots⟩,rfl,⟨rfl,rfl,rfl,rfl,rfl,ov1,hcl,xU (wc.tch tF (no wc (Nat.le_refl _))) (by omega),fun j c e=>by
  obtain⟨c',e1,e2⟩:=hcd j c e;have e3:=CpC.tchS e2 tF (no e2.row (Nat.le_refl _));exact⟨c',e1,e3.nm,e3.rg,xU e3.row (by omega)⟩,hol,xU (wo.tch tF (no wo (Nat.le_refl _))) (by omega),fun j o e=>by
  obtain⟨o',e1,e2⟩:=hdone j o (List.getElem?_eq_some_iff.1 e).1 e;have e3:=CpO.tchS e2 tF (no e2.ru (Nat.le_refl _)) (no e2.rc (Nat.le_refl _));exact⟨o',e1,e3.nm,e3.d,e3.tie,e3.us,e3.cb,xU e3.ru (by omega),xU e3.rc (by omega)⟩,xU (w7.tch tG (no w7 (by omega))) (by omega),xU (w8.tch tE (no w8 (by omega))) (by omega)⟩,tZ⟩
end Go.Proofs.YtcmohelnoldfbaaGreat
namespace Go.Proofs.YtcmohelnoldfbaaGreat
open Go Go.Ex Go.Ex.M
set_option maxRecDepth 100000
set_option maxHeartbeats 8000000
attribute [local simp] wX
abbrev tU:Nat:=168
abbrev tSet:Nat:=93
theorem rs1A{ty i b o:Nat}[s:ShC P ty (.agg 1)]{l:List (Nat×Value)}{t:Fr}{h:zB}{x:Value}(e:lk l t i=ptr b o)(c:zD h b o=some x):Rs P l t h [.cell i ty] [.agg ⟨[x]⟩]:=⟨_,_,rfl,by rw[e];exact load_agg s.ok rfl (by decide) (rowAt.cons c (rowAt.nil _ _ _)),rfl⟩
theorem kep_full{ty e sz lo n len k:Nat}{h:zB}{v:Value}{vs:List Value}[s:SlC P ty e sz](o:Own lo n h v e sz len vs)(hk:k≤len)(hl:len<1000000)(hs:1≤sz):∃v',wZ P h ty v none (some (I64 (k:Nat))) (some (I64 (k:Nat)))=some v'∧Kep lo n h v' e sz k (vs.take (k*sz))∧zN v'=zN v:=by
 obtain⟨v',h1,h2,h3,h4⟩:=slice_full (P:=P) (ty:=ty) o hk hl hs;refine⟨v',h1,?_,h3⟩;rcases o with⟨rfl,rfl,rfl⟩|⟨b,q1,q2,rfl,q3,q4,q5,q6⟩
 · have:k=0:=by omega
   subst this;rcases h4 with rfl|⟨b,rfl⟩
   · exact .inl ⟨rfl,rfl,by simp⟩
   · cases h3
 · rcases h4 with rfl|⟨b',rfl⟩
   · cases h3
   · injection h3 with h3
     have h3:b'=b:=h3;subst h3;have hkl:k*sz≤len*sz:=Nat.mul_le_mul_right _ hk;have hinf:(1000000:Nat)≤inf:=by decide
     refine .inr ⟨b',k,vs.length,q1,q2,rfl,q3,by rw[List.length_take];omega,by rw[List.length_take];omega,fun i hi=>?_,.inl ⟨by omega,Nat.le_refl _⟩⟩;rw [List.length_take]at hi;rw [q6 i,List.getElem?_take_of_lt (by omega)]
theorem trimmed_ret{lo n:Nat}{h:zB}{v:Value}{ws:List Nat}(o:Own lo n h v tU 1 ws.length (ws.map U64))(hw:∀w∈ws,w<18446744073709551616)(hl:ws.length≤1024):Ret P 0 97 [v] h n fun r h' n'=>∃sv xs,r = .agg ⟨[sv]⟩∧SetW xs∧(∀k,vP xs k=vP ws k)∧Kep lo n' h' sv tU 1 xs.length (xs.map U64)∧zN sv=zN v∧Tch [] h n h' n':=by
 refine ent fun u=>?_;have r0:=o.row (by decide);repeat' first|refine st ?_|refine ob ?_|refine ob1 ?_|refine cT ?_|refine cF ?_|refine zC ?_|refine cX (fun _=>?_) fun _=>?_|fail
 refine lpR (fun k:Nat=>[(0,v),(2,ptr n 0),(3,I64 k)]) (fun k h' n'=>Tch [] h n h' n'∧n<n'∧Cel h' n (tSet+1) 0 [.slice none 0 0]∧k≤ws.length∧tT ws k=tT ws ws.length) (fun k=>k) ws.length (by repeat' first|exact trivial|refine⟨rfl,?_⟩) ⟨zA,by omega,zE,Nat.le_refl _,rfl⟩ ?_
 rintro k t h' n' ⟨ht,hn',hc,hk,htr⟩
 have o':=o.tch ht (by simp);have r':=o'.row (by decide)
 cases k with
 | zero=>
  have e0:tT ws ws.length=0:=by rw[← htr];rfl
  obtain⟨sv,hs,hkr,hb⟩:=kep_full (ty:=91) (k:=0) o' (Nat.zero_le _) (by omega) (by decide);have hs1:=hkr.one;obtain⟨sp,sc,rfl⟩:=(hkr.row (by decide)).sl;repeat' first|refine st ?_|refine ob ?_|refine ob1 ?_|refine cT ?_|refine cF ?_|refine zC ?_|refine cX (fun _=>?_) fun _=>?_|refine ob (a:=[.agg ⟨[_]⟩]) ?_ (rs1A (by(apply lk_box;((conv=>lhs;whnf) <;> exact rfl))) zL)|fail
  exact⟨_,rfl,_,ws.take (tT ws ws.length),rfl,trim_set hw hl,trim_has ws,by rw[e0];exact hkr.tch (S:=[n]) zA (fun b hb2 hx=>by simp at hx;have:=(o.blk (hb ▸ hb2)).2;omega),hb,zA⟩
 | succ k=>
  have c0:ws[k]? = some ws[k]:=List.getElem?_eq_getElem (by omega);generalize ws[k]=w at c0
  have c1:zD h' (sbk v) (sof v+k*1)=some (U64 w):=by rw[Nat.mul_one];exact r'.at (by rw[List.getElem?_map,c0];rfl)
  have ek:((k+1:Nat):Int) - 1=(k:Nat):=by omega
  have bn:∀ty ox oy,Bn P .sub ty ox oy (I64 ((k+1:Nat):Int)) (I64 1) (I64 (k:Nat)):=fun ty ox oy=>by rw[← ek];exact bn_sub (by omega)
  by_cases hw0:w=0
  · subst hw0;have hz:tT ws (k+1)=tT ws k:=by rw[show tT ws (k+1)=if ws[k]? = some 0 then tT ws k else k+1 from rfl,if_pos c0]
    repeat' first|refine ob (a:=I64 (k:Nat)) ?_ (bn _ _ _)|refine st ?_|refine ob ?_|refine ob1 ?_|refine cT ?_|refine cF ?_|refine zC ?_|refine cX (fun _=>?_) fun _=>?_|fail
    exact⟨k,by dsimp only;omega,(by repeat' first|exact trivial|refine⟨rfl,?_⟩),ht,hn',hc,by omega,by rw[← hz];exact htr⟩
  · have hz:tT ws ws.length=k+1:=by rw[← htr,show tT ws (k+1)=if ws[k]? = some 0 then tT ws k else k+1 from rfl,if_neg (by rw[c0];simpa using hw0)]
    obtain⟨sv,hs,hkr,hb⟩:=kep_full (ty:=91) (k:=k+1) o' hk (by omega) (by decide);have hs1:=hkr.one;obtain⟨sp,sc,rfl⟩:=(hkr.row (by decide)).sl;repeat' first|refine ob (a:=I64 (k:Nat)) ?_ (bn _ _ _)|refine ob (a:=[.agg ⟨[_]⟩]) ?_ (rs1A (by(apply lk_box;((conv=>lhs;whnf) <;> exact rfl))) zL)|refine st ?_|refine ob ?_|refine ob1 ?_|refine cT ?_|refine cF ?_|refine zC ?_|refine cX (fun _=>?_) fun _=>?_|fail
    exact⟨_,rfl,_,ws.take (tT ws ws.length),rfl,trim_set hw hl,trim_has ws,by
     rw[hz,List.length_take,Nat.min_eq_left hk,List.map_take];rw [Nat.mul_one]at hkr;exact hkr.tch (S:=[n]) zA (fun b hb2 hx=>by simp at hx;have:=(o.blk (hb ▸ hb2)).2;omega),hb,zA⟩
theorem max_q{a b:Nat}{tys:List Nat}{h:zB}:Qb P .max tys [I64 (a:Nat),I64 (b:Nat)] h (some (I64 ((max a b:Nat):Int))):=by
 show aMax true (I64 (a:Nat)) [I64 (b:Nat)]=_;unfold aMax;show some (Value.int .i64 (cond (iltB (a:Nat) (b:Nat)) ((b:Nat):Int) ((a:Nat):Int)))=_;rw [iltB_eq];by_cases h9:a<b
 · rw[decide_eq_true (by omega),Nat.max_eq_right (by omega)];rfl
 · rw[decide_eq_false (by omega),Nat.max_eq_left (by omega)];rfl
theorem u_at{ws:List Nat}{i w:Nat}(h:ws[i]? = some w):(ws.map U64)[i]? = some (U64 w):=by rw[List.getElem?_map,h];rfl
theorem of_ret{lo e n:Nat}{h:zB}{sv:Value}{l:List Int}(r:Row lo h sv e 1 l.length (l.map I64))(hlo:lo≤n)(hl:l.length<inf):Ret P 0 41 [sv] h n fun v h' n'=>∃wv ws,v = .agg ⟨[wv]⟩∧SetW ws∧(∀k:Nat,vP ws k=true↔((k:Nat):Int)∈l∧k≤65535)∧Kep n n' h' wv tU 1 ws.length (ws.map U64)∧Tch [] h n h' n':=by
 have hinf:inf<4611686018427387904:=by decide
 have rl:=r.low;refine ent fun u=>?_;repeat' first|refine st ?_|refine ob ?_|refine ob1 ?_|refine cT ?_|refine cF ?_|refine zC ?_|refine cX (fun _=>?_) fun _=>?_|fail
 refine lpR (α :=Nat×Value×List Nat) (fun a=>[(2,ptr n 0),(3,a.2.1),(6,sv),(7,I64 l.length),(8,I64 a.1)]) (fun a h' n'=>Tch [] h n h' n'∧n<n'∧Cel h' n (tSet+1) 0 [.slice none 0 0]∧a.1≤l.length∧Own (n+1) n' h' a.2.1 tU 1 a.2.2.length (a.2.2.map U64)∧(∀w∈a.2.2,w<18446744073709551616)∧a.2.2.length≤1024∧∀k:Nat,vP a.2.2 k=true↔((k:Nat):Int)∈l.take a.1∧k≤65535) (fun a=>l.length - a.1) (0,.slice none 0 0,[]) (by repeat' first|exact trivial|refine⟨rfl,?_⟩) ⟨zA,by omega,zE,Nat.zero_le _,Own.nil,fun w hw=>(by cases hw),Nat.zero_le _,fun k=>⟨fun h9=>(by simp[vP]at h9),fun h9=>(by simp at h9)⟩⟩ ?_
 rintro ⟨i,wv,ws⟩ t h' n' ⟨ht,hn',hc,hi,ho,hw,hwl,hh⟩
 dsimp only at hi ho hw hwl hh ⊢;have r':=r.tch ht hlo fun _ _ hx=>(by cases hx);by_cases hlt:i<l.length
 · have c0:l[i]? = some l[i]:=List.getElem?_eq_getElem hlt;generalize l[i]=x at c0
   have c1:=yX r' c0;have nxt:∀k:Nat,((k:Nat):Int)∈l.take (i+1)↔((k:Nat):Int)∈l.take i∨((k:Nat):Int)=x:=fun k=>by rw[xN c0,List.mem_append];simp
   by_cases hx:x<0∨65535<x
   · have done:∀k:Nat,vP ws k=true↔((k:Nat):Int)∈l.take (i+1)∧k≤65535:=fun k=>by
      rw[hh k,nxt k];constructor
      · rintro ⟨h1,h2⟩;exact⟨.inl h1,h2⟩
      · rintro ⟨h1|h1,h2⟩
        · exact⟨h1,h2⟩
        · omega
     rcases hx with hx|hx
     · repeat' first|refine st ?_|refine ob ?_|refine ob1 ?_|refine cT ?_|refine cF ?_|refine zC ?_|refine cX (fun _=>?_) fun _=>?_|fail
       exact⟨(i+1,wv,ws),(by dsimp only;omega),(by repeat' first|exact trivial|refine⟨rfl,?_⟩),ht,hn',hc,by omega,ho,hw,hwl,done⟩
     · repeat' first|refine st ?_|refine ob ?_|refine ob1 ?_|refine cT ?_|refine cF ?_|refine zC ?_|refine cX (fun _=>?_) fun _=>?_|fail
       exact⟨(i+1,wv,ws),(by dsimp only;omega),(by repeat' first|exact trivial|refine⟨rfl,?_⟩),ht,hn',hc,by omega,ho,hw,hwl,done⟩
   · obtain⟨a,rfl⟩:=Int.eq_ofNat_of_zero_le (show 0≤x by omega);have ha:a≤65535:=by omega
     repeat' first|refine st ?_|refine ob ?_|refine ob1 ?_|refine cT ?_|refine cF ?_|refine zC ?_|refine cX (fun _=>?_) fun _=>?_|fail
     refine lpR (α :=Value×List Nat) (fun b=>[(2,ptr n 0),(3,b.1),(5,I64 (a:Nat)),(6,sv),(7,I64 l.length),(8,I64 i)]) (fun b h2 n2=>Tch [] h n h2 n2∧n<n2∧Cel h2 n (tSet+1) 0 [.slice none 0 0]∧Own (n+1) n2 h2 b.1 tU 1 b.2.length (b.2.map U64)∧(∀w∈b.2,w<18446744073709551616)∧b.2.length≤1024∧∀k:Nat,vP b.2 k=vP ws k) (fun b=>1025 - b.2.length) (wv,ws) (by repeat' first|exact trivial|refine⟨rfl,?_⟩) ⟨ht,hn',hc,ho,hw,hwl,fun _=>rfl⟩ ?_;clear c1 r' ho hw hwl hc ht hn'
     rintro ⟨v2,w2⟩ t h2 n2 ⟨ht,hn',hc,ho,hw,hwl,he⟩
     dsimp only at ho hw hwl he ⊢;have ro:=ho.row (by decide);by_cases hgo:w2.length≤a / 64
     · repeat' first|refine st ?_|refine ob ?_|refine ob1 ?_|refine cT ?_|refine cF ?_|refine zC ?_|refine cX (fun _=>?_) fun _=>?_|fail
       refine appN (ho.tch (S:=[]) zA (by simp)) (zS (e:=tU) (sz:=1) (len:=1) rfl (by decide)) (by decide) ⟨rfl,trivial⟩ (by omega) ?_
       rintro v3 h3 n3 ho3 ht3
       have hn3:=ht3.le;have ht4:Tch [] h n h3 n3:=Tch.tch ht3 zA fun b hb=>.inl (by have:=zZ ho b hb;omega);have hc3:Cel h3 n (tSet+1) 0 [.slice none 0 0]:=(hc.hal (by omega)).tch ht3 (by omega) (fun hx=>by have:=zZ ho _ hx;omega);repeat' first|refine st ?_|refine ob ?_|refine ob1 ?_|refine cT ?_|refine cF ?_|refine zC ?_|refine cX (fun _=>?_) fun _=>?_|fail
       exact⟨(v3,w2++[0]),by dsimp only;rw [List.length_append];simp;omega,(by repeat' first|exact trivial|refine⟨rfl,?_⟩),ht4,by omega,hc3,by rw[List.length_append,List.map_append];exact ho3.dnl (by omega),fun w hw9=>by
        rcases List.mem_append.1 hw9 with h9|h9
        · exact hw w h9
        · simp at h9;subst h9;decide,by rw[List.length_append];simp;omega,fun k=>by rw[has_grow];exact he k⟩
     · have hq:a / 64<w2.length:=by omega
       obtain⟨bb,rfl,hb1,hb2⟩:=own_head ho (by omega);have d0:w2[a / 64]? = some w2[a / 64]:=List.getElem?_eq_getElem hq;have hwl2:w2[a / 64]<18446744073709551616:=hw _ (List.getElem_mem hq);have hgd:(w2[a / 64]?).getD 0=w2[a / 64]:=by rw[d0];rfl
       have hput:=fun k=>has_put (k:=k) hq;rw [hgd]at hput;generalize w2[a / 64]=w at *
       have hlm:(w2.map U64).length=w2.length:=List.length_map _
       have d1:zD h2 bb (a / 64)=some (U64 w):=by
        have:=ro.at (u_at d0)
        rwa [show sof (.slice (some ⟨bb,0,none⟩) w2.length inf)+a / 64=a / 64 from Nat.zero_add _]at this
       have hpm:2 ^ (a % 64)<18446744073709551616:=Nat.pow_lt_pow_right (by decide) (Nat.mod_lt _ (by decide));have hor:=or_lt hwl2 (Nat.mod_lt a (show 0<64 by decide));have hnb:n≠bb:=by omega
       have iad:Iad 1 (.slice (some ⟨bb,0,none⟩) w2.length inf) (I64 ((a / 64:Nat):Int)) (ptr bb (a / 64)):=⟨bb,0,w2.length,inf,.i64,a / 64,rfl,rfl,hq,by rw[Nat.zero_add,Nat.mul_one]⟩;repeat' first|refine ob (a:=ptr bb (a / 64)) ?_ iad|refine ob (a:=hst _ bb (a / 64) [U64 (w ||| 2 ^ (a % 64))]) ?_ (stp_own ho rfl (by omega) rfl)|refine st ?_|refine ob ?_|refine ob1 ?_|refine cT ?_|refine cF ?_|refine zC ?_|refine cX (fun _=>?_) fun _=>?_|fail
       have hp:=own_put ho (i:=a / 64) (x:=U64 (w ||| 2 ^ (a % 64))) rfl (by omega);refine⟨(i+1,.slice (some ⟨bb,0,none⟩) w2.length inf,w2.set (a / 64) (w ||| 2 ^ (a % 64))),(by dsimp only;omega),by simpa only[List.length_set] using (by repeat' first|exact trivial|refine⟨rfl,?_⟩),zA,by omega,zV,by omega,by rw[List.length_set,List.map_set];exact hp,fun y hy=>?_,by rw[List.length_set];exact hwl,fun k=>?_⟩
       · rcases List.mem_or_eq_of_mem_set hy with h9|h9
         · exact hw y h9
         · subst h9;exact hor
       · rw[hput k,Bool.or_eq_true,he k,hh k,nxt k,decide_eq_true_eq];constructor
         · rintro (⟨h1,h2⟩|rfl)
           · exact⟨.inl h1,h2⟩
           · exact⟨.inr rfl,ha⟩
         · rintro ⟨h1|h1,h2⟩
           · exact .inl ⟨h1,h2⟩
           · exact .inr (by omega)
 · obtain rfl:i=l.length:=by omega
   repeat' first|refine st ?_|refine ob ?_|refine ob1 ?_|refine cT ?_|refine cF ?_|refine zC ?_|refine cX (fun _=>?_) fun _=>?_|fail
   refine vR (trimmed_ret ho hw hwl) ?_
   rintro _ h3 n3 ⟨wv2,xs,rfl,s1,s2,s3,s4,ht3⟩
   have hw1:=s3.one;have hn3:=ht3.le;repeat' first|refine st ?_|refine ob ?_|refine ob1 ?_|refine cT ?_|refine cF ?_|refine zC ?_|refine cX (fun _=>?_) fun _=>?_|refine ob (a:=[.agg ⟨[_]⟩]) ?_ (rs1A (by(apply lk_box;((conv=>lhs;whnf) <;> exact rfl))) zL)|fail
   exact⟨_,rfl,_,xs,rfl,s1,fun k=>by rw[s2 k,hh k,List.take_length],(s3.tch (S:=[n]) zA (fun b hb2 hx=>by simp at hx;have:=(s3.blk hb2).1;omega)).dnl (by omega),zA⟩
end Go.Proofs.YtcmohelnoldfbaaGreat
namespace Go.Proofs.YtcmohelnoldfbaaGreat
open Go Go.Ex Go.Ex.M
set_option maxRecDepth 100000
set_option maxHeartbeats 8000000
theorem zat_pur{lo e n:Nat}{h:zB}{sv:Value}{ws:List Nat}(r:Row lo h sv e 1 ws.length (ws.map U64))(i:Nat):Pur P 0 163 [sv,I64 (i:Nat)] h n (U64 ((ws[i]?).getD 0)):=by
 refine ent fun u=>?_;by_cases hlt:i<ws.length
 · have c0:ws[i]? = some ws[i]:=List.getElem?_eq_getElem hlt;generalize ws[i]=w at c0
   have c1:zD h (sbk sv) (sof sv+i*1)=some (U64 w):=by rw[Nat.mul_one];exact r.at (u_at c0)
   repeat' first|refine st ?_|refine ob ?_|refine ob1 ?_|refine cT ?_|refine cF ?_|refine zC ?_|refine cX (fun _=>?_) fun _=>?_|fail
   exact fin (by rw[c0];rfl)
 · repeat' first|refine st ?_|refine ob ?_|refine ob1 ?_|refine cT ?_|refine cF ?_|refine zC ?_|refine cX (fun _=>?_) fun _=>?_|fail
   exact fin (by rw[List.getElem?_eq_none (by omega)];rfl)
theorem sub1_pur{x y n:Nat}{h:zB}(hx:x<18446744073709551616)(hy:y<18446744073709551616):Pur P 0 152 [U64 x,U64 y] h n (U64 (x ^^^ (x &&& y))):=by
 refine ent fun u=>?_;repeat' first|refine st ?_|refine ob ?_|refine ob1 ?_|refine cT ?_|refine cF ?_|refine zC ?_|refine cX (fun _=>?_) fun _=>?_|fail
 exact fin rfl
theorem zsub_ret{lo e n:Nat}{h:zB}{av bv:Value}{a b:List Nat}(ra:Row lo h av e 1 a.length (a.map U64))(rb:Row lo h bv e 1 b.length (b.map U64))(hlo:lo≤n)(ha:∀w∈a,w<18446744073709551616)(hb:∀w∈b,w<18446744073709551616)(hal:a.length≤1024)(hbl:b.length≤1024):Ret P 0 107 [av,bv,.func (.func 152) ⟨[]⟩ ⟨[]⟩] h n fun v h' n'=>Own n n' h' v tU 1 (subW a b).length ((subW a b).map U64)∧Tch [] h n h' n':=by
 have hm:max a.length b.length≤1024:=by omega
 have el:(subW a b).length=max a.length b.length:=by unfold subW;simp
 have eat:∀i,i<max a.length b.length→(subW a b)[i]? = some ((a[i]?).getD 0 ^^^ ((a[i]?).getD 0 &&& (b[i]?).getD 0)):=fun i hi=>by unfold subW;rw [List.getElem?_map,List.getElem?_range hi];rfl
 refine ent fun u=>?_;repeat' first|refine st ?_|refine ob ?_|refine ob1 ?_|refine cT ?_|refine cF ?_|refine zC ?_|refine cX (fun _=>?_) fun _=>?_|refine ob (a:=some (I64 ((max a.length b.length:Nat):Int))) ?_ max_q|fail
 generalize max a.length b.length=M at *
 refine lpR (α :=Nat×Value) (fun q=>[(0,av),(1,bv),(2,.func (.func 152) ⟨[]⟩ ⟨[]⟩),(7,.func (.func 163) ⟨[]⟩ ⟨[]⟩),(8,q.2),(14,I64 M),(15,I64 q.1)]) (fun q h' n'=>Tch [] h n h' n'∧q.1≤M∧Own n n' h' q.2 tU 1 q.1 (((subW a b).take q.1).map U64)) (fun q=>M - q.1) (0,.slice none 0 0) (by repeat' first|exact trivial|refine⟨rfl,?_⟩) ⟨zA,Nat.zero_le _,Own.nil⟩ ?_
 rintro ⟨i,ov⟩ t h' n' ⟨ht,hi,ho⟩
 dsimp only at hi ho ⊢;have hn':=ht.le;have ra':=ra.tch ht hlo fun _ _ hx=>(by cases hx);have rb':=rb.tch ht hlo fun _ _ hx=>(by cases hx);by_cases hlt:i<M
 · have c0:=eat i hlt;have hxa:=getD_lt ha i;have hxb:=getD_lt hb i;repeat' first|refine st ?_|refine ob ?_|refine ob1 ?_|refine cT ?_|refine cF ?_|refine zC ?_|refine cX (fun _=>?_) fun _=>?_|refine zY (zat_pur ra' i) ?_|refine zY (zat_pur rb' i) ?_|refine zY (sub1_pur hxa hxb) ?_|fail
   refine appO (ho.tch (S:=[]) zA (by simp)) (zS (e:=tU) (sz:=1) (len:=1) rfl (by decide)) (by omega) ⟨rfl,trivial⟩ (by omega) ?_
   rintro v' h3 n3 ho3 ht3
   have hn3:=ht3.le;have ht4:Tch [] h n h3 n3:=Tch.tch ht3 zA fun x hx=>.inl (zZ ho x hx);repeat' first|refine st ?_|refine ob ?_|refine ob1 ?_|refine cT ?_|refine cF ?_|refine zC ?_|refine cX (fun _=>?_) fun _=>?_|fail
   exact⟨(i+1,v'),(by dsimp only;omega),(by repeat' first|exact trivial|refine⟨rfl,?_⟩),ht4,by omega,by rw[xN c0,List.map_append];exact ho3⟩
 · obtain rfl:i=M:=by omega
   repeat' first|refine st ?_|refine ob ?_|refine ob1 ?_|refine cT ?_|refine cF ?_|refine zC ?_|refine cX (fun _=>?_) fun _=>?_|fail
   exact⟨_,rfl,by rw[el];rwa [List.take_of_length_le (by omega)]at ho,ht⟩
theorem sub_ret{lo e n:Nat}{h:zB}{av bv:Value}{a b:List Nat}(ra:Row lo h av e 1 a.length (a.map U64))(rb:Row lo h bv e 1 b.length (b.map U64))(hlo:lo≤n)(ha:SetW a)(hb:SetW b):Ret P 0 99 [.agg ⟨[av]⟩,.agg ⟨[bv]⟩] h n fun v h' n'=>∃wv ws,v = .agg ⟨[wv]⟩∧SetW ws∧(∀k:Nat,vP ws k=(vP a k && !vP b k))∧Kep n n' h' wv tU 1 ws.length (ws.map U64)∧Tch [] h n h' n':=by
 have o1:=ra.one;have o2:=rb.one;have hal:=ha.le;have hbl:=hb.le;refine ent fun u=>?_;repeat' first|refine st ?_|refine ob ?_|refine ob1 ?_|refine cT ?_|refine cF ?_|refine zC ?_|refine cX (fun _=>?_) fun _=>?_|fail
 refine vR (zsub_ret (Row.tch (S:=[]) ra zA hlo (by simp)) (Row.tch (S:=[]) rb zA hlo (by simp)) (by omega) ha.lt hb.lt hal hbl) ?_
 rintro z h2 n2 ⟨ho,ht2⟩
 have hn2:=ht2.le;have el:(subW a b).length=max a.length b.length:=by unfold subW;simp
 have hlt:∀w∈subW a b,w<18446744073709551616:=fun w hw=>by
  unfold subW at hw;obtain⟨i,_,rfl⟩:=List.mem_map.1 hw;exact andn_lt (getD_lt ha.lt i)
 have hc2:Cel h2 (n+2) (tSet+1) 0 [.slice none 0 0]:=zE;have htn:Tch [] h n h2 n2:=zA;clear ht2;repeat' first|refine st ?_|refine ob ?_|refine ob1 ?_|refine cT ?_|refine cF ?_|refine zC ?_|refine cX (fun _=>?_) fun _=>?_|fail
 refine vR (trimmed_ret ho hlt (by omega)) ?_
 rintro _ h3 n3 ⟨wv2,xs,rfl,s1,s2,s3,s4,ht3⟩
 have hw1:=s3.one;have hn3:=ht3.le;repeat' first|refine st ?_|refine ob ?_|refine ob1 ?_|refine cT ?_|refine cF ?_|refine zC ?_|refine cX (fun _=>?_) fun _=>?_|refine ob (a:=[.agg ⟨[_]⟩]) ?_ (rs1A (by(apply lk_box;((conv=>lhs;whnf) <;> exact rfl))) zL)|fail
 exact⟨_,rfl,_,xs,rfl,s1,fun k=>by rw[s2 k,sub_has],(s3.tch (S:=[n+2]) zA (fun b hb2 hx=>by simp at hx;have:=(s3.blk hb2).1;omega)).dnl (by omega),zA⟩
theorem has_pur{lo e n:Nat}{h:zB}{wv:Value}{ws:List Nat}(r:Row lo h wv e 1 ws.length (ws.map U64))(hlo:lo≤n)(hs:SetW ws)(k:Int)(hk:k<9223372036854775808):Pur P 0 80 [.agg ⟨[wv]⟩,I64 k] h n (.bool (decide (0≤k) && vP ws k.toNat)):=by
 have o1:=r.one;have rl:=r.low;have hle:=hs.le;refine Com.pure (ent fun u=>?_) (.inl rfl);by_cases h0:0≤k
 · obtain⟨a,rfl⟩:=Int.eq_ofNat_of_zero_le h0;have e0:(decide (0≤((a:Nat):Int)) && vP ws ((a:Nat):Int).toNat)=vP ws a:=by rw[decide_eq_true h0];rfl
   by_cases hlt:a / 64<ws.length
   · have c0:ws[a / 64]? = some ws[a / 64]:=List.getElem?_eq_getElem hlt;have hw:=hs.lt _ (List.getElem_mem hlt);generalize ws[a / 64]=w at c0 hw
     have c1:zD h (sbk wv) (sof wv+a / 64*1)=some (U64 w):=by rw[Nat.mul_one];exact r.at (u_at c0)
     have e1:vP ws a=w.testBit (a % 64):=by unfold vP;rw [c0];rfl
     have hsh:w >>> (a % 64)<18446744073709551616:=Nat.lt_of_le_of_lt (Nat.shiftRight_le w (a % 64)) hw;have hl:=rl (by omega);repeat' first|refine st ?_|refine ob ?_|refine ob1 ?_|refine cT ?_|refine cF ?_|refine zC ?_|refine cX (fun _=>?_) fun _=>?_|fail
     exact finT (by
      rw[e0,e1];congr 1
      exact Bool.eq_iff_iff.2 (by rw[decide_eq_true_iff];exact bit_has)) zA
   · have e1:vP ws a=false:=by unfold vP;rw [List.getElem?_eq_none (by omega)];simp
     repeat' first|refine st ?_|refine ob ?_|refine ob1 ?_|refine cT ?_|refine cF ?_|refine zC ?_|refine cX (fun _=>?_) fun _=>?_|fail
     all_goals first|exact finT (by rw[e0,e1]) zA|(exfalso;omega)
 · have e0:(decide (0≤k) && vP ws k.toNat)=false:=by rw[decide_eq_false h0];rfl
   repeat' first|refine st ?_|refine ob ?_|refine ob1 ?_|refine cT ?_|refine cF ?_|refine zC ?_|refine cX (fun _=>?_) fun _=>?_|fail
   all_goals first|exact finT (by rw[e0]) zA|(exfalso;omega)
end Go.Proofs.YtcmohelnoldfbaaGreat
namespace Go.Ex
def Kx(e:Nat)(h:zB)(n:Nat)(h':zB)(n':Nat):Prop:=n≤n'∧∀b m z,b<n→z≠zc e 1→xD (zF h b)=some (m,z,1)→zF h' b=zF h b
section
variable {e e' sz lo lo' n n' n2 len:Nat} {h h' h2:zB} {v v':Value} {vs cs:List Value}
theorem Tch.kx(t:Tch [] h n h' n'):Kx e h n h' n':=⟨t.1,fun b _ _ hb _ _=>t.2 b hb (by simp)⟩
theorem kx_own(o:Own lo n h v e 1 len vs)(t:Tch (zN v).toList h n h' n'):Kx e h n h' n':=⟨t.1,fun b m z hb hz hi=>t.2 b hb fun hx=>by
 rcases o with⟨rfl,_⟩|⟨b2,q1,q2,rfl,p3,_⟩
 · cases hx
 · have hx:b∈(some b2).toList:=hx;simp at hx;subst hx;rw [p3]at hi;injection hi with hi
   injection hi with _ hi
   injection hi with hi _
   exact hz hi.symm⟩
theorem kx_cel{bt z:Nat}(c:Cel h bt z 0 cs)(t:Tch [bt] h n h' n'):Kx e h n h' n':=⟨t.1,fun b m z' hb hz hi=>t.2 b hb fun hx=>by
 simp at hx;subst hx;rw [c.1]at hi;exact absurd (kd_of hi) (by decide)⟩
theorem Kx.trans(k:Kx e h n h' n')(k2:Kx e h' n' h2 n2):Kx e h n h2 n2:=⟨Nat.le_trans k.1 k2.1,fun b m z hb hz hi=>by
 have e1:=k.2 b m z hb hz hi;rw [k2.2 b m z (Nat.lt_of_lt_of_le hb k.1) hz (by rw[e1];exact hi),e1]⟩
theorem Own.kx(o:Own lo n h v e' sz len vs)(k:Kx e h n h' n')(hne:e'≠e∨sz≠1):Own lo n' h' v e' sz len vs:=by
 rcases o with o|⟨b2,q1,q2,rfl,p3,p4,p5,p6⟩
 · exact .inl o
 · have ek:=k.2 b2 _ _ q2 (fun hz=>by have:=zc_inj hz;omega) p3;exact .inr ⟨b2,q1,Nat.lt_of_lt_of_le q2 k.1,rfl,by rw[ek];exact p3,p4,p5,fun i=>by unfold zD;rw [ek];exact p6 i⟩
theorem Kep.kx(o:Kep lo n h v e' sz len vs)(k:Kx e h n h' n')(hne:e'≠e∨sz≠1):Kep lo n' h' v e' sz len vs:=by
 rcases o with o|⟨b2,cap,m,q1,q2,rfl,p3,p4,p5,p6,p7⟩
 · exact .inl o
 · have ek:=k.2 b2 _ _ q2 (fun hz=>by have:=zc_inj hz;omega) p3;exact .inr ⟨b2,cap,m,q1,Nat.lt_of_lt_of_le q2 k.1,rfl,by rw[ek];exact p3,p4,p5,fun i hi=>by unfold zD;rw [ek];exact p6 i hi,p7⟩
end
def Lst{α : Type}(e:Nat)(val: α→Value)(El:Nat→Nat→zB→α→Prop)(lo n:Nat)(h:zB)(v:Value)(L:List α):Prop:=Own lo n h v e 1 L.length (L.map val)∧∀x∈L,El lo n h x
section
variable {α : Type} {e e2 lo lo' n n':Nat} {val: α→Value} {El:Nat→Nat→zB→α→Prop} {h h':zB} {v v':Value} {L:List α} {x: α}
theorem Lst.nil:Lst e val El lo n h (.slice none 0 0) []:=⟨Own.nil,fun x hx=>by cases hx⟩
theorem Lst.kx(o:Lst e val El lo n h v L)(k:Kx e2 h n h' n')(hne:e≠e2)(hEl:∀x,El lo n h x→El lo n' h' x):Lst e val El lo n' h' v L:=⟨o.1.kx k (.inl hne),fun x hx=>hEl x (o.2 x hx)⟩
theorem Lst.cel{bt z:Nat}{cs:List Value}(o:Lst e val El lo n h v L)(c:Cel h bt z 0 cs)(t:Tch [bt] h n h' n')(hEl:∀x,El lo n h x→El lo n' h' x):Lst e val El lo n' h' v L:=⟨o.1.tch t (fun b hb hx=>by simp at hx;subst hx;exact yE c o.1 (by rw[hb];simp)),fun x hx=>hEl x (o.2 x hx)⟩
theorem Lst.app(o:Lst e val El lo n h v L)(o':Own n n' h' v' e 1 (L.length+1) (L.map val++[val x]))(hn:lo≤n)(hEl:∀y,El lo n h y→El lo n' h' y)(hx:El lo n' h' x):Lst e val El lo n' h' v' (L++[x]):=⟨by rw[List.length_append,List.map_append];exact o'.dnl hn,fun y hy=>by
 rcases List.mem_append.1 hy with h9|h9
 · exact hEl y (o.2 y h9)
 · simp at h9;subst h9;exact hx⟩
end
end Go.Ex
namespace Go.Proofs.YtcmohelnoldfbaaGreat
open Go Go.Ex Go.Ex.M
set_option maxRecDepth 100000
set_option maxHeartbeats 8000000
attribute [local simp] wX
abbrev eInt:Nat:=3
abbrev eSet:Nat:=93
abbrev yU:Nat:=45
abbrev eSets:Nat:=89
abbrev zTb:Nat:=95+1
def SetEl(lo n:Nat)(h:zB)(p:Value×List Nat):Prop:=SetW p.2∧Kep lo n h p.1 tU 1 p.2.length (p.2.map U64)
def IntEl(lo n:Nat)(h:zB)(p:Value×List Int):Prop:=Own lo n h p.1 eInt 1 p.2.length (p.2.map I64)
abbrev Sets(lo n:Nat)(h:zB)(v:Value)(L:List (Value×List Nat)):Prop:=Lst eSet (fun p:Value×List Nat=>p.1) SetEl lo n h v L
abbrev Ints(lo n:Nat)(h:zB)(v:Value)(L:List (Value×List Int)):Prop:=Lst yU (fun p:Value×List Int=>p.1) IntEl lo n h v L
theorem SetEl.kx{e lo n n':Nat}{h h':zB}{p:Value×List Nat}(s:SetEl lo n h p)(k:Kx e h n h' n')(hne:tU≠e):SetEl lo n' h' p:=⟨s.1,s.2.kx k (.inl hne)⟩
theorem IntEl.kx{e lo n n':Nat}{h h':zB}{p:Value×List Int}(s:IntEl lo n h p)(k:Kx e h n h' n')(hne:eInt≠e):IntEl lo n' h' p:=Own.kx s k (.inl hne)
theorem yD{e lo n n':Nat}{h h':zB}{v:Value}{L:List (Value×List Nat)}(o:Sets lo n h v L)(k:Kx e h n h' n')(h1:eSet≠e)(h2:tU≠e):Sets lo n' h' v L:=o.kx k h1 fun _ s=>SetEl.kx s k h2
theorem wU{e lo n n':Nat}{h h':zB}{v:Value}{L:List (Value×List Int)}(o:Ints lo n h v L)(k:Kx e h n h' n')(h1:yU≠e)(h2:eInt≠e):Ints lo n' h' v L:=o.kx k h1 fun _ s=>IntEl.kx s k h2
def LapW(ps:List Pl)(j:Nat)(ws:List Nat):Prop:=∀k,vP ws k=match ps[j]?,ps[k]? with|some a,some b=>tJ a b|_,_=>false
variable {lo bt n:Nat} {h:zB} {psv:Value} {ps:List Pl} {x0 x1 x2 x3 x4 x5 x6 x7 x8 x10 x11 x12 x14 x15 x16 x17 x18 x19 x20:Value}
theorem lapping_com(hc:Cel h bt zTb 0 [x0,x1,x2,x3,x4,x5,x6,x7,x8,psv,x10,x11,x12,.slice none 0 0,x14,x15,x16,x17,x18,x19,x20])(hb:bt<n)(op:Own lo n h psv ePl 3 ps.length (ps.flatMap plC))(hlo:lo≤n)(hl:ps.length≤200)(hpl:∀p∈ps,PlG p):Com P 0 42 [ptr bt 0] h n fun o h' n'=>o = .ret (.tuple #[])∧Tch [bt] h n h' n'∧∃lv L,Cel h' bt zTb 0 [x0,x1,x2,x3,x4,x5,x6,x7,x8,psv,x10,x11,x12,lv,x14,x15,x16,x17,x18,x19,x20]∧Sets n n' h' lv L∧L.length=ps.length∧∀(j:Nat) p,L[j]? = some p→LapW ps j p.2:=by
 have hinf:inf<4611686018427387904:=by decide
 have hinf2:1000000≤inf:=by decide
 have hpb:=yE hc op;have rp:=op.row (by decide);refine ent fun u=>?_;repeat' first|refine st ?_|refine ob ?_|refine ob1 ?_|refine cT ?_|refine cF ?_|refine zC ?_|refine cX (fun _=>?_) fun _=>?_|fail
 refine lpR (fun i:Nat=>[(0,ptr bt 0),(10,psv),(11,I64 ps.length),(12,I64 i)]) (fun i h' n'=>Tch [bt] h n h' n'∧i≤ps.length∧∃lv L,Cel h' bt zTb 0 [x0,x1,x2,x3,x4,x5,x6,x7,x8,psv,x10,x11,x12,lv,x14,x15,x16,x17,x18,x19,x20]∧Sets n n' h' lv L∧L.length=i∧∀(j:Nat) p,L[j]? = some p→LapW ps j p.2) (fun i=>ps.length - i) 0 (by repeat' first|exact trivial|refine⟨rfl,?_⟩) ⟨zA,Nat.zero_le _,_,[],hc,Lst.nil,rfl,fun j p e=>by cases e⟩ ?_;clear rp
 rintro i t h' n' ⟨ht,hi,lv,L,hc',hS,hLl,hL⟩
 have hn':=ht.le;have op':=op.tch ht (yQ hpb);have rp':=op'.row (by decide);by_cases hlt:i<ps.length
 · have c0:ps[i]? = some ps[i]:=List.getElem?_eq_getElem hlt;generalize ps[i]=p at c0
   have c1:=zM rp' c0;have hpm:=List.mem_of_getElem? c0;have hlow:=rp'.low (by omega);repeat' first|refine st ?_|refine ob ?_|refine ob1 ?_|refine cT ?_|refine cF ?_|refine zC ?_|refine cX (fun _=>?_) fun _=>?_|fail
   refine lpR (α :=Nat×Value×List Int) (fun a=>[(0,ptr bt 0),(3,ptr n' 0),(4,a.2.1),(10,psv),(11,I64 ps.length),(12,I64 i),(19,psv),(20,I64 ps.length),(21,I64 a.1)]) (fun a h2 n2=>Tch [] h' n' h2 n2∧n'<n2∧Cel h2 n' (ePl+1) 0 (plC p)∧a.1≤ps.length∧Own n' n2 h2 a.2.1 eInt 1 a.2.2.length (a.2.2.map I64)∧a.2.2.length≤a.1∧∀k:Nat,((k:Nat):Int)∈a.2.2↔k<a.1∧∃q,ps[k]? = some q∧tJ p q=true) (fun a=>ps.length - a.1) (0,.slice none 0 0,[]) (by repeat' first|exact trivial|refine⟨rfl,?_⟩) ⟨zA,by omega,zE,Nat.zero_le _,Own.nil,Nat.le_refl _,fun k=>⟨fun h=>(by cases h),fun h=>by omega⟩⟩ ?_
   rintro ⟨q,v4,l4⟩ t h2 n2 ⟨ht2,hn2,hcp,hq,ho,hll,hin⟩
   dsimp only at hq ho hll hin ⊢;have op2:=op'.tch ht2 (by simp);have rp2:=op2.row (by decide);by_cases hlt2:q<ps.length
   · have d0:ps[q]? = some ps[q]:=List.getElem?_eq_getElem hlt2;generalize ps[q]=y at d0
     have d1:=zM rp2 d0;have hym:=List.mem_of_getElem? d0;have hlow2:=rp2.low (by omega);repeat' first|refine st ?_|refine ob ?_|refine ob1 ?_|refine cT ?_|refine cF ?_|refine zC ?_|refine cX (fun _=>?_) fun _=>?_|refine zY (lap_pur _ _ (hpl p hpm).ok (hpl y hym).ok _ _) ?_|fail
     · rename_i f1;refine appO (ho.tch (S:=[]) zA (by simp)) (zS (e:=eInt) (sz:=1) (len:=1) rfl (by decide)) (by omega) ⟨rfl,trivial⟩ (by omega) ?_
       rintro v5 h5 n5 ho5 ht5
       have hn5:=ht5.le;have ht6:Tch [] h' n' h5 n5:=Tch.tch ht5 zA fun x hx=>.inl (zZ ho x hx);have hcp5:Cel h5 n' (ePl+1) 0 (plC p):=Cel.app (hcp.tch (S:=[]) zA (by omega) (by simp)) (ho.tch (S:=[]) zA (by simp)) ht5 (by omega);repeat' first|refine st ?_|refine ob ?_|refine ob1 ?_|refine cT ?_|refine cF ?_|refine zC ?_|refine cX (fun _=>?_) fun _=>?_|fail
       exact⟨(q+1,v5,l4++[((q:Nat):Int)]),(by dsimp only;omega),(by repeat' first|exact trivial|refine⟨rfl,?_⟩),ht6,by omega,hcp5,by dsimp only;omega,by dsimp only;rw [List.length_append,List.map_append];exact ho5,by dsimp only;rw [List.length_append];simp;omega,fun k=>by
        dsimp only;rw [List.mem_append,hin k];refine⟨fun h9=>?_,fun⟨h9,z,e,e2⟩=>?_⟩
        · rcases h9 with⟨h9,h8⟩|h9
          · exact⟨by omega,h8⟩
          · simp at h9;have h9:k=q:=by omega
            subst h9;exact⟨Nat.lt_succ_self _,y,d0,f1⟩
        · rcases Nat.lt_succ_iff_lt_or_eq.1 h9 with h9|rfl
          · exact .inl ⟨h9,z,e,e2⟩
          · exact .inr (by simp)⟩
     · rename_i f1
       exact⟨(q+1,v4,l4),(by dsimp only;omega),(by repeat' first|exact trivial|refine⟨rfl,?_⟩),zA,by omega,zE,by dsimp only;omega,ho.tch (S:=[]) zA (by simp),by dsimp only;omega,fun k=>by
        dsimp only;rw [hin k];refine⟨fun⟨h9,h8⟩=>⟨by omega,h8⟩,fun⟨h9,z,e,e2⟩=>?_⟩;rcases Nat.lt_succ_iff_lt_or_eq.1 h9 with h9|rfl
        · exact⟨h9,z,e,e2⟩
        · rw[d0]at e;cases e;rw [f1]at e2;cases e2⟩
   · obtain rfl:q=ps.length:=by omega
     have hcb:Cel h2 bt zTb 0 [x0,x1,x2,x3,x4,x5,x6,x7,x8,psv,x10,x11,x12,lv,x14,x15,x16,x17,x18,x19,x20]:=zE;have lrow:=hS.1.row (by decide);have lone:=hS.1.one;have o4:=ho.one;have tq:Tch [] h' n' h2 n2:=ht2;repeat' first|refine st ?_|refine ob ?_|refine ob1 ?_|refine cT ?_|refine cF ?_|refine zC ?_|refine cX (fun _=>?_) fun _=>?_|fail
     refine vR (of_ret (ho.row (by decide)) (by omega) (by omega)) ?_
     rintro _ h5 n5 ⟨wv,ws,rfl,hsw,hws,kw,t5⟩
     have hn5:=t5.le;have wone:=kw.one;have tq5:Tch [] h' n' h5 n5:=Tch.tch t5 tq (by simp);have hS5:=yD (e:=yU) hS tq5.kx (by decide) (by decide);have hcb5:=hcb.tch t5 (by omega) (by simp);clear hcp ht2 op2 rp2 t5 tq;have hSX:∀x,Sets n (n5+1) (hal h5 n5 x) lv L:=fun x=>yD (e:=yU) hS5 (Tch.kx (zA:Tch [] h5 n5 (hal h5 n5 x) (n5+1))) (by decide) (by decide);repeat' first|refine st ?_|refine ob ?_|refine ob1 ?_|refine cT ?_|refine cF ?_|refine zC ?_|refine cX (fun _=>?_) fun _=>?_|fail
     refine appN (hSX _).1 (zS (e:=eSet) (sz:=1) (len:=1) rfl (by decide)) (by decide) ⟨wone,trivial⟩ (by omega) ?_
     rintro v6 h6 n6 o6 t6
     have hn6:=t6.le;have o6o:=o6.one;have hcb6:=Cel.app (Cel.tch (S:=[]) hcb5 zA (by omega) (by simp)) (hSX _).1 t6 (by omega);have kx6:Kx eSet _ _ h6 n6:=kx_own (hSX _).1 t6;have hS6:Sets n n6 h6 v6 (L++[(wv,ws)]):=Lst.app (hSX _) o6 (by omega) (fun y s=>SetEl.kx s kx6 (by decide)) (SetEl.kx (n:=n5+1) (h:=hal h5 n5 _) ⟨hsw,Kep.kx (Kep.dnl kw (by omega)) (Tch.kx (e:=yU) (zA:Tch [] h5 n5 _ _)) (.inl (by decide))⟩ kx6 (by decide));have tb5:Tch [bt] h n h5 n5:=Tch.tch tq5 ht (by simp);have tz6:Tch [bt] h n h6 n6:=Tch.tch t6 (zA:Tch [bt] h n (hal h5 n5 _) (n5+1)) fun x hx=>.inl (zZ (hSX (mkC [wv] 0 0)).1 x hx);clear hSX hS5 tq5 tb5 t6;repeat' first|refine st ?_|refine ob ?_|refine ob1 ?_|refine cT ?_|refine cF ?_|refine zC ?_|refine cX (fun _=>?_) fun _=>?_|fail
     have tS:Tch [bt] h6 n6 (hst h6 bt (0+13) [v6]) n6:=zA;have kS:Kx yU h6 n6 (hst h6 bt (0+13) [v6]) n6:=kx_cel hcb6 tS
     exact⟨i+1,(by dsimp only;omega),(by repeat' first|exact trivial|refine⟨rfl,?_⟩),zA,by omega,v6,L++[(wv,ws)],zE,yD hS6 kS (by decide) (by decide),by rw[List.length_append,hLl];rfl,fun j r e=>by
      rcases Nat.lt_or_ge j L.length with h9|h9
      · rw[List.getElem?_append_left h9]at e;exact hL j r e
      · rw[List.getElem?_append_right h9]at e
        have h8:j - L.length=0:=by
         rcases Nat.eq_zero_or_pos (j - L.length) with h8|h8
         · exact h8
         · rw[List.getElem?_eq_none (by simp;omega)]at e;cases e
        rw[h8]at e;cases e
        obtain rfl:j=i:=by omega
        intro k;rw [c0];have h7:=hws k;rw [hin k]at h7
        cases e9:ps[k]? with
        | none =>
         show vP ws k=false
         cases e8:vP ws k with
         | false=>rfl
         | true=>
          obtain⟨⟨_,z,e7,_⟩,_⟩:=h7.1 e8;rw [e9]at e7;cases e7
        | some z=>
         show vP ws k=tJ p z;have hk:=(List.getElem?_eq_some_iff.1 e9).1;refine Bool.eq_iff_iff.2 (h7.trans ⟨fun⟨⟨_,z',e7,e6⟩,_⟩=>?_,fun e7=>⟨⟨hk,z,e9,e7⟩,by omega⟩⟩);rw [e9]at e7;cases e7;exact e6⟩
 · obtain rfl:i=ps.length:=by omega
   repeat' first|refine st ?_|refine ob ?_|refine ob1 ?_|refine cT ?_|refine cF ?_|refine zC ?_|refine cX (fun _=>?_) fun _=>?_|fail
   exact⟨rfl,ht,lv,L,hc',hS,hLl,hL⟩
end Go.Proofs.YtcmohelnoldfbaaGreat
