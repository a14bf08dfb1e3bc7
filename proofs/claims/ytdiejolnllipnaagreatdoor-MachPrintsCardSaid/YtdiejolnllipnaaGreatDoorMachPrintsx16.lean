/- What the law leans on, part 16 of 24. Conditions: those that each theorem states. -/
import Derived.Test.YtdiejolnllipnaaGreatDoorMachPrintsx13
import Derived.Test.YtdiejolnllipnaaGreatDoorMachPrintsx14
import Derived.Test.YtdiejolnllipnaaGreatDoorMachPrintsx11

set_option linter.unusedVariables false
set_option linter.unusedSimpArgs false
namespace Go.Proofs.YtdiejolnllipnaaGreatDoor
open Go Go.Ex Go.Ex.M
set_option maxRecDepth 100000
set_option maxHeartbeats 8000000
section
abbrev zGeo:Nat:=224+1
def GErr(h:zB)(bg:Nat)(e:Int):Prop:=∃nsv psv,Cel h bg zGeo 0 [nsv,psv,I64 e]/\nsv.oneCell'=true/\psv.oneCell'=true
structure Gm (n0:Nat) (h:zB) (n bg:Nat) (nsv psv:Value) (s:GSt):Prop where
 cel:Cel h bg zGeo 0 [nsv,psv,I64 0]
 on:Own n0 n h nsv tStr 1 s.ns.length (s.ns.map str)
 op:Own n0 n h psv tPl 3 s.ps.length (s.ps.flatMap plC)
abbrev gS(bg:Nat)(nsv psv:Value):List Nat:=bg::((zH nsv).toList++(zH psv).toList)
theorem gS_fp{bg n:Nat}{nsv psv v:Value}(f:Fp n nsv v\/Fp n psv v):∀b∈(zH v).toList,n<=b\/b∈gS bg nsv psv:=λb hb=>by
 cases e:zH v with
 | none=>rw [e]at hb;cases hb
 | some c=>
  rw[e]at hb;simp at hb;subst hb;rcases f with f|f
  . rcases f b e with h9|h9
    . exact .inr (by simp[h9])
    . exact .inl h9
  . rcases f b e with h9|h9
    . exact .inr (by simp[h9])
    . exact .inl h9
theorem plg_b{p:Pl}(h:PlG p):PlB p:=by unfold PlG at h;unfold PlB;omega
theorem gdown_take{k:Nat}{d:Int}{base:Pl}{l:List RegT}{s:GSt}{e:Int}{i:Nat}(h:(l.take i).foldl (uV (yU k (d+1)) d base) (.ok ([],s)) = .error e):yU (k+1) d base l s = .error e:=by
 unfold yU;have e1:l=l.take i++l.drop i:=(dH i l).symm;rw [e1,cj,h,wC]
theorem gstep_at{k:Nat}{d:Int}{base:Pl}{l:List RegT}{s:GSt}{i:Nat}{x:RegT}{y:Except Int (List Pl×GSt)}(hx:l[i]? = some x)(h:(l.take i).foldl (uV (yU k (d+1)) d base) (.ok ([],s))=y):(l.take (i+1)).foldl (uV (yU k (d+1)) d base) (.ok ([],s))=uV (yU k (d+1)) d base y x:=by
 rw[yV hx,cj,h];rfl
def DnS(lo n0 bg k:Nat):Prop:=∀(d:Int) (base:Pl) (l:List RegT) (sv:Value) (s:GSt) (root:Int) (h:zB) (n:Nat) (nsv psv:Value),d+k=7->0<d->(d=1/\base=⟨0,0,0⟩)\/(PlG base/\root=base.root/\d≠1)->bg<n0->lo<=bg->n0<=n->RegsM lo h sv l->GOK s->Gm n0 h n bg nsv psv s->
 Com P 8 160 [ptr bg 0,sv,I64 d,I64 root,I64 base.at_,I64 base.width] h n λo h' n'=>o = .ret (.tuple #[])/\Tch (gS bg nsv psv) h n h' n'/\
  ((∃e,yU (k+1) d base l s = .error e/\GErr h' bg e)\/∃s' nsv' psv',yU (k+1) d base l s = .ok s'/\Gm n0 h' n' bg nsv' psv' s'/\GOK s'/\Fp n nsv nsv'/\Fp n psv psv')
theorem rdown_step{lo n0 bg k:Nat}(hrec:∀k',k=k'+1->DnS lo n0 bg k'):DnS lo n0 bg k:=by
 intro d base l sv s root h n nsv psv hd h0d hb hbg kI gt hr hs hg;have r0:=hr.row 0;have hl:=hr.row.lt;have eM:inf<4611686018427387904:=by decide
 refine ent λu=>?_;repeat' first|refine wk ?_|apply cX <;> intro
 refine lpR (α :=Nat×Value×Value×Value×(Int×Int)×List Pl×GSt×Int) (λa=>[(0,ptr bg 0),(1,sv),(2,I64 d),(3,I64 a.2.2.2.2.1.1),(4,I64 a.2.2.2.2.1.2),(5,I64 base.width),(12,a.2.1),(13,I64 a.1)])
  (λa h' n'=>Tch (gS bg nsv psv) h n h' n'/\a.1<=l.length/\(a.2.2.2.2.2.2.2≠0->(l.take a.1).foldl (uV (yU k (d+1)) d base) (.ok ([],s)) = .error a.2.2.2.2.2.2.2/\GErr h' bg a.2.2.2.2.2.2.2)/\(a.2.2.2.2.2.2.2=0->(l.take a.1).foldl (uV (yU k (d+1)) d base) (.ok ([],s)) = .ok (a.2.2.2.2.2.1,a.2.2.2.2.2.2.1)/\Gm n0 h' n' bg a.2.2.1 a.2.2.2.1 a.2.2.2.2.2.2.1/\GOK a.2.2.2.2.2.2.1/\(∀p∈a.2.2.2.2.2.1,PlG p)/\a.2.2.2.2.2.1.length=a.1/\a.2.2.2.2.2.1.length<=a.2.2.2.2.2.2.1.ns.length/\Fp n nsv a.2.2.1/\Fp n psv a.2.2.2.1/\Own n n' h' a.2.1 tPl 3 a.1 (a.2.2.2.2.2.1.flatMap plC)/\Dj a.2.1 a.2.2.2.1)/\((d=1/\base=⟨0,0,0⟩)\/(PlG base/\a.2.2.2.2.1.1=base.root/\d≠1))/\a.2.2.2.2.1.2=base.at_)
  (λa=>l.length - a.1) (0,.slice none 0 0,nsv,psv,(root,base.at_),[],s,0) ⟨zA,an _,λh9=>absurd rfl h9,λ_=>⟨rfl,hg,hs,λp hp=>(by cases hp),rfl,an _,Fp.refl _ _,Fp.refl _ _,Own.nil,Dj.nil _⟩,hb,rfl⟩ ?_
 rintro ⟨i,dv,nsv',psv',⟨root',from'⟩,sibs,s',err⟩ t h' n' ⟨ht,hi,hE,hO,fg,md⟩
 dsimp only at hi hE hO fg md ⊢;subst md;have eP:=ht.le;by_cases he:err=0
 . subst he;obtain⟨hf,hg',hs',hsib,fB,hsn,fp1,fp2,hdo,hdj⟩:=hO rfl;clear hE hO;have hcg:=hg'.cel;have fW:=hg'.on.one;have ho2:=hg'.op.one
   have gA:∀b∈gS bg nsv psv,lo<=b:=λb fk=>by
    rcases au.1 fk with rfl|fk
    . exact kI
    . rcases aA.1 fk with fk|fk
      . have:=zQ hg.on b fk;omega
      . have:=zQ hg.op b fk;omega
   have hrm:RegsM lo h' sv l:=RegsM.tch (Tch.dn ht qJ  gA) (ad _) hr;have r':=hrm.row 0;by_cases eD:i<l.length
   . have c0:l[i]? = some l[i]:=aa eD;generalize l[i]=x at c0
     have jU:=ae c0;have fm:=((hrm.sub jU).row 0).one;have c1:=zM r' c0;have gW:=r'.low qJ;have bad:∀e:Int,sV d base sibs s' x = .error e->∀h2 n2,Tch (gS bg nsv psv) h n h2 n2->GErr h2 bg e->Out.ret (.tuple #[])=Out.ret (.tuple #[])/\Tch (gS bg nsv psv) h n h2 n2/\((∃e,yU (k+1) d base l s = .error e/\GErr h2 bg e)\/∃s' nsv' psv',yU (k+1) d base l s = .ok s'/\Gm n0 h2 n2 bg nsv' psv' s'/\GOK s'/\Fp n nsv nsv'/\Fp n psv psv'):=λe h9 h2 n2 t2 g2=>⟨rfl,t2,.inl ⟨e,gdown_take (i:=i+1) (by rw[gstep_at c0 hf,gStep_e1 h9]),g2⟩⟩;have on':=hg'.on;have rn':=on'.row qK;have gN:=hs'.le;have rd':=hdo.row qK;rcases fg with⟨gV,hbase⟩|⟨hpg,hroot,gV⟩
     . have hba:base.at_=0:=by rw[hbase]
       repeat' first|refine wk ?_|refine cX (λ_=>?_) λ_=>?_|refine zS (find_pur (Row.tch (S:=[]) rn' zA (ad _) qL) qJ) ?_|fail
       . rename_i f1;exact bad 2 (gOne2 qJ qJ) _ _ zA ⟨_,_,zC,fW,ho2⟩
       . rename_i f1 f2;exact bad 5 (gOne5 qJ qJ  (.inl f2)) _ _ zA ⟨_,_,zC,fW,ho2⟩
       . rename_i f1 f2 f3;exact bad 5 (gOne5 qJ qJ  (.inr (pos_ge.1 f3))) _ _ zA ⟨_,_,zC,fW,ho2⟩
       iterate 4
        . exact bad 6 (gOne6 qJ qJ qP  (λh9=>by have:=pos_ge.2 h9;omega) qJ) _ _ zA ⟨_,_,zC,fW,ho2⟩
       have ju:¬6<d:=by omega
       have ii:¬200<=s'.ns.length:=by omega
       have eO:named x.name=true:=by assumption
       have fN:x.name∉s'.ns:=λh9=>by have:=pos_ge.2 h9;omega
       have iZ:¬(x.w<1\/64<x.w\/x.a<0\/(d=1/\x.a≠0)\/(d≠1/\base.width - x.w<x.a)):=by omega
       have hw:gPl d base sibs x=⟨(i:Nat),0+x.a,x.w⟩:=by unfold gPl;rw [if_pos gV,fB];simp
       have hpG:PlG ⟨(i:Nat),0+x.a,x.w⟩:=by unfold PlG;dsimp only;omega
       have hbo:d=1\/PlG base:=.inl gV;have jt:((d=1/\base=⟨0,0,0⟩)\/(PlG base/\((i:Nat):Int)=base.root/\d≠1))/\0=base.at_:=⟨.inl ⟨gV,hbase⟩,hba.symm⟩;subst fB;refine lpR (λq:Nat=>[(0,ptr bg 0),(1,sv),(2,I64 d),(3,I64 (sibs.length:Nat)),(4,I64 0),(5,I64 base.width),(12,dv),(13,I64 sibs.length),(14,ptr n' 0),(16,ptr (n'+1) 0),(17,I64 q)]) (λq h2 n2=>Tch (gS bg nsv psv) h n h2 n2/\Tch [] h' n' h2 n2/\n'+2<=n2/\Cel h2 n' (114+1) 0 (regC x)/\Cel h2 (n'+1) (tPl+1) 0 (plC ⟨(sibs.length:Nat),0+x.a,x.w⟩)/\q<=sibs.length/\∀(j:Nat) y,j<q->sibs[j]? = some y->sU ⟨(sibs.length:Nat),0+x.a,x.w⟩ y=false) (λq=>sibs.length - q) 0 ⟨zA,zA,by omega,zC,zC,an _,λj _ hj=>absurd hj (aE _)⟩ ?_;have hpr:(⟨(sibs.length:Nat),0+x.a,x.w⟩:Pl).root=(sibs.length:Nat):=rfl;have hpw:(⟨(sibs.length:Nat),0+x.a,x.w⟩:Pl).width=x.w:=rfl;generalize (⟨(sibs.length:Nat),0+x.a,x.w⟩:Pl)=p at *
       rintro q t h2 n2 ⟨ht2,fl,hn2,hcr,hcp,hq,eG⟩
       have rd2:=rd'.tch (S:=[]) fl (ad _) qL;have hcg2:Cel h2 bg zGeo 0 [nsv',psv',I64 0]:=hcg.tch fl qJ qL;by_cases eK:q<sibs.length
       . have d0:sibs[q]? = some sibs[q]:=aa eK;generalize sibs[q]=y at d0
         have d1:=zM rd2 d0;have hly:=rd2.low qJ;repeat' first|refine wk ?_|refine cX (λ_=>?_) λ_=>?_|refine zS (rlap_pur _ _ (plg_b (hsib y (ae d0))) (plg_b hpG) _ _) ?_|fail
         . rename_i f1;exact bad 7 (gOne7 ju ii eO fN iZ (ap.2 ⟨y,ae d0,by rw[hw,uW];exact f1⟩)) _ _ zA ⟨_,_,zC,fW,ho2⟩
         . rename_i f1
           exact rnd (q+1) ⟨ht2,fl,hn2,hcr,hcp,by omega,λj w hj e=>by
            rcases ai.1 hj with h9|rfl
            . exact eG j w h9 e
            . rw[d0]at e;cases e;rw [uW];exact f1⟩
       . obtain rfl:q=sibs.length:=by omega
         have hok:sV d base sibs s' x = .ok p:=by
          rw[<- hw];exact gOneK ju ii eO fN iZ (by rw[hw];exact any_no λj y e=>eG j y (ab.1 e).1 e)
         obtain⟨_,_,hgok⟩:=gOne_ok hok hs' hbo;obtain⟨k',rfl⟩:∃k',k=k'+1:=⟨k - 1,by omega⟩;have hdo2:=hdo.tch fl qL;have on2:=hg'.on.tch fl qL;have op2:=hg'.op.tch fl qL;have tA:Tch [] h2 n2 (hal h2 n2 (mkC (plC p) 0 0)) (n2+1):=zA;clear fl rd2;repeat' first|refine wk ?_|apply cX <;> intro
         refine appN (hdo2.tch tA qL) (zF (e:=tPl) (sz:=3) (len:=1) rfl qK) qK  ⟨rfl,rfl,rfl,trivial⟩ qJ  ?_
         rintro dv3 h3 n3 hdo3 ht3
         have eS:=ht3.le;have hcr3:=Cel.app (hcr.tch tA qJ qL) (hdo2.tch tA qL) ht3 qJ;have hcp3:=Cel.app (hcp.tch tA qJ qL) (hdo2.tch tA qL) ht3 qJ;have hcg3:=Cel.app (hcg2.tch tA qJ qL) (hdo2.tch tA qL) ht3 qJ;have on3:=(on2.tch tA qL).tch ht3 (sQ (on2.tch tA qL) (hdo2.tch tA qL) (.inl qK)).no;have op3:=(op2.tch tA qL).tch ht3 hdj.comm.no;have iV:Tch (gS bg nsv psv) h n h3 n3:=Tch.tch ht3 (Tch.tch tA ht2 qL) λb hb=>.inl (zQ hdo2 b hb);have dj3:Dj dv3 psv':=(vM (op2.tch tA qL) hdo3).comm;replace hdo3:=hdo3.dnl (lo':=n) qJ;clear ht3 hcr hcp hcg2 on2 op2 hdo2 ht2 tA eG hdj;have tB:Tch [] h3 n3 (hal h3 n3 (mkC [str x.name] 0 0)) (n3+1):=zA;repeat' first|refine wk ?_|apply cX <;> intro
         refine appN (on3.tch tB qL) (zF (e:=tStr) (sz:=1) (len:=1) rfl qK) qK  ⟨rfl,trivial⟩ qJ  ?_
         rintro nsv4 h4 n4 on4 ht4
         have fi:=ht4.le;have hcr4:=Cel.app (hcr3.tch tB qJ qL) (on3.tch tB qL) ht4 qJ;have hcp4:=Cel.app (hcp3.tch tB qJ qL) (on3.tch tB qL) ht4 qJ;have hcg4:=Cel.app (hcg3.tch tB qJ qL) (on3.tch tB qL) ht4 qJ;have op4:=(op3.tch tB qL).tch ht4 (sQ (op3.tch tB qL) (on3.tch tB qL) (.inl qK)).no;have hdo4:=(hdo3.tch tB qL).tch ht4 (sQ (hdo3.tch tB qL) (on3.tch tB qL) (.inl qK)).no;have iW:Tch (gS bg nsv psv) h n h4 n4:=Tch.tch ht4 (Tch.tch tB iV qL) (gS_fp (.inl fp1));replace on4:=on4.dnl (lo':=n) qJ;have on4':=on4.one;clear ht4 iV;have tC:Tch [bg] h4 n4 (hal (hst h4 bg 0 [nsv4]) n4 (mkC (plC p) 0 0)) (n4+1):=zA;repeat' first|refine wk ?_|apply cX <;> intro
         refine appN (op4.tch tC (xX op4 hbg)) (zF (e:=tPl) (sz:=3) (len:=1) rfl qK) qK  ⟨rfl,rfl,rfl,trivial⟩ (by have:=hs'.len;omega) ?_
         rintro psv5 h5 n5 op5 ht5
         have fA:=ht5.le;have iC:Cel (hal (hst h4 bg 0 [nsv4]) n4 (mkC (plC p) 0 0)) bg zGeo 0 [nsv4,psv',I64 0]:=zC;have hcr5:=Cel.app (hcr4.tch tC qJ qM) (op4.tch tC (xX op4 hbg)) ht5 qJ;have hcp5:=Cel.app (hcp4.tch tC qJ qM) (op4.tch tC (xX op4 hbg)) ht5 qJ;have hcg5:=Cel.app iC (op4.tch tC (xX op4 hbg)) ht5 qJ;have on5:=(on4.tch tC (xX on4 qJ)).tch ht5 (sQ (on4.tch tC (xX on4 qJ)) (op4.tch tC (xX op4 hbg)) (.inl qK)).no;have hdo5:=(hdo4.tch tC (xX hdo4 qJ)).tch ht5 dj3.no;have ij:Tch (gS bg nsv psv) h n h5 n5:=Tch.tch ht5 (Tch.tch tC iW qL) (gS_fp (.inr fp2));have dj5:Dj dv3 psv5:=vM (hdo4.tch tC (xX hdo4 qJ)) op5;replace op5:=op5.dnl (lo':=n) qJ;have op5':=op5.one;clear ht5 iW tC tB iC;repeat' first|refine wk ?_|apply cX <;> intro
         have tD:Tch [bg] h5 n5 (hst h5 bg (0+1) [psv5]) n5:=zA;have ht6:Tch (gS bg nsv psv) h n (hst h5 bg (0+1) [psv5]) n5:=Tch.tch tD ij qL 
         have gm5:Gm n0 (hst h5 bg (0+1) [psv5]) n5 bg nsv4 psv5 ⟨s'.ns++[x.name],s'.ps++[p]⟩:=⟨zC,by
          have:=(on5.tch tD (xX on5 qJ)).dnl (lo':=n0) gt;rw [ah,aC];exact this,by
          have:=(op5.tch tD (xX op5 qJ)).dnl (lo':=n0) gt;rw [ah,aT];exact this⟩
         have rc:=hrec k' rfl (d+1) p x.subs x.sv ⟨s'.ns++[x.name],s'.ps++[p]⟩ (sibs.length:Nat) _ n5 nsv4 psv5 qJ qJ  (.inr ⟨hpG,hpr.symm,by omega⟩) hbg kI qJ  (RegsM.tch (Tch.dn ht6 qJ  gA) (ad _) (hr.sub jU)) hgok gm5;rw [hpw]at rc;refine cal rc ?_
         rintro _ h6 n6 ⟨rfl,ht7,gp⟩
         have fV:=ht7.le
         have ht8:Tch (gS bg nsv psv) h n h6 n6:=Tch.tch ht7 ht6 λb hb=>by
          rcases au.1 hb with rfl|hb
          . exact .inr qL 
          . rcases aA.1 hb with hb|hb
            . exact .inl (zQ on5 b hb)
            . exact .inl (zQ op5 b hb)
         rcases gp with⟨e,kF,hgr⟩|⟨s6,nsv6,psv6,kE,gm6,hgok6,f1,f2⟩
         . repeat' first|refine wk ?_|apply cX <;> intro
           exact rnd ((sibs.length+1,dv3,nsv4,psv5,((sibs.length:Nat),0),sibs,s',e)) ⟨ht8,by omega,λ_=>⟨by rw[gstep_at c0 hf,gStep_e2 hok kF],hgr⟩,λh9=>absurd h9 (gDown_err _ _ _ _ _ _ kF),jt⟩
         . repeat' first|refine wk ?_|apply cX <;> intro
           refine rnd ((sibs.length+1,dv3,nsv6,psv6,((sibs.length:Nat),0),sibs++[p],s6,0)) ⟨ht8,by omega,λh9=>absurd rfl h9,λ_=>⟨by rw[gstep_at c0 hf,gStep_ok hok kE],gm6,hgok6,λy hy=>?_,by rw[ah];rfl,by
            have:=gDown_ge _ _ _ _ _ _ kE;rw [ah]at *;simp only[ah,ay,aX]at this ⊢;omega,λb hb=>?_,λb hb=>?_,?_,dj5.fp f2 hdo5 (ad _)⟩,jt⟩
           . rcases aA.1 hy with h9|h9
             . exact hsib y h9
             . simp at h9;subst h9;exact hpG
           . rcases f1 b hb with h9|h9
             . exact .inr (on5.blk h9).1
             . exact .inr qJ 
           . rcases f2 b hb with h9|h9
             . exact .inr (op5.blk h9).1
             . exact .inr qJ 
           . rw[aT]
             exact((hdo5.tch tD (xX hdo5 qJ)).tch ht7 λb hb hx=>by
              rcases au.1 hx with rfl|hx
              . have:=(hdo5.blk hb).1;omega
              . rcases aA.1 hx with hx|hx
                . exact(sQ hdo5 on5 (.inl qK)).no b hb hx
                . exact dj5.no b hb hx)
     . have hpg2:=hpg;unfold PlG at hpg2;repeat' first|refine wk ?_|refine cX (λ_=>?_) λ_=>?_|refine zS (find_pur (Row.tch (S:=[]) rn' zA (ad _) qL) qJ) ?_|fail
       . rename_i f1;exact bad 4 (gOne4 f1) _ _ zA ⟨_,_,zC,fW,ho2⟩
       . rename_i f1;exact bad 2 (gOne2 qJ qJ) _ _ zA ⟨_,_,zC,fW,ho2⟩
       . rename_i f0 f1 f2;exact bad 5 (gOne5 qJ qJ  (.inl f2)) _ _ zA ⟨_,_,zC,fW,ho2⟩
       . rename_i f0 f1 f2 f3;exact bad 5 (gOne5 qJ qJ  (.inr (pos_ge.1 f3))) _ _ zA ⟨_,_,zC,fW,ho2⟩
       iterate 5
        . exact bad 6 (gOne6 qJ qJ qP  (λh9=>by have:=pos_ge.2 h9;omega) qJ) _ _ zA ⟨_,_,zC,fW,ho2⟩
       have ju:¬6<d:=by omega
       have ii:¬200<=s'.ns.length:=by omega
       have eO:named x.name=true:=by assumption
       have fN:x.name∉s'.ns:=λh9=>by have:=pos_ge.2 h9;omega
       have iZ:¬(x.w<1\/64<x.w\/x.a<0\/(d=1/\x.a≠0)\/(d≠1/\base.width - x.w<x.a)):=by omega
       have hw:gPl d base sibs x=⟨root',base.at_+x.a,x.w⟩:=by unfold gPl;rw [if_neg gV,hroot]
       have hpG:PlG ⟨root',base.at_+x.a,x.w⟩:=by unfold PlG;dsimp only;omega
       have hbo:d=1\/PlG base:=.inr hpg;have jt:((d=1/\base=⟨0,0,0⟩)\/(PlG base/\root'=base.root/\d≠1))/\base.at_=base.at_:=⟨.inr ⟨hpg,hroot,gV⟩,rfl⟩;subst fB;refine lpR (λq:Nat=>[(0,ptr bg 0),(1,sv),(2,I64 d),(3,I64 root'),(4,I64 base.at_),(5,I64 base.width),(12,dv),(13,I64 sibs.length),(14,ptr n' 0),(16,ptr (n'+1) 0),(17,I64 q)]) (λq h2 n2=>Tch (gS bg nsv psv) h n h2 n2/\Tch [] h' n' h2 n2/\n'+2<=n2/\Cel h2 n' (114+1) 0 (regC x)/\Cel h2 (n'+1) (tPl+1) 0 (plC ⟨root',base.at_+x.a,x.w⟩)/\q<=sibs.length/\∀(j:Nat) y,j<q->sibs[j]? = some y->sU ⟨root',base.at_+x.a,x.w⟩ y=false) (λq=>sibs.length - q) 0 ⟨zA,zA,by omega,zC,zC,an _,λj _ hj=>absurd hj (aE _)⟩ ?_;have hpr:(⟨root',base.at_+x.a,x.w⟩:Pl).root=root':=rfl;have hpw:(⟨root',base.at_+x.a,x.w⟩:Pl).width=x.w:=rfl;generalize (⟨root',base.at_+x.a,x.w⟩:Pl)=p at *
       rintro q t h2 n2 ⟨ht2,fl,hn2,hcr,hcp,hq,eG⟩
       have rd2:=rd'.tch (S:=[]) fl (ad _) qL;have hcg2:Cel h2 bg zGeo 0 [nsv',psv',I64 0]:=hcg.tch fl qJ qL;by_cases eK:q<sibs.length
       . have d0:sibs[q]? = some sibs[q]:=aa eK;generalize sibs[q]=y at d0
         have d1:=zM rd2 d0;have hly:=rd2.low qJ;repeat' first|refine wk ?_|refine cX (λ_=>?_) λ_=>?_|refine zS (rlap_pur _ _ (plg_b (hsib y (ae d0))) (plg_b hpG) _ _) ?_|fail
         . rename_i f1;exact bad 7 (gOne7 ju ii eO fN iZ (ap.2 ⟨y,ae d0,by rw[hw,uW];exact f1⟩)) _ _ zA ⟨_,_,zC,fW,ho2⟩
         . rename_i f1
           exact rnd (q+1) ⟨ht2,fl,hn2,hcr,hcp,by omega,λj w hj e=>by
            rcases ai.1 hj with h9|rfl
            . exact eG j w h9 e
            . rw[d0]at e;cases e;rw [uW];exact f1⟩
       . obtain rfl:q=sibs.length:=by omega
         have hok:sV d base sibs s' x = .ok p:=by
          rw[<- hw];exact gOneK ju ii eO fN iZ (by rw[hw];exact any_no λj y e=>eG j y (ab.1 e).1 e)
         obtain⟨_,_,hgok⟩:=gOne_ok hok hs' hbo;obtain⟨k',rfl⟩:∃k',k=k'+1:=⟨k - 1,by omega⟩;have hdo2:=hdo.tch fl qL;have on2:=hg'.on.tch fl qL;have op2:=hg'.op.tch fl qL;have tA:Tch [] h2 n2 (hal h2 n2 (mkC (plC p) 0 0)) (n2+1):=zA;clear fl rd2;repeat' first|refine wk ?_|apply cX <;> intro
         refine appN (hdo2.tch tA qL) (zF (e:=tPl) (sz:=3) (len:=1) rfl qK) qK  ⟨rfl,rfl,rfl,trivial⟩ qJ  ?_
         rintro dv3 h3 n3 hdo3 ht3
         have eS:=ht3.le;have hcr3:=Cel.app (hcr.tch tA qJ qL) (hdo2.tch tA qL) ht3 qJ;have hcp3:=Cel.app (hcp.tch tA qJ qL) (hdo2.tch tA qL) ht3 qJ;have hcg3:=Cel.app (hcg2.tch tA qJ qL) (hdo2.tch tA qL) ht3 qJ;have on3:=(on2.tch tA qL).tch ht3 (sQ (on2.tch tA qL) (hdo2.tch tA qL) (.inl qK)).no;have op3:=(op2.tch tA qL).tch ht3 hdj.comm.no;have iV:Tch (gS bg nsv psv) h n h3 n3:=Tch.tch ht3 (Tch.tch tA ht2 qL) λb hb=>.inl (zQ hdo2 b hb);have dj3:Dj dv3 psv':=(vM (op2.tch tA qL) hdo3).comm;replace hdo3:=hdo3.dnl (lo':=n) qJ;clear ht3 hcr hcp hcg2 on2 op2 hdo2 ht2 tA eG hdj;have tB:Tch [] h3 n3 (hal h3 n3 (mkC [str x.name] 0 0)) (n3+1):=zA;repeat' first|refine wk ?_|apply cX <;> intro
         refine appN (on3.tch tB qL) (zF (e:=tStr) (sz:=1) (len:=1) rfl qK) qK  ⟨rfl,trivial⟩ qJ  ?_
         rintro nsv4 h4 n4 on4 ht4
         have fi:=ht4.le;have hcr4:=Cel.app (hcr3.tch tB qJ qL) (on3.tch tB qL) ht4 qJ;have hcp4:=Cel.app (hcp3.tch tB qJ qL) (on3.tch tB qL) ht4 qJ;have hcg4:=Cel.app (hcg3.tch tB qJ qL) (on3.tch tB qL) ht4 qJ;have op4:=(op3.tch tB qL).tch ht4 (sQ (op3.tch tB qL) (on3.tch tB qL) (.inl qK)).no;have hdo4:=(hdo3.tch tB qL).tch ht4 (sQ (hdo3.tch tB qL) (on3.tch tB qL) (.inl qK)).no;have iW:Tch (gS bg nsv psv) h n h4 n4:=Tch.tch ht4 (Tch.tch tB iV qL) (gS_fp (.inl fp1));replace on4:=on4.dnl (lo':=n) qJ;have on4':=on4.one;clear ht4 iV;have tC:Tch [bg] h4 n4 (hal (hst h4 bg 0 [nsv4]) n4 (mkC (plC p) 0 0)) (n4+1):=zA;repeat' first|refine wk ?_|apply cX <;> intro
         refine appN (op4.tch tC (xX op4 hbg)) (zF (e:=tPl) (sz:=3) (len:=1) rfl qK) qK  ⟨rfl,rfl,rfl,trivial⟩ (by have:=hs'.len;omega) ?_
         rintro psv5 h5 n5 op5 ht5
         have fA:=ht5.le;have iC:Cel (hal (hst h4 bg 0 [nsv4]) n4 (mkC (plC p) 0 0)) bg zGeo 0 [nsv4,psv',I64 0]:=zC;have hcr5:=Cel.app (hcr4.tch tC qJ qM) (op4.tch tC (xX op4 hbg)) ht5 qJ;have hcp5:=Cel.app (hcp4.tch tC qJ qM) (op4.tch tC (xX op4 hbg)) ht5 qJ;have hcg5:=Cel.app iC (op4.tch tC (xX op4 hbg)) ht5 qJ;have on5:=(on4.tch tC (xX on4 qJ)).tch ht5 (sQ (on4.tch tC (xX on4 qJ)) (op4.tch tC (xX op4 hbg)) (.inl qK)).no;have hdo5:=(hdo4.tch tC (xX hdo4 qJ)).tch ht5 dj3.no;have ij:Tch (gS bg nsv psv) h n h5 n5:=Tch.tch ht5 (Tch.tch tC iW qL) (gS_fp (.inr fp2));have dj5:Dj dv3 psv5:=vM (hdo4.tch tC (xX hdo4 qJ)) op5;replace op5:=op5.dnl (lo':=n) qJ;have op5':=op5.one;clear ht5 iW tC tB iC;repeat' first|refine wk ?_|apply cX <;> intro
         have tD:Tch [bg] h5 n5 (hst h5 bg (0+1) [psv5]) n5:=zA;have ht6:Tch (gS bg nsv psv) h n (hst h5 bg (0+1) [psv5]) n5:=Tch.tch tD ij qL 
         have gm5:Gm n0 (hst h5 bg (0+1) [psv5]) n5 bg nsv4 psv5 ⟨s'.ns++[x.name],s'.ps++[p]⟩:=⟨zC,by
          have:=(on5.tch tD (xX on5 qJ)).dnl (lo':=n0) gt;rw [ah,aC];exact this,by
          have:=(op5.tch tD (xX op5 qJ)).dnl (lo':=n0) gt;rw [ah,aT];exact this⟩
         have rc:=hrec k' rfl (d+1) p x.subs x.sv ⟨s'.ns++[x.name],s'.ps++[p]⟩ root' _ n5 nsv4 psv5 qJ qJ  (.inr ⟨hpG,hpr.symm,by omega⟩) hbg kI qJ  (RegsM.tch (Tch.dn ht6 qJ  gA) (ad _) (hr.sub jU)) hgok gm5;rw [hpw]at rc;refine cal rc ?_
         rintro _ h6 n6 ⟨rfl,ht7,gp⟩
         have fV:=ht7.le
         have ht8:Tch (gS bg nsv psv) h n h6 n6:=Tch.tch ht7 ht6 λb hb=>by
          rcases au.1 hb with rfl|hb
          . exact .inr qL 
          . rcases aA.1 hb with hb|hb
            . exact .inl (zQ on5 b hb)
            . exact .inl (zQ op5 b hb)
         rcases gp with⟨e,kF,hgr⟩|⟨s6,nsv6,psv6,kE,gm6,hgok6,f1,f2⟩
         . repeat' first|refine wk ?_|apply cX <;> intro
           exact rnd (sibs.length+1,dv3,nsv4,psv5,(root',base.at_),sibs,s',e) ⟨ht8,by omega,λ_=>⟨by rw[gstep_at c0 hf,gStep_e2 hok kF],hgr⟩,λh9=>absurd h9 (gDown_err _ _ _ _ _ _ kF),jt⟩
         . repeat' first|refine wk ?_|apply cX <;> intro
           refine rnd (sibs.length+1,dv3,nsv6,psv6,(root',base.at_),sibs++[p],s6,0) ⟨ht8,by omega,λh9=>absurd rfl h9,λ_=>⟨by rw[gstep_at c0 hf,gStep_ok hok kE],gm6,hgok6,λy hy=>?_,by rw[ah];rfl,by
            have:=gDown_ge _ _ _ _ _ _ kE;rw [ah]at *;simp only[ah,ay,aX]at this ⊢;omega,λb hb=>?_,λb hb=>?_,?_,dj5.fp f2 hdo5 (ad _)⟩,jt⟩
           . rcases aA.1 hy with h9|h9
             . exact hsib y h9
             . simp at h9;subst h9;exact hpG
           . rcases f1 b hb with h9|h9
             . exact .inr (on5.blk h9).1
             . exact .inr qJ 
           . rcases f2 b hb with h9|h9
             . exact .inr (op5.blk h9).1
             . exact .inr qJ 
           . rw[aT]
             exact((hdo5.tch tD (xX hdo5 qJ)).tch ht7 λb hb hx=>by
              rcases au.1 hx with rfl|hx
              . have:=(hdo5.blk hb).1;omega
              . rcases aA.1 hx with hx|hx
                . exact(sQ hdo5 on5 (.inl qK)).no b hb hx
                . exact dj5.no b hb hx)
   . obtain rfl:i=l.length:=by omega
     repeat' first|refine wk ?_|apply cX <;> intro
     rw[aY]at hf;exact⟨rfl,ht,.inr ⟨s',nsv',psv',by unfold yU;rw [hf],hg',hs',fp1,fp2⟩⟩
 . obtain⟨hf,g1,g2,hcg,go1,go2⟩:=hE he;by_cases eD:i<l.length
   . repeat' first|refine wk ?_|apply cX <;> intro
     exact⟨rfl,ht,.inl ⟨err,gdown_take hf,g1,g2,hcg,go1,go2⟩⟩
   . repeat' first|refine wk ?_|apply cX <;> intro
     exact⟨rfl,ht,.inl ⟨err,gdown_take hf,g1,g2,hcg,go1,go2⟩⟩
end
section
variable {lo bt z n:Nat} {h:zB} {m:MachT} {nsv psv kv:Value} {ns:List Tx} {ps:List Pl} {kvs:List Value}
instance (a b:OperT):BnC P .neq 58 (.agg ⟨oprC a⟩) (.agg ⟨oprC b⟩) (.bool (decide (a≠b))):=⟨λox oy=>by
 show(eqA P 58 [str a.cls,str a.fix] [str b.cls,str b.fix]).map (λb=>Value.bool (!b))=_;rw [opr_eqA,vE,vE];obtain⟨a1,a2⟩:=a;obtain⟨b1,b2⟩:=b;by_cases h1:a1=b1
 . by_cases h2:a2=b2
   . subst h1 h2;simp
   . simp[h1,h2]
 . simp[h1]⟩
theorem ropof_pur(k:Tb lo h bt z m nsv psv kv ns ps)(x:Tx):Pur P 8 125 [ptr bt 0,str x] h n (I64 (posF (λo:OpT=>decide (o.name=x)) m.ops)):=by
 have hcel:=k.cel;have r:=k.mm.ops 0;have hl:=k.mm.ops.lt;have eM:inf<4611686018427387904:=by decide
 refine ent λu=>?_;repeat' first|refine wk ?_|apply cX <;> intro
 refine lpR (λq:Nat=>[(0,ptr bt 0),(1,str x),(5,I64 q)]) (λq h' n'=>h'=h/\n'=n/\q<=m.ops.length/\∀(j:Nat) y,j<q->m.ops[j]? = some y->decide (y.name=x)=false) (λq=>m.ops.length - q) 0 ⟨rfl,rfl,an _,λj _ hj=>absurd hj (aE _)⟩ ?_
 rintro q t h' n' ⟨rfl,rfl,hq,eG⟩
 by_cases eD:q<m.ops.length
 . have c0:m.ops[q]? = some m.ops[q]:=aa eD;generalize m.ops[q]=c at c0
   have c1:=yT (zM r c0) (j:=0) rfl;repeat' first|refine wk ?_|apply cX <;> intro
   . rename_i e1;exact fin (by rw[posF_hit c0 (decide_eq_true e1) eG])
   . rename_i e1
     exact rnd (q+1) ⟨rfl,rfl,by omega,λj y hj e=>by
      rcases ai.1 hj with h9|rfl
      . exact eG j y h9 e
      . rw[c0]at e;cases e;exact decide_eq_false e1⟩
 . obtain rfl:q=m.ops.length:=by omega
   repeat' first|refine wk ?_|apply cX <;> intro
   exact fin (by rw[posF_no λj y e=>eG j y (ab.1 e).1 e])
theorem wN_cls(x:Tx):wN m ns ps (xM m x)=wdC m ns ps x:=by
 unfold wN wdC;rcases vD (m:=m) (x:=x) with⟨h1,h2⟩|⟨i,c,h1,h2,h3,h4,h5⟩
 . rw[h1,h2];rfl
 . rw[h1,h3,if_pos qJ,show((i:Nat):Int).toNat=i from rfl,h2]
theorem ar_ge(s:Tx):0<=arity s/\arity s<=2:=by unfold arity;split <;> (first|omega|(split <;> omega))
theorem rops_com(k:Tc lo h bt z m nsv psv kv ns ps kvs)(eE:lo<=n)(hr:RegsIn m ns):Com P 8 101 [ptr bt 0] h n λr h' n'=>∃e,r = .ret (I64 e)/\qE m ns ps e/\Tch [] h n h' n':=by
 have eM:inf<4611686018427387904:=by decide
 have gI:=k.tb.mm.ops.lt;have l7:=k.tb.hb;have r0:=k.tb.mm.ops 0;have hcel:=k.tb.cel;refine ent λu=>?_;by_cases h64:m.ops.length<=64
 . repeat' first|refine wk ?_|apply cX <;> intro
   refine lpR (λi:Nat=>[(0,ptr bt 0),(3,I64 i)]) (λi h' n'=>Tch [] h n h' n'/\i<=m.ops.length/\∀(j:Nat) c,j<i->m.ops[j]? = some c->opE m ns ps j c 0) (λi=>m.ops.length - i) 0 ⟨zA,an _,λj _ hj=>absurd hj (aE _)⟩ ?_;clear hcel r0
   rintro i t h' n' ⟨ht,hi,eG⟩
   have eP:=ht.le;have k':=k.tch ht eE;have hcel:=k'.tb.cel;have r:=k'.tb.mm.ops 0;by_cases eD:i<m.ops.length
   . have c0:m.ops[i]? = some m.ops[i]:=aa eD;generalize m.ops[i]=o at c0
     have eQ:=ae c0;have c1:=zM r c0;have ruI:=k'.tb.mm.opsu o eQ;have rcI:=k'.tb.mm.opsc o eQ;have ru:=ruI 0;have lG:=ru.one;have lE:=(rcI 0).one;have jE:=ruI.lt;have eX:=rcI.lt;have gW:=r.low qJ;have eT:=op_le c0;have har:=ar_ge o.name;have fK:¬nameOKo m i o->∀h2 n2,Tch [] h n h2 n2->∃e,Out.ret (I64 5) = .ret (I64 e)/\qE m ns ps e/\Tch [] h n h2 n2:=λhb h2 n2 t2=>⟨5,rfl,.inr ⟨h64,sN c0 (.inr (.inl ⟨rfl,hb⟩)) qK  eG⟩,t2⟩;repeat' first|refine wk ?_|refine cX (λ_=>?_) λ_=>?_|refine zS (ropof_pur (Tb.tch k'.tb zA qJ) _) ?_|fail
     . exact fK (λhb=>by have:=hb.1;omega) _ _ zA
     . exact fK (λhb=>by have:=hb.2;omega) _ _ zA
     all_goals (
      have fj:nameOKo m i o:=⟨by omega,by omega⟩;have fc:¬tI m ns ps o->∀h2 n2,Tch [] h n h2 n2->∃e,Out.ret (I64 9) = .ret (I64 e)/\qE m ns ps e/\Tch [] h n h2 n2:=λhb h2 n2 t2=>⟨9,rfl,.inr ⟨h64,sN c0 (.inr (.inr ⟨rfl,fj,hb⟩)) qK  eG⟩,t2⟩)
     . exact fc (λhb=>by have:=hb.1;omega) _ _ zA
     . rename_i e1 e2 e3;have eN:((o.uses.length:Nat):Int)=arity o.name:=by omega
       rw[<- eN];refine zS (roperand_pur (Tc.tch k' zA qJ) qJ  hr o.d) ?_;have ko:Cel (hst (hal h' n' (mkC [str [],str [],str [],.slice none 0 0,I64 0,.slice none 0 0] (61+1) 0)) n' 0 (opC o)) n' (61+1) 0 (opC o):=zC;have ht8:Tch [] h' n' (hst (hal h' n' (mkC [str [],str [],str [],.slice none 0 0,I64 0,.slice none 0 0] (61+1) 0)) n' 0 (opC o)) (n'+1):=zA;repeat' first|refine wk ?_|apply cX <;> intro
       refine lpR (α :=Nat×Bool) (λa=>[(0,ptr bt 0),(3,I64 i),(4,ptr n' 0),(5,I64 o.uses.length),(6,.bool a.2),(7,I64 a.1)]) (λa h2 n2=>Tch [] h' n' h2 n2/\n'<n2/\Cel h2 n' (61+1) 0 (opC o)/\a.1<=o.uses.length/\(a.2=true↔uB m o.d=true/\∀(j:Nat) u,j<a.1->o.uses[j]? = some u->uB m u=true)) (λa=>o.uses.length - a.1) (0,uB m o.d) ⟨ht8,by omega,ko,an _,λh9=>⟨h9,λj _ hj=>absurd hj (aE _)⟩,λh9=>h9.1⟩ ?_;clear ko ht8
       rintro ⟨q,ok⟩ t h2 n2 ⟨ht2,hn2,hc2,hq,hok⟩
       dsimp only at hq hok ⊢;have eS:=ht2.le;have k2:=Tc.tch k' ht2 qJ;have jo:=k2.tb.mm.opsu o eQ 0;have gC:Tch [] h n h2 n2:=Tch.tch ht2 ht qL;by_cases hgo:q<o.uses.length/\ok=true
       . obtain⟨eK,rfl⟩:=hgo;have d0:o.uses[q]? = some o.uses[q]:=aa eK;generalize o.uses[q]=x at d0
         have d1:=zM jo d0;repeat' first|refine wk ?_|refine cX (λ_=>?_) λ_=>?_|refine zS (roperand_pur k2 qJ  hr x) ?_|fail
         exact rnd (q+1,uB m x) ⟨ht2,hn2,hc2,by omega,λh9=>⟨(hok.1 rfl).1,λj y hj e=>by
          rcases ai.1 hj with h8|rfl
          . exact(hok.1 rfl).2 j y h8 e
          . rw[d0]at e;cases e;exact h9⟩,λh9=>h9.2 q x qJ  d0⟩
       . cases ok with
         | false=>
          repeat' first|refine wk ?_|apply cX <;> intro
          all_goals exact fc (λhb=>by have:=hok.2 ⟨hb.2.1,λj y _ e=>(hb.2.2.1 j y e).1⟩;cases this) _ _ gC
         | true =>
          obtain rfl:q=o.uses.length:=by
           rcases aS q o.uses.length with h9|h9
           . exact absurd ⟨h9,rfl⟩ hgo
           . omega
          obtain⟨hd,hus⟩:=hok.1 rfl;repeat' first|refine wk ?_|apply cX <;> intro
          refine lpR (λq:Nat=>[(0,ptr bt 0),(3,I64 i),(4,ptr n' 0),(5,I64 o.uses.length),(8,I64 q)]) (λq h3 n3=>Tch [] h' n' h3 n3/\n'<n3/\Cel h3 n' (61+1) 0 (opC o)/\q<=o.uses.length/\∀(j:Nat) u,j<q->o.uses[j]? = some u->wdC m ns ps u.cls=wdC m ns ps o.d.cls) (λq=>o.uses.length - q) 0 ⟨ht2,hn2,hc2,an _,λj _ hj=>absurd hj (aE _)⟩ ?_;clear hc2 ht2 hn2 k2 jo eS gC hgo hok hq
          rintro q t h2 n2 ⟨ht2,hn2,hc2,hq,hno2⟩
          have eS:=ht2.le;have k2:=Tc.tch k' ht2 qJ;have jo:=k2.tb.mm.opsu o eQ 0;have gC:Tch [] h n h2 n2:=Tch.tch ht2 ht qL;by_cases eK:q<o.uses.length
          . have d0:o.uses[q]? = some o.uses[q]:=aa eK;generalize o.uses[q]=x at d0
            have d1:=zM jo d0;have d2:=yT d1 (j:=0) rfl;repeat' first|refine wk ?_|refine cX (λ_=>?_) λ_=>?_|refine zS (vN k2.tb _) ?_|refine zS (twidth_pur k2 hr _) ?_|fail
            all_goals rename_i f1
            all_goals rw[wN_cls,wN_cls]at f1
            . exact fc (λhb=>f1 (hb.2.2.1 q x d0).2) _ _ gC
            . exact rnd (q+1) ⟨ht2,hn2,hc2,by omega,λj y hj e=>by
               rcases ai.1 hj with h9|rfl
               . exact hno2 j y h9 e
               . rw[d0]at e;cases e;exact cK.1 f1⟩
          . obtain rfl:q=o.uses.length:=by omega
            have mM:∀(j:Nat) u,o.uses[j]? = some u->useOKo m ns ps o u:=λj u e=>⟨hus j u (ab.1 e).1 e,hno2 j u (ab.1 e).1 e⟩;repeat' first|refine wk ?_|apply cX <;> intro
            refine cal (rdist_pur k2.tb (k2.tb.mm.opsc o eQ).toI) ?_
            rintro _ _ _ ⟨rr,rfl,hrr,rfl,rfl⟩
            have fine: -1<=o.tie->o.tie<o.uses.length->(0<=o.tie->o.uses[o.tie.toNat]? = some o.d)->rr=true->opE m ns ps i o 0:=λg1 g2 g3 g4=>.inl ⟨rfl,fj,eN,hd,mM,g1,g2,g3,(hrr.1 g4).1,(hrr.1 g4).2⟩;have badr:rr=false->¬tI m ns ps o:=λh9 hb=>by have:=hrr.2 ⟨hb.2.2.2.2.2.2.1,hb.2.2.2.2.2.2.2⟩;rw [h9]at this;cases this
            by_cases htie:0<=o.tie/\o.tie<o.uses.length
            . obtain⟨fX,ht1⟩:=htie;have d0:o.uses[o.tie.toNat]? = some o.uses[o.tie.toNat]:=aa qJ;generalize o.uses[o.tie.toNat]=x at d0
              have d1:=zM jo d0;repeat' first|refine wk ?_|apply cX <;> intro
              . rename_i f1;exact fc (λhb=>f1 (by have:=hb.2.2.2.2.2.1 fX;rw [d0]at this;exact Option.some.inj this)) _ _ gC
              . rename_i f1 f2;exact fc (badr f2) _ _ gC
              . rename_i f1 f2;exact rnd (i+1) ⟨gC,by omega,qD c0 (fine qJ  ht1 (λ_=>by rw[d0,cK.1 f1]) f2) eG⟩
            . repeat' first|refine wk ?_|apply cX <;> intro
              . exact fc (λhb=>by have:=hb.2.2.2.1;omega) _ _ gC
              . exact fc (λhb=>by have:=hb.2.2.2.2.1;omega) _ _ gC
              . rename_i f1 f2 f3;exact fc (badr f3) _ _ gC
              . rename_i f1 f2 f3;exact rnd (i+1) ⟨gC,by omega,qD c0 (fine qJ qJ  (λh9=>absurd ⟨h9,by omega⟩ htie) f3) eG⟩
   . obtain rfl:i=m.ops.length:=by omega
     repeat' first|refine wk ?_|apply cX <;> intro
     exact⟨0,rfl,.inr ⟨h64,first_all eG⟩,ht⟩
 . repeat' first|refine wk ?_|apply cX <;> intro
   exact⟨2,rfl,.inl ⟨rfl,by omega⟩,zA⟩
end
section
theorem rdown_all{lo n0 bg:Nat}:∀k,DnS lo n0 bg k:=by
 intro k
 induction k with
 | zero=>exact rdown_step λk' e=>absurd e qJ 
 | succ k ih=>exact rdown_step λk' e=>by cases e;exact ih
abbrev nilS:Value:=.slice none 0 0
theorem rplaces_com{lo n:Nat}{h:zB}{sv:Value}{l:List RegT}(hr:RegsM lo h sv l)(eE:lo<=n):Com P 8 99 [sv] h n λo h' n'=>Tch [] h n h' n'/\((∃e,geoP l = .error e/\o = .ret (.tuple ⟨[nilS,nilS,I64 e]⟩))\/∃s nsv psv,geoP l = .ok s/\GOK s/\o = .ret (.tuple ⟨[nsv,psv,I64 0]⟩)/\Row n' h' nsv tStr 1 s.ns.length (s.ns.map str)/\Row n' h' psv tPl 3 s.ps.length (s.ps.flatMap plC)):=by
 have g0:GOK ⟨[],[]⟩:=⟨List.nodup_nil,rfl,an _,λp hp=>(by cases hp),λx hx=>(by cases hx)⟩;refine ent λu=>?_;repeat' first|refine wk ?_|apply cX <;> intro
 refine cal (rdown_all (lo:=lo) (n0:=n+1) (bg:=n) 6 1 ⟨0,0,0⟩ l sv ⟨[],[]⟩ 0 _ (n+1) nilS nilS qK qK  (.inl ⟨rfl,rfl⟩) qJ  eE qJ  (RegsM.tch zA eE hr) g0 ⟨zC,Own.nil,Own.nil⟩) ?_
 rintro _ h2 n2 ⟨rfl,ht,gp⟩
 have hn2:=ht.le;have ht2:Tch [] h n h2 n2:=Tch.tch ht zA (by simp[zH]);rcases gp with⟨e,h1,nsv,psv,hc,_,_⟩|⟨s,nsv,psv,h1,hg,hok,_,_⟩
 . have he:e≠0:=geo_err h1;repeat' first|refine wk ?_|apply cX <;> intro
   exact⟨ht2,.inl ⟨e,h1,rfl⟩⟩
 . have hc:=hg.cel;have o1:=hg.on.one;have o2:=hg.op.one;repeat' first|refine wk ?_|apply cX <;> intro
   exact⟨ht2,.inr ⟨s,nsv,psv,h1,hok,rfl,hg.on.row qK,hg.op.row qK⟩⟩
abbrev zTab:Nat:=122+1
theorem Tb.up{lo lo' bt z:Nat}{h:zB}{m:MachT}{nsv psv kv:Value}{ns:List Tx}{ps:List Pl}(k:Tb lo h bt z m nsv psv kv ns ps)(hl:lo<=lo'):Tb lo' h bt z m nsv psv kv ns ps:=⟨k.mm.up hl,k.cel,k.rn.up hl,k.rp.up hl,by have:=k.hb;omega,k.hl,k.hn,k.ok⟩
def BeginE(m:MachT)(e:Int):Prop:=(named m.name=false/\e=5)\/(named m.name=true/\((geoP m.regs = .error e/\e≠0)\/∃s,geoP m.regs = .ok s/\((s.ns=[]/\e=1)\/(s.ns≠[]/\((e≠0/\ClsErr m s.ns s.ps e)\/(ClsErr m s.ns s.ps 0/\qE m s.ns s.ps e))))))
theorem mach_one{lo:Nat}{h:zB}{m:MachT}(mm:MachM lo h m):m.rsv.oneCell'=true/\m.csv.oneCell'=true/\m.osv.oneCell'=true/\m.asv.oneCell'=true/\m.ssv.oneCell'=true:=⟨(mm.regs.row 0).one,(mm.cls 0).one,(mm.ops 0).one,(mm.args 0).one,(mm.saved 0).one⟩
theorem rbegin_com{lo n:Nat}{h:zB}{m:MachT}(mm:MachM lo h m)(eE:lo<=n):Com P 8 45 [.agg ⟨yR m⟩,I64 4] h n λo h' n'=>∃e,BeginE m e/\Tch [] h n h' n'/\((e≠0/\o = .ret (.tuple ⟨[.pointer none,I64 e]⟩))\/(e=0/\∃bt nsv psv kv kvs s,o = .ret (.tuple ⟨[ptr bt 0,I64 0]⟩)/\n<=bt/\geoP m.regs = .ok s/\GOK s/\s.ns≠[]/\Tc n' h' bt zTab m nsv psv kv s.ns s.ps kvs/\ClsErr m s.ns s.ps 0/\qE m s.ns s.ps 0)):=by
 obtain⟨o1,o2,o3,o4,o5⟩:=mach_one mm;refine ent λu=>?_;repeat' first|refine wk ?_|apply cX <;> intro
 . exact⟨5,.inl ⟨by assumption,rfl⟩,zA,.inl ⟨by decide,rfl⟩⟩
 rename_i eO;refine cal (rplaces_com (RegsM.tch zA eE mm.regs) qJ) ?_
 rintro _ h2 n2 ⟨ht2,⟨e,h1,rfl⟩|⟨s,nsv,psv,h1,hok,rfl,rn,rp⟩⟩
 . have he:e≠0:=geo_err h1;repeat' first|refine wk ?_|apply cX <;> intro
   exact⟨e,.inr ⟨eO,.inl ⟨h1,he⟩⟩,zA,.inl ⟨he,rfl⟩⟩
 have hn2:=ht2.le;have ro1:=rn.one;have ro2:=rp.one;by_cases eJ:s.ns=[]
 . have kH:s.ns.length=0:=by rw[eJ];rfl
   repeat' first|refine wk ?_|apply cX <;> intro
   exact⟨1,.inr ⟨eO,.inr ⟨s,h1,.inl ⟨eJ,rfl⟩⟩⟩,zA,.inl ⟨by decide,rfl⟩⟩
 have kH:0<s.ns.length:=List.length_pos_iff.2 eJ;obtain⟨p1,c1,rfl⟩:=rn.sl;obtain⟨p2,c2,rfl⟩:=rp.sl;repeat' first|refine wk ?_|apply cX <;> intro
 refine cal (rclasses_com (lo:=n2) (z:=zTab) (n:=n2+1) ⟨MachM.up qJ  (MachM.tch zA eE mm),Row.tch (S:=[]) rn zA (ad _) qL,Row.tch (S:=[]) rp zA (ad _) qL,ad _,hok.len,hok.le,λp hp=>plg_b (hok.pl p hp)⟩ qJ qJ  zC) ?_
 rintro _ h3 n3 ⟨e,rfl,hce,ht3,htc⟩
 have eS:=ht3.le;have ht4:Tch [] h n h3 n3:=Tch.tch ht3 zA qM;by_cases he:e=0
 . subst he;obtain⟨kv,kvs,tc⟩:=htc rfl;obtain⟨_,fI⟩:=hce.ok
   have hri:RegsIn m s.ns:=λi c hc=>⟨(fI i c hc).2.1,λr hr=>by
    obtain⟨j,hj⟩:=aj.1 hr;exact((fI i c hc).2.2.2 j r hj).1⟩
   repeat' first|refine wk ?_|apply cX <;> intro
   refine cal (rops_com tc (ad _) hri) ?_
   rintro _ h5 n5 ⟨e,rfl,iN,ht5⟩
   have ht6:Tch [] h n h5 n5:=Tch.tch ht5 ht4 qL;by_cases he:e=0
   . subst he;repeat' first|refine wk ?_|apply cX <;> intro
     exact⟨0,.inr ⟨eO,.inr ⟨s,h1,.inr ⟨eJ,.inr ⟨hce,iN⟩⟩⟩⟩,ht6,.inr ⟨rfl,n2,_,_,kv,kvs,s,rfl,by omega,h1,hok,eJ,⟨Tb.up (tc.tb.tch ht5 (ad _)) ht5.le,(tc.kr.tch ht5 (ad _) qL).up ht5.le,tc.kl,λi c hc=>by
      obtain⟨v,g1,g2⟩:=tc.ke i c hc;exact⟨v,g1,(g2.tch ht5 (ad _) qL).up ht5.le⟩⟩,hce,iN⟩⟩
   . repeat' first|refine wk ?_|apply cX <;> intro
     exact⟨e,.inr ⟨eO,.inr ⟨s,h1,.inr ⟨eJ,.inr ⟨hce,iN⟩⟩⟩⟩,ht6,.inl ⟨he,rfl⟩⟩
 . repeat' first|refine wk ?_|apply cX <;> intro
   exact⟨e,.inr ⟨eO,.inr ⟨s,h1,.inr ⟨eJ,.inl ⟨he,hce⟩⟩⟩⟩,ht4,.inl ⟨he,rfl⟩⟩
end
section
variable {lo bt z n:Nat} {h:zB} {m:MachT} {nsv psv kv:Value} {ns:List Tx} {ps:List Pl} {kvs:List Value}
theorem rresult_pur(k:Tb lo h bt z m nsv psv kv ns ps):Pur P 8 47 [ptr bt 0] h n (I64 (pos ns m.result)):=by
 have hcel:=k.cel;refine ent λu=>?_;repeat' first|refine wk ?_|refine cX (λ_=>?_) λ_=>?_|refine zS (wX k _) ?_|fail
 exact fin rfl
theorem rargs_ret(k:Tb lo h bt z m nsv psv kv ns ps)(eE:lo<=n)(hl:m.args.length<100000):Ret P 8 50 [ptr bt 0] h n λv h' n'=>Row n' h' v tInt 1 (uN ns m.args).length ((uN ns m.args).map I64)/\Tch [] h n h' n':=by
 have hcel:=k.cel;refine ent λu=>?_;repeat' first|refine wk ?_|apply cX <;> intro
 refine yG (rlist_ret k eE (k.mm.args 0) eE hl) ?_
 rintro v' h3 n3 ⟨hw,ht⟩
 repeat' first|refine wk ?_|apply cX <;> intro
 exact⟨_,rfl,hw.row qK,ht⟩
theorem rpair_pur(k:Tc lo h bt z m nsv psv kv ns ps kvs)(eE:lo<=n){a b:Nat}{ca cb:ClassT}(ha:m.classes[a]? = some ca)(hb:m.classes[b]? = some cb):Pur P 8 53 [ptr bt 0,I64 (a:Nat),I64 (b:Nat)] h n (.bool (rPair ns ps ca cb)):=by
 have hcel:=k.tb.cel;have kr:=k.kr;have kl:=k.kl;have eX:=k.tb.mm.cls.lt;have iq:=(ab.1 ha).1;have kI:=(ab.1 hb).1;obtain⟨va,a1,a2⟩:=k.ke _ _ ha;obtain⟨vb,b1,b2⟩:=k.ke _ _ hb;have ya:=row_ee kr a1;have yb:=row_ee kr b1;have lN:=cls_len k (ae ha);have hBl:=cls_len k (ae hb);have eM:inf<4611686018427387904:=by decide
 have e0:rPair ns ps ca cb=(ca.regs.map (pos ns)).any λx=>(cb.regs.map (pos ns)).any λy=> !rR ps x y:=rfl;have ra:Row lo h va tInt 1 (ca.regs.map (pos ns)).length ((ca.regs.map (pos ns)).map I64):=by rw[aD];exact a2
 have rb:Row lo h vb tInt 1 (cb.regs.map (pos ns)).length ((cb.regs.map (pos ns)).map I64):=by rw[aD];exact b2
 have lN:(ca.regs.map (pos ns)).length<inf:=by rw[aD];exact lN
 have hBl:(cb.regs.map (pos ns)).length<inf:=by rw[aD];exact hBl
 clear a2 b2;generalize ca.regs.map (pos ns)=A at *
 generalize cb.regs.map (pos ns)=B at *
 refine ent λu=>?_;repeat' first|refine wk ?_|apply cX <;> intro
 refine lpR (λi:Nat=>[(0,ptr bt 0),(1,I64 a),(2,I64 b),(7,I64 i)]) (λi h' n'=>h'=h/\n'=n/\i<=A.length/\∀(j:Nat) x,j<i->A[j]? = some x->(B.any λy=> !rR ps x y)=false) (λi=>A.length - i) 0 ⟨rfl,rfl,an _,λj _ hj=>absurd hj (aE _)⟩ ?_
 rintro i t h' n' ⟨rfl,rfl,hi,eG⟩
 by_cases eD:i<A.length
 . have c0:A[i]? = some A[i]:=aa eD;generalize A[i]=x at c0
   have c1:=yE ra c0;repeat' first|refine wk ?_|apply cX <;> intro
   refine lpR (λq:Nat=>[(0,ptr bt 0),(1,I64 a),(2,I64 b),(7,I64 i),(8,I64 q)]) (λq h2 n2=>h2=h'/\n2=n'/\q<=B.length/\∀(j:Nat) y,j<q->B[j]? = some y->(!rR ps x y)=false) (λq=>B.length - q) 0 ⟨rfl,rfl,an _,λj _ hj=>absurd hj (aE _)⟩ ?_
   rintro q t h2 n2 ⟨rfl,rfl,hq,hno2⟩
   by_cases eK:q<B.length
   . have d0:B[q]? = some B[q]:=aa eK;generalize B[q]=y at d0
     have d1:=yE rb d0;repeat' first|refine wk ?_|refine cX (λ_=>?_) λ_=>?_|refine zS (uQ k.tb eE x y) ?_|fail
     . rename_i f1;exact fin (by rw[e0,any_hit c0 (any_hit d0 (by rw[f1];rfl))])
     . rename_i f1
       exact rnd (q+1) ⟨rfl,rfl,by omega,λj w hj e=>by
        rcases ai.1 hj with h9|rfl
        . exact hno2 j w h9 e
        . rw[d0]at e;cases e;rw [f1];rfl⟩
   . obtain rfl:q=B.length:=by omega
     repeat' first|refine wk ?_|apply cX <;> intro
     exact rnd (i+1) ⟨rfl,rfl,by omega,λj w hj e=>by
      rcases ai.1 hj with h9|rfl
      . exact eG j w h9 e
      . rw[c0]at e;cases e;exact any_ft λq y e=>hno2 q y (ab.1 e).1 e⟩
 . obtain rfl:i=A.length:=by omega
   repeat' first|refine wk ?_|apply cX <;> intro
   exact fin (by rw[e0,any_ft λj x e=>eG j x (ab.1 e).1 e])
theorem rmake_com(mm:MachM lo h m)(eE:lo<=n):Com P 8 17 [.agg ⟨yR m⟩] h n λo h' n'=>∃e,MakeE m e/\Tch [] h n h' n'/\((e≠0/\o = .ret (.tuple ⟨[.pointer none,I64 e]⟩))\/(e=0/\∃bt nsv psv kv kvs s,o = .ret (.tuple ⟨[ptr bt 0,I64 0]⟩)/\n<=bt/\geoP m.regs = .ok s/\GOK s/\Tc n' h' bt zTab m nsv psv kv s.ns s.ps kvs/\MOK m s.ns s.ps)):=by
 obtain⟨o1,o2,o3,o4,o5⟩:=mach_one mm;have eM:inf<4611686018427387904:=by decide
 have hal:=mm.args.lt;have fB:=mm.saved.lt;have gI:=mm.ops.lt;have eX:=mm.cls.lt;refine ent λu=>?_;repeat' first|refine wk ?_|apply cX <;> intro
 refine cal (rbegin_com (MachM.tch zA eE mm) qJ) ?_
 rintro _ h2 n2 ⟨e,hb,ht,⟨he,rfl⟩|⟨rfl,bt,nsv,psv,kv,kvs,s,rfl,l7,hg,hgo,eJ,tc,hce,iN⟩⟩
 . repeat' first|refine wk ?_|apply cX <;> intro
   refine⟨e,?_,zA,.inl ⟨he,rfl⟩⟩;rcases hb with hb|⟨eO,hb|⟨s,hs,hb|⟨eJ,⟨_,hb⟩|⟨io,hb⟩⟩⟩⟩
   . exact .inl hb
   . exact .inr ⟨eO,.inl hb⟩
   . exact .inr ⟨eO,.inr ⟨s,hs,.inl hb⟩⟩
   . exact .inr ⟨eO,.inr ⟨s,hs,.inr ⟨eJ,.inl ⟨he,hb⟩⟩⟩⟩
   . exact .inr ⟨eO,.inr ⟨s,hs,.inr ⟨eJ,.inr ⟨io,.inl ⟨he,hb⟩⟩⟩⟩⟩
 have eO:named m.name=true:=by
  rcases hb with⟨_,hb⟩|⟨eO,_⟩
  . cases hb
  . exact eO
 have hn2:=ht.le;have hcm:Cel h2 n (27+1) 0 (yR m):=zC;have fl:Tch [] h n h2 n2:=zA;clear ht;have qa:=(mm.args.tch fl eE) 0;have qs:=(mm.saved.tch fl eE) 0;have qo:=(mm.ops.tch fl eE) 0;have cs:=CsOK.of hce;have fO:=hgo.len;have gT:=tc.tb.hb
 have oo:∀(i:Nat) o,m.ops[i]? = some o->tI m s.ns s.ps o/\(o.uses.length=1\/o.uses.length=2):=λi o ho=>by
  rcases iN with⟨h9,_⟩|⟨_,⟨_,h9⟩|⟨_,_,_,_,h9,_⟩⟩
  . omega
  . rcases h9 i o ho with⟨_,h8,h7⟩|⟨h8,_⟩|⟨h8,_⟩
    . have:=h7.1;have h6:=h8.1;have:=ar_ge o.name;exact⟨h7,by omega⟩
    . omega
    . omega
  . omega
 have hcb:ClobLe m:=λi o ho=>by have:=(oo i o ho).1.2.2.2.2.2.2.1;omega
 have mke:∀e,((e=10/\¬rH m s.ns s.ps (wS s.ns s.ps))\/(rH m s.ns s.ps (wS s.ns s.ps)/\((e=11/\¬uM m s.ns s.ps)\/(e=0/\uM m s.ns s.ps))))->MakeE m e:=λe he=>.inr ⟨eO,.inr ⟨s,hg,.inr ⟨eJ,.inr ⟨hce,.inr ⟨iN,he⟩⟩⟩⟩⟩;have fD:¬rH m s.ns s.ps (wS s.ns s.ps)->∀h3 n3,Tch [] h n h3 n3->∃e,MakeE m e/\Tch [] h n h3 n3/\((e≠0/\Out.ret (.tuple ⟨[.pointer none,I64 10]⟩) = .ret (.tuple ⟨[.pointer none,I64 e]⟩))\/(e=0/\∃bt nsv psv kv kvs s,Out.ret (.tuple ⟨[.pointer none,I64 10]⟩) = .ret (.tuple ⟨[ptr bt 0,I64 0]⟩)/\n<=bt/\geoP m.regs = .ok s/\GOK s/\Tc n3 h3 bt zTab m nsv psv kv s.ns s.ps kvs/\MOK m s.ns s.ps)):=λhc h3 n3 t3=>⟨10,mke 10 (.inl ⟨rfl,hc⟩),t3,.inl ⟨by decide,rfl⟩⟩;repeat' first|refine wk ?_|apply cX <;> intro
 refine cal (rapart_pur tc.tb qJ  (RowI.up (RowA.toI (mm.args.tch fl eE)) qJ)) ?_
 rintro _ _ _ ⟨ra,rfl,hra,rfl,rfl⟩
 repeat' first|refine wk ?_|apply cX <;> intro
 refine cal (rapart_pur tc.tb qJ  (RowI.up (RowA.toI (mm.saved.tch fl eE)) qJ)) ?_
 rintro _ _ _ ⟨rs,rfl,hrs,rfl,rfl⟩
 repeat' first|refine wk ?_|refine cX (λ_=>?_) λ_=>?_|refine zS (rresult_pur tc.tb) ?_|fail
 . exact fD (λhb=>by have:=hb.1.1;omega) _ _ fl
 . rename_i f1 f2;exact fD (λhb=>by have:=hra.2 hb.1.2;rw [f2]at this;cases this) _ _ fl
 . rename_i f1 f2 f3;exact fD (λhb=>by have:=pos_ge.2 hb.2.1;omega) _ _ fl
 . exact fD (λhb=>by have:=hb.2.2.1.1;omega) _ _ fl
 . rename_i f1 f2 f3 f4 f5;exact fD (λhb=>by have:=hrs.2 hb.2.2.1.2;rw [f5]at this;cases this) _ _ fl
 . exact fD (λhb=>by have:=hb.2.2.2.2.1;omega) _ _ fl
 . exact fD (λhb=>by have:=hb.2.2.2.2.2.1;omega) _ _ fl
 rename_i h' n' f1 f2 f3 f4 f5 f6 f7;have gp:m.result∈s.ns:=pos_ge.1 qJ;have eY:=hra.1 f2;have iT:=hrs.1 f5
 have ain:∀x∈m.args,x∈s.ns:=λx hx=>by
  obtain⟨i,hi⟩:=aj.1 hx;exact(eY i x hi).1
 refine lpR (λi:Nat=>[(1,ptr n 0),(4,ptr bt 0),(8,I64 i)]) (λi h3 n3=>h3=h'/\n3=n'/\i<=m.saved.length/\∀(j:Nat) x,j<i->m.saved[j]? = some x->sU (yJ s.ns s.ps x) (yJ s.ns s.ps m.result)=false) (λi=>m.saved.length - i) 0 ⟨rfl,rfl,an _,λj _ hj=>absurd hj (aE _)⟩ ?_
 rintro i t h' n' ⟨rfl,rfl,hi,eG⟩
 by_cases eD:i<m.saved.length
 . have c0:m.saved[i]? = some m.saved[i]:=aa eD;generalize m.saved[i]=x at c0
   have c1:=yE qs c0;have hx:=(iT i x c0).1;have e2:rR s.ps (pos s.ns m.result) (pos s.ns x)=sU (yJ s.ns s.ps x) (yJ s.ns s.ps m.result):=by rw[lapN_in fO gp hx,uW]
   have hsb:=qs.low qJ;repeat' first|refine wk ?_|refine cX (λ_=>?_) λ_=>?_|refine zS (rresult_pur tc.tb) ?_|refine zS (wX tc.tb _) ?_|refine zS (uQ tc.tb qJ  _ _) ?_|fail
   . rename_i g1;rw [e2]at g1;exact fD (λhb=>by have:=hb.2.2.2.1 i x c0;rw [g1]at this;cases this) _ _ fl
   . rename_i g1;rw [e2]at g1
     exact rnd (i+1) ⟨rfl,rfl,by omega,λj y hj e=>by
      rcases ai.1 hj with h9|rfl
      . exact eG j y h9 e
      . rw[c0]at e;cases e;exact g1⟩
 obtain rfl:i=m.saved.length:=by omega
 have hsl2:∀(j:Nat) x,m.saved[j]? = some x->sU (yJ s.ns s.ps x) (yJ s.ns s.ps m.result)=false:=λj x e=>eG j x (ab.1 e).1 e;clear eG hi eD;repeat' first|refine wk ?_|apply cX <;> intro
 refine yG (rargs_ret tc.tb qJ qJ) ?_
 rintro va h4 n4 ⟨rva,ht4⟩
 have fi:=ht4.le;have gY:(uN s.ns m.args).length=m.args.length:=by rw[sO ain,aD]
 rw[gY]at rva;repeat' first|refine wk ?_|apply cX <;> intro
 refine appO (lo:=n4) (Own.nil (e:=tInt) (sz:=1)) rva (ad _) (by
  have:∀l:List Int,One (l.map I64):=λl=>by
   induction l with
   | nil=>trivial
   | cons a l ih=>exact⟨rfl,ih⟩
  exact this _) qJ  ?_
 rintro v5 h5 n5 ho5 ht5
 have fA:=ht5.le;have ij:Tch [] h' n' h5 n5:=Tch.tch ht5 ht4 (by simp[zH]);have tc5:=tc.tch ij (ad _);clear ht5 ht4 rva;repeat' first|refine wk ?_|refine cX (λ_=>?_) λ_=>?_|refine zS (rresult_pur tc5.tb) ?_|fail
 refine appO (ho5.tch (S:=[]) zA qL) (zF (e:=tInt) (sz:=1) (len:=1) rfl qK) qJ  ⟨rfl,trivial⟩ qJ  ?_
 rintro v6 h6 n6 ho6 ht6
 have fV:=ht6.le;have jD:Tch [] h' n' h6 n6:=Tch.tch ht6 zA λb hb=>.inl (by have:=zQ ho5 b hb;omega);have tc6:=tc.tch jD (ad _);have iX:Tch [] h n h6 n6:=Tch.tch jD fl qL;have hcm6:Cel h6 n (27+1) 0 (yR m):=hcm.tch jD qJ qL;have qo6:=(mm.ops.tch iX eE) 0;have l8:=tc6.tb.cel;have kr6:=tc6.kr;have kl6:=tc6.kl
 have r6:Row n6 h6 v6 tInt 1 (m.args++[m.result]).length (((m.args++[m.result]).map (pos s.ns)).map I64):=by
  have:=ho6.row qK;rw [sO ain]at this;simpa using this
 have iy:(m.args++[m.result]).length<=17:=by simp;omega
 clear ho6 ht6 ho5 ij jD;generalize hL:m.args++[m.result]=L at *
 have Lin:∀x∈L,x∈s.ns:=λx hx=>by
  rw[<- hL]at hx;rcases aA.1 hx with h9|h9
  . exact ain x h9
  . simp at h9;subst h9;exact gp
 have hbl6:=tc6.tb.hb;repeat' first|refine wk ?_|apply cX <;> intro
 refine lpR (λi:Nat=>[(1,ptr n 0),(4,ptr bt 0),(10,v6),(11,I64 i)]) (λi h3 n3=>h3=h6/\n3=n6/\i<=L.length/\∀(j:Nat) x,j<i->L[j]? = some x->m.classes.any (λc=>decide (x∈c.regs))=true) (λi=>L.length - i) 0 ⟨rfl,rfl,an _,λj _ hj=>absurd hj (aE _)⟩ ?_
 rintro i t h3 n3 ⟨rfl,rfl,hi,eG⟩
 by_cases eD:i<L.length
 . have c0:L[i]? = some L[i]:=aa eD;generalize L[i]=x at c0
   have c1:zD h3 (sbk v6) (sof v6+i*1)=some (I64 (pos s.ns x)):=by rw[aQ];exact r6.at (by rw[ao,ao,c0];rfl)
   have hx:=Lin x (ae c0);repeat' first|refine wk ?_|apply cX <;> intro
   refine lpR (α :=Nat×Bool) (λa=>[(1,ptr n 0),(4,ptr bt 0),(10,v6),(11,I64 i),(12,.bool a.2),(13,I64 a.1)]) (λa h4 n4=>h4=h3/\n4=n3/\a.1<=kvs.length/\(a.2=true↔∃(j:Nat) (c:ClassT),j<a.1/\m.classes[j]? = some c/\x∈c.regs)) (λa=>kvs.length - a.1) (0,false) ⟨rfl,rfl,an _,λh9=>(by cases h9),λ⟨j,_,h9,_⟩=>absurd h9 (aE _)⟩ ?_
   rintro ⟨q,b⟩ t h4 n4 ⟨rfl,rfl,hq,hb⟩
   dsimp only at hq hb ⊢;by_cases eK:q<kvs.length
   . have d0:m.classes[q]? = some m.classes[q]:=aa qJ;generalize m.classes[q]=c at d0
     have e2:inN m s.ns (q:Nat) (pos s.ns x)=decide (x∈c.regs):=by
      unfold inN;rw [decide_eq_true qJ];show(true && match m.classes[q]? with|some k=>decide (pos s.ns x∈k.regs.map (pos s.ns))|none=>false)=_;rw [d0];exact decide_eq_decide.2 (pos_mem (cs.mem _ _ d0))
     cases b with
     | true =>
      repeat' first|refine wk ?_|apply cX <;> intro
      exact rnd (q+1,true) ⟨rfl,rfl,by omega,λ_=>by
       obtain⟨j,c',h7,h8⟩:=hb.1 rfl;exact⟨j,c',by omega,h8⟩,λ_=>rfl⟩
     | false =>
      repeat' first|refine wk ?_|refine cX (λ_=>?_) λ_=>?_|refine zS (tin_pur tc6 _ _) ?_|fail
      exact rnd (q+1,inN m s.ns (q:Nat) (pos s.ns x)) ⟨rfl,rfl,by omega,λh9=>⟨q,c,by omega,d0,by rw[e2]at h9;exact of_decide_eq_true h9⟩,λ⟨j,c',h7,h8,h9⟩=>by
       rcases ai.1 h7 with h7|rfl
       . have:=hb.2 ⟨j,c',h7,h8,h9⟩;cases this
       . rw[d0]at h8;cases h8;rw [e2];exact decide_eq_true h9⟩
   . obtain rfl:q=kvs.length:=by omega
     cases b with
     | false=>
      repeat' first|refine wk ?_|apply cX <;> intro
      refine fD (λhc=>?_) _ _ iX;have h9:=hc.2.2.2.2.2.2 i x (by rw[hL];exact c0);obtain⟨c,h7,h8⟩:=ap.1 h9;obtain⟨j,hj⟩:=aj.1 h7;have:=hb.2 ⟨j,c,by have:=(ab.1 hj).1;omega,hj,of_decide_eq_true h8⟩;cases this
     | true =>
      obtain⟨j,c,h7,h8,h9⟩:=hb.1 rfl;repeat' first|refine wk ?_|apply cX <;> intro
      exact rnd (i+1) ⟨rfl,rfl,by omega,λj' y hj e=>by
       rcases ai.1 hj with h6|rfl
       . exact eG j' y h6 e
       . rw[c0]at e;cases e;exact ap.2 ⟨c,ae h8,decide_eq_true h9⟩⟩
 obtain rfl:i=L.length:=by omega
 have iD:rH m s.ns s.ps (wS s.ns s.ps):=⟨⟨by omega,eY⟩,gp,⟨by omega,iT⟩,hsl2,by omega,by omega,λi x e=>by rw[hL]at e;exact eG i x (ab.1 e).1 e⟩;have jH:¬uM m s.ns s.ps->∀h3 n3,Tch [] h n h3 n3->∃e,MakeE m e/\Tch [] h n h3 n3/\((e≠0/\Out.ret (.tuple ⟨[.pointer none,I64 11]⟩) = .ret (.tuple ⟨[.pointer none,I64 e]⟩))\/(e=0/\∃bt nsv psv kv kvs s,Out.ret (.tuple ⟨[.pointer none,I64 11]⟩) = .ret (.tuple ⟨[ptr bt 0,I64 0]⟩)/\n<=bt/\geoP m.regs = .ok s/\GOK s/\Tc n3 h3 bt zTab m nsv psv kv s.ns s.ps kvs/\MOK m s.ns s.ps)):=λhc h3 n3 t3=>⟨11,mke 11 (.inr ⟨iD,.inl ⟨rfl,hc⟩⟩),t3,.inl ⟨by decide,rfl⟩⟩;clear eG hi eD;repeat' first|refine wk ?_|apply cX <;> intro
 clear r6;refine lpR (λi:Nat=>[(1,ptr n 0),(4,ptr bt 0),(14,I64 i)]) (λi h4 n4=>h4=h3/\n4=n3/\i<=m.ops.length/\∀(j:Nat) o,j<i->m.ops[j]? = some o->fitsB m s.ns s.ps o=true) (λi=>m.ops.length - i) 0 ⟨rfl,rfl,an _,λj _ hj=>absurd hj (aE _)⟩ ?_
 rintro i t h4 n4 ⟨rfl,rfl,hi,eG⟩
 by_cases eD:i<m.ops.length
 . have c0:m.ops[i]? = some m.ops[i]:=aa eD;generalize m.ops[i]=o at c0
   obtain⟨⟨g1,g2,g3,g4,g5,g6,g7,g8⟩,glen⟩:=oo i o c0
   have ef:=fits_eq cs fO glen g2 (λu hu=>by
    obtain⟨j,hj⟩:=aj.1 hu;exact(g3 j u hj).1) (λr hr=>by
    obtain⟨j,hj⟩:=aj.1 hr;exact(g8 j r hj).1) g5 g6
   repeat' first|refine wk ?_|refine cX (λ_=>?_) λ_=>?_|refine zS (rfits_pur tc6 qJ  hcb c0 g5 glen) ?_|fail
   . rename_i q1;rw [ef]at q1;exact jH (λhb=>by have:=hb.1 i o c0;rw [q1]at this;cases this) _ _ iX
   . rename_i q1;rw [ef]at q1
     exact rnd (i+1) ⟨rfl,rfl,by omega,λj y hj e=>by
      rcases ai.1 hj with h9|rfl
      . exact eG j y h9 e
      . rw[c0]at e;cases e;exact q1⟩
 obtain rfl:i=m.ops.length:=by omega
 have iG:∀(j:Nat) o,m.ops[j]? = some o->fitsB m s.ns s.ps o=true:=λj o e=>eG j o (ab.1 e).1 e;clear eG hi eD;repeat' first|refine wk ?_|apply cX <;> intro
 refine lpR (λi:Nat=>[(1,ptr n 0),(4,ptr bt 0),(16,I64 i)]) (λi h5 n5=>h5=h4/\n5=n4/\i<=kvs.length/\∀(a b:Nat) ca cb,a<i->a<=b->m.classes[a]? = some ca->m.classes[b]? = some cb->rPair s.ns s.ps ca cb=true) (λi=>kvs.length - i) 0 ⟨rfl,rfl,an _,λj _ _ _ hj=>absurd hj (aE _)⟩ ?_
 rintro i t h5 n5 ⟨rfl,rfl,hi,eG⟩
 by_cases eD:i<kvs.length
 . have c0:m.classes[i]? = some m.classes[i]:=aa qJ;generalize m.classes[i]=ca at c0
   repeat' first|refine wk ?_|apply cX <;> intro
   refine lpR (λq:Nat=>[(1,ptr n 0),(4,ptr bt 0),(16,I64 i),(17,I64 q)]) (λq h6 n6=>h6=h5/\n6=n5/\i<=q/\q<=kvs.length/\∀(b:Nat) cb,i<=b->b<q->m.classes[b]? = some cb->rPair s.ns s.ps ca cb=true) (λq=>kvs.length - q) i ⟨rfl,rfl,ad _,by omega,λb cb h8 h9=>by omega⟩ ?_
   rintro q t h6 n6 ⟨rfl,rfl,jz,hq,hno2⟩
   by_cases eK:q<kvs.length
   . have d0:m.classes[q]? = some m.classes[q]:=aa qJ;generalize m.classes[q]=cb at d0
     repeat' first|refine wk ?_|refine cX (λ_=>?_) λ_=>?_|refine zS (rpair_pur tc6 qJ  c0 d0) ?_|fail
     . rename_i q1;refine jH (λhb=>?_) _ _ iX;have:=hb.2 q i cb ca jz d0 c0;rw [pairBB_comm,<- pair_eq cs fO c0 d0,q1]at this;cases this
     . rename_i q1
       exact rnd (q+1) ⟨rfl,rfl,by omega,by omega,λb cb' h8 h9 e=>by
        rcases ai.1 h9 with h9|rfl
        . exact hno2 b cb' h8 h9 e
        . rw[d0]at e;cases e;exact q1⟩
   . obtain rfl:q=kvs.length:=by omega
     repeat' first|refine wk ?_|apply cX <;> intro
     exact rnd (i+1) ⟨rfl,rfl,by omega,λa b ca' cb h7 h8 e1 e2=>by
      rcases ai.1 h7 with h7|rfl
      . exact eG a b ca' cb h7 h8 e1 e2
      . rw[c0]at e1;cases e1;exact hno2 b cb h8 (by have:=(ab.1 e2).1;omega) e2⟩
 obtain rfl:i=kvs.length:=by omega
 have iU:uM m s.ns s.ps:=⟨iG,λa b ca cb hba e1 e2=>by
  rw[pairBB_comm,<- pair_eq cs fO e2 e1];exact eG b a cb ca (by have:=(ab.1 e2).1;omega) hba e2 e1⟩
 repeat' first|refine wk ?_|apply cX <;> intro
 exact⟨0,mke 0 (.inr ⟨iD,.inr ⟨rfl,iU⟩⟩),iX,.inr ⟨rfl,bt,nsv,psv,kv,kvs,s,rfl,by omega,hg,hgo,⟨Tb.up tc6.tb qJ,tc6.kr.up qJ,tc6.kl,λi c hc=>by
  obtain⟨v,g1,g2⟩:=tc6.ke i c hc;exact⟨v,g1,g2.up qJ⟩⟩,⟨hg,eJ,hce,iN,iD,iU,eO⟩⟩⟩
end
end Go.Proofs.YtdiejolnllipnaaGreatDoor
