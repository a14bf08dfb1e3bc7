/- What the law leans on, part 21 of 24. Conditions: those that each theorem states. -/
import Derived.Test.YtdiejolnllipnaaGreatDoorMachPrintsx11
import Derived.Test.YtdiejolnllipnaaGreatDoorMachPrintsx18
import Derived.Test.YtdiejolnllipnaaGreatDoorMachPrintsx10
import Derived.Test.YtdiejolnllipnaaGreatDoorMachPrintsx9
import Derived.Test.YtdiejolnllipnaaGreatDoorMachPrintsx17
import Derived.Lib.Join
import Derived.Lib.ItoaNum
import Derived.Shelf.Strings.Builder1
import Derived.Shelf.Strings.Builder2
import Derived.Shelf.Strings.OnBuilder
import Derived.Shelf.Small.Wraps
import Derived.Shelf.Strconv.Atoi
import Derived.Shelf.Strconv.Itoa0
import Derived.Shelf.Strconv.Itoa1
import Derived.Shelf.LaysM
import Derived.Shelf.Strconv.Itoa2
import Derived.Shelf.Strconv.Itoa3
import Derived.Shelf.Strconv.AtoiErrFast
import Derived.Shelf.Strconv.ParseIntEmpty
import Derived.Shelf.Strconv.AtoiFail
import Derived.Shelf.Strconv.Clone
import Derived.Shelf.Strconv.SyntaxError
import Derived.Shelf.LaysC
import Derived.Shelf.Strconv.ToError
import Derived.Shelf.Strconv.AtoiErr
import Derived.Shelf.Strconv.Lower
import Derived.Shelf.Strconv.ParseUint10
import Derived.Shelf.Strconv.ParseUint10Empty
import Derived.Shelf.Strconv.ParseUint10Any
import Derived.Shelf.Strconv.ParseInt10
import Derived.Shelf.Strconv.AtoiLong
import Derived.Shelf.Strconv.AtoiInnerAll
import Derived.Shelf.Strconv.RangeError
import Derived.Shelf.Strconv.ToErrorRange
import Derived.Shelf.Strconv.AtoiAll
import Derived.Shelf.Strings.Search1
import Derived.Shelf.Strings.Search2
import Derived.Shelf.Strings.Search3
import Derived.Shelf.Strings.Cut
import Derived.Shelf.Strings.Count
import Derived.Shelf.Strings.Shaped
import Derived.Shelf.Strings.Prefix
import Derived.Shelf.Strings.Split
import Derived.Shelf.Unicode.DecodeSlow
import Derived.Test.YtdiejolnllipnaaGreatDoorProg
import Derived.Test.YtdiejolnllipnaaGreatDoorRows
import Derived.KernelRfl
import Derived.Lib.AppendIntMem
import Derived.WalkSmall
import Derived.Lib.AtoiAll
import Derived.Lib.ItoaLen

set_option linter.unusedVariables false
set_option linter.unusedSimpArgs false
namespace Go.Ex.M
section
def rgN(ns:List Tx)(r:Int):Tx:=if 0<=r then(ns[r.toNat]?).getD [] else []
abbrev wEq:Tx:=[61]
abbrev wConst:Tx:=[99,111,110,115,116]
abbrev wMove:Tx:=[109,111,118,101]
abbrev wLoad:Tx:=[108,111,97,100]
abbrev wStore:Tx:=[115,116,111,114,101]
abbrev wCall:Tx:=[99,97,108,108]
abbrev wBr:Tx:=[98,114]
abbrev wJump:Tx:=[106,117,109,112]
abbrev wSpill:Tx:=[115,112,105,108,108]
abbrev rP:Tx:=[114,101,108,111,97,100]
abbrev wRet:Tx:=[114,101,116]
def zU(ns:List Tx)(res:Tx)(i:InsT):List Tx:=
 if i.kind=1 then [rgN ns i.d,wEq,wConst,Lib.itoa i.n]
 else if i.kind=2 then [rgN ns i.d,wEq,wMove,rgN ns i.a]
 else if i.kind=3 then [rgN ns i.d,wEq,i.name]++i.args.map (rgN ns)
 else if i.kind=4 then [rgN ns i.d,wEq,wLoad,rgN ns i.a]
 else if i.kind=5 then [wStore,rgN ns i.a,rgN ns i.b]
 else if i.kind=6 then(if i.d = -1 then [] else [res,wEq])++[wCall,i.name,Lib.itoa i.n]
 else if i.kind=7 then [wBr,rgN ns i.a,Lib.itoa i.t,Lib.itoa i.f]
 else if i.kind=8 then [wJump,Lib.itoa i.t]
 else if i.kind=10 then [wSpill,Lib.itoa i.n,rgN ns i.a]
 else if i.kind=11 then [rgN ns i.d,wEq,rP,Lib.itoa i.n]
 else [wRet]
def lnT(hd:Tx)(ws:List Tx):Tx:=hd++Lib.join ws [32]++[10]
def insTx(ns:List Tx)(res:Tx)(i:InsT):Tx:=lnT [32,32] (zU ns res i)
def blkTx(ns:List Tx)(res:Tx)(l:List InsT):Tx:=lnT [] [[98,108,111,99,107]]++l.flatMap (insTx ns res)
def headTx(c:CodeT):Tx:=lnT [] [[99,111,100,101],c.name]++lnT [] [[115,108,111,116,115],Lib.itoa c.slots]
def uA(ns:List Tx)(res:Tx)(c:CodeT):Tx:=headTx c++c.blocks.flatMap (λb=>blkTx ns res b.2)++lnT [] [[101,110,100]]
end
end Go.Ex.M
namespace Go.Proofs.YtdiejolnllipnaaGreatDoor
open Go Go.Ex Go.Ex.M
set_option maxRecDepth 100000
set_option maxHeartbeats 8000000
section
variable {lo n bt:Nat} {h:zB} {m:MachT} {ns:List Tx} {ps:List Pl} {v:TabV}
theorem ato_str{lo n len:Nat}{h:zB}{sv:Value}{vs:List Value}(r:Row lo h sv 9 1 len vs)(_hlt:len<4611686018427387904)(i:Int):Pur P 8 121 [sv,I64 i] h n (.bool (decide (0<=i) && decide (i<len))):=by
 refine ent λu=>?_;by_cases h0:0<=i
 . by_cases h1:i<len
   . repeat' first|refine wk ?_|apply cX <;> intro
     exact fin (by rw[decide_eq_true h0,decide_eq_true h1];rfl)
   . repeat' first|refine wk ?_|apply cX <;> intro
     exact fin (by rw[decide_eq_true h0,decide_eq_false h1];rfl)
 . repeat' first|refine wk ?_|apply cX <;> intro
   exact fin (by rw[decide_eq_false h0];rfl)
theorem tname_pur(k:TabM lo n h bt m ns ps v)(gf:ns.length<=200)(r:Int):Pur P 8 62 [ptr bt 0,I64 r] h n (str (rgN ns r)):=by
 have hcel:=k.cel;have r0:=k.on.row qK;refine ent λu=>?_;by_cases h0:0<=r
 . obtain⟨j,rfl⟩:=bC h0;by_cases h1:j<ns.length
   . have c0:ns[j]? = some ns[j]:=aa h1;have e1:rgN ns (j:Int)=ns[j]:=by unfold rgN;rw [if_pos h0,bM,c0];rfl
     rw[e1];generalize ns[j]=x at c0
     have c1:=yE r0 c0;have low:=r0.low qJ;repeat' first|refine wk ?_|refine cX (λ_=>?_) λ_=>?_|refine zS (ato_str r0 qJ  _) ?_|fail
     . rename_i f1;simp [h1]at f1
     . exact fin rfl
   . repeat' first|refine wk ?_|refine cX (λ_=>?_) λ_=>?_|refine zS (ato_str r0 qJ  _) ?_|fail
     . exact fin (by unfold rgN;rw [if_pos h0,bM,aw qJ];rfl)
     . rename_i f1;simp at f1;omega
 . repeat' first|refine wk ?_|refine cX (λ_=>?_) λ_=>?_|refine zS (ato_str r0 qJ  _) ?_|fail
   . exact fin (by unfold rgN;rw [if_neg h0])
   . rename_i f1;simp at f1;omega
theorem treg_at(k:TabM lo n h bt m ns ps v)(fJ:ns.Nodup){j:Nat}{x:Tx}(hj:ns[j]? = some x):Pur P 8 182 [ptr bt 0,str x] h n (.tuple ⟨[I64 (j:Nat),.bool true]⟩):=by
 have hcel:=k.cel;have mr:=k.mr;obtain⟨A,B,e1,e2⟩:=uO hj fJ;rw [e1]at mr;have lk:xG P h 99 (.map (some v.rb)) (str x) true=some (.tuple ⟨[I64 (j:Nat),.bool true]⟩):=lku_at (P:=P) (ty:=99) (ok:=true) mr e2;refine ent λu=>?_;repeat' first|refine wk ?_|apply cX <;> intro
 exact fin rfl
theorem tres_pur(k:TabM lo n h bt m ns ps v)(fJ:ns.Nodup){j:Nat}(hj:ns[j]? = some m.result):Pur P 8 63 [ptr bt 0] h n (I64 (j:Nat)):=by
 have hcel:=k.cel;have mr:=k.mr;have er:=k.cp.res;obtain⟨A,B,e1,e2⟩:=uO hj fJ;rw [e1]at mr;have lk:xG P h 99 (.map (some v.rb)) (str m.result) false=some (I64 (j:Nat)):=lku_at (P:=P) (ty:=99) (ok:=false) mr e2;rw [<- er]at lk;refine ent λu=>?_;repeat' first|refine wk ?_|apply cX <;> intro
 exact fin rfl
end
end Go.Proofs.YtdiejolnllipnaaGreatDoor
namespace Go.Proofs
open Go.Shelf
section
def Tryz.lays169_ren:Go.Shelf.Ren:=⟨λ|169=>25|n=>n,λ|70=>66|9=>9|0=>0|72=>69|37=>67|127=>134|3=>3|5=>5|n=>n,λ|n=>n⟩
theorem Tryz.lays169:Go.Proofs.Lays.n169 Tryz.prog Tryz.lays169_ren:={
 mixed:=by kernel_rfl
 f169:=Tryz.func25.trans (congrArg some qN)
 t0:=Tryz.underlying0
 a0:=Tryz.isAgg0
 z0:=Tryz.sizeOf0
 v0:=Tryz.zeroValue0
 t3:=Tryz.underlying3
 a3:=Tryz.isAgg3
 z3:=Tryz.sizeOf3
 v3:=Tryz.zeroValue3
 t9:=Tryz.underlying9
 a9:=Tryz.isAgg9
 z9:=Tryz.sizeOf9
 v9:=Tryz.zeroValue9
 t37:=Tryz.underlying67
 a37:=Tryz.isAgg67
 z37:=Tryz.sizeOf67
 v37:=Tryz.zeroValue67
 t70:=Tryz.underlying66
 a70:=Tryz.isAgg66
 z70:=Tryz.sizeOf66
 v70:=Tryz.zeroValue66
 t72:=Tryz.underlying69
 a72:=Tryz.isAgg69
 z72:=Tryz.sizeOf69
 v72:=Tryz.zeroValue69
 t127:=Tryz.underlying134
 a127:=Tryz.isAgg134
 z127:=Tryz.sizeOf134
 v127:=Tryz.zeroValue134 }
theorem Tryz.Builder_Extra_169:Builder.Extra Tryz.prog Tryz.lays169_ren:={
 sizeBuilder:=by kernel_rfl
 liesBuilder:=by kernel_rfl
 t5:=Tryz.underlying5
 a5:=Tryz.isAgg5
 z5:=Tryz.sizeOf5
 v5:=Tryz.zeroValue5
 infoByte:=by kernel_rfl
 cellsByte:=by kernel_rfl
 sizeByte:=by kernel_rfl
 neB5:=by decide }
def Tryz.lays156_ren:Go.Shelf.Ren:=⟨λ|156=>22|165=>60|166=>21|169=>25|240=>59|241=>119|276=>118|277=>175|n=>n,λ|31=>25|9=>9|3=>3|4=>4|0=>0|20=>20|72=>69|76=>72|70=>66|37=>67|75=>71|127=>134|164=>187|5=>5|80=>78|n=>n,λ|n=>n⟩
theorem Tryz.lays156:Go.Proofs.Lays.n156 Tryz.prog Tryz.lays156_ren:={
 mixed:=by kernel_rfl
 f156:=Tryz.func22.trans (congrArg some qN)
 f165:=Tryz.func60.trans (congrArg some qN)
 f166:=Tryz.func21.trans (congrArg some qN)
 f169:=Tryz.func25.trans (congrArg some qN)
 f240:=Tryz.func59.trans (congrArg some qN)
 f241:=Tryz.func119.trans (congrArg some qN)
 f276:=Tryz.func118.trans (congrArg some qN)
 f277:=Tryz.func175.trans (congrArg some qN)
 t0:=Tryz.underlying0
 a0:=Tryz.isAgg0
 z0:=Tryz.sizeOf0
 v0:=Tryz.zeroValue0
 t3:=Tryz.underlying3
 a3:=Tryz.isAgg3
 z3:=Tryz.sizeOf3
 v3:=Tryz.zeroValue3
 t4:=Tryz.underlying4
 a4:=Tryz.isAgg4
 z4:=Tryz.sizeOf4
 v4:=Tryz.zeroValue4
 t9:=Tryz.underlying9
 a9:=Tryz.isAgg9
 z9:=Tryz.sizeOf9
 v9:=Tryz.zeroValue9
 t20:=Tryz.underlying20
 a20:=Tryz.isAgg20
 z20:=Tryz.sizeOf20
 v20:=Tryz.zeroValue20
 t31:=Tryz.underlying25
 a31:=Tryz.isAgg25
 z31:=Tryz.sizeOf25
 v31:=Tryz.zeroValue25
 t37:=Tryz.underlying67
 a37:=Tryz.isAgg67
 z37:=Tryz.sizeOf67
 v37:=Tryz.zeroValue67
 t70:=Tryz.underlying66
 a70:=Tryz.isAgg66
 z70:=Tryz.sizeOf66
 v70:=Tryz.zeroValue66
 t72:=Tryz.underlying69
 a72:=Tryz.isAgg69
 z72:=Tryz.sizeOf69
 v72:=Tryz.zeroValue69
 t75:=Tryz.underlying71
 a75:=Tryz.isAgg71
 z75:=Tryz.sizeOf71
 v75:=Tryz.zeroValue71
 t76:=Tryz.underlying72
 a76:=Tryz.isAgg72
 z76:=Tryz.sizeOf72
 v76:=Tryz.zeroValue72
 t127:=Tryz.underlying134
 a127:=Tryz.isAgg134
 z127:=Tryz.sizeOf134
 v127:=Tryz.zeroValue134
 t164:=Tryz.underlying187
 a164:=Tryz.isAgg187
 z164:=Tryz.sizeOf187
 v164:=Tryz.zeroValue187 }
theorem Tryz.Builder_Extra_156:Builder.Extra Tryz.prog Tryz.lays156_ren:={
 sizeBuilder:=by kernel_rfl
 liesBuilder:=by kernel_rfl
 t5:=Tryz.underlying5
 a5:=Tryz.isAgg5
 z5:=Tryz.sizeOf5
 v5:=Tryz.zeroValue5
 infoByte:=by kernel_rfl
 cellsByte:=by kernel_rfl
 sizeByte:=by kernel_rfl
 neB5:=by decide }
open Go.RowKit in
theorem Tryz.strings_Join_none(a:Option Addr)(c:Nat)(sep:ByteArray)(w:World) :
 Calls Tryz.prog 22 #[.slice a 0 c,.string sep] w λe w'=>e = .returned (.string ⟨#[]⟩)/\w'=w:=Any.strings_Join_none Tryz.lays156 Tryz.Builder_Extra_156 a c sep w
open Go.RowKit in
theorem Tryz.strings_Join(bk o c:Nat)(xs:List ByteArray)(sep:ByteArray)(w:World)(hcells:∀(j:Nat) x,xs[j]? = some x->w.cell? ⟨bk,o+j,none⟩=some (.string x))(hbk:bk<w.heap.size)(hN:xs.length<=140737488355328)(fq:xs.length<=c)(eN:(Lib.join (xs.map (·.data.toList)) sep.data.toList).length<=140737488355328) :
 Calls Tryz.prog 22 #[.slice (some ⟨bk,o,none⟩) xs.length c,.string sep] w λe w'=>e = .returned (.string ⟨(Lib.join (xs.map (·.data.toList)) sep.data.toList).toArray⟩)/\Below w.heap.size w w':=Any.strings_Join Tryz.lays156 Tryz.Builder_Extra_156 bk o c xs sep w hcells hbk hN fq eN
def Tryz.lays103_ren:Go.Shelf.Ren:=⟨λ|103=>184|210=>212|206=>231|n=>n,λ|9=>9|4=>4|24=>238|3=>3|n=>n,λ|n=>n⟩
theorem Tryz.lays103:Go.Proofs.Lays.n103 Tryz.prog Tryz.lays103_ren:={
 mixed:=by kernel_rfl
 f103:=Tryz.func184.trans (congrArg some qN)
 f206:=Tryz.func231.trans (congrArg some qN)
 f210:=Tryz.func212.trans (congrArg some qN)
 t3:=Tryz.underlying3
 a3:=Tryz.isAgg3
 z3:=Tryz.sizeOf3
 v3:=Tryz.zeroValue3
 t4:=Tryz.underlying4
 a4:=Tryz.isAgg4
 z4:=Tryz.sizeOf4
 v4:=Tryz.zeroValue4
 t9:=Tryz.underlying9
 a9:=Tryz.isAgg9
 z9:=Tryz.sizeOf9
 v9:=Tryz.zeroValue9
 t24:=Tryz.underlying238
 a24:=Tryz.isAgg238
 z24:=Tryz.sizeOf238
 v24:=Tryz.zeroValue238 }
open Go.RowKit in
theorem Tryz.strings_CutPrefix(s p:ByteArray)(w:World) :
 Calls Tryz.prog 184 #[.string s,.string p] w λe w'=>e = .returned (.tuple #[.string ⟨(Lib.trimPrefix s.data.toList p.data.toList).toArray⟩,.bool (Lib.hasPrefix s.data.toList p.data.toList)])/\w'=w:=Any.strings_CutPrefix Tryz.lays103 s p w
def Tryz.lays172_ren:Go.Shelf.Ren:=⟨λ|172=>180|244=>208|245=>209|247=>222|279=>223|280=>224|281=>225|282=>226|287=>235|316=>236|171=>23|205=>237|321=>243|322=>244|243=>61|246=>120|283=>176|284=>177|285=>178|286=>179|129=>204|317=>203|318=>205|319=>206|320=>207|337=>220|338=>221|n=>n,λ|9=>9|3=>3|75=>71|76=>72|4=>4|5=>5|167=>272|37=>67|0=>0|85=>273|2=>2|168=>275|53=>170|175=>283|46=>218|210=>287|127=>134|145=>296|143=>294|21=>21|171=>232|173=>235|212=>260|51=>261|20=>20|213=>262|232=>281|233=>282|80=>78|n=>n,λ|15=>4|16=>5|17=>1|18=>2|19=>3|n=>n⟩
def Tryz.laysM171_ren:Go.Shelf.Ren:=⟨λ|171=>23|243=>61|246=>120|283=>176|284=>177|285=>178|286=>179|129=>204|317=>203|318=>205|319=>206|320=>207|337=>220|338=>221|n=>n,λ|3=>3|9=>9|2=>2|4=>4|171=>232|0=>0|53=>170|37=>67|5=>5|173=>235|212=>260|51=>261|20=>20|213=>262|46=>218|232=>281|233=>282|n=>n,λ|17=>1|18=>2|19=>3|n=>n⟩
theorem Tryz.laysM171:Go.Proofs.LaysM.n171 Tryz.prog Tryz.laysM171_ren:={
 mixed:=by kernel_rfl
 f129:=Tryz.func204.trans (congrArg some qN)
 f171:=Tryz.func23.trans (congrArg some qN)
 f243:=Tryz.func61.trans (congrArg some qN)
 f246:=Tryz.func120.trans (congrArg some qN)
 f283:=Tryz.func176.trans (congrArg some qN)
 f284:=Tryz.func177.trans (congrArg some qN)
 f285:=Tryz.func178.trans (congrArg some qN)
 f286:=Tryz.func179.trans (congrArg some qN)
 f317:=Tryz.func203.trans (congrArg some qN)
 f318:=Tryz.func205.trans (congrArg some qN)
 f319:=Tryz.func206.trans (congrArg some qN)
 f320:=Tryz.func207.trans (congrArg some qN)
 f337:=Tryz.func220.trans (congrArg some qN)
 f338:=Tryz.func221.trans (congrArg some qN)
 t0:=Tryz.underlying0
 a0:=Tryz.isAgg0
 z0:=Tryz.sizeOf0
 v0:=Tryz.zeroValue0
 t2:=Tryz.underlying2
 a2:=Tryz.isAgg2
 z2:=Tryz.sizeOf2
 v2:=Tryz.zeroValue2
 t3:=Tryz.underlying3
 a3:=Tryz.isAgg3
 z3:=Tryz.sizeOf3
 v3:=Tryz.zeroValue3
 t4:=Tryz.underlying4
 a4:=Tryz.isAgg4
 z4:=Tryz.sizeOf4
 v4:=Tryz.zeroValue4
 t5:=Tryz.underlying5
 a5:=Tryz.isAgg5
 z5:=Tryz.sizeOf5
 v5:=Tryz.zeroValue5
 t9:=Tryz.underlying9
 a9:=Tryz.isAgg9
 z9:=Tryz.sizeOf9
 v9:=Tryz.zeroValue9
 t20:=Tryz.underlying20
 a20:=Tryz.isAgg20
 z20:=Tryz.sizeOf20
 v20:=Tryz.zeroValue20
 t37:=Tryz.underlying67
 a37:=Tryz.isAgg67
 z37:=Tryz.sizeOf67
 v37:=Tryz.zeroValue67
 t46:=Tryz.underlying218
 a46:=Tryz.isAgg218
 z46:=Tryz.sizeOf218
 v46:=Tryz.zeroValue218
 t51:=Tryz.underlying261
 a51:=Tryz.isAgg261
 z51:=Tryz.sizeOf261
 v51:=Tryz.zeroValue261
 t53:=Tryz.underlying170
 a53:=Tryz.isAgg170
 z53:=Tryz.sizeOf170
 v53:=Tryz.zeroValue170
 t171:=Tryz.underlying232
 a171:=Tryz.isAgg232
 z171:=Tryz.sizeOf232
 v171:=Tryz.zeroValue232
 t173:=Tryz.underlying235
 a173:=Tryz.isAgg235
 z173:=Tryz.sizeOf235
 v173:=Tryz.zeroValue235
 t212:=Tryz.underlying260
 a212:=Tryz.isAgg260
 z212:=Tryz.sizeOf260
 v212:=Tryz.zeroValue260
 t213:=Tryz.underlying262
 a213:=Tryz.isAgg262
 z213:=Tryz.sizeOf262
 t232:=Tryz.underlying281
 a232:=Tryz.isAgg281
 z232:=Tryz.sizeOf281
 v232:=Tryz.zeroValue281
 t233:=Tryz.underlying282
 a233:=Tryz.isAgg282
 z233:=Tryz.sizeOf282
 v233:=Tryz.zeroValue282
 g17:=by kernel_rfl
 g18:=by kernel_rfl
 g19:=by kernel_rfl
 i0:=by kernel_rfl
 i2:=by kernel_rfl
 i3:=by kernel_rfl
 i4:=by kernel_rfl
 i5:=by kernel_rfl
 i9:=by kernel_rfl
 i20:=by kernel_rfl
 i37:=by kernel_rfl
 i46:=by kernel_rfl
 i51:=by kernel_rfl
 i53:=by kernel_rfl
 i171:=by kernel_rfl
 i173:=by kernel_rfl
 i212:=by kernel_rfl
 i232:=by kernel_rfl
 i233:=by kernel_rfl
 m17:=by kernel_rfl
 m18:=by kernel_rfl
 m19:=by kernel_rfl }
open Go.RowKit Go.Sort Go.Lib in
theorem Tryz.strconv_Itoa (n:Int) (h0: -9223372036854775808<=n) (h1:n<=9223372036854775807) (w:World) (htab:Lib.TabIs Tryz.prog w "internal/strconv.uint64pow10" .u64 Lib.pow10Tab) :
 Calls Tryz.prog 23 #[.int .i64 n] w λe w'=>e = .returned (.string ⟨(Lib.itoa n).toArray⟩)/\∃k os,w'=grow (w.drewN k) os:=Any.strconv_Itoa Tryz.laysM171 n h0 h1 w htab
def Tryz.laysC172_ren:Go.Shelf.Ren:=⟨λ|172=>180|244=>208|245=>209|247=>222|279=>223|280=>224|281=>225|282=>226|287=>235|316=>236|171=>23|205=>237|321=>243|322=>244|243=>61|246=>120|283=>176|284=>177|285=>178|286=>179|129=>204|317=>203|318=>205|319=>206|320=>207|337=>220|338=>221|n=>n,λ|9=>9|3=>3|75=>71|76=>72|4=>4|5=>5|167=>272|37=>67|0=>0|85=>273|2=>2|168=>275|53=>170|175=>283|46=>218|210=>287|127=>134|145=>296|143=>294|21=>21|171=>232|173=>235|212=>260|51=>261|20=>20|213=>262|232=>281|233=>282|80=>78|n=>n,λ|15=>4|16=>5|17=>1|18=>2|19=>3|n=>n⟩
theorem Tryz.laysC172:Go.Proofs.LaysC.n172 Tryz.prog Tryz.laysC172_ren:={
 mixed:=by kernel_rfl
 f129:=Tryz.func204.trans (congrArg some qN)
 f171:=Tryz.func23.trans (congrArg some qN)
 f172:=Tryz.func180.trans (congrArg some qN)
 f205:=Tryz.func237.trans (congrArg some qN)
 f243:=Tryz.func61.trans (congrArg some qN)
 f244:=Tryz.func208.trans (congrArg some qN)
 f245:=Tryz.func209.trans (congrArg some qN)
 f246:=Tryz.func120.trans (congrArg some qN)
 f247:=Tryz.func222.trans (congrArg some qN)
 f279:=Tryz.func223.trans (congrArg some qN)
 f280:=Tryz.func224.trans (congrArg some qN)
 f281:=Tryz.func225.trans (congrArg some qN)
 f282:=Tryz.func226.trans (congrArg some qN)
 f283:=Tryz.func176.trans (congrArg some qN)
 f284:=Tryz.func177.trans (congrArg some qN)
 f285:=Tryz.func178.trans (congrArg some qN)
 f286:=Tryz.func179.trans (congrArg some qN)
 f287:=Tryz.func235.trans (congrArg some qN)
 f316:=Tryz.func236.trans (congrArg some qN)
 f317:=Tryz.func203.trans (congrArg some qN)
 f318:=Tryz.func205.trans (congrArg some qN)
 f319:=Tryz.func206.trans (congrArg some qN)
 f320:=Tryz.func207.trans (congrArg some qN)
 f321:=Tryz.func243.trans (congrArg some qN)
 f322:=Tryz.func244.trans (congrArg some qN)
 f337:=Tryz.func220.trans (congrArg some qN)
 f338:=Tryz.func221.trans (congrArg some qN)
 t0:=Tryz.underlying0
 a0:=Tryz.isAgg0
 z0:=Tryz.sizeOf0
 v0:=Tryz.zeroValue0
 t2:=Tryz.underlying2
 a2:=Tryz.isAgg2
 z2:=Tryz.sizeOf2
 v2:=Tryz.zeroValue2
 t3:=Tryz.underlying3
 a3:=Tryz.isAgg3
 z3:=Tryz.sizeOf3
 v3:=Tryz.zeroValue3
 t4:=Tryz.underlying4
 a4:=Tryz.isAgg4
 z4:=Tryz.sizeOf4
 v4:=Tryz.zeroValue4
 t5:=Tryz.underlying5
 a5:=Tryz.isAgg5
 z5:=Tryz.sizeOf5
 v5:=Tryz.zeroValue5
 t9:=Tryz.underlying9
 a9:=Tryz.isAgg9
 z9:=Tryz.sizeOf9
 v9:=Tryz.zeroValue9
 t20:=Tryz.underlying20
 a20:=Tryz.isAgg20
 z20:=Tryz.sizeOf20
 v20:=Tryz.zeroValue20
 t21:=Tryz.underlying21
 a21:=Tryz.isAgg21
 z21:=Tryz.sizeOf21
 v21:=Tryz.zeroValue21
 t37:=Tryz.underlying67
 a37:=Tryz.isAgg67
 z37:=Tryz.sizeOf67
 v37:=Tryz.zeroValue67
 t46:=Tryz.underlying218
 a46:=Tryz.isAgg218
 z46:=Tryz.sizeOf218
 v46:=Tryz.zeroValue218
 t51:=Tryz.underlying261
 a51:=Tryz.isAgg261
 z51:=Tryz.sizeOf261
 v51:=Tryz.zeroValue261
 t53:=Tryz.underlying170
 a53:=Tryz.isAgg170
 z53:=Tryz.sizeOf170
 v53:=Tryz.zeroValue170
 t75:=Tryz.underlying71
 a75:=Tryz.isAgg71
 z75:=Tryz.sizeOf71
 v75:=Tryz.zeroValue71
 t76:=Tryz.underlying72
 a76:=Tryz.isAgg72
 z76:=Tryz.sizeOf72
 v76:=Tryz.zeroValue72
 t85:=Tryz.underlying273
 a85:=Tryz.isAgg273
 z85:=Tryz.sizeOf273
 v85:=Tryz.zeroValue273
 t127:=Tryz.underlying134
 a127:=Tryz.isAgg134
 z127:=Tryz.sizeOf134
 v127:=Tryz.zeroValue134
 t143:=Tryz.underlying294
 a143:=Tryz.isAgg294
 z143:=Tryz.sizeOf294
 v143:=Tryz.zeroValue294
 t145:=Tryz.underlying296
 a145:=Tryz.isAgg296
 z145:=Tryz.sizeOf296
 v145:=Tryz.zeroValue296
 t167:=Tryz.underlying272
 a167:=Tryz.isAgg272
 z167:=Tryz.sizeOf272
 v167:=Tryz.zeroValue272
 t168:=Tryz.underlying275
 a168:=Tryz.isAgg275
 z168:=Tryz.sizeOf275
 v168:=Tryz.zeroValue275
 t171:=Tryz.underlying232
 a171:=Tryz.isAgg232
 z171:=Tryz.sizeOf232
 v171:=Tryz.zeroValue232
 t173:=Tryz.underlying235
 a173:=Tryz.isAgg235
 z173:=Tryz.sizeOf235
 v173:=Tryz.zeroValue235
 t175:=Tryz.underlying283
 a175:=Tryz.isAgg283
 z175:=Tryz.sizeOf283
 v175:=Tryz.zeroValue283
 t210:=Tryz.underlying287
 a210:=Tryz.isAgg287
 z210:=Tryz.sizeOf287
 v210:=Tryz.zeroValue287
 t212:=Tryz.underlying260
 a212:=Tryz.isAgg260
 z212:=Tryz.sizeOf260
 v212:=Tryz.zeroValue260
 t213:=Tryz.underlying262
 a213:=Tryz.isAgg262
 z213:=Tryz.sizeOf262
 t232:=Tryz.underlying281
 a232:=Tryz.isAgg281
 z232:=Tryz.sizeOf281
 v232:=Tryz.zeroValue281
 t233:=Tryz.underlying282
 a233:=Tryz.isAgg282
 z233:=Tryz.sizeOf282
 v233:=Tryz.zeroValue282
 g15:=by kernel_rfl
 g16:=by kernel_rfl
 g17:=by kernel_rfl
 g18:=by kernel_rfl
 g19:=by kernel_rfl
 t80:=Tryz.underlying78
 a80:=Tryz.isAgg78
 z80:=Tryz.sizeOf78
 v80:=Tryz.zeroValue78
 i0:=by kernel_rfl
 i2:=by kernel_rfl
 i3:=by kernel_rfl
 i4:=by kernel_rfl
 i5:=by kernel_rfl
 i9:=by kernel_rfl
 i20:=by kernel_rfl
 i21:=by kernel_rfl
 i37:=by kernel_rfl
 i46:=by kernel_rfl
 i51:=by kernel_rfl
 i53:=by kernel_rfl
 i75:=by kernel_rfl
 i76:=by kernel_rfl
 i80:=by kernel_rfl
 i85:=by kernel_rfl
 i127:=by kernel_rfl
 i143:=by kernel_rfl
 i145:=by kernel_rfl
 i167:=by kernel_rfl
 i168:=by kernel_rfl
 i171:=by kernel_rfl
 i173:=by kernel_rfl
 i175:=by kernel_rfl
 i210:=by kernel_rfl
 i212:=by kernel_rfl
 i232:=by kernel_rfl
 i233:=by kernel_rfl
 m15:=by kernel_rfl
 m16:=by kernel_rfl
 m17:=by kernel_rfl
 m18:=by kernel_rfl
 m19:=by kernel_rfl
 c0:=by kernel_rfl
 c2:=by kernel_rfl
 c3:=by kernel_rfl
 c4:=by kernel_rfl
 c5:=by kernel_rfl
 c9:=by kernel_rfl
 c20:=by kernel_rfl
 c21:=by kernel_rfl
 c37:=by kernel_rfl
 c46:=by kernel_rfl
 c51:=by kernel_rfl
 c53:=by kernel_rfl
 c75:=by kernel_rfl
 c76:=by kernel_rfl
 c80:=by kernel_rfl
 c85:=by kernel_rfl
 c127:=by kernel_rfl
 c143:=by kernel_rfl
 c145:=by kernel_rfl
 c167:=by kernel_rfl
 c168:=by kernel_rfl
 c171:=by kernel_rfl
 c173:=by kernel_rfl
 c175:=by kernel_rfl
 c210:=by kernel_rfl
 c212:=by kernel_rfl
 c213:=by kernel_rfl
 c232:=by kernel_rfl
 c233:=by kernel_rfl }
open Go.RowKit in
theorem Tryz.strconv_Atoi_ok(s:ByteArray)(jx:s.size<=9223372036854775806)(v:Int)(h:Lib.atoiAll s.data.toList = .ok v)(w:World) :
 Calls Tryz.prog 180 #[.string s] w λe w'=>e = .returned (.tuple #[.int .i64 v,.nilIface])/\(w'=w\/∃t,w'=Lib.bytesWorld w 5 t):=Any.strconv_Atoi_ok Tryz.laysC172 s jx v h w
def Tryz.lays145_ren:Go.Shelf.Ren:=⟨λ|145=>134|220=>183|219=>211|217=>227|225=>228|224=>229|267=>230|266=>238|314=>239|n=>n,λ|9=>9|4=>4|59=>197|3=>3|5=>5|46=>218|146=>289|51=>261|n=>n,λ|1=>0|n=>n⟩
theorem Tryz.lays145:Go.Proofs.Lays.n145 Tryz.prog Tryz.lays145_ren:={
 mixed:=by kernel_rfl
 f145:=Tryz.func134.trans (congrArg some qN)
 f217:=Tryz.func227.trans (congrArg some qN)
 f219:=Tryz.func211.trans (congrArg some qN)
 f220:=Tryz.func183.trans (congrArg some qN)
 f224:=Tryz.func229.trans (congrArg some qN)
 f225:=Tryz.func228.trans (congrArg some qN)
 f266:=Tryz.func238.trans (congrArg some qN)
 f267:=Tryz.func230.trans (congrArg some qN)
 f314:=Tryz.func239.trans (congrArg some qN)
 t3:=Tryz.underlying3
 a3:=Tryz.isAgg3
 z3:=Tryz.sizeOf3
 v3:=Tryz.zeroValue3
 t4:=Tryz.underlying4
 a4:=Tryz.isAgg4
 z4:=Tryz.sizeOf4
 v4:=Tryz.zeroValue4
 t5:=Tryz.underlying5
 a5:=Tryz.isAgg5
 z5:=Tryz.sizeOf5
 v5:=Tryz.zeroValue5
 t9:=Tryz.underlying9
 a9:=Tryz.isAgg9
 z9:=Tryz.sizeOf9
 v9:=Tryz.zeroValue9
 t46:=Tryz.underlying218
 a46:=Tryz.isAgg218
 z46:=Tryz.sizeOf218
 v46:=Tryz.zeroValue218
 t51:=Tryz.underlying261
 a51:=Tryz.isAgg261
 z51:=Tryz.sizeOf261
 v51:=Tryz.zeroValue261
 t59:=Tryz.underlying197
 a59:=Tryz.isAgg197
 z59:=Tryz.sizeOf197
 v59:=Tryz.zeroValue197
 t146:=Tryz.underlying289
 a146:=Tryz.isAgg289
 z146:=Tryz.sizeOf289
 v146:=Tryz.zeroValue289
 g1:=by kernel_rfl }
open Go.RowKit Go.Lib in
theorem Tryz.strings_Cut(s sep:ByteArray)(m:Int)(w:World)(hs:s.size<4294967281)(hm:w.cell? ⟨0,0,none⟩=some (.int .i64 m)) :
 Calls Tryz.prog 134 #[.string s,.string sep] w λe w'=>e = .returned (.tuple #[.string ⟨(Lib.cut s.data.toList sep.data.toList).1.toArray⟩,.string ⟨(Lib.cut s.data.toList sep.data.toList).2.1.toArray⟩,.bool (Lib.cut s.data.toList sep.data.toList).2.2])/\∃n,w'=w.drewN n:=Any.strings_Cut Tryz.lays145 s sep m w hs hm
def Tryz.lays146_ren:Go.Shelf.Ren:=⟨λ|146=>185|221=>213|268=>232|138=>233|143=>234|195=>240|197=>241|218=>242|219=>211|260=>245|217=>227|225=>228|224=>229|267=>230|266=>238|314=>239|n=>n,λ|9=>9|31=>25|3=>3|4=>4|0=>0|105=>291|21=>21|5=>5|46=>218|119=>297|139=>300|138=>299|146=>289|51=>261|n=>n,λ|1=>0|3=>6|4=>7|n=>n⟩
theorem Tryz.lays146:Go.Proofs.Lays.n146 Tryz.prog Tryz.lays146_ren:={
 mixed:=by kernel_rfl
 f138:=Tryz.func233.trans (congrArg some qN)
 f143:=Tryz.func234.trans (congrArg some qN)
 f146:=Tryz.func185.trans (congrArg some qN)
 f195:=Tryz.func240.trans (congrArg some qN)
 f197:=Tryz.func241.trans (congrArg some qN)
 f217:=Tryz.func227.trans (congrArg some qN)
 f218:=Tryz.func242.trans (congrArg some qN)
 f219:=Tryz.func211.trans (congrArg some qN)
 f221:=Tryz.func213.trans (congrArg some qN)
 f224:=Tryz.func229.trans (congrArg some qN)
 f225:=Tryz.func228.trans (congrArg some qN)
 f260:=Tryz.func245.trans (congrArg some qN)
 f266:=Tryz.func238.trans (congrArg some qN)
 f267:=Tryz.func230.trans (congrArg some qN)
 f268:=Tryz.func232.trans (congrArg some qN)
 f314:=Tryz.func239.trans (congrArg some qN)
 t0:=Tryz.underlying0
 a0:=Tryz.isAgg0
 z0:=Tryz.sizeOf0
 v0:=Tryz.zeroValue0
 t3:=Tryz.underlying3
 a3:=Tryz.isAgg3
 z3:=Tryz.sizeOf3
 v3:=Tryz.zeroValue3
 t4:=Tryz.underlying4
 a4:=Tryz.isAgg4
 z4:=Tryz.sizeOf4
 v4:=Tryz.zeroValue4
 t5:=Tryz.underlying5
 a5:=Tryz.isAgg5
 z5:=Tryz.sizeOf5
 v5:=Tryz.zeroValue5
 t9:=Tryz.underlying9
 a9:=Tryz.isAgg9
 z9:=Tryz.sizeOf9
 v9:=Tryz.zeroValue9
 t21:=Tryz.underlying21
 a21:=Tryz.isAgg21
 z21:=Tryz.sizeOf21
 v21:=Tryz.zeroValue21
 t31:=Tryz.underlying25
 a31:=Tryz.isAgg25
 z31:=Tryz.sizeOf25
 v31:=Tryz.zeroValue25
 t46:=Tryz.underlying218
 a46:=Tryz.isAgg218
 z46:=Tryz.sizeOf218
 v46:=Tryz.zeroValue218
 t51:=Tryz.underlying261
 a51:=Tryz.isAgg261
 z51:=Tryz.sizeOf261
 v51:=Tryz.zeroValue261
 t105:=Tryz.underlying291
 a105:=Tryz.isAgg291
 z105:=Tryz.sizeOf291
 v105:=Tryz.zeroValue291
 t119:=Tryz.underlying297
 a119:=Tryz.isAgg297
 z119:=Tryz.sizeOf297
 t138:=Tryz.underlying299
 a138:=Tryz.isAgg299
 z138:=Tryz.sizeOf299
 v138:=Tryz.zeroValue299
 t139:=Tryz.underlying300
 a139:=Tryz.isAgg300
 z139:=Tryz.sizeOf300
 v139:=Tryz.zeroValue300
 t146:=Tryz.underlying289
 a146:=Tryz.isAgg289
 z146:=Tryz.sizeOf289
 v146:=Tryz.zeroValue289
 g1:=by kernel_rfl
 g3:=by kernel_rfl
 g4:=by kernel_rfl }
open Go.RowKit Go.Lib in
theorem Tryz.strings_Split(s sep:ByteArray)(m:Int)(w:World)(hs:s.size<4294967281)(hm:w.cell? ⟨0,0,none⟩=some (.int .i64 m))(h1:1<=sep.size) :
 Calls Tryz.prog 185 #[.string s,.string sep] w λe w'=>
  e = .returned (.slice (some ⟨w.heap.size,0,none⟩) (Lib.countB s sep+1) (Lib.countB s sep+1))/\w'=w.alloc (.cells ((Lib.splitB sep 0 (Lib.countB s sep) s).map Value.string).toArray 9):=Any.strings_Split Tryz.lays146 qN  s sep m w hs hm h1
end
end Go.Proofs
namespace Go.Proofs.YtdiejolnllipnaaGreatDoor
open Go.Ex Go.RowKit
set_option maxRecDepth 1000000
section
def tb(m:Int):List (Nat×List Value):=[(0,[.int .i64 m]),(1,Lib.pow10Tab.map λz=>Value.int .u64 z)]
theorem tb_ok(m:Int):∀p∈tb m,p.1<8/\p.2.all xW=true:=by
 intro p hp;simp only[tb,au,bf,or_false]at hp;rcases hp with rfl|rfl
 . exact⟨(by decide:(0:Nat)<8),rfl⟩
 . exact⟨(by decide:(1:Nat)<8),by simp[Lib.pow10Tab,xW]⟩
theorem tb_max{m:Int}{wd:World}(h:rY wd (tb m)):wd.cell? ⟨0,0,none⟩=some (.int .i64 m):=by
 obtain⟨el,fr,e⟩:=h (0,[.int .i64 m]) (by simp[tb]);unfold World.cell?;dsimp only at e ⊢;rw [e];rfl
theorem tb_pow{m:Int}{wd:World}(h:rY wd (tb m)):Lib.TabIs P wd "internal/strconv.uint64pow10" .u64 Lib.pow10Tab:=by
 obtain⟨el,fr,e⟩:=h (1,Lib.pow10Tab.map λz=>Value.int .u64 z) (by simp[tb]);unfold Lib.TabIs World.var?;rw [show P.globalNamed "internal/strconv.uint64pow10" = some 1 by kernel_rfl];simp only[Option.bind_some];dsimp only at e;rw [e]
theorem tb_tch{m:Int}{h h':zB}{n n':Nat}{S:List Nat}(t:TabsH (tb m) h)(e:Tch S h n h' n')(hn:8<=n)(hS:∀x∈S,8<=x):TabsH (tb m) h':=
 t.tch e (λp hp=>aG (tb_ok m p hp).1 hn) λp hp hx=>by
  have:=(tb_ok m p hp).1;have:=hS _ hx;omega
theorem h_cut:hasB P 134=true:=by kernel_rfl
theorem h_cutPrefix:hasB P 184=true:=by kernel_rfl
theorem h_split:hasB P 185=true:=by kernel_rfl
theorem h_join:hasB P 22=true:=by kernel_rfl
theorem h_itoa:hasB P 23=true:=by kernel_rfl
theorem h_check:hasB P 59=true:=by kernel_rfl
theorem h_string:hasB P 25=true:=by kernel_rfl
theorem cut_pure{m:Int}{h:zB}(n:Nat)(ht:TabsH (tb m) h)(s:List UInt8)(c:UInt8)(hs:s.length<1000000) :
 Pure P 8 134 [str s,str [c]] h n (.tuple #[str (cutB c s).1,str (cutB c s).2.1,.bool (cutB c s).2.2]):=by
 refine tO h_cut rfl rfl ht (tb_ok m) λwd hw=>?_;refine(Tryz.strings_Cut ⟨⟨s⟩⟩ ⟨#[c]⟩ m wd ?_ (tb_max hw)).mono λe w' ⟨he,k,gQ⟩=>?_
 . show s.length<_;omega
 . subst gQ;refine⟨?_,Go.below_drewN (Below.refl _ _) k⟩;rw [he];show Ending.returned (.tuple #[.string ⟨(Lib.cut s [c]).1.toArray⟩,.string ⟨(Lib.cut s [c]).2.1.toArray⟩,.bool (Lib.cut s [c]).2.2])=_;rw [cut_one]
theorem cutPrefix_pure{h:zB}(n:Nat)(s p:List UInt8) :
 Pure P 8 184 [str s,str p] h n (.tuple #[str (Lib.trimPrefix s p),.bool (Lib.hasPrefix s p)]):=by
 refine tO (tabs:=[]) h_cutPrefix rfl rfl (λ_ h=>by cases h) (λ_ h=>by cases h) λwd hw=>?_;refine(Tryz.strings_CutPrefix ⟨⟨s⟩⟩ ⟨⟨p⟩⟩ wd).mono λe w' ⟨he,gQ⟩=>?_;subst gQ;exact⟨he,Below.refl _ _⟩
theorem split_rets{m:Int}{h:zB}(n:Nat)(ht:TabsH (tb m) h)(s:List UInt8)(c:UInt8)(hs:s.length<1000000) :
 Rets P 8 185 [str s,str [c]] h n λv' h' n'=>v' = .slice (some ⟨n,0,none⟩) (xR c s).length (xR c s).length/\h'=h.set .dead (mkC ((xR c s).map str) 0 0) n/\n'=n+1:=by
 have hl:(xR c s).length<1000001:=by rw[splitL_length];have:=List.count_le_length (a:=c) (l:=s);omega
 refine row_of_calls h_split rfl ?_ (ad _) ?_ ht (tb_ok m) (el:=9) λwd hw=>?_
 . simp[xW]
 . unfold inf;omega
 . refine(Tryz.strings_Split ⟨⟨s⟩⟩ ⟨#[c]⟩ m wd ?_ (tb_max hw) (ad 1)).mono λe w' ⟨he,gQ⟩=>?_
   . show s.length<_;omega
   . have e1:Lib.countB ⟨⟨s⟩⟩ ⟨#[c]⟩+1=(xR c s).length:=by rw[count_one,splitL_length]
     have e2:(Lib.splitB ⟨#[c]⟩ 0 (Lib.countB ⟨⟨s⟩⟩ ⟨#[c]⟩) ⟨⟨s⟩⟩).map Value.string=(xR c s).map str:=by
      have:=split_one c ⟨⟨s⟩⟩;rw [<- this,cV];apply List.map_congr_left;intro x _;rfl
     rw[e1]at he;refine⟨he,?_⟩;rw [gQ,e2]
theorem join_pure{h:zB}{n:Nat}{sv:Value}{el:Nat}(ls:List (List UInt8))(sep:List UInt8)(r:Row n h sv el 1 ls.length (ls.map str))(hn:ls.length<1000000)(hl:(Lib.join ls sep).length<1000000) :
 Pure P 8 22 [sv,str sep] h n (str (Lib.join ls sep)):=by
 refine pure_of_calls_row (tabs:=[]) h_join r (by simp[xW]) rfl rfl (λ_ h=>by cases h) (λ_ h=>by cases h) λwd sv' _ hsv=>?_;rcases hsv with⟨h0,a,c,rfl⟩|⟨bk,o,c,rfl,hc,hb,hcells⟩
 . have:ls=[]:=aP.1 h0;subst this;refine(Tryz.strings_Join_none a c ⟨⟨sep⟩⟩ wd).mono λe w' ⟨he,gQ⟩=>?_;subst gQ;exact⟨he,Below.refl _ _⟩
 . have e1:(ls.map λl=>(⟨⟨l⟩⟩:ByteArray)).length=ls.length:=aD ..;have e2:(ls.map λl=>(⟨⟨l⟩⟩:ByteArray)).map (·.data.toList)=ls:=by rw[cV];exact List.map_id' _
   have:=Tryz.strings_Join bk o c (ls.map λl=>(⟨⟨l⟩⟩:ByteArray)) ⟨⟨sep⟩⟩ wd (λj x hj=>hcells j (.string x) (by
    rw[ao]at hj ⊢
    cases e:ls[j]? with
    | none=>rw [e]at hj;cases hj
    | some l=>rw [e]at hj;injection hj with hj;subst hj;rfl)) hb (by rw[e1];omega) (by rw[e1];exact hc) (by rw[e2];show(Lib.join ls sep).length<=_;omega)
   rw[e1,e2]at this;exact this.mono λ_ _ ⟨he,gQ⟩=>⟨he,gQ⟩
theorem itoa_pure{m:Int}{h:zB}(n:Nat)(ht:TabsH (tb m) h)(a:Int)(h0: -9223372036854775808<=a)(h1:a<=9223372036854775807) :
 Pure P 8 23 [.int .i64 a] h n (str (Lib.itoa a)):=by
 refine tO h_itoa rfl rfl ht (tb_ok m) λwd hw=>?_;refine(Tryz.strconv_Itoa a h0 h1 wd (tb_pow hw)).mono λe w' ⟨he,k,os,gQ⟩=>?_;subst gQ;exact⟨he,Lib.below_grow _ _ (ad _) k os⟩
theorem h_atoi:hasB P 180=true:=by kernel_rfl
theorem atoi_pure{h:zB}(n:Nat)(s:List UInt8)(v:Int)(hs:s.length<=1000000)(hv:Lib.atoiAll s = .ok v) :
 Pure P 8 180 [str s] h n (.tuple #[.int .i64 v,.nilIface]):=by
 refine tO (tabs:=[]) h_atoi rfl rfl (λ_ h=>by cases h) (λ_ h=>by cases h) λwd hw=>?_;refine(Tryz.strconv_Atoi_ok ⟨⟨s⟩⟩ (by show s.length<=_;omega) v hv wd).mono λe w' ⟨he,gQ⟩=>?_;rcases gQ with rfl|⟨t,rfl⟩
 . exact⟨he,Below.refl _ _⟩
 . exact⟨he,Lib.bytesWorld_below _ _ _⟩
theorem check_fresh{b n:Nat}{h:zB}{sv:Value}(hB:Bld 69 h b (.pointer none) sv) :
 Rets P 8 59 [.pointer (some ⟨b,0,none⟩)] h n λv h' n'=>v = .tuple #[]/\h'=h.set .dead (stC (zG h b) 0 [.pointer (some ⟨b,0,none⟩)]) b/\n'=n:=
 copyCheck_fresh h_check hB λwd c h1 h2 h3=>Any.Builder_copyCheck_fresh { Tryz.lays156 with } { Tryz.Builder_Extra_156 with } c wd h1 h2 h3
theorem check_used{b n:Nat}{h:zB}{sv:Value}(hB:Bld 69 h b (.pointer (some ⟨b,0,none⟩)) sv) :
 Rets P 8 59 [.pointer (some ⟨b,0,none⟩)] h n λv h' n'=>v = .tuple #[]/\h'=h/\n'=n:=
 copyCheck_used h_check hB λwd c h1=>Any.Builder_copyCheck_used { Tryz.lays156 with } { Tryz.Builder_Extra_156 with } c wd h1
theorem string_rets{b lo n:Nat}{h:zB}{p sv:Value}{l:List UInt8}(hB:Bld 69 h b p sv)(ho:Own lo n h sv 5 1 l.length (bytesV l))(eJ:zH sv≠some b)(eN:l.length<1000000) :
 Rets P 8 25 [.pointer (some ⟨b,0,none⟩)] h n λv h' n'=>v=str l/\n'=n/\(∀b',zH sv≠some b'->zG h' b'=zG h b'):=
 builder_String h_string hB ho eJ eN
  (λwd c x hx=>(Any.Builder_String_nil Tryz.lays169 Tryz.Builder_Extra_169 wd.heap.size c x wd hx).mono λ_ _ ⟨he,hb⟩=>⟨he,hb⟩)
  (λwd c g cap x cur h0 h1 h2 h3 h4 h5=>(string_model Tryz.lays169 Tryz.Builder_Extra_169 c g cap x cur l wd h0 eN h1 h2 h3 h4 h5).mono λ_ _ ⟨he,hb⟩=>⟨he,hb⟩)
end
section
open Go Go.Ex Go.Ex.M
set_option maxRecDepth 100000
set_option maxHeartbeats 8000000
variable {n bw:Nat} {h:zB} {ws:List Tx} {sv:Value} {m:Int} {x:Tx}
instance {z:Bool} {e:Int} {K:Out->zB->Nat->Prop}:Stp (CallB P 8 127 [.bool z,I64 e] h n K) (Ch z (K (.ret (.tuple #[])) h n) (K (.panic [⟨.iface 200 (.agg ⟨[I64 e]⟩),false,false⟩]) h n)):=⟨λ⟨k1,k2⟩=>by
 refine cal (Q:=λo h' n'=>o=(if z then .ret (.tuple #[]) else .panic [⟨.iface 200 (.agg ⟨[I64 e]⟩),false,false⟩])/\h'=h/\n'=n) (ent λu=>?_) λo h' n' ⟨e1,e2,e3⟩=>?_
 . cases z
   . repeat' first|refine wk ?_|apply cX <;> intro
     exact⟨rfl,rfl,rfl⟩
   . repeat' first|refine wk ?_|apply cX <;> intro
     exact⟨rfl,rfl,rfl⟩
 . subst e1 e2 e3;cases z
   . exact k2 rfl
   . exact k1 rfl⟩
structure WdM (n bw:Nat) (h:zB) (ws:List Tx) (sv:Value):Prop where
 lt:bw<n
 ce:Cel h bw (195+1) 0 [sv]
 ro:Row bw h sv 9 1 ws.length (ws.map str)
 sm:ws.length<1000000
 hi:∀b,zH sv=some b->b+1=bw
theorem WdM.tch{S:List Nat}{h':zB}{n':Nat}(w:WdM n bw h ws sv)(t:Tch S h n h' n')(hS:∀x∈S,x≠bw/\x+1≠bw):WdM n' bw h' ws sv:=
 ⟨aG w.lt t.1,w.ce.tch t w.lt λhx=>by have:=hS _ hx;omega,w.ro.tch t (Nat.le_of_lt w.lt) λb hb hx=>by(have:=hS _ hx;have:=w.hi b hb;omega),w.sm,w.hi⟩
def WO(bw:Nat)(q:List Tx)(v:Value)(h:zB)(n:Nat)(w:Value)(h':zB)(n':Nat):Prop:=w=v/\Tch [bw] h n h' n'/\∃sv,WdM n' bw h' q sv
theorem len_com(w:WdM n bw h ws sv):Pur P 8 210 [ptr bw 0] h n (I64 (ws.length:Nat)):=by
 have c:=w.ce;have r:=w.ro;refine ent λu=>?_;repeat' first|refine wk ?_|apply cX <;> intro
 exact fin rfl
theorem next_ret(w:WdM n bw h (x::ws) sv):Ret P 8 128 [ptr bw 0] h n (WO bw ws (str x) h n):=by
 have c:=w.ce;have r:=w.ro;have hb:=w.lt;have kV:=w.sm;refine ent λu=>?_;have c0:(x::ws)[0]? = some x:=rfl;have c1:=yE r c0;have hp:0<(x::ws).length:=by simp
 obtain⟨hu,ei,hi,hsz⟩:=SlC.get (P:=P) (ty:=25) inferInstance;obtain⟨v',e1,r',eb⟩:=slice_from (k:=.i64) (i:=1) hu hi hsz r qL;have e2:xS P h 25 sv (some (I64 1)) none none=some v':=e1;have lv:=r'.one;have lr:=r.low hp;repeat' first|refine wk ?_|refine cX (λ_=>?_) λ_=>?_|refine ob (a:=_) ?_ e2|fail
 refine⟨_,rfl,rfl,zA,v',by omega,zC,?_,?_,λb fg=>w.hi b (eb ▸ fg)⟩
 . exact Row.tch (n:=bw) (n':=bw) (S:=[]) r' ⟨ad _,λb hb _=>by rw[zX,if_neg qJ]⟩ (ad _) qL 
 . simp only[ay]at kV;omega
theorem want_ret(w:WdM n bw h (x::ws) sv):Ret P 8 67 [ptr bw 0,str x] h n (WO bw ws (.tuple #[]) h n):=by
 have hb:=w.lt;refine ent λu=>?_;repeat' first|refine wk ?_|refine cX (λ_=>?_) λ_=>?_|refine yG (next_ret w) ?_|fail
 rintro _ h' n' ⟨rfl,t,w'⟩
 repeat' first|refine wk ?_|apply cX <;> intro
 exact⟨_,rfl,rfl,t,w'⟩
theorem name_ret(w:WdM n bw h (x::ws) sv)(hx:xL x=true):Ret P 8 68 [ptr bw 0] h n (WO bw ws (str x) h n):=by
 have hb:=w.lt;refine ent λu=>?_;repeat' first|refine wk ?_|refine cX (λ_=>?_) λ_=>?_|refine yG (next_ret w) ?_|fail
 rintro _ h' n' ⟨rfl,t,w'⟩
 repeat' first|refine wk ?_|apply cX <;> intro
 exact⟨_,rfl,rfl,t,w'⟩
theorem end_ret(w:WdM n bw h [] sv):Pur P 8 69 [ptr bw 0] h n (.tuple #[]):=by
 have c:=w.ce;have r:=w.ro;refine ent λu=>?_;repeat' first|refine wk ?_|apply cX <;> intro
 . exact fin rfl
 . rename_i f1;exact absurd rfl f1
def wrd1(ws:List Tx):Tx:=(ws[1]?).getD []
theorem peek_pur(w:WdM n bw h ws sv):Pur P 8 130 [ptr bw 0,I64 1] h n (str (wrd1 ws)):=by
 have c:=w.ce;have r:=w.ro;have hb:=w.lt;have kV:=w.sm;refine ent λu=>?_;by_cases hl:1<ws.length
 . have c0:ws[1]? = some ws[1]:=aa hl;have c1:=yE r c0;have hx:wrd1 ws=ws[1]:=by unfold wrd1;rw [c0];rfl
   rw[hx];repeat' first|refine wk ?_|apply cX <;> intro
   exact fin rfl
 . have hx:wrd1 ws=[]:=by unfold wrd1;rw [aw qJ];rfl
   rw[hx];repeat' first|refine wk ?_|apply cX <;> intro
   exact fin rfl
end
end Go.Proofs.YtdiejolnllipnaaGreatDoor
namespace Go.Ex.M
open Go.Lib
section
theorem parse_app:∀(a:Tx) (acc v:Nat) (b:Tx),parseUint10 acc a = .ok v->parseUint10 acc (a++b)=parseUint10 v b:=by
 intro a
 induction a with
 | nil=>intro acc v b h;injection h with h;subst h;rfl
 | cons c r ih=>
  intro acc v b h;simp only[cd,parseUint10]at h ⊢;repeat' split at h
  all_goals first|cases h|skip
  rw[if_pos qP,if_neg qP,if_neg qP];exact ih _ _ _ h
theorem chr_d{d:Nat}(h:d<10):(UInt8.ofNat (48+d)).toNat=48+d:=by
 rw[UInt8.toNat_ofNat'];omega
theorem parse_dec(u:Nat):u<18446744073709551616->parseUint10 0 (decDigits u) = .ok u/\(∀x∈decDigits u,48<=x.toNat/\x.toNat<=57)/\decDigits u≠[]:=by
 induction u using Nat.strongRecOn with
 | _ u ih=>
  intro hu;by_cases h:u<10
  . rw[decDigits_one h];refine⟨?_,?_,by simp⟩
    . have e:=chr_d h;simp only[parseUint10,e];rw [if_pos qJ,if_neg qJ,if_neg qJ];congr 1;omega
    . intro x hx;obtain rfl:=aq.1 hx;rw [chr_d h];omega
  . obtain⟨h1,h2,h3⟩:=ih (u / 10) qJ qJ;rw [show decDigits u=decDigits (u / 10)++[UInt8.ofNat (48+u % 10)] by rw[decDigits,dif_neg h]];have e:=chr_d (d:=u % 10) qJ;refine⟨?_,?_,by simp⟩
    . rw[parse_app _ _ _ _ h1];simp only[parseUint10,e];rw [if_pos qJ,if_neg qJ,if_neg qJ];congr 1;omega
    . intro x hx;rcases aA.1 hx with hx|hx
      . exact h2 x hx
      . obtain rfl:=aq.1 hx;rw [e];omega
theorem atoi_itoa{a:Int}(h1: -9223372036854775808<=a)(h2:a<=9223372036854775807):atoiAll (itoa a) = .ok a:=by
 unfold itoa;by_cases h:a<0
 . obtain⟨p1,p2,p3⟩:=parse_dec a.natAbs qJ;rw [if_pos h];unfold atoiAll;dsimp only;rw [if_pos (.inr qK)];unfold parseMag;rw [if_neg p3,p1];dsimp only;rw [if_neg qL,if_neg qJ,if_pos qK];congr 1;omega
 . obtain⟨p1,p2,p3⟩:=parse_dec a.toNat qJ;rw [if_neg h]
   cases e:decDigits a.toNat with
   | nil=>exact absurd e p3
   | cons c r=>
    rw[e]at p1 p2;have hc:=p2 c (aN ..);unfold atoiAll;dsimp only;rw [if_neg qJ];unfold parseMag;rw [if_neg qL,p1];dsimp only;rw [if_neg qJ,if_neg qJ,if_neg qJ];congr 1;omega
def Cln(s:Tx):Prop:=s≠[]/\∀x∈s,32<x.toNat
theorem itoa_clean{a:Int}(h1: -9223372036854775808<=a)(h2:a<=9223372036854775807):Cln (itoa a):=by
 unfold itoa;by_cases h:a<0
 . obtain⟨p1,p2,p3⟩:=parse_dec a.natAbs qJ;rw [if_pos h];refine⟨by simp,λx hx=>?_⟩;rcases au.1 hx with rfl|hx
   . decide
   . have:=p2 x hx;omega
 . obtain⟨p1,p2,p3⟩:=parse_dec a.toNat qJ;rw [if_neg h];exact⟨p3,λx hx=>by have:=p2 x hx;omega⟩
end
end Go.Ex.M
namespace Go.Proofs.YtdiejolnllipnaaGreatDoor
open Go Go.Ex Go.Ex.M
set_option maxRecDepth 100000
set_option maxHeartbeats 8000000
section
variable {n bw:Nat} {h:zB} {ws:List Tx} {sv:Value} {m a:Int}
theorem err_nil{ox:Operand}{v:Value}:Bn P .eql 71 ox (.const v) .nilIface .nilIface (.bool true):=by
 obtain⟨m,e⟩:=IfC.get (P:=P) (ty:=71) ⟨by kernel_rfl⟩
 show(match BinOp.eql,und P 71 with
  | .eql,some d=>cond (zV ox (.const v) .nilIface .nilIface) ((vQ d .nilIface .nilIface).map Value.bool) none
  | .neq,some d=>cond (zV ox (.const v) .nilIface .nilIface) ((vQ d .nilIface .nilIface).map λb=>Value.bool (!b)) none
  | _,_=>none:Option Value)=_
 rw[e];show cond (isConst ox || isConst (.const v)) _ none=_;cases isConst ox <;> rfl
theorem any_ret(w:WdM n bw h (Lib.itoa a::ws) sv)(hT:TabsH (tb m) h)(hg:8<=bw)(b1: -9223372036854775808<=a)(b2:a<=9223372036854775807):Ret P 8 129 [ptr bw 0] h n (WO bw ws (I64 a) h n):=by
 have hb:=w.lt;have hl:=Lib.itoa_length_le a b1 b2;refine ent λu=>?_;repeat' first|refine wk ?_|refine cX (λ_=>?_) λ_=>?_|refine yG (next_ret w) ?_|fail
 rintro _ h' n' ⟨rfl,t,w'⟩
 have hT':TabsH (tb m) h':=tb_tch hT t qJ qM;repeat' first|refine wk ?_|refine cX (λ_=>?_) λ_=>?_|refine zS (atoi_pure n' _ a qJ  (atoi_itoa b1 b2)).pur ?_|refine zS (itoa_pure n' hT' a b1 b2).pur ?_|refine ob (a:=.bool true) ?_ err_nil|fail
 exact⟨_,rfl,rfl,t,w'⟩
theorem num_ret(w:WdM n bw h (Lib.itoa a::ws) sv)(hT:TabsH (tb m) h)(hg:8<=bw)(b1:0<=a)(b2:a<=99999):Ret P 8 70 [ptr bw 0] h n (WO bw ws (I64 a) h n):=by
 have hb:=w.lt;refine ent λu=>?_;repeat' first|refine wk ?_|refine cX (λ_=>?_) λ_=>?_|refine yG (any_ret w hT hg qJ qJ) ?_|fail
 rintro _ h' n' ⟨rfl,t,w'⟩
 repeat' first|refine wk ?_|apply cX <;> intro
 exact⟨_,rfl,rfl,t,w'⟩
end
section
attribute [local simp] zY
variable {lo lo' n bt:Nat} {h:zB} {m:MachT} {ns:List Tx} {ps:List Pl} {v:TabV} {q:Int}
theorem wK(l:List Tx):∀y∈l.map str,y.oneCell'=true:=λy hy=>by obtain⟨x,_,rfl⟩:=aB.1 hy;rfl
def SH(ws:List Tx)(h:zB)(n:Nat)(v:Value)(h':zB)(n':Nat):Prop:=Row n' h' v 9 1 ws.length (ws.map str)/\Tch [] h n h' n'
theorem sh_of{ws:List Tx}{e sz len:Nat}{vs:List Value}{w:Value}{h':zB}{n':Nat}(r:Row n' h' w e sz len vs)(t:Tch [] h n h' n')(he:e=9)(hs:sz=1)(hl:len=ws.length)(hv:vs=ws.map str):SH ws h n w h' n':=by
 subst he hs hl hv;exact⟨r,t⟩
theorem mshow_ret{i:InsT}(k:TabM lo' n h bt m ns ps v)(gf:ns.length<=200)(fJ:ns.Nodup){j:Nat}(hj:ns[j]? = some m.result)(hT:TabsH (tb q) h)(hg:8<=n)(hi:InsM lo h i)(eE:lo<=n)(ha3:i.kind=3->i.args.length<=1000)
(hk:1<=i.kind/\i.kind<=11)(hd:i.kind=6->i.d = -1\/i.d=0)(ht:i.kind=7\/i.kind=8->uT i.t)(hf:i.kind=7->uT i.f):Ret P 8 24 [ptr bt 0,.agg ⟨wZ i⟩] h n (SH (zU ns m.result i) h n):=by
 have o:=(hi.ar 0).one;have ra:=hi.ar 0;have g1:=hi.gn;have pn:∀{h' n'} (t:Tch [] h n h' n') (r:Int),Pur P 8 62 ([ptr bt 0]++([I64 r]++[])) h' n' (str (rgN ns r)):=λt r=>tname_pur (k.tch t) gf r;have pr:∀{h' n'} (t:Tch [] h n h' n'),Pur P 8 63 [ptr bt 0] h' n' (I64 (j:Nat)):=λt=>tres_pur (k.tch t) fJ hj;have er:rgN ns (j:Nat)=m.result:=by unfold rgN;rw [if_pos qJ,bM,hj];rfl
 have pi:∀{h' n'} (_:Tch [] h n h' n') {a:Int},uT a->Pur P 8 23 [I64 a] h' n' (str (Lib.itoa a)):=fun {h' n'} t a b=>(itoa_pure n' (tb_tch hT t hg qL) a (by unfold uT at b;omega) (by unfold uT at b;omega)).pur;have wd:WayR (n+1) (n+1+1) (Go.Ex.hal (Go.Ex.hal h n (mkC (wZ i) (51+1) 0)) (n+1) (mkC [str (rgN ns i.d),str wEq] 0 0)) (.slice (some ⟨n+1,0,none⟩) 2 2) 9 1 2 [str (rgN ns i.d),str wEq]:=way_new (ad _) rfl qK;refine ent λu=>?_;rcases(by omega:i.kind=1\/i.kind=2\/i.kind=3\/i.kind=4\/i.kind=5\/i.kind=6\/i.kind=7\/i.kind=8\/i.kind=9\/i.kind=10\/i.kind=11) with ek|ek|ek|ek|ek|ek|ek|ek|ek|ek|ek
 . rw[show zU ns m.result i=[rgN ns i.d,wEq,wConst,Lib.itoa i.n] by unfold zU;simp [ek]];repeat' first|refine wk ?_|refine cX (λ_=>?_) λ_=>?_|refine zS (pn zA _) ?_|refine zS (pi zA g1) ?_|fail
   refine uX (wd.tch (S:=[]) zA qL) (wK [rgN ns i.d,wEq]) qJ  (zF (e:=9) (sz:=1) (len:=2) rfl qK) qK  (wK [wConst,Lib.itoa i.n]) qK  ?_
   rintro v3 h3 n3 w3 _ t3
   have o3:=(w3.row qK).one;have u3:Tch [] h n h3 n3:=Tch.tch t3 zA (by simp[zH]);clear t3;repeat' first|refine wk ?_|apply cX <;> intro
   exact⟨_,rfl,sh_of (w3.row qK) u3 rfl rfl rfl rfl⟩
 . rw[show zU ns m.result i=[rgN ns i.d,wEq,wMove,rgN ns i.a] by unfold zU;simp [ek]];repeat' first|refine wk ?_|refine cX (λ_=>?_) λ_=>?_|refine zS (pn zA _) ?_|refine zS (pi zA g1) ?_|fail
   refine uX (wd.tch (S:=[]) zA qL) (wK [rgN ns i.d,wEq]) qJ  (zF (e:=9) (sz:=1) (len:=2) rfl qK) qK  (wK [wMove,rgN ns i.a]) qK  ?_
   rintro v3 h3 n3 w3 _ t3
   have o3:=(w3.row qK).one;have u3:Tch [] h n h3 n3:=Tch.tch t3 zA (by simp[zH]);clear t3;repeat' first|refine wk ?_|apply cX <;> intro
   exact⟨_,rfl,sh_of (w3.row qK) u3 rfl rfl rfl rfl⟩
 . rw[show zU ns m.result i=[rgN ns i.d,wEq,i.name]++i.args.map (rgN ns) by unfold zU;simp [ek]];have hl3:=ha3 ek;repeat' first|refine wk ?_|refine cX (λ_=>?_) λ_=>?_|refine zS (pn zA _) ?_|fail
   refine uX (wd.tch (S:=[]) zA qL) (wK [rgN ns i.d,wEq]) qJ  (zF (e:=9) (sz:=1) (len:=1) rfl qK) qK  (wK [i.name]) qK  ?_
   rintro v3 h3 n3 w3 _ t3
   have eS:=t3.le;have o3:=(w3.row qK).one;have u3:Tch [] h n h3 n3:=Tch.tch t3 zA (by simp[zH]);have c3:Cel h3 n (51+1) 0 (wZ i):=Cel.tch zE t3 qJ  (by simp[zH]);clear t3;repeat' first|refine wk ?_|apply cX <;> intro
   refine lpR (α :=Nat×Value) (λa=>[(6,.func (.func 62) ⟨[ptr bt 0]⟩ ⟨[]⟩),(7,a.2),(45,i.av),(46,I64 i.args.length),(47,I64 (a.1:Nat))]) (λa h' n'=>Tch [] h n h' n'/\a.1<=i.args.length/\WayR (n+1) n' h' a.2 9 1 (3+a.1) (([rgN ns i.d,wEq,i.name]++(i.args.take a.1).map (rgN ns)).map str)) (λa=>i.args.length - a.1) (0,v3) ⟨u3,an _,w3⟩ ?_
   rintro ⟨e,v4⟩ t h4 n4 ⟨t4,he,w4⟩
   dsimp only at t4 he w4 ⊢;have fi:=t4.le;have o4:=(w4.row qK).one;have ra4:=ra.tch t4 eE qL;by_cases eD:e<i.args.length
   . have c0:i.args[e]? = some i.args[e]:=aa eD;have low:=ra4.low qJ;generalize i.args[e]=x at c0
     have c1:zD h4 (sbk i.av) (sof i.av+e*1)=some (I64 x):=by rw[aQ];exact ra4.at (by rw[ao,c0];rfl)
     repeat' first|refine wk ?_|refine cX (λ_=>?_) λ_=>?_|refine zS (pn zA _) ?_|fail
     refine uX (w4.tch (S:=[]) zA qL) (wK _) qJ  (zF (e:=9) (sz:=1) (len:=1) rfl qK) qK  (wK [rgN ns x]) qJ  ?_
     rintro v5 h5 n5 w5 _ t5
     have o5:=(w5.row qK).one;have u5:Tch [] h n h5 n5:=Tch.tch t5 zA λy hy=>.inl (by have:=(w4.blk (dh.1 hy)).1;omega);clear t5;repeat' first|refine wk ?_|apply cX <;> intro
     exact rnd (e+1,v5) ⟨u5,eD,by rw[yV c0,aC,aC,aC,<- ba,<- aC];exact w5⟩
   . obtain rfl:e=i.args.length:=by omega
     repeat' first|refine wk ?_|apply cX <;> intro
     rw[aY]at w4;exact⟨_,rfl,sh_of (w4.row qK) t4 rfl rfl qM  rfl⟩
 . rw[show zU ns m.result i=[rgN ns i.d,wEq,wLoad,rgN ns i.a] by unfold zU;simp [ek]];repeat' first|refine wk ?_|refine cX (λ_=>?_) λ_=>?_|refine zS (pn zA _) ?_|refine zS (pi zA g1) ?_|fail
   refine uX (wd.tch (S:=[]) zA qL) (wK [rgN ns i.d,wEq]) qJ  (zF (e:=9) (sz:=1) (len:=2) rfl qK) qK  (wK [wLoad,rgN ns i.a]) qK  ?_
   rintro v3 h3 n3 w3 _ t3
   have o3:=(w3.row qK).one;have u3:Tch [] h n h3 n3:=Tch.tch t3 zA (by simp[zH]);clear t3;repeat' first|refine wk ?_|apply cX <;> intro
   exact⟨_,rfl,sh_of (w3.row qK) u3 rfl rfl rfl rfl⟩
 . rw[show zU ns m.result i=[wStore,rgN ns i.a,rgN ns i.b] by unfold zU;simp [ek]];repeat' first|refine wk ?_|refine cX (λ_=>?_) λ_=>?_|refine zS (pn zA _) ?_|fail
   exact⟨_,rfl,sh_of (zF rfl qK) zA rfl rfl rfl rfl⟩
 . have wr:∀o,WayR (n+1+1) (n+1+1+1) (Go.Ex.hal (Go.Ex.hal (Go.Ex.hal h n (mkC (wZ i) (51+1) 0)) (n+1) o) (n+1+1) (mkC [str m.result,str wEq] 0 0)) (.slice (some ⟨n+1+1,0,none⟩) 2 2) 9 1 2 [str m.result,str wEq]:=λo=>way_new (ad _) rfl qK;by_cases ed:i.d = -1
   . rw[show zU ns m.result i=[wCall,i.name,Lib.itoa i.n] by unfold zU;simp [ek,ed]];repeat' first|refine wk ?_|refine cX (λ_=>?_) λ_=>?_|refine zS (pn zA _) ?_|refine zS (pr zA) ?_|refine zS (pi zA g1) ?_|fail
     refine appO (lo:=n+1+1+1+1) Own.nil (zF (e:=9) (sz:=1) (len:=3) rfl qK) (ad _) ⟨rfl,rfl,rfl,trivial⟩ qJ  ?_
     rintro v3 h3 n3 w3 t3
     have o3:=w3.one;have u3:Tch [] h n h3 n3:=Tch.tch t3 zA λx hx=>(by cases hx);clear t3;repeat' first|refine wk ?_|apply cX <;> intro
     exact⟨_,rfl,sh_of (w3.row qK) u3 rfl rfl rfl rfl⟩
   . rw[show zU ns m.result i=[m.result,wEq,wCall,i.name,Lib.itoa i.n] by unfold zU;simp [ek,ed]];repeat' first|refine wk ?_|refine cX (λ_=>?_) λ_=>?_|refine zS (pn zA _) ?_|refine zS (pr zA) ?_|refine zS (pi zA g1) ?_|fail
     rw[er];refine uX ((wr _).tch (S:=[]) zA qL) (wK [m.result,wEq]) qJ  (zF (e:=9) (sz:=1) (len:=3) rfl qK) qK  (wK [wCall,i.name,Lib.itoa i.n]) qK  ?_
     rintro v3 h3 n3 w3 _ t3
     have o3:=(w3.row qK).one;have u3:Tch [] h n h3 n3:=Tch.tch t3 zA (by simp[zH];omega);clear t3;repeat' first|refine wk ?_|apply cX <;> intro
     exact⟨_,rfl,sh_of (w3.row qK) u3 rfl rfl rfl rfl⟩
 . rw[show zU ns m.result i=[wBr,rgN ns i.a,Lib.itoa i.t,Lib.itoa i.f] by unfold zU;simp [ek]];repeat' first|refine wk ?_|refine cX (λ_=>?_) λ_=>?_|refine zS (pn zA _) ?_|refine zS (pi zA (ht (.inl ek))) ?_|refine zS (pi zA (hf ek)) ?_|fail
   exact⟨_,rfl,sh_of (zF rfl qK) zA rfl rfl rfl rfl⟩
 . rw[show zU ns m.result i=[wJump,Lib.itoa i.t] by unfold zU;simp [ek]];repeat' first|refine wk ?_|refine cX (λ_=>?_) λ_=>?_|refine zS (pn zA _) ?_|refine zS (pi zA (ht (.inr ek))) ?_|fail
   exact⟨_,rfl,sh_of (zF rfl qK) zA rfl rfl rfl rfl⟩
 . rw[show zU ns m.result i=[wRet] by unfold zU;simp [ek]];repeat' first|refine wk ?_|refine cX (λ_=>?_) λ_=>?_|refine zS (pn zA _) ?_|fail
   exact⟨_,rfl,sh_of (zF rfl qK) zA rfl rfl rfl rfl⟩
 . rw[show zU ns m.result i=[wSpill,Lib.itoa i.n,rgN ns i.a] by unfold zU;simp [ek]];repeat' first|refine wk ?_|refine cX (λ_=>?_) λ_=>?_|refine zS (pn zA _) ?_|refine zS (pi zA g1) ?_|fail
   exact⟨_,rfl,sh_of (zF rfl qK) zA rfl rfl rfl rfl⟩
 . rw[show zU ns m.result i=[rgN ns i.d,wEq,rP,Lib.itoa i.n] by unfold zU;simp [ek]];repeat' first|refine wk ?_|refine cX (λ_=>?_) λ_=>?_|refine zS (pn zA _) ?_|refine zS (pi zA g1) ?_|fail
   refine uX (wd.tch (S:=[]) zA qL) (wK [rgN ns i.d,wEq]) qJ  (zF (e:=9) (sz:=1) (len:=2) rfl qK) qK  (wK [rP,Lib.itoa i.n]) qK  ?_
   rintro v3 h3 n3 w3 _ t3
   have o3:=(w3.row qK).one;have u3:Tch [] h n h3 n3:=Tch.tch t3 zA (by simp[zH]);clear t3;repeat' first|refine wk ?_|apply cX <;> intro
   exact⟨_,rfl,sh_of (w3.row qK) u3 rfl rfl rfl rfl⟩
end
section
variable {n br nb:Nat} {h:zB}
theorem own_dn{lo lo' e sz len:Nat}{v:Value}{vs:List Value}(o:Own lo n h v e sz len vs)(hl:lo'<=lo):Own lo' n h v e sz len vs:=by
 rcases o with o|⟨b,q1,q⟩
 . exact .inl o
 . exact .inr ⟨b,aW hl q1,q⟩
theorem own_off{lo e sz len L:Nat}{v:Value}{vs:List Value}(o:Own lo n h v e sz len vs)(hL:L<lo):∀b,zH v=some b->b∉[L]:=λb hb hx=>by simp at hx;have:=(o.blk hb).1;omega
theorem own_nin{lo e sz len L:Nat}{v:Value}{vs:List Value}(o:Own lo n h v e sz len vs)(hL:L<lo):L∉(zH v).toList:=λhx=>by have:=zQ o _ hx;omega
theorem own_of2{lo e sz len L K:Nat}{v:Value}{vs:List Value}(o:Own lo n h v e sz len vs)(hL:L<lo)(hK:K<lo):∀b,zH v=some b->b∉[L,K]:=λb hb hx=>by simp at hx;have:=(o.blk hb).1;omega
theorem own_ta{lo n n' e sz len S0:Nat}{h h':zB}{v:Value}{vs:List Value}(o:Own lo n h v e sz len vs)(t:Tch [S0] h n h' n')(hS:S0<lo):Own lo n' h' v e sz len vs:=o.tch t (own_off o hS)
theorem rK{x z:Nat}{cs:List Value}(c:Cel h x z 0 cs):∀m z,yC (zG h x)≠some (m,z,1):=λm z' h9=>by rw[c.1]at h9;exact absurd (kd_of h9) qK 
end
section
structure InsR (nr:Nat) (i:InsT):Prop where
 k:1<=i.kind/\i.kind<=11
 d:i.kind=1\/i.kind=11\/i.kind=2\/i.kind=4\/i.kind=3->0<=i.d/\i.d<nr
 a:i.kind=2\/i.kind=4\/i.kind=7\/i.kind=10\/i.kind=5->0<=i.a/\i.a<nr
 b:i.kind=5->0<=i.b/\i.b<nr
 ag:i.kind=3->(∀x∈i.args,0<=x/\x<nr)/\1<=i.args.length/\i.args.length<=2
 nm:i.kind=3->xL i.name=true/\i.name≠wConst/\i.name≠wMove/\i.name≠wLoad/\i.name≠rP/\i.name≠wCall
 n6:i.kind=6->xL i.name=true/\(i.d = -1\/i.d=0)
 n:i.kind=6\/i.kind=10\/i.kind=11->0<=i.n/\i.n<=99999
 t:i.kind=7\/i.kind=8->0<=i.t/\i.t<=99999
 f:i.kind=7->0<=i.f/\i.f<=99999
theorem ar_word{s:Tx}(h:0<arity s):xL s=true/\s≠wConst/\s≠wMove/\s≠wLoad/\s≠rP/\s≠wCall:=by
 have k:∀x∈[110,111,116]::ar2,xL x=true/\x≠wConst/\x≠wMove/\x≠wLoad/\x≠rP/\x≠wCall:=by decide +kernel
 refine k s ?_;unfold arity at h;split at h
 . rename_i h1;exact aL _ h1
 . split at h
   . rename_i h1;rw [h1];exact aN ..
   . omega
theorem inR_of{r:Int}{n:Nat}(h:inR r n=true):0<=r/\r<n:=by
 unfold inR at h;rw [bu,decide_eq_true_iff,decide_eq_true_iff]at h;exact h
theorem insE_R{m:MachT}{ns:List Tx}{ps:List Pl}{slots:Int}{nb:Nat}{i:InsT}{last:Bool}(ok:MOK m ns ps)(hs:slots<=1000)(hb:nb<=200)(h:uC m ns ps slots nb i last=0):InsR ns.length i:=by
 have ha:(m.args.length:Int)<=16:=ok.conv.1.1;unfold uC at h;split at h
 . cases h
 rename_i hk;rw [Bool.not_eq_false]at hk;split at h
 . cases h
 rename_i hr;rw [Bool.not_eq_false,aH]at hr;unfold vH at hk;simp only[bu,decide_eq_true_iff]at hk;obtain⟨⟨⟨k1,k2⟩,_⟩,hk⟩:=hk;have R:∀x,x∈yS i++yO i->0<=x/\x<(ns.length:Int):=λx hx=>inR_of (hr x hx)
 have O:i.kind=3->∃o∈m.ops,o.name=i.name/\i.args.length=o.uses.length:=λh3=>by
  rw[if_pos h3]at hk;unfold opAt at hk;split at hk
  . rename_i o e;have:=List.find?_some e;simp only[decide_eq_true_iff]at this hk;exact⟨o,bO e,this,hk⟩
  . cases hk
 refine⟨⟨k1,k2⟩,λh3=>R _ ?_,λh3=>R _ ?_,λh3=>R _ ?_,λh3=>⟨λx hx=>R _ ?_,?_⟩,λh3=>?_,λh3=>?_,λh3=>?_,λh3=>?_,λh3=>?_⟩
 . unfold yS;rw [if_pos h3];simp
 . unfold yO;by_cases h5:i.kind=5
   . rw[if_neg qJ,if_neg qJ,if_pos h5];simp
   . rw[if_pos qJ];simp
 . unfold yO;rw [if_neg qJ,if_neg qJ,if_pos h3];simp
 . unfold yO;rw [if_neg qJ,if_pos h3];exact bQ _ hx
 . obtain⟨o,ho,_,hl⟩:=O h3;have:=(MOK.oo ok o ho).2;omega
 . obtain⟨o,ho,hn,_⟩:=O h3;rw [<- hn];refine ar_word ?_;have h1:=(MOK.oo ok o ho).1.1;have:=(MOK.oo ok o ho).2;omega
 . rw[if_neg qJ,if_pos h3]at hk;simp only[bu,dV,decide_eq_true_iff]at hk;exact⟨hk.1.1.1,hk.2⟩
 . by_cases h6:i.kind=6
   . rw[if_neg qJ,if_pos h6]at hk;simp only[bu,dV,decide_eq_true_iff]at hk;omega
   . rw[if_neg qJ,if_neg qJ,if_pos qJ]at h;split at h
     . omega
     . cases h
 . rw[if_neg qJ,if_neg qJ,if_neg qJ]at h;by_cases h7:i.kind=7
   . rw[if_pos h7]at h;split at h
     . rename_i e;rw [bu]at e;have:=inR_of e.1;omega
     . cases h
   . rw[if_neg h7,if_pos qJ]at h;split at h
     . rename_i e;have:=inR_of e;omega
     . cases h
 . rw[if_neg qJ,if_neg qJ,if_neg qJ,if_pos h3]at h;split at h
   . rename_i e;rw [bu]at e;have:=inR_of e.2;omega
   . cases h
def rQ(i:InsT)(av:Value):InsT:=
 let k:=i.kind
 ⟨k,if k=1\/k=2\/k=3\/k=4\/k=6\/k=11 then i.d else 0,if k=2\/k=4\/k=5\/k=7\/k=10 then i.a else 0,if k=5 then i.b else 0,if k=1\/k=6\/k=10\/k=11 then i.n else 0,if k=3\/k=6 then i.name else [],av,if k=3 then i.args else [],if k=7\/k=8 then i.t else 0,if k=7 then i.f else 0⟩
theorem insE_clr{m:MachT}{ns:List Tx}{ps:List Pl}{slots:Int}{nb:Nat}{i:InsT}{last:Bool}(av:Value)(hk:1<=i.kind/\i.kind<=11):uC m ns ps slots nb (rQ i av) last=uC m ns ps slots nb i last:=by
 obtain⟨k,d,a,b,n,nm,av0,ag,t,f⟩:=i;obtain⟨h1,h2⟩:=hk;dsimp only at h1 h2;have e:k=1\/k=2\/k=3\/k=4\/k=5\/k=6\/k=7\/k=8\/k=9\/k=10\/k=11:=by omega
 rcases e with rfl|rfl|rfl|rfl|rfl|rfl|rfl|rfl|rfl|rfl|rfl <;> rfl
end
section
attribute [local simp] zY
abbrev zMR:Nat:=85+1
abbrev rdC(bt:Nat)(a:Tx)(b:Int)(cv wv:Value):List Value:=[ptr bt 0,str a,I64 b,cv,wv]
variable {n n0 bt br bw lq:Nat} {h h0:zB} {m:MachT} {ns:List Tx} {ps:List Pl} {v:TabV} {ws:List Tx} {sv cv:Value} {mx:Int} {A:Tx} {B:Int}
structure EnvT (mx:Int) (lq n0:Nat) (h0:zB) (bt:Nat) (m:MachT) (ns:List Tx) (ps:List Pl) (v:TabV):Prop where
 kt:TabM lq n0 h0 bt m ns ps v
 nd:ns.Nodup
 nm:∀x∈ns,xL x=true
 tb:TabsH (tb mx) h0
 ng:8<=n0
theorem EnvT.tch{h':zB}{n':Nat}(e:EnvT mx lq n0 h0 bt m ns ps v)(t:Tch [] h0 n0 h' n'):EnvT mx lq n' h' bt m ns ps v:=⟨e.kt.tch t,e.nd,e.nm,tb_tch e.tb t e.ng qL,aW e.ng t.1⟩
theorem rgN_at{r:Int}(h0:0<=r)(h1:r<(ns.length:Int)):∃j:Nat,r=(j:Int)/\ns[j]? = some (rgN ns r):=by
 obtain⟨j,rfl⟩:=bC h0;refine⟨j,rfl,?_⟩;unfold rgN;rw [if_pos h0,bM,aa qJ];rfl
theorem rL(E:EnvT mx lq n0 h0 bt m ns ps v)(t0:Tch [] h0 n0 h n)(ff:n0<=bw)(eJ:br≠bw)(im:br<n)(c:Cel h br zMR 0 (rdC bt A B cv (ptr bw 0))){r:Int}(w:WdM n bw h (rgN ns r::ws) sv)(h1:0<=r)(h2:r<(ns.length:Int)):Ret P 8 132 [ptr br 0] h n (WO bw ws (I64 r) h n):=by
 have hb:=w.lt;obtain⟨j,rfl,hj⟩:=rgN_at h1 h2;refine ent λu=>?_;repeat' first|refine wk ?_|refine cX (λ_=>?_) λ_=>?_|refine yG (next_ret w) ?_|fail
 rintro _ h' n' ⟨rfl,t,w'⟩
 have kt':=E.kt.tch (Tch.tch t t0 λx hx=>.inl (by simp at hx;omega));repeat' first|refine wk ?_|refine cX (λ_=>?_) λ_=>?_|refine zS (treg_at kt' E.nd hj) ?_|fail
 exact⟨_,rfl,rfl,t,w'⟩
theorem nil_or{α : Type}(q:List α):q.length=0\/∃s r,q=s::r:=by cases q <;> simp
theorem rregs_ret(E:EnvT mx lq n0 h0 bt m ns ps v)(t0:Tch [] h0 n0 h n)(ff:n0<=bw)(eJ:br≠bw)(im:br<n)(c:Cel h br zMR 0 (rdC bt A B cv (ptr bw 0))){l:List Int}(w:WdM n bw h (l.map (rgN ns)) sv)(hl:∀x∈l,0<=x/\x<(ns.length:Int)):Ret P 8 181 [ptr bw 0,.func (.func 132) ⟨[ptr br 0]⟩ ⟨[]⟩] h n λo h' n'=>Tch [bw] h n h' n'/\Own n n' h' o 3 1 l.length (l.map I64)/\∃sv',WdM n' bw h' [] sv':=by
 have hb:=w.lt;have kV:=w.sm;rw [aD]at kV;refine ent λu=>?_;repeat' first|refine wk ?_|apply cX <;> intro
 refine lpR (α :=Value×List Int×List Int×Value) (λa=>[(0,ptr bw 0),(1,.func (.func 132) ⟨[ptr br 0]⟩ ⟨[]⟩),(5,a.1)])
  (λa h' n'=>Tch [bw] h n h' n'/\Own n n' h' a.1 3 1 a.2.1.length (a.2.1.map I64)/\l=a.2.1++a.2.2.1/\WdM n' bw h' (a.2.2.1.map (rgN ns)) a.2.2.2)
  (λa=>a.2.2.1.length) (.slice none 0 0,[],l,sv) ⟨zA,Own.nil,rfl,w⟩ ?_
 rintro ⟨v1,done,q,sv1⟩ t h' n' ⟨ht,ho,rfl,hw⟩
 dsimp only at ht ho hw ⊢;have o1:=ho.one;have eP:=ht.le;have hlw:=len_com hw;rw [aD]at hlw;rw [ah]at kV;dsimp only at kV;rcases nil_or q with hz|⟨s,q,rfl⟩
 . repeat' first|refine wk ?_|refine cX (λ_=>?_) λ_=>?_|refine zS hlw ?_|fail
   obtain rfl:=aP.1 hz;exact⟨_,rfl,zA,by rw[bS];exact ho,sv1,hw⟩
 . have hp:0<(s::q).length:=by simp
   have hs:=hl s qL;rw [ay]at kV;have tt:Tch [] h0 n0 h' n':=Tch.tch ht t0 λx hx=>.inl (by simp at hx;omega);have c':Cel h' br zMR 0 (rdC bt A B cv (ptr bw 0)):=c.tch ht im qM;rw [bJ]at hw;repeat' first|refine wk ?_|refine cX (λ_=>?_) λ_=>?_|refine zS hlw ?_|refine yG (rL E tt ff eJ qJ  c' hw hs.1 hs.2) ?_|fail
   rintro _ h2 n2 ⟨rfl,t2,sv',w'⟩
   have hn2:=t2.le;have eD:q.length<(s::q).length:=by simp
   repeat' first|refine wk ?_|apply cX <;> intro
   refine appO (ho.tch (S:=[bw]) zA (own_off ho hb)) (zF (e:=3) (sz:=1) (len:=1) rfl qK) qJ  ⟨rfl,trivial⟩ qJ  ?_
   rintro v' h3 n3 ho3 ht3
   have hw3:=w'.tch (S:=(zH v1).toList) (Tch.tch ht3 zA λx hx=>.inr hx) λx hx=>by have:=zQ ho x hx;omega
   have ht4:Tch [bw] h n h3 n3:=Tch.tch ht3 zA λx hx=>.inl (zQ ho x hx);repeat' first|refine wk ?_|apply cX <;> intro
   exact rnd (v',done++[s],q,sv') ⟨ht4,by rw[ah,aC];exact ho3,by simp,hw3⟩
end
section
variable {ns:List Tx} {i:InsT}
theorem rgN_nat{j:Nat}{x:Tx}(h:ns[j]? = some x):rgN ns (j:Int)=x:=by
 unfold rgN;rw [if_pos qJ,bM,h];rfl
theorem def_words{j:Nat}{res:Tx}(R:InsR ns.length i)(hj:ns[j]? = some res)(hk:i.kind=1\/i.kind=2\/i.kind=3\/i.kind=4\/i.kind=11\/(i.kind=6/\i.d≠-1)):∃(r:Int) (s:Tx) (q:List Tx),zU ns res i=rgN ns r::wEq::s::q/\(0<=r/\r<(ns.length:Int))/\xL s=true/\
 ((i.kind=1/\r=i.d/\s=wConst/\q=[Lib.itoa i.n])\/(i.kind=2/\r=i.d/\s=wMove/\q=[rgN ns i.a])\/(i.kind=4/\r=i.d/\s=wLoad/\q=[rgN ns i.a])\/(i.kind=11/\r=i.d/\s=rP/\q=[Lib.itoa i.n])\/(i.kind=6/\r=(j:Int)/\s=wCall/\q=[i.name,Lib.itoa i.n])\/(i.kind=3/\r=i.d/\s=i.name/\q=i.args.map (rgN ns))):=by
 have hjl:=(ab.1 hj).1;have e:=rgN_nat hj;rcases hk with h|h|h|h|h|⟨h,h9⟩
 . exact⟨i.d,wConst,[Lib.itoa i.n],by simp[zU,h],R.d qJ,by decide,.inl ⟨h,rfl,rfl,rfl⟩⟩
 . exact⟨i.d,wMove,[rgN ns i.a],by simp[zU,h],R.d qJ,by decide,.inr (.inl ⟨h,rfl,rfl,rfl⟩)⟩
 . exact⟨i.d,i.name,i.args.map (rgN ns),by simp[zU,h],R.d qJ,(R.nm h).1,.inr (.inr (.inr (.inr (.inr ⟨h,rfl,rfl,rfl⟩))))⟩
 . exact⟨i.d,wLoad,[rgN ns i.a],by simp[zU,h],R.d qJ,by decide,.inr (.inr (.inl ⟨h,rfl,rfl,rfl⟩))⟩
 . exact⟨i.d,rP,[Lib.itoa i.n],by simp[zU,h],R.d qJ,by decide,.inr (.inr (.inr (.inl ⟨h,rfl,rfl,rfl⟩)))⟩
 . exact⟨j,wCall,[i.name,Lib.itoa i.n],by simp[zU,h,h9,e],by omega,by decide,.inr (.inr (.inr (.inr (.inl ⟨h,rfl,rfl,rfl⟩))))⟩
theorem name_ne{s:Tx}(h:xL s=true):s≠wEq:=by rintro rfl;revert h;decide
theorem itoa_ne{a:Int}(h1: -9223372036854775808<=a)(h2:a<=9223372036854775807):Lib.itoa a≠wEq:=λe=>by
 have h:=atoi_itoa h1 h2;rw [e]at h;have h9:Lib.atoiAll wEq = .syntax:=by decide
 rw[h9]at h;cases h
end
section
attribute [local simp] zY
abbrev zI:Nat:=51+1
abbrev zL:List Value:=[I64 0,I64 0,I64 0,I64 0,I64 0,str [],.slice none 0 0,I64 0,I64 0]
abbrev dL(d:Int):List Value:=[I64 0,I64 d,I64 0,I64 0,I64 0,str [],.slice none 0 0,I64 0,I64 0]
theorem rM{l:List (Nat×Value)}{t:Fr}{h:zB}{i b:Nat}{cs:List Value}(e:lk l t i=ptr b 0:=by apply qB;((conv=>lhs;whnf) <;> exact rfl))(g:Rd h b 0 9 cs:=by repeat' first|exact rd_nil|(apply vF;focus (apply Cel.cell;(focus exact zE);exact rfl))):Rs P l t h [.cell i 51] [.agg ⟨cs⟩]:=by
 have s:ShC P 51 (.agg 9):=inferInstance;refine⟨_,[],rfl,?_,rfl⟩;rw [e];exact load_agg s.ok g.row.1 qK  g.row.2
variable {n n0 bt br bw lq:Nat} {h h0:zB} {m:MachT} {ns:List Tx} {ps:List Pl} {v:TabV} {sv cv:Value} {mx:Int} {A:Tx} {B:Int} {i:InsT}
def IOQ(bw:Nat)(i:InsT)(h:zB)(n:Nat)(o:Value)(h':zB)(n':Nat):Prop:=
 Tch [bw] h n h' n'/\∃av sv',o = .agg ⟨wZ (rQ i av)⟩/\Own n n' h' av 3 1 (rQ i av).args.length ((rQ i av).args.map I64)/\WdM n' bw h' [] sv'
theorem ioq{n':Nat}{h':zB}{cs:List Value}(k:i.kind≠3)(hc:wZ (rQ i (.slice none 0 0))=cs)(t:Tch [bw] h n h' n')(w:WdM n' bw h' [] sv):IOQ bw i h n (.agg ⟨cs⟩) h' n':=by
 refine⟨t,.slice none 0 0,sv,by rw[hc],?_,w⟩;have e:(rQ i (.slice none 0 0)).args=[]:=if_neg k;rw [e];exact Own.nil
theorem rdef_ret(E:EnvT mx lq n0 h0 bt m ns ps v)(t0:Tch [] h0 n0 h n)(ff:n0<=bw)(eJ:br≠bw)(im:br<n)(c:Cel h br zMR 0 (rdC bt A B cv (ptr bw 0))){j:Nat}(hj:ns[j]? = some m.result)(R:InsR ns.length i)(hg:uT i.n)(w:WdM n bw h (zU ns m.result i) sv)(hk:i.kind=1\/i.kind=2\/i.kind=3\/i.kind=4\/i.kind=11\/(i.kind=6/\i.d≠-1)):Ret P 8 131 [ptr br 0] h n (IOQ bw i h n):=by
 have hb:=w.lt;obtain⟨r,s,q,e,⟨r1,r2⟩,hs,hD⟩:=def_words R hj hk;rw [e]at w;have TT:∀{h' n'},Tch [bw] h n h' n'->Tch [] h0 n0 h' n':=λt=>Tch.tch t t0 λx hx=>.inl (by simp at hx;omega);refine ent λu=>?_;repeat' first|refine wk ?_|refine cX (λ_=>?_) λ_=>?_|refine yG (rL E (TT zA) ff eJ qJ  (c.tch (S:=[]) zA im qL) (w.tch (S:=[]) zA qL) r1 r2) ?_|fail
 rintro _ h1 n1 ⟨rfl,t1,sv1,w1⟩
 have jO:=t1.le;have z1:Cel h1 n zI 0 zL:=Cel.tch zE t1 qJ qM;have u1:Tch [bw] h n h1 n1:=zA;clear t1;repeat' first|refine wk ?_|refine cX (λ_=>?_) λ_=>?_|refine yG (want_ret (w1.tch (S:=[]) zA qL)) ?_|fail
 rintro _ h2 n2 ⟨rfl,t2,sv2,w2⟩
 have hn2:=t2.le;have z2:Cel h2 n zI 0 zL:=Cel.tch zE t2 qJ qM;have c2:Cel h2 n1 zI 0 (dL r):=Cel.tch zC t2 qJ qM;have u2:Tch [bw] h n h2 n2:=zA;clear t2 z1 u1;repeat' first|refine wk ?_|refine cX (λ_=>?_) λ_=>?_|refine yG (name_ret w2 hs) ?_|fail
 rintro _ h3 n3 ⟨rfl,t3,sv3,w3⟩
 have eS:=t3.le;have z3:Cel h3 n zI 0 zL:=z2.tch t3 qJ qM;have c3:Cel h3 n1 zI 0 (dL r):=c2.tch t3 qJ qM;have u3:Tch [bw] h n h3 n3:=zA;have b3:Cel h3 br zMR 0 (rdC bt A B cv (ptr bw 0)):=c.tch u3 qJ qM;have T3:=TT u3;have E3:=E.tch T3;clear t3 z2 c2 u2;have gb:=aW E.ng ff;rcases hD with⟨k,rfl,rfl,rfl⟩|⟨k,rfl,rfl,rfl⟩|⟨k,rfl,rfl,rfl⟩|⟨k,rfl,rfl,rfl⟩|⟨k,rfl,rfl,rfl⟩|⟨k,rfl,rfl,rfl⟩
 . repeat' first|refine wk ?_|refine cX (λ_=>?_) λf=>absurd rfl f|refine cX (λf=>absurd f qK) λ_=>?_|refine yG (any_ret w3 E3.tb gb hg.1 (dP hg.2)) ?_|fail
   rintro _ h4 n4 ⟨rfl,t4,sv4,w4⟩
   have fi:=t4.le;have z4:Cel h4 n zI 0 zL:=z3.tch t4 qJ qM;have c4:Cel h4 n1 zI 0 (dL _):=c3.tch t4 qJ qM;have u4:Tch [bw] h n h4 n4:=zA;clear t4 z3 c3;repeat' first|refine wk ?_|refine cX (λ_=>?_) λ_=>?_|refine ob (a:=_) ?_ rM|fail
   exact⟨_,rfl,ioq qJ  (by simp[rQ,k]) zA (w4.tch (S:=[n1,n]) zA qM)⟩
 . repeat' first|refine wk ?_|refine cX (λ_=>?_) λf=>absurd rfl f|refine cX (λf=>absurd f qK) λ_=>?_|refine yG (rL E T3 ff eJ qJ  b3 w3 (R.a qJ).1 (R.a qJ).2) ?_|fail
   rintro _ h4 n4 ⟨rfl,t4,sv4,w4⟩
   have fi:=t4.le;have z4:Cel h4 n zI 0 zL:=z3.tch t4 qJ qM;have c4:Cel h4 n1 zI 0 (dL _):=c3.tch t4 qJ qM;have u4:Tch [bw] h n h4 n4:=zA;clear t4 z3 c3;repeat' first|refine wk ?_|refine cX (λ_=>?_) λ_=>?_|refine ob (a:=_) ?_ rM|fail
   exact⟨_,rfl,ioq qJ  (by simp[rQ,k]) zA (w4.tch (S:=[n1,n]) zA qM)⟩
 . repeat' first|refine wk ?_|refine cX (λ_=>?_) λf=>absurd rfl f|refine cX (λf=>absurd f qK) λ_=>?_|refine yG (rL E T3 ff eJ qJ  b3 w3 (R.a qJ).1 (R.a qJ).2) ?_|fail
   rintro _ h4 n4 ⟨rfl,t4,sv4,w4⟩
   have fi:=t4.le;have z4:Cel h4 n zI 0 zL:=z3.tch t4 qJ qM;have c4:Cel h4 n1 zI 0 (dL _):=c3.tch t4 qJ qM;have u4:Tch [bw] h n h4 n4:=zA;clear t4 z3 c3;repeat' first|refine wk ?_|refine cX (λ_=>?_) λ_=>?_|refine ob (a:=_) ?_ rM|fail
   exact⟨_,rfl,ioq qJ  (by simp[rQ,k]) zA (w4.tch (S:=[n1,n]) zA qM)⟩
 . repeat' first|refine wk ?_|refine cX (λ_=>?_) λf=>absurd rfl f|refine cX (λf=>absurd f qK) λ_=>?_|refine yG (num_ret w3 E3.tb gb (R.n qJ).1 (R.n qJ).2) ?_|fail
   rintro _ h4 n4 ⟨rfl,t4,sv4,w4⟩
   have fi:=t4.le;have z4:Cel h4 n zI 0 zL:=z3.tch t4 qJ qM;have c4:Cel h4 n1 zI 0 (dL _):=c3.tch t4 qJ qM;have u4:Tch [bw] h n h4 n4:=zA;clear t4 z3 c3;repeat' first|refine wk ?_|refine cX (λ_=>?_) λ_=>?_|refine ob (a:=_) ?_ rM|fail
   exact⟨_,rfl,ioq qJ  (by simp[rQ,k]) zA (w4.tch (S:=[n1,n]) zA qM)⟩
 . have ej:=tres_pur E3.kt E.nd hj;repeat' first|refine wk ?_|refine cX (λ_=>?_) λf=>absurd rfl f|refine cX (λf=>absurd f qK) λ_=>?_|refine zS ej ?_|refine yG (name_ret w3 (R.n6 k).1) ?_|fail
   rintro _ h4 n4 ⟨rfl,t4,sv4,w4⟩
   have fi:=t4.le;have z4:Cel h4 n zI 0 zL:=z3.tch t4 qJ qM;have c4:Cel h4 n1 zI 0 (dL _):=c3.tch t4 qJ qM;have u4:Tch [bw] h n h4 n4:=zA;clear t4 z3 c3;repeat' first|refine wk ?_|refine cX (λ_=>?_) λ_=>?_|refine yG (num_ret (w4.tch (S:=[n1]) zA qM) (E.tch (TT zA)).tb gb (R.n qJ).1 (R.n qJ).2) ?_|fail
   rintro _ h5 n5 ⟨rfl,t5,sv5,w5⟩
   have fA:=t5.le;have z5:Cel h5 n zI 0 zL:=Cel.tch zE t5 qJ qM;have c5:Cel h5 n1 zI 0 [I64 6,I64 0,I64 0,I64 0,I64 0,str i.name,.slice none 0 0,I64 0,I64 0]:=Cel.tch zC t5 qJ qM;have u5:Tch [bw] h n h5 n5:=zA;clear t5;repeat' first|refine wk ?_|refine cX (λ_=>?_) λ_=>?_|refine ob (a:=_) ?_ rM|fail
   have hd:i.d=0:=(R.n6 k).2.resolve_left qJ;exact⟨_,rfl,ioq qJ  (by simp[rQ,k,hd]) zA (w5.tch (S:=[n1,n]) zA qM)⟩
 . have hn:=R.nm k;repeat' first|refine wk ?_|refine cX (λf=>absurd f (by first|exact hn.2.1|exact hn.2.2.1|exact hn.2.2.2.1|exact hn.2.2.2.2.1|exact hn.2.2.2.2.2)) λ_=>?_|refine yG (rregs_ret E (TT zA) ff eJ qJ  (b3.tch (n:=n3) (S:=[n1]) zA qJ qM) (w3.tch (S:=[n1]) zA qM) (R.ag k).1) ?_|fail
   rintro v4 h4 n4 ⟨t4,o4,sv4,w4⟩
   have fi:=t4.le;have z4:Cel h4 n zI 0 zL:=Cel.tch zE t4 qJ qM;have c4:Cel h4 n1 zI 0 [I64 3,I64 i.d,I64 0,I64 0,I64 0,str i.name,.slice none 0 0,I64 0,I64 0]:=Cel.tch zC t4 qJ qM;have u4:Tch [bw] h n h4 n4:=zA;have o1:=o4.one;have rr:=o4.row qK;have hl:=(R.ag k).2;clear t4 z3 c3;repeat' first|refine wk ?_|refine cX (λ_=>?_) λ_=>?_|refine ob (a:=_) ?_ rM|fail
   have ec:rQ i v4=⟨3,i.d,0,0,0,i.name,v4,i.args,0,0⟩:=by simp[rQ,k]
   exact⟨_,rfl,zA,v4,sv4,by rw[ec],by rw[ec];exact own_dn (o4.tch (S:=[n1,n]) zA (own_of2 o4 qJ qJ)) qJ,w4.tch (S:=[n1,n]) zA qM⟩
end
end Go.Proofs.YtdiejolnllipnaaGreatDoor
