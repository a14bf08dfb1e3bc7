/- What the law leans on, part 22 of 22. Conditions: those that each theorem states. -/
import Derived.Test.YtmccnilgnlaffaaGreatDoorMachChecksx21
import Derived.Test.YtmccnilgnlaffaaGreatDoorMachChecksx20
import Derived.Shelf.Strings.OnBuilder
import Derived.Shelf.Small.Wraps
import Derived.Shelf.Utf8.RuneCount
import Derived.Shelf.Strconv.Atoi
import Derived.Shelf.Strconv.Itoa3
import Derived.Shelf.Strings.Shaped
import Derived.Shelf.Strings.SplitShaped
import Derived.Shelf.Strings.Explode
import Derived.Shelf.Unicode.DecodeAny
import Derived.Shelf.Slices.Clone
import Derived.Shelf.SlicesE.Clone
import Derived.Test.YtmccnilgnlaffaaGreatDoorRows
import Derived.Lib.AppendIntMem
import Derived.Lib.AtoiErrMem
import Derived.WalkSmall
import Derived.LaidMore
import Derived.OpenShut
import Derived.Stop.Joined
import Derived.Lib.LaidU8
import Derived.HandedShaped

set_option linter.unusedVariables false
set_option linter.unusedSimpArgs false
namespace Go.Proofs
open Go.Shelf
section
def Tryz.lays169_ren:Go.Shelf.Ren:=⟨λ|169=>46|n=>n,λ|70=>111|9=>9|0=>0|72=>114|37=>112|127=>179|3=>3|5=>5|n=>n,λ|n=>n⟩
theorem Tryz.lays169:Go.Proofs.Lays.n169 Tryz.prog Tryz.lays169_ren:={
 mixed:=by kernel_rfl
 f169:=Tryz.func46.trans (congrArg some (by kernel_rfl))
 t0:=Tryz.underlying0
 a0:=Tryz.isAgg0
 z0:=Tryz.sizeOf0
 v0:=Tryz.zeroValue0
 t3:=Tryz.underlying3
 a3:=Tryz.isAgg3
 z3:=Tryz.sizeOf3
 v3:=Tryz.zeroValue3
 t9:=Tryz.underlying9
 a9:=Tryz.isAgg9
 z9:=Tryz.sizeOf9
 v9:=Tryz.zeroValue9
 t37:=Tryz.underlying112
 a37:=Tryz.isAgg112
 z37:=Tryz.sizeOf112
 v37:=Tryz.zeroValue112
 t70:=Tryz.underlying111
 a70:=Tryz.isAgg111
 z70:=Tryz.sizeOf111
 v70:=Tryz.zeroValue111
 t72:=Tryz.underlying114
 a72:=Tryz.isAgg114
 z72:=Tryz.sizeOf114
 v72:=Tryz.zeroValue114
 t127:=Tryz.underlying179
 a127:=Tryz.isAgg179
 z127:=Tryz.sizeOf179
 v127:=Tryz.zeroValue179 }
theorem Tryz.Builder_Extra_169:Builder.Extra Tryz.prog Tryz.lays169_ren:={
 sizeBuilder:=by kernel_rfl
 liesBuilder:=by kernel_rfl
 t5:=Tryz.underlying5
 a5:=Tryz.isAgg5
 z5:=Tryz.sizeOf5
 v5:=Tryz.zeroValue5
 infoByte:=by kernel_rfl
 cellsByte:=by kernel_rfl
 sizeByte:=by kernel_rfl
 neB5:=by decide }
def Tryz.lays156_ren:Go.Shelf.Ren:=⟨λ|156=>43|165=>102|166=>42|169=>46|240=>101|241=>156|276=>155|277=>190|n=>n,λ|31=>25|9=>9|3=>3|4=>4|0=>0|20=>20|72=>114|76=>117|70=>111|37=>112|75=>116|127=>179|164=>215|5=>5|80=>123|n=>n,λ|n=>n⟩
theorem Tryz.lays156:Go.Proofs.Lays.n156 Tryz.prog Tryz.lays156_ren:={
 mixed:=by kernel_rfl
 f156:=Tryz.func43.trans (congrArg some (by kernel_rfl))
 f165:=Tryz.func102.trans (congrArg some (by kernel_rfl))
 f166:=Tryz.func42.trans (congrArg some (by kernel_rfl))
 f169:=Tryz.func46.trans (congrArg some (by kernel_rfl))
 f240:=Tryz.func101.trans (congrArg some (by kernel_rfl))
 f241:=Tryz.func156.trans (congrArg some (by kernel_rfl))
 f276:=Tryz.func155.trans (congrArg some (by kernel_rfl))
 f277:=Tryz.func190.trans (congrArg some (by kernel_rfl))
 t0:=Tryz.underlying0
 a0:=Tryz.isAgg0
 z0:=Tryz.sizeOf0
 v0:=Tryz.zeroValue0
 t3:=Tryz.underlying3
 a3:=Tryz.isAgg3
 z3:=Tryz.sizeOf3
 v3:=Tryz.zeroValue3
 t4:=Tryz.underlying4
 a4:=Tryz.isAgg4
 z4:=Tryz.sizeOf4
 v4:=Tryz.zeroValue4
 t9:=Tryz.underlying9
 a9:=Tryz.isAgg9
 z9:=Tryz.sizeOf9
 v9:=Tryz.zeroValue9
 t20:=Tryz.underlying20
 a20:=Tryz.isAgg20
 z20:=Tryz.sizeOf20
 v20:=Tryz.zeroValue20
 t31:=Tryz.underlying25
 a31:=Tryz.isAgg25
 z31:=Tryz.sizeOf25
 v31:=Tryz.zeroValue25
 t37:=Tryz.underlying112
 a37:=Tryz.isAgg112
 z37:=Tryz.sizeOf112
 v37:=Tryz.zeroValue112
 t70:=Tryz.underlying111
 a70:=Tryz.isAgg111
 z70:=Tryz.sizeOf111
 v70:=Tryz.zeroValue111
 t72:=Tryz.underlying114
 a72:=Tryz.isAgg114
 z72:=Tryz.sizeOf114
 v72:=Tryz.zeroValue114
 t75:=Tryz.underlying116
 a75:=Tryz.isAgg116
 z75:=Tryz.sizeOf116
 v75:=Tryz.zeroValue116
 t76:=Tryz.underlying117
 a76:=Tryz.isAgg117
 z76:=Tryz.sizeOf117
 v76:=Tryz.zeroValue117
 t127:=Tryz.underlying179
 a127:=Tryz.isAgg179
 z127:=Tryz.sizeOf179
 v127:=Tryz.zeroValue179
 t164:=Tryz.underlying215
 a164:=Tryz.isAgg215
 z164:=Tryz.sizeOf215
 v164:=Tryz.zeroValue215 }
theorem Tryz.Builder_Extra_156:Builder.Extra Tryz.prog Tryz.lays156_ren:={
 sizeBuilder:=by kernel_rfl
 liesBuilder:=by kernel_rfl
 t5:=Tryz.underlying5
 a5:=Tryz.isAgg5
 z5:=Tryz.sizeOf5
 v5:=Tryz.zeroValue5
 infoByte:=by kernel_rfl
 cellsByte:=by kernel_rfl
 sizeByte:=by kernel_rfl
 neB5:=by decide }
open Go.RowKit in
theorem Tryz.strings_Join_none(a:Option Addr)(c:Nat)(sep:ByteArray)(w:World) :
 Calls Tryz.prog 43 #[.slice a 0 c,.string sep] w λe w'=>e = .returned (.string ⟨#[]⟩)∧w'=w:=Any.strings_Join_none Tryz.lays156 Tryz.Builder_Extra_156 a c sep w
open Go.RowKit in
theorem Tryz.strings_Join(bk o c:Nat)(xs:List ByteArray)(sep:ByteArray)(w:World)(hcells:∀(j:Nat) x,xs[j]? = some x→w.cell? ⟨bk,o+j,none⟩=some (.string x))(hbk:bk<w.heap.size)(hN:xs.length≤140737488355328)(eT:xs.length≤c)(ej:(Lib.join (xs.map (·.data.toList)) sep.data.toList).length≤140737488355328) :
 Calls Tryz.prog 43 #[.slice (some ⟨bk,o,none⟩) xs.length c,.string sep] w λe w'=>e = .returned (.string ⟨(Lib.join (xs.map (·.data.toList)) sep.data.toList).toArray⟩)∧Below w.heap.size w w':=Any.strings_Join Tryz.lays156 Tryz.Builder_Extra_156 bk o c xs sep w hcells hbk hN eT ej
def Tryz.lays103_ren:Go.Shelf.Ren:=⟨λ|103=>188|210=>205|206=>221|n=>n,λ|9=>9|4=>4|24=>244|3=>3|n=>n,λ|n=>n⟩
theorem Tryz.lays103:Go.Proofs.Lays.n103 Tryz.prog Tryz.lays103_ren:={
 mixed:=by kernel_rfl
 f103:=Tryz.func188.trans (congrArg some (by kernel_rfl))
 f206:=Tryz.func221.trans (congrArg some (by kernel_rfl))
 f210:=Tryz.func205.trans (congrArg some (by kernel_rfl))
 t3:=Tryz.underlying3
 a3:=Tryz.isAgg3
 z3:=Tryz.sizeOf3
 v3:=Tryz.zeroValue3
 t4:=Tryz.underlying4
 a4:=Tryz.isAgg4
 z4:=Tryz.sizeOf4
 v4:=Tryz.zeroValue4
 t9:=Tryz.underlying9
 a9:=Tryz.isAgg9
 z9:=Tryz.sizeOf9
 v9:=Tryz.zeroValue9
 t24:=Tryz.underlying244
 a24:=Tryz.isAgg244
 z24:=Tryz.sizeOf244
 v24:=Tryz.zeroValue244 }
open Go.RowKit in
theorem Tryz.strings_CutPrefix(s p:ByteArray)(w:World) :
 Calls Tryz.prog 188 #[.string s,.string p] w λe w'=>e = .returned (.tuple #[.string ⟨(Lib.trimPrefix s.data.toList p.data.toList).toArray⟩,.bool (Lib.hasPrefix s.data.toList p.data.toList)])∧w'=w:=Any.strings_CutPrefix Tryz.lays103 s p w
def Tryz.lays172_ren:Go.Shelf.Ren:=⟨λ|172=>184|244=>201|245=>202|247=>212|279=>213|280=>214|281=>215|282=>216|287=>227|316=>228|171=>44|205=>229|321=>235|322=>236|243=>103|246=>157|283=>191|284=>192|285=>193|286=>194|129=>208|317=>207|318=>209|319=>210|320=>211|337=>225|338=>226|n=>n,λ|9=>9|3=>3|75=>116|76=>117|4=>4|5=>5|167=>265|37=>112|0=>0|85=>266|2=>2|168=>268|53=>167|175=>275|46=>202|210=>279|127=>179|145=>290|143=>288|21=>21|171=>248|173=>251|212=>261|51=>262|20=>20|213=>263|232=>285|233=>286|80=>123|n=>n,λ|15=>2|16=>3|17=>1|18=>4|19=>5|n=>n⟩
theorem Tryz.lays172:Go.Proofs.Lays.n172 Tryz.prog Tryz.lays172_ren:={
 mixed:=by kernel_rfl
 f129:=Tryz.func208.trans (congrArg some (by kernel_rfl))
 f171:=Tryz.func44.trans (congrArg some (by kernel_rfl))
 f172:=Tryz.func184.trans (congrArg some (by kernel_rfl))
 f205:=Tryz.func229.trans (congrArg some (by kernel_rfl))
 f243:=Tryz.func103.trans (congrArg some (by kernel_rfl))
 f244:=Tryz.func201.trans (congrArg some (by kernel_rfl))
 f245:=Tryz.func202.trans (congrArg some (by kernel_rfl))
 f246:=Tryz.func157.trans (congrArg some (by kernel_rfl))
 f247:=Tryz.func212.trans (congrArg some (by kernel_rfl))
 f279:=Tryz.func213.trans (congrArg some (by kernel_rfl))
 f280:=Tryz.func214.trans (congrArg some (by kernel_rfl))
 f281:=Tryz.func215.trans (congrArg some (by kernel_rfl))
 f282:=Tryz.func216.trans (congrArg some (by kernel_rfl))
 f283:=Tryz.func191.trans (congrArg some (by kernel_rfl))
 f284:=Tryz.func192.trans (congrArg some (by kernel_rfl))
 f285:=Tryz.func193.trans (congrArg some (by kernel_rfl))
 f286:=Tryz.func194.trans (congrArg some (by kernel_rfl))
 f287:=Tryz.func227.trans (congrArg some (by kernel_rfl))
 f316:=Tryz.func228.trans (congrArg some (by kernel_rfl))
 f317:=Tryz.func207.trans (congrArg some (by kernel_rfl))
 f318:=Tryz.func209.trans (congrArg some (by kernel_rfl))
 f319:=Tryz.func210.trans (congrArg some (by kernel_rfl))
 f320:=Tryz.func211.trans (congrArg some (by kernel_rfl))
 f321:=Tryz.func235.trans (congrArg some (by kernel_rfl))
 f322:=Tryz.func236.trans (congrArg some (by kernel_rfl))
 f337:=Tryz.func225.trans (congrArg some (by kernel_rfl))
 f338:=Tryz.func226.trans (congrArg some (by kernel_rfl))
 t0:=Tryz.underlying0
 a0:=Tryz.isAgg0
 z0:=Tryz.sizeOf0
 v0:=Tryz.zeroValue0
 t2:=Tryz.underlying2
 a2:=Tryz.isAgg2
 z2:=Tryz.sizeOf2
 v2:=Tryz.zeroValue2
 t3:=Tryz.underlying3
 a3:=Tryz.isAgg3
 z3:=Tryz.sizeOf3
 v3:=Tryz.zeroValue3
 t4:=Tryz.underlying4
 a4:=Tryz.isAgg4
 z4:=Tryz.sizeOf4
 v4:=Tryz.zeroValue4
 t5:=Tryz.underlying5
 a5:=Tryz.isAgg5
 z5:=Tryz.sizeOf5
 v5:=Tryz.zeroValue5
 t9:=Tryz.underlying9
 a9:=Tryz.isAgg9
 z9:=Tryz.sizeOf9
 v9:=Tryz.zeroValue9
 t20:=Tryz.underlying20
 a20:=Tryz.isAgg20
 z20:=Tryz.sizeOf20
 v20:=Tryz.zeroValue20
 t21:=Tryz.underlying21
 a21:=Tryz.isAgg21
 z21:=Tryz.sizeOf21
 v21:=Tryz.zeroValue21
 t37:=Tryz.underlying112
 a37:=Tryz.isAgg112
 z37:=Tryz.sizeOf112
 v37:=Tryz.zeroValue112
 t46:=Tryz.underlying202
 a46:=Tryz.isAgg202
 z46:=Tryz.sizeOf202
 v46:=Tryz.zeroValue202
 t51:=Tryz.underlying262
 a51:=Tryz.isAgg262
 z51:=Tryz.sizeOf262
 v51:=Tryz.zeroValue262
 t53:=Tryz.underlying167
 a53:=Tryz.isAgg167
 z53:=Tryz.sizeOf167
 v53:=Tryz.zeroValue167
 t75:=Tryz.underlying116
 a75:=Tryz.isAgg116
 z75:=Tryz.sizeOf116
 v75:=Tryz.zeroValue116
 t76:=Tryz.underlying117
 a76:=Tryz.isAgg117
 z76:=Tryz.sizeOf117
 v76:=Tryz.zeroValue117
 t85:=Tryz.underlying266
 a85:=Tryz.isAgg266
 z85:=Tryz.sizeOf266
 v85:=Tryz.zeroValue266
 t127:=Tryz.underlying179
 a127:=Tryz.isAgg179
 z127:=Tryz.sizeOf179
 v127:=Tryz.zeroValue179
 t143:=Tryz.underlying288
 a143:=Tryz.isAgg288
 z143:=Tryz.sizeOf288
 v143:=Tryz.zeroValue288
 t145:=Tryz.underlying290
 a145:=Tryz.isAgg290
 z145:=Tryz.sizeOf290
 v145:=Tryz.zeroValue290
 t167:=Tryz.underlying265
 a167:=Tryz.isAgg265
 z167:=Tryz.sizeOf265
 v167:=Tryz.zeroValue265
 t168:=Tryz.underlying268
 a168:=Tryz.isAgg268
 z168:=Tryz.sizeOf268
 v168:=Tryz.zeroValue268
 t171:=Tryz.underlying248
 a171:=Tryz.isAgg248
 z171:=Tryz.sizeOf248
 v171:=Tryz.zeroValue248
 t173:=Tryz.underlying251
 a173:=Tryz.isAgg251
 z173:=Tryz.sizeOf251
 v173:=Tryz.zeroValue251
 t175:=Tryz.underlying275
 a175:=Tryz.isAgg275
 z175:=Tryz.sizeOf275
 v175:=Tryz.zeroValue275
 t210:=Tryz.underlying279
 a210:=Tryz.isAgg279
 z210:=Tryz.sizeOf279
 v210:=Tryz.zeroValue279
 t212:=Tryz.underlying261
 a212:=Tryz.isAgg261
 z212:=Tryz.sizeOf261
 v212:=Tryz.zeroValue261
 t213:=Tryz.underlying263
 a213:=Tryz.isAgg263
 z213:=Tryz.sizeOf263
 t232:=Tryz.underlying285
 a232:=Tryz.isAgg285
 z232:=Tryz.sizeOf285
 v232:=Tryz.zeroValue285
 t233:=Tryz.underlying286
 a233:=Tryz.isAgg286
 z233:=Tryz.sizeOf286
 v233:=Tryz.zeroValue286
 g15:=by kernel_rfl
 g16:=by kernel_rfl
 g17:=by kernel_rfl
 g18:=by kernel_rfl
 g19:=by kernel_rfl }
open Go.RowKit in
theorem Tryz.strconv_Atoi(s:ByteArray)(n:Int)(hl:s.size≤18)(h:Lib.atoi s.data.toList=some n)(w:World) :
 Calls Tryz.prog 184 #[.string s] w λe w'=>e = .returned (.tuple #[.int .i64 n,.nilIface])∧∃t,w'=Lib.bytesWorld w 5 t:=Any.strconv_Atoi Tryz.lays172 s n hl h w
def Tryz.laysM171_ren:Go.Shelf.Ren:=⟨λ|171=>44|243=>103|246=>157|283=>191|284=>192|285=>193|286=>194|129=>208|317=>207|318=>209|319=>210|320=>211|337=>225|338=>226|n=>n,λ|3=>3|9=>9|2=>2|4=>4|171=>248|0=>0|53=>167|37=>112|5=>5|173=>251|212=>261|51=>262|20=>20|213=>263|46=>202|232=>285|233=>286|n=>n,λ|17=>1|18=>4|19=>5|n=>n⟩
theorem Tryz.laysM171:Go.Proofs.LaysM.n171 Tryz.prog Tryz.laysM171_ren:={
 mixed:=by kernel_rfl
 f129:=Tryz.func208.trans (congrArg some (by kernel_rfl))
 f171:=Tryz.func44.trans (congrArg some (by kernel_rfl))
 f243:=Tryz.func103.trans (congrArg some (by kernel_rfl))
 f246:=Tryz.func157.trans (congrArg some (by kernel_rfl))
 f283:=Tryz.func191.trans (congrArg some (by kernel_rfl))
 f284:=Tryz.func192.trans (congrArg some (by kernel_rfl))
 f285:=Tryz.func193.trans (congrArg some (by kernel_rfl))
 f286:=Tryz.func194.trans (congrArg some (by kernel_rfl))
 f317:=Tryz.func207.trans (congrArg some (by kernel_rfl))
 f318:=Tryz.func209.trans (congrArg some (by kernel_rfl))
 f319:=Tryz.func210.trans (congrArg some (by kernel_rfl))
 f320:=Tryz.func211.trans (congrArg some (by kernel_rfl))
 f337:=Tryz.func225.trans (congrArg some (by kernel_rfl))
 f338:=Tryz.func226.trans (congrArg some (by kernel_rfl))
 t0:=Tryz.underlying0
 a0:=Tryz.isAgg0
 z0:=Tryz.sizeOf0
 v0:=Tryz.zeroValue0
 t2:=Tryz.underlying2
 a2:=Tryz.isAgg2
 z2:=Tryz.sizeOf2
 v2:=Tryz.zeroValue2
 t3:=Tryz.underlying3
 a3:=Tryz.isAgg3
 z3:=Tryz.sizeOf3
 v3:=Tryz.zeroValue3
 t4:=Tryz.underlying4
 a4:=Tryz.isAgg4
 z4:=Tryz.sizeOf4
 v4:=Tryz.zeroValue4
 t5:=Tryz.underlying5
 a5:=Tryz.isAgg5
 z5:=Tryz.sizeOf5
 v5:=Tryz.zeroValue5
 t9:=Tryz.underlying9
 a9:=Tryz.isAgg9
 z9:=Tryz.sizeOf9
 v9:=Tryz.zeroValue9
 t20:=Tryz.underlying20
 a20:=Tryz.isAgg20
 z20:=Tryz.sizeOf20
 v20:=Tryz.zeroValue20
 t37:=Tryz.underlying112
 a37:=Tryz.isAgg112
 z37:=Tryz.sizeOf112
 v37:=Tryz.zeroValue112
 t46:=Tryz.underlying202
 a46:=Tryz.isAgg202
 z46:=Tryz.sizeOf202
 v46:=Tryz.zeroValue202
 t51:=Tryz.underlying262
 a51:=Tryz.isAgg262
 z51:=Tryz.sizeOf262
 v51:=Tryz.zeroValue262
 t53:=Tryz.underlying167
 a53:=Tryz.isAgg167
 z53:=Tryz.sizeOf167
 v53:=Tryz.zeroValue167
 t171:=Tryz.underlying248
 a171:=Tryz.isAgg248
 z171:=Tryz.sizeOf248
 v171:=Tryz.zeroValue248
 t173:=Tryz.underlying251
 a173:=Tryz.isAgg251
 z173:=Tryz.sizeOf251
 v173:=Tryz.zeroValue251
 t212:=Tryz.underlying261
 a212:=Tryz.isAgg261
 z212:=Tryz.sizeOf261
 v212:=Tryz.zeroValue261
 t213:=Tryz.underlying263
 a213:=Tryz.isAgg263
 z213:=Tryz.sizeOf263
 t232:=Tryz.underlying285
 a232:=Tryz.isAgg285
 z232:=Tryz.sizeOf285
 v232:=Tryz.zeroValue285
 t233:=Tryz.underlying286
 a233:=Tryz.isAgg286
 z233:=Tryz.sizeOf286
 v233:=Tryz.zeroValue286
 g17:=by kernel_rfl
 g18:=by kernel_rfl
 g19:=by kernel_rfl
 i0:=by kernel_rfl
 i2:=by kernel_rfl
 i3:=by kernel_rfl
 i4:=by kernel_rfl
 i5:=by kernel_rfl
 i9:=by kernel_rfl
 i20:=by kernel_rfl
 i37:=by kernel_rfl
 i46:=by kernel_rfl
 i51:=by kernel_rfl
 i53:=by kernel_rfl
 i171:=by kernel_rfl
 i173:=by kernel_rfl
 i212:=by kernel_rfl
 i232:=by kernel_rfl
 i233:=by kernel_rfl
 m17:=by kernel_rfl
 m18:=by kernel_rfl
 m19:=by kernel_rfl }
open Go.RowKit Go.Sort Go.Lib in
theorem Tryz.strconv_Itoa (n:Int) (h0: -9223372036854775808≤n) (h1:n≤9223372036854775807) (w:World) (htab:Lib.TabIs Tryz.prog w "internal/strconv.uint64pow10" .u64 Lib.pow10Tab) :
 Calls Tryz.prog 44 #[.int .i64 n] w λe w'=>e = .returned (.string ⟨(Lib.itoa n).toArray⟩)∧∃k os,w'=grow (w.drewN k) os:=Any.strconv_Itoa Tryz.laysM171 n h0 h1 w htab
def Tryz.lays145_ren:Go.Shelf.Ren:=⟨λ|145=>152|220=>187|219=>204|217=>217|225=>218|224=>219|267=>220|266=>230|314=>231|n=>n,λ|9=>9|4=>4|59=>209|3=>3|5=>5|46=>202|146=>281|51=>262|n=>n,λ|1=>0|n=>n⟩
theorem Tryz.lays145:Go.Proofs.Lays.n145 Tryz.prog Tryz.lays145_ren:={
 mixed:=by kernel_rfl
 f145:=Tryz.func152.trans (congrArg some (by kernel_rfl))
 f217:=Tryz.func217.trans (congrArg some (by kernel_rfl))
 f219:=Tryz.func204.trans (congrArg some (by kernel_rfl))
 f220:=Tryz.func187.trans (congrArg some (by kernel_rfl))
 f224:=Tryz.func219.trans (congrArg some (by kernel_rfl))
 f225:=Tryz.func218.trans (congrArg some (by kernel_rfl))
 f266:=Tryz.func230.trans (congrArg some (by kernel_rfl))
 f267:=Tryz.func220.trans (congrArg some (by kernel_rfl))
 f314:=Tryz.func231.trans (congrArg some (by kernel_rfl))
 t3:=Tryz.underlying3
 a3:=Tryz.isAgg3
 z3:=Tryz.sizeOf3
 v3:=Tryz.zeroValue3
 t4:=Tryz.underlying4
 a4:=Tryz.isAgg4
 z4:=Tryz.sizeOf4
 v4:=Tryz.zeroValue4
 t5:=Tryz.underlying5
 a5:=Tryz.isAgg5
 z5:=Tryz.sizeOf5
 v5:=Tryz.zeroValue5
 t9:=Tryz.underlying9
 a9:=Tryz.isAgg9
 z9:=Tryz.sizeOf9
 v9:=Tryz.zeroValue9
 t46:=Tryz.underlying202
 a46:=Tryz.isAgg202
 z46:=Tryz.sizeOf202
 v46:=Tryz.zeroValue202
 t51:=Tryz.underlying262
 a51:=Tryz.isAgg262
 z51:=Tryz.sizeOf262
 v51:=Tryz.zeroValue262
 t59:=Tryz.underlying209
 a59:=Tryz.isAgg209
 z59:=Tryz.sizeOf209
 v59:=Tryz.zeroValue209
 t146:=Tryz.underlying281
 a146:=Tryz.isAgg281
 z146:=Tryz.sizeOf281
 v146:=Tryz.zeroValue281
 g1:=by kernel_rfl }
open Go.RowKit Go.Lib in
theorem Tryz.strings_Cut(s sep:ByteArray)(m:Int)(w:World)(hs:s.size<4294967281)(hm:w.cell? ⟨0,0,none⟩=some (.int .i64 m)) :
 Calls Tryz.prog 152 #[.string s,.string sep] w λe w'=>e = .returned (.tuple #[.string ⟨(Lib.cut s.data.toList sep.data.toList).1.toArray⟩,.string ⟨(Lib.cut s.data.toList sep.data.toList).2.1.toArray⟩,.bool (Lib.cut s.data.toList sep.data.toList).2.2])∧∃n,w'=w.drewN n:=Any.strings_Cut Tryz.lays145 s sep m w hs hm
def Tryz.lays146_ren:Go.Shelf.Ren:=⟨λ|146=>189|221=>206|268=>222|138=>223|143=>224|195=>232|197=>233|218=>234|219=>204|260=>237|217=>217|225=>218|224=>219|267=>220|266=>230|314=>231|n=>n,λ|9=>9|31=>25|3=>3|4=>4|0=>0|105=>283|21=>21|5=>5|46=>202|119=>291|139=>294|138=>293|146=>281|51=>262|n=>n,λ|1=>0|3=>6|4=>7|n=>n⟩
theorem Tryz.lays146:Go.Proofs.Lays.n146 Tryz.prog Tryz.lays146_ren:={
 mixed:=by kernel_rfl
 f138:=Tryz.func223.trans (congrArg some (by kernel_rfl))
 f143:=Tryz.func224.trans (congrArg some (by kernel_rfl))
 f146:=Tryz.func189.trans (congrArg some (by kernel_rfl))
 f195:=Tryz.func232.trans (congrArg some (by kernel_rfl))
 f197:=Tryz.func233.trans (congrArg some (by kernel_rfl))
 f217:=Tryz.func217.trans (congrArg some (by kernel_rfl))
 f218:=Tryz.func234.trans (congrArg some (by kernel_rfl))
 f219:=Tryz.func204.trans (congrArg some (by kernel_rfl))
 f221:=Tryz.func206.trans (congrArg some (by kernel_rfl))
 f224:=Tryz.func219.trans (congrArg some (by kernel_rfl))
 f225:=Tryz.func218.trans (congrArg some (by kernel_rfl))
 f260:=Tryz.func237.trans (congrArg some (by kernel_rfl))
 f266:=Tryz.func230.trans (congrArg some (by kernel_rfl))
 f267:=Tryz.func220.trans (congrArg some (by kernel_rfl))
 f268:=Tryz.func222.trans (congrArg some (by kernel_rfl))
 f314:=Tryz.func231.trans (congrArg some (by kernel_rfl))
 t0:=Tryz.underlying0
 a0:=Tryz.isAgg0
 z0:=Tryz.sizeOf0
 v0:=Tryz.zeroValue0
 t3:=Tryz.underlying3
 a3:=Tryz.isAgg3
 z3:=Tryz.sizeOf3
 v3:=Tryz.zeroValue3
 t4:=Tryz.underlying4
 a4:=Tryz.isAgg4
 z4:=Tryz.sizeOf4
 v4:=Tryz.zeroValue4
 t5:=Tryz.underlying5
 a5:=Tryz.isAgg5
 z5:=Tryz.sizeOf5
 v5:=Tryz.zeroValue5
 t9:=Tryz.underlying9
 a9:=Tryz.isAgg9
 z9:=Tryz.sizeOf9
 v9:=Tryz.zeroValue9
 t21:=Tryz.underlying21
 a21:=Tryz.isAgg21
 z21:=Tryz.sizeOf21
 v21:=Tryz.zeroValue21
 t31:=Tryz.underlying25
 a31:=Tryz.isAgg25
 z31:=Tryz.sizeOf25
 v31:=Tryz.zeroValue25
 t46:=Tryz.underlying202
 a46:=Tryz.isAgg202
 z46:=Tryz.sizeOf202
 v46:=Tryz.zeroValue202
 t51:=Tryz.underlying262
 a51:=Tryz.isAgg262
 z51:=Tryz.sizeOf262
 v51:=Tryz.zeroValue262
 t105:=Tryz.underlying283
 a105:=Tryz.isAgg283
 z105:=Tryz.sizeOf283
 v105:=Tryz.zeroValue283
 t119:=Tryz.underlying291
 a119:=Tryz.isAgg291
 z119:=Tryz.sizeOf291
 t138:=Tryz.underlying293
 a138:=Tryz.isAgg293
 z138:=Tryz.sizeOf293
 v138:=Tryz.zeroValue293
 t139:=Tryz.underlying294
 a139:=Tryz.isAgg294
 z139:=Tryz.sizeOf294
 v139:=Tryz.zeroValue294
 t146:=Tryz.underlying281
 a146:=Tryz.isAgg281
 z146:=Tryz.sizeOf281
 v146:=Tryz.zeroValue281
 g1:=by kernel_rfl
 g3:=by kernel_rfl
 g4:=by kernel_rfl }
open Go.RowKit Go.Lib in
theorem Tryz.strings_Split(s sep:ByteArray)(m:Int)(w:World)(hs:s.size<4294967281)(hm:w.cell? ⟨0,0,none⟩=some (.int .i64 m))(h1:1≤sep.size) :
 Calls Tryz.prog 189 #[.string s,.string sep] w λe w'=>
  e = .returned (.slice (some ⟨w.heap.size,0,none⟩) (Lib.countB s sep+1) (Lib.countB s sep+1))∧w'=w.alloc (.cells ((Lib.splitB sep 0 (Lib.countB s sep) s).map Value.string).toArray 9):=Any.strings_Split Tryz.lays146 (by kernel_rfl) s sep m w hs hm h1
end
end Go.Proofs
namespace Go.Proofs.YtmccnilgnlaffaaGreatDoor
section
open Go.Ex Go.RowKit
set_option maxRecDepth 1000000
def tb(m:Int):List (Nat×List Value):=[(0,[.int .i64 m]),(1,Lib.pow10Tab.map λz=>Value.int .u64 z)]
theorem tb_ok(m:Int):∀p∈tb m,p.1<8∧p.2.all xU=true:=by
 intro p hp;simp only[tb,aA,bj,or_false]at hp;rcases hp with rfl|rfl
 · exact⟨(by decide:(0:Nat)<8),rfl⟩
 · exact⟨(by decide:(1:Nat)<8),by simp[Lib.pow10Tab,xU]⟩
theorem tb_max{m:Int}{wd:World}(h:rT wd (tb m)):wd.cell? ⟨0,0,none⟩=some (.int .i64 m):=by
 obtain⟨el,fr,e⟩:=h (0,[.int .i64 m]) (by simp[tb]);unfold World.cell?;dsimp only at e ⊢;rw [e];rfl
theorem tb_pow{m:Int}{wd:World}(h:rT wd (tb m)):Lib.TabIs P wd "internal/strconv.uint64pow10" .u64 Lib.pow10Tab:=by
 obtain⟨el,fr,e⟩:=h (1,Lib.pow10Tab.map λz=>Value.int .u64 z) (by simp[tb]);unfold Lib.TabIs World.var?;rw [show P.globalNamed "internal/strconv.uint64pow10" = some 1 by kernel_rfl];simp only[Option.bind_some];dsimp only at e;rw [e]
theorem h_cut:hasB P 152=true:=by kernel_rfl
theorem h_cutPrefix:hasB P 188=true:=by kernel_rfl
theorem h_split:hasB P 189=true:=by kernel_rfl
theorem h_join:hasB P 43=true:=by kernel_rfl
theorem h_itoa:hasB P 44=true:=by kernel_rfl
theorem h_check:hasB P 101=true:=by kernel_rfl
theorem h_string:hasB P 46=true:=by kernel_rfl
theorem cut_pure{m:Int}{h:zB}(n:Nat)(ht:TabsH (tb m) h)(s:List UInt8)(c:UInt8)(hs:s.length<1000000) :
 Pure P 8 152 [str s,str [c]] h n (.tuple #[str (cutB c s).1,str (cutB c s).2.1,.bool (cutB c s).2.2]):=by
 refine tQ h_cut rfl rfl ht (tb_ok m) λwd hw=>?_;refine(Tryz.strings_Cut ⟨⟨s⟩⟩ ⟨#[c]⟩ m wd ?_ (tb_max hw)).mono λe w' ⟨he,k,gB⟩=>?_
 · show s.length<_;omega
 · subst gB;refine⟨?_,Go.below_drewN (Below.refl _ _) k⟩;rw [he];show Ending.returned (.tuple #[.string ⟨(Lib.cut s [c]).1.toArray⟩,.string ⟨(Lib.cut s [c]).2.1.toArray⟩,.bool (Lib.cut s [c]).2.2])=_;rw [cut_one]
theorem cutPrefix_pure{h:zB}(n:Nat)(s p:List UInt8) :
 Pure P 8 188 [str s,str p] h n (.tuple #[str (Lib.trimPrefix s p),.bool (Lib.hasPrefix s p)]):=by
 refine tQ (tabs:=[]) h_cutPrefix rfl rfl (λ_ h=>by cases h) (λ_ h=>by cases h) λwd hw=>?_;refine(Tryz.strings_CutPrefix ⟨⟨s⟩⟩ ⟨⟨p⟩⟩ wd).mono λe w' ⟨he,gB⟩=>?_;subst gB;exact⟨he,Below.refl _ _⟩
theorem split_rets{m:Int}{h:zB}(n:Nat)(ht:TabsH (tb m) h)(s:List UInt8)(c:UInt8)(hs:s.length<1000000) :
 Rets P 8 189 [str s,str [c]] h n λv' h' n'=>v' = .slice (some ⟨n,0,none⟩) (wZ c s).length (wZ c s).length∧h'=h.set .dead (mkC ((wZ c s).map str) 0 0) n∧n'=n+1:=by
 have hl:(wZ c s).length<1000001:=by rw[splitL_length];have:=List.count_le_length (a:=c) (l:=s);omega
 refine row_of_calls h_split rfl ?_ (ae _) ?_ ht (tb_ok m) (el:=9) λwd hw=>?_
 · simp[xU]
 · unfold inf;omega
 · refine(Tryz.strings_Split ⟨⟨s⟩⟩ ⟨#[c]⟩ m wd ?_ (tb_max hw) (ae 1)).mono λe w' ⟨he,gB⟩=>?_
   · show s.length<_;omega
   · have e1:Lib.countB ⟨⟨s⟩⟩ ⟨#[c]⟩+1=(wZ c s).length:=by rw[count_one,splitL_length]
     have e2:(Lib.splitB ⟨#[c]⟩ 0 (Lib.countB ⟨⟨s⟩⟩ ⟨#[c]⟩) ⟨⟨s⟩⟩).map Value.string=(wZ c s).map str:=by
      have:=split_one c ⟨⟨s⟩⟩;rw [← this,cE];apply List.map_congr_left;intro x _;rfl
     rw[e1]at he;refine⟨he,?_⟩;rw [gB,e2]
theorem join_pure{h:zB}{n:Nat}{sv:Value}{el:Nat}(ls:List (List UInt8))(sep:List UInt8)(r:Row n h sv el 1 ls.length (ls.map str))(hn:ls.length<1000000)(hl:(Lib.join ls sep).length<1000000) :
 Pure P 8 43 [sv,str sep] h n (str (Lib.join ls sep)):=by
 refine pure_of_calls_row (tabs:=[]) h_join r (by simp[xU]) rfl rfl (λ_ h=>by cases h) (λ_ h=>by cases h) λwd sv' _ hsv=>?_;rcases hsv with⟨h0,a,c,rfl⟩|⟨bk,o,c,rfl,hc,hb,hcells⟩
 · have:ls=[]:=aH.1 h0;subst this;refine(Tryz.strings_Join_none a c ⟨⟨sep⟩⟩ wd).mono λe w' ⟨he,gB⟩=>?_;subst gB;exact⟨he,Below.refl _ _⟩
 · have e1:(ls.map λl=>(⟨⟨l⟩⟩:ByteArray)).length=ls.length:=aE ..;have e2:(ls.map λl=>(⟨⟨l⟩⟩:ByteArray)).map (·.data.toList)=ls:=by rw[cE];exact List.map_id' _
   have:=Tryz.strings_Join bk o c (ls.map λl=>(⟨⟨l⟩⟩:ByteArray)) ⟨⟨sep⟩⟩ wd (λj x hj=>hcells j (.string x) (by
    rw[ap]at hj ⊢
    cases e:ls[j]? with
    | none=>rw [e]at hj;cases hj
    | some l=>rw [e]at hj;injection hj with hj;subst hj;rfl)) hb (by rw[e1];omega) (by rw[e1];exact hc) (by rw[e2];show(Lib.join ls sep).length≤_;omega)
   rw[e1,e2]at this;exact this.mono λ_ _ ⟨he,gB⟩=>⟨he,gB⟩
theorem itoa_pure{m:Int}{h:zB}(n:Nat)(ht:TabsH (tb m) h)(a:Int)(h0: -9223372036854775808≤a)(h1:a≤9223372036854775807) :
 Pure P 8 44 [.int .i64 a] h n (str (Lib.itoa a)):=by
 refine tQ h_itoa rfl rfl ht (tb_ok m) λwd hw=>?_;refine(Tryz.strconv_Itoa a h0 h1 wd (tb_pow hw)).mono λe w' ⟨he,k,os,gB⟩=>?_;subst gB;exact⟨he,Lib.below_grow _ _ (ae _) k os⟩
theorem h_atoi:hasB P 184=true:=by kernel_rfl
theorem atoi_pure{h:zB}(n:Nat)(s:List UInt8)(v:Int)(hs:s.length≤18)(hv:Lib.atoi s=some v) :
 Pure P 8 184 [str s] h n (.tuple #[.int .i64 v,.nilIface]):=by
 refine tQ (tabs:=[]) h_atoi rfl rfl (λ_ h=>by cases h) (λ_ h=>by cases h) λwd hw=>?_;refine(Tryz.strconv_Atoi ⟨⟨s⟩⟩ v hs hv wd).mono λe w' ⟨he,t,gB⟩=>?_;subst gB;exact⟨he,Lib.bytesWorld_below _ _ _⟩
theorem check_fresh{b n:Nat}{h:zB}{sv:Value}(hB:Bld 114 h b (.pointer none) sv) :
 Rets P 8 101 [.pointer (some ⟨b,0,none⟩)] h n λv h' n'=>v = .tuple #[]∧h'=h.set .dead (stC (zF h b) 0 [.pointer (some ⟨b,0,none⟩)]) b∧n'=n:=
 copyCheck_fresh h_check hB λwd c h1 h2 h3=>Any.Builder_copyCheck_fresh { Tryz.lays156 with } { Tryz.Builder_Extra_156 with } c wd h1 h2 h3
theorem check_used{b n:Nat}{h:zB}{sv:Value}(hB:Bld 114 h b (.pointer (some ⟨b,0,none⟩)) sv) :
 Rets P 8 101 [.pointer (some ⟨b,0,none⟩)] h n λv h' n'=>v = .tuple #[]∧h'=h∧n'=n:=
 copyCheck_used h_check hB λwd c h1=>Any.Builder_copyCheck_used { Tryz.lays156 with } { Tryz.Builder_Extra_156 with } c wd h1
theorem string_rets{b lo n:Nat}{h:zB}{p sv:Value}{l:List UInt8}(hB:Bld 114 h b p sv)(ho:Own lo n h sv 5 1 l.length (bytesV l))(eh:zP sv≠some b)(ej:l.length<1000000) :
 Rets P 8 46 [.pointer (some ⟨b,0,none⟩)] h n λv h' n'=>v=str l∧n'=n∧(∀b',zP sv≠some b'→zF h' b'=zF h b'):=
 builder_String h_string hB ho eh ej
  (λwd c x hx=>(Any.Builder_String_nil Tryz.lays169 Tryz.Builder_Extra_169 wd.heap.size c x wd hx).mono λ_ _ ⟨he,hb⟩=>⟨he,hb⟩)
  (λwd c g cap x cur h0 h1 h2 h3 h4 h5=>(string_model Tryz.lays169 Tryz.Builder_Extra_169 c g cap x cur l wd h0 ej h1 h2 h3 h4 h5).mono λ_ _ ⟨he,hb⟩=>⟨he,hb⟩)
end
section
open Go.Ex Go.RowKit
set_option maxRecDepth 1000000
theorem does_pure{f:FuncId}{args:List Value}{h:zB}{n:Nat}{v:Value}(r:Pure P 8 f args h n v)(u:Option zI):CallTo P 8 f args false u h n (.ret v) u h n:=by
 obtain⟨v',h',n',⟨rfl,rfl,rfl⟩,hc⟩:=r.does u;exact hc
def Fine(f:FuncId)(args:List Value)(h:zB)(n:Nat)(o:Option Rsl):Prop:=∀r,o=some r→∀u,CallTo P 8 f args false u h n (.ret r.v) u r.h r.n
theorem Fine.none{f:FuncId}{args:List Value}{h:zB}{n:Nat}:Fine f args h n none:=λ_ e=>by cases e
theorem Fine.pure{f:FuncId}{args:List Value}{h:zB}{n:Nat}{v:Value}(r:Pure P 8 f args h n v):Fine f args h n (some ⟨v,h,n⟩):=λr' e u=>by
 injection e with e;subst e;exact does_pure r u
theorem Fine.cond{f:FuncId}{args:List Value}{h:zB}{n:Nat}{b:Bool}{o:Option Rsl}(ho:b=true→Fine f args h n o):Fine f args h n (_root_.cond b o Option.none):=by
 cases b with
 | true=>exact ho rfl
 | false=>exact Fine.none
def pow:List Value:=Lib.pow10Tab.map λz=>Value.int .u64 z
def powL:List Value:=[.int .u64 1,.int .u64 10,.int .u64 100,.int .u64 1000,.int .u64 10000,.int .u64 100000,.int .u64 1000000,.int .u64 10000000,.int .u64 100000000,.int .u64 1000000000,.int .u64 10000000000,.int .u64 100000000000,.int .u64 1000000000000,.int .u64 10000000000000,.int .u64 100000000000000,.int .u64 1000000000000000,.int .u64 10000000000000000,.int .u64 100000000000000000,.int .u64 1000000000000000000,.int .u64 10000000000000000000]
theorem powL_eq:powL=pow:=by kernel_rfl
noncomputable def maxOf(o:AObj)(K:Int→Option Rsl):Option Rsl:=
 onCells o (λc n _ kd=>Bool.rec none (onInt (Tr.get undef c 0) (λk m=>Bool.rec none (K m) (xZ k .i64)) none) (Nat.beq kd 2 && Nat.beq n 1)) none
noncomputable def withT(h:zB)(K:Option Rsl):Option Rsl:=maxOf (zF h 0) λ_=>Bool.rec none K (tabB powL (zF h 1))
theorem tabB_H{vs:List Value}{o:AObj}(h:tabB vs o=true):(∃z,yZ o=some (vs.length,z,2))∧∀i,xR o i=vs[i]? :=by
 unfold tabB at h;split at h
 · rename_i c n z kd;obtain⟨h1,h2⟩:=ad.1 h;obtain⟨h2,h3⟩:=ad.1 h2;obtain rfl:=zE h1;obtain rfl:=zE h2;refine⟨⟨z,rfl⟩,λi=>?_⟩;unfold xR;dsimp only;by_cases hi:i<vs.length
   · rw[if_pos hi,aa hi];have:=cellsB_at h3 (aa hi);rw [aG]at this;rw [this]
   · rw[if_neg hi,an (by omega)]
 · cases h
theorem withT_of{h:zB}{K:Option Rsl}{r:Rsl}(e:withT h K=some r):K=some r∧∃m,TabsH (tb m) h:=by
 unfold withT maxOf at e;cases ho:zF h 0 <;> rw[ho]at e <;> first|(cases e;done)|skip
 rename_i c n z kd;have e':(Bool.rec none (onInt (Tr.get undef c 0) (λk m=>Bool.rec none (Bool.rec none K (tabB powL (zF h 1))) (xZ k .i64)) none) (Nat.beq kd 2 && Nat.beq n 1):Option Rsl)=some r:=e
 cases h1:(Nat.beq kd 2 && Nat.beq n 1) with
 | false=>rw [h1]at e';cases e'
 | true=>
  rw[h1]at e';obtain⟨a1,a2⟩:=ad.1 h1;obtain rfl:=zE a1;obtain rfl:=zE a2;rcases rM e' with⟨k,m,hv,e2⟩|e2
  · cases hk:xZ k .i64 with
    | false=>rw [hk]at e2;cases e2
    | true =>
     rw[hk]at e2;obtain rfl:=vZ hk
     cases h3:tabB powL (zF h 1) with
     | false=>rw [h3]at e2;cases e2
     | true=>
      rw[h3]at e2;refine⟨e2,m,λp hp=>?_⟩;simp only[tb,aA,bj,or_false]at hp;rcases hp with rfl|rfl
      · dsimp only;rw [ho];refine⟨⟨z,rfl⟩,λi=>?_⟩;unfold zC;rw [ho];unfold xR;dsimp only
        cases i with
        | zero=>rw [if_pos (by omega),hv];rfl
        | succ i=>rw [if_neg (by omega)];simp
      · rw[powL_eq]at h3;exact tabB_H h3
  · cases e2
theorem fine_withT{f:FuncId}{args:List Value}{h:zB}{n:Nat}{K:Option Rsl}(hk:∀m,TabsH (tb m) h→Fine f args h n K):Fine f args h n (withT h K):=λr e u=>by
 obtain⟨e1,m,hm⟩:=withT_of e;exact hk m hm r e1 u
noncomputable def cutK(c:Nat)(s:List UInt8)(K:List UInt8→List UInt8→Bool→Option Rsl):Option Rsl:=
 List.rec (motive:=λ_=>(List UInt8→List UInt8→Bool→Option Rsl)→Option Rsl) (λK=>K [] [] false)
  (λx r ih K=>Bool.rec (ih λa b f=>K (x::a) b f) (K [] r true) (Nat.beq x.toNat c)) s K
theorem beq_toNat(x c:UInt8):Nat.beq x.toNat c.toNat=decide (x=c):=by
 by_cases h:x=c
 · subst h;simp [aB]
 · rw[decide_eq_false h]
   cases e:Nat.beq x.toNat c.toNat with
   | false=>rfl
   | true=>exact absurd (UInt8.toNat_inj.1 (zE e)) h
theorem cutK_eq(c:UInt8):∀(s:List UInt8) (K:List UInt8→List UInt8→Bool→Option Rsl),cutK c.toNat s K=K (cutB c s).1 (cutB c s).2.1 (cutB c s).2.2:=by
 intro s
 induction s with
 | nil=>intro K;rfl
 | cons x r ih=>
  intro K;show(Bool.rec (cutK c.toNat r λa b f=>K (x::a) b f) (K [] r true) (Nat.beq x.toNat c.toNat):Option Rsl)=_;rw [beq_toNat];unfold cutB;by_cases h:x=c
  · rw[decide_eq_true h,if_pos h]
  · rw[decide_eq_false h,if_neg h];exact ih _
noncomputable def fits(s:List UInt8):Bool:=Nat.blt s.length 1000000
theorem fits_lt{s:List UInt8}(h:fits s=true):s.length<1000000:=zU h
noncomputable def cutH(args:List Value)(h:zB)(n:Nat):Option Rsl:=match args with
 | [.string ⟨⟨s⟩⟩,.string ⟨⟨[c]⟩⟩]=>cond (fits s) (withT h (cutK c.toNat s λa b f=>some ⟨.tuple #[str a,str b,.bool f],h,n⟩)) none
 | _=>none
theorem cutH_ok(args:List Value)(h:zB)(n:Nat):Fine 152 args h n (cutH args h n):=by
 unfold cutH;split
 · rename_i s c;refine Fine.cond λhs=>fine_withT λm hm=>?_;rw [cutK_eq];exact Fine.pure (cut_pure n hm s c (fits_lt hs))
 · exact Fine.none
noncomputable def prefK(p s:List UInt8)(K:List UInt8→Option Rsl)(d:Option Rsl):Option Rsl:=
 List.rec (motive:=λ_=>List UInt8→Option Rsl) (λs=>K s) (λx _ ih s=>List.rec d (λy r _=>Bool.rec d (ih r) (Nat.beq x.toNat y.toNat)) s) p s
theorem prefK_eq(K:List UInt8→Option Rsl)(d:Option Rsl):∀(p s:List UInt8),prefK p s K d=if p.isPrefixOf s then K (s.drop p.length) else d:=by
 intro p
 induction p with
 | nil=>intro s;simp [prefK]
 | cons x p ih =>
  intro s
  cases s with
  | nil=>rfl
  | cons y r=>
   show(Bool.rec d (prefK p r K d) (Nat.beq x.toNat y.toNat):Option Rsl)=_;rw [beq_toNat,ih];by_cases h:x=y
   · subst h;simp [List.isPrefixOf]
   · have:(x == y)=false:=by simpa using h
     rw[decide_eq_false h];simp [List.isPrefixOf,this]
noncomputable def cutPrefixH(args:List Value)(h:zB)(n:Nat):Option Rsl:=match args with
 | [.string ⟨⟨s⟩⟩,.string ⟨⟨p⟩⟩]=>prefK p s (λr=>some ⟨.tuple #[str r,.bool true],h,n⟩) (some ⟨.tuple #[str s,.bool false],h,n⟩)
 | _=>none
theorem cutPrefixH_ok(args:List Value)(h:zB)(n:Nat):Fine 188 args h n (cutPrefixH args h n):=by
 unfold cutPrefixH;split
 · rename_i s p;rw [prefK_eq];have:=Fine.pure (cutPrefix_pure (h:=h) n s p);unfold Lib.trimPrefix Lib.hasPrefix at this;by_cases hp:p.isPrefixOf s=true
   · rw[if_pos hp];rw [if_pos hp,hp]at this;exact this
   · rw[if_neg hp];rw [if_neg hp,cW.2 hp]at this;exact this
 · exact Fine.none
noncomputable def forceL{R:Type}(l:List UInt8)(K:List UInt8→R):R:=List.rec (motive:=λ_=>(List UInt8→R)→R) (λK=>K []) (λx _ ih K=>ih λr=>K (x::r)) l K
theorem forceL_eq{R:Type}:∀(l:List UInt8) (K:List UInt8→R),forceL l K=K l:=by
 intro l
 induction l with
 | nil=>intro K;rfl
 | cons x r ih=>intro K;exact ih _
noncomputable def splK(c:Nat)(s:List UInt8)(K:List UInt8→List (List UInt8)→Option Rsl):Option Rsl:=
 List.rec (motive:=λ_=>(List UInt8→List (List UInt8)→Option Rsl)→Option Rsl) (λK=>K [] [])
  (λx _ ih K=>Bool.rec (ih λa l=>K (x::a) l) (ih λa l=>K [] (a::l)) (Nat.beq x.toNat c)) s K
theorem splK_eq(c:UInt8):∀(s:List UInt8) (K:List UInt8→List (List UInt8)→Option Rsl),∃a l,wZ c s=a::l∧splK c.toNat s K=K a l:=by
 intro s
 induction s with
 | nil=>intro K;exact⟨[],[],rfl,rfl⟩
 | cons x r ih=>
  intro K;have e:splK c.toNat (x::r) K=(Bool.rec (splK c.toNat r λa l=>K (x::a) l) (splK c.toNat r λa l=>K [] (a::l)) (Nat.beq x.toNat c.toNat):Option Rsl):=rfl;rw [e,beq_toNat];unfold wZ;by_cases h:x=c
  · rw[decide_eq_true h,if_pos h];obtain⟨a,l,e1,e2⟩:=ih λa l=>K [] (a::l);exact⟨[],a::l,by rw[e1],e2⟩
  · rw[decide_eq_false h,if_neg h];obtain⟨a,l,e1,e2⟩:=ih λa l=>K (x::a) l;exact⟨x::a,l,by rw[e1],e2⟩
noncomputable def rowK(ls:List (List UInt8))(i:Nat)(c:Tr Value)(K:Tr Value→Option Rsl):Option Rsl:=
 List.rec (motive:=λ_=>Nat→Tr Value→(Tr Value→Option Rsl)→Option Rsl) (λ_ c K=>K c) (λl _ ih i c K=>c.setK undef (str l) i λc'=>ih (Nat.succ i) c' K) ls i c K
theorem rowK_eq:∀(ls:List (List UInt8)) (i:Nat) (c:Tr Value) (K:Tr Value→Option Rsl),rowK ls i c K=K (Tr.ofListFrom undef c i (ls.map str)):=by
 intro ls
 induction ls with
 | nil=>intro i c K;rfl
 | cons l r ih=>
  intro i c K;show c.setK undef (str l) i (λc'=>rowK r (Nat.succ i) c' K)=_;rw [Tr.setK_eq,ih];rfl
noncomputable def splitH(args:List Value)(h:zB)(n:Nat):Option Rsl:=match args with
 | [.string ⟨⟨s⟩⟩,.string ⟨⟨[c]⟩⟩]=>cond (fits s) (withT h (splK c.toNat s λa l=>rowK (a::l) 0 .lF λt=>
  h.setK .dead (.cells t (a::l).length 0 0) n λh'=>some ⟨.slice (some ⟨n,0,none⟩) (a::l).length (a::l).length,h',Nat.succ n⟩)) none
 | _=>none
theorem splitH_ok(args:List Value)(h:zB)(n:Nat):Fine 189 args h n (splitH args h n):=by
 unfold splitH;split
 · rename_i s c;refine Fine.cond λhs=>fine_withT λm hm=>?_;obtain⟨a,l,e1,e2⟩:=splK_eq c s λa l=>rowK (a::l) 0 .lF λt=>h.setK .dead (.cells t (a::l).length 0 0) n λh'=>some ⟨.slice (some ⟨n,0,none⟩) (a::l).length (a::l).length,h',Nat.succ n⟩;rw [e2,rowK_eq,Tr.setK_eq];intro r er u;injection er with er
   subst er;obtain⟨v,h',n',⟨rfl,rfl,rfl⟩,hc⟩:=(split_rets n hm s c (fits_lt hs)).does u;rw [e1]at hc;have e9:mkC (((a::l):List (List UInt8)).map str) 0 0 = .cells (Tr.ofListFrom undef .lF 0 ((a::l).map str)) (a::l).length 0 0:=by unfold mkC;rw [aE]
   rw[e9]at hc;exact hc
 · exact Fine.none
noncomputable def onStr{R:Type}(v:Value)(f:List UInt8→R)(d:R):R:=match v with
 | .string ⟨⟨s⟩⟩=>f s
 | _=>d
theorem onStr_some{v:Value}{f:List UInt8→Option Rsl}{r:Rsl}(e:onStr v f none=some r):∃s,v=str s∧f s=some r:=by
 unfold onStr at e;split at e
 · exact⟨_,rfl,e⟩
 · cases e
noncomputable def strs(l:List Value)(K:List (List UInt8)→Option Rsl):Option Rsl:=
 List.rec (motive:=λ_=>(List (List UInt8)→Option Rsl)→Option Rsl) (λK=>K []) (λv _ ih K=>onStr v (λs=>ih λr=>K (s::r)) none) l K
theorem strs_of{l:List Value}{K:List (List UInt8)→Option Rsl}{r:Rsl}(e:strs l K=some r):∃ls,l=ls.map str∧K ls=some r:=by
 induction l generalizing K with
 | nil=>exact⟨[],rfl,e⟩
 | cons v l ih=>
  have e':onStr v (λs=>strs l λr=>K (s::r)) none=some r:=e;obtain⟨s,rfl,e2⟩:=onStr_some e';obtain⟨ls,e3,e4⟩:=ih e2;exact⟨s::ls,by rw[e3];rfl,e4⟩
noncomputable def rowS(h:zB)(n:Nat)(v:Value)(K:List Value→Option Rsl):Option Rsl:=match v with
 | .slice none 0 0=>K []
 | .slice (some ⟨b,off,none⟩) len cap=>match zF h b with
  | .cells c kn z kd=>cond (Nat.blt b n && (Nat.ble (Nat.add off len) kn && cond (Nat.beq cap inf) (Nat.beq kd 1 && Nat.beq z (zc 9 1)) (Nat.blt cap inf && Nat.ble len cap))) (K (c.toListFrom undef off len)) none
  | _=>none
 | _=>none
theorem rowS_of{h:zB}{n:Nat}{v:Value}{K:List Value→Option Rsl}{r:Rsl}(e:rowS h n v K=some r):∃vs,Row n h v 9 1 vs.length vs∧K vs=some r:=by
 unfold rowS at e;split at e
 · exact⟨[],.inl ⟨rfl,rfl,rfl⟩,e⟩
 · rename_i b off len cap;split at e
   · rename_i c kn z kd ho
     cases hb:(Nat.blt b n && (Nat.ble (Nat.add off len) kn && cond (Nat.beq cap inf) (Nat.beq kd 1 && Nat.beq z (zc 9 1)) (Nat.blt cap inf && Nat.ble len cap))) with
     | false=>rw [hb]at e;cases e
     | true=>
      rw[hb]at e;have e':K (c.toListFrom undef off len)=some r:=e;obtain⟨b1,b2⟩:=ad.1 hb;obtain⟨b2,b3⟩:=ad.1 b2;have hl:(c.toListFrom undef off len).length=len:=Tr.length_toListFrom ..;have h2:off+len≤kn:=yK b2;refine⟨_,.inr ⟨b,off,cap,kn,z,kd,zU b1,by rw[hl],by rw[aP],by rw[ho];rfl,by rw[hl];exact h2,λj x hj=>?_,?_⟩,e'⟩
      · rw[Tr.getElem?_toListFrom]at hj;split at hj
        · rename_i dV;injection hj with hj
          unfold zC;rw [ho];unfold xR;dsimp only;rw [if_pos (by omega),hj]
        · cases hj
      · rw[hl]
        cases hc:Nat.beq cap inf with
        | true=>
         rw[hc]at b3;obtain⟨c1,c2⟩:=ad.1 b3;exact .inr ⟨zE hc,zE c1,zE c2,ae _⟩
        | false=>
         rw[hc]at b3;obtain⟨c1,c2⟩:=ad.1 b3;exact .inl ⟨zU c1,yK c2⟩
   · cases e
 · cases e
noncomputable def joinH(args:List Value)(h:zB)(n:Nat):Option Rsl:=match args with
 | [v,.string ⟨⟨sep⟩⟩]=>rowS h n v λvs=>strs vs λls=>forceL (Lib.join ls sep) λt=>cond (Nat.blt ls.length 1000000 && fits t) (some ⟨str t,h,n⟩) none
 | _=>none
theorem joinH_ok(args:List Value)(h:zB)(n:Nat):Fine 43 args h n (joinH args h n):=by
 unfold joinH;split
 · rename_i v sep;intro r e u;obtain⟨vs,h1,e1⟩:=rowS_of e;obtain⟨ls,rfl,e2⟩:=strs_of e1;rw [forceL_eq]at e2
   cases hb:(Nat.blt ls.length 1000000 && fits (Lib.join ls sep)) with
   | false=>rw [hb]at e2;cases e2
   | true=>
    rw[hb]at e2;obtain⟨b1,b2⟩:=ad.1 hb;injection e2 with e2
    subst e2;rw [aE]at h1;exact does_pure (join_pure ls sep h1 (zU b1) (fits_lt b2)) u
 · exact Fine.none
noncomputable def decK(f:Nat):Nat→List UInt8→List UInt8:=
 Nat.rec (motive:=λ_=>Nat→List UInt8→List UInt8) (λ_ acc=>acc)
  (λ_ ih n acc=>Bool.rec (ih (Nat.div n 10) (UInt8.ofNat (Nat.add 48 (Nat.mod n 10))::acc)) (UInt8.ofNat (Nat.add 48 n)::acc) (Nat.blt n 10)) f
theorem decK_eq:∀(f n:Nat) (acc:List UInt8),n<10 ^ (f+1)→decK (f+1) n acc=Lib.decDigits n++acc:=by
 intro f
 induction f with
 | zero=>
  intro n acc h;have e:decK 1 n acc=(Bool.rec (decK 0 (Nat.div n 10) (UInt8.ofNat (Nat.add 48 (Nat.mod n 10))::acc)) (UInt8.ofNat (Nat.add 48 n)::acc) (Nat.blt n 10):List UInt8):=rfl;have h2:n<10:=by simpa using h
  rw[e,xE h2];unfold Lib.decDigits;rw [dif_pos h2];rfl
 | succ f ih=>
  intro n acc h;have e:decK (f+1+1) n acc=(Bool.rec (decK (f+1) (Nat.div n 10) (UInt8.ofNat (Nat.add 48 (Nat.mod n 10))::acc)) (UInt8.ofNat (Nat.add 48 n)::acc) (Nat.blt n 10):List UInt8):=rfl;rw [e];unfold Lib.decDigits;by_cases h2:n<10
  · rw[xE h2,dif_pos h2];rfl
  · have h3:Nat.blt n 10=false:=by
     cases e9:Nat.blt n 10 with
     | false=>rfl
     | true=>exact absurd (zU e9) h2
    rw[h3,dif_neg h2];show decK (f+1) (n / 10) (UInt8.ofNat (48+n % 10)::acc)=_;rw [ih (n / 10) _ (by rw[Nat.pow_succ]at h;omega),aN];rfl
noncomputable def itoaH(args:List Value)(h:zB)(n:Nat):Option Rsl:=match args with
 | [.int .i64 a]=>withT h (Int.rec (motive:=λ_=>Option Rsl) (λm=>cond (Nat.blt m 9223372036854775808) (forceL (decK 20 m []) λt=>some ⟨str t,h,n⟩) none)
  (λm=>cond (Nat.blt m 9223372036854775808) (forceL (decK 20 (Nat.succ m) []) λt=>some ⟨str (45::t),h,n⟩) none) a)
 | _=>none
theorem itoaH_ok(args:List Value)(h:zB)(n:Nat):Fine 44 args h n (itoaH args h n):=by
 unfold itoaH;split
 · rename_i a;refine fine_withT λm hm=>?_
   cases a with
   | ofNat k=>
    refine Fine.cond λhk=>?_;have hk:=zU hk;have:=Fine.pure (itoa_pure n hm (.ofNat k) (by show(-9223372036854775808:Int)≤(k:Int);omega) (by show(k:Int)≤_;omega));have e:Lib.itoa (.ofNat k)=Lib.decDigits k:=by unfold Lib.itoa;rw [if_neg (by show ¬((k:Int)<0);omega)];rfl
    rw[e]at this;rw [forceL_eq,decK_eq 19 k [] (by omega),bK];exact this
   | negSucc k=>
    refine Fine.cond λhk=>?_;have hk:=zU hk;have:=Fine.pure (itoa_pure n hm (.negSucc k) (by omega) (by omega));have e:Lib.itoa (.negSucc k)=45::Lib.decDigits (k+1):=by unfold Lib.itoa;rw [if_pos (by omega)];rfl
    rw[e]at this;rw [forceL_eq,decK_eq 19 (Nat.succ k) [] (by omega),bK];exact this
 · exact Fine.none
noncomputable def atoiH(args:List Value)(h:zB)(n:Nat):Option Rsl:=match args with
 | [.string ⟨⟨s⟩⟩]=>cond (Nat.ble s.length 18) (Option.rec (motive:=λ_=>Option Rsl) none (λv=>Int.rec (motive:=λ_=>Option Rsl) (λm=>some ⟨.tuple #[.int .i64 (.ofNat m),.nilIface],h,n⟩) (λm=>some ⟨.tuple #[.int .i64 (.negSucc m),.nilIface],h,n⟩) v) (Lib.atoi s)) none
 | _=>none
theorem atoiH_ok(args:List Value)(h:zB)(n:Nat):Fine 184 args h n (atoiH args h n):=by
 unfold atoiH;split
 · rename_i s;refine Fine.cond λhs=>?_
   cases hv:Lib.atoi s with
   | none=>exact Fine.none
   | some v=>
    have:=Fine.pure (atoi_pure (h:=h) n s v (yK hs) hv);cases v <;> exact this
 · exact Fine.none
noncomputable def checkH(args:List Value)(h:zB)(n:Nat):Option Rsl:=match args with
 | [.pointer (some ⟨b, 0, none⟩)] => match zF h b with
  | .cells c 2 z 0=>cond (Nat.beq z (114+1)) (match Tr.get undef c 0 with
   | .pointer none=>c.setK undef (.pointer (some ⟨b,0,none⟩)) 0 λc'=>h.setK .dead (.cells c' 2 z 0) b λh'=>some ⟨.tuple #[],h',n⟩
   | .pointer (some ⟨b',0,none⟩)=>cond (Nat.beq b' b) (some ⟨.tuple #[],h,n⟩) none
   | _=>none) none
  | _=>none
 | _=>none
theorem bld_of{h:zB}{b z:Nat}{c:Tr Value}(ho:zF h b = .cells c 2 z 0)(hz:Nat.beq z (114+1)=true):Bld 114 h b (Tr.get undef c 0) (Tr.get undef c 1):=by
 obtain rfl:=zE hz;unfold Bld zC;rw [ho];exact⟨rfl,rfl,rfl⟩
theorem checkH_ok(args:List Value)(h:zB)(n:Nat):Fine 101 args h n (checkH args h n):=by
 unfold checkH;split
 · rename_i b;split
   · rename_i c z ho;refine Fine.cond λhz=>?_;have hB:=bld_of ho hz;split
     · rename_i hp;rw [hp]at hB;intro r e u;rw [Tr.setK_eq,Tr.setK_eq]at e;injection e with e
       subst e;obtain⟨v,h',n',⟨rfl,rfl,rfl⟩,hc⟩:=(check_fresh (n:=n) hB).does u;rw [ho]at hc;exact hc
     · rename_i b' hp;refine Fine.cond λhb=>?_;obtain rfl:=zE hb;rw [hp]at hB;intro r e u;injection e with e
       subst e;obtain⟨v,h',n',⟨rfl,rfl,rfl⟩,hc⟩:=(check_used (n:=n) hB).does u;exact hc
     · exact Fine.none
   · exact Fine.none
 · exact Fine.none
noncomputable def bytesK(l:List Value)(K:List UInt8→Option Rsl):Option Rsl:=
 List.rec (motive:=λ_=>(List UInt8→Option Rsl)→Option Rsl) (λK=>K [])
  (λv _ ih K=>onInt v (λk a=>Int.rec (motive:=λ_=>Option Rsl) (λm=>Bool.rec none (ih λr=>K (UInt8.ofNat m::r)) (xZ k .u8 && Nat.blt m 256)) (λ_=>none) a) none) l K
theorem bytesK_of{l:List Value}{K:List UInt8→Option Rsl}{r:Rsl}(e:bytesK l K=some r):∃t,l=bytesV t∧K t=some r:=by
 induction l generalizing K with
 | nil=>exact⟨[],rfl,e⟩
 | cons v l ih=>
  have e':onInt v (λk a=>Int.rec (motive:=λ_=>Option Rsl) (λm=>Bool.rec none (bytesK l λr=>K (UInt8.ofNat m::r)) (xZ k .u8 && Nat.blt m 256)) (λ_=>none) a) none=some r:=e;rcases rM e' with⟨k,a,rfl,e2⟩|e2
  · cases a with
    | negSucc m=>cases e2
    | ofNat m =>
     have e3:(Bool.rec none (bytesK l λr=>K (UInt8.ofNat m::r)) (xZ k .u8 && Nat.blt m 256):Option Rsl)=some r:=e2
     cases hb:(xZ k .u8 && Nat.blt m 256) with
     | false=>rw [hb]at e3;cases e3
     | true =>
      rw[hb]at e3;obtain⟨b1,b2⟩:=ad.1 hb;obtain rfl:=vZ b1;obtain⟨t,rfl,e4⟩:=ih e3;refine⟨UInt8.ofNat m::t,?_,e4⟩
      have:((UInt8.ofNat m).toNat:Int)=Int.ofNat m:=by
       rw[UInt8.toNat_ofNat',Nat.mod_eq_of_lt (zU b2)];rfl
      simp only[bE,this]
  · cases e2
noncomputable def stringH(args:List Value)(h:zB)(n:Nat):Option Rsl:=match args with
 | [.pointer (some ⟨b, 0, none⟩)] => match zF h b with
  | .cells c 2 z 0 => cond (Nat.beq z (114 + 1)) (match Tr.get undef c 1 with
   | .slice none 0 0=>some ⟨str [],h,n⟩
   | .slice (some ⟨b2, 0, none⟩) len cap => match zF h b2 with
    | .cells c2 kn z2 1=>cond (Nat.beq cap inf && (Nat.beq kn len && (Nat.beq z2 (zc 5 1) && (!Nat.beq b2 b && (Nat.blt b2 n && (Nat.blt len 1000000 && Nat.blt 0 len))))))
     (bytesK (c2.toListFrom undef 0 kn) λt=>h.setK .dead .dead b2 λh'=>some ⟨str t,h',n⟩) none
    | _=>none
   | _=>none) none
  | _=>none
 | _=>none
theorem stringH_ok(args:List Value)(h:zB)(n:Nat):Fine 46 args h n (stringH args h n):=by
 unfold stringH;split
 · rename_i b;split
   · rename_i c z ho;refine Fine.cond λhz=>?_;have hB:=bld_of ho hz;split
     · rename_i hp;rw [hp]at hB;intro r e u;injection e with e
       subst e;obtain⟨v,h',n',⟨rfl,rfl,hh⟩,hc⟩:=(string_rets (lo:=0) (n:=n) (l:=[]) hB (.inl ⟨rfl,rfl,rfl⟩) (by intro e;cases e) (by decide)).does u;exact hc.sub (Sub.refl _) λb'=>.inr (hh b' (by intro e;cases e))
     · rename_i b2 len cap hp;split
       · rename_i c2 kn z2 ho2;refine Fine.cond λhb=>?_;obtain⟨b1,hb⟩:=ad.1 hb;obtain⟨b2',hb⟩:=ad.1 hb;obtain⟨b3,hb⟩:=ad.1 hb;obtain⟨b4,hb⟩:=ad.1 hb;obtain⟨b5,hb⟩:=ad.1 hb;obtain⟨b6,b7⟩:=ad.1 hb;obtain rfl:=zE b1;obtain rfl:=zE b2';obtain rfl:=zE b3;have eh:b2≠b:=λe=>by rw[e,aB]at b4;cases b4
         intro r e u;obtain⟨t,ht,e2⟩:=bytesK_of e;rw [Tr.setK_eq]at e2;injection e2 with e2
         subst e2
         have hl:t.length=kn:=by
          have:=congrArg List.length ht;rw [Tr.length_toListFrom,aE]at this;exact this.symm
         subst hl;rw [hp]at hB
         have hOwn:Own 0 n h (.slice (some ⟨b2,0,none⟩) t.length inf) 5 1 t.length (bytesV t):=by
          refine .inr ⟨b2,am _,zU b5,rfl,by rw[ho2];show some (t.length,_,1)=some ((bytesV t).length,_,1);rw [aE],by rw[aE,aP],zU b7,λi=>?_⟩;unfold zC;rw [ho2,← ht,Tr.getElem?_toListFrom,aG];rfl
         obtain⟨v,h',n',⟨rfl,rfl,hh⟩,hc⟩:=(string_rets hB hOwn (by intro e;injection e with e;exact eh e) (zU b6)).does u;refine hc.sub (Sub.refl _) λb'=>?_;rw [zH];by_cases eK:b2=b'
         · rw[if_pos eK];exact .inl rfl
         · rw[if_neg eK];exact .inr (hh b' (by intro e;injection e with e;exact eK e))
       · exact Fine.none
     · exact Fine.none
   · exact Fine.none
 · exact Fine.none
noncomputable def hkLib:HookH:=λf args h n=>
 cond (Nat.beq f 101) (checkH args h n) <| cond (Nat.beq f 43) (joinH args h n) <| cond (Nat.beq f 44) (itoaH args h n) <| cond (Nat.beq f 152) (cutH args h n) <|
 cond (Nat.beq f 189) (splitH args h n) <| cond (Nat.beq f 188) (cutPrefixH args h n) <| cond (Nat.beq f 184) (atoiH args h n) <| cond (Nat.beq f 46) (stringH args h n) none
theorem tI{b:Bool}{o o':Option Rsl}{r:Rsl}(e:cond b o o'=some r):(b=true∧o=some r)∨o'=some r:=by
 cases b with
 | true=>exact .inl ⟨rfl,e⟩
 | false=>exact .inr e
theorem hkLib_ok:HookHOK P 8 hkLib:=by
 intro f args h n r e u;unfold hkLib at e;rcases tI e with⟨hf,e⟩|e
 · obtain rfl:=zE hf;exact checkH_ok _ _ _ r e u
 rcases tI e with⟨hf,e⟩|e
 · obtain rfl:=zE hf;exact joinH_ok _ _ _ r e u
 rcases tI e with⟨hf,e⟩|e
 · obtain rfl:=zE hf;exact itoaH_ok _ _ _ r e u
 rcases tI e with⟨hf,e⟩|e
 · obtain rfl:=zE hf;exact cutH_ok _ _ _ r e u
 rcases tI e with⟨hf,e⟩|e
 · obtain rfl:=zE hf;exact splitH_ok _ _ _ r e u
 rcases tI e with⟨hf,e⟩|e
 · obtain rfl:=zE hf;exact cutPrefixH_ok _ _ _ r e u
 rcases tI e with⟨hf,e⟩|e
 · obtain rfl:=zE hf;exact atoiH_ok _ _ _ r e u
 rcases tI e with⟨hf,e⟩|e
 · obtain rfl:=zE hf;exact stringH_ok _ _ _ r e u
 cases e
end
section
open Go Go.Ex Go.RowKit
set_option maxRecDepth 1000000
def zs:List Int:=[0,1,56,2,57,49,28,3,61,58,42,50,38,29,17,4,62,47,59,36,45,43,51,22,53,39,33,30,24,18,12,5,63,55,48,27,60,41,37,16,46,35,44,21,52,32,23,11,54,26,40,15,34,20,31,10,25,14,19,9,13,8,7,6]
def tabs(m:Int):List (Nat×List Value):=[(0,[.int .i64 m]),(1,powL),(5,zs.map λz=>Value.int .u8 z)]
theorem tabs_ok(m:Int):tabsOK 8 (tabs m)=true:=by kernel_rfl
noncomputable def lo0:Lo:=runHH P hkLib 1000000
theorem lo0_ok:Sound P 8 lo0:=soundHH prog_ok mixed hkLib_ok 1000000
theorem alive_run(m:Int):lo0.call 5 [] false none (heap0 (tabs m)) 8 (finV (.bool true))=true:=by kernel_rfl
theorem alive_pur{m:Int}{h:zB}{n:Nat}(ht:tabsB (tabs m) h=true):Pur P 8 5 [] h n (.bool true):=λu=>⟨_,_,_,⟨rfl,rfl,rfl⟩,hook_of_run lo0_ok (tabs_ok m) rfl (.inr ⟨_,rfl⟩) (alive_run m) ht u n⟩
end
section
open Go Go.Ex Go.Ex.M
set_option maxRecDepth 100000
set_option maxHeartbeats 8000000
variable {n lo:Nat} {h:zB} {m:MachT} {c:CodeT}
instance num12k_c (e:Int) (h:zB) (n:Nat):PurC P 8 11 [I64 e] h n (I64 e):=⟨by
 refine ent λu=>?_;repeat' first|refine wk ?_|refine cX (λ_=>?_) λ_=>?_|fail
 exact fin rfl⟩
theorem big12_com(cm:CodeM lo h c)(dX:lo≤n):Com P 8 7 [.agg ⟨vT c⟩] h n λo h' n'=>∃b,o = .ret (.bool b)∧Tch [] h n h' n':=by
 have ht:vD=1125899906842624:=rfl;have o1:=(cm.bl 0).one;have g0:=cm.nl;have g1:=cm.bll;refine ent λu=>?_;repeat' first|refine wk ?_|refine cX (λ_=>?_) λ_=>?_|fail
 have t1:Tch [] h n (hal h n (mkC (vT c) (30+1) 0)) (n+1):=zA;have c1:Cel (hal h n (mkC (vT c) (30+1) 0)) n (30+1) 0 (vT c):=cel_hal _ _ _ _ _;have cm1:=cm.tch t1 dX;have rb:=cm1.bl 0;generalize hal h n (mkC (vT c) (30+1) 0)=h1 at *
 refine lpR (α :=Nat×Nat) (λa=>[(1,ptr n 0),(3,I64 a.2),(4,I64 a.1)]) (λa h' n'=>h'=h1∧n'=n+1∧a.1≤c.blocks.length∧a.2<3*1125899906842624) (λa=>c.blocks.length - a.1) (0,c.name.length / 8) ⟨rfl,rfl,am _,by dsimp only;omega⟩ ?_
 rintro ⟨i,k⟩ t h' n' ⟨e1,e2,hi,hk⟩
 dsimp only at hi hk ⊢;subst e1 e2;by_cases dV:i<c.blocks.length
 · by_cases hg:k≤6000
   · have d0:c.blocks[i]? = some c.blocks[i]:=aa dV;generalize c.blocks[i]=x at d0
     have hx:=ah d0;obtain⟨rxI,gA⟩:=cm1.el x hx;have ie:=cm1.ins x hx;obtain⟨xv,xl⟩:=x;dsimp only at rxI gA ie;have rx:=rxI 0;have ox:=rx.one;have d1:zC h' (sbk c.bv) (sof c.bv+i*1)=some xv:=by rw[aP];exact rb.at (by rw[ap,d0];rfl)
     repeat' first|refine wk ?_|refine cX (λ_=>?_) λ_=>?_|fail
     refine lpR (α :=Nat×Nat) (λa=>[(1,ptr n 0),(3,I64 a.2),(4,I64 i),(5,I64 a.1)]) (λa h2 n2=>h2=h'∧n2=n+1∧a.1≤xl.length∧a.2<3*1125899906842624) (λa=>xl.length - a.1) (0,k+1+xl.length) ⟨rfl,rfl,am _,by dsimp only;omega⟩ ?_
     rintro ⟨q,k2⟩ t h2 n2 ⟨e1,e2,hq,hk2⟩
     dsimp only at hq hk2 ⊢;subst e1 e2;by_cases d5:q<xl.length
     · by_cases hg2:k2≤6000
       · have f0:xl[q]? = some xl[q]:=aa d5;generalize xl[q]=y at f0
         have c3:=zK rx f0;have c35:=yN c3 (j:=5) rfl;have c36:=yN c3 (j:=6) rfl;have hy:=ie y (ah f0);have ry:=hy.ar vU;have oy:=ry.one;have y1:=hy.al;have y2:=hy.nl;repeat' first|refine wk ?_|refine cX (λ_=>?_) λ_=>?_|fail
         exact rnd (q+1,k2+y.args.length+y.name.length / 8) ⟨rfl,rfl,by dsimp only;omega,by dsimp only;omega⟩
       · repeat' first|refine wk ?_|refine cX (λ_=>?_) λ_=>?_|fail
         exact rnd (i+1,k2) ⟨rfl,rfl,by dsimp only;omega,by dsimp only;omega⟩
     · obtain rfl:q=xl.length:=by omega
       repeat' first|refine wk ?_|refine cX (λ_=>?_) λ_=>?_|fail
       exact rnd (i+1,k2) ⟨rfl,rfl,by dsimp only;omega,by dsimp only;omega⟩
   · repeat' first|refine wk ?_|refine cX (λ_=>?_) λ_=>?_|fail
     exact⟨_,rfl,t1⟩
 · obtain rfl:i=c.blocks.length:=by omega
   repeat' first|refine wk ?_|refine cX (λ_=>?_) λ_=>?_|fail
   exact⟨_,rfl,t1⟩
theorem tabsB_tch{n':Nat}{h':zB}(t:Tch [] h n h' n'):∀{l:List (Nat×List Value)},(∀p∈l,p.1<n)→tabsB l h=true→tabsB l h'=true
 | [],_,_=>rfl
 | (g,vs)::r,hl,e=>by
  have e:(tabB vs (zF h g) && tabsB r h)=true:=e;obtain⟨e1,e2⟩:=ad.1 e;show(tabB vs (zF h' g) && tabsB r h')=true;rw [t.2 g (hl _ (aY ..)) (by simp),e1,tabsB_tch t (λp hp=>hl p (aT _ hp)) e2];rfl
theorem mchecks_com{m0:Int}(ht:tabsB (tabs m0) h=true)(iV:8≤n)(mm:MachM lo h m)(dX:lo≤n)(tx:TxtM m)(cm:CodeM lo h c):Com P 8 3 [.agg ⟨yU m⟩,.agg ⟨vT c⟩] h n λo _ _=>o = .ret (.bool true):=by
 obtain⟨o1,o2,o3,o4,o5⟩:=sO mm;have o6:=(cm.bl 0).one
 have hl:∀p∈tabs m0,p.1<n:=λp hp=>by
  simp only[tabs,aA,bj,or_false]at hp;rcases hp with rfl|rfl|rfl <;> (show _<_;omega)
 refine ent λu=>?_;repeat' first|refine wk ?_|refine cX (λ_=>?_) λ_=>?_|refine zX (alive_pur (m:=m0) (tabsB_tch (show Tch [] h n _ _ from zA) hl ht)) ?_|fail
 refine cal (big_com (MachM.tch zA dX mm) (by omega) tx) ?_
 rintro _ h2 n2 ⟨big,rfl,t2⟩
 have hn2:=t2.le;have cM:Cel h2 n zMc 0 (yU m):=zD;have cC:Cel h2 (n+1) (30+1) 0 (vT c):=zD;have gW:Tch [] h n h2 n2:=zA;clear t2
 cases big with
 | true=>
  repeat' first|refine wk ?_|refine cX (λ_=>?_) λ_=>?_|fail
  rfl
 | false=>
 repeat' first|refine wk ?_|refine cX (λ_=>?_) λ_=>?_|fail
 refine cal (big12_com (cm.tch gW dX) (by omega)) ?_
 rintro _ h3 n3 ⟨big,rfl,t3⟩
 have eH:=t3.le;have cM3:=cM.tch t3 (by omega) (by simp);have cC3:=cC.tch t3 (by omega) (by simp);have fz:Tch [] h n h3 n3:=Tch.tch t3 gW (by simp);clear t3 gW cM cC
 cases big with
 | true=>
  repeat' first|refine wk ?_|refine cX (λ_=>?_) λ_=>?_|fail
  rfl
 | false=>
 repeat' first|refine wk ?_|refine cX (λ_=>?_) λ_=>?_|fail
 refine cal (lmake_com (MachM.tch fz dX mm) (by omega)) ?_
 rintro _ h4 n4 ⟨t4,rfl|⟨bt,bt2,v,nsv,psv,kv,kvs,ns,ps,rfl,ok,tm,tc⟩⟩
 · have fL:=t4.le;have cC4:=cC3.tch t4 (by omega) (by simp);have gN:Tch [] h n h4 n4:=Tch.tch t4 fz (by simp);repeat' first|refine wk ?_|refine cX (λ_=>?_) λ_=>?_|fail
   refine wY (mcheck_nil (cm.tch gN dX)) ?_
   rintro _ h5 n5 ⟨rfl,t5⟩
   have fm:=t5.le;have cC5:=cC4.tch t5 (by omega) (by simp);have t05:Tch [] h n h5 n5:=Tch.tch t5 gN (by simp);repeat' first|refine wk ?_|refine cX (λ_=>?_) λ_=>?_|fail
   refine wY (rcheck_nil (cm.tch t05 dX)) ?_
   rintro _ h6 n6 ⟨rfl,t6⟩
   have gM:=t6.le;repeat' first|refine wk ?_|refine cX (λ_=>?_) λ_=>?_|fail
   all_goals first|rfl|(exfalso;simp_all;done)
 · have fL:=t4.le;have cC4:=cC3.tch t4 (by omega) (by simp);have gN:Tch [] h n h4 n4:=Tch.tch t4 fz (by simp);repeat' first|refine wk ?_|refine cX (λ_=>?_) λ_=>?_|fail
   refine wY (mcheck_ret tm ok (MOK.ond ok) (cm.tch gN dX) (by omega)) ?_
   rintro _ h5 n5 ⟨b,k,e,rfl,hE,t5⟩
   have fm:=t5.le;have cC5:=cC4.tch t5 (by omega) (by simp);have t05:Tch [] h n h5 n5:=Tch.tch t5 gN (by simp);repeat' first|refine wk ?_|refine cX (λ_=>?_) λ_=>?_|fail
   refine wY (rcheck_ret (tc.tch t5 (ae _)) ok fm (cm.tch t05 dX) (by omega)) ?_
   rintro _ h6 n6 ⟨b',k',e',rfl,hE',t6⟩
   obtain⟨rfl,rfl,rfl⟩:=codeE_fun hE hE';have gM:=t6.le;repeat' first|refine wk ?_|refine cX (λ_=>?_) λ_=>?_|fail
   all_goals first|rfl|(exfalso;simp_all;done)|(simp;done)
end
section
open Go Go.Ex Go.ChangeShapes Go.WideShapes Go.ChangeAt Go.RowKit
set_option maxRecDepth 1000000
theorem own:ownKnob P.godebug=none:=by kernel_rfl
theorem returns_and_shaped{H:Type}{enc:TypeId×Value→H}{a:Assume}{C:Checked}{os:Os}{f:FuncId}{fn:Func}{s:ChangeSpec}{conds:List PathCond}{apart fresh handsOn again:Bool}{X:World→Array Value→Prop}
(hX:∀(w w':World) (args:Array Value),w.heap=w'.heap→X w args→X w' args)
(own:ownKnob C.prog.godebug=none)(started:os.Started)(noInit:C.prog.inits.idxOf? f=none)(hfn:C.prog.funcs[f]? = some fn)
(witness:∃(w:World) (tape:Tape) (i:Input),w.os=os∧(w.forCall tape i).Shaped C.prog∧i.vars=[]∧Input.okWide C.prog (w.forCall tape i) .any w.heap.size f i∧
  ((s.pre enc C.prog fn conds apart (w.forCall tape i).memory i.args∧X (w.forCall tape i).memory i.args)∧sizedMet enc C.prog fn (OpenSpec.ofChange s) apart (w.forCall tape i).memory i.args)∧a.holds C.prog (lone (Frame.enter C.prog f i.args .normal) [] (w.forCall tape i)))
(contract:∀(W:World) (base:Nat) (args:Array Value) (ds gs:List (DataW H)) (before:List MemPlace),
  (∀(j:Nat) t v,fn.params[j]? = some t→args[j]? = some v→Value.okWide C.prog W .any base t v)→
  DataW.Whole enc C.prog fn.params.toList s.vars apart W args.toList ds gs before→
  conds.all (PathCond.test C.prog ⟨fn.params.toList,ds,s.plain.varTypes C.prog,gs⟩)=true→
  (DataW.weightsEach C.prog (fn.params.toList++s.plain.varTypes C.prog) (ds++gs)).all (·≤reachBytes)=true→X W args→W.ShapedOpen C.prog→
  a.holds C.prog (lone (Frame.enter C.prog f args .normal) [] W)→
  Calls C.prog f args W λe W'=>∃v,e = .returned v∧s.post enc C.prog fn apart fresh handsOn again W args v W') :
 ReturnsInHanded a C os f .any (λw args=>(s.pre enc C.prog fn conds apart w args∧X w args)∧sizedMet enc C.prog fn (OpenSpec.ofChange s) apart w args) (s.post enc C.prog fn apart fresh handsOn again):=by
 refine returnsInHanded_of_calls own started noInit witness ?_;intro w tape i _ hsh _ hok hpre hholds;obtain⟨_,_,_,fn',hfn',_,_,_,_,ii⟩:=hok;have e:fn'=fn:=Option.some.inj (hfn'.symm.trans hfn);subst e;obtain⟨⟨⟨ds,gs,before,hw,hc⟩,hx⟩,hz⟩:=hpre;have gB:=DataW.Whole.of_heap (w':=w.forCall tape i) (by rfl) hw;refine(contract (w.forCall tape i) w.heap.size i.args ds gs before ii gB hc (hz.weights hw) (hX _ _ _ (by rfl) hx) hsh hholds).mono λe W' ⟨v,he,hp⟩=>?_;subst he;exact ChangeSpec.post_blind hp
theorem tabIs_of_reads{W:World}{name:String}{k:IntKind}{zs:List Int}{g:Nat}{t e:TypeId}{n:Nat}
(hg:P.globalNamed name=some g)(hty:(P.globals[g]?).map (·.type)=some t)(ht:P.underlying t=some (.array n e))(he:P.underlying e=some (.int k))(hce:P.cellsOf e=1)(hct:P.cellsOf t=n)
(h:Lib.VarReads P W name (Lib.tabData k zs)):Lib.TabIs P W name k zs:=by
 obtain⟨g',t',cs,fuel,p,hg',ht',hvar,hd⟩:=h;obtain rfl:=Option.some.inj (hg.symm.trans hg');obtain rfl:=Option.some.inj (hty.symm.trans ht');unfold Lib.TabIs;rw [hvar,← Lib.cells_of_tab ht he hce hct hd]
theorem in_of_tabIs{W:World}{name:String}{k:IntKind}{zs:List Int}{g:Nat}(hT:Lib.TabIs P W name k zs)(hg:P.globalNamed name=some g):∃el fr,W.heap[g]? = some (.cells ⟨zs.map λz=>Value.int k z⟩ el fr):=by
 unfold Lib.TabIs World.var? at hT;rw [hg]at hT;simp only[Option.bind_some]at hT;split at hT
 · rename_i cs el fr e;injection hT with hT
   exact⟨el,fr,by rw[e,hT]⟩
 · cases hT
theorem max_in{W:World}(hs:W.ShapedOpen P):∃(m:Int) (el:TypeId) (fr:Nat×Nat),W.heap[(0:Nat)]? = some (.cells ⟨[.int .i64 m]⟩ el fr):=by
 have h0:((begin P (λ_ _=>0) default).world.heap[(0:Nat)]?).bind Obj.row? = some (#[.int .i64 0],3):=by kernel_rfl
 obtain⟨cs,hh,hsz,hr⟩:=hs.1 0 _ _ (of_decide_eq_true (by kernel_rfl)) h0;obtain⟨m,hm⟩:=cell_of_shapedOpen_int (k:=.i64) hs (of_decide_eq_true (by kernel_rfl)) h0 rfl (by kernel_rfl) (by kernel_rfl) Tryz.underlying3;refine⟨m,3,(0,0),hh.trans ?_⟩;unfold World.cell? at hm;dsimp only at hm;rw [hh]at hm;have iS:cs[0]? = some (.int .i64 m):=hm;have h1:cs.size=1:=hsz;congr 2
 apply Array.ext
 · exact h1
 · intro i i1 i2;obtain rfl:i=0:=by omega
   rw[aC (by omega)]at iS;injection iS
theorem tabs_in {W:World} (h1:Lib.TabIs P W "internal/strconv.uint64pow10" .u64 Lib.pow10Tab) (h2:Lib.TabIs P W "math/bits.deBruijn64tab" .u8 zs) (hs:W.ShapedOpen P):∃m,rT W (tabs m):=by
 obtain⟨m,el,fr,e⟩:=max_in hs;refine⟨m,λp hp=>?_⟩;simp only[tabs,aA,bj,or_false]at hp;rcases hp with rfl|rfl|rfl
 · exact⟨el,fr,e⟩
 · have:=in_of_tabIs (g:=1) h1 (by kernel_rfl);dsimp only;rw [powL_eq];exact this
 · exact in_of_tabIs (g:=5) h2 (by kernel_rfl)
theorem tabs_self(m:Int):tabsB (tabs m) (heap0 (tabs m))=true:=by
 have e:ieqB m m=true:=by rw[wO];simp
 show((true && (true && ((xZ .i64 .i64 && ieqB m m) && true))) && tabsB ((tabs m).drop 1) (heap0 (tabs m)))=true;rw [e];kernel_rfl
end
section
open Go Go.Ex Go.Ex.M Go.ChangeShapes Go.WideShapes Go.ChangeAt Go.RowKit
set_option maxRecDepth 1000000
section
variable {H:Type} {enc:TypeId×Value→H} {W:World} {b0:Nat} {tbs:List (Nat×List Value)}
theorem ng_le(hs:W.ShapedOpen P):8≤W.heap.size:=by
 have h0:(((begin P (λ_ _=>0) default).world.heap[(8 - 1:Nat)]?).bind Obj.row?).isSome=true:=by kernel_rfl
 obtain⟨⟨z,t⟩,h0⟩:=Option.isSome_iff_exists.1 h0;obtain⟨cs,hh,-⟩:=hs.1 (8 - 1) z t (of_decide_eq_true (by kernel_rfl)) h0;rcases aw (8 - 1) W.heap.size with h1|h1
 · omega
 · rw[aQ h1]at hh;cases hh
theorem zbb1:P.cellsOf 28=1:=by kernel_rfl
theorem three{l:List Value}(h:l.length=3):∃c0 c1 c2,l=[c0,c1,c2]:=by
 match l,h with
 | [c0,c1,c2],_=>exact⟨c0,c1,c2,rfl⟩
theorem code_El(h0:H0 b0 W tbs){k:Nat}{cs:List Value}(h:ElF enc W k 30 cs):(∀v∈cs,Told b0 W v)∧∃c:CodeT,cs.map (tJ b0)=vT c∧CodeM W.heap.size (qD b0 W tbs) c:=by
 obtain⟨hl,n,rfl,hf⟩:=uX Tryz.underlying30 h;have hl:cs.length=3:=hl.trans (by kernel_rfl);obtain⟨c0,c1,c2,rfl⟩:=three hl;have f0:ElF enc W n 9 [c0]:=ElF.one (off:=0) (hf 0 _ rfl) zs1 rfl;have f1:ElF enc W n 3 [c1]:=ElF.one (off:=1) (hf 1 _ rfl) zi1 rfl;have f2:ElF enc W n 28 [c2]:=ElF.one (off:=2) (hf 2 _ rfl) zbb1 rfl;obtain⟨s0,e0,g0⟩:=rX f0;obtain⟨n1,e1,g1⟩:=rA f1;obtain⟨v2,l2,e2,t2,r2,x2,y2⟩:=blks_El h0 f2;injection e0 with e0 _;injection e1 with e1 _;injection e2 with e2 _
 subst e0 e1 e2;refine⟨λv hv=>?_,⟨s0,n1,tJ b0 c2,l2⟩,rfl,⟨g0,r2.toI,x2,λx hx=>⟨(y2 x hx).1.toI,(y2 x hx).2.1⟩,λx hx i hi=>(y2 x hx).2.2 i hi⟩⟩;simp only[aA,bj,or_false]at hv;rcases hv with rfl|rfl|rfl
 all_goals first|exact I64_told _|exact rC _|exact t2
theorem told_rv{l:List Value}(h:∀x∈l,Told b0 W x):RV (idI W) (.agg ⟨l.map (tJ b0)⟩) (.agg ⟨l⟩):=by
 refine .agg (by simp) λj w w' q1 q2=>?_;have q2:l[j]? = some w':=q2;have q1:(l.map (tJ b0))[j]? = some w:=q1;rw [ap,q2]at q1;obtain rfl:tJ b0 w'=w:=by simpa using q1
 exact(h w' (aj.2 ⟨j,q2⟩)).1
theorem tabs_self'{m:Int}{h:zB}(hh:∀p∈tabs m,zF h p.1=zF (heap0 (tabs m)) p.1):tabsB (tabs m) h=true:=by
 have z:∀l:List (Nat×List Value),(∀p∈l,zF h p.1=zF (heap0 (tabs m)) p.1)→tabsB l (heap0 (tabs m))=true→tabsB l h=true:=by
  intro l
  induction l with
  | nil=>intro _ _;rfl
  | cons p r ih=>
   obtain⟨g,vs⟩:=p;intro hl e;have e:(tabB vs (zF (heap0 (tabs m)) g) && tabsB r (heap0 (tabs m)))=true:=e;obtain⟨e1,e2⟩:=ad.1 e;show(tabB vs (zF h g) && tabsB r h)=true;rw [hl _ (aY ..),e1,ih (λp hp=>hl p (aT _ hp)) e2];rfl
 exact z _ hh (tabs_self m)
theorem checks_calls{base:Nat}{v w:Value}{d e:DataW H}{p q:List MemPlace}{m:Int}(hw:rT W (tabs m))(hs:W.ShapedOpen P)(hv:Value.okWide P W .any base 27 v)(hd:DataW.Trod enc P W 0 (λ_=>true) true 27 v d p)(hwt:∀y∈d.weights P 27,y≤reachBytes)
(hv2:Value.okWide P W .any base 30 w)(hd2:DataW.Trod enc P W 0 (λ_=>true) true 30 w e q)(hwt2:∀y∈e.weights P 30,y≤reachBytes) :
 Calls P 3 #[v,w] W λe w'=>e = .returned (.bool true)∧Go.RowKit.Below W.heap.size W w':=by
 have hng:=ng_le hs
 have fA:∀p∈tabs m,∀v∈p.2,∃k n,v = .int k n:=λp hp v hv=>by
  simp only[tabs,aA,bj,or_false]at hp;rcases hp with rfl|rfl|rfl
  · rw[bD.1 hv];exact⟨_,_,rfl⟩
  · rw[powL_eq]at hv;obtain⟨z,-,rfl⟩:=ao.1 hv;exact⟨_,_,rfl⟩
  · obtain⟨z,-,rfl⟩:=ao.1 hv;exact⟨_,_,rfl⟩
 have hT:∀p∈tabs m,zF (qD 0 W (tabs m)) p.1=mkC p.2 0 2:=λp hp=>mir_tab (by
  intro a ha b hb hab;simp only[tabs,aA,bj,or_false]at ha hb;rcases ha with rfl|rfl|rfl <;> rcases hb with rfl|rfl|rfl <;> first|rfl|(have hab:=hab;dsimp only at hab;omega)) hp
 have m0:((0,[.int .i64 m]):Nat×List Value)∈tabs m:=aY ..;have h0:H0 0 W (tabs m):=⟨⟨hw,λp hp v hv=>by obtain⟨k,n,rfl⟩:=fA p hp v hv;rfl⟩,1,0,2,by rw[hT _ m0];exact uN _ _ _,by omega⟩;have hH:HeapR P 8 (idI W) W.heap.size W (qD 0 W (tabs m)) W.heap.size W:=mir_heapR hng hw λp hp v hv=>by obtain⟨k,n,rfl⟩:=fA p hp v hv;exact .int _ _
 have ht:tabsB (tabs m) (qD 0 W (tabs m))=true:=tabs_self' λp hp=>by
  rw[hT p hp];simp only[tabs,aA,bj,or_false]at hp;rcases hp with rfl|rfl|rfl <;> kernel_rfl
 obtain⟨cs,rfl,-⟩:=okWide_struct Tryz.underlying27 hv;obtain⟨ds,rfl,-⟩:=okWide_struct Tryz.underlying30 hv2;obtain⟨fuel,hd⟩:=hd;obtain⟨fuel2,hd2⟩:=hd2;obtain⟨l⟩:=cs;obtain⟨l2⟩:=ds;have hE:ElF enc W fuel 27 l:=⟨(d,p),hd,hwt⟩;have hE2:ElF enc W fuel2 30 l2:=⟨(e,q),hd2,hwt2⟩;obtain⟨ht1,mt,hm,mm,tx⟩:=mach_El h0 hE;obtain⟨ht2,c,hc,cm⟩:=code_El h0 hE2;refine law_com (args:=[.agg ⟨yU mt⟩,.agg ⟨vT c⟩]) (args':=[.agg ⟨l⟩,.agg ⟨l2⟩]) (mchecks_com ht hng mm (ae _) tx cm) W hH ⟨rfl,λi x x' h1 h2=>?_⟩
 match i,h1,h2 with
 | 0,h1,h2=>
  obtain rfl:Value.agg ⟨yU mt⟩=x:=by simpa using h1
  obtain rfl:Value.agg ⟨l⟩=x':=by simpa using h2
  rw[← hm];exact told_rv ht1
 | 1,h1,h2=>
  obtain rfl:Value.agg ⟨vT c⟩=x:=by simpa using h1
  obtain rfl:Value.agg ⟨l2⟩=x':=by simpa using h2
  rw[← hc];exact told_rv ht2
 | i+2,h1,h2=>simp at h1
end
end
end Go.Proofs.YtmccnilgnlaffaaGreatDoor
