/- What the law leans on: an executor of the model that is sound, deduction over it, and the walks through the code (part 16 of 24). Conditions: those that each theorem states. -/
import Derived.Test.YtdipdkkpgjdnkaaGreatDoorVirLinesx14
import Derived.Test.YtdipdkkpgjdnkaaGreatDoorVirLinesx15
import Derived.Shelf.Strings.Builder1
import Derived.Shelf.Strings.Builder2
import Derived.Shelf.Strings.OnBuilder
import Derived.Shelf.Small.Wraps
import Derived.Shelf.Strconv.Atoi
import Derived.Shelf.Strconv.Itoa0
import Derived.Shelf.Strconv.Itoa1
import Derived.Shelf.LaysM
import Derived.Shelf.Strconv.Itoa2
import Derived.Shelf.Strconv.Itoa3
import Derived.Shelf.Strconv.AtoiErrFast
import Derived.Shelf.Strconv.ParseIntEmpty
import Derived.Shelf.Strconv.AtoiFail
import Derived.Shelf.Strconv.Clone
import Derived.Shelf.Strconv.SyntaxError
import Derived.Shelf.LaysC
import Derived.Shelf.Strconv.ToError
import Derived.Shelf.Strconv.AtoiErr
import Derived.Shelf.Strconv.Lower
import Derived.Shelf.Strconv.ParseUint10
import Derived.Shelf.Strconv.ParseUint10Empty
import Derived.Shelf.Strconv.ParseUint10Any
import Derived.Shelf.Strconv.ParseInt10
import Derived.Shelf.Strconv.AtoiLong
import Derived.Shelf.Strconv.AtoiInnerAll
import Derived.Shelf.Strconv.RangeError
import Derived.Shelf.Strconv.ToErrorRange
import Derived.Shelf.Strconv.AtoiAll
import Derived.Shelf.Strings.Search1
import Derived.Shelf.Strings.Search2
import Derived.Shelf.Strings.Search3
import Derived.Shelf.Strings.Cut
import Derived.Shelf.Strings.Count
import Derived.Shelf.Strings.Shaped
import Derived.Shelf.Strings.Prefix
import Derived.Shelf.Strings.Split
import Derived.Shelf.Unicode.DecodeSlow
import Derived.Test.YtdipdkkpgjdnkaaGreatDoorProg
import Derived.Test.YtdipdkkpgjdnkaaGreatDoorRows
import Derived.KernelRfl
import Derived.Lib.AppendIntMem
import Derived.Lib.AtoiErrMem
import Derived.WalkSmall

set_option linter.unusedVariables false
set_option linter.unusedSimpArgs false
namespace Go.Proofs
open Go.Shelf
def Tryz.lays169_ren:Go.Shelf.Ren:=⟨fun|169=>22|n=>n,fun|70=>46|9=>9|0=>0|72=>49|37=>47|127=>82|3=>3|5=>5|n=>n,fun|n=>n⟩
theorem Tryz.lays169:Go.Proofs.Lays.n169 Tryz.prog Tryz.lays169_ren:={
 mixed:=by kernel_rfl
 f169:=Tryz.func22.trans (congrArg some (by kernel_rfl))
 t0:=Tryz.underlying0
 a0:=Tryz.isAgg0
 z0:=Tryz.sizeOf0
 v0:=Tryz.zeroValue0
 t3:=Tryz.underlying3
 a3:=Tryz.isAgg3
 z3:=Tryz.sizeOf3
 v3:=Tryz.zeroValue3
 t9:=Tryz.underlying9
 a9:=Tryz.isAgg9
 z9:=Tryz.sizeOf9
 v9:=Tryz.zeroValue9
 t37:=Tryz.underlying47
 a37:=Tryz.isAgg47
 z37:=Tryz.sizeOf47
 v37:=Tryz.zeroValue47
 t70:=Tryz.underlying46
 a70:=Tryz.isAgg46
 z70:=Tryz.sizeOf46
 v70:=Tryz.zeroValue46
 t72:=Tryz.underlying49
 a72:=Tryz.isAgg49
 z72:=Tryz.sizeOf49
 v72:=Tryz.zeroValue49
 t127:=Tryz.underlying82
 a127:=Tryz.isAgg82
 z127:=Tryz.sizeOf82
 v127:=Tryz.zeroValue82 }
theorem Tryz.Builder_Extra_169:Builder.Extra Tryz.prog Tryz.lays169_ren:={
 sizeBuilder:=by kernel_rfl
 liesBuilder:=by kernel_rfl
 t5:=Tryz.underlying5
 a5:=Tryz.isAgg5
 z5:=Tryz.sizeOf5
 v5:=Tryz.zeroValue5
 infoByte:=by kernel_rfl
 cellsByte:=by kernel_rfl
 sizeByte:=by kernel_rfl
 neB5:=by decide }
def Tryz.lays156_ren:Go.Shelf.Ren:=⟨fun|156=>19|165=>44|166=>18|169=>22|240=>43|241=>67|276=>66|277=>80|n=>n,fun|31=>22|9=>9|3=>3|4=>4|0=>0|20=>20|72=>49|76=>52|70=>46|37=>47|75=>51|127=>82|164=>99|5=>5|80=>58|n=>n,fun|n=>n⟩
theorem Tryz.lays156:Go.Proofs.Lays.n156 Tryz.prog Tryz.lays156_ren:={
 mixed:=by kernel_rfl
 f156:=Tryz.func19.trans (congrArg some (by kernel_rfl))
 f165:=Tryz.func44.trans (congrArg some (by kernel_rfl))
 f166:=Tryz.func18.trans (congrArg some (by kernel_rfl))
 f169:=Tryz.func22.trans (congrArg some (by kernel_rfl))
 f240:=Tryz.func43.trans (congrArg some (by kernel_rfl))
 f241:=Tryz.func67.trans (congrArg some (by kernel_rfl))
 f276:=Tryz.func66.trans (congrArg some (by kernel_rfl))
 f277:=Tryz.func80.trans (congrArg some (by kernel_rfl))
 t0:=Tryz.underlying0
 a0:=Tryz.isAgg0
 z0:=Tryz.sizeOf0
 v0:=Tryz.zeroValue0
 t3:=Tryz.underlying3
 a3:=Tryz.isAgg3
 z3:=Tryz.sizeOf3
 v3:=Tryz.zeroValue3
 t4:=Tryz.underlying4
 a4:=Tryz.isAgg4
 z4:=Tryz.sizeOf4
 v4:=Tryz.zeroValue4
 t9:=Tryz.underlying9
 a9:=Tryz.isAgg9
 z9:=Tryz.sizeOf9
 v9:=Tryz.zeroValue9
 t20:=Tryz.underlying20
 a20:=Tryz.isAgg20
 z20:=Tryz.sizeOf20
 v20:=Tryz.zeroValue20
 t31:=Tryz.underlying22
 a31:=Tryz.isAgg22
 z31:=Tryz.sizeOf22
 v31:=Tryz.zeroValue22
 t37:=Tryz.underlying47
 a37:=Tryz.isAgg47
 z37:=Tryz.sizeOf47
 v37:=Tryz.zeroValue47
 t70:=Tryz.underlying46
 a70:=Tryz.isAgg46
 z70:=Tryz.sizeOf46
 v70:=Tryz.zeroValue46
 t72:=Tryz.underlying49
 a72:=Tryz.isAgg49
 z72:=Tryz.sizeOf49
 v72:=Tryz.zeroValue49
 t75:=Tryz.underlying51
 a75:=Tryz.isAgg51
 z75:=Tryz.sizeOf51
 v75:=Tryz.zeroValue51
 t76:=Tryz.underlying52
 a76:=Tryz.isAgg52
 z76:=Tryz.sizeOf52
 v76:=Tryz.zeroValue52
 t127:=Tryz.underlying82
 a127:=Tryz.isAgg82
 z127:=Tryz.sizeOf82
 v127:=Tryz.zeroValue82
 t164:=Tryz.underlying99
 a164:=Tryz.isAgg99
 z164:=Tryz.sizeOf99
 v164:=Tryz.zeroValue99 }
theorem Tryz.Builder_Extra_156:Builder.Extra Tryz.prog Tryz.lays156_ren:={
 sizeBuilder:=by kernel_rfl
 liesBuilder:=by kernel_rfl
 t5:=Tryz.underlying5
 a5:=Tryz.isAgg5
 z5:=Tryz.sizeOf5
 v5:=Tryz.zeroValue5
 infoByte:=by kernel_rfl
 cellsByte:=by kernel_rfl
 sizeByte:=by kernel_rfl
 neB5:=by decide }
open Go.RowKit in
theorem Tryz.strings_Join_none(a:Option Addr)(c:Nat)(sep:ByteArray)(w:World) :
 Calls Tryz.prog 19 #[.slice a 0 c,.string sep] w fun e w'=>e = .returned (.string ⟨#[]⟩)∧w'=w:=Any.strings_Join_none Tryz.lays156 Tryz.Builder_Extra_156 a c sep w
open Go.RowKit in
theorem Tryz.strings_Join(bk o c:Nat)(xs:List ByteArray)(sep:ByteArray)(w:World)(hcells:∀(j:Nat) x,xs[j]? = some x→w.cell? ⟨bk,o+j,none⟩=some (.string x))(hbk:bk<w.heap.size)(hN:xs.length≤140737488355328)(hcap:xs.length≤c)(hlen:(Lib.join (xs.map (·.data.toList)) sep.data.toList).length≤140737488355328) :
 Calls Tryz.prog 19 #[.slice (some ⟨bk,o,none⟩) xs.length c,.string sep] w fun e w'=>e = .returned (.string ⟨(Lib.join (xs.map (·.data.toList)) sep.data.toList).toArray⟩)∧Below w.heap.size w w':=Any.strings_Join Tryz.lays156 Tryz.Builder_Extra_156 bk o c xs sep w hcells hbk hN hcap hlen
def Tryz.lays103_ren:Go.Shelf.Ren:=⟨fun|103=>84|210=>94|206=>110|n=>n,fun|9=>9|4=>4|24=>115|3=>3|n=>n,fun|n=>n⟩
theorem Tryz.lays103:Go.Proofs.Lays.n103 Tryz.prog Tryz.lays103_ren:={
 mixed:=by kernel_rfl
 f103:=Tryz.func84.trans (congrArg some (by kernel_rfl))
 f206:=Tryz.func110.trans (congrArg some (by kernel_rfl))
 f210:=Tryz.func94.trans (congrArg some (by kernel_rfl))
 t3:=Tryz.underlying3
 a3:=Tryz.isAgg3
 z3:=Tryz.sizeOf3
 v3:=Tryz.zeroValue3
 t4:=Tryz.underlying4
 a4:=Tryz.isAgg4
 z4:=Tryz.sizeOf4
 v4:=Tryz.zeroValue4
 t9:=Tryz.underlying9
 a9:=Tryz.isAgg9
 z9:=Tryz.sizeOf9
 v9:=Tryz.zeroValue9
 t24:=Tryz.underlying115
 a24:=Tryz.isAgg115
 z24:=Tryz.sizeOf115
 v24:=Tryz.zeroValue115 }
open Go.RowKit in
theorem Tryz.strings_CutPrefix(s p:ByteArray)(w:World) :
 Calls Tryz.prog 84 #[.string s,.string p] w fun e w'=>e = .returned (.tuple #[.string ⟨(Lib.trimPrefix s.data.toList p.data.toList).toArray⟩,.bool (Lib.hasPrefix s.data.toList p.data.toList)])∧w'=w:=Any.strings_CutPrefix Tryz.lays103 s p w
def Tryz.laysM171_ren:Go.Shelf.Ren:=⟨fun|171=>45|243=>68|246=>81|283=>87|284=>88|285=>89|286=>90|129=>97|317=>96|318=>98|319=>99|320=>100|337=>114|338=>115|n=>n,fun|3=>3|9=>9|2=>2|4=>4|171=>119|0=>0|53=>120|37=>47|5=>5|173=>123|212=>130|51=>131|20=>20|213=>132|46=>133|232=>156|233=>157|n=>n,fun|17=>1|18=>4|19=>5|n=>n⟩
theorem Tryz.laysM171:Go.Proofs.LaysM.n171 Tryz.prog Tryz.laysM171_ren:={
 mixed:=by kernel_rfl
 f129:=Tryz.func97.trans (congrArg some (by kernel_rfl))
 f171:=Tryz.func45.trans (congrArg some (by kernel_rfl))
 f243:=Tryz.func68.trans (congrArg some (by kernel_rfl))
 f246:=Tryz.func81.trans (congrArg some (by kernel_rfl))
 f283:=Tryz.func87.trans (congrArg some (by kernel_rfl))
 f284:=Tryz.func88.trans (congrArg some (by kernel_rfl))
 f285:=Tryz.func89.trans (congrArg some (by kernel_rfl))
 f286:=Tryz.func90.trans (congrArg some (by kernel_rfl))
 f317:=Tryz.func96.trans (congrArg some (by kernel_rfl))
 f318:=Tryz.func98.trans (congrArg some (by kernel_rfl))
 f319:=Tryz.func99.trans (congrArg some (by kernel_rfl))
 f320:=Tryz.func100.trans (congrArg some (by kernel_rfl))
 f337:=Tryz.func114.trans (congrArg some (by kernel_rfl))
 f338:=Tryz.func115.trans (congrArg some (by kernel_rfl))
 t0:=Tryz.underlying0
 a0:=Tryz.isAgg0
 z0:=Tryz.sizeOf0
 v0:=Tryz.zeroValue0
 t2:=Tryz.underlying2
 a2:=Tryz.isAgg2
 z2:=Tryz.sizeOf2
 v2:=Tryz.zeroValue2
 t3:=Tryz.underlying3
 a3:=Tryz.isAgg3
 z3:=Tryz.sizeOf3
 v3:=Tryz.zeroValue3
 t4:=Tryz.underlying4
 a4:=Tryz.isAgg4
 z4:=Tryz.sizeOf4
 v4:=Tryz.zeroValue4
 t5:=Tryz.underlying5
 a5:=Tryz.isAgg5
 z5:=Tryz.sizeOf5
 v5:=Tryz.zeroValue5
 t9:=Tryz.underlying9
 a9:=Tryz.isAgg9
 z9:=Tryz.sizeOf9
 v9:=Tryz.zeroValue9
 t20:=Tryz.underlying20
 a20:=Tryz.isAgg20
 z20:=Tryz.sizeOf20
 v20:=Tryz.zeroValue20
 t37:=Tryz.underlying47
 a37:=Tryz.isAgg47
 z37:=Tryz.sizeOf47
 v37:=Tryz.zeroValue47
 t46:=Tryz.underlying133
 a46:=Tryz.isAgg133
 z46:=Tryz.sizeOf133
 v46:=Tryz.zeroValue133
 t51:=Tryz.underlying131
 a51:=Tryz.isAgg131
 z51:=Tryz.sizeOf131
 v51:=Tryz.zeroValue131
 t53:=Tryz.underlying120
 a53:=Tryz.isAgg120
 z53:=Tryz.sizeOf120
 v53:=Tryz.zeroValue120
 t171:=Tryz.underlying119
 a171:=Tryz.isAgg119
 z171:=Tryz.sizeOf119
 v171:=Tryz.zeroValue119
 t173:=Tryz.underlying123
 a173:=Tryz.isAgg123
 z173:=Tryz.sizeOf123
 v173:=Tryz.zeroValue123
 t212:=Tryz.underlying130
 a212:=Tryz.isAgg130
 z212:=Tryz.sizeOf130
 v212:=Tryz.zeroValue130
 t213:=Tryz.underlying132
 a213:=Tryz.isAgg132
 z213:=Tryz.sizeOf132
 t232:=Tryz.underlying156
 a232:=Tryz.isAgg156
 z232:=Tryz.sizeOf156
 v232:=Tryz.zeroValue156
 t233:=Tryz.underlying157
 a233:=Tryz.isAgg157
 z233:=Tryz.sizeOf157
 v233:=Tryz.zeroValue157
 g17:=by kernel_rfl
 g18:=by kernel_rfl
 g19:=by kernel_rfl
 i0:=by kernel_rfl
 i2:=by kernel_rfl
 i3:=by kernel_rfl
 i4:=by kernel_rfl
 i5:=by kernel_rfl
 i9:=by kernel_rfl
 i20:=by kernel_rfl
 i37:=by kernel_rfl
 i46:=by kernel_rfl
 i51:=by kernel_rfl
 i53:=by kernel_rfl
 i171:=by kernel_rfl
 i173:=by kernel_rfl
 i212:=by kernel_rfl
 i232:=by kernel_rfl
 i233:=by kernel_rfl
 m17:=by kernel_rfl
 m18:=by kernel_rfl
 m19:=by kernel_rfl }
open Go.RowKit Go.Sort Go.Lib in
theorem Tryz.strconv_Itoa (n:Int) (h0: -9223372036854775808≤n) (h1:n≤9223372036854775807) (w:World) (htab:Lib.TabIs Tryz.prog w "internal/strconv.uint64pow10" .u64 Lib.pow10Tab) :
 Calls Tryz.prog 45 #[.int .i64 n] w fun e w'=>e = .returned (.string ⟨(Lib.itoa n).toArray⟩)∧∃k os,w'=grow (w.drewN k) os:=Any.strconv_Itoa Tryz.laysM171 n h0 h1 w htab
def Tryz.laysC172_ren:Go.Shelf.Ren:=⟨fun|172=>82|244=>91|245=>92|247=>101|279=>102|280=>103|281=>104|282=>105|287=>116|316=>117|171=>45|205=>118|321=>124|322=>125|243=>68|246=>81|283=>87|284=>88|285=>89|286=>90|129=>97|317=>96|318=>98|319=>99|320=>100|337=>114|338=>115|n=>n,fun|9=>9|3=>3|75=>51|76=>52|4=>4|5=>5|167=>135|37=>47|0=>0|85=>136|2=>2|168=>138|53=>120|175=>145|46=>133|210=>149|127=>82|145=>161|143=>159|21=>21|171=>119|173=>123|212=>130|51=>131|20=>20|213=>132|232=>156|233=>157|80=>58|n=>n,fun|15=>2|16=>3|17=>1|18=>4|19=>5|n=>n⟩
theorem Tryz.laysC172:Go.Proofs.LaysC.n172 Tryz.prog Tryz.laysC172_ren:={
 mixed:=by kernel_rfl
 f129:=Tryz.func97.trans (congrArg some (by kernel_rfl))
 f171:=Tryz.func45.trans (congrArg some (by kernel_rfl))
 f172:=Tryz.func82.trans (congrArg some (by kernel_rfl))
 f205:=Tryz.func118.trans (congrArg some (by kernel_rfl))
 f243:=Tryz.func68.trans (congrArg some (by kernel_rfl))
 f244:=Tryz.func91.trans (congrArg some (by kernel_rfl))
 f245:=Tryz.func92.trans (congrArg some (by kernel_rfl))
 f246:=Tryz.func81.trans (congrArg some (by kernel_rfl))
 f247:=Tryz.func101.trans (congrArg some (by kernel_rfl))
 f279:=Tryz.func102.trans (congrArg some (by kernel_rfl))
 f280:=Tryz.func103.trans (congrArg some (by kernel_rfl))
 f281:=Tryz.func104.trans (congrArg some (by kernel_rfl))
 f282:=Tryz.func105.trans (congrArg some (by kernel_rfl))
 f283:=Tryz.func87.trans (congrArg some (by kernel_rfl))
 f284:=Tryz.func88.trans (congrArg some (by kernel_rfl))
 f285:=Tryz.func89.trans (congrArg some (by kernel_rfl))
 f286:=Tryz.func90.trans (congrArg some (by kernel_rfl))
 f287:=Tryz.func116.trans (congrArg some (by kernel_rfl))
 f316:=Tryz.func117.trans (congrArg some (by kernel_rfl))
 f317:=Tryz.func96.trans (congrArg some (by kernel_rfl))
 f318:=Tryz.func98.trans (congrArg some (by kernel_rfl))
 f319:=Tryz.func99.trans (congrArg some (by kernel_rfl))
 f320:=Tryz.func100.trans (congrArg some (by kernel_rfl))
 f321:=Tryz.func124.trans (congrArg some (by kernel_rfl))
 f322:=Tryz.func125.trans (congrArg some (by kernel_rfl))
 f337:=Tryz.func114.trans (congrArg some (by kernel_rfl))
 f338:=Tryz.func115.trans (congrArg some (by kernel_rfl))
 t0:=Tryz.underlying0
 a0:=Tryz.isAgg0
 z0:=Tryz.sizeOf0
 v0:=Tryz.zeroValue0
 t2:=Tryz.underlying2
 a2:=Tryz.isAgg2
 z2:=Tryz.sizeOf2
 v2:=Tryz.zeroValue2
 t3:=Tryz.underlying3
 a3:=Tryz.isAgg3
 z3:=Tryz.sizeOf3
 v3:=Tryz.zeroValue3
 t4:=Tryz.underlying4
 a4:=Tryz.isAgg4
 z4:=Tryz.sizeOf4
 v4:=Tryz.zeroValue4
 t5:=Tryz.underlying5
 a5:=Tryz.isAgg5
 z5:=Tryz.sizeOf5
 v5:=Tryz.zeroValue5
 t9:=Tryz.underlying9
 a9:=Tryz.isAgg9
 z9:=Tryz.sizeOf9
 v9:=Tryz.zeroValue9
 t20:=Tryz.underlying20
 a20:=Tryz.isAgg20
 z20:=Tryz.sizeOf20
 v20:=Tryz.zeroValue20
 t21:=Tryz.underlying21
 a21:=Tryz.isAgg21
 z21:=Tryz.sizeOf21
 v21:=Tryz.zeroValue21
 t37:=Tryz.underlying47
 a37:=Tryz.isAgg47
 z37:=Tryz.sizeOf47
 v37:=Tryz.zeroValue47
 t46:=Tryz.underlying133
 a46:=Tryz.isAgg133
 z46:=Tryz.sizeOf133
 v46:=Tryz.zeroValue133
 t51:=Tryz.underlying131
 a51:=Tryz.isAgg131
 z51:=Tryz.sizeOf131
 v51:=Tryz.zeroValue131
 t53:=Tryz.underlying120
 a53:=Tryz.isAgg120
 z53:=Tryz.sizeOf120
 v53:=Tryz.zeroValue120
 t75:=Tryz.underlying51
 a75:=Tryz.isAgg51
 z75:=Tryz.sizeOf51
 v75:=Tryz.zeroValue51
 t76:=Tryz.underlying52
 a76:=Tryz.isAgg52
 z76:=Tryz.sizeOf52
 v76:=Tryz.zeroValue52
 t85:=Tryz.underlying136
 a85:=Tryz.isAgg136
 z85:=Tryz.sizeOf136
 v85:=Tryz.zeroValue136
 t127:=Tryz.underlying82
 a127:=Tryz.isAgg82
 z127:=Tryz.sizeOf82
 v127:=Tryz.zeroValue82
 t143:=Tryz.underlying159
 a143:=Tryz.isAgg159
 z143:=Tryz.sizeOf159
 v143:=Tryz.zeroValue159
 t145:=Tryz.underlying161
 a145:=Tryz.isAgg161
 z145:=Tryz.sizeOf161
 v145:=Tryz.zeroValue161
 t167:=Tryz.underlying135
 a167:=Tryz.isAgg135
 z167:=Tryz.sizeOf135
 v167:=Tryz.zeroValue135
 t168:=Tryz.underlying138
 a168:=Tryz.isAgg138
 z168:=Tryz.sizeOf138
 v168:=Tryz.zeroValue138
 t171:=Tryz.underlying119
 a171:=Tryz.isAgg119
 z171:=Tryz.sizeOf119
 v171:=Tryz.zeroValue119
 t173:=Tryz.underlying123
 a173:=Tryz.isAgg123
 z173:=Tryz.sizeOf123
 v173:=Tryz.zeroValue123
 t175:=Tryz.underlying145
 a175:=Tryz.isAgg145
 z175:=Tryz.sizeOf145
 v175:=Tryz.zeroValue145
 t210:=Tryz.underlying149
 a210:=Tryz.isAgg149
 z210:=Tryz.sizeOf149
 v210:=Tryz.zeroValue149
 t212:=Tryz.underlying130
 a212:=Tryz.isAgg130
 z212:=Tryz.sizeOf130
 v212:=Tryz.zeroValue130
 t213:=Tryz.underlying132
 a213:=Tryz.isAgg132
 z213:=Tryz.sizeOf132
 t232:=Tryz.underlying156
 a232:=Tryz.isAgg156
 z232:=Tryz.sizeOf156
 v232:=Tryz.zeroValue156
 t233:=Tryz.underlying157
 a233:=Tryz.isAgg157
 z233:=Tryz.sizeOf157
 v233:=Tryz.zeroValue157
 g15:=by kernel_rfl
 g16:=by kernel_rfl
 g17:=by kernel_rfl
 g18:=by kernel_rfl
 g19:=by kernel_rfl
 t80:=Tryz.underlying58
 a80:=Tryz.isAgg58
 z80:=Tryz.sizeOf58
 v80:=Tryz.zeroValue58
 i0:=by kernel_rfl
 i2:=by kernel_rfl
 i3:=by kernel_rfl
 i4:=by kernel_rfl
 i5:=by kernel_rfl
 i9:=by kernel_rfl
 i20:=by kernel_rfl
 i21:=by kernel_rfl
 i37:=by kernel_rfl
 i46:=by kernel_rfl
 i51:=by kernel_rfl
 i53:=by kernel_rfl
 i75:=by kernel_rfl
 i76:=by kernel_rfl
 i80:=by kernel_rfl
 i85:=by kernel_rfl
 i127:=by kernel_rfl
 i143:=by kernel_rfl
 i145:=by kernel_rfl
 i167:=by kernel_rfl
 i168:=by kernel_rfl
 i171:=by kernel_rfl
 i173:=by kernel_rfl
 i175:=by kernel_rfl
 i210:=by kernel_rfl
 i212:=by kernel_rfl
 i232:=by kernel_rfl
 i233:=by kernel_rfl
 m15:=by kernel_rfl
 m16:=by kernel_rfl
 m17:=by kernel_rfl
 m18:=by kernel_rfl
 m19:=by kernel_rfl
 c0:=by kernel_rfl
 c2:=by kernel_rfl
 c3:=by kernel_rfl
 c4:=by kernel_rfl
 c5:=by kernel_rfl
 c9:=by kernel_rfl
 c20:=by kernel_rfl
 c21:=by kernel_rfl
 c37:=by kernel_rfl
 c46:=by kernel_rfl
 c51:=by kernel_rfl
 c53:=by kernel_rfl
 c75:=by kernel_rfl
 c76:=by kernel_rfl
 c80:=by kernel_rfl
 c85:=by kernel_rfl
 c127:=by kernel_rfl
 c143:=by kernel_rfl
 c145:=by kernel_rfl
 c167:=by kernel_rfl
 c168:=by kernel_rfl
 c171:=by kernel_rfl
 c173:=by kernel_rfl
 c175:=by kernel_rfl
 c210:=by kernel_rfl
 c212:=by kernel_rfl
 c213:=by kernel_rfl
 c232:=by kernel_rfl
 c233:=by kernel_rfl }
open Go.RowKit in
theorem Tryz.strconv_Atoi_ok(s:ByteArray)(hmax:s.size≤9223372036854775806)(v:Int)(h:Lib.atoiAll s.data.toList = .ok v)(w:World) :
 Calls Tryz.prog 82 #[.string s] w fun e w'=>e = .returned (.tuple #[.int .i64 v,.nilIface])∧(w'=w∨∃t,w'=Lib.bytesWorld w 5 t):=Any.strconv_Atoi_ok Tryz.laysC172 s hmax v h w
def Tryz.lays145_ren:Go.Shelf.Ren:=⟨fun|145=>76|220=>83|219=>93|217=>106|225=>107|224=>108|267=>109|266=>119|314=>120|n=>n,fun|9=>9|4=>4|59=>108|3=>3|5=>5|46=>133|146=>151|51=>131|n=>n,fun|1=>0|n=>n⟩
theorem Tryz.lays145:Go.Proofs.Lays.n145 Tryz.prog Tryz.lays145_ren:={
 mixed:=by kernel_rfl
 f145:=Tryz.func76.trans (congrArg some (by kernel_rfl))
 f217:=Tryz.func106.trans (congrArg some (by kernel_rfl))
 f219:=Tryz.func93.trans (congrArg some (by kernel_rfl))
 f220:=Tryz.func83.trans (congrArg some (by kernel_rfl))
 f224:=Tryz.func108.trans (congrArg some (by kernel_rfl))
 f225:=Tryz.func107.trans (congrArg some (by kernel_rfl))
 f266:=Tryz.func119.trans (congrArg some (by kernel_rfl))
 f267:=Tryz.func109.trans (congrArg some (by kernel_rfl))
 f314:=Tryz.func120.trans (congrArg some (by kernel_rfl))
 t3:=Tryz.underlying3
 a3:=Tryz.isAgg3
 z3:=Tryz.sizeOf3
 v3:=Tryz.zeroValue3
 t4:=Tryz.underlying4
 a4:=Tryz.isAgg4
 z4:=Tryz.sizeOf4
 v4:=Tryz.zeroValue4
 t5:=Tryz.underlying5
 a5:=Tryz.isAgg5
 z5:=Tryz.sizeOf5
 v5:=Tryz.zeroValue5
 t9:=Tryz.underlying9
 a9:=Tryz.isAgg9
 z9:=Tryz.sizeOf9
 v9:=Tryz.zeroValue9
 t46:=Tryz.underlying133
 a46:=Tryz.isAgg133
 z46:=Tryz.sizeOf133
 v46:=Tryz.zeroValue133
 t51:=Tryz.underlying131
 a51:=Tryz.isAgg131
 z51:=Tryz.sizeOf131
 v51:=Tryz.zeroValue131
 t59:=Tryz.underlying108
 a59:=Tryz.isAgg108
 z59:=Tryz.sizeOf108
 v59:=Tryz.zeroValue108
 t146:=Tryz.underlying151
 a146:=Tryz.isAgg151
 z146:=Tryz.sizeOf151
 v146:=Tryz.zeroValue151
 g1:=by kernel_rfl }
open Go.RowKit Go.Lib in
theorem Tryz.strings_Cut(s sep:ByteArray)(m:Int)(w:World)(hs:s.size<4294967281)(hm:w.cell? ⟨0,0,none⟩=some (.int .i64 m)) :
 Calls Tryz.prog 76 #[.string s,.string sep] w fun e w'=>e = .returned (.tuple #[.string ⟨(Lib.cut s.data.toList sep.data.toList).1.toArray⟩,.string ⟨(Lib.cut s.data.toList sep.data.toList).2.1.toArray⟩,.bool (Lib.cut s.data.toList sep.data.toList).2.2])∧∃n,w'=w.drewN n:=Any.strings_Cut Tryz.lays145 s sep m w hs hm
def Tryz.lays146_ren:Go.Shelf.Ren:=⟨fun|146=>85|221=>95|268=>111|138=>112|143=>113|195=>121|197=>122|218=>123|219=>93|260=>126|217=>106|225=>107|224=>108|267=>109|266=>119|314=>120|n=>n,fun|9=>9|31=>22|3=>3|4=>4|0=>0|105=>154|21=>21|5=>5|46=>133|119=>162|139=>165|138=>164|146=>151|51=>131|n=>n,fun|1=>0|3=>6|4=>7|n=>n⟩
theorem Tryz.lays146:Go.Proofs.Lays.n146 Tryz.prog Tryz.lays146_ren:={
 mixed:=by kernel_rfl
 f138:=Tryz.func112.trans (congrArg some (by kernel_rfl))
 f143:=Tryz.func113.trans (congrArg some (by kernel_rfl))
 f146:=Tryz.func85.trans (congrArg some (by kernel_rfl))
 f195:=Tryz.func121.trans (congrArg some (by kernel_rfl))
 f197:=Tryz.func122.trans (congrArg some (by kernel_rfl))
 f217:=Tryz.func106.trans (congrArg some (by kernel_rfl))
 f218:=Tryz.func123.trans (congrArg some (by kernel_rfl))
 f219:=Tryz.func93.trans (congrArg some (by kernel_rfl))
 f221:=Tryz.func95.trans (congrArg some (by kernel_rfl))
 f224:=Tryz.func108.trans (congrArg some (by kernel_rfl))
 f225:=Tryz.func107.trans (congrArg some (by kernel_rfl))
 f260:=Tryz.func126.trans (congrArg some (by kernel_rfl))
 f266:=Tryz.func119.trans (congrArg some (by kernel_rfl))
 f267:=Tryz.func109.trans (congrArg some (by kernel_rfl))
 f268:=Tryz.func111.trans (congrArg some (by kernel_rfl))
 f314:=Tryz.func120.trans (congrArg some (by kernel_rfl))
 t0:=Tryz.underlying0
 a0:=Tryz.isAgg0
 z0:=Tryz.sizeOf0
 v0:=Tryz.zeroValue0
 t3:=Tryz.underlying3
 a3:=Tryz.isAgg3
 z3:=Tryz.sizeOf3
 v3:=Tryz.zeroValue3
 t4:=Tryz.underlying4
 a4:=Tryz.isAgg4
 z4:=Tryz.sizeOf4
 v4:=Tryz.zeroValue4
 t5:=Tryz.underlying5
 a5:=Tryz.isAgg5
 z5:=Tryz.sizeOf5
 v5:=Tryz.zeroValue5
 t9:=Tryz.underlying9
 a9:=Tryz.isAgg9
 z9:=Tryz.sizeOf9
 v9:=Tryz.zeroValue9
 t21:=Tryz.underlying21
 a21:=Tryz.isAgg21
 z21:=Tryz.sizeOf21
 v21:=Tryz.zeroValue21
 t31:=Tryz.underlying22
 a31:=Tryz.isAgg22
 z31:=Tryz.sizeOf22
 v31:=Tryz.zeroValue22
 t46:=Tryz.underlying133
 a46:=Tryz.isAgg133
 z46:=Tryz.sizeOf133
 v46:=Tryz.zeroValue133
 t51:=Tryz.underlying131
 a51:=Tryz.isAgg131
 z51:=Tryz.sizeOf131
 v51:=Tryz.zeroValue131
 t105:=Tryz.underlying154
 a105:=Tryz.isAgg154
 z105:=Tryz.sizeOf154
 v105:=Tryz.zeroValue154
 t119:=Tryz.underlying162
 a119:=Tryz.isAgg162
 z119:=Tryz.sizeOf162
 t138:=Tryz.underlying164
 a138:=Tryz.isAgg164
 z138:=Tryz.sizeOf164
 v138:=Tryz.zeroValue164
 t139:=Tryz.underlying165
 a139:=Tryz.isAgg165
 z139:=Tryz.sizeOf165
 v139:=Tryz.zeroValue165
 t146:=Tryz.underlying151
 a146:=Tryz.isAgg151
 z146:=Tryz.sizeOf151
 v146:=Tryz.zeroValue151
 g1:=by kernel_rfl
 g3:=by kernel_rfl
 g4:=by kernel_rfl }
open Go.RowKit Go.Lib in
theorem Tryz.strings_Split(s sep:ByteArray)(m:Int)(w:World)(hs:s.size<4294967281)(hm:w.cell? ⟨0,0,none⟩=some (.int .i64 m))(h1:1≤sep.size) :
 Calls Tryz.prog 85 #[.string s,.string sep] w fun e w'=>
  e = .returned (.slice (some ⟨w.heap.size,0,none⟩) (Lib.countB s sep+1) (Lib.countB s sep+1))∧w'=w.alloc (.cells ((Lib.splitB sep 0 (Lib.countB s sep) s).map Value.string).toArray 9):=Any.strings_Split Tryz.lays146 (by kernel_rfl) s sep m w hs hm h1
end Go.Proofs
namespace Go.Proofs.YtdipdkkpgjdnkaaGreatDoor
open Go.Ex Go.RowKit
set_option maxRecDepth 1000000
def tb(m:Int):List (Nat×List Value):=[(0,[.int .i64 m]),(1,Lib.pow10Tab.map fun z=>Value.int .u64 z)]
theorem tb_ok(m:Int):∀p∈tb m,p.1<8∧p.2.all xF=true:=by
 intro p hp;simp only[tb,List.mem_cons,List.not_mem_nil,or_false]at hp;rcases hp with rfl|rfl
 · exact⟨(by decide:(0:Nat)<8),rfl⟩
 · exact⟨(by decide:(1:Nat)<8),by simp[Lib.pow10Tab,xF]⟩
theorem tb_max{m:Int}{wd:World}(h:TabsIn wd (tb m)):wd.cell? ⟨0,0,none⟩=some (.int .i64 m):=by
 obtain⟨el,fr,e⟩:=h (0,[.int .i64 m]) (by simp[tb]);unfold World.cell?;dsimp only at e ⊢;rw [e];rfl
theorem tb_pow{m:Int}{wd:World}(h:TabsIn wd (tb m)):Lib.TabIs P wd "internal/strconv.uint64pow10" .u64 Lib.pow10Tab:=by
 obtain⟨el,fr,e⟩:=h (1,Lib.pow10Tab.map fun z=>Value.int .u64 z) (by simp[tb]);unfold Lib.TabIs World.var?;rw [show P.globalNamed "internal/strconv.uint64pow10" = some 1 by kernel_rfl];simp only[Option.bind_some];dsimp only at e;rw [e]
theorem h_cut:hasB P 76=true:=by kernel_rfl
theorem h_cutPrefix:hasB P 84=true:=by kernel_rfl
theorem h_split:hasB P 85=true:=by kernel_rfl
theorem h_join:hasB P 19=true:=by kernel_rfl
theorem h_itoa:hasB P 45=true:=by kernel_rfl
theorem h_check:hasB P 43=true:=by kernel_rfl
theorem h_string:hasB P 22=true:=by kernel_rfl
theorem cut_pure{m:Int}{h:zB}(n:Nat)(ht:TabsH (tb m) h)(s:List UInt8)(c:UInt8)(hs:s.length<1000000) :
 Pure P 8 76 [str s,str [c]] h n (.tuple #[str (vE c s).1,str (vE c s).2.1,.bool (vE c s).2.2]):=by
 refine vK h_cut rfl rfl ht (tb_ok m) fun wd hw=>?_;refine(Tryz.strings_Cut ⟨⟨s⟩⟩ ⟨#[c]⟩ m wd ?_ (tb_max hw)).mono fun e w' ⟨he,k,hw'⟩=>?_
 · show s.length<_;omega
 · subst hw';refine⟨?_,Go.below_drewN (Below.refl _ _) k⟩;rw [he];show Ending.returned (.tuple #[.string ⟨(Lib.cut s [c]).1.toArray⟩,.string ⟨(Lib.cut s [c]).2.1.toArray⟩,.bool (Lib.cut s [c]).2.2])=_;rw [cut_one]
theorem cutPrefix_pure{h:zB}(n:Nat)(s p:List UInt8) :
 Pure P 8 84 [str s,str p] h n (.tuple #[str (Lib.trimPrefix s p),.bool (Lib.hasPrefix s p)]):=by
 refine vK (tabs:=[]) h_cutPrefix rfl rfl (fun _ h=>by cases h) (fun _ h=>by cases h) fun wd hw=>?_;refine(Tryz.strings_CutPrefix ⟨⟨s⟩⟩ ⟨⟨p⟩⟩ wd).mono fun e w' ⟨he,hw'⟩=>?_;subst hw';exact⟨he,Below.refl _ _⟩
theorem split_rets{m:Int}{h:zB}(n:Nat)(ht:TabsH (tb m) h)(s:List UInt8)(c:UInt8)(hs:s.length<1000000) :
 Rets P 8 85 [str s,str [c]] h n fun v' h' n'=>v' = .slice (some ⟨n,0,none⟩) (zO c s).length (zO c s).length∧h'=h.set .dead (mkC ((zO c s).map str) 0 0) n∧n'=n+1:=by
 have hl:(zO c s).length<1000001:=by rw[splitL_length];have:=List.count_le_length (a:=c) (l:=s);omega
 refine row_of_calls h_split rfl ?_ (Nat.le_refl _) ?_ ht (tb_ok m) (el:=9) fun wd hw=>?_
 · simp[xF]
 · unfold inf;omega
 · refine(Tryz.strings_Split ⟨⟨s⟩⟩ ⟨#[c]⟩ m wd ?_ (tb_max hw) (Nat.le_refl 1)).mono fun e w' ⟨he,hw'⟩=>?_
   · show s.length<_;omega
   · have e1:Lib.countB ⟨⟨s⟩⟩ ⟨#[c]⟩+1=(zO c s).length:=by rw[count_one,splitL_length]
     have e2:(Lib.splitB ⟨#[c]⟩ 0 (Lib.countB ⟨⟨s⟩⟩ ⟨#[c]⟩) ⟨⟨s⟩⟩).map Value.string=(zO c s).map str:=by
      have:=split_one c ⟨⟨s⟩⟩;rw [← this,List.map_map];apply List.map_congr_left;intro x _;rfl
     rw[e1]at he;refine⟨he,?_⟩;rw [hw',e2]
theorem join_pure{h:zB}{n:Nat}{sv:Value}{el:Nat}(ls:List (List UInt8))(sep:List UInt8)(r:Row n h sv el 1 ls.length (ls.map str))(hn:ls.length<1000000)(hl:(Lib.join ls sep).length<1000000) :
 Pure P 8 19 [sv,str sep] h n (str (Lib.join ls sep)):=by
 refine pure_of_calls_row (tabs:=[]) h_join r (by simp[xF]) rfl rfl (fun _ h=>by cases h) (fun _ h=>by cases h) fun wd sv' _ hsv=>?_;rcases hsv with⟨h0,a,c,rfl⟩|⟨bk,o,c,rfl,hc,hb,hcells⟩
 · have:ls=[]:=List.length_eq_zero_iff.1 h0;subst this;refine(Tryz.strings_Join_none a c ⟨⟨sep⟩⟩ wd).mono fun e w' ⟨he,hw'⟩=>?_;subst hw';exact⟨he,Below.refl _ _⟩
 · have e1:(ls.map fun l=>(⟨⟨l⟩⟩:ByteArray)).length=ls.length:=List.length_map ..;have e2:(ls.map fun l=>(⟨⟨l⟩⟩:ByteArray)).map (·.data.toList)=ls:=by rw[List.map_map];exact List.map_id' _
   have:=Tryz.strings_Join bk o c (ls.map fun l=>(⟨⟨l⟩⟩:ByteArray)) ⟨⟨sep⟩⟩ wd (fun j x hj=>hcells j (.string x) (by
    rw[List.getElem?_map]at hj ⊢
    cases e:ls[j]? with
    | none=>rw [e]at hj;cases hj
    | some l=>rw [e]at hj;injection hj with hj;subst hj;rfl)) hb (by rw[e1];omega) (by rw[e1];exact hc) (by rw[e2];show(Lib.join ls sep).length≤_;omega)
   rw[e1,e2]at this;exact this.mono fun _ _ ⟨he,hw'⟩=>⟨he,hw'⟩
theorem zZ{m:Int}{h:zB}(n:Nat)(ht:TabsH (tb m) h)(a:Int)(h0: -9223372036854775808≤a)(h1:a≤9223372036854775807) :
 Pure P 8 45 [.int .i64 a] h n (str (Lib.itoa a)):=by
 refine vK h_itoa rfl rfl ht (tb_ok m) fun wd hw=>?_;refine(Tryz.strconv_Itoa a h0 h1 wd (tb_pow hw)).mono fun e w' ⟨he,k,os,hw'⟩=>?_;subst hw';exact⟨he,Lib.below_grow _ _ (Nat.le_refl _) k os⟩
theorem h_atoi:hasB P 82=true:=by kernel_rfl
theorem atoi_pure{h:zB}(n:Nat)(s:List UInt8)(v:Int)(hs:s.length≤1000000)(hv:Lib.atoiAll s = .ok v) :
 Pure P 8 82 [str s] h n (.tuple #[.int .i64 v,.nilIface]):=by
 refine vK (tabs:=[]) h_atoi rfl rfl (fun _ h=>by cases h) (fun _ h=>by cases h) fun wd hw=>?_;refine(Tryz.strconv_Atoi_ok ⟨⟨s⟩⟩ (by show s.length≤_;omega) v hv wd).mono fun e w' ⟨he,hw'⟩=>?_;rcases hw' with rfl|⟨t,rfl⟩
 · exact⟨he,Below.refl _ _⟩
 · exact⟨he,Lib.bytesWorld_below _ _ _⟩
structure Env (m:Int) (h:zB):Prop where
 tabs:TabsH (tb m) h
 syn:ErrH h 2
 rng:ErrH h 3
theorem Env.tch{m:Int}{h h':zB}{n n':Nat}{S:List Nat}(e:Env m h)(t:Tch S h n h' n')(hn:8≤n)(hS:∀x∈S,8≤x):Env m h':=by
 refine⟨e.tabs.tch t (fun p hp=>Nat.lt_of_lt_of_le (tb_ok m p hp).1 hn) (fun p hp hx=>?_),e.syn.tch t (by omega) (fun hx=>?_),e.rng.tch t (by omega) (fun hx=>?_)⟩
 · have:=(tb_ok m p hp).1;have:=hS _ hx;omega
 · have:=hS _ hx;omega
 · have:=hS _ hx;omega
theorem atoi_bad{m:Int}{h:zB}(n:Nat)(hE:Env m h)(s:List UInt8)(hs:s.length≤1000000)(hv:∀a,Lib.atoiAll s≠.ok a) :
 Rets P 8 82 [str s] h n fun v h' n'=>∃x,v = .tuple #[.int .i64 x,.iface 138 (.pointer (some ⟨n,0,none⟩))]∧Tch [] h n h' n':=by
 have hs':(⟨⟨s⟩⟩:ByteArray).size≤281474976710656:=by show s.length≤_;omega
 cases ha:Lib.atoiAll s with
 | ok a=>exact absurd ha (hv a)
 | range=>
  refine(err_of_calls h_atoi rfl hE.rng (by omega) (x:=Lib.atoiSat s) fun wd ⟨te,pe,hw⟩=>?_).mono fun v h' n' ⟨e1,e2⟩=>⟨_,e1,e2⟩;exact(Any.strconv_Atoi_range Tryz.laysC172 ⟨⟨s⟩⟩ hs' ha _ wd hw (.inr ⟨te,pe,rfl⟩)).mono fun e w' ⟨N,a1,a2,a3,a4⟩=>⟨N,a1,a2,a4⟩
 | _=>
  refine(err_of_calls h_atoi rfl hE.syn (by omega) (x:=0) fun wd ⟨te,pe,hw⟩=>?_).mono fun v h' n' ⟨e1,e2⟩=>⟨_,e1,e2⟩;exact(Any.strconv_Atoi_syntax Tryz.laysC172 ⟨⟨s⟩⟩ hs' ha _ wd hw (.inr ⟨te,pe,rfl⟩)).mono fun e w' ⟨N,a1,a2,a3,a4⟩=>⟨N,a1,a2,a4⟩
theorem check_fresh{b n:Nat}{h:zB}{sv:Value}(hB:Bld 49 h b (.pointer none) sv) :
 Rets P 8 43 [.pointer (some ⟨b,0,none⟩)] h n fun v h' n'=>v = .tuple #[]∧h'=h.set .dead (stC (zF h b) 0 [.pointer (some ⟨b,0,none⟩)]) b∧n'=n:=
 copyCheck_fresh h_check hB fun wd c h1 h2 h3=>Any.Builder_copyCheck_fresh { Tryz.lays156 with } { Tryz.Builder_Extra_156 with } c wd h1 h2 h3
theorem check_used{b n:Nat}{h:zB}{sv:Value}(hB:Bld 49 h b (.pointer (some ⟨b,0,none⟩)) sv) :
 Rets P 8 43 [.pointer (some ⟨b,0,none⟩)] h n fun v h' n'=>v = .tuple #[]∧h'=h∧n'=n:=
 copyCheck_used h_check hB fun wd c h1=>Any.Builder_copyCheck_used { Tryz.lays156 with } { Tryz.Builder_Extra_156 with } c wd h1
theorem string_rets{b lo n:Nat}{h:zB}{p sv:Value}{l:List UInt8}(hB:Bld 49 h b p sv)(ho:Own lo n h sv 5 1 l.length (uD l))(hne:yE sv≠some b)(hlen:l.length<1000000) :
 Rets P 8 22 [.pointer (some ⟨b,0,none⟩)] h n fun v h' n'=>v=str l∧n'=n∧(∀b',yE sv≠some b'→zF h' b'=zF h b'):=
 builder_String h_string hB ho hne hlen
  (fun wd c x hx=>(Any.Builder_String_nil Tryz.lays169 Tryz.Builder_Extra_169 wd.heap.size c x wd hx).mono fun _ _ ⟨he,hb⟩=>⟨he,hb⟩)
  (fun wd c g cap x cur h0 h1 h2 h3 h4 h5=>(string_model Tryz.lays169 Tryz.Builder_Extra_169 c g cap x cur l wd h0 hlen h1 h2 h3 h4 h5).mono fun _ _ ⟨he,hb⟩=>⟨he,hb⟩)
end Go.Proofs.YtdipdkkpgjdnkaaGreatDoor
namespace Go.Ex.Vir
open Go Go.Ex
def digR(m:Nat):Tx→Option Nat
 | []=>some m
 | d::r=>if 48≤d.toNat∧d.toNat≤57 then(if 9223372036854775808<10*m+(d.toNat - 48) then none else digR (10*m+(d.toNat - 48)) r) else none
def magR(neg:Bool)(w:Tx):Option Nat:=
 if w.length<1∨19<w.length∨(w.head? = some 48∧(1<w.length∨neg=true)) then none else digR 0 w
def intR(w:Tx):Option Int:=
 if w.head? = some 45 then(match magR true w.tail with|some m=>some (-(m:Int))|none=>none)
 else(match magR false w with|some m=>if m=9223372036854775808 then none else some (m:Int)|none=>none)
theorem parse_ge:∀(l:Tx) (acc u:Nat),Lib.parseUint10 acc l = .ok u→acc≤u:=by
 intro l
 induction l with
 | nil=>intro acc u h;simp only[Lib.parseUint10]at h;injection h with h;omega
 | cons x r ih=>
  intro acc u h;simp only[Lib.parseUint10]at h;split at h
  · split at h
    · cases h
    · split at h
      · cases h
      · have:=ih _ _ h;omega
  · cases h
theorem digR_some:∀(l:Tx) (acc u:Nat),acc≤9223372036854775808→(digR acc l=some u↔(Lib.parseUint10 acc l = .ok u∧u≤9223372036854775808)):=by
 intro l
 induction l with
 | nil=>
  intro acc u ha;simp only[digR,Lib.parseUint10];constructor
  · intro h;injection h with h;subst h;exact⟨rfl,ha⟩
  · rintro ⟨h,_⟩;injection h with h;rw [h]
 | cons x r ih=>
  intro acc u ha;simp only[digR,Lib.parseUint10];by_cases hd:48≤x.toNat∧x.toNat≤57
  · rw[if_pos hd,if_pos hd];by_cases hb:9223372036854775808<10*acc+(x.toNat - 48)
    · rw[if_pos hb];constructor
      · intro h;cases h
      · rintro ⟨h,hu⟩
        split at h
        · cases h
        · split at h
          · cases h
          · have:=parse_ge _ _ _ h;omega
    · rw[if_neg hb,if_neg (by omega),if_neg (by omega),ih _ _ (by omega),show acc*10+(x.toNat - 48)=10*acc+(x.toNat - 48) by omega]
  · rw[if_neg hd,if_neg hd];constructor
    · intro h;cases h
    · rintro ⟨h,_⟩;cases h
theorem dec_chr{x:UInt8}(h:48≤x.toNat∧x.toNat≤57):UInt8.ofNat (48+(x.toNat - 48))=x:=by
 rw[show 48+(x.toNat - 48)=x.toNat by omega];exact UInt8.ofNat_toNat ..
theorem dec_lt{u:Nat}(h:u<10):Lib.decDigits u=[UInt8.ofNat (48+u)]:=by
 rw[Lib.decDigits,dif_pos h]
theorem dec_ge{u:Nat}(h:¬u<10):Lib.decDigits u=Lib.decDigits (u / 10)++[UInt8.ofNat (48+u % 10)]:=by
 rw[Lib.decDigits,dif_neg h]
theorem parse_dig:∀(l:Tx) (acc u:Nat),0<acc→Lib.parseUint10 acc l = .ok u→Lib.decDigits u=Lib.decDigits acc++l:=by
 intro l
 induction l with
 | nil=>intro acc u _ h;simp only[Lib.parseUint10]at h;injection h with h;rw [h,List.append_nil]
 | cons x r ih=>
  intro acc u h0 h;simp only[Lib.parseUint10]at h;split at h
  · rename_i hd;split at h
    · cases h
    · split at h
      · cases h
      · rw[ih _ _ (by omega) h,dec_ge (u:=acc*10+(x.toNat - 48)) (by omega),show(acc*10+(x.toNat - 48)) / 10=acc by omega,show(acc*10+(x.toNat - 48)) % 10=x.toNat - 48 by omega,dec_chr hd,List.append_assoc];rfl
  · cases h
theorem parse_canon{x:UInt8}{r:Tx}{u:Nat}(hx:x≠48∨r=[])(h:Lib.parseUint10 0 (x::r) = .ok u):Lib.decDigits u=x::r:=by
 simp only[Lib.parseUint10]at h;split at h
 · rename_i hd;rw [if_neg (by omega),if_neg (by omega)]at h;have e:0*10+(x.toNat - 48)=x.toNat - 48:=by omega
   rw[e]at h;by_cases h0:x.toNat - 48=0
   · have hx':x=48:=UInt8.toNat_inj.1 (by show x.toNat=48;omega);rcases hx with hx|rfl
     · exact absurd hx' hx
     · rw[h0]at h;simp only[Lib.parseUint10]at h;injection h with h
       subst h;rw [dec_lt (by omega),hx'];rfl
   · rw[parse_dig _ _ _ (by omega) h,dec_lt (by omega),dec_chr hd];rfl
 · cases h
theorem dec_head(u:Nat):∀r,Lib.decDigits u=48::r→u=0∧r=[]:=by
 induction u using Nat.strongRecOn with
 | _ u ih=>
  intro r h;by_cases hu:u<10
  · rw[dec_lt hu]at h;injection h with h1 h2
    have:=congrArg UInt8.toNat h1;rw [UInt8.toNat_ofNat']at this;have e:(48:UInt8).toNat=48:=rfl;rw [e]at this;exact⟨by omega,h2.symm⟩
  · rw[dec_ge hu]at h
    cases e:Lib.decDigits (u / 10) with
    | nil=>
     exfalso
     rw[Lib.decDigits]at e;split at e
     · cases e
     · simp at e
    | cons y t=>
     rw[e,List.cons_append]at h;injection h with h1 h2
     rw[h1]at e;have:=ih (u / 10) (by omega) t e;omega
theorem dec_length:∀(k u:Nat),u<10 ^ (k+1)→(Lib.decDigits u).length≤k+1:=by
 intro k
 induction k with
 | zero=>intro u h;rw [dec_lt (by omega)];simp
 | succ k ih=>
  intro u h;by_cases hu:u<10
  · rw[dec_lt hu];simp
  · rw[dec_ge hu,List.length_append,List.length_singleton];have:=ih (u / 10) (by rw[Nat.div_lt_iff_lt_mul (by omega)];rw [Nat.pow_succ]at h;exact h);omega
theorem dec_digs(u:Nat):∀c∈Lib.decDigits u,48≤c.toNat∧c.toNat≤57:=by
 induction u using Nat.strongRecOn with
 | _ u ih=>
  intro c hc;by_cases hu:u<10
  · rw[dec_lt hu,List.mem_singleton]at hc;subst hc;rw [UInt8.toNat_ofNat'];omega
  · rw[dec_ge hu,List.mem_append,List.mem_singleton]at hc;rcases hc with hc|rfl
    · exact ih (u / 10) (by omega) c hc
    · rw[UInt8.toNat_ofNat'];omega
theorem magR_some{neg:Bool}{w:Tx}{m:Nat}(h:magR neg w=some m):Lib.parseMag w = .ok m∧m≤9223372036854775808∧Lib.decDigits m=w∧(neg=true→0<m):=by
 unfold magR at h;split at h
 · cases h
 · rename_i hn;rw [digR_some _ _ _ (by omega)]at h
   cases w with
   | nil=>exfalso;apply hn;left;simp
   | cons x r =>
    have hx:x≠48∨r=[]:=by
     by_cases e:x=48
     · right
       cases r with
       | nil=>rfl
       | cons y t=>exfalso;apply hn;right;right;rw [e];exact⟨rfl,.inl (by simp)⟩
     · exact .inl e
    have hc:=parse_canon hx h.1;refine⟨by unfold Lib.parseMag;rw [if_neg (by simp)];exact h.1,h.2,hc,fun hneg=>?_⟩
    cases m with
    | zero=>
     exfalso
     apply hn;right;right;rw [dec_lt (by omega)]at hc;rw [← hc];exact⟨rfl,.inr hneg⟩
    | succ m=>omega
theorem magR_of{neg:Bool}{w:Tx}{m:Nat}(hm:m≤9223372036854775808)(hw:Lib.decDigits m=w)(h:Lib.parseMag w = .ok m)(hneg:neg=true→0<m):magR neg w=some m:=by
 unfold magR;have hl:w.length≤19:=by rw[← hw];exact dec_length 18 m (by omega)
 cases w with
 | nil=>unfold Lib.parseMag at h;rw [if_pos rfl]at h;cases h
 | cons x r=>
  rw[if_neg,digR_some _ _ _ (by omega)]
  · unfold Lib.parseMag at h;rw [if_neg (by simp)]at h;exact⟨h,hm⟩
  · rintro (h1|h1|⟨h1,h2⟩)
    · simp at h1
    · omega
    · simp only[List.head?_cons,Option.some.injEq]at h1;subst h1;obtain⟨e1,e2⟩:=dec_head m r hw;rcases h2 with h2|h2
      · subst e2;simp at h2
      · have:=hneg h2;omega
theorem itoa_neg{u:Nat}(h:0<u):Lib.itoa (-(u:Int))=45::Lib.decDigits u:=by
 unfold Lib.itoa;rw [if_pos (by omega)];congr 2;omega
theorem itoa_pos(u:Nat):Lib.itoa (u:Int)=Lib.decDigits u:=by
 unfold Lib.itoa;rw [if_neg (by omega)];simp
theorem anyOf_iff{w:Tx}{v:Int}:anyOf w=some v↔(Lib.atoiAll w = .ok v∧Lib.itoa v=w):=by
 unfold anyOf;constructor
 · intro h;split at h
   · rename_i a e;split at h
     · rename_i hb;injection h with h
       subst h;exact⟨e,by simpa using hb⟩
     · cases h
   · cases h
 · rintro ⟨h1,h2⟩
   rw[h1];dsimp only;rw [if_pos (by simpa using h2)]
theorem intR_iff{w:Tx}{v:Int}:intR w=some v↔(Lib.atoiAll w = .ok v∧Lib.itoa v=w):=by
 unfold intR
 cases w with
 | nil=>
  rw[if_neg (by simp)];constructor
  · intro h;split at h
    · rename_i m e;have:=magR_some e;rw [Lib.parseMag,if_pos rfl]at this;cases this.1
    · cases h
  · rintro ⟨h,_⟩;cases h
 | cons c r=>
  have e45:(45:UInt8).toNat=45:=rfl;by_cases hc:c=45
  · subst hc;rw [if_pos (show(45::r).head? = some 45 from rfl),List.tail_cons];unfold Lib.atoiAll;dsimp only;rw [e45,if_pos (by omega)];constructor
    · intro h;split at h
      · rename_i m e;obtain⟨h1,h2,h3,h4⟩:=magR_some e;injection h with h
        subst h;rw [h1];dsimp only;rw [if_neg (by omega),if_neg (by omega),if_pos rfl,itoa_neg (h4 rfl),h3];exact⟨rfl,rfl⟩
      · cases h
    · rintro ⟨h1,h2⟩
      cases e:Lib.parseMag r with
      | ok u=>
       rw[e]at h1;dsimp only at h1;rw [if_neg (by omega)]at h1;split at h1
       · cases h1
       · rename_i hu;rw [if_pos rfl]at h1;injection h1 with h1
         subst h1
         have hu0:0<u:=by
          cases u with
          | zero=>exfalso;rw [show(-(((0:Nat)):Int))=((0:Nat):Int) by omega,itoa_pos,dec_lt (by omega)]at h2;injection h2 with h2;revert h2;decide
          | succ u=>omega
         rw[itoa_neg hu0]at h2;injection h2 with _ h2
         rw[magR_of (by omega) h2 e fun _=>hu0]
      | _=>rw [e]at h1;cases h1
  · rw[if_neg (by simpa using hc)];have hc':c.toNat≠45:=fun e=>hc (UInt8.toNat_inj.1 e);constructor
    · intro h;split at h
      · rename_i m e;obtain⟨h1,h2,h3,h4⟩:=magR_some e;split at h
        · cases h
        · rename_i hm;injection h with h
          subst h;have hd:=dec_digs m c (by rw[h3];exact List.mem_cons_self ..);unfold Lib.atoiAll;dsimp only;rw [if_neg (by omega),h1];dsimp only;rw [if_neg (by omega),if_neg (by omega),if_neg hc',itoa_pos,h3];exact⟨rfl,rfl⟩
      · cases h
    · rintro ⟨h1,h2⟩
      unfold Lib.atoiAll at h1;dsimp only at h1;by_cases hp:c.toNat=43
      · exfalso
        have hv:∃u:Nat,v=u:=by
         rw[if_pos (.inl hp)]at h1
         cases e:Lib.parseMag r with
         | ok u=>
          rw[e]at h1;dsimp only at h1;split at h1
          · cases h1
          · split at h1
            · cases h1
            · try rw[if_neg hc']at h1
              injection h1 with h1;exact⟨u,h1.symm⟩
         | _=>rw [e]at h1;cases h1
        obtain⟨u,rfl⟩:=hv;rw [itoa_pos]at h2;have:=dec_digs u c (by rw[h2];exact List.mem_cons_self ..);omega
      · rw[if_neg (by omega)]at h1
        cases e:Lib.parseMag (c::r) with
        | ok u=>
         rw[e]at h1;dsimp only at h1;split at h1
         · cases h1
         · rename_i hu;split at h1
           · cases h1
           · try rw[if_neg hc']at h1
             injection h1 with h1
             subst h1;rw [itoa_pos]at h2;rw [magR_of (by omega) h2 e fun h=>by cases h];dsimp only;rw [if_neg (by omega)]
        | _=>rw [e]at h1;cases h1
theorem intR_any(w:Tx):intR w=anyOf w:=by
 cases e:anyOf w with
 | some v=>exact intR_iff.2 (anyOf_iff.1 e)
 | none=>
  cases e':intR w with
  | none=>rfl
  | some v=>rw [anyOf_iff.2 (intR_iff.1 e')]at e;cases e
end Go.Ex.Vir
namespace Go.Ex.Vir
open Go Go.Ex
def smallR(w:Tx):Option Int:=match intR w with
 | some v=>if small v then some v else none
 | none=>none
def smallsR:List Tx→Option (List Int)
 | []=>some []
 | w :: r => match smallR w with
  | some v=>(match smallsR r with
   | some l=>some (v::l)
   | none=>none)
  | none=>none
def callR(d:Int):List Tx→Except Int Ins
 | []=>.error 3
 | s::r=>match smallsR r with
  | some l=>if named s then(if l.length≤16 then .ok { Ins.z with kind:=6,d:=d,name:=s,args:=l } else .error 2) else .error 3
  | none=>.error 3
def defR(d:Int):List Tx→Except Int Ins
 | s :: t :: r =>
  if s=tCall then callR d (t::r)
  else if s=tConst then(match intR t with
   | some v=>if r=[] then .ok { Ins.z with kind:=1,d:=d,n:=v } else .error 3
   | none=>.error 3)
  else(match smallsR (t::r) with
   | some l=>
    if s=tCopy∨s=tLoad then(if l.length=1 then .ok { Ins.z with kind:=if s=tLoad then 4 else 2,d:=d,a:=l.headD 0 } else .error 3)
    else if named s∧wordB s=false∧l.length≤2 then .ok { Ins.z with kind:=3,d:=d,name:=s,args:=l } else .error 3
   | none=>.error 3)
 | _=>.error 3
def ownR(s:Tx)(l:List Int):Except Int Ins:=
 if s=tStore then(if l.length=2 then .ok { Ins.z with kind:=5,a:=l.headD 0,b:=l.getD 1 0 } else .error 3)
 else if s=tBr then(if l.length=3 then .ok { Ins.z with kind:=7,a:=l.headD 0,t:=l.getD 1 0,f:=l.getD 2 0 } else .error 3)
 else if s=tJump then(if l.length=1 then .ok { Ins.z with kind:=8,t:=l.headD 0 } else .error 3)
 else(if l.length=1 then .ok { Ins.z with kind:=9,a:=l.headD 0 } else .error 3)
def insR:List Tx→Except Int Ins
 | []=>.error 3
 | a :: r =>
  if a=tStore∨a=tBr∨a=tJump∨a=tRet then(match smallsR r with
   | some l=>ownR a l
   | none=>.error 3)
  else if a=tCall then callR (-1) r
  else match smallR a with
   | some d=>(match r with
    | e::s::t::q=>if e=tEq then defR d (s::t::q) else .error 3
    | _=>.error 3)
   | none=>.error 3
def headT(n:Nat):Tx:=match n with
 | 0=>tFunc
 | 1=>tRegs
 | 2=>tParams
 | _=>tResult
def headR(f:Fct)(n:Nat):List Tx→Except Int Fct
 | []=>.error 3
 | a :: r =>
  if a=headT n then
   (if n=2 then(match smallsR r with
    | some p=>if p.length≤16 then .ok { f with params:=p } else .error 2
    | none=>.error 3)
   else if r.all named then
    (if n=1 then(if r.length≤500 then .ok { f with vregs:=r } else .error 2)
    else match r with
     | [x]=>if n=0 then .ok { f with name:=x } else .ok { f with result:=x }
     | _=>.error 3)
   else .error 3)
  else .error 3
def linesR(s:Tx):List Tx×Bool:=
 if (zO 10 s).getLastD []=[] then((zO 10 s).dropLast,true) else(zO 10 s,false)
def runR(whole:Bool):List Tx→Nat→Fct→Fct×Int×Int
 | [],i,_=>(Fct.z,(i:Int)+1,3)
 | s :: r, i, f =>
  if whole=false∧r=[] then(Fct.z,(i:Int)+1,3)
  else if i<4 then(match headR f i (zO 32 s) with
   | .error e=>(Fct.z,(i:Int)+1,e)
   | .ok f'=>runR whole r (i+1) f')
  else if s=tEnd then(if r=[] then(f,0,0) else(Fct.z,(i:Int)+2,3))
  else if s=tBlock then(if f.blocks.length<200 then runR whole r (i+1) { f with blocks:=f.blocks++[[]] } else(Fct.z,(i:Int)+1,2))
  else if s.length<3∨s.take 2≠tTwo∨f.blocks=[] then(Fct.z,(i:Int)+1,3)
  else(match insR (zO 32 (s.drop 2)) with
   | .error e=>(Fct.z,(i:Int)+1,e)
   | .ok x=>if (f.blocks.getLastD []).length<400 then runR whole r (i+1) { f with blocks:=addIns f.blocks x } else(Fct.z,(i:Int)+1,2))
def readR(s:Tx):Fct×Int×Int:=if 65536<s.length then(Fct.z,0,2) else runR (linesR s).2 (linesR s).1 0 Fct.z
theorem numberW_cons(w:Tx)(r:List Tx):numberW (w::r)=match smallR w with
 | some v=>.ok (v,r)
 | none=>.error 3:=by
 unfold numberW anyW smallR;dsimp only;rw [← intR_any]
 cases intR w with
 | none=>rfl
 | some v=>
  dsimp only;cases small v <;> rfl
theorem restNums_eq:∀(ws:List Tx) (k:Nat),ws.length≤k→restW numberW k ws=match smallsR ws with
 | some l=>.ok (l,[])
 | none=>.error 3:=by
 intro ws
 induction ws with
 | nil=>intro k _;cases k <;> rfl
 | cons w r ih =>
  intro k hk;obtain⟨k,rfl⟩:∃j,k=j+1:=⟨k - 1,by simp at hk;omega⟩;have e:=numberW_cons w r;unfold smallsR
  cases hw:smallR w with
  | none=>rw [hw]at e;exact restW_er1 e
  | some v=>
   rw[hw]at e;have i:=ih k (by simpa using hk);dsimp only
   cases hr:smallsR r with
   | none=>rw [hr]at i;exact restW_er2 e i
   | some l=>rw [hr]at i;exact restW_ok e i
theorem restNums_is(ws:List Tx):restNums ws=match smallsR ws with
 | some l=>.ok (l,[])
 | none=>.error 3:=restNums_eq ws _ (Nat.le_refl _)
theorem restNames_eq:∀(ws:List Tx) (k:Nat),ws.length≤k→restW nameW k ws=if ws.all named then .ok (ws,[]) else .error 3:=by
 intro ws
 induction ws with
 | nil=>intro k _;cases k <;> rfl
 | cons w r ih =>
  intro k hk;obtain⟨k,rfl⟩:∃j,k=j+1:=⟨k - 1,by simp at hk;omega⟩;have e:nameW (w::r)=if named w then .ok (w,r) else .error 3:=rfl
  have i:=ih k (by simpa using hk);rw [List.all_cons]
  cases hw:named w with
  | false=>rw [hw]at e;exact restW_er1 e
  | true=>
   rw[hw]at e;rw [Bool.true_and]
   cases hr:r.all named with
   | false=>rw [hr]at i;exact restW_er2 e i
   | true=>rw [hr]at i;exact restW_ok e i
theorem restNames_is(ws:List Tx):restNames ws=if ws.all named then .ok (ws,[]) else .error 3:=restNames_eq ws _ (Nat.le_refl _)
theorem uH:∀{ws:List Tx} {l:List Int},smallsR ws=some l→l.length=ws.length:=by
 intro ws
 induction ws with
 | nil=>intro l h;unfold smallsR at h;injection h with h;subst h;rfl
 | cons w r ih=>
  intro l h;unfold smallsR at h;split at h
  · split at h
    · rename_i hr;injection h with h
      subst h;rw [List.length_cons,List.length_cons,ih hr]
    · cases h
  · cases h
theorem smallsR_bad{ws:List Tx}(h:∃w∈ws,smallR w=none):smallsR ws=none:=by
 induction ws with
 | nil=>obtain⟨w,hw,_⟩:=h;cases hw
 | cons w r ih=>
  unfold smallsR;obtain⟨x,hx,e⟩:=h;rcases List.mem_cons.1 hx with rfl|hx
  · rw[e]
  · rw[ih ⟨x,hx,e⟩];cases smallR w <;> rfl
def allI(ws:List Tx):Except Int Ins:=match oneI ws with
 | .error e=>.error e
 | .ok (i,r)=>match endW r with
  | .error e=>.error e
  | .ok _=>.ok i
theorem calledI_is(d:Int)(ws:List Tx):calledI { Ins.z with d:=d } ws=match callR d ws with
 | .error e=>.error e
 | .ok i=>.ok (i,[]):=by
 unfold calledI callR
 cases ws with
 | nil=>rfl
 | cons s r =>
  cases hs:named s with
  | false=>
   simp only[nameW,hs,Bool.false_eq_true,if_false];cases smallsR r <;> rfl
  | true =>
   simp only[nameW,restNums_is,hs,if_true]
   cases smallsR r with
   | none=>rfl
   | some l=>
    by_cases h:l.length≤16
    · simp only[h,if_true]
    · simp only[h,if_false]
def finI(x:Res Ins):Except Int Ins:=match x with
 | .error e=>.error e
 | .ok (i,r)=>match endW r with
  | .error e=>.error e
  | .ok _=>.ok i
theorem allI_fin(ws:List Tx):allI ws=finI (oneI ws):=rfl
theorem fin_called(d:Int)(ws:List Tx):finI (calledI { Ins.z with d:=d } ws)=callR d ws:=by
 rw[calledI_is];cases callR d ws <;> rfl
theorem uU{w:Tx}(h:w=tStore∨w=tBr∨w=tJump∨w=tRet∨w=tCall∨w=tEq∨w=[]):smallR w=none:=by
 rcases h with rfl|rfl|rfl|rfl|rfl|rfl|rfl <;> rfl
theorem named_eq:named tEq=false:=by decide
theorem yR{a b:Tx}(h:a≠b):(a == b)=false:=by simpa using h
theorem copy_is(d kd:Int)(t:Tx)(q:List Tx):finI (match numberW (t::q) with
 | .error e=>.error e
 | .ok (v,r)=>.ok ({ Ins.z with kind:=kd,d:=d,a:=v },r))=(match smallsR (t::q) with
 | some l=>if l.length=1 then .ok { Ins.z with kind:=kd,d:=d,a:=l.headD 0 } else .error 3
 | none=>.error 3):=by
 rw[numberW_cons];unfold smallsR
 cases smallR t with
 | none=>rfl
 | some v =>
  cases q with
  | nil=>rfl
  | cons y q =>
   cases e:smallsR (y::q) with
   | none=>rfl
   | some l=>
    have:=uH e;rw [List.length_cons]at this;have h:¬(v::l).length=1:=by rw[List.length_cons];omega
    simp only[h,if_false];rfl
theorem defining_is(d:Int)(w:Tx)(hw:smallR w=some d)(r:List Tx):finI (definingI (w::tEq::r))=match r with
 | s::t::q=>defR d (s::t::q)
 | _=>.error 3:=by
 unfold definingI;rw [numberW_cons,hw];dsimp only;rw [show wantW tEq (tEq::r) = .ok ((),r) from rfl];dsimp only
 cases r with
 | nil=>rfl
 | cons s r =>
  by_cases h1:s=tConst
  · subst h1
    cases r with
    | nil=>rfl
    | cons t q=>
     simp only[nameW,anyW,defR,← intR_any,show named tConst=true from by decide,if_true,show(tConst == tConst)=true from by decide,show(tConst=tCall)=False from by simp,if_false]
     cases intR t with
     | none=>rfl
     | some v=>cases q <;> rfl
  by_cases h2:s=tCopy
  · subst h2
    cases r with
    | nil=>rfl
    | cons t q=>
     simp only[nameW,defR,show named tCopy=true from by decide,if_true,show(tCopy == tConst)=false from by decide,show(tCopy == tCopy)=true from by decide,show(tCopy=tCall)=False from by simp,show(tCopy=tConst)=False from by simp,show(tCopy=tLoad)=False from by simp,if_false,Bool.false_eq_true,true_or];exact copy_is d 2 t q
  by_cases h3:s=tLoad
  · subst h3
    cases r with
    | nil=>rfl
    | cons t q=>
     simp only[nameW,defR,show named tLoad=true from by decide,if_true,show(tLoad == tConst)=false from by decide,show(tLoad == tCopy)=false from by decide,show(tLoad == tLoad)=true from by decide,show(tLoad=tCall)=False from by simp,show(tLoad=tConst)=False from by simp,if_false,Bool.false_eq_true,or_true];exact copy_is d 4 t q
  by_cases h4:s=tCall
  · subst h4
    cases r with
    | nil=>rfl
    | cons t q=>
     simp only[nameW,defR,show named tCall=true from by decide,if_true,show(tCall == tConst)=false from by decide,show(tCall == tCopy)=false from by decide,show(tCall == tLoad)=false from by decide,show(tCall == tCall)=true from by decide,if_false,Bool.false_eq_true];exact fin_called d _
  have hw0:wordB s=false:=by
   unfold wordB;simp only[List.any_cons,List.any_nil,yR h1,yR h2,yR h3,yR h4,Bool.or_false]
  cases hn:named s with
  | false =>
   cases r with
   | nil=>simp only[nameW,hn,if_false,Bool.false_eq_true];rfl
   | cons t q=>
    simp only[nameW,defR,h1,h2,h3,h4,hn,if_false,Bool.false_eq_true,or_self,false_and];cases smallsR (t::q) <;> rfl
  | true =>
   cases r with
   | nil=>simp only[nameW,hn,yR h1,yR h2,yR h3,yR h4,if_true,if_false,Bool.false_eq_true,restNums_is];rfl
   | cons t q =>
    simp only[nameW,restNums_is,yR h1,yR h2,yR h3,yR h4,Bool.false_eq_true,defR,h1,h2,h3,h4,hn,hw0,if_true,if_false,or_self,true_and]
    cases e:smallsR (t::q) with
    | none=>rfl
    | some l=>
     have:=uH e;rw [List.length_cons]at this;simp only[show 1≤l.length by omega,if_true];split <;> rfl
end Go.Ex.Vir
namespace Go.Ex.Vir
open Go Go.Ex
theorem one_num(K:Int→Ins)(r:List Tx):finI (match numberW r with
 | .error e=>.error e
 | .ok (v,r)=>.ok (K v,r))=(match smallsR r with
 | some l=>if l.length=1 then .ok (K (l.headD 0)) else .error 3
 | none=>.error 3):=by
 cases r with
 | nil=>rfl
 | cons t q =>
  rw[numberW_cons];unfold smallsR
  cases smallR t with
  | none=>rfl
  | some v =>
   cases q with
   | nil=>rfl
   | cons y q =>
    cases e:smallsR (y::q) with
    | none=>rfl
    | some l=>
     have:=uH e;rw [List.length_cons]at this;have h:¬(v::l).length=1:=by rw[List.length_cons];omega
     simp only[h,if_false];rfl
theorem two_num(K:Int→Int→Ins)(r:List Tx):finI (match numberW r with
 | .error e=>.error e
 | .ok (a,r)=>match numberW r with
  | .error e=>.error e
  | .ok (v,r)=>.ok (K a v,r))=(match smallsR r with
 | some l=>if l.length=2 then .ok (K (l.headD 0) (l.getD 1 0)) else .error 3
 | none=>.error 3):=by
 cases r with
 | nil=>rfl
 | cons t q =>
  rw[numberW_cons];unfold smallsR
  cases smallR t with
  | none=>rfl
  | some v =>
   refine(one_num (K v) q).trans ?_
   cases smallsR q with
   | none=>rfl
   | some l=>
    rcases l with _|⟨x,_|⟨y,l⟩⟩
    · rfl
    · rfl
    · have h1:¬(x::y::l).length=1:=by rw[List.length_cons,List.length_cons];omega
      have h2:¬(v::x::y::l).length=2:=by rw[List.length_cons,List.length_cons,List.length_cons];omega
      simp only[h1,h2,if_false]
theorem three_num(K:Int→Int→Int→Ins)(r:List Tx):finI (match numberW r with
 | .error e=>.error e
 | .ok (a, r) => match numberW r with
  | .error e=>.error e
  | .ok (b,r)=>match numberW r with
   | .error e=>.error e
   | .ok (v,r)=>.ok (K a b v,r))=(match smallsR r with
 | some l=>if l.length=3 then .ok (K (l.headD 0) (l.getD 1 0) (l.getD 2 0)) else .error 3
 | none=>.error 3):=by
 cases r with
 | nil=>rfl
 | cons t q =>
  rw[numberW_cons];unfold smallsR
  cases smallR t with
  | none=>rfl
  | some v =>
   refine(two_num (K v) q).trans ?_
   cases smallsR q with
   | none=>rfl
   | some l=>
    rcases l with _|⟨x,_|⟨y,_|⟨z,l⟩⟩⟩
    · rfl
    · rfl
    · rfl
    · have h1:¬(x::y::z::l).length=2:=by rw[List.length_cons,List.length_cons,List.length_cons];omega
      have h2:¬(v::x::y::z::l).length=3:=by rw[List.length_cons,List.length_cons,List.length_cons,List.length_cons];omega
      simp only[h1,h2,if_false]
theorem own_is(a:Tx)(ha:a=tStore∨a=tBr∨a=tJump∨a=tRet)(r:List Tx)(hr:wordAt1 (a::r)≠tEq):allI (a::r)=match smallsR r with
 | some l=>ownR a l
 | none=>.error 3:=by
 rw[allI_fin];unfold oneI;rw [yR hr,if_neg (by simp)];rcases ha with rfl|rfl|rfl|rfl
 · exact two_num (fun a b=>{ Ins.z with kind:=5,a:=a,b:=b }) r
 · exact three_num (fun a b c=>{ Ins.z with kind:=7,a:=a,t:=b,f:=c }) r
 · exact one_num (fun a=>{ Ins.z with kind:=8,t:=a }) r
 · exact one_num (fun a=>{ Ins.z with kind:=9,a:=a }) r
theorem callR_eq(d:Int)(r:List Tx):callR d (tEq::r) = .error 3:=by
 unfold callR;dsimp only
 cases smallsR r with
 | none=>rfl
 | some l=>simp only[named_eq,Bool.false_eq_true,if_false]
theorem smalls_eq(r:List Tx):smallsR (tEq::r)=none:=smallsR_bad ⟨tEq,List.mem_cons_self ..,uU (by simp)⟩
theorem ins_is(ws:List Tx)(hw:ws≠[]):allI ws=insR ws:=by
 cases ws with
 | nil=>exact absurd rfl hw
 | cons a r=>
  by_cases h1:a=tStore∨a=tBr∨a=tJump∨a=tRet
  · unfold insR;dsimp only;rw [if_pos h1];by_cases hr:wordAt1 (a::r)=tEq
    · rw[allI_fin];unfold oneI;rw [hr]
      cases r with
      | nil=>cases hr
      | cons e r=>
       have:e=tEq:=hr;subst this;rw [smalls_eq];simp only[definingI,numberW_cons,uU (w:=a) (by rcases h1 with h|h|h|h <;> simp[h]),beq_self_eq_true,if_true];rfl
    · exact own_is a h1 r hr
  · unfold insR;dsimp only;rw [if_neg h1];by_cases h2:a=tCall
    · subst h2;rw [if_pos rfl,allI_fin];unfold oneI;by_cases hr:wordAt1 (tCall::r)=tEq
      · rw[hr]
        cases r with
        | nil=>cases hr
        | cons e r=>
         have:e=tEq:=hr;subst this;rw [callR_eq];rfl
      · rw[yR hr];exact fin_called (-1) r
    · rw[if_neg h2,allI_fin];unfold oneI;by_cases hr:wordAt1 (a::r)=tEq
      · rw[hr]
        cases r with
        | nil=>cases hr
        | cons e r =>
         have:e=tEq:=hr;subst this;simp only[beq_self_eq_true,if_true]
         cases hs:smallR a with
         | none=>simp only[definingI,numberW_cons,hs];rfl
         | some d=>
          rw[defining_is d a hs];rcases r with _|⟨s,_|⟨t,q⟩⟩
          · rfl
          · rfl
          · simp only[if_true]
      · rw[yR hr];rw [not_or,not_or,not_or]at h1;obtain⟨g1,g2,g3,g4⟩:=h1;simp only[nextW,yR g1,yR g2,yR g3,yR g4,yR h2,Bool.false_eq_true,if_false]
        cases smallR a with
        | none=>rfl
        | some d=>
         rcases r with _|⟨e,_|⟨s,_|⟨t,q⟩⟩⟩
         · rfl
         · rfl
         · rfl
         · have:¬e=tEq:=hr;simp only[this,if_false];rfl
theorem insR_empty{ws:List Tx}(h:[]∈ws):insR ws = .error 3:=by
 have hn:∀r:List Tx,[]∈r→smallsR r=none:=fun r hr=>smallsR_bad ⟨[],hr,uU (by simp)⟩
 have hc:∀(d:Int) (r:List Tx),[]∈r→callR d r = .error 3:=by
  intro d r hr;unfold callR
  cases r with
  | nil=>rfl
  | cons s r=>
   dsimp only;rcases List.mem_cons.1 hr with e|hr
   · subst e
     cases smallsR r with
     | none=>rfl
     | some l=>simp only[show named []=false from rfl,Bool.false_eq_true,if_false]
   · simp only[hn r hr]
 cases ws with
 | nil=>rfl
 | cons a r=>
  unfold insR;dsimp only;by_cases h1:a=tStore∨a=tBr∨a=tJump∨a=tRet
  · rw[if_pos h1,hn r (by rcases List.mem_cons.1 h with e|h;(subst e;simp at h1);exact h)]
  · rw[if_neg h1];by_cases h2:a=tCall
    · rw[if_pos h2,hc (-1) r (by rcases List.mem_cons.1 h with e|h;(subst e;cases h2);exact h)]
    · rw[if_neg h2]
      cases hs:smallR a with
      | none=>rfl
      | some d =>
       have hr:[]∈r:=by
        rcases List.mem_cons.1 h with e|h
        · rw[← e,uU (by simp)]at hs;cases hs
        · exact h
       rcases r with _|⟨e,_|⟨s,_|⟨t,q⟩⟩⟩
       · rfl
       · rfl
       · rfl
       · by_cases he:e=tEq
         · subst he;simp only[if_true]
           have hr:[]∈s::t::q:=by
            rcases List.mem_cons.1 hr with e|h
            · cases e
            · exact h
           unfold defR;dsimp only;by_cases h3:s=tCall
           · simp only[h3,if_true];exact hc d _ (by rcases List.mem_cons.1 hr with e|h;(subst e;cases h3);exact h)
           · simp only[h3,if_false];by_cases h4:s=tConst
             · simp only[h4,if_true];have ht:[]∈t::q:=by rcases List.mem_cons.1 hr with e|h;(subst e;cases h4);exact h
               rcases List.mem_cons.1 ht with e|ht
               · subst e;rfl
               · have:¬q=[]:=fun e=>by rw[e]at ht;cases ht
                 cases intR t with
                 | none=>rfl
                 | some v=>simp only[this,if_false]
             · simp only[h4,if_false];rcases List.mem_cons.1 hr with e|ht
               · subst e
                 cases smallsR (t::q) with
                 | none=>rfl
                 | some l=>simp only[show named []=false from rfl,Bool.false_eq_true,false_and,if_false,show(([]:Tx)=tCopy)=False from by simp,show(([]:Tx)=tLoad)=False from by simp,or_self]
               · rw[hn _ ht]
         · simp only[he,if_false]
theorem head_is{st:St}{n:Nat}(hn:st.step=n)(h4:n<4)(ws:List Tx):headS st ws=headR st.f n ws:=by
 unfold headS;rw [hn];have hcs:n=0∨n=1∨n=2∨n=3:=by omega
 cases ws with
 | nil=>rcases hcs with rfl|rfl|rfl|rfl <;> rfl
 | cons a r =>
  unfold headR;rcases hcs with rfl|rfl|rfl|rfl
  all_goals
   simp only[wantW,headT]
  · by_cases ha:a=tFunc
    · simp only[ha,beq_self_eq_true,if_true];rcases r with _|⟨x,_|⟨y,r⟩⟩
      · rfl
      · cases hx:named x with
        | false=>simp [nameW,hx]
        | true=>simp [nameW,hx,endW]
      · cases hx:named x with
        | false=>simp [nameW,hx]
        | true=>simp [nameW,hx,endW]
    · simp only[ha,yR ha,Bool.false_eq_true,if_false]
  · by_cases ha:a=tRegs
    · simp only[ha,beq_self_eq_true,if_true,restNames_is]
      cases r.all named with
      | false=>rfl
      | true=>rfl
    · simp only[ha,yR ha,Bool.false_eq_true,if_false]
  · by_cases ha:a=tParams
    · simp only[ha,beq_self_eq_true,if_true,restNums_is]
      cases smallsR r with
      | none=>rfl
      | some l=>rfl
    · simp only[ha,yR ha,Bool.false_eq_true,if_false]
  · by_cases ha:a=tResult
    · simp only[ha,beq_self_eq_true,if_true];rcases r with _|⟨x,_|⟨y,r⟩⟩
      · rfl
      · cases hx:named x with
        | false=>simp [nameW,hx]
        | true=>simp [nameW,hx,endW]
      · cases hx:named x with
        | false=>simp [nameW,hx]
        | true=>simp [nameW,hx,endW]
    · simp only[ha,yR ha,Bool.false_eq_true,if_false]
theorem headR_empty{f:Fct}{n:Nat}{ws:List Tx}(h:[]∈ws):headR f n ws = .error 3:=by
 cases ws with
 | nil=>rfl
 | cons a r=>
  unfold headR;dsimp only;by_cases ha:a=headT n
  · rw[if_pos ha]
    have hr:[]∈r:=by
     rcases List.mem_cons.1 h with e|h
     · subst e;exfalso;revert ha;unfold headT;split <;> intro h <;> cases h
     · exact h
    by_cases h2:n=2
    · rw[if_pos h2,smallsR_bad ⟨[],hr,uU (by simp)⟩]
    · rw[if_neg h2,if_neg fun ha=>by have:=List.all_eq_true.1 ha _ hr;cases this]
  · rw[if_neg ha]
end Go.Ex.Vir
