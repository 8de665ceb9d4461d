/-
  The statement TokensBlanksCardSaid, proved; part 4 of 8 of its proof.
  Library contracts at this program, laid by the shelf's tool; a part of them.
  The library's functions that are taken by contract: strings and numbers.
  What the rows' listed variables give in a world that begins as they say.
  A world in which the listed variables hold what the rows say: the witness of all laws of this chapter.
  A law's arguments of plain data as values of the abstract interpreter; and that they read behind a call that turns nothing as they did.
  Small facts for the laws of the tokens' functions.
-/
import Derived.Shelf.Strings.Builder1
import Derived.Shelf.Strings.Builder2
import Derived.Shelf.Strings.OnBuilder
import Derived.Shelf.Strings.Trim
import Derived.Shelf.Small.Utf8
import Derived.Shelf.Small.Strs
import Derived.Shelf.Strings.BuilderF
import Derived.Shelf.Strings.BuilderK
import Derived.Shelf.Strings.BuilderRune
import Derived.Shelf.Utf8.RuneCount
import Derived.Shelf.Strings.Builder2Cap
import Derived.Shelf.Strconv.Atoi
import Derived.Shelf.Strconv.Itoa0
import Derived.Shelf.Strconv.Itoa1
import Derived.Shelf.LaysM
import Derived.Shelf.Strconv.Itoa2
import Derived.Shelf.Strconv.Itoa3
import Derived.Shelf.Strconv.AtoiErrFast
import Derived.Shelf.Strconv.ParseIntEmpty
import Derived.Shelf.Strconv.AtoiFail
import Derived.Shelf.Strconv.Clone
import Derived.Shelf.Strconv.SyntaxError
import Derived.Shelf.LaysC
import Derived.Shelf.Strconv.ToError
import Derived.Shelf.Strconv.Lower
import Derived.Shelf.Strconv.ParseUint10
import Derived.Shelf.Strconv.ParseUint10Empty
import Derived.Shelf.Strconv.ParseUint10Any
import Derived.Shelf.Strconv.ParseInt10
import Derived.Shelf.Strconv.AtoiLong
import Derived.Shelf.Strconv.AtoiInnerAll
import Derived.Shelf.Strconv.RangeError
import Derived.Shelf.Strconv.ToErrorRange
import Derived.Shelf.Strconv.AtoiAll
import Derived.Shelf.Strconv.ErrVarAll
import Derived.Shelf.Strings.Search1
import Derived.Shelf.Strings.Search2
import Derived.Shelf.Strings.Search3
import Derived.Shelf.Strings.Cut
import Derived.Shelf.Strings.Count
import Derived.Shelf.Strings.Shaped
import Derived.Shelf.GgClosure.StringsIndexFunc
import Derived.Ground.GgwProg
import Derived.Shelf.GgClosure.StringsIndexFuncTop
import Derived.Shelf.Strings.Prefix
import Derived.Shelf.Strings.Split
import Derived.Shelf.Strings.Replace
import Derived.Shelf.Strings.SplitShaped
import Derived.Shelf.Unicode.Latin
import Derived.Shelf.Unicode.Decode
import Derived.Shelf.Strings.Runes
import Derived.Shelf.Strings.RuneCount
import Derived.Shelf.Strings.IndexAny
import Derived.Shelf.Strings.AsciiSet
import Derived.Shelf.Strings.IndexAnyAll
import Derived.Shelf.Unicode.DecodeSlow
import Derived.Shelf.Unicode.DecodeAny
import Derived.Shelf.Unicode.DecodeLast
import Derived.Shelf.Unicode.CaseLookup
import Derived.Shelf.Unicode.CaseConvert
import Derived.Shelf.Unicode.CaseTo
import Derived.Shelf.Unicode.CaseLaid
import Derived.Shelf.Strings.MapAny
import Derived.Shelf.Strings.CaseAny
import Derived.Shelf.Strings.FuncGrows
import Derived.Shelf.Strings.BuilderCap
import Derived.Test.YtfcjjankfjaapaaGreatDoorProg
import Derived.Test.YtfcjjankfjaapaaGreatDoorK2
import Derived.Lib.CaseU
import Derived.Lib.SmallJoins
import Derived.Lib.SplitLaws
import Derived.Lib.DecodeN
import Derived.Test.YtfcjjankfjaapaaGreatDoorRows
import Derived.PinnedBridge
import Derived.Lib.LaidU8T
import Derived.Stop.LaidErr
import Derived.Shelf.Vars
import Derived.ProofKit
import Derived.Great.CaseRows
import Derived.Lib.LaidIn
import Derived.Deep.DeepHandedRow
import Derived.Deep.DeepWitnessRowRef
import Derived.OpenShut
import Derived.Deep.Slices
import Derived.ChangeStays
import Derived.ChangeBook
set_option linter.all false
set_option linter.unusedSectionVars false
namespace Go.Proofs
open Go.Shelf
def Tryz.lays169_ren:Go.Shelf.Ren:=⟨fun|169=>77|n=>n,fun|70=>100|9=>9|0=>0|72=>103|37=>101|127=>137|3=>3|5=>5|n=>n,fun|n=>n⟩
theorem Tryz.Builder_Extra_169 : Builder.Extra Tryz.prog Tryz.lays169_ren := {
 sizeBuilder:=by kernel_rfl
 liesBuilder:=by kernel_rfl
 t5:=Tryz.underlying5
 a5:=Tryz.isAgg5
 z5:=Tryz.sizeOf5
 v5:=Tryz.zeroValue5
 infoByte:=by kernel_rfl
 cellsByte:=by kernel_rfl
 sizeByte:=by kernel_rfl
 neB5:=by decide}
def Tryz.lays158_ren:Go.Shelf.Ren:=⟨fun|158=>91|165=>129|166=>75|167=>74|169=>77|230=>130|203=>131|240=>116|241=>153|197=>141|118=>154|168=>155|270=>156|262=>157|276=>146|277=>179|260=>160|242=>180|313=>181|278=>197|274=>198|275=>199|n=>n,fun|9=>9|4=>4|3=>3|5=>5|72=>103|0=>0|76=>77|75=>76|107=>151|70=>100|20=>20|37=>101|127=>137|21=>21|105=>155|164=>159|162=>195|203=>193|119=>199|46=>154|139=>202|138=>201|51=>196|160=>212|208=>219|206=>217|80=>107|n=>n,fun|13=>3|3=>4|4=>5|n=>n⟩
theorem Tryz.lays158 : Go.Proofs.Lays.n158 Tryz.prog Tryz.lays158_ren := {
 mixed:=by kernel_rfl
 f118:=Tryz.func154.trans (congrArg some (by kernel_rfl))
 f158:=Tryz.func91.trans (congrArg some (by kernel_rfl))
 f165:=Tryz.func129.trans (congrArg some (by kernel_rfl))
 f166:=Tryz.func75.trans (congrArg some (by kernel_rfl))
 f167:=Tryz.func74.trans (congrArg some (by kernel_rfl))
 f168:=Tryz.func155.trans (congrArg some (by kernel_rfl))
 f169:=Tryz.func77.trans (congrArg some (by kernel_rfl))
 f197:=Tryz.func141.trans (congrArg some (by kernel_rfl))
 f203:=Tryz.func131.trans (congrArg some (by kernel_rfl))
 f230:=Tryz.func130.trans (congrArg some (by kernel_rfl))
 f240:=Tryz.func116.trans (congrArg some (by kernel_rfl))
 f241:=Tryz.func153.trans (congrArg some (by kernel_rfl))
 f242:=Tryz.func180.trans (congrArg some (by kernel_rfl))
 f260:=Tryz.func160.trans (congrArg some (by kernel_rfl))
 f262:=Tryz.func157.trans (congrArg some (by kernel_rfl))
 f270:=Tryz.func156.trans (congrArg some (by kernel_rfl))
 f274:=Tryz.func198.trans (congrArg some (by kernel_rfl))
 f275:=Tryz.func199.trans (congrArg some (by kernel_rfl))
 f276:=Tryz.func146.trans (congrArg some (by kernel_rfl))
 f277:=Tryz.func179.trans (congrArg some (by kernel_rfl))
 f278:=Tryz.func197.trans (congrArg some (by kernel_rfl))
 f313:=Tryz.func181.trans (congrArg some (by kernel_rfl))
 t0:=Tryz.underlying0
 a0:=Tryz.isAgg0
 z0:=Tryz.sizeOf0
 v0:=Tryz.zeroValue0
 t3:=Tryz.underlying3
 a3:=Tryz.isAgg3
 z3:=Tryz.sizeOf3
 v3:=Tryz.zeroValue3
 t4:=Tryz.underlying4
 a4:=Tryz.isAgg4
 z4:=Tryz.sizeOf4
 v4:=Tryz.zeroValue4
 t5:=Tryz.underlying5
 a5:=Tryz.isAgg5
 z5:=Tryz.sizeOf5
 v5:=Tryz.zeroValue5
 t9:=Tryz.underlying9
 a9:=Tryz.isAgg9
 z9:=Tryz.sizeOf9
 v9:=Tryz.zeroValue9
 t20:=Tryz.underlying20
 a20:=Tryz.isAgg20
 z20:=Tryz.sizeOf20
 v20:=Tryz.zeroValue20
 t21:=Tryz.underlying21
 a21:=Tryz.isAgg21
 z21:=Tryz.sizeOf21
 v21:=Tryz.zeroValue21
 t37:=Tryz.underlying101
 a37:=Tryz.isAgg101
 z37:=Tryz.sizeOf101
 v37:=Tryz.zeroValue101
 t46:=Tryz.underlying154
 a46:=Tryz.isAgg154
 z46:=Tryz.sizeOf154
 v46:=Tryz.zeroValue154
 t51:=Tryz.underlying196
 a51:=Tryz.isAgg196
 z51:=Tryz.sizeOf196
 v51:=Tryz.zeroValue196
 t70:=Tryz.underlying100
 a70:=Tryz.isAgg100
 z70:=Tryz.sizeOf100
 v70:=Tryz.zeroValue100
 t72:=Tryz.underlying103
 a72:=Tryz.isAgg103
 z72:=Tryz.sizeOf103
 v72:=Tryz.zeroValue103
 t75:=Tryz.underlying76
 a75:=Tryz.isAgg76
 z75:=Tryz.sizeOf76
 v75:=Tryz.zeroValue76
 t76:=Tryz.underlying77
 a76:=Tryz.isAgg77
 z76:=Tryz.sizeOf77
 v76:=Tryz.zeroValue77
 t105:=Tryz.underlying155
 a105:=Tryz.isAgg155
 z105:=Tryz.sizeOf155
 v105:=Tryz.zeroValue155
 t107:=Tryz.underlying151
 a107:=Tryz.isAgg151
 z107:=Tryz.sizeOf151
 v107:=Tryz.zeroValue151
 t119:=Tryz.underlying199
 a119:=Tryz.isAgg199
 z119:=Tryz.sizeOf199
 t127:=Tryz.underlying137
 a127:=Tryz.isAgg137
 z127:=Tryz.sizeOf137
 v127:=Tryz.zeroValue137
 t138:=Tryz.underlying201
 a138:=Tryz.isAgg201
 z138:=Tryz.sizeOf201
 v138:=Tryz.zeroValue201
 t139:=Tryz.underlying202
 a139:=Tryz.isAgg202
 z139:=Tryz.sizeOf202
 v139:=Tryz.zeroValue202
 t160:=Tryz.underlying212
 a160:=Tryz.isAgg212
 z160:=Tryz.sizeOf212
 v160:=Tryz.zeroValue212
 t162:=Tryz.underlying195
 a162:=Tryz.isAgg195
 z162:=Tryz.sizeOf195
 v162:=Tryz.zeroValue195
 t164:=Tryz.underlying159
 a164:=Tryz.isAgg159
 z164:=Tryz.sizeOf159
 v164:=Tryz.zeroValue159
 t203:=Tryz.underlying193
 a203:=Tryz.isAgg193
 z203:=Tryz.sizeOf193
 v203:=Tryz.zeroValue193
 t206:=Tryz.underlying217
 a206:=Tryz.isAgg217
 z206:=Tryz.sizeOf217
 v206:=Tryz.zeroValue217
 t208:=Tryz.underlying219
 a208:=Tryz.isAgg219
 z208:=Tryz.sizeOf219
 v208:=Tryz.zeroValue219
 g3:=by kernel_rfl
 g4:=by kernel_rfl
 g13:=by kernel_rfl}
theorem Tryz.Builder_Extra_158 : Builder.Extra Tryz.prog Tryz.lays158_ren := {
 sizeBuilder:=by kernel_rfl
 liesBuilder:=by kernel_rfl
 t5:=Tryz.underlying5
 a5:=Tryz.isAgg5
 z5:=Tryz.sizeOf5
 v5:=Tryz.zeroValue5
 infoByte:=by kernel_rfl
 cellsByte:=by kernel_rfl
 sizeByte:=by kernel_rfl
 neB5:=by decide}
def Tryz.lays161_ren:Go.Shelf.Ren:=⟨fun|161=>62|231=>106|227=>103|233=>107|235=>108|228=>104|197=>141|151=>142|260=>160|152=>101|137=>136|119=>137|224=>138|225=>139|217=>158|266=>182|n=>n,fun|9=>9|4=>4|3=>3|5=>5|117=>131|116=>130|0=>0|124=>135|105=>155|21=>21|119=>199|46=>154|139=>202|138=>201|n=>n,fun|3=>4|4=>5|n=>n⟩
theorem Tryz.lays161 : Go.Proofs.Lays.n161 Tryz.prog Tryz.lays161_ren := {
 mixed:=by kernel_rfl
 f119:=Tryz.func137.trans (congrArg some (by kernel_rfl))
 f137:=Tryz.func136.trans (congrArg some (by kernel_rfl))
 f151:=Tryz.func142.trans (congrArg some (by kernel_rfl))
 f152:=Tryz.func101.trans (congrArg some (by kernel_rfl))
 f161:=Tryz.func62.trans (congrArg some (by kernel_rfl))
 f197:=Tryz.func141.trans (congrArg some (by kernel_rfl))
 f217:=Tryz.func158.trans (congrArg some (by kernel_rfl))
 f224:=Tryz.func138.trans (congrArg some (by kernel_rfl))
 f225:=Tryz.func139.trans (congrArg some (by kernel_rfl))
 f227:=Tryz.func103.trans (congrArg some (by kernel_rfl))
 f228:=Tryz.func104.trans (congrArg some (by kernel_rfl))
 f231:=Tryz.func106.trans (congrArg some (by kernel_rfl))
 f233:=Tryz.func107.trans (congrArg some (by kernel_rfl))
 f235:=Tryz.func108.trans (congrArg some (by kernel_rfl))
 f260:=Tryz.func160.trans (congrArg some (by kernel_rfl))
 f266:=Tryz.func182.trans (congrArg some (by kernel_rfl))
 t0:=Tryz.underlying0
 a0:=Tryz.isAgg0
 z0:=Tryz.sizeOf0
 v0:=Tryz.zeroValue0
 t3:=Tryz.underlying3
 a3:=Tryz.isAgg3
 z3:=Tryz.sizeOf3
 v3:=Tryz.zeroValue3
 t4:=Tryz.underlying4
 a4:=Tryz.isAgg4
 z4:=Tryz.sizeOf4
 v4:=Tryz.zeroValue4
 t5:=Tryz.underlying5
 a5:=Tryz.isAgg5
 z5:=Tryz.sizeOf5
 v5:=Tryz.zeroValue5
 t9:=Tryz.underlying9
 a9:=Tryz.isAgg9
 z9:=Tryz.sizeOf9
 v9:=Tryz.zeroValue9
 t21:=Tryz.underlying21
 a21:=Tryz.isAgg21
 z21:=Tryz.sizeOf21
 v21:=Tryz.zeroValue21
 t46:=Tryz.underlying154
 a46:=Tryz.isAgg154
 z46:=Tryz.sizeOf154
 v46:=Tryz.zeroValue154
 t105:=Tryz.underlying155
 a105:=Tryz.isAgg155
 z105:=Tryz.sizeOf155
 v105:=Tryz.zeroValue155
 t116:=Tryz.underlying130
 a116:=Tryz.isAgg130
 z116:=Tryz.sizeOf130
 t117:=Tryz.underlying131
 a117:=Tryz.isAgg131
 z117:=Tryz.sizeOf131
 v117:=Tryz.zeroValue131
 t119:=Tryz.underlying199
 a119:=Tryz.isAgg199
 z119:=Tryz.sizeOf199
 t124:=Tryz.underlying135
 a124:=Tryz.isAgg135
 z124:=Tryz.sizeOf135
 v124:=Tryz.zeroValue135
 t138:=Tryz.underlying201
 a138:=Tryz.isAgg201
 z138:=Tryz.sizeOf201
 v138:=Tryz.zeroValue201
 t139:=Tryz.underlying202
 a139:=Tryz.isAgg202
 z139:=Tryz.sizeOf202
 v139:=Tryz.zeroValue202
 g3:=by kernel_rfl
 g4:=by kernel_rfl}
open Go.RowKit in
theorem Tryz.strings_TrimLeft_one (s:ByteArray)(c:UInt8)(hc:c.toNat<128)(w:World):
  Calls Tryz.prog 62 #[.string s,.string ⟨#[c]⟩] w fun e w'=>e= .returned (.string ⟨(Lib.trimLeftB s.data.toList c).toArray⟩)∧w'=w:=Any.strings_TrimLeft_one Tryz.lays161 s c hc w
def Tryz.lays162_ren:Go.Shelf.Ren:=⟨fun|162=>63|232=>109|227=>103|234=>110|236=>111|228=>104|271=>143|151=>142|120=>161|197=>141|152=>101|260=>160|137=>136|119=>137|224=>138|225=>139|217=>158|266=>182|n=>n,fun|9=>9|4=>4|3=>3|5=>5|117=>131|116=>130|0=>0|124=>135|21=>21|105=>155|46=>154|119=>199|139=>202|138=>201|n=>n,fun|3=>4|4=>5|n=>n⟩
theorem Tryz.lays162 : Go.Proofs.Lays.n162 Tryz.prog Tryz.lays162_ren := {
 mixed:=by kernel_rfl
 f119:=Tryz.func137.trans (congrArg some (by kernel_rfl))
 f120:=Tryz.func161.trans (congrArg some (by kernel_rfl))
 f137:=Tryz.func136.trans (congrArg some (by kernel_rfl))
 f151:=Tryz.func142.trans (congrArg some (by kernel_rfl))
 f152:=Tryz.func101.trans (congrArg some (by kernel_rfl))
 f162:=Tryz.func63.trans (congrArg some (by kernel_rfl))
 f197:=Tryz.func141.trans (congrArg some (by kernel_rfl))
 f217:=Tryz.func158.trans (congrArg some (by kernel_rfl))
 f224:=Tryz.func138.trans (congrArg some (by kernel_rfl))
 f225:=Tryz.func139.trans (congrArg some (by kernel_rfl))
 f227:=Tryz.func103.trans (congrArg some (by kernel_rfl))
 f228:=Tryz.func104.trans (congrArg some (by kernel_rfl))
 f232:=Tryz.func109.trans (congrArg some (by kernel_rfl))
 f234:=Tryz.func110.trans (congrArg some (by kernel_rfl))
 f236:=Tryz.func111.trans (congrArg some (by kernel_rfl))
 f260:=Tryz.func160.trans (congrArg some (by kernel_rfl))
 f266:=Tryz.func182.trans (congrArg some (by kernel_rfl))
 f271:=Tryz.func143.trans (congrArg some (by kernel_rfl))
 t0:=Tryz.underlying0
 a0:=Tryz.isAgg0
 z0:=Tryz.sizeOf0
 v0:=Tryz.zeroValue0
 t3:=Tryz.underlying3
 a3:=Tryz.isAgg3
 z3:=Tryz.sizeOf3
 v3:=Tryz.zeroValue3
 t4:=Tryz.underlying4
 a4:=Tryz.isAgg4
 z4:=Tryz.sizeOf4
 v4:=Tryz.zeroValue4
 t5:=Tryz.underlying5
 a5:=Tryz.isAgg5
 z5:=Tryz.sizeOf5
 v5:=Tryz.zeroValue5
 t9:=Tryz.underlying9
 a9:=Tryz.isAgg9
 z9:=Tryz.sizeOf9
 v9:=Tryz.zeroValue9
 t21:=Tryz.underlying21
 a21:=Tryz.isAgg21
 z21:=Tryz.sizeOf21
 v21:=Tryz.zeroValue21
 t46:=Tryz.underlying154
 a46:=Tryz.isAgg154
 z46:=Tryz.sizeOf154
 v46:=Tryz.zeroValue154
 t105:=Tryz.underlying155
 a105:=Tryz.isAgg155
 z105:=Tryz.sizeOf155
 v105:=Tryz.zeroValue155
 t116:=Tryz.underlying130
 a116:=Tryz.isAgg130
 z116:=Tryz.sizeOf130
 t117:=Tryz.underlying131
 a117:=Tryz.isAgg131
 z117:=Tryz.sizeOf131
 v117:=Tryz.zeroValue131
 t119:=Tryz.underlying199
 a119:=Tryz.isAgg199
 z119:=Tryz.sizeOf199
 t124:=Tryz.underlying135
 a124:=Tryz.isAgg135
 z124:=Tryz.sizeOf135
 v124:=Tryz.zeroValue135
 t138:=Tryz.underlying201
 a138:=Tryz.isAgg201
 z138:=Tryz.sizeOf201
 v138:=Tryz.zeroValue201
 t139:=Tryz.underlying202
 a139:=Tryz.isAgg202
 z139:=Tryz.sizeOf202
 v139:=Tryz.zeroValue202
 g3:=by kernel_rfl
 g4:=by kernel_rfl}
open Go.RowKit in
theorem Tryz.strings_TrimRight_one (s:ByteArray)(c:UInt8)(hc:c.toNat<128)(w:World)(hs:s.size≤9223372036854775807):
  Calls Tryz.prog 63 #[.string s,.string ⟨#[c]⟩] w fun e w'=>e= .returned (.string ⟨(Lib.trimRightB s.data.toList c).toArray⟩)∧w'=w:=Any.strings_TrimRight_one Tryz.lays162 s c hc w hs
def Tryz.laysM171_ren:Go.Shelf.Ren:=⟨fun|171=>66|243=>113|246=>144|283=>162|284=>163|285=>164|286=>165|129=>185|317=>184|318=>186|319=>187|320=>188|337=>200|338=>201|n=>n,fun|3=>3|9=>9|2=>2|4=>4|171=>174|0=>0|53=>165|37=>101|5=>5|173=>177|212=>204|51=>196|20=>20|213=>205|46=>154|232=>220|233=>221|n=>n,fun|17=>6|18=>7|19=>8|n=>n⟩
theorem Tryz.laysM171 : Go.Proofs.LaysM.n171 Tryz.prog Tryz.laysM171_ren := {
 mixed:=by kernel_rfl
 f129:=Tryz.func185.trans (congrArg some (by kernel_rfl))
 f171:=Tryz.func66.trans (congrArg some (by kernel_rfl))
 f243:=Tryz.func113.trans (congrArg some (by kernel_rfl))
 f246:=Tryz.func144.trans (congrArg some (by kernel_rfl))
 f283:=Tryz.func162.trans (congrArg some (by kernel_rfl))
 f284:=Tryz.func163.trans (congrArg some (by kernel_rfl))
 f285:=Tryz.func164.trans (congrArg some (by kernel_rfl))
 f286:=Tryz.func165.trans (congrArg some (by kernel_rfl))
 f317:=Tryz.func184.trans (congrArg some (by kernel_rfl))
 f318:=Tryz.func186.trans (congrArg some (by kernel_rfl))
 f319:=Tryz.func187.trans (congrArg some (by kernel_rfl))
 f320:=Tryz.func188.trans (congrArg some (by kernel_rfl))
 f337:=Tryz.func200.trans (congrArg some (by kernel_rfl))
 f338:=Tryz.func201.trans (congrArg some (by kernel_rfl))
 t0:=Tryz.underlying0
 a0:=Tryz.isAgg0
 z0:=Tryz.sizeOf0
 v0:=Tryz.zeroValue0
 t2:=Tryz.underlying2
 a2:=Tryz.isAgg2
 z2:=Tryz.sizeOf2
 v2:=Tryz.zeroValue2
 t3:=Tryz.underlying3
 a3:=Tryz.isAgg3
 z3:=Tryz.sizeOf3
 v3:=Tryz.zeroValue3
 t4:=Tryz.underlying4
 a4:=Tryz.isAgg4
 z4:=Tryz.sizeOf4
 v4:=Tryz.zeroValue4
 t5:=Tryz.underlying5
 a5:=Tryz.isAgg5
 z5:=Tryz.sizeOf5
 v5:=Tryz.zeroValue5
 t9:=Tryz.underlying9
 a9:=Tryz.isAgg9
 z9:=Tryz.sizeOf9
 v9:=Tryz.zeroValue9
 t20:=Tryz.underlying20
 a20:=Tryz.isAgg20
 z20:=Tryz.sizeOf20
 v20:=Tryz.zeroValue20
 t37:=Tryz.underlying101
 a37:=Tryz.isAgg101
 z37:=Tryz.sizeOf101
 v37:=Tryz.zeroValue101
 t46:=Tryz.underlying154
 a46:=Tryz.isAgg154
 z46:=Tryz.sizeOf154
 v46:=Tryz.zeroValue154
 t51:=Tryz.underlying196
 a51:=Tryz.isAgg196
 z51:=Tryz.sizeOf196
 v51:=Tryz.zeroValue196
 t53:=Tryz.underlying165
 a53:=Tryz.isAgg165
 z53:=Tryz.sizeOf165
 v53:=Tryz.zeroValue165
 t171:=Tryz.underlying174
 a171:=Tryz.isAgg174
 z171:=Tryz.sizeOf174
 v171:=Tryz.zeroValue174
 t173:=Tryz.underlying177
 a173:=Tryz.isAgg177
 z173:=Tryz.sizeOf177
 v173:=Tryz.zeroValue177
 t212:=Tryz.underlying204
 a212:=Tryz.isAgg204
 z212:=Tryz.sizeOf204
 v212:=Tryz.zeroValue204
 t213:=Tryz.underlying205
 a213:=Tryz.isAgg205
 z213:=Tryz.sizeOf205
 t232:=Tryz.underlying220
 a232:=Tryz.isAgg220
 z232:=Tryz.sizeOf220
 v232:=Tryz.zeroValue220
 t233:=Tryz.underlying221
 a233:=Tryz.isAgg221
 z233:=Tryz.sizeOf221
 v233:=Tryz.zeroValue221
 g17:=by kernel_rfl
 g18:=by kernel_rfl
 g19:=by kernel_rfl
 i0:=by kernel_rfl
 i2:=by kernel_rfl
 i3:=by kernel_rfl
 i4:=by kernel_rfl
 i5:=by kernel_rfl
 i9:=by kernel_rfl
 i20:=by kernel_rfl
 i37:=by kernel_rfl
 i46:=by kernel_rfl
 i51:=by kernel_rfl
 i53:=by kernel_rfl
 i171:=by kernel_rfl
 i173:=by kernel_rfl
 i212:=by kernel_rfl
 i232:=by kernel_rfl
 i233:=by kernel_rfl
 m17:=by kernel_rfl
 m18:=by kernel_rfl
 m19:=by kernel_rfl}
open Go.RowKit Go.Sort Go.Lib in
theorem Tryz.strconv_Itoa (n:Int)(h0: -9223372036854775808≤n)(h1:n≤9223372036854775807)(w:World)(htab:Lib.TabIs Tryz.prog w "internal/strconv.uint64pow10" .u64 Lib.pow10Tab):
  Calls Tryz.prog 66 #[.int .i64 n] w fun e w'=>e= .returned (.string ⟨(Lib.itoa n).toArray⟩)∧ ∃k os,w'=grow (w.drewN k) os:=Any.strconv_Itoa Tryz.laysM171 n h0 h1 w htab
def Tryz.laysC172_ren:Go.Shelf.Ren:=⟨fun|172=>45|244=>88|245=>89|247=>124|279=>125|280=>126|281=>127|282=>128|287=>150|316=>151|171=>66|205=>152|321=>177|322=>178|243=>113|246=>144|283=>162|284=>163|285=>164|286=>165|129=>185|317=>184|318=>186|319=>187|320=>188|337=>200|338=>201|n=>n,fun|9=>9|3=>3|75=>76|76=>77|4=>4|5=>5|167=>143|37=>101|0=>0|85=>144|2=>2|168=>146|53=>165|175=>166|46=>154|210=>169|127=>137|145=>190|143=>188|21=>21|171=>174|173=>177|212=>204|51=>196|20=>20|213=>205|232=>220|233=>221|80=>107|n=>n,fun|15=>0|16=>1|17=>6|18=>7|19=>8|n=>n⟩
theorem Tryz.laysC172 : Go.Proofs.LaysC.n172 Tryz.prog Tryz.laysC172_ren := {
 mixed:=by kernel_rfl
 f129:=Tryz.func185.trans (congrArg some (by kernel_rfl))
 f171:=Tryz.func66.trans (congrArg some (by kernel_rfl))
 f172:=Tryz.func45.trans (congrArg some (by kernel_rfl))
 f205:=Tryz.func152.trans (congrArg some (by kernel_rfl))
 f243:=Tryz.func113.trans (congrArg some (by kernel_rfl))
 f244:=Tryz.func88.trans (congrArg some (by kernel_rfl))
 f245:=Tryz.func89.trans (congrArg some (by kernel_rfl))
 f246:=Tryz.func144.trans (congrArg some (by kernel_rfl))
 f247:=Tryz.func124.trans (congrArg some (by kernel_rfl))
 f279:=Tryz.func125.trans (congrArg some (by kernel_rfl))
 f280:=Tryz.func126.trans (congrArg some (by kernel_rfl))
 f281:=Tryz.func127.trans (congrArg some (by kernel_rfl))
 f282:=Tryz.func128.trans (congrArg some (by kernel_rfl))
 f283:=Tryz.func162.trans (congrArg some (by kernel_rfl))
 f284:=Tryz.func163.trans (congrArg some (by kernel_rfl))
 f285:=Tryz.func164.trans (congrArg some (by kernel_rfl))
 f286:=Tryz.func165.trans (congrArg some (by kernel_rfl))
 f287:=Tryz.func150.trans (congrArg some (by kernel_rfl))
 f316:=Tryz.func151.trans (congrArg some (by kernel_rfl))
 f317:=Tryz.func184.trans (congrArg some (by kernel_rfl))
 f318:=Tryz.func186.trans (congrArg some (by kernel_rfl))
 f319:=Tryz.func187.trans (congrArg some (by kernel_rfl))
 f320:=Tryz.func188.trans (congrArg some (by kernel_rfl))
 f321:=Tryz.func177.trans (congrArg some (by kernel_rfl))
 f322:=Tryz.func178.trans (congrArg some (by kernel_rfl))
 f337:=Tryz.func200.trans (congrArg some (by kernel_rfl))
 f338:=Tryz.func201.trans (congrArg some (by kernel_rfl))
 t0:=Tryz.underlying0
 a0:=Tryz.isAgg0
 z0:=Tryz.sizeOf0
 v0:=Tryz.zeroValue0
 t2:=Tryz.underlying2
 a2:=Tryz.isAgg2
 z2:=Tryz.sizeOf2
 v2:=Tryz.zeroValue2
 t3:=Tryz.underlying3
 a3:=Tryz.isAgg3
 z3:=Tryz.sizeOf3
 v3:=Tryz.zeroValue3
 t4:=Tryz.underlying4
 a4:=Tryz.isAgg4
 z4:=Tryz.sizeOf4
 v4:=Tryz.zeroValue4
 t5:=Tryz.underlying5
 a5:=Tryz.isAgg5
 z5:=Tryz.sizeOf5
 v5:=Tryz.zeroValue5
 t9:=Tryz.underlying9
 a9:=Tryz.isAgg9
 z9:=Tryz.sizeOf9
 v9:=Tryz.zeroValue9
 t20:=Tryz.underlying20
 a20:=Tryz.isAgg20
 z20:=Tryz.sizeOf20
 v20:=Tryz.zeroValue20
 t21:=Tryz.underlying21
 a21:=Tryz.isAgg21
 z21:=Tryz.sizeOf21
 v21:=Tryz.zeroValue21
 t37:=Tryz.underlying101
 a37:=Tryz.isAgg101
 z37:=Tryz.sizeOf101
 v37:=Tryz.zeroValue101
 t46:=Tryz.underlying154
 a46:=Tryz.isAgg154
 z46:=Tryz.sizeOf154
 v46:=Tryz.zeroValue154
 t51:=Tryz.underlying196
 a51:=Tryz.isAgg196
 z51:=Tryz.sizeOf196
 v51:=Tryz.zeroValue196
 t53:=Tryz.underlying165
 a53:=Tryz.isAgg165
 z53:=Tryz.sizeOf165
 v53:=Tryz.zeroValue165
 t75:=Tryz.underlying76
 a75:=Tryz.isAgg76
 z75:=Tryz.sizeOf76
 v75:=Tryz.zeroValue76
 t76:=Tryz.underlying77
 a76:=Tryz.isAgg77
 z76:=Tryz.sizeOf77
 v76:=Tryz.zeroValue77
 t85:=Tryz.underlying144
 a85:=Tryz.isAgg144
 z85:=Tryz.sizeOf144
 v85:=Tryz.zeroValue144
 t127:=Tryz.underlying137
 a127:=Tryz.isAgg137
 z127:=Tryz.sizeOf137
 v127:=Tryz.zeroValue137
 t143:=Tryz.underlying188
 a143:=Tryz.isAgg188
 z143:=Tryz.sizeOf188
 v143:=Tryz.zeroValue188
 t145:=Tryz.underlying190
 a145:=Tryz.isAgg190
 z145:=Tryz.sizeOf190
 v145:=Tryz.zeroValue190
 t167:=Tryz.underlying143
 a167:=Tryz.isAgg143
 z167:=Tryz.sizeOf143
 v167:=Tryz.zeroValue143
 t168:=Tryz.underlying146
 a168:=Tryz.isAgg146
 z168:=Tryz.sizeOf146
 v168:=Tryz.zeroValue146
 t171:=Tryz.underlying174
 a171:=Tryz.isAgg174
 z171:=Tryz.sizeOf174
 v171:=Tryz.zeroValue174
 t173:=Tryz.underlying177
 a173:=Tryz.isAgg177
 z173:=Tryz.sizeOf177
 v173:=Tryz.zeroValue177
 t175:=Tryz.underlying166
 a175:=Tryz.isAgg166
 z175:=Tryz.sizeOf166
 v175:=Tryz.zeroValue166
 t210:=Tryz.underlying169
 a210:=Tryz.isAgg169
 z210:=Tryz.sizeOf169
 v210:=Tryz.zeroValue169
 t212:=Tryz.underlying204
 a212:=Tryz.isAgg204
 z212:=Tryz.sizeOf204
 v212:=Tryz.zeroValue204
 t213:=Tryz.underlying205
 a213:=Tryz.isAgg205
 z213:=Tryz.sizeOf205
 t232:=Tryz.underlying220
 a232:=Tryz.isAgg220
 z232:=Tryz.sizeOf220
 v232:=Tryz.zeroValue220
 t233:=Tryz.underlying221
 a233:=Tryz.isAgg221
 z233:=Tryz.sizeOf221
 v233:=Tryz.zeroValue221
 g15:=by kernel_rfl
 g16:=by kernel_rfl
 g17:=by kernel_rfl
 g18:=by kernel_rfl
 g19:=by kernel_rfl
 t80:=Tryz.underlying107
 a80:=Tryz.isAgg107
 z80:=Tryz.sizeOf107
 v80:=Tryz.zeroValue107
 i0:=by kernel_rfl
 i2:=by kernel_rfl
 i3:=by kernel_rfl
 i4:=by kernel_rfl
 i5:=by kernel_rfl
 i9:=by kernel_rfl
 i20:=by kernel_rfl
 i21:=by kernel_rfl
 i37:=by kernel_rfl
 i46:=by kernel_rfl
 i51:=by kernel_rfl
 i53:=by kernel_rfl
 i75:=by kernel_rfl
 i76:=by kernel_rfl
 i80:=by kernel_rfl
 i85:=by kernel_rfl
 i127:=by kernel_rfl
 i143:=by kernel_rfl
 i145:=by kernel_rfl
 i167:=by kernel_rfl
 i168:=by kernel_rfl
 i171:=by kernel_rfl
 i173:=by kernel_rfl
 i175:=by kernel_rfl
 i210:=by kernel_rfl
 i212:=by kernel_rfl
 i232:=by kernel_rfl
 i233:=by kernel_rfl
 m15:=by kernel_rfl
 m16:=by kernel_rfl
 m17:=by kernel_rfl
 m18:=by kernel_rfl
 m19:=by kernel_rfl
 c0:=by kernel_rfl
 c2:=by kernel_rfl
 c3:=by kernel_rfl
 c4:=by kernel_rfl
 c5:=by kernel_rfl
 c9:=by kernel_rfl
 c20:=by kernel_rfl
 c21:=by kernel_rfl
 c37:=by kernel_rfl
 c46:=by kernel_rfl
 c51:=by kernel_rfl
 c53:=by kernel_rfl
 c75:=by kernel_rfl
 c76:=by kernel_rfl
 c80:=by kernel_rfl
 c85:=by kernel_rfl
 c127:=by kernel_rfl
 c143:=by kernel_rfl
 c145:=by kernel_rfl
 c167:=by kernel_rfl
 c168:=by kernel_rfl
 c171:=by kernel_rfl
 c173:=by kernel_rfl
 c175:=by kernel_rfl
 c210:=by kernel_rfl
 c212:=by kernel_rfl
 c213:=by kernel_rfl
 c232:=by kernel_rfl
 c233:=by kernel_rfl}
open Go.RowKit in
theorem Tryz.strconv_Atoi_ok (s:ByteArray)(hmax:s.size≤9223372036854775806)(v:Int)(h:Lib.atoiAll s.data.toList= .ok v)(w:World):
  Calls Tryz.prog 45 #[.string s] w fun e w'=>e= .returned (.tuple #[.int .i64 v,.nilIface])∧(w'=w∨ ∃t,w'=Lib.bytesWorld w 5 t):=Any.strconv_Atoi_ok Tryz.laysC172 s hmax v h w
open Go.RowKit in
theorem Tryz.strconv_Atoi_syntax_var (s:ByteArray)(hlim:s.size≤281474976710656)(h1: ∀v,Lib.atoiAll s.data.toList≠ .ok v)(h2:Lib.atoiAll s.data.toList≠ .range)(tp:TypeId)(p:Value)(w:World)(hvar:w.var? Tryz.prog "strconv.ErrSyntax" =some #[.iface tp p]):
  Calls Tryz.prog 45 #[.string s] w fun e w'=> ∃N,e= .returned (.tuple #[.int .i64 0,.iface 146 (.pointer (some ⟨N,0,none⟩))])∧w.heap.size≤N∧w'.heap[N]? =some (.cells #[.string ⟨#[65,116,111,105]⟩,.string s,.iface tp p] 169 (0,0))∧Below w.heap.size w w':=Any.strconv_Atoi_syntax_var Tryz.laysC172 s hlim (by cases hx:Lib.atoiAll s.data.toList<;>first|rfl|exact absurd hx (h1 _)|exact absurd hx h2) tp p w hvar
open Go.RowKit in
theorem Tryz.strconv_Atoi_range_var (s:ByteArray)(hlim:s.size≤281474976710656)(h:Lib.atoiAll s.data.toList= .range)(tp:TypeId)(p:Value)(w:World)(hvar:w.var? Tryz.prog "strconv.ErrRange" =some #[.iface tp p]):
  Calls Tryz.prog 45 #[.string s] w fun e w'=> ∃N,e= .returned (.tuple #[.int .i64 (Lib.atoiSat s.data.toList),.iface 146 (.pointer (some ⟨N,0,none⟩))])∧w.heap.size≤N∧w'.heap[N]? =some (.cells #[.string ⟨#[65,116,111,105]⟩,.string s,.iface tp p] 169 (0,0))∧Below w.heap.size w w':=Any.strconv_Atoi_range_var Tryz.laysC172 s hlim h tp p w hvar
def Tryz.lays143_ren:Go.Shelf.Ren:=⟨fun|143=>145|219=>140|217=>158|225=>139|224=>138|267=>159|266=>182|314=>183|n=>n,fun|9=>9|3=>3|4=>4|5=>5|46=>154|146=>197|51=>196|n=>n,fun|1=>2|n=>n⟩
theorem Tryz.lays143 : Go.Proofs.Lays.n143 Tryz.prog Tryz.lays143_ren := {
 mixed:=by kernel_rfl
 f143:=Tryz.func145.trans (congrArg some (by kernel_rfl))
 f217:=Tryz.func158.trans (congrArg some (by kernel_rfl))
 f219:=Tryz.func140.trans (congrArg some (by kernel_rfl))
 f224:=Tryz.func138.trans (congrArg some (by kernel_rfl))
 f225:=Tryz.func139.trans (congrArg some (by kernel_rfl))
 f266:=Tryz.func182.trans (congrArg some (by kernel_rfl))
 f267:=Tryz.func159.trans (congrArg some (by kernel_rfl))
 f314:=Tryz.func183.trans (congrArg some (by kernel_rfl))
 t3:=Tryz.underlying3
 a3:=Tryz.isAgg3
 z3:=Tryz.sizeOf3
 v3:=Tryz.zeroValue3
 t4:=Tryz.underlying4
 a4:=Tryz.isAgg4
 z4:=Tryz.sizeOf4
 v4:=Tryz.zeroValue4
 t5:=Tryz.underlying5
 a5:=Tryz.isAgg5
 z5:=Tryz.sizeOf5
 v5:=Tryz.zeroValue5
 t9:=Tryz.underlying9
 a9:=Tryz.isAgg9
 z9:=Tryz.sizeOf9
 v9:=Tryz.zeroValue9
 t46:=Tryz.underlying154
 a46:=Tryz.isAgg154
 z46:=Tryz.sizeOf154
 v46:=Tryz.zeroValue154
 t51:=Tryz.underlying196
 a51:=Tryz.isAgg196
 z51:=Tryz.sizeOf196
 v51:=Tryz.zeroValue196
 t146:=Tryz.underlying197
 a146:=Tryz.isAgg197
 z146:=Tryz.sizeOf197
 v146:=Tryz.zeroValue197
 g1:=by kernel_rfl}
open Go.RowKit Go.Lib in
theorem Tryz.strings_Index (s sub:ByteArray)(m:Int)(w:World)(hs:s.size<4294967281)(hm:w.cell? ⟨2,0,none⟩=some (.int .i64 m)):
  Calls Tryz.prog 145 #[.string s,.string sub] w fun e w'=>e= .returned (.int .i64 (Lib.index s.data.toList sub.data.toList))∧w'=w:=Any.strings_Index Tryz.lays143 s sub m w hs hm
def Tryz.lays144_ren:Go.Shelf.Ren:=⟨fun|144=>115|143=>145|219=>140|217=>158|225=>139|224=>138|267=>159|266=>182|314=>183|n=>n,fun|9=>9|4=>4|3=>3|5=>5|46=>154|146=>197|51=>196|n=>n,fun|1=>2|n=>n⟩
theorem Tryz.lays144 : Go.Proofs.Lays.n144 Tryz.prog Tryz.lays144_ren := {
 mixed:=by kernel_rfl
 f143:=Tryz.func145.trans (congrArg some (by kernel_rfl))
 f144:=Tryz.func115.trans (congrArg some (by kernel_rfl))
 f217:=Tryz.func158.trans (congrArg some (by kernel_rfl))
 f219:=Tryz.func140.trans (congrArg some (by kernel_rfl))
 f224:=Tryz.func138.trans (congrArg some (by kernel_rfl))
 f225:=Tryz.func139.trans (congrArg some (by kernel_rfl))
 f266:=Tryz.func182.trans (congrArg some (by kernel_rfl))
 f267:=Tryz.func159.trans (congrArg some (by kernel_rfl))
 f314:=Tryz.func183.trans (congrArg some (by kernel_rfl))
 t3:=Tryz.underlying3
 a3:=Tryz.isAgg3
 z3:=Tryz.sizeOf3
 v3:=Tryz.zeroValue3
 t4:=Tryz.underlying4
 a4:=Tryz.isAgg4
 z4:=Tryz.sizeOf4
 v4:=Tryz.zeroValue4
 t5:=Tryz.underlying5
 a5:=Tryz.isAgg5
 z5:=Tryz.sizeOf5
 v5:=Tryz.zeroValue5
 t9:=Tryz.underlying9
 a9:=Tryz.isAgg9
 z9:=Tryz.sizeOf9
 v9:=Tryz.zeroValue9
 t46:=Tryz.underlying154
 a46:=Tryz.isAgg154
 z46:=Tryz.sizeOf154
 v46:=Tryz.zeroValue154
 t51:=Tryz.underlying196
 a51:=Tryz.isAgg196
 z51:=Tryz.sizeOf196
 v51:=Tryz.zeroValue196
 t146:=Tryz.underlying197
 a146:=Tryz.isAgg197
 z146:=Tryz.sizeOf197
 v146:=Tryz.zeroValue197
 g1:=by kernel_rfl}
open Go.RowKit Go.Lib in
theorem Tryz.strings_Contains (s sub:ByteArray)(m:Int)(w:World)(hs:s.size<4294967281)(hm:w.cell? ⟨2,0,none⟩=some (.int .i64 m)):
  Calls Tryz.prog 115 #[.string s,.string sub] w fun e w'=>e= .returned (.bool (Lib.contains s.data.toList sub.data.toList))∧w'=w:=Any.strings_Contains Tryz.lays144 s sub m w hs hm
def Tryz.lays145_ren:Go.Shelf.Ren:=⟨fun|145=>61|220=>105|219=>140|217=>158|225=>139|224=>138|267=>159|266=>182|314=>183|n=>n,fun|9=>9|4=>4|59=>92|3=>3|5=>5|46=>154|146=>197|51=>196|n=>n,fun|1=>2|n=>n⟩
theorem Tryz.lays145 : Go.Proofs.Lays.n145 Tryz.prog Tryz.lays145_ren := {
 mixed:=by kernel_rfl
 f145:=Tryz.func61.trans (congrArg some (by kernel_rfl))
 f217:=Tryz.func158.trans (congrArg some (by kernel_rfl))
 f219:=Tryz.func140.trans (congrArg some (by kernel_rfl))
 f220:=Tryz.func105.trans (congrArg some (by kernel_rfl))
 f224:=Tryz.func138.trans (congrArg some (by kernel_rfl))
 f225:=Tryz.func139.trans (congrArg some (by kernel_rfl))
 f266:=Tryz.func182.trans (congrArg some (by kernel_rfl))
 f267:=Tryz.func159.trans (congrArg some (by kernel_rfl))
 f314:=Tryz.func183.trans (congrArg some (by kernel_rfl))
 t3:=Tryz.underlying3
 a3:=Tryz.isAgg3
 z3:=Tryz.sizeOf3
 v3:=Tryz.zeroValue3
 t4:=Tryz.underlying4
 a4:=Tryz.isAgg4
 z4:=Tryz.sizeOf4
 v4:=Tryz.zeroValue4
 t5:=Tryz.underlying5
 a5:=Tryz.isAgg5
 z5:=Tryz.sizeOf5
 v5:=Tryz.zeroValue5
 t9:=Tryz.underlying9
 a9:=Tryz.isAgg9
 z9:=Tryz.sizeOf9
 v9:=Tryz.zeroValue9
 t46:=Tryz.underlying154
 a46:=Tryz.isAgg154
 z46:=Tryz.sizeOf154
 v46:=Tryz.zeroValue154
 t51:=Tryz.underlying196
 a51:=Tryz.isAgg196
 z51:=Tryz.sizeOf196
 v51:=Tryz.zeroValue196
 t59:=Tryz.underlying92
 a59:=Tryz.isAgg92
 z59:=Tryz.sizeOf92
 v59:=Tryz.zeroValue92
 t146:=Tryz.underlying197
 a146:=Tryz.isAgg197
 z146:=Tryz.sizeOf197
 v146:=Tryz.zeroValue197
 g1:=by kernel_rfl}
open Go.RowKit Go.Lib in
theorem Tryz.strings_Cut (s sep:ByteArray)(m:Int)(w:World)(hs:s.size<4294967281)(hm:w.cell? ⟨2,0,none⟩=some (.int .i64 m)):
  Calls Tryz.prog 61 #[.string s,.string sep] w fun e w'=>e= .returned (.tuple #[.string ⟨(Lib.cut s.data.toList sep.data.toList).1.toArray⟩,.string ⟨(Lib.cut s.data.toList sep.data.toList).2.1.toArray⟩,.bool (Lib.cut s.data.toList sep.data.toList).2.2])∧ ∃n,w'=w.drewN n:=Any.strings_Cut Tryz.lays145 s sep m w hs hm
def Tryz.laysGw17_ren:Go.Shelf.Ren:=⟨fun|17=>43|15=>87|20=>123|n=>n,fun|9=>9|23=>74|4=>4|3=>3|0=>0|21=>21|n=>n,fun|n=>n⟩
theorem Tryz.laysGw17 : Go.Proofs.LaysGw.n17 Tryz.prog Tryz.laysGw17_ren := {
 mixed:=by kernel_rfl
 f15:=Tryz.func87.trans (congrArg some (by kernel_rfl))
 f17:=Tryz.func43.trans (congrArg some (by kernel_rfl))
 f20:=Tryz.func123.trans (congrArg some (by kernel_rfl))
 t0:=Tryz.underlying0
 a0:=Tryz.isAgg0
 z0:=Tryz.sizeOf0
 v0:=Tryz.zeroValue0
 i0:=by kernel_rfl
 t3:=Tryz.underlying3
 a3:=Tryz.isAgg3
 z3:=Tryz.sizeOf3
 v3:=Tryz.zeroValue3
 i3:=by kernel_rfl
 t4:=Tryz.underlying4
 a4:=Tryz.isAgg4
 z4:=Tryz.sizeOf4
 v4:=Tryz.zeroValue4
 i4:=by kernel_rfl
 t9:=Tryz.underlying9
 a9:=Tryz.isAgg9
 z9:=Tryz.sizeOf9
 v9:=Tryz.zeroValue9
 i9:=by kernel_rfl
 t21:=Tryz.underlying21
 a21:=Tryz.isAgg21
 z21:=Tryz.sizeOf21
 v21:=Tryz.zeroValue21
 i21:=by kernel_rfl
 t23:=Tryz.underlying74
 a23:=Tryz.isAgg74
 z23:=Tryz.sizeOf74
 v23:=Tryz.zeroValue74
 i23:=by kernel_rfl}
def Tryz.lays99_ren:Go.Shelf.Ren:=⟨fun|99=>195|206=>203|n=>n,fun|9=>9|4=>4|3=>3|n=>n,fun|n=>n⟩
theorem Tryz.lays99 : Go.Proofs.Lays.n99 Tryz.prog Tryz.lays99_ren := {
 mixed:=by kernel_rfl
 f99:=Tryz.func195.trans (congrArg some (by kernel_rfl))
 f206:=Tryz.func203.trans (congrArg some (by kernel_rfl))
 t3:=Tryz.underlying3
 a3:=Tryz.isAgg3
 z3:=Tryz.sizeOf3
 v3:=Tryz.zeroValue3
 t4:=Tryz.underlying4
 a4:=Tryz.isAgg4
 z4:=Tryz.sizeOf4
 v4:=Tryz.zeroValue4
 t9:=Tryz.underlying9
 a9:=Tryz.isAgg9
 z9:=Tryz.sizeOf9
 v9:=Tryz.zeroValue9}
open Go.RowKit Go.Lib in
theorem Tryz.strings_HasPrefix (s p:ByteArray)(w:World):
  Calls Tryz.prog 195 #[.string s,.string p] w fun e w'=>e= .returned (.bool (Lib.hasPrefix s.data.toList p.data.toList))∧w'=w:=Any.strings_HasPrefix Tryz.lays99 s p w
def Tryz.lays101_ren:Go.Shelf.Ren:=⟨fun|101=>194|208=>202|206=>203|n=>n,fun|9=>9|4=>4|3=>3|n=>n,fun|n=>n⟩
theorem Tryz.lays101 : Go.Proofs.Lays.n101 Tryz.prog Tryz.lays101_ren := {
 mixed:=by kernel_rfl
 f101:=Tryz.func194.trans (congrArg some (by kernel_rfl))
 f206:=Tryz.func203.trans (congrArg some (by kernel_rfl))
 f208:=Tryz.func202.trans (congrArg some (by kernel_rfl))
 t3:=Tryz.underlying3
 a3:=Tryz.isAgg3
 z3:=Tryz.sizeOf3
 v3:=Tryz.zeroValue3
 t4:=Tryz.underlying4
 a4:=Tryz.isAgg4
 z4:=Tryz.sizeOf4
 v4:=Tryz.zeroValue4
 t9:=Tryz.underlying9
 a9:=Tryz.isAgg9
 z9:=Tryz.sizeOf9
 v9:=Tryz.zeroValue9}
open Go.RowKit Go.Lib in
theorem Tryz.strings_TrimPrefix (s p:ByteArray)(w:World):
  Calls Tryz.prog 194 #[.string s,.string p] w fun e w'=>e= .returned (.string ⟨(Lib.trimPrefix s.data.toList p.data.toList).toArray⟩)∧w'=w:=Any.strings_TrimPrefix Tryz.lays101 s p w
def Tryz.lays155_ren:Go.Shelf.Ren:=⟨fun|155=>84|154=>121|138=>149|165=>129|143=>145|166=>75|197=>141|169=>77|195=>175|218=>176|240=>116|241=>153|219=>140|260=>160|276=>146|277=>179|217=>158|225=>139|224=>138|267=>159|266=>182|314=>183|n=>n,fun|9=>9|3=>3|4=>4|72=>103|0=>0|76=>77|105=>155|21=>21|5=>5|70=>100|20=>20|37=>101|75=>76|127=>137|164=>159|46=>154|119=>199|139=>202|138=>201|146=>197|51=>196|80=>107|n=>n,fun|1=>2|3=>4|4=>5|n=>n⟩
theorem Tryz.lays155 : Go.Proofs.Lays.n155 Tryz.prog Tryz.lays155_ren := {
 mixed:=by kernel_rfl
 f138:=Tryz.func149.trans (congrArg some (by kernel_rfl))
 f143:=Tryz.func145.trans (congrArg some (by kernel_rfl))
 f154:=Tryz.func121.trans (congrArg some (by kernel_rfl))
 f155:=Tryz.func84.trans (congrArg some (by kernel_rfl))
 f165:=Tryz.func129.trans (congrArg some (by kernel_rfl))
 f166:=Tryz.func75.trans (congrArg some (by kernel_rfl))
 f169:=Tryz.func77.trans (congrArg some (by kernel_rfl))
 f195:=Tryz.func175.trans (congrArg some (by kernel_rfl))
 f197:=Tryz.func141.trans (congrArg some (by kernel_rfl))
 f217:=Tryz.func158.trans (congrArg some (by kernel_rfl))
 f218:=Tryz.func176.trans (congrArg some (by kernel_rfl))
 f219:=Tryz.func140.trans (congrArg some (by kernel_rfl))
 f224:=Tryz.func138.trans (congrArg some (by kernel_rfl))
 f225:=Tryz.func139.trans (congrArg some (by kernel_rfl))
 f240:=Tryz.func116.trans (congrArg some (by kernel_rfl))
 f241:=Tryz.func153.trans (congrArg some (by kernel_rfl))
 f260:=Tryz.func160.trans (congrArg some (by kernel_rfl))
 f266:=Tryz.func182.trans (congrArg some (by kernel_rfl))
 f267:=Tryz.func159.trans (congrArg some (by kernel_rfl))
 f276:=Tryz.func146.trans (congrArg some (by kernel_rfl))
 f277:=Tryz.func179.trans (congrArg some (by kernel_rfl))
 f314:=Tryz.func183.trans (congrArg some (by kernel_rfl))
 t0:=Tryz.underlying0
 a0:=Tryz.isAgg0
 z0:=Tryz.sizeOf0
 v0:=Tryz.zeroValue0
 t3:=Tryz.underlying3
 a3:=Tryz.isAgg3
 z3:=Tryz.sizeOf3
 v3:=Tryz.zeroValue3
 t4:=Tryz.underlying4
 a4:=Tryz.isAgg4
 z4:=Tryz.sizeOf4
 v4:=Tryz.zeroValue4
 t5:=Tryz.underlying5
 a5:=Tryz.isAgg5
 z5:=Tryz.sizeOf5
 v5:=Tryz.zeroValue5
 t9:=Tryz.underlying9
 a9:=Tryz.isAgg9
 z9:=Tryz.sizeOf9
 v9:=Tryz.zeroValue9
 t20:=Tryz.underlying20
 a20:=Tryz.isAgg20
 z20:=Tryz.sizeOf20
 v20:=Tryz.zeroValue20
 t21:=Tryz.underlying21
 a21:=Tryz.isAgg21
 z21:=Tryz.sizeOf21
 v21:=Tryz.zeroValue21
 t37:=Tryz.underlying101
 a37:=Tryz.isAgg101
 z37:=Tryz.sizeOf101
 v37:=Tryz.zeroValue101
 t46:=Tryz.underlying154
 a46:=Tryz.isAgg154
 z46:=Tryz.sizeOf154
 v46:=Tryz.zeroValue154
 t51:=Tryz.underlying196
 a51:=Tryz.isAgg196
 z51:=Tryz.sizeOf196
 v51:=Tryz.zeroValue196
 t70:=Tryz.underlying100
 a70:=Tryz.isAgg100
 z70:=Tryz.sizeOf100
 v70:=Tryz.zeroValue100
 t72:=Tryz.underlying103
 a72:=Tryz.isAgg103
 z72:=Tryz.sizeOf103
 v72:=Tryz.zeroValue103
 t75:=Tryz.underlying76
 a75:=Tryz.isAgg76
 z75:=Tryz.sizeOf76
 v75:=Tryz.zeroValue76
 t76:=Tryz.underlying77
 a76:=Tryz.isAgg77
 z76:=Tryz.sizeOf77
 v76:=Tryz.zeroValue77
 t105:=Tryz.underlying155
 a105:=Tryz.isAgg155
 z105:=Tryz.sizeOf155
 v105:=Tryz.zeroValue155
 t119:=Tryz.underlying199
 a119:=Tryz.isAgg199
 z119:=Tryz.sizeOf199
 t127:=Tryz.underlying137
 a127:=Tryz.isAgg137
 z127:=Tryz.sizeOf137
 v127:=Tryz.zeroValue137
 t138:=Tryz.underlying201
 a138:=Tryz.isAgg201
 z138:=Tryz.sizeOf201
 v138:=Tryz.zeroValue201
 t139:=Tryz.underlying202
 a139:=Tryz.isAgg202
 z139:=Tryz.sizeOf202
 v139:=Tryz.zeroValue202
 t146:=Tryz.underlying197
 a146:=Tryz.isAgg197
 z146:=Tryz.sizeOf197
 v146:=Tryz.zeroValue197
 t164:=Tryz.underlying159
 a164:=Tryz.isAgg159
 z164:=Tryz.sizeOf159
 v164:=Tryz.zeroValue159
 g1:=by kernel_rfl
 g3:=by kernel_rfl
 g4:=by kernel_rfl}
theorem Tryz.Builder_Extra_155 : Builder.Extra Tryz.prog Tryz.lays155_ren := {
 sizeBuilder:=by kernel_rfl
 liesBuilder:=by kernel_rfl
 t5:=Tryz.underlying5
 a5:=Tryz.isAgg5
 z5:=Tryz.sizeOf5
 v5:=Tryz.zeroValue5
 infoByte:=by kernel_rfl
 cellsByte:=by kernel_rfl
 sizeByte:=by kernel_rfl
 neB5:=by decide}
open Go.RowKit Go.Lib in
theorem Tryz.strings_ReplaceAll (s old new:ByteArray)(m:Int)(w:World)(hs:s.size<4294967281)(hm:w.cell? ⟨2,0,none⟩=some (.int .i64 m))(h1:1≤old.size)(hlen:s.size+Lib.countB s old*new.size≤140737488355328):
  Calls Tryz.prog 84 #[.string s,.string old,.string new] w fun e w'=>
   e= .returned (.string ⟨(Lib.replaceAll s.data.toList old.data.toList new.data.toList).toArray⟩)∧Below w.heap.size w w':=Any.strings_ReplaceAll Tryz.lays155 Tryz.Builder_Extra_155 s old new m w hs hm h1 hlen
def Tryz.lays153_ren:Go.Shelf.Ren:=⟨fun|153=>60|152=>101|226=>102|227=>103|228=>104|137=>136|119=>137|224=>138|225=>139|217=>158|266=>182|n=>n,fun|9=>9|3=>3|4=>4|5=>5|21=>21|117=>131|116=>130|0=>0|46=>154|124=>135|n=>n,fun|n=>n⟩
theorem Tryz.lays153 : Go.Proofs.Lays.n153 Tryz.prog Tryz.lays153_ren := {
 mixed:=by kernel_rfl
 f119:=Tryz.func137.trans (congrArg some (by kernel_rfl))
 f137:=Tryz.func136.trans (congrArg some (by kernel_rfl))
 f152:=Tryz.func101.trans (congrArg some (by kernel_rfl))
 f153:=Tryz.func60.trans (congrArg some (by kernel_rfl))
 f217:=Tryz.func158.trans (congrArg some (by kernel_rfl))
 f224:=Tryz.func138.trans (congrArg some (by kernel_rfl))
 f225:=Tryz.func139.trans (congrArg some (by kernel_rfl))
 f226:=Tryz.func102.trans (congrArg some (by kernel_rfl))
 f227:=Tryz.func103.trans (congrArg some (by kernel_rfl))
 f228:=Tryz.func104.trans (congrArg some (by kernel_rfl))
 f266:=Tryz.func182.trans (congrArg some (by kernel_rfl))
 t0:=Tryz.underlying0
 a0:=Tryz.isAgg0
 z0:=Tryz.sizeOf0
 v0:=Tryz.zeroValue0
 t3:=Tryz.underlying3
 a3:=Tryz.isAgg3
 z3:=Tryz.sizeOf3
 v3:=Tryz.zeroValue3
 t4:=Tryz.underlying4
 a4:=Tryz.isAgg4
 z4:=Tryz.sizeOf4
 v4:=Tryz.zeroValue4
 t5:=Tryz.underlying5
 a5:=Tryz.isAgg5
 z5:=Tryz.sizeOf5
 v5:=Tryz.zeroValue5
 t9:=Tryz.underlying9
 a9:=Tryz.isAgg9
 z9:=Tryz.sizeOf9
 v9:=Tryz.zeroValue9
 t21:=Tryz.underlying21
 a21:=Tryz.isAgg21
 z21:=Tryz.sizeOf21
 v21:=Tryz.zeroValue21
 t46:=Tryz.underlying154
 a46:=Tryz.isAgg154
 z46:=Tryz.sizeOf154
 v46:=Tryz.zeroValue154
 t116:=Tryz.underlying130
 a116:=Tryz.isAgg130
 z116:=Tryz.sizeOf130
 t117:=Tryz.underlying131
 a117:=Tryz.isAgg131
 z117:=Tryz.sizeOf131
 v117:=Tryz.zeroValue131
 t124:=Tryz.underlying135
 a124:=Tryz.isAgg135
 z124:=Tryz.sizeOf135
 v124:=Tryz.zeroValue135}
open Go.RowKit Go.Lib in
theorem Tryz.strings_IndexAny_laid (s chars:ByteArray)(w:World)(hs:s.size<4294967281)(hcs:chars.size<4294967281)(has: ∀(j:Nat) b,s.data.toList[j]? =some b→b.toNat<128)(hac: ∀(j:Nat) b,chars.data.toList[j]? =some b→b.toNat<128):
  Calls Tryz.prog 60 #[.string s,.string chars] w fun e w'=>e= .returned (.int .i64 (Lib.indexAny s.data.toList chars.data.toList))∧Below w.heap.size w w':=Any.strings_IndexAny_laid Tryz.lays153 (by kernel_rfl) s chars w hs hcs has hac
open Go.RowKit Go.Lib in
theorem Tryz.strings_ToUpper_any (s:ByteArray)(w:World)(hs:s.size<35184372088832)(hV:CaseVar 3 caseA w)(hT:Lib.Utf8Tabs 4 5 w):
  Calls Tryz.prog 91 #[.string s] w fun e w'=>e= .returned (.string ⟨(Lib.toUpperD s.data.toList).toArray⟩)∧Below w.heap.size w w':=Any.strings_ToUpper_any Tryz.lays158 Tryz.Builder_Extra_158 s w hs hV hT
open Go.RowKit Go.Lib in
theorem Tryz.strings_ContainsFunc_grows (g:Nat)(lb:Array Value)(eg: ∀args w,(callFunc g args).run Tryz.prog w= .ok (.enter g args) w)(p:Nat→Bool)(s:ByteArray)(w:World)(hp:PredGrows Tryz.prog g lb p w):
  Calls Tryz.prog 43 #[.string s,.func (.func g) #[] lb] w fun e w'=>e= .returned (.bool (decide (0≤Lib.idxFunc p true s)))∧Below w.heap.size w w':=Any.strings_ContainsFunc_grows Tryz.laysGw17 g lb eg p s w hp
end Go.Proofs
set_option linter.unusedVariables false
set_option linter.unusedSimpArgs false
set_option maxRecDepth 100000
namespace Go.Abs
open Go Go.Proofs Go.RowKit
structure Base (W0:World):Prop where
 max: ∃m:Int,W0.cell? ⟨2,0,none⟩=some (.int .i64 m)
 case:Lib.CaseVar 3 Lib.caseA W0
 utf8:Lib.Utf8Tabs 4 5 W0
 pow:Lib.TabIs Tryz.prog W0 "internal/strconv.uint64pow10" .u64 Lib.pow10Tab
 esyn: ∃tp p,World.var? Tryz.prog W0 "strconv.ErrSyntax" =some #[.iface tp p]
 erng: ∃tp p,World.var? Tryz.prog W0 "strconv.ErrRange" =some #[.iface tp p]
section
variable {W0 w:World}
theorem eG (h: ∀b,b<W0.heap.size→w.heap[b]? =W0.heap[b]?){p:Addr}{v:Value}(hc:W0.cell? p=some v):w.cell? p=some v:=by
 have hp:=Du hc
 rw[←hc]
 unfold World.cell?
 rw[h _ hp]
theorem uZ (h: ∀b,b<W0.heap.size→w.heap[b]? =W0.heap[b]?){n:String}{v:Array Value}(hv:World.var? Tryz.prog W0 n=some v):World.var? Tryz.prog w n=some v:=by
 rw[←hv]
 unfold World.var? at hv ⊢
 cases hg:Tryz.prog.globalNamed n with
 |none=>rfl
 |some g=>
  rw[hg]at hv
  simp only[Option.bind_some]at hv ⊢
  have hlt:g<W0.heap.size:=by
   rcases Nat.lt_or_ge g W0.heap.size with h1|h1
   ·exact h1
   ·rw[Array.getElem?_eq_none h1]at hv;simp at hv
  rw[h g hlt]
theorem Base.kept (B:Base W0)(h: ∀b,b<W0.heap.size→w.heap[b]? =W0.heap[b]?):Base w:=by
 obtain⟨m,hm⟩:=B.max
 obtain⟨R,oR,cap,h1,h2⟩:=B.case
 obtain⟨t1,p1,e1⟩:=B.esyn
 obtain⟨t2,p2,e2⟩:=B.erng
 refine⟨⟨m,eG h hm⟩,⟨R,oR,cap,eG h h1,fun i hi=> ?_⟩,⟨fun c hc=>eG h (B.utf8.1 c hc),fun i hi=>⟨eG h (B.utf8.2 i hi).1,eG h (B.utf8.2 i hi).2⟩⟩,uZ h B.pow,⟨t1,p1,uZ h e1⟩,⟨t2,p2,uZ h e2⟩⟩
 obtain⟨a,b,c,d,e⟩:=h2 i hi
 exact⟨eG h a,eG h b,eG h c,eG h d,eG h e⟩
theorem fZ {x:LV}{s:List UInt8}(h:aN x=some s):x=LV.str s:=by
 unfold aN at h
 split at h
 ·rename_i b
  injection h with h
  subst h
  rfl
 ·cases h
theorem FT {k:IntKind}{x:LV}{n:Int}(h:aI k x=some n):x=LV.int k n:=by
 unfold aI at h
 split at h
 ·rename_i k' m
  by_cases hk:k=k'
  ·subst hk
   simp at h
   subst h
   rfl
  ·simp[hk]at h
 ·cases h
theorem bz {α β:Type}{x:Option α}{f:α→Option β}{r:β}(h:opt x f=some r): ∃a,x=some a∧f a=some r:=by
 cases x with
 |none=>cases h
 |some a=>exact⟨a,rfl,h⟩
theorem dP {α:Type}{l:List α}{q:α×List α}(h:aB l=some q):l=q.1::q.2:=by
 cases l with
 |nil=>cases h
 |cons a r=>injection h with h;subst h;rfl
theorem f7 {α:Type}{l:List α}{u:Unit}(h:aS l=some u):l=[]:=by
 cases l with
 |nil=>rfl
 |cons a r=>cases h
theorem dC {β:Type}{b:Bool}{k:Option β}{r:β}(h:ay b k=some r):b=true∧k=some r:=by
 cases b with
 |false=>cases h
 |true=>exact⟨rfl,h⟩
theorem yg {g:List UInt8→Option LV}{args:List LV}{μ:Mu}{out:Out}(h:sH g args μ=some out): ∃s v,args=[LV.str s]∧g s=some v∧out= .ret v μ:=by
 unfold sH at h
 obtain⟨q,hq,h⟩:=bz h
 obtain⟨u,hu,h⟩:=bz h
 obtain⟨s,hs,h⟩:=bz h
 obtain⟨v,hv,h⟩:=bz h
 injection h with h
 refine⟨s,v,?_,hv,h.symm⟩
 rw[dP hq,f7 hu,fZ hs]
theorem fT {g:List UInt8→List UInt8→Option LV}{args:List LV}{μ:Mu}{out:Out}(h:gd g args μ=some out): ∃s t v,args=[LV.str s,LV.str t]∧g s t=some v∧out= .ret v μ:=by
 unfold gd at h
 obtain⟨q,hq,h⟩:=bz h
 obtain⟨r,hr,h⟩:=bz h
 obtain⟨u,hu,h⟩:=bz h
 obtain⟨s,hs,h⟩:=bz h
 obtain⟨t,ht,h⟩:=bz h
 obtain⟨v,hv,h⟩:=bz h
 injection h with h
 refine⟨s,t,v,?_,hv,h.symm⟩
 rw[dP hq,dP hr,f7 hu,fZ hs,fZ ht]
theorem Ko {g:List UInt8→List UInt8→List UInt8→Option LV}{args:List LV}{μ:Mu}{out:Out}(h:y8 g args μ=some out): ∃s t z v,args=[LV.str s,LV.str t,LV.str z]∧g s t z=some v∧out= .ret v μ:=by
 unfold y8 at h
 obtain⟨q,hq,h⟩:=bz h
 obtain⟨r,hr,h⟩:=bz h
 obtain⟨x,hx,h⟩:=bz h
 obtain⟨u,hu,h⟩:=bz h
 obtain⟨s,hs,h⟩:=bz h
 obtain⟨t,ht,h⟩:=bz h
 obtain⟨z,hz,h⟩:=bz h
 obtain⟨v,hv,h⟩:=bz h
 injection h with h
 refine⟨s,t,z,v,?_,hv,h.symm⟩
 rw[dP hq,dP hr,dP hx,f7 hu,fZ hs,fZ ht,fZ hz]
theorem cW {f:FuncId}{fn:Func}(h:Tryz.prog.funcs[f]? =some fn)(h2:fn.body.isSome=true)(h3:(fn.name == "runtime.NumGoroutine")=false): ∃fn c,E.P.funcs[f]? =some fn∧fn.body=some c∧(fn.name == "runtime.NumGoroutine")=false:=by
 obtain⟨c,hc⟩:=Option.isSome_iff_exists.1 h2
 exact⟨fn,c,h,hc,h3⟩
variable {μ:Mu}
theorem eJ {f:FuncId}{vals:List Value}{r:Value}(hf: ∃fn c,E.P.funcs[f]? =some fn∧fn.body=some c∧(fn.name == "runtime.NumGoroutine")=false)(B:Base W0)
  (hc: ∀w:World,Base w→Calls Tryz.prog f vals.toArray w fun e w'=>e= .returned r∧Below w.heap.size w w'):
  cD E.P W0 f (vals.map fun v=>LV.cv (.v v)) μ (.ret (.cv (.v r)) μ):=
 Gb hf fun w h1 h2=>hc w (B.kept h2)
theorem xw {G:Gh}{L:Nat}: ∀(rs:List Value),bR G w L 0 (rs.map fun v=>LV.cv (.v v)) rs
 |[]=>rfl
 |r::rs=>by
  refine⟨r,rs,rfl,?_,rfl,xw rs⟩
  intro xs h
  cases h
theorem xW {f:FuncId}{vals rs:List Value}(hf: ∃fn c,E.P.funcs[f]? =some fn∧fn.body=some c∧(fn.name == "runtime.NumGoroutine")=false)(B:Base W0)
  (hc: ∀w:World,Base w→Calls Tryz.prog f vals.toArray w fun e w'=>e= .returned (.tuple rs.toArray)∧Below w.heap.size w w'):
  cD E.P W0 f (vals.map fun v=>LV.cv (.v v)) μ (.ret (.ltup (rs.map fun v=>LV.cv (.v v))) μ):=by
 refine jQ hf fun G w cargs hs hv h1 h2=> ?_
 rw[sn hs hv]
 refine(hc w (B.kept h2)).mono fun e w' ⟨h3,h4⟩=>⟨_,h3,h4,⟨rs.toArray,rfl,xw rs⟩,fun b h=>by simp[aD]at h⟩
theorem iz {w':World}(h:w'=w):Below w.heap.size w w':=by subst h;exact Below.refl _ _
theorem sU (n:Nat):Below w.heap.size w (w.drewN n):=⟨rfl,rfl,rfl,Nat.le_refl _,fun _ _=>rfl⟩
theorem d9 {s:List UInt8}(h:dO s=true):(⟨⟨s⟩⟩:ByteArray).size≤1000000:=by
 unfold dO at h
 exact of_decide_eq_true h
theorem Hi (B:Base W0){args:List LV}{out:Out}(h:p4 args μ=some out):cD E.P W0 91 args μ out:=by
 obtain⟨s,v,rfl,hg,rfl⟩:=yg h
 obtain⟨h1,h2⟩:=dC hg
 injection h2 with h2
 subst h2
 have hl:=d9 h1
 exact eJ (vals:=[.string ⟨⟨s⟩⟩]) (cW Tryz.func91 rfl (by kernel_rfl)) B fun w b=>Tryz.strings_ToUpper_any ⟨⟨s⟩⟩ w (by omega) b.case b.utf8
theorem A6 (B:Base W0){args:List LV}{out:Out}(h:lW args μ=some out):cD E.P W0 195 args μ out:=by
 obtain⟨s,t,v,rfl,hg,rfl⟩:=fT h
 injection hg with hg
 subst hg
 exact eJ (vals:=[.string ⟨⟨s⟩⟩,.string ⟨⟨t⟩⟩]) (cW Tryz.func195 rfl (by kernel_rfl)) B fun w b=>(Tryz.strings_HasPrefix ⟨⟨s⟩⟩ ⟨⟨t⟩⟩ w).mono fun e w' ⟨h1,h2⟩=>⟨h1,iz h2⟩
theorem yD (B:Base W0){args:List LV}{out:Out}(h:kJ args μ=some out):cD E.P W0 194 args μ out:=by
 obtain⟨s,t,v,rfl,hg,rfl⟩:=fT h
 injection hg with hg
 subst hg
 exact eJ (vals:=[.string ⟨⟨s⟩⟩,.string ⟨⟨t⟩⟩]) (cW Tryz.func194 rfl (by kernel_rfl)) B fun w b=>(Tryz.strings_TrimPrefix ⟨⟨s⟩⟩ ⟨⟨t⟩⟩ w).mono fun e w' ⟨h1,h2⟩=>⟨h1,iz h2⟩
theorem A8 {t:List UInt8}{c:UInt8}(h:xg t=some c):t=[c]:=by
 unfold xg at h
 split at h
 ·injection h with h;subst h;rfl
 ·cases h
theorem C4 (B:Base W0){args:List LV}{out:Out}(h:ny args μ=some out):cD E.P W0 62 args μ out:=by
 obtain⟨s,t,v,rfl,hg,rfl⟩:=fT h
 obtain⟨c,hc,hg⟩:=bz hg
 obtain⟨h1,h2⟩:=dC hg
 injection h2 with h2
 subst h2
 have:=A8 hc
 subst this
 exact eJ (vals:=[.string ⟨⟨s⟩⟩,.string ⟨⟨[c]⟩⟩]) (cW Tryz.func62 rfl (by kernel_rfl)) B fun w b=>(Tryz.strings_TrimLeft_one ⟨⟨s⟩⟩ c (of_decide_eq_true h1) w).mono fun e w' ⟨h1,h2⟩=>⟨h1,iz h2⟩
theorem A7 (B:Base W0){args:List LV}{out:Out}(h:lX args μ=some out):cD E.P W0 63 args μ out:=by
 obtain⟨s,t,v,rfl,hg,rfl⟩:=fT h
 obtain⟨c,hc,hg⟩:=bz hg
 obtain⟨h1,h2⟩:=dC hg
 injection h2 with h2
 subst h2
 have:=A8 hc
 subst this
 rw[Bool.and_eq_true]at h1
 have hl:=d9 h1.2
 exact eJ (vals:=[.string ⟨⟨s⟩⟩,.string ⟨⟨[c]⟩⟩]) (cW Tryz.func63 rfl (by kernel_rfl)) B fun w b=>(Tryz.strings_TrimRight_one ⟨⟨s⟩⟩ c (of_decide_eq_true h1.1) w (by omega)).mono fun e w' ⟨h1,h2⟩=>⟨h1,iz h2⟩
theorem Mq (B:Base W0){args:List LV}{out:Out}(h:vV args μ=some out):cD E.P W0 145 args μ out:=by
 obtain⟨s,t,v,rfl,hg,rfl⟩:=fT h
 obtain⟨h1,h2⟩:=dC hg
 injection h2 with h2
 subst h2
 have hl:=d9 h1
 refine eJ (vals:=[.string ⟨⟨s⟩⟩,.string ⟨⟨t⟩⟩]) (cW Tryz.func145 rfl (by kernel_rfl)) B fun w b=> ?_
 obtain⟨m,hm⟩:=b.max
 exact(Tryz.strings_Index ⟨⟨s⟩⟩ ⟨⟨t⟩⟩ m w (by omega) hm).mono fun e w' ⟨h1,h2⟩=>⟨h1,iz h2⟩
theorem C2 (B:Base W0){args:List LV}{out:Out}(h:ye args μ=some out):cD E.P W0 115 args μ out:=by
 obtain⟨s,t,v,rfl,hg,rfl⟩:=fT h
 obtain⟨h1,h2⟩:=dC hg
 injection h2 with h2
 subst h2
 have hl:=d9 h1
 refine eJ (vals:=[.string ⟨⟨s⟩⟩,.string ⟨⟨t⟩⟩]) (cW Tryz.func115 rfl (by kernel_rfl)) B fun w b=> ?_
 obtain⟨m,hm⟩:=b.max
 exact(Tryz.strings_Contains ⟨⟨s⟩⟩ ⟨⟨t⟩⟩ m w (by omega) hm).mono fun e w' ⟨h1,h2⟩=>⟨h1,iz h2⟩
theorem Qw (B:Base W0){args:List LV}{out:Out}(h:QA args μ=some out):cD E.P W0 61 args μ out:=by
 obtain⟨s,t,v,rfl,hg,rfl⟩:=fT h
 obtain⟨h1,h2⟩:=dC hg
 injection h2 with h2
 subst h2
 have hl:=d9 h1
 refine xW (vals:=[.string ⟨⟨s⟩⟩,.string ⟨⟨t⟩⟩]) (rs:=[.string ⟨⟨(Lib.cut s t).1⟩⟩,.string ⟨⟨(Lib.cut s t).2.1⟩⟩,.bool (Lib.cut s t).2.2]) (cW Tryz.func61 rfl (by kernel_rfl)) B fun w b=> ?_
 obtain⟨m,hm⟩:=b.max
 refine(Tryz.strings_Cut ⟨⟨s⟩⟩ ⟨⟨t⟩⟩ m w (by omega) hm).mono fun e w' ⟨h1,n,h2⟩=>⟨h1,?_⟩
 subst h2
 exact sU n
theorem C3 (B:Base W0){args:List LV}{out:Out}(h:yf args μ=some out):cD E.P W0 60 args μ out:=by
 obtain⟨s,t,v,rfl,hg,rfl⟩:=fT h
 obtain⟨h1,h2⟩:=dC hg
 injection h2 with h2
 subst h2
 simp only[Bool.and_eq_true]at h1
 obtain⟨⟨⟨a1,a2⟩,a3⟩,a4⟩:=h1
 have hl:=d9 a1
 have hl2:=d9 a2
 have asc: ∀{l:List UInt8},ve l=true→ ∀(j:Nat) (b:UInt8),l[j]? =some b→b.toNat<128:=by
  intro l hl j b hb
  unfold ve at hl
  rw[List.all_eq_true]at hl
  exact of_decide_eq_true (hl b (List.mem_of_getElem? hb))
 exact eJ (vals:=[.string ⟨⟨s⟩⟩,.string ⟨⟨t⟩⟩]) (cW Tryz.func60 rfl (by kernel_rfl)) B fun w b=>Tryz.strings_IndexAny_laid ⟨⟨s⟩⟩ ⟨⟨t⟩⟩ w (by omega) (by omega) (asc a3) (asc a4)
theorem OY (B:Base W0){args:List LV}{out:Out}(h:vW args μ=some out):cD E.P W0 66 args μ out:=by
 unfold vW at h
 obtain⟨q,hq,h⟩:=bz h
 obtain⟨u,hu,h⟩:=bz h
 obtain⟨n,hn,h⟩:=bz h
 obtain⟨h1,h2⟩:=dC h
 injection h2 with h2
 subst h2
 have hx:q.1=LV.int .i64 n:=by
  exact FT hn
 rw[dP hq,f7 hu,hx]
 rw[Bool.and_eq_true]at h1
 refine eJ (vals:=[.int .i64 n]) (cW Tryz.func66 rfl (by kernel_rfl)) B fun w b=> ?_
 refine(Tryz.strconv_Itoa n (of_decide_eq_true h1.1) (of_decide_eq_true h1.2) w b.pow).mono fun e w' ⟨h3,k,os,h4⟩=>⟨h3,?_⟩
 subst h4
 have h5:Below w.heap.size w (w.drewN k):=sU k
 refine Below.trans h5 ⟨rfl,rfl,rfl,by simp[«Sort».grow],fun j hj=> ?_⟩
 have:j<(w.drewN k).heap.size:=Nat.lt_of_lt_of_le hj h5.size
 simp only[«Sort».grow]
 rw[Array.getElem?_append_left this]
theorem yC (B:Base W0){args:List LV}{out:Out}(h:kI args μ=some out):cD E.P W0 84 args μ out:=by
 obtain⟨s,t,z,v,rfl,hg,rfl⟩:=Ko h
 obtain⟨h1,h2⟩:=dC hg
 injection h2 with h2
 subst h2
 simp only[Bool.and_eq_true]at h1
 obtain⟨⟨a1,a2⟩,a3⟩:=h1
 have hl:=d9 a1
 have hl2:=d9 a2
 have h1':1≤(⟨⟨t⟩⟩:ByteArray).size:=of_decide_eq_true a3
 refine eJ (vals:=[.string ⟨⟨s⟩⟩,.string ⟨⟨t⟩⟩,.string ⟨⟨z⟩⟩]) (cW Tryz.func84 rfl (by kernel_rfl)) B fun w b=> ?_
 obtain⟨m,hm⟩:=b.max
 have hc:=Lib.countB_le ⟨⟨t⟩⟩ h1' _ ⟨⟨s⟩⟩ (Nat.le_refl _)
 refine Tryz.strings_ReplaceAll ⟨⟨s⟩⟩ ⟨⟨t⟩⟩ ⟨⟨z⟩⟩ m w (by omega) hm h1' ?_
 have:Lib.countB ⟨⟨s⟩⟩ ⟨⟨t⟩⟩*(⟨⟨z⟩⟩:ByteArray).size≤1000000*1000000:=Nat.mul_le_mul (by omega) hl2
 omega
theorem Em {G:Gh}{L:Nat}{n:Int}{v:Value}:LVR G w L 0 (.ltup [LV.int .i64 n,.cv (.iface 146 .undef)]) (.tuple #[.int .i64 n,.iface 146 v]):=by
 refine⟨_,rfl,_,_,rfl,?_,rfl,_,_,rfl,?_,⟨v,rfl,trivial⟩,rfl⟩
 ·intro xs h;cases h
 ·intro xs h;cases h
theorem OX (B:Base W0){args:List LV}{out:Out}(h:y0 146 args μ=some out):cD E.P W0 45 args μ out:=by
 obtain⟨s,v,rfl,hg,rfl⟩:=yg h
 obtain⟨h1,h2⟩:=dC hg
 injection h2 with h2
 subst h2
 have hl:=d9 h1
 unfold vg
 cases ha:Lib.atoiAll s
 ·rename_i n
  refine xW (vals:=[.string ⟨⟨s⟩⟩]) (rs:=[.int .i64 n,.nilIface]) (cW Tryz.func45 rfl (by kernel_rfl)) B fun w b=> ?_
  refine(Tryz.strconv_Atoi_ok ⟨⟨s⟩⟩ (by omega) n ha w).mono fun e w' ⟨h3,h4⟩=>⟨h3,?_⟩
  rcases h4 with rfl|⟨t,rfl⟩
  ·exact Below.refl _ _
  ·exact Joins.below_bytesWorld _ _ _ _ (Nat.le_refl _)
 ·refine jQ (cW Tryz.func45 rfl (by kernel_rfl)) fun G w cargs hs hv k1 k2=> ?_
  rw[sn (vals:=[.string ⟨⟨s⟩⟩]) hs hv]
  obtain⟨tp,p,hp⟩:=(B.kept k2).esyn
  refine(Tryz.strconv_Atoi_syntax_var ⟨⟨s⟩⟩ (by omega) (fun v e=>by rw[ha]at e;cases e) (fun e=>by rw[ha]at e;cases e) tp p w hp).mono fun e w' ⟨N,h3,_,_,h4⟩=>⟨_,h3,h4,Em,fun b h=>by simp[aD]at h⟩
 ·refine jQ (cW Tryz.func45 rfl (by kernel_rfl)) fun G w cargs hs hv k1 k2=> ?_
  rw[sn (vals:=[.string ⟨⟨s⟩⟩]) hs hv]
  obtain⟨tp,p,hp⟩:=(B.kept k2).erng
  refine(Tryz.strconv_Atoi_range_var ⟨⟨s⟩⟩ (by omega) ha tp p w hp).mono fun e w' ⟨N,h3,_,_,h4⟩=>⟨_,h3,h4,Em,fun b h=>by simp[aD]at h⟩
theorem B2 {n b0 b1 b2 b3:Nat}(h:b0<128):Lib.decodeN n b0 b1 b2 b3=(b0,1):=by unfold Lib.decodeN;rw[if_pos h]
theorem Aj {n b0 b1 b2 b3:Nat}(h: ¬b0<128):128≤(Lib.decodeN n b0 b1 b2 b3).1:=by
 unfold Lib.decodeN
 rw[if_neg h]
 repeat' split
 all_goals first|omega|(simp only;omega)
theorem Ee {p:Nat→Bool}{q:UInt8→Bool}(h1: ∀b:UInt8,b.toNat<128→p b.toNat=q b)(h2: ∀x,128≤x→p x=true)(h3: ∀b:UInt8,128≤b.toNat→q b=true)(s:List UInt8):
  ∀(f pos:Nat),s.length≤f+pos→decide (0≤Lib.idxFuncFrom p true ⟨⟨s⟩⟩ f pos)=(s.drop pos).any q
 |0,pos,hf=>by
  rw[List.drop_eq_nil_of_le (by omega)]
  rfl
 |f+1,pos,hf=>by
  unfold Lib.idxFuncFrom
  have hsz:(⟨⟨s⟩⟩:ByteArray).size=s.length:=rfl
  by_cases hlt:pos<s.length
  ·rw[if_pos (by rw[hsz];exact hlt),Lib.decode_at,List.drop_eq_getElem_cons hlt,List.any_cons]
   have hg:((⟨⟨s⟩⟩:ByteArray).get! pos)=s[pos]:=by
    simp[ByteArray.get!,hlt]
   rw[hg]
   by_cases hb:s[pos].toNat<128
   ·rw[B2 hb]
    simp only
    rw[h1 _ hb]
    cases hq:q s[pos]with
    |true=>simp
    |false=>
     rw[if_neg (by simp),Ee h1 h2 h3 s f (pos+1) (by omega),Bool.false_or]
   ·rw[h2 _ (Aj hb),if_pos rfl,h3 _ (by omega)]
    simp
  ·rw[if_neg (by rw[hsz];exact hlt),List.drop_eq_nil_of_le (by omega)]
   rfl
noncomputable def E0:Env:={E with prim:=fun _=>none}
theorem QE (W:World):sk E0 W:=fun f g h=>by cases h
theorem Qn:E0.P.follows .mixedOrders=true:=by kernel_rfl
theorem Ho {g:FuncId}{p:Nat→Bool}(hr: ∀x:Nat,(ev E0).call g [LV.int .i32 (x:Int)] []=some (.ret (LV.bool (p x)) [])):PredGrows Tryz.prog g #[] p w:=by
 intro W x hx hb
 have hm:=As Qn (QE W) (hr x)
 have he:(#[encR x]++(#[]:Array Value))= #[encR x]:=rfl
 rw[he]
 obtain ⟨R, hT⟩ := Rel.top (w := W) (args := [CV.int .i32 (x : Int)]) (cargs := #[encR x]) (by
  intro j y hy
  cases j with
  |zero=>simp at hy;subst hy;simp[VR]
  |succ j=>simp at hy)
 refine(hm.2 (Gh.top W) W #[encR x] rfl R ⟨Nat.le_refl _,fun b _=>⟨rfl,hT b⟩⟩).mono fun e w' h=> ?_
 cases e with
 |returned cv=>
  simp only[eX]at h
  obtain⟨O',R',E⟩:=h
  have h0:=R'.fr 0
  simp only[cu,List.getElem?_cons_zero,Option.getD_some,LVR,VR]at h0
  have:cv= .bool (p x):=by simpa using h0
  subst this
  exact⟨rfl,E.os,E.tape,E.output,E.size,fun b hb=>(E.keep b hb (hT b)).1⟩
 |panicked ch=>exact h.elim
 |_=>exact h.elim
theorem Dt {β:Type}{v:LV}{k:LV→Mu→Option β}{p:CV→Mu→Option β}:callK (some (.ret v μ)) k p=k v μ:=rfl
theorem Kg {α β:Type}{a:α}{k:α→Option β}:opt (some a) k=k a:=rfl
theorem dIn (a b:Nat):decide ((a:Int)<(b:Int))=decide (a<b):=by simp
theorem S0 (x:Nat):(ev E0).call 122 [LV.int .i32 (x:Int)] []=some (.ret (LV.bool (decide (x<32)||decide (126<x))) []):=by
 refine aO ?_
 have:aH E0 (ev E0) 122 [LV.int .i32 (x:Int)] []=cond (decide ((x:Int)<32)) (some (.ret (LV.bool true) [])) (some (.ret (LV.bool (decide ((126:Int)<(x:Int)))) [])):=by kernel_rfl
 have e1:decide ((x:Int)<32)=decide (x<32):=dIn x 32
 have e2:decide ((126:Int)<(x:Int))=decide (126<x):=dIn 126 x
 rw[this,e1,e2]
 cases decide (x<32)<;>rfl
theorem SZ (x:Nat):(ev E0).call 112 [LV.int .i32 (x:Int)] []=some (.ret (LV.bool (decide (x<48)||decide (57<x))) []):=by
 refine aO ?_
 have:aH E0 (ev E0) 112 [LV.int .i32 (x:Int)] []=cond (decide ((x:Int)<48)) (some (.ret (LV.bool true) [])) (some (.ret (LV.bool (decide ((57:Int)<(x:Int)))) [])):=by kernel_rfl
 have e1:decide ((x:Int)<48)=decide (x<48):=dIn x 48
 have e2:decide ((57:Int)<(x:Int))=decide (57<x):=dIn 57 x
 rw[this,e1,e2]
 cases decide (x<48)<;>rfl
theorem p44 (x:Nat):(ev E0).call 44 [LV.int .i32 (x:Int)] []=some (.ret (LV.bool (decide (x<48)||decide (57<x))) []):=by
 refine aO ?_
 have:aH E0 (ev E0) 44 [LV.int .i32 (x:Int)] []=cond (decide ((x:Int)<48)) (some (.ret (LV.bool true) [])) (some (.ret (LV.bool (decide ((57:Int)<(x:Int)))) [])):=by kernel_rfl
 have e1:decide ((x:Int)<48)=decide (x<48):=dIn x 48
 have e2:decide ((57:Int)<(x:Int))=decide (57<x):=dIn 57 x
 rw[this,e1,e2]
 cases decide (x<48)<;>rfl
def F3 (b:Int):Bool:=(decide ((97:Int)≤b)&&decide (b≤122))||(decide ((65:Int)≤b)&&decide (b≤90))
theorem p90 {b:Int}:(ev E0).call 90 [LV.int .u8 b] []=some (.ret (LV.bool (F3 b)) []):=by
 refine aO ?_
 have : aH E0 (ev E0) 90 [LV.int .u8 b] [] = cond (decide ((97 : Int) ≤ b)) (
   cond (decide (b ≤ (122 : Int))) (
   some (.ret (LV.bool true) [])) (
   cond (decide ((65 : Int) ≤ b)) (
   some (.ret (LV.bool (decide (b≤(90:Int)))) [])) (
   some (.ret (LV.bool false) [])))) (
   cond (decide ((65 : Int) ≤ b)) (
   some (.ret (LV.bool (decide (b≤(90:Int)))) [])) (
   some (.ret (LV.bool false) []))):=by kernel_rfl
 rw[this]
 unfold F3
 cases decide ((97:Int)≤b)<;>cases decide (b≤122)<;>cases decide ((65:Int)≤b)<;>rfl
theorem S1 {b:Int}:(ev E0).call 132 [LV.int .u8 b] []=some (.ret (LV.bool (decide ((48:Int)≤b)&&decide (b≤57))) []):=by
 refine aO ?_
 have:aH E0 (ev E0) 132 [LV.int .u8 b] []=cond (decide ((48:Int)≤b)) (some (.ret (LV.bool (decide (b≤(57:Int)))) [])) (some (.ret (LV.bool false) [])):=by kernel_rfl
 rw[this]
 cases decide ((48:Int)≤b)<;>rfl
def Mv (b:Int):Bool:=F3 b||(decide ((48:Int)≤b)&&decide (b≤57))||decide (b=95)
theorem Jq {b:Bool}:aQ (LV.bool b)=some b:=rfl
theorem p93 {b:Int}:(ev E0).call 93 [LV.int .u8 b] []=some (.ret (LV.bool (Mv b)) []):=by
 refine aO ?_
 have : ∀ ρ : Rho, aH E0 ρ 93 [LV.int .u8 b] [] = callK (ρ.call 90 [LV.int .u8 b] []) (fun v1 μ2 =>
   opt (aQ v1) fun b5=>
   cond (b5) (
   some (.ret (LV.bool true) μ2)) (
   callK (ρ.call 132 [LV.int .u8 b] μ2) (fun v6 μ7 =>
   opt (aQ v6) fun b10=>
   cond (b10) (
   some (.ret (LV.bool true) μ7)) (
   some (.ret (LV.bool (decide (b=(95:Int)))) μ7))) (fun v9 μ8=>
   ay (below (List.length μ8) v9) (some (.panic v9 μ8))))) (fun v4 μ3=>
   ay (below (List.length μ3) v4) (some (.panic v4 μ3))):=by intro ρ;kernel_rfl
 rw[this,p90,Dt,Jq,Kg]
 unfold Mv
 cases F3 b with
 |true=>rfl
 |false=>
  rw[cond_false,S1,Dt,Jq,Kg]
  cases (decide ((48:Int)≤b)&&decide (b≤57))<;>rfl
def yX (x:Nat):Bool:=decide (126<x)|| !Mv (IntKind.wrap .u8 (x:Int))
theorem p92 (x:Nat):(ev E0).call 92 [LV.int .i32 (x:Int)] []=some (.ret (LV.bool (yX x)) []):=by
 refine aO ?_
 have : ∀ ρ : Rho, aH E0 ρ 92 [LV.int .i32 (x : Int)] [] = cond (decide ((126 : Int) < (x : Int))) (
   some (.ret (LV.bool true) [])) (
   callK (ρ.call 93 [LV.int .u8 (IntKind.wrap .u8 (x : Int))] []) (fun v1 μ2 =>
   opt (aQ v1) fun b5=>
   some (.ret (LV.bool (!b5)) μ2)) (fun v4 μ3=>
   ay (below (List.length μ3) v4) (some (.panic v4 μ3)))):=by intro ρ;kernel_rfl
 have e2:decide ((126:Int)<(x:Int))=decide (126<x):=dIn 126 x
 rw[this,p93,e2]
 unfold yX
 cases decide (126<x)<;>rfl
theorem sG {g:FuncId}{p:Nat→Bool}{q:UInt8→Bool}(hr: ∀x:Nat,(ev E0).call g [LV.int .i32 (x:Int)] []=some (.ret (LV.bool (p x)) []))(hg: ∀args w,(callFunc g args).run Tryz.prog w= .ok (.enter g args) w)
  (h1: ∀b:UInt8,b.toNat<128→p b.toNat=q b) (h2: ∀x,128≤x→p x=true) (h3: ∀b:UInt8,128≤b.toNat→q b=true) {s:List UInt8}:
  cD E.P W0 43 [LV.str s,LV.cv (.clo g [])] μ (.ret (LV.bool (s.any q)) μ):=by
 refine jQ (cW Tryz.func43 rfl (by kernel_rfl)) fun G w cargs hs hv k1 k2=> ?_
 have hc:cargs= #[.string ⟨⟨s⟩⟩,.func (.func g) #[] #[]]:=by
  have e0:=hv 0 _ rfl
  have e1:=hv 1 _ rfl
  simp only[LVR,VR]at e0 e1
  obtain⟨vs,e1,e2⟩:=e1
  simp only[VRL]at e2
  have:vs= #[]:=by
   apply Array.ext'
   rw[e2]
  subst this
  simp only[List.length_cons,List.length_nil]at hs
  apply Array.ext
  ·exact hs
  ·intro j hj1 hj2
   have:j=0∨j=1:=by simp at hj2;omega
   rcases this with rfl|rfl
   ·rw[Array.getD_eq_getD_getElem?,Array.getElem?_eq_getElem hj1]at e0
    simpa using e0
   ·rw[Array.getD_eq_getD_getElem?,Array.getElem?_eq_getElem hj1]at e1
    simpa using e1
 rw[hc]
 refine(Tryz.strings_ContainsFunc_grows g #[] hg p ⟨⟨s⟩⟩ w (Ho hr)).mono fun e w' ⟨h4,h5⟩=>⟨_,h4,h5,?_,fun b h=>by simp[aD]at h⟩
 have:=Ee h1 h2 h3 s s.length 0 (by omega)
 rw[List.drop_zero]at this
 have e:Lib.idxFunc p true ⟨⟨s⟩⟩=Lib.idxFuncFrom p true ⟨⟨s⟩⟩ s.length 0:=rfl
 rw[e,this]
 rfl
theorem LS: ∀i:Fin 128,yX i.val= !((decide (97≤i.val)&&decide (i.val≤122))||(decide (65≤i.val)&&decide (i.val≤90))||(decide (48≤i.val)&&decide (i.val≤57))||decide (i.val=95)):=by decide
theorem vT {args:List LV}{out:Out}(h:gj lu args μ=some out):cD E.P W0 43 args μ out:=by
 unfold gj at h
 obtain⟨q,hq,h⟩:=bz h
 obtain⟨r,hr,h⟩:=bz h
 obtain⟨u,hu,h⟩:=bz h
 obtain⟨s,hs,h⟩:=bz h
 have hargs:args=[LV.str s,r.1]:=by rw[dP hq,dP hr,f7 hu,fZ hs]
 rw[hargs]
 split at h
 ·rename_i g hg
  rw[hg]
  obtain⟨p,hp,h⟩:=bz h
  injection h with h
  subst h
  unfold lu at hp
  split at hp
  ·injection hp with hp;subst hp
   exact sG S0 Tryz.call122 (fun b hb=>rfl) (fun x hx=>by simp;omega) (fun b hb=>by simp;omega)
  ·injection hp with hp;subst hp
   exact sG SZ Tryz.call112 (fun b hb=>rfl) (fun x hx=>by simp;omega) (fun b hb=>by simp;omega)
  ·injection hp with hp;subst hp
   exact sG p44 Tryz.call44 (fun b hb=>rfl) (fun x hx=>by simp;omega) (fun b hb=>by simp;omega)
  ·injection hp with hp;subst hp
   refine sG p92 Tryz.call92 (fun b hb=>LS ⟨b.toNat,hb⟩) (fun x hx=> ?_) (fun b hb=> ?_)
   ·unfold yX
    have:decide (126<x)=true:=by simp;omega
    rw[this];rfl
   ·simp;omega
  ·cases hp
 ·cases h
end
end Go.Abs
set_option linter.unusedVariables false
set_option linter.unusedSimpArgs false
set_option maxRecDepth 100000
namespace Go.Proofs.YtfcjjankfjaapaaGreatDoor.Glue
open Go Go.Proofs Go.Abs Go.Shelf Go.Lib Go.ChangeShapes Go.WideShapes Go.ChangeAt Go.RowKit
def sy:List (String×DataW Unit):=[("math/bits.deBruijn32tab",Rows.laid_math_bits_deBruijn32tab),("math/bits.deBruijn64tab",Rows.laid_math_bits_deBruijn64tab),("internal/strconv.uint64pow10",Rows.laid_internal_strconv_uint64pow10),("unicode/utf8.acceptRanges",Rows.laid_unicode_utf8_acceptRanges),("strconv.ErrRange",Rows.laid_strconv_ErrRange),("strconv.ErrSyntax",Rows.laid_strconv_ErrSyntax),("unicode.CaseRanges",Rows.laid_unicode_CaseRanges),("unicode/utf8.first",Rows.laid_unicode_utf8_first)]
def N7:Go.Shelf.Ren:=⟨fun|274=>198|n=>n,fun|21=>21|162=>195|160=>212|3=>3|4=>4|46=>154|0=>0|208=>219|51=>196|206=>217|n=>n,fun|13=>3|n=>n⟩
theorem Ol : Go.Proofs.Lays.n274 Tryz.prog N7 := {
 mixed:=by kernel_rfl
 f274:=Tryz.func198.trans (congrArg some (by kernel_rfl))
 t0:=Tryz.underlying0
 a0:=Tryz.isAgg0
 z0:=Tryz.sizeOf0
 v0:=Tryz.zeroValue0
 t3:=Tryz.underlying3
 a3:=Tryz.isAgg3
 z3:=Tryz.sizeOf3
 v3:=Tryz.zeroValue3
 t4:=Tryz.underlying4
 a4:=Tryz.isAgg4
 z4:=Tryz.sizeOf4
 v4:=Tryz.zeroValue4
 t21:=Tryz.underlying21
 a21:=Tryz.isAgg21
 z21:=Tryz.sizeOf21
 v21:=Tryz.zeroValue21
 t46:=Tryz.underlying154
 a46:=Tryz.isAgg154
 z46:=Tryz.sizeOf154
 v46:=Tryz.zeroValue154
 t51:=Tryz.underlying196
 a51:=Tryz.isAgg196
 z51:=Tryz.sizeOf196
 v51:=Tryz.zeroValue196
 t160:=Tryz.underlying212
 a160:=Tryz.isAgg212
 z160:=Tryz.sizeOf212
 v160:=Tryz.zeroValue212
 t162:=Tryz.underlying195
 a162:=Tryz.isAgg195
 z162:=Tryz.sizeOf195
 v162:=Tryz.zeroValue195
 t208:=Tryz.underlying219
 a208:=Tryz.isAgg219
 z208:=Tryz.sizeOf219
 v208:=Tryz.zeroValue219}
def RY:Go.Shelf.Ren:=⟨fun n=>n,fun|5=>5|119=>199|139=>202|138=>201|n=>n,fun|3=>4|4=>5|n=>n⟩
theorem Pb:U8Types Tryz.prog RY:=⟨Tryz.underlying5,Tryz.underlying199,Tryz.underlying201,Tryz.underlying202⟩
theorem QI: "*" ++ "errors.errorString" = "*errors.errorString" :=by decide
theorem Kx (u:TypeId)(h:Tryz.prog.typeName? 3 u=some "*errors.errorString"):u=188:=
 typeName_ptr_named (nm:= "errors.errorString") (by rw[QI];kernel_rfl) (by kernel_rfl) (by decide) u (by rw[QI];exact h)
theorem zL {W:World}(hL:laidMet Tryz.prog sy W)(hS:W.ShapedOpen Tryz.prog):Base W:=by
 obtain⟨a0,t0,hv0,hc0,ht0,_⟩:=laid_sentinel (g:=1) hL.tail.tail.tail.tail (by kernel_rfl) (by kernel_rfl) Tryz.underlying76 Kx Tryz.underlying188 Tryz.underlying190 rfl rfl Tryz.underlying9 (by kernel_rfl) (by kernel_rfl)
 obtain⟨a1,t1,hv1,hc1,ht1,_⟩:=laid_sentinel (g:=0) hL.tail.tail.tail.tail.tail (by kernel_rfl) (by kernel_rfl) Tryz.underlying76 Kx Tryz.underlying188 Tryz.underlying190 rfl rfl Tryz.underlying9 (by kernel_rfl) (by kernel_rfl)
 have r4:=Lib.laidMet.reads hL (.tail _ (.tail _ (.tail _ (.head _))))
 have r7:=Lib.laidMet.reads hL (.tail _ (.tail _ (.tail _ (.tail _ (.tail _ (.tail _ (.head _)))))))
 have r8:=Lib.laidMet.reads hL (.tail _ (.tail _ (.tail _ (.tail _ (.tail _ (.tail _ (.tail _ (.head _))))))))
 have r7':VarReads Tryz.prog W "unicode.CaseRanges" caseData:=by rw[←Pinned.caseRanges_eq];exact r7
 have r8':VarReads Tryz.prog W "unicode/utf8.first" firstData:=by rw[←Pinned.utf8First_eq];exact r8
 refine⟨?_,?_,?_,?_,⟨_,_,hv1⟩,⟨_,_,hv0⟩⟩
 ·exact cell_of_shapedOpen_int (zero:= #[.int .i64 0]) (t:=3) hS (of_decide_eq_true (by kernel_rfl)) (by kernel_rfl) rfl (by kernel_rfl) (by kernel_rfl) Tryz.underlying3
 ·exact caseVar_of_reads Ol Tryz.underlying217 ⟨by kernel_rfl,by kernel_rfl,by kernel_rfl,by kernel_rfl,by kernel_rfl,by kernel_rfl⟩ r7'
 ·exact utf8Tabs_of_readsT Pb ⟨by kernel_rfl,by kernel_rfl,by kernel_rfl,by kernel_rfl,by kernel_rfl,by kernel_rfl,by kernel_rfl⟩ r8' r4
 ·exact Lib.tabIs_of_head (g:=6) (t:=204) (e:=165) (n:=20) (by kernel_rfl) (by kernel_rfl) Tryz.underlying204 Tryz.underlying165 (by kernel_rfl) (by kernel_rfl) hL.tail.tail
end Go.Proofs.YtfcjjankfjaapaaGreatDoor.Glue
set_option linter.unusedVariables false
set_option linter.unusedSimpArgs false
set_option maxRecDepth 1000000
namespace Go.Proofs.YtfcjjankfjaapaaGreatDoor.Glue
open Go Go.Proofs Go.Shelf Go.Lib Go.Great Go.ChangeShapes Go.WideShapes Go.ChangeAt Go.RowKit
def vB {H:Type}:DataW H→List Value
 | .agg l=>l.flatMap fun| .lit (.int k z)=>[Value.int k z]| .agg [.lit (.int k z),.lit (.int k' z')]=>[Value.int k z,Value.int k' z']|_=>[]
 |_=>[]
def KS (l:List UInt8):Value:= .string ⟨l.toArray⟩
noncomputable def gS (os:Os):World:=
 let N:=(World.settled Tryz.prog os).heap.size
 let w0 := World.holding Tryz.prog os ⟨#[.cells (caseT.flatMap cells5).toArray 219,
  .cells #[KS [118,97,108,117,101,32,111,117,116,32,111,102,32,114,97,110,103,101]] 190,
  .cells #[KS [105,110,118,97,108,105,100,32,115,121,110,116,97,120]] 190],#[],[]⟩
 let put (h:Array Obj) (g:Nat) (cs:Array Value):Array Obj:=h.modify g fun
  | .cells _ t frozen=> .cells cs t frozen
  |o=>o
 let h1:=put w0.heap 0 #[.iface 188 (.pointer (some ⟨N+2,0,none⟩))]
 let h2:=put h1 1 #[.iface 188 (.pointer (some ⟨N+1,0,none⟩))]
 let h3:=put h2 3 #[.slice (some ⟨N,0,none⟩) caseT.length caseT.length]
 let h4:=put h3 4 (Lib.firstTab.map fun z=>Value.int .u8 z).toArray
 let h5:=put h4 5 (vB (H:=Unit) Rows.laid_unicode_utf8_acceptRanges).toArray
 let h6:=put h5 6 (vB (H:=Unit) Rows.laid_internal_strconv_uint64pow10).toArray
 let h7:=put h6 7 (vB (H:=Unit) Rows.laid_math_bits_deBruijn32tab).toArray
 let h8:=put h7 8 (vB (H:=Unit) Rows.laid_math_bits_deBruijn64tab).toArray
 {w0 with heap:=h8}
noncomputable abbrev N0:Nat:=(World.settled Tryz.prog default).heap.size
theorem cty:CTypes Tryz.prog 195 219 217 196 21:=⟨by kernel_rfl,by kernel_rfl,by kernel_rfl,by kernel_rfl,by kernel_rfl,by kernel_rfl,by kernel_rfl,by kernel_rfl,by kernel_rfl⟩
theorem QB (os:Os)(args:Array Value):LaidIn Tryz.prog ((gS os).forCall (fun _ _=>0) ⟨#[],args,[]⟩).memory (sy.take 6) [7,8,6,5,1,N0+1,0,N0+2]:=
 LaidIn.of_run [7,8,6,5,1,N0+1,0,N0+2] 8 (by kernel_rfl) (by kernel_rfl) (by kernel_rfl) (by kernel_rfl)
theorem QC (os:Os)(args:Array Value):LaidIn Tryz.prog ((gS os).forCall (fun _ _=>0) ⟨#[],args,[]⟩).memory [("unicode.CaseRanges",Rows.laid_unicode_CaseRanges)] [3,N0]:=by
 have e:Rows.laid_unicode_CaseRanges= .slice (caseT.map rowData) []:=Pinned.caseRanges_eq
 rw[e]
 exact laidIn_case cty (g:=3) (B:=N0) (tg:=195) (tb:=219) caseT (by kernel_rfl) (by kernel_rfl) (Nat.le_of_ble_eq_true (by kernel_rfl)) (by kernel_rfl) (by kernel_rfl) (by kernel_rfl) (Nat.ne_of_beq_eq_false (by kernel_rfl))
theorem QD (os:Os)(args:Array Value):LaidIn Tryz.prog ((gS os).forCall (fun _ _=>0) ⟨#[],args,[]⟩).memory [("unicode/utf8.first",Rows.laid_unicode_utf8_first)] [4]:=
 LaidIn.of_run [4] 8 (by kernel_rfl) (by kernel_rfl) (by kernel_rfl) (by kernel_rfl)
theorem LK (os:Os)(args:Array Value):laidMet Tryz.prog sy ((gS os).forCall (fun _ _=>0) ⟨#[],args,[]⟩).memory:=
 ((((QB os args).append (QC os args) (by kernel_rfl)).append (QD os args) (by kernel_rfl))).met
theorem own:ownKnob Tryz.prog.godebug=none:=by kernel_rfl
end Go.Proofs.YtfcjjankfjaapaaGreatDoor.Glue
set_option linter.unusedVariables false
set_option linter.unusedSimpArgs false
namespace Go.Abs.Ga
open Go Go.ChangeShapes Go.WideShapes Go.WideElems Go.RowKit Go.ChangeAt Go.Deep
inductive Sh where
 |int (k:IntKind)
 |bool
 |str
 |sl (st:Bool) (l:List Sh)
mutual
def Is:Sh→CV→Prop
 | .int k,c=> ∃n,c= .v (.int k n)∧(Lit.int k n).wf=true
 | .bool,c=> ∃b,c= .v (.bool b)
 | .str,c=> ∃s:List UInt8,c=CV.str s∧s.length≤maxLen
 | .sl st l,c=> ∃xs:List CV,c= .sl xs∧xs.length≤maxLen∧ ∀x∈xs,if st then ∃ys,x= .agg ys∧IsL l ys else IsL l [x]
def IsL:List Sh→List CV→Prop
 |[],ys=>ys=[]
 |s::l,ys=> ∃y r,ys=y::r∧Is s y∧IsL l r
end
theorem Dq: ∀{l:List Sh} {ys:List CV},IsL l ys→ys.length=l.length
 |[],ys,h=>by simp only[IsL]at h;rw[h];rfl
 |s::l,ys,h=>by
  simp only[IsL]at h
  obtain⟨y,r,rfl,_,h2⟩:=h
  simp[Dq h2]
theorem Dp: ∀{l m:List Sh} {xs ys:List CV},IsL l xs→IsL m ys→IsL (l++m) (xs++ys)
 |[],m,xs,ys,h1,h2=>by simp only[IsL]at h1;rw[h1];exact h2
 |s::l,m,xs,ys,h1,h2=>by
  simp only[IsL]at h1
  obtain⟨y,r,rfl,a,b⟩:=h1
  exact⟨y,r++ys,rfl,a,Dp b h2⟩
theorem zn {s:Sh}{c:CV}(h:Is s c):c.cells.length=1∧ ∀ys,c≠ .agg ys:=by
 cases s with
 |int k=>simp only[Is]at h;obtain⟨n,rfl,_⟩:=h;exact⟨rfl,fun ys e=>by cases e⟩
 |bool=>simp only[Is]at h;obtain⟨n,rfl⟩:=h;exact⟨rfl,fun ys e=>by cases e⟩
 |str=>simp only[Is]at h;obtain⟨n,rfl,_⟩:=h;exact⟨rfl,fun ys e=>by cases e⟩
 |sl st l=>simp only[Is]at h;obtain⟨n,rfl,_⟩:=h;exact⟨rfl,fun ys e=>by cases e⟩
def fieldsOf (P:Program)(f:TypeId→Option (List Sh)):Nat→List Field→Option (List Sh)
 |_,[]=>some []
 |off,x::r=>match f x.type with
  |some l=>if x.offset=off∧P.cellsOf x.type=l.length then(match fieldsOf P f (off+l.length) r with|some m=>some (l++m)|none=>none)else none
  |none=>none
def iB (P:Program):Nat→TypeId→Option (List Sh)
 |0,_=>none
 |n+1,t=>match P.underlying t with
  |some .bool=>some [.bool]
  |some (.int k)=>some [.int k]
  |some .string=>some [.str]
  | some (.slice e) => (match iB P n e with
   |some []=>none
   | some (x :: l) => if P.cellsOf e = (x :: l).length then (match P.underlying e with
    |some (.struct _)=>some [.sl true (x::l)]
    |_=>if l.length=0 then some [.sl false (x::l)]else none)else none
   |none=>none)
  | some (.struct fs) => (match fieldsOf P (iB P n) 0 fs.toList with
   |some l=>if P.cellsOf t=l.length then some l else none
   |none=>none)
  |_=>none
section
variable {H:Type}{enc:TypeId×Value→H}{P:Program}{w:World}{base:Nat}{spare:Nat→Bool}{held:Bool}
theorem VRL_app {G:Gh}: ∀{xs ys:List CV} {cs ds:List Value},VRL G w xs cs→VRL G w ys ds→VRL G w (xs++ys) (cs++ds)
 |[],ys,cs,ds,h1,h2=>by simp only[VRL]at h1;rw[h1];exact h2
 |x::xs,ys,cs,ds,h1,h2=>by
  simp only[VRL]at h1
  obtain⟨v,r,rfl,a,b⟩:=h1
  exact⟨v,r++ds,rfl,a,VRL_app b h2⟩
theorem NN {b:Nat}{off:Nat}{v:Value}(h:w.cell? ⟨b,off,none⟩=some v):off<(Gh.top w).O b:=by
 unfold World.cell? at h
 simp only[Gh.top]
 split at h
 ·rename_i c e fz hb
  rw[hb]
  simp only
  by_cases hl:off<c.size
  ·exact hl
  ·have h':c[off]? =some v:=by simpa using h
   rw[Array.getElem?_eq_none (by omega)]at h'
   cases h'
 ·cases h
theorem CL_of: ∀{xs:List CV} {cs:List Value} {b off:Nat},VRL (Gh.top w) w xs cs→(∀i,i<cs.length→w.cell? ⟨b,off+i,none⟩=cs[i]?)→CL (Gh.top w) w b off xs
 |[],cs,b,off,_,_=>by simp only[CL]
 |x::xs,cs,b,off,h1,h2=>by
  simp only[VRL]at h1
  obtain⟨v,r,rfl,a,c⟩:=h1
  have h0:=h2 0 (by simp)
  simp only[Nat.add_zero,List.getElem?_cons_zero]at h0
  simp only[CL]
  refine⟨⟨v,h0,NN h0,a⟩,CL_of c fun i hi=> ?_⟩
  have:=h2 (i+1) (by simp;omega)
  simpa[Nat.add_assoc,Nat.add_comm 1 i]using this
theorem Ls: ∀{n:Nat} {a:Addr} {cs:List Value},w.cells? base a n=some cs→cs.length=n∧ ∀i,i<n→w.cell? (a.add i)=cs[i]? :=by
 intro n a cs h
 obtain⟨_,h1,h2⟩:=World.cells?_some h
 exact⟨h1,h2⟩
theorem NR (a:Addr)(i j:Nat):(a.add i).add j=a.add (i+j):=by
 unfold Addr.add
 by_cases hi:i=0
 ·subst hi
  by_cases hj:j=0
  ·subst hj;simp
  ·simp[hj]
 ·by_cases hj:j=0
  ·subst hj;simp[hi]
  ·have:i+j≠0:=by omega
   simp only[if_neg hi,if_neg hj,if_neg this,Nat.add_assoc]
theorem add_lit (b o i:Nat):(⟨b,o,none⟩:Addr).add i=⟨b,o+i,none⟩:=by
 unfold Addr.add
 split
 ·rename_i h;subst h;rfl
 ·rfl
theorem KL {a:Addr}{v:Value}(h:w.cell? a=some v):a.spot=none:=by
 unfold World.cell? at h
 split at h
 ·split at h
  ·cases h
  ·rename_i hs
   cases hq:a.spot with
   |none=>rfl
   |some k=>exact absurd (by rw[hq];rfl) hs
 ·cases h
def Nj (enc:TypeId×Value→H)(P:Program)(w:World)(base:Nat)(spare:Nat→Bool)(held:Bool)(f:TypeId→Option (List Sh)):Prop:=
 ∀(fuel:Nat) (t:TypeId) (cs:List Value) (x:DataW H×List MemPlace) (l:List Sh),DataW.trod enc P w base spare held fuel t cs=some x→f t=some l→ ∃xs,IsL l xs∧VRL (Gh.top w) w xs cs
theorem VRL_len {G:Gh}: ∀{xs:List CV} {cs:List Value},VRL G w xs cs→xs.length=cs.length
 |[],cs,h=>by simp only[VRL]at h;rw[h];rfl
 |x::xs,cs,h=>by
  simp only[VRL]at h
  obtain⟨v,r,rfl,_,b⟩:=h
  simp[VRL_len b]
theorem tz {f:TypeId→Option (List Sh)}(hf:Nj enc P w base spare held f){fuel:Nat}: ∀(fs:List Field) (off:Nat) (cs:List Value) (l:List Sh),fieldsOf P f off fs=some l→cs.length=off+l.length→
  (∀x∈fs,∃y,DataW.trod enc P w base spare held fuel x.type ((cs.drop x.offset).take (P.cellsOf x.type))=some y)→ ∃xs,IsL l xs∧VRL (Gh.top w) w xs (cs.drop off)
 |[],off,cs,l,h,hl,_=>by
  simp only[fieldsOf]at h
  injection h with h
  subst h
  refine⟨[],rfl,?_⟩
  rw[List.drop_eq_nil_of_le (by simp at hl;omega)]
  rfl
 |x::r,off,cs,l,h,hl,ha=>by
  simp only[fieldsOf]at h
  split at h
  ·rename_i l1 h1
   split at h
   ·rename_i hc
    split at h
    ·rename_i m h2
     injection h with h
     subst h
     obtain⟨y,hy⟩:=ha x (by simp)
     obtain⟨xs,a1,a2⟩:=hf fuel x.type _ y l1 hy h1
     obtain⟨ys,b1,b2⟩:=tz hf r (off+l1.length) cs m h2 (by rw[hl,List.length_append];omega) fun z hz=>ha z (List.mem_cons_of_mem _ hz)
     refine⟨xs++ys,Dp a1 b1,?_⟩
     rw[hc.1,hc.2]at a2
     have:cs.drop off=(cs.drop off).take l1.length++cs.drop (off+l1.length):=by
      rw[←List.drop_drop,List.take_append_drop]
     rw[this]
     exact VRL_app a2 b2
    ·cases h
   ·cases h
  ·cases h
theorem EL_of {b s:Nat}{st:Bool}{l:List Sh}: ∀(xs:List CV) (off:Nat),(∀x∈xs,if st then ∃ys,x= .agg ys∧IsL l ys else IsL l [x])→
  (∀j x,xs[j]? =some x→ ∃cs,VRL (Gh.top w) w x.cells cs∧cs.length=s∧ ∀i,i<s→w.cell? ⟨b,off+j*s+i,none⟩=cs[i]?)→(st=false→s=1)→EL (Gh.top w) w b s off xs
 |[],off,_,_,_=>by simp only[EL]
 |x::r,off,h,hc,hs=>by
  obtain⟨cs,c1,c2,c3⟩:=hc 0 x rfl
  have hr := EL_of (b := b) (s := s) (st := st) (l := l) r (off + s) (fun y hy => h y (List.mem_cons_of_mem _ hy)) (fun j y hy => by
   obtain⟨ds,d1,d2,d3⟩:=hc (j+1) y (by simpa using hy)
   refine⟨ds,d1,d2,fun i hi=> ?_⟩
   have:=d3 i hi
   rw[Nat.add_mul,Nat.one_mul]at this
   rw[←this]
   congr 2
   omega) hs
  have h0:=h x (by simp)
  simp only[Nat.zero_mul,Nat.add_zero]at c3
  cases st with
  |true=>
   simp only[if_true]at h0
   obtain⟨ys,rfl,_⟩:=h0
   simp only[EL]
   refine⟨CL_of (cs:=cs) c1 (fun i hi=>c3 i (by omega)),hr⟩
  |false=>
   simp only[Bool.false_eq_true,if_false]at h0
   have hp: ∀ys,x≠ .agg ys:=by
    match l,h0 with
    |s::l',h0=>
     simp only[IsL]at h0
     obtain⟨y,r',e,h1,_⟩:=h0
     injection e with e _
     subst e
     exact(zn h1).2
    |[],h0=>simp only[IsL]at h0;cases h0
   have hx:x.cells=[x]:=by cases x<;>first|rfl|exact absurd rfl (hp _)
   rw[hx]at c1
   simp only[VRL]at c1
   obtain⟨v,r',rfl,c1,rfl⟩:=c1
   have h1:=c3 0 (by rw[hs rfl];omega)
   simp only[Nat.add_zero,List.getElem?_cons_zero]at h1
   cases x<;>first|exact absurd rfl (hp _)|(simp only[EL];exact⟨⟨v,h1,NN h1,c1⟩,hr⟩)
theorem Hk: ∀n,Nj enc P w base spare held (iB P n):=by
 intro n
 induction n with
 |zero=>intro fuel t cs x l _ h;simp[iB]at h
 |succ n ih=>
  intro fuel t cs x l ht h
  unfold iB at h
  split at h
  ·rename_i hu
   injection h with h;subst h
   obtain⟨b,rfl,_⟩:=DataW.trod_bool hu ht
   exact⟨[.v (.bool b)],⟨_,_,rfl,⟨b,rfl⟩,rfl⟩,⟨_,_,rfl,rfl,rfl⟩⟩
  ·rename_i k hu
   injection h with h;subst h
   obtain⟨m,rfl,_,hw⟩:=DataW.trod_int hu ht
   exact⟨[.v (.int k m)],⟨_,_,rfl,⟨m,rfl,hw⟩,rfl⟩,⟨_,_,rfl,rfl,rfl⟩⟩
  ·rename_i hu
   injection h with h;subst h
   obtain⟨s,rfl,_,hs⟩:=DataW.trod_string hu ht
   refine⟨[CV.str s.data.toList],⟨_,_,rfl,⟨s.data.toList,rfl,hs⟩,rfl⟩,⟨_,_,rfl,?_,rfl⟩⟩
   cases s
   rfl
  ·rename_i e hu
   have key: ∀(st:Bool) (sh:List Sh),l=[.sl st sh]→iB P n e=some sh→P.cellsOf e=sh.length→sh≠[]→(st=false→sh.length=1)→(st=true→ ∃fs,P.underlying e=some (.struct fs))→ ∃xs,IsL l xs∧VRL (Gh.top w) w xs cs:=by
    intro st sh hl h1 h2 h3 h4 _
    subst hl
    rcases open_slice hu ht with⟨rfl,_⟩|⟨a,len,cap,m,k,D,Pl,rfl,hb,hle,hm,hmm,_,hx⟩
    ·exact⟨[.sl []],⟨_,_,rfl,⟨[],rfl,by simp,fun x hx=>absurd hx (by simp)⟩,rfl⟩,⟨_,_,rfl,⟨none,0,0,rfl,rfl,Nat.le_refl _,Or.inl rfl⟩,rfl⟩⟩
    ·have hlm:len≤m:=by rw[hmm];split<;>omega
     have hone: ∀i,i<len→ ∃x:CV,(if st then ∃ys,x= .agg ys∧IsL sh ys else IsL sh [x])∧ ∃ds,VRL (Gh.top w) w x.cells ds∧ds.length=sh.length∧ ∀j,j<sh.length→w.cell? (a.add (i*sh.length+j))=ds[j]? :=by
      intro i hi
      obtain⟨cs',c1,c2⟩:=hx i (by omega)
      obtain⟨xs,x1,x2⟩:=ih k e cs' _ sh c2 h1
      obtain⟨d1,d2⟩:=Ls c1
      rw[h2]at d1 d2
      have d2': ∀j,j<sh.length→w.cell? (a.add (i*sh.length+j))=cs'[j]? :=fun j hj=>by
       rw[←d2 j hj,NR]
      cases st with
      |true=>exact⟨.agg xs,⟨xs,rfl,x1⟩,cs',x2,d1,d2'⟩
      |false=>
       have hl1:=Dq x1
       rw[h4 rfl]at hl1
       obtain⟨y,rfl⟩:=List.length_eq_one_iff.1 hl1
       refine⟨y,x1,cs',?_,d1,d2'⟩
       have hp: ∀ys,y≠ .agg ys:=by
        match sh,x1 with
        |s::l',x1=>
         simp only[IsL]at x1
         obtain⟨y',r',e',z1,_⟩:=x1
         injection e' with e' _
         subst e'
         exact(zn z1).2
        |[],x1=>simp only[IsL]at x1;cases x1
       have hy:y.cells=[y]:=by cases y<;>first|rfl|exact absurd rfl (hp _)
       rw[hy]
       exact x2
     obtain⟨X,hX⟩:=choose_lt hone
     have hget: ∀j x,((List.range len).map X)[j]? =some x→j<len∧x=X j:=by
      intro j x hj
      rw[List.getElem?_map]at hj
      cases hq:(List.range len)[j]? with
      |none=>rw[hq]at hj;cases hj
      |some z=>
       rw[hq]at hj
       obtain⟨h5,h6⟩:=List.getElem?_eq_some_iff.1 hq
       simp at h5 h6 hj
       subst h6
       exact⟨h5,hj.symm⟩
     refine⟨[.sl ((List.range len).map X)],⟨_,_,rfl,⟨_,rfl,by simp;omega,fun x hxm=> ?_⟩,rfl⟩,⟨_,_,rfl,⟨some a,len,cap,rfl,by simp,hle,?_⟩,rfl⟩⟩
     ·obtain⟨j,hj⟩:=List.getElem?_of_mem hxm
      obtain⟨h5,rfl⟩:=hget j x hj
      exact(hX j h5).1
     ·by_cases h0:len=0
      ·exact Or.inl h0
      ·right
       have hpos:0<sh.length:=List.length_pos_iff.2 h3
       have hsp:a.spot=none:=by
        obtain⟨_,ds,e1,e2,e3⟩:=hX 0 (by omega)
        have:=e3 0 hpos
        rw[List.getElem?_eq_getElem (by omega)]at this
        exact KL (by simpa[Addr.add]using this)
       have ha:a=⟨a.block,a.off,none⟩:=by cases a;simp at hsp;simp[hsp]
       refine⟨a.block,a.off,sh.length,by rw[←ha],fun x hxm=> ?_,?_⟩
       ·obtain⟨j,hj⟩:=List.getElem?_of_mem hxm
        obtain⟨h5,rfl⟩:=hget j x hj
        obtain⟨_,ds,e1,e2,_⟩:=hX j h5
        rw[VRL_len e1,e2]
       ·refine EL_of (st:=st) (l:=sh) _ _ (fun x hxm=> ?_) (fun j x hj=> ?_) (fun e=>h4 e)
        ·obtain⟨j,hj⟩:=List.getElem?_of_mem hxm
         obtain⟨h5,rfl⟩:=hget j x hj
         exact(hX j h5).1
        ·obtain⟨h5,rfl⟩:=hget j x hj
         obtain⟨_,ds,e1,e2,e3⟩:=hX j h5
         refine⟨ds,e1,e2,fun i hi=> ?_⟩
         rw[←e3 i hi,ha,add_lit,Nat.add_assoc]
   split at h
   ·cases h
   ·rename_i y l' h1
    split at h
    ·rename_i h2
     split at h
     ·rename_i fs h3
      injection h with h
      exact key true _ h.symm h1 h2 (by simp) (fun e=>by cases e) (fun _=>⟨fs,h3⟩)
     ·split at h
      ·rename_i h4
       injection h with h
       exact key false _ h.symm h1 h2 (by simp) (fun _=>by simp only[List.length_cons];omega) (fun e=>by cases e)
      ·cases h
    ·cases h
   ·cases h
  ·rename_i fs hu
   split at h
   ·rename_i l' h1
    split at h
    ·rename_i h2
     injection h with h
     subst h
     obtain⟨xs,m,_,_,h3,h4,h5⟩:=DataW.trod_struct hu ht
     have:=tz ih (fuel:=m) fs.toList 0 cs l' h1 (by rw[h3,h2,Nat.zero_add]) fun f hf=>by
      obtain⟨i,hi⟩:=List.getElem?_of_mem hf
      have hi':fs[i]? =some f:=by rw[←Array.getElem?_toList];exact hi
      have hlt:i<xs.length:=by
       rw[h4]
       exact(Array.getElem?_eq_some_iff.1 hi').1
      refine⟨xs[i],?_⟩
      rw[h5 i f hi',List.getElem?_eq_getElem hlt]
     rw[List.drop_zero]at this
     exact this
    ·cases h
   ·cases h
  ·cases h
def gQ (P:Program)(t:TypeId):Bool:=match P.underlying t with|some (.struct _)=>true|_=>false
theorem open_arg {n:Nat}{t:TypeId}{v:Value}{l:List Sh}{d:DataW H}{ps:List MemPlace}{r:Reach}{b0:Nat}(hl:iB P n t=some l)(hval:Value.okWide P w r b0 t v)(hd:DataW.Trod enc P w base spare held t v d ps):
  ∃c,VR (Gh.top w) w c v∧(if gQ P t=true then ∃ys,c= .agg ys∧IsL l ys else IsL l [c]):=by
 obtain⟨fuel,hf⟩:=hd
 obtain⟨xs,h1,h2⟩:=Hk n fuel t _ _ l hf hl
 by_cases hs:gQ P t=true
 ·simp only[hs,if_true]
  obtain⟨fs,hfs⟩: ∃fs,P.underlying t=some (.struct fs):=by
   unfold gQ at hs
   split at hs
   ·rename_i fs h;exact⟨fs,h⟩
   ·cases hs
  obtain⟨cs,rfl,_⟩:=okWide_struct hfs hval
  exact⟨.agg xs,⟨cs,rfl,h2⟩,xs,rfl,h1⟩
 ·simp only[hs,if_false,Bool.false_eq_true]
  have hv:v.cells.toList=[v]:=by
   cases n with
   |zero=>simp[iB]at hl
   |succ n=>
    unfold iB at hl
    split at hl
    ·rename_i hu
     obtain⟨_,rfl⟩:=okWide_bool hu hval
     rfl
    ·rename_i k hu
     obtain⟨_,rfl⟩:=okWide_int hu hval
     rfl
    ·rename_i hu
     obtain⟨_,rfl⟩:=okWide_string hu hval
     rfl
    ·rename_i e hu
     obtain⟨_,_,_,rfl⟩:=okWide_slice hu hval
     rfl
    ·rename_i fs hu
     exact absurd (by unfold gQ;rw[hu]) hs
    ·cases hl
  rw[hv]at h2
  have hlen:=VRL_len h2
  obtain⟨c,rfl⟩:=List.length_eq_one_iff.1 hlen
  simp only[VRL]at h2
  obtain⟨v',r',e,h3,_⟩:=h2
  injection e with e _
  subst e
  exact⟨c,h3,h1⟩
theorem Ky {W W':World}(h:wL W W'){p:MemPlace}(hp:p.block<W.heap.size):W.sameAt W' p:=by
 cases p with
 |cell b o=>exact World.cell?_of_block (w:=W) (h.2.2.2 b hp)
 |map b=>exact h.2.2.2 b hp
def wi (P:Program)(ts:List TypeId):Bool:=ts.all fun t=>P.readableRec t&&decide (t<P.types.size)
theorem xE (hl:laidOutB P=true){W W':World}(hk:wL W W'){sp:Nat→Bool}: ∀{ts:List TypeId} {vs:List Value} {ds:List (DataW H)} {ps:List MemPlace},wi P ts=true→
  DataW.TrodAll enc P W 0 (fun _=>true) true ts vs ds ps→(∀p∈ps,p.block<W.heap.size)→(∀p∈ps,sp p.block=true)→DataW.TrodAll enc P W' 0 sp true ts vs ds ps
 |[],[],[],ps,_,h,_,_=>h
 |t::ts,v::vs,d::ds,ps,hr,h,hlt,hsp=>by
  simp only[DataW.TrodAll]at h ⊢
  obtain⟨p,q,⟨fuel,h1⟩,h2,rfl⟩:=h
  simp only[wi,List.all_cons,Bool.and_eq_true,decide_eq_true_eq]at hr
  refine⟨p,q,⟨fuel,DataW.trod_stays (kids_book hl hr.1.1) (book_sized hr.1.1) (fun h=>by cases h) ⟨hr.1.2,book_self t⟩ h1 (fun x hx=>Ky hk (hlt x (List.mem_append_left _ hx))) (fun x hx=>hsp x (List.mem_append_left _ hx))⟩,?_,rfl⟩
  exact xE hl hk (by simpa[wi]using hr.2) h2 (fun x hx=>hlt x (List.mem_append_right _ hx)) (fun x hx=>hsp x (List.mem_append_right _ hx))
 |[],_::_,_,_,_,h,_,_=>h.elim
 |[],[],_::_,_,_,h,_,_=>h.elim
 |_::_,[],_,_,_,h,_,_=>h.elim
 |_::_,_::_,[],_,_,h,_,_=>h.elim
end
theorem post_true {H:Type}{enc:TypeId×Value→H}{P:Program}{f:Func}{s:ChangeSpec}{tb:TypeId}(hl:laidOutB P=true)(hr:wi P f.params.toList=true)(hb:P.underlying tb=some .bool)(hf:f.resultTypes= #[tb])
  (hvs:s.vars=[]) {W W':World} {args:Array Value} {ds gs:List (DataW H)} {before:List MemPlace}
  (hW:DataW.Whole enc P f.params.toList s.vars false W args.toList ds gs before) (hs1:(s.fn H ds).results=[.lit (.bool true)]) (hs2:(s.fn H ds).args=ds) (hs3:(s.fn H ds).vars=[]) (hk:wL W W'):
  s.post enc P f false true false false W args (.bool true) W':=by
 have hW':=hW
 obtain⟨p,q,hA,hV,rfl,_,_⟩:=hW
 have hlt:=fun x hx=>hW'.lt x hx
 rw[hvs]at hV
 obtain⟨rfl,rfl⟩:=trodVars_none hV
 simp only[List.append_nil]at hW' hlt
 refine Kl (pa:=p) (pv:=[]) hW' ?_ ?_ ?_ (by simp) hk ?_
 ·intro b sp hd
  simp only[List.append_nil,hs1,hf]
  exact trodAll_cons_mk (shut_bool hb _) trodAll_mk0
 ·intro sp hsp
  simp only[List.append_nil,hs2]
  exact xE hl hk hr hA hlt hsp
 ·intro sp hsp
  simp only[List.append_nil,hs3,hvs]
  rfl
 ·exact ok_one hf rfl (okWide_bool_mk hb _)
end Go.Abs.Ga
set_option linter.unusedVariables false
set_option linter.unusedSimpArgs false
set_option maxRecDepth 100000
namespace Go.Abs
open Go Go.Proofs
section
variable {α β:Type}
theorem aa {a:α}{k:α→Option β}:opt (some a) k=k a:=rfl
theorem az {k:Option β}:ay true k=k:=rfl
theorem ao {k:IntKind}{n:Int}:aI k (LV.int k n)=some n:=by simp[aI]
theorem aj {s:List UInt8}:aN (LV.str s)=some s:=rfl
theorem ae {b:Bool}:aQ (LV.bool b)=some b:=rfl
theorem aq {l:List LV}:aX (.ltup l)=some l:=rfl
theorem am {α:Type}{a:α}{r:List α}:aB (a::r)=some (a,r):=rfl
theorem av {l:List CV}:cF (.cv (.sl l))=some l:=rfl
theorem au {l:List CV}:cF (.osl l)=some l:=rfl
theorem ar {l:List CV}:fG (.osl l)=some l:=rfl
theorem ak {α:Type}:aS ([]:List α)=some ():=rfl
theorem ad {v:LV}{μ:Mu}{k:LV→Mu→Option β}{p:CV→Mu→Option β}:callK (some (.ret v μ)) k p=k v μ:=rfl
theorem d7 {v:CV}{μ:Mu}{k:LV→Mu→Option β}{p:CV→Mu→Option β}:callK (some (.panic v μ)) k p=p v μ:=rfl
theorem cp {x:Int}(h0: -9223372036854775808≤x)(h1:x<9223372036854775808):IntKind.wrap .i64 x=x:=by
 have e1:(2^IntKind.i64.bits:Int)=18446744073709551616:=by decide
 have e2:(2^(IntKind.i64.bits-1):Int)=9223372036854775808:=by decide
 have e3:IntKind.i64.signed=true:=rfl
 unfold IntKind.wrap
 simp only[e1,e2,e3,Bool.true_and,decide_eq_true_eq]
 split<;>omega
theorem HG {x:Int}(h0:0≤x)(h1:x<256):IntKind.wrap .u8 x=x:=by
 have e1:(2^IntKind.u8.bits:Int)=256:=by decide
 have e3:IntKind.u8.signed=false:=rfl
 unfold IntKind.wrap
 simp only[e1,e3,Bool.false_and]
 simp only[Bool.false_eq_true,if_false]
 omega
theorem lw {l:List UInt8}{i:Nat}:bo l (i:Int)=l[i]? :=by
 simp[bo]
theorem ey {l:List CV}{i:Nat}:bZ l (i:Int)=l[i]? :=by
 simp[bZ]
theorem fm {a:LV}{r:List LV}:bH E.P 9 (.cells (a::r)) 0=some (strip a):=by kernel_rfl
theorem uS {a b:LV}{r:List LV}:bH E.P 4 (.cells (a::b::r)) 1=some (strip b):=by kernel_rfl
theorem dm {s:List UInt8}:strip (LV.str s)=LV.str s:=rfl
theorem qa {s:Bool}:strip (LV.bool s)=LV.bool s:=rfl
theorem dh: ∀(l:List UInt8),bi (br l)=some l
 |[]=>rfl
 |b::r=>by
  have ih:=dh r
  have e:br (b::r)=CV.int .u8 (b.toNat:Int)::br r:=rfl
  rw[e]
  simp only[bi]
  rw[ih]
  have h:=b.toNat_lt
  have h2:(decide ((0:Int)≤(b.toNat:Int))&&decide ((b.toNat:Int)<256))=true:=by simp;omega
  rw[h2]
  simp[opt]
theorem BV (a b:List UInt8):br (a++b)=br a++br b:=by simp[br]
theorem iM (a:List UInt8):(br a).length=a.length:=by simp[br]
theorem lB: ∀(l:List UInt8),gD 1 (br l)=true
 |[]=>rfl
 |b::r=>by
  have e:br (b::r)=CV.int .u8 (b.toNat:Int)::br r:=rfl
  rw[e]
  simp only[gD]
  have:fg 1 (CV.int .u8 (b.toNat:Int))=true:=rfl
  rw[this]
  exact lB r
theorem BM {a b:List UInt8}(h:a.length+b.length≤1099511627776):gE 1 (br a) (br b)=true:=by
 unfold gE
 rw[lB,lB,iM,iM]
 simp[bn,h]
def bw (l:List (List UInt8)):List CV:=l.map CV.str
theorem gP {s:List UInt8}:aN (LV.cv (CV.str s))=some s:=rfl
theorem bq {n:Nat}(h:n≤1099511627776):bn n=true:=by simp[bn,h]
theorem eK {f:FuncId}{g:fB}{args:List LV}{μ:Mu}{out:Out}(h:E.prim f=some g)(hg:g args μ=some out):(ev E).call f args μ=some out:=by
 refine aO ?_
 unfold aH
 rw[h]
 exact hg
theorem NC {s:List UInt8}{μ:Mu}(h:s.length≤1000000):(ev E).call 91 [LV.str s] μ=some (.ret (LV.str (Lib.toUpperD s)) μ):=by
 refine eK (g:=p4) (by kernel_rfl) ?_
 have:dO s=true:=by simp[dO,h]
 simp only[p4,sH,am,aa,ak,aj,this,az]
theorem Nw {s:List UInt8}{μ:Mu}{c:UInt8}(hc:c.toNat<128):(ev E).call 62 [LV.str s,LV.str [c]] μ=some (.ret (LV.str (Lib.trimLeftB s c)) μ):=by
 refine eK (g:=ny) (by kernel_rfl) ?_
 have:decide (c.toNat<128)=true:=by simp[hc]
 simp only[ny,gd,am,aa,ak,aj,xg,this,az]
theorem Nx {s:List UInt8}{μ:Mu}{c:UInt8}(hc:c.toNat<128)(h:s.length≤1000000):(ev E).call 63 [LV.str s,LV.str [c]] μ=some (.ret (LV.str (Lib.trimRightB s c)) μ):=by
 refine eK (g:=lX) (by kernel_rfl) ?_
 have:(decide (c.toNat<128)&&dO s)=true:=by simp[hc,dO,h]
 simp only[lX,gd,am,aa,ak,aj,xg,this,az]
theorem FX {s:List UInt8}{μ:Mu}(h:s.length≤1000000):(ev E).call 45 [LV.str s] μ=some (.ret (vg 146 s) μ):=by
 refine eK (g:=y0 146) (by kernel_rfl) ?_
 have:dO s=true:=by simp[dO,h]
 simp only[y0,sH,am,aa,ak,aj,this,az]
theorem Ny {n:Int}{μ:Mu}(h0: -9223372036854775808≤n)(h1:n≤9223372036854775807):(ev E).call 66 [LV.int .i64 n] μ=some (.ret (LV.str (Lib.itoa n)) μ):=by
 refine eK (g:=vW) (by kernel_rfl) ?_
 have:(decide (-9223372036854775808≤n)&&decide (n≤9223372036854775807))=true:=by simp[h0,h1]
 simp only[vW,am,aa,ak,ao,this,az]
theorem PS {s p:List UInt8}{μ:Mu}:(ev E).call 194 [LV.str s,LV.str p] μ=some (.ret (LV.str (Lib.trimPrefix s p)) μ):=by
 refine eK (g:=kJ) (by kernel_rfl) ?_
 simp only[kJ,gd,am,aa,ak,aj]
theorem PT {s p:List UInt8}{μ:Mu}:(ev E).call 195 [LV.str s,LV.str p] μ=some (.ret (LV.bool (Lib.hasPrefix s p)) μ):=by
 refine eK (g:=lW) (by kernel_rfl) ?_
 simp only[lW,gd,am,aa,ak,aj]
theorem JC {s p:List UInt8}{μ:Mu}(h:s.length≤1000000):(ev E).call 145 [LV.str s,LV.str p] μ=some (.ret (LV.int .i64 (Lib.index s p)) μ):=by
 refine eK (g:=vV) (by kernel_rfl) ?_
 have:dO s=true:=by simp[dO,h]
 simp only[vV,gd,am,aa,ak,aj,this,az]
theorem Rg {s old new:List UInt8}{μ:Mu}(h:s.length≤1000000)(h2:new.length≤1000000)(h1:1≤old.length):(ev E).call 84 [LV.str s,LV.str old,LV.str new] μ=some (.ret (LV.str (Lib.replaceAll s old new)) μ):=by
 refine eK (g:=kI) (by kernel_rfl) ?_
 have:(dO s&&dO new&&decide (1≤old.length))=true:=by simp[dO,h,h1,h2]
 simp only[kI,y8,am,aa,ak,aj,this,az]
end
end Go.Abs
