/-
  The statement TokensAgainCardSaid, proved; part 4 of 6 of its proof.
  Library contracts at this program, laid by the shelf's tool; a part of them.
  The library's functions that are taken by contract: strings and numbers.
  What the rows' listed variables give in a world that begins as they say.
  A world in which the listed variables hold what the rows say: the witness of all laws of this chapter.
  A law's arguments of plain data as values of the abstract interpreter; and that they read behind a call that turns nothing as they did.
  Small facts for the laws of the tokens' functions.
  Normal forms. Printed by a program.
-/
import Derived.Shelf.Strings.Builder1
import Derived.Shelf.Strings.Builder2
import Derived.Shelf.Strings.OnBuilder
import Derived.Shelf.Strings.Trim
import Derived.Shelf.Small.Utf8
import Derived.Shelf.Small.Strs
import Derived.Shelf.Strings.BuilderF
import Derived.Shelf.Strings.BuilderK
import Derived.Shelf.Strings.BuilderRune
import Derived.Shelf.Utf8.RuneCount
import Derived.Shelf.Strings.Builder2Cap
import Derived.Shelf.Strconv.Atoi
import Derived.Shelf.Strconv.Itoa0
import Derived.Shelf.Strconv.Itoa1
import Derived.Shelf.LaysM
import Derived.Shelf.Strconv.Itoa2
import Derived.Shelf.Strconv.Itoa3
import Derived.Shelf.Strconv.AtoiErrFast
import Derived.Shelf.Strconv.ParseIntEmpty
import Derived.Shelf.Strconv.AtoiFail
import Derived.Shelf.Strconv.Clone
import Derived.Shelf.Strconv.SyntaxError
import Derived.Shelf.LaysC
import Derived.Shelf.Strconv.ToError
import Derived.Shelf.Strconv.Lower
import Derived.Shelf.Strconv.ParseUint10
import Derived.Shelf.Strconv.ParseUint10Empty
import Derived.Shelf.Strconv.ParseUint10Any
import Derived.Shelf.Strconv.ParseInt10
import Derived.Shelf.Strconv.AtoiLong
import Derived.Shelf.Strconv.AtoiInnerAll
import Derived.Shelf.Strconv.RangeError
import Derived.Shelf.Strconv.ToErrorRange
import Derived.Shelf.Strconv.AtoiAll
import Derived.Shelf.Strconv.ErrVarAll
import Derived.Shelf.Strings.Search1
import Derived.Shelf.Strings.Search2
import Derived.Shelf.Strings.Search3
import Derived.Shelf.Strings.Cut
import Derived.Shelf.Strings.Count
import Derived.Shelf.Strings.Shaped
import Derived.Shelf.GgClosure.StringsIndexFunc
import Derived.Ground.GgwProg
import Derived.Shelf.GgClosure.StringsIndexFuncTop
import Derived.Shelf.Strings.Prefix
import Derived.Shelf.Strings.Split
import Derived.Shelf.Strings.Replace
import Derived.Shelf.Strings.SplitShaped
import Derived.Shelf.Unicode.Latin
import Derived.Shelf.Unicode.Decode
import Derived.Shelf.Strings.Runes
import Derived.Shelf.Strings.RuneCount
import Derived.Shelf.Strings.IndexAny
import Derived.Shelf.Strings.AsciiSet
import Derived.Shelf.Strings.IndexAnyAll
import Derived.Shelf.Unicode.DecodeSlow
import Derived.Shelf.Unicode.DecodeAny
import Derived.Shelf.Unicode.DecodeLast
import Derived.Shelf.Unicode.CaseLookup
import Derived.Shelf.Unicode.CaseConvert
import Derived.Shelf.Unicode.CaseTo
import Derived.Shelf.Unicode.CaseLaid
import Derived.Shelf.Strings.MapAny
import Derived.Shelf.Strings.CaseAny
import Derived.Shelf.Strings.FuncGrows
import Derived.Shelf.Strings.BuilderCap
import Derived.Test.YtfcjjankfjaapaaGreatDoorProg
import Derived.Test.YtfcjjankfjaapaaGreatDoorG2
import Derived.Lib.CaseU
import Derived.Lib.SmallJoins
import Derived.Lib.SplitLaws
import Derived.Lib.DecodeN
import Derived.Test.YtfcjjankfjaapaaGreatDoorRows
import Derived.PinnedBridge
import Derived.Lib.LaidU8T
import Derived.Stop.LaidErr
import Derived.Shelf.Vars
import Derived.ProofKit
import Derived.Great.CaseRows
import Derived.Lib.LaidIn
import Derived.Deep.DeepHandedRow
import Derived.Deep.DeepWitnessRowRef
import Derived.OpenShut
import Derived.Deep.Slices
import Derived.ChangeStays
import Derived.ChangeBook
set_option linter.all false
set_option linter.unusedSectionVars false
namespace Go.Proofs
open Go.Shelf
def Tryz.lays169_ren:Go.Shelf.Ren:=⟨fun|169=>77|n=>n,fun|70=>100|9=>9|0=>0|72=>103|37=>101|127=>137|3=>3|5=>5|n=>n,fun|n=>n⟩
theorem Tryz.Builder_Extra_169 : Builder.Extra Tryz.prog Tryz.lays169_ren := {
 sizeBuilder:=by kernel_rfl
 liesBuilder:=by kernel_rfl
 t5:=Tryz.underlying5
 a5:=Tryz.isAgg5
 z5:=Tryz.sizeOf5
 v5:=Tryz.zeroValue5
 infoByte:=by kernel_rfl
 cellsByte:=by kernel_rfl
 sizeByte:=by kernel_rfl
 neB5:=by decide}
def Tryz.lays158_ren:Go.Shelf.Ren:=⟨fun|158=>91|165=>129|166=>75|167=>74|169=>77|230=>130|203=>131|240=>116|241=>153|197=>141|118=>154|168=>155|270=>156|262=>157|276=>146|277=>179|260=>160|242=>180|313=>181|278=>197|274=>198|275=>199|n=>n,fun|9=>9|4=>4|3=>3|5=>5|72=>103|0=>0|76=>77|75=>76|107=>151|70=>100|20=>20|37=>101|127=>137|21=>21|105=>155|164=>159|162=>195|203=>193|119=>199|46=>154|139=>202|138=>201|51=>196|160=>212|208=>219|206=>217|80=>107|n=>n,fun|13=>3|3=>4|4=>5|n=>n⟩
theorem Tryz.lays158 : Go.Proofs.Lays.n158 Tryz.prog Tryz.lays158_ren := {
 mixed:=by kernel_rfl
 f118:=Tryz.func154.trans (congrArg some (by kernel_rfl))
 f158:=Tryz.func91.trans (congrArg some (by kernel_rfl))
 f165:=Tryz.func129.trans (congrArg some (by kernel_rfl))
 f166:=Tryz.func75.trans (congrArg some (by kernel_rfl))
 f167:=Tryz.func74.trans (congrArg some (by kernel_rfl))
 f168:=Tryz.func155.trans (congrArg some (by kernel_rfl))
 f169:=Tryz.func77.trans (congrArg some (by kernel_rfl))
 f197:=Tryz.func141.trans (congrArg some (by kernel_rfl))
 f203:=Tryz.func131.trans (congrArg some (by kernel_rfl))
 f230:=Tryz.func130.trans (congrArg some (by kernel_rfl))
 f240:=Tryz.func116.trans (congrArg some (by kernel_rfl))
 f241:=Tryz.func153.trans (congrArg some (by kernel_rfl))
 f242:=Tryz.func180.trans (congrArg some (by kernel_rfl))
 f260:=Tryz.func160.trans (congrArg some (by kernel_rfl))
 f262:=Tryz.func157.trans (congrArg some (by kernel_rfl))
 f270:=Tryz.func156.trans (congrArg some (by kernel_rfl))
 f274:=Tryz.func198.trans (congrArg some (by kernel_rfl))
 f275:=Tryz.func199.trans (congrArg some (by kernel_rfl))
 f276:=Tryz.func146.trans (congrArg some (by kernel_rfl))
 f277:=Tryz.func179.trans (congrArg some (by kernel_rfl))
 f278:=Tryz.func197.trans (congrArg some (by kernel_rfl))
 f313:=Tryz.func181.trans (congrArg some (by kernel_rfl))
 t0:=Tryz.underlying0
 a0:=Tryz.isAgg0
 z0:=Tryz.sizeOf0
 v0:=Tryz.zeroValue0
 t3:=Tryz.underlying3
 a3:=Tryz.isAgg3
 z3:=Tryz.sizeOf3
 v3:=Tryz.zeroValue3
 t4:=Tryz.underlying4
 a4:=Tryz.isAgg4
 z4:=Tryz.sizeOf4
 v4:=Tryz.zeroValue4
 t5:=Tryz.underlying5
 a5:=Tryz.isAgg5
 z5:=Tryz.sizeOf5
 v5:=Tryz.zeroValue5
 t9:=Tryz.underlying9
 a9:=Tryz.isAgg9
 z9:=Tryz.sizeOf9
 v9:=Tryz.zeroValue9
 t20:=Tryz.underlying20
 a20:=Tryz.isAgg20
 z20:=Tryz.sizeOf20
 v20:=Tryz.zeroValue20
 t21:=Tryz.underlying21
 a21:=Tryz.isAgg21
 z21:=Tryz.sizeOf21
 v21:=Tryz.zeroValue21
 t37:=Tryz.underlying101
 a37:=Tryz.isAgg101
 z37:=Tryz.sizeOf101
 v37:=Tryz.zeroValue101
 t46:=Tryz.underlying154
 a46:=Tryz.isAgg154
 z46:=Tryz.sizeOf154
 v46:=Tryz.zeroValue154
 t51:=Tryz.underlying196
 a51:=Tryz.isAgg196
 z51:=Tryz.sizeOf196
 v51:=Tryz.zeroValue196
 t70:=Tryz.underlying100
 a70:=Tryz.isAgg100
 z70:=Tryz.sizeOf100
 v70:=Tryz.zeroValue100
 t72:=Tryz.underlying103
 a72:=Tryz.isAgg103
 z72:=Tryz.sizeOf103
 v72:=Tryz.zeroValue103
 t75:=Tryz.underlying76
 a75:=Tryz.isAgg76
 z75:=Tryz.sizeOf76
 v75:=Tryz.zeroValue76
 t76:=Tryz.underlying77
 a76:=Tryz.isAgg77
 z76:=Tryz.sizeOf77
 v76:=Tryz.zeroValue77
 t105:=Tryz.underlying155
 a105:=Tryz.isAgg155
 z105:=Tryz.sizeOf155
 v105:=Tryz.zeroValue155
 t107:=Tryz.underlying151
 a107:=Tryz.isAgg151
 z107:=Tryz.sizeOf151
 v107:=Tryz.zeroValue151
 t119:=Tryz.underlying199
 a119:=Tryz.isAgg199
 z119:=Tryz.sizeOf199
 t127:=Tryz.underlying137
 a127:=Tryz.isAgg137
 z127:=Tryz.sizeOf137
 v127:=Tryz.zeroValue137
 t138:=Tryz.underlying201
 a138:=Tryz.isAgg201
 z138:=Tryz.sizeOf201
 v138:=Tryz.zeroValue201
 t139:=Tryz.underlying202
 a139:=Tryz.isAgg202
 z139:=Tryz.sizeOf202
 v139:=Tryz.zeroValue202
 t160:=Tryz.underlying212
 a160:=Tryz.isAgg212
 z160:=Tryz.sizeOf212
 v160:=Tryz.zeroValue212
 t162:=Tryz.underlying195
 a162:=Tryz.isAgg195
 z162:=Tryz.sizeOf195
 v162:=Tryz.zeroValue195
 t164:=Tryz.underlying159
 a164:=Tryz.isAgg159
 z164:=Tryz.sizeOf159
 v164:=Tryz.zeroValue159
 t203:=Tryz.underlying193
 a203:=Tryz.isAgg193
 z203:=Tryz.sizeOf193
 v203:=Tryz.zeroValue193
 t206:=Tryz.underlying217
 a206:=Tryz.isAgg217
 z206:=Tryz.sizeOf217
 v206:=Tryz.zeroValue217
 t208:=Tryz.underlying219
 a208:=Tryz.isAgg219
 z208:=Tryz.sizeOf219
 v208:=Tryz.zeroValue219
 g3:=by kernel_rfl
 g4:=by kernel_rfl
 g13:=by kernel_rfl}
theorem Tryz.Builder_Extra_158 : Builder.Extra Tryz.prog Tryz.lays158_ren := {
 sizeBuilder:=by kernel_rfl
 liesBuilder:=by kernel_rfl
 t5:=Tryz.underlying5
 a5:=Tryz.isAgg5
 z5:=Tryz.sizeOf5
 v5:=Tryz.zeroValue5
 infoByte:=by kernel_rfl
 cellsByte:=by kernel_rfl
 sizeByte:=by kernel_rfl
 neB5:=by decide}
def Tryz.lays161_ren:Go.Shelf.Ren:=⟨fun|161=>62|231=>106|227=>103|233=>107|235=>108|228=>104|197=>141|151=>142|260=>160|152=>101|137=>136|119=>137|224=>138|225=>139|217=>158|266=>182|n=>n,fun|9=>9|4=>4|3=>3|5=>5|117=>131|116=>130|0=>0|124=>135|105=>155|21=>21|119=>199|46=>154|139=>202|138=>201|n=>n,fun|3=>4|4=>5|n=>n⟩
theorem Tryz.lays161 : Go.Proofs.Lays.n161 Tryz.prog Tryz.lays161_ren := {
 mixed:=by kernel_rfl
 f119:=Tryz.func137.trans (congrArg some (by kernel_rfl))
 f137:=Tryz.func136.trans (congrArg some (by kernel_rfl))
 f151:=Tryz.func142.trans (congrArg some (by kernel_rfl))
 f152:=Tryz.func101.trans (congrArg some (by kernel_rfl))
 f161:=Tryz.func62.trans (congrArg some (by kernel_rfl))
 f197:=Tryz.func141.trans (congrArg some (by kernel_rfl))
 f217:=Tryz.func158.trans (congrArg some (by kernel_rfl))
 f224:=Tryz.func138.trans (congrArg some (by kernel_rfl))
 f225:=Tryz.func139.trans (congrArg some (by kernel_rfl))
 f227:=Tryz.func103.trans (congrArg some (by kernel_rfl))
 f228:=Tryz.func104.trans (congrArg some (by kernel_rfl))
 f231:=Tryz.func106.trans (congrArg some (by kernel_rfl))
 f233:=Tryz.func107.trans (congrArg some (by kernel_rfl))
 f235:=Tryz.func108.trans (congrArg some (by kernel_rfl))
 f260:=Tryz.func160.trans (congrArg some (by kernel_rfl))
 f266:=Tryz.func182.trans (congrArg some (by kernel_rfl))
 t0:=Tryz.underlying0
 a0:=Tryz.isAgg0
 z0:=Tryz.sizeOf0
 v0:=Tryz.zeroValue0
 t3:=Tryz.underlying3
 a3:=Tryz.isAgg3
 z3:=Tryz.sizeOf3
 v3:=Tryz.zeroValue3
 t4:=Tryz.underlying4
 a4:=Tryz.isAgg4
 z4:=Tryz.sizeOf4
 v4:=Tryz.zeroValue4
 t5:=Tryz.underlying5
 a5:=Tryz.isAgg5
 z5:=Tryz.sizeOf5
 v5:=Tryz.zeroValue5
 t9:=Tryz.underlying9
 a9:=Tryz.isAgg9
 z9:=Tryz.sizeOf9
 v9:=Tryz.zeroValue9
 t21:=Tryz.underlying21
 a21:=Tryz.isAgg21
 z21:=Tryz.sizeOf21
 v21:=Tryz.zeroValue21
 t46:=Tryz.underlying154
 a46:=Tryz.isAgg154
 z46:=Tryz.sizeOf154
 v46:=Tryz.zeroValue154
 t105:=Tryz.underlying155
 a105:=Tryz.isAgg155
 z105:=Tryz.sizeOf155
 v105:=Tryz.zeroValue155
 t116:=Tryz.underlying130
 a116:=Tryz.isAgg130
 z116:=Tryz.sizeOf130
 t117:=Tryz.underlying131
 a117:=Tryz.isAgg131
 z117:=Tryz.sizeOf131
 v117:=Tryz.zeroValue131
 t119:=Tryz.underlying199
 a119:=Tryz.isAgg199
 z119:=Tryz.sizeOf199
 t124:=Tryz.underlying135
 a124:=Tryz.isAgg135
 z124:=Tryz.sizeOf135
 v124:=Tryz.zeroValue135
 t138:=Tryz.underlying201
 a138:=Tryz.isAgg201
 z138:=Tryz.sizeOf201
 v138:=Tryz.zeroValue201
 t139:=Tryz.underlying202
 a139:=Tryz.isAgg202
 z139:=Tryz.sizeOf202
 v139:=Tryz.zeroValue202
 g3:=by kernel_rfl
 g4:=by kernel_rfl}
open Go.RowKit in
theorem Tryz.strings_TrimLeft_one (s:ByteArray)(c:UInt8)(hc:c.toNat<128)(w:World):
  Calls Tryz.prog 62 #[.string s,.string ⟨#[c]⟩] w fun e w'=>e= .returned (.string ⟨(Lib.trimLeftB s.data.toList c).toArray⟩)∧w'=w:=Any.strings_TrimLeft_one Tryz.lays161 s c hc w
def Tryz.lays162_ren:Go.Shelf.Ren:=⟨fun|162=>63|232=>109|227=>103|234=>110|236=>111|228=>104|271=>143|151=>142|120=>161|197=>141|152=>101|260=>160|137=>136|119=>137|224=>138|225=>139|217=>158|266=>182|n=>n,fun|9=>9|4=>4|3=>3|5=>5|117=>131|116=>130|0=>0|124=>135|21=>21|105=>155|46=>154|119=>199|139=>202|138=>201|n=>n,fun|3=>4|4=>5|n=>n⟩
theorem Tryz.lays162 : Go.Proofs.Lays.n162 Tryz.prog Tryz.lays162_ren := {
 mixed:=by kernel_rfl
 f119:=Tryz.func137.trans (congrArg some (by kernel_rfl))
 f120:=Tryz.func161.trans (congrArg some (by kernel_rfl))
 f137:=Tryz.func136.trans (congrArg some (by kernel_rfl))
 f151:=Tryz.func142.trans (congrArg some (by kernel_rfl))
 f152:=Tryz.func101.trans (congrArg some (by kernel_rfl))
 f162:=Tryz.func63.trans (congrArg some (by kernel_rfl))
 f197:=Tryz.func141.trans (congrArg some (by kernel_rfl))
 f217:=Tryz.func158.trans (congrArg some (by kernel_rfl))
 f224:=Tryz.func138.trans (congrArg some (by kernel_rfl))
 f225:=Tryz.func139.trans (congrArg some (by kernel_rfl))
 f227:=Tryz.func103.trans (congrArg some (by kernel_rfl))
 f228:=Tryz.func104.trans (congrArg some (by kernel_rfl))
 f232:=Tryz.func109.trans (congrArg some (by kernel_rfl))
 f234:=Tryz.func110.trans (congrArg some (by kernel_rfl))
 f236:=Tryz.func111.trans (congrArg some (by kernel_rfl))
 f260:=Tryz.func160.trans (congrArg some (by kernel_rfl))
 f266:=Tryz.func182.trans (congrArg some (by kernel_rfl))
 f271:=Tryz.func143.trans (congrArg some (by kernel_rfl))
 t0:=Tryz.underlying0
 a0:=Tryz.isAgg0
 z0:=Tryz.sizeOf0
 v0:=Tryz.zeroValue0
 t3:=Tryz.underlying3
 a3:=Tryz.isAgg3
 z3:=Tryz.sizeOf3
 v3:=Tryz.zeroValue3
 t4:=Tryz.underlying4
 a4:=Tryz.isAgg4
 z4:=Tryz.sizeOf4
 v4:=Tryz.zeroValue4
 t5:=Tryz.underlying5
 a5:=Tryz.isAgg5
 z5:=Tryz.sizeOf5
 v5:=Tryz.zeroValue5
 t9:=Tryz.underlying9
 a9:=Tryz.isAgg9
 z9:=Tryz.sizeOf9
 v9:=Tryz.zeroValue9
 t21:=Tryz.underlying21
 a21:=Tryz.isAgg21
 z21:=Tryz.sizeOf21
 v21:=Tryz.zeroValue21
 t46:=Tryz.underlying154
 a46:=Tryz.isAgg154
 z46:=Tryz.sizeOf154
 v46:=Tryz.zeroValue154
 t105:=Tryz.underlying155
 a105:=Tryz.isAgg155
 z105:=Tryz.sizeOf155
 v105:=Tryz.zeroValue155
 t116:=Tryz.underlying130
 a116:=Tryz.isAgg130
 z116:=Tryz.sizeOf130
 t117:=Tryz.underlying131
 a117:=Tryz.isAgg131
 z117:=Tryz.sizeOf131
 v117:=Tryz.zeroValue131
 t119:=Tryz.underlying199
 a119:=Tryz.isAgg199
 z119:=Tryz.sizeOf199
 t124:=Tryz.underlying135
 a124:=Tryz.isAgg135
 z124:=Tryz.sizeOf135
 v124:=Tryz.zeroValue135
 t138:=Tryz.underlying201
 a138:=Tryz.isAgg201
 z138:=Tryz.sizeOf201
 v138:=Tryz.zeroValue201
 t139:=Tryz.underlying202
 a139:=Tryz.isAgg202
 z139:=Tryz.sizeOf202
 v139:=Tryz.zeroValue202
 g3:=by kernel_rfl
 g4:=by kernel_rfl}
open Go.RowKit in
theorem Tryz.strings_TrimRight_one (s:ByteArray)(c:UInt8)(hc:c.toNat<128)(w:World)(hs:s.size≤9223372036854775807):
  Calls Tryz.prog 63 #[.string s,.string ⟨#[c]⟩] w fun e w'=>e= .returned (.string ⟨(Lib.trimRightB s.data.toList c).toArray⟩)∧w'=w:=Any.strings_TrimRight_one Tryz.lays162 s c hc w hs
def Tryz.laysM171_ren:Go.Shelf.Ren:=⟨fun|171=>66|243=>113|246=>144|283=>162|284=>163|285=>164|286=>165|129=>185|317=>184|318=>186|319=>187|320=>188|337=>200|338=>201|n=>n,fun|3=>3|9=>9|2=>2|4=>4|171=>174|0=>0|53=>165|37=>101|5=>5|173=>177|212=>204|51=>196|20=>20|213=>205|46=>154|232=>220|233=>221|n=>n,fun|17=>6|18=>7|19=>8|n=>n⟩
theorem Tryz.laysM171 : Go.Proofs.LaysM.n171 Tryz.prog Tryz.laysM171_ren := {
 mixed:=by kernel_rfl
 f129:=Tryz.func185.trans (congrArg some (by kernel_rfl))
 f171:=Tryz.func66.trans (congrArg some (by kernel_rfl))
 f243:=Tryz.func113.trans (congrArg some (by kernel_rfl))
 f246:=Tryz.func144.trans (congrArg some (by kernel_rfl))
 f283:=Tryz.func162.trans (congrArg some (by kernel_rfl))
 f284:=Tryz.func163.trans (congrArg some (by kernel_rfl))
 f285:=Tryz.func164.trans (congrArg some (by kernel_rfl))
 f286:=Tryz.func165.trans (congrArg some (by kernel_rfl))
 f317:=Tryz.func184.trans (congrArg some (by kernel_rfl))
 f318:=Tryz.func186.trans (congrArg some (by kernel_rfl))
 f319:=Tryz.func187.trans (congrArg some (by kernel_rfl))
 f320:=Tryz.func188.trans (congrArg some (by kernel_rfl))
 f337:=Tryz.func200.trans (congrArg some (by kernel_rfl))
 f338:=Tryz.func201.trans (congrArg some (by kernel_rfl))
 t0:=Tryz.underlying0
 a0:=Tryz.isAgg0
 z0:=Tryz.sizeOf0
 v0:=Tryz.zeroValue0
 t2:=Tryz.underlying2
 a2:=Tryz.isAgg2
 z2:=Tryz.sizeOf2
 v2:=Tryz.zeroValue2
 t3:=Tryz.underlying3
 a3:=Tryz.isAgg3
 z3:=Tryz.sizeOf3
 v3:=Tryz.zeroValue3
 t4:=Tryz.underlying4
 a4:=Tryz.isAgg4
 z4:=Tryz.sizeOf4
 v4:=Tryz.zeroValue4
 t5:=Tryz.underlying5
 a5:=Tryz.isAgg5
 z5:=Tryz.sizeOf5
 v5:=Tryz.zeroValue5
 t9:=Tryz.underlying9
 a9:=Tryz.isAgg9
 z9:=Tryz.sizeOf9
 v9:=Tryz.zeroValue9
 t20:=Tryz.underlying20
 a20:=Tryz.isAgg20
 z20:=Tryz.sizeOf20
 v20:=Tryz.zeroValue20
 t37:=Tryz.underlying101
 a37:=Tryz.isAgg101
 z37:=Tryz.sizeOf101
 v37:=Tryz.zeroValue101
 t46:=Tryz.underlying154
 a46:=Tryz.isAgg154
 z46:=Tryz.sizeOf154
 v46:=Tryz.zeroValue154
 t51:=Tryz.underlying196
 a51:=Tryz.isAgg196
 z51:=Tryz.sizeOf196
 v51:=Tryz.zeroValue196
 t53:=Tryz.underlying165
 a53:=Tryz.isAgg165
 z53:=Tryz.sizeOf165
 v53:=Tryz.zeroValue165
 t171:=Tryz.underlying174
 a171:=Tryz.isAgg174
 z171:=Tryz.sizeOf174
 v171:=Tryz.zeroValue174
 t173:=Tryz.underlying177
 a173:=Tryz.isAgg177
 z173:=Tryz.sizeOf177
 v173:=Tryz.zeroValue177
 t212:=Tryz.underlying204
 a212:=Tryz.isAgg204
 z212:=Tryz.sizeOf204
 v212:=Tryz.zeroValue204
 t213:=Tryz.underlying205
 a213:=Tryz.isAgg205
 z213:=Tryz.sizeOf205
 t232:=Tryz.underlying220
 a232:=Tryz.isAgg220
 z232:=Tryz.sizeOf220
 v232:=Tryz.zeroValue220
 t233:=Tryz.underlying221
 a233:=Tryz.isAgg221
 z233:=Tryz.sizeOf221
 v233:=Tryz.zeroValue221
 g17:=by kernel_rfl
 g18:=by kernel_rfl
 g19:=by kernel_rfl
 i0:=by kernel_rfl
 i2:=by kernel_rfl
 i3:=by kernel_rfl
 i4:=by kernel_rfl
 i5:=by kernel_rfl
 i9:=by kernel_rfl
 i20:=by kernel_rfl
 i37:=by kernel_rfl
 i46:=by kernel_rfl
 i51:=by kernel_rfl
 i53:=by kernel_rfl
 i171:=by kernel_rfl
 i173:=by kernel_rfl
 i212:=by kernel_rfl
 i232:=by kernel_rfl
 i233:=by kernel_rfl
 m17:=by kernel_rfl
 m18:=by kernel_rfl
 m19:=by kernel_rfl}
open Go.RowKit Go.Sort Go.Lib in
theorem Tryz.strconv_Itoa (n:Int)(h0: -9223372036854775808≤n)(h1:n≤9223372036854775807)(w:World)(htab:Lib.TabIs Tryz.prog w "internal/strconv.uint64pow10" .u64 Lib.pow10Tab):
  Calls Tryz.prog 66 #[.int .i64 n] w fun e w'=>e= .returned (.string ⟨(Lib.itoa n).toArray⟩)∧ ∃k os,w'=grow (w.drewN k) os:=Any.strconv_Itoa Tryz.laysM171 n h0 h1 w htab
def Tryz.laysC172_ren:Go.Shelf.Ren:=⟨fun|172=>45|244=>88|245=>89|247=>124|279=>125|280=>126|281=>127|282=>128|287=>150|316=>151|171=>66|205=>152|321=>177|322=>178|243=>113|246=>144|283=>162|284=>163|285=>164|286=>165|129=>185|317=>184|318=>186|319=>187|320=>188|337=>200|338=>201|n=>n,fun|9=>9|3=>3|75=>76|76=>77|4=>4|5=>5|167=>143|37=>101|0=>0|85=>144|2=>2|168=>146|53=>165|175=>166|46=>154|210=>169|127=>137|145=>190|143=>188|21=>21|171=>174|173=>177|212=>204|51=>196|20=>20|213=>205|232=>220|233=>221|80=>107|n=>n,fun|15=>0|16=>1|17=>6|18=>7|19=>8|n=>n⟩
theorem Tryz.laysC172 : Go.Proofs.LaysC.n172 Tryz.prog Tryz.laysC172_ren := {
 mixed:=by kernel_rfl
 f129:=Tryz.func185.trans (congrArg some (by kernel_rfl))
 f171:=Tryz.func66.trans (congrArg some (by kernel_rfl))
 f172:=Tryz.func45.trans (congrArg some (by kernel_rfl))
 f205:=Tryz.func152.trans (congrArg some (by kernel_rfl))
 f243:=Tryz.func113.trans (congrArg some (by kernel_rfl))
 f244:=Tryz.func88.trans (congrArg some (by kernel_rfl))
 f245:=Tryz.func89.trans (congrArg some (by kernel_rfl))
 f246:=Tryz.func144.trans (congrArg some (by kernel_rfl))
 f247:=Tryz.func124.trans (congrArg some (by kernel_rfl))
 f279:=Tryz.func125.trans (congrArg some (by kernel_rfl))
 f280:=Tryz.func126.trans (congrArg some (by kernel_rfl))
 f281:=Tryz.func127.trans (congrArg some (by kernel_rfl))
 f282:=Tryz.func128.trans (congrArg some (by kernel_rfl))
 f283:=Tryz.func162.trans (congrArg some (by kernel_rfl))
 f284:=Tryz.func163.trans (congrArg some (by kernel_rfl))
 f285:=Tryz.func164.trans (congrArg some (by kernel_rfl))
 f286:=Tryz.func165.trans (congrArg some (by kernel_rfl))
 f287:=Tryz.func150.trans (congrArg some (by kernel_rfl))
 f316:=Tryz.func151.trans (congrArg some (by kernel_rfl))
 f317:=Tryz.func184.trans (congrArg some (by kernel_rfl))
 f318:=Tryz.func186.trans (congrArg some (by kernel_rfl))
 f319:=Tryz.func187.trans (congrArg some (by kernel_rfl))
 f320:=Tryz.func188.trans (congrArg some (by kernel_rfl))
 f321:=Tryz.func177.trans (congrArg some (by kernel_rfl))
 f322:=Tryz.func178.trans (congrArg some (by kernel_rfl))
 f337:=Tryz.func200.trans (congrArg some (by kernel_rfl))
 f338:=Tryz.func201.trans (congrArg some (by kernel_rfl))
 t0:=Tryz.underlying0
 a0:=Tryz.isAgg0
 z0:=Tryz.sizeOf0
 v0:=Tryz.zeroValue0
 t2:=Tryz.underlying2
 a2:=Tryz.isAgg2
 z2:=Tryz.sizeOf2
 v2:=Tryz.zeroValue2
 t3:=Tryz.underlying3
 a3:=Tryz.isAgg3
 z3:=Tryz.sizeOf3
 v3:=Tryz.zeroValue3
 t4:=Tryz.underlying4
 a4:=Tryz.isAgg4
 z4:=Tryz.sizeOf4
 v4:=Tryz.zeroValue4
 t5:=Tryz.underlying5
 a5:=Tryz.isAgg5
 z5:=Tryz.sizeOf5
 v5:=Tryz.zeroValue5
 t9:=Tryz.underlying9
 a9:=Tryz.isAgg9
 z9:=Tryz.sizeOf9
 v9:=Tryz.zeroValue9
 t20:=Tryz.underlying20
 a20:=Tryz.isAgg20
 z20:=Tryz.sizeOf20
 v20:=Tryz.zeroValue20
 t21:=Tryz.underlying21
 a21:=Tryz.isAgg21
 z21:=Tryz.sizeOf21
 v21:=Tryz.zeroValue21
 t37:=Tryz.underlying101
 a37:=Tryz.isAgg101
 z37:=Tryz.sizeOf101
 v37:=Tryz.zeroValue101
 t46:=Tryz.underlying154
 a46:=Tryz.isAgg154
 z46:=Tryz.sizeOf154
 v46:=Tryz.zeroValue154
 t51:=Tryz.underlying196
 a51:=Tryz.isAgg196
 z51:=Tryz.sizeOf196
 v51:=Tryz.zeroValue196
 t53:=Tryz.underlying165
 a53:=Tryz.isAgg165
 z53:=Tryz.sizeOf165
 v53:=Tryz.zeroValue165
 t75:=Tryz.underlying76
 a75:=Tryz.isAgg76
 z75:=Tryz.sizeOf76
 v75:=Tryz.zeroValue76
 t76:=Tryz.underlying77
 a76:=Tryz.isAgg77
 z76:=Tryz.sizeOf77
 v76:=Tryz.zeroValue77
 t85:=Tryz.underlying144
 a85:=Tryz.isAgg144
 z85:=Tryz.sizeOf144
 v85:=Tryz.zeroValue144
 t127:=Tryz.underlying137
 a127:=Tryz.isAgg137
 z127:=Tryz.sizeOf137
 v127:=Tryz.zeroValue137
 t143:=Tryz.underlying188
 a143:=Tryz.isAgg188
 z143:=Tryz.sizeOf188
 v143:=Tryz.zeroValue188
 t145:=Tryz.underlying190
 a145:=Tryz.isAgg190
 z145:=Tryz.sizeOf190
 v145:=Tryz.zeroValue190
 t167:=Tryz.underlying143
 a167:=Tryz.isAgg143
 z167:=Tryz.sizeOf143
 v167:=Tryz.zeroValue143
 t168:=Tryz.underlying146
 a168:=Tryz.isAgg146
 z168:=Tryz.sizeOf146
 v168:=Tryz.zeroValue146
 t171:=Tryz.underlying174
 a171:=Tryz.isAgg174
 z171:=Tryz.sizeOf174
 v171:=Tryz.zeroValue174
 t173:=Tryz.underlying177
 a173:=Tryz.isAgg177
 z173:=Tryz.sizeOf177
 v173:=Tryz.zeroValue177
 t175:=Tryz.underlying166
 a175:=Tryz.isAgg166
 z175:=Tryz.sizeOf166
 v175:=Tryz.zeroValue166
 t210:=Tryz.underlying169
 a210:=Tryz.isAgg169
 z210:=Tryz.sizeOf169
 v210:=Tryz.zeroValue169
 t212:=Tryz.underlying204
 a212:=Tryz.isAgg204
 z212:=Tryz.sizeOf204
 v212:=Tryz.zeroValue204
 t213:=Tryz.underlying205
 a213:=Tryz.isAgg205
 z213:=Tryz.sizeOf205
 t232:=Tryz.underlying220
 a232:=Tryz.isAgg220
 z232:=Tryz.sizeOf220
 v232:=Tryz.zeroValue220
 t233:=Tryz.underlying221
 a233:=Tryz.isAgg221
 z233:=Tryz.sizeOf221
 v233:=Tryz.zeroValue221
 g15:=by kernel_rfl
 g16:=by kernel_rfl
 g17:=by kernel_rfl
 g18:=by kernel_rfl
 g19:=by kernel_rfl
 t80:=Tryz.underlying107
 a80:=Tryz.isAgg107
 z80:=Tryz.sizeOf107
 v80:=Tryz.zeroValue107
 i0:=by kernel_rfl
 i2:=by kernel_rfl
 i3:=by kernel_rfl
 i4:=by kernel_rfl
 i5:=by kernel_rfl
 i9:=by kernel_rfl
 i20:=by kernel_rfl
 i21:=by kernel_rfl
 i37:=by kernel_rfl
 i46:=by kernel_rfl
 i51:=by kernel_rfl
 i53:=by kernel_rfl
 i75:=by kernel_rfl
 i76:=by kernel_rfl
 i80:=by kernel_rfl
 i85:=by kernel_rfl
 i127:=by kernel_rfl
 i143:=by kernel_rfl
 i145:=by kernel_rfl
 i167:=by kernel_rfl
 i168:=by kernel_rfl
 i171:=by kernel_rfl
 i173:=by kernel_rfl
 i175:=by kernel_rfl
 i210:=by kernel_rfl
 i212:=by kernel_rfl
 i232:=by kernel_rfl
 i233:=by kernel_rfl
 m15:=by kernel_rfl
 m16:=by kernel_rfl
 m17:=by kernel_rfl
 m18:=by kernel_rfl
 m19:=by kernel_rfl
 c0:=by kernel_rfl
 c2:=by kernel_rfl
 c3:=by kernel_rfl
 c4:=by kernel_rfl
 c5:=by kernel_rfl
 c9:=by kernel_rfl
 c20:=by kernel_rfl
 c21:=by kernel_rfl
 c37:=by kernel_rfl
 c46:=by kernel_rfl
 c51:=by kernel_rfl
 c53:=by kernel_rfl
 c75:=by kernel_rfl
 c76:=by kernel_rfl
 c80:=by kernel_rfl
 c85:=by kernel_rfl
 c127:=by kernel_rfl
 c143:=by kernel_rfl
 c145:=by kernel_rfl
 c167:=by kernel_rfl
 c168:=by kernel_rfl
 c171:=by kernel_rfl
 c173:=by kernel_rfl
 c175:=by kernel_rfl
 c210:=by kernel_rfl
 c212:=by kernel_rfl
 c213:=by kernel_rfl
 c232:=by kernel_rfl
 c233:=by kernel_rfl}
open Go.RowKit in
theorem Tryz.strconv_Atoi_ok (s:ByteArray)(hmax:s.size≤9223372036854775806)(v:Int)(h:Lib.atoiAll s.data.toList= .ok v)(w:World):
  Calls Tryz.prog 45 #[.string s] w fun e w'=>e= .returned (.tuple #[.int .i64 v,.nilIface])∧(w'=w∨ ∃t,w'=Lib.bytesWorld w 5 t):=Any.strconv_Atoi_ok Tryz.laysC172 s hmax v h w
open Go.RowKit in
theorem Tryz.strconv_Atoi_syntax_var (s:ByteArray)(hlim:s.size≤281474976710656)(h1: ∀v,Lib.atoiAll s.data.toList≠ .ok v)(h2:Lib.atoiAll s.data.toList≠ .range)(tp:TypeId)(p:Value)(w:World)(hvar:w.var? Tryz.prog "strconv.ErrSyntax" =some #[.iface tp p]):
  Calls Tryz.prog 45 #[.string s] w fun e w'=> ∃N,e= .returned (.tuple #[.int .i64 0,.iface 146 (.pointer (some ⟨N,0,none⟩))])∧w.heap.size≤N∧w'.heap[N]? =some (.cells #[.string ⟨#[65,116,111,105]⟩,.string s,.iface tp p] 169 (0,0))∧Below w.heap.size w w':=Any.strconv_Atoi_syntax_var Tryz.laysC172 s hlim (by cases hx:Lib.atoiAll s.data.toList<;>first|rfl|exact absurd hx (h1 _)|exact absurd hx h2) tp p w hvar
open Go.RowKit in
theorem Tryz.strconv_Atoi_range_var (s:ByteArray)(hlim:s.size≤281474976710656)(h:Lib.atoiAll s.data.toList= .range)(tp:TypeId)(p:Value)(w:World)(hvar:w.var? Tryz.prog "strconv.ErrRange" =some #[.iface tp p]):
  Calls Tryz.prog 45 #[.string s] w fun e w'=> ∃N,e= .returned (.tuple #[.int .i64 (Lib.atoiSat s.data.toList),.iface 146 (.pointer (some ⟨N,0,none⟩))])∧w.heap.size≤N∧w'.heap[N]? =some (.cells #[.string ⟨#[65,116,111,105]⟩,.string s,.iface tp p] 169 (0,0))∧Below w.heap.size w w':=Any.strconv_Atoi_range_var Tryz.laysC172 s hlim h tp p w hvar
def Tryz.lays143_ren:Go.Shelf.Ren:=⟨fun|143=>145|219=>140|217=>158|225=>139|224=>138|267=>159|266=>182|314=>183|n=>n,fun|9=>9|3=>3|4=>4|5=>5|46=>154|146=>197|51=>196|n=>n,fun|1=>2|n=>n⟩
theorem Tryz.lays143 : Go.Proofs.Lays.n143 Tryz.prog Tryz.lays143_ren := {
 mixed:=by kernel_rfl
 f143:=Tryz.func145.trans (congrArg some (by kernel_rfl))
 f217:=Tryz.func158.trans (congrArg some (by kernel_rfl))
 f219:=Tryz.func140.trans (congrArg some (by kernel_rfl))
 f224:=Tryz.func138.trans (congrArg some (by kernel_rfl))
 f225:=Tryz.func139.trans (congrArg some (by kernel_rfl))
 f266:=Tryz.func182.trans (congrArg some (by kernel_rfl))
 f267:=Tryz.func159.trans (congrArg some (by kernel_rfl))
 f314:=Tryz.func183.trans (congrArg some (by kernel_rfl))
 t3:=Tryz.underlying3
 a3:=Tryz.isAgg3
 z3:=Tryz.sizeOf3
 v3:=Tryz.zeroValue3
 t4:=Tryz.underlying4
 a4:=Tryz.isAgg4
 z4:=Tryz.sizeOf4
 v4:=Tryz.zeroValue4
 t5:=Tryz.underlying5
 a5:=Tryz.isAgg5
 z5:=Tryz.sizeOf5
 v5:=Tryz.zeroValue5
 t9:=Tryz.underlying9
 a9:=Tryz.isAgg9
 z9:=Tryz.sizeOf9
 v9:=Tryz.zeroValue9
 t46:=Tryz.underlying154
 a46:=Tryz.isAgg154
 z46:=Tryz.sizeOf154
 v46:=Tryz.zeroValue154
 t51:=Tryz.underlying196
 a51:=Tryz.isAgg196
 z51:=Tryz.sizeOf196
 v51:=Tryz.zeroValue196
 t146:=Tryz.underlying197
 a146:=Tryz.isAgg197
 z146:=Tryz.sizeOf197
 v146:=Tryz.zeroValue197
 g1:=by kernel_rfl}
open Go.RowKit Go.Lib in
theorem Tryz.strings_Index (s sub:ByteArray)(m:Int)(w:World)(hs:s.size<4294967281)(hm:w.cell? ⟨2,0,none⟩=some (.int .i64 m)):
  Calls Tryz.prog 145 #[.string s,.string sub] w fun e w'=>e= .returned (.int .i64 (Lib.index s.data.toList sub.data.toList))∧w'=w:=Any.strings_Index Tryz.lays143 s sub m w hs hm
def Tryz.lays144_ren:Go.Shelf.Ren:=⟨fun|144=>115|143=>145|219=>140|217=>158|225=>139|224=>138|267=>159|266=>182|314=>183|n=>n,fun|9=>9|4=>4|3=>3|5=>5|46=>154|146=>197|51=>196|n=>n,fun|1=>2|n=>n⟩
theorem Tryz.lays144 : Go.Proofs.Lays.n144 Tryz.prog Tryz.lays144_ren := {
 mixed:=by kernel_rfl
 f143:=Tryz.func145.trans (congrArg some (by kernel_rfl))
 f144:=Tryz.func115.trans (congrArg some (by kernel_rfl))
 f217:=Tryz.func158.trans (congrArg some (by kernel_rfl))
 f219:=Tryz.func140.trans (congrArg some (by kernel_rfl))
 f224:=Tryz.func138.trans (congrArg some (by kernel_rfl))
 f225:=Tryz.func139.trans (congrArg some (by kernel_rfl))
 f266:=Tryz.func182.trans (congrArg some (by kernel_rfl))
 f267:=Tryz.func159.trans (congrArg some (by kernel_rfl))
 f314:=Tryz.func183.trans (congrArg some (by kernel_rfl))
 t3:=Tryz.underlying3
 a3:=Tryz.isAgg3
 z3:=Tryz.sizeOf3
 v3:=Tryz.zeroValue3
 t4:=Tryz.underlying4
 a4:=Tryz.isAgg4
 z4:=Tryz.sizeOf4
 v4:=Tryz.zeroValue4
 t5:=Tryz.underlying5
 a5:=Tryz.isAgg5
 z5:=Tryz.sizeOf5
 v5:=Tryz.zeroValue5
 t9:=Tryz.underlying9
 a9:=Tryz.isAgg9
 z9:=Tryz.sizeOf9
 v9:=Tryz.zeroValue9
 t46:=Tryz.underlying154
 a46:=Tryz.isAgg154
 z46:=Tryz.sizeOf154
 v46:=Tryz.zeroValue154
 t51:=Tryz.underlying196
 a51:=Tryz.isAgg196
 z51:=Tryz.sizeOf196
 v51:=Tryz.zeroValue196
 t146:=Tryz.underlying197
 a146:=Tryz.isAgg197
 z146:=Tryz.sizeOf197
 v146:=Tryz.zeroValue197
 g1:=by kernel_rfl}
open Go.RowKit Go.Lib in
theorem Tryz.strings_Contains (s sub:ByteArray)(m:Int)(w:World)(hs:s.size<4294967281)(hm:w.cell? ⟨2,0,none⟩=some (.int .i64 m)):
  Calls Tryz.prog 115 #[.string s,.string sub] w fun e w'=>e= .returned (.bool (Lib.contains s.data.toList sub.data.toList))∧w'=w:=Any.strings_Contains Tryz.lays144 s sub m w hs hm
def Tryz.lays145_ren:Go.Shelf.Ren:=⟨fun|145=>61|220=>105|219=>140|217=>158|225=>139|224=>138|267=>159|266=>182|314=>183|n=>n,fun|9=>9|4=>4|59=>92|3=>3|5=>5|46=>154|146=>197|51=>196|n=>n,fun|1=>2|n=>n⟩
theorem Tryz.lays145 : Go.Proofs.Lays.n145 Tryz.prog Tryz.lays145_ren := {
 mixed:=by kernel_rfl
 f145:=Tryz.func61.trans (congrArg some (by kernel_rfl))
 f217:=Tryz.func158.trans (congrArg some (by kernel_rfl))
 f219:=Tryz.func140.trans (congrArg some (by kernel_rfl))
 f220:=Tryz.func105.trans (congrArg some (by kernel_rfl))
 f224:=Tryz.func138.trans (congrArg some (by kernel_rfl))
 f225:=Tryz.func139.trans (congrArg some (by kernel_rfl))
 f266:=Tryz.func182.trans (congrArg some (by kernel_rfl))
 f267:=Tryz.func159.trans (congrArg some (by kernel_rfl))
 f314:=Tryz.func183.trans (congrArg some (by kernel_rfl))
 t3:=Tryz.underlying3
 a3:=Tryz.isAgg3
 z3:=Tryz.sizeOf3
 v3:=Tryz.zeroValue3
 t4:=Tryz.underlying4
 a4:=Tryz.isAgg4
 z4:=Tryz.sizeOf4
 v4:=Tryz.zeroValue4
 t5:=Tryz.underlying5
 a5:=Tryz.isAgg5
 z5:=Tryz.sizeOf5
 v5:=Tryz.zeroValue5
 t9:=Tryz.underlying9
 a9:=Tryz.isAgg9
 z9:=Tryz.sizeOf9
 v9:=Tryz.zeroValue9
 t46:=Tryz.underlying154
 a46:=Tryz.isAgg154
 z46:=Tryz.sizeOf154
 v46:=Tryz.zeroValue154
 t51:=Tryz.underlying196
 a51:=Tryz.isAgg196
 z51:=Tryz.sizeOf196
 v51:=Tryz.zeroValue196
 t59:=Tryz.underlying92
 a59:=Tryz.isAgg92
 z59:=Tryz.sizeOf92
 v59:=Tryz.zeroValue92
 t146:=Tryz.underlying197
 a146:=Tryz.isAgg197
 z146:=Tryz.sizeOf197
 v146:=Tryz.zeroValue197
 g1:=by kernel_rfl}
open Go.RowKit Go.Lib in
theorem Tryz.strings_Cut (s sep:ByteArray)(m:Int)(w:World)(hs:s.size<4294967281)(hm:w.cell? ⟨2,0,none⟩=some (.int .i64 m)):
  Calls Tryz.prog 61 #[.string s,.string sep] w fun e w'=>e= .returned (.tuple #[.string ⟨(Lib.cut s.data.toList sep.data.toList).1.toArray⟩,.string ⟨(Lib.cut s.data.toList sep.data.toList).2.1.toArray⟩,.bool (Lib.cut s.data.toList sep.data.toList).2.2])∧ ∃n,w'=w.drewN n:=Any.strings_Cut Tryz.lays145 s sep m w hs hm
def Tryz.laysGw17_ren:Go.Shelf.Ren:=⟨fun|17=>43|15=>87|20=>123|n=>n,fun|9=>9|23=>74|4=>4|3=>3|0=>0|21=>21|n=>n,fun|n=>n⟩
theorem Tryz.laysGw17 : Go.Proofs.LaysGw.n17 Tryz.prog Tryz.laysGw17_ren := {
 mixed:=by kernel_rfl
 f15:=Tryz.func87.trans (congrArg some (by kernel_rfl))
 f17:=Tryz.func43.trans (congrArg some (by kernel_rfl))
 f20:=Tryz.func123.trans (congrArg some (by kernel_rfl))
 t0:=Tryz.underlying0
 a0:=Tryz.isAgg0
 z0:=Tryz.sizeOf0
 v0:=Tryz.zeroValue0
 i0:=by kernel_rfl
 t3:=Tryz.underlying3
 a3:=Tryz.isAgg3
 z3:=Tryz.sizeOf3
 v3:=Tryz.zeroValue3
 i3:=by kernel_rfl
 t4:=Tryz.underlying4
 a4:=Tryz.isAgg4
 z4:=Tryz.sizeOf4
 v4:=Tryz.zeroValue4
 i4:=by kernel_rfl
 t9:=Tryz.underlying9
 a9:=Tryz.isAgg9
 z9:=Tryz.sizeOf9
 v9:=Tryz.zeroValue9
 i9:=by kernel_rfl
 t21:=Tryz.underlying21
 a21:=Tryz.isAgg21
 z21:=Tryz.sizeOf21
 v21:=Tryz.zeroValue21
 i21:=by kernel_rfl
 t23:=Tryz.underlying74
 a23:=Tryz.isAgg74
 z23:=Tryz.sizeOf74
 v23:=Tryz.zeroValue74
 i23:=by kernel_rfl}
def Tryz.lays99_ren:Go.Shelf.Ren:=⟨fun|99=>195|206=>203|n=>n,fun|9=>9|4=>4|3=>3|n=>n,fun|n=>n⟩
theorem Tryz.lays99 : Go.Proofs.Lays.n99 Tryz.prog Tryz.lays99_ren := {
 mixed:=by kernel_rfl
 f99:=Tryz.func195.trans (congrArg some (by kernel_rfl))
 f206:=Tryz.func203.trans (congrArg some (by kernel_rfl))
 t3:=Tryz.underlying3
 a3:=Tryz.isAgg3
 z3:=Tryz.sizeOf3
 v3:=Tryz.zeroValue3
 t4:=Tryz.underlying4
 a4:=Tryz.isAgg4
 z4:=Tryz.sizeOf4
 v4:=Tryz.zeroValue4
 t9:=Tryz.underlying9
 a9:=Tryz.isAgg9
 z9:=Tryz.sizeOf9
 v9:=Tryz.zeroValue9}
open Go.RowKit Go.Lib in
theorem Tryz.strings_HasPrefix (s p:ByteArray)(w:World):
  Calls Tryz.prog 195 #[.string s,.string p] w fun e w'=>e= .returned (.bool (Lib.hasPrefix s.data.toList p.data.toList))∧w'=w:=Any.strings_HasPrefix Tryz.lays99 s p w
def Tryz.lays101_ren:Go.Shelf.Ren:=⟨fun|101=>194|208=>202|206=>203|n=>n,fun|9=>9|4=>4|3=>3|n=>n,fun|n=>n⟩
theorem Tryz.lays101 : Go.Proofs.Lays.n101 Tryz.prog Tryz.lays101_ren := {
 mixed:=by kernel_rfl
 f101:=Tryz.func194.trans (congrArg some (by kernel_rfl))
 f206:=Tryz.func203.trans (congrArg some (by kernel_rfl))
 f208:=Tryz.func202.trans (congrArg some (by kernel_rfl))
 t3:=Tryz.underlying3
 a3:=Tryz.isAgg3
 z3:=Tryz.sizeOf3
 v3:=Tryz.zeroValue3
 t4:=Tryz.underlying4
 a4:=Tryz.isAgg4
 z4:=Tryz.sizeOf4
 v4:=Tryz.zeroValue4
 t9:=Tryz.underlying9
 a9:=Tryz.isAgg9
 z9:=Tryz.sizeOf9
 v9:=Tryz.zeroValue9}
open Go.RowKit Go.Lib in
theorem Tryz.strings_TrimPrefix (s p:ByteArray)(w:World):
  Calls Tryz.prog 194 #[.string s,.string p] w fun e w'=>e= .returned (.string ⟨(Lib.trimPrefix s.data.toList p.data.toList).toArray⟩)∧w'=w:=Any.strings_TrimPrefix Tryz.lays101 s p w
def Tryz.lays155_ren:Go.Shelf.Ren:=⟨fun|155=>84|154=>121|138=>149|165=>129|143=>145|166=>75|197=>141|169=>77|195=>175|218=>176|240=>116|241=>153|219=>140|260=>160|276=>146|277=>179|217=>158|225=>139|224=>138|267=>159|266=>182|314=>183|n=>n,fun|9=>9|3=>3|4=>4|72=>103|0=>0|76=>77|105=>155|21=>21|5=>5|70=>100|20=>20|37=>101|75=>76|127=>137|164=>159|46=>154|119=>199|139=>202|138=>201|146=>197|51=>196|80=>107|n=>n,fun|1=>2|3=>4|4=>5|n=>n⟩
theorem Tryz.lays155 : Go.Proofs.Lays.n155 Tryz.prog Tryz.lays155_ren := {
 mixed:=by kernel_rfl
 f138:=Tryz.func149.trans (congrArg some (by kernel_rfl))
 f143:=Tryz.func145.trans (congrArg some (by kernel_rfl))
 f154:=Tryz.func121.trans (congrArg some (by kernel_rfl))
 f155:=Tryz.func84.trans (congrArg some (by kernel_rfl))
 f165:=Tryz.func129.trans (congrArg some (by kernel_rfl))
 f166:=Tryz.func75.trans (congrArg some (by kernel_rfl))
 f169:=Tryz.func77.trans (congrArg some (by kernel_rfl))
 f195:=Tryz.func175.trans (congrArg some (by kernel_rfl))
 f197:=Tryz.func141.trans (congrArg some (by kernel_rfl))
 f217:=Tryz.func158.trans (congrArg some (by kernel_rfl))
 f218:=Tryz.func176.trans (congrArg some (by kernel_rfl))
 f219:=Tryz.func140.trans (congrArg some (by kernel_rfl))
 f224:=Tryz.func138.trans (congrArg some (by kernel_rfl))
 f225:=Tryz.func139.trans (congrArg some (by kernel_rfl))
 f240:=Tryz.func116.trans (congrArg some (by kernel_rfl))
 f241:=Tryz.func153.trans (congrArg some (by kernel_rfl))
 f260:=Tryz.func160.trans (congrArg some (by kernel_rfl))
 f266:=Tryz.func182.trans (congrArg some (by kernel_rfl))
 f267:=Tryz.func159.trans (congrArg some (by kernel_rfl))
 f276:=Tryz.func146.trans (congrArg some (by kernel_rfl))
 f277:=Tryz.func179.trans (congrArg some (by kernel_rfl))
 f314:=Tryz.func183.trans (congrArg some (by kernel_rfl))
 t0:=Tryz.underlying0
 a0:=Tryz.isAgg0
 z0:=Tryz.sizeOf0
 v0:=Tryz.zeroValue0
 t3:=Tryz.underlying3
 a3:=Tryz.isAgg3
 z3:=Tryz.sizeOf3
 v3:=Tryz.zeroValue3
 t4:=Tryz.underlying4
 a4:=Tryz.isAgg4
 z4:=Tryz.sizeOf4
 v4:=Tryz.zeroValue4
 t5:=Tryz.underlying5
 a5:=Tryz.isAgg5
 z5:=Tryz.sizeOf5
 v5:=Tryz.zeroValue5
 t9:=Tryz.underlying9
 a9:=Tryz.isAgg9
 z9:=Tryz.sizeOf9
 v9:=Tryz.zeroValue9
 t20:=Tryz.underlying20
 a20:=Tryz.isAgg20
 z20:=Tryz.sizeOf20
 v20:=Tryz.zeroValue20
 t21:=Tryz.underlying21
 a21:=Tryz.isAgg21
 z21:=Tryz.sizeOf21
 v21:=Tryz.zeroValue21
 t37:=Tryz.underlying101
 a37:=Tryz.isAgg101
 z37:=Tryz.sizeOf101
 v37:=Tryz.zeroValue101
 t46:=Tryz.underlying154
 a46:=Tryz.isAgg154
 z46:=Tryz.sizeOf154
 v46:=Tryz.zeroValue154
 t51:=Tryz.underlying196
 a51:=Tryz.isAgg196
 z51:=Tryz.sizeOf196
 v51:=Tryz.zeroValue196
 t70:=Tryz.underlying100
 a70:=Tryz.isAgg100
 z70:=Tryz.sizeOf100
 v70:=Tryz.zeroValue100
 t72:=Tryz.underlying103
 a72:=Tryz.isAgg103
 z72:=Tryz.sizeOf103
 v72:=Tryz.zeroValue103
 t75:=Tryz.underlying76
 a75:=Tryz.isAgg76
 z75:=Tryz.sizeOf76
 v75:=Tryz.zeroValue76
 t76:=Tryz.underlying77
 a76:=Tryz.isAgg77
 z76:=Tryz.sizeOf77
 v76:=Tryz.zeroValue77
 t105:=Tryz.underlying155
 a105:=Tryz.isAgg155
 z105:=Tryz.sizeOf155
 v105:=Tryz.zeroValue155
 t119:=Tryz.underlying199
 a119:=Tryz.isAgg199
 z119:=Tryz.sizeOf199
 t127:=Tryz.underlying137
 a127:=Tryz.isAgg137
 z127:=Tryz.sizeOf137
 v127:=Tryz.zeroValue137
 t138:=Tryz.underlying201
 a138:=Tryz.isAgg201
 z138:=Tryz.sizeOf201
 v138:=Tryz.zeroValue201
 t139:=Tryz.underlying202
 a139:=Tryz.isAgg202
 z139:=Tryz.sizeOf202
 v139:=Tryz.zeroValue202
 t146:=Tryz.underlying197
 a146:=Tryz.isAgg197
 z146:=Tryz.sizeOf197
 v146:=Tryz.zeroValue197
 t164:=Tryz.underlying159
 a164:=Tryz.isAgg159
 z164:=Tryz.sizeOf159
 v164:=Tryz.zeroValue159
 g1:=by kernel_rfl
 g3:=by kernel_rfl
 g4:=by kernel_rfl}
theorem Tryz.Builder_Extra_155 : Builder.Extra Tryz.prog Tryz.lays155_ren := {
 sizeBuilder:=by kernel_rfl
 liesBuilder:=by kernel_rfl
 t5:=Tryz.underlying5
 a5:=Tryz.isAgg5
 z5:=Tryz.sizeOf5
 v5:=Tryz.zeroValue5
 infoByte:=by kernel_rfl
 cellsByte:=by kernel_rfl
 sizeByte:=by kernel_rfl
 neB5:=by decide}
open Go.RowKit Go.Lib in
theorem Tryz.strings_ReplaceAll (s old new:ByteArray)(m:Int)(w:World)(hs:s.size<4294967281)(hm:w.cell? ⟨2,0,none⟩=some (.int .i64 m))(h1:1≤old.size)(hlen:s.size+Lib.countB s old*new.size≤140737488355328):
  Calls Tryz.prog 84 #[.string s,.string old,.string new] w fun e w'=>
   e= .returned (.string ⟨(Lib.replaceAll s.data.toList old.data.toList new.data.toList).toArray⟩)∧Below w.heap.size w w':=Any.strings_ReplaceAll Tryz.lays155 Tryz.Builder_Extra_155 s old new m w hs hm h1 hlen
def Tryz.lays153_ren:Go.Shelf.Ren:=⟨fun|153=>60|152=>101|226=>102|227=>103|228=>104|137=>136|119=>137|224=>138|225=>139|217=>158|266=>182|n=>n,fun|9=>9|3=>3|4=>4|5=>5|21=>21|117=>131|116=>130|0=>0|46=>154|124=>135|n=>n,fun|n=>n⟩
theorem Tryz.lays153 : Go.Proofs.Lays.n153 Tryz.prog Tryz.lays153_ren := {
 mixed:=by kernel_rfl
 f119:=Tryz.func137.trans (congrArg some (by kernel_rfl))
 f137:=Tryz.func136.trans (congrArg some (by kernel_rfl))
 f152:=Tryz.func101.trans (congrArg some (by kernel_rfl))
 f153:=Tryz.func60.trans (congrArg some (by kernel_rfl))
 f217:=Tryz.func158.trans (congrArg some (by kernel_rfl))
 f224:=Tryz.func138.trans (congrArg some (by kernel_rfl))
 f225:=Tryz.func139.trans (congrArg some (by kernel_rfl))
 f226:=Tryz.func102.trans (congrArg some (by kernel_rfl))
 f227:=Tryz.func103.trans (congrArg some (by kernel_rfl))
 f228:=Tryz.func104.trans (congrArg some (by kernel_rfl))
 f266:=Tryz.func182.trans (congrArg some (by kernel_rfl))
 t0:=Tryz.underlying0
 a0:=Tryz.isAgg0
 z0:=Tryz.sizeOf0
 v0:=Tryz.zeroValue0
 t3:=Tryz.underlying3
 a3:=Tryz.isAgg3
 z3:=Tryz.sizeOf3
 v3:=Tryz.zeroValue3
 t4:=Tryz.underlying4
 a4:=Tryz.isAgg4
 z4:=Tryz.sizeOf4
 v4:=Tryz.zeroValue4
 t5:=Tryz.underlying5
 a5:=Tryz.isAgg5
 z5:=Tryz.sizeOf5
 v5:=Tryz.zeroValue5
 t9:=Tryz.underlying9
 a9:=Tryz.isAgg9
 z9:=Tryz.sizeOf9
 v9:=Tryz.zeroValue9
 t21:=Tryz.underlying21
 a21:=Tryz.isAgg21
 z21:=Tryz.sizeOf21
 v21:=Tryz.zeroValue21
 t46:=Tryz.underlying154
 a46:=Tryz.isAgg154
 z46:=Tryz.sizeOf154
 v46:=Tryz.zeroValue154
 t116:=Tryz.underlying130
 a116:=Tryz.isAgg130
 z116:=Tryz.sizeOf130
 t117:=Tryz.underlying131
 a117:=Tryz.isAgg131
 z117:=Tryz.sizeOf131
 v117:=Tryz.zeroValue131
 t124:=Tryz.underlying135
 a124:=Tryz.isAgg135
 z124:=Tryz.sizeOf135
 v124:=Tryz.zeroValue135}
open Go.RowKit Go.Lib in
theorem Tryz.strings_IndexAny_laid (s chars:ByteArray)(w:World)(hs:s.size<4294967281)(hcs:chars.size<4294967281)(has: ∀(j:Nat) b,s.data.toList[j]? =some b→b.toNat<128)(hac: ∀(j:Nat) b,chars.data.toList[j]? =some b→b.toNat<128):
  Calls Tryz.prog 60 #[.string s,.string chars] w fun e w'=>e= .returned (.int .i64 (Lib.indexAny s.data.toList chars.data.toList))∧Below w.heap.size w w':=Any.strings_IndexAny_laid Tryz.lays153 (by kernel_rfl) s chars w hs hcs has hac
open Go.RowKit Go.Lib in
theorem Tryz.strings_ToUpper_any (s:ByteArray)(w:World)(hs:s.size<35184372088832)(hV:CaseVar 3 caseA w)(hT:Lib.Utf8Tabs 4 5 w):
  Calls Tryz.prog 91 #[.string s] w fun e w'=>e= .returned (.string ⟨(Lib.toUpperD s.data.toList).toArray⟩)∧Below w.heap.size w w':=Any.strings_ToUpper_any Tryz.lays158 Tryz.Builder_Extra_158 s w hs hV hT
open Go.RowKit Go.Lib in
theorem Tryz.strings_ContainsFunc_grows (g:Nat)(lb:Array Value)(eg: ∀args w,(callFunc g args).run Tryz.prog w= .ok (.enter g args) w)(p:Nat→Bool)(s:ByteArray)(w:World)(hp:PredGrows Tryz.prog g lb p w):
  Calls Tryz.prog 43 #[.string s,.func (.func g) #[] lb] w fun e w'=>e= .returned (.bool (decide (0≤Lib.idxFunc p true s)))∧Below w.heap.size w w':=Any.strings_ContainsFunc_grows Tryz.laysGw17 g lb eg p s w hp
end Go.Proofs
set_option linter.unusedVariables false
set_option linter.unusedSimpArgs false
set_option maxRecDepth 100000
namespace Go.Abs
open Go Go.Proofs Go.RowKit
structure Base (W0:World):Prop where
 max: ∃m:Int,W0.cell? ⟨2,0,none⟩=some (.int .i64 m)
 case:Lib.CaseVar 3 Lib.caseA W0
 utf8:Lib.Utf8Tabs 4 5 W0
 pow:Lib.TabIs Tryz.prog W0 "internal/strconv.uint64pow10" .u64 Lib.pow10Tab
 esyn: ∃tp p,World.var? Tryz.prog W0 "strconv.ErrSyntax" =some #[.iface tp p]
 erng: ∃tp p,World.var? Tryz.prog W0 "strconv.ErrRange" =some #[.iface tp p]
section
variable {W0 w:World}
theorem ef (h: ∀b,b<W0.heap.size→w.heap[b]? =W0.heap[b]?){p:Addr}{v:Value}(hc:W0.cell? p=some v):w.cell? p=some v:=by
 have hp:=A6 hc
 rw[←hc]
 unfold World.cell?
 rw[h _ hp]
theorem sU (h: ∀b,b<W0.heap.size→w.heap[b]? =W0.heap[b]?){n:String}{v:Array Value}(hv:World.var? Tryz.prog W0 n=some v):World.var? Tryz.prog w n=some v:=by
 rw[←hv]
 unfold World.var? at hv ⊢
 cases hg:Tryz.prog.globalNamed n with
 |none=>rfl
 |some g=>
  rw[hg]at hv
  simp only[Option.bind_some]at hv ⊢
  have hlt:g<W0.heap.size:=by
   rcases Nat.lt_or_ge g W0.heap.size with h1|h1
   ·exact h1
   ·rw[Array.getElem?_eq_none h1]at hv;simp at hv
  rw[h g hlt]
theorem Base.kept (B:Base W0)(h: ∀b,b<W0.heap.size→w.heap[b]? =W0.heap[b]?):Base w:=by
 obtain⟨m,hm⟩:=B.max
 obtain⟨R,oR,cap,h1,h2⟩:=B.case
 obtain⟨t1,p1,e1⟩:=B.esyn
 obtain⟨t2,p2,e2⟩:=B.erng
 refine⟨⟨m,ef h hm⟩,⟨R,oR,cap,ef h h1,fun i hi=> ?_⟩,⟨fun c hc=>ef h (B.utf8.1 c hc),fun i hi=>⟨ef h (B.utf8.2 i hi).1,ef h (B.utf8.2 i hi).2⟩⟩,sU h B.pow,⟨t1,p1,sU h e1⟩,⟨t2,p2,sU h e2⟩⟩
 obtain⟨a,b,c,d,e⟩:=h2 i hi
 exact⟨ef h a,ef h b,ef h c,ef h d,ef h e⟩
theorem fB {x:LV}{s:List UInt8}(h:aN x=some s):x=LV.str s:=by
 unfold aN at h
 split at h
 ·rename_i b
  injection h with h
  subst h
  rfl
 ·cases h
theorem CP {k:IntKind}{x:LV}{n:Int}(h:aH k x=some n):x=LV.int k n:=by
 unfold aH at h
 split at h
 ·rename_i k' m
  by_cases hk:k=k'
  ·subst hk
   simp at h
   subst h
   rfl
  ·simp[hk]at h
 ·cases h
theorem bm {α β:Type}{x:Option α}{f:α→Option β}{r:β}(h:opt x f=some r): ∃a,x=some a∧f a=some r:=by
 cases x with
 |none=>cases h
 |some a=>exact⟨a,rfl,h⟩
theorem dx {α:Type}{l:List α}{q:α×List α}(h:aw l=some q):l=q.1::q.2:=by
 cases l with
 |nil=>cases h
 |cons a r=>injection h with h;subst h;rfl
theorem fC {α:Type}{l:List α}{u:Unit}(h:aK l=some u):l=[]:=by
 cases l with
 |nil=>rfl
 |cons a r=>cases h
theorem de {β:Type}{b:Bool}{k:Option β}{r:β}(h:aA b k=some r):b=true∧k=some r:=by
 cases b with
 |false=>cases h
 |true=>exact⟨rfl,h⟩
theorem vU {g:List UInt8→Option LV}{args:List LV}{μ:Mu}{out:Out}(h:ri g args μ=some out): ∃s v,args=[LV.str s]∧g s=some v∧out= .ret v μ:=by
 unfold ri at h
 obtain⟨q,hq,h⟩:=bm h
 obtain⟨u,hu,h⟩:=bm h
 obtain⟨s,hs,h⟩:=bm h
 obtain⟨v,hv,h⟩:=bm h
 injection h with h
 refine⟨s,v,?_,hv,h.symm⟩
 rw[dx hq,fC hu,fB hs]
theorem fq {g:List UInt8→List UInt8→Option LV}{args:List LV}{μ:Mu}{out:Out}(h:e8 g args μ=some out): ∃s t v,args=[LV.str s,LV.str t]∧g s t=some v∧out= .ret v μ:=by
 unfold e8 at h
 obtain⟨q,hq,h⟩:=bm h
 obtain⟨r,hr,h⟩:=bm h
 obtain⟨u,hu,h⟩:=bm h
 obtain⟨s,hs,h⟩:=bm h
 obtain⟨t,ht,h⟩:=bm h
 obtain⟨v,hv,h⟩:=bm h
 injection h with h
 refine⟨s,t,v,?_,hv,h.symm⟩
 rw[dx hq,dx hr,fC hu,fB hs,fB ht]
theorem F5 {g:List UInt8→List UInt8→List UInt8→Option LV}{args:List LV}{μ:Mu}{out:Out}(h:wK g args μ=some out): ∃s t z v,args=[LV.str s,LV.str t,LV.str z]∧g s t z=some v∧out= .ret v μ:=by
 unfold wK at h
 obtain⟨q,hq,h⟩:=bm h
 obtain⟨r,hr,h⟩:=bm h
 obtain⟨x,hx,h⟩:=bm h
 obtain⟨u,hu,h⟩:=bm h
 obtain⟨s,hs,h⟩:=bm h
 obtain⟨t,ht,h⟩:=bm h
 obtain⟨z,hz,h⟩:=bm h
 obtain⟨v,hv,h⟩:=bm h
 injection h with h
 refine⟨s,t,z,v,?_,hv,h.symm⟩
 rw[dx hq,dx hr,dx hx,fC hu,fB hs,fB ht,fB hz]
theorem cH {f:FuncId}{fn:Func}(h:Tryz.prog.funcs[f]? =some fn)(h2:fn.body.isSome=true)(h3:(fn.name == "runtime.NumGoroutine")=false): ∃fn c,E.P.funcs[f]? =some fn∧fn.body=some c∧(fn.name == "runtime.NumGoroutine")=false:=by
 obtain⟨c,hc⟩:=Option.isSome_iff_exists.1 h2
 exact⟨fn,c,h,hc,h3⟩
variable {μ:Mu}
theorem ei {f:FuncId}{vals:List Value}{r:Value}(hf: ∃fn c,E.P.funcs[f]? =some fn∧fn.body=some c∧(fn.name == "runtime.NumGoroutine")=false)(B:Base W0)
  (hc: ∀w:World,Base w→Calls Tryz.prog f vals.toArray w fun e w'=>e= .returned r∧Below w.heap.size w w'):
  cj E.P W0 f (vals.map fun v=>LV.cv (.v v)) μ (.ret (.cv (.v r)) μ):=
 C7 hf fun w h1 h2=>hc w (B.kept h2)
theorem vg {G:Gh}{L:Nat}: ∀(rs:List Value),bE G w L 0 (rs.map fun v=>LV.cv (.v v)) rs
 |[]=>rfl
 |r::rs=>by
  refine⟨r,rs,rfl,?_,rfl,vg rs⟩
  intro xs h
  cases h
theorem vL {f:FuncId}{vals rs:List Value}(hf: ∃fn c,E.P.funcs[f]? =some fn∧fn.body=some c∧(fn.name == "runtime.NumGoroutine")=false)(B:Base W0)
  (hc: ∀w:World,Base w→Calls Tryz.prog f vals.toArray w fun e w'=>e= .returned (.tuple rs.toArray)∧Below w.heap.size w w'):
  cj E.P W0 f (vals.map fun v=>LV.cv (.v v)) μ (.ret (.ltup (rs.map fun v=>LV.cv (.v v))) μ):=by
 refine jr hf fun G w cargs hs hv h1 h2=> ?_
 rw[q4 hs hv]
 refine(hc w (B.kept h2)).mono fun e w' ⟨h3,h4⟩=>⟨_,h3,h4,⟨rs.toArray,rfl,vg rs⟩,fun b h=>by simp[aB]at h⟩
theorem gW {w':World}(h:w'=w):Below w.heap.size w w':=by subst h;exact Below.refl _ _
theorem rt (n:Nat):Below w.heap.size w (w.drewN n):=⟨rfl,rfl,rfl,Nat.le_refl _,fun _ _=>rfl⟩
theorem dN {s:List UInt8}(h:c6 s=true):(⟨⟨s⟩⟩:ByteArray).size≤1000000:=by
 unfold c6 at h
 exact of_decide_eq_true h
theorem DK (B:Base W0){args:List LV}{out:Out}(h:oH args μ=some out):cj E.P W0 91 args μ out:=by
 obtain⟨s,v,rfl,hg,rfl⟩:=vU h
 obtain⟨h1,h2⟩:=de hg
 injection h2 with h2
 subst h2
 have hl:=dN h1
 exact ei (vals:=[.string ⟨⟨s⟩⟩]) (cH Tryz.func91 rfl (by kernel_rfl)) B fun w b=>Tryz.strings_ToUpper_any ⟨⟨s⟩⟩ w (by omega) b.case b.utf8
theorem yH (B:Base W0){args:List LV}{out:Out}(h:lj args μ=some out):cj E.P W0 195 args μ out:=by
 obtain⟨s,t,v,rfl,hg,rfl⟩:=fq h
 injection hg with hg
 subst hg
 exact ei (vals:=[.string ⟨⟨s⟩⟩,.string ⟨⟨t⟩⟩]) (cH Tryz.func195 rfl (by kernel_rfl)) B fun w b=>(Tryz.strings_HasPrefix ⟨⟨s⟩⟩ ⟨⟨t⟩⟩ w).mono fun e w' ⟨h1,h2⟩=>⟨h1,gW h2⟩
theorem wo (B:Base W0){args:List LV}{out:Out}(h:kg args μ=some out):cj E.P W0 194 args μ out:=by
 obtain⟨s,t,v,rfl,hg,rfl⟩:=fq h
 injection hg with hg
 subst hg
 exact ei (vals:=[.string ⟨⟨s⟩⟩,.string ⟨⟨t⟩⟩]) (cH Tryz.func194 rfl (by kernel_rfl)) B fun w b=>(Tryz.strings_TrimPrefix ⟨⟨s⟩⟩ ⟨⟨t⟩⟩ w).mono fun e w' ⟨h1,h2⟩=>⟨h1,gW h2⟩
theorem yJ {t:List UInt8}{c:UInt8}(h:u1 t=some c):t=[c]:=by
 unfold u1 at h
 split at h
 ·injection h with h;subst h;rfl
 ·cases h
theorem AH (B:Base W0){args:List LV}{out:Out}(h:mv args μ=some out):cj E.P W0 62 args μ out:=by
 obtain⟨s,t,v,rfl,hg,rfl⟩:=fq h
 obtain⟨c,hc,hg⟩:=bm hg
 obtain⟨h1,h2⟩:=de hg
 injection h2 with h2
 subst h2
 have:=yJ hc
 subst this
 exact ei (vals:=[.string ⟨⟨s⟩⟩,.string ⟨⟨[c]⟩⟩]) (cH Tryz.func62 rfl (by kernel_rfl)) B fun w b=>(Tryz.strings_TrimLeft_one ⟨⟨s⟩⟩ c (of_decide_eq_true h1) w).mono fun e w' ⟨h1,h2⟩=>⟨h1,gW h2⟩
theorem yI (B:Base W0){args:List LV}{out:Out}(h:lk args μ=some out):cj E.P W0 63 args μ out:=by
 obtain⟨s,t,v,rfl,hg,rfl⟩:=fq h
 obtain⟨c,hc,hg⟩:=bm hg
 obtain⟨h1,h2⟩:=de hg
 injection h2 with h2
 subst h2
 have:=yJ hc
 subst this
 rw[Bool.and_eq_true]at h1
 have hl:=dN h1.2
 exact ei (vals:=[.string ⟨⟨s⟩⟩,.string ⟨⟨[c]⟩⟩]) (cH Tryz.func63 rfl (by kernel_rfl)) B fun w b=>(Tryz.strings_TrimRight_one ⟨⟨s⟩⟩ c (of_decide_eq_true h1.1) w (by omega)).mono fun e w' ⟨h1,h2⟩=>⟨h1,gW h2⟩
theorem HJ (B:Base W0){args:List LV}{out:Out}(h:tY args μ=some out):cj E.P W0 145 args μ out:=by
 obtain⟨s,t,v,rfl,hg,rfl⟩:=fq h
 obtain⟨h1,h2⟩:=de hg
 injection h2 with h2
 subst h2
 have hl:=dN h1
 refine ei (vals:=[.string ⟨⟨s⟩⟩,.string ⟨⟨t⟩⟩]) (cH Tryz.func145 rfl (by kernel_rfl)) B fun w b=> ?_
 obtain⟨m,hm⟩:=b.max
 exact(Tryz.strings_Index ⟨⟨s⟩⟩ ⟨⟨t⟩⟩ m w (by omega) hm).mono fun e w' ⟨h1,h2⟩=>⟨h1,gW h2⟩
theorem AF (B:Base W0){args:List LV}{out:Out}(h:mt args μ=some out):cj E.P W0 115 args μ out:=by
 obtain⟨s,t,v,rfl,hg,rfl⟩:=fq h
 obtain⟨h1,h2⟩:=de hg
 injection h2 with h2
 subst h2
 have hl:=dN h1
 refine ei (vals:=[.string ⟨⟨s⟩⟩,.string ⟨⟨t⟩⟩]) (cH Tryz.func115 rfl (by kernel_rfl)) B fun w b=> ?_
 obtain⟨m,hm⟩:=b.max
 exact(Tryz.strings_Contains ⟨⟨s⟩⟩ ⟨⟨t⟩⟩ m w (by omega) hm).mono fun e w' ⟨h1,h2⟩=>⟨h1,gW h2⟩
theorem KV (B:Base W0){args:List LV}{out:Out}(h:K1 args μ=some out):cj E.P W0 61 args μ out:=by
 obtain⟨s,t,v,rfl,hg,rfl⟩:=fq h
 obtain⟨h1,h2⟩:=de hg
 injection h2 with h2
 subst h2
 have hl:=dN h1
 refine vL (vals:=[.string ⟨⟨s⟩⟩,.string ⟨⟨t⟩⟩]) (rs:=[.string ⟨⟨(Lib.cut s t).1⟩⟩,.string ⟨⟨(Lib.cut s t).2.1⟩⟩,.bool (Lib.cut s t).2.2]) (cH Tryz.func61 rfl (by kernel_rfl)) B fun w b=> ?_
 obtain⟨m,hm⟩:=b.max
 refine(Tryz.strings_Cut ⟨⟨s⟩⟩ ⟨⟨t⟩⟩ m w (by omega) hm).mono fun e w' ⟨h1,n,h2⟩=>⟨h1,?_⟩
 subst h2
 exact rt n
theorem AG (B:Base W0){args:List LV}{out:Out}(h:vT args μ=some out):cj E.P W0 60 args μ out:=by
 obtain⟨s,t,v,rfl,hg,rfl⟩:=fq h
 obtain⟨h1,h2⟩:=de hg
 injection h2 with h2
 subst h2
 simp only[Bool.and_eq_true]at h1
 obtain⟨⟨⟨a1,a2⟩,a3⟩,a4⟩:=h1
 have hl:=dN a1
 have hl2:=dN a2
 have asc: ∀{l:List UInt8},tf l=true→ ∀(j:Nat) (b:UInt8),l[j]? =some b→b.toNat<128:=by
  intro l hl j b hb
  unfold tf at hl
  rw[List.all_eq_true]at hl
  exact of_decide_eq_true (hl b (List.mem_of_getElem? hb))
 exact ei (vals:=[.string ⟨⟨s⟩⟩,.string ⟨⟨t⟩⟩]) (cH Tryz.func60 rfl (by kernel_rfl)) B fun w b=>Tryz.strings_IndexAny_laid ⟨⟨s⟩⟩ ⟨⟨t⟩⟩ w (by omega) (by omega) (asc a3) (asc a4)
theorem JM (B:Base W0){args:List LV}{out:Out}(h:tZ args μ=some out):cj E.P W0 66 args μ out:=by
 unfold tZ at h
 obtain⟨q,hq,h⟩:=bm h
 obtain⟨u,hu,h⟩:=bm h
 obtain⟨n,hn,h⟩:=bm h
 obtain⟨h1,h2⟩:=de h
 injection h2 with h2
 subst h2
 have hx:q.1=LV.int .i64 n:=by
  exact CP hn
 rw[dx hq,fC hu,hx]
 rw[Bool.and_eq_true]at h1
 refine ei (vals:=[.int .i64 n]) (cH Tryz.func66 rfl (by kernel_rfl)) B fun w b=> ?_
 refine(Tryz.strconv_Itoa n (of_decide_eq_true h1.1) (of_decide_eq_true h1.2) w b.pow).mono fun e w' ⟨h3,k,os,h4⟩=>⟨h3,?_⟩
 subst h4
 have h5:Below w.heap.size w (w.drewN k):=rt k
 refine Below.trans h5 ⟨rfl,rfl,rfl,by simp[«Sort».grow],fun j hj=> ?_⟩
 have:j<(w.drewN k).heap.size:=Nat.lt_of_lt_of_le hj h5.size
 simp only[«Sort».grow]
 rw[Array.getElem?_append_left this]
theorem wn (B:Base W0){args:List LV}{out:Out}(h:kf args μ=some out):cj E.P W0 84 args μ out:=by
 obtain⟨s,t,z,v,rfl,hg,rfl⟩:=F5 h
 obtain⟨h1,h2⟩:=de hg
 injection h2 with h2
 subst h2
 simp only[Bool.and_eq_true]at h1
 obtain⟨⟨a1,a2⟩,a3⟩:=h1
 have hl:=dN a1
 have hl2:=dN a2
 have h1':1≤(⟨⟨t⟩⟩:ByteArray).size:=of_decide_eq_true a3
 refine ei (vals:=[.string ⟨⟨s⟩⟩,.string ⟨⟨t⟩⟩,.string ⟨⟨z⟩⟩]) (cH Tryz.func84 rfl (by kernel_rfl)) B fun w b=> ?_
 obtain⟨m,hm⟩:=b.max
 have hc:=Lib.countB_le ⟨⟨t⟩⟩ h1' _ ⟨⟨s⟩⟩ (Nat.le_refl _)
 refine Tryz.strings_ReplaceAll ⟨⟨s⟩⟩ ⟨⟨t⟩⟩ ⟨⟨z⟩⟩ m w (by omega) hm h1' ?_
 have:Lib.countB ⟨⟨s⟩⟩ ⟨⟨t⟩⟩*(⟨⟨z⟩⟩:ByteArray).size≤1000000*1000000:=Nat.mul_le_mul (by omega) hl2
 omega
theorem BI {G:Gh}{L:Nat}{n:Int}{v:Value}:LVR G w L 0 (.ltup [LV.int .i64 n,.cv (.iface 146 .undef)]) (.tuple #[.int .i64 n,.iface 146 v]):=by
 refine⟨_,rfl,_,_,rfl,?_,rfl,_,_,rfl,?_,⟨v,rfl,trivial⟩,rfl⟩
 ·intro xs h;cases h
 ·intro xs h;cases h
theorem JL (B:Base W0){args:List LV}{out:Out}(h:wJ 146 args μ=some out):cj E.P W0 45 args μ out:=by
 obtain⟨s,v,rfl,hg,rfl⟩:=vU h
 obtain⟨h1,h2⟩:=de hg
 injection h2 with h2
 subst h2
 have hl:=dN h1
 unfold ti
 cases ha:Lib.atoiAll s
 ·rename_i n
  refine vL (vals:=[.string ⟨⟨s⟩⟩]) (rs:=[.int .i64 n,.nilIface]) (cH Tryz.func45 rfl (by kernel_rfl)) B fun w b=> ?_
  refine(Tryz.strconv_Atoi_ok ⟨⟨s⟩⟩ (by omega) n ha w).mono fun e w' ⟨h3,h4⟩=>⟨h3,?_⟩
  rcases h4 with rfl|⟨t,rfl⟩
  ·exact Below.refl _ _
  ·exact Joins.below_bytesWorld _ _ _ _ (Nat.le_refl _)
 ·refine jr (cH Tryz.func45 rfl (by kernel_rfl)) fun G w cargs hs hv k1 k2=> ?_
  rw[q4 (vals:=[.string ⟨⟨s⟩⟩]) hs hv]
  obtain⟨tp,p,hp⟩:=(B.kept k2).esyn
  refine(Tryz.strconv_Atoi_syntax_var ⟨⟨s⟩⟩ (by omega) (fun v e=>by rw[ha]at e;cases e) (fun e=>by rw[ha]at e;cases e) tp p w hp).mono fun e w' ⟨N,h3,_,_,h4⟩=>⟨_,h3,h4,BI,fun b h=>by simp[aB]at h⟩
 ·refine jr (cH Tryz.func45 rfl (by kernel_rfl)) fun G w cargs hs hv k1 k2=> ?_
  rw[q4 (vals:=[.string ⟨⟨s⟩⟩]) hs hv]
  obtain⟨tp,p,hp⟩:=(B.kept k2).erng
  refine(Tryz.strconv_Atoi_range_var ⟨⟨s⟩⟩ (by omega) ha tp p w hp).mono fun e w' ⟨N,h3,_,_,h4⟩=>⟨_,h3,h4,BI,fun b h=>by simp[aB]at h⟩
theorem zE {n b0 b1 b2 b3:Nat}(h:b0<128):Lib.decodeN n b0 b1 b2 b3=(b0,1):=by unfold Lib.decodeN;rw[if_pos h]
theorem xH {n b0 b1 b2 b3:Nat}(h: ¬b0<128):128≤(Lib.decodeN n b0 b1 b2 b3).1:=by
 unfold Lib.decodeN
 rw[if_neg h]
 repeat' split
 all_goals first|omega|(simp only;omega)
theorem BC {p:Nat→Bool}{q:UInt8→Bool}(h1: ∀b:UInt8,b.toNat<128→p b.toNat=q b)(h2: ∀x,128≤x→p x=true)(h3: ∀b:UInt8,128≤b.toNat→q b=true)(s:List UInt8):
  ∀(f pos:Nat),s.length≤f+pos→decide (0≤Lib.idxFuncFrom p true ⟨⟨s⟩⟩ f pos)=(s.drop pos).any q
 |0,pos,hf=>by
  rw[List.drop_eq_nil_of_le (by omega)]
  rfl
 |f+1,pos,hf=>by
  unfold Lib.idxFuncFrom
  have hsz:(⟨⟨s⟩⟩:ByteArray).size=s.length:=rfl
  by_cases hlt:pos<s.length
  ·rw[if_pos (by rw[hsz];exact hlt),Lib.decode_at,List.drop_eq_getElem_cons hlt,List.any_cons]
   have hg:((⟨⟨s⟩⟩:ByteArray).get! pos)=s[pos]:=by
    simp[ByteArray.get!,hlt]
   rw[hg]
   by_cases hb:s[pos].toNat<128
   ·rw[zE hb]
    simp only
    rw[h1 _ hb]
    cases hq:q s[pos]with
    |true=>simp
    |false=>
     rw[if_neg (by simp),BC h1 h2 h3 s f (pos+1) (by omega),Bool.false_or]
   ·rw[h2 _ (xH hb),if_pos rfl,h3 _ (by omega)]
    simp
  ·rw[if_neg (by rw[hsz];exact hlt),List.drop_eq_nil_of_le (by omega)]
   rfl
noncomputable def E0:Env:={E with prim:=fun _=>none}
theorem K5 (W:World):qW E0 W:=fun f g h=>by cases h
theorem KN:E0.P.follows .mixedOrders=true:=by kernel_rfl
theorem DQ {g:FuncId}{p:Nat→Bool}(hr: ∀x:Nat,(ev E0).call g [LV.int .i32 (x:Int)] []=some (.ret (LV.bool (p x)) [])):PredGrows Tryz.prog g #[] p w:=by
 intro W x hx hb
 have hm:=xO KN (K5 W) (hr x)
 have he:(#[encR x]++(#[]:Array Value))= #[encR x]:=rfl
 rw[he]
 obtain ⟨R, hT⟩ := Rel.top (w := W) (args := [CV.int .i32 (x : Int)]) (cargs := #[encR x]) (by
  intro j y hy
  cases j with
  |zero=>simp at hy;subst hy;simp[VR]
  |succ j=>simp at hy)
 refine(hm.2 (Gh.top W) W #[encR x] rfl R ⟨Nat.le_refl _,fun b _=>⟨rfl,hT b⟩⟩).mono fun e w' h=> ?_
 cases e with
 |returned cv=>
  simp only[ex]at h
  obtain⟨O',R',E⟩:=h
  have h0:=R'.fr 0
  simp only[bT,List.getElem?_cons_zero,Option.getD_some,LVR,VR]at h0
  have:cv= .bool (p x):=by simpa using h0
  subst this
  exact⟨rfl,E.os,E.tape,E.output,E.size,fun b hb=>(E.keep b hb (hT b)).1⟩
 |panicked ch=>exact h.elim
 |_=>exact h.elim
theorem A5 {β:Type}{v:LV}{k:LV→Mu→Option β}{p:CV→Mu→Option β}:callK (some (.ret v μ)) k p=k v μ:=rfl
theorem FY {α β:Type}{a:α}{k:α→Option β}:opt (some a) k=k a:=rfl
theorem dIn (a b:Nat):decide ((a:Int)<(b:Int))=decide (a<b):=by simp
theorem M1 (x:Nat):(ev E0).call 122 [LV.int .i32 (x:Int)] []=some (.ret (LV.bool (decide (x<32)||decide (126<x))) []):=by
 refine aS ?_
 have:aJ E0 (ev E0) 122 [LV.int .i32 (x:Int)] []=cond (decide ((x:Int)<32)) (some (.ret (LV.bool true) [])) (some (.ret (LV.bool (decide ((126:Int)<(x:Int)))) [])):=by kernel_rfl
 have e1:decide ((x:Int)<32)=decide (x<32):=dIn x 32
 have e2:decide ((126:Int)<(x:Int))=decide (126<x):=dIn 126 x
 rw[this,e1,e2]
 cases decide (x<32)<;>rfl
theorem M0 (x:Nat):(ev E0).call 112 [LV.int .i32 (x:Int)] []=some (.ret (LV.bool (decide (x<48)||decide (57<x))) []):=by
 refine aS ?_
 have:aJ E0 (ev E0) 112 [LV.int .i32 (x:Int)] []=cond (decide ((x:Int)<48)) (some (.ret (LV.bool true) [])) (some (.ret (LV.bool (decide ((57:Int)<(x:Int)))) [])):=by kernel_rfl
 have e1:decide ((x:Int)<48)=decide (x<48):=dIn x 48
 have e2:decide ((57:Int)<(x:Int))=decide (57<x):=dIn 57 x
 rw[this,e1,e2]
 cases decide (x<48)<;>rfl
theorem p44 (x:Nat):(ev E0).call 44 [LV.int .i32 (x:Int)] []=some (.ret (LV.bool (decide (x<48)||decide (57<x))) []):=by
 refine aS ?_
 have:aJ E0 (ev E0) 44 [LV.int .i32 (x:Int)] []=cond (decide ((x:Int)<48)) (some (.ret (LV.bool true) [])) (some (.ret (LV.bool (decide ((57:Int)<(x:Int)))) [])):=by kernel_rfl
 have e1:decide ((x:Int)<48)=decide (x<48):=dIn x 48
 have e2:decide ((57:Int)<(x:Int))=decide (57<x):=dIn 57 x
 rw[this,e1,e2]
 cases decide (x<48)<;>rfl
def C0 (b:Int):Bool:=(decide ((97:Int)≤b)&&decide (b≤122))||(decide ((65:Int)≤b)&&decide (b≤90))
theorem p90 {b:Int}:(ev E0).call 90 [LV.int .u8 b] []=some (.ret (LV.bool (C0 b)) []):=by
 refine aS ?_
 have : aJ E0 (ev E0) 90 [LV.int .u8 b] [] = cond (decide ((97 : Int) ≤ b)) (
   cond (decide (b ≤ (122 : Int))) (
   some (.ret (LV.bool true) [])) (
   cond (decide ((65 : Int) ≤ b)) (
   some (.ret (LV.bool (decide (b≤(90:Int)))) [])) (
   some (.ret (LV.bool false) [])))) (
   cond (decide ((65 : Int) ≤ b)) (
   some (.ret (LV.bool (decide (b≤(90:Int)))) [])) (
   some (.ret (LV.bool false) []))):=by kernel_rfl
 rw[this]
 unfold C0
 cases decide ((97:Int)≤b)<;>cases decide (b≤122)<;>cases decide ((65:Int)≤b)<;>rfl
theorem M2 {b:Int}:(ev E0).call 132 [LV.int .u8 b] []=some (.ret (LV.bool (decide ((48:Int)≤b)&&decide (b≤57))) []):=by
 refine aS ?_
 have:aJ E0 (ev E0) 132 [LV.int .u8 b] []=cond (decide ((48:Int)≤b)) (some (.ret (LV.bool (decide (b≤(57:Int)))) [])) (some (.ret (LV.bool false) [])):=by kernel_rfl
 rw[this]
 cases decide ((48:Int)≤b)<;>rfl
def HM (b:Int):Bool:=C0 b||(decide ((48:Int)≤b)&&decide (b≤57))||decide (b=95)
theorem Ff {b:Bool}:aT (LV.bool b)=some b:=rfl
theorem p93 {b:Int}:(ev E0).call 93 [LV.int .u8 b] []=some (.ret (LV.bool (HM b)) []):=by
 refine aS ?_
 have : ∀ ρ : Rho, aJ E0 ρ 93 [LV.int .u8 b] [] = callK (ρ.call 90 [LV.int .u8 b] []) (fun v1 μ2 =>
   opt (aT v1) fun b5=>
   cond (b5) (
   some (.ret (LV.bool true) μ2)) (
   callK (ρ.call 132 [LV.int .u8 b] μ2) (fun v6 μ7 =>
   opt (aT v6) fun b10=>
   cond (b10) (
   some (.ret (LV.bool true) μ7)) (
   some (.ret (LV.bool (decide (b=(95:Int)))) μ7))) (fun v9 μ8=>
   aA (below (List.length μ8) v9) (some (.panic v9 μ8))))) (fun v4 μ3=>
   aA (below (List.length μ3) v4) (some (.panic v4 μ3))):=by intro ρ;kernel_rfl
 rw[this,p90,A5,Ff,FY]
 unfold HM
 cases C0 b with
 |true=>rfl
 |false=>
  rw[cond_false,M2,A5,Ff,FY]
  cases (decide ((48:Int)≤b)&&decide (b≤57))<;>rfl
def wG (x:Nat):Bool:=decide (126<x)|| !HM (IntKind.wrap .u8 (x:Int))
theorem p92 (x:Nat):(ev E0).call 92 [LV.int .i32 (x:Int)] []=some (.ret (LV.bool (wG x)) []):=by
 refine aS ?_
 have : ∀ ρ : Rho, aJ E0 ρ 92 [LV.int .i32 (x : Int)] [] = cond (decide ((126 : Int) < (x : Int))) (
   some (.ret (LV.bool true) [])) (
   callK (ρ.call 93 [LV.int .u8 (IntKind.wrap .u8 (x : Int))] []) (fun v1 μ2 =>
   opt (aT v1) fun b5=>
   some (.ret (LV.bool (!b5)) μ2)) (fun v4 μ3=>
   aA (below (List.length μ3) v4) (some (.panic v4 μ3)))):=by intro ρ;kernel_rfl
 have e2:decide ((126:Int)<(x:Int))=decide (126<x):=dIn 126 x
 rw[this,p93,e2]
 unfold wG
 cases decide (126<x)<;>rfl
theorem rh {g:FuncId}{p:Nat→Bool}{q:UInt8→Bool}(hr: ∀x:Nat,(ev E0).call g [LV.int .i32 (x:Int)] []=some (.ret (LV.bool (p x)) []))(hg: ∀args w,(callFunc g args).run Tryz.prog w= .ok (.enter g args) w)
  (h1: ∀b:UInt8,b.toNat<128→p b.toNat=q b) (h2: ∀x,128≤x→p x=true) (h3: ∀b:UInt8,128≤b.toNat→q b=true) {s:List UInt8}:
  cj E.P W0 43 [LV.str s,LV.cv (.clo g [])] μ (.ret (LV.bool (s.any q)) μ):=by
 refine jr (cH Tryz.func43 rfl (by kernel_rfl)) fun G w cargs hs hv k1 k2=> ?_
 have hc:cargs= #[.string ⟨⟨s⟩⟩,.func (.func g) #[] #[]]:=by
  have e0:=hv 0 _ rfl
  have e1:=hv 1 _ rfl
  simp only[LVR,VR]at e0 e1
  obtain⟨vs,e1,e2⟩:=e1
  simp only[VRL]at e2
  have:vs= #[]:=by
   apply Array.ext'
   rw[e2]
  subst this
  simp only[List.length_cons,List.length_nil]at hs
  apply Array.ext
  ·exact hs
  ·intro j hj1 hj2
   have:j=0∨j=1:=by simp at hj2;omega
   rcases this with rfl|rfl
   ·rw[Array.getD_eq_getD_getElem?,Array.getElem?_eq_getElem hj1]at e0
    simpa using e0
   ·rw[Array.getD_eq_getD_getElem?,Array.getElem?_eq_getElem hj1]at e1
    simpa using e1
 rw[hc]
 refine(Tryz.strings_ContainsFunc_grows g #[] hg p ⟨⟨s⟩⟩ w (DQ hr)).mono fun e w' ⟨h4,h5⟩=>⟨_,h4,h5,?_,fun b h=>by simp[aB]at h⟩
 have:=BC h1 h2 h3 s s.length 0 (by omega)
 rw[List.drop_zero]at this
 have e:Lib.idxFunc p true ⟨⟨s⟩⟩=Lib.idxFuncFrom p true ⟨⟨s⟩⟩ s.length 0:=rfl
 rw[e,this]
 rfl
theorem Hm: ∀i:Fin 128,wG i.val= !((decide (97≤i.val)&&decide (i.val≤122))||(decide (65≤i.val)&&decide (i.val≤90))||(decide (48≤i.val)&&decide (i.val≤57))||decide (i.val=95)):=by decide
theorem tW {args:List LV}{out:Out}(h:fL kK args μ=some out):cj E.P W0 43 args μ out:=by
 unfold fL at h
 obtain⟨q,hq,h⟩:=bm h
 obtain⟨r,hr,h⟩:=bm h
 obtain⟨u,hu,h⟩:=bm h
 obtain⟨s,hs,h⟩:=bm h
 have hargs:args=[LV.str s,r.1]:=by rw[dx hq,dx hr,fC hu,fB hs]
 rw[hargs]
 split at h
 ·rename_i g hg
  rw[hg]
  obtain⟨p,hp,h⟩:=bm h
  injection h with h
  subst h
  unfold kK at hp
  split at hp
  ·injection hp with hp;subst hp
   exact rh M1 Tryz.call122 (fun b hb=>rfl) (fun x hx=>by simp;omega) (fun b hb=>by simp;omega)
  ·injection hp with hp;subst hp
   exact rh M0 Tryz.call112 (fun b hb=>rfl) (fun x hx=>by simp;omega) (fun b hb=>by simp;omega)
  ·injection hp with hp;subst hp
   exact rh p44 Tryz.call44 (fun b hb=>rfl) (fun x hx=>by simp;omega) (fun b hb=>by simp;omega)
  ·injection hp with hp;subst hp
   refine rh p92 Tryz.call92 (fun b hb=>Hm ⟨b.toNat,hb⟩) (fun x hx=> ?_) (fun b hb=> ?_)
   ·unfold wG
    have:decide (126<x)=true:=by simp;omega
    rw[this];rfl
   ·simp;omega
  ·cases hp
 ·cases h
end
end Go.Abs
set_option linter.unusedVariables false
set_option linter.unusedSimpArgs false
set_option maxRecDepth 100000
namespace Go.Proofs.YtfcjjankfjaapaaGreatDoor.Glue
open Go Go.Proofs Go.Abs Go.Shelf Go.Lib Go.ChangeShapes Go.WideShapes Go.ChangeAt Go.RowKit
def rb:List (String×DataW Unit):=[("math/bits.deBruijn32tab",Rows.laid_math_bits_deBruijn32tab),("math/bits.deBruijn64tab",Rows.laid_math_bits_deBruijn64tab),("internal/strconv.uint64pow10",Rows.laid_internal_strconv_uint64pow10),("unicode/utf8.acceptRanges",Rows.laid_unicode_utf8_acceptRanges),("strconv.ErrRange",Rows.laid_strconv_ErrRange),("strconv.ErrSyntax",Rows.laid_strconv_ErrSyntax),("unicode.CaseRanges",Rows.laid_unicode_CaseRanges),("unicode/utf8.first",Rows.laid_unicode_utf8_first)]
def I6:Go.Shelf.Ren:=⟨fun|274=>198|n=>n,fun|21=>21|162=>195|160=>212|3=>3|4=>4|46=>154|0=>0|208=>219|51=>196|206=>217|n=>n,fun|13=>3|n=>n⟩
theorem Jj : Go.Proofs.Lays.n274 Tryz.prog I6 := {
 mixed:=by kernel_rfl
 f274:=Tryz.func198.trans (congrArg some (by kernel_rfl))
 t0:=Tryz.underlying0
 a0:=Tryz.isAgg0
 z0:=Tryz.sizeOf0
 v0:=Tryz.zeroValue0
 t3:=Tryz.underlying3
 a3:=Tryz.isAgg3
 z3:=Tryz.sizeOf3
 v3:=Tryz.zeroValue3
 t4:=Tryz.underlying4
 a4:=Tryz.isAgg4
 z4:=Tryz.sizeOf4
 v4:=Tryz.zeroValue4
 t21:=Tryz.underlying21
 a21:=Tryz.isAgg21
 z21:=Tryz.sizeOf21
 v21:=Tryz.zeroValue21
 t46:=Tryz.underlying154
 a46:=Tryz.isAgg154
 z46:=Tryz.sizeOf154
 v46:=Tryz.zeroValue154
 t51:=Tryz.underlying196
 a51:=Tryz.isAgg196
 z51:=Tryz.sizeOf196
 v51:=Tryz.zeroValue196
 t160:=Tryz.underlying212
 a160:=Tryz.isAgg212
 z160:=Tryz.sizeOf212
 v160:=Tryz.zeroValue212
 t162:=Tryz.underlying195
 a162:=Tryz.isAgg195
 z162:=Tryz.sizeOf195
 v162:=Tryz.zeroValue195
 t208:=Tryz.underlying219
 a208:=Tryz.isAgg219
 z208:=Tryz.sizeOf219
 v208:=Tryz.zeroValue219}
def Mh:Go.Shelf.Ren:=⟨fun n=>n,fun|5=>5|119=>199|139=>202|138=>201|n=>n,fun|3=>4|4=>5|n=>n⟩
theorem JU:U8Types Tryz.prog Mh:=⟨Tryz.underlying5,Tryz.underlying199,Tryz.underlying201,Tryz.underlying202⟩
theorem K8: "*" ++ "errors.errorString" = "*errors.errorString" :=by decide
theorem F9 (u:TypeId)(h:Tryz.prog.typeName? 3 u=some "*errors.errorString"):u=188:=
 typeName_ptr_named (nm:= "errors.errorString") (by rw[K8];kernel_rfl) (by kernel_rfl) (by decide) u (by rw[K8];exact h)
theorem xe {W:World}(hL:laidMet Tryz.prog rb W)(hS:W.ShapedOpen Tryz.prog):Base W:=by
 obtain⟨a0,t0,hv0,hc0,ht0,_⟩:=laid_sentinel (g:=1) hL.tail.tail.tail.tail (by kernel_rfl) (by kernel_rfl) Tryz.underlying76 F9 Tryz.underlying188 Tryz.underlying190 rfl rfl Tryz.underlying9 (by kernel_rfl) (by kernel_rfl)
 obtain⟨a1,t1,hv1,hc1,ht1,_⟩:=laid_sentinel (g:=0) hL.tail.tail.tail.tail.tail (by kernel_rfl) (by kernel_rfl) Tryz.underlying76 F9 Tryz.underlying188 Tryz.underlying190 rfl rfl Tryz.underlying9 (by kernel_rfl) (by kernel_rfl)
 have r4:=Lib.laidMet.reads hL (.tail _ (.tail _ (.tail _ (.head _))))
 have r7:=Lib.laidMet.reads hL (.tail _ (.tail _ (.tail _ (.tail _ (.tail _ (.tail _ (.head _)))))))
 have r8:=Lib.laidMet.reads hL (.tail _ (.tail _ (.tail _ (.tail _ (.tail _ (.tail _ (.tail _ (.head _))))))))
 have r7':VarReads Tryz.prog W "unicode.CaseRanges" caseData:=by rw[←Pinned.caseRanges_eq];exact r7
 have r8':VarReads Tryz.prog W "unicode/utf8.first" firstData:=by rw[←Pinned.utf8First_eq];exact r8
 refine⟨?_,?_,?_,?_,⟨_,_,hv1⟩,⟨_,_,hv0⟩⟩
 ·exact cell_of_shapedOpen_int (zero:= #[.int .i64 0]) (t:=3) hS (of_decide_eq_true (by kernel_rfl)) (by kernel_rfl) rfl (by kernel_rfl) (by kernel_rfl) Tryz.underlying3
 ·exact caseVar_of_reads Jj Tryz.underlying217 ⟨by kernel_rfl,by kernel_rfl,by kernel_rfl,by kernel_rfl,by kernel_rfl,by kernel_rfl⟩ r7'
 ·exact utf8Tabs_of_readsT JU ⟨by kernel_rfl,by kernel_rfl,by kernel_rfl,by kernel_rfl,by kernel_rfl,by kernel_rfl,by kernel_rfl⟩ r8' r4
 ·exact Lib.tabIs_of_head (g:=6) (t:=204) (e:=165) (n:=20) (by kernel_rfl) (by kernel_rfl) Tryz.underlying204 Tryz.underlying165 (by kernel_rfl) (by kernel_rfl) hL.tail.tail
end Go.Proofs.YtfcjjankfjaapaaGreatDoor.Glue
set_option linter.unusedVariables false
set_option linter.unusedSimpArgs false
set_option maxRecDepth 1000000
namespace Go.Proofs.YtfcjjankfjaapaaGreatDoor.Glue
open Go Go.Proofs Go.Shelf Go.Lib Go.Great Go.ChangeShapes Go.WideShapes Go.ChangeAt Go.RowKit
def tC {H:Type}:DataW H→List Value
 | .agg l=>l.flatMap fun| .lit (.int k z)=>[Value.int k z]| .agg [.lit (.int k z),.lit (.int k' z')]=>[Value.int k z,Value.int k' z']|_=>[]
 |_=>[]
def Gw (l:List UInt8):Value:= .string ⟨l.toArray⟩
noncomputable def gp (os:Os):World:=
 let N:=(World.settled Tryz.prog os).heap.size
 let w0 := World.holding Tryz.prog os ⟨#[.cells (caseT.flatMap cells5).toArray 219,
  .cells #[Gw [118,97,108,117,101,32,111,117,116,32,111,102,32,114,97,110,103,101]] 190,
  .cells #[Gw [105,110,118,97,108,105,100,32,115,121,110,116,97,120]] 190],#[],[]⟩
 let put (h:Array Obj) (g:Nat) (cs:Array Value):Array Obj:=h.modify g fun
  | .cells _ t frozen=> .cells cs t frozen
  |o=>o
 let h1:=put w0.heap 0 #[.iface 188 (.pointer (some ⟨N+2,0,none⟩))]
 let h2:=put h1 1 #[.iface 188 (.pointer (some ⟨N+1,0,none⟩))]
 let h3:=put h2 3 #[.slice (some ⟨N,0,none⟩) caseT.length caseT.length]
 let h4:=put h3 4 (Lib.firstTab.map fun z=>Value.int .u8 z).toArray
 let h5:=put h4 5 (tC (H:=Unit) Rows.laid_unicode_utf8_acceptRanges).toArray
 let h6:=put h5 6 (tC (H:=Unit) Rows.laid_internal_strconv_uint64pow10).toArray
 let h7:=put h6 7 (tC (H:=Unit) Rows.laid_math_bits_deBruijn32tab).toArray
 let h8:=put h7 8 (tC (H:=Unit) Rows.laid_math_bits_deBruijn64tab).toArray
 {w0 with heap:=h8}
noncomputable abbrev N0:Nat:=(World.settled Tryz.prog default).heap.size
theorem cty:CTypes Tryz.prog 195 219 217 196 21:=⟨by kernel_rfl,by kernel_rfl,by kernel_rfl,by kernel_rfl,by kernel_rfl,by kernel_rfl,by kernel_rfl,by kernel_rfl,by kernel_rfl⟩
theorem K2 (os:Os)(args:Array Value):LaidIn Tryz.prog ((gp os).forCall (fun _ _=>0) ⟨#[],args,[]⟩).memory (rb.take 6) [7,8,6,5,1,N0+1,0,N0+2]:=
 LaidIn.of_run [7,8,6,5,1,N0+1,0,N0+2] 8 (by kernel_rfl) (by kernel_rfl) (by kernel_rfl) (by kernel_rfl)
theorem K3 (os:Os)(args:Array Value):LaidIn Tryz.prog ((gp os).forCall (fun _ _=>0) ⟨#[],args,[]⟩).memory [("unicode.CaseRanges",Rows.laid_unicode_CaseRanges)] [3,N0]:=by
 have e:Rows.laid_unicode_CaseRanges= .slice (caseT.map rowData) []:=Pinned.caseRanges_eq
 rw[e]
 exact laidIn_case cty (g:=3) (B:=N0) (tg:=195) (tb:=219) caseT (by kernel_rfl) (by kernel_rfl) (Nat.le_of_ble_eq_true (by kernel_rfl)) (by kernel_rfl) (by kernel_rfl) (by kernel_rfl) (Nat.ne_of_beq_eq_false (by kernel_rfl))
theorem K4 (os:Os)(args:Array Value):LaidIn Tryz.prog ((gp os).forCall (fun _ _=>0) ⟨#[],args,[]⟩).memory [("unicode/utf8.first",Rows.laid_unicode_utf8_first)] [4]:=
 LaidIn.of_run [4] 8 (by kernel_rfl) (by kernel_rfl) (by kernel_rfl) (by kernel_rfl)
theorem Hf (os:Os)(args:Array Value):laidMet Tryz.prog rb ((gp os).forCall (fun _ _=>0) ⟨#[],args,[]⟩).memory:=
 ((((K2 os args).append (K3 os args) (by kernel_rfl)).append (K4 os args) (by kernel_rfl))).met
theorem own:ownKnob Tryz.prog.godebug=none:=by kernel_rfl
end Go.Proofs.YtfcjjankfjaapaaGreatDoor.Glue
set_option linter.unusedVariables false
set_option linter.unusedSimpArgs false
namespace Go.Abs.Ga
open Go Go.ChangeShapes Go.WideShapes Go.WideElems Go.RowKit Go.ChangeAt Go.Deep
inductive Sh where
 |int (k:IntKind)
 |bool
 |str
 |sl (st:Bool) (l:List Sh)
mutual
def Is:Sh→CV→Prop
 | .int k,c=> ∃n,c= .v (.int k n)∧(Lit.int k n).wf=true
 | .bool,c=> ∃b,c= .v (.bool b)
 | .str,c=> ∃s:List UInt8,c=CV.str s∧s.length≤maxLen
 | .sl st l,c=> ∃xs:List CV,c= .sl xs∧xs.length≤maxLen∧ ∀x∈xs,if st then ∃ys,x= .agg ys∧IsL l ys else IsL l [x]
def IsL:List Sh→List CV→Prop
 |[],ys=>ys=[]
 |s::l,ys=> ∃y r,ys=y::r∧Is s y∧IsL l r
end
theorem A2: ∀{l:List Sh} {ys:List CV},IsL l ys→ys.length=l.length
 |[],ys,h=>by simp only[IsL]at h;rw[h];rfl
 |s::l,ys,h=>by
  simp only[IsL]at h
  obtain⟨y,r,rfl,_,h2⟩:=h
  simp[A2 h2]
theorem A1: ∀{l m:List Sh} {xs ys:List CV},IsL l xs→IsL m ys→IsL (l++m) (xs++ys)
 |[],m,xs,ys,h1,h2=>by simp only[IsL]at h1;rw[h1];exact h2
 |s::l,m,xs,ys,h1,h2=>by
  simp only[IsL]at h1
  obtain⟨y,r,rfl,a,b⟩:=h1
  exact⟨y,r++ys,rfl,a,A1 b h2⟩
theorem wX {s:Sh}{c:CV}(h:Is s c):c.cells.length=1∧ ∀ys,c≠ .agg ys:=by
 cases s with
 |int k=>simp only[Is]at h;obtain⟨n,rfl,_⟩:=h;exact⟨rfl,fun ys e=>by cases e⟩
 |bool=>simp only[Is]at h;obtain⟨n,rfl⟩:=h;exact⟨rfl,fun ys e=>by cases e⟩
 |str=>simp only[Is]at h;obtain⟨n,rfl,_⟩:=h;exact⟨rfl,fun ys e=>by cases e⟩
 |sl st l=>simp only[Is]at h;obtain⟨n,rfl,_⟩:=h;exact⟨rfl,fun ys e=>by cases e⟩
def fieldsOf (P:Program)(f:TypeId→Option (List Sh)):Nat→List Field→Option (List Sh)
 |_,[]=>some []
 |off,x::r=>match f x.type with
  |some l=>if x.offset=off∧P.cellsOf x.type=l.length then(match fieldsOf P f (off+l.length) r with|some m=>some (l++m)|none=>none)else none
  |none=>none
def gY (P:Program):Nat→TypeId→Option (List Sh)
 |0,_=>none
 |n+1,t=>match P.underlying t with
  |some .bool=>some [.bool]
  |some (.int k)=>some [.int k]
  |some .string=>some [.str]
  | some (.slice e) => (match gY P n e with
   |some []=>none
   | some (x :: l) => if P.cellsOf e = (x :: l).length then (match P.underlying e with
    |some (.struct _)=>some [.sl true (x::l)]
    |_=>if l.length=0 then some [.sl false (x::l)]else none)else none
   |none=>none)
  | some (.struct fs) => (match fieldsOf P (gY P n) 0 fs.toList with
   |some l=>if P.cellsOf t=l.length then some l else none
   |none=>none)
  |_=>none
section
variable {H:Type}{enc:TypeId×Value→H}{P:Program}{w:World}{base:Nat}{spare:Nat→Bool}{held:Bool}
theorem VRL_app {G:Gh}: ∀{xs ys:List CV} {cs ds:List Value},VRL G w xs cs→VRL G w ys ds→VRL G w (xs++ys) (cs++ds)
 |[],ys,cs,ds,h1,h2=>by simp only[VRL]at h1;rw[h1];exact h2
 |x::xs,ys,cs,ds,h1,h2=>by
  simp only[VRL]at h1
  obtain⟨v,r,rfl,a,b⟩:=h1
  exact⟨v,r++ds,rfl,a,VRL_app b h2⟩
theorem IR {b:Nat}{off:Nat}{v:Value}(h:w.cell? ⟨b,off,none⟩=some v):off<(Gh.top w).O b:=by
 unfold World.cell? at h
 simp only[Gh.top]
 split at h
 ·rename_i c e fz hb
  rw[hb]
  simp only
  by_cases hl:off<c.size
  ·exact hl
  ·have h':c[off]? =some v:=by simpa using h
   rw[Array.getElem?_eq_none (by omega)]at h'
   cases h'
 ·cases h
theorem CL_of: ∀{xs:List CV} {cs:List Value} {b off:Nat},VRL (Gh.top w) w xs cs→(∀i,i<cs.length→w.cell? ⟨b,off+i,none⟩=cs[i]?)→CL (Gh.top w) w b off xs
 |[],cs,b,off,_,_=>by simp only[CL]
 |x::xs,cs,b,off,h1,h2=>by
  simp only[VRL]at h1
  obtain⟨v,r,rfl,a,c⟩:=h1
  have h0:=h2 0 (by simp)
  simp only[Nat.add_zero,List.getElem?_cons_zero]at h0
  simp only[CL]
  refine⟨⟨v,h0,IR h0,a⟩,CL_of c fun i hi=> ?_⟩
  have:=h2 (i+1) (by simp;omega)
  simpa[Nat.add_assoc,Nat.add_comm 1 i]using this
theorem GX: ∀{n:Nat} {a:Addr} {cs:List Value},w.cells? base a n=some cs→cs.length=n∧ ∀i,i<n→w.cell? (a.add i)=cs[i]? :=by
 intro n a cs h
 obtain⟨_,h1,h2⟩:=World.cells?_some h
 exact⟨h1,h2⟩
theorem IU (a:Addr)(i j:Nat):(a.add i).add j=a.add (i+j):=by
 unfold Addr.add
 by_cases hi:i=0
 ·subst hi
  by_cases hj:j=0
  ·subst hj;simp
  ·simp[hj]
 ·by_cases hj:j=0
  ·subst hj;simp[hi]
  ·have:i+j≠0:=by omega
   simp only[if_neg hi,if_neg hj,if_neg this,Nat.add_assoc]
theorem add_lit (b o i:Nat):(⟨b,o,none⟩:Addr).add i=⟨b,o+i,none⟩:=by
 unfold Addr.add
 split
 ·rename_i h;subst h;rfl
 ·rfl
theorem Gm {a:Addr}{v:Value}(h:w.cell? a=some v):a.spot=none:=by
 unfold World.cell? at h
 split at h
 ·split at h
  ·cases h
  ·rename_i hs
   cases hq:a.spot with
   |none=>rfl
   |some k=>exact absurd (by rw[hq];rfl) hs
 ·cases h
def Ir (enc:TypeId×Value→H)(P:Program)(w:World)(base:Nat)(spare:Nat→Bool)(held:Bool)(f:TypeId→Option (List Sh)):Prop:=
 ∀(fuel:Nat) (t:TypeId) (cs:List Value) (x:DataW H×List MemPlace) (l:List Sh),DataW.trod enc P w base spare held fuel t cs=some x→f t=some l→ ∃xs,IsL l xs∧VRL (Gh.top w) w xs cs
theorem VRL_len {G:Gh}: ∀{xs:List CV} {cs:List Value},VRL G w xs cs→xs.length=cs.length
 |[],cs,h=>by simp only[VRL]at h;rw[h];rfl
 |x::xs,cs,h=>by
  simp only[VRL]at h
  obtain⟨v,r,rfl,_,b⟩:=h
  simp[VRL_len b]
theorem rF {f:TypeId→Option (List Sh)}(hf:Ir enc P w base spare held f){fuel:Nat}: ∀(fs:List Field) (off:Nat) (cs:List Value) (l:List Sh),fieldsOf P f off fs=some l→cs.length=off+l.length→
  (∀x∈fs,∃y,DataW.trod enc P w base spare held fuel x.type ((cs.drop x.offset).take (P.cellsOf x.type))=some y)→ ∃xs,IsL l xs∧VRL (Gh.top w) w xs (cs.drop off)
 |[],off,cs,l,h,hl,_=>by
  simp only[fieldsOf]at h
  injection h with h
  subst h
  refine⟨[],rfl,?_⟩
  rw[List.drop_eq_nil_of_le (by simp at hl;omega)]
  rfl
 |x::r,off,cs,l,h,hl,ha=>by
  simp only[fieldsOf]at h
  split at h
  ·rename_i l1 h1
   split at h
   ·rename_i hc
    split at h
    ·rename_i m h2
     injection h with h
     subst h
     obtain⟨y,hy⟩:=ha x (by simp)
     obtain⟨xs,a1,a2⟩:=hf fuel x.type _ y l1 hy h1
     obtain⟨ys,b1,b2⟩:=rF hf r (off+l1.length) cs m h2 (by rw[hl,List.length_append];omega) fun z hz=>ha z (List.mem_cons_of_mem _ hz)
     refine⟨xs++ys,A1 a1 b1,?_⟩
     rw[hc.1,hc.2]at a2
     have:cs.drop off=(cs.drop off).take l1.length++cs.drop (off+l1.length):=by
      rw[←List.drop_drop,List.take_append_drop]
     rw[this]
     exact VRL_app a2 b2
    ·cases h
   ·cases h
  ·cases h
theorem EL_of {b s:Nat}{st:Bool}{l:List Sh}: ∀(xs:List CV) (off:Nat),(∀x∈xs,if st then ∃ys,x= .agg ys∧IsL l ys else IsL l [x])→
  (∀j x,xs[j]? =some x→ ∃cs,VRL (Gh.top w) w x.cells cs∧cs.length=s∧ ∀i,i<s→w.cell? ⟨b,off+j*s+i,none⟩=cs[i]?)→(st=false→s=1)→EL (Gh.top w) w b s off xs
 |[],off,_,_,_=>by simp only[EL]
 |x::r,off,h,hc,hs=>by
  obtain⟨cs,c1,c2,c3⟩:=hc 0 x rfl
  have hr := EL_of (b := b) (s := s) (st := st) (l := l) r (off + s) (fun y hy => h y (List.mem_cons_of_mem _ hy)) (fun j y hy => by
   obtain⟨ds,d1,d2,d3⟩:=hc (j+1) y (by simpa using hy)
   refine⟨ds,d1,d2,fun i hi=> ?_⟩
   have:=d3 i hi
   rw[Nat.add_mul,Nat.one_mul]at this
   rw[←this]
   congr 2
   omega) hs
  have h0:=h x (by simp)
  simp only[Nat.zero_mul,Nat.add_zero]at c3
  cases st with
  |true=>
   simp only[if_true]at h0
   obtain⟨ys,rfl,_⟩:=h0
   simp only[EL]
   refine⟨CL_of (cs:=cs) c1 (fun i hi=>c3 i (by omega)),hr⟩
  |false=>
   simp only[Bool.false_eq_true,if_false]at h0
   have hp: ∀ys,x≠ .agg ys:=by
    match l,h0 with
    |s::l',h0=>
     simp only[IsL]at h0
     obtain⟨y,r',e,h1,_⟩:=h0
     injection e with e _
     subst e
     exact(wX h1).2
    |[],h0=>simp only[IsL]at h0;cases h0
   have hx:x.cells=[x]:=by cases x<;>first|rfl|exact absurd rfl (hp _)
   rw[hx]at c1
   simp only[VRL]at c1
   obtain⟨v,r',rfl,c1,rfl⟩:=c1
   have h1:=c3 0 (by rw[hs rfl];omega)
   simp only[Nat.add_zero,List.getElem?_cons_zero]at h1
   cases x<;>first|exact absurd rfl (hp _)|(simp only[EL];exact⟨⟨v,h1,IR h1,c1⟩,hr⟩)
theorem DM: ∀n,Ir enc P w base spare held (gY P n):=by
 intro n
 induction n with
 |zero=>intro fuel t cs x l _ h;simp[gY]at h
 |succ n ih=>
  intro fuel t cs x l ht h
  unfold gY at h
  split at h
  ·rename_i hu
   injection h with h;subst h
   obtain⟨b,rfl,_⟩:=DataW.trod_bool hu ht
   exact⟨[.v (.bool b)],⟨_,_,rfl,⟨b,rfl⟩,rfl⟩,⟨_,_,rfl,rfl,rfl⟩⟩
  ·rename_i k hu
   injection h with h;subst h
   obtain⟨m,rfl,_,hw⟩:=DataW.trod_int hu ht
   exact⟨[.v (.int k m)],⟨_,_,rfl,⟨m,rfl,hw⟩,rfl⟩,⟨_,_,rfl,rfl,rfl⟩⟩
  ·rename_i hu
   injection h with h;subst h
   obtain⟨s,rfl,_,hs⟩:=DataW.trod_string hu ht
   refine⟨[CV.str s.data.toList],⟨_,_,rfl,⟨s.data.toList,rfl,hs⟩,rfl⟩,⟨_,_,rfl,?_,rfl⟩⟩
   cases s
   rfl
  ·rename_i e hu
   have key: ∀(st:Bool) (sh:List Sh),l=[.sl st sh]→gY P n e=some sh→P.cellsOf e=sh.length→sh≠[]→(st=false→sh.length=1)→(st=true→ ∃fs,P.underlying e=some (.struct fs))→ ∃xs,IsL l xs∧VRL (Gh.top w) w xs cs:=by
    intro st sh hl h1 h2 h3 h4 _
    subst hl
    rcases open_slice hu ht with⟨rfl,_⟩|⟨a,len,cap,m,k,D,Pl,rfl,hb,hle,hm,hmm,_,hx⟩
    ·exact⟨[.sl []],⟨_,_,rfl,⟨[],rfl,by simp,fun x hx=>absurd hx (by simp)⟩,rfl⟩,⟨_,_,rfl,⟨none,0,0,rfl,rfl,Nat.le_refl _,Or.inl rfl⟩,rfl⟩⟩
    ·have hlm:len≤m:=by rw[hmm];split<;>omega
     have hone: ∀i,i<len→ ∃x:CV,(if st then ∃ys,x= .agg ys∧IsL sh ys else IsL sh [x])∧ ∃ds,VRL (Gh.top w) w x.cells ds∧ds.length=sh.length∧ ∀j,j<sh.length→w.cell? (a.add (i*sh.length+j))=ds[j]? :=by
      intro i hi
      obtain⟨cs',c1,c2⟩:=hx i (by omega)
      obtain⟨xs,x1,x2⟩:=ih k e cs' _ sh c2 h1
      obtain⟨d1,d2⟩:=GX c1
      rw[h2]at d1 d2
      have d2': ∀j,j<sh.length→w.cell? (a.add (i*sh.length+j))=cs'[j]? :=fun j hj=>by
       rw[←d2 j hj,IU]
      cases st with
      |true=>exact⟨.agg xs,⟨xs,rfl,x1⟩,cs',x2,d1,d2'⟩
      |false=>
       have hl1:=A2 x1
       rw[h4 rfl]at hl1
       obtain⟨y,rfl⟩:=List.length_eq_one_iff.1 hl1
       refine⟨y,x1,cs',?_,d1,d2'⟩
       have hp: ∀ys,y≠ .agg ys:=by
        match sh,x1 with
        |s::l',x1=>
         simp only[IsL]at x1
         obtain⟨y',r',e',z1,_⟩:=x1
         injection e' with e' _
         subst e'
         exact(wX z1).2
        |[],x1=>simp only[IsL]at x1;cases x1
       have hy:y.cells=[y]:=by cases y<;>first|rfl|exact absurd rfl (hp _)
       rw[hy]
       exact x2
     obtain⟨X,hX⟩:=choose_lt hone
     have hget: ∀j x,((List.range len).map X)[j]? =some x→j<len∧x=X j:=by
      intro j x hj
      rw[List.getElem?_map]at hj
      cases hq:(List.range len)[j]? with
      |none=>rw[hq]at hj;cases hj
      |some z=>
       rw[hq]at hj
       obtain⟨h5,h6⟩:=List.getElem?_eq_some_iff.1 hq
       simp at h5 h6 hj
       subst h6
       exact⟨h5,hj.symm⟩
     refine⟨[.sl ((List.range len).map X)],⟨_,_,rfl,⟨_,rfl,by simp;omega,fun x hxm=> ?_⟩,rfl⟩,⟨_,_,rfl,⟨some a,len,cap,rfl,by simp,hle,?_⟩,rfl⟩⟩
     ·obtain⟨j,hj⟩:=List.getElem?_of_mem hxm
      obtain⟨h5,rfl⟩:=hget j x hj
      exact(hX j h5).1
     ·by_cases h0:len=0
      ·exact Or.inl h0
      ·right
       have hpos:0<sh.length:=List.length_pos_iff.2 h3
       have hsp:a.spot=none:=by
        obtain⟨_,ds,e1,e2,e3⟩:=hX 0 (by omega)
        have:=e3 0 hpos
        rw[List.getElem?_eq_getElem (by omega)]at this
        exact Gm (by simpa[Addr.add]using this)
       have ha:a=⟨a.block,a.off,none⟩:=by cases a;simp at hsp;simp[hsp]
       refine⟨a.block,a.off,sh.length,by rw[←ha],fun x hxm=> ?_,?_⟩
       ·obtain⟨j,hj⟩:=List.getElem?_of_mem hxm
        obtain⟨h5,rfl⟩:=hget j x hj
        obtain⟨_,ds,e1,e2,_⟩:=hX j h5
        rw[VRL_len e1,e2]
       ·refine EL_of (st:=st) (l:=sh) _ _ (fun x hxm=> ?_) (fun j x hj=> ?_) (fun e=>h4 e)
        ·obtain⟨j,hj⟩:=List.getElem?_of_mem hxm
         obtain⟨h5,rfl⟩:=hget j x hj
         exact(hX j h5).1
        ·obtain⟨h5,rfl⟩:=hget j x hj
         obtain⟨_,ds,e1,e2,e3⟩:=hX j h5
         refine⟨ds,e1,e2,fun i hi=> ?_⟩
         rw[←e3 i hi,ha,add_lit,Nat.add_assoc]
   split at h
   ·cases h
   ·rename_i y l' h1
    split at h
    ·rename_i h2
     split at h
     ·rename_i fs h3
      injection h with h
      exact key true _ h.symm h1 h2 (by simp) (fun e=>by cases e) (fun _=>⟨fs,h3⟩)
     ·split at h
      ·rename_i h4
       injection h with h
       exact key false _ h.symm h1 h2 (by simp) (fun _=>by simp only[List.length_cons];omega) (fun e=>by cases e)
      ·cases h
    ·cases h
   ·cases h
  ·rename_i fs hu
   split at h
   ·rename_i l' h1
    split at h
    ·rename_i h2
     injection h with h
     subst h
     obtain⟨xs,m,_,_,h3,h4,h5⟩:=DataW.trod_struct hu ht
     have:=rF ih (fuel:=m) fs.toList 0 cs l' h1 (by rw[h3,h2,Nat.zero_add]) fun f hf=>by
      obtain⟨i,hi⟩:=List.getElem?_of_mem hf
      have hi':fs[i]? =some f:=by rw[←Array.getElem?_toList];exact hi
      have hlt:i<xs.length:=by
       rw[h4]
       exact(Array.getElem?_eq_some_iff.1 hi').1
      refine⟨xs[i],?_⟩
      rw[h5 i f hi',List.getElem?_eq_getElem hlt]
     rw[List.drop_zero]at this
     exact this
    ·cases h
   ·cases h
  ·cases h
def jP (P:Program)(t:TypeId):Bool:=match P.underlying t with|some (.struct _)=>true|_=>false
theorem open_arg {n:Nat}{t:TypeId}{v:Value}{l:List Sh}{d:DataW H}{ps:List MemPlace}{r:Reach}{b0:Nat}(hl:gY P n t=some l)(hval:Value.okWide P w r b0 t v)(hd:DataW.Trod enc P w base spare held t v d ps):
  ∃c,VR (Gh.top w) w c v∧(if jP P t=true then ∃ys,c= .agg ys∧IsL l ys else IsL l [c]):=by
 obtain⟨fuel,hf⟩:=hd
 obtain⟨xs,h1,h2⟩:=DM n fuel t _ _ l hf hl
 by_cases hs:jP P t=true
 ·simp only[hs,if_true]
  obtain⟨fs,hfs⟩: ∃fs,P.underlying t=some (.struct fs):=by
   unfold jP at hs
   split at hs
   ·rename_i fs h;exact⟨fs,h⟩
   ·cases hs
  obtain⟨cs,rfl,_⟩:=okWide_struct hfs hval
  exact⟨.agg xs,⟨cs,rfl,h2⟩,xs,rfl,h1⟩
 ·simp only[hs,if_false,Bool.false_eq_true]
  have hv:v.cells.toList=[v]:=by
   cases n with
   |zero=>simp[gY]at hl
   |succ n=>
    unfold gY at hl
    split at hl
    ·rename_i hu
     obtain⟨_,rfl⟩:=okWide_bool hu hval
     rfl
    ·rename_i k hu
     obtain⟨_,rfl⟩:=okWide_int hu hval
     rfl
    ·rename_i hu
     obtain⟨_,rfl⟩:=okWide_string hu hval
     rfl
    ·rename_i e hu
     obtain⟨_,_,_,rfl⟩:=okWide_slice hu hval
     rfl
    ·rename_i fs hu
     exact absurd (by unfold jP;rw[hu]) hs
    ·cases hl
  rw[hv]at h2
  have hlen:=VRL_len h2
  obtain⟨c,rfl⟩:=List.length_eq_one_iff.1 hlen
  simp only[VRL]at h2
  obtain⟨v',r',e,h3,_⟩:=h2
  injection e with e _
  subst e
  exact⟨c,h3,h1⟩
theorem Gb {W W':World}(h:uG W W'){p:MemPlace}(hp:p.block<W.heap.size):W.sameAt W' p:=by
 cases p with
 |cell b o=>exact World.cell?_of_block (w:=W) (h.2.2.2 b hp)
 |map b=>exact h.2.2.2 b hp
def ud (P:Program)(ts:List TypeId):Bool:=ts.all fun t=>P.readableRec t&&decide (t<P.types.size)
theorem vp (hl:laidOutB P=true){W W':World}(hk:uG W W'){sp:Nat→Bool}: ∀{ts:List TypeId} {vs:List Value} {ds:List (DataW H)} {ps:List MemPlace},ud P ts=true→
  DataW.TrodAll enc P W 0 (fun _=>true) true ts vs ds ps→(∀p∈ps,p.block<W.heap.size)→(∀p∈ps,sp p.block=true)→DataW.TrodAll enc P W' 0 sp true ts vs ds ps
 |[],[],[],ps,_,h,_,_=>h
 |t::ts,v::vs,d::ds,ps,hr,h,hlt,hsp=>by
  simp only[DataW.TrodAll]at h ⊢
  obtain⟨p,q,⟨fuel,h1⟩,h2,rfl⟩:=h
  simp only[ud,List.all_cons,Bool.and_eq_true,decide_eq_true_eq]at hr
  refine⟨p,q,⟨fuel,DataW.trod_stays (kids_book hl hr.1.1) (book_sized hr.1.1) (fun h=>by cases h) ⟨hr.1.2,book_self t⟩ h1 (fun x hx=>Gb hk (hlt x (List.mem_append_left _ hx))) (fun x hx=>hsp x (List.mem_append_left _ hx))⟩,?_,rfl⟩
  exact vp hl hk (by simpa[ud]using hr.2) h2 (fun x hx=>hlt x (List.mem_append_right _ hx)) (fun x hx=>hsp x (List.mem_append_right _ hx))
 |[],_::_,_,_,_,h,_,_=>h.elim
 |[],[],_::_,_,_,h,_,_=>h.elim
 |_::_,[],_,_,_,h,_,_=>h.elim
 |_::_,_::_,[],_,_,h,_,_=>h.elim
end
theorem post_true {H:Type}{enc:TypeId×Value→H}{P:Program}{f:Func}{s:ChangeSpec}{tb:TypeId}(hl:laidOutB P=true)(hr:ud P f.params.toList=true)(hb:P.underlying tb=some .bool)(hf:f.resultTypes= #[tb])
  (hvs:s.vars=[]) {W W':World} {args:Array Value} {ds gs:List (DataW H)} {before:List MemPlace}
  (hW:DataW.Whole enc P f.params.toList s.vars false W args.toList ds gs before) (hs1:(s.fn H ds).results=[.lit (.bool true)]) (hs2:(s.fn H ds).args=ds) (hs3:(s.fn H ds).vars=[]) (hk:uG W W'):
  s.post enc P f false true false false W args (.bool true) W':=by
 have hW':=hW
 obtain⟨p,q,hA,hV,rfl,_,_⟩:=hW
 have hlt:=fun x hx=>hW'.lt x hx
 rw[hvs]at hV
 obtain⟨rfl,rfl⟩:=trodVars_none hV
 simp only[List.append_nil]at hW' hlt
 refine F3 (pa:=p) (pv:=[]) hW' ?_ ?_ ?_ (by simp) hk ?_
 ·intro b sp hd
  simp only[List.append_nil,hs1,hf]
  exact trodAll_cons_mk (shut_bool hb _) trodAll_mk0
 ·intro sp hsp
  simp only[List.append_nil,hs2]
  exact vp hl hk hr hA hlt hsp
 ·intro sp hsp
  simp only[List.append_nil,hs3,hvs]
  rfl
 ·exact ok_one hf rfl (okWide_bool_mk hb _)
end Go.Abs.Ga
set_option linter.unusedVariables false
set_option linter.unusedSimpArgs false
set_option maxRecDepth 100000
namespace Go.Abs
open Go Go.Proofs
section
variable {α β:Type}
theorem ac {a:α}{k:α→Option β}:opt (some a) k=k a:=rfl
theorem aE {k:Option β}:aA true k=k:=rfl
theorem am {k:IntKind}{n:Int}:aH k (LV.int k n)=some n:=by simp[aH]
theorem ae {s:List UInt8}:aN (LV.str s)=some s:=rfl
theorem af {b:Bool}:aT (LV.bool b)=some b:=rfl
theorem aq {l:List LV}:aQ (.ltup l)=some l:=rfl
theorem aj {α:Type}{a:α}{r:List α}:aw (a::r)=some (a,r):=rfl
theorem ax {l:List CV}:bM (.cv (.sl l))=some l:=rfl
theorem av {l:List CV}:bM (.osl l)=some l:=rfl
theorem ao {l:List CV}:eI (.osl l)=some l:=rfl
theorem ah {α:Type}:aK ([]:List α)=some ():=rfl
theorem ad {v:LV}{μ:Mu}{k:LV→Mu→Option β}{p:CV→Mu→Option β}:callK (some (.ret v μ)) k p=k v μ:=rfl
theorem dJ {v:CV}{μ:Mu}{k:LV→Mu→Option β}{p:CV→Mu→Option β}:callK (some (.panic v μ)) k p=p v μ:=rfl
theorem d5 {x:Int}(h0: -9223372036854775808≤x)(h1:x<9223372036854775808):IntKind.wrap .i64 x=x:=by
 have e1:(2^IntKind.i64.bits:Int)=18446744073709551616:=by decide
 have e2:(2^(IntKind.i64.bits-1):Int)=9223372036854775808:=by decide
 have e3:IntKind.i64.signed=true:=rfl
 unfold IntKind.wrap
 simp only[e1,e2,e3,Bool.true_and,decide_eq_true_eq]
 split<;>omega
theorem mA {l:List UInt8}{i:Nat}:gZ l (i:Int)=l[i]? :=by
 simp[gZ]
theorem lZ {l:List CV}{i:Nat}:dT l (i:Int)=l[i]? :=by
 simp[dT]
theorem eP {a:LV}{r:List LV}:bA E.P 9 (.cells (a::r)) 0=some (strip a):=by kernel_rfl
theorem sO {a b:LV}{r:List LV}:bA E.P 4 (.cells (a::b::r)) 1=some (strip b):=by kernel_rfl
theorem cR {s:List UInt8}:strip (LV.str s)=LV.str s:=rfl
theorem oQ {s:Bool}:strip (LV.bool s)=LV.bool s:=rfl
theorem cN: ∀(l:List UInt8),bg (bb l)=some l
 |[]=>rfl
 |b::r=>by
  have ih:=cN r
  have e:bb (b::r)=CV.int .u8 (b.toNat:Int)::bb r:=rfl
  rw[e]
  simp only[bg]
  rw[ih]
  have h:=b.toNat_lt
  have h2:(decide ((0:Int)≤(b.toNat:Int))&&decide ((b.toNat:Int)<256))=true:=by simp;omega
  rw[h2]
  simp[opt]
theorem mG (a b:List UInt8):bb (a++b)=bb a++bb b:=by simp[bb]
theorem j9 (a:List UInt8):(bb a).length=a.length:=by simp[bb]
theorem ip: ∀(l:List UInt8),e7 1 (bb l)=true
 |[]=>rfl
 |b::r=>by
  have e:bb (b::r)=CV.int .u8 (b.toNat:Int)::bb r:=rfl
  rw[e]
  simp only[e7]
  have:gk 1 (CV.int .u8 (b.toNat:Int))=true:=rfl
  rw[this]
  exact ip r
theorem rq {a b:List UInt8}(h:a.length+b.length≤1099511627776):gI 1 (bb a) (bb b)=true:=by
 unfold gI
 rw[ip,ip,j9,j9]
 simp[bK,h]
def fi (l:List (List UInt8)):List CV:=l.map CV.str
theorem Fh {s:List UInt8}:aN (LV.cv (CV.str s))=some s:=rfl
theorem cJ {n:Nat}(h:n≤1099511627776):bK n=true:=by simp[bK,h]
theorem dg {f:FuncId}{g:e9}{args:List LV}{μ:Mu}{out:Out}(h:E.prim f=some g)(hg:g args μ=some out):(ev E).call f args μ=some out:=by
 refine aS ?_
 unfold aJ
 rw[h]
 exact hg
theorem CY {s:List UInt8}{μ:Mu}(h:s.length≤1000000):(ev E).call 91 [LV.str s] μ=some (.ret (LV.str (Lib.toUpperD s)) μ):=by
 refine dg (g:=oH) (by kernel_rfl) ?_
 have:c6 s=true:=by simp[c6,h]
 simp only[oH,ri,aj,ac,ah,ae,this,aE]
theorem IF {s:List UInt8}{μ:Mu}{c:UInt8}(hc:c.toNat<128):(ev E).call 62 [LV.str s,LV.str [c]] μ=some (.ret (LV.str (Lib.trimLeftB s c)) μ):=by
 refine dg (g:=mv) (by kernel_rfl) ?_
 have:decide (c.toNat<128)=true:=by simp[hc]
 simp only[mv,e8,aj,ac,ah,ae,u1,this,aE]
theorem IG {s:List UInt8}{μ:Mu}{c:UInt8}(hc:c.toNat<128)(h:s.length≤1000000):(ev E).call 63 [LV.str s,LV.str [c]] μ=some (.ret (LV.str (Lib.trimRightB s c)) μ):=by
 refine dg (g:=lk) (by kernel_rfl) ?_
 have:(decide (c.toNat<128)&&c6 s)=true:=by simp[hc,c6,h]
 simp only[lk,e8,aj,ac,ah,ae,u1,this,aE]
theorem wC {s:List UInt8}{μ:Mu}(h:s.length≤1000000):(ev E).call 45 [LV.str s] μ=some (.ret (ti 146 s) μ):=by
 refine dg (g:=wJ 146) (by kernel_rfl) ?_
 have:c6 s=true:=by simp[c6,h]
 simp only[wJ,ri,aj,ac,ah,ae,this,aE]
theorem IH {n:Int}{μ:Mu}(h0: -9223372036854775808≤n)(h1:n≤9223372036854775807):(ev E).call 66 [LV.int .i64 n] μ=some (.ret (LV.str (Lib.itoa n)) μ):=by
 refine dg (g:=tZ) (by kernel_rfl) ?_
 have:(decide (-9223372036854775808≤n)&&decide (n≤9223372036854775807))=true:=by simp[h0,h1]
 simp only[tZ,aj,ac,ah,am,this,aE]
theorem Kx {s p:List UInt8}{μ:Mu}:(ev E).call 194 [LV.str s,LV.str p] μ=some (.ret (LV.str (Lib.trimPrefix s p)) μ):=by
 refine dg (g:=kg) (by kernel_rfl) ?_
 simp only[kg,e8,aj,ac,ah,ae]
theorem Ky {s p:List UInt8}{μ:Mu}:(ev E).call 195 [LV.str s,LV.str p] μ=some (.ret (LV.bool (Lib.hasPrefix s p)) μ):=by
 refine dg (g:=lj) (by kernel_rfl) ?_
 simp only[lj,e8,aj,ac,ah,ae]
theorem Fq {s p:List UInt8}{μ:Mu}(h:s.length≤1000000):(ev E).call 145 [LV.str s,LV.str p] μ=some (.ret (LV.int .i64 (Lib.index s p)) μ):=by
 refine dg (g:=tY) (by kernel_rfl) ?_
 have:c6 s=true:=by simp[c6,h]
 simp only[tY,e8,aj,ac,ah,ae,this,aE]
theorem Kl {s p:List UInt8}{μ:Mu}(h:s.length≤1000000):(ev E).call 115 [LV.str s,LV.str p] μ=some (.ret (LV.bool (Lib.contains s p)) μ):=by
 refine dg (g:=mt) (by kernel_rfl) ?_
 have:c6 s=true:=by simp[c6,h]
 simp only[mt,e8,aj,ac,ah,ae,this,aE]
theorem LD {s old new:List UInt8}{μ:Mu}(h:s.length≤1000000)(h2:new.length≤1000000)(h1:1≤old.length):(ev E).call 84 [LV.str s,LV.str old,LV.str new] μ=some (.ret (LV.str (Lib.replaceAll s old new)) μ):=by
 refine dg (g:=kf) (by kernel_rfl) ?_
 have:(c6 s&&c6 new&&decide (1≤old.length))=true:=by simp[c6,h,h1,h2]
 simp only[kf,wK,aj,ac,ah,ae,this,aE]
end
end Go.Abs
set_option linter.unusedVariables false
set_option maxRecDepth 1000000
namespace Go.Abs
open Go Go.Proofs
noncomputable section
variable (ρ:Rho)
def Iv (x0:List UInt8):SegD:=⟨H7,[(2,0)],cA 7 [1,1],mS [(0,LV.str x0)] []⟩
def J0 (x0:List UInt8)(μ:Mu):=(Iv x0).seg ρ μ
def qX (x2:Bool)(μ:Mu):St:= .ret (mS [(2,LV.bool x2)] []) μ
def Iw (x0:List UInt8):SegD:=⟨H7,[(2,0)],cA 7 [1,1,1],mS [(0,LV.str x0)] []⟩
def J1 (x0:List UInt8)(μ:Mu):=(Iw x0).seg ρ μ
def qY (x2:Bool)(μ:Mu):St:= .ret (mS [(2,LV.bool x2)] []) μ
def Ix (x3:List CV)(x4:Int):SegD:=⟨H7,[(2,0)],cA 7 [1,1,1,1,1],mS [(3,LV.cv (CV.sl x3)),(4,LV.int .i64 x4)] []⟩
def J2 (x3:List CV)(x4:Int)(μ:Mu):=(Ix x3 x4).seg ρ μ
def qZ (x2:Bool)(μ:Mu):St:= .ret (mS [(2,LV.bool x2)] []) μ
def ES (x3:List CV):SegD:=⟨H7,[(2,0)],cA 7 [1,1,1,1,1,1],mS [(3,LV.cv (CV.sl x3))] []⟩
def Im (x3:List CV)(μ:Mu):=(ES x3).seg ρ μ
def nZ (x2:Bool)(μ:Mu):St:= .ret (mS [(2,LV.bool x2)] []) μ
def ET (x3:List CV):SegD:=⟨H7,[(2,0)],cA 7 [1,1,1,1,1,1,1],mS [(3,LV.cv (CV.sl x3))] []⟩
def In (x3:List CV)(μ:Mu):=(ET x3).seg ρ μ
def E5 (x3:List CV)(x6:List UInt8)(x7:Int):SegD:=⟨H7,[(3,2),(6,0)],cA 7 [1,1,1,1,1,1,1,1,0,1,0,0],mS [(3,LV.cv (CV.sl x3)),(6,LV.str x6),(7,LV.int .i64 x7)] []⟩
def Ci (x3:List CV)(x6:List UInt8)(x7:Int)(μ:Mu):=(E5 x3 x6 x7).loop ρ μ
def GO (x2:Bool)(μ:Mu):St:= .ret (mS [(2,LV.bool x2)] []) μ
def EU (x3:List CV)(x6:List UInt8)(x7:Int):SegD:=⟨H7,[(3,2),(6,0),(7,0)],cA 7 [1,1,1,1,1,1,1,1,0,1,0,0,1,0,0,1],mS [(3,LV.cv (CV.sl x3)),(6,LV.str x6),(7,LV.int .i64 x7)] []⟩
def Io (x3:List CV)(x6:List UInt8)(x7:Int)(μ:Mu):=(EU x3 x6 x7).seg ρ μ
def se (x3:List CV)(x6:List UInt8)(x7:Int)(μ:Mu):St:= .norm (mS [(3,LV.cv (CV.sl x3)),(6,LV.str x6),(7,LV.int .i64 x7)] []) μ
def GP (pv:CV)(μ:Mu):St:= .panic pv (mS [] []) μ
def su (x3:List CV)(x6:List UInt8)(μ:Mu):St:= .exit 0 (mS [(3,LV.cv (CV.sl x3)),(6,LV.str x6)] []) μ
def fy (x2:Bool)(μ:Mu):St:= .ret (mS [(2,LV.bool x2)] []) μ
def jH (pv:CV)(μ:Mu):St:= .panic pv (mS [] []) μ
def EV (x3:List CV)(x6:List UInt8):SegD:=⟨H7,[(2,0)],cA 7 [1,1,1,1,1,1,1,1,1,1,1,1,1],mS [(3,LV.cv (CV.sl x3)),(6,LV.str x6)] []⟩
def Ip (x3:List CV)(x6:List UInt8)(μ:Mu):=(EV x3 x6).seg ρ μ
def n0 (x2:Bool)(μ:Mu):St:= .ret (mS [(2,LV.bool x2)] []) μ
def EW (x3:List CV)(x6:List UInt8):SegD:=⟨H7,[(2,0)],cA 7 [1,1,1,1,1,1,1,1,1,1,1,1,1,1],mS [(3,LV.cv (CV.sl x3)),(6,LV.str x6)] []⟩
def Iq (x3:List CV)(x6:List UInt8)(μ:Mu):=(EW x3 x6).seg ρ μ
def n8 (x2:Bool)(μ:Mu):St:= .ret (mS [(2,LV.bool x2)] []) μ
def xa (pv:CV)(μ:Mu):St:= .panic pv (mS [] []) μ
def GM (pv:CV)(μ:Mu):St:= .panic pv (mS [] []) μ
def IT (pv:CV)(μ:Mu):St:= .panic pv (mS [] []) μ
theorem JF (x3 x6 x7 μ):(EU x3 x6 x7).sK ρ μ=
 opt (dT x3 x7) fun c32=>
 dC (LV.cv c32) fun n33 n34 s35=>
 aA (bK (List.length x6 + List.length s35)) (
 aA (bK (List.length (x6 ++ s35) + List.length ([32] : List UInt8))) (
 some (se x3 ((x6++s35)++([32]:List UInt8)) x7 μ))):=by kernel_rfl
theorem Dv (x3 x6 x7 μ):kR ρ H7 [.block 1,.seq (cA 7 [1,1,1,1,1,1,1,1,0,1,0,0,1,1])] [(3,2),(6,0)] (cA 7 [1,1,1,1,1,1,1,1,0,1,0,0]) (se x3 x6 x7 μ)=
 Ci ρ x3 x6 (IntKind.wrap .i64 (x7+(1:Int))) μ:=by kernel_rfl
theorem BR (x3 x6 x7 μ):(E5 x3 x6 x7).rK ρ μ=
 cond (decide (x7 < (List.length x3 : Int))) (
 opt (dT x3 x7) fun c23=>
 dC (LV.cv c23) fun n24 n25 s26=>
 callK (ρ.call 14 [LV.cv (CV.agg [CV.int .i64 n24, CV.int .i64 n25, CV.str s26])] μ) (fun v27 μ28 =>
 opt (aH .i64 v27) fun n31=>
 cond (!decide (n31 = (0 : Int))) (
 some (GO false μ28)) (
 opt (Io ρ x3 x6 x7 μ28) (kR ρ H7 [.block 1,.seq (cA 7 [1,1,1,1,1,1,1,1,0,1,0,0,1,1])] [(3,2),(6,0)] (cA 7 [1,1,1,1,1,1,1,1,0,1,0,0])))) (pX GP)) (
 some (su x3 x6 μ)):=by kernel_rfl
theorem JH (x3 x6 μ):(EW x3 x6).sK ρ μ=
 callK (ρ.call 17 [LV.str x6] μ) (fun v84 μ85 =>
 opt (aQ v84) fun xs88=>
 opt (aw xs88) fun q89=>
 opt (bM q89.1) fun l90=>
 opt (aw q89.2) fun q91=>
 opt (aH .i64 q91.1) fun n92=>
 opt (aw q91.2) fun q93=>
 opt (aH .i64 q93.1) fun n94=>
 opt (aK q93.2) fun u95=>
 cond (decide (n94 = (0 : Int))) (
 callK (ρ.call 19 [LV.cv (CV.sl l90), LV.cv (CV.sl x3)] μ85) (fun v96 μ97 =>
 opt (aT v96) fun b100=>
 some (n8 b100 μ97)) (pX xa)) (
 some (n8 false μ85))) (pX xa):=by kernel_rfl
theorem Dx (x2 μ):kS ρ H7 [] [(2,0)] (n8 x2 μ)=
 some (n0 x2 μ):=by kernel_rfl
theorem JG (x3 x6 μ):(EV x3 x6).sK ρ μ=
 cond (decide ((1320 : Int) < (List.length x6 : Int))) (
 some (n0 true μ)) (
 opt (Iq ρ x3 x6 μ) (kS ρ H7 [] [(2,0)])):=by kernel_rfl
theorem Dw (x2 μ):kS ρ H7 [] [(2,0)] (n0 x2 μ)=
 some (fy x2 μ):=by kernel_rfl
theorem DF (x3 x6 μ):kS ρ H7 [.block 0,.seq (cA 7 [1,1,1,1,1,1,1,1,1])] [(2,0)] (su x3 x6 μ)=
 callK (ρ.call 30 [LV.cv (CV.sl x3)] μ) (fun v37 μ38 =>
 opt (bM v37) fun l41=>
 callK (ρ.call 29 [LV.cv (CV.sl l41)] μ38) (fun v42 μ43 =>
 opt (aQ v42) fun xs46=>
 opt (aw xs46) fun q47=>
 opt (aN q47.1) fun s48=>
 opt (aw q47.2) fun q49=>
 opt (aH .i64 q49.1) fun n50=>
 opt (aK q49.2) fun u51=>
 callK (ρ.call 17 [LV.str s48] μ43) (fun v52 μ53 =>
 opt (aQ v52) fun xs56=>
 opt (aw xs56) fun q57=>
 opt (bM q57.1) fun l58=>
 opt (aw q57.2) fun q59=>
 opt (aH .i64 q59.1) fun n60=>
 opt (aw q59.2) fun q61=>
 opt (aH .i64 q61.1) fun n62=>
 opt (aK q61.2) fun u63=>
 callK (ρ.call 30 [LV.cv (CV.sl l58)] μ53) (fun v64 μ65 =>
 opt (bM v64) fun l68=>
 callK (ρ.call 29 [LV.cv (CV.sl l68)] μ65) (fun v69 μ70 =>
 opt (aQ v69) fun xs73=>
 opt (aw xs73) fun q74=>
 opt (aN q74.1) fun s75=>
 opt (aw q74.2) fun q76=>
 opt (aH .i64 q76.1) fun n77=>
 opt (aK q76.2) fun u78=>
 cond (!decide (n50 = (0 : Int))) (
 some (fy false μ70)) (
 cond (!decide (n62 = (0 : Int))) (
 some (fy false μ70)) (
 cond (!decide (n77 = (0 : Int))) (
 some (fy false μ70)) (
 callK (ρ.call 19 [LV.cv (CV.sl l58), LV.cv (CV.sl x3)] μ70) (fun v79 μ80 =>
 opt (aT v79) fun b83=>
 cond (!b83) (
 some (fy false μ80)) (
 cond (!decide (s48 = s75)) (
 some (fy false μ80)) (
 cond (decide ((List.length x6 : Int) < (List.length s48 : Int))) (
 some (fy false μ80)) (
 opt (Ip ρ x3 x6 μ80) (kS ρ H7 [] [(2,0)]))))) (pX jH))))) (pX jH)) (pX jH)) (pX jH)) (pX jH)) (pX jH):=by kernel_rfl
theorem JE (x3 μ):(ET x3).sK ρ μ=
 opt (Ci ρ x3 ([]:List UInt8) (0:Int) μ) (kS ρ H7 [.block 0,.seq (cA 7 [1,1,1,1,1,1,1,1,1])] [(2,0)]):=by kernel_rfl
theorem Du (x2 μ):kS ρ H7 [] [(2,0)] (fy x2 μ)=
 some (nZ x2 μ):=by kernel_rfl
theorem JD (x3 μ):(ES x3).sK ρ μ=
 callK (ρ.call 20 [LV.cv (CV.sl x3)] μ) (fun v18 μ19 =>
 opt (aT v18) fun b22=>
 cond (!b22) (
 some (nZ true μ19)) (
 opt (In ρ x3 μ19) (kS ρ H7 [] [(2,0)]))) (pX GM):=by kernel_rfl
theorem Dt (x2 μ):kS ρ H7 [] [(2,0)] (nZ x2 μ)=
 some (qZ x2 μ):=by kernel_rfl
theorem KS (x3 x4 μ):(Ix x3 x4).sK ρ μ=
 cond (!decide (x4 = (List.length x3 : Int))) (
 some (qZ false μ)) (
 opt (Im ρ x3 μ) (kS ρ H7 [] [(2,0)])):=by kernel_rfl
theorem FP (x2 μ):kS ρ H7 [] [(2,0)] (qZ x2 μ)=
 some (qY x2 μ):=by kernel_rfl
theorem KR (x0 μ):(Iw x0).sK ρ μ=
 callK (ρ.call 17 [LV.str x0] μ) (fun v6 μ7 =>
 opt (aQ v6) fun xs10=>
 opt (aw xs10) fun q11=>
 opt (bM q11.1) fun l12=>
 opt (aw q11.2) fun q13=>
 opt (aH .i64 q13.1) fun n14=>
 opt (aw q13.2) fun q15=>
 opt (aH .i64 q15.1) fun n16=>
 opt (aK q15.2) fun u17=>
 cond (!decide (n16 = (0 : Int))) (
 some (qY (decide ((List.length l12:Int)=(0:Int))) μ7)) (
 opt (J2 ρ l12 n14 μ7) (kS ρ H7 [] [(2,0)]))) (pX IT):=by kernel_rfl
theorem FO (x2 μ):kS ρ H7 [] [(2,0)] (qY x2 μ)=
 some (qX x2 μ):=by kernel_rfl
theorem KQ (x0 μ):(Iv x0).sK ρ μ=
 cond (decide ((200 : Int) < (List.length x0 : Int))) (
 some (qX true μ)) (
 opt (J1 ρ x0 μ) (kS ρ H7 [] [(2,0)])):=by kernel_rfl
theorem FN (x2 μ):kB ρ 7 H7 [] (qX x2 μ)=
 some (.ret (LV.bool x2) μ):=by kernel_rfl
theorem nf7 (a μ):aJ E ρ 7 [LV.str a] μ=
 callK (ρ.call 11 [] μ) (fun v1 μ2 =>
 opt (aT v1) fun b5=>
 cond (!b5) (
 some (.ret (LV.bool false) μ2)) (
 opt (J0 ρ a μ2) (kB ρ 7 H7 []))) pP:=by kernel_rfl
def ED (x1:List UInt8):SegD:=⟨H12,[],cA 12 [1,0,1,0,1,0,1],mS [(1,LV.str x1)] []⟩
def wv (x1:List UInt8)(μ:Mu):=(ED x1).seg ρ μ
def nM (x4:Int)(μ:Mu):St:= .ret (mS [(4,LV.int .i64 x4)] []) μ
def GG (pv:CV)(μ:Mu):St:= .panic pv (mS [] []) μ
def A8 (x0:Int)(x1:List UInt8)(x39:Bool):SegD:=⟨H12,[],cA 12 [1,0,1,0,1,1,1],mS [(0,LV.int .i64 x0),(1,LV.str x1),(39,LV.bool x39)] []⟩
def lA (x0:Int)(x1:List UInt8)(x39:Bool)(μ:Mu):=(A8 x0 x1 x39).seg ρ μ
def ge (x4:Int)(μ:Mu):St:= .ret (mS [(4,LV.int .i64 x4)] []) μ
def Ek (pv:CV)(μ:Mu):St:= .panic pv (mS [] []) μ
def pt (μ:Mu):St:= .norm (mS [] []) μ
theorem Jt (x1 μ):(ED x1).sK ρ μ=
 callK (ρ.call 45 [LV.str x1] μ) (fun v7 μ8 =>
 opt (aQ v7) fun xs11=>
 opt (aw xs11) fun q12=>
 opt (aH .i64 q12.1) fun n13=>
 opt (aw q12.2) fun q14=>
 opt (cP q14.1) fun c15=>
 opt (aK q14.2) fun u16=>
 cond (decide ((2147483647 : Int) < n13)) (
 some (nM (28:Int) μ8)) (
 some (nM (0:Int) μ8))) (pX GG):=by kernel_rfl
theorem C9 (x4 μ):kB ρ 12 H12 [.block 0,.seq (cA 12 [1,1])] (nM x4 μ)=
 some (.ret (LV.int .i64 x4) μ):=by kernel_rfl
theorem ym (x0 x1 x39 μ):(A8 x0 x1 x39).sK ρ μ=
 cond (x39) (
 callK (ρ.call 46 [LV.str x1] μ) (fun v19 μ20 =>
 opt (aQ v19) fun xs23=>
 opt (aw xs23) fun q24=>
 dC q24.1 fun n25 n26 s27=>
 opt (aw q24.2) fun q28=>
 opt (aT q28.1) fun b29=>
 opt (aK q28.2) fun u30=>
 cond (!b29) (
 some (ge (3:Int) μ20)) (
 cond (!decide (n25 = (1 : Int))) (
 some (ge (3:Int) μ20)) (
 cond (!decide (n26 = x0)) (
 some (ge (3:Int) μ20)) (
 cond (!decide (s27 = x1)) (
 some (ge (3:Int) μ20)) (
 some (ge (0:Int) μ20)))))) (pX Ek)) (
 some (pt μ)):=by kernel_rfl
theorem zW (x4 μ):kB ρ 12 H12 [.block 0,.seq (cA 12 [1,1])] (ge x4 μ)=
 some (.ret (LV.int .i64 x4) μ):=by kernel_rfl
theorem zX (μ):kB ρ 12 H12 [.block 0,.seq (cA 12 [1,1])] (pt μ)=
 some (.ret (LV.int .i64 (15:Int)) μ):=by kernel_rfl
theorem MC (a b μ):aJ E ρ 12 [LV.int .i64 a,LV.str b] μ=
 cond (decide (a = (0 : Int))) (
 cond (decide (b = ([] : List UInt8))) (
 some (.ret (LV.int .i64 (3:Int)) μ)) (
 cond (decide ((10 : Int) < (List.length b : Int))) (
 some (.ret (LV.int .i64 (3:Int)) μ)) (
 callK (ρ.call 43 [LV.str b, LV.cv (CV.clo 44 [])] μ) (fun v1 μ2 =>
 opt (aT v1) fun b5=>
 cond (b5) (
 some (.ret (LV.int .i64 (3:Int)) μ2)) (
 opt (gZ b (0:Int)) fun y6=>
 cond (decide ((y6.toNat : Int) = (48 : Int))) (
 cond (!decide (b = ([48] : List UInt8))) (
 some (.ret (LV.int .i64 (3:Int)) μ2)) (
 opt (wv ρ b μ2) (kB ρ 12 H12 [.block 0,.seq (cA 12 [1,1])]))) (
 opt (wv ρ b μ2) (kB ρ 12 H12 [.block 0,.seq (cA 12 [1,1])])))) pP))) (
 cond (decide (a = (1 : Int))) (
 opt (lA ρ a b (decide (a=(1:Int))) μ) (kB ρ 12 H12 [.block 0,.seq (cA 12 [1,1])])) (
 cond (decide (a = (2 : Int))) (
 opt (lA ρ a b (decide (a=(2:Int))) μ) (kB ρ 12 H12 [.block 0,.seq (cA 12 [1,1])])) (
 cond (decide (a = (5 : Int))) (
 opt (lA ρ a b (decide (a=(5:Int))) μ) (kB ρ 12 H12 [.block 0,.seq (cA 12 [1,1])])) (
 opt (lA ρ a b (decide (a=(6:Int))) μ) (kB ρ 12 H12 [.block 0,.seq (cA 12 [1,1])]))))):=by kernel_rfl
def EE (x12:Bool)(o0_0 o0_1:Int)(o0_2:List UInt8):SegD:=⟨H14,[],cA 14 [1,0,1,0,1,1,1],mS [(1,LV.loc 0 0),(12,LV.bool x12)] [Ob.cells [LV.int .i64 o0_0,LV.int .i64 o0_1,LV.str o0_2]]⟩
def sW (x12:Bool)(o0_0 o0_1:Int)(o0_2:List UInt8)(μ:Mu):=(EE x12 o0_0 o0_1 o0_2).seg ρ μ
def nP (x2:Int)(μ:Mu):St:= .ret (mS [(2,LV.int .i64 x2)] []) μ
def EF (o0_0 o0_1:Int)(o0_2:List UInt8):SegD:=⟨H14,[],cA 14 [1,0,1,0,1,1,1,0,1],mS [(1,LV.loc 0 0)] [Ob.cells [LV.int .i64 o0_0,LV.int .i64 o0_1,LV.str o0_2]]⟩
def If (o0_0 o0_1:Int)(o0_2:List UInt8)(μ:Mu):=(EF o0_0 o0_1 o0_2).seg ρ μ
def nQ (x2:Int)(μ:Mu):St:= .ret (mS [(2,LV.int .i64 x2)] []) μ
def Ba (o0_0 o0_1:Int)(o0_2:List UInt8):SegD:=⟨H14,[],cA 14 [1,0,1,0,1,1,1,0,1,1],mS [(1,LV.loc 0 0)] [Ob.cells [LV.int .i64 o0_0,LV.int .i64 o0_1,LV.str o0_2]]⟩
def wR (o0_0 o0_1:Int)(o0_2:List UInt8)(μ:Mu):=(Ba o0_0 o0_1 o0_2).seg ρ μ
def iI (x2:Int)(μ:Mu):St:= .ret (mS [(2,LV.int .i64 x2)] []) μ
def GH (pv:CV)(μ:Mu):St:= .panic pv (mS [] []) μ
def rX (μ:Mu):St:= .norm (mS [] []) μ
theorem Hp (o0_0 o0_1 o0_2 μ):(Ba o0_0 o0_1 o0_2).sK ρ μ=
 cond (decide (o0_0 = (2 : Int))) (
 callK (ρ.call 51 [] μ) (fun v11 μ12 =>
 opt (bM v11) fun l15=>
 callK (ρ.call 50 [LV.cv (CV.sl l15), LV.str o0_2] μ12) (fun v16 μ17 =>
 opt (aT v16) fun b20=>
 cond (!b20) (
 callK (ρ.call 52 [] μ17) (fun v21 μ22 =>
 opt (bM v21) fun l25=>
 callK (ρ.call 50 [LV.cv (CV.sl l25), LV.str o0_2] μ22) (fun v26 μ27 =>
 opt (aT v26) fun b30=>
 cond (!b30) (
 some (iI (7:Int) μ27)) (
 some (iI (0:Int) μ27))) pN) pN) (
 some (iI (0:Int) μ17))) pN) pN) (
 some (iI (0:Int) μ)):=by kernel_rfl
theorem z6 (x2 μ):kS ρ H14 [] [] (iI x2 μ)=
 some (nQ x2 μ):=by kernel_rfl
theorem Ju (o0_0 o0_1 o0_2 μ):(EF o0_0 o0_1 o0_2).sK ρ μ=
 cond (decide (o0_0 = (0 : Int))) (
 callK (ρ.call 49 [LV.str o0_2] μ) (fun v6 μ7 =>
 opt (aT v6) fun b10=>
 cond (!b10) (
 some (nQ (4:Int) μ7)) (
 opt (wR ρ o0_0 o0_1 o0_2 μ7) (kS ρ H14 [] []))) (pX GH)) (
 opt (wR ρ o0_0 o0_1 o0_2 μ) (kS ρ H14 [] [])):=by kernel_rfl
theorem Dc (x2 μ):kS ρ H14 [] [] (nQ x2 μ)=
 some (nP x2 μ):=by kernel_rfl
theorem BJ (x12 o0_0 o0_1 o0_2 μ):(EE x12 o0_0 o0_1 o0_2).sK ρ μ=
 cond (x12) (
 cond (!decide (o0_1 = (0 : Int))) (
 some (nP (3:Int) μ)) (
 opt (If ρ o0_0 o0_1 o0_2 μ) (kS ρ H14 [] []))) (
 some (rX μ)):=by kernel_rfl
theorem Da (x2 μ):kB ρ 14 H14 [.block 0,.seq (cA 14 [1,1])] (nP x2 μ)=
 some (.ret (LV.int .i64 x2) μ):=by kernel_rfl
theorem Db (μ):kB ρ 14 H14 [.block 0,.seq (cA 14 [1,1])] (rX μ)=
 some (.ret (LV.int .i64 (15:Int)) μ):=by kernel_rfl
theorem MD (a_0 a_1 a_2 μ):aJ E ρ 14 [LV.cv (CV.agg [CV.int .i64 a_0,CV.int .i64 a_1,CV.str a_2])] μ=
 cond (decide (a_0 = (1 : Int))) (
 callK (ρ.call 12 [LV.int .i64 a_1, LV.str a_2] μ) (fun v1 μ2 =>
 opt (aH .i64 v1) fun n5=>
 some (.ret (LV.int .i64 n5) μ2)) pP) (
 cond (decide (a_0 = (0 : Int))) (
 opt (sW ρ (decide (a_0=(0:Int))) a_0 a_1 a_2 μ) (kB ρ 14 H14 [.block 0,.seq (cA 14 [1,1])])) (
 opt (sW ρ (decide (a_0=(2:Int))) a_0 a_1 a_2 μ) (kB ρ 14 H14 [.block 0,.seq (cA 14 [1,1])]))):=by kernel_rfl
theorem ME (a μ):aJ E ρ 17 [LV.str a] μ=
 callK (ρ.call 57 [LV.str a, LV.bool false] μ) (fun v1 μ2 =>
 opt (aQ v1) fun xs5=>
 opt (aw xs5) fun q6=>
 opt (bM q6.1) fun l7=>
 opt (aw q6.2) fun q8=>
 opt (aH .i64 q8.1) fun n9=>
 opt (aw q8.2) fun q10=>
 opt (aH .i64 q10.1) fun n11=>
 opt (aK q10.2) fun u12=>
 some (.ret (LV.ltup [LV.cv (CV.sl l7),LV.int .i64 n9,LV.int .i64 n11]) μ2)) pP:=by kernel_rfl
def EG (x0 x1:List CV):SegD:=⟨H19,[(4,0)],cA 19 [1,1],mS [(0,LV.cv (CV.sl x0)),(1,LV.cv (CV.sl x1))] []⟩
def Ig (x0 x1:List CV)(μ:Mu):=(EG x0 x1).seg ρ μ
def EX (x0 x1:List CV)(x5:Int):SegD:=⟨H19,[],cA 19 [1,1,0,1,0,0],mS [(0,LV.cv (CV.sl x0)),(1,LV.cv (CV.sl x1)),(5,LV.int .i64 x5)] []⟩
def Cf (x0 x1:List CV)(x5:Int)(μ:Mu):=(EX x0 x1 x5).loop ρ μ
def sf (x4:Bool)(μ:Mu):St:= .ret (mS [(4,LV.bool x4)] []) μ
def sk (μ:Mu):St:= .exit 0 (mS [] []) μ
def nV (x4:Bool)(μ:Mu):St:= .ret (mS [(4,LV.bool x4)] []) μ
theorem BN (x0 x1 x5 μ):(EX x0 x1 x5).rK ρ μ=
 cond (decide (x5 < (List.length x0 : Int))) (
 opt (dT x0 x5) fun c1=>
 dC (LV.cv c1) fun n2 n3 s4=>
 opt (dT x1 x5) fun c5=>
 dC (LV.cv c5) fun n6 n7 s8=>
 cond (!(decide (n2 = n6) && (decide (n3 = n7) && (decide (s4 = s8) && true)))) (
 some (sf false μ)) (
 Cf ρ x0 x1 (IntKind.wrap .i64 (x5+(1:Int))) μ)) (
 some (sk μ)):=by kernel_rfl
theorem Dy (x4 μ):kS ρ H19 [.block 0,.seq (cA 19 [1,1,1])] [(4,0)] (sf x4 μ)=
 some (nV x4 μ):=by kernel_rfl
theorem Dz (μ):kS ρ H19 [.block 0,.seq (cA 19 [1,1,1])] [(4,0)] (sk μ)=
 some (nV true μ):=by kernel_rfl
theorem Jv (x0 x1 μ):(EG x0 x1).sK ρ μ=
 opt (Cf ρ x0 x1 (0:Int) μ) (kS ρ H19 [.block 0,.seq (cA 19 [1,1,1])] [(4,0)]):=by kernel_rfl
theorem Dd (x4 μ):kB ρ 19 H19 [] (nV x4 μ)=
 some (.ret (LV.bool x4) μ):=by kernel_rfl
theorem MF (a b μ):aJ E ρ 19 [LV.cv (CV.sl a),LV.cv (CV.sl b)] μ=
 cond (!decide ((List.length a : Int) = (List.length b : Int))) (
 some (.ret (LV.bool false) μ)) (
 opt (Ig ρ a b μ) (kB ρ 19 H19 [])):=by kernel_rfl
def EH (x0:List CV):SegD:=⟨H20,[(2,0)],cA 20 [1,1],mS [(0,LV.cv (CV.sl x0))] []⟩
def ww (x0:List CV)(μ:Mu):=(EH x0).seg ρ μ
def EY (x0:List CV)(x3:Int):SegD:=⟨H20,[],cA 20 [1,1,0,1,0,0],mS [(0,LV.cv (CV.sl x0)),(3,LV.int .i64 x3)] []⟩
def Cg (x0:List CV)(x3:Int)(μ:Mu):=(EY x0 x3).loop ρ μ
def sm (x2:Bool)(μ:Mu):St:= .ret (mS [(2,LV.bool x2)] []) μ
def sn (μ:Mu):St:= .exit 0 (mS [] []) μ
def nW (x2:Bool)(μ:Mu):St:= .ret (mS [(2,LV.bool x2)] []) μ
theorem BO (x0 x3 μ):(EY x0 x3).rK ρ μ=
 cond (decide (x3 < (List.length x0 : Int))) (
 opt (dT x0 x3) fun c1=>
 dC (LV.cv c1) fun n2 n3 s4=>
 cond (decide ((130 : Int) < (List.length s4 : Int))) (
 some (sm false μ)) (
 Cg ρ x0 (IntKind.wrap .i64 (x3+(1:Int))) μ)) (
 some (sn μ)):=by kernel_rfl
theorem DA (x2 μ):kS ρ H20 [.block 0,.seq (cA 20 [1,1,1])] [(2,0)] (sm x2 μ)=
 some (nW x2 μ):=by kernel_rfl
theorem DB (μ):kS ρ H20 [.block 0,.seq (cA 20 [1,1,1])] [(2,0)] (sn μ)=
 some (nW true μ):=by kernel_rfl
theorem Jw (x0 μ):(EH x0).sK ρ μ=
 opt (Cg ρ x0 (0:Int) μ) (kS ρ H20 [.block 0,.seq (cA 20 [1,1,1])] [(2,0)]):=by kernel_rfl
theorem De (x2 μ):kB ρ 20 H20 [] (nW x2 μ)=
 some (.ret (LV.bool x2) μ):=by kernel_rfl
theorem MG (a μ):aJ E ρ 20 [LV.cv (CV.sl a)] μ=
 cond (decide ((60 : Int) < (List.length a : Int))) (
 cond (decide ((List.length a : Int) ≤ (300 : Int))) (
 some (.ret (LV.bool false) μ)) (
 cond (decide ((302 : Int) < (List.length a : Int))) (
 some (.ret (LV.bool false) μ)) (
 opt (ww ρ a μ) (kB ρ 20 H20 [])))) (
 cond (decide ((302 : Int) < (List.length a : Int))) (
 some (.ret (LV.bool false) μ)) (
 opt (ww ρ a μ) (kB ρ 20 H20 []))):=by kernel_rfl
def EI (x0:List CV):SegD:=⟨H29,[(2,0),(3,0)],cA 29 [1,1],mS [(0,LV.cv (CV.sl x0))] []⟩
def Ih (x0:List CV)(μ:Mu):=(EI x0).seg ρ μ
def tw (x0 x17:List CV)(x18 x19:Int)(lam:Lam):SegD:=⟨H29,[(6,0)],cA 29 [1,1,1,0,1,0,0],mS [(0,LV.cv (CV.sl x0)),(6,LV.tloc 0 103 2),(17,LV.cv (CV.sl x17)),(18,LV.int .i64 x18),(19,LV.int .i64 x19),(1000001,LV.cv CV.undef)] lam true⟩
def wx (x0 x17:List CV)(x18 x19:Int)(lam:Lam)(μ:Mu):=(tw x0 x17 x18 x19 lam).loop ρ μ
def EJ (x0 x17:List CV)(x18 x19:Int)(x34:Bool)(lam:Lam):SegD:=⟨H29,[(0,2),(6,0),(8,0),(17,2),(18,0),(19,0)],cA 29 [1,1,1,0,1,0,0,1,1,0,0,1,0,1],mS [(0,LV.cv (CV.sl x0)),(6,LV.tloc 0 103 2),(8,LV.loc 1 0),(17,LV.cv (CV.sl x17)),(18,LV.int .i64 x18),(19,LV.int .i64 x19),(34,LV.bool x34)] lam true⟩
def nF (x0 x17:List CV)(x18 x19:Int)(x34:Bool)(lam:Lam)(μ:Mu):=(EJ x0 x17 x18 x19 x34 lam).seg ρ μ
def r2 (x0 x17:List CV)(x18 x19:Int)(lam:Lam)(μ:Mu):St:= .norm (mS [(0,LV.cv (CV.sl x0)),(6,LV.tloc 0 103 2),(8,LV.loc 1 0),(17,LV.cv (CV.sl x17)),(18,LV.int .i64 x18),(19,LV.int .i64 x19)] lam true) μ
def GJ (pv:CV)(lam:Lam)(μ:Mu):St:= .panic pv (mS [] lam true) μ
def r3 (x0 x17:List CV)(x18 x19:Int)(o0_0:CV)(o0_1:List CV)(o1_0 o1_1:Int)(o1_2:List UInt8)(μ:Mu):St:= .norm (mS [(0,LV.cv (CV.sl x0)),(6,LV.tloc 0 103 2),(8,LV.loc 1 0),(17,LV.cv (CV.sl x17)),(18,LV.int .i64 x18),(19,LV.int .i64 x19)] [Ob.cells [LV.cv o0_0,LV.osl o0_1],Ob.cells [LV.int .i64 o1_0,LV.int .i64 o1_1,LV.str o1_2]] true) μ
def Bn (x0 x17:List CV)(x18 x19:Int)(lam:Lam):SegD:=⟨H29,[(0,2),(6,0),(17,2),(18,0),(19,0)],cA 29 [1,1,1,0,1,0,0,1,1,0,0,1,1],mS [(0,LV.cv (CV.sl x0)),(6,LV.tloc 0 103 2),(8,LV.loc 1 0),(17,LV.cv (CV.sl x17)),(18,LV.int .i64 x18),(19,LV.int .i64 x19)] lam true⟩
def sY (x0 x17:List CV)(x18 x19:Int)(lam:Lam)(μ:Mu):=(Bn x0 x17 x18 x19 lam).seg ρ μ
def pD (x0 x17:List CV)(x18 x19:Int)(lam:Lam)(μ:Mu):St:= .norm (mS [(0,LV.cv (CV.sl x0)),(6,LV.tloc 0 103 2),(17,LV.cv (CV.sl x17)),(18,LV.int .i64 x18),(19,LV.int .i64 x19)] lam true) μ
def Eo (pv:CV)(lam:Lam)(μ:Mu):St:= .panic pv (mS [] lam true) μ
def Bo (x0 x17:List CV)(x18 x19:Int)(lam:Lam):SegD:=⟨H29,[(0,2),(6,0),(17,2),(18,0),(19,0)],cA 29 [1,1,1,0,1,0,0,1,1,1],mS [(0,LV.cv (CV.sl x0)),(6,LV.tloc 0 103 2),(17,LV.cv (CV.sl x17)),(18,LV.int .i64 x18),(19,LV.int .i64 x19)] lam true⟩
def D9 (x0 x17:List CV)(x18 x19:Int)(lam:Lam)(μ:Mu):=(Bo x0 x17 x18 x19 lam).seg ρ μ
def pE (x0 x17:List CV)(x18 x19:Int)(o0_0:CV)(o0_1:List CV)(o1_0 o1_1:Int)(o1_2:List UInt8)(μ:Mu):St:= .norm (mS [(0,LV.cv (CV.sl x0)),(6,LV.tloc 0 103 2),(17,LV.cv (CV.sl x17)),(18,LV.int .i64 x18),(19,LV.int .i64 x19)] [Ob.cells [LV.cv o0_0,LV.osl o0_1],Ob.cells [LV.int .i64 o1_0,LV.int .i64 o1_1,LV.str o1_2]] true) μ
def lG (o0_0:CV)(o0_1:List CV)(μ:Mu):St:= .exit 0 (mS [(6,LV.tloc 0 103 2)] [Ob.cells [LV.cv o0_0,LV.osl o0_1]] true) μ
def GI (pv:CV)(lam:Lam)(μ:Mu):St:= .panic pv (mS [] lam true) μ
def Bp (x41:Bool)(lam:Lam):SegD:=⟨H29,[(6,0)],cA 29 [1,1,1,1,0,1],mS [(6,LV.tloc 0 103 2),(41,LV.bool x41)] lam true⟩
def wW (x41:Bool)(lam:Lam)(μ:Mu):=(Bp x41 lam).seg ρ μ
def pF (x2:List UInt8)(x3:Int)(o0_0:CV)(o0_1:List CV)(μ:Mu):St:= .ret (mS [(2,LV.str x2),(3,LV.int .i64 x3)] [Ob.cells [LV.cv o0_0,LV.osl o0_1]] true) μ
def pG (o0_0:CV)(o0_1:List CV)(μ:Mu):St:= .norm (mS [(6,LV.tloc 0 103 2)] [Ob.cells [LV.cv o0_0,LV.osl o0_1]] true) μ
def rY (x2:List UInt8)(x3:Int)(o0_0:CV)(o0_1:List CV)(μ:Mu):St:= .ret (mS [(2,LV.str x2),(3,LV.int .i64 x3)] [Ob.cells [LV.cv o0_0,LV.osl o0_1]] true) μ
def Bq (lam:Lam):SegD:=⟨H29,[(2,0),(3,0)],cA 29 [1,1,1,1,1],mS [(6,LV.tloc 0 103 2)] lam true⟩
def Ea (lam:Lam)(μ:Mu):=(Bq lam).seg ρ μ
def pH (x2:List UInt8)(x3:Int)(lam:Lam)(μ:Mu):St:= .ret (mS [(2,LV.str x2),(3,LV.int .i64 x3)] lam true) μ
def Ep (pv:CV)(lam:Lam)(μ:Mu):St:= .panic pv (mS [] lam true) μ
def rZ (x2:List UInt8)(x3:Int)(lam:Lam)(μ:Mu):St:= .ret (mS [(2,LV.str x2),(3,LV.int .i64 x3)] lam true) μ
theorem BK (x0 x17:List CV)(x18 x19:Int)(x34:Bool)(o0_0:CV)(o0_1:List CV)(o1_0 o1_1:Int)(o1_2:List UInt8)(μ:Mu):(EJ x0 x17 x18 x19 x34 [Ob.cells [LV.cv o0_0,LV.osl o0_1],Ob.cells [LV.int .i64 o1_0,LV.int .i64 o1_1,LV.str o1_2]]).sK ρ μ=
 cond (x34) (
 callK (ρ.call 74 [LV.cv (CV.tref (List.length μ) 0 103 2), LV.int .u8 (32 : Int)] (μ ++ [[Ob.cells [LV.cv o0_0, LV.osl o0_1], Ob.cells [LV.int .i64 o1_0, LV.int .i64 o1_1, LV.str o1_2]]])) (fun v27 μ28 =>
 opt (cZ μ28) fun q29=>
 opt (cP v27) fun c33=>
 some (r2 x0 x17 x18 x19 q29.2 q29.1)) (fun v31 μ30=>
 opt (cZ μ30) fun q32=>
 some (GJ v31 q32.2 q32.1))) (
 some (r3 x0 x17 x18 x19 o0_0 o0_1 o1_0 o1_1 o1_2 μ)):=by kernel_rfl
theorem HC (x0 x17:List CV)(x18 x19:Int)(o0_0:CV)(o0_1:List CV)(o1_0 o1_1:Int)(o1_2:List UInt8)(μ:Mu):(Bn x0 x17 x18 x19 [Ob.cells [LV.cv o0_0,LV.osl o0_1],Ob.cells [LV.int .i64 o1_0,LV.int .i64 o1_1,LV.str o1_2]]).sK ρ μ=
 callK (ρ.call 75 [LV.cv (CV.tref (List.length μ) 0 103 2), LV.str o1_2] (μ ++ [[Ob.cells [LV.cv o0_0, LV.osl o0_1], Ob.cells [LV.int .i64 o1_0, LV.int .i64 o1_1, LV.str o1_2]]])) (fun v35 μ36 =>
 opt (cZ μ36) fun q37=>
 opt (aQ v35) fun xs41=>
 opt (aw xs41) fun q42=>
 opt (aH .i64 q42.1) fun n43=>
 opt (aw q42.2) fun q44=>
 opt (cP q44.1) fun c45=>
 opt (aK q44.2) fun u46=>
 some (pD x0 x17 x18 x19 q37.2 q37.1)) (fun v39 μ38=>
 opt (cZ μ38) fun q40=>
 some (Eo v39 q40.2 q40.1)):=by kernel_rfl
theorem HD (x0 x17:List CV)(x18 x19:Int)(o0_0:CV)(o0_1:List CV)(o1_0 o1_1:Int)(o1_2:List UInt8)(μ:Mu):(Bo x0 x17 x18 x19 [Ob.cells [LV.cv o0_0,LV.osl o0_1],Ob.cells [LV.int .i64 o1_0,LV.int .i64 o1_1,LV.str o1_2]]).sK ρ μ=
 some (pE x0 x17 x18 (IntKind.wrap .i64 (x19+(1:Int))) o0_0 o0_1 o1_0 o1_1 o1_2 μ):=by kernel_rfl
theorem Aq (x0 x17 x18 x19 o0_0 o0_1 o1_0 o1_1 o1_2 μ):kR ρ H29 [] [(6,0)] (cA 29 [1,1,1,0,1,0,0]) (pE x0 x17 x18 x19 o0_0 o0_1 o1_0 o1_1 o1_2 μ)=
 aA (true && Nat.ble 1 (List.length [Ob.cells [LV.cv o0_0, LV.osl o0_1], Ob.cells [LV.int .i64 o1_0, LV.int .i64 o1_1, LV.str o1_2]]) && ew (List.length μ) 1 [LV.cv (CV.sl x0), LV.tloc 0 103 2, LV.cv (CV.sl x17), LV.int .i64 x18, LV.int .i64 x19, LV.cv CV.undef] && fH (List.length μ) 1 (List.take 1 [Ob.cells [LV.cv o0_0, LV.osl o0_1], Ob.cells [LV.int .i64 o1_0, LV.int .i64 o1_1, LV.str o1_2]])) (
 wx ρ x0 x17 x18 x19 (List.take 1 [Ob.cells [LV.cv o0_0,LV.osl o0_1],Ob.cells [LV.int .i64 o1_0,LV.int .i64 o1_1,LV.str o1_2]]) μ):=by kernel_rfl
theorem Ap (x0 x17 x18 x19 lam μ):kR ρ H29 [.block 1,.seq (cA 29 [1,1,1,0,1,0,0,1,1,1])] [(6,0)] (cA 29 [1,1,1,0,1,0,0]) (pD x0 x17 x18 x19 lam μ)=
 mN [(0,[3,1])] lam fun lam47=>
 opt (D9 ρ x0 x17 x18 x19 lam47 μ) (kR ρ H29 [] [(6,0)] (cA 29 [1,1,1,0,1,0,0])):=by kernel_rfl
theorem Dh (x0 x17 x18 x19 lam μ):kR ρ H29 [.seq (cA 29 [1,1,1,0,1,0,0,1,1,0,0,1,1]),.block 1,.seq (cA 29 [1,1,1,0,1,0,0,1,1,1])] [(6,0)] (cA 29 [1,1,1,0,1,0,0]) (r2 x0 x17 x18 x19 lam μ)=
 mN [(0,[3,1])] lam fun lam34=>
 opt (sY ρ x0 x17 x18 x19 lam34 μ) (kR ρ H29 [.block 1,.seq (cA 29 [1,1,1,0,1,0,0,1,1,1])] [(6,0)] (cA 29 [1,1,1,0,1,0,0])):=by kernel_rfl
theorem Di (x0 x17 x18 x19 o0_0 o0_1 o1_0 o1_1 o1_2 μ):kR ρ H29 [.seq (cA 29 [1,1,1,0,1,0,0,1,1,0,0,1,1]),.block 1,.seq (cA 29 [1,1,1,0,1,0,0,1,1,1])] [(6,0)] (cA 29 [1,1,1,0,1,0,0]) (r3 x0 x17 x18 x19 o0_0 o0_1 o1_0 o1_1 o1_2 μ)=
 opt (sY ρ x0 x17 x18 x19 [Ob.cells [LV.cv o0_0,LV.osl o0_1],Ob.cells [LV.int .i64 o1_0,LV.int .i64 o1_1,LV.str o1_2]] μ) (kR ρ H29 [.block 1,.seq (cA 29 [1,1,1,0,1,0,0,1,1,1])] [(6,0)] (cA 29 [1,1,1,0,1,0,0])):=by kernel_rfl
theorem BP (x0 x17:List CV)(x18 x19:Int)(o0_0:CV)(o0_1:List CV)(μ:Mu):(tw x0 x17 x18 x19 [Ob.cells [LV.cv o0_0,LV.osl o0_1]]).rK ρ μ=
 cond (decide (x19 < x18)) (
 opt (dT x17 x19) fun c11=>
 dC (LV.cv c11) fun n12 n13 s14=>
 cond (decide ((0 : Int) < x19)) (
 opt (dT x0 (IntKind.wrap .i64 (x19-(1:Int)))) fun c15=>
 dC (LV.cv c15) fun n16 n17 s18=>
 callK (ρ.call 73 [LV.cv (CV.agg [CV.int .i64 n16, CV.int .i64 n17, CV.str s18]), LV.cv (CV.agg [CV.int .i64 n12, CV.int .i64 n13, CV.str s14])] (μ ++ [[Ob.cells [LV.cv o0_0, LV.osl o0_1], Ob.cells [LV.int .i64 n12, LV.int .i64 n13, LV.str s14]]])) (fun v19 μ20 =>
 opt (cZ μ20) fun q21=>
 opt (aT v19) fun b25=>
 mN [(0,[3,1])] q21.2 fun lam26=>
 opt (nF ρ x0 x17 x18 x19 b25 lam26 q21.1) (kR ρ H29 [.seq (cA 29 [1,1,1,0,1,0,0,1,1,0,0,1,1]),.block 1,.seq (cA 29 [1,1,1,0,1,0,0,1,1,1])] [(6,0)] (cA 29 [1,1,1,0,1,0,0]))) (fun v23 μ22=>
 opt (cZ μ22) fun q24=>
 none)) (
 opt (nF ρ x0 x17 x18 x19 false [Ob.cells [LV.cv o0_0,LV.osl o0_1],Ob.cells [LV.int .i64 n12,LV.int .i64 n13,LV.str s14]] μ) (kR ρ H29 [.seq (cA 29 [1,1,1,0,1,0,0,1,1,0,0,1,1]),.block 1,.seq (cA 29 [1,1,1,0,1,0,0,1,1,1])] [(6,0)] (cA 29 [1,1,1,0,1,0,0])))) (
 some (lG o0_0 o0_1 μ)):=by kernel_rfl
theorem HE (x41:Bool)(o0_0:CV)(o0_1:List CV)(μ:Mu):(Bp x41 [Ob.cells [LV.cv o0_0,LV.osl o0_1]]).sK ρ μ=
 cond (x41) (
 some (pF ([]:List UInt8) (8:Int) o0_0 o0_1 μ)) (
 some (pG o0_0 o0_1 μ)):=by kernel_rfl
theorem Ar (x2 x3 o0_0 o0_1 μ):kS ρ H29 [.seq (cA 29 [1,1,1,1,1])] [(2,0),(3,0)] (pF x2 x3 o0_0 o0_1 μ)=
 some (rY x2 x3 o0_0 o0_1 μ):=by kernel_rfl
theorem HF (o0_0:CV)(o0_1:List CV)(μ:Mu):(Bq [Ob.cells [LV.cv o0_0,LV.osl o0_1]]).sK ρ μ=
 callK (ρ.call 77 [LV.cv (CV.tref (List.length μ) 0 103 2)] (μ ++ [[Ob.cells [LV.cv o0_0, LV.osl o0_1]]])) (fun v61 μ62 =>
 opt (cZ μ62) fun q63=>
 opt (aN v61) fun s67=>
 some (pH s67 (0:Int) q63.2 q63.1)) (fun v65 μ64=>
 opt (cZ μ64) fun q66=>
 some (Ep v65 q66.2 q66.1)):=by kernel_rfl
theorem At (x2 x3 lam μ):kS ρ H29 [] [(2,0),(3,0)] (pH x2 x3 lam μ)=
 some (rZ x2 x3 lam μ):=by kernel_rfl
theorem As (o0_0 o0_1 μ):kS ρ H29 [.seq (cA 29 [1,1,1,1,1])] [(2,0),(3,0)] (pG o0_0 o0_1 μ)=
 opt (Ea ρ [Ob.cells [LV.cv o0_0,LV.osl o0_1]] μ) (kS ρ H29 [] [(2,0),(3,0)]):=by kernel_rfl
theorem DC (o0_0 o0_1 μ):kS ρ H29 [.block 0,.seq (cA 29 [1,1,1,1])] [(2,0),(3,0)] (lG o0_0 o0_1 μ)=
 callK (ρ.call 76 [LV.cv (CV.tref (List.length μ) 0 103 2)] (μ ++ [[Ob.cells [LV.cv o0_0, LV.osl o0_1]]])) (fun v53 μ54 =>
 opt (cZ μ54) fun q55=>
 opt (aH .i64 v53) fun n59=>
 mN [(0,[3,1])] q55.2 fun lam60=>
 opt (wW ρ (decide ((1320:Int)<n59)) lam60 q55.1) (kS ρ H29 [.seq (cA 29 [1,1,1,1,1])] [(2,0),(3,0)])) (fun v57 μ56=>
 opt (cZ μ56) fun q58=>
 some (GI v57 q58.2 q58.1)):=by kernel_rfl
theorem Jx (x0 μ):(EI x0).sK ρ μ=
 aA (true && Nat.ble 1 (List.length [Ob.cells [LV.cv (CV.v (.pointer none)), LV.osl []]]) && ew (List.length μ) 1 [LV.cv (CV.sl x0), LV.tloc 0 103 2, LV.cv (CV.sl x0), LV.int .i64 (List.length x0 : Int), LV.int .i64 (0 : Int), LV.cv CV.undef] && fH (List.length μ) 1 (List.take 1 [Ob.cells [LV.cv (CV.v (.pointer none)), LV.osl []]])) (
 opt (wx ρ x0 x0 (List.length x0:Int) (0:Int) (List.take 1 [Ob.cells [LV.cv (CV.v (.pointer none)),LV.osl []]]) μ) (kS ρ H29 [.block 0,.seq (cA 29 [1,1,1,1])] [(2,0),(3,0)])):=by kernel_rfl
theorem Df (x2 x3 o0_0 o0_1 μ):kB ρ 29 H29 [] (rY x2 x3 o0_0 o0_1 μ)=
 some (.ret (LV.ltup [LV.str x2,LV.int .i64 x3]) μ):=by kernel_rfl
theorem Dg (x2 x3 lam μ):kB ρ 29 H29 [] (rZ x2 x3 lam μ)=
 some (.ret (LV.ltup [LV.str x2,LV.int .i64 x3]) μ):=by kernel_rfl
theorem MH (a μ):aJ E ρ 29 [LV.cv (CV.sl a)] μ=
 callK (ρ.call 72 [LV.cv (CV.sl a)] μ) (fun v1 μ2 =>
 opt (aQ v1) fun xs5=>
 opt (aw xs5) fun q6=>
 opt (aH .i64 q6.1) fun n7=>
 opt (aw q6.2) fun q8=>
 opt (aH .i64 q8.1) fun n9=>
 opt (aK q8.2) fun u10=>
 cond (!decide (n9 = (0 : Int))) (
 some (.ret (LV.ltup [LV.str ([]:List UInt8),LV.int .i64 n9]) μ2)) (
 opt (Ih ρ a μ2) (kB ρ 29 H29 []))) pP:=by kernel_rfl
theorem MI (a μ):aJ E ρ 30 [LV.cv (CV.sl a)] μ=
 aA (ib a && gI 3 [] a) (
 some (.ret (LV.osl ([]++a)) μ)):=by kernel_rfl
def EK (x4:CV)(o0_0 o0_1:Int)(o0_2:List UInt8):SegD:=⟨H46,[(2,0),(3,0)],cA 46 [1,1,1],mS [(2,LV.loc 0 0),(4,LV.cv x4)] [Ob.cells [LV.int .i64 o0_0,LV.int .i64 o0_1,LV.str o0_2]]⟩
def Ii (x4:CV)(o0_0 o0_1:Int)(o0_2:List UInt8)(μ:Mu):=(EK x4 o0_0 o0_1 o0_2).seg ρ μ
def r5 (x3:Bool)(o0_0 o0_1:Int)(o0_2:List UInt8)(μ:Mu):St:= .ret (mS [(2,LV.loc 0 0),(3,LV.bool x3)] [Ob.cells [LV.int .i64 o0_0,LV.int .i64 o0_1,LV.str o0_2]]) μ
theorem Jy (x4 o0_0 o0_1 o0_2 μ):(EK x4 o0_0 o0_1 o0_2).sK ρ μ=
 opt (jj (LV.cv x4)) fun b13=>
 aA (!b13) (
 opt (fR (LV.cv (j2 x4))) fun cs14=>
 opt (aw cs14) fun q15=>
 opt (aN (LV.cv q15.1)) fun s16=>
 opt (aw q15.2) fun q17=>
 opt (aT (LV.cv q17.1)) fun b18=>
 opt (aw q17.2) fun q19=>
 opt (bM (LV.cv q19.1)) fun l20=>
 opt (aw q19.2) fun q21=>
 opt (bM (LV.cv q21.1)) fun l22=>
 opt (aK q21.2) fun u23=>
 opt (dT l20 (0:Int)) fun c24=>
 dC (LV.cv c24) fun n25 n26 s27=>
 some (r5 true n25 n26 s27 μ)):=by kernel_rfl
theorem Dj (x3 o0_0 o0_1 o0_2 μ):kB ρ 46 H46 [] (r5 x3 o0_0 o0_1 o0_2 μ)=
 some (.ret (LV.ltup [LV.cv (CV.agg [CV.int .i64 o0_0,CV.int .i64 o0_1,CV.str o0_2]),LV.bool x3]) μ):=by kernel_rfl
theorem MJ (a μ):aJ E ρ 46 [LV.str a] μ=
 callK (ρ.call 78 [LV.str a, LV.bool false] μ) (fun v1 μ2 =>
 opt (aQ v1) fun xs5=>
 opt (aw xs5) fun q6=>
 opt (cP q6.1) fun c7=>
 opt (aw q6.2) fun q8=>
 opt (aH .i64 q8.1) fun n9=>
 opt (aw q8.2) fun q10=>
 opt (aH .i64 q10.1) fun n11=>
 opt (aK q10.2) fun u12=>
 cond (!decide (n11 = (0 : Int))) (
 some (.ret (LV.ltup [LV.cv (CV.agg [CV.int .i64 (0:Int),CV.int .i64 (0:Int),CV.str ([]:List UInt8)]),LV.bool false]) μ2)) (
 cond (!decide (n9 = (1 : Int))) (
 some (.ret (LV.ltup [LV.cv (CV.agg [CV.int .i64 (0:Int),CV.int .i64 (0:Int),CV.str ([]:List UInt8)]),LV.bool false]) μ2)) (
 opt (Ii ρ c7 (0:Int) (0:Int) ([]:List UInt8) μ2) (kB ρ 46 H46 [])))) pP:=by kernel_rfl
theorem MK (a μ):aJ E ρ 49 [LV.str a] μ=
 cond (!decide (a = ([] : List UInt8))) (
 cond (decide ((List.length a : Int) ≤ (31 : Int))) (
 opt (gZ a (0:Int)) fun y1=>
 callK (ρ.call 90 [LV.int .u8 (y1.toNat : Int)] μ) (fun v2 μ3 =>
 opt (aT v2) fun b6=>
 cond (b6) (
 callK (ρ.call 91 [LV.str a] μ3) (fun v7 μ8 =>
 opt (aN v7) fun s11=>
 cond (decide (s11 = a)) (
 callK (ρ.call 43 [LV.str a, LV.cv (CV.clo 92 [])] μ8) (fun v12 μ13 =>
 opt (aT v12) fun b16=>
 some (.ret (LV.bool (!b16)) μ13)) pP) (
 some (.ret (LV.bool false) μ8))) pP) (
 some (.ret (LV.bool false) μ3))) pP) (
 some (.ret (LV.bool false) μ))) (
 some (.ret (LV.bool false) μ)):=by kernel_rfl
theorem ML (a b μ):aJ E ρ 50 [LV.cv (CV.sl a),LV.str b] μ=
 callK (ρ.call 94 [LV.cv (CV.sl a), LV.str b] μ) (fun v1 μ2 =>
 opt (aH .i64 v1) fun n5=>
 some (.ret (LV.bool (decide ((0:Int)≤n5))) μ2)) pP:=by kernel_rfl
theorem MM (μ):aJ E ρ 51 [] μ=
 some (.ret (LV.osl [CV.str ([46,76,84,46]:List UInt8),CV.str ([46,76,69,46]:List UInt8),CV.str ([46,69,81,46]:List UInt8),CV.str ([46,78,69,46]:List UInt8),CV.str ([46,71,69,46]:List UInt8),CV.str ([46,71,84,46]:List UInt8),CV.str ([46,78,79,84,46]:List UInt8),CV.str ([46,65,78,68,46]:List UInt8),CV.str ([46,79,82,46]:List UInt8),CV.str ([46,69,81,86,46]:List UInt8),CV.str ([46,78,69,81,86,46]:List UInt8)]) μ):=by kernel_rfl
theorem MN (μ):aJ E ρ 52 [] μ=
 some (.ret (LV.osl [CV.str ([42,42]:List UInt8),CV.str ([47,47]:List UInt8),CV.str ([61,62]:List UInt8),CV.str ([42]:List UInt8),CV.str ([47]:List UInt8),CV.str ([43]:List UInt8),CV.str ([45]:List UInt8),CV.str ([40]:List UInt8),CV.str ([41]:List UInt8),CV.str ([44]:List UInt8),CV.str ([58]:List UInt8),CV.str ([61]:List UInt8),CV.str ([37]:List UInt8)]) μ):=by kernel_rfl
def EM (x7:CV)(x8:Int):SegD:=⟨H57,[(4,2),(5,0),(6,0)],cA 57 [1,1,1],mS [(7,LV.cv x7),(8,LV.int .i64 x8)] []⟩
def Ij (x7:CV)(x8:Int)(μ:Mu):=(EM x7 x8).seg ρ μ
def r6 (x4:List CV)(x5 x6:Int)(μ:Mu):St:= .ret (mS [(4,LV.cv (CV.sl x4)),(5,LV.int .i64 x5),(6,LV.int .i64 x6)] []) μ
theorem Jz (x7 x8 μ):(EM x7 x8).sK ρ μ=
 opt (jj (LV.cv x7)) fun b13=>
 aA (!b13) (
 opt (fR (LV.cv (j2 x7))) fun cs14=>
 opt (aw cs14) fun q15=>
 opt (aN (LV.cv q15.1)) fun s16=>
 opt (aw q15.2) fun q17=>
 opt (aT (LV.cv q17.1)) fun b18=>
 opt (aw q17.2) fun q19=>
 opt (bM (LV.cv q19.1)) fun l20=>
 opt (aw q19.2) fun q21=>
 opt (bM (LV.cv q21.1)) fun l22=>
 opt (aK q21.2) fun u23=>
 some (r6 l20 x8 (0:Int) μ)):=by kernel_rfl
theorem Dk (x4 x5 x6 μ):kB ρ 57 H57 [] (r6 x4 x5 x6 μ)=
 some (.ret (LV.ltup [LV.cv (CV.sl x4),LV.int .i64 x5,LV.int .i64 x6]) μ):=by kernel_rfl
theorem MO (a b μ):aJ E ρ 57 [LV.str a,LV.bool b] μ=
 callK (ρ.call 78 [LV.str a, LV.bool b] μ) (fun v1 μ2 =>
 opt (aQ v1) fun xs5=>
 opt (aw xs5) fun q6=>
 opt (cP q6.1) fun c7=>
 opt (aw q6.2) fun q8=>
 opt (aH .i64 q8.1) fun n9=>
 opt (aw q8.2) fun q10=>
 opt (aH .i64 q10.1) fun n11=>
 opt (aK q10.2) fun u12=>
 cond (!decide (n11 = (0 : Int))) (
 some (.ret (LV.ltup [LV.cv (CV.v (.slice none 0 0)),LV.int .i64 n9,LV.int .i64 n11]) μ2)) (
 opt (Ij ρ c7 n9 μ2) (kB ρ 57 H57 []))) pP:=by kernel_rfl
theorem KP (a b μ):aJ E ρ 65 [LV.str a,LV.bool b] μ=
 cond (b) (
 callK (ρ.call 62 [LV.str a, LV.str ([48] : List UInt8)] μ) (fun v1 μ2 =>
 opt (aN v1) fun s5=>
 cond (decide (s5 = ([] : List UInt8))) (
 some (.ret (LV.str ([48]:List UInt8)) μ2)) (
 some (.ret (LV.str s5) μ2))) pP) (
 callK (ρ.call 63 [LV.str a, LV.str ([48] : List UInt8)] μ) (fun v6 μ7 =>
 opt (aN v6) fun s10=>
 cond (decide (s10 = ([] : List UInt8))) (
 some (.ret (LV.str ([48]:List UInt8)) μ7)) (
 some (.ret (LV.str s10) μ7))) pP):=by kernel_rfl
def EN (x0:List CV):SegD:=⟨H72,[(2,0),(3,0)],cA 72 [1,1],mS [(0,LV.cv (CV.sl x0))] []⟩
def Ik (x0:List CV)(μ:Mu):=(EN x0).seg ρ μ
def EZ (x10:List CV)(x11 x12:Int):SegD:=⟨H72,[],cA 72 [1,1,0,1,0,0],mS [(10,LV.cv (CV.sl x10)),(11,LV.int .i64 x11),(12,LV.int .i64 x12)] []⟩
def Ch (x10:List CV)(x11 x12:Int)(μ:Mu):=(EZ x10 x11 x12).loop ρ μ
def sq (x2 x3:Int)(μ:Mu):St:= .ret (mS [(2,LV.int .i64 x2),(3,LV.int .i64 x3)] []) μ
def GN (pv:CV)(μ:Mu):St:= .panic pv (mS [] []) μ
def ss (μ:Mu):St:= .exit 0 (mS [] []) μ
def nX (x2 x3:Int)(μ:Mu):St:= .ret (mS [(2,LV.int .i64 x2),(3,LV.int .i64 x3)] []) μ
theorem BQ (x10 x11 x12 μ):(EZ x10 x11 x12).rK ρ μ=
 cond (decide (x12 < x11)) (
 opt (dT x10 x12) fun c1=>
 dC (LV.cv c1) fun n2 n3 s4=>
 callK (ρ.call 14 [LV.cv (CV.agg [CV.int .i64 n2, CV.int .i64 n3, CV.str s4])] μ) (fun v5 μ6 =>
 opt (aH .i64 v5) fun n9=>
 cond (!decide (n9 = (0 : Int))) (
 some (sq x12 n9 μ6)) (
 Ch ρ x10 x11 (IntKind.wrap .i64 (x12+(1:Int))) μ6)) (pX GN)) (
 some (ss μ)):=by kernel_rfl
theorem DD (x2 x3 μ):kS ρ H72 [.block 0,.seq (cA 72 [1,1,1])] [(2,0),(3,0)] (sq x2 x3 μ)=
 some (nX x2 x3 μ):=by kernel_rfl
theorem DE (μ):kS ρ H72 [.block 0,.seq (cA 72 [1,1,1])] [(2,0),(3,0)] (ss μ)=
 some (nX (0:Int) (0:Int) μ):=by kernel_rfl
theorem JA (x0 μ):(EN x0).sK ρ μ=
 opt (Ch ρ x0 (List.length x0:Int) (0:Int) μ) (kS ρ H72 [.block 0,.seq (cA 72 [1,1,1])] [(2,0),(3,0)]):=by kernel_rfl
theorem Dl (x2 x3 μ):kB ρ 72 H72 [] (nX x2 x3 μ)=
 some (.ret (LV.ltup [LV.int .i64 x2,LV.int .i64 x3]) μ):=by kernel_rfl
theorem MP (a μ):aJ E ρ 72 [LV.cv (CV.sl a)] μ=
 cond (decide ((300 : Int) < (List.length a : Int))) (
 some (.ret (LV.ltup [LV.int .i64 (0:Int),LV.int .i64 (8:Int)]) μ)) (
 opt (Ik ρ a μ) (kB ρ 72 H72 [])):=by kernel_rfl
def EO (o0_0 o0_1:Int)(o0_2:List UInt8)(o1_0 o1_1:Int)(o1_2:List UInt8):SegD:=⟨H73,[(4,0)],cA 73 [1,1],mS [(2,LV.loc 0 0),(3,LV.loc 1 0)] [Ob.cells [LV.int .i64 o0_0,LV.int .i64 o0_1,LV.str o0_2],Ob.cells [LV.int .i64 o1_0,LV.int .i64 o1_1,LV.str o1_2]]⟩
def nG (o0_0 o0_1:Int)(o0_2:List UInt8)(o1_0 o1_1:Int)(o1_2:List UInt8)(μ:Mu):=(EO o0_0 o0_1 o0_2 o1_0 o1_1 o1_2).seg ρ μ
def jG (x4:Bool)(μ:Mu):St:= .ret (mS [(4,LV.bool x4)] []) μ
def GK (pv:CV)(μ:Mu):St:= .panic pv (mS [] []) μ
theorem JB (o0_0 o0_1 o0_2 o1_0 o1_1 o1_2 μ):(EO o0_0 o0_1 o0_2 o1_0 o1_1 o1_2).sK ρ μ=
 aA (bK (List.length o0_2 + List.length o1_2)) (
 callK (ρ.call 78 [LV.str (o0_2 ++ o1_2), LV.bool false] μ) (fun v1 μ2 =>
 opt (aQ v1) fun xs5=>
 opt (aw xs5) fun q6=>
 opt (cP q6.1) fun c7=>
 opt (aw q6.2) fun q8=>
 opt (aH .i64 q8.1) fun n9=>
 opt (aw q8.2) fun q10=>
 opt (aH .i64 q10.1) fun n11=>
 opt (aK q10.2) fun u12=>
 cond (!decide (n11 = (0 : Int))) (
 some (jG true μ2)) (
 cond (!decide (n9 = (2 : Int))) (
 some (jG true μ2)) (
 opt (jj (LV.cv c7)) fun b13=>
 aA (!b13) (
 opt (fR (LV.cv (j2 c7))) fun cs14=>
 opt (aw cs14) fun q15=>
 opt (aN (LV.cv q15.1)) fun s16=>
 opt (aw q15.2) fun q17=>
 opt (aT (LV.cv q17.1)) fun b18=>
 opt (aw q17.2) fun q19=>
 opt (bM (LV.cv q19.1)) fun l20=>
 opt (aw q19.2) fun q21=>
 opt (bM (LV.cv q21.1)) fun l22=>
 opt (aK q21.2) fun u23=>
 opt (dT l20 (0:Int)) fun c24=>
 dC (LV.cv c24) fun n25 n26 s27=>
 cond (!(decide (n25 = o0_0) && (decide (n26 = o0_1) && (decide (s27 = o0_2) && true)))) (
 some (jG true μ2)) (
 opt (jj (LV.cv c7)) fun b28=>
 aA (!b28) (
 opt (fR (LV.cv (j2 c7))) fun cs29=>
 opt (aw cs29) fun q30=>
 opt (aN (LV.cv q30.1)) fun s31=>
 opt (aw q30.2) fun q32=>
 opt (aT (LV.cv q32.1)) fun b33=>
 opt (aw q32.2) fun q34=>
 opt (bM (LV.cv q34.1)) fun l35=>
 opt (aw q34.2) fun q36=>
 opt (bM (LV.cv q36.1)) fun l37=>
 opt (aK q36.2) fun u38=>
 opt (dT l35 (1:Int)) fun c39=>
 dC (LV.cv c39) fun n40 n41 s42=>
 some (jG (!(decide (n40=o1_0)&&(decide (n41=o1_1)&&(decide (s42=o1_2)&&true)))) μ2))))))) (pX GK)):=by kernel_rfl
theorem Dm (x4 μ):kB ρ 73 H73 [] (jG x4 μ)=
 some (.ret (LV.bool x4) μ):=by kernel_rfl
theorem MQ (a_0 a_1 a_2 b_0 b_1 b_2 μ):aJ E ρ 73 [LV.cv (CV.agg [CV.int .i64 a_0,CV.int .i64 a_1,CV.str a_2]),LV.cv (CV.agg [CV.int .i64 b_0,CV.int .i64 b_1,CV.str b_2])] μ=
 cond (decide (a_0 = (1 : Int))) (
 cond (decide (a_1 = (0 : Int))) (
 cond (decide (b_2 = ([69] : List UInt8))) (
 some (.ret (LV.bool true) μ)) (
 cond (decide (b_2 = ([68] : List UInt8))) (
 some (.ret (LV.bool true) μ)) (
 opt (nG ρ a_0 a_1 a_2 b_0 b_1 b_2 μ) (kB ρ 73 H73 [])))) (
 cond (decide (a_1 = (1 : Int))) (
 callK (ρ.call 115 [LV.str a_2, LV.str ([69] : List UInt8)] μ) (fun v44 μ45 =>
 opt (aT v44) fun b48=>
 cond (!b48) (
 cond (decide (b_2 = ([69] : List UInt8))) (
 some (.ret (LV.bool true) μ45)) (
 cond (decide (b_2 = ([68] : List UInt8))) (
 some (.ret (LV.bool true) μ45)) (
 opt (nG ρ a_0 a_1 a_2 b_0 b_1 b_2 μ45) (kB ρ 73 H73 [])))) (
 opt (nG ρ a_0 a_1 a_2 b_0 b_1 b_2 μ45) (kB ρ 73 H73 []))) pP) (
 opt (nG ρ a_0 a_1 a_2 b_0 b_1 b_2 μ) (kB ρ 73 H73 [])))) (
 opt (nG ρ a_0 a_1 a_2 b_0 b_1 b_2 μ) (kB ρ 73 H73 [])):=by kernel_rfl
theorem MR (al ai b μ):aJ E ρ 74 [LV.cv (CV.tref al ai 103 2),LV.int .u8 b] μ=
 callK (ρ.call 116 [LV.cv (CV.tref al ai 103 2)] μ) (fun v1 μ2 =>
 opt (aQ v1) fun xs5=>
 opt (aK xs5) fun u6=>
 opt (gw E.P 101 (aU μ2 al ai) 1) fun r7=>
 opt (eI r7.1) fun l8=>
 aA (gI 1 l8 [CV.int .u8 b]) (
 aA (bx (al + 1) (l8 ++ [CV.int .u8 b])) (
 opt (bv E.P 101 (aU (bp μ2 al ai r7.2) al ai) 1 (LV.osl (l8++[CV.int .u8 b]))) fun o9=>
 some (.ret (LV.cv (CV.v (.nilIface))) (bp (bp μ2 al ai r7.2) al ai o9))))) pP:=by kernel_rfl
theorem MS (al ai b μ):aJ E ρ 75 [LV.cv (CV.tref al ai 103 2),LV.str b] μ=
 callK (ρ.call 116 [LV.cv (CV.tref al ai 103 2)] μ) (fun v1 μ2 =>
 opt (aQ v1) fun xs5=>
 opt (aK xs5) fun u6=>
 opt (gw E.P 101 (aU μ2 al ai) 1) fun r7=>
 opt (eI r7.1) fun l8=>
 aA ((Nat.beq 1 1 && bK (List.length l8 + List.length b)) && e7 1 l8) (
 aA (bx (al + 1) (l8 ++ bb b)) (
 opt (bv E.P 101 (aU (bp μ2 al ai r7.2) al ai) 1 (LV.osl (l8++bb b))) fun o9=>
 some (.ret (LV.ltup [LV.int .i64 (List.length b:Int),LV.cv (CV.v (.nilIface))]) (bp (bp μ2 al ai r7.2) al ai o9))))) pP:=by kernel_rfl
theorem MT (al ai μ):aJ E ρ 76 [LV.cv (CV.tref al ai 103 2)] μ=
 opt (bA E.P 101 (aU μ al ai) 1) fun v1=>
 opt (bM v1) fun l2=>
 some (.ret (LV.int .i64 (List.length l2:Int)) μ):=by kernel_rfl
def EP (o0_0:List UInt8)(o0_1:Bool):SegD:=⟨H78,[(4,0),(5,0),(6,0)],cA 78 [1,1,1],mS [(7,LV.loc 0 0)] [Ob.cells [LV.str o0_0,LV.bool o0_1,LV.cv (CV.v (.slice none 0 0)),LV.cv (CV.v (.slice none 0 0))]]⟩
def Il (o0_0:List UInt8)(o0_1:Bool)(μ:Mu):=(EP o0_0 o0_1).seg ρ μ
def EQ (x9 x10:Int)(lam:Lam):SegD:=⟨H78,[(7,0)],cA 78 [1,1,1,0,1],mS [(7,LV.loc 0 0),(9,LV.int .i64 x9),(10,LV.int .i64 x10)] lam true⟩
def B9 (x9 x10:Int)(lam:Lam)(μ:Mu):=(EQ x9 x10 lam).seg ρ μ
def sa (x4_0:List UInt8)(x4_1:Bool)(x4_2 x4_3:List CV)(x5 x6:Int)(μ:Mu):St:= .ret (mS [(4,LV.cv (CV.view [CV.str x4_0,CV.bool x4_1,CV.sl x4_2,CV.sl x4_3])),(5,LV.int .i64 x5),(6,LV.int .i64 x6)] [Ob.dead] true) μ
def sb (o0_0:List UInt8)(o0_1:Bool)(o0_2 o0_3:List CV)(μ:Mu):St:= .norm (mS [(7,LV.loc 0 0)] [Ob.cells [LV.str o0_0,LV.bool o0_1,LV.osl o0_2,LV.osl o0_3]] true) μ
def nY (x4_0:List UInt8)(x4_1:Bool)(x4_2 x4_3:List CV)(x5 x6:Int)(μ:Mu):St:= .ret (mS [(4,LV.cv (CV.view [CV.str x4_0,CV.bool x4_1,CV.sl x4_2,CV.sl x4_3])),(5,LV.int .i64 x5),(6,LV.int .i64 x6)] [Ob.dead] true) μ
def ER (lam:Lam):SegD:=⟨H78,[(4,0),(5,0),(6,0)],cA 78 [1,1,1,1],mS [(7,LV.loc 0 0)] lam true⟩
def Ca (lam:Lam)(μ:Mu):=(ER lam).seg ρ μ
def sc (x4_0:List UInt8)(x4_1:Bool)(x4_2 x4_3:List CV)(x5 x6:Int)(μ:Mu):St:= .ret (mS [(4,LV.cv (CV.view [CV.str x4_0,CV.bool x4_1,CV.sl x4_2,CV.sl x4_3])),(5,LV.int .i64 x5),(6,LV.int .i64 x6)] [Ob.dead] true) μ
def Br (x7_0:List UInt8)(x7_1:Bool)(x7_2 x7_3:List CV)(lam:Lam):SegD:=⟨H78,[(4,0),(5,0),(6,0)],cA 78 [1,1,1,1,1],mS [(7,LV.cv (CV.view [CV.str x7_0,CV.bool x7_1,CV.sl x7_2,CV.sl x7_3]))] lam true⟩
def Eb (x7_0:List UInt8)(x7_1:Bool)(x7_2 x7_3:List CV)(lam:Lam)(μ:Mu):=(Br x7_0 x7_1 x7_2 x7_3 lam).seg ρ μ
def pI (x4_0:List UInt8)(x4_1:Bool)(x4_2 x4_3:List CV)(x5 x6:Int)(o0:Ob)(μ:Mu):St:= .ret (mS [(4,LV.cv (CV.view [CV.str x4_0,CV.bool x4_1,CV.sl x4_2,CV.sl x4_3])),(5,LV.int .i64 x5),(6,LV.int .i64 x6)] [o0] true) μ
def sd (x4_0:List UInt8)(x4_1:Bool)(x4_2 x4_3:List CV)(x5 x6:Int)(o0:Ob)(μ:Mu):St:= .ret (mS [(4,LV.cv (CV.view [CV.str x4_0,CV.bool x4_1,CV.sl x4_2,CV.sl x4_3])),(5,LV.int .i64 x5),(6,LV.int .i64 x6)] [o0] true) μ
def r9 (x4_0:List UInt8)(x4_1:Bool)(x4_2 x4_3:List CV)(x5 x6:Int)(o0:Ob)(μ:Mu):St:= .ret (mS [(4,LV.cv (CV.view [CV.str x4_0,CV.bool x4_1,CV.sl x4_2,CV.sl x4_3])),(5,LV.int .i64 x5),(6,LV.int .i64 x6)] [o0] true) μ
def GL (pv:CV)(lam:Lam)(μ:Mu):St:= .panic pv (mS [] lam true) μ
theorem BL (x9 x10:Int)(o0_0:List UInt8)(o0_1:Bool)(o0_2 o0_3:List CV)(μ:Mu):(EQ x9 x10 [Ob.cells [LV.str o0_0,LV.bool o0_1,LV.osl o0_2,LV.osl o0_3]]).sK ρ μ=
 cond (!decide (x10 = (0 : Int))) (
 some (sa o0_0 o0_1 o0_2 o0_3 x9 x10 μ)) (
 some (sb o0_0 o0_1 o0_2 o0_3 μ)):=by kernel_rfl
theorem Dp (x4_0 x4_1 x4_2 x4_3 x5 x6 μ):kS ρ H78 [.seq (cA 78 [1,1,1,1])] [(4,0),(5,0),(6,0)] (sa x4_0 x4_1 x4_2 x4_3 x5 x6 μ)=
 some (nY x4_0 x4_1 x4_2 x4_3 x5 x6 μ):=by kernel_rfl
theorem HG (x7_0:List UInt8)(x7_1:Bool)(x7_2 x7_3:List CV)(o0:Ob)(μ:Mu):(Br x7_0 x7_1 x7_2 x7_3 [o0]).sK ρ μ=
 some (pI x7_0 x7_1 x7_2 x7_3 (List.length x7_2:Int) (0:Int) o0 μ):=by kernel_rfl
theorem Au (x4_0 x4_1 x4_2 x4_3 x5 x6 o0 μ):kS ρ H78 [] [(4,0),(5,0),(6,0)] (pI x4_0 x4_1 x4_2 x4_3 x5 x6 o0 μ)=
 some (sd x4_0 x4_1 x4_2 x4_3 x5 x6 o0 μ):=by kernel_rfl
theorem BM (o0_0:List UInt8)(o0_1:Bool)(o0_2 o0_3:List CV)(μ:Mu):(ER [Ob.cells [LV.str o0_0,LV.bool o0_1,LV.osl o0_2,LV.osl o0_3]]).sK ρ μ=
 cond (decide ((300 : Int) < (List.length o0_2 : Int))) (
 some (sc o0_0 o0_1 o0_2 o0_3 (0:Int) (8:Int) μ)) (
 opt (Eb ρ o0_0 o0_1 o0_2 o0_3 [Ob.dead] μ) (kS ρ H78 [] [(4,0),(5,0),(6,0)])):=by kernel_rfl
theorem Dr (x4_0 x4_1 x4_2 x4_3 x5 x6 μ):kS ρ H78 [] [(4,0),(5,0),(6,0)] (sc x4_0 x4_1 x4_2 x4_3 x5 x6 μ)=
 some (nY x4_0 x4_1 x4_2 x4_3 x5 x6 μ):=by kernel_rfl
theorem Ds (x4_0 x4_1 x4_2 x4_3 x5 x6 o0 μ):kS ρ H78 [] [(4,0),(5,0),(6,0)] (sd x4_0 x4_1 x4_2 x4_3 x5 x6 o0 μ)=
 some (r9 x4_0 x4_1 x4_2 x4_3 x5 x6 o0 μ):=by kernel_rfl
theorem Dq (o0_0 o0_1 o0_2 o0_3 μ):kS ρ H78 [.seq (cA 78 [1,1,1,1])] [(4,0),(5,0),(6,0)] (sb o0_0 o0_1 o0_2 o0_3 μ)=
 opt (Ca ρ [Ob.cells [LV.str o0_0,LV.bool o0_1,LV.osl o0_2,LV.osl o0_3]] μ) (kS ρ H78 [] [(4,0),(5,0),(6,0)]):=by kernel_rfl
theorem JC (o0_0 o0_1 μ):(EP o0_0 o0_1).sK ρ μ=
 callK (ρ.call 118 [LV.cv (CV.ref (List.length μ) 0 0)] (μ ++ [[Ob.cells [LV.str o0_0, LV.bool o0_1, LV.cv (CV.v (.slice none 0 0)), LV.cv (CV.v (.slice none 0 0))]]])) (fun v6 μ7 =>
 opt (cZ μ7) fun q8=>
 opt (aQ v6) fun xs12=>
 opt (aw xs12) fun q13=>
 opt (aH .i64 q13.1) fun n14=>
 opt (aw q13.2) fun q15=>
 opt (aH .i64 q15.1) fun n16=>
 opt (aK q15.2) fun u17=>
 mN [(0,[0,0,1,1])] q8.2 fun lam18=>
 opt (B9 ρ n14 n16 lam18 q8.1) (kS ρ H78 [.seq (cA 78 [1,1,1,1])] [(4,0),(5,0),(6,0)])) (fun v10 μ9=>
 opt (cZ μ9) fun q11=>
 some (GL v10 q11.2 q11.1)):=by kernel_rfl
theorem Dn (x4_0 x4_1 x4_2 x4_3 x5 x6 μ):kB ρ 78 H78 [] (nY x4_0 x4_1 x4_2 x4_3 x5 x6 μ)=
 aA (eU (List.length μ) (LV.ltup [LV.cv (CV.view [CV.str x4_0,CV.bool x4_1,CV.sl x4_2,CV.sl x4_3]),LV.int .i64 x5,LV.int .i64 x6])) (some (.ret (LV.ltup [LV.cv (CV.view [CV.str x4_0,CV.bool x4_1,CV.sl x4_2,CV.sl x4_3]),LV.int .i64 x5,LV.int .i64 x6]) μ)):=by kernel_rfl
theorem Do (x4_0 x4_1 x4_2 x4_3 x5 x6 o0 μ):kB ρ 78 H78 [] (r9 x4_0 x4_1 x4_2 x4_3 x5 x6 o0 μ)=
 aA (eU (List.length μ) (LV.ltup [LV.cv (CV.view [CV.str x4_0,CV.bool x4_1,CV.sl x4_2,CV.sl x4_3]),LV.int .i64 x5,LV.int .i64 x6])) (some (.ret (LV.ltup [LV.cv (CV.view [CV.str x4_0,CV.bool x4_1,CV.sl x4_2,CV.sl x4_3]),LV.int .i64 x5,LV.int .i64 x6]) μ)):=by kernel_rfl
theorem MU (a b μ):aJ E ρ 78 [LV.str a,LV.bool b] μ=
 callK (ρ.call 117 [LV.str a] μ) (fun v1 μ2 =>
 opt (aH .i64 v1) fun n5=>
 cond (!decide (n5 = (0 : Int))) (
 some (.ret (LV.ltup [LV.cv (CV.view [CV.str a,CV.bool b,CV.v (.slice none 0 0),CV.v (.slice none 0 0)]),LV.int .i64 (0:Int),LV.int .i64 n5]) μ2)) (
 opt (Il ρ a b μ2) (kB ρ 78 H78 []))) pP:=by kernel_rfl
theorem MV (a μ):aJ E ρ 85 [LV.str a] μ=
 callK (ρ.call 43 [LV.str a, LV.cv (CV.clo 122 [])] μ) (fun v1 μ2 =>
 opt (aT v1) fun b5=>
 some (.ret (LV.bool (!b5)) μ2)) pP:=by kernel_rfl
theorem MW (a μ):aJ E ρ 86 [LV.str a] μ=
 callK (ρ.call 84 [LV.str a, LV.str ([39] : List UInt8), LV.str ([39, 39] : List UInt8)] μ) (fun v1 μ2 =>
 opt (aN v1) fun s5=>
 aA (bK (List.length ([39] : List UInt8) + List.length s5)) (
 aA (bK (List.length (([39] : List UInt8) ++ s5) + List.length ([39] : List UInt8))) (
 some (.ret (LV.cv (CV.agg [CV.int .i64 (1:Int),CV.int .i64 (6:Int),CV.str ((([39]:List UInt8)++s5)++([39]:List UInt8))])) μ2)))) pP:=by kernel_rfl
theorem MX (a μ):aJ E ρ 90 [LV.int .u8 a] μ=
 cond (decide ((97 : Int) ≤ a)) (
 cond (decide (a ≤ (122 : Int))) (
 some (.ret (LV.bool true) μ)) (
 cond (decide ((65 : Int) ≤ a)) (
 some (.ret (LV.bool (decide (a≤(90:Int)))) μ)) (
 some (.ret (LV.bool false) μ)))) (
 cond (decide ((65 : Int) ≤ a)) (
 some (.ret (LV.bool (decide (a≤(90:Int)))) μ)) (
 some (.ret (LV.bool false) μ))):=by kernel_rfl
theorem MY (a μ):aJ E ρ 93 [LV.int .u8 a] μ=
 callK (ρ.call 90 [LV.int .u8 a] μ) (fun v1 μ2 =>
 opt (aT v1) fun b5=>
 cond (b5) (
 some (.ret (LV.bool true) μ2)) (
 callK (ρ.call 132 [LV.int .u8 a] μ2) (fun v6 μ7 =>
 opt (aT v6) fun b10=>
 cond (b10) (
 some (.ret (LV.bool true) μ7)) (
 some (.ret (LV.bool (decide (a=(95:Int)))) μ7))) pP)) pP:=by kernel_rfl
def E6 (x0:List CV)(x1:List UInt8)(x7 x8:Int):SegD:=⟨H94,[],cA 94 [1,0,1,0,0],mS [(0,LV.cv (CV.sl x0)),(1,LV.str x1),(7,LV.int .i64 x7),(8,LV.int .i64 x8)] []⟩
def Cj (x0:List CV)(x1:List UInt8)(x7 x8:Int)(μ:Mu):=(E6 x0 x1 x7 x8).loop ρ μ
def sv (x4:Int)(μ:Mu):St:= .ret (mS [(4,LV.int .i64 x4)] []) μ
def sw (μ:Mu):St:= .exit 0 (mS [] []) μ
theorem BS (x0 x1 x7 x8 μ):(E6 x0 x1 x7 x8).rK ρ μ=
 cond (decide (x8 < x7)) (
 opt (dT x0 x8) fun c1=>
 opt (aN (LV.cv c1)) fun s2=>
 cond (decide (x1 = s2)) (
 some (sv x8 μ)) (
 Cj ρ x0 x1 x7 (IntKind.wrap .i64 (x8+(1:Int))) μ)) (
 some (sw μ)):=by kernel_rfl
theorem DG (x4 μ):kB ρ 94 H94 [.block 0,.seq (cA 94 [1,1])] (sv x4 μ)=
 some (.ret (LV.int .i64 x4) μ):=by kernel_rfl
theorem DH (μ):kB ρ 94 H94 [.block 0,.seq (cA 94 [1,1])] (sw μ)=
 some (.ret (LV.int .i64 (-1:Int)) μ):=by kernel_rfl
theorem MZ (a b μ):aJ E ρ 94 [LV.cv (CV.sl a),LV.str b] μ=
 opt (Cj ρ a b (List.length a:Int) (0:Int) μ) (kB ρ 94 H94 [.block 0,.seq (cA 94 [1,1])]):=by kernel_rfl
theorem LI (a μ):aJ E ρ 117 [LV.str a] μ=
 cond (decide ((1320 : Int) < (List.length a : Int))) (
 some (.ret (LV.int .i64 (8:Int)) μ)) (
 callK (ρ.call 85 [LV.str a] μ) (fun v1 μ2 =>
 opt (aT v1) fun b5=>
 cond (!b5) (
 some (.ret (LV.int .i64 (3:Int)) μ2)) (
 some (.ret (LV.int .i64 (0:Int)) μ2))) pP):=by kernel_rfl
def Bs (x0l x0i:Nat)(x2 o0_0:Int):SegD:=⟨kO,[(0,0),(2,0),(3,0),(6,0)],cA 118 [1,1,0,0],mS [(0,LV.cv (CV.ref x0l x0i 0)),(2,LV.int .i64 x2),(3,LV.loc 0 0),(6,LV.lclo 147 [LV.loc 0 0])] [Ob.cells [LV.int .i64 o0_0]]⟩
def wY (x0l x0i:Nat)(x2 o0_0:Int)(μ:Mu):=(Bs x0l x0i x2 o0_0).loop ρ μ
def xE (x0l x0i:Nat)(x2 o0_0:Int):SegD:=⟨kO,[(0,0),(2,0),(3,0),(6,0)],cA 118 [1,1,0,0,0,0,0,0],mS [(0,LV.cv (CV.ref x0l x0i 0)),(2,LV.int .i64 x2),(3,LV.loc 0 0),(6,LV.lclo 147 [LV.loc 0 0])] [Ob.cells [LV.int .i64 o0_0]]⟩
def uH (x0l x0i:Nat)(x2 o0_0:Int)(μ:Mu):=(xE x0l x0i x2 o0_0).loop ρ μ
def k8 (x0l x0i:Nat)(x2 o0_0:Int)(μ:Mu):St:= .exit 2 (mS [(0,LV.cv (CV.ref x0l x0i 0)),(2,LV.int .i64 x2),(3,LV.loc 0 0),(6,LV.lclo 147 [LV.loc 0 0])] [Ob.cells [LV.int .i64 o0_0]]) μ
def pJ (x2 o0_0:Int)(μ:Mu):St:= .ret (mS [(2,LV.int .i64 x2),(3,LV.loc 0 0),(6,LV.lclo 147 [LV.loc 0 0])] [Ob.cells [LV.int .i64 o0_0]]) μ
def A7 (x0l x0i:Nat)(x2 o0_0:Int):SegD:=⟨kO,[(0,0),(2,0),(3,0),(6,0)],cA 118 [1,1,0,0,0,1,1],mS [(0,LV.cv (CV.ref x0l x0i 0)),(2,LV.int .i64 x2),(3,LV.loc 0 0),(6,LV.lclo 147 [LV.loc 0 0])] [Ob.cells [LV.int .i64 o0_0]]⟩
def wQ (x0l x0i:Nat)(x2 o0_0:Int)(μ:Mu):=(A7 x0l x0i x2 o0_0).seg ρ μ
def pp (x0l x0i:Nat)(x2 o0_0:Int)(μ:Mu):St:= .norm (mS [(0,LV.cv (CV.ref x0l x0i 0)),(2,LV.int .i64 x2),(3,LV.loc 0 0),(6,LV.lclo 147 [LV.loc 0 0])] [Ob.cells [LV.int .i64 o0_0]]) μ
def pr (pv:CV)(x2 o0_0:Int)(μ:Mu):St:= .panic pv (mS [(2,LV.int .i64 x2),(3,LV.loc 0 0),(6,LV.lclo 147 [LV.loc 0 0])] [Ob.cells [LV.int .i64 o0_0]]) μ
def pK (pv:CV)(x2 o0_0:Int)(μ:Mu):St:= .panic pv (mS [(2,LV.int .i64 x2),(3,LV.loc 0 0),(6,LV.lclo 147 [LV.loc 0 0])] [Ob.cells [LV.int .i64 o0_0]]) μ
theorem vP (x0l x0i x2 o0_0 μ):(xE x0l x0i x2 o0_0).rK ρ μ=
 opt (bA E.P 9 (aU μ x0l x0i) 0) fun v1=>
 opt (aN v1) fun s2=>
 cond (decide (x2 < (List.length s2 : Int))) (
 opt (bA E.P 9 (aU μ x0l x0i) 0) fun v3=>
 opt (aN v3) fun s4=>
 opt (gZ s4 x2) fun y5=>
 cond (decide ((y5.toNat : Int) = (32 : Int))) (
 uH ρ x0l x0i (IntKind.wrap .i64 (x2+(1:Int))) o0_0 μ) (
 some (k8 x0l x0i x2 o0_0 μ))) (
 some (k8 x0l x0i x2 o0_0 μ)):=by kernel_rfl
theorem yl (x0l x0i x2 o0_0 μ):(A7 x0l x0i x2 o0_0).sK ρ μ=
 callK (ρ.call 148 [LV.cv (CV.ref x0l x0i 0), LV.int .i64 x2] μ) (fun v8 μ9 =>
 opt (aQ v8) fun xs12=>
 opt (aw xs12) fun q13=>
 dC q13.1 fun n14 n15 s16=>
 opt (aw q13.2) fun q17=>
 opt (aH .i64 q17.1) fun n18=>
 opt (aK q17.2) fun u19=>
 opt (gw E.P 32 (aU μ9 x0l x0i) 2) fun r20=>
 opt (eI r20.1) fun l21=>
 aA (gI 3 l21 [CV.agg [CV.int .i64 n14, CV.int .i64 n15, CV.str s16]]) (
 aA (bx (x0l + 1) (l21 ++ [CV.agg [CV.int .i64 n14, CV.int .i64 n15, CV.str s16]])) (
 opt (bv E.P 32 (aU (bp μ9 x0l x0i r20.2) x0l x0i) 2 (LV.osl (l21++[CV.agg [CV.int .i64 n14,CV.int .i64 n15,CV.str s16]]))) fun o22=>
 some (pp x0l x0i n18 o0_0 (bp (bp μ9 x0l x0i r20.2) x0l x0i o22))))) (fun v11 μ10=>
 some (pr v11 x2 o0_0 μ10)):=by kernel_rfl
theorem zU (x0l x0i x2 o0_0 μ):kR ρ kO [.block 1] [(0,0),(2,0),(3,0),(6,0)] (cA 118 [1,1,0,0]) (pp x0l x0i x2 o0_0 μ)=
 wY ρ x0l x0i x2 o0_0 μ:=by kernel_rfl
theorem zV (pv x2 o0_0 μ):kR ρ kO [.block 1] [(0,0),(2,0),(3,0),(6,0)] (cA 118 [1,1,0,0]) (pr pv x2 o0_0 μ)=
 some (pK pv x2 o0_0 μ):=by kernel_rfl
theorem yC (x0l x0i x2 o0_0 μ):kR ρ kO [.block 2,.seq (cA 118 [1,1,0,0,0,1]),.block 1] [(0,0),(2,0),(3,0),(6,0)] (cA 118 [1,1,0,0]) (k8 x0l x0i x2 o0_0 μ)=
 opt (bA E.P 9 (aU μ x0l x0i) 0) fun v6=>
 opt (aN v6) fun s7=>
 cond (decide ((List.length s7 : Int) ≤ x2)) (
 some (pJ (0:Int) (0:Int) μ)) (
 opt (wQ ρ x0l x0i x2 o0_0 μ) (kR ρ kO [.block 1] [(0,0),(2,0),(3,0),(6,0)] (cA 118 [1,1,0,0]))):=by kernel_rfl
theorem HH (x0l x0i x2 o0_0 μ):(Bs x0l x0i x2 o0_0).rK ρ μ=
 opt (uH ρ x0l x0i x2 o0_0 μ) (kR ρ kO [.block 2,.seq (cA 118 [1,1,0,0,0,1]),.block 1] [(0,0),(2,0),(3,0),(6,0)] (cA 118 [1,1,0,0])):=by kernel_rfl
theorem Av (x2 o0_0 μ):hI E.P ρ kO [.block 0] (pJ x2 o0_0 μ) (uQ E.P ρ 6 (wL E.P 118))=
 opt (ρ.dcall 147 none [LV.cv (CV.ref (List.length μ) 0 0)] (μ++[[Ob.cells [LV.int .i64 o0_0]]])) fun μ25=>
 opt (cZ μ25) fun q26=>
 opt (opt (opt (bA E.P 25 (aD q26.2 0) 0) fun v27 =>
 some [v27]) fun l28=>some (LV.int .i64 x2::l28)) fun l29=>aA (m5 (dX l29)) (aA (eU (List.length q26.1) (dX l29)) (some (.ret (dX l29) q26.1))):=by kernel_rfl
theorem Aw (pv x2 o0_0 μ):hI E.P ρ kO [.block 0] (pK pv x2 o0_0 μ) (uQ E.P ρ 6 (wL E.P 118))=
 opt (ρ.dcall 147 (some pv) [LV.cv (CV.ref (List.length μ) 0 0)] (μ++[[Ob.cells [LV.int .i64 o0_0]]])) fun μ30=>
 opt (cZ μ30) fun q31=>
 opt (opt (opt (bA E.P 25 (aD q31.2 0) 0) fun v32 =>
 some [v32]) fun l33=>some (LV.int .i64 x2::l33)) fun l34=>aA (m5 (dX l34)) (aA (eU (List.length q31.1) (dX l34)) (some (.ret (dX l34) q31.1))):=by kernel_rfl
theorem LJ (al ai μ):aJ E ρ 118 [LV.cv (CV.ref al ai 0)] μ=
 opt (wY ρ al ai (0:Int) (0:Int) μ) fun st35=>hI E.P ρ kO [.block 0] st35 (uQ E.P ρ 6 (wL E.P 118)):=by kernel_rfl
theorem LK (a μ):aJ E ρ 132 [LV.int .u8 a] μ=
 cond (decide ((48 : Int) ≤ a)) (
 some (.ret (LV.bool (decide (a≤(57:Int)))) μ)) (
 some (.ret (LV.bool false) μ)):=by kernel_rfl
theorem Jr (al ai μ):fo E ρ 147 none [LV.cv (CV.ref al ai 0)] μ=
 some μ:=by kernel_rfl
theorem Js (e al ai μ):fo E ρ 147 (some (CV.iface 162 (CV.agg [CV.int .i64 e]))) [LV.cv (CV.ref al ai 0)] μ=
 opt (bv E.P 25 (aU μ al ai) 0 (LV.int .i64 e)) fun o1=>
 some (bp μ al ai o1):=by kernel_rfl
def A9 (x0l x0i:Nat)(x1 x6 o0_0 o0_1:Int)(o0_2:List UInt8):SegD:=⟨d6,[(4,0),(5,0)],cA 148 [1,1,1],mS [(0,LV.cv (CV.ref x0l x0i 0)),(1,LV.int .i64 x1),(4,LV.loc 0 0),(6,LV.int .u8 x6)] [Ob.cells [LV.int .i64 o0_0,LV.int .i64 o0_1,LV.str o0_2]]⟩
def pj (x0l x0i:Nat)(x1 x6 o0_0 o0_1:Int)(o0_2:List UInt8)(μ:Mu):=(A9 x0l x0i x1 x6 o0_0 o0_1 o0_2).seg ρ μ
def cq (x5 o0_0 o0_1:Int)(o0_2:List UInt8)(μ:Mu):St:= .ret (mS [(4,LV.loc 0 0),(5,LV.int .i64 x5)] [Ob.cells [LV.int .i64 o0_0,LV.int .i64 o0_1,LV.str o0_2]]) μ
def bo (pv:CV)(μ:Mu):St:= .panic pv (mS [] []) μ
def xu (x14:List UInt8)(x15 o0_0 o0_1:Int)(o0_2:List UInt8):SegD:=⟨d6,[(0,0),(1,0),(4,0)],cA 148 [1,1,1,1,0,0,1,1,1,1,1,0,1,1],mS [(4,LV.loc 0 0),(14,LV.str x14),(15,LV.int .i64 x15)] [Ob.cells [LV.int .i64 o0_0,LV.int .i64 o0_1,LV.str o0_2]]⟩
def iG (x14:List UInt8)(x15 o0_0 o0_1:Int)(o0_2:List UInt8)(μ:Mu):=(xu x14 x15 o0_0 o0_1 o0_2).seg ρ μ
def i7 (x5 o0_0 o0_1:Int)(o0_2:List UInt8)(μ:Mu):St:= .ret (mS [(4,LV.loc 0 0),(5,LV.int .i64 x5)] [Ob.cells [LV.int .i64 o0_0,LV.int .i64 o0_1,LV.str o0_2]]) μ
def xv (x0l x0i:Nat)(x1 o0_0 o0_1:Int)(o0_2:List UInt8):SegD:=⟨d6,[(4,0),(5,0)],cA 148 [1,1,1,1,1],mS [(0,LV.cv (CV.ref x0l x0i 0)),(1,LV.int .i64 x1),(4,LV.loc 0 0)] [Ob.cells [LV.int .i64 o0_0,LV.int .i64 o0_1,LV.str o0_2]]⟩
def mU (x0l x0i:Nat)(x1 o0_0 o0_1:Int)(o0_2:List UInt8)(μ:Mu):=(xv x0l x0i x1 o0_0 o0_1 o0_2).seg ρ μ
def nN (x5 o0_0 o0_1:Int)(o0_2:List UInt8)(μ:Mu):St:= .ret (mS [(4,LV.loc 0 0),(5,LV.int .i64 x5)] [Ob.cells [LV.int .i64 o0_0,LV.int .i64 o0_1,LV.str o0_2]]) μ
def nO (pv:CV)(μ:Mu):St:= .panic pv (mS [] []) μ
theorem FD (x14 x15 o0_0 o0_1 o0_2 μ):(xu x14 x15 o0_0 o0_1 o0_2).sK ρ μ=
 cond (decide (x14 = ([46, 84, 82, 85, 69, 46] : List UInt8))) (
 some (i7 x15 (1:Int) (5:Int) x14 μ)) (
 cond (decide (x14 = ([46, 70, 65, 76, 83, 69, 46] : List UInt8))) (
 some (i7 x15 (1:Int) (5:Int) x14 μ)) (
 some (i7 x15 (2:Int) (0:Int) x14 μ))):=by kernel_rfl
theorem yr (x5 o0_0 o0_1 o0_2 μ):kS ρ d6 [.block 0,.seq (cA 148 [1,1,1,1,1])] [(4,0),(5,0)] (i7 x5 o0_0 o0_1 o0_2 μ)=
 some (cq x5 o0_0 o0_1 o0_2 μ):=by kernel_rfl
theorem FE (x0l x0i x1 o0_0 o0_1 o0_2 μ):(xv x0l x0i x1 o0_0 o0_1 o0_2).sK ρ μ=
 callK (ρ.call 174 [LV.cv (CV.ref x0l x0i 0), LV.int .i64 x1] μ) (fun v147 μ148 =>
 opt (aQ v147) fun xs151=>
 opt (aw xs151) fun q152=>
 dC q152.1 fun n153 n154 s155=>
 opt (aw q152.2) fun q156=>
 opt (aH .i64 q156.1) fun n157=>
 opt (aK q156.2) fun u158=>
 some (nN n157 n153 n154 s155 μ148)) (pX nO):=by kernel_rfl
theorem yt (x5 o0_0 o0_1 o0_2 μ):kS ρ d6 [] [(4,0),(5,0)] (nN x5 o0_0 o0_1 o0_2 μ)=
 some (cq x5 o0_0 o0_1 o0_2 μ):=by kernel_rfl
theorem yu (pv μ):kS ρ d6 [] [(4,0),(5,0)] (nO pv μ)=
 some (bo pv μ):=by kernel_rfl
theorem Ho (x0l x0i x1 x6 o0_0 o0_1 o0_2 μ):(A9 x0l x0i x1 x6 o0_0 o0_1 o0_2).sK ρ μ=
 callK (ρ.call 168 [LV.cv (CV.ref x0l x0i 0), LV.int .i64 (IntKind.wrap .i64 (x1 + (1 : Int)))] μ) (fun v28 μ29 =>
 opt (aQ v28) fun xs32=>
 opt (aw xs32) fun q33=>
 opt (aH .u8 q33.1) fun n34=>
 opt (aw q33.2) fun q35=>
 opt (aH .i64 q35.1) fun n36=>
 opt (aK q35.2) fun u37=>
 callK (ρ.call 90 [LV.int .u8 x6] μ29) (fun v38 μ39 =>
 opt (aT v38) fun b42=>
 cond (b42) (
 callK (ρ.call 169 [LV.cv (CV.ref x0l x0i 0), LV.int .i64 x1, LV.cv (CV.clo 93 [])] μ39) (fun v43 μ44 =>
 opt (aQ v43) fun xs47=>
 opt (aw xs47) fun q48=>
 opt (aN q48.1) fun s49=>
 opt (aw q48.2) fun q50=>
 opt (aH .i64 q50.1) fun n51=>
 opt (aK q50.2) fun u52=>
 cond (decide ((31 : Int) < (List.length s49 : Int))) (
 callK (ρ.call 170 [LV.int .i64 (4 : Int)] μ44) (fun v53 μ54 =>
 opt (aQ v53) fun xs57=>
 opt (aK xs57) fun u58=>
 callK (ρ.call 91 [LV.str s49] μ54) (fun v59 μ60 =>
 opt (aN v59) fun s63=>
 some (cq n51 (0:Int) (0:Int) s63 μ60)) (pX bo)) (pX bo)) (
 callK (ρ.call 91 [LV.str s49] μ44) (fun v64 μ65 =>
 opt (aN v64) fun s68=>
 some (cq n51 (0:Int) (0:Int) s68 μ65)) (pX bo))) (pX bo)) (
 callK (ρ.call 132 [LV.int .u8 x6] μ39) (fun v69 μ70 =>
 opt (aT v69) fun b73=>
 cond (b73) (
 callK (ρ.call 171 [LV.cv (CV.ref x0l x0i 0), LV.int .i64 x1] μ70) (fun v74 μ75 =>
 opt (aQ v74) fun xs78=>
 opt (aw xs78) fun q79=>
 dC q79.1 fun n80 n81 s82=>
 opt (aw q79.2) fun q83=>
 opt (aH .i64 q83.1) fun n84=>
 opt (aK q83.2) fun u85=>
 some (cq n84 n80 n81 s82 μ75)) (pX bo)) (
 cond (decide (x6 = (46 : Int))) (
 callK (ρ.call 132 [LV.int .u8 n34] μ70) (fun v86 μ87 =>
 opt (aT v86) fun b90=>
 cond (b90) (
 callK (ρ.call 171 [LV.cv (CV.ref x0l x0i 0), LV.int .i64 x1] μ87) (fun v91 μ92 =>
 opt (aQ v91) fun xs95=>
 opt (aw xs95) fun q96=>
 dC q96.1 fun n97 n98 s99=>
 opt (aw q96.2) fun q100=>
 opt (aH .i64 q100.1) fun n101=>
 opt (aK q100.2) fun u102=>
 some (cq n101 n97 n98 s99 μ92)) (pX bo)) (
 cond (decide (x6 = (46 : Int))) (
 callK (ρ.call 172 [LV.cv (CV.ref x0l x0i 0), LV.int .i64 x1] μ87) (fun v103 μ104 =>
 opt (aQ v103) fun xs107=>
 opt (aw xs107) fun q108=>
 opt (aN q108.1) fun s109=>
 opt (aw q108.2) fun q110=>
 opt (aH .i64 q110.1) fun n111=>
 opt (aw q110.2) fun q112=>
 opt (aT q112.1) fun b113=>
 opt (aK q112.2) fun u114=>
 cond (!b113) (
 callK (ρ.call 170 [LV.int .i64 (7 : Int)] μ104) (fun v115 μ116 =>
 opt (aQ v115) fun xs119=>
 opt (aK xs119) fun u120=>
 opt (iG ρ s109 n111 o0_0 o0_1 o0_2 μ116) (kS ρ d6 [.block 0,.seq (cA 148 [1,1,1,1,1])] [(4,0),(5,0)])) (pX bo)) (
 opt (iG ρ s109 n111 o0_0 o0_1 o0_2 μ104) (kS ρ d6 [.block 0,.seq (cA 148 [1,1,1,1,1])] [(4,0),(5,0)]))) (pX bo)) (
 cond (decide (x6 = (39 : Int))) (
 callK (ρ.call 173 [LV.cv (CV.ref x0l x0i 0), LV.int .i64 x1] μ87) (fun v123 μ124 =>
 opt (aQ v123) fun xs127=>
 opt (aw xs127) fun q128=>
 dC q128.1 fun n129 n130 s131=>
 opt (aw q128.2) fun q132=>
 opt (aH .i64 q132.1) fun n133=>
 opt (aK q132.2) fun u134=>
 some (cq n133 n129 n130 s131 μ124)) (pX bo)) (
 cond (decide (x6 = (34 : Int))) (
 callK (ρ.call 173 [LV.cv (CV.ref x0l x0i 0), LV.int .i64 x1] μ87) (fun v135 μ136 =>
 opt (aQ v135) fun xs139=>
 opt (aw xs139) fun q140=>
 dC q140.1 fun n141 n142 s143=>
 opt (aw q140.2) fun q144=>
 opt (aH .i64 q144.1) fun n145=>
 opt (aK q144.2) fun u146=>
 some (cq n145 n141 n142 s143 μ136)) (pX bo)) (
 opt (mU ρ x0l x0i x1 o0_0 o0_1 o0_2 μ87) (kS ρ d6 [] [(4,0),(5,0)])))))) (pX bo)) (
 cond (decide (x6 = (46 : Int))) (
 callK (ρ.call 172 [LV.cv (CV.ref x0l x0i 0), LV.int .i64 x1] μ70) (fun v160 μ161 =>
 opt (aQ v160) fun xs164=>
 opt (aw xs164) fun q165=>
 opt (aN q165.1) fun s166=>
 opt (aw q165.2) fun q167=>
 opt (aH .i64 q167.1) fun n168=>
 opt (aw q167.2) fun q169=>
 opt (aT q169.1) fun b170=>
 opt (aK q169.2) fun u171=>
 cond (!b170) (
 callK (ρ.call 170 [LV.int .i64 (7 : Int)] μ161) (fun v172 μ173 =>
 opt (aQ v172) fun xs176=>
 opt (aK xs176) fun u177=>
 opt (iG ρ s166 n168 o0_0 o0_1 o0_2 μ173) (kS ρ d6 [.block 0,.seq (cA 148 [1,1,1,1,1])] [(4,0),(5,0)])) (pX bo)) (
 opt (iG ρ s166 n168 o0_0 o0_1 o0_2 μ161) (kS ρ d6 [.block 0,.seq (cA 148 [1,1,1,1,1])] [(4,0),(5,0)]))) (pX bo)) (
 cond (decide (x6 = (39 : Int))) (
 callK (ρ.call 173 [LV.cv (CV.ref x0l x0i 0), LV.int .i64 x1] μ70) (fun v180 μ181 =>
 opt (aQ v180) fun xs184=>
 opt (aw xs184) fun q185=>
 dC q185.1 fun n186 n187 s188=>
 opt (aw q185.2) fun q189=>
 opt (aH .i64 q189.1) fun n190=>
 opt (aK q189.2) fun u191=>
 some (cq n190 n186 n187 s188 μ181)) (pX bo)) (
 cond (decide (x6 = (34 : Int))) (
 callK (ρ.call 173 [LV.cv (CV.ref x0l x0i 0), LV.int .i64 x1] μ70) (fun v192 μ193 =>
 opt (aQ v192) fun xs196=>
 opt (aw xs196) fun q197=>
 dC q197.1 fun n198 n199 s200=>
 opt (aw q197.2) fun q201=>
 opt (aH .i64 q201.1) fun n202=>
 opt (aK q201.2) fun u203=>
 some (cq n202 n198 n199 s200 μ193)) (pX bo)) (
 opt (mU ρ x0l x0i x1 o0_0 o0_1 o0_2 μ70) (kS ρ d6 [] [(4,0),(5,0)]))))))) (pX bo))) (pX bo)) (pX bo):=by kernel_rfl
theorem zY (x5 o0_0 o0_1 o0_2 μ):kB ρ 148 d6 [] (cq x5 o0_0 o0_1 o0_2 μ)=
 some (.ret (LV.ltup [LV.cv (CV.agg [CV.int .i64 o0_0,CV.int .i64 o0_1,CV.str o0_2]),LV.int .i64 x5]) μ):=by kernel_rfl
theorem zZ (pv μ):kB ρ 148 d6 [] (bo pv μ)=
 aA (below (List.length μ) pv) (some (.panic pv μ)):=by kernel_rfl
theorem LL (al ai b μ):aJ E ρ 148 [LV.cv (CV.ref al ai 0),LV.int .i64 b] μ=
 opt (bA E.P 9 (aU μ al ai) 0) fun v1=>
 opt (aN v1) fun s2=>
 opt (gZ s2 b) fun y3=>
 callK (ρ.call 166 [LV.cv (CV.ref al ai 0)] μ) (fun v4 μ5 =>
 opt (aT v4) fun b8=>
 cond (b8) (
 callK (ρ.call 132 [LV.int .u8 (y3.toNat : Int)] μ5) (fun v9 μ10 =>
 opt (aT v9) fun b13=>
 cond (b13) (
 callK (ρ.call 167 [LV.cv (CV.ref al ai 0), LV.int .i64 b] μ10) (fun v14 μ15 =>
 opt (aQ v14) fun xs18=>
 opt (aw xs18) fun q19=>
 dC q19.1 fun n20 n21 s22=>
 opt (aw q19.2) fun q23=>
 opt (aH .i64 q23.1) fun n24=>
 opt (aw q23.2) fun q25=>
 opt (aT q25.1) fun b26=>
 opt (aK q25.2) fun u27=>
 cond (b26) (
 some (.ret (LV.ltup [LV.cv (CV.agg [CV.int .i64 n20,CV.int .i64 n21,CV.str s22]),LV.int .i64 n24]) μ15)) (
 opt (pj ρ al ai b (y3.toNat:Int) (0:Int) (0:Int) ([]:List UInt8) μ15) (kB ρ 148 d6 []))) pP) (
 opt (pj ρ al ai b (y3.toNat:Int) (0:Int) (0:Int) ([]:List UInt8) μ10) (kB ρ 148 d6 []))) pP) (
 opt (pj ρ al ai b (y3.toNat:Int) (0:Int) (0:Int) ([]:List UInt8) μ5) (kB ρ 148 d6 []))) pP:=by kernel_rfl
def Bb (x0l x0i:Nat):SegD:=⟨rR,[(2,0)],cA 166 [1,1],mS [(0,LV.cv (CV.ref x0l x0i 0))] []⟩
def D3 (x0l x0i:Nat)(μ:Mu):=(Bb x0l x0i).seg ρ μ
def ma (x2:Bool)(μ:Mu):St:= .ret (mS [(2,LV.bool x2)] []) μ
def Bc (x0l x0i:Nat):SegD:=⟨rR,[(2,0)],cA 166 [1,1,1],mS [(0,LV.cv (CV.ref x0l x0i 0))] []⟩
def D4 (x0l x0i:Nat)(μ:Mu):=(Bc x0l x0i).seg ρ μ
def mb (x2:Bool)(μ:Mu):St:= .ret (mS [(2,LV.bool x2)] []) μ
def El (pv:CV)(μ:Mu):St:= .panic pv (mS [] []) μ
theorem Hr (x0l x0i μ):(Bc x0l x0i).sK ρ μ=
 opt (bA E.P 32 (aU μ x0l x0i) 2) fun v5=>
 opt (bM v5) fun l6=>
 opt (bA E.P 32 (aU μ x0l x0i) 2) fun v7=>
 opt (bM v7) fun l8=>
 opt (dT l6 (IntKind.wrap .i64 ((List.length l8:Int) -(1:Int)))) fun c9=>
 dC (LV.cv c9) fun n10 n11 s12=>
 cond (decide (n10 = (2 : Int))) (
 callK (ρ.call 50 [LV.osl [CV.str ([40] : List UInt8), CV.str ([44] : List UInt8), CV.str ([47] : List UInt8), CV.str ([61] : List UInt8)], LV.str s12] μ) (fun v13 μ14 =>
 opt (aT v13) fun b17=>
 some (mb b17 μ14)) (pX El)) (
 some (mb false μ)):=by kernel_rfl
theorem z8 (x2 μ):kS ρ rR [] [(2,0)] (mb x2 μ)=
 some (ma x2 μ):=by kernel_rfl
theorem Hq (x0l x0i μ):(Bb x0l x0i).sK ρ μ=
 opt (bA E.P 32 (aU μ x0l x0i) 2) fun v3=>
 opt (bM v3) fun l4=>
 cond (decide ((List.length l4 : Int) = (0 : Int))) (
 some (ma true μ)) (
 opt (D4 ρ x0l x0i μ) (kS ρ rR [] [(2,0)])):=by kernel_rfl
theorem z7 (x2 μ):kB ρ 166 rR [] (ma x2 μ)=
 some (.ret (LV.bool x2) μ):=by kernel_rfl
theorem LM (al ai μ):aJ E ρ 166 [LV.cv (CV.ref al ai 0)] μ=
 opt (bA E.P 4 (aU μ al ai) 1) fun v1=>
 opt (aT v1) fun b2=>
 cond (!b2) (
 some (.ret (LV.bool false) μ)) (
 opt (D3 ρ al ai μ) (kB ρ 166 rR [])):=by kernel_rfl
def Bd (x0l x0i:Nat)(x10 x11 o0_0 o0_1:Int)(o0_2:List UInt8):SegD:=⟨lB,[(4,0),(5,0),(6,0)],cA 167 [1,1,1,1,1],mS [(0,LV.cv (CV.ref x0l x0i 0)),(4,LV.loc 0 0),(10,LV.int .i64 x10),(11,LV.int .i64 x11)] [Ob.cells [LV.int .i64 o0_0,LV.int .i64 o0_1,LV.str o0_2]]⟩
def sX (x0l x0i:Nat)(x10 x11 o0_0 o0_1:Int)(o0_2:List UInt8)(μ:Mu):=(Bd x0l x0i x10 x11 o0_0 o0_1 o0_2).seg ρ μ
def Be (x0l x0i:Nat)(x10 x11 o0_0 o0_1:Int)(o0_2:List UInt8):SegD:=⟨lB,[(4,0),(5,0),(6,0)],cA 167 [1,1,1,1,1,1],mS [(0,LV.cv (CV.ref x0l x0i 0)),(4,LV.loc 0 0),(10,LV.int .i64 x10),(11,LV.int .i64 x11)] [Ob.cells [LV.int .i64 o0_0,LV.int .i64 o0_1,LV.str o0_2]]⟩
def wS (x0l x0i:Nat)(x10 x11 o0_0 o0_1:Int)(o0_2:List UInt8)(μ:Mu):=(Be x0l x0i x10 x11 o0_0 o0_1 o0_2).seg ρ μ
def py (x5:Int)(x6:Bool)(o0_0 o0_1:Int)(o0_2:List UInt8)(μ:Mu):St:= .ret (mS [(4,LV.loc 0 0),(5,LV.int .i64 x5),(6,LV.bool x6)] [Ob.cells [LV.int .i64 o0_0,LV.int .i64 o0_1,LV.str o0_2]]) μ
def vn (pv:CV)(μ:Mu):St:= .panic pv (mS [] []) μ
def pw (x5:Int)(x6:Bool)(o0_0 o0_1:Int)(o0_2:List UInt8)(μ:Mu):St:= .ret (mS [(4,LV.loc 0 0),(5,LV.int .i64 x5),(6,LV.bool x6)] [Ob.cells [LV.int .i64 o0_0,LV.int .i64 o0_1,LV.str o0_2]]) μ
def px (pv:CV)(μ:Mu):St:= .panic pv (mS [] []) μ
theorem Ht (x0l x0i x10 x11 o0_0 o0_1 o0_2 μ):(Be x0l x0i x10 x11 o0_0 o0_1 o0_2).sK ρ μ=
 callK (ρ.call 189 [LV.cv (CV.ref x0l x0i 0), LV.int .i64 x10, LV.int .i64 (IntKind.wrap .i64 (x10 + x11))] μ) (fun v39 μ40 =>
 opt (aQ v39) fun xs43=>
 opt (aK xs43) fun u44=>
 opt (bA E.P 9 (aU μ40 x0l x0i) 0) fun v45=>
 opt (aN v45) fun s46=>
 opt (hB s46 x10 (IntKind.wrap .i64 (x10+x11))) fun s47=>
 callK (ρ.call 86 [LV.str s47] μ40) (fun v48 μ49 =>
 dC v48 fun n52 n53 s54=>
 some (py (IntKind.wrap .i64 (x10+x11)) true n52 n53 s54 μ49)) (pX vn)) (pX vn):=by kernel_rfl
theorem Ac (x5 x6 o0_0 o0_1 o0_2 μ):kS ρ lB [] [(4,0),(5,0),(6,0)] (py x5 x6 o0_0 o0_1 o0_2 μ)=
 some (pw x5 x6 o0_0 o0_1 o0_2 μ):=by kernel_rfl
theorem Hs (x0l x0i x10 x11 o0_0 o0_1 o0_2 μ):(Bd x0l x0i x10 x11 o0_0 o0_1 o0_2).sK ρ μ=
 opt (bA E.P 9 (aU μ x0l x0i) 0) fun v31=>
 opt (aN v31) fun s32=>
 cond (decide ((List.length s32 : Int) < IntKind.wrap .i64 (x10 + x11))) (
 callK (ρ.call 170 [LV.int .i64 (7 : Int)] μ) (fun v33 μ34 =>
 opt (aQ v33) fun xs37=>
 opt (aK xs37) fun u38=>
 opt (wS ρ x0l x0i x10 x11 o0_0 o0_1 o0_2 μ34) (kS ρ lB [] [(4,0),(5,0),(6,0)])) (pX px)) (
 opt (wS ρ x0l x0i x10 x11 o0_0 o0_1 o0_2 μ) (kS ρ lB [] [(4,0),(5,0),(6,0)])):=by kernel_rfl
theorem Aa (x5 x6 o0_0 o0_1 o0_2 μ):kB ρ 167 lB [] (pw x5 x6 o0_0 o0_1 o0_2 μ)=
 some (.ret (LV.ltup [LV.cv (CV.agg [CV.int .i64 o0_0,CV.int .i64 o0_1,CV.str o0_2]),LV.int .i64 x5,LV.bool x6]) μ):=by kernel_rfl
theorem Ab (pv μ):kB ρ 167 lB [] (px pv μ)=
 aA (below (List.length μ) pv) (some (.panic pv μ)):=by kernel_rfl
theorem LN (al ai b μ):aJ E ρ 167 [LV.cv (CV.ref al ai 0),LV.int .i64 b] μ=
 callK (ρ.call 169 [LV.cv (CV.ref al ai 0), LV.int .i64 b, LV.cv (CV.clo 132 [])] μ) (fun v1 μ2 =>
 opt (aQ v1) fun xs5=>
 opt (aw xs5) fun q6=>
 opt (aN q6.1) fun s7=>
 opt (aw q6.2) fun q8=>
 opt (aH .i64 q8.1) fun n9=>
 opt (aK q8.2) fun u10=>
 callK (ρ.call 168 [LV.cv (CV.ref al ai 0), LV.int .i64 n9] μ2) (fun v11 μ12 =>
 opt (aQ v11) fun xs15=>
 opt (aw xs15) fun q16=>
 opt (aH .u8 q16.1) fun n17=>
 opt (aw q16.2) fun q18=>
 opt (aH .i64 q18.1) fun n19=>
 opt (aK q18.2) fun u20=>
 callK (ρ.call 45 [LV.str s7] μ12) (fun v21 μ22 =>
 opt (aQ v21) fun xs25=>
 opt (aw xs25) fun q26=>
 opt (aH .i64 q26.1) fun n27=>
 opt (aw q26.2) fun q28=>
 opt (cP q28.1) fun c29=>
 opt (aK q28.2) fun u30=>
 cond (decide ((2 : Int) < (List.length s7 : Int))) (
 some (.ret (LV.ltup [LV.cv (CV.agg [CV.int .i64 (0:Int),CV.int .i64 (0:Int),CV.str ([]:List UInt8)]),LV.int .i64 b,LV.bool false]) μ22)) (
 cond (decide (n27 < (1 : Int))) (
 some (.ret (LV.ltup [LV.cv (CV.agg [CV.int .i64 (0:Int),CV.int .i64 (0:Int),CV.str ([]:List UInt8)]),LV.int .i64 b,LV.bool false]) μ22)) (
 cond (decide ((60 : Int) < n27)) (
 some (.ret (LV.ltup [LV.cv (CV.agg [CV.int .i64 (0:Int),CV.int .i64 (0:Int),CV.str ([]:List UInt8)]),LV.int .i64 b,LV.bool false]) μ22)) (
 cond (!decide (n17 = (72 : Int))) (
 cond (!decide (n17 = (104 : Int))) (
 some (.ret (LV.ltup [LV.cv (CV.agg [CV.int .i64 (0:Int),CV.int .i64 (0:Int),CV.str ([]:List UInt8)]),LV.int .i64 b,LV.bool false]) μ22)) (
 opt (sX ρ al ai n19 n27 (0:Int) (0:Int) ([]:List UInt8) μ22) (kB ρ 167 lB []))) (
 opt (sX ρ al ai n19 n27 (0:Int) (0:Int) ([]:List UInt8) μ22) (kB ρ 167 lB [])))))) pP) pP) pP:=by kernel_rfl
def Bf (x0l x0i:Nat)(x1:Int):SegD:=⟨Cb,[(4,0),(5,0)],cA 168 [1,1,1],mS [(0,LV.cv (CV.ref x0l x0i 0)),(1,LV.int .i64 x1)] []⟩
def D5 (x0l x0i:Nat)(x1:Int)(μ:Mu):=(Bf x0l x0i x1).seg ρ μ
def pz (x4 x5:Int)(μ:Mu):St:= .ret (mS [(4,LV.int .u8 x4),(5,LV.int .i64 x5)] []) μ
theorem Hu (x0l x0i x1 μ):(Bf x0l x0i x1).sK ρ μ=
 opt (bA E.P 9 (aU μ x0l x0i) 0) fun v8=>
 opt (aN v8) fun s9=>
 opt (gZ s9 x1) fun y10=>
 some (pz (y10.toNat:Int) (IntKind.wrap .i64 (x1+(1:Int))) μ):=by kernel_rfl
theorem Ad (x4 x5 μ):kB ρ 168 Cb [] (pz x4 x5 μ)=
 some (.ret (LV.ltup [LV.int .u8 x4,LV.int .i64 x5]) μ):=by kernel_rfl
theorem LO (al ai b μ):aJ E ρ 168 [LV.cv (CV.ref al ai 0),LV.int .i64 b] μ=
 callK (ρ.call 190 [LV.cv (CV.ref al ai 0), LV.int .i64 b] μ) (fun v1 μ2 =>
 opt (aH .i64 v1) fun n5=>
 opt (bA E.P 9 (aU μ2 al ai) 0) fun v6=>
 opt (aN v6) fun s7=>
 cond (decide ((List.length s7 : Int) ≤ n5)) (
 some (.ret (LV.ltup [LV.int .u8 (0:Int),LV.int .i64 n5]) μ2)) (
 opt (D5 ρ al ai n5 μ2) (kB ρ 168 Cb []))) pP:=by kernel_rfl
def Bt (x0l x0i:Nat)(x1:Int)(x2f:FuncId)(x8:List CV):SegD:=⟨rS,[],cA 169 [1,1,0,0],mS [(0,LV.cv (CV.ref x0l x0i 0)),(1,LV.int .i64 x1),(2,LV.cv (CV.clo x2f [])),(8,LV.osl x8)] []⟩
def wZ (x0l x0i:Nat)(x1:Int)(x2f:FuncId)(x8:List CV)(μ:Mu):=(Bt x0l x0i x1 x2f x8).loop ρ μ
def md (x6:List UInt8)(x7:Int)(μ:Mu):St:= .ret (mS [(6,LV.str x6),(7,LV.int .i64 x7)] []) μ
def Bg (x0l x0i:Nat)(x2f:FuncId)(x8:List CV)(x9 x10:Int):SegD:=⟨rS,[(0,0),(1,0),(2,0),(8,1)],cA 169 [1,1,0,0,0,1,1],mS [(0,LV.cv (CV.ref x0l x0i 0)),(2,LV.cv (CV.clo x2f [])),(8,LV.osl x8),(9,LV.int .u8 x9),(10,LV.int .i64 x10)] []⟩
def D6 (x0l x0i:Nat)(x2f:FuncId)(x8:List CV)(x9 x10:Int)(μ:Mu):=(Bg x0l x0i x2f x8 x9 x10).seg ρ μ
def pA (x0l x0i:Nat)(x1:Int)(x2f:FuncId)(x8:List CV)(μ:Mu):St:= .norm (mS [(0,LV.cv (CV.ref x0l x0i 0)),(1,LV.int .i64 x1),(2,LV.cv (CV.clo x2f [])),(8,LV.osl x8)] []) μ
def vo (pv:CV)(μ:Mu):St:= .panic pv (mS [] []) μ
theorem Hv (x0l x0i x2f x8 x9 x10 μ):(Bg x0l x0i x2f x8 x9 x10).sK ρ μ=
 aA (gI 1 x8 [CV.int .u8 x9]) (
 some (pA x0l x0i x10 x2f (x8++[CV.int .u8 x9]) μ)):=by kernel_rfl
theorem Ae (x0l x0i x1 x2f x8 μ):kR ρ rS [.block 1] [] (cA 169 [1,1,0,0]) (pA x0l x0i x1 x2f x8 μ)=
 wZ ρ x0l x0i x1 x2f x8 μ:=by kernel_rfl
theorem yn (x0l x0i x1 x2f x8 μ):(Bt x0l x0i x1 x2f x8).rK ρ μ=
 callK (ρ.call 168 [LV.cv (CV.ref x0l x0i 0), LV.int .i64 x1] μ) (fun v1 μ2 =>
 opt (aQ v1) fun xs5=>
 opt (aw xs5) fun q6=>
 opt (aH .u8 q6.1) fun n7=>
 opt (aw q6.2) fun q8=>
 opt (aH .i64 q8.1) fun n9=>
 opt (aK q8.2) fun u10=>
 cond (decide (n7 = (0 : Int))) (
 opt (bg x8) fun s11=>
 some (md s11 x1 μ2)) (
 callK (ρ.call x2f [LV.int .u8 n7] μ2) (fun v12 μ13 =>
 opt (aT v12) fun b16=>
 cond (!b16) (
 opt (bg x8) fun s17=>
 some (md s17 x1 μ13)) (
 opt (D6 ρ x0l x0i x2f x8 n7 n9 μ13) (kR ρ rS [.block 1] [] (cA 169 [1,1,0,0])))) (pX vo))) (pX vo):=by kernel_rfl
theorem Ax (x6 x7 μ):kB ρ 169 rS [.block 0] (md x6 x7 μ)=
 some (.ret (LV.ltup [LV.str x6,LV.int .i64 x7]) μ):=by kernel_rfl
theorem LP (al ai b cf μ):aJ E ρ 169 [LV.cv (CV.ref al ai 0),LV.int .i64 b,LV.cv (CV.clo cf [])] μ=
 opt (wZ ρ al ai b cf [] μ) (kB ρ 169 rS [.block 0]):=by kernel_rfl
theorem LQ (a μ):aJ E ρ 170 [LV.int .i64 a] μ=
 some (.panic (CV.iface 162 (CV.agg [CV.int .i64 a])) μ):=by kernel_rfl
def Bh (x0l x0i:Nat)(x1:Int)(x6 x7:List UInt8)(x8:Bool)(o0_0 o0_1:Int)(o0_2:List UInt8):SegD:=⟨cE,[(4,0),(5,0)],cA 171 [1,1,1,1],mS [(0,LV.cv (CV.ref x0l x0i 0)),(1,LV.int .i64 x1),(4,LV.loc 0 0),(6,LV.str x6),(7,LV.str x7),(8,LV.bool x8)] [Ob.cells [LV.int .i64 o0_0,LV.int .i64 o0_1,LV.str o0_2]]⟩
def mW (x0l x0i:Nat)(x1:Int)(x6 x7:List UInt8)(x8:Bool)(o0_0 o0_1:Int)(o0_2:List UInt8)(μ:Mu):=(Bh x0l x0i x1 x6 x7 x8 o0_0 o0_1 o0_2).seg ρ μ
def iJ (x5 o0_0 o0_1:Int)(o0_2:List UInt8)(μ:Mu):St:= .ret (mS [(4,LV.loc 0 0),(5,LV.int .i64 x5)] [Ob.cells [LV.int .i64 o0_0,LV.int .i64 o0_1,LV.str o0_2]]) μ
def gf (pv:CV)(μ:Mu):St:= .panic pv (mS [] []) μ
def xw (x1:Int)(x6 x7:List UInt8)(x14:Int)(x15:List UInt8)(x16:Int)(x17:Bool)(o0_0 o0_1:Int)(o0_2:List UInt8):SegD:=⟨cE,[(4,0),(5,0)],cA 171 [1,1,1,1,1,1],mS [(1,LV.int .i64 x1),(4,LV.loc 0 0),(6,LV.str x6),(7,LV.str x7),(14,LV.int .u8 x14),(15,LV.str x15),(16,LV.int .i64 x16),(17,LV.bool x17)] [Ob.cells [LV.int .i64 o0_0,LV.int .i64 o0_1,LV.str o0_2]]⟩
def uB (x1:Int)(x6 x7:List UInt8)(x14:Int)(x15:List UInt8)(x16:Int)(x17:Bool)(o0_0 o0_1:Int)(o0_2:List UInt8)(μ:Mu):=(xw x1 x6 x7 x14 x15 x16 x17 o0_0 o0_1 o0_2).seg ρ μ
def xx (x1:Int)(x6 x7:List UInt8)(x14:Int)(x15:List UInt8)(x17:Bool)(o0_0 o0_1:Int)(o0_2:List UInt8):SegD:=⟨cE,[(4,0),(5,0)],cA 171 [1,1,1,1,1,1,1],mS [(1,LV.int .i64 x1),(4,LV.loc 0 0),(6,LV.str x6),(7,LV.str x7),(14,LV.int .u8 x14),(15,LV.str x15),(17,LV.bool x17)] [Ob.cells [LV.int .i64 o0_0,LV.int .i64 o0_1,LV.str o0_2]]⟩
def uC (x1:Int)(x6 x7:List UInt8)(x14:Int)(x15:List UInt8)(x17:Bool)(o0_0 o0_1:Int)(o0_2:List UInt8)(μ:Mu):=(xx x1 x6 x7 x14 x15 x17 o0_0 o0_1 o0_2).seg ρ μ
def xy (x1:Int)(x6 x7:List UInt8)(x14:Int)(x15:List UInt8)(x17:Bool)(o0_0 o0_1:Int)(o0_2:List UInt8):SegD:=⟨cE,[(4,0),(5,0)],cA 171 [1,1,1,1,1,1,1,1],mS [(1,LV.int .i64 x1),(4,LV.loc 0 0),(6,LV.str x6),(7,LV.str x7),(14,LV.int .u8 x14),(15,LV.str x15),(17,LV.bool x17)] [Ob.cells [LV.int .i64 o0_0,LV.int .i64 o0_1,LV.str o0_2]]⟩
def mV (x1:Int)(x6 x7:List UInt8)(x14:Int)(x15:List UInt8)(x17:Bool)(o0_0 o0_1:Int)(o0_2:List UInt8)(μ:Mu):=(xy x1 x6 x7 x14 x15 x17 o0_0 o0_1 o0_2).seg ρ μ
def xz (x1 x14:Int)(x17:Bool)(x18 x19:List UInt8)(o0_0 o0_1:Int)(o0_2:List UInt8):SegD:=⟨cE,[(4,0),(5,0)],cA 171 [1,1,1,1,1,1,1,1,1,1,1],mS [(1,LV.int .i64 x1),(4,LV.loc 0 0),(14,LV.int .u8 x14),(17,LV.bool x17),(18,LV.str x18),(19,LV.str x19)] [Ob.cells [LV.int .i64 o0_0,LV.int .i64 o0_1,LV.str o0_2]]⟩
def uD (x1 x14:Int)(x17:Bool)(x18 x19:List UInt8)(o0_0 o0_1:Int)(o0_2:List UInt8)(μ:Mu):=(xz x1 x14 x17 x18 x19 o0_0 o0_1 o0_2).seg ρ μ
def kY (x5 o0_0 o0_1:Int)(o0_2:List UInt8)(μ:Mu):St:= .ret (mS [(4,LV.loc 0 0),(5,LV.int .i64 x5)] [Ob.cells [LV.int .i64 o0_0,LV.int .i64 o0_1,LV.str o0_2]]) μ
def xA (x1:Int)(x18 x19:List UInt8)(o0_0 o0_1:Int)(o0_2:List UInt8):SegD:=⟨cE,[(4,0),(5,0)],cA 171 [1,1,1,1,1,1,1,1,1,1,1,1],mS [(1,LV.int .i64 x1),(4,LV.loc 0 0),(18,LV.str x18),(19,LV.str x19)] [Ob.cells [LV.int .i64 o0_0,LV.int .i64 o0_1,LV.str o0_2]]⟩
def uE (x1:Int)(x18 x19:List UInt8)(o0_0 o0_1:Int)(o0_2:List UInt8)(μ:Mu):=(xA x1 x18 x19 o0_0 o0_1 o0_2).seg ρ μ
def kZ (x5 o0_0 o0_1:Int)(o0_2:List UInt8)(μ:Mu):St:= .ret (mS [(4,LV.loc 0 0),(5,LV.int .i64 x5)] [Ob.cells [LV.int .i64 o0_0,LV.int .i64 o0_1,LV.str o0_2]]) μ
def nS (x5 o0_0 o0_1:Int)(o0_2:List UInt8)(μ:Mu):St:= .ret (mS [(4,LV.loc 0 0),(5,LV.int .i64 x5)] [Ob.cells [LV.int .i64 o0_0,LV.int .i64 o0_1,LV.str o0_2]]) μ
def kX (pv:CV)(μ:Mu):St:= .panic pv (mS [] []) μ
def nR (x5 o0_0 o0_1:Int)(o0_2:List UInt8)(μ:Mu):St:= .ret (mS [(4,LV.loc 0 0),(5,LV.int .i64 x5)] [Ob.cells [LV.int .i64 o0_0,LV.int .i64 o0_1,LV.str o0_2]]) μ
def gH (pv:CV)(μ:Mu):St:= .panic pv (mS [] []) μ
def kV (x5 o0_0 o0_1:Int)(o0_2:List UInt8)(μ:Mu):St:= .ret (mS [(4,LV.loc 0 0),(5,LV.int .i64 x5)] [Ob.cells [LV.int .i64 o0_0,LV.int .i64 o0_1,LV.str o0_2]]) μ
def kW (pv:CV)(μ:Mu):St:= .panic pv (mS [] []) μ
theorem FJ (x1 x18 x19 o0_0 o0_1 o0_2 μ):(xA x1 x18 x19 o0_0 o0_1 o0_2).sK ρ μ=
 cond (!decide (x19 = ([48] : List UInt8))) (
 aA (bK (List.length ([69] : List UInt8) + List.length x19)) (
 aA (bK (List.length x18 + List.length (([69] : List UInt8) ++ x19))) (
 some (kZ x1 (1:Int) (1:Int) (x18++(([69]:List UInt8)++x19)) μ)))) (
 some (kZ x1 (1:Int) (1:Int) x18 μ)):=by kernel_rfl
theorem yy (x5 o0_0 o0_1 o0_2 μ):kS ρ cE [] [(4,0),(5,0)] (kZ x5 o0_0 o0_1 o0_2 μ)=
 some (kY x5 o0_0 o0_1 o0_2 μ):=by kernel_rfl
theorem FI (x1 x14 x17 x18 x19 o0_0 o0_1 o0_2 μ):(xz x1 x14 x17 x18 x19 o0_0 o0_1 o0_2).sK ρ μ=
 cond (decide (x14 = (68 : Int))) (
 cond (x17) (
 aA (bK (List.length x18 + List.length ([68] : List UInt8))) (
 aA (bK (List.length (x18 ++ ([68] : List UInt8)) + List.length x19)) (
 some (kY x1 (1:Int) (2:Int) ((x18++([68]:List UInt8))++x19) μ)))) (
 opt (uE ρ x1 x18 x19 o0_0 o0_1 o0_2 μ) (kS ρ cE [] [(4,0),(5,0)]))) (
 opt (uE ρ x1 x18 x19 o0_0 o0_1 o0_2 μ) (kS ρ cE [] [(4,0),(5,0)])):=by kernel_rfl
theorem qp (x5 o0_0 o0_1 o0_2 μ):kS ρ cE [] [(4,0),(5,0)] (kY x5 o0_0 o0_1 o0_2 μ)=
 some (nS x5 o0_0 o0_1 o0_2 μ):=by kernel_rfl
theorem FH (x1 x6 x7 x14 x15 x17 o0_0 o0_1 o0_2 μ):(xy x1 x6 x7 x14 x15 x17 o0_0 o0_1 o0_2).sK ρ μ=
 callK (ρ.call 65 [LV.str x6, LV.bool true] μ) (fun v75 μ76 =>
 opt (aN v75) fun s79=>
 aA (bK (List.length s79 + List.length ([46] : List UInt8))) (
 callK (ρ.call 65 [LV.str x7, LV.bool false] μ76) (fun v80 μ81 =>
 opt (aN v80) fun s84=>
 aA (bK (List.length (s79 ++ ([46] : List UInt8)) + List.length s84)) (
 cond (x17) (
 callK (ρ.call 45 [LV.str x15] μ81) (fun v85 μ86 =>
 opt (aQ v85) fun xs89=>
 opt (aw xs89) fun q90=>
 opt (aH .i64 q90.1) fun n91=>
 opt (aw q90.2) fun q92=>
 opt (cP q92.1) fun c93=>
 opt (aK q92.2) fun u94=>
 callK (ρ.call 66 [LV.int .i64 n91] μ86) (fun v95 μ96 =>
 opt (aN v95) fun s99=>
 opt (uD ρ x1 x14 x17 ((s79++([46]:List UInt8))++s84) s99 o0_0 o0_1 o0_2 μ96) (kS ρ cE [] [(4,0),(5,0)])) (pX kX)) (pX kX)) (
 opt (uD ρ x1 x14 x17 ((s79++([46]:List UInt8))++s84) ([48]:List UInt8) o0_0 o0_1 o0_2 μ81) (kS ρ cE [] [(4,0),(5,0)])))) (pX kX))) (pX kX):=by kernel_rfl
theorem yx (x5 o0_0 o0_1 o0_2 μ):kS ρ cE [] [(4,0),(5,0)] (nS x5 o0_0 o0_1 o0_2 μ)=
 some (nR x5 o0_0 o0_1 o0_2 μ):=by kernel_rfl
theorem FG (x1 x6 x7 x14 x15 x17 o0_0 o0_1 o0_2 μ):(xx x1 x6 x7 x14 x15 x17 o0_0 o0_1 o0_2).sK ρ μ=
 callK (ρ.call 193 [LV.str x6, LV.str x7] μ) (fun v64 μ65 =>
 opt (aH .i64 v64) fun n68=>
 cond (decide ((30 : Int) < n68)) (
 callK (ρ.call 170 [LV.int .i64 (7 : Int)] μ65) (fun v69 μ70 =>
 opt (aQ v69) fun xs73=>
 opt (aK xs73) fun u74=>
 opt (mV ρ x1 x6 x7 x14 x15 x17 o0_0 o0_1 o0_2 μ70) (kS ρ cE [] [(4,0),(5,0)])) (pX gH)) (
 callK (ρ.call 194 [LV.str x15, LV.str ([45] : List UInt8)] μ65) (fun v105 μ106 =>
 opt (aN v105) fun s109=>
 cond (decide ((3 : Int) < (List.length s109 : Int))) (
 cond (x17) (
 callK (ρ.call 170 [LV.int .i64 (7 : Int)] μ106) (fun v110 μ111 =>
 opt (aQ v110) fun xs114=>
 opt (aK xs114) fun u115=>
 opt (mV ρ x1 x6 x7 x14 x15 x17 o0_0 o0_1 o0_2 μ111) (kS ρ cE [] [(4,0),(5,0)])) (pX gH)) (
 opt (mV ρ x1 x6 x7 x14 x15 x17 o0_0 o0_1 o0_2 μ106) (kS ρ cE [] [(4,0),(5,0)]))) (
 opt (mV ρ x1 x6 x7 x14 x15 x17 o0_0 o0_1 o0_2 μ106) (kS ρ cE [] [(4,0),(5,0)]))) (pX gH))) (pX gH):=by kernel_rfl
theorem qn (x5 o0_0 o0_1 o0_2 μ):kS ρ cE [] [(4,0),(5,0)] (nR x5 o0_0 o0_1 o0_2 μ)=
 some (kV x5 o0_0 o0_1 o0_2 μ):=by kernel_rfl
theorem qo (pv μ):kS ρ cE [] [(4,0),(5,0)] (gH pv μ)=
 some (kW pv μ):=by kernel_rfl
theorem FF (x1 x6 x7 x14 x15 x16 x17 o0_0 o0_1 o0_2 μ):(xw x1 x6 x7 x14 x15 x16 x17 o0_0 o0_1 o0_2).sK ρ μ=
 cond (x17) (
 opt (uC ρ x16 x6 x7 x14 x15 x17 o0_0 o0_1 o0_2 μ) (kS ρ cE [] [(4,0),(5,0)])) (
 opt (uC ρ x1 x6 x7 x14 x15 x17 o0_0 o0_1 o0_2 μ) (kS ρ cE [] [(4,0),(5,0)])):=by kernel_rfl
theorem yv (x5 o0_0 o0_1 o0_2 μ):kS ρ cE [] [(4,0),(5,0)] (kV x5 o0_0 o0_1 o0_2 μ)=
 some (iJ x5 o0_0 o0_1 o0_2 μ):=by kernel_rfl
theorem yw (pv μ):kS ρ cE [] [(4,0),(5,0)] (kW pv μ)=
 some (gf pv μ):=by kernel_rfl
theorem Hw (x0l x0i x1 x6 x7 x8 o0_0 o0_1 o0_2 μ):(Bh x0l x0i x1 x6 x7 x8 o0_0 o0_1 o0_2).sK ρ μ=
 callK (ρ.call 191 [LV.cv (CV.ref x0l x0i 0), LV.int .i64 x1] μ) (fun v43 μ44 =>
 opt (aQ v43) fun xs47=>
 opt (aw xs47) fun q48=>
 opt (aH .u8 q48.1) fun n49=>
 opt (aw q48.2) fun q50=>
 opt (aN q50.1) fun s51=>
 opt (aw q50.2) fun q52=>
 opt (aH .i64 q52.1) fun n53=>
 opt (aw q52.2) fun q54=>
 opt (aT q54.1) fun b55=>
 opt (aK q54.2) fun u56=>
 cond (!x8) (
 cond (!b55) (
 callK (ρ.call 192 [LV.str x6] μ44) (fun v57 μ58 =>
 dC v57 fun n61 n62 s63=>
 some (iJ x1 n61 n62 s63 μ58)) (pX gf)) (
 opt (uB ρ x1 x6 x7 n49 s51 n53 b55 o0_0 o0_1 o0_2 μ44) (kS ρ cE [] [(4,0),(5,0)]))) (
 opt (uB ρ x1 x6 x7 n49 s51 n53 b55 o0_0 o0_1 o0_2 μ44) (kS ρ cE [] [(4,0),(5,0)]))) (pX gf):=by kernel_rfl
theorem Af (x5 o0_0 o0_1 o0_2 μ):kB ρ 171 cE [] (iJ x5 o0_0 o0_1 o0_2 μ)=
 some (.ret (LV.ltup [LV.cv (CV.agg [CV.int .i64 o0_0,CV.int .i64 o0_1,CV.str o0_2]),LV.int .i64 x5]) μ):=by kernel_rfl
theorem Ah (pv μ):kB ρ 171 cE [] (gf pv μ)=
 aA (below (List.length μ) pv) (some (.panic pv μ)):=by kernel_rfl
theorem LR (al ai b μ):aJ E ρ 171 [LV.cv (CV.ref al ai 0),LV.int .i64 b] μ=
 callK (ρ.call 169 [LV.cv (CV.ref al ai 0), LV.int .i64 b, LV.cv (CV.clo 132 [])] μ) (fun v1 μ2 =>
 opt (aQ v1) fun xs5=>
 opt (aw xs5) fun q6=>
 opt (aN q6.1) fun s7=>
 opt (aw q6.2) fun q8=>
 opt (aH .i64 q8.1) fun n9=>
 opt (aK q8.2) fun u10=>
 callK (ρ.call 168 [LV.cv (CV.ref al ai 0), LV.int .i64 n9] μ2) (fun v11 μ12 =>
 opt (aQ v11) fun xs15=>
 opt (aw xs15) fun q16=>
 opt (aH .u8 q16.1) fun n17=>
 opt (aw q16.2) fun q18=>
 opt (aH .i64 q18.1) fun n19=>
 opt (aK q18.2) fun u20=>
 cond (decide (n17 = (46 : Int))) (
 callK (ρ.call 172 [LV.cv (CV.ref al ai 0), LV.int .i64 n9] μ12) (fun v21 μ22 =>
 opt (aQ v21) fun xs25=>
 opt (aw xs25) fun q26=>
 opt (aN q26.1) fun s27=>
 opt (aw q26.2) fun q28=>
 opt (aH .i64 q28.1) fun n29=>
 opt (aw q28.2) fun q30=>
 opt (aT q30.1) fun b31=>
 opt (aK q30.2) fun u32=>
 cond (!b31) (
 callK (ρ.call 169 [LV.cv (CV.ref al ai 0), LV.int .i64 n19, LV.cv (CV.clo 132 [])] μ22) (fun v33 μ34 =>
 opt (aQ v33) fun xs37=>
 opt (aw xs37) fun q38=>
 opt (aN q38.1) fun s39=>
 opt (aw q38.2) fun q40=>
 opt (aH .i64 q40.1) fun n41=>
 opt (aK q40.2) fun u42=>
 opt (mW ρ al ai n41 s7 s39 true (0:Int) (0:Int) ([]:List UInt8) μ34) (kB ρ 171 cE [])) pP) (
 cond (decide (s7 = ([] : List UInt8))) (
 callK (ρ.call 169 [LV.cv (CV.ref al ai 0), LV.int .i64 n19, LV.cv (CV.clo 132 [])] μ22) (fun v124 μ125 =>
 opt (aQ v124) fun xs128=>
 opt (aw xs128) fun q129=>
 opt (aN q129.1) fun s130=>
 opt (aw q129.2) fun q131=>
 opt (aH .i64 q131.1) fun n132=>
 opt (aK q131.2) fun u133=>
 opt (mW ρ al ai n132 s7 s130 true (0:Int) (0:Int) ([]:List UInt8) μ125) (kB ρ 171 cE [])) pP) (
 opt (mW ρ al ai n9 s7 ([]:List UInt8) false (0:Int) (0:Int) ([]:List UInt8) μ22) (kB ρ 171 cE [])))) pP) (
 opt (mW ρ al ai n9 s7 ([]:List UInt8) false (0:Int) (0:Int) ([]:List UInt8) μ12) (kB ρ 171 cE []))) pP) pP:=by kernel_rfl
def Bi (x0l x0i:Nat)(x8:Int):SegD:=⟨Cc,[(4,0),(5,0),(6,0)],cA 172 [1,1,1],mS [(0,LV.cv (CV.ref x0l x0i 0)),(8,LV.int .i64 x8)] []⟩
def D7 (x0l x0i:Nat)(x8:Int)(μ:Mu):=(Bi x0l x0i x8).seg ρ μ
def fm (x4:List UInt8)(x5:Int)(x6:Bool)(μ:Mu):St:= .ret (mS [(4,LV.str x4),(5,LV.int .i64 x5),(6,LV.bool x6)] []) μ
def ku (pv:CV)(μ:Mu):St:= .panic pv (mS [] []) μ
theorem Hx (x0l x0i x8 μ):(Bi x0l x0i x8).sK ρ μ=
 callK (ρ.call 169 [LV.cv (CV.ref x0l x0i 0), LV.int .i64 x8, LV.cv (CV.clo 90 [])] μ) (fun v11 μ12 =>
 opt (aQ v11) fun xs15=>
 opt (aw xs15) fun q16=>
 opt (aN q16.1) fun s17=>
 opt (aw q16.2) fun q18=>
 opt (aH .i64 q18.1) fun n19=>
 opt (aK q18.2) fun u20=>
 callK (ρ.call 168 [LV.cv (CV.ref x0l x0i 0), LV.int .i64 n19] μ12) (fun v21 μ22 =>
 opt (aQ v21) fun xs25=>
 opt (aw xs25) fun q26=>
 opt (aH .u8 q26.1) fun n27=>
 opt (aw q26.2) fun q28=>
 opt (aH .i64 q28.1) fun n29=>
 opt (aK q28.2) fun u30=>
 callK (ρ.call 91 [LV.str s17] μ22) (fun v31 μ32 =>
 opt (aN v31) fun s35=>
 aA (bK (List.length ([46] : List UInt8) + List.length s35)) (
 aA (bK (List.length (([46] : List UInt8) ++ s35) + List.length ([46] : List UInt8))) (
 callK (ρ.call 51 [] μ32) (fun v36 μ37 =>
 opt (bM v36) fun l40=>
 callK (ρ.call 50 [LV.cv (CV.sl l40), LV.str ((([46] : List UInt8) ++ s35) ++ ([46] : List UInt8))] μ37) (fun v41 μ42 =>
 opt (aT v41) fun b45=>
 cond (b45) (
 cond (decide (n27 = (46 : Int))) (
 some (fm ((([46]:List UInt8)++s35)++([46]:List UInt8)) n29 true μ42)) (
 some (fm ((([46]:List UInt8)++s35)++([46]:List UInt8)) n29 false μ42))) (
 cond (decide ((([46] : List UInt8) ++ s35) ++ ([46] : List UInt8) = ([46, 84, 82, 85, 69, 46] : List UInt8))) (
 cond (decide (n27 = (46 : Int))) (
 some (fm ((([46]:List UInt8)++s35)++([46]:List UInt8)) n29 true μ42)) (
 some (fm ((([46]:List UInt8)++s35)++([46]:List UInt8)) n29 false μ42))) (
 cond (decide (n27 = (46 : Int))) (
 some (fm ((([46]:List UInt8)++s35)++([46]:List UInt8)) n29 (decide ((([46]:List UInt8)++s35)++([46]:List UInt8)=([46,70,65,76,83,69,46]:List UInt8))) μ42)) (
 some (fm ((([46]:List UInt8)++s35)++([46]:List UInt8)) n29 false μ42))))) (pX ku)) (pX ku)))) (pX ku)) (pX ku)) (pX ku):=by kernel_rfl
theorem Ai (x4 x5 x6 μ):kB ρ 172 Cc [] (fm x4 x5 x6 μ)=
 some (.ret (LV.ltup [LV.str x4,LV.int .i64 x5,LV.bool x6]) μ):=by kernel_rfl
theorem LS (al ai b μ):aJ E ρ 172 [LV.cv (CV.ref al ai 0),LV.int .i64 b] μ=
 callK (ρ.call 168 [LV.cv (CV.ref al ai 0), LV.int .i64 b] μ) (fun v1 μ2 =>
 opt (aQ v1) fun xs5=>
 opt (aw xs5) fun q6=>
 opt (aH .u8 q6.1) fun n7=>
 opt (aw q6.2) fun q8=>
 opt (aH .i64 q8.1) fun n9=>
 opt (aK q8.2) fun u10=>
 cond (!decide (n7 = (46 : Int))) (
 some (.ret (LV.ltup [LV.str ([]:List UInt8),LV.int .i64 b,LV.bool false]) μ2)) (
 opt (D7 ρ al ai n9 μ2) (kB ρ 172 Cc []))) pP:=by kernel_rfl
def Bu (x0l x0i:Nat)(x1:Int)(x6:List UInt8)(x7:Int)(x8:List UInt8)(o0_0 o0_1:Int)(o0_2:List UInt8):SegD:=⟨iY,[(0,0),(1,0),(4,0),(7,0),(8,0)],cA 173 [1,1,1,1,0,1,0,0],mS [(0,LV.cv (CV.ref x0l x0i 0)),(1,LV.int .i64 x1),(4,LV.loc 0 0),(6,LV.str x6),(7,LV.int .i64 x7),(8,LV.str x8)] [Ob.cells [LV.int .i64 o0_0,LV.int .i64 o0_1,LV.str o0_2]]⟩
def w4 (x0l x0i:Nat)(x1:Int)(x6:List UInt8)(x7:Int)(x8:List UInt8)(o0_0 o0_1:Int)(o0_2:List UInt8)(μ:Mu):=(Bu x0l x0i x1 x6 x7 x8 o0_0 o0_1 o0_2).loop ρ μ
def Bj (x0l x0i:Nat)(x1:Int)(x6:List UInt8)(x7:Int)(x8:List UInt8)(x9 o0_0 o0_1:Int)(o0_2:List UInt8):SegD:=⟨iY,[(0,0),(1,0),(4,0),(6,0),(7,0),(8,0)],cA 173 [1,1,1,1,0,1,0,0,0,0,1,1],mS [(0,LV.cv (CV.ref x0l x0i 0)),(1,LV.int .i64 x1),(4,LV.loc 0 0),(6,LV.str x6),(7,LV.int .i64 x7),(8,LV.str x8),(9,LV.int .i64 x9)] [Ob.cells [LV.int .i64 o0_0,LV.int .i64 o0_1,LV.str o0_2]]⟩
def wT (x0l x0i:Nat)(x1:Int)(x6:List UInt8)(x7:Int)(x8:List UInt8)(x9 o0_0 o0_1:Int)(o0_2:List UInt8)(μ:Mu):=(Bj x0l x0i x1 x6 x7 x8 x9 o0_0 o0_1 o0_2).seg ρ μ
def mc (x0l x0i:Nat)(x1:Int)(x6:List UInt8)(x7:Int)(x8:List UInt8)(o0_0 o0_1:Int)(o0_2:List UInt8)(μ:Mu):St:= .exit 0 (mS [(0,LV.cv (CV.ref x0l x0i 0)),(1,LV.int .i64 x1),(4,LV.loc 0 0),(6,LV.str x6),(7,LV.int .i64 x7),(8,LV.str x8)] [Ob.cells [LV.int .i64 o0_0,LV.int .i64 o0_1,LV.str o0_2]]) μ
def pB (x0l x0i:Nat)(x1:Int)(x6:List UInt8)(x7:Int)(x8:List UInt8)(o0_0 o0_1:Int)(o0_2:List UInt8)(μ:Mu):St:= .norm (mS [(0,LV.cv (CV.ref x0l x0i 0)),(1,LV.int .i64 x1),(4,LV.loc 0 0),(6,LV.str x6),(7,LV.int .i64 x7),(8,LV.str x8)] [Ob.cells [LV.int .i64 o0_0,LV.int .i64 o0_1,LV.str o0_2]]) μ
def Em (pv:CV)(μ:Mu):St:= .panic pv (mS [] []) μ
def pL (x0l x0i:Nat)(x1 x7:Int)(x8:List UInt8)(o0_0 o0_1:Int)(o0_2:List UInt8)(μ:Mu):St:= .exit 0 (mS [(0,LV.cv (CV.ref x0l x0i 0)),(1,LV.int .i64 x1),(4,LV.loc 0 0),(7,LV.int .i64 x7),(8,LV.str x8)] [Ob.cells [LV.int .i64 o0_0,LV.int .i64 o0_1,LV.str o0_2]]) μ
def me (pv:CV)(μ:Mu):St:= .panic pv (mS [] []) μ
def xB (x0l x0i:Nat)(x1 x7:Int)(x8:List UInt8)(o0_0 o0_1:Int)(o0_2:List UInt8):SegD:=⟨iY,[(4,0),(5,0)],cA 173 [1,1,1,1,1,1],mS [(0,LV.cv (CV.ref x0l x0i 0)),(1,LV.int .i64 x1),(4,LV.loc 0 0),(7,LV.int .i64 x7),(8,LV.str x8)] [Ob.cells [LV.int .i64 o0_0,LV.int .i64 o0_1,LV.str o0_2]]⟩
def uF (x0l x0i:Nat)(x1 x7:Int)(x8:List UInt8)(o0_0 o0_1:Int)(o0_2:List UInt8)(μ:Mu):=(xB x0l x0i x1 x7 x8 o0_0 o0_1 o0_2).seg ρ μ
def nT (x5 o0_0 o0_1:Int)(o0_2:List UInt8)(μ:Mu):St:= .ret (mS [(4,LV.loc 0 0),(5,LV.int .i64 x5)] [Ob.cells [LV.int .i64 o0_0,LV.int .i64 o0_1,LV.str o0_2]]) μ
def tc (pv:CV)(μ:Mu):St:= .panic pv (mS [] []) μ
theorem Hy (x0l x0i x1 x6 x7 x8 x9 o0_0 o0_1 o0_2 μ):(Bj x0l x0i x1 x6 x7 x8 x9 o0_0 o0_1 o0_2).sK ρ μ=
 opt (bA E.P 9 (aU μ x0l x0i) 0) fun v18=>
 opt (aN v18) fun s19=>
 opt (hB s19 x1 (IntKind.wrap .i64 (x1+x9))) fun s20=>
 aA (bK (List.length x8 + List.length s20)) (
 opt (bA E.P 9 (aU μ x0l x0i) 0) fun v21=>
 opt (aN v21) fun s22=>
 opt (hB s22 (IntKind.wrap .i64 (x1+IntKind.wrap .i64 (x9+(1:Int)))) (List.length s22:Int)) fun s23=>
 callK (ρ.call 195 [LV.str s23, LV.str x6] μ) (fun v24 μ25 =>
 opt (aT v24) fun b28=>
 cond (!b28) (
 some (mc x0l x0i (IntKind.wrap .i64 (x1+IntKind.wrap .i64 (x9+(1:Int)))) x6 x7 (x8++s20) o0_0 o0_1 o0_2 μ25)) (
 aA (bK (List.length (x8 ++ s20) + List.length x6)) (
 some (pB x0l x0i (IntKind.wrap .i64 (x1+IntKind.wrap .i64 (x9+(1:Int)))) x6 x7 ((x8++s20)++x6) o0_0 o0_1 o0_2 μ25)))) (pX Em)):=by kernel_rfl
theorem rC (x0l x0i x1 x6 x7 x8 o0_0 o0_1 o0_2 μ):kR ρ iY [.block 1,.seq (cA 173 [1,1,1,1,0,1,0,0,1])] [(0,0),(1,0),(4,0),(7,0),(8,0)] (cA 173 [1,1,1,1,0,1,0,0]) (mc x0l x0i x1 x6 x7 x8 o0_0 o0_1 o0_2 μ)=
 some (pL x0l x0i x1 x7 x8 o0_0 o0_1 o0_2 μ):=by kernel_rfl
theorem Aj (x0l x0i x1 x6 x7 x8 o0_0 o0_1 o0_2 μ):kR ρ iY [.block 1,.seq (cA 173 [1,1,1,1,0,1,0,0,1])] [(0,0),(1,0),(4,0),(7,0),(8,0)] (cA 173 [1,1,1,1,0,1,0,0]) (pB x0l x0i x1 x6 x7 x8 o0_0 o0_1 o0_2 μ)=
 w4 ρ x0l x0i (IntKind.wrap .i64 (x1+(1:Int))) x6 x7 x8 o0_0 o0_1 o0_2 μ:=by kernel_rfl
theorem yo (x0l x0i x1 x6 x7 x8 o0_0 o0_1 o0_2 μ):(Bu x0l x0i x1 x6 x7 x8 o0_0 o0_1 o0_2).rK ρ μ=
 opt (bA E.P 9 (aU μ x0l x0i) 0) fun v4=>
 opt (aN v4) fun s5=>
 opt (hB s5 x1 (List.length s5:Int)) fun s6=>
 callK (ρ.call 145 [LV.str s6, LV.str x6] μ) (fun v7 μ8 =>
 opt (aH .i64 v7) fun n11=>
 cond (decide (n11 < (0 : Int))) (
 callK (ρ.call 170 [LV.int .i64 (7 : Int)] μ8) (fun v12 μ13 =>
 opt (aQ v12) fun xs16=>
 opt (aK xs16) fun u17=>
 opt (wT ρ x0l x0i x1 x6 x7 x8 n11 o0_0 o0_1 o0_2 μ13) (kR ρ iY [.block 1,.seq (cA 173 [1,1,1,1,0,1,0,0,1])] [(0,0),(1,0),(4,0),(7,0),(8,0)] (cA 173 [1,1,1,1,0,1,0,0]))) (pX me)) (
 opt (wT ρ x0l x0i x1 x6 x7 x8 n11 o0_0 o0_1 o0_2 μ8) (kR ρ iY [.block 1,.seq (cA 173 [1,1,1,1,0,1,0,0,1])] [(0,0),(1,0),(4,0),(7,0),(8,0)] (cA 173 [1,1,1,1,0,1,0,0])))) (pX me):=by kernel_rfl
theorem FK (x0l x0i x1 x7 x8 o0_0 o0_1 o0_2 μ):(xB x0l x0i x1 x7 x8 o0_0 o0_1 o0_2).sK ρ μ=
 callK (ρ.call 189 [LV.cv (CV.ref x0l x0i 0), LV.int .i64 x7, LV.int .i64 x1] μ) (fun v37 μ38 =>
 opt (aQ v37) fun xs41=>
 opt (aK xs41) fun u42=>
 callK (ρ.call 86 [LV.str x8] μ38) (fun v43 μ44 =>
 dC v43 fun n47 n48 s49=>
 some (nT x1 n47 n48 s49 μ44)) (pX tc)) (pX tc):=by kernel_rfl
theorem yz (x5 o0_0 o0_1 o0_2 μ):kB ρ 173 iY [] (nT x5 o0_0 o0_1 o0_2 μ)=
 some (.ret (LV.ltup [LV.cv (CV.agg [CV.int .i64 o0_0,CV.int .i64 o0_1,CV.str o0_2]),LV.int .i64 x5]) μ):=by kernel_rfl
theorem Ay (x0l x0i x1 x7 x8 o0_0 o0_1 o0_2 μ):kB ρ 173 iY [.block 0,.seq (cA 173 [1,1,1,1,1])] (pL x0l x0i x1 x7 x8 o0_0 o0_1 o0_2 μ)=
 cond (decide ((60 : Int) < (List.length x8 : Int))) (
 callK (ρ.call 170 [LV.int .i64 (8 : Int)] μ) (fun v31 μ32 =>
 opt (aQ v31) fun xs35=>
 opt (aK xs35) fun u36=>
 opt (uF ρ x0l x0i x1 x7 x8 o0_0 o0_1 o0_2 μ32) (kB ρ 173 iY [])) pP) (
 opt (uF ρ x0l x0i x1 x7 x8 o0_0 o0_1 o0_2 μ) (kB ρ 173 iY [])):=by kernel_rfl
theorem Az (pv μ):kB ρ 173 iY [.block 0,.seq (cA 173 [1,1,1,1,1])] (me pv μ)=
 aA (below (List.length μ) pv) (some (.panic pv μ)):=by kernel_rfl
theorem LT (al ai b μ):aJ E ρ 173 [LV.cv (CV.ref al ai 0),LV.int .i64 b] μ=
 opt (bA E.P 9 (aU μ al ai) 0) fun v1=>
 opt (aN v1) fun s2=>
 opt (hB s2 b (IntKind.wrap .i64 (b+(1:Int)))) fun s3=>
 opt (w4 ρ al ai (IntKind.wrap .i64 (b+(1:Int))) s3 b ([]:List UInt8) (0:Int) (0:Int) ([]:List UInt8) μ) (kB ρ 173 iY [.block 0,.seq (cA 173 [1,1,1,1,1])]):=by kernel_rfl
def Bk (x6 x7 x8 x9:Int)(x10:List UInt8)(o0_0 o0_1:Int)(o0_2:List UInt8):SegD:=⟨g9,[(4,0),(5,0)],cA 174 [1,1,1,1,1],mS [(4,LV.loc 0 0),(6,LV.int .u8 x6),(7,LV.int .i64 x7),(8,LV.int .u8 x8),(9,LV.int .i64 x9),(10,LV.str x10)] [Ob.cells [LV.int .i64 o0_0,LV.int .i64 o0_1,LV.str o0_2]]⟩
def D8 (x6 x7 x8 x9:Int)(x10:List UInt8)(o0_0 o0_1:Int)(o0_2:List UInt8)(μ:Mu):=(Bk x6 x7 x8 x9 x10 o0_0 o0_1 o0_2).seg ρ μ
def iK (x5 o0_0 o0_1:Int)(o0_2:List UInt8)(μ:Mu):St:= .ret (mS [(4,LV.loc 0 0),(5,LV.int .i64 x5)] [Ob.cells [LV.int .i64 o0_0,LV.int .i64 o0_1,LV.str o0_2]]) μ
def Bl (x6 x7 o0_0 o0_1:Int)(o0_2:List UInt8):SegD:=⟨g9,[(4,0),(5,0)],cA 174 [1,1,1,1,1,1],mS [(4,LV.loc 0 0),(6,LV.int .u8 x6),(7,LV.int .i64 x7)] [Ob.cells [LV.int .i64 o0_0,LV.int .i64 o0_1,LV.str o0_2]]⟩
def wU (x6 x7 o0_0 o0_1:Int)(o0_2:List UInt8)(μ:Mu):=(Bl x6 x7 o0_0 o0_1 o0_2).seg ρ μ
def kw (x5 o0_0 o0_1:Int)(o0_2:List UInt8)(μ:Mu):St:= .ret (mS [(4,LV.loc 0 0),(5,LV.int .i64 x5)] [Ob.cells [LV.int .i64 o0_0,LV.int .i64 o0_1,LV.str o0_2]]) μ
def xC (x7:Int)(x13:List UInt8)(o0_0 o0_1:Int)(o0_2:List UInt8):SegD:=⟨g9,[(4,0),(5,0)],cA 174 [1,1,1,1,1,1,1,1],mS [(4,LV.loc 0 0),(7,LV.int .i64 x7),(13,LV.str x13)] [Ob.cells [LV.int .i64 o0_0,LV.int .i64 o0_1,LV.str o0_2]]⟩
def A0 (x7:Int)(x13:List UInt8)(o0_0 o0_1:Int)(o0_2:List UInt8)(μ:Mu):=(xC x7 x13 o0_0 o0_1 o0_2).seg ρ μ
def k7 (x5 o0_0 o0_1:Int)(o0_2:List UInt8)(μ:Mu):St:= .ret (mS [(4,LV.loc 0 0),(5,LV.int .i64 x5)] [Ob.cells [LV.int .i64 o0_0,LV.int .i64 o0_1,LV.str o0_2]]) μ
def i8 (pv:CV)(μ:Mu):St:= .panic pv (mS [] []) μ
def kx (pv:CV)(μ:Mu):St:= .panic pv (mS [] []) μ
def gg (pv:CV)(μ:Mu):St:= .panic pv (mS [] []) μ
theorem FL (x7 x13 o0_0 o0_1 o0_2 μ):(xC x7 x13 o0_0 o0_1 o0_2).sK ρ μ=
 callK (ρ.call 52 [] μ) (fun v49 μ50 =>
 opt (bM v49) fun l53=>
 callK (ρ.call 50 [LV.cv (CV.sl l53), LV.str x13] μ50) (fun v54 μ55 =>
 opt (aT v54) fun b58=>
 cond (!b58) (
 callK (ρ.call 170 [LV.int .i64 (7 : Int)] μ55) (fun v59 μ60 =>
 opt (aQ v59) fun xs63=>
 opt (aK xs63) fun u64=>
 some (k7 x7 (2:Int) (0:Int) x13 μ60)) (pX i8)) (
 some (k7 x7 (2:Int) (0:Int) x13 μ55))) (pX i8)) (pX i8):=by kernel_rfl
theorem yA (x5 o0_0 o0_1 o0_2 μ):kS ρ g9 [] [(4,0),(5,0)] (k7 x5 o0_0 o0_1 o0_2 μ)=
 some (kw x5 o0_0 o0_1 o0_2 μ):=by kernel_rfl
theorem yB (pv μ):kS ρ g9 [] [(4,0),(5,0)] (i8 pv μ)=
 some (kx pv μ):=by kernel_rfl
theorem HA (x6 x7 o0_0 o0_1 o0_2 μ):(Bl x6 x7 o0_0 o0_1 o0_2).sK ρ μ=
 opt (bg [CV.int .u8 x6]) fun s40=>
 callK (ρ.call 196 [] μ) (fun v41 μ42 =>
 opt (cP v41) fun c45=>
 opt (rc (LV.cv c45) {fr:=fun _=> .cv .undef,lam:=[Ob.cells [LV.int .i64 o0_0,LV.int .i64 o0_1,LV.str o0_2]],pushed:=false} μ42) fun p46=>
 aA (jl .string p46.1) (
 optE (fg p46.1 p46.2 (Value.string ⟨⟨s40⟩⟩)) (fun c47 =>
 opt (aN (LV.cv c47)) fun s48=>
 some (kw x7 (2:Int) (0:Int) s48 μ42)) (
 opt (A0 ρ x7 s40 o0_0 o0_1 o0_2 μ42) (kS ρ g9 [] [(4,0),(5,0)])))) (pX kx):=by kernel_rfl
theorem Am (x5 o0_0 o0_1 o0_2 μ):kS ρ g9 [] [(4,0),(5,0)] (kw x5 o0_0 o0_1 o0_2 μ)=
 some (iK x5 o0_0 o0_1 o0_2 μ):=by kernel_rfl
theorem Ao (pv μ):kS ρ g9 [] [(4,0),(5,0)] (kx pv μ)=
 some (gg pv μ):=by kernel_rfl
theorem Hz (x6 x7 x8 x9 x10 o0_0 o0_1 o0_2 μ):(Bk x6 x7 x8 x9 x10 o0_0 o0_1 o0_2).sK ρ μ=
 cond (!decide (x8 = (0 : Int))) (
 callK (ρ.call 52 [] μ) (fun v30 μ31 =>
 opt (bM v30) fun l34=>
 callK (ρ.call 50 [LV.cv (CV.sl l34), LV.str x10] μ31) (fun v35 μ36 =>
 opt (aT v35) fun b39=>
 cond (b39) (
 some (iK x9 (2:Int) (0:Int) x10 μ36)) (
 opt (wU ρ x6 x7 o0_0 o0_1 o0_2 μ36) (kS ρ g9 [] [(4,0),(5,0)]))) (pX gg)) (pX gg)) (
 opt (wU ρ x6 x7 o0_0 o0_1 o0_2 μ) (kS ρ g9 [] [(4,0),(5,0)])):=by kernel_rfl
theorem Ak (x5 o0_0 o0_1 o0_2 μ):kB ρ 174 g9 [] (iK x5 o0_0 o0_1 o0_2 μ)=
 some (.ret (LV.ltup [LV.cv (CV.agg [CV.int .i64 o0_0,CV.int .i64 o0_1,CV.str o0_2]),LV.int .i64 x5]) μ):=by kernel_rfl
theorem Al (pv μ):kB ρ 174 g9 [] (gg pv μ)=
 aA (below (List.length μ) pv) (some (.panic pv μ)):=by kernel_rfl
theorem LU (al ai b μ):aJ E ρ 174 [LV.cv (CV.ref al ai 0),LV.int .i64 b] μ=
 callK (ρ.call 168 [LV.cv (CV.ref al ai 0), LV.int .i64 b] μ) (fun v1 μ2 =>
 opt (aQ v1) fun xs5=>
 opt (aw xs5) fun q6=>
 opt (aH .u8 q6.1) fun n7=>
 opt (aw q6.2) fun q8=>
 opt (aH .i64 q8.1) fun n9=>
 opt (aK q8.2) fun u10=>
 callK (ρ.call 168 [LV.cv (CV.ref al ai 0), LV.int .i64 n9] μ2) (fun v11 μ12 =>
 opt (aQ v11) fun xs15=>
 opt (aw xs15) fun q16=>
 opt (aH .u8 q16.1) fun n17=>
 opt (aw q16.2) fun q18=>
 opt (aH .i64 q18.1) fun n19=>
 opt (aK q18.2) fun u20=>
 opt (bg [CV.int .u8 n7,CV.int .u8 n17]) fun s21=>
 callK (ρ.call 196 [] μ12) (fun v22 μ23 =>
 opt (cP v22) fun c26=>
 opt (rc (LV.cv c26) {fr:=fun _=> .cv .undef,lam:=[Ob.cells [LV.int .i64 (0:Int),LV.int .i64 (0:Int),LV.str ([]:List UInt8)]],pushed:=false} μ23) fun p27=>
 aA (jl .string p27.1) (
 optE (fg p27.1 p27.2 (Value.string ⟨⟨s21⟩⟩)) (fun c28 =>
 opt (aN (LV.cv c28)) fun s29=>
 some (.ret (LV.ltup [LV.cv (CV.agg [CV.int .i64 (2:Int),CV.int .i64 (0:Int),CV.str s29]),LV.int .i64 n19]) μ23)) (
 opt (D8 ρ n7 n9 n17 n19 s21 (0:Int) (0:Int) ([]:List UInt8) μ23) (kB ρ 174 g9 [])))) pP) pP) pP:=by kernel_rfl
def Bv (x0l x0i:Nat)(x2 x6:Int):SegD:=⟨Cd,[],cA 189 [1,0,0],mS [(0,LV.cv (CV.ref x0l x0i 0)),(2,LV.int .i64 x2),(6,LV.int .i64 x6)] []⟩
def w5 (x0l x0i:Nat)(x2 x6:Int)(μ:Mu):=(Bv x0l x0i x2 x6).loop ρ μ
def pM (μ:Mu):St:= .exit 0 (mS [] []) μ
theorem yp (x0l x0i x2 x6 μ):(Bv x0l x0i x2 x6).rK ρ μ=
 cond (decide (x6 < x2)) (
 opt (gw E.P 38 (aU μ x0l x0i) 3) fun r1=>
 opt (eI r1.1) fun l2=>
 aA (gI 1 l2 [CV.int .i64 x6]) (
 aA (bx (x0l + 1) (l2 ++ [CV.int .i64 x6])) (
 opt (bv E.P 38 (aU (bp μ x0l x0i r1.2) x0l x0i) 3 (LV.osl (l2++[CV.int .i64 x6]))) fun o3=>
 w5 ρ x0l x0i x2 (IntKind.wrap .i64 (x6+(1:Int))) (bp (bp μ x0l x0i r1.2) x0l x0i o3)))) (
 some (pM μ)):=by kernel_rfl
theorem AA (μ):kB ρ 189 Cd [.block 0] (pM μ)=
 some (.ret (LV.ltup []) μ):=by kernel_rfl
theorem LW (al ai b c μ):aJ E ρ 189 [LV.cv (CV.ref al ai 0),LV.int .i64 b,LV.int .i64 c] μ=
 opt (w5 ρ al ai c b μ) (kB ρ 189 Cd [.block 0]):=by kernel_rfl
def Bw (x0l x0i:Nat)(x1:Int):SegD:=⟨Ce,[(1,0)],cA 190 [1,0,0,0],mS [(0,LV.cv (CV.ref x0l x0i 0)),(1,LV.int .i64 x1)] []⟩
def w6 (x0l x0i:Nat)(x1:Int)(μ:Mu):=(Bw x0l x0i x1).loop ρ μ
def ky (x1:Int)(μ:Mu):St:= .exit 0 (mS [(1,LV.int .i64 x1)] []) μ
theorem yq (x0l x0i x1 μ):(Bw x0l x0i x1).rK ρ μ=
 opt (bA E.P 4 (aU μ x0l x0i) 1) fun v1=>
 opt (aT v1) fun b2=>
 cond (b2) (
 opt (bA E.P 9 (aU μ x0l x0i) 0) fun v3=>
 opt (aN v3) fun s4=>
 cond (decide (x1 < (List.length s4 : Int))) (
 opt (bA E.P 9 (aU μ x0l x0i) 0) fun v5=>
 opt (aN v5) fun s6=>
 opt (gZ s6 x1) fun y7=>
 cond (decide ((y7.toNat : Int) = (32 : Int))) (
 w6 ρ x0l x0i (IntKind.wrap .i64 (x1+(1:Int))) μ) (
 some (ky x1 μ))) (
 some (ky x1 μ))) (
 some (ky x1 μ)):=by kernel_rfl
theorem AB (x1 μ):kB ρ 190 Ce [.block 0,.seq (cA 190 [1,1])] (ky x1 μ)=
 some (.ret (LV.int .i64 x1) μ):=by kernel_rfl
theorem LZ (al ai b μ):aJ E ρ 190 [LV.cv (CV.ref al ai 0),LV.int .i64 b] μ=
 opt (w6 ρ al ai b μ) (kB ρ 190 Ce [.block 0,.seq (cA 190 [1,1])]):=by kernel_rfl
def Bm (x0l x0i:Nat)(x4 x9:Int):SegD:=⟨kP,[(4,0),(5,0),(6,0),(7,0)],cA 191 [1,1,1,1],mS [(0,LV.cv (CV.ref x0l x0i 0)),(4,LV.int .u8 x4),(9,LV.int .i64 x9)] []⟩
def wV (x0l x0i:Nat)(x4 x9:Int)(μ:Mu):=(Bm x0l x0i x4 x9).seg ρ μ
def xD (x0l x0i:Nat)(x4 x9:Int)(x10:List UInt8):SegD:=⟨kP,[(4,0),(5,0),(6,0),(7,0)],cA 191 [1,1,1,1,1,1],mS [(0,LV.cv (CV.ref x0l x0i 0)),(4,LV.int .u8 x4),(9,LV.int .i64 x9),(10,LV.str x10)] []⟩
def ls (x0l x0i:Nat)(x4 x9:Int)(x10:List UInt8)(μ:Mu):=(xD x0l x0i x4 x9 x10).seg ρ μ
def nU (x4:Int)(x5:List UInt8)(x6:Int)(x7:Bool)(μ:Mu):St:= .ret (mS [(4,LV.int .u8 x4),(5,LV.str x5),(6,LV.int .i64 x6),(7,LV.bool x7)] []) μ
def Ck (pv:CV)(μ:Mu):St:= .panic pv (mS [] []) μ
def pC (x4:Int)(x5:List UInt8)(x6:Int)(x7:Bool)(μ:Mu):St:= .ret (mS [(4,LV.int .u8 x4),(5,LV.str x5),(6,LV.int .i64 x6),(7,LV.bool x7)] []) μ
def En (pv:CV)(μ:Mu):St:= .panic pv (mS [] []) μ
theorem FM (x0l x0i x4 x9 x10 μ):(xD x0l x0i x4 x9 x10).sK ρ μ=
 callK (ρ.call 169 [LV.cv (CV.ref x0l x0i 0), LV.int .i64 x9, LV.cv (CV.clo 132 [])] μ) (fun v21 μ22 =>
 opt (aQ v21) fun xs25=>
 opt (aw xs25) fun q26=>
 opt (aN q26.1) fun s27=>
 opt (aw q26.2) fun q28=>
 opt (aH .i64 q28.1) fun n29=>
 opt (aK q28.2) fun u30=>
 aA (bK (List.length x10 + List.length s27)) (
 some (nU x4 (x10++s27) n29 (!decide (s27=([]:List UInt8))) μ22))) (pX Ck):=by kernel_rfl
theorem lT (x4 x5 x6 x7 μ):kS ρ kP [] [(4,0),(5,0),(6,0),(7,0)] (nU x4 x5 x6 x7 μ)=
 some (pC x4 x5 x6 x7 μ):=by kernel_rfl
theorem HB (x0l x0i x4 x9 μ):(Bm x0l x0i x4 x9).sK ρ μ=
 callK (ρ.call 168 [LV.cv (CV.ref x0l x0i 0), LV.int .i64 x9] μ) (fun v11 μ12 =>
 opt (aQ v11) fun xs15=>
 opt (aw xs15) fun q16=>
 opt (aH .u8 q16.1) fun n17=>
 opt (aw q16.2) fun q18=>
 opt (aH .i64 q18.1) fun n19=>
 opt (aK q18.2) fun u20=>
 cond (decide (n17 = (43 : Int))) (
 cond (decide (n17 = (45 : Int))) (
 opt (ls ρ x0l x0i x4 n19 ([45]:List UInt8) μ12) (kS ρ kP [] [(4,0),(5,0),(6,0),(7,0)])) (
 opt (ls ρ x0l x0i x4 n19 ([]:List UInt8) μ12) (kS ρ kP [] [(4,0),(5,0),(6,0),(7,0)]))) (
 cond (decide (n17 = (45 : Int))) (
 cond (decide (n17 = (45 : Int))) (
 opt (ls ρ x0l x0i x4 n19 ([45]:List UInt8) μ12) (kS ρ kP [] [(4,0),(5,0),(6,0),(7,0)])) (
 opt (ls ρ x0l x0i x4 n19 ([]:List UInt8) μ12) (kS ρ kP [] [(4,0),(5,0),(6,0),(7,0)]))) (
 opt (ls ρ x0l x0i x4 x9 ([]:List UInt8) μ12) (kS ρ kP [] [(4,0),(5,0),(6,0),(7,0)])))) (pX En):=by kernel_rfl
theorem rD (x4 x5 x6 x7 μ):kB ρ 191 kP [] (pC x4 x5 x6 x7 μ)=
 some (.ret (LV.ltup [LV.int .u8 x4,LV.str x5,LV.int .i64 x6,LV.bool x7]) μ):=by kernel_rfl
theorem L0 (al ai b μ):aJ E ρ 191 [LV.cv (CV.ref al ai 0),LV.int .i64 b] μ=
 callK (ρ.call 168 [LV.cv (CV.ref al ai 0), LV.int .i64 b] μ) (fun v1 μ2 =>
 opt (aQ v1) fun xs5=>
 opt (aw xs5) fun q6=>
 opt (aH .u8 q6.1) fun n7=>
 opt (aw q6.2) fun q8=>
 opt (aH .i64 q8.1) fun n9=>
 opt (aK q8.2) fun u10=>
 cond (!decide (IntKind.wrap .u8 ((BitVec.ofInt (IntKind.bits .u8) n7 &&& ~~~BitVec.ofInt (IntKind.bits .u8) (32 : Int)).toNat : Int) = (69 : Int))) (
 cond (!decide (IntKind.wrap .u8 ((BitVec.ofInt (IntKind.bits .u8) n7 &&& ~~~BitVec.ofInt (IntKind.bits .u8) (32 : Int)).toNat : Int) = (68 : Int))) (
 some (.ret (LV.ltup [LV.int .u8 (0:Int),LV.str ([]:List UInt8),LV.int .i64 b,LV.bool false]) μ2)) (
 opt (wV ρ al ai (IntKind.wrap .u8 ((BitVec.ofInt (IntKind.bits .u8) n7 &&& ~~~BitVec.ofInt (IntKind.bits .u8) (32:Int)).toNat:Int)) n9 μ2) (kB ρ 191 kP []))) (
 opt (wV ρ al ai (IntKind.wrap .u8 ((BitVec.ofInt (IntKind.bits .u8) n7 &&& ~~~BitVec.ofInt (IntKind.bits .u8) (32:Int)).toNat:Int)) n9 μ2) (kB ρ 191 kP []))) pP:=by kernel_rfl
theorem L1 (a μ):aJ E ρ 192 [LV.str a] μ=
 callK (ρ.call 45 [LV.str a] μ) (fun v1 μ2 =>
 opt (aQ v1) fun xs5=>
 opt (aw xs5) fun q6=>
 opt (aH .i64 q6.1) fun n7=>
 opt (aw q6.2) fun q8=>
 opt (cP q8.1) fun c9=>
 opt (aK q8.2) fun u10=>
 cond (decide ((10 : Int) < (List.length a : Int))) (
 callK (ρ.call 170 [LV.int .i64 (28 : Int)] μ2) (fun v11 μ12 =>
 opt (aQ v11) fun xs15=>
 opt (aK xs15) fun u16=>
 callK (ρ.call 66 [LV.int .i64 n7] μ12) (fun v17 μ18 =>
 opt (aN v17) fun s21=>
 some (.ret (LV.cv (CV.agg [CV.int .i64 (1:Int),CV.int .i64 (0:Int),CV.str s21])) μ18)) pP) pP) (
 opt (wH (LV.cv c9)) fun b22=>
 cond (!b22) (
 callK (ρ.call 170 [LV.int .i64 (28 : Int)] μ2) (fun v23 μ24 =>
 opt (aQ v23) fun xs27=>
 opt (aK xs27) fun u28=>
 callK (ρ.call 66 [LV.int .i64 n7] μ24) (fun v29 μ30 =>
 opt (aN v29) fun s33=>
 some (.ret (LV.cv (CV.agg [CV.int .i64 (1:Int),CV.int .i64 (0:Int),CV.str s33])) μ30)) pP) pP) (
 cond (decide ((2147483647 : Int) < n7)) (
 callK (ρ.call 170 [LV.int .i64 (28 : Int)] μ2) (fun v34 μ35 =>
 opt (aQ v34) fun xs38=>
 opt (aK xs38) fun u39=>
 callK (ρ.call 66 [LV.int .i64 n7] μ35) (fun v40 μ41 =>
 opt (aN v40) fun s44=>
 some (.ret (LV.cv (CV.agg [CV.int .i64 (1:Int),CV.int .i64 (0:Int),CV.str s44])) μ41)) pP) pP) (
 callK (ρ.call 66 [LV.int .i64 n7] μ2) (fun v45 μ46 =>
 opt (aN v45) fun s49=>
 some (.ret (LV.cv (CV.agg [CV.int .i64 (1:Int),CV.int .i64 (0:Int),CV.str s49])) μ46)) pP)))) pP:=by kernel_rfl
theorem L3 (a b μ):aJ E ρ 193 [LV.str a,LV.str b] μ=
 callK (ρ.call 62 [LV.str a, LV.str ([48] : List UInt8)] μ) (fun v1 μ2 =>
 opt (aN v1) fun s5=>
 callK (ρ.call 63 [LV.str b, LV.str ([48] : List UInt8)] μ2) (fun v6 μ7 =>
 opt (aN v6) fun s10=>
 some (.ret (LV.int .i64 (IntKind.wrap .i64 ((List.length s5:Int)+(List.length s10:Int)))) μ7)) pP) pP:=by kernel_rfl
theorem L4 (μ):aJ E ρ 196 [] μ=
 some (.ret (LV.cv (CV.mview [Value.string ⟨⟨([60,61]:List UInt8)⟩⟩,Value.string ⟨⟨([62,61]:List UInt8)⟩⟩,Value.string ⟨⟨([61,61]:List UInt8)⟩⟩,Value.string ⟨⟨([47,61]:List UInt8)⟩⟩,Value.string ⟨⟨([60]:List UInt8)⟩⟩,Value.string ⟨⟨([62]:List UInt8)⟩⟩] [CV.str ([46,76,69,46]:List UInt8),CV.str ([46,71,69,46]:List UInt8),CV.str ([46,69,81,46]:List UInt8),CV.str ([46,78,69,46]:List UInt8),CV.str ([46,76,84,46]:List UInt8),CV.str ([46,71,84,46]:List UInt8)])) μ):=by kernel_rfl
end
end Go.Abs
