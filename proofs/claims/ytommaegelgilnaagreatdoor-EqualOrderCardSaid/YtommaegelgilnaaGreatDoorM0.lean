/- The contracts of Go's library that the walks use, laid at this program by the kit's tool; those that nothing here uses are left out. -/
import Derived.Shelf.Spec.SlicesInsert
import Derived.Shelf.Spec.SlicesInsertGrow
import Derived.Shelf.Strings.Builder1
import Derived.Shelf.Small.Utf8
import Derived.Shelf.Small.Bits
import Derived.Shelf.Small.Strs
import Derived.Shelf.Small.Wraps
import Derived.Shelf.Strings.BuilderF
import Derived.Shelf.Strings.BuilderK
import Derived.Shelf.Strconv.Atoi
import Derived.Shelf.Strconv.Itoa0
import Derived.Shelf.Strconv.Itoa1
import Derived.Shelf.LaysM
import Derived.Shelf.Strconv.Itoa2
import Derived.Shelf.Strconv.Itoa3
import Derived.Shelf.Strconv.AtoiErrFast
import Derived.Shelf.Strconv.ParseIntEmpty
import Derived.Shelf.Strconv.AtoiFail
import Derived.Shelf.Strconv.Clone
import Derived.Shelf.Strconv.SyntaxError
import Derived.Shelf.LaysC
import Derived.Shelf.Strconv.ToError
import Derived.Shelf.Strconv.Lower
import Derived.Shelf.Strconv.ParseUint10
import Derived.Shelf.Strconv.ParseUint10Empty
import Derived.Shelf.Strconv.ParseUint10Any
import Derived.Shelf.Strconv.ParseInt10
import Derived.Shelf.Strconv.AtoiLong
import Derived.Shelf.Strconv.AtoiInnerAll
import Derived.Shelf.Strconv.RangeError
import Derived.Shelf.Strconv.ToErrorRange
import Derived.Shelf.Strconv.AtoiAll
import Derived.Shelf.Strings.Search1
import Derived.Shelf.Sort.Plain
import Derived.Shelf.Strconv.AppendUint10
import Derived.Shelf.Strconv.AppendInt10
import Derived.Shelf.Strconv.AppendIntPublic10
import Derived.Shelf.Strings.Prefix
import Derived.Shelf.Strings.Runes
import Derived.Shelf.Strings.IndexAny
import Derived.Shelf.Strings.AsciiSet
import Derived.Shelf.Strings.IndexAnyAll
import Derived.Shelf.Bits.Mul64
import Derived.Shelf.Strings.BuilderCap
import Derived.Shelf.Slices.Turned
import Derived.Shelf.Slices.Reverse
import Derived.Shelf.Slices.Equal
import Derived.Ground.Names2Prog
import Derived.Shelf.Slices.Clone
import Derived.Shelf.Slices.CompactI
import Derived.Shelf.Slices.SearchI
import Derived.Shelf.Slices.Cells
import Derived.Shelf.Slices.In.SortNone
import Derived.Shelf.Slices.Empties
import Derived.Shelf.Slices.Empties2
import Derived.Ground.SlgnProg
import Derived.Shelf.SlicesE.Equal
import Derived.Shelf.SlicesE.Compact
import Derived.Ground.SlgfProg
import Derived.Shelf.SlicesE.IndexFunc
import Derived.Shelf.SlicesE.DeleteFunc
import Derived.Test.YtommaegelgilnaaGreatDoorProg
set_option linter.all false
namespace Go.Proofs
open Go.Shelf
theorem zcg{α:Type}{a b:α}(h:a=b:=by kernel_rfl):some a=some b:=congrArg some h
def Tryz.lays169_ren:Go.Shelf.Ren:=⟨λ |169=>176|n=>n,λ |70=>237|9=>9|0=>0|72=>240|37=>238|127=>277|3=>3|5=>5|n=>n,λ |n=>n⟩
theorem Tryz.lays169:Go.Proofs.Lays.n169 Tryz.prog Tryz.lays169_ren:={
  mixed:=by kernel_rfl
  f169:=Tryz.func176.trans zcg
  t0:=Tryz.underlying0
  a0:=Tryz.isAgg0
  z0:=Tryz.sizeOf0
  v0:=Tryz.zeroValue0
  t3:=Tryz.underlying3
  a3:=Tryz.isAgg3
  z3:=Tryz.sizeOf3
  v3:=Tryz.zeroValue3
  t9:=Tryz.underlying9
  a9:=Tryz.isAgg9
  z9:=Tryz.sizeOf9
  v9:=Tryz.zeroValue9
  t37:=Tryz.underlying238
  a37:=Tryz.isAgg238
  z37:=Tryz.sizeOf238
  v37:=Tryz.zeroValue238
  t70:=Tryz.underlying237
  a70:=Tryz.isAgg237
  z70:=Tryz.sizeOf237
  v70:=Tryz.zeroValue237
  t72:=Tryz.underlying240
  a72:=Tryz.isAgg240
  z72:=Tryz.sizeOf240
  v72:=Tryz.zeroValue240
  t127:=Tryz.underlying277
  a127:=Tryz.isAgg277
  z127:=Tryz.sizeOf277
  v127:=Tryz.zeroValue277}
theorem Tryz.Builder_Extra_169:Builder.Extra Tryz.prog Tryz.lays169_ren:={
  sizeBuilder:=by kernel_rfl
  liesBuilder:=by kernel_rfl
  t5:=Tryz.underlying5
  a5:=Tryz.isAgg5
  z5:=Tryz.sizeOf5
  v5:=Tryz.zeroValue5
  infoByte:=by kernel_rfl
  cellsByte:=by kernel_rfl
  sizeByte:=by kernel_rfl
  neB5:=by decide}
def Tryz.lays119_ren:Go.Shelf.Ren:=⟨λ |119=>262|n=>n,λ |21=>21|4=>4|n=>n,λ |n=>n⟩
theorem Tryz.lays119:Go.Proofs.Lays.n119 Tryz.prog Tryz.lays119_ren:={
  mixed:=by kernel_rfl
  f119:=Tryz.func262.trans zcg
  t4:=Tryz.underlying4
  a4:=Tryz.isAgg4
  z4:=Tryz.sizeOf4
  v4:=Tryz.zeroValue4
  t21:=Tryz.underlying21
  a21:=Tryz.isAgg21
  z21:=Tryz.sizeOf21
  v21:=Tryz.zeroValue21}
theorem Tryz.utf8_ValidRune(r:Int)(w:World):
    Calls Tryz.prog 262 #[.int .i32 r] w λe w'=>e= .returned (.bool (Lib.validRune r))/\w'=w:=Any.utf8_ValidRune Tryz.lays119 r w
def Tryz.lays137_ren:Go.Shelf.Ren:=⟨λ |137=>211|217=>239|266=>256|n=>n,λ |9=>9|5=>5|3=>3|n=>n,λ |n=>n⟩
theorem Tryz.lays137:Go.Proofs.Lays.n137 Tryz.prog Tryz.lays137_ren:={
  mixed:=by kernel_rfl
  f137:=Tryz.func211.trans zcg
  f217:=Tryz.func239.trans zcg
  f266:=Tryz.func256.trans zcg
  t3:=Tryz.underlying3
  a3:=Tryz.isAgg3
  z3:=Tryz.sizeOf3
  v3:=Tryz.zeroValue3
  t5:=Tryz.underlying5
  a5:=Tryz.isAgg5
  z5:=Tryz.sizeOf5
  v5:=Tryz.zeroValue5
  t9:=Tryz.underlying9
  a9:=Tryz.isAgg9
  z9:=Tryz.sizeOf9
  v9:=Tryz.zeroValue9}
open Go.RowKit in
theorem Tryz.strings_IndexByte(s:ByteArray)(c:Int)(w:World):
    Calls Tryz.prog 211 #[.string s,.int .u8 c] w λe w'=>e= .returned (.int .i64 (Lib.indexByte s.data.toList c.toNat.toUInt8))/\w'=w:=Any.strings_IndexByte Tryz.lays137 s c w
open Go.RowKit in
theorem Tryz.Builder_String_any_f(B b:Nat)(l:List UInt8)(w:World)(h:Lib.IsBuilderF 240 5 B b (Lib.byteCells l) w)(hBw:B<=w.heap.size):
    Calls Tryz.prog 176 #[.pointer (some ⟨b,0,none⟩)] w λe w'=>e= .returned (.string ⟨l.toArray⟩)/\(Lib.IsBuilderF 240 5 B b (Lib.byteCells l) w'/\Below B w w'):=Any.Builder_String_any_f Tryz.lays169 Tryz.Builder_Extra_169 B b l w h hBw
def Tryz.lays172_ren:Go.Shelf.Ren:=⟨λ |172=>212|244=>240|245=>241|247=>257|279=>258|280=>259|281=>260|282=>261|287=>272|316=>273|171=>175|205=>274|321=>279|322=>280|243=>222|246=>251|283=>267|284=>268|285=>269|286=>270|129=>116|317=>275|318=>276|319=>277|320=>278|337=>281|338=>282|n=>n,λ |9=>9|3=>3|75=>261|76=>262|4=>4|5=>5|167=>294|37=>238|0=>0|85=>295|2=>2|168=>297|53=>172|175=>309|46=>118|210=>313|127=>277|145=>321|143=>319|21=>21|171=>305|173=>307|212=>316|51=>170|20=>20|213=>317|232=>322|233=>323|80=>243|n=>n,λ |15=>1|16=>2|17=>3|18=>4|19=>5|n=>n⟩
theorem Tryz.lays172:Go.Proofs.Lays.n172 Tryz.prog Tryz.lays172_ren:={
  mixed:=by kernel_rfl
  f129:=Tryz.func116.trans zcg
  f171:=Tryz.func175.trans zcg
  f172:=Tryz.func212.trans zcg
  f205:=Tryz.func274.trans zcg
  f243:=Tryz.func222.trans zcg
  f244:=Tryz.func240.trans zcg
  f245:=Tryz.func241.trans zcg
  f246:=Tryz.func251.trans zcg
  f247:=Tryz.func257.trans zcg
  f279:=Tryz.func258.trans zcg
  f280:=Tryz.func259.trans zcg
  f281:=Tryz.func260.trans zcg
  f282:=Tryz.func261.trans zcg
  f283:=Tryz.func267.trans zcg
  f284:=Tryz.func268.trans zcg
  f285:=Tryz.func269.trans zcg
  f286:=Tryz.func270.trans zcg
  f287:=Tryz.func272.trans zcg
  f316:=Tryz.func273.trans zcg
  f317:=Tryz.func275.trans zcg
  f318:=Tryz.func276.trans zcg
  f319:=Tryz.func277.trans zcg
  f320:=Tryz.func278.trans zcg
  f321:=Tryz.func279.trans zcg
  f322:=Tryz.func280.trans zcg
  f337:=Tryz.func281.trans zcg
  f338:=Tryz.func282.trans zcg
  t0:=Tryz.underlying0
  a0:=Tryz.isAgg0
  z0:=Tryz.sizeOf0
  v0:=Tryz.zeroValue0
  t2:=Tryz.underlying2
  a2:=Tryz.isAgg2
  z2:=Tryz.sizeOf2
  v2:=Tryz.zeroValue2
  t3:=Tryz.underlying3
  a3:=Tryz.isAgg3
  z3:=Tryz.sizeOf3
  v3:=Tryz.zeroValue3
  t4:=Tryz.underlying4
  a4:=Tryz.isAgg4
  z4:=Tryz.sizeOf4
  v4:=Tryz.zeroValue4
  t5:=Tryz.underlying5
  a5:=Tryz.isAgg5
  z5:=Tryz.sizeOf5
  v5:=Tryz.zeroValue5
  t9:=Tryz.underlying9
  a9:=Tryz.isAgg9
  z9:=Tryz.sizeOf9
  v9:=Tryz.zeroValue9
  t20:=Tryz.underlying20
  a20:=Tryz.isAgg20
  z20:=Tryz.sizeOf20
  v20:=Tryz.zeroValue20
  t21:=Tryz.underlying21
  a21:=Tryz.isAgg21
  z21:=Tryz.sizeOf21
  v21:=Tryz.zeroValue21
  t37:=Tryz.underlying238
  a37:=Tryz.isAgg238
  z37:=Tryz.sizeOf238
  v37:=Tryz.zeroValue238
  t46:=Tryz.underlying118
  a46:=Tryz.isAgg118
  z46:=Tryz.sizeOf118
  v46:=Tryz.zeroValue118
  t51:=Tryz.underlying170
  a51:=Tryz.isAgg170
  z51:=Tryz.sizeOf170
  v51:=Tryz.zeroValue170
  t53:=Tryz.underlying172
  a53:=Tryz.isAgg172
  z53:=Tryz.sizeOf172
  v53:=Tryz.zeroValue172
  t75:=Tryz.underlying261
  a75:=Tryz.isAgg261
  z75:=Tryz.sizeOf261
  v75:=Tryz.zeroValue261
  t76:=Tryz.underlying262
  a76:=Tryz.isAgg262
  z76:=Tryz.sizeOf262
  v76:=Tryz.zeroValue262
  t85:=Tryz.underlying295
  a85:=Tryz.isAgg295
  z85:=Tryz.sizeOf295
  v85:=Tryz.zeroValue295
  t127:=Tryz.underlying277
  a127:=Tryz.isAgg277
  z127:=Tryz.sizeOf277
  v127:=Tryz.zeroValue277
  t143:=Tryz.underlying319
  a143:=Tryz.isAgg319
  z143:=Tryz.sizeOf319
  v143:=Tryz.zeroValue319
  t145:=Tryz.underlying321
  a145:=Tryz.isAgg321
  z145:=Tryz.sizeOf321
  v145:=Tryz.zeroValue321
  t167:=Tryz.underlying294
  a167:=Tryz.isAgg294
  z167:=Tryz.sizeOf294
  v167:=Tryz.zeroValue294
  t168:=Tryz.underlying297
  a168:=Tryz.isAgg297
  z168:=Tryz.sizeOf297
  v168:=Tryz.zeroValue297
  t171:=Tryz.underlying305
  a171:=Tryz.isAgg305
  z171:=Tryz.sizeOf305
  v171:=Tryz.zeroValue305
  t173:=Tryz.underlying307
  a173:=Tryz.isAgg307
  z173:=Tryz.sizeOf307
  v173:=Tryz.zeroValue307
  t175:=Tryz.underlying309
  a175:=Tryz.isAgg309
  z175:=Tryz.sizeOf309
  v175:=Tryz.zeroValue309
  t210:=Tryz.underlying313
  a210:=Tryz.isAgg313
  z210:=Tryz.sizeOf313
  v210:=Tryz.zeroValue313
  t212:=Tryz.underlying316
  a212:=Tryz.isAgg316
  z212:=Tryz.sizeOf316
  v212:=Tryz.zeroValue316
  t213:=Tryz.underlying317
  a213:=Tryz.isAgg317
  z213:=Tryz.sizeOf317
  t232:=Tryz.underlying322
  a232:=Tryz.isAgg322
  z232:=Tryz.sizeOf322
  v232:=Tryz.zeroValue322
  t233:=Tryz.underlying323
  a233:=Tryz.isAgg323
  z233:=Tryz.sizeOf323
  v233:=Tryz.zeroValue323
  g15:=by kernel_rfl
  g16:=by kernel_rfl
  g17:=by kernel_rfl
  g18:=by kernel_rfl
  g19:=by kernel_rfl}
open Go.RowKit in
theorem Tryz.strconv_Atoi(s:ByteArray)(n:Int)(hl:s.size<=18)(h:Lib.atoi s.data.toList=some n)(w:World):
    Calls Tryz.prog 212 #[.string s] w λe w'=>e= .returned (.tuple #[.int .i64 n,.nilIface])/\∃t,w'=Lib.bytesWorld w 5 t:=Any.strconv_Atoi Tryz.lays172 s n hl h w
def Tryz.laysM171_ren:Go.Shelf.Ren:=⟨λ |171=>175|243=>222|246=>251|283=>267|284=>268|285=>269|286=>270|129=>116|317=>275|318=>276|319=>277|320=>278|337=>281|338=>282|n=>n,λ |3=>3|9=>9|2=>2|4=>4|171=>305|0=>0|53=>172|37=>238|5=>5|173=>307|212=>316|51=>170|20=>20|213=>317|46=>118|232=>322|233=>323|n=>n,λ |17=>3|18=>4|19=>5|n=>n⟩
theorem Tryz.laysM171:Go.Proofs.LaysM.n171 Tryz.prog Tryz.laysM171_ren:={
  mixed:=by kernel_rfl
  f129:=Tryz.func116.trans zcg
  f171:=Tryz.func175.trans zcg
  f243:=Tryz.func222.trans zcg
  f246:=Tryz.func251.trans zcg
  f283:=Tryz.func267.trans zcg
  f284:=Tryz.func268.trans zcg
  f285:=Tryz.func269.trans zcg
  f286:=Tryz.func270.trans zcg
  f317:=Tryz.func275.trans zcg
  f318:=Tryz.func276.trans zcg
  f319:=Tryz.func277.trans zcg
  f320:=Tryz.func278.trans zcg
  f337:=Tryz.func281.trans zcg
  f338:=Tryz.func282.trans zcg
  t0:=Tryz.underlying0
  a0:=Tryz.isAgg0
  z0:=Tryz.sizeOf0
  v0:=Tryz.zeroValue0
  t2:=Tryz.underlying2
  a2:=Tryz.isAgg2
  z2:=Tryz.sizeOf2
  v2:=Tryz.zeroValue2
  t3:=Tryz.underlying3
  a3:=Tryz.isAgg3
  z3:=Tryz.sizeOf3
  v3:=Tryz.zeroValue3
  t4:=Tryz.underlying4
  a4:=Tryz.isAgg4
  z4:=Tryz.sizeOf4
  v4:=Tryz.zeroValue4
  t5:=Tryz.underlying5
  a5:=Tryz.isAgg5
  z5:=Tryz.sizeOf5
  v5:=Tryz.zeroValue5
  t9:=Tryz.underlying9
  a9:=Tryz.isAgg9
  z9:=Tryz.sizeOf9
  v9:=Tryz.zeroValue9
  t20:=Tryz.underlying20
  a20:=Tryz.isAgg20
  z20:=Tryz.sizeOf20
  v20:=Tryz.zeroValue20
  t37:=Tryz.underlying238
  a37:=Tryz.isAgg238
  z37:=Tryz.sizeOf238
  v37:=Tryz.zeroValue238
  t46:=Tryz.underlying118
  a46:=Tryz.isAgg118
  z46:=Tryz.sizeOf118
  v46:=Tryz.zeroValue118
  t51:=Tryz.underlying170
  a51:=Tryz.isAgg170
  z51:=Tryz.sizeOf170
  v51:=Tryz.zeroValue170
  t53:=Tryz.underlying172
  a53:=Tryz.isAgg172
  z53:=Tryz.sizeOf172
  v53:=Tryz.zeroValue172
  t171:=Tryz.underlying305
  a171:=Tryz.isAgg305
  z171:=Tryz.sizeOf305
  v171:=Tryz.zeroValue305
  t173:=Tryz.underlying307
  a173:=Tryz.isAgg307
  z173:=Tryz.sizeOf307
  v173:=Tryz.zeroValue307
  t212:=Tryz.underlying316
  a212:=Tryz.isAgg316
  z212:=Tryz.sizeOf316
  v212:=Tryz.zeroValue316
  t213:=Tryz.underlying317
  a213:=Tryz.isAgg317
  z213:=Tryz.sizeOf317
  t232:=Tryz.underlying322
  a232:=Tryz.isAgg322
  z232:=Tryz.sizeOf322
  v232:=Tryz.zeroValue322
  t233:=Tryz.underlying323
  a233:=Tryz.isAgg323
  z233:=Tryz.sizeOf323
  v233:=Tryz.zeroValue323
  g17:=by kernel_rfl
  g18:=by kernel_rfl
  g19:=by kernel_rfl
  i0:=by kernel_rfl
  i2:=by kernel_rfl
  i3:=by kernel_rfl
  i4:=by kernel_rfl
  i5:=by kernel_rfl
  i9:=by kernel_rfl
  i20:=by kernel_rfl
  i37:=by kernel_rfl
  i46:=by kernel_rfl
  i51:=by kernel_rfl
  i53:=by kernel_rfl
  i171:=by kernel_rfl
  i173:=by kernel_rfl
  i212:=by kernel_rfl
  i232:=by kernel_rfl
  i233:=by kernel_rfl
  m17:=by kernel_rfl
  m18:=by kernel_rfl
  m19:=by kernel_rfl}
open Go.RowKit Go.Sort Go.Lib in
theorem Tryz.strconv_Itoa(n:Int)(h0: -9223372036854775808<=n)(h1:n<=9223372036854775807)(w:World)(htab:Lib.TabIs Tryz.prog w "internal/strconv.uint64pow10" .u64 Lib.pow10Tab):
    Calls Tryz.prog 175 #[.int .i64 n] w λe w'=>e= .returned (.string ⟨(Lib.itoa n).toArray⟩)/\∃k os,w'=grow (w.drewN k) os:=Any.strconv_Itoa Tryz.laysM171 n h0 h1 w htab
def Tryz.lays189_ren:Go.Shelf.Ren:=⟨λ |189=>29|125=>64|257=>63|128=>115|129=>116|294=>106|295=>107|296=>108|297=>109|298=>110|299=>111|216=>112|300=>113|301=>114|328=>161|329=>162|330=>163|331=>164|332=>165|215=>166|343=>217|n=>n,λ |28=>33|3=>3|46=>118|0=>0|51=>170|53=>172|4=>4|183=>164|182=>163|131=>143|5=>5|9=>9|218=>226|222=>230|228=>271|229=>272|n=>n,λ |n=>n⟩
theorem Tryz.lays189:Go.Proofs.Lays.n189 Tryz.prog Tryz.lays189_ren:={
  mixed:=by kernel_rfl
  f125:=Tryz.func64.trans zcg
  f128:=Tryz.func115.trans zcg
  f129:=Tryz.func116.trans zcg
  f189:=Tryz.func29.trans zcg
  f215:=Tryz.func166.trans zcg
  f216:=Tryz.func112.trans zcg
  f257:=Tryz.func63.trans zcg
  f294:=Tryz.func106.trans zcg
  f295:=Tryz.func107.trans zcg
  f296:=Tryz.func108.trans zcg
  f297:=Tryz.func109.trans zcg
  f298:=Tryz.func110.trans zcg
  f299:=Tryz.func111.trans zcg
  f300:=Tryz.func113.trans zcg
  f301:=Tryz.func114.trans zcg
  f328:=Tryz.func161.trans zcg
  f329:=Tryz.func162.trans zcg
  f330:=Tryz.func163.trans zcg
  f331:=Tryz.func164.trans zcg
  f332:=Tryz.func165.trans zcg
  f343:=Tryz.func217.trans zcg
  t0:=Tryz.underlying0
  a0:=Tryz.isAgg0
  z0:=Tryz.sizeOf0
  v0:=Tryz.zeroValue0
  t3:=Tryz.underlying3
  a3:=Tryz.isAgg3
  z3:=Tryz.sizeOf3
  v3:=Tryz.zeroValue3
  t4:=Tryz.underlying4
  a4:=Tryz.isAgg4
  z4:=Tryz.sizeOf4
  v4:=Tryz.zeroValue4
  t5:=Tryz.underlying5
  a5:=Tryz.isAgg5
  z5:=Tryz.sizeOf5
  v5:=Tryz.zeroValue5
  t9:=Tryz.underlying9
  a9:=Tryz.isAgg9
  z9:=Tryz.sizeOf9
  v9:=Tryz.zeroValue9
  t28:=Tryz.underlying33
  a28:=Tryz.isAgg33
  z28:=Tryz.sizeOf33
  v28:=Tryz.zeroValue33
  t46:=Tryz.underlying118
  a46:=Tryz.isAgg118
  z46:=Tryz.sizeOf118
  v46:=Tryz.zeroValue118
  t51:=Tryz.underlying170
  a51:=Tryz.isAgg170
  z51:=Tryz.sizeOf170
  v51:=Tryz.zeroValue170
  t53:=Tryz.underlying172
  a53:=Tryz.isAgg172
  z53:=Tryz.sizeOf172
  v53:=Tryz.zeroValue172
  t131:=Tryz.underlying143
  a131:=Tryz.isAgg143
  z131:=Tryz.sizeOf143
  v131:=Tryz.zeroValue143
  t182:=Tryz.underlying163
  a182:=Tryz.isAgg163
  z182:=Tryz.sizeOf163
  v182:=Tryz.zeroValue163
  t183:=Tryz.underlying164
  a183:=Tryz.isAgg164
  z183:=Tryz.sizeOf164
  v183:=Tryz.zeroValue164
  t218:=Tryz.underlying226
  a218:=Tryz.isAgg226
  z218:=Tryz.sizeOf226
  v218:=Tryz.zeroValue226
  t222:=Tryz.underlying230
  a222:=Tryz.isAgg230
  z222:=Tryz.sizeOf230
  v222:=Tryz.zeroValue230
  t228:=Tryz.underlying271
  a228:=Tryz.isAgg271
  z228:=Tryz.sizeOf271
  v228:=Tryz.zeroValue271
  t229:=Tryz.underlying272
  a229:=Tryz.isAgg272
  z229:=Tryz.sizeOf272
  v229:=Tryz.zeroValue272}
open Go.Sort Go.RowKit in
theorem Tryz.slices_Sort_int(blk off cap:Nat)(zs:List Int)(w:World)(hH:Holds (Value.int .i64) w blk off zs.toArray)(hblk:blk<w.heap.size)(hsz:zs.length<4611686018427387904):
    Calls Tryz.prog 29 #[.slice (some ⟨blk,off,none⟩) zs.length cap] w λe w'=>
      e= .returned (.tuple #[])/\∃n os,w'=grow (putRow (Value.int .i64) (Sort.ahead w n) blk off (zs.mergeSort λx y=>decide (x<=y)).toArray) os:=Any.slices_Sort_int Tryz.lays189 blk off cap zs w hH hblk hsz
def Tryz.laysM176_ren:Go.Shelf.Ren:=⟨λ |176=>218|249=>249|288=>265|283=>267|284=>268|285=>269|286=>270|129=>116|317=>275|318=>276|319=>277|320=>278|337=>281|338=>282|n=>n,λ |37=>238|2=>2|3=>3|53=>172|4=>4|9=>9|171=>305|0=>0|173=>307|212=>316|51=>170|5=>5|20=>20|213=>317|46=>118|232=>322|233=>323|n=>n,λ |17=>3|18=>4|19=>5|n=>n⟩
theorem Tryz.laysM176:Go.Proofs.LaysM.n176 Tryz.prog Tryz.laysM176_ren:={
  mixed:=by kernel_rfl
  f129:=Tryz.func116.trans zcg
  f176:=Tryz.func218.trans zcg
  f249:=Tryz.func249.trans zcg
  f283:=Tryz.func267.trans zcg
  f284:=Tryz.func268.trans zcg
  f285:=Tryz.func269.trans zcg
  f286:=Tryz.func270.trans zcg
  f288:=Tryz.func265.trans zcg
  f317:=Tryz.func275.trans zcg
  f318:=Tryz.func276.trans zcg
  f319:=Tryz.func277.trans zcg
  f320:=Tryz.func278.trans zcg
  f337:=Tryz.func281.trans zcg
  f338:=Tryz.func282.trans zcg
  t0:=Tryz.underlying0
  a0:=Tryz.isAgg0
  z0:=Tryz.sizeOf0
  v0:=Tryz.zeroValue0
  t2:=Tryz.underlying2
  a2:=Tryz.isAgg2
  z2:=Tryz.sizeOf2
  v2:=Tryz.zeroValue2
  t3:=Tryz.underlying3
  a3:=Tryz.isAgg3
  z3:=Tryz.sizeOf3
  v3:=Tryz.zeroValue3
  t4:=Tryz.underlying4
  a4:=Tryz.isAgg4
  z4:=Tryz.sizeOf4
  v4:=Tryz.zeroValue4
  t5:=Tryz.underlying5
  a5:=Tryz.isAgg5
  z5:=Tryz.sizeOf5
  v5:=Tryz.zeroValue5
  t9:=Tryz.underlying9
  a9:=Tryz.isAgg9
  z9:=Tryz.sizeOf9
  v9:=Tryz.zeroValue9
  t20:=Tryz.underlying20
  a20:=Tryz.isAgg20
  z20:=Tryz.sizeOf20
  v20:=Tryz.zeroValue20
  t37:=Tryz.underlying238
  a37:=Tryz.isAgg238
  z37:=Tryz.sizeOf238
  v37:=Tryz.zeroValue238
  t46:=Tryz.underlying118
  a46:=Tryz.isAgg118
  z46:=Tryz.sizeOf118
  v46:=Tryz.zeroValue118
  t51:=Tryz.underlying170
  a51:=Tryz.isAgg170
  z51:=Tryz.sizeOf170
  v51:=Tryz.zeroValue170
  t53:=Tryz.underlying172
  a53:=Tryz.isAgg172
  z53:=Tryz.sizeOf172
  v53:=Tryz.zeroValue172
  t171:=Tryz.underlying305
  a171:=Tryz.isAgg305
  z171:=Tryz.sizeOf305
  v171:=Tryz.zeroValue305
  t173:=Tryz.underlying307
  a173:=Tryz.isAgg307
  z173:=Tryz.sizeOf307
  v173:=Tryz.zeroValue307
  t212:=Tryz.underlying316
  a212:=Tryz.isAgg316
  z212:=Tryz.sizeOf316
  v212:=Tryz.zeroValue316
  t213:=Tryz.underlying317
  a213:=Tryz.isAgg317
  z213:=Tryz.sizeOf317
  t232:=Tryz.underlying322
  a232:=Tryz.isAgg322
  z232:=Tryz.sizeOf322
  v232:=Tryz.zeroValue322
  t233:=Tryz.underlying323
  a233:=Tryz.isAgg323
  z233:=Tryz.sizeOf323
  v233:=Tryz.zeroValue323
  g17:=by kernel_rfl
  g18:=by kernel_rfl
  g19:=by kernel_rfl
  i0:=by kernel_rfl
  i2:=by kernel_rfl
  i3:=by kernel_rfl
  i4:=by kernel_rfl
  i5:=by kernel_rfl
  i9:=by kernel_rfl
  i20:=by kernel_rfl
  i37:=by kernel_rfl
  i46:=by kernel_rfl
  i51:=by kernel_rfl
  i53:=by kernel_rfl
  i171:=by kernel_rfl
  i173:=by kernel_rfl
  i212:=by kernel_rfl
  i232:=by kernel_rfl
  i233:=by kernel_rfl
  m17:=by kernel_rfl
  m18:=by kernel_rfl
  m19:=by kernel_rfl}
open Go.RowKit Go.Sort Go.Lib in
theorem Tryz.strconv_AppendInt_10(B n:Nat)(i:Int)(h0: -9223372036854775808<=i)(h1:i<=9223372036854775807)(sv:Value)(xs:List Value)(w:World)(hown:w.ownsRow B 5 1 sv n xs)(hBw:B<=w.heap.size)(hlim:n+21<=140737488355328)(htab:Lib.TabBelow Tryz.prog B w "internal/strconv.uint64pow10" .u64 Lib.pow10Tab):
    Calls Tryz.prog 218 #[sv,.int .i64 i,.int .i64 10] w λe w'=>∃v',e= .returned v'/\w'.ownsRow B 5 1 v' (n+(Lib.itoa i).length) (xs++Lib.byteCells (Lib.itoa i))/\Below B w w'/\Lib.OthersKept 5 none w w':=Any.strconv_AppendInt_10 Tryz.laysM176 B n i h0 h1 sv xs w hown hBw hlim htab
def Tryz.lays99_ren:Go.Shelf.Ren:=⟨λ |99=>214|206=>246|n=>n,λ |9=>9|4=>4|3=>3|n=>n,λ |n=>n⟩
theorem Tryz.lays99:Go.Proofs.Lays.n99 Tryz.prog Tryz.lays99_ren:={
  mixed:=by kernel_rfl
  f99:=Tryz.func214.trans zcg
  f206:=Tryz.func246.trans zcg
  t3:=Tryz.underlying3
  a3:=Tryz.isAgg3
  z3:=Tryz.sizeOf3
  v3:=Tryz.zeroValue3
  t4:=Tryz.underlying4
  a4:=Tryz.isAgg4
  z4:=Tryz.sizeOf4
  v4:=Tryz.zeroValue4
  t9:=Tryz.underlying9
  a9:=Tryz.isAgg9
  z9:=Tryz.sizeOf9
  v9:=Tryz.zeroValue9}
open Go.RowKit Go.Lib in
theorem Tryz.strings_HasPrefix(s p:ByteArray)(w:World):
    Calls Tryz.prog 214 #[.string s,.string p] w λe w'=>e= .returned (.bool (Lib.hasPrefix s.data.toList p.data.toList))/\w'=w:=Any.strings_HasPrefix Tryz.lays99 s p w
def Tryz.lays152_ren:Go.Shelf.Ren:=⟨λ |152=>242|137=>211|119=>262|224=>263|225=>264|217=>239|266=>256|n=>n,λ |9=>9|21=>21|3=>3|4=>4|5=>5|0=>0|46=>118|n=>n,λ |n=>n⟩
theorem Tryz.lays152:Go.Proofs.Lays.n152 Tryz.prog Tryz.lays152_ren:={
  mixed:=by kernel_rfl
  f119:=Tryz.func262.trans zcg
  f137:=Tryz.func211.trans zcg
  f152:=Tryz.func242.trans zcg
  f217:=Tryz.func239.trans zcg
  f224:=Tryz.func263.trans zcg
  f225:=Tryz.func264.trans zcg
  f266:=Tryz.func256.trans zcg
  t0:=Tryz.underlying0
  a0:=Tryz.isAgg0
  z0:=Tryz.sizeOf0
  v0:=Tryz.zeroValue0
  t3:=Tryz.underlying3
  a3:=Tryz.isAgg3
  z3:=Tryz.sizeOf3
  v3:=Tryz.zeroValue3
  t4:=Tryz.underlying4
  a4:=Tryz.isAgg4
  z4:=Tryz.sizeOf4
  v4:=Tryz.zeroValue4
  t5:=Tryz.underlying5
  a5:=Tryz.isAgg5
  z5:=Tryz.sizeOf5
  v5:=Tryz.zeroValue5
  t9:=Tryz.underlying9
  a9:=Tryz.isAgg9
  z9:=Tryz.sizeOf9
  v9:=Tryz.zeroValue9
  t21:=Tryz.underlying21
  a21:=Tryz.isAgg21
  z21:=Tryz.sizeOf21
  v21:=Tryz.zeroValue21
  t46:=Tryz.underlying118
  a46:=Tryz.isAgg118
  z46:=Tryz.sizeOf118
  v46:=Tryz.zeroValue118}
open Go.RowKit Go.Lib in
theorem Tryz.strings_IndexRune_ascii(s:ByteArray)(r:Int)(w:World)(h0:0<=r)(h1:r<128):
    Calls Tryz.prog 242 #[.string s,.int .i32 r] w λe w'=>e= .returned (.int .i64 (Lib.indexByte s.data.toList r.toNat.toUInt8))/\w'=w:=Any.strings_IndexRune_ascii Tryz.lays152 s r w h0 h1
def Tryz.lays226_ren:Go.Shelf.Ren:=⟨λ |226=>243|n=>n,λ |3=>3|4=>4|n=>n,λ |n=>n⟩
theorem Tryz.lays226:Go.Proofs.Lays.n226 Tryz.prog Tryz.lays226_ren:={
  mixed:=by kernel_rfl
  f226:=Tryz.func243.trans zcg
  t3:=Tryz.underlying3
  a3:=Tryz.isAgg3
  z3:=Tryz.sizeOf3
  v3:=Tryz.zeroValue3
  t4:=Tryz.underlying4
  a4:=Tryz.isAgg4
  z4:=Tryz.sizeOf4
  v4:=Tryz.zeroValue4}
open Go.RowKit Go.Lib in
theorem Tryz.strings_shouldUseASCIISet(n:Int)(w:World):
    Calls Tryz.prog 243 #[.int .i64 n] w λe w'=>e= .returned (.bool (decide (8<n)))/\w'=w:=Any.strings_shouldUseASCIISet Tryz.lays226 n w
def Tryz.lays153_ren:Go.Shelf.Ren:=⟨λ |153=>213|152=>242|226=>243|227=>244|228=>245|137=>211|119=>262|224=>263|225=>264|217=>239|266=>256|n=>n,λ |9=>9|3=>3|4=>4|5=>5|21=>21|117=>288|116=>287|0=>0|46=>118|124=>301|n=>n,λ |n=>n⟩
theorem Tryz.lays153:Go.Proofs.Lays.n153 Tryz.prog Tryz.lays153_ren:={
  mixed:=by kernel_rfl
  f119:=Tryz.func262.trans zcg
  f137:=Tryz.func211.trans zcg
  f152:=Tryz.func242.trans zcg
  f153:=Tryz.func213.trans zcg
  f217:=Tryz.func239.trans zcg
  f224:=Tryz.func263.trans zcg
  f225:=Tryz.func264.trans zcg
  f226:=Tryz.func243.trans zcg
  f227:=Tryz.func244.trans zcg
  f228:=Tryz.func245.trans zcg
  f266:=Tryz.func256.trans zcg
  t0:=Tryz.underlying0
  a0:=Tryz.isAgg0
  z0:=Tryz.sizeOf0
  v0:=Tryz.zeroValue0
  t3:=Tryz.underlying3
  a3:=Tryz.isAgg3
  z3:=Tryz.sizeOf3
  v3:=Tryz.zeroValue3
  t4:=Tryz.underlying4
  a4:=Tryz.isAgg4
  z4:=Tryz.sizeOf4
  v4:=Tryz.zeroValue4
  t5:=Tryz.underlying5
  a5:=Tryz.isAgg5
  z5:=Tryz.sizeOf5
  v5:=Tryz.zeroValue5
  t9:=Tryz.underlying9
  a9:=Tryz.isAgg9
  z9:=Tryz.sizeOf9
  v9:=Tryz.zeroValue9
  t21:=Tryz.underlying21
  a21:=Tryz.isAgg21
  z21:=Tryz.sizeOf21
  v21:=Tryz.zeroValue21
  t46:=Tryz.underlying118
  a46:=Tryz.isAgg118
  z46:=Tryz.sizeOf118
  v46:=Tryz.zeroValue118
  t116:=Tryz.underlying287
  a116:=Tryz.isAgg287
  z116:=Tryz.sizeOf287
  t117:=Tryz.underlying288
  a117:=Tryz.isAgg288
  z117:=Tryz.sizeOf288
  v117:=Tryz.zeroValue288
  t124:=Tryz.underlying301
  a124:=Tryz.isAgg301
  z124:=Tryz.sizeOf301
  v124:=Tryz.zeroValue301}
open Go.RowKit Go.Lib in
theorem Tryz.strings_IndexAny_long(hv116:∀w,(zeroValue 287).run Tryz.prog w= .ok (.agg (Array.replicate 256 (.bool false))) w)(s chars:ByteArray)(w:World)(h2:2<=chars.size)(h8:8<s.size)(hs:s.size<4294967281)(hcs:chars.size<4294967281)(hascii:∀(j:Nat) b,chars.data.toList[j]? =some b->b.toNat<128):
    Calls Tryz.prog 213 #[.string s,.string chars] w λe w'=>e= .returned (.int .i64 (Lib.indexAny s.data.toList chars.data.toList))/\w'=((w.alloc (.cells (Lib.setCells chars.data.toList) 287)).alloc (.cells (Lib.setCells chars.data.toList) 287)):=Any.strings_IndexAny_long Tryz.lays153 hv116 (by kernel_rfl) s chars w h2 h8 hs hcs hascii
def Tryz.lays107_ren:Go.Shelf.Ren:=⟨λ |107=>238|108=>255|n=>n,λ |28=>33|3=>3|4=>4|0=>0|n=>n,λ |n=>n⟩
theorem Tryz.lays107:Go.Proofs.Lays.n107 Tryz.prog Tryz.lays107_ren:={
  mixed:=by kernel_rfl
  f107:=Tryz.func238.trans zcg
  f108:=Tryz.func255.trans zcg
  t0:=Tryz.underlying0
  a0:=Tryz.isAgg0
  z0:=Tryz.sizeOf0
  v0:=Tryz.zeroValue0
  t3:=Tryz.underlying3
  a3:=Tryz.isAgg3
  z3:=Tryz.sizeOf3
  v3:=Tryz.zeroValue3
  t4:=Tryz.underlying4
  a4:=Tryz.isAgg4
  z4:=Tryz.sizeOf4
  v4:=Tryz.zeroValue4
  t28:=Tryz.underlying33
  a28:=Tryz.isAgg33
  z28:=Tryz.sizeOf33
  v28:=Tryz.zeroValue33}
open Go.Lib in
theorem Tryz.slices_Contains_int(b off n c:Nat)(zs:List Int)(x:Int)(w:World)(hz:n<=zs.length)(hbig:n<=9223372036854775807)(hc:∀j,j<zs.length->w.cell? ⟨b,off+j,none⟩=some (.int .i64 (zs.getD j 0))):
    Calls Tryz.prog 238 #[.slice (some ⟨b,off,none⟩) n c,.int .i64 x] w λe w'=>e= .returned (.bool ((zs.take n).contains x))/\w'=w:=Any.slices_Contains_int Tryz.lays107 b off n c zs x w hz hbig hc
open Go.Lib in
theorem Tryz.slices_Contains_int_empty(a:Option Addr)(c:Nat)(x:Int)(w:World):
    Calls Tryz.prog 238 #[.slice a 0 c,.int .i64 x] w λe w'=>e= .returned (.bool false)/\w'=w:=Any.slices_Contains_int_empty Tryz.lays107 a c x w
def Tryz.lays109_ren:Go.Shelf.Ren:=⟨λ |109=>60|n=>n,λ |31=>26|9=>9|3=>3|0=>0|4=>4|n=>n,λ |n=>n⟩
theorem Tryz.lays109:Go.Proofs.Lays.n109 Tryz.prog Tryz.lays109_ren:={
  mixed:=by kernel_rfl
  f109:=Tryz.func60.trans zcg
  t0:=Tryz.underlying0
  a0:=Tryz.isAgg0
  z0:=Tryz.sizeOf0
  v0:=Tryz.zeroValue0
  t3:=Tryz.underlying3
  a3:=Tryz.isAgg3
  z3:=Tryz.sizeOf3
  v3:=Tryz.zeroValue3
  t4:=Tryz.underlying4
  a4:=Tryz.isAgg4
  z4:=Tryz.sizeOf4
  v4:=Tryz.zeroValue4
  t9:=Tryz.underlying9
  a9:=Tryz.isAgg9
  z9:=Tryz.sizeOf9
  v9:=Tryz.zeroValue9
  t31:=Tryz.underlying26
  a31:=Tryz.isAgg26
  z31:=Tryz.sizeOf26
  v31:=Tryz.zeroValue26}
open Go.Lib in
theorem Tryz.slices_Index_string(b off n c:Nat)(zs:List ByteArray)(x:ByteArray)(w:World)(hz:n<=zs.length)(hbig:n<=9223372036854775807)(hc:∀j,j<zs.length->w.cell? ⟨b,off+j,none⟩=some (.string (zs.getD j ByteArray.empty))):
    Calls Tryz.prog 60 #[.slice (some ⟨b,off,none⟩) n c,.string x] w λe w'=>e= .returned (.int .i64 (Lib.idxOfS (zs.take n) x))/\w'=w:=Any.slices_Index_string Tryz.lays109 b off n c zs x w hz hbig hc
open Go.Lib in
theorem Tryz.slices_Index_string_empty(a:Option Addr)(c:Nat)(x:ByteArray)(w:World):
    Calls Tryz.prog 60 #[.slice a 0 c,.string x] w λe w'=>e= .returned (.int .i64 (Lib.idxOfS [] x))/\w'=w:=Any.slices_Index_string_empty Tryz.lays109 a c x w
def Tryz.lays110_ren:Go.Shelf.Ren:=⟨λ |110=>58|109=>60|n=>n,λ |31=>26|9=>9|4=>4|3=>3|0=>0|n=>n,λ |n=>n⟩
theorem Tryz.lays110:Go.Proofs.Lays.n110 Tryz.prog Tryz.lays110_ren:={
  mixed:=by kernel_rfl
  f109:=Tryz.func60.trans zcg
  f110:=Tryz.func58.trans zcg
  t0:=Tryz.underlying0
  a0:=Tryz.isAgg0
  z0:=Tryz.sizeOf0
  v0:=Tryz.zeroValue0
  t3:=Tryz.underlying3
  a3:=Tryz.isAgg3
  z3:=Tryz.sizeOf3
  v3:=Tryz.zeroValue3
  t4:=Tryz.underlying4
  a4:=Tryz.isAgg4
  z4:=Tryz.sizeOf4
  v4:=Tryz.zeroValue4
  t9:=Tryz.underlying9
  a9:=Tryz.isAgg9
  z9:=Tryz.sizeOf9
  v9:=Tryz.zeroValue9
  t31:=Tryz.underlying26
  a31:=Tryz.isAgg26
  z31:=Tryz.sizeOf26
  v31:=Tryz.zeroValue26}
open Go.Lib in
theorem Tryz.slices_Contains_string(b off n c:Nat)(zs:List ByteArray)(x:ByteArray)(w:World)(hz:n<=zs.length)(hbig:n<=9223372036854775807)(hc:∀j,j<zs.length->w.cell? ⟨b,off+j,none⟩=some (.string (zs.getD j ByteArray.empty))):
    Calls Tryz.prog 58 #[.slice (some ⟨b,off,none⟩) n c,.string x] w λe w'=>e= .returned (.bool (Lib.containsS (zs.take n) x))/\w'=w:=Any.slices_Contains_string Tryz.lays110 b off n c zs x w hz hbig hc
open Go.Lib in
theorem Tryz.slices_Contains_string_empty(a:Option Addr)(c:Nat)(x:ByteArray)(w:World):
    Calls Tryz.prog 58 #[.slice a 0 c,.string x] w λe w'=>e= .returned (.bool false)/\w'=w:=Any.slices_Contains_string_empty Tryz.lays110 a c x w
def Tryz.lays111_ren:Go.Shelf.Ren:=⟨λ |111=>182|n=>n,λ |28=>33|3=>3|4=>4|0=>0|n=>n,λ |n=>n⟩
theorem Tryz.lays111:Go.Proofs.Lays.n111 Tryz.prog Tryz.lays111_ren:={
  mixed:=by kernel_rfl
  f111:=Tryz.func182.trans zcg
  t0:=Tryz.underlying0
  a0:=Tryz.isAgg0
  z0:=Tryz.sizeOf0
  v0:=Tryz.zeroValue0
  t3:=Tryz.underlying3
  a3:=Tryz.isAgg3
  z3:=Tryz.sizeOf3
  v3:=Tryz.zeroValue3
  t4:=Tryz.underlying4
  a4:=Tryz.isAgg4
  z4:=Tryz.sizeOf4
  v4:=Tryz.zeroValue4
  t28:=Tryz.underlying33
  a28:=Tryz.isAgg33
  z28:=Tryz.sizeOf33
  v28:=Tryz.zeroValue33}
open Go.RowKit Go.Lib in
theorem Tryz.slices_Equal_int(b1 o1 n c b2 o2 m d:Nat)(xs ys:List Int)(w:World)(hx:n<=xs.length)(hy:m<=ys.length)(hbig:n<=9223372036854775807)(hbig2:m<=9223372036854775807)(hc1:∀j,j<xs.length->w.cell? ⟨b1,o1+j,none⟩=some (.int .i64 (xs.getD j 0)))(hc2:∀j,j<ys.length->w.cell? ⟨b2,o2+j,none⟩=some (.int .i64 (ys.getD j 0))):
    Calls Tryz.prog 182 #[.slice (some ⟨b1,o1,none⟩) n c,.slice (some ⟨b2,o2,none⟩) m d] w λe w'=>e= .returned (.bool (xs.take n==ys.take m))/\∃q,w'=w.drewN q:=Any.slices_Equal_int Tryz.lays111 b1 o1 n c b2 o2 m d xs ys w hx hy hbig hbig2 hc1 hc2
open Go.RowKit Go.Lib in
theorem Tryz.slices_Equal_int_empty(a1 a2:Option Addr)(c m d:Nat)(w:World)(hbig2:m<=9223372036854775807):
    Calls Tryz.prog 182 #[.slice a1 0 c,.slice a2 m d] w λe w'=>e= .returned (.bool (decide (m=0)))/\w'=w:=Any.slices_Equal_int_empty Tryz.lays111 a1 a2 c m d w hbig2
def Tryz.laysNm215_ren:Go.Shelf.Ren:=⟨λ |15=>171|n=>n,λ |22=>33|3=>3|4=>4|n=>n,λ |n=>n⟩
theorem Tryz.laysNm215:Go.Proofs.Lays2.n15 Tryz.prog Tryz.laysNm215_ren:={
  mixed:=by kernel_rfl
  f15:=Tryz.func171.trans zcg
  t3:=Tryz.underlying3
  a3:=Tryz.isAgg3
  z3:=Tryz.sizeOf3
  v3:=Tryz.zeroValue3
  t4:=Tryz.underlying4
  a4:=Tryz.isAgg4
  z4:=Tryz.sizeOf4
  v4:=Tryz.zeroValue4
  t22:=Tryz.underlying33
  a22:=Tryz.isAgg33
  z22:=Tryz.sizeOf33
  v22:=Tryz.zeroValue33
  i3:=by kernel_rfl}
open Go.RowKit Go.Lib in
theorem Tryz.slices_Clone_int(b off n c:Nat)(zs:List Int)(w:World)(hz:n<=zs.length)(hbig:n*8<=140737488355328)(hc:∀j,j<zs.length->w.cell? ⟨b,off+j,none⟩=some (.int .i64 (zs.getD j 0))):
    Calls Tryz.prog 171 #[.slice (some ⟨b,off,none⟩) n c] w λe w'=>∃v',e= .returned v'/\w'.ownsRow w.heap.size 3 1 v' n ((zs.take n).map (Value.int .i64))/\v'≠ .slice none 0 0/\Below w.heap.size w w':=Any.slices_Clone_int Tryz.laysNm215 b off n c zs w hz hbig hc
open Go.RowKit Go.Lib in
theorem Tryz.slices_Clone_int_nil(n c:Nat)(w:World):
    Calls Tryz.prog 171 #[.slice none n c] w λe w'=>e= .returned (.slice none 0 0)/\w'=w:=Any.slices_Clone_int_nil Tryz.laysNm215 n c w
open Go.RowKit Go.Lib in
theorem Tryz.slices_Clone_int_zero(a:Addr)(c:Nat)(w:World):
    Calls Tryz.prog 171 #[.slice (some a) 0 c] w λe w'=>∃v',e= .returned v'/\w'.ownsRow w.heap.size 3 1 v' 0 []/\v'≠ .slice none 0 0/\Below w.heap.size w w':=Any.slices_Clone_int_zero Tryz.laysNm215 a c w
def Tryz.laysNm220_ren:Go.Shelf.Ren:=⟨λ |20=>30|n=>n,λ |22=>33|3=>3|4=>4|0=>0|n=>n,λ |n=>n⟩
theorem Tryz.laysNm220:Go.Proofs.Lays2.n20 Tryz.prog Tryz.laysNm220_ren:={
  mixed:=by kernel_rfl
  f20:=Tryz.func30.trans zcg
  t0:=Tryz.underlying0
  a0:=Tryz.isAgg0
  z0:=Tryz.sizeOf0
  v0:=Tryz.zeroValue0
  t3:=Tryz.underlying3
  a3:=Tryz.isAgg3
  z3:=Tryz.sizeOf3
  v3:=Tryz.zeroValue3
  t4:=Tryz.underlying4
  a4:=Tryz.isAgg4
  z4:=Tryz.sizeOf4
  v4:=Tryz.zeroValue4
  t22:=Tryz.underlying33
  a22:=Tryz.isAgg33
  z22:=Tryz.sizeOf33
  v22:=Tryz.zeroValue33
  i3:=by kernel_rfl}
open Go.RowKit Go.Lib Go.Sort in
theorem Tryz.slices_Compact_int(blk off cap:Nat)(zs:List Int)(w:World)(hH:Holds (Value.int .i64) w blk off zs.toArray)(hsz:zs.length<=9223372036854775807)(hcap:zs.length<=cap):
    Calls Tryz.prog 30 #[.slice (some ⟨blk,off,none⟩) zs.length cap] w λe w'=>e= .returned (.slice (some ⟨blk,off,none⟩) (Lib.compact zs).length cap)/\∃q,w'=putRow (Value.int .i64) (Sort.ahead w q) blk off (Lib.compact zs++List.replicate (zs.length-(Lib.compact zs).length) 0).toArray :=Any.slices_Compact_int Tryz.laysNm220 blk off cap zs w hH hsz hcap
def Tryz.laysNm225_ren:Go.Shelf.Ren:=⟨λ |25=>102|31=>112|32=>157|37=>166|n=>n,λ |22=>33|3=>3|4=>4|40=>118|0=>0|n=>n,λ |n=>n⟩
theorem Tryz.laysNm225:Go.Proofs.Lays2.n25 Tryz.prog Tryz.laysNm225_ren:={
  mixed:=by kernel_rfl
  f25:=Tryz.func102.trans zcg
  f31:=Tryz.func112.trans zcg
  f32:=Tryz.func157.trans zcg
  f37:=Tryz.func166.trans zcg
  t0:=Tryz.underlying0
  a0:=Tryz.isAgg0
  z0:=Tryz.sizeOf0
  v0:=Tryz.zeroValue0
  t3:=Tryz.underlying3
  a3:=Tryz.isAgg3
  z3:=Tryz.sizeOf3
  v3:=Tryz.zeroValue3
  t4:=Tryz.underlying4
  a4:=Tryz.isAgg4
  z4:=Tryz.sizeOf4
  v4:=Tryz.zeroValue4
  t22:=Tryz.underlying33
  a22:=Tryz.isAgg33
  z22:=Tryz.sizeOf33
  v22:=Tryz.zeroValue33
  t40:=Tryz.underlying118
  a40:=Tryz.isAgg118
  z40:=Tryz.sizeOf118
  v40:=Tryz.zeroValue118}
open Go.RowKit Go.Lib in
theorem Tryz.slices_BinarySearch_int(b off n c:Nat)(zs:List Int)(x:Int)(w:World)(hz:n<=zs.length)(hbig:n<4611686018427387904)(hc:∀j,j<zs.length->w.cell? ⟨b,off+j,none⟩=some (.int .i64 (zs.getD j 0)))(hs:(zs.take n).Pairwise (· <= ·)):
    Calls Tryz.prog 102 #[.slice (some ⟨b,off,none⟩) n c,.int .i64 x] w λe w'=>e= .returned (.tuple #[.int .i64 ((zs.take n).countP (· <x):Nat),.bool ((zs.take n).contains x)])/\∃q,w'=w.drewN q:=Any.slices_BinarySearch_int Tryz.laysNm225 b off n c zs x w hz hbig hc hs
open Go.RowKit Go.Lib in
theorem Tryz.slices_BinarySearch_int_empty(a:Option Addr)(c:Nat)(x:Int)(w:World):
    Calls Tryz.prog 102 #[.slice a 0 c,.int .i64 x] w λe w'=>e= .returned (.tuple #[.int .i64 0,.bool false])/\w'=w:=Any.slices_BinarySearch_int_empty Tryz.laysNm225 a c x w
open Go.RowKit Go.Lib in
theorem Tryz.slices_Equal_int_lens(a1 a2:Option Addr)(n c m d:Nat)(w:World)(hnm:n≠m):
    Calls Tryz.prog 182 #[.slice a1 n c,.slice a2 m d] w λe w'=>e= .returned (.bool false)/\w'=w:=Any.slices_Equal_int_lens Tryz.lays111 a1 a2 n c m d w hnm
def Tryz.laysSlH8_f95_ren:Go.Shelf.Ren:=⟨λ |8=>95|6=>74|n=>n,λ |22=>33|23=>3|25=>134|4=>4|3=>3|0=>0|n=>n,λ |n=>n⟩
theorem Tryz.laysSlH8_f95:Go.Proofs.SlLaysH.n8 Tryz.prog Tryz.laysSlH8_f95_ren:={
  mixed:=by kernel_rfl
  f6:=⟨Tryz.f74.name,by decide,Tryz.func74.trans zcg⟩
  f8:=⟨Tryz.f95.name,by decide,Tryz.func95.trans zcg⟩
  t0:=Tryz.underlying0
  a0:=Tryz.isAgg0
  z0:=Tryz.sizeOf0
  v0:=Tryz.zeroValue0
  t3:=Tryz.underlying3
  a3:=Tryz.isAgg3
  z3:=Tryz.sizeOf3
  v3:=Tryz.zeroValue3
  t4:=Tryz.underlying4
  a4:=Tryz.isAgg4
  z4:=Tryz.sizeOf4
  v4:=Tryz.zeroValue4
  t22:=Tryz.underlying33
  a22:=Tryz.isAgg33
  z22:=Tryz.sizeOf33
  v22:=Tryz.zeroValue33
  a23:=Tryz.isAgg3
  z23:=Tryz.sizeOf3
  t25:=Tryz.underlying134
  a25:=Tryz.isAgg134
  z25:=Tryz.sizeOf134
  v25:=Tryz.zeroValue134}
open Go.RowKit Go.Lib in
theorem Tryz.slices_ContainsFunc{α:Type}[Inhabited α](enc:α->Value)(p:α->Bool)(g:Nat)(lb:Array Value)(eg:∀args w,(callFunc g args).run Tryz.prog w= .ok (.enter g args) w)(b off n c:Nat)(zs:List α)(w:World)(hp:PredAt Tryz.prog g lb enc p w)(hz:n<=zs.length)(hbig:n<=9223372036854775807)(hc:∀j,j<zs.length->w.cell? ⟨b,off+j,none⟩=some (enc zs[j]!)):
    Calls Tryz.prog 95 #[.slice (some ⟨b,off,none⟩) n c,.func (.func g) #[] lb] w λe w'=>e= .returned (.bool ((zs.take n).any p))/\∃q,w'=w.drewN q:=AnyE.slices_ContainsFunc Tryz.laysSlH8_f95 enc p g lb eg b off n c zs w hp hz hbig hc
def Tryz.laysSlH10_f224_ren:Go.Shelf.Ren:=⟨λ |10=>224|6=>74|n=>n,λ |22=>33|23=>3|25=>134|3=>3|4=>4|0=>0|n=>n,λ |n=>n⟩
theorem Tryz.laysSlH10_f224:Go.Proofs.SlLaysH.n10 Tryz.prog Tryz.laysSlH10_f224_ren:={
  mixed:=by kernel_rfl
  f6:=⟨Tryz.f74.name,by decide,Tryz.func74.trans zcg⟩
  f10:=⟨Tryz.f224.name,by decide,Tryz.func224.trans zcg⟩
  t0:=Tryz.underlying0
  a0:=Tryz.isAgg0
  z0:=Tryz.sizeOf0
  v0:=Tryz.zeroValue0
  t3:=Tryz.underlying3
  a3:=Tryz.isAgg3
  z3:=Tryz.sizeOf3
  v3:=Tryz.zeroValue3
  t4:=Tryz.underlying4
  a4:=Tryz.isAgg4
  z4:=Tryz.sizeOf4
  v4:=Tryz.zeroValue4
  t22:=Tryz.underlying33
  a22:=Tryz.isAgg33
  z22:=Tryz.sizeOf33
  v22:=Tryz.zeroValue33
  a23:=Tryz.isAgg3
  z23:=Tryz.sizeOf3
  t25:=Tryz.underlying134
  a25:=Tryz.isAgg134
  z25:=Tryz.sizeOf134
  v25:=Tryz.zeroValue134}
open Go.RowKit Go.Lib Go.Sort in
theorem Tryz.slices_DeleteFunc{α:Type}[Inhabited α](enc:α->Value)(hO:OneCell enc)(p:α->Bool)(g:Nat)(lb:Array Value)(eg:∀args w,(callFunc g args).run Tryz.prog w= .ok (.enter g args) w)(zr:α)(v23:∀w,(zeroValue 3).run Tryz.prog w= .ok (enc zr) w)(blk off cap:Nat)(d:Array α)(w:World)(hp:PredAt Tryz.prog g lb enc p w)(hpo:PredOver Tryz.prog g lb enc p blk off d.size w)(hH:Holds enc w blk off d)(hsz:d.size<=9223372036854775807)(hcap:d.size<=cap):
    Calls Tryz.prog 224 #[.slice (some ⟨blk,off,none⟩) d.size cap,.func (.func g) #[] lb] w λe w'=>e= .returned (.slice (some ⟨blk,off,none⟩) (d.toList.filter λx=> !p x).length cap)/\∃q,w'=putRow enc (Sort.ahead w q) blk off ((d.toList.filter λx=> !p x)++List.replicate (d.size-(d.toList.filter λx=> !p x).length) zr).toArray :=AnyE.slices_DeleteFunc Tryz.laysSlH10_f224 enc hO p g lb eg zr v23 blk off cap d w hp hpo hH hsz hcap
def Tryz.laysNm221_ren:Go.Shelf.Ren:=⟨λ |21=>103|27=>158|28=>159|35=>215|39=>247|n=>n,λ |22=>33|3=>3|4=>4|0=>0|n=>n,λ |n=>n⟩
theorem Tryz.laysNm221:Go.Proofs.Lays2.n21 Tryz.prog Tryz.laysNm221_ren:={
  mixed:=by kernel_rfl
  f21:=Tryz.func103.trans zcg
  f27:=Tryz.func158.trans zcg
  f28:=Tryz.func159.trans zcg
  f35:=Tryz.func215.trans zcg
  f39:=Tryz.func247.trans zcg
  t0:=Tryz.underlying0
  a0:=Tryz.isAgg0
  z0:=Tryz.sizeOf0
  v0:=Tryz.zeroValue0
  t3:=Tryz.underlying3
  a3:=Tryz.isAgg3
  z3:=Tryz.sizeOf3
  v3:=Tryz.zeroValue3
  t4:=Tryz.underlying4
  a4:=Tryz.isAgg4
  z4:=Tryz.sizeOf4
  v4:=Tryz.zeroValue4
  t22:=Tryz.underlying33
  a22:=Tryz.isAgg33
  z22:=Tryz.sizeOf33
  v22:=Tryz.zeroValue33
  i3:=by kernel_rfl}
open Go.RowKit Go.Lib Go.Sort in
theorem Tryz.slices_Insert_int_shift(b off n c i vb voff m vc:Nat)(cs vs:List Value)(w:World)(hi:i<n)(hm:0<m)(hroom:n+m<=c)(hc63:c<=9223372036854775807)(hvb:vb≠b)
    (hcl:cs.length=n)(hvl:vs.length=m)
    (hcs:∀j v,cs[j]? =some v->w.cell? ⟨b,off+j,none⟩=some v)(hsp:∀j,j<n+m->(w.cell? ⟨b,off+j,none⟩).isSome =true)(hfz:∀j,j<n+m->w.frozen? ⟨b,off+j,none⟩=false)
    (hvs:∀j v,vs[j]? =some v->w.cell? ⟨vb,voff+j,none⟩=some v)(h1c:∀v∈cs,v.oneCell'=true)(h1v:∀v∈vs,v.oneCell'=true)
    (tA tB:TypeId)(kA kB:Nat)(hsa:w.shape? vb=some (tA,kA))(hsb:w.shape? b=some (tB,kB))(hkB:kB≠0)(hfa:w.frozen? ⟨vb,voff,none⟩=false)(hfe:w.frozen? ⟨vb,kA,none⟩=false):
    Calls Tryz.prog 103 #[.slice (some ⟨b,off,none⟩) n c,.int .i64 i,.slice (some ⟨vb,voff,none⟩) m vc] w λe w'=>
      e= .returned (.slice (some ⟨b,off,none⟩) (n+m) c)/\w'=(w.drew.setCells b (off+(i+m)) (cs.drop i)).setCells b (off+i) vs:=Any2.slices_Insert_int_shift Tryz.laysNm221 b off n c i vb voff m vc cs vs w hi hm hroom hc63 hvb hcl hvl hcs hsp hfz hvs h1c h1v tA tB kA kB hsa hsb hkB hfa hfe
open Go.RowKit Go.Lib Go.Sort in
theorem Tryz.slices_Insert_int_end_room(b off n c vb voff m vc:Nat)(vs:List Value)(w:World)(hm:0<m)(hroom:n+m<=c)(hc63:c<=9223372036854775807)
    (hvl:vs.length=m)(hsp:∀j,j<m->(w.cell? ⟨b,off+n+j,none⟩).isSome =true)(hfz:∀j,j<m->w.frozen? ⟨b,off+n+j,none⟩=false)
    (hvs:∀j v,vs[j]? =some v->w.cell? ⟨vb,voff+j,none⟩=some v)(h1v:∀v∈vs,v.oneCell'=true):
    Calls Tryz.prog 103 #[.slice (some ⟨b,off,none⟩) n c,.int .i64 n,.slice (some ⟨vb,voff,none⟩) m vc] w λe w'=>
      e= .returned (.slice (some ⟨b,off,none⟩) (n+m) c)/\w'=w.setCells b (off+n) vs:=Any2.slices_Insert_int_end_room Tryz.laysNm221 b off n c vb voff m vc vs w hm hroom hc63 hvl hsp hfz hvs h1v
open Go.RowKit Go.Lib Go.Sort in
theorem Tryz.slices_Insert_int_end_grow(base:Option Addr)(n c vb voff m vc:Nat)(cs vs:List Value)(w:World)(hm:0<m)(hnc:n<=c)(hroom:c<n+m)(hbig:(n+m)*8<=140737488355328)
    (hcl:cs.length=n)(hvl:vs.length=m)(hnil:base=none->n=0)
    (hcs:∀a,base=some a->∀j v,cs[j]? =some v->w.cell? (a.add j)=some v)
    (hvs:∀j v,vs[j]? =some v->w.cell? ⟨vb,voff+j,none⟩=some v)(h1v:∀v∈vs,v.oneCell'=true):
    Calls Tryz.prog 103 #[.slice base n c,.int .i64 n,.slice (some ⟨vb,voff,none⟩) m vc] w λe w'=>
      e= .returned (.slice (some ⟨w.heap.size,0,none⟩) (n+m) (grownCap w (n+m) c 3))/\
      w'=w.drew.alloc (.cells ((cs++vs).toArray ++Builtin.zeroCells (Value.int .i64 0).cells (grownCap w (n+m) c 3-(n+m))) 3):=Any2.slices_Insert_int_end_grow Tryz.laysNm221 base n c vb voff m vc cs vs w hm hnc hroom hbig hcl hvl hnil hcs hvs h1v
open Go.RowKit Go.Lib Go.Sort in
theorem Tryz.slices_Insert_int_grow(b off n c i vb voff m vc:Nat)(cs vs:List Value)(w:World)(hi:i<n)(hm:0<m)(hnc:n<=c)(hroom:c<n+m)(hbig:(n+m)*8<=140737488355328)
    (hcl:cs.length=n)(hvl:vs.length=m)
    (hcs:∀j v,cs[j]? =some v->w.cell? ⟨b,off+j,none⟩=some v)
    (hvs:∀j v,vs[j]? =some v->w.cell? ⟨vb,voff+j,none⟩=some v)(h1c:∀v∈cs,v.oneCell'=true)(h1v:∀v∈vs,v.oneCell'=true):
    Calls Tryz.prog 103 #[.slice (some ⟨b,off,none⟩) n c,.int .i64 i,.slice (some ⟨vb,voff,none⟩) m vc] w λe w'=>
      e= .returned (.slice (some ⟨w.heap.size,0,none⟩) (n+m) (grownCap w (n+m) c 3))/\
      w'=(((w.alloc (.cells ((cs.take i).toArray ++Builtin.zeroCells (Value.int .i64 0).cells (n+m-i)++Builtin.zeroCells (Value.int .i64 0).cells (grownCap w (n+m) c 3-(n+m))) 3)).drew.setCells w.heap.size i vs).drew).setCells w.heap.size (i+m) (cs.drop i):=Any2.slices_Insert_int_grow Tryz.laysNm221 b off n c i vb voff m vc cs vs w hi hm hnc hroom hbig hcl hvl hcs hvs h1c h1v
end Go.Proofs
