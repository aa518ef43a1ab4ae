/- The contracts of Go's library that the walks use, laid at this program by the kit's tool; those that nothing here uses are left out. -/
import Derived.Shelf.Strings.Builder1
import Derived.Shelf.Strings.Builder2
import Derived.Shelf.Strings.Trim
import Derived.Shelf.Small.Utf8
import Derived.Shelf.Small.Strs
import Derived.Shelf.Small.Wraps
import Derived.Shelf.Strings.BuilderF
import Derived.Shelf.Strings.BuilderK
import Derived.Shelf.Strings.Builder2Cap
import Derived.Shelf.Strconv.Atoi
import Derived.Shelf.Strconv.Itoa0
import Derived.Shelf.Strconv.Itoa1
import Derived.Shelf.LaysM
import Derived.Shelf.Strconv.Itoa2
import Derived.Shelf.Strconv.Itoa3
import Derived.Shelf.Strconv.AtoiErrFast
import Derived.Shelf.Strconv.ParseIntEmpty
import Derived.Shelf.Strconv.AtoiFail
import Derived.Shelf.Strconv.Clone
import Derived.Shelf.Strconv.SyntaxError
import Derived.Shelf.LaysC
import Derived.Shelf.Strconv.ToError
import Derived.Shelf.Strconv.Lower
import Derived.Shelf.Strconv.ParseUint10
import Derived.Shelf.Strconv.ParseUint10Empty
import Derived.Shelf.Strconv.ParseUint10Any
import Derived.Shelf.Strconv.ParseInt10
import Derived.Shelf.Strconv.AtoiLong
import Derived.Shelf.Strconv.AtoiInnerAll
import Derived.Shelf.Strconv.RangeError
import Derived.Shelf.Strconv.ToErrorRange
import Derived.Shelf.Strconv.AtoiAll
import Derived.Shelf.Strconv.ParseUintEmpty
import Derived.Shelf.Strconv.ParseUint10b64
import Derived.Shelf.Strconv.ParseUint10b32
import Derived.Shelf.Strconv.ParseUint10b16
import Derived.Shelf.Strconv.ParseUint10b8
import Derived.Shelf.Strconv.ParseUint10At
import Derived.Shelf.Strings.Search1
import Derived.Shelf.Strings.Prefix
import Derived.Shelf.Unicode.Decode
import Derived.Shelf.Strings.Runes
import Derived.Shelf.Strings.IndexAny
import Derived.Shelf.Strings.AsciiSet
import Derived.Shelf.Strings.IndexAnyAll
import Derived.Shelf.Bits.Mul64
import Derived.Shelf.Strings.Repeat
import Derived.Shelf.Unicode.DecodeSlow
import Derived.Shelf.Unicode.DecodeAny
import Derived.Shelf.Unicode.DecodeLast
import Derived.Shelf.Strings.BuilderCap
import Derived.Shelf.Slices.Turned
import Derived.Ground.Names2Prog
import Derived.Shelf.Slices.SearchI
import Derived.Test.YtimmfbnjndndlaaGreatDoorProg
set_option linter.all false
namespace Go.Proofs
open Go.Shelf
def Tryz.lays170_ren:Go.Shelf.Ren:=⟨λ |170=>135|n=>n,λ |70=>193|3=>3|0=>0|72=>196|37=>194|5=>5|n=>n,λ |n=>n⟩
theorem Tryz.lays170:Go.Proofs.Lays.n170 Tryz.prog Tryz.lays170_ren:={
  mixed:=by kernel_rfl
  f170:=Tryz.func135.trans (congrArg some (by kernel_rfl))
  t0:=Tryz.underlying0
  a0:=Tryz.isAgg0
  z0:=Tryz.sizeOf0
  v0:=Tryz.zeroValue0
  t3:=Tryz.underlying3
  a3:=Tryz.isAgg3
  z3:=Tryz.sizeOf3
  v3:=Tryz.zeroValue3
  t37:=Tryz.underlying194
  a37:=Tryz.isAgg194
  z37:=Tryz.sizeOf194
  v37:=Tryz.zeroValue194
  t70:=Tryz.underlying193
  a70:=Tryz.isAgg193
  z70:=Tryz.sizeOf193
  v70:=Tryz.zeroValue193
  t72:=Tryz.underlying196
  a72:=Tryz.isAgg196
  z72:=Tryz.sizeOf196
  v72:=Tryz.zeroValue196}
def Tryz.lays169_ren:Go.Shelf.Ren:=⟨λ |169=>136|n=>n,λ |70=>193|9=>9|0=>0|72=>196|37=>194|127=>233|3=>3|5=>5|n=>n,λ |n=>n⟩
theorem Tryz.lays169:Go.Proofs.Lays.n169 Tryz.prog Tryz.lays169_ren:={
  mixed:=by kernel_rfl
  f169:=Tryz.func136.trans (congrArg some (by kernel_rfl))
  t0:=Tryz.underlying0
  a0:=Tryz.isAgg0
  z0:=Tryz.sizeOf0
  v0:=Tryz.zeroValue0
  t3:=Tryz.underlying3
  a3:=Tryz.isAgg3
  z3:=Tryz.sizeOf3
  v3:=Tryz.zeroValue3
  t9:=Tryz.underlying9
  a9:=Tryz.isAgg9
  z9:=Tryz.sizeOf9
  v9:=Tryz.zeroValue9
  t37:=Tryz.underlying194
  a37:=Tryz.isAgg194
  z37:=Tryz.sizeOf194
  v37:=Tryz.zeroValue194
  t70:=Tryz.underlying193
  a70:=Tryz.isAgg193
  z70:=Tryz.sizeOf193
  v70:=Tryz.zeroValue193
  t72:=Tryz.underlying196
  a72:=Tryz.isAgg196
  z72:=Tryz.sizeOf196
  v72:=Tryz.zeroValue196
  t127:=Tryz.underlying233
  a127:=Tryz.isAgg233
  z127:=Tryz.sizeOf233
  v127:=Tryz.zeroValue233}
theorem Tryz.Builder_Extra_169:Builder.Extra Tryz.prog Tryz.lays169_ren:={
  sizeBuilder:=by kernel_rfl
  liesBuilder:=by kernel_rfl
  t5:=Tryz.underlying5
  a5:=Tryz.isAgg5
  z5:=Tryz.sizeOf5
  v5:=Tryz.zeroValue5
  infoByte:=by kernel_rfl
  cellsByte:=by kernel_rfl
  sizeByte:=by kernel_rfl
  neB5:=by decide}
def Tryz.lays160_ren:Go.Shelf.Ren:=⟨λ |160=>123|232=>155|231=>154|227=>156|234=>158|233=>157|236=>160|235=>159|228=>176|271=>184|151=>183|197=>182|120=>201|152=>174|260=>200|137=>146|119=>195|224=>196|225=>197|217=>173|266=>194|n=>n,λ |9=>9|4=>4|3=>3|5=>5|117=>222|116=>221|0=>0|124=>225|21=>21|105=>247|46=>229|119=>267|139=>270|138=>269|n=>n,λ |3=>6|4=>7|n=>n⟩
theorem Tryz.lays160:Go.Proofs.Lays.n160 Tryz.prog Tryz.lays160_ren:={
  mixed:=by kernel_rfl
  f119:=Tryz.func195.trans (congrArg some (by kernel_rfl))
  f120:=Tryz.func201.trans (congrArg some (by kernel_rfl))
  f137:=Tryz.func146.trans (congrArg some (by kernel_rfl))
  f151:=Tryz.func183.trans (congrArg some (by kernel_rfl))
  f152:=Tryz.func174.trans (congrArg some (by kernel_rfl))
  f160:=Tryz.func123.trans (congrArg some (by kernel_rfl))
  f197:=Tryz.func182.trans (congrArg some (by kernel_rfl))
  f217:=Tryz.func173.trans (congrArg some (by kernel_rfl))
  f224:=Tryz.func196.trans (congrArg some (by kernel_rfl))
  f225:=Tryz.func197.trans (congrArg some (by kernel_rfl))
  f227:=Tryz.func156.trans (congrArg some (by kernel_rfl))
  f228:=Tryz.func176.trans (congrArg some (by kernel_rfl))
  f231:=Tryz.func154.trans (congrArg some (by kernel_rfl))
  f232:=Tryz.func155.trans (congrArg some (by kernel_rfl))
  f233:=Tryz.func157.trans (congrArg some (by kernel_rfl))
  f234:=Tryz.func158.trans (congrArg some (by kernel_rfl))
  f235:=Tryz.func159.trans (congrArg some (by kernel_rfl))
  f236:=Tryz.func160.trans (congrArg some (by kernel_rfl))
  f260:=Tryz.func200.trans (congrArg some (by kernel_rfl))
  f266:=Tryz.func194.trans (congrArg some (by kernel_rfl))
  f271:=Tryz.func184.trans (congrArg some (by kernel_rfl))
  t0:=Tryz.underlying0
  a0:=Tryz.isAgg0
  z0:=Tryz.sizeOf0
  v0:=Tryz.zeroValue0
  t3:=Tryz.underlying3
  a3:=Tryz.isAgg3
  z3:=Tryz.sizeOf3
  v3:=Tryz.zeroValue3
  t4:=Tryz.underlying4
  a4:=Tryz.isAgg4
  z4:=Tryz.sizeOf4
  v4:=Tryz.zeroValue4
  t5:=Tryz.underlying5
  a5:=Tryz.isAgg5
  z5:=Tryz.sizeOf5
  v5:=Tryz.zeroValue5
  t9:=Tryz.underlying9
  a9:=Tryz.isAgg9
  z9:=Tryz.sizeOf9
  v9:=Tryz.zeroValue9
  t21:=Tryz.underlying21
  a21:=Tryz.isAgg21
  z21:=Tryz.sizeOf21
  v21:=Tryz.zeroValue21
  t46:=Tryz.underlying229
  a46:=Tryz.isAgg229
  z46:=Tryz.sizeOf229
  v46:=Tryz.zeroValue229
  t105:=Tryz.underlying247
  a105:=Tryz.isAgg247
  z105:=Tryz.sizeOf247
  v105:=Tryz.zeroValue247
  t116:=Tryz.underlying221
  a116:=Tryz.isAgg221
  z116:=Tryz.sizeOf221
  t117:=Tryz.underlying222
  a117:=Tryz.isAgg222
  z117:=Tryz.sizeOf222
  v117:=Tryz.zeroValue222
  t119:=Tryz.underlying267
  a119:=Tryz.isAgg267
  z119:=Tryz.sizeOf267
  t124:=Tryz.underlying225
  a124:=Tryz.isAgg225
  z124:=Tryz.sizeOf225
  v124:=Tryz.zeroValue225
  t138:=Tryz.underlying269
  a138:=Tryz.isAgg269
  z138:=Tryz.sizeOf269
  v138:=Tryz.zeroValue269
  t139:=Tryz.underlying270
  a139:=Tryz.isAgg270
  z139:=Tryz.sizeOf270
  v139:=Tryz.zeroValue270
  g3:=by kernel_rfl
  g4:=by kernel_rfl}
def Tryz.lays119_ren:Go.Shelf.Ren:=⟨λ |119=>195|n=>n,λ |21=>21|4=>4|n=>n,λ |n=>n⟩
theorem Tryz.lays119:Go.Proofs.Lays.n119 Tryz.prog Tryz.lays119_ren:={
  mixed:=by kernel_rfl
  f119:=Tryz.func195.trans (congrArg some (by kernel_rfl))
  t4:=Tryz.underlying4
  a4:=Tryz.isAgg4
  z4:=Tryz.sizeOf4
  v4:=Tryz.zeroValue4
  t21:=Tryz.underlying21
  a21:=Tryz.isAgg21
  z21:=Tryz.sizeOf21
  v21:=Tryz.zeroValue21}
theorem Tryz.utf8_ValidRune(r:Int)(w:World):
    Calls Tryz.prog 195 #[.int .i32 r] w λe w'=>e= .returned (.bool (Lib.validRune r))∧w'=w:=Any.utf8_ValidRune Tryz.lays119 r w
def Tryz.lays137_ren:Go.Shelf.Ren:=⟨λ |137=>146|217=>173|266=>194|n=>n,λ |9=>9|5=>5|3=>3|n=>n,λ |n=>n⟩
theorem Tryz.lays137:Go.Proofs.Lays.n137 Tryz.prog Tryz.lays137_ren:={
  mixed:=by kernel_rfl
  f137:=Tryz.func146.trans (congrArg some (by kernel_rfl))
  f217:=Tryz.func173.trans (congrArg some (by kernel_rfl))
  f266:=Tryz.func194.trans (congrArg some (by kernel_rfl))
  t3:=Tryz.underlying3
  a3:=Tryz.isAgg3
  z3:=Tryz.sizeOf3
  v3:=Tryz.zeroValue3
  t5:=Tryz.underlying5
  a5:=Tryz.isAgg5
  z5:=Tryz.sizeOf5
  v5:=Tryz.zeroValue5
  t9:=Tryz.underlying9
  a9:=Tryz.isAgg9
  z9:=Tryz.sizeOf9
  v9:=Tryz.zeroValue9}
open Go.RowKit in
theorem Tryz.strings_IndexByte(s:ByteArray)(c:Int)(w:World):
    Calls Tryz.prog 146 #[.string s,.int .u8 c] w λe w'=>e= .returned (.int .i64 (Lib.indexByte s.data.toList c.toNat.toUInt8))∧w'=w:=Any.strings_IndexByte Tryz.lays137 s c w
open Go.RowKit in
theorem Tryz.Builder_Len_f(B b:Nat)(bs:List Value)(w:World)(h:Lib.IsBuilderF 196 5 B b bs w):
    Calls Tryz.prog 135 #[.pointer (some ⟨b,0,none⟩)] w λe w'=>e= .returned (.int .i64 bs.length)∧w'=w:=Any.Builder_Len_f Tryz.lays170 B b bs w h
open Go.RowKit in
theorem Tryz.Builder_String_any_k(B b:Nat)(l:List UInt8)(w:World)(h:Lib.IsBuilderF 196 5 B b (Lib.byteCells l) w)(hBw:B≤w.heap.size):
    Calls Tryz.prog 136 #[.pointer (some ⟨b,0,none⟩)] w λe w'=>e= .returned (.string ⟨l.toArray⟩)∧(Lib.IsBuilderF 196 5 B b (Lib.byteCells l) w'∧Below B w w'∧Lib.OthersKept 5 (some b) w w'):=Any.Builder_String_any_k Tryz.lays169 Tryz.Builder_Extra_169 B b l w h hBw
def Tryz.lays172_ren:Go.Shelf.Ren:=⟨λ |172=>73|244=>105|245=>106|247=>137|279=>138|280=>139|281=>140|282=>141|287=>161|316=>169|171=>55|205=>170|321=>185|322=>186|243=>89|246=>117|283=>150|284=>151|285=>152|286=>153|129=>178|317=>177|318=>179|319=>180|320=>181|337=>198|338=>199|n=>n,λ |9=>9|3=>3|75=>128|76=>129|4=>4|5=>5|167=>201|37=>194|0=>0|85=>202|2=>2|168=>204|53=>184|175=>185|46=>229|210=>236|127=>233|145=>260|143=>258|21=>21|171=>214|173=>217|212=>243|51=>244|20=>20|213=>245|232=>265|233=>266|80=>200|n=>n,λ |15=>0|16=>1|17=>2|18=>4|19=>5|n=>n⟩
theorem Tryz.lays172:Go.Proofs.Lays.n172 Tryz.prog Tryz.lays172_ren:={
  mixed:=by kernel_rfl
  f129:=Tryz.func178.trans (congrArg some (by kernel_rfl))
  f171:=Tryz.func55.trans (congrArg some (by kernel_rfl))
  f172:=Tryz.func73.trans (congrArg some (by kernel_rfl))
  f205:=Tryz.func170.trans (congrArg some (by kernel_rfl))
  f243:=Tryz.func89.trans (congrArg some (by kernel_rfl))
  f244:=Tryz.func105.trans (congrArg some (by kernel_rfl))
  f245:=Tryz.func106.trans (congrArg some (by kernel_rfl))
  f246:=Tryz.func117.trans (congrArg some (by kernel_rfl))
  f247:=Tryz.func137.trans (congrArg some (by kernel_rfl))
  f279:=Tryz.func138.trans (congrArg some (by kernel_rfl))
  f280:=Tryz.func139.trans (congrArg some (by kernel_rfl))
  f281:=Tryz.func140.trans (congrArg some (by kernel_rfl))
  f282:=Tryz.func141.trans (congrArg some (by kernel_rfl))
  f283:=Tryz.func150.trans (congrArg some (by kernel_rfl))
  f284:=Tryz.func151.trans (congrArg some (by kernel_rfl))
  f285:=Tryz.func152.trans (congrArg some (by kernel_rfl))
  f286:=Tryz.func153.trans (congrArg some (by kernel_rfl))
  f287:=Tryz.func161.trans (congrArg some (by kernel_rfl))
  f316:=Tryz.func169.trans (congrArg some (by kernel_rfl))
  f317:=Tryz.func177.trans (congrArg some (by kernel_rfl))
  f318:=Tryz.func179.trans (congrArg some (by kernel_rfl))
  f319:=Tryz.func180.trans (congrArg some (by kernel_rfl))
  f320:=Tryz.func181.trans (congrArg some (by kernel_rfl))
  f321:=Tryz.func185.trans (congrArg some (by kernel_rfl))
  f322:=Tryz.func186.trans (congrArg some (by kernel_rfl))
  f337:=Tryz.func198.trans (congrArg some (by kernel_rfl))
  f338:=Tryz.func199.trans (congrArg some (by kernel_rfl))
  t0:=Tryz.underlying0
  a0:=Tryz.isAgg0
  z0:=Tryz.sizeOf0
  v0:=Tryz.zeroValue0
  t2:=Tryz.underlying2
  a2:=Tryz.isAgg2
  z2:=Tryz.sizeOf2
  v2:=Tryz.zeroValue2
  t3:=Tryz.underlying3
  a3:=Tryz.isAgg3
  z3:=Tryz.sizeOf3
  v3:=Tryz.zeroValue3
  t4:=Tryz.underlying4
  a4:=Tryz.isAgg4
  z4:=Tryz.sizeOf4
  v4:=Tryz.zeroValue4
  t5:=Tryz.underlying5
  a5:=Tryz.isAgg5
  z5:=Tryz.sizeOf5
  v5:=Tryz.zeroValue5
  t9:=Tryz.underlying9
  a9:=Tryz.isAgg9
  z9:=Tryz.sizeOf9
  v9:=Tryz.zeroValue9
  t20:=Tryz.underlying20
  a20:=Tryz.isAgg20
  z20:=Tryz.sizeOf20
  v20:=Tryz.zeroValue20
  t21:=Tryz.underlying21
  a21:=Tryz.isAgg21
  z21:=Tryz.sizeOf21
  v21:=Tryz.zeroValue21
  t37:=Tryz.underlying194
  a37:=Tryz.isAgg194
  z37:=Tryz.sizeOf194
  v37:=Tryz.zeroValue194
  t46:=Tryz.underlying229
  a46:=Tryz.isAgg229
  z46:=Tryz.sizeOf229
  v46:=Tryz.zeroValue229
  t51:=Tryz.underlying244
  a51:=Tryz.isAgg244
  z51:=Tryz.sizeOf244
  v51:=Tryz.zeroValue244
  t53:=Tryz.underlying184
  a53:=Tryz.isAgg184
  z53:=Tryz.sizeOf184
  v53:=Tryz.zeroValue184
  t75:=Tryz.underlying128
  a75:=Tryz.isAgg128
  z75:=Tryz.sizeOf128
  v75:=Tryz.zeroValue128
  t76:=Tryz.underlying129
  a76:=Tryz.isAgg129
  z76:=Tryz.sizeOf129
  v76:=Tryz.zeroValue129
  t85:=Tryz.underlying202
  a85:=Tryz.isAgg202
  z85:=Tryz.sizeOf202
  v85:=Tryz.zeroValue202
  t127:=Tryz.underlying233
  a127:=Tryz.isAgg233
  z127:=Tryz.sizeOf233
  v127:=Tryz.zeroValue233
  t143:=Tryz.underlying258
  a143:=Tryz.isAgg258
  z143:=Tryz.sizeOf258
  v143:=Tryz.zeroValue258
  t145:=Tryz.underlying260
  a145:=Tryz.isAgg260
  z145:=Tryz.sizeOf260
  v145:=Tryz.zeroValue260
  t167:=Tryz.underlying201
  a167:=Tryz.isAgg201
  z167:=Tryz.sizeOf201
  v167:=Tryz.zeroValue201
  t168:=Tryz.underlying204
  a168:=Tryz.isAgg204
  z168:=Tryz.sizeOf204
  v168:=Tryz.zeroValue204
  t171:=Tryz.underlying214
  a171:=Tryz.isAgg214
  z171:=Tryz.sizeOf214
  v171:=Tryz.zeroValue214
  t173:=Tryz.underlying217
  a173:=Tryz.isAgg217
  z173:=Tryz.sizeOf217
  v173:=Tryz.zeroValue217
  t175:=Tryz.underlying185
  a175:=Tryz.isAgg185
  z175:=Tryz.sizeOf185
  v175:=Tryz.zeroValue185
  t210:=Tryz.underlying236
  a210:=Tryz.isAgg236
  z210:=Tryz.sizeOf236
  v210:=Tryz.zeroValue236
  t212:=Tryz.underlying243
  a212:=Tryz.isAgg243
  z212:=Tryz.sizeOf243
  v212:=Tryz.zeroValue243
  t213:=Tryz.underlying245
  a213:=Tryz.isAgg245
  z213:=Tryz.sizeOf245
  t232:=Tryz.underlying265
  a232:=Tryz.isAgg265
  z232:=Tryz.sizeOf265
  v232:=Tryz.zeroValue265
  t233:=Tryz.underlying266
  a233:=Tryz.isAgg266
  z233:=Tryz.sizeOf266
  v233:=Tryz.zeroValue266
  g15:=by kernel_rfl
  g16:=by kernel_rfl
  g17:=by kernel_rfl
  g18:=by kernel_rfl
  g19:=by kernel_rfl}
open Go.RowKit in
theorem Tryz.strconv_Atoi(s:ByteArray)(n:Int)(hl:s.size≤18)(h:Lib.atoi s.data.toList=some n)(w:World):
    Calls Tryz.prog 73 #[.string s] w λe w'=>e= .returned (.tuple #[.int .i64 n,.nilIface])∧∃t,w'=Lib.bytesWorld w 5 t:=Any.strconv_Atoi Tryz.lays172 s n hl h w
def Tryz.lays283_ren:Go.Shelf.Ren:=⟨λ |283=>150|n=>n,λ |3=>3|9=>9|4=>4|n=>n,λ |n=>n⟩
theorem Tryz.lays283:Go.Proofs.Lays.n283 Tryz.prog Tryz.lays283_ren:={
  mixed:=by kernel_rfl
  f283:=Tryz.func150.trans (congrArg some (by kernel_rfl))
  t3:=Tryz.underlying3
  a3:=Tryz.isAgg3
  z3:=Tryz.sizeOf3
  v3:=Tryz.zeroValue3
  t4:=Tryz.underlying4
  a4:=Tryz.isAgg4
  z4:=Tryz.sizeOf4
  v4:=Tryz.zeroValue4
  t9:=Tryz.underlying9
  a9:=Tryz.isAgg9
  z9:=Tryz.sizeOf9
  v9:=Tryz.zeroValue9}
open Go.Lib in
theorem Tryz.internal_strconv_small(i:Nat)(h:i<100)(w:World):
    Calls Tryz.prog 150 #[.int .i64 i] w λe w'=>e= .returned (.string ⟨(Lib.decDigits i).toArray⟩)∧w'=w:=Any.internal_strconv_small Tryz.lays283 i h w
def Tryz.laysM284_ren:Go.Shelf.Ren:=⟨λ |284=>151|129=>178|317=>177|318=>179|n=>n,λ |53=>184|3=>3|212=>243|0=>0|4=>4|46=>229|5=>5|9=>9|n=>n,λ |17=>2|n=>n⟩
theorem Tryz.laysM284:Go.Proofs.LaysM.n284 Tryz.prog Tryz.laysM284_ren:={
  mixed:=by kernel_rfl
  f129:=Tryz.func178.trans (congrArg some (by kernel_rfl))
  f284:=Tryz.func151.trans (congrArg some (by kernel_rfl))
  f317:=Tryz.func177.trans (congrArg some (by kernel_rfl))
  f318:=Tryz.func179.trans (congrArg some (by kernel_rfl))
  t0:=Tryz.underlying0
  a0:=Tryz.isAgg0
  z0:=Tryz.sizeOf0
  v0:=Tryz.zeroValue0
  t3:=Tryz.underlying3
  a3:=Tryz.isAgg3
  z3:=Tryz.sizeOf3
  v3:=Tryz.zeroValue3
  t4:=Tryz.underlying4
  a4:=Tryz.isAgg4
  z4:=Tryz.sizeOf4
  v4:=Tryz.zeroValue4
  t5:=Tryz.underlying5
  a5:=Tryz.isAgg5
  z5:=Tryz.sizeOf5
  v5:=Tryz.zeroValue5
  t9:=Tryz.underlying9
  a9:=Tryz.isAgg9
  z9:=Tryz.sizeOf9
  v9:=Tryz.zeroValue9
  t46:=Tryz.underlying229
  a46:=Tryz.isAgg229
  z46:=Tryz.sizeOf229
  v46:=Tryz.zeroValue229
  t53:=Tryz.underlying184
  a53:=Tryz.isAgg184
  z53:=Tryz.sizeOf184
  v53:=Tryz.zeroValue184
  t212:=Tryz.underlying243
  a212:=Tryz.isAgg243
  z212:=Tryz.sizeOf243
  v212:=Tryz.zeroValue243
  g17:=by kernel_rfl
  i0:=by kernel_rfl
  i3:=by kernel_rfl
  i4:=by kernel_rfl
  i5:=by kernel_rfl
  i9:=by kernel_rfl
  i46:=by kernel_rfl
  i53:=by kernel_rfl
  i212:=by kernel_rfl
  m17:=by kernel_rfl}
open Go.Lib in
theorem Tryz.internal_strconv_numDigits(u:Nat)(h1:1≤u)(h2:u<18446744073709551616)(w:World)(htab:Lib.TabIs Tryz.prog w "internal/strconv.uint64pow10" .u64 Lib.pow10Tab):
    Calls Tryz.prog 151 #[.int .u64 u] w λe w'=>e= .returned (.int .i64 (Lib.nDigits u))∧w'=w:=Any.internal_strconv_numDigits Tryz.laysM284 u h1 h2 w htab
def Tryz.lays285_ren:Go.Shelf.Ren:=⟨λ |285=>152|n=>n,λ |37=>194|53=>184|3=>3|4=>4|51=>244|9=>9|5=>5|0=>0|n=>n,λ |n=>n⟩
theorem Tryz.lays285:Go.Proofs.Lays.n285 Tryz.prog Tryz.lays285_ren:={
  mixed:=by kernel_rfl
  f285:=Tryz.func152.trans (congrArg some (by kernel_rfl))
  t0:=Tryz.underlying0
  a0:=Tryz.isAgg0
  z0:=Tryz.sizeOf0
  v0:=Tryz.zeroValue0
  t3:=Tryz.underlying3
  a3:=Tryz.isAgg3
  z3:=Tryz.sizeOf3
  v3:=Tryz.zeroValue3
  t4:=Tryz.underlying4
  a4:=Tryz.isAgg4
  z4:=Tryz.sizeOf4
  v4:=Tryz.zeroValue4
  t5:=Tryz.underlying5
  a5:=Tryz.isAgg5
  z5:=Tryz.sizeOf5
  v5:=Tryz.zeroValue5
  t9:=Tryz.underlying9
  a9:=Tryz.isAgg9
  z9:=Tryz.sizeOf9
  v9:=Tryz.zeroValue9
  t37:=Tryz.underlying194
  a37:=Tryz.isAgg194
  z37:=Tryz.sizeOf194
  v37:=Tryz.zeroValue194
  t51:=Tryz.underlying244
  a51:=Tryz.isAgg244
  z51:=Tryz.sizeOf244
  v51:=Tryz.zeroValue244
  t53:=Tryz.underlying184
  a53:=Tryz.isAgg184
  z53:=Tryz.sizeOf184
  v53:=Tryz.zeroValue184}
open Go.RowKit Go.Sort Go.Lib in
theorem Tryz.internal_strconv_formatBase10(blk off cap:Nat)(u:Nat)(d:Array UInt8)(w:World)(hH:Holds (λ(b:UInt8)=>Value.int .u8 (b.toNat:Int)) w blk off d)(hu:u<10^d.size)(hu64:u<18446744073709551616)(hsz:d.size<4611686018427387904):
    Calls Tryz.prog 152 #[.slice (some ⟨blk,off,none⟩) d.size cap,.int .u64 u] w λe w'=>
      e= .returned (.tuple #[])∧∃(n v':Nat)(dk:Array UInt8),w'=(putRow (λ(b:UInt8)=>Value.int .u8 (b.toNat:Int)) w blk off dk).drewN n∧FmtInv d.size u 0 v' dk:=Any.internal_strconv_formatBase10 Tryz.lays285 blk off cap u d w hH hu hu64 hsz
def Tryz.laysM171_ren:Go.Shelf.Ren:=⟨λ |171=>55|243=>89|246=>117|283=>150|284=>151|285=>152|286=>153|129=>178|317=>177|318=>179|319=>180|320=>181|337=>198|338=>199|n=>n,λ |3=>3|9=>9|2=>2|4=>4|171=>214|0=>0|53=>184|37=>194|5=>5|173=>217|212=>243|51=>244|20=>20|213=>245|46=>229|232=>265|233=>266|n=>n,λ |17=>2|18=>4|19=>5|n=>n⟩
theorem Tryz.laysM171:Go.Proofs.LaysM.n171 Tryz.prog Tryz.laysM171_ren:={
  mixed:=by kernel_rfl
  f129:=Tryz.func178.trans (congrArg some (by kernel_rfl))
  f171:=Tryz.func55.trans (congrArg some (by kernel_rfl))
  f243:=Tryz.func89.trans (congrArg some (by kernel_rfl))
  f246:=Tryz.func117.trans (congrArg some (by kernel_rfl))
  f283:=Tryz.func150.trans (congrArg some (by kernel_rfl))
  f284:=Tryz.func151.trans (congrArg some (by kernel_rfl))
  f285:=Tryz.func152.trans (congrArg some (by kernel_rfl))
  f286:=Tryz.func153.trans (congrArg some (by kernel_rfl))
  f317:=Tryz.func177.trans (congrArg some (by kernel_rfl))
  f318:=Tryz.func179.trans (congrArg some (by kernel_rfl))
  f319:=Tryz.func180.trans (congrArg some (by kernel_rfl))
  f320:=Tryz.func181.trans (congrArg some (by kernel_rfl))
  f337:=Tryz.func198.trans (congrArg some (by kernel_rfl))
  f338:=Tryz.func199.trans (congrArg some (by kernel_rfl))
  t0:=Tryz.underlying0
  a0:=Tryz.isAgg0
  z0:=Tryz.sizeOf0
  v0:=Tryz.zeroValue0
  t2:=Tryz.underlying2
  a2:=Tryz.isAgg2
  z2:=Tryz.sizeOf2
  v2:=Tryz.zeroValue2
  t3:=Tryz.underlying3
  a3:=Tryz.isAgg3
  z3:=Tryz.sizeOf3
  v3:=Tryz.zeroValue3
  t4:=Tryz.underlying4
  a4:=Tryz.isAgg4
  z4:=Tryz.sizeOf4
  v4:=Tryz.zeroValue4
  t5:=Tryz.underlying5
  a5:=Tryz.isAgg5
  z5:=Tryz.sizeOf5
  v5:=Tryz.zeroValue5
  t9:=Tryz.underlying9
  a9:=Tryz.isAgg9
  z9:=Tryz.sizeOf9
  v9:=Tryz.zeroValue9
  t20:=Tryz.underlying20
  a20:=Tryz.isAgg20
  z20:=Tryz.sizeOf20
  v20:=Tryz.zeroValue20
  t37:=Tryz.underlying194
  a37:=Tryz.isAgg194
  z37:=Tryz.sizeOf194
  v37:=Tryz.zeroValue194
  t46:=Tryz.underlying229
  a46:=Tryz.isAgg229
  z46:=Tryz.sizeOf229
  v46:=Tryz.zeroValue229
  t51:=Tryz.underlying244
  a51:=Tryz.isAgg244
  z51:=Tryz.sizeOf244
  v51:=Tryz.zeroValue244
  t53:=Tryz.underlying184
  a53:=Tryz.isAgg184
  z53:=Tryz.sizeOf184
  v53:=Tryz.zeroValue184
  t171:=Tryz.underlying214
  a171:=Tryz.isAgg214
  z171:=Tryz.sizeOf214
  v171:=Tryz.zeroValue214
  t173:=Tryz.underlying217
  a173:=Tryz.isAgg217
  z173:=Tryz.sizeOf217
  v173:=Tryz.zeroValue217
  t212:=Tryz.underlying243
  a212:=Tryz.isAgg243
  z212:=Tryz.sizeOf243
  v212:=Tryz.zeroValue243
  t213:=Tryz.underlying245
  a213:=Tryz.isAgg245
  z213:=Tryz.sizeOf245
  t232:=Tryz.underlying265
  a232:=Tryz.isAgg265
  z232:=Tryz.sizeOf265
  v232:=Tryz.zeroValue265
  t233:=Tryz.underlying266
  a233:=Tryz.isAgg266
  z233:=Tryz.sizeOf266
  v233:=Tryz.zeroValue266
  g17:=by kernel_rfl
  g18:=by kernel_rfl
  g19:=by kernel_rfl
  i0:=by kernel_rfl
  i2:=by kernel_rfl
  i3:=by kernel_rfl
  i4:=by kernel_rfl
  i5:=by kernel_rfl
  i9:=by kernel_rfl
  i20:=by kernel_rfl
  i37:=by kernel_rfl
  i46:=by kernel_rfl
  i51:=by kernel_rfl
  i53:=by kernel_rfl
  i171:=by kernel_rfl
  i173:=by kernel_rfl
  i212:=by kernel_rfl
  i232:=by kernel_rfl
  i233:=by kernel_rfl
  m17:=by kernel_rfl
  m18:=by kernel_rfl
  m19:=by kernel_rfl}
open Go.RowKit Go.Sort Go.Lib in
theorem Tryz.strconv_Itoa(n:Int)(h0: -9223372036854775808≤n)(h1:n≤9223372036854775807)(w:World)(htab:Lib.TabIs Tryz.prog w "internal/strconv.uint64pow10" .u64 Lib.pow10Tab):
    Calls Tryz.prog 55 #[.int .i64 n] w λe w'=>e= .returned (.string ⟨(Lib.itoa n).toArray⟩)∧∃k os,w'=grow (w.drewN k) os:=Any.strconv_Itoa Tryz.laysM171 n h0 h1 w htab
def Tryz.lays287_ren:Go.Shelf.Ren:=⟨λ |287=>161|321=>185|322=>186|n=>n,λ |9=>9|3=>3|53=>184|75=>128|4=>4|167=>201|5=>5|46=>229|37=>194|0=>0|21=>21|80=>200|n=>n,λ |n=>n⟩
theorem Tryz.lays287:Go.Proofs.Lays.n287 Tryz.prog Tryz.lays287_ren:={
  mixed:=by kernel_rfl
  f287:=Tryz.func161.trans (congrArg some (by kernel_rfl))
  f321:=Tryz.func185.trans (congrArg some (by kernel_rfl))
  f322:=Tryz.func186.trans (congrArg some (by kernel_rfl))
  t0:=Tryz.underlying0
  a0:=Tryz.isAgg0
  z0:=Tryz.sizeOf0
  v0:=Tryz.zeroValue0
  t3:=Tryz.underlying3
  a3:=Tryz.isAgg3
  z3:=Tryz.sizeOf3
  v3:=Tryz.zeroValue3
  t4:=Tryz.underlying4
  a4:=Tryz.isAgg4
  z4:=Tryz.sizeOf4
  v4:=Tryz.zeroValue4
  t5:=Tryz.underlying5
  a5:=Tryz.isAgg5
  z5:=Tryz.sizeOf5
  v5:=Tryz.zeroValue5
  t9:=Tryz.underlying9
  a9:=Tryz.isAgg9
  z9:=Tryz.sizeOf9
  v9:=Tryz.zeroValue9
  t21:=Tryz.underlying21
  a21:=Tryz.isAgg21
  z21:=Tryz.sizeOf21
  v21:=Tryz.zeroValue21
  t37:=Tryz.underlying194
  a37:=Tryz.isAgg194
  z37:=Tryz.sizeOf194
  v37:=Tryz.zeroValue194
  t46:=Tryz.underlying229
  a46:=Tryz.isAgg229
  z46:=Tryz.sizeOf229
  v46:=Tryz.zeroValue229
  t53:=Tryz.underlying184
  a53:=Tryz.isAgg184
  z53:=Tryz.sizeOf184
  v53:=Tryz.zeroValue184
  t75:=Tryz.underlying128
  a75:=Tryz.isAgg128
  z75:=Tryz.sizeOf128
  v75:=Tryz.zeroValue128
  t167:=Tryz.underlying201
  a167:=Tryz.isAgg201
  z167:=Tryz.sizeOf201
  v167:=Tryz.zeroValue201}
def Tryz.laysC172_ren:Go.Shelf.Ren:=⟨λ |172=>73|244=>105|245=>106|247=>137|279=>138|280=>139|281=>140|282=>141|287=>161|316=>169|171=>55|205=>170|321=>185|322=>186|243=>89|246=>117|283=>150|284=>151|285=>152|286=>153|129=>178|317=>177|318=>179|319=>180|320=>181|337=>198|338=>199|n=>n,λ |9=>9|3=>3|75=>128|76=>129|4=>4|5=>5|167=>201|37=>194|0=>0|85=>202|2=>2|168=>204|53=>184|175=>185|46=>229|210=>236|127=>233|145=>260|143=>258|21=>21|171=>214|173=>217|212=>243|51=>244|20=>20|213=>245|232=>265|233=>266|80=>200|n=>n,λ |15=>0|16=>1|17=>2|18=>4|19=>5|n=>n⟩
theorem Tryz.laysC172:Go.Proofs.LaysC.n172 Tryz.prog Tryz.laysC172_ren:={
  mixed:=by kernel_rfl
  f129:=Tryz.func178.trans (congrArg some (by kernel_rfl))
  f171:=Tryz.func55.trans (congrArg some (by kernel_rfl))
  f172:=Tryz.func73.trans (congrArg some (by kernel_rfl))
  f205:=Tryz.func170.trans (congrArg some (by kernel_rfl))
  f243:=Tryz.func89.trans (congrArg some (by kernel_rfl))
  f244:=Tryz.func105.trans (congrArg some (by kernel_rfl))
  f245:=Tryz.func106.trans (congrArg some (by kernel_rfl))
  f246:=Tryz.func117.trans (congrArg some (by kernel_rfl))
  f247:=Tryz.func137.trans (congrArg some (by kernel_rfl))
  f279:=Tryz.func138.trans (congrArg some (by kernel_rfl))
  f280:=Tryz.func139.trans (congrArg some (by kernel_rfl))
  f281:=Tryz.func140.trans (congrArg some (by kernel_rfl))
  f282:=Tryz.func141.trans (congrArg some (by kernel_rfl))
  f283:=Tryz.func150.trans (congrArg some (by kernel_rfl))
  f284:=Tryz.func151.trans (congrArg some (by kernel_rfl))
  f285:=Tryz.func152.trans (congrArg some (by kernel_rfl))
  f286:=Tryz.func153.trans (congrArg some (by kernel_rfl))
  f287:=Tryz.func161.trans (congrArg some (by kernel_rfl))
  f316:=Tryz.func169.trans (congrArg some (by kernel_rfl))
  f317:=Tryz.func177.trans (congrArg some (by kernel_rfl))
  f318:=Tryz.func179.trans (congrArg some (by kernel_rfl))
  f319:=Tryz.func180.trans (congrArg some (by kernel_rfl))
  f320:=Tryz.func181.trans (congrArg some (by kernel_rfl))
  f321:=Tryz.func185.trans (congrArg some (by kernel_rfl))
  f322:=Tryz.func186.trans (congrArg some (by kernel_rfl))
  f337:=Tryz.func198.trans (congrArg some (by kernel_rfl))
  f338:=Tryz.func199.trans (congrArg some (by kernel_rfl))
  t0:=Tryz.underlying0
  a0:=Tryz.isAgg0
  z0:=Tryz.sizeOf0
  v0:=Tryz.zeroValue0
  t2:=Tryz.underlying2
  a2:=Tryz.isAgg2
  z2:=Tryz.sizeOf2
  v2:=Tryz.zeroValue2
  t3:=Tryz.underlying3
  a3:=Tryz.isAgg3
  z3:=Tryz.sizeOf3
  v3:=Tryz.zeroValue3
  t4:=Tryz.underlying4
  a4:=Tryz.isAgg4
  z4:=Tryz.sizeOf4
  v4:=Tryz.zeroValue4
  t5:=Tryz.underlying5
  a5:=Tryz.isAgg5
  z5:=Tryz.sizeOf5
  v5:=Tryz.zeroValue5
  t9:=Tryz.underlying9
  a9:=Tryz.isAgg9
  z9:=Tryz.sizeOf9
  v9:=Tryz.zeroValue9
  t20:=Tryz.underlying20
  a20:=Tryz.isAgg20
  z20:=Tryz.sizeOf20
  v20:=Tryz.zeroValue20
  t21:=Tryz.underlying21
  a21:=Tryz.isAgg21
  z21:=Tryz.sizeOf21
  v21:=Tryz.zeroValue21
  t37:=Tryz.underlying194
  a37:=Tryz.isAgg194
  z37:=Tryz.sizeOf194
  v37:=Tryz.zeroValue194
  t46:=Tryz.underlying229
  a46:=Tryz.isAgg229
  z46:=Tryz.sizeOf229
  v46:=Tryz.zeroValue229
  t51:=Tryz.underlying244
  a51:=Tryz.isAgg244
  z51:=Tryz.sizeOf244
  v51:=Tryz.zeroValue244
  t53:=Tryz.underlying184
  a53:=Tryz.isAgg184
  z53:=Tryz.sizeOf184
  v53:=Tryz.zeroValue184
  t75:=Tryz.underlying128
  a75:=Tryz.isAgg128
  z75:=Tryz.sizeOf128
  v75:=Tryz.zeroValue128
  t76:=Tryz.underlying129
  a76:=Tryz.isAgg129
  z76:=Tryz.sizeOf129
  v76:=Tryz.zeroValue129
  t85:=Tryz.underlying202
  a85:=Tryz.isAgg202
  z85:=Tryz.sizeOf202
  v85:=Tryz.zeroValue202
  t127:=Tryz.underlying233
  a127:=Tryz.isAgg233
  z127:=Tryz.sizeOf233
  v127:=Tryz.zeroValue233
  t143:=Tryz.underlying258
  a143:=Tryz.isAgg258
  z143:=Tryz.sizeOf258
  v143:=Tryz.zeroValue258
  t145:=Tryz.underlying260
  a145:=Tryz.isAgg260
  z145:=Tryz.sizeOf260
  v145:=Tryz.zeroValue260
  t167:=Tryz.underlying201
  a167:=Tryz.isAgg201
  z167:=Tryz.sizeOf201
  v167:=Tryz.zeroValue201
  t168:=Tryz.underlying204
  a168:=Tryz.isAgg204
  z168:=Tryz.sizeOf204
  v168:=Tryz.zeroValue204
  t171:=Tryz.underlying214
  a171:=Tryz.isAgg214
  z171:=Tryz.sizeOf214
  v171:=Tryz.zeroValue214
  t173:=Tryz.underlying217
  a173:=Tryz.isAgg217
  z173:=Tryz.sizeOf217
  v173:=Tryz.zeroValue217
  t175:=Tryz.underlying185
  a175:=Tryz.isAgg185
  z175:=Tryz.sizeOf185
  v175:=Tryz.zeroValue185
  t210:=Tryz.underlying236
  a210:=Tryz.isAgg236
  z210:=Tryz.sizeOf236
  v210:=Tryz.zeroValue236
  t212:=Tryz.underlying243
  a212:=Tryz.isAgg243
  z212:=Tryz.sizeOf243
  v212:=Tryz.zeroValue243
  t213:=Tryz.underlying245
  a213:=Tryz.isAgg245
  z213:=Tryz.sizeOf245
  t232:=Tryz.underlying265
  a232:=Tryz.isAgg265
  z232:=Tryz.sizeOf265
  v232:=Tryz.zeroValue265
  t233:=Tryz.underlying266
  a233:=Tryz.isAgg266
  z233:=Tryz.sizeOf266
  v233:=Tryz.zeroValue266
  g15:=by kernel_rfl
  g16:=by kernel_rfl
  g17:=by kernel_rfl
  g18:=by kernel_rfl
  g19:=by kernel_rfl
  t80:=Tryz.underlying200
  a80:=Tryz.isAgg200
  z80:=Tryz.sizeOf200
  v80:=Tryz.zeroValue200
  i0:=by kernel_rfl
  i2:=by kernel_rfl
  i3:=by kernel_rfl
  i4:=by kernel_rfl
  i5:=by kernel_rfl
  i9:=by kernel_rfl
  i20:=by kernel_rfl
  i21:=by kernel_rfl
  i37:=by kernel_rfl
  i46:=by kernel_rfl
  i51:=by kernel_rfl
  i53:=by kernel_rfl
  i75:=by kernel_rfl
  i76:=by kernel_rfl
  i80:=by kernel_rfl
  i85:=by kernel_rfl
  i127:=by kernel_rfl
  i143:=by kernel_rfl
  i145:=by kernel_rfl
  i167:=by kernel_rfl
  i168:=by kernel_rfl
  i171:=by kernel_rfl
  i173:=by kernel_rfl
  i175:=by kernel_rfl
  i210:=by kernel_rfl
  i212:=by kernel_rfl
  i232:=by kernel_rfl
  i233:=by kernel_rfl
  m15:=by kernel_rfl
  m16:=by kernel_rfl
  m17:=by kernel_rfl
  m18:=by kernel_rfl
  m19:=by kernel_rfl
  c0:=by kernel_rfl
  c2:=by kernel_rfl
  c3:=by kernel_rfl
  c4:=by kernel_rfl
  c5:=by kernel_rfl
  c9:=by kernel_rfl
  c20:=by kernel_rfl
  c21:=by kernel_rfl
  c37:=by kernel_rfl
  c46:=by kernel_rfl
  c51:=by kernel_rfl
  c53:=by kernel_rfl
  c75:=by kernel_rfl
  c76:=by kernel_rfl
  c80:=by kernel_rfl
  c85:=by kernel_rfl
  c127:=by kernel_rfl
  c143:=by kernel_rfl
  c145:=by kernel_rfl
  c167:=by kernel_rfl
  c168:=by kernel_rfl
  c171:=by kernel_rfl
  c173:=by kernel_rfl
  c175:=by kernel_rfl
  c210:=by kernel_rfl
  c212:=by kernel_rfl
  c213:=by kernel_rfl
  c232:=by kernel_rfl
  c233:=by kernel_rfl}
open Go.RowKit in
theorem Tryz.strconv_Atoi_ok(s:ByteArray)(hmax:s.size≤9223372036854775806)(v:Int)(h:Lib.atoiAll s.data.toList= .ok v)(w:World):
    Calls Tryz.prog 73 #[.string s] w λe w'=>e= .returned (.tuple #[.int .i64 v,.nilIface])∧(w'=w∨∃t,w'=Lib.bytesWorld w 5 t):=Any.strconv_Atoi_ok Tryz.laysC172 s hmax v h w
def Tryz.lays99_ren:Go.Shelf.Ren:=⟨λ |99=>148|206=>121|n=>n,λ |9=>9|4=>4|3=>3|n=>n,λ |n=>n⟩
theorem Tryz.lays99:Go.Proofs.Lays.n99 Tryz.prog Tryz.lays99_ren:={
  mixed:=by kernel_rfl
  f99:=Tryz.func148.trans (congrArg some (by kernel_rfl))
  f206:=Tryz.func121.trans (congrArg some (by kernel_rfl))
  t3:=Tryz.underlying3
  a3:=Tryz.isAgg3
  z3:=Tryz.sizeOf3
  v3:=Tryz.zeroValue3
  t4:=Tryz.underlying4
  a4:=Tryz.isAgg4
  z4:=Tryz.sizeOf4
  v4:=Tryz.zeroValue4
  t9:=Tryz.underlying9
  a9:=Tryz.isAgg9
  z9:=Tryz.sizeOf9
  v9:=Tryz.zeroValue9}
open Go.RowKit Go.Lib in
theorem Tryz.strings_HasPrefix(s p:ByteArray)(w:World):
    Calls Tryz.prog 148 #[.string s,.string p] w λe w'=>e= .returned (.bool (Lib.hasPrefix s.data.toList p.data.toList))∧w'=w:=Any.strings_HasPrefix Tryz.lays99 s p w
def Tryz.lays101_ren:Go.Shelf.Ren:=⟨λ |101=>67|208=>97|206=>121|n=>n,λ |9=>9|4=>4|3=>3|n=>n,λ |n=>n⟩
theorem Tryz.lays101:Go.Proofs.Lays.n101 Tryz.prog Tryz.lays101_ren:={
  mixed:=by kernel_rfl
  f101:=Tryz.func67.trans (congrArg some (by kernel_rfl))
  f206:=Tryz.func121.trans (congrArg some (by kernel_rfl))
  f208:=Tryz.func97.trans (congrArg some (by kernel_rfl))
  t3:=Tryz.underlying3
  a3:=Tryz.isAgg3
  z3:=Tryz.sizeOf3
  v3:=Tryz.zeroValue3
  t4:=Tryz.underlying4
  a4:=Tryz.isAgg4
  z4:=Tryz.sizeOf4
  v4:=Tryz.zeroValue4
  t9:=Tryz.underlying9
  a9:=Tryz.isAgg9
  z9:=Tryz.sizeOf9
  v9:=Tryz.zeroValue9}
open Go.RowKit Go.Lib in
theorem Tryz.strings_TrimPrefix(s p:ByteArray)(w:World):
    Calls Tryz.prog 67 #[.string s,.string p] w λe w'=>e= .returned (.string ⟨(Lib.trimPrefix s.data.toList p.data.toList).toArray⟩)∧w'=w:=Any.strings_TrimPrefix Tryz.lays101 s p w
def Tryz.lays152_ren:Go.Shelf.Ren:=⟨λ |152=>174|137=>146|119=>195|224=>196|225=>197|217=>173|266=>194|n=>n,λ |9=>9|21=>21|3=>3|4=>4|5=>5|0=>0|46=>229|n=>n,λ |n=>n⟩
theorem Tryz.lays152:Go.Proofs.Lays.n152 Tryz.prog Tryz.lays152_ren:={
  mixed:=by kernel_rfl
  f119:=Tryz.func195.trans (congrArg some (by kernel_rfl))
  f137:=Tryz.func146.trans (congrArg some (by kernel_rfl))
  f152:=Tryz.func174.trans (congrArg some (by kernel_rfl))
  f217:=Tryz.func173.trans (congrArg some (by kernel_rfl))
  f224:=Tryz.func196.trans (congrArg some (by kernel_rfl))
  f225:=Tryz.func197.trans (congrArg some (by kernel_rfl))
  f266:=Tryz.func194.trans (congrArg some (by kernel_rfl))
  t0:=Tryz.underlying0
  a0:=Tryz.isAgg0
  z0:=Tryz.sizeOf0
  v0:=Tryz.zeroValue0
  t3:=Tryz.underlying3
  a3:=Tryz.isAgg3
  z3:=Tryz.sizeOf3
  v3:=Tryz.zeroValue3
  t4:=Tryz.underlying4
  a4:=Tryz.isAgg4
  z4:=Tryz.sizeOf4
  v4:=Tryz.zeroValue4
  t5:=Tryz.underlying5
  a5:=Tryz.isAgg5
  z5:=Tryz.sizeOf5
  v5:=Tryz.zeroValue5
  t9:=Tryz.underlying9
  a9:=Tryz.isAgg9
  z9:=Tryz.sizeOf9
  v9:=Tryz.zeroValue9
  t21:=Tryz.underlying21
  a21:=Tryz.isAgg21
  z21:=Tryz.sizeOf21
  v21:=Tryz.zeroValue21
  t46:=Tryz.underlying229
  a46:=Tryz.isAgg229
  z46:=Tryz.sizeOf229
  v46:=Tryz.zeroValue229}
open Go.RowKit Go.Lib in
theorem Tryz.strings_IndexRune_ascii(s:ByteArray)(r:Int)(w:World)(h0:0≤r)(h1:r<128):
    Calls Tryz.prog 174 #[.string s,.int .i32 r] w λe w'=>e= .returned (.int .i64 (Lib.indexByte s.data.toList r.toNat.toUInt8))∧w'=w:=Any.strings_IndexRune_ascii Tryz.lays152 s r w h0 h1
def Tryz.lays226_ren:Go.Shelf.Ren:=⟨λ |226=>175|n=>n,λ |3=>3|4=>4|n=>n,λ |n=>n⟩
theorem Tryz.lays226:Go.Proofs.Lays.n226 Tryz.prog Tryz.lays226_ren:={
  mixed:=by kernel_rfl
  f226:=Tryz.func175.trans (congrArg some (by kernel_rfl))
  t3:=Tryz.underlying3
  a3:=Tryz.isAgg3
  z3:=Tryz.sizeOf3
  v3:=Tryz.zeroValue3
  t4:=Tryz.underlying4
  a4:=Tryz.isAgg4
  z4:=Tryz.sizeOf4
  v4:=Tryz.zeroValue4}
open Go.RowKit Go.Lib in
theorem Tryz.strings_shouldUseASCIISet(n:Int)(w:World):
    Calls Tryz.prog 175 #[.int .i64 n] w λe w'=>e= .returned (.bool (decide (8<n)))∧w'=w:=Any.strings_shouldUseASCIISet Tryz.lays226 n w
def Tryz.lays153_ren:Go.Shelf.Ren:=⟨λ |153=>147|152=>174|226=>175|227=>156|228=>176|137=>146|119=>195|224=>196|225=>197|217=>173|266=>194|n=>n,λ |9=>9|3=>3|4=>4|5=>5|21=>21|117=>222|116=>221|0=>0|46=>229|124=>225|n=>n,λ |n=>n⟩
theorem Tryz.lays153:Go.Proofs.Lays.n153 Tryz.prog Tryz.lays153_ren:={
  mixed:=by kernel_rfl
  f119:=Tryz.func195.trans (congrArg some (by kernel_rfl))
  f137:=Tryz.func146.trans (congrArg some (by kernel_rfl))
  f152:=Tryz.func174.trans (congrArg some (by kernel_rfl))
  f153:=Tryz.func147.trans (congrArg some (by kernel_rfl))
  f217:=Tryz.func173.trans (congrArg some (by kernel_rfl))
  f224:=Tryz.func196.trans (congrArg some (by kernel_rfl))
  f225:=Tryz.func197.trans (congrArg some (by kernel_rfl))
  f226:=Tryz.func175.trans (congrArg some (by kernel_rfl))
  f227:=Tryz.func156.trans (congrArg some (by kernel_rfl))
  f228:=Tryz.func176.trans (congrArg some (by kernel_rfl))
  f266:=Tryz.func194.trans (congrArg some (by kernel_rfl))
  t0:=Tryz.underlying0
  a0:=Tryz.isAgg0
  z0:=Tryz.sizeOf0
  v0:=Tryz.zeroValue0
  t3:=Tryz.underlying3
  a3:=Tryz.isAgg3
  z3:=Tryz.sizeOf3
  v3:=Tryz.zeroValue3
  t4:=Tryz.underlying4
  a4:=Tryz.isAgg4
  z4:=Tryz.sizeOf4
  v4:=Tryz.zeroValue4
  t5:=Tryz.underlying5
  a5:=Tryz.isAgg5
  z5:=Tryz.sizeOf5
  v5:=Tryz.zeroValue5
  t9:=Tryz.underlying9
  a9:=Tryz.isAgg9
  z9:=Tryz.sizeOf9
  v9:=Tryz.zeroValue9
  t21:=Tryz.underlying21
  a21:=Tryz.isAgg21
  z21:=Tryz.sizeOf21
  v21:=Tryz.zeroValue21
  t46:=Tryz.underlying229
  a46:=Tryz.isAgg229
  z46:=Tryz.sizeOf229
  v46:=Tryz.zeroValue229
  t116:=Tryz.underlying221
  a116:=Tryz.isAgg221
  z116:=Tryz.sizeOf221
  t117:=Tryz.underlying222
  a117:=Tryz.isAgg222
  z117:=Tryz.sizeOf222
  v117:=Tryz.zeroValue222
  t124:=Tryz.underlying225
  a124:=Tryz.isAgg225
  z124:=Tryz.sizeOf225
  v124:=Tryz.zeroValue225}
open Go.RowKit Go.Lib in
theorem Tryz.strings_IndexAny_long(hv116:∀w,(zeroValue 221).run Tryz.prog w= .ok (.agg (Array.replicate 256 (.bool false))) w)(s chars:ByteArray)(w:World)(h2:2≤chars.size)(h8:8<s.size)(hs:s.size<4294967281)(hcs:chars.size<4294967281)(hascii:∀(j:Nat) b,chars.data.toList[j]? =some b->b.toNat<128):
    Calls Tryz.prog 147 #[.string s,.string chars] w λe w'=>e= .returned (.int .i64 (Lib.indexAny s.data.toList chars.data.toList))∧w'=((w.alloc (.cells (Lib.setCells chars.data.toList) 221)).alloc (.cells (Lib.setCells chars.data.toList) 221)):=Any.strings_IndexAny_long Tryz.lays153 hv116 (by kernel_rfl) s chars w h2 h8 hs hcs hascii
def Tryz.lays105_ren:Go.Shelf.Ren:=⟨λ |105=>134|212=>167|99=>148|165=>168|166=>133|170=>135|169=>136|263=>190|264=>191|206=>121|240=>166|241=>192|276=>189|277=>202|n=>n,λ |9=>9|3=>3|4=>4|20=>20|0=>0|46=>229|109=>230|5=>5|72=>196|76=>129|51=>244|146=>254|53=>184|148=>256|70=>193|37=>194|75=>128|127=>233|164=>252|80=>200|n=>n,λ |n=>n⟩
theorem Tryz.lays105:Go.Proofs.Lays.n105 Tryz.prog Tryz.lays105_ren:={
  mixed:=by kernel_rfl
  f99:=Tryz.func148.trans (congrArg some (by kernel_rfl))
  f105:=Tryz.func134.trans (congrArg some (by kernel_rfl))
  f165:=Tryz.func168.trans (congrArg some (by kernel_rfl))
  f166:=Tryz.func133.trans (congrArg some (by kernel_rfl))
  f169:=Tryz.func136.trans (congrArg some (by kernel_rfl))
  f170:=Tryz.func135.trans (congrArg some (by kernel_rfl))
  f206:=Tryz.func121.trans (congrArg some (by kernel_rfl))
  f212:=Tryz.func167.trans (congrArg some (by kernel_rfl))
  f240:=Tryz.func166.trans (congrArg some (by kernel_rfl))
  f241:=Tryz.func192.trans (congrArg some (by kernel_rfl))
  f263:=Tryz.func190.trans (congrArg some (by kernel_rfl))
  f264:=Tryz.func191.trans (congrArg some (by kernel_rfl))
  f276:=Tryz.func189.trans (congrArg some (by kernel_rfl))
  f277:=Tryz.func202.trans (congrArg some (by kernel_rfl))
  t0:=Tryz.underlying0
  a0:=Tryz.isAgg0
  z0:=Tryz.sizeOf0
  v0:=Tryz.zeroValue0
  t3:=Tryz.underlying3
  a3:=Tryz.isAgg3
  z3:=Tryz.sizeOf3
  v3:=Tryz.zeroValue3
  t4:=Tryz.underlying4
  a4:=Tryz.isAgg4
  z4:=Tryz.sizeOf4
  v4:=Tryz.zeroValue4
  t5:=Tryz.underlying5
  a5:=Tryz.isAgg5
  z5:=Tryz.sizeOf5
  v5:=Tryz.zeroValue5
  t9:=Tryz.underlying9
  a9:=Tryz.isAgg9
  z9:=Tryz.sizeOf9
  v9:=Tryz.zeroValue9
  t20:=Tryz.underlying20
  a20:=Tryz.isAgg20
  z20:=Tryz.sizeOf20
  v20:=Tryz.zeroValue20
  t37:=Tryz.underlying194
  a37:=Tryz.isAgg194
  z37:=Tryz.sizeOf194
  v37:=Tryz.zeroValue194
  t46:=Tryz.underlying229
  a46:=Tryz.isAgg229
  z46:=Tryz.sizeOf229
  v46:=Tryz.zeroValue229
  t51:=Tryz.underlying244
  a51:=Tryz.isAgg244
  z51:=Tryz.sizeOf244
  v51:=Tryz.zeroValue244
  t53:=Tryz.underlying184
  a53:=Tryz.isAgg184
  z53:=Tryz.sizeOf184
  v53:=Tryz.zeroValue184
  t70:=Tryz.underlying193
  a70:=Tryz.isAgg193
  z70:=Tryz.sizeOf193
  v70:=Tryz.zeroValue193
  t72:=Tryz.underlying196
  a72:=Tryz.isAgg196
  z72:=Tryz.sizeOf196
  v72:=Tryz.zeroValue196
  t75:=Tryz.underlying128
  a75:=Tryz.isAgg128
  z75:=Tryz.sizeOf128
  v75:=Tryz.zeroValue128
  t76:=Tryz.underlying129
  a76:=Tryz.isAgg129
  z76:=Tryz.sizeOf129
  v76:=Tryz.zeroValue129
  t109:=Tryz.underlying230
  a109:=Tryz.isAgg230
  z109:=Tryz.sizeOf230
  v109:=Tryz.zeroValue230
  t127:=Tryz.underlying233
  a127:=Tryz.isAgg233
  z127:=Tryz.sizeOf233
  v127:=Tryz.zeroValue233
  t146:=Tryz.underlying254
  a146:=Tryz.isAgg254
  z146:=Tryz.sizeOf254
  v146:=Tryz.zeroValue254
  t148:=Tryz.underlying256
  a148:=Tryz.isAgg256
  z148:=Tryz.sizeOf256
  v148:=Tryz.zeroValue256
  t164:=Tryz.underlying252
  a164:=Tryz.isAgg252
  z164:=Tryz.sizeOf252
  v164:=Tryz.zeroValue252}
theorem Tryz.Builder_Extra_105:Builder.Extra Tryz.prog Tryz.lays105_ren:={
  sizeBuilder:=by kernel_rfl
  liesBuilder:=by kernel_rfl
  t5:=Tryz.underlying5
  a5:=Tryz.isAgg5
  z5:=Tryz.sizeOf5
  v5:=Tryz.zeroValue5
  infoByte:=by kernel_rfl
  cellsByte:=by kernel_rfl
  sizeByte:=by kernel_rfl
  neB5:=by decide}
open Go.RowKit Go.Lib in
theorem Tryz.strings_Repeat_main(s:ByteArray)(c:Nat)(w:World)(hc2:2≤c)(hc:c≤9223372036854775807)(hlen:s.size*c≤140737488355328)(h0:0<s.size):
    Calls Tryz.prog 134 #[.string s,.int .i64 c] w λe w'=>e= .returned (.string ⟨(Lib.repeatL s.data.toList c).toArray⟩)∧Below w.heap.size w w':=Any.strings_Repeat_main Tryz.lays105 Tryz.Builder_Extra_105 s c w hc2 hc hlen h0
open Go.RowKit Go.Lib in
theorem Tryz.strings_Repeat_zero(s:ByteArray)(w:World):
    Calls Tryz.prog 134 #[.string s,.int .i64 0] w λe w'=>e= .returned (.string ⟨#[]⟩)∧w'=w:=Any.strings_Repeat_zero Tryz.lays105 s w
open Go.RowKit Go.Lib in
theorem Tryz.strings_Repeat_one(s:ByteArray)(w:World):
    Calls Tryz.prog 134 #[.string s,.int .i64 1] w λe w'=>e= .returned (.string s)∧w'=w:=Any.strings_Repeat_one Tryz.lays105 s w
def Tryz.lays107_ren:Go.Shelf.Ren:=⟨λ |107=>172|108=>193|n=>n,λ |28=>38|3=>3|4=>4|0=>0|n=>n,λ |n=>n⟩
theorem Tryz.lays107:Go.Proofs.Lays.n107 Tryz.prog Tryz.lays107_ren:={
  mixed:=by kernel_rfl
  f107:=Tryz.func172.trans (congrArg some (by kernel_rfl))
  f108:=Tryz.func193.trans (congrArg some (by kernel_rfl))
  t0:=Tryz.underlying0
  a0:=Tryz.isAgg0
  z0:=Tryz.sizeOf0
  v0:=Tryz.zeroValue0
  t3:=Tryz.underlying3
  a3:=Tryz.isAgg3
  z3:=Tryz.sizeOf3
  v3:=Tryz.zeroValue3
  t4:=Tryz.underlying4
  a4:=Tryz.isAgg4
  z4:=Tryz.sizeOf4
  v4:=Tryz.zeroValue4
  t28:=Tryz.underlying38
  a28:=Tryz.isAgg38
  z28:=Tryz.sizeOf38
  v28:=Tryz.zeroValue38}
open Go.Lib in
theorem Tryz.slices_Contains_int(b off n c:Nat)(zs:List Int)(x:Int)(w:World)(hz:n≤zs.length)(hbig:n≤9223372036854775807)(hc:∀j,j<zs.length->w.cell? ⟨b,off+j,none⟩=some (.int .i64 (zs.getD j 0))):
    Calls Tryz.prog 172 #[.slice (some ⟨b,off,none⟩) n c,.int .i64 x] w λe w'=>e= .returned (.bool ((zs.take n).contains x))∧w'=w:=Any.slices_Contains_int Tryz.lays107 b off n c zs x w hz hbig hc
open Go.Lib in
theorem Tryz.slices_Contains_int_empty(a:Option Addr)(c:Nat)(x:Int)(w:World):
    Calls Tryz.prog 172 #[.slice a 0 c,.int .i64 x] w λe w'=>e= .returned (.bool false)∧w'=w:=Any.slices_Contains_int_empty Tryz.lays107 a c x w
def Tryz.lays110_ren:Go.Shelf.Ren:=⟨λ |110=>43|109=>79|n=>n,λ |31=>61|9=>9|4=>4|3=>3|0=>0|n=>n,λ |n=>n⟩
theorem Tryz.lays110:Go.Proofs.Lays.n110 Tryz.prog Tryz.lays110_ren:={
  mixed:=by kernel_rfl
  f109:=Tryz.func79.trans (congrArg some (by kernel_rfl))
  f110:=Tryz.func43.trans (congrArg some (by kernel_rfl))
  t0:=Tryz.underlying0
  a0:=Tryz.isAgg0
  z0:=Tryz.sizeOf0
  v0:=Tryz.zeroValue0
  t3:=Tryz.underlying3
  a3:=Tryz.isAgg3
  z3:=Tryz.sizeOf3
  v3:=Tryz.zeroValue3
  t4:=Tryz.underlying4
  a4:=Tryz.isAgg4
  z4:=Tryz.sizeOf4
  v4:=Tryz.zeroValue4
  t9:=Tryz.underlying9
  a9:=Tryz.isAgg9
  z9:=Tryz.sizeOf9
  v9:=Tryz.zeroValue9
  t31:=Tryz.underlying61
  a31:=Tryz.isAgg61
  z31:=Tryz.sizeOf61
  v31:=Tryz.zeroValue61}
open Go.Lib in
theorem Tryz.slices_Contains_string(b off n c:Nat)(zs:List ByteArray)(x:ByteArray)(w:World)(hz:n≤zs.length)(hbig:n≤9223372036854775807)(hc:∀j,j<zs.length->w.cell? ⟨b,off+j,none⟩=some (.string (zs.getD j ByteArray.empty))):
    Calls Tryz.prog 43 #[.slice (some ⟨b,off,none⟩) n c,.string x] w λe w'=>e= .returned (.bool (Lib.containsS (zs.take n) x))∧w'=w:=Any.slices_Contains_string Tryz.lays110 b off n c zs x w hz hbig hc
open Go.Lib in
theorem Tryz.slices_Contains_string_empty(a:Option Addr)(c:Nat)(x:ByteArray)(w:World):
    Calls Tryz.prog 43 #[.slice a 0 c,.string x] w λe w'=>e= .returned (.bool false)∧w'=w:=Any.slices_Contains_string_empty Tryz.lays110 a c x w
end Go.Proofs
