/- The contracts of Go's library that the walks use, laid at this program by the kit's tool; those that nothing here uses are left out. -/
import Derived.Shelf.Strings.Builder1
import Derived.Shelf.Small.Utf8
import Derived.Shelf.Small.Bits
import Derived.Shelf.Small.Strs
import Derived.Shelf.Small.Wraps
import Derived.Shelf.Strings.BuilderF
import Derived.Shelf.Strings.BuilderK
import Derived.Shelf.Strconv.Atoi
import Derived.Shelf.Strconv.Itoa0
import Derived.Shelf.Strconv.Itoa1
import Derived.Shelf.LaysM
import Derived.Shelf.Strconv.Itoa2
import Derived.Shelf.Strconv.Itoa3
import Derived.Shelf.Strconv.AtoiErrFast
import Derived.Shelf.Strconv.ParseIntEmpty
import Derived.Shelf.Strconv.AtoiFail
import Derived.Shelf.Strconv.Clone
import Derived.Shelf.Strconv.SyntaxError
import Derived.Shelf.LaysC
import Derived.Shelf.Strconv.ToError
import Derived.Shelf.Strconv.Lower
import Derived.Shelf.Strconv.ParseUint10
import Derived.Shelf.Strconv.ParseUint10Empty
import Derived.Shelf.Strconv.ParseUint10Any
import Derived.Shelf.Strconv.ParseInt10
import Derived.Shelf.Strconv.AtoiLong
import Derived.Shelf.Strconv.AtoiInnerAll
import Derived.Shelf.Strconv.RangeError
import Derived.Shelf.Strconv.ToErrorRange
import Derived.Shelf.Strconv.AtoiAll
import Derived.Shelf.Strings.Search1
import Derived.Shelf.Sort.Plain
import Derived.Shelf.Strconv.AppendUint10
import Derived.Shelf.Strconv.AppendInt10
import Derived.Shelf.Strconv.AppendIntPublic10
import Derived.Shelf.Strings.Prefix
import Derived.Shelf.Strings.Runes
import Derived.Shelf.Strings.IndexAny
import Derived.Shelf.Strings.AsciiSet
import Derived.Shelf.Strings.IndexAnyAll
import Derived.Shelf.Strings.BuilderCap
import Derived.Shelf.Slices.Turned
import Derived.Shelf.Slices.Equal
import Derived.Ground.Names2Prog
import Derived.Shelf.Slices.Clone
import Derived.Shelf.Slices.CompactI
import Derived.Shelf.Slices.SearchI
import Derived.Shelf.Slices.Cells
import Derived.Shelf.Slices.In.SortNone
import Derived.Shelf.Slices.Empties2
import Derived.Ground.SlgnProg
import Derived.Shelf.SlicesE.Equal
import Derived.Shelf.SlicesE.Compact
import Derived.Ground.SlgfProg
import Derived.Shelf.SlicesE.IndexFunc
import Derived.Shelf.SlicesE.DeleteFunc
import Derived.Test.YtonmdbdopchkaaaGreatDoorProg
set_option linter.all false
namespace Go.Proofs
open Go.Shelf
def Tryz.lays169_ren:Go.Shelf.Ren:=⟨λ |169=>33|n=>n,λ |70=>66|9=>9|0=>0|72=>69|37=>67|127=>121|3=>3|5=>5|n=>n,λ |n=>n⟩
theorem Tryz.lays169:Go.Proofs.Lays.n169 Tryz.prog Tryz.lays169_ren:={
  mixed:=by kernel_rfl
  f169:=Tryz.func33.trans (congrArg some (by kernel_rfl))
  t0:=Tryz.underlying0
  a0:=Tryz.isAgg0
  z0:=Tryz.sizeOf0
  v0:=Tryz.zeroValue0
  t3:=Tryz.underlying3
  a3:=Tryz.isAgg3
  z3:=Tryz.sizeOf3
  v3:=Tryz.zeroValue3
  t9:=Tryz.underlying9
  a9:=Tryz.isAgg9
  z9:=Tryz.sizeOf9
  v9:=Tryz.zeroValue9
  t37:=Tryz.underlying67
  a37:=Tryz.isAgg67
  z37:=Tryz.sizeOf67
  v37:=Tryz.zeroValue67
  t70:=Tryz.underlying66
  a70:=Tryz.isAgg66
  z70:=Tryz.sizeOf66
  v70:=Tryz.zeroValue66
  t72:=Tryz.underlying69
  a72:=Tryz.isAgg69
  z72:=Tryz.sizeOf69
  v72:=Tryz.zeroValue69
  t127:=Tryz.underlying121
  a127:=Tryz.isAgg121
  z127:=Tryz.sizeOf121
  v127:=Tryz.zeroValue121}
theorem Tryz.Builder_Extra_169:Builder.Extra Tryz.prog Tryz.lays169_ren:={
  sizeBuilder:=by kernel_rfl
  liesBuilder:=by kernel_rfl
  t5:=Tryz.underlying5
  a5:=Tryz.isAgg5
  z5:=Tryz.sizeOf5
  v5:=Tryz.zeroValue5
  infoByte:=by kernel_rfl
  cellsByte:=by kernel_rfl
  sizeByte:=by kernel_rfl
  neB5:=by decide}
def Tryz.lays119_ren:Go.Shelf.Ren:=⟨λ |119=>175|n=>n,λ |21=>21|4=>4|n=>n,λ |n=>n⟩
theorem Tryz.lays119:Go.Proofs.Lays.n119 Tryz.prog Tryz.lays119_ren:={
  mixed:=by kernel_rfl
  f119:=Tryz.func175.trans (congrArg some (by kernel_rfl))
  t4:=Tryz.underlying4
  a4:=Tryz.isAgg4
  z4:=Tryz.sizeOf4
  v4:=Tryz.zeroValue4
  t21:=Tryz.underlying21
  a21:=Tryz.isAgg21
  z21:=Tryz.sizeOf21
  v21:=Tryz.zeroValue21}
theorem Tryz.utf8_ValidRune(r:Int)(w:World):
    Calls Tryz.prog 175 #[.int .i32 r] w λe w'=>e= .returned (.bool (Lib.validRune r))∧w'=w:=Any.utf8_ValidRune Tryz.lays119 r w
def Tryz.lays137_ren:Go.Shelf.Ren:=⟨λ |137=>153|217=>160|266=>169|n=>n,λ |9=>9|5=>5|3=>3|n=>n,λ |n=>n⟩
theorem Tryz.lays137:Go.Proofs.Lays.n137 Tryz.prog Tryz.lays137_ren:={
  mixed:=by kernel_rfl
  f137:=Tryz.func153.trans (congrArg some (by kernel_rfl))
  f217:=Tryz.func160.trans (congrArg some (by kernel_rfl))
  f266:=Tryz.func169.trans (congrArg some (by kernel_rfl))
  t3:=Tryz.underlying3
  a3:=Tryz.isAgg3
  z3:=Tryz.sizeOf3
  v3:=Tryz.zeroValue3
  t5:=Tryz.underlying5
  a5:=Tryz.isAgg5
  z5:=Tryz.sizeOf5
  v5:=Tryz.zeroValue5
  t9:=Tryz.underlying9
  a9:=Tryz.isAgg9
  z9:=Tryz.sizeOf9
  v9:=Tryz.zeroValue9}
open Go.RowKit in
theorem Tryz.strings_IndexByte(s:ByteArray)(c:Int)(w:World):
    Calls Tryz.prog 153 #[.string s,.int .u8 c] w λe w'=>e= .returned (.int .i64 (Lib.indexByte s.data.toList c.toNat.toUInt8))∧w'=w:=Any.strings_IndexByte Tryz.lays137 s c w
open Go.RowKit in
theorem Tryz.Builder_String_any_f(B b:Nat)(l:List UInt8)(w:World)(h:Lib.IsBuilderF 69 5 B b (Lib.byteCells l) w)(hBw:B≤w.heap.size):
    Calls Tryz.prog 33 #[.pointer (some ⟨b,0,none⟩)] w λe w'=>e= .returned (.string ⟨l.toArray⟩)∧(Lib.IsBuilderF 69 5 B b (Lib.byteCells l) w'∧Below B w w'):=Any.Builder_String_any_f Tryz.lays169 Tryz.Builder_Extra_169 B b l w h hBw
def Tryz.lays172_ren:Go.Shelf.Ren:=⟨λ |172=>154|244=>161|245=>162|247=>170|279=>171|280=>172|281=>173|282=>174|287=>178|316=>179|171=>32|205=>180|321=>181|322=>182|243=>77|246=>107|283=>128|284=>129|285=>130|286=>131|129=>122|317=>145|318=>146|319=>147|320=>148|337=>157|338=>158|n=>n,λ |9=>9|3=>3|75=>117|76=>118|4=>4|5=>5|167=>204|37=>67|0=>0|85=>205|2=>2|168=>207|53=>155|175=>212|46=>132|210=>216|127=>121|145=>221|143=>219|21=>21|171=>164|173=>166|212=>184|51=>153|20=>20|213=>185|232=>201|233=>202|80=>72|n=>n,λ |15=>4|16=>5|17=>0|18=>1|19=>2|n=>n⟩
theorem Tryz.lays172:Go.Proofs.Lays.n172 Tryz.prog Tryz.lays172_ren:={
  mixed:=by kernel_rfl
  f129:=Tryz.func122.trans (congrArg some (by kernel_rfl))
  f171:=Tryz.func32.trans (congrArg some (by kernel_rfl))
  f172:=Tryz.func154.trans (congrArg some (by kernel_rfl))
  f205:=Tryz.func180.trans (congrArg some (by kernel_rfl))
  f243:=Tryz.func77.trans (congrArg some (by kernel_rfl))
  f244:=Tryz.func161.trans (congrArg some (by kernel_rfl))
  f245:=Tryz.func162.trans (congrArg some (by kernel_rfl))
  f246:=Tryz.func107.trans (congrArg some (by kernel_rfl))
  f247:=Tryz.func170.trans (congrArg some (by kernel_rfl))
  f279:=Tryz.func171.trans (congrArg some (by kernel_rfl))
  f280:=Tryz.func172.trans (congrArg some (by kernel_rfl))
  f281:=Tryz.func173.trans (congrArg some (by kernel_rfl))
  f282:=Tryz.func174.trans (congrArg some (by kernel_rfl))
  f283:=Tryz.func128.trans (congrArg some (by kernel_rfl))
  f284:=Tryz.func129.trans (congrArg some (by kernel_rfl))
  f285:=Tryz.func130.trans (congrArg some (by kernel_rfl))
  f286:=Tryz.func131.trans (congrArg some (by kernel_rfl))
  f287:=Tryz.func178.trans (congrArg some (by kernel_rfl))
  f316:=Tryz.func179.trans (congrArg some (by kernel_rfl))
  f317:=Tryz.func145.trans (congrArg some (by kernel_rfl))
  f318:=Tryz.func146.trans (congrArg some (by kernel_rfl))
  f319:=Tryz.func147.trans (congrArg some (by kernel_rfl))
  f320:=Tryz.func148.trans (congrArg some (by kernel_rfl))
  f321:=Tryz.func181.trans (congrArg some (by kernel_rfl))
  f322:=Tryz.func182.trans (congrArg some (by kernel_rfl))
  f337:=Tryz.func157.trans (congrArg some (by kernel_rfl))
  f338:=Tryz.func158.trans (congrArg some (by kernel_rfl))
  t0:=Tryz.underlying0
  a0:=Tryz.isAgg0
  z0:=Tryz.sizeOf0
  v0:=Tryz.zeroValue0
  t2:=Tryz.underlying2
  a2:=Tryz.isAgg2
  z2:=Tryz.sizeOf2
  v2:=Tryz.zeroValue2
  t3:=Tryz.underlying3
  a3:=Tryz.isAgg3
  z3:=Tryz.sizeOf3
  v3:=Tryz.zeroValue3
  t4:=Tryz.underlying4
  a4:=Tryz.isAgg4
  z4:=Tryz.sizeOf4
  v4:=Tryz.zeroValue4
  t5:=Tryz.underlying5
  a5:=Tryz.isAgg5
  z5:=Tryz.sizeOf5
  v5:=Tryz.zeroValue5
  t9:=Tryz.underlying9
  a9:=Tryz.isAgg9
  z9:=Tryz.sizeOf9
  v9:=Tryz.zeroValue9
  t20:=Tryz.underlying20
  a20:=Tryz.isAgg20
  z20:=Tryz.sizeOf20
  v20:=Tryz.zeroValue20
  t21:=Tryz.underlying21
  a21:=Tryz.isAgg21
  z21:=Tryz.sizeOf21
  v21:=Tryz.zeroValue21
  t37:=Tryz.underlying67
  a37:=Tryz.isAgg67
  z37:=Tryz.sizeOf67
  v37:=Tryz.zeroValue67
  t46:=Tryz.underlying132
  a46:=Tryz.isAgg132
  z46:=Tryz.sizeOf132
  v46:=Tryz.zeroValue132
  t51:=Tryz.underlying153
  a51:=Tryz.isAgg153
  z51:=Tryz.sizeOf153
  v51:=Tryz.zeroValue153
  t53:=Tryz.underlying155
  a53:=Tryz.isAgg155
  z53:=Tryz.sizeOf155
  v53:=Tryz.zeroValue155
  t75:=Tryz.underlying117
  a75:=Tryz.isAgg117
  z75:=Tryz.sizeOf117
  v75:=Tryz.zeroValue117
  t76:=Tryz.underlying118
  a76:=Tryz.isAgg118
  z76:=Tryz.sizeOf118
  v76:=Tryz.zeroValue118
  t85:=Tryz.underlying205
  a85:=Tryz.isAgg205
  z85:=Tryz.sizeOf205
  v85:=Tryz.zeroValue205
  t127:=Tryz.underlying121
  a127:=Tryz.isAgg121
  z127:=Tryz.sizeOf121
  v127:=Tryz.zeroValue121
  t143:=Tryz.underlying219
  a143:=Tryz.isAgg219
  z143:=Tryz.sizeOf219
  v143:=Tryz.zeroValue219
  t145:=Tryz.underlying221
  a145:=Tryz.isAgg221
  z145:=Tryz.sizeOf221
  v145:=Tryz.zeroValue221
  t167:=Tryz.underlying204
  a167:=Tryz.isAgg204
  z167:=Tryz.sizeOf204
  v167:=Tryz.zeroValue204
  t168:=Tryz.underlying207
  a168:=Tryz.isAgg207
  z168:=Tryz.sizeOf207
  v168:=Tryz.zeroValue207
  t171:=Tryz.underlying164
  a171:=Tryz.isAgg164
  z171:=Tryz.sizeOf164
  v171:=Tryz.zeroValue164
  t173:=Tryz.underlying166
  a173:=Tryz.isAgg166
  z173:=Tryz.sizeOf166
  v173:=Tryz.zeroValue166
  t175:=Tryz.underlying212
  a175:=Tryz.isAgg212
  z175:=Tryz.sizeOf212
  v175:=Tryz.zeroValue212
  t210:=Tryz.underlying216
  a210:=Tryz.isAgg216
  z210:=Tryz.sizeOf216
  v210:=Tryz.zeroValue216
  t212:=Tryz.underlying184
  a212:=Tryz.isAgg184
  z212:=Tryz.sizeOf184
  v212:=Tryz.zeroValue184
  t213:=Tryz.underlying185
  a213:=Tryz.isAgg185
  z213:=Tryz.sizeOf185
  t232:=Tryz.underlying201
  a232:=Tryz.isAgg201
  z232:=Tryz.sizeOf201
  v232:=Tryz.zeroValue201
  t233:=Tryz.underlying202
  a233:=Tryz.isAgg202
  z233:=Tryz.sizeOf202
  v233:=Tryz.zeroValue202
  g15:=by kernel_rfl
  g16:=by kernel_rfl
  g17:=by kernel_rfl
  g18:=by kernel_rfl
  g19:=by kernel_rfl}
open Go.RowKit in
theorem Tryz.strconv_Atoi(s:ByteArray)(n:Int)(hl:s.size≤18)(h:Lib.atoi s.data.toList=some n)(w:World):
    Calls Tryz.prog 154 #[.string s] w λe w'=>e= .returned (.tuple #[.int .i64 n,.nilIface])∧∃t,w'=Lib.bytesWorld w 5 t:=Any.strconv_Atoi Tryz.lays172 s n hl h w
def Tryz.laysM171_ren:Go.Shelf.Ren:=⟨λ |171=>32|243=>77|246=>107|283=>128|284=>129|285=>130|286=>131|129=>122|317=>145|318=>146|319=>147|320=>148|337=>157|338=>158|n=>n,λ |3=>3|9=>9|2=>2|4=>4|171=>164|0=>0|53=>155|37=>67|5=>5|173=>166|212=>184|51=>153|20=>20|213=>185|46=>132|232=>201|233=>202|n=>n,λ |17=>0|18=>1|19=>2|n=>n⟩
theorem Tryz.laysM171:Go.Proofs.LaysM.n171 Tryz.prog Tryz.laysM171_ren:={
  mixed:=by kernel_rfl
  f129:=Tryz.func122.trans (congrArg some (by kernel_rfl))
  f171:=Tryz.func32.trans (congrArg some (by kernel_rfl))
  f243:=Tryz.func77.trans (congrArg some (by kernel_rfl))
  f246:=Tryz.func107.trans (congrArg some (by kernel_rfl))
  f283:=Tryz.func128.trans (congrArg some (by kernel_rfl))
  f284:=Tryz.func129.trans (congrArg some (by kernel_rfl))
  f285:=Tryz.func130.trans (congrArg some (by kernel_rfl))
  f286:=Tryz.func131.trans (congrArg some (by kernel_rfl))
  f317:=Tryz.func145.trans (congrArg some (by kernel_rfl))
  f318:=Tryz.func146.trans (congrArg some (by kernel_rfl))
  f319:=Tryz.func147.trans (congrArg some (by kernel_rfl))
  f320:=Tryz.func148.trans (congrArg some (by kernel_rfl))
  f337:=Tryz.func157.trans (congrArg some (by kernel_rfl))
  f338:=Tryz.func158.trans (congrArg some (by kernel_rfl))
  t0:=Tryz.underlying0
  a0:=Tryz.isAgg0
  z0:=Tryz.sizeOf0
  v0:=Tryz.zeroValue0
  t2:=Tryz.underlying2
  a2:=Tryz.isAgg2
  z2:=Tryz.sizeOf2
  v2:=Tryz.zeroValue2
  t3:=Tryz.underlying3
  a3:=Tryz.isAgg3
  z3:=Tryz.sizeOf3
  v3:=Tryz.zeroValue3
  t4:=Tryz.underlying4
  a4:=Tryz.isAgg4
  z4:=Tryz.sizeOf4
  v4:=Tryz.zeroValue4
  t5:=Tryz.underlying5
  a5:=Tryz.isAgg5
  z5:=Tryz.sizeOf5
  v5:=Tryz.zeroValue5
  t9:=Tryz.underlying9
  a9:=Tryz.isAgg9
  z9:=Tryz.sizeOf9
  v9:=Tryz.zeroValue9
  t20:=Tryz.underlying20
  a20:=Tryz.isAgg20
  z20:=Tryz.sizeOf20
  v20:=Tryz.zeroValue20
  t37:=Tryz.underlying67
  a37:=Tryz.isAgg67
  z37:=Tryz.sizeOf67
  v37:=Tryz.zeroValue67
  t46:=Tryz.underlying132
  a46:=Tryz.isAgg132
  z46:=Tryz.sizeOf132
  v46:=Tryz.zeroValue132
  t51:=Tryz.underlying153
  a51:=Tryz.isAgg153
  z51:=Tryz.sizeOf153
  v51:=Tryz.zeroValue153
  t53:=Tryz.underlying155
  a53:=Tryz.isAgg155
  z53:=Tryz.sizeOf155
  v53:=Tryz.zeroValue155
  t171:=Tryz.underlying164
  a171:=Tryz.isAgg164
  z171:=Tryz.sizeOf164
  v171:=Tryz.zeroValue164
  t173:=Tryz.underlying166
  a173:=Tryz.isAgg166
  z173:=Tryz.sizeOf166
  v173:=Tryz.zeroValue166
  t212:=Tryz.underlying184
  a212:=Tryz.isAgg184
  z212:=Tryz.sizeOf184
  v212:=Tryz.zeroValue184
  t213:=Tryz.underlying185
  a213:=Tryz.isAgg185
  z213:=Tryz.sizeOf185
  t232:=Tryz.underlying201
  a232:=Tryz.isAgg201
  z232:=Tryz.sizeOf201
  v232:=Tryz.zeroValue201
  t233:=Tryz.underlying202
  a233:=Tryz.isAgg202
  z233:=Tryz.sizeOf202
  v233:=Tryz.zeroValue202
  g17:=by kernel_rfl
  g18:=by kernel_rfl
  g19:=by kernel_rfl
  i0:=by kernel_rfl
  i2:=by kernel_rfl
  i3:=by kernel_rfl
  i4:=by kernel_rfl
  i5:=by kernel_rfl
  i9:=by kernel_rfl
  i20:=by kernel_rfl
  i37:=by kernel_rfl
  i46:=by kernel_rfl
  i51:=by kernel_rfl
  i53:=by kernel_rfl
  i171:=by kernel_rfl
  i173:=by kernel_rfl
  i212:=by kernel_rfl
  i232:=by kernel_rfl
  i233:=by kernel_rfl
  m17:=by kernel_rfl
  m18:=by kernel_rfl
  m19:=by kernel_rfl}
open Go.RowKit Go.Sort Go.Lib in
theorem Tryz.strconv_Itoa(n:Int)(h0: -9223372036854775808≤n)(h1:n≤9223372036854775807)(w:World)(htab:Lib.TabIs Tryz.prog w "internal/strconv.uint64pow10" .u64 Lib.pow10Tab):
    Calls Tryz.prog 32 #[.int .i64 n] w λe w'=>e= .returned (.string ⟨(Lib.itoa n).toArray⟩)∧∃k os,w'=grow (w.drewN k) os:=Any.strconv_Itoa Tryz.laysM171 n h0 h1 w htab
def Tryz.lays189_ren:Go.Shelf.Ren:=⟨λ |189=>45|125=>94|257=>93|128=>121|129=>122|294=>112|295=>113|296=>114|297=>115|298=>116|299=>117|216=>118|300=>119|301=>120|328=>134|329=>135|330=>136|331=>137|332=>138|215=>139|343=>149|n=>n,λ |28=>31|3=>3|46=>132|0=>0|51=>153|53=>155|4=>4|183=>146|182=>145|131=>73|5=>5|9=>9|218=>168|222=>172|228=>186|229=>136|n=>n,λ |n=>n⟩
theorem Tryz.lays189:Go.Proofs.Lays.n189 Tryz.prog Tryz.lays189_ren:={
  mixed:=by kernel_rfl
  f125:=Tryz.func94.trans (congrArg some (by kernel_rfl))
  f128:=Tryz.func121.trans (congrArg some (by kernel_rfl))
  f129:=Tryz.func122.trans (congrArg some (by kernel_rfl))
  f189:=Tryz.func45.trans (congrArg some (by kernel_rfl))
  f215:=Tryz.func139.trans (congrArg some (by kernel_rfl))
  f216:=Tryz.func118.trans (congrArg some (by kernel_rfl))
  f257:=Tryz.func93.trans (congrArg some (by kernel_rfl))
  f294:=Tryz.func112.trans (congrArg some (by kernel_rfl))
  f295:=Tryz.func113.trans (congrArg some (by kernel_rfl))
  f296:=Tryz.func114.trans (congrArg some (by kernel_rfl))
  f297:=Tryz.func115.trans (congrArg some (by kernel_rfl))
  f298:=Tryz.func116.trans (congrArg some (by kernel_rfl))
  f299:=Tryz.func117.trans (congrArg some (by kernel_rfl))
  f300:=Tryz.func119.trans (congrArg some (by kernel_rfl))
  f301:=Tryz.func120.trans (congrArg some (by kernel_rfl))
  f328:=Tryz.func134.trans (congrArg some (by kernel_rfl))
  f329:=Tryz.func135.trans (congrArg some (by kernel_rfl))
  f330:=Tryz.func136.trans (congrArg some (by kernel_rfl))
  f331:=Tryz.func137.trans (congrArg some (by kernel_rfl))
  f332:=Tryz.func138.trans (congrArg some (by kernel_rfl))
  f343:=Tryz.func149.trans (congrArg some (by kernel_rfl))
  t0:=Tryz.underlying0
  a0:=Tryz.isAgg0
  z0:=Tryz.sizeOf0
  v0:=Tryz.zeroValue0
  t3:=Tryz.underlying3
  a3:=Tryz.isAgg3
  z3:=Tryz.sizeOf3
  v3:=Tryz.zeroValue3
  t4:=Tryz.underlying4
  a4:=Tryz.isAgg4
  z4:=Tryz.sizeOf4
  v4:=Tryz.zeroValue4
  t5:=Tryz.underlying5
  a5:=Tryz.isAgg5
  z5:=Tryz.sizeOf5
  v5:=Tryz.zeroValue5
  t9:=Tryz.underlying9
  a9:=Tryz.isAgg9
  z9:=Tryz.sizeOf9
  v9:=Tryz.zeroValue9
  t28:=Tryz.underlying31
  a28:=Tryz.isAgg31
  z28:=Tryz.sizeOf31
  v28:=Tryz.zeroValue31
  t46:=Tryz.underlying132
  a46:=Tryz.isAgg132
  z46:=Tryz.sizeOf132
  v46:=Tryz.zeroValue132
  t51:=Tryz.underlying153
  a51:=Tryz.isAgg153
  z51:=Tryz.sizeOf153
  v51:=Tryz.zeroValue153
  t53:=Tryz.underlying155
  a53:=Tryz.isAgg155
  z53:=Tryz.sizeOf155
  v53:=Tryz.zeroValue155
  t131:=Tryz.underlying73
  a131:=Tryz.isAgg73
  z131:=Tryz.sizeOf73
  v131:=Tryz.zeroValue73
  t182:=Tryz.underlying145
  a182:=Tryz.isAgg145
  z182:=Tryz.sizeOf145
  v182:=Tryz.zeroValue145
  t183:=Tryz.underlying146
  a183:=Tryz.isAgg146
  z183:=Tryz.sizeOf146
  v183:=Tryz.zeroValue146
  t218:=Tryz.underlying168
  a218:=Tryz.isAgg168
  z218:=Tryz.sizeOf168
  v218:=Tryz.zeroValue168
  t222:=Tryz.underlying172
  a222:=Tryz.isAgg172
  z222:=Tryz.sizeOf172
  v222:=Tryz.zeroValue172
  t228:=Tryz.underlying186
  a228:=Tryz.isAgg186
  z228:=Tryz.sizeOf186
  v228:=Tryz.zeroValue186
  t229:=Tryz.underlying136
  a229:=Tryz.isAgg136
  z229:=Tryz.sizeOf136
  v229:=Tryz.zeroValue136}
open Go.Sort Go.RowKit in
theorem Tryz.slices_Sort_int(blk off cap:Nat)(zs:List Int)(w:World)(hH:Holds (Value.int .i64) w blk off zs.toArray)(hblk:blk<w.heap.size)(hsz:zs.length<4611686018427387904):
    Calls Tryz.prog 45 #[.slice (some ⟨blk,off,none⟩) zs.length cap] w λe w'=>
      e= .returned (.tuple #[])∧∃n os,w'=grow (putRow (Value.int .i64) (Sort.ahead w n) blk off (zs.mergeSort λx y=>decide (x≤y)).toArray) os:=Any.slices_Sort_int Tryz.lays189 blk off cap zs w hH hblk hsz
def Tryz.laysM176_ren:Go.Shelf.Ren:=⟨λ |176=>105|249=>126|288=>144|283=>128|284=>129|285=>130|286=>131|129=>122|317=>145|318=>146|319=>147|320=>148|337=>157|338=>158|n=>n,λ |37=>67|2=>2|3=>3|53=>155|4=>4|9=>9|171=>164|0=>0|173=>166|212=>184|51=>153|5=>5|20=>20|213=>185|46=>132|232=>201|233=>202|n=>n,λ |17=>0|18=>1|19=>2|n=>n⟩
theorem Tryz.laysM176:Go.Proofs.LaysM.n176 Tryz.prog Tryz.laysM176_ren:={
  mixed:=by kernel_rfl
  f129:=Tryz.func122.trans (congrArg some (by kernel_rfl))
  f176:=Tryz.func105.trans (congrArg some (by kernel_rfl))
  f249:=Tryz.func126.trans (congrArg some (by kernel_rfl))
  f283:=Tryz.func128.trans (congrArg some (by kernel_rfl))
  f284:=Tryz.func129.trans (congrArg some (by kernel_rfl))
  f285:=Tryz.func130.trans (congrArg some (by kernel_rfl))
  f286:=Tryz.func131.trans (congrArg some (by kernel_rfl))
  f288:=Tryz.func144.trans (congrArg some (by kernel_rfl))
  f317:=Tryz.func145.trans (congrArg some (by kernel_rfl))
  f318:=Tryz.func146.trans (congrArg some (by kernel_rfl))
  f319:=Tryz.func147.trans (congrArg some (by kernel_rfl))
  f320:=Tryz.func148.trans (congrArg some (by kernel_rfl))
  f337:=Tryz.func157.trans (congrArg some (by kernel_rfl))
  f338:=Tryz.func158.trans (congrArg some (by kernel_rfl))
  t0:=Tryz.underlying0
  a0:=Tryz.isAgg0
  z0:=Tryz.sizeOf0
  v0:=Tryz.zeroValue0
  t2:=Tryz.underlying2
  a2:=Tryz.isAgg2
  z2:=Tryz.sizeOf2
  v2:=Tryz.zeroValue2
  t3:=Tryz.underlying3
  a3:=Tryz.isAgg3
  z3:=Tryz.sizeOf3
  v3:=Tryz.zeroValue3
  t4:=Tryz.underlying4
  a4:=Tryz.isAgg4
  z4:=Tryz.sizeOf4
  v4:=Tryz.zeroValue4
  t5:=Tryz.underlying5
  a5:=Tryz.isAgg5
  z5:=Tryz.sizeOf5
  v5:=Tryz.zeroValue5
  t9:=Tryz.underlying9
  a9:=Tryz.isAgg9
  z9:=Tryz.sizeOf9
  v9:=Tryz.zeroValue9
  t20:=Tryz.underlying20
  a20:=Tryz.isAgg20
  z20:=Tryz.sizeOf20
  v20:=Tryz.zeroValue20
  t37:=Tryz.underlying67
  a37:=Tryz.isAgg67
  z37:=Tryz.sizeOf67
  v37:=Tryz.zeroValue67
  t46:=Tryz.underlying132
  a46:=Tryz.isAgg132
  z46:=Tryz.sizeOf132
  v46:=Tryz.zeroValue132
  t51:=Tryz.underlying153
  a51:=Tryz.isAgg153
  z51:=Tryz.sizeOf153
  v51:=Tryz.zeroValue153
  t53:=Tryz.underlying155
  a53:=Tryz.isAgg155
  z53:=Tryz.sizeOf155
  v53:=Tryz.zeroValue155
  t171:=Tryz.underlying164
  a171:=Tryz.isAgg164
  z171:=Tryz.sizeOf164
  v171:=Tryz.zeroValue164
  t173:=Tryz.underlying166
  a173:=Tryz.isAgg166
  z173:=Tryz.sizeOf166
  v173:=Tryz.zeroValue166
  t212:=Tryz.underlying184
  a212:=Tryz.isAgg184
  z212:=Tryz.sizeOf184
  v212:=Tryz.zeroValue184
  t213:=Tryz.underlying185
  a213:=Tryz.isAgg185
  z213:=Tryz.sizeOf185
  t232:=Tryz.underlying201
  a232:=Tryz.isAgg201
  z232:=Tryz.sizeOf201
  v232:=Tryz.zeroValue201
  t233:=Tryz.underlying202
  a233:=Tryz.isAgg202
  z233:=Tryz.sizeOf202
  v233:=Tryz.zeroValue202
  g17:=by kernel_rfl
  g18:=by kernel_rfl
  g19:=by kernel_rfl
  i0:=by kernel_rfl
  i2:=by kernel_rfl
  i3:=by kernel_rfl
  i4:=by kernel_rfl
  i5:=by kernel_rfl
  i9:=by kernel_rfl
  i20:=by kernel_rfl
  i37:=by kernel_rfl
  i46:=by kernel_rfl
  i51:=by kernel_rfl
  i53:=by kernel_rfl
  i171:=by kernel_rfl
  i173:=by kernel_rfl
  i212:=by kernel_rfl
  i232:=by kernel_rfl
  i233:=by kernel_rfl
  m17:=by kernel_rfl
  m18:=by kernel_rfl
  m19:=by kernel_rfl}
open Go.RowKit Go.Sort Go.Lib in
theorem Tryz.strconv_AppendInt_10(B n:Nat)(i:Int)(h0: -9223372036854775808≤i)(h1:i≤9223372036854775807)(sv:Value)(xs:List Value)(w:World)(hown:w.ownsRow B 5 1 sv n xs)(hBw:B≤w.heap.size)(hlim:n+21≤140737488355328)(htab:Lib.TabBelow Tryz.prog B w "internal/strconv.uint64pow10" .u64 Lib.pow10Tab):
    Calls Tryz.prog 105 #[sv,.int .i64 i,.int .i64 10] w λe w'=>∃v',e= .returned v'∧w'.ownsRow B 5 1 v' (n+(Lib.itoa i).length) (xs++Lib.byteCells (Lib.itoa i))∧Below B w w'∧Lib.OthersKept 5 none w w':=Any.strconv_AppendInt_10 Tryz.laysM176 B n i h0 h1 sv xs w hown hBw hlim htab
def Tryz.lays99_ren:Go.Shelf.Ren:=⟨λ |99=>156|206=>167|n=>n,λ |9=>9|4=>4|3=>3|n=>n,λ |n=>n⟩
theorem Tryz.lays99:Go.Proofs.Lays.n99 Tryz.prog Tryz.lays99_ren:={
  mixed:=by kernel_rfl
  f99:=Tryz.func156.trans (congrArg some (by kernel_rfl))
  f206:=Tryz.func167.trans (congrArg some (by kernel_rfl))
  t3:=Tryz.underlying3
  a3:=Tryz.isAgg3
  z3:=Tryz.sizeOf3
  v3:=Tryz.zeroValue3
  t4:=Tryz.underlying4
  a4:=Tryz.isAgg4
  z4:=Tryz.sizeOf4
  v4:=Tryz.zeroValue4
  t9:=Tryz.underlying9
  a9:=Tryz.isAgg9
  z9:=Tryz.sizeOf9
  v9:=Tryz.zeroValue9}
open Go.RowKit Go.Lib in
theorem Tryz.strings_HasPrefix(s p:ByteArray)(w:World):
    Calls Tryz.prog 156 #[.string s,.string p] w λe w'=>e= .returned (.bool (Lib.hasPrefix s.data.toList p.data.toList))∧w'=w:=Any.strings_HasPrefix Tryz.lays99 s p w
def Tryz.lays152_ren:Go.Shelf.Ren:=⟨λ |152=>163|137=>153|119=>175|224=>176|225=>177|217=>160|266=>169|n=>n,λ |9=>9|21=>21|3=>3|4=>4|5=>5|0=>0|46=>132|n=>n,λ |n=>n⟩
theorem Tryz.lays152:Go.Proofs.Lays.n152 Tryz.prog Tryz.lays152_ren:={
  mixed:=by kernel_rfl
  f119:=Tryz.func175.trans (congrArg some (by kernel_rfl))
  f137:=Tryz.func153.trans (congrArg some (by kernel_rfl))
  f152:=Tryz.func163.trans (congrArg some (by kernel_rfl))
  f217:=Tryz.func160.trans (congrArg some (by kernel_rfl))
  f224:=Tryz.func176.trans (congrArg some (by kernel_rfl))
  f225:=Tryz.func177.trans (congrArg some (by kernel_rfl))
  f266:=Tryz.func169.trans (congrArg some (by kernel_rfl))
  t0:=Tryz.underlying0
  a0:=Tryz.isAgg0
  z0:=Tryz.sizeOf0
  v0:=Tryz.zeroValue0
  t3:=Tryz.underlying3
  a3:=Tryz.isAgg3
  z3:=Tryz.sizeOf3
  v3:=Tryz.zeroValue3
  t4:=Tryz.underlying4
  a4:=Tryz.isAgg4
  z4:=Tryz.sizeOf4
  v4:=Tryz.zeroValue4
  t5:=Tryz.underlying5
  a5:=Tryz.isAgg5
  z5:=Tryz.sizeOf5
  v5:=Tryz.zeroValue5
  t9:=Tryz.underlying9
  a9:=Tryz.isAgg9
  z9:=Tryz.sizeOf9
  v9:=Tryz.zeroValue9
  t21:=Tryz.underlying21
  a21:=Tryz.isAgg21
  z21:=Tryz.sizeOf21
  v21:=Tryz.zeroValue21
  t46:=Tryz.underlying132
  a46:=Tryz.isAgg132
  z46:=Tryz.sizeOf132
  v46:=Tryz.zeroValue132}
open Go.RowKit Go.Lib in
theorem Tryz.strings_IndexRune_ascii(s:ByteArray)(r:Int)(w:World)(h0:0≤r)(h1:r<128):
    Calls Tryz.prog 163 #[.string s,.int .i32 r] w λe w'=>e= .returned (.int .i64 (Lib.indexByte s.data.toList r.toNat.toUInt8))∧w'=w:=Any.strings_IndexRune_ascii Tryz.lays152 s r w h0 h1
def Tryz.lays226_ren:Go.Shelf.Ren:=⟨λ |226=>164|n=>n,λ |3=>3|4=>4|n=>n,λ |n=>n⟩
theorem Tryz.lays226:Go.Proofs.Lays.n226 Tryz.prog Tryz.lays226_ren:={
  mixed:=by kernel_rfl
  f226:=Tryz.func164.trans (congrArg some (by kernel_rfl))
  t3:=Tryz.underlying3
  a3:=Tryz.isAgg3
  z3:=Tryz.sizeOf3
  v3:=Tryz.zeroValue3
  t4:=Tryz.underlying4
  a4:=Tryz.isAgg4
  z4:=Tryz.sizeOf4
  v4:=Tryz.zeroValue4}
open Go.RowKit Go.Lib in
theorem Tryz.strings_shouldUseASCIISet(n:Int)(w:World):
    Calls Tryz.prog 164 #[.int .i64 n] w λe w'=>e= .returned (.bool (decide (8<n)))∧w'=w:=Any.strings_shouldUseASCIISet Tryz.lays226 n w
def Tryz.lays153_ren:Go.Shelf.Ren:=⟨λ |153=>155|152=>163|226=>164|227=>165|228=>166|137=>153|119=>175|224=>176|225=>177|217=>160|266=>169|n=>n,λ |9=>9|3=>3|4=>4|5=>5|21=>21|117=>199|116=>198|0=>0|46=>132|124=>211|n=>n,λ |n=>n⟩
theorem Tryz.lays153:Go.Proofs.Lays.n153 Tryz.prog Tryz.lays153_ren:={
  mixed:=by kernel_rfl
  f119:=Tryz.func175.trans (congrArg some (by kernel_rfl))
  f137:=Tryz.func153.trans (congrArg some (by kernel_rfl))
  f152:=Tryz.func163.trans (congrArg some (by kernel_rfl))
  f153:=Tryz.func155.trans (congrArg some (by kernel_rfl))
  f217:=Tryz.func160.trans (congrArg some (by kernel_rfl))
  f224:=Tryz.func176.trans (congrArg some (by kernel_rfl))
  f225:=Tryz.func177.trans (congrArg some (by kernel_rfl))
  f226:=Tryz.func164.trans (congrArg some (by kernel_rfl))
  f227:=Tryz.func165.trans (congrArg some (by kernel_rfl))
  f228:=Tryz.func166.trans (congrArg some (by kernel_rfl))
  f266:=Tryz.func169.trans (congrArg some (by kernel_rfl))
  t0:=Tryz.underlying0
  a0:=Tryz.isAgg0
  z0:=Tryz.sizeOf0
  v0:=Tryz.zeroValue0
  t3:=Tryz.underlying3
  a3:=Tryz.isAgg3
  z3:=Tryz.sizeOf3
  v3:=Tryz.zeroValue3
  t4:=Tryz.underlying4
  a4:=Tryz.isAgg4
  z4:=Tryz.sizeOf4
  v4:=Tryz.zeroValue4
  t5:=Tryz.underlying5
  a5:=Tryz.isAgg5
  z5:=Tryz.sizeOf5
  v5:=Tryz.zeroValue5
  t9:=Tryz.underlying9
  a9:=Tryz.isAgg9
  z9:=Tryz.sizeOf9
  v9:=Tryz.zeroValue9
  t21:=Tryz.underlying21
  a21:=Tryz.isAgg21
  z21:=Tryz.sizeOf21
  v21:=Tryz.zeroValue21
  t46:=Tryz.underlying132
  a46:=Tryz.isAgg132
  z46:=Tryz.sizeOf132
  v46:=Tryz.zeroValue132
  t116:=Tryz.underlying198
  a116:=Tryz.isAgg198
  z116:=Tryz.sizeOf198
  t117:=Tryz.underlying199
  a117:=Tryz.isAgg199
  z117:=Tryz.sizeOf199
  v117:=Tryz.zeroValue199
  t124:=Tryz.underlying211
  a124:=Tryz.isAgg211
  z124:=Tryz.sizeOf211
  v124:=Tryz.zeroValue211}
open Go.RowKit Go.Lib in
theorem Tryz.strings_IndexAny_long(hv116:∀w,(zeroValue 198).run Tryz.prog w= .ok (.agg (Array.replicate 256 (.bool false))) w)(s chars:ByteArray)(w:World)(h2:2≤chars.size)(h8:8<s.size)(hs:s.size<4294967281)(hcs:chars.size<4294967281)(hascii:∀(j:Nat) b,chars.data.toList[j]? =some b->b.toNat<128):
    Calls Tryz.prog 155 #[.string s,.string chars] w λe w'=>e= .returned (.int .i64 (Lib.indexAny s.data.toList chars.data.toList))∧w'=((w.alloc (.cells (Lib.setCells chars.data.toList) 198)).alloc (.cells (Lib.setCells chars.data.toList) 198)):=Any.strings_IndexAny_long Tryz.lays153 hv116 (by kernel_rfl) s chars w h2 h8 hs hcs hascii
def Tryz.lays107_ren:Go.Shelf.Ren:=⟨λ |107=>159|108=>168|n=>n,λ |28=>31|3=>3|4=>4|0=>0|n=>n,λ |n=>n⟩
theorem Tryz.lays107:Go.Proofs.Lays.n107 Tryz.prog Tryz.lays107_ren:={
  mixed:=by kernel_rfl
  f107:=Tryz.func159.trans (congrArg some (by kernel_rfl))
  f108:=Tryz.func168.trans (congrArg some (by kernel_rfl))
  t0:=Tryz.underlying0
  a0:=Tryz.isAgg0
  z0:=Tryz.sizeOf0
  v0:=Tryz.zeroValue0
  t3:=Tryz.underlying3
  a3:=Tryz.isAgg3
  z3:=Tryz.sizeOf3
  v3:=Tryz.zeroValue3
  t4:=Tryz.underlying4
  a4:=Tryz.isAgg4
  z4:=Tryz.sizeOf4
  v4:=Tryz.zeroValue4
  t28:=Tryz.underlying31
  a28:=Tryz.isAgg31
  z28:=Tryz.sizeOf31
  v28:=Tryz.zeroValue31}
open Go.Lib in
theorem Tryz.slices_Contains_int(b off n c:Nat)(zs:List Int)(x:Int)(w:World)(hz:n≤zs.length)(hbig:n≤9223372036854775807)(hc:∀j,j<zs.length->w.cell? ⟨b,off+j,none⟩=some (.int .i64 (zs.getD j 0))):
    Calls Tryz.prog 159 #[.slice (some ⟨b,off,none⟩) n c,.int .i64 x] w λe w'=>e= .returned (.bool ((zs.take n).contains x))∧w'=w:=Any.slices_Contains_int Tryz.lays107 b off n c zs x w hz hbig hc
open Go.Lib in
theorem Tryz.slices_Contains_int_empty(a:Option Addr)(c:Nat)(x:Int)(w:World):
    Calls Tryz.prog 159 #[.slice a 0 c,.int .i64 x] w λe w'=>e= .returned (.bool false)∧w'=w:=Any.slices_Contains_int_empty Tryz.lays107 a c x w
def Tryz.lays110_ren:Go.Shelf.Ren:=⟨λ |110=>125|109=>143|n=>n,λ |31=>80|9=>9|4=>4|3=>3|0=>0|n=>n,λ |n=>n⟩
theorem Tryz.lays110:Go.Proofs.Lays.n110 Tryz.prog Tryz.lays110_ren:={
  mixed:=by kernel_rfl
  f109:=Tryz.func143.trans (congrArg some (by kernel_rfl))
  f110:=Tryz.func125.trans (congrArg some (by kernel_rfl))
  t0:=Tryz.underlying0
  a0:=Tryz.isAgg0
  z0:=Tryz.sizeOf0
  v0:=Tryz.zeroValue0
  t3:=Tryz.underlying3
  a3:=Tryz.isAgg3
  z3:=Tryz.sizeOf3
  v3:=Tryz.zeroValue3
  t4:=Tryz.underlying4
  a4:=Tryz.isAgg4
  z4:=Tryz.sizeOf4
  v4:=Tryz.zeroValue4
  t9:=Tryz.underlying9
  a9:=Tryz.isAgg9
  z9:=Tryz.sizeOf9
  v9:=Tryz.zeroValue9
  t31:=Tryz.underlying80
  a31:=Tryz.isAgg80
  z31:=Tryz.sizeOf80
  v31:=Tryz.zeroValue80}
open Go.Lib in
theorem Tryz.slices_Contains_string(b off n c:Nat)(zs:List ByteArray)(x:ByteArray)(w:World)(hz:n≤zs.length)(hbig:n≤9223372036854775807)(hc:∀j,j<zs.length->w.cell? ⟨b,off+j,none⟩=some (.string (zs.getD j ByteArray.empty))):
    Calls Tryz.prog 125 #[.slice (some ⟨b,off,none⟩) n c,.string x] w λe w'=>e= .returned (.bool (Lib.containsS (zs.take n) x))∧w'=w:=Any.slices_Contains_string Tryz.lays110 b off n c zs x w hz hbig hc
def Tryz.lays111_ren:Go.Shelf.Ren:=⟨λ |111=>63|n=>n,λ |28=>31|3=>3|4=>4|0=>0|n=>n,λ |n=>n⟩
theorem Tryz.lays111:Go.Proofs.Lays.n111 Tryz.prog Tryz.lays111_ren:={
  mixed:=by kernel_rfl
  f111:=Tryz.func63.trans (congrArg some (by kernel_rfl))
  t0:=Tryz.underlying0
  a0:=Tryz.isAgg0
  z0:=Tryz.sizeOf0
  v0:=Tryz.zeroValue0
  t3:=Tryz.underlying3
  a3:=Tryz.isAgg3
  z3:=Tryz.sizeOf3
  v3:=Tryz.zeroValue3
  t4:=Tryz.underlying4
  a4:=Tryz.isAgg4
  z4:=Tryz.sizeOf4
  v4:=Tryz.zeroValue4
  t28:=Tryz.underlying31
  a28:=Tryz.isAgg31
  z28:=Tryz.sizeOf31
  v28:=Tryz.zeroValue31}
open Go.RowKit Go.Lib in
theorem Tryz.slices_Equal_int(b1 o1 n c b2 o2 m d:Nat)(xs ys:List Int)(w:World)(hx:n≤xs.length)(hy:m≤ys.length)(hbig:n≤9223372036854775807)(hbig2:m≤9223372036854775807)(hc1:∀j,j<xs.length->w.cell? ⟨b1,o1+j,none⟩=some (.int .i64 (xs.getD j 0)))(hc2:∀j,j<ys.length->w.cell? ⟨b2,o2+j,none⟩=some (.int .i64 (ys.getD j 0))):
    Calls Tryz.prog 63 #[.slice (some ⟨b1,o1,none⟩) n c,.slice (some ⟨b2,o2,none⟩) m d] w λe w'=>e= .returned (.bool (xs.take n==ys.take m))∧∃q,w'=w.drewN q:=Any.slices_Equal_int Tryz.lays111 b1 o1 n c b2 o2 m d xs ys w hx hy hbig hbig2 hc1 hc2
open Go.RowKit Go.Lib in
theorem Tryz.slices_Equal_int_empty(a1 a2:Option Addr)(c m d:Nat)(w:World)(hbig2:m≤9223372036854775807):
    Calls Tryz.prog 63 #[.slice a1 0 c,.slice a2 m d] w λe w'=>e= .returned (.bool (decide (m=0)))∧w'=w:=Any.slices_Equal_int_empty Tryz.lays111 a1 a2 c m d w hbig2
def Tryz.laysNm215_ren:Go.Shelf.Ren:=⟨λ |15=>84|n=>n,λ |22=>31|3=>3|4=>4|n=>n,λ |n=>n⟩
theorem Tryz.laysNm215:Go.Proofs.Lays2.n15 Tryz.prog Tryz.laysNm215_ren:={
  mixed:=by kernel_rfl
  f15:=Tryz.func84.trans (congrArg some (by kernel_rfl))
  t3:=Tryz.underlying3
  a3:=Tryz.isAgg3
  z3:=Tryz.sizeOf3
  v3:=Tryz.zeroValue3
  t4:=Tryz.underlying4
  a4:=Tryz.isAgg4
  z4:=Tryz.sizeOf4
  v4:=Tryz.zeroValue4
  t22:=Tryz.underlying31
  a22:=Tryz.isAgg31
  z22:=Tryz.sizeOf31
  v22:=Tryz.zeroValue31
  i3:=by kernel_rfl}
open Go.RowKit Go.Lib in
theorem Tryz.slices_Clone_int(b off n c:Nat)(zs:List Int)(w:World)(hz:n≤zs.length)(hbig:n*8≤140737488355328)(hc:∀j,j<zs.length->w.cell? ⟨b,off+j,none⟩=some (.int .i64 (zs.getD j 0))):
    Calls Tryz.prog 84 #[.slice (some ⟨b,off,none⟩) n c] w λe w'=>∃v',e= .returned v'∧w'.ownsRow w.heap.size 3 1 v' n ((zs.take n).map (Value.int .i64))∧v'≠ .slice none 0 0∧Below w.heap.size w w':=Any.slices_Clone_int Tryz.laysNm215 b off n c zs w hz hbig hc
open Go.RowKit Go.Lib in
theorem Tryz.slices_Clone_int_nil(n c:Nat)(w:World):
    Calls Tryz.prog 84 #[.slice none n c] w λe w'=>e= .returned (.slice none 0 0)∧w'=w:=Any.slices_Clone_int_nil Tryz.laysNm215 n c w
open Go.RowKit Go.Lib in
theorem Tryz.slices_Clone_int_zero(a:Addr)(c:Nat)(w:World):
    Calls Tryz.prog 84 #[.slice (some a) 0 c] w λe w'=>∃v',e= .returned v'∧w'.ownsRow w.heap.size 3 1 v' 0 []∧v'≠ .slice none 0 0∧Below w.heap.size w w':=Any.slices_Clone_int_zero Tryz.laysNm215 a c w
def Tryz.laysNm220_ren:Go.Shelf.Ren:=⟨λ |20=>46|n=>n,λ |22=>31|3=>3|4=>4|0=>0|n=>n,λ |n=>n⟩
theorem Tryz.laysNm220:Go.Proofs.Lays2.n20 Tryz.prog Tryz.laysNm220_ren:={
  mixed:=by kernel_rfl
  f20:=Tryz.func46.trans (congrArg some (by kernel_rfl))
  t0:=Tryz.underlying0
  a0:=Tryz.isAgg0
  z0:=Tryz.sizeOf0
  v0:=Tryz.zeroValue0
  t3:=Tryz.underlying3
  a3:=Tryz.isAgg3
  z3:=Tryz.sizeOf3
  v3:=Tryz.zeroValue3
  t4:=Tryz.underlying4
  a4:=Tryz.isAgg4
  z4:=Tryz.sizeOf4
  v4:=Tryz.zeroValue4
  t22:=Tryz.underlying31
  a22:=Tryz.isAgg31
  z22:=Tryz.sizeOf31
  v22:=Tryz.zeroValue31
  i3:=by kernel_rfl}
open Go.RowKit Go.Lib Go.Sort in
theorem Tryz.slices_Compact_int(blk off cap:Nat)(zs:List Int)(w:World)(hH:Holds (Value.int .i64) w blk off zs.toArray)(hsz:zs.length≤9223372036854775807)(hcap:zs.length≤cap):
    Calls Tryz.prog 46 #[.slice (some ⟨blk,off,none⟩) zs.length cap] w λe w'=>e= .returned (.slice (some ⟨blk,off,none⟩) (Lib.compact zs).length cap)∧∃q,w'=putRow (Value.int .i64) (Sort.ahead w q) blk off (Lib.compact zs++List.replicate (zs.length-(Lib.compact zs).length) 0).toArray :=Any.slices_Compact_int Tryz.laysNm220 blk off cap zs w hH hsz hcap
open Go.RowKit Go.Lib in
theorem Tryz.slices_Equal_int_lens(a1 a2:Option Addr)(n c m d:Nat)(w:World)(hnm:n≠m):
    Calls Tryz.prog 63 #[.slice a1 n c,.slice a2 m d] w λe w'=>e= .returned (.bool false)∧w'=w:=Any.slices_Equal_int_lens Tryz.lays111 a1 a2 n c m d w hnm
def Tryz.laysSlH10_f79_ren:Go.Shelf.Ren:=⟨λ |10=>79|6=>50|n=>n,λ |22=>31|23=>3|25=>98|3=>3|4=>4|0=>0|n=>n,λ |n=>n⟩
theorem Tryz.laysSlH10_f79:Go.Proofs.SlLaysH.n10 Tryz.prog Tryz.laysSlH10_f79_ren:={
  mixed:=by kernel_rfl
  f6:=⟨Tryz.f50.name,by decide,Tryz.func50.trans (congrArg some (by kernel_rfl))⟩
  f10:=⟨Tryz.f79.name,by decide,Tryz.func79.trans (congrArg some (by kernel_rfl))⟩
  t0:=Tryz.underlying0
  a0:=Tryz.isAgg0
  z0:=Tryz.sizeOf0
  v0:=Tryz.zeroValue0
  t3:=Tryz.underlying3
  a3:=Tryz.isAgg3
  z3:=Tryz.sizeOf3
  v3:=Tryz.zeroValue3
  t4:=Tryz.underlying4
  a4:=Tryz.isAgg4
  z4:=Tryz.sizeOf4
  v4:=Tryz.zeroValue4
  t22:=Tryz.underlying31
  a22:=Tryz.isAgg31
  z22:=Tryz.sizeOf31
  v22:=Tryz.zeroValue31
  a23:=Tryz.isAgg3
  z23:=Tryz.sizeOf3
  t25:=Tryz.underlying98
  a25:=Tryz.isAgg98
  z25:=Tryz.sizeOf98
  v25:=Tryz.zeroValue98}
open Go.RowKit Go.Lib Go.Sort in
theorem Tryz.slices_DeleteFunc{α:Type}[Inhabited α](enc:α->Value)(hO:OneCell enc)(p:α->Bool)(g:Nat)(lb:Array Value)(eg:∀args w,(callFunc g args).run Tryz.prog w= .ok (.enter g args) w)(zr:α)(v23:∀w,(zeroValue 3).run Tryz.prog w= .ok (enc zr) w)(blk off cap:Nat)(d:Array α)(w:World)(hp:PredAt Tryz.prog g lb enc p w)(hpo:PredOver Tryz.prog g lb enc p blk off d.size w)(hH:Holds enc w blk off d)(hsz:d.size≤9223372036854775807)(hcap:d.size≤cap):
    Calls Tryz.prog 79 #[.slice (some ⟨blk,off,none⟩) d.size cap,.func (.func g) #[] lb] w λe w'=>e= .returned (.slice (some ⟨blk,off,none⟩) (d.toList.filter λx=> !p x).length cap)∧∃q,w'=putRow enc (Sort.ahead w q) blk off ((d.toList.filter λx=> !p x)++List.replicate (d.size-(d.toList.filter λx=> !p x).length) zr).toArray :=AnyE.slices_DeleteFunc Tryz.laysSlH10_f79 enc hO p g lb eg zr v23 blk off cap d w hp hpo hH hsz hcap
end Go.Proofs
