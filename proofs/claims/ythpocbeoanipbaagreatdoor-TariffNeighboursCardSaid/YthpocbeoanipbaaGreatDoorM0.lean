/- The contracts of Go's library that the walks use, laid at this program by the kit's tool; those that nothing here uses are left out. -/
import Derived.Shelf.Strings.Builder1
import Derived.Shelf.Strings.Builder2
import Derived.Shelf.Strings.OnBuilder
import Derived.Shelf.Small.Utf8
import Derived.Shelf.Small.Bits
import Derived.Shelf.Small.Strs
import Derived.Shelf.Small.Wraps
import Derived.Shelf.Strings.BuilderF
import Derived.Shelf.Strings.BuilderK
import Derived.Shelf.Strings.Builder2Cap
import Derived.Shelf.Strconv.Atoi
import Derived.Shelf.Strconv.Itoa0
import Derived.Shelf.Strconv.Itoa1
import Derived.Shelf.LaysM
import Derived.Shelf.Strconv.Itoa2
import Derived.Shelf.Strconv.Itoa3
import Derived.Shelf.Strconv.AtoiErrFast
import Derived.Shelf.Strconv.ParseIntEmpty
import Derived.Shelf.Strconv.AtoiFail
import Derived.Shelf.Strconv.Clone
import Derived.Shelf.Strconv.SyntaxError
import Derived.Shelf.LaysC
import Derived.Shelf.Strconv.ToError
import Derived.Shelf.Strconv.Lower
import Derived.Shelf.Strconv.ParseUint10
import Derived.Shelf.Strconv.ParseUint10Empty
import Derived.Shelf.Strconv.ParseUint10Any
import Derived.Shelf.Strconv.ParseInt10
import Derived.Shelf.Strconv.AtoiLong
import Derived.Shelf.Strconv.AtoiInnerAll
import Derived.Shelf.Strconv.RangeError
import Derived.Shelf.Strconv.ToErrorRange
import Derived.Shelf.Strconv.AtoiAll
import Derived.Shelf.Strings.Search1
import Derived.Shelf.Sort.Plain
import Derived.Shelf.Strconv.AppendUint10
import Derived.Shelf.Strconv.AppendInt10
import Derived.Shelf.Strconv.AppendIntPublic10
import Derived.Shelf.Strings.Prefix
import Derived.Shelf.Strings.Runes
import Derived.Shelf.Strings.IndexAny
import Derived.Shelf.Strings.AsciiSet
import Derived.Shelf.Strings.IndexAnyAll
import Derived.Shelf.Strings.BuilderCap
import Derived.Shelf.Slices.Turned
import Derived.Shelf.Slices.Equal
import Derived.Ground.Names2Prog
import Derived.Shelf.Slices.Clone
import Derived.Shelf.Slices.CompactI
import Derived.Shelf.Slices.SearchI
import Derived.Shelf.Slices.Cells
import Derived.Shelf.Slices.In.SortNone
import Derived.Shelf.Slices.Empties2
import Derived.Ground.SlgnProg
import Derived.Shelf.SlicesE.Equal
import Derived.Shelf.SlicesE.Compact
import Derived.Ground.SlgfProg
import Derived.Shelf.SlicesE.IndexFunc
import Derived.Shelf.SlicesE.DeleteFunc
import Derived.Test.YthpocbeoanipbaaGreatDoorProg
set_option linter.all false
namespace Go.Proofs
open Go.Shelf
theorem zcg{α:Type}{a b:α}(h:a=b:=by kernel_rfl):some a=some b:=congrArg some h
def Tryz.lays169_ren:Go.Shelf.Ren:=⟨λ |169=>56|n=>n,λ |70=>107|9=>9|0=>0|72=>110|37=>108|127=>164|3=>3|5=>5|n=>n,λ |n=>n⟩
theorem Tryz.lays169:Go.Proofs.Lays.n169 Tryz.prog Tryz.lays169_ren:={
  mixed:=by kernel_rfl
  f169:=Tryz.func56.trans zcg
  t0:=Tryz.underlying0
  a0:=Tryz.isAgg0
  z0:=Tryz.sizeOf0
  v0:=Tryz.zeroValue0
  t3:=Tryz.underlying3
  a3:=Tryz.isAgg3
  z3:=Tryz.sizeOf3
  v3:=Tryz.zeroValue3
  t9:=Tryz.underlying9
  a9:=Tryz.isAgg9
  z9:=Tryz.sizeOf9
  v9:=Tryz.zeroValue9
  t37:=Tryz.underlying108
  a37:=Tryz.isAgg108
  z37:=Tryz.sizeOf108
  v37:=Tryz.zeroValue108
  t70:=Tryz.underlying107
  a70:=Tryz.isAgg107
  z70:=Tryz.sizeOf107
  v70:=Tryz.zeroValue107
  t72:=Tryz.underlying110
  a72:=Tryz.isAgg110
  z72:=Tryz.sizeOf110
  v72:=Tryz.zeroValue110
  t127:=Tryz.underlying164
  a127:=Tryz.isAgg164
  z127:=Tryz.sizeOf164
  v127:=Tryz.zeroValue164}
theorem Tryz.Builder_Extra_169:Builder.Extra Tryz.prog Tryz.lays169_ren:={
  sizeBuilder:=by kernel_rfl
  liesBuilder:=by kernel_rfl
  t5:=Tryz.underlying5
  a5:=Tryz.isAgg5
  z5:=Tryz.sizeOf5
  v5:=Tryz.zeroValue5
  infoByte:=by kernel_rfl
  cellsByte:=by kernel_rfl
  sizeByte:=by kernel_rfl
  neB5:=by decide}
def Tryz.lays156_ren:Go.Shelf.Ren:=⟨λ |156=>55|165=>93|166=>52|169=>56|240=>88|241=>128|276=>124|277=>161|n=>n,λ |31=>116|9=>9|3=>3|4=>4|0=>0|20=>20|72=>110|76=>113|70=>107|37=>108|75=>112|127=>164|164=>205|5=>5|80=>57|n=>n,λ |n=>n⟩
theorem Tryz.lays156:Go.Proofs.Lays.n156 Tryz.prog Tryz.lays156_ren:={
  mixed:=by kernel_rfl
  f156:=Tryz.func55.trans zcg
  f165:=Tryz.func93.trans zcg
  f166:=Tryz.func52.trans zcg
  f169:=Tryz.func56.trans zcg
  f240:=Tryz.func88.trans zcg
  f241:=Tryz.func128.trans zcg
  f276:=Tryz.func124.trans zcg
  f277:=Tryz.func161.trans zcg
  t0:=Tryz.underlying0
  a0:=Tryz.isAgg0
  z0:=Tryz.sizeOf0
  v0:=Tryz.zeroValue0
  t3:=Tryz.underlying3
  a3:=Tryz.isAgg3
  z3:=Tryz.sizeOf3
  v3:=Tryz.zeroValue3
  t4:=Tryz.underlying4
  a4:=Tryz.isAgg4
  z4:=Tryz.sizeOf4
  v4:=Tryz.zeroValue4
  t9:=Tryz.underlying9
  a9:=Tryz.isAgg9
  z9:=Tryz.sizeOf9
  v9:=Tryz.zeroValue9
  t20:=Tryz.underlying20
  a20:=Tryz.isAgg20
  z20:=Tryz.sizeOf20
  v20:=Tryz.zeroValue20
  t31:=Tryz.underlying116
  a31:=Tryz.isAgg116
  z31:=Tryz.sizeOf116
  v31:=Tryz.zeroValue116
  t37:=Tryz.underlying108
  a37:=Tryz.isAgg108
  z37:=Tryz.sizeOf108
  v37:=Tryz.zeroValue108
  t70:=Tryz.underlying107
  a70:=Tryz.isAgg107
  z70:=Tryz.sizeOf107
  v70:=Tryz.zeroValue107
  t72:=Tryz.underlying110
  a72:=Tryz.isAgg110
  z72:=Tryz.sizeOf110
  v72:=Tryz.zeroValue110
  t75:=Tryz.underlying112
  a75:=Tryz.isAgg112
  z75:=Tryz.sizeOf112
  v75:=Tryz.zeroValue112
  t76:=Tryz.underlying113
  a76:=Tryz.isAgg113
  z76:=Tryz.sizeOf113
  v76:=Tryz.zeroValue113
  t127:=Tryz.underlying164
  a127:=Tryz.isAgg164
  z127:=Tryz.sizeOf164
  v127:=Tryz.zeroValue164
  t164:=Tryz.underlying205
  a164:=Tryz.isAgg205
  z164:=Tryz.sizeOf205
  v164:=Tryz.zeroValue205}
theorem Tryz.Builder_Extra_156:Builder.Extra Tryz.prog Tryz.lays156_ren:={
  sizeBuilder:=by kernel_rfl
  liesBuilder:=by kernel_rfl
  t5:=Tryz.underlying5
  a5:=Tryz.isAgg5
  z5:=Tryz.sizeOf5
  v5:=Tryz.zeroValue5
  infoByte:=by kernel_rfl
  cellsByte:=by kernel_rfl
  sizeByte:=by kernel_rfl
  neB5:=by decide}
open Go.RowKit in
theorem Tryz.strings_Join(bk o c:Nat)(xs:List ByteArray)(sep:ByteArray)(w:World)(hcells:∀(j:Nat) x,xs[j]? =some x->w.cell? ⟨bk,o+j,none⟩=some (.string x))(hbk:bk<w.heap.size)(hN:xs.length<=140737488355328)(hcap:xs.length<=c)(hlen:(Lib.join (xs.map (·.data.toList)) sep.data.toList).length <=140737488355328):
    Calls Tryz.prog 55 #[.slice (some ⟨bk,o,none⟩) xs.length c,.string sep] w λe w'=>e= .returned (.string ⟨(Lib.join (xs.map (·.data.toList)) sep.data.toList).toArray⟩)/\Below w.heap.size w w':=Any.strings_Join Tryz.lays156 Tryz.Builder_Extra_156 bk o c xs sep w hcells hbk hN hcap hlen
def Tryz.lays119_ren:Go.Shelf.Ren:=⟨λ |119=>182|n=>n,λ |21=>21|4=>4|n=>n,λ |n=>n⟩
theorem Tryz.lays119:Go.Proofs.Lays.n119 Tryz.prog Tryz.lays119_ren:={
  mixed:=by kernel_rfl
  f119:=Tryz.func182.trans zcg
  t4:=Tryz.underlying4
  a4:=Tryz.isAgg4
  z4:=Tryz.sizeOf4
  v4:=Tryz.zeroValue4
  t21:=Tryz.underlying21
  a21:=Tryz.isAgg21
  z21:=Tryz.sizeOf21
  v21:=Tryz.zeroValue21}
theorem Tryz.utf8_ValidRune(r:Int)(w:World):
    Calls Tryz.prog 182 #[.int .i32 r] w λe w'=>e= .returned (.bool (Lib.validRune r))/\w'=w:=Any.utf8_ValidRune Tryz.lays119 r w
def Tryz.lays137_ren:Go.Shelf.Ren:=⟨λ |137=>118|217=>149|266=>176|n=>n,λ |9=>9|5=>5|3=>3|n=>n,λ |n=>n⟩
theorem Tryz.lays137:Go.Proofs.Lays.n137 Tryz.prog Tryz.lays137_ren:={
  mixed:=by kernel_rfl
  f137:=Tryz.func118.trans zcg
  f217:=Tryz.func149.trans zcg
  f266:=Tryz.func176.trans zcg
  t3:=Tryz.underlying3
  a3:=Tryz.isAgg3
  z3:=Tryz.sizeOf3
  v3:=Tryz.zeroValue3
  t5:=Tryz.underlying5
  a5:=Tryz.isAgg5
  z5:=Tryz.sizeOf5
  v5:=Tryz.zeroValue5
  t9:=Tryz.underlying9
  a9:=Tryz.isAgg9
  z9:=Tryz.sizeOf9
  v9:=Tryz.zeroValue9}
open Go.RowKit in
theorem Tryz.strings_IndexByte(s:ByteArray)(c:Int)(w:World):
    Calls Tryz.prog 118 #[.string s,.int .u8 c] w λe w'=>e= .returned (.int .i64 (Lib.indexByte s.data.toList c.toNat.toUInt8))/\w'=w:=Any.strings_IndexByte Tryz.lays137 s c w
open Go.RowKit in
theorem Tryz.Builder_String_any_f(B b:Nat)(l:List UInt8)(w:World)(h:Lib.IsBuilderF 110 5 B b (Lib.byteCells l) w)(hBw:B<=w.heap.size):
    Calls Tryz.prog 56 #[.pointer (some ⟨b,0,none⟩)] w λe w'=>e= .returned (.string ⟨l.toArray⟩)/\(Lib.IsBuilderF 110 5 B b (Lib.byteCells l) w'/\Below B w w'):=Any.Builder_String_any_f Tryz.lays169 Tryz.Builder_Extra_169 B b l w h hBw
def Tryz.lays172_ren:Go.Shelf.Ren:=⟨λ |172=>119|244=>150|245=>151|247=>177|279=>178|280=>179|281=>180|282=>181|287=>198|316=>199|171=>89|205=>200|321=>207|322=>208|243=>125|246=>159|283=>187|284=>188|285=>189|286=>190|129=>173|317=>201|318=>202|319=>203|320=>204|337=>209|338=>210|n=>n,λ |9=>9|3=>3|75=>112|76=>113|4=>4|5=>5|167=>256|37=>108|0=>0|85=>257|2=>2|168=>259|53=>254|175=>274|46=>225|210=>278|127=>164|145=>289|143=>287|21=>21|171=>265|173=>267|212=>281|51=>252|20=>20|213=>282|232=>290|233=>291|80=>57|n=>n,λ |15=>1|16=>2|17=>3|18=>4|19=>5|n=>n⟩
theorem Tryz.lays172:Go.Proofs.Lays.n172 Tryz.prog Tryz.lays172_ren:={
  mixed:=by kernel_rfl
  f129:=Tryz.func173.trans zcg
  f171:=Tryz.func89.trans zcg
  f172:=Tryz.func119.trans zcg
  f205:=Tryz.func200.trans zcg
  f243:=Tryz.func125.trans zcg
  f244:=Tryz.func150.trans zcg
  f245:=Tryz.func151.trans zcg
  f246:=Tryz.func159.trans zcg
  f247:=Tryz.func177.trans zcg
  f279:=Tryz.func178.trans zcg
  f280:=Tryz.func179.trans zcg
  f281:=Tryz.func180.trans zcg
  f282:=Tryz.func181.trans zcg
  f283:=Tryz.func187.trans zcg
  f284:=Tryz.func188.trans zcg
  f285:=Tryz.func189.trans zcg
  f286:=Tryz.func190.trans zcg
  f287:=Tryz.func198.trans zcg
  f316:=Tryz.func199.trans zcg
  f317:=Tryz.func201.trans zcg
  f318:=Tryz.func202.trans zcg
  f319:=Tryz.func203.trans zcg
  f320:=Tryz.func204.trans zcg
  f321:=Tryz.func207.trans zcg
  f322:=Tryz.func208.trans zcg
  f337:=Tryz.func209.trans zcg
  f338:=Tryz.func210.trans zcg
  t0:=Tryz.underlying0
  a0:=Tryz.isAgg0
  z0:=Tryz.sizeOf0
  v0:=Tryz.zeroValue0
  t2:=Tryz.underlying2
  a2:=Tryz.isAgg2
  z2:=Tryz.sizeOf2
  v2:=Tryz.zeroValue2
  t3:=Tryz.underlying3
  a3:=Tryz.isAgg3
  z3:=Tryz.sizeOf3
  v3:=Tryz.zeroValue3
  t4:=Tryz.underlying4
  a4:=Tryz.isAgg4
  z4:=Tryz.sizeOf4
  v4:=Tryz.zeroValue4
  t5:=Tryz.underlying5
  a5:=Tryz.isAgg5
  z5:=Tryz.sizeOf5
  v5:=Tryz.zeroValue5
  t9:=Tryz.underlying9
  a9:=Tryz.isAgg9
  z9:=Tryz.sizeOf9
  v9:=Tryz.zeroValue9
  t20:=Tryz.underlying20
  a20:=Tryz.isAgg20
  z20:=Tryz.sizeOf20
  v20:=Tryz.zeroValue20
  t21:=Tryz.underlying21
  a21:=Tryz.isAgg21
  z21:=Tryz.sizeOf21
  v21:=Tryz.zeroValue21
  t37:=Tryz.underlying108
  a37:=Tryz.isAgg108
  z37:=Tryz.sizeOf108
  v37:=Tryz.zeroValue108
  t46:=Tryz.underlying225
  a46:=Tryz.isAgg225
  z46:=Tryz.sizeOf225
  v46:=Tryz.zeroValue225
  t51:=Tryz.underlying252
  a51:=Tryz.isAgg252
  z51:=Tryz.sizeOf252
  v51:=Tryz.zeroValue252
  t53:=Tryz.underlying254
  a53:=Tryz.isAgg254
  z53:=Tryz.sizeOf254
  v53:=Tryz.zeroValue254
  t75:=Tryz.underlying112
  a75:=Tryz.isAgg112
  z75:=Tryz.sizeOf112
  v75:=Tryz.zeroValue112
  t76:=Tryz.underlying113
  a76:=Tryz.isAgg113
  z76:=Tryz.sizeOf113
  v76:=Tryz.zeroValue113
  t85:=Tryz.underlying257
  a85:=Tryz.isAgg257
  z85:=Tryz.sizeOf257
  v85:=Tryz.zeroValue257
  t127:=Tryz.underlying164
  a127:=Tryz.isAgg164
  z127:=Tryz.sizeOf164
  v127:=Tryz.zeroValue164
  t143:=Tryz.underlying287
  a143:=Tryz.isAgg287
  z143:=Tryz.sizeOf287
  v143:=Tryz.zeroValue287
  t145:=Tryz.underlying289
  a145:=Tryz.isAgg289
  z145:=Tryz.sizeOf289
  v145:=Tryz.zeroValue289
  t167:=Tryz.underlying256
  a167:=Tryz.isAgg256
  z167:=Tryz.sizeOf256
  v167:=Tryz.zeroValue256
  t168:=Tryz.underlying259
  a168:=Tryz.isAgg259
  z168:=Tryz.sizeOf259
  v168:=Tryz.zeroValue259
  t171:=Tryz.underlying265
  a171:=Tryz.isAgg265
  z171:=Tryz.sizeOf265
  v171:=Tryz.zeroValue265
  t173:=Tryz.underlying267
  a173:=Tryz.isAgg267
  z173:=Tryz.sizeOf267
  v173:=Tryz.zeroValue267
  t175:=Tryz.underlying274
  a175:=Tryz.isAgg274
  z175:=Tryz.sizeOf274
  v175:=Tryz.zeroValue274
  t210:=Tryz.underlying278
  a210:=Tryz.isAgg278
  z210:=Tryz.sizeOf278
  v210:=Tryz.zeroValue278
  t212:=Tryz.underlying281
  a212:=Tryz.isAgg281
  z212:=Tryz.sizeOf281
  v212:=Tryz.zeroValue281
  t213:=Tryz.underlying282
  a213:=Tryz.isAgg282
  z213:=Tryz.sizeOf282
  t232:=Tryz.underlying290
  a232:=Tryz.isAgg290
  z232:=Tryz.sizeOf290
  v232:=Tryz.zeroValue290
  t233:=Tryz.underlying291
  a233:=Tryz.isAgg291
  z233:=Tryz.sizeOf291
  v233:=Tryz.zeroValue291
  g15:=by kernel_rfl
  g16:=by kernel_rfl
  g17:=by kernel_rfl
  g18:=by kernel_rfl
  g19:=by kernel_rfl}
open Go.RowKit in
theorem Tryz.strconv_Atoi(s:ByteArray)(n:Int)(hl:s.size<=18)(h:Lib.atoi s.data.toList=some n)(w:World):
    Calls Tryz.prog 119 #[.string s] w λe w'=>e= .returned (.tuple #[.int .i64 n,.nilIface])/\∃t,w'=Lib.bytesWorld w 5 t:=Any.strconv_Atoi Tryz.lays172 s n hl h w
def Tryz.laysM171_ren:Go.Shelf.Ren:=⟨λ |171=>89|243=>125|246=>159|283=>187|284=>188|285=>189|286=>190|129=>173|317=>201|318=>202|319=>203|320=>204|337=>209|338=>210|n=>n,λ |3=>3|9=>9|2=>2|4=>4|171=>265|0=>0|53=>254|37=>108|5=>5|173=>267|212=>281|51=>252|20=>20|213=>282|46=>225|232=>290|233=>291|n=>n,λ |17=>3|18=>4|19=>5|n=>n⟩
theorem Tryz.laysM171:Go.Proofs.LaysM.n171 Tryz.prog Tryz.laysM171_ren:={
  mixed:=by kernel_rfl
  f129:=Tryz.func173.trans zcg
  f171:=Tryz.func89.trans zcg
  f243:=Tryz.func125.trans zcg
  f246:=Tryz.func159.trans zcg
  f283:=Tryz.func187.trans zcg
  f284:=Tryz.func188.trans zcg
  f285:=Tryz.func189.trans zcg
  f286:=Tryz.func190.trans zcg
  f317:=Tryz.func201.trans zcg
  f318:=Tryz.func202.trans zcg
  f319:=Tryz.func203.trans zcg
  f320:=Tryz.func204.trans zcg
  f337:=Tryz.func209.trans zcg
  f338:=Tryz.func210.trans zcg
  t0:=Tryz.underlying0
  a0:=Tryz.isAgg0
  z0:=Tryz.sizeOf0
  v0:=Tryz.zeroValue0
  t2:=Tryz.underlying2
  a2:=Tryz.isAgg2
  z2:=Tryz.sizeOf2
  v2:=Tryz.zeroValue2
  t3:=Tryz.underlying3
  a3:=Tryz.isAgg3
  z3:=Tryz.sizeOf3
  v3:=Tryz.zeroValue3
  t4:=Tryz.underlying4
  a4:=Tryz.isAgg4
  z4:=Tryz.sizeOf4
  v4:=Tryz.zeroValue4
  t5:=Tryz.underlying5
  a5:=Tryz.isAgg5
  z5:=Tryz.sizeOf5
  v5:=Tryz.zeroValue5
  t9:=Tryz.underlying9
  a9:=Tryz.isAgg9
  z9:=Tryz.sizeOf9
  v9:=Tryz.zeroValue9
  t20:=Tryz.underlying20
  a20:=Tryz.isAgg20
  z20:=Tryz.sizeOf20
  v20:=Tryz.zeroValue20
  t37:=Tryz.underlying108
  a37:=Tryz.isAgg108
  z37:=Tryz.sizeOf108
  v37:=Tryz.zeroValue108
  t46:=Tryz.underlying225
  a46:=Tryz.isAgg225
  z46:=Tryz.sizeOf225
  v46:=Tryz.zeroValue225
  t51:=Tryz.underlying252
  a51:=Tryz.isAgg252
  z51:=Tryz.sizeOf252
  v51:=Tryz.zeroValue252
  t53:=Tryz.underlying254
  a53:=Tryz.isAgg254
  z53:=Tryz.sizeOf254
  v53:=Tryz.zeroValue254
  t171:=Tryz.underlying265
  a171:=Tryz.isAgg265
  z171:=Tryz.sizeOf265
  v171:=Tryz.zeroValue265
  t173:=Tryz.underlying267
  a173:=Tryz.isAgg267
  z173:=Tryz.sizeOf267
  v173:=Tryz.zeroValue267
  t212:=Tryz.underlying281
  a212:=Tryz.isAgg281
  z212:=Tryz.sizeOf281
  v212:=Tryz.zeroValue281
  t213:=Tryz.underlying282
  a213:=Tryz.isAgg282
  z213:=Tryz.sizeOf282
  t232:=Tryz.underlying290
  a232:=Tryz.isAgg290
  z232:=Tryz.sizeOf290
  v232:=Tryz.zeroValue290
  t233:=Tryz.underlying291
  a233:=Tryz.isAgg291
  z233:=Tryz.sizeOf291
  v233:=Tryz.zeroValue291
  g17:=by kernel_rfl
  g18:=by kernel_rfl
  g19:=by kernel_rfl
  i0:=by kernel_rfl
  i2:=by kernel_rfl
  i3:=by kernel_rfl
  i4:=by kernel_rfl
  i5:=by kernel_rfl
  i9:=by kernel_rfl
  i20:=by kernel_rfl
  i37:=by kernel_rfl
  i46:=by kernel_rfl
  i51:=by kernel_rfl
  i53:=by kernel_rfl
  i171:=by kernel_rfl
  i173:=by kernel_rfl
  i212:=by kernel_rfl
  i232:=by kernel_rfl
  i233:=by kernel_rfl
  m17:=by kernel_rfl
  m18:=by kernel_rfl
  m19:=by kernel_rfl}
open Go.RowKit Go.Sort Go.Lib in
theorem Tryz.strconv_Itoa(n:Int)(h0: -9223372036854775808<=n)(h1:n<=9223372036854775807)(w:World)(htab:Lib.TabIs Tryz.prog w "internal/strconv.uint64pow10" .u64 Lib.pow10Tab):
    Calls Tryz.prog 89 #[.int .i64 n] w λe w'=>e= .returned (.string ⟨(Lib.itoa n).toArray⟩)/\∃k os,w'=grow (w.drewN k) os:=Any.strconv_Itoa Tryz.laysM171 n h0 h1 w htab
def Tryz.lays189_ren:Go.Shelf.Ren:=⟨λ |189=>111|125=>145|257=>144|128=>172|129=>173|294=>163|295=>164|296=>165|297=>166|298=>167|299=>168|216=>169|300=>170|301=>171|328=>192|329=>193|330=>194|331=>195|332=>196|215=>197|343=>206|n=>n,λ |28=>28|3=>3|46=>225|0=>0|51=>252|53=>254|4=>4|183=>245|182=>244|131=>180|5=>5|9=>9|218=>269|222=>150|228=>284|229=>158|n=>n,λ |n=>n⟩
theorem Tryz.lays189:Go.Proofs.Lays.n189 Tryz.prog Tryz.lays189_ren:={
  mixed:=by kernel_rfl
  f125:=Tryz.func145.trans zcg
  f128:=Tryz.func172.trans zcg
  f129:=Tryz.func173.trans zcg
  f189:=Tryz.func111.trans zcg
  f215:=Tryz.func197.trans zcg
  f216:=Tryz.func169.trans zcg
  f257:=Tryz.func144.trans zcg
  f294:=Tryz.func163.trans zcg
  f295:=Tryz.func164.trans zcg
  f296:=Tryz.func165.trans zcg
  f297:=Tryz.func166.trans zcg
  f298:=Tryz.func167.trans zcg
  f299:=Tryz.func168.trans zcg
  f300:=Tryz.func170.trans zcg
  f301:=Tryz.func171.trans zcg
  f328:=Tryz.func192.trans zcg
  f329:=Tryz.func193.trans zcg
  f330:=Tryz.func194.trans zcg
  f331:=Tryz.func195.trans zcg
  f332:=Tryz.func196.trans zcg
  f343:=Tryz.func206.trans zcg
  t0:=Tryz.underlying0
  a0:=Tryz.isAgg0
  z0:=Tryz.sizeOf0
  v0:=Tryz.zeroValue0
  t3:=Tryz.underlying3
  a3:=Tryz.isAgg3
  z3:=Tryz.sizeOf3
  v3:=Tryz.zeroValue3
  t4:=Tryz.underlying4
  a4:=Tryz.isAgg4
  z4:=Tryz.sizeOf4
  v4:=Tryz.zeroValue4
  t5:=Tryz.underlying5
  a5:=Tryz.isAgg5
  z5:=Tryz.sizeOf5
  v5:=Tryz.zeroValue5
  t9:=Tryz.underlying9
  a9:=Tryz.isAgg9
  z9:=Tryz.sizeOf9
  v9:=Tryz.zeroValue9
  t28:=Tryz.underlying28
  a28:=Tryz.isAgg28
  z28:=Tryz.sizeOf28
  v28:=Tryz.zeroValue28
  t46:=Tryz.underlying225
  a46:=Tryz.isAgg225
  z46:=Tryz.sizeOf225
  v46:=Tryz.zeroValue225
  t51:=Tryz.underlying252
  a51:=Tryz.isAgg252
  z51:=Tryz.sizeOf252
  v51:=Tryz.zeroValue252
  t53:=Tryz.underlying254
  a53:=Tryz.isAgg254
  z53:=Tryz.sizeOf254
  v53:=Tryz.zeroValue254
  t131:=Tryz.underlying180
  a131:=Tryz.isAgg180
  z131:=Tryz.sizeOf180
  v131:=Tryz.zeroValue180
  t182:=Tryz.underlying244
  a182:=Tryz.isAgg244
  z182:=Tryz.sizeOf244
  v182:=Tryz.zeroValue244
  t183:=Tryz.underlying245
  a183:=Tryz.isAgg245
  z183:=Tryz.sizeOf245
  v183:=Tryz.zeroValue245
  t218:=Tryz.underlying269
  a218:=Tryz.isAgg269
  z218:=Tryz.sizeOf269
  v218:=Tryz.zeroValue269
  t222:=Tryz.underlying150
  a222:=Tryz.isAgg150
  z222:=Tryz.sizeOf150
  v222:=Tryz.zeroValue150
  t228:=Tryz.underlying284
  a228:=Tryz.isAgg284
  z228:=Tryz.sizeOf284
  v228:=Tryz.zeroValue284
  t229:=Tryz.underlying158
  a229:=Tryz.isAgg158
  z229:=Tryz.sizeOf158
  v229:=Tryz.zeroValue158}
open Go.Sort Go.RowKit in
theorem Tryz.slices_Sort_int(blk off cap:Nat)(zs:List Int)(w:World)(hH:Holds (Value.int .i64) w blk off zs.toArray)(hblk:blk<w.heap.size)(hsz:zs.length<4611686018427387904):
    Calls Tryz.prog 111 #[.slice (some ⟨blk,off,none⟩) zs.length cap] w λe w'=>
      e= .returned (.tuple #[])/\∃n os,w'=grow (putRow (Value.int .i64) (Sort.ahead w n) blk off (zs.mergeSort λx y=>decide (x<=y)).toArray) os:=Any.slices_Sort_int Tryz.lays189 blk off cap zs w hH hblk hsz
def Tryz.laysM176_ren:Go.Shelf.Ren:=⟨λ |176=>162|249=>191|288=>205|283=>187|284=>188|285=>189|286=>190|129=>173|317=>201|318=>202|319=>203|320=>204|337=>209|338=>210|n=>n,λ |37=>108|2=>2|3=>3|53=>254|4=>4|9=>9|171=>265|0=>0|173=>267|212=>281|51=>252|5=>5|20=>20|213=>282|46=>225|232=>290|233=>291|n=>n,λ |17=>3|18=>4|19=>5|n=>n⟩
theorem Tryz.laysM176:Go.Proofs.LaysM.n176 Tryz.prog Tryz.laysM176_ren:={
  mixed:=by kernel_rfl
  f129:=Tryz.func173.trans zcg
  f176:=Tryz.func162.trans zcg
  f249:=Tryz.func191.trans zcg
  f283:=Tryz.func187.trans zcg
  f284:=Tryz.func188.trans zcg
  f285:=Tryz.func189.trans zcg
  f286:=Tryz.func190.trans zcg
  f288:=Tryz.func205.trans zcg
  f317:=Tryz.func201.trans zcg
  f318:=Tryz.func202.trans zcg
  f319:=Tryz.func203.trans zcg
  f320:=Tryz.func204.trans zcg
  f337:=Tryz.func209.trans zcg
  f338:=Tryz.func210.trans zcg
  t0:=Tryz.underlying0
  a0:=Tryz.isAgg0
  z0:=Tryz.sizeOf0
  v0:=Tryz.zeroValue0
  t2:=Tryz.underlying2
  a2:=Tryz.isAgg2
  z2:=Tryz.sizeOf2
  v2:=Tryz.zeroValue2
  t3:=Tryz.underlying3
  a3:=Tryz.isAgg3
  z3:=Tryz.sizeOf3
  v3:=Tryz.zeroValue3
  t4:=Tryz.underlying4
  a4:=Tryz.isAgg4
  z4:=Tryz.sizeOf4
  v4:=Tryz.zeroValue4
  t5:=Tryz.underlying5
  a5:=Tryz.isAgg5
  z5:=Tryz.sizeOf5
  v5:=Tryz.zeroValue5
  t9:=Tryz.underlying9
  a9:=Tryz.isAgg9
  z9:=Tryz.sizeOf9
  v9:=Tryz.zeroValue9
  t20:=Tryz.underlying20
  a20:=Tryz.isAgg20
  z20:=Tryz.sizeOf20
  v20:=Tryz.zeroValue20
  t37:=Tryz.underlying108
  a37:=Tryz.isAgg108
  z37:=Tryz.sizeOf108
  v37:=Tryz.zeroValue108
  t46:=Tryz.underlying225
  a46:=Tryz.isAgg225
  z46:=Tryz.sizeOf225
  v46:=Tryz.zeroValue225
  t51:=Tryz.underlying252
  a51:=Tryz.isAgg252
  z51:=Tryz.sizeOf252
  v51:=Tryz.zeroValue252
  t53:=Tryz.underlying254
  a53:=Tryz.isAgg254
  z53:=Tryz.sizeOf254
  v53:=Tryz.zeroValue254
  t171:=Tryz.underlying265
  a171:=Tryz.isAgg265
  z171:=Tryz.sizeOf265
  v171:=Tryz.zeroValue265
  t173:=Tryz.underlying267
  a173:=Tryz.isAgg267
  z173:=Tryz.sizeOf267
  v173:=Tryz.zeroValue267
  t212:=Tryz.underlying281
  a212:=Tryz.isAgg281
  z212:=Tryz.sizeOf281
  v212:=Tryz.zeroValue281
  t213:=Tryz.underlying282
  a213:=Tryz.isAgg282
  z213:=Tryz.sizeOf282
  t232:=Tryz.underlying290
  a232:=Tryz.isAgg290
  z232:=Tryz.sizeOf290
  v232:=Tryz.zeroValue290
  t233:=Tryz.underlying291
  a233:=Tryz.isAgg291
  z233:=Tryz.sizeOf291
  v233:=Tryz.zeroValue291
  g17:=by kernel_rfl
  g18:=by kernel_rfl
  g19:=by kernel_rfl
  i0:=by kernel_rfl
  i2:=by kernel_rfl
  i3:=by kernel_rfl
  i4:=by kernel_rfl
  i5:=by kernel_rfl
  i9:=by kernel_rfl
  i20:=by kernel_rfl
  i37:=by kernel_rfl
  i46:=by kernel_rfl
  i51:=by kernel_rfl
  i53:=by kernel_rfl
  i171:=by kernel_rfl
  i173:=by kernel_rfl
  i212:=by kernel_rfl
  i232:=by kernel_rfl
  i233:=by kernel_rfl
  m17:=by kernel_rfl
  m18:=by kernel_rfl
  m19:=by kernel_rfl}
open Go.RowKit Go.Sort Go.Lib in
theorem Tryz.strconv_AppendInt_10(B n:Nat)(i:Int)(h0: -9223372036854775808<=i)(h1:i<=9223372036854775807)(sv:Value)(xs:List Value)(w:World)(hown:w.ownsRow B 5 1 sv n xs)(hBw:B<=w.heap.size)(hlim:n+21<=140737488355328)(htab:Lib.TabBelow Tryz.prog B w "internal/strconv.uint64pow10" .u64 Lib.pow10Tab):
    Calls Tryz.prog 162 #[sv,.int .i64 i,.int .i64 10] w λe w'=>∃v',e= .returned v'/\w'.ownsRow B 5 1 v' (n+(Lib.itoa i).length) (xs++Lib.byteCells (Lib.itoa i))/\Below B w w'/\Lib.OthersKept 5 none w w':=Any.strconv_AppendInt_10 Tryz.laysM176 B n i h0 h1 sv xs w hown hBw hlim htab
def Tryz.lays99_ren:Go.Shelf.Ren:=⟨λ |99=>121|206=>156|n=>n,λ |9=>9|4=>4|3=>3|n=>n,λ |n=>n⟩
theorem Tryz.lays99:Go.Proofs.Lays.n99 Tryz.prog Tryz.lays99_ren:={
  mixed:=by kernel_rfl
  f99:=Tryz.func121.trans zcg
  f206:=Tryz.func156.trans zcg
  t3:=Tryz.underlying3
  a3:=Tryz.isAgg3
  z3:=Tryz.sizeOf3
  v3:=Tryz.zeroValue3
  t4:=Tryz.underlying4
  a4:=Tryz.isAgg4
  z4:=Tryz.sizeOf4
  v4:=Tryz.zeroValue4
  t9:=Tryz.underlying9
  a9:=Tryz.isAgg9
  z9:=Tryz.sizeOf9
  v9:=Tryz.zeroValue9}
open Go.RowKit Go.Lib in
theorem Tryz.strings_HasPrefix(s p:ByteArray)(w:World):
    Calls Tryz.prog 121 #[.string s,.string p] w λe w'=>e= .returned (.bool (Lib.hasPrefix s.data.toList p.data.toList))/\w'=w:=Any.strings_HasPrefix Tryz.lays99 s p w
def Tryz.lays152_ren:Go.Shelf.Ren:=⟨λ |152=>152|137=>118|119=>182|224=>183|225=>184|217=>149|266=>176|n=>n,λ |9=>9|21=>21|3=>3|4=>4|5=>5|0=>0|46=>225|n=>n,λ |n=>n⟩
theorem Tryz.lays152:Go.Proofs.Lays.n152 Tryz.prog Tryz.lays152_ren:={
  mixed:=by kernel_rfl
  f119:=Tryz.func182.trans zcg
  f137:=Tryz.func118.trans zcg
  f152:=Tryz.func152.trans zcg
  f217:=Tryz.func149.trans zcg
  f224:=Tryz.func183.trans zcg
  f225:=Tryz.func184.trans zcg
  f266:=Tryz.func176.trans zcg
  t0:=Tryz.underlying0
  a0:=Tryz.isAgg0
  z0:=Tryz.sizeOf0
  v0:=Tryz.zeroValue0
  t3:=Tryz.underlying3
  a3:=Tryz.isAgg3
  z3:=Tryz.sizeOf3
  v3:=Tryz.zeroValue3
  t4:=Tryz.underlying4
  a4:=Tryz.isAgg4
  z4:=Tryz.sizeOf4
  v4:=Tryz.zeroValue4
  t5:=Tryz.underlying5
  a5:=Tryz.isAgg5
  z5:=Tryz.sizeOf5
  v5:=Tryz.zeroValue5
  t9:=Tryz.underlying9
  a9:=Tryz.isAgg9
  z9:=Tryz.sizeOf9
  v9:=Tryz.zeroValue9
  t21:=Tryz.underlying21
  a21:=Tryz.isAgg21
  z21:=Tryz.sizeOf21
  v21:=Tryz.zeroValue21
  t46:=Tryz.underlying225
  a46:=Tryz.isAgg225
  z46:=Tryz.sizeOf225
  v46:=Tryz.zeroValue225}
open Go.RowKit Go.Lib in
theorem Tryz.strings_IndexRune_ascii(s:ByteArray)(r:Int)(w:World)(h0:0<=r)(h1:r<128):
    Calls Tryz.prog 152 #[.string s,.int .i32 r] w λe w'=>e= .returned (.int .i64 (Lib.indexByte s.data.toList r.toNat.toUInt8))/\w'=w:=Any.strings_IndexRune_ascii Tryz.lays152 s r w h0 h1
def Tryz.lays226_ren:Go.Shelf.Ren:=⟨λ |226=>153|n=>n,λ |3=>3|4=>4|n=>n,λ |n=>n⟩
theorem Tryz.lays226:Go.Proofs.Lays.n226 Tryz.prog Tryz.lays226_ren:={
  mixed:=by kernel_rfl
  f226:=Tryz.func153.trans zcg
  t3:=Tryz.underlying3
  a3:=Tryz.isAgg3
  z3:=Tryz.sizeOf3
  v3:=Tryz.zeroValue3
  t4:=Tryz.underlying4
  a4:=Tryz.isAgg4
  z4:=Tryz.sizeOf4
  v4:=Tryz.zeroValue4}
open Go.RowKit Go.Lib in
theorem Tryz.strings_shouldUseASCIISet(n:Int)(w:World):
    Calls Tryz.prog 153 #[.int .i64 n] w λe w'=>e= .returned (.bool (decide (8<n)))/\w'=w:=Any.strings_shouldUseASCIISet Tryz.lays226 n w
def Tryz.lays153_ren:Go.Shelf.Ren:=⟨λ |153=>120|152=>152|226=>153|227=>154|228=>155|137=>118|119=>182|224=>183|225=>184|217=>149|266=>176|n=>n,λ |9=>9|3=>3|4=>4|5=>5|21=>21|117=>233|116=>232|0=>0|46=>225|124=>263|n=>n,λ |n=>n⟩
theorem Tryz.lays153:Go.Proofs.Lays.n153 Tryz.prog Tryz.lays153_ren:={
  mixed:=by kernel_rfl
  f119:=Tryz.func182.trans zcg
  f137:=Tryz.func118.trans zcg
  f152:=Tryz.func152.trans zcg
  f153:=Tryz.func120.trans zcg
  f217:=Tryz.func149.trans zcg
  f224:=Tryz.func183.trans zcg
  f225:=Tryz.func184.trans zcg
  f226:=Tryz.func153.trans zcg
  f227:=Tryz.func154.trans zcg
  f228:=Tryz.func155.trans zcg
  f266:=Tryz.func176.trans zcg
  t0:=Tryz.underlying0
  a0:=Tryz.isAgg0
  z0:=Tryz.sizeOf0
  v0:=Tryz.zeroValue0
  t3:=Tryz.underlying3
  a3:=Tryz.isAgg3
  z3:=Tryz.sizeOf3
  v3:=Tryz.zeroValue3
  t4:=Tryz.underlying4
  a4:=Tryz.isAgg4
  z4:=Tryz.sizeOf4
  v4:=Tryz.zeroValue4
  t5:=Tryz.underlying5
  a5:=Tryz.isAgg5
  z5:=Tryz.sizeOf5
  v5:=Tryz.zeroValue5
  t9:=Tryz.underlying9
  a9:=Tryz.isAgg9
  z9:=Tryz.sizeOf9
  v9:=Tryz.zeroValue9
  t21:=Tryz.underlying21
  a21:=Tryz.isAgg21
  z21:=Tryz.sizeOf21
  v21:=Tryz.zeroValue21
  t46:=Tryz.underlying225
  a46:=Tryz.isAgg225
  z46:=Tryz.sizeOf225
  v46:=Tryz.zeroValue225
  t116:=Tryz.underlying232
  a116:=Tryz.isAgg232
  z116:=Tryz.sizeOf232
  t117:=Tryz.underlying233
  a117:=Tryz.isAgg233
  z117:=Tryz.sizeOf233
  v117:=Tryz.zeroValue233
  t124:=Tryz.underlying263
  a124:=Tryz.isAgg263
  z124:=Tryz.sizeOf263
  v124:=Tryz.zeroValue263}
open Go.RowKit Go.Lib in
theorem Tryz.strings_IndexAny_long(hv116:∀w,(zeroValue 232).run Tryz.prog w= .ok (.agg (Array.replicate 256 (.bool false))) w)(s chars:ByteArray)(w:World)(h2:2<=chars.size)(h8:8<s.size)(hs:s.size<4294967281)(hcs:chars.size<4294967281)(hascii:∀(j:Nat) b,chars.data.toList[j]? =some b->b.toNat<128):
    Calls Tryz.prog 120 #[.string s,.string chars] w λe w'=>e= .returned (.int .i64 (Lib.indexAny s.data.toList chars.data.toList))/\w'=((w.alloc (.cells (Lib.setCells chars.data.toList) 232)).alloc (.cells (Lib.setCells chars.data.toList) 232)):=Any.strings_IndexAny_long Tryz.lays153 hv116 (by kernel_rfl) s chars w h2 h8 hs hcs hascii
def Tryz.lays107_ren:Go.Shelf.Ren:=⟨λ |107=>148|108=>175|n=>n,λ |28=>28|3=>3|4=>4|0=>0|n=>n,λ |n=>n⟩
theorem Tryz.lays107:Go.Proofs.Lays.n107 Tryz.prog Tryz.lays107_ren:={
  mixed:=by kernel_rfl
  f107:=Tryz.func148.trans zcg
  f108:=Tryz.func175.trans zcg
  t0:=Tryz.underlying0
  a0:=Tryz.isAgg0
  z0:=Tryz.sizeOf0
  v0:=Tryz.zeroValue0
  t3:=Tryz.underlying3
  a3:=Tryz.isAgg3
  z3:=Tryz.sizeOf3
  v3:=Tryz.zeroValue3
  t4:=Tryz.underlying4
  a4:=Tryz.isAgg4
  z4:=Tryz.sizeOf4
  v4:=Tryz.zeroValue4
  t28:=Tryz.underlying28
  a28:=Tryz.isAgg28
  z28:=Tryz.sizeOf28
  v28:=Tryz.zeroValue28}
open Go.Lib in
theorem Tryz.slices_Contains_int(b off n c:Nat)(zs:List Int)(x:Int)(w:World)(hz:n<=zs.length)(hbig:n<=9223372036854775807)(hc:∀j,j<zs.length->w.cell? ⟨b,off+j,none⟩=some (.int .i64 (zs.getD j 0))):
    Calls Tryz.prog 148 #[.slice (some ⟨b,off,none⟩) n c,.int .i64 x] w λe w'=>e= .returned (.bool ((zs.take n).contains x))/\w'=w:=Any.slices_Contains_int Tryz.lays107 b off n c zs x w hz hbig hc
open Go.Lib in
theorem Tryz.slices_Contains_int_empty(a:Option Addr)(c:Nat)(x:Int)(w:World):
    Calls Tryz.prog 148 #[.slice a 0 c,.int .i64 x] w λe w'=>e= .returned (.bool false)/\w'=w:=Any.slices_Contains_int_empty Tryz.lays107 a c x w
def Tryz.lays109_ren:Go.Shelf.Ren:=⟨λ |109=>160|n=>n,λ |31=>116|9=>9|3=>3|0=>0|4=>4|n=>n,λ |n=>n⟩
theorem Tryz.lays109:Go.Proofs.Lays.n109 Tryz.prog Tryz.lays109_ren:={
  mixed:=by kernel_rfl
  f109:=Tryz.func160.trans zcg
  t0:=Tryz.underlying0
  a0:=Tryz.isAgg0
  z0:=Tryz.sizeOf0
  v0:=Tryz.zeroValue0
  t3:=Tryz.underlying3
  a3:=Tryz.isAgg3
  z3:=Tryz.sizeOf3
  v3:=Tryz.zeroValue3
  t4:=Tryz.underlying4
  a4:=Tryz.isAgg4
  z4:=Tryz.sizeOf4
  v4:=Tryz.zeroValue4
  t9:=Tryz.underlying9
  a9:=Tryz.isAgg9
  z9:=Tryz.sizeOf9
  v9:=Tryz.zeroValue9
  t31:=Tryz.underlying116
  a31:=Tryz.isAgg116
  z31:=Tryz.sizeOf116
  v31:=Tryz.zeroValue116}
open Go.Lib in
theorem Tryz.slices_Index_string(b off n c:Nat)(zs:List ByteArray)(x:ByteArray)(w:World)(hz:n<=zs.length)(hbig:n<=9223372036854775807)(hc:∀j,j<zs.length->w.cell? ⟨b,off+j,none⟩=some (.string (zs.getD j ByteArray.empty))):
    Calls Tryz.prog 160 #[.slice (some ⟨b,off,none⟩) n c,.string x] w λe w'=>e= .returned (.int .i64 (Lib.idxOfS (zs.take n) x))/\w'=w:=Any.slices_Index_string Tryz.lays109 b off n c zs x w hz hbig hc
def Tryz.lays110_ren:Go.Shelf.Ren:=⟨λ |110=>126|109=>160|n=>n,λ |31=>116|9=>9|4=>4|3=>3|0=>0|n=>n,λ |n=>n⟩
theorem Tryz.lays110:Go.Proofs.Lays.n110 Tryz.prog Tryz.lays110_ren:={
  mixed:=by kernel_rfl
  f109:=Tryz.func160.trans zcg
  f110:=Tryz.func126.trans zcg
  t0:=Tryz.underlying0
  a0:=Tryz.isAgg0
  z0:=Tryz.sizeOf0
  v0:=Tryz.zeroValue0
  t3:=Tryz.underlying3
  a3:=Tryz.isAgg3
  z3:=Tryz.sizeOf3
  v3:=Tryz.zeroValue3
  t4:=Tryz.underlying4
  a4:=Tryz.isAgg4
  z4:=Tryz.sizeOf4
  v4:=Tryz.zeroValue4
  t9:=Tryz.underlying9
  a9:=Tryz.isAgg9
  z9:=Tryz.sizeOf9
  v9:=Tryz.zeroValue9
  t31:=Tryz.underlying116
  a31:=Tryz.isAgg116
  z31:=Tryz.sizeOf116
  v31:=Tryz.zeroValue116}
open Go.Lib in
theorem Tryz.slices_Contains_string(b off n c:Nat)(zs:List ByteArray)(x:ByteArray)(w:World)(hz:n<=zs.length)(hbig:n<=9223372036854775807)(hc:∀j,j<zs.length->w.cell? ⟨b,off+j,none⟩=some (.string (zs.getD j ByteArray.empty))):
    Calls Tryz.prog 126 #[.slice (some ⟨b,off,none⟩) n c,.string x] w λe w'=>e= .returned (.bool (Lib.containsS (zs.take n) x))/\w'=w:=Any.slices_Contains_string Tryz.lays110 b off n c zs x w hz hbig hc
def Tryz.lays111_ren:Go.Shelf.Ren:=⟨λ |111=>137|n=>n,λ |28=>28|3=>3|4=>4|0=>0|n=>n,λ |n=>n⟩
theorem Tryz.lays111:Go.Proofs.Lays.n111 Tryz.prog Tryz.lays111_ren:={
  mixed:=by kernel_rfl
  f111:=Tryz.func137.trans zcg
  t0:=Tryz.underlying0
  a0:=Tryz.isAgg0
  z0:=Tryz.sizeOf0
  v0:=Tryz.zeroValue0
  t3:=Tryz.underlying3
  a3:=Tryz.isAgg3
  z3:=Tryz.sizeOf3
  v3:=Tryz.zeroValue3
  t4:=Tryz.underlying4
  a4:=Tryz.isAgg4
  z4:=Tryz.sizeOf4
  v4:=Tryz.zeroValue4
  t28:=Tryz.underlying28
  a28:=Tryz.isAgg28
  z28:=Tryz.sizeOf28
  v28:=Tryz.zeroValue28}
open Go.RowKit Go.Lib in
theorem Tryz.slices_Equal_int(b1 o1 n c b2 o2 m d:Nat)(xs ys:List Int)(w:World)(hx:n<=xs.length)(hy:m<=ys.length)(hbig:n<=9223372036854775807)(hbig2:m<=9223372036854775807)(hc1:∀j,j<xs.length->w.cell? ⟨b1,o1+j,none⟩=some (.int .i64 (xs.getD j 0)))(hc2:∀j,j<ys.length->w.cell? ⟨b2,o2+j,none⟩=some (.int .i64 (ys.getD j 0))):
    Calls Tryz.prog 137 #[.slice (some ⟨b1,o1,none⟩) n c,.slice (some ⟨b2,o2,none⟩) m d] w λe w'=>e= .returned (.bool (xs.take n==ys.take m))/\∃q,w'=w.drewN q:=Any.slices_Equal_int Tryz.lays111 b1 o1 n c b2 o2 m d xs ys w hx hy hbig hbig2 hc1 hc2
open Go.RowKit Go.Lib in
theorem Tryz.slices_Equal_int_empty(a1 a2:Option Addr)(c m d:Nat)(w:World)(hbig2:m<=9223372036854775807):
    Calls Tryz.prog 137 #[.slice a1 0 c,.slice a2 m d] w λe w'=>e= .returned (.bool (decide (m=0)))/\w'=w:=Any.slices_Equal_int_empty Tryz.lays111 a1 a2 c m d w hbig2
def Tryz.laysNm215_ren:Go.Shelf.Ren:=⟨λ |15=>134|n=>n,λ |22=>28|3=>3|4=>4|n=>n,λ |n=>n⟩
theorem Tryz.laysNm215:Go.Proofs.Lays2.n15 Tryz.prog Tryz.laysNm215_ren:={
  mixed:=by kernel_rfl
  f15:=Tryz.func134.trans zcg
  t3:=Tryz.underlying3
  a3:=Tryz.isAgg3
  z3:=Tryz.sizeOf3
  v3:=Tryz.zeroValue3
  t4:=Tryz.underlying4
  a4:=Tryz.isAgg4
  z4:=Tryz.sizeOf4
  v4:=Tryz.zeroValue4
  t22:=Tryz.underlying28
  a22:=Tryz.isAgg28
  z22:=Tryz.sizeOf28
  v22:=Tryz.zeroValue28
  i3:=by kernel_rfl}
open Go.RowKit Go.Lib in
theorem Tryz.slices_Clone_int(b off n c:Nat)(zs:List Int)(w:World)(hz:n<=zs.length)(hbig:n*8<=140737488355328)(hc:∀j,j<zs.length->w.cell? ⟨b,off+j,none⟩=some (.int .i64 (zs.getD j 0))):
    Calls Tryz.prog 134 #[.slice (some ⟨b,off,none⟩) n c] w λe w'=>∃v',e= .returned v'/\w'.ownsRow w.heap.size 3 1 v' n ((zs.take n).map (Value.int .i64))/\v'≠ .slice none 0 0/\Below w.heap.size w w':=Any.slices_Clone_int Tryz.laysNm215 b off n c zs w hz hbig hc
open Go.RowKit Go.Lib in
theorem Tryz.slices_Clone_int_nil(n c:Nat)(w:World):
    Calls Tryz.prog 134 #[.slice none n c] w λe w'=>e= .returned (.slice none 0 0)/\w'=w:=Any.slices_Clone_int_nil Tryz.laysNm215 n c w
open Go.RowKit Go.Lib in
theorem Tryz.slices_Clone_int_zero(a:Addr)(c:Nat)(w:World):
    Calls Tryz.prog 134 #[.slice (some a) 0 c] w λe w'=>∃v',e= .returned v'/\w'.ownsRow w.heap.size 3 1 v' 0 []/\v'≠ .slice none 0 0/\Below w.heap.size w w':=Any.slices_Clone_int_zero Tryz.laysNm215 a c w
def Tryz.laysNm220_ren:Go.Shelf.Ren:=⟨λ |20=>112|n=>n,λ |22=>28|3=>3|4=>4|0=>0|n=>n,λ |n=>n⟩
theorem Tryz.laysNm220:Go.Proofs.Lays2.n20 Tryz.prog Tryz.laysNm220_ren:={
  mixed:=by kernel_rfl
  f20:=Tryz.func112.trans zcg
  t0:=Tryz.underlying0
  a0:=Tryz.isAgg0
  z0:=Tryz.sizeOf0
  v0:=Tryz.zeroValue0
  t3:=Tryz.underlying3
  a3:=Tryz.isAgg3
  z3:=Tryz.sizeOf3
  v3:=Tryz.zeroValue3
  t4:=Tryz.underlying4
  a4:=Tryz.isAgg4
  z4:=Tryz.sizeOf4
  v4:=Tryz.zeroValue4
  t22:=Tryz.underlying28
  a22:=Tryz.isAgg28
  z22:=Tryz.sizeOf28
  v22:=Tryz.zeroValue28
  i3:=by kernel_rfl}
open Go.RowKit Go.Lib Go.Sort in
theorem Tryz.slices_Compact_int(blk off cap:Nat)(zs:List Int)(w:World)(hH:Holds (Value.int .i64) w blk off zs.toArray)(hsz:zs.length<=9223372036854775807)(hcap:zs.length<=cap):
    Calls Tryz.prog 112 #[.slice (some ⟨blk,off,none⟩) zs.length cap] w λe w'=>e= .returned (.slice (some ⟨blk,off,none⟩) (Lib.compact zs).length cap)/\∃q,w'=putRow (Value.int .i64) (Sort.ahead w q) blk off (Lib.compact zs++List.replicate (zs.length-(Lib.compact zs).length) 0).toArray :=Any.slices_Compact_int Tryz.laysNm220 blk off cap zs w hH hsz hcap
open Go.RowKit Go.Lib in
theorem Tryz.slices_Equal_int_lens(a1 a2:Option Addr)(n c m d:Nat)(w:World)(hnm:n≠m):
    Calls Tryz.prog 137 #[.slice a1 n c,.slice a2 m d] w λe w'=>e= .returned (.bool false)/\w'=w:=Any.slices_Equal_int_lens Tryz.lays111 a1 a2 n c m d w hnm
def Tryz.laysSlH10_f140_ren:Go.Shelf.Ren:=⟨λ |10=>140|6=>69|n=>n,λ |22=>28|23=>3|25=>133|3=>3|4=>4|0=>0|n=>n,λ |n=>n⟩
theorem Tryz.laysSlH10_f140:Go.Proofs.SlLaysH.n10 Tryz.prog Tryz.laysSlH10_f140_ren:={
  mixed:=by kernel_rfl
  f6:=⟨Tryz.f69.name,by decide,Tryz.func69.trans zcg⟩
  f10:=⟨Tryz.f140.name,by decide,Tryz.func140.trans zcg⟩
  t0:=Tryz.underlying0
  a0:=Tryz.isAgg0
  z0:=Tryz.sizeOf0
  v0:=Tryz.zeroValue0
  t3:=Tryz.underlying3
  a3:=Tryz.isAgg3
  z3:=Tryz.sizeOf3
  v3:=Tryz.zeroValue3
  t4:=Tryz.underlying4
  a4:=Tryz.isAgg4
  z4:=Tryz.sizeOf4
  v4:=Tryz.zeroValue4
  t22:=Tryz.underlying28
  a22:=Tryz.isAgg28
  z22:=Tryz.sizeOf28
  v22:=Tryz.zeroValue28
  a23:=Tryz.isAgg3
  z23:=Tryz.sizeOf3
  t25:=Tryz.underlying133
  a25:=Tryz.isAgg133
  z25:=Tryz.sizeOf133
  v25:=Tryz.zeroValue133}
open Go.RowKit Go.Lib Go.Sort in
theorem Tryz.slices_DeleteFunc{α:Type}[Inhabited α](enc:α->Value)(hO:OneCell enc)(p:α->Bool)(g:Nat)(lb:Array Value)(eg:∀args w,(callFunc g args).run Tryz.prog w= .ok (.enter g args) w)(zr:α)(v23:∀w,(zeroValue 3).run Tryz.prog w= .ok (enc zr) w)(blk off cap:Nat)(d:Array α)(w:World)(hp:PredAt Tryz.prog g lb enc p w)(hpo:PredOver Tryz.prog g lb enc p blk off d.size w)(hH:Holds enc w blk off d)(hsz:d.size<=9223372036854775807)(hcap:d.size<=cap):
    Calls Tryz.prog 140 #[.slice (some ⟨blk,off,none⟩) d.size cap,.func (.func g) #[] lb] w λe w'=>e= .returned (.slice (some ⟨blk,off,none⟩) (d.toList.filter λx=> !p x).length cap)/\∃q,w'=putRow enc (Sort.ahead w q) blk off ((d.toList.filter λx=> !p x)++List.replicate (d.size-(d.toList.filter λx=> !p x).length) zr).toArray :=AnyE.slices_DeleteFunc Tryz.laysSlH10_f140 enc hO p g lb eg zr v23 blk off cap d w hp hpo hH hsz hcap
end Go.Proofs
