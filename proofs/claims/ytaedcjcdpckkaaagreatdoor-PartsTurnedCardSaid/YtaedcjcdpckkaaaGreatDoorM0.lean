/- The contracts of Go's library that the walks use, laid at this program by the kit's tool; those that nothing here uses are left out. -/
import Derived.Shelf.Strings.Builder1
import Derived.Shelf.Strings.Builder2
import Derived.Shelf.Strings.Trim
import Derived.Shelf.Small.Utf8
import Derived.Shelf.Small.Strs
import Derived.Shelf.Small.Wraps
import Derived.Shelf.Strings.BuilderF
import Derived.Shelf.Strings.BuilderK
import Derived.Shelf.Strings.Builder2Cap
import Derived.Shelf.Strconv.Atoi
import Derived.Shelf.Strconv.Itoa0
import Derived.Shelf.Strconv.Itoa1
import Derived.Shelf.LaysM
import Derived.Shelf.Strconv.Itoa2
import Derived.Shelf.Strconv.Itoa3
import Derived.Shelf.Strconv.AtoiErrFast
import Derived.Shelf.Strconv.ParseIntEmpty
import Derived.Shelf.Strconv.AtoiFail
import Derived.Shelf.Strconv.Clone
import Derived.Shelf.Strconv.SyntaxError
import Derived.Shelf.LaysC
import Derived.Shelf.Strconv.ToError
import Derived.Shelf.Strconv.Lower
import Derived.Shelf.Strconv.ParseUint10
import Derived.Shelf.Strconv.ParseUint10Empty
import Derived.Shelf.Strconv.ParseUint10Any
import Derived.Shelf.Strconv.ParseInt10
import Derived.Shelf.Strconv.AtoiLong
import Derived.Shelf.Strconv.AtoiInnerAll
import Derived.Shelf.Strconv.RangeError
import Derived.Shelf.Strconv.ToErrorRange
import Derived.Shelf.Strconv.AtoiAll
import Derived.Shelf.Strconv.ParseUintEmpty
import Derived.Shelf.Strconv.ParseUint10b64
import Derived.Shelf.Strconv.ParseUint10b32
import Derived.Shelf.Strconv.ParseUint10b16
import Derived.Shelf.Strconv.ParseUint10b8
import Derived.Shelf.Strconv.ParseUint10At
import Derived.Shelf.Strings.Search1
import Derived.Shelf.Strings.Prefix
import Derived.Shelf.Strings.Runes
import Derived.Shelf.Strings.IndexAny
import Derived.Shelf.Strings.AsciiSet
import Derived.Shelf.Strings.IndexAnyAll
import Derived.Shelf.Bits.Mul64
import Derived.Shelf.Strings.Repeat
import Derived.Shelf.Unicode.DecodeSlow
import Derived.Shelf.Strings.BuilderCap
import Derived.Shelf.Slices.Turned
import Derived.Ground.Names2Prog
import Derived.Shelf.Slices.SearchI
import Derived.Test.YtaedcjcdpckkaaaGreatDoorProg
set_option linter.all false
namespace Go.Proofs
open Go.Shelf
def Tryz.lays170_ren:Go.Shelf.Ren:=⟨λ |170=>204|n=>n,λ |70=>216|3=>3|0=>0|72=>219|37=>217|5=>5|n=>n,λ |n=>n⟩
theorem Tryz.lays170:Go.Proofs.Lays.n170 Tryz.prog Tryz.lays170_ren:={
  mixed:=by kernel_rfl
  f170:=Tryz.func204.trans (congrArg some (by kernel_rfl))
  t0:=Tryz.underlying0
  a0:=Tryz.isAgg0
  z0:=Tryz.sizeOf0
  v0:=Tryz.zeroValue0
  t3:=Tryz.underlying3
  a3:=Tryz.isAgg3
  z3:=Tryz.sizeOf3
  v3:=Tryz.zeroValue3
  t37:=Tryz.underlying217
  a37:=Tryz.isAgg217
  z37:=Tryz.sizeOf217
  v37:=Tryz.zeroValue217
  t70:=Tryz.underlying216
  a70:=Tryz.isAgg216
  z70:=Tryz.sizeOf216
  v70:=Tryz.zeroValue216
  t72:=Tryz.underlying219
  a72:=Tryz.isAgg219
  z72:=Tryz.sizeOf219
  v72:=Tryz.zeroValue219}
def Tryz.lays169_ren:Go.Shelf.Ren:=⟨λ |169=>205|n=>n,λ |70=>216|9=>9|0=>0|72=>219|37=>217|127=>259|3=>3|5=>5|n=>n,λ |n=>n⟩
theorem Tryz.lays169:Go.Proofs.Lays.n169 Tryz.prog Tryz.lays169_ren:={
  mixed:=by kernel_rfl
  f169:=Tryz.func205.trans (congrArg some (by kernel_rfl))
  t0:=Tryz.underlying0
  a0:=Tryz.isAgg0
  z0:=Tryz.sizeOf0
  v0:=Tryz.zeroValue0
  t3:=Tryz.underlying3
  a3:=Tryz.isAgg3
  z3:=Tryz.sizeOf3
  v3:=Tryz.zeroValue3
  t9:=Tryz.underlying9
  a9:=Tryz.isAgg9
  z9:=Tryz.sizeOf9
  v9:=Tryz.zeroValue9
  t37:=Tryz.underlying217
  a37:=Tryz.isAgg217
  z37:=Tryz.sizeOf217
  v37:=Tryz.zeroValue217
  t70:=Tryz.underlying216
  a70:=Tryz.isAgg216
  z70:=Tryz.sizeOf216
  v70:=Tryz.zeroValue216
  t72:=Tryz.underlying219
  a72:=Tryz.isAgg219
  z72:=Tryz.sizeOf219
  v72:=Tryz.zeroValue219
  t127:=Tryz.underlying259
  a127:=Tryz.isAgg259
  z127:=Tryz.sizeOf259
  v127:=Tryz.zeroValue259}
theorem Tryz.Builder_Extra_169:Builder.Extra Tryz.prog Tryz.lays169_ren:={
  sizeBuilder:=by kernel_rfl
  liesBuilder:=by kernel_rfl
  t5:=Tryz.underlying5
  a5:=Tryz.isAgg5
  z5:=Tryz.sizeOf5
  v5:=Tryz.zeroValue5
  infoByte:=by kernel_rfl
  cellsByte:=by kernel_rfl
  sizeByte:=by kernel_rfl
  neB5:=by decide}
def Tryz.lays160_ren:Go.Shelf.Ren:=⟨λ |160=>192|232=>233|231=>232|227=>234|234=>236|233=>235|236=>238|235=>237|228=>255|271=>263|151=>262|197=>261|120=>280|152=>253|260=>279|137=>222|119=>274|224=>275|225=>276|217=>252|266=>273|n=>n,λ |9=>9|4=>4|3=>3|5=>5|117=>248|116=>247|0=>0|124=>251|21=>21|105=>272|46=>255|119=>292|139=>295|138=>294|n=>n,λ |3=>6|4=>7|n=>n⟩
theorem Tryz.lays160:Go.Proofs.Lays.n160 Tryz.prog Tryz.lays160_ren:={
  mixed:=by kernel_rfl
  f119:=Tryz.func274.trans (congrArg some (by kernel_rfl))
  f120:=Tryz.func280.trans (congrArg some (by kernel_rfl))
  f137:=Tryz.func222.trans (congrArg some (by kernel_rfl))
  f151:=Tryz.func262.trans (congrArg some (by kernel_rfl))
  f152:=Tryz.func253.trans (congrArg some (by kernel_rfl))
  f160:=Tryz.func192.trans (congrArg some (by kernel_rfl))
  f197:=Tryz.func261.trans (congrArg some (by kernel_rfl))
  f217:=Tryz.func252.trans (congrArg some (by kernel_rfl))
  f224:=Tryz.func275.trans (congrArg some (by kernel_rfl))
  f225:=Tryz.func276.trans (congrArg some (by kernel_rfl))
  f227:=Tryz.func234.trans (congrArg some (by kernel_rfl))
  f228:=Tryz.func255.trans (congrArg some (by kernel_rfl))
  f231:=Tryz.func232.trans (congrArg some (by kernel_rfl))
  f232:=Tryz.func233.trans (congrArg some (by kernel_rfl))
  f233:=Tryz.func235.trans (congrArg some (by kernel_rfl))
  f234:=Tryz.func236.trans (congrArg some (by kernel_rfl))
  f235:=Tryz.func237.trans (congrArg some (by kernel_rfl))
  f236:=Tryz.func238.trans (congrArg some (by kernel_rfl))
  f260:=Tryz.func279.trans (congrArg some (by kernel_rfl))
  f266:=Tryz.func273.trans (congrArg some (by kernel_rfl))
  f271:=Tryz.func263.trans (congrArg some (by kernel_rfl))
  t0:=Tryz.underlying0
  a0:=Tryz.isAgg0
  z0:=Tryz.sizeOf0
  v0:=Tryz.zeroValue0
  t3:=Tryz.underlying3
  a3:=Tryz.isAgg3
  z3:=Tryz.sizeOf3
  v3:=Tryz.zeroValue3
  t4:=Tryz.underlying4
  a4:=Tryz.isAgg4
  z4:=Tryz.sizeOf4
  v4:=Tryz.zeroValue4
  t5:=Tryz.underlying5
  a5:=Tryz.isAgg5
  z5:=Tryz.sizeOf5
  v5:=Tryz.zeroValue5
  t9:=Tryz.underlying9
  a9:=Tryz.isAgg9
  z9:=Tryz.sizeOf9
  v9:=Tryz.zeroValue9
  t21:=Tryz.underlying21
  a21:=Tryz.isAgg21
  z21:=Tryz.sizeOf21
  v21:=Tryz.zeroValue21
  t46:=Tryz.underlying255
  a46:=Tryz.isAgg255
  z46:=Tryz.sizeOf255
  v46:=Tryz.zeroValue255
  t105:=Tryz.underlying272
  a105:=Tryz.isAgg272
  z105:=Tryz.sizeOf272
  v105:=Tryz.zeroValue272
  t116:=Tryz.underlying247
  a116:=Tryz.isAgg247
  z116:=Tryz.sizeOf247
  t117:=Tryz.underlying248
  a117:=Tryz.isAgg248
  z117:=Tryz.sizeOf248
  v117:=Tryz.zeroValue248
  t119:=Tryz.underlying292
  a119:=Tryz.isAgg292
  z119:=Tryz.sizeOf292
  t124:=Tryz.underlying251
  a124:=Tryz.isAgg251
  z124:=Tryz.sizeOf251
  v124:=Tryz.zeroValue251
  t138:=Tryz.underlying294
  a138:=Tryz.isAgg294
  z138:=Tryz.sizeOf294
  v138:=Tryz.zeroValue294
  t139:=Tryz.underlying295
  a139:=Tryz.isAgg295
  z139:=Tryz.sizeOf295
  v139:=Tryz.zeroValue295
  g3:=by kernel_rfl
  g4:=by kernel_rfl}
def Tryz.lays119_ren:Go.Shelf.Ren:=⟨λ |119=>274|n=>n,λ |21=>21|4=>4|n=>n,λ |n=>n⟩
theorem Tryz.lays119:Go.Proofs.Lays.n119 Tryz.prog Tryz.lays119_ren:={
  mixed:=by kernel_rfl
  f119:=Tryz.func274.trans (congrArg some (by kernel_rfl))
  t4:=Tryz.underlying4
  a4:=Tryz.isAgg4
  z4:=Tryz.sizeOf4
  v4:=Tryz.zeroValue4
  t21:=Tryz.underlying21
  a21:=Tryz.isAgg21
  z21:=Tryz.sizeOf21
  v21:=Tryz.zeroValue21}
theorem Tryz.utf8_ValidRune(r:Int)(w:World):
    Calls Tryz.prog 274 #[.int .i32 r] w λe w'=>e= .returned (.bool (Lib.validRune r))∧w'=w:=Any.utf8_ValidRune Tryz.lays119 r w
def Tryz.lays137_ren:Go.Shelf.Ren:=⟨λ |137=>222|217=>252|266=>273|n=>n,λ |9=>9|5=>5|3=>3|n=>n,λ |n=>n⟩
theorem Tryz.lays137:Go.Proofs.Lays.n137 Tryz.prog Tryz.lays137_ren:={
  mixed:=by kernel_rfl
  f137:=Tryz.func222.trans (congrArg some (by kernel_rfl))
  f217:=Tryz.func252.trans (congrArg some (by kernel_rfl))
  f266:=Tryz.func273.trans (congrArg some (by kernel_rfl))
  t3:=Tryz.underlying3
  a3:=Tryz.isAgg3
  z3:=Tryz.sizeOf3
  v3:=Tryz.zeroValue3
  t5:=Tryz.underlying5
  a5:=Tryz.isAgg5
  z5:=Tryz.sizeOf5
  v5:=Tryz.zeroValue5
  t9:=Tryz.underlying9
  a9:=Tryz.isAgg9
  z9:=Tryz.sizeOf9
  v9:=Tryz.zeroValue9}
open Go.RowKit in
theorem Tryz.strings_IndexByte(s:ByteArray)(c:Int)(w:World):
    Calls Tryz.prog 222 #[.string s,.int .u8 c] w λe w'=>e= .returned (.int .i64 (Lib.indexByte s.data.toList c.toNat.toUInt8))∧w'=w:=Any.strings_IndexByte Tryz.lays137 s c w
open Go.RowKit in
theorem Tryz.Builder_Len_f(B b:Nat)(bs:List Value)(w:World)(h:Lib.IsBuilderF 219 5 B b bs w):
    Calls Tryz.prog 204 #[.pointer (some ⟨b,0,none⟩)] w λe w'=>e= .returned (.int .i64 bs.length)∧w'=w:=Any.Builder_Len_f Tryz.lays170 B b bs w h
open Go.RowKit in
theorem Tryz.Builder_String_any_k(B b:Nat)(l:List UInt8)(w:World)(h:Lib.IsBuilderF 219 5 B b (Lib.byteCells l) w)(hBw:B≤w.heap.size):
    Calls Tryz.prog 205 #[.pointer (some ⟨b,0,none⟩)] w λe w'=>e= .returned (.string ⟨l.toArray⟩)∧(Lib.IsBuilderF 219 5 B b (Lib.byteCells l) w'∧Below B w w'∧Lib.OthersKept 5 (some b) w w'):=Any.Builder_String_any_k Tryz.lays169 Tryz.Builder_Extra_169 B b l w h hBw
def Tryz.lays172_ren:Go.Shelf.Ren:=⟨λ |172=>113|244=>159|245=>160|247=>206|279=>207|280=>208|281=>209|282=>210|287=>239|316=>247|171=>101|205=>248|321=>264|322=>265|243=>146|246=>186|283=>227|284=>228|285=>229|286=>230|129=>257|317=>256|318=>258|319=>259|320=>260|337=>277|338=>278|n=>n,λ |9=>9|3=>3|75=>149|76=>150|4=>4|5=>5|167=>224|37=>217|0=>0|85=>225|2=>2|168=>227|53=>207|175=>208|46=>255|210=>261|127=>259|145=>285|143=>283|21=>21|171=>240|173=>243|212=>268|51=>269|20=>20|213=>270|232=>290|233=>291|80=>223|n=>n,λ |15=>0|16=>1|17=>2|18=>4|19=>5|n=>n⟩
theorem Tryz.lays172:Go.Proofs.Lays.n172 Tryz.prog Tryz.lays172_ren:={
  mixed:=by kernel_rfl
  f129:=Tryz.func257.trans (congrArg some (by kernel_rfl))
  f171:=Tryz.func101.trans (congrArg some (by kernel_rfl))
  f172:=Tryz.func113.trans (congrArg some (by kernel_rfl))
  f205:=Tryz.func248.trans (congrArg some (by kernel_rfl))
  f243:=Tryz.func146.trans (congrArg some (by kernel_rfl))
  f244:=Tryz.func159.trans (congrArg some (by kernel_rfl))
  f245:=Tryz.func160.trans (congrArg some (by kernel_rfl))
  f246:=Tryz.func186.trans (congrArg some (by kernel_rfl))
  f247:=Tryz.func206.trans (congrArg some (by kernel_rfl))
  f279:=Tryz.func207.trans (congrArg some (by kernel_rfl))
  f280:=Tryz.func208.trans (congrArg some (by kernel_rfl))
  f281:=Tryz.func209.trans (congrArg some (by kernel_rfl))
  f282:=Tryz.func210.trans (congrArg some (by kernel_rfl))
  f283:=Tryz.func227.trans (congrArg some (by kernel_rfl))
  f284:=Tryz.func228.trans (congrArg some (by kernel_rfl))
  f285:=Tryz.func229.trans (congrArg some (by kernel_rfl))
  f286:=Tryz.func230.trans (congrArg some (by kernel_rfl))
  f287:=Tryz.func239.trans (congrArg some (by kernel_rfl))
  f316:=Tryz.func247.trans (congrArg some (by kernel_rfl))
  f317:=Tryz.func256.trans (congrArg some (by kernel_rfl))
  f318:=Tryz.func258.trans (congrArg some (by kernel_rfl))
  f319:=Tryz.func259.trans (congrArg some (by kernel_rfl))
  f320:=Tryz.func260.trans (congrArg some (by kernel_rfl))
  f321:=Tryz.func264.trans (congrArg some (by kernel_rfl))
  f322:=Tryz.func265.trans (congrArg some (by kernel_rfl))
  f337:=Tryz.func277.trans (congrArg some (by kernel_rfl))
  f338:=Tryz.func278.trans (congrArg some (by kernel_rfl))
  t0:=Tryz.underlying0
  a0:=Tryz.isAgg0
  z0:=Tryz.sizeOf0
  v0:=Tryz.zeroValue0
  t2:=Tryz.underlying2
  a2:=Tryz.isAgg2
  z2:=Tryz.sizeOf2
  v2:=Tryz.zeroValue2
  t3:=Tryz.underlying3
  a3:=Tryz.isAgg3
  z3:=Tryz.sizeOf3
  v3:=Tryz.zeroValue3
  t4:=Tryz.underlying4
  a4:=Tryz.isAgg4
  z4:=Tryz.sizeOf4
  v4:=Tryz.zeroValue4
  t5:=Tryz.underlying5
  a5:=Tryz.isAgg5
  z5:=Tryz.sizeOf5
  v5:=Tryz.zeroValue5
  t9:=Tryz.underlying9
  a9:=Tryz.isAgg9
  z9:=Tryz.sizeOf9
  v9:=Tryz.zeroValue9
  t20:=Tryz.underlying20
  a20:=Tryz.isAgg20
  z20:=Tryz.sizeOf20
  v20:=Tryz.zeroValue20
  t21:=Tryz.underlying21
  a21:=Tryz.isAgg21
  z21:=Tryz.sizeOf21
  v21:=Tryz.zeroValue21
  t37:=Tryz.underlying217
  a37:=Tryz.isAgg217
  z37:=Tryz.sizeOf217
  v37:=Tryz.zeroValue217
  t46:=Tryz.underlying255
  a46:=Tryz.isAgg255
  z46:=Tryz.sizeOf255
  v46:=Tryz.zeroValue255
  t51:=Tryz.underlying269
  a51:=Tryz.isAgg269
  z51:=Tryz.sizeOf269
  v51:=Tryz.zeroValue269
  t53:=Tryz.underlying207
  a53:=Tryz.isAgg207
  z53:=Tryz.sizeOf207
  v53:=Tryz.zeroValue207
  t75:=Tryz.underlying149
  a75:=Tryz.isAgg149
  z75:=Tryz.sizeOf149
  v75:=Tryz.zeroValue149
  t76:=Tryz.underlying150
  a76:=Tryz.isAgg150
  z76:=Tryz.sizeOf150
  v76:=Tryz.zeroValue150
  t85:=Tryz.underlying225
  a85:=Tryz.isAgg225
  z85:=Tryz.sizeOf225
  v85:=Tryz.zeroValue225
  t127:=Tryz.underlying259
  a127:=Tryz.isAgg259
  z127:=Tryz.sizeOf259
  v127:=Tryz.zeroValue259
  t143:=Tryz.underlying283
  a143:=Tryz.isAgg283
  z143:=Tryz.sizeOf283
  v143:=Tryz.zeroValue283
  t145:=Tryz.underlying285
  a145:=Tryz.isAgg285
  z145:=Tryz.sizeOf285
  v145:=Tryz.zeroValue285
  t167:=Tryz.underlying224
  a167:=Tryz.isAgg224
  z167:=Tryz.sizeOf224
  v167:=Tryz.zeroValue224
  t168:=Tryz.underlying227
  a168:=Tryz.isAgg227
  z168:=Tryz.sizeOf227
  v168:=Tryz.zeroValue227
  t171:=Tryz.underlying240
  a171:=Tryz.isAgg240
  z171:=Tryz.sizeOf240
  v171:=Tryz.zeroValue240
  t173:=Tryz.underlying243
  a173:=Tryz.isAgg243
  z173:=Tryz.sizeOf243
  v173:=Tryz.zeroValue243
  t175:=Tryz.underlying208
  a175:=Tryz.isAgg208
  z175:=Tryz.sizeOf208
  v175:=Tryz.zeroValue208
  t210:=Tryz.underlying261
  a210:=Tryz.isAgg261
  z210:=Tryz.sizeOf261
  v210:=Tryz.zeroValue261
  t212:=Tryz.underlying268
  a212:=Tryz.isAgg268
  z212:=Tryz.sizeOf268
  v212:=Tryz.zeroValue268
  t213:=Tryz.underlying270
  a213:=Tryz.isAgg270
  z213:=Tryz.sizeOf270
  t232:=Tryz.underlying290
  a232:=Tryz.isAgg290
  z232:=Tryz.sizeOf290
  v232:=Tryz.zeroValue290
  t233:=Tryz.underlying291
  a233:=Tryz.isAgg291
  z233:=Tryz.sizeOf291
  v233:=Tryz.zeroValue291
  g15:=by kernel_rfl
  g16:=by kernel_rfl
  g17:=by kernel_rfl
  g18:=by kernel_rfl
  g19:=by kernel_rfl}
open Go.RowKit in
theorem Tryz.strconv_Atoi(s:ByteArray)(n:Int)(hl:s.size≤18)(h:Lib.atoi s.data.toList=some n)(w:World):
    Calls Tryz.prog 113 #[.string s] w λe w'=>e= .returned (.tuple #[.int .i64 n,.nilIface])∧∃t,w'=Lib.bytesWorld w 5 t:=Any.strconv_Atoi Tryz.lays172 s n hl h w
def Tryz.lays283_ren:Go.Shelf.Ren:=⟨λ |283=>227|n=>n,λ |3=>3|9=>9|4=>4|n=>n,λ |n=>n⟩
theorem Tryz.lays283:Go.Proofs.Lays.n283 Tryz.prog Tryz.lays283_ren:={
  mixed:=by kernel_rfl
  f283:=Tryz.func227.trans (congrArg some (by kernel_rfl))
  t3:=Tryz.underlying3
  a3:=Tryz.isAgg3
  z3:=Tryz.sizeOf3
  v3:=Tryz.zeroValue3
  t4:=Tryz.underlying4
  a4:=Tryz.isAgg4
  z4:=Tryz.sizeOf4
  v4:=Tryz.zeroValue4
  t9:=Tryz.underlying9
  a9:=Tryz.isAgg9
  z9:=Tryz.sizeOf9
  v9:=Tryz.zeroValue9}
open Go.Lib in
theorem Tryz.internal_strconv_small(i:Nat)(h:i<100)(w:World):
    Calls Tryz.prog 227 #[.int .i64 i] w λe w'=>e= .returned (.string ⟨(Lib.decDigits i).toArray⟩)∧w'=w:=Any.internal_strconv_small Tryz.lays283 i h w
def Tryz.laysM284_ren:Go.Shelf.Ren:=⟨λ |284=>228|129=>257|317=>256|318=>258|n=>n,λ |53=>207|3=>3|212=>268|0=>0|4=>4|46=>255|5=>5|9=>9|n=>n,λ |17=>2|n=>n⟩
theorem Tryz.laysM284:Go.Proofs.LaysM.n284 Tryz.prog Tryz.laysM284_ren:={
  mixed:=by kernel_rfl
  f129:=Tryz.func257.trans (congrArg some (by kernel_rfl))
  f284:=Tryz.func228.trans (congrArg some (by kernel_rfl))
  f317:=Tryz.func256.trans (congrArg some (by kernel_rfl))
  f318:=Tryz.func258.trans (congrArg some (by kernel_rfl))
  t0:=Tryz.underlying0
  a0:=Tryz.isAgg0
  z0:=Tryz.sizeOf0
  v0:=Tryz.zeroValue0
  t3:=Tryz.underlying3
  a3:=Tryz.isAgg3
  z3:=Tryz.sizeOf3
  v3:=Tryz.zeroValue3
  t4:=Tryz.underlying4
  a4:=Tryz.isAgg4
  z4:=Tryz.sizeOf4
  v4:=Tryz.zeroValue4
  t5:=Tryz.underlying5
  a5:=Tryz.isAgg5
  z5:=Tryz.sizeOf5
  v5:=Tryz.zeroValue5
  t9:=Tryz.underlying9
  a9:=Tryz.isAgg9
  z9:=Tryz.sizeOf9
  v9:=Tryz.zeroValue9
  t46:=Tryz.underlying255
  a46:=Tryz.isAgg255
  z46:=Tryz.sizeOf255
  v46:=Tryz.zeroValue255
  t53:=Tryz.underlying207
  a53:=Tryz.isAgg207
  z53:=Tryz.sizeOf207
  v53:=Tryz.zeroValue207
  t212:=Tryz.underlying268
  a212:=Tryz.isAgg268
  z212:=Tryz.sizeOf268
  v212:=Tryz.zeroValue268
  g17:=by kernel_rfl
  i0:=by kernel_rfl
  i3:=by kernel_rfl
  i4:=by kernel_rfl
  i5:=by kernel_rfl
  i9:=by kernel_rfl
  i46:=by kernel_rfl
  i53:=by kernel_rfl
  i212:=by kernel_rfl
  m17:=by kernel_rfl}
open Go.Lib in
theorem Tryz.internal_strconv_numDigits(u:Nat)(h1:1≤u)(h2:u<18446744073709551616)(w:World)(htab:Lib.TabIs Tryz.prog w "internal/strconv.uint64pow10" .u64 Lib.pow10Tab):
    Calls Tryz.prog 228 #[.int .u64 u] w λe w'=>e= .returned (.int .i64 (Lib.nDigits u))∧w'=w:=Any.internal_strconv_numDigits Tryz.laysM284 u h1 h2 w htab
def Tryz.lays285_ren:Go.Shelf.Ren:=⟨λ |285=>229|n=>n,λ |37=>217|53=>207|3=>3|4=>4|51=>269|9=>9|5=>5|0=>0|n=>n,λ |n=>n⟩
theorem Tryz.lays285:Go.Proofs.Lays.n285 Tryz.prog Tryz.lays285_ren:={
  mixed:=by kernel_rfl
  f285:=Tryz.func229.trans (congrArg some (by kernel_rfl))
  t0:=Tryz.underlying0
  a0:=Tryz.isAgg0
  z0:=Tryz.sizeOf0
  v0:=Tryz.zeroValue0
  t3:=Tryz.underlying3
  a3:=Tryz.isAgg3
  z3:=Tryz.sizeOf3
  v3:=Tryz.zeroValue3
  t4:=Tryz.underlying4
  a4:=Tryz.isAgg4
  z4:=Tryz.sizeOf4
  v4:=Tryz.zeroValue4
  t5:=Tryz.underlying5
  a5:=Tryz.isAgg5
  z5:=Tryz.sizeOf5
  v5:=Tryz.zeroValue5
  t9:=Tryz.underlying9
  a9:=Tryz.isAgg9
  z9:=Tryz.sizeOf9
  v9:=Tryz.zeroValue9
  t37:=Tryz.underlying217
  a37:=Tryz.isAgg217
  z37:=Tryz.sizeOf217
  v37:=Tryz.zeroValue217
  t51:=Tryz.underlying269
  a51:=Tryz.isAgg269
  z51:=Tryz.sizeOf269
  v51:=Tryz.zeroValue269
  t53:=Tryz.underlying207
  a53:=Tryz.isAgg207
  z53:=Tryz.sizeOf207
  v53:=Tryz.zeroValue207}
open Go.RowKit Go.Sort Go.Lib in
theorem Tryz.internal_strconv_formatBase10(blk off cap:Nat)(u:Nat)(d:Array UInt8)(w:World)(hH:Holds (λ(b:UInt8)=>Value.int .u8 (b.toNat:Int)) w blk off d)(hu:u<10^d.size)(hu64:u<18446744073709551616)(hsz:d.size<4611686018427387904):
    Calls Tryz.prog 229 #[.slice (some ⟨blk,off,none⟩) d.size cap,.int .u64 u] w λe w'=>
      e= .returned (.tuple #[])∧∃(n v':Nat)(dk:Array UInt8),w'=(putRow (λ(b:UInt8)=>Value.int .u8 (b.toNat:Int)) w blk off dk).drewN n∧FmtInv d.size u 0 v' dk:=Any.internal_strconv_formatBase10 Tryz.lays285 blk off cap u d w hH hu hu64 hsz
def Tryz.laysM171_ren:Go.Shelf.Ren:=⟨λ |171=>101|243=>146|246=>186|283=>227|284=>228|285=>229|286=>230|129=>257|317=>256|318=>258|319=>259|320=>260|337=>277|338=>278|n=>n,λ |3=>3|9=>9|2=>2|4=>4|171=>240|0=>0|53=>207|37=>217|5=>5|173=>243|212=>268|51=>269|20=>20|213=>270|46=>255|232=>290|233=>291|n=>n,λ |17=>2|18=>4|19=>5|n=>n⟩
theorem Tryz.laysM171:Go.Proofs.LaysM.n171 Tryz.prog Tryz.laysM171_ren:={
  mixed:=by kernel_rfl
  f129:=Tryz.func257.trans (congrArg some (by kernel_rfl))
  f171:=Tryz.func101.trans (congrArg some (by kernel_rfl))
  f243:=Tryz.func146.trans (congrArg some (by kernel_rfl))
  f246:=Tryz.func186.trans (congrArg some (by kernel_rfl))
  f283:=Tryz.func227.trans (congrArg some (by kernel_rfl))
  f284:=Tryz.func228.trans (congrArg some (by kernel_rfl))
  f285:=Tryz.func229.trans (congrArg some (by kernel_rfl))
  f286:=Tryz.func230.trans (congrArg some (by kernel_rfl))
  f317:=Tryz.func256.trans (congrArg some (by kernel_rfl))
  f318:=Tryz.func258.trans (congrArg some (by kernel_rfl))
  f319:=Tryz.func259.trans (congrArg some (by kernel_rfl))
  f320:=Tryz.func260.trans (congrArg some (by kernel_rfl))
  f337:=Tryz.func277.trans (congrArg some (by kernel_rfl))
  f338:=Tryz.func278.trans (congrArg some (by kernel_rfl))
  t0:=Tryz.underlying0
  a0:=Tryz.isAgg0
  z0:=Tryz.sizeOf0
  v0:=Tryz.zeroValue0
  t2:=Tryz.underlying2
  a2:=Tryz.isAgg2
  z2:=Tryz.sizeOf2
  v2:=Tryz.zeroValue2
  t3:=Tryz.underlying3
  a3:=Tryz.isAgg3
  z3:=Tryz.sizeOf3
  v3:=Tryz.zeroValue3
  t4:=Tryz.underlying4
  a4:=Tryz.isAgg4
  z4:=Tryz.sizeOf4
  v4:=Tryz.zeroValue4
  t5:=Tryz.underlying5
  a5:=Tryz.isAgg5
  z5:=Tryz.sizeOf5
  v5:=Tryz.zeroValue5
  t9:=Tryz.underlying9
  a9:=Tryz.isAgg9
  z9:=Tryz.sizeOf9
  v9:=Tryz.zeroValue9
  t20:=Tryz.underlying20
  a20:=Tryz.isAgg20
  z20:=Tryz.sizeOf20
  v20:=Tryz.zeroValue20
  t37:=Tryz.underlying217
  a37:=Tryz.isAgg217
  z37:=Tryz.sizeOf217
  v37:=Tryz.zeroValue217
  t46:=Tryz.underlying255
  a46:=Tryz.isAgg255
  z46:=Tryz.sizeOf255
  v46:=Tryz.zeroValue255
  t51:=Tryz.underlying269
  a51:=Tryz.isAgg269
  z51:=Tryz.sizeOf269
  v51:=Tryz.zeroValue269
  t53:=Tryz.underlying207
  a53:=Tryz.isAgg207
  z53:=Tryz.sizeOf207
  v53:=Tryz.zeroValue207
  t171:=Tryz.underlying240
  a171:=Tryz.isAgg240
  z171:=Tryz.sizeOf240
  v171:=Tryz.zeroValue240
  t173:=Tryz.underlying243
  a173:=Tryz.isAgg243
  z173:=Tryz.sizeOf243
  v173:=Tryz.zeroValue243
  t212:=Tryz.underlying268
  a212:=Tryz.isAgg268
  z212:=Tryz.sizeOf268
  v212:=Tryz.zeroValue268
  t213:=Tryz.underlying270
  a213:=Tryz.isAgg270
  z213:=Tryz.sizeOf270
  t232:=Tryz.underlying290
  a232:=Tryz.isAgg290
  z232:=Tryz.sizeOf290
  v232:=Tryz.zeroValue290
  t233:=Tryz.underlying291
  a233:=Tryz.isAgg291
  z233:=Tryz.sizeOf291
  v233:=Tryz.zeroValue291
  g17:=by kernel_rfl
  g18:=by kernel_rfl
  g19:=by kernel_rfl
  i0:=by kernel_rfl
  i2:=by kernel_rfl
  i3:=by kernel_rfl
  i4:=by kernel_rfl
  i5:=by kernel_rfl
  i9:=by kernel_rfl
  i20:=by kernel_rfl
  i37:=by kernel_rfl
  i46:=by kernel_rfl
  i51:=by kernel_rfl
  i53:=by kernel_rfl
  i171:=by kernel_rfl
  i173:=by kernel_rfl
  i212:=by kernel_rfl
  i232:=by kernel_rfl
  i233:=by kernel_rfl
  m17:=by kernel_rfl
  m18:=by kernel_rfl
  m19:=by kernel_rfl}
open Go.RowKit Go.Sort Go.Lib in
theorem Tryz.strconv_Itoa(n:Int)(h0: -9223372036854775808≤n)(h1:n≤9223372036854775807)(w:World)(htab:Lib.TabIs Tryz.prog w "internal/strconv.uint64pow10" .u64 Lib.pow10Tab):
    Calls Tryz.prog 101 #[.int .i64 n] w λe w'=>e= .returned (.string ⟨(Lib.itoa n).toArray⟩)∧∃k os,w'=grow (w.drewN k) os:=Any.strconv_Itoa Tryz.laysM171 n h0 h1 w htab
def Tryz.lays287_ren:Go.Shelf.Ren:=⟨λ |287=>239|321=>264|322=>265|n=>n,λ |9=>9|3=>3|53=>207|75=>149|4=>4|167=>224|5=>5|46=>255|37=>217|0=>0|21=>21|80=>223|n=>n,λ |n=>n⟩
theorem Tryz.lays287:Go.Proofs.Lays.n287 Tryz.prog Tryz.lays287_ren:={
  mixed:=by kernel_rfl
  f287:=Tryz.func239.trans (congrArg some (by kernel_rfl))
  f321:=Tryz.func264.trans (congrArg some (by kernel_rfl))
  f322:=Tryz.func265.trans (congrArg some (by kernel_rfl))
  t0:=Tryz.underlying0
  a0:=Tryz.isAgg0
  z0:=Tryz.sizeOf0
  v0:=Tryz.zeroValue0
  t3:=Tryz.underlying3
  a3:=Tryz.isAgg3
  z3:=Tryz.sizeOf3
  v3:=Tryz.zeroValue3
  t4:=Tryz.underlying4
  a4:=Tryz.isAgg4
  z4:=Tryz.sizeOf4
  v4:=Tryz.zeroValue4
  t5:=Tryz.underlying5
  a5:=Tryz.isAgg5
  z5:=Tryz.sizeOf5
  v5:=Tryz.zeroValue5
  t9:=Tryz.underlying9
  a9:=Tryz.isAgg9
  z9:=Tryz.sizeOf9
  v9:=Tryz.zeroValue9
  t21:=Tryz.underlying21
  a21:=Tryz.isAgg21
  z21:=Tryz.sizeOf21
  v21:=Tryz.zeroValue21
  t37:=Tryz.underlying217
  a37:=Tryz.isAgg217
  z37:=Tryz.sizeOf217
  v37:=Tryz.zeroValue217
  t46:=Tryz.underlying255
  a46:=Tryz.isAgg255
  z46:=Tryz.sizeOf255
  v46:=Tryz.zeroValue255
  t53:=Tryz.underlying207
  a53:=Tryz.isAgg207
  z53:=Tryz.sizeOf207
  v53:=Tryz.zeroValue207
  t75:=Tryz.underlying149
  a75:=Tryz.isAgg149
  z75:=Tryz.sizeOf149
  v75:=Tryz.zeroValue149
  t167:=Tryz.underlying224
  a167:=Tryz.isAgg224
  z167:=Tryz.sizeOf224
  v167:=Tryz.zeroValue224}
def Tryz.laysC172_ren:Go.Shelf.Ren:=⟨λ |172=>113|244=>159|245=>160|247=>206|279=>207|280=>208|281=>209|282=>210|287=>239|316=>247|171=>101|205=>248|321=>264|322=>265|243=>146|246=>186|283=>227|284=>228|285=>229|286=>230|129=>257|317=>256|318=>258|319=>259|320=>260|337=>277|338=>278|n=>n,λ |9=>9|3=>3|75=>149|76=>150|4=>4|5=>5|167=>224|37=>217|0=>0|85=>225|2=>2|168=>227|53=>207|175=>208|46=>255|210=>261|127=>259|145=>285|143=>283|21=>21|171=>240|173=>243|212=>268|51=>269|20=>20|213=>270|232=>290|233=>291|80=>223|n=>n,λ |15=>0|16=>1|17=>2|18=>4|19=>5|n=>n⟩
theorem Tryz.laysC172:Go.Proofs.LaysC.n172 Tryz.prog Tryz.laysC172_ren:={
  mixed:=by kernel_rfl
  f129:=Tryz.func257.trans (congrArg some (by kernel_rfl))
  f171:=Tryz.func101.trans (congrArg some (by kernel_rfl))
  f172:=Tryz.func113.trans (congrArg some (by kernel_rfl))
  f205:=Tryz.func248.trans (congrArg some (by kernel_rfl))
  f243:=Tryz.func146.trans (congrArg some (by kernel_rfl))
  f244:=Tryz.func159.trans (congrArg some (by kernel_rfl))
  f245:=Tryz.func160.trans (congrArg some (by kernel_rfl))
  f246:=Tryz.func186.trans (congrArg some (by kernel_rfl))
  f247:=Tryz.func206.trans (congrArg some (by kernel_rfl))
  f279:=Tryz.func207.trans (congrArg some (by kernel_rfl))
  f280:=Tryz.func208.trans (congrArg some (by kernel_rfl))
  f281:=Tryz.func209.trans (congrArg some (by kernel_rfl))
  f282:=Tryz.func210.trans (congrArg some (by kernel_rfl))
  f283:=Tryz.func227.trans (congrArg some (by kernel_rfl))
  f284:=Tryz.func228.trans (congrArg some (by kernel_rfl))
  f285:=Tryz.func229.trans (congrArg some (by kernel_rfl))
  f286:=Tryz.func230.trans (congrArg some (by kernel_rfl))
  f287:=Tryz.func239.trans (congrArg some (by kernel_rfl))
  f316:=Tryz.func247.trans (congrArg some (by kernel_rfl))
  f317:=Tryz.func256.trans (congrArg some (by kernel_rfl))
  f318:=Tryz.func258.trans (congrArg some (by kernel_rfl))
  f319:=Tryz.func259.trans (congrArg some (by kernel_rfl))
  f320:=Tryz.func260.trans (congrArg some (by kernel_rfl))
  f321:=Tryz.func264.trans (congrArg some (by kernel_rfl))
  f322:=Tryz.func265.trans (congrArg some (by kernel_rfl))
  f337:=Tryz.func277.trans (congrArg some (by kernel_rfl))
  f338:=Tryz.func278.trans (congrArg some (by kernel_rfl))
  t0:=Tryz.underlying0
  a0:=Tryz.isAgg0
  z0:=Tryz.sizeOf0
  v0:=Tryz.zeroValue0
  t2:=Tryz.underlying2
  a2:=Tryz.isAgg2
  z2:=Tryz.sizeOf2
  v2:=Tryz.zeroValue2
  t3:=Tryz.underlying3
  a3:=Tryz.isAgg3
  z3:=Tryz.sizeOf3
  v3:=Tryz.zeroValue3
  t4:=Tryz.underlying4
  a4:=Tryz.isAgg4
  z4:=Tryz.sizeOf4
  v4:=Tryz.zeroValue4
  t5:=Tryz.underlying5
  a5:=Tryz.isAgg5
  z5:=Tryz.sizeOf5
  v5:=Tryz.zeroValue5
  t9:=Tryz.underlying9
  a9:=Tryz.isAgg9
  z9:=Tryz.sizeOf9
  v9:=Tryz.zeroValue9
  t20:=Tryz.underlying20
  a20:=Tryz.isAgg20
  z20:=Tryz.sizeOf20
  v20:=Tryz.zeroValue20
  t21:=Tryz.underlying21
  a21:=Tryz.isAgg21
  z21:=Tryz.sizeOf21
  v21:=Tryz.zeroValue21
  t37:=Tryz.underlying217
  a37:=Tryz.isAgg217
  z37:=Tryz.sizeOf217
  v37:=Tryz.zeroValue217
  t46:=Tryz.underlying255
  a46:=Tryz.isAgg255
  z46:=Tryz.sizeOf255
  v46:=Tryz.zeroValue255
  t51:=Tryz.underlying269
  a51:=Tryz.isAgg269
  z51:=Tryz.sizeOf269
  v51:=Tryz.zeroValue269
  t53:=Tryz.underlying207
  a53:=Tryz.isAgg207
  z53:=Tryz.sizeOf207
  v53:=Tryz.zeroValue207
  t75:=Tryz.underlying149
  a75:=Tryz.isAgg149
  z75:=Tryz.sizeOf149
  v75:=Tryz.zeroValue149
  t76:=Tryz.underlying150
  a76:=Tryz.isAgg150
  z76:=Tryz.sizeOf150
  v76:=Tryz.zeroValue150
  t85:=Tryz.underlying225
  a85:=Tryz.isAgg225
  z85:=Tryz.sizeOf225
  v85:=Tryz.zeroValue225
  t127:=Tryz.underlying259
  a127:=Tryz.isAgg259
  z127:=Tryz.sizeOf259
  v127:=Tryz.zeroValue259
  t143:=Tryz.underlying283
  a143:=Tryz.isAgg283
  z143:=Tryz.sizeOf283
  v143:=Tryz.zeroValue283
  t145:=Tryz.underlying285
  a145:=Tryz.isAgg285
  z145:=Tryz.sizeOf285
  v145:=Tryz.zeroValue285
  t167:=Tryz.underlying224
  a167:=Tryz.isAgg224
  z167:=Tryz.sizeOf224
  v167:=Tryz.zeroValue224
  t168:=Tryz.underlying227
  a168:=Tryz.isAgg227
  z168:=Tryz.sizeOf227
  v168:=Tryz.zeroValue227
  t171:=Tryz.underlying240
  a171:=Tryz.isAgg240
  z171:=Tryz.sizeOf240
  v171:=Tryz.zeroValue240
  t173:=Tryz.underlying243
  a173:=Tryz.isAgg243
  z173:=Tryz.sizeOf243
  v173:=Tryz.zeroValue243
  t175:=Tryz.underlying208
  a175:=Tryz.isAgg208
  z175:=Tryz.sizeOf208
  v175:=Tryz.zeroValue208
  t210:=Tryz.underlying261
  a210:=Tryz.isAgg261
  z210:=Tryz.sizeOf261
  v210:=Tryz.zeroValue261
  t212:=Tryz.underlying268
  a212:=Tryz.isAgg268
  z212:=Tryz.sizeOf268
  v212:=Tryz.zeroValue268
  t213:=Tryz.underlying270
  a213:=Tryz.isAgg270
  z213:=Tryz.sizeOf270
  t232:=Tryz.underlying290
  a232:=Tryz.isAgg290
  z232:=Tryz.sizeOf290
  v232:=Tryz.zeroValue290
  t233:=Tryz.underlying291
  a233:=Tryz.isAgg291
  z233:=Tryz.sizeOf291
  v233:=Tryz.zeroValue291
  g15:=by kernel_rfl
  g16:=by kernel_rfl
  g17:=by kernel_rfl
  g18:=by kernel_rfl
  g19:=by kernel_rfl
  t80:=Tryz.underlying223
  a80:=Tryz.isAgg223
  z80:=Tryz.sizeOf223
  v80:=Tryz.zeroValue223
  i0:=by kernel_rfl
  i2:=by kernel_rfl
  i3:=by kernel_rfl
  i4:=by kernel_rfl
  i5:=by kernel_rfl
  i9:=by kernel_rfl
  i20:=by kernel_rfl
  i21:=by kernel_rfl
  i37:=by kernel_rfl
  i46:=by kernel_rfl
  i51:=by kernel_rfl
  i53:=by kernel_rfl
  i75:=by kernel_rfl
  i76:=by kernel_rfl
  i80:=by kernel_rfl
  i85:=by kernel_rfl
  i127:=by kernel_rfl
  i143:=by kernel_rfl
  i145:=by kernel_rfl
  i167:=by kernel_rfl
  i168:=by kernel_rfl
  i171:=by kernel_rfl
  i173:=by kernel_rfl
  i175:=by kernel_rfl
  i210:=by kernel_rfl
  i212:=by kernel_rfl
  i232:=by kernel_rfl
  i233:=by kernel_rfl
  m15:=by kernel_rfl
  m16:=by kernel_rfl
  m17:=by kernel_rfl
  m18:=by kernel_rfl
  m19:=by kernel_rfl
  c0:=by kernel_rfl
  c2:=by kernel_rfl
  c3:=by kernel_rfl
  c4:=by kernel_rfl
  c5:=by kernel_rfl
  c9:=by kernel_rfl
  c20:=by kernel_rfl
  c21:=by kernel_rfl
  c37:=by kernel_rfl
  c46:=by kernel_rfl
  c51:=by kernel_rfl
  c53:=by kernel_rfl
  c75:=by kernel_rfl
  c76:=by kernel_rfl
  c80:=by kernel_rfl
  c85:=by kernel_rfl
  c127:=by kernel_rfl
  c143:=by kernel_rfl
  c145:=by kernel_rfl
  c167:=by kernel_rfl
  c168:=by kernel_rfl
  c171:=by kernel_rfl
  c173:=by kernel_rfl
  c175:=by kernel_rfl
  c210:=by kernel_rfl
  c212:=by kernel_rfl
  c213:=by kernel_rfl
  c232:=by kernel_rfl
  c233:=by kernel_rfl}
open Go.RowKit in
theorem Tryz.strconv_Atoi_ok(s:ByteArray)(hmax:s.size≤9223372036854775806)(v:Int)(h:Lib.atoiAll s.data.toList= .ok v)(w:World):
    Calls Tryz.prog 113 #[.string s] w λe w'=>e= .returned (.tuple #[.int .i64 v,.nilIface])∧(w'=w∨∃t,w'=Lib.bytesWorld w 5 t):=Any.strconv_Atoi_ok Tryz.laysC172 s hmax v h w
def Tryz.lays99_ren:Go.Shelf.Ren:=⟨λ |99=>224|206=>190|n=>n,λ |9=>9|4=>4|3=>3|n=>n,λ |n=>n⟩
theorem Tryz.lays99:Go.Proofs.Lays.n99 Tryz.prog Tryz.lays99_ren:={
  mixed:=by kernel_rfl
  f99:=Tryz.func224.trans (congrArg some (by kernel_rfl))
  f206:=Tryz.func190.trans (congrArg some (by kernel_rfl))
  t3:=Tryz.underlying3
  a3:=Tryz.isAgg3
  z3:=Tryz.sizeOf3
  v3:=Tryz.zeroValue3
  t4:=Tryz.underlying4
  a4:=Tryz.isAgg4
  z4:=Tryz.sizeOf4
  v4:=Tryz.zeroValue4
  t9:=Tryz.underlying9
  a9:=Tryz.isAgg9
  z9:=Tryz.sizeOf9
  v9:=Tryz.zeroValue9}
open Go.RowKit Go.Lib in
theorem Tryz.strings_HasPrefix(s p:ByteArray)(w:World):
    Calls Tryz.prog 224 #[.string s,.string p] w λe w'=>e= .returned (.bool (Lib.hasPrefix s.data.toList p.data.toList))∧w'=w:=Any.strings_HasPrefix Tryz.lays99 s p w
def Tryz.lays101_ren:Go.Shelf.Ren:=⟨λ |101=>107|208=>151|206=>190|n=>n,λ |9=>9|4=>4|3=>3|n=>n,λ |n=>n⟩
theorem Tryz.lays101:Go.Proofs.Lays.n101 Tryz.prog Tryz.lays101_ren:={
  mixed:=by kernel_rfl
  f101:=Tryz.func107.trans (congrArg some (by kernel_rfl))
  f206:=Tryz.func190.trans (congrArg some (by kernel_rfl))
  f208:=Tryz.func151.trans (congrArg some (by kernel_rfl))
  t3:=Tryz.underlying3
  a3:=Tryz.isAgg3
  z3:=Tryz.sizeOf3
  v3:=Tryz.zeroValue3
  t4:=Tryz.underlying4
  a4:=Tryz.isAgg4
  z4:=Tryz.sizeOf4
  v4:=Tryz.zeroValue4
  t9:=Tryz.underlying9
  a9:=Tryz.isAgg9
  z9:=Tryz.sizeOf9
  v9:=Tryz.zeroValue9}
open Go.RowKit Go.Lib in
theorem Tryz.strings_TrimPrefix(s p:ByteArray)(w:World):
    Calls Tryz.prog 107 #[.string s,.string p] w λe w'=>e= .returned (.string ⟨(Lib.trimPrefix s.data.toList p.data.toList).toArray⟩)∧w'=w:=Any.strings_TrimPrefix Tryz.lays101 s p w
def Tryz.lays152_ren:Go.Shelf.Ren:=⟨λ |152=>253|137=>222|119=>274|224=>275|225=>276|217=>252|266=>273|n=>n,λ |9=>9|21=>21|3=>3|4=>4|5=>5|0=>0|46=>255|n=>n,λ |n=>n⟩
theorem Tryz.lays152:Go.Proofs.Lays.n152 Tryz.prog Tryz.lays152_ren:={
  mixed:=by kernel_rfl
  f119:=Tryz.func274.trans (congrArg some (by kernel_rfl))
  f137:=Tryz.func222.trans (congrArg some (by kernel_rfl))
  f152:=Tryz.func253.trans (congrArg some (by kernel_rfl))
  f217:=Tryz.func252.trans (congrArg some (by kernel_rfl))
  f224:=Tryz.func275.trans (congrArg some (by kernel_rfl))
  f225:=Tryz.func276.trans (congrArg some (by kernel_rfl))
  f266:=Tryz.func273.trans (congrArg some (by kernel_rfl))
  t0:=Tryz.underlying0
  a0:=Tryz.isAgg0
  z0:=Tryz.sizeOf0
  v0:=Tryz.zeroValue0
  t3:=Tryz.underlying3
  a3:=Tryz.isAgg3
  z3:=Tryz.sizeOf3
  v3:=Tryz.zeroValue3
  t4:=Tryz.underlying4
  a4:=Tryz.isAgg4
  z4:=Tryz.sizeOf4
  v4:=Tryz.zeroValue4
  t5:=Tryz.underlying5
  a5:=Tryz.isAgg5
  z5:=Tryz.sizeOf5
  v5:=Tryz.zeroValue5
  t9:=Tryz.underlying9
  a9:=Tryz.isAgg9
  z9:=Tryz.sizeOf9
  v9:=Tryz.zeroValue9
  t21:=Tryz.underlying21
  a21:=Tryz.isAgg21
  z21:=Tryz.sizeOf21
  v21:=Tryz.zeroValue21
  t46:=Tryz.underlying255
  a46:=Tryz.isAgg255
  z46:=Tryz.sizeOf255
  v46:=Tryz.zeroValue255}
open Go.RowKit Go.Lib in
theorem Tryz.strings_IndexRune_ascii(s:ByteArray)(r:Int)(w:World)(h0:0≤r)(h1:r<128):
    Calls Tryz.prog 253 #[.string s,.int .i32 r] w λe w'=>e= .returned (.int .i64 (Lib.indexByte s.data.toList r.toNat.toUInt8))∧w'=w:=Any.strings_IndexRune_ascii Tryz.lays152 s r w h0 h1
def Tryz.lays226_ren:Go.Shelf.Ren:=⟨λ |226=>254|n=>n,λ |3=>3|4=>4|n=>n,λ |n=>n⟩
theorem Tryz.lays226:Go.Proofs.Lays.n226 Tryz.prog Tryz.lays226_ren:={
  mixed:=by kernel_rfl
  f226:=Tryz.func254.trans (congrArg some (by kernel_rfl))
  t3:=Tryz.underlying3
  a3:=Tryz.isAgg3
  z3:=Tryz.sizeOf3
  v3:=Tryz.zeroValue3
  t4:=Tryz.underlying4
  a4:=Tryz.isAgg4
  z4:=Tryz.sizeOf4
  v4:=Tryz.zeroValue4}
open Go.RowKit Go.Lib in
theorem Tryz.strings_shouldUseASCIISet(n:Int)(w:World):
    Calls Tryz.prog 254 #[.int .i64 n] w λe w'=>e= .returned (.bool (decide (8<n)))∧w'=w:=Any.strings_shouldUseASCIISet Tryz.lays226 n w
def Tryz.lays153_ren:Go.Shelf.Ren:=⟨λ |153=>223|152=>253|226=>254|227=>234|228=>255|137=>222|119=>274|224=>275|225=>276|217=>252|266=>273|n=>n,λ |9=>9|3=>3|4=>4|5=>5|21=>21|117=>248|116=>247|0=>0|46=>255|124=>251|n=>n,λ |n=>n⟩
theorem Tryz.lays153:Go.Proofs.Lays.n153 Tryz.prog Tryz.lays153_ren:={
  mixed:=by kernel_rfl
  f119:=Tryz.func274.trans (congrArg some (by kernel_rfl))
  f137:=Tryz.func222.trans (congrArg some (by kernel_rfl))
  f152:=Tryz.func253.trans (congrArg some (by kernel_rfl))
  f153:=Tryz.func223.trans (congrArg some (by kernel_rfl))
  f217:=Tryz.func252.trans (congrArg some (by kernel_rfl))
  f224:=Tryz.func275.trans (congrArg some (by kernel_rfl))
  f225:=Tryz.func276.trans (congrArg some (by kernel_rfl))
  f226:=Tryz.func254.trans (congrArg some (by kernel_rfl))
  f227:=Tryz.func234.trans (congrArg some (by kernel_rfl))
  f228:=Tryz.func255.trans (congrArg some (by kernel_rfl))
  f266:=Tryz.func273.trans (congrArg some (by kernel_rfl))
  t0:=Tryz.underlying0
  a0:=Tryz.isAgg0
  z0:=Tryz.sizeOf0
  v0:=Tryz.zeroValue0
  t3:=Tryz.underlying3
  a3:=Tryz.isAgg3
  z3:=Tryz.sizeOf3
  v3:=Tryz.zeroValue3
  t4:=Tryz.underlying4
  a4:=Tryz.isAgg4
  z4:=Tryz.sizeOf4
  v4:=Tryz.zeroValue4
  t5:=Tryz.underlying5
  a5:=Tryz.isAgg5
  z5:=Tryz.sizeOf5
  v5:=Tryz.zeroValue5
  t9:=Tryz.underlying9
  a9:=Tryz.isAgg9
  z9:=Tryz.sizeOf9
  v9:=Tryz.zeroValue9
  t21:=Tryz.underlying21
  a21:=Tryz.isAgg21
  z21:=Tryz.sizeOf21
  v21:=Tryz.zeroValue21
  t46:=Tryz.underlying255
  a46:=Tryz.isAgg255
  z46:=Tryz.sizeOf255
  v46:=Tryz.zeroValue255
  t116:=Tryz.underlying247
  a116:=Tryz.isAgg247
  z116:=Tryz.sizeOf247
  t117:=Tryz.underlying248
  a117:=Tryz.isAgg248
  z117:=Tryz.sizeOf248
  v117:=Tryz.zeroValue248
  t124:=Tryz.underlying251
  a124:=Tryz.isAgg251
  z124:=Tryz.sizeOf251
  v124:=Tryz.zeroValue251}
open Go.RowKit Go.Lib in
theorem Tryz.strings_IndexAny_long(hv116:∀w,(zeroValue 247).run Tryz.prog w= .ok (.agg (Array.replicate 256 (.bool false))) w)(s chars:ByteArray)(w:World)(h2:2≤chars.size)(h8:8<s.size)(hs:s.size<4294967281)(hcs:chars.size<4294967281)(hascii:∀(j:Nat) b,chars.data.toList[j]? =some b->b.toNat<128):
    Calls Tryz.prog 223 #[.string s,.string chars] w λe w'=>e= .returned (.int .i64 (Lib.indexAny s.data.toList chars.data.toList))∧w'=((w.alloc (.cells (Lib.setCells chars.data.toList) 247)).alloc (.cells (Lib.setCells chars.data.toList) 247)):=Any.strings_IndexAny_long Tryz.lays153 hv116 (by kernel_rfl) s chars w h2 h8 hs hcs hascii
def Tryz.lays105_ren:Go.Shelf.Ren:=⟨λ |105=>203|212=>245|99=>224|165=>246|166=>202|170=>204|169=>205|263=>269|264=>270|206=>190|240=>244|241=>271|276=>268|277=>281|n=>n,λ |9=>9|3=>3|4=>4|20=>20|0=>0|46=>255|109=>256|5=>5|72=>219|76=>150|51=>269|146=>279|53=>207|148=>281|70=>216|37=>217|75=>149|127=>259|164=>277|80=>223|n=>n,λ |n=>n⟩
theorem Tryz.lays105:Go.Proofs.Lays.n105 Tryz.prog Tryz.lays105_ren:={
  mixed:=by kernel_rfl
  f99:=Tryz.func224.trans (congrArg some (by kernel_rfl))
  f105:=Tryz.func203.trans (congrArg some (by kernel_rfl))
  f165:=Tryz.func246.trans (congrArg some (by kernel_rfl))
  f166:=Tryz.func202.trans (congrArg some (by kernel_rfl))
  f169:=Tryz.func205.trans (congrArg some (by kernel_rfl))
  f170:=Tryz.func204.trans (congrArg some (by kernel_rfl))
  f206:=Tryz.func190.trans (congrArg some (by kernel_rfl))
  f212:=Tryz.func245.trans (congrArg some (by kernel_rfl))
  f240:=Tryz.func244.trans (congrArg some (by kernel_rfl))
  f241:=Tryz.func271.trans (congrArg some (by kernel_rfl))
  f263:=Tryz.func269.trans (congrArg some (by kernel_rfl))
  f264:=Tryz.func270.trans (congrArg some (by kernel_rfl))
  f276:=Tryz.func268.trans (congrArg some (by kernel_rfl))
  f277:=Tryz.func281.trans (congrArg some (by kernel_rfl))
  t0:=Tryz.underlying0
  a0:=Tryz.isAgg0
  z0:=Tryz.sizeOf0
  v0:=Tryz.zeroValue0
  t3:=Tryz.underlying3
  a3:=Tryz.isAgg3
  z3:=Tryz.sizeOf3
  v3:=Tryz.zeroValue3
  t4:=Tryz.underlying4
  a4:=Tryz.isAgg4
  z4:=Tryz.sizeOf4
  v4:=Tryz.zeroValue4
  t5:=Tryz.underlying5
  a5:=Tryz.isAgg5
  z5:=Tryz.sizeOf5
  v5:=Tryz.zeroValue5
  t9:=Tryz.underlying9
  a9:=Tryz.isAgg9
  z9:=Tryz.sizeOf9
  v9:=Tryz.zeroValue9
  t20:=Tryz.underlying20
  a20:=Tryz.isAgg20
  z20:=Tryz.sizeOf20
  v20:=Tryz.zeroValue20
  t37:=Tryz.underlying217
  a37:=Tryz.isAgg217
  z37:=Tryz.sizeOf217
  v37:=Tryz.zeroValue217
  t46:=Tryz.underlying255
  a46:=Tryz.isAgg255
  z46:=Tryz.sizeOf255
  v46:=Tryz.zeroValue255
  t51:=Tryz.underlying269
  a51:=Tryz.isAgg269
  z51:=Tryz.sizeOf269
  v51:=Tryz.zeroValue269
  t53:=Tryz.underlying207
  a53:=Tryz.isAgg207
  z53:=Tryz.sizeOf207
  v53:=Tryz.zeroValue207
  t70:=Tryz.underlying216
  a70:=Tryz.isAgg216
  z70:=Tryz.sizeOf216
  v70:=Tryz.zeroValue216
  t72:=Tryz.underlying219
  a72:=Tryz.isAgg219
  z72:=Tryz.sizeOf219
  v72:=Tryz.zeroValue219
  t75:=Tryz.underlying149
  a75:=Tryz.isAgg149
  z75:=Tryz.sizeOf149
  v75:=Tryz.zeroValue149
  t76:=Tryz.underlying150
  a76:=Tryz.isAgg150
  z76:=Tryz.sizeOf150
  v76:=Tryz.zeroValue150
  t109:=Tryz.underlying256
  a109:=Tryz.isAgg256
  z109:=Tryz.sizeOf256
  v109:=Tryz.zeroValue256
  t127:=Tryz.underlying259
  a127:=Tryz.isAgg259
  z127:=Tryz.sizeOf259
  v127:=Tryz.zeroValue259
  t146:=Tryz.underlying279
  a146:=Tryz.isAgg279
  z146:=Tryz.sizeOf279
  v146:=Tryz.zeroValue279
  t148:=Tryz.underlying281
  a148:=Tryz.isAgg281
  z148:=Tryz.sizeOf281
  v148:=Tryz.zeroValue281
  t164:=Tryz.underlying277
  a164:=Tryz.isAgg277
  z164:=Tryz.sizeOf277
  v164:=Tryz.zeroValue277}
theorem Tryz.Builder_Extra_105:Builder.Extra Tryz.prog Tryz.lays105_ren:={
  sizeBuilder:=by kernel_rfl
  liesBuilder:=by kernel_rfl
  t5:=Tryz.underlying5
  a5:=Tryz.isAgg5
  z5:=Tryz.sizeOf5
  v5:=Tryz.zeroValue5
  infoByte:=by kernel_rfl
  cellsByte:=by kernel_rfl
  sizeByte:=by kernel_rfl
  neB5:=by decide}
open Go.RowKit Go.Lib in
theorem Tryz.strings_Repeat_main(s:ByteArray)(c:Nat)(w:World)(hc2:2≤c)(hc:c≤9223372036854775807)(hlen:s.size*c≤140737488355328)(h0:0<s.size):
    Calls Tryz.prog 203 #[.string s,.int .i64 c] w λe w'=>e= .returned (.string ⟨(Lib.repeatL s.data.toList c).toArray⟩)∧Below w.heap.size w w':=Any.strings_Repeat_main Tryz.lays105 Tryz.Builder_Extra_105 s c w hc2 hc hlen h0
open Go.RowKit Go.Lib in
theorem Tryz.strings_Repeat_zero(s:ByteArray)(w:World):
    Calls Tryz.prog 203 #[.string s,.int .i64 0] w λe w'=>e= .returned (.string ⟨#[]⟩)∧w'=w:=Any.strings_Repeat_zero Tryz.lays105 s w
open Go.RowKit Go.Lib in
theorem Tryz.strings_Repeat_one(s:ByteArray)(w:World):
    Calls Tryz.prog 203 #[.string s,.int .i64 1] w λe w'=>e= .returned (.string s)∧w'=w:=Any.strings_Repeat_one Tryz.lays105 s w
def Tryz.lays107_ren:Go.Shelf.Ren:=⟨λ |107=>251|108=>272|n=>n,λ |28=>46|3=>3|4=>4|0=>0|n=>n,λ |n=>n⟩
theorem Tryz.lays107:Go.Proofs.Lays.n107 Tryz.prog Tryz.lays107_ren:={
  mixed:=by kernel_rfl
  f107:=Tryz.func251.trans (congrArg some (by kernel_rfl))
  f108:=Tryz.func272.trans (congrArg some (by kernel_rfl))
  t0:=Tryz.underlying0
  a0:=Tryz.isAgg0
  z0:=Tryz.sizeOf0
  v0:=Tryz.zeroValue0
  t3:=Tryz.underlying3
  a3:=Tryz.isAgg3
  z3:=Tryz.sizeOf3
  v3:=Tryz.zeroValue3
  t4:=Tryz.underlying4
  a4:=Tryz.isAgg4
  z4:=Tryz.sizeOf4
  v4:=Tryz.zeroValue4
  t28:=Tryz.underlying46
  a28:=Tryz.isAgg46
  z28:=Tryz.sizeOf46
  v28:=Tryz.zeroValue46}
open Go.Lib in
theorem Tryz.slices_Contains_int(b off n c:Nat)(zs:List Int)(x:Int)(w:World)(hz:n≤zs.length)(hbig:n≤9223372036854775807)(hc:∀j,j<zs.length->w.cell? ⟨b,off+j,none⟩=some (.int .i64 (zs.getD j 0))):
    Calls Tryz.prog 251 #[.slice (some ⟨b,off,none⟩) n c,.int .i64 x] w λe w'=>e= .returned (.bool ((zs.take n).contains x))∧w'=w:=Any.slices_Contains_int Tryz.lays107 b off n c zs x w hz hbig hc
open Go.Lib in
theorem Tryz.slices_Contains_int_empty(a:Option Addr)(c:Nat)(x:Int)(w:World):
    Calls Tryz.prog 251 #[.slice a 0 c,.int .i64 x] w λe w'=>e= .returned (.bool false)∧w'=w:=Any.slices_Contains_int_empty Tryz.lays107 a c x w
def Tryz.lays110_ren:Go.Shelf.Ren:=⟨λ |110=>43|109=>89|n=>n,λ |31=>32|9=>9|4=>4|3=>3|0=>0|n=>n,λ |n=>n⟩
theorem Tryz.lays110:Go.Proofs.Lays.n110 Tryz.prog Tryz.lays110_ren:={
  mixed:=by kernel_rfl
  f109:=Tryz.func89.trans (congrArg some (by kernel_rfl))
  f110:=Tryz.func43.trans (congrArg some (by kernel_rfl))
  t0:=Tryz.underlying0
  a0:=Tryz.isAgg0
  z0:=Tryz.sizeOf0
  v0:=Tryz.zeroValue0
  t3:=Tryz.underlying3
  a3:=Tryz.isAgg3
  z3:=Tryz.sizeOf3
  v3:=Tryz.zeroValue3
  t4:=Tryz.underlying4
  a4:=Tryz.isAgg4
  z4:=Tryz.sizeOf4
  v4:=Tryz.zeroValue4
  t9:=Tryz.underlying9
  a9:=Tryz.isAgg9
  z9:=Tryz.sizeOf9
  v9:=Tryz.zeroValue9
  t31:=Tryz.underlying32
  a31:=Tryz.isAgg32
  z31:=Tryz.sizeOf32
  v31:=Tryz.zeroValue32}
open Go.Lib in
theorem Tryz.slices_Contains_string(b off n c:Nat)(zs:List ByteArray)(x:ByteArray)(w:World)(hz:n≤zs.length)(hbig:n≤9223372036854775807)(hc:∀j,j<zs.length->w.cell? ⟨b,off+j,none⟩=some (.string (zs.getD j ByteArray.empty))):
    Calls Tryz.prog 43 #[.slice (some ⟨b,off,none⟩) n c,.string x] w λe w'=>e= .returned (.bool (Lib.containsS (zs.take n) x))∧w'=w:=Any.slices_Contains_string Tryz.lays110 b off n c zs x w hz hbig hc
open Go.Lib in
theorem Tryz.slices_Contains_string_empty(a:Option Addr)(c:Nat)(x:ByteArray)(w:World):
    Calls Tryz.prog 43 #[.slice a 0 c,.string x] w λe w'=>e= .returned (.bool false)∧w'=w:=Any.slices_Contains_string_empty Tryz.lays110 a c x w
end Go.Proofs
