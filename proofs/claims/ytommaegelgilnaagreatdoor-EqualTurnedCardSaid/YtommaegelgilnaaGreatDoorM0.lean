/- Contracts of Go's library, laid at this program by the kit's tool. -/
import Derived.Shelf.Spec.SlicesInsertGrow
import Derived.Shelf.Small.Utf8
import Derived.Shelf.Small.Wraps
import Derived.Shelf.Strconv.Itoa3
import Derived.Shelf.Strconv.AtoiAll
import Derived.Shelf.Sort.Plain
import Derived.Shelf.Strconv.AppendIntPublic10
import Derived.Shelf.Strings.IndexAnyAll
import Derived.Shelf.Bits.Mul64
import Derived.Shelf.Strings.BuilderCap
import Derived.Shelf.Slices.Turned
import Derived.Shelf.Slices.Clone
import Derived.Shelf.Slices.Cells
import Derived.Shelf.Slices.In.SortNone
import Derived.Shelf.Slices.Empties
import Derived.Shelf.Slices.Empties2
import Derived.Shelf.SlicesE.DeleteFunc
import Derived.Test.YtommaegelgilnaaGreatDoorProg
set_option linter.all false
namespace Go.Proofs.Tryz
open Go.Lib Go.RowKit Go.Shelf Go.Sort
set_option maxRecDepth 100000
theorem zcg{α:Type}{a b:α}(h:a=b:=by kernel_rfl):some a=some b:=congrArg some h
def rn0:Ren:=⟨λ |169=>176|n=>n,λ |70=>237|9=>9|0=>0|72=>240|37=>238|127=>277|3=>3|5=>5|n=>n,λ |n=>n⟩
theorem ly0:Lays.n169 prog rn0:=by repeat' first|kernel_rfl|(intro _;kernel_rfl)|constructor
theorem Builder_Extra_169:Builder.Extra prog rn0:=by repeat' first|kernel_rfl|(intro _;kernel_rfl)|decide|constructor
def rn1:Ren:=⟨λ |119=>262|n=>n,λ |21=>21|4=>4|n=>n,λ |n=>n⟩
theorem ly1:Lays.n119 prog rn1:=by repeat' first|kernel_rfl|(intro _;kernel_rfl)|constructor
theorem utf8_ValidRune(r:Int)(w:World):
 Calls prog 262 #[.int .i32 r] w λe w'=>e= .returned (.bool (Lib.validRune r))/\w'=w:=Any.utf8_ValidRune ly1 r w
def rn2:Ren:=⟨λ |137=>211|217=>239|266=>256|n=>n,λ |9=>9|5=>5|3=>3|n=>n,λ |n=>n⟩
theorem ly2:Lays.n137 prog rn2:=by repeat' first|kernel_rfl|(intro _;kernel_rfl)|constructor
theorem strings_IndexByte(s:ByteArray)(c:Int)(w:World):
 Calls prog 211 #[.string s,.int .u8 c] w λe w'=>e= .returned (.int .i64 (Lib.indexByte s.data.toList c.toNat.toUInt8))/\w'=w:=Any.strings_IndexByte ly2 s c w
theorem Builder_String_any_f(B b:Nat)(l:List UInt8)(w:World)(h:Lib.IsBuilderF 240 5 B b (Lib.byteCells l) w)(hBw:B<=w.heap.size):
 Calls prog 176 #[.pointer (some ⟨b,0,none⟩)] w λe w'=>e= .returned (.string ⟨l.toArray⟩)/\(Lib.IsBuilderF 240 5 B b (Lib.byteCells l) w'/\Below B w w'):=Any.Builder_String_any_f ly0 Builder_Extra_169 B b l w h hBw
def rn3:Ren:=⟨λ |172=>212|244=>240|245=>241|247=>257|279=>258|280=>259|281=>260|282=>261|287=>272|316=>273|171=>175|205=>274|321=>279|322=>280|243=>222|246=>251|283=>267|284=>268|285=>269|286=>270|129=>116|317=>275|318=>276|319=>277|320=>278|337=>281|338=>282|n=>n,λ |9=>9|3=>3|75=>261|76=>262|4=>4|5=>5|167=>294|37=>238|0=>0|85=>295|2=>2|168=>297|53=>172|175=>309|46=>118|210=>313|127=>277|145=>321|143=>319|21=>21|171=>305|173=>307|212=>316|51=>170|20=>20|213=>317|232=>322|233=>323|80=>243|n=>n,λ |15=>1|16=>2|17=>3|18=>4|19=>5|n=>n⟩
theorem ly3:Lays.n172 prog rn3:=by repeat' first|kernel_rfl|(intro _;kernel_rfl)|constructor
theorem strconv_Atoi(s:ByteArray)(n:Int)(hl:s.size<=18)(h:Lib.atoi s.data.toList=some n)(w:World):
 Calls prog 212 #[.string s] w λe w'=>e= .returned (.tuple #[.int .i64 n,.nilIface])/\∃t,w'=Lib.bytesWorld w 5 t:=Any.strconv_Atoi ly3 s n hl h w
def rn4:Ren:=⟨λ |171=>175|243=>222|246=>251|283=>267|284=>268|285=>269|286=>270|129=>116|317=>275|318=>276|319=>277|320=>278|337=>281|338=>282|n=>n,λ |3=>3|9=>9|2=>2|4=>4|171=>305|0=>0|53=>172|37=>238|5=>5|173=>307|212=>316|51=>170|20=>20|213=>317|46=>118|232=>322|233=>323|n=>n,λ |17=>3|18=>4|19=>5|n=>n⟩
theorem ly4:LaysM.n171 prog rn4:=by repeat' first|kernel_rfl|(intro _;kernel_rfl)|constructor
theorem strconv_Itoa(n:Int)(h0: -9223372036854775808<=n)(h1:n<=9223372036854775807)(w:World)(htab:Lib.TabIs prog w "internal/strconv.uint64pow10" .u64 Lib.pow10Tab):
 Calls prog 175 #[.int .i64 n] w λe w'=>e= .returned (.string ⟨(Lib.itoa n).toArray⟩)/\∃k os,w'=grow (w.drewN k) os:=Any.strconv_Itoa ly4 n h0 h1 w htab
def rn5:Ren:=⟨λ |189=>29|125=>64|257=>63|128=>115|129=>116|294=>106|295=>107|296=>108|297=>109|298=>110|299=>111|216=>112|300=>113|301=>114|328=>161|329=>162|330=>163|331=>164|332=>165|215=>166|343=>217|n=>n,λ |28=>33|3=>3|46=>118|0=>0|51=>170|53=>172|4=>4|183=>164|182=>163|131=>143|5=>5|9=>9|218=>226|222=>230|228=>271|229=>272|n=>n,λ |n=>n⟩
theorem ly5:Lays.n189 prog rn5:=by repeat' first|kernel_rfl|(intro _;kernel_rfl)|constructor
theorem slices_Sort_int(blk off cap:Nat)(zs:List Int)(w:World)(hH:Holds (Value.int .i64) w blk off zs.toArray)(hblk:blk<w.heap.size)(hsz:zs.length<4611686018427387904):
 Calls prog 29 #[.slice (some ⟨blk,off,none⟩) zs.length cap] w λe w'=>
 e= .returned (.tuple #[])/\∃n os,w'=grow (putRow (Value.int .i64) (Sort.ahead w n) blk off (zs.mergeSort λx y=>decide (x<=y)).toArray) os:=Any.slices_Sort_int ly5 blk off cap zs w hH hblk hsz
def rn6:Ren:=⟨λ |176=>218|249=>249|288=>265|283=>267|284=>268|285=>269|286=>270|129=>116|317=>275|318=>276|319=>277|320=>278|337=>281|338=>282|n=>n,λ |37=>238|2=>2|3=>3|53=>172|4=>4|9=>9|171=>305|0=>0|173=>307|212=>316|51=>170|5=>5|20=>20|213=>317|46=>118|232=>322|233=>323|n=>n,λ |17=>3|18=>4|19=>5|n=>n⟩
theorem ly6:LaysM.n176 prog rn6:=by repeat' first|kernel_rfl|(intro _;kernel_rfl)|constructor
theorem strconv_AppendInt_10(B n:Nat)(i:Int)(h0: -9223372036854775808<=i)(h1:i<=9223372036854775807)(sv:Value)(xs:List Value)(w:World)(hown:w.ownsRow B 5 1 sv n xs)(hBw:B<=w.heap.size)(hlim:n+21<=140737488355328)(htab:Lib.TabBelow prog B w "internal/strconv.uint64pow10" .u64 Lib.pow10Tab):
 Calls prog 218 #[sv,.int .i64 i,.int .i64 10] w λe w'=>∃v',e= .returned v'/\w'.ownsRow B 5 1 v' (n+(Lib.itoa i).length) (xs++Lib.byteCells (Lib.itoa i))/\Below B w w'/\Lib.OthersKept 5 none w w':=Any.strconv_AppendInt_10 ly6 B n i h0 h1 sv xs w hown hBw hlim htab
def rn7:Ren:=⟨λ |99=>214|206=>246|n=>n,λ |9=>9|4=>4|3=>3|n=>n,λ |n=>n⟩
theorem ly7:Lays.n99 prog rn7:=by repeat' first|kernel_rfl|(intro _;kernel_rfl)|constructor
theorem strings_HasPrefix(s p:ByteArray)(w:World):
 Calls prog 214 #[.string s,.string p] w λe w'=>e= .returned (.bool (Lib.hasPrefix s.data.toList p.data.toList))/\w'=w:=Any.strings_HasPrefix ly7 s p w
def rn8:Ren:=⟨λ |152=>242|137=>211|119=>262|224=>263|225=>264|217=>239|266=>256|n=>n,λ |9=>9|21=>21|3=>3|4=>4|5=>5|0=>0|46=>118|n=>n,λ |n=>n⟩
theorem ly8:Lays.n152 prog rn8:=by repeat' first|kernel_rfl|(intro _;kernel_rfl)|constructor
theorem strings_IndexRune_ascii(s:ByteArray)(r:Int)(w:World)(h0:0<=r)(h1:r<128):
 Calls prog 242 #[.string s,.int .i32 r] w λe w'=>e= .returned (.int .i64 (Lib.indexByte s.data.toList r.toNat.toUInt8))/\w'=w:=Any.strings_IndexRune_ascii ly8 s r w h0 h1
def rn9:Ren:=⟨λ |226=>243|n=>n,λ |3=>3|4=>4|n=>n,λ |n=>n⟩
theorem ly9:Lays.n226 prog rn9:=by repeat' first|kernel_rfl|(intro _;kernel_rfl)|constructor
theorem strings_shouldUseASCIISet(n:Int)(w:World):
 Calls prog 243 #[.int .i64 n] w λe w'=>e= .returned (.bool (decide (8<n)))/\w'=w:=Any.strings_shouldUseASCIISet ly9 n w
def rn10:Ren:=⟨λ |153=>213|152=>242|226=>243|227=>244|228=>245|137=>211|119=>262|224=>263|225=>264|217=>239|266=>256|n=>n,λ |9=>9|3=>3|4=>4|5=>5|21=>21|117=>288|116=>287|0=>0|46=>118|124=>301|n=>n,λ |n=>n⟩
theorem ly10:Lays.n153 prog rn10:=by repeat' first|kernel_rfl|(intro _;kernel_rfl)|constructor
theorem strings_IndexAny_long(hv116:∀w,(zeroValue 287).run prog w= .ok (.agg (Array.replicate 256 (.bool false))) w)(s chars:ByteArray)(w:World)(h2:2<=chars.size)(h8:8<s.size)(hs:s.size<4294967281)(hcs:chars.size<4294967281)(hascii:∀(j:Nat) b,chars.data.toList[j]? =some b->b.toNat<128):
 Calls prog 213 #[.string s,.string chars] w λe w'=>e= .returned (.int .i64 (Lib.indexAny s.data.toList chars.data.toList))/\w'=((w.alloc (.cells (Lib.setCells chars.data.toList) 287)).alloc (.cells (Lib.setCells chars.data.toList) 287)):=Any.strings_IndexAny_long ly10 hv116 (by kernel_rfl) s chars w h2 h8 hs hcs hascii
def rn11:Ren:=⟨λ |107=>238|108=>255|n=>n,λ |28=>33|3=>3|4=>4|0=>0|n=>n,λ |n=>n⟩
theorem ly11:Lays.n107 prog rn11:=by repeat' first|kernel_rfl|(intro _;kernel_rfl)|constructor
theorem slices_Contains_int(b off n c:Nat)(zs:List Int)(x:Int)(w:World)(hz:n<=zs.length)(hbig:n<=9223372036854775807)(hc:∀j,j<zs.length->w.cell? ⟨b,off+j,none⟩=some (.int .i64 (zs.getD j 0))):
 Calls prog 238 #[.slice (some ⟨b,off,none⟩) n c,.int .i64 x] w λe w'=>e= .returned (.bool ((zs.take n).contains x))/\w'=w:=Any.slices_Contains_int ly11 b off n c zs x w hz hbig hc
theorem slices_Contains_int_empty(a:Option Addr)(c:Nat)(x:Int)(w:World):
 Calls prog 238 #[.slice a 0 c,.int .i64 x] w λe w'=>e= .returned (.bool false)/\w'=w:=Any.slices_Contains_int_empty ly11 a c x w
def rn12:Ren:=⟨λ |109=>60|n=>n,λ |31=>26|9=>9|3=>3|0=>0|4=>4|n=>n,λ |n=>n⟩
theorem ly12:Lays.n109 prog rn12:=by repeat' first|kernel_rfl|(intro _;kernel_rfl)|constructor
theorem slices_Index_string(b off n c:Nat)(zs:List ByteArray)(x:ByteArray)(w:World)(hz:n<=zs.length)(hbig:n<=9223372036854775807)(hc:∀j,j<zs.length->w.cell? ⟨b,off+j,none⟩=some (.string (zs.getD j ByteArray.empty))):
 Calls prog 60 #[.slice (some ⟨b,off,none⟩) n c,.string x] w λe w'=>e= .returned (.int .i64 (Lib.idxOfS (zs.take n) x))/\w'=w:=Any.slices_Index_string ly12 b off n c zs x w hz hbig hc
theorem slices_Index_string_empty(a:Option Addr)(c:Nat)(x:ByteArray)(w:World):
 Calls prog 60 #[.slice a 0 c,.string x] w λe w'=>e= .returned (.int .i64 (Lib.idxOfS [] x))/\w'=w:=Any.slices_Index_string_empty ly12 a c x w
def rn13:Ren:=⟨λ |110=>58|109=>60|n=>n,λ |31=>26|9=>9|4=>4|3=>3|0=>0|n=>n,λ |n=>n⟩
theorem ly13:Lays.n110 prog rn13:=by repeat' first|kernel_rfl|(intro _;kernel_rfl)|constructor
theorem slices_Contains_string(b off n c:Nat)(zs:List ByteArray)(x:ByteArray)(w:World)(hz:n<=zs.length)(hbig:n<=9223372036854775807)(hc:∀j,j<zs.length->w.cell? ⟨b,off+j,none⟩=some (.string (zs.getD j ByteArray.empty))):
 Calls prog 58 #[.slice (some ⟨b,off,none⟩) n c,.string x] w λe w'=>e= .returned (.bool (Lib.containsS (zs.take n) x))/\w'=w:=Any.slices_Contains_string ly13 b off n c zs x w hz hbig hc
theorem slices_Contains_string_empty(a:Option Addr)(c:Nat)(x:ByteArray)(w:World):
 Calls prog 58 #[.slice a 0 c,.string x] w λe w'=>e= .returned (.bool false)/\w'=w:=Any.slices_Contains_string_empty ly13 a c x w
def rn14:Ren:=⟨λ |111=>182|n=>n,λ |28=>33|3=>3|4=>4|0=>0|n=>n,λ |n=>n⟩
theorem ly14:Lays.n111 prog rn14:=by repeat' first|kernel_rfl|(intro _;kernel_rfl)|constructor
theorem slices_Equal_int(b1 o1 n c b2 o2 m d:Nat)(xs ys:List Int)(w:World)(hx:n<=xs.length)(hy:m<=ys.length)(hbig:n<=9223372036854775807)(hbig2:m<=9223372036854775807)(hc1:∀j,j<xs.length->w.cell? ⟨b1,o1+j,none⟩=some (.int .i64 (xs.getD j 0)))(hc2:∀j,j<ys.length->w.cell? ⟨b2,o2+j,none⟩=some (.int .i64 (ys.getD j 0))):
 Calls prog 182 #[.slice (some ⟨b1,o1,none⟩) n c,.slice (some ⟨b2,o2,none⟩) m d] w λe w'=>e= .returned (.bool (xs.take n==ys.take m))/\∃q,w'=w.drewN q:=Any.slices_Equal_int ly14 b1 o1 n c b2 o2 m d xs ys w hx hy hbig hbig2 hc1 hc2
theorem slices_Equal_int_empty(a1 a2:Option Addr)(c m d:Nat)(w:World)(hbig2:m<=9223372036854775807):
 Calls prog 182 #[.slice a1 0 c,.slice a2 m d] w λe w'=>e= .returned (.bool (decide (m=0)))/\w'=w:=Any.slices_Equal_int_empty ly14 a1 a2 c m d w hbig2
def rn15:Ren:=⟨λ |15=>171|n=>n,λ |22=>33|3=>3|4=>4|n=>n,λ |n=>n⟩
theorem ly15:Lays2.n15 prog rn15:=by repeat' first|kernel_rfl|(intro _;kernel_rfl)|constructor
theorem slices_Clone_int(b off n c:Nat)(zs:List Int)(w:World)(hz:n<=zs.length)(hbig:n*8<=140737488355328)(hc:∀j,j<zs.length->w.cell? ⟨b,off+j,none⟩=some (.int .i64 (zs.getD j 0))):
 Calls prog 171 #[.slice (some ⟨b,off,none⟩) n c] w λe w'=>∃v',e= .returned v'/\w'.ownsRow w.heap.size 3 1 v' n ((zs.take n).map (Value.int .i64))/\v'≠ .slice none 0 0/\Below w.heap.size w w':=Any.slices_Clone_int ly15 b off n c zs w hz hbig hc
theorem slices_Clone_int_nil(n c:Nat)(w:World):
 Calls prog 171 #[.slice none n c] w λe w'=>e= .returned (.slice none 0 0)/\w'=w:=Any.slices_Clone_int_nil ly15 n c w
theorem slices_Clone_int_zero(a:Addr)(c:Nat)(w:World):
 Calls prog 171 #[.slice (some a) 0 c] w λe w'=>∃v',e= .returned v'/\w'.ownsRow w.heap.size 3 1 v' 0 []/\v'≠ .slice none 0 0/\Below w.heap.size w w':=Any.slices_Clone_int_zero ly15 a c w
def rn16:Ren:=⟨λ |20=>30|n=>n,λ |22=>33|3=>3|4=>4|0=>0|n=>n,λ |n=>n⟩
theorem ly16:Lays2.n20 prog rn16:=by repeat' first|kernel_rfl|(intro _;kernel_rfl)|constructor
theorem slices_Compact_int(blk off cap:Nat)(zs:List Int)(w:World)(hH:Holds (Value.int .i64) w blk off zs.toArray)(hsz:zs.length<=9223372036854775807)(hcap:zs.length<=cap):
 Calls prog 30 #[.slice (some ⟨blk,off,none⟩) zs.length cap] w λe w'=>e= .returned (.slice (some ⟨blk,off,none⟩) (Lib.compact zs).length cap)/\∃q,w'=putRow (Value.int .i64) (Sort.ahead w q) blk off (Lib.compact zs++List.replicate (zs.length-(Lib.compact zs).length) 0).toArray :=Any.slices_Compact_int ly16 blk off cap zs w hH hsz hcap
def rn17:Ren:=⟨λ |25=>102|31=>112|32=>157|37=>166|n=>n,λ |22=>33|3=>3|4=>4|40=>118|0=>0|n=>n,λ |n=>n⟩
theorem ly17:Lays2.n25 prog rn17:=by repeat' first|kernel_rfl|(intro _;kernel_rfl)|constructor
theorem slices_BinarySearch_int(b off n c:Nat)(zs:List Int)(x:Int)(w:World)(hz:n<=zs.length)(hbig:n<4611686018427387904)(hc:∀j,j<zs.length->w.cell? ⟨b,off+j,none⟩=some (.int .i64 (zs.getD j 0)))(hs:(zs.take n).Pairwise (· <= ·)):
 Calls prog 102 #[.slice (some ⟨b,off,none⟩) n c,.int .i64 x] w λe w'=>e= .returned (.tuple #[.int .i64 ((zs.take n).countP (· <x):Nat),.bool ((zs.take n).contains x)])/\∃q,w'=w.drewN q:=Any.slices_BinarySearch_int ly17 b off n c zs x w hz hbig hc hs
theorem slices_BinarySearch_int_empty(a:Option Addr)(c:Nat)(x:Int)(w:World):
 Calls prog 102 #[.slice a 0 c,.int .i64 x] w λe w'=>e= .returned (.tuple #[.int .i64 0,.bool false])/\w'=w:=Any.slices_BinarySearch_int_empty ly17 a c x w
theorem slices_Equal_int_lens(a1 a2:Option Addr)(n c m d:Nat)(w:World)(hnm:n≠m):
 Calls prog 182 #[.slice a1 n c,.slice a2 m d] w λe w'=>e= .returned (.bool false)/\w'=w:=Any.slices_Equal_int_lens ly14 a1 a2 n c m d w hnm
def rn18:Ren:=⟨λ |8=>95|6=>74|n=>n,λ |22=>33|23=>3|25=>134|4=>4|3=>3|0=>0|n=>n,λ |n=>n⟩
theorem ly18:SlLaysH.n8 prog rn18:=by repeat' first|kernel_rfl|(intro _;kernel_rfl)|exact⟨f74.name,by decide,func74.trans zcg⟩|exact⟨f95.name,by decide,func95.trans zcg⟩|constructor
theorem slices_ContainsFunc{α:Type}[Inhabited α](enc:α->Value)(p:α->Bool)(g:Nat)(lb:Array Value)(eg:∀args w,(callFunc g args).run prog w= .ok (.enter g args) w)(b off n c:Nat)(zs:List α)(w:World)(hp:PredAt prog g lb enc p w)(hz:n<=zs.length)(hbig:n<=9223372036854775807)(hc:∀j,j<zs.length->w.cell? ⟨b,off+j,none⟩=some (enc zs[j]!)):
 Calls prog 95 #[.slice (some ⟨b,off,none⟩) n c,.func (.func g) #[] lb] w λe w'=>e= .returned (.bool ((zs.take n).any p))/\∃q,w'=w.drewN q:=AnyE.slices_ContainsFunc ly18 enc p g lb eg b off n c zs w hp hz hbig hc
def rn19:Ren:=⟨λ |10=>224|6=>74|n=>n,λ |22=>33|23=>3|25=>134|3=>3|4=>4|0=>0|n=>n,λ |n=>n⟩
theorem ly19:SlLaysH.n10 prog rn19:=by repeat' first|kernel_rfl|(intro _;kernel_rfl)|exact⟨f74.name,by decide,func74.trans zcg⟩|exact⟨f224.name,by decide,func224.trans zcg⟩|constructor
theorem slices_DeleteFunc{α:Type}[Inhabited α](enc:α->Value)(hO:OneCell enc)(p:α->Bool)(g:Nat)(lb:Array Value)(eg:∀args w,(callFunc g args).run prog w= .ok (.enter g args) w)(zr:α)(v23:∀w,(zeroValue 3).run prog w= .ok (enc zr) w)(blk off cap:Nat)(d:Array α)(w:World)(hp:PredAt prog g lb enc p w)(hpo:PredOver prog g lb enc p blk off d.size w)(hH:Holds enc w blk off d)(hsz:d.size<=9223372036854775807)(hcap:d.size<=cap):
 Calls prog 224 #[.slice (some ⟨blk,off,none⟩) d.size cap,.func (.func g) #[] lb] w λe w'=>e= .returned (.slice (some ⟨blk,off,none⟩) (d.toList.filter λx=> !p x).length cap)/\∃q,w'=putRow enc (Sort.ahead w q) blk off ((d.toList.filter λx=> !p x)++List.replicate (d.size-(d.toList.filter λx=> !p x).length) zr).toArray :=AnyE.slices_DeleteFunc ly19 enc hO p g lb eg zr v23 blk off cap d w hp hpo hH hsz hcap
def rn20:Ren:=⟨λ |21=>103|27=>158|28=>159|35=>215|39=>247|n=>n,λ |22=>33|3=>3|4=>4|0=>0|n=>n,λ |n=>n⟩
theorem ly20:Lays2.n21 prog rn20:=by repeat' first|kernel_rfl|(intro _;kernel_rfl)|constructor
theorem slices_Insert_int_shift(b off n c i vb voff m vc:Nat)(cs vs:List Value)(w:World)(hi:i<n)(hm:0<m)(hroom:n+m<=c)(hc63:c<=9223372036854775807)(hvb:vb≠b)
 (hcl:cs.length=n)(hvl:vs.length=m)
 (hcs:∀j v,cs[j]? =some v->w.cell? ⟨b,off+j,none⟩=some v)(hsp:∀j,j<n+m->(w.cell? ⟨b,off+j,none⟩).isSome =true)(hfz:∀j,j<n+m->w.frozen? ⟨b,off+j,none⟩=false)
 (hvs:∀j v,vs[j]? =some v->w.cell? ⟨vb,voff+j,none⟩=some v)(h1c:∀v∈cs,v.oneCell'=true)(h1v:∀v∈vs,v.oneCell'=true)
 (tA tB:TypeId)(kA kB:Nat)(hsa:w.shape? vb=some (tA,kA))(hsb:w.shape? b=some (tB,kB))(hkB:kB≠0)(hfa:w.frozen? ⟨vb,voff,none⟩=false)(hfe:w.frozen? ⟨vb,kA,none⟩=false):
 Calls prog 103 #[.slice (some ⟨b,off,none⟩) n c,.int .i64 i,.slice (some ⟨vb,voff,none⟩) m vc] w λe w'=>
 e= .returned (.slice (some ⟨b,off,none⟩) (n+m) c)/\w'=(w.drew.setCells b (off+(i+m)) (cs.drop i)).setCells b (off+i) vs:=Any2.slices_Insert_int_shift ly20 b off n c i vb voff m vc cs vs w hi hm hroom hc63 hvb hcl hvl hcs hsp hfz hvs h1c h1v tA tB kA kB hsa hsb hkB hfa hfe
theorem slices_Insert_int_end_room(b off n c vb voff m vc:Nat)(vs:List Value)(w:World)(hm:0<m)(hroom:n+m<=c)(hc63:c<=9223372036854775807)
 (hvl:vs.length=m)(hsp:∀j,j<m->(w.cell? ⟨b,off+n+j,none⟩).isSome =true)(hfz:∀j,j<m->w.frozen? ⟨b,off+n+j,none⟩=false)
 (hvs:∀j v,vs[j]? =some v->w.cell? ⟨vb,voff+j,none⟩=some v)(h1v:∀v∈vs,v.oneCell'=true):
 Calls prog 103 #[.slice (some ⟨b,off,none⟩) n c,.int .i64 n,.slice (some ⟨vb,voff,none⟩) m vc] w λe w'=>
 e= .returned (.slice (some ⟨b,off,none⟩) (n+m) c)/\w'=w.setCells b (off+n) vs:=Any2.slices_Insert_int_end_room ly20 b off n c vb voff m vc vs w hm hroom hc63 hvl hsp hfz hvs h1v
theorem slices_Insert_int_end_grow(base:Option Addr)(n c vb voff m vc:Nat)(cs vs:List Value)(w:World)(hm:0<m)(hnc:n<=c)(hroom:c<n+m)(hbig:(n+m)*8<=140737488355328)
 (hcl:cs.length=n)(hvl:vs.length=m)(hnil:base=none->n=0)
 (hcs:∀a,base=some a->∀j v,cs[j]? =some v->w.cell? (a.add j)=some v)
 (hvs:∀j v,vs[j]? =some v->w.cell? ⟨vb,voff+j,none⟩=some v)(h1v:∀v∈vs,v.oneCell'=true):
 Calls prog 103 #[.slice base n c,.int .i64 n,.slice (some ⟨vb,voff,none⟩) m vc] w λe w'=>
 e= .returned (.slice (some ⟨w.heap.size,0,none⟩) (n+m) (grownCap w (n+m) c 3))/\
 w'=w.drew.alloc (.cells ((cs++vs).toArray ++Builtin.zeroCells (Value.int .i64 0).cells (grownCap w (n+m) c 3-(n+m))) 3):=Any2.slices_Insert_int_end_grow ly20 base n c vb voff m vc cs vs w hm hnc hroom hbig hcl hvl hnil hcs hvs h1v
theorem slices_Insert_int_grow(b off n c i vb voff m vc:Nat)(cs vs:List Value)(w:World)(hi:i<n)(hm:0<m)(hnc:n<=c)(hroom:c<n+m)(hbig:(n+m)*8<=140737488355328)
 (hcl:cs.length=n)(hvl:vs.length=m)
 (hcs:∀j v,cs[j]? =some v->w.cell? ⟨b,off+j,none⟩=some v)
 (hvs:∀j v,vs[j]? =some v->w.cell? ⟨vb,voff+j,none⟩=some v)(h1c:∀v∈cs,v.oneCell'=true)(h1v:∀v∈vs,v.oneCell'=true):
 Calls prog 103 #[.slice (some ⟨b,off,none⟩) n c,.int .i64 i,.slice (some ⟨vb,voff,none⟩) m vc] w λe w'=>
 e= .returned (.slice (some ⟨w.heap.size,0,none⟩) (n+m) (grownCap w (n+m) c 3))/\
 w'=(((w.alloc (.cells ((cs.take i).toArray ++Builtin.zeroCells (Value.int .i64 0).cells (n+m-i)++Builtin.zeroCells (Value.int .i64 0).cells (grownCap w (n+m) c 3-(n+m))) 3)).drew.setCells w.heap.size i vs).drew).setCells w.heap.size (i+m) (cs.drop i):=Any2.slices_Insert_int_grow ly20 b off n c i vb voff m vc cs vs w hi hm hnc hroom hbig hcl hvl hcs hvs h1c h1v
end Go.Proofs.Tryz
