/- strconv.Itoa off the shelf, in plain declarations. -/
import Derived.Shelf.Strconv.Itoa0
import Derived.Shelf.Strconv.Itoa1
import Derived.Shelf.Strconv.Itoa2
import Derived.Shelf.Strconv.Itoa3
import Derived.Test.YtalopgnjgbiopaaGreatDoorProg
import Derived.Shelf.Strings.Builder1
import Derived.Shelf.Strings.Builder2
import Derived.Shelf.Strings.OnBuilder
import Derived.Shelf.Small.Strs
import Derived.Shelf.Strings.BuilderF
import Derived.Shelf.LaysM
import Derived.Shelf.Strings.Search1
import Derived.Shelf.Strings.Search2
import Derived.Shelf.Strings.Search3
import Derived.Shelf.Strings.Shaped
import Derived.Shelf.Strings.Prefix
import Derived.Shelf.Bits.Mul64
import Derived.Shelf.Strings.Repeat
import Derived.Shelf.Slices.Turned
import Derived.Test.YtalopgnjgbiopaaGreatDoorD0
import Derived.Lib.Hide
import Derived.Deep.MidRow
import Derived.WalkSpells
import Derived.WalkLawsBesides
import Derived.Test.YtalopgnjgbiopaaGreatDoorQ0
import Derived.Lib.AppendIntMem
import Derived.Lib.ItoaLen
import Derived.Deep.QuietTactic
import Derived.BigQuiet
import Derived.RegionTactic
import Derived.Deep.RegionWith
import Derived.ChangeAlike
import Derived.BigRegion
namespace Go.Proofs
open Go.Shelf
def Tryz.laysM171_ren:Go.Shelf.Ren:=⟨fun|171=>91|243=>128|246=>159|283=>183|284=>184|285=>185|286=>186|129=>199|317=>198|318=>200|319=>201|320=>202|337=>210|338=>211|n=>n,fun|3=>3|9=>9|2=>2|4=>4|171=>169|0=>0|53=>127|37=>67|5=>5|173=>172|212=>182|51=>124|20=>20|213=>183|46=>103|232=>189|233=>190|n=>n,fun|17=>1|18=>2|19=>3|n=>n⟩
theorem Tryz.laysM171:Go.Proofs.LaysM.n171 Tryz.prog Tryz.laysM171_ren:={
  mixed:=by kernel_rfl
  f129:=Tryz.func199.trans (congrArg some (by kernel_rfl))
  f171:=Tryz.func91.trans (congrArg some (by kernel_rfl))
  f243:=Tryz.func128.trans (congrArg some (by kernel_rfl))
  f246:=Tryz.func159.trans (congrArg some (by kernel_rfl))
  f283:=Tryz.func183.trans (congrArg some (by kernel_rfl))
  f284:=Tryz.func184.trans (congrArg some (by kernel_rfl))
  f285:=Tryz.func185.trans (congrArg some (by kernel_rfl))
  f286:=Tryz.func186.trans (congrArg some (by kernel_rfl))
  f317:=Tryz.func198.trans (congrArg some (by kernel_rfl))
  f318:=Tryz.func200.trans (congrArg some (by kernel_rfl))
  f319:=Tryz.func201.trans (congrArg some (by kernel_rfl))
  f320:=Tryz.func202.trans (congrArg some (by kernel_rfl))
  f337:=Tryz.func210.trans (congrArg some (by kernel_rfl))
  f338:=Tryz.func211.trans (congrArg some (by kernel_rfl))
  t0:=Tryz.underlying0
  a0:=Tryz.isAgg0
  z0:=Tryz.sizeOf0
  v0:=Tryz.zeroValue0
  t2:=Tryz.underlying2
  a2:=Tryz.isAgg2
  z2:=Tryz.sizeOf2
  v2:=Tryz.zeroValue2
  t3:=Tryz.underlying3
  a3:=Tryz.isAgg3
  z3:=Tryz.sizeOf3
  v3:=Tryz.zeroValue3
  t4:=Tryz.underlying4
  a4:=Tryz.isAgg4
  z4:=Tryz.sizeOf4
  v4:=Tryz.zeroValue4
  t5:=Tryz.underlying5
  a5:=Tryz.isAgg5
  z5:=Tryz.sizeOf5
  v5:=Tryz.zeroValue5
  t9:=Tryz.underlying9
  a9:=Tryz.isAgg9
  z9:=Tryz.sizeOf9
  v9:=Tryz.zeroValue9
  t20:=Tryz.underlying20
  a20:=Tryz.isAgg20
  z20:=Tryz.sizeOf20
  v20:=Tryz.zeroValue20
  t37:=Tryz.underlying67
  a37:=Tryz.isAgg67
  z37:=Tryz.sizeOf67
  v37:=Tryz.zeroValue67
  t46:=Tryz.underlying103
  a46:=Tryz.isAgg103
  z46:=Tryz.sizeOf103
  v46:=Tryz.zeroValue103
  t51:=Tryz.underlying124
  a51:=Tryz.isAgg124
  z51:=Tryz.sizeOf124
  v51:=Tryz.zeroValue124
  t53:=Tryz.underlying127
  a53:=Tryz.isAgg127
  z53:=Tryz.sizeOf127
  v53:=Tryz.zeroValue127
  t171:=Tryz.underlying169
  a171:=Tryz.isAgg169
  z171:=Tryz.sizeOf169
  v171:=Tryz.zeroValue169
  t173:=Tryz.underlying172
  a173:=Tryz.isAgg172
  z173:=Tryz.sizeOf172
  v173:=Tryz.zeroValue172
  t212:=Tryz.underlying182
  a212:=Tryz.isAgg182
  z212:=Tryz.sizeOf182
  v212:=Tryz.zeroValue182
  t213:=Tryz.underlying183
  a213:=Tryz.isAgg183
  z213:=Tryz.sizeOf183
  t232:=Tryz.underlying189
  a232:=Tryz.isAgg189
  z232:=Tryz.sizeOf189
  v232:=Tryz.zeroValue189
  t233:=Tryz.underlying190
  a233:=Tryz.isAgg190
  z233:=Tryz.sizeOf190
  v233:=Tryz.zeroValue190
  g17:=by kernel_rfl
  g18:=by kernel_rfl
  g19:=by kernel_rfl
  i0:=by kernel_rfl
  i2:=by kernel_rfl
  i3:=by kernel_rfl
  i4:=by kernel_rfl
  i5:=by kernel_rfl
  i9:=by kernel_rfl
  i20:=by kernel_rfl
  i37:=by kernel_rfl
  i46:=by kernel_rfl
  i51:=by kernel_rfl
  i53:=by kernel_rfl
  i171:=by kernel_rfl
  i173:=by kernel_rfl
  i212:=by kernel_rfl
  i232:=by kernel_rfl
  i233:=by kernel_rfl
  m17:=by kernel_rfl
  m18:=by kernel_rfl
  m19:=by kernel_rfl }
open Go.RowKit Go.Sort Go.Lib in
theorem Tryz.strconv_Itoa (n:Int) (h0 : -9223372036854775808≤n) (h1:n≤9223372036854775807) (w:World) (htab:Lib.TabIs Tryz.prog w "internal/strconv.uint64pow10" .u64 Lib.pow10Tab) :
    Calls Tryz.prog 91 #[.int .i64 n] w fun e w'=>e=.returned (.string ⟨(Lib.itoa n).toArray⟩)∧∃ k os,w'=grow (w.drewN k) os:=Any.strconv_Itoa Tryz.laysM171 n h0 h1 w htab
def Tryz.lays156_ren:Go.Shelf.Ren:=⟨fun|156=>93|165=>81|166=>78|169=>40|240=>114|241=>118|276=>147|277=>148|n=>n,fun|31=>60|9=>9|3=>3|4=>4|0=>0|20=>20|72=>69|76=>101|70=>66|37=>67|75=>100|127=>110|164=>149|5=>5|80=>76|n=>n,fun|n=>n⟩
theorem Tryz.lays156:Go.Proofs.Lays.n156 Tryz.prog Tryz.lays156_ren:={
  mixed:=by kernel_rfl
  f156:=Tryz.func93.trans (congrArg some (by kernel_rfl))
  f165:=Tryz.func81.trans (congrArg some (by kernel_rfl))
  f166:=Tryz.func78.trans (congrArg some (by kernel_rfl))
  f169:=Tryz.func40.trans (congrArg some (by kernel_rfl))
  f240:=Tryz.func114.trans (congrArg some (by kernel_rfl))
  f241:=Tryz.func118.trans (congrArg some (by kernel_rfl))
  f276:=Tryz.func147.trans (congrArg some (by kernel_rfl))
  f277:=Tryz.func148.trans (congrArg some (by kernel_rfl))
  t0:=Tryz.underlying0
  a0:=Tryz.isAgg0
  z0:=Tryz.sizeOf0
  v0:=Tryz.zeroValue0
  t3:=Tryz.underlying3
  a3:=Tryz.isAgg3
  z3:=Tryz.sizeOf3
  v3:=Tryz.zeroValue3
  t4:=Tryz.underlying4
  a4:=Tryz.isAgg4
  z4:=Tryz.sizeOf4
  v4:=Tryz.zeroValue4
  t9:=Tryz.underlying9
  a9:=Tryz.isAgg9
  z9:=Tryz.sizeOf9
  v9:=Tryz.zeroValue9
  t20:=Tryz.underlying20
  a20:=Tryz.isAgg20
  z20:=Tryz.sizeOf20
  v20:=Tryz.zeroValue20
  t31:=Tryz.underlying60
  a31:=Tryz.isAgg60
  z31:=Tryz.sizeOf60
  v31:=Tryz.zeroValue60
  t37:=Tryz.underlying67
  a37:=Tryz.isAgg67
  z37:=Tryz.sizeOf67
  v37:=Tryz.zeroValue67
  t70:=Tryz.underlying66
  a70:=Tryz.isAgg66
  z70:=Tryz.sizeOf66
  v70:=Tryz.zeroValue66
  t72:=Tryz.underlying69
  a72:=Tryz.isAgg69
  z72:=Tryz.sizeOf69
  v72:=Tryz.zeroValue69
  t75:=Tryz.underlying100
  a75:=Tryz.isAgg100
  z75:=Tryz.sizeOf100
  v75:=Tryz.zeroValue100
  t76:=Tryz.underlying101
  a76:=Tryz.isAgg101
  z76:=Tryz.sizeOf101
  v76:=Tryz.zeroValue101
  t127:=Tryz.underlying110
  a127:=Tryz.isAgg110
  z127:=Tryz.sizeOf110
  v127:=Tryz.zeroValue110
  t164:=Tryz.underlying149
  a164:=Tryz.isAgg149
  z164:=Tryz.sizeOf149
  v164:=Tryz.zeroValue149 }
theorem Tryz.Builder_Extra_156:Builder.Extra Tryz.prog Tryz.lays156_ren:={
  sizeBuilder:=by kernel_rfl
  liesBuilder:=by kernel_rfl
  t5:=Tryz.underlying5
  a5:=Tryz.isAgg5
  z5:=Tryz.sizeOf5
  v5:=Tryz.zeroValue5
  infoByte:=by kernel_rfl
  cellsByte:=by kernel_rfl
  sizeByte:=by kernel_rfl
  neB5:=by decide }
open Go.RowKit in
theorem Tryz.strings_Join_none (a:Option Addr) (c:Nat) (sep:ByteArray) (w:World) :
    Calls Tryz.prog 93 #[.slice a 0 c,.string sep] w fun e w'=>e=.returned (.string ⟨#[]⟩)∧w'=w:=Any.strings_Join_none Tryz.lays156 Tryz.Builder_Extra_156 a c sep w
open Go.RowKit in
theorem Tryz.strings_Join (bk o c:Nat) (xs:List ByteArray) (sep:ByteArray) (w:World) (hcells:∀ (j:Nat) x,xs[j]?=some x→w.cell? ⟨bk,o+j,none⟩=some (.string x)) (hbk:bk<w.heap.size) (hN:xs.length≤140737488355328) (hcap:xs.length≤c) (hlen:(Lib.join (xs.map (·.data.toList)) sep.data.toList).length≤140737488355328) :
    Calls Tryz.prog 93 #[.slice (some ⟨bk,o,none⟩) xs.length c,.string sep] w fun e w'=>e=.returned (.string ⟨(Lib.join (xs.map (·.data.toList)) sep.data.toList).toArray⟩)∧Below w.heap.size w w':=Any.strings_Join Tryz.lays156 Tryz.Builder_Extra_156 bk o c xs sep w hcells hbk hN hcap hlen
def Tryz.lays137_ren:Go.Shelf.Ren:=⟨fun|137=>192|217=>204|266=>212|n=>n,fun|9=>9|5=>5|3=>3|n=>n,fun|n=>n⟩
theorem Tryz.lays137:Go.Proofs.Lays.n137 Tryz.prog Tryz.lays137_ren:={
  mixed:=by kernel_rfl
  f137:=Tryz.func192.trans (congrArg some (by kernel_rfl))
  f217:=Tryz.func204.trans (congrArg some (by kernel_rfl))
  f266:=Tryz.func212.trans (congrArg some (by kernel_rfl))
  t3:=Tryz.underlying3
  a3:=Tryz.isAgg3
  z3:=Tryz.sizeOf3
  v3:=Tryz.zeroValue3
  t5:=Tryz.underlying5
  a5:=Tryz.isAgg5
  z5:=Tryz.sizeOf5
  v5:=Tryz.zeroValue5
  t9:=Tryz.underlying9
  a9:=Tryz.isAgg9
  z9:=Tryz.sizeOf9
  v9:=Tryz.zeroValue9 }
open Go.RowKit in
theorem Tryz.strings_IndexByte (s:ByteArray) (c:Int) (w:World) :
    Calls Tryz.prog 192 #[.string s,.int .u8 c] w fun e w'=>e=.returned (.int .i64 (Lib.indexByte s.data.toList c.toNat.toUInt8))∧w'=w:=Any.strings_IndexByte Tryz.lays137 s c w
def Tryz.lays144_ren:Go.Shelf.Ren:=⟨fun|144=>149|143=>176|219=>195|217=>204|225=>205|224=>206|267=>207|266=>212|314=>213|n=>n,fun|9=>9|4=>4|3=>3|5=>5|46=>103|146=>125|51=>124|n=>n,fun|1=>0|n=>n⟩
theorem Tryz.lays144:Go.Proofs.Lays.n144 Tryz.prog Tryz.lays144_ren:={
  mixed:=by kernel_rfl
  f143:=Tryz.func176.trans (congrArg some (by kernel_rfl))
  f144:=Tryz.func149.trans (congrArg some (by kernel_rfl))
  f217:=Tryz.func204.trans (congrArg some (by kernel_rfl))
  f219:=Tryz.func195.trans (congrArg some (by kernel_rfl))
  f224:=Tryz.func206.trans (congrArg some (by kernel_rfl))
  f225:=Tryz.func205.trans (congrArg some (by kernel_rfl))
  f266:=Tryz.func212.trans (congrArg some (by kernel_rfl))
  f267:=Tryz.func207.trans (congrArg some (by kernel_rfl))
  f314:=Tryz.func213.trans (congrArg some (by kernel_rfl))
  t3:=Tryz.underlying3
  a3:=Tryz.isAgg3
  z3:=Tryz.sizeOf3
  v3:=Tryz.zeroValue3
  t4:=Tryz.underlying4
  a4:=Tryz.isAgg4
  z4:=Tryz.sizeOf4
  v4:=Tryz.zeroValue4
  t5:=Tryz.underlying5
  a5:=Tryz.isAgg5
  z5:=Tryz.sizeOf5
  v5:=Tryz.zeroValue5
  t9:=Tryz.underlying9
  a9:=Tryz.isAgg9
  z9:=Tryz.sizeOf9
  v9:=Tryz.zeroValue9
  t46:=Tryz.underlying103
  a46:=Tryz.isAgg103
  z46:=Tryz.sizeOf103
  v46:=Tryz.zeroValue103
  t51:=Tryz.underlying124
  a51:=Tryz.isAgg124
  z51:=Tryz.sizeOf124
  v51:=Tryz.zeroValue124
  t146:=Tryz.underlying125
  a146:=Tryz.isAgg125
  z146:=Tryz.sizeOf125
  v146:=Tryz.zeroValue125
  g1:=by kernel_rfl }
open Go.RowKit Go.Lib in
theorem Tryz.strings_Contains_one (s:ByteArray) (c:UInt8) (w:World) :
    Calls Tryz.prog 149 #[.string s,.string ⟨#[c]⟩] w fun e w'=>e=.returned (.bool (decide (0≤Lib.indexByte s.data.toList c)))∧w'=w:=Any.strings_Contains_one Tryz.lays144 s c w
def Tryz.lays110_ren:Go.Shelf.Ren:=⟨fun|110=>175|109=>194|n=>n,fun|31=>60|9=>9|4=>4|3=>3|0=>0|n=>n,fun|n=>n⟩
theorem Tryz.lays110:Go.Proofs.Lays.n110 Tryz.prog Tryz.lays110_ren:={
  mixed:=by kernel_rfl
  f109:=Tryz.func194.trans (congrArg some (by kernel_rfl))
  f110:=Tryz.func175.trans (congrArg some (by kernel_rfl))
  t0:=Tryz.underlying0
  a0:=Tryz.isAgg0
  z0:=Tryz.sizeOf0
  v0:=Tryz.zeroValue0
  t3:=Tryz.underlying3
  a3:=Tryz.isAgg3
  z3:=Tryz.sizeOf3
  v3:=Tryz.zeroValue3
  t4:=Tryz.underlying4
  a4:=Tryz.isAgg4
  z4:=Tryz.sizeOf4
  v4:=Tryz.zeroValue4
  t9:=Tryz.underlying9
  a9:=Tryz.isAgg9
  z9:=Tryz.sizeOf9
  v9:=Tryz.zeroValue9
  t31:=Tryz.underlying60
  a31:=Tryz.isAgg60
  z31:=Tryz.sizeOf60
  v31:=Tryz.zeroValue60 }
open Go.Lib in
theorem Tryz.slices_Contains_string (b off n c:Nat) (zs:List ByteArray) (x:ByteArray) (w:World) (hz:n≤zs.length) (hbig:n≤9223372036854775807) (hc:∀ j,j<zs.length→w.cell? ⟨b,off+j,none⟩=some (.string (zs.getD j ByteArray.empty))) :
    Calls Tryz.prog 175 #[.slice (some ⟨b,off,none⟩) n c,.string x] w fun e w'=>e=.returned (.bool (Lib.containsS (zs.take n) x))∧w'=w:=Any.slices_Contains_string Tryz.lays110 b off n c zs x w hz hbig hc
open Go.Lib in
theorem Tryz.slices_Contains_string_empty (a:Option Addr) (c:Nat) (x:ByteArray) (w:World) :
    Calls Tryz.prog 175 #[.slice a 0 c,.string x] w fun e w'=>e=.returned (.bool false)∧w'=w:=Any.slices_Contains_string_empty Tryz.lays110 a c x w
def Tryz.lays105_ren:Go.Shelf.Ren:=⟨fun|105=>37|212=>79|99=>80|165=>81|166=>78|170=>39|169=>40|263=>115|264=>116|206=>117|240=>114|241=>118|276=>147|277=>148|n=>n,fun|9=>9|3=>3|4=>4|20=>20|0=>0|46=>103|109=>104|5=>5|72=>69|76=>101|51=>124|146=>125|53=>127|148=>128|70=>66|37=>67|75=>100|127=>110|164=>149|80=>76|n=>n,fun|n=>n⟩
theorem Tryz.lays105:Go.Proofs.Lays.n105 Tryz.prog Tryz.lays105_ren:={
  mixed:=by kernel_rfl
  f99:=Tryz.func80.trans (congrArg some (by kernel_rfl))
  f105:=Tryz.func37.trans (congrArg some (by kernel_rfl))
  f165:=Tryz.func81.trans (congrArg some (by kernel_rfl))
  f166:=Tryz.func78.trans (congrArg some (by kernel_rfl))
  f169:=Tryz.func40.trans (congrArg some (by kernel_rfl))
  f170:=Tryz.func39.trans (congrArg some (by kernel_rfl))
  f206:=Tryz.func117.trans (congrArg some (by kernel_rfl))
  f212:=Tryz.func79.trans (congrArg some (by kernel_rfl))
  f240:=Tryz.func114.trans (congrArg some (by kernel_rfl))
  f241:=Tryz.func118.trans (congrArg some (by kernel_rfl))
  f263:=Tryz.func115.trans (congrArg some (by kernel_rfl))
  f264:=Tryz.func116.trans (congrArg some (by kernel_rfl))
  f276:=Tryz.func147.trans (congrArg some (by kernel_rfl))
  f277:=Tryz.func148.trans (congrArg some (by kernel_rfl))
  t0:=Tryz.underlying0
  a0:=Tryz.isAgg0
  z0:=Tryz.sizeOf0
  v0:=Tryz.zeroValue0
  t3:=Tryz.underlying3
  a3:=Tryz.isAgg3
  z3:=Tryz.sizeOf3
  v3:=Tryz.zeroValue3
  t4:=Tryz.underlying4
  a4:=Tryz.isAgg4
  z4:=Tryz.sizeOf4
  v4:=Tryz.zeroValue4
  t5:=Tryz.underlying5
  a5:=Tryz.isAgg5
  z5:=Tryz.sizeOf5
  v5:=Tryz.zeroValue5
  t9:=Tryz.underlying9
  a9:=Tryz.isAgg9
  z9:=Tryz.sizeOf9
  v9:=Tryz.zeroValue9
  t20:=Tryz.underlying20
  a20:=Tryz.isAgg20
  z20:=Tryz.sizeOf20
  v20:=Tryz.zeroValue20
  t37:=Tryz.underlying67
  a37:=Tryz.isAgg67
  z37:=Tryz.sizeOf67
  v37:=Tryz.zeroValue67
  t46:=Tryz.underlying103
  a46:=Tryz.isAgg103
  z46:=Tryz.sizeOf103
  v46:=Tryz.zeroValue103
  t51:=Tryz.underlying124
  a51:=Tryz.isAgg124
  z51:=Tryz.sizeOf124
  v51:=Tryz.zeroValue124
  t53:=Tryz.underlying127
  a53:=Tryz.isAgg127
  z53:=Tryz.sizeOf127
  v53:=Tryz.zeroValue127
  t70:=Tryz.underlying66
  a70:=Tryz.isAgg66
  z70:=Tryz.sizeOf66
  v70:=Tryz.zeroValue66
  t72:=Tryz.underlying69
  a72:=Tryz.isAgg69
  z72:=Tryz.sizeOf69
  v72:=Tryz.zeroValue69
  t75:=Tryz.underlying100
  a75:=Tryz.isAgg100
  z75:=Tryz.sizeOf100
  v75:=Tryz.zeroValue100
  t76:=Tryz.underlying101
  a76:=Tryz.isAgg101
  z76:=Tryz.sizeOf101
  v76:=Tryz.zeroValue101
  t109:=Tryz.underlying104
  a109:=Tryz.isAgg104
  z109:=Tryz.sizeOf104
  v109:=Tryz.zeroValue104
  t127:=Tryz.underlying110
  a127:=Tryz.isAgg110
  z127:=Tryz.sizeOf110
  v127:=Tryz.zeroValue110
  t146:=Tryz.underlying125
  a146:=Tryz.isAgg125
  z146:=Tryz.sizeOf125
  v146:=Tryz.zeroValue125
  t148:=Tryz.underlying128
  a148:=Tryz.isAgg128
  z148:=Tryz.sizeOf128
  v148:=Tryz.zeroValue128
  t164:=Tryz.underlying149
  a164:=Tryz.isAgg149
  z164:=Tryz.sizeOf149
  v164:=Tryz.zeroValue149 }
theorem Tryz.Builder_Extra_105:Builder.Extra Tryz.prog Tryz.lays105_ren:={
  sizeBuilder:=by kernel_rfl
  liesBuilder:=by kernel_rfl
  t5:=Tryz.underlying5
  a5:=Tryz.isAgg5
  z5:=Tryz.sizeOf5
  v5:=Tryz.zeroValue5
  infoByte:=by kernel_rfl
  cellsByte:=by kernel_rfl
  sizeByte:=by kernel_rfl
  neB5:=by decide }
open Go.RowKit Go.Lib in
theorem Tryz.strings_Repeat (s:ByteArray) (c:Nat) (w:World) (hc:c≤9223372036854775807) (hlen:s.size*c≤140737488355328) :
    Calls Tryz.prog 37 #[.string s,.int .i64 c] w fun e w'=>e=.returned (.string ⟨(Lib.repeatL s.data.toList c).toArray⟩)∧Below w.heap.size w w':=Any.strings_Repeat Tryz.lays105 Tryz.Builder_Extra_105 s c w hc hlen
end Go.Proofs
namespace Go.Proofs.YtalopgnjgbiopaaGreatDoor
open Go.RowKit
set_option linter.unusedVariables false
set_option linter.unusedSimpArgs false
abbrev Tab (w:World):Prop:=Lib.TabIs Tryz.prog w "internal/strconv.uint64pow10" .u64 Lib.pow10Tab
theorem Tab.below {w w':World} (h:Tab w) (hb:Below w.heap.size w w'):Tab w':=Lib.tabBelow_of_tabIs h w' hb
def VK (n:Int):ByteArray:=⟨(Lib.itoa n).toArray⟩
theorem zR {n:Int} (h:QO n):(VK n).size≤21:=Lib.itoa_length_le n h.1 h.2
theorem itoa_any (n:Int) (h:QO n) (w:World) (ht:Tab w):Calls Tryz.prog 91 #[.int .i64 n] w fun e w'=>e=.returned (.string (VK n))∧Below w.heap.size w w':=by
  refine (Tryz.strconv_Itoa n h.1 h.2 w ht).mono ?_;rintro e w1 ⟨rfl,k,os,rfl⟩;exact ⟨rfl,Lib.below_grow _ w (Nat.le_refl _) k os⟩
end Go.Proofs.YtalopgnjgbiopaaGreatDoor
