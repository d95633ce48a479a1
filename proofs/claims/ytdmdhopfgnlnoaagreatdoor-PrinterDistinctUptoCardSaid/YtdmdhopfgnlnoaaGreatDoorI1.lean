/- strconv.Itoa off the shelf, in plain declarations. -/
import Derived.Shelf.Strconv.Itoa0
import Derived.Shelf.Strconv.Itoa1
import Derived.Shelf.Strconv.Itoa2
import Derived.Shelf.Strconv.Itoa3
import Derived.Test.YtdmdhopfgnlnoaaGreatDoorProg
import Derived.Shelf.Strings.Builder1
import Derived.Shelf.Strings.Builder2
import Derived.Shelf.Strings.OnBuilder
import Derived.Shelf.Small.Strs
import Derived.Shelf.Strings.BuilderF
import Derived.Shelf.LaysM
import Derived.Shelf.Strings.Search1
import Derived.Shelf.Strings.Search2
import Derived.Shelf.Strings.Search3
import Derived.Shelf.Strings.Shaped
import Derived.Shelf.Strings.Prefix
import Derived.Shelf.Bits.Mul64
import Derived.Shelf.Strings.Repeat
import Derived.Shelf.Slices.Turned
import Derived.Test.YtdmdhopfgnlnoaaGreatDoorD0
import Derived.Lib.Hide
import Derived.Deep.MidRow
import Derived.WalkSpells
import Derived.WalkLawsBesides
import Derived.Test.YtdmdhopfgnlnoaaGreatDoorQ0
import Derived.Lib.AppendIntMem
import Derived.Lib.ItoaLen
import Derived.Deep.QuietTactic
import Derived.BigQuiet
import Derived.RegionTactic
import Derived.Deep.RegionWith
import Derived.ChangeAlike
import Derived.BigRegion
namespace Go.Proofs
open Go.Shelf
def Tryz.laysM171_ren:Go.Shelf.Ren:=⟨fun|171=>75|243=>108|246=>135|283=>154|284=>155|285=>156|286=>157|129=>170|317=>169|318=>171|319=>172|320=>173|337=>179|338=>180|n=>n,fun|3=>3|9=>9|2=>2|4=>4|171=>158|0=>0|53=>122|37=>60|5=>5|173=>161|212=>171|51=>119|20=>20|213=>172|46=>98|232=>178|233=>179|n=>n,fun|17=>1|18=>2|19=>3|n=>n⟩
theorem Tryz.laysM171:Go.Proofs.LaysM.n171 Tryz.prog Tryz.laysM171_ren:={
  mixed:=by kernel_rfl
  f129:=Tryz.func170.trans (congrArg some (by kernel_rfl))
  f171:=Tryz.func75.trans (congrArg some (by kernel_rfl))
  f243:=Tryz.func108.trans (congrArg some (by kernel_rfl))
  f246:=Tryz.func135.trans (congrArg some (by kernel_rfl))
  f283:=Tryz.func154.trans (congrArg some (by kernel_rfl))
  f284:=Tryz.func155.trans (congrArg some (by kernel_rfl))
  f285:=Tryz.func156.trans (congrArg some (by kernel_rfl))
  f286:=Tryz.func157.trans (congrArg some (by kernel_rfl))
  f317:=Tryz.func169.trans (congrArg some (by kernel_rfl))
  f318:=Tryz.func171.trans (congrArg some (by kernel_rfl))
  f319:=Tryz.func172.trans (congrArg some (by kernel_rfl))
  f320:=Tryz.func173.trans (congrArg some (by kernel_rfl))
  f337:=Tryz.func179.trans (congrArg some (by kernel_rfl))
  f338:=Tryz.func180.trans (congrArg some (by kernel_rfl))
  t0:=Tryz.underlying0
  a0:=Tryz.isAgg0
  z0:=Tryz.sizeOf0
  v0:=Tryz.zeroValue0
  t2:=Tryz.underlying2
  a2:=Tryz.isAgg2
  z2:=Tryz.sizeOf2
  v2:=Tryz.zeroValue2
  t3:=Tryz.underlying3
  a3:=Tryz.isAgg3
  z3:=Tryz.sizeOf3
  v3:=Tryz.zeroValue3
  t4:=Tryz.underlying4
  a4:=Tryz.isAgg4
  z4:=Tryz.sizeOf4
  v4:=Tryz.zeroValue4
  t5:=Tryz.underlying5
  a5:=Tryz.isAgg5
  z5:=Tryz.sizeOf5
  v5:=Tryz.zeroValue5
  t9:=Tryz.underlying9
  a9:=Tryz.isAgg9
  z9:=Tryz.sizeOf9
  v9:=Tryz.zeroValue9
  t20:=Tryz.underlying20
  a20:=Tryz.isAgg20
  z20:=Tryz.sizeOf20
  v20:=Tryz.zeroValue20
  t37:=Tryz.underlying60
  a37:=Tryz.isAgg60
  z37:=Tryz.sizeOf60
  v37:=Tryz.zeroValue60
  t46:=Tryz.underlying98
  a46:=Tryz.isAgg98
  z46:=Tryz.sizeOf98
  v46:=Tryz.zeroValue98
  t51:=Tryz.underlying119
  a51:=Tryz.isAgg119
  z51:=Tryz.sizeOf119
  v51:=Tryz.zeroValue119
  t53:=Tryz.underlying122
  a53:=Tryz.isAgg122
  z53:=Tryz.sizeOf122
  v53:=Tryz.zeroValue122
  t171:=Tryz.underlying158
  a171:=Tryz.isAgg158
  z171:=Tryz.sizeOf158
  v171:=Tryz.zeroValue158
  t173:=Tryz.underlying161
  a173:=Tryz.isAgg161
  z173:=Tryz.sizeOf161
  v173:=Tryz.zeroValue161
  t212:=Tryz.underlying171
  a212:=Tryz.isAgg171
  z212:=Tryz.sizeOf171
  v212:=Tryz.zeroValue171
  t213:=Tryz.underlying172
  a213:=Tryz.isAgg172
  z213:=Tryz.sizeOf172
  t232:=Tryz.underlying178
  a232:=Tryz.isAgg178
  z232:=Tryz.sizeOf178
  v232:=Tryz.zeroValue178
  t233:=Tryz.underlying179
  a233:=Tryz.isAgg179
  z233:=Tryz.sizeOf179
  v233:=Tryz.zeroValue179
  g17:=by kernel_rfl
  g18:=by kernel_rfl
  g19:=by kernel_rfl
  i0:=by kernel_rfl
  i2:=by kernel_rfl
  i3:=by kernel_rfl
  i4:=by kernel_rfl
  i5:=by kernel_rfl
  i9:=by kernel_rfl
  i20:=by kernel_rfl
  i37:=by kernel_rfl
  i46:=by kernel_rfl
  i51:=by kernel_rfl
  i53:=by kernel_rfl
  i171:=by kernel_rfl
  i173:=by kernel_rfl
  i212:=by kernel_rfl
  i232:=by kernel_rfl
  i233:=by kernel_rfl
  m17:=by kernel_rfl
  m18:=by kernel_rfl
  m19:=by kernel_rfl }
open Go.RowKit Go.Sort Go.Lib in
theorem Tryz.strconv_Itoa (n:Int) (h0 : -9223372036854775808≤n) (h1:n≤9223372036854775807) (w:World) (htab:Lib.TabIs Tryz.prog w "internal/strconv.uint64pow10" .u64 Lib.pow10Tab) :
    Calls Tryz.prog 75 #[.int .i64 n] w fun e w'=>e=.returned (.string ⟨(Lib.itoa n).toArray⟩)∧∃ k os,w'=grow (w.drewN k) os:=Any.strconv_Itoa Tryz.laysM171 n h0 h1 w htab
def Tryz.lays156_ren:Go.Shelf.Ren:=⟨fun|156=>77|165=>63|166=>60|169=>33|240=>90|241=>94|276=>122|277=>123|n=>n,fun|31=>72|9=>9|3=>3|4=>4|0=>0|20=>20|72=>62|76=>96|70=>59|37=>60|75=>95|127=>105|164=>142|5=>5|80=>69|n=>n,fun|n=>n⟩
theorem Tryz.lays156:Go.Proofs.Lays.n156 Tryz.prog Tryz.lays156_ren:={
  mixed:=by kernel_rfl
  f156:=Tryz.func77.trans (congrArg some (by kernel_rfl))
  f165:=Tryz.func63.trans (congrArg some (by kernel_rfl))
  f166:=Tryz.func60.trans (congrArg some (by kernel_rfl))
  f169:=Tryz.func33.trans (congrArg some (by kernel_rfl))
  f240:=Tryz.func90.trans (congrArg some (by kernel_rfl))
  f241:=Tryz.func94.trans (congrArg some (by kernel_rfl))
  f276:=Tryz.func122.trans (congrArg some (by kernel_rfl))
  f277:=Tryz.func123.trans (congrArg some (by kernel_rfl))
  t0:=Tryz.underlying0
  a0:=Tryz.isAgg0
  z0:=Tryz.sizeOf0
  v0:=Tryz.zeroValue0
  t3:=Tryz.underlying3
  a3:=Tryz.isAgg3
  z3:=Tryz.sizeOf3
  v3:=Tryz.zeroValue3
  t4:=Tryz.underlying4
  a4:=Tryz.isAgg4
  z4:=Tryz.sizeOf4
  v4:=Tryz.zeroValue4
  t9:=Tryz.underlying9
  a9:=Tryz.isAgg9
  z9:=Tryz.sizeOf9
  v9:=Tryz.zeroValue9
  t20:=Tryz.underlying20
  a20:=Tryz.isAgg20
  z20:=Tryz.sizeOf20
  v20:=Tryz.zeroValue20
  t31:=Tryz.underlying72
  a31:=Tryz.isAgg72
  z31:=Tryz.sizeOf72
  v31:=Tryz.zeroValue72
  t37:=Tryz.underlying60
  a37:=Tryz.isAgg60
  z37:=Tryz.sizeOf60
  v37:=Tryz.zeroValue60
  t70:=Tryz.underlying59
  a70:=Tryz.isAgg59
  z70:=Tryz.sizeOf59
  v70:=Tryz.zeroValue59
  t72:=Tryz.underlying62
  a72:=Tryz.isAgg62
  z72:=Tryz.sizeOf62
  v72:=Tryz.zeroValue62
  t75:=Tryz.underlying95
  a75:=Tryz.isAgg95
  z75:=Tryz.sizeOf95
  v75:=Tryz.zeroValue95
  t76:=Tryz.underlying96
  a76:=Tryz.isAgg96
  z76:=Tryz.sizeOf96
  v76:=Tryz.zeroValue96
  t127:=Tryz.underlying105
  a127:=Tryz.isAgg105
  z127:=Tryz.sizeOf105
  v127:=Tryz.zeroValue105
  t164:=Tryz.underlying142
  a164:=Tryz.isAgg142
  z164:=Tryz.sizeOf142
  v164:=Tryz.zeroValue142 }
theorem Tryz.Builder_Extra_156:Builder.Extra Tryz.prog Tryz.lays156_ren:={
  sizeBuilder:=by kernel_rfl
  liesBuilder:=by kernel_rfl
  t5:=Tryz.underlying5
  a5:=Tryz.isAgg5
  z5:=Tryz.sizeOf5
  v5:=Tryz.zeroValue5
  infoByte:=by kernel_rfl
  cellsByte:=by kernel_rfl
  sizeByte:=by kernel_rfl
  neB5:=by decide }
open Go.RowKit in
theorem Tryz.strings_Join_none (a:Option Addr) (c:Nat) (sep:ByteArray) (w:World) :
    Calls Tryz.prog 77 #[.slice a 0 c,.string sep] w fun e w'=>e=.returned (.string ⟨#[]⟩)∧w'=w:=Any.strings_Join_none Tryz.lays156 Tryz.Builder_Extra_156 a c sep w
open Go.RowKit in
theorem Tryz.strings_Join (bk o c:Nat) (xs:List ByteArray) (sep:ByteArray) (w:World) (hcells:∀ (j:Nat) x,xs[j]?=some x→w.cell? ⟨bk,o+j,none⟩=some (.string x)) (hbk:bk<w.heap.size) (hN:xs.length≤140737488355328) (hcap:xs.length≤c) (hlen:(Lib.join (xs.map (·.data.toList)) sep.data.toList).length≤140737488355328) :
    Calls Tryz.prog 77 #[.slice (some ⟨bk,o,none⟩) xs.length c,.string sep] w fun e w'=>e=.returned (.string ⟨(Lib.join (xs.map (·.data.toList)) sep.data.toList).toArray⟩)∧Below w.heap.size w w':=Any.strings_Join Tryz.lays156 Tryz.Builder_Extra_156 bk o c xs sep w hcells hbk hN hcap hlen
def Tryz.lays137_ren:Go.Shelf.Ren:=⟨fun|137=>163|217=>175|266=>181|n=>n,fun|9=>9|5=>5|3=>3|n=>n,fun|n=>n⟩
theorem Tryz.lays137:Go.Proofs.Lays.n137 Tryz.prog Tryz.lays137_ren:={
  mixed:=by kernel_rfl
  f137:=Tryz.func163.trans (congrArg some (by kernel_rfl))
  f217:=Tryz.func175.trans (congrArg some (by kernel_rfl))
  f266:=Tryz.func181.trans (congrArg some (by kernel_rfl))
  t3:=Tryz.underlying3
  a3:=Tryz.isAgg3
  z3:=Tryz.sizeOf3
  v3:=Tryz.zeroValue3
  t5:=Tryz.underlying5
  a5:=Tryz.isAgg5
  z5:=Tryz.sizeOf5
  v5:=Tryz.zeroValue5
  t9:=Tryz.underlying9
  a9:=Tryz.isAgg9
  z9:=Tryz.sizeOf9
  v9:=Tryz.zeroValue9 }
open Go.RowKit in
theorem Tryz.strings_IndexByte (s:ByteArray) (c:Int) (w:World) :
    Calls Tryz.prog 163 #[.string s,.int .u8 c] w fun e w'=>e=.returned (.int .i64 (Lib.indexByte s.data.toList c.toNat.toUInt8))∧w'=w:=Any.strings_IndexByte Tryz.lays137 s c w
def Tryz.lays144_ren:Go.Shelf.Ren:=⟨fun|144=>124|143=>150|219=>166|217=>175|225=>176|224=>177|267=>178|266=>181|314=>182|n=>n,fun|9=>9|4=>4|3=>3|5=>5|46=>98|146=>120|51=>119|n=>n,fun|1=>0|n=>n⟩
theorem Tryz.lays144:Go.Proofs.Lays.n144 Tryz.prog Tryz.lays144_ren:={
  mixed:=by kernel_rfl
  f143:=Tryz.func150.trans (congrArg some (by kernel_rfl))
  f144:=Tryz.func124.trans (congrArg some (by kernel_rfl))
  f217:=Tryz.func175.trans (congrArg some (by kernel_rfl))
  f219:=Tryz.func166.trans (congrArg some (by kernel_rfl))
  f224:=Tryz.func177.trans (congrArg some (by kernel_rfl))
  f225:=Tryz.func176.trans (congrArg some (by kernel_rfl))
  f266:=Tryz.func181.trans (congrArg some (by kernel_rfl))
  f267:=Tryz.func178.trans (congrArg some (by kernel_rfl))
  f314:=Tryz.func182.trans (congrArg some (by kernel_rfl))
  t3:=Tryz.underlying3
  a3:=Tryz.isAgg3
  z3:=Tryz.sizeOf3
  v3:=Tryz.zeroValue3
  t4:=Tryz.underlying4
  a4:=Tryz.isAgg4
  z4:=Tryz.sizeOf4
  v4:=Tryz.zeroValue4
  t5:=Tryz.underlying5
  a5:=Tryz.isAgg5
  z5:=Tryz.sizeOf5
  v5:=Tryz.zeroValue5
  t9:=Tryz.underlying9
  a9:=Tryz.isAgg9
  z9:=Tryz.sizeOf9
  v9:=Tryz.zeroValue9
  t46:=Tryz.underlying98
  a46:=Tryz.isAgg98
  z46:=Tryz.sizeOf98
  v46:=Tryz.zeroValue98
  t51:=Tryz.underlying119
  a51:=Tryz.isAgg119
  z51:=Tryz.sizeOf119
  v51:=Tryz.zeroValue119
  t146:=Tryz.underlying120
  a146:=Tryz.isAgg120
  z146:=Tryz.sizeOf120
  v146:=Tryz.zeroValue120
  g1:=by kernel_rfl }
open Go.RowKit Go.Lib in
theorem Tryz.strings_Contains_one (s:ByteArray) (c:UInt8) (w:World) :
    Calls Tryz.prog 124 #[.string s,.string ⟨#[c]⟩] w fun e w'=>e=.returned (.bool (decide (0≤Lib.indexByte s.data.toList c)))∧w'=w:=Any.strings_Contains_one Tryz.lays144 s c w
def Tryz.lays110_ren:Go.Shelf.Ren:=⟨fun|110=>149|109=>165|n=>n,fun|31=>72|9=>9|4=>4|3=>3|0=>0|n=>n,fun|n=>n⟩
theorem Tryz.lays110:Go.Proofs.Lays.n110 Tryz.prog Tryz.lays110_ren:={
  mixed:=by kernel_rfl
  f109:=Tryz.func165.trans (congrArg some (by kernel_rfl))
  f110:=Tryz.func149.trans (congrArg some (by kernel_rfl))
  t0:=Tryz.underlying0
  a0:=Tryz.isAgg0
  z0:=Tryz.sizeOf0
  v0:=Tryz.zeroValue0
  t3:=Tryz.underlying3
  a3:=Tryz.isAgg3
  z3:=Tryz.sizeOf3
  v3:=Tryz.zeroValue3
  t4:=Tryz.underlying4
  a4:=Tryz.isAgg4
  z4:=Tryz.sizeOf4
  v4:=Tryz.zeroValue4
  t9:=Tryz.underlying9
  a9:=Tryz.isAgg9
  z9:=Tryz.sizeOf9
  v9:=Tryz.zeroValue9
  t31:=Tryz.underlying72
  a31:=Tryz.isAgg72
  z31:=Tryz.sizeOf72
  v31:=Tryz.zeroValue72 }
open Go.Lib in
theorem Tryz.slices_Contains_string (b off n c:Nat) (zs:List ByteArray) (x:ByteArray) (w:World) (hz:n≤zs.length) (hbig:n≤9223372036854775807) (hc:∀ j,j<zs.length→w.cell? ⟨b,off+j,none⟩=some (.string (zs.getD j ByteArray.empty))) :
    Calls Tryz.prog 149 #[.slice (some ⟨b,off,none⟩) n c,.string x] w fun e w'=>e=.returned (.bool (Lib.containsS (zs.take n) x))∧w'=w:=Any.slices_Contains_string Tryz.lays110 b off n c zs x w hz hbig hc
open Go.Lib in
theorem Tryz.slices_Contains_string_empty (a:Option Addr) (c:Nat) (x:ByteArray) (w:World) :
    Calls Tryz.prog 149 #[.slice a 0 c,.string x] w fun e w'=>e=.returned (.bool false)∧w'=w:=Any.slices_Contains_string_empty Tryz.lays110 a c x w
def Tryz.lays105_ren:Go.Shelf.Ren:=⟨fun|105=>30|212=>61|99=>62|165=>63|166=>60|170=>32|169=>33|263=>91|264=>92|206=>93|240=>90|241=>94|276=>122|277=>123|n=>n,fun|9=>9|3=>3|4=>4|20=>20|0=>0|46=>98|109=>99|5=>5|72=>62|76=>96|51=>119|146=>120|53=>122|148=>123|70=>59|37=>60|75=>95|127=>105|164=>142|80=>69|n=>n,fun|n=>n⟩
theorem Tryz.lays105:Go.Proofs.Lays.n105 Tryz.prog Tryz.lays105_ren:={
  mixed:=by kernel_rfl
  f99:=Tryz.func62.trans (congrArg some (by kernel_rfl))
  f105:=Tryz.func30.trans (congrArg some (by kernel_rfl))
  f165:=Tryz.func63.trans (congrArg some (by kernel_rfl))
  f166:=Tryz.func60.trans (congrArg some (by kernel_rfl))
  f169:=Tryz.func33.trans (congrArg some (by kernel_rfl))
  f170:=Tryz.func32.trans (congrArg some (by kernel_rfl))
  f206:=Tryz.func93.trans (congrArg some (by kernel_rfl))
  f212:=Tryz.func61.trans (congrArg some (by kernel_rfl))
  f240:=Tryz.func90.trans (congrArg some (by kernel_rfl))
  f241:=Tryz.func94.trans (congrArg some (by kernel_rfl))
  f263:=Tryz.func91.trans (congrArg some (by kernel_rfl))
  f264:=Tryz.func92.trans (congrArg some (by kernel_rfl))
  f276:=Tryz.func122.trans (congrArg some (by kernel_rfl))
  f277:=Tryz.func123.trans (congrArg some (by kernel_rfl))
  t0:=Tryz.underlying0
  a0:=Tryz.isAgg0
  z0:=Tryz.sizeOf0
  v0:=Tryz.zeroValue0
  t3:=Tryz.underlying3
  a3:=Tryz.isAgg3
  z3:=Tryz.sizeOf3
  v3:=Tryz.zeroValue3
  t4:=Tryz.underlying4
  a4:=Tryz.isAgg4
  z4:=Tryz.sizeOf4
  v4:=Tryz.zeroValue4
  t5:=Tryz.underlying5
  a5:=Tryz.isAgg5
  z5:=Tryz.sizeOf5
  v5:=Tryz.zeroValue5
  t9:=Tryz.underlying9
  a9:=Tryz.isAgg9
  z9:=Tryz.sizeOf9
  v9:=Tryz.zeroValue9
  t20:=Tryz.underlying20
  a20:=Tryz.isAgg20
  z20:=Tryz.sizeOf20
  v20:=Tryz.zeroValue20
  t37:=Tryz.underlying60
  a37:=Tryz.isAgg60
  z37:=Tryz.sizeOf60
  v37:=Tryz.zeroValue60
  t46:=Tryz.underlying98
  a46:=Tryz.isAgg98
  z46:=Tryz.sizeOf98
  v46:=Tryz.zeroValue98
  t51:=Tryz.underlying119
  a51:=Tryz.isAgg119
  z51:=Tryz.sizeOf119
  v51:=Tryz.zeroValue119
  t53:=Tryz.underlying122
  a53:=Tryz.isAgg122
  z53:=Tryz.sizeOf122
  v53:=Tryz.zeroValue122
  t70:=Tryz.underlying59
  a70:=Tryz.isAgg59
  z70:=Tryz.sizeOf59
  v70:=Tryz.zeroValue59
  t72:=Tryz.underlying62
  a72:=Tryz.isAgg62
  z72:=Tryz.sizeOf62
  v72:=Tryz.zeroValue62
  t75:=Tryz.underlying95
  a75:=Tryz.isAgg95
  z75:=Tryz.sizeOf95
  v75:=Tryz.zeroValue95
  t76:=Tryz.underlying96
  a76:=Tryz.isAgg96
  z76:=Tryz.sizeOf96
  v76:=Tryz.zeroValue96
  t109:=Tryz.underlying99
  a109:=Tryz.isAgg99
  z109:=Tryz.sizeOf99
  v109:=Tryz.zeroValue99
  t127:=Tryz.underlying105
  a127:=Tryz.isAgg105
  z127:=Tryz.sizeOf105
  v127:=Tryz.zeroValue105
  t146:=Tryz.underlying120
  a146:=Tryz.isAgg120
  z146:=Tryz.sizeOf120
  v146:=Tryz.zeroValue120
  t148:=Tryz.underlying123
  a148:=Tryz.isAgg123
  z148:=Tryz.sizeOf123
  v148:=Tryz.zeroValue123
  t164:=Tryz.underlying142
  a164:=Tryz.isAgg142
  z164:=Tryz.sizeOf142
  v164:=Tryz.zeroValue142 }
theorem Tryz.Builder_Extra_105:Builder.Extra Tryz.prog Tryz.lays105_ren:={
  sizeBuilder:=by kernel_rfl
  liesBuilder:=by kernel_rfl
  t5:=Tryz.underlying5
  a5:=Tryz.isAgg5
  z5:=Tryz.sizeOf5
  v5:=Tryz.zeroValue5
  infoByte:=by kernel_rfl
  cellsByte:=by kernel_rfl
  sizeByte:=by kernel_rfl
  neB5:=by decide }
open Go.RowKit Go.Lib in
theorem Tryz.strings_Repeat (s:ByteArray) (c:Nat) (w:World) (hc:c≤9223372036854775807) (hlen:s.size*c≤140737488355328) :
    Calls Tryz.prog 30 #[.string s,.int .i64 c] w fun e w'=>e=.returned (.string ⟨(Lib.repeatL s.data.toList c).toArray⟩)∧Below w.heap.size w w':=Any.strings_Repeat Tryz.lays105 Tryz.Builder_Extra_105 s c w hc hlen
end Go.Proofs
namespace Go.Proofs.YtdmdhopfgnlnoaaGreatDoor
open Go.RowKit
set_option linter.unusedVariables false
set_option linter.unusedSimpArgs false
abbrev Tab (w:World):Prop:=Lib.TabIs Tryz.prog w "internal/strconv.uint64pow10" .u64 Lib.pow10Tab
theorem Tab.below {w w':World} (h:Tab w) (hb:Below w.heap.size w w'):Tab w':=Lib.tabBelow_of_tabIs h w' hb
def VK (n:Int):ByteArray:=⟨(Lib.itoa n).toArray⟩
theorem zR {n:Int} (h:QO n):(VK n).size≤21:=Lib.itoa_length_le n h.1 h.2
theorem itoa_any (n:Int) (h:QO n) (w:World) (ht:Tab w):Calls Tryz.prog 75 #[.int .i64 n] w fun e w'=>e=.returned (.string (VK n))∧Below w.heap.size w w':=by
  refine (Tryz.strconv_Itoa n h.1 h.2 w ht).mono ?_;rintro e w1 ⟨rfl,k,os,rfl⟩;exact ⟨rfl,Lib.below_grow _ w (Nat.le_refl _) k os⟩
end Go.Proofs.YtdmdhopfgnlnoaaGreatDoor
