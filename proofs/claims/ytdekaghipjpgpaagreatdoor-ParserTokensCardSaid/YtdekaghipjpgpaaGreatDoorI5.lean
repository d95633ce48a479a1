/- Contracts of library functions off the shelf, in plain declarations. -/
import Derived.Shelf.Strings.Builder1
import Derived.Shelf.Strings.Builder2
import Derived.Shelf.Strings.OnBuilder
import Derived.Shelf.Strings.Trim
import Derived.Shelf.Small.Utf8
import Derived.Shelf.Small.Strs
import Derived.Shelf.Small.Wraps
import Derived.Shelf.Strings.Search1
import Derived.Shelf.Strings.Search2
import Derived.Shelf.Strings.Search3
import Derived.Shelf.Strings.Cut
import Derived.Shelf.Strings.Count
import Derived.Shelf.LaysM
import Derived.Shelf.Strings.Shaped
import Derived.Shelf.Strings.Prefix
import Derived.Shelf.Strings.Fields
import Derived.Shelf.Unicode.Latin
import Derived.Shelf.Strings.Runes
import Derived.Shelf.Strings.AsciiSet
import Derived.Shelf.Unicode.DecodeSlow
import Derived.Shelf.Unicode.Is16White
import Derived.Shelf.Unicode.IsSpaceAny
import Derived.Shelf.Unicode.Is16Any
import Derived.Shelf.Unicode.Is32Any
import Derived.Shelf.Unicode.ExclAny
import Derived.Shelf.Slices.Turned
import Derived.Test.YtdekaghipjpgpaaGreatDoorProg
namespace Go.Proofs
open Go.Shelf
def Tryz.lays156_ren:Go.Shelf.Ren:=⟨fun|156=>151|165=>194|166=>195|169=>196|240=>238|241=>239|276=>258|277=>259|n=>n,fun|31=>34|9=>9|3=>3|4=>4|0=>0|20=>20|72=>188|76=>192|70=>186|37=>74|75=>191|127=>217|164=>229|5=>5|80=>194|n=>n,fun|n=>n⟩
theorem Tryz.lays156:Go.Proofs.Lays.n156 Tryz.prog Tryz.lays156_ren:={
  mixed:=by kernel_rfl
  f156:=Tryz.func151.trans (congrArg some (by kernel_rfl))
  f165:=Tryz.func194.trans (congrArg some (by kernel_rfl))
  f166:=Tryz.func195.trans (congrArg some (by kernel_rfl))
  f169:=Tryz.func196.trans (congrArg some (by kernel_rfl))
  f240:=Tryz.func238.trans (congrArg some (by kernel_rfl))
  f241:=Tryz.func239.trans (congrArg some (by kernel_rfl))
  f276:=Tryz.func258.trans (congrArg some (by kernel_rfl))
  f277:=Tryz.func259.trans (congrArg some (by kernel_rfl))
  t0:=Tryz.underlying0
  a0:=Tryz.isAgg0
  z0:=Tryz.sizeOf0
  v0:=Tryz.zeroValue0
  t3:=Tryz.underlying3
  a3:=Tryz.isAgg3
  z3:=Tryz.sizeOf3
  v3:=Tryz.zeroValue3
  t4:=Tryz.underlying4
  a4:=Tryz.isAgg4
  z4:=Tryz.sizeOf4
  v4:=Tryz.zeroValue4
  t9:=Tryz.underlying9
  a9:=Tryz.isAgg9
  z9:=Tryz.sizeOf9
  v9:=Tryz.zeroValue9
  t20:=Tryz.underlying20
  a20:=Tryz.isAgg20
  z20:=Tryz.sizeOf20
  v20:=Tryz.zeroValue20
  t31:=Tryz.underlying34
  a31:=Tryz.isAgg34
  z31:=Tryz.sizeOf34
  v31:=Tryz.zeroValue34
  t37:=Tryz.underlying74
  a37:=Tryz.isAgg74
  z37:=Tryz.sizeOf74
  v37:=Tryz.zeroValue74
  t70:=Tryz.underlying186
  a70:=Tryz.isAgg186
  z70:=Tryz.sizeOf186
  v70:=Tryz.zeroValue186
  t72:=Tryz.underlying188
  a72:=Tryz.isAgg188
  z72:=Tryz.sizeOf188
  v72:=Tryz.zeroValue188
  t75:=Tryz.underlying191
  a75:=Tryz.isAgg191
  z75:=Tryz.sizeOf191
  v75:=Tryz.zeroValue191
  t76:=Tryz.underlying192
  a76:=Tryz.isAgg192
  z76:=Tryz.sizeOf192
  v76:=Tryz.zeroValue192
  t127:=Tryz.underlying217
  a127:=Tryz.isAgg217
  z127:=Tryz.sizeOf217
  v127:=Tryz.zeroValue217
  t164:=Tryz.underlying229
  a164:=Tryz.isAgg229
  z164:=Tryz.sizeOf229
  v164:=Tryz.zeroValue229 }
theorem Tryz.Builder_Extra_156:Builder.Extra Tryz.prog Tryz.lays156_ren:={
  sizeBuilder:=by kernel_rfl
  liesBuilder:=by kernel_rfl
  t5:=Tryz.underlying5
  a5:=Tryz.isAgg5
  z5:=Tryz.sizeOf5
  v5:=Tryz.zeroValue5
  infoByte:=by kernel_rfl
  cellsByte:=by kernel_rfl
  sizeByte:=by kernel_rfl
  neB5:=by decide }
open Go.RowKit in
open Go.RowKit in
theorem Tryz.strings_Join (bk o c:Nat) (xs:List ByteArray) (sep:ByteArray) (w:World) (hcells:∀ (j:Nat) x,xs[j]?=some x→w.cell? ⟨bk,o+j,none⟩=some (.string x)) (hbk:bk<w.heap.size) (hN:xs.length≤140737488355328) (hcap:xs.length≤c) (hlen:(Lib.join (xs.map (·.data.toList)) sep.data.toList).length≤140737488355328) :
    Calls Tryz.prog 151 #[.slice (some ⟨bk,o,none⟩) xs.length c,.string sep] w fun e w'=>e=.returned (.string ⟨(Lib.join (xs.map (·.data.toList)) sep.data.toList).toArray⟩)∧Below w.heap.size w w':=Any.strings_Join Tryz.lays156 Tryz.Builder_Extra_156 bk o c xs sep w hcells hbk hN hcap hlen
def Tryz.lays137_ren:Go.Shelf.Ren:=⟨fun|137=>210|217=>106|266=>153|n=>n,fun|9=>9|5=>5|3=>3|n=>n,fun|n=>n⟩
theorem Tryz.lays137:Go.Proofs.Lays.n137 Tryz.prog Tryz.lays137_ren:={
  mixed:=by kernel_rfl
  f137:=Tryz.func210.trans (congrArg some (by kernel_rfl))
  f217:=Tryz.func106.trans (congrArg some (by kernel_rfl))
  f266:=Tryz.func153.trans (congrArg some (by kernel_rfl))
  t3:=Tryz.underlying3
  a3:=Tryz.isAgg3
  z3:=Tryz.sizeOf3
  v3:=Tryz.zeroValue3
  t5:=Tryz.underlying5
  a5:=Tryz.isAgg5
  z5:=Tryz.sizeOf5
  v5:=Tryz.zeroValue5
  t9:=Tryz.underlying9
  a9:=Tryz.isAgg9
  z9:=Tryz.sizeOf9
  v9:=Tryz.zeroValue9 }
open Go.RowKit in
theorem Tryz.strings_IndexByte (s:ByteArray) (c:Int) (w:World) :
    Calls Tryz.prog 210 #[.string s,.int .u8 c] w fun e w'=>e=.returned (.int .i64 (Lib.indexByte s.data.toList c.toNat.toUInt8))∧w'=w:=Any.strings_IndexByte Tryz.lays137 s c w
def Tryz.lays110_ren:Go.Shelf.Ren:=⟨fun|110=>244|109=>260|n=>n,fun|31=>34|9=>9|4=>4|3=>3|0=>0|n=>n,fun|n=>n⟩
theorem Tryz.lays110:Go.Proofs.Lays.n110 Tryz.prog Tryz.lays110_ren:={
  mixed:=by kernel_rfl
  f109:=Tryz.func260.trans (congrArg some (by kernel_rfl))
  f110:=Tryz.func244.trans (congrArg some (by kernel_rfl))
  t0:=Tryz.underlying0
  a0:=Tryz.isAgg0
  z0:=Tryz.sizeOf0
  v0:=Tryz.zeroValue0
  t3:=Tryz.underlying3
  a3:=Tryz.isAgg3
  z3:=Tryz.sizeOf3
  v3:=Tryz.zeroValue3
  t4:=Tryz.underlying4
  a4:=Tryz.isAgg4
  z4:=Tryz.sizeOf4
  v4:=Tryz.zeroValue4
  t9:=Tryz.underlying9
  a9:=Tryz.isAgg9
  z9:=Tryz.sizeOf9
  v9:=Tryz.zeroValue9
  t31:=Tryz.underlying34
  a31:=Tryz.isAgg34
  z31:=Tryz.sizeOf34
  v31:=Tryz.zeroValue34 }
open Go.Lib in
theorem Tryz.slices_Contains_string (b off n c:Nat) (zs:List ByteArray) (x:ByteArray) (w:World) (hz:n≤zs.length) (hbig:n≤9223372036854775807) (hc:∀ j,j<zs.length→w.cell? ⟨b,off+j,none⟩=some (.string (zs.getD j ByteArray.empty))) :
    Calls Tryz.prog 244 #[.slice (some ⟨b,off,none⟩) n c,.string x] w fun e w'=>e=.returned (.bool (Lib.containsS (zs.take n) x))∧w'=w:=Any.slices_Contains_string Tryz.lays110 b off n c zs x w hz hbig hc
open Go.Lib in
theorem Tryz.slices_Contains_string_empty (a:Option Addr) (c:Nat) (x:ByteArray) (w:World) :
    Calls Tryz.prog 244 #[.slice a 0 c,.string x] w fun e w'=>e=.returned (.bool false)∧w'=w:=Any.slices_Contains_string_empty Tryz.lays110 a c x w
def Tryz.lays160_ren:Go.Shelf.Ren:=⟨fun|160=>175|232=>216|231=>215|227=>217|234=>219|233=>218|236=>221|235=>220|228=>249|271=>252|151=>251|197=>250|120=>265|152=>264|260=>263|137=>210|119=>269|224=>108|225=>107|217=>106|266=>153|n=>n,fun|9=>9|4=>4|3=>3|5=>5|117=>207|116=>206|0=>0|124=>210|21=>21|105=>226|46=>135|119=>201|139=>251|138=>250|n=>n,fun|3=>3|4=>4|n=>n⟩
theorem Tryz.lays160:Go.Proofs.Lays.n160 Tryz.prog Tryz.lays160_ren:={
  mixed:=by kernel_rfl
  f119:=Tryz.func269.trans (congrArg some (by kernel_rfl))
  f120:=Tryz.func265.trans (congrArg some (by kernel_rfl))
  f137:=Tryz.func210.trans (congrArg some (by kernel_rfl))
  f151:=Tryz.func251.trans (congrArg some (by kernel_rfl))
  f152:=Tryz.func264.trans (congrArg some (by kernel_rfl))
  f160:=Tryz.func175.trans (congrArg some (by kernel_rfl))
  f197:=Tryz.func250.trans (congrArg some (by kernel_rfl))
  f217:=Tryz.func106.trans (congrArg some (by kernel_rfl))
  f224:=Tryz.func108.trans (congrArg some (by kernel_rfl))
  f225:=Tryz.func107.trans (congrArg some (by kernel_rfl))
  f227:=Tryz.func217.trans (congrArg some (by kernel_rfl))
  f228:=Tryz.func249.trans (congrArg some (by kernel_rfl))
  f231:=Tryz.func215.trans (congrArg some (by kernel_rfl))
  f232:=Tryz.func216.trans (congrArg some (by kernel_rfl))
  f233:=Tryz.func218.trans (congrArg some (by kernel_rfl))
  f234:=Tryz.func219.trans (congrArg some (by kernel_rfl))
  f235:=Tryz.func220.trans (congrArg some (by kernel_rfl))
  f236:=Tryz.func221.trans (congrArg some (by kernel_rfl))
  f260:=Tryz.func263.trans (congrArg some (by kernel_rfl))
  f266:=Tryz.func153.trans (congrArg some (by kernel_rfl))
  f271:=Tryz.func252.trans (congrArg some (by kernel_rfl))
  t0:=Tryz.underlying0
  a0:=Tryz.isAgg0
  z0:=Tryz.sizeOf0
  v0:=Tryz.zeroValue0
  t3:=Tryz.underlying3
  a3:=Tryz.isAgg3
  z3:=Tryz.sizeOf3
  v3:=Tryz.zeroValue3
  t4:=Tryz.underlying4
  a4:=Tryz.isAgg4
  z4:=Tryz.sizeOf4
  v4:=Tryz.zeroValue4
  t5:=Tryz.underlying5
  a5:=Tryz.isAgg5
  z5:=Tryz.sizeOf5
  v5:=Tryz.zeroValue5
  t9:=Tryz.underlying9
  a9:=Tryz.isAgg9
  z9:=Tryz.sizeOf9
  v9:=Tryz.zeroValue9
  t21:=Tryz.underlying21
  a21:=Tryz.isAgg21
  z21:=Tryz.sizeOf21
  v21:=Tryz.zeroValue21
  t46:=Tryz.underlying135
  a46:=Tryz.isAgg135
  z46:=Tryz.sizeOf135
  v46:=Tryz.zeroValue135
  t105:=Tryz.underlying226
  a105:=Tryz.isAgg226
  z105:=Tryz.sizeOf226
  v105:=Tryz.zeroValue226
  t116:=Tryz.underlying206
  a116:=Tryz.isAgg206
  z116:=Tryz.sizeOf206
  t117:=Tryz.underlying207
  a117:=Tryz.isAgg207
  z117:=Tryz.sizeOf207
  v117:=Tryz.zeroValue207
  t119:=Tryz.underlying201
  a119:=Tryz.isAgg201
  z119:=Tryz.sizeOf201
  t124:=Tryz.underlying210
  a124:=Tryz.isAgg210
  z124:=Tryz.sizeOf210
  v124:=Tryz.zeroValue210
  t138:=Tryz.underlying250
  a138:=Tryz.isAgg250
  z138:=Tryz.sizeOf250
  v138:=Tryz.zeroValue250
  t139:=Tryz.underlying251
  a139:=Tryz.isAgg251
  z139:=Tryz.sizeOf251
  v139:=Tryz.zeroValue251
  g3:=by kernel_rfl
  g4:=by kernel_rfl }
open Go.RowKit in
def Tryz.lays103_ren:Go.Shelf.Ren:=⟨fun|103=>126|210=>176|206=>165|n=>n,fun|9=>9|4=>4|24=>144|3=>3|n=>n,fun|n=>n⟩
theorem Tryz.lays103:Go.Proofs.Lays.n103 Tryz.prog Tryz.lays103_ren:={
  mixed:=by kernel_rfl
  f103:=Tryz.func126.trans (congrArg some (by kernel_rfl))
  f206:=Tryz.func165.trans (congrArg some (by kernel_rfl))
  f210:=Tryz.func176.trans (congrArg some (by kernel_rfl))
  t3:=Tryz.underlying3
  a3:=Tryz.isAgg3
  z3:=Tryz.sizeOf3
  v3:=Tryz.zeroValue3
  t4:=Tryz.underlying4
  a4:=Tryz.isAgg4
  z4:=Tryz.sizeOf4
  v4:=Tryz.zeroValue4
  t9:=Tryz.underlying9
  a9:=Tryz.isAgg9
  z9:=Tryz.sizeOf9
  v9:=Tryz.zeroValue9
  t24:=Tryz.underlying144
  a24:=Tryz.isAgg144
  z24:=Tryz.sizeOf144
  v24:=Tryz.zeroValue144 }
open Go.RowKit in
theorem Tryz.strings_CutPrefix (s p:ByteArray) (w:World) :
    Calls Tryz.prog 126 #[.string s,.string p] w fun e w'=>e=.returned (.tuple #[.string ⟨(Lib.trimPrefix s.data.toList p.data.toList).toArray⟩,.bool (Lib.hasPrefix s.data.toList p.data.toList)])∧w'=w:=Any.strings_CutPrefix Tryz.lays103 s p w
open Go.RowKit Go.Lib in
open Go.RowKit Go.Lib in
def Tryz.lays99_ren:Go.Shelf.Ren:=⟨fun|99=>116|206=>165|n=>n,fun|9=>9|4=>4|3=>3|n=>n,fun|n=>n⟩
theorem Tryz.lays99:Go.Proofs.Lays.n99 Tryz.prog Tryz.lays99_ren:={
  mixed:=by kernel_rfl
  f99:=Tryz.func116.trans (congrArg some (by kernel_rfl))
  f206:=Tryz.func165.trans (congrArg some (by kernel_rfl))
  t3:=Tryz.underlying3
  a3:=Tryz.isAgg3
  z3:=Tryz.sizeOf3
  v3:=Tryz.zeroValue3
  t4:=Tryz.underlying4
  a4:=Tryz.isAgg4
  z4:=Tryz.sizeOf4
  v4:=Tryz.zeroValue4
  t9:=Tryz.underlying9
  a9:=Tryz.isAgg9
  z9:=Tryz.sizeOf9
  v9:=Tryz.zeroValue9 }
open Go.RowKit Go.Lib in
theorem Tryz.strings_HasPrefix (s p:ByteArray) (w:World) :
    Calls Tryz.prog 116 #[.string s,.string p] w fun e w'=>e=.returned (.bool (Lib.hasPrefix s.data.toList p.data.toList))∧w'=w:=Any.strings_HasPrefix Tryz.lays99 s p w
def Tryz.lays157_ren:Go.Shelf.Ren:=⟨fun|157=>174|229=>213|199=>214|261=>248|311=>261|312=>262|n=>n,fun|9=>9|31=>34|3=>3|5=>5|4=>4|119=>201|0=>0|40=>203|152=>221|21=>21|154=>223|51=>162|141=>225|196=>236|193=>233|198=>239|49=>237|194=>234|201=>242|226=>247|46=>135|227=>248|n=>n,fun|0=>1|6=>2|n=>n⟩
theorem Tryz.lays157:Go.Proofs.Lays.n157 Tryz.prog Tryz.lays157_ren:={
  mixed:=by kernel_rfl
  f157:=Tryz.func174.trans (congrArg some (by kernel_rfl))
  f199:=Tryz.func214.trans (congrArg some (by kernel_rfl))
  f229:=Tryz.func213.trans (congrArg some (by kernel_rfl))
  f261:=Tryz.func248.trans (congrArg some (by kernel_rfl))
  f311:=Tryz.func261.trans (congrArg some (by kernel_rfl))
  f312:=Tryz.func262.trans (congrArg some (by kernel_rfl))
  t0:=Tryz.underlying0
  a0:=Tryz.isAgg0
  z0:=Tryz.sizeOf0
  v0:=Tryz.zeroValue0
  t3:=Tryz.underlying3
  a3:=Tryz.isAgg3
  z3:=Tryz.sizeOf3
  v3:=Tryz.zeroValue3
  t4:=Tryz.underlying4
  a4:=Tryz.isAgg4
  z4:=Tryz.sizeOf4
  v4:=Tryz.zeroValue4
  t5:=Tryz.underlying5
  a5:=Tryz.isAgg5
  z5:=Tryz.sizeOf5
  v5:=Tryz.zeroValue5
  t9:=Tryz.underlying9
  a9:=Tryz.isAgg9
  z9:=Tryz.sizeOf9
  v9:=Tryz.zeroValue9
  t21:=Tryz.underlying21
  a21:=Tryz.isAgg21
  z21:=Tryz.sizeOf21
  v21:=Tryz.zeroValue21
  t31:=Tryz.underlying34
  a31:=Tryz.isAgg34
  z31:=Tryz.sizeOf34
  v31:=Tryz.zeroValue34
  t40:=Tryz.underlying203
  a40:=Tryz.isAgg203
  z40:=Tryz.sizeOf203
  v40:=Tryz.zeroValue203
  t46:=Tryz.underlying135
  a46:=Tryz.isAgg135
  z46:=Tryz.sizeOf135
  v46:=Tryz.zeroValue135
  t49:=Tryz.underlying237
  a49:=Tryz.isAgg237
  z49:=Tryz.sizeOf237
  v49:=Tryz.zeroValue237
  t51:=Tryz.underlying162
  a51:=Tryz.isAgg162
  z51:=Tryz.sizeOf162
  v51:=Tryz.zeroValue162
  t119:=Tryz.underlying201
  a119:=Tryz.isAgg201
  z119:=Tryz.sizeOf201
  t141:=Tryz.underlying225
  a141:=Tryz.isAgg225
  z141:=Tryz.sizeOf225
  v141:=Tryz.zeroValue225
  t152:=Tryz.underlying221
  a152:=Tryz.isAgg221
  z152:=Tryz.sizeOf221
  v152:=Tryz.zeroValue221
  t154:=Tryz.underlying223
  a154:=Tryz.isAgg223
  z154:=Tryz.sizeOf223
  v154:=Tryz.zeroValue223
  t193:=Tryz.underlying233
  a193:=Tryz.isAgg233
  z193:=Tryz.sizeOf233
  v193:=Tryz.zeroValue233
  t194:=Tryz.underlying234
  a194:=Tryz.isAgg234
  z194:=Tryz.sizeOf234
  v194:=Tryz.zeroValue234
  t196:=Tryz.underlying236
  a196:=Tryz.isAgg236
  z196:=Tryz.sizeOf236
  v196:=Tryz.zeroValue236
  t198:=Tryz.underlying239
  a198:=Tryz.isAgg239
  z198:=Tryz.sizeOf239
  v198:=Tryz.zeroValue239
  t201:=Tryz.underlying242
  a201:=Tryz.isAgg242
  z201:=Tryz.sizeOf242
  v201:=Tryz.zeroValue242
  t226:=Tryz.underlying247
  a226:=Tryz.isAgg247
  z226:=Tryz.sizeOf247
  v226:=Tryz.zeroValue247
  t227:=Tryz.underlying248
  a227:=Tryz.isAgg248
  z227:=Tryz.sizeOf248
  v227:=Tryz.zeroValue248
  g0:=by kernel_rfl
  g6:=by kernel_rfl }
open Go.RowKit Go.Lib in
theorem Tryz.strings_Fields (s:ByteArray) (w:World) (hs:s.size<4294967281) (hascii:∀ (j:Nat) b,s.data.toList[j]?=some b→b.toNat<128) (htab:Lib.TabIs Tryz.prog w "strings.asciiSpace" .u8 Lib.asciiSpaceTab) :
    Calls Tryz.prog 174 #[.string s] w fun e w' =>
      e=.returned (.slice (some ⟨w.heap.size,0,none⟩) (Lib.fields s.data.toList).length (Lib.fields s.data.toList).length)∧w'=w.alloc (.cells ((Lib.fields s.data.toList).map fun l=>Value.string ⟨l.toArray⟩).toArray 9):=Any.strings_Fields Tryz.lays157 (by kernel_rfl) (by kernel_rfl) s w hs hascii htab
end Go.Proofs
