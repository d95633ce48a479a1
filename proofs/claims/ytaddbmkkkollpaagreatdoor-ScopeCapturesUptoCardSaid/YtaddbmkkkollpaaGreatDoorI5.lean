import Derived.Shelf.Strings.Builder1
import Derived.Shelf.Strings.Builder2
import Derived.Shelf.Strings.OnBuilder
import Derived.Shelf.Strings.Trim
import Derived.Shelf.Small.Utf8
import Derived.Shelf.Small.Strs
import Derived.Shelf.Small.Wraps
import Derived.Shelf.Strings.Search1
import Derived.Shelf.Strings.Search2
import Derived.Shelf.Strings.Cut
import Derived.Shelf.LaysM
import Derived.Shelf.Strings.Shaped
import Derived.Shelf.Strings.Prefix
import Derived.Shelf.Strings.Fields
import Derived.Shelf.Unicode.Latin
import Derived.Shelf.Strings.Runes
import Derived.Shelf.Strings.AsciiSet
import Derived.Shelf.Unicode.DecodeSlow
import Derived.Shelf.Unicode.Is16White
import Derived.Shelf.Unicode.IsSpaceAny
import Derived.Shelf.Unicode.Is16Any
import Derived.Shelf.Unicode.Is32Any
import Derived.Shelf.Unicode.ExclAny
import Derived.Shelf.Slices.Turned
import Derived.Test.YtaddbmkkkollpaaGreatDoorProg
import Derived.Shelf.SlIterI.Nil
import Derived.Shelf.SortM.Plain
import Derived.Shelf.SortM.SortNone
import Derived.Ground.GgzProg
import Derived.Ground.SlgmProg
import Derived.Shelf.SlGeneric
set_option linter.all false
namespace Go.Proofs
open Go.Shelf
def Tryz.lays156_ren:Go.Shelf.Ren:=⟨fun|156=>103|165=>138|166=>139|169=>140|240=>166|241=>167|276=>190|277=>191|n=>n,fun|31=>79|9=>9|3=>3|4=>4|0=>0|20=>20|72=>202|76=>206|70=>199|37=>200|75=>205|127=>231|164=>253|5=>5|80=>208|n=>n,fun|n=>n⟩
theorem Tryz.lays156:Go.Proofs.Lays.n156 Tryz.prog Tryz.lays156_ren:={
  mixed:=by kernel_rfl
  f156:=Tryz.func103.trans (congrArg some (by kernel_rfl))
  f165:=Tryz.func138.trans (congrArg some (by kernel_rfl))
  f166:=Tryz.func139.trans (congrArg some (by kernel_rfl))
  f169:=Tryz.func140.trans (congrArg some (by kernel_rfl))
  f240:=Tryz.func166.trans (congrArg some (by kernel_rfl))
  f241:=Tryz.func167.trans (congrArg some (by kernel_rfl))
  f276:=Tryz.func190.trans (congrArg some (by kernel_rfl))
  f277:=Tryz.func191.trans (congrArg some (by kernel_rfl))
  t0:=Tryz.underlying0
  a0:=Tryz.isAgg0
  z0:=Tryz.sizeOf0
  v0:=Tryz.zeroValue0
  t3:=Tryz.underlying3
  a3:=Tryz.isAgg3
  z3:=Tryz.sizeOf3
  v3:=Tryz.zeroValue3
  t4:=Tryz.underlying4
  a4:=Tryz.isAgg4
  z4:=Tryz.sizeOf4
  v4:=Tryz.zeroValue4
  t9:=Tryz.underlying9
  a9:=Tryz.isAgg9
  z9:=Tryz.sizeOf9
  v9:=Tryz.zeroValue9
  t20:=Tryz.underlying20
  a20:=Tryz.isAgg20
  z20:=Tryz.sizeOf20
  v20:=Tryz.zeroValue20
  t31:=Tryz.underlying79
  a31:=Tryz.isAgg79
  z31:=Tryz.sizeOf79
  v31:=Tryz.zeroValue79
  t37:=Tryz.underlying200
  a37:=Tryz.isAgg200
  z37:=Tryz.sizeOf200
  v37:=Tryz.zeroValue200
  t70:=Tryz.underlying199
  a70:=Tryz.isAgg199
  z70:=Tryz.sizeOf199
  v70:=Tryz.zeroValue199
  t72:=Tryz.underlying202
  a72:=Tryz.isAgg202
  z72:=Tryz.sizeOf202
  v72:=Tryz.zeroValue202
  t75:=Tryz.underlying205
  a75:=Tryz.isAgg205
  z75:=Tryz.sizeOf205
  v75:=Tryz.zeroValue205
  t76:=Tryz.underlying206
  a76:=Tryz.isAgg206
  z76:=Tryz.sizeOf206
  v76:=Tryz.zeroValue206
  t127:=Tryz.underlying231
  a127:=Tryz.isAgg231
  z127:=Tryz.sizeOf231
  v127:=Tryz.zeroValue231
  t164:=Tryz.underlying253
  a164:=Tryz.isAgg253
  z164:=Tryz.sizeOf253
  v164:=Tryz.zeroValue253 }
theorem Tryz.Builder_Extra_156:Builder.Extra Tryz.prog Tryz.lays156_ren:={
  sizeBuilder:=by kernel_rfl
  liesBuilder:=by kernel_rfl
  t5:=Tryz.underlying5
  a5:=Tryz.isAgg5
  z5:=Tryz.sizeOf5
  v5:=Tryz.zeroValue5
  infoByte:=by kernel_rfl
  cellsByte:=by kernel_rfl
  sizeByte:=by kernel_rfl
  neB5:=by decide }
open Go.RowKit in
open Go.RowKit in
theorem Tryz.strings_Join (bk o c:Nat) (xs:List ByteArray) (sep:ByteArray) (w:World) (hcells:∀ (j:Nat) x,xs[j]?=some x→w.cell? ⟨bk,o+j,none⟩=some (.string x)) (hbk:bk<w.heap.size) (hN:xs.length≤140737488355328) (hcap:xs.length≤c) (hlen:(Lib.join (xs.map (·.data.toList)) sep.data.toList).length≤140737488355328) :
    Calls Tryz.prog 103 #[.slice (some ⟨bk,o,none⟩) xs.length c,.string sep] w fun e w'=>e=.returned (.string ⟨(Lib.join (xs.map (·.data.toList)) sep.data.toList).toArray⟩)∧Below w.heap.size w w':=Any.strings_Join Tryz.lays156 Tryz.Builder_Extra_156 bk o c xs sep w hcells hbk hN hcap hlen
def Tryz.lays137_ren:Go.Shelf.Ren:=⟨fun|137=>180|217=>195|266=>203|n=>n,fun|9=>9|5=>5|3=>3|n=>n,fun|n=>n⟩
theorem Tryz.lays137:Go.Proofs.Lays.n137 Tryz.prog Tryz.lays137_ren:={
  mixed:=by kernel_rfl
  f137:=Tryz.func180.trans (congrArg some (by kernel_rfl))
  f217:=Tryz.func195.trans (congrArg some (by kernel_rfl))
  f266:=Tryz.func203.trans (congrArg some (by kernel_rfl))
  t3:=Tryz.underlying3
  a3:=Tryz.isAgg3
  z3:=Tryz.sizeOf3
  v3:=Tryz.zeroValue3
  t5:=Tryz.underlying5
  a5:=Tryz.isAgg5
  z5:=Tryz.sizeOf5
  v5:=Tryz.zeroValue5
  t9:=Tryz.underlying9
  a9:=Tryz.isAgg9
  z9:=Tryz.sizeOf9
  v9:=Tryz.zeroValue9 }
open Go.RowKit in
theorem Tryz.strings_IndexByte (s:ByteArray) (c:Int) (w:World) :
    Calls Tryz.prog 180 #[.string s,.int .u8 c] w fun e w'=>e=.returned (.int .i64 (Lib.indexByte s.data.toList c.toNat.toUInt8))∧w'=w:=Any.strings_IndexByte Tryz.lays137 s c w
def Tryz.lays110_ren:Go.Shelf.Ren:=⟨fun|110=>172|109=>193|n=>n,fun|31=>79|9=>9|4=>4|3=>3|0=>0|n=>n,fun|n=>n⟩
theorem Tryz.lays110:Go.Proofs.Lays.n110 Tryz.prog Tryz.lays110_ren:={
  mixed:=by kernel_rfl
  f109:=Tryz.func193.trans (congrArg some (by kernel_rfl))
  f110:=Tryz.func172.trans (congrArg some (by kernel_rfl))
  t0:=Tryz.underlying0
  a0:=Tryz.isAgg0
  z0:=Tryz.sizeOf0
  v0:=Tryz.zeroValue0
  t3:=Tryz.underlying3
  a3:=Tryz.isAgg3
  z3:=Tryz.sizeOf3
  v3:=Tryz.zeroValue3
  t4:=Tryz.underlying4
  a4:=Tryz.isAgg4
  z4:=Tryz.sizeOf4
  v4:=Tryz.zeroValue4
  t9:=Tryz.underlying9
  a9:=Tryz.isAgg9
  z9:=Tryz.sizeOf9
  v9:=Tryz.zeroValue9
  t31:=Tryz.underlying79
  a31:=Tryz.isAgg79
  z31:=Tryz.sizeOf79
  v31:=Tryz.zeroValue79 }
open Go.Lib in
theorem Tryz.slices_Contains_string (b off n c:Nat) (zs:List ByteArray) (x:ByteArray) (w:World) (hz:n≤zs.length) (hbig:n≤9223372036854775807) (hc:∀ j,j<zs.length→w.cell? ⟨b,off+j,none⟩=some (.string (zs.getD j ByteArray.empty))) :
    Calls Tryz.prog 172 #[.slice (some ⟨b,off,none⟩) n c,.string x] w fun e w'=>e=.returned (.bool (Lib.containsS (zs.take n) x))∧w'=w:=Any.slices_Contains_string Tryz.lays110 b off n c zs x w hz hbig hc
open Go.Lib in
theorem Tryz.slices_Contains_string_empty (a:Option Addr) (c:Nat) (x:ByteArray) (w:World) :
    Calls Tryz.prog 172 #[.slice a 0 c,.string x] w fun e w'=>e=.returned (.bool false)∧w'=w:=Any.slices_Contains_string_empty Tryz.lays110 a c x w
def Tryz.lays160_ren:Go.Shelf.Ren:=⟨fun|160=>200|232=>209|231=>208|227=>210|234=>212|233=>211|236=>214|235=>213|228=>216|271=>219|151=>218|197=>217|120=>223|152=>222|260=>221|137=>180|119=>227|224=>225|225=>224|217=>195|266=>203|n=>n,fun|9=>9|4=>4|3=>3|5=>5|117=>284|116=>283|0=>0|124=>287|21=>21|105=>290|46=>121|119=>247|139=>298|138=>297|n=>n,fun|3=>3|4=>4|n=>n⟩
theorem Tryz.lays160:Go.Proofs.Lays.n160 Tryz.prog Tryz.lays160_ren:={
  mixed:=by kernel_rfl
  f119:=Tryz.func227.trans (congrArg some (by kernel_rfl))
  f120:=Tryz.func223.trans (congrArg some (by kernel_rfl))
  f137:=Tryz.func180.trans (congrArg some (by kernel_rfl))
  f151:=Tryz.func218.trans (congrArg some (by kernel_rfl))
  f152:=Tryz.func222.trans (congrArg some (by kernel_rfl))
  f160:=Tryz.func200.trans (congrArg some (by kernel_rfl))
  f197:=Tryz.func217.trans (congrArg some (by kernel_rfl))
  f217:=Tryz.func195.trans (congrArg some (by kernel_rfl))
  f224:=Tryz.func225.trans (congrArg some (by kernel_rfl))
  f225:=Tryz.func224.trans (congrArg some (by kernel_rfl))
  f227:=Tryz.func210.trans (congrArg some (by kernel_rfl))
  f228:=Tryz.func216.trans (congrArg some (by kernel_rfl))
  f231:=Tryz.func208.trans (congrArg some (by kernel_rfl))
  f232:=Tryz.func209.trans (congrArg some (by kernel_rfl))
  f233:=Tryz.func211.trans (congrArg some (by kernel_rfl))
  f234:=Tryz.func212.trans (congrArg some (by kernel_rfl))
  f235:=Tryz.func213.trans (congrArg some (by kernel_rfl))
  f236:=Tryz.func214.trans (congrArg some (by kernel_rfl))
  f260:=Tryz.func221.trans (congrArg some (by kernel_rfl))
  f266:=Tryz.func203.trans (congrArg some (by kernel_rfl))
  f271:=Tryz.func219.trans (congrArg some (by kernel_rfl))
  t0:=Tryz.underlying0
  a0:=Tryz.isAgg0
  z0:=Tryz.sizeOf0
  v0:=Tryz.zeroValue0
  t3:=Tryz.underlying3
  a3:=Tryz.isAgg3
  z3:=Tryz.sizeOf3
  v3:=Tryz.zeroValue3
  t4:=Tryz.underlying4
  a4:=Tryz.isAgg4
  z4:=Tryz.sizeOf4
  v4:=Tryz.zeroValue4
  t5:=Tryz.underlying5
  a5:=Tryz.isAgg5
  z5:=Tryz.sizeOf5
  v5:=Tryz.zeroValue5
  t9:=Tryz.underlying9
  a9:=Tryz.isAgg9
  z9:=Tryz.sizeOf9
  v9:=Tryz.zeroValue9
  t21:=Tryz.underlying21
  a21:=Tryz.isAgg21
  z21:=Tryz.sizeOf21
  v21:=Tryz.zeroValue21
  t46:=Tryz.underlying121
  a46:=Tryz.isAgg121
  z46:=Tryz.sizeOf121
  v46:=Tryz.zeroValue121
  t105:=Tryz.underlying290
  a105:=Tryz.isAgg290
  z105:=Tryz.sizeOf290
  v105:=Tryz.zeroValue290
  t116:=Tryz.underlying283
  a116:=Tryz.isAgg283
  z116:=Tryz.sizeOf283
  t117:=Tryz.underlying284
  a117:=Tryz.isAgg284
  z117:=Tryz.sizeOf284
  v117:=Tryz.zeroValue284
  t119:=Tryz.underlying247
  a119:=Tryz.isAgg247
  z119:=Tryz.sizeOf247
  t124:=Tryz.underlying287
  a124:=Tryz.isAgg287
  z124:=Tryz.sizeOf287
  v124:=Tryz.zeroValue287
  t138:=Tryz.underlying297
  a138:=Tryz.isAgg297
  z138:=Tryz.sizeOf297
  v138:=Tryz.zeroValue297
  t139:=Tryz.underlying298
  a139:=Tryz.isAgg298
  z139:=Tryz.sizeOf298
  v139:=Tryz.zeroValue298
  g3:=by kernel_rfl
  g4:=by kernel_rfl }
open Go.RowKit in
def Tryz.lays103_ren:Go.Shelf.Ren:=⟨fun|103=>188|210=>201|206=>148|n=>n,fun|9=>9|4=>4|24=>251|3=>3|n=>n,fun|n=>n⟩
theorem Tryz.lays103:Go.Proofs.Lays.n103 Tryz.prog Tryz.lays103_ren:={
  mixed:=by kernel_rfl
  f103:=Tryz.func188.trans (congrArg some (by kernel_rfl))
  f206:=Tryz.func148.trans (congrArg some (by kernel_rfl))
  f210:=Tryz.func201.trans (congrArg some (by kernel_rfl))
  t3:=Tryz.underlying3
  a3:=Tryz.isAgg3
  z3:=Tryz.sizeOf3
  v3:=Tryz.zeroValue3
  t4:=Tryz.underlying4
  a4:=Tryz.isAgg4
  z4:=Tryz.sizeOf4
  v4:=Tryz.zeroValue4
  t9:=Tryz.underlying9
  a9:=Tryz.isAgg9
  z9:=Tryz.sizeOf9
  v9:=Tryz.zeroValue9
  t24:=Tryz.underlying251
  a24:=Tryz.isAgg251
  z24:=Tryz.sizeOf251
  v24:=Tryz.zeroValue251 }
open Go.RowKit in
theorem Tryz.strings_CutPrefix (s p:ByteArray) (w:World) :
    Calls Tryz.prog 188 #[.string s,.string p] w fun e w'=>e=.returned (.tuple #[.string ⟨(Lib.trimPrefix s.data.toList p.data.toList).toArray⟩,.bool (Lib.hasPrefix s.data.toList p.data.toList)])∧w'=w:=Any.strings_CutPrefix Tryz.lays103 s p w
def Tryz.lays99_ren:Go.Shelf.Ren:=⟨fun|99=>115|206=>148|n=>n,fun|9=>9|4=>4|3=>3|n=>n,fun|n=>n⟩
theorem Tryz.lays99:Go.Proofs.Lays.n99 Tryz.prog Tryz.lays99_ren:={
  mixed:=by kernel_rfl
  f99:=Tryz.func115.trans (congrArg some (by kernel_rfl))
  f206:=Tryz.func148.trans (congrArg some (by kernel_rfl))
  t3:=Tryz.underlying3
  a3:=Tryz.isAgg3
  z3:=Tryz.sizeOf3
  v3:=Tryz.zeroValue3
  t4:=Tryz.underlying4
  a4:=Tryz.isAgg4
  z4:=Tryz.sizeOf4
  v4:=Tryz.zeroValue4
  t9:=Tryz.underlying9
  a9:=Tryz.isAgg9
  z9:=Tryz.sizeOf9
  v9:=Tryz.zeroValue9 }
open Go.RowKit Go.Lib in
theorem Tryz.strings_HasPrefix (s p:ByteArray) (w:World) :
    Calls Tryz.prog 115 #[.string s,.string p] w fun e w'=>e=.returned (.bool (Lib.hasPrefix s.data.toList p.data.toList))∧w'=w:=Any.strings_HasPrefix Tryz.lays99 s p w
def Tryz.lays157_ren:Go.Shelf.Ren:=⟨fun|157=>155|229=>185|199=>186|261=>199|311=>206|312=>207|n=>n,fun|9=>9|31=>79|3=>3|5=>5|4=>4|119=>247|0=>0|40=>249|152=>261|21=>21|154=>263|51=>155|141=>265|196=>273|193=>270|198=>276|49=>274|194=>271|201=>279|226=>288|46=>121|227=>289|n=>n,fun|0=>0|6=>1|n=>n⟩
theorem Tryz.lays157:Go.Proofs.Lays.n157 Tryz.prog Tryz.lays157_ren:={
  mixed:=by kernel_rfl
  f157:=Tryz.func155.trans (congrArg some (by kernel_rfl))
  f199:=Tryz.func186.trans (congrArg some (by kernel_rfl))
  f229:=Tryz.func185.trans (congrArg some (by kernel_rfl))
  f261:=Tryz.func199.trans (congrArg some (by kernel_rfl))
  f311:=Tryz.func206.trans (congrArg some (by kernel_rfl))
  f312:=Tryz.func207.trans (congrArg some (by kernel_rfl))
  t0:=Tryz.underlying0
  a0:=Tryz.isAgg0
  z0:=Tryz.sizeOf0
  v0:=Tryz.zeroValue0
  t3:=Tryz.underlying3
  a3:=Tryz.isAgg3
  z3:=Tryz.sizeOf3
  v3:=Tryz.zeroValue3
  t4:=Tryz.underlying4
  a4:=Tryz.isAgg4
  z4:=Tryz.sizeOf4
  v4:=Tryz.zeroValue4
  t5:=Tryz.underlying5
  a5:=Tryz.isAgg5
  z5:=Tryz.sizeOf5
  v5:=Tryz.zeroValue5
  t9:=Tryz.underlying9
  a9:=Tryz.isAgg9
  z9:=Tryz.sizeOf9
  v9:=Tryz.zeroValue9
  t21:=Tryz.underlying21
  a21:=Tryz.isAgg21
  z21:=Tryz.sizeOf21
  v21:=Tryz.zeroValue21
  t31:=Tryz.underlying79
  a31:=Tryz.isAgg79
  z31:=Tryz.sizeOf79
  v31:=Tryz.zeroValue79
  t40:=Tryz.underlying249
  a40:=Tryz.isAgg249
  z40:=Tryz.sizeOf249
  v40:=Tryz.zeroValue249
  t46:=Tryz.underlying121
  a46:=Tryz.isAgg121
  z46:=Tryz.sizeOf121
  v46:=Tryz.zeroValue121
  t49:=Tryz.underlying274
  a49:=Tryz.isAgg274
  z49:=Tryz.sizeOf274
  v49:=Tryz.zeroValue274
  t51:=Tryz.underlying155
  a51:=Tryz.isAgg155
  z51:=Tryz.sizeOf155
  v51:=Tryz.zeroValue155
  t119:=Tryz.underlying247
  a119:=Tryz.isAgg247
  z119:=Tryz.sizeOf247
  t141:=Tryz.underlying265
  a141:=Tryz.isAgg265
  z141:=Tryz.sizeOf265
  v141:=Tryz.zeroValue265
  t152:=Tryz.underlying261
  a152:=Tryz.isAgg261
  z152:=Tryz.sizeOf261
  v152:=Tryz.zeroValue261
  t154:=Tryz.underlying263
  a154:=Tryz.isAgg263
  z154:=Tryz.sizeOf263
  v154:=Tryz.zeroValue263
  t193:=Tryz.underlying270
  a193:=Tryz.isAgg270
  z193:=Tryz.sizeOf270
  v193:=Tryz.zeroValue270
  t194:=Tryz.underlying271
  a194:=Tryz.isAgg271
  z194:=Tryz.sizeOf271
  v194:=Tryz.zeroValue271
  t196:=Tryz.underlying273
  a196:=Tryz.isAgg273
  z196:=Tryz.sizeOf273
  v196:=Tryz.zeroValue273
  t198:=Tryz.underlying276
  a198:=Tryz.isAgg276
  z198:=Tryz.sizeOf276
  v198:=Tryz.zeroValue276
  t201:=Tryz.underlying279
  a201:=Tryz.isAgg279
  z201:=Tryz.sizeOf279
  v201:=Tryz.zeroValue279
  t226:=Tryz.underlying288
  a226:=Tryz.isAgg288
  z226:=Tryz.sizeOf288
  v226:=Tryz.zeroValue288
  t227:=Tryz.underlying289
  a227:=Tryz.isAgg289
  z227:=Tryz.sizeOf289
  v227:=Tryz.zeroValue289
  g0:=by kernel_rfl
  g6:=by kernel_rfl }
open Go.RowKit Go.Lib in
theorem Tryz.strings_Fields (s:ByteArray) (w:World) (hs:s.size<4294967281) (hascii:∀ (j:Nat) b,s.data.toList[j]?=some b→b.toNat<128) (htab:Lib.TabIs Tryz.prog w "strings.asciiSpace" .u8 Lib.asciiSpaceTab) :
    Calls Tryz.prog 155 #[.string s] w fun e w' =>
      e=.returned (.slice (some ⟨w.heap.size,0,none⟩) (Lib.fields s.data.toList).length (Lib.fields s.data.toList).length)∧w'=w.alloc (.cells ((Lib.fields s.data.toList).map fun l=>Value.string ⟨l.toArray⟩).toArray 9):=Any.strings_Fields Tryz.lays157 (by kernel_rfl) (by kernel_rfl) s w hs hascii htab
def Tryz.keysC_ren:Go.Shelf.Ren:=⟨fun|7=>25|10=>36|n=>n,fun|23=>89|26=>3|3=>4|28=>87|0=>0|27=>86|33=>102|4=>4|n=>n,fun|n=>n⟩
theorem Tryz.keysC:Go.Proofs.SlLaysZI.n7 Tryz.prog Tryz.keysC_ren:={
  mixed:=by kernel_rfl
  f7:=⟨Tryz.f25.name,by decide,Tryz.func25.trans (congrArg some (by kernel_rfl))⟩
  f10:=⟨Tryz.f36.name,by decide,Tryz.func36.trans (congrArg some (by kernel_rfl))⟩
  t0:=Tryz.underlying0
  a0:=Tryz.isAgg0
  z0:=Tryz.sizeOf0
  v0:=Tryz.zeroValue0
  t4:=Tryz.underlying4
  a4:=Tryz.isAgg4
  z4:=Tryz.sizeOf4
  v4:=Tryz.zeroValue4
  t23:=Tryz.underlying89
  a23:=Tryz.isAgg89
  z23:=Tryz.sizeOf89
  v23:=Tryz.zeroValue89
  t26:=Tryz.underlying3
  a26:=Tryz.isAgg3
  z26:=Tryz.sizeOf3
  v26:=Tryz.zeroValue3
  t27:=Tryz.underlying86
  a27:=Tryz.isAgg86
  z27:=Tryz.sizeOf86
  v27:=Tryz.zeroValue86
  t28:=Tryz.underlying87
  a28:=Tryz.isAgg87
  z28:=Tryz.sizeOf87
  v28:=Tryz.zeroValue87
  t33:=Tryz.underlying102
  a33:=Tryz.isAgg102
  z33:=Tryz.sizeOf102
  v33:=Tryz.zeroValue102 }
def Tryz.sortedC_ren:Go.Shelf.Ren:=⟨fun|6=>24|8=>34|9=>35|11=>50|13=>52|12=>51|23=>83|24=>84|14=>74|15=>75|16=>76|17=>77|18=>78|19=>79|20=>80|21=>81|22=>82|25=>109|26=>110|27=>111|28=>112|29=>113|30=>114|31=>147|n=>n,fun|26=>3|28=>87|24=>44|0=>0|3=>3|37=>121|48=>155|50=>157|4=>4|40=>147|39=>146|45=>152|5=>5|9=>9|51=>175|55=>179|57=>213|58=>214|33=>102|n=>n,fun|n=>n⟩
theorem Tryz.sortedC:Go.Proofs.SlLaysZI.n6 Tryz.prog Tryz.sortedC_ren:={
  mixed:=by kernel_rfl
  f6:=⟨Tryz.f24.name,by decide,Tryz.func24.trans (congrArg some (by kernel_rfl))⟩
  f8:=⟨Tryz.f34.name,by decide,Tryz.func34.trans (congrArg some (by kernel_rfl))⟩
  f11:=⟨Tryz.f50.name,by decide,Tryz.func50.trans (congrArg some (by kernel_rfl))⟩
  t0:=Tryz.underlying0
  a0:=Tryz.isAgg0
  z0:=Tryz.sizeOf0
  v0:=Tryz.zeroValue0
  t24:=Tryz.underlying44
  a24:=Tryz.isAgg44
  z24:=Tryz.sizeOf44
  v24:=Tryz.zeroValue44
  t26:=Tryz.underlying3
  a26:=Tryz.isAgg3
  z26:=Tryz.sizeOf3
  v26:=Tryz.zeroValue3
  t28:=Tryz.underlying87
  a28:=Tryz.isAgg87
  z28:=Tryz.sizeOf87
  v28:=Tryz.zeroValue87
  i26:=by kernel_rfl }
def Tryz.sortC_ren:Go.Shelf.Ren:=⟨fun|5=>35|8=>52|7=>51|19=>83|20=>84|10=>74|11=>75|12=>76|13=>77|14=>78|15=>79|16=>80|17=>81|18=>82|30=>109|31=>110|32=>111|33=>112|34=>113|35=>114|40=>147|n=>n,fun|23=>44|25=>3|3=>3|32=>121|22=>44|0=>0|44=>155|46=>157|4=>4|36=>147|35=>146|41=>152|5=>5|9=>9|53=>175|57=>179|63=>213|64=>214|n=>n,fun|n=>n⟩
theorem Tryz.sortC:Go.Proofs.SlLaysM.n5 Tryz.prog Tryz.sortC_ren:={
  mixed:=by kernel_rfl
  f5:=⟨Tryz.f35.name,by decide,Tryz.func35.trans (congrArg some (by kernel_rfl))⟩
  f7:=⟨Tryz.f51.name,by decide,Tryz.func51.trans (congrArg some (by kernel_rfl))⟩
  f8:=Tryz.func52.trans (congrArg some (by kernel_rfl))
  f10:=⟨Tryz.f74.name,by decide,Tryz.func74.trans (congrArg some (by kernel_rfl))⟩
  f11:=⟨Tryz.f75.name,by decide,Tryz.func75.trans (congrArg some (by kernel_rfl))⟩
  f12:=⟨Tryz.f76.name,by decide,Tryz.func76.trans (congrArg some (by kernel_rfl))⟩
  f13:=⟨Tryz.f77.name,by decide,Tryz.func77.trans (congrArg some (by kernel_rfl))⟩
  f14:=⟨Tryz.f78.name,by decide,Tryz.func78.trans (congrArg some (by kernel_rfl))⟩
  f15:=⟨Tryz.f79.name,by decide,Tryz.func79.trans (congrArg some (by kernel_rfl))⟩
  f16:=⟨Tryz.f80.name,by decide,Tryz.func80.trans (congrArg some (by kernel_rfl))⟩
  f17:=⟨Tryz.f81.name,by decide,Tryz.func81.trans (congrArg some (by kernel_rfl))⟩
  f18:=⟨Tryz.f82.name,by decide,Tryz.func82.trans (congrArg some (by kernel_rfl))⟩
  f19:=Tryz.func83.trans (congrArg some (by kernel_rfl))
  f20:=Tryz.func84.trans (congrArg some (by kernel_rfl))
  f30:=⟨Tryz.f109.name,by decide,Tryz.func109.trans (congrArg some (by kernel_rfl))⟩
  f31:=Tryz.func110.trans (congrArg some (by kernel_rfl))
  f32:=Tryz.func111.trans (congrArg some (by kernel_rfl))
  f33:=⟨Tryz.f112.name,by decide,Tryz.func112.trans (congrArg some (by kernel_rfl))⟩
  f34:=⟨Tryz.f113.name,by decide,Tryz.func113.trans (congrArg some (by kernel_rfl))⟩
  f35:=⟨Tryz.f114.name,by decide,Tryz.func114.trans (congrArg some (by kernel_rfl))⟩
  f40:=⟨Tryz.f147.name,by decide,Tryz.func147.trans (congrArg some (by kernel_rfl))⟩
  t0:=Tryz.underlying0
  a0:=Tryz.isAgg0
  z0:=Tryz.sizeOf0
  v0:=Tryz.zeroValue0
  t3:=Tryz.underlying3
  a3:=Tryz.isAgg3
  z3:=Tryz.sizeOf3
  v3:=Tryz.zeroValue3
  t4:=Tryz.underlying4
  a4:=Tryz.isAgg4
  z4:=Tryz.sizeOf4
  v4:=Tryz.zeroValue4
  t5:=Tryz.underlying5
  a5:=Tryz.isAgg5
  z5:=Tryz.sizeOf5
  v5:=Tryz.zeroValue5
  t9:=Tryz.underlying9
  a9:=Tryz.isAgg9
  z9:=Tryz.sizeOf9
  v9:=Tryz.zeroValue9
  t22:=Tryz.underlying44
  a22:=Tryz.isAgg44
  z22:=Tryz.sizeOf44
  v22:=Tryz.zeroValue44
  t23:=Tryz.underlying44
  a23:=Tryz.isAgg44
  z23:=Tryz.sizeOf44
  v23:=Tryz.zeroValue44
  t25:=Tryz.underlying3
  a25:=Tryz.isAgg3
  z25:=Tryz.sizeOf3
  v25:=Tryz.zeroValue3
  t32:=Tryz.underlying121
  a32:=Tryz.isAgg121
  z32:=Tryz.sizeOf121
  v32:=Tryz.zeroValue121
  t35:=Tryz.underlying146
  a35:=Tryz.isAgg146
  z35:=Tryz.sizeOf146
  v35:=Tryz.zeroValue146
  t36:=Tryz.underlying147
  a36:=Tryz.isAgg147
  z36:=Tryz.sizeOf147
  v36:=Tryz.zeroValue147
  t41:=Tryz.underlying152
  a41:=Tryz.isAgg152
  z41:=Tryz.sizeOf152
  v41:=Tryz.zeroValue152
  t44:=Tryz.underlying155
  a44:=Tryz.isAgg155
  z44:=Tryz.sizeOf155
  v44:=Tryz.zeroValue155
  t46:=Tryz.underlying157
  a46:=Tryz.isAgg157
  z46:=Tryz.sizeOf157
  v46:=Tryz.zeroValue157
  t53:=Tryz.underlying175
  a53:=Tryz.isAgg175
  z53:=Tryz.sizeOf175
  v53:=Tryz.zeroValue175
  t57:=Tryz.underlying179
  a57:=Tryz.isAgg179
  z57:=Tryz.sizeOf179
  v57:=Tryz.zeroValue179
  t63:=Tryz.underlying213
  a63:=Tryz.isAgg213
  z63:=Tryz.sizeOf213
  v63:=Tryz.zeroValue213
  t64:=Tryz.underlying214
  a64:=Tryz.isAgg214
  z64:=Tryz.sizeOf214
  v64:=Tryz.zeroValue214 }
end Go.Proofs
