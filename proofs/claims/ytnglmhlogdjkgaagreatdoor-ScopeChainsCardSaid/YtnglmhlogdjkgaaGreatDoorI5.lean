/- Contracts of library functions off the shelf, in plain declarations. -/
import Derived.Shelf.Strings.Builder1
import Derived.Shelf.Strings.Builder2
import Derived.Shelf.Strings.OnBuilder
import Derived.Shelf.Strings.Trim
import Derived.Shelf.Small.Utf8
import Derived.Shelf.Small.Strs
import Derived.Shelf.Small.Wraps
import Derived.Shelf.Strings.Search1
import Derived.Shelf.Strings.Search2
import Derived.Shelf.Strings.Cut
import Derived.Shelf.LaysM
import Derived.Shelf.Strings.Shaped
import Derived.Shelf.Strings.Prefix
import Derived.Shelf.Strings.Fields
import Derived.Shelf.Unicode.Latin
import Derived.Shelf.Strings.Runes
import Derived.Shelf.Strings.AsciiSet
import Derived.Shelf.Unicode.DecodeSlow
import Derived.Shelf.Unicode.Is16White
import Derived.Shelf.Unicode.IsSpaceAny
import Derived.Shelf.Unicode.Is16Any
import Derived.Shelf.Unicode.Is32Any
import Derived.Shelf.Unicode.ExclAny
import Derived.Shelf.Slices.Turned
import Derived.Test.YtnglmhlogdjkgaaGreatDoorProg
import Derived.Shelf.SlIterI.Nil
import Derived.Shelf.SortM.Plain
import Derived.Shelf.SortM.SortNone
import Derived.Ground.GgzProg
import Derived.Ground.SlgmProg
import Derived.Shelf.SlGeneric
namespace Go.Proofs
open Go.Shelf
def Tryz.lays156_ren:Go.Shelf.Ren:=⟨fun|156=>137|165=>183|166=>184|169=>185|240=>221|241=>222|276=>254|277=>255|n=>n,fun|31=>116|9=>9|3=>3|4=>4|0=>0|20=>20|72=>241|76=>245|70=>238|37=>239|75=>244|127=>272|164=>295|5=>5|80=>247|n=>n,fun|n=>n⟩
theorem Tryz.lays156:Go.Proofs.Lays.n156 Tryz.prog Tryz.lays156_ren:={
  mixed:=by kernel_rfl
  f156:=Tryz.func137.trans (congrArg some (by kernel_rfl))
  f165:=Tryz.func183.trans (congrArg some (by kernel_rfl))
  f166:=Tryz.func184.trans (congrArg some (by kernel_rfl))
  f169:=Tryz.func185.trans (congrArg some (by kernel_rfl))
  f240:=Tryz.func221.trans (congrArg some (by kernel_rfl))
  f241:=Tryz.func222.trans (congrArg some (by kernel_rfl))
  f276:=Tryz.func254.trans (congrArg some (by kernel_rfl))
  f277:=Tryz.func255.trans (congrArg some (by kernel_rfl))
  t0:=Tryz.underlying0
  a0:=Tryz.isAgg0
  z0:=Tryz.sizeOf0
  v0:=Tryz.zeroValue0
  t3:=Tryz.underlying3
  a3:=Tryz.isAgg3
  z3:=Tryz.sizeOf3
  v3:=Tryz.zeroValue3
  t4:=Tryz.underlying4
  a4:=Tryz.isAgg4
  z4:=Tryz.sizeOf4
  v4:=Tryz.zeroValue4
  t9:=Tryz.underlying9
  a9:=Tryz.isAgg9
  z9:=Tryz.sizeOf9
  v9:=Tryz.zeroValue9
  t20:=Tryz.underlying20
  a20:=Tryz.isAgg20
  z20:=Tryz.sizeOf20
  v20:=Tryz.zeroValue20
  t31:=Tryz.underlying116
  a31:=Tryz.isAgg116
  z31:=Tryz.sizeOf116
  v31:=Tryz.zeroValue116
  t37:=Tryz.underlying239
  a37:=Tryz.isAgg239
  z37:=Tryz.sizeOf239
  v37:=Tryz.zeroValue239
  t70:=Tryz.underlying238
  a70:=Tryz.isAgg238
  z70:=Tryz.sizeOf238
  v70:=Tryz.zeroValue238
  t72:=Tryz.underlying241
  a72:=Tryz.isAgg241
  z72:=Tryz.sizeOf241
  v72:=Tryz.zeroValue241
  t75:=Tryz.underlying244
  a75:=Tryz.isAgg244
  z75:=Tryz.sizeOf244
  v75:=Tryz.zeroValue244
  t76:=Tryz.underlying245
  a76:=Tryz.isAgg245
  z76:=Tryz.sizeOf245
  v76:=Tryz.zeroValue245
  t127:=Tryz.underlying272
  a127:=Tryz.isAgg272
  z127:=Tryz.sizeOf272
  v127:=Tryz.zeroValue272
  t164:=Tryz.underlying295
  a164:=Tryz.isAgg295
  z164:=Tryz.sizeOf295
  v164:=Tryz.zeroValue295 }
theorem Tryz.Builder_Extra_156:Builder.Extra Tryz.prog Tryz.lays156_ren:={
  sizeBuilder:=by kernel_rfl
  liesBuilder:=by kernel_rfl
  t5:=Tryz.underlying5
  a5:=Tryz.isAgg5
  z5:=Tryz.sizeOf5
  v5:=Tryz.zeroValue5
  infoByte:=by kernel_rfl
  cellsByte:=by kernel_rfl
  sizeByte:=by kernel_rfl
  neB5:=by decide }
open Go.RowKit in
open Go.RowKit in
theorem Tryz.strings_Join (bk o c:Nat) (xs:List ByteArray) (sep:ByteArray) (w:World) (hcells:∀ (j:Nat) x,xs[j]?=some x→w.cell? ⟨bk,o+j,none⟩=some (.string x)) (hbk:bk<w.heap.size) (hN:xs.length≤140737488355328) (hcap:xs.length≤c) (hlen:(Lib.join (xs.map (·.data.toList)) sep.data.toList).length≤140737488355328) :
    Calls Tryz.prog 137 #[.slice (some ⟨bk,o,none⟩) xs.length c,.string sep] w fun e w'=>e=.returned (.string ⟨(Lib.join (xs.map (·.data.toList)) sep.data.toList).toArray⟩)∧Below w.heap.size w w':=Any.strings_Join Tryz.lays156 Tryz.Builder_Extra_156 bk o c xs sep w hcells hbk hN hcap hlen
def Tryz.lays137_ren:Go.Shelf.Ren:=⟨fun|137=>244|217=>262|266=>272|n=>n,fun|9=>9|5=>5|3=>3|n=>n,fun|n=>n⟩
theorem Tryz.lays137:Go.Proofs.Lays.n137 Tryz.prog Tryz.lays137_ren:={
  mixed:=by kernel_rfl
  f137:=Tryz.func244.trans (congrArg some (by kernel_rfl))
  f217:=Tryz.func262.trans (congrArg some (by kernel_rfl))
  f266:=Tryz.func272.trans (congrArg some (by kernel_rfl))
  t3:=Tryz.underlying3
  a3:=Tryz.isAgg3
  z3:=Tryz.sizeOf3
  v3:=Tryz.zeroValue3
  t5:=Tryz.underlying5
  a5:=Tryz.isAgg5
  z5:=Tryz.sizeOf5
  v5:=Tryz.zeroValue5
  t9:=Tryz.underlying9
  a9:=Tryz.isAgg9
  z9:=Tryz.sizeOf9
  v9:=Tryz.zeroValue9 }
open Go.RowKit in
theorem Tryz.strings_IndexByte (s:ByteArray) (c:Int) (w:World) :
    Calls Tryz.prog 244 #[.string s,.int .u8 c] w fun e w'=>e=.returned (.int .i64 (Lib.indexByte s.data.toList c.toNat.toUInt8))∧w'=w:=Any.strings_IndexByte Tryz.lays137 s c w
def Tryz.lays110_ren:Go.Shelf.Ren:=⟨fun|110=>227|109=>257|n=>n,fun|31=>116|9=>9|4=>4|3=>3|0=>0|n=>n,fun|n=>n⟩
theorem Tryz.lays110:Go.Proofs.Lays.n110 Tryz.prog Tryz.lays110_ren:={
  mixed:=by kernel_rfl
  f109:=Tryz.func257.trans (congrArg some (by kernel_rfl))
  f110:=Tryz.func227.trans (congrArg some (by kernel_rfl))
  t0:=Tryz.underlying0
  a0:=Tryz.isAgg0
  z0:=Tryz.sizeOf0
  v0:=Tryz.zeroValue0
  t3:=Tryz.underlying3
  a3:=Tryz.isAgg3
  z3:=Tryz.sizeOf3
  v3:=Tryz.zeroValue3
  t4:=Tryz.underlying4
  a4:=Tryz.isAgg4
  z4:=Tryz.sizeOf4
  v4:=Tryz.zeroValue4
  t9:=Tryz.underlying9
  a9:=Tryz.isAgg9
  z9:=Tryz.sizeOf9
  v9:=Tryz.zeroValue9
  t31:=Tryz.underlying116
  a31:=Tryz.isAgg116
  z31:=Tryz.sizeOf116
  v31:=Tryz.zeroValue116 }
open Go.Lib in
theorem Tryz.slices_Contains_string (b off n c:Nat) (zs:List ByteArray) (x:ByteArray) (w:World) (hz:n≤zs.length) (hbig:n≤9223372036854775807) (hc:∀ j,j<zs.length→w.cell? ⟨b,off+j,none⟩=some (.string (zs.getD j ByteArray.empty))) :
    Calls Tryz.prog 227 #[.slice (some ⟨b,off,none⟩) n c,.string x] w fun e w'=>e=.returned (.bool (Lib.containsS (zs.take n) x))∧w'=w:=Any.slices_Contains_string Tryz.lays110 b off n c zs x w hz hbig hc
open Go.Lib in
theorem Tryz.slices_Contains_string_empty (a:Option Addr) (c:Nat) (x:ByteArray) (w:World) :
    Calls Tryz.prog 227 #[.slice a 0 c,.string x] w fun e w'=>e=.returned (.bool false)∧w'=w:=Any.slices_Contains_string_empty Tryz.lays110 a c x w
def Tryz.lays160_ren:Go.Shelf.Ren:=⟨fun|160=>267|232=>278|231=>277|227=>279|234=>281|233=>280|236=>283|235=>282|228=>285|271=>288|151=>287|197=>286|120=>292|152=>291|260=>290|137=>244|119=>296|224=>294|225=>293|217=>262|266=>272|n=>n,fun|9=>9|4=>4|3=>3|5=>5|117=>327|116=>326|0=>0|124=>330|21=>21|105=>333|46=>146|119=>290|139=>340|138=>339|n=>n,fun|3=>3|4=>4|n=>n⟩
theorem Tryz.lays160:Go.Proofs.Lays.n160 Tryz.prog Tryz.lays160_ren:={
  mixed:=by kernel_rfl
  f119:=Tryz.func296.trans (congrArg some (by kernel_rfl))
  f120:=Tryz.func292.trans (congrArg some (by kernel_rfl))
  f137:=Tryz.func244.trans (congrArg some (by kernel_rfl))
  f151:=Tryz.func287.trans (congrArg some (by kernel_rfl))
  f152:=Tryz.func291.trans (congrArg some (by kernel_rfl))
  f160:=Tryz.func267.trans (congrArg some (by kernel_rfl))
  f197:=Tryz.func286.trans (congrArg some (by kernel_rfl))
  f217:=Tryz.func262.trans (congrArg some (by kernel_rfl))
  f224:=Tryz.func294.trans (congrArg some (by kernel_rfl))
  f225:=Tryz.func293.trans (congrArg some (by kernel_rfl))
  f227:=Tryz.func279.trans (congrArg some (by kernel_rfl))
  f228:=Tryz.func285.trans (congrArg some (by kernel_rfl))
  f231:=Tryz.func277.trans (congrArg some (by kernel_rfl))
  f232:=Tryz.func278.trans (congrArg some (by kernel_rfl))
  f233:=Tryz.func280.trans (congrArg some (by kernel_rfl))
  f234:=Tryz.func281.trans (congrArg some (by kernel_rfl))
  f235:=Tryz.func282.trans (congrArg some (by kernel_rfl))
  f236:=Tryz.func283.trans (congrArg some (by kernel_rfl))
  f260:=Tryz.func290.trans (congrArg some (by kernel_rfl))
  f266:=Tryz.func272.trans (congrArg some (by kernel_rfl))
  f271:=Tryz.func288.trans (congrArg some (by kernel_rfl))
  t0:=Tryz.underlying0
  a0:=Tryz.isAgg0
  z0:=Tryz.sizeOf0
  v0:=Tryz.zeroValue0
  t3:=Tryz.underlying3
  a3:=Tryz.isAgg3
  z3:=Tryz.sizeOf3
  v3:=Tryz.zeroValue3
  t4:=Tryz.underlying4
  a4:=Tryz.isAgg4
  z4:=Tryz.sizeOf4
  v4:=Tryz.zeroValue4
  t5:=Tryz.underlying5
  a5:=Tryz.isAgg5
  z5:=Tryz.sizeOf5
  v5:=Tryz.zeroValue5
  t9:=Tryz.underlying9
  a9:=Tryz.isAgg9
  z9:=Tryz.sizeOf9
  v9:=Tryz.zeroValue9
  t21:=Tryz.underlying21
  a21:=Tryz.isAgg21
  z21:=Tryz.sizeOf21
  v21:=Tryz.zeroValue21
  t46:=Tryz.underlying146
  a46:=Tryz.isAgg146
  z46:=Tryz.sizeOf146
  v46:=Tryz.zeroValue146
  t105:=Tryz.underlying333
  a105:=Tryz.isAgg333
  z105:=Tryz.sizeOf333
  v105:=Tryz.zeroValue333
  t116:=Tryz.underlying326
  a116:=Tryz.isAgg326
  z116:=Tryz.sizeOf326
  t117:=Tryz.underlying327
  a117:=Tryz.isAgg327
  z117:=Tryz.sizeOf327
  v117:=Tryz.zeroValue327
  t119:=Tryz.underlying290
  a119:=Tryz.isAgg290
  z119:=Tryz.sizeOf290
  t124:=Tryz.underlying330
  a124:=Tryz.isAgg330
  z124:=Tryz.sizeOf330
  v124:=Tryz.zeroValue330
  t138:=Tryz.underlying339
  a138:=Tryz.isAgg339
  z138:=Tryz.sizeOf339
  v138:=Tryz.zeroValue339
  t139:=Tryz.underlying340
  a139:=Tryz.isAgg340
  z139:=Tryz.sizeOf340
  v139:=Tryz.zeroValue340
  g3:=by kernel_rfl
  g4:=by kernel_rfl }
open Go.RowKit in
def Tryz.lays103_ren:Go.Shelf.Ren:=⟨fun|103=>252|210=>268|206=>203|n=>n,fun|9=>9|4=>4|24=>251|3=>3|n=>n,fun|n=>n⟩
theorem Tryz.lays103:Go.Proofs.Lays.n103 Tryz.prog Tryz.lays103_ren:={
  mixed:=by kernel_rfl
  f103:=Tryz.func252.trans (congrArg some (by kernel_rfl))
  f206:=Tryz.func203.trans (congrArg some (by kernel_rfl))
  f210:=Tryz.func268.trans (congrArg some (by kernel_rfl))
  t3:=Tryz.underlying3
  a3:=Tryz.isAgg3
  z3:=Tryz.sizeOf3
  v3:=Tryz.zeroValue3
  t4:=Tryz.underlying4
  a4:=Tryz.isAgg4
  z4:=Tryz.sizeOf4
  v4:=Tryz.zeroValue4
  t9:=Tryz.underlying9
  a9:=Tryz.isAgg9
  z9:=Tryz.sizeOf9
  v9:=Tryz.zeroValue9
  t24:=Tryz.underlying251
  a24:=Tryz.isAgg251
  z24:=Tryz.sizeOf251
  v24:=Tryz.zeroValue251 }
open Go.RowKit in
theorem Tryz.strings_CutPrefix (s p:ByteArray) (w:World) :
    Calls Tryz.prog 252 #[.string s,.string p] w fun e w'=>e=.returned (.tuple #[.string ⟨(Lib.trimPrefix s.data.toList p.data.toList).toArray⟩,.bool (Lib.hasPrefix s.data.toList p.data.toList)])∧w'=w:=Any.strings_CutPrefix Tryz.lays103 s p w
def Tryz.lays99_ren:Go.Shelf.Ren:=⟨fun|99=>160|206=>203|n=>n,fun|9=>9|4=>4|3=>3|n=>n,fun|n=>n⟩
theorem Tryz.lays99:Go.Proofs.Lays.n99 Tryz.prog Tryz.lays99_ren:={
  mixed:=by kernel_rfl
  f99:=Tryz.func160.trans (congrArg some (by kernel_rfl))
  f206:=Tryz.func203.trans (congrArg some (by kernel_rfl))
  t3:=Tryz.underlying3
  a3:=Tryz.isAgg3
  z3:=Tryz.sizeOf3
  v3:=Tryz.zeroValue3
  t4:=Tryz.underlying4
  a4:=Tryz.isAgg4
  z4:=Tryz.sizeOf4
  v4:=Tryz.zeroValue4
  t9:=Tryz.underlying9
  a9:=Tryz.isAgg9
  z9:=Tryz.sizeOf9
  v9:=Tryz.zeroValue9 }
open Go.RowKit Go.Lib in
theorem Tryz.strings_HasPrefix (s p:ByteArray) (w:World) :
    Calls Tryz.prog 160 #[.string s,.string p] w fun e w'=>e=.returned (.bool (Lib.hasPrefix s.data.toList p.data.toList))∧w'=w:=Any.strings_HasPrefix Tryz.lays99 s p w
def Tryz.lays157_ren:Go.Shelf.Ren:=⟨fun|157=>210|229=>249|199=>250|261=>266|311=>275|312=>276|n=>n,fun|9=>9|31=>116|3=>3|5=>5|4=>4|119=>290|0=>0|40=>292|152=>303|21=>21|154=>305|51=>184|141=>307|196=>316|193=>313|198=>319|49=>317|194=>314|201=>322|226=>331|46=>146|227=>332|n=>n,fun|0=>0|6=>1|n=>n⟩
theorem Tryz.lays157:Go.Proofs.Lays.n157 Tryz.prog Tryz.lays157_ren:={
  mixed:=by kernel_rfl
  f157:=Tryz.func210.trans (congrArg some (by kernel_rfl))
  f199:=Tryz.func250.trans (congrArg some (by kernel_rfl))
  f229:=Tryz.func249.trans (congrArg some (by kernel_rfl))
  f261:=Tryz.func266.trans (congrArg some (by kernel_rfl))
  f311:=Tryz.func275.trans (congrArg some (by kernel_rfl))
  f312:=Tryz.func276.trans (congrArg some (by kernel_rfl))
  t0:=Tryz.underlying0
  a0:=Tryz.isAgg0
  z0:=Tryz.sizeOf0
  v0:=Tryz.zeroValue0
  t3:=Tryz.underlying3
  a3:=Tryz.isAgg3
  z3:=Tryz.sizeOf3
  v3:=Tryz.zeroValue3
  t4:=Tryz.underlying4
  a4:=Tryz.isAgg4
  z4:=Tryz.sizeOf4
  v4:=Tryz.zeroValue4
  t5:=Tryz.underlying5
  a5:=Tryz.isAgg5
  z5:=Tryz.sizeOf5
  v5:=Tryz.zeroValue5
  t9:=Tryz.underlying9
  a9:=Tryz.isAgg9
  z9:=Tryz.sizeOf9
  v9:=Tryz.zeroValue9
  t21:=Tryz.underlying21
  a21:=Tryz.isAgg21
  z21:=Tryz.sizeOf21
  v21:=Tryz.zeroValue21
  t31:=Tryz.underlying116
  a31:=Tryz.isAgg116
  z31:=Tryz.sizeOf116
  v31:=Tryz.zeroValue116
  t40:=Tryz.underlying292
  a40:=Tryz.isAgg292
  z40:=Tryz.sizeOf292
  v40:=Tryz.zeroValue292
  t46:=Tryz.underlying146
  a46:=Tryz.isAgg146
  z46:=Tryz.sizeOf146
  v46:=Tryz.zeroValue146
  t49:=Tryz.underlying317
  a49:=Tryz.isAgg317
  z49:=Tryz.sizeOf317
  v49:=Tryz.zeroValue317
  t51:=Tryz.underlying184
  a51:=Tryz.isAgg184
  z51:=Tryz.sizeOf184
  v51:=Tryz.zeroValue184
  t119:=Tryz.underlying290
  a119:=Tryz.isAgg290
  z119:=Tryz.sizeOf290
  t141:=Tryz.underlying307
  a141:=Tryz.isAgg307
  z141:=Tryz.sizeOf307
  v141:=Tryz.zeroValue307
  t152:=Tryz.underlying303
  a152:=Tryz.isAgg303
  z152:=Tryz.sizeOf303
  v152:=Tryz.zeroValue303
  t154:=Tryz.underlying305
  a154:=Tryz.isAgg305
  z154:=Tryz.sizeOf305
  v154:=Tryz.zeroValue305
  t193:=Tryz.underlying313
  a193:=Tryz.isAgg313
  z193:=Tryz.sizeOf313
  v193:=Tryz.zeroValue313
  t194:=Tryz.underlying314
  a194:=Tryz.isAgg314
  z194:=Tryz.sizeOf314
  v194:=Tryz.zeroValue314
  t196:=Tryz.underlying316
  a196:=Tryz.isAgg316
  z196:=Tryz.sizeOf316
  v196:=Tryz.zeroValue316
  t198:=Tryz.underlying319
  a198:=Tryz.isAgg319
  z198:=Tryz.sizeOf319
  v198:=Tryz.zeroValue319
  t201:=Tryz.underlying322
  a201:=Tryz.isAgg322
  z201:=Tryz.sizeOf322
  v201:=Tryz.zeroValue322
  t226:=Tryz.underlying331
  a226:=Tryz.isAgg331
  z226:=Tryz.sizeOf331
  v226:=Tryz.zeroValue331
  t227:=Tryz.underlying332
  a227:=Tryz.isAgg332
  z227:=Tryz.sizeOf332
  v227:=Tryz.zeroValue332
  g0:=by kernel_rfl
  g6:=by kernel_rfl }
open Go.RowKit Go.Lib in
theorem Tryz.strings_Fields (s:ByteArray) (w:World) (hs:s.size<4294967281) (hascii:∀ (j:Nat) b,s.data.toList[j]?=some b→b.toNat<128) (htab:Lib.TabIs Tryz.prog w "strings.asciiSpace" .u8 Lib.asciiSpaceTab) :
    Calls Tryz.prog 210 #[.string s] w fun e w' =>
      e=.returned (.slice (some ⟨w.heap.size,0,none⟩) (Lib.fields s.data.toList).length (Lib.fields s.data.toList).length)∧w'=w.alloc (.cells ((Lib.fields s.data.toList).map fun l=>Value.string ⟨l.toArray⟩).toArray 9):=Any.strings_Fields Tryz.lays157 (by kernel_rfl) (by kernel_rfl) s w hs hascii htab
def Tryz.keysC_ren:Go.Shelf.Ren:=⟨fun|7=>38|10=>52|n=>n,fun|23=>92|26=>3|3=>4|28=>101|0=>0|27=>100|33=>125|4=>4|n=>n,fun|n=>n⟩
theorem Tryz.keysC:Go.Proofs.SlLaysZI.n7 Tryz.prog Tryz.keysC_ren:={
  mixed:=by kernel_rfl
  f7:=⟨Tryz.f38.name,by decide,Tryz.func38.trans (congrArg some (by kernel_rfl))⟩
  f10:=⟨Tryz.f52.name,by decide,Tryz.func52.trans (congrArg some (by kernel_rfl))⟩
  t0:=Tryz.underlying0
  a0:=Tryz.isAgg0
  z0:=Tryz.sizeOf0
  v0:=Tryz.zeroValue0
  t4:=Tryz.underlying4
  a4:=Tryz.isAgg4
  z4:=Tryz.sizeOf4
  v4:=Tryz.zeroValue4
  t23:=Tryz.underlying92
  a23:=Tryz.isAgg92
  z23:=Tryz.sizeOf92
  v23:=Tryz.zeroValue92
  t26:=Tryz.underlying3
  a26:=Tryz.isAgg3
  z26:=Tryz.sizeOf3
  v26:=Tryz.zeroValue3
  t27:=Tryz.underlying100
  a27:=Tryz.isAgg100
  z27:=Tryz.sizeOf100
  v27:=Tryz.zeroValue100
  t28:=Tryz.underlying101
  a28:=Tryz.isAgg101
  z28:=Tryz.sizeOf101
  v28:=Tryz.zeroValue101
  t33:=Tryz.underlying125
  a33:=Tryz.isAgg125
  z33:=Tryz.sizeOf125
  v33:=Tryz.zeroValue125 }
def Tryz.sortedC_ren:Go.Shelf.Ren:=⟨fun|6=>37|8=>50|9=>51|11=>70|13=>72|12=>71|23=>117|24=>118|14=>108|15=>109|16=>110|17=>111|18=>112|19=>113|20=>114|21=>115|22=>116|25=>154|26=>155|27=>156|28=>157|29=>158|30=>159|31=>202|n=>n,fun|26=>3|28=>101|24=>34|0=>0|3=>3|37=>146|48=>184|50=>186|4=>4|40=>176|39=>175|45=>181|5=>5|9=>9|51=>214|55=>218|57=>254|58=>255|33=>125|n=>n,fun|n=>n⟩
theorem Tryz.sortedC:Go.Proofs.SlLaysZI.n6 Tryz.prog Tryz.sortedC_ren:={
  mixed:=by kernel_rfl
  f6:=⟨Tryz.f37.name,by decide,Tryz.func37.trans (congrArg some (by kernel_rfl))⟩
  f8:=⟨Tryz.f50.name,by decide,Tryz.func50.trans (congrArg some (by kernel_rfl))⟩
  f11:=⟨Tryz.f70.name,by decide,Tryz.func70.trans (congrArg some (by kernel_rfl))⟩
  t0:=Tryz.underlying0
  a0:=Tryz.isAgg0
  z0:=Tryz.sizeOf0
  v0:=Tryz.zeroValue0
  t24:=Tryz.underlying34
  a24:=Tryz.isAgg34
  z24:=Tryz.sizeOf34
  v24:=Tryz.zeroValue34
  t26:=Tryz.underlying3
  a26:=Tryz.isAgg3
  z26:=Tryz.sizeOf3
  v26:=Tryz.zeroValue3
  t28:=Tryz.underlying101
  a28:=Tryz.isAgg101
  z28:=Tryz.sizeOf101
  v28:=Tryz.zeroValue101
  i26:=by kernel_rfl }
def Tryz.sortC_ren:Go.Shelf.Ren:=⟨fun|5=>51|8=>72|7=>71|19=>117|20=>118|10=>108|11=>109|12=>110|13=>111|14=>112|15=>113|16=>114|17=>115|18=>116|30=>154|31=>155|32=>156|33=>157|34=>158|35=>159|40=>202|n=>n,fun|23=>34|25=>3|3=>3|32=>146|22=>34|0=>0|44=>184|46=>186|4=>4|36=>176|35=>175|41=>181|5=>5|9=>9|53=>214|57=>218|63=>254|64=>255|n=>n,fun|n=>n⟩
theorem Tryz.sortC:Go.Proofs.SlLaysM.n5 Tryz.prog Tryz.sortC_ren:={
  mixed:=by kernel_rfl
  f5:=⟨Tryz.f51.name,by decide,Tryz.func51.trans (congrArg some (by kernel_rfl))⟩
  f7:=⟨Tryz.f71.name,by decide,Tryz.func71.trans (congrArg some (by kernel_rfl))⟩
  f8:=Tryz.func72.trans (congrArg some (by kernel_rfl))
  f10:=⟨Tryz.f108.name,by decide,Tryz.func108.trans (congrArg some (by kernel_rfl))⟩
  f11:=⟨Tryz.f109.name,by decide,Tryz.func109.trans (congrArg some (by kernel_rfl))⟩
  f12:=⟨Tryz.f110.name,by decide,Tryz.func110.trans (congrArg some (by kernel_rfl))⟩
  f13:=⟨Tryz.f111.name,by decide,Tryz.func111.trans (congrArg some (by kernel_rfl))⟩
  f14:=⟨Tryz.f112.name,by decide,Tryz.func112.trans (congrArg some (by kernel_rfl))⟩
  f15:=⟨Tryz.f113.name,by decide,Tryz.func113.trans (congrArg some (by kernel_rfl))⟩
  f16:=⟨Tryz.f114.name,by decide,Tryz.func114.trans (congrArg some (by kernel_rfl))⟩
  f17:=⟨Tryz.f115.name,by decide,Tryz.func115.trans (congrArg some (by kernel_rfl))⟩
  f18:=⟨Tryz.f116.name,by decide,Tryz.func116.trans (congrArg some (by kernel_rfl))⟩
  f19:=Tryz.func117.trans (congrArg some (by kernel_rfl))
  f20:=Tryz.func118.trans (congrArg some (by kernel_rfl))
  f30:=⟨Tryz.f154.name,by decide,Tryz.func154.trans (congrArg some (by kernel_rfl))⟩
  f31:=Tryz.func155.trans (congrArg some (by kernel_rfl))
  f32:=Tryz.func156.trans (congrArg some (by kernel_rfl))
  f33:=⟨Tryz.f157.name,by decide,Tryz.func157.trans (congrArg some (by kernel_rfl))⟩
  f34:=⟨Tryz.f158.name,by decide,Tryz.func158.trans (congrArg some (by kernel_rfl))⟩
  f35:=⟨Tryz.f159.name,by decide,Tryz.func159.trans (congrArg some (by kernel_rfl))⟩
  f40:=⟨Tryz.f202.name,by decide,Tryz.func202.trans (congrArg some (by kernel_rfl))⟩
  t0:=Tryz.underlying0
  a0:=Tryz.isAgg0
  z0:=Tryz.sizeOf0
  v0:=Tryz.zeroValue0
  t3:=Tryz.underlying3
  a3:=Tryz.isAgg3
  z3:=Tryz.sizeOf3
  v3:=Tryz.zeroValue3
  t4:=Tryz.underlying4
  a4:=Tryz.isAgg4
  z4:=Tryz.sizeOf4
  v4:=Tryz.zeroValue4
  t5:=Tryz.underlying5
  a5:=Tryz.isAgg5
  z5:=Tryz.sizeOf5
  v5:=Tryz.zeroValue5
  t9:=Tryz.underlying9
  a9:=Tryz.isAgg9
  z9:=Tryz.sizeOf9
  v9:=Tryz.zeroValue9
  t22:=Tryz.underlying34
  a22:=Tryz.isAgg34
  z22:=Tryz.sizeOf34
  v22:=Tryz.zeroValue34
  t23:=Tryz.underlying34
  a23:=Tryz.isAgg34
  z23:=Tryz.sizeOf34
  v23:=Tryz.zeroValue34
  t25:=Tryz.underlying3
  a25:=Tryz.isAgg3
  z25:=Tryz.sizeOf3
  v25:=Tryz.zeroValue3
  t32:=Tryz.underlying146
  a32:=Tryz.isAgg146
  z32:=Tryz.sizeOf146
  v32:=Tryz.zeroValue146
  t35:=Tryz.underlying175
  a35:=Tryz.isAgg175
  z35:=Tryz.sizeOf175
  v35:=Tryz.zeroValue175
  t36:=Tryz.underlying176
  a36:=Tryz.isAgg176
  z36:=Tryz.sizeOf176
  v36:=Tryz.zeroValue176
  t41:=Tryz.underlying181
  a41:=Tryz.isAgg181
  z41:=Tryz.sizeOf181
  v41:=Tryz.zeroValue181
  t44:=Tryz.underlying184
  a44:=Tryz.isAgg184
  z44:=Tryz.sizeOf184
  v44:=Tryz.zeroValue184
  t46:=Tryz.underlying186
  a46:=Tryz.isAgg186
  z46:=Tryz.sizeOf186
  v46:=Tryz.zeroValue186
  t53:=Tryz.underlying214
  a53:=Tryz.isAgg214
  z53:=Tryz.sizeOf214
  v53:=Tryz.zeroValue214
  t57:=Tryz.underlying218
  a57:=Tryz.isAgg218
  z57:=Tryz.sizeOf218
  v57:=Tryz.zeroValue218
  t63:=Tryz.underlying254
  a63:=Tryz.isAgg254
  z63:=Tryz.sizeOf254
  v63:=Tryz.zeroValue254
  t64:=Tryz.underlying255
  a64:=Tryz.isAgg255
  z64:=Tryz.sizeOf255
  v64:=Tryz.zeroValue255 }
end Go.Proofs
