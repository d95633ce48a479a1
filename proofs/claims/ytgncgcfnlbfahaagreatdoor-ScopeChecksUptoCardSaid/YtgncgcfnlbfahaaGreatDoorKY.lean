import Derived.Test.YtgncgcfnlbfahaaGreatDoorCards
import Derived.Test.YtgncgcfnlbfahaaGreatDoorTie
import Derived.ProofKit
import Derived.OpenShut
import Derived.Deep.DeepHandedRow
import Derived.Deep.DeepLaidRun
import Derived.Deep.DeepWitnessRowRef
import Derived.Lib.LaidTab
import Derived.Lib.LaidU8
import Derived.ShutString
import Derived.ChangeOld
import Derived.ChangeMaps5
import Derived.Test.YtgncgcfnlbfahaaGreatDoor48
set_option linter.all false
namespace Go.Proofs.YtgncgcfnlbfahaaGreatDoor
open Go.ChangeShapes Go.WideShapes Go.ChangeAt Go.RowKit
theorem own:ownKnob Tryz.prog.godebug=none:=by kernel_rfl
theorem vm:laidOutB Tryz.prog=true:=by kernel_rfl
def nl:List (String×DataW Unit):=[("unicode/utf8.acceptRanges",Rows.laid_unicode_utf8_acceptRanges),("unicode.White_Space",Rows.laid_unicode_White_Space),("strings.asciiSpace",Rows.laid_strings_asciiSpace),("unicode/utf8.first",Rows.laid_unicode_utf8_first)]
theorem Hh:(Rows.laid_strings_asciiSpace:DataW Unit)=Lib.tabData .u8 Lib.asciiSpaceTab:=by kernel_rfl
theorem If{P:Program}{W:World}{name:String}{k:IntKind}{zs:List Int}{g:Nat}{t e:TypeId}{n:Nat}(hg:P.globalNamed name=some g)(hty:(P.globals[g]?).map (·.type)=some t)(ht:P.underlying t=some (.array n e))(he:P.underlying e=some (.int k))(hce:P.cellsOf e=1)(hct:P.cellsOf t=n)(h:Lib.VarReads P W name (Lib.tabData k zs)):Lib.TabIs P W name k zs:=by
 obtain⟨g',t',cs,fuel,p,hg',ht',hvar,hd⟩:=h;obtain rfl:=Option.some.inj (hg.symm.trans hg');obtain rfl:=Option.some.inj (hty.symm.trans ht');unfold Lib.TabIs;rw[hvar,←Lib.cells_of_tab ht he hce hct hd]
theorem De:Tryz.prog.globalNamed "strings.asciiSpace" = some 0:=by kernel_rfl
theorem Df:(Tryz.prog.globals[0]?).map (·.type)=some 280:=by kernel_rfl
theorem AR:Tryz.prog.cellsOf 280=256:=by kernel_rfl
theorem AS:Tryz.prog.cellsOf 5=1:=by kernel_rfl
theorem xq{W:World}(h:laidMetH Tryz.prog nl W):ez W:=by
 have h2:laidMet Tryz.prog nl W:=h;have h3:=Lib.laidMet.reads h2 (n := "strings.asciiSpace") (d:=Rows.laid_strings_asciiSpace) (by simp[nl]);rw[Hh]at h3;exact If De Df Tryz.underlying280 Tryz.underlying5 AS AR h3
noncomputable def jk(os:Os):World:=
 let N:=(World.settled Tryz.prog os).heap.size
 let w0:=World.holding Tryz.prog os ⟨#[.cells (Lib.whiteT.map fun(z:Nat)=>Value.int .u16 (z:Int)).toArray 309,.cells #[.slice (some ⟨N,0,none⟩) 7 7,.slice none 0 0,.int .i64 2] 306],#[],[]⟩
 let put (h:Array Obj) (g:Nat) (cs:Array Value):Array Obj:=h.modify g fun
  |.cells _ t frozen=>.cells cs t frozen
  |o=>o
 {w0 with heap:=put (put (put (put w0.heap 0 (Lib.asciiSpaceTab.map fun z=>Value.int .u8 z).toArray) 3 (Lib.firstTab.map fun z=>Value.int .u8 z).toArray)
   4 ((List.range 16).flatMap fun i=>[Value.int .u8 (Lib.accLo i),Value.int .u8 (Lib.accHi i)]).toArray) 1 #[.pointer (some ⟨N+1,0,none⟩)]}
theorem vn(os:Os)(args:Array Value):laidMet Tryz.prog nl ((jk os).forCall (fun _ _=>0) ⟨#[],args,[]⟩).memory:=
 laidMet_of_run3 10 (by kernel_rfl) (by kernel_rfl) (by kernel_rfl)
