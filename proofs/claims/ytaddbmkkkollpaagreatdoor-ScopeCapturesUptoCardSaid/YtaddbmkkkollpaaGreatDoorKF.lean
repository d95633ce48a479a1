import Derived.Test.YtaddbmkkkollpaaGreatDoorCards
import Derived.Test.YtaddbmkkkollpaaGreatDoorTie
import Derived.WalkKit
import Derived.ProofKit
import Derived.OpenShut
import Derived.Deep.DeepHandedRow
import Derived.Deep.DeepLaidRun
import Derived.Deep.DeepWitnessRowRef
import Derived.Lib.LaidTab
import Derived.Lib.LaidU8
import Derived.ShutString
import Derived.ChangeOld
import Derived.ChangeMaps5
import Derived.Test.YtaddbmkkkollpaaGreatDoorW9
set_option linter.all false
namespace Go.Proofs.YtaddbmkkkollpaaGreatDoor
open Go.ChangeShapes Go.WideShapes Go.ChangeAt Go.RowKit
theorem own:ownKnob Tryz.prog.godebug=none:=by kernel_rfl
theorem EY:laidOutB Tryz.prog=true:=by kernel_rfl
def oO:List (String × DataW Unit):=[("unicode/utf8.acceptRanges",Rows.laid_unicode_utf8_acceptRanges),("unicode.White_Space",Rows.laid_unicode_White_Space),("strings.asciiSpace",Rows.laid_strings_asciiSpace),("unicode/utf8.first",Rows.laid_unicode_utf8_first)]
theorem IL:(Rows.laid_strings_asciiSpace:DataW Unit)=Lib.tabData .u8 Lib.asciiSpaceTab:=by kernel_rfl
theorem Jz {P:Program} {W:World} {name:String} {k:IntKind} {zs:List Int} {g:Nat} {t e:TypeId} {n:Nat}
    (hg:P.globalNamed name=some g) (hty:(P.globals[g]?).map (·.type)=some t) (ht:P.underlying t=some (.array n e)) (he:P.underlying e=some (.int k)) (hce:P.cellsOf e=1) (hct:P.cellsOf t=n)
    (h:Lib.VarReads P W name (Lib.tabData k zs)):Lib.TabIs P W name k zs:=by
  obtain ⟨g',t',cs,fuel,p,hg',ht',hvar,hd⟩:=h;obtain rfl:=Option.some.inj (hg.symm.trans hg');obtain rfl:=Option.some.inj (hty.symm.trans ht');unfold Lib.TabIs;rw [hvar,←Lib.cells_of_tab ht he hce hct hd]
theorem D5:Tryz.prog.globalNamed "strings.asciiSpace" = some 0:=by kernel_rfl
theorem D6:(Tryz.prog.globals[0]?).map (·.type)=some 247:=by kernel_rfl
theorem Bv:Tryz.prog.cellsOf 247=256:=by kernel_rfl
theorem Bw:Tryz.prog.cellsOf 5=1:=by kernel_rfl
theorem IM {W:World} (h:laidMetH Tryz.prog oO W):eC W:=by
  have h2:laidMet Tryz.prog oO W:=h;have h3:=Lib.laidMet.reads h2 (n := "strings.asciiSpace") (d:=Rows.laid_strings_asciiSpace) (by simp [oO]);rw [IL] at h3;exact Jz D5 D6 Tryz.underlying247 Tryz.underlying5 Bw Bv h3
noncomputable def oP (os:Os):World :=
  let N:=(World.settled Tryz.prog os).heap.size
  let w0:=World.holding Tryz.prog os ⟨#[.cells (Lib.whiteT.map fun (z:Nat)=>Value.int .u16 (z:Int)).toArray 276,.cells #[.slice (some ⟨N,0,none⟩) 7 7,.slice none 0 0,.int .i64 2] 273],#[],[]⟩
  let put (h:Array Obj) (g:Nat) (cs:Array Value):Array Obj:=h.modify g fun
    | .cells _ t frozen=>.cells cs t frozen
    | o=>o
  { w0 with heap:=put (put (put (put w0.heap 0 (Lib.asciiSpaceTab.map fun z=>Value.int .u8 z).toArray) 3 (Lib.firstTab.map fun z=>Value.int .u8 z).toArray)
      4 ((List.range 16).flatMap fun i=>[Value.int .u8 (Lib.accLo i),Value.int .u8 (Lib.accHi i)]).toArray) 1 #[.pointer (some ⟨N+1,0,none⟩)] }
theorem E4 (os:Os) (args:Array Value):laidMet Tryz.prog oO ((oP os).forCall (fun _ _=>0) ⟨#[],args,[]⟩).memory :=
  laidMet_of_run3 10 (by kernel_rfl) (by kernel_rfl) (by kernel_rfl)
