/- What the two Quotes share; what a text is that a call returns. -/
import Derived.Test.YtdmdhopfgnlnoaaGreatDoorTZ
import Derived.Test.YtdmdhopfgnlnoaaGreatDoorC8
import Derived.Lib.AppendIntMem
import Derived.Deep.AppendLies
import Derived.Lib.BufferRead
import Derived.Laws.IdiomStrings
namespace Go.Proofs.YtdmdhopfgnlnoaaGreatDoor
open Go.RowKit
set_option linter.unusedVariables false
set_option linter.unusedSimpArgs false
def RS (t:Bs) (w:World) (e:Ending) (w':World):Prop:=∃ s:ByteArray,Zg s=t∧e=.returned (.string s)∧Below w.heap.size w w'
theorem RS.lit {t:Bs} {w w':World} {s:ByteArray} (h:Zg s=t) (hb:Below w.heap.size w w'):RS t w (.returned (.string s)) w':=⟨s,h,rfl,hb⟩
theorem vx {l:List UInt8} {k:Nat} {c:UInt8} (h:l[k]?=some c):(l.take (k+1)).flatMap QJ=(l.take k).flatMap QJ++QJ c:=by
  rw [List.take_add_one,h];simp
theorem esc_len (c:UInt8):(QJ c).length≤4:=by
  unfold QJ
  repeat' split
  all_goals simp
theorem zm:∀ l:List UInt8,(l.flatMap QJ).length≤4*l.length
  | []=>by simp
  | c::r=>by have:=esc_len c;have:=zm r;simp only [List.flatMap_cons,List.length_append,List.length_cons];omega
theorem Kr (c:UInt8):Lib.byteCells [92,48+c / 100,48+c / 10 % 10,48+c % 10]=[.int .u8 92,.int .u8 (48+(c.toNat:Int) / 100),.int .u8 (48+(c.toNat:Int) / 10 % 10),.int .u8 (48+(c.toNat:Int) % 10)]:=by
  have h:=c.toNat_lt;have e1:((48+c / 100:UInt8).toNat:Int)=48+(c.toNat:Int) / 100:=by simp [UInt8.toNat_add,UInt8.toNat_div];omega
  have e2:((48+c / 10 % 10:UInt8).toNat:Int)=48+(c.toNat:Int) / 10 % 10:=by simp [UInt8.toNat_add,UInt8.toNat_div,UInt8.toNat_mod];omega
  have e3:((48+c % 10:UInt8).toNat:Int)=48+(c.toNat:Int) % 10:=by simp [UInt8.toNat_add,UInt8.toNat_mod];omega
  unfold Lib.byteCells;simp only [List.map_cons,List.map_nil,e1,e2,e3];rfl
theorem conv_own {B:Nat} {v:Value} {l:Bs} {w:World} (hown:w.ownsRow B 5 1 v l.length (Lib.byteCells l)) (hl:l≠[]):(convert 60 9 v).run Tryz.prog w=.ok (.string ⟨l.toArray⟩) w:=by
  rcases hown.2 with ⟨_,h0⟩|⟨g,cap,cur,rfl,_,hg,_,_,_,htk⟩
  · exact absurd (List.length_eq_zero_iff.1 h0) hl
  · exact run_convert_bytes_back w 60 9 5 ⟨g,0,none⟩ cap l Tryz.underlying60 Tryz.underlying5 Tryz.underlying9 (Lib.bytes_of_row hg (by simpa using htk))
end Go.Proofs.YtdmdhopfgnlnoaaGreatDoor
