/- What parser.Chunk and parser.Expr return, case by case. -/
import Derived.Test.YtdekaghipjpgpaaGreatDoorO2
import Derived.Test.YtdekaghipjpgpaaGreatDoorT8
namespace Go.Proofs.YtdekaghipjpgpaaGreatDoor
open Go.RowKit
set_option linter.unusedVariables false
set_option linter.unusedSimpArgs false
theorem chunk_err {cv:List St→Int} (hTC:TCk cv) (s:ByteArray) (w:World) (hT:SpT w) (hs:s.size≤4611686018427387904) {n x:Int} (hx:chunkV cv s.data.toList=.error (n,x)) :
    Calls Tryz.prog 15 #[.string s] w fun e w'=>e=.returned (.tuple #[.slice none 0 0,.int .i64 n,.int .i64 x])∧(x != 0)=true∧(x==0)=false∧Below w.heap.size w w' :=
  (chunk_at hTC s w hT hs).mono fun e w' h=>by
    obtain ⟨hb,⟨n',y,h1,h2,h3⟩|⟨b,a,c,h1,h2,h3⟩⟩:=h
    · rw [hx] at h1;cases h1;exact ⟨h3,by simpa using h2,by simpa using h2,hb⟩
    · rw [hx] at h1;cases h1
theorem chunk_ok {cv:List St→Int} (hTC:TCk cv) (s:ByteArray) (w:World) (hT:SpT w) (hs:s.size≤4611686018427387904) {b:List St} (hx:chunkV cv s.data.toList=.ok b) :
    Calls Tryz.prog 15 #[.string s] w fun e w'=>∃ a c,e=.returned (.tuple #[.slice a b.length c,.int .i64 0,.int .i64 0])∧b.length≤c∧c≤MX∧b.length≤65536∧St.wzs b≤589824∧St.Ats (From w.heap.size) w' b a∧Below w.heap.size w w' :=
  (chunk_at hTC s w hT hs).mono fun e w' h=>by
    obtain ⟨hb,⟨n',y,h1,h2,h3⟩|⟨b',a,c,h1,h2,h3,h4,h5,h6,h7⟩⟩:=h
    · rw [hx] at h1;cases h1
    · rw [hx] at h1;cases h1;exact ⟨a,c,h2,h3,h4,h5,h6,h7,hb⟩
end Go.Proofs.YtdekaghipjpgpaaGreatDoor
