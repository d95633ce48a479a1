/- The law PrinterDistinct returns true, for chunks whose letters are few. -/
import Derived.Test.YtdmdhopfgnlnoaaGreatDoorSD
import Derived.Test.YtdmdhopfgnlnoaaGreatDoorEI
import Derived.Test.YtdmdhopfgnlnoaaGreatDoorPW
namespace Go.Proofs.YtdmdhopfgnlnoaaGreatDoor
open Go.RowKit
set_option linter.unusedVariables false
set_option linter.unusedSimpArgs false
theorem Up {A B:List St} (hA:jE A=false) (hB:jE B=false) (h1:(Vk A).2=0) (h2:(Vk B).2=0):(Vk A).1=(Vk B).1↔St.mls Z A=St.mls Z B:=by
  have big:∀ {b:List St},jE b=false→(Vk b).2=0→Zf (ZI b)=0∧(Vk b).1=⟨(Ky b).toArray⟩∧(Ky b).length≤65536:=by
    intro b h h9;unfold jE at h;simp at h;refine ⟨vc h.1,?_⟩;unfold Vk at h9 ⊢;rw [if_pos h.1] at h9 ⊢;unfold QA at h9 ⊢;split at h9
    · rename_i hl;rw [if_pos hl];exact ⟨rfl,hl⟩
    · cases h9
  obtain ⟨a1,a2,a3⟩:=big hA h1;obtain ⟨b1,b2,b3⟩:=big hB h2;rw [←distinct_law a1 b1 a3 b3,a2,b2];constructor
  · intro h;have h9:=congrArg (fun s:ByteArray=>s.data.toList) h;simpa using h9
  · intro h;rw [h]
theorem distinct_run (hAW:∀ w',Tab w'→Calls Tryz.prog 5 #[] w' fun e w''=>e=.returned (.bool true)∧Below w'.heap.size w' w'')
    (A B:List St) (aa ab:Option Addr) (ca cb:Nat) (w:World) (ha1:A.length≤ca) (ha2:ca≤MX) (ha3:A.length*128≤LM) (hb1:B.length≤cb) (hb2:cb≤MX) (hb3:B.length*128≤LM) (hatA:St.Ats Ze w A aa) (hatB:St.Ats Ze w B ab) (ht:Tab w) (hwy:St.wys A+St.wys B≤1048576) :
    Calls Tryz.prog 3 #[.slice aa A.length ca,.slice ab B.length cb] w fun e w'=>e=.returned (.bool true)∧Below w.heap.size w w':=by
  have hwA:St.wys A≤4194304:=by omega
  have hwB:St.wys B≤4194304:=by omega
  refine Uo A B aa ab ca cb w (jE A) (jE B) (Vk A).1 (Vk B).1 (Vk A).2 (Vk B).2 ha1 ha2 ha3 hb1 hb2 hb3 hatA hatB (hI fun w' hb=>hAW w' (ht.below hb)) (hI fun w' hb=>UC A aa ca w' hwA ha1 ha2 ha3 (hatA.keep (Zb hb) (fun _ h=>h))) (hI fun w' hb=>UC B ab cb w' hwB hb1 hb2 hb3 (hatB.keep (Zb hb) (fun _ h=>h))) (hI fun w' hb=>qS A aa ca w' hwA ha1 ha2 ha3 (hatA.keep (Zb hb) (fun _ h=>h)) (ht.below hb)) (hI fun w' hb=>qS B ab cb w' hwB hb1 hb2 hb3 (hatB.keep (Zb hb) (fun _ h=>h)) (ht.below hb)) (hI fun h1 h2 h3 h4=>Up h1 h2 h3 h4)
end Go.Proofs.YtdmdhopfgnlnoaaGreatDoor
