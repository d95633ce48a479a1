/-
  No cell of these rows narrows 'for every input' (looked for: loops, veiled, ifaces, maps, wideKeys, modest, calm, conditions, laid).
  DERIVED. THE GIVEN ROWS OF THIS SEAT. 7 by the template 'for every input the law returns true; each argument reads behind the call as it read before'; 0 by the template 'total and deterministic' (their statements: YthidafnfiflknaaTotals.lean).
  GIVEN WITH THE SEED: the statements are not yours to turn. If you find one false, say at which input.
  Laid BY PROGRAM, IN A SANDBOX (cutbox-rows.mjs): the forced cells as the released guide's own fill.sh prints them over the translation e48914ab79e2612b… (all of the seat's roots in one cut). By AI agents, Wed Nov 11 2026. No macro, syntax, notation, axiom, sorry.
-/
import Derived.Test.YthidafnfiflknaaChecked
import GoSem.Claim
import GoSem.ClaimJoined
import GoSem.ClaimMapViews
import Derived.JoinedTies
import Derived.KernelRfl
namespace Go.Proofs.Ythidafnfiflknaa
/- THE CELL 'sum', in the pinned program and in every row, IS THE sha256 OF THE DUMP (.gsa) THAT YthidafnfiflknaaProg.lean LOADS. Nothing in Lean hashes anything: it is a label: what it is worth is what the hold of that sum in a sandbox is worth. -/
noncomputable def Try.pinned : Pinned := { name := "ythidafnfiflknaa", sum := "e48914ab79e2612bd578fa2288dad1a8c0ea2a98576db278515bfdfd57a1ac72", checked := Try.checked }
namespace Rows
def none {H : Type} : Left H := { results := [], args := [] }

/-- 'scriptinglaw37.RegistersFinds': WHATEVER THE INPUT: true; the input reads as it did. -/
def registersFindsSpec : ChangeSpec := { name := "registersFinds", fn := fun _ => fun
  | [d1, d2] => { results := [.lit (.bool true)], args := [d1, d2] }
  | _ => none }
def registersFindsRow : OpenClaim := { program := "ythidafnfiflknaa", sum := "e48914ab79e2612bd578fa2288dad1a8c0ea2a98576db278515bfdfd57a1ac72", func := "scripting/scriptinglaw37.RegistersFinds", spec := "registersFinds", apart := false }
def RegistersFindsSaid : Prop := registersFindsRow.holds Try.pinned (OpenSpec.ofChange registersFindsSpec)

/-- ITS FALSE NEIGHBOUR: 'it returns false'. Refute it at one input. -/
def registersFindsWrong : ChangeSpec := { name := "registersFinds", fn := fun _ => fun
  | [d1, d2] => { results := [.lit (.bool false)], args := [d1, d2] }
  | _ => none }
def RegistersFindsWrongFalsely : Prop := registersFindsRow.holds Try.pinned (OpenSpec.ofChange registersFindsWrong)

/-- 'scriptinglaw37.RegistersLimits': WHATEVER THE INPUT: true; the input reads as it did. -/
def registersLimitsSpec : ChangeSpec := { name := "registersLimits", fn := fun _ => fun
  | [d1, d2] => { results := [.lit (.bool true)], args := [d1, d2] }
  | _ => none }
def registersLimitsRow : OpenClaim := { program := "ythidafnfiflknaa", sum := "e48914ab79e2612bd578fa2288dad1a8c0ea2a98576db278515bfdfd57a1ac72", func := "scripting/scriptinglaw37.RegistersLimits", spec := "registersLimits", apart := false }
def RegistersLimitsSaid : Prop := registersLimitsRow.holds Try.pinned (OpenSpec.ofChange registersLimitsSpec)

/-- ITS FALSE NEIGHBOUR: 'it returns false'. Refute it at one input. -/
def registersLimitsWrong : ChangeSpec := { name := "registersLimits", fn := fun _ => fun
  | [d1, d2] => { results := [.lit (.bool false)], args := [d1, d2] }
  | _ => none }
def RegistersLimitsWrongFalsely : Prop := registersLimitsRow.holds Try.pinned (OpenSpec.ofChange registersLimitsWrong)

/-- 'scriptinglaw37.RegistersRuns': WHATEVER THE INPUT: true; the input reads as it did. -/
def registersRunsSpec : ChangeSpec := { name := "registersRuns", fn := fun _ => fun
  | [d1, d2] => { results := [.lit (.bool true)], args := [d1, d2] }
  | _ => none }
def registersRunsRow : OpenClaim := { program := "ythidafnfiflknaa", sum := "e48914ab79e2612bd578fa2288dad1a8c0ea2a98576db278515bfdfd57a1ac72", func := "scripting/scriptinglaw37.RegistersRuns", spec := "registersRuns", apart := false }
def RegistersRunsSaid : Prop := registersRunsRow.holds Try.pinned (OpenSpec.ofChange registersRunsSpec)

/-- ITS FALSE NEIGHBOUR: 'it returns false'. Refute it at one input. -/
def registersRunsWrong : ChangeSpec := { name := "registersRuns", fn := fun _ => fun
  | [d1, d2] => { results := [.lit (.bool false)], args := [d1, d2] }
  | _ => none }
def RegistersRunsWrongFalsely : Prop := registersRunsRow.holds Try.pinned (OpenSpec.ofChange registersRunsWrong)

/-- 'scriptinglaw37.RegistersBlocks': WHATEVER THE INPUT: true; the input reads as it did. -/
def registersBlocksSpec : ChangeSpec := { name := "registersBlocks", fn := fun _ => fun
  | [d1, d2, d3] => { results := [.lit (.bool true)], args := [d1, d2, d3] }
  | _ => none }
def registersBlocksRow : OpenClaim := { program := "ythidafnfiflknaa", sum := "e48914ab79e2612bd578fa2288dad1a8c0ea2a98576db278515bfdfd57a1ac72", func := "scripting/scriptinglaw37.RegistersBlocks", spec := "registersBlocks", apart := false }
def RegistersBlocksSaid : Prop := registersBlocksRow.holds Try.pinned (OpenSpec.ofChange registersBlocksSpec)

/-- ITS FALSE NEIGHBOUR: 'it returns false'. Refute it at one input. -/
def registersBlocksWrong : ChangeSpec := { name := "registersBlocks", fn := fun _ => fun
  | [d1, d2, d3] => { results := [.lit (.bool false)], args := [d1, d2, d3] }
  | _ => none }
def RegistersBlocksWrongFalsely : Prop := registersBlocksRow.holds Try.pinned (OpenSpec.ofChange registersBlocksWrong)

/-- 'scriptinglaw37.RegistersTemporary': WHATEVER THE INPUT: true; the input reads as it did. -/
def registersTemporarySpec : ChangeSpec := { name := "registersTemporary", fn := fun _ => fun
  | [d1, d2, d3] => { results := [.lit (.bool true)], args := [d1, d2, d3] }
  | _ => none }
def registersTemporaryRow : OpenClaim := { program := "ythidafnfiflknaa", sum := "e48914ab79e2612bd578fa2288dad1a8c0ea2a98576db278515bfdfd57a1ac72", func := "scripting/scriptinglaw37.RegistersTemporary", spec := "registersTemporary", apart := false }
def RegistersTemporarySaid : Prop := registersTemporaryRow.holds Try.pinned (OpenSpec.ofChange registersTemporarySpec)

/-- ITS FALSE NEIGHBOUR: 'it returns false'. Refute it at one input. -/
def registersTemporaryWrong : ChangeSpec := { name := "registersTemporary", fn := fun _ => fun
  | [d1, d2, d3] => { results := [.lit (.bool false)], args := [d1, d2, d3] }
  | _ => none }
def RegistersTemporaryWrongFalsely : Prop := registersTemporaryRow.holds Try.pinned (OpenSpec.ofChange registersTemporaryWrong)

/-- 'scriptinglaw37.RegistersCloses': WHATEVER THE INPUT: true; the input reads as it did. -/
def registersClosesSpec : ChangeSpec := { name := "registersCloses", fn := fun _ => fun
  | [d1, d2] => { results := [.lit (.bool true)], args := [d1, d2] }
  | _ => none }
def registersClosesRow : OpenClaim := { program := "ythidafnfiflknaa", sum := "e48914ab79e2612bd578fa2288dad1a8c0ea2a98576db278515bfdfd57a1ac72", func := "scripting/scriptinglaw37.RegistersCloses", spec := "registersCloses", apart := false }
def RegistersClosesSaid : Prop := registersClosesRow.holds Try.pinned (OpenSpec.ofChange registersClosesSpec)

/-- ITS FALSE NEIGHBOUR: 'it returns false'. Refute it at one input. -/
def registersClosesWrong : ChangeSpec := { name := "registersCloses", fn := fun _ => fun
  | [d1, d2] => { results := [.lit (.bool false)], args := [d1, d2] }
  | _ => none }
def RegistersClosesWrongFalsely : Prop := registersClosesRow.holds Try.pinned (OpenSpec.ofChange registersClosesWrong)

/-- 'scriptinglaw37.RegistersNone': WHATEVER THE INPUT: true; the input reads as it did. -/
def registersNoneSpec : ChangeSpec := { name := "registersNone", fn := fun _ => fun
  | [d1, d2] => { results := [.lit (.bool true)], args := [d1, d2] }
  | _ => none }
def registersNoneRow : OpenClaim := { program := "ythidafnfiflknaa", sum := "e48914ab79e2612bd578fa2288dad1a8c0ea2a98576db278515bfdfd57a1ac72", func := "scripting/scriptinglaw37.RegistersNone", spec := "registersNone", apart := false }
def RegistersNoneSaid : Prop := registersNoneRow.holds Try.pinned (OpenSpec.ofChange registersNoneSpec)

/-- ITS FALSE NEIGHBOUR: 'it returns false'. Refute it at one input. -/
def registersNoneWrong : ChangeSpec := { name := "registersNone", fn := fun _ => fun
  | [d1, d2] => { results := [.lit (.bool false)], args := [d1, d2] }
  | _ => none }
def RegistersNoneWrongFalsely : Prop := registersNoneRow.holds Try.pinned (OpenSpec.ofChange registersNoneWrong)

/- THE SECOND FORM. 'bulk': how many values and letters a reading holds, each counted each time it is reached (what is shared counts as often as it is met; a slice's spare places count too). A statement '..UptoSaid' is the law's where the arguments, and the package variables that the reading takes, are together of bulk at most 1048576: NARROWER than '..Said'. Prove '..Said' where nothing that the law and all that it calls make is longer than what came in: it says more and counts as full. Else prove '..UptoSaid'. A law counts once. -/
mutual
def uptoBulk {H : Type} : DataW H → Nat
  | .lit (.string bytes) => bytes.length + 1
  | .lit _ => 1
  | .nil => 1
  | .ptr d => uptoBulk d + 1
  | .slice elems spare => uptoBulkAll elems + uptoBulkAll spare + 1
  | .agg parts => uptoBulkAll parts + 1
  | .iface _ d => uptoBulk d + 1
  | .map entries => uptoBulkEntries entries + 1
  | .held _ => 1
def uptoBulkAll {H : Type} : List (DataW H) → Nat
  | [] => 0
  | d :: r => uptoBulk d + uptoBulkAll r
def uptoBulkEntries {H : Type} : List (Lit × DataW H) → Nat
  | [] => 0
  | x :: r => uptoBulkEntry x + uptoBulkEntries r
def uptoBulkEntry {H : Type} : Lit × DataW H → Nat
  | (.string bytes, d) => bytes.length + uptoBulk d + 1
  | (_, d) => uptoBulk d + 1
 end
def uptoSmall : (H : Type) → List (DataW H) → Bool := fun _ ds => decide (uptoBulkAll ds ≤ 1048576)
def OpenSpec.upto (s : _root_.Go.ChangeSpec) : _root_.Go.OpenSpec := { _root_.Go.OpenSpec.ofChange s with cond := some uptoSmall }

/-- 'scriptinglaw37.RegistersFinds', WHERE WHAT IT READS IS OF BULK AT MOST 1048576: true; the input reads as it did. -/
def registersFindsUptoRow : OpenClaim := { program := "ythidafnfiflknaa", sum := "e48914ab79e2612bd578fa2288dad1a8c0ea2a98576db278515bfdfd57a1ac72", func := "scripting/scriptinglaw37.RegistersFinds", spec := "registersFinds", apart := false, narrowed := true }
def RegistersFindsUptoSaid : Prop := registersFindsUptoRow.holds Try.pinned (OpenSpec.upto registersFindsSpec)

/-- 'scriptinglaw37.RegistersLimits', WHERE WHAT IT READS IS OF BULK AT MOST 1048576: true; the input reads as it did. -/
def registersLimitsUptoRow : OpenClaim := { program := "ythidafnfiflknaa", sum := "e48914ab79e2612bd578fa2288dad1a8c0ea2a98576db278515bfdfd57a1ac72", func := "scripting/scriptinglaw37.RegistersLimits", spec := "registersLimits", apart := false, narrowed := true }
def RegistersLimitsUptoSaid : Prop := registersLimitsUptoRow.holds Try.pinned (OpenSpec.upto registersLimitsSpec)

/-- 'scriptinglaw37.RegistersRuns', WHERE WHAT IT READS IS OF BULK AT MOST 1048576: true; the input reads as it did. -/
def registersRunsUptoRow : OpenClaim := { program := "ythidafnfiflknaa", sum := "e48914ab79e2612bd578fa2288dad1a8c0ea2a98576db278515bfdfd57a1ac72", func := "scripting/scriptinglaw37.RegistersRuns", spec := "registersRuns", apart := false, narrowed := true }
def RegistersRunsUptoSaid : Prop := registersRunsUptoRow.holds Try.pinned (OpenSpec.upto registersRunsSpec)

/-- 'scriptinglaw37.RegistersBlocks', WHERE WHAT IT READS IS OF BULK AT MOST 1048576: true; the input reads as it did. -/
def registersBlocksUptoRow : OpenClaim := { program := "ythidafnfiflknaa", sum := "e48914ab79e2612bd578fa2288dad1a8c0ea2a98576db278515bfdfd57a1ac72", func := "scripting/scriptinglaw37.RegistersBlocks", spec := "registersBlocks", apart := false, narrowed := true }
def RegistersBlocksUptoSaid : Prop := registersBlocksUptoRow.holds Try.pinned (OpenSpec.upto registersBlocksSpec)

/-- 'scriptinglaw37.RegistersTemporary', WHERE WHAT IT READS IS OF BULK AT MOST 1048576: true; the input reads as it did. -/
def registersTemporaryUptoRow : OpenClaim := { program := "ythidafnfiflknaa", sum := "e48914ab79e2612bd578fa2288dad1a8c0ea2a98576db278515bfdfd57a1ac72", func := "scripting/scriptinglaw37.RegistersTemporary", spec := "registersTemporary", apart := false, narrowed := true }
def RegistersTemporaryUptoSaid : Prop := registersTemporaryUptoRow.holds Try.pinned (OpenSpec.upto registersTemporarySpec)

/-- 'scriptinglaw37.RegistersCloses', WHERE WHAT IT READS IS OF BULK AT MOST 1048576: true; the input reads as it did. -/
def registersClosesUptoRow : OpenClaim := { program := "ythidafnfiflknaa", sum := "e48914ab79e2612bd578fa2288dad1a8c0ea2a98576db278515bfdfd57a1ac72", func := "scripting/scriptinglaw37.RegistersCloses", spec := "registersCloses", apart := false, narrowed := true }
def RegistersClosesUptoSaid : Prop := registersClosesUptoRow.holds Try.pinned (OpenSpec.upto registersClosesSpec)

/-- 'scriptinglaw37.RegistersNone', WHERE WHAT IT READS IS OF BULK AT MOST 1048576: true; the input reads as it did. -/
def registersNoneUptoRow : OpenClaim := { program := "ythidafnfiflknaa", sum := "e48914ab79e2612bd578fa2288dad1a8c0ea2a98576db278515bfdfd57a1ac72", func := "scripting/scriptinglaw37.RegistersNone", spec := "registersNone", apart := false, narrowed := true }
def RegistersNoneUptoSaid : Prop := registersNoneUptoRow.holds Try.pinned (OpenSpec.upto registersNoneSpec)

end Rows
end Go.Proofs.Ythidafnfiflknaa
