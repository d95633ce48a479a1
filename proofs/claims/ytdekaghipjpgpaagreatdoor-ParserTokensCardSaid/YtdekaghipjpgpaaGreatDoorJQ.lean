/- The parser's methods exp and block read as the spec says: the recursion. -/
import Derived.Test.YtdekaghipjpgpaaGreatDoorJP
namespace Go.Proofs.YtdekaghipjpgpaaGreatDoor
open Go.RowKit
set_option linter.unusedVariables false
set_option linter.unusedSimpArgs false
theorem EB_at {C:PC} (hN:NumC C.L) (hT:∀ t ∈ C.L,t.text.size≤65536):∀ k,EC C (EB k).1 k∧BC C (EB k).2 k
  | 0=>⟨fun lim l w _ _ h _=>absurd h (Nat.not_lt_zero _),fun l w h _=>absurd h (Nat.not_lt_zero _)⟩
  | k+1=>by
    obtain ⟨hE,hB⟩:=EB_at hN hT k;obtain ⟨hL,hLB⟩:=EB_le k;refine ⟨fun lim l w h0 h12 hl h=>?_,fun l w hl h=>?_⟩
    · have hl':l.length≤k:=by omega
      exact exp_at hE hL hLB lim l w h0 h12 hl' h fun w' h'=>prim_at hE hL hN l w' hl' h' (fun _=>clo_at hB hLB) fun _ _ w'' h''=>pref_at hE hL hN l w'' hl' h''
    · have hl':l.length≤k:=by omega
      exact block_at hL hLB l w hl' h (fun l w hl h=>stat_at hE hL hB hLB hN hT l w hl h) (fun l w hl h=>returns_at hE hL l w hl h)
end Go.Proofs.YtdekaghipjpgpaaGreatDoor
