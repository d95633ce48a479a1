/- fold.combine and fold.literal: the whole contracts. -/
import Derived.Test.YtoobecjagbdnkaaGreatDoorG3
namespace Go.Proofs.YtoobecjagbdnkaaGreatDoor
open Go.RowKit
set_option linter.unusedVariables false
set_option linter.unusedSimpArgs false
theorem combine_any (x : Ex) (d : EA) (l : List (Vl × Bool)) (la : Option Addr) (lc : Nat) (w : World) (ht : Tab w) (ho : W64 x.op) (hlc : l.length ≤ lc) (hlx : lc ≤ MX) (hr : Rows AllB w 6 knR l la) :
    Calls Tryz.prog 42 #[.agg #[.int .i64 x.kind, .int .i64 x.op, .int .i64 x.line, .int .i64 x.p, .int .i64 x.q, .string x.str, .slice d.a x.args.length d.c, .slice d.fa x.funcs.length d.fc], .slice la l.length lc] w fun e w' => e = .returned (.tuple #[.agg #[.int .i64 (combineS x.kind x.op l).1.k, .int .i64 (combineS x.kind x.op l).1.p, .int .i64 (combineS x.kind x.op l).1.q, .string (combineS x.kind x.op l).1.s, .int .i64 (combineS x.kind x.op l).1.r], .bool (combineS x.kind x.op l).2]) ∧ Below w.heap.size w w' := by
  match l, hlc, hr with
  | [], hlc, hr => exact combine_len x.kind x.op x.line x.p x.q x.str d.a d.fa x.args.length d.c x.funcs.length d.fc lc 0 ho w ht la hlc hlx (by omega)
  | [(⟨v, p1, q1, s1, r1⟩, b)], hlc, hr =>
    obtain ⟨lb, lo, h1, h2⟩ := hr
    obtain ⟨rfl, -, hlb⟩ := h1 (by simp)
    obtain ⟨cs, hc, rfl, hg⟩ := h2 0 _ rfl
    have c0 := hc 0 _ rfl; have c1 := hc 1 _ rfl; have c2 := hc 2 _ rfl; have c3 := hc 3 _ rfl; have c4 := hc 4 _ rfl; have c5 := hc 5 _ rfl
    simp only [Nat.zero_mul, Nat.add_zero] at c0 c1 c2 c3 c4 c5
    have hgp := hg.p; have hgq := hg.q; have hgs := hg.s
    cases b
    · exact combine_1no x.kind x.op x.line x.p x.q x.str d.a d.fa x.args.length d.c x.funcs.length d.fc lc v p1 q1 r1 s1 ho w ht lb lo hlb hlc hlx hgp hgq hgs c0 c1 c2 c3 c4 c5
    · show Calls Tryz.prog 42 _ _ _
      by_cases h19 : x.kind = 19
      · rw [show combineS x.kind x.op [(⟨v, p1, q1, s1, r1⟩, true)] = (⟨v, p1, q1, s1, r1⟩, true) from by simp [combineS, h19], h19]
        exact combine_1paren x.op x.line x.p x.q x.str d.a d.fa x.args.length d.c x.funcs.length d.fc lc v p1 q1 r1 s1 ho w ht lb lo hlb hlc hlx hgp hgq hgs c0 c1 c2 c3 c4 c5
      · by_cases h15 : x.kind = 15
        · rw [show combineS x.kind x.op [(⟨v, p1, q1, s1, r1⟩, true)] = unaryS x.op ⟨v, p1, q1, s1, r1⟩ from by simp [combineS, h15], h15]
          exact combine_1un x.op x.line x.p x.q x.str d.a d.fa x.args.length d.c x.funcs.length d.fc lc v p1 q1 r1 s1 ho w ht lb lo hlb hlc hlx hgp hgq hgs c0 c1 c2 c3 c4 c5
        · rw [show combineS x.kind x.op [(⟨v, p1, q1, s1, r1⟩, true)] = (nilV, false) from by simp [combineS, h15, h19]]
          exact combine_1out x.kind x.op x.line x.p x.q x.str d.a d.fa x.args.length d.c x.funcs.length d.fc lc v p1 q1 r1 s1 ho w ht lb lo hlb hlc hlx hgp hgq hgs c0 c1 c2 c3 c4 c5 h19 h15
  | [(⟨v, p1, q1, s1, r1⟩, b), (⟨y, p2, q2, s2, r2⟩, b2)], hlc, hr =>
    obtain ⟨lb, lo, h1, h2⟩ := hr
    obtain ⟨rfl, -, hlb⟩ := h1 (by simp)
    obtain ⟨cs, hc, rfl, hg⟩ := h2 0 _ rfl
    obtain ⟨cs, hm, rfl, hg2⟩ := h2 1 _ rfl
    have c0 := hc 0 _ rfl; have c1 := hc 1 _ rfl; have c2 := hc 2 _ rfl; have c3 := hc 3 _ rfl; have c4 := hc 4 _ rfl; have c5 := hc 5 _ rfl
    have d0 := hm 0 _ rfl; have d1 := hm 1 _ rfl; have d2 := hm 2 _ rfl; have d3 := hm 3 _ rfl; have d4 := hm 4 _ rfl; have d5 := hm 5 _ rfl
    simp only [Nat.zero_mul, Nat.add_zero] at c0 c1 c2 c3 c4 c5
    simp only [Nat.one_mul, Nat.add_zero, Nat.add_assoc] at d0 d1 d2 d3 d4 d5
    have hgp := hg.p; have hgq := hg.q; have hgs := hg.s
    have hgp2 := hg2.p; have hgq2 := hg2.q; have hgs2 := hg2.s
    cases b
    · exact combine_2no x.kind x.op x.line x.p x.q x.str d.a d.fa x.args.length d.c x.funcs.length d.fc lc v p1 q1 r1 s1 y p2 q2 r2 s2 ho w ht lb lo hlb b2 hlc hlx hgp hgq hgs c0 c1 c2 c3 c4 c5 hgp2 hgq2 hgs2 d0 d1 d2 d3 d4 d5
    · by_cases h17 : x.kind = 17
      · cases hd : decidesS 17 ⟨v, p1, q1, s1, r1⟩
        · cases b2
          · rw [show combineS x.kind x.op [(⟨v, p1, q1, s1, r1⟩, true), (⟨y, p2, q2, s2, r2⟩, false)] = (nilV, false) from by simp [combineS, h17, hd], h17]
            exact combine_2nod17 x.op x.line x.p x.q x.str d.a d.fa x.args.length d.c x.funcs.length d.fc lc v p1 q1 r1 s1 y p2 q2 r2 s2 ho w ht lb lo hlb hlc hlx hgp hgq hgs c0 c1 c2 c3 c4 c5 hgp2 hgq2 hgs2 d0 d1 d2 d3 d4 d5 hd
          · rw [show combineS x.kind x.op [(⟨v, p1, q1, s1, r1⟩, true), (⟨y, p2, q2, s2, r2⟩, true)] = (⟨y, p2, q2, s2, r2⟩, true) from by simp [combineS, h17, hd], h17]
            exact combine_2sec17 x.op x.line x.p x.q x.str d.a d.fa x.args.length d.c x.funcs.length d.fc lc v p1 q1 r1 s1 y p2 q2 r2 s2 ho w ht lb lo hlb hlc hlx hgp hgq hgs c0 c1 c2 c3 c4 c5 hgp2 hgq2 hgs2 d0 d1 d2 d3 d4 d5 hd
        · rw [show combineS x.kind x.op [(⟨v, p1, q1, s1, r1⟩, true), (⟨y, p2, q2, s2, r2⟩, b2)] = (⟨v, p1, q1, s1, r1⟩, true) from by simp [combineS, h17, hd], h17]
          exact combine_2dec17 x.op x.line x.p x.q x.str d.a d.fa x.args.length d.c x.funcs.length d.fc lc v p1 q1 r1 s1 y p2 q2 r2 s2 ho w ht lb lo hlb b2 hlc hlx hgp hgq hgs c0 c1 c2 c3 c4 c5 hgp2 hgq2 hgs2 d0 d1 d2 d3 d4 d5 hd
      · by_cases h18 : x.kind = 18
        · cases hd : decidesS 18 ⟨v, p1, q1, s1, r1⟩
          · cases b2
            · rw [show combineS x.kind x.op [(⟨v, p1, q1, s1, r1⟩, true), (⟨y, p2, q2, s2, r2⟩, false)] = (nilV, false) from by simp [combineS, h18, hd], h18]
              exact combine_2nod18 x.op x.line x.p x.q x.str d.a d.fa x.args.length d.c x.funcs.length d.fc lc v p1 q1 r1 s1 y p2 q2 r2 s2 ho w ht lb lo hlb hlc hlx hgp hgq hgs c0 c1 c2 c3 c4 c5 hgp2 hgq2 hgs2 d0 d1 d2 d3 d4 d5 hd
            · rw [show combineS x.kind x.op [(⟨v, p1, q1, s1, r1⟩, true), (⟨y, p2, q2, s2, r2⟩, true)] = (⟨y, p2, q2, s2, r2⟩, true) from by simp [combineS, h18, hd], h18]
              exact combine_2sec18 x.op x.line x.p x.q x.str d.a d.fa x.args.length d.c x.funcs.length d.fc lc v p1 q1 r1 s1 y p2 q2 r2 s2 ho w ht lb lo hlb hlc hlx hgp hgq hgs c0 c1 c2 c3 c4 c5 hgp2 hgq2 hgs2 d0 d1 d2 d3 d4 d5 hd
          · rw [show combineS x.kind x.op [(⟨v, p1, q1, s1, r1⟩, true), (⟨y, p2, q2, s2, r2⟩, b2)] = (⟨v, p1, q1, s1, r1⟩, true) from by simp [combineS, h18, hd], h18]
            exact combine_2dec18 x.op x.line x.p x.q x.str d.a d.fa x.args.length d.c x.funcs.length d.fc lc v p1 q1 r1 s1 y p2 q2 r2 s2 ho w ht lb lo hlb b2 hlc hlx hgp hgq hgs c0 c1 c2 c3 c4 c5 hgp2 hgq2 hgs2 d0 d1 d2 d3 d4 d5 hd
        · have hdn : ∀ u, decidesS x.kind u = false := fun u => by unfold decidesS; rw [if_neg h17, if_neg h18]
          cases b2
          · rw [show combineS x.kind x.op [(⟨v, p1, q1, s1, r1⟩, true), (⟨y, p2, q2, s2, r2⟩, false)] = (nilV, false) from by simp [combineS, hdn]]
            by_cases h19 : x.kind = 19
            · rw [h19]; exact combine_2nod19 x.op x.line x.p x.q x.str d.a d.fa x.args.length d.c x.funcs.length d.fc lc v p1 q1 r1 s1 y p2 q2 r2 s2 ho w ht lb lo hlb hlc hlx hgp hgq hgs c0 c1 c2 c3 c4 c5 hgp2 hgq2 hgs2 d0 d1 d2 d3 d4 d5
            · by_cases h15 : x.kind = 15
              · rw [h15]; exact combine_2nod15 x.op x.line x.p x.q x.str d.a d.fa x.args.length d.c x.funcs.length d.fc lc v p1 q1 r1 s1 y p2 q2 r2 s2 ho w ht lb lo hlb hlc hlx hgp hgq hgs c0 c1 c2 c3 c4 c5 hgp2 hgq2 hgs2 d0 d1 d2 d3 d4 d5
              · exact combine_2nod x.kind x.op x.line x.p x.q x.str d.a d.fa x.args.length d.c x.funcs.length d.fc lc v p1 q1 r1 s1 y p2 q2 r2 s2 ho w ht lb lo hlb hlc hlx hgp hgq hgs c0 c1 c2 c3 c4 c5 hgp2 hgq2 hgs2 d0 d1 d2 d3 d4 d5 ⟨h17, h18, h19, h15⟩
          · by_cases h16 : x.kind = 16
            · rw [show combineS x.kind x.op [(⟨v, p1, q1, s1, r1⟩, true), (⟨y, p2, q2, s2, r2⟩, true)] = binaryS x.op ⟨v, p1, q1, s1, r1⟩ ⟨y, p2, q2, s2, r2⟩ from by have hx : decidesS 16 ⟨v, p1, q1, s1, r1⟩ = false := rfl; simp [combineS, hx, h16], h16]
              exact combine_2bin x.op x.line x.p x.q x.str d.a d.fa x.args.length d.c x.funcs.length d.fc lc v p1 q1 r1 s1 y p2 q2 r2 s2 ho w ht lb lo hlb hlc hlx hgp hgq hgs c0 c1 c2 c3 c4 c5 hgp2 hgq2 hgs2 d0 d1 d2 d3 d4 d5
            · rw [show combineS x.kind x.op [(⟨v, p1, q1, s1, r1⟩, true), (⟨y, p2, q2, s2, r2⟩, true)] = (nilV, false) from by simp [combineS, hdn, h16, h17, h18]]
              by_cases h19 : x.kind = 19
              · rw [h19]; exact combine_2out19 x.op x.line x.p x.q x.str d.a d.fa x.args.length d.c x.funcs.length d.fc lc v p1 q1 r1 s1 y p2 q2 r2 s2 ho w ht lb lo hlb hlc hlx hgp hgq hgs c0 c1 c2 c3 c4 c5 hgp2 hgq2 hgs2 d0 d1 d2 d3 d4 d5
              · by_cases h15 : x.kind = 15
                · rw [h15]; exact combine_2out15 x.op x.line x.p x.q x.str d.a d.fa x.args.length d.c x.funcs.length d.fc lc v p1 q1 r1 s1 y p2 q2 r2 s2 ho w ht lb lo hlb hlc hlx hgp hgq hgs c0 c1 c2 c3 c4 c5 hgp2 hgq2 hgs2 d0 d1 d2 d3 d4 d5
                · exact combine_2out x.kind x.op x.line x.p x.q x.str d.a d.fa x.args.length d.c x.funcs.length d.fc lc v p1 q1 r1 s1 y p2 q2 r2 s2 ho w ht lb lo hlb hlc hlx hgp hgq hgs c0 c1 c2 c3 c4 c5 hgp2 hgq2 hgs2 d0 d1 d2 d3 d4 d5 ⟨h17, h18, h19, h15, h16⟩
  | a :: b :: c :: r, hlc, hr => exact combine_len x.kind x.op x.line x.p x.q x.str d.a d.fa x.args.length d.c x.funcs.length d.fc lc (a :: b :: c :: r).length ho w ht la hlc hlx (by simp)
theorem literal_any (v : Vl) (l : Int) (hl : W64 l) (hg : v.Good) (w : World) :
    Calls Tryz.prog 43 #[.agg #[.int .i64 v.k, .int .i64 v.p, .int .i64 v.q, .string v.s, .int .i64 v.r], .int .i64 l] w fun e w' => ∃ d, e = .returned (.agg #[.int .i64 (litS v l).kind, .int .i64 (litS v l).op, .int .i64 (litS v l).line, .int .i64 (litS v l).p, .int .i64 (litS v l).q, .string (litS v l).str, .slice d.a (litS v l).args.length d.c, .slice d.fa (litS v l).funcs.length d.fc]) ∧ (litS v l).At (From w.heap.size) w' d ∧ Below w.heap.size w w' := by
  obtain ⟨k, p, q, s, r⟩ := v
  obtain ⟨hp, hq, hs, hn⟩ := hg
  have h0 : W64 0 := by unfold W64; omega
  have hsm : ∀ i : Int, 0 ≤ i → i ≤ 100 → W64 i := fun i a b => by unfold W64; omega
  have he : (⟨#[]⟩ : ByteArray).size ≤ MX := by unfold MX; decide
  by_cases h1 : k = 1
  · subst h1
    by_cases hr : r = 0
    · subst hr
      rw [show litS ⟨1, p, q, s, 0⟩ l = .mk 3 0 l 0 0 ⟨#[]⟩ [] [] from by simp [litS]]
      refine (literal_false p q l s w).mono ?_
      rintro e w' ⟨rfl, hb⟩
      exact ⟨⟨none, 0, none, 0⟩, rfl, one_at (b := 0) (off := 0) (hsm 3 (by omega) (by omega)) h0 hl h0 h0 he, hb⟩
    · rw [show litS ⟨1, p, q, s, r⟩ l = .mk 2 0 l 0 0 ⟨#[]⟩ [] [] from by simp [litS, hr]]
      refine (literal_true p q r l s hr w).mono ?_
      rintro e w' ⟨rfl, hb⟩
      exact ⟨⟨none, 0, none, 0⟩, rfl, one_at (b := 0) (off := 0) (hsm 2 (by omega) (by omega)) h0 hl h0 h0 he, hb⟩
  · by_cases h3 : k = 3
    · subst h3
      rw [show litS ⟨3, p, q, s, r⟩ l = .mk 5 0 l 0 0 s [] [] from by simp [litS]]
      refine (literal_str p q r l s w).mono ?_
      rintro e w' ⟨rfl, hb⟩
      exact ⟨⟨none, 0, none, 0⟩, rfl, one_at (b := 0) (off := 0) (hsm 5 (by omega) (by omega)) h0 hl h0 h0 (by simp only at hs; unfold MX; omega), hb⟩
    · by_cases h2 : k = 2
      · subst h2
        obtain ⟨a1, a2, a3, a4, -⟩ := vld_iff.1 (hn rfl)
        simp only at a1 a2 a3 a4
        by_cases hp0 : p < 0
        · rw [show litS ⟨2, p, q, s, r⟩ l = .mk 15 20 l 0 0 ⟨#[]⟩ [litP (-p) q l] [] from by simp [litS, hp0]]
          refine (literal_neg p q r l s hl hp0 a3 a1 a2 w).mono ?_
          rintro e w' ⟨b, d, rfl, g1, g2, g3, g4, hb⟩
          refine ⟨⟨some ⟨b, 0, none⟩, 1, none, 0⟩, rfl, ?_, hb⟩
          refine ⟨⟨hsm 15 (by omega) (by omega), hsm 20 (by omega) (by omega), hl, h0, h0, he⟩, ⟨by simp, ⟨by show 1 ≤ MX; decide, by show 1 * 104 ≤ LM; decide⟩, by simp, by simp, by simp⟩, ?_, trivial⟩
          exact ⟨b, 0, d, rfl, g1, g2, g3, g4, trivial⟩
        · rw [show litS ⟨2, p, q, s, r⟩ l = litP p q l from by simp [litS, hp0]]
          exact literal_pos p q r l s hl (by omega) a4 a1 a2 w
      · rw [show litS ⟨k, p, q, s, r⟩ l = .mk 1 0 l 0 0 ⟨#[]⟩ [] [] from by simp [litS, h1, h2, h3]]
        refine (literal_nil k p q r l s h1 h2 h3 w).mono ?_
        rintro e w' ⟨rfl, hb⟩
        exact ⟨⟨none, 0, none, 0⟩, rfl, one_at (b := 0) (off := 0) (hsm 1 (by omega) (by omega)) h0 hl h0 h0 he, hb⟩
end Go.Proofs.YtoobecjagbdnkaaGreatDoor
