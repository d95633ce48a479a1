/- Contracts of the package scriptingref10: exprs, from that of Expr. -/
import Derived.Test.YtpjbdoiaiafhnaaGreatDoorV7
import Derived.Test.YtpjbdoiaiafhnaaGreatDoorH2
import Derived.Deep.DeepCutAuto
namespace Go.Proofs.YtpjbdoiaiafhnaaGreatDoor
open Go.RowKit
set_option linter.unusedVariables false
set_option linter.unusedSimpArgs false

theorem Gath.app {α δ : Type} {f : α → δ → List Value} {A : (Nat → Prop) → World → α → δ → Prop} {e : TypeId} {n base : Nat} {w w3 w' : World} {v v' : Value} {l : List α} {ds : List δ} {o : Obj} {x : α} {d : δ}
    (hA : Lies A) (h : Gath f A e n base w v l ds) (hb : Below w.heap.size w w3) (hx : A (From w.heap.size) w3 x d) (hbase : base ≤ w.heap.size) {m : Nat} {X : List Value} (hm : l.length = m) (hX : X = (l.zip ds).flatMap fun p => f p.1 p.2)
    (h1 : w'.ownsRow base e n v' (m + 1) (X ++ f x d)) (h2 : (w3.alloc o).grownBy w' v.ownBlock) (h3 : ∀ b, v'.ownBlock = some b → some b = v.ownBlock ∨ w3.heap.size + 1 ≤ b) :
    Gath f A e n base w' v' (l ++ [x]) (ds ++ [d]) := by
  subst hm hX
  refine Gath.push hA ((h.below hA hb).alloc hA o) ?_ h1 h2 (fun b hb => by simpa using h3 b hb)
  refine hA (From w.heap.size) _ w3 _ x d ((Keep.refl _ _).alloc o) (fun k hk _ => ⟨Nat.le_trans hbase hk, fun he => ?_⟩) hx
  have h9 := (h.own.lt k he.symm).2
  have h8 : w.heap.size ≤ k := hk
  omega
/-- a row stays where the blocks stay that were there -/
theorem Gath.lt {α δ : Type} {f : α → δ → List Value} {A : (Nat → Prop) → World → α → δ → Prop} {e : TypeId} {n base : Nat} {w w' : World} {v : Value} {l : List α} {ds : List δ}
    (hA : Lies A) (h : Gath f A e n base w v l ds) (hk : Keep (fun b => base ≤ b ∧ b < w.heap.size) w w') : Gath f A e n base w' v l ds := by
  refine ⟨h.len, ⟨h.own.1, ?_⟩, fun i x d hx hd => hA (fun k => Out base v k ∧ k < w.heap.size) _ w w' x d (hk.weak fun k hk => ⟨hk.1.1, hk.2⟩) (fun k h _ => h.1) (hA _ _ w w x d (Keep.refl _ _) (fun k h1 h2 => ⟨h1, h2⟩) (h.at_ i x d hx hd))⟩
  rcases h.own.2 with h2 | ⟨g, cap, cur, hv, hg, hh, hr⟩
  · exact .inl h2
  · have hgl := (h.own.lt g (by rw [hv]; rfl)).2
    exact .inr ⟨g, cap, cur, hv, hg, by rw [hk.block g ⟨hg, hgl⟩ hgl]; exact hh, hr⟩

def TExprC (n : Nat) : Prop := ∀ (x : Ex) (d : EA) (w : World), x.sz ≤ n → x.At AllB w d → Calls Tryz.prog 14 #[.agg #[.int .i64 (x).kind, .int .i64 (x).op, .int .i64 (x).line, .int .i64 (x).p, .int .i64 (x).q, .string (x).str, .slice (d).a (x).args.length (d).c, .slice (d).fa (x).funcs.length (d).fc]] w fun e w' => ∃ d', e = .returned (.agg #[.int .i64 (foldE x).kind, .int .i64 (foldE x).op, .int .i64 (foldE x).line, .int .i64 (foldE x).p, .int .i64 (foldE x).q, .string (foldE x).str, .slice (d').a (foldE x).args.length (d').c, .slice (d').fa (foldE x).funcs.length (d').fc]) ∧ (foldE x).At (From w.heap.size) w' d' ∧ Below w.heap.size w w'
def TExsC (n : Nat) : Prop := ∀ (l : List Ex) (a : Option Addr) (c : Nat) (w : World), (∀ x ∈ l, x.sz ≤ n) → l.length ≤ c → c ≤ MX → l.length * 104 ≤ LM → Ex.Ats AllB w l a → Calls Tryz.prog 40 #[.slice a l.length c] w fun e w' => ∃ a' c', e = .returned (.slice a' l.length c') ∧ l.length ≤ c' ∧ c' ≤ MX ∧ Ex.Ats (From w.heap.size) w' (l.map foldE) a' ∧ Below w.heap.size w w'
def TChunkC (n : Nat) : Prop := ∀ (b : List St) (a : Option Addr) (c : Nat) (w : World), St.szs b ≤ n → b.length ≤ c → c ≤ MX → b.length * 128 ≤ LM → St.Ats AllB w b a → Calls Tryz.prog 17 #[.slice a b.length c] w fun e w' => ∃ a' c', e = .returned (.slice a' b.length c') ∧ b.length ≤ c' ∧ c' ≤ MX ∧ St.Ats (From w.heap.size) w' (redSs b) a' ∧ Below w.heap.size w w'
structure TxHead (w : World) (l : List Ex) (wr : World) (k : Nat) (v : Value) (ds : List EA) : Prop where
  below : Below w.heap.size w wr
  gath : Gath Ex.cells exA 27 8 w.heap.size wr v ((l.take k).map foldE) ds
theorem take_next {α β : Type} {f : α → β} {l : List α} {k : Nat} {y : α} (hy : l[k]? = some y) : (l.take (k + 1)).map f = (l.take k).map f ++ [f y] := by
  rw [List.take_add_one, hy]; simp
theorem take_len {α β : Type} {f : α → β} {l : List α} {k : Nat} (hk : k ≤ l.length) : ((l.take k).map f).length = k := by simp; omega
theorem Ex.cells_one (x : Ex) (d : EA) : ∀ u ∈ x.cells d, u.oneCell' = true := by
  intro u hu
  simp only [Ex.cells, List.mem_cons, List.not_mem_nil, or_false] at hu
  rcases hu with rfl | rfl | rfl | rfl | rfl | rfl | rfl | rfl <;> rfl

set_option maxRecDepth 100000 in
set_option maxHeartbeats 4000000 in
theorem texprs_step {n : Nat} (hE : TExprC n) : TExsC n := by
  intro l a c w hsz hlc hcm hlm hat
  have hrow := Ex.ats_iff.1 hat
  clear hat
  have HL := Lib.hid hlm
  have hlen : l.length ≤ 9223372036854775807 := by unfold LM at hlm; omega
  unfold MX at hcm
  obtain ⟨i0, hi, hz0, hz1, hz2⟩ := info_parts info_expr
  go_enter Tryz.func40, Tryz.ntmps40
  go_wp2_with fail
  go_loopg [3, 4] l.length (fun gk v i wr => ∃ (k : Nat) (ds : List EA), gk + k = l.length ∧ i = .int .i64 k ∧ TxHead w l wr k v ds)
  case atStart => exact ⟨0, [], by omega, rfl, ⟨by (repeat (first | with_reducible exact Below.refl _ _ | with_reducible assumption | with_reducible refine balloc ?_ _ | with_reducible refine bset ?_ (by first | (simp; done) | (simp; omega) | omega) _ | with_reducible refine bdrewN ?_ _ | with_reducible refine Below.drew ?_ | with_reducible refine thru (by assumption) ?_)), Gath.nil⟩⟩
  case round =>
    obtain ⟨k, ds, hkk, rfl, hh⟩ := hrel
    obtain ⟨v, rfl⟩ : ∃ v : Value, v = u3 := ⟨_, rfl⟩
    have hbw := hh.below
    have HH := Lib.hid hh; clear hh
    have HK := Lib.hid hkk; clear hkk
    by_cases hlt : k < l.length
    · obtain ⟨y, hy⟩ : ∃ y, l[k]? = some y := ⟨_, List.getElem?_eq_getElem hlt⟩
      obtain ⟨ab, ao, h1, h2⟩ := hrow
      obtain ⟨rfl, -, hlb⟩ := h1 (by intro h0; rw [h0] at hlt; simp at hlt)
      obtain ⟨cs, hr, dy, rfl, haty⟩ := h2 k y hy
      have hr' := (keep_below hbw : Keep AllB w wr).range trivial hlb hr
      have c0 := hr' 0 _ rfl; have c1 := hr' 1 _ rfl; have c2 := hr' 2 _ rfl; have c3 := hr' 3 _ rfl; have c4 := hr' 4 _ rfl; have c5 := hr' 5 _ rfl; have c6 := hr' 6 _ rfl; have c7 := hr' 7 _ rfl
      simp only [Nat.add_zero] at c0
      have HAY := Lib.hid (haty.keep (keep_below hbw) (fun _ h => h))
      have hysz : y.sz ≤ n := hsz y (List.mem_of_getElem? hy)
      have HY := Lib.hid hy; clear hy
      have HTL := Lib.hid (take_len (f := foldE) (l := l) (k := k) (by omega))
      obtain ⟨X, hX⟩ : ∃ X, X = (((l.take k).map foldE).zip ds).flatMap fun p => Ex.cells p.1 p.2 := ⟨_, rfl⟩
      have HX := Lib.hid hX; clear hX
      clear h1 h2 hr hr' haty hsz
      go_wp2_with (first | (go_at_call 14; go_loud (refine (hE y dy _ hysz (HAY.out.keep (keep_below (by (repeat (first | with_reducible exact Below.refl _ _ | with_reducible assumption | with_reducible refine balloc ?_ _ | with_reducible refine bset ?_ (by first | (simp; done) | (simp; omega) | omega) _ | with_reducible refine bdrewN ?_ _ | with_reducible refine Below.drew ?_ | with_reducible refine thru (by assumption) ?_)))) (fun _ h => h))).mono ?_; rintro e w3 ⟨d', rfl, hat', hb⟩; have HAT := Lib.hid hat'; have hb3 := Lib.hid hb; have HO := Lib.hid (show w3.ownsRow w.heap.size 27 8 v k X by have h9 := (HH.out.gath.below exA_lies hb).own; rw [HTL.out, ← HX.out] at h9; exact h9))) | (at_builtin; go_loud (refine wpList_append_keep _ rfl _ _ 24 rfl w.heap.size 27 i0 (.agg #[.int .i64 0, .int .i64 0, .int .i64 0, .int .i64 0, .int .i64 0, .string ⟨#[]⟩, .slice none 0 0, .slice none 0 0]) 8 104 Tryz.underlying24 hi hz0 hz1 hz2 rfl (by decide) _ _ _ rfl (HO.out.alloc _) ⟨w3.heap.size, 0, none⟩ 1 1 ((foldE y).cells d') rfl rfl ?c1 ?c2 (by decide) ?c3 ?c4 ?c5 ?_)))
      case c1 => intro j u hu; exact new_adds (cs := #[.int .i64 ((foldE y)).kind, .int .i64 ((foldE y)).op, .int .i64 ((foldE y)).line, .int .i64 ((foldE y)).p, .int .i64 ((foldE y)).q, .string ((foldE y)).str, .slice (d').a ((foldE y)).args.length (d').c, .slice (d').fa ((foldE y)).funcs.length (d').fc]) rfl j u hu
      case c2 => exact Ex.cells_one _ _
      case c3 => have h9 := HL.out; unfold LM at h9; unfold maxLen; omega
      case c4 => have h9 := HL.out; unfold LM at h9; omega
      case c5 => have h9 := hbw.size; have h8 := hb3.out.size; simp; omega
      intro v' w4 hown hgrow hat4
      have HO4 := Lib.hid hown; clear hown
      have HG4 := Lib.hid hgrow; clear hgrow
      have HA4 := Lib.hid hat4; clear hat4
      go_wp2_with fail
      go_roundg (gk - 1)
      case rel =>
        refine ⟨k + 1, ds ++ [d'], by have := HK.out; omega, by go_num, ⟨?_, ?_⟩⟩
        · exact Below.grown (balloc (thru hb3.out hbw) _) HG4.out (by have h9 := hbw.size; have h8 := hb3.out.size; simp; omega) (fun k hk => (HH.out.gath.own.lt k hk).1)
        · rw [take_next HY.out]
          exact HH.out.gath.app exA_lies hb3.out HAT.out hbw.size HTL.out HX.out HO4.out HG4.out HA4.out
      case measure => have := HK.out; omega
    · have hke : k = l.length := by have := HK.out; omega
      have HKE := Lib.hid hke; clear hke
      have hg := HH.out.gath
      rw [HKE.out, List.take_length] at hg
      obtain ⟨a', c', hv, hc1, hc2, hrw⟩ := hg.rows exA_lies (fun _ _ => rfl)
      rw [List.length_map] at hv hc1
      subst hv
      have HRW := Lib.hid hrw; clear hrw hg
      go_wp2_with fail
      go_ret
      exact ⟨_, _, rfl, hc1, by unfold maxLen at hc2; unfold MX; exact hc2, Ex.ats_iff.2 HRW.out, hbw⟩
end Go.Proofs.YtpjbdoiaiafhnaaGreatDoor
