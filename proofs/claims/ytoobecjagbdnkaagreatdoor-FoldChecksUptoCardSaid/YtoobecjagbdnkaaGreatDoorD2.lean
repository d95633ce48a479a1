/- Trees in memory: the blocks that they lie in may be told more narrowly. -/
import Derived.Test.YtoobecjagbdnkaaGreatDoorD1
namespace Go.Proofs.YtoobecjagbdnkaaGreatDoor
open Go.RowKit
set_option linter.unusedVariables false
set_option linter.unusedSimpArgs false
theorem Rows.mono {α : Type} {F G : Nat → Prop} {w : World} {sz : Nat} {R R' : α → List Value → Prop} {l : List α} {a : Option Addr} (h : Rows F w sz R l a) (hG : ∀ k, F k → k < w.heap.size → G k) (hR : ∀ x cs, x ∈ l → R x cs → R' x cs) : Rows G w sz R' l a := by
  obtain ⟨b, off, h1, h2⟩ := h
  exact ⟨b, off, fun hl => ⟨(h1 hl).1, hG b (h1 hl).2.1 (h1 hl).2.2, (h1 hl).2.2⟩, fun i x hx => by obtain ⟨cs, hc, hr⟩ := h2 i x hx; exact ⟨cs, hc, hR x cs (List.mem_of_getElem? hx) hr⟩⟩
section
variable {F G : Nat → Prop} {w : World}
mutual
theorem Ex.At.mono (hG : ∀ k, F k → k < w.heap.size → G k) : ∀ {x : Ex} {d : EA}, x.At F w d → x.At G w d
  | .mk k o l p q s args funcs, d, h => ⟨h.1, h.2.1, Ex.Ats.mono hG h.2.2.1, Fn.Ats.mono hG h.2.2.2⟩
theorem Ex.Ats.mono (hG : ∀ k, F k → k < w.heap.size → G k) : ∀ {l : List Ex} {a : Option Addr}, Ex.Ats F w l a → Ex.Ats G w l a
  | [], _, _ => trivial
  | x :: r, a, ⟨b, off, d, h1, h2, h3, h4, h5, h6⟩ => ⟨b, off, d, h1, hG b h2 h3, h3, h4, Ex.At.mono hG h5, Ex.Ats.mono hG h6⟩
theorem Fn.At.mono (hG : ∀ k, F k → k < w.heap.size → G k) : ∀ {x : Fn} {d : FA}, x.At F w d → x.At G w d
  | .mk n ps v body l, d, h => ⟨h.1, h.2.1, h.2.2.1.mono hG fun _ _ _ h => h, St.Ats.mono hG h.2.2.2⟩
theorem Fn.Ats.mono (hG : ∀ k, F k → k < w.heap.size → G k) : ∀ {l : List Fn} {a : Option Addr}, Fn.Ats F w l a → Fn.Ats G w l a
  | [], _, _ => trivial
  | x :: r, a, ⟨b, off, d, h1, h2, h3, h4, h5, h6⟩ => ⟨b, off, d, h1, hG b h2 h3, h3, h4, Fn.At.mono hG h5, Fn.Ats.mono hG h6⟩
theorem St.At.mono (hG : ∀ k, F k → k < w.heap.size → G k) : ∀ {x : St} {d : SA}, x.At F w d → x.At G w d
  | .mk k l ns left right blocks lab, d, h => ⟨h.1, h.2.1, h.2.2.1.mono hG fun _ _ _ h => h, Ex.Ats.mono hG h.2.2.2.1, Ex.Ats.mono hG h.2.2.2.2.1, St.Atss.mono hG h.2.2.2.2.2⟩
theorem St.Ats.mono (hG : ∀ k, F k → k < w.heap.size → G k) : ∀ {l : List St} {a : Option Addr}, St.Ats F w l a → St.Ats G w l a
  | [], _, _ => trivial
  | x :: r, a, ⟨b, off, d, h1, h2, h3, h4, h5, h6⟩ => ⟨b, off, d, h1, hG b h2 h3, h3, h4, St.At.mono hG h5, St.Ats.mono hG h6⟩
theorem St.Atss.mono (hG : ∀ k, F k → k < w.heap.size → G k) : ∀ {l : List (List St)} {a : Option Addr}, St.Atss F w l a → St.Atss G w l a
  | [], _, _ => trivial
  | x :: r, a, ⟨b, off, a', c', h1, h2, h3, h4, h4', h5, h6⟩ => ⟨b, off, a', c', h1, hG b h2 h3, h3, h4, h4', St.Ats.mono hG h5, St.Atss.mono hG h6⟩
end
end
end Go.Proofs.YtoobecjagbdnkaaGreatDoor
