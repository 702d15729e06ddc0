/-
  THE DRAWS of fractions: some integers. Condition: the bytes that came in.
-/
import Derived.Test.YtanodgboimjmoaaWr
import Derived.Deep.QuietTactic
namespace Go.Proofs.Ytanodgboimjmoaa
open Go.RowKit
open PL

theorem drawn {g K : Nat} {w w1 w2 : World} (hb : Below w.heap.size w w1) (R : RD w.heap.size g K w1) (X : Bex g w1 w2) : Below w.heap.size w w2 := hb.trans (X.below R.1 hb.size)

theorem BytesIn.below {w W : World} {a : Option Addr} {len cap : Nat} (h : BytesIn w a len cap) (hb : Below w.heap.size w W) : BytesIn W a len cap := by
  rcases h with h | ⟨b, off, e, h1, h2, h3, h4⟩
  · exact .inl h
  · exact .inr ⟨b, off, e, h1, h2, Nat.lt_of_lt_of_le h3 hb.size, fun i hi => by obtain ⟨x, x0, x1, hc⟩ := h4 i hi; exact ⟨x, x0, x1, (hb.cell (p := ⟨b, off + i, none⟩) h3).trans hc⟩⟩

theorem TL.bexR {w W w1 : World} {l : List (Nat × List Value)} {g : Nat} (h : TL w l W) (hb : Bex g W w1) (hg : w.heap.size ≤ g) (hl : ∀ x ∈ l, x.1 ≠ g) : TL w l w1 :=
  ⟨⟨h.1.1.trans (hb.below hg h.1.2), Nat.le_trans h.1.2 hb.size⟩, BL.bex hb h.2 hl⟩

theorem TL.farR {w W : World} {l : List (Nat × List Value)} {g : Nat} {x y z : Value} (h : TL w l W) (hg : w.heap.size ≤ g) (hl : ∀ b ∈ l, b.1 ≠ g) :
    TL w l (((W.setCell ⟨g, 0, none⟩ x).setCell ⟨g, 1, none⟩ y).setCell ⟨g, 2, none⟩ z) := TL.set (TL.set (TL.set h hg hl) hg hl) hg hl

end Go.Proofs.Ytanodgboimjmoaa
