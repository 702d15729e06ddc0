/-
  WALKS: lowest terms (the program's lowest and the reference's l2Low). Conditions: sizes up to 8000000000000000000, a bottom from 1 on.
-/
import Derived.Test.YtanodgboimjmoaaWb
namespace Go.Proofs.Ytanodgboimjmoaa
open Go.RowKit
open PL

theorem bcell {W w1 : World} (hb : Below W.heap.size W w1) : (∀ b o, b < W.heap.size → w1.cell? ⟨b, o, none⟩ = W.cell? ⟨b, o, none⟩) ∧ (∀ b o, b < W.heap.size → w1.frozen? ⟨b, o, none⟩ = W.frozen? ⟨b, o, none⟩) :=
  ⟨fun b o h => hb.cell (p := ⟨b, o, none⟩) h, fun b o h => hb.frozen (p := ⟨b, o, none⟩) h⟩

theorem ret_fb {r s : Fr × Bool} (h : r = s) : Ending.returned (.tuple #[.agg #[.int .i64 r.1.re, .int .i64 r.1.im, .int .i64 r.1.den], .bool r.2]) = .returned (.tuple #[.agg #[.int .i64 s.1.re, .int .i64 s.1.im, .int .i64 s.1.den], .bool s.2]) := by rw [h]

/-- A block of three cells, written out: what they hold, and that they may be written. -/
def C3 (w : World) (k : Nat) (x y z : Value) : Prop :=
  w.cell? ⟨k, 0, none⟩ = some x ∧ w.cell? ⟨k, 1, none⟩ = some y ∧ w.cell? ⟨k, 2, none⟩ = some z ∧ w.frozen? ⟨k, 0, none⟩ = false ∧ w.frozen? ⟨k, 1, none⟩ = false ∧ w.frozen? ⟨k, 2, none⟩ = false
theorem C3.below {W w1 : World} {k : Nat} {x y z : Value} (hb : Below W.heap.size W w1) (hk : k < W.heap.size) (h : C3 W k x y z) : C3 w1 k x y z := by
  obtain ⟨h0, h1, h2, h3, h4, h5⟩ := h
  obtain ⟨hc, hf⟩ := bcell hb
  exact ⟨(hc _ _ hk).trans h0, (hc _ _ hk).trans h1, (hc _ _ hk).trans h2, (hf _ _ hk).trans h3, (hf _ _ hk).trans h4, (hf _ _ hk).trans h5⟩
theorem C3.new {w : World} {k : Nat} {x y z : Value} {t : TypeId} (hk : k = w.heap.size) : C3 (w.alloc (.cells #[x, y, z] t)) k x y z := by
  subst hk
  refine ⟨?_, ?_, ?_, ?_, ?_, ?_⟩ <;> simp
theorem C3.alloc {w : World} {k : Nat} {x y z : Value} (h : C3 w k x y z) (hk : k < w.heap.size) (o : Obj) : C3 (w.alloc o) k x y z :=
  C3.below ((Below.refl _ _).alloc (Nat.le_refl _) _) hk h
theorem C3.drewN {w : World} {k : Nat} {x y z : Value} (h : C3 w k x y z) (n : Nat) : C3 (w.drewN n) k x y z := h
theorem C3.drew {w : World} {k : Nat} {x y z : Value} (h : C3 w k x y z) : C3 w.drew k x y z := h

theorem into {B : Nat} {w W w1 : World} (h : Below B w W) (hb : Below W.heap.size W w1) (hB : B ≤ W.heap.size) : Below B w w1 := h.trans (hb.mono hB)

end Go.Proofs.Ytanodgboimjmoaa
