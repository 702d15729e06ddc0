/-
  PIECES for the walk of the program's JonesAlike. No condition.
-/
import Derived.Test.YtlhbpjdokkelpaaDoorWt
import Derived.Test.YtlhbpjdokkelpaaDoorWk
import Derived.Deep.RegionWith
import Derived.Test.YtlhbpjdokkelpaaDoorPf
namespace Go.Proofs.YtlhbpjdokkelpaaDoor
open Go.RowKit
open PL

/-- s.times with the product's parts named. -/
theorem s_times_at (k : Nat) (a1 a2 a3 c1 c2 c3 p q d : Int) (o b : Bool) (w : World) (H : Hid (times ⟨a1, a2, a3⟩ ⟨c1, c2, c3⟩ = (⟨p, q, d⟩, o))) (hS : SB w k b) :
    Calls Tryd.prog 26 #[.pointer (some ⟨k, 0, none⟩), .agg #[.int .i64 a1, .int .i64 a2, .int .i64 a3], .agg #[.int .i64 c1, .int .i64 c2, .int .i64 c3]] w fun e w' =>
      e = .returned (.agg #[.int .i64 p, .int .i64 q, .int .i64 d]) ∧ Bex k w w' ∧ SB w' k (b || !o) := by
  have h := s_times k a1 a2 a3 c1 c2 c3 b w hS
  have e := H.out
  simp only [e] at h
  exact h
theorem SB.drewA {w : World} {k : Nat} {b : Bool} (h : SB w k b) : SB w.drew k b := SB.below h (Below.drew (Below.refl _ _))
theorem bexcell {k : Nat} {W w1 : World} (hb : Bex k W w1) : (∀ b o, b < W.heap.size → ¬ b = k → w1.cell? ⟨b, o, none⟩ = W.cell? ⟨b, o, none⟩) ∧ (∀ b o, b < W.heap.size → ¬ b = k → w1.frozen? ⟨b, o, none⟩ = W.frozen? ⟨b, o, none⟩) :=
  ⟨fun _ _ h1 h2 => hb.cell h1 h2, fun _ _ h1 h2 => hb.frozen h1 h2⟩
theorem bexlt {k : Nat} {W w1 : World} (hb : Bex k W w1) : ∀ n, n < W.heap.size → n < w1.heap.size := fun _ hn => Nat.lt_of_lt_of_le hn hb.size
theorem bexne {k : Nat} {W w1 : World} (hb : Bex k W w1) : (∀ n, n < W.heap.size → (n = w1.heap.size) = False) ∧ (∀ n, n < W.heap.size → (w1.heap.size = n) = False) ∧ (∀ n, n < W.heap.size → (n = w1.heap.size + 1) = False) ∧ (∀ n, n < W.heap.size → (w1.heap.size + 1 = n) = False) := by
  have hz := hb.size
  refine ⟨?_, ?_, ?_, ?_⟩ <;> intro n hn <;> simp <;> omega
theorem TL.farA {w W : World} {l : List (Nat × List Value)} {g : Nat} {x y z : Value} (h : TL w l W) (hg : w.heap.size ≤ g) (hl : ∀ b ∈ l, b.1 ≠ g) :
    TL w l (((W.setCell ⟨g, 0, none⟩ x).setCell ⟨g, 1, none⟩ y).setCell ⟨g, 2, none⟩ z) := TL.set (TL.set (TL.set h hg hl) hg hl) hg hl
theorem SB.far3 {w : World} {k g : Nat} {b : Bool} {x y z : Value} (h : SB w k b) (hg : k ≠ g) : SB (((w.setCell ⟨g, 0, none⟩ x).setCell ⟨g, 1, none⟩ y).setCell ⟨g, 2, none⟩ z) k b := SB.far (SB.far (SB.far h hg) hg) hg
theorem CB.far3 {W : World} {k g : Nat} {x y z : Value} (hk : k ≠ g) {vs : List Value} (h : CB W k 0 vs) : CB (((W.setCell ⟨g, 0, none⟩ x).setCell ⟨g, 1, none⟩ y).setCell ⟨g, 2, none⟩ z) k 0 vs := CB.far hk (CB.far hk (CB.far hk h))
theorem CB.alloc {W : World} {k : Nat} {o : Obj} {vs : List Value} (hk : k < W.heap.size) (h : CB W k 0 vs) : CB (W.alloc o) k 0 vs := CB.below ((Below.refl _ _).alloc (Nat.le_refl _) _) hk h
theorem fin2 {w W0 Wn : World} {gp gq k : Nat} {l : List (Nat × List Value)} {x1 x2 x3 y1 y2 y3 : Value} {f : Bool} (hT0 : TL w l W0) (hTn : TL w l Wn) (hk : k < W0.heap.size) (hp : W0.heap.size ≤ gp) (hq : W0.heap.size ≤ gq) (hpq : gp ≠ gq)
    (hps : gp < Wn.heap.size) (hqs : gq < Wn.heap.size) (cp : CB Wn gp 0 [.int .i64 0, .int .i64 0, .int .i64 0]) (cq : CB Wn gq 0 [.int .i64 0, .int .i64 0, .int .i64 0]) (hS : SB Wn k f) :
    gp ≠ gq ∧ (gp ≠ k ∧ gq ≠ k) ∧ TL w ((gq, [y1, y2, y3]) :: (gp, [x1, x2, x3]) :: l) ((((((Wn.setCell ⟨gp, 0, none⟩ x1).setCell ⟨gp, 1, none⟩ x2).setCell ⟨gp, 2, none⟩ x3).setCell ⟨gq, 0, none⟩ y1).setCell ⟨gq, 1, none⟩ y2).setCell ⟨gq, 2, none⟩ y3) ∧
      SB ((((((Wn.setCell ⟨gp, 0, none⟩ x1).setCell ⟨gp, 1, none⟩ x2).setCell ⟨gp, 2, none⟩ x3).setCell ⟨gq, 0, none⟩ y1).setCell ⟨gq, 1, none⟩ y2).setCell ⟨gq, 2, none⟩ y3) k f := by
  have hw := hT0.1.2
  refine ⟨hpq, ⟨by omega, by omega⟩, TL.set3 (TL.set3 hTn (by omega) (TL.ne hT0 hp) hps cp) (by omega) ?_ (by simpa using hqs) (CB.far3 (Ne.symm hpq) cq), SB.far3 (SB.far3 hS (by omega)) (by omega)⟩
  intro b hb
  rcases List.mem_cons.1 hb with rfl | hb
  · exact hpq
  · exact TL.ne hT0 hq b hb
theorem ZC.tl {w W : World} {l : List (Nat × List Value)} (h : ZC w) (hT : TL w l W) : ZC W := ZC.below h hT.1.1
theorem CB.drewA {W : World} {k : Nat} {vs : List Value} (h : CB W k 0 vs) : CB W.drew k 0 vs := by
  induction vs generalizing W with
  | nil => trivial
  | cons _ _ _ => exact CB.below (Below.drew (Below.refl _ _)) (World.block_lt_of_cell? _ _ h.1.1) h

end Go.Proofs.YtlhbpjdokkelpaaDoor
