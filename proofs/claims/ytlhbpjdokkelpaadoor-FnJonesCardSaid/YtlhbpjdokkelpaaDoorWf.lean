/-
  WHAT STANDS THROUGH A LAW: a list of blocks, what their cells hold, and that nothing old has turned. Plain lemmas on worlds; no condition beyond the hypotheses.
-/
import Derived.Test.YtlhbpjdokkelpaaDoorWc
import Derived.Deep.RegionHeld3
import Derived.Deep.DeepCutAuto
namespace Go.Proofs.YtlhbpjdokkelpaaDoor
open Go.RowKit
open PL

/-- From offset i on block k holds these values, and may be written. -/
def CB (w : World) (k : Nat) : Nat → List Value → Prop
  | _, [] => True
  | i, v :: vs => (w.cell? ⟨k, i, none⟩ = some v ∧ w.frozen? ⟨k, i, none⟩ = false) ∧ CB w k (i + 1) vs

def BL (W : World) : List (Nat × List Value) → Prop
  | [] => True
  | x :: l => (x.1 < W.heap.size ∧ CB W x.1 0 x.2) ∧ BL W l

def TL (w : World) (l : List (Nat × List Value)) (W : World) : Prop := (Below w.heap.size w W ∧ w.heap.size ≤ W.heap.size) ∧ BL W l

theorem CB.below {W w1 : World} {k : Nat} (hb : Below W.heap.size W w1) (hk : k < W.heap.size) : ∀ {vs : List Value} {i : Nat}, CB W k i vs → CB w1 k i vs
  | [], _, _ => trivial
  | _ :: _, i, h => ⟨⟨(hb.cell (p := ⟨k, i, none⟩) hk).trans h.1.1, (hb.frozen (p := ⟨k, i, none⟩) hk).trans h.1.2⟩, CB.below hb hk h.2⟩
theorem BL.below {W w1 : World} (hb : Below W.heap.size W w1) : ∀ {l : List (Nat × List Value)}, BL W l → BL w1 l
  | [], _ => trivial
  | _ :: _, h => ⟨⟨Nat.lt_of_lt_of_le h.1.1 hb.size, CB.below hb h.1.1 h.1.2⟩, BL.below hb h.2⟩
theorem TL.below {w W w1 : World} {l : List (Nat × List Value)} (h : TL w l W) (hb : Below W.heap.size W w1) : TL w l w1 :=
  ⟨⟨into h.1.1 hb h.1.2, Nat.le_trans h.1.2 hb.size⟩, BL.below hb h.2⟩
theorem TL.alloc {w W : World} {l : List (Nat × List Value)} (h : TL w l W) (o : Obj) : TL w l (W.alloc o) := TL.below h ((Below.refl _ _).alloc (Nat.le_refl _) _)
theorem TL.drew {w W : World} {l : List (Nat × List Value)} (h : TL w l W) : TL w l W.drew := TL.below h (Below.drew (Below.refl _ _))
theorem TL.drewN {w W : World} {l : List (Nat × List Value)} (h : TL w l W) (n : Nat) : TL w l (W.drewN n) := TL.below h (below_drewN (Below.refl _ _) n)
theorem TL.refl (w : World) : TL w [] w := ⟨⟨Below.refl _ _, Nat.le_refl _⟩, trivial⟩
theorem TL.cons {w W : World} {l : List (Nat × List Value)} {g : Nat} {vs : List Value} (h : TL w l W) (hg : g < W.heap.size) (hc : CB W g 0 vs) : TL w ((g, vs) :: l) W := ⟨h.1, ⟨hg, hc⟩, h.2⟩

theorem CB.new_go {w : World} {t : TypeId} {xs : List Value} : ∀ (i : Nat), i ≤ xs.length → CB (w.alloc (.cells xs.toArray t)) w.heap.size i (xs.drop i) := by
  intro i hi
  generalize hn : xs.length - i = n
  induction n generalizing i with
  | zero =>
    have : xs.drop i = [] := List.drop_eq_nil_of_le (by omega)
    rw [this]; trivial
  | succ n ih =>
    have hlt : i < xs.length := by omega
    rw [List.drop_eq_getElem_cons hlt]
    refine ⟨⟨?_, ?_⟩, ih (i + 1) (by omega) (by omega)⟩
    · simp [hlt]
    · simp
theorem CB.new {w : World} {k : Nat} {t : TypeId} {xs : List Value} (hk : k = w.heap.size) : CB (w.alloc (.cells xs.toArray t)) k 0 xs := by
  subst hk; exact CB.new_go 0 (Nat.zero_le _)
theorem TL.new {w W : World} {l : List (Nat × List Value)} {g : Nat} {t : TypeId} {xs : List Value} (h : TL w l W) (hg : g = W.heap.size) : TL w ((g, xs) :: l) (W.alloc (.cells xs.toArray t)) :=
  TL.cons (TL.alloc h _) (by subst hg; simp) (CB.new hg)

theorem CB.far {W : World} {k g o : Nat} {u : Value} (hk : k ≠ g) : ∀ {vs : List Value} {i : Nat}, CB W k i vs → CB (W.setCell ⟨g, o, none⟩ u) k i vs
  | [], _, _ => trivial
  | _ :: _, _, h => ⟨⟨by rw [← h.1.1]; exact World.cell?_of_block (Below.heap_setCell _ _ _ _ hk), by rw [World.frozen?_setCell]; exact h.1.2⟩, CB.far hk h.2⟩
theorem BL.far {W : World} {g o : Nat} {u : Value} : ∀ {l : List (Nat × List Value)}, BL W l → (∀ x ∈ l, x.1 ≠ g) → BL (W.setCell ⟨g, o, none⟩ u) l
  | [], _, _ => trivial
  | x :: _, h, hg => ⟨⟨(show x.1 < (W.setCell ⟨g, o, none⟩ u).heap.size by rw [World.size_setCell]; exact h.1.1), CB.far (hg x (by simp)) h.1.2⟩, BL.far h.2 (fun y hy => hg y (by simp [hy]))⟩
theorem TL.set {w W : World} {l : List (Nat × List Value)} {g o : Nat} {u : Value} (h : TL w l W) (hg : w.heap.size ≤ g) (hl : ∀ x ∈ l, x.1 ≠ g) : TL w l (W.setCell ⟨g, o, none⟩ u) :=
  ⟨⟨Below.setCell h.1.1 (p := ⟨g, o, none⟩) hg u, (show w.heap.size ≤ (W.setCell ⟨g, o, none⟩ u).heap.size by rw [World.size_setCell]; exact h.1.2)⟩, BL.far h.2 hl⟩

/-- A block of three cells, written anew. -/
theorem CB.set3 {W : World} {k : Nat} {x y z x' y' z' : Value} (h : CB W k 0 [x, y, z]) : CB (((W.setCell ⟨k, 0, none⟩ x').setCell ⟨k, 1, none⟩ y').setCell ⟨k, 2, none⟩ z') k 0 [x', y', z'] := by
  obtain ⟨⟨h0, h1⟩, ⟨h2, h3⟩, ⟨h4, h5⟩, _⟩ := h
  simp only [Nat.zero_add, Nat.reduceAdd] at h2 h3 h4 h5
  refine ⟨⟨?_, ?_⟩, ⟨?_, ?_⟩, ⟨?_, ?_⟩, trivial⟩ <;> simp [*, go_sem]
theorem TL.set3 {w W : World} {l : List (Nat × List Value)} {g : Nat} {x y z x' y' z' : Value} (h : TL w l W) (hg : w.heap.size ≤ g) (hl : ∀ b ∈ l, b.1 ≠ g) (hs : g < W.heap.size) (hc : CB W g 0 [x, y, z]) :
    TL w ((g, [x', y', z']) :: l) (((W.setCell ⟨g, 0, none⟩ x').setCell ⟨g, 1, none⟩ y').setCell ⟨g, 2, none⟩ z') :=
  TL.cons (TL.set (TL.set (TL.set h hg hl) hg hl) hg hl) (by simp; exact hs) (CB.set3 hc)

/-- A block of six cells, written anew. -/
theorem CB.set6 {W : World} {k : Nat} {x0 x1 x2 x3 x4 x5 x0' x1' x2' x3' x4' x5' : Value} (h : CB W k 0 [x0, x1, x2, x3, x4, x5]) : CB ((((((W.setCell ⟨k, 0, none⟩ x0').setCell ⟨k, 1, none⟩ x1').setCell ⟨k, 2, none⟩ x2').setCell ⟨k, 3, none⟩ x3').setCell ⟨k, 4, none⟩ x4').setCell ⟨k, 5, none⟩ x5') k 0 [x0', x1', x2', x3', x4', x5'] := by
  obtain ⟨⟨h0, g0⟩, ⟨h1, g1⟩, ⟨h2, g2⟩, ⟨h3, g3⟩, ⟨h4, g4⟩, ⟨h5, g5⟩, _⟩ := h
  simp only [Nat.zero_add, Nat.reduceAdd] at h1 g1 h2 g2 h3 g3 h4 g4 h5 g5
  refine ⟨⟨?_, ?_⟩, ⟨?_, ?_⟩, ⟨?_, ?_⟩, ⟨?_, ?_⟩, ⟨?_, ?_⟩, ⟨?_, ?_⟩, trivial⟩ <;> simp [*, go_sem]
theorem TL.set6 {w W : World} {l : List (Nat × List Value)} {g : Nat} {x0 x1 x2 x3 x4 x5 x0' x1' x2' x3' x4' x5' : Value} (h : TL w l W) (hg : w.heap.size ≤ g) (hl : ∀ b ∈ l, b.1 ≠ g) (hs : g < W.heap.size) (hc : CB W g 0 [x0, x1, x2, x3, x4, x5]) :
    TL w ((g, [x0', x1', x2', x3', x4', x5']) :: l) ((((((W.setCell ⟨g, 0, none⟩ x0').setCell ⟨g, 1, none⟩ x1').setCell ⟨g, 2, none⟩ x2').setCell ⟨g, 3, none⟩ x3').setCell ⟨g, 4, none⟩ x4').setCell ⟨g, 5, none⟩ x5') :=
  TL.cons (TL.set (TL.set (TL.set (TL.set (TL.set (TL.set h hg hl) hg hl) hg hl) hg hl) hg hl) hg hl) (by simp; exact hs) (CB.set6 hc)

/-- Every block of the list lies below the heap's end. -/
theorem BL.lt {W : World} : ∀ {l : List (Nat × List Value)}, BL W l → ∀ x ∈ l, x.1 < W.heap.size
  | [], _, _, hx => by cases hx
  | _ :: _, h, x, hx => by
    rcases List.mem_cons.1 hx with rfl | hx
    · exact h.1.1
    · exact BL.lt h.2 x hx
theorem TL.ne {w W : World} {l : List (Nat × List Value)} {g : Nat} (h : TL w l W) (hg : W.heap.size ≤ g) : ∀ x ∈ l, x.1 ≠ g := fun x hx => by have := BL.lt h.2 x hx; omega

end Go.Proofs.YtlhbpjdokkelpaaDoor
