/-
  WALKS: the reference's functions on vectors, the program's JonesCross, the laws' own toJones and eqJones. No condition.
-/
import Derived.Test.YtcgckmjahfcfeaaDoorWg
import Derived.Test.YtcgckmjahfcfeaaDoorWi
import Derived.Test.YtcgckmjahfcfeaaDoorWe
namespace Go.Proofs.YtcgckmjahfcfeaaDoor
open Go.RowKit
open PL

set_option maxHeartbeats 1000000 in
theorem toJones_any (a1 a2 a3 a4 a5 a6 : Int) (w : World) :
    Calls Tryd.prog 6 #[.agg #[.int .i64 a1, .int .i64 a2, .int .i64 a3, .int .i64 a4, .int .i64 a5, .int .i64 a6]] w fun e w' => e = .returned (.agg #[.int .i64 a1, .int .i64 a2, .int .i64 a3, .int .i64 a4, .int .i64 a5, .int .i64 a6]) ∧ Below w.heap.size w w' ∧ w'.heap.size = w.heap.size + 9 := by
  go_enter Tryd.func6, Tryd.ntmps6
  go_wp2_with fail
  refine (toFrac_any _ _ _ _).mono ?_
  rintro e w1 ⟨rfl, hb1, hz1⟩
  have T1 : TL w [(w.heap.size + 1 + 1, [.int .i64 0, .int .i64 0, .int .i64 0, .int .i64 0, .int .i64 0, .int .i64 0]), (w.heap.size + 1, [.int .i64 0, .int .i64 0, .int .i64 0, .int .i64 0, .int .i64 0, .int .i64 0]), (w.heap.size, [.int .i64 a1, .int .i64 a2, .int .i64 a3, .int .i64 a4, .int .i64 a5, .int .i64 a6])] w1 := TL.below (TL.new (t := 29) (TL.new (t := 29) (TL.new (t := 25) (TL.refl w) rfl) (by simp)) (by simp)) hb1
  have B1 := T1.1.1
  simp only [World.size_alloc] at hz1
  have Z1 := Lib.hid hz1
  clear hb1 hz1
  have x100 : w1.cell? ⟨w.heap.size + 1 + 1, 0, none⟩ = some (.int .i64 0) := T1.2.1.2.1.1
  have x101 : w1.cell? ⟨w.heap.size + 1 + 1, 1, none⟩ = some (.int .i64 0) := T1.2.1.2.2.1.1
  have x102 : w1.cell? ⟨w.heap.size + 1 + 1, 2, none⟩ = some (.int .i64 0) := T1.2.1.2.2.2.1.1
  have x103 : w1.cell? ⟨w.heap.size + 1 + 1, 3, none⟩ = some (.int .i64 0) := T1.2.1.2.2.2.2.1.1
  have x104 : w1.cell? ⟨w.heap.size + 1 + 1, 4, none⟩ = some (.int .i64 0) := T1.2.1.2.2.2.2.2.1.1
  have x105 : w1.cell? ⟨w.heap.size + 1 + 1, 5, none⟩ = some (.int .i64 0) := T1.2.1.2.2.2.2.2.2.1.1
  have x110 : w1.cell? ⟨w.heap.size + 1, 0, none⟩ = some (.int .i64 0) := T1.2.2.1.2.1.1
  have x111 : w1.cell? ⟨w.heap.size + 1, 1, none⟩ = some (.int .i64 0) := T1.2.2.1.2.2.1.1
  have x112 : w1.cell? ⟨w.heap.size + 1, 2, none⟩ = some (.int .i64 0) := T1.2.2.1.2.2.2.1.1
  have x113 : w1.cell? ⟨w.heap.size + 1, 3, none⟩ = some (.int .i64 0) := T1.2.2.1.2.2.2.2.1.1
  have x114 : w1.cell? ⟨w.heap.size + 1, 4, none⟩ = some (.int .i64 0) := T1.2.2.1.2.2.2.2.2.1.1
  have x115 : w1.cell? ⟨w.heap.size + 1, 5, none⟩ = some (.int .i64 0) := T1.2.2.1.2.2.2.2.2.2.1.1
  have x120 : w1.cell? ⟨w.heap.size, 0, none⟩ = some (.int .i64 a1) := T1.2.2.2.1.2.1.1
  have x121 : w1.cell? ⟨w.heap.size, 1, none⟩ = some (.int .i64 a2) := T1.2.2.2.1.2.2.1.1
  have x122 : w1.cell? ⟨w.heap.size, 2, none⟩ = some (.int .i64 a3) := T1.2.2.2.1.2.2.2.1.1
  have x123 : w1.cell? ⟨w.heap.size, 3, none⟩ = some (.int .i64 a4) := T1.2.2.2.1.2.2.2.2.1.1
  have x124 : w1.cell? ⟨w.heap.size, 4, none⟩ = some (.int .i64 a5) := T1.2.2.2.1.2.2.2.2.2.1.1
  have x125 : w1.cell? ⟨w.heap.size, 5, none⟩ = some (.int .i64 a6) := T1.2.2.2.1.2.2.2.2.2.2.1.1
  have f10 : w1.frozen? ⟨w.heap.size + 1 + 1, 0, none⟩ = false := T1.2.1.2.1.2
  have f11 : w1.frozen? ⟨w.heap.size + 1 + 1, 1, none⟩ = false := T1.2.1.2.2.1.2
  have f12 : w1.frozen? ⟨w.heap.size + 1 + 1, 2, none⟩ = false := T1.2.1.2.2.2.1.2
  have f13 : w1.frozen? ⟨w.heap.size + 1 + 1, 3, none⟩ = false := T1.2.1.2.2.2.2.1.2
  have f14 : w1.frozen? ⟨w.heap.size + 1 + 1, 4, none⟩ = false := T1.2.1.2.2.2.2.2.1.2
  have f15 : w1.frozen? ⟨w.heap.size + 1 + 1, 5, none⟩ = false := T1.2.1.2.2.2.2.2.2.1.2
  have g10 : w1.frozen? ⟨w.heap.size + 1, 0, none⟩ = false := T1.2.2.1.2.1.2
  have g11 : w1.frozen? ⟨w.heap.size + 1, 1, none⟩ = false := T1.2.2.1.2.2.1.2
  have g12 : w1.frozen? ⟨w.heap.size + 1, 2, none⟩ = false := T1.2.2.1.2.2.2.1.2
  have g13 : w1.frozen? ⟨w.heap.size + 1, 3, none⟩ = false := T1.2.2.1.2.2.2.2.1.2
  have g14 : w1.frozen? ⟨w.heap.size + 1, 4, none⟩ = false := T1.2.2.1.2.2.2.2.2.1.2
  have g15 : w1.frozen? ⟨w.heap.size + 1, 5, none⟩ = false := T1.2.2.1.2.2.2.2.2.2.1.2
  have l10 := T1.2.1.1
  have l11 := T1.2.2.1.1
  have l12 := T1.2.2.2.1.1
  go_wp2_with fail
  refine (toFrac_any _ _ _ _).mono ?_
  rintro e w2 ⟨rfl, hb2, hz2⟩
  have hs2 : w2.heap.size = w.heap.size + 9 := by rw [hz2]; simp only [World.size_setCell]; have := Z1.out; omega
  have Z2 := Lib.hid hs2
  have hlt : w.heap.size + 1 + 1 < w1.heap.size := by have := Z1.out; omega
  have c2 : CB w2 (w.heap.size + 1 + 1) 0 [.int .i64 a1, .int .i64 a2, .int .i64 a3, .int .i64 0, .int .i64 0, .int .i64 0] := by
    refine CB.below hb2 (by simp only [World.size_setCell]; exact hlt) ⟨⟨?_, ?_⟩, ⟨?_, ?_⟩, ⟨?_, ?_⟩, ⟨?_, ?_⟩, ⟨?_, ?_⟩, ⟨?_, ?_⟩, trivial⟩ <;> simp [*, go_sem]
  have c3 : CB w2 (w.heap.size + 1) 0 [.int .i64 0, .int .i64 0, .int .i64 0, .int .i64 0, .int .i64 0, .int .i64 0] := by
    refine CB.below hb2 (by simp only [World.size_setCell]; omega) ⟨⟨?_, ?_⟩, ⟨?_, ?_⟩, ⟨?_, ?_⟩, ⟨?_, ?_⟩, ⟨?_, ?_⟩, ⟨?_, ?_⟩, trivial⟩ <;> simp [*, go_sem]
  have B2 : Below w.heap.size w w2 := into (by go_grown) hb2 (by simp only [World.size_setCell]; omega)
  clear hb2 hz2 hs2
  have y0 : w2.cell? ⟨w.heap.size + 1 + 1, 0, none⟩ = _ := c2.1.1
  have z0 : w2.frozen? ⟨w.heap.size + 1 + 1, 0, none⟩ = _ := c2.1.2
  have u0 : w2.cell? ⟨w.heap.size + 1, 0, none⟩ = _ := c3.1.1
  have v0 : w2.frozen? ⟨w.heap.size + 1, 0, none⟩ = _ := c3.1.2
  have y1 : w2.cell? ⟨w.heap.size + 1 + 1, 1, none⟩ = _ := c2.2.1.1
  have z1 : w2.frozen? ⟨w.heap.size + 1 + 1, 1, none⟩ = _ := c2.2.1.2
  have u1 : w2.cell? ⟨w.heap.size + 1, 1, none⟩ = _ := c3.2.1.1
  have v1 : w2.frozen? ⟨w.heap.size + 1, 1, none⟩ = _ := c3.2.1.2
  have y2 : w2.cell? ⟨w.heap.size + 1 + 1, 2, none⟩ = _ := c2.2.2.1.1
  have z2 : w2.frozen? ⟨w.heap.size + 1 + 1, 2, none⟩ = _ := c2.2.2.1.2
  have u2 : w2.cell? ⟨w.heap.size + 1, 2, none⟩ = _ := c3.2.2.1.1
  have v2 : w2.frozen? ⟨w.heap.size + 1, 2, none⟩ = _ := c3.2.2.1.2
  have y3 : w2.cell? ⟨w.heap.size + 1 + 1, 3, none⟩ = _ := c2.2.2.2.1.1
  have z3 : w2.frozen? ⟨w.heap.size + 1 + 1, 3, none⟩ = _ := c2.2.2.2.1.2
  have u3 : w2.cell? ⟨w.heap.size + 1, 3, none⟩ = _ := c3.2.2.2.1.1
  have v3 : w2.frozen? ⟨w.heap.size + 1, 3, none⟩ = _ := c3.2.2.2.1.2
  have y4 : w2.cell? ⟨w.heap.size + 1 + 1, 4, none⟩ = _ := c2.2.2.2.2.1.1
  have z4 : w2.frozen? ⟨w.heap.size + 1 + 1, 4, none⟩ = _ := c2.2.2.2.2.1.2
  have u4 : w2.cell? ⟨w.heap.size + 1, 4, none⟩ = _ := c3.2.2.2.2.1.1
  have v4 : w2.frozen? ⟨w.heap.size + 1, 4, none⟩ = _ := c3.2.2.2.2.1.2
  have y5 : w2.cell? ⟨w.heap.size + 1 + 1, 5, none⟩ = _ := c2.2.2.2.2.2.1.1
  have z5 : w2.frozen? ⟨w.heap.size + 1 + 1, 5, none⟩ = _ := c2.2.2.2.2.2.1.2
  have u5 : w2.cell? ⟨w.heap.size + 1, 5, none⟩ = _ := c3.2.2.2.2.2.1.1
  have v5 : w2.frozen? ⟨w.heap.size + 1, 5, none⟩ = _ := c3.2.2.2.2.2.1.2
  go_wp2_with fail
  refine bodyPost_ret (by simp [results, Tryd.results6, go_sem, u0, u1, u2, u3, u4, u5]; rfl) rfl ?_
  exact ⟨rfl, by go_grown, by simp only [World.size_setCell]; exact Z2.out⟩

end Go.Proofs.YtcgckmjahfcfeaaDoor
