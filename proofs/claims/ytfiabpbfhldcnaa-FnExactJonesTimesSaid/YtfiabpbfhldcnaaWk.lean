/-
  WALKS: the reference's functions on vectors, the program's JonesCross, the laws' own toJones and eqJones. No condition.
-/
import Derived.Test.YtfiabpbfhldcnaaWg
import Derived.Test.YtfiabpbfhldcnaaWi
import Derived.Test.YtfiabpbfhldcnaaWe
namespace Go.Proofs.Ytfiabpbfhldcnaa
open Go.RowKit
open PL

set_option maxHeartbeats 1000000 in
theorem toJones_any (a1 a2 a3 a4 a5 a6 : Int) (w : World) :
    Calls Try.prog 9 #[.agg #[.int .i64 a1, .int .i64 a2, .int .i64 a3, .int .i64 a4, .int .i64 a5, .int .i64 a6]] w fun e w' => e = .returned (.agg #[.int .i64 a1, .int .i64 a2, .int .i64 a3, .int .i64 a4, .int .i64 a5, .int .i64 a6]) ∧ Below w.heap.size w w' ∧ w'.heap.size = w.heap.size + 9 := by
  go_enter Try.func9, Try.ntmps9
  go_wp2_with fail
  refine (toFrac_any _ _ _ _).mono ?_
  rintro e w1 ⟨rfl, hb1, hz1⟩
  have T1 : TL w [(w.heap.size + 1 + 1, [.int .i64 0, .int .i64 0, .int .i64 0, .int .i64 0, .int .i64 0, .int .i64 0]), (w.heap.size + 1, [.int .i64 0, .int .i64 0, .int .i64 0, .int .i64 0, .int .i64 0, .int .i64 0]), (w.heap.size, [.int .i64 a1, .int .i64 a2, .int .i64 a3, .int .i64 a4, .int .i64 a5, .int .i64 a6])] w1 := TL.below (TL.new (t := 29) (TL.new (t := 29) (TL.new (t := 25) (TL.refl w) rfl) (by simp)) (by simp)) hb1
  have B1 := T1.1.1
  simp only [World.size_alloc] at hz1
  have Z1 := Lib.hid hz1
  clear hb1 hz1
  have x100 : w1.cell? ⟨w.heap.size + 1 + 1, 0, none⟩ = some (.int .i64 0) := T1.2.1.2.1.1
  have x101 : w1.cell? ⟨w.heap.size + 1 + 1, 1, none⟩ = some (.int .i64 0) := T1.2.1.2.2.1.1
  have x102 : w1.cell? ⟨w.heap.size + 1 + 1, 2, none⟩ = some (.int .i64 0) := T1.2.1.2.2.2.1.1
  have x103 : w1.cell? ⟨w.heap.size + 1 + 1, 3, none⟩ = some (.int .i64 0) := T1.2.1.2.2.2.2.1.1
  have x104 : w1.cell? ⟨w.heap.size + 1 + 1, 4, none⟩ = some (.int .i64 0) := T1.2.1.2.2.2.2.2.1.1
  have x105 : w1.cell? ⟨w.heap.size + 1 + 1, 5, none⟩ = some (.int .i64 0) := T1.2.1.2.2.2.2.2.2.1.1
  have x110 : w1.cell? ⟨w.heap.size + 1, 0, none⟩ = some (.int .i64 0) := T1.2.2.1.2.1.1
  have x111 : w1.cell? ⟨w.heap.size + 1, 1, none⟩ = some (.int .i64 0) := T1.2.2.1.2.2.1.1
  have x112 : w1.cell? ⟨w.heap.size + 1, 2, none⟩ = some (.int .i64 0) := T1.2.2.1.2.2.2.1.1
  have x113 : w1.cell? ⟨w.heap.size + 1, 3, none⟩ = some (.int .i64 0) := T1.2.2.1.2.2.2.2.1.1
  have x114 : w1.cell? ⟨w.heap.size + 1, 4, none⟩ = some (.int .i64 0) := T1.2.2.1.2.2.2.2.2.1.1
  have x115 : w1.cell? ⟨w.heap.size + 1, 5, none⟩ = some (.int .i64 0) := T1.2.2.1.2.2.2.2.2.2.1.1
  have x120 : w1.cell? ⟨w.heap.size, 0, none⟩ = some (.int .i64 a1) := T1.2.2.2.1.2.1.1
  have x121 : w1.cell? ⟨w.heap.size, 1, none⟩ = some (.int .i64 a2) := T1.2.2.2.1.2.2.1.1
  have x122 : w1.cell? ⟨w.heap.size, 2, none⟩ = some (.int .i64 a3) := T1.2.2.2.1.2.2.2.1.1
  have x123 : w1.cell? ⟨w.heap.size, 3, none⟩ = some (.int .i64 a4) := T1.2.2.2.1.2.2.2.2.1.1
  have x124 : w1.cell? ⟨w.heap.size, 4, none⟩ = some (.int .i64 a5) := T1.2.2.2.1.2.2.2.2.2.1.1
  have x125 : w1.cell? ⟨w.heap.size, 5, none⟩ = some (.int .i64 a6) := T1.2.2.2.1.2.2.2.2.2.2.1.1
  have f10 : w1.frozen? ⟨w.heap.size + 1 + 1, 0, none⟩ = false := T1.2.1.2.1.2
  have f11 : w1.frozen? ⟨w.heap.size + 1 + 1, 1, none⟩ = false := T1.2.1.2.2.1.2
  have f12 : w1.frozen? ⟨w.heap.size + 1 + 1, 2, none⟩ = false := T1.2.1.2.2.2.1.2
  have f13 : w1.frozen? ⟨w.heap.size + 1 + 1, 3, none⟩ = false := T1.2.1.2.2.2.2.1.2
  have f14 : w1.frozen? ⟨w.heap.size + 1 + 1, 4, none⟩ = false := T1.2.1.2.2.2.2.2.1.2
  have f15 : w1.frozen? ⟨w.heap.size + 1 + 1, 5, none⟩ = false := T1.2.1.2.2.2.2.2.2.1.2
  have g10 : w1.frozen? ⟨w.heap.size + 1, 0, none⟩ = false := T1.2.2.1.2.1.2
  have g11 : w1.frozen? ⟨w.heap.size + 1, 1, none⟩ = false := T1.2.2.1.2.2.1.2
  have g12 : w1.frozen? ⟨w.heap.size + 1, 2, none⟩ = false := T1.2.2.1.2.2.2.1.2
  have g13 : w1.frozen? ⟨w.heap.size + 1, 3, none⟩ = false := T1.2.2.1.2.2.2.2.1.2
  have g14 : w1.frozen? ⟨w.heap.size + 1, 4, none⟩ = false := T1.2.2.1.2.2.2.2.2.1.2
  have g15 : w1.frozen? ⟨w.heap.size + 1, 5, none⟩ = false := T1.2.2.1.2.2.2.2.2.2.1.2
  have l10 := T1.2.1.1
  have l11 := T1.2.2.1.1
  have l12 := T1.2.2.2.1.1
  go_wp2_with fail
  refine (toFrac_any _ _ _ _).mono ?_
  rintro e w2 ⟨rfl, hb2, hz2⟩
  have hs2 : w2.heap.size = w.heap.size + 9 := by rw [hz2]; simp only [World.size_setCell]; have := Z1.out; omega
  have Z2 := Lib.hid hs2
  have hlt : w.heap.size + 1 + 1 < w1.heap.size := by have := Z1.out; omega
  have c2 : CB w2 (w.heap.size + 1 + 1) 0 [.int .i64 a1, .int .i64 a2, .int .i64 a3, .int .i64 0, .int .i64 0, .int .i64 0] := by
    refine CB.below hb2 (by simp only [World.size_setCell]; exact hlt) ⟨⟨?_, ?_⟩, ⟨?_, ?_⟩, ⟨?_, ?_⟩, ⟨?_, ?_⟩, ⟨?_, ?_⟩, ⟨?_, ?_⟩, trivial⟩ <;> simp [*, go_sem]
  have c3 : CB w2 (w.heap.size + 1) 0 [.int .i64 0, .int .i64 0, .int .i64 0, .int .i64 0, .int .i64 0, .int .i64 0] := by
    refine CB.below hb2 (by simp only [World.size_setCell]; omega) ⟨⟨?_, ?_⟩, ⟨?_, ?_⟩, ⟨?_, ?_⟩, ⟨?_, ?_⟩, ⟨?_, ?_⟩, ⟨?_, ?_⟩, trivial⟩ <;> simp [*, go_sem]
  have B2 : Below w.heap.size w w2 := into (by go_grown) hb2 (by simp only [World.size_setCell]; omega)
  clear hb2 hz2 hs2
  have y0 : w2.cell? ⟨w.heap.size + 1 + 1, 0, none⟩ = _ := c2.1.1
  have z0 : w2.frozen? ⟨w.heap.size + 1 + 1, 0, none⟩ = _ := c2.1.2
  have u0 : w2.cell? ⟨w.heap.size + 1, 0, none⟩ = _ := c3.1.1
  have v0 : w2.frozen? ⟨w.heap.size + 1, 0, none⟩ = _ := c3.1.2
  have y1 : w2.cell? ⟨w.heap.size + 1 + 1, 1, none⟩ = _ := c2.2.1.1
  have z1 : w2.frozen? ⟨w.heap.size + 1 + 1, 1, none⟩ = _ := c2.2.1.2
  have u1 : w2.cell? ⟨w.heap.size + 1, 1, none⟩ = _ := c3.2.1.1
  have v1 : w2.frozen? ⟨w.heap.size + 1, 1, none⟩ = _ := c3.2.1.2
  have y2 : w2.cell? ⟨w.heap.size + 1 + 1, 2, none⟩ = _ := c2.2.2.1.1
  have z2 : w2.frozen? ⟨w.heap.size + 1 + 1, 2, none⟩ = _ := c2.2.2.1.2
  have u2 : w2.cell? ⟨w.heap.size + 1, 2, none⟩ = _ := c3.2.2.1.1
  have v2 : w2.frozen? ⟨w.heap.size + 1, 2, none⟩ = _ := c3.2.2.1.2
  have y3 : w2.cell? ⟨w.heap.size + 1 + 1, 3, none⟩ = _ := c2.2.2.2.1.1
  have z3 : w2.frozen? ⟨w.heap.size + 1 + 1, 3, none⟩ = _ := c2.2.2.2.1.2
  have u3 : w2.cell? ⟨w.heap.size + 1, 3, none⟩ = _ := c3.2.2.2.1.1
  have v3 : w2.frozen? ⟨w.heap.size + 1, 3, none⟩ = _ := c3.2.2.2.1.2
  have y4 : w2.cell? ⟨w.heap.size + 1 + 1, 4, none⟩ = _ := c2.2.2.2.2.1.1
  have z4 : w2.frozen? ⟨w.heap.size + 1 + 1, 4, none⟩ = _ := c2.2.2.2.2.1.2
  have u4 : w2.cell? ⟨w.heap.size + 1, 4, none⟩ = _ := c3.2.2.2.2.1.1
  have v4 : w2.frozen? ⟨w.heap.size + 1, 4, none⟩ = _ := c3.2.2.2.2.1.2
  have y5 : w2.cell? ⟨w.heap.size + 1 + 1, 5, none⟩ = _ := c2.2.2.2.2.2.1.1
  have z5 : w2.frozen? ⟨w.heap.size + 1 + 1, 5, none⟩ = _ := c2.2.2.2.2.2.1.2
  have u5 : w2.cell? ⟨w.heap.size + 1, 5, none⟩ = _ := c3.2.2.2.2.2.1.1
  have v5 : w2.frozen? ⟨w.heap.size + 1, 5, none⟩ = _ := c3.2.2.2.2.2.1.2
  go_wp2_with fail
  refine bodyPost_ret (by simp [results, Try.results9, go_sem, u0, u1, u2, u3, u4, u5]; rfl) rfl ?_
  exact ⟨rfl, by go_grown, by simp only [World.size_setCell]; exact Z2.out⟩

set_option maxHeartbeats 1000000 in
theorem eqJones_yes (a1 a2 a3 a4 a5 a6 : Int) (w : World) :
    Calls Try.prog 13 #[.agg #[.int .i64 a1, .int .i64 a2, .int .i64 a3, .int .i64 a4, .int .i64 a5, .int .i64 a6], .agg #[.int .i64 a1, .int .i64 a2, .int .i64 a3, .int .i64 a4, .int .i64 a5, .int .i64 a6]] w fun e w' => e = .returned (.bool true) ∧ Below w.heap.size w w' := by
  go_enter Try.func13, Try.ntmps13
  go_wp2_with fail
  refine (eqFrac_yes _ _ _ _).mono ?_
  rintro e w1 ⟨rfl, hbw1⟩
  have Tw1 : TL w [(w.heap.size + 1, [.int .i64 a1, .int .i64 a2, .int .i64 a3, .int .i64 a4, .int .i64 a5, .int .i64 a6]), (w.heap.size, [.int .i64 a1, .int .i64 a2, .int .i64 a3, .int .i64 a4, .int .i64 a5, .int .i64 a6])] w1 := TL.below (TL.new (t := 29) (TL.new (t := 29) (TL.refl w) rfl) (by simp)) hbw1
  clear hbw1
  have Bw1 := Tw1.1.1
  have xw100 : w1.cell? ⟨w.heap.size + 1, 0, none⟩ = some (.int .i64 a1) := Tw1.2.1.2.1.1
  have xw101 : w1.cell? ⟨w.heap.size + 1, 1, none⟩ = some (.int .i64 a2) := Tw1.2.1.2.2.1.1
  have xw102 : w1.cell? ⟨w.heap.size + 1, 2, none⟩ = some (.int .i64 a3) := Tw1.2.1.2.2.2.1.1
  have xw103 : w1.cell? ⟨w.heap.size + 1, 3, none⟩ = some (.int .i64 a4) := Tw1.2.1.2.2.2.2.1.1
  have xw104 : w1.cell? ⟨w.heap.size + 1, 4, none⟩ = some (.int .i64 a5) := Tw1.2.1.2.2.2.2.2.1.1
  have xw105 : w1.cell? ⟨w.heap.size + 1, 5, none⟩ = some (.int .i64 a6) := Tw1.2.1.2.2.2.2.2.2.1.1
  have xw110 : w1.cell? ⟨w.heap.size, 0, none⟩ = some (.int .i64 a1) := Tw1.2.2.1.2.1.1
  have xw111 : w1.cell? ⟨w.heap.size, 1, none⟩ = some (.int .i64 a2) := Tw1.2.2.1.2.2.1.1
  have xw112 : w1.cell? ⟨w.heap.size, 2, none⟩ = some (.int .i64 a3) := Tw1.2.2.1.2.2.2.1.1
  have xw113 : w1.cell? ⟨w.heap.size, 3, none⟩ = some (.int .i64 a4) := Tw1.2.2.1.2.2.2.2.1.1
  have xw114 : w1.cell? ⟨w.heap.size, 4, none⟩ = some (.int .i64 a5) := Tw1.2.2.1.2.2.2.2.2.1.1
  have xw115 : w1.cell? ⟨w.heap.size, 5, none⟩ = some (.int .i64 a6) := Tw1.2.2.1.2.2.2.2.2.2.1.1
  have lw10 := Tw1.2.1.1
  have lw11 := Tw1.2.2.1.1
  go_wp2_with fail
  refine (eqFrac_yes _ _ _ _).mono ?_
  rintro e w2 ⟨rfl, hb2⟩
  go_wp2_with fail
  go_ret
  exact ⟨rfl, into Bw1 hb2 (by have := Tw1.1.2; omega)⟩

set_option maxHeartbeats 4000000 in
theorem jcross_any (a1 a2 a3 a4 a5 a6 p1 p2 p3 p4 p5 p6 : Int) (b : Bool) (w : World) (H : Hid (jcross ⟨a1, a2, a3⟩ ⟨a4, a5, a6⟩ = ((⟨p1, p2, p3⟩, ⟨p4, p5, p6⟩), b))) :
    Calls Try.prog 20 #[.agg #[.int .i64 a1, .int .i64 a2, .int .i64 a3, .int .i64 a4, .int .i64 a5, .int .i64 a6]] w fun e w' =>
      e = .returned (.tuple #[.agg #[.int .i64 p1, .int .i64 p2, .int .i64 p3, .int .i64 p4, .int .i64 p5, .int .i64 p6], .bool b]) ∧ Below w.heap.size w w' := by
  by_cases hx : valid ⟨a1, a2, a3⟩ = true
  · by_cases hy : valid ⟨a4, a5, a6⟩ = true
    · have HL : Hid (((⟨-a4, a5, a6⟩, ⟨a1, -a2, a3⟩), true) = (((⟨p1, p2, p3⟩, ⟨p4, p5, p6⟩), b) : (Fr × Fr) × Bool)) := by have h := H.out; unfold jcross at h; rw [hx, hy] at h; exact h
      have HV : Hid ((valid ⟨a1, a2, a3⟩ && valid ⟨a4, a5, a6⟩) = true) := by unfold Hid; rw [hx, hy]; rfl
      obtain ⟨a1l, a1r, a2l, a2r, a3l, a3r, -⟩ := valid_iff.1 hx
      obtain ⟨a4l, a4r, a5l, a5r, a6l, a6r, -⟩ := valid_iff.1 hy
      simp only at a1l a1r a2l a2r a3l a3r a4l a4r a5l a5r a6l a6r
      clear H hx hy
      go_enter Try.func20, Try.ntmps20
      go_wp2_with fail
      refine (jvalid_any _ _ _ _ _ _ true _ HV).mono ?_
      rintro e w1 ⟨rfl, hbw1⟩
      have Tw1 : TL w [(w.heap.size + 1, [.int .i64 0, .int .i64 0, .int .i64 0, .int .i64 0, .int .i64 0, .int .i64 0]), (w.heap.size, [.int .i64 a1, .int .i64 a2, .int .i64 a3, .int .i64 a4, .int .i64 a5, .int .i64 a6])] w1 := TL.below (TL.new (t := 29) (TL.new (t := 29) (TL.refl w) rfl) (by simp)) hbw1
      clear hbw1
      have Bw1 := Tw1.1.1
      have xw100 : w1.cell? ⟨w.heap.size + 1, 0, none⟩ = some (.int .i64 0) := Tw1.2.1.2.1.1
      have xw101 : w1.cell? ⟨w.heap.size + 1, 1, none⟩ = some (.int .i64 0) := Tw1.2.1.2.2.1.1
      have xw102 : w1.cell? ⟨w.heap.size + 1, 2, none⟩ = some (.int .i64 0) := Tw1.2.1.2.2.2.1.1
      have xw103 : w1.cell? ⟨w.heap.size + 1, 3, none⟩ = some (.int .i64 0) := Tw1.2.1.2.2.2.2.1.1
      have xw104 : w1.cell? ⟨w.heap.size + 1, 4, none⟩ = some (.int .i64 0) := Tw1.2.1.2.2.2.2.2.1.1
      have xw105 : w1.cell? ⟨w.heap.size + 1, 5, none⟩ = some (.int .i64 0) := Tw1.2.1.2.2.2.2.2.2.1.1
      have xw110 : w1.cell? ⟨w.heap.size, 0, none⟩ = some (.int .i64 a1) := Tw1.2.2.1.2.1.1
      have xw111 : w1.cell? ⟨w.heap.size, 1, none⟩ = some (.int .i64 a2) := Tw1.2.2.1.2.2.1.1
      have xw112 : w1.cell? ⟨w.heap.size, 2, none⟩ = some (.int .i64 a3) := Tw1.2.2.1.2.2.2.1.1
      have xw113 : w1.cell? ⟨w.heap.size, 3, none⟩ = some (.int .i64 a4) := Tw1.2.2.1.2.2.2.2.1.1
      have xw114 : w1.cell? ⟨w.heap.size, 4, none⟩ = some (.int .i64 a5) := Tw1.2.2.1.2.2.2.2.2.1.1
      have xw115 : w1.cell? ⟨w.heap.size, 5, none⟩ = some (.int .i64 a6) := Tw1.2.2.1.2.2.2.2.2.2.1.1
      have lw10 := Tw1.2.1.1
      have lw11 := Tw1.2.2.1.1
      have fw10 : w1.frozen? ⟨w.heap.size + 1, 0, none⟩ = false := Tw1.2.1.2.1.2
      have fw11 : w1.frozen? ⟨w.heap.size + 1, 1, none⟩ = false := Tw1.2.1.2.2.1.2
      have fw12 : w1.frozen? ⟨w.heap.size + 1, 2, none⟩ = false := Tw1.2.1.2.2.2.1.2
      have fw13 : w1.frozen? ⟨w.heap.size + 1, 3, none⟩ = false := Tw1.2.1.2.2.2.2.1.2
      have fw14 : w1.frozen? ⟨w.heap.size + 1, 4, none⟩ = false := Tw1.2.1.2.2.2.2.2.1.2
      have fw15 : w1.frozen? ⟨w.heap.size + 1, 5, none⟩ = false := Tw1.2.1.2.2.2.2.2.2.1.2
      go_wp2_with fail
      refine bodyPost_ret (by simp [results, Try.results20, go_sem, xw100, xw101, xw102, xw103, xw104, xw105]; rfl) rfl ?_
      exact ⟨ret_jb HL.out, by go_grown⟩
    · have hy' : valid ⟨a4, a5, a6⟩ = false := by simpa using hy
      have HL : Hid (((nil, nil), false) = (((⟨p1, p2, p3⟩, ⟨p4, p5, p6⟩), b) : (Fr × Fr) × Bool)) := by have h := H.out; unfold jcross at h; rw [hx, hy'] at h; exact h
      have HV : Hid ((valid ⟨a1, a2, a3⟩ && valid ⟨a4, a5, a6⟩) = false) := by unfold Hid; rw [hx, hy']; rfl
      clear H hx hy hy'
      go_enter Try.func20, Try.ntmps20
      go_wp2_with fail
      refine (jvalid_any _ _ _ _ _ _ false _ HV).mono ?_
      rintro e w1 ⟨rfl, hbw1⟩
      have Tw1 : TL w [(w.heap.size + 1, [.int .i64 0, .int .i64 0, .int .i64 0, .int .i64 0, .int .i64 0, .int .i64 0]), (w.heap.size, [.int .i64 a1, .int .i64 a2, .int .i64 a3, .int .i64 a4, .int .i64 a5, .int .i64 a6])] w1 := TL.below (TL.new (t := 29) (TL.new (t := 29) (TL.refl w) rfl) (by simp)) hbw1
      clear hbw1
      have Bw1 := Tw1.1.1
      have xw100 : w1.cell? ⟨w.heap.size + 1, 0, none⟩ = some (.int .i64 0) := Tw1.2.1.2.1.1
      have xw101 : w1.cell? ⟨w.heap.size + 1, 1, none⟩ = some (.int .i64 0) := Tw1.2.1.2.2.1.1
      have xw102 : w1.cell? ⟨w.heap.size + 1, 2, none⟩ = some (.int .i64 0) := Tw1.2.1.2.2.2.1.1
      have xw103 : w1.cell? ⟨w.heap.size + 1, 3, none⟩ = some (.int .i64 0) := Tw1.2.1.2.2.2.2.1.1
      have xw104 : w1.cell? ⟨w.heap.size + 1, 4, none⟩ = some (.int .i64 0) := Tw1.2.1.2.2.2.2.2.1.1
      have xw105 : w1.cell? ⟨w.heap.size + 1, 5, none⟩ = some (.int .i64 0) := Tw1.2.1.2.2.2.2.2.2.1.1
      have xw110 : w1.cell? ⟨w.heap.size, 0, none⟩ = some (.int .i64 a1) := Tw1.2.2.1.2.1.1
      have xw111 : w1.cell? ⟨w.heap.size, 1, none⟩ = some (.int .i64 a2) := Tw1.2.2.1.2.2.1.1
      have xw112 : w1.cell? ⟨w.heap.size, 2, none⟩ = some (.int .i64 a3) := Tw1.2.2.1.2.2.2.1.1
      have xw113 : w1.cell? ⟨w.heap.size, 3, none⟩ = some (.int .i64 a4) := Tw1.2.2.1.2.2.2.2.1.1
      have xw114 : w1.cell? ⟨w.heap.size, 4, none⟩ = some (.int .i64 a5) := Tw1.2.2.1.2.2.2.2.2.1.1
      have xw115 : w1.cell? ⟨w.heap.size, 5, none⟩ = some (.int .i64 a6) := Tw1.2.2.1.2.2.2.2.2.2.1.1
      have lw10 := Tw1.2.1.1
      have lw11 := Tw1.2.2.1.1
      have fw10 : w1.frozen? ⟨w.heap.size + 1, 0, none⟩ = false := Tw1.2.1.2.1.2
      have fw11 : w1.frozen? ⟨w.heap.size + 1, 1, none⟩ = false := Tw1.2.1.2.2.1.2
      have fw12 : w1.frozen? ⟨w.heap.size + 1, 2, none⟩ = false := Tw1.2.1.2.2.2.1.2
      have fw13 : w1.frozen? ⟨w.heap.size + 1, 3, none⟩ = false := Tw1.2.1.2.2.2.2.1.2
      have fw14 : w1.frozen? ⟨w.heap.size + 1, 4, none⟩ = false := Tw1.2.1.2.2.2.2.2.1.2
      have fw15 : w1.frozen? ⟨w.heap.size + 1, 5, none⟩ = false := Tw1.2.1.2.2.2.2.2.2.1.2
      go_wp2_with fail
      refine bodyPost_ret (by simp [results, Try.results20, go_sem, xw100, xw101, xw102, xw103, xw104, xw105]; rfl) rfl ?_
      exact ⟨ret_jb HL.out, by go_grown⟩
  · by_cases hy : valid ⟨a4, a5, a6⟩ = true
    · have hx' : valid ⟨a1, a2, a3⟩ = false := by simpa using hx
      have HL : Hid (((nil, nil), false) = (((⟨p1, p2, p3⟩, ⟨p4, p5, p6⟩), b) : (Fr × Fr) × Bool)) := by have h := H.out; unfold jcross at h; rw [hx', hy] at h; exact h
      have HV : Hid ((valid ⟨a1, a2, a3⟩ && valid ⟨a4, a5, a6⟩) = false) := by unfold Hid; rw [hx', hy]; rfl
      clear H hx hy hx'
      go_enter Try.func20, Try.ntmps20
      go_wp2_with fail
      refine (jvalid_any _ _ _ _ _ _ false _ HV).mono ?_
      rintro e w1 ⟨rfl, hbw1⟩
      have Tw1 : TL w [(w.heap.size + 1, [.int .i64 0, .int .i64 0, .int .i64 0, .int .i64 0, .int .i64 0, .int .i64 0]), (w.heap.size, [.int .i64 a1, .int .i64 a2, .int .i64 a3, .int .i64 a4, .int .i64 a5, .int .i64 a6])] w1 := TL.below (TL.new (t := 29) (TL.new (t := 29) (TL.refl w) rfl) (by simp)) hbw1
      clear hbw1
      have Bw1 := Tw1.1.1
      have xw100 : w1.cell? ⟨w.heap.size + 1, 0, none⟩ = some (.int .i64 0) := Tw1.2.1.2.1.1
      have xw101 : w1.cell? ⟨w.heap.size + 1, 1, none⟩ = some (.int .i64 0) := Tw1.2.1.2.2.1.1
      have xw102 : w1.cell? ⟨w.heap.size + 1, 2, none⟩ = some (.int .i64 0) := Tw1.2.1.2.2.2.1.1
      have xw103 : w1.cell? ⟨w.heap.size + 1, 3, none⟩ = some (.int .i64 0) := Tw1.2.1.2.2.2.2.1.1
      have xw104 : w1.cell? ⟨w.heap.size + 1, 4, none⟩ = some (.int .i64 0) := Tw1.2.1.2.2.2.2.2.1.1
      have xw105 : w1.cell? ⟨w.heap.size + 1, 5, none⟩ = some (.int .i64 0) := Tw1.2.1.2.2.2.2.2.2.1.1
      have xw110 : w1.cell? ⟨w.heap.size, 0, none⟩ = some (.int .i64 a1) := Tw1.2.2.1.2.1.1
      have xw111 : w1.cell? ⟨w.heap.size, 1, none⟩ = some (.int .i64 a2) := Tw1.2.2.1.2.2.1.1
      have xw112 : w1.cell? ⟨w.heap.size, 2, none⟩ = some (.int .i64 a3) := Tw1.2.2.1.2.2.2.1.1
      have xw113 : w1.cell? ⟨w.heap.size, 3, none⟩ = some (.int .i64 a4) := Tw1.2.2.1.2.2.2.2.1.1
      have xw114 : w1.cell? ⟨w.heap.size, 4, none⟩ = some (.int .i64 a5) := Tw1.2.2.1.2.2.2.2.2.1.1
      have xw115 : w1.cell? ⟨w.heap.size, 5, none⟩ = some (.int .i64 a6) := Tw1.2.2.1.2.2.2.2.2.2.1.1
      have lw10 := Tw1.2.1.1
      have lw11 := Tw1.2.2.1.1
      have fw10 : w1.frozen? ⟨w.heap.size + 1, 0, none⟩ = false := Tw1.2.1.2.1.2
      have fw11 : w1.frozen? ⟨w.heap.size + 1, 1, none⟩ = false := Tw1.2.1.2.2.1.2
      have fw12 : w1.frozen? ⟨w.heap.size + 1, 2, none⟩ = false := Tw1.2.1.2.2.2.1.2
      have fw13 : w1.frozen? ⟨w.heap.size + 1, 3, none⟩ = false := Tw1.2.1.2.2.2.2.1.2
      have fw14 : w1.frozen? ⟨w.heap.size + 1, 4, none⟩ = false := Tw1.2.1.2.2.2.2.2.1.2
      have fw15 : w1.frozen? ⟨w.heap.size + 1, 5, none⟩ = false := Tw1.2.1.2.2.2.2.2.2.1.2
      go_wp2_with fail
      refine bodyPost_ret (by simp [results, Try.results20, go_sem, xw100, xw101, xw102, xw103, xw104, xw105]; rfl) rfl ?_
      exact ⟨ret_jb HL.out, by go_grown⟩
    · have hx' : valid ⟨a1, a2, a3⟩ = false := by simpa using hx
      have hy' : valid ⟨a4, a5, a6⟩ = false := by simpa using hy
      have HL : Hid (((nil, nil), false) = (((⟨p1, p2, p3⟩, ⟨p4, p5, p6⟩), b) : (Fr × Fr) × Bool)) := by have h := H.out; unfold jcross at h; rw [hx', hy'] at h; exact h
      have HV : Hid ((valid ⟨a1, a2, a3⟩ && valid ⟨a4, a5, a6⟩) = false) := by unfold Hid; rw [hx', hy']; rfl
      clear H hx hy hx' hy'
      go_enter Try.func20, Try.ntmps20
      go_wp2_with fail
      refine (jvalid_any _ _ _ _ _ _ false _ HV).mono ?_
      rintro e w1 ⟨rfl, hbw1⟩
      have Tw1 : TL w [(w.heap.size + 1, [.int .i64 0, .int .i64 0, .int .i64 0, .int .i64 0, .int .i64 0, .int .i64 0]), (w.heap.size, [.int .i64 a1, .int .i64 a2, .int .i64 a3, .int .i64 a4, .int .i64 a5, .int .i64 a6])] w1 := TL.below (TL.new (t := 29) (TL.new (t := 29) (TL.refl w) rfl) (by simp)) hbw1
      clear hbw1
      have Bw1 := Tw1.1.1
      have xw100 : w1.cell? ⟨w.heap.size + 1, 0, none⟩ = some (.int .i64 0) := Tw1.2.1.2.1.1
      have xw101 : w1.cell? ⟨w.heap.size + 1, 1, none⟩ = some (.int .i64 0) := Tw1.2.1.2.2.1.1
      have xw102 : w1.cell? ⟨w.heap.size + 1, 2, none⟩ = some (.int .i64 0) := Tw1.2.1.2.2.2.1.1
      have xw103 : w1.cell? ⟨w.heap.size + 1, 3, none⟩ = some (.int .i64 0) := Tw1.2.1.2.2.2.2.1.1
      have xw104 : w1.cell? ⟨w.heap.size + 1, 4, none⟩ = some (.int .i64 0) := Tw1.2.1.2.2.2.2.2.1.1
      have xw105 : w1.cell? ⟨w.heap.size + 1, 5, none⟩ = some (.int .i64 0) := Tw1.2.1.2.2.2.2.2.2.1.1
      have xw110 : w1.cell? ⟨w.heap.size, 0, none⟩ = some (.int .i64 a1) := Tw1.2.2.1.2.1.1
      have xw111 : w1.cell? ⟨w.heap.size, 1, none⟩ = some (.int .i64 a2) := Tw1.2.2.1.2.2.1.1
      have xw112 : w1.cell? ⟨w.heap.size, 2, none⟩ = some (.int .i64 a3) := Tw1.2.2.1.2.2.2.1.1
      have xw113 : w1.cell? ⟨w.heap.size, 3, none⟩ = some (.int .i64 a4) := Tw1.2.2.1.2.2.2.2.1.1
      have xw114 : w1.cell? ⟨w.heap.size, 4, none⟩ = some (.int .i64 a5) := Tw1.2.2.1.2.2.2.2.2.1.1
      have xw115 : w1.cell? ⟨w.heap.size, 5, none⟩ = some (.int .i64 a6) := Tw1.2.2.1.2.2.2.2.2.2.1.1
      have lw10 := Tw1.2.1.1
      have lw11 := Tw1.2.2.1.1
      have fw10 : w1.frozen? ⟨w.heap.size + 1, 0, none⟩ = false := Tw1.2.1.2.1.2
      have fw11 : w1.frozen? ⟨w.heap.size + 1, 1, none⟩ = false := Tw1.2.1.2.2.1.2
      have fw12 : w1.frozen? ⟨w.heap.size + 1, 2, none⟩ = false := Tw1.2.1.2.2.2.1.2
      have fw13 : w1.frozen? ⟨w.heap.size + 1, 3, none⟩ = false := Tw1.2.1.2.2.2.2.1.2
      have fw14 : w1.frozen? ⟨w.heap.size + 1, 4, none⟩ = false := Tw1.2.1.2.2.2.2.2.1.2
      have fw15 : w1.frozen? ⟨w.heap.size + 1, 5, none⟩ = false := Tw1.2.1.2.2.2.2.2.2.1.2
      go_wp2_with fail
      refine bodyPost_ret (by simp [results, Try.results20, go_sem, xw100, xw101, xw102, xw103, xw104, xw105]; rfl) rfl ?_
      exact ⟨ret_jb HL.out, by go_grown⟩

set_option maxHeartbeats 4000000 in
theorem sjcross_any (a1 a2 a3 a4 a5 a6 p1 p2 p3 p4 p5 p6 : Int) (b : Bool) (w : World) (H : Hid (jcross ⟨a1, a2, a3⟩ ⟨a4, a5, a6⟩ = ((⟨p1, p2, p3⟩, ⟨p4, p5, p6⟩), b))) :
    Calls Try.prog 19 #[.agg #[.int .i64 a1, .int .i64 a2, .int .i64 a3, .int .i64 a4, .int .i64 a5, .int .i64 a6]] w fun e w' =>
      e = .returned (.tuple #[.agg #[.int .i64 p1, .int .i64 p2, .int .i64 p3, .int .i64 p4, .int .i64 p5, .int .i64 p6], .bool b]) ∧ Below w.heap.size w w' := by
  by_cases hx : valid ⟨a1, a2, a3⟩ = true
  · by_cases hy : valid ⟨a4, a5, a6⟩ = true
    · have HL : Hid (((⟨-a4, a5, a6⟩, ⟨a1, -a2, a3⟩), true) = (((⟨p1, p2, p3⟩, ⟨p4, p5, p6⟩), b) : (Fr × Fr) × Bool)) := by have h := H.out; unfold jcross at h; rw [hx, hy] at h; exact h
      have HM1 := Lib.hid (mirror_yes hx)
      have HM2 := Lib.hid (mirror_yes hy)
      obtain ⟨a1l, a1r, a2l, a2r, a3l, a3r, -⟩ := valid_iff.1 hx
      obtain ⟨a4l, a4r, a5l, a5r, a6l, a6r, -⟩ := valid_iff.1 hy
      simp only at a1l a1r a2l a2r a3l a3r a4l a4r a5l a5r a6l a6r
      simp only at HM1 HM2
      clear H hx hy
      go_enter Try.func19, Try.ntmps19
      go_wp2_with fail
      refine (smirror_any _ _ _ a1 (-a2) a3 true _ HM1).mono ?_
      rintro e w1 ⟨rfl, hbw1⟩
      have Tw1 : TL w [(w.heap.size + 1, [.int .i64 0, .int .i64 0, .int .i64 0, .int .i64 0, .int .i64 0, .int .i64 0]), (w.heap.size, [.int .i64 a1, .int .i64 a2, .int .i64 a3, .int .i64 a4, .int .i64 a5, .int .i64 a6])] w1 := TL.below (TL.new (t := 29) (TL.new (t := 29) (TL.refl w) rfl) (by simp)) hbw1
      clear hbw1
      have Bw1 := Tw1.1.1
      have xw100 : w1.cell? ⟨w.heap.size + 1, 0, none⟩ = some (.int .i64 0) := Tw1.2.1.2.1.1
      have xw101 : w1.cell? ⟨w.heap.size + 1, 1, none⟩ = some (.int .i64 0) := Tw1.2.1.2.2.1.1
      have xw102 : w1.cell? ⟨w.heap.size + 1, 2, none⟩ = some (.int .i64 0) := Tw1.2.1.2.2.2.1.1
      have xw103 : w1.cell? ⟨w.heap.size + 1, 3, none⟩ = some (.int .i64 0) := Tw1.2.1.2.2.2.2.1.1
      have xw104 : w1.cell? ⟨w.heap.size + 1, 4, none⟩ = some (.int .i64 0) := Tw1.2.1.2.2.2.2.2.1.1
      have xw105 : w1.cell? ⟨w.heap.size + 1, 5, none⟩ = some (.int .i64 0) := Tw1.2.1.2.2.2.2.2.2.1.1
      have xw110 : w1.cell? ⟨w.heap.size, 0, none⟩ = some (.int .i64 a1) := Tw1.2.2.1.2.1.1
      have xw111 : w1.cell? ⟨w.heap.size, 1, none⟩ = some (.int .i64 a2) := Tw1.2.2.1.2.2.1.1
      have xw112 : w1.cell? ⟨w.heap.size, 2, none⟩ = some (.int .i64 a3) := Tw1.2.2.1.2.2.2.1.1
      have xw113 : w1.cell? ⟨w.heap.size, 3, none⟩ = some (.int .i64 a4) := Tw1.2.2.1.2.2.2.2.1.1
      have xw114 : w1.cell? ⟨w.heap.size, 4, none⟩ = some (.int .i64 a5) := Tw1.2.2.1.2.2.2.2.2.1.1
      have xw115 : w1.cell? ⟨w.heap.size, 5, none⟩ = some (.int .i64 a6) := Tw1.2.2.1.2.2.2.2.2.2.1.1
      have lw10 := Tw1.2.1.1
      have lw11 := Tw1.2.2.1.1
      have fw10 : w1.frozen? ⟨w.heap.size + 1, 0, none⟩ = false := Tw1.2.1.2.1.2
      have fw11 : w1.frozen? ⟨w.heap.size + 1, 1, none⟩ = false := Tw1.2.1.2.2.1.2
      have fw12 : w1.frozen? ⟨w.heap.size + 1, 2, none⟩ = false := Tw1.2.1.2.2.2.1.2
      have fw13 : w1.frozen? ⟨w.heap.size + 1, 3, none⟩ = false := Tw1.2.1.2.2.2.2.1.2
      have fw14 : w1.frozen? ⟨w.heap.size + 1, 4, none⟩ = false := Tw1.2.1.2.2.2.2.2.1.2
      have fw15 : w1.frozen? ⟨w.heap.size + 1, 5, none⟩ = false := Tw1.2.1.2.2.2.2.2.2.1.2
      go_wp2_with fail
      refine (smirror_any _ _ _ a4 (-a5) a6 true _ HM2).mono ?_
      rintro e w2 ⟨rfl, hbw2⟩
      have Tw2 : TL w [(w1.heap.size, [.int .i64 a1, .int .i64 (-a2), .int .i64 a3]), (w.heap.size + 1, [.int .i64 0, .int .i64 0, .int .i64 0, .int .i64 0, .int .i64 0, .int .i64 0]), (w.heap.size, [.int .i64 a1, .int .i64 a2, .int .i64 a3, .int .i64 a4, .int .i64 a5, .int .i64 a6])] w2 := TL.below (TL.new (t := 27) Tw1 rfl) hbw2
      clear hbw2
      have Bw2 := Tw2.1.1
      have xw200 : w2.cell? ⟨w1.heap.size, 0, none⟩ = some (.int .i64 a1) := Tw2.2.1.2.1.1
      have xw201 : w2.cell? ⟨w1.heap.size, 1, none⟩ = some (.int .i64 (-a2)) := Tw2.2.1.2.2.1.1
      have xw202 : w2.cell? ⟨w1.heap.size, 2, none⟩ = some (.int .i64 a3) := Tw2.2.1.2.2.2.1.1
      have xw210 : w2.cell? ⟨w.heap.size + 1, 0, none⟩ = some (.int .i64 0) := Tw2.2.2.1.2.1.1
      have xw211 : w2.cell? ⟨w.heap.size + 1, 1, none⟩ = some (.int .i64 0) := Tw2.2.2.1.2.2.1.1
      have xw212 : w2.cell? ⟨w.heap.size + 1, 2, none⟩ = some (.int .i64 0) := Tw2.2.2.1.2.2.2.1.1
      have xw213 : w2.cell? ⟨w.heap.size + 1, 3, none⟩ = some (.int .i64 0) := Tw2.2.2.1.2.2.2.2.1.1
      have xw214 : w2.cell? ⟨w.heap.size + 1, 4, none⟩ = some (.int .i64 0) := Tw2.2.2.1.2.2.2.2.2.1.1
      have xw215 : w2.cell? ⟨w.heap.size + 1, 5, none⟩ = some (.int .i64 0) := Tw2.2.2.1.2.2.2.2.2.2.1.1
      have xw220 : w2.cell? ⟨w.heap.size, 0, none⟩ = some (.int .i64 a1) := Tw2.2.2.2.1.2.1.1
      have xw221 : w2.cell? ⟨w.heap.size, 1, none⟩ = some (.int .i64 a2) := Tw2.2.2.2.1.2.2.1.1
      have xw222 : w2.cell? ⟨w.heap.size, 2, none⟩ = some (.int .i64 a3) := Tw2.2.2.2.1.2.2.2.1.1
      have xw223 : w2.cell? ⟨w.heap.size, 3, none⟩ = some (.int .i64 a4) := Tw2.2.2.2.1.2.2.2.2.1.1
      have xw224 : w2.cell? ⟨w.heap.size, 4, none⟩ = some (.int .i64 a5) := Tw2.2.2.2.1.2.2.2.2.2.1.1
      have xw225 : w2.cell? ⟨w.heap.size, 5, none⟩ = some (.int .i64 a6) := Tw2.2.2.2.1.2.2.2.2.2.2.1.1
      have lw20 := Tw2.2.1.1
      have lw21 := Tw2.2.2.1.1
      have lw22 := Tw2.2.2.2.1.1
      have fw20 : w2.frozen? ⟨w.heap.size + 1, 0, none⟩ = false := Tw2.2.2.1.2.1.2
      have fw21 : w2.frozen? ⟨w.heap.size + 1, 1, none⟩ = false := Tw2.2.2.1.2.2.1.2
      have fw22 : w2.frozen? ⟨w.heap.size + 1, 2, none⟩ = false := Tw2.2.2.1.2.2.2.1.2
      have fw23 : w2.frozen? ⟨w.heap.size + 1, 3, none⟩ = false := Tw2.2.2.1.2.2.2.2.1.2
      have fw24 : w2.frozen? ⟨w.heap.size + 1, 4, none⟩ = false := Tw2.2.2.1.2.2.2.2.2.1.2
      have fw25 : w2.frozen? ⟨w.heap.size + 1, 5, none⟩ = false := Tw2.2.2.1.2.2.2.2.2.2.1.2
      go_upto_region 3 with fail
      have Tw3 : TL w [(w2.heap.size, [.int .i64 a4, .int .i64 (-a5), .int .i64 a6]), (w1.heap.size, [.int .i64 a1, .int .i64 (-a2), .int .i64 a3]), (w.heap.size + 1, [.int .i64 0, .int .i64 0, .int .i64 0, .int .i64 0, .int .i64 0, .int .i64 0]), (w.heap.size, [.int .i64 a1, .int .i64 a2, .int .i64 a3, .int .i64 a4, .int .i64 a5, .int .i64 a6])] (w2.alloc (.cells #[.int .i64 a4, .int .i64 (-a5), .int .i64 a6] 27)) := TL.new (t := 27) Tw2 rfl
      generalize w2.alloc (.cells #[.int .i64 a4, .int .i64 (-a5), .int .i64 a6] 27) = w3 at Tw3 ⊢
      have Bw3 := Tw3.1.1
      have hlow : w.heap.size ≤ w3.heap.size := Tw3.1.2
      clear xw100 xw101 xw102 xw103 xw104 xw105 xw110 xw111 xw112 xw113 xw114 xw115
      clear xw200 xw201 xw202 xw210 xw211 xw212 xw213 xw214 xw215 xw220 xw221 xw222 xw223 xw224 xw225
      have xw300 : w3.cell? ⟨w2.heap.size, 0, none⟩ = some (.int .i64 a4) := Tw3.2.1.2.1.1
      have xw301 : w3.cell? ⟨w2.heap.size, 1, none⟩ = some (.int .i64 (-a5)) := Tw3.2.1.2.2.1.1
      have xw302 : w3.cell? ⟨w2.heap.size, 2, none⟩ = some (.int .i64 a6) := Tw3.2.1.2.2.2.1.1
      have xw310 : w3.cell? ⟨w1.heap.size, 0, none⟩ = some (.int .i64 a1) := Tw3.2.2.1.2.1.1
      have xw311 : w3.cell? ⟨w1.heap.size, 1, none⟩ = some (.int .i64 (-a2)) := Tw3.2.2.1.2.2.1.1
      have xw312 : w3.cell? ⟨w1.heap.size, 2, none⟩ = some (.int .i64 a3) := Tw3.2.2.1.2.2.2.1.1
      have xw320 : w3.cell? ⟨w.heap.size + 1, 0, none⟩ = some (.int .i64 0) := Tw3.2.2.2.1.2.1.1
      have xw321 : w3.cell? ⟨w.heap.size + 1, 1, none⟩ = some (.int .i64 0) := Tw3.2.2.2.1.2.2.1.1
      have xw322 : w3.cell? ⟨w.heap.size + 1, 2, none⟩ = some (.int .i64 0) := Tw3.2.2.2.1.2.2.2.1.1
      have xw323 : w3.cell? ⟨w.heap.size + 1, 3, none⟩ = some (.int .i64 0) := Tw3.2.2.2.1.2.2.2.2.1.1
      have xw324 : w3.cell? ⟨w.heap.size + 1, 4, none⟩ = some (.int .i64 0) := Tw3.2.2.2.1.2.2.2.2.2.1.1
      have xw325 : w3.cell? ⟨w.heap.size + 1, 5, none⟩ = some (.int .i64 0) := Tw3.2.2.2.1.2.2.2.2.2.2.1.1
      have xw330 : w3.cell? ⟨w.heap.size, 0, none⟩ = some (.int .i64 a1) := Tw3.2.2.2.2.1.2.1.1
      have xw331 : w3.cell? ⟨w.heap.size, 1, none⟩ = some (.int .i64 a2) := Tw3.2.2.2.2.1.2.2.1.1
      have xw332 : w3.cell? ⟨w.heap.size, 2, none⟩ = some (.int .i64 a3) := Tw3.2.2.2.2.1.2.2.2.1.1
      have xw333 : w3.cell? ⟨w.heap.size, 3, none⟩ = some (.int .i64 a4) := Tw3.2.2.2.2.1.2.2.2.2.1.1
      have xw334 : w3.cell? ⟨w.heap.size, 4, none⟩ = some (.int .i64 a5) := Tw3.2.2.2.2.1.2.2.2.2.2.1.1
      have xw335 : w3.cell? ⟨w.heap.size, 5, none⟩ = some (.int .i64 a6) := Tw3.2.2.2.2.1.2.2.2.2.2.2.1.1
      have lw30 := Tw3.2.1.1
      have lw31 := Tw3.2.2.1.1
      have lw32 := Tw3.2.2.2.1.1
      have lw33 := Tw3.2.2.2.2.1.1
      have fw30 : w3.frozen? ⟨w.heap.size + 1, 0, none⟩ = false := Tw3.2.2.2.1.2.1.2
      have fw31 : w3.frozen? ⟨w.heap.size + 1, 1, none⟩ = false := Tw3.2.2.2.1.2.2.1.2
      have fw32 : w3.frozen? ⟨w.heap.size + 1, 2, none⟩ = false := Tw3.2.2.2.1.2.2.2.1.2
      have fw33 : w3.frozen? ⟨w.heap.size + 1, 3, none⟩ = false := Tw3.2.2.2.1.2.2.2.2.1.2
      have fw34 : w3.frozen? ⟨w.heap.size + 1, 4, none⟩ = false := Tw3.2.2.2.1.2.2.2.2.2.1.2
      have fw35 : w3.frozen? ⟨w.heap.size + 1, 5, none⟩ = false := Tw3.2.2.2.1.2.2.2.2.2.2.1.2
      go_wp2_with fail
      refine bodyPost_ret (by simp [results, Try.results19, go_sem, xw320, xw321, xw322, xw323, xw324, xw325]; rfl) rfl ?_
      exact ⟨ret_jb HL.out, by go_grown⟩
    · have hy' : valid ⟨a4, a5, a6⟩ = false := by simpa using hy
      have HL : Hid (((nil, nil), false) = (((⟨p1, p2, p3⟩, ⟨p4, p5, p6⟩), b) : (Fr × Fr) × Bool)) := by have h := H.out; unfold jcross at h; rw [hx, hy'] at h; exact h
      have HM1 := Lib.hid (mirror_yes hx)
      have HM2 := Lib.hid (mirror_no hy')
      simp only at HM1
      clear H hx hy hy'
      go_enter Try.func19, Try.ntmps19
      go_wp2_with fail
      refine (smirror_any _ _ _ a1 (-a2) a3 true _ HM1).mono ?_
      rintro e w1 ⟨rfl, hbw1⟩
      have Tw1 : TL w [(w.heap.size + 1, [.int .i64 0, .int .i64 0, .int .i64 0, .int .i64 0, .int .i64 0, .int .i64 0]), (w.heap.size, [.int .i64 a1, .int .i64 a2, .int .i64 a3, .int .i64 a4, .int .i64 a5, .int .i64 a6])] w1 := TL.below (TL.new (t := 29) (TL.new (t := 29) (TL.refl w) rfl) (by simp)) hbw1
      clear hbw1
      have Bw1 := Tw1.1.1
      have xw100 : w1.cell? ⟨w.heap.size + 1, 0, none⟩ = some (.int .i64 0) := Tw1.2.1.2.1.1
      have xw101 : w1.cell? ⟨w.heap.size + 1, 1, none⟩ = some (.int .i64 0) := Tw1.2.1.2.2.1.1
      have xw102 : w1.cell? ⟨w.heap.size + 1, 2, none⟩ = some (.int .i64 0) := Tw1.2.1.2.2.2.1.1
      have xw103 : w1.cell? ⟨w.heap.size + 1, 3, none⟩ = some (.int .i64 0) := Tw1.2.1.2.2.2.2.1.1
      have xw104 : w1.cell? ⟨w.heap.size + 1, 4, none⟩ = some (.int .i64 0) := Tw1.2.1.2.2.2.2.2.1.1
      have xw105 : w1.cell? ⟨w.heap.size + 1, 5, none⟩ = some (.int .i64 0) := Tw1.2.1.2.2.2.2.2.2.1.1
      have xw110 : w1.cell? ⟨w.heap.size, 0, none⟩ = some (.int .i64 a1) := Tw1.2.2.1.2.1.1
      have xw111 : w1.cell? ⟨w.heap.size, 1, none⟩ = some (.int .i64 a2) := Tw1.2.2.1.2.2.1.1
      have xw112 : w1.cell? ⟨w.heap.size, 2, none⟩ = some (.int .i64 a3) := Tw1.2.2.1.2.2.2.1.1
      have xw113 : w1.cell? ⟨w.heap.size, 3, none⟩ = some (.int .i64 a4) := Tw1.2.2.1.2.2.2.2.1.1
      have xw114 : w1.cell? ⟨w.heap.size, 4, none⟩ = some (.int .i64 a5) := Tw1.2.2.1.2.2.2.2.2.1.1
      have xw115 : w1.cell? ⟨w.heap.size, 5, none⟩ = some (.int .i64 a6) := Tw1.2.2.1.2.2.2.2.2.2.1.1
      have lw10 := Tw1.2.1.1
      have lw11 := Tw1.2.2.1.1
      have fw10 : w1.frozen? ⟨w.heap.size + 1, 0, none⟩ = false := Tw1.2.1.2.1.2
      have fw11 : w1.frozen? ⟨w.heap.size + 1, 1, none⟩ = false := Tw1.2.1.2.2.1.2
      have fw12 : w1.frozen? ⟨w.heap.size + 1, 2, none⟩ = false := Tw1.2.1.2.2.2.1.2
      have fw13 : w1.frozen? ⟨w.heap.size + 1, 3, none⟩ = false := Tw1.2.1.2.2.2.2.1.2
      have fw14 : w1.frozen? ⟨w.heap.size + 1, 4, none⟩ = false := Tw1.2.1.2.2.2.2.2.1.2
      have fw15 : w1.frozen? ⟨w.heap.size + 1, 5, none⟩ = false := Tw1.2.1.2.2.2.2.2.2.1.2
      go_wp2_with fail
      refine (smirror_any _ _ _ 0 0 0 false _ HM2).mono ?_
      rintro e w2 ⟨rfl, hbw2⟩
      have Tw2 : TL w [(w1.heap.size, [.int .i64 a1, .int .i64 (-a2), .int .i64 a3]), (w.heap.size + 1, [.int .i64 0, .int .i64 0, .int .i64 0, .int .i64 0, .int .i64 0, .int .i64 0]), (w.heap.size, [.int .i64 a1, .int .i64 a2, .int .i64 a3, .int .i64 a4, .int .i64 a5, .int .i64 a6])] w2 := TL.below (TL.new (t := 27) Tw1 rfl) hbw2
      clear hbw2
      have Bw2 := Tw2.1.1
      have xw200 : w2.cell? ⟨w1.heap.size, 0, none⟩ = some (.int .i64 a1) := Tw2.2.1.2.1.1
      have xw201 : w2.cell? ⟨w1.heap.size, 1, none⟩ = some (.int .i64 (-a2)) := Tw2.2.1.2.2.1.1
      have xw202 : w2.cell? ⟨w1.heap.size, 2, none⟩ = some (.int .i64 a3) := Tw2.2.1.2.2.2.1.1
      have xw210 : w2.cell? ⟨w.heap.size + 1, 0, none⟩ = some (.int .i64 0) := Tw2.2.2.1.2.1.1
      have xw211 : w2.cell? ⟨w.heap.size + 1, 1, none⟩ = some (.int .i64 0) := Tw2.2.2.1.2.2.1.1
      have xw212 : w2.cell? ⟨w.heap.size + 1, 2, none⟩ = some (.int .i64 0) := Tw2.2.2.1.2.2.2.1.1
      have xw213 : w2.cell? ⟨w.heap.size + 1, 3, none⟩ = some (.int .i64 0) := Tw2.2.2.1.2.2.2.2.1.1
      have xw214 : w2.cell? ⟨w.heap.size + 1, 4, none⟩ = some (.int .i64 0) := Tw2.2.2.1.2.2.2.2.2.1.1
      have xw215 : w2.cell? ⟨w.heap.size + 1, 5, none⟩ = some (.int .i64 0) := Tw2.2.2.1.2.2.2.2.2.2.1.1
      have xw220 : w2.cell? ⟨w.heap.size, 0, none⟩ = some (.int .i64 a1) := Tw2.2.2.2.1.2.1.1
      have xw221 : w2.cell? ⟨w.heap.size, 1, none⟩ = some (.int .i64 a2) := Tw2.2.2.2.1.2.2.1.1
      have xw222 : w2.cell? ⟨w.heap.size, 2, none⟩ = some (.int .i64 a3) := Tw2.2.2.2.1.2.2.2.1.1
      have xw223 : w2.cell? ⟨w.heap.size, 3, none⟩ = some (.int .i64 a4) := Tw2.2.2.2.1.2.2.2.2.1.1
      have xw224 : w2.cell? ⟨w.heap.size, 4, none⟩ = some (.int .i64 a5) := Tw2.2.2.2.1.2.2.2.2.2.1.1
      have xw225 : w2.cell? ⟨w.heap.size, 5, none⟩ = some (.int .i64 a6) := Tw2.2.2.2.1.2.2.2.2.2.2.1.1
      have lw20 := Tw2.2.1.1
      have lw21 := Tw2.2.2.1.1
      have lw22 := Tw2.2.2.2.1.1
      have fw20 : w2.frozen? ⟨w.heap.size + 1, 0, none⟩ = false := Tw2.2.2.1.2.1.2
      have fw21 : w2.frozen? ⟨w.heap.size + 1, 1, none⟩ = false := Tw2.2.2.1.2.2.1.2
      have fw22 : w2.frozen? ⟨w.heap.size + 1, 2, none⟩ = false := Tw2.2.2.1.2.2.2.1.2
      have fw23 : w2.frozen? ⟨w.heap.size + 1, 3, none⟩ = false := Tw2.2.2.1.2.2.2.2.1.2
      have fw24 : w2.frozen? ⟨w.heap.size + 1, 4, none⟩ = false := Tw2.2.2.1.2.2.2.2.2.1.2
      have fw25 : w2.frozen? ⟨w.heap.size + 1, 5, none⟩ = false := Tw2.2.2.1.2.2.2.2.2.2.1.2
      go_upto_region 3 with fail
      have Tw3 : TL w [(w2.heap.size, [.int .i64 0, .int .i64 0, .int .i64 0]), (w1.heap.size, [.int .i64 a1, .int .i64 (-a2), .int .i64 a3]), (w.heap.size + 1, [.int .i64 0, .int .i64 0, .int .i64 0, .int .i64 0, .int .i64 0, .int .i64 0]), (w.heap.size, [.int .i64 a1, .int .i64 a2, .int .i64 a3, .int .i64 a4, .int .i64 a5, .int .i64 a6])] (w2.alloc (.cells #[.int .i64 0, .int .i64 0, .int .i64 0] 27)) := TL.new (t := 27) Tw2 rfl
      generalize w2.alloc (.cells #[.int .i64 0, .int .i64 0, .int .i64 0] 27) = w3 at Tw3 ⊢
      have Bw3 := Tw3.1.1
      have hlow : w.heap.size ≤ w3.heap.size := Tw3.1.2
      clear xw100 xw101 xw102 xw103 xw104 xw105 xw110 xw111 xw112 xw113 xw114 xw115
      clear xw200 xw201 xw202 xw210 xw211 xw212 xw213 xw214 xw215 xw220 xw221 xw222 xw223 xw224 xw225
      have xw300 : w3.cell? ⟨w2.heap.size, 0, none⟩ = some (.int .i64 0) := Tw3.2.1.2.1.1
      have xw301 : w3.cell? ⟨w2.heap.size, 1, none⟩ = some (.int .i64 0) := Tw3.2.1.2.2.1.1
      have xw302 : w3.cell? ⟨w2.heap.size, 2, none⟩ = some (.int .i64 0) := Tw3.2.1.2.2.2.1.1
      have xw310 : w3.cell? ⟨w1.heap.size, 0, none⟩ = some (.int .i64 a1) := Tw3.2.2.1.2.1.1
      have xw311 : w3.cell? ⟨w1.heap.size, 1, none⟩ = some (.int .i64 (-a2)) := Tw3.2.2.1.2.2.1.1
      have xw312 : w3.cell? ⟨w1.heap.size, 2, none⟩ = some (.int .i64 a3) := Tw3.2.2.1.2.2.2.1.1
      have xw320 : w3.cell? ⟨w.heap.size + 1, 0, none⟩ = some (.int .i64 0) := Tw3.2.2.2.1.2.1.1
      have xw321 : w3.cell? ⟨w.heap.size + 1, 1, none⟩ = some (.int .i64 0) := Tw3.2.2.2.1.2.2.1.1
      have xw322 : w3.cell? ⟨w.heap.size + 1, 2, none⟩ = some (.int .i64 0) := Tw3.2.2.2.1.2.2.2.1.1
      have xw323 : w3.cell? ⟨w.heap.size + 1, 3, none⟩ = some (.int .i64 0) := Tw3.2.2.2.1.2.2.2.2.1.1
      have xw324 : w3.cell? ⟨w.heap.size + 1, 4, none⟩ = some (.int .i64 0) := Tw3.2.2.2.1.2.2.2.2.2.1.1
      have xw325 : w3.cell? ⟨w.heap.size + 1, 5, none⟩ = some (.int .i64 0) := Tw3.2.2.2.1.2.2.2.2.2.2.1.1
      have xw330 : w3.cell? ⟨w.heap.size, 0, none⟩ = some (.int .i64 a1) := Tw3.2.2.2.2.1.2.1.1
      have xw331 : w3.cell? ⟨w.heap.size, 1, none⟩ = some (.int .i64 a2) := Tw3.2.2.2.2.1.2.2.1.1
      have xw332 : w3.cell? ⟨w.heap.size, 2, none⟩ = some (.int .i64 a3) := Tw3.2.2.2.2.1.2.2.2.1.1
      have xw333 : w3.cell? ⟨w.heap.size, 3, none⟩ = some (.int .i64 a4) := Tw3.2.2.2.2.1.2.2.2.2.1.1
      have xw334 : w3.cell? ⟨w.heap.size, 4, none⟩ = some (.int .i64 a5) := Tw3.2.2.2.2.1.2.2.2.2.2.1.1
      have xw335 : w3.cell? ⟨w.heap.size, 5, none⟩ = some (.int .i64 a6) := Tw3.2.2.2.2.1.2.2.2.2.2.2.1.1
      have lw30 := Tw3.2.1.1
      have lw31 := Tw3.2.2.1.1
      have lw32 := Tw3.2.2.2.1.1
      have lw33 := Tw3.2.2.2.2.1.1
      have fw30 : w3.frozen? ⟨w.heap.size + 1, 0, none⟩ = false := Tw3.2.2.2.1.2.1.2
      have fw31 : w3.frozen? ⟨w.heap.size + 1, 1, none⟩ = false := Tw3.2.2.2.1.2.2.1.2
      have fw32 : w3.frozen? ⟨w.heap.size + 1, 2, none⟩ = false := Tw3.2.2.2.1.2.2.2.1.2
      have fw33 : w3.frozen? ⟨w.heap.size + 1, 3, none⟩ = false := Tw3.2.2.2.1.2.2.2.2.1.2
      have fw34 : w3.frozen? ⟨w.heap.size + 1, 4, none⟩ = false := Tw3.2.2.2.1.2.2.2.2.2.1.2
      have fw35 : w3.frozen? ⟨w.heap.size + 1, 5, none⟩ = false := Tw3.2.2.2.1.2.2.2.2.2.2.1.2
      go_wp2_with fail
      refine bodyPost_ret (by simp [results, Try.results19, go_sem, xw320, xw321, xw322, xw323, xw324, xw325]; rfl) rfl ?_
      exact ⟨ret_jb HL.out, by go_grown⟩
  · by_cases hy : valid ⟨a4, a5, a6⟩ = true
    · have hx' : valid ⟨a1, a2, a3⟩ = false := by simpa using hx
      have HL : Hid (((nil, nil), false) = (((⟨p1, p2, p3⟩, ⟨p4, p5, p6⟩), b) : (Fr × Fr) × Bool)) := by have h := H.out; unfold jcross at h; rw [hx', hy] at h; exact h
      have HM1 := Lib.hid (mirror_no hx')
      have HM2 := Lib.hid (mirror_yes hy)
      simp only at HM2
      clear H hx hy hx'
      go_enter Try.func19, Try.ntmps19
      go_wp2_with fail
      refine (smirror_any _ _ _ 0 0 0 false _ HM1).mono ?_
      rintro e w1 ⟨rfl, hbw1⟩
      have Tw1 : TL w [(w.heap.size + 1, [.int .i64 0, .int .i64 0, .int .i64 0, .int .i64 0, .int .i64 0, .int .i64 0]), (w.heap.size, [.int .i64 a1, .int .i64 a2, .int .i64 a3, .int .i64 a4, .int .i64 a5, .int .i64 a6])] w1 := TL.below (TL.new (t := 29) (TL.new (t := 29) (TL.refl w) rfl) (by simp)) hbw1
      clear hbw1
      have Bw1 := Tw1.1.1
      have xw100 : w1.cell? ⟨w.heap.size + 1, 0, none⟩ = some (.int .i64 0) := Tw1.2.1.2.1.1
      have xw101 : w1.cell? ⟨w.heap.size + 1, 1, none⟩ = some (.int .i64 0) := Tw1.2.1.2.2.1.1
      have xw102 : w1.cell? ⟨w.heap.size + 1, 2, none⟩ = some (.int .i64 0) := Tw1.2.1.2.2.2.1.1
      have xw103 : w1.cell? ⟨w.heap.size + 1, 3, none⟩ = some (.int .i64 0) := Tw1.2.1.2.2.2.2.1.1
      have xw104 : w1.cell? ⟨w.heap.size + 1, 4, none⟩ = some (.int .i64 0) := Tw1.2.1.2.2.2.2.2.1.1
      have xw105 : w1.cell? ⟨w.heap.size + 1, 5, none⟩ = some (.int .i64 0) := Tw1.2.1.2.2.2.2.2.2.1.1
      have xw110 : w1.cell? ⟨w.heap.size, 0, none⟩ = some (.int .i64 a1) := Tw1.2.2.1.2.1.1
      have xw111 : w1.cell? ⟨w.heap.size, 1, none⟩ = some (.int .i64 a2) := Tw1.2.2.1.2.2.1.1
      have xw112 : w1.cell? ⟨w.heap.size, 2, none⟩ = some (.int .i64 a3) := Tw1.2.2.1.2.2.2.1.1
      have xw113 : w1.cell? ⟨w.heap.size, 3, none⟩ = some (.int .i64 a4) := Tw1.2.2.1.2.2.2.2.1.1
      have xw114 : w1.cell? ⟨w.heap.size, 4, none⟩ = some (.int .i64 a5) := Tw1.2.2.1.2.2.2.2.2.1.1
      have xw115 : w1.cell? ⟨w.heap.size, 5, none⟩ = some (.int .i64 a6) := Tw1.2.2.1.2.2.2.2.2.2.1.1
      have lw10 := Tw1.2.1.1
      have lw11 := Tw1.2.2.1.1
      have fw10 : w1.frozen? ⟨w.heap.size + 1, 0, none⟩ = false := Tw1.2.1.2.1.2
      have fw11 : w1.frozen? ⟨w.heap.size + 1, 1, none⟩ = false := Tw1.2.1.2.2.1.2
      have fw12 : w1.frozen? ⟨w.heap.size + 1, 2, none⟩ = false := Tw1.2.1.2.2.2.1.2
      have fw13 : w1.frozen? ⟨w.heap.size + 1, 3, none⟩ = false := Tw1.2.1.2.2.2.2.1.2
      have fw14 : w1.frozen? ⟨w.heap.size + 1, 4, none⟩ = false := Tw1.2.1.2.2.2.2.2.1.2
      have fw15 : w1.frozen? ⟨w.heap.size + 1, 5, none⟩ = false := Tw1.2.1.2.2.2.2.2.2.1.2
      go_wp2_with fail
      refine (smirror_any _ _ _ a4 (-a5) a6 true _ HM2).mono ?_
      rintro e w2 ⟨rfl, hbw2⟩
      have Tw2 : TL w [(w1.heap.size, [.int .i64 0, .int .i64 0, .int .i64 0]), (w.heap.size + 1, [.int .i64 0, .int .i64 0, .int .i64 0, .int .i64 0, .int .i64 0, .int .i64 0]), (w.heap.size, [.int .i64 a1, .int .i64 a2, .int .i64 a3, .int .i64 a4, .int .i64 a5, .int .i64 a6])] w2 := TL.below (TL.new (t := 27) Tw1 rfl) hbw2
      clear hbw2
      have Bw2 := Tw2.1.1
      have xw200 : w2.cell? ⟨w1.heap.size, 0, none⟩ = some (.int .i64 0) := Tw2.2.1.2.1.1
      have xw201 : w2.cell? ⟨w1.heap.size, 1, none⟩ = some (.int .i64 0) := Tw2.2.1.2.2.1.1
      have xw202 : w2.cell? ⟨w1.heap.size, 2, none⟩ = some (.int .i64 0) := Tw2.2.1.2.2.2.1.1
      have xw210 : w2.cell? ⟨w.heap.size + 1, 0, none⟩ = some (.int .i64 0) := Tw2.2.2.1.2.1.1
      have xw211 : w2.cell? ⟨w.heap.size + 1, 1, none⟩ = some (.int .i64 0) := Tw2.2.2.1.2.2.1.1
      have xw212 : w2.cell? ⟨w.heap.size + 1, 2, none⟩ = some (.int .i64 0) := Tw2.2.2.1.2.2.2.1.1
      have xw213 : w2.cell? ⟨w.heap.size + 1, 3, none⟩ = some (.int .i64 0) := Tw2.2.2.1.2.2.2.2.1.1
      have xw214 : w2.cell? ⟨w.heap.size + 1, 4, none⟩ = some (.int .i64 0) := Tw2.2.2.1.2.2.2.2.2.1.1
      have xw215 : w2.cell? ⟨w.heap.size + 1, 5, none⟩ = some (.int .i64 0) := Tw2.2.2.1.2.2.2.2.2.2.1.1
      have xw220 : w2.cell? ⟨w.heap.size, 0, none⟩ = some (.int .i64 a1) := Tw2.2.2.2.1.2.1.1
      have xw221 : w2.cell? ⟨w.heap.size, 1, none⟩ = some (.int .i64 a2) := Tw2.2.2.2.1.2.2.1.1
      have xw222 : w2.cell? ⟨w.heap.size, 2, none⟩ = some (.int .i64 a3) := Tw2.2.2.2.1.2.2.2.1.1
      have xw223 : w2.cell? ⟨w.heap.size, 3, none⟩ = some (.int .i64 a4) := Tw2.2.2.2.1.2.2.2.2.1.1
      have xw224 : w2.cell? ⟨w.heap.size, 4, none⟩ = some (.int .i64 a5) := Tw2.2.2.2.1.2.2.2.2.2.1.1
      have xw225 : w2.cell? ⟨w.heap.size, 5, none⟩ = some (.int .i64 a6) := Tw2.2.2.2.1.2.2.2.2.2.2.1.1
      have lw20 := Tw2.2.1.1
      have lw21 := Tw2.2.2.1.1
      have lw22 := Tw2.2.2.2.1.1
      have fw20 : w2.frozen? ⟨w.heap.size + 1, 0, none⟩ = false := Tw2.2.2.1.2.1.2
      have fw21 : w2.frozen? ⟨w.heap.size + 1, 1, none⟩ = false := Tw2.2.2.1.2.2.1.2
      have fw22 : w2.frozen? ⟨w.heap.size + 1, 2, none⟩ = false := Tw2.2.2.1.2.2.2.1.2
      have fw23 : w2.frozen? ⟨w.heap.size + 1, 3, none⟩ = false := Tw2.2.2.1.2.2.2.2.1.2
      have fw24 : w2.frozen? ⟨w.heap.size + 1, 4, none⟩ = false := Tw2.2.2.1.2.2.2.2.2.1.2
      have fw25 : w2.frozen? ⟨w.heap.size + 1, 5, none⟩ = false := Tw2.2.2.1.2.2.2.2.2.2.1.2
      go_upto_region 3 with fail
      have Tw3 : TL w [(w2.heap.size, [.int .i64 a4, .int .i64 (-a5), .int .i64 a6]), (w1.heap.size, [.int .i64 0, .int .i64 0, .int .i64 0]), (w.heap.size + 1, [.int .i64 0, .int .i64 0, .int .i64 0, .int .i64 0, .int .i64 0, .int .i64 0]), (w.heap.size, [.int .i64 a1, .int .i64 a2, .int .i64 a3, .int .i64 a4, .int .i64 a5, .int .i64 a6])] (w2.alloc (.cells #[.int .i64 a4, .int .i64 (-a5), .int .i64 a6] 27)) := TL.new (t := 27) Tw2 rfl
      generalize w2.alloc (.cells #[.int .i64 a4, .int .i64 (-a5), .int .i64 a6] 27) = w3 at Tw3 ⊢
      have Bw3 := Tw3.1.1
      have hlow : w.heap.size ≤ w3.heap.size := Tw3.1.2
      clear xw100 xw101 xw102 xw103 xw104 xw105 xw110 xw111 xw112 xw113 xw114 xw115
      clear xw200 xw201 xw202 xw210 xw211 xw212 xw213 xw214 xw215 xw220 xw221 xw222 xw223 xw224 xw225
      have xw300 : w3.cell? ⟨w2.heap.size, 0, none⟩ = some (.int .i64 a4) := Tw3.2.1.2.1.1
      have xw301 : w3.cell? ⟨w2.heap.size, 1, none⟩ = some (.int .i64 (-a5)) := Tw3.2.1.2.2.1.1
      have xw302 : w3.cell? ⟨w2.heap.size, 2, none⟩ = some (.int .i64 a6) := Tw3.2.1.2.2.2.1.1
      have xw310 : w3.cell? ⟨w1.heap.size, 0, none⟩ = some (.int .i64 0) := Tw3.2.2.1.2.1.1
      have xw311 : w3.cell? ⟨w1.heap.size, 1, none⟩ = some (.int .i64 0) := Tw3.2.2.1.2.2.1.1
      have xw312 : w3.cell? ⟨w1.heap.size, 2, none⟩ = some (.int .i64 0) := Tw3.2.2.1.2.2.2.1.1
      have xw320 : w3.cell? ⟨w.heap.size + 1, 0, none⟩ = some (.int .i64 0) := Tw3.2.2.2.1.2.1.1
      have xw321 : w3.cell? ⟨w.heap.size + 1, 1, none⟩ = some (.int .i64 0) := Tw3.2.2.2.1.2.2.1.1
      have xw322 : w3.cell? ⟨w.heap.size + 1, 2, none⟩ = some (.int .i64 0) := Tw3.2.2.2.1.2.2.2.1.1
      have xw323 : w3.cell? ⟨w.heap.size + 1, 3, none⟩ = some (.int .i64 0) := Tw3.2.2.2.1.2.2.2.2.1.1
      have xw324 : w3.cell? ⟨w.heap.size + 1, 4, none⟩ = some (.int .i64 0) := Tw3.2.2.2.1.2.2.2.2.2.1.1
      have xw325 : w3.cell? ⟨w.heap.size + 1, 5, none⟩ = some (.int .i64 0) := Tw3.2.2.2.1.2.2.2.2.2.2.1.1
      have xw330 : w3.cell? ⟨w.heap.size, 0, none⟩ = some (.int .i64 a1) := Tw3.2.2.2.2.1.2.1.1
      have xw331 : w3.cell? ⟨w.heap.size, 1, none⟩ = some (.int .i64 a2) := Tw3.2.2.2.2.1.2.2.1.1
      have xw332 : w3.cell? ⟨w.heap.size, 2, none⟩ = some (.int .i64 a3) := Tw3.2.2.2.2.1.2.2.2.1.1
      have xw333 : w3.cell? ⟨w.heap.size, 3, none⟩ = some (.int .i64 a4) := Tw3.2.2.2.2.1.2.2.2.2.1.1
      have xw334 : w3.cell? ⟨w.heap.size, 4, none⟩ = some (.int .i64 a5) := Tw3.2.2.2.2.1.2.2.2.2.2.1.1
      have xw335 : w3.cell? ⟨w.heap.size, 5, none⟩ = some (.int .i64 a6) := Tw3.2.2.2.2.1.2.2.2.2.2.2.1.1
      have lw30 := Tw3.2.1.1
      have lw31 := Tw3.2.2.1.1
      have lw32 := Tw3.2.2.2.1.1
      have lw33 := Tw3.2.2.2.2.1.1
      have fw30 : w3.frozen? ⟨w.heap.size + 1, 0, none⟩ = false := Tw3.2.2.2.1.2.1.2
      have fw31 : w3.frozen? ⟨w.heap.size + 1, 1, none⟩ = false := Tw3.2.2.2.1.2.2.1.2
      have fw32 : w3.frozen? ⟨w.heap.size + 1, 2, none⟩ = false := Tw3.2.2.2.1.2.2.2.1.2
      have fw33 : w3.frozen? ⟨w.heap.size + 1, 3, none⟩ = false := Tw3.2.2.2.1.2.2.2.2.1.2
      have fw34 : w3.frozen? ⟨w.heap.size + 1, 4, none⟩ = false := Tw3.2.2.2.1.2.2.2.2.2.1.2
      have fw35 : w3.frozen? ⟨w.heap.size + 1, 5, none⟩ = false := Tw3.2.2.2.1.2.2.2.2.2.2.1.2
      go_wp2_with fail
      refine bodyPost_ret (by simp [results, Try.results19, go_sem, xw320, xw321, xw322, xw323, xw324, xw325]; rfl) rfl ?_
      exact ⟨ret_jb HL.out, by go_grown⟩
    · have hx' : valid ⟨a1, a2, a3⟩ = false := by simpa using hx
      have hy' : valid ⟨a4, a5, a6⟩ = false := by simpa using hy
      have HL : Hid (((nil, nil), false) = (((⟨p1, p2, p3⟩, ⟨p4, p5, p6⟩), b) : (Fr × Fr) × Bool)) := by have h := H.out; unfold jcross at h; rw [hx', hy'] at h; exact h
      have HM1 := Lib.hid (mirror_no hx')
      have HM2 := Lib.hid (mirror_no hy')
      clear H hx hy hx' hy'
      go_enter Try.func19, Try.ntmps19
      go_wp2_with fail
      refine (smirror_any _ _ _ 0 0 0 false _ HM1).mono ?_
      rintro e w1 ⟨rfl, hbw1⟩
      have Tw1 : TL w [(w.heap.size + 1, [.int .i64 0, .int .i64 0, .int .i64 0, .int .i64 0, .int .i64 0, .int .i64 0]), (w.heap.size, [.int .i64 a1, .int .i64 a2, .int .i64 a3, .int .i64 a4, .int .i64 a5, .int .i64 a6])] w1 := TL.below (TL.new (t := 29) (TL.new (t := 29) (TL.refl w) rfl) (by simp)) hbw1
      clear hbw1
      have Bw1 := Tw1.1.1
      have xw100 : w1.cell? ⟨w.heap.size + 1, 0, none⟩ = some (.int .i64 0) := Tw1.2.1.2.1.1
      have xw101 : w1.cell? ⟨w.heap.size + 1, 1, none⟩ = some (.int .i64 0) := Tw1.2.1.2.2.1.1
      have xw102 : w1.cell? ⟨w.heap.size + 1, 2, none⟩ = some (.int .i64 0) := Tw1.2.1.2.2.2.1.1
      have xw103 : w1.cell? ⟨w.heap.size + 1, 3, none⟩ = some (.int .i64 0) := Tw1.2.1.2.2.2.2.1.1
      have xw104 : w1.cell? ⟨w.heap.size + 1, 4, none⟩ = some (.int .i64 0) := Tw1.2.1.2.2.2.2.2.1.1
      have xw105 : w1.cell? ⟨w.heap.size + 1, 5, none⟩ = some (.int .i64 0) := Tw1.2.1.2.2.2.2.2.2.1.1
      have xw110 : w1.cell? ⟨w.heap.size, 0, none⟩ = some (.int .i64 a1) := Tw1.2.2.1.2.1.1
      have xw111 : w1.cell? ⟨w.heap.size, 1, none⟩ = some (.int .i64 a2) := Tw1.2.2.1.2.2.1.1
      have xw112 : w1.cell? ⟨w.heap.size, 2, none⟩ = some (.int .i64 a3) := Tw1.2.2.1.2.2.2.1.1
      have xw113 : w1.cell? ⟨w.heap.size, 3, none⟩ = some (.int .i64 a4) := Tw1.2.2.1.2.2.2.2.1.1
      have xw114 : w1.cell? ⟨w.heap.size, 4, none⟩ = some (.int .i64 a5) := Tw1.2.2.1.2.2.2.2.2.1.1
      have xw115 : w1.cell? ⟨w.heap.size, 5, none⟩ = some (.int .i64 a6) := Tw1.2.2.1.2.2.2.2.2.2.1.1
      have lw10 := Tw1.2.1.1
      have lw11 := Tw1.2.2.1.1
      have fw10 : w1.frozen? ⟨w.heap.size + 1, 0, none⟩ = false := Tw1.2.1.2.1.2
      have fw11 : w1.frozen? ⟨w.heap.size + 1, 1, none⟩ = false := Tw1.2.1.2.2.1.2
      have fw12 : w1.frozen? ⟨w.heap.size + 1, 2, none⟩ = false := Tw1.2.1.2.2.2.1.2
      have fw13 : w1.frozen? ⟨w.heap.size + 1, 3, none⟩ = false := Tw1.2.1.2.2.2.2.1.2
      have fw14 : w1.frozen? ⟨w.heap.size + 1, 4, none⟩ = false := Tw1.2.1.2.2.2.2.2.1.2
      have fw15 : w1.frozen? ⟨w.heap.size + 1, 5, none⟩ = false := Tw1.2.1.2.2.2.2.2.2.1.2
      go_wp2_with fail
      refine (smirror_any _ _ _ 0 0 0 false _ HM2).mono ?_
      rintro e w2 ⟨rfl, hbw2⟩
      have Tw2 : TL w [(w1.heap.size, [.int .i64 0, .int .i64 0, .int .i64 0]), (w.heap.size + 1, [.int .i64 0, .int .i64 0, .int .i64 0, .int .i64 0, .int .i64 0, .int .i64 0]), (w.heap.size, [.int .i64 a1, .int .i64 a2, .int .i64 a3, .int .i64 a4, .int .i64 a5, .int .i64 a6])] w2 := TL.below (TL.new (t := 27) Tw1 rfl) hbw2
      clear hbw2
      have Bw2 := Tw2.1.1
      have xw200 : w2.cell? ⟨w1.heap.size, 0, none⟩ = some (.int .i64 0) := Tw2.2.1.2.1.1
      have xw201 : w2.cell? ⟨w1.heap.size, 1, none⟩ = some (.int .i64 0) := Tw2.2.1.2.2.1.1
      have xw202 : w2.cell? ⟨w1.heap.size, 2, none⟩ = some (.int .i64 0) := Tw2.2.1.2.2.2.1.1
      have xw210 : w2.cell? ⟨w.heap.size + 1, 0, none⟩ = some (.int .i64 0) := Tw2.2.2.1.2.1.1
      have xw211 : w2.cell? ⟨w.heap.size + 1, 1, none⟩ = some (.int .i64 0) := Tw2.2.2.1.2.2.1.1
      have xw212 : w2.cell? ⟨w.heap.size + 1, 2, none⟩ = some (.int .i64 0) := Tw2.2.2.1.2.2.2.1.1
      have xw213 : w2.cell? ⟨w.heap.size + 1, 3, none⟩ = some (.int .i64 0) := Tw2.2.2.1.2.2.2.2.1.1
      have xw214 : w2.cell? ⟨w.heap.size + 1, 4, none⟩ = some (.int .i64 0) := Tw2.2.2.1.2.2.2.2.2.1.1
      have xw215 : w2.cell? ⟨w.heap.size + 1, 5, none⟩ = some (.int .i64 0) := Tw2.2.2.1.2.2.2.2.2.2.1.1
      have xw220 : w2.cell? ⟨w.heap.size, 0, none⟩ = some (.int .i64 a1) := Tw2.2.2.2.1.2.1.1
      have xw221 : w2.cell? ⟨w.heap.size, 1, none⟩ = some (.int .i64 a2) := Tw2.2.2.2.1.2.2.1.1
      have xw222 : w2.cell? ⟨w.heap.size, 2, none⟩ = some (.int .i64 a3) := Tw2.2.2.2.1.2.2.2.1.1
      have xw223 : w2.cell? ⟨w.heap.size, 3, none⟩ = some (.int .i64 a4) := Tw2.2.2.2.1.2.2.2.2.1.1
      have xw224 : w2.cell? ⟨w.heap.size, 4, none⟩ = some (.int .i64 a5) := Tw2.2.2.2.1.2.2.2.2.2.1.1
      have xw225 : w2.cell? ⟨w.heap.size, 5, none⟩ = some (.int .i64 a6) := Tw2.2.2.2.1.2.2.2.2.2.2.1.1
      have lw20 := Tw2.2.1.1
      have lw21 := Tw2.2.2.1.1
      have lw22 := Tw2.2.2.2.1.1
      have fw20 : w2.frozen? ⟨w.heap.size + 1, 0, none⟩ = false := Tw2.2.2.1.2.1.2
      have fw21 : w2.frozen? ⟨w.heap.size + 1, 1, none⟩ = false := Tw2.2.2.1.2.2.1.2
      have fw22 : w2.frozen? ⟨w.heap.size + 1, 2, none⟩ = false := Tw2.2.2.1.2.2.2.1.2
      have fw23 : w2.frozen? ⟨w.heap.size + 1, 3, none⟩ = false := Tw2.2.2.1.2.2.2.2.1.2
      have fw24 : w2.frozen? ⟨w.heap.size + 1, 4, none⟩ = false := Tw2.2.2.1.2.2.2.2.2.1.2
      have fw25 : w2.frozen? ⟨w.heap.size + 1, 5, none⟩ = false := Tw2.2.2.1.2.2.2.2.2.2.1.2
      go_upto_region 3 with fail
      have Tw3 : TL w [(w2.heap.size, [.int .i64 0, .int .i64 0, .int .i64 0]), (w1.heap.size, [.int .i64 0, .int .i64 0, .int .i64 0]), (w.heap.size + 1, [.int .i64 0, .int .i64 0, .int .i64 0, .int .i64 0, .int .i64 0, .int .i64 0]), (w.heap.size, [.int .i64 a1, .int .i64 a2, .int .i64 a3, .int .i64 a4, .int .i64 a5, .int .i64 a6])] (w2.alloc (.cells #[.int .i64 0, .int .i64 0, .int .i64 0] 27)) := TL.new (t := 27) Tw2 rfl
      generalize w2.alloc (.cells #[.int .i64 0, .int .i64 0, .int .i64 0] 27) = w3 at Tw3 ⊢
      have Bw3 := Tw3.1.1
      have hlow : w.heap.size ≤ w3.heap.size := Tw3.1.2
      clear xw100 xw101 xw102 xw103 xw104 xw105 xw110 xw111 xw112 xw113 xw114 xw115
      clear xw200 xw201 xw202 xw210 xw211 xw212 xw213 xw214 xw215 xw220 xw221 xw222 xw223 xw224 xw225
      have xw300 : w3.cell? ⟨w2.heap.size, 0, none⟩ = some (.int .i64 0) := Tw3.2.1.2.1.1
      have xw301 : w3.cell? ⟨w2.heap.size, 1, none⟩ = some (.int .i64 0) := Tw3.2.1.2.2.1.1
      have xw302 : w3.cell? ⟨w2.heap.size, 2, none⟩ = some (.int .i64 0) := Tw3.2.1.2.2.2.1.1
      have xw310 : w3.cell? ⟨w1.heap.size, 0, none⟩ = some (.int .i64 0) := Tw3.2.2.1.2.1.1
      have xw311 : w3.cell? ⟨w1.heap.size, 1, none⟩ = some (.int .i64 0) := Tw3.2.2.1.2.2.1.1
      have xw312 : w3.cell? ⟨w1.heap.size, 2, none⟩ = some (.int .i64 0) := Tw3.2.2.1.2.2.2.1.1
      have xw320 : w3.cell? ⟨w.heap.size + 1, 0, none⟩ = some (.int .i64 0) := Tw3.2.2.2.1.2.1.1
      have xw321 : w3.cell? ⟨w.heap.size + 1, 1, none⟩ = some (.int .i64 0) := Tw3.2.2.2.1.2.2.1.1
      have xw322 : w3.cell? ⟨w.heap.size + 1, 2, none⟩ = some (.int .i64 0) := Tw3.2.2.2.1.2.2.2.1.1
      have xw323 : w3.cell? ⟨w.heap.size + 1, 3, none⟩ = some (.int .i64 0) := Tw3.2.2.2.1.2.2.2.2.1.1
      have xw324 : w3.cell? ⟨w.heap.size + 1, 4, none⟩ = some (.int .i64 0) := Tw3.2.2.2.1.2.2.2.2.2.1.1
      have xw325 : w3.cell? ⟨w.heap.size + 1, 5, none⟩ = some (.int .i64 0) := Tw3.2.2.2.1.2.2.2.2.2.2.1.1
      have xw330 : w3.cell? ⟨w.heap.size, 0, none⟩ = some (.int .i64 a1) := Tw3.2.2.2.2.1.2.1.1
      have xw331 : w3.cell? ⟨w.heap.size, 1, none⟩ = some (.int .i64 a2) := Tw3.2.2.2.2.1.2.2.1.1
      have xw332 : w3.cell? ⟨w.heap.size, 2, none⟩ = some (.int .i64 a3) := Tw3.2.2.2.2.1.2.2.2.1.1
      have xw333 : w3.cell? ⟨w.heap.size, 3, none⟩ = some (.int .i64 a4) := Tw3.2.2.2.2.1.2.2.2.2.1.1
      have xw334 : w3.cell? ⟨w.heap.size, 4, none⟩ = some (.int .i64 a5) := Tw3.2.2.2.2.1.2.2.2.2.2.1.1
      have xw335 : w3.cell? ⟨w.heap.size, 5, none⟩ = some (.int .i64 a6) := Tw3.2.2.2.2.1.2.2.2.2.2.2.1.1
      have lw30 := Tw3.2.1.1
      have lw31 := Tw3.2.2.1.1
      have lw32 := Tw3.2.2.2.1.1
      have lw33 := Tw3.2.2.2.2.1.1
      have fw30 : w3.frozen? ⟨w.heap.size + 1, 0, none⟩ = false := Tw3.2.2.2.1.2.1.2
      have fw31 : w3.frozen? ⟨w.heap.size + 1, 1, none⟩ = false := Tw3.2.2.2.1.2.2.1.2
      have fw32 : w3.frozen? ⟨w.heap.size + 1, 2, none⟩ = false := Tw3.2.2.2.1.2.2.2.1.2
      have fw33 : w3.frozen? ⟨w.heap.size + 1, 3, none⟩ = false := Tw3.2.2.2.1.2.2.2.2.1.2
      have fw34 : w3.frozen? ⟨w.heap.size + 1, 4, none⟩ = false := Tw3.2.2.2.1.2.2.2.2.2.1.2
      have fw35 : w3.frozen? ⟨w.heap.size + 1, 5, none⟩ = false := Tw3.2.2.2.1.2.2.2.2.2.2.1.2
      go_wp2_with fail
      refine bodyPost_ret (by simp [results, Try.results19, go_sem, xw320, xw321, xw322, xw323, xw324, xw325]; rfl) rfl ?_
      exact ⟨ret_jb HL.out, by go_grown⟩

end Go.Proofs.Ytfiabpbfhldcnaa
