/-
  WALKS: quotients. Condition: of the program's FracOver: the variable zero holds 0, 0, 1.
-/
import Derived.Test.YtlhbpjdokkelpaaDoorWd
import Derived.Test.YtlhbpjdokkelpaaDoorWf
import Derived.IntWalk
namespace Go.Proofs.YtlhbpjdokkelpaaDoor
open Go.RowKit
open PL

/-- The variable zero (block 0) holds 0, 0, 1. -/
def ZC (w : World) : Prop := 0 < w.heap.size ∧ w.cell? ⟨0, 0, none⟩ = some (.int .i64 0) ∧ w.cell? ⟨0, 1, none⟩ = some (.int .i64 0) ∧ w.cell? ⟨0, 2, none⟩ = some (.int .i64 1)
theorem ZC.below {w w' : World} (h : ZC w) (hb : Below w.heap.size w w') : ZC w' :=
  ⟨Nat.lt_of_lt_of_le h.1 hb.size, (hb.cell (p := ⟨0, 0, none⟩) h.1).trans h.2.1, (hb.cell (p := ⟨0, 1, none⟩) h.1).trans h.2.2.1, (hb.cell (p := ⟨0, 2, none⟩) h.1).trans h.2.2.2⟩

theorem TL.tail' {w W : World} {x : Nat × List Value} {l : List (Nat × List Value)} (h : TL w (x :: l) W) : TL w l W := ⟨h.1, h.2.2⟩

set_option maxHeartbeats 4000000 in
theorem over_any (a1 a2 a3 b1 b2 b3 p q d : Int) (b : Bool) (w : World) (HZ : ZC w) (H : Hid (over ⟨a1, a2, a3⟩ ⟨b1, b2, b3⟩ = (⟨p, q, d⟩, b))) :
    Calls Tryd.prog 7 #[.agg #[.int .i64 a1, .int .i64 a2, .int .i64 a3], .agg #[.int .i64 b1, .int .i64 b2, .int .i64 b3]] w fun e w' =>
      e = .returned (.tuple #[.agg #[.int .i64 p, .int .i64 q, .int .i64 d], .bool b]) ∧ Below w.heap.size w w' := by
  by_cases hva : valid ⟨a1, a2, a3⟩ = true
  · have Hva := Lib.hid hva
    by_cases hvb : valid ⟨b1, b2, b3⟩ = true
    · have Hvb := Lib.hid hvb
      by_cases hz : b1 = 0 ∧ b2 = 0
      · have h3 := zero_den hvb hz.1 hz.2
        simp only at h3
        have HL := Lib.hid ((over_zero (a := ⟨a1, a2, a3⟩) (b := ⟨b1, b2, b3⟩) hz.1 hz.2).symm.trans H.out)
        have e1z : (b1 == 0) = true := by simpa using hz.1
        have e2z : (b2 == 0) = true := by simpa using hz.2
        have e3z : (b3 == 1) = true := by simpa using h3
        clear hva hvb H hz h3
        go_enter Tryd.func7, Tryd.ntmps7
        go_wp2_with fail
        refine (valid_any _ _ _ true _ Hva.out).mono ?_
        rintro e w1 ⟨rfl, hbw1⟩
        have Tw1 : TL w [(w.heap.size + 1 + 1, [.int .i64 0, .int .i64 0, .int .i64 0]), (w.heap.size + 1, [.int .i64 b1, .int .i64 b2, .int .i64 b3]), (w.heap.size, [.int .i64 a1, .int .i64 a2, .int .i64 a3])] w1 := TL.below (TL.new (t := 24) (TL.new (t := 24) (TL.new (t := 24) (TL.refl w) rfl) (by simp)) (by simp)) hbw1
        clear hbw1
        have Bw1 := Tw1.1.1
        have xw100 : w1.cell? ⟨w.heap.size + 1 + 1, 0, none⟩ = some (.int .i64 0) := Tw1.2.1.2.1.1
        have xw101 : w1.cell? ⟨w.heap.size + 1 + 1, 1, none⟩ = some (.int .i64 0) := Tw1.2.1.2.2.1.1
        have xw102 : w1.cell? ⟨w.heap.size + 1 + 1, 2, none⟩ = some (.int .i64 0) := Tw1.2.1.2.2.2.1.1
        have xw110 : w1.cell? ⟨w.heap.size + 1, 0, none⟩ = some (.int .i64 b1) := Tw1.2.2.1.2.1.1
        have xw111 : w1.cell? ⟨w.heap.size + 1, 1, none⟩ = some (.int .i64 b2) := Tw1.2.2.1.2.2.1.1
        have xw112 : w1.cell? ⟨w.heap.size + 1, 2, none⟩ = some (.int .i64 b3) := Tw1.2.2.1.2.2.2.1.1
        have xw120 : w1.cell? ⟨w.heap.size, 0, none⟩ = some (.int .i64 a1) := Tw1.2.2.2.1.2.1.1
        have xw121 : w1.cell? ⟨w.heap.size, 1, none⟩ = some (.int .i64 a2) := Tw1.2.2.2.1.2.2.1.1
        have xw122 : w1.cell? ⟨w.heap.size, 2, none⟩ = some (.int .i64 a3) := Tw1.2.2.2.1.2.2.2.1.1
        have lw10 := Tw1.2.1.1
        have lw11 := Tw1.2.2.1.1
        have lw12 := Tw1.2.2.2.1.1
        have fw10 : w1.frozen? ⟨w.heap.size + 1 + 1, 0, none⟩ = false := Tw1.2.1.2.1.2
        have fw11 : w1.frozen? ⟨w.heap.size + 1 + 1, 1, none⟩ = false := Tw1.2.1.2.2.1.2
        have fw12 : w1.frozen? ⟨w.heap.size + 1 + 1, 2, none⟩ = false := Tw1.2.1.2.2.2.1.2
        obtain ⟨zz0, zz1, zz2, zz3⟩ := ZC.below HZ Bw1
        go_wp2_with fail
        refine (valid_any _ _ _ true _ Hvb.out).mono ?_
        rintro e w2 ⟨rfl, hbw2⟩
        have Tw2 : TL w [(w.heap.size + 1 + 1, [.int .i64 0, .int .i64 0, .int .i64 0]), (w.heap.size + 1, [.int .i64 b1, .int .i64 b2, .int .i64 b3]), (w.heap.size, [.int .i64 a1, .int .i64 a2, .int .i64 a3])] w2 := TL.below (Tw1) hbw2
        clear hbw2
        have Bw2 := Tw2.1.1
        have xw200 : w2.cell? ⟨w.heap.size + 1 + 1, 0, none⟩ = some (.int .i64 0) := Tw2.2.1.2.1.1
        have xw201 : w2.cell? ⟨w.heap.size + 1 + 1, 1, none⟩ = some (.int .i64 0) := Tw2.2.1.2.2.1.1
        have xw202 : w2.cell? ⟨w.heap.size + 1 + 1, 2, none⟩ = some (.int .i64 0) := Tw2.2.1.2.2.2.1.1
        have xw210 : w2.cell? ⟨w.heap.size + 1, 0, none⟩ = some (.int .i64 b1) := Tw2.2.2.1.2.1.1
        have xw211 : w2.cell? ⟨w.heap.size + 1, 1, none⟩ = some (.int .i64 b2) := Tw2.2.2.1.2.2.1.1
        have xw212 : w2.cell? ⟨w.heap.size + 1, 2, none⟩ = some (.int .i64 b3) := Tw2.2.2.1.2.2.2.1.1
        have xw220 : w2.cell? ⟨w.heap.size, 0, none⟩ = some (.int .i64 a1) := Tw2.2.2.2.1.2.1.1
        have xw221 : w2.cell? ⟨w.heap.size, 1, none⟩ = some (.int .i64 a2) := Tw2.2.2.2.1.2.2.1.1
        have xw222 : w2.cell? ⟨w.heap.size, 2, none⟩ = some (.int .i64 a3) := Tw2.2.2.2.1.2.2.2.1.1
        have lw20 := Tw2.2.1.1
        have lw21 := Tw2.2.2.1.1
        have lw22 := Tw2.2.2.2.1.1
        have fw20 : w2.frozen? ⟨w.heap.size + 1 + 1, 0, none⟩ = false := Tw2.2.1.2.1.2
        have fw21 : w2.frozen? ⟨w.heap.size + 1 + 1, 1, none⟩ = false := Tw2.2.1.2.2.1.2
        have fw22 : w2.frozen? ⟨w.heap.size + 1 + 1, 2, none⟩ = false := Tw2.2.1.2.2.2.1.2
        obtain ⟨zz0, zz1, zz2, zz3⟩ := ZC.below HZ Bw2
        go_wp2_with fail
        refine bodyPost_ret (by simp [results, Tryd.results7, go_sem, xw200, xw201, xw202]; rfl) rfl ?_
        exact ⟨ret_fb HL.out, by go_grown⟩
      · have hne : ((b1 == 0 && b2 == 0) && b3 == 1) = false := by
          simp only [Bool.and_eq_false_imp, Bool.and_eq_true, beq_iff_eq]
          intro e; exact absurd e hz
        have hoi := over_inv hva hvb hz
        obtain ⟨b1l, b1r, b2l, b2r, b3l, b3r, -⟩ := valid_iff.1 hvb
        simp only at b1l b1r b2l b2r b3l b3r
        have m11 := sq_bd b1l b1r
        have m22 := sq_bd b2l b2r
        have m31 := mul_bd (show -2000000000 ≤ b3 by omega) b3r b1l b1r
        have m32 := mul_bd (x := -b3) (X := 2000000000) (by omega) (by omega) b2l b2r
        have hn1 := sq_pos (b := ⟨b1, b2, b3⟩) hz
        simp only [Int.reduceMul, Int.reduceNeg] at m11 m22 m31 m32
        simp only at hn1
        rcases hi : inv ⟨b1, b2, b3⟩ with ⟨⟨c1, c2, c3⟩, ok⟩
        rw [hi] at hoi
        have HI0 := (inv_neg ⟨b1, b2, b3⟩).symm.trans hi
        cases ok
        · have HI : Hid (low (b3 * b1) (-b3 * b2) (b1 * b1 + b2 * b2) = (⟨0, 0, 0⟩, false)) := low_nil (by rw [show low (b3 * b1) (-b3 * b2) (b1 * b1 + b2 * b2) = _ from HI0])
          have HL := Lib.hid (hoi.symm.trans H.out)
          have HZ0 := Lib.hid hz
          clear hva hvb H hoi hi HI0 hz
          by_cases e1 : b1 = 0
          · have e2 : b2 ≠ 0 := fun e => HZ0.out ⟨e1, e⟩
            have e2' : (b2 == 0) = false := by simpa using e2
            have e1z : (b1 == 0) = true := by simpa using e1
            clear e1
            go_enter Tryd.func7, Tryd.ntmps7
            go_wp2_with fail
            refine (valid_any _ _ _ true _ Hva.out).mono ?_
            rintro e w1 ⟨rfl, hbw1⟩
            have Tw1 : TL w [(w.heap.size + 1 + 1, [.int .i64 0, .int .i64 0, .int .i64 0]), (w.heap.size + 1, [.int .i64 b1, .int .i64 b2, .int .i64 b3]), (w.heap.size, [.int .i64 a1, .int .i64 a2, .int .i64 a3])] w1 := TL.below (TL.new (t := 24) (TL.new (t := 24) (TL.new (t := 24) (TL.refl w) rfl) (by simp)) (by simp)) hbw1
            clear hbw1
            have Bw1 := Tw1.1.1
            have xw100 : w1.cell? ⟨w.heap.size + 1 + 1, 0, none⟩ = some (.int .i64 0) := Tw1.2.1.2.1.1
            have xw101 : w1.cell? ⟨w.heap.size + 1 + 1, 1, none⟩ = some (.int .i64 0) := Tw1.2.1.2.2.1.1
            have xw102 : w1.cell? ⟨w.heap.size + 1 + 1, 2, none⟩ = some (.int .i64 0) := Tw1.2.1.2.2.2.1.1
            have xw110 : w1.cell? ⟨w.heap.size + 1, 0, none⟩ = some (.int .i64 b1) := Tw1.2.2.1.2.1.1
            have xw111 : w1.cell? ⟨w.heap.size + 1, 1, none⟩ = some (.int .i64 b2) := Tw1.2.2.1.2.2.1.1
            have xw112 : w1.cell? ⟨w.heap.size + 1, 2, none⟩ = some (.int .i64 b3) := Tw1.2.2.1.2.2.2.1.1
            have xw120 : w1.cell? ⟨w.heap.size, 0, none⟩ = some (.int .i64 a1) := Tw1.2.2.2.1.2.1.1
            have xw121 : w1.cell? ⟨w.heap.size, 1, none⟩ = some (.int .i64 a2) := Tw1.2.2.2.1.2.2.1.1
            have xw122 : w1.cell? ⟨w.heap.size, 2, none⟩ = some (.int .i64 a3) := Tw1.2.2.2.1.2.2.2.1.1
            have lw10 := Tw1.2.1.1
            have lw11 := Tw1.2.2.1.1
            have lw12 := Tw1.2.2.2.1.1
            have fw10 : w1.frozen? ⟨w.heap.size + 1 + 1, 0, none⟩ = false := Tw1.2.1.2.1.2
            have fw11 : w1.frozen? ⟨w.heap.size + 1 + 1, 1, none⟩ = false := Tw1.2.1.2.2.1.2
            have fw12 : w1.frozen? ⟨w.heap.size + 1 + 1, 2, none⟩ = false := Tw1.2.1.2.2.2.1.2
            obtain ⟨zz0, zz1, zz2, zz3⟩ := ZC.below HZ Bw1
            go_wp2_with fail
            refine (valid_any _ _ _ true _ Hvb.out).mono ?_
            rintro e w2 ⟨rfl, hbw2⟩
            have Tw2 : TL w [(w.heap.size + 1 + 1, [.int .i64 0, .int .i64 0, .int .i64 0]), (w.heap.size + 1, [.int .i64 b1, .int .i64 b2, .int .i64 b3]), (w.heap.size, [.int .i64 a1, .int .i64 a2, .int .i64 a3])] w2 := TL.below (Tw1) hbw2
            clear hbw2
            have Bw2 := Tw2.1.1
            have xw200 : w2.cell? ⟨w.heap.size + 1 + 1, 0, none⟩ = some (.int .i64 0) := Tw2.2.1.2.1.1
            have xw201 : w2.cell? ⟨w.heap.size + 1 + 1, 1, none⟩ = some (.int .i64 0) := Tw2.2.1.2.2.1.1
            have xw202 : w2.cell? ⟨w.heap.size + 1 + 1, 2, none⟩ = some (.int .i64 0) := Tw2.2.1.2.2.2.1.1
            have xw210 : w2.cell? ⟨w.heap.size + 1, 0, none⟩ = some (.int .i64 b1) := Tw2.2.2.1.2.1.1
            have xw211 : w2.cell? ⟨w.heap.size + 1, 1, none⟩ = some (.int .i64 b2) := Tw2.2.2.1.2.2.1.1
            have xw212 : w2.cell? ⟨w.heap.size + 1, 2, none⟩ = some (.int .i64 b3) := Tw2.2.2.1.2.2.2.1.1
            have xw220 : w2.cell? ⟨w.heap.size, 0, none⟩ = some (.int .i64 a1) := Tw2.2.2.2.1.2.1.1
            have xw221 : w2.cell? ⟨w.heap.size, 1, none⟩ = some (.int .i64 a2) := Tw2.2.2.2.1.2.2.1.1
            have xw222 : w2.cell? ⟨w.heap.size, 2, none⟩ = some (.int .i64 a3) := Tw2.2.2.2.1.2.2.2.1.1
            have lw20 := Tw2.2.1.1
            have lw21 := Tw2.2.2.1.1
            have lw22 := Tw2.2.2.2.1.1
            have fw20 : w2.frozen? ⟨w.heap.size + 1 + 1, 0, none⟩ = false := Tw2.2.1.2.1.2
            have fw21 : w2.frozen? ⟨w.heap.size + 1 + 1, 1, none⟩ = false := Tw2.2.1.2.2.1.2
            have fw22 : w2.frozen? ⟨w.heap.size + 1 + 1, 2, none⟩ = false := Tw2.2.1.2.2.2.1.2
            obtain ⟨zz0, zz1, zz2, zz3⟩ := ZC.below HZ Bw2
            go_wp2_with fail
            refine (lowest_any _ _ _ 0 0 0 false _ HI (by omega) (by omega) (by omega) (by omega) (by omega) (by omega)).mono ?_
            rintro e w3 ⟨rfl, hbw3⟩
            have Tw3 : TL w [(w.heap.size + 1 + 1, [.int .i64 0, .int .i64 0, .int .i64 0]), (w.heap.size + 1, [.int .i64 b1, .int .i64 b2, .int .i64 b3]), (w.heap.size, [.int .i64 a1, .int .i64 a2, .int .i64 a3])] w3 := TL.below (Tw2) hbw3
            clear hbw3
            have Bw3 := Tw3.1.1
            have xw300 : w3.cell? ⟨w.heap.size + 1 + 1, 0, none⟩ = some (.int .i64 0) := Tw3.2.1.2.1.1
            have xw301 : w3.cell? ⟨w.heap.size + 1 + 1, 1, none⟩ = some (.int .i64 0) := Tw3.2.1.2.2.1.1
            have xw302 : w3.cell? ⟨w.heap.size + 1 + 1, 2, none⟩ = some (.int .i64 0) := Tw3.2.1.2.2.2.1.1
            have xw310 : w3.cell? ⟨w.heap.size + 1, 0, none⟩ = some (.int .i64 b1) := Tw3.2.2.1.2.1.1
            have xw311 : w3.cell? ⟨w.heap.size + 1, 1, none⟩ = some (.int .i64 b2) := Tw3.2.2.1.2.2.1.1
            have xw312 : w3.cell? ⟨w.heap.size + 1, 2, none⟩ = some (.int .i64 b3) := Tw3.2.2.1.2.2.2.1.1
            have xw320 : w3.cell? ⟨w.heap.size, 0, none⟩ = some (.int .i64 a1) := Tw3.2.2.2.1.2.1.1
            have xw321 : w3.cell? ⟨w.heap.size, 1, none⟩ = some (.int .i64 a2) := Tw3.2.2.2.1.2.2.1.1
            have xw322 : w3.cell? ⟨w.heap.size, 2, none⟩ = some (.int .i64 a3) := Tw3.2.2.2.1.2.2.2.1.1
            have lw30 := Tw3.2.1.1
            have lw31 := Tw3.2.2.1.1
            have lw32 := Tw3.2.2.2.1.1
            have fw30 : w3.frozen? ⟨w.heap.size + 1 + 1, 0, none⟩ = false := Tw3.2.1.2.1.2
            have fw31 : w3.frozen? ⟨w.heap.size + 1 + 1, 1, none⟩ = false := Tw3.2.1.2.2.1.2
            have fw32 : w3.frozen? ⟨w.heap.size + 1 + 1, 2, none⟩ = false := Tw3.2.1.2.2.2.1.2
            go_wp2_with fail
            refine bodyPost_ret (by simp [results, Tryd.results7, go_sem, xw300, xw301, xw302, lw30]; rfl) rfl ?_
            exact ⟨ret_fb HL.out, by go_grown⟩
          · have e1' : (b1 == 0) = false := by simpa using e1
            go_enter Tryd.func7, Tryd.ntmps7
            go_wp2_with fail
            refine (valid_any _ _ _ true _ Hva.out).mono ?_
            rintro e w1 ⟨rfl, hbw1⟩
            have Tw1 : TL w [(w.heap.size + 1 + 1, [.int .i64 0, .int .i64 0, .int .i64 0]), (w.heap.size + 1, [.int .i64 b1, .int .i64 b2, .int .i64 b3]), (w.heap.size, [.int .i64 a1, .int .i64 a2, .int .i64 a3])] w1 := TL.below (TL.new (t := 24) (TL.new (t := 24) (TL.new (t := 24) (TL.refl w) rfl) (by simp)) (by simp)) hbw1
            clear hbw1
            have Bw1 := Tw1.1.1
            have xw100 : w1.cell? ⟨w.heap.size + 1 + 1, 0, none⟩ = some (.int .i64 0) := Tw1.2.1.2.1.1
            have xw101 : w1.cell? ⟨w.heap.size + 1 + 1, 1, none⟩ = some (.int .i64 0) := Tw1.2.1.2.2.1.1
            have xw102 : w1.cell? ⟨w.heap.size + 1 + 1, 2, none⟩ = some (.int .i64 0) := Tw1.2.1.2.2.2.1.1
            have xw110 : w1.cell? ⟨w.heap.size + 1, 0, none⟩ = some (.int .i64 b1) := Tw1.2.2.1.2.1.1
            have xw111 : w1.cell? ⟨w.heap.size + 1, 1, none⟩ = some (.int .i64 b2) := Tw1.2.2.1.2.2.1.1
            have xw112 : w1.cell? ⟨w.heap.size + 1, 2, none⟩ = some (.int .i64 b3) := Tw1.2.2.1.2.2.2.1.1
            have xw120 : w1.cell? ⟨w.heap.size, 0, none⟩ = some (.int .i64 a1) := Tw1.2.2.2.1.2.1.1
            have xw121 : w1.cell? ⟨w.heap.size, 1, none⟩ = some (.int .i64 a2) := Tw1.2.2.2.1.2.2.1.1
            have xw122 : w1.cell? ⟨w.heap.size, 2, none⟩ = some (.int .i64 a3) := Tw1.2.2.2.1.2.2.2.1.1
            have lw10 := Tw1.2.1.1
            have lw11 := Tw1.2.2.1.1
            have lw12 := Tw1.2.2.2.1.1
            have fw10 : w1.frozen? ⟨w.heap.size + 1 + 1, 0, none⟩ = false := Tw1.2.1.2.1.2
            have fw11 : w1.frozen? ⟨w.heap.size + 1 + 1, 1, none⟩ = false := Tw1.2.1.2.2.1.2
            have fw12 : w1.frozen? ⟨w.heap.size + 1 + 1, 2, none⟩ = false := Tw1.2.1.2.2.2.1.2
            obtain ⟨zz0, zz1, zz2, zz3⟩ := ZC.below HZ Bw1
            go_wp2_with fail
            refine (valid_any _ _ _ true _ Hvb.out).mono ?_
            rintro e w2 ⟨rfl, hbw2⟩
            have Tw2 : TL w [(w.heap.size + 1 + 1, [.int .i64 0, .int .i64 0, .int .i64 0]), (w.heap.size + 1, [.int .i64 b1, .int .i64 b2, .int .i64 b3]), (w.heap.size, [.int .i64 a1, .int .i64 a2, .int .i64 a3])] w2 := TL.below (Tw1) hbw2
            clear hbw2
            have Bw2 := Tw2.1.1
            have xw200 : w2.cell? ⟨w.heap.size + 1 + 1, 0, none⟩ = some (.int .i64 0) := Tw2.2.1.2.1.1
            have xw201 : w2.cell? ⟨w.heap.size + 1 + 1, 1, none⟩ = some (.int .i64 0) := Tw2.2.1.2.2.1.1
            have xw202 : w2.cell? ⟨w.heap.size + 1 + 1, 2, none⟩ = some (.int .i64 0) := Tw2.2.1.2.2.2.1.1
            have xw210 : w2.cell? ⟨w.heap.size + 1, 0, none⟩ = some (.int .i64 b1) := Tw2.2.2.1.2.1.1
            have xw211 : w2.cell? ⟨w.heap.size + 1, 1, none⟩ = some (.int .i64 b2) := Tw2.2.2.1.2.2.1.1
            have xw212 : w2.cell? ⟨w.heap.size + 1, 2, none⟩ = some (.int .i64 b3) := Tw2.2.2.1.2.2.2.1.1
            have xw220 : w2.cell? ⟨w.heap.size, 0, none⟩ = some (.int .i64 a1) := Tw2.2.2.2.1.2.1.1
            have xw221 : w2.cell? ⟨w.heap.size, 1, none⟩ = some (.int .i64 a2) := Tw2.2.2.2.1.2.2.1.1
            have xw222 : w2.cell? ⟨w.heap.size, 2, none⟩ = some (.int .i64 a3) := Tw2.2.2.2.1.2.2.2.1.1
            have lw20 := Tw2.2.1.1
            have lw21 := Tw2.2.2.1.1
            have lw22 := Tw2.2.2.2.1.1
            have fw20 : w2.frozen? ⟨w.heap.size + 1 + 1, 0, none⟩ = false := Tw2.2.1.2.1.2
            have fw21 : w2.frozen? ⟨w.heap.size + 1 + 1, 1, none⟩ = false := Tw2.2.1.2.2.1.2
            have fw22 : w2.frozen? ⟨w.heap.size + 1 + 1, 2, none⟩ = false := Tw2.2.1.2.2.2.1.2
            obtain ⟨zz0, zz1, zz2, zz3⟩ := ZC.below HZ Bw2
            go_wp2_with fail
            refine (lowest_any _ _ _ 0 0 0 false _ HI (by omega) (by omega) (by omega) (by omega) (by omega) (by omega)).mono ?_
            rintro e w3 ⟨rfl, hbw3⟩
            have Tw3 : TL w [(w.heap.size + 1 + 1, [.int .i64 0, .int .i64 0, .int .i64 0]), (w.heap.size + 1, [.int .i64 b1, .int .i64 b2, .int .i64 b3]), (w.heap.size, [.int .i64 a1, .int .i64 a2, .int .i64 a3])] w3 := TL.below (Tw2) hbw3
            clear hbw3
            have Bw3 := Tw3.1.1
            have xw300 : w3.cell? ⟨w.heap.size + 1 + 1, 0, none⟩ = some (.int .i64 0) := Tw3.2.1.2.1.1
            have xw301 : w3.cell? ⟨w.heap.size + 1 + 1, 1, none⟩ = some (.int .i64 0) := Tw3.2.1.2.2.1.1
            have xw302 : w3.cell? ⟨w.heap.size + 1 + 1, 2, none⟩ = some (.int .i64 0) := Tw3.2.1.2.2.2.1.1
            have xw310 : w3.cell? ⟨w.heap.size + 1, 0, none⟩ = some (.int .i64 b1) := Tw3.2.2.1.2.1.1
            have xw311 : w3.cell? ⟨w.heap.size + 1, 1, none⟩ = some (.int .i64 b2) := Tw3.2.2.1.2.2.1.1
            have xw312 : w3.cell? ⟨w.heap.size + 1, 2, none⟩ = some (.int .i64 b3) := Tw3.2.2.1.2.2.2.1.1
            have xw320 : w3.cell? ⟨w.heap.size, 0, none⟩ = some (.int .i64 a1) := Tw3.2.2.2.1.2.1.1
            have xw321 : w3.cell? ⟨w.heap.size, 1, none⟩ = some (.int .i64 a2) := Tw3.2.2.2.1.2.2.1.1
            have xw322 : w3.cell? ⟨w.heap.size, 2, none⟩ = some (.int .i64 a3) := Tw3.2.2.2.1.2.2.2.1.1
            have lw30 := Tw3.2.1.1
            have lw31 := Tw3.2.2.1.1
            have lw32 := Tw3.2.2.2.1.1
            have fw30 : w3.frozen? ⟨w.heap.size + 1 + 1, 0, none⟩ = false := Tw3.2.1.2.1.2
            have fw31 : w3.frozen? ⟨w.heap.size + 1 + 1, 1, none⟩ = false := Tw3.2.1.2.2.1.2
            have fw32 : w3.frozen? ⟨w.heap.size + 1 + 1, 2, none⟩ = false := Tw3.2.1.2.2.2.1.2
            go_wp2_with fail
            refine bodyPost_ret (by simp [results, Tryd.results7, go_sem, xw300, xw301, xw302, lw30]; rfl) rfl ?_
            exact ⟨ret_fb HL.out, by go_grown⟩
        · have HI : Hid (low (b3 * b1) (-b3 * b2) (b1 * b1 + b2 * b2) = (⟨c1, c2, c3⟩, true)) := HI0
          have HL := Lib.hid (hoi.symm.trans H.out)
          have HZ0 := Lib.hid hz
          clear hva hvb H hoi hi HI0 hz
          by_cases e1 : b1 = 0
          · have e2 : b2 ≠ 0 := fun e => HZ0.out ⟨e1, e⟩
            have e2' : (b2 == 0) = false := by simpa using e2
            have e1z : (b1 == 0) = true := by simpa using e1
            clear e1
            go_enter Tryd.func7, Tryd.ntmps7
            go_wp2_with fail
            refine (valid_any _ _ _ true _ Hva.out).mono ?_
            rintro e w1 ⟨rfl, hbw1⟩
            have Tw1 : TL w [(w.heap.size + 1 + 1, [.int .i64 0, .int .i64 0, .int .i64 0]), (w.heap.size + 1, [.int .i64 b1, .int .i64 b2, .int .i64 b3]), (w.heap.size, [.int .i64 a1, .int .i64 a2, .int .i64 a3])] w1 := TL.below (TL.new (t := 24) (TL.new (t := 24) (TL.new (t := 24) (TL.refl w) rfl) (by simp)) (by simp)) hbw1
            clear hbw1
            have Bw1 := Tw1.1.1
            have xw100 : w1.cell? ⟨w.heap.size + 1 + 1, 0, none⟩ = some (.int .i64 0) := Tw1.2.1.2.1.1
            have xw101 : w1.cell? ⟨w.heap.size + 1 + 1, 1, none⟩ = some (.int .i64 0) := Tw1.2.1.2.2.1.1
            have xw102 : w1.cell? ⟨w.heap.size + 1 + 1, 2, none⟩ = some (.int .i64 0) := Tw1.2.1.2.2.2.1.1
            have xw110 : w1.cell? ⟨w.heap.size + 1, 0, none⟩ = some (.int .i64 b1) := Tw1.2.2.1.2.1.1
            have xw111 : w1.cell? ⟨w.heap.size + 1, 1, none⟩ = some (.int .i64 b2) := Tw1.2.2.1.2.2.1.1
            have xw112 : w1.cell? ⟨w.heap.size + 1, 2, none⟩ = some (.int .i64 b3) := Tw1.2.2.1.2.2.2.1.1
            have xw120 : w1.cell? ⟨w.heap.size, 0, none⟩ = some (.int .i64 a1) := Tw1.2.2.2.1.2.1.1
            have xw121 : w1.cell? ⟨w.heap.size, 1, none⟩ = some (.int .i64 a2) := Tw1.2.2.2.1.2.2.1.1
            have xw122 : w1.cell? ⟨w.heap.size, 2, none⟩ = some (.int .i64 a3) := Tw1.2.2.2.1.2.2.2.1.1
            have lw10 := Tw1.2.1.1
            have lw11 := Tw1.2.2.1.1
            have lw12 := Tw1.2.2.2.1.1
            have fw10 : w1.frozen? ⟨w.heap.size + 1 + 1, 0, none⟩ = false := Tw1.2.1.2.1.2
            have fw11 : w1.frozen? ⟨w.heap.size + 1 + 1, 1, none⟩ = false := Tw1.2.1.2.2.1.2
            have fw12 : w1.frozen? ⟨w.heap.size + 1 + 1, 2, none⟩ = false := Tw1.2.1.2.2.2.1.2
            obtain ⟨zz0, zz1, zz2, zz3⟩ := ZC.below HZ Bw1
            go_wp2_with fail
            refine (valid_any _ _ _ true _ Hvb.out).mono ?_
            rintro e w2 ⟨rfl, hbw2⟩
            have Tw2 : TL w [(w.heap.size + 1 + 1, [.int .i64 0, .int .i64 0, .int .i64 0]), (w.heap.size + 1, [.int .i64 b1, .int .i64 b2, .int .i64 b3]), (w.heap.size, [.int .i64 a1, .int .i64 a2, .int .i64 a3])] w2 := TL.below (Tw1) hbw2
            clear hbw2
            have Bw2 := Tw2.1.1
            have xw200 : w2.cell? ⟨w.heap.size + 1 + 1, 0, none⟩ = some (.int .i64 0) := Tw2.2.1.2.1.1
            have xw201 : w2.cell? ⟨w.heap.size + 1 + 1, 1, none⟩ = some (.int .i64 0) := Tw2.2.1.2.2.1.1
            have xw202 : w2.cell? ⟨w.heap.size + 1 + 1, 2, none⟩ = some (.int .i64 0) := Tw2.2.1.2.2.2.1.1
            have xw210 : w2.cell? ⟨w.heap.size + 1, 0, none⟩ = some (.int .i64 b1) := Tw2.2.2.1.2.1.1
            have xw211 : w2.cell? ⟨w.heap.size + 1, 1, none⟩ = some (.int .i64 b2) := Tw2.2.2.1.2.2.1.1
            have xw212 : w2.cell? ⟨w.heap.size + 1, 2, none⟩ = some (.int .i64 b3) := Tw2.2.2.1.2.2.2.1.1
            have xw220 : w2.cell? ⟨w.heap.size, 0, none⟩ = some (.int .i64 a1) := Tw2.2.2.2.1.2.1.1
            have xw221 : w2.cell? ⟨w.heap.size, 1, none⟩ = some (.int .i64 a2) := Tw2.2.2.2.1.2.2.1.1
            have xw222 : w2.cell? ⟨w.heap.size, 2, none⟩ = some (.int .i64 a3) := Tw2.2.2.2.1.2.2.2.1.1
            have lw20 := Tw2.2.1.1
            have lw21 := Tw2.2.2.1.1
            have lw22 := Tw2.2.2.2.1.1
            have fw20 : w2.frozen? ⟨w.heap.size + 1 + 1, 0, none⟩ = false := Tw2.2.1.2.1.2
            have fw21 : w2.frozen? ⟨w.heap.size + 1 + 1, 1, none⟩ = false := Tw2.2.1.2.2.1.2
            have fw22 : w2.frozen? ⟨w.heap.size + 1 + 1, 2, none⟩ = false := Tw2.2.1.2.2.2.1.2
            obtain ⟨zz0, zz1, zz2, zz3⟩ := ZC.below HZ Bw2
            go_wp2_with fail
            refine (lowest_any _ _ _ c1 c2 c3 true _ HI (by omega) (by omega) (by omega) (by omega) (by omega) (by omega)).mono ?_
            rintro e w3 ⟨rfl, hbw3⟩
            have Tw3 : TL w [(w.heap.size + 1 + 1, [.int .i64 0, .int .i64 0, .int .i64 0]), (w.heap.size + 1, [.int .i64 b1, .int .i64 b2, .int .i64 b3]), (w.heap.size, [.int .i64 a1, .int .i64 a2, .int .i64 a3])] w3 := TL.below (Tw2) hbw3
            clear hbw3
            have Bw3 := Tw3.1.1
            have xw300 : w3.cell? ⟨w.heap.size + 1 + 1, 0, none⟩ = some (.int .i64 0) := Tw3.2.1.2.1.1
            have xw301 : w3.cell? ⟨w.heap.size + 1 + 1, 1, none⟩ = some (.int .i64 0) := Tw3.2.1.2.2.1.1
            have xw302 : w3.cell? ⟨w.heap.size + 1 + 1, 2, none⟩ = some (.int .i64 0) := Tw3.2.1.2.2.2.1.1
            have xw310 : w3.cell? ⟨w.heap.size + 1, 0, none⟩ = some (.int .i64 b1) := Tw3.2.2.1.2.1.1
            have xw311 : w3.cell? ⟨w.heap.size + 1, 1, none⟩ = some (.int .i64 b2) := Tw3.2.2.1.2.2.1.1
            have xw312 : w3.cell? ⟨w.heap.size + 1, 2, none⟩ = some (.int .i64 b3) := Tw3.2.2.1.2.2.2.1.1
            have xw320 : w3.cell? ⟨w.heap.size, 0, none⟩ = some (.int .i64 a1) := Tw3.2.2.2.1.2.1.1
            have xw321 : w3.cell? ⟨w.heap.size, 1, none⟩ = some (.int .i64 a2) := Tw3.2.2.2.1.2.2.1.1
            have xw322 : w3.cell? ⟨w.heap.size, 2, none⟩ = some (.int .i64 a3) := Tw3.2.2.2.1.2.2.2.1.1
            have lw30 := Tw3.2.1.1
            have lw31 := Tw3.2.2.1.1
            have lw32 := Tw3.2.2.2.1.1
            have fw30 : w3.frozen? ⟨w.heap.size + 1 + 1, 0, none⟩ = false := Tw3.2.1.2.1.2
            have fw31 : w3.frozen? ⟨w.heap.size + 1 + 1, 1, none⟩ = false := Tw3.2.1.2.2.1.2
            have fw32 : w3.frozen? ⟨w.heap.size + 1 + 1, 2, none⟩ = false := Tw3.2.1.2.2.2.1.2
            go_wp2_with fail
            refine (times_any _ _ _ _ _ _ p q d b _ HL).mono ?_
            rintro e w4 ⟨rfl, hbw4⟩
            have Tw4 : TL w [(w3.heap.size, [.int .i64 c1, .int .i64 c2, .int .i64 c3]), (w.heap.size + 1 + 1, [.int .i64 0, .int .i64 0, .int .i64 0]), (w.heap.size + 1, [.int .i64 b1, .int .i64 b2, .int .i64 b3]), (w.heap.size, [.int .i64 a1, .int .i64 a2, .int .i64 a3])] w4 := TL.below (TL.new (t := 24) Tw3 rfl) hbw4
            clear hbw4
            have Bw4 := Tw4.1.1
            have xw400 : w4.cell? ⟨w3.heap.size, 0, none⟩ = some (.int .i64 c1) := Tw4.2.1.2.1.1
            have xw401 : w4.cell? ⟨w3.heap.size, 1, none⟩ = some (.int .i64 c2) := Tw4.2.1.2.2.1.1
            have xw402 : w4.cell? ⟨w3.heap.size, 2, none⟩ = some (.int .i64 c3) := Tw4.2.1.2.2.2.1.1
            have xw410 : w4.cell? ⟨w.heap.size + 1 + 1, 0, none⟩ = some (.int .i64 0) := Tw4.2.2.1.2.1.1
            have xw411 : w4.cell? ⟨w.heap.size + 1 + 1, 1, none⟩ = some (.int .i64 0) := Tw4.2.2.1.2.2.1.1
            have xw412 : w4.cell? ⟨w.heap.size + 1 + 1, 2, none⟩ = some (.int .i64 0) := Tw4.2.2.1.2.2.2.1.1
            have xw420 : w4.cell? ⟨w.heap.size + 1, 0, none⟩ = some (.int .i64 b1) := Tw4.2.2.2.1.2.1.1
            have xw421 : w4.cell? ⟨w.heap.size + 1, 1, none⟩ = some (.int .i64 b2) := Tw4.2.2.2.1.2.2.1.1
            have xw422 : w4.cell? ⟨w.heap.size + 1, 2, none⟩ = some (.int .i64 b3) := Tw4.2.2.2.1.2.2.2.1.1
            have xw430 : w4.cell? ⟨w.heap.size, 0, none⟩ = some (.int .i64 a1) := Tw4.2.2.2.2.1.2.1.1
            have xw431 : w4.cell? ⟨w.heap.size, 1, none⟩ = some (.int .i64 a2) := Tw4.2.2.2.2.1.2.2.1.1
            have xw432 : w4.cell? ⟨w.heap.size, 2, none⟩ = some (.int .i64 a3) := Tw4.2.2.2.2.1.2.2.2.1.1
            have lw40 := Tw4.2.1.1
            have lw41 := Tw4.2.2.1.1
            have lw42 := Tw4.2.2.2.1.1
            have lw43 := Tw4.2.2.2.2.1.1
            have fw40 : w4.frozen? ⟨w.heap.size + 1 + 1, 0, none⟩ = false := Tw4.2.2.1.2.1.2
            have fw41 : w4.frozen? ⟨w.heap.size + 1 + 1, 1, none⟩ = false := Tw4.2.2.1.2.2.1.2
            have fw42 : w4.frozen? ⟨w.heap.size + 1 + 1, 2, none⟩ = false := Tw4.2.2.1.2.2.2.1.2
            go_wp2_with fail
            refine bodyPost_ret (by simp [results, Tryd.results7, go_sem, xw410, xw411, xw412]; rfl) rfl ?_
            exact ⟨rfl, by go_grown⟩
          · have e1' : (b1 == 0) = false := by simpa using e1
            go_enter Tryd.func7, Tryd.ntmps7
            go_wp2_with fail
            refine (valid_any _ _ _ true _ Hva.out).mono ?_
            rintro e w1 ⟨rfl, hbw1⟩
            have Tw1 : TL w [(w.heap.size + 1 + 1, [.int .i64 0, .int .i64 0, .int .i64 0]), (w.heap.size + 1, [.int .i64 b1, .int .i64 b2, .int .i64 b3]), (w.heap.size, [.int .i64 a1, .int .i64 a2, .int .i64 a3])] w1 := TL.below (TL.new (t := 24) (TL.new (t := 24) (TL.new (t := 24) (TL.refl w) rfl) (by simp)) (by simp)) hbw1
            clear hbw1
            have Bw1 := Tw1.1.1
            have xw100 : w1.cell? ⟨w.heap.size + 1 + 1, 0, none⟩ = some (.int .i64 0) := Tw1.2.1.2.1.1
            have xw101 : w1.cell? ⟨w.heap.size + 1 + 1, 1, none⟩ = some (.int .i64 0) := Tw1.2.1.2.2.1.1
            have xw102 : w1.cell? ⟨w.heap.size + 1 + 1, 2, none⟩ = some (.int .i64 0) := Tw1.2.1.2.2.2.1.1
            have xw110 : w1.cell? ⟨w.heap.size + 1, 0, none⟩ = some (.int .i64 b1) := Tw1.2.2.1.2.1.1
            have xw111 : w1.cell? ⟨w.heap.size + 1, 1, none⟩ = some (.int .i64 b2) := Tw1.2.2.1.2.2.1.1
            have xw112 : w1.cell? ⟨w.heap.size + 1, 2, none⟩ = some (.int .i64 b3) := Tw1.2.2.1.2.2.2.1.1
            have xw120 : w1.cell? ⟨w.heap.size, 0, none⟩ = some (.int .i64 a1) := Tw1.2.2.2.1.2.1.1
            have xw121 : w1.cell? ⟨w.heap.size, 1, none⟩ = some (.int .i64 a2) := Tw1.2.2.2.1.2.2.1.1
            have xw122 : w1.cell? ⟨w.heap.size, 2, none⟩ = some (.int .i64 a3) := Tw1.2.2.2.1.2.2.2.1.1
            have lw10 := Tw1.2.1.1
            have lw11 := Tw1.2.2.1.1
            have lw12 := Tw1.2.2.2.1.1
            have fw10 : w1.frozen? ⟨w.heap.size + 1 + 1, 0, none⟩ = false := Tw1.2.1.2.1.2
            have fw11 : w1.frozen? ⟨w.heap.size + 1 + 1, 1, none⟩ = false := Tw1.2.1.2.2.1.2
            have fw12 : w1.frozen? ⟨w.heap.size + 1 + 1, 2, none⟩ = false := Tw1.2.1.2.2.2.1.2
            obtain ⟨zz0, zz1, zz2, zz3⟩ := ZC.below HZ Bw1
            go_wp2_with fail
            refine (valid_any _ _ _ true _ Hvb.out).mono ?_
            rintro e w2 ⟨rfl, hbw2⟩
            have Tw2 : TL w [(w.heap.size + 1 + 1, [.int .i64 0, .int .i64 0, .int .i64 0]), (w.heap.size + 1, [.int .i64 b1, .int .i64 b2, .int .i64 b3]), (w.heap.size, [.int .i64 a1, .int .i64 a2, .int .i64 a3])] w2 := TL.below (Tw1) hbw2
            clear hbw2
            have Bw2 := Tw2.1.1
            have xw200 : w2.cell? ⟨w.heap.size + 1 + 1, 0, none⟩ = some (.int .i64 0) := Tw2.2.1.2.1.1
            have xw201 : w2.cell? ⟨w.heap.size + 1 + 1, 1, none⟩ = some (.int .i64 0) := Tw2.2.1.2.2.1.1
            have xw202 : w2.cell? ⟨w.heap.size + 1 + 1, 2, none⟩ = some (.int .i64 0) := Tw2.2.1.2.2.2.1.1
            have xw210 : w2.cell? ⟨w.heap.size + 1, 0, none⟩ = some (.int .i64 b1) := Tw2.2.2.1.2.1.1
            have xw211 : w2.cell? ⟨w.heap.size + 1, 1, none⟩ = some (.int .i64 b2) := Tw2.2.2.1.2.2.1.1
            have xw212 : w2.cell? ⟨w.heap.size + 1, 2, none⟩ = some (.int .i64 b3) := Tw2.2.2.1.2.2.2.1.1
            have xw220 : w2.cell? ⟨w.heap.size, 0, none⟩ = some (.int .i64 a1) := Tw2.2.2.2.1.2.1.1
            have xw221 : w2.cell? ⟨w.heap.size, 1, none⟩ = some (.int .i64 a2) := Tw2.2.2.2.1.2.2.1.1
            have xw222 : w2.cell? ⟨w.heap.size, 2, none⟩ = some (.int .i64 a3) := Tw2.2.2.2.1.2.2.2.1.1
            have lw20 := Tw2.2.1.1
            have lw21 := Tw2.2.2.1.1
            have lw22 := Tw2.2.2.2.1.1
            have fw20 : w2.frozen? ⟨w.heap.size + 1 + 1, 0, none⟩ = false := Tw2.2.1.2.1.2
            have fw21 : w2.frozen? ⟨w.heap.size + 1 + 1, 1, none⟩ = false := Tw2.2.1.2.2.1.2
            have fw22 : w2.frozen? ⟨w.heap.size + 1 + 1, 2, none⟩ = false := Tw2.2.1.2.2.2.1.2
            obtain ⟨zz0, zz1, zz2, zz3⟩ := ZC.below HZ Bw2
            go_wp2_with fail
            refine (lowest_any _ _ _ c1 c2 c3 true _ HI (by omega) (by omega) (by omega) (by omega) (by omega) (by omega)).mono ?_
            rintro e w3 ⟨rfl, hbw3⟩
            have Tw3 : TL w [(w.heap.size + 1 + 1, [.int .i64 0, .int .i64 0, .int .i64 0]), (w.heap.size + 1, [.int .i64 b1, .int .i64 b2, .int .i64 b3]), (w.heap.size, [.int .i64 a1, .int .i64 a2, .int .i64 a3])] w3 := TL.below (Tw2) hbw3
            clear hbw3
            have Bw3 := Tw3.1.1
            have xw300 : w3.cell? ⟨w.heap.size + 1 + 1, 0, none⟩ = some (.int .i64 0) := Tw3.2.1.2.1.1
            have xw301 : w3.cell? ⟨w.heap.size + 1 + 1, 1, none⟩ = some (.int .i64 0) := Tw3.2.1.2.2.1.1
            have xw302 : w3.cell? ⟨w.heap.size + 1 + 1, 2, none⟩ = some (.int .i64 0) := Tw3.2.1.2.2.2.1.1
            have xw310 : w3.cell? ⟨w.heap.size + 1, 0, none⟩ = some (.int .i64 b1) := Tw3.2.2.1.2.1.1
            have xw311 : w3.cell? ⟨w.heap.size + 1, 1, none⟩ = some (.int .i64 b2) := Tw3.2.2.1.2.2.1.1
            have xw312 : w3.cell? ⟨w.heap.size + 1, 2, none⟩ = some (.int .i64 b3) := Tw3.2.2.1.2.2.2.1.1
            have xw320 : w3.cell? ⟨w.heap.size, 0, none⟩ = some (.int .i64 a1) := Tw3.2.2.2.1.2.1.1
            have xw321 : w3.cell? ⟨w.heap.size, 1, none⟩ = some (.int .i64 a2) := Tw3.2.2.2.1.2.2.1.1
            have xw322 : w3.cell? ⟨w.heap.size, 2, none⟩ = some (.int .i64 a3) := Tw3.2.2.2.1.2.2.2.1.1
            have lw30 := Tw3.2.1.1
            have lw31 := Tw3.2.2.1.1
            have lw32 := Tw3.2.2.2.1.1
            have fw30 : w3.frozen? ⟨w.heap.size + 1 + 1, 0, none⟩ = false := Tw3.2.1.2.1.2
            have fw31 : w3.frozen? ⟨w.heap.size + 1 + 1, 1, none⟩ = false := Tw3.2.1.2.2.1.2
            have fw32 : w3.frozen? ⟨w.heap.size + 1 + 1, 2, none⟩ = false := Tw3.2.1.2.2.2.1.2
            go_wp2_with fail
            refine (times_any _ _ _ _ _ _ p q d b _ HL).mono ?_
            rintro e w4 ⟨rfl, hbw4⟩
            have Tw4 : TL w [(w3.heap.size, [.int .i64 c1, .int .i64 c2, .int .i64 c3]), (w.heap.size + 1 + 1, [.int .i64 0, .int .i64 0, .int .i64 0]), (w.heap.size + 1, [.int .i64 b1, .int .i64 b2, .int .i64 b3]), (w.heap.size, [.int .i64 a1, .int .i64 a2, .int .i64 a3])] w4 := TL.below (TL.new (t := 24) Tw3 rfl) hbw4
            clear hbw4
            have Bw4 := Tw4.1.1
            have xw400 : w4.cell? ⟨w3.heap.size, 0, none⟩ = some (.int .i64 c1) := Tw4.2.1.2.1.1
            have xw401 : w4.cell? ⟨w3.heap.size, 1, none⟩ = some (.int .i64 c2) := Tw4.2.1.2.2.1.1
            have xw402 : w4.cell? ⟨w3.heap.size, 2, none⟩ = some (.int .i64 c3) := Tw4.2.1.2.2.2.1.1
            have xw410 : w4.cell? ⟨w.heap.size + 1 + 1, 0, none⟩ = some (.int .i64 0) := Tw4.2.2.1.2.1.1
            have xw411 : w4.cell? ⟨w.heap.size + 1 + 1, 1, none⟩ = some (.int .i64 0) := Tw4.2.2.1.2.2.1.1
            have xw412 : w4.cell? ⟨w.heap.size + 1 + 1, 2, none⟩ = some (.int .i64 0) := Tw4.2.2.1.2.2.2.1.1
            have xw420 : w4.cell? ⟨w.heap.size + 1, 0, none⟩ = some (.int .i64 b1) := Tw4.2.2.2.1.2.1.1
            have xw421 : w4.cell? ⟨w.heap.size + 1, 1, none⟩ = some (.int .i64 b2) := Tw4.2.2.2.1.2.2.1.1
            have xw422 : w4.cell? ⟨w.heap.size + 1, 2, none⟩ = some (.int .i64 b3) := Tw4.2.2.2.1.2.2.2.1.1
            have xw430 : w4.cell? ⟨w.heap.size, 0, none⟩ = some (.int .i64 a1) := Tw4.2.2.2.2.1.2.1.1
            have xw431 : w4.cell? ⟨w.heap.size, 1, none⟩ = some (.int .i64 a2) := Tw4.2.2.2.2.1.2.2.1.1
            have xw432 : w4.cell? ⟨w.heap.size, 2, none⟩ = some (.int .i64 a3) := Tw4.2.2.2.2.1.2.2.2.1.1
            have lw40 := Tw4.2.1.1
            have lw41 := Tw4.2.2.1.1
            have lw42 := Tw4.2.2.2.1.1
            have lw43 := Tw4.2.2.2.2.1.1
            have fw40 : w4.frozen? ⟨w.heap.size + 1 + 1, 0, none⟩ = false := Tw4.2.2.1.2.1.2
            have fw41 : w4.frozen? ⟨w.heap.size + 1 + 1, 1, none⟩ = false := Tw4.2.2.1.2.2.1.2
            have fw42 : w4.frozen? ⟨w.heap.size + 1 + 1, 2, none⟩ = false := Tw4.2.2.1.2.2.2.1.2
            go_wp2_with fail
            refine bodyPost_ret (by simp [results, Tryd.results7, go_sem, xw410, xw411, xw412]; rfl) rfl ?_
            exact ⟨rfl, by go_grown⟩
    · have Hvb := Lib.hid (show valid ⟨b1, b2, b3⟩ = false by simpa using hvb)
      have HL := Lib.hid ((over_no (Or.inr Hvb.out)).symm.trans H.out)
      clear hva hvb H
      go_enter Tryd.func7, Tryd.ntmps7
      go_wp2_with fail
      refine (valid_any _ _ _ true _ Hva.out).mono ?_
      rintro e w1 ⟨rfl, hbw1⟩
      have Tw1 : TL w [(w.heap.size + 1 + 1, [.int .i64 0, .int .i64 0, .int .i64 0]), (w.heap.size + 1, [.int .i64 b1, .int .i64 b2, .int .i64 b3]), (w.heap.size, [.int .i64 a1, .int .i64 a2, .int .i64 a3])] w1 := TL.below (TL.new (t := 24) (TL.new (t := 24) (TL.new (t := 24) (TL.refl w) rfl) (by simp)) (by simp)) hbw1
      clear hbw1
      have Bw1 := Tw1.1.1
      have xw100 : w1.cell? ⟨w.heap.size + 1 + 1, 0, none⟩ = some (.int .i64 0) := Tw1.2.1.2.1.1
      have xw101 : w1.cell? ⟨w.heap.size + 1 + 1, 1, none⟩ = some (.int .i64 0) := Tw1.2.1.2.2.1.1
      have xw102 : w1.cell? ⟨w.heap.size + 1 + 1, 2, none⟩ = some (.int .i64 0) := Tw1.2.1.2.2.2.1.1
      have xw110 : w1.cell? ⟨w.heap.size + 1, 0, none⟩ = some (.int .i64 b1) := Tw1.2.2.1.2.1.1
      have xw111 : w1.cell? ⟨w.heap.size + 1, 1, none⟩ = some (.int .i64 b2) := Tw1.2.2.1.2.2.1.1
      have xw112 : w1.cell? ⟨w.heap.size + 1, 2, none⟩ = some (.int .i64 b3) := Tw1.2.2.1.2.2.2.1.1
      have xw120 : w1.cell? ⟨w.heap.size, 0, none⟩ = some (.int .i64 a1) := Tw1.2.2.2.1.2.1.1
      have xw121 : w1.cell? ⟨w.heap.size, 1, none⟩ = some (.int .i64 a2) := Tw1.2.2.2.1.2.2.1.1
      have xw122 : w1.cell? ⟨w.heap.size, 2, none⟩ = some (.int .i64 a3) := Tw1.2.2.2.1.2.2.2.1.1
      have lw10 := Tw1.2.1.1
      have lw11 := Tw1.2.2.1.1
      have lw12 := Tw1.2.2.2.1.1
      have fw10 : w1.frozen? ⟨w.heap.size + 1 + 1, 0, none⟩ = false := Tw1.2.1.2.1.2
      have fw11 : w1.frozen? ⟨w.heap.size + 1 + 1, 1, none⟩ = false := Tw1.2.1.2.2.1.2
      have fw12 : w1.frozen? ⟨w.heap.size + 1 + 1, 2, none⟩ = false := Tw1.2.1.2.2.2.1.2
      obtain ⟨zz0, zz1, zz2, zz3⟩ := ZC.below HZ Bw1
      go_wp2_with fail
      refine (valid_any _ _ _ false _ Hvb.out).mono ?_
      rintro e w2 ⟨rfl, hbw2⟩
      have Tw2 : TL w [(w.heap.size + 1 + 1, [.int .i64 0, .int .i64 0, .int .i64 0]), (w.heap.size + 1, [.int .i64 b1, .int .i64 b2, .int .i64 b3]), (w.heap.size, [.int .i64 a1, .int .i64 a2, .int .i64 a3])] w2 := TL.below (Tw1) hbw2
      clear hbw2
      have Bw2 := Tw2.1.1
      have xw200 : w2.cell? ⟨w.heap.size + 1 + 1, 0, none⟩ = some (.int .i64 0) := Tw2.2.1.2.1.1
      have xw201 : w2.cell? ⟨w.heap.size + 1 + 1, 1, none⟩ = some (.int .i64 0) := Tw2.2.1.2.2.1.1
      have xw202 : w2.cell? ⟨w.heap.size + 1 + 1, 2, none⟩ = some (.int .i64 0) := Tw2.2.1.2.2.2.1.1
      have xw210 : w2.cell? ⟨w.heap.size + 1, 0, none⟩ = some (.int .i64 b1) := Tw2.2.2.1.2.1.1
      have xw211 : w2.cell? ⟨w.heap.size + 1, 1, none⟩ = some (.int .i64 b2) := Tw2.2.2.1.2.2.1.1
      have xw212 : w2.cell? ⟨w.heap.size + 1, 2, none⟩ = some (.int .i64 b3) := Tw2.2.2.1.2.2.2.1.1
      have xw220 : w2.cell? ⟨w.heap.size, 0, none⟩ = some (.int .i64 a1) := Tw2.2.2.2.1.2.1.1
      have xw221 : w2.cell? ⟨w.heap.size, 1, none⟩ = some (.int .i64 a2) := Tw2.2.2.2.1.2.2.1.1
      have xw222 : w2.cell? ⟨w.heap.size, 2, none⟩ = some (.int .i64 a3) := Tw2.2.2.2.1.2.2.2.1.1
      have lw20 := Tw2.2.1.1
      have lw21 := Tw2.2.2.1.1
      have lw22 := Tw2.2.2.2.1.1
      have fw20 : w2.frozen? ⟨w.heap.size + 1 + 1, 0, none⟩ = false := Tw2.2.1.2.1.2
      have fw21 : w2.frozen? ⟨w.heap.size + 1 + 1, 1, none⟩ = false := Tw2.2.1.2.2.1.2
      have fw22 : w2.frozen? ⟨w.heap.size + 1 + 1, 2, none⟩ = false := Tw2.2.1.2.2.2.1.2
      obtain ⟨zz0, zz1, zz2, zz3⟩ := ZC.below HZ Bw2
      go_wp2_with fail
      refine bodyPost_ret (by simp [results, Tryd.results7, go_sem, xw200, xw201, xw202]; rfl) rfl ?_
      exact ⟨ret_fb HL.out, by go_grown⟩
  · have Hva := Lib.hid (show valid ⟨a1, a2, a3⟩ = false by simpa using hva)
    have HL := Lib.hid ((over_no (Or.inl Hva.out)).symm.trans H.out)
    clear hva H
    go_enter Tryd.func7, Tryd.ntmps7
    go_wp2_with fail
    refine (valid_any _ _ _ false _ Hva.out).mono ?_
    rintro e w1 ⟨rfl, hbw1⟩
    have Tw1 : TL w [(w.heap.size + 1 + 1, [.int .i64 0, .int .i64 0, .int .i64 0]), (w.heap.size + 1, [.int .i64 b1, .int .i64 b2, .int .i64 b3]), (w.heap.size, [.int .i64 a1, .int .i64 a2, .int .i64 a3])] w1 := TL.below (TL.new (t := 24) (TL.new (t := 24) (TL.new (t := 24) (TL.refl w) rfl) (by simp)) (by simp)) hbw1
    clear hbw1
    have Bw1 := Tw1.1.1
    have xw100 : w1.cell? ⟨w.heap.size + 1 + 1, 0, none⟩ = some (.int .i64 0) := Tw1.2.1.2.1.1
    have xw101 : w1.cell? ⟨w.heap.size + 1 + 1, 1, none⟩ = some (.int .i64 0) := Tw1.2.1.2.2.1.1
    have xw102 : w1.cell? ⟨w.heap.size + 1 + 1, 2, none⟩ = some (.int .i64 0) := Tw1.2.1.2.2.2.1.1
    have xw110 : w1.cell? ⟨w.heap.size + 1, 0, none⟩ = some (.int .i64 b1) := Tw1.2.2.1.2.1.1
    have xw111 : w1.cell? ⟨w.heap.size + 1, 1, none⟩ = some (.int .i64 b2) := Tw1.2.2.1.2.2.1.1
    have xw112 : w1.cell? ⟨w.heap.size + 1, 2, none⟩ = some (.int .i64 b3) := Tw1.2.2.1.2.2.2.1.1
    have xw120 : w1.cell? ⟨w.heap.size, 0, none⟩ = some (.int .i64 a1) := Tw1.2.2.2.1.2.1.1
    have xw121 : w1.cell? ⟨w.heap.size, 1, none⟩ = some (.int .i64 a2) := Tw1.2.2.2.1.2.2.1.1
    have xw122 : w1.cell? ⟨w.heap.size, 2, none⟩ = some (.int .i64 a3) := Tw1.2.2.2.1.2.2.2.1.1
    have lw10 := Tw1.2.1.1
    have lw11 := Tw1.2.2.1.1
    have lw12 := Tw1.2.2.2.1.1
    have fw10 : w1.frozen? ⟨w.heap.size + 1 + 1, 0, none⟩ = false := Tw1.2.1.2.1.2
    have fw11 : w1.frozen? ⟨w.heap.size + 1 + 1, 1, none⟩ = false := Tw1.2.1.2.2.1.2
    have fw12 : w1.frozen? ⟨w.heap.size + 1 + 1, 2, none⟩ = false := Tw1.2.1.2.2.2.1.2
    obtain ⟨zz0, zz1, zz2, zz3⟩ := ZC.below HZ Bw1
    go_wp2_with fail
    refine bodyPost_ret (by simp [results, Tryd.results7, go_sem, xw100, xw101, xw102]; rfl) rfl ?_
    exact ⟨ret_fb HL.out, by go_grown⟩

set_option maxHeartbeats 8000000 in
theorem l2Turned_any (b1 b2 b3 p q d : Int) (b : Bool) (w : World) (hv : Hid (valid ⟨b1, b2, b3⟩ = true)) (hz : Hid (¬ (b1 = 0 ∧ b2 = 0))) (H : Hid (inv ⟨b1, b2, b3⟩ = (⟨p, q, d⟩, b))) :
    Calls Tryd.prog 21 #[.agg #[.int .i64 b1, .int .i64 b2, .int .i64 b3]] w fun e w' =>
      e = .returned (.tuple #[.agg #[.int .i64 p, .int .i64 q, .int .i64 d], .bool b]) ∧ Below w.heap.size w w' := by
  obtain ⟨b1l, b1r, b2l, b2r, b3l, b3r, -⟩ := valid_iff.1 hv.out
  simp only at b1l b1r b2l b2r b3l b3r
  have hn1 := sq_pos (b := ⟨b1, b2, b3⟩) hz.out
  obtain ⟨g, hg⟩ : ∃ g : Int, ((Int.gcd (b1 * b1 + b2 * b2) b3 : Nat) : Int) = g := ⟨_, rfl⟩
  obtain ⟨hi, hg1, hg2, hk1, hk2, hm1, hm2⟩ := inv_g (b := ⟨b1, b2, b3⟩) b3l hn1 hg
  simp only at hn1 hi hg1 hg2 hk1 hk2 hm1 hm2
  have HG := Lib.hid hg
  have HL : Hid (low (b1 * (b3 / g)) (-(b2 * (b3 / g))) ((b1 * b1 + b2 * b2) / g) = (⟨p, q, d⟩, b)) := hi.symm.trans H.out
  have m11 := sq_bd b1l b1r
  have m22 := sq_bd b2l b2r
  have n1 := mul_bd b1l b1r (show -2000000000 ≤ b3 / g by omega) (show b3 / g ≤ 2000000000 by omega)
  have n2 := mul_bd b2l b2r (show -2000000000 ≤ b3 / g by omega) (show b3 / g ≤ 2000000000 by omega)
  simp only [Int.reduceMul, Int.reduceNeg] at m11 m22 n1 n2
  have hnn : (b1 * b1 + b2 * b2 == 0) = false := by simp; omega
  have hgz0 : (g == 0) = false := by simp; omega
  have hnz : 0 ≤ b1 * b1 + b2 * b2 := by omega
  have W1 : IntKind.i64.wrap (b1 * (b3 / g)) = b1 * (b3 / g) := IntWalk.i64_in _ (by omega)
  have W2 : IntKind.i64.wrap (b2 * (b3 / g)) = b2 * (b3 / g) := IntWalk.i64_in _ (by omega)
  have W3 : IntKind.i64.wrap (-(b2 * (b3 / g))) = -(b2 * (b3 / g)) := IntWalk.i64_in _ (by omega)
  have W4 : IntKind.i64.wrap ((b1 * b1 + b2 * b2) / g) = (b1 * b1 + b2 * b2) / g := IntWalk.i64_in _ (by omega)
  have W5 : IntKind.i64.wrap ((b1 * b1 + b2 * b2).tdiv g) = (b1 * b1 + b2 * b2) / g := IntWalk.i64_quo _ _ ⟨by omega, by omega, hg1⟩
  have W6 : (b1 * b1 + b2 * b2).tdiv g = (b1 * b1 + b2 * b2) / g := Int.tdiv_eq_ediv_of_nonneg hnz
  have hgz1 : ¬ (g = 0) := by omega
  have q1 : 1 ≤ b1 → b3 / g ≤ 4000000000000000000 / b1 := fun h => by
    have := (Int.le_ediv_iff_mul_le (a := 2000000000) (b := 4000000000000000000) (c := b1) (by omega)).2 (by omega)
    omega
  have q1' : b1 ≤ -1 → b3 / g ≤ -Int.tdiv 4000000000000000000 b1 ∧ wrap64 (-Int.tdiv 4000000000000000000 b1) = -Int.tdiv 4000000000000000000 b1 := fun h => by
    have h1 := (Int.le_ediv_iff_mul_le (a := 2000000000) (b := 4000000000000000000) (c := -b1) (by omega)).2 (by omega)
    have h2 : -Int.tdiv 4000000000000000000 b1 = 4000000000000000000 / -b1 := by
      rw [← Int.tdiv_neg, Int.tdiv_eq_ediv_of_nonneg (by omega)]
    have h3 : (4000000000000000000 : Int) / -b1 ≤ 4000000000000000000 := Int.ediv_le_self _ (by omega)
    rw [h2]
    have h4 : 0 ≤ (4000000000000000000 : Int) / -b1 := Int.ediv_nonneg (by omega) (by omega)
    exact ⟨by omega, IntWalk.wrap64_in _ (by omega)⟩
  have q2 : 1 ≤ b2 → b3 / g ≤ 4000000000000000000 / b2 := fun h => by
    have := (Int.le_ediv_iff_mul_le (a := 2000000000) (b := 4000000000000000000) (c := b2) (by omega)).2 (by omega)
    omega
  have q2' : b2 ≤ -1 → b3 / g ≤ -Int.tdiv 4000000000000000000 b2 ∧ wrap64 (-Int.tdiv 4000000000000000000 b2) = -Int.tdiv 4000000000000000000 b2 := fun h => by
    have h1 := (Int.le_ediv_iff_mul_le (a := 2000000000) (b := 4000000000000000000) (c := -b2) (by omega)).2 (by omega)
    have h2 : -Int.tdiv 4000000000000000000 b2 = 4000000000000000000 / -b2 := by
      rw [← Int.tdiv_neg, Int.tdiv_eq_ediv_of_nonneg (by omega)]
    have h3 : (4000000000000000000 : Int) / -b2 ≤ 4000000000000000000 := Int.ediv_le_self _ (by omega)
    rw [h2]
    have h4 : 0 ≤ (4000000000000000000 : Int) / -b2 := Int.ediv_nonneg (by omega) (by omega)
    exact ⟨by omega, IntWalk.wrap64_in _ (by omega)⟩
  have Q1 := Lib.hid q1
  have Q1' := Lib.hid q1'
  have Q2 := Lib.hid q2
  have Q2' := Lib.hid q2'
  have HNR : Hid (∀ x ∈ ([(w.heap.size, [.int .i64 b1, .int .i64 b2, .int .i64 b3])] : List (Nat × List Value)), x.1 ≠ w.heap.size + 1) := by
    intro x hx
    simp only [List.mem_cons, List.not_mem_nil, or_false] at hx
    subst hx
    simp only; omega
  clear hg hi H q1 q1' q2 q2'
  by_cases c1 : b1 = 0
  · have z1 : (b1 != 0) = false := by simpa using c1
    have C1 := Lib.hid c1
    clear c1
    have e2 : (b2 != 0) = true := by
      have : b2 ≠ 0 := fun e => hz.out ⟨C1.out, e⟩
      simpa using this
    by_cases s2 : b2 < 0
    · obtain ⟨u2, v2⟩ := Q2'.out (by omega)
      go_enter Tryd.func21, Tryd.ntmps21
      go_wp2_with fail
      have hT0 : TL w [(w.heap.size + 1, [.int .i64 0, .int .i64 0, .int .i64 0]), (w.heap.size, [.int .i64 b1, .int .i64 b2, .int .i64 b3])] _ := TL.new (t := 24) (TL.new (t := 24) (TL.refl w) rfl) (by simp)
      refine (l2Gcd_g _ _ g _ HG (by omega) (by omega) (by omega) (by omega)).mono ?_
      rintro e w' ⟨rfl, rfl⟩
      go_wp2_with fail
      generalize (w.alloc (.cells #[.int .i64 b1, .int .i64 b2, .int .i64 b3] 24)).alloc (.cells #[.int .i64 0, .int .i64 0, .int .i64 0] 24) = W at *
      have hT := TL.tail' hT0
      have hR : CB W (w.heap.size + 1) 0 [.int .i64 0, .int .i64 0, .int .i64 0] := hT0.2.1.2
      have hl := hT0.2.1.1
      have r0 := hR.1.1
      have r1 := hR.2.1.1
      have r2 := hR.2.2.1.1
      have q0 := hR.1.2
      have q1 := hR.2.1.2
      have q2 := hR.2.2.1.2
      have SL := Lib.hid (fun (W : World) (h : TL w [(w.heap.size, [.int .i64 b1, .int .i64 b2, .int .i64 b3])] W) => (show W.cell? ⟨w.heap.size, 0, none⟩ = some (.int .i64 b1) ∧ W.cell? ⟨w.heap.size, 1, none⟩ = some (.int .i64 b2) ∧ W.cell? ⟨w.heap.size, 2, none⟩ = some (.int .i64 b3) ∧ TL w [(w.heap.size, [.int .i64 b1, .int .i64 b2, .int .i64 b3])] W from ⟨h.2.1.2.1.1, h.2.1.2.2.1.1, h.2.1.2.2.2.1.1, h⟩))
      have TO := Lib.hid (fun (W : World) (h : W.cell? ⟨w.heap.size, 0, none⟩ = some (.int .i64 b1) ∧ W.cell? ⟨w.heap.size, 1, none⟩ = some (.int .i64 b2) ∧ W.cell? ⟨w.heap.size, 2, none⟩ = some (.int .i64 b3) ∧ TL w [(w.heap.size, [.int .i64 b1, .int .i64 b2, .int .i64 b3])] W) => (show TL w [(w.heap.size, [.int .i64 b1, .int .i64 b2, .int .i64 b3])] W from h.2.2.2))
      go_region_held3 (fun w' => w'.cell? ⟨w.heap.size, 0, none⟩ = some (.int .i64 b1) ∧ w'.cell? ⟨w.heap.size, 1, none⟩ = some (.int .i64 b2) ∧ w'.cell? ⟨w.heap.size, 2, none⟩ = some (.int .i64 b3) ∧ TL w [(w.heap.size, [.int .i64 b1, .int .i64 b2, .int .i64 b3])] w')
        (first | with_reducible exact SL.out _ hT.drew | with_reducible exact SL.out _ (by assumption) | with_reducible exact SL.out _ (TL.set (TL.set (TL.set (by assumption) (by omega) HNR.out) (by omega) HNR.out) (by omega) HNR.out))
        (first | (go_at_call 22; refine (l2Low_any _ _ _ p q d b _ HL (by omega) (by omega) (by omega) (by omega) (by omega) (by omega)).mono ?_; rintro e w1 ⟨rfl, hb⟩; have hT := TL.below (TO.out _ (by assumption)) hb; have hR : CB w1 (w.heap.size + 1) 0 [.int .i64 0, .int .i64 0, .int .i64 0] := CB.below hb hl hR; have r0 := hR.1.1; have r1 := hR.2.1.1; have r2 := hR.2.2.1.1; have q0 := hR.1.2; have q1 := hR.2.1.2; have q2 := hR.2.2.1.2))
      go_wp2_with fail
      refine bodyPost_ret (by simp [results, Tryd.results21, go_sem, r0, r1, r2]; rfl) rfl ?_
      exact ⟨rfl, (TL.set (TL.set (TL.set hT (by omega) HNR.out) (by omega) HNR.out) (by omega) HNR.out).1.1⟩
    · have s2' : 1 ≤ b2 := by
        have : b2 ≠ 0 := fun e => hz.out ⟨C1.out, e⟩
        omega
      have u2 := Q2.out s2'
      go_enter Tryd.func21, Tryd.ntmps21
      go_wp2_with fail
      have hT0 : TL w [(w.heap.size + 1, [.int .i64 0, .int .i64 0, .int .i64 0]), (w.heap.size, [.int .i64 b1, .int .i64 b2, .int .i64 b3])] _ := TL.new (t := 24) (TL.new (t := 24) (TL.refl w) rfl) (by simp)
      refine (l2Gcd_g _ _ g _ HG (by omega) (by omega) (by omega) (by omega)).mono ?_
      rintro e w' ⟨rfl, rfl⟩
      go_wp2_with fail
      generalize (w.alloc (.cells #[.int .i64 b1, .int .i64 b2, .int .i64 b3] 24)).alloc (.cells #[.int .i64 0, .int .i64 0, .int .i64 0] 24) = W at *
      have hT := TL.tail' hT0
      have hR : CB W (w.heap.size + 1) 0 [.int .i64 0, .int .i64 0, .int .i64 0] := hT0.2.1.2
      have hl := hT0.2.1.1
      have r0 := hR.1.1
      have r1 := hR.2.1.1
      have r2 := hR.2.2.1.1
      have q0 := hR.1.2
      have q1 := hR.2.1.2
      have q2 := hR.2.2.1.2
      have SL := Lib.hid (fun (W : World) (h : TL w [(w.heap.size, [.int .i64 b1, .int .i64 b2, .int .i64 b3])] W) => (show W.cell? ⟨w.heap.size, 0, none⟩ = some (.int .i64 b1) ∧ W.cell? ⟨w.heap.size, 1, none⟩ = some (.int .i64 b2) ∧ W.cell? ⟨w.heap.size, 2, none⟩ = some (.int .i64 b3) ∧ TL w [(w.heap.size, [.int .i64 b1, .int .i64 b2, .int .i64 b3])] W from ⟨h.2.1.2.1.1, h.2.1.2.2.1.1, h.2.1.2.2.2.1.1, h⟩))
      have TO := Lib.hid (fun (W : World) (h : W.cell? ⟨w.heap.size, 0, none⟩ = some (.int .i64 b1) ∧ W.cell? ⟨w.heap.size, 1, none⟩ = some (.int .i64 b2) ∧ W.cell? ⟨w.heap.size, 2, none⟩ = some (.int .i64 b3) ∧ TL w [(w.heap.size, [.int .i64 b1, .int .i64 b2, .int .i64 b3])] W) => (show TL w [(w.heap.size, [.int .i64 b1, .int .i64 b2, .int .i64 b3])] W from h.2.2.2))
      go_region_held3 (fun w' => w'.cell? ⟨w.heap.size, 0, none⟩ = some (.int .i64 b1) ∧ w'.cell? ⟨w.heap.size, 1, none⟩ = some (.int .i64 b2) ∧ w'.cell? ⟨w.heap.size, 2, none⟩ = some (.int .i64 b3) ∧ TL w [(w.heap.size, [.int .i64 b1, .int .i64 b2, .int .i64 b3])] w')
        (first | with_reducible exact SL.out _ hT.drew | with_reducible exact SL.out _ (by assumption) | with_reducible exact SL.out _ (TL.set (TL.set (TL.set (by assumption) (by omega) HNR.out) (by omega) HNR.out) (by omega) HNR.out))
        (first | (go_at_call 22; refine (l2Low_any _ _ _ p q d b _ HL (by omega) (by omega) (by omega) (by omega) (by omega) (by omega)).mono ?_; rintro e w1 ⟨rfl, hb⟩; have hT := TL.below (TO.out _ (by assumption)) hb; have hR : CB w1 (w.heap.size + 1) 0 [.int .i64 0, .int .i64 0, .int .i64 0] := CB.below hb hl hR; have r0 := hR.1.1; have r1 := hR.2.1.1; have r2 := hR.2.2.1.1; have q0 := hR.1.2; have q1 := hR.2.1.2; have q2 := hR.2.2.1.2))
      go_wp2_with fail
      refine bodyPost_ret (by simp [results, Tryd.results21, go_sem, r0, r1, r2]; rfl) rfl ?_
      exact ⟨rfl, (TL.set (TL.set (TL.set hT (by omega) HNR.out) (by omega) HNR.out) (by omega) HNR.out).1.1⟩
  · have e1 : (b1 != 0) = true := by simpa using c1
    by_cases s1 : b1 < 0
    · obtain ⟨u1, v1⟩ := Q1'.out (by omega)
      by_cases c2 : b2 = 0
      · have z2 : (b2 != 0) = false := by simpa using c2
        have C2 := Lib.hid c2
        clear c2
        go_enter Tryd.func21, Tryd.ntmps21
        go_wp2_with fail
        have hT0 : TL w [(w.heap.size + 1, [.int .i64 0, .int .i64 0, .int .i64 0]), (w.heap.size, [.int .i64 b1, .int .i64 b2, .int .i64 b3])] _ := TL.new (t := 24) (TL.new (t := 24) (TL.refl w) rfl) (by simp)
        refine (l2Gcd_g _ _ g _ HG (by omega) (by omega) (by omega) (by omega)).mono ?_
        rintro e w' ⟨rfl, rfl⟩
        go_wp2_with fail
        generalize (w.alloc (.cells #[.int .i64 b1, .int .i64 b2, .int .i64 b3] 24)).alloc (.cells #[.int .i64 0, .int .i64 0, .int .i64 0] 24) = W at *
        have hT := TL.tail' hT0
        have hR : CB W (w.heap.size + 1) 0 [.int .i64 0, .int .i64 0, .int .i64 0] := hT0.2.1.2
        have hl := hT0.2.1.1
        have r0 := hR.1.1
        have r1 := hR.2.1.1
        have r2 := hR.2.2.1.1
        have q0 := hR.1.2
        have q1 := hR.2.1.2
        have q2 := hR.2.2.1.2
        have SL := Lib.hid (fun (W : World) (h : TL w [(w.heap.size, [.int .i64 b1, .int .i64 b2, .int .i64 b3])] W) => (show W.cell? ⟨w.heap.size, 0, none⟩ = some (.int .i64 b1) ∧ W.cell? ⟨w.heap.size, 1, none⟩ = some (.int .i64 b2) ∧ W.cell? ⟨w.heap.size, 2, none⟩ = some (.int .i64 b3) ∧ TL w [(w.heap.size, [.int .i64 b1, .int .i64 b2, .int .i64 b3])] W from ⟨h.2.1.2.1.1, h.2.1.2.2.1.1, h.2.1.2.2.2.1.1, h⟩))
        have TO := Lib.hid (fun (W : World) (h : W.cell? ⟨w.heap.size, 0, none⟩ = some (.int .i64 b1) ∧ W.cell? ⟨w.heap.size, 1, none⟩ = some (.int .i64 b2) ∧ W.cell? ⟨w.heap.size, 2, none⟩ = some (.int .i64 b3) ∧ TL w [(w.heap.size, [.int .i64 b1, .int .i64 b2, .int .i64 b3])] W) => (show TL w [(w.heap.size, [.int .i64 b1, .int .i64 b2, .int .i64 b3])] W from h.2.2.2))
        go_region_held3 (fun w' => w'.cell? ⟨w.heap.size, 0, none⟩ = some (.int .i64 b1) ∧ w'.cell? ⟨w.heap.size, 1, none⟩ = some (.int .i64 b2) ∧ w'.cell? ⟨w.heap.size, 2, none⟩ = some (.int .i64 b3) ∧ TL w [(w.heap.size, [.int .i64 b1, .int .i64 b2, .int .i64 b3])] w')
          (first | with_reducible exact SL.out _ hT.drew | with_reducible exact SL.out _ (by assumption) | with_reducible exact SL.out _ (TL.set (TL.set (TL.set (by assumption) (by omega) HNR.out) (by omega) HNR.out) (by omega) HNR.out))
          (first | (go_at_call 22; refine (l2Low_any _ _ _ p q d b _ HL (by omega) (by omega) (by omega) (by omega) (by omega) (by omega)).mono ?_; rintro e w1 ⟨rfl, hb⟩; have hT := TL.below (TO.out _ (by assumption)) hb; have hR : CB w1 (w.heap.size + 1) 0 [.int .i64 0, .int .i64 0, .int .i64 0] := CB.below hb hl hR; have r0 := hR.1.1; have r1 := hR.2.1.1; have r2 := hR.2.2.1.1; have q0 := hR.1.2; have q1 := hR.2.1.2; have q2 := hR.2.2.1.2))
        go_wp2_with fail
        refine bodyPost_ret (by simp [results, Tryd.results21, go_sem, r0, r1, r2]; rfl) rfl ?_
        exact ⟨rfl, (TL.set (TL.set (TL.set hT (by omega) HNR.out) (by omega) HNR.out) (by omega) HNR.out).1.1⟩
      · have e2 : (b2 != 0) = true := by simpa using c2
        by_cases s2 : b2 < 0
        · obtain ⟨u2, v2⟩ := Q2'.out (by omega)
          go_enter Tryd.func21, Tryd.ntmps21
          go_wp2_with fail
          have hT0 : TL w [(w.heap.size + 1, [.int .i64 0, .int .i64 0, .int .i64 0]), (w.heap.size, [.int .i64 b1, .int .i64 b2, .int .i64 b3])] _ := TL.new (t := 24) (TL.new (t := 24) (TL.refl w) rfl) (by simp)
          refine (l2Gcd_g _ _ g _ HG (by omega) (by omega) (by omega) (by omega)).mono ?_
          rintro e w' ⟨rfl, rfl⟩
          go_wp2_with fail
          generalize (w.alloc (.cells #[.int .i64 b1, .int .i64 b2, .int .i64 b3] 24)).alloc (.cells #[.int .i64 0, .int .i64 0, .int .i64 0] 24) = W at *
          have hT := TL.tail' hT0
          have hR : CB W (w.heap.size + 1) 0 [.int .i64 0, .int .i64 0, .int .i64 0] := hT0.2.1.2
          have hl := hT0.2.1.1
          have r0 := hR.1.1
          have r1 := hR.2.1.1
          have r2 := hR.2.2.1.1
          have q0 := hR.1.2
          have q1 := hR.2.1.2
          have q2 := hR.2.2.1.2
          have SL := Lib.hid (fun (W : World) (h : TL w [(w.heap.size, [.int .i64 b1, .int .i64 b2, .int .i64 b3])] W) => (show W.cell? ⟨w.heap.size, 0, none⟩ = some (.int .i64 b1) ∧ W.cell? ⟨w.heap.size, 1, none⟩ = some (.int .i64 b2) ∧ W.cell? ⟨w.heap.size, 2, none⟩ = some (.int .i64 b3) ∧ TL w [(w.heap.size, [.int .i64 b1, .int .i64 b2, .int .i64 b3])] W from ⟨h.2.1.2.1.1, h.2.1.2.2.1.1, h.2.1.2.2.2.1.1, h⟩))
          have TO := Lib.hid (fun (W : World) (h : W.cell? ⟨w.heap.size, 0, none⟩ = some (.int .i64 b1) ∧ W.cell? ⟨w.heap.size, 1, none⟩ = some (.int .i64 b2) ∧ W.cell? ⟨w.heap.size, 2, none⟩ = some (.int .i64 b3) ∧ TL w [(w.heap.size, [.int .i64 b1, .int .i64 b2, .int .i64 b3])] W) => (show TL w [(w.heap.size, [.int .i64 b1, .int .i64 b2, .int .i64 b3])] W from h.2.2.2))
          go_region_held3 (fun w' => w'.cell? ⟨w.heap.size, 0, none⟩ = some (.int .i64 b1) ∧ w'.cell? ⟨w.heap.size, 1, none⟩ = some (.int .i64 b2) ∧ w'.cell? ⟨w.heap.size, 2, none⟩ = some (.int .i64 b3) ∧ TL w [(w.heap.size, [.int .i64 b1, .int .i64 b2, .int .i64 b3])] w')
            (first | with_reducible exact SL.out _ hT.drew | with_reducible exact SL.out _ (by assumption) | with_reducible exact SL.out _ (TL.set (TL.set (TL.set (by assumption) (by omega) HNR.out) (by omega) HNR.out) (by omega) HNR.out))
            (first | (go_at_call 22; refine (l2Low_any _ _ _ p q d b _ HL (by omega) (by omega) (by omega) (by omega) (by omega) (by omega)).mono ?_; rintro e w1 ⟨rfl, hb⟩; have hT := TL.below (TO.out _ (by assumption)) hb; have hR : CB w1 (w.heap.size + 1) 0 [.int .i64 0, .int .i64 0, .int .i64 0] := CB.below hb hl hR; have r0 := hR.1.1; have r1 := hR.2.1.1; have r2 := hR.2.2.1.1; have q0 := hR.1.2; have q1 := hR.2.1.2; have q2 := hR.2.2.1.2))
          go_wp2_with fail
          refine bodyPost_ret (by simp [results, Tryd.results21, go_sem, r0, r1, r2]; rfl) rfl ?_
          exact ⟨rfl, (TL.set (TL.set (TL.set hT (by omega) HNR.out) (by omega) HNR.out) (by omega) HNR.out).1.1⟩
        · have s2' : 1 ≤ b2 := by omega
          have u2 := Q2.out s2'
          go_enter Tryd.func21, Tryd.ntmps21
          go_wp2_with fail
          have hT0 : TL w [(w.heap.size + 1, [.int .i64 0, .int .i64 0, .int .i64 0]), (w.heap.size, [.int .i64 b1, .int .i64 b2, .int .i64 b3])] _ := TL.new (t := 24) (TL.new (t := 24) (TL.refl w) rfl) (by simp)
          refine (l2Gcd_g _ _ g _ HG (by omega) (by omega) (by omega) (by omega)).mono ?_
          rintro e w' ⟨rfl, rfl⟩
          go_wp2_with fail
          generalize (w.alloc (.cells #[.int .i64 b1, .int .i64 b2, .int .i64 b3] 24)).alloc (.cells #[.int .i64 0, .int .i64 0, .int .i64 0] 24) = W at *
          have hT := TL.tail' hT0
          have hR : CB W (w.heap.size + 1) 0 [.int .i64 0, .int .i64 0, .int .i64 0] := hT0.2.1.2
          have hl := hT0.2.1.1
          have r0 := hR.1.1
          have r1 := hR.2.1.1
          have r2 := hR.2.2.1.1
          have q0 := hR.1.2
          have q1 := hR.2.1.2
          have q2 := hR.2.2.1.2
          have SL := Lib.hid (fun (W : World) (h : TL w [(w.heap.size, [.int .i64 b1, .int .i64 b2, .int .i64 b3])] W) => (show W.cell? ⟨w.heap.size, 0, none⟩ = some (.int .i64 b1) ∧ W.cell? ⟨w.heap.size, 1, none⟩ = some (.int .i64 b2) ∧ W.cell? ⟨w.heap.size, 2, none⟩ = some (.int .i64 b3) ∧ TL w [(w.heap.size, [.int .i64 b1, .int .i64 b2, .int .i64 b3])] W from ⟨h.2.1.2.1.1, h.2.1.2.2.1.1, h.2.1.2.2.2.1.1, h⟩))
          have TO := Lib.hid (fun (W : World) (h : W.cell? ⟨w.heap.size, 0, none⟩ = some (.int .i64 b1) ∧ W.cell? ⟨w.heap.size, 1, none⟩ = some (.int .i64 b2) ∧ W.cell? ⟨w.heap.size, 2, none⟩ = some (.int .i64 b3) ∧ TL w [(w.heap.size, [.int .i64 b1, .int .i64 b2, .int .i64 b3])] W) => (show TL w [(w.heap.size, [.int .i64 b1, .int .i64 b2, .int .i64 b3])] W from h.2.2.2))
          go_region_held3 (fun w' => w'.cell? ⟨w.heap.size, 0, none⟩ = some (.int .i64 b1) ∧ w'.cell? ⟨w.heap.size, 1, none⟩ = some (.int .i64 b2) ∧ w'.cell? ⟨w.heap.size, 2, none⟩ = some (.int .i64 b3) ∧ TL w [(w.heap.size, [.int .i64 b1, .int .i64 b2, .int .i64 b3])] w')
            (first | with_reducible exact SL.out _ hT.drew | with_reducible exact SL.out _ (by assumption) | with_reducible exact SL.out _ (TL.set (TL.set (TL.set (by assumption) (by omega) HNR.out) (by omega) HNR.out) (by omega) HNR.out))
            (first | (go_at_call 22; refine (l2Low_any _ _ _ p q d b _ HL (by omega) (by omega) (by omega) (by omega) (by omega) (by omega)).mono ?_; rintro e w1 ⟨rfl, hb⟩; have hT := TL.below (TO.out _ (by assumption)) hb; have hR : CB w1 (w.heap.size + 1) 0 [.int .i64 0, .int .i64 0, .int .i64 0] := CB.below hb hl hR; have r0 := hR.1.1; have r1 := hR.2.1.1; have r2 := hR.2.2.1.1; have q0 := hR.1.2; have q1 := hR.2.1.2; have q2 := hR.2.2.1.2))
          go_wp2_with fail
          refine bodyPost_ret (by simp [results, Tryd.results21, go_sem, r0, r1, r2]; rfl) rfl ?_
          exact ⟨rfl, (TL.set (TL.set (TL.set hT (by omega) HNR.out) (by omega) HNR.out) (by omega) HNR.out).1.1⟩
    · have s1' : 1 ≤ b1 := by omega
      have u1 := Q1.out s1'
      by_cases c2 : b2 = 0
      · have z2 : (b2 != 0) = false := by simpa using c2
        have C2 := Lib.hid c2
        clear c2
        go_enter Tryd.func21, Tryd.ntmps21
        go_wp2_with fail
        have hT0 : TL w [(w.heap.size + 1, [.int .i64 0, .int .i64 0, .int .i64 0]), (w.heap.size, [.int .i64 b1, .int .i64 b2, .int .i64 b3])] _ := TL.new (t := 24) (TL.new (t := 24) (TL.refl w) rfl) (by simp)
        refine (l2Gcd_g _ _ g _ HG (by omega) (by omega) (by omega) (by omega)).mono ?_
        rintro e w' ⟨rfl, rfl⟩
        go_wp2_with fail
        generalize (w.alloc (.cells #[.int .i64 b1, .int .i64 b2, .int .i64 b3] 24)).alloc (.cells #[.int .i64 0, .int .i64 0, .int .i64 0] 24) = W at *
        have hT := TL.tail' hT0
        have hR : CB W (w.heap.size + 1) 0 [.int .i64 0, .int .i64 0, .int .i64 0] := hT0.2.1.2
        have hl := hT0.2.1.1
        have r0 := hR.1.1
        have r1 := hR.2.1.1
        have r2 := hR.2.2.1.1
        have q0 := hR.1.2
        have q1 := hR.2.1.2
        have q2 := hR.2.2.1.2
        have SL := Lib.hid (fun (W : World) (h : TL w [(w.heap.size, [.int .i64 b1, .int .i64 b2, .int .i64 b3])] W) => (show W.cell? ⟨w.heap.size, 0, none⟩ = some (.int .i64 b1) ∧ W.cell? ⟨w.heap.size, 1, none⟩ = some (.int .i64 b2) ∧ W.cell? ⟨w.heap.size, 2, none⟩ = some (.int .i64 b3) ∧ TL w [(w.heap.size, [.int .i64 b1, .int .i64 b2, .int .i64 b3])] W from ⟨h.2.1.2.1.1, h.2.1.2.2.1.1, h.2.1.2.2.2.1.1, h⟩))
        have TO := Lib.hid (fun (W : World) (h : W.cell? ⟨w.heap.size, 0, none⟩ = some (.int .i64 b1) ∧ W.cell? ⟨w.heap.size, 1, none⟩ = some (.int .i64 b2) ∧ W.cell? ⟨w.heap.size, 2, none⟩ = some (.int .i64 b3) ∧ TL w [(w.heap.size, [.int .i64 b1, .int .i64 b2, .int .i64 b3])] W) => (show TL w [(w.heap.size, [.int .i64 b1, .int .i64 b2, .int .i64 b3])] W from h.2.2.2))
        go_region_held3 (fun w' => w'.cell? ⟨w.heap.size, 0, none⟩ = some (.int .i64 b1) ∧ w'.cell? ⟨w.heap.size, 1, none⟩ = some (.int .i64 b2) ∧ w'.cell? ⟨w.heap.size, 2, none⟩ = some (.int .i64 b3) ∧ TL w [(w.heap.size, [.int .i64 b1, .int .i64 b2, .int .i64 b3])] w')
          (first | with_reducible exact SL.out _ hT.drew | with_reducible exact SL.out _ (by assumption) | with_reducible exact SL.out _ (TL.set (TL.set (TL.set (by assumption) (by omega) HNR.out) (by omega) HNR.out) (by omega) HNR.out))
          (first | (go_at_call 22; refine (l2Low_any _ _ _ p q d b _ HL (by omega) (by omega) (by omega) (by omega) (by omega) (by omega)).mono ?_; rintro e w1 ⟨rfl, hb⟩; have hT := TL.below (TO.out _ (by assumption)) hb; have hR : CB w1 (w.heap.size + 1) 0 [.int .i64 0, .int .i64 0, .int .i64 0] := CB.below hb hl hR; have r0 := hR.1.1; have r1 := hR.2.1.1; have r2 := hR.2.2.1.1; have q0 := hR.1.2; have q1 := hR.2.1.2; have q2 := hR.2.2.1.2))
        go_wp2_with fail
        refine bodyPost_ret (by simp [results, Tryd.results21, go_sem, r0, r1, r2]; rfl) rfl ?_
        exact ⟨rfl, (TL.set (TL.set (TL.set hT (by omega) HNR.out) (by omega) HNR.out) (by omega) HNR.out).1.1⟩
      · have e2 : (b2 != 0) = true := by simpa using c2
        by_cases s2 : b2 < 0
        · obtain ⟨u2, v2⟩ := Q2'.out (by omega)
          go_enter Tryd.func21, Tryd.ntmps21
          go_wp2_with fail
          have hT0 : TL w [(w.heap.size + 1, [.int .i64 0, .int .i64 0, .int .i64 0]), (w.heap.size, [.int .i64 b1, .int .i64 b2, .int .i64 b3])] _ := TL.new (t := 24) (TL.new (t := 24) (TL.refl w) rfl) (by simp)
          refine (l2Gcd_g _ _ g _ HG (by omega) (by omega) (by omega) (by omega)).mono ?_
          rintro e w' ⟨rfl, rfl⟩
          go_wp2_with fail
          generalize (w.alloc (.cells #[.int .i64 b1, .int .i64 b2, .int .i64 b3] 24)).alloc (.cells #[.int .i64 0, .int .i64 0, .int .i64 0] 24) = W at *
          have hT := TL.tail' hT0
          have hR : CB W (w.heap.size + 1) 0 [.int .i64 0, .int .i64 0, .int .i64 0] := hT0.2.1.2
          have hl := hT0.2.1.1
          have r0 := hR.1.1
          have r1 := hR.2.1.1
          have r2 := hR.2.2.1.1
          have q0 := hR.1.2
          have q1 := hR.2.1.2
          have q2 := hR.2.2.1.2
          have SL := Lib.hid (fun (W : World) (h : TL w [(w.heap.size, [.int .i64 b1, .int .i64 b2, .int .i64 b3])] W) => (show W.cell? ⟨w.heap.size, 0, none⟩ = some (.int .i64 b1) ∧ W.cell? ⟨w.heap.size, 1, none⟩ = some (.int .i64 b2) ∧ W.cell? ⟨w.heap.size, 2, none⟩ = some (.int .i64 b3) ∧ TL w [(w.heap.size, [.int .i64 b1, .int .i64 b2, .int .i64 b3])] W from ⟨h.2.1.2.1.1, h.2.1.2.2.1.1, h.2.1.2.2.2.1.1, h⟩))
          have TO := Lib.hid (fun (W : World) (h : W.cell? ⟨w.heap.size, 0, none⟩ = some (.int .i64 b1) ∧ W.cell? ⟨w.heap.size, 1, none⟩ = some (.int .i64 b2) ∧ W.cell? ⟨w.heap.size, 2, none⟩ = some (.int .i64 b3) ∧ TL w [(w.heap.size, [.int .i64 b1, .int .i64 b2, .int .i64 b3])] W) => (show TL w [(w.heap.size, [.int .i64 b1, .int .i64 b2, .int .i64 b3])] W from h.2.2.2))
          go_region_held3 (fun w' => w'.cell? ⟨w.heap.size, 0, none⟩ = some (.int .i64 b1) ∧ w'.cell? ⟨w.heap.size, 1, none⟩ = some (.int .i64 b2) ∧ w'.cell? ⟨w.heap.size, 2, none⟩ = some (.int .i64 b3) ∧ TL w [(w.heap.size, [.int .i64 b1, .int .i64 b2, .int .i64 b3])] w')
            (first | with_reducible exact SL.out _ hT.drew | with_reducible exact SL.out _ (by assumption) | with_reducible exact SL.out _ (TL.set (TL.set (TL.set (by assumption) (by omega) HNR.out) (by omega) HNR.out) (by omega) HNR.out))
            (first | (go_at_call 22; refine (l2Low_any _ _ _ p q d b _ HL (by omega) (by omega) (by omega) (by omega) (by omega) (by omega)).mono ?_; rintro e w1 ⟨rfl, hb⟩; have hT := TL.below (TO.out _ (by assumption)) hb; have hR : CB w1 (w.heap.size + 1) 0 [.int .i64 0, .int .i64 0, .int .i64 0] := CB.below hb hl hR; have r0 := hR.1.1; have r1 := hR.2.1.1; have r2 := hR.2.2.1.1; have q0 := hR.1.2; have q1 := hR.2.1.2; have q2 := hR.2.2.1.2))
          go_wp2_with fail
          refine bodyPost_ret (by simp [results, Tryd.results21, go_sem, r0, r1, r2]; rfl) rfl ?_
          exact ⟨rfl, (TL.set (TL.set (TL.set hT (by omega) HNR.out) (by omega) HNR.out) (by omega) HNR.out).1.1⟩
        · have s2' : 1 ≤ b2 := by omega
          have u2 := Q2.out s2'
          go_enter Tryd.func21, Tryd.ntmps21
          go_wp2_with fail
          have hT0 : TL w [(w.heap.size + 1, [.int .i64 0, .int .i64 0, .int .i64 0]), (w.heap.size, [.int .i64 b1, .int .i64 b2, .int .i64 b3])] _ := TL.new (t := 24) (TL.new (t := 24) (TL.refl w) rfl) (by simp)
          refine (l2Gcd_g _ _ g _ HG (by omega) (by omega) (by omega) (by omega)).mono ?_
          rintro e w' ⟨rfl, rfl⟩
          go_wp2_with fail
          generalize (w.alloc (.cells #[.int .i64 b1, .int .i64 b2, .int .i64 b3] 24)).alloc (.cells #[.int .i64 0, .int .i64 0, .int .i64 0] 24) = W at *
          have hT := TL.tail' hT0
          have hR : CB W (w.heap.size + 1) 0 [.int .i64 0, .int .i64 0, .int .i64 0] := hT0.2.1.2
          have hl := hT0.2.1.1
          have r0 := hR.1.1
          have r1 := hR.2.1.1
          have r2 := hR.2.2.1.1
          have q0 := hR.1.2
          have q1 := hR.2.1.2
          have q2 := hR.2.2.1.2
          have SL := Lib.hid (fun (W : World) (h : TL w [(w.heap.size, [.int .i64 b1, .int .i64 b2, .int .i64 b3])] W) => (show W.cell? ⟨w.heap.size, 0, none⟩ = some (.int .i64 b1) ∧ W.cell? ⟨w.heap.size, 1, none⟩ = some (.int .i64 b2) ∧ W.cell? ⟨w.heap.size, 2, none⟩ = some (.int .i64 b3) ∧ TL w [(w.heap.size, [.int .i64 b1, .int .i64 b2, .int .i64 b3])] W from ⟨h.2.1.2.1.1, h.2.1.2.2.1.1, h.2.1.2.2.2.1.1, h⟩))
          have TO := Lib.hid (fun (W : World) (h : W.cell? ⟨w.heap.size, 0, none⟩ = some (.int .i64 b1) ∧ W.cell? ⟨w.heap.size, 1, none⟩ = some (.int .i64 b2) ∧ W.cell? ⟨w.heap.size, 2, none⟩ = some (.int .i64 b3) ∧ TL w [(w.heap.size, [.int .i64 b1, .int .i64 b2, .int .i64 b3])] W) => (show TL w [(w.heap.size, [.int .i64 b1, .int .i64 b2, .int .i64 b3])] W from h.2.2.2))
          go_region_held3 (fun w' => w'.cell? ⟨w.heap.size, 0, none⟩ = some (.int .i64 b1) ∧ w'.cell? ⟨w.heap.size, 1, none⟩ = some (.int .i64 b2) ∧ w'.cell? ⟨w.heap.size, 2, none⟩ = some (.int .i64 b3) ∧ TL w [(w.heap.size, [.int .i64 b1, .int .i64 b2, .int .i64 b3])] w')
            (first | with_reducible exact SL.out _ hT.drew | with_reducible exact SL.out _ (by assumption) | with_reducible exact SL.out _ (TL.set (TL.set (TL.set (by assumption) (by omega) HNR.out) (by omega) HNR.out) (by omega) HNR.out))
            (first | (go_at_call 22; refine (l2Low_any _ _ _ p q d b _ HL (by omega) (by omega) (by omega) (by omega) (by omega) (by omega)).mono ?_; rintro e w1 ⟨rfl, hb⟩; have hT := TL.below (TO.out _ (by assumption)) hb; have hR : CB w1 (w.heap.size + 1) 0 [.int .i64 0, .int .i64 0, .int .i64 0] := CB.below hb hl hR; have r0 := hR.1.1; have r1 := hR.2.1.1; have r2 := hR.2.2.1.1; have q0 := hR.1.2; have q1 := hR.2.1.2; have q2 := hR.2.2.1.2))
          go_wp2_with fail
          refine bodyPost_ret (by simp [results, Tryd.results21, go_sem, r0, r1, r2]; rfl) rfl ?_
          exact ⟨rfl, (TL.set (TL.set (TL.set hT (by omega) HNR.out) (by omega) HNR.out) (by omega) HNR.out).1.1⟩

set_option maxHeartbeats 4000000 in
theorem sover_any (a1 a2 a3 b1 b2 b3 p q d : Int) (b : Bool) (w : World) (H : Hid (over ⟨a1, a2, a3⟩ ⟨b1, b2, b3⟩ = (⟨p, q, d⟩, b))) :
    Calls Tryd.prog 8 #[.agg #[.int .i64 a1, .int .i64 a2, .int .i64 a3], .agg #[.int .i64 b1, .int .i64 b2, .int .i64 b3]] w fun e w' =>
      e = .returned (.tuple #[.agg #[.int .i64 p, .int .i64 q, .int .i64 d], .bool b]) ∧ Below w.heap.size w w' := by
  by_cases hva : valid ⟨a1, a2, a3⟩ = true
  · have Hva := Lib.hid hva
    by_cases hvb : valid ⟨b1, b2, b3⟩ = true
    · have Hvb := Lib.hid hvb
      by_cases hz : b1 = 0 ∧ b2 = 0
      · have HL := Lib.hid ((over_zero (a := ⟨a1, a2, a3⟩) (b := ⟨b1, b2, b3⟩) hz.1 hz.2).symm.trans H.out)
        have e1z : (b1 == 0) = true := by simpa using hz.1
        have e2z : (b2 == 0) = true := by simpa using hz.2
        clear hva hvb H hz
        go_enter Tryd.func8, Tryd.ntmps8
        go_wp2_with fail
        refine (svalid_any _ _ _ true _ Hva.out).mono ?_
        rintro e w1 ⟨rfl, hbw1⟩
        have Tw1 : TL w [(w.heap.size + 1 + 1, [.int .i64 0, .int .i64 0, .int .i64 0]), (w.heap.size + 1, [.int .i64 b1, .int .i64 b2, .int .i64 b3]), (w.heap.size, [.int .i64 a1, .int .i64 a2, .int .i64 a3])] w1 := TL.below (TL.new (t := 24) (TL.new (t := 24) (TL.new (t := 24) (TL.refl w) rfl) (by simp)) (by simp)) hbw1
        clear hbw1
        have Bw1 := Tw1.1.1
        have xw100 : w1.cell? ⟨w.heap.size + 1 + 1, 0, none⟩ = some (.int .i64 0) := Tw1.2.1.2.1.1
        have xw101 : w1.cell? ⟨w.heap.size + 1 + 1, 1, none⟩ = some (.int .i64 0) := Tw1.2.1.2.2.1.1
        have xw102 : w1.cell? ⟨w.heap.size + 1 + 1, 2, none⟩ = some (.int .i64 0) := Tw1.2.1.2.2.2.1.1
        have xw110 : w1.cell? ⟨w.heap.size + 1, 0, none⟩ = some (.int .i64 b1) := Tw1.2.2.1.2.1.1
        have xw111 : w1.cell? ⟨w.heap.size + 1, 1, none⟩ = some (.int .i64 b2) := Tw1.2.2.1.2.2.1.1
        have xw112 : w1.cell? ⟨w.heap.size + 1, 2, none⟩ = some (.int .i64 b3) := Tw1.2.2.1.2.2.2.1.1
        have xw120 : w1.cell? ⟨w.heap.size, 0, none⟩ = some (.int .i64 a1) := Tw1.2.2.2.1.2.1.1
        have xw121 : w1.cell? ⟨w.heap.size, 1, none⟩ = some (.int .i64 a2) := Tw1.2.2.2.1.2.2.1.1
        have xw122 : w1.cell? ⟨w.heap.size, 2, none⟩ = some (.int .i64 a3) := Tw1.2.2.2.1.2.2.2.1.1
        have lw10 := Tw1.2.1.1
        have lw11 := Tw1.2.2.1.1
        have lw12 := Tw1.2.2.2.1.1
        have fw10 : w1.frozen? ⟨w.heap.size + 1 + 1, 0, none⟩ = false := Tw1.2.1.2.1.2
        have fw11 : w1.frozen? ⟨w.heap.size + 1 + 1, 1, none⟩ = false := Tw1.2.1.2.2.1.2
        have fw12 : w1.frozen? ⟨w.heap.size + 1 + 1, 2, none⟩ = false := Tw1.2.1.2.2.2.1.2
        go_wp2_with fail
        refine (svalid_any _ _ _ true _ Hvb.out).mono ?_
        rintro e w2 ⟨rfl, hbw2⟩
        have Tw2 : TL w [(w.heap.size + 1 + 1, [.int .i64 0, .int .i64 0, .int .i64 0]), (w.heap.size + 1, [.int .i64 b1, .int .i64 b2, .int .i64 b3]), (w.heap.size, [.int .i64 a1, .int .i64 a2, .int .i64 a3])] w2 := TL.below (Tw1) hbw2
        clear hbw2
        have Bw2 := Tw2.1.1
        have xw200 : w2.cell? ⟨w.heap.size + 1 + 1, 0, none⟩ = some (.int .i64 0) := Tw2.2.1.2.1.1
        have xw201 : w2.cell? ⟨w.heap.size + 1 + 1, 1, none⟩ = some (.int .i64 0) := Tw2.2.1.2.2.1.1
        have xw202 : w2.cell? ⟨w.heap.size + 1 + 1, 2, none⟩ = some (.int .i64 0) := Tw2.2.1.2.2.2.1.1
        have xw210 : w2.cell? ⟨w.heap.size + 1, 0, none⟩ = some (.int .i64 b1) := Tw2.2.2.1.2.1.1
        have xw211 : w2.cell? ⟨w.heap.size + 1, 1, none⟩ = some (.int .i64 b2) := Tw2.2.2.1.2.2.1.1
        have xw212 : w2.cell? ⟨w.heap.size + 1, 2, none⟩ = some (.int .i64 b3) := Tw2.2.2.1.2.2.2.1.1
        have xw220 : w2.cell? ⟨w.heap.size, 0, none⟩ = some (.int .i64 a1) := Tw2.2.2.2.1.2.1.1
        have xw221 : w2.cell? ⟨w.heap.size, 1, none⟩ = some (.int .i64 a2) := Tw2.2.2.2.1.2.2.1.1
        have xw222 : w2.cell? ⟨w.heap.size, 2, none⟩ = some (.int .i64 a3) := Tw2.2.2.2.1.2.2.2.1.1
        have lw20 := Tw2.2.1.1
        have lw21 := Tw2.2.2.1.1
        have lw22 := Tw2.2.2.2.1.1
        have fw20 : w2.frozen? ⟨w.heap.size + 1 + 1, 0, none⟩ = false := Tw2.2.1.2.1.2
        have fw21 : w2.frozen? ⟨w.heap.size + 1 + 1, 1, none⟩ = false := Tw2.2.1.2.2.1.2
        have fw22 : w2.frozen? ⟨w.heap.size + 1 + 1, 2, none⟩ = false := Tw2.2.1.2.2.2.1.2
        go_wp2_with fail
        refine bodyPost_ret (by simp [results, Tryd.results8, go_sem, xw200, xw201, xw202]; rfl) rfl ?_
        exact ⟨ret_fb HL.out, by go_grown⟩
      · have hoi := over_inv hva hvb hz
        have HZ0 := Lib.hid hz
        rcases hi : inv ⟨b1, b2, b3⟩ with ⟨⟨c1, c2, c3⟩, ok⟩
        rw [hi] at hoi
        cases ok
        · have HI : Hid (inv ⟨b1, b2, b3⟩ = (⟨0, 0, 0⟩, false)) := low_nil (by rw [show low _ _ _ = _ from hi])
          have HL := Lib.hid (hoi.symm.trans H.out)
          clear hva hvb H hoi hi hz
          by_cases e1 : b1 = 0
          · have e2 : b2 ≠ 0 := fun e => HZ0.out ⟨e1, e⟩
            have e2' : (b2 == 0) = false := by simpa using e2
            have e1z : (b1 == 0) = true := by simpa using e1
            clear e1
            go_enter Tryd.func8, Tryd.ntmps8
            go_wp2_with fail
            refine (svalid_any _ _ _ true _ Hva.out).mono ?_
            rintro e w1 ⟨rfl, hbw1⟩
            have Tw1 : TL w [(w.heap.size + 1 + 1, [.int .i64 0, .int .i64 0, .int .i64 0]), (w.heap.size + 1, [.int .i64 b1, .int .i64 b2, .int .i64 b3]), (w.heap.size, [.int .i64 a1, .int .i64 a2, .int .i64 a3])] w1 := TL.below (TL.new (t := 24) (TL.new (t := 24) (TL.new (t := 24) (TL.refl w) rfl) (by simp)) (by simp)) hbw1
            clear hbw1
            have Bw1 := Tw1.1.1
            have xw100 : w1.cell? ⟨w.heap.size + 1 + 1, 0, none⟩ = some (.int .i64 0) := Tw1.2.1.2.1.1
            have xw101 : w1.cell? ⟨w.heap.size + 1 + 1, 1, none⟩ = some (.int .i64 0) := Tw1.2.1.2.2.1.1
            have xw102 : w1.cell? ⟨w.heap.size + 1 + 1, 2, none⟩ = some (.int .i64 0) := Tw1.2.1.2.2.2.1.1
            have xw110 : w1.cell? ⟨w.heap.size + 1, 0, none⟩ = some (.int .i64 b1) := Tw1.2.2.1.2.1.1
            have xw111 : w1.cell? ⟨w.heap.size + 1, 1, none⟩ = some (.int .i64 b2) := Tw1.2.2.1.2.2.1.1
            have xw112 : w1.cell? ⟨w.heap.size + 1, 2, none⟩ = some (.int .i64 b3) := Tw1.2.2.1.2.2.2.1.1
            have xw120 : w1.cell? ⟨w.heap.size, 0, none⟩ = some (.int .i64 a1) := Tw1.2.2.2.1.2.1.1
            have xw121 : w1.cell? ⟨w.heap.size, 1, none⟩ = some (.int .i64 a2) := Tw1.2.2.2.1.2.2.1.1
            have xw122 : w1.cell? ⟨w.heap.size, 2, none⟩ = some (.int .i64 a3) := Tw1.2.2.2.1.2.2.2.1.1
            have lw10 := Tw1.2.1.1
            have lw11 := Tw1.2.2.1.1
            have lw12 := Tw1.2.2.2.1.1
            have fw10 : w1.frozen? ⟨w.heap.size + 1 + 1, 0, none⟩ = false := Tw1.2.1.2.1.2
            have fw11 : w1.frozen? ⟨w.heap.size + 1 + 1, 1, none⟩ = false := Tw1.2.1.2.2.1.2
            have fw12 : w1.frozen? ⟨w.heap.size + 1 + 1, 2, none⟩ = false := Tw1.2.1.2.2.2.1.2
            go_wp2_with fail
            refine (svalid_any _ _ _ true _ Hvb.out).mono ?_
            rintro e w2 ⟨rfl, hbw2⟩
            have Tw2 : TL w [(w.heap.size + 1 + 1, [.int .i64 0, .int .i64 0, .int .i64 0]), (w.heap.size + 1, [.int .i64 b1, .int .i64 b2, .int .i64 b3]), (w.heap.size, [.int .i64 a1, .int .i64 a2, .int .i64 a3])] w2 := TL.below (Tw1) hbw2
            clear hbw2
            have Bw2 := Tw2.1.1
            have xw200 : w2.cell? ⟨w.heap.size + 1 + 1, 0, none⟩ = some (.int .i64 0) := Tw2.2.1.2.1.1
            have xw201 : w2.cell? ⟨w.heap.size + 1 + 1, 1, none⟩ = some (.int .i64 0) := Tw2.2.1.2.2.1.1
            have xw202 : w2.cell? ⟨w.heap.size + 1 + 1, 2, none⟩ = some (.int .i64 0) := Tw2.2.1.2.2.2.1.1
            have xw210 : w2.cell? ⟨w.heap.size + 1, 0, none⟩ = some (.int .i64 b1) := Tw2.2.2.1.2.1.1
            have xw211 : w2.cell? ⟨w.heap.size + 1, 1, none⟩ = some (.int .i64 b2) := Tw2.2.2.1.2.2.1.1
            have xw212 : w2.cell? ⟨w.heap.size + 1, 2, none⟩ = some (.int .i64 b3) := Tw2.2.2.1.2.2.2.1.1
            have xw220 : w2.cell? ⟨w.heap.size, 0, none⟩ = some (.int .i64 a1) := Tw2.2.2.2.1.2.1.1
            have xw221 : w2.cell? ⟨w.heap.size, 1, none⟩ = some (.int .i64 a2) := Tw2.2.2.2.1.2.2.1.1
            have xw222 : w2.cell? ⟨w.heap.size, 2, none⟩ = some (.int .i64 a3) := Tw2.2.2.2.1.2.2.2.1.1
            have lw20 := Tw2.2.1.1
            have lw21 := Tw2.2.2.1.1
            have lw22 := Tw2.2.2.2.1.1
            have fw20 : w2.frozen? ⟨w.heap.size + 1 + 1, 0, none⟩ = false := Tw2.2.1.2.1.2
            have fw21 : w2.frozen? ⟨w.heap.size + 1 + 1, 1, none⟩ = false := Tw2.2.1.2.2.1.2
            have fw22 : w2.frozen? ⟨w.heap.size + 1 + 1, 2, none⟩ = false := Tw2.2.1.2.2.2.1.2
            go_wp2_with fail
            refine (l2Turned_any _ _ _ 0 0 0 false _ Hvb HZ0 HI).mono ?_
            rintro e w3 ⟨rfl, hbw3⟩
            have Tw3 : TL w [(w.heap.size + 1 + 1, [.int .i64 0, .int .i64 0, .int .i64 0]), (w.heap.size + 1, [.int .i64 b1, .int .i64 b2, .int .i64 b3]), (w.heap.size, [.int .i64 a1, .int .i64 a2, .int .i64 a3])] w3 := TL.below (Tw2) hbw3
            clear hbw3
            have Bw3 := Tw3.1.1
            have xw300 : w3.cell? ⟨w.heap.size + 1 + 1, 0, none⟩ = some (.int .i64 0) := Tw3.2.1.2.1.1
            have xw301 : w3.cell? ⟨w.heap.size + 1 + 1, 1, none⟩ = some (.int .i64 0) := Tw3.2.1.2.2.1.1
            have xw302 : w3.cell? ⟨w.heap.size + 1 + 1, 2, none⟩ = some (.int .i64 0) := Tw3.2.1.2.2.2.1.1
            have xw310 : w3.cell? ⟨w.heap.size + 1, 0, none⟩ = some (.int .i64 b1) := Tw3.2.2.1.2.1.1
            have xw311 : w3.cell? ⟨w.heap.size + 1, 1, none⟩ = some (.int .i64 b2) := Tw3.2.2.1.2.2.1.1
            have xw312 : w3.cell? ⟨w.heap.size + 1, 2, none⟩ = some (.int .i64 b3) := Tw3.2.2.1.2.2.2.1.1
            have xw320 : w3.cell? ⟨w.heap.size, 0, none⟩ = some (.int .i64 a1) := Tw3.2.2.2.1.2.1.1
            have xw321 : w3.cell? ⟨w.heap.size, 1, none⟩ = some (.int .i64 a2) := Tw3.2.2.2.1.2.2.1.1
            have xw322 : w3.cell? ⟨w.heap.size, 2, none⟩ = some (.int .i64 a3) := Tw3.2.2.2.1.2.2.2.1.1
            have lw30 := Tw3.2.1.1
            have lw31 := Tw3.2.2.1.1
            have lw32 := Tw3.2.2.2.1.1
            have fw30 : w3.frozen? ⟨w.heap.size + 1 + 1, 0, none⟩ = false := Tw3.2.1.2.1.2
            have fw31 : w3.frozen? ⟨w.heap.size + 1 + 1, 1, none⟩ = false := Tw3.2.1.2.2.1.2
            have fw32 : w3.frozen? ⟨w.heap.size + 1 + 1, 2, none⟩ = false := Tw3.2.1.2.2.2.1.2
            go_wp2_with fail
            refine bodyPost_ret (by simp [results, Tryd.results8, go_sem, xw300, xw301, xw302, lw30]; rfl) rfl ?_
            exact ⟨ret_fb HL.out, by go_grown⟩
          · have e1' : (b1 == 0) = false := by simpa using e1
            go_enter Tryd.func8, Tryd.ntmps8
            go_wp2_with fail
            refine (svalid_any _ _ _ true _ Hva.out).mono ?_
            rintro e w1 ⟨rfl, hbw1⟩
            have Tw1 : TL w [(w.heap.size + 1 + 1, [.int .i64 0, .int .i64 0, .int .i64 0]), (w.heap.size + 1, [.int .i64 b1, .int .i64 b2, .int .i64 b3]), (w.heap.size, [.int .i64 a1, .int .i64 a2, .int .i64 a3])] w1 := TL.below (TL.new (t := 24) (TL.new (t := 24) (TL.new (t := 24) (TL.refl w) rfl) (by simp)) (by simp)) hbw1
            clear hbw1
            have Bw1 := Tw1.1.1
            have xw100 : w1.cell? ⟨w.heap.size + 1 + 1, 0, none⟩ = some (.int .i64 0) := Tw1.2.1.2.1.1
            have xw101 : w1.cell? ⟨w.heap.size + 1 + 1, 1, none⟩ = some (.int .i64 0) := Tw1.2.1.2.2.1.1
            have xw102 : w1.cell? ⟨w.heap.size + 1 + 1, 2, none⟩ = some (.int .i64 0) := Tw1.2.1.2.2.2.1.1
            have xw110 : w1.cell? ⟨w.heap.size + 1, 0, none⟩ = some (.int .i64 b1) := Tw1.2.2.1.2.1.1
            have xw111 : w1.cell? ⟨w.heap.size + 1, 1, none⟩ = some (.int .i64 b2) := Tw1.2.2.1.2.2.1.1
            have xw112 : w1.cell? ⟨w.heap.size + 1, 2, none⟩ = some (.int .i64 b3) := Tw1.2.2.1.2.2.2.1.1
            have xw120 : w1.cell? ⟨w.heap.size, 0, none⟩ = some (.int .i64 a1) := Tw1.2.2.2.1.2.1.1
            have xw121 : w1.cell? ⟨w.heap.size, 1, none⟩ = some (.int .i64 a2) := Tw1.2.2.2.1.2.2.1.1
            have xw122 : w1.cell? ⟨w.heap.size, 2, none⟩ = some (.int .i64 a3) := Tw1.2.2.2.1.2.2.2.1.1
            have lw10 := Tw1.2.1.1
            have lw11 := Tw1.2.2.1.1
            have lw12 := Tw1.2.2.2.1.1
            have fw10 : w1.frozen? ⟨w.heap.size + 1 + 1, 0, none⟩ = false := Tw1.2.1.2.1.2
            have fw11 : w1.frozen? ⟨w.heap.size + 1 + 1, 1, none⟩ = false := Tw1.2.1.2.2.1.2
            have fw12 : w1.frozen? ⟨w.heap.size + 1 + 1, 2, none⟩ = false := Tw1.2.1.2.2.2.1.2
            go_wp2_with fail
            refine (svalid_any _ _ _ true _ Hvb.out).mono ?_
            rintro e w2 ⟨rfl, hbw2⟩
            have Tw2 : TL w [(w.heap.size + 1 + 1, [.int .i64 0, .int .i64 0, .int .i64 0]), (w.heap.size + 1, [.int .i64 b1, .int .i64 b2, .int .i64 b3]), (w.heap.size, [.int .i64 a1, .int .i64 a2, .int .i64 a3])] w2 := TL.below (Tw1) hbw2
            clear hbw2
            have Bw2 := Tw2.1.1
            have xw200 : w2.cell? ⟨w.heap.size + 1 + 1, 0, none⟩ = some (.int .i64 0) := Tw2.2.1.2.1.1
            have xw201 : w2.cell? ⟨w.heap.size + 1 + 1, 1, none⟩ = some (.int .i64 0) := Tw2.2.1.2.2.1.1
            have xw202 : w2.cell? ⟨w.heap.size + 1 + 1, 2, none⟩ = some (.int .i64 0) := Tw2.2.1.2.2.2.1.1
            have xw210 : w2.cell? ⟨w.heap.size + 1, 0, none⟩ = some (.int .i64 b1) := Tw2.2.2.1.2.1.1
            have xw211 : w2.cell? ⟨w.heap.size + 1, 1, none⟩ = some (.int .i64 b2) := Tw2.2.2.1.2.2.1.1
            have xw212 : w2.cell? ⟨w.heap.size + 1, 2, none⟩ = some (.int .i64 b3) := Tw2.2.2.1.2.2.2.1.1
            have xw220 : w2.cell? ⟨w.heap.size, 0, none⟩ = some (.int .i64 a1) := Tw2.2.2.2.1.2.1.1
            have xw221 : w2.cell? ⟨w.heap.size, 1, none⟩ = some (.int .i64 a2) := Tw2.2.2.2.1.2.2.1.1
            have xw222 : w2.cell? ⟨w.heap.size, 2, none⟩ = some (.int .i64 a3) := Tw2.2.2.2.1.2.2.2.1.1
            have lw20 := Tw2.2.1.1
            have lw21 := Tw2.2.2.1.1
            have lw22 := Tw2.2.2.2.1.1
            have fw20 : w2.frozen? ⟨w.heap.size + 1 + 1, 0, none⟩ = false := Tw2.2.1.2.1.2
            have fw21 : w2.frozen? ⟨w.heap.size + 1 + 1, 1, none⟩ = false := Tw2.2.1.2.2.1.2
            have fw22 : w2.frozen? ⟨w.heap.size + 1 + 1, 2, none⟩ = false := Tw2.2.1.2.2.2.1.2
            go_wp2_with fail
            refine (l2Turned_any _ _ _ 0 0 0 false _ Hvb HZ0 HI).mono ?_
            rintro e w3 ⟨rfl, hbw3⟩
            have Tw3 : TL w [(w.heap.size + 1 + 1, [.int .i64 0, .int .i64 0, .int .i64 0]), (w.heap.size + 1, [.int .i64 b1, .int .i64 b2, .int .i64 b3]), (w.heap.size, [.int .i64 a1, .int .i64 a2, .int .i64 a3])] w3 := TL.below (Tw2) hbw3
            clear hbw3
            have Bw3 := Tw3.1.1
            have xw300 : w3.cell? ⟨w.heap.size + 1 + 1, 0, none⟩ = some (.int .i64 0) := Tw3.2.1.2.1.1
            have xw301 : w3.cell? ⟨w.heap.size + 1 + 1, 1, none⟩ = some (.int .i64 0) := Tw3.2.1.2.2.1.1
            have xw302 : w3.cell? ⟨w.heap.size + 1 + 1, 2, none⟩ = some (.int .i64 0) := Tw3.2.1.2.2.2.1.1
            have xw310 : w3.cell? ⟨w.heap.size + 1, 0, none⟩ = some (.int .i64 b1) := Tw3.2.2.1.2.1.1
            have xw311 : w3.cell? ⟨w.heap.size + 1, 1, none⟩ = some (.int .i64 b2) := Tw3.2.2.1.2.2.1.1
            have xw312 : w3.cell? ⟨w.heap.size + 1, 2, none⟩ = some (.int .i64 b3) := Tw3.2.2.1.2.2.2.1.1
            have xw320 : w3.cell? ⟨w.heap.size, 0, none⟩ = some (.int .i64 a1) := Tw3.2.2.2.1.2.1.1
            have xw321 : w3.cell? ⟨w.heap.size, 1, none⟩ = some (.int .i64 a2) := Tw3.2.2.2.1.2.2.1.1
            have xw322 : w3.cell? ⟨w.heap.size, 2, none⟩ = some (.int .i64 a3) := Tw3.2.2.2.1.2.2.2.1.1
            have lw30 := Tw3.2.1.1
            have lw31 := Tw3.2.2.1.1
            have lw32 := Tw3.2.2.2.1.1
            have fw30 : w3.frozen? ⟨w.heap.size + 1 + 1, 0, none⟩ = false := Tw3.2.1.2.1.2
            have fw31 : w3.frozen? ⟨w.heap.size + 1 + 1, 1, none⟩ = false := Tw3.2.1.2.2.1.2
            have fw32 : w3.frozen? ⟨w.heap.size + 1 + 1, 2, none⟩ = false := Tw3.2.1.2.2.2.1.2
            go_wp2_with fail
            refine bodyPost_ret (by simp [results, Tryd.results8, go_sem, xw300, xw301, xw302, lw30]; rfl) rfl ?_
            exact ⟨ret_fb HL.out, by go_grown⟩
        · have HI := Lib.hid hi
          have HL := Lib.hid (hoi.symm.trans H.out)
          clear hva hvb H hoi hi hz
          by_cases e1 : b1 = 0
          · have e2 : b2 ≠ 0 := fun e => HZ0.out ⟨e1, e⟩
            have e2' : (b2 == 0) = false := by simpa using e2
            have e1z : (b1 == 0) = true := by simpa using e1
            clear e1
            go_enter Tryd.func8, Tryd.ntmps8
            go_wp2_with fail
            refine (svalid_any _ _ _ true _ Hva.out).mono ?_
            rintro e w1 ⟨rfl, hbw1⟩
            have Tw1 : TL w [(w.heap.size + 1 + 1, [.int .i64 0, .int .i64 0, .int .i64 0]), (w.heap.size + 1, [.int .i64 b1, .int .i64 b2, .int .i64 b3]), (w.heap.size, [.int .i64 a1, .int .i64 a2, .int .i64 a3])] w1 := TL.below (TL.new (t := 24) (TL.new (t := 24) (TL.new (t := 24) (TL.refl w) rfl) (by simp)) (by simp)) hbw1
            clear hbw1
            have Bw1 := Tw1.1.1
            have xw100 : w1.cell? ⟨w.heap.size + 1 + 1, 0, none⟩ = some (.int .i64 0) := Tw1.2.1.2.1.1
            have xw101 : w1.cell? ⟨w.heap.size + 1 + 1, 1, none⟩ = some (.int .i64 0) := Tw1.2.1.2.2.1.1
            have xw102 : w1.cell? ⟨w.heap.size + 1 + 1, 2, none⟩ = some (.int .i64 0) := Tw1.2.1.2.2.2.1.1
            have xw110 : w1.cell? ⟨w.heap.size + 1, 0, none⟩ = some (.int .i64 b1) := Tw1.2.2.1.2.1.1
            have xw111 : w1.cell? ⟨w.heap.size + 1, 1, none⟩ = some (.int .i64 b2) := Tw1.2.2.1.2.2.1.1
            have xw112 : w1.cell? ⟨w.heap.size + 1, 2, none⟩ = some (.int .i64 b3) := Tw1.2.2.1.2.2.2.1.1
            have xw120 : w1.cell? ⟨w.heap.size, 0, none⟩ = some (.int .i64 a1) := Tw1.2.2.2.1.2.1.1
            have xw121 : w1.cell? ⟨w.heap.size, 1, none⟩ = some (.int .i64 a2) := Tw1.2.2.2.1.2.2.1.1
            have xw122 : w1.cell? ⟨w.heap.size, 2, none⟩ = some (.int .i64 a3) := Tw1.2.2.2.1.2.2.2.1.1
            have lw10 := Tw1.2.1.1
            have lw11 := Tw1.2.2.1.1
            have lw12 := Tw1.2.2.2.1.1
            have fw10 : w1.frozen? ⟨w.heap.size + 1 + 1, 0, none⟩ = false := Tw1.2.1.2.1.2
            have fw11 : w1.frozen? ⟨w.heap.size + 1 + 1, 1, none⟩ = false := Tw1.2.1.2.2.1.2
            have fw12 : w1.frozen? ⟨w.heap.size + 1 + 1, 2, none⟩ = false := Tw1.2.1.2.2.2.1.2
            go_wp2_with fail
            refine (svalid_any _ _ _ true _ Hvb.out).mono ?_
            rintro e w2 ⟨rfl, hbw2⟩
            have Tw2 : TL w [(w.heap.size + 1 + 1, [.int .i64 0, .int .i64 0, .int .i64 0]), (w.heap.size + 1, [.int .i64 b1, .int .i64 b2, .int .i64 b3]), (w.heap.size, [.int .i64 a1, .int .i64 a2, .int .i64 a3])] w2 := TL.below (Tw1) hbw2
            clear hbw2
            have Bw2 := Tw2.1.1
            have xw200 : w2.cell? ⟨w.heap.size + 1 + 1, 0, none⟩ = some (.int .i64 0) := Tw2.2.1.2.1.1
            have xw201 : w2.cell? ⟨w.heap.size + 1 + 1, 1, none⟩ = some (.int .i64 0) := Tw2.2.1.2.2.1.1
            have xw202 : w2.cell? ⟨w.heap.size + 1 + 1, 2, none⟩ = some (.int .i64 0) := Tw2.2.1.2.2.2.1.1
            have xw210 : w2.cell? ⟨w.heap.size + 1, 0, none⟩ = some (.int .i64 b1) := Tw2.2.2.1.2.1.1
            have xw211 : w2.cell? ⟨w.heap.size + 1, 1, none⟩ = some (.int .i64 b2) := Tw2.2.2.1.2.2.1.1
            have xw212 : w2.cell? ⟨w.heap.size + 1, 2, none⟩ = some (.int .i64 b3) := Tw2.2.2.1.2.2.2.1.1
            have xw220 : w2.cell? ⟨w.heap.size, 0, none⟩ = some (.int .i64 a1) := Tw2.2.2.2.1.2.1.1
            have xw221 : w2.cell? ⟨w.heap.size, 1, none⟩ = some (.int .i64 a2) := Tw2.2.2.2.1.2.2.1.1
            have xw222 : w2.cell? ⟨w.heap.size, 2, none⟩ = some (.int .i64 a3) := Tw2.2.2.2.1.2.2.2.1.1
            have lw20 := Tw2.2.1.1
            have lw21 := Tw2.2.2.1.1
            have lw22 := Tw2.2.2.2.1.1
            have fw20 : w2.frozen? ⟨w.heap.size + 1 + 1, 0, none⟩ = false := Tw2.2.1.2.1.2
            have fw21 : w2.frozen? ⟨w.heap.size + 1 + 1, 1, none⟩ = false := Tw2.2.1.2.2.1.2
            have fw22 : w2.frozen? ⟨w.heap.size + 1 + 1, 2, none⟩ = false := Tw2.2.1.2.2.2.1.2
            go_wp2_with fail
            refine (l2Turned_any _ _ _ c1 c2 c3 true _ Hvb HZ0 HI).mono ?_
            rintro e w3 ⟨rfl, hbw3⟩
            have Tw3 : TL w [(w.heap.size + 1 + 1, [.int .i64 0, .int .i64 0, .int .i64 0]), (w.heap.size + 1, [.int .i64 b1, .int .i64 b2, .int .i64 b3]), (w.heap.size, [.int .i64 a1, .int .i64 a2, .int .i64 a3])] w3 := TL.below (Tw2) hbw3
            clear hbw3
            have Bw3 := Tw3.1.1
            have xw300 : w3.cell? ⟨w.heap.size + 1 + 1, 0, none⟩ = some (.int .i64 0) := Tw3.2.1.2.1.1
            have xw301 : w3.cell? ⟨w.heap.size + 1 + 1, 1, none⟩ = some (.int .i64 0) := Tw3.2.1.2.2.1.1
            have xw302 : w3.cell? ⟨w.heap.size + 1 + 1, 2, none⟩ = some (.int .i64 0) := Tw3.2.1.2.2.2.1.1
            have xw310 : w3.cell? ⟨w.heap.size + 1, 0, none⟩ = some (.int .i64 b1) := Tw3.2.2.1.2.1.1
            have xw311 : w3.cell? ⟨w.heap.size + 1, 1, none⟩ = some (.int .i64 b2) := Tw3.2.2.1.2.2.1.1
            have xw312 : w3.cell? ⟨w.heap.size + 1, 2, none⟩ = some (.int .i64 b3) := Tw3.2.2.1.2.2.2.1.1
            have xw320 : w3.cell? ⟨w.heap.size, 0, none⟩ = some (.int .i64 a1) := Tw3.2.2.2.1.2.1.1
            have xw321 : w3.cell? ⟨w.heap.size, 1, none⟩ = some (.int .i64 a2) := Tw3.2.2.2.1.2.2.1.1
            have xw322 : w3.cell? ⟨w.heap.size, 2, none⟩ = some (.int .i64 a3) := Tw3.2.2.2.1.2.2.2.1.1
            have lw30 := Tw3.2.1.1
            have lw31 := Tw3.2.2.1.1
            have lw32 := Tw3.2.2.2.1.1
            have fw30 : w3.frozen? ⟨w.heap.size + 1 + 1, 0, none⟩ = false := Tw3.2.1.2.1.2
            have fw31 : w3.frozen? ⟨w.heap.size + 1 + 1, 1, none⟩ = false := Tw3.2.1.2.2.1.2
            have fw32 : w3.frozen? ⟨w.heap.size + 1 + 1, 2, none⟩ = false := Tw3.2.1.2.2.2.1.2
            go_wp2_with fail
            refine (stimes_any _ _ _ _ _ _ p q d b _ HL).mono ?_
            rintro e w4 ⟨rfl, hbw4⟩
            have Tw4 : TL w [(w3.heap.size, [.int .i64 c1, .int .i64 c2, .int .i64 c3]), (w.heap.size + 1 + 1, [.int .i64 0, .int .i64 0, .int .i64 0]), (w.heap.size + 1, [.int .i64 b1, .int .i64 b2, .int .i64 b3]), (w.heap.size, [.int .i64 a1, .int .i64 a2, .int .i64 a3])] w4 := TL.below (TL.new (t := 24) Tw3 rfl) hbw4
            clear hbw4
            have Bw4 := Tw4.1.1
            have xw400 : w4.cell? ⟨w3.heap.size, 0, none⟩ = some (.int .i64 c1) := Tw4.2.1.2.1.1
            have xw401 : w4.cell? ⟨w3.heap.size, 1, none⟩ = some (.int .i64 c2) := Tw4.2.1.2.2.1.1
            have xw402 : w4.cell? ⟨w3.heap.size, 2, none⟩ = some (.int .i64 c3) := Tw4.2.1.2.2.2.1.1
            have xw410 : w4.cell? ⟨w.heap.size + 1 + 1, 0, none⟩ = some (.int .i64 0) := Tw4.2.2.1.2.1.1
            have xw411 : w4.cell? ⟨w.heap.size + 1 + 1, 1, none⟩ = some (.int .i64 0) := Tw4.2.2.1.2.2.1.1
            have xw412 : w4.cell? ⟨w.heap.size + 1 + 1, 2, none⟩ = some (.int .i64 0) := Tw4.2.2.1.2.2.2.1.1
            have xw420 : w4.cell? ⟨w.heap.size + 1, 0, none⟩ = some (.int .i64 b1) := Tw4.2.2.2.1.2.1.1
            have xw421 : w4.cell? ⟨w.heap.size + 1, 1, none⟩ = some (.int .i64 b2) := Tw4.2.2.2.1.2.2.1.1
            have xw422 : w4.cell? ⟨w.heap.size + 1, 2, none⟩ = some (.int .i64 b3) := Tw4.2.2.2.1.2.2.2.1.1
            have xw430 : w4.cell? ⟨w.heap.size, 0, none⟩ = some (.int .i64 a1) := Tw4.2.2.2.2.1.2.1.1
            have xw431 : w4.cell? ⟨w.heap.size, 1, none⟩ = some (.int .i64 a2) := Tw4.2.2.2.2.1.2.2.1.1
            have xw432 : w4.cell? ⟨w.heap.size, 2, none⟩ = some (.int .i64 a3) := Tw4.2.2.2.2.1.2.2.2.1.1
            have lw40 := Tw4.2.1.1
            have lw41 := Tw4.2.2.1.1
            have lw42 := Tw4.2.2.2.1.1
            have lw43 := Tw4.2.2.2.2.1.1
            have fw40 : w4.frozen? ⟨w.heap.size + 1 + 1, 0, none⟩ = false := Tw4.2.2.1.2.1.2
            have fw41 : w4.frozen? ⟨w.heap.size + 1 + 1, 1, none⟩ = false := Tw4.2.2.1.2.2.1.2
            have fw42 : w4.frozen? ⟨w.heap.size + 1 + 1, 2, none⟩ = false := Tw4.2.2.1.2.2.2.1.2
            go_wp2_with fail
            refine bodyPost_ret (by simp [results, Tryd.results8, go_sem, xw410, xw411, xw412]; rfl) rfl ?_
            exact ⟨rfl, by go_grown⟩
          · have e1' : (b1 == 0) = false := by simpa using e1
            go_enter Tryd.func8, Tryd.ntmps8
            go_wp2_with fail
            refine (svalid_any _ _ _ true _ Hva.out).mono ?_
            rintro e w1 ⟨rfl, hbw1⟩
            have Tw1 : TL w [(w.heap.size + 1 + 1, [.int .i64 0, .int .i64 0, .int .i64 0]), (w.heap.size + 1, [.int .i64 b1, .int .i64 b2, .int .i64 b3]), (w.heap.size, [.int .i64 a1, .int .i64 a2, .int .i64 a3])] w1 := TL.below (TL.new (t := 24) (TL.new (t := 24) (TL.new (t := 24) (TL.refl w) rfl) (by simp)) (by simp)) hbw1
            clear hbw1
            have Bw1 := Tw1.1.1
            have xw100 : w1.cell? ⟨w.heap.size + 1 + 1, 0, none⟩ = some (.int .i64 0) := Tw1.2.1.2.1.1
            have xw101 : w1.cell? ⟨w.heap.size + 1 + 1, 1, none⟩ = some (.int .i64 0) := Tw1.2.1.2.2.1.1
            have xw102 : w1.cell? ⟨w.heap.size + 1 + 1, 2, none⟩ = some (.int .i64 0) := Tw1.2.1.2.2.2.1.1
            have xw110 : w1.cell? ⟨w.heap.size + 1, 0, none⟩ = some (.int .i64 b1) := Tw1.2.2.1.2.1.1
            have xw111 : w1.cell? ⟨w.heap.size + 1, 1, none⟩ = some (.int .i64 b2) := Tw1.2.2.1.2.2.1.1
            have xw112 : w1.cell? ⟨w.heap.size + 1, 2, none⟩ = some (.int .i64 b3) := Tw1.2.2.1.2.2.2.1.1
            have xw120 : w1.cell? ⟨w.heap.size, 0, none⟩ = some (.int .i64 a1) := Tw1.2.2.2.1.2.1.1
            have xw121 : w1.cell? ⟨w.heap.size, 1, none⟩ = some (.int .i64 a2) := Tw1.2.2.2.1.2.2.1.1
            have xw122 : w1.cell? ⟨w.heap.size, 2, none⟩ = some (.int .i64 a3) := Tw1.2.2.2.1.2.2.2.1.1
            have lw10 := Tw1.2.1.1
            have lw11 := Tw1.2.2.1.1
            have lw12 := Tw1.2.2.2.1.1
            have fw10 : w1.frozen? ⟨w.heap.size + 1 + 1, 0, none⟩ = false := Tw1.2.1.2.1.2
            have fw11 : w1.frozen? ⟨w.heap.size + 1 + 1, 1, none⟩ = false := Tw1.2.1.2.2.1.2
            have fw12 : w1.frozen? ⟨w.heap.size + 1 + 1, 2, none⟩ = false := Tw1.2.1.2.2.2.1.2
            go_wp2_with fail
            refine (svalid_any _ _ _ true _ Hvb.out).mono ?_
            rintro e w2 ⟨rfl, hbw2⟩
            have Tw2 : TL w [(w.heap.size + 1 + 1, [.int .i64 0, .int .i64 0, .int .i64 0]), (w.heap.size + 1, [.int .i64 b1, .int .i64 b2, .int .i64 b3]), (w.heap.size, [.int .i64 a1, .int .i64 a2, .int .i64 a3])] w2 := TL.below (Tw1) hbw2
            clear hbw2
            have Bw2 := Tw2.1.1
            have xw200 : w2.cell? ⟨w.heap.size + 1 + 1, 0, none⟩ = some (.int .i64 0) := Tw2.2.1.2.1.1
            have xw201 : w2.cell? ⟨w.heap.size + 1 + 1, 1, none⟩ = some (.int .i64 0) := Tw2.2.1.2.2.1.1
            have xw202 : w2.cell? ⟨w.heap.size + 1 + 1, 2, none⟩ = some (.int .i64 0) := Tw2.2.1.2.2.2.1.1
            have xw210 : w2.cell? ⟨w.heap.size + 1, 0, none⟩ = some (.int .i64 b1) := Tw2.2.2.1.2.1.1
            have xw211 : w2.cell? ⟨w.heap.size + 1, 1, none⟩ = some (.int .i64 b2) := Tw2.2.2.1.2.2.1.1
            have xw212 : w2.cell? ⟨w.heap.size + 1, 2, none⟩ = some (.int .i64 b3) := Tw2.2.2.1.2.2.2.1.1
            have xw220 : w2.cell? ⟨w.heap.size, 0, none⟩ = some (.int .i64 a1) := Tw2.2.2.2.1.2.1.1
            have xw221 : w2.cell? ⟨w.heap.size, 1, none⟩ = some (.int .i64 a2) := Tw2.2.2.2.1.2.2.1.1
            have xw222 : w2.cell? ⟨w.heap.size, 2, none⟩ = some (.int .i64 a3) := Tw2.2.2.2.1.2.2.2.1.1
            have lw20 := Tw2.2.1.1
            have lw21 := Tw2.2.2.1.1
            have lw22 := Tw2.2.2.2.1.1
            have fw20 : w2.frozen? ⟨w.heap.size + 1 + 1, 0, none⟩ = false := Tw2.2.1.2.1.2
            have fw21 : w2.frozen? ⟨w.heap.size + 1 + 1, 1, none⟩ = false := Tw2.2.1.2.2.1.2
            have fw22 : w2.frozen? ⟨w.heap.size + 1 + 1, 2, none⟩ = false := Tw2.2.1.2.2.2.1.2
            go_wp2_with fail
            refine (l2Turned_any _ _ _ c1 c2 c3 true _ Hvb HZ0 HI).mono ?_
            rintro e w3 ⟨rfl, hbw3⟩
            have Tw3 : TL w [(w.heap.size + 1 + 1, [.int .i64 0, .int .i64 0, .int .i64 0]), (w.heap.size + 1, [.int .i64 b1, .int .i64 b2, .int .i64 b3]), (w.heap.size, [.int .i64 a1, .int .i64 a2, .int .i64 a3])] w3 := TL.below (Tw2) hbw3
            clear hbw3
            have Bw3 := Tw3.1.1
            have xw300 : w3.cell? ⟨w.heap.size + 1 + 1, 0, none⟩ = some (.int .i64 0) := Tw3.2.1.2.1.1
            have xw301 : w3.cell? ⟨w.heap.size + 1 + 1, 1, none⟩ = some (.int .i64 0) := Tw3.2.1.2.2.1.1
            have xw302 : w3.cell? ⟨w.heap.size + 1 + 1, 2, none⟩ = some (.int .i64 0) := Tw3.2.1.2.2.2.1.1
            have xw310 : w3.cell? ⟨w.heap.size + 1, 0, none⟩ = some (.int .i64 b1) := Tw3.2.2.1.2.1.1
            have xw311 : w3.cell? ⟨w.heap.size + 1, 1, none⟩ = some (.int .i64 b2) := Tw3.2.2.1.2.2.1.1
            have xw312 : w3.cell? ⟨w.heap.size + 1, 2, none⟩ = some (.int .i64 b3) := Tw3.2.2.1.2.2.2.1.1
            have xw320 : w3.cell? ⟨w.heap.size, 0, none⟩ = some (.int .i64 a1) := Tw3.2.2.2.1.2.1.1
            have xw321 : w3.cell? ⟨w.heap.size, 1, none⟩ = some (.int .i64 a2) := Tw3.2.2.2.1.2.2.1.1
            have xw322 : w3.cell? ⟨w.heap.size, 2, none⟩ = some (.int .i64 a3) := Tw3.2.2.2.1.2.2.2.1.1
            have lw30 := Tw3.2.1.1
            have lw31 := Tw3.2.2.1.1
            have lw32 := Tw3.2.2.2.1.1
            have fw30 : w3.frozen? ⟨w.heap.size + 1 + 1, 0, none⟩ = false := Tw3.2.1.2.1.2
            have fw31 : w3.frozen? ⟨w.heap.size + 1 + 1, 1, none⟩ = false := Tw3.2.1.2.2.1.2
            have fw32 : w3.frozen? ⟨w.heap.size + 1 + 1, 2, none⟩ = false := Tw3.2.1.2.2.2.1.2
            go_wp2_with fail
            refine (stimes_any _ _ _ _ _ _ p q d b _ HL).mono ?_
            rintro e w4 ⟨rfl, hbw4⟩
            have Tw4 : TL w [(w3.heap.size, [.int .i64 c1, .int .i64 c2, .int .i64 c3]), (w.heap.size + 1 + 1, [.int .i64 0, .int .i64 0, .int .i64 0]), (w.heap.size + 1, [.int .i64 b1, .int .i64 b2, .int .i64 b3]), (w.heap.size, [.int .i64 a1, .int .i64 a2, .int .i64 a3])] w4 := TL.below (TL.new (t := 24) Tw3 rfl) hbw4
            clear hbw4
            have Bw4 := Tw4.1.1
            have xw400 : w4.cell? ⟨w3.heap.size, 0, none⟩ = some (.int .i64 c1) := Tw4.2.1.2.1.1
            have xw401 : w4.cell? ⟨w3.heap.size, 1, none⟩ = some (.int .i64 c2) := Tw4.2.1.2.2.1.1
            have xw402 : w4.cell? ⟨w3.heap.size, 2, none⟩ = some (.int .i64 c3) := Tw4.2.1.2.2.2.1.1
            have xw410 : w4.cell? ⟨w.heap.size + 1 + 1, 0, none⟩ = some (.int .i64 0) := Tw4.2.2.1.2.1.1
            have xw411 : w4.cell? ⟨w.heap.size + 1 + 1, 1, none⟩ = some (.int .i64 0) := Tw4.2.2.1.2.2.1.1
            have xw412 : w4.cell? ⟨w.heap.size + 1 + 1, 2, none⟩ = some (.int .i64 0) := Tw4.2.2.1.2.2.2.1.1
            have xw420 : w4.cell? ⟨w.heap.size + 1, 0, none⟩ = some (.int .i64 b1) := Tw4.2.2.2.1.2.1.1
            have xw421 : w4.cell? ⟨w.heap.size + 1, 1, none⟩ = some (.int .i64 b2) := Tw4.2.2.2.1.2.2.1.1
            have xw422 : w4.cell? ⟨w.heap.size + 1, 2, none⟩ = some (.int .i64 b3) := Tw4.2.2.2.1.2.2.2.1.1
            have xw430 : w4.cell? ⟨w.heap.size, 0, none⟩ = some (.int .i64 a1) := Tw4.2.2.2.2.1.2.1.1
            have xw431 : w4.cell? ⟨w.heap.size, 1, none⟩ = some (.int .i64 a2) := Tw4.2.2.2.2.1.2.2.1.1
            have xw432 : w4.cell? ⟨w.heap.size, 2, none⟩ = some (.int .i64 a3) := Tw4.2.2.2.2.1.2.2.2.1.1
            have lw40 := Tw4.2.1.1
            have lw41 := Tw4.2.2.1.1
            have lw42 := Tw4.2.2.2.1.1
            have lw43 := Tw4.2.2.2.2.1.1
            have fw40 : w4.frozen? ⟨w.heap.size + 1 + 1, 0, none⟩ = false := Tw4.2.2.1.2.1.2
            have fw41 : w4.frozen? ⟨w.heap.size + 1 + 1, 1, none⟩ = false := Tw4.2.2.1.2.2.1.2
            have fw42 : w4.frozen? ⟨w.heap.size + 1 + 1, 2, none⟩ = false := Tw4.2.2.1.2.2.2.1.2
            go_wp2_with fail
            refine bodyPost_ret (by simp [results, Tryd.results8, go_sem, xw410, xw411, xw412]; rfl) rfl ?_
            exact ⟨rfl, by go_grown⟩
    · have Hvb := Lib.hid (show valid ⟨b1, b2, b3⟩ = false by simpa using hvb)
      have HL := Lib.hid ((over_no (Or.inr Hvb.out)).symm.trans H.out)
      clear hva hvb H
      go_enter Tryd.func8, Tryd.ntmps8
      go_wp2_with fail
      refine (svalid_any _ _ _ true _ Hva.out).mono ?_
      rintro e w1 ⟨rfl, hbw1⟩
      have Tw1 : TL w [(w.heap.size + 1 + 1, [.int .i64 0, .int .i64 0, .int .i64 0]), (w.heap.size + 1, [.int .i64 b1, .int .i64 b2, .int .i64 b3]), (w.heap.size, [.int .i64 a1, .int .i64 a2, .int .i64 a3])] w1 := TL.below (TL.new (t := 24) (TL.new (t := 24) (TL.new (t := 24) (TL.refl w) rfl) (by simp)) (by simp)) hbw1
      clear hbw1
      have Bw1 := Tw1.1.1
      have xw100 : w1.cell? ⟨w.heap.size + 1 + 1, 0, none⟩ = some (.int .i64 0) := Tw1.2.1.2.1.1
      have xw101 : w1.cell? ⟨w.heap.size + 1 + 1, 1, none⟩ = some (.int .i64 0) := Tw1.2.1.2.2.1.1
      have xw102 : w1.cell? ⟨w.heap.size + 1 + 1, 2, none⟩ = some (.int .i64 0) := Tw1.2.1.2.2.2.1.1
      have xw110 : w1.cell? ⟨w.heap.size + 1, 0, none⟩ = some (.int .i64 b1) := Tw1.2.2.1.2.1.1
      have xw111 : w1.cell? ⟨w.heap.size + 1, 1, none⟩ = some (.int .i64 b2) := Tw1.2.2.1.2.2.1.1
      have xw112 : w1.cell? ⟨w.heap.size + 1, 2, none⟩ = some (.int .i64 b3) := Tw1.2.2.1.2.2.2.1.1
      have xw120 : w1.cell? ⟨w.heap.size, 0, none⟩ = some (.int .i64 a1) := Tw1.2.2.2.1.2.1.1
      have xw121 : w1.cell? ⟨w.heap.size, 1, none⟩ = some (.int .i64 a2) := Tw1.2.2.2.1.2.2.1.1
      have xw122 : w1.cell? ⟨w.heap.size, 2, none⟩ = some (.int .i64 a3) := Tw1.2.2.2.1.2.2.2.1.1
      have lw10 := Tw1.2.1.1
      have lw11 := Tw1.2.2.1.1
      have lw12 := Tw1.2.2.2.1.1
      have fw10 : w1.frozen? ⟨w.heap.size + 1 + 1, 0, none⟩ = false := Tw1.2.1.2.1.2
      have fw11 : w1.frozen? ⟨w.heap.size + 1 + 1, 1, none⟩ = false := Tw1.2.1.2.2.1.2
      have fw12 : w1.frozen? ⟨w.heap.size + 1 + 1, 2, none⟩ = false := Tw1.2.1.2.2.2.1.2
      go_wp2_with fail
      refine (svalid_any _ _ _ false _ Hvb.out).mono ?_
      rintro e w2 ⟨rfl, hbw2⟩
      have Tw2 : TL w [(w.heap.size + 1 + 1, [.int .i64 0, .int .i64 0, .int .i64 0]), (w.heap.size + 1, [.int .i64 b1, .int .i64 b2, .int .i64 b3]), (w.heap.size, [.int .i64 a1, .int .i64 a2, .int .i64 a3])] w2 := TL.below (Tw1) hbw2
      clear hbw2
      have Bw2 := Tw2.1.1
      have xw200 : w2.cell? ⟨w.heap.size + 1 + 1, 0, none⟩ = some (.int .i64 0) := Tw2.2.1.2.1.1
      have xw201 : w2.cell? ⟨w.heap.size + 1 + 1, 1, none⟩ = some (.int .i64 0) := Tw2.2.1.2.2.1.1
      have xw202 : w2.cell? ⟨w.heap.size + 1 + 1, 2, none⟩ = some (.int .i64 0) := Tw2.2.1.2.2.2.1.1
      have xw210 : w2.cell? ⟨w.heap.size + 1, 0, none⟩ = some (.int .i64 b1) := Tw2.2.2.1.2.1.1
      have xw211 : w2.cell? ⟨w.heap.size + 1, 1, none⟩ = some (.int .i64 b2) := Tw2.2.2.1.2.2.1.1
      have xw212 : w2.cell? ⟨w.heap.size + 1, 2, none⟩ = some (.int .i64 b3) := Tw2.2.2.1.2.2.2.1.1
      have xw220 : w2.cell? ⟨w.heap.size, 0, none⟩ = some (.int .i64 a1) := Tw2.2.2.2.1.2.1.1
      have xw221 : w2.cell? ⟨w.heap.size, 1, none⟩ = some (.int .i64 a2) := Tw2.2.2.2.1.2.2.1.1
      have xw222 : w2.cell? ⟨w.heap.size, 2, none⟩ = some (.int .i64 a3) := Tw2.2.2.2.1.2.2.2.1.1
      have lw20 := Tw2.2.1.1
      have lw21 := Tw2.2.2.1.1
      have lw22 := Tw2.2.2.2.1.1
      have fw20 : w2.frozen? ⟨w.heap.size + 1 + 1, 0, none⟩ = false := Tw2.2.1.2.1.2
      have fw21 : w2.frozen? ⟨w.heap.size + 1 + 1, 1, none⟩ = false := Tw2.2.1.2.2.1.2
      have fw22 : w2.frozen? ⟨w.heap.size + 1 + 1, 2, none⟩ = false := Tw2.2.1.2.2.2.1.2
      go_wp2_with fail
      refine bodyPost_ret (by simp [results, Tryd.results8, go_sem, xw200, xw201, xw202]; rfl) rfl ?_
      exact ⟨ret_fb HL.out, by go_grown⟩
  · have Hva := Lib.hid (show valid ⟨a1, a2, a3⟩ = false by simpa using hva)
    have HL := Lib.hid ((over_no (Or.inl Hva.out)).symm.trans H.out)
    clear hva H
    go_enter Tryd.func8, Tryd.ntmps8
    go_wp2_with fail
    refine (svalid_any _ _ _ false _ Hva.out).mono ?_
    rintro e w1 ⟨rfl, hbw1⟩
    have Tw1 : TL w [(w.heap.size + 1 + 1, [.int .i64 0, .int .i64 0, .int .i64 0]), (w.heap.size + 1, [.int .i64 b1, .int .i64 b2, .int .i64 b3]), (w.heap.size, [.int .i64 a1, .int .i64 a2, .int .i64 a3])] w1 := TL.below (TL.new (t := 24) (TL.new (t := 24) (TL.new (t := 24) (TL.refl w) rfl) (by simp)) (by simp)) hbw1
    clear hbw1
    have Bw1 := Tw1.1.1
    have xw100 : w1.cell? ⟨w.heap.size + 1 + 1, 0, none⟩ = some (.int .i64 0) := Tw1.2.1.2.1.1
    have xw101 : w1.cell? ⟨w.heap.size + 1 + 1, 1, none⟩ = some (.int .i64 0) := Tw1.2.1.2.2.1.1
    have xw102 : w1.cell? ⟨w.heap.size + 1 + 1, 2, none⟩ = some (.int .i64 0) := Tw1.2.1.2.2.2.1.1
    have xw110 : w1.cell? ⟨w.heap.size + 1, 0, none⟩ = some (.int .i64 b1) := Tw1.2.2.1.2.1.1
    have xw111 : w1.cell? ⟨w.heap.size + 1, 1, none⟩ = some (.int .i64 b2) := Tw1.2.2.1.2.2.1.1
    have xw112 : w1.cell? ⟨w.heap.size + 1, 2, none⟩ = some (.int .i64 b3) := Tw1.2.2.1.2.2.2.1.1
    have xw120 : w1.cell? ⟨w.heap.size, 0, none⟩ = some (.int .i64 a1) := Tw1.2.2.2.1.2.1.1
    have xw121 : w1.cell? ⟨w.heap.size, 1, none⟩ = some (.int .i64 a2) := Tw1.2.2.2.1.2.2.1.1
    have xw122 : w1.cell? ⟨w.heap.size, 2, none⟩ = some (.int .i64 a3) := Tw1.2.2.2.1.2.2.2.1.1
    have lw10 := Tw1.2.1.1
    have lw11 := Tw1.2.2.1.1
    have lw12 := Tw1.2.2.2.1.1
    have fw10 : w1.frozen? ⟨w.heap.size + 1 + 1, 0, none⟩ = false := Tw1.2.1.2.1.2
    have fw11 : w1.frozen? ⟨w.heap.size + 1 + 1, 1, none⟩ = false := Tw1.2.1.2.2.1.2
    have fw12 : w1.frozen? ⟨w.heap.size + 1 + 1, 2, none⟩ = false := Tw1.2.1.2.2.2.1.2
    go_wp2_with fail
    refine bodyPost_ret (by simp [results, Tryd.results8, go_sem, xw100, xw101, xw102]; rfl) rfl ?_
    exact ⟨ret_fb HL.out, by go_grown⟩

end Go.Proofs.YtlhbpjdokkelpaaDoor
