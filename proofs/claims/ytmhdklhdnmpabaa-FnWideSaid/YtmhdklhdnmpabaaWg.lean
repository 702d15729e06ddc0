/-
  WALKS: FracMake, the reference's FracPower, realOk, FracCompare, l2Sign. No condition.
-/
import Derived.Test.YtmhdklhdnmpabaaWd
namespace Go.Proofs.Ytmhdklhdnmpabaa
open Go.RowKit
open PL

theorem ret_cb {r s : Int × Bool} (h : r = s) : Ending.returned (.tuple #[.int .i64 r.1, .bool r.2]) = .returned (.tuple #[.int .i64 s.1, .bool s.2]) := by rw [h]

set_option maxHeartbeats 1000000 in
theorem realOk_any (a1 a2 a3 : Int) (b : Bool) (w : World) (H : Hid (realB ⟨a1, a2, a3⟩ = b)) :
    Calls Try.prog 24 #[.agg #[.int .i64 a1, .int .i64 a2, .int .i64 a3]] w fun e w' => e = .returned (.bool b) ∧ Below w.heap.size w w' := by
  by_cases hva : valid ⟨a1, a2, a3⟩ = true
  · have Hva := Lib.hid hva
    have HL := Lib.hid ((realB_eq hva).symm.trans H.out)
    clear hva H
    simp only at HL
    go_enter Try.func24, Try.ntmps24
    go_wp2_with fail
    refine (valid_any _ _ _ true _ Hva.out).mono ?_
    rintro e w1 ⟨rfl, hbw1⟩
    have HBw1 : Below w.heap.size w w1 := into (by go_grown) hbw1 (by simp <;> omega)
    have hzw1 : w.heap.size + 1 ≤ w1.heap.size := by have := hbw1.size; simp at this; omega
    have cw10 := C3.below hbw1 (k := w.heap.size) (by simp <;> omega) (C3.new (by simp))
    clear hbw1
    have zw10 := cw10
    obtain ⟨yw10a, yw10b, yw10c, yw10d, yw10e, yw10f⟩ := zw10
    go_wp2_with fail
    go_ret
    exact ⟨ret_b HL.out, by go_grown⟩
  · have Hva := Lib.hid (show valid ⟨a1, a2, a3⟩ = false by simpa using hva)
    have HL := Lib.hid ((realB_no Hva.out).symm.trans H.out)
    clear hva H
    go_enter Try.func24, Try.ntmps24
    go_wp2_with fail
    refine (valid_any _ _ _ false _ Hva.out).mono ?_
    rintro e w1 ⟨rfl, hbw1⟩
    have HBw1 : Below w.heap.size w w1 := into (by go_grown) hbw1 (by simp <;> omega)
    have hzw1 : w.heap.size + 1 ≤ w1.heap.size := by have := hbw1.size; simp at this; omega
    have cw10 := C3.below hbw1 (k := w.heap.size) (by simp <;> omega) (C3.new (by simp))
    clear hbw1
    have zw10 := cw10
    obtain ⟨yw10a, yw10b, yw10c, yw10d, yw10e, yw10f⟩ := zw10
    go_wp2_with fail
    go_ret
    exact ⟨ret_b HL.out, by go_grown⟩

set_option maxHeartbeats 400000 in
theorem l2Sign_any (n : Int) (w : World) : Calls Try.prog 26 #[.int .i64 n] w fun e w' => e = .returned (.int .i64 (sign n)) ∧ w' = w := by
  have hs : sign n = max (-1) (min 1 n) := by unfold sign; split <;> (try split) <;> omega
  have Hs := Lib.hid hs; clear hs
  by_cases h1 : n < -1
  · go_enter Try.func26, Try.ntmps26
    go_wp2
    go_ret
    exact ⟨ret_i (by rw [Hs.out]; omega), rfl⟩
  · by_cases h2 : 1 < n
    · go_enter Try.func26, Try.ntmps26
      go_wp2
      go_ret
      exact ⟨ret_i (by rw [Hs.out]; omega), rfl⟩
    · go_enter Try.func26, Try.ntmps26
      go_wp2
      all_goals
        go_ret
        exact ⟨ret_i (by rw [Hs.out]; omega), rfl⟩

set_option maxHeartbeats 1000000 in
theorem compare_any (a1 a2 a3 b1 b2 b3 c : Int) (b : Bool) (w : World) (H : Hid (PL.compare ⟨a1, a2, a3⟩ ⟨b1, b2, b3⟩ = (c, b))) :
    Calls Try.prog 8 #[.agg #[.int .i64 a1, .int .i64 a2, .int .i64 a3], .agg #[.int .i64 b1, .int .i64 b2, .int .i64 b3]] w fun e w' => e = .returned (.tuple #[.int .i64 c, .bool b]) ∧ Below w.heap.size w w' := by
  by_cases hra : realB ⟨a1, a2, a3⟩ = true
  · have Hra := Lib.hid hra
    by_cases hrb : realB ⟨b1, b2, b3⟩ = true
    · have Hrb := Lib.hid hrb
      obtain ⟨a1l, a1r, -, -, a3l, a3r, -⟩ := valid_iff.1 (realB_valid hra)
      obtain ⟨b1l, b1r, -, -, b3l, b3r, -⟩ := valid_iff.1 (realB_valid hrb)
      simp only at a1l a1r a3l a3r b1l b1r b3l b3r
      have m13 := mul_bd a1l a1r (show -2000000000 ≤ b3 by omega) b3r
      have m31 := mul_bd b1l b1r (show -2000000000 ≤ a3 by omega) a3r
      simp only [Int.reduceMul, Int.reduceNeg] at m13 m31
      by_cases hlt : a1 * b3 - b1 * a3 < 0
      · have HL := Lib.hid ((compare_lt hra hrb hlt).symm.trans H.out)
        clear hra hrb H
        go_enter Try.func8, Try.ntmps8
        go_wp2_with fail
        refine (realOk_any _ _ _ true _ Hra).mono ?_
        rintro e w1 ⟨rfl, hbw1⟩
        have HBw1 : Below w.heap.size w w1 := into (by go_grown) hbw1 (by simp <;> omega)
        have hzw1 : w.heap.size + 2 ≤ w1.heap.size := by have := hbw1.size; simp at this; omega
        have cw10 := C3.below hbw1 (k := w.heap.size) (by simp <;> omega) (C3.alloc (C3.new (by simp)) (by simp <;> omega) _)
        have cw11 := C3.below hbw1 (k := w.heap.size + 1) (by simp <;> omega) (C3.new (by simp))
        clear hbw1
        have zw10 := cw10
        obtain ⟨yw10a, yw10b, yw10c, yw10d, yw10e, yw10f⟩ := zw10
        have zw11 := cw11
        obtain ⟨yw11a, yw11b, yw11c, yw11d, yw11e, yw11f⟩ := zw11
        go_wp2_with fail
        refine (realOk_any _ _ _ true _ Hrb).mono ?_
        rintro e w2 ⟨rfl, hbw2⟩
        have HBw2 : Below w.heap.size w w2 := into HBw1 hbw2 (by omega)
        have hzw2 : w.heap.size + 2 ≤ w2.heap.size := by have := hbw2.size; omega
        have cw20 := C3.below hbw2 (by omega) cw10
        have cw21 := C3.below hbw2 (by omega) cw11
        clear yw10a yw10b yw10c yw10d yw10e yw10f yw11a yw11b yw11c yw11d yw11e yw11f cw10 cw11 HBw1 hzw1
        clear hbw2
        have zw20 := cw20
        obtain ⟨yw20a, yw20b, yw20c, yw20d, yw20e, yw20f⟩ := zw20
        have zw21 := cw21
        obtain ⟨yw21a, yw21b, yw21c, yw21d, yw21e, yw21f⟩ := zw21
        go_wp2_with fail
        go_ret2
        exact ⟨ret_cb HL.out, by go_grown⟩
      · by_cases hgt : 0 < a1 * b3 - b1 * a3
        · have HL := Lib.hid ((compare_gt hra hrb hgt).symm.trans H.out)
          clear hra hrb H
          go_enter Try.func8, Try.ntmps8
          go_wp2_with fail
          refine (realOk_any _ _ _ true _ Hra).mono ?_
          rintro e w1 ⟨rfl, hbw1⟩
          have HBw1 : Below w.heap.size w w1 := into (by go_grown) hbw1 (by simp <;> omega)
          have hzw1 : w.heap.size + 2 ≤ w1.heap.size := by have := hbw1.size; simp at this; omega
          have cw10 := C3.below hbw1 (k := w.heap.size) (by simp <;> omega) (C3.alloc (C3.new (by simp)) (by simp <;> omega) _)
          have cw11 := C3.below hbw1 (k := w.heap.size + 1) (by simp <;> omega) (C3.new (by simp))
          clear hbw1
          have zw10 := cw10
          obtain ⟨yw10a, yw10b, yw10c, yw10d, yw10e, yw10f⟩ := zw10
          have zw11 := cw11
          obtain ⟨yw11a, yw11b, yw11c, yw11d, yw11e, yw11f⟩ := zw11
          go_wp2_with fail
          refine (realOk_any _ _ _ true _ Hrb).mono ?_
          rintro e w2 ⟨rfl, hbw2⟩
          have HBw2 : Below w.heap.size w w2 := into HBw1 hbw2 (by omega)
          have hzw2 : w.heap.size + 2 ≤ w2.heap.size := by have := hbw2.size; omega
          have cw20 := C3.below hbw2 (by omega) cw10
          have cw21 := C3.below hbw2 (by omega) cw11
          clear yw10a yw10b yw10c yw10d yw10e yw10f yw11a yw11b yw11c yw11d yw11e yw11f cw10 cw11 HBw1 hzw1
          clear hbw2
          have zw20 := cw20
          obtain ⟨yw20a, yw20b, yw20c, yw20d, yw20e, yw20f⟩ := zw20
          have zw21 := cw21
          obtain ⟨yw21a, yw21b, yw21c, yw21d, yw21e, yw21f⟩ := zw21
          go_wp2_with fail
          go_ret2
          exact ⟨ret_cb HL.out, by go_grown⟩
        · have HL := Lib.hid ((compare_eq hra hrb hlt hgt).symm.trans H.out)
          clear hra hrb H
          go_enter Try.func8, Try.ntmps8
          go_wp2_with fail
          refine (realOk_any _ _ _ true _ Hra).mono ?_
          rintro e w1 ⟨rfl, hbw1⟩
          have HBw1 : Below w.heap.size w w1 := into (by go_grown) hbw1 (by simp <;> omega)
          have hzw1 : w.heap.size + 2 ≤ w1.heap.size := by have := hbw1.size; simp at this; omega
          have cw10 := C3.below hbw1 (k := w.heap.size) (by simp <;> omega) (C3.alloc (C3.new (by simp)) (by simp <;> omega) _)
          have cw11 := C3.below hbw1 (k := w.heap.size + 1) (by simp <;> omega) (C3.new (by simp))
          clear hbw1
          have zw10 := cw10
          obtain ⟨yw10a, yw10b, yw10c, yw10d, yw10e, yw10f⟩ := zw10
          have zw11 := cw11
          obtain ⟨yw11a, yw11b, yw11c, yw11d, yw11e, yw11f⟩ := zw11
          go_wp2_with fail
          refine (realOk_any _ _ _ true _ Hrb).mono ?_
          rintro e w2 ⟨rfl, hbw2⟩
          have HBw2 : Below w.heap.size w w2 := into HBw1 hbw2 (by omega)
          have hzw2 : w.heap.size + 2 ≤ w2.heap.size := by have := hbw2.size; omega
          have cw20 := C3.below hbw2 (by omega) cw10
          have cw21 := C3.below hbw2 (by omega) cw11
          clear yw10a yw10b yw10c yw10d yw10e yw10f yw11a yw11b yw11c yw11d yw11e yw11f cw10 cw11 HBw1 hzw1
          clear hbw2
          have zw20 := cw20
          obtain ⟨yw20a, yw20b, yw20c, yw20d, yw20e, yw20f⟩ := zw20
          have zw21 := cw21
          obtain ⟨yw21a, yw21b, yw21c, yw21d, yw21e, yw21f⟩ := zw21
          go_wp2_with fail
          go_ret2
          exact ⟨ret_cb HL.out, by go_grown⟩
    · have Hrb := Lib.hid (show realB ⟨b1, b2, b3⟩ = false by simpa using hrb)
      have HL := Lib.hid ((compare_no (Or.inr Hrb.out)).symm.trans H.out)
      clear hra hrb H
      go_enter Try.func8, Try.ntmps8
      go_wp2_with fail
      refine (realOk_any _ _ _ true _ Hra).mono ?_
      rintro e w1 ⟨rfl, hbw1⟩
      have HBw1 : Below w.heap.size w w1 := into (by go_grown) hbw1 (by simp <;> omega)
      have hzw1 : w.heap.size + 2 ≤ w1.heap.size := by have := hbw1.size; simp at this; omega
      have cw10 := C3.below hbw1 (k := w.heap.size) (by simp <;> omega) (C3.alloc (C3.new (by simp)) (by simp <;> omega) _)
      have cw11 := C3.below hbw1 (k := w.heap.size + 1) (by simp <;> omega) (C3.new (by simp))
      clear hbw1
      have zw10 := cw10
      obtain ⟨yw10a, yw10b, yw10c, yw10d, yw10e, yw10f⟩ := zw10
      have zw11 := cw11
      obtain ⟨yw11a, yw11b, yw11c, yw11d, yw11e, yw11f⟩ := zw11
      go_wp2_with fail
      refine (realOk_any _ _ _ false _ Hrb).mono ?_
      rintro e w2 ⟨rfl, hbw2⟩
      have HBw2 : Below w.heap.size w w2 := into HBw1 hbw2 (by omega)
      have hzw2 : w.heap.size + 2 ≤ w2.heap.size := by have := hbw2.size; omega
      have cw20 := C3.below hbw2 (by omega) cw10
      have cw21 := C3.below hbw2 (by omega) cw11
      clear yw10a yw10b yw10c yw10d yw10e yw10f yw11a yw11b yw11c yw11d yw11e yw11f cw10 cw11 HBw1 hzw1
      clear hbw2
      have zw20 := cw20
      obtain ⟨yw20a, yw20b, yw20c, yw20d, yw20e, yw20f⟩ := zw20
      have zw21 := cw21
      obtain ⟨yw21a, yw21b, yw21c, yw21d, yw21e, yw21f⟩ := zw21
      go_wp2_with fail
      go_ret2
      exact ⟨ret_cb HL.out, by go_grown⟩
  · have Hra := Lib.hid (show realB ⟨a1, a2, a3⟩ = false by simpa using hra)
    have HL := Lib.hid ((compare_no (Or.inl Hra.out)).symm.trans H.out)
    clear hra H
    go_enter Try.func8, Try.ntmps8
    go_wp2_with fail
    refine (realOk_any _ _ _ false _ Hra).mono ?_
    rintro e w1 ⟨rfl, hbw1⟩
    have HBw1 : Below w.heap.size w w1 := into (by go_grown) hbw1 (by simp <;> omega)
    have hzw1 : w.heap.size + 2 ≤ w1.heap.size := by have := hbw1.size; simp at this; omega
    have cw10 := C3.below hbw1 (k := w.heap.size) (by simp <;> omega) (C3.alloc (C3.new (by simp)) (by simp <;> omega) _)
    have cw11 := C3.below hbw1 (k := w.heap.size + 1) (by simp <;> omega) (C3.new (by simp))
    clear hbw1
    have zw10 := cw10
    obtain ⟨yw10a, yw10b, yw10c, yw10d, yw10e, yw10f⟩ := zw10
    have zw11 := cw11
    obtain ⟨yw11a, yw11b, yw11c, yw11d, yw11e, yw11f⟩ := zw11
    go_wp2_with fail
    go_ret2
    exact ⟨ret_cb HL.out, by go_grown⟩

set_option maxHeartbeats 1000000 in
theorem scompare_any (a1 a2 a3 b1 b2 b3 c : Int) (b : Bool) (w : World) (H : Hid (PL.compare ⟨a1, a2, a3⟩ ⟨b1, b2, b3⟩ = (c, b))) :
    Calls Try.prog 9 #[.agg #[.int .i64 a1, .int .i64 a2, .int .i64 a3], .agg #[.int .i64 b1, .int .i64 b2, .int .i64 b3]] w fun e w' => e = .returned (.tuple #[.int .i64 c, .bool b]) ∧ Below w.heap.size w w' := by
  by_cases hva : valid ⟨a1, a2, a3⟩ = true
  · have Hva := Lib.hid hva
    by_cases hvb : valid ⟨b1, b2, b3⟩ = true
    · have Hvb := Lib.hid hvb
      by_cases ha2 : a2 = 0
      · by_cases hb2 : b2 = 0
        · have hra : realB ⟨a1, a2, a3⟩ = true := (realB_eq hva).trans (by simpa using ha2)
          have hrb : realB ⟨b1, b2, b3⟩ = true := (realB_eq hvb).trans (by simpa using hb2)
          obtain ⟨a1l, a1r, -, -, a3l, a3r, -⟩ := valid_iff.1 (realB_valid hra)
          obtain ⟨b1l, b1r, -, -, b3l, b3r, -⟩ := valid_iff.1 (realB_valid hrb)
          simp only at a1l a1r a3l a3r b1l b1r b3l b3r
          have m13 := mul_bd a1l a1r (show -2000000000 ≤ b3 by omega) b3r
          have m31 := mul_bd b1l b1r (show -2000000000 ≤ a3 by omega) a3r
          simp only [Int.reduceMul, Int.reduceNeg] at m13 m31
          have HL := Lib.hid ((compare_yes hra hrb).symm.trans H.out)
          simp only at HL
          clear hra hrb hva hvb H
          subst ha2 hb2
          go_enter Try.func9, Try.ntmps9
          go_wp2_with fail
          refine (svalid_any _ _ _ true _ Hva.out).mono ?_
          rintro e w1 ⟨rfl, hbw1⟩
          have HBw1 : Below w.heap.size w w1 := into (by go_grown) hbw1 (by simp <;> omega)
          have hzw1 : w.heap.size + 2 ≤ w1.heap.size := by have := hbw1.size; simp at this; omega
          have cw10 := C3.below hbw1 (k := w.heap.size) (by simp <;> omega) (C3.alloc (C3.new (by simp)) (by simp <;> omega) _)
          have cw11 := C3.below hbw1 (k := w.heap.size + 1) (by simp <;> omega) (C3.new (by simp))
          clear hbw1
          have zw10 := cw10
          obtain ⟨yw10a, yw10b, yw10c, yw10d, yw10e, yw10f⟩ := zw10
          have zw11 := cw11
          obtain ⟨yw11a, yw11b, yw11c, yw11d, yw11e, yw11f⟩ := zw11
          go_wp2_with fail
          refine (svalid_any _ _ _ true _ Hvb.out).mono ?_
          rintro e w2 ⟨rfl, hbw2⟩
          have HBw2 : Below w.heap.size w w2 := into HBw1 hbw2 (by omega)
          have hzw2 : w.heap.size + 2 ≤ w2.heap.size := by have := hbw2.size; omega
          have cw20 := C3.below hbw2 (by omega) cw10
          have cw21 := C3.below hbw2 (by omega) cw11
          clear yw10a yw10b yw10c yw10d yw10e yw10f yw11a yw11b yw11c yw11d yw11e yw11f cw10 cw11 HBw1 hzw1
          clear hbw2
          have zw20 := cw20
          obtain ⟨yw20a, yw20b, yw20c, yw20d, yw20e, yw20f⟩ := zw20
          have zw21 := cw21
          obtain ⟨yw21a, yw21b, yw21c, yw21d, yw21e, yw21f⟩ := zw21
          go_wp2_with fail
          refine (l2Sign_any _ _).mono ?_
          rintro e w4 ⟨rfl, rfl⟩
          go_wp2_with fail
          go_ret2
          exact ⟨ret_cb HL.out, by go_grown⟩
        · have hrb : realB ⟨b1, b2, b3⟩ = false := (realB_eq hvb).trans (by simpa using hb2)
          have HL := Lib.hid ((compare_no (Or.inr hrb)).symm.trans H.out)
          have hb2' : (b2 != 0) = true := by simpa using hb2
          clear hrb hva hvb H
          subst ha2
          go_enter Try.func9, Try.ntmps9
          go_wp2_with fail
          refine (svalid_any _ _ _ true _ Hva.out).mono ?_
          rintro e w1 ⟨rfl, hbw1⟩
          have HBw1 : Below w.heap.size w w1 := into (by go_grown) hbw1 (by simp <;> omega)
          have hzw1 : w.heap.size + 2 ≤ w1.heap.size := by have := hbw1.size; simp at this; omega
          have cw10 := C3.below hbw1 (k := w.heap.size) (by simp <;> omega) (C3.alloc (C3.new (by simp)) (by simp <;> omega) _)
          have cw11 := C3.below hbw1 (k := w.heap.size + 1) (by simp <;> omega) (C3.new (by simp))
          clear hbw1
          have zw10 := cw10
          obtain ⟨yw10a, yw10b, yw10c, yw10d, yw10e, yw10f⟩ := zw10
          have zw11 := cw11
          obtain ⟨yw11a, yw11b, yw11c, yw11d, yw11e, yw11f⟩ := zw11
          go_wp2_with fail
          refine (svalid_any _ _ _ true _ Hvb.out).mono ?_
          rintro e w2 ⟨rfl, hbw2⟩
          have HBw2 : Below w.heap.size w w2 := into HBw1 hbw2 (by omega)
          have hzw2 : w.heap.size + 2 ≤ w2.heap.size := by have := hbw2.size; omega
          have cw20 := C3.below hbw2 (by omega) cw10
          have cw21 := C3.below hbw2 (by omega) cw11
          clear yw10a yw10b yw10c yw10d yw10e yw10f yw11a yw11b yw11c yw11d yw11e yw11f cw10 cw11 HBw1 hzw1
          clear hbw2
          have zw20 := cw20
          obtain ⟨yw20a, yw20b, yw20c, yw20d, yw20e, yw20f⟩ := zw20
          have zw21 := cw21
          obtain ⟨yw21a, yw21b, yw21c, yw21d, yw21e, yw21f⟩ := zw21
          go_wp2_with fail
          go_ret2
          exact ⟨ret_cb HL.out, by go_grown⟩
      · have hra : realB ⟨a1, a2, a3⟩ = false := (realB_eq hva).trans (by simpa using ha2)
        have HL := Lib.hid ((compare_no (Or.inl hra)).symm.trans H.out)
        have ha2' : (a2 != 0) = true := by simpa using ha2
        clear hra hva hvb H
        go_enter Try.func9, Try.ntmps9
        go_wp2_with fail
        refine (svalid_any _ _ _ true _ Hva.out).mono ?_
        rintro e w1 ⟨rfl, hbw1⟩
        have HBw1 : Below w.heap.size w w1 := into (by go_grown) hbw1 (by simp <;> omega)
        have hzw1 : w.heap.size + 2 ≤ w1.heap.size := by have := hbw1.size; simp at this; omega
        have cw10 := C3.below hbw1 (k := w.heap.size) (by simp <;> omega) (C3.alloc (C3.new (by simp)) (by simp <;> omega) _)
        have cw11 := C3.below hbw1 (k := w.heap.size + 1) (by simp <;> omega) (C3.new (by simp))
        clear hbw1
        have zw10 := cw10
        obtain ⟨yw10a, yw10b, yw10c, yw10d, yw10e, yw10f⟩ := zw10
        have zw11 := cw11
        obtain ⟨yw11a, yw11b, yw11c, yw11d, yw11e, yw11f⟩ := zw11
        go_wp2_with fail
        refine (svalid_any _ _ _ true _ Hvb.out).mono ?_
        rintro e w2 ⟨rfl, hbw2⟩
        have HBw2 : Below w.heap.size w w2 := into HBw1 hbw2 (by omega)
        have hzw2 : w.heap.size + 2 ≤ w2.heap.size := by have := hbw2.size; omega
        have cw20 := C3.below hbw2 (by omega) cw10
        have cw21 := C3.below hbw2 (by omega) cw11
        clear yw10a yw10b yw10c yw10d yw10e yw10f yw11a yw11b yw11c yw11d yw11e yw11f cw10 cw11 HBw1 hzw1
        clear hbw2
        have zw20 := cw20
        obtain ⟨yw20a, yw20b, yw20c, yw20d, yw20e, yw20f⟩ := zw20
        have zw21 := cw21
        obtain ⟨yw21a, yw21b, yw21c, yw21d, yw21e, yw21f⟩ := zw21
        go_wp2_with fail
        go_ret2
        exact ⟨ret_cb HL.out, by go_grown⟩
    · have Hvb := Lib.hid (show valid ⟨b1, b2, b3⟩ = false by simpa using hvb)
      have HL := Lib.hid ((compare_no (Or.inr (realB_no Hvb.out))).symm.trans H.out)
      clear hva hvb H
      go_enter Try.func9, Try.ntmps9
      go_wp2_with fail
      refine (svalid_any _ _ _ true _ Hva.out).mono ?_
      rintro e w1 ⟨rfl, hbw1⟩
      have HBw1 : Below w.heap.size w w1 := into (by go_grown) hbw1 (by simp <;> omega)
      have hzw1 : w.heap.size + 2 ≤ w1.heap.size := by have := hbw1.size; simp at this; omega
      have cw10 := C3.below hbw1 (k := w.heap.size) (by simp <;> omega) (C3.alloc (C3.new (by simp)) (by simp <;> omega) _)
      have cw11 := C3.below hbw1 (k := w.heap.size + 1) (by simp <;> omega) (C3.new (by simp))
      clear hbw1
      have zw10 := cw10
      obtain ⟨yw10a, yw10b, yw10c, yw10d, yw10e, yw10f⟩ := zw10
      have zw11 := cw11
      obtain ⟨yw11a, yw11b, yw11c, yw11d, yw11e, yw11f⟩ := zw11
      go_wp2_with fail
      refine (svalid_any _ _ _ false _ Hvb.out).mono ?_
      rintro e w2 ⟨rfl, hbw2⟩
      have HBw2 : Below w.heap.size w w2 := into HBw1 hbw2 (by omega)
      have hzw2 : w.heap.size + 2 ≤ w2.heap.size := by have := hbw2.size; omega
      have cw20 := C3.below hbw2 (by omega) cw10
      have cw21 := C3.below hbw2 (by omega) cw11
      clear yw10a yw10b yw10c yw10d yw10e yw10f yw11a yw11b yw11c yw11d yw11e yw11f cw10 cw11 HBw1 hzw1
      clear hbw2
      have zw20 := cw20
      obtain ⟨yw20a, yw20b, yw20c, yw20d, yw20e, yw20f⟩ := zw20
      have zw21 := cw21
      obtain ⟨yw21a, yw21b, yw21c, yw21d, yw21e, yw21f⟩ := zw21
      go_wp2_with fail
      go_ret2
      exact ⟨ret_cb HL.out, by go_grown⟩
  · have Hva := Lib.hid (show valid ⟨a1, a2, a3⟩ = false by simpa using hva)
    have HL := Lib.hid ((compare_no (Or.inl (realB_no Hva.out))).symm.trans H.out)
    clear hva H
    go_enter Try.func9, Try.ntmps9
    go_wp2_with fail
    refine (svalid_any _ _ _ false _ Hva.out).mono ?_
    rintro e w1 ⟨rfl, hbw1⟩
    have HBw1 : Below w.heap.size w w1 := into (by go_grown) hbw1 (by simp <;> omega)
    have hzw1 : w.heap.size + 2 ≤ w1.heap.size := by have := hbw1.size; simp at this; omega
    have cw10 := C3.below hbw1 (k := w.heap.size) (by simp <;> omega) (C3.alloc (C3.new (by simp)) (by simp <;> omega) _)
    have cw11 := C3.below hbw1 (k := w.heap.size + 1) (by simp <;> omega) (C3.new (by simp))
    clear hbw1
    have zw10 := cw10
    obtain ⟨yw10a, yw10b, yw10c, yw10d, yw10e, yw10f⟩ := zw10
    have zw11 := cw11
    obtain ⟨yw11a, yw11b, yw11c, yw11d, yw11e, yw11f⟩ := zw11
    go_wp2_with fail
    go_ret2
    exact ⟨ret_cb HL.out, by go_grown⟩

end Go.Proofs.Ytmhdklhdnmpabaa
