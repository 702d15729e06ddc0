/-
  WALKS: the operations on fractions (sum, difference, product, power, mirror): the program's and the reference's. No condition.
-/
import Derived.Test.YtlhbpjdokkelpaaDoorWc
namespace Go.Proofs.YtlhbpjdokkelpaaDoor
open Go.RowKit
open PL

set_option maxHeartbeats 1000000 in
theorem times_any (a1 a2 a3 b1 b2 b3 p q d : Int) (b : Bool) (w : World) (H : Hid (times ⟨a1, a2, a3⟩ ⟨b1, b2, b3⟩ = (⟨p, q, d⟩, b))) :
    Calls Tryd.prog 9 #[.agg #[.int .i64 a1, .int .i64 a2, .int .i64 a3], .agg #[.int .i64 b1, .int .i64 b2, .int .i64 b3]] w fun e w' =>
      e = .returned (.tuple #[.agg #[.int .i64 p, .int .i64 q, .int .i64 d], .bool b]) ∧ Below w.heap.size w w' := by
  by_cases hva : valid ⟨a1, a2, a3⟩ = true
  · have Hva := Lib.hid hva
    by_cases hvb : valid ⟨b1, b2, b3⟩ = true
    · have Hvb := Lib.hid hvb
      have HL := Lib.hid ((times_low hva hvb).symm.trans H.out)
      obtain ⟨a1l, a1r, a2l, a2r, a3l, a3r, -⟩ := valid_iff.1 hva
      obtain ⟨b1l, b1r, b2l, b2r, b3l, b3r, -⟩ := valid_iff.1 hvb
      simp only at a1l a1r a2l a2r a3l a3r b1l b1r b2l b2r b3l b3r HL
      have ma1b1 := mul_bd a1l a1r b1l b1r
      have ma2b2 := mul_bd a2l a2r b2l b2r
      have ma1b2 := mul_bd a1l a1r b2l b2r
      have ma2b1 := mul_bd a2l a2r b1l b1r
      have ma3b3 := den_bd a3l a3r b3l b3r
      simp only [Int.reduceMul, Int.reduceNeg] at ma1b1 ma2b2 ma1b2 ma2b1 ma3b3
      clear hva hvb H
      go_enter Tryd.func9, Tryd.ntmps9
      go_wp2_with fail
      refine (valid_any _ _ _ true _ Hva.out).mono ?_
      rintro e w1 ⟨rfl, hbw1⟩
      have HBw1 : Below w.heap.size w w1 := into (by go_grown) hbw1 (by simp <;> omega)
      have hzw1 : w.heap.size + 3 ≤ w1.heap.size := by have := hbw1.size; simp at this; omega
      have cw10 := C3.below hbw1 (k := w.heap.size) (by simp <;> omega) (C3.alloc (C3.alloc (C3.new (by simp)) (by simp <;> omega) _) (by simp <;> omega) _)
      have cw11 := C3.below hbw1 (k := w.heap.size + 1) (by simp <;> omega) (C3.alloc (C3.new (by simp)) (by simp <;> omega) _)
      have cw12 := C3.below hbw1 (k := w.heap.size + 1 + 1) (by simp <;> omega) (C3.new (by simp))
      clear hbw1
      have zw10 := cw10
      obtain ⟨yw10a, yw10b, yw10c, yw10d, yw10e, yw10f⟩ := zw10
      have zw11 := cw11
      obtain ⟨yw11a, yw11b, yw11c, yw11d, yw11e, yw11f⟩ := zw11
      have zw12 := cw12
      obtain ⟨yw12a, yw12b, yw12c, yw12d, yw12e, yw12f⟩ := zw12
      go_wp2_with fail
      refine (valid_any _ _ _ true _ Hvb.out).mono ?_
      rintro e w2 ⟨rfl, hbw2⟩
      have HBw2 : Below w.heap.size w w2 := into HBw1 hbw2 (by omega)
      have hzw2 : w.heap.size + 3 ≤ w2.heap.size := by have := hbw2.size; omega
      have cw20 := C3.below hbw2 (by omega) cw10
      have cw21 := C3.below hbw2 (by omega) cw11
      have cw22 := C3.below hbw2 (by omega) cw12
      clear yw10a yw10b yw10c yw10d yw10e yw10f yw11a yw11b yw11c yw11d yw11e yw11f yw12a yw12b yw12c yw12d yw12e yw12f cw10 cw11 cw12 HBw1 hzw1
      clear hbw2
      have zw20 := cw20
      obtain ⟨yw20a, yw20b, yw20c, yw20d, yw20e, yw20f⟩ := zw20
      have zw21 := cw21
      obtain ⟨yw21a, yw21b, yw21c, yw21d, yw21e, yw21f⟩ := zw21
      have zw22 := cw22
      obtain ⟨yw22a, yw22b, yw22c, yw22d, yw22e, yw22f⟩ := zw22
      go_wp2_with fail
      refine (lowest_any _ _ _ p q d b _ HL (by omega) (by omega) (by omega) (by omega) (by omega) (by omega)).mono ?_
      rintro e w3 ⟨rfl, hbw3⟩
      have HBw3 : Below w.heap.size w w3 := into HBw2 hbw3 (by omega)
      have hzw3 : w.heap.size + 3 ≤ w3.heap.size := by have := hbw3.size; omega
      have cw30 := C3.below hbw3 (by omega) cw20
      have cw31 := C3.below hbw3 (by omega) cw21
      have cw32 := C3.below hbw3 (by omega) cw22
      clear yw20a yw20b yw20c yw20d yw20e yw20f yw21a yw21b yw21c yw21d yw21e yw21f yw22a yw22b yw22c yw22d yw22e yw22f cw20 cw21 cw22 HBw2 hzw2
      clear hbw3
      have zw30 := cw30
      obtain ⟨yw30a, yw30b, yw30c, yw30d, yw30e, yw30f⟩ := zw30
      have zw31 := cw31
      obtain ⟨yw31a, yw31b, yw31c, yw31d, yw31e, yw31f⟩ := zw31
      have zw32 := cw32
      obtain ⟨yw32a, yw32b, yw32c, yw32d, yw32e, yw32f⟩ := zw32
      go_wp2_with fail
      refine bodyPost_ret (by simp [results, Tryd.results9, go_sem, yw32a, yw32b, yw32c]; rfl) rfl ?_
      exact ⟨rfl, by go_grown⟩
    · have Hvb := Lib.hid (show valid ⟨b1, b2, b3⟩ = false by simpa using hvb)
      have HL := Lib.hid ((times_no (Or.inr Hvb.out)).symm.trans H.out)
      clear hva hvb H
      go_enter Tryd.func9, Tryd.ntmps9
      go_wp2_with fail
      refine (valid_any _ _ _ true _ Hva.out).mono ?_
      rintro e w1 ⟨rfl, hbw1⟩
      have HBw1 : Below w.heap.size w w1 := into (by go_grown) hbw1 (by simp <;> omega)
      have hzw1 : w.heap.size + 3 ≤ w1.heap.size := by have := hbw1.size; simp at this; omega
      have cw10 := C3.below hbw1 (k := w.heap.size) (by simp <;> omega) (C3.alloc (C3.alloc (C3.new (by simp)) (by simp <;> omega) _) (by simp <;> omega) _)
      have cw11 := C3.below hbw1 (k := w.heap.size + 1) (by simp <;> omega) (C3.alloc (C3.new (by simp)) (by simp <;> omega) _)
      have cw12 := C3.below hbw1 (k := w.heap.size + 1 + 1) (by simp <;> omega) (C3.new (by simp))
      clear hbw1
      have zw10 := cw10
      obtain ⟨yw10a, yw10b, yw10c, yw10d, yw10e, yw10f⟩ := zw10
      have zw11 := cw11
      obtain ⟨yw11a, yw11b, yw11c, yw11d, yw11e, yw11f⟩ := zw11
      have zw12 := cw12
      obtain ⟨yw12a, yw12b, yw12c, yw12d, yw12e, yw12f⟩ := zw12
      go_wp2_with fail
      refine (valid_any _ _ _ false _ Hvb.out).mono ?_
      rintro e w2 ⟨rfl, hbw2⟩
      have HBw2 : Below w.heap.size w w2 := into HBw1 hbw2 (by omega)
      have hzw2 : w.heap.size + 3 ≤ w2.heap.size := by have := hbw2.size; omega
      have cw20 := C3.below hbw2 (by omega) cw10
      have cw21 := C3.below hbw2 (by omega) cw11
      have cw22 := C3.below hbw2 (by omega) cw12
      clear yw10a yw10b yw10c yw10d yw10e yw10f yw11a yw11b yw11c yw11d yw11e yw11f yw12a yw12b yw12c yw12d yw12e yw12f cw10 cw11 cw12 HBw1 hzw1
      clear hbw2
      have zw20 := cw20
      obtain ⟨yw20a, yw20b, yw20c, yw20d, yw20e, yw20f⟩ := zw20
      have zw21 := cw21
      obtain ⟨yw21a, yw21b, yw21c, yw21d, yw21e, yw21f⟩ := zw21
      have zw22 := cw22
      obtain ⟨yw22a, yw22b, yw22c, yw22d, yw22e, yw22f⟩ := zw22
      go_wp2_with fail
      refine bodyPost_ret (by simp [results, Tryd.results9, go_sem, yw22a, yw22b, yw22c]; rfl) rfl ?_
      exact ⟨ret_fb HL.out, by go_grown⟩
  · have Hva := Lib.hid (show valid ⟨a1, a2, a3⟩ = false by simpa using hva)
    have HL := Lib.hid ((times_no (Or.inl Hva.out)).symm.trans H.out)
    clear hva H
    go_enter Tryd.func9, Tryd.ntmps9
    go_wp2_with fail
    refine (valid_any _ _ _ false _ Hva.out).mono ?_
    rintro e w1 ⟨rfl, hbw1⟩
    have HBw1 : Below w.heap.size w w1 := into (by go_grown) hbw1 (by simp <;> omega)
    have hzw1 : w.heap.size + 3 ≤ w1.heap.size := by have := hbw1.size; simp at this; omega
    have cw10 := C3.below hbw1 (k := w.heap.size) (by simp <;> omega) (C3.alloc (C3.alloc (C3.new (by simp)) (by simp <;> omega) _) (by simp <;> omega) _)
    have cw11 := C3.below hbw1 (k := w.heap.size + 1) (by simp <;> omega) (C3.alloc (C3.new (by simp)) (by simp <;> omega) _)
    have cw12 := C3.below hbw1 (k := w.heap.size + 1 + 1) (by simp <;> omega) (C3.new (by simp))
    clear hbw1
    have zw10 := cw10
    obtain ⟨yw10a, yw10b, yw10c, yw10d, yw10e, yw10f⟩ := zw10
    have zw11 := cw11
    obtain ⟨yw11a, yw11b, yw11c, yw11d, yw11e, yw11f⟩ := zw11
    have zw12 := cw12
    obtain ⟨yw12a, yw12b, yw12c, yw12d, yw12e, yw12f⟩ := zw12
    go_wp2_with fail
    refine bodyPost_ret (by simp [results, Tryd.results9, go_sem, yw12a, yw12b, yw12c]; rfl) rfl ?_
    exact ⟨ret_fb HL.out, by go_grown⟩

set_option maxHeartbeats 1000000 in
theorem stimes_any (a1 a2 a3 b1 b2 b3 p q d : Int) (b : Bool) (w : World) (H : Hid (times ⟨a1, a2, a3⟩ ⟨b1, b2, b3⟩ = (⟨p, q, d⟩, b))) :
    Calls Tryd.prog 11 #[.agg #[.int .i64 a1, .int .i64 a2, .int .i64 a3], .agg #[.int .i64 b1, .int .i64 b2, .int .i64 b3]] w fun e w' =>
      e = .returned (.tuple #[.agg #[.int .i64 p, .int .i64 q, .int .i64 d], .bool b]) ∧ Below w.heap.size w w' := by
  by_cases hva : valid ⟨a1, a2, a3⟩ = true
  · have Hva := Lib.hid hva
    by_cases hvb : valid ⟨b1, b2, b3⟩ = true
    · have Hvb := Lib.hid hvb
      have HL := Lib.hid ((times_low hva hvb).symm.trans H.out)
      obtain ⟨a1l, a1r, a2l, a2r, a3l, a3r, -⟩ := valid_iff.1 hva
      obtain ⟨b1l, b1r, b2l, b2r, b3l, b3r, -⟩ := valid_iff.1 hvb
      simp only at a1l a1r a2l a2r a3l a3r b1l b1r b2l b2r b3l b3r HL
      have ma1b1 := mul_bd a1l a1r b1l b1r
      have ma2b2 := mul_bd a2l a2r b2l b2r
      have ma1b2 := mul_bd a1l a1r b2l b2r
      have ma2b1 := mul_bd a2l a2r b1l b1r
      have ma3b3 := den_bd a3l a3r b3l b3r
      simp only [Int.reduceMul, Int.reduceNeg] at ma1b1 ma2b2 ma1b2 ma2b1 ma3b3
      clear hva hvb H
      go_enter Tryd.func11, Tryd.ntmps11
      go_wp2_with fail
      refine (svalid_any _ _ _ true _ Hva.out).mono ?_
      rintro e w1 ⟨rfl, hbw1⟩
      have HBw1 : Below w.heap.size w w1 := into (by go_grown) hbw1 (by simp <;> omega)
      have hzw1 : w.heap.size + 3 ≤ w1.heap.size := by have := hbw1.size; simp at this; omega
      have cw10 := C3.below hbw1 (k := w.heap.size) (by simp <;> omega) (C3.alloc (C3.alloc (C3.new (by simp)) (by simp <;> omega) _) (by simp <;> omega) _)
      have cw11 := C3.below hbw1 (k := w.heap.size + 1) (by simp <;> omega) (C3.alloc (C3.new (by simp)) (by simp <;> omega) _)
      have cw12 := C3.below hbw1 (k := w.heap.size + 1 + 1) (by simp <;> omega) (C3.new (by simp))
      clear hbw1
      have zw10 := cw10
      obtain ⟨yw10a, yw10b, yw10c, yw10d, yw10e, yw10f⟩ := zw10
      have zw11 := cw11
      obtain ⟨yw11a, yw11b, yw11c, yw11d, yw11e, yw11f⟩ := zw11
      have zw12 := cw12
      obtain ⟨yw12a, yw12b, yw12c, yw12d, yw12e, yw12f⟩ := zw12
      go_wp2_with fail
      refine (svalid_any _ _ _ true _ Hvb.out).mono ?_
      rintro e w2 ⟨rfl, hbw2⟩
      have HBw2 : Below w.heap.size w w2 := into HBw1 hbw2 (by omega)
      have hzw2 : w.heap.size + 3 ≤ w2.heap.size := by have := hbw2.size; omega
      have cw20 := C3.below hbw2 (by omega) cw10
      have cw21 := C3.below hbw2 (by omega) cw11
      have cw22 := C3.below hbw2 (by omega) cw12
      clear yw10a yw10b yw10c yw10d yw10e yw10f yw11a yw11b yw11c yw11d yw11e yw11f yw12a yw12b yw12c yw12d yw12e yw12f cw10 cw11 cw12 HBw1 hzw1
      clear hbw2
      have zw20 := cw20
      obtain ⟨yw20a, yw20b, yw20c, yw20d, yw20e, yw20f⟩ := zw20
      have zw21 := cw21
      obtain ⟨yw21a, yw21b, yw21c, yw21d, yw21e, yw21f⟩ := zw21
      have zw22 := cw22
      obtain ⟨yw22a, yw22b, yw22c, yw22d, yw22e, yw22f⟩ := zw22
      go_wp2_with fail
      refine (l2Low_any _ _ _ p q d b _ HL (by omega) (by omega) (by omega) (by omega) (by omega) (by omega)).mono ?_
      rintro e w3 ⟨rfl, hbw3⟩
      have HBw3 : Below w.heap.size w w3 := into HBw2 hbw3 (by omega)
      have hzw3 : w.heap.size + 3 ≤ w3.heap.size := by have := hbw3.size; omega
      have cw30 := C3.below hbw3 (by omega) cw20
      have cw31 := C3.below hbw3 (by omega) cw21
      have cw32 := C3.below hbw3 (by omega) cw22
      clear yw20a yw20b yw20c yw20d yw20e yw20f yw21a yw21b yw21c yw21d yw21e yw21f yw22a yw22b yw22c yw22d yw22e yw22f cw20 cw21 cw22 HBw2 hzw2
      clear hbw3
      have zw30 := cw30
      obtain ⟨yw30a, yw30b, yw30c, yw30d, yw30e, yw30f⟩ := zw30
      have zw31 := cw31
      obtain ⟨yw31a, yw31b, yw31c, yw31d, yw31e, yw31f⟩ := zw31
      have zw32 := cw32
      obtain ⟨yw32a, yw32b, yw32c, yw32d, yw32e, yw32f⟩ := zw32
      go_wp2_with fail
      refine bodyPost_ret (by simp [results, Tryd.results11, go_sem, yw32a, yw32b, yw32c]; rfl) rfl ?_
      exact ⟨rfl, by go_grown⟩
    · have Hvb := Lib.hid (show valid ⟨b1, b2, b3⟩ = false by simpa using hvb)
      have HL := Lib.hid ((times_no (Or.inr Hvb.out)).symm.trans H.out)
      clear hva hvb H
      go_enter Tryd.func11, Tryd.ntmps11
      go_wp2_with fail
      refine (svalid_any _ _ _ true _ Hva.out).mono ?_
      rintro e w1 ⟨rfl, hbw1⟩
      have HBw1 : Below w.heap.size w w1 := into (by go_grown) hbw1 (by simp <;> omega)
      have hzw1 : w.heap.size + 3 ≤ w1.heap.size := by have := hbw1.size; simp at this; omega
      have cw10 := C3.below hbw1 (k := w.heap.size) (by simp <;> omega) (C3.alloc (C3.alloc (C3.new (by simp)) (by simp <;> omega) _) (by simp <;> omega) _)
      have cw11 := C3.below hbw1 (k := w.heap.size + 1) (by simp <;> omega) (C3.alloc (C3.new (by simp)) (by simp <;> omega) _)
      have cw12 := C3.below hbw1 (k := w.heap.size + 1 + 1) (by simp <;> omega) (C3.new (by simp))
      clear hbw1
      have zw10 := cw10
      obtain ⟨yw10a, yw10b, yw10c, yw10d, yw10e, yw10f⟩ := zw10
      have zw11 := cw11
      obtain ⟨yw11a, yw11b, yw11c, yw11d, yw11e, yw11f⟩ := zw11
      have zw12 := cw12
      obtain ⟨yw12a, yw12b, yw12c, yw12d, yw12e, yw12f⟩ := zw12
      go_wp2_with fail
      refine (svalid_any _ _ _ false _ Hvb.out).mono ?_
      rintro e w2 ⟨rfl, hbw2⟩
      have HBw2 : Below w.heap.size w w2 := into HBw1 hbw2 (by omega)
      have hzw2 : w.heap.size + 3 ≤ w2.heap.size := by have := hbw2.size; omega
      have cw20 := C3.below hbw2 (by omega) cw10
      have cw21 := C3.below hbw2 (by omega) cw11
      have cw22 := C3.below hbw2 (by omega) cw12
      clear yw10a yw10b yw10c yw10d yw10e yw10f yw11a yw11b yw11c yw11d yw11e yw11f yw12a yw12b yw12c yw12d yw12e yw12f cw10 cw11 cw12 HBw1 hzw1
      clear hbw2
      have zw20 := cw20
      obtain ⟨yw20a, yw20b, yw20c, yw20d, yw20e, yw20f⟩ := zw20
      have zw21 := cw21
      obtain ⟨yw21a, yw21b, yw21c, yw21d, yw21e, yw21f⟩ := zw21
      have zw22 := cw22
      obtain ⟨yw22a, yw22b, yw22c, yw22d, yw22e, yw22f⟩ := zw22
      go_wp2_with fail
      refine bodyPost_ret (by simp [results, Tryd.results11, go_sem, yw22a, yw22b, yw22c]; rfl) rfl ?_
      exact ⟨ret_fb HL.out, by go_grown⟩
  · have Hva := Lib.hid (show valid ⟨a1, a2, a3⟩ = false by simpa using hva)
    have HL := Lib.hid ((times_no (Or.inl Hva.out)).symm.trans H.out)
    clear hva H
    go_enter Tryd.func11, Tryd.ntmps11
    go_wp2_with fail
    refine (svalid_any _ _ _ false _ Hva.out).mono ?_
    rintro e w1 ⟨rfl, hbw1⟩
    have HBw1 : Below w.heap.size w w1 := into (by go_grown) hbw1 (by simp <;> omega)
    have hzw1 : w.heap.size + 3 ≤ w1.heap.size := by have := hbw1.size; simp at this; omega
    have cw10 := C3.below hbw1 (k := w.heap.size) (by simp <;> omega) (C3.alloc (C3.alloc (C3.new (by simp)) (by simp <;> omega) _) (by simp <;> omega) _)
    have cw11 := C3.below hbw1 (k := w.heap.size + 1) (by simp <;> omega) (C3.alloc (C3.new (by simp)) (by simp <;> omega) _)
    have cw12 := C3.below hbw1 (k := w.heap.size + 1 + 1) (by simp <;> omega) (C3.new (by simp))
    clear hbw1
    have zw10 := cw10
    obtain ⟨yw10a, yw10b, yw10c, yw10d, yw10e, yw10f⟩ := zw10
    have zw11 := cw11
    obtain ⟨yw11a, yw11b, yw11c, yw11d, yw11e, yw11f⟩ := zw11
    have zw12 := cw12
    obtain ⟨yw12a, yw12b, yw12c, yw12d, yw12e, yw12f⟩ := zw12
    go_wp2_with fail
    refine bodyPost_ret (by simp [results, Tryd.results11, go_sem, yw12a, yw12b, yw12c]; rfl) rfl ?_
    exact ⟨ret_fb HL.out, by go_grown⟩

set_option maxHeartbeats 1000000 in
theorem power_any (a1 a2 a3 p q d : Int) (b : Bool) (w : World) (H : Hid (power ⟨a1, a2, a3⟩ = (⟨p, q, d⟩, b))) :
    Calls Tryd.prog 12 #[.agg #[.int .i64 a1, .int .i64 a2, .int .i64 a3]] w fun e w' =>
      e = .returned (.tuple #[.agg #[.int .i64 p, .int .i64 q, .int .i64 d], .bool b]) ∧ Below w.heap.size w w' := by
  by_cases hva : valid ⟨a1, a2, a3⟩ = true
  · have Hva := Lib.hid hva
    have HL := Lib.hid ((power_low hva).symm.trans H.out)
    simp only at HL
    obtain ⟨a1l, a1r, a2l, a2r, a3l, a3r, -⟩ := valid_iff.1 hva
    simp only at a1l a1r a2l a2r a3l a3r
    have m11 := sq_bd a1l a1r
    have m22 := sq_bd a2l a2r
    have m33 := den_bd a3l a3r a3l a3r
    simp only [Int.reduceMul] at m11 m22 m33
    clear hva H
    go_enter Tryd.func12, Tryd.ntmps12
    go_wp2_with fail
    refine (valid_any _ _ _ true _ Hva.out).mono ?_
    rintro e w1 ⟨rfl, hbw1⟩
    have HBw1 : Below w.heap.size w w1 := into (by go_grown) hbw1 (by simp <;> omega)
    have hzw1 : w.heap.size + 2 ≤ w1.heap.size := by have := hbw1.size; simp at this; omega
    have cw10 := C3.below hbw1 (k := w.heap.size) (by simp <;> omega) (C3.alloc (C3.new (by simp)) (by simp <;> omega) _)
    have cw11 := C3.below hbw1 (k := w.heap.size + 1) (by simp <;> omega) (C3.new (by simp))
    clear hbw1
    have zw10 := cw10
    obtain ⟨yw10a, yw10b, yw10c, yw10d, yw10e, yw10f⟩ := zw10
    have zw11 := cw11
    obtain ⟨yw11a, yw11b, yw11c, yw11d, yw11e, yw11f⟩ := zw11
    go_wp2_with fail
    refine (lowest_any _ _ _ p q d b _ HL (by omega) (by omega) (by omega) (by omega) (by omega) (by omega)).mono ?_
    rintro e w3 ⟨rfl, hbw3⟩
    have HBw3 : Below w.heap.size w w3 := into HBw1 hbw3 (by omega)
    have hzw3 : w.heap.size + 2 ≤ w3.heap.size := by have := hbw3.size; omega
    have cw30 := C3.below hbw3 (by omega) cw10
    have cw31 := C3.below hbw3 (by omega) cw11
    clear yw10a yw10b yw10c yw10d yw10e yw10f yw11a yw11b yw11c yw11d yw11e yw11f cw10 cw11 HBw1 hzw1
    clear hbw3
    have zw30 := cw30
    obtain ⟨yw30a, yw30b, yw30c, yw30d, yw30e, yw30f⟩ := zw30
    have zw31 := cw31
    obtain ⟨yw31a, yw31b, yw31c, yw31d, yw31e, yw31f⟩ := zw31
    go_wp2_with fail
    refine bodyPost_ret (by simp [results, Tryd.results12, go_sem, yw31a, yw31b, yw31c]; rfl) rfl ?_
    exact ⟨rfl, by go_grown⟩
  · have Hva := Lib.hid (show valid ⟨a1, a2, a3⟩ = false by simpa using hva)
    have HL := Lib.hid ((power_no Hva.out).symm.trans H.out)
    clear hva H
    go_enter Tryd.func12, Tryd.ntmps12
    go_wp2_with fail
    refine (valid_any _ _ _ false _ Hva.out).mono ?_
    rintro e w1 ⟨rfl, hbw1⟩
    have HBw1 : Below w.heap.size w w1 := into (by go_grown) hbw1 (by simp <;> omega)
    have hzw1 : w.heap.size + 2 ≤ w1.heap.size := by have := hbw1.size; simp at this; omega
    have cw10 := C3.below hbw1 (k := w.heap.size) (by simp <;> omega) (C3.alloc (C3.new (by simp)) (by simp <;> omega) _)
    have cw11 := C3.below hbw1 (k := w.heap.size + 1) (by simp <;> omega) (C3.new (by simp))
    clear hbw1
    have zw10 := cw10
    obtain ⟨yw10a, yw10b, yw10c, yw10d, yw10e, yw10f⟩ := zw10
    have zw11 := cw11
    obtain ⟨yw11a, yw11b, yw11c, yw11d, yw11e, yw11f⟩ := zw11
    go_wp2_with fail
    refine bodyPost_ret (by simp [results, Tryd.results12, go_sem, yw11a, yw11b, yw11c]; rfl) rfl ?_
    exact ⟨ret_fb HL.out, by go_grown⟩

end Go.Proofs.YtlhbpjdokkelpaaDoor
