/-
  WALKS: FracMake, the reference's FracPower, realOk, FracCompare, l2Sign. No condition.
-/
import Derived.Test.YtlnbapakpfnbdaaWd
namespace Go.Proofs.Ytlnbapakpfnbdaa
open Go.RowKit
open PL

theorem ret_cb {r s : Int × Bool} (h : r = s) : Ending.returned (.tuple #[.int .i64 r.1, .bool r.2]) = .returned (.tuple #[.int .i64 s.1, .bool s.2]) := by rw [h]

set_option maxHeartbeats 2000000 in
theorem make_any (re im den p q d : Int) (b : Bool) (w : World) (H : Hid (make re im den = (⟨p, q, d⟩, b))) :
    Calls Try.prog 17 #[.int .i64 re, .int .i64 im, .int .i64 den] w fun e w' =>
      e = .returned (.tuple #[.agg #[.int .i64 p, .int .i64 q, .int .i64 d], .bool b]) ∧ Below w.heap.size w w' := by
  by_cases hd : 1 ≤ den ∧ den ≤ 1000000000000000000
  · obtain ⟨d1, d2⟩ := hd
    by_cases hr : -1000000000000000000 ≤ re ∧ re ≤ 1000000000000000000
    · obtain ⟨r1, r2⟩ := hr
      by_cases hi : -1000000000000000000 ≤ im ∧ im ≤ 1000000000000000000
      · obtain ⟨i1, i2⟩ := hi
        have HL := Lib.hid ((make_low d1 d2 r1 r2 i1 i2).symm.trans H.out)
        clear H
        go_enter Try.func17, Try.ntmps17
        go_wp2_with (go_at_call 39; first | (refine (within_yes _ _ _ _ ?_ ?_).mono ?_; assumption; assumption; rintro e w' ⟨rfl, rfl⟩) | (refine (within_no _ _ _ _ Hn.out).mono ?_; rintro e w' ⟨rfl, rfl⟩))
        refine (lowest_any _ _ _ p q d b _ HL (by omega) (by omega) (by omega) (by omega) (by omega) (by omega)).mono ?_
        rintro e w1 ⟨rfl, hbw1⟩
        have HBw1 : Below w.heap.size w w1 := into (by go_grown) hbw1 (by simp <;> omega)
        have hzw1 : w.heap.size + 1 ≤ w1.heap.size := by have := hbw1.size; simp at this; omega
        have cw10 := C3.below hbw1 (k := w.heap.size) (by simp <;> omega) (C3.new (by simp))
        clear hbw1
        have zw10 := cw10
        obtain ⟨yw10a, yw10b, yw10c, yw10d, yw10e, yw10f⟩ := zw10
        go_wp2_with fail
        refine bodyPost_ret (by simp [results, Try.results17, go_sem, yw10a, yw10b, yw10c]; rfl) rfl ?_
        exact ⟨rfl, by go_grown⟩
      · have hn : im < -1000000000000000000 ∨ 1000000000000000000 < im := by omega
        have Hn := Lib.hid hn
        have HL := Lib.hid ((make_no (re := re) (den := den) (Or.inr (Or.inr hn))).symm.trans H.out)
        clear H hn hi
        go_enter Try.func17, Try.ntmps17
        go_wp2_with (go_at_call 39; first | (refine (within_yes _ _ _ _ ?_ ?_).mono ?_; assumption; assumption; rintro e w' ⟨rfl, rfl⟩) | (refine (within_no _ _ _ _ Hn.out).mono ?_; rintro e w' ⟨rfl, rfl⟩))
        go_returns
        exact ⟨ret_fb HL.out, by go_grown⟩
    · have hn : re < -1000000000000000000 ∨ 1000000000000000000 < re := by omega
      have Hn := Lib.hid hn
      have HL := Lib.hid ((make_no (im := im) (den := den) (Or.inr (Or.inl hn))).symm.trans H.out)
      clear H hn hr
      go_enter Try.func17, Try.ntmps17
      go_wp2_with (go_at_call 39; first | (refine (within_yes _ _ _ _ ?_ ?_).mono ?_; assumption; assumption; rintro e w' ⟨rfl, rfl⟩) | (refine (within_no _ _ _ _ Hn.out).mono ?_; rintro e w' ⟨rfl, rfl⟩))
      go_returns
      exact ⟨ret_fb HL.out, by go_grown⟩
  · have hn : den < 1 ∨ 1000000000000000000 < den := by omega
    have Hn := Lib.hid hn
    have HL := Lib.hid ((make_no (re := re) (im := im) (Or.inl hn)).symm.trans H.out)
    clear H hd
    rcases hn with hn | hn
    · have hn2 : den ≤ 1000000000000000000 := by omega
      go_enter Try.func17, Try.ntmps17
      go_wp2_with (go_at_call 39; first | (refine (within_yes _ _ _ _ ?_ ?_).mono ?_; assumption; assumption; rintro e w' ⟨rfl, rfl⟩) | (refine (within_no _ _ _ _ Hn.out).mono ?_; rintro e w' ⟨rfl, rfl⟩))
      go_returns
      exact ⟨ret_fb HL.out, by go_grown⟩
    · have hn2 : 1 ≤ den := by omega
      go_enter Try.func17, Try.ntmps17
      go_wp2_with (go_at_call 39; first | (refine (within_yes _ _ _ _ ?_ ?_).mono ?_; assumption; assumption; rintro e w' ⟨rfl, rfl⟩) | (refine (within_no _ _ _ _ Hn.out).mono ?_; rintro e w' ⟨rfl, rfl⟩))
      go_returns
      exact ⟨ret_fb HL.out, by go_grown⟩

set_option maxHeartbeats 2000000 in
theorem smake_any (re im den p q d : Int) (b : Bool) (w : World) (H : Hid (make re im den = (⟨p, q, d⟩, b))) :
    Calls Try.prog 16 #[.int .i64 re, .int .i64 im, .int .i64 den] w fun e w' =>
      e = .returned (.tuple #[.agg #[.int .i64 p, .int .i64 q, .int .i64 d], .bool b]) ∧ Below w.heap.size w w' := by
  by_cases hd : 1 ≤ den ∧ den ≤ 1000000000000000000
  · obtain ⟨d1, d2⟩ := hd
    by_cases hr : -1000000000000000000 ≤ re ∧ re ≤ 1000000000000000000
    · obtain ⟨r1, r2⟩ := hr
      by_cases hi : -1000000000000000000 ≤ im ∧ im ≤ 1000000000000000000
      · obtain ⟨i1, i2⟩ := hi
        have HL := Lib.hid ((make_low d1 d2 r1 r2 i1 i2).symm.trans H.out)
        clear H
        go_enter Try.func16, Try.ntmps16
        go_wp2_with (go_at_call 37; first | (refine (l6In_yes _ _ _ _ ?_ ?_).mono ?_; assumption; assumption; rintro e w' ⟨rfl, rfl⟩) | (refine (l6In_no _ _ _ _ Hn.out).mono ?_; rintro e w' ⟨rfl, rfl⟩))
        refine (l2Low_any _ _ _ p q d b _ HL (by omega) (by omega) (by omega) (by omega) (by omega) (by omega)).mono ?_
        rintro e w1 ⟨rfl, hbw1⟩
        have HBw1 : Below w.heap.size w w1 := into (by go_grown) hbw1 (by simp <;> omega)
        have hzw1 : w.heap.size + 1 ≤ w1.heap.size := by have := hbw1.size; simp at this; omega
        have cw10 := C3.below hbw1 (k := w.heap.size) (by simp <;> omega) (C3.new (by simp))
        clear hbw1
        have zw10 := cw10
        obtain ⟨yw10a, yw10b, yw10c, yw10d, yw10e, yw10f⟩ := zw10
        go_wp2_with fail
        refine bodyPost_ret (by simp [results, Try.results16, go_sem, yw10a, yw10b, yw10c]; rfl) rfl ?_
        exact ⟨rfl, by go_grown⟩
      · have hn : im < -1000000000000000000 ∨ 1000000000000000000 < im := by omega
        have Hn := Lib.hid hn
        have HL := Lib.hid ((make_no (re := re) (den := den) (Or.inr (Or.inr hn))).symm.trans H.out)
        clear H hn hi
        go_enter Try.func16, Try.ntmps16
        go_wp2_with (go_at_call 37; first | (refine (l6In_yes _ _ _ _ ?_ ?_).mono ?_; assumption; assumption; rintro e w' ⟨rfl, rfl⟩) | (refine (l6In_no _ _ _ _ Hn.out).mono ?_; rintro e w' ⟨rfl, rfl⟩))
        go_returns
        exact ⟨ret_fb HL.out, by go_grown⟩
    · have hn : re < -1000000000000000000 ∨ 1000000000000000000 < re := by omega
      have Hn := Lib.hid hn
      have HL := Lib.hid ((make_no (im := im) (den := den) (Or.inr (Or.inl hn))).symm.trans H.out)
      clear H hn hr
      go_enter Try.func16, Try.ntmps16
      go_wp2_with (go_at_call 37; first | (refine (l6In_yes _ _ _ _ ?_ ?_).mono ?_; assumption; assumption; rintro e w' ⟨rfl, rfl⟩) | (refine (l6In_no _ _ _ _ Hn.out).mono ?_; rintro e w' ⟨rfl, rfl⟩))
      go_returns
      exact ⟨ret_fb HL.out, by go_grown⟩
  · have hn : den < 1 ∨ 1000000000000000000 < den := by omega
    have Hn := Lib.hid hn
    have HL := Lib.hid ((make_no (re := re) (im := im) (Or.inl hn)).symm.trans H.out)
    clear H hd
    rcases hn with hn | hn
    · have hn2 : den ≤ 1000000000000000000 := by omega
      go_enter Try.func16, Try.ntmps16
      go_wp2_with (go_at_call 37; first | (refine (l6In_yes _ _ _ _ ?_ ?_).mono ?_; assumption; assumption; rintro e w' ⟨rfl, rfl⟩) | (refine (l6In_no _ _ _ _ Hn.out).mono ?_; rintro e w' ⟨rfl, rfl⟩))
      go_returns
      exact ⟨ret_fb HL.out, by go_grown⟩
    · have hn2 : 1 ≤ den := by omega
      go_enter Try.func16, Try.ntmps16
      go_wp2_with (go_at_call 37; first | (refine (l6In_yes _ _ _ _ ?_ ?_).mono ?_; assumption; assumption; rintro e w' ⟨rfl, rfl⟩) | (refine (l6In_no _ _ _ _ Hn.out).mono ?_; rintro e w' ⟨rfl, rfl⟩))
      go_returns
      exact ⟨ret_fb HL.out, by go_grown⟩

set_option maxHeartbeats 1000000 in
theorem spower_any (a1 a2 a3 p q d : Int) (b : Bool) (w : World) (H : Hid (power ⟨a1, a2, a3⟩ = (⟨p, q, d⟩, b))) :
    Calls Try.prog 27 #[.agg #[.int .i64 a1, .int .i64 a2, .int .i64 a3]] w fun e w' =>
      e = .returned (.tuple #[.agg #[.int .i64 p, .int .i64 q, .int .i64 d], .bool b]) ∧ Below w.heap.size w w' := by
  by_cases hva : valid ⟨a1, a2, a3⟩ = true
  · have HM := Lib.hid (mirror_yes hva)
    have HL := Lib.hid ((power_times hva).symm.trans H.out)
    simp only at HM HL
    clear hva H
    go_enter Try.func27, Try.ntmps27
    go_wp2_with fail
    refine (smirror_any _ _ _ _ _ _ true _ HM).mono ?_
    rintro e w1 ⟨rfl, hbw1⟩
    have HBw1 : Below w.heap.size w w1 := into (by go_grown) hbw1 (by simp <;> omega)
    have hzw1 : w.heap.size + 2 ≤ w1.heap.size := by have := hbw1.size; simp at this; omega
    have cw10 := C3.below hbw1 (k := w.heap.size) (by simp <;> omega) (C3.alloc (C3.new (by simp)) (by simp <;> omega) _)
    have cw11 := C3.below hbw1 (k := w.heap.size + 1) (by simp <;> omega) (C3.new (by simp))
    clear hbw1
    have zw10 := cw10
    obtain ⟨yw10a, yw10b, yw10c, yw10d, yw10e, yw10f⟩ := zw10
    have zw11 := cw11
    obtain ⟨yw11a, yw11b, yw11c, yw11d, yw11e, yw11f⟩ := zw11
    have hq0 : w.heap.size < w1.heap.size := by omega
    have hq1 : w.heap.size + 1 < w1.heap.size := by omega
    go_wp2_with fail
    refine (stimes_any _ _ _ _ _ _ p q d b _ HL).mono ?_
    rintro e w3 ⟨rfl, hbw3⟩
    have HBw3 : Below w.heap.size w w3 := into (by go_grown) hbw3 (by simp; omega)
    obtain ⟨t0, t1, t2, t3, t4, t5⟩ := C3.below hbw3 (k := w.heap.size + 1) (by simp; omega) (C3.alloc cw11 (by omega) _)
    go_wp2_with fail
    refine bodyPost_ret (by simp [results, Try.results27, go_sem, t0, t1, t2]; rfl) rfl ?_
    exact ⟨rfl, by go_grown⟩
  · have Hva := Lib.hid (show valid ⟨a1, a2, a3⟩ = false by simpa using hva)
    have HM := Lib.hid (mirror_no Hva.out)
    have HL := Lib.hid ((power_no Hva.out).symm.trans H.out)
    clear hva H
    go_enter Try.func27, Try.ntmps27
    go_wp2_with fail
    refine (smirror_any _ _ _ 0 0 0 false _ HM).mono ?_
    rintro e w1 ⟨rfl, hbw1⟩
    have HBw1 : Below w.heap.size w w1 := into (by go_grown) hbw1 (by simp <;> omega)
    have hzw1 : w.heap.size + 2 ≤ w1.heap.size := by have := hbw1.size; simp at this; omega
    have cw10 := C3.below hbw1 (k := w.heap.size) (by simp <;> omega) (C3.alloc (C3.new (by simp)) (by simp <;> omega) _)
    have cw11 := C3.below hbw1 (k := w.heap.size + 1) (by simp <;> omega) (C3.new (by simp))
    clear hbw1
    have zw10 := cw10
    obtain ⟨yw10a, yw10b, yw10c, yw10d, yw10e, yw10f⟩ := zw10
    have zw11 := cw11
    obtain ⟨yw11a, yw11b, yw11c, yw11d, yw11e, yw11f⟩ := zw11
    have hq0 : w.heap.size < w1.heap.size := by omega
    have hq1 : w.heap.size + 1 < w1.heap.size := by omega
    go_wp2_with fail
    refine bodyPost_ret (by simp [results, Try.results27, go_sem, yw11a, yw11b, yw11c, hq1]; rfl) rfl ?_
    exact ⟨ret_fb HL.out, by go_grown⟩

set_option maxHeartbeats 1000000 in
theorem realOk_any (a1 a2 a3 : Int) (b : Bool) (w : World) (H : Hid (realB ⟨a1, a2, a3⟩ = b)) :
    Calls Try.prog 46 #[.agg #[.int .i64 a1, .int .i64 a2, .int .i64 a3]] w fun e w' => e = .returned (.bool b) ∧ Below w.heap.size w w' := by
  by_cases hva : valid ⟨a1, a2, a3⟩ = true
  · have Hva := Lib.hid hva
    have HL := Lib.hid ((realB_eq hva).symm.trans H.out)
    clear hva H
    simp only at HL
    go_enter Try.func46, Try.ntmps46
    go_wp2_with fail
    refine (valid_any _ _ _ true _ Hva.out).mono ?_
    rintro e w1 ⟨rfl, hbw1⟩
    have HBw1 : Below w.heap.size w w1 := into (by go_grown) hbw1 (by simp <;> omega)
    have hzw1 : w.heap.size + 1 ≤ w1.heap.size := by have := hbw1.size; simp at this; omega
    have cw10 := C3.below hbw1 (k := w.heap.size) (by simp <;> omega) (C3.new (by simp))
    clear hbw1
    have zw10 := cw10
    obtain ⟨yw10a, yw10b, yw10c, yw10d, yw10e, yw10f⟩ := zw10
    go_wp2_with fail
    go_ret
    exact ⟨ret_b HL.out, by go_grown⟩
  · have Hva := Lib.hid (show valid ⟨a1, a2, a3⟩ = false by simpa using hva)
    have HL := Lib.hid ((realB_no Hva.out).symm.trans H.out)
    clear hva H
    go_enter Try.func46, Try.ntmps46
    go_wp2_with fail
    refine (valid_any _ _ _ false _ Hva.out).mono ?_
    rintro e w1 ⟨rfl, hbw1⟩
    have HBw1 : Below w.heap.size w w1 := into (by go_grown) hbw1 (by simp <;> omega)
    have hzw1 : w.heap.size + 1 ≤ w1.heap.size := by have := hbw1.size; simp at this; omega
    have cw10 := C3.below hbw1 (k := w.heap.size) (by simp <;> omega) (C3.new (by simp))
    clear hbw1
    have zw10 := cw10
    obtain ⟨yw10a, yw10b, yw10c, yw10d, yw10e, yw10f⟩ := zw10
    go_wp2_with fail
    go_ret
    exact ⟨ret_b HL.out, by go_grown⟩

set_option maxHeartbeats 400000 in
theorem l2Sign_any (n : Int) (w : World) : Calls Try.prog 45 #[.int .i64 n] w fun e w' => e = .returned (.int .i64 (sign n)) ∧ w' = w := by
  have hs : sign n = max (-1) (min 1 n) := by unfold sign; split <;> (try split) <;> omega
  have Hs := Lib.hid hs; clear hs
  by_cases h1 : n < -1
  · go_enter Try.func45, Try.ntmps45
    go_wp2
    go_ret
    exact ⟨ret_i (by rw [Hs.out]; omega), rfl⟩
  · by_cases h2 : 1 < n
    · go_enter Try.func45, Try.ntmps45
      go_wp2
      go_ret
      exact ⟨ret_i (by rw [Hs.out]; omega), rfl⟩
    · go_enter Try.func45, Try.ntmps45
      go_wp2
      all_goals
        go_ret
        exact ⟨ret_i (by rw [Hs.out]; omega), rfl⟩

set_option maxHeartbeats 1000000 in
theorem compare_any (a1 a2 a3 b1 b2 b3 c : Int) (b : Bool) (w : World) (H : Hid (PL.compare ⟨a1, a2, a3⟩ ⟨b1, b2, b3⟩ = (c, b))) :
    Calls Try.prog 30 #[.agg #[.int .i64 a1, .int .i64 a2, .int .i64 a3], .agg #[.int .i64 b1, .int .i64 b2, .int .i64 b3]] w fun e w' => e = .returned (.tuple #[.int .i64 c, .bool b]) ∧ Below w.heap.size w w' := by
  by_cases hra : realB ⟨a1, a2, a3⟩ = true
  · have Hra := Lib.hid hra
    by_cases hrb : realB ⟨b1, b2, b3⟩ = true
    · have Hrb := Lib.hid hrb
      obtain ⟨a1l, a1r, -, -, a3l, a3r, -⟩ := valid_iff.1 (realB_valid hra)
      obtain ⟨b1l, b1r, -, -, b3l, b3r, -⟩ := valid_iff.1 (realB_valid hrb)
      simp only at a1l a1r a3l a3r b1l b1r b3l b3r
      have m13 := mul_bd a1l a1r (show -2000000000 ≤ b3 by omega) b3r
      have m31 := mul_bd b1l b1r (show -2000000000 ≤ a3 by omega) a3r
      simp only [Int.reduceMul, Int.reduceNeg] at m13 m31
      by_cases hlt : a1 * b3 - b1 * a3 < 0
      · have HL := Lib.hid ((compare_lt hra hrb hlt).symm.trans H.out)
        clear hra hrb H
        go_enter Try.func30, Try.ntmps30
        go_wp2_with fail
        refine (realOk_any _ _ _ true _ Hra).mono ?_
        rintro e w1 ⟨rfl, hbw1⟩
        have HBw1 : Below w.heap.size w w1 := into (by go_grown) hbw1 (by simp <;> omega)
        have hzw1 : w.heap.size + 2 ≤ w1.heap.size := by have := hbw1.size; simp at this; omega
        have cw10 := C3.below hbw1 (k := w.heap.size) (by simp <;> omega) (C3.alloc (C3.new (by simp)) (by simp <;> omega) _)
        have cw11 := C3.below hbw1 (k := w.heap.size + 1) (by simp <;> omega) (C3.new (by simp))
        clear hbw1
        have zw10 := cw10
        obtain ⟨yw10a, yw10b, yw10c, yw10d, yw10e, yw10f⟩ := zw10
        have zw11 := cw11
        obtain ⟨yw11a, yw11b, yw11c, yw11d, yw11e, yw11f⟩ := zw11
        go_wp2_with fail
        refine (realOk_any _ _ _ true _ Hrb).mono ?_
        rintro e w2 ⟨rfl, hbw2⟩
        have HBw2 : Below w.heap.size w w2 := into HBw1 hbw2 (by omega)
        have hzw2 : w.heap.size + 2 ≤ w2.heap.size := by have := hbw2.size; omega
        have cw20 := C3.below hbw2 (by omega) cw10
        have cw21 := C3.below hbw2 (by omega) cw11
        clear yw10a yw10b yw10c yw10d yw10e yw10f yw11a yw11b yw11c yw11d yw11e yw11f cw10 cw11 HBw1 hzw1
        clear hbw2
        have zw20 := cw20
        obtain ⟨yw20a, yw20b, yw20c, yw20d, yw20e, yw20f⟩ := zw20
        have zw21 := cw21
        obtain ⟨yw21a, yw21b, yw21c, yw21d, yw21e, yw21f⟩ := zw21
        go_wp2_with fail
        go_ret2
        exact ⟨ret_cb HL.out, by go_grown⟩
      · by_cases hgt : 0 < a1 * b3 - b1 * a3
        · have HL := Lib.hid ((compare_gt hra hrb hgt).symm.trans H.out)
          clear hra hrb H
          go_enter Try.func30, Try.ntmps30
          go_wp2_with fail
          refine (realOk_any _ _ _ true _ Hra).mono ?_
          rintro e w1 ⟨rfl, hbw1⟩
          have HBw1 : Below w.heap.size w w1 := into (by go_grown) hbw1 (by simp <;> omega)
          have hzw1 : w.heap.size + 2 ≤ w1.heap.size := by have := hbw1.size; simp at this; omega
          have cw10 := C3.below hbw1 (k := w.heap.size) (by simp <;> omega) (C3.alloc (C3.new (by simp)) (by simp <;> omega) _)
          have cw11 := C3.below hbw1 (k := w.heap.size + 1) (by simp <;> omega) (C3.new (by simp))
          clear hbw1
          have zw10 := cw10
          obtain ⟨yw10a, yw10b, yw10c, yw10d, yw10e, yw10f⟩ := zw10
          have zw11 := cw11
          obtain ⟨yw11a, yw11b, yw11c, yw11d, yw11e, yw11f⟩ := zw11
          go_wp2_with fail
          refine (realOk_any _ _ _ true _ Hrb).mono ?_
          rintro e w2 ⟨rfl, hbw2⟩
          have HBw2 : Below w.heap.size w w2 := into HBw1 hbw2 (by omega)
          have hzw2 : w.heap.size + 2 ≤ w2.heap.size := by have := hbw2.size; omega
          have cw20 := C3.below hbw2 (by omega) cw10
          have cw21 := C3.below hbw2 (by omega) cw11
          clear yw10a yw10b yw10c yw10d yw10e yw10f yw11a yw11b yw11c yw11d yw11e yw11f cw10 cw11 HBw1 hzw1
          clear hbw2
          have zw20 := cw20
          obtain ⟨yw20a, yw20b, yw20c, yw20d, yw20e, yw20f⟩ := zw20
          have zw21 := cw21
          obtain ⟨yw21a, yw21b, yw21c, yw21d, yw21e, yw21f⟩ := zw21
          go_wp2_with fail
          go_ret2
          exact ⟨ret_cb HL.out, by go_grown⟩
        · have HL := Lib.hid ((compare_eq hra hrb hlt hgt).symm.trans H.out)
          clear hra hrb H
          go_enter Try.func30, Try.ntmps30
          go_wp2_with fail
          refine (realOk_any _ _ _ true _ Hra).mono ?_
          rintro e w1 ⟨rfl, hbw1⟩
          have HBw1 : Below w.heap.size w w1 := into (by go_grown) hbw1 (by simp <;> omega)
          have hzw1 : w.heap.size + 2 ≤ w1.heap.size := by have := hbw1.size; simp at this; omega
          have cw10 := C3.below hbw1 (k := w.heap.size) (by simp <;> omega) (C3.alloc (C3.new (by simp)) (by simp <;> omega) _)
          have cw11 := C3.below hbw1 (k := w.heap.size + 1) (by simp <;> omega) (C3.new (by simp))
          clear hbw1
          have zw10 := cw10
          obtain ⟨yw10a, yw10b, yw10c, yw10d, yw10e, yw10f⟩ := zw10
          have zw11 := cw11
          obtain ⟨yw11a, yw11b, yw11c, yw11d, yw11e, yw11f⟩ := zw11
          go_wp2_with fail
          refine (realOk_any _ _ _ true _ Hrb).mono ?_
          rintro e w2 ⟨rfl, hbw2⟩
          have HBw2 : Below w.heap.size w w2 := into HBw1 hbw2 (by omega)
          have hzw2 : w.heap.size + 2 ≤ w2.heap.size := by have := hbw2.size; omega
          have cw20 := C3.below hbw2 (by omega) cw10
          have cw21 := C3.below hbw2 (by omega) cw11
          clear yw10a yw10b yw10c yw10d yw10e yw10f yw11a yw11b yw11c yw11d yw11e yw11f cw10 cw11 HBw1 hzw1
          clear hbw2
          have zw20 := cw20
          obtain ⟨yw20a, yw20b, yw20c, yw20d, yw20e, yw20f⟩ := zw20
          have zw21 := cw21
          obtain ⟨yw21a, yw21b, yw21c, yw21d, yw21e, yw21f⟩ := zw21
          go_wp2_with fail
          go_ret2
          exact ⟨ret_cb HL.out, by go_grown⟩
    · have Hrb := Lib.hid (show realB ⟨b1, b2, b3⟩ = false by simpa using hrb)
      have HL := Lib.hid ((compare_no (Or.inr Hrb.out)).symm.trans H.out)
      clear hra hrb H
      go_enter Try.func30, Try.ntmps30
      go_wp2_with fail
      refine (realOk_any _ _ _ true _ Hra).mono ?_
      rintro e w1 ⟨rfl, hbw1⟩
      have HBw1 : Below w.heap.size w w1 := into (by go_grown) hbw1 (by simp <;> omega)
      have hzw1 : w.heap.size + 2 ≤ w1.heap.size := by have := hbw1.size; simp at this; omega
      have cw10 := C3.below hbw1 (k := w.heap.size) (by simp <;> omega) (C3.alloc (C3.new (by simp)) (by simp <;> omega) _)
      have cw11 := C3.below hbw1 (k := w.heap.size + 1) (by simp <;> omega) (C3.new (by simp))
      clear hbw1
      have zw10 := cw10
      obtain ⟨yw10a, yw10b, yw10c, yw10d, yw10e, yw10f⟩ := zw10
      have zw11 := cw11
      obtain ⟨yw11a, yw11b, yw11c, yw11d, yw11e, yw11f⟩ := zw11
      go_wp2_with fail
      refine (realOk_any _ _ _ false _ Hrb).mono ?_
      rintro e w2 ⟨rfl, hbw2⟩
      have HBw2 : Below w.heap.size w w2 := into HBw1 hbw2 (by omega)
      have hzw2 : w.heap.size + 2 ≤ w2.heap.size := by have := hbw2.size; omega
      have cw20 := C3.below hbw2 (by omega) cw10
      have cw21 := C3.below hbw2 (by omega) cw11
      clear yw10a yw10b yw10c yw10d yw10e yw10f yw11a yw11b yw11c yw11d yw11e yw11f cw10 cw11 HBw1 hzw1
      clear hbw2
      have zw20 := cw20
      obtain ⟨yw20a, yw20b, yw20c, yw20d, yw20e, yw20f⟩ := zw20
      have zw21 := cw21
      obtain ⟨yw21a, yw21b, yw21c, yw21d, yw21e, yw21f⟩ := zw21
      go_wp2_with fail
      go_ret2
      exact ⟨ret_cb HL.out, by go_grown⟩
  · have Hra := Lib.hid (show realB ⟨a1, a2, a3⟩ = false by simpa using hra)
    have HL := Lib.hid ((compare_no (Or.inl Hra.out)).symm.trans H.out)
    clear hra H
    go_enter Try.func30, Try.ntmps30
    go_wp2_with fail
    refine (realOk_any _ _ _ false _ Hra).mono ?_
    rintro e w1 ⟨rfl, hbw1⟩
    have HBw1 : Below w.heap.size w w1 := into (by go_grown) hbw1 (by simp <;> omega)
    have hzw1 : w.heap.size + 2 ≤ w1.heap.size := by have := hbw1.size; simp at this; omega
    have cw10 := C3.below hbw1 (k := w.heap.size) (by simp <;> omega) (C3.alloc (C3.new (by simp)) (by simp <;> omega) _)
    have cw11 := C3.below hbw1 (k := w.heap.size + 1) (by simp <;> omega) (C3.new (by simp))
    clear hbw1
    have zw10 := cw10
    obtain ⟨yw10a, yw10b, yw10c, yw10d, yw10e, yw10f⟩ := zw10
    have zw11 := cw11
    obtain ⟨yw11a, yw11b, yw11c, yw11d, yw11e, yw11f⟩ := zw11
    go_wp2_with fail
    go_ret2
    exact ⟨ret_cb HL.out, by go_grown⟩

set_option maxHeartbeats 1000000 in
theorem scompare_any (a1 a2 a3 b1 b2 b3 c : Int) (b : Bool) (w : World) (H : Hid (PL.compare ⟨a1, a2, a3⟩ ⟨b1, b2, b3⟩ = (c, b))) :
    Calls Try.prog 29 #[.agg #[.int .i64 a1, .int .i64 a2, .int .i64 a3], .agg #[.int .i64 b1, .int .i64 b2, .int .i64 b3]] w fun e w' => e = .returned (.tuple #[.int .i64 c, .bool b]) ∧ Below w.heap.size w w' := by
  by_cases hva : valid ⟨a1, a2, a3⟩ = true
  · have Hva := Lib.hid hva
    by_cases hvb : valid ⟨b1, b2, b3⟩ = true
    · have Hvb := Lib.hid hvb
      by_cases ha2 : a2 = 0
      · by_cases hb2 : b2 = 0
        · have hra : realB ⟨a1, a2, a3⟩ = true := (realB_eq hva).trans (by simpa using ha2)
          have hrb : realB ⟨b1, b2, b3⟩ = true := (realB_eq hvb).trans (by simpa using hb2)
          obtain ⟨a1l, a1r, -, -, a3l, a3r, -⟩ := valid_iff.1 (realB_valid hra)
          obtain ⟨b1l, b1r, -, -, b3l, b3r, -⟩ := valid_iff.1 (realB_valid hrb)
          simp only at a1l a1r a3l a3r b1l b1r b3l b3r
          have m13 := mul_bd a1l a1r (show -2000000000 ≤ b3 by omega) b3r
          have m31 := mul_bd b1l b1r (show -2000000000 ≤ a3 by omega) a3r
          simp only [Int.reduceMul, Int.reduceNeg] at m13 m31
          have HL := Lib.hid ((compare_yes hra hrb).symm.trans H.out)
          simp only at HL
          clear hra hrb hva hvb H
          subst ha2 hb2
          go_enter Try.func29, Try.ntmps29
          go_wp2_with fail
          refine (svalid_any _ _ _ true _ Hva.out).mono ?_
          rintro e w1 ⟨rfl, hbw1⟩
          have HBw1 : Below w.heap.size w w1 := into (by go_grown) hbw1 (by simp <;> omega)
          have hzw1 : w.heap.size + 2 ≤ w1.heap.size := by have := hbw1.size; simp at this; omega
          have cw10 := C3.below hbw1 (k := w.heap.size) (by simp <;> omega) (C3.alloc (C3.new (by simp)) (by simp <;> omega) _)
          have cw11 := C3.below hbw1 (k := w.heap.size + 1) (by simp <;> omega) (C3.new (by simp))
          clear hbw1
          have zw10 := cw10
          obtain ⟨yw10a, yw10b, yw10c, yw10d, yw10e, yw10f⟩ := zw10
          have zw11 := cw11
          obtain ⟨yw11a, yw11b, yw11c, yw11d, yw11e, yw11f⟩ := zw11
          go_wp2_with fail
          refine (svalid_any _ _ _ true _ Hvb.out).mono ?_
          rintro e w2 ⟨rfl, hbw2⟩
          have HBw2 : Below w.heap.size w w2 := into HBw1 hbw2 (by omega)
          have hzw2 : w.heap.size + 2 ≤ w2.heap.size := by have := hbw2.size; omega
          have cw20 := C3.below hbw2 (by omega) cw10
          have cw21 := C3.below hbw2 (by omega) cw11
          clear yw10a yw10b yw10c yw10d yw10e yw10f yw11a yw11b yw11c yw11d yw11e yw11f cw10 cw11 HBw1 hzw1
          clear hbw2
          have zw20 := cw20
          obtain ⟨yw20a, yw20b, yw20c, yw20d, yw20e, yw20f⟩ := zw20
          have zw21 := cw21
          obtain ⟨yw21a, yw21b, yw21c, yw21d, yw21e, yw21f⟩ := zw21
          go_wp2_with fail
          refine (l2Sign_any _ _).mono ?_
          rintro e w4 ⟨rfl, rfl⟩
          go_wp2_with fail
          go_ret2
          exact ⟨ret_cb HL.out, by go_grown⟩
        · have hrb : realB ⟨b1, b2, b3⟩ = false := (realB_eq hvb).trans (by simpa using hb2)
          have HL := Lib.hid ((compare_no (Or.inr hrb)).symm.trans H.out)
          have hb2' : (b2 != 0) = true := by simpa using hb2
          clear hrb hva hvb H
          subst ha2
          go_enter Try.func29, Try.ntmps29
          go_wp2_with fail
          refine (svalid_any _ _ _ true _ Hva.out).mono ?_
          rintro e w1 ⟨rfl, hbw1⟩
          have HBw1 : Below w.heap.size w w1 := into (by go_grown) hbw1 (by simp <;> omega)
          have hzw1 : w.heap.size + 2 ≤ w1.heap.size := by have := hbw1.size; simp at this; omega
          have cw10 := C3.below hbw1 (k := w.heap.size) (by simp <;> omega) (C3.alloc (C3.new (by simp)) (by simp <;> omega) _)
          have cw11 := C3.below hbw1 (k := w.heap.size + 1) (by simp <;> omega) (C3.new (by simp))
          clear hbw1
          have zw10 := cw10
          obtain ⟨yw10a, yw10b, yw10c, yw10d, yw10e, yw10f⟩ := zw10
          have zw11 := cw11
          obtain ⟨yw11a, yw11b, yw11c, yw11d, yw11e, yw11f⟩ := zw11
          go_wp2_with fail
          refine (svalid_any _ _ _ true _ Hvb.out).mono ?_
          rintro e w2 ⟨rfl, hbw2⟩
          have HBw2 : Below w.heap.size w w2 := into HBw1 hbw2 (by omega)
          have hzw2 : w.heap.size + 2 ≤ w2.heap.size := by have := hbw2.size; omega
          have cw20 := C3.below hbw2 (by omega) cw10
          have cw21 := C3.below hbw2 (by omega) cw11
          clear yw10a yw10b yw10c yw10d yw10e yw10f yw11a yw11b yw11c yw11d yw11e yw11f cw10 cw11 HBw1 hzw1
          clear hbw2
          have zw20 := cw20
          obtain ⟨yw20a, yw20b, yw20c, yw20d, yw20e, yw20f⟩ := zw20
          have zw21 := cw21
          obtain ⟨yw21a, yw21b, yw21c, yw21d, yw21e, yw21f⟩ := zw21
          go_wp2_with fail
          go_ret2
          exact ⟨ret_cb HL.out, by go_grown⟩
      · have hra : realB ⟨a1, a2, a3⟩ = false := (realB_eq hva).trans (by simpa using ha2)
        have HL := Lib.hid ((compare_no (Or.inl hra)).symm.trans H.out)
        have ha2' : (a2 != 0) = true := by simpa using ha2
        clear hra hva hvb H
        go_enter Try.func29, Try.ntmps29
        go_wp2_with fail
        refine (svalid_any _ _ _ true _ Hva.out).mono ?_
        rintro e w1 ⟨rfl, hbw1⟩
        have HBw1 : Below w.heap.size w w1 := into (by go_grown) hbw1 (by simp <;> omega)
        have hzw1 : w.heap.size + 2 ≤ w1.heap.size := by have := hbw1.size; simp at this; omega
        have cw10 := C3.below hbw1 (k := w.heap.size) (by simp <;> omega) (C3.alloc (C3.new (by simp)) (by simp <;> omega) _)
        have cw11 := C3.below hbw1 (k := w.heap.size + 1) (by simp <;> omega) (C3.new (by simp))
        clear hbw1
        have zw10 := cw10
        obtain ⟨yw10a, yw10b, yw10c, yw10d, yw10e, yw10f⟩ := zw10
        have zw11 := cw11
        obtain ⟨yw11a, yw11b, yw11c, yw11d, yw11e, yw11f⟩ := zw11
        go_wp2_with fail
        refine (svalid_any _ _ _ true _ Hvb.out).mono ?_
        rintro e w2 ⟨rfl, hbw2⟩
        have HBw2 : Below w.heap.size w w2 := into HBw1 hbw2 (by omega)
        have hzw2 : w.heap.size + 2 ≤ w2.heap.size := by have := hbw2.size; omega
        have cw20 := C3.below hbw2 (by omega) cw10
        have cw21 := C3.below hbw2 (by omega) cw11
        clear yw10a yw10b yw10c yw10d yw10e yw10f yw11a yw11b yw11c yw11d yw11e yw11f cw10 cw11 HBw1 hzw1
        clear hbw2
        have zw20 := cw20
        obtain ⟨yw20a, yw20b, yw20c, yw20d, yw20e, yw20f⟩ := zw20
        have zw21 := cw21
        obtain ⟨yw21a, yw21b, yw21c, yw21d, yw21e, yw21f⟩ := zw21
        go_wp2_with fail
        go_ret2
        exact ⟨ret_cb HL.out, by go_grown⟩
    · have Hvb := Lib.hid (show valid ⟨b1, b2, b3⟩ = false by simpa using hvb)
      have HL := Lib.hid ((compare_no (Or.inr (realB_no Hvb.out))).symm.trans H.out)
      clear hva hvb H
      go_enter Try.func29, Try.ntmps29
      go_wp2_with fail
      refine (svalid_any _ _ _ true _ Hva.out).mono ?_
      rintro e w1 ⟨rfl, hbw1⟩
      have HBw1 : Below w.heap.size w w1 := into (by go_grown) hbw1 (by simp <;> omega)
      have hzw1 : w.heap.size + 2 ≤ w1.heap.size := by have := hbw1.size; simp at this; omega
      have cw10 := C3.below hbw1 (k := w.heap.size) (by simp <;> omega) (C3.alloc (C3.new (by simp)) (by simp <;> omega) _)
      have cw11 := C3.below hbw1 (k := w.heap.size + 1) (by simp <;> omega) (C3.new (by simp))
      clear hbw1
      have zw10 := cw10
      obtain ⟨yw10a, yw10b, yw10c, yw10d, yw10e, yw10f⟩ := zw10
      have zw11 := cw11
      obtain ⟨yw11a, yw11b, yw11c, yw11d, yw11e, yw11f⟩ := zw11
      go_wp2_with fail
      refine (svalid_any _ _ _ false _ Hvb.out).mono ?_
      rintro e w2 ⟨rfl, hbw2⟩
      have HBw2 : Below w.heap.size w w2 := into HBw1 hbw2 (by omega)
      have hzw2 : w.heap.size + 2 ≤ w2.heap.size := by have := hbw2.size; omega
      have cw20 := C3.below hbw2 (by omega) cw10
      have cw21 := C3.below hbw2 (by omega) cw11
      clear yw10a yw10b yw10c yw10d yw10e yw10f yw11a yw11b yw11c yw11d yw11e yw11f cw10 cw11 HBw1 hzw1
      clear hbw2
      have zw20 := cw20
      obtain ⟨yw20a, yw20b, yw20c, yw20d, yw20e, yw20f⟩ := zw20
      have zw21 := cw21
      obtain ⟨yw21a, yw21b, yw21c, yw21d, yw21e, yw21f⟩ := zw21
      go_wp2_with fail
      go_ret2
      exact ⟨ret_cb HL.out, by go_grown⟩
  · have Hva := Lib.hid (show valid ⟨a1, a2, a3⟩ = false by simpa using hva)
    have HL := Lib.hid ((compare_no (Or.inl (realB_no Hva.out))).symm.trans H.out)
    clear hva H
    go_enter Try.func29, Try.ntmps29
    go_wp2_with fail
    refine (svalid_any _ _ _ false _ Hva.out).mono ?_
    rintro e w1 ⟨rfl, hbw1⟩
    have HBw1 : Below w.heap.size w w1 := into (by go_grown) hbw1 (by simp <;> omega)
    have hzw1 : w.heap.size + 2 ≤ w1.heap.size := by have := hbw1.size; simp at this; omega
    have cw10 := C3.below hbw1 (k := w.heap.size) (by simp <;> omega) (C3.alloc (C3.new (by simp)) (by simp <;> omega) _)
    have cw11 := C3.below hbw1 (k := w.heap.size + 1) (by simp <;> omega) (C3.new (by simp))
    clear hbw1
    have zw10 := cw10
    obtain ⟨yw10a, yw10b, yw10c, yw10d, yw10e, yw10f⟩ := zw10
    have zw11 := cw11
    obtain ⟨yw11a, yw11b, yw11c, yw11d, yw11e, yw11f⟩ := zw11
    go_wp2_with fail
    go_ret2
    exact ⟨ret_cb HL.out, by go_grown⟩

end Go.Proofs.Ytlnbapakpfnbdaa
