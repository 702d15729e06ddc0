/-
  WALKS: FracMake, the reference's FracPower, realOk, FracCompare, l2Sign. No condition.
-/
import Derived.Test.YtfoafahmjlagcaaWd
namespace Go.Proofs.Ytfoafahmjlagcaa
open Go.RowKit
open PL

theorem ret_cb {r s : Int × Bool} (h : r = s) : Ending.returned (.tuple #[.int .i64 r.1, .bool r.2]) = .returned (.tuple #[.int .i64 s.1, .bool s.2]) := by rw [h]

set_option maxHeartbeats 2000000 in
theorem make_any (re im den p q d : Int) (b : Bool) (w : World) (H : Hid (make re im den = (⟨p, q, d⟩, b))) :
    Calls Try.prog 10 #[.int .i64 re, .int .i64 im, .int .i64 den] w fun e w' =>
      e = .returned (.tuple #[.agg #[.int .i64 p, .int .i64 q, .int .i64 d], .bool b]) ∧ Below w.heap.size w w' := by
  by_cases hd : 1 ≤ den ∧ den ≤ 1000000000000000000
  · obtain ⟨d1, d2⟩ := hd
    by_cases hr : -1000000000000000000 ≤ re ∧ re ≤ 1000000000000000000
    · obtain ⟨r1, r2⟩ := hr
      by_cases hi : -1000000000000000000 ≤ im ∧ im ≤ 1000000000000000000
      · obtain ⟨i1, i2⟩ := hi
        have HL := Lib.hid ((make_low d1 d2 r1 r2 i1 i2).symm.trans H.out)
        clear H
        go_enter Try.func10, Try.ntmps10
        go_wp2_with (go_at_call 29; first | (refine (within_yes _ _ _ _ ?_ ?_).mono ?_; assumption; assumption; rintro e w' ⟨rfl, rfl⟩) | (refine (within_no _ _ _ _ Hn.out).mono ?_; rintro e w' ⟨rfl, rfl⟩))
        refine (lowest_any _ _ _ p q d b _ HL (by omega) (by omega) (by omega) (by omega) (by omega) (by omega)).mono ?_
        rintro e w1 ⟨rfl, hbw1⟩
        have HBw1 : Below w.heap.size w w1 := into (by go_grown) hbw1 (by simp <;> omega)
        have hzw1 : w.heap.size + 1 ≤ w1.heap.size := by have := hbw1.size; simp at this; omega
        have cw10 := C3.below hbw1 (k := w.heap.size) (by simp <;> omega) (C3.new (by simp))
        clear hbw1
        have zw10 := cw10
        obtain ⟨yw10a, yw10b, yw10c, yw10d, yw10e, yw10f⟩ := zw10
        go_wp2_with fail
        refine bodyPost_ret (by simp [results, Try.results10, go_sem, yw10a, yw10b, yw10c]; rfl) rfl ?_
        exact ⟨rfl, by go_grown⟩
      · have hn : im < -1000000000000000000 ∨ 1000000000000000000 < im := by omega
        have Hn := Lib.hid hn
        have HL := Lib.hid ((make_no (re := re) (den := den) (Or.inr (Or.inr hn))).symm.trans H.out)
        clear H hn hi
        go_enter Try.func10, Try.ntmps10
        go_wp2_with (go_at_call 29; first | (refine (within_yes _ _ _ _ ?_ ?_).mono ?_; assumption; assumption; rintro e w' ⟨rfl, rfl⟩) | (refine (within_no _ _ _ _ Hn.out).mono ?_; rintro e w' ⟨rfl, rfl⟩))
        go_returns
        exact ⟨ret_fb HL.out, by go_grown⟩
    · have hn : re < -1000000000000000000 ∨ 1000000000000000000 < re := by omega
      have Hn := Lib.hid hn
      have HL := Lib.hid ((make_no (im := im) (den := den) (Or.inr (Or.inl hn))).symm.trans H.out)
      clear H hn hr
      go_enter Try.func10, Try.ntmps10
      go_wp2_with (go_at_call 29; first | (refine (within_yes _ _ _ _ ?_ ?_).mono ?_; assumption; assumption; rintro e w' ⟨rfl, rfl⟩) | (refine (within_no _ _ _ _ Hn.out).mono ?_; rintro e w' ⟨rfl, rfl⟩))
      go_returns
      exact ⟨ret_fb HL.out, by go_grown⟩
  · have hn : den < 1 ∨ 1000000000000000000 < den := by omega
    have Hn := Lib.hid hn
    have HL := Lib.hid ((make_no (re := re) (im := im) (Or.inl hn)).symm.trans H.out)
    clear H hd
    rcases hn with hn | hn
    · have hn2 : den ≤ 1000000000000000000 := by omega
      go_enter Try.func10, Try.ntmps10
      go_wp2_with (go_at_call 29; first | (refine (within_yes _ _ _ _ ?_ ?_).mono ?_; assumption; assumption; rintro e w' ⟨rfl, rfl⟩) | (refine (within_no _ _ _ _ Hn.out).mono ?_; rintro e w' ⟨rfl, rfl⟩))
      go_returns
      exact ⟨ret_fb HL.out, by go_grown⟩
    · have hn2 : 1 ≤ den := by omega
      go_enter Try.func10, Try.ntmps10
      go_wp2_with (go_at_call 29; first | (refine (within_yes _ _ _ _ ?_ ?_).mono ?_; assumption; assumption; rintro e w' ⟨rfl, rfl⟩) | (refine (within_no _ _ _ _ Hn.out).mono ?_; rintro e w' ⟨rfl, rfl⟩))
      go_returns
      exact ⟨ret_fb HL.out, by go_grown⟩

set_option maxHeartbeats 2000000 in
theorem smake_any (re im den p q d : Int) (b : Bool) (w : World) (H : Hid (make re im den = (⟨p, q, d⟩, b))) :
    Calls Try.prog 11 #[.int .i64 re, .int .i64 im, .int .i64 den] w fun e w' =>
      e = .returned (.tuple #[.agg #[.int .i64 p, .int .i64 q, .int .i64 d], .bool b]) ∧ Below w.heap.size w w' := by
  by_cases hd : 1 ≤ den ∧ den ≤ 1000000000000000000
  · obtain ⟨d1, d2⟩ := hd
    by_cases hr : -1000000000000000000 ≤ re ∧ re ≤ 1000000000000000000
    · obtain ⟨r1, r2⟩ := hr
      by_cases hi : -1000000000000000000 ≤ im ∧ im ≤ 1000000000000000000
      · obtain ⟨i1, i2⟩ := hi
        have HL := Lib.hid ((make_low d1 d2 r1 r2 i1 i2).symm.trans H.out)
        clear H
        go_enter Try.func11, Try.ntmps11
        go_wp2_with (go_at_call 31; first | (refine (l6In_yes _ _ _ _ ?_ ?_).mono ?_; assumption; assumption; rintro e w' ⟨rfl, rfl⟩) | (refine (l6In_no _ _ _ _ Hn.out).mono ?_; rintro e w' ⟨rfl, rfl⟩))
        refine (l2Low_any _ _ _ p q d b _ HL (by omega) (by omega) (by omega) (by omega) (by omega) (by omega)).mono ?_
        rintro e w1 ⟨rfl, hbw1⟩
        have HBw1 : Below w.heap.size w w1 := into (by go_grown) hbw1 (by simp <;> omega)
        have hzw1 : w.heap.size + 1 ≤ w1.heap.size := by have := hbw1.size; simp at this; omega
        have cw10 := C3.below hbw1 (k := w.heap.size) (by simp <;> omega) (C3.new (by simp))
        clear hbw1
        have zw10 := cw10
        obtain ⟨yw10a, yw10b, yw10c, yw10d, yw10e, yw10f⟩ := zw10
        go_wp2_with fail
        refine bodyPost_ret (by simp [results, Try.results11, go_sem, yw10a, yw10b, yw10c]; rfl) rfl ?_
        exact ⟨rfl, by go_grown⟩
      · have hn : im < -1000000000000000000 ∨ 1000000000000000000 < im := by omega
        have Hn := Lib.hid hn
        have HL := Lib.hid ((make_no (re := re) (den := den) (Or.inr (Or.inr hn))).symm.trans H.out)
        clear H hn hi
        go_enter Try.func11, Try.ntmps11
        go_wp2_with (go_at_call 31; first | (refine (l6In_yes _ _ _ _ ?_ ?_).mono ?_; assumption; assumption; rintro e w' ⟨rfl, rfl⟩) | (refine (l6In_no _ _ _ _ Hn.out).mono ?_; rintro e w' ⟨rfl, rfl⟩))
        go_returns
        exact ⟨ret_fb HL.out, by go_grown⟩
    · have hn : re < -1000000000000000000 ∨ 1000000000000000000 < re := by omega
      have Hn := Lib.hid hn
      have HL := Lib.hid ((make_no (im := im) (den := den) (Or.inr (Or.inl hn))).symm.trans H.out)
      clear H hn hr
      go_enter Try.func11, Try.ntmps11
      go_wp2_with (go_at_call 31; first | (refine (l6In_yes _ _ _ _ ?_ ?_).mono ?_; assumption; assumption; rintro e w' ⟨rfl, rfl⟩) | (refine (l6In_no _ _ _ _ Hn.out).mono ?_; rintro e w' ⟨rfl, rfl⟩))
      go_returns
      exact ⟨ret_fb HL.out, by go_grown⟩
  · have hn : den < 1 ∨ 1000000000000000000 < den := by omega
    have Hn := Lib.hid hn
    have HL := Lib.hid ((make_no (re := re) (im := im) (Or.inl hn)).symm.trans H.out)
    clear H hd
    rcases hn with hn | hn
    · have hn2 : den ≤ 1000000000000000000 := by omega
      go_enter Try.func11, Try.ntmps11
      go_wp2_with (go_at_call 31; first | (refine (l6In_yes _ _ _ _ ?_ ?_).mono ?_; assumption; assumption; rintro e w' ⟨rfl, rfl⟩) | (refine (l6In_no _ _ _ _ Hn.out).mono ?_; rintro e w' ⟨rfl, rfl⟩))
      go_returns
      exact ⟨ret_fb HL.out, by go_grown⟩
    · have hn2 : 1 ≤ den := by omega
      go_enter Try.func11, Try.ntmps11
      go_wp2_with (go_at_call 31; first | (refine (l6In_yes _ _ _ _ ?_ ?_).mono ?_; assumption; assumption; rintro e w' ⟨rfl, rfl⟩) | (refine (l6In_no _ _ _ _ Hn.out).mono ?_; rintro e w' ⟨rfl, rfl⟩))
      go_returns
      exact ⟨ret_fb HL.out, by go_grown⟩

set_option maxHeartbeats 1000000 in
theorem spower_any (a1 a2 a3 p q d : Int) (b : Bool) (w : World) (H : Hid (power ⟨a1, a2, a3⟩ = (⟨p, q, d⟩, b))) :
    Calls Try.prog 26 #[.agg #[.int .i64 a1, .int .i64 a2, .int .i64 a3]] w fun e w' =>
      e = .returned (.tuple #[.agg #[.int .i64 p, .int .i64 q, .int .i64 d], .bool b]) ∧ Below w.heap.size w w' := by
  by_cases hva : valid ⟨a1, a2, a3⟩ = true
  · have HM := Lib.hid (mirror_yes hva)
    have HL := Lib.hid ((power_times hva).symm.trans H.out)
    simp only at HM HL
    clear hva H
    go_enter Try.func26, Try.ntmps26
    go_wp2_with fail
    refine (smirror_any _ _ _ _ _ _ true _ HM).mono ?_
    rintro e w1 ⟨rfl, hbw1⟩
    have HBw1 : Below w.heap.size w w1 := into (by go_grown) hbw1 (by simp <;> omega)
    have hzw1 : w.heap.size + 2 ≤ w1.heap.size := by have := hbw1.size; simp at this; omega
    have cw10 := C3.below hbw1 (k := w.heap.size) (by simp <;> omega) (C3.alloc (C3.new (by simp)) (by simp <;> omega) _)
    have cw11 := C3.below hbw1 (k := w.heap.size + 1) (by simp <;> omega) (C3.new (by simp))
    clear hbw1
    have zw10 := cw10
    obtain ⟨yw10a, yw10b, yw10c, yw10d, yw10e, yw10f⟩ := zw10
    have zw11 := cw11
    obtain ⟨yw11a, yw11b, yw11c, yw11d, yw11e, yw11f⟩ := zw11
    have hq0 : w.heap.size < w1.heap.size := by omega
    have hq1 : w.heap.size + 1 < w1.heap.size := by omega
    go_wp2_with fail
    refine (stimes_any _ _ _ _ _ _ p q d b _ HL).mono ?_
    rintro e w3 ⟨rfl, hbw3⟩
    have HBw3 : Below w.heap.size w w3 := into (by go_grown) hbw3 (by simp; omega)
    obtain ⟨t0, t1, t2, t3, t4, t5⟩ := C3.below hbw3 (k := w.heap.size + 1) (by simp; omega) (C3.alloc cw11 (by omega) _)
    go_wp2_with fail
    refine bodyPost_ret (by simp [results, Try.results26, go_sem, t0, t1, t2]; rfl) rfl ?_
    exact ⟨rfl, by go_grown⟩
  · have Hva := Lib.hid (show valid ⟨a1, a2, a3⟩ = false by simpa using hva)
    have HM := Lib.hid (mirror_no Hva.out)
    have HL := Lib.hid ((power_no Hva.out).symm.trans H.out)
    clear hva H
    go_enter Try.func26, Try.ntmps26
    go_wp2_with fail
    refine (smirror_any _ _ _ 0 0 0 false _ HM).mono ?_
    rintro e w1 ⟨rfl, hbw1⟩
    have HBw1 : Below w.heap.size w w1 := into (by go_grown) hbw1 (by simp <;> omega)
    have hzw1 : w.heap.size + 2 ≤ w1.heap.size := by have := hbw1.size; simp at this; omega
    have cw10 := C3.below hbw1 (k := w.heap.size) (by simp <;> omega) (C3.alloc (C3.new (by simp)) (by simp <;> omega) _)
    have cw11 := C3.below hbw1 (k := w.heap.size + 1) (by simp <;> omega) (C3.new (by simp))
    clear hbw1
    have zw10 := cw10
    obtain ⟨yw10a, yw10b, yw10c, yw10d, yw10e, yw10f⟩ := zw10
    have zw11 := cw11
    obtain ⟨yw11a, yw11b, yw11c, yw11d, yw11e, yw11f⟩ := zw11
    have hq0 : w.heap.size < w1.heap.size := by omega
    have hq1 : w.heap.size + 1 < w1.heap.size := by omega
    go_wp2_with fail
    refine bodyPost_ret (by simp [results, Try.results26, go_sem, yw11a, yw11b, yw11c, hq1]; rfl) rfl ?_
    exact ⟨ret_fb HL.out, by go_grown⟩

end Go.Proofs.Ytfoafahmjlagcaa
