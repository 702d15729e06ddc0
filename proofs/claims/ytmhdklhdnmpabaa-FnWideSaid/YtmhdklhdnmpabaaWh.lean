/-
  WALKS: wide and single numbers of a fraction; the laws' own sameFloat, sameComplex at one and the same number. No condition but that it is a number.
-/
import Derived.Test.YtmhdklhdnmpabaaWd
import Derived.Test.YtmhdklhdnmpabaaFl
namespace Go.Proofs.Ytmhdklhdnmpabaa
open Go.RowKit
open PL

def wq (n d : Int) : Nat := (floatBits .quo .f64 (floatOfInt .f64 n) (floatOfInt .f64 d)).getD 0
def wide (a : Fr) : (Nat × Nat) × Bool := if valid a then ((wq a.re a.den, wq a.im a.den), true) else ((0, 0), false)
def n32 (x : Nat) : Nat := (floatToFloatBits .f64 x .f32).getD 0
def w64 (x : Nat) : Nat := (floatToFloatBits .f32 x .f64).getD 0
def single (a : Fr) : (Nat × Nat) × Bool := ((n32 (wide a).1.1, n32 (wide a).1.2), (wide a).2)

theorem wide_yes {a : Fr} (h : valid a = true) : wide a = ((wq a.re a.den, wq a.im a.den), true) := by unfold wide; rw [h]; rfl
theorem wide_no {a : Fr} (h : valid a = false) : wide a = ((0, 0), false) := by unfold wide; rw [h]; rfl
theorem wq_some {n d : Int} (h1 : -2000000000 ≤ n) (h2 : n ≤ 2000000000) (h3 : 1 ≤ d) (h4 : d ≤ 2000000000) :
    floatBits .quo .f64 (floatOfInt .f64 n) (floatOfInt .f64 d) = some (wq n d) ∧ FL.Num Ieee.double (-15) (wq n d) := by
  obtain ⟨r, e, hr⟩ := FL.quo_int n d (by omega) h3 (by omega)
  have : wq n d = r := by unfold wq; rw [e]; rfl
  rw [this]; exact ⟨e, hr⟩
theorem n32_some {x : Nat} (h : FL.Num Ieee.double 20 x) : floatToFloatBits .f64 x .f32 = some (n32 x) ∧ FL.Num Ieee.single 60 (n32 x) := by
  obtain ⟨r, e, hr⟩ := FL.narrow_num h
  have : n32 x = r := by unfold n32; rw [e]; rfl
  rw [this]; exact ⟨e, hr⟩
theorem w64_some {x : Nat} (h : FL.Num Ieee.single 60 x) : floatToFloatBits .f32 x .f64 = some (w64 x) ∧ FL.Num Ieee.double 60 (w64 x) := by
  obtain ⟨r, e, hr⟩ := FL.widen_num h
  have : w64 x = r := by unfold w64; rw [e]; rfl
  rw [this]; exact ⟨e, hr⟩
/-- The parts of a wide number of a fraction are numbers. -/
theorem wide_num {a : Fr} {x y : Nat} {b : Bool} (h : wide a = ((x, y), b)) : FL.Num Ieee.double (-15) x ∧ FL.Num Ieee.double (-15) y := by
  by_cases v : valid a = true
  · rw [wide_yes v] at h
    simp only [Prod.mk.injEq] at h
    obtain ⟨⟨rfl, rfl⟩, _⟩ := h
    obtain ⟨h1, h2, h3, h4, h5, h6, _⟩ := valid_iff.1 v
    exact ⟨(wq_some h1 h2 h5 h6).2, (wq_some h3 h4 h5 h6).2⟩
  · rw [wide_no (by simpa using v)] at h
    simp only [Prod.mk.injEq] at h
    obtain ⟨⟨rfl, rfl⟩, _⟩ := h
    exact ⟨FL.num_zero.mono (by decide), FL.num_zero.mono (by decide)⟩
theorem single_num {a : Fr} {x y : Nat} {b : Bool} (h : single a = ((x, y), b)) : FL.Num Ieee.single 60 x ∧ FL.Num Ieee.single 60 y := by
  have hw := wide_num (a := a) (x := (wide a).1.1) (y := (wide a).1.2) (b := (wide a).2) rfl
  unfold single at h
  simp only [Prod.mk.injEq] at h
  obtain ⟨⟨rfl, rfl⟩, _⟩ := h
  exact ⟨(n32_some (hw.1.mono (by decide))).2, (n32_some (hw.2.mono (by decide))).2⟩

theorem ret_w {k : FloatKind} {r s : (Nat × Nat) × Bool} (h : r = s) : Ending.returned (.tuple #[.complex k r.1.1 r.1.2, .bool r.2]) = .returned (.tuple #[.complex k s.1.1 s.1.2, .bool s.2]) := by rw [h]

set_option maxHeartbeats 1000000 in
theorem wide_any (a1 a2 a3 : Int) (x y : Nat) (b : Bool) (w : World) (H : Hid (wide ⟨a1, a2, a3⟩ = ((x, y), b))) :
    Calls Try.prog 12 #[.agg #[.int .i64 a1, .int .i64 a2, .int .i64 a3]] w fun e w' => e = .returned (.tuple #[.complex .f64 x y, .bool b]) ∧ Below w.heap.size w w' := by
  by_cases hva : valid ⟨a1, a2, a3⟩ = true
  · have Hva := Lib.hid hva
    have HL := Lib.hid ((wide_yes hva).symm.trans H.out)
    simp only at HL
    obtain ⟨a1l, a1r, a2l, a2r, a3l, a3r, -⟩ := valid_iff.1 hva
    simp only at a1l a1r a2l a2r a3l a3r
    have hq1 := fun w => run_float_arith (P := Try.prog) w .quo 37 .f64 _ _ _ (wq_some a1l a1r a3l a3r).1
    have hq2 := fun w => run_float_arith (P := Try.prog) w .quo 37 .f64 _ _ _ (wq_some a2l a2r a3l a3r).1
    clear hva H
    go_enter Try.func12, Try.ntmps12
    go_wp2_with fail
    refine (valid_any _ _ _ true _ Hva.out).mono ?_
    rintro e w1 ⟨rfl, hbw1⟩
    have HBw1 : Below w.heap.size w w1 := into (by go_grown) hbw1 (by simp <;> omega)
    have hzw1 : w.heap.size + 1 ≤ w1.heap.size := by have := hbw1.size; simp at this; omega
    have cw10 := C3.below hbw1 (k := w.heap.size) (by simp <;> omega) (C3.new (by simp))
    clear hbw1
    have zw10 := cw10
    obtain ⟨yw10a, yw10b, yw10c, yw10d, yw10e, yw10f⟩ := zw10
    go_wp2_with fail
    go_ret2
    exact ⟨ret_w HL.out, by go_grown⟩
  · have Hva := Lib.hid (show valid ⟨a1, a2, a3⟩ = false by simpa using hva)
    have HL := Lib.hid ((wide_no Hva.out).symm.trans H.out)
    clear hva H
    go_enter Try.func12, Try.ntmps12
    go_wp2_with fail
    refine (valid_any _ _ _ false _ Hva.out).mono ?_
    rintro e w1 ⟨rfl, hbw1⟩
    have HBw1 : Below w.heap.size w w1 := into (by go_grown) hbw1 (by simp <;> omega)
    have hzw1 : w.heap.size + 1 ≤ w1.heap.size := by have := hbw1.size; simp at this; omega
    have cw10 := C3.below hbw1 (k := w.heap.size) (by simp <;> omega) (C3.new (by simp))
    clear hbw1
    have zw10 := cw10
    obtain ⟨yw10a, yw10b, yw10c, yw10d, yw10e, yw10f⟩ := zw10
    go_wp2_with fail
    go_ret2
    exact ⟨ret_w HL.out, by go_grown⟩

set_option maxHeartbeats 1000000 in
theorem swide_any (a1 a2 a3 : Int) (x y : Nat) (b : Bool) (w : World) (H : Hid (wide ⟨a1, a2, a3⟩ = ((x, y), b))) :
    Calls Try.prog 13 #[.agg #[.int .i64 a1, .int .i64 a2, .int .i64 a3]] w fun e w' => e = .returned (.tuple #[.complex .f64 x y, .bool b]) ∧ Below w.heap.size w w' := by
  by_cases hva : valid ⟨a1, a2, a3⟩ = true
  · have Hva := Lib.hid hva
    have HL := Lib.hid ((wide_yes hva).symm.trans H.out)
    simp only at HL
    obtain ⟨a1l, a1r, a2l, a2r, a3l, a3r, -⟩ := valid_iff.1 hva
    simp only at a1l a1r a2l a2r a3l a3r
    have hq1 := fun w => run_float_arith (P := Try.prog) w .quo 37 .f64 _ _ _ (wq_some a1l a1r a3l a3r).1
    have hq2 := fun w => run_float_arith (P := Try.prog) w .quo 37 .f64 _ _ _ (wq_some a2l a2r a3l a3r).1
    clear hva H
    go_enter Try.func13, Try.ntmps13
    go_wp2_with fail
    refine (svalid_any _ _ _ true _ Hva.out).mono ?_
    rintro e w1 ⟨rfl, hbw1⟩
    have HBw1 : Below w.heap.size w w1 := into (by go_grown) hbw1 (by simp <;> omega)
    have hzw1 : w.heap.size + 1 ≤ w1.heap.size := by have := hbw1.size; simp at this; omega
    have cw10 := C3.below hbw1 (k := w.heap.size) (by simp <;> omega) (C3.new (by simp))
    clear hbw1
    have zw10 := cw10
    obtain ⟨yw10a, yw10b, yw10c, yw10d, yw10e, yw10f⟩ := zw10
    go_wp2_with fail
    go_ret2
    exact ⟨ret_w HL.out, by go_grown⟩
  · have Hva := Lib.hid (show valid ⟨a1, a2, a3⟩ = false by simpa using hva)
    have HL := Lib.hid ((wide_no Hva.out).symm.trans H.out)
    clear hva H
    go_enter Try.func13, Try.ntmps13
    go_wp2_with fail
    refine (svalid_any _ _ _ false _ Hva.out).mono ?_
    rintro e w1 ⟨rfl, hbw1⟩
    have HBw1 : Below w.heap.size w w1 := into (by go_grown) hbw1 (by simp <;> omega)
    have hzw1 : w.heap.size + 1 ≤ w1.heap.size := by have := hbw1.size; simp at this; omega
    have cw10 := C3.below hbw1 (k := w.heap.size) (by simp <;> omega) (C3.new (by simp))
    clear hbw1
    have zw10 := cw10
    obtain ⟨yw10a, yw10b, yw10c, yw10d, yw10e, yw10f⟩ := zw10
    go_wp2_with fail
    go_ret2
    exact ⟨ret_w HL.out, by go_grown⟩

set_option maxHeartbeats 1000000 in
theorem single_any (a1 a2 a3 : Int) (x y : Nat) (b : Bool) (w : World) (H : Hid (single ⟨a1, a2, a3⟩ = ((x, y), b))) :
    Calls Try.prog 16 #[.agg #[.int .i64 a1, .int .i64 a2, .int .i64 a3]] w fun e w' => e = .returned (.tuple #[.complex .f32 x y, .bool b]) ∧ Below w.heap.size w w' := by
  obtain ⟨⟨u, v⟩, ok, hw⟩ : ∃ r o, wide ⟨a1, a2, a3⟩ = (r, o) := ⟨_, _, rfl⟩
  have hn := wide_num hw
  have HL : Hid (((n32 u, n32 v), ok) = ((x, y), b)) := by have h := H.out; unfold single at h; rw [hw] at h; exact h
  have hcv := fun w => run_convert_complex (P := Try.prog) w 33 38 .f64 .f32 u v (n32 u) (n32 v) (by rw [Try.underlying33]; rfl) Try.underlying38 (by unfold cConvBits; rw [(n32_some (hn.1.mono (by decide))).1, (n32_some (hn.2.mono (by decide))).1]; rfl)
  have Hz : Hid (ok = false → u = 0 ∧ v = 0) := by
    intro ho
    subst ho
    unfold wide at hw
    split at hw
    · simp at hw
    · simp only [Prod.mk.injEq] at hw; exact ⟨hw.1.1.symm, hw.1.2.symm⟩
  have HW := Lib.hid hw
  clear hw hn H
  cases ok
  · have hz := Hz.out rfl
    obtain ⟨rfl, rfl⟩ := hz
    clear Hz
    go_enter Try.func16, Try.ntmps16
    go_wp2_with fail
    refine (wide_any _ _ _ 0 0 false _ HW).mono ?_
    rintro e w1 ⟨rfl, hbw1⟩
    have HBw1 : Below w.heap.size w w1 := into (by go_grown) hbw1 (by simp <;> omega)
    go_wp2_with fail
    go_ret2
    exact ⟨ret_w HL.out, HBw1⟩
  · clear Hz
    go_enter Try.func16, Try.ntmps16
    go_wp2_with fail
    refine (wide_any _ _ _ u v true _ HW).mono ?_
    rintro e w1 ⟨rfl, hbw1⟩
    have HBw1 : Below w.heap.size w w1 := into (by go_grown) hbw1 (by simp <;> omega)
    go_wp2_with fail
    go_ret2
    exact ⟨ret_w HL.out, HBw1⟩

set_option maxHeartbeats 1000000 in
theorem ssingle_any (a1 a2 a3 : Int) (x y : Nat) (b : Bool) (w : World) (H : Hid (single ⟨a1, a2, a3⟩ = ((x, y), b))) :
    Calls Try.prog 17 #[.agg #[.int .i64 a1, .int .i64 a2, .int .i64 a3]] w fun e w' => e = .returned (.tuple #[.complex .f32 x y, .bool b]) ∧ Below w.heap.size w w' := by
  obtain ⟨⟨u, v⟩, ok, hw⟩ : ∃ r o, wide ⟨a1, a2, a3⟩ = (r, o) := ⟨_, _, rfl⟩
  have hn := wide_num hw
  have HL : Hid (((n32 u, n32 v), ok) = ((x, y), b)) := by have h := H.out; unfold single at h; rw [hw] at h; exact h
  have hcv := fun w => run_convert_complex (P := Try.prog) w 33 38 .f64 .f32 u v (n32 u) (n32 v) (by rw [Try.underlying33]; rfl) Try.underlying38 (by unfold cConvBits; rw [(n32_some (hn.1.mono (by decide))).1, (n32_some (hn.2.mono (by decide))).1]; rfl)
  have Hz : Hid (ok = false → u = 0 ∧ v = 0) := by
    intro ho
    subst ho
    unfold wide at hw
    split at hw
    · simp at hw
    · simp only [Prod.mk.injEq] at hw; exact ⟨hw.1.1.symm, hw.1.2.symm⟩
  have HW := Lib.hid hw
  clear hw hn H
  cases ok
  · have hz := Hz.out rfl
    obtain ⟨rfl, rfl⟩ := hz
    clear Hz
    go_enter Try.func17, Try.ntmps17
    go_wp2_with fail
    refine (swide_any _ _ _ 0 0 false _ HW).mono ?_
    rintro e w1 ⟨rfl, hbw1⟩
    have HBw1 : Below w.heap.size w w1 := into (by go_grown) hbw1 (by simp <;> omega)
    go_wp2_with fail
    go_ret2
    exact ⟨ret_w (r := ((0, 0), false)) HL.out, HBw1⟩
  · clear Hz
    go_enter Try.func17, Try.ntmps17
    go_wp2_with fail
    refine (swide_any _ _ _ u v true _ HW).mono ?_
    rintro e w1 ⟨rfl, hbw1⟩
    have HBw1 : Below w.heap.size w w1 := into (by go_grown) hbw1 (by simp <;> omega)
    go_wp2_with fail
    go_ret2
    exact ⟨ret_w HL.out, HBw1⟩

end Go.Proofs.Ytmhdklhdnmpabaa
