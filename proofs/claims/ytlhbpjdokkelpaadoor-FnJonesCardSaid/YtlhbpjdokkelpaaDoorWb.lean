/-
  WALKS: is a fraction valid? (the program's FracValid and the reference's). No condition.
-/
import Derived.Test.YtlhbpjdokkelpaaDoorWa
namespace Go.Proofs.YtlhbpjdokkelpaaDoor
open Go.RowKit
open PL

set_option maxHeartbeats 1000000 in
theorem valid_any (re im den : Int) (b : Bool) (w : World) (hb0 : valid ⟨re, im, den⟩ = b) :
    Calls Tryd.prog 18 #[.agg #[.int .i64 re, .int .i64 im, .int .i64 den]] w fun e w' => e = .returned (.bool b) ∧ Below w.heap.size w w' := by
  have Hb := Lib.hid hb0; clear hb0
  by_cases hre : -2000000000 ≤ re ∧ re ≤ 2000000000
  · obtain ⟨r1, r2⟩ := hre
    by_cases him : -2000000000 ≤ im ∧ im ≤ 2000000000
    · obtain ⟨i1, i2⟩ := him
      by_cases hden : 1 ≤ den ∧ den ≤ 2000000000
      · obtain ⟨d1, d2⟩ := hden
        have hg := ngcd_bd re.natAbs im.natAbs
        have hg2 := igcd_bd den re
        go_enter Tryd.func18, Tryd.ntmps18
        go_wp2
        go_quiet (first | (go_at_call 29; first | (refine Calls.quiet_of_same (within_yes _ _ _ _ ?_ ?_) <;> omega) | exact Calls.quiet_of_same (within_no _ _ _ _ H.out)) | (go_at_call 31; (refine Calls.quiet_of_same (size_any _ _ ?_ ?_) <;> omega)) | (go_at_call 30; (refine Calls.quiet_of (divisor_any _ _ _ ?_ ?_ ?_ ?_) <;> omega)))
        go_wp2
        go_ret
        exact ⟨ret_b (by rw [← Hb.out]; exact valid_impl r1 r2 i1 i2 d1 d2), below_drewN ((Below.refl _ _).alloc (Nat.le_refl _) _) _⟩
      · have hden2 : den < 1 ∨ 2000000000 < den := by omega
        have H := Lib.hid hden2; clear hden hden2
        go_enter Tryd.func18, Tryd.ntmps18
        go_wp2
        go_quiet (first | (go_at_call 29; first | (refine Calls.quiet_of_same (within_yes _ _ _ _ ?_ ?_) <;> omega) | exact Calls.quiet_of_same (within_no _ _ _ _ H.out)) | (go_at_call 31; (refine Calls.quiet_of_same (size_any _ _ ?_ ?_) <;> omega)) | (go_at_call 30; (refine Calls.quiet_of (divisor_any _ _ _ ?_ ?_ ?_ ?_) <;> omega)))
        go_wp2
        go_ret
        exact ⟨ret_b (by rw [← Hb.out]; exact (valid_den H.out).symm), below_drewN ((Below.refl _ _).alloc (Nat.le_refl _) _) _⟩
    · have him2 : im < -2000000000 ∨ 2000000000 < im := by omega
      have H := Lib.hid him2; clear him him2
      go_enter Tryd.func18, Tryd.ntmps18
      go_wp2
      go_quiet (first | (go_at_call 29; first | (refine Calls.quiet_of_same (within_yes _ _ _ _ ?_ ?_) <;> omega) | exact Calls.quiet_of_same (within_no _ _ _ _ H.out)) | (go_at_call 31; (refine Calls.quiet_of_same (size_any _ _ ?_ ?_) <;> omega)) | (go_at_call 30; (refine Calls.quiet_of (divisor_any _ _ _ ?_ ?_ ?_ ?_) <;> omega)))
      go_wp2
      go_ret
      exact ⟨ret_b (by rw [← Hb.out]; exact (valid_im H.out).symm), below_drewN ((Below.refl _ _).alloc (Nat.le_refl _) _) _⟩
  · have hre2 : re < -2000000000 ∨ 2000000000 < re := by omega
    have H := Lib.hid hre2; clear hre hre2
    go_enter Tryd.func18, Tryd.ntmps18
    go_wp2
    go_quiet (first | (go_at_call 29; first | (refine Calls.quiet_of_same (within_yes _ _ _ _ ?_ ?_) <;> omega) | exact Calls.quiet_of_same (within_no _ _ _ _ H.out)) | (go_at_call 31; (refine Calls.quiet_of_same (size_any _ _ ?_ ?_) <;> omega)) | (go_at_call 30; (refine Calls.quiet_of (divisor_any _ _ _ ?_ ?_ ?_ ?_) <;> omega)))
    go_wp2
    go_ret
    exact ⟨ret_b (by rw [← Hb.out]; exact (valid_re H.out).symm), below_drewN ((Below.refl _ _).alloc (Nat.le_refl _) _) _⟩

set_option maxHeartbeats 1000000 in
theorem svalid_any (re im den : Int) (b : Bool) (w : World) (hb0 : valid ⟨re, im, den⟩ = b) :
    Calls Tryd.prog 20 #[.agg #[.int .i64 re, .int .i64 im, .int .i64 den]] w fun e w' => e = .returned (.bool b) ∧ Below w.heap.size w w' := by
  have Hb := Lib.hid hb0; clear hb0
  by_cases hre : -2000000000 ≤ re ∧ re ≤ 2000000000
  · obtain ⟨r1, r2⟩ := hre
    by_cases him : -2000000000 ≤ im ∧ im ≤ 2000000000
    · obtain ⟨i1, i2⟩ := him
      by_cases hden : 1 ≤ den ∧ den ≤ 2000000000
      · obtain ⟨d1, d2⟩ := hden
        have hg := ngcd_bd re.natAbs im.natAbs
        have hg2 := igcd_bd den re
        go_enter Tryd.func20, Tryd.ntmps20
        go_wp2
        go_quiet (first | (go_at_call 32; first | (refine Calls.quiet_of_same (l2In_yes _ _ ?_ ?_) <;> omega) | exact Calls.quiet_of_same (l2In_no _ _ H.out)) | (go_at_call 33; first | (refine Calls.quiet_of_same (l6In_yes _ _ _ _ ?_ ?_) <;> omega) | exact Calls.quiet_of_same (l6In_no _ _ _ _ H.out)) | (go_at_call 34; (refine Calls.quiet_of_same (l2Gcd_any _ _ _ ?_ ?_ ?_ ?_) <;> omega)))
        go_wp2
        go_ret
        exact ⟨ret_b (by rw [← Hb.out]; exact valid_spec r1 r2 i1 i2 d1 d2), below_drewN ((Below.refl _ _).alloc (Nat.le_refl _) _) _⟩
      · have hden2 : den < 1 ∨ 2000000000 < den := by omega
        have H := Lib.hid hden2; clear hden hden2
        go_enter Tryd.func20, Tryd.ntmps20
        go_wp2
        go_quiet (first | (go_at_call 32; first | (refine Calls.quiet_of_same (l2In_yes _ _ ?_ ?_) <;> omega) | exact Calls.quiet_of_same (l2In_no _ _ H.out)) | (go_at_call 33; first | (refine Calls.quiet_of_same (l6In_yes _ _ _ _ ?_ ?_) <;> omega) | exact Calls.quiet_of_same (l6In_no _ _ _ _ H.out)) | (go_at_call 34; (refine Calls.quiet_of_same (l2Gcd_any _ _ _ ?_ ?_ ?_ ?_) <;> omega)))
        go_wp2
        go_ret
        exact ⟨ret_b (by rw [← Hb.out]; exact (valid_den H.out).symm), below_drewN ((Below.refl _ _).alloc (Nat.le_refl _) _) _⟩
    · have him2 : im < -2000000000 ∨ 2000000000 < im := by omega
      have H := Lib.hid him2; clear him him2
      go_enter Tryd.func20, Tryd.ntmps20
      go_wp2
      go_quiet (first | (go_at_call 32; first | (refine Calls.quiet_of_same (l2In_yes _ _ ?_ ?_) <;> omega) | exact Calls.quiet_of_same (l2In_no _ _ H.out)) | (go_at_call 33; first | (refine Calls.quiet_of_same (l6In_yes _ _ _ _ ?_ ?_) <;> omega) | exact Calls.quiet_of_same (l6In_no _ _ _ _ H.out)) | (go_at_call 34; (refine Calls.quiet_of_same (l2Gcd_any _ _ _ ?_ ?_ ?_ ?_) <;> omega)))
      go_wp2
      go_ret
      exact ⟨ret_b (by rw [← Hb.out]; exact (valid_im H.out).symm), below_drewN ((Below.refl _ _).alloc (Nat.le_refl _) _) _⟩
  · have hre2 : re < -2000000000 ∨ 2000000000 < re := by omega
    have H := Lib.hid hre2; clear hre hre2
    go_enter Tryd.func20, Tryd.ntmps20
    go_wp2
    go_quiet (first | (go_at_call 32; first | (refine Calls.quiet_of_same (l2In_yes _ _ ?_ ?_) <;> omega) | exact Calls.quiet_of_same (l2In_no _ _ H.out)) | (go_at_call 33; first | (refine Calls.quiet_of_same (l6In_yes _ _ _ _ ?_ ?_) <;> omega) | exact Calls.quiet_of_same (l6In_no _ _ _ _ H.out)) | (go_at_call 34; (refine Calls.quiet_of_same (l2Gcd_any _ _ _ ?_ ?_ ?_ ?_) <;> omega)))
    go_wp2
    go_ret
    exact ⟨ret_b (by rw [← Hb.out]; exact (valid_re H.out).symm), below_drewN ((Below.refl _ _).alloc (Nat.le_refl _) _) _⟩

end Go.Proofs.YtlhbpjdokkelpaaDoor
