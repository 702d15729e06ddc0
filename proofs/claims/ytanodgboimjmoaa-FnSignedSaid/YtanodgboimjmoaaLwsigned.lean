/-
  THE WALK of FnSigned: for all bytes it returns true and turns nothing old.
-/
import Derived.Test.YtanodgboimjmoaaWw
namespace Go.Proofs.Ytanodgboimjmoaa
open Go.RowKit
open PL

set_option maxHeartbeats 8000000 in
theorem FnSigned_walk (ad : Option Addr) (len cap : Nat) (w0 : World) (hB : BytesIn w0 ad len cap) :
    Calls Try.prog 4 #[.slice ad len cap] w0 fun e w' =>
      e = .returned (.bool true) ∧ Below w0.heap.size w0 w' := by
  go_enter Try.func4, Try.ntmps4
  by_cases hl : (len : Int) > 1048576
  · go_wp2_with fail
    go_ret
    exact ⟨rfl, Below.refl _ _⟩
  · go_wp2_with fail
    refine (DrawSignedPair_any ad len cap w0 hB).mono ?_
    rintro e w ⟨x, y, rfl, hb0⟩
    go_wp2_with fail
    refine (signed_any x y _).mono ?_
    rintro e _ ⟨rfl, rfl⟩
    go_wp2_with fail
    refine (ssigned_any x y _).mono ?_
    rintro e _ ⟨rfl, rfl⟩
    go_wp2_with fail
    refine (wideAlike_N _ _ _ _ _ rfl rfl).mono ?_
    rintro e _ ⟨rfl, rfl⟩
    go_wp2_with fail
    refine (wideAlike_N _ _ _ _ _ rfl rfl).mono ?_
    rintro e _ ⟨rfl, rfl⟩
    go_wp2_with fail
    refine (signed_any (FL.neg x) (FL.neg y) _).mono ?_
    rintro e w3 ⟨rfl, rfl⟩
    obtain ⟨r, s, n, e1, h1, h2⟩ := FL.csum_run (P := Try.prog) .sub (by simp) 23 x y x y w3
    have HD : Below w0.heap.size w0 (w3.drewN n) := below_drewN hb0 n
    by_cases hf : ((Ieee.double.order r 0 == some .eq) && (Ieee.double.order s 0 == some .eq)) = true
    · simp only [Bool.and_eq_true, beq_iff_eq] at hf
      have hr := (FL.order_notnan hf.1).1
      have hs := (FL.order_notnan hf.2).1
      have f1 : FloatKind.f64.format.order r 0 = some .eq := hf.1
      have f2 : FloatKind.f64.format.order s 0 = some .eq := hf.2
      have ea := fun w => run_complex_sum (P := Try.prog) w .add (by simp) 23 .f64 x y (FL.neg x) (FL.neg y) r s (by unfold cSumBits; rw [FL.bits_of_P2 (h1.trans (FL.P2_sub_neg x).symm) hr, FL.bits_of_P2 (h2.trans (FL.P2_sub_neg y).symm) hs]; rfl)
      clear hf h1 h2 hr hs
      go_wp2_with fail
      refine (wideAlike_N _ _ _ _ _ rfl rfl).mono ?_
      rintro e _ ⟨rfl, rfl⟩
      go_wp2_with fail
      refine (wideAlike_N _ _ _ _ _ (by rw [FL.neg_neg]) (by rw [FL.neg_neg])).mono ?_
      rintro e _ ⟨rfl, rfl⟩
      go_wp2_with fail
      go_ret
      exact ⟨rfl, HD⟩
    · have f1 : (FloatKind.f64.format.order r 0 == some .eq && FloatKind.f64.format.order s 0 == some .eq) = false := by
        have h : ((Ieee.double.order r 0 == some .eq) && (Ieee.double.order s 0 == some .eq)) = false := by simpa using hf
        exact h
      clear hf h1 h2
      go_wp2_with fail
      refine (wideAlike_N _ _ _ _ _ rfl rfl).mono ?_
      rintro e _ ⟨rfl, rfl⟩
      go_wp2_with fail
      refine (wideAlike_N _ _ _ _ _ (by rw [FL.neg_neg]) (by rw [FL.neg_neg])).mono ?_
      rintro e _ ⟨rfl, rfl⟩
      go_wp2_with fail
      go_ret
      exact ⟨rfl, HD⟩

end Go.Proofs.Ytanodgboimjmoaa
