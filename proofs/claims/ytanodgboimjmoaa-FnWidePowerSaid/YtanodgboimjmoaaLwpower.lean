/-
  THE WALK of FnWidePower: for all bytes it returns true and turns nothing old.
-/
import Derived.Test.YtanodgboimjmoaaWw
namespace Go.Proofs.Ytanodgboimjmoaa
open Go.RowKit
open PL

set_option maxHeartbeats 8000000 in
theorem FnWidePower_walk (ad : Option Addr) (len cap : Nat) (w0 : World) (hB : BytesIn w0 ad len cap) :
    Calls Try.prog 7 #[.slice ad len cap] w0 fun e w' =>
      e = .returned (.bool true) ∧ Below w0.heap.size w0 w' := by
  go_enter Try.func7, Try.ntmps7
  by_cases hl : (len : Int) > 1048576
  · go_wp2_with fail
    go_ret
    exact ⟨rfl, Below.refl _ _⟩
  · go_wp2_with fail
    refine (DrawWidePower_any ad len cap w0 hB).mono ?_
    rintro e w ⟨x, y, rfl, hb0⟩
    go_wp2_with fail
    refine (wpower_any x y _).mono ?_
    rintro e w1 ⟨r1, n1, rfl, hw1, h1⟩
    have B1 : Below w0.heap.size w0 w1 := hw1 ▸ below_drewN hb0 n1
    clear hw1
    have H1 := Lib.hid h1
    clear h1
    go_wp2_with fail
    refine (swpower_any x y _).mono ?_
    rintro e w2 ⟨r2, n2, rfl, hw2, h2⟩
    have B2 : Below w0.heap.size w0 w2 := hw2 ▸ below_drewN B1 n2
    clear hw2
    have H2 := Lib.hid (H1.out.trans h2.symm)
    clear h2
    go_wp2_with fail
    refine (zeroAlike_N _ _ _ H2.out).mono ?_
    rintro e _ ⟨rfl, rfl⟩
    go_wp2_with fail
    refine (signed_any x y _).mono ?_
    rintro e _ ⟨rfl, rfl⟩
    go_wp2_with fail
    refine (mirrorw_any x y _).mono ?_
    rintro e _ ⟨rfl, rfl⟩
    go_wp2_with fail
    refine (wpower_any x (FL.neg y) _).mono ?_
    rintro e w3 ⟨r3, n3, rfl, hw3, h3⟩
    have B3 : Below w0.heap.size w0 w3 := hw3 ▸ below_drewN B2 n3
    clear hw3
    have H3 := Lib.hid (show FL.Loose (FL.N r3) (FL.N r1) by rw [h3, FL.N_neg, FL.P2_mul_neg2, ← H1.out]; exact FL.Loose.refl)
    clear h3
    go_wp2_with fail
    refine (wpower_any x y _).mono ?_
    rintro e w4 ⟨r4, n4, rfl, hw4, h4⟩
    have B4 : Below w0.heap.size w0 w4 := hw4 ▸ below_drewN B3 n4
    clear hw4
    have H4 := Lib.hid (show FL.Loose (FL.N r4) (FL.N r1) by rw [h4, ← H1.out]; exact FL.Loose.refl)
    clear h4
    go_wp2_with fail
    refine (wpower_any (FL.neg x) (FL.neg y) _).mono ?_
    rintro e w5 ⟨r5, n5, rfl, hw5, h5⟩
    have B5 : Below w0.heap.size w0 w5 := hw5 ▸ below_drewN B4 n5
    clear hw5
    have H5 := Lib.hid (show FL.Loose (FL.N r5) (FL.N r1) by rw [h5, FL.N_neg, FL.N_neg, FL.P2_mul_neg2, FL.P2_mul_neg2, ← H1.out]; exact FL.Loose.refl)
    clear h5
    have f1 : (FloatKind.f64.format.order r1 0 == some .lt) = false := by
      cases hN : FL.N r1 with
      | none =>
        have h : FloatKind.f64.format.order r1 0 = none := FL.order_left (FL.N_none hN)
        rw [h]; rfl
      | some r =>
        obtain ⟨rfl, -⟩ := FL.N_some hN
        have h : FloatKind.f64.format.order r1 0 ≠ some .lt := FL.squares_not_lt x y r1 (H1.out.symm.trans hN)
        simpa using h
    go_wp2_with fail
    refine (partAlike_N _ _ _ H3.out).mono ?_
    rintro e _ ⟨rfl, rfl⟩
    go_wp2_with fail
    refine (partAlike_N _ _ _ H4.out).mono ?_
    rintro e _ ⟨rfl, rfl⟩
    go_wp2_with fail
    refine (partAlike_N _ _ _ H5.out).mono ?_
    rintro e _ ⟨rfl, rfl⟩
    go_wp2_with fail
    go_ret
    exact ⟨rfl, B5⟩

end Go.Proofs.Ytanodgboimjmoaa
