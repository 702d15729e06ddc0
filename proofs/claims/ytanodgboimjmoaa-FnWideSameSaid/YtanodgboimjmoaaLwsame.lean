/-
  THE WALK of FnWideSame: for all bytes it returns true and turns nothing old.
-/
import Derived.Test.YtanodgboimjmoaaWw
namespace Go.Proofs.Ytanodgboimjmoaa
open Go.RowKit
open PL

theorem same_at (x1 y1 x2 y2 : Nat) (o : Bool) (w : World) (h : Hid (((Ieee.double.order x1 x2 == some .eq) && (Ieee.double.order y1 y2 == some .eq)) = o)) :
    Calls Try.prog 10 #[.complex .f64 x1 y1, .complex .f64 x2 y2] w fun e w' => e = .returned (.bool o) ∧ w' = w := by
  rw [← h.out]; exact same_any x1 y1 x2 y2 w
theorem ssame_at (x1 y1 x2 y2 : Nat) (o : Bool) (w : World) (h : Hid (((Ieee.double.order x1 x2 == some .eq) && (Ieee.double.order y1 y2 == some .eq)) = o)) :
    Calls Try.prog 11 #[.complex .f64 x1 y1, .complex .f64 x2 y2] w fun e w' => e = .returned (.bool o) ∧ w' = w := by
  rw [← h.out]; exact ssame_any x1 y1 x2 y2 w

set_option maxHeartbeats 8000000 in
theorem FnWideSame_walk (ad : Option Addr) (len cap : Nat) (w0 : World) (hB : BytesIn w0 ad len cap) :
    Calls Try.prog 3 #[.slice ad len cap] w0 fun e w' =>
      e = .returned (.bool true) ∧ Below w0.heap.size w0 w' := by
  go_enter Try.func3, Try.ntmps3
  by_cases hl : (len : Int) > 1048576
  · go_wp2_with fail
    go_ret
    exact ⟨rfl, Below.refl _ _⟩
  · go_wp2_with fail
    refine (DrawWideSame_any ad len cap w0 hB).mono ?_
    rintro e w ⟨x1, y1, x2, y2, rfl, hb0⟩
    obtain ⟨o, ho⟩ : ∃ o, ((Ieee.double.order x1 x2 == some .eq) && (Ieee.double.order y1 y2 == some .eq)) = o := ⟨_, rfl⟩
    have H := Lib.hid ho
    go_wp2_with fail
    refine (same_at _ _ _ _ o _ H).mono ?_
    rintro e _ ⟨rfl, rfl⟩
    go_wp2_with fail
    refine (ssame_at _ _ _ _ o _ H).mono ?_
    rintro e _ ⟨rfl, rfl⟩
    cases o
    · clear ho
      go_wp2_with fail
      go_ret
      exact ⟨rfl, hb0⟩
    simp only [Bool.and_eq_true, beq_iff_eq] at ho
    have H1 := Lib.hid (show ((Ieee.double.order x2 x1 == some .eq) && (Ieee.double.order y2 y1 == some .eq)) = true by rw [FL.order_symm _ _ ho.1, FL.order_symm _ _ ho.2]; rfl)
    have H2 := Lib.hid (show ((Ieee.double.order x1 x1 == some .eq) && (Ieee.double.order y1 y1 == some .eq)) = true by rw [FL.order_refl (FL.order_notnan ho.1).1, FL.order_refl (FL.order_notnan ho.2).1]; rfl)
    have H3 := Lib.hid (show ((Ieee.double.order x2 x2 == some .eq) && (Ieee.double.order y2 y2 == some .eq)) = true by rw [FL.order_refl (FL.order_notnan ho.1).2, FL.order_refl (FL.order_notnan ho.2).2]; rfl)
    clear ho
    go_wp2_with fail
    refine (same_at _ _ _ _ true _ H1).mono ?_
    rintro e _ ⟨rfl, rfl⟩
    go_wp2_with fail
    refine (same_at _ _ _ _ true _ H2).mono ?_
    rintro e _ ⟨rfl, rfl⟩
    go_wp2_with fail
    refine (same_at _ _ _ _ true _ H3).mono ?_
    rintro e _ ⟨rfl, rfl⟩
    go_wp2_with fail
    go_ret
    exact ⟨rfl, hb0⟩

end Go.Proofs.Ytanodgboimjmoaa
