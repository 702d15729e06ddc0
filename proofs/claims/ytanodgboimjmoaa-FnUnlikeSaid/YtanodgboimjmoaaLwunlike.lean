/-
  THE WALK of FnUnlike: for all bytes it returns true and turns nothing old.
-/
import Derived.Test.YtanodgboimjmoaaWy
namespace Go.Proofs.Ytanodgboimjmoaa
open Go.RowKit
open PL

theorem unlike_at (x1 y1 x2 y2 : Nat) (o : Bool) (w : World) (h : Hid ((!(Ieee.single.order x1 x2 == some .eq) || !(Ieee.single.order y1 y2 == some .eq)) = o)) :
    Calls Try.prog 21 #[.complex .f32 x1 y1, .complex .f32 x2 y2] w fun e w' => e = .returned (.bool o) ∧ w' = w := by
  rw [← h.out]; exact unlike_any x1 y1 x2 y2 w

theorem sunlike_at (x1 y1 x2 y2 : Nat) (o : Bool) (w : World) (h : Hid ((!(Ieee.single.order x1 x2 == some .eq) || !(Ieee.single.order y1 y2 == some .eq)) = o)) :
    Calls Try.prog 22 #[.complex .f32 x1 y1, .complex .f32 x2 y2] w fun e w' => e = .returned (.bool o) ∧ w' = w := by
  rw [← h.out]; exact sunlike_any x1 y1 x2 y2 w

theorem same_at2 (x1 y1 x2 y2 : Nat) (o : Bool) (w : World) (h : Hid (((Ieee.double.order x1 x2 == some .eq) && (Ieee.double.order y1 y2 == some .eq)) = o)) :
    Calls Try.prog 10 #[.complex .f64 x1 y1, .complex .f64 x2 y2] w fun e w' => e = .returned (.bool o) ∧ w' = w := by
  rw [← h.out]; exact same_any x1 y1 x2 y2 w

set_option maxHeartbeats 8000000 in
theorem FnUnlike_walk (ad : Option Addr) (len cap : Nat) (w0 : World) (hB : BytesIn w0 ad len cap) :
    Calls Try.prog 6 #[.slice ad len cap] w0 fun e w' =>
      e = .returned (.bool true) ∧ Below w0.heap.size w0 w' := by
  go_enter Try.func6, Try.ntmps6
  by_cases hl : (len : Int) > 1048576
  · go_wp2_with fail
    go_ret
    exact ⟨rfl, Below.refl _ _⟩
  · go_wp2_with fail
    refine (DrawSingleUnlike_dr ad len cap w0 hB).mono ?_
    rintro e w ⟨x1, y1, x2, y2, rfl, ⟨D1, D2, D3, D4⟩, hb0⟩
    obtain ⟨o, ho⟩ : ∃ o, (!(Ieee.single.order x1 x2 == some .eq) || !(Ieee.single.order y1 y2 == some .eq)) = o := ⟨_, rfl⟩
    have H := Lib.hid ho
    go_wp2_with fail
    refine (unlike_at _ _ _ _ o _ H).mono ?_
    rintro e w3 ⟨rfl, rfl⟩
    go_wp2_with fail
    refine (sunlike_at _ _ _ _ o _ H).mono ?_
    rintro e w3 ⟨rfl, rfl⟩
    cases o
    · clear ho
      go_wp2_with fail
      go_ret
      exact ⟨rfl, hb0⟩
    obtain ⟨X1, Y1, n1, k1, a1, a2⟩ := FL.widen_complex (P := Try.prog) 33 23 x1 y1 Try.underlying33 Try.underlying23 D1 D2 w3
    obtain ⟨X2, Y2, n2, k2, a3, a4⟩ := FL.widen_complex (P := Try.prog) 33 23 x2 y2 Try.underlying33 Try.underlying23 D3 D4 (w3.drewN n1)
    have HS := Lib.hid (show ((Ieee.double.order X1 X2 == some .eq) && (Ieee.double.order Y1 Y2 == some .eq)) = false by
      cases h1 : (Ieee.single.order x1 x2 == some .eq)
      · rw [FL.widen_eq a1 a3 h1]; rfl
      · cases h2 : (Ieee.single.order y1 y2 == some .eq)
        · rw [FL.widen_eq a2 a4 h2, Bool.and_false]
        · rw [h1, h2] at ho; cases ho)
    have HU := Lib.hid (show (!(Ieee.single.order x2 x1 == some .eq) || !(Ieee.single.order y2 y1 == some .eq)) = true by rw [FL.eq_symm32 x1 x2, FL.eq_symm32 y1 y2]; exact ho)
    clear ho a1 a2 a3 a4
    go_wp2_with fail
    refine (same_at2 _ _ _ _ false _ HS).mono ?_
    rintro e _ ⟨rfl, rfl⟩
    go_wp2_with fail
    refine (unlike_at _ _ _ _ true _ HU).mono ?_
    rintro e _ ⟨rfl, rfl⟩
    go_wp2_with fail
    go_ret
    exact ⟨rfl, below_drewN hb0 _⟩

end Go.Proofs.Ytanodgboimjmoaa
