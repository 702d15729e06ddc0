/-
  THE WALK of FnWideMirror: for all bytes it returns true and turns nothing old.
-/
import Derived.Test.YtanodgboimjmoaaWw
namespace Go.Proofs.Ytanodgboimjmoaa
open Go.RowKit
open PL

set_option maxHeartbeats 8000000 in
theorem FnWideMirror_walk (ad : Option Addr) (len cap : Nat) (w0 : World) (hB : BytesIn w0 ad len cap) :
    Calls Try.prog 5 #[.slice ad len cap] w0 fun e w' =>
      e = .returned (.bool true) ∧ Below w0.heap.size w0 w' := by
  go_enter Try.func5, Try.ntmps5
  by_cases hl : (len : Int) > 1048576
  · go_wp2_with fail
    go_ret
    exact ⟨rfl, Below.refl _ _⟩
  · go_wp2_with fail
    refine (DrawWideMirror_any ad len cap w0 hB).mono ?_
    rintro e w ⟨x, y, rfl, hb0⟩
    have hnn := Lib.hid (FL.neg_neg y)
    go_wp2_with fail
    refine (mirrorw_any x y _).mono ?_
    rintro e _ ⟨rfl, rfl⟩
    go_wp2_with fail
    refine (smirrorw_any x y _).mono ?_
    rintro e _ ⟨rfl, rfl⟩
    go_wp2_with fail
    refine (wideAlike_N _ _ _ _ _ rfl rfl).mono ?_
    rintro e _ ⟨rfl, rfl⟩
    go_wp2_with fail
    refine (mirrorw_any x (FL.neg y) _).mono ?_
    rintro e _ ⟨rfl, rfl⟩
    go_wp2_with fail
    refine (wideAlike_N _ _ _ _ _ rfl (by rw [FL.neg_neg])).mono ?_
    rintro e _ ⟨rfl, rfl⟩
    go_wp2_with fail
    refine (zeroAlike_N _ _ _ rfl).mono ?_
    rintro e _ ⟨rfl, rfl⟩
    go_wp2_with fail
    go_ret
    exact ⟨rfl, hb0⟩

end Go.Proofs.Ytanodgboimjmoaa
