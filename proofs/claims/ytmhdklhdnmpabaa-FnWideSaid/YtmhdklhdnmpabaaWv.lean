/-
  WALKS: the functions on wide numbers, and what compares them, up to the bits of a NaN. No condition.
-/
import Derived.Test.YtmhdklhdnmpabaaFp
import Derived.Test.YtmhdklhdnmpabaaWa
import Derived.WalkSmall
import Derived.Lib.SmallJoins
namespace Go.Proofs.Ytmhdklhdnmpabaa
open Go.RowKit
open FL (N P2 isNan Loose)

theorem run_neg {P : Program} (y : Nat) (w : World) : (Op.unary .neg (.float .f64 y)).run P w = .ok (.float .f64 (FL.neg y)) w := rfl
theorem run_negc {P : Program} (x y : Nat) (w : World) : (Op.unary .neg (.complex .f64 x y)).run P w = .ok (.complex .f64 (FL.neg x) (FL.neg y)) w := rfl

theorem drewN_drewN (w : World) (m n : Nat) : (w.drewN m).drewN n = w.drewN (m + n) := by unfold World.drewN; simp [Nat.add_assoc]

set_option maxHeartbeats 4000000 in
theorem zeroAlike_N (x y : Nat) (w : World) (h : N x = N y) :
    Calls Try.prog 30 #[.float .f64 x, .float .f64 y] w fun e w' => e = .returned (.bool true) ∧ w' = w := by
  rcases FL.N_eq h with ⟨rfl, hx⟩ | ⟨hx, hy⟩
  · have ho : FloatKind.f64.format.order x x = some .eq := FL.order_refl hx
    obtain ⟨r, hr, hn⟩ := FL.quo_one_any hx
    have hq := fun w => run_float_arith (P := Try.prog) w .quo 37 .f64 _ _ _ hr
    have hp : FloatKind.f64.format.order r r = some .eq := FL.order_refl hn
    clear hr hx hn h
    go_enter Try.func30, Try.ntmps30
    go_wp2_with fail
    go_ret
    exact ⟨rfl, rfl⟩
  · have ho : FloatKind.f64.format.order x x = none := FL.order_left hx
    have hp : FloatKind.f64.format.order y y = none := FL.order_left hy
    clear hx hy h
    go_enter Try.func30, Try.ntmps30
    go_wp2_with fail
    go_ret
    exact ⟨rfl, rfl⟩

set_option maxHeartbeats 4000000 in
theorem wideAlike_N (x1 y1 x2 y2 : Nat) (w : World) (hx : N x1 = N x2) (hy : N y1 = N y2) :
    Calls Try.prog 14 #[.complex .f64 x1 y1, .complex .f64 x2 y2] w fun e w' => e = .returned (.bool true) ∧ w' = w := by
  have HX := Lib.hid hx
  have HY := Lib.hid hy
  clear hx hy
  go_enter Try.func14, Try.ntmps14
  go_wp2_with fail
  refine (zeroAlike_N _ _ _ HX.out).mono ?_
  rintro e w1 ⟨rfl, rfl⟩
  go_wp2_with fail
  refine (zeroAlike_N _ _ _ HY.out).mono ?_
  rintro e w1 ⟨rfl, rfl⟩
  go_wp2_with fail
  go_ret
  exact ⟨rfl, rfl⟩

end Go.Proofs.Ytmhdklhdnmpabaa
