/-
  WALKS: the functions on wide numbers, and what compares them, up to the bits of a NaN. No condition.
-/
import Derived.Test.YtanodgboimjmoaaFp
import Derived.Test.YtanodgboimjmoaaWa
import Derived.WalkSmall
import Derived.Lib.SmallJoins
namespace Go.Proofs.Ytanodgboimjmoaa
open Go.RowKit
open FL (N P2 isNan Loose)

theorem run_neg {P : Program} (y : Nat) (w : World) : (Op.unary .neg (.float .f64 y)).run P w = .ok (.float .f64 (FL.neg y)) w := rfl
theorem run_negc {P : Program} (x y : Nat) (w : World) : (Op.unary .neg (.complex .f64 x y)).run P w = .ok (.complex .f64 (FL.neg x) (FL.neg y)) w := rfl

theorem drewN_drewN (w : World) (m n : Nat) : (w.drewN m).drewN n = w.drewN (m + n) := by unfold World.drewN; simp [Nat.add_assoc]

set_option maxHeartbeats 4000000 in
theorem zeroAlike_N (x y : Nat) (w : World) (h : N x = N y) :
    Calls Try.prog 19 #[.float .f64 x, .float .f64 y] w fun e w' => e = .returned (.bool true) ∧ w' = w := by
  rcases FL.N_eq h with ⟨rfl, hx⟩ | ⟨hx, hy⟩
  · have ho : FloatKind.f64.format.order x x = some .eq := FL.order_refl hx
    obtain ⟨r, hr, hn⟩ := FL.quo_one_any hx
    have hq := fun w => run_float_arith (P := Try.prog) w .quo 32 .f64 _ _ _ hr
    have hp : FloatKind.f64.format.order r r = some .eq := FL.order_refl hn
    clear hr hx hn h
    go_enter Try.func19, Try.ntmps19
    go_wp2_with fail
    go_ret
    exact ⟨rfl, rfl⟩
  · have ho : FloatKind.f64.format.order x x = none := FL.order_left hx
    have hp : FloatKind.f64.format.order y y = none := FL.order_left hy
    clear hx hy h
    go_enter Try.func19, Try.ntmps19
    go_wp2_with fail
    go_ret
    exact ⟨rfl, rfl⟩

set_option maxHeartbeats 4000000 in
theorem wideAlike_N (x1 y1 x2 y2 : Nat) (w : World) (hx : N x1 = N x2) (hy : N y1 = N y2) :
    Calls Try.prog 15 #[.complex .f64 x1 y1, .complex .f64 x2 y2] w fun e w' => e = .returned (.bool true) ∧ w' = w := by
  have HX := Lib.hid hx
  have HY := Lib.hid hy
  clear hx hy
  go_enter Try.func15, Try.ntmps15
  go_wp2_with fail
  refine (zeroAlike_N _ _ _ HX.out).mono ?_
  rintro e w1 ⟨rfl, rfl⟩
  go_wp2_with fail
  refine (zeroAlike_N _ _ _ HY.out).mono ?_
  rintro e w1 ⟨rfl, rfl⟩
  go_wp2_with fail
  go_ret
  exact ⟨rfl, rfl⟩

set_option maxHeartbeats 4000000 in
theorem partAlike_N (x y : Nat) (w : World) (h : Loose (N x) (N y)) :
    Calls Try.prog 26 #[.float .f64 x, .float .f64 y] w fun e w' => e = .returned (.bool true) ∧ w' = w := by
  rcases h with ⟨hx, hy⟩ | ⟨a, b, hx, hy, ho⟩
  · have h1 : FloatKind.f64.format.order x x = none := FL.order_left (FL.N_none hx)
    have h2 : FloatKind.f64.format.order y y = none := FL.order_left (FL.N_none hy)
    have h3 : FloatKind.f64.format.order x y = none := FL.order_left (FL.N_none hx)
    clear hx hy
    go_enter Try.func26, Try.ntmps26
    go_wp2_with fail
    go_ret
    exact ⟨rfl, rfl⟩
  · obtain ⟨rfl, -⟩ := FL.N_some hx
    obtain ⟨rfl, -⟩ := FL.N_some hy
    have h3 : FloatKind.f64.format.order x y = some .eq := ho
    clear hx hy ho
    go_enter Try.func26, Try.ntmps26
    go_wp2_with fail
    go_ret
    exact ⟨rfl, rfl⟩

set_option maxHeartbeats 4000000 in
theorem mirrorw_any (x y : Nat) (w : World) :
    Calls Try.prog 17 #[.complex .f64 x y] w fun e w' => e = .returned (.complex .f64 x (FL.neg y)) ∧ w' = w := by
  have hn := fun w => run_neg (P := Try.prog) y w
  go_enter Try.func17, Try.ntmps17
  go_wp2_with fail
  go_ret
  exact ⟨rfl, rfl⟩

set_option maxHeartbeats 4000000 in
theorem smirrorw_any (x y : Nat) (w : World) :
    Calls Try.prog 18 #[.complex .f64 x y] w fun e w' => e = .returned (.complex .f64 x (FL.neg y)) ∧ w' = w := by
  have hn := fun w => run_neg (P := Try.prog) y w
  go_enter Try.func18, Try.ntmps18
  go_wp2_with fail
  go_ret
  exact ⟨rfl, rfl⟩

set_option maxHeartbeats 4000000 in
theorem signed_any (x y : Nat) (w : World) :
    Calls Try.prog 13 #[.complex .f64 x y] w fun e w' => e = .returned (.tuple #[.complex .f64 x y, .complex .f64 (FL.neg x) (FL.neg y)]) ∧ w' = w := by
  have hn := fun w => run_negc (P := Try.prog) x y w
  go_enter Try.func13, Try.ntmps13
  go_wp2_with fail
  go_ret2
  exact ⟨rfl, rfl⟩

set_option maxHeartbeats 4000000 in
theorem ssigned_any (x y : Nat) (w : World) :
    Calls Try.prog 14 #[.complex .f64 x y] w fun e w' => e = .returned (.tuple #[.complex .f64 x y, .complex .f64 (FL.neg x) (FL.neg y)]) ∧ w' = w := by
  have hn := fun w => run_negc (P := Try.prog) x y w
  go_enter Try.func14, Try.ntmps14
  go_wp2_with fail
  go_ret2
  exact ⟨rfl, rfl⟩

set_option maxHeartbeats 4000000 in
theorem same_any (x1 y1 x2 y2 : Nat) (w : World) :
    Calls Try.prog 10 #[.complex .f64 x1 y1, .complex .f64 x2 y2] w fun e w' => e = .returned (.bool ((Ieee.double.order x1 x2 == some .eq) && (Ieee.double.order y1 y2 == some .eq))) ∧ w' = w := by
  go_enter Try.func10, Try.ntmps10
  go_wp2_with fail
  go_ret
  exact ⟨rfl, rfl⟩

set_option maxHeartbeats 4000000 in
theorem ssame_any (x1 y1 x2 y2 : Nat) (w : World) :
    Calls Try.prog 11 #[.complex .f64 x1 y1, .complex .f64 x2 y2] w fun e w' => e = .returned (.bool ((Ieee.double.order x1 x2 == some .eq) && (Ieee.double.order y1 y2 == some .eq))) ∧ w' = w := by
  go_enter Try.func11, Try.ntmps11
  go_wp2_with fail
  go_ret
  exact ⟨rfl, rfl⟩

set_option maxHeartbeats 4000000 in
theorem unlike_any (x1 y1 x2 y2 : Nat) (w : World) :
    Calls Try.prog 21 #[.complex .f32 x1 y1, .complex .f32 x2 y2] w fun e w' => e = .returned (.bool (!(Ieee.single.order x1 x2 == some .eq) || !(Ieee.single.order y1 y2 == some .eq))) ∧ w' = w := by
  go_enter Try.func21, Try.ntmps21
  go_wp2_with fail
  go_ret
  exact ⟨rfl, rfl⟩

set_option maxHeartbeats 4000000 in
theorem sunlike_any (x1 y1 x2 y2 : Nat) (w : World) :
    Calls Try.prog 22 #[.complex .f32 x1 y1, .complex .f32 x2 y2] w fun e w' => e = .returned (.bool (!(Ieee.single.order x1 x2 == some .eq) || !(Ieee.single.order y1 y2 == some .eq))) ∧ w' = w := by
  go_enter Try.func22, Try.ntmps22
  go_wp2_with fail
  go_ret
  exact ⟨rfl, rfl⟩

set_option maxHeartbeats 4000000 in
theorem wpower_any (x y : Nat) (w : World) :
    Calls Try.prog 24 #[.complex .f64 x y] w fun e w' => ∃ r n : Nat, e = .returned (.float .f64 r) ∧ w' = w.drewN n ∧ N r = P2 .add (P2 .mul (N x) (N x)) (P2 .mul (N y) (N y)) := by
  obtain ⟨p, n0, e0, hp⟩ := FL.arith_run (P := Try.prog) .mul (by simp) 32 x x (w)
  obtain ⟨q, n1, e1, hq⟩ := FL.arith_run (P := Try.prog) .mul (by simp) 32 y y (w.drewN n0)
  obtain ⟨r, n2, e2, hr⟩ := FL.arith_run (P := Try.prog) .add (by simp) 32 p q (w.drewN (n0 + n1))
  have Hp := Lib.hid hp
  have Hq := Lib.hid hq
  have Hr := Lib.hid hr
  clear hp hq hr
  go_enter Try.func24, Try.ntmps24
  go_wp2_with fail
  go_ret
  refine ⟨_, n0 + n1 + n2, rfl, ?_, ?_⟩
  · first | rfl | simp only [drewN_drewN]
  · simp only [Hr.out, Hq.out, Hp.out]

set_option maxHeartbeats 4000000 in
theorem swpower_any (x y : Nat) (w : World) :
    Calls Try.prog 25 #[.complex .f64 x y] w fun e w' => ∃ r n : Nat, e = .returned (.float .f64 r) ∧ w' = w.drewN n ∧ N r = P2 .add (P2 .mul (N x) (N x)) (P2 .mul (N y) (N y)) := by
  obtain ⟨p, n0, e0, hp⟩ := FL.arith_run (P := Try.prog) .mul (by simp) 32 x x (w)
  obtain ⟨q, n1, e1, hq⟩ := FL.arith_run (P := Try.prog) .mul (by simp) 32 y y (w.drewN n0)
  obtain ⟨r, n2, e2, hr⟩ := FL.arith_run (P := Try.prog) .add (by simp) 32 p q (w.drewN (n0 + n1))
  have Hp := Lib.hid hp
  have Hq := Lib.hid hq
  have Hr := Lib.hid hr
  clear hp hq hr
  go_enter Try.func25, Try.ntmps25
  go_wp2_with fail
  go_ret
  refine ⟨_, n0 + n1 + n2, rfl, ?_, ?_⟩
  · first | rfl | simp only [drewN_drewN]
  · simp only [Hr.out, Hq.out, Hp.out]

end Go.Proofs.Ytanodgboimjmoaa
