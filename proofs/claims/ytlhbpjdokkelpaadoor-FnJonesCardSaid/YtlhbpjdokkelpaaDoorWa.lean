/-
  WALKS over the small functions on integers: size, divisor, within, and the reference's l6In, l2In, l2Gcd. Conditions: the ranges that each theorem names.
-/
import Derived.Test.YtlhbpjdokkelpaaDoorRows
import Derived.Test.YtlhbpjdokkelpaaDoorPlain
import Derived.WalkKit
import Derived.WalkSpells
import Derived.WalkLawsBesides
import Derived.Deep.QuietTactic
import Derived.BigQuiet
import Derived.Lib.Hide
import Derived.Handy
namespace Go.Proofs.YtlhbpjdokkelpaaDoor
open Go.RowKit
open PL

theorem ret_i {k : IntKind} {a b : Int} (h : a = b) : Ending.returned (.int k a) = .returned (.int k b) := by rw [h]
theorem ret_b {a b : Bool} (h : a = b) : Ending.returned (.bool a) = .returned (.bool b) := by rw [h]
theorem drewN0 (w : World) : w = w.drewN 0 := rfl

set_option maxHeartbeats 400000 in
theorem size_any (n : Int) (w : World) (h1 : -9000000000000000000 ≤ n) (h2 : n ≤ 9000000000000000000) :
    Calls Tryd.prog 31 #[.int .i64 n] w fun e w' => e = .returned (.int .i64 (n.natAbs : Int)) ∧ w' = w := by
  by_cases h : n < 0
  all_goals
    go_enter Tryd.func31, Tryd.ntmps31
    go_wp2
    go_ret
    exact ⟨ret_i (by omega), rfl⟩

set_option maxHeartbeats 400000 in
theorem divisor_any (a b : Int) (w : World) (h1 : 0 ≤ a) (h2 : 0 ≤ b) (h3 : a ≤ 9000000000000000000) (h4 : b ≤ 9000000000000000000) :
    Calls Tryd.prog 30 #[.int .i64 a, .int .i64 b] w fun e w' => e = .returned (.int .i64 (Int.gcd a b : Int)) ∧ ∃ m, w' = w.drewN m := by
  go_enter Tryd.func30, Tryd.ntmps30
  go_wp2
  go_loopw [0, 1] (fun u v wr => ∃ x y : Int, ∃ m, 0 ≤ x ∧ x ≤ 9000000000000000000 ∧ 0 ≤ y ∧ y ≤ 9000000000000000000 ∧ Hid (Int.gcd x y = Int.gcd a b) ∧ u = .int .i64 x ∧ v = .int .i64 y ∧ wr = w.drewN m) (fun _ v _ => (intOf v).toNat)
  case atStart => exact ⟨a, b, 0, h1, h3, h2, h4, rfl, rfl, rfl, rfl⟩
  case round =>
    obtain ⟨x, y, m, hx0, hx1, hy0, hy1, hg, rfl, rfl, rfl⟩ := hrel
    by_cases hy : y = 0
    · subst hy
      go_wp2
      go_ret
      refine ⟨ret_i ?_, m, rfl⟩
      rw [← hg.out]; simp; omega
    · have hy2 : 1 ≤ y := by omega
      have hm1 := Int.emod_nonneg x (b := y) (by omega)
      have hm2 := Int.emod_lt_of_pos x (b := y) (by omega)
      have hne : (y == 0) = false := by simpa using hy
      have hne2 : (y != 0) = true := by simpa using hy
      go_wp2
      go_quiet (fail)
      go_wp2
      go_roundw
      case rel => exact ⟨y, x % y, _, by omega, by omega, hm1, by omega, by unfold Hid; rw [gcd_step _ _ hx0 hy0]; exact hg.out, rfl, rfl, World.drewN_drewN ..⟩
      case measure => simp [intOf]; omega

set_option maxHeartbeats 400000 in
theorem within_yes (n a b : Int) (w : World) (h1 : a ≤ n) (h2 : n ≤ b) :
    Calls Tryd.prog 29 #[.int .i64 n, .int .i64 a, .int .i64 b] w fun e w' => e = .returned (.bool true) ∧ w' = w := by
  go_enter Tryd.func29, Tryd.ntmps29
  go_wp2
  go_ret
  exact ⟨rfl, rfl⟩

set_option maxHeartbeats 400000 in
theorem within_no (n a b : Int) (w : World) (h : n < a ∨ b < n) :
    Calls Tryd.prog 29 #[.int .i64 n, .int .i64 a, .int .i64 b] w fun e w' => e = .returned (.bool false) ∧ w' = w := by
  by_cases h1 : a ≤ n
  · have h2 : b < n := by omega
    clear h
    go_enter Tryd.func29, Tryd.ntmps29
    go_wp2
    go_ret
    exact ⟨ret_b (decide_eq_false (by omega)), rfl⟩
  · have h2 : n < a := by omega
    clear h
    go_enter Tryd.func29, Tryd.ntmps29
    go_wp2
    go_ret
    exact ⟨rfl, rfl⟩

set_option maxHeartbeats 400000 in
theorem l6In_yes (n a b : Int) (w : World) (h1 : a ≤ n) (h2 : n ≤ b) :
    Calls Tryd.prog 33 #[.int .i64 n, .int .i64 a, .int .i64 b] w fun e w' => e = .returned (.bool true) ∧ w' = w := by
  go_enter Tryd.func33, Tryd.ntmps33
  go_wp2
  go_ret
  exact ⟨rfl, rfl⟩

set_option maxHeartbeats 400000 in
theorem l6In_no (n a b : Int) (w : World) (h : n < a ∨ b < n) :
    Calls Tryd.prog 33 #[.int .i64 n, .int .i64 a, .int .i64 b] w fun e w' => e = .returned (.bool false) ∧ w' = w := by
  by_cases h1 : a ≤ n
  · have h2 : b < n := by omega
    clear h
    go_enter Tryd.func33, Tryd.ntmps33
    go_wp2
    go_ret
    exact ⟨ret_b (decide_eq_false (by omega)), rfl⟩
  · have h2 : n < a := by omega
    clear h
    go_enter Tryd.func33, Tryd.ntmps33
    go_wp2
    go_ret
    exact ⟨rfl, rfl⟩

set_option maxHeartbeats 400000 in
theorem l2In_yes (n : Int) (w : World) (h1 : -2000000000 ≤ n) (h2 : n ≤ 2000000000) :
    Calls Tryd.prog 32 #[.int .i64 n] w fun e w' => e = .returned (.bool true) ∧ w' = w := by
  go_enter Tryd.func32, Tryd.ntmps32
  go_wp2_with (go_at_call 33; refine (l6In_yes _ _ _ _ h1 h2).mono ?_; rintro e w' ⟨rfl, rfl⟩)
  go_ret
  exact ⟨rfl, rfl⟩

set_option maxHeartbeats 400000 in
theorem l2In_no (n : Int) (w : World) (h : n < -2000000000 ∨ 2000000000 < n) :
    Calls Tryd.prog 32 #[.int .i64 n] w fun e w' => e = .returned (.bool false) ∧ w' = w := by
  have H := Lib.hid h; clear h
  go_enter Tryd.func32, Tryd.ntmps32
  go_wp2_with (go_at_call 33; refine (l6In_no _ _ _ _ H.out).mono ?_; rintro e w' ⟨rfl, rfl⟩)
  go_ret
  exact ⟨rfl, rfl⟩

theorem gcd_neg0 (x : Int) (b : Int) (h : b = 0) : Int.gcd x b = x.natAbs := by subst h; simp

set_option maxHeartbeats 400000 in
theorem l2Gcd_any (a b : Int) (w : World) (h1 : -9000000000000000000 ≤ a) (h2 : a ≤ 9000000000000000000) (h3 : -9000000000000000000 ≤ b) (h4 : b ≤ 9000000000000000000) :
    Calls Tryd.prog 34 #[.int .i64 a, .int .i64 b] w fun e w' => e = .returned (.int .i64 (Int.gcd a b : Int)) ∧ w' = w := by
  go_enter Tryd.func34, Tryd.ntmps34
  go_wp2
  go_loop [0, 1] (fun u v => ∃ x y : Int, -9000000000000000000 ≤ x ∧ x ≤ 9000000000000000000 ∧ -9000000000000000000 ≤ y ∧ y ≤ 9000000000000000000 ∧ Hid (Int.gcd x y = Int.gcd a b) ∧ u = .int .i64 x ∧ v = .int .i64 y) (fun _ v => (intOf v).natAbs)
  case atStart => exact ⟨a, b, h1, h2, h3, h4, rfl, rfl, rfl⟩
  case round =>
    obtain ⟨x, y, hx0, hx1, hy0, hy1, hg, rfl, rfl⟩ := hrel
    by_cases hy : y = 0
    · subst hy
      have hz : (x.natAbs : Int) = max x (-x) := by omega
      by_cases hneg : x < 0
      all_goals
        go_wp2
        go_ret
        refine ⟨ret_i ?_, rfl⟩
        rw [← hg.out, Int.gcd_zero_right]; omega
    · have hm1 := tmod_abs x y hy
      have hne : (y == 0) = false := by simpa using hy
      have hne2 : (y != 0) = true := by simpa using hy
      go_wp2
      go_round
      case rel => exact ⟨y, x.tmod y, by omega, by omega, by omega, by omega, by unfold Hid; rw [gcd_tstep]; exact hg.out, rfl, rfl⟩
      case measure => exact hm1

end Go.Proofs.YtlhbpjdokkelpaaDoor
