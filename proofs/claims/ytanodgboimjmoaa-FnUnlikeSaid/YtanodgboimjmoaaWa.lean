/-
  WALKS over the small functions on integers: size, divisor, within, and the reference's l6In, l2In, l2Gcd. Conditions: the ranges that each theorem names.
-/
import Derived.Test.YtanodgboimjmoaaRows
import Derived.Test.YtanodgboimjmoaaPlain
import Derived.WalkKit
import Derived.WalkSpells
import Derived.WalkLawsBesides
import Derived.Deep.QuietTactic
import Derived.BigQuiet
import Derived.Lib.Hide
import Derived.Handy
namespace Go.Proofs.Ytanodgboimjmoaa
open Go.RowKit
open PL

theorem ret_i {k : IntKind} {a b : Int} (h : a = b) : Ending.returned (.int k a) = .returned (.int k b) := by rw [h]
theorem ret_b {a b : Bool} (h : a = b) : Ending.returned (.bool a) = .returned (.bool b) := by rw [h]
theorem drewN0 (w : World) : w = w.drewN 0 := rfl

theorem gcd_neg0 (x : Int) (b : Int) (h : b = 0) : Int.gcd x b = x.natAbs := by subst h; simp

end Go.Proofs.Ytanodgboimjmoaa
