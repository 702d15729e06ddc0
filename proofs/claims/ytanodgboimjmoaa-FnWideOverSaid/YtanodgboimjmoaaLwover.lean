/-
  THE WALK of FnWideOver: for all bytes it returns true and turns nothing old.
-/
import Derived.Test.YtanodgboimjmoaaWy
namespace Go.Proofs.Ytanodgboimjmoaa
open Go.RowKit
open PL

set_option maxHeartbeats 8000000 in
theorem FnWideOver_walk (ad : Option Addr) (len cap : Nat) (w0 : World) (hB : BytesIn w0 ad len cap) :
    Calls Try.prog 8 #[.slice ad len cap] w0 fun e w' =>
      e = .returned (.bool true) ∧ Below w0.heap.size w0 w' := by
  go_enter Try.func8, Try.ntmps8
  by_cases hl : (len : Int) > 1048576
  · go_wp2_with fail
    go_ret
    exact ⟨rfl, Below.refl _ _⟩
  · go_wp2_with fail
    refine (DrawWideOver_dr ad len cap w0 hB).mono ?_
    rintro e w ⟨x1, y1, x2, y2, rfl, ⟨D1, D2, -, -⟩, hb0⟩
    obtain ⟨q, hq⟩ := FL.over_run (P := Try.prog) 23 x1 y1 x2 y2
    go_wp2_with fail
    refine (wover_N _ _ _ _ q hq _).mono ?_
    rintro e w1 ⟨r1, s1, n1, rfl, hw1, g1, h1⟩
    have B1 : Below w0.heap.size w0 w1 := hw1 ▸ below_drewN hb0 n1
    clear hw1
    go_wp2_with fail
    refine (swover_N _ _ _ _ q hq _).mono ?_
    rintro e w2 ⟨r2, s2, n2, rfl, hw2, g2, h2⟩
    have B2 : Below w0.heap.size w0 w2 := hw2 ▸ below_drewN B1 n2
    clear hw2 hq
    have G := Lib.hid (g1.trans g2.symm)
    have HH := Lib.hid (h1.trans h2.symm)
    clear g1 g2 h1 h2
    go_wp2_with fail
    refine (wideAlike_N _ _ _ _ _ G.out HH.out).mono ?_
    rintro e w4 ⟨rfl, rfl⟩
    by_cases hF : x1 ∈ FL.FLIST ∧ y1 ∈ FL.FLIST
    · obtain ⟨e, f, ho, o1, o2⟩ := FL.one_run (P := Try.prog) hF.1 hF.2
      have p1 : FloatKind.f64.format.order e x1 = some .eq := o1
      have p2 : FloatKind.f64.format.order f y1 = some .eq := o2
      clear o1 o2 hF
      go_wp2_with fail
      refine (wover_one _ _ e f (ho 23) _).mono ?_
      rintro _ w5 ⟨rfl, rfl⟩
      clear ho
      obtain ⟨r, s, n, k, g, h⟩ := FL.csum_run (P := Try.prog) .sub (by simp) 23 x1 y1 x1 y1 w5
      clear g h
      cases hc : (FloatKind.f64.format.order r 0 == some .eq && FloatKind.f64.format.order s 0 == some .eq)
      all_goals
        go_wp2_with fail
        go_ret
        exact ⟨rfl, below_drewN B2 n⟩
    · obtain ⟨q2, hq2⟩ := FL.over_run (P := Try.prog) 23 x1 y1 4607182418800017408 0
      go_wp2_with fail
      refine (wover_N _ _ _ _ q2 hq2 _).mono ?_
      rintro e w3 ⟨r3, s3, n3, rfl, hw3, -, -⟩
      have B3 : Below w0.heap.size w0 w3 := hw3 ▸ below_drewN B2 n3
      clear hw3 hq2
      obtain ⟨r, s, n, k, g, h⟩ := FL.csum_run (P := Try.prog) .sub (by simp) 23 x1 y1 x1 y1 w3
      have hc : (FloatKind.f64.format.order r 0 == some .eq && FloatKind.f64.format.order s 0 == some .eq) = false := by
        cases hc : (FloatKind.f64.format.order r 0 == some .eq && FloatKind.f64.format.order s 0 == some .eq)
        · rfl
        · exfalso
          simp only [Bool.and_eq_true, beq_iff_eq] at hc
          exact hF ⟨FL.dr_fin D1 g hc.1, FL.dr_fin D2 h hc.2⟩
      clear g h hF
      go_wp2_with fail
      go_ret
      exact ⟨rfl, below_drewN B3 n⟩

end Go.Proofs.Ytanodgboimjmoaa
