/-
  PLAIN: the wide numbers of the drawn fractions are near, by reckoning. No condition.
-/
import Derived.Test.YtmhdklhdnmpabaaWh
namespace Go.Proofs.Ytmhdklhdnmpabaa
open PL

def chk (n d : Int) : Bool :=
  (floatBits .mul .f64 (wq n d) (floatOfInt .f64 d)).elim false fun m => (floatBits .sub .f64 m (floatOfInt .f64 n)).elim false fun e =>
    FloatKind.f64.format.order e 4562254508917369340 == some .lt && FloatKind.f64.format.order e 13785626545772145148 == some .gt && (d != 1 || FloatKind.f64.format.order (wq n d) (floatOfInt .f64 n) == some .eq)
def PAIRS : List (Int × Int) := [(-6, 1), (-6, 2), (-6, 3), (-6, 4), (-6, 5), (-5, 1), (-5, 2), (-5, 3), (-5, 4), (-5, 5), (-4, 1), (-4, 2), (-4, 3), (-4, 4), (-4, 5), (-3, 1), (-3, 2), (-3, 3), (-3, 4), (-3, 5), (-2, 1), (-2, 2), (-2, 3), (-2, 4), (-2, 5), (-1, 1), (-1, 2), (-1, 3), (-1, 4), (-1, 5), (0, 1), (0, 2), (0, 3), (0, 4), (0, 5), (1, 1), (1, 2), (1, 3), (1, 4), (1, 5), (2, 1), (2, 2), (2, 3), (2, 4), (2, 5), (3, 1), (3, 2), (3, 3), (3, 4), (3, 5), (4, 1), (4, 2), (4, 3), (4, 4), (4, 5), (5, 1), (5, 2), (5, 3), (5, 4), (5, 5), (6, 1), (6, 2), (6, 3), (6, 4), (6, 5), (2000000000, 7), (1, 7), (0, 1)]
theorem pairs_ok : (PAIRS.all fun p => chk p.1 p.2) = true := by decide +kernel
theorem near {n d : Int} (h : (n, d) ∈ PAIRS) : ∃ m e, floatBits .mul .f64 (wq n d) (floatOfInt .f64 d) = some m ∧ floatBits .sub .f64 m (floatOfInt .f64 n) = some e ∧
    FloatKind.f64.format.order e 4562254508917369340 = some .lt ∧ FloatKind.f64.format.order e 13785626545772145148 = some .gt ∧ (d = 1 → FloatKind.f64.format.order (wq n d) (floatOfInt .f64 n) = some .eq) := by
  have h1 := List.all_eq_true.1 pairs_ok _ h
  unfold chk at h1
  cases hm : floatBits .mul .f64 (wq n d) (floatOfInt .f64 d) with
  | none => simp only [hm] at h1; cases h1
  | some m =>
    cases he : floatBits .sub .f64 m (floatOfInt .f64 n) with
    | none => simp only [hm, he, Option.elim] at h1; cases h1
    | some e =>
      simp only [hm, he, Option.elim, Bool.and_eq_true, beq_iff_eq, Bool.or_eq_true, bne_iff_ne] at h1
      exact ⟨m, e, rfl, he, h1.1.1, h1.1.2, fun hd => h1.2.resolve_left (fun hn => hn hd)⟩
theorem small_pairs : ∀ i : Fin 13, ∀ j : Fin 5, ((i.val : Int) - 6, (j.val : Int) + 1) ∈ PAIRS := by decide +kernel
theorem in_pairs {n d : Int} (h1 : -6 ≤ n) (h2 : n ≤ 6) (h3 : 1 ≤ d) (h4 : d ≤ 5) : (n, d) ∈ PAIRS := by
  have h := small_pairs ⟨(n + 6).toNat, by omega⟩ ⟨(d - 1).toNat, by omega⟩
  have e1 : (((n + 6).toNat : Nat) : Int) - 6 = n := by omega
  have e2 : (((d - 1).toNat : Nat) : Int) + 1 = d := by omega
  simp only [e1, e2] at h
  exact h
/-- What a draw gives is no fraction, or one of a few. -/
def Few (x y z : Int) : Prop := valid ⟨x, y, z⟩ = true → (x, z) ∈ PAIRS ∧ (y, z) ∈ PAIRS
theorem tdiv_small {x g X : Int} (h1 : -X ≤ x) (h2 : x ≤ X) : -X ≤ x.tdiv g ∧ x.tdiv g ≤ X := by
  have h : (x.tdiv g).natAbs ≤ x.natAbs := by rw [Int.natAbs_tdiv]; exact Nat.div_le_self _ _
  omega
theorem few_low {a b c x y z : Int} {o : Bool} (h : low a b c = (⟨x, y, z⟩, o)) (a1 : -6 ≤ a) (a2 : a ≤ 6) (b1 : -6 ≤ b) (b2 : b ≤ 6) (c1 : 1 ≤ c) (c2 : c ≤ 5) : Few x y z := by
  intro v
  rcases low_cases a b c with ⟨e, _⟩ | ⟨e, _⟩
  · rw [e] at h
    simp only [Prod.mk.injEq] at h
    have hr := h.1
    unfold red at hr
    simp only [Fr.mk.injEq] at hr
    obtain ⟨rfl, rfl, rfl⟩ := hr
    have hz := (red_den_pos (re := a) (im := b) c1)
    unfold red at hz
    simp only at hz
    have t1 := tdiv_small (g := ((gcd3 a b c : Nat) : Int)) a1 a2
    have t2 := tdiv_small (g := ((gcd3 a b c : Nat) : Int)) b1 b2
    have t3 := tdiv_small (g := ((gcd3 a b c : Nat) : Int)) (show -5 ≤ c by omega) c2
    exact ⟨in_pairs t1.1 t1.2 hz t3.2, in_pairs t2.1 t2.2 hz t3.2⟩
  · rw [e] at h
    simp only [Prod.mk.injEq] at h
    have hr := h.1
    unfold PL.nil at hr
    simp only [Fr.mk.injEq] at hr
    obtain ⟨rfl, rfl, rfl⟩ := hr
    exact absurd v (by decide)
end Go.Proofs.Ytmhdklhdnmpabaa
