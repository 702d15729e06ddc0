/-
  PLAIN LAWS ON FLOATS: complex quotients up to the bits of a NaN; the floats that the draws give. No condition beyond the hypotheses of each lemma.
-/
import Derived.Test.YtanodgboimjmoaaFp
namespace Go.Proofs.Ytanodgboimjmoaa.FL
open Ieee
open Go.Op.Complex (abs copysign isInf isFinite inf2one inf)

theorem carith_run {P : Program} (op : BinOp) (hop : op = .add ∨ op = .sub ∨ op = .mul ∨ op = .quo) (x y : Nat) (w : World) :
    ∃ r n, (Op.Complex.arith op .f64 x y).run P w = .ok r (w.drewN n) ∧ N r = P2 op (N x) (N y) := by
  obtain ⟨r, n, e, h⟩ := floatArith_run (P := P) op hop x y w
  exact ⟨r, n, by simp [Op.Complex.arith, e], h⟩
theorem cmp_run {P : Program} (op : BinOp) (hop : op = .geq ∨ op = .eql) (x y : Nat) : ∃ b : Bool, ∀ w, (Op.Complex.cmp op .f64 x y).run P w = .ok b w := by
  rcases hop with rfl | rfl <;> exact ⟨_, fun w => by simp [Op.Complex.cmp, Op.floatCmp]; rfl⟩

def rest (nn k1 k2 k3 : Bool) (m1 m2 m3 : Sem (Nat × Nat)) (ef : Nat × Nat) : Sem (Nat × Nat) :=
  if !nn then pure ef else if k1 then m1 else if k2 then m2 else if k3 then m3 else pure ef
/-- What a computation of two floats gives, up to a NaN's bits, in every world. -/
def Runs (P : Program) (m : Sem (Nat × Nat)) (q : Option Nat × Option Nat) : Prop := ∀ w, ∃ e f n, m.run P w = .ok (e, f) (w.drewN n) ∧ N e = q.1 ∧ N f = q.2
def zeroQ (I a b : Nat) : Sem (Nat × Nat) := do pure (← Op.Complex.mul I a, ← Op.Complex.mul I b)

theorem drewN_drewN' (w : World) (m n : Nat) : (w.drewN m).drewN n = w.drewN (m + n) := drewN_add w m n
theorem first_run {P : Program} (a b c d : Nat) (z1 z2 : Bool) (hz1 : ∀ w, (Op.Complex.cmp .eql .f64 c 0).run P w = .ok z1 w) (hz2 : ∀ w, (Op.Complex.cmp .eql .f64 d 0).run P w = .ok z2 w) : ∃ q : Option Nat × Option Nat, ∀ w, ∃ e f n, (Op.Complex.quotient a b c d).run P w = (rest (Op.Complex.isNaN e && Op.Complex.isNaN f) ((z1 && z2) && (!Op.Complex.isNaN a || !Op.Complex.isNaN b)) ((isInf a || isInf b) && isFinite c && isFinite d) ((isInf c || isInf d) && isFinite a && isFinite b) (zeroQ (copysign inf c) a b) (Op.Complex.corrected inf (inf2one a) (inf2one b) c d) (Op.Complex.corrected 0 a b (inf2one c) (inf2one d)) (e, f)).run P (w.drewN n) ∧ N e = q.1 ∧ N f = q.2 := by
  obtain ⟨g, hb⟩ := cmp_run (P := P) .geq (by simp) (abs c) (abs d)
  cases g
  · refine ⟨((P2 .quo (P2 .add (P2 .mul (N a) (P2 .quo (N c) (N d))) (N b)) (P2 .add (N d) (P2 .mul (P2 .quo (N c) (N d)) (N c)))), (P2 .quo (P2 .sub (P2 .mul (N b) (P2 .quo (N c) (N d))) (N a)) (P2 .add (N d) (P2 .mul (P2 .quo (N c) (N d)) (N c))))), fun w => ?_⟩
    obtain ⟨r, n0, e0, hr⟩ := carith_run (P := P) .quo (by simp) c d w
    obtain ⟨m, n1, e1, hm⟩ := carith_run (P := P) .mul (by simp) r c (w.drewN (n0))
    obtain ⟨k, n2, e2, hk⟩ := carith_run (P := P) .add (by simp) d m (w.drewN (n0 + n1))
    obtain ⟨p, n3, e3, hp⟩ := carith_run (P := P) .mul (by simp) a r (w.drewN (n0 + n1 + n2))
    obtain ⟨q, n4, e4, hq⟩ := carith_run (P := P) .add (by simp) p b (w.drewN (n0 + n1 + n2 + n3))
    obtain ⟨e, n5, e5, he⟩ := carith_run (P := P) .quo (by simp) q k (w.drewN (n0 + n1 + n2 + n3 + n4))
    obtain ⟨s, n6, e6, hs⟩ := carith_run (P := P) .mul (by simp) b r (w.drewN (n0 + n1 + n2 + n3 + n4 + n5))
    obtain ⟨u, n7, e7, hu⟩ := carith_run (P := P) .sub (by simp) s a (w.drewN (n0 + n1 + n2 + n3 + n4 + n5 + n6))
    obtain ⟨f, n8, e8, hf⟩ := carith_run (P := P) .quo (by simp) u k (w.drewN (n0 + n1 + n2 + n3 + n4 + n5 + n6 + n7))
    refine ⟨e, f, n0 + n1 + n2 + n3 + n4 + n5 + n6 + n7 + n8, ?_, by simp only [he, hq, hp, hk, hm, hr], by simp only [hf, hu, hs, hk, hm, hr]⟩
    simp only [Op.Complex.quotient, Op.Complex.quo, Op.Complex.add, Op.Complex.mul, Op.Complex.sub, Sem.run_bind, hb, hz1, hz2, Result.andThen_ok, Bool.false_eq_true, if_false, e0, e1, e2, e3, e4, e5, e6, e7, e8, drewN_add, Sem.run_pure]
    rfl
  · refine ⟨((P2 .quo (P2 .add (N a) (P2 .mul (N b) (P2 .quo (N d) (N c)))) (P2 .add (N c) (P2 .mul (P2 .quo (N d) (N c)) (N d)))), (P2 .quo (P2 .sub (N b) (P2 .mul (N a) (P2 .quo (N d) (N c)))) (P2 .add (N c) (P2 .mul (P2 .quo (N d) (N c)) (N d))))), fun w => ?_⟩
    obtain ⟨r, n0, e0, hr⟩ := carith_run (P := P) .quo (by simp) d c w
    obtain ⟨m, n1, e1, hm⟩ := carith_run (P := P) .mul (by simp) r d (w.drewN (n0))
    obtain ⟨k, n2, e2, hk⟩ := carith_run (P := P) .add (by simp) c m (w.drewN (n0 + n1))
    obtain ⟨p, n3, e3, hp⟩ := carith_run (P := P) .mul (by simp) b r (w.drewN (n0 + n1 + n2))
    obtain ⟨q, n4, e4, hq⟩ := carith_run (P := P) .add (by simp) a p (w.drewN (n0 + n1 + n2 + n3))
    obtain ⟨e, n5, e5, he⟩ := carith_run (P := P) .quo (by simp) q k (w.drewN (n0 + n1 + n2 + n3 + n4))
    obtain ⟨s, n6, e6, hs⟩ := carith_run (P := P) .mul (by simp) a r (w.drewN (n0 + n1 + n2 + n3 + n4 + n5))
    obtain ⟨u, n7, e7, hu⟩ := carith_run (P := P) .sub (by simp) b s (w.drewN (n0 + n1 + n2 + n3 + n4 + n5 + n6))
    obtain ⟨f, n8, e8, hf⟩ := carith_run (P := P) .quo (by simp) u k (w.drewN (n0 + n1 + n2 + n3 + n4 + n5 + n6 + n7))
    refine ⟨e, f, n0 + n1 + n2 + n3 + n4 + n5 + n6 + n7 + n8, ?_, by simp only [he, hq, hp, hk, hm, hr], by simp only [hf, hu, hs, hk, hm, hr]⟩
    simp only [Op.Complex.quotient, Op.Complex.quo, Op.Complex.add, Op.Complex.mul, Op.Complex.sub, Sem.run_bind, hb, hz1, hz2, Result.andThen_ok, if_true, e0, e1, e2, e3, e4, e5, e6, e7, e8, drewN_add, Sem.run_pure]
    rfl

theorem corrected_run {P : Program} (z a b c d : Nat) : ∃ q : Option Nat × Option Nat, ∀ w, ∃ e f n, (Op.Complex.corrected z a b c d).run P w = .ok (e, f) (w.drewN n) ∧ N e = q.1 ∧ N f = q.2 := by
  refine ⟨((P2 .mul (N z) (P2 .add (P2 .mul (N a) (N c)) (P2 .mul (N b) (N d)))), (P2 .mul (N z) (P2 .sub (P2 .mul (N b) (N c)) (P2 .mul (N a) (N d))))), fun w => ?_⟩
  obtain ⟨r, n0, e0, hr⟩ := carith_run (P := P) .mul (by simp) a c w
  obtain ⟨m, n1, e1, hm⟩ := carith_run (P := P) .mul (by simp) b d (w.drewN (n0))
  obtain ⟨k, n2, e2, hk⟩ := carith_run (P := P) .add (by simp) r m (w.drewN (n0 + n1))
  obtain ⟨e, n3, e3, he⟩ := carith_run (P := P) .mul (by simp) z k (w.drewN (n0 + n1 + n2))
  obtain ⟨p, n4, e4, hp⟩ := carith_run (P := P) .mul (by simp) b c (w.drewN (n0 + n1 + n2 + n3))
  obtain ⟨q, n5, e5, hq⟩ := carith_run (P := P) .mul (by simp) a d (w.drewN (n0 + n1 + n2 + n3 + n4))
  obtain ⟨u, n6, e6, hu⟩ := carith_run (P := P) .sub (by simp) p q (w.drewN (n0 + n1 + n2 + n3 + n4 + n5))
  obtain ⟨f, n7, e7, hf⟩ := carith_run (P := P) .mul (by simp) z u (w.drewN (n0 + n1 + n2 + n3 + n4 + n5 + n6))
  exact ⟨e, f, n0 + n1 + n2 + n3 + n4 + n5 + n6 + n7, by simp only [Op.Complex.corrected, Op.Complex.add, Op.Complex.mul, Op.Complex.sub, Sem.run_bind, Result.andThen_ok, e0, e1, e2, e3, e4, e5, e6, e7, drewN_add]; rfl, by simp only [he, hk, hm, hr], by simp only [hf, hu, hq, hp]⟩

theorem isNaN_N (x : Nat) : Op.Complex.isNaN x = (N x).isNone := by
  have : Op.Complex.isNaN x = isNan x := rfl
  rw [this]; unfold N; cases isNan x <;> rfl
theorem zeroQ_run {P : Program} (I a b : Nat) : ∃ q, Runs P (zeroQ I a b) q := by
  refine ⟨(P2 .mul (N I) (N a), P2 .mul (N I) (N b)), fun w => ?_⟩
  unfold zeroQ
  obtain ⟨r, m, e1, k1⟩ := carith_run (P := P) .mul (by simp) I a w
  obtain ⟨s, n, e2, k2⟩ := carith_run (P := P) .mul (by simp) I b (w.drewN m)
  refine ⟨r, s, m + n, ?_, k1, k2⟩
  simp only [Sem.run_bind, Result.andThen_ok, Op.Complex.mul, e1, e2, drewN_add]
  rfl
theorem rest_run {P : Program} (k1 k2 k3 : Bool) (m1 m2 m3 : Sem (Nat × Nat)) (h1 : ∃ q, Runs P m1 q) (h2 : ∃ q, Runs P m2 q) (h3 : ∃ q, Runs P m3 q) (p : Option Nat × Option Nat) :
    ∃ q, ∀ e f, N e = p.1 → N f = p.2 → Runs P (rest (Op.Complex.isNaN e && Op.Complex.isNaN f) k1 k2 k3 m1 m2 m3 (e, f)) q := by
  obtain ⟨q1, h1⟩ := h1
  obtain ⟨q2, h2⟩ := h2
  obtain ⟨q3, h3⟩ := h3
  cases hn : (p.1.isNone && p.2.isNone)
  · refine ⟨p, fun e f he hf w => ⟨e, f, 0, ?_, he, hf⟩⟩
    rw [isNaN_N, isNaN_N, he, hf, hn]
    rfl
  · cases k1
    · cases k2
      · cases k3
        · refine ⟨p, fun e f he hf w => ⟨e, f, 0, ?_, he, hf⟩⟩
          rw [isNaN_N, isNaN_N, he, hf, hn]
          rfl
        · refine ⟨q3, fun e f he hf => ?_⟩
          rw [isNaN_N, isNaN_N, he, hf, hn]
          exact h3
      · refine ⟨q2, fun e f he hf => ?_⟩
        rw [isNaN_N, isNaN_N, he, hf, hn]
        exact h2
    · refine ⟨q1, fun e f he hf => ?_⟩
      rw [isNaN_N, isNaN_N, he, hf, hn]
      exact h1
theorem quotient_run {P : Program} (a b c d : Nat) : ∃ q, Runs P (Op.Complex.quotient a b c d) q := by
  obtain ⟨z1, hz1⟩ := cmp_run (P := P) .eql (by simp) c 0
  obtain ⟨z2, hz2⟩ := cmp_run (P := P) .eql (by simp) d 0
  obtain ⟨p, hp⟩ := first_run (P := P) a b c d z1 z2 hz1 hz2
  obtain ⟨q, hq⟩ := rest_run (P := P) ((z1 && z2) && (!Op.Complex.isNaN a || !Op.Complex.isNaN b)) ((isInf a || isInf b) && isFinite c && isFinite d) ((isInf c || isInf d) && isFinite a && isFinite b) _ _ _ (zeroQ_run (copysign inf c) a b) (corrected_run inf (inf2one a) (inf2one b) c d) (corrected_run 0 a b (inf2one c) (inf2one d)) p
  refine ⟨q, fun w => ?_⟩
  obtain ⟨e, f, m, e1, h1, h2⟩ := hp w
  obtain ⟨e', f', n, e2, h3, h4⟩ := hq e f h1 h2 (w.drewN m)
  refine ⟨e', f', m + n, ?_, h3, h4⟩
  rw [e1, e2, drewN_add]
theorem over_run {P : Program} (t : TypeId) (a b c d : Nat) : ∃ q : Option Nat × Option Nat, ∀ w, ∃ e f n, (binOp .quo t (.complex .f64 a b) (.complex .f64 c d)).run P w = .ok (.complex .f64 e f) (w.drewN n) ∧ N e = q.1 ∧ N f = q.2 := by
  obtain ⟨q, hq⟩ := quotient_run (P := P) a b c d
  refine ⟨q, fun w => ?_⟩
  obtain ⟨e, f, n, e1, h1, h2⟩ := hq w
  refine ⟨e, f, n, ?_, h1, h2⟩
  simp [binOp, Op.complexOp, Op.Complex.conv, e1]

end Go.Proofs.Ytanodgboimjmoaa.FL
