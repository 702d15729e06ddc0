/-
  PLAIN LAWS ON FLOATS UP TO THE BITS OF A NaN: what an operation gives, be it valid or not. No condition beyond the hypotheses of each lemma.
-/
import Derived.Test.YtmhdklhdnmpabaaFl
import Derived.WalkKit
import Derived.Deep.Draws
import Derived.Below
namespace Go.Proofs.Ytmhdklhdnmpabaa.FL
open Ieee

def isNan (x : Nat) : Bool := (double.read x).isNaN
/-- A wide float up to a NaN's bits. -/
def N (x : Nat) : Option Nat := if isNan x then none else some x

theorem nan_cut (t : Nat) : isNan ((t % 2) * 2 ^ 63 + 0x7ff0000000000000 + 1 + (t / 2) % (2 ^ 52 - 1)) = true := by
  have h1 : t % 2 < 2 := Nat.mod_lt _ (by decide)
  have h2 : (t / 2) % (2 ^ 52 - 1) < 2 ^ 52 - 1 := Nat.mod_lt _ (by decide)
  generalize t % 2 = a at *
  generalize (t / 2) % (2 ^ 52 - 1) = b at *
  have hs : double.signWeight = 2 ^ 63 := rfl
  have hb : double.binade = 2 ^ 52 := rfl
  have hi : double.infRung = 2047 * 2 ^ 52 := rfl
  have e : (a * 2 ^ 63 + 0x7ff0000000000000 + 1 + b) % double.signWeight = 0x7ff0000000000000 + 1 + b := by rw [hs]; omega
  unfold isNan Format.read
  simp only
  rw [e, hb, hi, if_neg (by omega), if_neg (by omega), if_neg (by omega)]
  rfl

theorem word_notnan (f : Format) (neg : Bool) {rung : Nat} (h : rung ≤ f.infRung) : (f.read (f.word neg rung)).isNaN = false := by
  have hs := f.infRung_lt
  have h2 : f.word neg rung % f.signWeight = rung := by
    unfold Format.word
    have hlt : rung < f.signWeight := by omega
    cases neg
    · simp [Nat.mod_eq_of_lt hlt]
    · simp [Nat.mod_eq_of_lt hlt]
  unfold Format.read
  simp only [h2]
  split
  · rfl
  · split
    · rfl
    · rw [if_pos (by omega)]; rfl
theorem nearest_notnan (f : Format) (s : Bool) (m : Nat) (p : Int) : (f.read (f.nearest s m p)).isNaN = false := by
  unfold Format.nearest
  split
  · exact word_notnan f s (Nat.zero_le _)
  · exact word_notnan f s (Nat.min_le_right _ _)
theorem write_notnan (f : Format) {d : Datum} (h : d.isNaN = false) : (f.read (f.write d)).isNaN = false := by
  cases d with
  | number s m p => exact nearest_notnan f s m p
  | infinity s => exact word_notnan f s (Nat.le_refl _)
  | nan s t => cases h
theorem sum_notnan {a b d : Datum} (h : a.sum b = some d) : d.isNaN = false := by
  cases a <;> cases b <;> simp only [Datum.sum] at h <;> (try split at h) <;> first | (cases h; done) | (cases h; rfl)
theorem product_notnan {a b d : Datum} (h : a.product b = some d) : d.isNaN = false := by
  cases a <;> cases b <;> simp only [Datum.product] at h <;> (try split at h) <;> first | (cases h; done) | (cases h; rfl)
theorem quotient_notnan {n : Nat} {a b d : Datum} (h : a.quotient n b = some d) : d.isNaN = false := by
  cases a <;> cases b <;> simp only [Datum.quotient] at h <;> (try split at h) <;> (try split at h) <;> first | (cases h; done) | (cases h; rfl)
theorem bits_notnan {op : BinOp} {x y r : Nat} (h : floatBits op .f64 x y = some r) : isNan r = false := by
  unfold floatBits at h
  split at h
  · obtain ⟨d, h1, rfl⟩ := Option.map_eq_some_iff.1 h; exact write_notnan _ (sum_notnan h1)
  · obtain ⟨d, h1, rfl⟩ := Option.map_eq_some_iff.1 h; exact write_notnan _ (sum_notnan h1)
  · obtain ⟨d, h1, rfl⟩ := Option.map_eq_some_iff.1 h; exact write_notnan _ (product_notnan h1)
  · obtain ⟨d, h1, rfl⟩ := Option.map_eq_some_iff.1 h; exact write_notnan _ (quotient_notnan h1)
  · cases h
theorem N_bits {op : BinOp} {x y r : Nat} (h : floatBits op .f64 x y = some r) : N r = some r := by unfold N; rw [bits_notnan h]; rfl
theorem isNan_read {x : Nat} (h : isNan x = true) : ∃ s t, double.read x = .nan s t := by
  unfold isNan at h
  cases e : double.read x with
  | number s m p => rw [e] at h; cases h
  | infinity s => rw [e] at h; cases h
  | nan s t => exact ⟨s, t, rfl⟩
theorem opposite_nan {d : Datum} : d.opposite.isNaN = d.isNaN := by cases d <;> rfl
theorem bits_left {op : BinOp} {x y : Nat} (h : isNan x = true) : floatBits op .f64 x y = none := by
  obtain ⟨s, t, e⟩ := isNan_read h
  unfold floatBits
  split
  · show (Datum.sum (double.read x) (double.read y)).map _ = none; rw [e]; rfl
  · show (Datum.sum (double.read x) (double.read y).opposite).map _ = none; rw [e]; rfl
  · show (Datum.product (double.read x) (double.read y)).map _ = none; rw [e]; rfl
  · show (Datum.quotient _ (double.read x) (double.read y)).map _ = none; rw [e]; rfl
  · rfl
theorem bits_right {op : BinOp} {x y : Nat} (h : isNan y = true) : floatBits op .f64 x y = none := by
  obtain ⟨s, t, e⟩ := isNan_read h
  unfold floatBits
  split
  · show (Datum.sum (double.read x) (double.read y)).map _ = none; rw [e]; cases double.read x <;> rfl
  · show (Datum.sum (double.read x) (double.read y).opposite).map _ = none; rw [e]; cases double.read x <;> rfl
  · show (Datum.product (double.read x) (double.read y)).map _ = none; rw [e]; cases double.read x <;> rfl
  · show (Datum.quotient _ (double.read x) (double.read y)).map _ = none; rw [e]; cases double.read x <;> rfl
  · rfl
/-- An operation on what its operands are up to a NaN's bits. -/
def P2 (op : BinOp) (x y : Option Nat) : Option Nat := x.bind fun a => y.bind fun b => floatBits op .f64 a b
theorem P2_N (op : BinOp) (x y : Nat) : P2 op (N x) (N y) = floatBits op .f64 x y := by
  unfold N
  cases hx : isNan x
  · cases hy : isNan y
    · rfl
    · rw [bits_right hy]; rfl
  · rw [bits_left hx]; cases hy : isNan y <;> rfl

/-- What an operation gives, valid or not, in any world. -/
theorem arith_run {P : Program} (op : BinOp) (hop : op = .add ∨ op = .sub ∨ op = .mul ∨ op = .quo) (t : TypeId) (x y : Nat) (w : World) :
    ∃ r n, (binOp op t (.float .f64 x) (.float .f64 y)).run P w = .ok (.float .f64 r) (w.drewN n) ∧ N r = P2 op (N x) (N y) := by
  rw [P2_N]
  cases h : floatBits op .f64 x y with
  | some r => exact ⟨r, 0, run_float_arith w op t .f64 x y r h, N_bits h⟩
  | none =>
    refine ⟨_, 1, ?_, by unfold N; rw [if_pos (nan_cut (w.tape w.drawn (Question.nanBits .f64 x y)))]⟩
    unfold floatBits at h
    rcases hop with rfl | rfl | rfl | rfl <;> simp only at h <;> simp [binOp, Op.floatArith, h, Question.forced, Question.cut] <;> rfl

theorem N_some {x y : Nat} (h : N x = some y) : x = y ∧ isNan x = false := by
  unfold N at h
  cases hx : isNan x
  · rw [hx] at h; cases h; exact ⟨rfl, rfl⟩
  · rw [hx] at h; cases h
theorem N_none {x : Nat} (h : N x = none) : isNan x = true := by
  unfold N at h
  cases hx : isNan x
  · rw [hx] at h; cases h
  · rfl
theorem N_eq {x y : Nat} (h : N x = N y) : (x = y ∧ isNan x = false) ∨ (isNan x = true ∧ isNan y = true) := by
  cases hy : isNan y
  · have : N y = some y := by unfold N; rw [hy]; rfl
    rw [this] at h
    exact .inl (N_some h)
  · have : N y = none := by unfold N; rw [hy]; rfl
    rw [this] at h
    exact .inr ⟨N_none h, rfl⟩

theorem order_refl {x : Nat} (h : isNan x = false) : double.order x x = some .eq := by
  unfold isNan at h
  unfold Format.order
  cases e : double.read x with
  | number s m p => simp [Datum.order]
  | infinity s => simp [Datum.order]
  | nan s t => rw [e] at h; cases h
theorem order_left {x y : Nat} (h : isNan x = true) : double.order x y = none := by
  obtain ⟨s, t, e⟩ := isNan_read h
  unfold Format.order; rw [e]; rfl
theorem order_right {x y : Nat} (h : isNan y = true) : double.order x y = none := by
  obtain ⟨s, t, e⟩ := isNan_read h
  unfold Format.order; rw [e]; cases double.read x <;> rfl
theorem quo_one_any {x : Nat} (h : isNan x = false) : ∃ r, floatBits .quo .f64 4607182418800017408 x = some r ∧ isNan r = false := by
  have e : double.read 4607182418800017408 = .number false (2 ^ 52) (-52) := by decide
  have : ∃ r, floatBits .quo .f64 4607182418800017408 x = some r := by
    show ∃ r, double.div _ _ = some r
    unfold Format.div
    rw [e]
    unfold isNan at h
    cases ex : double.read x with
    | number s m p =>
      unfold Datum.quotient
      simp only
      by_cases hm : m = 0
      · rw [if_pos hm, if_neg (by decide)]; exact ⟨_, rfl⟩
      · rw [if_neg hm]; exact ⟨_, rfl⟩
    | infinity s => exact ⟨_, rfl⟩
    | nan s t => rw [ex] at h; cases h
  obtain ⟨r, hr⟩ := this
  exact ⟨r, hr, bits_notnan hr⟩

/-! ### signs -/
def neg (x : Nat) : Nat := x ^^^ 2 ^ 63
theorem neg_neg (x : Nat) : neg (neg x) = x := by unfold neg; rw [Nat.xor_assoc, Nat.xor_self, Nat.xor_zero]
theorem read_neg (x : Nat) : double.read (neg x) = (double.read x).opposite := by
  have hs : double.signWeight = 2 ^ 63 := rfl
  have h1 : neg x % 2 ^ 63 = x % 2 ^ 63 := by
    unfold neg
    rw [Nat.xor_mod_two_pow, Nat.mod_self, Nat.xor_zero]
  have h2 : (neg x / 2 ^ 63 % 2 == 1) = !(x / 2 ^ 63 % 2 == 1) := by
    have e : neg x / 2 ^ 63 = x / 2 ^ 63 ^^^ 1 := by
      unfold neg
      rw [Nat.xor_div_two_pow]
    have e2 : (x / 2 ^ 63 ^^^ 1) % 2 = (x / 2 ^ 63 % 2) ^^^ 1 := by
      have := Nat.xor_mod_two_pow (a := x / 2 ^ 63) (b := 1) (n := 1)
      simpa using this
    rw [e, e2]
    have : x / 2 ^ 63 % 2 < 2 := Nat.mod_lt _ (by decide)
    generalize x / 2 ^ 63 % 2 = k at *
    match k, this with
    | 0, _ => rfl
    | 1, _ => rfl
  unfold Format.read
  simp only
  rw [hs, h1, h2]
  split
  · rfl
  · split
    · rfl
    · split <;> rfl
theorem isNan_neg (x : Nat) : isNan (neg x) = isNan x := by unfold isNan; rw [read_neg, opposite_nan]
theorem N_neg (x : Nat) : N (neg x) = (N x).map neg := by
  unfold N; rw [isNan_neg]; cases isNan x <;> rfl
theorem word_neg (s : Bool) {rung : Nat} (h : rung ≤ double.infRung) : double.word (!s) rung = neg (double.word s rung) := by
  have hw : double.signWeight = 2 ^ 63 := rfl
  have hi : double.infRung = 2047 * 2 ^ 52 := rfl
  have hlt : rung < 2 ^ 63 := by omega
  have e : 2 ^ 63 + rung = rung ^^^ 2 ^ 63 := by
    have h := Nat.two_pow_add_eq_or_of_lt hlt 1
    rw [Nat.mul_one] at h
    rw [h]
    apply Nat.eq_of_testBit_eq
    intro i
    rw [Nat.testBit_or, Nat.testBit_xor]
    by_cases hi : i = 63
    · subst hi
      rw [Nat.testBit_lt_two_pow hlt]; simp
    · rw [Nat.testBit_two_pow_of_ne (Ne.symm hi)]; simp
  unfold Format.word neg
  cases s
  · simp only [Bool.not_false, if_true, Bool.false_eq_true, if_false, hw]; exact e
  · simp only [Bool.not_true, if_true, Bool.false_eq_true, if_false, hw]
    rw [e, Nat.xor_assoc, Nat.xor_self, Nat.xor_zero]
theorem nearest_neg (s : Bool) (m : Nat) (p : Int) : double.nearest (!s) m p = neg (double.nearest s m p) := by
  unfold Format.nearest
  split
  · exact word_neg s (Nat.zero_le _)
  · exact word_neg s (Nat.min_le_right _ _)
theorem write_neg {d : Datum} (h : d.isNaN = false) : double.write d.opposite = neg (double.write d) := by
  cases d with
  | number s m p => exact nearest_neg s m p
  | infinity s => exact word_neg s (Nat.le_refl _)
  | nan s t => cases h
theorem product_left (a b : Datum) : a.opposite.product b = (a.product b).map Datum.opposite := by
  cases a <;> cases b <;> simp only [Datum.product, Datum.opposite] <;> (try split) <;> simp [Datum.opposite]
theorem product_comm (a b : Datum) : a.product b = b.product a := by
  cases a <;> cases b <;> simp only [Datum.product] <;> (try split) <;> simp [Bool.xor_comm, Nat.mul_comm, Int.add_comm]
theorem sum_comm (a b : Datum) : a.sum b = b.sum a := by
  cases a with
  | number s m i => cases b with
    | number t n j => simp only [Datum.sum]; rw [Int.min_comm i j, Int.add_comm (signed s m _), Bool.and_comm]
    | infinity t => rfl
    | nan t u => rfl
  | infinity s => cases b with
    | number t n j => rfl
    | infinity t => simp only [Datum.sum]; cases s <;> cases t <;> rfl
    | nan t u => rfl
  | nan s t => cases b <;> rfl
theorem mul_neg (x y : Nat) : double.mul (neg x) y = (double.mul x y).map neg := by
  unfold Format.mul
  rw [read_neg, product_left]
  cases h : (double.read x).product (double.read y) with
  | none => rfl
  | some d => simp only [Option.map_some]; rw [write_neg (product_notnan h)]
theorem mul_comm (x y : Nat) : double.mul x y = double.mul y x := by unfold Format.mul; rw [product_comm]
theorem add_comm (x y : Nat) : double.add x y = double.add y x := by unfold Format.add; rw [sum_comm]
theorem P2_mul_comm (x y : Option Nat) : P2 .mul x y = P2 .mul y x := by
  cases x <;> cases y <;> first | rfl | exact mul_comm _ _
theorem P2_add_comm (x y : Option Nat) : P2 .add x y = P2 .add y x := by
  cases x <;> cases y <;> first | rfl | exact add_comm _ _
theorem P2_mul_neg (x y : Option Nat) : P2 .mul (x.map neg) y = (P2 .mul x y).map neg := by
  cases x <;> cases y <;> first | rfl | exact mul_neg _ _
theorem P2_mul_neg2 (x y : Option Nat) : P2 .mul (x.map neg) (y.map neg) = P2 .mul x y := by
  rw [P2_mul_neg, P2_mul_comm, P2_mul_neg, P2_mul_comm]
  cases P2 .mul x y with
  | none => rfl
  | some r => simp [neg_neg]
/-- Subtracting is adding the opposite. -/
theorem sub_add (x y : Nat) : double.sub x y = double.add x (neg y) := by unfold Format.sub Format.add; rw [read_neg]

/-- Two floats that compare as equal, or are both no number. -/
def Loose (x y : Option Nat) : Prop := (x = none ∧ y = none) ∨ ∃ a b, x = some a ∧ y = some b ∧ double.order a b = some .eq
theorem signed_not (s : Bool) (m k : Nat) : signed (!s) m k = -signed s m k := by
  unfold signed; cases s <;> simp
theorem read_zero (s : Bool) : double.read (double.word s 0) = .number s 0 (-1074) := by cases s <;> decide
theorem order_zero (s t : Bool) (p q : Int) : double.order (double.nearest s 0 p) (double.nearest t 0 q) = some .eq := by
  have e : ∀ s p, double.nearest s 0 p = double.word s 0 := fun s p => by unfold Format.nearest; rw [if_pos rfl]
  rw [e, e]
  unfold Format.order
  rw [read_zero, read_zero]
  cases s <;> cases t <;> decide
/-- The sum of two opposites is the opposite of the sum, up to the sign of a zero. -/
theorem add_neg (x y : Nat) (hx : isNan x = false) (hy : isNan y = false) : Loose (double.add (neg x) (neg y)) ((double.add x y).map neg) := by
  unfold isNan at hx hy
  unfold Format.add
  rw [read_neg, read_neg]
  cases ex : double.read x with
  | nan s t => rw [ex] at hx; cases hx
  | infinity s => cases ey : double.read y with
    | nan s t => rw [ey] at hy; cases hy
    | infinity t =>
      simp only [Datum.sum, Datum.opposite]
      by_cases h : s = t
      · subst h
        rw [if_pos rfl, if_pos rfl]
        refine .inr ⟨_, _, rfl, rfl, ?_⟩
        have := write_neg (d := .infinity s) rfl
        simp only [Datum.opposite] at this
        rw [this]
        exact order_refl (by rw [isNan_neg]; exact write_notnan double rfl)
      · rw [if_neg (by simpa using h), if_neg h]; exact .inl ⟨rfl, rfl⟩
    | number t n j =>
      refine .inr ⟨_, _, rfl, rfl, ?_⟩
      have := write_neg (d := .infinity s) rfl
      simp only [Datum.opposite] at this
      rw [this]
      exact order_refl (by rw [isNan_neg]; exact write_notnan double rfl)
  | number s m i => cases ey : double.read y with
    | nan s t => rw [ey] at hy; cases hy
    | infinity t =>
      refine .inr ⟨_, _, rfl, rfl, ?_⟩
      have := write_neg (d := .infinity t) rfl
      simp only [Datum.opposite] at this
      rw [this]
      exact order_refl (by rw [isNan_neg]; exact write_notnan double rfl)
    | number t n j =>
      simp only [Datum.sum, Datum.opposite, Option.map_some]
      rw [signed_not, signed_not, ← Int.neg_add]
      generalize signed s m (i - min i j).toNat + signed t n (j - min i j).toNat = T
      refine .inr ⟨_, _, rfl, rfl, ?_⟩
      by_cases h : T = 0
      · subst h
        simp only [Int.neg_zero, Int.natAbs_zero, if_true]
        rw [← write_neg rfl]
        exact order_zero _ _ _ _
      · rw [if_neg (by omega), if_neg h, ← write_neg rfl]
        have e : decide (-T < 0) = !decide (T < 0) := by
          by_cases h2 : T < 0
          · simp [h2]; omega
          · simp [h2]; omega
        rw [e, Int.natAbs_neg]
        exact order_refl (write_notnan double rfl)
theorem Loose.refl {x : Nat} : Loose (N x) (N x) := by
  cases h : N x with
  | none => exact .inl ⟨rfl, rfl⟩
  | some y => obtain ⟨rfl, hn⟩ := N_some h; exact .inr ⟨_, _, rfl, rfl, order_refl hn⟩
theorem P2_notnan {op : BinOp} {x y : Option Nat} {r : Nat} (h : P2 op x y = some r) : isNan r = false := by
  cases x with
  | none => cases h
  | some a => cases y with
    | none => cases h
    | some b => exact bits_notnan h
theorem P2_add_neg (x y : Option Nat) (hx : ∀ a, x = some a → isNan a = false) (hy : ∀ a, y = some a → isNan a = false) : Loose (P2 .add (x.map neg) (y.map neg)) ((P2 .add x y).map neg) := by
  cases x with
  | none => exact .inl ⟨rfl, rfl⟩
  | some a => cases y with
    | none => exact .inl ⟨rfl, rfl⟩
    | some b => exact add_neg a b (hx a rfl) (hy b rfl)

/-- A sum of two squares is not below 0. -/
theorem square_sign (x : Nat) {d : Datum} (h : (double.read x).product (double.read x) = some d) : d.neg = false := by
  cases e : double.read x with
  | number s m p => rw [e] at h; simp only [Datum.product] at h; cases h; simp [Datum.neg]
  | infinity s => rw [e] at h; simp only [Datum.product] at h; cases h; simp [Datum.neg]
  | nan s t => rw [e] at h; cases h
theorem signed_nonneg (m k : Nat) : 0 ≤ signed false m k := by
  unfold signed; simp only [Bool.false_eq_true, if_false]; exact Int.natCast_nonneg _
theorem signed_zero (k : Nat) : signed false 0 k = 0 := by unfold signed; simp
theorem word_pos_not_lt (rung : Nat) (h : rung ≤ double.infRung) : double.order (double.word false rung) 0 ≠ some .lt := by
  have e0 : double.read 0 = .number false 0 (-1074) := by decide
  unfold Format.order
  rw [e0]
  by_cases hr : rung < double.infRung
  · rw [read_word double false hr]
    simp only [Datum.order]
    intro h
    have h := Option.some.inj h
    rw [Int.compare_eq_lt] at h
    rw [signed_zero] at h
    have := signed_nonneg (if rung < double.binade then rung else double.binade + rung % double.binade) ((if rung < double.binade then double.leastPlace else double.leastPlace + ↑(rung / double.binade - 1)) - min (if rung < double.binade then double.leastPlace else double.leastPlace + ↑(rung / double.binade - 1)) (-1074)).toNat
    omega
  · have : rung = double.infRung := by omega
    subst this
    have : double.read (double.word false double.infRung) = .infinity false := by decide
    rw [this]; simp [Datum.order]
theorem nearest_pos (m : Nat) (p : Int) : double.order (double.nearest false m p) 0 ≠ some .lt := by
  unfold Format.nearest
  split
  · exact word_pos_not_lt _ (Nat.zero_le _)
  · exact word_pos_not_lt _ (Nat.min_le_right _ _)
theorem write_pos {d : Datum} (h : d.neg = false) (hn : d.isNaN = false) : double.order (double.write d) 0 ≠ some .lt := by
  cases d with
  | number s m p => simp only [Datum.neg] at h; subst h; exact nearest_pos m p
  | infinity s => simp only [Datum.neg] at h; subst h; exact word_pos_not_lt _ (Nat.le_refl _)
  | nan s t => cases hn

theorem word_pos {rung : Nat} (h : rung ≤ double.infRung) : (double.read (double.word false rung)).neg = false := by
  by_cases hr : rung < double.infRung
  · rw [read_word double false hr]; rfl
  · have : rung = double.infRung := by omega
    subst this
    have : double.read (double.word false double.infRung) = .infinity false := by decide
    rw [this]; rfl
theorem write_neg_false {d : Datum} (h : d.neg = false) (hn : d.isNaN = false) : (double.read (double.write d)).neg = false := by
  cases d with
  | number s m p =>
    simp only [Datum.neg] at h; subst h
    show (double.read (double.nearest false m p)).neg = false
    unfold Format.nearest
    split
    · exact word_pos (Nat.zero_le _)
    · exact word_pos (Nat.min_le_right _ _)
  | infinity s => simp only [Datum.neg] at h; subst h; exact word_pos (Nat.le_refl _)
  | nan s t => cases hn
theorem sum_pos {a b d : Datum} (ha : a.neg = false) (hb : b.neg = false) (h : a.sum b = some d) : d.neg = false := by
  cases a with
  | nan s t => cases b <;> cases h
  | infinity s =>
    simp only [Datum.neg] at ha; subst ha
    cases b with
    | nan s t => cases h
    | infinity t => simp only [Datum.neg] at hb; subst hb; cases h; rfl
    | number t n j => cases h; rfl
  | number s m i =>
    simp only [Datum.neg] at ha; subst ha
    cases b with
    | nan s t => cases h
    | infinity t => simp only [Datum.neg] at hb; subst hb; cases h; rfl
    | number t n j =>
      simp only [Datum.neg] at hb; subst hb
      simp only [Datum.sum] at h
      cases h
      have h1 := signed_nonneg m (i - min i j).toNat
      have h2 := signed_nonneg n (j - min i j).toNat
      simp only [Datum.neg]
      split
      · rfl
      · simp; omega
theorem squares_not_lt (x y r : Nat) (h : P2 .add (P2 .mul (N x) (N x)) (P2 .mul (N y) (N y)) = some r) : double.order r 0 ≠ some .lt := by
  rw [P2_N, P2_N] at h
  cases h1 : floatBits .mul .f64 x x with
  | none => rw [h1] at h; cases h
  | some p =>
    cases h2 : floatBits .mul .f64 y y with
    | none => rw [h1, h2] at h; cases h
    | some q =>
      rw [h1, h2] at h
      have h : floatBits .add .f64 p q = some r := h
      obtain ⟨d1, e1, rfl⟩ := Option.map_eq_some_iff.1 (show ((double.read x).product (double.read x)).map double.write = some p from h1)
      obtain ⟨d2, e2, rfl⟩ := Option.map_eq_some_iff.1 (show ((double.read y).product (double.read y)).map double.write = some q from h2)
      obtain ⟨d, e, rfl⟩ := Option.map_eq_some_iff.1 (show ((double.read (double.write d1)).sum (double.read (double.write d2))).map double.write = some r from h)
      exact write_pos (sum_pos (write_neg_false (square_sign x e1) (product_notnan e1)) (write_neg_false (square_sign y e2) (product_notnan e2)) e) (sum_notnan e)
theorem order_symm (x y : Nat) (h : double.order x y = some .eq) : double.order y x = some .eq := by
  unfold Format.order at h ⊢
  cases ex : double.read x with
  | nan s t => rw [ex] at h; cases h
  | infinity s => cases ey : double.read y with
    | nan s t => rw [ex, ey] at h; cases h
    | infinity t => rw [ex, ey] at h; cases s <;> cases t <;> first | rfl | (exact absurd h (by decide))
    | number t n j => rw [ex, ey] at h; cases s <;> cases h
  | number s m i => cases ey : double.read y with
    | nan s t => rw [ex, ey] at h; cases h
    | infinity t => rw [ex, ey] at h; cases t <;> cases h
    | number t n j =>
      rw [ex, ey] at h
      simp only [Datum.order] at h ⊢
      have h := Option.some.inj h
      rw [Int.compare_eq_eq] at h
      rw [Int.min_comm j i, h]
      simp
theorem order_notnan {x y : Nat} (h : double.order x y = some .eq) : isNan x = false ∧ isNan y = false := by
  constructor
  · cases hx : isNan x
    · rfl
    · rw [order_left hx] at h; cases h
  · cases hy : isNan y
    · rfl
    · rw [order_right hy] at h; cases h

theorem floatArith_run {P : Program} (op : BinOp) (hop : op = .add ∨ op = .sub ∨ op = .mul ∨ op = .quo) (x y : Nat) (w : World) :
    ∃ r n, (Op.floatArith op .f64 x y).run P w = .ok (.float .f64 r) (w.drewN n) ∧ N r = P2 op (N x) (N y) := by
  rw [P2_N]
  cases h : floatBits op .f64 x y with
  | some r => exact ⟨r, 0, run_floatArith w h, N_bits h⟩
  | none =>
    refine ⟨_, 1, ?_, by unfold N; rw [if_pos (nan_cut (w.tape w.drawn (Question.nanBits .f64 x y)))]⟩
    unfold floatBits at h
    rcases hop with rfl | rfl | rfl | rfl <;> simp only at h <;> simp [Op.floatArith, h, Question.forced, Question.cut] <;> rfl
theorem drewN_add (w : World) (m n : Nat) : (w.drewN m).drewN n = w.drewN (m + n) := by unfold World.drewN; simp [Nat.add_assoc]
/-- '+' and '-' on complex numbers, in any world. -/
theorem csum_run {P : Program} (op : BinOp) (hop : op = .add ∨ op = .sub) (t : TypeId) (a b c d : Nat) (w : World) :
    ∃ r s n, (binOp op t (.complex .f64 a b) (.complex .f64 c d)).run P w = .ok (.complex .f64 r s) (w.drewN n) ∧ N r = P2 op (N a) (N c) ∧ N s = P2 op (N b) (N d) := by
  obtain ⟨r, m, e1, h1⟩ := floatArith_run (P := P) op (by rcases hop with h | h <;> simp [h]) a c w
  obtain ⟨s, n, e2, h2⟩ := floatArith_run (P := P) op (by rcases hop with h | h <;> simp [h]) b d (w.drewN m)
  refine ⟨r, s, m + n, ?_, h1, h2⟩
  rw [← drewN_add]
  rcases hop with rfl | rfl <;> simp [binOp, Op.complexOp, Op.Complex.arith, e1, e2]
theorem P2_sub_neg (x : Nat) : P2 .add (N x) (N (neg x)) = P2 .sub (N x) (N x) := by
  rw [P2_N, P2_N]; exact (sub_add x x).symm
theorem bits_of_P2 {op : BinOp} {x y r : Nat} (h : N r = P2 op (N x) (N y)) (hr : isNan r = false) : floatBits op .f64 x y = some r := by
  rw [P2_N] at h; rw [← h]; unfold N; rw [hr]; rfl

end Go.Proofs.Ytmhdklhdnmpabaa.FL
