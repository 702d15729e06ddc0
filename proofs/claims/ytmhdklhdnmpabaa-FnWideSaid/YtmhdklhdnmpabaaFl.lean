/-
  PLAIN LAWS ON FLOATS: what is read back of a rounded number; whole numbers are read back exactly; quotients of whole numbers are numbers. No program in sight; conditions: the ranges that each lemma names.
-/
import Derived.Laws.ComplexArith
namespace Go.Proofs.Ytmhdklhdnmpabaa.FL
open Ieee

theorem read_word (f : Format) (neg : Bool) {rung : Nat} (h : rung < f.infRung) :
    f.read (f.word neg rung) = .number neg (if rung < f.binade then rung else f.binade + rung % f.binade) (if rung < f.binade then f.leastPlace else f.leastPlace + (rung / f.binade - 1 : Nat)) := by
  have hs := f.infRung_lt
  have hlt : rung < f.signWeight := by omega
  have h1 : (f.word neg rung / f.signWeight % 2 == 1) = neg := by
    unfold Format.word
    cases neg
    · simp [Nat.div_eq_of_lt hlt]
    · have : (f.signWeight + rung) / f.signWeight = 1 := by
        rw [Nat.add_div_left _ (by omega), Nat.div_eq_of_lt hlt]
      simp [this]
  have h2 : f.word neg rung % f.signWeight = rung := by
    unfold Format.word
    cases neg
    · simp [Nat.mod_eq_of_lt hlt]
    · simp [Nat.mod_eq_of_lt hlt]
  unfold Format.read
  simp only [h1, h2]
  by_cases hb : rung < f.binade
  · simp [hb]
  · simp [hb, h]

theorem cut0 (neg : Bool) (n : Nat) : Toward.even.cut neg n 0 = n := by
  simp [Toward.cut, Nat.mod_one]

theorem cut_le (neg : Bool) {n D B : Nat} (h : n < 2 ^ (B + D)) : Toward.even.cut neg n D ≤ 2 ^ B := by
  unfold Toward.cut
  simp only
  have hm : ∀ b : Bool, b.toNat ≤ 1 := fun b => by cases b <;> simp
  have hp : 0 < 2 ^ B := Nat.two_pow_pos _
  by_cases hD : D ≤ n.log2 + 2
  · rw [Nat.min_eq_left hD, Nat.one_shiftLeft]
    have : n / 2 ^ D < 2 ^ B := by
      rw [Nat.div_lt_iff_lt_mul (Nat.two_pow_pos _), ← Nat.pow_add]; exact h
    have := hm (2 ^ D < 2 * (n % 2 ^ D) || (2 ^ D == 2 * (n % 2 ^ D) && n / 2 ^ D % 2 == 1))
    omega
  · rw [Nat.min_eq_right (by omega), Nat.one_shiftLeft]
    have : n < 2 ^ (n.log2 + 2) := Nat.lt_of_lt_of_le Nat.lt_log2_self (Nat.pow_le_pow_right (by omega) (by omega))
    rw [Nat.div_eq_of_lt this]
    have := hm (2 ^ (n.log2 + 2) < 2 * (n % 2 ^ (n.log2 + 2)) || (2 ^ (n.log2 + 2) == 2 * (n % 2 ^ (n.log2 + 2)) && 0 % 2 == 1))
    omega

/-- What is read back of a rounded number is a number, of a known size. -/
theorem read_nearest (f : Format) (neg : Bool) (mag : Nat) (P : Int) (L : Nat) (hL : (max (P + mag.log2 - f.fractionBits) f.leastPlace - f.leastPlace).toNat ≤ L) (hb : L + 2 < 2 ^ f.exponentBits - 1) :
    ∃ (m : Nat) (p : Int), f.read (f.nearest neg mag P) = .number neg m p ∧ m < 2 ^ (f.fractionBits + 1) ∧ f.leastPlace ≤ p ∧ p ≤ f.leastPlace + (L + 1 : Nat) ∧ (mag = 0 → m = 0) := by
  have hbin : f.binade = 2 ^ f.fractionBits := rfl
  have hpos : 0 < 2 ^ f.fractionBits := Nat.two_pow_pos _
  have hinf : f.infRung = (2 ^ f.exponentBits - 1) * 2 ^ f.fractionBits := rfl
  have hsucc : 2 ^ (f.fractionBits + 1) = 2 * 2 ^ f.fractionBits := by rw [Nat.pow_succ, Nat.mul_comm]
  by_cases h0 : mag = 0
  · have : f.nearest neg mag P = f.word neg 0 := by unfold Format.nearest; rw [if_pos h0]
    have hz : 0 < f.infRung := by rw [hinf]; exact Nat.mul_pos (by omega) hpos
    rw [this, read_word f neg hz]
    simp only [hbin, hpos, if_true]
    exact ⟨0, f.leastPlace, rfl, by omega, Int.le_refl _, by omega, fun _ => rfl⟩
  · unfold Format.nearest
    rw [if_neg h0]
    simp only
    generalize hlast : max (P + (mag.log2 : Int) - (f.fractionBits : Int)) f.leastPlace = last at *
    have hlast1 : P + (mag.log2 : Int) - (f.fractionBits : Int) ≤ last := by rw [← hlast]; exact Int.le_max_left ..
    have hlast2 : f.leastPlace ≤ last := by rw [← hlast]; exact Int.le_max_right ..
    have hk : Toward.even.cut neg (mag <<< (P - last).toNat) (last - P).toNat ≤ 2 ^ (f.fractionBits + 1) := by
      apply cut_le
      have hm : mag < 2 ^ (mag.log2 + 1) := Nat.lt_log2_self
      by_cases hc : P ≤ last
      · have e1 : (P - last).toNat = 0 := by omega
        rw [e1, Nat.shiftLeft_zero]
        exact Nat.lt_of_lt_of_le hm (Nat.pow_le_pow_right (by omega) (by omega))
      · have e1 : (last - P).toNat = 0 := by omega
        rw [e1, Nat.add_zero, Nat.shiftLeft_eq]
        calc mag * 2 ^ (P - last).toNat < 2 ^ (mag.log2 + 1) * 2 ^ (P - last).toNat := Nat.mul_lt_mul_of_pos_right hm (Nat.two_pow_pos _)
          _ = 2 ^ (mag.log2 + 1 + (P - last).toNat) := (Nat.pow_add ..).symm
          _ ≤ 2 ^ (f.fractionBits + 1) := Nat.pow_le_pow_right (by omega) (by omega)
    generalize Toward.even.cut neg (mag <<< (P - last).toNat) (last - P).toNat = K at *
    have hmul : (last - f.leastPlace).toNat * 2 ^ f.fractionBits ≤ L * 2 ^ f.fractionBits := Nat.mul_le_mul_right _ hL
    have hr : (last - f.leastPlace).toNat * f.binade + K ≤ (L + 2) * 2 ^ f.fractionBits := by rw [hbin, Nat.add_mul]; omega
    generalize (last - f.leastPlace).toNat * f.binade + K = R at *
    have hri : R < f.infRung := by
      rw [hinf]; exact Nat.lt_of_le_of_lt hr (Nat.mul_lt_mul_of_pos_right hb hpos)
    rw [Nat.min_eq_left (Nat.le_of_lt hri), read_word f neg hri]
    by_cases hc : R < f.binade
    · simp only [hc, if_true]
      exact ⟨R, f.leastPlace, rfl, by omega, Int.le_refl _, by omega, fun h => absurd h h0⟩
    · simp only [hc, if_false]
      have hd : R / f.binade ≤ L + 2 := by
        rw [hbin]; exact Nat.div_le_of_le_mul (by rw [Nat.mul_comm]; exact hr)
      have hmod : R % f.binade < 2 ^ f.fractionBits := Nat.mod_lt _ (by rw [hbin]; exact hpos)
      exact ⟨f.binade + R % f.binade, _, rfl, by omega, by omega, by omega, fun h => absurd h h0⟩

theorem read_norm (f : Format) (neg : Bool) {E K : Nat} (hK1 : f.binade ≤ K) (hK2 : K < 2 * f.binade) (h : E * f.binade + K < f.infRung) :
    f.read (f.word neg (E * f.binade + K)) = .number neg K (f.leastPlace + E) := by
  rw [read_word f neg h]
  generalize f.binade = B at *
  have hB : 0 < B := by omega
  have e0 : ¬ E * B + K < B := by omega
  have e1 : (E * B + K) % B = K - B := by
    rw [Nat.mul_comm, Nat.mul_add_mod, Nat.mod_eq_sub_mod hK1, Nat.mod_eq_of_lt (by omega)]
  have e2 : (E * B + K) / B = E + 1 := by
    rw [Nat.mul_comm, Nat.mul_add_div hB, Nat.div_eq_of_lt_le (k := 1) (by omega) (by omega)]
  rw [if_neg e0, if_neg e0, e1, e2]
  congr 1
  omega

/-- A whole number below 2^53 is read back exactly. -/
theorem read_int (neg : Bool) (n : Nat) (h0 : n ≠ 0) (h : n < 2 ^ 53) :
    double.read (double.nearest neg n 0) = .number neg (n * 2 ^ (52 - n.log2)) ((n.log2 : Int) - 52) := by
  have hk : n.log2 ≤ 52 := by have := (Nat.log2_lt h0).2 h; omega
  have h1 : 2 ^ n.log2 ≤ n := Nat.log2_self_le h0
  have h2 : n < 2 ^ (n.log2 + 1) := Nat.lt_log2_self
  have hlast : max (0 + (n.log2 : Int) - (double.fractionBits : Int)) double.leastPlace = (n.log2 : Int) - 52 := by
    show max (0 + (n.log2 : Int) - 52) (-1074) = _
    omega
  have hK1 : 2 ^ 52 ≤ n * 2 ^ (52 - n.log2) := by
    calc 2 ^ 52 = 2 ^ n.log2 * 2 ^ (52 - n.log2) := by rw [← Nat.pow_add]; congr 1; omega
      _ ≤ _ := Nat.mul_le_mul_right _ h1
  have hK2 : n * 2 ^ (52 - n.log2) < 2 ^ 53 := by
    calc n * 2 ^ (52 - n.log2) < 2 ^ (n.log2 + 1) * 2 ^ (52 - n.log2) := Nat.mul_lt_mul_of_pos_right h2 (Nat.two_pow_pos _)
      _ = 2 ^ 53 := by rw [← Nat.pow_add]; congr 1; omega
  have hw : double.nearest neg n 0 = double.word neg (((n.log2 + 1022) * 2 ^ 52) + n * 2 ^ (52 - n.log2)) := by
    unfold Format.nearest
    rw [if_neg h0]
    simp only
    rw [hlast]
    have e1 : (0 - ((n.log2 : Int) - 52)).toNat = 52 - n.log2 := by omega
    have e2 : ((n.log2 : Int) - 52 - 0).toNat = 0 := by omega
    have e3 : ((n.log2 : Int) - 52 - double.leastPlace).toNat = n.log2 + 1022 := by
      show ((n.log2 : Int) - 52 - (-1074)).toNat = _
      omega
    rw [e1, e2, e3, cut0, Nat.shiftLeft_eq, Nat.min_eq_left]
    · rfl
    · have hbin : double.binade = 2 ^ 52 := rfl
      have hinf : double.infRung = 2047 * 2 ^ 52 := rfl
      rw [hbin, hinf]
      omega
  have hbin : double.binade = 2 ^ 52 := rfl
  have hinf : double.infRung = 2047 * 2 ^ 52 := rfl
  rw [← hbin] at hw hK1
  rw [hw, read_norm double neg hK1 (by rw [hbin]; omega) (by rw [hinf, hbin]; omega)]
  have hl : double.leastPlace = -1074 := rfl
  have he : (-1074 : Int) + ((n.log2 + 1022 : Nat) : Int) = (n.log2 : Int) - 52 := by omega
  rw [hl, he]

/-- x stands for a number (no NaN, no infinity) of 53 digits at most, whose last digit is not above place t. -/
def Num (f : Format) (t : Int) (x : Nat) : Prop := ∃ s m p, f.read x = .number s m p ∧ m < 2 ^ (f.fractionBits + 1) ∧ f.leastPlace ≤ p ∧ p ≤ t

theorem log2_le {m b : Nat} (h : m < 2 ^ (b + 1)) : m.log2 ≤ b := by
  by_cases h0 : m = 0
  · subst h0; simp
  · have := (Nat.log2_lt h0).2 h; omega

theorem num_int (n : Int) (h : n.natAbs < 2 ^ 32) : Num double (-20) (floatOfInt .f64 n) := by
  have hl : double.leastPlace = -1074 := rfl
  have hk : n.natAbs.log2 ≤ 31 := log2_le h
  obtain ⟨m, p, h1, h2, h3, h4, -⟩ := read_nearest double (n < 0) n.natAbs 0 1053 (by rw [hl]; show (max (0 + (n.natAbs.log2 : Int) - 52) (-1074) - (-1074)).toNat ≤ 1053; omega) (by decide)
  exact ⟨_, m, p, h1, h2, h3, by rw [hl] at h4; omega⟩

theorem quotient_num (s t : Bool) (m N : Nat) (i j : Int) (hm : m < 2 ^ 53) (hN : 2 ^ 52 ≤ N) (hN' : N < 2 ^ 53) (hi : i ≤ -20) (hj : -52 ≤ j) :
    ∃ M P, Datum.quotient 54 (.number s m i) (.number t N j) = some (.number (s ^^ t) M P) ∧ P + (M.log2 : Int) ≤ 34 := by
  have hlog : N.log2 = 52 := by
    have h1 : N.log2 < 53 := (Nat.log2_lt (by omega)).2 hN'
    have h2 := (Nat.le_log2 (n := N) (k := 52) (by omega)).2 hN
    omega
  have hlm : m.log2 ≤ 52 := log2_le hm
  have hd : m <<< (54 + N.log2 - m.log2) < 2 ^ 107 := by
    rw [Nat.shiftLeft_eq, hlog]
    calc m * 2 ^ (54 + 52 - m.log2) < 2 ^ (m.log2 + 1) * 2 ^ (54 + 52 - m.log2) := Nat.mul_lt_mul_of_pos_right Nat.lt_log2_self (Nat.two_pow_pos _)
      _ = 2 ^ 107 := by rw [← Nat.pow_add]; congr 1; omega
  have hq : m <<< (54 + N.log2 - m.log2) / N < 2 ^ 55 := by
    rw [Nat.div_lt_iff_lt_mul (by omega)]
    calc m <<< (54 + N.log2 - m.log2) < 2 ^ 107 := hd
      _ = 2 ^ 55 * 2 ^ 52 := by decide
      _ ≤ 2 ^ 55 * N := Nat.mul_le_mul_left _ hN
  refine ⟨2 * (m <<< (54 + N.log2 - m.log2) / N) + (m <<< (54 + N.log2 - m.log2) % N != 0).toNat, i - j - ((54 + N.log2 - m.log2 : Nat) : Int) - 1, ?_, ?_⟩
  · unfold Datum.quotient
    simp only
    rw [if_neg (by omega)]
  · have hb : (m <<< (54 + N.log2 - m.log2) % N != 0).toNat ≤ 1 := by cases (m <<< (54 + N.log2 - m.log2) % N != 0) <;> simp
    have := log2_le (m := 2 * (m <<< (54 + N.log2 - m.log2) / N) + (m <<< (54 + N.log2 - m.log2) % N != 0).toNat) (b := 56) (by omega)
    rw [hlog] at *
    omega

/-- The quotient of two whole numbers in range is a number. -/
theorem quo_int (n d : Int) (hn : n.natAbs < 2 ^ 32) (hd : 1 ≤ d) (hd' : d.natAbs < 2 ^ 32) :
    ∃ r, floatBits .quo .f64 (floatOfInt .f64 n) (floatOfInt .f64 d) = some r ∧ Num double (-15) r := by
  obtain ⟨s, m, i, h1, h2, _, h4⟩ := num_int n hn
  have h5 : double.read (floatOfInt .f64 d) = _ := read_int (d < 0) d.natAbs (by omega) (by omega)
  have hk : d.natAbs.log2 ≤ 31 := log2_le hd'
  have hN1 : 2 ^ 52 ≤ d.natAbs * 2 ^ (52 - d.natAbs.log2) := by
    calc 2 ^ 52 = 2 ^ d.natAbs.log2 * 2 ^ (52 - d.natAbs.log2) := by rw [← Nat.pow_add]; congr 1; omega
      _ ≤ _ := Nat.mul_le_mul_right _ (Nat.log2_self_le (by omega))
  have hN2 : d.natAbs * 2 ^ (52 - d.natAbs.log2) < 2 ^ 53 := by
    calc d.natAbs * 2 ^ (52 - d.natAbs.log2) < 2 ^ (d.natAbs.log2 + 1) * 2 ^ (52 - d.natAbs.log2) := Nat.mul_lt_mul_of_pos_right Nat.lt_log2_self (Nat.two_pow_pos _)
      _ = 2 ^ 53 := by rw [← Nat.pow_add]; congr 1; omega
  obtain ⟨M, P, hq, hP⟩ := quotient_num s (d < 0) m _ i _ h2 hN1 hN2 h4 (show (-52 : Int) ≤ (d.natAbs.log2 : Int) - 52 by omega)
  have hl : double.leastPlace = -1074 := rfl
  obtain ⟨m', p', e1, e2, e3, e4, -⟩ := read_nearest double (s ^^ decide (d < 0)) M P 1058 (by rw [hl]; show (max (P + (M.log2 : Int) - 52) (-1074) - (-1074)).toNat ≤ 1058; omega) (by decide)
  refine ⟨double.nearest (s ^^ decide (d < 0)) M P, ?_, _, m', p', e1, e2, e3, by rw [hl] at e4; omega⟩
  show double.div _ _ = _
  unfold Format.div
  rw [h1, h5]
  show (Datum.quotient 54 _ _).map _ = _
  rw [hq]
  rfl

theorem narrow_num {x : Nat} (h : Num double 20 x) : ∃ r, floatToFloatBits .f64 x .f32 = some r ∧ Num single 60 r := by
  obtain ⟨s, m, p, h1, h2, _, h4⟩ := h
  have hl : single.leastPlace = -149 := rfl
  have hk : m.log2 ≤ 52 := log2_le h2
  obtain ⟨m', p', e1, e2, e3, e4, -⟩ := read_nearest single s m p 199 (by rw [hl]; show (max (p + (m.log2 : Int) - 23) (-149) - (-149)).toNat ≤ 199; omega) (by decide)
  refine ⟨single.nearest s m p, ?_, _, m', p', e1, e2, e3, by rw [hl] at e4; omega⟩
  unfold floatToFloatBits
  rw [if_neg (by decide)]
  have hd : FloatKind.decode .f64 x = .number s m p := h1
  rw [hd]
  have he : FloatKind.decode .f32 (FloatKind.encode .f32 (.number s m p)) = .number s m' p' := e1
  simp only [he]
  rfl

theorem widen_num {x : Nat} (h : Num single 60 x) : ∃ r, floatToFloatBits .f32 x .f64 = some r ∧ Num double 60 r := by
  obtain ⟨s, m, p, h1, h2, _, h4⟩ := h
  have hl : double.leastPlace = -1074 := rfl
  have hk : m.log2 ≤ 23 := log2_le h2
  obtain ⟨m', p', e1, e2, e3, e4, -⟩ := read_nearest double s m p 1105 (by rw [hl]; show (max (p + (m.log2 : Int) - 52) (-1074) - (-1074)).toNat ≤ 1105; omega) (by decide)
  refine ⟨double.nearest s m p, ?_, _, m', p', e1, e2, e3, by rw [hl] at e4; omega⟩
  unfold floatToFloatBits
  rw [if_neg (by decide)]
  have hd : FloatKind.decode .f32 x = .number s m p := h1
  rw [hd]
  have he : FloatKind.decode .f64 (FloatKind.encode .f64 (.number s m p)) = .number s m' p' := e1
  simp only [he]
  rfl

theorem Num.mono {f : Format} {t u : Int} {x : Nat} (h : Num f t x) (htu : t ≤ u) : Num f u x := by
  obtain ⟨s, m, p, h1, h2, h3, h4⟩ := h; exact ⟨s, m, p, h1, h2, h3, by omega⟩

theorem order_self {f : Format} {t : Int} {x : Nat} (h : Num f t x) : f.order x x = some .eq := by
  obtain ⟨s, m, p, h1, _⟩ := h
  unfold Format.order
  rw [h1]
  unfold Datum.order
  simp only
  simp

/-- 1 over a number is no NaN. -/
theorem quo_one {t : Int} {x : Nat} (h : Num double t x) : ∃ r, floatBits .quo .f64 4607182418800017408 x = some r := by
  obtain ⟨s, m, p, h1, _⟩ := h
  show ∃ r, double.div _ _ = some r
  unfold Format.div
  rw [h1]
  have e : double.read 4607182418800017408 = .number false (2 ^ 52) (-52) := by decide
  rw [e]
  unfold Datum.quotient
  simp only
  by_cases hm : m = 0
  · rw [if_pos hm, if_neg (by decide)]; exact ⟨_, rfl⟩
  · rw [if_neg hm]; exact ⟨_, rfl⟩

theorem num_zero : Num double (-20) 0 := ⟨false, 0, -1074, by decide, by decide, by decide, by decide⟩
theorem num_zero32 : Num single 20 0 := ⟨false, 0, -149, by decide, by decide, by decide, by decide⟩

end Go.Proofs.Ytmhdklhdnmpabaa.FL
