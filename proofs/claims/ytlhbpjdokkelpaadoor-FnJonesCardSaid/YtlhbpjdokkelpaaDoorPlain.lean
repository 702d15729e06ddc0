/-
  PLAIN LAWS ON EXACT FRACTIONS, no program in sight: lowest terms are unique; what the four operations give. Conditions: none beyond the hypotheses of each lemma.
-/
namespace Go.Proofs.YtlhbpjdokkelpaaDoor.PL

/-- A triple of a real part, an imaginary part and a bottom. -/
structure Fr where
  re : Int
  im : Int
  den : Int
deriving DecidableEq

def nil : Fr := ⟨0, 0, 0⟩
def zero : Fr := ⟨0, 0, 1⟩

def gcd3 (a b c : Int) : Nat := Nat.gcd (Nat.gcd a.natAbs b.natAbs) c.natAbs

/-- Is a triple an exact fraction? -/
def Valid (f : Fr) : Prop :=
  -2000000000 ≤ f.re ∧ f.re ≤ 2000000000 ∧ -2000000000 ≤ f.im ∧ f.im ≤ 2000000000 ∧ 1 ≤ f.den ∧ f.den ≤ 2000000000 ∧ gcd3 f.re f.im f.den = 1

instance (f : Fr) : Decidable (Valid f) := by unfold Valid; exact inferInstance

def valid (f : Fr) : Bool := decide (Valid f)

theorem valid_iff {f : Fr} : valid f = true ↔ Valid f := by simp [valid]

/-- All three over their greatest common divisor. -/
def red (re im den : Int) : Fr := ⟨re.tdiv (gcd3 re im den), im.tdiv (gcd3 re im den), den.tdiv (gcd3 re im den)⟩

/-- Lowest terms, if they are in range. -/
def low (re im den : Int) : Fr × Bool := if valid (red re im den) then (red re im den, true) else (nil, false)

theorem gcd3_dvd_left (a b c : Int) : ((gcd3 a b c : Nat) : Int) ∣ a :=
  Int.ofNat_dvd_left.2 (Nat.dvd_trans (Nat.gcd_dvd_left _ _) (Nat.gcd_dvd_left _ _))
theorem gcd3_dvd_mid (a b c : Int) : ((gcd3 a b c : Nat) : Int) ∣ b :=
  Int.ofNat_dvd_left.2 (Nat.dvd_trans (Nat.gcd_dvd_left _ _) (Nat.gcd_dvd_right _ _))
theorem gcd3_dvd_right (a b c : Int) : ((gcd3 a b c : Nat) : Int) ∣ c :=
  Int.ofNat_dvd_left.2 (Nat.gcd_dvd_right _ _)

theorem gcd3_pos {a b c : Int} (h : 1 ≤ c) : 1 ≤ ((gcd3 a b c : Nat) : Int) := by
  have : 0 < gcd3 a b c := Nat.gcd_pos_of_pos_right _ (by omega)
  omega

theorem gcd3_mul (a b c k : Int) : gcd3 (a * k) (b * k) (c * k) = gcd3 a b c * k.natAbs := by
  simp only [gcd3, Int.natAbs_mul, Nat.gcd_mul_right]

theorem dvd_gcd3 {n : Nat} {a b c : Int} (ha : (n : Int) ∣ a) (hb : (n : Int) ∣ b) (hc : (n : Int) ∣ c) : n ∣ gcd3 a b c :=
  Nat.dvd_gcd (Nat.dvd_gcd (Int.ofNat_dvd_left.1 ha) (Int.ofNat_dvd_left.1 hb)) (Int.ofNat_dvd_left.1 hc)

theorem tdiv_gcd {a g : Int} (h : g ∣ a) : a.tdiv g * g = a := Int.tdiv_mul_cancel h

theorem red_mul (re im den : Int) :
    (red re im den).re * (gcd3 re im den : Nat) = re ∧ (red re im den).im * (gcd3 re im den : Nat) = im ∧ (red re im den).den * (gcd3 re im den : Nat) = den :=
  ⟨tdiv_gcd (gcd3_dvd_left _ _ _), tdiv_gcd (gcd3_dvd_mid _ _ _), tdiv_gcd (gcd3_dvd_right _ _ _)⟩

theorem red_den_pos {re im den : Int} (h : 1 ≤ den) : 1 ≤ (red re im den).den := by
  have h1 := (red_mul re im den).2.2
  have h2 := gcd3_pos (a := re) (b := im) h
  generalize ((gcd3 re im den : Nat) : Int) = g at h1 h2
  have : 0 < (red re im den).den * g := by omega
  have := Int.pos_of_mul_pos_left this (by omega)
  omega

theorem red_gcd {re im den : Int} (h : 1 ≤ den) : gcd3 (red re im den).re (red re im den).im (red re im den).den = 1 := by
  have h1 := red_mul re im den
  have h2 := gcd3_pos (a := re) (b := im) h
  have h3 := gcd3_mul (red re im den).re (red re im den).im (red re im den).den (gcd3 re im den : Nat)
  rw [h1.1, h1.2.1, h1.2.2] at h3
  simp only [Int.natAbs_natCast] at h3
  have h4 : 0 < gcd3 re im den := by omega
  have h5 : 1 * gcd3 re im den = gcd3 (red re im den).re (red re im den).im (red re im den).den * gcd3 re im den := by rw [Nat.one_mul]; exact h3
  exact (Nat.eq_of_mul_eq_mul_right h4 h5).symm

/-- Lowest terms are unique. -/
theorem den_dvd {p q d p' q' d' : Int} (g' : gcd3 p' q' d' = 1) (e1 : p * d' = p' * d) (e2 : q * d' = q' * d) : d' ∣ d := by
  have h1 : d'.natAbs ∣ gcd3 (p' * d) (q' * d) (d' * d) := by
    refine dvd_gcd3 ?_ ?_ ?_
    · rw [← e1]; exact Int.natAbs_dvd.2 (Int.dvd_mul_left _ _)
    · rw [← e2]; exact Int.natAbs_dvd.2 (Int.dvd_mul_left _ _)
    · exact Int.natAbs_dvd.2 (Int.dvd_mul_right _ _)
  rw [gcd3_mul, g', Nat.one_mul] at h1
  exact Int.natAbs_dvd_natAbs.1 h1

theorem unique {f h : Fr} (gf : gcd3 f.re f.im f.den = 1) (gh : gcd3 h.re h.im h.den = 1) (df : 1 ≤ f.den) (dh : 1 ≤ h.den)
    (e1 : f.re * h.den = h.re * f.den) (e2 : f.im * h.den = h.im * f.den) : f = h := by
  have a := den_dvd gh e1 e2
  have b := den_dvd gf e1.symm e2.symm
  have c : f.den = h.den := Int.dvd_antisymm (by omega) (by omega) b a
  rw [c] at e1 e2
  have r1 : f.re = h.re := Int.eq_of_mul_eq_mul_right (by omega) e1
  have r2 : f.im = h.im := Int.eq_of_mul_eq_mul_right (by omega) e2
  cases f; cases h; simp_all

/-- What is reduced stands to what it was made of as 1 to 1. -/
theorem red_ratio (re im den : Int) : (red re im den).re * den = re * (red re im den).den ∧ (red re im den).im * den = im * (red re im den).den := by
  have h := red_mul re im den
  generalize ((gcd3 re im den : Nat) : Int) = g at h
  generalize red re im den = f at h
  obtain ⟨h1, h2, h3⟩ := h
  subst h1 h2 h3
  constructor
  · rw [Int.mul_assoc, Int.mul_comm g]
  · rw [Int.mul_assoc, Int.mul_comm g]

theorem cross {a b c d e f : Int} (hd : 1 ≤ d) (h1 : a * d = c * b) (h2 : c * f = e * d) : a * f = e * b := by
  have : (a * f) * d = (e * b) * d := by
    calc (a * f) * d = (a * d) * f := by rw [Int.mul_right_comm]
      _ = (c * b) * f := by rw [h1]
      _ = (c * f) * b := by rw [Int.mul_right_comm]
      _ = (e * d) * b := by rw [h2]
      _ = (e * b) * d := by rw [Int.mul_right_comm]
  exact Int.eq_of_mul_eq_mul_right (by omega) this

theorem red_of {f : Fr} (gf : gcd3 f.re f.im f.den = 1) (df : 1 ≤ f.den) {re im den : Int} (hd : 1 ≤ den)
    (e1 : f.re * den = re * f.den) (e2 : f.im * den = im * f.den) : red re im den = f := by
  have r := red_ratio re im den
  refine (unique gf (red_gcd hd) df (red_den_pos hd) ?_ ?_).symm
  · exact cross hd e1 r.1.symm
  · exact cross hd e2 r.2.symm

theorem red_congr {re im den re' im' den' : Int} (hd : 1 ≤ den) (hd' : 1 ≤ den') (e1 : re * den' = re' * den) (e2 : im * den' = im' * den) :
    red re im den = red re' im' den' := by
  have r := red_ratio re' im' den'
  exact red_of (red_gcd hd') (red_den_pos hd') hd (cross hd' r.1 e1.symm) (cross hd' r.2 e2.symm)

theorem low_congr {re im den re' im' den' : Int} (hd : 1 ≤ den) (hd' : 1 ≤ den') (e1 : re * den' = re' * den) (e2 : im * den' = im' * den) :
    low re im den = low re' im' den' := by
  unfold low; rw [red_congr hd hd' e1 e2]

theorem low_cases (re im den : Int) : (low re im den = (red re im den, true) ∧ Valid (red re im den)) ∨ (low re im den = (nil, false) ∧ ¬ Valid (red re im den)) := by
  unfold low
  by_cases h : Valid (red re im den)
  · exact Or.inl ⟨by rw [if_pos (valid_iff.2 h)], h⟩
  · exact Or.inr ⟨by rw [if_neg (fun e => h (valid_iff.1 e))], h⟩

theorem low_of {f : Fr} (v : Valid f) {re im den : Int} (hd : 1 ≤ den) (e1 : f.re * den = re * f.den) (e2 : f.im * den = im * f.den) : low re im den = (f, true) := by
  have h := red_of v.2.2.2.2.2.2 v.2.2.2.2.1 hd e1 e2
  unfold low; rw [h, if_pos (valid_iff.2 v)]

theorem low_ok {re im den : Int} (h : (low re im den).2 = true) :
    Valid (low re im den).1 ∧ (low re im den).1.re * den = re * (low re im den).1.den ∧ (low re im den).1.im * den = im * (low re im den).1.den := by
  rcases low_cases re im den with ⟨e, v⟩ | ⟨e, v⟩
  · rw [e]; exact ⟨v, red_ratio re im den⟩
  · rw [e] at h; cases h

theorem gcd_step (a b : Int) (ha : 0 ≤ a) (hb : 0 ≤ b) : Int.gcd b (a % b) = Int.gcd a b := by
  obtain ⟨m, rfl⟩ := Int.eq_ofNat_of_zero_le ha
  obtain ⟨n, rfl⟩ := Int.eq_ofNat_of_zero_le hb
  show Nat.gcd n _ = Nat.gcd m n
  rw [← Int.natCast_emod, Int.natAbs_natCast, Nat.gcd_comm m n, Nat.gcd_rec n m, Nat.gcd_comm]

theorem tmod_abs (x y : Int) (h : y ≠ 0) : (x.tmod y).natAbs < y.natAbs := by
  rw [Int.natAbs_tmod]; exact Nat.mod_lt _ (by omega)
theorem gcd_tstep (x y : Int) : Int.gcd y (x.tmod y) = Int.gcd x y := by
  show Nat.gcd _ _ = Nat.gcd _ _
  rw [Int.natAbs_tmod, Nat.gcd_comm x.natAbs, Nat.gcd_rec y.natAbs x.natAbs, Nat.gcd_comm]

theorem gcd_impl (re im den : Int) : Int.gcd ((Int.gcd (re.natAbs : Int) (im.natAbs : Int) : Nat) : Int) den = gcd3 re im den := rfl
theorem gcd_spec (re im den : Int) : Int.gcd ((Int.gcd den re : Nat) : Int) im = gcd3 re im den := by
  show Nat.gcd (Nat.gcd _ _) _ = Nat.gcd (Nat.gcd _ _) _
  rw [Nat.gcd_comm (Nat.gcd re.natAbs im.natAbs), ← Nat.gcd_assoc]
theorem gcd_bd (a b : Int) {A B : Int} (h1 : -A ≤ a) (h2 : a ≤ A) (h3 : -B ≤ b) (h4 : b ≤ B) : ((Int.gcd a b : Nat) : Int) ≤ A + B := by
  have : Int.gcd a b ≤ a.natAbs + b.natAbs := by
    show Nat.gcd _ _ ≤ _
    by_cases h : a.natAbs = 0
    · rw [h]; simp
    · have := Nat.gcd_le_left b.natAbs (m := a.natAbs) (by omega); omega
  omega

theorem ngcd_bd (a b : Nat) : a.gcd b ≤ a + b := by
  by_cases h : a = 0
  · rw [h]; simp
  · have := Nat.gcd_le_left b (m := a) (by omega); omega

theorem valid_in {re im den : Int} (r1 : -2000000000 ≤ re) (r2 : re ≤ 2000000000) (i1 : -2000000000 ≤ im) (i2 : im ≤ 2000000000) (d1 : 1 ≤ den) (d2 : den ≤ 2000000000) :
    valid ⟨re, im, den⟩ = decide (gcd3 re im den = 1) := by
  simp [valid, Valid, r1, r2, i1, i2, d1, d2]
theorem valid_impl {re im den : Int} (r1 : -2000000000 ≤ re) (r2 : re ≤ 2000000000) (i1 : -2000000000 ≤ im) (i2 : im ≤ 2000000000) (d1 : 1 ≤ den) (d2 : den ≤ 2000000000) :
    (((Int.gcd ((re.natAbs.gcd im.natAbs : Nat) : Int) den : Nat) : Int) == 1) = valid ⟨re, im, den⟩ := by
  rw [valid_in r1 r2 i1 i2 d1 d2, ← gcd_impl]
  show _ = decide (Int.gcd ((re.natAbs.gcd im.natAbs : Nat) : Int) den = 1)
  rw [Bool.eq_iff_iff]; simp; omega
theorem valid_spec {re im den : Int} (r1 : -2000000000 ≤ re) (r2 : re ≤ 2000000000) (i1 : -2000000000 ≤ im) (i2 : im ≤ 2000000000) (d1 : 1 ≤ den) (d2 : den ≤ 2000000000) :
    (((Int.gcd ((Int.gcd den re : Nat) : Int) im : Nat) : Int) == 1) = valid ⟨re, im, den⟩ := by
  rw [valid_in r1 r2 i1 i2 d1 d2, gcd_spec, Bool.eq_iff_iff]; simp; omega
theorem valid_not {f : Fr} (h : ¬ Valid f) : valid f = false := by simp [valid, h]
theorem valid_re {re im den : Int} (h : re < -2000000000 ∨ 2000000000 < re) : valid ⟨re, im, den⟩ = false := valid_not (fun v => by have := v.1; have := v.2.1; have := v.2.2.1; have := v.2.2.2.1; have := v.2.2.2.2.1; have := v.2.2.2.2.2.1; simp only at *; omega)
theorem valid_im {re im den : Int} (h : im < -2000000000 ∨ 2000000000 < im) : valid ⟨re, im, den⟩ = false := valid_not (fun v => by have := v.1; have := v.2.1; have := v.2.2.1; have := v.2.2.2.1; have := v.2.2.2.2.1; have := v.2.2.2.2.2.1; simp only at *; omega)
theorem valid_den {re im den : Int} (h : den < 1 ∨ 2000000000 < den) : valid ⟨re, im, den⟩ = false := valid_not (fun v => by have := v.1; have := v.2.1; have := v.2.2.1; have := v.2.2.2.1; have := v.2.2.2.2.1; have := v.2.2.2.2.2.1; simp only at *; omega)

theorem igcd_bd (a b : Int) : Int.gcd a b ≤ a.natAbs + b.natAbs := ngcd_bd _ _

theorem gcd_lt (re im den : Int) (h : 1 ≤ den) : 1 ≤ gcd3 re im den ∧ (gcd3 re im den : Int) ≤ den := by
  have h1 := gcd3_pos (a := re) (b := im) h
  have h2 := Int.le_of_dvd (by omega) (gcd3_dvd_right re im den)
  omega

theorem red_of_g {re im den g : Int} (hd : 1 ≤ den) (hg : ((gcd3 re im den : Nat) : Int) = g) : red re im den = ⟨re.tdiv g, im.tdiv g, den / g⟩ := by
  unfold red; rw [hg, Int.tdiv_eq_ediv_of_nonneg (a := den) (by omega)]
theorem low_in {re im den g : Int} (hd : 1 ≤ den) (hg : ((gcd3 re im den : Nat) : Int) = g) (r1 : -2000000000 ≤ re.tdiv g) (r2 : re.tdiv g ≤ 2000000000) (i1 : -2000000000 ≤ im.tdiv g) (i2 : im.tdiv g ≤ 2000000000)
    (d2 : den / g ≤ 2000000000) : low re im den = (⟨re.tdiv g, im.tdiv g, den / g⟩, true) := by
  have e := red_of_g hd hg
  have h1 := red_den_pos (re := re) (im := im) hd
  have h2 := red_gcd (re := re) (im := im) hd
  unfold low
  rw [e] at h1 h2 ⊢
  rw [if_pos (valid_iff.2 ⟨r1, r2, i1, i2, h1, d2, h2⟩)]
theorem low_out {re im den g : Int} (hd : 1 ≤ den) (hg : ((gcd3 re im den : Nat) : Int) = g)
    (h : re.tdiv g < -2000000000 ∨ 2000000000 < re.tdiv g ∨ im.tdiv g < -2000000000 ∨ 2000000000 < im.tdiv g ∨ 2000000000 < den / g) : low re im den = (nil, false) := by
  have e := red_of_g hd hg
  unfold low
  rw [e, valid_not]
  · rfl
  · intro v
    have := v.1; have := v.2.1; have := v.2.2.1; have := v.2.2.2.1; have := v.2.2.2.2.2.1; simp only at *; omega

theorem ngcd_max (a b : Nat) : a.gcd b ≤ max a b := by
  by_cases h : a = 0
  · rw [h]; simp
  · have := Nat.gcd_le_left b (m := a) (by omega); omega
theorem igcd_max (a b : Int) : Int.gcd a b ≤ max a.natAbs b.natAbs := ngcd_max _ _

/-! ### the four operations -/
def add (a b : Fr) : Fr × Bool := if valid a && valid b then low (a.re * b.den + b.re * a.den) (a.im * b.den + b.im * a.den) (a.den * b.den) else (nil, false)
def less (a b : Fr) : Fr × Bool := if valid a && valid b then low (a.re * b.den - b.re * a.den) (a.im * b.den - b.im * a.den) (a.den * b.den) else (nil, false)
def times (a b : Fr) : Fr × Bool := if valid a && valid b then low (a.re * b.re - a.im * b.im) (a.re * b.im + a.im * b.re) (a.den * b.den) else (nil, false)
/-- 1 over a fraction that is not 0. -/
def inv (b : Fr) : Fr × Bool := low (b.den * b.re) (-(b.den * b.im)) (b.re * b.re + b.im * b.im)
def over (a b : Fr) : Fr × Bool :=
  if valid a && valid b && !(b.re == 0 && b.im == 0) then (if (inv b).2 then times a (inv b).1 else (nil, false)) else (nil, false)
def mirror (a : Fr) : Fr × Bool := if valid a then (⟨a.re, -a.im, a.den⟩, true) else (nil, false)
def power (a : Fr) : Fr × Bool := if valid a then low (a.re * a.re + a.im * a.im) 0 (a.den * a.den) else (nil, false)
def make (re im den : Int) : Fr × Bool :=
  if 1 ≤ den ∧ den ≤ 1000000000000000000 ∧ (-1000000000000000000 ≤ re ∧ re ≤ 1000000000000000000) ∧ (-1000000000000000000 ≤ im ∧ im ≤ 1000000000000000000) then low re im den else (nil, false)
def sign (n : Int) : Int := if n < 0 then -1 else if 0 < n then 1 else 0
def compare (a b : Fr) : Int × Bool := if valid a && valid b && (a.im == 0 && b.im == 0) then (sign (a.re * b.den - b.re * a.den), true) else (0, false)

theorem mul_bd {x y X Y : Int} (hx1 : -X ≤ x) (hx2 : x ≤ X) (hy1 : -Y ≤ y) (hy2 : y ≤ Y) : -(X * Y) ≤ x * y ∧ x * y ≤ X * Y := by
  have hX : 0 ≤ X := by omega
  have hY : 0 ≤ Y := by omega
  have a1 : x.natAbs ≤ X.natAbs := by omega
  have a2 : y.natAbs ≤ Y.natAbs := by omega
  have a3 := Nat.mul_le_mul a1 a2
  rw [← Int.natAbs_mul, ← Int.natAbs_mul] at a3
  have : 0 ≤ X * Y := Int.mul_nonneg hX hY
  omega

theorem den_bd {x y X Y : Int} (hx1 : 1 ≤ x) (hx2 : x ≤ X) (hy1 : 1 ≤ y) (hy2 : y ≤ Y) : 1 ≤ x * y ∧ x * y ≤ X * Y := by
  have h := mul_bd (x := x) (y := y) (X := X) (Y := Y) (by omega) hx2 (by omega) hy2
  have := Int.mul_pos (a := x) (b := y) (by omega) (by omega)
  omega
theorem sq_bd {x X : Int} (h1 : -X ≤ x) (h2 : x ≤ X) : 0 ≤ x * x ∧ x * x ≤ X * X := by
  have h := mul_bd h1 h2 h1 h2
  have : 0 ≤ x * x := by
    rcases Int.le_total 0 x with h | h
    · exact Int.mul_nonneg h h
    · exact Int.mul_nonneg_of_nonpos_of_nonpos h h
  omega
theorem add_low {a b : Fr} (ha : valid a = true) (hb : valid b = true) : add a b = low (a.re * b.den + b.re * a.den) (a.im * b.den + b.im * a.den) (a.den * b.den) := by
  unfold add; rw [ha, hb]; rfl
theorem less_low {a b : Fr} (ha : valid a = true) (hb : valid b = true) : less a b = low (a.re * b.den - b.re * a.den) (a.im * b.den - b.im * a.den) (a.den * b.den) := by
  unfold less; rw [ha, hb]; rfl
theorem times_low {a b : Fr} (ha : valid a = true) (hb : valid b = true) : times a b = low (a.re * b.re - a.im * b.im) (a.re * b.im + a.im * b.re) (a.den * b.den) := by
  unfold times; rw [ha, hb]; rfl
theorem power_low {a : Fr} (ha : valid a = true) : power a = low (a.re * a.re + a.im * a.im) 0 (a.den * a.den) := by
  unfold power; rw [ha]; rfl
theorem less_low' {a b : Fr} (ha : valid a = true) (hb : valid b = true) : less a b = low (a.re * b.den + -b.re * a.den) (a.im * b.den + -b.im * a.den) (a.den * b.den) := by
  rw [less_low ha hb, Int.neg_mul, Int.neg_mul, ← Int.sub_eq_add_neg, ← Int.sub_eq_add_neg]
theorem add_no {a b : Fr} (h : valid a = false ∨ valid b = false) : add a b = (nil, false) := by
  unfold add; rcases h with h | h <;> simp [h]
theorem less_no {a b : Fr} (h : valid a = false ∨ valid b = false) : less a b = (nil, false) := by
  unfold less; rcases h with h | h <;> simp [h]
theorem times_no {a b : Fr} (h : valid a = false ∨ valid b = false) : times a b = (nil, false) := by
  unfold times; rcases h with h | h <;> simp [h]
theorem power_no {a : Fr} (h : valid a = false) : power a = (nil, false) := by
  unfold power; simp [h]
theorem mirror_no {a : Fr} (h : valid a = false) : mirror a = (nil, false) := by
  unfold mirror; simp [h]
theorem mirror_yes {a : Fr} (h : valid a = true) : mirror a = (⟨a.re, -a.im, a.den⟩, true) := by
  unfold mirror; simp [h]

theorem make_low {re im den : Int} (d1 : 1 ≤ den) (d2 : den ≤ 1000000000000000000) (r1 : -1000000000000000000 ≤ re) (r2 : re ≤ 1000000000000000000) (i1 : -1000000000000000000 ≤ im) (i2 : im ≤ 1000000000000000000) :
    make re im den = low re im den := by
  unfold make; rw [if_pos ⟨d1, d2, ⟨r1, r2⟩, i1, i2⟩]
theorem make_no {re im den : Int} (h : (den < 1 ∨ 1000000000000000000 < den) ∨ (re < -1000000000000000000 ∨ 1000000000000000000 < re) ∨ im < -1000000000000000000 ∨ 1000000000000000000 < im) : make re im den = (nil, false) := by
  unfold make; rw [if_neg (by omega)]
theorem power_times {a : Fr} (h : valid a = true) : power a = times a ⟨a.re, -a.im, a.den⟩ := by
  have hm : valid ⟨a.re, -a.im, a.den⟩ = true := by
    rw [valid_iff] at h ⊢
    obtain ⟨h1, h2, h3, h4, h5, h6, h7⟩ := h
    refine ⟨h1, h2, by simp only; omega, by simp only; omega, h5, h6, ?_⟩
    unfold gcd3 at h7 ⊢
    simp only [Int.natAbs_neg]; exact h7
  rw [power_low h, times_low h hm]
  have e1 : a.re * a.re + a.im * a.im = a.re * a.re - a.im * -a.im := by rw [Int.mul_neg]; omega
  have e2 : (0 : Int) = a.re * -a.im + a.im * a.re := by rw [Int.mul_neg, Int.mul_comm a.im]; omega
  simp only [e1]
  rw [← e2]
/-- valid and real -/
def realB (a : Fr) : Bool := valid a && (a.im == 0)
theorem realB_eq {a : Fr} (h : valid a = true) : realB a = (a.im == 0) := by unfold realB; rw [h]; rfl
theorem realB_no {a : Fr} (h : valid a = false) : realB a = false := by unfold realB; rw [h]; rfl
theorem realB_valid {a : Fr} (h : realB a = true) : valid a = true := by
  unfold realB at h; simp only [Bool.and_eq_true] at h; exact h.1
theorem realB_im {a : Fr} (h : realB a = true) : (a.im == 0) = true := by
  unfold realB at h; simp only [Bool.and_eq_true] at h; exact h.2
theorem compare_yes {a b : Fr} (ha : realB a = true) (hb : realB b = true) : compare a b = (sign (a.re * b.den - b.re * a.den), true) := by
  unfold compare; rw [realB_valid ha, realB_valid hb, realB_im ha, realB_im hb]; rfl
theorem compare_no {a b : Fr} (h : realB a = false ∨ realB b = false) : compare a b = (0, false) := by
  unfold compare
  rw [if_neg]
  intro e
  simp only [Bool.and_eq_true] at e
  obtain ⟨⟨e1, e2⟩, e3, e4⟩ := e
  rcases h with h | h <;> simp [realB, *] at h
theorem compare_lt {a b : Fr} (ha : realB a = true) (hb : realB b = true) (h : a.re * b.den - b.re * a.den < 0) : compare a b = (-1, true) := by
  rw [compare_yes ha hb, sign, if_pos h]
theorem compare_gt {a b : Fr} (ha : realB a = true) (hb : realB b = true) (h : 0 < a.re * b.den - b.re * a.den) : compare a b = (1, true) := by
  rw [compare_yes ha hb, sign, if_neg (by omega), if_pos h]
theorem compare_eq {a b : Fr} (ha : realB a = true) (hb : realB b = true) (h : ¬ a.re * b.den - b.re * a.den < 0) (h' : ¬ 0 < a.re * b.den - b.re * a.den) : compare a b = (0, true) := by
  rw [compare_yes ha hb, sign, if_neg h, if_neg h']

theorem low_nil {re im den : Int} (h : (low re im den).2 = false) : low re im den = (nil, false) := by
  rcases low_cases re im den with ⟨e, _⟩ | ⟨e, _⟩
  · rw [e] at h; cases h
  · exact e
theorem add_nil {a b : Fr} (h : (add a b).2 = false) : add a b = (nil, false) := by
  unfold add at h ⊢; split
  · rename_i c; rw [if_pos c] at h; exact low_nil h
  · rfl
theorem times_nil {a b : Fr} (h : (times a b).2 = false) : times a b = (nil, false) := by
  unfold times at h ⊢; split
  · rename_i c; rw [if_pos c] at h; exact low_nil h
  · rfl
theorem power_nil {a : Fr} (h : (power a).2 = false) : power a = (nil, false) := by
  unfold power at h ⊢; split
  · rename_i c; rw [if_pos c] at h; exact low_nil h
  · rfl
theorem mirror_nil {a : Fr} (h : (mirror a).2 = false) : mirror a = (nil, false) := by
  unfold mirror at h ⊢; split
  · rename_i c; rw [if_pos c] at h; cases h
  · rfl
theorem power_valid {a : Fr} (h : (power a).2 = true) : valid a = true := by
  cases v : valid a
  · rw [power_no v] at h; cases h
  · rfl
theorem mirror_valid {a : Fr} (h : (mirror a).2 = true) : valid a = true := by
  cases v : valid a
  · rw [mirror_no v] at h; cases h
  · rfl
theorem times_valid {a b : Fr} (h : (times a b).2 = true) : valid a = true ∧ valid b = true := by
  cases v : valid a
  · rw [times_no (Or.inl v)] at h; cases h
  · cases u : valid b
    · rw [times_no (Or.inr u)] at h; cases h
    · exact ⟨rfl, rfl⟩

/-! ### vectors -/
def both (r s : Fr × Bool) : (Fr × Fr) × Bool := if r.2 && s.2 then ((r.1, s.1), true) else ((nil, nil), false)
def jadd (a b c d : Fr) : (Fr × Fr) × Bool := both (add a c) (add b d)
def jtimes (a b c : Fr) : (Fr × Fr) × Bool := both (times a c) (times b c)
def jmirror (a b : Fr) : (Fr × Fr) × Bool := both (mirror a) (mirror b)
def jcross (a b : Fr) : (Fr × Fr) × Bool := if valid a && valid b then ((⟨-b.re, b.im, b.den⟩, ⟨a.re, -a.im, a.den⟩), true) else ((nil, nil), false)
def sum2 (r s : Fr × Bool) : Fr × Bool := if r.2 && s.2 then add r.1 s.1 else (nil, false)
def jpower (a b : Fr) : Fr × Bool := sum2 (power a) (power b)
def jinner (a b c d : Fr) : Fr × Bool :=
  if (mirror c).2 && (mirror d).2 then sum2 (times a (mirror c).1) (times b (mirror d).1) else (nil, false)

theorem both_got0 (r s : Fr × Bool) : (if ((false || !r.2) || !s.2) then ((nil, nil), false) else ((r.1, s.1), true)) = both r s := by
  unfold both; cases r.2 <;> cases s.2 <;> rfl
theorem jtimes_got (x y c : Fr) (v : Bool) (hv : ((valid x && valid y) && valid c) = v) :
    (if (((false || !v) || !(times x c).2) || !(times y c).2) then ((nil, nil), false) else (((times x c).1, (times y c).1), true)) = jtimes x y c := by
  unfold jtimes both
  cases h1 : (times x c).2
  · cases v <;> rfl
  · cases h2 : (times y c).2
    · cases v <;> rfl
    · have e1 := times_valid h1
      have e2 := times_valid h2
      rw [e1.1, e1.2, e2.1] at hv
      subst hv; rfl
theorem jpower_got (x y : Fr) :
    (if ((((false || !(valid x && valid y)) || !(power x).2) || !(power y).2) || !(add (power x).1 (power y).1).2) then (nil, false) else ((add (power x).1 (power y).1).1, true)) = jpower x y := by
  unfold jpower sum2
  cases h1 : (power x).2
  · cases (valid x && valid y) <;> rfl
  · cases h2 : (power y).2
    · cases (valid x && valid y) <;> rfl
    · rw [power_valid h1, power_valid h2]
      cases h3 : (add (power x).1 (power y).1).2
      · exact (add_nil h3).symm
      · exact Prod.ext rfl h3.symm
theorem jinner_got (x y u z : Fr) (v : Bool) (hv : ((valid x && valid y) && (valid u && valid z)) = v) :
    (if ((((((false || !v) || !(mirror u).2) || !(times x (mirror u).1).2) || !(mirror z).2) || !(times y (mirror z).1).2) || !(add (times x (mirror u).1).1 (times y (mirror z).1).1).2) then (nil, false) else ((add (times x (mirror u).1).1 (times y (mirror z).1).1).1, true)) = jinner x y u z := by
  unfold jinner sum2
  cases h1 : (mirror u).2
  · cases v <;> rfl
  · cases h2 : (mirror z).2
    · cases v <;> cases (times x (mirror u).1).2 <;> rfl
    · cases h3 : (times x (mirror u).1).2
      · cases v <;> rfl
      · cases h4 : (times y (mirror z).1).2
        · cases v <;> rfl
        · rw [(times_valid h3).1, (times_valid h4).1, mirror_valid h1, mirror_valid h2] at hv
          subst hv
          cases h5 : (add (times x (mirror u).1).1 (times y (mirror z).1).1).2
          · exact (add_nil h5).symm
          · exact Prod.ext rfl h5.symm

/-! ### quotients -/
theorem over_no {a b : Fr} (h : valid a = false ∨ valid b = false) : over a b = (nil, false) := by
  unfold over; rcases h with h | h <;> simp [h]
theorem over_zero {a b : Fr} (h1 : b.re = 0) (h2 : b.im = 0) : over a b = (nil, false) := by
  unfold over; simp [h1, h2]
theorem over_inv {a b : Fr} (ha : valid a = true) (hb : valid b = true) (h : ¬ (b.re = 0 ∧ b.im = 0)) : over a b = if (inv b).2 then times a (inv b).1 else (nil, false) := by
  unfold over
  rw [ha, hb, if_pos]
  simp only [Bool.true_and, Bool.not_eq_true', Bool.and_eq_false_imp, beq_iff_eq, beq_eq_false_iff_ne]
  intro e1 e2; exact h ⟨e1, e2⟩
theorem zero_den {b : Fr} (hb : valid b = true) (h1 : b.re = 0) (h2 : b.im = 0) : b.den = 1 := by
  obtain ⟨_, _, _, _, h5, _, h7⟩ := valid_iff.1 hb
  unfold gcd3 at h7
  rw [h1, h2] at h7
  simp at h7
  omega
theorem inv_neg (b : Fr) : inv b = low (b.den * b.re) (-b.den * b.im) (b.re * b.re + b.im * b.im) := by
  unfold inv; rw [Int.neg_mul]
theorem sq_pos {b : Fr} (h : ¬ (b.re = 0 ∧ b.im = 0)) : 1 ≤ b.re * b.re + b.im * b.im := by
  have h1 : 0 ≤ b.re * b.re := by
    rcases Int.le_total 0 b.re with h | h
    · exact Int.mul_nonneg h h
    · exact Int.mul_nonneg_of_nonpos_of_nonpos h h
  have h2 : 0 ≤ b.im * b.im := by
    rcases Int.le_total 0 b.im with h | h
    · exact Int.mul_nonneg h h
    · exact Int.mul_nonneg_of_nonpos_of_nonpos h h
  by_cases h0 : b.re = 0
  · have h3 : b.im ≠ 0 := fun e => h ⟨h0, e⟩
    have : b.im * b.im ≠ 0 := Int.mul_ne_zero h3 h3
    omega
  · have : b.re * b.re ≠ 0 := Int.mul_ne_zero h0 h0
    omega
/-- The reference's way to 1 over b: the bottom first divided. -/
theorem inv_g {b : Fr} {g : Int} (hb : 1 ≤ b.den) (hn : 1 ≤ b.re * b.re + b.im * b.im) (hg : ((Int.gcd (b.re * b.re + b.im * b.im) b.den : Nat) : Int) = g) :
    inv b = low (b.re * (b.den / g)) (-(b.im * (b.den / g))) ((b.re * b.re + b.im * b.im) / g) ∧ 1 ≤ g ∧ g ≤ b.den ∧ 1 ≤ b.den / g ∧ b.den / g ≤ b.den ∧ 1 ≤ (b.re * b.re + b.im * b.im) / g ∧ (b.re * b.re + b.im * b.im) / g ≤ b.re * b.re + b.im * b.im := by
  have d1 : g ∣ b.re * b.re + b.im * b.im := by rw [← hg]; exact Int.gcd_dvd_left ..
  have d2 : g ∣ b.den := by rw [← hg]; exact Int.gcd_dvd_right ..
  have hg1 : 1 ≤ g := by
    have : 0 < Int.gcd (b.re * b.re + b.im * b.im) b.den := Int.gcd_pos_of_ne_zero_right _ (by omega)
    omega
  unfold inv
  generalize b.re * b.re + b.im * b.im = n at *
  obtain ⟨m, rfl⟩ := d1
  obtain ⟨k, hk⟩ := d2
  rw [hk] at hb ⊢
  rw [Int.mul_ediv_cancel_left _ (by omega), Int.mul_ediv_cancel_left _ (by omega)]
  have hm : 1 ≤ m := by
    have : 0 < g * m := by omega
    have := Int.pos_of_mul_pos_right this (by omega)
    omega
  have hk1 : 1 ≤ k := by
    have : 0 < g * k := by omega
    have := Int.pos_of_mul_pos_right this (by omega)
    omega
  have e1 : m ≤ g * m := by
    have := Int.mul_le_mul_of_nonneg_right hg1 (show 0 ≤ m by omega)
    omega
  have e2 : k ≤ g * k := by
    have := Int.mul_le_mul_of_nonneg_right hg1 (show 0 ≤ k by omega)
    omega
  have e3 : g ≤ g * k := by
    have := Int.mul_le_mul_of_nonneg_left hk1 (show 0 ≤ g by omega)
    omega
  refine ⟨low_congr hn hm ?_ ?_, hg1, e3, hk1, e2, hm, e1⟩
  · grind
  · grind

end Go.Proofs.YtlhbpjdokkelpaaDoor.PL
