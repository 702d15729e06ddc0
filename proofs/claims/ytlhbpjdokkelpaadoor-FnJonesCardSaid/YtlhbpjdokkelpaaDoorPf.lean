/-
  PLAIN LAWS OF EXACT FRACTIONS: sums, differences, products, quotients, mirrors, powers and orders taken apart. Conditions: none beyond the hypotheses of each lemma.
-/
import Derived.Test.YtlhbpjdokkelpaaDoorPlain
namespace Go.Proofs.YtlhbpjdokkelpaaDoor.PL

theorem low_got {re im den : Int} {f : Fr} (h : low re im den = (f, true)) : Valid f ∧ f.re * den = re * f.den ∧ f.im * den = im * f.den := by
  have h1 := low_ok (re := re) (im := im) (den := den) (by rw [h])
  rw [h] at h1; exact h1

theorem add_got {a b c : Fr} (h : add a b = (c, true)) : Valid a ∧ Valid b ∧ Valid c ∧ c.re * (a.den * b.den) = (a.re * b.den + b.re * a.den) * c.den ∧ c.im * (a.den * b.den) = (a.im * b.den + b.im * a.den) * c.den := by
  cases va : valid a
  · rw [add_no (.inl va)] at h; cases h
  cases vb : valid b
  · rw [add_no (.inr vb)] at h; cases h
  rw [add_low va vb] at h
  obtain ⟨h1, h2, h3⟩ := low_got h
  exact ⟨valid_iff.1 va, valid_iff.1 vb, h1, h2, h3⟩
theorem less_got {a b c : Fr} (h : less a b = (c, true)) : Valid a ∧ Valid b ∧ Valid c ∧ c.re * (a.den * b.den) = (a.re * b.den - b.re * a.den) * c.den ∧ c.im * (a.den * b.den) = (a.im * b.den - b.im * a.den) * c.den := by
  cases va : valid a
  · rw [less_no (.inl va)] at h; cases h
  cases vb : valid b
  · rw [less_no (.inr vb)] at h; cases h
  rw [less_low va vb] at h
  obtain ⟨h1, h2, h3⟩ := low_got h
  exact ⟨valid_iff.1 va, valid_iff.1 vb, h1, h2, h3⟩
theorem times_got {a b c : Fr} (h : times a b = (c, true)) : Valid a ∧ Valid b ∧ Valid c ∧ c.re * (a.den * b.den) = (a.re * b.re - a.im * b.im) * c.den ∧ c.im * (a.den * b.den) = (a.re * b.im + a.im * b.re) * c.den := by
  cases va : valid a
  · rw [times_no (.inl va)] at h; cases h
  cases vb : valid b
  · rw [times_no (.inr vb)] at h; cases h
  rw [times_low va vb] at h
  obtain ⟨h1, h2, h3⟩ := low_got h
  exact ⟨valid_iff.1 va, valid_iff.1 vb, h1, h2, h3⟩

theorem Valid.den1 {f : Fr} (h : Valid f) : 1 ≤ f.den := h.2.2.2.2.1
theorem den_mul {a b : Fr} (ha : Valid a) (hb : Valid b) : 1 ≤ a.den * b.den := by
  have := Int.mul_pos (a := a.den) (b := b.den) (by have := ha.den1; omega) (by have := hb.den1; omega)
  omega
theorem cancel {x y k : Int} (hk : 1 ≤ k) (h : k * x = k * y) : x = y := Int.eq_of_mul_eq_mul_left (by omega) h

theorem add_comm' (a b : Fr) : add a b = add b a := by
  unfold add
  rw [Bool.and_comm, Int.mul_comm a.den b.den, Int.add_comm (a.re * b.den), Int.add_comm (a.im * b.den)]
theorem times_comm' (a b : Fr) : times a b = times b a := by
  unfold times
  rw [Bool.and_comm, Int.mul_comm a.den b.den, Int.mul_comm a.re b.re, Int.mul_comm a.im b.im, Int.mul_comm a.re b.im, Int.mul_comm a.im b.re, Int.add_comm (b.im * a.re)]

theorem less_of_add {a b c : Fr} (h : add a b = (c, true)) : less c b = (a, true) := by
  obtain ⟨ha, hb, hc, e1, e2⟩ := add_got h
  rw [less_low (valid_iff.2 hc) (valid_iff.2 hb)]
  have k := hb.den1
  refine low_of ha (den_mul hc hb) ?_ ?_
  · refine cancel k ?_
    grind
  · refine cancel k ?_
    grind
theorem add_of_less {a b c : Fr} (h : less a b = (c, true)) : add c b = (a, true) := by
  obtain ⟨ha, hb, hc, e1, e2⟩ := less_got h
  rw [add_low (valid_iff.2 hc) (valid_iff.2 hb)]
  have k := hb.den1
  refine low_of ha (den_mul hc hb) ?_ ?_
  · refine cancel k ?_
    grind
  · refine cancel k ?_
    grind
theorem Valid.neg {c : Fr} (h : Valid c) : Valid ⟨-c.re, -c.im, c.den⟩ := by
  obtain ⟨h1, h2, h3, h4, h5, h6, h7⟩ := h
  refine ⟨by simp only; omega, by simp only; omega, by simp only; omega, by simp only; omega, h5, h6, ?_⟩
  unfold gcd3 at h7 ⊢
  simp only [Int.natAbs_neg]; exact h7
theorem Valid.conj {c : Fr} (h : Valid c) : Valid ⟨c.re, -c.im, c.den⟩ := by
  obtain ⟨h1, h2, h3, h4, h5, h6, h7⟩ := h
  refine ⟨h1, h2, by simp only; omega, by simp only; omega, h5, h6, ?_⟩
  unfold gcd3 at h7 ⊢
  simp only [Int.natAbs_neg]; exact h7
theorem less_of_less {a b c : Fr} (h : less a b = (c, true)) : less b a = (⟨-c.re, -c.im, c.den⟩, true) := by
  obtain ⟨ha, hb, hc, e1, e2⟩ := less_got h
  rw [less_low (valid_iff.2 hb) (valid_iff.2 ha)]
  refine low_of hc.neg (den_mul hb ha) ?_ ?_
  · simp only; grind
  · simp only; grind
theorem less_self {a : Fr} (h : valid a = true) : less a a = (zero, true) := by
  have ha := valid_iff.1 h
  rw [less_low h h]
  refine low_of (f := zero) (by decide) (den_mul ha ha) ?_ ?_
  · simp only [zero]; grind
  · simp only [zero]; grind
theorem make_self {a : Fr} (h : valid a = true) : make a.re a.im a.den = (a, true) := by
  have ha := valid_iff.1 h
  obtain ⟨h1, h2, h3, h4, h5, h6, h7⟩ := valid_iff.1 h
  rw [make_low h5 (by omega) (by omega) (by omega) (by omega) (by omega)]
  exact low_of ha h5 rfl rfl
theorem make_got {re im den : Int} {f : Fr} (h : make re im den = (f, true)) : 1 ≤ den ∧ Valid f ∧ f.re * den = re * f.den ∧ f.im * den = im * f.den := by
  unfold make at h
  split at h
  · rename_i c
    exact ⟨c.1, low_got h⟩
  · cases h
theorem make_twice {re im den : Int} {f x : Fr} (h : make re im den = (f, true)) (h2 : make (2 * re) (2 * im) (2 * den) = (x, true)) : x = f := by
  obtain ⟨d, v, e1, e2⟩ := make_got h
  obtain ⟨d2, v2, e3, e4⟩ := make_got h2
  refine unique v2.2.2.2.2.2.2 v.2.2.2.2.2.2 v2.den1 v.den1 ?_ ?_
  · refine cancel d ?_
    grind
  · refine cancel d ?_
    grind
theorem mirror_got {a m : Fr} (h : mirror a = (m, true)) : Valid a ∧ m = ⟨a.re, -a.im, a.den⟩ := by
  cases va : valid a
  · rw [mirror_no va] at h; cases h
  rw [mirror_yes va] at h
  simp only [Prod.mk.injEq, and_true] at h
  exact ⟨valid_iff.1 va, h.symm⟩
theorem mirror_back {a m : Fr} (h : mirror a = (m, true)) : mirror m = (a, true) := by
  obtain ⟨va, rfl⟩ := mirror_got h
  rw [mirror_yes (valid_iff.2 va.conj)]
  simp
theorem power_got {a m : Fr} (h : power a = (m, true)) : Valid a ∧ Valid m ∧ m.im = 0 ∧ m.re * (a.den * a.den) = (a.re * a.re + a.im * a.im) * m.den := by
  cases va : valid a
  · rw [power_no va] at h; cases h
  rw [power_low va] at h
  have ha := valid_iff.1 va
  obtain ⟨h1, h2, h3⟩ := low_got h
  refine ⟨ha, h1, ?_, h2⟩
  rw [Int.zero_mul] at h3
  rcases Int.mul_eq_zero.1 h3 with e | e
  · exact e
  · have := den_mul ha ha; omega
theorem power_nonneg {a m : Fr} (h : power a = (m, true)) : 0 ≤ m.re ∧ (m.re = 0 ↔ (a.re = 0 ∧ a.im = 0)) := by
  obtain ⟨ha, hm, _, e⟩ := power_got h
  have k := den_mul ha ha
  have d := hm.den1
  constructor
  · rcases Int.lt_or_le m.re 0 with h | h
    · have h1 : 0 ≤ (a.re * a.re + a.im * a.im) := by
        by_cases c : a.re = 0 ∧ a.im = 0
        · simp [c.1, c.2]
        · have := sq_pos c; omega
      have h2 : 0 ≤ (a.re * a.re + a.im * a.im) * m.den := Int.mul_nonneg h1 (by omega)
      have h3 : m.re * (a.den * a.den) < 0 := Int.mul_neg_of_neg_of_pos h (by omega)
      omega
    · exact h
  · constructor
    · intro h0
      rw [h0, Int.zero_mul] at e
      rcases Int.mul_eq_zero.1 e.symm with e | e
      · by_cases c : a.re = 0 ∧ a.im = 0
        · exact c
        · have := sq_pos c; omega
      · omega
    · rintro ⟨h1, h2⟩
      rw [h1, h2] at e
      simp only [Int.mul_zero, Int.add_zero, Int.zero_mul] at e
      rcases Int.mul_eq_zero.1 e with e | e
      · exact e
      · omega
theorem power_conj {a m p : Fr} (h : power a = (p, true)) (hm : mirror a = (m, true)) : power m = (p, true) := by
  obtain ⟨va, rfl⟩ := mirror_got hm
  rw [← h, power_low (valid_iff.2 va), power_low (valid_iff.2 va.conj)]
  simp only [Int.neg_mul_neg]
theorem mirror_of_power {a p : Fr} (h : power a = (p, true)) : mirror a = (⟨a.re, -a.im, a.den⟩, true) := mirror_yes (valid_iff.2 (power_got h).1)

theorem over_got {a b c : Fr} (h : over a b = (c, true)) : Valid b ∧ ∃ i, inv b = (i, true) ∧ times a i = (c, true) ∧ Valid i ∧ 1 ≤ b.re * b.re + b.im * b.im ∧
    i.re * (b.re * b.re + b.im * b.im) = b.den * b.re * i.den ∧ i.im * (b.re * b.re + b.im * b.im) = -(b.den * b.im) * i.den := by
  cases va : valid a
  · rw [over_no (.inl va)] at h; cases h
  cases vb : valid b
  · rw [over_no (.inr vb)] at h; cases h
  by_cases hz : b.re = 0 ∧ b.im = 0
  · rw [over_zero hz.1 hz.2] at h; cases h
  rw [over_inv va vb hz] at h
  cases hi : (inv b).2
  · rw [hi] at h; cases h
  · rw [hi] at h
    have hi' : inv b = ((inv b).1, true) := Prod.ext rfl hi
    have e : low (b.den * b.re) (-(b.den * b.im)) (b.re * b.re + b.im * b.im) = ((inv b).1, true) := hi'
    obtain ⟨v, e1, e2⟩ := low_got e
    exact ⟨valid_iff.1 vb, (inv b).1, hi', h, v, sq_pos hz, e1, e2⟩
theorem ring1 {ar ai ad br bi bd cr ci cd ir ii id yr yd n : Int} (e1 : cr * (ad * bd) = (ar * br - ai * bi) * cd) (e2 : ci * (ad * bd) = (ar * bi + ai * br) * cd) (hn : n = br * br + bi * bi)
    (i1 : ir * n = bd * br * id) (i2 : ii * n = -(bd * bi) * id) (f1 : yr * (cd * id) = (cr * ir - ci * ii) * yd) : n * (bd * (cd * id * (yr * ad))) = n * (bd * (cd * id * (ar * yd))) := by
  have q : n * bd * ad * (cr * ir - ci * ii) = n * bd * cd * id * ar := by
    have : n * bd * ad * (cr * ir - ci * ii) = (cr * (ad * bd)) * (ir * n) - (ci * (ad * bd)) * (ii * n) := by grind
    rw [this, e1, e2, i1, i2, hn]; grind
  have h : n * (bd * (cd * id * (yr * ad))) = n * bd * ad * (yr * (cd * id)) := by grind
  rw [h, f1, ← Int.mul_assoc, q]; grind
theorem ring2 {ar ai ad br bi bd cr ci cd ir ii id yi yd n : Int} (e1 : cr * (ad * bd) = (ar * br - ai * bi) * cd) (e2 : ci * (ad * bd) = (ar * bi + ai * br) * cd) (hn : n = br * br + bi * bi)
    (i1 : ir * n = bd * br * id) (i2 : ii * n = -(bd * bi) * id) (f2 : yi * (cd * id) = (cr * ii + ci * ir) * yd) : n * (bd * (cd * id * (yi * ad))) = n * (bd * (cd * id * (ai * yd))) := by
  have q : n * bd * ad * (cr * ii + ci * ir) = n * bd * cd * id * ai := by
    have : n * bd * ad * (cr * ii + ci * ir) = (cr * (ad * bd)) * (ii * n) + (ci * (ad * bd)) * (ir * n) := by grind
    rw [this, e1, e2, i1, i2, hn]; grind
  have h : n * (bd * (cd * id * (yi * ad))) = n * bd * ad * (yi * (cd * id)) := by grind
  rw [h, f2, ← Int.mul_assoc, q]; grind
theorem ring3 {ar ai ad br bi bd cr ci cd ir ii id xr xd n : Int} (f1 : cr * (ad * id) = (ar * ir - ai * ii) * cd) (f2 : ci * (ad * id) = (ar * ii + ai * ir) * cd) (hn : n = br * br + bi * bi)
    (i1 : ir * n = bd * br * id) (i2 : ii * n = -(bd * bi) * id) (e1 : xr * (cd * bd) = (cr * br - ci * bi) * xd) : n * (id * (cd * bd * (xr * ad))) = n * (id * (cd * bd * (ar * xd))) := by
  have q : n * id * ad * (cr * br - ci * bi) = n * cd * id * bd * ar := by
    have h : n * id * ad * (cr * br - ci * bi) = (cr * (ad * id)) * (n * br) - (ci * (ad * id)) * (n * bi) := by grind
    have h2 : (ar * ir - ai * ii) * cd * (n * br) - (ar * ii + ai * ir) * cd * (n * bi) = cd * ((ar * (ir * n) - ai * (ii * n)) * br - (ar * (ii * n) + ai * (ir * n)) * bi) := by grind
    rw [h, f1, f2, h2, i1, i2, hn]; grind
  have h : n * (id * (cd * bd * (xr * ad))) = n * id * ad * (xr * (cd * bd)) := by grind
  rw [h, e1, ← Int.mul_assoc, q]; grind
theorem ring4 {ar ai ad br bi bd cr ci cd ir ii id xi xd n : Int} (f1 : cr * (ad * id) = (ar * ir - ai * ii) * cd) (f2 : ci * (ad * id) = (ar * ii + ai * ir) * cd) (hn : n = br * br + bi * bi)
    (i1 : ir * n = bd * br * id) (i2 : ii * n = -(bd * bi) * id) (e2 : xi * (cd * bd) = (cr * bi + ci * br) * xd) : n * (id * (cd * bd * (xi * ad))) = n * (id * (cd * bd * (ai * xd))) := by
  have q : n * id * ad * (cr * bi + ci * br) = n * cd * id * bd * ai := by
    have h : n * id * ad * (cr * bi + ci * br) = (cr * (ad * id)) * (n * bi) + (ci * (ad * id)) * (n * br) := by grind
    have h2 : (ar * ir - ai * ii) * cd * (n * bi) + (ar * ii + ai * ir) * cd * (n * br) = cd * ((ar * (ir * n) - ai * (ii * n)) * bi + (ar * (ii * n) + ai * (ir * n)) * br) := by grind
    rw [h, f1, f2, h2, i1, i2, hn]; grind
  have h : n * (id * (cd * bd * (xi * ad))) = n * id * ad * (xi * (cd * bd)) := by grind
  rw [h, e2, ← Int.mul_assoc, q]; grind
theorem ring5 {ar ai ad br bi bd cr ci cd ur ud vr vd wr wd nr nd : Int} (e1 : cr * (ad * bd) = (ar * br - ai * bi) * cd) (e2 : ci * (ad * bd) = (ar * bi + ai * br) * cd)
    (eu : ur * (ad * ad) = (ar * ar + ai * ai) * ud) (ev : vr * (bd * bd) = (br * br + bi * bi) * vd) (w1 : wr * (ud * vd) = (ur * vr - 0 * 0) * wd) (en : nr * (cd * cd) = (cr * cr + ci * ci) * nd) :
    ud * vd * (cd * cd * (ad * bd * (ad * bd * (wr * nd)))) = ud * vd * (cd * cd * (ad * bd * (ad * bd * (nr * wd)))) := by
  have l1 : ud * vd * (cd * cd * (ad * bd * (ad * bd * (wr * nd)))) = (wr * (ud * vd)) * (cd * cd * (ad * bd) * (ad * bd) * nd) := by grind
  have l2 : (ur * vr - 0 * 0) * wd * (cd * cd * (ad * bd) * (ad * bd) * nd) = (ur * (ad * ad)) * (vr * (bd * bd)) * (wd * nd * (cd * cd)) := by grind
  have r1 : ud * vd * (cd * cd * (ad * bd * (ad * bd * (nr * wd)))) = (nr * (cd * cd)) * (ud * vd * (ad * bd) * (ad * bd) * wd) := by grind
  have r2 : (cr * cr + ci * ci) * nd * (ud * vd * (ad * bd) * (ad * bd) * wd) = ((cr * (ad * bd)) * (cr * (ad * bd)) + (ci * (ad * bd)) * (ci * (ad * bd))) * (nd * ud * vd * wd) := by grind
  rw [l1, w1, l2, eu, ev, r1, en, r2, e1, e2]; grind

theorem over_of_times {a b c y : Fr} (h : times a b = (c, true)) (hq : over c b = (y, true)) : y = a := by
  obtain ⟨ha, hb, hc, e1, e2⟩ := times_got h
  obtain ⟨-, i, -, ht, hi, n, i1, i2⟩ := over_got hq
  obtain ⟨-, -, hy, f1, f2⟩ := times_got ht
  refine unique hy.2.2.2.2.2.2 ha.2.2.2.2.2.2 hy.den1 ha.den1 ?_ ?_
  · exact cancel (den_mul hc hi) (cancel hb.den1 (cancel n (ring1 e1 e2 rfl i1 i2 f1)))
  · exact cancel (den_mul hc hi) (cancel hb.den1 (cancel n (ring2 e1 e2 rfl i1 i2 f2)))
theorem times_of_over {a b c x : Fr} (h : over a b = (c, true)) (hq : times c b = (x, true)) : x = a := by
  obtain ⟨hb, i, -, ht, hi, n, i1, i2⟩ := over_got h
  obtain ⟨ha, -, hc, f1, f2⟩ := times_got ht
  obtain ⟨-, -, hx, e1, e2⟩ := times_got hq
  refine unique hx.2.2.2.2.2.2 ha.2.2.2.2.2.2 hx.den1 ha.den1 ?_ ?_
  · exact cancel (den_mul hc hb) (cancel hi.den1 (cancel n (ring3 f1 f2 rfl i1 i2 e1)))
  · exact cancel (den_mul hc hb) (cancel hi.den1 (cancel n (ring4 f1 f2 rfl i1 i2 e2)))
theorem power_times_power {a b c u v w n : Fr} (h : times a b = (c, true)) (hu : power a = (u, true)) (hv : power b = (v, true)) (hw : times u v = (w, true)) (hn : power c = (n, true)) : w = n := by
  obtain ⟨ha, hb, hc, e1, e2⟩ := times_got h
  obtain ⟨-, vu, u0, eu⟩ := power_got hu
  obtain ⟨-, vv, v0, ev⟩ := power_got hv
  obtain ⟨-, vn, n0, en⟩ := power_got hn
  obtain ⟨-, -, vw, w1, w2⟩ := times_got hw
  rw [u0, v0] at w1 w2
  have k1 := den_mul ha hb
  refine unique vw.2.2.2.2.2.2 vn.2.2.2.2.2.2 vw.den1 vn.den1 ?_ ?_
  · exact cancel k1 (cancel k1 (cancel (den_mul hc hc) (cancel (den_mul vu vv) (ring5 e1 e2 eu ev w1 en))))
  · have h0 : w.im * (u.den * v.den) = 0 := by rw [w2, Int.mul_zero, Int.zero_mul]; simp
    have k := den_mul vu vv
    have h1 : w.im = 0 := by
      rcases Int.mul_eq_zero.1 h0 with e | e
      · exact e
      · omega
    rw [h1, n0, Int.zero_mul, Int.zero_mul]
theorem sign_neg (n : Int) : sign (-n) = 0 - sign n := by
  unfold sign; split <;> split <;> (try split) <;> omega
theorem compare_got {a b : Fr} {s : Int} (h : compare a b = (s, true)) : Valid a ∧ Valid b ∧ a.im = 0 ∧ b.im = 0 ∧ s = sign (a.re * b.den - b.re * a.den) := by
  unfold compare at h
  split at h
  · rename_i c
    simp only [Bool.and_eq_true, beq_iff_eq] at c
    simp only [Prod.mk.injEq, and_true] at h
    exact ⟨valid_iff.1 c.1.1, valid_iff.1 c.1.2, c.2.1, c.2.2, h.symm⟩
  · cases h
theorem compare_back {a b : Fr} {s : Int} (h : compare a b = (s, true)) : compare b a = (0 - s, true) := by
  obtain ⟨ha, hb, a0, b0, rfl⟩ := compare_got h
  unfold compare
  rw [valid_iff.2 ha, valid_iff.2 hb, a0, b0, if_pos (by decide), ← sign_neg]
  congr 2; omega
theorem compare_zero {a b : Fr} {s : Int} (h : compare a b = (s, true)) : s = 0 ↔ a = b := by
  obtain ⟨ha, hb, a0, b0, rfl⟩ := compare_got h
  constructor
  · intro h0
    have e : a.re * b.den = b.re * a.den := by
      unfold sign at h0; split at h0 <;> (try split at h0) <;> omega
    exact unique ha.2.2.2.2.2.2 hb.2.2.2.2.2.2 ha.den1 hb.den1 e (by rw [a0, b0]; simp)
  · rintro rfl
    simp [sign]
theorem compare_less {a b d : Fr} {s : Int} (h : compare a b = (s, true)) (hd : less a b = (d, true)) : sign d.re = s := by
  obtain ⟨ha, hb, a0, b0, rfl⟩ := compare_got h
  obtain ⟨-, -, hc, e1, e2⟩ := less_got hd
  have k1 := den_mul ha hb
  have k2 := hc.den1
  generalize a.re * b.den - b.re * a.den = n at *
  generalize a.den * b.den = m at *
  generalize d.den = l at *
  unfold sign
  rcases Int.lt_trichotomy n 0 with hn | hn | hn
  · have : n * l < 0 := Int.mul_neg_of_neg_of_pos hn (by omega)
    have : d.re < 0 := by
      rcases Int.lt_or_le d.re 0 with h | h
      · exact h
      · have := Int.mul_nonneg h (show 0 ≤ m by omega); omega
    rw [if_pos hn, if_pos this]
  · subst hn
    rw [Int.zero_mul] at e1
    rcases Int.mul_eq_zero.1 e1 with e | e
    · rw [e]
    · omega
  · have : 0 < n * l := Int.mul_pos hn (by omega)
    have : 0 < d.re := by
      rcases Int.lt_or_le 0 d.re with h | h
      · exact h
      · have := Int.mul_nonneg (show 0 ≤ -d.re by omega) (show 0 ≤ m by omega); rw [Int.neg_mul] at this; omega
    rw [if_neg (show ¬ d.re < 0 by omega), if_pos this, if_neg (show ¬ n < 0 by omega), if_pos hn]
theorem compare_bd {a b : Fr} {s : Int} (h : compare a b = (s, true)) : -1 ≤ s ∧ s ≤ 1 := by
  obtain ⟨_, _, _, _, rfl⟩ := compare_got h
  unfold sign; split <;> (try split) <;> omega
theorem sign_max (n : Int) : max (-1) (min 1 n) = sign n := by unfold sign; split <;> (try split) <;> omega

/-! ### alike -/
def dk (x y : Fr) : Bool := x.re == 0 && x.im == 0 && y.re == 0 && y.im == 0
def eq3 (x y : Fr) : Bool := x.re == y.re && x.im == y.im && x.den == y.den
def alike (a b c d : Fr) : Bool :=
  (valid a && valid b) && (valid c && valid d) && (times a d).2 && (times b c).2 && eq3 (times a d).1 (times b c).1 && (dk a b == dk c d)
theorem dk_valid {x y : Fr} (hx : valid x = true) (hy : valid y = true) : (x.re == 0 && x.im == 0 && x.den == 1 && y.re == 0 && y.im == 0 && y.den == 1) = dk x y := by
  unfold dk
  have h1 := zero_den hx
  have h2 := zero_den hy
  rw [Bool.eq_iff_iff]
  simp only [Bool.and_eq_true, beq_iff_eq]
  constructor
  · rintro ⟨⟨⟨⟨⟨e1, e2⟩, _⟩, e3⟩, e4⟩, _⟩; exact ⟨⟨⟨e1, e2⟩, e3⟩, e4⟩
  · rintro ⟨⟨⟨e1, e2⟩, e3⟩, e4⟩; exact ⟨⟨⟨⟨⟨e1, e2⟩, h1 e1 e2⟩, e3⟩, e4⟩, h2 e3 e4⟩

theorem alike_self {a b : Fr} (h : (valid a && valid b) = true) (ht : (times a b).2 = true) : alike a b a b = true := by
  unfold alike eq3
  rw [times_comm' b a, h, ht]
  simp

end Go.Proofs.YtlhbpjdokkelpaaDoor.PL
