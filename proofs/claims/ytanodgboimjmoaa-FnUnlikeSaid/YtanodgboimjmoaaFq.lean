/-
  PLAIN: the floats that the draws give, as lists of words; facts on them by reckoning. No condition.
-/
import Derived.Test.YtanodgboimjmoaaFr
namespace Go.Proofs.Ytanodgboimjmoaa.FL
open Ieee
open Go.Op.Complex (abs)

/-- The finite wide floats that the draws give. -/
def FLIST : List Nat := [9223372036854775808, 5182576905729208970, 3933566627244108473, 4591870180066957722, 13839561654909534208, 13838998704956112896, 13838435755002691584, 13837872805049270272, 13837309855095848960, 13836746905142427648, 13836183955189006336, 13835621005235585024, 13835058055282163712, 13833932155375321088, 13832806255468478464, 13831680355561635840, 13830554455654793216, 13828302655841107968, 13826050856027422720, 13821547256400052224, 0, 4598175219545276416, 4602678819172646912, 4604930618986332160, 4607182418800017408, 4608308318706860032, 4609434218613702656, 4610560118520545280, 4611686018427387904, 4612248968380809216, 4612811918334230528, 4613374868287651840, 4613937818241073152, 4614500768194494464, 4615063718147915776, 4615626668101337088, 4616189618054758400]
/-- The same, narrowed; and infinity. -/
def L32 : List Nat := [2147483648, 2137108966, 1, 1036831949, 3229614080, 3228565504, 3227516928, 3226468352, 3225419776, 3224371200, 3223322624, 3222274048, 3221225472, 3219128320, 3217031168, 3214934016, 3212836864, 3208642560, 3204448256, 3196059648, 0, 1048576000, 1056964608, 1061158912, 1065353216, 1067450368, 1069547520, 1071644672, 1073741824, 1074790400, 1075838976, 1076887552, 1077936128, 1078984704, 1080033280, 1081081856, 1082130432, 2139095040]
def INF : Nat := 9218868437227405312
def quarters : List Nat := [13839561654909534208, 13838998704956112896, 13838435755002691584, 13837872805049270272, 13837309855095848960, 13836746905142427648, 13836183955189006336, 13835621005235585024, 13835058055282163712, 13833932155375321088, 13832806255468478464, 13831680355561635840, 13830554455654793216, 13828302655841107968, 13826050856027422720, 13821547256400052224, 0, 4598175219545276416, 4602678819172646912, 4604930618986332160, 4607182418800017408, 4608308318706860032, 4609434218613702656, 4610560118520545280, 4611686018427387904, 4612248968380809216, 4612811918334230528, 4613374868287651840, 4613937818241073152, 4614500768194494464, 4615063718147915776, 4615626668101337088, 4616189618054758400]
def Dr (x : Nat) : Prop := x ∈ FLIST ∨ x = INF ∨ isNan x = true
def isNan32 (x : Nat) : Bool := (single.read x).isNaN
def Dr32 (x : Nat) : Prop := x ∈ L32 ∨ isNan32 x = true
theorem quarter_ok : ∀ k : Fin 33, floatBits .quo .f64 (floatOfInt .f64 ((k.val : Int) - 16)) 4616189618054758400 = some (quarters.getD k.val 0) := by decide +kernel
theorem quarter_in : ∀ k : Fin 33, quarters.getD k.val 0 ∈ FLIST := by decide +kernel
theorem quarter (u : Int) (h0 : 0 ≤ u) (h1 : u < 33) : ∃ r, floatBits .quo .f64 (floatOfInt .f64 (u - 16)) 4616189618054758400 = some r ∧ Dr r := by
  obtain ⟨k, rfl⟩ := Int.eq_ofNat_of_zero_le h0
  have hk : k < 33 := by omega
  exact ⟨_, quarter_ok ⟨k, hk⟩, .inl (quarter_in ⟨k, hk⟩)⟩
theorem narrow_all : ((INF :: FLIST).all fun x => (floatToFloatBits .f64 x .f32).elim false fun y => L32.contains y) = true := by decide +kernel
theorem widen_some : (L32.all fun y => (floatToFloatBits .f32 y .f64).isSome) = true := by decide +kernel
def W (y : Nat) : Nat := (floatToFloatBits .f32 y .f64).getD 0
def L64 : List (Nat × Nat) := [(2147483648, 9223372036854775808), (2137108966, 5182576905743761408), (1, 3936146074321813504), (1036831949, 4591870180174331904), (3229614080, 13839561654909534208), (3228565504, 13838998704956112896), (3227516928, 13838435755002691584), (3226468352, 13837872805049270272), (3225419776, 13837309855095848960), (3224371200, 13836746905142427648), (3223322624, 13836183955189006336), (3222274048, 13835621005235585024), (3221225472, 13835058055282163712), (3219128320, 13833932155375321088), (3217031168, 13832806255468478464), (3214934016, 13831680355561635840), (3212836864, 13830554455654793216), (3208642560, 13828302655841107968), (3204448256, 13826050856027422720), (3196059648, 13821547256400052224), (0, 0), (1048576000, 4598175219545276416), (1056964608, 4602678819172646912), (1061158912, 4604930618986332160), (1065353216, 4607182418800017408), (1067450368, 4608308318706860032), (1069547520, 4609434218613702656), (1071644672, 4610560118520545280), (1073741824, 4611686018427387904), (1074790400, 4612248968380809216), (1075838976, 4612811918334230528), (1076887552, 4613374868287651840), (1077936128, 4613937818241073152), (1078984704, 4614500768194494464), (1080033280, 4615063718147915776), (1081081856, 4615626668101337088), (1082130432, 4616189618054758400), (2139095040, 9218868437227405312)]
theorem pairs_all : (L32.all fun x => L64.any fun p => p.1 == x && p.2 == W x) = true := by decide +kernel
theorem order_all : (L64.all fun p => L64.all fun q => (double.order p.2 q.2 == some .eq) == (single.order p.1 q.1 == some .eq)) = true := by decide +kernel
theorem pair_of {x : Nat} (h : x ∈ L32) : (x, W x) ∈ L64 := by
  obtain ⟨⟨a, b⟩, hp, e⟩ := List.any_eq_true.1 (List.all_eq_true.1 pairs_all x h)
  simp only [Bool.and_eq_true, beq_iff_eq] at e
  obtain ⟨rfl, rfl⟩ := e
  exact hp
theorem widen_order {x y : Nat} (hx : x ∈ L32) (hy : y ∈ L32) : (double.order (W x) (W y) == some .eq) = (single.order x y == some .eq) := by
  simpa using List.all_eq_true.1 (List.all_eq_true.1 order_all _ (pair_of hx)) _ (pair_of hy)
theorem fin_all : (FLIST.all fun x => !isNan x) = true := by decide +kernel
theorem fin_list {x : Nat} (h : x ∈ FLIST) : isNan x = false := by simpa using List.all_eq_true.1 fin_all x h
theorem order_symmF (f : Format) (x y : Nat) (h : f.order x y = some .eq) : f.order y x = some .eq := by
  unfold Format.order at h ⊢
  cases ex : f.read x with
  | nan s t => rw [ex] at h; cases h
  | infinity s => cases ey : f.read y with
    | nan s t => rw [ex, ey] at h; cases h
    | infinity t => rw [ex, ey] at h; cases s <;> cases t <;> first | rfl | (exact absurd h (by decide))
    | number t n j => rw [ex, ey] at h; cases s <;> cases h
  | number s m i => cases ey : f.read y with
    | nan s t => rw [ex, ey] at h; cases h
    | infinity t => rw [ex, ey] at h; cases t <;> cases h
    | number t n j =>
      rw [ex, ey] at h
      simp only [Datum.order] at h ⊢
      have h := Option.some.inj h
      rw [Int.compare_eq_eq] at h
      rw [Int.min_comm j i, h]
      simp
theorem eq_symm32 (x y : Nat) : (single.order y x == some .eq) = (single.order x y == some .eq) := by
  rw [Bool.eq_iff_iff]; simp only [beq_iff_eq]
  exact ⟨order_symmF single y x, order_symmF single x y⟩
theorem nan_cut32 (t : Nat) : isNan32 ((t % 2) * 2 ^ 31 + 0x7f800000 + 1 + (t / 2) % (2 ^ 23 - 1)) = true := by
  have h1 : t % 2 < 2 := Nat.mod_lt _ (by decide)
  have h2 : (t / 2) % (2 ^ 23 - 1) < 2 ^ 23 - 1 := Nat.mod_lt _ (by decide)
  generalize t % 2 = a at *
  generalize (t / 2) % (2 ^ 23 - 1) = b at *
  have hs : single.signWeight = 2 ^ 31 := rfl
  have hb : single.binade = 2 ^ 23 := rfl
  have hi : single.infRung = 255 * 2 ^ 23 := rfl
  have e : (a * 2 ^ 31 + 0x7f800000 + 1 + b) % single.signWeight = 0x7f800000 + 1 + b := by rw [hs]; omega
  unfold isNan32 Format.read
  simp only
  rw [e, hb, hi, if_neg (by omega), if_neg (by omega), if_neg (by omega)]
  rfl
theorem isNan32_read {x : Nat} (h : isNan32 x = true) : ∃ s t, single.read x = .nan s t := by
  unfold isNan32 at h
  cases e : single.read x with
  | number s m p => rw [e] at h; cases h
  | infinity s => rw [e] at h; cases h
  | nan s t => exact ⟨s, t, rfl⟩
/-- A drawn float, narrowed, in any world. -/
theorem narrow_run {P : Program} (x : Nat) (h : Dr x) (w : World) : ∃ y n, (Conv.floatToFloat .f64 x .f32).run P w = .ok (.float .f32 y) (w.drewN n) ∧ Dr32 y := by
  have hl : (x ∈ INF :: FLIST) ∨ isNan x = true := by
    rcases h with h | h | h
    · exact .inl (List.mem_cons_of_mem _ h)
    · exact .inl (by rw [h]; exact List.mem_cons_self ..)
    · exact .inr h
  rcases hl with h | h
  · have h1 := List.all_eq_true.1 narrow_all x h
    cases e : floatToFloatBits .f64 x .f32 with
    | none => rw [e] at h1; cases h1
    | some y => rw [e] at h1; exact ⟨y, 0, run_floatToFloat w e, .inl (List.contains_iff_mem.1 h1)⟩
  · obtain ⟨s, t, e⟩ := isNan_read h
    have e' : FloatKind.f64.decode x = .nan s t := e
    refine ⟨_, 1, ?_, .inr (nan_cut32 (w.tape w.drawn (Question.nanConv .f32 x)))⟩
    simp [Conv.floatToFloat, e', Question.forced, Question.cut]; rfl
/-- And widened again. -/
theorem widen_run {P : Program} (y : Nat) (h : Dr32 y) (w : World) : ∃ x n, (Conv.floatToFloat .f32 y .f64).run P w = .ok (.float .f64 x) (w.drewN n) ∧ ((y ∈ L32 ∧ x = W y) ∨ (isNan32 y = true ∧ isNan x = true)) := by
  rcases h with h | h
  · have h1 := List.all_eq_true.1 widen_some y h
    cases e : floatToFloatBits .f32 y .f64 with
    | none => rw [e] at h1; cases h1
    | some x => exact ⟨x, 0, run_floatToFloat w e, .inl ⟨h, by unfold W; rw [e]; rfl⟩⟩
  · obtain ⟨s, t, e⟩ := isNan32_read h
    have e' : FloatKind.f32.decode y = .nan s t := e
    refine ⟨_, 1, ?_, .inr ⟨h, nan_cut (w.tape w.drawn (Question.nanConv .f64 y))⟩⟩
    simp [Conv.floatToFloat, e', Question.forced, Question.cut]; rfl
theorem narrow_complex {P : Program} (src dst : TypeId) (a b : Nat) (hs : P.underlying src = some (.complex .f64)) (hd : P.underlying dst = some (.complex .f32)) (ha : Dr a) (hb : Dr b) (w : World) :
    ∃ x y n, (convert src dst (.complex .f64 a b)).run P w = .ok (.complex .f32 x y) (w.drewN n) ∧ Dr32 x ∧ Dr32 y := by
  obtain ⟨x, m, e1, h1⟩ := narrow_run (P := P) a ha w
  obtain ⟨y, n, e2, h2⟩ := narrow_run (P := P) b hb (w.drewN m)
  refine ⟨x, y, m + n, ?_, h1, h2⟩
  simp [convert, run_underlying hs, run_underlying hd, Conv.complexToComplex, e1, e2]
theorem widen_complex {P : Program} (src dst : TypeId) (a b : Nat) (hs : P.underlying src = some (.complex .f32)) (hd : P.underlying dst = some (.complex .f64)) (ha : Dr32 a) (hb : Dr32 b) (w : World) :
    ∃ x y n, (convert src dst (.complex .f32 a b)).run P w = .ok (.complex .f64 x y) (w.drewN n) ∧ ((a ∈ L32 ∧ x = W a) ∨ (isNan32 a = true ∧ isNan x = true)) ∧ ((b ∈ L32 ∧ y = W b) ∨ (isNan32 b = true ∧ isNan y = true)) := by
  obtain ⟨x, m, e1, h1⟩ := widen_run (P := P) a ha w
  obtain ⟨y, n, e2, h2⟩ := widen_run (P := P) b hb (w.drewN m)
  refine ⟨x, y, m + n, ?_, h1, h2⟩
  simp [convert, run_underlying hs, run_underlying hd, Conv.complexToComplex, e1, e2]
/-- Wide numbers that are equal were equal as single ones. -/
theorem widen_eq {a b x y : Nat} (ha : (a ∈ L32 ∧ x = W a) ∨ (isNan32 a = true ∧ isNan x = true)) (hb : (b ∈ L32 ∧ y = W b) ∨ (isNan32 b = true ∧ isNan y = true))
    (h : (single.order a b == some .eq) = false) : (double.order x y == some .eq) = false := by
  rcases ha with ⟨ha, rfl⟩ | ⟨_, ha⟩
  · rcases hb with ⟨hb, rfl⟩ | ⟨_, hb⟩
    · rw [widen_order ha hb]; exact h
    · rw [order_right hb]; rfl
  · rw [order_left ha]; rfl

def eqO (x : Option Nat) (a : Nat) : Bool := x.elim false fun r => double.order r a == some .eq
theorem mul0_all : (FLIST.all fun b => [some 0, some 9223372036854775808].contains (floatBits .mul .f64 b 0)) = true := by decide +kernel
def over1 (op : BinOp) (a z : Nat) : Option Nat := (floatBits op .f64 a z).bind fun r => floatBits .quo .f64 r 4607182418800017408
theorem over1_all : (FLIST.all fun a => [0, 9223372036854775808].all fun z => eqO (over1 .add a z) a && eqO (over1 .sub a z) a) = true := by decide +kernel
theorem P2_some (op : BinOp) (a b : Nat) : P2 op (some a) (some b) = floatBits op .f64 a b := rfl
theorem over_list (op : BinOp) (hop : op = .add ∨ op = .sub) {a b : Nat} (ha : a ∈ FLIST) (hb : b ∈ FLIST) : eqO (P2 .quo (P2 op (some a) (P2 .mul (some b) (some 0))) (some 4607182418800017408)) a = true := by
  have h1 := List.all_eq_true.1 mul0_all b hb
  have h2 := List.all_eq_true.1 over1_all a ha
  rw [P2_some .mul]
  simp only [List.contains_cons, List.contains_nil, Bool.or_false, Bool.or_eq_true, beq_iff_eq] at h1
  have key : ∀ z ∈ [0, 9223372036854775808], eqO (P2 .quo (P2 op (some a) (some z)) (some 4607182418800017408)) a = true := by
    intro z hz
    have h3 := List.all_eq_true.1 h2 z hz
    rw [Bool.and_eq_true] at h3
    rcases hop with rfl | rfl
    · exact h3.1
    · exact h3.2
  rcases h1 with e | e <;> rw [e]
  · exact key 0 (by simp)
  · exact key _ (by simp)
theorem eqO_some {x : Option Nat} {a : Nat} (h : eqO x a = true) : ∃ r, x = some r ∧ double.order r a = some .eq := by
  cases x with
  | none => cases h
  | some r => exact ⟨r, rfl, by simpa [eqO] using h⟩
theorem bind2 {op : BinOp} {x : Option Nat} {b r : Nat} (h : P2 op x (some b) = some r) : ∃ a, x = some a ∧ floatBits op .f64 a b = some r := by
  cases x with
  | none => cases h
  | some a => exact ⟨a, rfl, h⟩
theorem bind1 {op : BinOp} {x : Option Nat} {a r : Nat} (h : P2 op (some a) x = some r) : ∃ b, x = some b ∧ floatBits op .f64 a b = some r := by
  cases x with
  | none => cases h
  | some b => exact ⟨b, rfl, h⟩
theorem one_parts (op : BinOp) (hop : op = .add ∨ op = .sub) {a b : Nat} (ha : a ∈ FLIST) (hb : b ∈ FLIST) :
    ∃ z r e, floatBits .mul .f64 b 0 = some z ∧ floatBits op .f64 a z = some r ∧ floatBits .quo .f64 r 4607182418800017408 = some e ∧ double.order e a = some .eq := by
  obtain ⟨e, h1, h2⟩ := eqO_some (over_list op hop ha hb)
  obtain ⟨r, h3, h4⟩ := bind2 h1
  obtain ⟨z, h5, h6⟩ := bind1 h3
  exact ⟨z, r, e, h5, h6, h4, h2⟩
/-- A finite drawn number over 1. -/
theorem one_run {P : Program} {a b : Nat} (ha : a ∈ FLIST) (hb : b ∈ FLIST) :
    ∃ e f, (∀ t w, (binOp .quo t (.complex .f64 a b) (.complex .f64 4607182418800017408 0)).run P w = .ok (.complex .f64 e f) w) ∧ double.order e a = some .eq ∧ double.order f b = some .eq := by
  obtain ⟨z, r, e, h1, h2, h3, h4⟩ := one_parts .add (.inl rfl) ha hb
  obtain ⟨z', r', f, k1, k2, k3, k4⟩ := one_parts .sub (.inr rfl) hb ha
  have g1 : floatBits .quo .f64 0 4607182418800017408 = some 0 := by decide +kernel
  have g2 : floatBits .mul .f64 0 0 = some 0 := by decide +kernel
  have g3 : floatBits .add .f64 4607182418800017408 0 = some 4607182418800017408 := by decide +kernel
  have g4 : FloatKind.f64.format.order (abs 4607182418800017408) (abs 0) = some .gt := by decide +kernel
  have g5 : FloatKind.f64.format.order 4607182418800017408 0 = some .gt := by decide +kernel
  have g6 : FloatKind.f64.format.order 0 0 = some .eq := by decide +kernel
  have ne : Op.Complex.isNaN e = false := (order_notnan h4).1
  have c1 : ∀ w, (Op.Complex.cmp .geq .f64 (abs 4607182418800017408) (abs 0)).run P w = .ok true w := fun w => by simp [Op.Complex.cmp, Op.floatCmp, g4]; rfl
  have c2 : ∀ w, (Op.Complex.cmp .eql .f64 4607182418800017408 0).run P w = .ok false w := fun w => by simp [Op.Complex.cmp, Op.floatCmp, g5]; rfl
  have c3 : ∀ w, (Op.Complex.cmp .eql .f64 0 0).run P w = .ok true w := fun w => by simp [Op.Complex.cmp, Op.floatCmp, g6]; rfl
  refine ⟨e, f, fun t w => ?_, h4, k4⟩
  simp [binOp, Op.complexOp, Op.Complex.conv, Op.Complex.quotient, c1, c2, c3, Op.Complex.quo, Op.Complex.mul, Op.Complex.add, Op.Complex.sub, run_carith w g1, run_carith w g2, run_carith w g3, run_carith w h1, run_carith w h2, run_carith w h3, run_carith w k1, run_carith w k2, run_carith w k3, ne]
theorem inf_sub : P2 .sub (N INF) (N INF) = none := by decide +kernel
/-- What is finite lies in the list. -/
theorem dr_fin {x r : Nat} (h : Dr x) (hr : N r = P2 .sub (N x) (N x)) (h0 : double.order r 0 = some .eq) : x ∈ FLIST := by
  have hn := (order_notnan h0).1
  have hN : N r = some r := by unfold N; rw [hn]; rfl
  rcases h with h | h | h
  · exact h
  · rw [h, inf_sub, hN] at hr; cases hr
  · have : N x = none := by unfold N; rw [h]; rfl
    rw [this, hN] at hr; cases hr
end Go.Proofs.Ytanodgboimjmoaa.FL
