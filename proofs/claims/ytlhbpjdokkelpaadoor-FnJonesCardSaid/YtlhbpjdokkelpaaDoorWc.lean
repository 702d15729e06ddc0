/-
  WALKS: lowest terms (the program's lowest and the reference's l2Low). Conditions: sizes up to 8000000000000000000, a bottom from 1 on.
-/
import Derived.Test.YtlhbpjdokkelpaaDoorWb
namespace Go.Proofs.YtlhbpjdokkelpaaDoor
open Go.RowKit
open PL

theorem bcell {W w1 : World} (hb : Below W.heap.size W w1) : (∀ b o, b < W.heap.size → w1.cell? ⟨b, o, none⟩ = W.cell? ⟨b, o, none⟩) ∧ (∀ b o, b < W.heap.size → w1.frozen? ⟨b, o, none⟩ = W.frozen? ⟨b, o, none⟩) :=
  ⟨fun b o h => hb.cell (p := ⟨b, o, none⟩) h, fun b o h => hb.frozen (p := ⟨b, o, none⟩) h⟩

theorem ret_fb {r s : Fr × Bool} (h : r = s) : Ending.returned (.tuple #[.agg #[.int .i64 r.1.re, .int .i64 r.1.im, .int .i64 r.1.den], .bool r.2]) = .returned (.tuple #[.agg #[.int .i64 s.1.re, .int .i64 s.1.im, .int .i64 s.1.den], .bool s.2]) := by rw [h]

/-- A block of three cells, written out: what they hold, and that they may be written. -/
def C3 (w : World) (k : Nat) (x y z : Value) : Prop :=
  w.cell? ⟨k, 0, none⟩ = some x ∧ w.cell? ⟨k, 1, none⟩ = some y ∧ w.cell? ⟨k, 2, none⟩ = some z ∧ w.frozen? ⟨k, 0, none⟩ = false ∧ w.frozen? ⟨k, 1, none⟩ = false ∧ w.frozen? ⟨k, 2, none⟩ = false
theorem C3.below {W w1 : World} {k : Nat} {x y z : Value} (hb : Below W.heap.size W w1) (hk : k < W.heap.size) (h : C3 W k x y z) : C3 w1 k x y z := by
  obtain ⟨h0, h1, h2, h3, h4, h5⟩ := h
  obtain ⟨hc, hf⟩ := bcell hb
  exact ⟨(hc _ _ hk).trans h0, (hc _ _ hk).trans h1, (hc _ _ hk).trans h2, (hf _ _ hk).trans h3, (hf _ _ hk).trans h4, (hf _ _ hk).trans h5⟩
theorem C3.new {w : World} {k : Nat} {x y z : Value} {t : TypeId} (hk : k = w.heap.size) : C3 (w.alloc (.cells #[x, y, z] t)) k x y z := by
  subst hk
  refine ⟨?_, ?_, ?_, ?_, ?_, ?_⟩ <;> simp
theorem C3.alloc {w : World} {k : Nat} {x y z : Value} (h : C3 w k x y z) (hk : k < w.heap.size) (o : Obj) : C3 (w.alloc o) k x y z :=
  C3.below ((Below.refl _ _).alloc (Nat.le_refl _) _) hk h
theorem C3.drewN {w : World} {k : Nat} {x y z : Value} (h : C3 w k x y z) (n : Nat) : C3 (w.drewN n) k x y z := h
theorem C3.drew {w : World} {k : Nat} {x y z : Value} (h : C3 w k x y z) : C3 w.drew k x y z := h

theorem into {B : Nat} {w W w1 : World} (h : Below B w W) (hb : Below W.heap.size W w1) (hB : B ≤ W.heap.size) : Below B w w1 := h.trans (hb.mono hB)

theorem divisor_g (a b g : Int) (w : World) (hg : Hid ((Int.gcd a b : Int) = g)) (h1 : 0 ≤ a) (h2 : 0 ≤ b) (h3 : a ≤ 9000000000000000000) (h4 : b ≤ 9000000000000000000) :
    Calls Tryd.prog 30 #[.int .i64 a, .int .i64 b] w fun e w' => e = .returned (.int .i64 g) ∧ ∃ m, w' = w.drewN m :=
  (divisor_any a b w h1 h2 h3 h4).mono fun _ _ ⟨he, hm⟩ => ⟨by rw [← hg.out]; exact he, hm⟩

theorem l2Gcd_g (a b g : Int) (w : World) (hg : Hid ((Int.gcd a b : Int) = g)) (h1 : -9000000000000000000 ≤ a) (h2 : a ≤ 9000000000000000000) (h3 : -9000000000000000000 ≤ b) (h4 : b ≤ 9000000000000000000) :
    Calls Tryd.prog 34 #[.int .i64 a, .int .i64 b] w fun e w' => e = .returned (.int .i64 g) ∧ w' = w :=
  (l2Gcd_any a b w h1 h2 h3 h4).mono fun _ _ ⟨he, hm⟩ => ⟨by rw [← hg.out]; exact he, hm⟩

set_option maxHeartbeats 2000000 in
theorem lowest_any (re im den p q d : Int) (b : Bool) (w : World) (H : Hid (low re im den = (⟨p, q, d⟩, b)))
    (r1 : -8000000000000000000 ≤ re) (r2 : re ≤ 8000000000000000000) (i1 : -8000000000000000000 ≤ im) (i2 : im ≤ 8000000000000000000) (d1 : 1 ≤ den) (d2 : den ≤ 8000000000000000000) :
    Calls Tryd.prog 19 #[.int .i64 re, .int .i64 im, .int .i64 den] w fun e w' =>
      e = .returned (.tuple #[.agg #[.int .i64 p, .int .i64 q, .int .i64 d], .bool b]) ∧ Below w.heap.size w w' := by
  have hgl := gcd_lt re im den d1
  obtain ⟨g, hg0⟩ : ∃ g : Int, ((Int.gcd ((re.natAbs.gcd im.natAbs : Nat) : Int) den : Nat) : Int) = g := ⟨_, rfl⟩
  have hg4 : ((gcd3 re im den : Nat) : Int) = g := hg0
  have hgn := ngcd_max re.natAbs im.natAbs
  have hg1 : 1 ≤ g := by omega
  have hg2 : g ≤ den := by omega
  have Hg := Lib.hid hg0
  have Hr := Lib.hid (fun h1 h2 h3 h4 h5 => (low_in (re := re) (im := im) (den := den) (g := g) d1 hg4 h1 h2 h3 h4 h5))
  have Ho := Lib.hid (fun h => (low_out (re := re) (im := im) (den := den) (g := g) d1 hg4 h))
  clear hg0 hg4 hgl
  by_cases hx : -2000000000 ≤ re.tdiv g ∧ re.tdiv g ≤ 2000000000
  · obtain ⟨x1, x2⟩ := hx
    by_cases hy : -2000000000 ≤ im.tdiv g ∧ im.tdiv g ≤ 2000000000
    · obtain ⟨y1, y2⟩ := hy
      by_cases hz : den / g ≤ 2000000000
      · have Hf := Lib.hid ((Hr.out x1 x2 y1 y2 hz).symm.trans H.out)
        clear Hr Ho H
        go_enter Tryd.func19, Tryd.ntmps19
        go_wp2_with fail
        refine (size_any _ _ (by omega) (by omega)).mono ?_
        rintro e w' ⟨rfl, rfl⟩
        go_wp2_with fail
        refine (size_any _ _ (by omega) (by omega)).mono ?_
        rintro e w' ⟨rfl, rfl⟩
        go_wp2_with fail
        refine (divisor_any _ _ _ (by omega) (by omega) (by omega) (by omega)).mono ?_
        rintro e w' ⟨rfl, m1, rfl⟩
        go_wp2_with fail
        refine (divisor_g _ _ g _ Hg (by omega) (by omega) (by omega) (by omega)).mono ?_
        rintro e w' ⟨rfl, m2, rfl⟩
        go_wp2_with fail
        go_region
        generalize re.tdiv g = x at *
        generalize im.tdiv g = y at *
        generalize den / g = z at *
        go_wp2_with (go_at_call 29; first | (refine (within_yes _ _ _ _ ?_ ?_).mono ?_; assumption; assumption; rintro e w' ⟨rfl, rfl⟩) | (refine (within_no _ _ _ _ Hn.out).mono ?_; rintro e w' ⟨rfl, rfl⟩))
        go_returns
        exact ⟨ret_fb Hf.out, by (go_grown; all_goals exact below_drewN ((Below.refl _ _).alloc (Nat.le_refl _) _) _)⟩
      · have hz2 : 2000000000 < den / g := by omega
        have Hf := Lib.hid ((Ho.out (by omega)).symm.trans H.out)
        clear Hr Ho H hz
        go_enter Tryd.func19, Tryd.ntmps19
        go_wp2_with fail
        refine (size_any _ _ (by omega) (by omega)).mono ?_
        rintro e w' ⟨rfl, rfl⟩
        go_wp2_with fail
        refine (size_any _ _ (by omega) (by omega)).mono ?_
        rintro e w' ⟨rfl, rfl⟩
        go_wp2_with fail
        refine (divisor_any _ _ _ (by omega) (by omega) (by omega) (by omega)).mono ?_
        rintro e w' ⟨rfl, m1, rfl⟩
        go_wp2_with fail
        refine (divisor_g _ _ g _ Hg (by omega) (by omega) (by omega) (by omega)).mono ?_
        rintro e w' ⟨rfl, m2, rfl⟩
        go_wp2_with fail
        go_region
        generalize re.tdiv g = x at *
        generalize im.tdiv g = y at *
        generalize den / g = z at *
        go_wp2_with (go_at_call 29; first | (refine (within_yes _ _ _ _ ?_ ?_).mono ?_; assumption; assumption; rintro e w' ⟨rfl, rfl⟩) | (refine (within_no _ _ _ _ Hn.out).mono ?_; rintro e w' ⟨rfl, rfl⟩))
        go_returns
        exact ⟨ret_fb Hf.out, by (go_grown; all_goals exact below_drewN ((Below.refl _ _).alloc (Nat.le_refl _) _) _)⟩
    · have hn : im.tdiv g < -2000000000 ∨ 2000000000 < im.tdiv g := by omega
      have Hf := Lib.hid ((Ho.out (by omega)).symm.trans H.out)
      have Hn := Lib.hid hn
      clear Hr Ho H hn hy
      go_enter Tryd.func19, Tryd.ntmps19
      go_wp2_with fail
      refine (size_any _ _ (by omega) (by omega)).mono ?_
      rintro e w' ⟨rfl, rfl⟩
      go_wp2_with fail
      refine (size_any _ _ (by omega) (by omega)).mono ?_
      rintro e w' ⟨rfl, rfl⟩
      go_wp2_with fail
      refine (divisor_any _ _ _ (by omega) (by omega) (by omega) (by omega)).mono ?_
      rintro e w' ⟨rfl, m1, rfl⟩
      go_wp2_with fail
      refine (divisor_g _ _ g _ Hg (by omega) (by omega) (by omega) (by omega)).mono ?_
      rintro e w' ⟨rfl, m2, rfl⟩
      go_wp2_with fail
      go_region
      generalize re.tdiv g = x at *
      generalize im.tdiv g = y at *
      generalize den / g = z at *
      go_wp2_with (go_at_call 29; first | (refine (within_yes _ _ _ _ ?_ ?_).mono ?_; assumption; assumption; rintro e w' ⟨rfl, rfl⟩) | (refine (within_no _ _ _ _ Hn.out).mono ?_; rintro e w' ⟨rfl, rfl⟩))
      go_returns
      exact ⟨ret_fb Hf.out, by (go_grown; all_goals exact below_drewN ((Below.refl _ _).alloc (Nat.le_refl _) _) _)⟩
  · have hn : re.tdiv g < -2000000000 ∨ 2000000000 < re.tdiv g := by omega
    have Hf := Lib.hid ((Ho.out (by omega)).symm.trans H.out)
    have Hn := Lib.hid hn
    clear Hr Ho H hn hx
    go_enter Tryd.func19, Tryd.ntmps19
    go_wp2_with fail
    refine (size_any _ _ (by omega) (by omega)).mono ?_
    rintro e w' ⟨rfl, rfl⟩
    go_wp2_with fail
    refine (size_any _ _ (by omega) (by omega)).mono ?_
    rintro e w' ⟨rfl, rfl⟩
    go_wp2_with fail
    refine (divisor_any _ _ _ (by omega) (by omega) (by omega) (by omega)).mono ?_
    rintro e w' ⟨rfl, m1, rfl⟩
    go_wp2_with fail
    refine (divisor_g _ _ g _ Hg (by omega) (by omega) (by omega) (by omega)).mono ?_
    rintro e w' ⟨rfl, m2, rfl⟩
    go_wp2_with fail
    go_region
    generalize re.tdiv g = x at *
    generalize im.tdiv g = y at *
    generalize den / g = z at *
    go_wp2_with (go_at_call 29; first | (refine (within_yes _ _ _ _ ?_ ?_).mono ?_; assumption; assumption; rintro e w' ⟨rfl, rfl⟩) | (refine (within_no _ _ _ _ Hn.out).mono ?_; rintro e w' ⟨rfl, rfl⟩))
    go_returns
    exact ⟨ret_fb Hf.out, by (go_grown; all_goals exact below_drewN ((Below.refl _ _).alloc (Nat.le_refl _) _) _)⟩

set_option maxHeartbeats 2000000 in
theorem l2Low_any (re im den p q d : Int) (b : Bool) (w : World) (H : Hid (low re im den = (⟨p, q, d⟩, b)))
    (r1 : -8000000000000000000 ≤ re) (r2 : re ≤ 8000000000000000000) (i1 : -8000000000000000000 ≤ im) (i2 : im ≤ 8000000000000000000) (d1 : 1 ≤ den) (d2 : den ≤ 8000000000000000000) :
    Calls Tryd.prog 22 #[.int .i64 re, .int .i64 im, .int .i64 den] w fun e w' =>
      e = .returned (.tuple #[.agg #[.int .i64 p, .int .i64 q, .int .i64 d], .bool b]) ∧ Below w.heap.size w w' := by
  have hgl := gcd_lt re im den d1
  obtain ⟨g, hg0⟩ : ∃ g : Int, ((Int.gcd ((Int.gcd den re : Nat) : Int) im : Nat) : Int) = g := ⟨_, rfl⟩
  have hg4 : ((gcd3 re im den : Nat) : Int) = g := by rw [← hg0, gcd_spec]
  have hgn := igcd_max den re
  have hg1 : 1 ≤ g := by omega
  have hg2 : g ≤ den := by omega
  have Hg := Lib.hid hg0
  have Hr := Lib.hid (red_of_g (re := re) (im := im) (den := den) (g := g) d1 hg4)
  clear hg0 hg4 hgl
  rcases low_cases re im den with ⟨he, hv⟩ | ⟨he, hv⟩
  · have Hf := Lib.hid (he.symm.trans H.out)
    rw [Hr.out] at Hf
    have HV := Lib.hid (valid_iff.2 hv)
    clear H he hv
    go_enter Tryd.func22, Tryd.ntmps22
    go_wp2_with fail
    refine (l2Gcd_any _ _ _ (by omega) (by omega) (by omega) (by omega)).mono ?_
    rintro e w' ⟨rfl, rfl⟩
    go_wp2_with fail
    refine (l2Gcd_g _ _ g _ Hg (by omega) (by omega) (by omega) (by omega)).mono ?_
    rintro e w' ⟨rfl, rfl⟩
    go_wp2_with fail
    go_region
    generalize re.tdiv g = x at *
    generalize im.tdiv g = y at *
    generalize den / g = z at *
    go_wp2_with fail
    refine (svalid_any _ _ _ true _ (by rw [← Hr.out]; exact HV.out)).mono ?_
    rintro e w' ⟨rfl, hb⟩
    have HB : Below w.heap.size w w' := into (by go_grown) hb (by simp; omega)
    obtain ⟨t0, t1, t2, t3, t4, t5⟩ := C3.below hb (k := w.heap.size) (by simp; omega) (C3.drew (C3.alloc (C3.new (by simp)) (by simp) _))
    obtain ⟨s0, s1, s2, s3, s4, s5⟩ := C3.below hb (k := w.heap.size + 1) (by simp) (C3.drew (C3.new (by simp)))
    go_wp2_with fail
    refine bodyPost_ret (by simp [results, Tryd.results22, go_sem, t0, t1, t2]; rfl) rfl ?_
    exact ⟨ret_fb Hf.out, by go_grown⟩
  · have Hf := Lib.hid (he.symm.trans H.out)
    have HV := Lib.hid (valid_not hv)
    clear H he hv
    go_enter Tryd.func22, Tryd.ntmps22
    go_wp2_with fail
    refine (l2Gcd_any _ _ _ (by omega) (by omega) (by omega) (by omega)).mono ?_
    rintro e w' ⟨rfl, rfl⟩
    go_wp2_with fail
    refine (l2Gcd_g _ _ g _ Hg (by omega) (by omega) (by omega) (by omega)).mono ?_
    rintro e w' ⟨rfl, rfl⟩
    go_wp2_with fail
    go_region
    generalize re.tdiv g = x at *
    generalize im.tdiv g = y at *
    generalize den / g = z at *
    go_wp2_with fail
    refine (svalid_any _ _ _ false _ (by rw [← Hr.out]; exact HV.out)).mono ?_
    rintro e w' ⟨rfl, hb⟩
    have HB : Below w.heap.size w w' := into (by go_grown) hb (by simp; omega)
    obtain ⟨t0, t1, t2, t3, t4, t5⟩ := C3.below hb (k := w.heap.size) (by simp; omega) (C3.drew (C3.alloc (C3.new (by simp)) (by simp) _))
    obtain ⟨s0, s1, s2, s3, s4, s5⟩ := C3.below hb (k := w.heap.size + 1) (by simp) (C3.drew (C3.new (by simp)))
    go_wp2_with fail
    refine bodyPost_ret (by simp [results, Tryd.results22, go_sem, t0, t1, t2]; rfl) rfl ?_
    exact ⟨ret_fb Hf.out, by go_grown⟩

end Go.Proofs.YtlhbpjdokkelpaaDoor
