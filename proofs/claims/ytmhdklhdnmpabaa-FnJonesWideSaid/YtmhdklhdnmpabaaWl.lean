/-
  WALKS: wide numbers of a vector, and whether they fit (the program's and the reference's). No condition.
-/
import Derived.Test.YtmhdklhdnmpabaaWh
import Derived.Test.YtmhdklhdnmpabaaWk
namespace Go.Proofs.Ytmhdklhdnmpabaa
open Go.RowKit
open PL

def jwide (x y : Fr) : ((Nat × Nat) × (Nat × Nat)) × Bool := if (wide x).2 && (wide y).2 then (((wide x).1, (wide y).1), true) else (((0, 0), (0, 0)), false)
theorem wide_ok {a : Fr} {r : Nat × Nat} {o : Bool} (h : wide a = (r, o)) : valid a = o := by
  unfold wide at h
  split at h
  · rename_i v; simp only [Prod.mk.injEq] at h; rw [v]; exact h.2
  · rename_i v; simp only [Prod.mk.injEq] at h; rw [← h.2]; simpa using v
theorem jwide_num {x y : Fr} {x1 x2 y1 y2 : Nat} {b : Bool} (h : jwide x y = (((x1, x2), (y1, y2)), b)) :
    (FL.Num Ieee.double (-15) x1 ∧ FL.Num Ieee.double (-15) x2) ∧ FL.Num Ieee.double (-15) y1 ∧ FL.Num Ieee.double (-15) y2 := by
  unfold jwide at h
  split at h
  · simp only [Prod.mk.injEq] at h
    obtain ⟨⟨h1, h2⟩, _⟩ := h
    exact ⟨wide_num (a := x) (b := (wide x).2) (by rw [← h1]), wide_num (a := y) (b := (wide y).2) (by rw [← h2])⟩
  · simp only [Prod.mk.injEq] at h
    obtain ⟨⟨⟨rfl, rfl⟩, rfl, rfl⟩, _⟩ := h
    have z := FL.num_zero.mono (show (-20 : Int) ≤ -15 by decide)
    exact ⟨⟨z, z⟩, z, z⟩
def eqw (p q : Nat) : Bool := (FloatKind.f64.format.order (w64 (n32 p)) p == some .eq) && (FloatKind.f64.format.order (w64 (n32 q)) q == some .eq)
def jfits (x y : Fr) : Bool := ((jwide x y).2 && eqw (jwide x y).1.1.1 (jwide x y).1.1.2) && eqw (jwide x y).1.2.1 (jwide x y).1.2.2
theorem ret_jw {r s : ((Nat × Nat) × (Nat × Nat)) × Bool} (h : r = s) : Ending.returned (.tuple #[.complex .f64 r.1.1.1 r.1.1.2, .complex .f64 r.1.2.1 r.1.2.2, .bool r.2]) = .returned (.tuple #[.complex .f64 s.1.1.1 s.1.1.2, .complex .f64 s.1.2.1 s.1.2.2, .bool s.2]) := by rw [h]

set_option maxHeartbeats 1000000 in
theorem jwide_any (a1 a2 a3 a4 a5 a6 : Int) (x1 x2 y1 y2 : Nat) (b : Bool) (w : World) (H : Hid (jwide ⟨a1, a2, a3⟩ ⟨a4, a5, a6⟩ = (((x1, x2), (y1, y2)), b))) :
    Calls Try.prog 20 #[.agg #[.int .i64 a1, .int .i64 a2, .int .i64 a3, .int .i64 a4, .int .i64 a5, .int .i64 a6]] w fun e w' => e = .returned (.tuple #[.complex .f64 x1 x2, .complex .f64 y1 y2, .bool b]) ∧ Below w.heap.size w w' := by
  obtain ⟨⟨u1, u2⟩, o1, h1⟩ : ∃ r o, wide ⟨a1, a2, a3⟩ = (r, o) := ⟨_, _, rfl⟩
  obtain ⟨⟨v1, v2⟩, o2, h2⟩ : ∃ r o, wide ⟨a4, a5, a6⟩ = (r, o) := ⟨_, _, rfl⟩
  have H1 := Lib.hid h1
  have H2 := Lib.hid h2
  cases o1
  · cases o2
    · have HL : Hid ((((0, 0), (0, 0)), false) = (((x1, x2), (y1, y2)), b)) := by have h := H.out; unfold jwide at h; rw [h1, h2] at h; exact h
      have HV : Hid ((valid ⟨a1, a2, a3⟩ && valid ⟨a4, a5, a6⟩) = (false && false)) := by unfold Hid; rw [wide_ok h1, wide_ok h2]
      clear h1 h2 H
      go_enter Try.func20, Try.ntmps20
      go_wp2_with fail
      refine (jvalid_any _ _ _ _ _ _ false _ HV).mono ?_
      rintro e w0 ⟨rfl, hbw0⟩
      have Tw0 : TL w [(w.heap.size, [.int .i64 a1, .int .i64 a2, .int .i64 a3, .int .i64 a4, .int .i64 a5, .int .i64 a6])] w0 := TL.below (TL.new (t := 43) (TL.refl w) rfl) hbw0
      clear hbw0
      have Bw0 := Tw0.1.1
      have xw000 : w0.cell? ⟨w.heap.size, 0, none⟩ = some (.int .i64 a1) := Tw0.2.1.2.1.1
      have xw001 : w0.cell? ⟨w.heap.size, 1, none⟩ = some (.int .i64 a2) := Tw0.2.1.2.2.1.1
      have xw002 : w0.cell? ⟨w.heap.size, 2, none⟩ = some (.int .i64 a3) := Tw0.2.1.2.2.2.1.1
      have xw003 : w0.cell? ⟨w.heap.size, 3, none⟩ = some (.int .i64 a4) := Tw0.2.1.2.2.2.2.1.1
      have xw004 : w0.cell? ⟨w.heap.size, 4, none⟩ = some (.int .i64 a5) := Tw0.2.1.2.2.2.2.2.1.1
      have xw005 : w0.cell? ⟨w.heap.size, 5, none⟩ = some (.int .i64 a6) := Tw0.2.1.2.2.2.2.2.2.1.1
      have lw00 := Tw0.2.1.1
      go_wp2_with fail
      go_ret3
      exact ⟨ret_jw HL.out, Bw0⟩
    · have HL : Hid ((((0, 0), (0, 0)), false) = (((x1, x2), (y1, y2)), b)) := by have h := H.out; unfold jwide at h; rw [h1, h2] at h; exact h
      have HV : Hid ((valid ⟨a1, a2, a3⟩ && valid ⟨a4, a5, a6⟩) = (false && true)) := by unfold Hid; rw [wide_ok h1, wide_ok h2]
      clear h1 h2 H
      go_enter Try.func20, Try.ntmps20
      go_wp2_with fail
      refine (jvalid_any _ _ _ _ _ _ false _ HV).mono ?_
      rintro e w0 ⟨rfl, hbw0⟩
      have Tw0 : TL w [(w.heap.size, [.int .i64 a1, .int .i64 a2, .int .i64 a3, .int .i64 a4, .int .i64 a5, .int .i64 a6])] w0 := TL.below (TL.new (t := 43) (TL.refl w) rfl) hbw0
      clear hbw0
      have Bw0 := Tw0.1.1
      have xw000 : w0.cell? ⟨w.heap.size, 0, none⟩ = some (.int .i64 a1) := Tw0.2.1.2.1.1
      have xw001 : w0.cell? ⟨w.heap.size, 1, none⟩ = some (.int .i64 a2) := Tw0.2.1.2.2.1.1
      have xw002 : w0.cell? ⟨w.heap.size, 2, none⟩ = some (.int .i64 a3) := Tw0.2.1.2.2.2.1.1
      have xw003 : w0.cell? ⟨w.heap.size, 3, none⟩ = some (.int .i64 a4) := Tw0.2.1.2.2.2.2.1.1
      have xw004 : w0.cell? ⟨w.heap.size, 4, none⟩ = some (.int .i64 a5) := Tw0.2.1.2.2.2.2.2.1.1
      have xw005 : w0.cell? ⟨w.heap.size, 5, none⟩ = some (.int .i64 a6) := Tw0.2.1.2.2.2.2.2.2.1.1
      have lw00 := Tw0.2.1.1
      go_wp2_with fail
      go_ret3
      exact ⟨ret_jw HL.out, Bw0⟩
  · cases o2
    · have HL : Hid ((((0, 0), (0, 0)), false) = (((x1, x2), (y1, y2)), b)) := by have h := H.out; unfold jwide at h; rw [h1, h2] at h; exact h
      have HV : Hid ((valid ⟨a1, a2, a3⟩ && valid ⟨a4, a5, a6⟩) = (true && false)) := by unfold Hid; rw [wide_ok h1, wide_ok h2]
      clear h1 h2 H
      go_enter Try.func20, Try.ntmps20
      go_wp2_with fail
      refine (jvalid_any _ _ _ _ _ _ false _ HV).mono ?_
      rintro e w0 ⟨rfl, hbw0⟩
      have Tw0 : TL w [(w.heap.size, [.int .i64 a1, .int .i64 a2, .int .i64 a3, .int .i64 a4, .int .i64 a5, .int .i64 a6])] w0 := TL.below (TL.new (t := 43) (TL.refl w) rfl) hbw0
      clear hbw0
      have Bw0 := Tw0.1.1
      have xw000 : w0.cell? ⟨w.heap.size, 0, none⟩ = some (.int .i64 a1) := Tw0.2.1.2.1.1
      have xw001 : w0.cell? ⟨w.heap.size, 1, none⟩ = some (.int .i64 a2) := Tw0.2.1.2.2.1.1
      have xw002 : w0.cell? ⟨w.heap.size, 2, none⟩ = some (.int .i64 a3) := Tw0.2.1.2.2.2.1.1
      have xw003 : w0.cell? ⟨w.heap.size, 3, none⟩ = some (.int .i64 a4) := Tw0.2.1.2.2.2.2.1.1
      have xw004 : w0.cell? ⟨w.heap.size, 4, none⟩ = some (.int .i64 a5) := Tw0.2.1.2.2.2.2.2.1.1
      have xw005 : w0.cell? ⟨w.heap.size, 5, none⟩ = some (.int .i64 a6) := Tw0.2.1.2.2.2.2.2.2.1.1
      have lw00 := Tw0.2.1.1
      go_wp2_with fail
      go_ret3
      exact ⟨ret_jw HL.out, Bw0⟩
    · have HL : Hid ((((u1, u2), (v1, v2)), true) = (((x1, x2), (y1, y2)), b)) := by have h := H.out; unfold jwide at h; rw [h1, h2] at h; exact h
      have HV : Hid ((valid ⟨a1, a2, a3⟩ && valid ⟨a4, a5, a6⟩) = (true && true)) := by unfold Hid; rw [wide_ok h1, wide_ok h2]
      clear h1 h2 H
      go_enter Try.func20, Try.ntmps20
      go_wp2_with fail
      refine (jvalid_any _ _ _ _ _ _ true _ HV).mono ?_
      rintro e w0 ⟨rfl, hbw0⟩
      have Tw0 : TL w [(w.heap.size, [.int .i64 a1, .int .i64 a2, .int .i64 a3, .int .i64 a4, .int .i64 a5, .int .i64 a6])] w0 := TL.below (TL.new (t := 43) (TL.refl w) rfl) hbw0
      clear hbw0
      have Bw0 := Tw0.1.1
      have xw000 : w0.cell? ⟨w.heap.size, 0, none⟩ = some (.int .i64 a1) := Tw0.2.1.2.1.1
      have xw001 : w0.cell? ⟨w.heap.size, 1, none⟩ = some (.int .i64 a2) := Tw0.2.1.2.2.1.1
      have xw002 : w0.cell? ⟨w.heap.size, 2, none⟩ = some (.int .i64 a3) := Tw0.2.1.2.2.2.1.1
      have xw003 : w0.cell? ⟨w.heap.size, 3, none⟩ = some (.int .i64 a4) := Tw0.2.1.2.2.2.2.1.1
      have xw004 : w0.cell? ⟨w.heap.size, 4, none⟩ = some (.int .i64 a5) := Tw0.2.1.2.2.2.2.2.1.1
      have xw005 : w0.cell? ⟨w.heap.size, 5, none⟩ = some (.int .i64 a6) := Tw0.2.1.2.2.2.2.2.2.1.1
      have lw00 := Tw0.2.1.1
      go_wp2_with fail
      refine (wide_any _ _ _ u1 u2 true _ H1).mono ?_
      rintro e w1 ⟨rfl, hbw1⟩
      have Tw1 : TL w [(w.heap.size, [.int .i64 a1, .int .i64 a2, .int .i64 a3, .int .i64 a4, .int .i64 a5, .int .i64 a6])] w1 := TL.below (Tw0) hbw1
      clear hbw1
      have Bw1 := Tw1.1.1
      have xw100 : w1.cell? ⟨w.heap.size, 0, none⟩ = some (.int .i64 a1) := Tw1.2.1.2.1.1
      have xw101 : w1.cell? ⟨w.heap.size, 1, none⟩ = some (.int .i64 a2) := Tw1.2.1.2.2.1.1
      have xw102 : w1.cell? ⟨w.heap.size, 2, none⟩ = some (.int .i64 a3) := Tw1.2.1.2.2.2.1.1
      have xw103 : w1.cell? ⟨w.heap.size, 3, none⟩ = some (.int .i64 a4) := Tw1.2.1.2.2.2.2.1.1
      have xw104 : w1.cell? ⟨w.heap.size, 4, none⟩ = some (.int .i64 a5) := Tw1.2.1.2.2.2.2.2.1.1
      have xw105 : w1.cell? ⟨w.heap.size, 5, none⟩ = some (.int .i64 a6) := Tw1.2.1.2.2.2.2.2.2.1.1
      have lw10 := Tw1.2.1.1
      go_wp2_with fail
      refine (wide_any _ _ _ v1 v2 true _ H2).mono ?_
      rintro e w2 ⟨rfl, hbw2⟩
      have Tw2 : TL w [(w.heap.size, [.int .i64 a1, .int .i64 a2, .int .i64 a3, .int .i64 a4, .int .i64 a5, .int .i64 a6])] w2 := TL.below (Tw1) hbw2
      clear hbw2
      have Bw2 := Tw2.1.1
      have xw200 : w2.cell? ⟨w.heap.size, 0, none⟩ = some (.int .i64 a1) := Tw2.2.1.2.1.1
      have xw201 : w2.cell? ⟨w.heap.size, 1, none⟩ = some (.int .i64 a2) := Tw2.2.1.2.2.1.1
      have xw202 : w2.cell? ⟨w.heap.size, 2, none⟩ = some (.int .i64 a3) := Tw2.2.1.2.2.2.1.1
      have xw203 : w2.cell? ⟨w.heap.size, 3, none⟩ = some (.int .i64 a4) := Tw2.2.1.2.2.2.2.1.1
      have xw204 : w2.cell? ⟨w.heap.size, 4, none⟩ = some (.int .i64 a5) := Tw2.2.1.2.2.2.2.2.1.1
      have xw205 : w2.cell? ⟨w.heap.size, 5, none⟩ = some (.int .i64 a6) := Tw2.2.1.2.2.2.2.2.2.1.1
      have lw20 := Tw2.2.1.1
      go_wp2_with fail
      go_ret3
      exact ⟨ret_jw HL.out, Bw2⟩

set_option maxHeartbeats 1000000 in
theorem sjwide_any (a1 a2 a3 a4 a5 a6 : Int) (x1 x2 y1 y2 : Nat) (b : Bool) (w : World) (H : Hid (jwide ⟨a1, a2, a3⟩ ⟨a4, a5, a6⟩ = (((x1, x2), (y1, y2)), b))) :
    Calls Try.prog 21 #[.agg #[.int .i64 a1, .int .i64 a2, .int .i64 a3, .int .i64 a4, .int .i64 a5, .int .i64 a6]] w fun e w' => e = .returned (.tuple #[.complex .f64 x1 x2, .complex .f64 y1 y2, .bool b]) ∧ Below w.heap.size w w' := by
  obtain ⟨⟨u1, u2⟩, o1, h1⟩ : ∃ r o, wide ⟨a1, a2, a3⟩ = (r, o) := ⟨_, _, rfl⟩
  obtain ⟨⟨v1, v2⟩, o2, h2⟩ : ∃ r o, wide ⟨a4, a5, a6⟩ = (r, o) := ⟨_, _, rfl⟩
  have H1 := Lib.hid h1
  have H2 := Lib.hid h2
  cases o1
  · cases o2
    · have HL : Hid ((((0, 0), (0, 0)), false) = (((x1, x2), (y1, y2)), b)) := by have h := H.out; unfold jwide at h; rw [h1, h2] at h; exact h
      clear h1 h2 H
      go_enter Try.func21, Try.ntmps21
      go_wp2_with fail
      refine (swide_any _ _ _ u1 u2 false _ H1).mono ?_
      rintro e w1 ⟨rfl, hbw1⟩
      have Tw1 : TL w [(w.heap.size, [.int .i64 a1, .int .i64 a2, .int .i64 a3, .int .i64 a4, .int .i64 a5, .int .i64 a6])] w1 := TL.below (TL.new (t := 43) (TL.refl w) rfl) hbw1
      clear hbw1
      have Bw1 := Tw1.1.1
      have xw100 : w1.cell? ⟨w.heap.size, 0, none⟩ = some (.int .i64 a1) := Tw1.2.1.2.1.1
      have xw101 : w1.cell? ⟨w.heap.size, 1, none⟩ = some (.int .i64 a2) := Tw1.2.1.2.2.1.1
      have xw102 : w1.cell? ⟨w.heap.size, 2, none⟩ = some (.int .i64 a3) := Tw1.2.1.2.2.2.1.1
      have xw103 : w1.cell? ⟨w.heap.size, 3, none⟩ = some (.int .i64 a4) := Tw1.2.1.2.2.2.2.1.1
      have xw104 : w1.cell? ⟨w.heap.size, 4, none⟩ = some (.int .i64 a5) := Tw1.2.1.2.2.2.2.2.1.1
      have xw105 : w1.cell? ⟨w.heap.size, 5, none⟩ = some (.int .i64 a6) := Tw1.2.1.2.2.2.2.2.2.1.1
      have lw10 := Tw1.2.1.1
      go_wp2_with fail
      refine (swide_any _ _ _ v1 v2 false _ H2).mono ?_
      rintro e w2 ⟨rfl, hbw2⟩
      have Tw2 : TL w [(w.heap.size, [.int .i64 a1, .int .i64 a2, .int .i64 a3, .int .i64 a4, .int .i64 a5, .int .i64 a6])] w2 := TL.below (Tw1) hbw2
      clear hbw2
      have Bw2 := Tw2.1.1
      have xw200 : w2.cell? ⟨w.heap.size, 0, none⟩ = some (.int .i64 a1) := Tw2.2.1.2.1.1
      have xw201 : w2.cell? ⟨w.heap.size, 1, none⟩ = some (.int .i64 a2) := Tw2.2.1.2.2.1.1
      have xw202 : w2.cell? ⟨w.heap.size, 2, none⟩ = some (.int .i64 a3) := Tw2.2.1.2.2.2.1.1
      have xw203 : w2.cell? ⟨w.heap.size, 3, none⟩ = some (.int .i64 a4) := Tw2.2.1.2.2.2.2.1.1
      have xw204 : w2.cell? ⟨w.heap.size, 4, none⟩ = some (.int .i64 a5) := Tw2.2.1.2.2.2.2.2.1.1
      have xw205 : w2.cell? ⟨w.heap.size, 5, none⟩ = some (.int .i64 a6) := Tw2.2.1.2.2.2.2.2.2.1.1
      have lw20 := Tw2.2.1.1
      go_wp2_with fail
      go_ret3
      exact ⟨ret_jw HL.out, Bw2⟩
    · have HL : Hid ((((0, 0), (0, 0)), false) = (((x1, x2), (y1, y2)), b)) := by have h := H.out; unfold jwide at h; rw [h1, h2] at h; exact h
      clear h1 h2 H
      go_enter Try.func21, Try.ntmps21
      go_wp2_with fail
      refine (swide_any _ _ _ u1 u2 false _ H1).mono ?_
      rintro e w1 ⟨rfl, hbw1⟩
      have Tw1 : TL w [(w.heap.size, [.int .i64 a1, .int .i64 a2, .int .i64 a3, .int .i64 a4, .int .i64 a5, .int .i64 a6])] w1 := TL.below (TL.new (t := 43) (TL.refl w) rfl) hbw1
      clear hbw1
      have Bw1 := Tw1.1.1
      have xw100 : w1.cell? ⟨w.heap.size, 0, none⟩ = some (.int .i64 a1) := Tw1.2.1.2.1.1
      have xw101 : w1.cell? ⟨w.heap.size, 1, none⟩ = some (.int .i64 a2) := Tw1.2.1.2.2.1.1
      have xw102 : w1.cell? ⟨w.heap.size, 2, none⟩ = some (.int .i64 a3) := Tw1.2.1.2.2.2.1.1
      have xw103 : w1.cell? ⟨w.heap.size, 3, none⟩ = some (.int .i64 a4) := Tw1.2.1.2.2.2.2.1.1
      have xw104 : w1.cell? ⟨w.heap.size, 4, none⟩ = some (.int .i64 a5) := Tw1.2.1.2.2.2.2.2.1.1
      have xw105 : w1.cell? ⟨w.heap.size, 5, none⟩ = some (.int .i64 a6) := Tw1.2.1.2.2.2.2.2.2.1.1
      have lw10 := Tw1.2.1.1
      go_wp2_with fail
      refine (swide_any _ _ _ v1 v2 true _ H2).mono ?_
      rintro e w2 ⟨rfl, hbw2⟩
      have Tw2 : TL w [(w.heap.size, [.int .i64 a1, .int .i64 a2, .int .i64 a3, .int .i64 a4, .int .i64 a5, .int .i64 a6])] w2 := TL.below (Tw1) hbw2
      clear hbw2
      have Bw2 := Tw2.1.1
      have xw200 : w2.cell? ⟨w.heap.size, 0, none⟩ = some (.int .i64 a1) := Tw2.2.1.2.1.1
      have xw201 : w2.cell? ⟨w.heap.size, 1, none⟩ = some (.int .i64 a2) := Tw2.2.1.2.2.1.1
      have xw202 : w2.cell? ⟨w.heap.size, 2, none⟩ = some (.int .i64 a3) := Tw2.2.1.2.2.2.1.1
      have xw203 : w2.cell? ⟨w.heap.size, 3, none⟩ = some (.int .i64 a4) := Tw2.2.1.2.2.2.2.1.1
      have xw204 : w2.cell? ⟨w.heap.size, 4, none⟩ = some (.int .i64 a5) := Tw2.2.1.2.2.2.2.2.1.1
      have xw205 : w2.cell? ⟨w.heap.size, 5, none⟩ = some (.int .i64 a6) := Tw2.2.1.2.2.2.2.2.2.1.1
      have lw20 := Tw2.2.1.1
      go_wp2_with fail
      go_ret3
      exact ⟨ret_jw HL.out, Bw2⟩
  · cases o2
    · have HL : Hid ((((0, 0), (0, 0)), false) = (((x1, x2), (y1, y2)), b)) := by have h := H.out; unfold jwide at h; rw [h1, h2] at h; exact h
      clear h1 h2 H
      go_enter Try.func21, Try.ntmps21
      go_wp2_with fail
      refine (swide_any _ _ _ u1 u2 true _ H1).mono ?_
      rintro e w1 ⟨rfl, hbw1⟩
      have Tw1 : TL w [(w.heap.size, [.int .i64 a1, .int .i64 a2, .int .i64 a3, .int .i64 a4, .int .i64 a5, .int .i64 a6])] w1 := TL.below (TL.new (t := 43) (TL.refl w) rfl) hbw1
      clear hbw1
      have Bw1 := Tw1.1.1
      have xw100 : w1.cell? ⟨w.heap.size, 0, none⟩ = some (.int .i64 a1) := Tw1.2.1.2.1.1
      have xw101 : w1.cell? ⟨w.heap.size, 1, none⟩ = some (.int .i64 a2) := Tw1.2.1.2.2.1.1
      have xw102 : w1.cell? ⟨w.heap.size, 2, none⟩ = some (.int .i64 a3) := Tw1.2.1.2.2.2.1.1
      have xw103 : w1.cell? ⟨w.heap.size, 3, none⟩ = some (.int .i64 a4) := Tw1.2.1.2.2.2.2.1.1
      have xw104 : w1.cell? ⟨w.heap.size, 4, none⟩ = some (.int .i64 a5) := Tw1.2.1.2.2.2.2.2.1.1
      have xw105 : w1.cell? ⟨w.heap.size, 5, none⟩ = some (.int .i64 a6) := Tw1.2.1.2.2.2.2.2.2.1.1
      have lw10 := Tw1.2.1.1
      go_wp2_with fail
      refine (swide_any _ _ _ v1 v2 false _ H2).mono ?_
      rintro e w2 ⟨rfl, hbw2⟩
      have Tw2 : TL w [(w.heap.size, [.int .i64 a1, .int .i64 a2, .int .i64 a3, .int .i64 a4, .int .i64 a5, .int .i64 a6])] w2 := TL.below (Tw1) hbw2
      clear hbw2
      have Bw2 := Tw2.1.1
      have xw200 : w2.cell? ⟨w.heap.size, 0, none⟩ = some (.int .i64 a1) := Tw2.2.1.2.1.1
      have xw201 : w2.cell? ⟨w.heap.size, 1, none⟩ = some (.int .i64 a2) := Tw2.2.1.2.2.1.1
      have xw202 : w2.cell? ⟨w.heap.size, 2, none⟩ = some (.int .i64 a3) := Tw2.2.1.2.2.2.1.1
      have xw203 : w2.cell? ⟨w.heap.size, 3, none⟩ = some (.int .i64 a4) := Tw2.2.1.2.2.2.2.1.1
      have xw204 : w2.cell? ⟨w.heap.size, 4, none⟩ = some (.int .i64 a5) := Tw2.2.1.2.2.2.2.2.1.1
      have xw205 : w2.cell? ⟨w.heap.size, 5, none⟩ = some (.int .i64 a6) := Tw2.2.1.2.2.2.2.2.2.1.1
      have lw20 := Tw2.2.1.1
      go_wp2_with fail
      go_ret3
      exact ⟨ret_jw HL.out, Bw2⟩
    · have HL : Hid ((((u1, u2), (v1, v2)), true) = (((x1, x2), (y1, y2)), b)) := by have h := H.out; unfold jwide at h; rw [h1, h2] at h; exact h
      clear h1 h2 H
      go_enter Try.func21, Try.ntmps21
      go_wp2_with fail
      refine (swide_any _ _ _ u1 u2 true _ H1).mono ?_
      rintro e w1 ⟨rfl, hbw1⟩
      have Tw1 : TL w [(w.heap.size, [.int .i64 a1, .int .i64 a2, .int .i64 a3, .int .i64 a4, .int .i64 a5, .int .i64 a6])] w1 := TL.below (TL.new (t := 43) (TL.refl w) rfl) hbw1
      clear hbw1
      have Bw1 := Tw1.1.1
      have xw100 : w1.cell? ⟨w.heap.size, 0, none⟩ = some (.int .i64 a1) := Tw1.2.1.2.1.1
      have xw101 : w1.cell? ⟨w.heap.size, 1, none⟩ = some (.int .i64 a2) := Tw1.2.1.2.2.1.1
      have xw102 : w1.cell? ⟨w.heap.size, 2, none⟩ = some (.int .i64 a3) := Tw1.2.1.2.2.2.1.1
      have xw103 : w1.cell? ⟨w.heap.size, 3, none⟩ = some (.int .i64 a4) := Tw1.2.1.2.2.2.2.1.1
      have xw104 : w1.cell? ⟨w.heap.size, 4, none⟩ = some (.int .i64 a5) := Tw1.2.1.2.2.2.2.2.1.1
      have xw105 : w1.cell? ⟨w.heap.size, 5, none⟩ = some (.int .i64 a6) := Tw1.2.1.2.2.2.2.2.2.1.1
      have lw10 := Tw1.2.1.1
      go_wp2_with fail
      refine (swide_any _ _ _ v1 v2 true _ H2).mono ?_
      rintro e w2 ⟨rfl, hbw2⟩
      have Tw2 : TL w [(w.heap.size, [.int .i64 a1, .int .i64 a2, .int .i64 a3, .int .i64 a4, .int .i64 a5, .int .i64 a6])] w2 := TL.below (Tw1) hbw2
      clear hbw2
      have Bw2 := Tw2.1.1
      have xw200 : w2.cell? ⟨w.heap.size, 0, none⟩ = some (.int .i64 a1) := Tw2.2.1.2.1.1
      have xw201 : w2.cell? ⟨w.heap.size, 1, none⟩ = some (.int .i64 a2) := Tw2.2.1.2.2.1.1
      have xw202 : w2.cell? ⟨w.heap.size, 2, none⟩ = some (.int .i64 a3) := Tw2.2.1.2.2.2.1.1
      have xw203 : w2.cell? ⟨w.heap.size, 3, none⟩ = some (.int .i64 a4) := Tw2.2.1.2.2.2.2.1.1
      have xw204 : w2.cell? ⟨w.heap.size, 4, none⟩ = some (.int .i64 a5) := Tw2.2.1.2.2.2.2.2.1.1
      have xw205 : w2.cell? ⟨w.heap.size, 5, none⟩ = some (.int .i64 a6) := Tw2.2.1.2.2.2.2.2.2.1.1
      have lw20 := Tw2.2.1.1
      go_wp2_with fail
      go_ret3
      exact ⟨ret_jw HL.out, Bw2⟩

end Go.Proofs.Ytmhdklhdnmpabaa
