/-
  WALKS: the program's functions on vectors: JonesPower, JonesInner, JonesAdd, JonesTimes, JonesMirror. No condition.
-/
import Derived.Test.YtfiabpbfhldcnaaWi
namespace Go.Proofs.Ytfiabpbfhldcnaa
open Go.RowKit
open PL

set_option maxHeartbeats 4000000 in
theorem jadd_any (a1 a2 a3 a4 a5 a6 c1 c2 c3 c4 c5 c6 p1 p2 p3 p4 p5 p6 : Int) (b : Bool) (w : World) (H : Hid (jadd ⟨a1, a2, a3⟩ ⟨a4, a5, a6⟩ ⟨c1, c2, c3⟩ ⟨c4, c5, c6⟩ = ((⟨p1, p2, p3⟩, ⟨p4, p5, p6⟩), b))) :
    Calls Try.prog 12 #[.agg #[.int .i64 a1, .int .i64 a2, .int .i64 a3, .int .i64 a4, .int .i64 a5, .int .i64 a6], .agg #[.int .i64 c1, .int .i64 c2, .int .i64 c3, .int .i64 c4, .int .i64 c5, .int .i64 c6]] w fun e w' =>
      e = .returned (.tuple #[.agg #[.int .i64 p1, .int .i64 p2, .int .i64 p3, .int .i64 p4, .int .i64 p5, .int .i64 p6], .bool b]) ∧ Below w.heap.size w w' := by
  have HNE : Hid (∀ x ∈ ([(w.heap.size + 1 + 1, [.int .i64 0, .int .i64 0, .int .i64 0, .int .i64 0, .int .i64 0, .int .i64 0]), (w.heap.size + 1, [.int .i64 c1, .int .i64 c2, .int .i64 c3, .int .i64 c4, .int .i64 c5, .int .i64 c6]), (w.heap.size, [.int .i64 a1, .int .i64 a2, .int .i64 a3, .int .i64 a4, .int .i64 a5, .int .i64 a6])] : List (Nat × List Value)), x.1 ≠ w.heap.size + 1 + 1 + 1) := by
    intro x hx
    simp only [List.mem_cons, List.not_mem_nil, or_false] at hx
    rcases hx with rfl | rfl | rfl <;> simp only <;> omega
  have HNP : Hid (∀ x ∈ ([(w.heap.size + 1, [.int .i64 c1, .int .i64 c2, .int .i64 c3, .int .i64 c4, .int .i64 c5, .int .i64 c6]), (w.heap.size, [.int .i64 a1, .int .i64 a2, .int .i64 a3, .int .i64 a4, .int .i64 a5, .int .i64 a6])] : List (Nat × List Value)), x.1 ≠ w.heap.size + 1 + 1 + 1) := by
    intro x hx
    simp only [List.mem_cons, List.not_mem_nil, or_false] at hx
    rcases hx with rfl | rfl <;> simp only <;> omega
  have HNR : Hid (∀ x ∈ ([(w.heap.size + 1, [.int .i64 c1, .int .i64 c2, .int .i64 c3, .int .i64 c4, .int .i64 c5, .int .i64 c6]), (w.heap.size, [.int .i64 a1, .int .i64 a2, .int .i64 a3, .int .i64 a4, .int .i64 a5, .int .i64 a6])] : List (Nat × List Value)), x.1 ≠ w.heap.size + 1 + 1) := by
    intro x hx
    simp only [List.mem_cons, List.not_mem_nil, or_false] at hx
    rcases hx with rfl | rfl <;> simp only <;> omega
  have HG : Hid ((if ((false || !(add ⟨a1, a2, a3⟩ ⟨c1, c2, c3⟩).2) || !(add ⟨a4, a5, a6⟩ ⟨c4, c5, c6⟩).2) then ((nil, nil), false) else (((add ⟨a1, a2, a3⟩ ⟨c1, c2, c3⟩).1, (add ⟨a4, a5, a6⟩ ⟨c4, c5, c6⟩).1), true)) = (((⟨p1, p2, p3⟩, ⟨p4, p5, p6⟩), b) : (Fr × Fr) × Bool)) := (both_got0 _ _).trans H.out
  clear H
  go_enter Try.func12, Try.ntmps12
  go_wp2_with fail
  have hT0 : TL w [(w.heap.size + 1 + 1, [.int .i64 0, .int .i64 0, .int .i64 0, .int .i64 0, .int .i64 0, .int .i64 0]), (w.heap.size + 1, [.int .i64 c1, .int .i64 c2, .int .i64 c3, .int .i64 c4, .int .i64 c5, .int .i64 c6]), (w.heap.size, [.int .i64 a1, .int .i64 a2, .int .i64 a3, .int .i64 a4, .int .i64 a5, .int .i64 a6])] _ := TL.alloc (TL.new (t := 29) (TL.new (t := 29) (TL.new (t := 29) (TL.refl w) rfl) (by simp)) (by simp)) (.cells #[.bool false] 45)
  have hS0 : SB _ (w.heap.size + 1 + 1 + 1) false := SB.new (w := (((w.alloc (.cells #[.int .i64 a1, .int .i64 a2, .int .i64 a3, .int .i64 a4, .int .i64 a5, .int .i64 a6] 29)).alloc (.cells #[.int .i64 c1, .int .i64 c2, .int .i64 c3, .int .i64 c4, .int .i64 c5, .int .i64 c6] 29)).alloc (.cells #[.int .i64 0, .int .i64 0, .int .i64 0, .int .i64 0, .int .i64 0, .int .i64 0] 29))) (t := 45) (by simp)
  generalize (((w.alloc (.cells #[.int .i64 a1, .int .i64 a2, .int .i64 a3, .int .i64 a4, .int .i64 a5, .int .i64 a6] 29)).alloc (.cells #[.int .i64 c1, .int .i64 c2, .int .i64 c3, .int .i64 c4, .int .i64 c5, .int .i64 c6] 29)).alloc (.cells #[.int .i64 0, .int .i64 0, .int .i64 0, .int .i64 0, .int .i64 0, .int .i64 0] 29)).alloc (.cells #[.bool false] 45) = W at *
  have x000 : W.cell? ⟨w.heap.size + 1 + 1, 0, none⟩ = some (.int .i64 0) := hT0.2.1.2.1.1
  have x001 : W.cell? ⟨w.heap.size + 1 + 1, 1, none⟩ = some (.int .i64 0) := hT0.2.1.2.2.1.1
  have x002 : W.cell? ⟨w.heap.size + 1 + 1, 2, none⟩ = some (.int .i64 0) := hT0.2.1.2.2.2.1.1
  have x003 : W.cell? ⟨w.heap.size + 1 + 1, 3, none⟩ = some (.int .i64 0) := hT0.2.1.2.2.2.2.1.1
  have x004 : W.cell? ⟨w.heap.size + 1 + 1, 4, none⟩ = some (.int .i64 0) := hT0.2.1.2.2.2.2.2.1.1
  have x005 : W.cell? ⟨w.heap.size + 1 + 1, 5, none⟩ = some (.int .i64 0) := hT0.2.1.2.2.2.2.2.2.1.1
  have x010 : W.cell? ⟨w.heap.size + 1, 0, none⟩ = some (.int .i64 c1) := hT0.2.2.1.2.1.1
  have x011 : W.cell? ⟨w.heap.size + 1, 1, none⟩ = some (.int .i64 c2) := hT0.2.2.1.2.2.1.1
  have x012 : W.cell? ⟨w.heap.size + 1, 2, none⟩ = some (.int .i64 c3) := hT0.2.2.1.2.2.2.1.1
  have x013 : W.cell? ⟨w.heap.size + 1, 3, none⟩ = some (.int .i64 c4) := hT0.2.2.1.2.2.2.2.1.1
  have x014 : W.cell? ⟨w.heap.size + 1, 4, none⟩ = some (.int .i64 c5) := hT0.2.2.1.2.2.2.2.2.1.1
  have x015 : W.cell? ⟨w.heap.size + 1, 5, none⟩ = some (.int .i64 c6) := hT0.2.2.1.2.2.2.2.2.2.1.1
  have x020 : W.cell? ⟨w.heap.size, 0, none⟩ = some (.int .i64 a1) := hT0.2.2.2.1.2.1.1
  have x021 : W.cell? ⟨w.heap.size, 1, none⟩ = some (.int .i64 a2) := hT0.2.2.2.1.2.2.1.1
  have x022 : W.cell? ⟨w.heap.size, 2, none⟩ = some (.int .i64 a3) := hT0.2.2.2.1.2.2.2.1.1
  have x023 : W.cell? ⟨w.heap.size, 3, none⟩ = some (.int .i64 a4) := hT0.2.2.2.1.2.2.2.2.1.1
  have x024 : W.cell? ⟨w.heap.size, 4, none⟩ = some (.int .i64 a5) := hT0.2.2.2.1.2.2.2.2.2.1.1
  have x025 : W.cell? ⟨w.heap.size, 5, none⟩ = some (.int .i64 a6) := hT0.2.2.2.1.2.2.2.2.2.2.1.1
  have hk0 := hS0.1
  have hT := TL.tail hT0
  have hR : CB _ (w.heap.size + 1 + 1) 0 [.int .i64 0, .int .i64 0, .int .i64 0, .int .i64 0, .int .i64 0, .int .i64 0] := hT0.2.1.2
  have r0 : W.cell? ⟨w.heap.size + 1 + 1, 0, none⟩ = some (.int .i64 0) := hR.1.1
  have q0 : W.frozen? ⟨w.heap.size + 1 + 1, 0, none⟩ = false := hR.1.2
  have r1 : W.cell? ⟨w.heap.size + 1 + 1, 1, none⟩ = some (.int .i64 0) := hR.2.1.1
  have q1 : W.frozen? ⟨w.heap.size + 1 + 1, 1, none⟩ = false := hR.2.1.2
  have r2 : W.cell? ⟨w.heap.size + 1 + 1, 2, none⟩ = some (.int .i64 0) := hR.2.2.1.1
  have q2 : W.frozen? ⟨w.heap.size + 1 + 1, 2, none⟩ = false := hR.2.2.1.2
  have r3 : W.cell? ⟨w.heap.size + 1 + 1, 3, none⟩ = some (.int .i64 0) := hR.2.2.2.1.1
  have q3 : W.frozen? ⟨w.heap.size + 1 + 1, 3, none⟩ = false := hR.2.2.2.1.2
  have r4 : W.cell? ⟨w.heap.size + 1 + 1, 4, none⟩ = some (.int .i64 0) := hR.2.2.2.2.1.1
  have q4 : W.frozen? ⟨w.heap.size + 1 + 1, 4, none⟩ = false := hR.2.2.2.2.1.2
  have r5 : W.cell? ⟨w.heap.size + 1 + 1, 5, none⟩ = some (.int .i64 0) := hR.2.2.2.2.2.1.1
  have q5 : W.frozen? ⟨w.heap.size + 1 + 1, 5, none⟩ = false := hR.2.2.2.2.2.1.2
  have SL := Lib.hid (fun (W : World) (h : TL w [(w.heap.size + 1, [.int .i64 c1, .int .i64 c2, .int .i64 c3, .int .i64 c4, .int .i64 c5, .int .i64 c6]), (w.heap.size, [.int .i64 a1, .int .i64 a2, .int .i64 a3, .int .i64 a4, .int .i64 a5, .int .i64 a6])] W) => (show W.cell? ⟨w.heap.size + 1, 0, none⟩ = some (.int .i64 c1) ∧ W.cell? ⟨w.heap.size + 1, 1, none⟩ = some (.int .i64 c2) ∧ W.cell? ⟨w.heap.size + 1, 2, none⟩ = some (.int .i64 c3) ∧ W.cell? ⟨w.heap.size + 1, 3, none⟩ = some (.int .i64 c4) ∧ W.cell? ⟨w.heap.size + 1, 4, none⟩ = some (.int .i64 c5) ∧ W.cell? ⟨w.heap.size + 1, 5, none⟩ = some (.int .i64 c6) ∧ W.cell? ⟨w.heap.size, 0, none⟩ = some (.int .i64 a1) ∧ W.cell? ⟨w.heap.size, 1, none⟩ = some (.int .i64 a2) ∧ W.cell? ⟨w.heap.size, 2, none⟩ = some (.int .i64 a3) ∧ W.cell? ⟨w.heap.size, 3, none⟩ = some (.int .i64 a4) ∧ W.cell? ⟨w.heap.size, 4, none⟩ = some (.int .i64 a5) ∧ W.cell? ⟨w.heap.size, 5, none⟩ = some (.int .i64 a6) ∧ TL w [(w.heap.size + 1, [.int .i64 c1, .int .i64 c2, .int .i64 c3, .int .i64 c4, .int .i64 c5, .int .i64 c6]), (w.heap.size, [.int .i64 a1, .int .i64 a2, .int .i64 a3, .int .i64 a4, .int .i64 a5, .int .i64 a6])] W from ⟨h.2.1.2.1.1, h.2.1.2.2.1.1, h.2.1.2.2.2.1.1, h.2.1.2.2.2.2.1.1, h.2.1.2.2.2.2.2.1.1, h.2.1.2.2.2.2.2.2.1.1, h.2.2.1.2.1.1, h.2.2.1.2.2.1.1, h.2.2.1.2.2.2.1.1, h.2.2.1.2.2.2.2.1.1, h.2.2.1.2.2.2.2.2.1.1, h.2.2.1.2.2.2.2.2.2.1.1, h⟩))
  have TO := Lib.hid (fun (W : World) (h : W.cell? ⟨w.heap.size + 1, 0, none⟩ = some (.int .i64 c1) ∧ W.cell? ⟨w.heap.size + 1, 1, none⟩ = some (.int .i64 c2) ∧ W.cell? ⟨w.heap.size + 1, 2, none⟩ = some (.int .i64 c3) ∧ W.cell? ⟨w.heap.size + 1, 3, none⟩ = some (.int .i64 c4) ∧ W.cell? ⟨w.heap.size + 1, 4, none⟩ = some (.int .i64 c5) ∧ W.cell? ⟨w.heap.size + 1, 5, none⟩ = some (.int .i64 c6) ∧ W.cell? ⟨w.heap.size, 0, none⟩ = some (.int .i64 a1) ∧ W.cell? ⟨w.heap.size, 1, none⟩ = some (.int .i64 a2) ∧ W.cell? ⟨w.heap.size, 2, none⟩ = some (.int .i64 a3) ∧ W.cell? ⟨w.heap.size, 3, none⟩ = some (.int .i64 a4) ∧ W.cell? ⟨w.heap.size, 4, none⟩ = some (.int .i64 a5) ∧ W.cell? ⟨w.heap.size, 5, none⟩ = some (.int .i64 a6) ∧ TL w [(w.heap.size + 1, [.int .i64 c1, .int .i64 c2, .int .i64 c3, .int .i64 c4, .int .i64 c5, .int .i64 c6]), (w.heap.size, [.int .i64 a1, .int .i64 a2, .int .i64 a3, .int .i64 a4, .int .i64 a5, .int .i64 a6])] W) => (show TL w [(w.heap.size + 1, [.int .i64 c1, .int .i64 c2, .int .i64 c3, .int .i64 c4, .int .i64 c5, .int .i64 c6]), (w.heap.size, [.int .i64 a1, .int .i64 a2, .int .i64 a3, .int .i64 a4, .int .i64 a5, .int .i64 a6])] W from h.2.2.2.2.2.2.2.2.2.2.2.2))
  go_region_held3 (fun w' => w'.cell? ⟨w.heap.size + 1, 0, none⟩ = some (.int .i64 c1) ∧ w'.cell? ⟨w.heap.size + 1, 1, none⟩ = some (.int .i64 c2) ∧ w'.cell? ⟨w.heap.size + 1, 2, none⟩ = some (.int .i64 c3) ∧ w'.cell? ⟨w.heap.size + 1, 3, none⟩ = some (.int .i64 c4) ∧ w'.cell? ⟨w.heap.size + 1, 4, none⟩ = some (.int .i64 c5) ∧ w'.cell? ⟨w.heap.size + 1, 5, none⟩ = some (.int .i64 c6) ∧ w'.cell? ⟨w.heap.size, 0, none⟩ = some (.int .i64 a1) ∧ w'.cell? ⟨w.heap.size, 1, none⟩ = some (.int .i64 a2) ∧ w'.cell? ⟨w.heap.size, 2, none⟩ = some (.int .i64 a3) ∧ w'.cell? ⟨w.heap.size, 3, none⟩ = some (.int .i64 a4) ∧ w'.cell? ⟨w.heap.size, 4, none⟩ = some (.int .i64 a5) ∧ w'.cell? ⟨w.heap.size, 5, none⟩ = some (.int .i64 a6) ∧ TL w [(w.heap.size + 1, [.int .i64 c1, .int .i64 c2, .int .i64 c3, .int .i64 c4, .int .i64 c5, .int .i64 c6]), (w.heap.size, [.int .i64 a1, .int .i64 a2, .int .i64 a3, .int .i64 a4, .int .i64 a5, .int .i64 a6])] w')
    (first | with_reducible exact SL.out _ hT.drew | with_reducible exact SL.out _ (by assumption) | with_reducible exact SL.out _ (TL.set (TL.set (TL.set (TL.set (TL.set (TL.set (by assumption) (by omega) HNR.out) (by omega) HNR.out) (by omega) HNR.out) (by omega) HNR.out) (by omega) HNR.out) (by omega) HNR.out))
    (first | (go_at_call 25; refine (s_add _ _ _ _ _ _ _ _ _ (by assumption)).mono ?_; rintro e w1 ⟨rfl, hb, hS⟩; have hT := TL.bex (TO.out _ (by assumption)) hb (by omega) HNP.out; have hR : CB _ (w.heap.size + 1 + 1) 0 [.int .i64 0, .int .i64 0, .int .i64 0, .int .i64 0, .int .i64 0, .int .i64 0] := CB.sb (by assumption) hb (by omega) (by assumption); have r0 : w1.cell? ⟨w.heap.size + 1 + 1, 0, none⟩ = some (.int .i64 0) := hR.1.1; have q0 : w1.frozen? ⟨w.heap.size + 1 + 1, 0, none⟩ = false := hR.1.2; have r1 : w1.cell? ⟨w.heap.size + 1 + 1, 1, none⟩ = some (.int .i64 0) := hR.2.1.1; have q1 : w1.frozen? ⟨w.heap.size + 1 + 1, 1, none⟩ = false := hR.2.1.2; have r2 : w1.cell? ⟨w.heap.size + 1 + 1, 2, none⟩ = some (.int .i64 0) := hR.2.2.1.1; have q2 : w1.frozen? ⟨w.heap.size + 1 + 1, 2, none⟩ = false := hR.2.2.1.2; have r3 : w1.cell? ⟨w.heap.size + 1 + 1, 3, none⟩ = some (.int .i64 0) := hR.2.2.2.1.1; have q3 : w1.frozen? ⟨w.heap.size + 1 + 1, 3, none⟩ = false := hR.2.2.2.1.2; have r4 : w1.cell? ⟨w.heap.size + 1 + 1, 4, none⟩ = some (.int .i64 0) := hR.2.2.2.2.1.1; have q4 : w1.frozen? ⟨w.heap.size + 1 + 1, 4, none⟩ = false := hR.2.2.2.2.1.2; have r5 : w1.cell? ⟨w.heap.size + 1 + 1, 5, none⟩ = some (.int .i64 0) := hR.2.2.2.2.2.1.1; have q5 : w1.frozen? ⟨w.heap.size + 1 + 1, 5, none⟩ = false := hR.2.2.2.2.2.1.2) | (go_at_call 24; refine (gotJ_any _ _ _ _ _ _ _ p1 p2 p3 p4 p5 p6 _ b _ (by assumption) HG).mono ?_; rintro e w1 ⟨rfl, hb⟩; have hT := TL.below (TO.out _ (by assumption)) hb; have hR : CB _ (w.heap.size + 1 + 1) 0 [.int .i64 0, .int .i64 0, .int .i64 0, .int .i64 0, .int .i64 0, .int .i64 0] := CB.below hb (Nat.lt_trans (show w.heap.size + 1 + 1 < w.heap.size + 1 + 1 + 1 by omega) (SB.lt (by assumption))) (by assumption); have r0 : w1.cell? ⟨w.heap.size + 1 + 1, 0, none⟩ = some (.int .i64 0) := hR.1.1; have q0 : w1.frozen? ⟨w.heap.size + 1 + 1, 0, none⟩ = false := hR.1.2; have r1 : w1.cell? ⟨w.heap.size + 1 + 1, 1, none⟩ = some (.int .i64 0) := hR.2.1.1; have q1 : w1.frozen? ⟨w.heap.size + 1 + 1, 1, none⟩ = false := hR.2.1.2; have r2 : w1.cell? ⟨w.heap.size + 1 + 1, 2, none⟩ = some (.int .i64 0) := hR.2.2.1.1; have q2 : w1.frozen? ⟨w.heap.size + 1 + 1, 2, none⟩ = false := hR.2.2.1.2; have r3 : w1.cell? ⟨w.heap.size + 1 + 1, 3, none⟩ = some (.int .i64 0) := hR.2.2.2.1.1; have q3 : w1.frozen? ⟨w.heap.size + 1 + 1, 3, none⟩ = false := hR.2.2.2.1.2; have r4 : w1.cell? ⟨w.heap.size + 1 + 1, 4, none⟩ = some (.int .i64 0) := hR.2.2.2.2.1.1; have q4 : w1.frozen? ⟨w.heap.size + 1 + 1, 4, none⟩ = false := hR.2.2.2.2.1.2; have r5 : w1.cell? ⟨w.heap.size + 1 + 1, 5, none⟩ = some (.int .i64 0) := hR.2.2.2.2.2.1.1; have q5 : w1.frozen? ⟨w.heap.size + 1 + 1, 5, none⟩ = false := hR.2.2.2.2.2.1.2))
  go_wp2_with fail
  refine bodyPost_ret (by simp [results, Try.results12, go_sem, r0, r1, r2, r3, r4, r5]; rfl) rfl ?_
  exact ⟨rfl, (TL.set (TL.set (TL.set (TL.set (TL.set (TL.set hT (by omega) HNR.out) (by omega) HNR.out) (by omega) HNR.out) (by omega) HNR.out) (by omega) HNR.out) (by omega) HNR.out).1.1⟩

set_option maxHeartbeats 4000000 in
theorem jmirror_any (a1 a2 a3 a4 a5 a6 p1 p2 p3 p4 p5 p6 : Int) (b : Bool) (w : World) (H : Hid (jmirror ⟨a1, a2, a3⟩ ⟨a4, a5, a6⟩ = ((⟨p1, p2, p3⟩, ⟨p4, p5, p6⟩), b))) :
    Calls Try.prog 18 #[.agg #[.int .i64 a1, .int .i64 a2, .int .i64 a3, .int .i64 a4, .int .i64 a5, .int .i64 a6]] w fun e w' =>
      e = .returned (.tuple #[.agg #[.int .i64 p1, .int .i64 p2, .int .i64 p3, .int .i64 p4, .int .i64 p5, .int .i64 p6], .bool b]) ∧ Below w.heap.size w w' := by
  have HNE : Hid (∀ x ∈ ([(w.heap.size + 1, [.int .i64 0, .int .i64 0, .int .i64 0, .int .i64 0, .int .i64 0, .int .i64 0]), (w.heap.size, [.int .i64 a1, .int .i64 a2, .int .i64 a3, .int .i64 a4, .int .i64 a5, .int .i64 a6])] : List (Nat × List Value)), x.1 ≠ w.heap.size + 1 + 1) := by
    intro x hx
    simp only [List.mem_cons, List.not_mem_nil, or_false] at hx
    rcases hx with rfl | rfl <;> simp only <;> omega
  have HNP : Hid (∀ x ∈ ([(w.heap.size, [.int .i64 a1, .int .i64 a2, .int .i64 a3, .int .i64 a4, .int .i64 a5, .int .i64 a6])] : List (Nat × List Value)), x.1 ≠ w.heap.size + 1 + 1) := by
    intro x hx
    simp only [List.mem_cons, List.not_mem_nil, or_false] at hx
    rcases hx with rfl <;> simp only <;> omega
  have HNR : Hid (∀ x ∈ ([(w.heap.size, [.int .i64 a1, .int .i64 a2, .int .i64 a3, .int .i64 a4, .int .i64 a5, .int .i64 a6])] : List (Nat × List Value)), x.1 ≠ w.heap.size + 1) := by
    intro x hx
    simp only [List.mem_cons, List.not_mem_nil, or_false] at hx
    rcases hx with rfl <;> simp only <;> omega
  have HG : Hid ((if ((false || !(mirror ⟨a1, a2, a3⟩).2) || !(mirror ⟨a4, a5, a6⟩).2) then ((nil, nil), false) else (((mirror ⟨a1, a2, a3⟩).1, (mirror ⟨a4, a5, a6⟩).1), true)) = (((⟨p1, p2, p3⟩, ⟨p4, p5, p6⟩), b) : (Fr × Fr) × Bool)) := (both_got0 _ _).trans H.out
  clear H
  go_enter Try.func18, Try.ntmps18
  go_wp2_with fail
  have hT0 : TL w [(w.heap.size + 1, [.int .i64 0, .int .i64 0, .int .i64 0, .int .i64 0, .int .i64 0, .int .i64 0]), (w.heap.size, [.int .i64 a1, .int .i64 a2, .int .i64 a3, .int .i64 a4, .int .i64 a5, .int .i64 a6])] _ := TL.alloc (TL.new (t := 29) (TL.new (t := 29) (TL.refl w) rfl) (by simp)) (.cells #[.bool false] 45)
  have hS0 : SB _ (w.heap.size + 1 + 1) false := SB.new (w := ((w.alloc (.cells #[.int .i64 a1, .int .i64 a2, .int .i64 a3, .int .i64 a4, .int .i64 a5, .int .i64 a6] 29)).alloc (.cells #[.int .i64 0, .int .i64 0, .int .i64 0, .int .i64 0, .int .i64 0, .int .i64 0] 29))) (t := 45) (by simp)
  generalize ((w.alloc (.cells #[.int .i64 a1, .int .i64 a2, .int .i64 a3, .int .i64 a4, .int .i64 a5, .int .i64 a6] 29)).alloc (.cells #[.int .i64 0, .int .i64 0, .int .i64 0, .int .i64 0, .int .i64 0, .int .i64 0] 29)).alloc (.cells #[.bool false] 45) = W at *
  have x000 : W.cell? ⟨w.heap.size + 1, 0, none⟩ = some (.int .i64 0) := hT0.2.1.2.1.1
  have x001 : W.cell? ⟨w.heap.size + 1, 1, none⟩ = some (.int .i64 0) := hT0.2.1.2.2.1.1
  have x002 : W.cell? ⟨w.heap.size + 1, 2, none⟩ = some (.int .i64 0) := hT0.2.1.2.2.2.1.1
  have x003 : W.cell? ⟨w.heap.size + 1, 3, none⟩ = some (.int .i64 0) := hT0.2.1.2.2.2.2.1.1
  have x004 : W.cell? ⟨w.heap.size + 1, 4, none⟩ = some (.int .i64 0) := hT0.2.1.2.2.2.2.2.1.1
  have x005 : W.cell? ⟨w.heap.size + 1, 5, none⟩ = some (.int .i64 0) := hT0.2.1.2.2.2.2.2.2.1.1
  have x010 : W.cell? ⟨w.heap.size, 0, none⟩ = some (.int .i64 a1) := hT0.2.2.1.2.1.1
  have x011 : W.cell? ⟨w.heap.size, 1, none⟩ = some (.int .i64 a2) := hT0.2.2.1.2.2.1.1
  have x012 : W.cell? ⟨w.heap.size, 2, none⟩ = some (.int .i64 a3) := hT0.2.2.1.2.2.2.1.1
  have x013 : W.cell? ⟨w.heap.size, 3, none⟩ = some (.int .i64 a4) := hT0.2.2.1.2.2.2.2.1.1
  have x014 : W.cell? ⟨w.heap.size, 4, none⟩ = some (.int .i64 a5) := hT0.2.2.1.2.2.2.2.2.1.1
  have x015 : W.cell? ⟨w.heap.size, 5, none⟩ = some (.int .i64 a6) := hT0.2.2.1.2.2.2.2.2.2.1.1
  have hk0 := hS0.1
  have hT := TL.tail hT0
  have hR : CB _ (w.heap.size + 1) 0 [.int .i64 0, .int .i64 0, .int .i64 0, .int .i64 0, .int .i64 0, .int .i64 0] := hT0.2.1.2
  have r0 : W.cell? ⟨w.heap.size + 1, 0, none⟩ = some (.int .i64 0) := hR.1.1
  have q0 : W.frozen? ⟨w.heap.size + 1, 0, none⟩ = false := hR.1.2
  have r1 : W.cell? ⟨w.heap.size + 1, 1, none⟩ = some (.int .i64 0) := hR.2.1.1
  have q1 : W.frozen? ⟨w.heap.size + 1, 1, none⟩ = false := hR.2.1.2
  have r2 : W.cell? ⟨w.heap.size + 1, 2, none⟩ = some (.int .i64 0) := hR.2.2.1.1
  have q2 : W.frozen? ⟨w.heap.size + 1, 2, none⟩ = false := hR.2.2.1.2
  have r3 : W.cell? ⟨w.heap.size + 1, 3, none⟩ = some (.int .i64 0) := hR.2.2.2.1.1
  have q3 : W.frozen? ⟨w.heap.size + 1, 3, none⟩ = false := hR.2.2.2.1.2
  have r4 : W.cell? ⟨w.heap.size + 1, 4, none⟩ = some (.int .i64 0) := hR.2.2.2.2.1.1
  have q4 : W.frozen? ⟨w.heap.size + 1, 4, none⟩ = false := hR.2.2.2.2.1.2
  have r5 : W.cell? ⟨w.heap.size + 1, 5, none⟩ = some (.int .i64 0) := hR.2.2.2.2.2.1.1
  have q5 : W.frozen? ⟨w.heap.size + 1, 5, none⟩ = false := hR.2.2.2.2.2.1.2
  have SL := Lib.hid (fun (W : World) (h : TL w [(w.heap.size, [.int .i64 a1, .int .i64 a2, .int .i64 a3, .int .i64 a4, .int .i64 a5, .int .i64 a6])] W) => (show W.cell? ⟨w.heap.size, 0, none⟩ = some (.int .i64 a1) ∧ W.cell? ⟨w.heap.size, 1, none⟩ = some (.int .i64 a2) ∧ W.cell? ⟨w.heap.size, 2, none⟩ = some (.int .i64 a3) ∧ W.cell? ⟨w.heap.size, 3, none⟩ = some (.int .i64 a4) ∧ W.cell? ⟨w.heap.size, 4, none⟩ = some (.int .i64 a5) ∧ W.cell? ⟨w.heap.size, 5, none⟩ = some (.int .i64 a6) ∧ TL w [(w.heap.size, [.int .i64 a1, .int .i64 a2, .int .i64 a3, .int .i64 a4, .int .i64 a5, .int .i64 a6])] W from ⟨h.2.1.2.1.1, h.2.1.2.2.1.1, h.2.1.2.2.2.1.1, h.2.1.2.2.2.2.1.1, h.2.1.2.2.2.2.2.1.1, h.2.1.2.2.2.2.2.2.1.1, h⟩))
  have TO := Lib.hid (fun (W : World) (h : W.cell? ⟨w.heap.size, 0, none⟩ = some (.int .i64 a1) ∧ W.cell? ⟨w.heap.size, 1, none⟩ = some (.int .i64 a2) ∧ W.cell? ⟨w.heap.size, 2, none⟩ = some (.int .i64 a3) ∧ W.cell? ⟨w.heap.size, 3, none⟩ = some (.int .i64 a4) ∧ W.cell? ⟨w.heap.size, 4, none⟩ = some (.int .i64 a5) ∧ W.cell? ⟨w.heap.size, 5, none⟩ = some (.int .i64 a6) ∧ TL w [(w.heap.size, [.int .i64 a1, .int .i64 a2, .int .i64 a3, .int .i64 a4, .int .i64 a5, .int .i64 a6])] W) => (show TL w [(w.heap.size, [.int .i64 a1, .int .i64 a2, .int .i64 a3, .int .i64 a4, .int .i64 a5, .int .i64 a6])] W from h.2.2.2.2.2.2))
  go_region_held3 (fun w' => w'.cell? ⟨w.heap.size, 0, none⟩ = some (.int .i64 a1) ∧ w'.cell? ⟨w.heap.size, 1, none⟩ = some (.int .i64 a2) ∧ w'.cell? ⟨w.heap.size, 2, none⟩ = some (.int .i64 a3) ∧ w'.cell? ⟨w.heap.size, 3, none⟩ = some (.int .i64 a4) ∧ w'.cell? ⟨w.heap.size, 4, none⟩ = some (.int .i64 a5) ∧ w'.cell? ⟨w.heap.size, 5, none⟩ = some (.int .i64 a6) ∧ TL w [(w.heap.size, [.int .i64 a1, .int .i64 a2, .int .i64 a3, .int .i64 a4, .int .i64 a5, .int .i64 a6])] w')
    (first | with_reducible exact SL.out _ hT.drew | with_reducible exact SL.out _ (by assumption) | with_reducible exact SL.out _ (TL.set (TL.set (TL.set (TL.set (TL.set (TL.set (by assumption) (by omega) HNR.out) (by omega) HNR.out) (by omega) HNR.out) (by omega) HNR.out) (by omega) HNR.out) (by omega) HNR.out))
    (first | (go_at_call 31; refine (s_mirror _ _ _ _ _ _ (by assumption)).mono ?_; rintro e w1 ⟨rfl, hb, hS⟩; have hT := TL.bex (TO.out _ (by assumption)) hb (by omega) HNP.out; have hR : CB _ (w.heap.size + 1) 0 [.int .i64 0, .int .i64 0, .int .i64 0, .int .i64 0, .int .i64 0, .int .i64 0] := CB.sb (by assumption) hb (by omega) (by assumption); have r0 : w1.cell? ⟨w.heap.size + 1, 0, none⟩ = some (.int .i64 0) := hR.1.1; have q0 : w1.frozen? ⟨w.heap.size + 1, 0, none⟩ = false := hR.1.2; have r1 : w1.cell? ⟨w.heap.size + 1, 1, none⟩ = some (.int .i64 0) := hR.2.1.1; have q1 : w1.frozen? ⟨w.heap.size + 1, 1, none⟩ = false := hR.2.1.2; have r2 : w1.cell? ⟨w.heap.size + 1, 2, none⟩ = some (.int .i64 0) := hR.2.2.1.1; have q2 : w1.frozen? ⟨w.heap.size + 1, 2, none⟩ = false := hR.2.2.1.2; have r3 : w1.cell? ⟨w.heap.size + 1, 3, none⟩ = some (.int .i64 0) := hR.2.2.2.1.1; have q3 : w1.frozen? ⟨w.heap.size + 1, 3, none⟩ = false := hR.2.2.2.1.2; have r4 : w1.cell? ⟨w.heap.size + 1, 4, none⟩ = some (.int .i64 0) := hR.2.2.2.2.1.1; have q4 : w1.frozen? ⟨w.heap.size + 1, 4, none⟩ = false := hR.2.2.2.2.1.2; have r5 : w1.cell? ⟨w.heap.size + 1, 5, none⟩ = some (.int .i64 0) := hR.2.2.2.2.2.1.1; have q5 : w1.frozen? ⟨w.heap.size + 1, 5, none⟩ = false := hR.2.2.2.2.2.1.2) | (go_at_call 24; refine (gotJ_any _ _ _ _ _ _ _ p1 p2 p3 p4 p5 p6 _ b _ (by assumption) HG).mono ?_; rintro e w1 ⟨rfl, hb⟩; have hT := TL.below (TO.out _ (by assumption)) hb; have hR : CB _ (w.heap.size + 1) 0 [.int .i64 0, .int .i64 0, .int .i64 0, .int .i64 0, .int .i64 0, .int .i64 0] := CB.below hb (Nat.lt_trans (show w.heap.size + 1 < w.heap.size + 1 + 1 by omega) (SB.lt (by assumption))) (by assumption); have r0 : w1.cell? ⟨w.heap.size + 1, 0, none⟩ = some (.int .i64 0) := hR.1.1; have q0 : w1.frozen? ⟨w.heap.size + 1, 0, none⟩ = false := hR.1.2; have r1 : w1.cell? ⟨w.heap.size + 1, 1, none⟩ = some (.int .i64 0) := hR.2.1.1; have q1 : w1.frozen? ⟨w.heap.size + 1, 1, none⟩ = false := hR.2.1.2; have r2 : w1.cell? ⟨w.heap.size + 1, 2, none⟩ = some (.int .i64 0) := hR.2.2.1.1; have q2 : w1.frozen? ⟨w.heap.size + 1, 2, none⟩ = false := hR.2.2.1.2; have r3 : w1.cell? ⟨w.heap.size + 1, 3, none⟩ = some (.int .i64 0) := hR.2.2.2.1.1; have q3 : w1.frozen? ⟨w.heap.size + 1, 3, none⟩ = false := hR.2.2.2.1.2; have r4 : w1.cell? ⟨w.heap.size + 1, 4, none⟩ = some (.int .i64 0) := hR.2.2.2.2.1.1; have q4 : w1.frozen? ⟨w.heap.size + 1, 4, none⟩ = false := hR.2.2.2.2.1.2; have r5 : w1.cell? ⟨w.heap.size + 1, 5, none⟩ = some (.int .i64 0) := hR.2.2.2.2.2.1.1; have q5 : w1.frozen? ⟨w.heap.size + 1, 5, none⟩ = false := hR.2.2.2.2.2.1.2))
  go_wp2_with fail
  refine bodyPost_ret (by simp [results, Try.results18, go_sem, r0, r1, r2, r3, r4, r5]; rfl) rfl ?_
  exact ⟨rfl, (TL.set (TL.set (TL.set (TL.set (TL.set (TL.set hT (by omega) HNR.out) (by omega) HNR.out) (by omega) HNR.out) (by omega) HNR.out) (by omega) HNR.out) (by omega) HNR.out).1.1⟩

set_option maxHeartbeats 4000000 in
theorem jtimes_any (a1 a2 a3 a4 a5 a6 c1 c2 c3 p1 p2 p3 p4 p5 p6 : Int) (b : Bool) (w : World) (H : Hid (jtimes ⟨a1, a2, a3⟩ ⟨a4, a5, a6⟩ ⟨c1, c2, c3⟩ = ((⟨p1, p2, p3⟩, ⟨p4, p5, p6⟩), b))) :
    Calls Try.prog 16 #[.agg #[.int .i64 a1, .int .i64 a2, .int .i64 a3, .int .i64 a4, .int .i64 a5, .int .i64 a6], .agg #[.int .i64 c1, .int .i64 c2, .int .i64 c3]] w fun e w' =>
      e = .returned (.tuple #[.agg #[.int .i64 p1, .int .i64 p2, .int .i64 p3, .int .i64 p4, .int .i64 p5, .int .i64 p6], .bool b]) ∧ Below w.heap.size w w' := by
  have HNE : Hid (∀ x ∈ ([(w.heap.size + 1 + 1, [.int .i64 0, .int .i64 0, .int .i64 0, .int .i64 0, .int .i64 0, .int .i64 0]), (w.heap.size + 1, [.int .i64 c1, .int .i64 c2, .int .i64 c3]), (w.heap.size, [.int .i64 a1, .int .i64 a2, .int .i64 a3, .int .i64 a4, .int .i64 a5, .int .i64 a6])] : List (Nat × List Value)), x.1 ≠ w.heap.size + 1 + 1 + 1) := by
    intro x hx
    simp only [List.mem_cons, List.not_mem_nil, or_false] at hx
    rcases hx with rfl | rfl | rfl <;> simp only <;> omega
  have HNP : Hid (∀ x ∈ ([(w.heap.size + 1, [.int .i64 c1, .int .i64 c2, .int .i64 c3]), (w.heap.size, [.int .i64 a1, .int .i64 a2, .int .i64 a3, .int .i64 a4, .int .i64 a5, .int .i64 a6])] : List (Nat × List Value)), x.1 ≠ w.heap.size + 1 + 1 + 1) := by
    intro x hx
    simp only [List.mem_cons, List.not_mem_nil, or_false] at hx
    rcases hx with rfl | rfl <;> simp only <;> omega
  have HNR : Hid (∀ x ∈ ([(w.heap.size + 1, [.int .i64 c1, .int .i64 c2, .int .i64 c3]), (w.heap.size, [.int .i64 a1, .int .i64 a2, .int .i64 a3, .int .i64 a4, .int .i64 a5, .int .i64 a6])] : List (Nat × List Value)), x.1 ≠ w.heap.size + 1 + 1) := by
    intro x hx
    simp only [List.mem_cons, List.not_mem_nil, or_false] at hx
    rcases hx with rfl | rfl <;> simp only <;> omega
  obtain ⟨v, hv⟩ : ∃ v, valid ⟨c1, c2, c3⟩ = v := ⟨_, rfl⟩
  have HV2 := Lib.hid hv
  by_cases hx : (valid ⟨a1, a2, a3⟩ && valid ⟨a4, a5, a6⟩) = true
  · have HV1 := Lib.hid hx
    have HG : Hid ((if (((false || !v) || !(times ⟨a1, a2, a3⟩ ⟨c1, c2, c3⟩).2) || !(times ⟨a4, a5, a6⟩ ⟨c1, c2, c3⟩).2) then ((nil, nil), false) else (((times ⟨a1, a2, a3⟩ ⟨c1, c2, c3⟩).1, (times ⟨a4, a5, a6⟩ ⟨c1, c2, c3⟩).1), true)) = (((⟨p1, p2, p3⟩, ⟨p4, p5, p6⟩), b) : (Fr × Fr) × Bool)) := (jtimes_got _ _ _ v (by rw [hx, hv]; rfl)).trans H.out
    clear hv hx H
    go_enter Try.func16, Try.ntmps16
    go_wp2_with fail
    have hT0 : TL w [(w.heap.size + 1 + 1, [.int .i64 0, .int .i64 0, .int .i64 0, .int .i64 0, .int .i64 0, .int .i64 0]), (w.heap.size + 1, [.int .i64 c1, .int .i64 c2, .int .i64 c3]), (w.heap.size, [.int .i64 a1, .int .i64 a2, .int .i64 a3, .int .i64 a4, .int .i64 a5, .int .i64 a6])] _ := TL.alloc (TL.new (t := 29) (TL.new (t := 27) (TL.new (t := 29) (TL.refl w) rfl) (by simp)) (by simp)) (.cells #[.bool false] 45)
    have hS0 : SB _ (w.heap.size + 1 + 1 + 1) false := SB.new (w := (((w.alloc (.cells #[.int .i64 a1, .int .i64 a2, .int .i64 a3, .int .i64 a4, .int .i64 a5, .int .i64 a6] 29)).alloc (.cells #[.int .i64 c1, .int .i64 c2, .int .i64 c3] 27)).alloc (.cells #[.int .i64 0, .int .i64 0, .int .i64 0, .int .i64 0, .int .i64 0, .int .i64 0] 29))) (t := 45) (by simp)
    generalize (((w.alloc (.cells #[.int .i64 a1, .int .i64 a2, .int .i64 a3, .int .i64 a4, .int .i64 a5, .int .i64 a6] 29)).alloc (.cells #[.int .i64 c1, .int .i64 c2, .int .i64 c3] 27)).alloc (.cells #[.int .i64 0, .int .i64 0, .int .i64 0, .int .i64 0, .int .i64 0, .int .i64 0] 29)).alloc (.cells #[.bool false] 45) = W at *
    have x000 : W.cell? ⟨w.heap.size + 1 + 1, 0, none⟩ = some (.int .i64 0) := hT0.2.1.2.1.1
    have x001 : W.cell? ⟨w.heap.size + 1 + 1, 1, none⟩ = some (.int .i64 0) := hT0.2.1.2.2.1.1
    have x002 : W.cell? ⟨w.heap.size + 1 + 1, 2, none⟩ = some (.int .i64 0) := hT0.2.1.2.2.2.1.1
    have x003 : W.cell? ⟨w.heap.size + 1 + 1, 3, none⟩ = some (.int .i64 0) := hT0.2.1.2.2.2.2.1.1
    have x004 : W.cell? ⟨w.heap.size + 1 + 1, 4, none⟩ = some (.int .i64 0) := hT0.2.1.2.2.2.2.2.1.1
    have x005 : W.cell? ⟨w.heap.size + 1 + 1, 5, none⟩ = some (.int .i64 0) := hT0.2.1.2.2.2.2.2.2.1.1
    have x010 : W.cell? ⟨w.heap.size + 1, 0, none⟩ = some (.int .i64 c1) := hT0.2.2.1.2.1.1
    have x011 : W.cell? ⟨w.heap.size + 1, 1, none⟩ = some (.int .i64 c2) := hT0.2.2.1.2.2.1.1
    have x012 : W.cell? ⟨w.heap.size + 1, 2, none⟩ = some (.int .i64 c3) := hT0.2.2.1.2.2.2.1.1
    have x020 : W.cell? ⟨w.heap.size, 0, none⟩ = some (.int .i64 a1) := hT0.2.2.2.1.2.1.1
    have x021 : W.cell? ⟨w.heap.size, 1, none⟩ = some (.int .i64 a2) := hT0.2.2.2.1.2.2.1.1
    have x022 : W.cell? ⟨w.heap.size, 2, none⟩ = some (.int .i64 a3) := hT0.2.2.2.1.2.2.2.1.1
    have x023 : W.cell? ⟨w.heap.size, 3, none⟩ = some (.int .i64 a4) := hT0.2.2.2.1.2.2.2.2.1.1
    have x024 : W.cell? ⟨w.heap.size, 4, none⟩ = some (.int .i64 a5) := hT0.2.2.2.1.2.2.2.2.2.1.1
    have x025 : W.cell? ⟨w.heap.size, 5, none⟩ = some (.int .i64 a6) := hT0.2.2.2.1.2.2.2.2.2.2.1.1
    have hk0 := hS0.1
    refine (jvalid_any _ _ _ _ _ _ true _ HV1).mono ?_
    rintro e w1 ⟨rfl, hb1⟩
    have hT1 := TL.below hT0 hb1
    have hS1 := SB.below hS0 hb1
    clear hb1
    have x100 : w1.cell? ⟨w.heap.size + 1 + 1, 0, none⟩ = some (.int .i64 0) := hT1.2.1.2.1.1
    have x101 : w1.cell? ⟨w.heap.size + 1 + 1, 1, none⟩ = some (.int .i64 0) := hT1.2.1.2.2.1.1
    have x102 : w1.cell? ⟨w.heap.size + 1 + 1, 2, none⟩ = some (.int .i64 0) := hT1.2.1.2.2.2.1.1
    have x103 : w1.cell? ⟨w.heap.size + 1 + 1, 3, none⟩ = some (.int .i64 0) := hT1.2.1.2.2.2.2.1.1
    have x104 : w1.cell? ⟨w.heap.size + 1 + 1, 4, none⟩ = some (.int .i64 0) := hT1.2.1.2.2.2.2.2.1.1
    have x105 : w1.cell? ⟨w.heap.size + 1 + 1, 5, none⟩ = some (.int .i64 0) := hT1.2.1.2.2.2.2.2.2.1.1
    have x110 : w1.cell? ⟨w.heap.size + 1, 0, none⟩ = some (.int .i64 c1) := hT1.2.2.1.2.1.1
    have x111 : w1.cell? ⟨w.heap.size + 1, 1, none⟩ = some (.int .i64 c2) := hT1.2.2.1.2.2.1.1
    have x112 : w1.cell? ⟨w.heap.size + 1, 2, none⟩ = some (.int .i64 c3) := hT1.2.2.1.2.2.2.1.1
    have x120 : w1.cell? ⟨w.heap.size, 0, none⟩ = some (.int .i64 a1) := hT1.2.2.2.1.2.1.1
    have x121 : w1.cell? ⟨w.heap.size, 1, none⟩ = some (.int .i64 a2) := hT1.2.2.2.1.2.2.1.1
    have x122 : w1.cell? ⟨w.heap.size, 2, none⟩ = some (.int .i64 a3) := hT1.2.2.2.1.2.2.2.1.1
    have x123 : w1.cell? ⟨w.heap.size, 3, none⟩ = some (.int .i64 a4) := hT1.2.2.2.1.2.2.2.2.1.1
    have x124 : w1.cell? ⟨w.heap.size, 4, none⟩ = some (.int .i64 a5) := hT1.2.2.2.1.2.2.2.2.2.1.1
    have x125 : w1.cell? ⟨w.heap.size, 5, none⟩ = some (.int .i64 a6) := hT1.2.2.2.1.2.2.2.2.2.2.1.1
    have hk1 := hS1.1
    have hc1 := hS1.2.1
    have hf1 := hS1.2.2
    go_wp2_with fail
    refine (valid_h _ _ _ v _ HV2).mono ?_
    rintro e w2 ⟨rfl, hb2⟩
    have hT2 := TL.below hT1 hb2
    have hS2 := SB.below hS1 hb2
    clear hb2
    have x200 : w2.cell? ⟨w.heap.size + 1 + 1, 0, none⟩ = some (.int .i64 0) := hT2.2.1.2.1.1
    have x201 : w2.cell? ⟨w.heap.size + 1 + 1, 1, none⟩ = some (.int .i64 0) := hT2.2.1.2.2.1.1
    have x202 : w2.cell? ⟨w.heap.size + 1 + 1, 2, none⟩ = some (.int .i64 0) := hT2.2.1.2.2.2.1.1
    have x203 : w2.cell? ⟨w.heap.size + 1 + 1, 3, none⟩ = some (.int .i64 0) := hT2.2.1.2.2.2.2.1.1
    have x204 : w2.cell? ⟨w.heap.size + 1 + 1, 4, none⟩ = some (.int .i64 0) := hT2.2.1.2.2.2.2.2.1.1
    have x205 : w2.cell? ⟨w.heap.size + 1 + 1, 5, none⟩ = some (.int .i64 0) := hT2.2.1.2.2.2.2.2.2.1.1
    have x210 : w2.cell? ⟨w.heap.size + 1, 0, none⟩ = some (.int .i64 c1) := hT2.2.2.1.2.1.1
    have x211 : w2.cell? ⟨w.heap.size + 1, 1, none⟩ = some (.int .i64 c2) := hT2.2.2.1.2.2.1.1
    have x212 : w2.cell? ⟨w.heap.size + 1, 2, none⟩ = some (.int .i64 c3) := hT2.2.2.1.2.2.2.1.1
    have x220 : w2.cell? ⟨w.heap.size, 0, none⟩ = some (.int .i64 a1) := hT2.2.2.2.1.2.1.1
    have x221 : w2.cell? ⟨w.heap.size, 1, none⟩ = some (.int .i64 a2) := hT2.2.2.2.1.2.2.1.1
    have x222 : w2.cell? ⟨w.heap.size, 2, none⟩ = some (.int .i64 a3) := hT2.2.2.2.1.2.2.2.1.1
    have x223 : w2.cell? ⟨w.heap.size, 3, none⟩ = some (.int .i64 a4) := hT2.2.2.2.1.2.2.2.2.1.1
    have x224 : w2.cell? ⟨w.heap.size, 4, none⟩ = some (.int .i64 a5) := hT2.2.2.2.1.2.2.2.2.2.1.1
    have x225 : w2.cell? ⟨w.heap.size, 5, none⟩ = some (.int .i64 a6) := hT2.2.2.2.1.2.2.2.2.2.2.1.1
    have hk2 := hS2.1
    have hc2 := hS2.2.1
    have hf2 := hS2.2.2
    go_wp2_with fail
    refine (need_any _ _ _ _ hS2).mono ?_
    rintro e wn ⟨rfl, hbn, hSn⟩
    have hTn := TL.bex hT2 hbn (by omega) HNE.out
    clear hbn
    go_wp2_with fail
    have hT := TL.tail hTn
    have hR : CB _ (w.heap.size + 1 + 1) 0 [.int .i64 0, .int .i64 0, .int .i64 0, .int .i64 0, .int .i64 0, .int .i64 0] := hTn.2.1.2
    have r0 : wn.cell? ⟨w.heap.size + 1 + 1, 0, none⟩ = some (.int .i64 0) := hR.1.1
    have q0 : wn.frozen? ⟨w.heap.size + 1 + 1, 0, none⟩ = false := hR.1.2
    have r1 : wn.cell? ⟨w.heap.size + 1 + 1, 1, none⟩ = some (.int .i64 0) := hR.2.1.1
    have q1 : wn.frozen? ⟨w.heap.size + 1 + 1, 1, none⟩ = false := hR.2.1.2
    have r2 : wn.cell? ⟨w.heap.size + 1 + 1, 2, none⟩ = some (.int .i64 0) := hR.2.2.1.1
    have q2 : wn.frozen? ⟨w.heap.size + 1 + 1, 2, none⟩ = false := hR.2.2.1.2
    have r3 : wn.cell? ⟨w.heap.size + 1 + 1, 3, none⟩ = some (.int .i64 0) := hR.2.2.2.1.1
    have q3 : wn.frozen? ⟨w.heap.size + 1 + 1, 3, none⟩ = false := hR.2.2.2.1.2
    have r4 : wn.cell? ⟨w.heap.size + 1 + 1, 4, none⟩ = some (.int .i64 0) := hR.2.2.2.2.1.1
    have q4 : wn.frozen? ⟨w.heap.size + 1 + 1, 4, none⟩ = false := hR.2.2.2.2.1.2
    have r5 : wn.cell? ⟨w.heap.size + 1 + 1, 5, none⟩ = some (.int .i64 0) := hR.2.2.2.2.2.1.1
    have q5 : wn.frozen? ⟨w.heap.size + 1 + 1, 5, none⟩ = false := hR.2.2.2.2.2.1.2
    have SL := Lib.hid (fun (W : World) (h : TL w [(w.heap.size + 1, [.int .i64 c1, .int .i64 c2, .int .i64 c3]), (w.heap.size, [.int .i64 a1, .int .i64 a2, .int .i64 a3, .int .i64 a4, .int .i64 a5, .int .i64 a6])] W) => (show W.cell? ⟨w.heap.size + 1, 0, none⟩ = some (.int .i64 c1) ∧ W.cell? ⟨w.heap.size + 1, 1, none⟩ = some (.int .i64 c2) ∧ W.cell? ⟨w.heap.size + 1, 2, none⟩ = some (.int .i64 c3) ∧ W.cell? ⟨w.heap.size, 0, none⟩ = some (.int .i64 a1) ∧ W.cell? ⟨w.heap.size, 1, none⟩ = some (.int .i64 a2) ∧ W.cell? ⟨w.heap.size, 2, none⟩ = some (.int .i64 a3) ∧ W.cell? ⟨w.heap.size, 3, none⟩ = some (.int .i64 a4) ∧ W.cell? ⟨w.heap.size, 4, none⟩ = some (.int .i64 a5) ∧ W.cell? ⟨w.heap.size, 5, none⟩ = some (.int .i64 a6) ∧ TL w [(w.heap.size + 1, [.int .i64 c1, .int .i64 c2, .int .i64 c3]), (w.heap.size, [.int .i64 a1, .int .i64 a2, .int .i64 a3, .int .i64 a4, .int .i64 a5, .int .i64 a6])] W from ⟨h.2.1.2.1.1, h.2.1.2.2.1.1, h.2.1.2.2.2.1.1, h.2.2.1.2.1.1, h.2.2.1.2.2.1.1, h.2.2.1.2.2.2.1.1, h.2.2.1.2.2.2.2.1.1, h.2.2.1.2.2.2.2.2.1.1, h.2.2.1.2.2.2.2.2.2.1.1, h⟩))
    have TO := Lib.hid (fun (W : World) (h : W.cell? ⟨w.heap.size + 1, 0, none⟩ = some (.int .i64 c1) ∧ W.cell? ⟨w.heap.size + 1, 1, none⟩ = some (.int .i64 c2) ∧ W.cell? ⟨w.heap.size + 1, 2, none⟩ = some (.int .i64 c3) ∧ W.cell? ⟨w.heap.size, 0, none⟩ = some (.int .i64 a1) ∧ W.cell? ⟨w.heap.size, 1, none⟩ = some (.int .i64 a2) ∧ W.cell? ⟨w.heap.size, 2, none⟩ = some (.int .i64 a3) ∧ W.cell? ⟨w.heap.size, 3, none⟩ = some (.int .i64 a4) ∧ W.cell? ⟨w.heap.size, 4, none⟩ = some (.int .i64 a5) ∧ W.cell? ⟨w.heap.size, 5, none⟩ = some (.int .i64 a6) ∧ TL w [(w.heap.size + 1, [.int .i64 c1, .int .i64 c2, .int .i64 c3]), (w.heap.size, [.int .i64 a1, .int .i64 a2, .int .i64 a3, .int .i64 a4, .int .i64 a5, .int .i64 a6])] W) => (show TL w [(w.heap.size + 1, [.int .i64 c1, .int .i64 c2, .int .i64 c3]), (w.heap.size, [.int .i64 a1, .int .i64 a2, .int .i64 a3, .int .i64 a4, .int .i64 a5, .int .i64 a6])] W from h.2.2.2.2.2.2.2.2.2))
    go_region_held3 (fun w' => w'.cell? ⟨w.heap.size + 1, 0, none⟩ = some (.int .i64 c1) ∧ w'.cell? ⟨w.heap.size + 1, 1, none⟩ = some (.int .i64 c2) ∧ w'.cell? ⟨w.heap.size + 1, 2, none⟩ = some (.int .i64 c3) ∧ w'.cell? ⟨w.heap.size, 0, none⟩ = some (.int .i64 a1) ∧ w'.cell? ⟨w.heap.size, 1, none⟩ = some (.int .i64 a2) ∧ w'.cell? ⟨w.heap.size, 2, none⟩ = some (.int .i64 a3) ∧ w'.cell? ⟨w.heap.size, 3, none⟩ = some (.int .i64 a4) ∧ w'.cell? ⟨w.heap.size, 4, none⟩ = some (.int .i64 a5) ∧ w'.cell? ⟨w.heap.size, 5, none⟩ = some (.int .i64 a6) ∧ TL w [(w.heap.size + 1, [.int .i64 c1, .int .i64 c2, .int .i64 c3]), (w.heap.size, [.int .i64 a1, .int .i64 a2, .int .i64 a3, .int .i64 a4, .int .i64 a5, .int .i64 a6])] w')
      (first | with_reducible exact SL.out _ hT.drew | with_reducible exact SL.out _ (by assumption) | with_reducible exact SL.out _ (TL.set (TL.set (TL.set (TL.set (TL.set (TL.set (by assumption) (by omega) HNR.out) (by omega) HNR.out) (by omega) HNR.out) (by omega) HNR.out) (by omega) HNR.out) (by omega) HNR.out))
      (first | (go_at_call 29; refine (s_times _ _ _ _ _ _ _ _ _ (by assumption)).mono ?_; rintro e w1 ⟨rfl, hb, hS⟩; have hT := TL.bex (TO.out _ (by assumption)) hb (by omega) HNP.out; have hR : CB _ (w.heap.size + 1 + 1) 0 [.int .i64 0, .int .i64 0, .int .i64 0, .int .i64 0, .int .i64 0, .int .i64 0] := CB.sb (by assumption) hb (by omega) (by assumption); have r0 : w1.cell? ⟨w.heap.size + 1 + 1, 0, none⟩ = some (.int .i64 0) := hR.1.1; have q0 : w1.frozen? ⟨w.heap.size + 1 + 1, 0, none⟩ = false := hR.1.2; have r1 : w1.cell? ⟨w.heap.size + 1 + 1, 1, none⟩ = some (.int .i64 0) := hR.2.1.1; have q1 : w1.frozen? ⟨w.heap.size + 1 + 1, 1, none⟩ = false := hR.2.1.2; have r2 : w1.cell? ⟨w.heap.size + 1 + 1, 2, none⟩ = some (.int .i64 0) := hR.2.2.1.1; have q2 : w1.frozen? ⟨w.heap.size + 1 + 1, 2, none⟩ = false := hR.2.2.1.2; have r3 : w1.cell? ⟨w.heap.size + 1 + 1, 3, none⟩ = some (.int .i64 0) := hR.2.2.2.1.1; have q3 : w1.frozen? ⟨w.heap.size + 1 + 1, 3, none⟩ = false := hR.2.2.2.1.2; have r4 : w1.cell? ⟨w.heap.size + 1 + 1, 4, none⟩ = some (.int .i64 0) := hR.2.2.2.2.1.1; have q4 : w1.frozen? ⟨w.heap.size + 1 + 1, 4, none⟩ = false := hR.2.2.2.2.1.2; have r5 : w1.cell? ⟨w.heap.size + 1 + 1, 5, none⟩ = some (.int .i64 0) := hR.2.2.2.2.2.1.1; have q5 : w1.frozen? ⟨w.heap.size + 1 + 1, 5, none⟩ = false := hR.2.2.2.2.2.1.2) | (go_at_call 24; refine (gotJ_any _ _ _ _ _ _ _ p1 p2 p3 p4 p5 p6 _ b _ (by assumption) HG).mono ?_; rintro e w1 ⟨rfl, hb⟩; have hT := TL.below (TO.out _ (by assumption)) hb; have hR : CB _ (w.heap.size + 1 + 1) 0 [.int .i64 0, .int .i64 0, .int .i64 0, .int .i64 0, .int .i64 0, .int .i64 0] := CB.below hb (Nat.lt_trans (show w.heap.size + 1 + 1 < w.heap.size + 1 + 1 + 1 by omega) (SB.lt (by assumption))) (by assumption); have r0 : w1.cell? ⟨w.heap.size + 1 + 1, 0, none⟩ = some (.int .i64 0) := hR.1.1; have q0 : w1.frozen? ⟨w.heap.size + 1 + 1, 0, none⟩ = false := hR.1.2; have r1 : w1.cell? ⟨w.heap.size + 1 + 1, 1, none⟩ = some (.int .i64 0) := hR.2.1.1; have q1 : w1.frozen? ⟨w.heap.size + 1 + 1, 1, none⟩ = false := hR.2.1.2; have r2 : w1.cell? ⟨w.heap.size + 1 + 1, 2, none⟩ = some (.int .i64 0) := hR.2.2.1.1; have q2 : w1.frozen? ⟨w.heap.size + 1 + 1, 2, none⟩ = false := hR.2.2.1.2; have r3 : w1.cell? ⟨w.heap.size + 1 + 1, 3, none⟩ = some (.int .i64 0) := hR.2.2.2.1.1; have q3 : w1.frozen? ⟨w.heap.size + 1 + 1, 3, none⟩ = false := hR.2.2.2.1.2; have r4 : w1.cell? ⟨w.heap.size + 1 + 1, 4, none⟩ = some (.int .i64 0) := hR.2.2.2.2.1.1; have q4 : w1.frozen? ⟨w.heap.size + 1 + 1, 4, none⟩ = false := hR.2.2.2.2.1.2; have r5 : w1.cell? ⟨w.heap.size + 1 + 1, 5, none⟩ = some (.int .i64 0) := hR.2.2.2.2.2.1.1; have q5 : w1.frozen? ⟨w.heap.size + 1 + 1, 5, none⟩ = false := hR.2.2.2.2.2.1.2))
    go_wp2_with fail
    refine bodyPost_ret (by simp [results, Try.results16, go_sem, r0, r1, r2, r3, r4, r5]; rfl) rfl ?_
    exact ⟨rfl, (TL.set (TL.set (TL.set (TL.set (TL.set (TL.set hT (by omega) HNR.out) (by omega) HNR.out) (by omega) HNR.out) (by omega) HNR.out) (by omega) HNR.out) (by omega) HNR.out).1.1⟩
  · have HV1 := Lib.hid (show (valid ⟨a1, a2, a3⟩ && valid ⟨a4, a5, a6⟩) = false by simpa using hx)
    have HG : Hid ((if (((false || !false) || !(times ⟨a1, a2, a3⟩ ⟨c1, c2, c3⟩).2) || !(times ⟨a4, a5, a6⟩ ⟨c1, c2, c3⟩).2) then ((nil, nil), false) else (((times ⟨a1, a2, a3⟩ ⟨c1, c2, c3⟩).1, (times ⟨a4, a5, a6⟩ ⟨c1, c2, c3⟩).1), true)) = (((⟨p1, p2, p3⟩, ⟨p4, p5, p6⟩), b) : (Fr × Fr) × Bool)) := (jtimes_got _ _ _ false (by rw [HV1.out]; rfl)).trans H.out
    clear hv hx H
    go_enter Try.func16, Try.ntmps16
    go_wp2_with fail
    have hT0 : TL w [(w.heap.size + 1 + 1, [.int .i64 0, .int .i64 0, .int .i64 0, .int .i64 0, .int .i64 0, .int .i64 0]), (w.heap.size + 1, [.int .i64 c1, .int .i64 c2, .int .i64 c3]), (w.heap.size, [.int .i64 a1, .int .i64 a2, .int .i64 a3, .int .i64 a4, .int .i64 a5, .int .i64 a6])] _ := TL.alloc (TL.new (t := 29) (TL.new (t := 27) (TL.new (t := 29) (TL.refl w) rfl) (by simp)) (by simp)) (.cells #[.bool false] 45)
    have hS0 : SB _ (w.heap.size + 1 + 1 + 1) false := SB.new (w := (((w.alloc (.cells #[.int .i64 a1, .int .i64 a2, .int .i64 a3, .int .i64 a4, .int .i64 a5, .int .i64 a6] 29)).alloc (.cells #[.int .i64 c1, .int .i64 c2, .int .i64 c3] 27)).alloc (.cells #[.int .i64 0, .int .i64 0, .int .i64 0, .int .i64 0, .int .i64 0, .int .i64 0] 29))) (t := 45) (by simp)
    generalize (((w.alloc (.cells #[.int .i64 a1, .int .i64 a2, .int .i64 a3, .int .i64 a4, .int .i64 a5, .int .i64 a6] 29)).alloc (.cells #[.int .i64 c1, .int .i64 c2, .int .i64 c3] 27)).alloc (.cells #[.int .i64 0, .int .i64 0, .int .i64 0, .int .i64 0, .int .i64 0, .int .i64 0] 29)).alloc (.cells #[.bool false] 45) = W at *
    have x000 : W.cell? ⟨w.heap.size + 1 + 1, 0, none⟩ = some (.int .i64 0) := hT0.2.1.2.1.1
    have x001 : W.cell? ⟨w.heap.size + 1 + 1, 1, none⟩ = some (.int .i64 0) := hT0.2.1.2.2.1.1
    have x002 : W.cell? ⟨w.heap.size + 1 + 1, 2, none⟩ = some (.int .i64 0) := hT0.2.1.2.2.2.1.1
    have x003 : W.cell? ⟨w.heap.size + 1 + 1, 3, none⟩ = some (.int .i64 0) := hT0.2.1.2.2.2.2.1.1
    have x004 : W.cell? ⟨w.heap.size + 1 + 1, 4, none⟩ = some (.int .i64 0) := hT0.2.1.2.2.2.2.2.1.1
    have x005 : W.cell? ⟨w.heap.size + 1 + 1, 5, none⟩ = some (.int .i64 0) := hT0.2.1.2.2.2.2.2.2.1.1
    have x010 : W.cell? ⟨w.heap.size + 1, 0, none⟩ = some (.int .i64 c1) := hT0.2.2.1.2.1.1
    have x011 : W.cell? ⟨w.heap.size + 1, 1, none⟩ = some (.int .i64 c2) := hT0.2.2.1.2.2.1.1
    have x012 : W.cell? ⟨w.heap.size + 1, 2, none⟩ = some (.int .i64 c3) := hT0.2.2.1.2.2.2.1.1
    have x020 : W.cell? ⟨w.heap.size, 0, none⟩ = some (.int .i64 a1) := hT0.2.2.2.1.2.1.1
    have x021 : W.cell? ⟨w.heap.size, 1, none⟩ = some (.int .i64 a2) := hT0.2.2.2.1.2.2.1.1
    have x022 : W.cell? ⟨w.heap.size, 2, none⟩ = some (.int .i64 a3) := hT0.2.2.2.1.2.2.2.1.1
    have x023 : W.cell? ⟨w.heap.size, 3, none⟩ = some (.int .i64 a4) := hT0.2.2.2.1.2.2.2.2.1.1
    have x024 : W.cell? ⟨w.heap.size, 4, none⟩ = some (.int .i64 a5) := hT0.2.2.2.1.2.2.2.2.2.1.1
    have x025 : W.cell? ⟨w.heap.size, 5, none⟩ = some (.int .i64 a6) := hT0.2.2.2.1.2.2.2.2.2.2.1.1
    have hk0 := hS0.1
    refine (jvalid_any _ _ _ _ _ _ false _ HV1).mono ?_
    rintro e w1 ⟨rfl, hb1⟩
    have hT1 := TL.below hT0 hb1
    have hS1 := SB.below hS0 hb1
    clear hb1
    have x100 : w1.cell? ⟨w.heap.size + 1 + 1, 0, none⟩ = some (.int .i64 0) := hT1.2.1.2.1.1
    have x101 : w1.cell? ⟨w.heap.size + 1 + 1, 1, none⟩ = some (.int .i64 0) := hT1.2.1.2.2.1.1
    have x102 : w1.cell? ⟨w.heap.size + 1 + 1, 2, none⟩ = some (.int .i64 0) := hT1.2.1.2.2.2.1.1
    have x103 : w1.cell? ⟨w.heap.size + 1 + 1, 3, none⟩ = some (.int .i64 0) := hT1.2.1.2.2.2.2.1.1
    have x104 : w1.cell? ⟨w.heap.size + 1 + 1, 4, none⟩ = some (.int .i64 0) := hT1.2.1.2.2.2.2.2.1.1
    have x105 : w1.cell? ⟨w.heap.size + 1 + 1, 5, none⟩ = some (.int .i64 0) := hT1.2.1.2.2.2.2.2.2.1.1
    have x110 : w1.cell? ⟨w.heap.size + 1, 0, none⟩ = some (.int .i64 c1) := hT1.2.2.1.2.1.1
    have x111 : w1.cell? ⟨w.heap.size + 1, 1, none⟩ = some (.int .i64 c2) := hT1.2.2.1.2.2.1.1
    have x112 : w1.cell? ⟨w.heap.size + 1, 2, none⟩ = some (.int .i64 c3) := hT1.2.2.1.2.2.2.1.1
    have x120 : w1.cell? ⟨w.heap.size, 0, none⟩ = some (.int .i64 a1) := hT1.2.2.2.1.2.1.1
    have x121 : w1.cell? ⟨w.heap.size, 1, none⟩ = some (.int .i64 a2) := hT1.2.2.2.1.2.2.1.1
    have x122 : w1.cell? ⟨w.heap.size, 2, none⟩ = some (.int .i64 a3) := hT1.2.2.2.1.2.2.2.1.1
    have x123 : w1.cell? ⟨w.heap.size, 3, none⟩ = some (.int .i64 a4) := hT1.2.2.2.1.2.2.2.2.1.1
    have x124 : w1.cell? ⟨w.heap.size, 4, none⟩ = some (.int .i64 a5) := hT1.2.2.2.1.2.2.2.2.2.1.1
    have x125 : w1.cell? ⟨w.heap.size, 5, none⟩ = some (.int .i64 a6) := hT1.2.2.2.1.2.2.2.2.2.2.1.1
    have hk1 := hS1.1
    have hc1 := hS1.2.1
    have hf1 := hS1.2.2
    go_wp2_with fail
    refine (need_any _ _ _ _ hS1).mono ?_
    rintro e wn ⟨rfl, hbn, hSn⟩
    have hTn := TL.bex hT1 hbn (by omega) HNE.out
    clear hbn
    go_wp2_with fail
    have hT := TL.tail hTn
    have hR : CB _ (w.heap.size + 1 + 1) 0 [.int .i64 0, .int .i64 0, .int .i64 0, .int .i64 0, .int .i64 0, .int .i64 0] := hTn.2.1.2
    have r0 : wn.cell? ⟨w.heap.size + 1 + 1, 0, none⟩ = some (.int .i64 0) := hR.1.1
    have q0 : wn.frozen? ⟨w.heap.size + 1 + 1, 0, none⟩ = false := hR.1.2
    have r1 : wn.cell? ⟨w.heap.size + 1 + 1, 1, none⟩ = some (.int .i64 0) := hR.2.1.1
    have q1 : wn.frozen? ⟨w.heap.size + 1 + 1, 1, none⟩ = false := hR.2.1.2
    have r2 : wn.cell? ⟨w.heap.size + 1 + 1, 2, none⟩ = some (.int .i64 0) := hR.2.2.1.1
    have q2 : wn.frozen? ⟨w.heap.size + 1 + 1, 2, none⟩ = false := hR.2.2.1.2
    have r3 : wn.cell? ⟨w.heap.size + 1 + 1, 3, none⟩ = some (.int .i64 0) := hR.2.2.2.1.1
    have q3 : wn.frozen? ⟨w.heap.size + 1 + 1, 3, none⟩ = false := hR.2.2.2.1.2
    have r4 : wn.cell? ⟨w.heap.size + 1 + 1, 4, none⟩ = some (.int .i64 0) := hR.2.2.2.2.1.1
    have q4 : wn.frozen? ⟨w.heap.size + 1 + 1, 4, none⟩ = false := hR.2.2.2.2.1.2
    have r5 : wn.cell? ⟨w.heap.size + 1 + 1, 5, none⟩ = some (.int .i64 0) := hR.2.2.2.2.2.1.1
    have q5 : wn.frozen? ⟨w.heap.size + 1 + 1, 5, none⟩ = false := hR.2.2.2.2.2.1.2
    have SL := Lib.hid (fun (W : World) (h : TL w [(w.heap.size + 1, [.int .i64 c1, .int .i64 c2, .int .i64 c3]), (w.heap.size, [.int .i64 a1, .int .i64 a2, .int .i64 a3, .int .i64 a4, .int .i64 a5, .int .i64 a6])] W) => (show W.cell? ⟨w.heap.size + 1, 0, none⟩ = some (.int .i64 c1) ∧ W.cell? ⟨w.heap.size + 1, 1, none⟩ = some (.int .i64 c2) ∧ W.cell? ⟨w.heap.size + 1, 2, none⟩ = some (.int .i64 c3) ∧ W.cell? ⟨w.heap.size, 0, none⟩ = some (.int .i64 a1) ∧ W.cell? ⟨w.heap.size, 1, none⟩ = some (.int .i64 a2) ∧ W.cell? ⟨w.heap.size, 2, none⟩ = some (.int .i64 a3) ∧ W.cell? ⟨w.heap.size, 3, none⟩ = some (.int .i64 a4) ∧ W.cell? ⟨w.heap.size, 4, none⟩ = some (.int .i64 a5) ∧ W.cell? ⟨w.heap.size, 5, none⟩ = some (.int .i64 a6) ∧ TL w [(w.heap.size + 1, [.int .i64 c1, .int .i64 c2, .int .i64 c3]), (w.heap.size, [.int .i64 a1, .int .i64 a2, .int .i64 a3, .int .i64 a4, .int .i64 a5, .int .i64 a6])] W from ⟨h.2.1.2.1.1, h.2.1.2.2.1.1, h.2.1.2.2.2.1.1, h.2.2.1.2.1.1, h.2.2.1.2.2.1.1, h.2.2.1.2.2.2.1.1, h.2.2.1.2.2.2.2.1.1, h.2.2.1.2.2.2.2.2.1.1, h.2.2.1.2.2.2.2.2.2.1.1, h⟩))
    have TO := Lib.hid (fun (W : World) (h : W.cell? ⟨w.heap.size + 1, 0, none⟩ = some (.int .i64 c1) ∧ W.cell? ⟨w.heap.size + 1, 1, none⟩ = some (.int .i64 c2) ∧ W.cell? ⟨w.heap.size + 1, 2, none⟩ = some (.int .i64 c3) ∧ W.cell? ⟨w.heap.size, 0, none⟩ = some (.int .i64 a1) ∧ W.cell? ⟨w.heap.size, 1, none⟩ = some (.int .i64 a2) ∧ W.cell? ⟨w.heap.size, 2, none⟩ = some (.int .i64 a3) ∧ W.cell? ⟨w.heap.size, 3, none⟩ = some (.int .i64 a4) ∧ W.cell? ⟨w.heap.size, 4, none⟩ = some (.int .i64 a5) ∧ W.cell? ⟨w.heap.size, 5, none⟩ = some (.int .i64 a6) ∧ TL w [(w.heap.size + 1, [.int .i64 c1, .int .i64 c2, .int .i64 c3]), (w.heap.size, [.int .i64 a1, .int .i64 a2, .int .i64 a3, .int .i64 a4, .int .i64 a5, .int .i64 a6])] W) => (show TL w [(w.heap.size + 1, [.int .i64 c1, .int .i64 c2, .int .i64 c3]), (w.heap.size, [.int .i64 a1, .int .i64 a2, .int .i64 a3, .int .i64 a4, .int .i64 a5, .int .i64 a6])] W from h.2.2.2.2.2.2.2.2.2))
    go_region_held3 (fun w' => w'.cell? ⟨w.heap.size + 1, 0, none⟩ = some (.int .i64 c1) ∧ w'.cell? ⟨w.heap.size + 1, 1, none⟩ = some (.int .i64 c2) ∧ w'.cell? ⟨w.heap.size + 1, 2, none⟩ = some (.int .i64 c3) ∧ w'.cell? ⟨w.heap.size, 0, none⟩ = some (.int .i64 a1) ∧ w'.cell? ⟨w.heap.size, 1, none⟩ = some (.int .i64 a2) ∧ w'.cell? ⟨w.heap.size, 2, none⟩ = some (.int .i64 a3) ∧ w'.cell? ⟨w.heap.size, 3, none⟩ = some (.int .i64 a4) ∧ w'.cell? ⟨w.heap.size, 4, none⟩ = some (.int .i64 a5) ∧ w'.cell? ⟨w.heap.size, 5, none⟩ = some (.int .i64 a6) ∧ TL w [(w.heap.size + 1, [.int .i64 c1, .int .i64 c2, .int .i64 c3]), (w.heap.size, [.int .i64 a1, .int .i64 a2, .int .i64 a3, .int .i64 a4, .int .i64 a5, .int .i64 a6])] w')
      (first | with_reducible exact SL.out _ hT.drew | with_reducible exact SL.out _ (by assumption) | with_reducible exact SL.out _ (TL.set (TL.set (TL.set (TL.set (TL.set (TL.set (by assumption) (by omega) HNR.out) (by omega) HNR.out) (by omega) HNR.out) (by omega) HNR.out) (by omega) HNR.out) (by omega) HNR.out))
      (first | (go_at_call 29; refine (s_times _ _ _ _ _ _ _ _ _ (by assumption)).mono ?_; rintro e w1 ⟨rfl, hb, hS⟩; have hT := TL.bex (TO.out _ (by assumption)) hb (by omega) HNP.out; have hR : CB _ (w.heap.size + 1 + 1) 0 [.int .i64 0, .int .i64 0, .int .i64 0, .int .i64 0, .int .i64 0, .int .i64 0] := CB.sb (by assumption) hb (by omega) (by assumption); have r0 : w1.cell? ⟨w.heap.size + 1 + 1, 0, none⟩ = some (.int .i64 0) := hR.1.1; have q0 : w1.frozen? ⟨w.heap.size + 1 + 1, 0, none⟩ = false := hR.1.2; have r1 : w1.cell? ⟨w.heap.size + 1 + 1, 1, none⟩ = some (.int .i64 0) := hR.2.1.1; have q1 : w1.frozen? ⟨w.heap.size + 1 + 1, 1, none⟩ = false := hR.2.1.2; have r2 : w1.cell? ⟨w.heap.size + 1 + 1, 2, none⟩ = some (.int .i64 0) := hR.2.2.1.1; have q2 : w1.frozen? ⟨w.heap.size + 1 + 1, 2, none⟩ = false := hR.2.2.1.2; have r3 : w1.cell? ⟨w.heap.size + 1 + 1, 3, none⟩ = some (.int .i64 0) := hR.2.2.2.1.1; have q3 : w1.frozen? ⟨w.heap.size + 1 + 1, 3, none⟩ = false := hR.2.2.2.1.2; have r4 : w1.cell? ⟨w.heap.size + 1 + 1, 4, none⟩ = some (.int .i64 0) := hR.2.2.2.2.1.1; have q4 : w1.frozen? ⟨w.heap.size + 1 + 1, 4, none⟩ = false := hR.2.2.2.2.1.2; have r5 : w1.cell? ⟨w.heap.size + 1 + 1, 5, none⟩ = some (.int .i64 0) := hR.2.2.2.2.2.1.1; have q5 : w1.frozen? ⟨w.heap.size + 1 + 1, 5, none⟩ = false := hR.2.2.2.2.2.1.2) | (go_at_call 24; refine (gotJ_any _ _ _ _ _ _ _ p1 p2 p3 p4 p5 p6 _ b _ (by assumption) HG).mono ?_; rintro e w1 ⟨rfl, hb⟩; have hT := TL.below (TO.out _ (by assumption)) hb; have hR : CB _ (w.heap.size + 1 + 1) 0 [.int .i64 0, .int .i64 0, .int .i64 0, .int .i64 0, .int .i64 0, .int .i64 0] := CB.below hb (Nat.lt_trans (show w.heap.size + 1 + 1 < w.heap.size + 1 + 1 + 1 by omega) (SB.lt (by assumption))) (by assumption); have r0 : w1.cell? ⟨w.heap.size + 1 + 1, 0, none⟩ = some (.int .i64 0) := hR.1.1; have q0 : w1.frozen? ⟨w.heap.size + 1 + 1, 0, none⟩ = false := hR.1.2; have r1 : w1.cell? ⟨w.heap.size + 1 + 1, 1, none⟩ = some (.int .i64 0) := hR.2.1.1; have q1 : w1.frozen? ⟨w.heap.size + 1 + 1, 1, none⟩ = false := hR.2.1.2; have r2 : w1.cell? ⟨w.heap.size + 1 + 1, 2, none⟩ = some (.int .i64 0) := hR.2.2.1.1; have q2 : w1.frozen? ⟨w.heap.size + 1 + 1, 2, none⟩ = false := hR.2.2.1.2; have r3 : w1.cell? ⟨w.heap.size + 1 + 1, 3, none⟩ = some (.int .i64 0) := hR.2.2.2.1.1; have q3 : w1.frozen? ⟨w.heap.size + 1 + 1, 3, none⟩ = false := hR.2.2.2.1.2; have r4 : w1.cell? ⟨w.heap.size + 1 + 1, 4, none⟩ = some (.int .i64 0) := hR.2.2.2.2.1.1; have q4 : w1.frozen? ⟨w.heap.size + 1 + 1, 4, none⟩ = false := hR.2.2.2.2.1.2; have r5 : w1.cell? ⟨w.heap.size + 1 + 1, 5, none⟩ = some (.int .i64 0) := hR.2.2.2.2.2.1.1; have q5 : w1.frozen? ⟨w.heap.size + 1 + 1, 5, none⟩ = false := hR.2.2.2.2.2.1.2))
    go_wp2_with fail
    refine bodyPost_ret (by simp [results, Try.results16, go_sem, r0, r1, r2, r3, r4, r5]; rfl) rfl ?_
    exact ⟨rfl, (TL.set (TL.set (TL.set (TL.set (TL.set (TL.set hT (by omega) HNR.out) (by omega) HNR.out) (by omega) HNR.out) (by omega) HNR.out) (by omega) HNR.out) (by omega) HNR.out).1.1⟩

end Go.Proofs.Ytfiabpbfhldcnaa
