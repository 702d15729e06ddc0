/-
  THE DRAWS of vectors: some integers. Condition: the bytes that came in.
-/
import Derived.Test.YtlhbpjdokkelpaaDoorWs
namespace Go.Proofs.YtlhbpjdokkelpaaDoor
open Go.RowKit
open PL

theorem RD.far6 {B g K k : Nat} {x0 x1 x2 x3 x4 x5 : Value} {w : World} (h : RD B g K w) (hk : B ≤ k) (hn : g ≠ k) : RD B g K ((((((w.setCell ⟨k, 0, none⟩ x0).setCell ⟨k, 1, none⟩ x1).setCell ⟨k, 2, none⟩ x2).setCell ⟨k, 3, none⟩ x3).setCell ⟨k, 4, none⟩ x4).setCell ⟨k, 5, none⟩ x5) :=
  RD.far (RD.far (RD.far (RD.far (RD.far (RD.far h hk hn) hk hn) hk hn) hk hn) hk hn) hk hn
theorem Bex.new6 {g k : Nat} {a w : World} {x0 x1 x2 x3 x4 x5 : Value} (h : Bex g a w) (hk : a.heap.size ≤ k) : Bex g a ((((((w.setCell ⟨k, 0, none⟩ x0).setCell ⟨k, 1, none⟩ x1).setCell ⟨k, 2, none⟩ x2).setCell ⟨k, 3, none⟩ x3).setCell ⟨k, 4, none⟩ x4).setCell ⟨k, 5, none⟩ x5) :=
  Bex.setNew (Bex.setNew (Bex.setNew (Bex.setNew (Bex.setNew (Bex.setNew h hk _) hk _) hk _) hk _) hk _) hk _

set_option maxHeartbeats 8000000 in
theorem l91Jones_any (B g K : Nat) (w : World) (HR : RD B g K w) (hK : K ≤ 8000) :
    Calls Tryd.prog 23 #[.pointer (some ⟨g, 0, none⟩)] w fun e w' =>
      ∃ x1 x2 x3 x4 x5 x6 : Int, e = .returned (.agg #[.int .i64 x1, .int .i64 x2, .int .i64 x3, .int .i64 x4, .int .i64 x5, .int .i64 x6]) ∧ Bex g w w' ∧ RD B g (K + 11) w' := by
  go_enter Tryd.func23, Tryd.ntmps23
  go_wp2_with fail
  have hg := HR.2.2.1
  have hBg : B ≤ w.heap.size := HR.2.1
  have hb0 : Below w.heap.size w (w.alloc (.cells #[.int .i64 0, .int .i64 0, .int .i64 0, .int .i64 0, .int .i64 0, .int .i64 0] 32)) := (Below.refl _ _).alloc (Nat.le_refl _) _
  have O0 : CB (w.alloc (.cells #[.int .i64 0, .int .i64 0, .int .i64 0, .int .i64 0, .int .i64 0, .int .i64 0] 32)) w.heap.size 0 [.int .i64 0, .int .i64 0, .int .i64 0, .int .i64 0, .int .i64 0, .int .i64 0] := CB.new rfl
  have R0 := RD.below HR hb0
  have X0 := Bex.of (k := g) hb0
  have hs0 : w.heap.size < (w.alloc (.cells #[.int .i64 0, .int .i64 0, .int .i64 0, .int .i64 0, .int .i64 0, .int .i64 0] 32)).heap.size := by simp
  generalize (w.alloc (.cells #[.int .i64 0, .int .i64 0, .int .i64 0, .int .i64 0, .int .i64 0, .int .i64 0] 32)) = W0 at *
  refine (l91Frac_any B g K _ R0 (by omega)).mono ?_
  rintro e w1 ⟨u1, u2, u3, rfl, Y1, R1⟩
  have O1 := CB.bex Y1 hs0 (by omega) O0
  have hs1 : w.heap.size < w1.heap.size := Nat.lt_of_lt_of_le hs0 Y1.size
  have X1 := X0.trans Y1
  have hg1 := R1.2.2.1
  go_wp2_with fail
  have hb1 : Below w1.heap.size w1 (w1.alloc (.cells #[.int .i64 u1, .int .i64 u2, .int .i64 u3] 24)) := (Below.refl _ _).alloc (Nat.le_refl _) _
  have O2 := CB.below hb1 hs1 O1
  have A2 : CB (w1.alloc (.cells #[.int .i64 u1, .int .i64 u2, .int .i64 u3] 24)) w1.heap.size 0 [.int .i64 u1, .int .i64 u2, .int .i64 u3] := CB.new rfl
  have ha2 : w1.heap.size < (w1.alloc (.cells #[.int .i64 u1, .int .i64 u2, .int .i64 u3] 24)).heap.size := by simp
  have R2 := RD.below R1 hb1
  have X2 := X1.trans (Bex.of (k := g) hb1)
  generalize (w1.alloc (.cells #[.int .i64 u1, .int .i64 u2, .int .i64 u3] 24)) = w2 at *
  refine (l91Frac_any B g (K + 5) _ R2 (by omega)).mono ?_
  rintro e w3 ⟨v1, v2, v3, rfl, Y3, R3⟩
  have O3 := CB.bex Y3 (by omega) (by omega) O2
  have A3 := CB.bex Y3 ha2 (by omega) A2
  have ha3 : w1.heap.size < w3.heap.size := Nat.lt_of_lt_of_le ha2 Y3.size
  have X3 := X2.trans Y3
  have hg3 := R3.2.2.1
  go_wp2_with fail
  have hb3 : Below w3.heap.size w3 (w3.alloc (.cells #[.int .i64 v1, .int .i64 v2, .int .i64 v3] 24)) := (Below.refl _ _).alloc (Nat.le_refl _) _
  have O4 := CB.below hb3 (by omega) O3
  have A4 := CB.below hb3 ha3 A3
  have D4 : CB (w3.alloc (.cells #[.int .i64 v1, .int .i64 v2, .int .i64 v3] 24)) w3.heap.size 0 [.int .i64 v1, .int .i64 v2, .int .i64 v3] := CB.new rfl
  have hd4 : w3.heap.size < (w3.alloc (.cells #[.int .i64 v1, .int .i64 v2, .int .i64 v3] 24)).heap.size := by simp
  have R4 := RD.below R3 hb3
  have X4 := X3.trans (Bex.of (k := g) hb3)
  generalize (w3.alloc (.cells #[.int .i64 v1, .int .i64 v2, .int .i64 v3] 24)) = w4 at *
  refine (pick_any B g (K + 10) 10 _ R4 (by omega) (by omega) (by omega)).mono ?_
  rintro e w5 ⟨p, rfl, p0, p1, Y5, R5⟩
  have O5 := CB.bex Y5 (by omega) (by omega) O4
  have A5 := CB.bex Y5 (by omega) (by omega) A4
  have D5 := CB.bex Y5 hd4 (by omega) D4
  have X5 := X4.trans Y5
  have hz5 := Y5.size
  have oc0 : w5.cell? ⟨w.heap.size, 0, none⟩ = some (.int .i64 0) := O5.1.1
  have of0 : w5.frozen? ⟨w.heap.size, 0, none⟩ = false := O5.1.2
  have oc1 : w5.cell? ⟨w.heap.size, 1, none⟩ = some (.int .i64 0) := O5.2.1.1
  have of1 : w5.frozen? ⟨w.heap.size, 1, none⟩ = false := O5.2.1.2
  have oc2 : w5.cell? ⟨w.heap.size, 2, none⟩ = some (.int .i64 0) := O5.2.2.1.1
  have of2 : w5.frozen? ⟨w.heap.size, 2, none⟩ = false := O5.2.2.1.2
  have oc3 : w5.cell? ⟨w.heap.size, 3, none⟩ = some (.int .i64 0) := O5.2.2.2.1.1
  have of3 : w5.frozen? ⟨w.heap.size, 3, none⟩ = false := O5.2.2.2.1.2
  have oc4 : w5.cell? ⟨w.heap.size, 4, none⟩ = some (.int .i64 0) := O5.2.2.2.2.1.1
  have of4 : w5.frozen? ⟨w.heap.size, 4, none⟩ = false := O5.2.2.2.2.1.2
  have oc5 : w5.cell? ⟨w.heap.size, 5, none⟩ = some (.int .i64 0) := O5.2.2.2.2.2.1.1
  have of5 : w5.frozen? ⟨w.heap.size, 5, none⟩ = false := O5.2.2.2.2.2.1.2
  have ac0 : w5.cell? ⟨w1.heap.size, 0, none⟩ = some (.int .i64 u1) := A5.1.1
  have af0 : w5.frozen? ⟨w1.heap.size, 0, none⟩ = false := A5.1.2
  have ac1 : w5.cell? ⟨w1.heap.size, 1, none⟩ = some (.int .i64 u2) := A5.2.1.1
  have af1 : w5.frozen? ⟨w1.heap.size, 1, none⟩ = false := A5.2.1.2
  have ac2 : w5.cell? ⟨w1.heap.size, 2, none⟩ = some (.int .i64 u3) := A5.2.2.1.1
  have af2 : w5.frozen? ⟨w1.heap.size, 2, none⟩ = false := A5.2.2.1.2
  have dc0 : w5.cell? ⟨w3.heap.size, 0, none⟩ = some (.int .i64 v1) := D5.1.1
  have df0 : w5.frozen? ⟨w3.heap.size, 0, none⟩ = false := D5.1.2
  have dc1 : w5.cell? ⟨w3.heap.size, 1, none⟩ = some (.int .i64 v2) := D5.2.1.1
  have df1 : w5.frozen? ⟨w3.heap.size, 1, none⟩ = false := D5.2.1.2
  have dc2 : w5.cell? ⟨w3.heap.size, 2, none⟩ = some (.int .i64 v3) := D5.2.2.1.1
  have df2 : w5.frozen? ⟨w3.heap.size, 2, none⟩ = false := D5.2.2.1.2
  have ne1 : w.heap.size ≠ w1.heap.size := by omega
  have ne2 : w.heap.size ≠ w3.heap.size := by omega
  have ne3 : w1.heap.size ≠ w3.heap.size := by omega
  by_cases n0 : p = 0
  · subst n0
    go_wp2_with fail
    refine bodyPost_ret (by simp [results, Tryd.results23, go_sem, oc0, oc1, oc2, oc3, oc4, oc5]; rfl) rfl ?_
    exact ⟨_, _, _, _, _, _, rfl, Bex.new6 (X5.new3 (by omega)) (Nat.le_refl _), (RD.far6 (RD.far3 R5 (by omega) (by omega)) hBg (by omega)).mono (by omega)⟩
  have e0 : (p == 0) = false := by simpa using n0
  by_cases n1 : p = 1
  · subst n1
    go_wp2_with fail
    refine bodyPost_ret (by simp [results, Tryd.results23, go_sem, oc0, oc1, oc2, oc3, oc4, oc5]; rfl) rfl ?_
    exact ⟨_, _, _, _, _, _, rfl, Bex.new6 (X5.new3 (by omega)) (Nat.le_refl _), (RD.far6 (RD.far3 R5 (by omega) (by omega)) hBg (by omega)).mono (by omega)⟩
  have e1 : (p == 1) = false := by simpa using n1
  go_wp2_with fail
  refine bodyPost_ret (by simp [results, Tryd.results23, go_sem, oc0, oc1, oc2, oc3, oc4, oc5]; rfl) rfl ?_
  exact ⟨_, _, _, _, _, _, rfl, Bex.new6 X5 (Nat.le_refl _), (RD.far6 R5 hBg (by omega)).mono (by omega)⟩

set_option maxHeartbeats 8000000 in
theorem DrawJonesValid_any (a : Option Addr) (len cap : Nat) (w : World) (hB : BytesIn w a len cap) :
    Calls Tryd.prog 13 #[.slice a len cap] w fun e w' =>
      ∃ x1 x2 x3 x4 x5 x6 : Int, e = .returned (.agg #[.int .i64 x1, .int .i64 x2, .int .i64 x3, .int .i64 x4, .int .i64 x5, .int .i64 x6]) ∧ Below w.heap.size w w' := by
  go_enter Tryd.func13, Tryd.ntmps13
  go_wp2_with fail
  have T0 : TL w [(w.heap.size, [.int .i64 0, .int .i64 0, .int .i64 0, .int .i64 0, .int .i64 0, .int .i64 0])] (w.alloc (.cells #[.int .i64 0, .int .i64 0, .int .i64 0, .int .i64 0, .int .i64 0, .int .i64 0] 32)) := TL.new (t := 32) (TL.refl w) rfl
  generalize (w.alloc (.cells #[.int .i64 0, .int .i64 0, .int .i64 0, .int .i64 0, .int .i64 0, .int .i64 0] 32)) = W at *
  refine (l6Open_any a len cap W (hB.below T0.1.1)).mono ?_
  rintro e w1 ⟨g, rfl, hb1, R1⟩
  have T1 := T0.below hb1
  have N := TL.ne T0 R1.1
  have hg := Nat.le_trans T0.1.2 R1.1
  go_wp2_with fail
  refine (l91Jones_any _ g 0 _ R1 (by omega)).mono ?_
  rintro e w2 ⟨x1, x2, x3, x4, x5, x6, rfl, X2, R2⟩
  have T2 := T1.bexR X2 hg N
  have oc0 : w2.cell? ⟨w.heap.size, 0, none⟩ = some (.int .i64 0) := T2.2.1.2.1.1
  have of0 : w2.frozen? ⟨w.heap.size, 0, none⟩ = false := T2.2.1.2.1.2
  have oc1 : w2.cell? ⟨w.heap.size, 1, none⟩ = some (.int .i64 0) := T2.2.1.2.2.1.1
  have of1 : w2.frozen? ⟨w.heap.size, 1, none⟩ = false := T2.2.1.2.2.1.2
  have oc2 : w2.cell? ⟨w.heap.size, 2, none⟩ = some (.int .i64 0) := T2.2.1.2.2.2.1.1
  have of2 : w2.frozen? ⟨w.heap.size, 2, none⟩ = false := T2.2.1.2.2.2.1.2
  have oc3 : w2.cell? ⟨w.heap.size, 3, none⟩ = some (.int .i64 0) := T2.2.1.2.2.2.2.1.1
  have of3 : w2.frozen? ⟨w.heap.size, 3, none⟩ = false := T2.2.1.2.2.2.2.1.2
  have oc4 : w2.cell? ⟨w.heap.size, 4, none⟩ = some (.int .i64 0) := T2.2.1.2.2.2.2.2.1.1
  have of4 : w2.frozen? ⟨w.heap.size, 4, none⟩ = false := T2.2.1.2.2.2.2.2.1.2
  have oc5 : w2.cell? ⟨w.heap.size, 5, none⟩ = some (.int .i64 0) := T2.2.1.2.2.2.2.2.2.1.1
  have of5 : w2.frozen? ⟨w.heap.size, 5, none⟩ = false := T2.2.1.2.2.2.2.2.2.1.2
  go_wp2_with fail
  refine bodyPost_ret (by simp [results, Tryd.results13, go_sem, oc0, oc1, oc2, oc3, oc4, oc5]; rfl) rfl ?_
  exact ⟨_, _, _, _, _, _, rfl, (TL.set6 (x0' := .int .i64 x1) (x1' := .int .i64 x2) (x2' := .int .i64 x3) (x3' := .int .i64 x4) (x4' := .int .i64 x5) (x5' := .int .i64 x6) (⟨T2.1, trivial⟩ : TL w [] w2) (Nat.le_refl _) (by simp) T2.2.1.1 T2.2.1.2).1.1⟩

end Go.Proofs.YtlhbpjdokkelpaaDoor
