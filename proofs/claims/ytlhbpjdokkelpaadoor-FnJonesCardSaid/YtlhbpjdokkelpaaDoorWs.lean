/-
  THE DRAWS of fractions: some integers. Condition: the bytes that came in.
-/
import Derived.Test.YtlhbpjdokkelpaaDoorWr
import Derived.Deep.QuietTactic
namespace Go.Proofs.YtlhbpjdokkelpaaDoor
open Go.RowKit
open PL

theorem drawn {g K : Nat} {w w1 w2 : World} (hb : Below w.heap.size w w1) (R : RD w.heap.size g K w1) (X : Bex g w1 w2) : Below w.heap.size w w2 := hb.trans (X.below R.1 hb.size)

theorem BytesIn.below {w W : World} {a : Option Addr} {len cap : Nat} (h : BytesIn w a len cap) (hb : Below w.heap.size w W) : BytesIn W a len cap := by
  rcases h with h | ⟨b, off, e, h1, h2, h3, h4⟩
  · exact .inl h
  · exact .inr ⟨b, off, e, h1, h2, Nat.lt_of_lt_of_le h3 hb.size, fun i hi => by obtain ⟨x, x0, x1, hc⟩ := h4 i hi; exact ⟨x, x0, x1, (hb.cell (p := ⟨b, off + i, none⟩) h3).trans hc⟩⟩

theorem TL.bexR {w W w1 : World} {l : List (Nat × List Value)} {g : Nat} (h : TL w l W) (hb : Bex g W w1) (hg : w.heap.size ≤ g) (hl : ∀ x ∈ l, x.1 ≠ g) : TL w l w1 :=
  ⟨⟨h.1.1.trans (hb.below hg h.1.2), Nat.le_trans h.1.2 hb.size⟩, BL.bex hb h.2 hl⟩

theorem TL.farR {w W : World} {l : List (Nat × List Value)} {g : Nat} {x y z : Value} (h : TL w l W) (hg : w.heap.size ≤ g) (hl : ∀ b ∈ l, b.1 ≠ g) :
    TL w l (((W.setCell ⟨g, 0, none⟩ x).setCell ⟨g, 1, none⟩ y).setCell ⟨g, 2, none⟩ z) := TL.set (TL.set (TL.set h hg hl) hg hl) hg hl

set_option maxHeartbeats 8000000 in
theorem l91Fracs_any (a : Option Addr) (len cap : Nat) (w : World) (hB : BytesIn w a len cap) :
    Calls Tryd.prog 17 #[.slice a len cap] w fun e w' =>
      ∃ x1 x2 x3 y1 y2 y3 : Int, e = .returned (.tuple #[.agg #[.int .i64 x1, .int .i64 x2, .int .i64 x3], .agg #[.int .i64 y1, .int .i64 y2, .int .i64 y3]]) ∧ Below w.heap.size w w' := by
  go_enter Tryd.func17, Tryd.ntmps17
  go_wp2_with fail
  have T0 : TL w [(w.heap.size + 1, [.int .i64 0, .int .i64 0, .int .i64 0]), (w.heap.size, [.int .i64 0, .int .i64 0, .int .i64 0])] ((w.alloc (.cells #[.int .i64 0, .int .i64 0, .int .i64 0] 24)).alloc (.cells #[.int .i64 0, .int .i64 0, .int .i64 0] 24)) := TL.new (t := 24) (TL.new (t := 24) (TL.refl w) rfl) (by simp)
  generalize ((w.alloc (.cells #[.int .i64 0, .int .i64 0, .int .i64 0] 24)).alloc (.cells #[.int .i64 0, .int .i64 0, .int .i64 0] 24)) = W at *
  refine (l6Open_any a len cap W (hB.below T0.1.1)).mono ?_
  rintro e w1 ⟨g, rfl, hb1, R1⟩
  have T1 := T0.below hb1
  have N := TL.ne T0 R1.1
  have hg := Nat.le_trans T0.1.2 R1.1
  go_wp2_with fail
  refine (l91Frac_any _ g 0 _ R1 (by omega)).mono ?_
  rintro e w2 ⟨x1, x2, x3, rfl, X2, R2⟩
  have T2 := T1.bexR X2 hg N
  go_wp2_with fail
  have T3 : TL w [(w2.heap.size, [.int .i64 x1, .int .i64 x2, .int .i64 x3]), (w.heap.size + 1, [.int .i64 0, .int .i64 0, .int .i64 0]), (w.heap.size, [.int .i64 0, .int .i64 0, .int .i64 0])] (w2.alloc (.cells #[.int .i64 x1, .int .i64 x2, .int .i64 x3] 24)) := TL.new (t := 24) T2 rfl
  have hb3 : Below w2.heap.size w2 (w2.alloc (.cells #[.int .i64 x1, .int .i64 x2, .int .i64 x3] 24)) := (Below.refl _ _).alloc (Nat.le_refl _) _
  have R3 : RD W.heap.size g 5 (w2.alloc (.cells #[.int .i64 x1, .int .i64 x2, .int .i64 x3] 24)) := RD.below R2 hb3
  have hg2 : g < w2.heap.size := R2.2.2.1
  have N3 : ∀ x ∈ ([(w2.heap.size, [.int .i64 x1, .int .i64 x2, .int .i64 x3]), (w.heap.size + 1, [.int .i64 0, .int .i64 0, .int .i64 0]), (w.heap.size, [.int .i64 0, .int .i64 0, .int .i64 0])] : List (Nat × List Value)), x.1 ≠ g := by
    intro x hx
    rcases List.mem_cons.1 hx with rfl | hx
    · simp only; omega
    · exact N x hx
  have hle : w.heap.size < w2.heap.size := T2.2.2.1.1
  have hle1 : w.heap.size + 1 < w2.heap.size := T2.2.1.1
  generalize w2.alloc (.cells #[.int .i64 x1, .int .i64 x2, .int .i64 x3] 24) = W3 at *
  go_cut [2] (fun s2 wx => ∃ y1 y2 y3 : Int, s2 = .pointer (some ⟨w.heap.size, 0, none⟩) ∧ TL w [(w.heap.size + 1, [.int .i64 y1, .int .i64 y2, .int .i64 y3]), (w.heap.size, [.int .i64 x1, .int .i64 x2, .int .i64 x3])] wx)
  have TX : TL w [(w2.heap.size, [.int .i64 x1, .int .i64 x2, .int .i64 x3])] W3 := ⟨T3.1, T3.2.1, trivial⟩
  have NE0 : ∀ x ∈ ([(w2.heap.size, [.int .i64 x1, .int .i64 x2, .int .i64 x3])] : List (Nat × List Value)), x.1 ≠ w.heap.size := fun x hx => by have := List.mem_singleton.1 hx; subst this; simp only; omega
  have NE1 : ∀ x ∈ ([(w2.heap.size, [.int .i64 x1, .int .i64 x2, .int .i64 x3])] : List (Nat × List Value)), x.1 ≠ w.heap.size + 1 := fun x hx => by have := List.mem_singleton.1 hx; subst this; simp only; omega
  case first =>
    have SL := Lib.hid (fun (W' : World) (h : TL w [(w2.heap.size, [.int .i64 x1, .int .i64 x2, .int .i64 x3])] W') => (show W'.cell? ⟨w2.heap.size, 0, none⟩ = some (.int .i64 x1) ∧ W'.cell? ⟨w2.heap.size, 1, none⟩ = some (.int .i64 x2) ∧ W'.cell? ⟨w2.heap.size, 2, none⟩ = some (.int .i64 x3) ∧ TL w [(w2.heap.size, [.int .i64 x1, .int .i64 x2, .int .i64 x3])] W' from ⟨h.2.1.2.1.1, h.2.1.2.2.1.1, h.2.1.2.2.2.1.1, h⟩))
    go_region_held3 (fun W' => W'.cell? ⟨w2.heap.size, 0, none⟩ = some (.int .i64 x1) ∧ W'.cell? ⟨w2.heap.size, 1, none⟩ = some (.int .i64 x2) ∧ W'.cell? ⟨w2.heap.size, 2, none⟩ = some (.int .i64 x3) ∧ TL w [(w2.heap.size, [.int .i64 x1, .int .i64 x2, .int .i64 x3])] W')
      (with_reducible apply SL.out; first | with_reducible assumption | (with_reducible apply TL.farR; (· with_reducible assumption); (· omega); (· first | exact NE0 | exact NE1)) | (with_reducible apply TL.farR; (· with_reducible apply TL.farR; (· with_reducible assumption); (· omega); (· first | exact NE0 | exact NE1)); (· omega); (· first | exact NE0 | exact NE1)) | (with_reducible apply TL.drew; with_reducible assumption))
      (first | (go_at_call 28; refine (l91Frac_any W.heap.size g 5 _ (by first | exact R3 | exact RD.below R3 (Below.drew (Below.refl _ _))) (by omega)).mono ?_; rintro e w4 ⟨y1, y2, y3, rfl, X4, R4⟩; have T4 : TL w [(w2.heap.size, [.int .i64 x1, .int .i64 x2, .int .i64 x3]), (w.heap.size + 1, [.int .i64 0, .int .i64 0, .int .i64 0]), (w.heap.size, [.int .i64 0, .int .i64 0, .int .i64 0])] w4 := TL.bexR (by first | exact T3 | exact T3.drew) X4 hg N3; have TX4 : TL w [(w2.heap.size, [.int .i64 x1, .int .i64 x2, .int .i64 x3])] w4 := ⟨T4.1, T4.2.1, trivial⟩; have kc0 : w4.cell? ⟨w2.heap.size, 0, none⟩ = some (.int .i64 x1) := T4.2.1.2.1.1; have kf0 : w4.frozen? ⟨w2.heap.size, 0, none⟩ = false := T4.2.1.2.1.2; have kc1 : w4.cell? ⟨w2.heap.size, 1, none⟩ = some (.int .i64 x2) := T4.2.1.2.2.1.1; have kf1 : w4.frozen? ⟨w2.heap.size, 1, none⟩ = false := T4.2.1.2.2.1.2; have kc2 : w4.cell? ⟨w2.heap.size, 2, none⟩ = some (.int .i64 x3) := T4.2.1.2.2.2.1.1; have kf2 : w4.frozen? ⟨w2.heap.size, 2, none⟩ = false := T4.2.1.2.2.2.1.2; have mc0 : w4.cell? ⟨w.heap.size + 1, 0, none⟩ = some (.int .i64 0) := T4.2.2.1.2.1.1; have mf0 : w4.frozen? ⟨w.heap.size + 1, 0, none⟩ = false := T4.2.2.1.2.1.2; have mc1 : w4.cell? ⟨w.heap.size + 1, 1, none⟩ = some (.int .i64 0) := T4.2.2.1.2.2.1.1; have mf1 : w4.frozen? ⟨w.heap.size + 1, 1, none⟩ = false := T4.2.2.1.2.2.1.2; have mc2 : w4.cell? ⟨w.heap.size + 1, 2, none⟩ = some (.int .i64 0) := T4.2.2.1.2.2.2.1.1; have mf2 : w4.frozen? ⟨w.heap.size + 1, 2, none⟩ = false := T4.2.2.1.2.2.2.1.2; have nc0 : w4.cell? ⟨w.heap.size, 0, none⟩ = some (.int .i64 0) := T4.2.2.2.1.2.1.1; have nf0 : w4.frozen? ⟨w.heap.size, 0, none⟩ = false := T4.2.2.2.1.2.1.2; have nc1 : w4.cell? ⟨w.heap.size, 1, none⟩ = some (.int .i64 0) := T4.2.2.2.1.2.2.1.1; have nf1 : w4.frozen? ⟨w.heap.size, 1, none⟩ = false := T4.2.2.2.1.2.2.1.2; have nc2 : w4.cell? ⟨w.heap.size, 2, none⟩ = some (.int .i64 0) := T4.2.2.2.1.2.2.2.1.1; have nf2 : w4.frozen? ⟨w.heap.size, 2, none⟩ = false := T4.2.2.2.1.2.2.2.1.2))
    all_goals (go_wp2_with fail; go_meet; case rel => exact ⟨_, _, _, rfl, TL.set3 (TL.set3 ⟨T4.1, trivial⟩ (Nat.le_refl _) (by simp) T4.2.2.2.1.1 T4.2.2.2.1.2) (by omega) (by simp) (by simpa using T4.2.2.1.1) (CB.far (by omega) (CB.far (by omega) (CB.far (by omega) T4.2.2.1.2)))⟩)
  case rest =>
    obtain ⟨y1, y2, y3, rfl, hT⟩ := hcut
    have mc0 : wc.cell? ⟨w.heap.size + 1, 0, none⟩ = some (.int .i64 y1) := hT.2.1.2.1.1
    have mc1 : wc.cell? ⟨w.heap.size + 1, 1, none⟩ = some (.int .i64 y2) := hT.2.1.2.2.1.1
    have mc2 : wc.cell? ⟨w.heap.size + 1, 2, none⟩ = some (.int .i64 y3) := hT.2.1.2.2.2.1.1
    have nc0 : wc.cell? ⟨w.heap.size, 0, none⟩ = some (.int .i64 x1) := hT.2.2.1.2.1.1
    have nc1 : wc.cell? ⟨w.heap.size, 1, none⟩ = some (.int .i64 x2) := hT.2.2.1.2.2.1.1
    have nc2 : wc.cell? ⟨w.heap.size, 2, none⟩ = some (.int .i64 x3) := hT.2.2.1.2.2.2.1.1
    go_wp2_with fail
    refine bodyPost_ret (by simp [results, Tryd.results17, go_sem, mc0, mc1, mc2, nc0, nc1, nc2]; rfl) rfl ?_
    exact ⟨_, _, _, _, _, _, rfl, hT.1.1⟩

set_option maxHeartbeats 8000000 in
theorem DrawFracTimes_any (a : Option Addr) (len cap : Nat) (w : World) (hB : BytesIn w a len cap) :
    Calls Tryd.prog 10 #[.slice a len cap] w fun e w' =>
      ∃ x1 x2 x3 y1 y2 y3 : Int, e = .returned (.tuple #[.agg #[.int .i64 x1, .int .i64 x2, .int .i64 x3], .agg #[.int .i64 y1, .int .i64 y2, .int .i64 y3]]) ∧ Below w.heap.size w w' := by
  go_enter Tryd.func10, Tryd.ntmps10
  go_wp2_with fail
  have T0 : TL w [(w.heap.size + 1, [.int .i64 0, .int .i64 0, .int .i64 0]), (w.heap.size, [.int .i64 0, .int .i64 0, .int .i64 0])] ((w.alloc (.cells #[.int .i64 0, .int .i64 0, .int .i64 0] 24)).alloc (.cells #[.int .i64 0, .int .i64 0, .int .i64 0] 24)) := TL.new (t := 24) (TL.new (t := 24) (TL.refl w) rfl) (by simp)
  generalize ((w.alloc (.cells #[.int .i64 0, .int .i64 0, .int .i64 0] 24)).alloc (.cells #[.int .i64 0, .int .i64 0, .int .i64 0] 24)) = W at *
  refine (l91Fracs_any a len cap W (hB.below T0.1.1)).mono ?_
  rintro e w4 ⟨x1, x2, x3, y1, y2, y3, rfl, hb1⟩
  have T4 := T0.below hb1
  have mc0 : w4.cell? ⟨w.heap.size + 1, 0, none⟩ = some (.int .i64 0) := T4.2.1.2.1.1
  have mf0 : w4.frozen? ⟨w.heap.size + 1, 0, none⟩ = false := T4.2.1.2.1.2
  have mc1 : w4.cell? ⟨w.heap.size + 1, 1, none⟩ = some (.int .i64 0) := T4.2.1.2.2.1.1
  have mf1 : w4.frozen? ⟨w.heap.size + 1, 1, none⟩ = false := T4.2.1.2.2.1.2
  have mc2 : w4.cell? ⟨w.heap.size + 1, 2, none⟩ = some (.int .i64 0) := T4.2.1.2.2.2.1.1
  have mf2 : w4.frozen? ⟨w.heap.size + 1, 2, none⟩ = false := T4.2.1.2.2.2.1.2
  have nc0 : w4.cell? ⟨w.heap.size, 0, none⟩ = some (.int .i64 0) := T4.2.2.1.2.1.1
  have nf0 : w4.frozen? ⟨w.heap.size, 0, none⟩ = false := T4.2.2.1.2.1.2
  have nc1 : w4.cell? ⟨w.heap.size, 1, none⟩ = some (.int .i64 0) := T4.2.2.1.2.2.1.1
  have nf1 : w4.frozen? ⟨w.heap.size, 1, none⟩ = false := T4.2.2.1.2.2.1.2
  have nc2 : w4.cell? ⟨w.heap.size, 2, none⟩ = some (.int .i64 0) := T4.2.2.1.2.2.2.1.1
  have nf2 : w4.frozen? ⟨w.heap.size, 2, none⟩ = false := T4.2.2.1.2.2.2.1.2
  go_wp2_with fail
  refine bodyPost_ret (by simp [results, Tryd.results10, go_sem, mc0, mc1, mc2, nc0, nc1, nc2]; rfl) rfl ?_
  have hT : TL w [(w.heap.size + 1, [.int .i64 y1, .int .i64 y2, .int .i64 y3]), (w.heap.size, [.int .i64 x1, .int .i64 x2, .int .i64 x3])] _ := TL.set3 (TL.set3 ⟨T4.1, trivial⟩ (Nat.le_refl _) (by simp) T4.2.2.1.1 T4.2.2.1.2) (by omega) (by simp) (by simpa using T4.2.1.1) (CB.far (by omega) (CB.far (by omega) (CB.far (by omega) T4.2.1.2)))
  exact ⟨_, _, _, _, _, _, rfl, hT.1.1⟩

set_option maxHeartbeats 8000000 in
theorem DrawFracOver_any (a : Option Addr) (len cap : Nat) (w : World) (hB : BytesIn w a len cap) :
    Calls Tryd.prog 6 #[.slice a len cap] w fun e w' =>
      ∃ x1 x2 x3 y1 y2 y3 : Int, e = .returned (.tuple #[.agg #[.int .i64 x1, .int .i64 x2, .int .i64 x3], .agg #[.int .i64 y1, .int .i64 y2, .int .i64 y3]]) ∧ Below w.heap.size w w' := by
  go_enter Tryd.func6, Tryd.ntmps6
  go_wp2_with fail
  have T0 : TL w [(w.heap.size + 1, [.int .i64 0, .int .i64 0, .int .i64 0]), (w.heap.size, [.int .i64 0, .int .i64 0, .int .i64 0])] ((w.alloc (.cells #[.int .i64 0, .int .i64 0, .int .i64 0] 24)).alloc (.cells #[.int .i64 0, .int .i64 0, .int .i64 0] 24)) := TL.new (t := 24) (TL.new (t := 24) (TL.refl w) rfl) (by simp)
  generalize ((w.alloc (.cells #[.int .i64 0, .int .i64 0, .int .i64 0] 24)).alloc (.cells #[.int .i64 0, .int .i64 0, .int .i64 0] 24)) = W at *
  refine (l91Fracs_any a len cap W (hB.below T0.1.1)).mono ?_
  rintro e w4 ⟨x1, x2, x3, y1, y2, y3, rfl, hb1⟩
  have T4 := T0.below hb1
  have mc0 : w4.cell? ⟨w.heap.size + 1, 0, none⟩ = some (.int .i64 0) := T4.2.1.2.1.1
  have mf0 : w4.frozen? ⟨w.heap.size + 1, 0, none⟩ = false := T4.2.1.2.1.2
  have mc1 : w4.cell? ⟨w.heap.size + 1, 1, none⟩ = some (.int .i64 0) := T4.2.1.2.2.1.1
  have mf1 : w4.frozen? ⟨w.heap.size + 1, 1, none⟩ = false := T4.2.1.2.2.1.2
  have mc2 : w4.cell? ⟨w.heap.size + 1, 2, none⟩ = some (.int .i64 0) := T4.2.1.2.2.2.1.1
  have mf2 : w4.frozen? ⟨w.heap.size + 1, 2, none⟩ = false := T4.2.1.2.2.2.1.2
  have nc0 : w4.cell? ⟨w.heap.size, 0, none⟩ = some (.int .i64 0) := T4.2.2.1.2.1.1
  have nf0 : w4.frozen? ⟨w.heap.size, 0, none⟩ = false := T4.2.2.1.2.1.2
  have nc1 : w4.cell? ⟨w.heap.size, 1, none⟩ = some (.int .i64 0) := T4.2.2.1.2.2.1.1
  have nf1 : w4.frozen? ⟨w.heap.size, 1, none⟩ = false := T4.2.2.1.2.2.1.2
  have nc2 : w4.cell? ⟨w.heap.size, 2, none⟩ = some (.int .i64 0) := T4.2.2.1.2.2.2.1.1
  have nf2 : w4.frozen? ⟨w.heap.size, 2, none⟩ = false := T4.2.2.1.2.2.2.1.2
  go_wp2_with fail
  refine bodyPost_ret (by simp [results, Tryd.results6, go_sem, mc0, mc1, mc2, nc0, nc1, nc2]; rfl) rfl ?_
  have hT : TL w [(w.heap.size + 1, [.int .i64 y1, .int .i64 y2, .int .i64 y3]), (w.heap.size, [.int .i64 x1, .int .i64 x2, .int .i64 x3])] _ := TL.set3 (TL.set3 ⟨T4.1, trivial⟩ (Nat.le_refl _) (by simp) T4.2.2.1.1 T4.2.2.1.2) (by omega) (by simp) (by simpa using T4.2.1.1) (CB.far (by omega) (CB.far (by omega) (CB.far (by omega) T4.2.1.2)))
  exact ⟨_, _, _, _, _, _, rfl, hT.1.1⟩

end Go.Proofs.YtlhbpjdokkelpaaDoor
