/-
  WALKS: are two vectors alike? The reference's, part by part. No condition.
-/
import Derived.Test.YtcgckmjahfcfeaaDoorWt
import Derived.Test.YtcgckmjahfcfeaaDoorWk
import Derived.Deep.RegionWith
import Derived.Test.YtcgckmjahfcfeaaDoorPf
namespace Go.Proofs.YtcgckmjahfcfeaaDoor
open Go.RowKit
open PL

set_option maxHeartbeats 16000000 in
theorem salike_leaf5 (a1 a2 a3 a4 a5 a6 b1 b2 b3 b4 b5 b6 x1 x2 x3 y1 y2 y3 : Int) (p q v u b : Bool) (w : World) (HB : Hid ((v && u && p && q && (x1 == y1 && x2 == y2 && x3 == y3) && (dk ⟨a1, a2, a3⟩ ⟨a4, a5, a6⟩ == dk ⟨b1, b2, b3⟩ ⟨b4, b5, b6⟩)) = b)) (HP : Hid (times ⟨a1, a2, a3⟩ ⟨b4, b5, b6⟩ = (⟨x1, x2, x3⟩, p))) (HQ : Hid (times ⟨a4, a5, a6⟩ ⟨b1, b2, b3⟩ = (⟨y1, y2, y3⟩, q))) (HV : Hid ((valid ⟨a1, a2, a3⟩ && valid ⟨a4, a5, a6⟩) = v)) (HU : Hid ((valid ⟨b1, b2, b3⟩ && valid ⟨b4, b5, b6⟩) = u)) (h0 : (p) = true) (h1 : (q) = true) (h2 : (v) = true) (h3 : (u) = true) (h4 : (x1 == y1) = true) (h5 : (x2 == y2) = false) :
    Calls Tryd.prog 5 #[.agg #[.int .i64 a1, .int .i64 a2, .int .i64 a3, .int .i64 a4, .int .i64 a5, .int .i64 a6], .agg #[.int .i64 b1, .int .i64 b2, .int .i64 b3, .int .i64 b4, .int .i64 b5, .int .i64 b6]] w fun e w' => e = .returned (.bool b) ∧ Below w.heap.size w w' := by
  subst h0
  subst h1
  subst h2
  subst h3
  have HE := Lib.hid (show false = b by have h := HB.out; rw [h4, h5] at h; simpa using h)
  clear HB
  have hne : ¬ x2 = y2 := by simpa using h5
  go_enter Tryd.func5, Tryd.ntmps5
  go_wp2_with fail
  refine (stimes_any _ _ _ _ _ _ x1 x2 x3 true _ HP).mono ?_
  rintro e w1 ⟨rfl, hbw1⟩
  have Tw1 : TL w [(w.heap.size + 1, [.int .i64 b1, .int .i64 b2, .int .i64 b3, .int .i64 b4, .int .i64 b5, .int .i64 b6]), (w.heap.size, [.int .i64 a1, .int .i64 a2, .int .i64 a3, .int .i64 a4, .int .i64 a5, .int .i64 a6])] w1 := TL.below (TL.new (t := 29) (TL.new (t := 29) (TL.refl w) rfl) (by simp)) hbw1
  clear hbw1
  have xw100 : w1.cell? ⟨w.heap.size + 1, 0, none⟩ = some (.int .i64 b1) := Tw1.2.1.2.1.1
  have xw101 : w1.cell? ⟨w.heap.size + 1, 1, none⟩ = some (.int .i64 b2) := Tw1.2.1.2.2.1.1
  have xw102 : w1.cell? ⟨w.heap.size + 1, 2, none⟩ = some (.int .i64 b3) := Tw1.2.1.2.2.2.1.1
  have xw103 : w1.cell? ⟨w.heap.size + 1, 3, none⟩ = some (.int .i64 b4) := Tw1.2.1.2.2.2.2.1.1
  have xw104 : w1.cell? ⟨w.heap.size + 1, 4, none⟩ = some (.int .i64 b5) := Tw1.2.1.2.2.2.2.2.1.1
  have xw105 : w1.cell? ⟨w.heap.size + 1, 5, none⟩ = some (.int .i64 b6) := Tw1.2.1.2.2.2.2.2.2.1.1
  have xw110 : w1.cell? ⟨w.heap.size, 0, none⟩ = some (.int .i64 a1) := Tw1.2.2.1.2.1.1
  have xw111 : w1.cell? ⟨w.heap.size, 1, none⟩ = some (.int .i64 a2) := Tw1.2.2.1.2.2.1.1
  have xw112 : w1.cell? ⟨w.heap.size, 2, none⟩ = some (.int .i64 a3) := Tw1.2.2.1.2.2.2.1.1
  have xw113 : w1.cell? ⟨w.heap.size, 3, none⟩ = some (.int .i64 a4) := Tw1.2.2.1.2.2.2.2.1.1
  have xw114 : w1.cell? ⟨w.heap.size, 4, none⟩ = some (.int .i64 a5) := Tw1.2.2.1.2.2.2.2.2.1.1
  have xw115 : w1.cell? ⟨w.heap.size, 5, none⟩ = some (.int .i64 a6) := Tw1.2.2.1.2.2.2.2.2.2.1.1
  have lw10 := Tw1.2.1.1
  have lw11 := Tw1.2.2.1.1
  go_wp2_with fail
  refine (stimes_any _ _ _ _ _ _ y1 y2 y3 true _ HQ).mono ?_
  rintro e w2 ⟨rfl, hbw2⟩
  have Tw2 : TL w [(w1.heap.size, [.int .i64 x1, .int .i64 x2, .int .i64 x3]), (w.heap.size + 1, [.int .i64 b1, .int .i64 b2, .int .i64 b3, .int .i64 b4, .int .i64 b5, .int .i64 b6]), (w.heap.size, [.int .i64 a1, .int .i64 a2, .int .i64 a3, .int .i64 a4, .int .i64 a5, .int .i64 a6])] w2 := TL.below (TL.new (t := 27) Tw1 rfl) hbw2
  clear hbw2
  have xw200 : w2.cell? ⟨w1.heap.size, 0, none⟩ = some (.int .i64 x1) := Tw2.2.1.2.1.1
  have xw201 : w2.cell? ⟨w1.heap.size, 1, none⟩ = some (.int .i64 x2) := Tw2.2.1.2.2.1.1
  have xw202 : w2.cell? ⟨w1.heap.size, 2, none⟩ = some (.int .i64 x3) := Tw2.2.1.2.2.2.1.1
  have xw210 : w2.cell? ⟨w.heap.size + 1, 0, none⟩ = some (.int .i64 b1) := Tw2.2.2.1.2.1.1
  have xw211 : w2.cell? ⟨w.heap.size + 1, 1, none⟩ = some (.int .i64 b2) := Tw2.2.2.1.2.2.1.1
  have xw212 : w2.cell? ⟨w.heap.size + 1, 2, none⟩ = some (.int .i64 b3) := Tw2.2.2.1.2.2.2.1.1
  have xw213 : w2.cell? ⟨w.heap.size + 1, 3, none⟩ = some (.int .i64 b4) := Tw2.2.2.1.2.2.2.2.1.1
  have xw214 : w2.cell? ⟨w.heap.size + 1, 4, none⟩ = some (.int .i64 b5) := Tw2.2.2.1.2.2.2.2.2.1.1
  have xw215 : w2.cell? ⟨w.heap.size + 1, 5, none⟩ = some (.int .i64 b6) := Tw2.2.2.1.2.2.2.2.2.2.1.1
  have xw220 : w2.cell? ⟨w.heap.size, 0, none⟩ = some (.int .i64 a1) := Tw2.2.2.2.1.2.1.1
  have xw221 : w2.cell? ⟨w.heap.size, 1, none⟩ = some (.int .i64 a2) := Tw2.2.2.2.1.2.2.1.1
  have xw222 : w2.cell? ⟨w.heap.size, 2, none⟩ = some (.int .i64 a3) := Tw2.2.2.2.1.2.2.2.1.1
  have xw223 : w2.cell? ⟨w.heap.size, 3, none⟩ = some (.int .i64 a4) := Tw2.2.2.2.1.2.2.2.2.1.1
  have xw224 : w2.cell? ⟨w.heap.size, 4, none⟩ = some (.int .i64 a5) := Tw2.2.2.2.1.2.2.2.2.2.1.1
  have xw225 : w2.cell? ⟨w.heap.size, 5, none⟩ = some (.int .i64 a6) := Tw2.2.2.2.1.2.2.2.2.2.2.1.1
  have lw20 := Tw2.2.1.1
  have lw21 := Tw2.2.2.1.1
  have lw22 := Tw2.2.2.2.1.1
  go_upto_region 3 with fail
  have T3 : TL w [(w2.heap.size, [.int .i64 y1, .int .i64 y2, .int .i64 y3]), (w1.heap.size, [.int .i64 x1, .int .i64 x2, .int .i64 x3]), (w.heap.size + 1, [.int .i64 b1, .int .i64 b2, .int .i64 b3, .int .i64 b4, .int .i64 b5, .int .i64 b6]), (w.heap.size, [.int .i64 a1, .int .i64 a2, .int .i64 a3, .int .i64 a4, .int .i64 a5, .int .i64 a6])] (w2.alloc (.cells #[.int .i64 y1, .int .i64 y2, .int .i64 y3] 27)) := TL.new (t := 27) Tw2 rfl
  generalize w2.alloc (.cells #[.int .i64 y1, .int .i64 y2, .int .i64 y3] 27) = w3 at *
  clear xw100 xw101 xw102 xw103 xw104 xw105 xw110 xw111 xw112 xw113 xw114 xw115 xw200 xw201 xw202 xw210 xw211 xw212 xw213 xw214 xw215 xw220 xw221 xw222 xw223 xw224 xw225
  have z00 : w3.cell? ⟨w2.heap.size, 0, none⟩ = some (.int .i64 y1) := T3.2.1.2.1.1
  have z01 : w3.cell? ⟨w2.heap.size, 1, none⟩ = some (.int .i64 y2) := T3.2.1.2.2.1.1
  have z02 : w3.cell? ⟨w2.heap.size, 2, none⟩ = some (.int .i64 y3) := T3.2.1.2.2.2.1.1
  have z10 : w3.cell? ⟨w1.heap.size, 0, none⟩ = some (.int .i64 x1) := T3.2.2.1.2.1.1
  have z11 : w3.cell? ⟨w1.heap.size, 1, none⟩ = some (.int .i64 x2) := T3.2.2.1.2.2.1.1
  have z12 : w3.cell? ⟨w1.heap.size, 2, none⟩ = some (.int .i64 x3) := T3.2.2.1.2.2.2.1.1
  have z20 : w3.cell? ⟨w.heap.size + 1, 0, none⟩ = some (.int .i64 b1) := T3.2.2.2.1.2.1.1
  have z21 : w3.cell? ⟨w.heap.size + 1, 1, none⟩ = some (.int .i64 b2) := T3.2.2.2.1.2.2.1.1
  have z22 : w3.cell? ⟨w.heap.size + 1, 2, none⟩ = some (.int .i64 b3) := T3.2.2.2.1.2.2.2.1.1
  have z23 : w3.cell? ⟨w.heap.size + 1, 3, none⟩ = some (.int .i64 b4) := T3.2.2.2.1.2.2.2.2.1.1
  have z24 : w3.cell? ⟨w.heap.size + 1, 4, none⟩ = some (.int .i64 b5) := T3.2.2.2.1.2.2.2.2.2.1.1
  have z25 : w3.cell? ⟨w.heap.size + 1, 5, none⟩ = some (.int .i64 b6) := T3.2.2.2.1.2.2.2.2.2.2.1.1
  have z30 : w3.cell? ⟨w.heap.size, 0, none⟩ = some (.int .i64 a1) := T3.2.2.2.2.1.2.1.1
  have z31 : w3.cell? ⟨w.heap.size, 1, none⟩ = some (.int .i64 a2) := T3.2.2.2.2.1.2.2.1.1
  have z32 : w3.cell? ⟨w.heap.size, 2, none⟩ = some (.int .i64 a3) := T3.2.2.2.2.1.2.2.2.1.1
  have z33 : w3.cell? ⟨w.heap.size, 3, none⟩ = some (.int .i64 a4) := T3.2.2.2.2.1.2.2.2.2.1.1
  have z34 : w3.cell? ⟨w.heap.size, 4, none⟩ = some (.int .i64 a5) := T3.2.2.2.2.1.2.2.2.2.2.1.1
  have z35 : w3.cell? ⟨w.heap.size, 5, none⟩ = some (.int .i64 a6) := T3.2.2.2.2.1.2.2.2.2.2.2.1.1
  go_cut [4] (fun s4 wx => s4 = .bool false ∧ TL w [] wx)
  case first =>
    have hz0 := T3.1.2
    have SL := Lib.hid (fun (W : World) (h : TL w [(w2.heap.size, [.int .i64 y1, .int .i64 y2, .int .i64 y3]), (w1.heap.size, [.int .i64 x1, .int .i64 x2, .int .i64 x3]), (w.heap.size + 1, [.int .i64 b1, .int .i64 b2, .int .i64 b3, .int .i64 b4, .int .i64 b5, .int .i64 b6]), (w.heap.size, [.int .i64 a1, .int .i64 a2, .int .i64 a3, .int .i64 a4, .int .i64 a5, .int .i64 a6])] W) => (show W.cell? ⟨w2.heap.size, 0, none⟩ = some (.int .i64 y1) ∧ W.cell? ⟨w2.heap.size, 1, none⟩ = some (.int .i64 y2) ∧ W.cell? ⟨w2.heap.size, 2, none⟩ = some (.int .i64 y3) ∧ W.cell? ⟨w1.heap.size, 0, none⟩ = some (.int .i64 x1) ∧ W.cell? ⟨w1.heap.size, 1, none⟩ = some (.int .i64 x2) ∧ W.cell? ⟨w1.heap.size, 2, none⟩ = some (.int .i64 x3) ∧ W.cell? ⟨w.heap.size + 1, 0, none⟩ = some (.int .i64 b1) ∧ W.cell? ⟨w.heap.size + 1, 1, none⟩ = some (.int .i64 b2) ∧ W.cell? ⟨w.heap.size + 1, 2, none⟩ = some (.int .i64 b3) ∧ W.cell? ⟨w.heap.size + 1, 3, none⟩ = some (.int .i64 b4) ∧ W.cell? ⟨w.heap.size + 1, 4, none⟩ = some (.int .i64 b5) ∧ W.cell? ⟨w.heap.size + 1, 5, none⟩ = some (.int .i64 b6) ∧ W.cell? ⟨w.heap.size, 0, none⟩ = some (.int .i64 a1) ∧ W.cell? ⟨w.heap.size, 1, none⟩ = some (.int .i64 a2) ∧ W.cell? ⟨w.heap.size, 2, none⟩ = some (.int .i64 a3) ∧ W.cell? ⟨w.heap.size, 3, none⟩ = some (.int .i64 a4) ∧ W.cell? ⟨w.heap.size, 4, none⟩ = some (.int .i64 a5) ∧ W.cell? ⟨w.heap.size, 5, none⟩ = some (.int .i64 a6) ∧ TL w [(w2.heap.size, [.int .i64 y1, .int .i64 y2, .int .i64 y3]), (w1.heap.size, [.int .i64 x1, .int .i64 x2, .int .i64 x3]), (w.heap.size + 1, [.int .i64 b1, .int .i64 b2, .int .i64 b3, .int .i64 b4, .int .i64 b5, .int .i64 b6]), (w.heap.size, [.int .i64 a1, .int .i64 a2, .int .i64 a3, .int .i64 a4, .int .i64 a5, .int .i64 a6])] W from ⟨h.2.1.2.1.1, h.2.1.2.2.1.1, h.2.1.2.2.2.1.1, h.2.2.1.2.1.1, h.2.2.1.2.2.1.1, h.2.2.1.2.2.2.1.1, h.2.2.2.1.2.1.1, h.2.2.2.1.2.2.1.1, h.2.2.2.1.2.2.2.1.1, h.2.2.2.1.2.2.2.2.1.1, h.2.2.2.1.2.2.2.2.2.1.1, h.2.2.2.1.2.2.2.2.2.2.1.1, h.2.2.2.2.1.2.1.1, h.2.2.2.2.1.2.2.1.1, h.2.2.2.2.1.2.2.2.1.1, h.2.2.2.2.1.2.2.2.2.1.1, h.2.2.2.2.1.2.2.2.2.2.1.1, h.2.2.2.2.1.2.2.2.2.2.2.1.1, h⟩))
    have TO := Lib.hid (fun (W : World) (h : W.cell? ⟨w2.heap.size, 0, none⟩ = some (.int .i64 y1) ∧ W.cell? ⟨w2.heap.size, 1, none⟩ = some (.int .i64 y2) ∧ W.cell? ⟨w2.heap.size, 2, none⟩ = some (.int .i64 y3) ∧ W.cell? ⟨w1.heap.size, 0, none⟩ = some (.int .i64 x1) ∧ W.cell? ⟨w1.heap.size, 1, none⟩ = some (.int .i64 x2) ∧ W.cell? ⟨w1.heap.size, 2, none⟩ = some (.int .i64 x3) ∧ W.cell? ⟨w.heap.size + 1, 0, none⟩ = some (.int .i64 b1) ∧ W.cell? ⟨w.heap.size + 1, 1, none⟩ = some (.int .i64 b2) ∧ W.cell? ⟨w.heap.size + 1, 2, none⟩ = some (.int .i64 b3) ∧ W.cell? ⟨w.heap.size + 1, 3, none⟩ = some (.int .i64 b4) ∧ W.cell? ⟨w.heap.size + 1, 4, none⟩ = some (.int .i64 b5) ∧ W.cell? ⟨w.heap.size + 1, 5, none⟩ = some (.int .i64 b6) ∧ W.cell? ⟨w.heap.size, 0, none⟩ = some (.int .i64 a1) ∧ W.cell? ⟨w.heap.size, 1, none⟩ = some (.int .i64 a2) ∧ W.cell? ⟨w.heap.size, 2, none⟩ = some (.int .i64 a3) ∧ W.cell? ⟨w.heap.size, 3, none⟩ = some (.int .i64 a4) ∧ W.cell? ⟨w.heap.size, 4, none⟩ = some (.int .i64 a5) ∧ W.cell? ⟨w.heap.size, 5, none⟩ = some (.int .i64 a6) ∧ TL w [(w2.heap.size, [.int .i64 y1, .int .i64 y2, .int .i64 y3]), (w1.heap.size, [.int .i64 x1, .int .i64 x2, .int .i64 x3]), (w.heap.size + 1, [.int .i64 b1, .int .i64 b2, .int .i64 b3, .int .i64 b4, .int .i64 b5, .int .i64 b6]), (w.heap.size, [.int .i64 a1, .int .i64 a2, .int .i64 a3, .int .i64 a4, .int .i64 a5, .int .i64 a6])] W) => (show TL w [(w2.heap.size, [.int .i64 y1, .int .i64 y2, .int .i64 y3]), (w1.heap.size, [.int .i64 x1, .int .i64 x2, .int .i64 x3]), (w.heap.size + 1, [.int .i64 b1, .int .i64 b2, .int .i64 b3, .int .i64 b4, .int .i64 b5, .int .i64 b6]), (w.heap.size, [.int .i64 a1, .int .i64 a2, .int .i64 a3, .int .i64 a4, .int .i64 a5, .int .i64 a6])] W from h.2.2.2.2.2.2.2.2.2.2.2.2.2.2.2.2.2.2))
    first
      | go_region_with (first | (go_at_call 13; with_reducible refine (sjvalid_any a1 a2 a3 a4 a5 a6 true _ HV).mono ?_; rintro e v1 ⟨rfl, hb⟩; have hT := TL.below (by first | with_reducible assumption | with_reducible exact T3.drew) hb; obtain ⟨k00, k01, k02, k10, k11, k12, k20, k21, k22, k23, k24, k25, k30, k31, k32, k33, k34, k35, -⟩ := SL.out _ hT) | (go_at_call 13; with_reducible refine (sjvalid_any b1 b2 b3 b4 b5 b6 true _ HU).mono ?_; rintro e v1 ⟨rfl, hb⟩; have hT := TL.below (by first | with_reducible assumption | with_reducible exact T3.drew) hb; obtain ⟨k00, k01, k02, k10, k11, k12, k20, k21, k22, k23, k24, k25, k30, k31, k32, k33, k34, k35, -⟩ := SL.out _ hT))
      | fail
    all_goals (go_wp2_with fail; go_meet; case rel => exact ⟨rfl, by first | exact ⟨hT.1, trivial⟩ | exact ⟨T3.1, trivial⟩ | exact ⟨T3.drew.1, trivial⟩⟩)
  case rest =>
    obtain ⟨rfl, hT⟩ := hcut
    go_wp2_with fail
    go_ret
    exact ⟨by rw [← HE.out]; rfl, hT.1.1⟩

set_option maxHeartbeats 16000000 in
theorem salike_leaf4 (a1 a2 a3 a4 a5 a6 b1 b2 b3 b4 b5 b6 x1 x2 x3 y1 y2 y3 : Int) (p q v u b : Bool) (w : World) (HB : Hid ((v && u && p && q && (x1 == y1 && x2 == y2 && x3 == y3) && (dk ⟨a1, a2, a3⟩ ⟨a4, a5, a6⟩ == dk ⟨b1, b2, b3⟩ ⟨b4, b5, b6⟩)) = b)) (HP : Hid (times ⟨a1, a2, a3⟩ ⟨b4, b5, b6⟩ = (⟨x1, x2, x3⟩, p))) (HQ : Hid (times ⟨a4, a5, a6⟩ ⟨b1, b2, b3⟩ = (⟨y1, y2, y3⟩, q))) (HV : Hid ((valid ⟨a1, a2, a3⟩ && valid ⟨a4, a5, a6⟩) = v)) (HU : Hid ((valid ⟨b1, b2, b3⟩ && valid ⟨b4, b5, b6⟩) = u)) (h0 : (p) = true) (h1 : (q) = true) (h2 : (v) = true) (h3 : (u) = true) (h4 : (x1 == y1) = false) :
    Calls Tryd.prog 5 #[.agg #[.int .i64 a1, .int .i64 a2, .int .i64 a3, .int .i64 a4, .int .i64 a5, .int .i64 a6], .agg #[.int .i64 b1, .int .i64 b2, .int .i64 b3, .int .i64 b4, .int .i64 b5, .int .i64 b6]] w fun e w' => e = .returned (.bool b) ∧ Below w.heap.size w w' := by
  subst h0
  subst h1
  subst h2
  subst h3
  have HE := Lib.hid (show false = b by have h := HB.out; rw [h4] at h; simpa using h)
  clear HB
  have hne : ¬ x1 = y1 := by simpa using h4
  go_enter Tryd.func5, Tryd.ntmps5
  go_wp2_with fail
  refine (stimes_any _ _ _ _ _ _ x1 x2 x3 true _ HP).mono ?_
  rintro e w1 ⟨rfl, hbw1⟩
  have Tw1 : TL w [(w.heap.size + 1, [.int .i64 b1, .int .i64 b2, .int .i64 b3, .int .i64 b4, .int .i64 b5, .int .i64 b6]), (w.heap.size, [.int .i64 a1, .int .i64 a2, .int .i64 a3, .int .i64 a4, .int .i64 a5, .int .i64 a6])] w1 := TL.below (TL.new (t := 29) (TL.new (t := 29) (TL.refl w) rfl) (by simp)) hbw1
  clear hbw1
  have xw100 : w1.cell? ⟨w.heap.size + 1, 0, none⟩ = some (.int .i64 b1) := Tw1.2.1.2.1.1
  have xw101 : w1.cell? ⟨w.heap.size + 1, 1, none⟩ = some (.int .i64 b2) := Tw1.2.1.2.2.1.1
  have xw102 : w1.cell? ⟨w.heap.size + 1, 2, none⟩ = some (.int .i64 b3) := Tw1.2.1.2.2.2.1.1
  have xw103 : w1.cell? ⟨w.heap.size + 1, 3, none⟩ = some (.int .i64 b4) := Tw1.2.1.2.2.2.2.1.1
  have xw104 : w1.cell? ⟨w.heap.size + 1, 4, none⟩ = some (.int .i64 b5) := Tw1.2.1.2.2.2.2.2.1.1
  have xw105 : w1.cell? ⟨w.heap.size + 1, 5, none⟩ = some (.int .i64 b6) := Tw1.2.1.2.2.2.2.2.2.1.1
  have xw110 : w1.cell? ⟨w.heap.size, 0, none⟩ = some (.int .i64 a1) := Tw1.2.2.1.2.1.1
  have xw111 : w1.cell? ⟨w.heap.size, 1, none⟩ = some (.int .i64 a2) := Tw1.2.2.1.2.2.1.1
  have xw112 : w1.cell? ⟨w.heap.size, 2, none⟩ = some (.int .i64 a3) := Tw1.2.2.1.2.2.2.1.1
  have xw113 : w1.cell? ⟨w.heap.size, 3, none⟩ = some (.int .i64 a4) := Tw1.2.2.1.2.2.2.2.1.1
  have xw114 : w1.cell? ⟨w.heap.size, 4, none⟩ = some (.int .i64 a5) := Tw1.2.2.1.2.2.2.2.2.1.1
  have xw115 : w1.cell? ⟨w.heap.size, 5, none⟩ = some (.int .i64 a6) := Tw1.2.2.1.2.2.2.2.2.2.1.1
  have lw10 := Tw1.2.1.1
  have lw11 := Tw1.2.2.1.1
  go_wp2_with fail
  refine (stimes_any _ _ _ _ _ _ y1 y2 y3 true _ HQ).mono ?_
  rintro e w2 ⟨rfl, hbw2⟩
  have Tw2 : TL w [(w1.heap.size, [.int .i64 x1, .int .i64 x2, .int .i64 x3]), (w.heap.size + 1, [.int .i64 b1, .int .i64 b2, .int .i64 b3, .int .i64 b4, .int .i64 b5, .int .i64 b6]), (w.heap.size, [.int .i64 a1, .int .i64 a2, .int .i64 a3, .int .i64 a4, .int .i64 a5, .int .i64 a6])] w2 := TL.below (TL.new (t := 27) Tw1 rfl) hbw2
  clear hbw2
  have xw200 : w2.cell? ⟨w1.heap.size, 0, none⟩ = some (.int .i64 x1) := Tw2.2.1.2.1.1
  have xw201 : w2.cell? ⟨w1.heap.size, 1, none⟩ = some (.int .i64 x2) := Tw2.2.1.2.2.1.1
  have xw202 : w2.cell? ⟨w1.heap.size, 2, none⟩ = some (.int .i64 x3) := Tw2.2.1.2.2.2.1.1
  have xw210 : w2.cell? ⟨w.heap.size + 1, 0, none⟩ = some (.int .i64 b1) := Tw2.2.2.1.2.1.1
  have xw211 : w2.cell? ⟨w.heap.size + 1, 1, none⟩ = some (.int .i64 b2) := Tw2.2.2.1.2.2.1.1
  have xw212 : w2.cell? ⟨w.heap.size + 1, 2, none⟩ = some (.int .i64 b3) := Tw2.2.2.1.2.2.2.1.1
  have xw213 : w2.cell? ⟨w.heap.size + 1, 3, none⟩ = some (.int .i64 b4) := Tw2.2.2.1.2.2.2.2.1.1
  have xw214 : w2.cell? ⟨w.heap.size + 1, 4, none⟩ = some (.int .i64 b5) := Tw2.2.2.1.2.2.2.2.2.1.1
  have xw215 : w2.cell? ⟨w.heap.size + 1, 5, none⟩ = some (.int .i64 b6) := Tw2.2.2.1.2.2.2.2.2.2.1.1
  have xw220 : w2.cell? ⟨w.heap.size, 0, none⟩ = some (.int .i64 a1) := Tw2.2.2.2.1.2.1.1
  have xw221 : w2.cell? ⟨w.heap.size, 1, none⟩ = some (.int .i64 a2) := Tw2.2.2.2.1.2.2.1.1
  have xw222 : w2.cell? ⟨w.heap.size, 2, none⟩ = some (.int .i64 a3) := Tw2.2.2.2.1.2.2.2.1.1
  have xw223 : w2.cell? ⟨w.heap.size, 3, none⟩ = some (.int .i64 a4) := Tw2.2.2.2.1.2.2.2.2.1.1
  have xw224 : w2.cell? ⟨w.heap.size, 4, none⟩ = some (.int .i64 a5) := Tw2.2.2.2.1.2.2.2.2.2.1.1
  have xw225 : w2.cell? ⟨w.heap.size, 5, none⟩ = some (.int .i64 a6) := Tw2.2.2.2.1.2.2.2.2.2.2.1.1
  have lw20 := Tw2.2.1.1
  have lw21 := Tw2.2.2.1.1
  have lw22 := Tw2.2.2.2.1.1
  go_upto_region 3 with fail
  have T3 : TL w [(w2.heap.size, [.int .i64 y1, .int .i64 y2, .int .i64 y3]), (w1.heap.size, [.int .i64 x1, .int .i64 x2, .int .i64 x3]), (w.heap.size + 1, [.int .i64 b1, .int .i64 b2, .int .i64 b3, .int .i64 b4, .int .i64 b5, .int .i64 b6]), (w.heap.size, [.int .i64 a1, .int .i64 a2, .int .i64 a3, .int .i64 a4, .int .i64 a5, .int .i64 a6])] (w2.alloc (.cells #[.int .i64 y1, .int .i64 y2, .int .i64 y3] 27)) := TL.new (t := 27) Tw2 rfl
  generalize w2.alloc (.cells #[.int .i64 y1, .int .i64 y2, .int .i64 y3] 27) = w3 at *
  clear xw100 xw101 xw102 xw103 xw104 xw105 xw110 xw111 xw112 xw113 xw114 xw115 xw200 xw201 xw202 xw210 xw211 xw212 xw213 xw214 xw215 xw220 xw221 xw222 xw223 xw224 xw225
  have z00 : w3.cell? ⟨w2.heap.size, 0, none⟩ = some (.int .i64 y1) := T3.2.1.2.1.1
  have z01 : w3.cell? ⟨w2.heap.size, 1, none⟩ = some (.int .i64 y2) := T3.2.1.2.2.1.1
  have z02 : w3.cell? ⟨w2.heap.size, 2, none⟩ = some (.int .i64 y3) := T3.2.1.2.2.2.1.1
  have z10 : w3.cell? ⟨w1.heap.size, 0, none⟩ = some (.int .i64 x1) := T3.2.2.1.2.1.1
  have z11 : w3.cell? ⟨w1.heap.size, 1, none⟩ = some (.int .i64 x2) := T3.2.2.1.2.2.1.1
  have z12 : w3.cell? ⟨w1.heap.size, 2, none⟩ = some (.int .i64 x3) := T3.2.2.1.2.2.2.1.1
  have z20 : w3.cell? ⟨w.heap.size + 1, 0, none⟩ = some (.int .i64 b1) := T3.2.2.2.1.2.1.1
  have z21 : w3.cell? ⟨w.heap.size + 1, 1, none⟩ = some (.int .i64 b2) := T3.2.2.2.1.2.2.1.1
  have z22 : w3.cell? ⟨w.heap.size + 1, 2, none⟩ = some (.int .i64 b3) := T3.2.2.2.1.2.2.2.1.1
  have z23 : w3.cell? ⟨w.heap.size + 1, 3, none⟩ = some (.int .i64 b4) := T3.2.2.2.1.2.2.2.2.1.1
  have z24 : w3.cell? ⟨w.heap.size + 1, 4, none⟩ = some (.int .i64 b5) := T3.2.2.2.1.2.2.2.2.2.1.1
  have z25 : w3.cell? ⟨w.heap.size + 1, 5, none⟩ = some (.int .i64 b6) := T3.2.2.2.1.2.2.2.2.2.2.1.1
  have z30 : w3.cell? ⟨w.heap.size, 0, none⟩ = some (.int .i64 a1) := T3.2.2.2.2.1.2.1.1
  have z31 : w3.cell? ⟨w.heap.size, 1, none⟩ = some (.int .i64 a2) := T3.2.2.2.2.1.2.2.1.1
  have z32 : w3.cell? ⟨w.heap.size, 2, none⟩ = some (.int .i64 a3) := T3.2.2.2.2.1.2.2.2.1.1
  have z33 : w3.cell? ⟨w.heap.size, 3, none⟩ = some (.int .i64 a4) := T3.2.2.2.2.1.2.2.2.2.1.1
  have z34 : w3.cell? ⟨w.heap.size, 4, none⟩ = some (.int .i64 a5) := T3.2.2.2.2.1.2.2.2.2.2.1.1
  have z35 : w3.cell? ⟨w.heap.size, 5, none⟩ = some (.int .i64 a6) := T3.2.2.2.2.1.2.2.2.2.2.2.1.1
  go_cut [4] (fun s4 wx => s4 = .bool false ∧ TL w [] wx)
  case first =>
    have hz0 := T3.1.2
    have SL := Lib.hid (fun (W : World) (h : TL w [(w2.heap.size, [.int .i64 y1, .int .i64 y2, .int .i64 y3]), (w1.heap.size, [.int .i64 x1, .int .i64 x2, .int .i64 x3]), (w.heap.size + 1, [.int .i64 b1, .int .i64 b2, .int .i64 b3, .int .i64 b4, .int .i64 b5, .int .i64 b6]), (w.heap.size, [.int .i64 a1, .int .i64 a2, .int .i64 a3, .int .i64 a4, .int .i64 a5, .int .i64 a6])] W) => (show W.cell? ⟨w2.heap.size, 0, none⟩ = some (.int .i64 y1) ∧ W.cell? ⟨w2.heap.size, 1, none⟩ = some (.int .i64 y2) ∧ W.cell? ⟨w2.heap.size, 2, none⟩ = some (.int .i64 y3) ∧ W.cell? ⟨w1.heap.size, 0, none⟩ = some (.int .i64 x1) ∧ W.cell? ⟨w1.heap.size, 1, none⟩ = some (.int .i64 x2) ∧ W.cell? ⟨w1.heap.size, 2, none⟩ = some (.int .i64 x3) ∧ W.cell? ⟨w.heap.size + 1, 0, none⟩ = some (.int .i64 b1) ∧ W.cell? ⟨w.heap.size + 1, 1, none⟩ = some (.int .i64 b2) ∧ W.cell? ⟨w.heap.size + 1, 2, none⟩ = some (.int .i64 b3) ∧ W.cell? ⟨w.heap.size + 1, 3, none⟩ = some (.int .i64 b4) ∧ W.cell? ⟨w.heap.size + 1, 4, none⟩ = some (.int .i64 b5) ∧ W.cell? ⟨w.heap.size + 1, 5, none⟩ = some (.int .i64 b6) ∧ W.cell? ⟨w.heap.size, 0, none⟩ = some (.int .i64 a1) ∧ W.cell? ⟨w.heap.size, 1, none⟩ = some (.int .i64 a2) ∧ W.cell? ⟨w.heap.size, 2, none⟩ = some (.int .i64 a3) ∧ W.cell? ⟨w.heap.size, 3, none⟩ = some (.int .i64 a4) ∧ W.cell? ⟨w.heap.size, 4, none⟩ = some (.int .i64 a5) ∧ W.cell? ⟨w.heap.size, 5, none⟩ = some (.int .i64 a6) ∧ TL w [(w2.heap.size, [.int .i64 y1, .int .i64 y2, .int .i64 y3]), (w1.heap.size, [.int .i64 x1, .int .i64 x2, .int .i64 x3]), (w.heap.size + 1, [.int .i64 b1, .int .i64 b2, .int .i64 b3, .int .i64 b4, .int .i64 b5, .int .i64 b6]), (w.heap.size, [.int .i64 a1, .int .i64 a2, .int .i64 a3, .int .i64 a4, .int .i64 a5, .int .i64 a6])] W from ⟨h.2.1.2.1.1, h.2.1.2.2.1.1, h.2.1.2.2.2.1.1, h.2.2.1.2.1.1, h.2.2.1.2.2.1.1, h.2.2.1.2.2.2.1.1, h.2.2.2.1.2.1.1, h.2.2.2.1.2.2.1.1, h.2.2.2.1.2.2.2.1.1, h.2.2.2.1.2.2.2.2.1.1, h.2.2.2.1.2.2.2.2.2.1.1, h.2.2.2.1.2.2.2.2.2.2.1.1, h.2.2.2.2.1.2.1.1, h.2.2.2.2.1.2.2.1.1, h.2.2.2.2.1.2.2.2.1.1, h.2.2.2.2.1.2.2.2.2.1.1, h.2.2.2.2.1.2.2.2.2.2.1.1, h.2.2.2.2.1.2.2.2.2.2.2.1.1, h⟩))
    have TO := Lib.hid (fun (W : World) (h : W.cell? ⟨w2.heap.size, 0, none⟩ = some (.int .i64 y1) ∧ W.cell? ⟨w2.heap.size, 1, none⟩ = some (.int .i64 y2) ∧ W.cell? ⟨w2.heap.size, 2, none⟩ = some (.int .i64 y3) ∧ W.cell? ⟨w1.heap.size, 0, none⟩ = some (.int .i64 x1) ∧ W.cell? ⟨w1.heap.size, 1, none⟩ = some (.int .i64 x2) ∧ W.cell? ⟨w1.heap.size, 2, none⟩ = some (.int .i64 x3) ∧ W.cell? ⟨w.heap.size + 1, 0, none⟩ = some (.int .i64 b1) ∧ W.cell? ⟨w.heap.size + 1, 1, none⟩ = some (.int .i64 b2) ∧ W.cell? ⟨w.heap.size + 1, 2, none⟩ = some (.int .i64 b3) ∧ W.cell? ⟨w.heap.size + 1, 3, none⟩ = some (.int .i64 b4) ∧ W.cell? ⟨w.heap.size + 1, 4, none⟩ = some (.int .i64 b5) ∧ W.cell? ⟨w.heap.size + 1, 5, none⟩ = some (.int .i64 b6) ∧ W.cell? ⟨w.heap.size, 0, none⟩ = some (.int .i64 a1) ∧ W.cell? ⟨w.heap.size, 1, none⟩ = some (.int .i64 a2) ∧ W.cell? ⟨w.heap.size, 2, none⟩ = some (.int .i64 a3) ∧ W.cell? ⟨w.heap.size, 3, none⟩ = some (.int .i64 a4) ∧ W.cell? ⟨w.heap.size, 4, none⟩ = some (.int .i64 a5) ∧ W.cell? ⟨w.heap.size, 5, none⟩ = some (.int .i64 a6) ∧ TL w [(w2.heap.size, [.int .i64 y1, .int .i64 y2, .int .i64 y3]), (w1.heap.size, [.int .i64 x1, .int .i64 x2, .int .i64 x3]), (w.heap.size + 1, [.int .i64 b1, .int .i64 b2, .int .i64 b3, .int .i64 b4, .int .i64 b5, .int .i64 b6]), (w.heap.size, [.int .i64 a1, .int .i64 a2, .int .i64 a3, .int .i64 a4, .int .i64 a5, .int .i64 a6])] W) => (show TL w [(w2.heap.size, [.int .i64 y1, .int .i64 y2, .int .i64 y3]), (w1.heap.size, [.int .i64 x1, .int .i64 x2, .int .i64 x3]), (w.heap.size + 1, [.int .i64 b1, .int .i64 b2, .int .i64 b3, .int .i64 b4, .int .i64 b5, .int .i64 b6]), (w.heap.size, [.int .i64 a1, .int .i64 a2, .int .i64 a3, .int .i64 a4, .int .i64 a5, .int .i64 a6])] W from h.2.2.2.2.2.2.2.2.2.2.2.2.2.2.2.2.2.2))
    first
      | go_region_with (first | (go_at_call 13; with_reducible refine (sjvalid_any a1 a2 a3 a4 a5 a6 true _ HV).mono ?_; rintro e v1 ⟨rfl, hb⟩; have hT := TL.below (by first | with_reducible assumption | with_reducible exact T3.drew) hb; obtain ⟨k00, k01, k02, k10, k11, k12, k20, k21, k22, k23, k24, k25, k30, k31, k32, k33, k34, k35, -⟩ := SL.out _ hT) | (go_at_call 13; with_reducible refine (sjvalid_any b1 b2 b3 b4 b5 b6 true _ HU).mono ?_; rintro e v1 ⟨rfl, hb⟩; have hT := TL.below (by first | with_reducible assumption | with_reducible exact T3.drew) hb; obtain ⟨k00, k01, k02, k10, k11, k12, k20, k21, k22, k23, k24, k25, k30, k31, k32, k33, k34, k35, -⟩ := SL.out _ hT))
      | fail
    all_goals (go_wp2_with fail; go_meet; case rel => exact ⟨rfl, by first | exact ⟨hT.1, trivial⟩ | exact ⟨T3.1, trivial⟩ | exact ⟨T3.drew.1, trivial⟩⟩)
  case rest =>
    obtain ⟨rfl, hT⟩ := hcut
    go_wp2_with fail
    go_ret
    exact ⟨by rw [← HE.out]; rfl, hT.1.1⟩

end Go.Proofs.YtcgckmjahfcfeaaDoor
