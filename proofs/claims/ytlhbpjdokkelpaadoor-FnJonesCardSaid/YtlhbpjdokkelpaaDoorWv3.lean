/-
  WALKS: are two vectors alike? The program's, part by part. Condition: the variable zero holds 0 over 1.
-/
import Derived.Test.YtlhbpjdokkelpaaDoorWv0
namespace Go.Proofs.YtlhbpjdokkelpaaDoor
open Go.RowKit
open PL

set_option maxHeartbeats 16000000 in
theorem alike_leaf3 (a1 a2 a3 a4 a5 a6 b1 b2 b3 b4 b5 b6 x1 x2 x3 y1 y2 y3 : Int) (p q v u b : Bool) (w : World) (_HZ : ZC w) (HB : Hid ((v && u && p && q && (x1 == y1 && x2 == y2 && x3 == y3) && (dk ⟨a1, a2, a3⟩ ⟨a4, a5, a6⟩ == dk ⟨b1, b2, b3⟩ ⟨b4, b5, b6⟩)) = b)) (HP : Hid (times ⟨a1, a2, a3⟩ ⟨b4, b5, b6⟩ = (⟨x1, x2, x3⟩, p))) (HQ : Hid (times ⟨a4, a5, a6⟩ ⟨b1, b2, b3⟩ = (⟨y1, y2, y3⟩, q))) (HV : Hid ((valid ⟨a1, a2, a3⟩ && valid ⟨a4, a5, a6⟩) = v)) (HU : Hid ((valid ⟨b1, b2, b3⟩ && valid ⟨b4, b5, b6⟩) = u)) (h0 : (v) = true) (h1 : (u) = true) (h2 : (p) = true) (h3 : (q) = false) :
    Calls Tryd.prog 16 #[.agg #[.int .i64 a1, .int .i64 a2, .int .i64 a3, .int .i64 a4, .int .i64 a5, .int .i64 a6], .agg #[.int .i64 b1, .int .i64 b2, .int .i64 b3, .int .i64 b4, .int .i64 b5, .int .i64 b6]] w fun e w' => e = .returned (.bool b) ∧ Below w.heap.size w w' := by
  subst h0
  subst h1
  subst h2
  subst h3
  have HE := Lib.hid (show false = b by have h := HB.out; simpa using h)
  clear HB
  have HNP := Lib.hid (show ∀ x ∈ ([(w.heap.size + 1, [.int .i64 b1, .int .i64 b2, .int .i64 b3, .int .i64 b4, .int .i64 b5, .int .i64 b6]), (w.heap.size, [.int .i64 a1, .int .i64 a2, .int .i64 a3, .int .i64 a4, .int .i64 a5, .int .i64 a6])] : List (Nat × List Value)), x.1 ≠ w.heap.size + 1 + 1 by
    intro x hx
    simp only [List.mem_cons, List.not_mem_nil, or_false] at hx
    rcases hx with rfl | rfl <;> simp only <;> omega)
  go_enter Tryd.func16, Tryd.ntmps16
  go_wp2_with fail
  refine (jvalid_any a1 a2 a3 a4 a5 a6 true _ HV).mono ?_
  rintro e w1 ⟨rfl, hbw1⟩
  have Tw1 : TL w [(w.heap.size + 1 + 1, [.bool false]), (w.heap.size + 1, [.int .i64 b1, .int .i64 b2, .int .i64 b3, .int .i64 b4, .int .i64 b5, .int .i64 b6]), (w.heap.size, [.int .i64 a1, .int .i64 a2, .int .i64 a3, .int .i64 a4, .int .i64 a5, .int .i64 a6])] w1 := TL.below (TL.new (t := 43) (TL.new (t := 32) (TL.new (t := 32) (TL.refl w) rfl) (by simp)) (by simp)) hbw1
  clear hbw1
  have xw100 : w1.cell? ⟨w.heap.size + 1 + 1, 0, none⟩ = some (.bool false) := Tw1.2.1.2.1.1
  have xw110 : w1.cell? ⟨w.heap.size + 1, 0, none⟩ = some (.int .i64 b1) := Tw1.2.2.1.2.1.1
  have xw111 : w1.cell? ⟨w.heap.size + 1, 1, none⟩ = some (.int .i64 b2) := Tw1.2.2.1.2.2.1.1
  have xw112 : w1.cell? ⟨w.heap.size + 1, 2, none⟩ = some (.int .i64 b3) := Tw1.2.2.1.2.2.2.1.1
  have xw113 : w1.cell? ⟨w.heap.size + 1, 3, none⟩ = some (.int .i64 b4) := Tw1.2.2.1.2.2.2.2.1.1
  have xw114 : w1.cell? ⟨w.heap.size + 1, 4, none⟩ = some (.int .i64 b5) := Tw1.2.2.1.2.2.2.2.2.1.1
  have xw115 : w1.cell? ⟨w.heap.size + 1, 5, none⟩ = some (.int .i64 b6) := Tw1.2.2.1.2.2.2.2.2.2.1.1
  have xw120 : w1.cell? ⟨w.heap.size, 0, none⟩ = some (.int .i64 a1) := Tw1.2.2.2.1.2.1.1
  have xw121 : w1.cell? ⟨w.heap.size, 1, none⟩ = some (.int .i64 a2) := Tw1.2.2.2.1.2.2.1.1
  have xw122 : w1.cell? ⟨w.heap.size, 2, none⟩ = some (.int .i64 a3) := Tw1.2.2.2.1.2.2.2.1.1
  have xw123 : w1.cell? ⟨w.heap.size, 3, none⟩ = some (.int .i64 a4) := Tw1.2.2.2.1.2.2.2.2.1.1
  have xw124 : w1.cell? ⟨w.heap.size, 4, none⟩ = some (.int .i64 a5) := Tw1.2.2.2.1.2.2.2.2.2.1.1
  have xw125 : w1.cell? ⟨w.heap.size, 5, none⟩ = some (.int .i64 a6) := Tw1.2.2.2.1.2.2.2.2.2.2.1.1
  have lw10 := Tw1.2.1.1
  have lw11 := Tw1.2.2.1.1
  have lw12 := Tw1.2.2.2.1.1
  go_wp2_with fail
  refine (jvalid_any b1 b2 b3 b4 b5 b6 true _ HU).mono ?_
  rintro e w2 ⟨rfl, hbw2⟩
  have Tw2 : TL w [(w.heap.size + 1 + 1, [.bool false]), (w.heap.size + 1, [.int .i64 b1, .int .i64 b2, .int .i64 b3, .int .i64 b4, .int .i64 b5, .int .i64 b6]), (w.heap.size, [.int .i64 a1, .int .i64 a2, .int .i64 a3, .int .i64 a4, .int .i64 a5, .int .i64 a6])] w2 := TL.below (Tw1) hbw2
  clear hbw2
  have xw200 : w2.cell? ⟨w.heap.size + 1 + 1, 0, none⟩ = some (.bool false) := Tw2.2.1.2.1.1
  have xw210 : w2.cell? ⟨w.heap.size + 1, 0, none⟩ = some (.int .i64 b1) := Tw2.2.2.1.2.1.1
  have xw211 : w2.cell? ⟨w.heap.size + 1, 1, none⟩ = some (.int .i64 b2) := Tw2.2.2.1.2.2.1.1
  have xw212 : w2.cell? ⟨w.heap.size + 1, 2, none⟩ = some (.int .i64 b3) := Tw2.2.2.1.2.2.2.1.1
  have xw213 : w2.cell? ⟨w.heap.size + 1, 3, none⟩ = some (.int .i64 b4) := Tw2.2.2.1.2.2.2.2.1.1
  have xw214 : w2.cell? ⟨w.heap.size + 1, 4, none⟩ = some (.int .i64 b5) := Tw2.2.2.1.2.2.2.2.2.1.1
  have xw215 : w2.cell? ⟨w.heap.size + 1, 5, none⟩ = some (.int .i64 b6) := Tw2.2.2.1.2.2.2.2.2.2.1.1
  have xw220 : w2.cell? ⟨w.heap.size, 0, none⟩ = some (.int .i64 a1) := Tw2.2.2.2.1.2.1.1
  have xw221 : w2.cell? ⟨w.heap.size, 1, none⟩ = some (.int .i64 a2) := Tw2.2.2.2.1.2.2.1.1
  have xw222 : w2.cell? ⟨w.heap.size, 2, none⟩ = some (.int .i64 a3) := Tw2.2.2.2.1.2.2.2.1.1
  have xw223 : w2.cell? ⟨w.heap.size, 3, none⟩ = some (.int .i64 a4) := Tw2.2.2.2.1.2.2.2.2.1.1
  have xw224 : w2.cell? ⟨w.heap.size, 4, none⟩ = some (.int .i64 a5) := Tw2.2.2.2.1.2.2.2.2.2.1.1
  have xw225 : w2.cell? ⟨w.heap.size, 5, none⟩ = some (.int .i64 a6) := Tw2.2.2.2.1.2.2.2.2.2.2.1.1
  have lw20 := Tw2.2.1.1
  have lw21 := Tw2.2.2.1.1
  have lw22 := Tw2.2.2.2.1.1
  go_wp2_with fail
  have HS : SB w2 (w.heap.size + 1 + 1) false := ⟨Tw2.2.1.1, Tw2.2.1.2.1.1, Tw2.2.1.2.1.2⟩
  refine (need_any _ false true _ HS).mono ?_
  rintro e w3 ⟨rfl, hb3, hS3⟩
  have T3 : TL w [(w.heap.size + 1, [.int .i64 b1, .int .i64 b2, .int .i64 b3, .int .i64 b4, .int .i64 b5, .int .i64 b6]), (w.heap.size, [.int .i64 a1, .int .i64 a2, .int .i64 a3, .int .i64 a4, .int .i64 a5, .int .i64 a6])] w3 := TL.bex ⟨Tw2.1, Tw2.2.2⟩ hb3 (by omega) HNP.out
  clear hb3
  clear xw200 xw210 xw211 xw212 xw213 xw214 xw215 xw220 xw221 xw222 xw223 xw224 xw225 xw100 xw110 xw111 xw112 xw113 xw114 xw115 xw120 xw121 xw122 xw123 xw124 xw125
  have hk3 := hS3.1
  have z00 : w3.cell? ⟨w.heap.size + 1, 0, none⟩ = some (.int .i64 b1) := T3.2.1.2.1.1
  have z01 : w3.cell? ⟨w.heap.size + 1, 1, none⟩ = some (.int .i64 b2) := T3.2.1.2.2.1.1
  have z02 : w3.cell? ⟨w.heap.size + 1, 2, none⟩ = some (.int .i64 b3) := T3.2.1.2.2.2.1.1
  have z03 : w3.cell? ⟨w.heap.size + 1, 3, none⟩ = some (.int .i64 b4) := T3.2.1.2.2.2.2.1.1
  have z04 : w3.cell? ⟨w.heap.size + 1, 4, none⟩ = some (.int .i64 b5) := T3.2.1.2.2.2.2.2.1.1
  have z05 : w3.cell? ⟨w.heap.size + 1, 5, none⟩ = some (.int .i64 b6) := T3.2.1.2.2.2.2.2.2.1.1
  have z10 : w3.cell? ⟨w.heap.size, 0, none⟩ = some (.int .i64 a1) := T3.2.2.1.2.1.1
  have z11 : w3.cell? ⟨w.heap.size, 1, none⟩ = some (.int .i64 a2) := T3.2.2.1.2.2.1.1
  have z12 : w3.cell? ⟨w.heap.size, 2, none⟩ = some (.int .i64 a3) := T3.2.2.1.2.2.2.1.1
  have z13 : w3.cell? ⟨w.heap.size, 3, none⟩ = some (.int .i64 a4) := T3.2.2.1.2.2.2.2.1.1
  have z14 : w3.cell? ⟨w.heap.size, 4, none⟩ = some (.int .i64 a5) := T3.2.2.1.2.2.2.2.2.1.1
  have z15 : w3.cell? ⟨w.heap.size, 5, none⟩ = some (.int .i64 a6) := T3.2.2.1.2.2.2.2.2.2.1.1
  go_upto_region 2 with fail
  go_cut [6, 7] (fun s6 s7 wx => ∃ gp gq : Nat, s6 = .pointer (some ⟨gp, 0, none⟩) ∧ s7 = .pointer (some ⟨gq, 0, none⟩) ∧ gp ≠ gq ∧ (gp ≠ w.heap.size + 1 + 1 ∧ gq ≠ w.heap.size + 1 + 1) ∧ TL w [(gq, [.int .i64 y1, .int .i64 y2, .int .i64 y3]), (gp, [.int .i64 x1, .int .i64 x2, .int .i64 x3]), (w.heap.size + 1, [.int .i64 b1, .int .i64 b2, .int .i64 b3, .int .i64 b4, .int .i64 b5, .int .i64 b6]), (w.heap.size, [.int .i64 a1, .int .i64 a2, .int .i64 a3, .int .i64 a4, .int .i64 a5, .int .i64 a6])] wx ∧ SB wx (w.heap.size + 1 + 1) (((false || !true) || !true) || !false))
  case first =>
    have hT0 := T3
    have hz0 := hT0.1.2
    have e1w3 : ¬ w3.heap.size = w.heap.size + 1 + 1 := (by omega)
    have e2w3 : ¬ w3.heap.size + 1 = w.heap.size + 1 + 1 := (by omega)
    have e3w3 : ¬ w3.heap.size = w.heap.size + 1 := (by omega)
    have SL := Lib.hid (fun (W : World) (h : TL w [(w.heap.size + 1, [.int .i64 b1, .int .i64 b2, .int .i64 b3, .int .i64 b4, .int .i64 b5, .int .i64 b6]), (w.heap.size, [.int .i64 a1, .int .i64 a2, .int .i64 a3, .int .i64 a4, .int .i64 a5, .int .i64 a6])] W) => (show W.cell? ⟨w.heap.size + 1, 0, none⟩ = some (.int .i64 b1) ∧ W.cell? ⟨w.heap.size + 1, 1, none⟩ = some (.int .i64 b2) ∧ W.cell? ⟨w.heap.size + 1, 2, none⟩ = some (.int .i64 b3) ∧ W.cell? ⟨w.heap.size + 1, 3, none⟩ = some (.int .i64 b4) ∧ W.cell? ⟨w.heap.size + 1, 4, none⟩ = some (.int .i64 b5) ∧ W.cell? ⟨w.heap.size + 1, 5, none⟩ = some (.int .i64 b6) ∧ W.cell? ⟨w.heap.size, 0, none⟩ = some (.int .i64 a1) ∧ W.cell? ⟨w.heap.size, 1, none⟩ = some (.int .i64 a2) ∧ W.cell? ⟨w.heap.size, 2, none⟩ = some (.int .i64 a3) ∧ W.cell? ⟨w.heap.size, 3, none⟩ = some (.int .i64 a4) ∧ W.cell? ⟨w.heap.size, 4, none⟩ = some (.int .i64 a5) ∧ W.cell? ⟨w.heap.size, 5, none⟩ = some (.int .i64 a6) ∧ TL w [(w.heap.size + 1, [.int .i64 b1, .int .i64 b2, .int .i64 b3, .int .i64 b4, .int .i64 b5, .int .i64 b6]), (w.heap.size, [.int .i64 a1, .int .i64 a2, .int .i64 a3, .int .i64 a4, .int .i64 a5, .int .i64 a6])] W from ⟨h.2.1.2.1.1, h.2.1.2.2.1.1, h.2.1.2.2.2.1.1, h.2.1.2.2.2.2.1.1, h.2.1.2.2.2.2.2.1.1, h.2.1.2.2.2.2.2.2.1.1, h.2.2.1.2.1.1, h.2.2.1.2.2.1.1, h.2.2.1.2.2.2.1.1, h.2.2.1.2.2.2.2.1.1, h.2.2.1.2.2.2.2.2.1.1, h.2.2.1.2.2.2.2.2.2.1.1, h⟩))
    have TO := Lib.hid (fun (W : World) (h : W.cell? ⟨w.heap.size + 1, 0, none⟩ = some (.int .i64 b1) ∧ W.cell? ⟨w.heap.size + 1, 1, none⟩ = some (.int .i64 b2) ∧ W.cell? ⟨w.heap.size + 1, 2, none⟩ = some (.int .i64 b3) ∧ W.cell? ⟨w.heap.size + 1, 3, none⟩ = some (.int .i64 b4) ∧ W.cell? ⟨w.heap.size + 1, 4, none⟩ = some (.int .i64 b5) ∧ W.cell? ⟨w.heap.size + 1, 5, none⟩ = some (.int .i64 b6) ∧ W.cell? ⟨w.heap.size, 0, none⟩ = some (.int .i64 a1) ∧ W.cell? ⟨w.heap.size, 1, none⟩ = some (.int .i64 a2) ∧ W.cell? ⟨w.heap.size, 2, none⟩ = some (.int .i64 a3) ∧ W.cell? ⟨w.heap.size, 3, none⟩ = some (.int .i64 a4) ∧ W.cell? ⟨w.heap.size, 4, none⟩ = some (.int .i64 a5) ∧ W.cell? ⟨w.heap.size, 5, none⟩ = some (.int .i64 a6) ∧ TL w [(w.heap.size + 1, [.int .i64 b1, .int .i64 b2, .int .i64 b3, .int .i64 b4, .int .i64 b5, .int .i64 b6]), (w.heap.size, [.int .i64 a1, .int .i64 a2, .int .i64 a3, .int .i64 a4, .int .i64 a5, .int .i64 a6])] W) => (show TL w [(w.heap.size + 1, [.int .i64 b1, .int .i64 b2, .int .i64 b3, .int .i64 b4, .int .i64 b5, .int .i64 b6]), (w.heap.size, [.int .i64 a1, .int .i64 a2, .int .i64 a3, .int .i64 a4, .int .i64 a5, .int .i64 a6])] W from h.2.2.2.2.2.2.2.2.2.2.2.2))
    first
      | go_region_held3 (fun w' => w'.cell? ⟨w.heap.size + 1, 0, none⟩ = some (.int .i64 b1) ∧ w'.cell? ⟨w.heap.size + 1, 1, none⟩ = some (.int .i64 b2) ∧ w'.cell? ⟨w.heap.size + 1, 2, none⟩ = some (.int .i64 b3) ∧ w'.cell? ⟨w.heap.size + 1, 3, none⟩ = some (.int .i64 b4) ∧ w'.cell? ⟨w.heap.size + 1, 4, none⟩ = some (.int .i64 b5) ∧ w'.cell? ⟨w.heap.size + 1, 5, none⟩ = some (.int .i64 b6) ∧ w'.cell? ⟨w.heap.size, 0, none⟩ = some (.int .i64 a1) ∧ w'.cell? ⟨w.heap.size, 1, none⟩ = some (.int .i64 a2) ∧ w'.cell? ⟨w.heap.size, 2, none⟩ = some (.int .i64 a3) ∧ w'.cell? ⟨w.heap.size, 3, none⟩ = some (.int .i64 a4) ∧ w'.cell? ⟨w.heap.size, 4, none⟩ = some (.int .i64 a5) ∧ w'.cell? ⟨w.heap.size, 5, none⟩ = some (.int .i64 a6) ∧ TL w [(w.heap.size + 1, [.int .i64 b1, .int .i64 b2, .int .i64 b3, .int .i64 b4, .int .i64 b5, .int .i64 b6]), (w.heap.size, [.int .i64 a1, .int .i64 a2, .int .i64 a3, .int .i64 a4, .int .i64 a5, .int .i64 a6])] w')
          (with_reducible apply SL.out; repeat' first | with_reducible assumption | with_reducible apply TL.farA | with_reducible apply TL.alloc | with_reducible apply TL.drew | omega | exact TL.ne hT0 (by first | omega | (simp; done) | (simp; omega)))
          (first | (go_at_call 26; with_reducible apply Calls.mono; (focus with_reducible exact s_times_at _ a1 a2 a3 b4 b5 b6 x1 x2 x3 true _ _ HP (by repeat' first | assumption | apply SB.drewA | apply SB.alloc)); intro e w1 hQ; (try dsimp only at hQ); obtain ⟨rfl, hb, hS⟩ := hQ; have hz := hb.size; (try simp only [World.size_alloc] at hz); (try simp only [World.size_drew] at hz); (try simp only [World.size_alloc] at hz); have hT := TL.bex (TO.out _ (by assumption)) hb (by omega) HNP.out; obtain ⟨hc, hf⟩ := bexcell hb; obtain ⟨n1, n2, n3, n4⟩ := bexne hb; have n5 := bexlt hb; (try simp only [World.size_alloc] at n1 n2 n3 n4 n5 hc hf); (try simp only [World.size_drew] at n1 n2 n3 n4 n5 hc hf); (try have n6 : w3.heap.size < w1.heap.size := (by omega)); (try have n7 : w3.heap.size + 1 < w1.heap.size := (by omega)); have e1w1 : ¬ w1.heap.size = w.heap.size + 1 + 1 := (by omega); have e2w1 : ¬ w1.heap.size + 1 = w.heap.size + 1 + 1 := (by omega); have e3w1 : ¬ w1.heap.size = w.heap.size + 1 := (by omega)) | (go_at_call 26; with_reducible apply Calls.mono; (focus with_reducible exact s_times_at _ a4 a5 a6 b1 b2 b3 y1 y2 y3 false _ _ HQ (by repeat' first | assumption | apply SB.drewA | apply SB.alloc)); intro e w1 hQ; (try dsimp only at hQ); obtain ⟨rfl, hb, hS⟩ := hQ; have hz := hb.size; (try simp only [World.size_alloc] at hz); (try simp only [World.size_drew] at hz); (try simp only [World.size_alloc] at hz); have hT := TL.bex (TO.out _ (by assumption)) hb (by omega) HNP.out; obtain ⟨hc, hf⟩ := bexcell hb; obtain ⟨n1, n2, n3, n4⟩ := bexne hb; have n5 := bexlt hb; (try simp only [World.size_alloc] at n1 n2 n3 n4 n5 hc hf); (try simp only [World.size_drew] at n1 n2 n3 n4 n5 hc hf); (try have n6 : w3.heap.size < w1.heap.size := (by omega)); (try have n7 : w3.heap.size + 1 < w1.heap.size := (by omega)); have e1w1 : ¬ w1.heap.size = w.heap.size + 1 + 1 := (by omega); have e2w1 : ¬ w1.heap.size + 1 = w.heap.size + 1 + 1 := (by omega); have e3w1 : ¬ w1.heap.size = w.heap.size + 1 := (by omega)))
      | fail
    all_goals (go_wp2_with fail; go_meet; case rel => (refine ⟨_, _, rfl, rfl, ?_, ⟨?_, ?_⟩, TL.cons (TL.cons ?_ ?_ ?_) ?_ ?_, ?_⟩; (· first | omega | (simp; done) | (simp; omega)); (· first | omega | (simp; done) | (simp; omega)); (· first | omega | (simp; done) | (simp; omega)); (· repeat' first | with_reducible assumption | with_reducible apply TL.farA | with_reducible apply TL.alloc | with_reducible apply TL.drew | omega | exact TL.ne hT0 (by first | omega | (simp; done) | (simp; omega))); (· first | omega | (simp; done) | (simp; omega)); (· repeat' first | (with_reducible exact CB.new rfl) | with_reducible apply CB.set3 | (with_reducible refine CB.far3 (by first | omega | (simp; done) | (simp; omega)) ?_) | (with_reducible refine CB.alloc (by first | omega | (simp; done) | (simp; omega)) ?_) | (refine CB.bex (by assumption) (by first | omega | (simp; done) | (simp; omega)) (by first | omega | (simp; done) | (simp; omega)) ?_) | with_reducible apply CB.drewA | (exact CB.new (by simp; done))); (· first | omega | (simp; done) | (simp; omega)); (· repeat' first | (with_reducible exact CB.new rfl) | with_reducible apply CB.set3 | (with_reducible refine CB.far3 (by first | omega | (simp; done) | (simp; omega)) ?_) | (with_reducible refine CB.alloc (by first | omega | (simp; done) | (simp; omega)) ?_) | (refine CB.bex (by assumption) (by first | omega | (simp; done) | (simp; omega)) (by first | omega | (simp; done) | (simp; omega)) ?_) | with_reducible apply CB.drewA | (exact CB.new (by simp; done))); (· repeat' first | with_reducible assumption | with_reducible apply SB.far3 | with_reducible apply SB.alloc | with_reducible apply SB.drewA | omega | (simp; done) | (simp; omega))))
  case rest =>
    obtain ⟨gp, gq, rfl, rfl, hpq, hpk, hT, hS⟩ := hcut
    have hS4 : SB wc (w.heap.size + 1 + 1) true := hS.cast (by simp)
    have T4 : TL w [(w.heap.size + 1 + 1, [.bool true]), (gq, [.int .i64 y1, .int .i64 y2, .int .i64 y3]), (gp, [.int .i64 x1, .int .i64 x2, .int .i64 x3]), (w.heap.size + 1, [.int .i64 b1, .int .i64 b2, .int .i64 b3, .int .i64 b4, .int .i64 b5, .int .i64 b6]), (w.heap.size, [.int .i64 a1, .int .i64 a2, .int .i64 a3, .int .i64 a4, .int .i64 a5, .int .i64 a6])] wc := ⟨hT.1, ⟨hS4.1, ⟨hS4.2.1, hS4.2.2⟩, trivial⟩, hT.2⟩
    clear hT hS hS4
    clear z00 z01 z02 z03 z04 z05 z10 z11 z12 z13 z14 z15
    have y00 : wc.cell? ⟨w.heap.size + 1 + 1, 0, none⟩ = some (.bool true) := T4.2.1.2.1.1
    have y10 : wc.cell? ⟨gq, 0, none⟩ = some (.int .i64 y1) := T4.2.2.1.2.1.1
    have y11 : wc.cell? ⟨gq, 1, none⟩ = some (.int .i64 y2) := T4.2.2.1.2.2.1.1
    have y12 : wc.cell? ⟨gq, 2, none⟩ = some (.int .i64 y3) := T4.2.2.1.2.2.2.1.1
    have y20 : wc.cell? ⟨gp, 0, none⟩ = some (.int .i64 x1) := T4.2.2.2.1.2.1.1
    have y21 : wc.cell? ⟨gp, 1, none⟩ = some (.int .i64 x2) := T4.2.2.2.1.2.2.1.1
    have y22 : wc.cell? ⟨gp, 2, none⟩ = some (.int .i64 x3) := T4.2.2.2.1.2.2.2.1.1
    have y30 : wc.cell? ⟨w.heap.size + 1, 0, none⟩ = some (.int .i64 b1) := T4.2.2.2.2.1.2.1.1
    have y31 : wc.cell? ⟨w.heap.size + 1, 1, none⟩ = some (.int .i64 b2) := T4.2.2.2.2.1.2.2.1.1
    have y32 : wc.cell? ⟨w.heap.size + 1, 2, none⟩ = some (.int .i64 b3) := T4.2.2.2.2.1.2.2.2.1.1
    have y33 : wc.cell? ⟨w.heap.size + 1, 3, none⟩ = some (.int .i64 b4) := T4.2.2.2.2.1.2.2.2.2.1.1
    have y34 : wc.cell? ⟨w.heap.size + 1, 4, none⟩ = some (.int .i64 b5) := T4.2.2.2.2.1.2.2.2.2.2.1.1
    have y35 : wc.cell? ⟨w.heap.size + 1, 5, none⟩ = some (.int .i64 b6) := T4.2.2.2.2.1.2.2.2.2.2.2.1.1
    have y40 : wc.cell? ⟨w.heap.size, 0, none⟩ = some (.int .i64 a1) := T4.2.2.2.2.2.1.2.1.1
    have y41 : wc.cell? ⟨w.heap.size, 1, none⟩ = some (.int .i64 a2) := T4.2.2.2.2.2.1.2.2.1.1
    have y42 : wc.cell? ⟨w.heap.size, 2, none⟩ = some (.int .i64 a3) := T4.2.2.2.2.2.1.2.2.2.1.1
    have y43 : wc.cell? ⟨w.heap.size, 3, none⟩ = some (.int .i64 a4) := T4.2.2.2.2.2.1.2.2.2.2.1.1
    have y44 : wc.cell? ⟨w.heap.size, 4, none⟩ = some (.int .i64 a5) := T4.2.2.2.2.2.1.2.2.2.2.2.1.1
    have y45 : wc.cell? ⟨w.heap.size, 5, none⟩ = some (.int .i64 a6) := T4.2.2.2.2.2.1.2.2.2.2.2.2.1.1
    go_upto_region 3 with fail
    go_cut [4] (fun s4 wx => s4 = .bool false ∧ TL w [] wx)
    case first =>
      have hz0 := T4.1.2
      have SL := Lib.hid (fun (W : World) (h : TL w [(w.heap.size + 1 + 1, [.bool true]), (gq, [.int .i64 y1, .int .i64 y2, .int .i64 y3]), (gp, [.int .i64 x1, .int .i64 x2, .int .i64 x3]), (w.heap.size + 1, [.int .i64 b1, .int .i64 b2, .int .i64 b3, .int .i64 b4, .int .i64 b5, .int .i64 b6]), (w.heap.size, [.int .i64 a1, .int .i64 a2, .int .i64 a3, .int .i64 a4, .int .i64 a5, .int .i64 a6])] W) => (show W.cell? ⟨w.heap.size + 1 + 1, 0, none⟩ = some (.bool true) ∧ W.cell? ⟨gq, 0, none⟩ = some (.int .i64 y1) ∧ W.cell? ⟨gq, 1, none⟩ = some (.int .i64 y2) ∧ W.cell? ⟨gq, 2, none⟩ = some (.int .i64 y3) ∧ W.cell? ⟨gp, 0, none⟩ = some (.int .i64 x1) ∧ W.cell? ⟨gp, 1, none⟩ = some (.int .i64 x2) ∧ W.cell? ⟨gp, 2, none⟩ = some (.int .i64 x3) ∧ W.cell? ⟨w.heap.size + 1, 0, none⟩ = some (.int .i64 b1) ∧ W.cell? ⟨w.heap.size + 1, 1, none⟩ = some (.int .i64 b2) ∧ W.cell? ⟨w.heap.size + 1, 2, none⟩ = some (.int .i64 b3) ∧ W.cell? ⟨w.heap.size + 1, 3, none⟩ = some (.int .i64 b4) ∧ W.cell? ⟨w.heap.size + 1, 4, none⟩ = some (.int .i64 b5) ∧ W.cell? ⟨w.heap.size + 1, 5, none⟩ = some (.int .i64 b6) ∧ W.cell? ⟨w.heap.size, 0, none⟩ = some (.int .i64 a1) ∧ W.cell? ⟨w.heap.size, 1, none⟩ = some (.int .i64 a2) ∧ W.cell? ⟨w.heap.size, 2, none⟩ = some (.int .i64 a3) ∧ W.cell? ⟨w.heap.size, 3, none⟩ = some (.int .i64 a4) ∧ W.cell? ⟨w.heap.size, 4, none⟩ = some (.int .i64 a5) ∧ W.cell? ⟨w.heap.size, 5, none⟩ = some (.int .i64 a6) ∧ TL w [(w.heap.size + 1 + 1, [.bool true]), (gq, [.int .i64 y1, .int .i64 y2, .int .i64 y3]), (gp, [.int .i64 x1, .int .i64 x2, .int .i64 x3]), (w.heap.size + 1, [.int .i64 b1, .int .i64 b2, .int .i64 b3, .int .i64 b4, .int .i64 b5, .int .i64 b6]), (w.heap.size, [.int .i64 a1, .int .i64 a2, .int .i64 a3, .int .i64 a4, .int .i64 a5, .int .i64 a6])] W from ⟨h.2.1.2.1.1, h.2.2.1.2.1.1, h.2.2.1.2.2.1.1, h.2.2.1.2.2.2.1.1, h.2.2.2.1.2.1.1, h.2.2.2.1.2.2.1.1, h.2.2.2.1.2.2.2.1.1, h.2.2.2.2.1.2.1.1, h.2.2.2.2.1.2.2.1.1, h.2.2.2.2.1.2.2.2.1.1, h.2.2.2.2.1.2.2.2.2.1.1, h.2.2.2.2.1.2.2.2.2.2.1.1, h.2.2.2.2.1.2.2.2.2.2.2.1.1, h.2.2.2.2.2.1.2.1.1, h.2.2.2.2.2.1.2.2.1.1, h.2.2.2.2.2.1.2.2.2.1.1, h.2.2.2.2.2.1.2.2.2.2.1.1, h.2.2.2.2.2.1.2.2.2.2.2.1.1, h.2.2.2.2.2.1.2.2.2.2.2.2.1.1, h⟩))
      have TO := Lib.hid (fun (W : World) (h : W.cell? ⟨w.heap.size + 1 + 1, 0, none⟩ = some (.bool true) ∧ W.cell? ⟨gq, 0, none⟩ = some (.int .i64 y1) ∧ W.cell? ⟨gq, 1, none⟩ = some (.int .i64 y2) ∧ W.cell? ⟨gq, 2, none⟩ = some (.int .i64 y3) ∧ W.cell? ⟨gp, 0, none⟩ = some (.int .i64 x1) ∧ W.cell? ⟨gp, 1, none⟩ = some (.int .i64 x2) ∧ W.cell? ⟨gp, 2, none⟩ = some (.int .i64 x3) ∧ W.cell? ⟨w.heap.size + 1, 0, none⟩ = some (.int .i64 b1) ∧ W.cell? ⟨w.heap.size + 1, 1, none⟩ = some (.int .i64 b2) ∧ W.cell? ⟨w.heap.size + 1, 2, none⟩ = some (.int .i64 b3) ∧ W.cell? ⟨w.heap.size + 1, 3, none⟩ = some (.int .i64 b4) ∧ W.cell? ⟨w.heap.size + 1, 4, none⟩ = some (.int .i64 b5) ∧ W.cell? ⟨w.heap.size + 1, 5, none⟩ = some (.int .i64 b6) ∧ W.cell? ⟨w.heap.size, 0, none⟩ = some (.int .i64 a1) ∧ W.cell? ⟨w.heap.size, 1, none⟩ = some (.int .i64 a2) ∧ W.cell? ⟨w.heap.size, 2, none⟩ = some (.int .i64 a3) ∧ W.cell? ⟨w.heap.size, 3, none⟩ = some (.int .i64 a4) ∧ W.cell? ⟨w.heap.size, 4, none⟩ = some (.int .i64 a5) ∧ W.cell? ⟨w.heap.size, 5, none⟩ = some (.int .i64 a6) ∧ TL w [(w.heap.size + 1 + 1, [.bool true]), (gq, [.int .i64 y1, .int .i64 y2, .int .i64 y3]), (gp, [.int .i64 x1, .int .i64 x2, .int .i64 x3]), (w.heap.size + 1, [.int .i64 b1, .int .i64 b2, .int .i64 b3, .int .i64 b4, .int .i64 b5, .int .i64 b6]), (w.heap.size, [.int .i64 a1, .int .i64 a2, .int .i64 a3, .int .i64 a4, .int .i64 a5, .int .i64 a6])] W) => (show TL w [(w.heap.size + 1 + 1, [.bool true]), (gq, [.int .i64 y1, .int .i64 y2, .int .i64 y3]), (gp, [.int .i64 x1, .int .i64 x2, .int .i64 x3]), (w.heap.size + 1, [.int .i64 b1, .int .i64 b2, .int .i64 b3, .int .i64 b4, .int .i64 b5, .int .i64 b6]), (w.heap.size, [.int .i64 a1, .int .i64 a2, .int .i64 a3, .int .i64 a4, .int .i64 a5, .int .i64 a6])] W from h.2.2.2.2.2.2.2.2.2.2.2.2.2.2.2.2.2.2.2))
      first
        | go_region_with fail
        | fail
      all_goals (go_wp2_with fail; go_meet; case rel => exact ⟨rfl, by first | exact ⟨hT.1, trivial⟩ | exact ⟨T4.1, trivial⟩ | exact ⟨T4.drew.1, trivial⟩⟩)
    case rest =>
      obtain ⟨rfl, hT⟩ := hcut
      go_wp2_with fail
      go_ret
      exact ⟨by rw [← HE.out]; rfl, hT.1.1⟩

set_option maxHeartbeats 16000000 in
theorem alike_leaf2 (a1 a2 a3 a4 a5 a6 b1 b2 b3 b4 b5 b6 x1 x2 x3 y1 y2 y3 : Int) (p q v u b : Bool) (w : World) (_HZ : ZC w) (HB : Hid ((v && u && p && q && (x1 == y1 && x2 == y2 && x3 == y3) && (dk ⟨a1, a2, a3⟩ ⟨a4, a5, a6⟩ == dk ⟨b1, b2, b3⟩ ⟨b4, b5, b6⟩)) = b)) (HP : Hid (times ⟨a1, a2, a3⟩ ⟨b4, b5, b6⟩ = (⟨x1, x2, x3⟩, p))) (HQ : Hid (times ⟨a4, a5, a6⟩ ⟨b1, b2, b3⟩ = (⟨y1, y2, y3⟩, q))) (HV : Hid ((valid ⟨a1, a2, a3⟩ && valid ⟨a4, a5, a6⟩) = v)) (HU : Hid ((valid ⟨b1, b2, b3⟩ && valid ⟨b4, b5, b6⟩) = u)) (h0 : (v) = true) (h1 : (u) = true) (h2 : (p) = false) :
    Calls Tryd.prog 16 #[.agg #[.int .i64 a1, .int .i64 a2, .int .i64 a3, .int .i64 a4, .int .i64 a5, .int .i64 a6], .agg #[.int .i64 b1, .int .i64 b2, .int .i64 b3, .int .i64 b4, .int .i64 b5, .int .i64 b6]] w fun e w' => e = .returned (.bool b) ∧ Below w.heap.size w w' := by
  subst h0
  subst h1
  subst h2
  have HE := Lib.hid (show false = b by have h := HB.out; simpa using h)
  clear HB
  have HNP := Lib.hid (show ∀ x ∈ ([(w.heap.size + 1, [.int .i64 b1, .int .i64 b2, .int .i64 b3, .int .i64 b4, .int .i64 b5, .int .i64 b6]), (w.heap.size, [.int .i64 a1, .int .i64 a2, .int .i64 a3, .int .i64 a4, .int .i64 a5, .int .i64 a6])] : List (Nat × List Value)), x.1 ≠ w.heap.size + 1 + 1 by
    intro x hx
    simp only [List.mem_cons, List.not_mem_nil, or_false] at hx
    rcases hx with rfl | rfl <;> simp only <;> omega)
  go_enter Tryd.func16, Tryd.ntmps16
  go_wp2_with fail
  refine (jvalid_any a1 a2 a3 a4 a5 a6 true _ HV).mono ?_
  rintro e w1 ⟨rfl, hbw1⟩
  have Tw1 : TL w [(w.heap.size + 1 + 1, [.bool false]), (w.heap.size + 1, [.int .i64 b1, .int .i64 b2, .int .i64 b3, .int .i64 b4, .int .i64 b5, .int .i64 b6]), (w.heap.size, [.int .i64 a1, .int .i64 a2, .int .i64 a3, .int .i64 a4, .int .i64 a5, .int .i64 a6])] w1 := TL.below (TL.new (t := 43) (TL.new (t := 32) (TL.new (t := 32) (TL.refl w) rfl) (by simp)) (by simp)) hbw1
  clear hbw1
  have xw100 : w1.cell? ⟨w.heap.size + 1 + 1, 0, none⟩ = some (.bool false) := Tw1.2.1.2.1.1
  have xw110 : w1.cell? ⟨w.heap.size + 1, 0, none⟩ = some (.int .i64 b1) := Tw1.2.2.1.2.1.1
  have xw111 : w1.cell? ⟨w.heap.size + 1, 1, none⟩ = some (.int .i64 b2) := Tw1.2.2.1.2.2.1.1
  have xw112 : w1.cell? ⟨w.heap.size + 1, 2, none⟩ = some (.int .i64 b3) := Tw1.2.2.1.2.2.2.1.1
  have xw113 : w1.cell? ⟨w.heap.size + 1, 3, none⟩ = some (.int .i64 b4) := Tw1.2.2.1.2.2.2.2.1.1
  have xw114 : w1.cell? ⟨w.heap.size + 1, 4, none⟩ = some (.int .i64 b5) := Tw1.2.2.1.2.2.2.2.2.1.1
  have xw115 : w1.cell? ⟨w.heap.size + 1, 5, none⟩ = some (.int .i64 b6) := Tw1.2.2.1.2.2.2.2.2.2.1.1
  have xw120 : w1.cell? ⟨w.heap.size, 0, none⟩ = some (.int .i64 a1) := Tw1.2.2.2.1.2.1.1
  have xw121 : w1.cell? ⟨w.heap.size, 1, none⟩ = some (.int .i64 a2) := Tw1.2.2.2.1.2.2.1.1
  have xw122 : w1.cell? ⟨w.heap.size, 2, none⟩ = some (.int .i64 a3) := Tw1.2.2.2.1.2.2.2.1.1
  have xw123 : w1.cell? ⟨w.heap.size, 3, none⟩ = some (.int .i64 a4) := Tw1.2.2.2.1.2.2.2.2.1.1
  have xw124 : w1.cell? ⟨w.heap.size, 4, none⟩ = some (.int .i64 a5) := Tw1.2.2.2.1.2.2.2.2.2.1.1
  have xw125 : w1.cell? ⟨w.heap.size, 5, none⟩ = some (.int .i64 a6) := Tw1.2.2.2.1.2.2.2.2.2.2.1.1
  have lw10 := Tw1.2.1.1
  have lw11 := Tw1.2.2.1.1
  have lw12 := Tw1.2.2.2.1.1
  go_wp2_with fail
  refine (jvalid_any b1 b2 b3 b4 b5 b6 true _ HU).mono ?_
  rintro e w2 ⟨rfl, hbw2⟩
  have Tw2 : TL w [(w.heap.size + 1 + 1, [.bool false]), (w.heap.size + 1, [.int .i64 b1, .int .i64 b2, .int .i64 b3, .int .i64 b4, .int .i64 b5, .int .i64 b6]), (w.heap.size, [.int .i64 a1, .int .i64 a2, .int .i64 a3, .int .i64 a4, .int .i64 a5, .int .i64 a6])] w2 := TL.below (Tw1) hbw2
  clear hbw2
  have xw200 : w2.cell? ⟨w.heap.size + 1 + 1, 0, none⟩ = some (.bool false) := Tw2.2.1.2.1.1
  have xw210 : w2.cell? ⟨w.heap.size + 1, 0, none⟩ = some (.int .i64 b1) := Tw2.2.2.1.2.1.1
  have xw211 : w2.cell? ⟨w.heap.size + 1, 1, none⟩ = some (.int .i64 b2) := Tw2.2.2.1.2.2.1.1
  have xw212 : w2.cell? ⟨w.heap.size + 1, 2, none⟩ = some (.int .i64 b3) := Tw2.2.2.1.2.2.2.1.1
  have xw213 : w2.cell? ⟨w.heap.size + 1, 3, none⟩ = some (.int .i64 b4) := Tw2.2.2.1.2.2.2.2.1.1
  have xw214 : w2.cell? ⟨w.heap.size + 1, 4, none⟩ = some (.int .i64 b5) := Tw2.2.2.1.2.2.2.2.2.1.1
  have xw215 : w2.cell? ⟨w.heap.size + 1, 5, none⟩ = some (.int .i64 b6) := Tw2.2.2.1.2.2.2.2.2.2.1.1
  have xw220 : w2.cell? ⟨w.heap.size, 0, none⟩ = some (.int .i64 a1) := Tw2.2.2.2.1.2.1.1
  have xw221 : w2.cell? ⟨w.heap.size, 1, none⟩ = some (.int .i64 a2) := Tw2.2.2.2.1.2.2.1.1
  have xw222 : w2.cell? ⟨w.heap.size, 2, none⟩ = some (.int .i64 a3) := Tw2.2.2.2.1.2.2.2.1.1
  have xw223 : w2.cell? ⟨w.heap.size, 3, none⟩ = some (.int .i64 a4) := Tw2.2.2.2.1.2.2.2.2.1.1
  have xw224 : w2.cell? ⟨w.heap.size, 4, none⟩ = some (.int .i64 a5) := Tw2.2.2.2.1.2.2.2.2.2.1.1
  have xw225 : w2.cell? ⟨w.heap.size, 5, none⟩ = some (.int .i64 a6) := Tw2.2.2.2.1.2.2.2.2.2.2.1.1
  have lw20 := Tw2.2.1.1
  have lw21 := Tw2.2.2.1.1
  have lw22 := Tw2.2.2.2.1.1
  go_wp2_with fail
  have HS : SB w2 (w.heap.size + 1 + 1) false := ⟨Tw2.2.1.1, Tw2.2.1.2.1.1, Tw2.2.1.2.1.2⟩
  refine (need_any _ false true _ HS).mono ?_
  rintro e w3 ⟨rfl, hb3, hS3⟩
  have T3 : TL w [(w.heap.size + 1, [.int .i64 b1, .int .i64 b2, .int .i64 b3, .int .i64 b4, .int .i64 b5, .int .i64 b6]), (w.heap.size, [.int .i64 a1, .int .i64 a2, .int .i64 a3, .int .i64 a4, .int .i64 a5, .int .i64 a6])] w3 := TL.bex ⟨Tw2.1, Tw2.2.2⟩ hb3 (by omega) HNP.out
  clear hb3
  clear xw200 xw210 xw211 xw212 xw213 xw214 xw215 xw220 xw221 xw222 xw223 xw224 xw225 xw100 xw110 xw111 xw112 xw113 xw114 xw115 xw120 xw121 xw122 xw123 xw124 xw125
  have hk3 := hS3.1
  have z00 : w3.cell? ⟨w.heap.size + 1, 0, none⟩ = some (.int .i64 b1) := T3.2.1.2.1.1
  have z01 : w3.cell? ⟨w.heap.size + 1, 1, none⟩ = some (.int .i64 b2) := T3.2.1.2.2.1.1
  have z02 : w3.cell? ⟨w.heap.size + 1, 2, none⟩ = some (.int .i64 b3) := T3.2.1.2.2.2.1.1
  have z03 : w3.cell? ⟨w.heap.size + 1, 3, none⟩ = some (.int .i64 b4) := T3.2.1.2.2.2.2.1.1
  have z04 : w3.cell? ⟨w.heap.size + 1, 4, none⟩ = some (.int .i64 b5) := T3.2.1.2.2.2.2.2.1.1
  have z05 : w3.cell? ⟨w.heap.size + 1, 5, none⟩ = some (.int .i64 b6) := T3.2.1.2.2.2.2.2.2.1.1
  have z10 : w3.cell? ⟨w.heap.size, 0, none⟩ = some (.int .i64 a1) := T3.2.2.1.2.1.1
  have z11 : w3.cell? ⟨w.heap.size, 1, none⟩ = some (.int .i64 a2) := T3.2.2.1.2.2.1.1
  have z12 : w3.cell? ⟨w.heap.size, 2, none⟩ = some (.int .i64 a3) := T3.2.2.1.2.2.2.1.1
  have z13 : w3.cell? ⟨w.heap.size, 3, none⟩ = some (.int .i64 a4) := T3.2.2.1.2.2.2.2.1.1
  have z14 : w3.cell? ⟨w.heap.size, 4, none⟩ = some (.int .i64 a5) := T3.2.2.1.2.2.2.2.2.1.1
  have z15 : w3.cell? ⟨w.heap.size, 5, none⟩ = some (.int .i64 a6) := T3.2.2.1.2.2.2.2.2.2.1.1
  go_upto_region 2 with fail
  go_cut [6, 7] (fun s6 s7 wx => ∃ gp gq : Nat, s6 = .pointer (some ⟨gp, 0, none⟩) ∧ s7 = .pointer (some ⟨gq, 0, none⟩) ∧ gp ≠ gq ∧ (gp ≠ w.heap.size + 1 + 1 ∧ gq ≠ w.heap.size + 1 + 1) ∧ TL w [(gq, [.int .i64 y1, .int .i64 y2, .int .i64 y3]), (gp, [.int .i64 x1, .int .i64 x2, .int .i64 x3]), (w.heap.size + 1, [.int .i64 b1, .int .i64 b2, .int .i64 b3, .int .i64 b4, .int .i64 b5, .int .i64 b6]), (w.heap.size, [.int .i64 a1, .int .i64 a2, .int .i64 a3, .int .i64 a4, .int .i64 a5, .int .i64 a6])] wx ∧ SB wx (w.heap.size + 1 + 1) (((false || !true) || !false) || !q))
  case first =>
    have hT0 := T3
    have hz0 := hT0.1.2
    have e1w3 : ¬ w3.heap.size = w.heap.size + 1 + 1 := (by omega)
    have e2w3 : ¬ w3.heap.size + 1 = w.heap.size + 1 + 1 := (by omega)
    have e3w3 : ¬ w3.heap.size = w.heap.size + 1 := (by omega)
    have SL := Lib.hid (fun (W : World) (h : TL w [(w.heap.size + 1, [.int .i64 b1, .int .i64 b2, .int .i64 b3, .int .i64 b4, .int .i64 b5, .int .i64 b6]), (w.heap.size, [.int .i64 a1, .int .i64 a2, .int .i64 a3, .int .i64 a4, .int .i64 a5, .int .i64 a6])] W) => (show W.cell? ⟨w.heap.size + 1, 0, none⟩ = some (.int .i64 b1) ∧ W.cell? ⟨w.heap.size + 1, 1, none⟩ = some (.int .i64 b2) ∧ W.cell? ⟨w.heap.size + 1, 2, none⟩ = some (.int .i64 b3) ∧ W.cell? ⟨w.heap.size + 1, 3, none⟩ = some (.int .i64 b4) ∧ W.cell? ⟨w.heap.size + 1, 4, none⟩ = some (.int .i64 b5) ∧ W.cell? ⟨w.heap.size + 1, 5, none⟩ = some (.int .i64 b6) ∧ W.cell? ⟨w.heap.size, 0, none⟩ = some (.int .i64 a1) ∧ W.cell? ⟨w.heap.size, 1, none⟩ = some (.int .i64 a2) ∧ W.cell? ⟨w.heap.size, 2, none⟩ = some (.int .i64 a3) ∧ W.cell? ⟨w.heap.size, 3, none⟩ = some (.int .i64 a4) ∧ W.cell? ⟨w.heap.size, 4, none⟩ = some (.int .i64 a5) ∧ W.cell? ⟨w.heap.size, 5, none⟩ = some (.int .i64 a6) ∧ TL w [(w.heap.size + 1, [.int .i64 b1, .int .i64 b2, .int .i64 b3, .int .i64 b4, .int .i64 b5, .int .i64 b6]), (w.heap.size, [.int .i64 a1, .int .i64 a2, .int .i64 a3, .int .i64 a4, .int .i64 a5, .int .i64 a6])] W from ⟨h.2.1.2.1.1, h.2.1.2.2.1.1, h.2.1.2.2.2.1.1, h.2.1.2.2.2.2.1.1, h.2.1.2.2.2.2.2.1.1, h.2.1.2.2.2.2.2.2.1.1, h.2.2.1.2.1.1, h.2.2.1.2.2.1.1, h.2.2.1.2.2.2.1.1, h.2.2.1.2.2.2.2.1.1, h.2.2.1.2.2.2.2.2.1.1, h.2.2.1.2.2.2.2.2.2.1.1, h⟩))
    have TO := Lib.hid (fun (W : World) (h : W.cell? ⟨w.heap.size + 1, 0, none⟩ = some (.int .i64 b1) ∧ W.cell? ⟨w.heap.size + 1, 1, none⟩ = some (.int .i64 b2) ∧ W.cell? ⟨w.heap.size + 1, 2, none⟩ = some (.int .i64 b3) ∧ W.cell? ⟨w.heap.size + 1, 3, none⟩ = some (.int .i64 b4) ∧ W.cell? ⟨w.heap.size + 1, 4, none⟩ = some (.int .i64 b5) ∧ W.cell? ⟨w.heap.size + 1, 5, none⟩ = some (.int .i64 b6) ∧ W.cell? ⟨w.heap.size, 0, none⟩ = some (.int .i64 a1) ∧ W.cell? ⟨w.heap.size, 1, none⟩ = some (.int .i64 a2) ∧ W.cell? ⟨w.heap.size, 2, none⟩ = some (.int .i64 a3) ∧ W.cell? ⟨w.heap.size, 3, none⟩ = some (.int .i64 a4) ∧ W.cell? ⟨w.heap.size, 4, none⟩ = some (.int .i64 a5) ∧ W.cell? ⟨w.heap.size, 5, none⟩ = some (.int .i64 a6) ∧ TL w [(w.heap.size + 1, [.int .i64 b1, .int .i64 b2, .int .i64 b3, .int .i64 b4, .int .i64 b5, .int .i64 b6]), (w.heap.size, [.int .i64 a1, .int .i64 a2, .int .i64 a3, .int .i64 a4, .int .i64 a5, .int .i64 a6])] W) => (show TL w [(w.heap.size + 1, [.int .i64 b1, .int .i64 b2, .int .i64 b3, .int .i64 b4, .int .i64 b5, .int .i64 b6]), (w.heap.size, [.int .i64 a1, .int .i64 a2, .int .i64 a3, .int .i64 a4, .int .i64 a5, .int .i64 a6])] W from h.2.2.2.2.2.2.2.2.2.2.2.2))
    first
      | go_region_held3 (fun w' => w'.cell? ⟨w.heap.size + 1, 0, none⟩ = some (.int .i64 b1) ∧ w'.cell? ⟨w.heap.size + 1, 1, none⟩ = some (.int .i64 b2) ∧ w'.cell? ⟨w.heap.size + 1, 2, none⟩ = some (.int .i64 b3) ∧ w'.cell? ⟨w.heap.size + 1, 3, none⟩ = some (.int .i64 b4) ∧ w'.cell? ⟨w.heap.size + 1, 4, none⟩ = some (.int .i64 b5) ∧ w'.cell? ⟨w.heap.size + 1, 5, none⟩ = some (.int .i64 b6) ∧ w'.cell? ⟨w.heap.size, 0, none⟩ = some (.int .i64 a1) ∧ w'.cell? ⟨w.heap.size, 1, none⟩ = some (.int .i64 a2) ∧ w'.cell? ⟨w.heap.size, 2, none⟩ = some (.int .i64 a3) ∧ w'.cell? ⟨w.heap.size, 3, none⟩ = some (.int .i64 a4) ∧ w'.cell? ⟨w.heap.size, 4, none⟩ = some (.int .i64 a5) ∧ w'.cell? ⟨w.heap.size, 5, none⟩ = some (.int .i64 a6) ∧ TL w [(w.heap.size + 1, [.int .i64 b1, .int .i64 b2, .int .i64 b3, .int .i64 b4, .int .i64 b5, .int .i64 b6]), (w.heap.size, [.int .i64 a1, .int .i64 a2, .int .i64 a3, .int .i64 a4, .int .i64 a5, .int .i64 a6])] w')
          (with_reducible apply SL.out; repeat' first | with_reducible assumption | with_reducible apply TL.farA | with_reducible apply TL.alloc | with_reducible apply TL.drew | omega | exact TL.ne hT0 (by first | omega | (simp; done) | (simp; omega)))
          (first | (go_at_call 26; with_reducible apply Calls.mono; (focus with_reducible exact s_times_at _ a1 a2 a3 b4 b5 b6 x1 x2 x3 false _ _ HP (by repeat' first | assumption | apply SB.drewA | apply SB.alloc)); intro e w1 hQ; (try dsimp only at hQ); obtain ⟨rfl, hb, hS⟩ := hQ; have hz := hb.size; (try simp only [World.size_alloc] at hz); (try simp only [World.size_drew] at hz); (try simp only [World.size_alloc] at hz); have hT := TL.bex (TO.out _ (by assumption)) hb (by omega) HNP.out; obtain ⟨hc, hf⟩ := bexcell hb; obtain ⟨n1, n2, n3, n4⟩ := bexne hb; have n5 := bexlt hb; (try simp only [World.size_alloc] at n1 n2 n3 n4 n5 hc hf); (try simp only [World.size_drew] at n1 n2 n3 n4 n5 hc hf); (try have n6 : w3.heap.size < w1.heap.size := (by omega)); (try have n7 : w3.heap.size + 1 < w1.heap.size := (by omega)); have e1w1 : ¬ w1.heap.size = w.heap.size + 1 + 1 := (by omega); have e2w1 : ¬ w1.heap.size + 1 = w.heap.size + 1 + 1 := (by omega); have e3w1 : ¬ w1.heap.size = w.heap.size + 1 := (by omega)) | (go_at_call 26; with_reducible apply Calls.mono; (focus with_reducible exact s_times_at _ a4 a5 a6 b1 b2 b3 y1 y2 y3 q _ _ HQ (by repeat' first | assumption | apply SB.drewA | apply SB.alloc)); intro e w1 hQ; (try dsimp only at hQ); obtain ⟨rfl, hb, hS⟩ := hQ; have hz := hb.size; (try simp only [World.size_alloc] at hz); (try simp only [World.size_drew] at hz); (try simp only [World.size_alloc] at hz); have hT := TL.bex (TO.out _ (by assumption)) hb (by omega) HNP.out; obtain ⟨hc, hf⟩ := bexcell hb; obtain ⟨n1, n2, n3, n4⟩ := bexne hb; have n5 := bexlt hb; (try simp only [World.size_alloc] at n1 n2 n3 n4 n5 hc hf); (try simp only [World.size_drew] at n1 n2 n3 n4 n5 hc hf); (try have n6 : w3.heap.size < w1.heap.size := (by omega)); (try have n7 : w3.heap.size + 1 < w1.heap.size := (by omega)); have e1w1 : ¬ w1.heap.size = w.heap.size + 1 + 1 := (by omega); have e2w1 : ¬ w1.heap.size + 1 = w.heap.size + 1 + 1 := (by omega); have e3w1 : ¬ w1.heap.size = w.heap.size + 1 := (by omega)))
      | fail
    all_goals (go_wp2_with fail; go_meet; case rel => (refine ⟨_, _, rfl, rfl, ?_, ⟨?_, ?_⟩, TL.cons (TL.cons ?_ ?_ ?_) ?_ ?_, ?_⟩; (· first | omega | (simp; done) | (simp; omega)); (· first | omega | (simp; done) | (simp; omega)); (· first | omega | (simp; done) | (simp; omega)); (· repeat' first | with_reducible assumption | with_reducible apply TL.farA | with_reducible apply TL.alloc | with_reducible apply TL.drew | omega | exact TL.ne hT0 (by first | omega | (simp; done) | (simp; omega))); (· first | omega | (simp; done) | (simp; omega)); (· repeat' first | (with_reducible exact CB.new rfl) | with_reducible apply CB.set3 | (with_reducible refine CB.far3 (by first | omega | (simp; done) | (simp; omega)) ?_) | (with_reducible refine CB.alloc (by first | omega | (simp; done) | (simp; omega)) ?_) | (refine CB.bex (by assumption) (by first | omega | (simp; done) | (simp; omega)) (by first | omega | (simp; done) | (simp; omega)) ?_) | with_reducible apply CB.drewA | (exact CB.new (by simp; done))); (· first | omega | (simp; done) | (simp; omega)); (· repeat' first | (with_reducible exact CB.new rfl) | with_reducible apply CB.set3 | (with_reducible refine CB.far3 (by first | omega | (simp; done) | (simp; omega)) ?_) | (with_reducible refine CB.alloc (by first | omega | (simp; done) | (simp; omega)) ?_) | (refine CB.bex (by assumption) (by first | omega | (simp; done) | (simp; omega)) (by first | omega | (simp; done) | (simp; omega)) ?_) | with_reducible apply CB.drewA | (exact CB.new (by simp; done))); (· repeat' first | with_reducible assumption | with_reducible apply SB.far3 | with_reducible apply SB.alloc | with_reducible apply SB.drewA | omega | (simp; done) | (simp; omega))))
  case rest =>
    obtain ⟨gp, gq, rfl, rfl, hpq, hpk, hT, hS⟩ := hcut
    have hS4 : SB wc (w.heap.size + 1 + 1) true := hS.cast (by simp)
    have T4 : TL w [(w.heap.size + 1 + 1, [.bool true]), (gq, [.int .i64 y1, .int .i64 y2, .int .i64 y3]), (gp, [.int .i64 x1, .int .i64 x2, .int .i64 x3]), (w.heap.size + 1, [.int .i64 b1, .int .i64 b2, .int .i64 b3, .int .i64 b4, .int .i64 b5, .int .i64 b6]), (w.heap.size, [.int .i64 a1, .int .i64 a2, .int .i64 a3, .int .i64 a4, .int .i64 a5, .int .i64 a6])] wc := ⟨hT.1, ⟨hS4.1, ⟨hS4.2.1, hS4.2.2⟩, trivial⟩, hT.2⟩
    clear hT hS hS4
    clear z00 z01 z02 z03 z04 z05 z10 z11 z12 z13 z14 z15
    have y00 : wc.cell? ⟨w.heap.size + 1 + 1, 0, none⟩ = some (.bool true) := T4.2.1.2.1.1
    have y10 : wc.cell? ⟨gq, 0, none⟩ = some (.int .i64 y1) := T4.2.2.1.2.1.1
    have y11 : wc.cell? ⟨gq, 1, none⟩ = some (.int .i64 y2) := T4.2.2.1.2.2.1.1
    have y12 : wc.cell? ⟨gq, 2, none⟩ = some (.int .i64 y3) := T4.2.2.1.2.2.2.1.1
    have y20 : wc.cell? ⟨gp, 0, none⟩ = some (.int .i64 x1) := T4.2.2.2.1.2.1.1
    have y21 : wc.cell? ⟨gp, 1, none⟩ = some (.int .i64 x2) := T4.2.2.2.1.2.2.1.1
    have y22 : wc.cell? ⟨gp, 2, none⟩ = some (.int .i64 x3) := T4.2.2.2.1.2.2.2.1.1
    have y30 : wc.cell? ⟨w.heap.size + 1, 0, none⟩ = some (.int .i64 b1) := T4.2.2.2.2.1.2.1.1
    have y31 : wc.cell? ⟨w.heap.size + 1, 1, none⟩ = some (.int .i64 b2) := T4.2.2.2.2.1.2.2.1.1
    have y32 : wc.cell? ⟨w.heap.size + 1, 2, none⟩ = some (.int .i64 b3) := T4.2.2.2.2.1.2.2.2.1.1
    have y33 : wc.cell? ⟨w.heap.size + 1, 3, none⟩ = some (.int .i64 b4) := T4.2.2.2.2.1.2.2.2.2.1.1
    have y34 : wc.cell? ⟨w.heap.size + 1, 4, none⟩ = some (.int .i64 b5) := T4.2.2.2.2.1.2.2.2.2.2.1.1
    have y35 : wc.cell? ⟨w.heap.size + 1, 5, none⟩ = some (.int .i64 b6) := T4.2.2.2.2.1.2.2.2.2.2.2.1.1
    have y40 : wc.cell? ⟨w.heap.size, 0, none⟩ = some (.int .i64 a1) := T4.2.2.2.2.2.1.2.1.1
    have y41 : wc.cell? ⟨w.heap.size, 1, none⟩ = some (.int .i64 a2) := T4.2.2.2.2.2.1.2.2.1.1
    have y42 : wc.cell? ⟨w.heap.size, 2, none⟩ = some (.int .i64 a3) := T4.2.2.2.2.2.1.2.2.2.1.1
    have y43 : wc.cell? ⟨w.heap.size, 3, none⟩ = some (.int .i64 a4) := T4.2.2.2.2.2.1.2.2.2.2.1.1
    have y44 : wc.cell? ⟨w.heap.size, 4, none⟩ = some (.int .i64 a5) := T4.2.2.2.2.2.1.2.2.2.2.2.1.1
    have y45 : wc.cell? ⟨w.heap.size, 5, none⟩ = some (.int .i64 a6) := T4.2.2.2.2.2.1.2.2.2.2.2.2.1.1
    go_upto_region 3 with fail
    go_cut [4] (fun s4 wx => s4 = .bool false ∧ TL w [] wx)
    case first =>
      have hz0 := T4.1.2
      have SL := Lib.hid (fun (W : World) (h : TL w [(w.heap.size + 1 + 1, [.bool true]), (gq, [.int .i64 y1, .int .i64 y2, .int .i64 y3]), (gp, [.int .i64 x1, .int .i64 x2, .int .i64 x3]), (w.heap.size + 1, [.int .i64 b1, .int .i64 b2, .int .i64 b3, .int .i64 b4, .int .i64 b5, .int .i64 b6]), (w.heap.size, [.int .i64 a1, .int .i64 a2, .int .i64 a3, .int .i64 a4, .int .i64 a5, .int .i64 a6])] W) => (show W.cell? ⟨w.heap.size + 1 + 1, 0, none⟩ = some (.bool true) ∧ W.cell? ⟨gq, 0, none⟩ = some (.int .i64 y1) ∧ W.cell? ⟨gq, 1, none⟩ = some (.int .i64 y2) ∧ W.cell? ⟨gq, 2, none⟩ = some (.int .i64 y3) ∧ W.cell? ⟨gp, 0, none⟩ = some (.int .i64 x1) ∧ W.cell? ⟨gp, 1, none⟩ = some (.int .i64 x2) ∧ W.cell? ⟨gp, 2, none⟩ = some (.int .i64 x3) ∧ W.cell? ⟨w.heap.size + 1, 0, none⟩ = some (.int .i64 b1) ∧ W.cell? ⟨w.heap.size + 1, 1, none⟩ = some (.int .i64 b2) ∧ W.cell? ⟨w.heap.size + 1, 2, none⟩ = some (.int .i64 b3) ∧ W.cell? ⟨w.heap.size + 1, 3, none⟩ = some (.int .i64 b4) ∧ W.cell? ⟨w.heap.size + 1, 4, none⟩ = some (.int .i64 b5) ∧ W.cell? ⟨w.heap.size + 1, 5, none⟩ = some (.int .i64 b6) ∧ W.cell? ⟨w.heap.size, 0, none⟩ = some (.int .i64 a1) ∧ W.cell? ⟨w.heap.size, 1, none⟩ = some (.int .i64 a2) ∧ W.cell? ⟨w.heap.size, 2, none⟩ = some (.int .i64 a3) ∧ W.cell? ⟨w.heap.size, 3, none⟩ = some (.int .i64 a4) ∧ W.cell? ⟨w.heap.size, 4, none⟩ = some (.int .i64 a5) ∧ W.cell? ⟨w.heap.size, 5, none⟩ = some (.int .i64 a6) ∧ TL w [(w.heap.size + 1 + 1, [.bool true]), (gq, [.int .i64 y1, .int .i64 y2, .int .i64 y3]), (gp, [.int .i64 x1, .int .i64 x2, .int .i64 x3]), (w.heap.size + 1, [.int .i64 b1, .int .i64 b2, .int .i64 b3, .int .i64 b4, .int .i64 b5, .int .i64 b6]), (w.heap.size, [.int .i64 a1, .int .i64 a2, .int .i64 a3, .int .i64 a4, .int .i64 a5, .int .i64 a6])] W from ⟨h.2.1.2.1.1, h.2.2.1.2.1.1, h.2.2.1.2.2.1.1, h.2.2.1.2.2.2.1.1, h.2.2.2.1.2.1.1, h.2.2.2.1.2.2.1.1, h.2.2.2.1.2.2.2.1.1, h.2.2.2.2.1.2.1.1, h.2.2.2.2.1.2.2.1.1, h.2.2.2.2.1.2.2.2.1.1, h.2.2.2.2.1.2.2.2.2.1.1, h.2.2.2.2.1.2.2.2.2.2.1.1, h.2.2.2.2.1.2.2.2.2.2.2.1.1, h.2.2.2.2.2.1.2.1.1, h.2.2.2.2.2.1.2.2.1.1, h.2.2.2.2.2.1.2.2.2.1.1, h.2.2.2.2.2.1.2.2.2.2.1.1, h.2.2.2.2.2.1.2.2.2.2.2.1.1, h.2.2.2.2.2.1.2.2.2.2.2.2.1.1, h⟩))
      have TO := Lib.hid (fun (W : World) (h : W.cell? ⟨w.heap.size + 1 + 1, 0, none⟩ = some (.bool true) ∧ W.cell? ⟨gq, 0, none⟩ = some (.int .i64 y1) ∧ W.cell? ⟨gq, 1, none⟩ = some (.int .i64 y2) ∧ W.cell? ⟨gq, 2, none⟩ = some (.int .i64 y3) ∧ W.cell? ⟨gp, 0, none⟩ = some (.int .i64 x1) ∧ W.cell? ⟨gp, 1, none⟩ = some (.int .i64 x2) ∧ W.cell? ⟨gp, 2, none⟩ = some (.int .i64 x3) ∧ W.cell? ⟨w.heap.size + 1, 0, none⟩ = some (.int .i64 b1) ∧ W.cell? ⟨w.heap.size + 1, 1, none⟩ = some (.int .i64 b2) ∧ W.cell? ⟨w.heap.size + 1, 2, none⟩ = some (.int .i64 b3) ∧ W.cell? ⟨w.heap.size + 1, 3, none⟩ = some (.int .i64 b4) ∧ W.cell? ⟨w.heap.size + 1, 4, none⟩ = some (.int .i64 b5) ∧ W.cell? ⟨w.heap.size + 1, 5, none⟩ = some (.int .i64 b6) ∧ W.cell? ⟨w.heap.size, 0, none⟩ = some (.int .i64 a1) ∧ W.cell? ⟨w.heap.size, 1, none⟩ = some (.int .i64 a2) ∧ W.cell? ⟨w.heap.size, 2, none⟩ = some (.int .i64 a3) ∧ W.cell? ⟨w.heap.size, 3, none⟩ = some (.int .i64 a4) ∧ W.cell? ⟨w.heap.size, 4, none⟩ = some (.int .i64 a5) ∧ W.cell? ⟨w.heap.size, 5, none⟩ = some (.int .i64 a6) ∧ TL w [(w.heap.size + 1 + 1, [.bool true]), (gq, [.int .i64 y1, .int .i64 y2, .int .i64 y3]), (gp, [.int .i64 x1, .int .i64 x2, .int .i64 x3]), (w.heap.size + 1, [.int .i64 b1, .int .i64 b2, .int .i64 b3, .int .i64 b4, .int .i64 b5, .int .i64 b6]), (w.heap.size, [.int .i64 a1, .int .i64 a2, .int .i64 a3, .int .i64 a4, .int .i64 a5, .int .i64 a6])] W) => (show TL w [(w.heap.size + 1 + 1, [.bool true]), (gq, [.int .i64 y1, .int .i64 y2, .int .i64 y3]), (gp, [.int .i64 x1, .int .i64 x2, .int .i64 x3]), (w.heap.size + 1, [.int .i64 b1, .int .i64 b2, .int .i64 b3, .int .i64 b4, .int .i64 b5, .int .i64 b6]), (w.heap.size, [.int .i64 a1, .int .i64 a2, .int .i64 a3, .int .i64 a4, .int .i64 a5, .int .i64 a6])] W from h.2.2.2.2.2.2.2.2.2.2.2.2.2.2.2.2.2.2.2))
      first
        | go_region_with fail
        | fail
      all_goals (go_wp2_with fail; go_meet; case rel => exact ⟨rfl, by first | exact ⟨hT.1, trivial⟩ | exact ⟨T4.1, trivial⟩ | exact ⟨T4.drew.1, trivial⟩⟩)
    case rest =>
      obtain ⟨rfl, hT⟩ := hcut
      go_wp2_with fail
      go_ret
      exact ⟨by rw [← HE.out]; rfl, hT.1.1⟩

end Go.Proofs.YtlhbpjdokkelpaaDoor
