/-
  THE WALK of FnCompare: for all bytes it returns true and turns nothing old.
-/
import Derived.Test.YtmhdklhdnmpabaaWs
import Derived.Test.YtmhdklhdnmpabaaPf
namespace Go.Proofs.Ytmhdklhdnmpabaa
open Go.RowKit
open PL

set_option maxHeartbeats 8000000 in
theorem FnCompare_walk (ad : Option Addr) (len cap : Nat) (w0 : World) (hB : BytesIn w0 ad len cap) :
    Calls Try.prog 3 #[.slice ad len cap] w0 fun e w' =>
      e = .returned (.bool true) ∧ Below w0.heap.size w0 w' := by
  go_enter Try.func3, Try.ntmps3
  by_cases hl : (len : Int) > 1048576
  · go_wp2_with fail
    go_ret
    exact ⟨rfl, Below.refl _ _⟩
  · go_wp2_with fail
    refine (DrawFracCompare_any ad len cap w0 hB).mono ?_
    rintro e w ⟨x1, x2, x3, y1, y2, y3, rfl, hb0⟩
    obtain ⟨c, ok, H0⟩ : ∃ c o, PL.compare ⟨x1, x2, x3⟩ ⟨y1, y2, y3⟩ = (c, o) := ⟨_, _, rfl⟩
    have H := Lib.hid H0
    go_wp2_with fail
    refine (compare_any _ _ _ _ _ _ c ok _ H).mono ?_
    rintro e w1 ⟨rfl, hbw1⟩
    have Tw1 : TL w [(w.heap.size + 1, [.int .i64 y1, .int .i64 y2, .int .i64 y3]), (w.heap.size, [.int .i64 x1, .int .i64 x2, .int .i64 x3])] w1 := TL.below (TL.new (t := 24) (TL.new (t := 24) (TL.refl w) rfl) (by simp)) hbw1
    clear hbw1
    have xw100 : w1.cell? ⟨w.heap.size + 1, 0, none⟩ = some (.int .i64 y1) := Tw1.2.1.2.1.1
    have xw101 : w1.cell? ⟨w.heap.size + 1, 1, none⟩ = some (.int .i64 y2) := Tw1.2.1.2.2.1.1
    have xw102 : w1.cell? ⟨w.heap.size + 1, 2, none⟩ = some (.int .i64 y3) := Tw1.2.1.2.2.2.1.1
    have xw110 : w1.cell? ⟨w.heap.size, 0, none⟩ = some (.int .i64 x1) := Tw1.2.2.1.2.1.1
    have xw111 : w1.cell? ⟨w.heap.size, 1, none⟩ = some (.int .i64 x2) := Tw1.2.2.1.2.2.1.1
    have xw112 : w1.cell? ⟨w.heap.size, 2, none⟩ = some (.int .i64 x3) := Tw1.2.2.1.2.2.2.1.1
    have lw10 := Tw1.2.1.1
    have lw11 := Tw1.2.2.1.1
    go_wp2_with fail
    refine (scompare_any _ _ _ _ _ _ c ok _ H).mono ?_
    rintro e w2 ⟨rfl, hbw2⟩
    have Tw2 : TL w [(w.heap.size + 1, [.int .i64 y1, .int .i64 y2, .int .i64 y3]), (w.heap.size, [.int .i64 x1, .int .i64 x2, .int .i64 x3])] w2 := TL.below (Tw1) hbw2
    clear hbw2
    have xw200 : w2.cell? ⟨w.heap.size + 1, 0, none⟩ = some (.int .i64 y1) := Tw2.2.1.2.1.1
    have xw201 : w2.cell? ⟨w.heap.size + 1, 1, none⟩ = some (.int .i64 y2) := Tw2.2.1.2.2.1.1
    have xw202 : w2.cell? ⟨w.heap.size + 1, 2, none⟩ = some (.int .i64 y3) := Tw2.2.1.2.2.2.1.1
    have xw210 : w2.cell? ⟨w.heap.size, 0, none⟩ = some (.int .i64 x1) := Tw2.2.2.1.2.1.1
    have xw211 : w2.cell? ⟨w.heap.size, 1, none⟩ = some (.int .i64 x2) := Tw2.2.2.1.2.2.1.1
    have xw212 : w2.cell? ⟨w.heap.size, 2, none⟩ = some (.int .i64 x3) := Tw2.2.2.1.2.2.2.1.1
    have lw20 := Tw2.2.1.1
    have lw21 := Tw2.2.2.1.1
    cases ok
    · go_wp2_with fail
      go_ret
      exact ⟨rfl, into hb0 (Tw2).1.1 hb0.size⟩
    have H1 := Lib.hid (show PL.compare ⟨y1, y2, y3⟩ ⟨x1, x2, x3⟩ = (-c, true) by rw [compare_back H0, Int.zero_sub])
    have CB1 := (compare_bd H0).1
    have CB2 := (compare_bd H0).2
    obtain ⟨⟨p, q, d⟩, o, H3⟩ : ∃ r o, less ⟨x1, x2, x3⟩ ⟨y1, y2, y3⟩ = (r, o) := ⟨_, _, rfl⟩
    have H2 := Lib.hid H3
    have Z := Lib.hid (compare_zero H0)
    have SG : o = true → sign p = c := fun h => by subst h; exact compare_less H0 H3
    have SH := Lib.hid SG
    clear H0 H3 SG
    go_wp2_with fail
    refine (compare_any _ _ _ _ _ _ (-c) true _ H1).mono ?_
    rintro e w3 ⟨rfl, hbw3⟩
    have Tw3 : TL w [(w.heap.size + 1, [.int .i64 y1, .int .i64 y2, .int .i64 y3]), (w.heap.size, [.int .i64 x1, .int .i64 x2, .int .i64 x3])] w3 := TL.below (Tw2) hbw3
    clear hbw3
    have xw300 : w3.cell? ⟨w.heap.size + 1, 0, none⟩ = some (.int .i64 y1) := Tw3.2.1.2.1.1
    have xw301 : w3.cell? ⟨w.heap.size + 1, 1, none⟩ = some (.int .i64 y2) := Tw3.2.1.2.2.1.1
    have xw302 : w3.cell? ⟨w.heap.size + 1, 2, none⟩ = some (.int .i64 y3) := Tw3.2.1.2.2.2.1.1
    have xw310 : w3.cell? ⟨w.heap.size, 0, none⟩ = some (.int .i64 x1) := Tw3.2.2.1.2.1.1
    have xw311 : w3.cell? ⟨w.heap.size, 1, none⟩ = some (.int .i64 x2) := Tw3.2.2.1.2.2.1.1
    have xw312 : w3.cell? ⟨w.heap.size, 2, none⟩ = some (.int .i64 x3) := Tw3.2.2.1.2.2.2.1.1
    have lw30 := Tw3.2.1.1
    have lw31 := Tw3.2.2.1.1
    go_wp2_with fail
    refine (less_any _ _ _ _ _ _ p q d o _ H2).mono ?_
    rintro e w4 ⟨rfl, hbw4⟩
    have Tw4 : TL w [(w.heap.size + 1, [.int .i64 y1, .int .i64 y2, .int .i64 y3]), (w.heap.size, [.int .i64 x1, .int .i64 x2, .int .i64 x3])] w4 := TL.below (Tw3) hbw4
    clear hbw4
    have xw400 : w4.cell? ⟨w.heap.size + 1, 0, none⟩ = some (.int .i64 y1) := Tw4.2.1.2.1.1
    have xw401 : w4.cell? ⟨w.heap.size + 1, 1, none⟩ = some (.int .i64 y2) := Tw4.2.1.2.2.1.1
    have xw402 : w4.cell? ⟨w.heap.size + 1, 2, none⟩ = some (.int .i64 y3) := Tw4.2.1.2.2.2.1.1
    have xw410 : w4.cell? ⟨w.heap.size, 0, none⟩ = some (.int .i64 x1) := Tw4.2.2.1.2.1.1
    have xw411 : w4.cell? ⟨w.heap.size, 1, none⟩ = some (.int .i64 x2) := Tw4.2.2.1.2.2.1.1
    have xw412 : w4.cell? ⟨w.heap.size, 2, none⟩ = some (.int .i64 x3) := Tw4.2.2.1.2.2.2.1.1
    have lw40 := Tw4.2.1.1
    have lw41 := Tw4.2.2.1.1
    rcases Bool.eq_false_or_eq_true (x1 == y1) with g0 | g0
    · rcases Bool.eq_false_or_eq_true (x2 == y2) with g1 | g1
      · rcases Bool.eq_false_or_eq_true (x3 == y3) with g2 | g2
        · have gc : (c == 0) = true := by simp; exact Z.out.2 (by simp only [Fr.mk.injEq]; exact ⟨by simpa using g0, by simpa using g1, by simpa using g2⟩)
          cases o
          · go_wp2_with fail
            all_goals (first | go_quiet (fail) | skip)
            all_goals (go_wp2_with fail)
            all_goals (go_ret; exact ⟨by first | rfl | (simp; done) | (simp; omega) | (exfalso; omega) | (exfalso; revert gc; decide), by first | exact into hb0 (TL.new (t := 24) (Tw4) rfl).1.1 hb0.size | exact into hb0 (TL.drewN (TL.new (t := 24) (Tw4) rfl) _).1.1 hb0.size⟩)
          · rcases Int.lt_trichotomy p 0 with hp | hp | hp
            · have hc : c = -1 := by have h := SH.out rfl; unfold sign at h; split at h <;> (try split at h) <;> omega
              clear SH
              subst hc
              go_wp2_with fail
              all_goals (first | go_quiet (fail) | skip)
              all_goals (go_wp2_with fail)
              all_goals (go_ret; exact ⟨by first | rfl | (simp; done) | (simp; omega) | (exfalso; omega) | (exfalso; revert gc; decide), by first | exact into hb0 (TL.new (t := 24) (Tw4) rfl).1.1 hb0.size | exact into hb0 (TL.drewN (TL.new (t := 24) (Tw4) rfl) _).1.1 hb0.size⟩)
            · have hc : c = 0 := by have h := SH.out rfl; unfold sign at h; split at h <;> (try split at h) <;> omega
              clear SH
              subst hc
              go_wp2_with fail
              all_goals (first | go_quiet (fail) | skip)
              all_goals (go_wp2_with fail)
              all_goals (go_ret; exact ⟨by first | rfl | (simp; done) | (simp; omega) | (exfalso; omega) | (exfalso; revert gc; decide), by first | exact into hb0 (TL.new (t := 24) (Tw4) rfl).1.1 hb0.size | exact into hb0 (TL.drewN (TL.new (t := 24) (Tw4) rfl) _).1.1 hb0.size⟩)
            · have hc : c = 1 := by have h := SH.out rfl; unfold sign at h; split at h <;> (try split at h) <;> omega
              clear SH
              subst hc
              go_wp2_with fail
              all_goals (first | go_quiet (fail) | skip)
              all_goals (go_wp2_with fail)
              all_goals (go_ret; exact ⟨by first | rfl | (simp; done) | (simp; omega) | (exfalso; omega) | (exfalso; revert gc; decide), by first | exact into hb0 (TL.new (t := 24) (Tw4) rfl).1.1 hb0.size | exact into hb0 (TL.drewN (TL.new (t := 24) (Tw4) rfl) _).1.1 hb0.size⟩)
        · have gc : (c == 0) = false := by simp; intro h; have h := Z.out.1 h; simp only [Fr.mk.injEq] at h; simp [h] at g2
          cases o
          · go_wp2_with fail
            all_goals (first | go_quiet (fail) | skip)
            all_goals (go_wp2_with fail)
            all_goals (go_ret; exact ⟨by first | rfl | (simp; done) | (simp; omega) | (exfalso; omega) | (exfalso; revert gc; decide), by first | exact into hb0 (TL.new (t := 24) (Tw4) rfl).1.1 hb0.size | exact into hb0 (TL.drewN (TL.new (t := 24) (Tw4) rfl) _).1.1 hb0.size⟩)
          · rcases Int.lt_trichotomy p 0 with hp | hp | hp
            · have hc : c = -1 := by have h := SH.out rfl; unfold sign at h; split at h <;> (try split at h) <;> omega
              clear SH
              subst hc
              go_wp2_with fail
              all_goals (first | go_quiet (fail) | skip)
              all_goals (go_wp2_with fail)
              all_goals (go_ret; exact ⟨by first | rfl | (simp; done) | (simp; omega) | (exfalso; omega) | (exfalso; revert gc; decide), by first | exact into hb0 (TL.new (t := 24) (Tw4) rfl).1.1 hb0.size | exact into hb0 (TL.drewN (TL.new (t := 24) (Tw4) rfl) _).1.1 hb0.size⟩)
            · have hc : c = 0 := by have h := SH.out rfl; unfold sign at h; split at h <;> (try split at h) <;> omega
              clear SH
              subst hc
              go_wp2_with fail
              all_goals (first | go_quiet (fail) | skip)
              all_goals (go_wp2_with fail)
              all_goals (go_ret; exact ⟨by first | rfl | (simp; done) | (simp; omega) | (exfalso; omega) | (exfalso; revert gc; decide), by first | exact into hb0 (TL.new (t := 24) (Tw4) rfl).1.1 hb0.size | exact into hb0 (TL.drewN (TL.new (t := 24) (Tw4) rfl) _).1.1 hb0.size⟩)
            · have hc : c = 1 := by have h := SH.out rfl; unfold sign at h; split at h <;> (try split at h) <;> omega
              clear SH
              subst hc
              go_wp2_with fail
              all_goals (first | go_quiet (fail) | skip)
              all_goals (go_wp2_with fail)
              all_goals (go_ret; exact ⟨by first | rfl | (simp; done) | (simp; omega) | (exfalso; omega) | (exfalso; revert gc; decide), by first | exact into hb0 (TL.new (t := 24) (Tw4) rfl).1.1 hb0.size | exact into hb0 (TL.drewN (TL.new (t := 24) (Tw4) rfl) _).1.1 hb0.size⟩)
      · have gc : (c == 0) = false := by simp; intro h; have h := Z.out.1 h; simp only [Fr.mk.injEq] at h; simp [h] at g1
        cases o
        · go_wp2_with fail
          all_goals (first | go_quiet (fail) | skip)
          all_goals (go_wp2_with fail)
          all_goals (go_ret; exact ⟨by first | rfl | (simp; done) | (simp; omega) | (exfalso; omega) | (exfalso; revert gc; decide), by first | exact into hb0 (TL.new (t := 24) (Tw4) rfl).1.1 hb0.size | exact into hb0 (TL.drewN (TL.new (t := 24) (Tw4) rfl) _).1.1 hb0.size⟩)
        · rcases Int.lt_trichotomy p 0 with hp | hp | hp
          · have hc : c = -1 := by have h := SH.out rfl; unfold sign at h; split at h <;> (try split at h) <;> omega
            clear SH
            subst hc
            go_wp2_with fail
            all_goals (first | go_quiet (fail) | skip)
            all_goals (go_wp2_with fail)
            all_goals (go_ret; exact ⟨by first | rfl | (simp; done) | (simp; omega) | (exfalso; omega) | (exfalso; revert gc; decide), by first | exact into hb0 (TL.new (t := 24) (Tw4) rfl).1.1 hb0.size | exact into hb0 (TL.drewN (TL.new (t := 24) (Tw4) rfl) _).1.1 hb0.size⟩)
          · have hc : c = 0 := by have h := SH.out rfl; unfold sign at h; split at h <;> (try split at h) <;> omega
            clear SH
            subst hc
            go_wp2_with fail
            all_goals (first | go_quiet (fail) | skip)
            all_goals (go_wp2_with fail)
            all_goals (go_ret; exact ⟨by first | rfl | (simp; done) | (simp; omega) | (exfalso; omega) | (exfalso; revert gc; decide), by first | exact into hb0 (TL.new (t := 24) (Tw4) rfl).1.1 hb0.size | exact into hb0 (TL.drewN (TL.new (t := 24) (Tw4) rfl) _).1.1 hb0.size⟩)
          · have hc : c = 1 := by have h := SH.out rfl; unfold sign at h; split at h <;> (try split at h) <;> omega
            clear SH
            subst hc
            go_wp2_with fail
            all_goals (first | go_quiet (fail) | skip)
            all_goals (go_wp2_with fail)
            all_goals (go_ret; exact ⟨by first | rfl | (simp; done) | (simp; omega) | (exfalso; omega) | (exfalso; revert gc; decide), by first | exact into hb0 (TL.new (t := 24) (Tw4) rfl).1.1 hb0.size | exact into hb0 (TL.drewN (TL.new (t := 24) (Tw4) rfl) _).1.1 hb0.size⟩)
    · have gc : (c == 0) = false := by simp; intro h; have h := Z.out.1 h; simp only [Fr.mk.injEq] at h; simp [h] at g0
      cases o
      · go_wp2_with fail
        all_goals (first | go_quiet (fail) | skip)
        all_goals (go_wp2_with fail)
        all_goals (go_ret; exact ⟨by first | rfl | (simp; done) | (simp; omega) | (exfalso; omega) | (exfalso; revert gc; decide), by first | exact into hb0 (TL.new (t := 24) (Tw4) rfl).1.1 hb0.size | exact into hb0 (TL.drewN (TL.new (t := 24) (Tw4) rfl) _).1.1 hb0.size⟩)
      · rcases Int.lt_trichotomy p 0 with hp | hp | hp
        · have hc : c = -1 := by have h := SH.out rfl; unfold sign at h; split at h <;> (try split at h) <;> omega
          clear SH
          subst hc
          go_wp2_with fail
          all_goals (first | go_quiet (fail) | skip)
          all_goals (go_wp2_with fail)
          all_goals (go_ret; exact ⟨by first | rfl | (simp; done) | (simp; omega) | (exfalso; omega) | (exfalso; revert gc; decide), by first | exact into hb0 (TL.new (t := 24) (Tw4) rfl).1.1 hb0.size | exact into hb0 (TL.drewN (TL.new (t := 24) (Tw4) rfl) _).1.1 hb0.size⟩)
        · have hc : c = 0 := by have h := SH.out rfl; unfold sign at h; split at h <;> (try split at h) <;> omega
          clear SH
          subst hc
          go_wp2_with fail
          all_goals (first | go_quiet (fail) | skip)
          all_goals (go_wp2_with fail)
          all_goals (go_ret; exact ⟨by first | rfl | (simp; done) | (simp; omega) | (exfalso; omega) | (exfalso; revert gc; decide), by first | exact into hb0 (TL.new (t := 24) (Tw4) rfl).1.1 hb0.size | exact into hb0 (TL.drewN (TL.new (t := 24) (Tw4) rfl) _).1.1 hb0.size⟩)
        · have hc : c = 1 := by have h := SH.out rfl; unfold sign at h; split at h <;> (try split at h) <;> omega
          clear SH
          subst hc
          go_wp2_with fail
          all_goals (first | go_quiet (fail) | skip)
          all_goals (go_wp2_with fail)
          all_goals (go_ret; exact ⟨by first | rfl | (simp; done) | (simp; omega) | (exfalso; omega) | (exfalso; revert gc; decide), by first | exact into hb0 (TL.new (t := 24) (Tw4) rfl).1.1 hb0.size | exact into hb0 (TL.drewN (TL.new (t := 24) (Tw4) rfl) _).1.1 hb0.size⟩)

end Go.Proofs.Ytmhdklhdnmpabaa
