/-
  THE WALK of FnExactFracOver: for all arguments it returns true and turns nothing old.
-/
import Derived.Test.YtcgckmjahfcfeaaDoorWo
import Derived.Test.YtcgckmjahfcfeaaDoorWe
import Derived.Test.YtcgckmjahfcfeaaDoorWf
namespace Go.Proofs.YtcgckmjahfcfeaaDoor
open Go.RowKit
open PL

theorem TL.far3 {w W : World} {l : List (Nat × List Value)} {g : Nat} {x y z : Value} (h : TL w l W) (hg : w.heap.size ≤ g) (hl : ∀ b ∈ l, b.1 ≠ g) :
    TL w l (((W.setCell ⟨g, 0, none⟩ x).setCell ⟨g, 1, none⟩ y).setCell ⟨g, 2, none⟩ z) := TL.set (TL.set (TL.set h hg hl) hg hl) hg hl
theorem TL.far6 {w W : World} {l : List (Nat × List Value)} {g : Nat} {x0 x1 x2 x3 x4 x5 : Value} (h : TL w l W) (hg : w.heap.size ≤ g) (hl : ∀ b ∈ l, b.1 ≠ g) :
    TL w l ((((((W.setCell ⟨g, 0, none⟩ x0).setCell ⟨g, 1, none⟩ x1).setCell ⟨g, 2, none⟩ x2).setCell ⟨g, 3, none⟩ x3).setCell ⟨g, 4, none⟩ x4).setCell ⟨g, 5, none⟩ x5) :=
  TL.set (TL.set (TL.set (TL.set (TL.set (TL.set h hg hl) hg hl) hg hl) hg hl) hg hl) hg hl

set_option maxHeartbeats 4000000 in
theorem FnExactFracOver_walk (a1 a2 a3 b1 b2 b3 : Int) (w : World) (HZ : ZC w) :
    Calls Tryd.prog 4 #[.agg #[.int .i64 a1, .int .i64 a2, .int .i64 a3], .agg #[.int .i64 b1, .int .i64 b2, .int .i64 b3]] w fun e w' =>
      e = .returned (.bool true) ∧ Below w.heap.size w w' := by
  obtain ⟨⟨p, q, d⟩, b, H0⟩ : ∃ r b, over ⟨a1, a2, a3⟩ ⟨b1, b2, b3⟩ = (r, b) := ⟨_, _, rfl⟩
  have H := Lib.hid H0; clear H0
  go_enter Tryd.func4, Tryd.ntmps4
  go_upto_region 1 with fail
  go_cut [5, 6] (fun s5 s6 wx => ∃ g1 : Nat, s5 = .pointer (some ⟨g1, 0, none⟩) ∧ s6 = .bool b ∧ TL w [(g1, [.int .i64 p, .int .i64 q, .int .i64 d]), (w.heap.size + 1, [.int .i64 b1, .int .i64 b2, .int .i64 b3]), (w.heap.size, [.int .i64 a1, .int .i64 a2, .int .i64 a3])] wx)
  case first =>
    have hT0 : TL w [(w.heap.size + 1, [.int .i64 b1, .int .i64 b2, .int .i64 b3]), (w.heap.size, [.int .i64 a1, .int .i64 a2, .int .i64 a3])] _ := TL.new (t := 23) (TL.new (t := 23) (TL.refl w) rfl) (by simp)
    generalize (w.alloc (.cells #[.int .i64 a1, .int .i64 a2, .int .i64 a3] 23)).alloc (.cells #[.int .i64 b1, .int .i64 b2, .int .i64 b3] 23) = W at *
    have hz0 := hT0.1.2
    have SL := Lib.hid (fun (W : World) (h : TL w [(w.heap.size + 1, [.int .i64 b1, .int .i64 b2, .int .i64 b3]), (w.heap.size, [.int .i64 a1, .int .i64 a2, .int .i64 a3])] W) => (show W.cell? ⟨w.heap.size + 1, 0, none⟩ = some (.int .i64 b1) ∧ W.cell? ⟨w.heap.size + 1, 1, none⟩ = some (.int .i64 b2) ∧ W.cell? ⟨w.heap.size + 1, 2, none⟩ = some (.int .i64 b3) ∧ W.cell? ⟨w.heap.size, 0, none⟩ = some (.int .i64 a1) ∧ W.cell? ⟨w.heap.size, 1, none⟩ = some (.int .i64 a2) ∧ W.cell? ⟨w.heap.size, 2, none⟩ = some (.int .i64 a3) ∧ TL w [(w.heap.size + 1, [.int .i64 b1, .int .i64 b2, .int .i64 b3]), (w.heap.size, [.int .i64 a1, .int .i64 a2, .int .i64 a3])] W from ⟨h.2.1.2.1.1, h.2.1.2.2.1.1, h.2.1.2.2.2.1.1, h.2.2.1.2.1.1, h.2.2.1.2.2.1.1, h.2.2.1.2.2.2.1.1, h⟩))
    have TO := Lib.hid (fun (W : World) (h : W.cell? ⟨w.heap.size + 1, 0, none⟩ = some (.int .i64 b1) ∧ W.cell? ⟨w.heap.size + 1, 1, none⟩ = some (.int .i64 b2) ∧ W.cell? ⟨w.heap.size + 1, 2, none⟩ = some (.int .i64 b3) ∧ W.cell? ⟨w.heap.size, 0, none⟩ = some (.int .i64 a1) ∧ W.cell? ⟨w.heap.size, 1, none⟩ = some (.int .i64 a2) ∧ W.cell? ⟨w.heap.size, 2, none⟩ = some (.int .i64 a3) ∧ TL w [(w.heap.size + 1, [.int .i64 b1, .int .i64 b2, .int .i64 b3]), (w.heap.size, [.int .i64 a1, .int .i64 a2, .int .i64 a3])] W) => (show TL w [(w.heap.size + 1, [.int .i64 b1, .int .i64 b2, .int .i64 b3]), (w.heap.size, [.int .i64 a1, .int .i64 a2, .int .i64 a3])] W from h.2.2.2.2.2.2))
    go_region_held3 (fun w' => w'.cell? ⟨w.heap.size + 1, 0, none⟩ = some (.int .i64 b1) ∧ w'.cell? ⟨w.heap.size + 1, 1, none⟩ = some (.int .i64 b2) ∧ w'.cell? ⟨w.heap.size + 1, 2, none⟩ = some (.int .i64 b3) ∧ w'.cell? ⟨w.heap.size, 0, none⟩ = some (.int .i64 a1) ∧ w'.cell? ⟨w.heap.size, 1, none⟩ = some (.int .i64 a2) ∧ w'.cell? ⟨w.heap.size, 2, none⟩ = some (.int .i64 a3) ∧ TL w [(w.heap.size + 1, [.int .i64 b1, .int .i64 b2, .int .i64 b3]), (w.heap.size, [.int .i64 a1, .int .i64 a2, .int .i64 a3])] w')
      (with_reducible apply SL.out; first | with_reducible assumption | (with_reducible apply TL.far3; (· with_reducible assumption); (· omega); (· exact TL.ne hT0 (by omega))) | (with_reducible apply TL.alloc; with_reducible assumption) | (with_reducible apply TL.drew; with_reducible assumption) | (with_reducible apply TL.drew; with_reducible apply TL.alloc; with_reducible assumption))
      (first | (go_at_call 9; refine (toFrac_any _ _ _ _).mono ?_; rintro e w1 ⟨rfl, hb, hz⟩; (try simp only [World.size_alloc] at hz); (try simp only [World.size_drew] at hz); (try simp only [World.size_alloc] at hz); have hT := TL.below (TO.out _ (by assumption)) hb; obtain ⟨hc, hf⟩ := bcell hb) | (go_at_call 8; refine (sover_any _ _ _ _ _ _ p q d b _ H).mono ?_; rintro e w1 ⟨rfl, hb⟩; have hz := hb.size; have hT := TL.below (TO.out _ (by assumption)) hb; obtain ⟨hc, hf⟩ := bcell hb))
    all_goals (go_wp2_with fail; go_meet; case rel => (refine ⟨_, rfl, rfl, ?_⟩; first | (with_reducible apply TL.new; (· exact hT); (· rfl)) | ((try simp only [World.size_alloc] at hz); (try simp only [World.size_drew] at hz); with_reducible apply TL.set3; (· exact hT); (· omega); (· exact TL.ne hT0 (by omega)); (· first | omega | (simp; done) | (simp; omega)); (· first | exact CB.below hb (by first | omega | (simp; done) | (simp; omega)) (CB.new (by omega)) | exact CB.below hb (by omega) (CB.below (by assumption) (by first | omega | (simp; done) | (simp; omega)) (CB.new (by omega))) | exact CB.below hb (by omega) (CB.below (by assumption) (by omega) (CB.below (by assumption) (by first | omega | (simp; done) | (simp; omega)) (CB.below (Below.drew (Below.refl _ _)) (by first | omega | (simp; done) | (simp; omega)) (CB.new (by omega)))))))))
  case rest =>
    obtain ⟨g1, rfl, rfl, hT0⟩ := hcut
    go_upto_region 2 with fail
    go_cut [7, 8] (fun s7 s8 wx => ∃ g2 : Nat, s7 = .pointer (some ⟨g2, 0, none⟩) ∧ s8 = .bool b ∧ TL w [(g2, [.int .i64 p, .int .i64 q, .int .i64 d]), (g1, [.int .i64 p, .int .i64 q, .int .i64 d]), (w.heap.size + 1, [.int .i64 b1, .int .i64 b2, .int .i64 b3]), (w.heap.size, [.int .i64 a1, .int .i64 a2, .int .i64 a3])] wx)
    case first =>
      have hz0 := hT0.1.2
      have SL := Lib.hid (fun (W : World) (h : TL w [(g1, [.int .i64 p, .int .i64 q, .int .i64 d]), (w.heap.size + 1, [.int .i64 b1, .int .i64 b2, .int .i64 b3]), (w.heap.size, [.int .i64 a1, .int .i64 a2, .int .i64 a3])] W) => (show W.cell? ⟨g1, 0, none⟩ = some (.int .i64 p) ∧ W.cell? ⟨g1, 1, none⟩ = some (.int .i64 q) ∧ W.cell? ⟨g1, 2, none⟩ = some (.int .i64 d) ∧ W.cell? ⟨w.heap.size + 1, 0, none⟩ = some (.int .i64 b1) ∧ W.cell? ⟨w.heap.size + 1, 1, none⟩ = some (.int .i64 b2) ∧ W.cell? ⟨w.heap.size + 1, 2, none⟩ = some (.int .i64 b3) ∧ W.cell? ⟨w.heap.size, 0, none⟩ = some (.int .i64 a1) ∧ W.cell? ⟨w.heap.size, 1, none⟩ = some (.int .i64 a2) ∧ W.cell? ⟨w.heap.size, 2, none⟩ = some (.int .i64 a3) ∧ TL w [(g1, [.int .i64 p, .int .i64 q, .int .i64 d]), (w.heap.size + 1, [.int .i64 b1, .int .i64 b2, .int .i64 b3]), (w.heap.size, [.int .i64 a1, .int .i64 a2, .int .i64 a3])] W from ⟨h.2.1.2.1.1, h.2.1.2.2.1.1, h.2.1.2.2.2.1.1, h.2.2.1.2.1.1, h.2.2.1.2.2.1.1, h.2.2.1.2.2.2.1.1, h.2.2.2.1.2.1.1, h.2.2.2.1.2.2.1.1, h.2.2.2.1.2.2.2.1.1, h⟩))
      have TO := Lib.hid (fun (W : World) (h : W.cell? ⟨g1, 0, none⟩ = some (.int .i64 p) ∧ W.cell? ⟨g1, 1, none⟩ = some (.int .i64 q) ∧ W.cell? ⟨g1, 2, none⟩ = some (.int .i64 d) ∧ W.cell? ⟨w.heap.size + 1, 0, none⟩ = some (.int .i64 b1) ∧ W.cell? ⟨w.heap.size + 1, 1, none⟩ = some (.int .i64 b2) ∧ W.cell? ⟨w.heap.size + 1, 2, none⟩ = some (.int .i64 b3) ∧ W.cell? ⟨w.heap.size, 0, none⟩ = some (.int .i64 a1) ∧ W.cell? ⟨w.heap.size, 1, none⟩ = some (.int .i64 a2) ∧ W.cell? ⟨w.heap.size, 2, none⟩ = some (.int .i64 a3) ∧ TL w [(g1, [.int .i64 p, .int .i64 q, .int .i64 d]), (w.heap.size + 1, [.int .i64 b1, .int .i64 b2, .int .i64 b3]), (w.heap.size, [.int .i64 a1, .int .i64 a2, .int .i64 a3])] W) => (show TL w [(g1, [.int .i64 p, .int .i64 q, .int .i64 d]), (w.heap.size + 1, [.int .i64 b1, .int .i64 b2, .int .i64 b3]), (w.heap.size, [.int .i64 a1, .int .i64 a2, .int .i64 a3])] W from h.2.2.2.2.2.2.2.2.2))
      go_region_held3 (fun w' => w'.cell? ⟨g1, 0, none⟩ = some (.int .i64 p) ∧ w'.cell? ⟨g1, 1, none⟩ = some (.int .i64 q) ∧ w'.cell? ⟨g1, 2, none⟩ = some (.int .i64 d) ∧ w'.cell? ⟨w.heap.size + 1, 0, none⟩ = some (.int .i64 b1) ∧ w'.cell? ⟨w.heap.size + 1, 1, none⟩ = some (.int .i64 b2) ∧ w'.cell? ⟨w.heap.size + 1, 2, none⟩ = some (.int .i64 b3) ∧ w'.cell? ⟨w.heap.size, 0, none⟩ = some (.int .i64 a1) ∧ w'.cell? ⟨w.heap.size, 1, none⟩ = some (.int .i64 a2) ∧ w'.cell? ⟨w.heap.size, 2, none⟩ = some (.int .i64 a3) ∧ TL w [(g1, [.int .i64 p, .int .i64 q, .int .i64 d]), (w.heap.size + 1, [.int .i64 b1, .int .i64 b2, .int .i64 b3]), (w.heap.size, [.int .i64 a1, .int .i64 a2, .int .i64 a3])] w')
        (with_reducible apply SL.out; first | with_reducible assumption | (with_reducible apply TL.far3; (· with_reducible assumption); (· omega); (· exact TL.ne hT0 (by omega))) | (with_reducible apply TL.alloc; with_reducible assumption) | (with_reducible apply TL.drew; with_reducible assumption) | (with_reducible apply TL.drew; with_reducible apply TL.alloc; with_reducible assumption))
        (first | (go_at_call 9; refine (toFrac_any _ _ _ _).mono ?_; rintro e w1 ⟨rfl, hb, hz⟩; (try simp only [World.size_alloc] at hz); (try simp only [World.size_drew] at hz); (try simp only [World.size_alloc] at hz); have hT := TL.below (TO.out _ (by assumption)) hb; obtain ⟨hc, hf⟩ := bcell hb) | (go_at_call 10; refine (over_any _ _ _ _ _ _ p q d b _ (ZC.below HZ (TO.out _ (by assumption)).1.1) H).mono ?_; rintro e w1 ⟨rfl, hb⟩; have hz := hb.size; have hT := TL.below (TO.out _ (by assumption)) hb; obtain ⟨hc, hf⟩ := bcell hb))
      all_goals (go_wp2_with fail; go_meet; case rel => (refine ⟨_, rfl, rfl, ?_⟩; first | (with_reducible apply TL.new; (· exact hT); (· rfl)) | ((try simp only [World.size_alloc] at hz); (try simp only [World.size_drew] at hz); with_reducible apply TL.set3; (· exact hT); (· omega); (· exact TL.ne hT0 (by omega)); (· first | omega | (simp; done) | (simp; omega)); (· first | exact CB.below hb (by first | omega | (simp; done) | (simp; omega)) (CB.new (by omega)) | exact CB.below hb (by omega) (CB.below (by assumption) (by first | omega | (simp; done) | (simp; omega)) (CB.new (by omega))) | exact CB.below hb (by omega) (CB.below (by assumption) (by omega) (CB.below (by assumption) (by first | omega | (simp; done) | (simp; omega)) (CB.below (Below.drew (Below.refl _ _)) (by first | omega | (simp; done) | (simp; omega)) (CB.new (by omega)))))))))
    case rest =>
      obtain ⟨g2, rfl, rfl, hT⟩ := hcut
      have x00 : wc.cell? ⟨g2, 0, none⟩ = some (.int .i64 p) := hT.2.1.2.1.1
      have x01 : wc.cell? ⟨g2, 1, none⟩ = some (.int .i64 q) := hT.2.1.2.2.1.1
      have x02 : wc.cell? ⟨g2, 2, none⟩ = some (.int .i64 d) := hT.2.1.2.2.2.1.1
      have x10 : wc.cell? ⟨g1, 0, none⟩ = some (.int .i64 p) := hT.2.2.1.2.1.1
      have x11 : wc.cell? ⟨g1, 1, none⟩ = some (.int .i64 q) := hT.2.2.1.2.2.1.1
      have x12 : wc.cell? ⟨g1, 2, none⟩ = some (.int .i64 d) := hT.2.2.1.2.2.2.1.1
      go_wp2_with fail
      refine (eqFrac_yes _ _ _ _).mono ?_
      rintro e w3 ⟨rfl, hb⟩
      cases b
      all_goals
        go_wp2_with fail
        go_ret
        exact ⟨rfl, into hT.1.1 hb hT.1.2⟩

end Go.Proofs.YtcgckmjahfcfeaaDoor
