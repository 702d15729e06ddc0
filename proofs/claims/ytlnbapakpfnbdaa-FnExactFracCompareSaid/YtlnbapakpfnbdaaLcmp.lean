/-
  THE WALK of FnExactFracCompare: for all arguments it returns true and turns nothing old.
-/
import Derived.Test.YtlnbapakpfnbdaaWg
import Derived.Test.YtlnbapakpfnbdaaWe
import Derived.Test.YtlnbapakpfnbdaaWf
namespace Go.Proofs.Ytlnbapakpfnbdaa
open Go.RowKit
open PL

set_option maxHeartbeats 4000000 in
theorem FnExactFracCompare_walk (a1 a2 a3 b1 b2 b3 : Int) (w : World) :
    Calls Try.prog 10 #[.agg #[.int .i64 a1, .int .i64 a2, .int .i64 a3], .agg #[.int .i64 b1, .int .i64 b2, .int .i64 b3]] w fun e w' =>
      e = .returned (.bool true) ∧ Below w.heap.size w w' := by
  obtain ⟨c, b, H0⟩ : ∃ r b, PL.compare ⟨a1, a2, a3⟩ ⟨b1, b2, b3⟩ = (r, b) := ⟨_, _, rfl⟩
  have H := Lib.hid H0; clear H0
  go_enter Try.func10, Try.ntmps10
  go_upto_region 1 with fail
  go_cut [5, 6] (fun s5 s6 wx => s5 = .int .i64 c ∧ s6 = .bool b ∧ TL w [(w.heap.size + 1, [.int .i64 b1, .int .i64 b2, .int .i64 b3]), (w.heap.size, [.int .i64 a1, .int .i64 a2, .int .i64 a3])] wx)
  case first =>
    have hT0 : TL w [(w.heap.size + 1, [.int .i64 b1, .int .i64 b2, .int .i64 b3]), (w.heap.size, [.int .i64 a1, .int .i64 a2, .int .i64 a3])] _ := TL.new (t := 23) (TL.new (t := 23) (TL.refl w) rfl) (by simp)
    generalize (w.alloc (.cells #[.int .i64 a1, .int .i64 a2, .int .i64 a3] 23)).alloc (.cells #[.int .i64 b1, .int .i64 b2, .int .i64 b3] 23) = W at *
    have hz0 := hT0.1.2
    have SL := Lib.hid (fun (W : World) (h : TL w [(w.heap.size + 1, [.int .i64 b1, .int .i64 b2, .int .i64 b3]), (w.heap.size, [.int .i64 a1, .int .i64 a2, .int .i64 a3])] W) => (show W.cell? ⟨w.heap.size + 1, 0, none⟩ = some (.int .i64 b1) ∧ W.cell? ⟨w.heap.size + 1, 1, none⟩ = some (.int .i64 b2) ∧ W.cell? ⟨w.heap.size + 1, 2, none⟩ = some (.int .i64 b3) ∧ W.cell? ⟨w.heap.size, 0, none⟩ = some (.int .i64 a1) ∧ W.cell? ⟨w.heap.size, 1, none⟩ = some (.int .i64 a2) ∧ W.cell? ⟨w.heap.size, 2, none⟩ = some (.int .i64 a3) ∧ TL w [(w.heap.size + 1, [.int .i64 b1, .int .i64 b2, .int .i64 b3]), (w.heap.size, [.int .i64 a1, .int .i64 a2, .int .i64 a3])] W from ⟨h.2.1.2.1.1, h.2.1.2.2.1.1, h.2.1.2.2.2.1.1, h.2.2.1.2.1.1, h.2.2.1.2.2.1.1, h.2.2.1.2.2.2.1.1, h⟩))
    have TO := Lib.hid (fun (W : World) (h : W.cell? ⟨w.heap.size + 1, 0, none⟩ = some (.int .i64 b1) ∧ W.cell? ⟨w.heap.size + 1, 1, none⟩ = some (.int .i64 b2) ∧ W.cell? ⟨w.heap.size + 1, 2, none⟩ = some (.int .i64 b3) ∧ W.cell? ⟨w.heap.size, 0, none⟩ = some (.int .i64 a1) ∧ W.cell? ⟨w.heap.size, 1, none⟩ = some (.int .i64 a2) ∧ W.cell? ⟨w.heap.size, 2, none⟩ = some (.int .i64 a3) ∧ TL w [(w.heap.size + 1, [.int .i64 b1, .int .i64 b2, .int .i64 b3]), (w.heap.size, [.int .i64 a1, .int .i64 a2, .int .i64 a3])] W) => (show TL w [(w.heap.size + 1, [.int .i64 b1, .int .i64 b2, .int .i64 b3]), (w.heap.size, [.int .i64 a1, .int .i64 a2, .int .i64 a3])] W from h.2.2.2.2.2.2))
    go_region_held3 (fun w' => w'.cell? ⟨w.heap.size + 1, 0, none⟩ = some (.int .i64 b1) ∧ w'.cell? ⟨w.heap.size + 1, 1, none⟩ = some (.int .i64 b2) ∧ w'.cell? ⟨w.heap.size + 1, 2, none⟩ = some (.int .i64 b3) ∧ w'.cell? ⟨w.heap.size, 0, none⟩ = some (.int .i64 a1) ∧ w'.cell? ⟨w.heap.size, 1, none⟩ = some (.int .i64 a2) ∧ w'.cell? ⟨w.heap.size, 2, none⟩ = some (.int .i64 a3) ∧ TL w [(w.heap.size + 1, [.int .i64 b1, .int .i64 b2, .int .i64 b3]), (w.heap.size, [.int .i64 a1, .int .i64 a2, .int .i64 a3])] w')
      (first | with_reducible exact SL.out _ hT0.drew | with_reducible exact SL.out _ (by assumption))
      (first | (go_at_call 14; refine (toFrac_any _ _ _ _).mono ?_; rintro e w1 ⟨rfl, hb, hz⟩; (try simp only [World.size_alloc] at hz); (try simp only [World.size_drew] at hz); (try simp only [World.size_alloc] at hz); have hT := TL.below (TO.out _ (by assumption)) hb; obtain ⟨hc, hf⟩ := bcell hb) | (go_at_call 29; refine (scompare_any _ _ _ _ _ _ c b _ H).mono ?_; rintro e w1 ⟨rfl, hb⟩; have hz := hb.size; have hT := TL.below (TO.out _ (by assumption)) hb; obtain ⟨hc, hf⟩ := bcell hb))
    all_goals (go_wp2_with fail; go_meet; case rel => exact ⟨rfl, rfl, hT⟩)
  case rest =>
    obtain ⟨rfl, rfl, hT0⟩ := hcut
    go_upto_region 2 with fail
    go_cut [7, 8] (fun s7 s8 wx => s7 = .int .i64 c ∧ s8 = .bool b ∧ TL w [(w.heap.size + 1, [.int .i64 b1, .int .i64 b2, .int .i64 b3]), (w.heap.size, [.int .i64 a1, .int .i64 a2, .int .i64 a3])] wx)
    case first =>
      have hz0 := hT0.1.2
      have SL := Lib.hid (fun (W : World) (h : TL w [(w.heap.size + 1, [.int .i64 b1, .int .i64 b2, .int .i64 b3]), (w.heap.size, [.int .i64 a1, .int .i64 a2, .int .i64 a3])] W) => (show W.cell? ⟨w.heap.size + 1, 0, none⟩ = some (.int .i64 b1) ∧ W.cell? ⟨w.heap.size + 1, 1, none⟩ = some (.int .i64 b2) ∧ W.cell? ⟨w.heap.size + 1, 2, none⟩ = some (.int .i64 b3) ∧ W.cell? ⟨w.heap.size, 0, none⟩ = some (.int .i64 a1) ∧ W.cell? ⟨w.heap.size, 1, none⟩ = some (.int .i64 a2) ∧ W.cell? ⟨w.heap.size, 2, none⟩ = some (.int .i64 a3) ∧ TL w [(w.heap.size + 1, [.int .i64 b1, .int .i64 b2, .int .i64 b3]), (w.heap.size, [.int .i64 a1, .int .i64 a2, .int .i64 a3])] W from ⟨h.2.1.2.1.1, h.2.1.2.2.1.1, h.2.1.2.2.2.1.1, h.2.2.1.2.1.1, h.2.2.1.2.2.1.1, h.2.2.1.2.2.2.1.1, h⟩))
      have TO := Lib.hid (fun (W : World) (h : W.cell? ⟨w.heap.size + 1, 0, none⟩ = some (.int .i64 b1) ∧ W.cell? ⟨w.heap.size + 1, 1, none⟩ = some (.int .i64 b2) ∧ W.cell? ⟨w.heap.size + 1, 2, none⟩ = some (.int .i64 b3) ∧ W.cell? ⟨w.heap.size, 0, none⟩ = some (.int .i64 a1) ∧ W.cell? ⟨w.heap.size, 1, none⟩ = some (.int .i64 a2) ∧ W.cell? ⟨w.heap.size, 2, none⟩ = some (.int .i64 a3) ∧ TL w [(w.heap.size + 1, [.int .i64 b1, .int .i64 b2, .int .i64 b3]), (w.heap.size, [.int .i64 a1, .int .i64 a2, .int .i64 a3])] W) => (show TL w [(w.heap.size + 1, [.int .i64 b1, .int .i64 b2, .int .i64 b3]), (w.heap.size, [.int .i64 a1, .int .i64 a2, .int .i64 a3])] W from h.2.2.2.2.2.2))
      go_region_held3 (fun w' => w'.cell? ⟨w.heap.size + 1, 0, none⟩ = some (.int .i64 b1) ∧ w'.cell? ⟨w.heap.size + 1, 1, none⟩ = some (.int .i64 b2) ∧ w'.cell? ⟨w.heap.size + 1, 2, none⟩ = some (.int .i64 b3) ∧ w'.cell? ⟨w.heap.size, 0, none⟩ = some (.int .i64 a1) ∧ w'.cell? ⟨w.heap.size, 1, none⟩ = some (.int .i64 a2) ∧ w'.cell? ⟨w.heap.size, 2, none⟩ = some (.int .i64 a3) ∧ TL w [(w.heap.size + 1, [.int .i64 b1, .int .i64 b2, .int .i64 b3]), (w.heap.size, [.int .i64 a1, .int .i64 a2, .int .i64 a3])] w')
        (first | with_reducible exact SL.out _ hT0.drew | with_reducible exact SL.out _ (by assumption))
        (first | (go_at_call 14; refine (toFrac_any _ _ _ _).mono ?_; rintro e w1 ⟨rfl, hb, hz⟩; (try simp only [World.size_alloc] at hz); (try simp only [World.size_drew] at hz); (try simp only [World.size_alloc] at hz); have hT := TL.below (TO.out _ (by assumption)) hb; obtain ⟨hc, hf⟩ := bcell hb) | (go_at_call 30; refine (compare_any _ _ _ _ _ _ c b _ H).mono ?_; rintro e w1 ⟨rfl, hb⟩; have hz := hb.size; have hT := TL.below (TO.out _ (by assumption)) hb; obtain ⟨hc, hf⟩ := bcell hb))
      all_goals (go_wp2_with fail; go_meet; case rel => exact ⟨rfl, rfl, hT⟩)
    case rest =>
      obtain ⟨rfl, rfl, hT⟩ := hcut
      cases b
      all_goals
        go_wp2_with fail
        go_ret
        exact ⟨rfl, hT.1.1⟩

end Go.Proofs.Ytlnbapakpfnbdaa
