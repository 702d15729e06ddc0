/-
  THE WALK of FnJonesWide: for all bytes it returns true and turns nothing old.
-/
import Derived.Test.YtmhdklhdnmpabaaWx
import Derived.Test.YtmhdklhdnmpabaaWv
import Derived.Test.YtmhdklhdnmpabaaWl
namespace Go.Proofs.Ytmhdklhdnmpabaa
open Go.RowKit
open PL

theorem jwide_got {a b : Fr} {x1 x2 y1 y2 : Nat} (h : jwide a b = (((x1, x2), (y1, y2)), true)) : wide a = ((x1, x2), true) ∧ wide b = ((y1, y2), true) := by
  unfold jwide at h
  cases ha : (wide a).2 <;> cases hb : (wide b).2 <;> simp [ha, hb] at h
  exact ⟨Prod.ext h.1 ha, Prod.ext h.2 hb⟩

set_option maxHeartbeats 8000000 in
theorem FnJonesWide_walk (ad : Option Addr) (len cap : Nat) (w0 : World) (hB : BytesIn w0 ad len cap) :
    Calls Try.prog 6 #[.slice ad len cap] w0 fun e w' =>
      e = .returned (.bool true) ∧ Below w0.heap.size w0 w' := by
  go_enter Try.func6, Try.ntmps6
  by_cases hl : (len : Int) > 1048576
  · go_wp2_with fail
    go_ret
    exact ⟨rfl, Below.refl _ _⟩
  · go_wp2_with fail
    refine (DrawJonesWide_any ad len cap w0 hB).mono ?_
    rintro e w ⟨x1, x2, x3, x4, x5, x6, rfl, hb0⟩
    obtain ⟨⟨⟨u1, u2⟩, ⟨v1, v2⟩⟩, ok, H0⟩ : ∃ r o, jwide ⟨x1, x2, x3⟩ ⟨x4, x5, x6⟩ = (r, o) := ⟨_, _, rfl⟩
    have H := Lib.hid H0
    have HG := Lib.hid (fun h : ok = true => jwide_got (h ▸ H0))
    clear H0
    go_wp2_with fail
    refine (jwide_any _ _ _ _ _ _ u1 u2 v1 v2 ok _ H).mono ?_
    rintro e w1 ⟨rfl, hbw1⟩
    have Tw1 : TL w [(w.heap.size, [.int .i64 x1, .int .i64 x2, .int .i64 x3, .int .i64 x4, .int .i64 x5, .int .i64 x6])] w1 := TL.below (TL.new (t := 43) (TL.refl w) rfl) hbw1
    clear hbw1
    have xw100 : w1.cell? ⟨w.heap.size, 0, none⟩ = some (.int .i64 x1) := Tw1.2.1.2.1.1
    have xw101 : w1.cell? ⟨w.heap.size, 1, none⟩ = some (.int .i64 x2) := Tw1.2.1.2.2.1.1
    have xw102 : w1.cell? ⟨w.heap.size, 2, none⟩ = some (.int .i64 x3) := Tw1.2.1.2.2.2.1.1
    have xw103 : w1.cell? ⟨w.heap.size, 3, none⟩ = some (.int .i64 x4) := Tw1.2.1.2.2.2.2.1.1
    have xw104 : w1.cell? ⟨w.heap.size, 4, none⟩ = some (.int .i64 x5) := Tw1.2.1.2.2.2.2.2.1.1
    have xw105 : w1.cell? ⟨w.heap.size, 5, none⟩ = some (.int .i64 x6) := Tw1.2.1.2.2.2.2.2.2.1.1
    have lw10 := Tw1.2.1.1
    go_wp2_with fail
    refine (sjwide_any _ _ _ _ _ _ u1 u2 v1 v2 ok _ H).mono ?_
    rintro e w2 ⟨rfl, hbw2⟩
    have Tw2 : TL w [(w.heap.size, [.int .i64 x1, .int .i64 x2, .int .i64 x3, .int .i64 x4, .int .i64 x5, .int .i64 x6])] w2 := TL.below (Tw1) hbw2
    clear hbw2
    have xw200 : w2.cell? ⟨w.heap.size, 0, none⟩ = some (.int .i64 x1) := Tw2.2.1.2.1.1
    have xw201 : w2.cell? ⟨w.heap.size, 1, none⟩ = some (.int .i64 x2) := Tw2.2.1.2.2.1.1
    have xw202 : w2.cell? ⟨w.heap.size, 2, none⟩ = some (.int .i64 x3) := Tw2.2.1.2.2.2.1.1
    have xw203 : w2.cell? ⟨w.heap.size, 3, none⟩ = some (.int .i64 x4) := Tw2.2.1.2.2.2.2.1.1
    have xw204 : w2.cell? ⟨w.heap.size, 4, none⟩ = some (.int .i64 x5) := Tw2.2.1.2.2.2.2.2.1.1
    have xw205 : w2.cell? ⟨w.heap.size, 5, none⟩ = some (.int .i64 x6) := Tw2.2.1.2.2.2.2.2.2.1.1
    have lw20 := Tw2.2.1.1
    go_wp2_with fail
    refine (wideAlike_N _ _ _ _ _ rfl rfl).mono ?_
    rintro e _ ⟨rfl, rfl⟩
    go_wp2_with fail
    refine (wideAlike_N _ _ _ _ _ rfl rfl).mono ?_
    rintro e _ ⟨rfl, rfl⟩
    cases ok
    · clear HG
      go_wp2_with fail
      refine (wideAlike_N _ _ _ _ _ rfl rfl).mono ?_
      rintro e _ ⟨rfl, rfl⟩
      go_wp2_with fail
      refine (wideAlike_N _ _ _ _ _ rfl rfl).mono ?_
      rintro e _ ⟨rfl, rfl⟩
      go_wp2_with fail
      go_ret
      exact ⟨rfl, into hb0 (Tw2).1.1 hb0.size⟩
    have H1 := Lib.hid (HG.out rfl).1
    have H2 := Lib.hid (HG.out rfl).2
    clear HG
    go_wp2_with fail
    refine (wide_any _ _ _ u1 u2 true _ H1).mono ?_
    rintro e w3 ⟨rfl, hbw3⟩
    have Tw3 : TL w [(w.heap.size, [.int .i64 x1, .int .i64 x2, .int .i64 x3, .int .i64 x4, .int .i64 x5, .int .i64 x6])] w3 := TL.below (Tw2) hbw3
    clear hbw3
    have xw300 : w3.cell? ⟨w.heap.size, 0, none⟩ = some (.int .i64 x1) := Tw3.2.1.2.1.1
    have xw301 : w3.cell? ⟨w.heap.size, 1, none⟩ = some (.int .i64 x2) := Tw3.2.1.2.2.1.1
    have xw302 : w3.cell? ⟨w.heap.size, 2, none⟩ = some (.int .i64 x3) := Tw3.2.1.2.2.2.1.1
    have xw303 : w3.cell? ⟨w.heap.size, 3, none⟩ = some (.int .i64 x4) := Tw3.2.1.2.2.2.2.1.1
    have xw304 : w3.cell? ⟨w.heap.size, 4, none⟩ = some (.int .i64 x5) := Tw3.2.1.2.2.2.2.2.1.1
    have xw305 : w3.cell? ⟨w.heap.size, 5, none⟩ = some (.int .i64 x6) := Tw3.2.1.2.2.2.2.2.2.1.1
    have lw30 := Tw3.2.1.1
    go_wp2_with fail
    refine (wide_any _ _ _ v1 v2 true _ H2).mono ?_
    rintro e w4 ⟨rfl, hbw4⟩
    have Tw4 : TL w [(w.heap.size, [.int .i64 x1, .int .i64 x2, .int .i64 x3, .int .i64 x4, .int .i64 x5, .int .i64 x6])] w4 := TL.below (Tw3) hbw4
    clear hbw4
    have xw400 : w4.cell? ⟨w.heap.size, 0, none⟩ = some (.int .i64 x1) := Tw4.2.1.2.1.1
    have xw401 : w4.cell? ⟨w.heap.size, 1, none⟩ = some (.int .i64 x2) := Tw4.2.1.2.2.1.1
    have xw402 : w4.cell? ⟨w.heap.size, 2, none⟩ = some (.int .i64 x3) := Tw4.2.1.2.2.2.1.1
    have xw403 : w4.cell? ⟨w.heap.size, 3, none⟩ = some (.int .i64 x4) := Tw4.2.1.2.2.2.2.1.1
    have xw404 : w4.cell? ⟨w.heap.size, 4, none⟩ = some (.int .i64 x5) := Tw4.2.1.2.2.2.2.2.1.1
    have xw405 : w4.cell? ⟨w.heap.size, 5, none⟩ = some (.int .i64 x6) := Tw4.2.1.2.2.2.2.2.2.1.1
    have lw40 := Tw4.2.1.1
    go_wp2_with fail
    refine (wideAlike_N _ _ _ _ _ rfl rfl).mono ?_
    rintro e _ ⟨rfl, rfl⟩
    go_wp2_with fail
    refine (wideAlike_N _ _ _ _ _ rfl rfl).mono ?_
    rintro e _ ⟨rfl, rfl⟩
    go_wp2_with fail
    go_ret
    exact ⟨rfl, into hb0 (Tw4).1.1 hb0.size⟩

end Go.Proofs.Ytmhdklhdnmpabaa
