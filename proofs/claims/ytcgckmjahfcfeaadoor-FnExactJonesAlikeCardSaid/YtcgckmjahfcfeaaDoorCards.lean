/-
  DERIVED. GIVEN WITH THE SEED: THE CARDS: each row of YtcgckmjahfcfeaaDoorRows.lean that lists a variable, with what it lists TIED to the program's text (the seventh form; the later family's looks); each row that meets fmt, with fmt's text TOLD by the authors' own Lean function (tested against real Go, not proved from fmt's source: count such statements apart). THE CARD IS WHAT COUNTS. Prove the row's statement (the work); the ties are given (YtcgckmjahfcfeaaDoorTie.lean); close each card by the builder's one call (the guide's Derived/Test/ToyasCard.lean, 'card_holds'). Laid BY PROGRAM, IN A SANDBOX (cutbox-door.mjs). By AI agents, Wed Nov 11 2026. No macro, syntax, notation, axiom, sorry.
-/
import Derived.Test.YtcgckmjahfcfeaaDoorRows
import GoSem.ClaimSeven
namespace Go.Proofs.YtcgckmjahfcfeaaDoor
namespace Rows

/-- THE TIED CARD OF 'laws.FnExactJonesAlike'. -/
def fnExactJonesAlikeCard : Claim7 := { stood := { row := fnExactJonesAlikeRow, standIns := [], harness := (true, "7533462f625c7a0830e2673fc76d74783e7f865533169c81b75fd407b8b523c4"), looks := false }, kinds := [], alts := [], laidByText := true, laidKinds := [.data], laidTests := true, laidLooks := .later }
def FnExactJonesAlikeCardSaid : Prop := Claim7.holds Tryd.pinned (.plain (OpenSpec.ofChange fnExactJonesAlikeSpec)) fnExactJonesAlikeCard

/-- THE TIED CARD OF 'laws.FnExactFracOver'. -/
def fnExactFracOverCard : Claim7 := { stood := { row := fnExactFracOverRow, standIns := [], harness := (true, "7533462f625c7a0830e2673fc76d74783e7f865533169c81b75fd407b8b523c4"), looks := false }, kinds := [], alts := [], laidByText := true, laidKinds := [.data], laidTests := true, laidLooks := .later }
def FnExactFracOverCardSaid : Prop := Claim7.holds Tryd.pinned (.plain (OpenSpec.ofChange fnExactFracOverSpec)) fnExactFracOverCard

/-- THE SECOND FORM's CARD OF 'laws.FnExactJonesAlike'. -/
def fnExactJonesAlikeUptoCard : Claim7 := { stood := { row := fnExactJonesAlikeUptoRow, standIns := [], harness := (true, "7533462f625c7a0830e2673fc76d74783e7f865533169c81b75fd407b8b523c4"), looks := false }, kinds := [], alts := [], laidByText := true, laidKinds := [.data], laidTests := true, laidLooks := .later }
def FnExactJonesAlikeUptoCardSaid : Prop := Claim7.holds Tryd.pinned (.plain (OpenSpec.upto fnExactJonesAlikeSpec)) fnExactJonesAlikeUptoCard

/-- THE SECOND FORM's CARD OF 'laws.FnExactFracOver'. -/
def fnExactFracOverUptoCard : Claim7 := { stood := { row := fnExactFracOverUptoRow, standIns := [], harness := (true, "7533462f625c7a0830e2673fc76d74783e7f865533169c81b75fd407b8b523c4"), looks := false }, kinds := [], alts := [], laidByText := true, laidKinds := [.data], laidTests := true, laidLooks := .later }
def FnExactFracOverUptoCardSaid : Prop := Claim7.holds Tryd.pinned (.plain (OpenSpec.upto fnExactFracOverSpec)) fnExactFracOverUptoCard
end Rows
end Go.Proofs.YtcgckmjahfcfeaaDoor
