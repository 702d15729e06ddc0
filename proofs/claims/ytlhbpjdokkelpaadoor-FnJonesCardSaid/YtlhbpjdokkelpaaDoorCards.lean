/-
  DERIVED. GIVEN WITH THE SEED: THE CARDS: each row of YtlhbpjdokkelpaaDoorRows.lean that lists a variable, with what it lists TIED to the program's text (the seventh form; the later family's looks); each row that meets fmt, with fmt's text TOLD by the authors' own Lean function (tested against real Go, not proved from fmt's source: count such statements apart). THE CARD IS WHAT COUNTS. Prove the row's statement (the work); the ties are given (YtlhbpjdokkelpaaDoorTie.lean); close each card by the builder's one call (the guide's Derived/Test/ToyasCard.lean, 'card_holds'). Laid BY PROGRAM, IN A SANDBOX (cutbox-door.mjs). By AI agents, Wed Nov 11 2026. No macro, syntax, notation, axiom, sorry.
-/
import Derived.Test.YtlhbpjdokkelpaaDoorRows
import GoSem.ClaimSeven
namespace Go.Proofs.YtlhbpjdokkelpaaDoor
namespace Rows

/-- THE TIED CARD OF 'laws.FnOver'. -/
def fnOverCard : Claim7 := { stood := { row := fnOverRow, standIns := [], harness := (true, "be5ca7c1546781ec1922cdd4cdbfe587fc3854935ee90c3a58b74c6f668e01a8"), looks := false }, kinds := [], alts := [], laidByText := true, laidKinds := [.data], laidTests := true, laidLooks := .later }
def FnOverCardSaid : Prop := Claim7.holds Tryd.pinned (.plain (OpenSpec.ofChange fnOverSpec)) fnOverCard

/-- THE TIED CARD OF 'laws.FnTimes'. -/
def fnTimesCard : Claim7 := { stood := { row := fnTimesRow, standIns := [], harness := (true, "be5ca7c1546781ec1922cdd4cdbfe587fc3854935ee90c3a58b74c6f668e01a8"), looks := false }, kinds := [], alts := [], laidByText := true, laidKinds := [.data], laidTests := true, laidLooks := .later }
def FnTimesCardSaid : Prop := Claim7.holds Tryd.pinned (.plain (OpenSpec.ofChange fnTimesSpec)) fnTimesCard

/-- THE TIED CARD OF 'laws.FnJones'. -/
def fnJonesCard : Claim7 := { stood := { row := fnJonesRow, standIns := [], harness := (true, "be5ca7c1546781ec1922cdd4cdbfe587fc3854935ee90c3a58b74c6f668e01a8"), looks := false }, kinds := [], alts := [], laidByText := true, laidKinds := [.data], laidTests := true, laidLooks := .later }
def FnJonesCardSaid : Prop := Claim7.holds Tryd.pinned (.plain (OpenSpec.ofChange fnJonesSpec)) fnJonesCard

/-- THE SECOND FORM's CARD OF 'laws.FnOver'. -/
def fnOverUptoCard : Claim7 := { stood := { row := fnOverUptoRow, standIns := [], harness := (true, "be5ca7c1546781ec1922cdd4cdbfe587fc3854935ee90c3a58b74c6f668e01a8"), looks := false }, kinds := [], alts := [], laidByText := true, laidKinds := [.data], laidTests := true, laidLooks := .later }
def FnOverUptoCardSaid : Prop := Claim7.holds Tryd.pinned (.plain (OpenSpec.upto fnOverSpec)) fnOverUptoCard

/-- THE SECOND FORM's CARD OF 'laws.FnTimes'. -/
def fnTimesUptoCard : Claim7 := { stood := { row := fnTimesUptoRow, standIns := [], harness := (true, "be5ca7c1546781ec1922cdd4cdbfe587fc3854935ee90c3a58b74c6f668e01a8"), looks := false }, kinds := [], alts := [], laidByText := true, laidKinds := [.data], laidTests := true, laidLooks := .later }
def FnTimesUptoCardSaid : Prop := Claim7.holds Tryd.pinned (.plain (OpenSpec.upto fnTimesSpec)) fnTimesUptoCard

/-- THE SECOND FORM's CARD OF 'laws.FnJones'. -/
def fnJonesUptoCard : Claim7 := { stood := { row := fnJonesUptoRow, standIns := [], harness := (true, "be5ca7c1546781ec1922cdd4cdbfe587fc3854935ee90c3a58b74c6f668e01a8"), looks := false }, kinds := [], alts := [], laidByText := true, laidKinds := [.data], laidTests := true, laidLooks := .later }
def FnJonesUptoCardSaid : Prop := Claim7.holds Tryd.pinned (.plain (OpenSpec.upto fnJonesSpec)) fnJonesUptoCard
end Rows
end Go.Proofs.YtlhbpjdokkelpaaDoor
