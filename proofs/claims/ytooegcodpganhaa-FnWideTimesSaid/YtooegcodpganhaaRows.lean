/-
  No cell of these rows narrows 'for every input' (looked for: loops, veiled, ifaces, maps, wideKeys, modest, calm, conditions, laid).
  DERIVED. THE GIVEN ROWS OF THIS SEAT. 3 by the template 'for every input the law returns true; each argument reads behind the call as it read before'; 0 by the template 'total and deterministic' (their statements: YtooegcodpganhaaTotals.lean).
  GIVEN WITH THE SEED: the statements are not yours to turn. If you find one false, say at which input.
  Laid BY PROGRAM, IN A SANDBOX (cutbox-rows.mjs): the forced cells as the released guide's own fill.sh prints them over the translation e9550bf5ffe21ffb… (all of the seat's roots in one cut). By AI agents, Wed Nov 11 2026. No macro, syntax, notation, axiom, sorry.
-/
import Derived.Test.YtooegcodpganhaaChecked
import GoSem.Claim
import GoSem.ClaimJoined
import GoSem.ClaimMapViews
import Derived.JoinedTies
import Derived.KernelRfl
namespace Go.Proofs.Ytooegcodpganhaa
/- THE CELL 'sum', in the pinned program and in every row, IS THE sha256 OF THE DUMP (.gsa) THAT YtooegcodpganhaaProg.lean LOADS. Nothing in Lean hashes anything: it is a label: what it is worth is what the hold of that sum in a sandbox is worth. -/
noncomputable def Try.pinned : Pinned := { name := "ytooegcodpganhaa", sum := "e9550bf5ffe21ffbd680f82f291b029b875e7c1cb8e4c7421495721578ffbd79", checked := Try.checked }
namespace Rows
def none {H : Type} : Left H := { results := [], args := [] }

/-- 'laws.FnWideTimes': WHATEVER THE INPUT: true; the input reads as it did. -/
def fnWideTimesSpec : ChangeSpec := { name := "fnWideTimes", fn := fun _ => fun
  | [d] => { results := [.lit (.bool true)], args := [d] }
  | _ => none }
def fnWideTimesRow : OpenClaim := { program := "ytooegcodpganhaa", sum := "e9550bf5ffe21ffbd680f82f291b029b875e7c1cb8e4c7421495721578ffbd79", func := "loop.example/polarisedlight/laws.FnWideTimes", spec := "fnWideTimes", apart := false }
def FnWideTimesSaid : Prop := fnWideTimesRow.holds Try.pinned (OpenSpec.ofChange fnWideTimesSpec)

/-- ITS FALSE NEIGHBOUR: 'it returns false'. Refute it at one input. -/
def fnWideTimesWrong : ChangeSpec := { name := "fnWideTimes", fn := fun _ => fun
  | [d] => { results := [.lit (.bool false)], args := [d] }
  | _ => none }
def FnWideTimesWrongFalsely : Prop := fnWideTimesRow.holds Try.pinned (OpenSpec.ofChange fnWideTimesWrong)

/-- 'laws.FnSingleOver': WHATEVER THE INPUT: true; the input reads as it did. -/
def fnSingleOverSpec : ChangeSpec := { name := "fnSingleOver", fn := fun _ => fun
  | [d] => { results := [.lit (.bool true)], args := [d] }
  | _ => none }
def fnSingleOverRow : OpenClaim := { program := "ytooegcodpganhaa", sum := "e9550bf5ffe21ffbd680f82f291b029b875e7c1cb8e4c7421495721578ffbd79", func := "loop.example/polarisedlight/laws.FnSingleOver", spec := "fnSingleOver", apart := false }
def FnSingleOverSaid : Prop := fnSingleOverRow.holds Try.pinned (OpenSpec.ofChange fnSingleOverSpec)

/-- ITS FALSE NEIGHBOUR: 'it returns false'. Refute it at one input. -/
def fnSingleOverWrong : ChangeSpec := { name := "fnSingleOver", fn := fun _ => fun
  | [d] => { results := [.lit (.bool false)], args := [d] }
  | _ => none }
def FnSingleOverWrongFalsely : Prop := fnSingleOverRow.holds Try.pinned (OpenSpec.ofChange fnSingleOverWrong)

/-- 'laws.FnSingleTimes': WHATEVER THE INPUT: true; the input reads as it did. -/
def fnSingleTimesSpec : ChangeSpec := { name := "fnSingleTimes", fn := fun _ => fun
  | [d] => { results := [.lit (.bool true)], args := [d] }
  | _ => none }
def fnSingleTimesRow : OpenClaim := { program := "ytooegcodpganhaa", sum := "e9550bf5ffe21ffbd680f82f291b029b875e7c1cb8e4c7421495721578ffbd79", func := "loop.example/polarisedlight/laws.FnSingleTimes", spec := "fnSingleTimes", apart := false }
def FnSingleTimesSaid : Prop := fnSingleTimesRow.holds Try.pinned (OpenSpec.ofChange fnSingleTimesSpec)

/-- ITS FALSE NEIGHBOUR: 'it returns false'. Refute it at one input. -/
def fnSingleTimesWrong : ChangeSpec := { name := "fnSingleTimes", fn := fun _ => fun
  | [d] => { results := [.lit (.bool false)], args := [d] }
  | _ => none }
def FnSingleTimesWrongFalsely : Prop := fnSingleTimesRow.holds Try.pinned (OpenSpec.ofChange fnSingleTimesWrong)

/- THE SECOND FORM. 'bulk': how many values and letters a reading holds, each counted each time it is reached (what is shared counts as often as it is met; a slice's spare places count too). A statement '..UptoSaid' is the law's where the arguments, and the package variables that the reading takes, are together of bulk at most 1048576: NARROWER than '..Said'. Prove '..Said' where nothing that the law and all that it calls make is longer than what came in: it says more and counts as full. Else prove '..UptoSaid'. A law counts once. -/
mutual
def uptoBulk {H : Type} : DataW H → Nat
  | .lit (.string bytes) => bytes.length + 1
  | .lit _ => 1
  | .nil => 1
  | .ptr d => uptoBulk d + 1
  | .slice elems spare => uptoBulkAll elems + uptoBulkAll spare + 1
  | .agg parts => uptoBulkAll parts + 1
  | .iface _ d => uptoBulk d + 1
  | .map entries => uptoBulkEntries entries + 1
  | .held _ => 1
def uptoBulkAll {H : Type} : List (DataW H) → Nat
  | [] => 0
  | d :: r => uptoBulk d + uptoBulkAll r
def uptoBulkEntries {H : Type} : List (Lit × DataW H) → Nat
  | [] => 0
  | x :: r => uptoBulkEntry x + uptoBulkEntries r
def uptoBulkEntry {H : Type} : Lit × DataW H → Nat
  | (.string bytes, d) => bytes.length + uptoBulk d + 1
  | (_, d) => uptoBulk d + 1
 end
def uptoSmall : (H : Type) → List (DataW H) → Bool := fun _ ds => decide (uptoBulkAll ds ≤ 1048576)
def OpenSpec.upto (s : _root_.Go.ChangeSpec) : _root_.Go.OpenSpec := { _root_.Go.OpenSpec.ofChange s with cond := some uptoSmall }

/-- 'laws.FnWideTimes', WHERE WHAT IT READS IS OF BULK AT MOST 1048576: true; the input reads as it did. -/
def fnWideTimesUptoRow : OpenClaim := { program := "ytooegcodpganhaa", sum := "e9550bf5ffe21ffbd680f82f291b029b875e7c1cb8e4c7421495721578ffbd79", func := "loop.example/polarisedlight/laws.FnWideTimes", spec := "fnWideTimes", apart := false, narrowed := true }
def FnWideTimesUptoSaid : Prop := fnWideTimesUptoRow.holds Try.pinned (OpenSpec.upto fnWideTimesSpec)

/-- 'laws.FnSingleOver', WHERE WHAT IT READS IS OF BULK AT MOST 1048576: true; the input reads as it did. -/
def fnSingleOverUptoRow : OpenClaim := { program := "ytooegcodpganhaa", sum := "e9550bf5ffe21ffbd680f82f291b029b875e7c1cb8e4c7421495721578ffbd79", func := "loop.example/polarisedlight/laws.FnSingleOver", spec := "fnSingleOver", apart := false, narrowed := true }
def FnSingleOverUptoSaid : Prop := fnSingleOverUptoRow.holds Try.pinned (OpenSpec.upto fnSingleOverSpec)

/-- 'laws.FnSingleTimes', WHERE WHAT IT READS IS OF BULK AT MOST 1048576: true; the input reads as it did. -/
def fnSingleTimesUptoRow : OpenClaim := { program := "ytooegcodpganhaa", sum := "e9550bf5ffe21ffbd680f82f291b029b875e7c1cb8e4c7421495721578ffbd79", func := "loop.example/polarisedlight/laws.FnSingleTimes", spec := "fnSingleTimes", apart := false, narrowed := true }
def FnSingleTimesUptoSaid : Prop := fnSingleTimesUptoRow.holds Try.pinned (OpenSpec.upto fnSingleTimesSpec)

end Rows
end Go.Proofs.Ytooegcodpganhaa
