/-
  No cell of these rows narrows 'for every input' (looked for: loops, veiled, ifaces, maps, wideKeys, modest, calm, conditions, laid).
  DERIVED. THE GIVEN ROWS OF THIS SEAT. 4 by the template 'for every input the law returns true; each argument reads behind the call as it read before'; 0 by the template 'total and deterministic' (their statements: YtmhdklhdnmpabaaTotals.lean).
  GIVEN WITH THE SEED: the statements are not yours to turn. If you find one false, say at which input.
  Laid BY PROGRAM, IN A SANDBOX (cutbox-rows.mjs): the forced cells as the released guide's own fill.sh prints them over the translation d23b68a7f1c061bb… (all of the seat's roots in one cut). By AI agents, Wed Nov 11 2026. No macro, syntax, notation, axiom, sorry.
-/
import Derived.Test.YtmhdklhdnmpabaaChecked
import GoSem.Claim
import GoSem.ClaimJoined
import GoSem.ClaimMapViews
import Derived.JoinedTies
import Derived.KernelRfl
namespace Go.Proofs.Ytmhdklhdnmpabaa
/- THE CELL 'sum', in the pinned program and in every row, IS THE sha256 OF THE DUMP (.gsa) THAT YtmhdklhdnmpabaaProg.lean LOADS. Nothing in Lean hashes anything: it is a label: what it is worth is what the hold of that sum in a sandbox is worth. -/
noncomputable def Try.pinned : Pinned := { name := "ytmhdklhdnmpabaa", sum := "d23b68a7f1c061bb5b72fbabd902e3b043347d39282dfacbe47756310b123b0a", checked := Try.checked }
namespace Rows
def none {H : Type} : Left H := { results := [], args := [] }

/-- 'laws.FnCompare': WHATEVER THE INPUT: true; the input reads as it did. -/
def fnCompareSpec : ChangeSpec := { name := "fnCompare", fn := fun _ => fun
  | [d] => { results := [.lit (.bool true)], args := [d] }
  | _ => none }
def fnCompareRow : OpenClaim := { program := "ytmhdklhdnmpabaa", sum := "d23b68a7f1c061bb5b72fbabd902e3b043347d39282dfacbe47756310b123b0a", func := "loop.example/polarisedlight/laws.FnCompare", spec := "fnCompare", apart := false }
def FnCompareSaid : Prop := fnCompareRow.holds Try.pinned (OpenSpec.ofChange fnCompareSpec)

/-- ITS FALSE NEIGHBOUR: 'it returns false'. Refute it at one input. -/
def fnCompareWrong : ChangeSpec := { name := "fnCompare", fn := fun _ => fun
  | [d] => { results := [.lit (.bool false)], args := [d] }
  | _ => none }
def FnCompareWrongFalsely : Prop := fnCompareRow.holds Try.pinned (OpenSpec.ofChange fnCompareWrong)

/-- 'laws.FnWide': WHATEVER THE INPUT: true; the input reads as it did. -/
def fnWideSpec : ChangeSpec := { name := "fnWide", fn := fun _ => fun
  | [d] => { results := [.lit (.bool true)], args := [d] }
  | _ => none }
def fnWideRow : OpenClaim := { program := "ytmhdklhdnmpabaa", sum := "d23b68a7f1c061bb5b72fbabd902e3b043347d39282dfacbe47756310b123b0a", func := "loop.example/polarisedlight/laws.FnWide", spec := "fnWide", apart := false }
def FnWideSaid : Prop := fnWideRow.holds Try.pinned (OpenSpec.ofChange fnWideSpec)

/-- ITS FALSE NEIGHBOUR: 'it returns false'. Refute it at one input. -/
def fnWideWrong : ChangeSpec := { name := "fnWide", fn := fun _ => fun
  | [d] => { results := [.lit (.bool false)], args := [d] }
  | _ => none }
def FnWideWrongFalsely : Prop := fnWideRow.holds Try.pinned (OpenSpec.ofChange fnWideWrong)

/-- 'laws.FnSingle': WHATEVER THE INPUT: true; the input reads as it did. -/
def fnSingleSpec : ChangeSpec := { name := "fnSingle", fn := fun _ => fun
  | [d] => { results := [.lit (.bool true)], args := [d] }
  | _ => none }
def fnSingleRow : OpenClaim := { program := "ytmhdklhdnmpabaa", sum := "d23b68a7f1c061bb5b72fbabd902e3b043347d39282dfacbe47756310b123b0a", func := "loop.example/polarisedlight/laws.FnSingle", spec := "fnSingle", apart := false }
def FnSingleSaid : Prop := fnSingleRow.holds Try.pinned (OpenSpec.ofChange fnSingleSpec)

/-- ITS FALSE NEIGHBOUR: 'it returns false'. Refute it at one input. -/
def fnSingleWrong : ChangeSpec := { name := "fnSingle", fn := fun _ => fun
  | [d] => { results := [.lit (.bool false)], args := [d] }
  | _ => none }
def FnSingleWrongFalsely : Prop := fnSingleRow.holds Try.pinned (OpenSpec.ofChange fnSingleWrong)

/-- 'laws.FnJonesWide': WHATEVER THE INPUT: true; the input reads as it did. -/
def fnJonesWideSpec : ChangeSpec := { name := "fnJonesWide", fn := fun _ => fun
  | [d] => { results := [.lit (.bool true)], args := [d] }
  | _ => none }
def fnJonesWideRow : OpenClaim := { program := "ytmhdklhdnmpabaa", sum := "d23b68a7f1c061bb5b72fbabd902e3b043347d39282dfacbe47756310b123b0a", func := "loop.example/polarisedlight/laws.FnJonesWide", spec := "fnJonesWide", apart := false }
def FnJonesWideSaid : Prop := fnJonesWideRow.holds Try.pinned (OpenSpec.ofChange fnJonesWideSpec)

/-- ITS FALSE NEIGHBOUR: 'it returns false'. Refute it at one input. -/
def fnJonesWideWrong : ChangeSpec := { name := "fnJonesWide", fn := fun _ => fun
  | [d] => { results := [.lit (.bool false)], args := [d] }
  | _ => none }
def FnJonesWideWrongFalsely : Prop := fnJonesWideRow.holds Try.pinned (OpenSpec.ofChange fnJonesWideWrong)

/- THE SECOND FORM. 'bulk': how many values and letters a reading holds, each counted each time it is reached (what is shared counts as often as it is met; a slice's spare places count too). A statement '..UptoSaid' is the law's where the arguments, and the package variables that the reading takes, are together of bulk at most 1048576: NARROWER than '..Said'. Prove '..Said' where nothing that the law and all that it calls make is longer than what came in: it says more and counts as full. Else prove '..UptoSaid'. A law counts once. -/
mutual
def uptoBulk {H : Type} : DataW H → Nat
  | .lit (.string bytes) => bytes.length + 1
  | .lit _ => 1
  | .nil => 1
  | .ptr d => uptoBulk d + 1
  | .slice elems spare => uptoBulkAll elems + uptoBulkAll spare + 1
  | .agg parts => uptoBulkAll parts + 1
  | .iface _ d => uptoBulk d + 1
  | .map entries => uptoBulkEntries entries + 1
  | .held _ => 1
def uptoBulkAll {H : Type} : List (DataW H) → Nat
  | [] => 0
  | d :: r => uptoBulk d + uptoBulkAll r
def uptoBulkEntries {H : Type} : List (Lit × DataW H) → Nat
  | [] => 0
  | x :: r => uptoBulkEntry x + uptoBulkEntries r
def uptoBulkEntry {H : Type} : Lit × DataW H → Nat
  | (.string bytes, d) => bytes.length + uptoBulk d + 1
  | (_, d) => uptoBulk d + 1
 end
def uptoSmall : (H : Type) → List (DataW H) → Bool := fun _ ds => decide (uptoBulkAll ds ≤ 1048576)
def OpenSpec.upto (s : _root_.Go.ChangeSpec) : _root_.Go.OpenSpec := { _root_.Go.OpenSpec.ofChange s with cond := some uptoSmall }

/-- 'laws.FnCompare', WHERE WHAT IT READS IS OF BULK AT MOST 1048576: true; the input reads as it did. -/
def fnCompareUptoRow : OpenClaim := { program := "ytmhdklhdnmpabaa", sum := "d23b68a7f1c061bb5b72fbabd902e3b043347d39282dfacbe47756310b123b0a", func := "loop.example/polarisedlight/laws.FnCompare", spec := "fnCompare", apart := false, narrowed := true }
def FnCompareUptoSaid : Prop := fnCompareUptoRow.holds Try.pinned (OpenSpec.upto fnCompareSpec)

/-- 'laws.FnWide', WHERE WHAT IT READS IS OF BULK AT MOST 1048576: true; the input reads as it did. -/
def fnWideUptoRow : OpenClaim := { program := "ytmhdklhdnmpabaa", sum := "d23b68a7f1c061bb5b72fbabd902e3b043347d39282dfacbe47756310b123b0a", func := "loop.example/polarisedlight/laws.FnWide", spec := "fnWide", apart := false, narrowed := true }
def FnWideUptoSaid : Prop := fnWideUptoRow.holds Try.pinned (OpenSpec.upto fnWideSpec)

/-- 'laws.FnSingle', WHERE WHAT IT READS IS OF BULK AT MOST 1048576: true; the input reads as it did. -/
def fnSingleUptoRow : OpenClaim := { program := "ytmhdklhdnmpabaa", sum := "d23b68a7f1c061bb5b72fbabd902e3b043347d39282dfacbe47756310b123b0a", func := "loop.example/polarisedlight/laws.FnSingle", spec := "fnSingle", apart := false, narrowed := true }
def FnSingleUptoSaid : Prop := fnSingleUptoRow.holds Try.pinned (OpenSpec.upto fnSingleSpec)

/-- 'laws.FnJonesWide', WHERE WHAT IT READS IS OF BULK AT MOST 1048576: true; the input reads as it did. -/
def fnJonesWideUptoRow : OpenClaim := { program := "ytmhdklhdnmpabaa", sum := "d23b68a7f1c061bb5b72fbabd902e3b043347d39282dfacbe47756310b123b0a", func := "loop.example/polarisedlight/laws.FnJonesWide", spec := "fnJonesWide", apart := false, narrowed := true }
def FnJonesWideUptoSaid : Prop := fnJonesWideUptoRow.holds Try.pinned (OpenSpec.upto fnJonesWideSpec)

end Rows
end Go.Proofs.Ytmhdklhdnmpabaa
