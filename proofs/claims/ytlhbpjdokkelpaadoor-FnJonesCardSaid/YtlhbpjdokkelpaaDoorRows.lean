/-
  NARROWER THAN 'FOR EVERY INPUT', by the rows' own cells (each row's printed sentence says how): FnOver: laid · FnTimes: laid · FnJones: laid.
  DERIVED. THE GIVEN ROWS OF THIS SEAT. 3 by the template 'for every input the law returns true; each argument reads behind the call as it read before'; 0 by the template 'total and deterministic' (their statements: YtlhbpjdokkelpaaDoorTotals.lean).
  GIVEN WITH THE SEED: the statements are not yours to turn. If you find one false, say at which input.
  Laid BY PROGRAM, IN A SANDBOX (cutbox-rows.mjs): the forced cells as the released guide's own fill.sh prints them over the translation 0679e8f4180a1143… (all of the seat's roots in one cut). By AI agents, Wed Nov 11 2026. No macro, syntax, notation, axiom, sorry.
-/
import Derived.Test.YtlhbpjdokkelpaaDoorChecked
import GoSem.Claim
import GoSem.ClaimJoined
import GoSem.ClaimMapViews
import Derived.JoinedTies
import Derived.KernelRfl
namespace Go.Proofs.YtlhbpjdokkelpaaDoor
/- THE CELL 'sum', in the pinned program and in every row, IS THE sha256 OF THE DUMP (.gsa) THAT YtlhbpjdokkelpaaDoorProg.lean LOADS. Nothing in Lean hashes anything: it is a label: what it is worth is what the hold of that sum in a sandbox is worth. -/
noncomputable def Tryd.pinned : Pinned := { name := "ytlhbpjdokkelpaadoor", sum := "0679e8f4180a1143e47d9307e7a465970c00436b75cd41b4a34c3db12230e40e", checked := Tryd.checked }
namespace Rows
def none {H : Type} : Left H := { results := [], args := [] }

/- WHAT THE LISTED PACKAGE-LEVEL VARIABLES READ AS WHEN THE CALL BEGINS. Each datum BY PROGRAM (the guide's laid-datum.mjs) off the statement by which the dump's own 'gosem.cut.vars' lays the variable. In a bare row this is a premise. The card (YtlhbpjdokkelpaaDoorCards.lean) ties it to the program's text. -/
def laid_loop_example_polarisedlight_impl_zero {H : Type} : DataW H := .agg [.lit (.int .i64 0), .lit (.int .i64 0), .lit (.int .i64 1)]

/-- 'laws.FnOver': WHATEVER THE INPUT: true; the input reads as it did. -/
def fnOverSpec : ChangeSpec := { name := "fnOver", vars := ["loop.example/polarisedlight/impl.zero"], fn := fun _ => fun
  | [d, g1] => { results := [.lit (.bool true)], args := [d], vars := [g1] }
  | _ => none }
def fnOverRow : OpenClaim := { program := "ytlhbpjdokkelpaadoor", sum := "0679e8f4180a1143e47d9307e7a465970c00436b75cd41b4a34c3db12230e40e", func := "loop.example/polarisedlight/laws.FnOver", spec := "fnOver", named := ["loop.example/polarisedlight/impl.zero"], apart := false, laid := [("loop.example/polarisedlight/impl.zero", laid_loop_example_polarisedlight_impl_zero)] }
def FnOverSaid : Prop := fnOverRow.holds Tryd.pinned (OpenSpec.ofChange fnOverSpec)

/-- ITS FALSE NEIGHBOUR: 'it returns false'. Refute it at one input. -/
def fnOverWrong : ChangeSpec := { name := "fnOver", vars := ["loop.example/polarisedlight/impl.zero"], fn := fun _ => fun
  | [d, g1] => { results := [.lit (.bool false)], args := [d], vars := [g1] }
  | _ => none }
def FnOverWrongFalsely : Prop := fnOverRow.holds Tryd.pinned (OpenSpec.ofChange fnOverWrong)

/-- 'laws.FnTimes': WHATEVER THE INPUT: true; the input reads as it did. -/
def fnTimesSpec : ChangeSpec := { name := "fnTimes", vars := ["loop.example/polarisedlight/impl.zero"], fn := fun _ => fun
  | [d, g1] => { results := [.lit (.bool true)], args := [d], vars := [g1] }
  | _ => none }
def fnTimesRow : OpenClaim := { program := "ytlhbpjdokkelpaadoor", sum := "0679e8f4180a1143e47d9307e7a465970c00436b75cd41b4a34c3db12230e40e", func := "loop.example/polarisedlight/laws.FnTimes", spec := "fnTimes", named := ["loop.example/polarisedlight/impl.zero"], apart := false, laid := [("loop.example/polarisedlight/impl.zero", laid_loop_example_polarisedlight_impl_zero)] }
def FnTimesSaid : Prop := fnTimesRow.holds Tryd.pinned (OpenSpec.ofChange fnTimesSpec)

/-- ITS FALSE NEIGHBOUR: 'it returns false'. Refute it at one input. -/
def fnTimesWrong : ChangeSpec := { name := "fnTimes", vars := ["loop.example/polarisedlight/impl.zero"], fn := fun _ => fun
  | [d, g1] => { results := [.lit (.bool false)], args := [d], vars := [g1] }
  | _ => none }
def FnTimesWrongFalsely : Prop := fnTimesRow.holds Tryd.pinned (OpenSpec.ofChange fnTimesWrong)

/-- 'laws.FnJones': WHATEVER THE INPUT: true; the input reads as it did. -/
def fnJonesSpec : ChangeSpec := { name := "fnJones", vars := ["loop.example/polarisedlight/impl.zero"], fn := fun _ => fun
  | [d, g1] => { results := [.lit (.bool true)], args := [d], vars := [g1] }
  | _ => none }
def fnJonesRow : OpenClaim := { program := "ytlhbpjdokkelpaadoor", sum := "0679e8f4180a1143e47d9307e7a465970c00436b75cd41b4a34c3db12230e40e", func := "loop.example/polarisedlight/laws.FnJones", spec := "fnJones", named := ["loop.example/polarisedlight/impl.zero"], apart := false, laid := [("loop.example/polarisedlight/impl.zero", laid_loop_example_polarisedlight_impl_zero)] }
def FnJonesSaid : Prop := fnJonesRow.holds Tryd.pinned (OpenSpec.ofChange fnJonesSpec)

/-- ITS FALSE NEIGHBOUR: 'it returns false'. Refute it at one input. -/
def fnJonesWrong : ChangeSpec := { name := "fnJones", vars := ["loop.example/polarisedlight/impl.zero"], fn := fun _ => fun
  | [d, g1] => { results := [.lit (.bool false)], args := [d], vars := [g1] }
  | _ => none }
def FnJonesWrongFalsely : Prop := fnJonesRow.holds Tryd.pinned (OpenSpec.ofChange fnJonesWrong)

/- THE SECOND FORM. 'bulk': how many values and letters a reading holds, each counted each time it is reached (what is shared counts as often as it is met; a slice's spare places count too). A statement '..UptoSaid' is the law's where the arguments, and the package variables that the reading takes, are together of bulk at most 1048576: NARROWER than '..Said'. Prove '..Said' where nothing that the law and all that it calls make is longer than what came in: it says more and counts as full. Else prove '..UptoSaid'. A law counts once. -/
mutual
def uptoBulk {H : Type} : DataW H → Nat
  | .lit (.string bytes) => bytes.length + 1
  | .lit _ => 1
  | .nil => 1
  | .ptr d => uptoBulk d + 1
  | .slice elems spare => uptoBulkAll elems + uptoBulkAll spare + 1
  | .agg parts => uptoBulkAll parts + 1
  | .iface _ d => uptoBulk d + 1
  | .map entries => uptoBulkEntries entries + 1
  | .held _ => 1
def uptoBulkAll {H : Type} : List (DataW H) → Nat
  | [] => 0
  | d :: r => uptoBulk d + uptoBulkAll r
def uptoBulkEntries {H : Type} : List (Lit × DataW H) → Nat
  | [] => 0
  | x :: r => uptoBulkEntry x + uptoBulkEntries r
def uptoBulkEntry {H : Type} : Lit × DataW H → Nat
  | (.string bytes, d) => bytes.length + uptoBulk d + 1
  | (_, d) => uptoBulk d + 1
 end
def uptoSmall : (H : Type) → List (DataW H) → Bool := fun _ ds => decide (uptoBulkAll ds ≤ 1048576)
def OpenSpec.upto (s : _root_.Go.ChangeSpec) : _root_.Go.OpenSpec := { _root_.Go.OpenSpec.ofChange s with cond := some uptoSmall }

/-- 'laws.FnOver', WHERE WHAT IT READS IS OF BULK AT MOST 1048576: true; the input reads as it did. -/
def fnOverUptoRow : OpenClaim := { program := "ytlhbpjdokkelpaadoor", sum := "0679e8f4180a1143e47d9307e7a465970c00436b75cd41b4a34c3db12230e40e", func := "loop.example/polarisedlight/laws.FnOver", spec := "fnOver", named := ["loop.example/polarisedlight/impl.zero"], apart := false, laid := [("loop.example/polarisedlight/impl.zero", laid_loop_example_polarisedlight_impl_zero)], narrowed := true }
def FnOverUptoSaid : Prop := fnOverUptoRow.holds Tryd.pinned (OpenSpec.upto fnOverSpec)

/-- 'laws.FnTimes', WHERE WHAT IT READS IS OF BULK AT MOST 1048576: true; the input reads as it did. -/
def fnTimesUptoRow : OpenClaim := { program := "ytlhbpjdokkelpaadoor", sum := "0679e8f4180a1143e47d9307e7a465970c00436b75cd41b4a34c3db12230e40e", func := "loop.example/polarisedlight/laws.FnTimes", spec := "fnTimes", named := ["loop.example/polarisedlight/impl.zero"], apart := false, laid := [("loop.example/polarisedlight/impl.zero", laid_loop_example_polarisedlight_impl_zero)], narrowed := true }
def FnTimesUptoSaid : Prop := fnTimesUptoRow.holds Tryd.pinned (OpenSpec.upto fnTimesSpec)

/-- 'laws.FnJones', WHERE WHAT IT READS IS OF BULK AT MOST 1048576: true; the input reads as it did. -/
def fnJonesUptoRow : OpenClaim := { program := "ytlhbpjdokkelpaadoor", sum := "0679e8f4180a1143e47d9307e7a465970c00436b75cd41b4a34c3db12230e40e", func := "loop.example/polarisedlight/laws.FnJones", spec := "fnJones", named := ["loop.example/polarisedlight/impl.zero"], apart := false, laid := [("loop.example/polarisedlight/impl.zero", laid_loop_example_polarisedlight_impl_zero)], narrowed := true }
def FnJonesUptoSaid : Prop := fnJonesUptoRow.holds Tryd.pinned (OpenSpec.upto fnJonesSpec)

end Rows
end Go.Proofs.YtlhbpjdokkelpaaDoor
