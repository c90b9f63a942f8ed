/-
  No cell of these rows narrows 'for every input' (looked for: loops, veiled, ifaces, maps, wideKeys, modest, calm, conditions, laid).
  DERIVED. THE GIVEN ROWS OF THIS SEAT. 11 by the template 'for every input the law returns true; each argument reads behind the call as it read before'; 0 by the template 'total and deterministic' (their statements: YthaimoghceamnaaTotals.lean).
  GIVEN WITH THE SEED: the statements are not yours to turn. If you find one false, say at which input.
  Laid BY PROGRAM, IN A SANDBOX (cutbox-rows.mjs): the forced cells as the released guide's own fill.sh prints them over the translation 9b43003578aa94ba… (all of the seat's roots in one cut). By AI agents, Wed Nov 11 2026. No macro, syntax, notation, axiom, sorry.
-/
import Derived.Test.YthaimoghceamnaaChecked
import GoSem.Claim
import GoSem.ClaimJoined
import GoSem.ClaimMapViews
import Derived.JoinedTies
import Derived.KernelRfl
namespace Go.Proofs.Ythaimoghceamnaa
/- THE CELL 'sum', in the pinned program and in every row, IS THE sha256 OF THE DUMP (.gsa) THAT YthaimoghceamnaaProg.lean LOADS. Nothing in Lean hashes anything: it is a label: what it is worth is what the hold of that sum in a sandbox is worth. -/
noncomputable def Try.pinned : Pinned := { name := "ythaimoghceamnaa", sum := "9b43003578aa94bad6cfb2c54bc00a87a2aac70091ed4d466b457e7892bc96ed", checked := Try.checked }
namespace Rows
def none {H : Type} : Left H := { results := [], args := [] }

/-- 'laws.FnExactTaskName': WHATEVER THE INPUT: true; the input reads as it did. -/
def fnExactTaskNameSpec : ChangeSpec := { name := "fnExactTaskName", fn := fun _ => fun
  | [d] => { results := [.lit (.bool true)], args := [d] }
  | _ => none }
def fnExactTaskNameRow : OpenClaim := { program := "ythaimoghceamnaa", sum := "9b43003578aa94bad6cfb2c54bc00a87a2aac70091ed4d466b457e7892bc96ed", func := "loop.example/g01084/laws.FnExactTaskName", spec := "fnExactTaskName", apart := false }
def FnExactTaskNameSaid : Prop := fnExactTaskNameRow.holds Try.pinned (OpenSpec.ofChange fnExactTaskNameSpec)

/-- ITS FALSE NEIGHBOUR: 'it returns false'. Refute it at one input. -/
def fnExactTaskNameWrong : ChangeSpec := { name := "fnExactTaskName", fn := fun _ => fun
  | [d] => { results := [.lit (.bool false)], args := [d] }
  | _ => none }
def FnExactTaskNameWrongFalsely : Prop := fnExactTaskNameRow.holds Try.pinned (OpenSpec.ofChange fnExactTaskNameWrong)

/-- 'laws.FnExactSetOfLabels': WHATEVER THE INPUT: true; the input reads as it did. -/
def fnExactSetOfLabelsSpec : ChangeSpec := { name := "fnExactSetOfLabels", fn := fun _ => fun
  | [d] => { results := [.lit (.bool true)], args := [d] }
  | _ => none }
def fnExactSetOfLabelsRow : OpenClaim := { program := "ythaimoghceamnaa", sum := "9b43003578aa94bad6cfb2c54bc00a87a2aac70091ed4d466b457e7892bc96ed", func := "loop.example/g01084/laws.FnExactSetOfLabels", spec := "fnExactSetOfLabels", apart := false }
def FnExactSetOfLabelsSaid : Prop := fnExactSetOfLabelsRow.holds Try.pinned (OpenSpec.ofChange fnExactSetOfLabelsSpec)

/-- ITS FALSE NEIGHBOUR: 'it returns false'. Refute it at one input. -/
def fnExactSetOfLabelsWrong : ChangeSpec := { name := "fnExactSetOfLabels", fn := fun _ => fun
  | [d] => { results := [.lit (.bool false)], args := [d] }
  | _ => none }
def FnExactSetOfLabelsWrongFalsely : Prop := fnExactSetOfLabelsRow.holds Try.pinned (OpenSpec.ofChange fnExactSetOfLabelsWrong)

/-- 'laws.FnExactLabelsOfSet': WHATEVER THE INPUT: true; the input reads as it did. -/
def fnExactLabelsOfSetSpec : ChangeSpec := { name := "fnExactLabelsOfSet", fn := fun _ => fun
  | [d] => { results := [.lit (.bool true)], args := [d] }
  | _ => none }
def fnExactLabelsOfSetRow : OpenClaim := { program := "ythaimoghceamnaa", sum := "9b43003578aa94bad6cfb2c54bc00a87a2aac70091ed4d466b457e7892bc96ed", func := "loop.example/g01084/laws.FnExactLabelsOfSet", spec := "fnExactLabelsOfSet", apart := false }
def FnExactLabelsOfSetSaid : Prop := fnExactLabelsOfSetRow.holds Try.pinned (OpenSpec.ofChange fnExactLabelsOfSetSpec)

/-- ITS FALSE NEIGHBOUR: 'it returns false'. Refute it at one input. -/
def fnExactLabelsOfSetWrong : ChangeSpec := { name := "fnExactLabelsOfSet", fn := fun _ => fun
  | [d] => { results := [.lit (.bool false)], args := [d] }
  | _ => none }
def FnExactLabelsOfSetWrongFalsely : Prop := fnExactLabelsOfSetRow.holds Try.pinned (OpenSpec.ofChange fnExactLabelsOfSetWrong)

/-- 'laws.FnExactIsProblem': WHATEVER THE INPUT: true; the input reads as it did. -/
def fnExactIsProblemSpec : ChangeSpec := { name := "fnExactIsProblem", fn := fun _ => fun
  | [d] => { results := [.lit (.bool true)], args := [d] }
  | _ => none }
def fnExactIsProblemRow : OpenClaim := { program := "ythaimoghceamnaa", sum := "9b43003578aa94bad6cfb2c54bc00a87a2aac70091ed4d466b457e7892bc96ed", func := "loop.example/g01084/laws.FnExactIsProblem", spec := "fnExactIsProblem", unfollowed := true, recurses := true, apart := false }
def FnExactIsProblemSaid : Prop := fnExactIsProblemRow.holds Try.pinned (OpenSpec.ofChange fnExactIsProblemSpec)

/-- ITS FALSE NEIGHBOUR: 'it returns false'. Refute it at one input. -/
def fnExactIsProblemWrong : ChangeSpec := { name := "fnExactIsProblem", fn := fun _ => fun
  | [d] => { results := [.lit (.bool false)], args := [d] }
  | _ => none }
def FnExactIsProblemWrongFalsely : Prop := fnExactIsProblemRow.holds Try.pinned (OpenSpec.ofChange fnExactIsProblemWrong)

/-- 'laws.FnExactIndependentSetProblem': WHATEVER THE INPUT: true; the input reads as it did. -/
def fnExactIndependentSetProblemSpec : ChangeSpec := { name := "fnExactIndependentSetProblem", fn := fun _ => fun
  | [d] => { results := [.lit (.bool true)], args := [d] }
  | _ => none }
def fnExactIndependentSetProblemRow : OpenClaim := { program := "ythaimoghceamnaa", sum := "9b43003578aa94bad6cfb2c54bc00a87a2aac70091ed4d466b457e7892bc96ed", func := "loop.example/g01084/laws.FnExactIndependentSetProblem", spec := "fnExactIndependentSetProblem", unfollowed := true, recurses := true, apart := false }
def FnExactIndependentSetProblemSaid : Prop := fnExactIndependentSetProblemRow.holds Try.pinned (OpenSpec.ofChange fnExactIndependentSetProblemSpec)

/-- ITS FALSE NEIGHBOUR: 'it returns false'. Refute it at one input. -/
def fnExactIndependentSetProblemWrong : ChangeSpec := { name := "fnExactIndependentSetProblem", fn := fun _ => fun
  | [d] => { results := [.lit (.bool false)], args := [d] }
  | _ => none }
def FnExactIndependentSetProblemWrongFalsely : Prop := fnExactIndependentSetProblemRow.holds Try.pinned (OpenSpec.ofChange fnExactIndependentSetProblemWrong)

/-- 'laws.FnExactMaximalMatchingProblem': WHATEVER THE INPUT: true; the input reads as it did. -/
def fnExactMaximalMatchingProblemSpec : ChangeSpec := { name := "fnExactMaximalMatchingProblem", fn := fun _ => fun
  | [d] => { results := [.lit (.bool true)], args := [d] }
  | _ => none }
def fnExactMaximalMatchingProblemRow : OpenClaim := { program := "ythaimoghceamnaa", sum := "9b43003578aa94bad6cfb2c54bc00a87a2aac70091ed4d466b457e7892bc96ed", func := "loop.example/g01084/laws.FnExactMaximalMatchingProblem", spec := "fnExactMaximalMatchingProblem", unfollowed := true, recurses := true, apart := false }
def FnExactMaximalMatchingProblemSaid : Prop := fnExactMaximalMatchingProblemRow.holds Try.pinned (OpenSpec.ofChange fnExactMaximalMatchingProblemSpec)

/-- ITS FALSE NEIGHBOUR: 'it returns false'. Refute it at one input. -/
def fnExactMaximalMatchingProblemWrong : ChangeSpec := { name := "fnExactMaximalMatchingProblem", fn := fun _ => fun
  | [d] => { results := [.lit (.bool false)], args := [d] }
  | _ => none }
def FnExactMaximalMatchingProblemWrongFalsely : Prop := fnExactMaximalMatchingProblemRow.holds Try.pinned (OpenSpec.ofChange fnExactMaximalMatchingProblemWrong)

/-- 'laws.FnExactPerfectMatchingProblem': WHATEVER THE INPUT: true; the input reads as it did. -/
def fnExactPerfectMatchingProblemSpec : ChangeSpec := { name := "fnExactPerfectMatchingProblem", fn := fun _ => fun
  | [d] => { results := [.lit (.bool true)], args := [d] }
  | _ => none }
def fnExactPerfectMatchingProblemRow : OpenClaim := { program := "ythaimoghceamnaa", sum := "9b43003578aa94bad6cfb2c54bc00a87a2aac70091ed4d466b457e7892bc96ed", func := "loop.example/g01084/laws.FnExactPerfectMatchingProblem", spec := "fnExactPerfectMatchingProblem", unfollowed := true, recurses := true, apart := false }
def FnExactPerfectMatchingProblemSaid : Prop := fnExactPerfectMatchingProblemRow.holds Try.pinned (OpenSpec.ofChange fnExactPerfectMatchingProblemSpec)

/-- ITS FALSE NEIGHBOUR: 'it returns false'. Refute it at one input. -/
def fnExactPerfectMatchingProblemWrong : ChangeSpec := { name := "fnExactPerfectMatchingProblem", fn := fun _ => fun
  | [d] => { results := [.lit (.bool false)], args := [d] }
  | _ => none }
def FnExactPerfectMatchingProblemWrongFalsely : Prop := fnExactPerfectMatchingProblemRow.holds Try.pinned (OpenSpec.ofChange fnExactPerfectMatchingProblemWrong)

/-- 'laws.FnExactColoringProblem': WHATEVER THE INPUT: true; the input reads as it did. -/
def fnExactColoringProblemSpec : ChangeSpec := { name := "fnExactColoringProblem", fn := fun _ => fun
  | [d1, d2] => { results := [.lit (.bool true)], args := [d1, d2] }
  | _ => none }
def fnExactColoringProblemRow : OpenClaim := { program := "ythaimoghceamnaa", sum := "9b43003578aa94bad6cfb2c54bc00a87a2aac70091ed4d466b457e7892bc96ed", func := "loop.example/g01084/laws.FnExactColoringProblem", spec := "fnExactColoringProblem", unfollowed := true, recurses := true, apart := false }
def FnExactColoringProblemSaid : Prop := fnExactColoringProblemRow.holds Try.pinned (OpenSpec.ofChange fnExactColoringProblemSpec)

/-- ITS FALSE NEIGHBOUR: 'it returns false'. Refute it at one input. -/
def fnExactColoringProblemWrong : ChangeSpec := { name := "fnExactColoringProblem", fn := fun _ => fun
  | [d1, d2] => { results := [.lit (.bool false)], args := [d1, d2] }
  | _ => none }
def FnExactColoringProblemWrongFalsely : Prop := fnExactColoringProblemRow.holds Try.pinned (OpenSpec.ofChange fnExactColoringProblemWrong)

/-- 'laws.FnExactSinklessProblem': WHATEVER THE INPUT: true; the input reads as it did. -/
def fnExactSinklessProblemSpec : ChangeSpec := { name := "fnExactSinklessProblem", fn := fun _ => fun
  | [d] => { results := [.lit (.bool true)], args := [d] }
  | _ => none }
def fnExactSinklessProblemRow : OpenClaim := { program := "ythaimoghceamnaa", sum := "9b43003578aa94bad6cfb2c54bc00a87a2aac70091ed4d466b457e7892bc96ed", func := "loop.example/g01084/laws.FnExactSinklessProblem", spec := "fnExactSinklessProblem", unfollowed := true, recurses := true, apart := false }
def FnExactSinklessProblemSaid : Prop := fnExactSinklessProblemRow.holds Try.pinned (OpenSpec.ofChange fnExactSinklessProblemSpec)

/-- ITS FALSE NEIGHBOUR: 'it returns false'. Refute it at one input. -/
def fnExactSinklessProblemWrong : ChangeSpec := { name := "fnExactSinklessProblem", fn := fun _ => fun
  | [d] => { results := [.lit (.bool false)], args := [d] }
  | _ => none }
def FnExactSinklessProblemWrongFalsely : Prop := fnExactSinklessProblemRow.holds Try.pinned (OpenSpec.ofChange fnExactSinklessProblemWrong)

/-- 'laws.FnExactUnionProblem': WHATEVER THE INPUT: true; the input reads as it did. -/
def fnExactUnionProblemSpec : ChangeSpec := { name := "fnExactUnionProblem", fn := fun _ => fun
  | [d1, d2] => { results := [.lit (.bool true)], args := [d1, d2] }
  | _ => none }
def fnExactUnionProblemRow : OpenClaim := { program := "ythaimoghceamnaa", sum := "9b43003578aa94bad6cfb2c54bc00a87a2aac70091ed4d466b457e7892bc96ed", func := "loop.example/g01084/laws.FnExactUnionProblem", spec := "fnExactUnionProblem", unfollowed := true, recurses := true, apart := false }
def FnExactUnionProblemSaid : Prop := fnExactUnionProblemRow.holds Try.pinned (OpenSpec.ofChange fnExactUnionProblemSpec)

/-- ITS FALSE NEIGHBOUR: 'it returns false'. Refute it at one input. -/
def fnExactUnionProblemWrong : ChangeSpec := { name := "fnExactUnionProblem", fn := fun _ => fun
  | [d1, d2] => { results := [.lit (.bool false)], args := [d1, d2] }
  | _ => none }
def FnExactUnionProblemWrongFalsely : Prop := fnExactUnionProblemRow.holds Try.pinned (OpenSpec.ofChange fnExactUnionProblemWrong)

/-- 'laws.FnExactUsableLabels': WHATEVER THE INPUT: true; the input reads as it did. -/
def fnExactUsableLabelsSpec : ChangeSpec := { name := "fnExactUsableLabels", fn := fun _ => fun
  | [d] => { results := [.lit (.bool true)], args := [d] }
  | _ => none }
def fnExactUsableLabelsRow : OpenClaim := { program := "ythaimoghceamnaa", sum := "9b43003578aa94bad6cfb2c54bc00a87a2aac70091ed4d466b457e7892bc96ed", func := "loop.example/g01084/laws.FnExactUsableLabels", spec := "fnExactUsableLabels", unfollowed := true, recurses := true, apart := false }
def FnExactUsableLabelsSaid : Prop := fnExactUsableLabelsRow.holds Try.pinned (OpenSpec.ofChange fnExactUsableLabelsSpec)

/-- ITS FALSE NEIGHBOUR: 'it returns false'. Refute it at one input. -/
def fnExactUsableLabelsWrong : ChangeSpec := { name := "fnExactUsableLabels", fn := fun _ => fun
  | [d] => { results := [.lit (.bool false)], args := [d] }
  | _ => none }
def FnExactUsableLabelsWrongFalsely : Prop := fnExactUsableLabelsRow.holds Try.pinned (OpenSpec.ofChange fnExactUsableLabelsWrong)

/- THE SECOND FORM. 'bulk': how many values and letters a reading holds, each counted each time it is reached (what is shared counts as often as it is met; a slice's spare places count too). A statement '..UptoSaid' is the law's where the arguments, and the package variables that the reading takes, are together of bulk at most 1048576: NARROWER than '..Said'. Prove '..Said' where nothing that the law and all that it calls make is longer than what came in: it says more and counts as full. Else prove '..UptoSaid'. A law counts once. -/
mutual
def uptoBulk {H : Type} : DataW H → Nat
  | .lit (.string bytes) => bytes.length + 1
  | .lit _ => 1
  | .nil => 1
  | .ptr d => uptoBulk d + 1
  | .slice elems spare => uptoBulkAll elems + uptoBulkAll spare + 1
  | .agg parts => uptoBulkAll parts + 1
  | .iface _ d => uptoBulk d + 1
  | .map entries => uptoBulkEntries entries + 1
  | .held _ => 1
def uptoBulkAll {H : Type} : List (DataW H) → Nat
  | [] => 0
  | d :: r => uptoBulk d + uptoBulkAll r
def uptoBulkEntries {H : Type} : List (Lit × DataW H) → Nat
  | [] => 0
  | x :: r => uptoBulkEntry x + uptoBulkEntries r
def uptoBulkEntry {H : Type} : Lit × DataW H → Nat
  | (.string bytes, d) => bytes.length + uptoBulk d + 1
  | (_, d) => uptoBulk d + 1
 end
def uptoSmall : (H : Type) → List (DataW H) → Bool := fun _ ds => decide (uptoBulkAll ds ≤ 1048576)
def OpenSpec.upto (s : _root_.Go.ChangeSpec) : _root_.Go.OpenSpec := { _root_.Go.OpenSpec.ofChange s with cond := some uptoSmall }

/-- 'laws.FnExactTaskName', WHERE WHAT IT READS IS OF BULK AT MOST 1048576: true; the input reads as it did. -/
def fnExactTaskNameUptoRow : OpenClaim := { program := "ythaimoghceamnaa", sum := "9b43003578aa94bad6cfb2c54bc00a87a2aac70091ed4d466b457e7892bc96ed", func := "loop.example/g01084/laws.FnExactTaskName", spec := "fnExactTaskName", apart := false, narrowed := true }
def FnExactTaskNameUptoSaid : Prop := fnExactTaskNameUptoRow.holds Try.pinned (OpenSpec.upto fnExactTaskNameSpec)

/-- 'laws.FnExactSetOfLabels', WHERE WHAT IT READS IS OF BULK AT MOST 1048576: true; the input reads as it did. -/
def fnExactSetOfLabelsUptoRow : OpenClaim := { program := "ythaimoghceamnaa", sum := "9b43003578aa94bad6cfb2c54bc00a87a2aac70091ed4d466b457e7892bc96ed", func := "loop.example/g01084/laws.FnExactSetOfLabels", spec := "fnExactSetOfLabels", apart := false, narrowed := true }
def FnExactSetOfLabelsUptoSaid : Prop := fnExactSetOfLabelsUptoRow.holds Try.pinned (OpenSpec.upto fnExactSetOfLabelsSpec)

/-- 'laws.FnExactLabelsOfSet', WHERE WHAT IT READS IS OF BULK AT MOST 1048576: true; the input reads as it did. -/
def fnExactLabelsOfSetUptoRow : OpenClaim := { program := "ythaimoghceamnaa", sum := "9b43003578aa94bad6cfb2c54bc00a87a2aac70091ed4d466b457e7892bc96ed", func := "loop.example/g01084/laws.FnExactLabelsOfSet", spec := "fnExactLabelsOfSet", apart := false, narrowed := true }
def FnExactLabelsOfSetUptoSaid : Prop := fnExactLabelsOfSetUptoRow.holds Try.pinned (OpenSpec.upto fnExactLabelsOfSetSpec)

/-- 'laws.FnExactIsProblem', WHERE WHAT IT READS IS OF BULK AT MOST 1048576: true; the input reads as it did. -/
def fnExactIsProblemUptoRow : OpenClaim := { program := "ythaimoghceamnaa", sum := "9b43003578aa94bad6cfb2c54bc00a87a2aac70091ed4d466b457e7892bc96ed", func := "loop.example/g01084/laws.FnExactIsProblem", spec := "fnExactIsProblem", unfollowed := true, recurses := true, apart := false, narrowed := true }
def FnExactIsProblemUptoSaid : Prop := fnExactIsProblemUptoRow.holds Try.pinned (OpenSpec.upto fnExactIsProblemSpec)

/-- 'laws.FnExactIndependentSetProblem', WHERE WHAT IT READS IS OF BULK AT MOST 1048576: true; the input reads as it did. -/
def fnExactIndependentSetProblemUptoRow : OpenClaim := { program := "ythaimoghceamnaa", sum := "9b43003578aa94bad6cfb2c54bc00a87a2aac70091ed4d466b457e7892bc96ed", func := "loop.example/g01084/laws.FnExactIndependentSetProblem", spec := "fnExactIndependentSetProblem", unfollowed := true, recurses := true, apart := false, narrowed := true }
def FnExactIndependentSetProblemUptoSaid : Prop := fnExactIndependentSetProblemUptoRow.holds Try.pinned (OpenSpec.upto fnExactIndependentSetProblemSpec)

/-- 'laws.FnExactMaximalMatchingProblem', WHERE WHAT IT READS IS OF BULK AT MOST 1048576: true; the input reads as it did. -/
def fnExactMaximalMatchingProblemUptoRow : OpenClaim := { program := "ythaimoghceamnaa", sum := "9b43003578aa94bad6cfb2c54bc00a87a2aac70091ed4d466b457e7892bc96ed", func := "loop.example/g01084/laws.FnExactMaximalMatchingProblem", spec := "fnExactMaximalMatchingProblem", unfollowed := true, recurses := true, apart := false, narrowed := true }
def FnExactMaximalMatchingProblemUptoSaid : Prop := fnExactMaximalMatchingProblemUptoRow.holds Try.pinned (OpenSpec.upto fnExactMaximalMatchingProblemSpec)

/-- 'laws.FnExactPerfectMatchingProblem', WHERE WHAT IT READS IS OF BULK AT MOST 1048576: true; the input reads as it did. -/
def fnExactPerfectMatchingProblemUptoRow : OpenClaim := { program := "ythaimoghceamnaa", sum := "9b43003578aa94bad6cfb2c54bc00a87a2aac70091ed4d466b457e7892bc96ed", func := "loop.example/g01084/laws.FnExactPerfectMatchingProblem", spec := "fnExactPerfectMatchingProblem", unfollowed := true, recurses := true, apart := false, narrowed := true }
def FnExactPerfectMatchingProblemUptoSaid : Prop := fnExactPerfectMatchingProblemUptoRow.holds Try.pinned (OpenSpec.upto fnExactPerfectMatchingProblemSpec)

/-- 'laws.FnExactColoringProblem', WHERE WHAT IT READS IS OF BULK AT MOST 1048576: true; the input reads as it did. -/
def fnExactColoringProblemUptoRow : OpenClaim := { program := "ythaimoghceamnaa", sum := "9b43003578aa94bad6cfb2c54bc00a87a2aac70091ed4d466b457e7892bc96ed", func := "loop.example/g01084/laws.FnExactColoringProblem", spec := "fnExactColoringProblem", unfollowed := true, recurses := true, apart := false, narrowed := true }
def FnExactColoringProblemUptoSaid : Prop := fnExactColoringProblemUptoRow.holds Try.pinned (OpenSpec.upto fnExactColoringProblemSpec)

/-- 'laws.FnExactSinklessProblem', WHERE WHAT IT READS IS OF BULK AT MOST 1048576: true; the input reads as it did. -/
def fnExactSinklessProblemUptoRow : OpenClaim := { program := "ythaimoghceamnaa", sum := "9b43003578aa94bad6cfb2c54bc00a87a2aac70091ed4d466b457e7892bc96ed", func := "loop.example/g01084/laws.FnExactSinklessProblem", spec := "fnExactSinklessProblem", unfollowed := true, recurses := true, apart := false, narrowed := true }
def FnExactSinklessProblemUptoSaid : Prop := fnExactSinklessProblemUptoRow.holds Try.pinned (OpenSpec.upto fnExactSinklessProblemSpec)

/-- 'laws.FnExactUnionProblem', WHERE WHAT IT READS IS OF BULK AT MOST 1048576: true; the input reads as it did. -/
def fnExactUnionProblemUptoRow : OpenClaim := { program := "ythaimoghceamnaa", sum := "9b43003578aa94bad6cfb2c54bc00a87a2aac70091ed4d466b457e7892bc96ed", func := "loop.example/g01084/laws.FnExactUnionProblem", spec := "fnExactUnionProblem", unfollowed := true, recurses := true, apart := false, narrowed := true }
def FnExactUnionProblemUptoSaid : Prop := fnExactUnionProblemUptoRow.holds Try.pinned (OpenSpec.upto fnExactUnionProblemSpec)

/-- 'laws.FnExactUsableLabels', WHERE WHAT IT READS IS OF BULK AT MOST 1048576: true; the input reads as it did. -/
def fnExactUsableLabelsUptoRow : OpenClaim := { program := "ythaimoghceamnaa", sum := "9b43003578aa94bad6cfb2c54bc00a87a2aac70091ed4d466b457e7892bc96ed", func := "loop.example/g01084/laws.FnExactUsableLabels", spec := "fnExactUsableLabels", unfollowed := true, recurses := true, apart := false, narrowed := true }
def FnExactUsableLabelsUptoSaid : Prop := fnExactUsableLabelsUptoRow.holds Try.pinned (OpenSpec.upto fnExactUsableLabelsSpec)

end Rows
end Go.Proofs.Ythaimoghceamnaa
