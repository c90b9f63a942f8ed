/-
  No cell of these rows narrows 'for every input' (looked for: loops, veiled, ifaces, maps, wideKeys, modest, calm, conditions, laid).
  DERIVED. THE GIVEN ROWS OF THIS SEAT. 5 by the template 'for every input the law returns true; each argument reads behind the call as it read before'; 0 by the template 'total and deterministic' (their statements: YtdjfaadpmbkcmaaTotals.lean).
  GIVEN WITH THE SEED: the statements are not yours to turn. If you find one false, say at which input.
  Laid BY PROGRAM, IN A SANDBOX (cutbox-rows.mjs): the forced cells as the released guide's own fill.sh prints them over the translation c9269344b5bacbee… (all of the seat's roots in one cut). By AI agents, Wed Nov 11 2026. No macro, syntax, notation, axiom, sorry.
-/
import Derived.Test.YtdjfaadpmbkcmaaChecked
import GoSem.Claim
import GoSem.ClaimJoined
import GoSem.ClaimMapViews
import Derived.JoinedTies
import Derived.KernelRfl
namespace Go.Proofs.Ytdjfaadpmbkcmaa
/- THE CELL 'sum', in the pinned program and in every row, IS THE sha256 OF THE DUMP (.gsa) THAT YtdjfaadpmbkcmaaProg.lean LOADS. Nothing in Lean hashes anything: it is a label: what it is worth is what the hold of that sum in a sandbox is worth. -/
noncomputable def Try.pinned : Pinned := { name := "ytdjfaadpmbkcmaa", sum := "c9269344b5bacbee06d6dc7de6e31e0e8f9590ddb55417ad777ba188751c54a1", checked := Try.checked }
namespace Rows
def none {H : Type} : Left H := { results := [], args := [] }

/-- 'laws.FnExactProductProblem': WHATEVER THE INPUT: true; the input reads as it did. -/
def fnExactProductProblemSpec : ChangeSpec := { name := "fnExactProductProblem", fn := fun _ => fun
  | [d1, d2] => { results := [.lit (.bool true)], args := [d1, d2] }
  | _ => none }
def fnExactProductProblemRow : OpenClaim := { program := "ytdjfaadpmbkcmaa", sum := "c9269344b5bacbee06d6dc7de6e31e0e8f9590ddb55417ad777ba188751c54a1", func := "loop.example/g01084/laws.FnExactProductProblem", spec := "fnExactProductProblem", unfollowed := true, recurses := true, apart := false }
def FnExactProductProblemSaid : Prop := fnExactProductProblemRow.holds Try.pinned (OpenSpec.ofChange fnExactProductProblemSpec)

/-- ITS FALSE NEIGHBOUR: 'it returns false'. Refute it at one input. -/
def fnExactProductProblemWrong : ChangeSpec := { name := "fnExactProductProblem", fn := fun _ => fun
  | [d1, d2] => { results := [.lit (.bool false)], args := [d1, d2] }
  | _ => none }
def FnExactProductProblemWrongFalsely : Prop := fnExactProductProblemRow.holds Try.pinned (OpenSpec.ofChange fnExactProductProblemWrong)

/-- 'laws.FnExactRenameLabels': WHATEVER THE INPUT: true; the input reads as it did. -/
def fnExactRenameLabelsSpec : ChangeSpec := { name := "fnExactRenameLabels", fn := fun _ => fun
  | [d1, d2] => { results := [.lit (.bool true)], args := [d1, d2] }
  | _ => none }
def fnExactRenameLabelsRow : OpenClaim := { program := "ytdjfaadpmbkcmaa", sum := "c9269344b5bacbee06d6dc7de6e31e0e8f9590ddb55417ad777ba188751c54a1", func := "loop.example/g01084/laws.FnExactRenameLabels", spec := "fnExactRenameLabels", unfollowed := true, recurses := true, apart := false }
def FnExactRenameLabelsSaid : Prop := fnExactRenameLabelsRow.holds Try.pinned (OpenSpec.ofChange fnExactRenameLabelsSpec)

/-- ITS FALSE NEIGHBOUR: 'it returns false'. Refute it at one input. -/
def fnExactRenameLabelsWrong : ChangeSpec := { name := "fnExactRenameLabels", fn := fun _ => fun
  | [d1, d2] => { results := [.lit (.bool false)], args := [d1, d2] }
  | _ => none }
def FnExactRenameLabelsWrongFalsely : Prop := fnExactRenameLabelsRow.holds Try.pinned (OpenSpec.ofChange fnExactRenameLabelsWrong)

/-- 'laws.FnExactKeepLabels': WHATEVER THE INPUT: true; the input reads as it did. -/
def fnExactKeepLabelsSpec : ChangeSpec := { name := "fnExactKeepLabels", fn := fun _ => fun
  | [d1, d2] => { results := [.lit (.bool true)], args := [d1, d2] }
  | _ => none }
def fnExactKeepLabelsRow : OpenClaim := { program := "ytdjfaadpmbkcmaa", sum := "c9269344b5bacbee06d6dc7de6e31e0e8f9590ddb55417ad777ba188751c54a1", func := "loop.example/g01084/laws.FnExactKeepLabels", spec := "fnExactKeepLabels", unfollowed := true, recurses := true, apart := false }
def FnExactKeepLabelsSaid : Prop := fnExactKeepLabelsRow.holds Try.pinned (OpenSpec.ofChange fnExactKeepLabelsSpec)

/-- ITS FALSE NEIGHBOUR: 'it returns false'. Refute it at one input. -/
def fnExactKeepLabelsWrong : ChangeSpec := { name := "fnExactKeepLabels", fn := fun _ => fun
  | [d1, d2] => { results := [.lit (.bool false)], args := [d1, d2] }
  | _ => none }
def FnExactKeepLabelsWrongFalsely : Prop := fnExactKeepLabelsRow.holds Try.pinned (OpenSpec.ofChange fnExactKeepLabelsWrong)

/-- 'laws.FnExactRenamingBetween': WHATEVER THE INPUT: true; the input reads as it did. -/
def fnExactRenamingBetweenSpec : ChangeSpec := { name := "fnExactRenamingBetween", fn := fun _ => fun
  | [d1, d2] => { results := [.lit (.bool true)], args := [d1, d2] }
  | _ => none }
def fnExactRenamingBetweenRow : OpenClaim := { program := "ytdjfaadpmbkcmaa", sum := "c9269344b5bacbee06d6dc7de6e31e0e8f9590ddb55417ad777ba188751c54a1", func := "loop.example/g01084/laws.FnExactRenamingBetween", spec := "fnExactRenamingBetween", unfollowed := true, recurses := true, apart := false }
def FnExactRenamingBetweenSaid : Prop := fnExactRenamingBetweenRow.holds Try.pinned (OpenSpec.ofChange fnExactRenamingBetweenSpec)

/-- ITS FALSE NEIGHBOUR: 'it returns false'. Refute it at one input. -/
def fnExactRenamingBetweenWrong : ChangeSpec := { name := "fnExactRenamingBetween", fn := fun _ => fun
  | [d1, d2] => { results := [.lit (.bool false)], args := [d1, d2] }
  | _ => none }
def FnExactRenamingBetweenWrongFalsely : Prop := fnExactRenamingBetweenRow.holds Try.pinned (OpenSpec.ofChange fnExactRenamingBetweenWrong)

/-- 'laws.FnExactLabelMapBetween': WHATEVER THE INPUT: true; the input reads as it did. -/
def fnExactLabelMapBetweenSpec : ChangeSpec := { name := "fnExactLabelMapBetween", fn := fun _ => fun
  | [d1, d2] => { results := [.lit (.bool true)], args := [d1, d2] }
  | _ => none }
def fnExactLabelMapBetweenRow : OpenClaim := { program := "ytdjfaadpmbkcmaa", sum := "c9269344b5bacbee06d6dc7de6e31e0e8f9590ddb55417ad777ba188751c54a1", func := "loop.example/g01084/laws.FnExactLabelMapBetween", spec := "fnExactLabelMapBetween", unfollowed := true, recurses := true, apart := false }
def FnExactLabelMapBetweenSaid : Prop := fnExactLabelMapBetweenRow.holds Try.pinned (OpenSpec.ofChange fnExactLabelMapBetweenSpec)

/-- ITS FALSE NEIGHBOUR: 'it returns false'. Refute it at one input. -/
def fnExactLabelMapBetweenWrong : ChangeSpec := { name := "fnExactLabelMapBetween", fn := fun _ => fun
  | [d1, d2] => { results := [.lit (.bool false)], args := [d1, d2] }
  | _ => none }
def FnExactLabelMapBetweenWrongFalsely : Prop := fnExactLabelMapBetweenRow.holds Try.pinned (OpenSpec.ofChange fnExactLabelMapBetweenWrong)

/- THE SECOND FORM. 'bulk': how many values and letters a reading holds, each counted each time it is reached (what is shared counts as often as it is met; a slice's spare places count too). A statement '..UptoSaid' is the law's where the arguments, and the package variables that the reading takes, are together of bulk at most 1048576: NARROWER than '..Said'. Prove '..Said' where nothing that the law and all that it calls make is longer than what came in: it says more and counts as full. Else prove '..UptoSaid'. A law counts once. -/
mutual
def uptoBulk {H : Type} : DataW H → Nat
  | .lit (.string bytes) => bytes.length + 1
  | .lit _ => 1
  | .nil => 1
  | .ptr d => uptoBulk d + 1
  | .slice elems spare => uptoBulkAll elems + uptoBulkAll spare + 1
  | .agg parts => uptoBulkAll parts + 1
  | .iface _ d => uptoBulk d + 1
  | .map entries => uptoBulkEntries entries + 1
  | .held _ => 1
def uptoBulkAll {H : Type} : List (DataW H) → Nat
  | [] => 0
  | d :: r => uptoBulk d + uptoBulkAll r
def uptoBulkEntries {H : Type} : List (Lit × DataW H) → Nat
  | [] => 0
  | x :: r => uptoBulkEntry x + uptoBulkEntries r
def uptoBulkEntry {H : Type} : Lit × DataW H → Nat
  | (.string bytes, d) => bytes.length + uptoBulk d + 1
  | (_, d) => uptoBulk d + 1
 end
def uptoSmall : (H : Type) → List (DataW H) → Bool := fun _ ds => decide (uptoBulkAll ds ≤ 1048576)
def OpenSpec.upto (s : _root_.Go.ChangeSpec) : _root_.Go.OpenSpec := { _root_.Go.OpenSpec.ofChange s with cond := some uptoSmall }

/-- 'laws.FnExactProductProblem', WHERE WHAT IT READS IS OF BULK AT MOST 1048576: true; the input reads as it did. -/
def fnExactProductProblemUptoRow : OpenClaim := { program := "ytdjfaadpmbkcmaa", sum := "c9269344b5bacbee06d6dc7de6e31e0e8f9590ddb55417ad777ba188751c54a1", func := "loop.example/g01084/laws.FnExactProductProblem", spec := "fnExactProductProblem", unfollowed := true, recurses := true, apart := false, narrowed := true }
def FnExactProductProblemUptoSaid : Prop := fnExactProductProblemUptoRow.holds Try.pinned (OpenSpec.upto fnExactProductProblemSpec)

/-- 'laws.FnExactRenameLabels', WHERE WHAT IT READS IS OF BULK AT MOST 1048576: true; the input reads as it did. -/
def fnExactRenameLabelsUptoRow : OpenClaim := { program := "ytdjfaadpmbkcmaa", sum := "c9269344b5bacbee06d6dc7de6e31e0e8f9590ddb55417ad777ba188751c54a1", func := "loop.example/g01084/laws.FnExactRenameLabels", spec := "fnExactRenameLabels", unfollowed := true, recurses := true, apart := false, narrowed := true }
def FnExactRenameLabelsUptoSaid : Prop := fnExactRenameLabelsUptoRow.holds Try.pinned (OpenSpec.upto fnExactRenameLabelsSpec)

/-- 'laws.FnExactKeepLabels', WHERE WHAT IT READS IS OF BULK AT MOST 1048576: true; the input reads as it did. -/
def fnExactKeepLabelsUptoRow : OpenClaim := { program := "ytdjfaadpmbkcmaa", sum := "c9269344b5bacbee06d6dc7de6e31e0e8f9590ddb55417ad777ba188751c54a1", func := "loop.example/g01084/laws.FnExactKeepLabels", spec := "fnExactKeepLabels", unfollowed := true, recurses := true, apart := false, narrowed := true }
def FnExactKeepLabelsUptoSaid : Prop := fnExactKeepLabelsUptoRow.holds Try.pinned (OpenSpec.upto fnExactKeepLabelsSpec)

/-- 'laws.FnExactRenamingBetween', WHERE WHAT IT READS IS OF BULK AT MOST 1048576: true; the input reads as it did. -/
def fnExactRenamingBetweenUptoRow : OpenClaim := { program := "ytdjfaadpmbkcmaa", sum := "c9269344b5bacbee06d6dc7de6e31e0e8f9590ddb55417ad777ba188751c54a1", func := "loop.example/g01084/laws.FnExactRenamingBetween", spec := "fnExactRenamingBetween", unfollowed := true, recurses := true, apart := false, narrowed := true }
def FnExactRenamingBetweenUptoSaid : Prop := fnExactRenamingBetweenUptoRow.holds Try.pinned (OpenSpec.upto fnExactRenamingBetweenSpec)

/-- 'laws.FnExactLabelMapBetween', WHERE WHAT IT READS IS OF BULK AT MOST 1048576: true; the input reads as it did. -/
def fnExactLabelMapBetweenUptoRow : OpenClaim := { program := "ytdjfaadpmbkcmaa", sum := "c9269344b5bacbee06d6dc7de6e31e0e8f9590ddb55417ad777ba188751c54a1", func := "loop.example/g01084/laws.FnExactLabelMapBetween", spec := "fnExactLabelMapBetween", unfollowed := true, recurses := true, apart := false, narrowed := true }
def FnExactLabelMapBetweenUptoSaid : Prop := fnExactLabelMapBetweenUptoRow.holds Try.pinned (OpenSpec.upto fnExactLabelMapBetweenSpec)

end Rows
end Go.Proofs.Ytdjfaadpmbkcmaa
