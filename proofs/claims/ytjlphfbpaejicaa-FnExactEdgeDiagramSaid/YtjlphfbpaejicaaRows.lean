/-
  No cell of these rows narrows 'for every input' (looked for: loops, veiled, ifaces, maps, wideKeys, modest, calm, conditions, laid).
  DERIVED. THE GIVEN ROWS OF THIS SEAT. 12 by the template 'for every input the law returns true; each argument reads behind the call as it read before'; 0 by the template 'total and deterministic' (their statements: YtjlphfbpaejicaaTotals.lean).
  GIVEN WITH THE SEED: the statements are not yours to turn. If you find one false, say at which input.
  Laid BY PROGRAM, IN A SANDBOX (cutbox-rows.mjs): the forced cells as the released guide's own fill.sh prints them over the translation ed814fc18c495c52… (all of the seat's roots in one cut). By AI agents, Wed Nov 11 2026. No macro, syntax, notation, axiom, sorry.
-/
import Derived.Test.YtjlphfbpaejicaaChecked
import GoSem.Claim
import GoSem.ClaimJoined
import GoSem.ClaimMapViews
import Derived.JoinedTies
import Derived.KernelRfl
namespace Go.Proofs.Ytjlphfbpaejicaa
/- THE CELL 'sum', in the pinned program and in every row, IS THE sha256 OF THE DUMP (.gsa) THAT YtjlphfbpaejicaaProg.lean LOADS. Nothing in Lean hashes anything: it is a label: what it is worth is what the hold of that sum in a sandbox is worth. -/
noncomputable def Try.pinned : Pinned := { name := "ytjlphfbpaejicaa", sum := "ed814fc18c495c526fb9a4b41a3982159c6f61ec57501ca787a4892225d2eb1b", checked := Try.checked }
namespace Rows
def none {H : Type} : Left H := { results := [], args := [] }

/-- 'laws.FnExactIsRestriction': WHATEVER THE INPUT: true; the input reads as it did. -/
def fnExactIsRestrictionSpec : ChangeSpec := { name := "fnExactIsRestriction", fn := fun _ => fun
  | [d1, d2] => { results := [.lit (.bool true)], args := [d1, d2] }
  | _ => none }
def fnExactIsRestrictionRow : OpenClaim := { program := "ytjlphfbpaejicaa", sum := "ed814fc18c495c526fb9a4b41a3982159c6f61ec57501ca787a4892225d2eb1b", func := "loop.example/g01084/laws.FnExactIsRestriction", spec := "fnExactIsRestriction", unfollowed := true, recurses := true, apart := false }
def FnExactIsRestrictionSaid : Prop := fnExactIsRestrictionRow.holds Try.pinned (OpenSpec.ofChange fnExactIsRestrictionSpec)

/-- ITS FALSE NEIGHBOUR: 'it returns false'. Refute it at one input. -/
def fnExactIsRestrictionWrong : ChangeSpec := { name := "fnExactIsRestriction", fn := fun _ => fun
  | [d1, d2] => { results := [.lit (.bool false)], args := [d1, d2] }
  | _ => none }
def FnExactIsRestrictionWrongFalsely : Prop := fnExactIsRestrictionRow.holds Try.pinned (OpenSpec.ofChange fnExactIsRestrictionWrong)

/-- 'laws.FnExactLoopLabels': WHATEVER THE INPUT: true; the input reads as it did. -/
def fnExactLoopLabelsSpec : ChangeSpec := { name := "fnExactLoopLabels", fn := fun _ => fun
  | [d] => { results := [.lit (.bool true)], args := [d] }
  | _ => none }
def fnExactLoopLabelsRow : OpenClaim := { program := "ytjlphfbpaejicaa", sum := "ed814fc18c495c526fb9a4b41a3982159c6f61ec57501ca787a4892225d2eb1b", func := "loop.example/g01084/laws.FnExactLoopLabels", spec := "fnExactLoopLabels", unfollowed := true, recurses := true, apart := false }
def FnExactLoopLabelsSaid : Prop := fnExactLoopLabelsRow.holds Try.pinned (OpenSpec.ofChange fnExactLoopLabelsSpec)

/-- ITS FALSE NEIGHBOUR: 'it returns false'. Refute it at one input. -/
def fnExactLoopLabelsWrong : ChangeSpec := { name := "fnExactLoopLabels", fn := fun _ => fun
  | [d] => { results := [.lit (.bool false)], args := [d] }
  | _ => none }
def FnExactLoopLabelsWrongFalsely : Prop := fnExactLoopLabelsRow.holds Try.pinned (OpenSpec.ofChange fnExactLoopLabelsWrong)

/-- 'laws.FnExactCheckZeroRefusal': WHATEVER THE INPUT: true; the input reads as it did. -/
def fnExactCheckZeroRefusalSpec : ChangeSpec := { name := "fnExactCheckZeroRefusal", fn := fun _ => fun
  | [d1, d2] => { results := [.lit (.bool true)], args := [d1, d2] }
  | _ => none }
def fnExactCheckZeroRefusalRow : OpenClaim := { program := "ytjlphfbpaejicaa", sum := "ed814fc18c495c526fb9a4b41a3982159c6f61ec57501ca787a4892225d2eb1b", func := "loop.example/g01084/laws.FnExactCheckZeroRefusal", spec := "fnExactCheckZeroRefusal", unfollowed := true, recurses := true, apart := false }
def FnExactCheckZeroRefusalSaid : Prop := fnExactCheckZeroRefusalRow.holds Try.pinned (OpenSpec.ofChange fnExactCheckZeroRefusalSpec)

/-- ITS FALSE NEIGHBOUR: 'it returns false'. Refute it at one input. -/
def fnExactCheckZeroRefusalWrong : ChangeSpec := { name := "fnExactCheckZeroRefusal", fn := fun _ => fun
  | [d1, d2] => { results := [.lit (.bool false)], args := [d1, d2] }
  | _ => none }
def FnExactCheckZeroRefusalWrongFalsely : Prop := fnExactCheckZeroRefusalRow.holds Try.pinned (OpenSpec.ofChange fnExactCheckZeroRefusalWrong)

/-- 'laws.FnExactCheckPairRefusal': WHATEVER THE INPUT: true; the input reads as it did. -/
def fnExactCheckPairRefusalSpec : ChangeSpec := { name := "fnExactCheckPairRefusal", fn := fun _ => fun
  | [d1, d2] => { results := [.lit (.bool true)], args := [d1, d2] }
  | _ => none }
def fnExactCheckPairRefusalRow : OpenClaim := { program := "ytjlphfbpaejicaa", sum := "ed814fc18c495c526fb9a4b41a3982159c6f61ec57501ca787a4892225d2eb1b", func := "loop.example/g01084/laws.FnExactCheckPairRefusal", spec := "fnExactCheckPairRefusal", unfollowed := true, recurses := true, apart := false }
def FnExactCheckPairRefusalSaid : Prop := fnExactCheckPairRefusalRow.holds Try.pinned (OpenSpec.ofChange fnExactCheckPairRefusalSpec)

/-- ITS FALSE NEIGHBOUR: 'it returns false'. Refute it at one input. -/
def fnExactCheckPairRefusalWrong : ChangeSpec := { name := "fnExactCheckPairRefusal", fn := fun _ => fun
  | [d1, d2] => { results := [.lit (.bool false)], args := [d1, d2] }
  | _ => none }
def FnExactCheckPairRefusalWrongFalsely : Prop := fnExactCheckPairRefusalRow.holds Try.pinned (OpenSpec.ofChange fnExactCheckPairRefusalWrong)

/-- 'laws.FnExactMeetProblem': WHATEVER THE INPUT: true; the input reads as it did. -/
def fnExactMeetProblemSpec : ChangeSpec := { name := "fnExactMeetProblem", fn := fun _ => fun
  | [d1, d2] => { results := [.lit (.bool true)], args := [d1, d2] }
  | _ => none }
def fnExactMeetProblemRow : OpenClaim := { program := "ytjlphfbpaejicaa", sum := "ed814fc18c495c526fb9a4b41a3982159c6f61ec57501ca787a4892225d2eb1b", func := "loop.example/g01084/laws.FnExactMeetProblem", spec := "fnExactMeetProblem", unfollowed := true, recurses := true, apart := false }
def FnExactMeetProblemSaid : Prop := fnExactMeetProblemRow.holds Try.pinned (OpenSpec.ofChange fnExactMeetProblemSpec)

/-- ITS FALSE NEIGHBOUR: 'it returns false'. Refute it at one input. -/
def fnExactMeetProblemWrong : ChangeSpec := { name := "fnExactMeetProblem", fn := fun _ => fun
  | [d1, d2] => { results := [.lit (.bool false)], args := [d1, d2] }
  | _ => none }
def FnExactMeetProblemWrongFalsely : Prop := fnExactMeetProblemRow.holds Try.pinned (OpenSpec.ofChange fnExactMeetProblemWrong)

/-- 'laws.FnExactZeroConfiguration': WHATEVER THE INPUT: true; the input reads as it did. -/
def fnExactZeroConfigurationSpec : ChangeSpec := { name := "fnExactZeroConfiguration", fn := fun _ => fun
  | [d] => { results := [.lit (.bool true)], args := [d] }
  | _ => none }
def fnExactZeroConfigurationRow : OpenClaim := { program := "ytjlphfbpaejicaa", sum := "ed814fc18c495c526fb9a4b41a3982159c6f61ec57501ca787a4892225d2eb1b", func := "loop.example/g01084/laws.FnExactZeroConfiguration", spec := "fnExactZeroConfiguration", unfollowed := true, recurses := true, apart := false }
def FnExactZeroConfigurationSaid : Prop := fnExactZeroConfigurationRow.holds Try.pinned (OpenSpec.ofChange fnExactZeroConfigurationSpec)

/-- ITS FALSE NEIGHBOUR: 'it returns false'. Refute it at one input. -/
def fnExactZeroConfigurationWrong : ChangeSpec := { name := "fnExactZeroConfiguration", fn := fun _ => fun
  | [d] => { results := [.lit (.bool false)], args := [d] }
  | _ => none }
def FnExactZeroConfigurationWrongFalsely : Prop := fnExactZeroConfigurationRow.holds Try.pinned (OpenSpec.ofChange fnExactZeroConfigurationWrong)

/-- 'laws.FnExactZeroPair': WHATEVER THE INPUT: true; the input reads as it did. -/
def fnExactZeroPairSpec : ChangeSpec := { name := "fnExactZeroPair", fn := fun _ => fun
  | [d] => { results := [.lit (.bool true)], args := [d] }
  | _ => none }
def fnExactZeroPairRow : OpenClaim := { program := "ytjlphfbpaejicaa", sum := "ed814fc18c495c526fb9a4b41a3982159c6f61ec57501ca787a4892225d2eb1b", func := "loop.example/g01084/laws.FnExactZeroPair", spec := "fnExactZeroPair", unfollowed := true, recurses := true, apart := false }
def FnExactZeroPairSaid : Prop := fnExactZeroPairRow.holds Try.pinned (OpenSpec.ofChange fnExactZeroPairSpec)

/-- ITS FALSE NEIGHBOUR: 'it returns false'. Refute it at one input. -/
def fnExactZeroPairWrong : ChangeSpec := { name := "fnExactZeroPair", fn := fun _ => fun
  | [d] => { results := [.lit (.bool false)], args := [d] }
  | _ => none }
def FnExactZeroPairWrongFalsely : Prop := fnExactZeroPairRow.holds Try.pinned (OpenSpec.ofChange fnExactZeroPairWrong)

/-- 'laws.FnExactEdgeDiagram': WHATEVER THE INPUT: true; the input reads as it did. -/
def fnExactEdgeDiagramSpec : ChangeSpec := { name := "fnExactEdgeDiagram", fn := fun _ => fun
  | [d] => { results := [.lit (.bool true)], args := [d] }
  | _ => none }
def fnExactEdgeDiagramRow : OpenClaim := { program := "ytjlphfbpaejicaa", sum := "ed814fc18c495c526fb9a4b41a3982159c6f61ec57501ca787a4892225d2eb1b", func := "loop.example/g01084/laws.FnExactEdgeDiagram", spec := "fnExactEdgeDiagram", unfollowed := true, recurses := true, apart := false }
def FnExactEdgeDiagramSaid : Prop := fnExactEdgeDiagramRow.holds Try.pinned (OpenSpec.ofChange fnExactEdgeDiagramSpec)

/-- ITS FALSE NEIGHBOUR: 'it returns false'. Refute it at one input. -/
def fnExactEdgeDiagramWrong : ChangeSpec := { name := "fnExactEdgeDiagram", fn := fun _ => fun
  | [d] => { results := [.lit (.bool false)], args := [d] }
  | _ => none }
def FnExactEdgeDiagramWrongFalsely : Prop := fnExactEdgeDiagramRow.holds Try.pinned (OpenSpec.ofChange fnExactEdgeDiagramWrong)

/-- 'laws.FnExactNodeDiagram': WHATEVER THE INPUT: true; the input reads as it did. -/
def fnExactNodeDiagramSpec : ChangeSpec := { name := "fnExactNodeDiagram", fn := fun _ => fun
  | [d] => { results := [.lit (.bool true)], args := [d] }
  | _ => none }
def fnExactNodeDiagramRow : OpenClaim := { program := "ytjlphfbpaejicaa", sum := "ed814fc18c495c526fb9a4b41a3982159c6f61ec57501ca787a4892225d2eb1b", func := "loop.example/g01084/laws.FnExactNodeDiagram", spec := "fnExactNodeDiagram", unfollowed := true, recurses := true, apart := false }
def FnExactNodeDiagramSaid : Prop := fnExactNodeDiagramRow.holds Try.pinned (OpenSpec.ofChange fnExactNodeDiagramSpec)

/-- ITS FALSE NEIGHBOUR: 'it returns false'. Refute it at one input. -/
def fnExactNodeDiagramWrong : ChangeSpec := { name := "fnExactNodeDiagram", fn := fun _ => fun
  | [d] => { results := [.lit (.bool false)], args := [d] }
  | _ => none }
def FnExactNodeDiagramWrongFalsely : Prop := fnExactNodeDiagramRow.holds Try.pinned (OpenSpec.ofChange fnExactNodeDiagramWrong)

/-- 'laws.FnExactProductProblem': WHATEVER THE INPUT: true; the input reads as it did. -/
def fnExactProductProblemSpec : ChangeSpec := { name := "fnExactProductProblem", fn := fun _ => fun
  | [d1, d2] => { results := [.lit (.bool true)], args := [d1, d2] }
  | _ => none }
def fnExactProductProblemRow : OpenClaim := { program := "ytjlphfbpaejicaa", sum := "ed814fc18c495c526fb9a4b41a3982159c6f61ec57501ca787a4892225d2eb1b", func := "loop.example/g01084/laws.FnExactProductProblem", spec := "fnExactProductProblem", unfollowed := true, recurses := true, apart := false }
def FnExactProductProblemSaid : Prop := fnExactProductProblemRow.holds Try.pinned (OpenSpec.ofChange fnExactProductProblemSpec)

/-- ITS FALSE NEIGHBOUR: 'it returns false'. Refute it at one input. -/
def fnExactProductProblemWrong : ChangeSpec := { name := "fnExactProductProblem", fn := fun _ => fun
  | [d1, d2] => { results := [.lit (.bool false)], args := [d1, d2] }
  | _ => none }
def FnExactProductProblemWrongFalsely : Prop := fnExactProductProblemRow.holds Try.pinned (OpenSpec.ofChange fnExactProductProblemWrong)

/-- 'laws.FnExactRefusalOfPair': WHATEVER THE INPUT: true; the input reads as it did. -/
def fnExactRefusalOfPairSpec : ChangeSpec := { name := "fnExactRefusalOfPair", fn := fun _ => fun
  | [d] => { results := [.lit (.bool true)], args := [d] }
  | _ => none }
def fnExactRefusalOfPairRow : OpenClaim := { program := "ytjlphfbpaejicaa", sum := "ed814fc18c495c526fb9a4b41a3982159c6f61ec57501ca787a4892225d2eb1b", func := "loop.example/g01084/laws.FnExactRefusalOfPair", spec := "fnExactRefusalOfPair", unfollowed := true, recurses := true, apart := false }
def FnExactRefusalOfPairSaid : Prop := fnExactRefusalOfPairRow.holds Try.pinned (OpenSpec.ofChange fnExactRefusalOfPairSpec)

/-- ITS FALSE NEIGHBOUR: 'it returns false'. Refute it at one input. -/
def fnExactRefusalOfPairWrong : ChangeSpec := { name := "fnExactRefusalOfPair", fn := fun _ => fun
  | [d] => { results := [.lit (.bool false)], args := [d] }
  | _ => none }
def FnExactRefusalOfPairWrongFalsely : Prop := fnExactRefusalOfPairRow.holds Try.pinned (OpenSpec.ofChange fnExactRefusalOfPairWrong)

/-- 'laws.FnExactRefusalOfZero': WHATEVER THE INPUT: true; the input reads as it did. -/
def fnExactRefusalOfZeroSpec : ChangeSpec := { name := "fnExactRefusalOfZero", fn := fun _ => fun
  | [d] => { results := [.lit (.bool true)], args := [d] }
  | _ => none }
def fnExactRefusalOfZeroRow : OpenClaim := { program := "ytjlphfbpaejicaa", sum := "ed814fc18c495c526fb9a4b41a3982159c6f61ec57501ca787a4892225d2eb1b", func := "loop.example/g01084/laws.FnExactRefusalOfZero", spec := "fnExactRefusalOfZero", unfollowed := true, recurses := true, apart := false }
def FnExactRefusalOfZeroSaid : Prop := fnExactRefusalOfZeroRow.holds Try.pinned (OpenSpec.ofChange fnExactRefusalOfZeroSpec)

/-- ITS FALSE NEIGHBOUR: 'it returns false'. Refute it at one input. -/
def fnExactRefusalOfZeroWrong : ChangeSpec := { name := "fnExactRefusalOfZero", fn := fun _ => fun
  | [d] => { results := [.lit (.bool false)], args := [d] }
  | _ => none }
def FnExactRefusalOfZeroWrongFalsely : Prop := fnExactRefusalOfZeroRow.holds Try.pinned (OpenSpec.ofChange fnExactRefusalOfZeroWrong)

/- THE SECOND FORM. 'bulk': how many values and letters a reading holds, each counted each time it is reached (what is shared counts as often as it is met; a slice's spare places count too). A statement '..UptoSaid' is the law's where the arguments, and the package variables that the reading takes, are together of bulk at most 1048576: NARROWER than '..Said'. Prove '..Said' where nothing that the law and all that it calls make is longer than what came in: it says more and counts as full. Else prove '..UptoSaid'. A law counts once. -/
mutual
def uptoBulk {H : Type} : DataW H → Nat
  | .lit (.string bytes) => bytes.length + 1
  | .lit _ => 1
  | .nil => 1
  | .ptr d => uptoBulk d + 1
  | .slice elems spare => uptoBulkAll elems + uptoBulkAll spare + 1
  | .agg parts => uptoBulkAll parts + 1
  | .iface _ d => uptoBulk d + 1
  | .map entries => uptoBulkEntries entries + 1
  | .held _ => 1
def uptoBulkAll {H : Type} : List (DataW H) → Nat
  | [] => 0
  | d :: r => uptoBulk d + uptoBulkAll r
def uptoBulkEntries {H : Type} : List (Lit × DataW H) → Nat
  | [] => 0
  | x :: r => uptoBulkEntry x + uptoBulkEntries r
def uptoBulkEntry {H : Type} : Lit × DataW H → Nat
  | (.string bytes, d) => bytes.length + uptoBulk d + 1
  | (_, d) => uptoBulk d + 1
 end
def uptoSmall : (H : Type) → List (DataW H) → Bool := fun _ ds => decide (uptoBulkAll ds ≤ 1048576)
def OpenSpec.upto (s : _root_.Go.ChangeSpec) : _root_.Go.OpenSpec := { _root_.Go.OpenSpec.ofChange s with cond := some uptoSmall }

/-- 'laws.FnExactIsRestriction', WHERE WHAT IT READS IS OF BULK AT MOST 1048576: true; the input reads as it did. -/
def fnExactIsRestrictionUptoRow : OpenClaim := { program := "ytjlphfbpaejicaa", sum := "ed814fc18c495c526fb9a4b41a3982159c6f61ec57501ca787a4892225d2eb1b", func := "loop.example/g01084/laws.FnExactIsRestriction", spec := "fnExactIsRestriction", unfollowed := true, recurses := true, apart := false, narrowed := true }
def FnExactIsRestrictionUptoSaid : Prop := fnExactIsRestrictionUptoRow.holds Try.pinned (OpenSpec.upto fnExactIsRestrictionSpec)

/-- 'laws.FnExactLoopLabels', WHERE WHAT IT READS IS OF BULK AT MOST 1048576: true; the input reads as it did. -/
def fnExactLoopLabelsUptoRow : OpenClaim := { program := "ytjlphfbpaejicaa", sum := "ed814fc18c495c526fb9a4b41a3982159c6f61ec57501ca787a4892225d2eb1b", func := "loop.example/g01084/laws.FnExactLoopLabels", spec := "fnExactLoopLabels", unfollowed := true, recurses := true, apart := false, narrowed := true }
def FnExactLoopLabelsUptoSaid : Prop := fnExactLoopLabelsUptoRow.holds Try.pinned (OpenSpec.upto fnExactLoopLabelsSpec)

/-- 'laws.FnExactCheckZeroRefusal', WHERE WHAT IT READS IS OF BULK AT MOST 1048576: true; the input reads as it did. -/
def fnExactCheckZeroRefusalUptoRow : OpenClaim := { program := "ytjlphfbpaejicaa", sum := "ed814fc18c495c526fb9a4b41a3982159c6f61ec57501ca787a4892225d2eb1b", func := "loop.example/g01084/laws.FnExactCheckZeroRefusal", spec := "fnExactCheckZeroRefusal", unfollowed := true, recurses := true, apart := false, narrowed := true }
def FnExactCheckZeroRefusalUptoSaid : Prop := fnExactCheckZeroRefusalUptoRow.holds Try.pinned (OpenSpec.upto fnExactCheckZeroRefusalSpec)

/-- 'laws.FnExactCheckPairRefusal', WHERE WHAT IT READS IS OF BULK AT MOST 1048576: true; the input reads as it did. -/
def fnExactCheckPairRefusalUptoRow : OpenClaim := { program := "ytjlphfbpaejicaa", sum := "ed814fc18c495c526fb9a4b41a3982159c6f61ec57501ca787a4892225d2eb1b", func := "loop.example/g01084/laws.FnExactCheckPairRefusal", spec := "fnExactCheckPairRefusal", unfollowed := true, recurses := true, apart := false, narrowed := true }
def FnExactCheckPairRefusalUptoSaid : Prop := fnExactCheckPairRefusalUptoRow.holds Try.pinned (OpenSpec.upto fnExactCheckPairRefusalSpec)

/-- 'laws.FnExactMeetProblem', WHERE WHAT IT READS IS OF BULK AT MOST 1048576: true; the input reads as it did. -/
def fnExactMeetProblemUptoRow : OpenClaim := { program := "ytjlphfbpaejicaa", sum := "ed814fc18c495c526fb9a4b41a3982159c6f61ec57501ca787a4892225d2eb1b", func := "loop.example/g01084/laws.FnExactMeetProblem", spec := "fnExactMeetProblem", unfollowed := true, recurses := true, apart := false, narrowed := true }
def FnExactMeetProblemUptoSaid : Prop := fnExactMeetProblemUptoRow.holds Try.pinned (OpenSpec.upto fnExactMeetProblemSpec)

/-- 'laws.FnExactZeroConfiguration', WHERE WHAT IT READS IS OF BULK AT MOST 1048576: true; the input reads as it did. -/
def fnExactZeroConfigurationUptoRow : OpenClaim := { program := "ytjlphfbpaejicaa", sum := "ed814fc18c495c526fb9a4b41a3982159c6f61ec57501ca787a4892225d2eb1b", func := "loop.example/g01084/laws.FnExactZeroConfiguration", spec := "fnExactZeroConfiguration", unfollowed := true, recurses := true, apart := false, narrowed := true }
def FnExactZeroConfigurationUptoSaid : Prop := fnExactZeroConfigurationUptoRow.holds Try.pinned (OpenSpec.upto fnExactZeroConfigurationSpec)

/-- 'laws.FnExactZeroPair', WHERE WHAT IT READS IS OF BULK AT MOST 1048576: true; the input reads as it did. -/
def fnExactZeroPairUptoRow : OpenClaim := { program := "ytjlphfbpaejicaa", sum := "ed814fc18c495c526fb9a4b41a3982159c6f61ec57501ca787a4892225d2eb1b", func := "loop.example/g01084/laws.FnExactZeroPair", spec := "fnExactZeroPair", unfollowed := true, recurses := true, apart := false, narrowed := true }
def FnExactZeroPairUptoSaid : Prop := fnExactZeroPairUptoRow.holds Try.pinned (OpenSpec.upto fnExactZeroPairSpec)

/-- 'laws.FnExactEdgeDiagram', WHERE WHAT IT READS IS OF BULK AT MOST 1048576: true; the input reads as it did. -/
def fnExactEdgeDiagramUptoRow : OpenClaim := { program := "ytjlphfbpaejicaa", sum := "ed814fc18c495c526fb9a4b41a3982159c6f61ec57501ca787a4892225d2eb1b", func := "loop.example/g01084/laws.FnExactEdgeDiagram", spec := "fnExactEdgeDiagram", unfollowed := true, recurses := true, apart := false, narrowed := true }
def FnExactEdgeDiagramUptoSaid : Prop := fnExactEdgeDiagramUptoRow.holds Try.pinned (OpenSpec.upto fnExactEdgeDiagramSpec)

/-- 'laws.FnExactNodeDiagram', WHERE WHAT IT READS IS OF BULK AT MOST 1048576: true; the input reads as it did. -/
def fnExactNodeDiagramUptoRow : OpenClaim := { program := "ytjlphfbpaejicaa", sum := "ed814fc18c495c526fb9a4b41a3982159c6f61ec57501ca787a4892225d2eb1b", func := "loop.example/g01084/laws.FnExactNodeDiagram", spec := "fnExactNodeDiagram", unfollowed := true, recurses := true, apart := false, narrowed := true }
def FnExactNodeDiagramUptoSaid : Prop := fnExactNodeDiagramUptoRow.holds Try.pinned (OpenSpec.upto fnExactNodeDiagramSpec)

/-- 'laws.FnExactProductProblem', WHERE WHAT IT READS IS OF BULK AT MOST 1048576: true; the input reads as it did. -/
def fnExactProductProblemUptoRow : OpenClaim := { program := "ytjlphfbpaejicaa", sum := "ed814fc18c495c526fb9a4b41a3982159c6f61ec57501ca787a4892225d2eb1b", func := "loop.example/g01084/laws.FnExactProductProblem", spec := "fnExactProductProblem", unfollowed := true, recurses := true, apart := false, narrowed := true }
def FnExactProductProblemUptoSaid : Prop := fnExactProductProblemUptoRow.holds Try.pinned (OpenSpec.upto fnExactProductProblemSpec)

/-- 'laws.FnExactRefusalOfPair', WHERE WHAT IT READS IS OF BULK AT MOST 1048576: true; the input reads as it did. -/
def fnExactRefusalOfPairUptoRow : OpenClaim := { program := "ytjlphfbpaejicaa", sum := "ed814fc18c495c526fb9a4b41a3982159c6f61ec57501ca787a4892225d2eb1b", func := "loop.example/g01084/laws.FnExactRefusalOfPair", spec := "fnExactRefusalOfPair", unfollowed := true, recurses := true, apart := false, narrowed := true }
def FnExactRefusalOfPairUptoSaid : Prop := fnExactRefusalOfPairUptoRow.holds Try.pinned (OpenSpec.upto fnExactRefusalOfPairSpec)

/-- 'laws.FnExactRefusalOfZero', WHERE WHAT IT READS IS OF BULK AT MOST 1048576: true; the input reads as it did. -/
def fnExactRefusalOfZeroUptoRow : OpenClaim := { program := "ytjlphfbpaejicaa", sum := "ed814fc18c495c526fb9a4b41a3982159c6f61ec57501ca787a4892225d2eb1b", func := "loop.example/g01084/laws.FnExactRefusalOfZero", spec := "fnExactRefusalOfZero", unfollowed := true, recurses := true, apart := false, narrowed := true }
def FnExactRefusalOfZeroUptoSaid : Prop := fnExactRefusalOfZeroUptoRow.holds Try.pinned (OpenSpec.upto fnExactRefusalOfZeroSpec)

end Rows
end Go.Proofs.Ytjlphfbpaejicaa
