/-
  No cell of these rows narrows 'for every input' (looked for: loops, veiled, ifaces, maps, wideKeys, modest, calm, conditions, laid).
  DERIVED. THE GIVEN ROWS OF THIS SEAT. 5 by the template 'for every input the law returns true; each argument reads behind the call as it read before'; 0 by the template 'total and deterministic' (their statements: YtipfckompmhljaaTotals.lean).
  GIVEN WITH THE SEED: the statements are not yours to turn. If you find one false, say at which input.
  Laid BY PROGRAM, IN A SANDBOX (cutbox-rows.mjs): the forced cells as the released guide's own fill.sh prints them over the translation 23d4cda167a75bb0… (all of the seat's roots in one cut). By AI agents, Wed Nov 11 2026. No macro, syntax, notation, axiom, sorry.
-/
import Derived.Test.YtipfckompmhljaaChecked
import GoSem.Claim
import GoSem.ClaimJoined
import GoSem.ClaimMapViews
import Derived.JoinedTies
import Derived.KernelRfl
namespace Go.Proofs.Ytipfckompmhljaa
/- THE CELL 'sum', in the pinned program and in every row, IS THE sha256 OF THE DUMP (.gsa) THAT YtipfckompmhljaaProg.lean LOADS. Nothing in Lean hashes anything: it is a label: what it is worth is what the hold of that sum in a sandbox is worth. -/
noncomputable def Try.pinned : Pinned := { name := "ytipfckompmhljaa", sum := "23d4cda167a75bb02421733546acbfcad4d223eae4a616426ecd7b4c9318c00c", checked := Try.checked }
namespace Rows
def none {H : Type} : Left H := { results := [], args := [] }

/-- 'laws.FnExactRefutesSize': WHATEVER THE INPUT: true; the input reads as it did. -/
def fnExactRefutesSizeSpec : ChangeSpec := { name := "fnExactRefutesSize", fn := fun _ => fun
  | [d1, d2, d3] => { results := [.lit (.bool true)], args := [d1, d2, d3] }
  | _ => none }
def fnExactRefutesSizeRow : OpenClaim := { program := "ytipfckompmhljaa", sum := "23d4cda167a75bb02421733546acbfcad4d223eae4a616426ecd7b4c9318c00c", func := "loop.example/g01084/laws.FnExactRefutesSize", spec := "fnExactRefutesSize", unfollowed := true, recurses := true, plainKeys := false, apart := false }
def FnExactRefutesSizeSaid : Prop := fnExactRefutesSizeRow.holds Try.pinned (OpenSpec.ofChange fnExactRefutesSizeSpec)

/-- ITS FALSE NEIGHBOUR: 'it returns false'. Refute it at one input. -/
def fnExactRefutesSizeWrong : ChangeSpec := { name := "fnExactRefutesSize", fn := fun _ => fun
  | [d1, d2, d3] => { results := [.lit (.bool false)], args := [d1, d2, d3] }
  | _ => none }
def FnExactRefutesSizeWrongFalsely : Prop := fnExactRefutesSizeRow.holds Try.pinned (OpenSpec.ofChange fnExactRefutesSizeWrong)

/-- 'laws.FnExactKeepBall': WHATEVER THE INPUT: true; the input reads as it did. -/
def fnExactKeepBallSpec : ChangeSpec := { name := "fnExactKeepBall", fn := fun _ => fun
  | [d1, d2, d3] => { results := [.lit (.bool true)], args := [d1, d2, d3] }
  | _ => none }
def fnExactKeepBallRow : OpenClaim := { program := "ytipfckompmhljaa", sum := "23d4cda167a75bb02421733546acbfcad4d223eae4a616426ecd7b4c9318c00c", func := "loop.example/g01084/laws.FnExactKeepBall", spec := "fnExactKeepBall", unfollowed := true, recurses := true, plainKeys := false, apart := false }
def FnExactKeepBallSaid : Prop := fnExactKeepBallRow.holds Try.pinned (OpenSpec.ofChange fnExactKeepBallSpec)

/-- ITS FALSE NEIGHBOUR: 'it returns false'. Refute it at one input. -/
def fnExactKeepBallWrong : ChangeSpec := { name := "fnExactKeepBall", fn := fun _ => fun
  | [d1, d2, d3] => { results := [.lit (.bool false)], args := [d1, d2, d3] }
  | _ => none }
def FnExactKeepBallWrongFalsely : Prop := fnExactKeepBallRow.holds Try.pinned (OpenSpec.ofChange fnExactKeepBallWrong)

/-- 'laws.FnExactConnectedTwin': WHATEVER THE INPUT: true; the input reads as it did. -/
def fnExactConnectedTwinSpec : ChangeSpec := { name := "fnExactConnectedTwin", fn := fun _ => fun
  | [d] => { results := [.lit (.bool true)], args := [d] }
  | _ => none }
def fnExactConnectedTwinRow : OpenClaim := { program := "ytipfckompmhljaa", sum := "23d4cda167a75bb02421733546acbfcad4d223eae4a616426ecd7b4c9318c00c", func := "loop.example/g01084/laws.FnExactConnectedTwin", spec := "fnExactConnectedTwin", unfollowed := true, recurses := true, plainKeys := false, apart := false }
def FnExactConnectedTwinSaid : Prop := fnExactConnectedTwinRow.holds Try.pinned (OpenSpec.ofChange fnExactConnectedTwinSpec)

/-- ITS FALSE NEIGHBOUR: 'it returns false'. Refute it at one input. -/
def fnExactConnectedTwinWrong : ChangeSpec := { name := "fnExactConnectedTwin", fn := fun _ => fun
  | [d] => { results := [.lit (.bool false)], args := [d] }
  | _ => none }
def FnExactConnectedTwinWrongFalsely : Prop := fnExactConnectedTwinRow.holds Try.pinned (OpenSpec.ofChange fnExactConnectedTwinWrong)

/-- 'laws.FnExactRenamingBetween': WHATEVER THE INPUT: true; the input reads as it did. -/
def fnExactRenamingBetweenSpec : ChangeSpec := { name := "fnExactRenamingBetween", fn := fun _ => fun
  | [d1, d2] => { results := [.lit (.bool true)], args := [d1, d2] }
  | _ => none }
def fnExactRenamingBetweenRow : OpenClaim := { program := "ytipfckompmhljaa", sum := "23d4cda167a75bb02421733546acbfcad4d223eae4a616426ecd7b4c9318c00c", func := "loop.example/g01084/laws.FnExactRenamingBetween", spec := "fnExactRenamingBetween", unfollowed := true, recurses := true, plainKeys := false, apart := false }
def FnExactRenamingBetweenSaid : Prop := fnExactRenamingBetweenRow.holds Try.pinned (OpenSpec.ofChange fnExactRenamingBetweenSpec)

/-- ITS FALSE NEIGHBOUR: 'it returns false'. Refute it at one input. -/
def fnExactRenamingBetweenWrong : ChangeSpec := { name := "fnExactRenamingBetween", fn := fun _ => fun
  | [d1, d2] => { results := [.lit (.bool false)], args := [d1, d2] }
  | _ => none }
def FnExactRenamingBetweenWrongFalsely : Prop := fnExactRenamingBetweenRow.holds Try.pinned (OpenSpec.ofChange fnExactRenamingBetweenWrong)

/-- 'laws.FnExactZeroOriented': WHATEVER THE INPUT: true; the input reads as it did. -/
def fnExactZeroOrientedSpec : ChangeSpec := { name := "fnExactZeroOriented", fn := fun _ => fun
  | [d] => { results := [.lit (.bool true)], args := [d] }
  | _ => none }
def fnExactZeroOrientedRow : OpenClaim := { program := "ytipfckompmhljaa", sum := "23d4cda167a75bb02421733546acbfcad4d223eae4a616426ecd7b4c9318c00c", func := "loop.example/g01084/laws.FnExactZeroOriented", spec := "fnExactZeroOriented", unfollowed := true, recurses := true, plainKeys := false, apart := false }
def FnExactZeroOrientedSaid : Prop := fnExactZeroOrientedRow.holds Try.pinned (OpenSpec.ofChange fnExactZeroOrientedSpec)

/-- ITS FALSE NEIGHBOUR: 'it returns false'. Refute it at one input. -/
def fnExactZeroOrientedWrong : ChangeSpec := { name := "fnExactZeroOriented", fn := fun _ => fun
  | [d] => { results := [.lit (.bool false)], args := [d] }
  | _ => none }
def FnExactZeroOrientedWrongFalsely : Prop := fnExactZeroOrientedRow.holds Try.pinned (OpenSpec.ofChange fnExactZeroOrientedWrong)

/- THE SECOND FORM. 'bulk': how many values and letters a reading holds, each counted each time it is reached (what is shared counts as often as it is met; a slice's spare places count too). A statement '..UptoSaid' is the law's where the arguments, and the package variables that the reading takes, are together of bulk at most 1048576: NARROWER than '..Said'. Prove '..Said' where nothing that the law and all that it calls make is longer than what came in: it says more and counts as full. Else prove '..UptoSaid'. A law counts once. -/
mutual
def uptoBulk {H : Type} : DataW H → Nat
  | .lit (.string bytes) => bytes.length + 1
  | .lit _ => 1
  | .nil => 1
  | .ptr d => uptoBulk d + 1
  | .slice elems spare => uptoBulkAll elems + uptoBulkAll spare + 1
  | .agg parts => uptoBulkAll parts + 1
  | .iface _ d => uptoBulk d + 1
  | .map entries => uptoBulkEntries entries + 1
  | .held _ => 1
def uptoBulkAll {H : Type} : List (DataW H) → Nat
  | [] => 0
  | d :: r => uptoBulk d + uptoBulkAll r
def uptoBulkEntries {H : Type} : List (Lit × DataW H) → Nat
  | [] => 0
  | x :: r => uptoBulkEntry x + uptoBulkEntries r
def uptoBulkEntry {H : Type} : Lit × DataW H → Nat
  | (.string bytes, d) => bytes.length + uptoBulk d + 1
  | (_, d) => uptoBulk d + 1
 end
def uptoSmall : (H : Type) → List (DataW H) → Bool := fun _ ds => decide (uptoBulkAll ds ≤ 1048576)
def OpenSpec.upto (s : _root_.Go.ChangeSpec) : _root_.Go.OpenSpec := { _root_.Go.OpenSpec.ofChange s with cond := some uptoSmall }

/-- 'laws.FnExactRefutesSize', WHERE WHAT IT READS IS OF BULK AT MOST 1048576: true; the input reads as it did. -/
def fnExactRefutesSizeUptoRow : OpenClaim := { program := "ytipfckompmhljaa", sum := "23d4cda167a75bb02421733546acbfcad4d223eae4a616426ecd7b4c9318c00c", func := "loop.example/g01084/laws.FnExactRefutesSize", spec := "fnExactRefutesSize", unfollowed := true, recurses := true, plainKeys := false, apart := false, narrowed := true }
def FnExactRefutesSizeUptoSaid : Prop := fnExactRefutesSizeUptoRow.holds Try.pinned (OpenSpec.upto fnExactRefutesSizeSpec)

/-- 'laws.FnExactKeepBall', WHERE WHAT IT READS IS OF BULK AT MOST 1048576: true; the input reads as it did. -/
def fnExactKeepBallUptoRow : OpenClaim := { program := "ytipfckompmhljaa", sum := "23d4cda167a75bb02421733546acbfcad4d223eae4a616426ecd7b4c9318c00c", func := "loop.example/g01084/laws.FnExactKeepBall", spec := "fnExactKeepBall", unfollowed := true, recurses := true, plainKeys := false, apart := false, narrowed := true }
def FnExactKeepBallUptoSaid : Prop := fnExactKeepBallUptoRow.holds Try.pinned (OpenSpec.upto fnExactKeepBallSpec)

/-- 'laws.FnExactConnectedTwin', WHERE WHAT IT READS IS OF BULK AT MOST 1048576: true; the input reads as it did. -/
def fnExactConnectedTwinUptoRow : OpenClaim := { program := "ytipfckompmhljaa", sum := "23d4cda167a75bb02421733546acbfcad4d223eae4a616426ecd7b4c9318c00c", func := "loop.example/g01084/laws.FnExactConnectedTwin", spec := "fnExactConnectedTwin", unfollowed := true, recurses := true, plainKeys := false, apart := false, narrowed := true }
def FnExactConnectedTwinUptoSaid : Prop := fnExactConnectedTwinUptoRow.holds Try.pinned (OpenSpec.upto fnExactConnectedTwinSpec)

/-- 'laws.FnExactRenamingBetween', WHERE WHAT IT READS IS OF BULK AT MOST 1048576: true; the input reads as it did. -/
def fnExactRenamingBetweenUptoRow : OpenClaim := { program := "ytipfckompmhljaa", sum := "23d4cda167a75bb02421733546acbfcad4d223eae4a616426ecd7b4c9318c00c", func := "loop.example/g01084/laws.FnExactRenamingBetween", spec := "fnExactRenamingBetween", unfollowed := true, recurses := true, plainKeys := false, apart := false, narrowed := true }
def FnExactRenamingBetweenUptoSaid : Prop := fnExactRenamingBetweenUptoRow.holds Try.pinned (OpenSpec.upto fnExactRenamingBetweenSpec)

/-- 'laws.FnExactZeroOriented', WHERE WHAT IT READS IS OF BULK AT MOST 1048576: true; the input reads as it did. -/
def fnExactZeroOrientedUptoRow : OpenClaim := { program := "ytipfckompmhljaa", sum := "23d4cda167a75bb02421733546acbfcad4d223eae4a616426ecd7b4c9318c00c", func := "loop.example/g01084/laws.FnExactZeroOriented", spec := "fnExactZeroOriented", unfollowed := true, recurses := true, plainKeys := false, apart := false, narrowed := true }
def FnExactZeroOrientedUptoSaid : Prop := fnExactZeroOrientedUptoRow.holds Try.pinned (OpenSpec.upto fnExactZeroOrientedSpec)

end Rows
end Go.Proofs.Ytipfckompmhljaa
