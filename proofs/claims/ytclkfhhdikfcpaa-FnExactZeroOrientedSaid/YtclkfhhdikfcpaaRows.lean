/-
  No cell of these rows narrows 'for every input' (looked for: loops, veiled, ifaces, maps, wideKeys, modest, calm, conditions, laid).
  DERIVED. THE GIVEN ROWS OF THIS SEAT. 7 by the template 'for every input the law returns true; each argument reads behind the call as it read before'; 0 by the template 'total and deterministic' (their statements: YtclkfhhdikfcpaaTotals.lean).
  GIVEN WITH THE SEED: the statements are not yours to turn. If you find one false, say at which input.
  Laid BY PROGRAM, IN A SANDBOX (cutbox-rows.mjs): the forced cells as the released guide's own fill.sh prints them over the translation c9770f8d7e63bca1… (all of the seat's roots in one cut). By AI agents, Wed Nov 11 2026. No macro, syntax, notation, axiom, sorry.
-/
import Derived.Test.YtclkfhhdikfcpaaChecked
import GoSem.Claim
import GoSem.ClaimJoined
import GoSem.ClaimMapViews
import Derived.JoinedTies
import Derived.KernelRfl
namespace Go.Proofs.Ytclkfhhdikfcpaa
/- THE CELL 'sum', in the pinned program and in every row, IS THE sha256 OF THE DUMP (.gsa) THAT YtclkfhhdikfcpaaProg.lean LOADS. Nothing in Lean hashes anything: it is a label: what it is worth is what the hold of that sum in a sandbox is worth. -/
noncomputable def Try.pinned : Pinned := { name := "ytclkfhhdikfcpaa", sum := "c9770f8d7e63bca1f89db9d224cd3e070f98046c48004d8548ac61f914586064", checked := Try.checked }
namespace Rows
def none {H : Type} : Left H := { results := [], args := [] }

/-- 'laws.FnExactLabelMapBetween': WHATEVER THE INPUT: true; the input reads as it did. -/
def fnExactLabelMapBetweenSpec : ChangeSpec := { name := "fnExactLabelMapBetween", fn := fun _ => fun
  | [d1, d2] => { results := [.lit (.bool true)], args := [d1, d2] }
  | _ => none }
def fnExactLabelMapBetweenRow : OpenClaim := { program := "ytclkfhhdikfcpaa", sum := "c9770f8d7e63bca1f89db9d224cd3e070f98046c48004d8548ac61f914586064", func := "loop.example/g01084/laws.FnExactLabelMapBetween", spec := "fnExactLabelMapBetween", unfollowed := true, recurses := true, plainKeys := false, apart := false }
def FnExactLabelMapBetweenSaid : Prop := fnExactLabelMapBetweenRow.holds Try.pinned (OpenSpec.ofChange fnExactLabelMapBetweenSpec)

/-- ITS FALSE NEIGHBOUR: 'it returns false'. Refute it at one input. -/
def fnExactLabelMapBetweenWrong : ChangeSpec := { name := "fnExactLabelMapBetween", fn := fun _ => fun
  | [d1, d2] => { results := [.lit (.bool false)], args := [d1, d2] }
  | _ => none }
def FnExactLabelMapBetweenWrongFalsely : Prop := fnExactLabelMapBetweenRow.holds Try.pinned (OpenSpec.ofChange fnExactLabelMapBetweenWrong)

/-- 'laws.FnExactZeroOriented': WHATEVER THE INPUT: true; the input reads as it did. -/
def fnExactZeroOrientedSpec : ChangeSpec := { name := "fnExactZeroOriented", fn := fun _ => fun
  | [d] => { results := [.lit (.bool true)], args := [d] }
  | _ => none }
def fnExactZeroOrientedRow : OpenClaim := { program := "ytclkfhhdikfcpaa", sum := "c9770f8d7e63bca1f89db9d224cd3e070f98046c48004d8548ac61f914586064", func := "loop.example/g01084/laws.FnExactZeroOriented", spec := "fnExactZeroOriented", unfollowed := true, recurses := true, plainKeys := false, apart := false }
def FnExactZeroOrientedSaid : Prop := fnExactZeroOrientedRow.holds Try.pinned (OpenSpec.ofChange fnExactZeroOrientedSpec)

/-- ITS FALSE NEIGHBOUR: 'it returns false'. Refute it at one input. -/
def fnExactZeroOrientedWrong : ChangeSpec := { name := "fnExactZeroOriented", fn := fun _ => fun
  | [d] => { results := [.lit (.bool false)], args := [d] }
  | _ => none }
def FnExactZeroOrientedWrongFalsely : Prop := fnExactZeroOrientedRow.holds Try.pinned (OpenSpec.ofChange fnExactZeroOrientedWrong)

/-- 'laws.FnExactCanMeetAt': WHATEVER THE INPUT: true; the input reads as it did. -/
def fnExactCanMeetAtSpec : ChangeSpec := { name := "fnExactCanMeetAt", fn := fun _ => fun
  | [d1, d2, d3] => { results := [.lit (.bool true)], args := [d1, d2, d3] }
  | _ => none }
def fnExactCanMeetAtRow : OpenClaim := { program := "ytclkfhhdikfcpaa", sum := "c9770f8d7e63bca1f89db9d224cd3e070f98046c48004d8548ac61f914586064", func := "loop.example/g01084/laws.FnExactCanMeetAt", spec := "fnExactCanMeetAt", unfollowed := true, recurses := true, plainKeys := false, apart := false }
def FnExactCanMeetAtSaid : Prop := fnExactCanMeetAtRow.holds Try.pinned (OpenSpec.ofChange fnExactCanMeetAtSpec)

/-- ITS FALSE NEIGHBOUR: 'it returns false'. Refute it at one input. -/
def fnExactCanMeetAtWrong : ChangeSpec := { name := "fnExactCanMeetAt", fn := fun _ => fun
  | [d1, d2, d3] => { results := [.lit (.bool false)], args := [d1, d2, d3] }
  | _ => none }
def FnExactCanMeetAtWrongFalsely : Prop := fnExactCanMeetAtRow.holds Try.pinned (OpenSpec.ofChange fnExactCanMeetAtWrong)

/-- 'laws.FnExactLeastDepthFor': WHATEVER THE INPUT: true; the input reads as it did. -/
def fnExactLeastDepthForSpec : ChangeSpec := { name := "fnExactLeastDepthFor", fn := fun _ => fun
  | [d1, d2] => { results := [.lit (.bool true)], args := [d1, d2] }
  | _ => none }
def fnExactLeastDepthForRow : OpenClaim := { program := "ytclkfhhdikfcpaa", sum := "c9770f8d7e63bca1f89db9d224cd3e070f98046c48004d8548ac61f914586064", func := "loop.example/g01084/laws.FnExactLeastDepthFor", spec := "fnExactLeastDepthFor", unfollowed := true, recurses := true, plainKeys := false, apart := false }
def FnExactLeastDepthForSaid : Prop := fnExactLeastDepthForRow.holds Try.pinned (OpenSpec.ofChange fnExactLeastDepthForSpec)

/-- ITS FALSE NEIGHBOUR: 'it returns false'. Refute it at one input. -/
def fnExactLeastDepthForWrong : ChangeSpec := { name := "fnExactLeastDepthFor", fn := fun _ => fun
  | [d1, d2] => { results := [.lit (.bool false)], args := [d1, d2] }
  | _ => none }
def FnExactLeastDepthForWrongFalsely : Prop := fnExactLeastDepthForRow.holds Try.pinned (OpenSpec.ofChange fnExactLeastDepthForWrong)

/-- 'laws.FnExactMeetTask': WHATEVER THE INPUT: true; the input reads as it did. -/
def fnExactMeetTaskSpec : ChangeSpec := { name := "fnExactMeetTask", fn := fun _ => fun
  | [d1, d2] => { results := [.lit (.bool true)], args := [d1, d2] }
  | _ => none }
def fnExactMeetTaskRow : OpenClaim := { program := "ytclkfhhdikfcpaa", sum := "c9770f8d7e63bca1f89db9d224cd3e070f98046c48004d8548ac61f914586064", func := "loop.example/g01084/laws.FnExactMeetTask", spec := "fnExactMeetTask", unfollowed := true, recurses := true, plainKeys := false, apart := false }
def FnExactMeetTaskSaid : Prop := fnExactMeetTaskRow.holds Try.pinned (OpenSpec.ofChange fnExactMeetTaskSpec)

/-- ITS FALSE NEIGHBOUR: 'it returns false'. Refute it at one input. -/
def fnExactMeetTaskWrong : ChangeSpec := { name := "fnExactMeetTask", fn := fun _ => fun
  | [d1, d2] => { results := [.lit (.bool false)], args := [d1, d2] }
  | _ => none }
def FnExactMeetTaskWrongFalsely : Prop := fnExactMeetTaskRow.holds Try.pinned (OpenSpec.ofChange fnExactMeetTaskWrong)

/-- 'laws.FnExactRefusalOf': WHATEVER THE INPUT: true; the input reads as it did. -/
def fnExactRefusalOfSpec : ChangeSpec := { name := "fnExactRefusalOf", fn := fun _ => fun
  | [d1, d2] => { results := [.lit (.bool true)], args := [d1, d2] }
  | _ => none }
def fnExactRefusalOfRow : OpenClaim := { program := "ytclkfhhdikfcpaa", sum := "c9770f8d7e63bca1f89db9d224cd3e070f98046c48004d8548ac61f914586064", func := "loop.example/g01084/laws.FnExactRefusalOf", spec := "fnExactRefusalOf", unfollowed := true, recurses := true, plainKeys := false, apart := false }
def FnExactRefusalOfSaid : Prop := fnExactRefusalOfRow.holds Try.pinned (OpenSpec.ofChange fnExactRefusalOfSpec)

/-- ITS FALSE NEIGHBOUR: 'it returns false'. Refute it at one input. -/
def fnExactRefusalOfWrong : ChangeSpec := { name := "fnExactRefusalOf", fn := fun _ => fun
  | [d1, d2] => { results := [.lit (.bool false)], args := [d1, d2] }
  | _ => none }
def FnExactRefusalOfWrongFalsely : Prop := fnExactRefusalOfRow.holds Try.pinned (OpenSpec.ofChange fnExactRefusalOfWrong)

/-- 'laws.FnExactCheckRefusal': WHATEVER THE INPUT: true; the input reads as it did. -/
def fnExactCheckRefusalSpec : ChangeSpec := { name := "fnExactCheckRefusal", fn := fun _ => fun
  | [d1, d2] => { results := [.lit (.bool true)], args := [d1, d2] }
  | _ => none }
def fnExactCheckRefusalRow : OpenClaim := { program := "ytclkfhhdikfcpaa", sum := "c9770f8d7e63bca1f89db9d224cd3e070f98046c48004d8548ac61f914586064", func := "loop.example/g01084/laws.FnExactCheckRefusal", spec := "fnExactCheckRefusal", unfollowed := true, recurses := true, plainKeys := false, apart := false }
def FnExactCheckRefusalSaid : Prop := fnExactCheckRefusalRow.holds Try.pinned (OpenSpec.ofChange fnExactCheckRefusalSpec)

/-- ITS FALSE NEIGHBOUR: 'it returns false'. Refute it at one input. -/
def fnExactCheckRefusalWrong : ChangeSpec := { name := "fnExactCheckRefusal", fn := fun _ => fun
  | [d1, d2] => { results := [.lit (.bool false)], args := [d1, d2] }
  | _ => none }
def FnExactCheckRefusalWrongFalsely : Prop := fnExactCheckRefusalRow.holds Try.pinned (OpenSpec.ofChange fnExactCheckRefusalWrong)

/- THE SECOND FORM. 'bulk': how many values and letters a reading holds, each counted each time it is reached (what is shared counts as often as it is met; a slice's spare places count too). A statement '..UptoSaid' is the law's where the arguments, and the package variables that the reading takes, are together of bulk at most 1048576: NARROWER than '..Said'. Prove '..Said' where nothing that the law and all that it calls make is longer than what came in: it says more and counts as full. Else prove '..UptoSaid'. A law counts once. -/
mutual
def uptoBulk {H : Type} : DataW H → Nat
  | .lit (.string bytes) => bytes.length + 1
  | .lit _ => 1
  | .nil => 1
  | .ptr d => uptoBulk d + 1
  | .slice elems spare => uptoBulkAll elems + uptoBulkAll spare + 1
  | .agg parts => uptoBulkAll parts + 1
  | .iface _ d => uptoBulk d + 1
  | .map entries => uptoBulkEntries entries + 1
  | .held _ => 1
def uptoBulkAll {H : Type} : List (DataW H) → Nat
  | [] => 0
  | d :: r => uptoBulk d + uptoBulkAll r
def uptoBulkEntries {H : Type} : List (Lit × DataW H) → Nat
  | [] => 0
  | x :: r => uptoBulkEntry x + uptoBulkEntries r
def uptoBulkEntry {H : Type} : Lit × DataW H → Nat
  | (.string bytes, d) => bytes.length + uptoBulk d + 1
  | (_, d) => uptoBulk d + 1
 end
def uptoSmall : (H : Type) → List (DataW H) → Bool := fun _ ds => decide (uptoBulkAll ds ≤ 1048576)
def OpenSpec.upto (s : _root_.Go.ChangeSpec) : _root_.Go.OpenSpec := { _root_.Go.OpenSpec.ofChange s with cond := some uptoSmall }

/-- 'laws.FnExactLabelMapBetween', WHERE WHAT IT READS IS OF BULK AT MOST 1048576: true; the input reads as it did. -/
def fnExactLabelMapBetweenUptoRow : OpenClaim := { program := "ytclkfhhdikfcpaa", sum := "c9770f8d7e63bca1f89db9d224cd3e070f98046c48004d8548ac61f914586064", func := "loop.example/g01084/laws.FnExactLabelMapBetween", spec := "fnExactLabelMapBetween", unfollowed := true, recurses := true, plainKeys := false, apart := false, narrowed := true }
def FnExactLabelMapBetweenUptoSaid : Prop := fnExactLabelMapBetweenUptoRow.holds Try.pinned (OpenSpec.upto fnExactLabelMapBetweenSpec)

/-- 'laws.FnExactZeroOriented', WHERE WHAT IT READS IS OF BULK AT MOST 1048576: true; the input reads as it did. -/
def fnExactZeroOrientedUptoRow : OpenClaim := { program := "ytclkfhhdikfcpaa", sum := "c9770f8d7e63bca1f89db9d224cd3e070f98046c48004d8548ac61f914586064", func := "loop.example/g01084/laws.FnExactZeroOriented", spec := "fnExactZeroOriented", unfollowed := true, recurses := true, plainKeys := false, apart := false, narrowed := true }
def FnExactZeroOrientedUptoSaid : Prop := fnExactZeroOrientedUptoRow.holds Try.pinned (OpenSpec.upto fnExactZeroOrientedSpec)

/-- 'laws.FnExactCanMeetAt', WHERE WHAT IT READS IS OF BULK AT MOST 1048576: true; the input reads as it did. -/
def fnExactCanMeetAtUptoRow : OpenClaim := { program := "ytclkfhhdikfcpaa", sum := "c9770f8d7e63bca1f89db9d224cd3e070f98046c48004d8548ac61f914586064", func := "loop.example/g01084/laws.FnExactCanMeetAt", spec := "fnExactCanMeetAt", unfollowed := true, recurses := true, plainKeys := false, apart := false, narrowed := true }
def FnExactCanMeetAtUptoSaid : Prop := fnExactCanMeetAtUptoRow.holds Try.pinned (OpenSpec.upto fnExactCanMeetAtSpec)

/-- 'laws.FnExactLeastDepthFor', WHERE WHAT IT READS IS OF BULK AT MOST 1048576: true; the input reads as it did. -/
def fnExactLeastDepthForUptoRow : OpenClaim := { program := "ytclkfhhdikfcpaa", sum := "c9770f8d7e63bca1f89db9d224cd3e070f98046c48004d8548ac61f914586064", func := "loop.example/g01084/laws.FnExactLeastDepthFor", spec := "fnExactLeastDepthFor", unfollowed := true, recurses := true, plainKeys := false, apart := false, narrowed := true }
def FnExactLeastDepthForUptoSaid : Prop := fnExactLeastDepthForUptoRow.holds Try.pinned (OpenSpec.upto fnExactLeastDepthForSpec)

/-- 'laws.FnExactMeetTask', WHERE WHAT IT READS IS OF BULK AT MOST 1048576: true; the input reads as it did. -/
def fnExactMeetTaskUptoRow : OpenClaim := { program := "ytclkfhhdikfcpaa", sum := "c9770f8d7e63bca1f89db9d224cd3e070f98046c48004d8548ac61f914586064", func := "loop.example/g01084/laws.FnExactMeetTask", spec := "fnExactMeetTask", unfollowed := true, recurses := true, plainKeys := false, apart := false, narrowed := true }
def FnExactMeetTaskUptoSaid : Prop := fnExactMeetTaskUptoRow.holds Try.pinned (OpenSpec.upto fnExactMeetTaskSpec)

/-- 'laws.FnExactRefusalOf', WHERE WHAT IT READS IS OF BULK AT MOST 1048576: true; the input reads as it did. -/
def fnExactRefusalOfUptoRow : OpenClaim := { program := "ytclkfhhdikfcpaa", sum := "c9770f8d7e63bca1f89db9d224cd3e070f98046c48004d8548ac61f914586064", func := "loop.example/g01084/laws.FnExactRefusalOf", spec := "fnExactRefusalOf", unfollowed := true, recurses := true, plainKeys := false, apart := false, narrowed := true }
def FnExactRefusalOfUptoSaid : Prop := fnExactRefusalOfUptoRow.holds Try.pinned (OpenSpec.upto fnExactRefusalOfSpec)

/-- 'laws.FnExactCheckRefusal', WHERE WHAT IT READS IS OF BULK AT MOST 1048576: true; the input reads as it did. -/
def fnExactCheckRefusalUptoRow : OpenClaim := { program := "ytclkfhhdikfcpaa", sum := "c9770f8d7e63bca1f89db9d224cd3e070f98046c48004d8548ac61f914586064", func := "loop.example/g01084/laws.FnExactCheckRefusal", spec := "fnExactCheckRefusal", unfollowed := true, recurses := true, plainKeys := false, apart := false, narrowed := true }
def FnExactCheckRefusalUptoSaid : Prop := fnExactCheckRefusalUptoRow.holds Try.pinned (OpenSpec.upto fnExactCheckRefusalSpec)

end Rows
end Go.Proofs.Ytclkfhhdikfcpaa
