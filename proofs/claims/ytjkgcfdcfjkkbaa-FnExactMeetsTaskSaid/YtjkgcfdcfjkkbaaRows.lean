/-
  No cell of these rows narrows 'for every input' (looked for: loops, veiled, ifaces, maps, wideKeys, modest, calm, conditions, laid).
  DERIVED. THE GIVEN ROWS OF THIS SEAT. 5 by the template 'for every input the law returns true; each argument reads behind the call as it read before'; 0 by the template 'total and deterministic' (their statements: YtjkgcfdcfjkkbaaTotals.lean).
  GIVEN WITH THE SEED: the statements are not yours to turn. If you find one false, say at which input.
  Laid BY PROGRAM, IN A SANDBOX (cutbox-rows.mjs): the forced cells as the released guide's own fill.sh prints them over the translation 844ef88d5f917df4… (all of the seat's roots in one cut). By AI agents, Wed Nov 11 2026. No macro, syntax, notation, axiom, sorry.
-/
import Derived.Test.YtjkgcfdcfjkkbaaChecked
import GoSem.Claim
import GoSem.ClaimJoined
import GoSem.ClaimMapViews
import Derived.JoinedTies
import Derived.KernelRfl
namespace Go.Proofs.Ytjkgcfdcfjkkbaa
/- THE CELL 'sum', in the pinned program and in every row, IS THE sha256 OF THE DUMP (.gsa) THAT YtjkgcfdcfjkkbaaProg.lean LOADS. Nothing in Lean hashes anything: it is a label: what it is worth is what the hold of that sum in a sandbox is worth. -/
noncomputable def Try.pinned : Pinned := { name := "ytjkgcfdcfjkkbaa", sum := "844ef88d5f917df4931a1c421b7cc9950bd8322916732324f7575794f940f576", checked := Try.checked }
namespace Rows
def none {H : Type} : Left H := { results := [], args := [] }

/-- 'laws.FnExactRankIds': WHATEVER THE INPUT: true; the input reads as it did. -/
def fnExactRankIdsSpec : ChangeSpec := { name := "fnExactRankIds", fn := fun _ => fun
  | [d] => { results := [.lit (.bool true)], args := [d] }
  | _ => none }
def fnExactRankIdsRow : OpenClaim := { program := "ytjkgcfdcfjkkbaa", sum := "844ef88d5f917df4931a1c421b7cc9950bd8322916732324f7575794f940f576", func := "loop.example/g01084/laws.FnExactRankIds", spec := "fnExactRankIds", unfollowed := true, recurses := true, apart := false }
def FnExactRankIdsSaid : Prop := fnExactRankIdsRow.holds Try.pinned (OpenSpec.ofChange fnExactRankIdsSpec)

/-- ITS FALSE NEIGHBOUR: 'it returns false'. Refute it at one input. -/
def fnExactRankIdsWrong : ChangeSpec := { name := "fnExactRankIds", fn := fun _ => fun
  | [d] => { results := [.lit (.bool false)], args := [d] }
  | _ => none }
def FnExactRankIdsWrongFalsely : Prop := fnExactRankIdsRow.holds Try.pinned (OpenSpec.ofChange fnExactRankIdsWrong)

/-- 'laws.FnExactIsPartial': WHATEVER THE INPUT: true; the input reads as it did. -/
def fnExactIsPartialSpec : ChangeSpec := { name := "fnExactIsPartial", fn := fun _ => fun
  | [d1, d2, d3] => { results := [.lit (.bool true)], args := [d1, d2, d3] }
  | _ => none }
def fnExactIsPartialRow : OpenClaim := { program := "ytjkgcfdcfjkkbaa", sum := "844ef88d5f917df4931a1c421b7cc9950bd8322916732324f7575794f940f576", func := "loop.example/g01084/laws.FnExactIsPartial", spec := "fnExactIsPartial", unfollowed := true, recurses := true, apart := false }
def FnExactIsPartialSaid : Prop := fnExactIsPartialRow.holds Try.pinned (OpenSpec.ofChange fnExactIsPartialSpec)

/-- ITS FALSE NEIGHBOUR: 'it returns false'. Refute it at one input. -/
def fnExactIsPartialWrong : ChangeSpec := { name := "fnExactIsPartial", fn := fun _ => fun
  | [d1, d2, d3] => { results := [.lit (.bool false)], args := [d1, d2, d3] }
  | _ => none }
def FnExactIsPartialWrongFalsely : Prop := fnExactIsPartialRow.holds Try.pinned (OpenSpec.ofChange fnExactIsPartialWrong)

/-- 'laws.FnExactMeetsTask': WHATEVER THE INPUT: true; the input reads as it did. -/
def fnExactMeetsTaskSpec : ChangeSpec := { name := "fnExactMeetsTask", fn := fun _ => fun
  | [d1, d2, d3] => { results := [.lit (.bool true)], args := [d1, d2, d3] }
  | _ => none }
def fnExactMeetsTaskRow : OpenClaim := { program := "ytjkgcfdcfjkkbaa", sum := "844ef88d5f917df4931a1c421b7cc9950bd8322916732324f7575794f940f576", func := "loop.example/g01084/laws.FnExactMeetsTask", spec := "fnExactMeetsTask", unfollowed := true, recurses := true, apart := false }
def FnExactMeetsTaskSaid : Prop := fnExactMeetsTaskRow.holds Try.pinned (OpenSpec.ofChange fnExactMeetsTaskSpec)

/-- ITS FALSE NEIGHBOUR: 'it returns false'. Refute it at one input. -/
def fnExactMeetsTaskWrong : ChangeSpec := { name := "fnExactMeetsTask", fn := fun _ => fun
  | [d1, d2, d3] => { results := [.lit (.bool false)], args := [d1, d2, d3] }
  | _ => none }
def FnExactMeetsTaskWrongFalsely : Prop := fnExactMeetsTaskRow.holds Try.pinned (OpenSpec.ofChange fnExactMeetsTaskWrong)

/-- 'laws.FnExactStepValues': WHATEVER THE INPUT: true; the input reads as it did. -/
def fnExactStepValuesSpec : ChangeSpec := { name := "fnExactStepValues", fn := fun _ => fun
  | [d1, d2, d3, d4] => { results := [.lit (.bool true)], args := [d1, d2, d3, d4] }
  | _ => none }
def fnExactStepValuesRow : OpenClaim := { program := "ytjkgcfdcfjkkbaa", sum := "844ef88d5f917df4931a1c421b7cc9950bd8322916732324f7575794f940f576", func := "loop.example/g01084/laws.FnExactStepValues", spec := "fnExactStepValues", unfollowed := true, recurses := true, apart := false }
def FnExactStepValuesSaid : Prop := fnExactStepValuesRow.holds Try.pinned (OpenSpec.ofChange fnExactStepValuesSpec)

/-- ITS FALSE NEIGHBOUR: 'it returns false'. Refute it at one input. -/
def fnExactStepValuesWrong : ChangeSpec := { name := "fnExactStepValues", fn := fun _ => fun
  | [d1, d2, d3, d4] => { results := [.lit (.bool false)], args := [d1, d2, d3, d4] }
  | _ => none }
def FnExactStepValuesWrongFalsely : Prop := fnExactStepValuesRow.holds Try.pinned (OpenSpec.ofChange fnExactStepValuesWrong)

/-- 'laws.FnExactRestRound': WHATEVER THE INPUT: true; the input reads as it did. -/
def fnExactRestRoundSpec : ChangeSpec := { name := "fnExactRestRound", fn := fun _ => fun
  | [d1, d2, d3, d4] => { results := [.lit (.bool true)], args := [d1, d2, d3, d4] }
  | _ => none }
def fnExactRestRoundRow : OpenClaim := { program := "ytjkgcfdcfjkkbaa", sum := "844ef88d5f917df4931a1c421b7cc9950bd8322916732324f7575794f940f576", func := "loop.example/g01084/laws.FnExactRestRound", spec := "fnExactRestRound", unfollowed := true, recurses := true, apart := false }
def FnExactRestRoundSaid : Prop := fnExactRestRoundRow.holds Try.pinned (OpenSpec.ofChange fnExactRestRoundSpec)

/-- ITS FALSE NEIGHBOUR: 'it returns false'. Refute it at one input. -/
def fnExactRestRoundWrong : ChangeSpec := { name := "fnExactRestRound", fn := fun _ => fun
  | [d1, d2, d3, d4] => { results := [.lit (.bool false)], args := [d1, d2, d3, d4] }
  | _ => none }
def FnExactRestRoundWrongFalsely : Prop := fnExactRestRoundRow.holds Try.pinned (OpenSpec.ofChange fnExactRestRoundWrong)

/- THE SECOND FORM. 'bulk': how many values and letters a reading holds, each counted each time it is reached (what is shared counts as often as it is met; a slice's spare places count too). A statement '..UptoSaid' is the law's where the arguments, and the package variables that the reading takes, are together of bulk at most 1048576: NARROWER than '..Said'. Prove '..Said' where nothing that the law and all that it calls make is longer than what came in: it says more and counts as full. Else prove '..UptoSaid'. A law counts once. -/
mutual
def uptoBulk {H : Type} : DataW H → Nat
  | .lit (.string bytes) => bytes.length + 1
  | .lit _ => 1
  | .nil => 1
  | .ptr d => uptoBulk d + 1
  | .slice elems spare => uptoBulkAll elems + uptoBulkAll spare + 1
  | .agg parts => uptoBulkAll parts + 1
  | .iface _ d => uptoBulk d + 1
  | .map entries => uptoBulkEntries entries + 1
  | .held _ => 1
def uptoBulkAll {H : Type} : List (DataW H) → Nat
  | [] => 0
  | d :: r => uptoBulk d + uptoBulkAll r
def uptoBulkEntries {H : Type} : List (Lit × DataW H) → Nat
  | [] => 0
  | x :: r => uptoBulkEntry x + uptoBulkEntries r
def uptoBulkEntry {H : Type} : Lit × DataW H → Nat
  | (.string bytes, d) => bytes.length + uptoBulk d + 1
  | (_, d) => uptoBulk d + 1
 end
def uptoSmall : (H : Type) → List (DataW H) → Bool := fun _ ds => decide (uptoBulkAll ds ≤ 1048576)
def OpenSpec.upto (s : _root_.Go.ChangeSpec) : _root_.Go.OpenSpec := { _root_.Go.OpenSpec.ofChange s with cond := some uptoSmall }

/-- 'laws.FnExactRankIds', WHERE WHAT IT READS IS OF BULK AT MOST 1048576: true; the input reads as it did. -/
def fnExactRankIdsUptoRow : OpenClaim := { program := "ytjkgcfdcfjkkbaa", sum := "844ef88d5f917df4931a1c421b7cc9950bd8322916732324f7575794f940f576", func := "loop.example/g01084/laws.FnExactRankIds", spec := "fnExactRankIds", unfollowed := true, recurses := true, apart := false, narrowed := true }
def FnExactRankIdsUptoSaid : Prop := fnExactRankIdsUptoRow.holds Try.pinned (OpenSpec.upto fnExactRankIdsSpec)

/-- 'laws.FnExactIsPartial', WHERE WHAT IT READS IS OF BULK AT MOST 1048576: true; the input reads as it did. -/
def fnExactIsPartialUptoRow : OpenClaim := { program := "ytjkgcfdcfjkkbaa", sum := "844ef88d5f917df4931a1c421b7cc9950bd8322916732324f7575794f940f576", func := "loop.example/g01084/laws.FnExactIsPartial", spec := "fnExactIsPartial", unfollowed := true, recurses := true, apart := false, narrowed := true }
def FnExactIsPartialUptoSaid : Prop := fnExactIsPartialUptoRow.holds Try.pinned (OpenSpec.upto fnExactIsPartialSpec)

/-- 'laws.FnExactMeetsTask', WHERE WHAT IT READS IS OF BULK AT MOST 1048576: true; the input reads as it did. -/
def fnExactMeetsTaskUptoRow : OpenClaim := { program := "ytjkgcfdcfjkkbaa", sum := "844ef88d5f917df4931a1c421b7cc9950bd8322916732324f7575794f940f576", func := "loop.example/g01084/laws.FnExactMeetsTask", spec := "fnExactMeetsTask", unfollowed := true, recurses := true, apart := false, narrowed := true }
def FnExactMeetsTaskUptoSaid : Prop := fnExactMeetsTaskUptoRow.holds Try.pinned (OpenSpec.upto fnExactMeetsTaskSpec)

/-- 'laws.FnExactStepValues', WHERE WHAT IT READS IS OF BULK AT MOST 1048576: true; the input reads as it did. -/
def fnExactStepValuesUptoRow : OpenClaim := { program := "ytjkgcfdcfjkkbaa", sum := "844ef88d5f917df4931a1c421b7cc9950bd8322916732324f7575794f940f576", func := "loop.example/g01084/laws.FnExactStepValues", spec := "fnExactStepValues", unfollowed := true, recurses := true, apart := false, narrowed := true }
def FnExactStepValuesUptoSaid : Prop := fnExactStepValuesUptoRow.holds Try.pinned (OpenSpec.upto fnExactStepValuesSpec)

/-- 'laws.FnExactRestRound', WHERE WHAT IT READS IS OF BULK AT MOST 1048576: true; the input reads as it did. -/
def fnExactRestRoundUptoRow : OpenClaim := { program := "ytjkgcfdcfjkkbaa", sum := "844ef88d5f917df4931a1c421b7cc9950bd8322916732324f7575794f940f576", func := "loop.example/g01084/laws.FnExactRestRound", spec := "fnExactRestRound", unfollowed := true, recurses := true, apart := false, narrowed := true }
def FnExactRestRoundUptoSaid : Prop := fnExactRestRoundUptoRow.holds Try.pinned (OpenSpec.upto fnExactRestRoundSpec)

end Rows
end Go.Proofs.Ytjkgcfdcfjkkbaa
