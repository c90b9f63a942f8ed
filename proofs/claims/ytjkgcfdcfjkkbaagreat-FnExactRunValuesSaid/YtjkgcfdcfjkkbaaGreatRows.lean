/-
  No cell of these rows narrows 'for every input' (looked for: loops, veiled, ifaces, maps, wideKeys, modest, calm, conditions, laid).
  DERIVED. THE GIVEN ROWS OF THIS SEAT. 3 by the template 'for every input the law returns true; each argument reads behind the call as it read before'; 0 by the template 'total and deterministic' (their statements: YtjkgcfdcfjkkbaaGreatTotals.lean).
  GIVEN WITH THE SEED: the statements are not yours to turn. If you find one false, say at which input.
  Laid BY PROGRAM, IN A SANDBOX (cutbox-rows.mjs): the forced cells as the released guide's own fill.sh prints them over the translation 50cc3fb2bdf78b26… (all of the seat's roots in one cut). By AI agents, Wed Nov 11 2026. No macro, syntax, notation, axiom, sorry.
-/
import Derived.Test.YtjkgcfdcfjkkbaaGreatChecked
import GoSem.Claim
import GoSem.ClaimJoined
import GoSem.ClaimMapViews
import Derived.JoinedTies
import Derived.KernelRfl
namespace Go.Proofs.YtjkgcfdcfjkkbaaGreat
/- THE CELL 'sum', in the pinned program and in every row, IS THE sha256 OF THE DUMP (.gsa) THAT YtjkgcfdcfjkkbaaGreatProg.lean LOADS. Nothing in Lean hashes anything: it is a label: what it is worth is what the hold of that sum in a sandbox is worth. -/
noncomputable def Tryz.pinned : Pinned := { name := "ytjkgcfdcfjkkbaagreat", sum := "50cc3fb2bdf78b269749655cc281c649ab34cce9b847c716697025cd4b208d0a", checked := Tryz.checked }
namespace Rows
def none {H : Type} : Left H := { results := [], args := [] }

/-- 'laws.FnExactZeroLabeling': WHATEVER THE INPUT: true; the input reads as it did. -/
def fnExactZeroLabelingSpec : ChangeSpec := { name := "fnExactZeroLabeling", fn := fun _ => fun
  | [d1, d2] => { results := [.lit (.bool true)], args := [d1, d2] }
  | _ => none }
def fnExactZeroLabelingRow : OpenClaim := { program := "ytjkgcfdcfjkkbaagreat", sum := "50cc3fb2bdf78b269749655cc281c649ab34cce9b847c716697025cd4b208d0a", func := "loop.example/g01084/laws.FnExactZeroLabeling", spec := "fnExactZeroLabeling", unfollowed := true, recurses := true, apart := false }
def FnExactZeroLabelingSaid : Prop := fnExactZeroLabelingRow.holds Tryz.pinned (OpenSpec.ofChange fnExactZeroLabelingSpec)

/-- ITS FALSE NEIGHBOUR: 'it returns false'. Refute it at one input. -/
def fnExactZeroLabelingWrong : ChangeSpec := { name := "fnExactZeroLabeling", fn := fun _ => fun
  | [d1, d2] => { results := [.lit (.bool false)], args := [d1, d2] }
  | _ => none }
def FnExactZeroLabelingWrongFalsely : Prop := fnExactZeroLabelingRow.holds Tryz.pinned (OpenSpec.ofChange fnExactZeroLabelingWrong)

/-- 'laws.FnExactRunValues': WHATEVER THE INPUT: true; the input reads as it did. -/
def fnExactRunValuesSpec : ChangeSpec := { name := "fnExactRunValues", fn := fun _ => fun
  | [d1, d2, d3, d4] => { results := [.lit (.bool true)], args := [d1, d2, d3, d4] }
  | _ => none }
def fnExactRunValuesRow : OpenClaim := { program := "ytjkgcfdcfjkkbaagreat", sum := "50cc3fb2bdf78b269749655cc281c649ab34cce9b847c716697025cd4b208d0a", func := "loop.example/g01084/laws.FnExactRunValues", spec := "fnExactRunValues", unfollowed := true, recurses := true, apart := false }
def FnExactRunValuesSaid : Prop := fnExactRunValuesRow.holds Tryz.pinned (OpenSpec.ofChange fnExactRunValuesSpec)

/-- ITS FALSE NEIGHBOUR: 'it returns false'. Refute it at one input. -/
def fnExactRunValuesWrong : ChangeSpec := { name := "fnExactRunValues", fn := fun _ => fun
  | [d1, d2, d3, d4] => { results := [.lit (.bool false)], args := [d1, d2, d3, d4] }
  | _ => none }
def FnExactRunValuesWrongFalsely : Prop := fnExactRunValuesRow.holds Tryz.pinned (OpenSpec.ofChange fnExactRunValuesWrong)

/-- 'laws.FnExactValuesAfter': WHATEVER THE INPUT: true; the input reads as it did. -/
def fnExactValuesAfterSpec : ChangeSpec := { name := "fnExactValuesAfter", fn := fun _ => fun
  | [d1, d2, d3, d4] => { results := [.lit (.bool true)], args := [d1, d2, d3, d4] }
  | _ => none }
def fnExactValuesAfterRow : OpenClaim := { program := "ytjkgcfdcfjkkbaagreat", sum := "50cc3fb2bdf78b269749655cc281c649ab34cce9b847c716697025cd4b208d0a", func := "loop.example/g01084/laws.FnExactValuesAfter", spec := "fnExactValuesAfter", unfollowed := true, recurses := true, apart := false }
def FnExactValuesAfterSaid : Prop := fnExactValuesAfterRow.holds Tryz.pinned (OpenSpec.ofChange fnExactValuesAfterSpec)

/-- ITS FALSE NEIGHBOUR: 'it returns false'. Refute it at one input. -/
def fnExactValuesAfterWrong : ChangeSpec := { name := "fnExactValuesAfter", fn := fun _ => fun
  | [d1, d2, d3, d4] => { results := [.lit (.bool false)], args := [d1, d2, d3, d4] }
  | _ => none }
def FnExactValuesAfterWrongFalsely : Prop := fnExactValuesAfterRow.holds Tryz.pinned (OpenSpec.ofChange fnExactValuesAfterWrong)

/- THE SECOND FORM. 'bulk': how many values and letters a reading holds, each counted each time it is reached (what is shared counts as often as it is met; a slice's spare places count too). A statement '..UptoSaid' is the law's where the arguments, and the package variables that the reading takes, are together of bulk at most 1048576: NARROWER than '..Said'. Prove '..Said' where nothing that the law and all that it calls make is longer than what came in: it says more and counts as full. Else prove '..UptoSaid'. A law counts once. -/
mutual
def uptoBulk {H : Type} : DataW H → Nat
  | .lit (.string bytes) => bytes.length + 1
  | .lit _ => 1
  | .nil => 1
  | .ptr d => uptoBulk d + 1
  | .slice elems spare => uptoBulkAll elems + uptoBulkAll spare + 1
  | .agg parts => uptoBulkAll parts + 1
  | .iface _ d => uptoBulk d + 1
  | .map entries => uptoBulkEntries entries + 1
  | .held _ => 1
def uptoBulkAll {H : Type} : List (DataW H) → Nat
  | [] => 0
  | d :: r => uptoBulk d + uptoBulkAll r
def uptoBulkEntries {H : Type} : List (Lit × DataW H) → Nat
  | [] => 0
  | x :: r => uptoBulkEntry x + uptoBulkEntries r
def uptoBulkEntry {H : Type} : Lit × DataW H → Nat
  | (.string bytes, d) => bytes.length + uptoBulk d + 1
  | (_, d) => uptoBulk d + 1
 end
def uptoSmall : (H : Type) → List (DataW H) → Bool := fun _ ds => decide (uptoBulkAll ds ≤ 1048576)
def OpenSpec.upto (s : _root_.Go.ChangeSpec) : _root_.Go.OpenSpec := { _root_.Go.OpenSpec.ofChange s with cond := some uptoSmall }

/-- 'laws.FnExactZeroLabeling', WHERE WHAT IT READS IS OF BULK AT MOST 1048576: true; the input reads as it did. -/
def fnExactZeroLabelingUptoRow : OpenClaim := { program := "ytjkgcfdcfjkkbaagreat", sum := "50cc3fb2bdf78b269749655cc281c649ab34cce9b847c716697025cd4b208d0a", func := "loop.example/g01084/laws.FnExactZeroLabeling", spec := "fnExactZeroLabeling", unfollowed := true, recurses := true, apart := false, narrowed := true }
def FnExactZeroLabelingUptoSaid : Prop := fnExactZeroLabelingUptoRow.holds Tryz.pinned (OpenSpec.upto fnExactZeroLabelingSpec)

/-- 'laws.FnExactRunValues', WHERE WHAT IT READS IS OF BULK AT MOST 1048576: true; the input reads as it did. -/
def fnExactRunValuesUptoRow : OpenClaim := { program := "ytjkgcfdcfjkkbaagreat", sum := "50cc3fb2bdf78b269749655cc281c649ab34cce9b847c716697025cd4b208d0a", func := "loop.example/g01084/laws.FnExactRunValues", spec := "fnExactRunValues", unfollowed := true, recurses := true, apart := false, narrowed := true }
def FnExactRunValuesUptoSaid : Prop := fnExactRunValuesUptoRow.holds Tryz.pinned (OpenSpec.upto fnExactRunValuesSpec)

/-- 'laws.FnExactValuesAfter', WHERE WHAT IT READS IS OF BULK AT MOST 1048576: true; the input reads as it did. -/
def fnExactValuesAfterUptoRow : OpenClaim := { program := "ytjkgcfdcfjkkbaagreat", sum := "50cc3fb2bdf78b269749655cc281c649ab34cce9b847c716697025cd4b208d0a", func := "loop.example/g01084/laws.FnExactValuesAfter", spec := "fnExactValuesAfter", unfollowed := true, recurses := true, apart := false, narrowed := true }
def FnExactValuesAfterUptoSaid : Prop := fnExactValuesAfterUptoRow.holds Tryz.pinned (OpenSpec.upto fnExactValuesAfterSpec)

end Rows
end Go.Proofs.YtjkgcfdcfjkkbaaGreat
