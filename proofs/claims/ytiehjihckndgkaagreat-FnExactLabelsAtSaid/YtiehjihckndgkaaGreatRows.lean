/-
  No cell of these rows narrows 'for every input' (looked for: loops, veiled, ifaces, maps, wideKeys, modest, calm, conditions, laid).
  DERIVED. THE GIVEN ROWS OF THIS SEAT. 4 by the template 'for every input the law returns true; each argument reads behind the call as it read before'; 0 by the template 'total and deterministic' (their statements: YtiehjihckndgkaaGreatTotals.lean).
  GIVEN WITH THE SEED: the statements are not yours to turn. If you find one false, say at which input.
  Laid BY PROGRAM, IN A SANDBOX (cutbox-rows.mjs): the forced cells as the released guide's own fill.sh prints them over the translation 08b8248e22504bda… (all of the seat's roots in one cut). By AI agents, Wed Nov 11 2026. No macro, syntax, notation, axiom, sorry.
-/
import Derived.Test.YtiehjihckndgkaaGreatChecked
import GoSem.Claim
import GoSem.ClaimJoined
import GoSem.ClaimMapViews
import Derived.JoinedTies
import Derived.KernelRfl
namespace Go.Proofs.YtiehjihckndgkaaGreat
/- THE CELL 'sum', in the pinned program and in every row, IS THE sha256 OF THE DUMP (.gsa) THAT YtiehjihckndgkaaGreatProg.lean LOADS. Nothing in Lean hashes anything: it is a label: what it is worth is what the hold of that sum in a sandbox is worth. -/
noncomputable def Tryz.pinned : Pinned := { name := "ytiehjihckndgkaagreat", sum := "08b8248e22504bdaa4e303264c590bc1020c9acb0c95fa333f2c457e76ee7404", checked := Tryz.checked }
namespace Rows
def none {H : Type} : Left H := { results := [], args := [] }

/-- 'laws.FnExactPortMasks': WHATEVER THE INPUT: true; the input reads as it did. -/
def fnExactPortMasksSpec : ChangeSpec := { name := "fnExactPortMasks", fn := fun _ => fun
  | [d1, d2, d3] => { results := [.lit (.bool true)], args := [d1, d2, d3] }
  | _ => none }
def fnExactPortMasksRow : OpenClaim := { program := "ytiehjihckndgkaagreat", sum := "08b8248e22504bdaa4e303264c590bc1020c9acb0c95fa333f2c457e76ee7404", func := "loop.example/g01084/laws.FnExactPortMasks", spec := "fnExactPortMasks", unfollowed := true, recurses := true, apart := false }
def FnExactPortMasksSaid : Prop := fnExactPortMasksRow.holds Tryz.pinned (OpenSpec.ofChange fnExactPortMasksSpec)

/-- ITS FALSE NEIGHBOUR: 'it returns false'. Refute it at one input. -/
def fnExactPortMasksWrong : ChangeSpec := { name := "fnExactPortMasks", fn := fun _ => fun
  | [d1, d2, d3] => { results := [.lit (.bool false)], args := [d1, d2, d3] }
  | _ => none }
def FnExactPortMasksWrongFalsely : Prop := fnExactPortMasksRow.holds Tryz.pinned (OpenSpec.ofChange fnExactPortMasksWrong)

/-- 'laws.FnExactSolveForest': WHATEVER THE INPUT: true; the input reads as it did. -/
def fnExactSolveForestSpec : ChangeSpec := { name := "fnExactSolveForest", fn := fun _ => fun
  | [d1, d2] => { results := [.lit (.bool true)], args := [d1, d2] }
  | _ => none }
def fnExactSolveForestRow : OpenClaim := { program := "ytiehjihckndgkaagreat", sum := "08b8248e22504bdaa4e303264c590bc1020c9acb0c95fa333f2c457e76ee7404", func := "loop.example/g01084/laws.FnExactSolveForest", spec := "fnExactSolveForest", unfollowed := true, recurses := true, apart := false }
def FnExactSolveForestSaid : Prop := fnExactSolveForestRow.holds Tryz.pinned (OpenSpec.ofChange fnExactSolveForestSpec)

/-- ITS FALSE NEIGHBOUR: 'it returns false'. Refute it at one input. -/
def fnExactSolveForestWrong : ChangeSpec := { name := "fnExactSolveForest", fn := fun _ => fun
  | [d1, d2] => { results := [.lit (.bool false)], args := [d1, d2] }
  | _ => none }
def FnExactSolveForestWrongFalsely : Prop := fnExactSolveForestRow.holds Tryz.pinned (OpenSpec.ofChange fnExactSolveForestWrong)

/-- 'laws.FnExactLabelsAt': WHATEVER THE INPUT: true; the input reads as it did. -/
def fnExactLabelsAtSpec : ChangeSpec := { name := "fnExactLabelsAt", fn := fun _ => fun
  | [d1, d2, d3, d4] => { results := [.lit (.bool true)], args := [d1, d2, d3, d4] }
  | _ => none }
def fnExactLabelsAtRow : OpenClaim := { program := "ytiehjihckndgkaagreat", sum := "08b8248e22504bdaa4e303264c590bc1020c9acb0c95fa333f2c457e76ee7404", func := "loop.example/g01084/laws.FnExactLabelsAt", spec := "fnExactLabelsAt", unfollowed := true, recurses := true, apart := false }
def FnExactLabelsAtSaid : Prop := fnExactLabelsAtRow.holds Tryz.pinned (OpenSpec.ofChange fnExactLabelsAtSpec)

/-- ITS FALSE NEIGHBOUR: 'it returns false'. Refute it at one input. -/
def fnExactLabelsAtWrong : ChangeSpec := { name := "fnExactLabelsAt", fn := fun _ => fun
  | [d1, d2, d3, d4] => { results := [.lit (.bool false)], args := [d1, d2, d3, d4] }
  | _ => none }
def FnExactLabelsAtWrongFalsely : Prop := fnExactLabelsAtRow.holds Tryz.pinned (OpenSpec.ofChange fnExactLabelsAtWrong)

/-- 'laws.FnExactCountOnForest': WHATEVER THE INPUT: true; the input reads as it did. -/
def fnExactCountOnForestSpec : ChangeSpec := { name := "fnExactCountOnForest", fn := fun _ => fun
  | [d1, d2] => { results := [.lit (.bool true)], args := [d1, d2] }
  | _ => none }
def fnExactCountOnForestRow : OpenClaim := { program := "ytiehjihckndgkaagreat", sum := "08b8248e22504bdaa4e303264c590bc1020c9acb0c95fa333f2c457e76ee7404", func := "loop.example/g01084/laws.FnExactCountOnForest", spec := "fnExactCountOnForest", unfollowed := true, recurses := true, apart := false }
def FnExactCountOnForestSaid : Prop := fnExactCountOnForestRow.holds Tryz.pinned (OpenSpec.ofChange fnExactCountOnForestSpec)

/-- ITS FALSE NEIGHBOUR: 'it returns false'. Refute it at one input. -/
def fnExactCountOnForestWrong : ChangeSpec := { name := "fnExactCountOnForest", fn := fun _ => fun
  | [d1, d2] => { results := [.lit (.bool false)], args := [d1, d2] }
  | _ => none }
def FnExactCountOnForestWrongFalsely : Prop := fnExactCountOnForestRow.holds Tryz.pinned (OpenSpec.ofChange fnExactCountOnForestWrong)

/- THE SECOND FORM. 'bulk': how many values and letters a reading holds, each counted each time it is reached (what is shared counts as often as it is met; a slice's spare places count too). A statement '..UptoSaid' is the law's where the arguments, and the package variables that the reading takes, are together of bulk at most 1048576: NARROWER than '..Said'. Prove '..Said' where nothing that the law and all that it calls make is longer than what came in: it says more and counts as full. Else prove '..UptoSaid'. A law counts once. -/
mutual
def uptoBulk {H : Type} : DataW H → Nat
  | .lit (.string bytes) => bytes.length + 1
  | .lit _ => 1
  | .nil => 1
  | .ptr d => uptoBulk d + 1
  | .slice elems spare => uptoBulkAll elems + uptoBulkAll spare + 1
  | .agg parts => uptoBulkAll parts + 1
  | .iface _ d => uptoBulk d + 1
  | .map entries => uptoBulkEntries entries + 1
  | .held _ => 1
def uptoBulkAll {H : Type} : List (DataW H) → Nat
  | [] => 0
  | d :: r => uptoBulk d + uptoBulkAll r
def uptoBulkEntries {H : Type} : List (Lit × DataW H) → Nat
  | [] => 0
  | x :: r => uptoBulkEntry x + uptoBulkEntries r
def uptoBulkEntry {H : Type} : Lit × DataW H → Nat
  | (.string bytes, d) => bytes.length + uptoBulk d + 1
  | (_, d) => uptoBulk d + 1
 end
def uptoSmall : (H : Type) → List (DataW H) → Bool := fun _ ds => decide (uptoBulkAll ds ≤ 1048576)
def OpenSpec.upto (s : _root_.Go.ChangeSpec) : _root_.Go.OpenSpec := { _root_.Go.OpenSpec.ofChange s with cond := some uptoSmall }

/-- 'laws.FnExactPortMasks', WHERE WHAT IT READS IS OF BULK AT MOST 1048576: true; the input reads as it did. -/
def fnExactPortMasksUptoRow : OpenClaim := { program := "ytiehjihckndgkaagreat", sum := "08b8248e22504bdaa4e303264c590bc1020c9acb0c95fa333f2c457e76ee7404", func := "loop.example/g01084/laws.FnExactPortMasks", spec := "fnExactPortMasks", unfollowed := true, recurses := true, apart := false, narrowed := true }
def FnExactPortMasksUptoSaid : Prop := fnExactPortMasksUptoRow.holds Tryz.pinned (OpenSpec.upto fnExactPortMasksSpec)

/-- 'laws.FnExactSolveForest', WHERE WHAT IT READS IS OF BULK AT MOST 1048576: true; the input reads as it did. -/
def fnExactSolveForestUptoRow : OpenClaim := { program := "ytiehjihckndgkaagreat", sum := "08b8248e22504bdaa4e303264c590bc1020c9acb0c95fa333f2c457e76ee7404", func := "loop.example/g01084/laws.FnExactSolveForest", spec := "fnExactSolveForest", unfollowed := true, recurses := true, apart := false, narrowed := true }
def FnExactSolveForestUptoSaid : Prop := fnExactSolveForestUptoRow.holds Tryz.pinned (OpenSpec.upto fnExactSolveForestSpec)

/-- 'laws.FnExactLabelsAt', WHERE WHAT IT READS IS OF BULK AT MOST 1048576: true; the input reads as it did. -/
def fnExactLabelsAtUptoRow : OpenClaim := { program := "ytiehjihckndgkaagreat", sum := "08b8248e22504bdaa4e303264c590bc1020c9acb0c95fa333f2c457e76ee7404", func := "loop.example/g01084/laws.FnExactLabelsAt", spec := "fnExactLabelsAt", unfollowed := true, recurses := true, apart := false, narrowed := true }
def FnExactLabelsAtUptoSaid : Prop := fnExactLabelsAtUptoRow.holds Tryz.pinned (OpenSpec.upto fnExactLabelsAtSpec)

/-- 'laws.FnExactCountOnForest', WHERE WHAT IT READS IS OF BULK AT MOST 1048576: true; the input reads as it did. -/
def fnExactCountOnForestUptoRow : OpenClaim := { program := "ytiehjihckndgkaagreat", sum := "08b8248e22504bdaa4e303264c590bc1020c9acb0c95fa333f2c457e76ee7404", func := "loop.example/g01084/laws.FnExactCountOnForest", spec := "fnExactCountOnForest", unfollowed := true, recurses := true, apart := false, narrowed := true }
def FnExactCountOnForestUptoSaid : Prop := fnExactCountOnForestUptoRow.holds Tryz.pinned (OpenSpec.upto fnExactCountOnForestSpec)

end Rows
end Go.Proofs.YtiehjihckndgkaaGreat
