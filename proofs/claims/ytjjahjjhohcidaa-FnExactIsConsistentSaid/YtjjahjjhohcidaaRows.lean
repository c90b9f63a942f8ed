/-
  No cell of these rows narrows 'for every input' (looked for: loops, veiled, ifaces, maps, wideKeys, modest, calm, conditions, laid).
  DERIVED. THE GIVEN ROWS OF THIS SEAT. 7 by the template 'for every input the law returns true; each argument reads behind the call as it read before'; 0 by the template 'total and deterministic' (their statements: YtjjahjjhohcidaaTotals.lean).
  GIVEN WITH THE SEED: the statements are not yours to turn. If you find one false, say at which input.
  Laid BY PROGRAM, IN A SANDBOX (cutbox-rows.mjs): the forced cells as the released guide's own fill.sh prints them over the translation 1492f824c28b5b88… (all of the seat's roots in one cut). By AI agents, Wed Nov 11 2026. No macro, syntax, notation, axiom, sorry.
-/
import Derived.Test.YtjjahjjhohcidaaChecked
import GoSem.Claim
import GoSem.ClaimJoined
import GoSem.ClaimMapViews
import Derived.JoinedTies
import Derived.KernelRfl
namespace Go.Proofs.Ytjjahjjhohcidaa
/- THE CELL 'sum', in the pinned program and in every row, IS THE sha256 OF THE DUMP (.gsa) THAT YtjjahjjhohcidaaProg.lean LOADS. Nothing in Lean hashes anything: it is a label: what it is worth is what the hold of that sum in a sandbox is worth. -/
noncomputable def Try.pinned : Pinned := { name := "ytjjahjjhohcidaa", sum := "1492f824c28b5b8817263af4581536cf94490f84450f413be7da7c6ad44891d1", checked := Try.checked }
namespace Rows
def none {H : Type} : Left H := { results := [], args := [] }

/-- 'laws.FnExactIsConsistent': WHATEVER THE INPUT: true; the input reads as it did. -/
def fnExactIsConsistentSpec : ChangeSpec := { name := "fnExactIsConsistent", fn := fun _ => fun
  | [d1, d2] => { results := [.lit (.bool true)], args := [d1, d2] }
  | _ => none }
def fnExactIsConsistentRow : OpenClaim := { program := "ytjjahjjhohcidaa", sum := "1492f824c28b5b8817263af4581536cf94490f84450f413be7da7c6ad44891d1", func := "loop.example/g01084/laws.FnExactIsConsistent", spec := "fnExactIsConsistent", unfollowed := true, recurses := true, plainKeys := false, apart := false }
def FnExactIsConsistentSaid : Prop := fnExactIsConsistentRow.holds Try.pinned (OpenSpec.ofChange fnExactIsConsistentSpec)

/-- ITS FALSE NEIGHBOUR: 'it returns false'. Refute it at one input. -/
def fnExactIsConsistentWrong : ChangeSpec := { name := "fnExactIsConsistent", fn := fun _ => fun
  | [d1, d2] => { results := [.lit (.bool false)], args := [d1, d2] }
  | _ => none }
def FnExactIsConsistentWrongFalsely : Prop := fnExactIsConsistentRow.holds Try.pinned (OpenSpec.ofChange fnExactIsConsistentWrong)

/-- 'laws.FnExactCheckRefusal': WHATEVER THE INPUT: true; the input reads as it did. -/
def fnExactCheckRefusalSpec : ChangeSpec := { name := "fnExactCheckRefusal", fn := fun _ => fun
  | [d1, d2] => { results := [.lit (.bool true)], args := [d1, d2] }
  | _ => none }
def fnExactCheckRefusalRow : OpenClaim := { program := "ytjjahjjhohcidaa", sum := "1492f824c28b5b8817263af4581536cf94490f84450f413be7da7c6ad44891d1", func := "loop.example/g01084/laws.FnExactCheckRefusal", spec := "fnExactCheckRefusal", unfollowed := true, recurses := true, plainKeys := false, apart := false }
def FnExactCheckRefusalSaid : Prop := fnExactCheckRefusalRow.holds Try.pinned (OpenSpec.ofChange fnExactCheckRefusalSpec)

/-- ITS FALSE NEIGHBOUR: 'it returns false'. Refute it at one input. -/
def fnExactCheckRefusalWrong : ChangeSpec := { name := "fnExactCheckRefusal", fn := fun _ => fun
  | [d1, d2] => { results := [.lit (.bool false)], args := [d1, d2] }
  | _ => none }
def FnExactCheckRefusalWrongFalsely : Prop := fnExactCheckRefusalRow.holds Try.pinned (OpenSpec.ofChange fnExactCheckRefusalWrong)

/-- 'laws.FnExactCanMeetAt': WHATEVER THE INPUT: true; the input reads as it did. -/
def fnExactCanMeetAtSpec : ChangeSpec := { name := "fnExactCanMeetAt", fn := fun _ => fun
  | [d1, d2, d3] => { results := [.lit (.bool true)], args := [d1, d2, d3] }
  | _ => none }
def fnExactCanMeetAtRow : OpenClaim := { program := "ytjjahjjhohcidaa", sum := "1492f824c28b5b8817263af4581536cf94490f84450f413be7da7c6ad44891d1", func := "loop.example/g01084/laws.FnExactCanMeetAt", spec := "fnExactCanMeetAt", unfollowed := true, recurses := true, plainKeys := false, apart := false }
def FnExactCanMeetAtSaid : Prop := fnExactCanMeetAtRow.holds Try.pinned (OpenSpec.ofChange fnExactCanMeetAtSpec)

/-- ITS FALSE NEIGHBOUR: 'it returns false'. Refute it at one input. -/
def fnExactCanMeetAtWrong : ChangeSpec := { name := "fnExactCanMeetAt", fn := fun _ => fun
  | [d1, d2, d3] => { results := [.lit (.bool false)], args := [d1, d2, d3] }
  | _ => none }
def FnExactCanMeetAtWrongFalsely : Prop := fnExactCanMeetAtRow.holds Try.pinned (OpenSpec.ofChange fnExactCanMeetAtWrong)

/-- 'laws.FnExactRefusalOf': WHATEVER THE INPUT: true; the input reads as it did. -/
def fnExactRefusalOfSpec : ChangeSpec := { name := "fnExactRefusalOf", fn := fun _ => fun
  | [d1, d2] => { results := [.lit (.bool true)], args := [d1, d2] }
  | _ => none }
def fnExactRefusalOfRow : OpenClaim := { program := "ytjjahjjhohcidaa", sum := "1492f824c28b5b8817263af4581536cf94490f84450f413be7da7c6ad44891d1", func := "loop.example/g01084/laws.FnExactRefusalOf", spec := "fnExactRefusalOf", unfollowed := true, recurses := true, plainKeys := false, apart := false }
def FnExactRefusalOfSaid : Prop := fnExactRefusalOfRow.holds Try.pinned (OpenSpec.ofChange fnExactRefusalOfSpec)

/-- ITS FALSE NEIGHBOUR: 'it returns false'. Refute it at one input. -/
def fnExactRefusalOfWrong : ChangeSpec := { name := "fnExactRefusalOf", fn := fun _ => fun
  | [d1, d2] => { results := [.lit (.bool false)], args := [d1, d2] }
  | _ => none }
def FnExactRefusalOfWrongFalsely : Prop := fnExactRefusalOfRow.holds Try.pinned (OpenSpec.ofChange fnExactRefusalOfWrong)

/-- 'laws.FnExactLeastDepthFor': WHATEVER THE INPUT: true; the input reads as it did. -/
def fnExactLeastDepthForSpec : ChangeSpec := { name := "fnExactLeastDepthFor", fn := fun _ => fun
  | [d1, d2] => { results := [.lit (.bool true)], args := [d1, d2] }
  | _ => none }
def fnExactLeastDepthForRow : OpenClaim := { program := "ytjjahjjhohcidaa", sum := "1492f824c28b5b8817263af4581536cf94490f84450f413be7da7c6ad44891d1", func := "loop.example/g01084/laws.FnExactLeastDepthFor", spec := "fnExactLeastDepthFor", unfollowed := true, recurses := true, plainKeys := false, apart := false }
def FnExactLeastDepthForSaid : Prop := fnExactLeastDepthForRow.holds Try.pinned (OpenSpec.ofChange fnExactLeastDepthForSpec)

/-- ITS FALSE NEIGHBOUR: 'it returns false'. Refute it at one input. -/
def fnExactLeastDepthForWrong : ChangeSpec := { name := "fnExactLeastDepthFor", fn := fun _ => fun
  | [d1, d2] => { results := [.lit (.bool false)], args := [d1, d2] }
  | _ => none }
def FnExactLeastDepthForWrongFalsely : Prop := fnExactLeastDepthForRow.holds Try.pinned (OpenSpec.ofChange fnExactLeastDepthForWrong)

/-- 'laws.FnExactMeetTask': WHATEVER THE INPUT: true; the input reads as it did. -/
def fnExactMeetTaskSpec : ChangeSpec := { name := "fnExactMeetTask", fn := fun _ => fun
  | [d1, d2] => { results := [.lit (.bool true)], args := [d1, d2] }
  | _ => none }
def fnExactMeetTaskRow : OpenClaim := { program := "ytjjahjjhohcidaa", sum := "1492f824c28b5b8817263af4581536cf94490f84450f413be7da7c6ad44891d1", func := "loop.example/g01084/laws.FnExactMeetTask", spec := "fnExactMeetTask", unfollowed := true, recurses := true, plainKeys := false, apart := false }
def FnExactMeetTaskSaid : Prop := fnExactMeetTaskRow.holds Try.pinned (OpenSpec.ofChange fnExactMeetTaskSpec)

/-- ITS FALSE NEIGHBOUR: 'it returns false'. Refute it at one input. -/
def fnExactMeetTaskWrong : ChangeSpec := { name := "fnExactMeetTask", fn := fun _ => fun
  | [d1, d2] => { results := [.lit (.bool false)], args := [d1, d2] }
  | _ => none }
def FnExactMeetTaskWrongFalsely : Prop := fnExactMeetTaskRow.holds Try.pinned (OpenSpec.ofChange fnExactMeetTaskWrong)

/-- 'laws.FnExactLabelMapBetween': WHATEVER THE INPUT: true; the input reads as it did. -/
def fnExactLabelMapBetweenSpec : ChangeSpec := { name := "fnExactLabelMapBetween", fn := fun _ => fun
  | [d1, d2] => { results := [.lit (.bool true)], args := [d1, d2] }
  | _ => none }
def fnExactLabelMapBetweenRow : OpenClaim := { program := "ytjjahjjhohcidaa", sum := "1492f824c28b5b8817263af4581536cf94490f84450f413be7da7c6ad44891d1", func := "loop.example/g01084/laws.FnExactLabelMapBetween", spec := "fnExactLabelMapBetween", unfollowed := true, recurses := true, plainKeys := false, apart := false }
def FnExactLabelMapBetweenSaid : Prop := fnExactLabelMapBetweenRow.holds Try.pinned (OpenSpec.ofChange fnExactLabelMapBetweenSpec)

/-- ITS FALSE NEIGHBOUR: 'it returns false'. Refute it at one input. -/
def fnExactLabelMapBetweenWrong : ChangeSpec := { name := "fnExactLabelMapBetween", fn := fun _ => fun
  | [d1, d2] => { results := [.lit (.bool false)], args := [d1, d2] }
  | _ => none }
def FnExactLabelMapBetweenWrongFalsely : Prop := fnExactLabelMapBetweenRow.holds Try.pinned (OpenSpec.ofChange fnExactLabelMapBetweenWrong)

/- THE SECOND FORM. 'bulk': how many values and letters a reading holds, each counted each time it is reached (what is shared counts as often as it is met; a slice's spare places count too). A statement '..UptoSaid' is the law's where the arguments, and the package variables that the reading takes, are together of bulk at most 1048576: NARROWER than '..Said'. Prove '..Said' where nothing that the law and all that it calls make is longer than what came in: it says more and counts as full. Else prove '..UptoSaid'. A law counts once. -/
mutual
def uptoBulk {H : Type} : DataW H → Nat
  | .lit (.string bytes) => bytes.length + 1
  | .lit _ => 1
  | .nil => 1
  | .ptr d => uptoBulk d + 1
  | .slice elems spare => uptoBulkAll elems + uptoBulkAll spare + 1
  | .agg parts => uptoBulkAll parts + 1
  | .iface _ d => uptoBulk d + 1
  | .map entries => uptoBulkEntries entries + 1
  | .held _ => 1
def uptoBulkAll {H : Type} : List (DataW H) → Nat
  | [] => 0
  | d :: r => uptoBulk d + uptoBulkAll r
def uptoBulkEntries {H : Type} : List (Lit × DataW H) → Nat
  | [] => 0
  | x :: r => uptoBulkEntry x + uptoBulkEntries r
def uptoBulkEntry {H : Type} : Lit × DataW H → Nat
  | (.string bytes, d) => bytes.length + uptoBulk d + 1
  | (_, d) => uptoBulk d + 1
 end
def uptoSmall : (H : Type) → List (DataW H) → Bool := fun _ ds => decide (uptoBulkAll ds ≤ 1048576)
def OpenSpec.upto (s : _root_.Go.ChangeSpec) : _root_.Go.OpenSpec := { _root_.Go.OpenSpec.ofChange s with cond := some uptoSmall }

/-- 'laws.FnExactIsConsistent', WHERE WHAT IT READS IS OF BULK AT MOST 1048576: true; the input reads as it did. -/
def fnExactIsConsistentUptoRow : OpenClaim := { program := "ytjjahjjhohcidaa", sum := "1492f824c28b5b8817263af4581536cf94490f84450f413be7da7c6ad44891d1", func := "loop.example/g01084/laws.FnExactIsConsistent", spec := "fnExactIsConsistent", unfollowed := true, recurses := true, plainKeys := false, apart := false, narrowed := true }
def FnExactIsConsistentUptoSaid : Prop := fnExactIsConsistentUptoRow.holds Try.pinned (OpenSpec.upto fnExactIsConsistentSpec)

/-- 'laws.FnExactCheckRefusal', WHERE WHAT IT READS IS OF BULK AT MOST 1048576: true; the input reads as it did. -/
def fnExactCheckRefusalUptoRow : OpenClaim := { program := "ytjjahjjhohcidaa", sum := "1492f824c28b5b8817263af4581536cf94490f84450f413be7da7c6ad44891d1", func := "loop.example/g01084/laws.FnExactCheckRefusal", spec := "fnExactCheckRefusal", unfollowed := true, recurses := true, plainKeys := false, apart := false, narrowed := true }
def FnExactCheckRefusalUptoSaid : Prop := fnExactCheckRefusalUptoRow.holds Try.pinned (OpenSpec.upto fnExactCheckRefusalSpec)

/-- 'laws.FnExactCanMeetAt', WHERE WHAT IT READS IS OF BULK AT MOST 1048576: true; the input reads as it did. -/
def fnExactCanMeetAtUptoRow : OpenClaim := { program := "ytjjahjjhohcidaa", sum := "1492f824c28b5b8817263af4581536cf94490f84450f413be7da7c6ad44891d1", func := "loop.example/g01084/laws.FnExactCanMeetAt", spec := "fnExactCanMeetAt", unfollowed := true, recurses := true, plainKeys := false, apart := false, narrowed := true }
def FnExactCanMeetAtUptoSaid : Prop := fnExactCanMeetAtUptoRow.holds Try.pinned (OpenSpec.upto fnExactCanMeetAtSpec)

/-- 'laws.FnExactRefusalOf', WHERE WHAT IT READS IS OF BULK AT MOST 1048576: true; the input reads as it did. -/
def fnExactRefusalOfUptoRow : OpenClaim := { program := "ytjjahjjhohcidaa", sum := "1492f824c28b5b8817263af4581536cf94490f84450f413be7da7c6ad44891d1", func := "loop.example/g01084/laws.FnExactRefusalOf", spec := "fnExactRefusalOf", unfollowed := true, recurses := true, plainKeys := false, apart := false, narrowed := true }
def FnExactRefusalOfUptoSaid : Prop := fnExactRefusalOfUptoRow.holds Try.pinned (OpenSpec.upto fnExactRefusalOfSpec)

/-- 'laws.FnExactLeastDepthFor', WHERE WHAT IT READS IS OF BULK AT MOST 1048576: true; the input reads as it did. -/
def fnExactLeastDepthForUptoRow : OpenClaim := { program := "ytjjahjjhohcidaa", sum := "1492f824c28b5b8817263af4581536cf94490f84450f413be7da7c6ad44891d1", func := "loop.example/g01084/laws.FnExactLeastDepthFor", spec := "fnExactLeastDepthFor", unfollowed := true, recurses := true, plainKeys := false, apart := false, narrowed := true }
def FnExactLeastDepthForUptoSaid : Prop := fnExactLeastDepthForUptoRow.holds Try.pinned (OpenSpec.upto fnExactLeastDepthForSpec)

/-- 'laws.FnExactMeetTask', WHERE WHAT IT READS IS OF BULK AT MOST 1048576: true; the input reads as it did. -/
def fnExactMeetTaskUptoRow : OpenClaim := { program := "ytjjahjjhohcidaa", sum := "1492f824c28b5b8817263af4581536cf94490f84450f413be7da7c6ad44891d1", func := "loop.example/g01084/laws.FnExactMeetTask", spec := "fnExactMeetTask", unfollowed := true, recurses := true, plainKeys := false, apart := false, narrowed := true }
def FnExactMeetTaskUptoSaid : Prop := fnExactMeetTaskUptoRow.holds Try.pinned (OpenSpec.upto fnExactMeetTaskSpec)

/-- 'laws.FnExactLabelMapBetween', WHERE WHAT IT READS IS OF BULK AT MOST 1048576: true; the input reads as it did. -/
def fnExactLabelMapBetweenUptoRow : OpenClaim := { program := "ytjjahjjhohcidaa", sum := "1492f824c28b5b8817263af4581536cf94490f84450f413be7da7c6ad44891d1", func := "loop.example/g01084/laws.FnExactLabelMapBetween", spec := "fnExactLabelMapBetween", unfollowed := true, recurses := true, plainKeys := false, apart := false, narrowed := true }
def FnExactLabelMapBetweenUptoSaid : Prop := fnExactLabelMapBetweenUptoRow.holds Try.pinned (OpenSpec.upto fnExactLabelMapBetweenSpec)

end Rows
end Go.Proofs.Ytjjahjjhohcidaa
