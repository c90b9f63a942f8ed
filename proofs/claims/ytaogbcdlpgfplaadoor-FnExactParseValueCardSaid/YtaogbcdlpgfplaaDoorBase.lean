/- Copies, comparisons, sizes and marks of numbers in lists, as plain functions. Conditions: the lists are short. -/
import Derived.Test.YtaogbcdlpgfplaaDoorL6
import Derived.Test.YtaogbcdlpgfplaaDoorDt
namespace Go.Proofs.YtaogbcdlpgfplaaDoor
open Go Dv
set_option linter.unusedSimpArgs false
set_option linter.unusedVariables false
set_option maxRecDepth 100000
set_option maxHeartbeats 4000000

/-- Lists whose lists are short. -/
def Short (l : List (List Int)) : Prop := l.length < 1099511627776 ∧ ∀ x ∈ l, x.length < 1099511627776
theorem Short.nil : Short [] := ⟨by decide, fun _ h => by cases h⟩
theorem Short.at {l : List (List Int)} (h : Short l) (i : Nat) (hi : i < l.length) : l[i].length < 1099511627776 := h.2 _ (List.getElem_mem hi)
instance (l : List (List Int)) : Decidable (Short l) := by unfold Short; infer_instance
/-- Lists that a machine can hold. -/
def Wide (l : List (List Int)) : Prop := l.length < 9223372036854775808 ∧ ∀ x ∈ l, x.length < 9223372036854775808
instance (l : List (List Int)) : Decidable (Wide l) := by unfold Wide; infer_instance
/-- Numbers from k on. -/
def upto (k : Int) (n : Nat) : List Int := (List.range n).map fun (i : Nat) => k + i
def marks : Int → List (List Int) → List (List Int)
 | _, [] => []
 | k, x :: l => upto k x.length :: marks (k + x.length) l
/-- Whether numbers go on from k: where they end, or -1. -/
def held : Int → List Int → Int
 | k, [] => k
 | k, x :: l => if x = k then held (k + 1) l else -1
end Go.Proofs.YtaogbcdlpgfplaaDoor
