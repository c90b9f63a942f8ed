/- Copies, comparisons, sizes and marks of numbers in lists, as plain functions. Conditions: the lists are short. -/
import Derived.Test.YtaogbcdlpgfplaaDoorL6
import Derived.Test.YtaogbcdlpgfplaaDoorDt
namespace Go.Proofs.YtaogbcdlpgfplaaDoor
open Go Dv
set_option linter.unusedSimpArgs false
set_option linter.unusedVariables false
set_option maxRecDepth 100000
set_option maxHeartbeats 4000000

/-- Lists whose lists are short. -/
def Short (l : List (List Int)) : Prop := l.length < 1099511627776 ∧ ∀ x ∈ l, x.length < 1099511627776
theorem Short.nil : Short [] := ⟨by decide, fun _ h => by cases h⟩
theorem Short.at {l : List (List Int)} (h : Short l) (i : Nat) (hi : i < l.length) : l[i].length < 1099511627776 := h.2 _ (List.getElem_mem hi)
instance (l : List (List Int)) : Decidable (Short l) := by unfold Short; infer_instance
theorem set_mid {α : Type} [Inhabited α] (xs : List α) (i : Nat) (h : i < xs.length) (z : α) : (xs.take i ++ List.replicate (xs.length - i) z).set i xs[i] = xs.take (i + 1) ++ List.replicate (xs.length - (i + 1)) z := by
 have e : xs.length - i = (xs.length - (i + 1)) + 1 := by omega
 rw [e, List.replicate_succ, List.set_append_right _ _ (by simp; omega), List.take_succ_eq_append_getElem h]
 have : i - (xs.take i).length = 0 := by simp; omega
 rw [this, List.set_cons_zero, List.append_assoc]; rfl
/-- What is left of a number, or -1. -/
def szN (left n : Int) : Int := if left - n < 0 then -1 else left - n
theorem szN_cases (left n : Int) : szN left n = -1 ∨ (szN left n = left - n ∧ 0 ≤ left - n) := by unfold szN; split <;> omega
/-- Lists that a machine can hold. -/
def Wide (l : List (List Int)) : Prop := l.length < 9223372036854775808 ∧ ∀ x ∈ l, x.length < 9223372036854775808
instance (l : List (List Int)) : Decidable (Wide l) := by unfold Wide; infer_instance
end Go.Proofs.YtaogbcdlpgfplaaDoor
