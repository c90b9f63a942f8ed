/- The first number at which something holds. Conditions: none. -/
import Derived.Test.YtaogbcdlpgfplaaDoorL6
import Derived.Test.YtaogbcdlpgfplaaDoorDt
namespace Go.Proofs.YtaogbcdlpgfplaaDoor
open Go Dv
set_option linter.unusedSimpArgs false
set_option linter.unusedVariables false
set_option maxRecDepth 100000


/-- The first number at which P holds. -/
def firstIx (n : Nat) (P : Nat → Bool) : Option Nat := (List.range n).find? P
theorem firstIx_none {n : Nat} {P : Nat → Bool} (h : ∀ i, i < n → P i = false) : firstIx n P = none := by
 unfold firstIx
 rw [List.find?_eq_none]
 intro i hi
 rw [h i (List.mem_range.1 hi)]; decide
theorem firstIx_at {n m : Nat} {P : Nat → Bool} (hm : m < n) (h : P m = true) (h0 : ∀ i, i < m → P i = false) : firstIx n P = some m := by
 unfold firstIx
 rw [List.find?_range_eq_some]
 exact ⟨h, List.mem_range.2 hm, fun j hj => by rw [h0 j hj]; rfl⟩
theorem firstIx_lt {n m : Nat} {P : Nat → Bool} (h : firstIx n P = some m) : m < n ∧ P m = true := by
 unfold firstIx at h
 exact ⟨List.mem_range.1 (List.mem_of_find?_eq_some h), List.find?_some h⟩
/-- A loop that stops at the first number at which P holds. -/
theorem itO_find {σ ρ : Type} (f : σ → Option (σ ⊕ ρ)) (st : Nat → σ) (n : Nat) (P : Nat → Bool) (hit : Nat → ρ) (miss : ρ)
  (h : ∀ i, i < n → f (st i) = if P i = true then some (.inr (hit i)) else some (.inl (st (i + 1)))) (e : f (st n) = some (.inr miss)) :
  itO f (st 0) = some (match firstIx n P with | some i => hit i | none => miss) := by
 by_cases hp : ∀ i, i < n → (!P i) = true
 ·have h0 : ∀ i, i < n → P i = false := fun i hi => by simpa using hp i hi
  rw [firstIx_none h0]
  exact itO_for f st n miss (fun i hi => by rw [h i hi, h0 i hi, if_neg (by decide)]) e
 ·obtain ⟨m, hm, hpm, h0⟩ := first_fail hp
  have hpm' : P m = true := by simpa using hpm
  have h0' : ∀ i, i < m → P i = false := fun i hi => by simpa using h0 i hi
  rw [firstIx_at hm hpm' h0']
  exact itO_for f st m (hit m) (fun i hi => by rw [h i (by omega), h0' i hi, if_neg (by decide)]) (by rw [h m hm, if_pos hpm'])
end Go.Proofs.YtaogbcdlpgfplaaDoor
