/- The ports of a network, as plain functions. Conditions: none. -/
import Derived.Test.YtipfckompmhljaaL6
import Derived.Test.YtipfckompmhljaaNis
namespace Go.Proofs.Ytipfckompmhljaa
open Go Dv
set_option linter.unusedSimpArgs false
set_option linter.unusedVariables false
set_option maxRecDepth 100000


theorem port_net {E : List (List (Int × Int))} {ids ins : List Int} (h : isNet E ids ins = true) : E.length ≤ 40 ∧ 1 ≤ E.length ∧ (∀ v, v < E.length → (E.getD v default).length ≤ 6) ∧
  ∀ v i, v < E.length → i < (E.getD v default).length → ∃ w p : Nat, fstD (E.getD v default) i = (w : Int) ∧ sndD (E.getD v default) i = (p : Int) ∧ w < E.length ∧ p < (E.getD w default).length ∧ fstD (E.getD w default) p = (v : Int) ∧ sndD (E.getD w default) p = (i : Int) := by
 unfold isNet at h
 simp only [Bool.and_eq_true] at h
 obtain ⟨h1, _, _, _, h5⟩ := h
 have h1 := inR_iff.1 h1
 have hn : ∀ v, v < E.length → nodeB E v = true := range_all.1 h5
 refine ⟨by omega, by omega, fun v hv => ?_, fun v i hv hi => ?_⟩
 ·have := hn v hv
  rw [nodeB_def, Bool.and_eq_true, decide_eq_true_eq] at this
  exact this.1
 ·have := hn v hv
  rw [nodeB_def, Bool.and_eq_true] at this
  have := range_all.1 this.2 i hi
  rw [portB_def] at this
  simp only [Bool.and_eq_true, beq_iff_eq] at this
  obtain ⟨k1, k2, k3, k4⟩ := this
  have k1 := inR_iff.1 k1
  have k2 := inR_iff.1 k2
  refine ⟨(fstD (E.getD v default) i).toNat, (sndD (E.getD v default) i).toNat, by omega, by omega, by omega, by omega, k3, k4⟩
/-- A node's neighbours. -/
def adjE (E : List (List (Int × Int))) (x : Nat) : List Int := (E.getD x default).map (·.1)
theorem adjE_len (E : List (List (Int × Int))) (x : Nat) : (adjE E x).length = (E.getD x default).length := by simp [adjE]
theorem adjE_get (E : List (List (Int × Int))) (x i : Nat) (h : i < (adjE E x).length) : (adjE E x)[i] = fstD (E.getD x default) i := by
 have h' : i < (E.getD x default).length := by rwa [adjE_len] at h
 unfold fstD
 rw [getD_get _ _ h']
 simp [adjE]
theorem adjE_mem {E : List (List (Int × Int))} {x : Nat} {y : Int} : y ∈ adjE E x ↔ ∃ i, i < (E.getD x default).length ∧ fstD (E.getD x default) i = y := by
 constructor
 ·intro h
  obtain ⟨i, hi, rfl⟩ := List.getElem_of_mem h
  exact ⟨i, by rwa [adjE_len] at hi, (adjE_get E x i hi).symm⟩
 ·rintro ⟨i, hi, rfl⟩
  have hi' : i < (adjE E x).length := by rwa [adjE_len]
  rw [← adjE_get E x i hi']
  exact List.getElem_mem hi'
theorem adjE_ok {E : List (List (Int × Int))} {ids ins : List Int} (h : isNet E ids ins = true) : ∀ x, x < E.length → ∀ y ∈ adjE E x, 0 ≤ y ∧ y.toNat < E.length := by
 intro x hx y hy
 obtain ⟨i, hi, rfl⟩ := adjE_mem.1 hy
 obtain ⟨_, _, _, hp⟩ := port_net h
 obtain ⟨w, p, e1, _, hw, _⟩ := hp x i hx hi
 omega
end Go.Proofs.Ytipfckompmhljaa
