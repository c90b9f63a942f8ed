/- What a problem's lists are; sorted lists. Conditions: none. -/
import Derived.Test.YtipfckompmhljaaL6
import Derived.Test.YtipfckompmhljaaHas
namespace Go.Proofs.Ytipfckompmhljaa
open Go Dv
set_option linter.unusedSimpArgs false
set_option linter.unusedVariables false
set_option maxRecDepth 100000


theorem isProb_cut {a d : Int} {ns es : List (List Int)} (h : isProb a d ns es = true) : (1 ≤ a ∧ a ≤ 8) ∧ (1 ≤ d ∧ d ≤ 4) ∧ confs ns d a = true ∧ confs es 2 a = true := by
 simp only [isProb, Bool.and_eq_true] at h
 exact ⟨inR_iff.1 h.1.1.1, inR_iff.1 h.1.1.2, h.1.2, h.2⟩
theorem confs_at {l : List (List Int)} {s n : Int} (h : confs l s n = true) {x : List Int} (hx : x ∈ l) : (x.length : Int) = s ∧ sortedB x = true ∧ allIn x 0 (n - 1) = true := by
 obtain ⟨i, hi, rfl⟩ := mem_getD.1 hx
 have := range_all.1 h i hi
 unfold confAt at this
 simp only [Bool.and_eq_true, decide_eq_true_eq] at this
 exact ⟨this.1.1.1, this.1.1.2, this.1.2⟩
theorem sortedB_pair : ∀ {l : List Int}, sortedB l = true → l.Pairwise (fun a b => a ≤ b) := by
 intro l
 induction l with
 | nil => intro _; exact List.Pairwise.nil
 | cons x l ih =>
  intro h
  have h0 := range_all.1 h
  have ht : sortedB l = true := by
   refine range_all.2 fun i hi => ?_
   have := h0 (i + 1) (by simp only [List.length_cons]; omega)
   simpa using this
  have hp := ih ht
  refine List.pairwise_cons.2 ⟨fun y hy => ?_, hp⟩
  cases l with
  | nil => cases hy
  | cons z l =>
   have hz : x ≤ z := by
    have := h0 0 (by simp)
    simpa using this
   rcases List.mem_cons.1 hy with rfl | hy
   ·exact hz
   ·have := (List.pairwise_cons.1 hp).1 y hy; omega
end Go.Proofs.Ytipfckompmhljaa
