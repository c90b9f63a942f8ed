/- What a problem's lists are; sorted lists. Conditions: none. -/
import Derived.Test.YtjkgcfdcfjkkbaaGreatL6
import Derived.Test.YtjkgcfdcfjkkbaaGreatHas
namespace Go.Proofs.YtjkgcfdcfjkkbaaGreat
open Go Dv
set_option linter.unusedSimpArgs false
set_option linter.unusedVariables false
set_option maxRecDepth 100000


theorem isProb_cut {a d : Int} {ns es : List (List Int)} (h : isProb a d ns es = true) : (1 ≤ a ∧ a ≤ 8) ∧ (1 ≤ d ∧ d ≤ 4) ∧ confs ns d a = true ∧ confs es 2 a = true := by
  simp only [isProb, Bool.and_eq_true] at h
  exact ⟨inR_iff.1 h.1.1.1, inR_iff.1 h.1.1.2, h.1.2, h.2⟩
theorem confs_at {l : List (List Int)} {s n : Int} (h : confs l s n = true) {x : List Int} (hx : x ∈ l) : (x.length : Int) = s ∧ sortedB x = true ∧ allIn x 0 (n - 1) = true := by
  obtain ⟨i, hi, rfl⟩ := mem_getD.1 hx
  have := range_all.1 h i hi
  unfold confAt at this
  simp only [Bool.and_eq_true, decide_eq_true_eq] at this
  exact ⟨this.1.1.1, this.1.1.2, this.1.2⟩
end Go.Proofs.YtjkgcfdcfjkkbaaGreat
