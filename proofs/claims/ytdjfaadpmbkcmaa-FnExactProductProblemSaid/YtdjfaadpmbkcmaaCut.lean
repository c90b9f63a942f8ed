/- What a problem's lists are; sorted lists. Conditions: none. -/
import Derived.Test.YtdjfaadpmbkcmaaL6
import Derived.Test.YtdjfaadpmbkcmaaHas
namespace Go.Proofs.Ytdjfaadpmbkcmaa
open Go Dv
set_option linter.unusedSimpArgs false
set_option linter.unusedVariables false
set_option maxRecDepth 100000


theorem isProb_cut {a d : Int} {ns es : List (List Int)} (h : isProb a d ns es = true) : (1 ≤ a ∧ a ≤ 8) ∧ (1 ≤ d ∧ d ≤ 4) ∧ confs ns d a = true ∧ confs es 2 a = true := by
 simp only [isProb, Bool.and_eq_true] at h
 exact ⟨inR_iff.1 h.1.1.1, inR_iff.1 h.1.1.2, h.1.2, h.2⟩
end Go.Proofs.Ytdjfaadpmbkcmaa
