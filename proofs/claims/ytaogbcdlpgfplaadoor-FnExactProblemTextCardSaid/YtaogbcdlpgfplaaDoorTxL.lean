/- Texts of problems: the law. Conditions: none. -/
import Derived.Test.YtaogbcdlpgfplaaDoorL6
import Derived.Test.YtaogbcdlpgfplaaDoorTxC
import Derived.Test.YtaogbcdlpgfplaaDoorTxp
namespace Go.Proofs.YtaogbcdlpgfplaaDoor
open Go Dv
set_option linter.unusedSimpArgs false
set_option linter.unusedVariables false
set_option maxRecDepth 100000


theorem ptext_law (a d : Int) (ns es : List (List Int)) (hn : Wide ns) (he : Wide es) : l_FnExactProblemText a d ns es = some true := by
 unfold l_FnExactProblemText
 rw [ckT hn, ckT he, ckT (by omega)]
 by_cases q1 : szP 1048576 ns es < 0
 ·rw [if_pos q1]
 ·obtain ⟨f1, sn, se, f2⟩ := szP_fit (by omega) q1
  have t1 := tot_nonneg ns
  have t2 := tot_nonneg es
  rw [if_neg q1, ckT sn, ckT se]
  obtain ⟨x, t, hS, hI⟩ := text_both a d ns es sn se (by omega) (by omega)
  simp only [hS, hI, Option.bind_some, beq_self_eq_true, if_true, sameP_refl]
  cases t <;> rfl
theorem ptext_all (ds : List D) (h : Args tys [36] ds) : Y.call 5 ds [] = some (.bool true, []) := by
 rcases ds with _ | ⟨x, _ | ⟨_, _⟩⟩
 ·cases h
 ·obtain ⟨a, d, ns, es, rfl, _, _, hn, he⟩ := argProblem ty36 ty3 ty34 ty70 ty3 h.1
  exact l_FnExactProblemText_call a d ns es (ptext_law a d ns es (wide_of hn) (wide_of he))
 ·exact h.2.elim

end Go.Proofs.YtaogbcdlpgfplaaDoor
