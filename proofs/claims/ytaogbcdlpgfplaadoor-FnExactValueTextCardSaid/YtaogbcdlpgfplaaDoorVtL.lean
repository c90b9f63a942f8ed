/- Texts of value programs: the law. Conditions: none. -/
import Derived.Test.YtaogbcdlpgfplaaDoorL6
import Derived.Test.YtaogbcdlpgfplaaDoorVtC
import Derived.Test.YtaogbcdlpgfplaaDoorVtn
namespace Go.Proofs.YtaogbcdlpgfplaaDoor
open Go Dv
set_option linter.unusedSimpArgs false
set_option linter.unusedVariables false
set_option maxRecDepth 100000


theorem vtext_law (prog : List (Int × Int)) (h : prog.length < 9223372036854775808) : l_FnExactValueText prog = some true := by
 unfold l_FnExactValueText
 rw [ckT h, ckT (by omega)]
 by_cases q1 : szN 1048576 prog.length < 0
 ·rw [if_pos q1]
 ·have f1 : szN 1048576 (prog.length : Int) = 1048576 - prog.length := by
   rcases szN_cases 1048576 prog.length with c | ⟨c, c'⟩
   ·rw [c] at q1; simp at q1
   ·exact c
  rw [f1] at q1
  have h4 : prog.length < 549755813888 := by omega
  obtain ⟨x, t, hI, hS⟩ := vtext_both prog
  rw [f1, if_neg q1, ckT h4]
  simp only [hS, hI, Option.bind_some, beq_self_eq_true, if_true, ckT h4, decide_true]
  cases t <;> rfl
theorem vtext_all (ds : List D) (h : Args tys [22] ds) : Y.call 3 ds [] = some (.bool true, []) := by
 rcases ds with _ | ⟨x, _ | ⟨_, _⟩⟩
 ·cases h
 ·obtain ⟨prog, rfl, hprog⟩ := argPairs ty22 ty51 ty3 h.1
  exact l_FnExactValueText_call prog (vtext_law prog (Nat.lt_of_le_of_lt hprog.1 (by decide)))
 ·exact h.2.elim

end Go.Proofs.YtaogbcdlpgfplaaDoor
