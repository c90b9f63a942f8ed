/- Texts of value programs read: the law. Conditions: none. -/
import Derived.Test.YtaogbcdlpgfplaaDoorL6
import Derived.Test.YtaogbcdlpgfplaaDoorPvC
import Derived.Test.YtaogbcdlpgfplaaDoorPvp
namespace Go.Proofs.YtaogbcdlpgfplaaDoor
open Go Dv
set_option linter.unusedSimpArgs false
set_option linter.unusedVariables false
set_option maxRecDepth 100000


theorem pvalue_law (t : ByteArray) : l_FnExactParseValue t = some true := by
 unfold l_FnExactParseValue
 by_cases h : 1048576 < (t.size : Int)
 ·rw [if_pos h]
 ·rw [if_neg h]
  have hs : (BL t).length ≤ 1048576 := by rw [← size_BL]; omega
  obtain ⟨p, ok, hI, hS, hx⟩ := vparse_both (BL t) hs
  rw [mk_BL] at hI hS
  have hm := l_markValueOpS_eq p 1 (by omega) (by omega)
  have hh := l_heldValueOpS_eq p.length 1 (by omega) (by omega)
  have g5 : ¬ 1 + 2 * (p.length : Int) < 0 := by omega
  have g6 : p.length < 549755813888 := by omega
  simp only [hS, hI, Option.bind_some, ckT g6, decide_true, if_true, hm, hh, if_neg g5]
  cases ok <;> rfl
theorem pvalue_all (ds : List D) (h : Args tys [9] ds) : Y.call 4 ds [] = some (.bool true, []) := by
 rcases ds with _ | ⟨x, _ | ⟨_, _⟩⟩
 ·cases h
 ·obtain ⟨b, rfl, _⟩ := argStr ty9 h.1
  exact l_FnExactParseValue_call b (pvalue_law b)
 ·exact h.2.elim

end Go.Proofs.YtaogbcdlpgfplaaDoor
