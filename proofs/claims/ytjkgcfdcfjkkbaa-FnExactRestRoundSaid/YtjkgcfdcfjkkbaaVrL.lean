/- The round at which values rest: the law. Conditions: none. -/
import Derived.Test.YtjkgcfdcfjkkbaaL6
import Derived.Test.YtjkgcfdcfjkkbaaVrC
import Derived.Test.YtjkgcfdcfjkkbaaVr
namespace Go.Proofs.Ytjkgcfdcfjkkbaa
open Go Dv
set_option linter.unusedSimpArgs false
set_option linter.unusedVariables false
set_option maxRecDepth 100000


theorem rest_law (prog : List (Int × Int)) (E : List (List (Int × Int))) (ids ins : List Int) (values : List Int) (most : Int) (hprog : prog.length < 9223372036854775808) (hE : WideE E) (hids : ids.length < 9223372036854775808) (hins : ins.length < 9223372036854775808) : l_FnExactRestRound prog E ids ins values most = some true := by
 unfold l_FnExactRestRound
 by_cases q0 : 1048576 < (values.length : Int)
 ·rw [if_pos q0]
 ·rw [if_neg q0, ckT hprog, ckT (by omega)]
  by_cases q1 : szN 1048576 prog.length < 0
  ·rw [if_pos q1]
  ·have f1 : szN 1048576 (prog.length : Int) = 1048576 - prog.length := by
    rcases szN_cases 1048576 prog.length with c | ⟨c, c'⟩
    ·rw [c] at q1; simp at q1
    ·exact c
   rw [f1] at q1
   rw [f1, if_neg q1, ckT hE, ckT hids, ckT hins, ckT (by omega)]
   by_cases q2 : szW (1048576 - prog.length) E ids ins < 0
   ·rw [if_pos q2]
   ·obtain ⟨g1, sE, g2⟩ := szW_fit (by omega) q2
    have tE := tot_nonneg (fE E)
    have h1 : ids.length < 1099511627776 := by omega
    have h2 : ins.length < 1099511627776 := by omega
    have h3 : values.length < 1099511627776 := by omega
    have h4 : prog.length < 549755813888 := by omega
    obtain ⟨x, ok, hS, hI⟩ := rest_both prog E ids ins values most sE h1 h2 h3
    rw [if_neg q2, ckT h4, ckT sE, ckT h1, ckT h2, ckT h3]
    simp only [hS, hI, Option.bind_some, decide_true, if_true, sameN_refl]
    cases ok <;> rfl
theorem rest_all (ds : List D) (h : Args tys [53, 25, 23, 3] ds) : Y.call 7 ds [] = some (.bool true, []) := by
 rcases ds with _ | ⟨x, _ | ⟨y, _ | ⟨z, _ | ⟨u, _ | ⟨_, _⟩⟩⟩⟩⟩
 ·cases h
 ·exact h.2.elim
 ·exact h.2.2.elim
 ·exact h.2.2.2.elim
 ·obtain ⟨prog, rfl, hprog⟩ := argPairs ty53 ty87 ty3 h.1
  obtain ⟨E, ids, ins, rfl, hE, hids, hins⟩ := argNetwork ty25 ty22 ty90 ty128 ty3 ty23 h.2.1
  obtain ⟨values, rfl, _⟩ := argInts ty23 ty3 h.2.2.1
  obtain ⟨most, rfl, _⟩ := argInt ty3 h.2.2.2.1
  exact l_FnExactRestRound_call prog E ids ins values most (rest_law prog E ids ins values most (Nat.lt_of_le_of_lt hprog.1 (by decide)) (wideE_of hE) (Nat.lt_of_le_of_lt hids.1 (by decide)) (Nat.lt_of_le_of_lt hins.1 (by decide)))
 ·exact h.2.2.2.2.elim

end Go.Proofs.Ytjkgcfdcfjkkbaa
