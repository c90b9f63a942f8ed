/- Runs: the law. Conditions: none. -/
import Derived.Test.YtjkgcfdcfjkkbaaGreatL6
import Derived.Test.YtjkgcfdcfjkkbaaGreatVxC
import Derived.Test.YtjkgcfdcfjkkbaaGreatVx
namespace Go.Proofs.YtjkgcfdcfjkkbaaGreat
open Go Dv
set_option linter.unusedSimpArgs false
set_option linter.unusedVariables false
set_option maxRecDepth 100000


theorem run_law (prog : List (Int × Int)) (E : List (List (Int × Int))) (ids ins : List Int) (values : List Int) (rounds : Int) (hprog : prog.length < 9223372036854775808) (hE : WideE E) (hids : ids.length < 9223372036854775808) (hins : ins.length < 9223372036854775808) : l_FnExactRunValues prog E ids ins values rounds = some true := by
 unfold l_FnExactRunValues
 by_cases q0 : 1048576 < (values.length : Int)
 ·rw [if_pos q0]
 ·rw [if_neg q0, ckT hprog, ckT (by omega)]
  by_cases q1 : szN 1048576 prog.length < 0
  ·rw [if_pos q1]
  ·have f1 : szN 1048576 (prog.length : Int) = 1048576 - prog.length := by
    rcases szN_cases 1048576 prog.length with c | ⟨c, c'⟩
    ·rw [c] at q1; simp at q1
    ·exact c
   rw [f1] at q1
   rw [f1, if_neg q1, ckT hE, ckT hids, ckT hins, ckT (by omega)]
   by_cases q2 : szW (1048576 - prog.length) E ids ins < 0
   ·rw [if_pos q2]
   ·obtain ⟨g1, sE, g2⟩ := szW_fit (by omega) q2
    have tE := tot_nonneg (fE E)
    have h1 : ids.length < 1099511627776 := by omega
    have h2 : ins.length < 1099511627776 := by omega
    have h3 : values.length < 1099511627776 := by omega
    have h4 : prog.length < 549755813888 := by omega
    obtain ⟨out, ok, hS, hI, ho, ht⟩ := run_both prog E ids ins values rounds sE h1 h2 (by omega)
    have t0 := tot_nonneg out
    have c1 : Short out := tot_short (by omega)
    have c2 : (0 : Int) ≤ 1 ∧ (1 : Int) + 2 * (prog.length : Int) < 1099511627776 := by omega
    have c3 : (0 : Int) ≤ 1 + 2 * (prog.length : Int) ∧ (1 : Int) + 2 * (prog.length : Int) + 2 * tot (fE E) + ids.length + ins.length < 1099511627776 := by omega
    have c4 : (0 : Int) ≤ 1 + 2 * (prog.length : Int) + 2 * tot (fE E) + ids.length + ins.length ∧ (1 : Int) + 2 * (prog.length : Int) + 2 * tot (fE E) + ids.length + ins.length < 1099511627776 := by omega
    have c5 : ¬ (1 : Int) + 2 * (prog.length : Int) + 2 * tot (fE E) + ids.length + ins.length + values.length < 0 := by omega
    have c6 : (0 : Int) ≤ 1 ∧ (1 : Int) + tot out < 1099511627776 := by omega
    have hh := l_heldIntSS_eq out 1 c1 c6
    have c9 : ¬ (1 : Int) + tot out < 0 := by omega
    rw [if_neg q2, ckT h4, ckT sE, ckT h1, ckT h2, ckT h3]
    simp only [hS, hI, Option.bind_some, ckT c1, decide_true, if_true, sameN_refl, ckT c2, ckT c3, ckT c4, if_neg c5, ckT c6, hh, if_neg c9]
    cases ok <;> rfl
theorem run_all (ds : List D) (h : Args tys [46, 28, 26, 3] ds) : Y.call 4 ds [] = some (.bool true, []) := by
 rcases ds with _ | ⟨x, _ | ⟨y, _ | ⟨z, _ | ⟨u, _ | ⟨_, _⟩⟩⟩⟩⟩
 ·cases h
 ·exact h.2.elim
 ·exact h.2.2.elim
 ·exact h.2.2.2.elim
 ·obtain ⟨prog, rfl, hprog⟩ := argPairs ty46 ty75 ty3 h.1
  obtain ⟨E, ids, ins, rfl, hE, hids, hins⟩ := argNetwork ty28 ty25 ty80 ty103 ty3 ty26 h.2.1
  obtain ⟨values, rfl, _⟩ := argInts ty26 ty3 h.2.2.1
  obtain ⟨rounds, rfl, _⟩ := argInt ty3 h.2.2.2.1
  exact l_FnExactRunValues_call prog E ids ins values rounds (run_law prog E ids ins values rounds (Nat.lt_of_le_of_lt hprog.1 (by decide)) (wideE_of hE) (Nat.lt_of_le_of_lt hids.1 (by decide)) (Nat.lt_of_le_of_lt hins.1 (by decide)))
 ·exact h.2.2.2.2.elim

end Go.Proofs.YtjkgcfdcfjkkbaaGreat
