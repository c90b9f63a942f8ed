/- Whether a covering refutes a size: the law. Conditions: none. -/
import Derived.Test.YtipfckompmhljaaL6
import Derived.Test.YtipfckompmhljaaDstC
import Derived.Test.YtipfckompmhljaaRfs
namespace Go.Proofs.Ytipfckompmhljaa
open Go Dv
set_option linter.unusedSimpArgs false
set_option linter.unusedVariables false
set_option maxRecDepth 100000


theorem refutes_law (E : List (List (Int × Int))) (ids ins : List Int) (F : List (List (Int × Int))) (jds jns m : List Int) (hE : WideE E) (h1 : ids.length < 9223372036854775808) (h2 : ins.length < 9223372036854775808) (hF : WideE F) (h3 : jds.length < 9223372036854775808) (h4 : jns.length < 9223372036854775808) : l_FnExactRefutesSize E ids ins F jds jns m = some true := by
 unfold l_FnExactRefutesSize
 by_cases q0 : 1048576 < (m.length : Int)
 ·rw [if_pos q0]
 ·rw [if_neg q0, ckT hE, ckT h1, ckT h2, ckT (by omega)]
  by_cases q1 : szW 1048576 E ids ins < 0
  ·rw [if_pos q1]
  ·obtain ⟨g1, sE, g2⟩ := szW_fit (by omega) q1
   have tE := tot_nonneg (fE E)
   rw [if_neg q1, ckT hF, ckT h3, ckT h4, ckT (by omega)]
   by_cases q2 : szW (szW 1048576 E ids ins) F jds jns < 0
   ·rw [if_pos q2]
   ·obtain ⟨g3, sF, g4⟩ := szW_fit (by omega) q2
    have tF := tot_nonneg (fE F)
    have k1 : ids.length < 1099511627776 := by omega
    have k2 : ins.length < 1099511627776 := by omega
    have k3 : jds.length < 1099511627776 := by omega
    have k4 : jns.length < 1099511627776 := by omega
    have k5 : m.length < 1099511627776 := by omega
    obtain ⟨x, y, hS, hI⟩ := refutes_both E ids ins F jds jns m sE k1 k2 sF k3 k4 k5
    rw [if_neg q2, ckT sE, ckT k1, ckT k2, ckT sF, ckT k3, ckT k4, ckT k5]
    simp only [hS, hI, Option.bind_some, decide_true, sameN_refl, if_true]
    cases x <;> cases y <;> simp
theorem refutes_all (ds : List D) (h : Args tys [25, 25, 23] ds) : Y.call 3 ds [] = some (.bool true, []) := by
 rcases ds with _ | ⟨x, _ | ⟨y, _ | ⟨z, _ | ⟨_, _⟩⟩⟩⟩
 ·cases h
 ·exact h.2.elim
 ·exact h.2.2.elim
 ·obtain ⟨E, ids, ins, rfl, hE, hids, hins⟩ := argNetwork ty25 ty22 ty97 ty141 ty3 ty23 h.1
  obtain ⟨F, jds, jns, rfl, hF, hjds, hjns⟩ := argNetwork ty25 ty22 ty97 ty141 ty3 ty23 h.2.1
  obtain ⟨l, rfl, hl⟩ := argInts ty23 ty3 h.2.2.1
  exact l_FnExactRefutesSize_call E ids ins F jds jns l (refutes_law E ids ins F jds jns l (wideE_of hE) (Nat.lt_of_le_of_lt hids.1 (by decide)) (Nat.lt_of_le_of_lt hins.1 (by decide)) (wideE_of hF) (Nat.lt_of_le_of_lt hjds.1 (by decide)) (Nat.lt_of_le_of_lt hjns.1 (by decide)))
 ·exact h.2.2.2.elim

end Go.Proofs.Ytipfckompmhljaa
