/- Ranks of identifiers: the law. Conditions: none. -/
import Derived.Test.YtjkgcfdcfjkkbaaL6
import Derived.Test.YtjkgcfdcfjkkbaaRnkC
import Derived.Test.YtjkgcfdcfjkkbaaRnk
namespace Go.Proofs.Ytjkgcfdcfjkkbaa
open Go Dv
set_option linter.unusedSimpArgs false
set_option linter.unusedVariables false
set_option maxRecDepth 100000


theorem rank_law (E : List (List (Int × Int))) (ids ins : List Int) (hE : WideE E) (hids : ids.length < 9223372036854775808) (hins : ins.length < 9223372036854775808) : l_FnExactRankIds E ids ins = some true := by
  unfold l_FnExactRankIds
  rw [ckT hE, ckT hids, ckT hins, ckT (by omega)]
  by_cases q1 : szW 1048576 E ids ins < 0
  · rw [if_pos q1]
  · obtain ⟨g1, sE, g2⟩ := szW_fit (by omega) q1
    have tE := tot_nonneg (fE E)
    have h1 : ids.length < 1099511627776 := by omega
    have h2 : ins.length < 1099511627776 := by omega
    obtain ⟨E', ids', ins', ok, hS, hI, sE', t1, t2, t3⟩ := rank_both E ids ins sE h1 h2
    have tE' := tot_nonneg (fE E')
    have hh := l_heldNetwork_eq E' ids' ins' 1 sE' (by omega) (by omega) (by omega)
    have c1 : ids'.length < 1099511627776 := by omega
    have c2 : ins'.length < 1099511627776 := by omega
    have c3 : (0 : Int) ≤ 1 ∧ (1 : Int) + 2 * tot (fE E) + ids.length + ins.length < 1099511627776 := by omega
    have c4 : ¬ (1 : Int) + 2 * tot (fE E) + ids.length + ins.length < 0 := by omega
    have c5 : (0 : Int) ≤ 1 ∧ (1 : Int) + 2 * tot (fE E') + ids'.length + ins'.length < 1099511627776 := by omega
    have c6 : ¬ (1 : Int) + 2 * tot (fE E') + ids'.length + ins'.length < 0 := by omega
    rw [if_neg q1, ckT sE, ckT h1, ckT h2]
    simp only [hS, hI, Option.bind_some, ckT sE', ckT c1, ckT c2, sameN_refl, if_true, ckT c3, if_neg c4, ckT c5, hh, if_neg c6]
    cases ok <;> rfl
theorem rank_all (ds : List D) (h : Args tys [25] ds) : Y.call 3 ds [] = some (.bool true, []) := by
  rcases ds with _ | ⟨x, _ | ⟨_, _⟩⟩
  · cases h
  · obtain ⟨E, ids, ins, rfl, hE, hids, hins⟩ := argNetwork ty25 ty22 ty90 ty128 ty3 ty23 h.1
    exact l_FnExactRankIds_call E ids ins (rank_law E ids ins (wideE_of hE) (Nat.lt_of_le_of_lt hids.1 (by decide)) (Nat.lt_of_le_of_lt hins.1 (by decide)))
  · exact h.2.elim

end Go.Proofs.Ytjkgcfdcfjkkbaa
