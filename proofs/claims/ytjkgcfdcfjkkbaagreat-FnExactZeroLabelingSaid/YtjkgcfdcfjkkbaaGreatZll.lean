/- Labelings without rounds: the law. Conditions: none. -/
import Derived.Test.YtjkgcfdcfjkkbaaGreatL6
import Derived.Test.YtjkgcfdcfjkkbaaGreatZlb
import Derived.Test.YtjkgcfdcfjkkbaaGreatZlc
namespace Go.Proofs.YtjkgcfdcfjkkbaaGreat
open Go Dv
set_option linter.unusedSimpArgs false
set_option linter.unusedVariables false
set_option maxRecDepth 100000


theorem zl_law (a d : Int) (ns es : List (List Int)) (E : List (List (Int × Int))) (ids ins : List Int) (hn : Wide ns) (he : Wide es) (hE : WideE E) (hids : ids.length < 9223372036854775808) (hins : ins.length < 9223372036854775808) : l_FnExactZeroLabeling a d ns es E ids ins = some true := by
  unfold l_FnExactZeroLabeling
  rw [ckT hn, ckT he, ckT (by omega)]
  by_cases q1 : szP 1048576 ns es < 0
  · rw [if_pos q1]
  · obtain ⟨f1, sn, se, f2⟩ := szP_fit (by omega) q1
    rw [if_neg q1, ckT hE, ckT hids, ckT hins, ckT (by omega)]
    by_cases q2 : szW (szP 1048576 ns es) E ids ins < 0
    · rw [if_pos q2]
    · obtain ⟨g1, sE, g2⟩ := szW_fit (by omega) q2
      have tE := tot_nonneg (fE E)
      have t1 := tot_nonneg ns
      have t2 := tot_nonneg es
      have h1 : ids.length < 1099511627776 := by omega
      have h2 : ins.length < 1099511627776 := by omega
      obtain ⟨r, ok, hS, hI, hr, ht⟩ := zl_both a d ns es E ids ins sn se sE h1 h2
      have t3 := tot_nonneg r
      have hh := l_heldIntSS_eq r 1 hr (by omega)
      have c1 : (0 : Int) ≤ 1 ∧ 1 + tot ns + tot es < 1099511627776 := by omega
      have c2 : 0 ≤ 1 + tot ns + tot es ∧ 1 + tot ns + tot es + 2 * tot (fE E) + ids.length + ins.length < 1099511627776 := by omega
      have c3 : ¬ 1 + tot ns + tot es + 2 * tot (fE E) + ids.length + ins.length < 0 := by omega
      have c4 : (0 : Int) ≤ 1 ∧ (1 : Int) + tot r < 1099511627776 := by omega
      have c5 : ¬ (1 : Int) + tot r < 0 := by omega
      rw [if_neg q2, ckT sn, ckT se, ckT sE, ckT h1, ckT h2]
      simp only [hS, hI, Option.bind_some, ckT hr, decide_true, sameP_refl, sameN_refl, if_true, ckT c1, ckT c2, if_neg c3, ckT c4, hh, if_neg c5]
      cases ok <;> rfl
theorem zl_all (ds : List D) (h : Args tys [24, 28] ds) : Y.call 3 ds [] = some (.bool true, []) := by
  rcases ds with _ | ⟨x, _ | ⟨y, _ | ⟨_, _⟩⟩⟩
  · cases h
  · exact h.2.elim
  · obtain ⟨a, d, ns, es, rfl, _, _, hn, he⟩ := argProblem ty24 ty3 ty22 ty26 ty3 h.1
    obtain ⟨E, ids, ins, rfl, hE, hids, hins⟩ := argNetwork ty28 ty25 ty80 ty103 ty3 ty26 h.2.1
    exact l_FnExactZeroLabeling_call a d ns es E ids ins (zl_law a d ns es E ids ins (wide_of hn) (wide_of he) (wideE_of hE) (Nat.lt_of_le_of_lt hids.1 (by decide)) (Nat.lt_of_le_of_lt hins.1 (by decide)))
  · exact h.2.2.elim

end Go.Proofs.YtjkgcfdcfjkkbaaGreat
