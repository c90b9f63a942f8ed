/- The product of two problems: the law. Conditions: none. -/
import Derived.Test.YtdjfaadpmbkcmaaL6
import Derived.Test.YtdjfaadpmbkcmaaMsC
import Derived.Test.YtdjfaadpmbkcmaaMs
namespace Go.Proofs.Ytdjfaadpmbkcmaa
open Go Dv
set_option linter.unusedSimpArgs false
set_option linter.unusedVariables false
set_option maxRecDepth 100000


theorem prod_law (a d : Int) (ns es : List (List Int)) (b d' : Int) (ns' es' : List (List Int)) (hn : Wide ns) (he : Wide es) (hn' : Wide ns') (he' : Wide es') : l_FnExactProductProblem a d ns es b d' ns' es' = some true := by
 unfold l_FnExactProductProblem
 rw [ckT hn, ckT he, ckT (by omega)]
 by_cases q1 : szP 1048576 ns es < 0
 ·rw [if_pos q1]
 ·obtain ⟨f1, sn, se, f2⟩ := szP_fit (by omega) q1
  rw [if_neg q1, ckT hn', ckT he', ckT (by omega)]
  by_cases q2 : szP (szP 1048576 ns es) ns' es' < 0
  ·rw [if_pos q2]
  ·obtain ⟨f3, sn', se', f4⟩ := szP_fit f2 q2
   have t1 := tot_nonneg ns
   have t2 := tot_nonneg es
   have t3 := tot_nonneg ns'
   have t4 := tot_nonneg es'
   obtain ⟨L, K, N, E, ok, hN, hE, hT, hS, hI⟩ := prod_one a d ns es b d' ns' es' sn se sn' se'
   have t5 := tot_nonneg N
   have t6 := tot_nonneg E
   have hh := l_heldProblem_eq L K N E 1 hN hE (by omega)
   have g1 : (0 : Int) ≤ 1 ∧ 1 + tot ns + tot es < 1099511627776 := by omega
   have g2 : 0 ≤ 1 + tot ns + tot es ∧ 1 + tot ns + tot es + tot ns' + tot es' < 1099511627776 := by omega
   have g3 : ¬ 1 + tot ns + tot es + tot ns' + tot es' < 0 := by omega
   have g4 : (0 : Int) ≤ 1 ∧ 1 + tot N + tot E < 1099511627776 := by omega
   have g5 : ¬ 1 + tot N + tot E < 0 := by omega
   rw [if_neg q2, ckT sn, ckT se, ckT sn', ckT se']
   simp only [hS, hI, Option.bind_some, ckT hN, ckT hE, sameP_refl, if_true, ckT g1, ckT g2, if_neg g3, ckT g4, hh, if_neg g5]
   cases ok <;> simp
theorem prod_all (ds : List D) (h : Args tys [24, 24] ds) : Y.call 3 ds [] = some (.bool true, []) := by
 rcases ds with _ | ⟨x, _ | ⟨y, _ | ⟨_, _⟩⟩⟩
 ·cases h
 ·exact h.2.elim
 ·obtain ⟨a, d, ns, es, rfl, _, _, hn, he⟩ := argProblem ty24 ty3 ty22 ty33 ty3 h.1
  obtain ⟨b, d', ns', es', rfl, _, _, hn', he'⟩ := argProblem ty24 ty3 ty22 ty33 ty3 h.2.1
  exact l_FnExactProductProblem_call a d ns es b d' ns' es' (prod_law a d ns es b d' ns' es' (wide_of hn) (wide_of he) (wide_of hn') (wide_of he'))
 ·exact h.2.2.elim

end Go.Proofs.Ytdjfaadpmbkcmaa
