/- Problems with some labels: the law. Conditions: none. -/
import Derived.Test.YtdjfaadpmbkcmaaL6
import Derived.Test.YtdjfaadpmbkcmaaKlC
import Derived.Test.YtdjfaadpmbkcmaaKl
namespace Go.Proofs.Ytdjfaadpmbkcmaa
open Go Dv
set_option linter.unusedSimpArgs false
set_option linter.unusedVariables false
set_option maxRecDepth 100000


theorem keep_law (a d : Int) (ns es : List (List Int)) (keep : List Int) (hn : Wide ns) (he : Wide es) : l_FnExactKeepLabels a d ns es keep = some true := by
 unfold l_FnExactKeepLabels
 by_cases q0 : 1048576 < (keep.length : Int)
 ·rw [if_pos q0]
 ·rw [if_neg q0, ckT hn, ckT he, ckT (by omega)]
  by_cases q1 : szP 1048576 ns es < 0
  ·rw [if_pos q1]
  ·obtain ⟨f1, sn, se, f2⟩ := szP_fit (by omega) q1
   have t1 := tot_nonneg ns
   have t2 := tot_nonneg es
   have hp : keep.length < 1099511627776 := by omega
   have g1 : (0 : Int) ≤ 1 ∧ 1 + tot ns + tot es < 1099511627776 := by omega
   have g2 : ¬ 1 + tot ns + tot es + keep.length < 0 := by omega
   have g3 : (0 : Int) ≤ 1 + tot ns + tot es ∧ 1 + tot ns + tot es < 1099511627776 := by omega
   have g2' : (0 : Int) ≤ 1 + tot ns + tot es ∧ 1 + tot ns + tot es + keep.length < 1099511627776 := by omega
   rw [if_neg q1, ckT sn, ckT se, ckT hp]
   rcases keep_both a d ns es keep sn se (by omega) (by omega) (by omega) with ⟨hS, hI⟩ | ⟨L, N, E, hS, hI, l1, l2, l3, l4⟩
   ·have hz : Short [] := Short.nil
    have g4 : (0 : Int) ≤ 1 ∧ 1 + tot [] + tot [] < 1099511627776 := by simp [tot_nil]
    have g5 : ¬ 1 + tot [] + tot [] < 0 := by simp [tot_nil]
    have hh := l_heldProblem_eq 0 0 [] [] 1 hz hz g4
    simp only [hS, hI, Option.bind_some, ckT hz, decide_true, sameP_refl, if_true, ckT g1, ckT g2', if_neg g2, ckT g4, hh, if_neg g5]
    simp only [ckT g3, ite_self, Bool.false_eq_true, if_false]
   ·have t3 := tot_nonneg N
    have t4 := tot_nonneg E
    have hN : Short N := tot_short (by omega)
    have hE : Short E := tot_short (by omega)
    have g4 : (0 : Int) ≤ 1 ∧ 1 + tot N + tot E < 1099511627776 := by omega
    have g5 : ¬ 1 + tot N + tot E < 0 := by omega
    have hh := l_heldProblem_eq L d N E 1 hN hE g4
    simp only [hS, hI, Option.bind_some, ckT hN, ckT hE, decide_true, sameP_refl, if_true, ckT g1, ckT g2', if_neg g2, ckT g4, hh, if_neg g5]
    simp only [ckT g3, ite_self, Bool.false_eq_true, if_false]
theorem keep_all (ds : List D) (h : Args tys [24, 33] ds) : Y.call 5 ds [] = some (.bool true, []) := by
 rcases ds with _ | ⟨x, _ | ⟨y, _ | ⟨_, _⟩⟩⟩
 ·cases h
 ·exact h.2.elim
 ·obtain ⟨a, d, ns, es, rfl, _, _, hn, he⟩ := argProblem ty24 ty3 ty22 ty33 ty3 h.1
  obtain ⟨keep, rfl, _⟩ := argInts ty33 ty3 h.2.1
  exact l_FnExactKeepLabels_call a d ns es keep (keep_law a d ns es keep (wide_of hn) (wide_of he))
 ·exact h.2.2.elim

end Go.Proofs.Ytdjfaadpmbkcmaa
