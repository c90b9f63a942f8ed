/- Problems without weaker labels: the law. Conditions: none. -/
import Derived.Test.YtdjfaadpmbkcmaaGreatL6
import Derived.Test.YtdjfaadpmbkcmaaGreatDwrC
import Derived.Test.YtdjfaadpmbkcmaaGreatDwr
namespace Go.Proofs.YtdjfaadpmbkcmaaGreat
open Go Dv
set_option linter.unusedSimpArgs false
set_option linter.unusedVariables false
set_option maxRecDepth 100000


theorem drop_law (a d : Int) (ns es : List (List Int)) (hn : Wide ns) (he : Wide es) : l_FnExactDropWeaker a d ns es = some true := by
 unfold l_FnExactDropWeaker
 rw [ckT hn, ckT he, ckT (by omega)]
 by_cases q1 : szP 1048576 ns es < 0
 ·rw [if_pos q1]
 ·obtain ⟨f1, sn, se, f2⟩ := szP_fit (by omega) q1
  have t1 := tot_nonneg ns
  have t2 := tot_nonneg es
  have g1 : (0 : Int) ≤ 1 ∧ (1 : Int) + tot ns + tot es < 1099511627776 := by omega
  have g2 : ¬ (1 : Int) + tot ns + tot es < 0 := by omega
  rw [if_neg q1, ckT sn, ckT se]
  have fin : ∀ (L e : Int) (N E : List (List Int)) (left : List Int), Short N → Short E → tot N + tot E ≤ 1048576 → left.length ≤ 8 →
    (0 : Int) ≤ 1 ∧ (1 : Int) + tot N + tot E < 1099511627776 ∧ 0 ≤ (1 : Int) + tot N + tot E ∧ l_heldProblem L e (marks 1 N) (marks (1 + tot N) E) 1 = some (1 + tot N + tot E) ∧ ¬ (1 : Int) + tot N + tot E < 0 ∧
    (upto ((1 : Int) + tot N + tot E) left.length).length < 1099511627776 ∧ (1 : Int) + tot N + tot E + ((upto ((1 : Int) + tot N + tot E) left.length).length : Int) < 1099511627776 ∧
    held ((1 : Int) + tot N + tot E) (upto ((1 : Int) + tot N + tot E) left.length) = (1 : Int) + tot N + tot E + left.length ∧ ¬ (1 : Int) + tot N + tot E + left.length < 0 := by
   intro L e N E left hN hE hb hl
   have t3 := tot_nonneg N
   have t4 := tot_nonneg E
   refine ⟨by omega, by omega, by omega, l_heldProblem_eq L e N E 1 hN hE (by omega), by omega, by rw [upto_len]; omega, by rw [upto_len]; omega, held_upto _ _, by omega⟩
  rcases drop_both a d ns es (by omega) with ⟨hS, hI⟩ | ⟨L, e, N, E, left, hS, hI, l1, l2, l3, l4, l5⟩
  ·obtain ⟨h1, h2, h3, h4, h5, h6, h7, h8, h9⟩ := fin 0 0 [] [] [] Short.nil Short.nil (by simp [tot_nil]) (by simp)
   have hz : Short [] := Short.nil
   have hl : ([] : List Int).length < 1099511627776 := by simp
   simp only [hS, hI, Option.bind_some, ckT hz, sameP_refl, if_true, ckT hl, decide_true, Bool.false_eq_true, if_false, ckT g1, if_neg g2, ckT (And.intro h1 h2), ckT (And.intro h3 h2), h4, if_neg h5, ckT h6, ckT (And.intro h3 h7), h8, if_neg h9, ↓reduceIte, ite_self]
  ·have t3 := tot_nonneg N
   have t4 := tot_nonneg E
   have hN : Short N := tot_short (by omega)
   have hE : Short E := tot_short (by omega)
   obtain ⟨h1, h2, h3, h4, h5, h6, h7, h8, h9⟩ := fin L e N E left hN hE (by omega) l5
   have hl : left.length < 1099511627776 := by omega
   simp only [hS, hI, Option.bind_some, ckT hN, ckT hE, sameP_refl, if_true, ckT hl, decide_true, ckT g1, if_neg g2, ckT (And.intro h1 h2), ckT (And.intro h3 h2), h4, if_neg h5, ckT h6, ckT (And.intro h3 h7), h8, if_neg h9, ↓reduceIte, ite_self]
theorem drop_all (ds : List D) (h : Args tys [24] ds) : Y.call 3 ds [] = some (.bool true, []) := by
 rcases ds with _ | ⟨x, _ | ⟨_, _⟩⟩
 ·cases h
 ·obtain ⟨a, d, ns, es, rfl, _, _, hn, he⟩ := argProblem ty24 ty3 ty22 ty27 ty3 h.1
  exact l_FnExactDropWeaker_call a d ns es (drop_law a d ns es (wide_of hn) (wide_of he))
 ·exact h.2.elim

end Go.Proofs.YtdjfaadpmbkcmaaGreat
