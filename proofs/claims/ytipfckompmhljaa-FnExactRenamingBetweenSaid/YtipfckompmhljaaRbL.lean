/- Renamings between problems: the law. Conditions: none. -/
import Derived.Test.YtipfckompmhljaaL6
import Derived.Test.YtipfckompmhljaaRbC
import Derived.Test.YtipfckompmhljaaRb
namespace Go.Proofs.Ytipfckompmhljaa
open Go Dv
set_option linter.unusedSimpArgs false
set_option linter.unusedVariables false
set_option maxRecDepth 100000


theorem renaming_law (a d : Int) (ns es : List (List Int)) (a' d' : Int) (ms fs : List (List Int)) (hn : Wide ns) (he : Wide es) (hm : Wide ms) (hf : Wide fs) : l_FnExactRenamingBetween a d ns es a' d' ms fs = some true := by
 unfold l_FnExactRenamingBetween
 rw [ckT hn, ckT he, ckT (by omega)]
 by_cases q1 : szP 1048576 ns es < 0
 ·rw [if_pos q1]
 ·obtain ⟨f1, sn, se, f2⟩ := szP_fit (by omega) q1
  rw [if_neg q1, ckT hm, ckT hf, ckT (by omega)]
  by_cases q2 : szP (szP 1048576 ns es) ms fs < 0
  ·rw [if_pos q2]
  ·obtain ⟨f3, sm, sf, f4⟩ := szP_fit (by omega) q2
   have t1 := tot_nonneg ns
   have t2 := tot_nonneg es
   have t3 := tot_nonneg ms
   have t4 := tot_nonneg fs
   obtain ⟨r, ok, hS, hI, hr⟩ := renaming_both a d ns es a' d' ms fs sn se sm sf
   have g1 : (0 : Int) ≤ 1 ∧ 1 + tot ns + tot es < 1099511627776 := by omega
   have g2 : 0 ≤ 1 + tot ns + tot es ∧ 1 + tot ns + tot es + tot ms + tot fs < 1099511627776 := by omega
   have g3 : ¬ 1 + tot ns + tot es + tot ms + tot fs < 0 := by omega
   have g4 : (0 : Int) ≤ 1 ∧ (1 : Int) < 1099511627776 := by omega
   have g5 : (0 : Int) ≤ 1 ∧ (1 : Int) + (r.length : Int) < 1099511627776 := by omega
   have g6 : ¬ (1 : Int) + (r.length : Int) < 0 := by omega
   have g7 : r.length < 1099511627776 := by omega
   rw [if_neg q2, ckT sn, ckT se, ckT sm, ckT sf]
   rcases hS with hS | hS
   ·simp only [hS, hI, Option.bind_some, ckT g7, decide_true, sameP_refl, if_true, ckT g1, ckT g2, if_neg g3, ckT g4, upto_len, ckT g5, held_upto, if_neg g6]
    cases ok <;> rfl
   ·simp only [hS, hI, Option.bind_some, ckT g7, decide_true, sameP_refl, if_true, ckT g1, ckT g2, if_neg g3, ckT g4, upto_len, ckT g5, held_upto, if_neg g6]
    cases ok <;> rfl
theorem renaming_all (ds : List D) (h : Args tys [46, 46] ds) : Y.call 6 ds [] = some (.bool true, []) := by
 rcases ds with _ | ⟨x, _ | ⟨y, _ | ⟨_, _⟩⟩⟩
 ·cases h
 ·exact h.2.elim
 ·obtain ⟨a, d, ns, es, rfl, _, _, hn, he⟩ := argProblem ty46 ty3 ty44 ty23 ty3 h.1
  obtain ⟨a', d', ms, fs, rfl, _, _, hm, hf⟩ := argProblem ty46 ty3 ty44 ty23 ty3 h.2.1
  exact l_FnExactRenamingBetween_call a d ns es a' d' ms fs (renaming_law a d ns es a' d' ms fs (wide_of hn) (wide_of he) (wide_of hm) (wide_of hf))
 ·exact h.2.2.elim

end Go.Proofs.Ytipfckompmhljaa
