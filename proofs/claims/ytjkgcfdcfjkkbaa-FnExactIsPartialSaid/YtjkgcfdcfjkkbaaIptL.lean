/- Partial labelings: the law. Conditions: none. -/
import Derived.Test.YtjkgcfdcfjkkbaaL6
import Derived.Test.YtjkgcfdcfjkkbaaIptC
import Derived.Test.YtjkgcfdcfjkkbaaIpt
namespace Go.Proofs.Ytjkgcfdcfjkkbaa
open Go Dv
set_option linter.unusedSimpArgs false
set_option linter.unusedVariables false
set_option maxRecDepth 100000


theorem part_law (a d : Int) (ns es : List (List Int)) (E : List (List (Int × Int))) (ids ins : List Int) (l : List (List Int)) (hn : Wide ns) (he : Wide es) (hE : WideE E) (hids : ids.length < 9223372036854775808) (hins : ins.length < 9223372036854775808) (hl : Wide l) : l_FnExactIsPartial a d ns es E ids ins l = some true := by
  unfold l_FnExactIsPartial
  rw [ckT hn, ckT he, ckT (by omega)]
  by_cases q1 : szP 1048576 ns es < 0
  · rw [if_pos q1]
  · obtain ⟨f1, sn, se, f2⟩ := szP_fit (by omega) q1
    rw [if_neg q1, ckT hE, ckT hids, ckT hins, ckT (by omega)]
    by_cases q2 : szW (szP 1048576 ns es) E ids ins < 0
    · rw [if_pos q2]
    · obtain ⟨g1, sE, g2⟩ := szW_fit (by omega) q2
      have tE := tot_nonneg (fE E)
      rw [if_neg q2, ckT hl, ckT (by omega)]
      by_cases q3 : szN (szW (szP 1048576 ns es) E ids ins) (l.length + tot l) < 0
      · rw [if_pos q3]
      · have sl : Short l := by
          have t1 := tot_nonneg l
          rcases szN_cases (szW (szP 1048576 ns es) E ids ins) (l.length + tot l) with c | ⟨c, c'⟩
          · rw [c] at q3; simp at q3
          · exact tot_short (by omega)
        have h1 : ids.length < 1099511627776 := by omega
        have h2 : ins.length < 1099511627776 := by omega
        obtain ⟨x, y, hS, hI⟩ := part_both a d ns es E ids ins l sn se sE h1 h2 sl
        rw [if_neg q3, ckT sn, ckT se, ckT sE, ckT h1, ckT h2, ckT sl]
        simp only [hS, hI, Option.bind_some, decide_true, sameP_refl, sameN_refl, if_true]
        cases x <;> cases y <;> rfl
theorem part_all (ds : List D) (h : Args tys [38, 25, 36] ds) : Y.call 4 ds [] = some (.bool true, []) := by
  rcases ds with _ | ⟨x, _ | ⟨y, _ | ⟨z, _ | ⟨_, _⟩⟩⟩⟩
  · cases h
  · exact h.2.elim
  · exact h.2.2.elim
  · obtain ⟨a, d, ns, es, rfl, _, _, hn, he⟩ := argProblem ty38 ty3 ty36 ty23 ty3 h.1
    obtain ⟨E, ids, ins, rfl, hE, hids, hins⟩ := argNetwork ty25 ty22 ty90 ty128 ty3 ty23 h.2.1
    obtain ⟨l, rfl, hl⟩ := argIntss ty36 ty23 ty3 h.2.2.1
    exact l_FnExactIsPartial_call a d ns es E ids ins l (part_law a d ns es E ids ins l (wide_of hn) (wide_of he) (wideE_of hE) (Nat.lt_of_le_of_lt hids.1 (by decide)) (Nat.lt_of_le_of_lt hins.1 (by decide)) (wide_of hl))
  · exact h.2.2.2.elim

end Go.Proofs.Ytjkgcfdcfjkkbaa
