/- Whether outputs meet a task: the law. Conditions: none. -/
import Derived.Test.YtjkgcfdcfjkkbaaL6
import Derived.Test.YtjkgcfdcfjkkbaaMtC
import Derived.Test.YtjkgcfdcfjkkbaaMt
namespace Go.Proofs.Ytjkgcfdcfjkkbaa
open Go Dv
set_option linter.unusedSimpArgs false
set_option linter.unusedVariables false
set_option maxRecDepth 100000


theorem task_law (E : List (List (Int × Int))) (ids ins : List Int) (t : Int) (l : List Int) (hE : WideE E) (hids : ids.length < 9223372036854775808) (hins : ins.length < 9223372036854775808) : l_FnExactMeetsTask E ids ins t l = some true := by
 unfold l_FnExactMeetsTask
 by_cases q0 : 1048576 < (l.length : Int)
 ·rw [if_pos q0]
 ·rw [if_neg q0, ckT hE, ckT hids, ckT hins, ckT (by omega)]
  by_cases q1 : szW 1048576 E ids ins < 0
  ·rw [if_pos q1]
  ·obtain ⟨g1, sE, g2⟩ := szW_fit (by omega) q1
   have tE := tot_nonneg (fE E)
   have h1 : ids.length < 1099511627776 := by omega
   have h2 : ins.length < 1099511627776 := by omega
   have h3 : l.length < 1099511627776 := by omega
   obtain ⟨x, y, hS, hI⟩ := task_both E ids ins t l sE h1 h2 h3
   rw [if_neg q1, ckT sE, ckT h1, ckT h2, ckT h3]
   simp only [hS, hI, Option.bind_some, decide_true, sameN_refl, if_true]
   cases x <;> cases y <;> simp
theorem task_all (ds : List D) (h : Args tys [25, 3, 23] ds) : Y.call 5 ds [] = some (.bool true, []) := by
 rcases ds with _ | ⟨x, _ | ⟨y, _ | ⟨z, _ | ⟨_, _⟩⟩⟩⟩
 ·cases h
 ·exact h.2.elim
 ·exact h.2.2.elim
 ·obtain ⟨E, ids, ins, rfl, hE, hids, hins⟩ := argNetwork ty25 ty22 ty90 ty128 ty3 ty23 h.1
  obtain ⟨t, rfl, _⟩ := argInt ty3 h.2.1
  obtain ⟨l, rfl, hl⟩ := argInts ty23 ty3 h.2.2.1
  exact l_FnExactMeetsTask_call E ids ins t l (task_law E ids ins t l (wideE_of hE) (Nat.lt_of_le_of_lt hids.1 (by decide)) (Nat.lt_of_le_of_lt hins.1 (by decide)))
 ·exact h.2.2.2.elim

end Go.Proofs.Ytjkgcfdcfjkkbaa
