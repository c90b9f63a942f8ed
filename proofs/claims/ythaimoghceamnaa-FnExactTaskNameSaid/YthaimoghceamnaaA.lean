/- The law on TaskName over data. Conditions: none. -/
import Derived.Test.YthaimoghceamnaaK
import Derived.Test.YthaimoghceamnaaL4
namespace Go.Proofs.Ythaimoghceamnaa
open Go Dv
set_option linter.unusedSimpArgs false
set_option linter.unusedVariables false

theorem within_eq (a b c : Int) : Y.call 52 [.int .i64 a, .int .i64 b, .int .i64 c] [] = some (.bool (decide (b ≤ a) && decide (a ≤ c)), []) := by
  refine c52 ?_ rfl
  unfold k52
  by_cases h : b ≤ a <;> simp only [↓xpre, xpost, yset, Option.bind_some, Option.map_some, Option.isSome_some, reduceIte, Nat.reduceEqDiff, Nat.reduceLT, Nat.reduceLeDiff, Nat.reduceAdd, Nat.reduceMul, Nat.reduceMod, Nat.reduceSub, List.getD_cons_zero, List.getD_cons_succ, List.getD_nil, List.length_cons, List.length_nil, List.size_toArray, List.toList_toArray, List.zip_cons_cons, List.zip_nil_left, List.append_nil, List.nil_append, List.cons_append, List.map_cons, List.map_nil, List.replicate_succ, List.replicate_zero, List.set_cons_zero, List.set_cons_succ, List.all_cons, List.all_nil, List.getElem?_cons_zero, List.getElem?_cons_succ, List.getElem?_nil, List.range_zero, beq_self_eq_true, Int.reduceLE, Int.reduceLT, Int.reduceEq, Int.reduceSub, Int.reduceAdd, Int.reduceToNat, Int.reduceNeg, h]
theorem l1In_eq (a b c : Int) : Y.call 50 [.int .i64 a, .int .i64 b, .int .i64 c] [] = some (.bool (decide (b ≤ a) && decide (a ≤ c)), []) := by
  refine c50 ?_ rfl
  unfold k50
  by_cases h : b ≤ a <;> simp only [↓xpre, xpost, yset, Option.bind_some, Option.map_some, Option.isSome_some, reduceIte, Nat.reduceEqDiff, Nat.reduceLT, Nat.reduceLeDiff, Nat.reduceAdd, Nat.reduceMul, Nat.reduceMod, Nat.reduceSub, List.getD_cons_zero, List.getD_cons_succ, List.getD_nil, List.length_cons, List.length_nil, List.size_toArray, List.toList_toArray, List.zip_cons_cons, List.zip_nil_left, List.append_nil, List.nil_append, List.cons_append, List.map_cons, List.map_nil, List.replicate_succ, List.replicate_zero, List.set_cons_zero, List.set_cons_succ, List.all_cons, List.all_nil, List.getElem?_cons_zero, List.getElem?_cons_succ, List.getElem?_nil, List.range_zero, beq_self_eq_true, Int.reduceLE, Int.reduceLT, Int.reduceEq, Int.reduceSub, Int.reduceAdd, Int.reduceToNat, Int.reduceNeg, h]
theorem isTask_eq (a : Int) : Y.call 46 [.int .i64 a] [] = some (.bool (decide (1 ≤ a) && decide (a ≤ 3)), []) := by
  refine c46 ?_ rfl
  unfold k46
  simp only [↓xpre, xpost, yset, Option.bind_some, Option.map_some, Option.isSome_some, reduceIte, Nat.reduceEqDiff, Nat.reduceLT, Nat.reduceLeDiff, Nat.reduceAdd, Nat.reduceMul, Nat.reduceMod, Nat.reduceSub, List.getD_cons_zero, List.getD_cons_succ, List.getD_nil, List.length_cons, List.length_nil, List.size_toArray, List.toList_toArray, List.zip_cons_cons, List.zip_nil_left, List.append_nil, List.nil_append, List.cons_append, List.map_cons, List.map_nil, List.replicate_succ, List.replicate_zero, List.set_cons_zero, List.set_cons_succ, List.all_cons, List.all_nil, List.getElem?_cons_zero, List.getElem?_cons_succ, List.getElem?_nil, List.range_zero, beq_self_eq_true, Int.reduceLE, Int.reduceLT, Int.reduceEq, Int.reduceSub, Int.reduceAdd, Int.reduceToNat, Int.reduceNeg, within_eq]
theorem imTask_eq (a : Int) : Y.call 45 [.int .i64 a] [] = some (.bool (decide (1 ≤ a) && decide (a ≤ 3)), []) := by
  refine c45 ?_ rfl
  unfold k45
  simp only [↓xpre, xpost, yset, Option.bind_some, Option.map_some, Option.isSome_some, reduceIte, Nat.reduceEqDiff, Nat.reduceLT, Nat.reduceLeDiff, Nat.reduceAdd, Nat.reduceMul, Nat.reduceMod, Nat.reduceSub, List.getD_cons_zero, List.getD_cons_succ, List.getD_nil, List.length_cons, List.length_nil, List.size_toArray, List.toList_toArray, List.zip_cons_cons, List.zip_nil_left, List.append_nil, List.nil_append, List.cons_append, List.map_cons, List.map_nil, List.replicate_succ, List.replicate_zero, List.set_cons_zero, List.set_cons_succ, List.all_cons, List.all_nil, List.getElem?_cons_zero, List.getElem?_cons_succ, List.getElem?_nil, List.range_zero, beq_self_eq_true, Int.reduceLE, Int.reduceLT, Int.reduceEq, Int.reduceSub, Int.reduceAdd, Int.reduceToNat, Int.reduceNeg, l1In_eq]
def taskD (a : Int) : D :=
  if a = 1 then .tup [.str { data := #[108, 101, 97, 100, 101, 114] }, .bool true]
  else if a = 2 then .tup [.str { data := #[99, 111, 108, 111, 117, 114, 105, 110, 103] }, .bool true]
  else if a = 3 then .tup [.str { data := #[110, 97, 109, 101, 115] }, .bool true]
  else .tup [.str { data := #[] }, .bool false]
theorem taskNameS_eq (a : Int) : Y.call 14 [.int .i64 a] [] = some (taskD a, []) := by
  by_cases h : 1 ≤ a ∧ a ≤ 3
  · have h3 : a = 1 ∨ a = 2 ∨ a = 3 := by omega
    rcases h3 with rfl | rfl | rfl <;>
    · refine c14 ?_ rfl
      unfold k14 taskD
      simp only [↓xpre, xpost, yset, Option.bind_some, Option.map_some, Option.isSome_some, reduceIte, Nat.reduceEqDiff, Nat.reduceLT, Nat.reduceLeDiff, Nat.reduceAdd, Nat.reduceMul, Nat.reduceMod, Nat.reduceSub, List.getD_cons_zero, List.getD_cons_succ, List.getD_nil, List.length_cons, List.length_nil, List.size_toArray, List.toList_toArray, List.zip_cons_cons, List.zip_nil_left, List.append_nil, List.nil_append, List.cons_append, List.map_cons, List.map_nil, List.replicate_succ, List.replicate_zero, List.set_cons_zero, List.set_cons_succ, List.all_cons, List.all_nil, List.getElem?_cons_zero, List.getElem?_cons_succ, List.getElem?_nil, List.range_zero, beq_self_eq_true, Int.reduceLE, Int.reduceLT, Int.reduceEq, Int.reduceSub, Int.reduceAdd, Int.reduceToNat, Int.reduceNeg, imTask_eq, wr64 0 (by omega), wr64 1 (by omega), wr64 2 (by omega)]
  · refine c14 ?_ rfl
    have e : (decide (1 ≤ a) && decide (a ≤ 3)) = false := by simp; omega
    have e1 : ¬ a = 1 := by omega
    have e2 : ¬ a = 2 := by omega
    have e3 : ¬ a = 3 := by omega
    unfold k14 taskD
    simp only [↓xpre, xpost, yset, Option.bind_some, Option.map_some, Option.isSome_some, reduceIte, Nat.reduceEqDiff, Nat.reduceLT, Nat.reduceLeDiff, Nat.reduceAdd, Nat.reduceMul, Nat.reduceMod, Nat.reduceSub, List.getD_cons_zero, List.getD_cons_succ, List.getD_nil, List.length_cons, List.length_nil, List.size_toArray, List.toList_toArray, List.zip_cons_cons, List.zip_nil_left, List.append_nil, List.nil_append, List.cons_append, List.map_cons, List.map_nil, List.replicate_succ, List.replicate_zero, List.set_cons_zero, List.set_cons_succ, List.all_cons, List.all_nil, List.getElem?_cons_zero, List.getElem?_cons_succ, List.getElem?_nil, List.range_zero, beq_self_eq_true, Int.reduceLE, Int.reduceLT, Int.reduceEq, Int.reduceSub, Int.reduceAdd, Int.reduceToNat, Int.reduceNeg, imTask_eq, e, e1, e2, e3]
theorem taskNameI_eq (a : Int) : Y.call 15 [.int .i64 a] [] = some (taskD a, []) := by
  by_cases h : 1 ≤ a ∧ a ≤ 3
  · have h3 : a = 1 ∨ a = 2 ∨ a = 3 := by omega
    rcases h3 with rfl | rfl | rfl <;>
    · refine c15 ?_ rfl
      unfold k15 taskD
      simp only [↓xpre, xpost, yset, Option.bind_some, Option.map_some, Option.isSome_some, reduceIte, Nat.reduceEqDiff, Nat.reduceLT, Nat.reduceLeDiff, Nat.reduceAdd, Nat.reduceMul, Nat.reduceMod, Nat.reduceSub, List.getD_cons_zero, List.getD_cons_succ, List.getD_nil, List.length_cons, List.length_nil, List.size_toArray, List.toList_toArray, List.zip_cons_cons, List.zip_nil_left, List.append_nil, List.nil_append, List.cons_append, List.map_cons, List.map_nil, List.replicate_succ, List.replicate_zero, List.set_cons_zero, List.set_cons_succ, List.all_cons, List.all_nil, List.getElem?_cons_zero, List.getElem?_cons_succ, List.getElem?_nil, List.range_zero, beq_self_eq_true, Int.reduceLE, Int.reduceLT, Int.reduceEq, Int.reduceSub, Int.reduceAdd, Int.reduceToNat, Int.reduceNeg, isTask_eq, wr64 0 (by omega), wr64 1 (by omega), wr64 2 (by omega)]
  · refine c15 ?_ rfl
    have e : (decide (1 ≤ a) && decide (a ≤ 3)) = false := by simp; omega
    have e1 : ¬ a = 1 := by omega
    have e2 : ¬ a = 2 := by omega
    have e3 : ¬ a = 3 := by omega
    unfold k15 taskD
    simp only [↓xpre, xpost, yset, Option.bind_some, Option.map_some, Option.isSome_some, reduceIte, Nat.reduceEqDiff, Nat.reduceLT, Nat.reduceLeDiff, Nat.reduceAdd, Nat.reduceMul, Nat.reduceMod, Nat.reduceSub, List.getD_cons_zero, List.getD_cons_succ, List.getD_nil, List.length_cons, List.length_nil, List.size_toArray, List.toList_toArray, List.zip_cons_cons, List.zip_nil_left, List.append_nil, List.nil_append, List.cons_append, List.map_cons, List.map_nil, List.replicate_succ, List.replicate_zero, List.set_cons_zero, List.set_cons_succ, List.all_cons, List.all_nil, List.getElem?_cons_zero, List.getElem?_cons_succ, List.getElem?_nil, List.range_zero, beq_self_eq_true, Int.reduceLE, Int.reduceLT, Int.reduceEq, Int.reduceSub, Int.reduceAdd, Int.reduceToNat, Int.reduceNeg, isTask_eq, e, e1, e2, e3]

theorem taskName_law (a : Int) : Y.call 3 [.int .i64 a] [] = some (.bool true, []) := by
  have key : ∃ x b, taskD a = .tup [.str x, .bool b] := by unfold taskD; split <;> (try split) <;> (try split) <;> exact ⟨_, _, rfl⟩
  obtain ⟨x, b, hx⟩ := key
  refine c3 ?_ rfl
  unfold k3
  simp only [↓xpre, xpost, yset, Option.bind_some, Option.map_some, Option.isSome_some, reduceIte, Nat.reduceEqDiff, Nat.reduceLT, Nat.reduceLeDiff, Nat.reduceAdd, Nat.reduceMul, Nat.reduceMod, Nat.reduceSub, List.getD_cons_zero, List.getD_cons_succ, List.getD_nil, List.length_cons, List.length_nil, List.size_toArray, List.toList_toArray, List.zip_cons_cons, List.zip_nil_left, List.append_nil, List.nil_append, List.cons_append, List.map_cons, List.map_nil, List.replicate_succ, List.replicate_zero, List.set_cons_zero, List.set_cons_succ, List.all_cons, List.all_nil, List.getElem?_cons_zero, List.getElem?_cons_succ, List.getElem?_nil, List.range_zero, beq_self_eq_true, Int.reduceLE, Int.reduceLT, Int.reduceEq, Int.reduceSub, Int.reduceAdd, Int.reduceToNat, Int.reduceNeg, taskNameS_eq, taskNameI_eq, hx]
theorem taskName_all (ds : List D) (h : Args tys [3] ds) : Y.call 3 ds [] = some (.bool true, []) := by
  rcases ds with _ | ⟨d, _ | ⟨_, _⟩⟩
  · cases h
  · obtain ⟨n, rfl, _⟩ := argInt ty3 h.1
    exact taskName_law n
  · exact h.2.elim
end Go.Proofs.Ythaimoghceamnaa
