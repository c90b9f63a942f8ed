/- Numbers within bounds. Conditions: none. -/
import Derived.Test.YthaimoghceamnaaDt
namespace Go.Proofs.Ythaimoghceamnaa
open Go Dv
set_option linter.unusedSimpArgs false
set_option linter.unusedVariables false
set_option maxRecDepth 100000

/-- impl.within -/
def k52 : SC :=
  .seq
    (.ops [
      ⟨(some 6), (Op.assign (Operand.const (Value.bool false))), 4, none⟩])
    (.seq
      (.ops [
        ⟨(some 7), (Op.move (Operand.tmp 1)), 3, none⟩,
        ⟨(some 8), (Op.move (Operand.tmp 0)), 3, none⟩,
        ⟨(some 9), (Op.binOp BinOp.leq 3 (Operand.tmp 7) (Operand.tmp 8) 3), 4, none⟩,
        ⟨(some 10), (Op.move (Operand.tmp 9)), 4, none⟩,
        ⟨(some 11), (Op.move (Operand.tmp 0)), 3, (some (some 10, true))⟩,
        ⟨(some 12), (Op.move (Operand.tmp 2)), 3, (some (some 10, true))⟩,
        ⟨(some 13), (Op.binOp BinOp.leq 3 (Operand.tmp 11) (Operand.tmp 12) 3), 4, (some (some 10, true))⟩,
        ⟨(some 14), (Op.pick (Operand.tmp 10) (Operand.tmp 13) (Operand.const (Value.bool false))), 4, none⟩,
        ⟨(some 6), (Op.assign (Operand.tmp 14)), 4, none⟩])
      .ret)
theorem slim52 : Try.f52.body.map (slim lends) = some k52 := by kernel_rfl
theorem ok52 : fnOk Try.f52 3 = true := by kernel_rfl
theorem c52 {a l : List D} {r : D × List D} (h : wpD Y.env k52 (fin tys l.length [ResultVar.tmp 6] r) (entry a l)) (ha : a.length = 3) : Y.call 52 a l = some r :=
  call_slim (Y := Y) rfl Try.func52 (ha ▸ ok52) slim52 h

/-- spec.l1In -/
def k50 : SC :=
  .seq
    (.ops [
      ⟨(some 6), (Op.assign (Operand.const (Value.bool false))), 4, none⟩])
    (.seq
      (.ops [
        ⟨(some 7), (Op.move (Operand.tmp 0)), 3, none⟩,
        ⟨(some 8), (Op.move (Operand.tmp 1)), 3, none⟩,
        ⟨(some 9), (Op.binOp BinOp.geq 3 (Operand.tmp 7) (Operand.tmp 8) 3), 4, none⟩,
        ⟨(some 10), (Op.move (Operand.tmp 9)), 4, none⟩,
        ⟨(some 11), (Op.move (Operand.tmp 0)), 3, (some (some 10, true))⟩,
        ⟨(some 12), (Op.move (Operand.tmp 2)), 3, (some (some 10, true))⟩,
        ⟨(some 13), (Op.binOp BinOp.leq 3 (Operand.tmp 11) (Operand.tmp 12) 3), 4, (some (some 10, true))⟩,
        ⟨(some 14), (Op.pick (Operand.tmp 10) (Operand.tmp 13) (Operand.const (Value.bool false))), 4, none⟩,
        ⟨(some 6), (Op.assign (Operand.tmp 14)), 4, none⟩])
      .ret)
theorem slim50 : Try.f50.body.map (slim lends) = some k50 := by kernel_rfl
theorem ok50 : fnOk Try.f50 3 = true := by kernel_rfl
theorem c50 {a l : List D} {r : D × List D} (h : wpD Y.env k50 (fin tys l.length [ResultVar.tmp 6] r) (entry a l)) (ha : a.length = 3) : Y.call 50 a l = some r :=
  call_slim (Y := Y) rfl Try.func50 (ha ▸ ok50) slim50 h

theorem within_eq (a b c : Int) : Y.call 52 [.int .i64 a, .int .i64 b, .int .i64 c] [] = some (.bool (decide (b ≤ a) && decide (a ≤ c)), []) := by
  refine c52 ?_ rfl
  unfold k52
  by_cases h : b ≤ a <;> simp only [↓xpre, xpost, yset, Option.bind_some, Option.map_some, Option.isSome_some, ↓reduceIte, Nat.reduceEqDiff, Nat.reduceLT, Nat.reduceLeDiff, Nat.reduceAdd, Nat.reduceMul, Nat.reduceMod, Nat.reduceSub, List.contains_cons, List.contains_nil, Nat.reduceBEq, List.getD_cons_zero, List.getD_cons_succ, List.getD_nil, List.length_cons, List.length_nil, List.size_toArray, List.toList_toArray, List.zip_cons_cons, List.zip_nil_left, List.append_nil, List.nil_append, List.cons_append, List.map_cons, List.map_nil, List.replicate_succ, List.replicate_zero, List.set_cons_zero, List.set_cons_succ, List.set_set, List.all_cons, List.all_nil, List.getElem?_cons_zero, List.getElem?_cons_succ, List.getElem?_nil, List.range_zero, beq_self_eq_true, Int.reduceLE, Int.reduceLT, Int.reduceEq, Int.reduceSub, Int.reduceAdd, Int.reduceToNat, Int.reduceNeg, h]
theorem l1In_eq (a b c : Int) : Y.call 50 [.int .i64 a, .int .i64 b, .int .i64 c] [] = some (.bool (decide (b ≤ a) && decide (a ≤ c)), []) := by
  refine c50 ?_ rfl
  unfold k50
  by_cases h : b ≤ a <;> simp only [↓xpre, xpost, yset, Option.bind_some, Option.map_some, Option.isSome_some, ↓reduceIte, Nat.reduceEqDiff, Nat.reduceLT, Nat.reduceLeDiff, Nat.reduceAdd, Nat.reduceMul, Nat.reduceMod, Nat.reduceSub, List.contains_cons, List.contains_nil, Nat.reduceBEq, List.getD_cons_zero, List.getD_cons_succ, List.getD_nil, List.length_cons, List.length_nil, List.size_toArray, List.toList_toArray, List.zip_cons_cons, List.zip_nil_left, List.append_nil, List.nil_append, List.cons_append, List.map_cons, List.map_nil, List.replicate_succ, List.replicate_zero, List.set_cons_zero, List.set_cons_succ, List.set_set, List.all_cons, List.all_nil, List.getElem?_cons_zero, List.getElem?_cons_succ, List.getElem?_nil, List.range_zero, beq_self_eq_true, Int.reduceLE, Int.reduceLT, Int.reduceEq, Int.reduceSub, Int.reduceAdd, Int.reduceToNat, Int.reduceNeg, h]

end Go.Proofs.Ythaimoghceamnaa
