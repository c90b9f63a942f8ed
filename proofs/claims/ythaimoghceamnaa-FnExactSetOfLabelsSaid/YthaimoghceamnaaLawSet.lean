/- The law on SetOfLabels over data. Conditions: none. -/
import Derived.Test.YthaimoghceamnaaSets
namespace Go.Proofs.Ythaimoghceamnaa
open Go Dv
set_option linter.unusedSimpArgs false
set_option linter.unusedVariables false
set_option maxRecDepth 100000

/-- laws.FnExactSetOfLabels -/
def k4 : SC :=
  .seq
    (.ops [
      ⟨(some 2), (Op.assign (Operand.const (Value.bool false))), 4, none⟩])
    (.seq
      (.seq
        (.ops [
          ⟨(some 8), (Op.move (Operand.tmp 0)), 25, none⟩,
          ⟨(some 9), (Op.call { callee := (Callee.builtin Builtin.len), args := #[(Operand.tmp 8)], argTypes := #[25] }), 3, none⟩,
          ⟨(some 10), (Op.binOp BinOp.gtr 3 (Operand.tmp 9) (Operand.const (Value.int IntKind.i64 1048576)) 3), 4, none⟩])
        (.cond (Operand.tmp 10)
          (.seq
            (.ops [
              ⟨(some 2), (Op.assign (Operand.const (Value.bool true))), 4, none⟩])
            .ret)
          .skip))
      (.seq
        (.ops [
          ⟨(some 12), (Op.move (Operand.tmp 0)), 25, none⟩,
          ⟨(some 13), (Op.call { callee := (Callee.value (Operand.func 17)), args := #[(Operand.tmp 12)], argTypes := #[25] }), 25, none⟩,
          ⟨(some 14), (Op.call { callee := (Callee.value (Operand.func 16)), args := #[(Operand.tmp 13)], argTypes := #[25] }), 26, none⟩,
          ⟨(some 11), (Op.move (Operand.tmp 14)), 26, none⟩,
          ⟨(some 15), (Op.extract (Operand.tmp 11) 0), 3, none⟩,
          ⟨(some 16), (Op.extract (Operand.tmp 11) 1), 4, none⟩,
          ⟨(some 3), (Op.assign (Operand.tmp 15)), 3, none⟩,
          ⟨(some 4), (Op.assign (Operand.tmp 16)), 4, none⟩])
        (.seq
          (.ops [
            ⟨(some 17), (Op.move (Operand.tmp 0)), 25, none⟩,
            ⟨(some 18), (Op.call { callee := (Callee.value (Operand.func 17)), args := #[(Operand.tmp 17)], argTypes := #[25] }), 25, none⟩,
            ⟨(some 5), (Op.assign (Operand.tmp 18)), 25, none⟩])
          (.seq
            (.ops [
              ⟨(some 20), (Op.move (Operand.tmp 5)), 25, none⟩,
              ⟨(some 21), (Op.call { callee := (Callee.value (Operand.func 18)), args := #[(Operand.tmp 20)], argTypes := #[25] }), 26, none⟩,
              ⟨(some 19), (Op.move (Operand.tmp 21)), 26, none⟩,
              ⟨(some 22), (Op.extract (Operand.tmp 19) 0), 3, none⟩,
              ⟨(some 23), (Op.extract (Operand.tmp 19) 1), 4, none⟩,
              ⟨(some 6), (Op.assign (Operand.tmp 22)), 3, none⟩,
              ⟨(some 7), (Op.assign (Operand.tmp 23)), 4, none⟩])
            (.seq
              (.seq
                (.ops [
                  ⟨(some 24), (Op.move (Operand.tmp 6)), 3, none⟩,
                  ⟨(some 25), (Op.move (Operand.tmp 3)), 3, none⟩,
                  ⟨(some 26), (Op.binOp BinOp.neq 3 (Operand.tmp 24) (Operand.tmp 25) 3), 4, none⟩,
                  ⟨(some 27), (Op.move (Operand.tmp 26)), 4, none⟩,
                  ⟨(some 28), (Op.move (Operand.tmp 7)), 4, (some (some 27, false))⟩,
                  ⟨(some 29), (Op.move (Operand.tmp 4)), 4, (some (some 27, false))⟩,
                  ⟨(some 30), (Op.binOp BinOp.neq 4 (Operand.tmp 28) (Operand.tmp 29) 4), 4, (some (some 27, false))⟩,
                  ⟨(some 31), (Op.pick (Operand.tmp 27) (Operand.const (Value.bool true)) (Operand.tmp 30)), 4, none⟩])
                (.cond (Operand.tmp 31)
                  (.seq
                    (.ops [
                      ⟨(some 2), (Op.assign (Operand.const (Value.bool false))), 4, none⟩])
                    .ret)
                  .skip))
              (.seq
                (.seq
                  (.ops [
                    ⟨(some 32), (Op.move (Operand.tmp 5)), 25, none⟩,
                    ⟨(some 33), (Op.move (Operand.tmp 0)), 25, none⟩,
                    ⟨(some 34), (Op.call { callee := (Callee.value (Operand.func 17)), args := #[(Operand.tmp 33)], argTypes := #[25] }), 25, none⟩,
                    ⟨(some 35), (Op.call { callee := (Callee.value (Operand.func 19)), args := #[(Operand.tmp 32), (Operand.tmp 34)], argTypes := #[25, 25] }), 4, none⟩,
                    ⟨(some 36), (Op.unOp UnOp.not 4 (Operand.tmp 35)), 4, none⟩])
                  (.cond (Operand.tmp 36)
                    (.seq
                      (.ops [
                        ⟨(some 2), (Op.assign (Operand.const (Value.bool false))), 4, none⟩])
                      .ret)
                    .skip))
                (.seq
                  (.ops [
                    ⟨(some 2), (Op.assign (Operand.const (Value.bool true))), 4, none⟩])
                  .ret)))))))
theorem slim4 : Try.f4.body.map (slim lends) = some k4 := by kernel_rfl
theorem ok4 : fnOk Try.f4 1 = true := by kernel_rfl
theorem c4 {a l : List D} {r : D × List D} (h : wpD Y.env k4 (fin tys l.length [ResultVar.tmp 2] r) (entry a l)) (ha : a.length = 1) : Y.call 4 a l = some r :=
  call_slim (Y := Y) rfl Try.func4 (ha ▸ ok4) slim4 h

theorem setOfLabels_law (xs : List Int) (hx : Nums xs) : Y.call 4 [.sl 3 (ints xs)] [] = some (.bool true, []) := by
  refine c4 ?_ rfl
  unfold k4
  by_cases hl : (1048576 : Int) < (xs.length : Int)
  · simp only [↓xpre, xpost, yset, Option.bind_some, Option.map_some, Option.isSome_some, ↓reduceIte, Nat.reduceEqDiff, Nat.reduceLT, Nat.reduceLeDiff, Nat.reduceAdd, Nat.reduceMul, Nat.reduceMod, Nat.reduceSub, List.contains_cons, List.contains_nil, Nat.reduceBEq, List.getD_cons_zero, List.getD_cons_succ, List.getD_nil, List.length_cons, List.length_nil, List.size_toArray, List.toList_toArray, List.zip_cons_cons, List.zip_nil_left, List.append_nil, List.nil_append, List.cons_append, List.map_cons, List.map_nil, List.replicate_succ, List.replicate_zero, List.set_cons_zero, List.set_cons_succ, List.all_cons, List.all_nil, List.getElem?_cons_zero, List.getElem?_cons_succ, List.getElem?_nil, List.range_zero, beq_self_eq_true, Int.reduceLE, Int.reduceLT, Int.reduceEq, Int.reduceSub, Int.reduceAdd, Int.reduceToNat, Int.reduceNeg, hl]
  · have h : xs.length < 1099511627776 := by omega
    have key : ∃ n b, setD xs = .tup [.int .i64 n, .bool b] := by unfold setD; split <;> exact ⟨_, _, rfl⟩
    obtain ⟨n, b, hk⟩ := key
    simp only [↓xpre, xpost, yset, Option.bind_some, Option.map_some, Option.isSome_some, ↓reduceIte, Nat.reduceEqDiff, Nat.reduceLT, Nat.reduceLeDiff, Nat.reduceAdd, Nat.reduceMul, Nat.reduceMod, Nat.reduceSub, List.contains_cons, List.contains_nil, Nat.reduceBEq, List.getD_cons_zero, List.getD_cons_succ, List.getD_nil, List.length_cons, List.length_nil, List.size_toArray, List.toList_toArray, List.zip_cons_cons, List.zip_nil_left, List.append_nil, List.nil_append, List.cons_append, List.map_cons, List.map_nil, List.replicate_succ, List.replicate_zero, List.set_cons_zero, List.set_cons_succ, List.all_cons, List.all_nil, List.getElem?_cons_zero, List.getElem?_cons_succ, List.getElem?_nil, List.range_zero, beq_self_eq_true, Int.reduceLE, Int.reduceLT, Int.reduceEq, Int.reduceSub, Int.reduceAdd, Int.reduceToNat, Int.reduceNeg, hl, toIntS_eq xs h, setOfLabelsS_eq xs h, setOfLabelsI_eq xs h, hk, eqIntS_eq xs xs h h]
theorem setOfLabels_all (ds : List D) (h : Args tys [25] ds) : Y.call 4 ds [] = some (.bool true, []) := by
  rcases ds with _ | ⟨d, _ | ⟨_, _⟩⟩
  · cases h
  · obtain ⟨xs, rfl, hx⟩ := argInts ty25 ty3 h.1
    exact setOfLabels_law xs hx
  · exact h.2.elim

end Go.Proofs.Ythaimoghceamnaa
