/- The law on LabelsOfSet over data. Conditions: none. -/
import Derived.Test.YthaimoghceamnaaSets2
namespace Go.Proofs.Ythaimoghceamnaa
open Go Dv
set_option linter.unusedSimpArgs false
set_option linter.unusedVariables false
set_option maxRecDepth 100000

/-- laws.FnExactLabelsOfSet -/
def k5 : SC :=
  .seq
    (.ops [
      ⟨(some 2), (Op.assign (Operand.const (Value.bool false))), 4, none⟩])
    (.seq
      (.ops [
        ⟨(some 12), (Op.move (Operand.tmp 0)), 3, none⟩,
        ⟨(some 13), (Op.call { callee := (Callee.value (Operand.func 20)), args := #[(Operand.tmp 12)], argTypes := #[3] }), 31, none⟩,
        ⟨(some 11), (Op.move (Operand.tmp 13)), 31, none⟩,
        ⟨(some 14), (Op.extract (Operand.tmp 11) 0), 25, none⟩,
        ⟨(some 15), (Op.extract (Operand.tmp 11) 1), 4, none⟩,
        ⟨(some 3), (Op.assign (Operand.tmp 14)), 25, none⟩,
        ⟨(some 4), (Op.assign (Operand.tmp 15)), 4, none⟩])
      (.seq
        (.ops [
          ⟨(some 17), (Op.move (Operand.tmp 0)), 3, none⟩,
          ⟨(some 18), (Op.call { callee := (Callee.value (Operand.func 21)), args := #[(Operand.tmp 17)], argTypes := #[3] }), 31, none⟩,
          ⟨(some 16), (Op.move (Operand.tmp 18)), 31, none⟩,
          ⟨(some 19), (Op.extract (Operand.tmp 16) 0), 25, none⟩,
          ⟨(some 20), (Op.extract (Operand.tmp 16) 1), 4, none⟩,
          ⟨(some 5), (Op.assign (Operand.tmp 19)), 25, none⟩,
          ⟨(some 6), (Op.assign (Operand.tmp 20)), 4, none⟩])
        (.seq
          (.seq
            (.ops [
              ⟨(some 21), (Op.move (Operand.tmp 5)), 25, none⟩,
              ⟨(some 22), (Op.move (Operand.tmp 3)), 25, none⟩,
              ⟨(some 23), (Op.call { callee := (Callee.value (Operand.func 19)), args := #[(Operand.tmp 21), (Operand.tmp 22)], argTypes := #[25, 25] }), 4, none⟩,
              ⟨(some 24), (Op.unOp UnOp.not 4 (Operand.tmp 23)), 4, none⟩,
              ⟨(some 25), (Op.move (Operand.tmp 24)), 4, none⟩,
              ⟨(some 26), (Op.move (Operand.tmp 6)), 4, (some (some 25, false))⟩,
              ⟨(some 27), (Op.move (Operand.tmp 4)), 4, (some (some 25, false))⟩,
              ⟨(some 28), (Op.binOp BinOp.neq 4 (Operand.tmp 26) (Operand.tmp 27) 4), 4, (some (some 25, false))⟩,
              ⟨(some 29), (Op.pick (Operand.tmp 25) (Operand.const (Value.bool true)) (Operand.tmp 28)), 4, none⟩])
            (.cond (Operand.tmp 29)
              (.seq
                (.ops [
                  ⟨(some 2), (Op.assign (Operand.const (Value.bool false))), 4, none⟩])
                .ret)
              .skip))
          (.seq
            (.ops [
              ⟨(some 7), (Op.assign (Operand.const (Value.int IntKind.i64 1))), 3, none⟩])
            (.seq
              (.ops [
                ⟨(some 30), (Op.move (Operand.tmp 5)), 25, none⟩,
                ⟨(some 31), (Op.move (Operand.tmp 7)), 3, none⟩,
                ⟨(some 32), (Op.call { callee := (Callee.value (Operand.func 22)), args := #[(Operand.tmp 30), (Operand.tmp 31)], argTypes := #[25, 3] }), 3, none⟩,
                ⟨(some 7), (Op.assign (Operand.tmp 32)), 3, none⟩])
              (.seq
                (.ops [
                  ⟨(some 8), (Op.assign (Operand.const (Value.int IntKind.i64 1))), 3, none⟩])
                (.seq
                  (.ops [
                    ⟨(some 33), (Op.move (Operand.tmp 5)), 25, none⟩,
                    ⟨(some 34), (Op.move (Operand.tmp 8)), 3, none⟩,
                    ⟨(some 35), (Op.call { callee := (Callee.value (Operand.func 23)), args := #[(Operand.tmp 33), (Operand.tmp 34)], argTypes := #[25, 3] }), 3, none⟩,
                    ⟨(some 8), (Op.assign (Operand.tmp 35)), 3, none⟩])
                  (.seq
                    (.seq
                      (.ops [
                        ⟨(some 36), (Op.move (Operand.tmp 8)), 3, none⟩,
                        ⟨(some 37), (Op.binOp BinOp.lss 3 (Operand.tmp 36) (Operand.const (Value.int IntKind.i64 0)) 3), 4, none⟩])
                      (.cond (Operand.tmp 37)
                        (.seq
                          (.ops [
                            ⟨(some 2), (Op.assign (Operand.const (Value.bool false))), 4, none⟩])
                          .ret)
                        .skip))
                    (.seq
                      (.seq
                        (.ops [
                          ⟨(some 38), (Op.move (Operand.tmp 8)), 3, none⟩,
                          ⟨(some 39), (Op.move (Operand.tmp 7)), 3, none⟩,
                          ⟨(some 40), (Op.binOp BinOp.neq 3 (Operand.tmp 38) (Operand.tmp 39) 3), 4, none⟩])
                        (.cond (Operand.tmp 40)
                          (.seq
                            (.ops [
                              ⟨(some 2), (Op.assign (Operand.const (Value.bool false))), 4, none⟩])
                            .ret)
                          .skip))
                      (.seq
                        (.ops [
                          ⟨(some 42), (Op.move (Operand.tmp 0)), 3, none⟩,
                          ⟨(some 43), (Op.call { callee := (Callee.value (Operand.func 21)), args := #[(Operand.tmp 42)], argTypes := #[3] }), 31, none⟩,
                          ⟨(some 41), (Op.move (Operand.tmp 43)), 31, none⟩,
                          ⟨(some 44), (Op.extract (Operand.tmp 41) 0), 25, none⟩,
                          ⟨(some 45), (Op.extract (Operand.tmp 41) 1), 4, none⟩,
                          ⟨(some 9), (Op.assign (Operand.tmp 44)), 25, none⟩,
                          ⟨(some 10), (Op.assign (Operand.tmp 45)), 4, none⟩])
                        (.seq
                          (.seq
                            (.ops [
                              ⟨(some 46), (Op.move (Operand.tmp 9)), 25, none⟩,
                              ⟨(some 47), (Op.move (Operand.tmp 3)), 25, none⟩,
                              ⟨(some 48), (Op.call { callee := (Callee.value (Operand.func 19)), args := #[(Operand.tmp 46), (Operand.tmp 47)], argTypes := #[25, 25] }), 4, none⟩,
                              ⟨(some 49), (Op.unOp UnOp.not 4 (Operand.tmp 48)), 4, none⟩,
                              ⟨(some 50), (Op.move (Operand.tmp 49)), 4, none⟩,
                              ⟨(some 51), (Op.move (Operand.tmp 10)), 4, (some (some 50, false))⟩,
                              ⟨(some 52), (Op.move (Operand.tmp 4)), 4, (some (some 50, false))⟩,
                              ⟨(some 53), (Op.binOp BinOp.neq 4 (Operand.tmp 51) (Operand.tmp 52) 4), 4, (some (some 50, false))⟩,
                              ⟨(some 54), (Op.pick (Operand.tmp 50) (Operand.const (Value.bool true)) (Operand.tmp 53)), 4, none⟩])
                            (.cond (Operand.tmp 54)
                              (.seq
                                (.ops [
                                  ⟨(some 2), (Op.assign (Operand.const (Value.bool false))), 4, none⟩])
                                .ret)
                              .skip))
                          (.seq
                            (.ops [
                              ⟨(some 8), (Op.assign (Operand.const (Value.int IntKind.i64 1))), 3, none⟩])
                            (.seq
                              (.ops [
                                ⟨(some 55), (Op.move (Operand.tmp 5)), 25, none⟩,
                                ⟨(some 56), (Op.move (Operand.tmp 8)), 3, none⟩,
                                ⟨(some 57), (Op.call { callee := (Callee.value (Operand.func 23)), args := #[(Operand.tmp 55), (Operand.tmp 56)], argTypes := #[25, 3] }), 3, none⟩,
                                ⟨(some 8), (Op.assign (Operand.tmp 57)), 3, none⟩])
                              (.seq
                                (.seq
                                  (.ops [
                                    ⟨(some 58), (Op.move (Operand.tmp 8)), 3, none⟩,
                                    ⟨(some 59), (Op.binOp BinOp.lss 3 (Operand.tmp 58) (Operand.const (Value.int IntKind.i64 0)) 3), 4, none⟩])
                                  (.cond (Operand.tmp 59)
                                    (.seq
                                      (.ops [
                                        ⟨(some 2), (Op.assign (Operand.const (Value.bool false))), 4, none⟩])
                                      .ret)
                                    .skip))
                                (.seq
                                  (.seq
                                    (.ops [
                                      ⟨(some 60), (Op.move (Operand.tmp 8)), 3, none⟩,
                                      ⟨(some 61), (Op.move (Operand.tmp 7)), 3, none⟩,
                                      ⟨(some 62), (Op.binOp BinOp.neq 3 (Operand.tmp 60) (Operand.tmp 61) 3), 4, none⟩])
                                    (.cond (Operand.tmp 62)
                                      (.seq
                                        (.ops [
                                          ⟨(some 2), (Op.assign (Operand.const (Value.bool false))), 4, none⟩])
                                        .ret)
                                      .skip))
                                  (.seq
                                    (.ops [
                                      ⟨(some 2), (Op.assign (Operand.const (Value.bool true))), 4, none⟩])
                                    .ret))))))))))))))))
theorem slim5 : Try.f5.body.map (slim lends) = some k5 := by kernel_rfl
theorem ok5 : fnOk Try.f5 1 = true := by kernel_rfl
theorem c5 {a l : List D} {r : D × List D} (h : wpD Y.env k5 (fin tys l.length [ResultVar.tmp 2] r) (entry a l)) (ha : a.length = 1) : Y.call 5 a l = some r :=
  call_slim (Y := Y) rfl Try.func5 (ha ▸ ok5) slim5 h

theorem labelsOfSet_law (set : Int) : Y.call 5 [.int .i64 set] [] = some (.bool true, []) := by
  have hl := labsL_len set
  have h : (labsL set).length < 1099511627776 := by omega
  have hu : (upto 1 (labsL set).length).length < 1099511627776 := by rw [upto_len]; exact h
  have e1 : ¬ (1 : Int) + (labsL set).length < 0 := by omega
  refine c5 ?_ rfl
  unfold k5
  simp only [↓xpre, xpost, yset, Option.bind_some, Option.map_some, Option.isSome_some, ↓reduceIte, Nat.reduceEqDiff, Nat.reduceLT, Nat.reduceLeDiff, Nat.reduceAdd, Nat.reduceMul, Nat.reduceMod, Nat.reduceSub, List.contains_cons, List.contains_nil, Nat.reduceBEq, List.getD_cons_zero, List.getD_cons_succ, List.getD_nil, List.length_cons, List.length_nil, List.size_toArray, List.toList_toArray, List.zip_cons_cons, List.zip_nil_left, List.append_nil, List.nil_append, List.cons_append, List.map_cons, List.map_nil, List.replicate_succ, List.replicate_zero, List.set_cons_zero, List.set_cons_succ, List.all_cons, List.all_nil, List.getElem?_cons_zero, List.getElem?_cons_succ, List.getElem?_nil, List.range_zero, beq_self_eq_true, Int.reduceLE, Int.reduceLT, Int.reduceEq, Int.reduceSub, Int.reduceAdd, Int.reduceToNat, Int.reduceNeg, labelsOfSetS_eq, labelsOfSetI_eq, eqIntS_eq _ _ h h, markIntS_eq _ 1 h (by omega), heldIntS_eq _ 1 hu (by omega), isUpto_upto, upto_len, e1]
theorem labelsOfSet_all (ds : List D) (h : Args tys [3] ds) : Y.call 5 ds [] = some (.bool true, []) := by
  rcases ds with _ | ⟨d, _ | ⟨_, _⟩⟩
  · cases h
  · obtain ⟨n, rfl, _⟩ := argInt ty3 h.1
    exact labelsOfSet_law n
  · exact h.2.elim

end Go.Proofs.Ythaimoghceamnaa
