/- The law on IsProblem over data. Conditions: none. -/
import Derived.Test.YthaimoghceamnaaConv
namespace Go.Proofs.Ythaimoghceamnaa
open Go Dv
set_option linter.unusedSimpArgs false
set_option linter.unusedVariables false
set_option maxRecDepth 100000

/-- laws.FnExactIsProblem -/
def k6 : SC :=
  .seq
    (.ops [
      ⟨(some 1), (Op.box 36 (Operand.tmp 0)), 0, none⟩,
      ⟨(some 2), (Op.assign (Operand.const (Value.bool false))), 4, none⟩])
    (.seq
      (.ops [
        ⟨(some 3), (Op.assign (Operand.const (Value.int IntKind.i64 1048576))), 3, none⟩])
      (.seq
        (.ops [
          ⟨(some 7), (Op.load 36 (Operand.tmp 1)), 36, none⟩,
          ⟨(some 8), (Op.move (Operand.tmp 3)), 3, none⟩,
          ⟨(some 9), (Op.call { callee := (Callee.value (Operand.func 24)), args := #[(Operand.tmp 7), (Operand.tmp 8)], argTypes := #[36, 3] }), 3, none⟩,
          ⟨(some 3), (Op.assign (Operand.tmp 9)), 3, none⟩])
        (.seq
          (.seq
            (.ops [
              ⟨(some 10), (Op.move (Operand.tmp 3)), 3, none⟩,
              ⟨(some 11), (Op.binOp BinOp.lss 3 (Operand.tmp 10) (Operand.const (Value.int IntKind.i64 0)) 3), 4, none⟩])
            (.cond (Operand.tmp 11)
              (.seq
                (.ops [
                  ⟨(some 2), (Op.assign (Operand.const (Value.bool true))), 4, none⟩])
                .ret)
              .skip))
          (.seq
            (.ops [
              ⟨(some 12), (Op.load 36 (Operand.tmp 1)), 36, none⟩,
              ⟨(some 13), (Op.call { callee := (Callee.value (Operand.func 26)), args := #[(Operand.tmp 12)], argTypes := #[36] }), 39, none⟩,
              ⟨(some 14), (Op.call { callee := (Callee.value (Operand.func 25)), args := #[(Operand.tmp 13)], argTypes := #[39] }), 4, none⟩,
              ⟨(some 4), (Op.assign (Operand.tmp 14)), 4, none⟩])
            (.seq
              (.ops [
                ⟨(some 15), (Op.load 36 (Operand.tmp 1)), 36, none⟩,
                ⟨(some 16), (Op.call { callee := (Callee.value (Operand.func 26)), args := #[(Operand.tmp 15)], argTypes := #[36] }), 39, none⟩,
                ⟨(some 5), (Op.alloc 39), 0, none⟩,
                ⟨none, (Op.store 39 (Operand.tmp 5) (Operand.tmp 16)), 0, none⟩])
              (.seq
                (.ops [
                  ⟨(some 17), (Op.load 39 (Operand.tmp 5)), 39, none⟩,
                  ⟨(some 18), (Op.call { callee := (Callee.value (Operand.func 27)), args := #[(Operand.tmp 17)], argTypes := #[39] }), 4, none⟩,
                  ⟨(some 6), (Op.assign (Operand.tmp 18)), 4, none⟩])
                (.seq
                  (.seq
                    (.ops [
                      ⟨(some 19), (Op.move (Operand.tmp 6)), 4, none⟩,
                      ⟨(some 20), (Op.move (Operand.tmp 4)), 4, none⟩,
                      ⟨(some 21), (Op.binOp BinOp.neq 4 (Operand.tmp 19) (Operand.tmp 20) 4), 4, none⟩])
                    (.cond (Operand.tmp 21)
                      (.seq
                        (.ops [
                          ⟨(some 2), (Op.assign (Operand.const (Value.bool false))), 4, none⟩])
                        .ret)
                      .skip))
                  (.seq
                    (.seq
                      (.draws [
                        (⟨[22, 5, 5], [22, 23, 24, 25, 26], [22]⟩, ⟨(some 22), (Op.load 39 (Operand.tmp 5)), 39, none⟩),
                        (⟨[23, 1, 1], [22, 23, 24, 25, 26], [23]⟩, ⟨(some 23), (Op.load 36 (Operand.tmp 1)), 36, none⟩),
                        (⟨[24, 23, 1], [22, 23, 24, 25, 26], [24]⟩, ⟨(some 24), (Op.call { callee := (Callee.value (Operand.func 26)), args := #[(Operand.tmp 23)], argTypes := #[36] }), 39, none⟩),
                        (⟨[25, 22, 24, 5, 24], [22, 23, 24, 25, 26], [25]⟩, ⟨(some 25), (Op.call { callee := (Callee.value (Operand.func 28)), args := #[(Operand.tmp 22), (Operand.tmp 24)], argTypes := #[39, 39] }), 4, none⟩),
                        (⟨[26, 25, 25], [22, 23, 24, 25, 26], [26]⟩, ⟨(some 26), (Op.unOp UnOp.not 4 (Operand.tmp 25)), 4, none⟩)])
                      (.cond (Operand.tmp 26)
                        (.seq
                          (.ops [
                            ⟨(some 2), (Op.assign (Operand.const (Value.bool false))), 4, none⟩])
                          .ret)
                        .skip))
                    (.seq
                      (.ops [
                        ⟨(some 2), (Op.assign (Operand.const (Value.bool true))), 4, none⟩])
                      .ret)))))))))
theorem slim6 : Try.f6.body.map (slim lends) = some k6 := by kernel_rfl
theorem ok6 : fnOk Try.f6 1 = true := by kernel_rfl
theorem c6 {a l : List D} {r : D × List D} (h : wpD Y.env k6 (fin tys l.length [ResultVar.tmp 2] r) (entry a l)) (ha : a.length = 1) : Y.call 6 a l = some r :=
  call_slim (Y := Y) rfl Try.func6 (ha ▸ ok6) slim6 h

theorem isProblem_law (labels degree : Int) (ns es : List (List Int)) (hn : Numss ns) (he : Numss es) : Y.call 6 [probD labels degree ns es] [] = some (.bool true, []) := by
  refine c6 ?_ rfl
  have h1 := szProblem_eq labels degree ns es 1048576 (by omega) hn he
  by_cases hq : szP 1048576 ns es < 0
  · unfold k6
    unfold probD at h1 ⊢
    simp only [↓xpre, xpost, yset, Option.bind_some, Option.map_some, Option.isSome_some, ↓reduceIte, Nat.reduceEqDiff, Nat.reduceLT, Nat.reduceLeDiff, Nat.reduceAdd, Nat.reduceMul, Nat.reduceMod, Nat.reduceSub, List.contains_cons, List.contains_nil, Nat.reduceBEq, List.getD_cons_zero, List.getD_cons_succ, List.getD_nil, List.length_cons, List.length_nil, List.size_toArray, List.toList_toArray, List.zip_cons_cons, List.zip_nil_left, List.append_nil, List.nil_append, List.cons_append, List.map_cons, List.map_nil, List.replicate_succ, List.replicate_zero, List.set_cons_zero, List.set_cons_succ, List.set_set, List.all_cons, List.all_nil, List.getElem?_cons_zero, List.getElem?_cons_succ, List.getElem?_nil, List.range_zero, beq_self_eq_true, Int.reduceLE, Int.reduceLT, Int.reduceEq, Int.reduceSub, Int.reduceAdd, Int.reduceToNat, Int.reduceNeg, h1, hq]
  · obtain ⟨_, sn, se⟩ := szP_short hq
    have h2 := toProblem_eq labels degree ns es sn se
    have h3 := isProblemS_eq labels degree ns es sn se
    have h4 := isProblemI_eq labels degree ns es sn se
    have h5 := eqProblem_same labels degree ns es sn se
    unfold k6
    unfold probD at h1 h2 h3 h4 h5 ⊢
    unfold probO at h2
    simp only [↓xpre, xpost, yset, Option.bind_some, Option.map_some, Option.isSome_some, ↓reduceIte, Nat.reduceEqDiff, Nat.reduceLT, Nat.reduceLeDiff, Nat.reduceAdd, Nat.reduceMul, Nat.reduceMod, Nat.reduceSub, List.contains_cons, List.contains_nil, Nat.reduceBEq, List.getD_cons_zero, List.getD_cons_succ, List.getD_nil, List.length_cons, List.length_nil, List.size_toArray, List.toList_toArray, List.zip_cons_cons, List.zip_nil_left, List.append_nil, List.nil_append, List.cons_append, List.map_cons, List.map_nil, List.replicate_succ, List.replicate_zero, List.set_cons_zero, List.set_cons_succ, List.set_set, List.all_cons, List.all_nil, List.getElem?_cons_zero, List.getElem?_cons_succ, List.getElem?_nil, List.range_zero, beq_self_eq_true, Int.reduceLE, Int.reduceLT, Int.reduceEq, Int.reduceSub, Int.reduceAdd, Int.reduceToNat, Int.reduceNeg, h1, hq, h2, h3, h4, h5]
theorem isProblem_all (ds : List D) (h : Args tys [36] ds) : Y.call 6 ds [] = some (.bool true, []) := by
  rcases ds with _ | ⟨d, _ | ⟨_, _⟩⟩
  · cases h
  · obtain ⟨l, k, ns, es, rfl, _, _, hn, he⟩ := argProblem ty36 ty3 ty34 ty25 ty3 h.1
    exact isProblem_law l k ns es hn he
  · exact h.2.elim

end Go.Proofs.Ythaimoghceamnaa
