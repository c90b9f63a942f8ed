/- Copies and comparisons of lists of numbers. Conditions: the lists are short. -/
import Derived.Test.YthaimoghceamnaaWithin
namespace Go.Proofs.Ythaimoghceamnaa
open Go Dv
set_option linter.unusedSimpArgs false
set_option linter.unusedVariables false
set_option maxRecDepth 100000

/-- laws.toIntS -/
def k17 : SC :=
  .seq
    (.ops [
      ⟨(some 2), (Op.assign (Operand.const (Value.slice none 0 0))), 25, none⟩])
    (.seq
      (.ops [
        ⟨(some 5), (Op.move (Operand.tmp 0)), 25, none⟩,
        ⟨(some 6), (Op.call { callee := (Callee.builtin Builtin.len), args := #[(Operand.tmp 5)], argTypes := #[25] }), 3, none⟩,
        ⟨(some 7), (Op.makeSlice 25 (Operand.tmp 6) (Operand.tmp 6)), 25, none⟩,
        ⟨(some 3), (Op.assign (Operand.tmp 7)), 25, none⟩])
      (.seq
        (.seq
          (.ops [
            ⟨(some 4), (Op.assign (Operand.const (Value.int IntKind.i64 0))), 3, none⟩])
          (.block 0
            (.loop
              (.seq
                (.seq
                  (.ops [
                    ⟨(some 8), (Op.move (Operand.tmp 4)), 3, none⟩,
                    ⟨(some 9), (Op.move (Operand.tmp 0)), 25, none⟩,
                    ⟨(some 10), (Op.call { callee := (Callee.builtin Builtin.len), args := #[(Operand.tmp 9)], argTypes := #[25] }), 3, none⟩,
                    ⟨(some 11), (Op.binOp BinOp.lss 3 (Operand.tmp 8) (Operand.tmp 10) 3), 4, none⟩])
                  (.cond (Operand.tmp 11)
                    .skip
                    (.exit 0)))
                (.seq
                  (.block 1
                    (.ops [
                      ⟨(some 14), (Op.move (Operand.tmp 3)), 25, none⟩,
                      ⟨(some 15), (Op.move (Operand.tmp 4)), 3, none⟩,
                      ⟨(some 16), (Op.move (Operand.tmp 0)), 25, none⟩,
                      ⟨(some 17), (Op.move (Operand.tmp 4)), 3, none⟩,
                      ⟨(some 18), (Op.indexAddr 25 (Operand.tmp 16) (Operand.tmp 17)), 0, none⟩,
                      ⟨(some 19), (Op.load 3 (Operand.tmp 18)), 3, none⟩,
                      ⟨(some 20), (Op.indexAddr 25 (Operand.tmp 14) (Operand.tmp 15)), 0, none⟩,
                      ⟨none, (Op.store 3 (Operand.tmp 20) (Operand.tmp 19)), 0, none⟩]))
                  (.ops [
                    ⟨(some 12), (Op.move (Operand.tmp 4)), 3, none⟩,
                    ⟨(some 13), (Op.binOp BinOp.add 3 (Operand.tmp 12) (Operand.const (Value.int IntKind.i64 1)) 3), 3, none⟩,
                    ⟨(some 4), (Op.assign (Operand.tmp 13)), 3, none⟩]))))))
        (.seq
          (.ops [
            ⟨(some 21), (Op.move (Operand.tmp 3)), 25, none⟩,
            ⟨(some 2), (Op.assign (Operand.tmp 21)), 25, none⟩])
          .ret)))
theorem slim17 : Try.f17.body.map (slim lends) = some k17 := by kernel_rfl
theorem ok17 : fnOk Try.f17 1 = true := by kernel_rfl
theorem c17 {a l : List D} {r : D × List D} (h : wpD Y.env k17 (fin tys l.length [ResultVar.tmp 2] r) (entry a l)) (ha : a.length = 1) : Y.call 17 a l = some r :=
  call_slim (Y := Y) rfl Try.func17 (ha ▸ ok17) slim17 h

/-- laws.eqIntS -/
def k19 : SC :=
  .seq
    (.ops [
      ⟨(some 4), (Op.assign (Operand.const (Value.bool false))), 4, none⟩])
    (.seq
      (.seq
        (.ops [
          ⟨(some 6), (Op.move (Operand.tmp 0)), 25, none⟩,
          ⟨(some 7), (Op.call { callee := (Callee.builtin Builtin.len), args := #[(Operand.tmp 6)], argTypes := #[25] }), 3, none⟩,
          ⟨(some 8), (Op.move (Operand.tmp 1)), 25, none⟩,
          ⟨(some 9), (Op.call { callee := (Callee.builtin Builtin.len), args := #[(Operand.tmp 8)], argTypes := #[25] }), 3, none⟩,
          ⟨(some 10), (Op.binOp BinOp.neq 3 (Operand.tmp 7) (Operand.tmp 9) 3), 4, none⟩])
        (.cond (Operand.tmp 10)
          (.seq
            (.ops [
              ⟨(some 4), (Op.assign (Operand.const (Value.bool false))), 4, none⟩])
            .ret)
          .skip))
      (.seq
        (.seq
          (.ops [
            ⟨(some 5), (Op.assign (Operand.const (Value.int IntKind.i64 0))), 3, none⟩])
          (.block 0
            (.loop
              (.seq
                (.seq
                  (.ops [
                    ⟨(some 11), (Op.move (Operand.tmp 5)), 3, none⟩,
                    ⟨(some 12), (Op.move (Operand.tmp 0)), 25, none⟩,
                    ⟨(some 13), (Op.call { callee := (Callee.builtin Builtin.len), args := #[(Operand.tmp 12)], argTypes := #[25] }), 3, none⟩,
                    ⟨(some 14), (Op.binOp BinOp.lss 3 (Operand.tmp 11) (Operand.tmp 13) 3), 4, none⟩])
                  (.cond (Operand.tmp 14)
                    .skip
                    (.exit 0)))
                (.seq
                  (.block 1
                    (.seq
                      (.draws [
                        (⟨[17, 0, 0], [17, 18, 19, 20, 21, 22, 23, 24, 25], [17]⟩, ⟨(some 17), (Op.move (Operand.tmp 0)), 25, none⟩),
                        (⟨[18, 5, 5], [17, 18, 19, 20, 21, 22, 23, 24, 25], [18]⟩, ⟨(some 18), (Op.move (Operand.tmp 5)), 3, none⟩),
                        (⟨[19, 17, 18, 0, 5], [17, 18, 19, 20, 21, 22, 23, 24, 25], [19]⟩, ⟨(some 19), (Op.indexAddr 25 (Operand.tmp 17) (Operand.tmp 18)), 0, none⟩),
                        (⟨[20, 19, 0], [17, 18, 19, 20, 21, 22, 23, 24, 25], [20]⟩, ⟨(some 20), (Op.load 3 (Operand.tmp 19)), 3, none⟩),
                        (⟨[21, 1, 1], [17, 18, 19, 20, 21, 22, 23, 24, 25], [21]⟩, ⟨(some 21), (Op.move (Operand.tmp 1)), 25, none⟩),
                        (⟨[22, 5, 5], [17, 18, 19, 20, 21, 22, 23, 24, 25], [22]⟩, ⟨(some 22), (Op.move (Operand.tmp 5)), 3, none⟩),
                        (⟨[23, 21, 22, 1, 5], [17, 18, 19, 20, 21, 22, 23, 24, 25], [23]⟩, ⟨(some 23), (Op.indexAddr 25 (Operand.tmp 21) (Operand.tmp 22)), 0, none⟩),
                        (⟨[24, 23, 1], [17, 18, 19, 20, 21, 22, 23, 24, 25], [24]⟩, ⟨(some 24), (Op.load 3 (Operand.tmp 23)), 3, none⟩),
                        (⟨[25, 20, 24, 0, 1], [17, 18, 19, 20, 21, 22, 23, 24, 25], [25]⟩, ⟨(some 25), (Op.binOp BinOp.neq 3 (Operand.tmp 20) (Operand.tmp 24) 3), 4, none⟩)])
                      (.cond (Operand.tmp 25)
                        (.seq
                          (.ops [
                            ⟨(some 4), (Op.assign (Operand.const (Value.bool false))), 4, none⟩])
                          .ret)
                        .skip)))
                  (.ops [
                    ⟨(some 15), (Op.move (Operand.tmp 5)), 3, none⟩,
                    ⟨(some 16), (Op.binOp BinOp.add 3 (Operand.tmp 15) (Operand.const (Value.int IntKind.i64 1)) 3), 3, none⟩,
                    ⟨(some 5), (Op.assign (Operand.tmp 16)), 3, none⟩]))))))
        (.seq
          (.ops [
            ⟨(some 4), (Op.assign (Operand.const (Value.bool true))), 4, none⟩])
          .ret)))
theorem slim19 : Try.f19.body.map (slim lends) = some k19 := by kernel_rfl
theorem ok19 : fnOk Try.f19 2 = true := by kernel_rfl
theorem c19 {a l : List D} {r : D × List D} (h : wpD Y.env k19 (fin tys l.length [ResultVar.tmp 4] r) (entry a l)) (ha : a.length = 2) : Y.call 19 a l = some r :=
  call_slim (Y := Y) rfl Try.func19 (ha ▸ ok19) slim19 h

/-- laws.markIntS -/
def k22 : SC :=
  .seq
    (.ops [
      ⟨(some 4), (Op.assign (Operand.const (Value.int IntKind.i64 0))), 3, none⟩])
    (.seq
      (.seq
        (.ops [
          ⟨(some 5), (Op.assign (Operand.const (Value.int IntKind.i64 0))), 3, none⟩])
        (.block 0
          (.loop
            (.seq
              (.seq
                (.ops [
                  ⟨(some 6), (Op.move (Operand.tmp 5)), 3, none⟩,
                  ⟨(some 7), (Op.move (Operand.tmp 0)), 25, none⟩,
                  ⟨(some 8), (Op.call { callee := (Callee.builtin Builtin.len), args := #[(Operand.tmp 7)], argTypes := #[25] }), 3, none⟩,
                  ⟨(some 9), (Op.binOp BinOp.lss 3 (Operand.tmp 6) (Operand.tmp 8) 3), 4, none⟩])
                (.cond (Operand.tmp 9)
                  .skip
                  (.exit 0)))
              (.seq
                (.block 1
                  (.seq
                    (.ops [
                      ⟨(some 12), (Op.move (Operand.tmp 0)), 25, none⟩,
                      ⟨(some 13), (Op.move (Operand.tmp 5)), 3, none⟩,
                      ⟨(some 14), (Op.move (Operand.tmp 1)), 3, none⟩,
                      ⟨(some 15), (Op.indexAddr 25 (Operand.tmp 12) (Operand.tmp 13)), 0, none⟩,
                      ⟨none, (Op.store 3 (Operand.tmp 15) (Operand.tmp 14)), 0, none⟩])
                    (.ops [
                      ⟨(some 16), (Op.move (Operand.tmp 1)), 3, none⟩,
                      ⟨(some 17), (Op.binOp BinOp.add 3 (Operand.tmp 16) (Operand.const (Value.int IntKind.i64 1)) 3), 3, none⟩,
                      ⟨(some 1), (Op.assign (Operand.tmp 17)), 3, none⟩])))
                (.ops [
                  ⟨(some 10), (Op.move (Operand.tmp 5)), 3, none⟩,
                  ⟨(some 11), (Op.binOp BinOp.add 3 (Operand.tmp 10) (Operand.const (Value.int IntKind.i64 1)) 3), 3, none⟩,
                  ⟨(some 5), (Op.assign (Operand.tmp 11)), 3, none⟩]))))))
      (.seq
        (.ops [
          ⟨(some 18), (Op.move (Operand.tmp 1)), 3, none⟩,
          ⟨(some 4), (Op.assign (Operand.tmp 18)), 3, none⟩])
        .ret))
theorem slim22 : Try.f22.body.map (slim lends) = some k22 := by kernel_rfl
theorem ok22 : fnOk Try.f22 2 = true := by kernel_rfl
theorem c22 {a l : List D} {r : D × List D} (h : wpD Y.env k22 (fin tys l.length [ResultVar.tmp 4] r) (entry a l)) (ha : a.length = 2) : Y.call 22 a l = some r :=
  call_slim (Y := Y) rfl Try.func22 (ha ▸ ok22) slim22 h

/-- laws.heldIntS -/
def k23 : SC :=
  .seq
    (.ops [
      ⟨(some 4), (Op.assign (Operand.const (Value.int IntKind.i64 0))), 3, none⟩])
    (.seq
      (.seq
        (.ops [
          ⟨(some 5), (Op.assign (Operand.const (Value.int IntKind.i64 0))), 3, none⟩])
        (.block 0
          (.loop
            (.seq
              (.seq
                (.ops [
                  ⟨(some 6), (Op.move (Operand.tmp 5)), 3, none⟩,
                  ⟨(some 7), (Op.move (Operand.tmp 0)), 25, none⟩,
                  ⟨(some 8), (Op.call { callee := (Callee.builtin Builtin.len), args := #[(Operand.tmp 7)], argTypes := #[25] }), 3, none⟩,
                  ⟨(some 9), (Op.binOp BinOp.lss 3 (Operand.tmp 6) (Operand.tmp 8) 3), 4, none⟩])
                (.cond (Operand.tmp 9)
                  .skip
                  (.exit 0)))
              (.seq
                (.block 1
                  (.seq
                    (.seq
                      (.ops [
                        ⟨(some 12), (Op.move (Operand.tmp 0)), 25, none⟩,
                        ⟨(some 13), (Op.move (Operand.tmp 5)), 3, none⟩,
                        ⟨(some 14), (Op.indexAddr 25 (Operand.tmp 12) (Operand.tmp 13)), 0, none⟩,
                        ⟨(some 15), (Op.load 3 (Operand.tmp 14)), 3, none⟩,
                        ⟨(some 16), (Op.move (Operand.tmp 1)), 3, none⟩,
                        ⟨(some 17), (Op.binOp BinOp.neq 3 (Operand.tmp 15) (Operand.tmp 16) 3), 4, none⟩])
                      (.cond (Operand.tmp 17)
                        (.seq
                          (.ops [
                            ⟨(some 4), (Op.assign (Operand.const (Value.int IntKind.i64 (-1)))), 3, none⟩])
                          .ret)
                        .skip))
                    (.ops [
                      ⟨(some 18), (Op.move (Operand.tmp 1)), 3, none⟩,
                      ⟨(some 19), (Op.binOp BinOp.add 3 (Operand.tmp 18) (Operand.const (Value.int IntKind.i64 1)) 3), 3, none⟩,
                      ⟨(some 1), (Op.assign (Operand.tmp 19)), 3, none⟩])))
                (.ops [
                  ⟨(some 10), (Op.move (Operand.tmp 5)), 3, none⟩,
                  ⟨(some 11), (Op.binOp BinOp.add 3 (Operand.tmp 10) (Operand.const (Value.int IntKind.i64 1)) 3), 3, none⟩,
                  ⟨(some 5), (Op.assign (Operand.tmp 11)), 3, none⟩]))))))
      (.seq
        (.ops [
          ⟨(some 20), (Op.move (Operand.tmp 1)), 3, none⟩,
          ⟨(some 4), (Op.assign (Operand.tmp 20)), 3, none⟩])
        .ret))
theorem slim23 : Try.f23.body.map (slim lends) = some k23 := by kernel_rfl
theorem ok23 : fnOk Try.f23 2 = true := by kernel_rfl
theorem c23 {a l : List D} {r : D × List D} (h : wpD Y.env k23 (fin tys l.length [ResultVar.tmp 4] r) (entry a l)) (ha : a.length = 2) : Y.call 23 a l = some r :=
  call_slim (Y := Y) rfl Try.func23 (ha ▸ ok23) slim23 h

theorem set_mid (xs : List Int) (i : Nat) (h : i < xs.length) : (xs.take i ++ List.replicate (xs.length - i) 0).set i (xs.getD i 0) = xs.take (i + 1) ++ List.replicate (xs.length - (i + 1)) 0 := by
  have e : xs.length - i = (xs.length - (i + 1)) + 1 := by omega
  rw [e, List.replicate_succ, List.set_append_right _ _ (by simp; omega), List.take_succ_eq_append_getElem h]
  have : i - (xs.take i).length = 0 := by simp; omega
  rw [this, List.set_cons_zero, List.getD_eq_getElem?_getD, List.getElem?_eq_getElem h]
  simp only [Option.getD_some, List.append_assoc, List.singleton_append]
theorem toIntS_eq (xs : List Int) (h : xs.length < 1099511627776) : Y.call 17 [.sl 3 (ints xs)] [] = some (.own 3 (ints xs), []) := by
  refine c17 ?_ rfl
  unfold k17
  have h1 : (xs.length : Int) < 1099511627776 := by omega
  simp only [↓xpre, xpost, yset, Option.bind_some, Option.map_some, Option.isSome_some, ↓reduceIte, Nat.reduceEqDiff, Nat.reduceLT, Nat.reduceLeDiff, Nat.reduceAdd, Nat.reduceMul, Nat.reduceMod, Nat.reduceSub, List.contains_cons, List.contains_nil, Nat.reduceBEq, List.getD_cons_zero, List.getD_cons_succ, List.getD_nil, List.length_cons, List.length_nil, List.size_toArray, List.toList_toArray, List.zip_cons_cons, List.zip_nil_left, List.append_nil, List.nil_append, List.cons_append, List.map_cons, List.map_nil, List.replicate_succ, List.replicate_zero, List.set_cons_zero, List.set_cons_succ, List.set_set, List.all_cons, List.all_nil, List.getElem?_cons_zero, List.getElem?_cons_succ, List.getElem?_nil, List.range_zero, beq_self_eq_true, Int.reduceLE, Int.reduceLT, Int.reduceEq, Int.reduceSub, Int.reduceAdd, Int.reduceToNat, Int.reduceNeg, h1]
  refine wd_loop (fun n s => ∃ i, n = xs.length - i ∧ i ≤ xs.length ∧ s.v 0 = .sl 3 (ints xs) ∧ s.v 3 = .own 3 (ints (xs.take i ++ List.replicate (xs.length - i) 0)) ∧ s.v 4 = .int .i64 i) xs.length ⟨0, by simp, by simp, ?_⟩ ?_
  · simp only [↓xpre, xpost, yset, Option.bind_some, Option.map_some, Option.isSome_some, ↓reduceIte, Nat.reduceEqDiff, Nat.reduceLT, Nat.reduceLeDiff, Nat.reduceAdd, Nat.reduceMul, Nat.reduceMod, Nat.reduceSub, List.contains_cons, List.contains_nil, Nat.reduceBEq, List.getD_cons_zero, List.getD_cons_succ, List.getD_nil, List.length_cons, List.length_nil, List.size_toArray, List.toList_toArray, List.zip_cons_cons, List.zip_nil_left, List.append_nil, List.nil_append, List.cons_append, List.map_cons, List.map_nil, List.replicate_succ, List.replicate_zero, List.set_cons_zero, List.set_cons_succ, List.set_set, List.all_cons, List.all_nil, List.getElem?_cons_zero, List.getElem?_cons_succ, List.getElem?_nil, List.range_zero, beq_self_eq_true, Int.reduceLE, Int.reduceLT, Int.reduceEq, Int.reduceSub, Int.reduceAdd, Int.reduceToNat, Int.reduceNeg]
    simp
  · rintro n s ⟨i, hn, hi, h0, h3, h4⟩
    by_cases hlt : i < xs.length
    · have e1 : (i : Int) < (xs.length : Int) := by omega
      have e2 : i < (xs.take i ++ List.replicate (xs.length - i) 0).length := by simp; omega
      simp only [↓xpre, xpost, yset, Option.bind_some, Option.map_some, Option.isSome_some, ↓reduceIte, Nat.reduceEqDiff, Nat.reduceLT, Nat.reduceLeDiff, Nat.reduceAdd, Nat.reduceMul, Nat.reduceMod, Nat.reduceSub, List.contains_cons, List.contains_nil, Nat.reduceBEq, List.getD_cons_zero, List.getD_cons_succ, List.getD_nil, List.length_cons, List.length_nil, List.size_toArray, List.toList_toArray, List.zip_cons_cons, List.zip_nil_left, List.append_nil, List.nil_append, List.cons_append, List.map_cons, List.map_nil, List.replicate_succ, List.replicate_zero, List.set_cons_zero, List.set_cons_succ, List.set_set, List.all_cons, List.all_nil, List.getElem?_cons_zero, List.getElem?_cons_succ, List.getElem?_nil, List.range_zero, beq_self_eq_true, Int.reduceLE, Int.reduceLT, Int.reduceEq, Int.reduceSub, Int.reduceAdd, Int.reduceToNat, Int.reduceNeg, h0, h3, h4, e1, e2, hlt, wr64 ((i : Int) + 1) (by omega)]
      refine ⟨_, ?_, i + 1, rfl, by omega, ?_, ?_⟩
      · omega
      · rw [set_mid xs i hlt]
      · simp
    · have e1 : ¬ (i : Int) < (xs.length : Int) := by omega
      have e2 : i = xs.length := by omega
      subst e2
      simp only [↓xpre, xpost, yset, Option.bind_some, Option.map_some, Option.isSome_some, ↓reduceIte, Nat.reduceEqDiff, Nat.reduceLT, Nat.reduceLeDiff, Nat.reduceAdd, Nat.reduceMul, Nat.reduceMod, Nat.reduceSub, List.contains_cons, List.contains_nil, Nat.reduceBEq, List.getD_cons_zero, List.getD_cons_succ, List.getD_nil, List.length_cons, List.length_nil, List.size_toArray, List.toList_toArray, List.zip_cons_cons, List.zip_nil_left, List.append_nil, List.nil_append, List.cons_append, List.map_cons, List.map_nil, List.replicate_succ, List.replicate_zero, List.set_cons_zero, List.set_cons_succ, List.set_set, List.all_cons, List.all_nil, List.getElem?_cons_zero, List.getElem?_cons_succ, List.getElem?_nil, List.range_zero, beq_self_eq_true, Int.reduceLE, Int.reduceLT, Int.reduceEq, Int.reduceSub, Int.reduceAdd, Int.reduceToNat, Int.reduceNeg, h0, h3, h4, e1]
      simp
theorem take_ext {α : Type} {xs ys : List α} {i : Nat} (ht : xs.take i = ys.take i) (hx : i < xs.length) (hy : i < ys.length) (d : α) (h : xs.getD i d = ys.getD i d) : xs.take (i + 1) = ys.take (i + 1) := by
  rw [List.take_succ_eq_append_getElem hx, List.take_succ_eq_append_getElem hy, ht]
  simp only [List.getD_eq_getElem?_getD, List.getElem?_eq_getElem hx, List.getElem?_eq_getElem hy, Option.getD_some] at h
  rw [h]
theorem eqIntS_eq (xs ys : List Int) (hx : xs.length < 1099511627776) (hy : ys.length < 1099511627776) : Y.call 19 [.sl 3 (ints xs), .sl 3 (ints ys)] [] = some (.bool (decide (xs = ys)), []) := by
  refine c19 ?_ rfl
  unfold k19
  by_cases hl : xs.length = ys.length
  · have e0 : (xs.length : Int) = (ys.length : Int) := by omega
    simp only [↓xpre, xpost, yset, Option.bind_some, Option.map_some, Option.isSome_some, ↓reduceIte, Nat.reduceEqDiff, Nat.reduceLT, Nat.reduceLeDiff, Nat.reduceAdd, Nat.reduceMul, Nat.reduceMod, Nat.reduceSub, List.contains_cons, List.contains_nil, Nat.reduceBEq, List.getD_cons_zero, List.getD_cons_succ, List.getD_nil, List.length_cons, List.length_nil, List.size_toArray, List.toList_toArray, List.zip_cons_cons, List.zip_nil_left, List.append_nil, List.nil_append, List.cons_append, List.map_cons, List.map_nil, List.replicate_succ, List.replicate_zero, List.set_cons_zero, List.set_cons_succ, List.set_set, List.all_cons, List.all_nil, List.getElem?_cons_zero, List.getElem?_cons_succ, List.getElem?_nil, List.range_zero, beq_self_eq_true, Int.reduceLE, Int.reduceLT, Int.reduceEq, Int.reduceSub, Int.reduceAdd, Int.reduceToNat, Int.reduceNeg, e0]
    refine wd_loop (fun n s => ∃ i, n = xs.length - i ∧ i ≤ xs.length ∧ xs.take i = ys.take i ∧ s.v 0 = .sl 3 (ints xs) ∧ s.v 1 = .sl 3 (ints ys) ∧ s.v 5 = .int .i64 i) xs.length ⟨0, by simp, by simp, by simp, ?_⟩ ?_
    · simp only [↓xpre, xpost, yset, Option.bind_some, Option.map_some, Option.isSome_some, ↓reduceIte, Nat.reduceEqDiff, Nat.reduceLT, Nat.reduceLeDiff, Nat.reduceAdd, Nat.reduceMul, Nat.reduceMod, Nat.reduceSub, List.contains_cons, List.contains_nil, Nat.reduceBEq, List.getD_cons_zero, List.getD_cons_succ, List.getD_nil, List.length_cons, List.length_nil, List.size_toArray, List.toList_toArray, List.zip_cons_cons, List.zip_nil_left, List.append_nil, List.nil_append, List.cons_append, List.map_cons, List.map_nil, List.replicate_succ, List.replicate_zero, List.set_cons_zero, List.set_cons_succ, List.set_set, List.all_cons, List.all_nil, List.getElem?_cons_zero, List.getElem?_cons_succ, List.getElem?_nil, List.range_zero, beq_self_eq_true, Int.reduceLE, Int.reduceLT, Int.reduceEq, Int.reduceSub, Int.reduceAdd, Int.reduceToNat, Int.reduceNeg]
      simp
    · rintro n s ⟨i, hn, hi, ht, h0, h1, h5⟩
      by_cases hlt : i < xs.length
      · have e1 : (i : Int) < (xs.length : Int) := by omega
        have e2 : i < ys.length := by omega
        by_cases hq : xs.getD i 0 = ys.getD i 0
        · simp only [↓xpre, xpost, yset, Option.bind_some, Option.map_some, Option.isSome_some, ↓reduceIte, Nat.reduceEqDiff, Nat.reduceLT, Nat.reduceLeDiff, Nat.reduceAdd, Nat.reduceMul, Nat.reduceMod, Nat.reduceSub, List.contains_cons, List.contains_nil, Nat.reduceBEq, List.getD_cons_zero, List.getD_cons_succ, List.getD_nil, List.length_cons, List.length_nil, List.size_toArray, List.toList_toArray, List.zip_cons_cons, List.zip_nil_left, List.append_nil, List.nil_append, List.cons_append, List.map_cons, List.map_nil, List.replicate_succ, List.replicate_zero, List.set_cons_zero, List.set_cons_succ, List.set_set, List.all_cons, List.all_nil, List.getElem?_cons_zero, List.getElem?_cons_succ, List.getElem?_nil, List.range_zero, beq_self_eq_true, Int.reduceLE, Int.reduceLT, Int.reduceEq, Int.reduceSub, Int.reduceAdd, Int.reduceToNat, Int.reduceNeg, h0, h1, h5, e1, e2, hlt, hq, wr64 ((i : Int) + 1) (by omega)]
          refine ⟨_, ?_, i + 1, rfl, by omega, take_ext ht hlt e2 0 hq, ?_⟩
          · omega
          · simp
        · have e3 : ¬ xs = ys := fun e => hq (by rw [e])
          simp only [↓xpre, xpost, yset, Option.bind_some, Option.map_some, Option.isSome_some, ↓reduceIte, Nat.reduceEqDiff, Nat.reduceLT, Nat.reduceLeDiff, Nat.reduceAdd, Nat.reduceMul, Nat.reduceMod, Nat.reduceSub, List.contains_cons, List.contains_nil, Nat.reduceBEq, List.getD_cons_zero, List.getD_cons_succ, List.getD_nil, List.length_cons, List.length_nil, List.size_toArray, List.toList_toArray, List.zip_cons_cons, List.zip_nil_left, List.append_nil, List.nil_append, List.cons_append, List.map_cons, List.map_nil, List.replicate_succ, List.replicate_zero, List.set_cons_zero, List.set_cons_succ, List.set_set, List.all_cons, List.all_nil, List.getElem?_cons_zero, List.getElem?_cons_succ, List.getElem?_nil, List.range_zero, beq_self_eq_true, Int.reduceLE, Int.reduceLT, Int.reduceEq, Int.reduceSub, Int.reduceAdd, Int.reduceToNat, Int.reduceNeg, h0, h1, h5, e1, e2, hlt, hq, e3]
      · have e1 : ¬ (i : Int) < (xs.length : Int) := by omega
        have e3 : xs = ys := by
          have e2 : i = xs.length := by omega
          rw [e2, List.take_length, hl, List.take_length] at ht; exact ht
        simp only [↓xpre, xpost, yset, Option.bind_some, Option.map_some, Option.isSome_some, ↓reduceIte, Nat.reduceEqDiff, Nat.reduceLT, Nat.reduceLeDiff, Nat.reduceAdd, Nat.reduceMul, Nat.reduceMod, Nat.reduceSub, List.contains_cons, List.contains_nil, Nat.reduceBEq, List.getD_cons_zero, List.getD_cons_succ, List.getD_nil, List.length_cons, List.length_nil, List.size_toArray, List.toList_toArray, List.zip_cons_cons, List.zip_nil_left, List.append_nil, List.nil_append, List.cons_append, List.map_cons, List.map_nil, List.replicate_succ, List.replicate_zero, List.set_cons_zero, List.set_cons_succ, List.set_set, List.all_cons, List.all_nil, List.getElem?_cons_zero, List.getElem?_cons_succ, List.getElem?_nil, List.range_zero, beq_self_eq_true, Int.reduceLE, Int.reduceLT, Int.reduceEq, Int.reduceSub, Int.reduceAdd, Int.reduceToNat, Int.reduceNeg, h0, h1, h5, e1]
        simp [e3]
  · have e0 : ¬ (xs.length : Int) = (ys.length : Int) := by omega
    have e1 : ¬ xs = ys := fun e => hl (by rw [e])
    simp only [↓xpre, xpost, yset, Option.bind_some, Option.map_some, Option.isSome_some, ↓reduceIte, Nat.reduceEqDiff, Nat.reduceLT, Nat.reduceLeDiff, Nat.reduceAdd, Nat.reduceMul, Nat.reduceMod, Nat.reduceSub, List.contains_cons, List.contains_nil, Nat.reduceBEq, List.getD_cons_zero, List.getD_cons_succ, List.getD_nil, List.length_cons, List.length_nil, List.size_toArray, List.toList_toArray, List.zip_cons_cons, List.zip_nil_left, List.append_nil, List.nil_append, List.cons_append, List.map_cons, List.map_nil, List.replicate_succ, List.replicate_zero, List.set_cons_zero, List.set_cons_succ, List.set_set, List.all_cons, List.all_nil, List.getElem?_cons_zero, List.getElem?_cons_succ, List.getElem?_nil, List.range_zero, beq_self_eq_true, Int.reduceLE, Int.reduceLT, Int.reduceEq, Int.reduceSub, Int.reduceAdd, Int.reduceToNat, Int.reduceNeg, e0, e1]
/-- Numbers from k on. -/
def upto (k : Int) (n : Nat) : List Int := (List.range n).map fun (i : Nat) => k + i
theorem upto_len (k : Int) (n : Nat) : (upto k n).length = n := by simp [upto]
theorem upto_get (k : Int) (n i : Nat) (h : i < n) : (upto k n).getD i 0 = k + i := by simp [upto, List.getD_eq_getElem?_getD, h]
theorem set_upto (xs : List Int) (k : Int) (i : Nat) (h : i < xs.length) : (upto k i ++ xs.drop i).set i (k + i) = upto k (i + 1) ++ xs.drop (i + 1) := by
  rw [List.set_append_right _ _ (by simp [upto_len]), upto_len, Nat.sub_self, List.drop_eq_getElem_cons h, List.set_cons_zero]
  simp [upto, List.range_succ]
theorem markIntS_eq (xs : List Int) (k : Int) (h : xs.length < 1099511627776) (hk : 0 ≤ k ∧ k < 1099511627776) :
    Y.call 22 [.vw [100000] 0 0, .int .i64 k] [.own 3 (ints xs)] = some (.int .i64 (k + xs.length), [.own 3 (ints (upto k xs.length))]) := by
  refine c22 ?_ rfl
  unfold k22
  simp only [↓xpre, xpost, yset, Option.bind_some, Option.map_some, Option.isSome_some, ↓reduceIte, Nat.reduceEqDiff, Nat.reduceLT, Nat.reduceLeDiff, Nat.reduceAdd, Nat.reduceMul, Nat.reduceMod, Nat.reduceSub, List.contains_cons, List.contains_nil, Nat.reduceBEq, List.getD_cons_zero, List.getD_cons_succ, List.getD_nil, List.length_cons, List.length_nil, List.size_toArray, List.toList_toArray, List.zip_cons_cons, List.zip_nil_left, List.append_nil, List.nil_append, List.cons_append, List.map_cons, List.map_nil, List.replicate_succ, List.replicate_zero, List.set_cons_zero, List.set_cons_succ, List.set_set, List.all_cons, List.all_nil, List.getElem?_cons_zero, List.getElem?_cons_succ, List.getElem?_nil, List.range_zero, beq_self_eq_true, Int.reduceLE, Int.reduceLT, Int.reduceEq, Int.reduceSub, Int.reduceAdd, Int.reduceToNat, Int.reduceNeg]
  refine wd_loop (fun n s => ∃ i, n = xs.length - i ∧ i ≤ xs.length ∧ s.v 0 = .vw [100000] 0 0 ∧ s.v 1 = .int .i64 (k + i) ∧ s.v 5 = .int .i64 i ∧ s.v 100000 = .own 3 (ints (upto k i ++ xs.drop i)) ∧ s.k 100000 = 0) xs.length ⟨0, by simp, by simp, ?_⟩ ?_
  · simp only [↓xpre, xpost, yset, Option.bind_some, Option.map_some, Option.isSome_some, ↓reduceIte, Nat.reduceEqDiff, Nat.reduceLT, Nat.reduceLeDiff, Nat.reduceAdd, Nat.reduceMul, Nat.reduceMod, Nat.reduceSub, List.contains_cons, List.contains_nil, Nat.reduceBEq, List.getD_cons_zero, List.getD_cons_succ, List.getD_nil, List.length_cons, List.length_nil, List.size_toArray, List.toList_toArray, List.zip_cons_cons, List.zip_nil_left, List.append_nil, List.nil_append, List.cons_append, List.map_cons, List.map_nil, List.replicate_succ, List.replicate_zero, List.set_cons_zero, List.set_cons_succ, List.set_set, List.all_cons, List.all_nil, List.getElem?_cons_zero, List.getElem?_cons_succ, List.getElem?_nil, List.range_zero, beq_self_eq_true, Int.reduceLE, Int.reduceLT, Int.reduceEq, Int.reduceSub, Int.reduceAdd, Int.reduceToNat, Int.reduceNeg]
    simp [upto]
  · rintro n s ⟨i, hn, hi, h0, h1, h5, hg, hgk⟩
    have el : (upto k i ++ xs.drop i).length = xs.length := by simp [upto_len]; omega
    by_cases hlt : i < xs.length
    · have e1 : (i : Int) < (xs.length : Int) := by omega
      simp only [↓xpre, xpost, yset, Option.bind_some, Option.map_some, Option.isSome_some, ↓reduceIte, Nat.reduceEqDiff, Nat.reduceLT, Nat.reduceLeDiff, Nat.reduceAdd, Nat.reduceMul, Nat.reduceMod, Nat.reduceSub, List.contains_cons, List.contains_nil, Nat.reduceBEq, List.getD_cons_zero, List.getD_cons_succ, List.getD_nil, List.length_cons, List.length_nil, List.size_toArray, List.toList_toArray, List.zip_cons_cons, List.zip_nil_left, List.append_nil, List.nil_append, List.cons_append, List.map_cons, List.map_nil, List.replicate_succ, List.replicate_zero, List.set_cons_zero, List.set_cons_succ, List.set_set, List.all_cons, List.all_nil, List.getElem?_cons_zero, List.getElem?_cons_succ, List.getElem?_nil, List.range_zero, beq_self_eq_true, Int.reduceLE, Int.reduceLT, Int.reduceEq, Int.reduceSub, Int.reduceAdd, Int.reduceToNat, Int.reduceNeg, h0, h1, h5, hg, hgk, e1, el, hlt, wr64 ((i : Int) + 1) (by omega), wr64 (k + i + 1) (by omega)]
      refine ⟨_, ?_, i + 1, rfl, by omega, ?_, ?_, ?_⟩
      · omega
      · congr 1; omega
      · simp
      · rw [set_upto xs k i hlt]
    · have e1 : ¬ (i : Int) < (xs.length : Int) := by omega
      have e2 : i = xs.length := by omega
      subst e2
      simp only [↓xpre, xpost, yset, Option.bind_some, Option.map_some, Option.isSome_some, ↓reduceIte, Nat.reduceEqDiff, Nat.reduceLT, Nat.reduceLeDiff, Nat.reduceAdd, Nat.reduceMul, Nat.reduceMod, Nat.reduceSub, List.contains_cons, List.contains_nil, Nat.reduceBEq, List.getD_cons_zero, List.getD_cons_succ, List.getD_nil, List.length_cons, List.length_nil, List.size_toArray, List.toList_toArray, List.zip_cons_cons, List.zip_nil_left, List.append_nil, List.nil_append, List.cons_append, List.map_cons, List.map_nil, List.replicate_succ, List.replicate_zero, List.set_cons_zero, List.set_cons_succ, List.set_set, List.all_cons, List.all_nil, List.getElem?_cons_zero, List.getElem?_cons_succ, List.getElem?_nil, List.range_zero, beq_self_eq_true, Int.reduceLE, Int.reduceLT, Int.reduceEq, Int.reduceSub, Int.reduceAdd, Int.reduceToNat, Int.reduceNeg, h0, h1, h5, hg, hgk, e1, el]
      simp
/-- Whether numbers go on from k. -/
def isUpto : Int → List Int → Bool
  | _, [] => true
  | k, x :: xs => decide (x = k) && isUpto (k + 1) xs
theorem isUpto_upto (n : Nat) : ∀ k, isUpto k (upto k n) = true := by
  induction n with
  | zero => intro k; rfl
  | succ n ih =>
    intro k
    have : upto k (n + 1) = k :: upto (k + 1) n := by
      simp only [upto, List.range_succ_eq_map, List.map_cons, List.map_map]
      congr 1
      · simp
      · apply List.map_congr_left; intro i _; simp; omega
    rw [this, isUpto, ih]; simp
theorem heldIntS_eq (xs : List Int) (k : Int) (h : xs.length < 1099511627776) (hk : 0 ≤ k ∧ k < 1099511627776) :
    Y.call 23 [.sl 3 (ints xs), .int .i64 k] [] = some (.int .i64 (if isUpto k xs then k + xs.length else -1), []) := by
  refine c23 ?_ rfl
  unfold k23
  simp only [↓xpre, xpost, yset, Option.bind_some, Option.map_some, Option.isSome_some, ↓reduceIte, Nat.reduceEqDiff, Nat.reduceLT, Nat.reduceLeDiff, Nat.reduceAdd, Nat.reduceMul, Nat.reduceMod, Nat.reduceSub, List.contains_cons, List.contains_nil, Nat.reduceBEq, List.getD_cons_zero, List.getD_cons_succ, List.getD_nil, List.length_cons, List.length_nil, List.size_toArray, List.toList_toArray, List.zip_cons_cons, List.zip_nil_left, List.append_nil, List.nil_append, List.cons_append, List.map_cons, List.map_nil, List.replicate_succ, List.replicate_zero, List.set_cons_zero, List.set_cons_succ, List.set_set, List.all_cons, List.all_nil, List.getElem?_cons_zero, List.getElem?_cons_succ, List.getElem?_nil, List.range_zero, beq_self_eq_true, Int.reduceLE, Int.reduceLT, Int.reduceEq, Int.reduceSub, Int.reduceAdd, Int.reduceToNat, Int.reduceNeg]
  refine wd_loop (fun n s => ∃ i : Nat, n = xs.length - i ∧ i ≤ xs.length ∧ isUpto k xs = isUpto (k + i) (xs.drop i) ∧ s.v 0 = .sl 3 (ints xs) ∧ s.v 1 = .int .i64 (k + i) ∧ s.v 5 = .int .i64 i) xs.length ⟨0, by simp, by simp, by simp, ?_⟩ ?_
  · simp only [↓xpre, xpost, yset, Option.bind_some, Option.map_some, Option.isSome_some, ↓reduceIte, Nat.reduceEqDiff, Nat.reduceLT, Nat.reduceLeDiff, Nat.reduceAdd, Nat.reduceMul, Nat.reduceMod, Nat.reduceSub, List.contains_cons, List.contains_nil, Nat.reduceBEq, List.getD_cons_zero, List.getD_cons_succ, List.getD_nil, List.length_cons, List.length_nil, List.size_toArray, List.toList_toArray, List.zip_cons_cons, List.zip_nil_left, List.append_nil, List.nil_append, List.cons_append, List.map_cons, List.map_nil, List.replicate_succ, List.replicate_zero, List.set_cons_zero, List.set_cons_succ, List.set_set, List.all_cons, List.all_nil, List.getElem?_cons_zero, List.getElem?_cons_succ, List.getElem?_nil, List.range_zero, beq_self_eq_true, Int.reduceLE, Int.reduceLT, Int.reduceEq, Int.reduceSub, Int.reduceAdd, Int.reduceToNat, Int.reduceNeg]
    simp
  · rintro n s ⟨i, hn, hi, hu, h0, h1, h5⟩
    by_cases hlt : i < xs.length
    · have e1 : (i : Int) < (xs.length : Int) := by omega
      have ed : xs.drop i = xs.getD i 0 :: xs.drop (i + 1) := by
        rw [List.drop_eq_getElem_cons hlt, List.getD_eq_getElem?_getD, List.getElem?_eq_getElem hlt]; rfl
      rw [ed, isUpto] at hu
      by_cases hq : xs.getD i 0 = k + i
      · simp only [↓xpre, xpost, yset, Option.bind_some, Option.map_some, Option.isSome_some, ↓reduceIte, Nat.reduceEqDiff, Nat.reduceLT, Nat.reduceLeDiff, Nat.reduceAdd, Nat.reduceMul, Nat.reduceMod, Nat.reduceSub, List.contains_cons, List.contains_nil, Nat.reduceBEq, List.getD_cons_zero, List.getD_cons_succ, List.getD_nil, List.length_cons, List.length_nil, List.size_toArray, List.toList_toArray, List.zip_cons_cons, List.zip_nil_left, List.append_nil, List.nil_append, List.cons_append, List.map_cons, List.map_nil, List.replicate_succ, List.replicate_zero, List.set_cons_zero, List.set_cons_succ, List.set_set, List.all_cons, List.all_nil, List.getElem?_cons_zero, List.getElem?_cons_succ, List.getElem?_nil, List.range_zero, beq_self_eq_true, Int.reduceLE, Int.reduceLT, Int.reduceEq, Int.reduceSub, Int.reduceAdd, Int.reduceToNat, Int.reduceNeg, h0, h1, h5, e1, hlt, hq, wr64 ((i : Int) + 1) (by omega), wr64 (k + i + 1) (by omega)]
        refine ⟨_, ?_, i + 1, rfl, by omega, ?_, ?_, ?_⟩
        · omega
        · rw [hu]; simp only [hq, decide_true, Bool.true_and]
          rw [show (k + ((i + 1 : Nat) : Int)) = k + i + 1 by omega]
        · congr 1; omega
        · simp
      · have e2 : isUpto k xs = false := by rw [hu]; simp only [hq, decide_false, Bool.false_and]
        simp only [↓xpre, xpost, yset, Option.bind_some, Option.map_some, Option.isSome_some, ↓reduceIte, Nat.reduceEqDiff, Nat.reduceLT, Nat.reduceLeDiff, Nat.reduceAdd, Nat.reduceMul, Nat.reduceMod, Nat.reduceSub, List.contains_cons, List.contains_nil, Nat.reduceBEq, List.getD_cons_zero, List.getD_cons_succ, List.getD_nil, List.length_cons, List.length_nil, List.size_toArray, List.toList_toArray, List.zip_cons_cons, List.zip_nil_left, List.append_nil, List.nil_append, List.cons_append, List.map_cons, List.map_nil, List.replicate_succ, List.replicate_zero, List.set_cons_zero, List.set_cons_succ, List.set_set, List.all_cons, List.all_nil, List.getElem?_cons_zero, List.getElem?_cons_succ, List.getElem?_nil, List.range_zero, beq_self_eq_true, Int.reduceLE, Int.reduceLT, Int.reduceEq, Int.reduceSub, Int.reduceAdd, Int.reduceToNat, Int.reduceNeg, h0, h1, h5, e1, hlt, hq, e2]
    · have e1 : ¬ (i : Int) < (xs.length : Int) := by omega
      have e2 : i = xs.length := by omega
      subst e2
      have e3 : isUpto k xs = true := by rw [hu]; simp [isUpto]
      simp only [↓xpre, xpost, yset, Option.bind_some, Option.map_some, Option.isSome_some, ↓reduceIte, Nat.reduceEqDiff, Nat.reduceLT, Nat.reduceLeDiff, Nat.reduceAdd, Nat.reduceMul, Nat.reduceMod, Nat.reduceSub, List.contains_cons, List.contains_nil, Nat.reduceBEq, List.getD_cons_zero, List.getD_cons_succ, List.getD_nil, List.length_cons, List.length_nil, List.size_toArray, List.toList_toArray, List.zip_cons_cons, List.zip_nil_left, List.append_nil, List.nil_append, List.cons_append, List.map_cons, List.map_nil, List.replicate_succ, List.replicate_zero, List.set_cons_zero, List.set_cons_succ, List.set_set, List.all_cons, List.all_nil, List.getElem?_cons_zero, List.getElem?_cons_succ, List.getElem?_nil, List.range_zero, beq_self_eq_true, Int.reduceLE, Int.reduceLT, Int.reduceEq, Int.reduceSub, Int.reduceAdd, Int.reduceToNat, Int.reduceNeg, h0, h1, h5, e1, e3]

end Go.Proofs.Ythaimoghceamnaa
