/- Sets of labels as numbers. Conditions: the lists are short. -/
import Derived.Test.YthaimoghceamnaaInts
namespace Go.Proofs.Ythaimoghceamnaa
open Go Dv
set_option linter.unusedSimpArgs false
set_option linter.unusedVariables false
set_option maxRecDepth 100000

/-- spec.l1Rising -/
def k47 : SC :=
  .seq
    (.ops [
      ⟨(some 6), (Op.assign (Operand.const (Value.bool false))), 4, none⟩])
    (.seq
      (.seq
        (.ops [
          ⟨(some 9), (Op.move (Operand.tmp 0)), 25, none⟩,
          ⟨(some 10), (Op.call { callee := (Callee.builtin Builtin.len), args := #[(Operand.tmp 9)], argTypes := #[25] }), 3, none⟩,
          ⟨(some 11), (Op.move (Operand.const (Value.int IntKind.i64 0))), 3, none⟩])
        (.block 0
          (.loop
            (.seq
              (.ops [
                ⟨(some 12), (Op.binOp BinOp.lss 3 (Operand.tmp 11) (Operand.tmp 10) 3), 0, none⟩])
              (.seq
                (.cond (Operand.tmp 12)
                  .skip
                  (.exit 0))
                (.seq
                  (.block 1
                    (.seq
                      (.ops [
                        ⟨(some 13), (Op.move (Operand.tmp 11)), 3, none⟩,
                        ⟨(some 14), (Op.indexAddr 25 (Operand.tmp 9) (Operand.tmp 11)), 0, none⟩,
                        ⟨(some 15), (Op.load 3 (Operand.tmp 14)), 3, none⟩,
                        ⟨(some 7), (Op.assign (Operand.tmp 13)), 3, none⟩,
                        ⟨(some 8), (Op.assign (Operand.tmp 15)), 3, none⟩])
                      (.seq
                        (.ops [
                          ⟨(some 16), (Op.move (Operand.tmp 8)), 3, none⟩,
                          ⟨(some 17), (Op.move (Operand.tmp 1)), 3, none⟩,
                          ⟨(some 18), (Op.move (Operand.tmp 2)), 3, none⟩,
                          ⟨(some 19), (Op.call { callee := (Callee.value (Operand.func 50)), args := #[(Operand.tmp 16), (Operand.tmp 17), (Operand.tmp 18)], argTypes := #[3, 3, 3] }), 4, none⟩,
                          ⟨(some 20), (Op.unOp UnOp.not 4 (Operand.tmp 19)), 4, none⟩,
                          ⟨(some 21), (Op.move (Operand.tmp 20)), 4, none⟩,
                          ⟨(some 22), (Op.move (Operand.tmp 7)), 3, (some (some 21, false))⟩,
                          ⟨(some 23), (Op.binOp BinOp.gtr 3 (Operand.tmp 22) (Operand.const (Value.int IntKind.i64 0)) 3), 4, (some (some 21, false))⟩,
                          ⟨(some 24), (Op.move (Operand.tmp 23)), 4, (some (some 21, false))⟩,
                          ⟨(some 25), (Op.move (Operand.tmp 0)), 25, (some (some 24, true))⟩,
                          ⟨(some 26), (Op.move (Operand.tmp 7)), 3, (some (some 24, true))⟩,
                          ⟨(some 27), (Op.binOp BinOp.sub 3 (Operand.tmp 26) (Operand.const (Value.int IntKind.i64 1)) 3), 3, (some (some 24, true))⟩,
                          ⟨(some 28), (Op.indexAddr 25 (Operand.tmp 25) (Operand.tmp 27)), 0, (some (some 24, true))⟩,
                          ⟨(some 29), (Op.load 3 (Operand.tmp 28)), 3, (some (some 24, true))⟩,
                          ⟨(some 30), (Op.move (Operand.tmp 8)), 3, (some (some 24, true))⟩,
                          ⟨(some 31), (Op.binOp BinOp.geq 3 (Operand.tmp 29) (Operand.tmp 30) 3), 4, (some (some 24, true))⟩,
                          ⟨(some 32), (Op.pick (Operand.tmp 24) (Operand.tmp 31) (Operand.const (Value.bool false))), 4, (some (some 21, false))⟩,
                          ⟨(some 33), (Op.pick (Operand.tmp 21) (Operand.const (Value.bool true)) (Operand.tmp 32)), 4, none⟩])
                        (.cond (Operand.tmp 33)
                          (.seq
                            (.ops [
                              ⟨(some 6), (Op.assign (Operand.const (Value.bool false))), 4, none⟩])
                            .ret)
                          .skip))))
                  (.ops [
                    ⟨(some 34), (Op.binOp BinOp.add 3 (Operand.tmp 11) (Operand.const (Value.int IntKind.i64 1)) 3), 3, none⟩,
                    ⟨(some 11), (Op.move (Operand.tmp 34)), 3, none⟩])))))))
      (.seq
        (.ops [
          ⟨(some 6), (Op.assign (Operand.const (Value.bool true))), 4, none⟩])
        .ret))
theorem slim47 : Try.f47.body.map (slim lends) = some k47 := by kernel_rfl
theorem ok47 : fnOk Try.f47 3 = true := by kernel_rfl
theorem c47 {a l : List D} {r : D × List D} (h : wpD Y.env k47 (fin tys l.length [ResultVar.tmp 6] r) (entry a l)) (ha : a.length = 3) : Y.call 47 a l = some r :=
  call_slim (Y := Y) rfl Try.func47 (ha ▸ ok47) slim47 h

/-- impl.increasing -/
def k48 : SC :=
  .seq
    (.ops [
      ⟨(some 6), (Op.assign (Operand.const (Value.bool false))), 4, none⟩])
    (.seq
      (.seq
        (.ops [
          ⟨(some 9), (Op.move (Operand.tmp 0)), 25, none⟩,
          ⟨(some 10), (Op.call { callee := (Callee.builtin Builtin.len), args := #[(Operand.tmp 9)], argTypes := #[25] }), 3, none⟩,
          ⟨(some 11), (Op.move (Operand.const (Value.int IntKind.i64 0))), 3, none⟩])
        (.block 0
          (.loop
            (.seq
              (.ops [
                ⟨(some 12), (Op.binOp BinOp.lss 3 (Operand.tmp 11) (Operand.tmp 10) 3), 0, none⟩])
              (.seq
                (.cond (Operand.tmp 12)
                  .skip
                  (.exit 0))
                (.seq
                  (.block 1
                    (.seq
                      (.ops [
                        ⟨(some 13), (Op.move (Operand.tmp 11)), 3, none⟩,
                        ⟨(some 14), (Op.indexAddr 25 (Operand.tmp 9) (Operand.tmp 11)), 0, none⟩,
                        ⟨(some 15), (Op.load 3 (Operand.tmp 14)), 3, none⟩,
                        ⟨(some 7), (Op.assign (Operand.tmp 13)), 3, none⟩,
                        ⟨(some 8), (Op.assign (Operand.tmp 15)), 3, none⟩])
                      (.seq
                        (.ops [
                          ⟨(some 16), (Op.move (Operand.tmp 8)), 3, none⟩,
                          ⟨(some 17), (Op.move (Operand.tmp 1)), 3, none⟩,
                          ⟨(some 18), (Op.move (Operand.tmp 2)), 3, none⟩,
                          ⟨(some 19), (Op.call { callee := (Callee.value (Operand.func 52)), args := #[(Operand.tmp 16), (Operand.tmp 17), (Operand.tmp 18)], argTypes := #[3, 3, 3] }), 4, none⟩,
                          ⟨(some 20), (Op.unOp UnOp.not 4 (Operand.tmp 19)), 4, none⟩,
                          ⟨(some 21), (Op.move (Operand.tmp 20)), 4, none⟩,
                          ⟨(some 22), (Op.move (Operand.tmp 7)), 3, (some (some 21, false))⟩,
                          ⟨(some 23), (Op.binOp BinOp.gtr 3 (Operand.tmp 22) (Operand.const (Value.int IntKind.i64 0)) 3), 4, (some (some 21, false))⟩,
                          ⟨(some 24), (Op.move (Operand.tmp 23)), 4, (some (some 21, false))⟩,
                          ⟨(some 25), (Op.move (Operand.tmp 0)), 25, (some (some 24, true))⟩,
                          ⟨(some 26), (Op.move (Operand.tmp 7)), 3, (some (some 24, true))⟩,
                          ⟨(some 27), (Op.binOp BinOp.sub 3 (Operand.tmp 26) (Operand.const (Value.int IntKind.i64 1)) 3), 3, (some (some 24, true))⟩,
                          ⟨(some 28), (Op.indexAddr 25 (Operand.tmp 25) (Operand.tmp 27)), 0, (some (some 24, true))⟩,
                          ⟨(some 29), (Op.load 3 (Operand.tmp 28)), 3, (some (some 24, true))⟩,
                          ⟨(some 30), (Op.move (Operand.tmp 8)), 3, (some (some 24, true))⟩,
                          ⟨(some 31), (Op.binOp BinOp.geq 3 (Operand.tmp 29) (Operand.tmp 30) 3), 4, (some (some 24, true))⟩,
                          ⟨(some 32), (Op.pick (Operand.tmp 24) (Operand.tmp 31) (Operand.const (Value.bool false))), 4, (some (some 21, false))⟩,
                          ⟨(some 33), (Op.pick (Operand.tmp 21) (Operand.const (Value.bool true)) (Operand.tmp 32)), 4, none⟩])
                        (.cond (Operand.tmp 33)
                          (.seq
                            (.ops [
                              ⟨(some 6), (Op.assign (Operand.const (Value.bool false))), 4, none⟩])
                            .ret)
                          .skip))))
                  (.ops [
                    ⟨(some 34), (Op.binOp BinOp.add 3 (Operand.tmp 11) (Operand.const (Value.int IntKind.i64 1)) 3), 3, none⟩,
                    ⟨(some 11), (Op.move (Operand.tmp 34)), 3, none⟩])))))))
      (.seq
        (.ops [
          ⟨(some 6), (Op.assign (Operand.const (Value.bool true))), 4, none⟩])
        .ret))
theorem slim48 : Try.f48.body.map (slim lends) = some k48 := by kernel_rfl
theorem ok48 : fnOk Try.f48 3 = true := by kernel_rfl
theorem c48 {a l : List D} {r : D × List D} (h : wpD Y.env k48 (fin tys l.length [ResultVar.tmp 6] r) (entry a l)) (ha : a.length = 3) : Y.call 48 a l = some r :=
  call_slim (Y := Y) rfl Try.func48 (ha ▸ ok48) slim48 h

/-- impl.setOf -/
def k49 : SC :=
  .seq
    (.ops [
      ⟨(some 2), (Op.assign (Operand.const (Value.int IntKind.i64 0))), 3, none⟩])
    (.seq
      (.ops [
        ⟨(some 3), (Op.assign (Operand.const (Value.int IntKind.i64 0))), 3, none⟩])
      (.seq
        (.seq
          (.ops [
            ⟨(some 6), (Op.move (Operand.tmp 0)), 25, none⟩,
            ⟨(some 7), (Op.call { callee := (Callee.builtin Builtin.len), args := #[(Operand.tmp 6)], argTypes := #[25] }), 3, none⟩,
            ⟨(some 8), (Op.move (Operand.const (Value.int IntKind.i64 0))), 3, none⟩])
          (.block 0
            (.loop
              (.seq
                (.ops [
                  ⟨(some 9), (Op.binOp BinOp.lss 3 (Operand.tmp 8) (Operand.tmp 7) 3), 0, none⟩])
                (.seq
                  (.cond (Operand.tmp 9)
                    .skip
                    (.exit 0))
                  (.seq
                    (.block 1
                      (.seq
                        (.ops [
                          ⟨(some 10), (Op.indexAddr 25 (Operand.tmp 6) (Operand.tmp 8)), 0, none⟩,
                          ⟨(some 11), (Op.load 3 (Operand.tmp 10)), 3, none⟩,
                          ⟨(some 5), (Op.assign (Operand.tmp 11)), 3, none⟩])
                        (.ops [
                          ⟨(some 12), (Op.move (Operand.tmp 3)), 3, none⟩,
                          ⟨(some 13), (Op.move (Operand.tmp 5)), 3, none⟩,
                          ⟨(some 14), (Op.binOp BinOp.shl 3 (Operand.const (Value.int IntKind.i64 1)) (Operand.tmp 13) 3), 3, none⟩,
                          ⟨(some 15), (Op.binOp BinOp.or 3 (Operand.tmp 12) (Operand.tmp 14) 3), 3, none⟩,
                          ⟨(some 3), (Op.assign (Operand.tmp 15)), 3, none⟩])))
                    (.ops [
                      ⟨(some 16), (Op.binOp BinOp.add 3 (Operand.tmp 8) (Operand.const (Value.int IntKind.i64 1)) 3), 3, none⟩,
                      ⟨(some 8), (Op.move (Operand.tmp 16)), 3, none⟩])))))))
        (.seq
          (.ops [
            ⟨(some 17), (Op.move (Operand.tmp 3)), 3, none⟩,
            ⟨(some 2), (Op.assign (Operand.tmp 17)), 3, none⟩])
          .ret)))
theorem slim49 : Try.f49.body.map (slim lends) = some k49 := by kernel_rfl
theorem ok49 : fnOk Try.f49 1 = true := by kernel_rfl
theorem c49 {a l : List D} {r : D × List D} (h : wpD Y.env k49 (fin tys l.length [ResultVar.tmp 2] r) (entry a l)) (ha : a.length = 1) : Y.call 49 a l = some r :=
  call_slim (Y := Y) rfl Try.func49 (ha ▸ ok49) slim49 h

/-- spec.SetOfLabels -/
def k16 : SC :=
  .seq
    (.ops [
      ⟨(some 2), (Op.assign (Operand.const (Value.int IntKind.i64 0))), 3, none⟩,
      ⟨(some 3), (Op.assign (Operand.const (Value.bool false))), 4, none⟩])
    (.seq
      (.seq
        (.ops [
          ⟨(some 7), (Op.move (Operand.tmp 0)), 25, none⟩,
          ⟨(some 8), (Op.call { callee := (Callee.value (Operand.func 47)), args := #[(Operand.tmp 7), (Operand.const (Value.int IntKind.i64 0)), (Operand.const (Value.int IntKind.i64 7))], argTypes := #[25, 3, 3] }), 4, none⟩,
          ⟨(some 9), (Op.unOp UnOp.not 4 (Operand.tmp 8)), 4, none⟩])
        (.cond (Operand.tmp 9)
          (.seq
            (.ops [
              ⟨(some 2), (Op.assign (Operand.const (Value.int IntKind.i64 0))), 3, none⟩,
              ⟨(some 3), (Op.assign (Operand.const (Value.bool false))), 4, none⟩])
            .ret)
          .skip))
      (.seq
        (.ops [
          ⟨(some 4), (Op.assign (Operand.const (Value.int IntKind.i64 0))), 3, none⟩])
        (.seq
          (.seq
            (.ops [
              ⟨(some 10), (Op.move (Operand.tmp 0)), 25, none⟩,
              ⟨(some 11), (Op.call { callee := (Callee.builtin Builtin.len), args := #[(Operand.tmp 10)], argTypes := #[25] }), 3, none⟩,
              ⟨(some 12), (Op.move (Operand.const (Value.int IntKind.i64 0))), 3, none⟩])
            (.block 0
              (.loop
                (.seq
                  (.ops [
                    ⟨(some 13), (Op.binOp BinOp.lss 3 (Operand.tmp 12) (Operand.tmp 11) 3), 0, none⟩])
                  (.seq
                    (.cond (Operand.tmp 13)
                      .skip
                      (.exit 0))
                    (.seq
                      (.block 1
                        (.seq
                          (.ops [
                            ⟨(some 14), (Op.indexAddr 25 (Operand.tmp 10) (Operand.tmp 12)), 0, none⟩,
                            ⟨(some 15), (Op.load 3 (Operand.tmp 14)), 3, none⟩,
                            ⟨(some 6), (Op.assign (Operand.tmp 15)), 3, none⟩])
                          (.ops [
                            ⟨(some 16), (Op.move (Operand.tmp 4)), 3, none⟩,
                            ⟨(some 17), (Op.move (Operand.tmp 6)), 3, none⟩,
                            ⟨(some 18), (Op.binOp BinOp.shl 3 (Operand.const (Value.int IntKind.i64 1)) (Operand.tmp 17) 3), 3, none⟩,
                            ⟨(some 19), (Op.binOp BinOp.add 3 (Operand.tmp 16) (Operand.tmp 18) 3), 3, none⟩,
                            ⟨(some 4), (Op.assign (Operand.tmp 19)), 3, none⟩])))
                      (.ops [
                        ⟨(some 20), (Op.binOp BinOp.add 3 (Operand.tmp 12) (Operand.const (Value.int IntKind.i64 1)) 3), 3, none⟩,
                        ⟨(some 12), (Op.move (Operand.tmp 20)), 3, none⟩])))))))
          (.seq
            (.ops [
              ⟨(some 21), (Op.move (Operand.tmp 4)), 3, none⟩,
              ⟨(some 2), (Op.assign (Operand.tmp 21)), 3, none⟩,
              ⟨(some 3), (Op.assign (Operand.const (Value.bool true))), 4, none⟩])
            .ret))))
theorem slim16 : Try.f16.body.map (slim lends) = some k16 := by kernel_rfl
theorem ok16 : fnOk Try.f16 1 = true := by kernel_rfl
theorem c16 {a l : List D} {r : D × List D} (h : wpD Y.env k16 (fin tys l.length [ResultVar.tmp 2, ResultVar.tmp 3] r) (entry a l)) (ha : a.length = 1) : Y.call 16 a l = some r :=
  call_slim (Y := Y) rfl Try.func16 (ha ▸ ok16) slim16 h

/-- impl.SetOfLabels -/
def k18 : SC :=
  .seq
    (.ops [
      ⟨(some 2), (Op.assign (Operand.const (Value.int IntKind.i64 0))), 3, none⟩,
      ⟨(some 3), (Op.assign (Operand.const (Value.bool false))), 4, none⟩])
    (.seq
      (.seq
        (.ops [
          ⟨(some 4), (Op.move (Operand.tmp 0)), 25, none⟩,
          ⟨(some 5), (Op.call { callee := (Callee.value (Operand.func 48)), args := #[(Operand.tmp 4), (Operand.const (Value.int IntKind.i64 0)), (Operand.const (Value.int IntKind.i64 7))], argTypes := #[25, 3, 3] }), 4, none⟩,
          ⟨(some 6), (Op.unOp UnOp.not 4 (Operand.tmp 5)), 4, none⟩])
        (.cond (Operand.tmp 6)
          (.seq
            (.ops [
              ⟨(some 2), (Op.assign (Operand.const (Value.int IntKind.i64 0))), 3, none⟩,
              ⟨(some 3), (Op.assign (Operand.const (Value.bool false))), 4, none⟩])
            .ret)
          .skip))
      (.seq
        (.ops [
          ⟨(some 7), (Op.move (Operand.tmp 0)), 25, none⟩,
          ⟨(some 8), (Op.call { callee := (Callee.value (Operand.func 49)), args := #[(Operand.tmp 7)], argTypes := #[25] }), 3, none⟩,
          ⟨(some 2), (Op.assign (Operand.tmp 8)), 3, none⟩,
          ⟨(some 3), (Op.assign (Operand.const (Value.bool true))), 4, none⟩])
        .ret))
theorem slim18 : Try.f18.body.map (slim lends) = some k18 := by kernel_rfl
theorem ok18 : fnOk Try.f18 1 = true := by kernel_rfl
theorem c18 {a l : List D} {r : D × List D} (h : wpD Y.env k18 (fin tys l.length [ResultVar.tmp 2, ResultVar.tmp 3] r) (entry a l)) (ha : a.length = 1) : Y.call 18 a l = some r :=
  call_slim (Y := Y) rfl Try.func18 (ha ▸ ok18) slim18 h

/-- A test at all places. -/
def allUp (n : Nat) (p : Nat → Bool) : Bool := (List.range n).all p
theorem allUp_false {n : Nat} {p : Nat → Bool} {i : Nat} (h : i < n) (hp : p i = false) : allUp n p = false := by
  simp only [allUp, List.all_eq_false]; exact ⟨i, List.mem_range.2 h, by simp [hp]⟩
theorem allUp_true {n : Nat} {p : Nat → Bool} (h : ∀ j, j < n → p j = true) : allUp n p = true := by
  simp only [allUp, List.all_eq_true, List.mem_range]; exact h
theorem allUp_get {n : Nat} {p : Nat → Bool} (h : allUp n p = true) (i : Nat) (hi : i < n) : p i = true := by
  simp only [allUp, List.all_eq_true, List.mem_range] at h; exact h i hi

/-- Rising within bounds at a place. -/
def riseAt (xs : List Int) (lo hi : Int) (i : Nat) : Bool := (decide (lo ≤ xs.getD i 0) && decide (xs.getD i 0 ≤ hi)) && (decide (i = 0) || decide (xs.getD (i - 1) 0 < xs.getD i 0))
def rises (xs : List Int) (lo hi : Int) : Bool := allUp xs.length (riseAt xs lo hi)

theorem l1Rising_eq (xs : List Int) (lo hi : Int) (h : xs.length < 1099511627776) : Y.call 47 [.sl 3 (ints xs), .int .i64 lo, .int .i64 hi] [] = some (.bool (rises xs lo hi), []) := by
  refine c47 ?_ rfl
  unfold k47
  simp only [↓xpre, xpost, yset, Option.bind_some, Option.map_some, Option.isSome_some, ↓reduceIte, Nat.reduceEqDiff, Nat.reduceLT, Nat.reduceLeDiff, Nat.reduceAdd, Nat.reduceMul, Nat.reduceMod, Nat.reduceSub, List.contains_cons, List.contains_nil, Nat.reduceBEq, List.getD_cons_zero, List.getD_cons_succ, List.getD_nil, List.length_cons, List.length_nil, List.size_toArray, List.toList_toArray, List.zip_cons_cons, List.zip_nil_left, List.append_nil, List.nil_append, List.cons_append, List.map_cons, List.map_nil, List.replicate_succ, List.replicate_zero, List.set_cons_zero, List.set_cons_succ, List.set_set, List.all_cons, List.all_nil, List.getElem?_cons_zero, List.getElem?_cons_succ, List.getElem?_nil, List.range_zero, beq_self_eq_true, Int.reduceLE, Int.reduceLT, Int.reduceEq, Int.reduceSub, Int.reduceAdd, Int.reduceToNat, Int.reduceNeg]
  refine wd_loop (fun n s => ∃ i : Nat, n = xs.length - i ∧ i ≤ xs.length ∧ (∀ j, j < i → riseAt xs lo hi j = true) ∧ s.v 0 = .sl 3 (ints xs) ∧ s.v 1 = .int .i64 lo ∧ s.v 2 = .int .i64 hi ∧ s.v 9 = .sl 3 (ints xs) ∧ s.v 10 = .int .i64 xs.length ∧ s.v 11 = .int .i64 i) xs.length ⟨0, by simp, by simp, by simp, ?_⟩ ?_
  · simp only [↓xpre, xpost, yset, Option.bind_some, Option.map_some, Option.isSome_some, ↓reduceIte, Nat.reduceEqDiff, Nat.reduceLT, Nat.reduceLeDiff, Nat.reduceAdd, Nat.reduceMul, Nat.reduceMod, Nat.reduceSub, List.contains_cons, List.contains_nil, Nat.reduceBEq, List.getD_cons_zero, List.getD_cons_succ, List.getD_nil, List.length_cons, List.length_nil, List.size_toArray, List.toList_toArray, List.zip_cons_cons, List.zip_nil_left, List.append_nil, List.nil_append, List.cons_append, List.map_cons, List.map_nil, List.replicate_succ, List.replicate_zero, List.set_cons_zero, List.set_cons_succ, List.set_set, List.all_cons, List.all_nil, List.getElem?_cons_zero, List.getElem?_cons_succ, List.getElem?_nil, List.range_zero, beq_self_eq_true, Int.reduceLE, Int.reduceLT, Int.reduceEq, Int.reduceSub, Int.reduceAdd, Int.reduceToNat, Int.reduceNeg]
    simp
  · rintro n s ⟨i, hn, hi', hp, h0, h1, h2, h9, h10, h11⟩
    by_cases hlt : i < xs.length
    · have e1 : (i : Int) < (xs.length : Int) := by omega
      by_cases hw : (decide (lo ≤ xs.getD i 0) && decide (xs.getD i 0 ≤ hi)) = true
      · by_cases hz : 0 < i
        · have e2 : (0 : Int) < (i : Int) := by omega
          have e3 : i - 1 < xs.length := by omega
          have e4 : ((i : Int) - 1).toNat = i - 1 := by omega
          have e5 : 0 ≤ (i : Int) - 1 := by omega
          by_cases hr : xs.getD i 0 ≤ xs.getD (i - 1) 0
          · have e6 : rises xs lo hi = false := allUp_false hlt (by simp only [riseAt, hw, Bool.true_and, Bool.or_eq_false_iff, decide_eq_false_iff_not]; omega)
            simp only [↓xpre, xpost, yset, Option.bind_some, Option.map_some, Option.isSome_some, ↓reduceIte, Nat.reduceEqDiff, Nat.reduceLT, Nat.reduceLeDiff, Nat.reduceAdd, Nat.reduceMul, Nat.reduceMod, Nat.reduceSub, List.contains_cons, List.contains_nil, Nat.reduceBEq, List.getD_cons_zero, List.getD_cons_succ, List.getD_nil, List.length_cons, List.length_nil, List.size_toArray, List.toList_toArray, List.zip_cons_cons, List.zip_nil_left, List.append_nil, List.nil_append, List.cons_append, List.map_cons, List.map_nil, List.replicate_succ, List.replicate_zero, List.set_cons_zero, List.set_cons_succ, List.set_set, List.all_cons, List.all_nil, List.getElem?_cons_zero, List.getElem?_cons_succ, List.getElem?_nil, List.range_zero, beq_self_eq_true, Int.reduceLE, Int.reduceLT, Int.reduceEq, Int.reduceSub, Int.reduceAdd, Int.reduceToNat, Int.reduceNeg, h0, h1, h2, h9, h10, h11, e1, hlt, l1In_eq, hw, e2, e3, e4, e5, hr, e6, wr64 ((i : Int) - 1) (by omega)]
          · simp only [↓xpre, xpost, yset, Option.bind_some, Option.map_some, Option.isSome_some, ↓reduceIte, Nat.reduceEqDiff, Nat.reduceLT, Nat.reduceLeDiff, Nat.reduceAdd, Nat.reduceMul, Nat.reduceMod, Nat.reduceSub, List.contains_cons, List.contains_nil, Nat.reduceBEq, List.getD_cons_zero, List.getD_cons_succ, List.getD_nil, List.length_cons, List.length_nil, List.size_toArray, List.toList_toArray, List.zip_cons_cons, List.zip_nil_left, List.append_nil, List.nil_append, List.cons_append, List.map_cons, List.map_nil, List.replicate_succ, List.replicate_zero, List.set_cons_zero, List.set_cons_succ, List.set_set, List.all_cons, List.all_nil, List.getElem?_cons_zero, List.getElem?_cons_succ, List.getElem?_nil, List.range_zero, beq_self_eq_true, Int.reduceLE, Int.reduceLT, Int.reduceEq, Int.reduceSub, Int.reduceAdd, Int.reduceToNat, Int.reduceNeg, h0, h1, h2, h9, h10, h11, e1, hlt, l1In_eq, hw, e2, e3, e4, e5, hr, wr64 ((i : Int) - 1) (by omega), wr64 ((i : Int) + 1) (by omega)]
            refine ⟨_, ?_, i + 1, rfl, by omega, ?_, ?_⟩
            · omega
            · intro j hj
              by_cases hji : j = i
              · subst hji; simp only [riseAt, hw, Bool.true_and, Bool.or_eq_true, decide_eq_true_eq]; omega
              · exact hp j (by omega)
            · simp
        · have e2 : ¬ (0 : Int) < (i : Int) := by omega
          simp only [↓xpre, xpost, yset, Option.bind_some, Option.map_some, Option.isSome_some, ↓reduceIte, Nat.reduceEqDiff, Nat.reduceLT, Nat.reduceLeDiff, Nat.reduceAdd, Nat.reduceMul, Nat.reduceMod, Nat.reduceSub, List.contains_cons, List.contains_nil, Nat.reduceBEq, List.getD_cons_zero, List.getD_cons_succ, List.getD_nil, List.length_cons, List.length_nil, List.size_toArray, List.toList_toArray, List.zip_cons_cons, List.zip_nil_left, List.append_nil, List.nil_append, List.cons_append, List.map_cons, List.map_nil, List.replicate_succ, List.replicate_zero, List.set_cons_zero, List.set_cons_succ, List.set_set, List.all_cons, List.all_nil, List.getElem?_cons_zero, List.getElem?_cons_succ, List.getElem?_nil, List.range_zero, beq_self_eq_true, Int.reduceLE, Int.reduceLT, Int.reduceEq, Int.reduceSub, Int.reduceAdd, Int.reduceToNat, Int.reduceNeg, h0, h1, h2, h9, h10, h11, e1, hlt, l1In_eq, hw, e2, wr64 ((i : Int) + 1) (by omega)]
          refine ⟨_, ?_, i + 1, rfl, by omega, ?_, ?_⟩
          · omega
          · intro j hj
            have hji : j = i := by omega
            subst hji; simp only [riseAt, hw, Bool.true_and, Bool.or_eq_true, decide_eq_true_eq]; omega
          · simp
      · simp only [Bool.not_eq_true] at hw
        have e6 : rises xs lo hi = false := allUp_false hlt (by simp only [riseAt, hw, Bool.false_and])
        simp only [↓xpre, xpost, yset, Option.bind_some, Option.map_some, Option.isSome_some, ↓reduceIte, Nat.reduceEqDiff, Nat.reduceLT, Nat.reduceLeDiff, Nat.reduceAdd, Nat.reduceMul, Nat.reduceMod, Nat.reduceSub, List.contains_cons, List.contains_nil, Nat.reduceBEq, List.getD_cons_zero, List.getD_cons_succ, List.getD_nil, List.length_cons, List.length_nil, List.size_toArray, List.toList_toArray, List.zip_cons_cons, List.zip_nil_left, List.append_nil, List.nil_append, List.cons_append, List.map_cons, List.map_nil, List.replicate_succ, List.replicate_zero, List.set_cons_zero, List.set_cons_succ, List.set_set, List.all_cons, List.all_nil, List.getElem?_cons_zero, List.getElem?_cons_succ, List.getElem?_nil, List.range_zero, beq_self_eq_true, Int.reduceLE, Int.reduceLT, Int.reduceEq, Int.reduceSub, Int.reduceAdd, Int.reduceToNat, Int.reduceNeg, h0, h1, h2, h9, h10, h11, e1, hlt, l1In_eq, hw, e6]
    · have e1 : ¬ (i : Int) < (xs.length : Int) := by omega
      have e6 : rises xs lo hi = true := allUp_true (fun j hj => hp j (by omega))
      simp only [↓xpre, xpost, yset, Option.bind_some, Option.map_some, Option.isSome_some, ↓reduceIte, Nat.reduceEqDiff, Nat.reduceLT, Nat.reduceLeDiff, Nat.reduceAdd, Nat.reduceMul, Nat.reduceMod, Nat.reduceSub, List.contains_cons, List.contains_nil, Nat.reduceBEq, List.getD_cons_zero, List.getD_cons_succ, List.getD_nil, List.length_cons, List.length_nil, List.size_toArray, List.toList_toArray, List.zip_cons_cons, List.zip_nil_left, List.append_nil, List.nil_append, List.cons_append, List.map_cons, List.map_nil, List.replicate_succ, List.replicate_zero, List.set_cons_zero, List.set_cons_succ, List.set_set, List.all_cons, List.all_nil, List.getElem?_cons_zero, List.getElem?_cons_succ, List.getElem?_nil, List.range_zero, beq_self_eq_true, Int.reduceLE, Int.reduceLT, Int.reduceEq, Int.reduceSub, Int.reduceAdd, Int.reduceToNat, Int.reduceNeg, h0, h1, h2, h9, h10, h11, e1, e6]
theorem increasing_eq (xs : List Int) (lo hi : Int) (h : xs.length < 1099511627776) : Y.call 48 [.sl 3 (ints xs), .int .i64 lo, .int .i64 hi] [] = some (.bool (rises xs lo hi), []) := by
  refine c48 ?_ rfl
  unfold k48
  simp only [↓xpre, xpost, yset, Option.bind_some, Option.map_some, Option.isSome_some, ↓reduceIte, Nat.reduceEqDiff, Nat.reduceLT, Nat.reduceLeDiff, Nat.reduceAdd, Nat.reduceMul, Nat.reduceMod, Nat.reduceSub, List.contains_cons, List.contains_nil, Nat.reduceBEq, List.getD_cons_zero, List.getD_cons_succ, List.getD_nil, List.length_cons, List.length_nil, List.size_toArray, List.toList_toArray, List.zip_cons_cons, List.zip_nil_left, List.append_nil, List.nil_append, List.cons_append, List.map_cons, List.map_nil, List.replicate_succ, List.replicate_zero, List.set_cons_zero, List.set_cons_succ, List.set_set, List.all_cons, List.all_nil, List.getElem?_cons_zero, List.getElem?_cons_succ, List.getElem?_nil, List.range_zero, beq_self_eq_true, Int.reduceLE, Int.reduceLT, Int.reduceEq, Int.reduceSub, Int.reduceAdd, Int.reduceToNat, Int.reduceNeg]
  refine wd_loop (fun n s => ∃ i : Nat, n = xs.length - i ∧ i ≤ xs.length ∧ (∀ j, j < i → riseAt xs lo hi j = true) ∧ s.v 0 = .sl 3 (ints xs) ∧ s.v 1 = .int .i64 lo ∧ s.v 2 = .int .i64 hi ∧ s.v 9 = .sl 3 (ints xs) ∧ s.v 10 = .int .i64 xs.length ∧ s.v 11 = .int .i64 i) xs.length ⟨0, by simp, by simp, by simp, ?_⟩ ?_
  · simp only [↓xpre, xpost, yset, Option.bind_some, Option.map_some, Option.isSome_some, ↓reduceIte, Nat.reduceEqDiff, Nat.reduceLT, Nat.reduceLeDiff, Nat.reduceAdd, Nat.reduceMul, Nat.reduceMod, Nat.reduceSub, List.contains_cons, List.contains_nil, Nat.reduceBEq, List.getD_cons_zero, List.getD_cons_succ, List.getD_nil, List.length_cons, List.length_nil, List.size_toArray, List.toList_toArray, List.zip_cons_cons, List.zip_nil_left, List.append_nil, List.nil_append, List.cons_append, List.map_cons, List.map_nil, List.replicate_succ, List.replicate_zero, List.set_cons_zero, List.set_cons_succ, List.set_set, List.all_cons, List.all_nil, List.getElem?_cons_zero, List.getElem?_cons_succ, List.getElem?_nil, List.range_zero, beq_self_eq_true, Int.reduceLE, Int.reduceLT, Int.reduceEq, Int.reduceSub, Int.reduceAdd, Int.reduceToNat, Int.reduceNeg]
    simp
  · rintro n s ⟨i, hn, hi', hp, h0, h1, h2, h9, h10, h11⟩
    by_cases hlt : i < xs.length
    · have e1 : (i : Int) < (xs.length : Int) := by omega
      by_cases hw : (decide (lo ≤ xs.getD i 0) && decide (xs.getD i 0 ≤ hi)) = true
      · by_cases hz : 0 < i
        · have e2 : (0 : Int) < (i : Int) := by omega
          have e3 : i - 1 < xs.length := by omega
          have e4 : ((i : Int) - 1).toNat = i - 1 := by omega
          have e5 : 0 ≤ (i : Int) - 1 := by omega
          by_cases hr : xs.getD i 0 ≤ xs.getD (i - 1) 0
          · have e6 : rises xs lo hi = false := allUp_false hlt (by simp only [riseAt, hw, Bool.true_and, Bool.or_eq_false_iff, decide_eq_false_iff_not]; omega)
            simp only [↓xpre, xpost, yset, Option.bind_some, Option.map_some, Option.isSome_some, ↓reduceIte, Nat.reduceEqDiff, Nat.reduceLT, Nat.reduceLeDiff, Nat.reduceAdd, Nat.reduceMul, Nat.reduceMod, Nat.reduceSub, List.contains_cons, List.contains_nil, Nat.reduceBEq, List.getD_cons_zero, List.getD_cons_succ, List.getD_nil, List.length_cons, List.length_nil, List.size_toArray, List.toList_toArray, List.zip_cons_cons, List.zip_nil_left, List.append_nil, List.nil_append, List.cons_append, List.map_cons, List.map_nil, List.replicate_succ, List.replicate_zero, List.set_cons_zero, List.set_cons_succ, List.set_set, List.all_cons, List.all_nil, List.getElem?_cons_zero, List.getElem?_cons_succ, List.getElem?_nil, List.range_zero, beq_self_eq_true, Int.reduceLE, Int.reduceLT, Int.reduceEq, Int.reduceSub, Int.reduceAdd, Int.reduceToNat, Int.reduceNeg, h0, h1, h2, h9, h10, h11, e1, hlt, within_eq, hw, e2, e3, e4, e5, hr, e6, wr64 ((i : Int) - 1) (by omega)]
          · simp only [↓xpre, xpost, yset, Option.bind_some, Option.map_some, Option.isSome_some, ↓reduceIte, Nat.reduceEqDiff, Nat.reduceLT, Nat.reduceLeDiff, Nat.reduceAdd, Nat.reduceMul, Nat.reduceMod, Nat.reduceSub, List.contains_cons, List.contains_nil, Nat.reduceBEq, List.getD_cons_zero, List.getD_cons_succ, List.getD_nil, List.length_cons, List.length_nil, List.size_toArray, List.toList_toArray, List.zip_cons_cons, List.zip_nil_left, List.append_nil, List.nil_append, List.cons_append, List.map_cons, List.map_nil, List.replicate_succ, List.replicate_zero, List.set_cons_zero, List.set_cons_succ, List.set_set, List.all_cons, List.all_nil, List.getElem?_cons_zero, List.getElem?_cons_succ, List.getElem?_nil, List.range_zero, beq_self_eq_true, Int.reduceLE, Int.reduceLT, Int.reduceEq, Int.reduceSub, Int.reduceAdd, Int.reduceToNat, Int.reduceNeg, h0, h1, h2, h9, h10, h11, e1, hlt, within_eq, hw, e2, e3, e4, e5, hr, wr64 ((i : Int) - 1) (by omega), wr64 ((i : Int) + 1) (by omega)]
            refine ⟨_, ?_, i + 1, rfl, by omega, ?_, ?_⟩
            · omega
            · intro j hj
              by_cases hji : j = i
              · subst hji; simp only [riseAt, hw, Bool.true_and, Bool.or_eq_true, decide_eq_true_eq]; omega
              · exact hp j (by omega)
            · simp
        · have e2 : ¬ (0 : Int) < (i : Int) := by omega
          simp only [↓xpre, xpost, yset, Option.bind_some, Option.map_some, Option.isSome_some, ↓reduceIte, Nat.reduceEqDiff, Nat.reduceLT, Nat.reduceLeDiff, Nat.reduceAdd, Nat.reduceMul, Nat.reduceMod, Nat.reduceSub, List.contains_cons, List.contains_nil, Nat.reduceBEq, List.getD_cons_zero, List.getD_cons_succ, List.getD_nil, List.length_cons, List.length_nil, List.size_toArray, List.toList_toArray, List.zip_cons_cons, List.zip_nil_left, List.append_nil, List.nil_append, List.cons_append, List.map_cons, List.map_nil, List.replicate_succ, List.replicate_zero, List.set_cons_zero, List.set_cons_succ, List.set_set, List.all_cons, List.all_nil, List.getElem?_cons_zero, List.getElem?_cons_succ, List.getElem?_nil, List.range_zero, beq_self_eq_true, Int.reduceLE, Int.reduceLT, Int.reduceEq, Int.reduceSub, Int.reduceAdd, Int.reduceToNat, Int.reduceNeg, h0, h1, h2, h9, h10, h11, e1, hlt, within_eq, hw, e2, wr64 ((i : Int) + 1) (by omega)]
          refine ⟨_, ?_, i + 1, rfl, by omega, ?_, ?_⟩
          · omega
          · intro j hj
            have hji : j = i := by omega
            subst hji; simp only [riseAt, hw, Bool.true_and, Bool.or_eq_true, decide_eq_true_eq]; omega
          · simp
      · simp only [Bool.not_eq_true] at hw
        have e6 : rises xs lo hi = false := allUp_false hlt (by simp only [riseAt, hw, Bool.false_and])
        simp only [↓xpre, xpost, yset, Option.bind_some, Option.map_some, Option.isSome_some, ↓reduceIte, Nat.reduceEqDiff, Nat.reduceLT, Nat.reduceLeDiff, Nat.reduceAdd, Nat.reduceMul, Nat.reduceMod, Nat.reduceSub, List.contains_cons, List.contains_nil, Nat.reduceBEq, List.getD_cons_zero, List.getD_cons_succ, List.getD_nil, List.length_cons, List.length_nil, List.size_toArray, List.toList_toArray, List.zip_cons_cons, List.zip_nil_left, List.append_nil, List.nil_append, List.cons_append, List.map_cons, List.map_nil, List.replicate_succ, List.replicate_zero, List.set_cons_zero, List.set_cons_succ, List.set_set, List.all_cons, List.all_nil, List.getElem?_cons_zero, List.getElem?_cons_succ, List.getElem?_nil, List.range_zero, beq_self_eq_true, Int.reduceLE, Int.reduceLT, Int.reduceEq, Int.reduceSub, Int.reduceAdd, Int.reduceToNat, Int.reduceNeg, h0, h1, h2, h9, h10, h11, e1, hlt, within_eq, hw, e6]
    · have e1 : ¬ (i : Int) < (xs.length : Int) := by omega
      have e6 : rises xs lo hi = true := allUp_true (fun j hj => hp j (by omega))
      simp only [↓xpre, xpost, yset, Option.bind_some, Option.map_some, Option.isSome_some, ↓reduceIte, Nat.reduceEqDiff, Nat.reduceLT, Nat.reduceLeDiff, Nat.reduceAdd, Nat.reduceMul, Nat.reduceMod, Nat.reduceSub, List.contains_cons, List.contains_nil, Nat.reduceBEq, List.getD_cons_zero, List.getD_cons_succ, List.getD_nil, List.length_cons, List.length_nil, List.size_toArray, List.toList_toArray, List.zip_cons_cons, List.zip_nil_left, List.append_nil, List.nil_append, List.cons_append, List.map_cons, List.map_nil, List.replicate_succ, List.replicate_zero, List.set_cons_zero, List.set_cons_succ, List.set_set, List.all_cons, List.all_nil, List.getElem?_cons_zero, List.getElem?_cons_succ, List.getElem?_nil, List.range_zero, beq_self_eq_true, Int.reduceLE, Int.reduceLT, Int.reduceEq, Int.reduceSub, Int.reduceAdd, Int.reduceToNat, Int.reduceNeg, h0, h1, h2, h9, h10, h11, e1, e6]

/-- The number of a set of labels. -/
def setNum (xs : List Int) : Int := xs.foldl (fun s a => s + 2 ^ a.toNat) 0
theorem setNum_snoc (xs : List Int) (a : Int) : setNum (xs ++ [a]) = setNum xs + 2 ^ a.toNat := by simp [setNum]
theorem shl_small (a : Int) (h : 0 ≤ a ∧ a ≤ 7) : IntKind.i64.wrap (1 * 2 ^ (min a.toNat IntKind.i64.bits)) = 2 ^ a.toNat := by
  have : a = 0 ∨ a = 1 ∨ a = 2 ∨ a = 3 ∨ a = 4 ∨ a = 5 ∨ a = 6 ∨ a = 7 := by omega
  rcases this with rfl | rfl | rfl | rfl | rfl | rfl | rfl | rfl <;> decide
theorem or_small : ∀ (a : Fin 8) (s : Fin 256), s.val < 2 ^ a.val → bitsD .or .i64 (s.val : Int) (2 ^ a.val) = (s.val : Int) + 2 ^ a.val := by decide +kernel
theorem or_pow (a s : Int) (ha : 0 ≤ a ∧ a ≤ 7) (hs : 0 ≤ s ∧ s < 2 ^ a.toNat) : bitsD .or .i64 s (2 ^ a.toNat) = s + 2 ^ a.toNat := by
  have h8 : (2 : Int) ^ a.toNat ≤ 128 := by
    have : a = 0 ∨ a = 1 ∨ a = 2 ∨ a = 3 ∨ a = 4 ∨ a = 5 ∨ a = 6 ∨ a = 7 := by omega
    rcases this with rfl | rfl | rfl | rfl | rfl | rfl | rfl | rfl <;> decide
  have h1 := or_small ⟨a.toNat, by omega⟩ ⟨s.toNat, by omega⟩ (by
    simp only
    have : ((s.toNat : Nat) : Int) < ((2 ^ a.toNat : Nat) : Int) := by push_cast; omega
    omega)
  simp only at h1
  have h2 : ((s.toNat : Nat) : Int) = s := by omega
  rw [h2] at h1
  exact h1
theorem pow_mono {a b : Nat} (h : a ≤ b) : (2 : Int) ^ a ≤ 2 ^ b := by
  have := Nat.pow_le_pow_right (n := 2) (by decide) h
  exact_mod_cast this
/-- The labels before a place make a small number. -/
theorem setNum_take (xs : List Int) (hr : rises xs 0 7 = true) : ∀ i, i ≤ xs.length → 0 ≤ setNum (xs.take i) ∧ (0 < i → setNum (xs.take i) < 2 ^ ((xs.getD (i - 1) 0).toNat + 1)) ∧ (i < xs.length → setNum (xs.take i) < 2 ^ (xs.getD i 0).toNat) := by
  intro i
  induction i with
  | zero =>
    intro _
    refine ⟨by simp [setNum], by simp, fun _ => ?_⟩
    simp only [List.take_zero, setNum, List.foldl_nil]
    exact Int.pow_pos (by decide)
  | succ i ih =>
    intro hi
    obtain ⟨h1, _, h3⟩ := ih (by omega)
    have h3 := h3 (by omega)
    have hs : setNum (xs.take (i + 1)) = setNum (xs.take i) + 2 ^ (xs.getD i 0).toNat := by
      rw [List.take_succ_eq_append_getElem (by omega), setNum_snoc, List.getD_eq_getElem?_getD, List.getElem?_eq_getElem (by omega)]; rfl
    have hp : (0 : Int) < 2 ^ (xs.getD i 0).toNat := Int.pow_pos (by decide)
    have h4 : setNum (xs.take (i + 1)) < 2 ^ ((xs.getD i 0).toNat + 1) := by rw [hs, Int.pow_succ]; omega
    refine ⟨by rw [hs]; omega, fun _ => by simpa using h4, fun hlt => ?_⟩
    have ra := allUp_get hr i (by omega)
    have rb := allUp_get hr (i + 1) hlt
    simp only [riseAt, Bool.and_eq_true, Bool.or_eq_true, decide_eq_true_eq, Nat.add_sub_cancel] at ra rb
    refine Int.lt_of_lt_of_le h4 ?_
    exact pow_mono (by omega)
theorem rise_bounds (xs : List Int) (hr : rises xs 0 7 = true) (i : Nat) (hi : i < xs.length) : 0 ≤ xs.getD i 0 ∧ xs.getD i 0 ≤ 7 := by
  have := allUp_get hr i hi
  simp only [riseAt, Bool.and_eq_true, decide_eq_true_eq] at this
  exact this.1
theorem take_getD (xs : List Int) (i : Nat) (h : i < xs.length) : xs.take (i + 1) = xs.take i ++ [xs.getD i 0] := by
  rw [List.take_succ_eq_append_getElem h, List.getD_eq_getElem?_getD, List.getElem?_eq_getElem h]; rfl
theorem pow_small (a : Int) (h : 0 ≤ a ∧ a ≤ 7) : (2 : Int) ^ a.toNat ≤ 128 := by
  have : a = 0 ∨ a = 1 ∨ a = 2 ∨ a = 3 ∨ a = 4 ∨ a = 5 ∨ a = 6 ∨ a = 7 := by omega
  rcases this with rfl | rfl | rfl | rfl | rfl | rfl | rfl | rfl <;> decide
theorem setOf_eq (xs : List Int) (h : xs.length < 1099511627776) (hr : rises xs 0 7 = true) : Y.call 49 [.sl 3 (ints xs)] [] = some (.int .i64 (setNum xs), []) := by
  refine c49 ?_ rfl
  unfold k49
  simp only [↓xpre, xpost, yset, Option.bind_some, Option.map_some, Option.isSome_some, ↓reduceIte, Nat.reduceEqDiff, Nat.reduceLT, Nat.reduceLeDiff, Nat.reduceAdd, Nat.reduceMul, Nat.reduceMod, Nat.reduceSub, List.contains_cons, List.contains_nil, Nat.reduceBEq, List.getD_cons_zero, List.getD_cons_succ, List.getD_nil, List.length_cons, List.length_nil, List.size_toArray, List.toList_toArray, List.zip_cons_cons, List.zip_nil_left, List.append_nil, List.nil_append, List.cons_append, List.map_cons, List.map_nil, List.replicate_succ, List.replicate_zero, List.set_cons_zero, List.set_cons_succ, List.set_set, List.all_cons, List.all_nil, List.getElem?_cons_zero, List.getElem?_cons_succ, List.getElem?_nil, List.range_zero, beq_self_eq_true, Int.reduceLE, Int.reduceLT, Int.reduceEq, Int.reduceSub, Int.reduceAdd, Int.reduceToNat, Int.reduceNeg]
  refine wd_loop (fun n s => ∃ i : Nat, n = xs.length - i ∧ i ≤ xs.length ∧ s.v 3 = .int .i64 (setNum (xs.take i)) ∧ s.v 6 = .sl 3 (ints xs) ∧ s.v 7 = .int .i64 xs.length ∧ s.v 8 = .int .i64 i) xs.length ⟨0, by simp, by simp, ?_⟩ ?_
  · simp only [↓xpre, xpost, yset, Option.bind_some, Option.map_some, Option.isSome_some, ↓reduceIte, Nat.reduceEqDiff, Nat.reduceLT, Nat.reduceLeDiff, Nat.reduceAdd, Nat.reduceMul, Nat.reduceMod, Nat.reduceSub, List.contains_cons, List.contains_nil, Nat.reduceBEq, List.getD_cons_zero, List.getD_cons_succ, List.getD_nil, List.length_cons, List.length_nil, List.size_toArray, List.toList_toArray, List.zip_cons_cons, List.zip_nil_left, List.append_nil, List.nil_append, List.cons_append, List.map_cons, List.map_nil, List.replicate_succ, List.replicate_zero, List.set_cons_zero, List.set_cons_succ, List.set_set, List.all_cons, List.all_nil, List.getElem?_cons_zero, List.getElem?_cons_succ, List.getElem?_nil, List.range_zero, beq_self_eq_true, Int.reduceLE, Int.reduceLT, Int.reduceEq, Int.reduceSub, Int.reduceAdd, Int.reduceToNat, Int.reduceNeg]
    simp [setNum]
  · rintro n s ⟨i, hn, hi, h3, h6, h7, h8⟩
    by_cases hlt : i < xs.length
    · have e1 : (i : Int) < (xs.length : Int) := by omega
      have hb := rise_bounds xs hr i hlt
      have hq := setNum_take xs hr i hi
      have e2 : ¬ xs.getD i 0 < 0 := by omega
      simp only [↓xpre, xpost, yset, Option.bind_some, Option.map_some, Option.isSome_some, ↓reduceIte, Nat.reduceEqDiff, Nat.reduceLT, Nat.reduceLeDiff, Nat.reduceAdd, Nat.reduceMul, Nat.reduceMod, Nat.reduceSub, List.contains_cons, List.contains_nil, Nat.reduceBEq, List.getD_cons_zero, List.getD_cons_succ, List.getD_nil, List.length_cons, List.length_nil, List.size_toArray, List.toList_toArray, List.zip_cons_cons, List.zip_nil_left, List.append_nil, List.nil_append, List.cons_append, List.map_cons, List.map_nil, List.replicate_succ, List.replicate_zero, List.set_cons_zero, List.set_cons_succ, List.set_set, List.all_cons, List.all_nil, List.getElem?_cons_zero, List.getElem?_cons_succ, List.getElem?_nil, List.range_zero, beq_self_eq_true, Int.reduceLE, Int.reduceLT, Int.reduceEq, Int.reduceSub, Int.reduceAdd, Int.reduceToNat, Int.reduceNeg, h3, h6, h7, h8, e1, hlt, e2, shl_small _ hb, or_pow _ _ hb ⟨hq.1, hq.2.2 hlt⟩, wr64 ((i : Int) + 1) (by omega)]
      refine ⟨_, ?_, i + 1, rfl, by omega, ?_, ?_⟩
      · omega
      · rw [take_getD xs i hlt, setNum_snoc]
      · simp
    · have e1 : ¬ (i : Int) < (xs.length : Int) := by omega
      have e2 : i = xs.length := by omega
      subst e2
      simp only [↓xpre, xpost, yset, Option.bind_some, Option.map_some, Option.isSome_some, ↓reduceIte, Nat.reduceEqDiff, Nat.reduceLT, Nat.reduceLeDiff, Nat.reduceAdd, Nat.reduceMul, Nat.reduceMod, Nat.reduceSub, List.contains_cons, List.contains_nil, Nat.reduceBEq, List.getD_cons_zero, List.getD_cons_succ, List.getD_nil, List.length_cons, List.length_nil, List.size_toArray, List.toList_toArray, List.zip_cons_cons, List.zip_nil_left, List.append_nil, List.nil_append, List.cons_append, List.map_cons, List.map_nil, List.replicate_succ, List.replicate_zero, List.set_cons_zero, List.set_cons_succ, List.set_set, List.all_cons, List.all_nil, List.getElem?_cons_zero, List.getElem?_cons_succ, List.getElem?_nil, List.range_zero, beq_self_eq_true, Int.reduceLE, Int.reduceLT, Int.reduceEq, Int.reduceSub, Int.reduceAdd, Int.reduceToNat, Int.reduceNeg, h3, h6, h7, h8, e1]
      simp
def setD (xs : List Int) : D := if rises xs 0 7 then .tup [.int .i64 (setNum xs), .bool true] else .tup [.int .i64 0, .bool false]
theorem setOfLabelsI_eq (xs : List Int) (h : xs.length < 1099511627776) : Y.call 18 [.sl 3 (ints xs)] [] = some (setD xs, []) := by
  refine c18 ?_ rfl
  unfold k18 setD
  cases hr : rises xs 0 7 with
  | true => simp only [↓xpre, xpost, yset, Option.bind_some, Option.map_some, Option.isSome_some, ↓reduceIte, Nat.reduceEqDiff, Nat.reduceLT, Nat.reduceLeDiff, Nat.reduceAdd, Nat.reduceMul, Nat.reduceMod, Nat.reduceSub, List.contains_cons, List.contains_nil, Nat.reduceBEq, List.getD_cons_zero, List.getD_cons_succ, List.getD_nil, List.length_cons, List.length_nil, List.size_toArray, List.toList_toArray, List.zip_cons_cons, List.zip_nil_left, List.append_nil, List.nil_append, List.cons_append, List.map_cons, List.map_nil, List.replicate_succ, List.replicate_zero, List.set_cons_zero, List.set_cons_succ, List.set_set, List.all_cons, List.all_nil, List.getElem?_cons_zero, List.getElem?_cons_succ, List.getElem?_nil, List.range_zero, beq_self_eq_true, Int.reduceLE, Int.reduceLT, Int.reduceEq, Int.reduceSub, Int.reduceAdd, Int.reduceToNat, Int.reduceNeg, increasing_eq xs 0 7 h, hr, setOf_eq xs h hr]
  | false => simp only [↓xpre, xpost, yset, Option.bind_some, Option.map_some, Option.isSome_some, ↓reduceIte, Nat.reduceEqDiff, Nat.reduceLT, Nat.reduceLeDiff, Nat.reduceAdd, Nat.reduceMul, Nat.reduceMod, Nat.reduceSub, List.contains_cons, List.contains_nil, Nat.reduceBEq, List.getD_cons_zero, List.getD_cons_succ, List.getD_nil, List.length_cons, List.length_nil, List.size_toArray, List.toList_toArray, List.zip_cons_cons, List.zip_nil_left, List.append_nil, List.nil_append, List.cons_append, List.map_cons, List.map_nil, List.replicate_succ, List.replicate_zero, List.set_cons_zero, List.set_cons_succ, List.set_set, List.all_cons, List.all_nil, List.getElem?_cons_zero, List.getElem?_cons_succ, List.getElem?_nil, List.range_zero, beq_self_eq_true, Int.reduceLE, Int.reduceLT, Int.reduceEq, Int.reduceSub, Int.reduceAdd, Int.reduceToNat, Int.reduceNeg, increasing_eq xs 0 7 h, hr]
theorem setOfLabelsS_eq (xs : List Int) (h : xs.length < 1099511627776) : Y.call 16 [.sl 3 (ints xs)] [] = some (setD xs, []) := by
  refine c16 ?_ rfl
  unfold k16 setD
  cases hr : rises xs 0 7 with
  | true =>
    simp only [↓xpre, xpost, yset, Option.bind_some, Option.map_some, Option.isSome_some, ↓reduceIte, Nat.reduceEqDiff, Nat.reduceLT, Nat.reduceLeDiff, Nat.reduceAdd, Nat.reduceMul, Nat.reduceMod, Nat.reduceSub, List.contains_cons, List.contains_nil, Nat.reduceBEq, List.getD_cons_zero, List.getD_cons_succ, List.getD_nil, List.length_cons, List.length_nil, List.size_toArray, List.toList_toArray, List.zip_cons_cons, List.zip_nil_left, List.append_nil, List.nil_append, List.cons_append, List.map_cons, List.map_nil, List.replicate_succ, List.replicate_zero, List.set_cons_zero, List.set_cons_succ, List.set_set, List.all_cons, List.all_nil, List.getElem?_cons_zero, List.getElem?_cons_succ, List.getElem?_nil, List.range_zero, beq_self_eq_true, Int.reduceLE, Int.reduceLT, Int.reduceEq, Int.reduceSub, Int.reduceAdd, Int.reduceToNat, Int.reduceNeg, l1Rising_eq xs 0 7 h, hr]
    refine wd_loop (fun n s => ∃ i : Nat, n = xs.length - i ∧ i ≤ xs.length ∧ s.v 4 = .int .i64 (setNum (xs.take i)) ∧ s.v 10 = .sl 3 (ints xs) ∧ s.v 11 = .int .i64 xs.length ∧ s.v 12 = .int .i64 i) xs.length ⟨0, by simp, by simp, ?_⟩ ?_
    · simp only [↓xpre, xpost, yset, Option.bind_some, Option.map_some, Option.isSome_some, ↓reduceIte, Nat.reduceEqDiff, Nat.reduceLT, Nat.reduceLeDiff, Nat.reduceAdd, Nat.reduceMul, Nat.reduceMod, Nat.reduceSub, List.contains_cons, List.contains_nil, Nat.reduceBEq, List.getD_cons_zero, List.getD_cons_succ, List.getD_nil, List.length_cons, List.length_nil, List.size_toArray, List.toList_toArray, List.zip_cons_cons, List.zip_nil_left, List.append_nil, List.nil_append, List.cons_append, List.map_cons, List.map_nil, List.replicate_succ, List.replicate_zero, List.set_cons_zero, List.set_cons_succ, List.set_set, List.all_cons, List.all_nil, List.getElem?_cons_zero, List.getElem?_cons_succ, List.getElem?_nil, List.range_zero, beq_self_eq_true, Int.reduceLE, Int.reduceLT, Int.reduceEq, Int.reduceSub, Int.reduceAdd, Int.reduceToNat, Int.reduceNeg]
      simp [setNum]
    · rintro n s ⟨i, hn, hi, h4, h10, h11, h12⟩
      by_cases hlt : i < xs.length
      · have e1 : (i : Int) < (xs.length : Int) := by omega
        have hb := rise_bounds xs hr i hlt
        have hq := setNum_take xs hr i hi
        have e2 : ¬ xs.getD i 0 < 0 := by omega
        have e3 := pow_small _ hb
        have e4 := hq.2.2 hlt
        have e5 := hq.1
        simp only [↓xpre, xpost, yset, Option.bind_some, Option.map_some, Option.isSome_some, ↓reduceIte, Nat.reduceEqDiff, Nat.reduceLT, Nat.reduceLeDiff, Nat.reduceAdd, Nat.reduceMul, Nat.reduceMod, Nat.reduceSub, List.contains_cons, List.contains_nil, Nat.reduceBEq, List.getD_cons_zero, List.getD_cons_succ, List.getD_nil, List.length_cons, List.length_nil, List.size_toArray, List.toList_toArray, List.zip_cons_cons, List.zip_nil_left, List.append_nil, List.nil_append, List.cons_append, List.map_cons, List.map_nil, List.replicate_succ, List.replicate_zero, List.set_cons_zero, List.set_cons_succ, List.set_set, List.all_cons, List.all_nil, List.getElem?_cons_zero, List.getElem?_cons_succ, List.getElem?_nil, List.range_zero, beq_self_eq_true, Int.reduceLE, Int.reduceLT, Int.reduceEq, Int.reduceSub, Int.reduceAdd, Int.reduceToNat, Int.reduceNeg, h4, h10, h11, h12, e1, hlt, e2, shl_small _ hb, wr64 (setNum (xs.take i) + 2 ^ (xs.getD i 0).toNat) (by omega), wr64 ((i : Int) + 1) (by omega)]
        refine ⟨_, ?_, i + 1, rfl, by omega, ?_, ?_⟩
        · omega
        · rw [take_getD xs i hlt, setNum_snoc]
        · simp
      · have e1 : ¬ (i : Int) < (xs.length : Int) := by omega
        have e2 : i = xs.length := by omega
        subst e2
        simp only [↓xpre, xpost, yset, Option.bind_some, Option.map_some, Option.isSome_some, ↓reduceIte, Nat.reduceEqDiff, Nat.reduceLT, Nat.reduceLeDiff, Nat.reduceAdd, Nat.reduceMul, Nat.reduceMod, Nat.reduceSub, List.contains_cons, List.contains_nil, Nat.reduceBEq, List.getD_cons_zero, List.getD_cons_succ, List.getD_nil, List.length_cons, List.length_nil, List.size_toArray, List.toList_toArray, List.zip_cons_cons, List.zip_nil_left, List.append_nil, List.nil_append, List.cons_append, List.map_cons, List.map_nil, List.replicate_succ, List.replicate_zero, List.set_cons_zero, List.set_cons_succ, List.set_set, List.all_cons, List.all_nil, List.getElem?_cons_zero, List.getElem?_cons_succ, List.getElem?_nil, List.range_zero, beq_self_eq_true, Int.reduceLE, Int.reduceLT, Int.reduceEq, Int.reduceSub, Int.reduceAdd, Int.reduceToNat, Int.reduceNeg, h4, h10, h11, h12, e1]
        simp
  | false => simp only [↓xpre, xpost, yset, Option.bind_some, Option.map_some, Option.isSome_some, ↓reduceIte, Nat.reduceEqDiff, Nat.reduceLT, Nat.reduceLeDiff, Nat.reduceAdd, Nat.reduceMul, Nat.reduceMod, Nat.reduceSub, List.contains_cons, List.contains_nil, Nat.reduceBEq, List.getD_cons_zero, List.getD_cons_succ, List.getD_nil, List.length_cons, List.length_nil, List.size_toArray, List.toList_toArray, List.zip_cons_cons, List.zip_nil_left, List.append_nil, List.nil_append, List.cons_append, List.map_cons, List.map_nil, List.replicate_succ, List.replicate_zero, List.set_cons_zero, List.set_cons_succ, List.set_set, List.all_cons, List.all_nil, List.getElem?_cons_zero, List.getElem?_cons_succ, List.getElem?_nil, List.range_zero, beq_self_eq_true, Int.reduceLE, Int.reduceLT, Int.reduceEq, Int.reduceSub, Int.reduceAdd, Int.reduceToNat, Int.reduceNeg, l1Rising_eq xs 0 7 h, hr]

end Go.Proofs.Ythaimoghceamnaa
