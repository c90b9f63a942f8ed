/- Sizes, copies and comparisons of problems. Conditions: the lists are short. -/
import Derived.Test.YthaimoghceamnaaProb
namespace Go.Proofs.Ythaimoghceamnaa
open Go Dv
set_option linter.unusedSimpArgs false
set_option linter.unusedVariables false
set_option maxRecDepth 100000

/-- laws.szIntS -/
def k77 : SC :=
  .seq
    (.ops [
      ⟨(some 4), (Op.assign (Operand.const (Value.int IntKind.i64 0))), 3, none⟩])
    (.seq
      (.ops [
        ⟨(some 5), (Op.move (Operand.tmp 1)), 3, none⟩,
        ⟨(some 6), (Op.move (Operand.tmp 0)), 25, none⟩,
        ⟨(some 7), (Op.call { callee := (Callee.builtin Builtin.len), args := #[(Operand.tmp 6)], argTypes := #[25] }), 3, none⟩,
        ⟨(some 8), (Op.binOp BinOp.sub 3 (Operand.tmp 5) (Operand.tmp 7) 3), 3, none⟩,
        ⟨(some 1), (Op.assign (Operand.tmp 8)), 3, none⟩])
      (.seq
        (.seq
          (.ops [
            ⟨(some 9), (Op.move (Operand.tmp 1)), 3, none⟩,
            ⟨(some 10), (Op.binOp BinOp.lss 3 (Operand.tmp 9) (Operand.const (Value.int IntKind.i64 0)) 3), 4, none⟩])
          (.cond (Operand.tmp 10)
            (.seq
              (.ops [
                ⟨(some 4), (Op.assign (Operand.const (Value.int IntKind.i64 (-1)))), 3, none⟩])
              .ret)
            .skip))
        (.seq
          (.ops [
            ⟨(some 11), (Op.move (Operand.tmp 1)), 3, none⟩,
            ⟨(some 4), (Op.assign (Operand.tmp 11)), 3, none⟩])
          .ret)))
theorem slim77 : Try.f77.body.map (slim lends) = some k77 := by kernel_rfl
theorem ok77 : fnOk Try.f77 2 = true := by kernel_rfl
theorem c77 {a l : List D} {r : D × List D} (h : wpD Y.env k77 (fin tys l.length [ResultVar.tmp 4] r) (entry a l)) (ha : a.length = 2) : Y.call 77 a l = some r :=
  call_slim (Y := Y) rfl Try.func77 (ha ▸ ok77) slim77 h

/-- laws.szIntSS -/
def k54 : SC :=
  .seq
    (.ops [
      ⟨(some 4), (Op.assign (Operand.const (Value.int IntKind.i64 0))), 3, none⟩])
    (.seq
      (.ops [
        ⟨(some 6), (Op.move (Operand.tmp 1)), 3, none⟩,
        ⟨(some 7), (Op.move (Operand.tmp 0)), 34, none⟩,
        ⟨(some 8), (Op.call { callee := (Callee.builtin Builtin.len), args := #[(Operand.tmp 7)], argTypes := #[34] }), 3, none⟩,
        ⟨(some 9), (Op.binOp BinOp.sub 3 (Operand.tmp 6) (Operand.tmp 8) 3), 3, none⟩,
        ⟨(some 1), (Op.assign (Operand.tmp 9)), 3, none⟩])
      (.seq
        (.seq
          (.ops [
            ⟨(some 10), (Op.move (Operand.tmp 1)), 3, none⟩,
            ⟨(some 11), (Op.binOp BinOp.lss 3 (Operand.tmp 10) (Operand.const (Value.int IntKind.i64 0)) 3), 4, none⟩])
          (.cond (Operand.tmp 11)
            (.seq
              (.ops [
                ⟨(some 4), (Op.assign (Operand.const (Value.int IntKind.i64 (-1)))), 3, none⟩])
              .ret)
            .skip))
        (.seq
          (.seq
            (.ops [
              ⟨(some 5), (Op.assign (Operand.const (Value.int IntKind.i64 0))), 3, none⟩])
            (.block 0
              (.loop
                (.seq
                  (.seq
                    (.ops [
                      ⟨(some 12), (Op.move (Operand.tmp 5)), 3, none⟩,
                      ⟨(some 13), (Op.move (Operand.tmp 0)), 34, none⟩,
                      ⟨(some 14), (Op.call { callee := (Callee.builtin Builtin.len), args := #[(Operand.tmp 13)], argTypes := #[34] }), 3, none⟩,
                      ⟨(some 15), (Op.binOp BinOp.lss 3 (Operand.tmp 12) (Operand.tmp 14) 3), 4, none⟩])
                    (.cond (Operand.tmp 15)
                      .skip
                      (.exit 0)))
                  (.seq
                    (.block 1
                      (.seq
                        (.ops [
                          ⟨(some 18), (Op.move (Operand.tmp 0)), 34, none⟩,
                          ⟨(some 19), (Op.move (Operand.tmp 5)), 3, none⟩,
                          ⟨(some 20), (Op.indexAddr 34 (Operand.tmp 18) (Operand.tmp 19)), 0, none⟩,
                          ⟨(some 21), (Op.load 25 (Operand.tmp 20)), 25, none⟩,
                          ⟨(some 22), (Op.move (Operand.tmp 1)), 3, none⟩,
                          ⟨(some 23), (Op.call { callee := (Callee.value (Operand.func 77)), args := #[(Operand.tmp 21), (Operand.tmp 22)], argTypes := #[25, 3] }), 3, none⟩,
                          ⟨(some 1), (Op.assign (Operand.tmp 23)), 3, none⟩])
                        (.seq
                          (.ops [
                            ⟨(some 24), (Op.move (Operand.tmp 1)), 3, none⟩,
                            ⟨(some 25), (Op.binOp BinOp.lss 3 (Operand.tmp 24) (Operand.const (Value.int IntKind.i64 0)) 3), 4, none⟩])
                          (.cond (Operand.tmp 25)
                            (.seq
                              (.ops [
                                ⟨(some 4), (Op.assign (Operand.const (Value.int IntKind.i64 (-1)))), 3, none⟩])
                              .ret)
                            .skip))))
                    (.ops [
                      ⟨(some 16), (Op.move (Operand.tmp 5)), 3, none⟩,
                      ⟨(some 17), (Op.binOp BinOp.add 3 (Operand.tmp 16) (Operand.const (Value.int IntKind.i64 1)) 3), 3, none⟩,
                      ⟨(some 5), (Op.assign (Operand.tmp 17)), 3, none⟩]))))))
          (.seq
            (.ops [
              ⟨(some 26), (Op.move (Operand.tmp 1)), 3, none⟩,
              ⟨(some 4), (Op.assign (Operand.tmp 26)), 3, none⟩])
            .ret))))
theorem slim54 : Try.f54.body.map (slim lends) = some k54 := by kernel_rfl
theorem ok54 : fnOk Try.f54 2 = true := by kernel_rfl
theorem c54 {a l : List D} {r : D × List D} (h : wpD Y.env k54 (fin tys l.length [ResultVar.tmp 4] r) (entry a l)) (ha : a.length = 2) : Y.call 54 a l = some r :=
  call_slim (Y := Y) rfl Try.func54 (ha ▸ ok54) slim54 h

/-- laws.szProblem -/
def k24 : SC :=
  .seq
    (.ops [
      ⟨(some 2), (Op.box 36 (Operand.tmp 0)), 0, none⟩,
      ⟨(some 4), (Op.assign (Operand.const (Value.int IntKind.i64 0))), 3, none⟩])
    (.seq
      (.ops [
        ⟨(some 5), (Op.fieldAddr 36 (Operand.tmp 2) 2), 0, none⟩,
        ⟨(some 6), (Op.load 34 (Operand.tmp 5)), 34, none⟩,
        ⟨(some 7), (Op.move (Operand.tmp 1)), 3, none⟩,
        ⟨(some 8), (Op.call { callee := (Callee.value (Operand.func 54)), args := #[(Operand.tmp 6), (Operand.tmp 7)], argTypes := #[34, 3] }), 3, none⟩,
        ⟨(some 1), (Op.assign (Operand.tmp 8)), 3, none⟩])
      (.seq
        (.seq
          (.ops [
            ⟨(some 9), (Op.move (Operand.tmp 1)), 3, none⟩,
            ⟨(some 10), (Op.binOp BinOp.lss 3 (Operand.tmp 9) (Operand.const (Value.int IntKind.i64 0)) 3), 4, none⟩])
          (.cond (Operand.tmp 10)
            (.seq
              (.ops [
                ⟨(some 4), (Op.assign (Operand.const (Value.int IntKind.i64 (-1)))), 3, none⟩])
              .ret)
            .skip))
        (.seq
          (.ops [
            ⟨(some 11), (Op.fieldAddr 36 (Operand.tmp 2) 3), 0, none⟩,
            ⟨(some 12), (Op.load 34 (Operand.tmp 11)), 34, none⟩,
            ⟨(some 13), (Op.move (Operand.tmp 1)), 3, none⟩,
            ⟨(some 14), (Op.call { callee := (Callee.value (Operand.func 54)), args := #[(Operand.tmp 12), (Operand.tmp 13)], argTypes := #[34, 3] }), 3, none⟩,
            ⟨(some 1), (Op.assign (Operand.tmp 14)), 3, none⟩])
          (.seq
            (.seq
              (.ops [
                ⟨(some 15), (Op.move (Operand.tmp 1)), 3, none⟩,
                ⟨(some 16), (Op.binOp BinOp.lss 3 (Operand.tmp 15) (Operand.const (Value.int IntKind.i64 0)) 3), 4, none⟩])
              (.cond (Operand.tmp 16)
                (.seq
                  (.ops [
                    ⟨(some 4), (Op.assign (Operand.const (Value.int IntKind.i64 (-1)))), 3, none⟩])
                  .ret)
                .skip))
            (.seq
              (.ops [
                ⟨(some 17), (Op.move (Operand.tmp 1)), 3, none⟩,
                ⟨(some 4), (Op.assign (Operand.tmp 17)), 3, none⟩])
              .ret)))))
theorem slim24 : Try.f24.body.map (slim lends) = some k24 := by kernel_rfl
theorem ok24 : fnOk Try.f24 2 = true := by kernel_rfl
theorem c24 {a l : List D} {r : D × List D} (h : wpD Y.env k24 (fin tys l.length [ResultVar.tmp 4] r) (entry a l)) (ha : a.length = 2) : Y.call 24 a l = some r :=
  call_slim (Y := Y) rfl Try.func24 (ha ▸ ok24) slim24 h

/-- laws.toIntSS -/
def k56 : SC :=
  .seq
    (.ops [
      ⟨(some 2), (Op.assign (Operand.const (Value.slice none 0 0))), 34, none⟩])
    (.seq
      (.ops [
        ⟨(some 5), (Op.move (Operand.tmp 0)), 34, none⟩,
        ⟨(some 6), (Op.call { callee := (Callee.builtin Builtin.len), args := #[(Operand.tmp 5)], argTypes := #[34] }), 3, none⟩,
        ⟨(some 7), (Op.makeSlice 34 (Operand.tmp 6) (Operand.tmp 6)), 34, none⟩,
        ⟨(some 3), (Op.assign (Operand.tmp 7)), 34, none⟩])
      (.seq
        (.seq
          (.ops [
            ⟨(some 4), (Op.assign (Operand.const (Value.int IntKind.i64 0))), 3, none⟩])
          (.block 0
            (.loop
              (.seq
                (.seq
                  (.ops [
                    ⟨(some 8), (Op.move (Operand.tmp 4)), 3, none⟩,
                    ⟨(some 9), (Op.move (Operand.tmp 0)), 34, none⟩,
                    ⟨(some 10), (Op.call { callee := (Callee.builtin Builtin.len), args := #[(Operand.tmp 9)], argTypes := #[34] }), 3, none⟩,
                    ⟨(some 11), (Op.binOp BinOp.lss 3 (Operand.tmp 8) (Operand.tmp 10) 3), 4, none⟩])
                  (.cond (Operand.tmp 11)
                    .skip
                    (.exit 0)))
                (.seq
                  (.block 1
                    (.ops [
                      ⟨(some 14), (Op.move (Operand.tmp 3)), 34, none⟩,
                      ⟨(some 15), (Op.move (Operand.tmp 4)), 3, none⟩,
                      ⟨(some 16), (Op.move (Operand.tmp 0)), 34, none⟩,
                      ⟨(some 17), (Op.move (Operand.tmp 4)), 3, none⟩,
                      ⟨(some 18), (Op.indexAddr 34 (Operand.tmp 16) (Operand.tmp 17)), 0, none⟩,
                      ⟨(some 19), (Op.load 25 (Operand.tmp 18)), 25, none⟩,
                      ⟨(some 20), (Op.call { callee := (Callee.value (Operand.func 17)), args := #[(Operand.tmp 19)], argTypes := #[25] }), 25, none⟩,
                      ⟨(some 21), (Op.indexAddr 34 (Operand.tmp 14) (Operand.tmp 15)), 0, none⟩,
                      ⟨none, (Op.store 25 (Operand.tmp 21) (Operand.tmp 20)), 0, none⟩]))
                  (.ops [
                    ⟨(some 12), (Op.move (Operand.tmp 4)), 3, none⟩,
                    ⟨(some 13), (Op.binOp BinOp.add 3 (Operand.tmp 12) (Operand.const (Value.int IntKind.i64 1)) 3), 3, none⟩,
                    ⟨(some 4), (Op.assign (Operand.tmp 13)), 3, none⟩]))))))
        (.seq
          (.ops [
            ⟨(some 22), (Op.move (Operand.tmp 3)), 34, none⟩,
            ⟨(some 2), (Op.assign (Operand.tmp 22)), 34, none⟩])
          .ret)))
theorem slim56 : Try.f56.body.map (slim lends) = some k56 := by kernel_rfl
theorem ok56 : fnOk Try.f56 1 = true := by kernel_rfl
theorem c56 {a l : List D} {r : D × List D} (h : wpD Y.env k56 (fin tys l.length [ResultVar.tmp 2] r) (entry a l)) (ha : a.length = 1) : Y.call 56 a l = some r :=
  call_slim (Y := Y) rfl Try.func56 (ha ▸ ok56) slim56 h

/-- laws.toProblem -/
def k26 : SC :=
  .seq
    (.ops [
      ⟨(some 1), (Op.box 36 (Operand.tmp 0)), 0, none⟩,
      ⟨(some 2), (Op.alloc 39), 0, none⟩])
    (.seq
      (.ops [
        ⟨(some 3), (Op.alloc 39), 0, none⟩])
      (.seq
        (.ops [
          ⟨(some 4), (Op.fieldAddr 36 (Operand.tmp 1) 0), 0, none⟩,
          ⟨(some 5), (Op.load 3 (Operand.tmp 4)), 3, none⟩,
          ⟨(some 6), (Op.fieldAddr 39 (Operand.tmp 3) 0), 0, none⟩,
          ⟨none, (Op.store 3 (Operand.tmp 6) (Operand.tmp 5)), 0, none⟩])
        (.seq
          (.ops [
            ⟨(some 7), (Op.fieldAddr 36 (Operand.tmp 1) 1), 0, none⟩,
            ⟨(some 8), (Op.load 3 (Operand.tmp 7)), 3, none⟩,
            ⟨(some 9), (Op.fieldAddr 39 (Operand.tmp 3) 1), 0, none⟩,
            ⟨none, (Op.store 3 (Operand.tmp 9) (Operand.tmp 8)), 0, none⟩])
          (.seq
            (.ops [
              ⟨(some 10), (Op.fieldAddr 36 (Operand.tmp 1) 2), 0, none⟩,
              ⟨(some 11), (Op.load 34 (Operand.tmp 10)), 34, none⟩,
              ⟨(some 12), (Op.call { callee := (Callee.value (Operand.func 56)), args := #[(Operand.tmp 11)], argTypes := #[34] }), 34, none⟩,
              ⟨(some 13), (Op.fieldAddr 39 (Operand.tmp 3) 2), 0, none⟩,
              ⟨none, (Op.store 34 (Operand.tmp 13) (Operand.tmp 12)), 0, none⟩])
            (.seq
              (.ops [
                ⟨(some 14), (Op.fieldAddr 36 (Operand.tmp 1) 3), 0, none⟩,
                ⟨(some 15), (Op.load 34 (Operand.tmp 14)), 34, none⟩,
                ⟨(some 16), (Op.call { callee := (Callee.value (Operand.func 56)), args := #[(Operand.tmp 15)], argTypes := #[34] }), 34, none⟩,
                ⟨(some 17), (Op.fieldAddr 39 (Operand.tmp 3) 3), 0, none⟩,
                ⟨none, (Op.store 34 (Operand.tmp 17) (Operand.tmp 16)), 0, none⟩])
              (.seq
                (.ops [
                  ⟨(some 18), (Op.load 39 (Operand.tmp 3)), 39, none⟩,
                  ⟨none, (Op.store 39 (Operand.tmp 2) (Operand.tmp 18)), 0, none⟩])
                .ret))))))
theorem slim26 : Try.f26.body.map (slim lends) = some k26 := by kernel_rfl
theorem ok26 : fnOk Try.f26 1 = true := by kernel_rfl
theorem c26 {a l : List D} {r : D × List D} (h : wpD Y.env k26 (fin tys l.length [ResultVar.cell 2 39] r) (entry a l)) (ha : a.length = 1) : Y.call 26 a l = some r :=
  call_slim (Y := Y) rfl Try.func26 (ha ▸ ok26) slim26 h

/-- laws.eqIntSS -/
def k58 : SC :=
  .seq
    (.ops [
      ⟨(some 4), (Op.assign (Operand.const (Value.bool false))), 4, none⟩])
    (.seq
      (.seq
        (.ops [
          ⟨(some 6), (Op.move (Operand.tmp 0)), 34, none⟩,
          ⟨(some 7), (Op.call { callee := (Callee.builtin Builtin.len), args := #[(Operand.tmp 6)], argTypes := #[34] }), 3, none⟩,
          ⟨(some 8), (Op.move (Operand.tmp 1)), 34, none⟩,
          ⟨(some 9), (Op.call { callee := (Callee.builtin Builtin.len), args := #[(Operand.tmp 8)], argTypes := #[34] }), 3, none⟩,
          ⟨(some 10), (Op.binOp BinOp.neq 3 (Operand.tmp 7) (Operand.tmp 9) 3), 4, none⟩])
        (.cond (Operand.tmp 10)
          (.seq
            (.ops [
              ⟨(some 4), (Op.assign (Operand.const (Value.bool false))), 4, none⟩])
            .ret)
          .skip))
      (.seq
        (.seq
          (.ops [
            ⟨(some 5), (Op.assign (Operand.const (Value.int IntKind.i64 0))), 3, none⟩])
          (.block 0
            (.loop
              (.seq
                (.seq
                  (.ops [
                    ⟨(some 11), (Op.move (Operand.tmp 5)), 3, none⟩,
                    ⟨(some 12), (Op.move (Operand.tmp 0)), 34, none⟩,
                    ⟨(some 13), (Op.call { callee := (Callee.builtin Builtin.len), args := #[(Operand.tmp 12)], argTypes := #[34] }), 3, none⟩,
                    ⟨(some 14), (Op.binOp BinOp.lss 3 (Operand.tmp 11) (Operand.tmp 13) 3), 4, none⟩])
                  (.cond (Operand.tmp 14)
                    .skip
                    (.exit 0)))
                (.seq
                  (.block 1
                    (.seq
                      (.draws [
                        (⟨[17, 0, 0], [17, 18, 19, 20, 21, 22, 23, 24, 25, 26], [17]⟩, ⟨(some 17), (Op.move (Operand.tmp 0)), 34, none⟩),
                        (⟨[18, 5, 5], [17, 18, 19, 20, 21, 22, 23, 24, 25, 26], [18]⟩, ⟨(some 18), (Op.move (Operand.tmp 5)), 3, none⟩),
                        (⟨[19, 17, 18, 0, 5], [17, 18, 19, 20, 21, 22, 23, 24, 25, 26], [19]⟩, ⟨(some 19), (Op.indexAddr 34 (Operand.tmp 17) (Operand.tmp 18)), 0, none⟩),
                        (⟨[20, 19, 0], [17, 18, 19, 20, 21, 22, 23, 24, 25, 26], [20]⟩, ⟨(some 20), (Op.load 25 (Operand.tmp 19)), 25, none⟩),
                        (⟨[21, 1, 1], [17, 18, 19, 20, 21, 22, 23, 24, 25, 26], [21]⟩, ⟨(some 21), (Op.move (Operand.tmp 1)), 34, none⟩),
                        (⟨[22, 5, 5], [17, 18, 19, 20, 21, 22, 23, 24, 25, 26], [22]⟩, ⟨(some 22), (Op.move (Operand.tmp 5)), 3, none⟩),
                        (⟨[23, 21, 22, 1, 5], [17, 18, 19, 20, 21, 22, 23, 24, 25, 26], [23]⟩, ⟨(some 23), (Op.indexAddr 34 (Operand.tmp 21) (Operand.tmp 22)), 0, none⟩),
                        (⟨[24, 23, 1], [17, 18, 19, 20, 21, 22, 23, 24, 25, 26], [24]⟩, ⟨(some 24), (Op.load 25 (Operand.tmp 23)), 25, none⟩),
                        (⟨[25, 20, 24, 0, 1], [17, 18, 19, 20, 21, 22, 23, 24, 25, 26], [25]⟩, ⟨(some 25), (Op.call { callee := (Callee.value (Operand.func 19)), args := #[(Operand.tmp 20), (Operand.tmp 24)], argTypes := #[25, 25] }), 4, none⟩),
                        (⟨[26, 25, 25], [17, 18, 19, 20, 21, 22, 23, 24, 25, 26], [26]⟩, ⟨(some 26), (Op.unOp UnOp.not 4 (Operand.tmp 25)), 4, none⟩)])
                      (.cond (Operand.tmp 26)
                        (.seq
                          (.ops [
                            ⟨(some 4), (Op.assign (Operand.const (Value.bool false))), 4, none⟩])
                          .ret)
                        .skip)))
                  (.ops [
                    ⟨(some 15), (Op.move (Operand.tmp 5)), 3, none⟩,
                    ⟨(some 16), (Op.binOp BinOp.add 3 (Operand.tmp 15) (Operand.const (Value.int IntKind.i64 1)) 3), 3, none⟩,
                    ⟨(some 5), (Op.assign (Operand.tmp 16)), 3, none⟩]))))))
        (.seq
          (.ops [
            ⟨(some 4), (Op.assign (Operand.const (Value.bool true))), 4, none⟩])
          .ret)))
theorem slim58 : Try.f58.body.map (slim lends) = some k58 := by kernel_rfl
theorem ok58 : fnOk Try.f58 2 = true := by kernel_rfl
theorem c58 {a l : List D} {r : D × List D} (h : wpD Y.env k58 (fin tys l.length [ResultVar.tmp 4] r) (entry a l)) (ha : a.length = 2) : Y.call 58 a l = some r :=
  call_slim (Y := Y) rfl Try.func58 (ha ▸ ok58) slim58 h

/-- laws.eqProblem -/
def k28 : SC :=
  .seq
    (.ops [
      ⟨(some 2), (Op.box 39 (Operand.tmp 0)), 0, none⟩,
      ⟨(some 3), (Op.box 39 (Operand.tmp 1)), 0, none⟩,
      ⟨(some 4), (Op.assign (Operand.const (Value.bool false))), 4, none⟩])
    (.seq
      (.seq
        (.ops [
          ⟨(some 5), (Op.fieldAddr 39 (Operand.tmp 2) 0), 0, none⟩,
          ⟨(some 6), (Op.load 3 (Operand.tmp 5)), 3, none⟩,
          ⟨(some 7), (Op.fieldAddr 39 (Operand.tmp 3) 0), 0, none⟩,
          ⟨(some 8), (Op.load 3 (Operand.tmp 7)), 3, none⟩,
          ⟨(some 9), (Op.binOp BinOp.neq 3 (Operand.tmp 6) (Operand.tmp 8) 3), 4, none⟩])
        (.cond (Operand.tmp 9)
          (.seq
            (.ops [
              ⟨(some 4), (Op.assign (Operand.const (Value.bool false))), 4, none⟩])
            .ret)
          .skip))
      (.seq
        (.seq
          (.ops [
            ⟨(some 10), (Op.fieldAddr 39 (Operand.tmp 2) 1), 0, none⟩,
            ⟨(some 11), (Op.load 3 (Operand.tmp 10)), 3, none⟩,
            ⟨(some 12), (Op.fieldAddr 39 (Operand.tmp 3) 1), 0, none⟩,
            ⟨(some 13), (Op.load 3 (Operand.tmp 12)), 3, none⟩,
            ⟨(some 14), (Op.binOp BinOp.neq 3 (Operand.tmp 11) (Operand.tmp 13) 3), 4, none⟩])
          (.cond (Operand.tmp 14)
            (.seq
              (.ops [
                ⟨(some 4), (Op.assign (Operand.const (Value.bool false))), 4, none⟩])
              .ret)
            .skip))
        (.seq
          (.seq
            (.ops [
              ⟨(some 15), (Op.fieldAddr 39 (Operand.tmp 2) 2), 0, none⟩,
              ⟨(some 16), (Op.load 34 (Operand.tmp 15)), 34, none⟩,
              ⟨(some 17), (Op.fieldAddr 39 (Operand.tmp 3) 2), 0, none⟩,
              ⟨(some 18), (Op.load 34 (Operand.tmp 17)), 34, none⟩,
              ⟨(some 19), (Op.call { callee := (Callee.value (Operand.func 58)), args := #[(Operand.tmp 16), (Operand.tmp 18)], argTypes := #[34, 34] }), 4, none⟩,
              ⟨(some 20), (Op.unOp UnOp.not 4 (Operand.tmp 19)), 4, none⟩])
            (.cond (Operand.tmp 20)
              (.seq
                (.ops [
                  ⟨(some 4), (Op.assign (Operand.const (Value.bool false))), 4, none⟩])
                .ret)
              .skip))
          (.seq
            (.seq
              (.ops [
                ⟨(some 21), (Op.fieldAddr 39 (Operand.tmp 2) 3), 0, none⟩,
                ⟨(some 22), (Op.load 34 (Operand.tmp 21)), 34, none⟩,
                ⟨(some 23), (Op.fieldAddr 39 (Operand.tmp 3) 3), 0, none⟩,
                ⟨(some 24), (Op.load 34 (Operand.tmp 23)), 34, none⟩,
                ⟨(some 25), (Op.call { callee := (Callee.value (Operand.func 58)), args := #[(Operand.tmp 22), (Operand.tmp 24)], argTypes := #[34, 34] }), 4, none⟩,
                ⟨(some 26), (Op.unOp UnOp.not 4 (Operand.tmp 25)), 4, none⟩])
              (.cond (Operand.tmp 26)
                (.seq
                  (.ops [
                    ⟨(some 4), (Op.assign (Operand.const (Value.bool false))), 4, none⟩])
                  .ret)
                .skip))
            (.seq
              (.ops [
                ⟨(some 4), (Op.assign (Operand.const (Value.bool true))), 4, none⟩])
              .ret)))))
theorem slim28 : Try.f28.body.map (slim lends) = some k28 := by kernel_rfl
theorem ok28 : fnOk Try.f28 2 = true := by kernel_rfl
theorem c28 {a l : List D} {r : D × List D} (h : wpD Y.env k28 (fin tys l.length [ResultVar.tmp 4] r) (entry a l)) (ha : a.length = 2) : Y.call 28 a l = some r :=
  call_slim (Y := Y) rfl Try.func28 (ha ▸ ok28) slim28 h

def szN (left n : Int) : Int := if left - n < 0 then -1 else left - n
theorem szIntS_eq (xs : List Int) (left : Int) (hl : 0 ≤ left ∧ left ≤ 1048576) (hx : xs.length ≤ maxLen) : Y.call 77 [.sl 3 (ints xs), .int .i64 left] [] = some (.int .i64 (szN left xs.length), []) := by
  have hm : maxLen = 9223372036854775807 := by decide
  refine c77 ?_ rfl
  unfold k77 szN
  by_cases h1 : left - (xs.length : Int) < 0 <;> simp only [↓xpre, xpost, yset, Option.bind_some, Option.map_some, Option.isSome_some, ↓reduceIte, Nat.reduceEqDiff, Nat.reduceLT, Nat.reduceLeDiff, Nat.reduceAdd, Nat.reduceMul, Nat.reduceMod, Nat.reduceSub, List.contains_cons, List.contains_nil, Nat.reduceBEq, List.getD_cons_zero, List.getD_cons_succ, List.getD_nil, List.length_cons, List.length_nil, List.size_toArray, List.toList_toArray, List.zip_cons_cons, List.zip_nil_left, List.append_nil, List.nil_append, List.cons_append, List.map_cons, List.map_nil, List.replicate_succ, List.replicate_zero, List.set_cons_zero, List.set_cons_succ, List.set_set, List.all_cons, List.all_nil, List.getElem?_cons_zero, List.getElem?_cons_succ, List.getElem?_nil, List.range_zero, beq_self_eq_true, Int.reduceLE, Int.reduceLT, Int.reduceEq, Int.reduceSub, Int.reduceAdd, Int.reduceToNat, Int.reduceNeg, wr64 (left - (xs.length : Int)) (by omega), h1]
/-- The lengths of lists together. -/
def tot (l : List (List Int)) : Int := (l.map fun xs => (xs.length : Int)).sum
theorem tot_nil : tot [] = 0 := rfl
theorem tot_cons (x : List Int) (l : List (List Int)) : tot (x :: l) = x.length + tot l := rfl
theorem tot_append (a b : List (List Int)) : tot (a ++ b) = tot a + tot b := by simp [tot]
theorem tot_nonneg (l : List (List Int)) : 0 ≤ tot l := by
  induction l with
  | nil => exact Int.le_refl _
  | cons x l ih => rw [tot_cons]; omega
theorem tot_take (l : List (List Int)) (i : Nat) (h : i < l.length) : tot (l.take (i + 1)) = tot (l.take i) + (l.getD i []).length := by
  rw [List.take_succ_eq_append_getElem h, tot_append, tot_cons, tot_nil, List.getD_eq_getElem?_getD, List.getElem?_eq_getElem h]; simp
theorem tot_split (l : List (List Int)) (i : Nat) : tot l = tot (l.take i) + tot (l.drop i) := by rw [← tot_append, List.take_append_drop]
theorem tot_mem {l : List (List Int)} {x : List Int} (h : x ∈ l) : (x.length : Int) ≤ tot l := by
  induction l with
  | nil => cases h
  | cons y l ih =>
    rw [tot_cons]
    have := tot_nonneg l
    rcases List.mem_cons.1 h with rfl | h
    · omega
    · have := ih h; omega
theorem szIntSS_eq (l : List (List Int)) (left : Int) (hl : 0 ≤ left ∧ left ≤ 1048576) (hx : Numss l) : Y.call 54 [.sl 25 (sls 3 l), .int .i64 left] [] = some (.int .i64 (szN left (l.length + tot l)), []) := by
  have hm : maxLen = 9223372036854775807 := by decide
  have hx1 := hx.1
  have htn := tot_nonneg l
  refine c54 ?_ rfl
  unfold k54
  by_cases h1 : left - (l.length : Int) < 0
  · have e : szN left (l.length + tot l) = -1 := by unfold szN; rw [if_pos (by omega)]
    simp only [↓xpre, xpost, yset, Option.bind_some, Option.map_some, Option.isSome_some, ↓reduceIte, Nat.reduceEqDiff, Nat.reduceLT, Nat.reduceLeDiff, Nat.reduceAdd, Nat.reduceMul, Nat.reduceMod, Nat.reduceSub, List.contains_cons, List.contains_nil, Nat.reduceBEq, List.getD_cons_zero, List.getD_cons_succ, List.getD_nil, List.length_cons, List.length_nil, List.size_toArray, List.toList_toArray, List.zip_cons_cons, List.zip_nil_left, List.append_nil, List.nil_append, List.cons_append, List.map_cons, List.map_nil, List.replicate_succ, List.replicate_zero, List.set_cons_zero, List.set_cons_succ, List.set_set, List.all_cons, List.all_nil, List.getElem?_cons_zero, List.getElem?_cons_succ, List.getElem?_nil, List.range_zero, beq_self_eq_true, Int.reduceLE, Int.reduceLT, Int.reduceEq, Int.reduceSub, Int.reduceAdd, Int.reduceToNat, Int.reduceNeg, wr64 (left - (l.length : Int)) (by omega), h1, e]
  · simp only [↓xpre, xpost, yset, Option.bind_some, Option.map_some, Option.isSome_some, ↓reduceIte, Nat.reduceEqDiff, Nat.reduceLT, Nat.reduceLeDiff, Nat.reduceAdd, Nat.reduceMul, Nat.reduceMod, Nat.reduceSub, List.contains_cons, List.contains_nil, Nat.reduceBEq, List.getD_cons_zero, List.getD_cons_succ, List.getD_nil, List.length_cons, List.length_nil, List.size_toArray, List.toList_toArray, List.zip_cons_cons, List.zip_nil_left, List.append_nil, List.nil_append, List.cons_append, List.map_cons, List.map_nil, List.replicate_succ, List.replicate_zero, List.set_cons_zero, List.set_cons_succ, List.set_set, List.all_cons, List.all_nil, List.getElem?_cons_zero, List.getElem?_cons_succ, List.getElem?_nil, List.range_zero, beq_self_eq_true, Int.reduceLE, Int.reduceLT, Int.reduceEq, Int.reduceSub, Int.reduceAdd, Int.reduceToNat, Int.reduceNeg, wr64 (left - (l.length : Int)) (by omega), h1]
    refine wd_loop (fun n s => ∃ i : Nat, n = l.length - i ∧ i ≤ l.length ∧ 0 ≤ left - l.length - tot (l.take i) ∧ s.v 0 = .sl 25 (sls 3 l) ∧ s.v 1 = .int .i64 (left - l.length - tot (l.take i)) ∧ s.v 5 = .int .i64 i) l.length ⟨0, by simp, by simp, by simp [tot_nil]; omega, ?_⟩ ?_
    · simp only [↓xpre, xpost, yset, Option.bind_some, Option.map_some, Option.isSome_some, ↓reduceIte, Nat.reduceEqDiff, Nat.reduceLT, Nat.reduceLeDiff, Nat.reduceAdd, Nat.reduceMul, Nat.reduceMod, Nat.reduceSub, List.contains_cons, List.contains_nil, Nat.reduceBEq, List.getD_cons_zero, List.getD_cons_succ, List.getD_nil, List.length_cons, List.length_nil, List.size_toArray, List.toList_toArray, List.zip_cons_cons, List.zip_nil_left, List.append_nil, List.nil_append, List.cons_append, List.map_cons, List.map_nil, List.replicate_succ, List.replicate_zero, List.set_cons_zero, List.set_cons_succ, List.set_set, List.all_cons, List.all_nil, List.getElem?_cons_zero, List.getElem?_cons_succ, List.getElem?_nil, List.range_zero, beq_self_eq_true, Int.reduceLE, Int.reduceLT, Int.reduceEq, Int.reduceSub, Int.reduceAdd, Int.reduceToNat, Int.reduceNeg]
      simp [tot_nil]
    · rintro n s ⟨i, hn, hi, hr, h0, h1', h5⟩
      by_cases hlt : i < l.length
      · have e1 : (i : Int) < (l.length : Int) := by omega
        have hti := tot_nonneg (l.take i)
        have hmem : l.getD i [] ∈ l := by rw [List.getD_eq_getElem?_getD, List.getElem?_eq_getElem hlt]; exact List.getElem_mem hlt
        have hz := szIntS_eq (l.getD i []) (left - l.length - tot (l.take i)) (by omega) (hx.2 _ hmem).1
        have htt := tot_take l i hlt
        have htn' := tot_nonneg (l.drop (i + 1))
        have hts := tot_split l (i + 1)
        by_cases hq : left - l.length - tot (l.take i) - ((l.getD i []).length : Int) < 0
        · have e2 : szN (left - l.length - tot (l.take i)) (l.getD i []).length = -1 := by unfold szN; rw [if_pos hq]
          have e3 : szN left (l.length + tot l) = -1 := by unfold szN; rw [if_pos (by omega)]
          simp only [↓xpre, xpost, yset, Option.bind_some, Option.map_some, Option.isSome_some, ↓reduceIte, Nat.reduceEqDiff, Nat.reduceLT, Nat.reduceLeDiff, Nat.reduceAdd, Nat.reduceMul, Nat.reduceMod, Nat.reduceSub, List.contains_cons, List.contains_nil, Nat.reduceBEq, List.getD_cons_zero, List.getD_cons_succ, List.getD_nil, List.length_cons, List.length_nil, List.size_toArray, List.toList_toArray, List.zip_cons_cons, List.zip_nil_left, List.append_nil, List.nil_append, List.cons_append, List.map_cons, List.map_nil, List.replicate_succ, List.replicate_zero, List.set_cons_zero, List.set_cons_succ, List.set_set, List.all_cons, List.all_nil, List.getElem?_cons_zero, List.getElem?_cons_succ, List.getElem?_nil, List.range_zero, beq_self_eq_true, Int.reduceLE, Int.reduceLT, Int.reduceEq, Int.reduceSub, Int.reduceAdd, Int.reduceToNat, Int.reduceNeg, h0, h1', h5, e1, hlt, hz, e2, e3]
        · have e2 : szN (left - l.length - tot (l.take i)) (l.getD i []).length = left - l.length - tot (l.take (i + 1)) := by unfold szN; rw [if_neg hq]; omega
          have e4 : ¬ left - l.length - tot (l.take (i + 1)) < 0 := by omega
          simp only [↓xpre, xpost, yset, Option.bind_some, Option.map_some, Option.isSome_some, ↓reduceIte, Nat.reduceEqDiff, Nat.reduceLT, Nat.reduceLeDiff, Nat.reduceAdd, Nat.reduceMul, Nat.reduceMod, Nat.reduceSub, List.contains_cons, List.contains_nil, Nat.reduceBEq, List.getD_cons_zero, List.getD_cons_succ, List.getD_nil, List.length_cons, List.length_nil, List.size_toArray, List.toList_toArray, List.zip_cons_cons, List.zip_nil_left, List.append_nil, List.nil_append, List.cons_append, List.map_cons, List.map_nil, List.replicate_succ, List.replicate_zero, List.set_cons_zero, List.set_cons_succ, List.set_set, List.all_cons, List.all_nil, List.getElem?_cons_zero, List.getElem?_cons_succ, List.getElem?_nil, List.range_zero, beq_self_eq_true, Int.reduceLE, Int.reduceLT, Int.reduceEq, Int.reduceSub, Int.reduceAdd, Int.reduceToNat, Int.reduceNeg, h0, h1', h5, e1, hlt, hz, e2, e4, wr64 ((i : Int) + 1) (by omega)]
          refine ⟨_, ?_, i + 1, rfl, by omega, by omega, ?_⟩
          · omega
          · simp
      · have e1 : ¬ (i : Int) < (l.length : Int) := by omega
        have e2 : i = l.length := by omega
        subst e2
        rw [List.take_length] at hr h1'
        have e3 : szN left (l.length + tot l) = left - l.length - tot l := by unfold szN; rw [if_neg (by omega)]; omega
        simp only [↓xpre, xpost, yset, Option.bind_some, Option.map_some, Option.isSome_some, ↓reduceIte, Nat.reduceEqDiff, Nat.reduceLT, Nat.reduceLeDiff, Nat.reduceAdd, Nat.reduceMul, Nat.reduceMod, Nat.reduceSub, List.contains_cons, List.contains_nil, Nat.reduceBEq, List.getD_cons_zero, List.getD_cons_succ, List.getD_nil, List.length_cons, List.length_nil, List.size_toArray, List.toList_toArray, List.zip_cons_cons, List.zip_nil_left, List.append_nil, List.nil_append, List.cons_append, List.map_cons, List.map_nil, List.replicate_succ, List.replicate_zero, List.set_cons_zero, List.set_cons_succ, List.set_set, List.all_cons, List.all_nil, List.getElem?_cons_zero, List.getElem?_cons_succ, List.getElem?_nil, List.range_zero, beq_self_eq_true, Int.reduceLE, Int.reduceLT, Int.reduceEq, Int.reduceSub, Int.reduceAdd, Int.reduceToNat, Int.reduceNeg, h0, h1', h5, e1, e3]
def szP (left : Int) (ns es : List (List Int)) : Int := if szN left (ns.length + tot ns) < 0 then -1 else szN (szN left (ns.length + tot ns)) (es.length + tot es)
theorem szN_cases (left n : Int) : szN left n = -1 ∨ (szN left n = left - n ∧ 0 ≤ left - n) := by unfold szN; split <;> omega
theorem szProblem_eq (labels degree : Int) (ns es : List (List Int)) (left : Int) (hl : 0 ≤ left ∧ left ≤ 1048576) (hn : Numss ns) (he : Numss es) : Y.call 24 [probD labels degree ns es, .int .i64 left] [] = some (.int .i64 (szP left ns es), []) := by
  refine c24 ?_ rfl
  unfold k24 probD szP
  have h1 := szIntSS_eq ns left hl hn
  have t1 := tot_nonneg ns
  have t2 := tot_nonneg es
  rcases szN_cases left (ns.length + tot ns) with c | ⟨c, c'⟩
  · rw [c] at h1 ⊢
    simp only [↓xpre, xpost, yset, Option.bind_some, Option.map_some, Option.isSome_some, ↓reduceIte, Nat.reduceEqDiff, Nat.reduceLT, Nat.reduceLeDiff, Nat.reduceAdd, Nat.reduceMul, Nat.reduceMod, Nat.reduceSub, List.contains_cons, List.contains_nil, Nat.reduceBEq, List.getD_cons_zero, List.getD_cons_succ, List.getD_nil, List.length_cons, List.length_nil, List.size_toArray, List.toList_toArray, List.zip_cons_cons, List.zip_nil_left, List.append_nil, List.nil_append, List.cons_append, List.map_cons, List.map_nil, List.replicate_succ, List.replicate_zero, List.set_cons_zero, List.set_cons_succ, List.set_set, List.all_cons, List.all_nil, List.getElem?_cons_zero, List.getElem?_cons_succ, List.getElem?_nil, List.range_zero, beq_self_eq_true, Int.reduceLE, Int.reduceLT, Int.reduceEq, Int.reduceSub, Int.reduceAdd, Int.reduceToNat, Int.reduceNeg, h1]
  · have q : ¬ left - (ns.length + tot ns) < 0 := by omega
    have h2 := szIntSS_eq es (left - (ns.length + tot ns)) (by omega) he
    rw [c] at h1 ⊢
    rcases szN_cases (left - (ns.length + tot ns)) (es.length + tot es) with d | ⟨d, d'⟩
    · rw [d] at h2
      simp only [↓xpre, xpost, yset, Option.bind_some, Option.map_some, Option.isSome_some, ↓reduceIte, Nat.reduceEqDiff, Nat.reduceLT, Nat.reduceLeDiff, Nat.reduceAdd, Nat.reduceMul, Nat.reduceMod, Nat.reduceSub, List.contains_cons, List.contains_nil, Nat.reduceBEq, List.getD_cons_zero, List.getD_cons_succ, List.getD_nil, List.length_cons, List.length_nil, List.size_toArray, List.toList_toArray, List.zip_cons_cons, List.zip_nil_left, List.append_nil, List.nil_append, List.cons_append, List.map_cons, List.map_nil, List.replicate_succ, List.replicate_zero, List.set_cons_zero, List.set_cons_succ, List.set_set, List.all_cons, List.all_nil, List.getElem?_cons_zero, List.getElem?_cons_succ, List.getElem?_nil, List.range_zero, beq_self_eq_true, Int.reduceLE, Int.reduceLT, Int.reduceEq, Int.reduceSub, Int.reduceAdd, Int.reduceToNat, Int.reduceNeg, h1, q, h2, d]
    · have q2 : ¬ left - (ns.length + tot ns) - (es.length + tot es) < 0 := by omega
      rw [d] at h2
      simp only [↓xpre, xpost, yset, Option.bind_some, Option.map_some, Option.isSome_some, ↓reduceIte, Nat.reduceEqDiff, Nat.reduceLT, Nat.reduceLeDiff, Nat.reduceAdd, Nat.reduceMul, Nat.reduceMod, Nat.reduceSub, List.contains_cons, List.contains_nil, Nat.reduceBEq, List.getD_cons_zero, List.getD_cons_succ, List.getD_nil, List.length_cons, List.length_nil, List.size_toArray, List.toList_toArray, List.zip_cons_cons, List.zip_nil_left, List.append_nil, List.nil_append, List.cons_append, List.map_cons, List.map_nil, List.replicate_succ, List.replicate_zero, List.set_cons_zero, List.set_cons_succ, List.set_set, List.all_cons, List.all_nil, List.getElem?_cons_zero, List.getElem?_cons_succ, List.getElem?_nil, List.range_zero, beq_self_eq_true, Int.reduceLE, Int.reduceLT, Int.reduceEq, Int.reduceSub, Int.reduceAdd, Int.reduceToNat, Int.reduceNeg, h1, q, h2, d, q2]
/-- What is small enough is short. -/
theorem szP_short {ns es : List (List Int)} (h : ¬ szP 1048576 ns es < 0) : ns.length + tot ns + es.length + tot es ≤ 1048576 ∧ Short ns ∧ Short es := by
  have t1 := tot_nonneg ns
  have t2 := tot_nonneg es
  unfold szP at h
  have key : (ns.length : Int) + tot ns + es.length + tot es ≤ 1048576 := by
    rcases szN_cases 1048576 (ns.length + tot ns) with c | ⟨c, c'⟩
    · rw [c] at h; simp at h
    · rw [c, if_neg (by omega)] at h
      rcases szN_cases (1048576 - (ns.length + tot ns)) (es.length + tot es) with d | ⟨d, d'⟩
      · rw [d] at h; simp at h
      · omega
  refine ⟨key, ⟨by omega, fun xs hx => ?_⟩, ⟨by omega, fun xs hx => ?_⟩⟩
  · have := tot_mem hx; omega
  · have := tot_mem hx; omega
theorem owns_rep (e : TypeId) (n : Nat) : List.replicate n (D.own e []) = owns e (List.replicate n []) := by simp [owns, ints]
theorem set_midL (l : List (List Int)) (i : Nat) (h : i < l.length) : (l.take i ++ List.replicate (l.length - i) []).set i (l.getD i []) = l.take (i + 1) ++ List.replicate (l.length - (i + 1)) [] := by
  have e : l.length - i = (l.length - (i + 1)) + 1 := by omega
  rw [e, List.replicate_succ, List.set_append_right _ _ (by simp; omega), List.take_succ_eq_append_getElem h]
  have : i - (l.take i).length = 0 := by simp; omega
  rw [this, List.set_cons_zero, List.getD_eq_getElem?_getD, List.getElem?_eq_getElem h]
  simp only [Option.getD_some, List.append_assoc, List.singleton_append]
theorem toIntSS_eq (l : List (List Int)) (h : Short l) : Y.call 56 [.sl 25 (sls 3 l)] [] = some (.own 25 (owns 3 l), []) := by
  refine c56 ?_ rfl
  unfold k56
  have hh := h.1
  have h1 : (l.length : Int) < 1099511627776 := by omega
  simp only [↓xpre, xpost, yset, Option.bind_some, Option.map_some, Option.isSome_some, ↓reduceIte, Nat.reduceEqDiff, Nat.reduceLT, Nat.reduceLeDiff, Nat.reduceAdd, Nat.reduceMul, Nat.reduceMod, Nat.reduceSub, List.contains_cons, List.contains_nil, Nat.reduceBEq, List.getD_cons_zero, List.getD_cons_succ, List.getD_nil, List.length_cons, List.length_nil, List.size_toArray, List.toList_toArray, List.zip_cons_cons, List.zip_nil_left, List.append_nil, List.nil_append, List.cons_append, List.map_cons, List.map_nil, List.replicate_succ, List.replicate_zero, List.set_cons_zero, List.set_cons_succ, List.set_set, List.all_cons, List.all_nil, List.getElem?_cons_zero, List.getElem?_cons_succ, List.getElem?_nil, List.range_zero, beq_self_eq_true, Int.reduceLE, Int.reduceLT, Int.reduceEq, Int.reduceSub, Int.reduceAdd, Int.reduceToNat, Int.reduceNeg, h1, owns_rep]
  refine wd_loop (fun n s => ∃ i, n = l.length - i ∧ i ≤ l.length ∧ s.v 0 = .sl 25 (sls 3 l) ∧ s.v 3 = .own 25 (owns 3 (l.take i ++ List.replicate (l.length - i) [])) ∧ s.v 4 = .int .i64 i) l.length ⟨0, by simp, by simp, ?_⟩ ?_
  · simp only [↓xpre, xpost, yset, Option.bind_some, Option.map_some, Option.isSome_some, ↓reduceIte, Nat.reduceEqDiff, Nat.reduceLT, Nat.reduceLeDiff, Nat.reduceAdd, Nat.reduceMul, Nat.reduceMod, Nat.reduceSub, List.contains_cons, List.contains_nil, Nat.reduceBEq, List.getD_cons_zero, List.getD_cons_succ, List.getD_nil, List.length_cons, List.length_nil, List.size_toArray, List.toList_toArray, List.zip_cons_cons, List.zip_nil_left, List.append_nil, List.nil_append, List.cons_append, List.map_cons, List.map_nil, List.replicate_succ, List.replicate_zero, List.set_cons_zero, List.set_cons_succ, List.set_set, List.all_cons, List.all_nil, List.getElem?_cons_zero, List.getElem?_cons_succ, List.getElem?_nil, List.range_zero, beq_self_eq_true, Int.reduceLE, Int.reduceLT, Int.reduceEq, Int.reduceSub, Int.reduceAdd, Int.reduceToNat, Int.reduceNeg]
    simp
  · rintro n s ⟨i, hn, hi, h0, h3, h4⟩
    by_cases hlt : i < l.length
    · have e1 : (i : Int) < (l.length : Int) := by omega
      have e2 : i < (l.take i ++ List.replicate (l.length - i) []).length := by simp; omega
      simp only [↓xpre, xpost, yset, Option.bind_some, Option.map_some, Option.isSome_some, ↓reduceIte, Nat.reduceEqDiff, Nat.reduceLT, Nat.reduceLeDiff, Nat.reduceAdd, Nat.reduceMul, Nat.reduceMod, Nat.reduceSub, List.contains_cons, List.contains_nil, Nat.reduceBEq, List.getD_cons_zero, List.getD_cons_succ, List.getD_nil, List.length_cons, List.length_nil, List.size_toArray, List.toList_toArray, List.zip_cons_cons, List.zip_nil_left, List.append_nil, List.nil_append, List.cons_append, List.map_cons, List.map_nil, List.replicate_succ, List.replicate_zero, List.set_cons_zero, List.set_cons_succ, List.set_set, List.all_cons, List.all_nil, List.getElem?_cons_zero, List.getElem?_cons_succ, List.getElem?_nil, List.range_zero, beq_self_eq_true, Int.reduceLE, Int.reduceLT, Int.reduceEq, Int.reduceSub, Int.reduceAdd, Int.reduceToNat, Int.reduceNeg, h0, h3, h4, e1, e2, hlt, toIntS_eq _ (h.at i), wr64 ((i : Int) + 1) (by omega)]
      refine ⟨_, ?_, i + 1, rfl, by omega, ?_, ?_⟩
      · omega
      · rw [set_midL l i hlt]
      · simp
    · have e1 : ¬ (i : Int) < (l.length : Int) := by omega
      have e2 : i = l.length := by omega
      subst e2
      simp only [↓xpre, xpost, yset, Option.bind_some, Option.map_some, Option.isSome_some, ↓reduceIte, Nat.reduceEqDiff, Nat.reduceLT, Nat.reduceLeDiff, Nat.reduceAdd, Nat.reduceMul, Nat.reduceMod, Nat.reduceSub, List.contains_cons, List.contains_nil, Nat.reduceBEq, List.getD_cons_zero, List.getD_cons_succ, List.getD_nil, List.length_cons, List.length_nil, List.size_toArray, List.toList_toArray, List.zip_cons_cons, List.zip_nil_left, List.append_nil, List.nil_append, List.cons_append, List.map_cons, List.map_nil, List.replicate_succ, List.replicate_zero, List.set_cons_zero, List.set_cons_succ, List.set_set, List.all_cons, List.all_nil, List.getElem?_cons_zero, List.getElem?_cons_succ, List.getElem?_nil, List.range_zero, beq_self_eq_true, Int.reduceLE, Int.reduceLT, Int.reduceEq, Int.reduceSub, Int.reduceAdd, Int.reduceToNat, Int.reduceNeg, h0, h3, h4, e1]
      simp
theorem toProblem_eq (labels degree : Int) (ns es : List (List Int)) (hn : Short ns) (he : Short es) : Y.call 26 [probD labels degree ns es] [] = some (probO labels degree ns es, []) := by
  refine c26 ?_ rfl
  unfold k26 probD probO
  simp only [↓xpre, xpost, yset, Option.bind_some, Option.map_some, Option.isSome_some, ↓reduceIte, Nat.reduceEqDiff, Nat.reduceLT, Nat.reduceLeDiff, Nat.reduceAdd, Nat.reduceMul, Nat.reduceMod, Nat.reduceSub, List.contains_cons, List.contains_nil, Nat.reduceBEq, List.getD_cons_zero, List.getD_cons_succ, List.getD_nil, List.length_cons, List.length_nil, List.size_toArray, List.toList_toArray, List.zip_cons_cons, List.zip_nil_left, List.append_nil, List.nil_append, List.cons_append, List.map_cons, List.map_nil, List.replicate_succ, List.replicate_zero, List.set_cons_zero, List.set_cons_succ, List.set_set, List.all_cons, List.all_nil, List.getElem?_cons_zero, List.getElem?_cons_succ, List.getElem?_nil, List.range_zero, beq_self_eq_true, Int.reduceLE, Int.reduceLT, Int.reduceEq, Int.reduceSub, Int.reduceAdd, Int.reduceToNat, Int.reduceNeg, toIntSS_eq ns hn, toIntSS_eq es he]
theorem eqIntSS_eq (xs ys : List (List Int)) (hx : Short xs) (hy : Short ys) : Y.call 58 [.sl 25 (sls 3 xs), .sl 25 (sls 3 ys)] [] = some (.bool (decide (xs = ys)), []) := by
  refine c58 ?_ rfl
  unfold k58
  have hx1 := hx.1
  by_cases hl : xs.length = ys.length
  · have e0 : (xs.length : Int) = (ys.length : Int) := by omega
    simp only [↓xpre, xpost, yset, Option.bind_some, Option.map_some, Option.isSome_some, ↓reduceIte, Nat.reduceEqDiff, Nat.reduceLT, Nat.reduceLeDiff, Nat.reduceAdd, Nat.reduceMul, Nat.reduceMod, Nat.reduceSub, List.contains_cons, List.contains_nil, Nat.reduceBEq, List.getD_cons_zero, List.getD_cons_succ, List.getD_nil, List.length_cons, List.length_nil, List.size_toArray, List.toList_toArray, List.zip_cons_cons, List.zip_nil_left, List.append_nil, List.nil_append, List.cons_append, List.map_cons, List.map_nil, List.replicate_succ, List.replicate_zero, List.set_cons_zero, List.set_cons_succ, List.set_set, List.all_cons, List.all_nil, List.getElem?_cons_zero, List.getElem?_cons_succ, List.getElem?_nil, List.range_zero, beq_self_eq_true, Int.reduceLE, Int.reduceLT, Int.reduceEq, Int.reduceSub, Int.reduceAdd, Int.reduceToNat, Int.reduceNeg, e0]
    refine wd_loop (fun n s => ∃ i, n = xs.length - i ∧ i ≤ xs.length ∧ xs.take i = ys.take i ∧ s.v 0 = .sl 25 (sls 3 xs) ∧ s.v 1 = .sl 25 (sls 3 ys) ∧ s.v 5 = .int .i64 i) xs.length ⟨0, by simp, by simp, by simp, ?_⟩ ?_
    · simp only [↓xpre, xpost, yset, Option.bind_some, Option.map_some, Option.isSome_some, ↓reduceIte, Nat.reduceEqDiff, Nat.reduceLT, Nat.reduceLeDiff, Nat.reduceAdd, Nat.reduceMul, Nat.reduceMod, Nat.reduceSub, List.contains_cons, List.contains_nil, Nat.reduceBEq, List.getD_cons_zero, List.getD_cons_succ, List.getD_nil, List.length_cons, List.length_nil, List.size_toArray, List.toList_toArray, List.zip_cons_cons, List.zip_nil_left, List.append_nil, List.nil_append, List.cons_append, List.map_cons, List.map_nil, List.replicate_succ, List.replicate_zero, List.set_cons_zero, List.set_cons_succ, List.set_set, List.all_cons, List.all_nil, List.getElem?_cons_zero, List.getElem?_cons_succ, List.getElem?_nil, List.range_zero, beq_self_eq_true, Int.reduceLE, Int.reduceLT, Int.reduceEq, Int.reduceSub, Int.reduceAdd, Int.reduceToNat, Int.reduceNeg]
      simp
    · rintro n s ⟨i, hn, hi, ht, h0, h1, h5⟩
      by_cases hlt : i < xs.length
      · have e1 : (i : Int) < (xs.length : Int) := by omega
        have e2 : i < ys.length := by omega
        have hq' := eqIntS_eq (xs.getD i []) (ys.getD i []) (hx.at i) (hy.at i)
        by_cases hq : xs.getD i [] = ys.getD i []
        · rw [decide_eq_true hq] at hq'
          simp only [↓xpre, xpost, yset, Option.bind_some, Option.map_some, Option.isSome_some, ↓reduceIte, Nat.reduceEqDiff, Nat.reduceLT, Nat.reduceLeDiff, Nat.reduceAdd, Nat.reduceMul, Nat.reduceMod, Nat.reduceSub, List.contains_cons, List.contains_nil, Nat.reduceBEq, List.getD_cons_zero, List.getD_cons_succ, List.getD_nil, List.length_cons, List.length_nil, List.size_toArray, List.toList_toArray, List.zip_cons_cons, List.zip_nil_left, List.append_nil, List.nil_append, List.cons_append, List.map_cons, List.map_nil, List.replicate_succ, List.replicate_zero, List.set_cons_zero, List.set_cons_succ, List.set_set, List.all_cons, List.all_nil, List.getElem?_cons_zero, List.getElem?_cons_succ, List.getElem?_nil, List.range_zero, beq_self_eq_true, Int.reduceLE, Int.reduceLT, Int.reduceEq, Int.reduceSub, Int.reduceAdd, Int.reduceToNat, Int.reduceNeg, h0, h1, h5, e1, e2, hlt, hq', wr64 ((i : Int) + 1) (by omega)]
          refine ⟨_, ?_, i + 1, rfl, by omega, take_ext ht hlt e2 [] hq, ?_⟩
          · omega
          · simp
        · have e3 : ¬ xs = ys := fun e => hq (by rw [e])
          rw [decide_eq_false hq] at hq'
          simp only [↓xpre, xpost, yset, Option.bind_some, Option.map_some, Option.isSome_some, ↓reduceIte, Nat.reduceEqDiff, Nat.reduceLT, Nat.reduceLeDiff, Nat.reduceAdd, Nat.reduceMul, Nat.reduceMod, Nat.reduceSub, List.contains_cons, List.contains_nil, Nat.reduceBEq, List.getD_cons_zero, List.getD_cons_succ, List.getD_nil, List.length_cons, List.length_nil, List.size_toArray, List.toList_toArray, List.zip_cons_cons, List.zip_nil_left, List.append_nil, List.nil_append, List.cons_append, List.map_cons, List.map_nil, List.replicate_succ, List.replicate_zero, List.set_cons_zero, List.set_cons_succ, List.set_set, List.all_cons, List.all_nil, List.getElem?_cons_zero, List.getElem?_cons_succ, List.getElem?_nil, List.range_zero, beq_self_eq_true, Int.reduceLE, Int.reduceLT, Int.reduceEq, Int.reduceSub, Int.reduceAdd, Int.reduceToNat, Int.reduceNeg, h0, h1, h5, e1, e2, hlt, hq', e3]
      · have e1 : ¬ (i : Int) < (xs.length : Int) := by omega
        have e3 : xs = ys := by
          have e2 : i = xs.length := by omega
          rw [e2, List.take_length, hl, List.take_length] at ht; exact ht
        simp only [↓xpre, xpost, yset, Option.bind_some, Option.map_some, Option.isSome_some, ↓reduceIte, Nat.reduceEqDiff, Nat.reduceLT, Nat.reduceLeDiff, Nat.reduceAdd, Nat.reduceMul, Nat.reduceMod, Nat.reduceSub, List.contains_cons, List.contains_nil, Nat.reduceBEq, List.getD_cons_zero, List.getD_cons_succ, List.getD_nil, List.length_cons, List.length_nil, List.size_toArray, List.toList_toArray, List.zip_cons_cons, List.zip_nil_left, List.append_nil, List.nil_append, List.cons_append, List.map_cons, List.map_nil, List.replicate_succ, List.replicate_zero, List.set_cons_zero, List.set_cons_succ, List.set_set, List.all_cons, List.all_nil, List.getElem?_cons_zero, List.getElem?_cons_succ, List.getElem?_nil, List.range_zero, beq_self_eq_true, Int.reduceLE, Int.reduceLT, Int.reduceEq, Int.reduceSub, Int.reduceAdd, Int.reduceToNat, Int.reduceNeg, h0, h1, h5, e1]
        simp [e3]
  · have e0 : ¬ (xs.length : Int) = (ys.length : Int) := by omega
    have e1 : ¬ xs = ys := fun e => hl (by rw [e])
    simp only [↓xpre, xpost, yset, Option.bind_some, Option.map_some, Option.isSome_some, ↓reduceIte, Nat.reduceEqDiff, Nat.reduceLT, Nat.reduceLeDiff, Nat.reduceAdd, Nat.reduceMul, Nat.reduceMod, Nat.reduceSub, List.contains_cons, List.contains_nil, Nat.reduceBEq, List.getD_cons_zero, List.getD_cons_succ, List.getD_nil, List.length_cons, List.length_nil, List.size_toArray, List.toList_toArray, List.zip_cons_cons, List.zip_nil_left, List.append_nil, List.nil_append, List.cons_append, List.map_cons, List.map_nil, List.replicate_succ, List.replicate_zero, List.set_cons_zero, List.set_cons_succ, List.set_set, List.all_cons, List.all_nil, List.getElem?_cons_zero, List.getElem?_cons_succ, List.getElem?_nil, List.range_zero, beq_self_eq_true, Int.reduceLE, Int.reduceLT, Int.reduceEq, Int.reduceSub, Int.reduceAdd, Int.reduceToNat, Int.reduceNeg, e0, e1]
theorem eqProblem_same (labels degree : Int) (ns es : List (List Int)) (hn : Short ns) (he : Short es) : Y.call 28 [probD labels degree ns es, probD labels degree ns es] [] = some (.bool true, []) := by
  refine c28 ?_ rfl
  unfold k28 probD
  simp only [↓xpre, xpost, yset, Option.bind_some, Option.map_some, Option.isSome_some, ↓reduceIte, Nat.reduceEqDiff, Nat.reduceLT, Nat.reduceLeDiff, Nat.reduceAdd, Nat.reduceMul, Nat.reduceMod, Nat.reduceSub, List.contains_cons, List.contains_nil, Nat.reduceBEq, List.getD_cons_zero, List.getD_cons_succ, List.getD_nil, List.length_cons, List.length_nil, List.size_toArray, List.toList_toArray, List.zip_cons_cons, List.zip_nil_left, List.append_nil, List.nil_append, List.cons_append, List.map_cons, List.map_nil, List.replicate_succ, List.replicate_zero, List.set_cons_zero, List.set_cons_succ, List.set_set, List.all_cons, List.all_nil, List.getElem?_cons_zero, List.getElem?_cons_succ, List.getElem?_nil, List.range_zero, beq_self_eq_true, Int.reduceLE, Int.reduceLT, Int.reduceEq, Int.reduceSub, Int.reduceAdd, Int.reduceToNat, Int.reduceNeg, eqIntSS_eq ns ns hn hn, eqIntSS_eq es es he he]

end Go.Proofs.Ythaimoghceamnaa
