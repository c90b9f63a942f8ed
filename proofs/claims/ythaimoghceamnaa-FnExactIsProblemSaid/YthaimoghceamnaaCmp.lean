/- Comparisons of numbers and of lists. Conditions: the lists are short. -/
import Derived.Test.YthaimoghceamnaaSets
namespace Go.Proofs.Ythaimoghceamnaa
open Go Dv
set_option linter.unusedSimpArgs false
set_option linter.unusedVariables false
set_option maxRecDepth 100000

/-- cmp.isNaN[int] -/
def k105 : SC :=
  .seq
    (.ops [
      ⟨(some 2), (Op.assign (Operand.const (Value.bool false))), 4, none⟩])
    (.seq
      (.ops [
        ⟨(some 3), (Op.move (Operand.tmp 0)), 3, none⟩,
        ⟨(some 4), (Op.move (Operand.tmp 0)), 3, none⟩,
        ⟨(some 5), (Op.binOp BinOp.neq 3 (Operand.tmp 3) (Operand.tmp 4) 3), 4, none⟩,
        ⟨(some 2), (Op.assign (Operand.tmp 5)), 4, none⟩])
      .ret)
theorem slim105 : Try.f105.body.map (slim lends) = some k105 := by kernel_rfl
theorem ok105 : fnOk Try.f105 1 = true := by kernel_rfl
theorem c105 {a l : List D} {r : D × List D} (h : wpD Y.env k105 (fin tys l.length [ResultVar.tmp 2] r) (entry a l)) (ha : a.length = 1) : Y.call 105 a l = some r :=
  call_slim (Y := Y) rfl Try.func105 (ha ▸ ok105) slim105 h

/-- cmp.Less[int] -/
def k91 : SC :=
  .seq
    (.ops [
      ⟨(some 4), (Op.assign (Operand.const (Value.bool false))), 4, none⟩])
    (.seq
      (.ops [
        ⟨(some 5), (Op.move (Operand.tmp 0)), 3, none⟩,
        ⟨(some 6), (Op.call { callee := (Callee.value (Operand.func 105)), args := #[(Operand.tmp 5)], argTypes := #[3] }), 4, none⟩,
        ⟨(some 7), (Op.move (Operand.tmp 6)), 4, none⟩,
        ⟨(some 8), (Op.move (Operand.tmp 1)), 3, (some (some 7, true))⟩,
        ⟨(some 9), (Op.call { callee := (Callee.value (Operand.func 105)), args := #[(Operand.tmp 8)], argTypes := #[3] }), 4, (some (some 7, true))⟩,
        ⟨(some 10), (Op.unOp UnOp.not 4 (Operand.tmp 9)), 4, (some (some 7, true))⟩,
        ⟨(some 11), (Op.pick (Operand.tmp 7) (Operand.tmp 10) (Operand.const (Value.bool false))), 4, none⟩,
        ⟨(some 12), (Op.move (Operand.tmp 11)), 4, none⟩,
        ⟨(some 13), (Op.move (Operand.tmp 0)), 3, (some (some 12, false))⟩,
        ⟨(some 14), (Op.move (Operand.tmp 1)), 3, (some (some 12, false))⟩,
        ⟨(some 15), (Op.binOp BinOp.lss 3 (Operand.tmp 13) (Operand.tmp 14) 3), 4, (some (some 12, false))⟩,
        ⟨(some 16), (Op.pick (Operand.tmp 12) (Operand.const (Value.bool true)) (Operand.tmp 15)), 4, none⟩,
        ⟨(some 4), (Op.assign (Operand.tmp 16)), 4, none⟩])
      .ret)
theorem slim91 : Try.f91.body.map (slim lends) = some k91 := by kernel_rfl
theorem ok91 : fnOk Try.f91 2 = true := by kernel_rfl
theorem c91 {a l : List D} {r : D × List D} (h : wpD Y.env k91 (fin tys l.length [ResultVar.tmp 4] r) (entry a l)) (ha : a.length = 2) : Y.call 91 a l = some r :=
  call_slim (Y := Y) rfl Try.func91 (ha ▸ ok91) slim91 h

/-- cmp.Compare[int] -/
def k94 : SC :=
  .seq
    (.ops [
      ⟨(some 4), (Op.assign (Operand.const (Value.int IntKind.i64 0))), 3, none⟩])
    (.seq
      (.ops [
        ⟨(some 7), (Op.move (Operand.tmp 0)), 3, none⟩,
        ⟨(some 8), (Op.call { callee := (Callee.value (Operand.func 105)), args := #[(Operand.tmp 7)], argTypes := #[3] }), 4, none⟩,
        ⟨(some 5), (Op.assign (Operand.tmp 8)), 4, none⟩])
      (.seq
        (.ops [
          ⟨(some 9), (Op.move (Operand.tmp 1)), 3, none⟩,
          ⟨(some 10), (Op.call { callee := (Callee.value (Operand.func 105)), args := #[(Operand.tmp 9)], argTypes := #[3] }), 4, none⟩,
          ⟨(some 6), (Op.assign (Operand.tmp 10)), 4, none⟩])
        (.seq
          (.seq
            (.ops [
              ⟨(some 11), (Op.move (Operand.tmp 5)), 4, none⟩])
            (.cond (Operand.tmp 11)
              (.seq
                (.seq
                  (.ops [
                    ⟨(some 12), (Op.move (Operand.tmp 6)), 4, none⟩])
                  (.cond (Operand.tmp 12)
                    (.seq
                      (.ops [
                        ⟨(some 4), (Op.assign (Operand.const (Value.int IntKind.i64 0))), 3, none⟩])
                      .ret)
                    .skip))
                (.seq
                  (.ops [
                    ⟨(some 4), (Op.assign (Operand.const (Value.int IntKind.i64 (-1)))), 3, none⟩])
                  .ret))
              .skip))
          (.seq
            (.seq
              (.ops [
                ⟨(some 13), (Op.move (Operand.tmp 6)), 4, none⟩])
              (.cond (Operand.tmp 13)
                (.seq
                  (.ops [
                    ⟨(some 4), (Op.assign (Operand.const (Value.int IntKind.i64 1))), 3, none⟩])
                  .ret)
                .skip))
            (.seq
              (.seq
                (.ops [
                  ⟨(some 14), (Op.move (Operand.tmp 0)), 3, none⟩,
                  ⟨(some 15), (Op.move (Operand.tmp 1)), 3, none⟩,
                  ⟨(some 16), (Op.binOp BinOp.lss 3 (Operand.tmp 14) (Operand.tmp 15) 3), 4, none⟩])
                (.cond (Operand.tmp 16)
                  (.seq
                    (.ops [
                      ⟨(some 4), (Op.assign (Operand.const (Value.int IntKind.i64 (-1)))), 3, none⟩])
                    .ret)
                  .skip))
              (.seq
                (.seq
                  (.ops [
                    ⟨(some 17), (Op.move (Operand.tmp 0)), 3, none⟩,
                    ⟨(some 18), (Op.move (Operand.tmp 1)), 3, none⟩,
                    ⟨(some 19), (Op.binOp BinOp.gtr 3 (Operand.tmp 17) (Operand.tmp 18) 3), 4, none⟩])
                  (.cond (Operand.tmp 19)
                    (.seq
                      (.ops [
                        ⟨(some 4), (Op.assign (Operand.const (Value.int IntKind.i64 1))), 3, none⟩])
                      .ret)
                    .skip))
                (.seq
                  (.ops [
                    ⟨(some 4), (Op.assign (Operand.const (Value.int IntKind.i64 0))), 3, none⟩])
                  .ret)))))))
theorem slim94 : Try.f94.body.map (slim lends) = some k94 := by kernel_rfl
theorem ok94 : fnOk Try.f94 2 = true := by kernel_rfl
theorem c94 {a l : List D} {r : D × List D} (h : wpD Y.env k94 (fin tys l.length [ResultVar.tmp 4] r) (entry a l)) (ha : a.length = 2) : Y.call 94 a l = some r :=
  call_slim (Y := Y) rfl Try.func94 (ha ▸ ok94) slim94 h

/-- slices.IsSorted[[]int,int] -/
def k79 : SC :=
  .seq
    (.ops [
      ⟨(some 2), (Op.assign (Operand.const (Value.bool false))), 4, none⟩])
    (.seq
      (.seq
        (.ops [
          ⟨(some 4), (Op.move (Operand.tmp 0)), 25, none⟩,
          ⟨(some 5), (Op.call { callee := (Callee.builtin Builtin.len), args := #[(Operand.tmp 4)], argTypes := #[25] }), 3, none⟩,
          ⟨(some 6), (Op.binOp BinOp.sub 3 (Operand.tmp 5) (Operand.const (Value.int IntKind.i64 1)) 3), 3, none⟩,
          ⟨(some 3), (Op.assign (Operand.tmp 6)), 3, none⟩])
        (.block 0
          (.loop
            (.seq
              (.seq
                (.ops [
                  ⟨(some 7), (Op.move (Operand.tmp 3)), 3, none⟩,
                  ⟨(some 8), (Op.binOp BinOp.gtr 3 (Operand.tmp 7) (Operand.const (Value.int IntKind.i64 0)) 3), 4, none⟩])
                (.cond (Operand.tmp 8)
                  .skip
                  (.exit 0)))
              (.seq
                (.block 1
                  (.seq
                    (.draws [
                      (⟨[11, 0, 0], [11, 12, 13, 14, 15, 16, 17, 18, 19, 20], [11]⟩, ⟨(some 11), (Op.move (Operand.tmp 0)), 25, none⟩),
                      (⟨[12, 3, 3], [11, 12, 13, 14, 15, 16, 17, 18, 19, 20], [12]⟩, ⟨(some 12), (Op.move (Operand.tmp 3)), 3, none⟩),
                      (⟨[13, 11, 12, 0, 3], [11, 12, 13, 14, 15, 16, 17, 18, 19, 20], [13]⟩, ⟨(some 13), (Op.indexAddr 25 (Operand.tmp 11) (Operand.tmp 12)), 0, none⟩),
                      (⟨[14, 13, 0], [11, 12, 13, 14, 15, 16, 17, 18, 19, 20], [14]⟩, ⟨(some 14), (Op.load 3 (Operand.tmp 13)), 3, none⟩),
                      (⟨[15, 0, 0], [11, 12, 13, 14, 15, 16, 17, 18, 19, 20], [15]⟩, ⟨(some 15), (Op.move (Operand.tmp 0)), 25, none⟩),
                      (⟨[16, 3, 3], [11, 12, 13, 14, 15, 16, 17, 18, 19, 20], [16]⟩, ⟨(some 16), (Op.move (Operand.tmp 3)), 3, none⟩),
                      (⟨[17, 16, 3], [11, 12, 13, 14, 15, 16, 17, 18, 19, 20], [17]⟩, ⟨(some 17), (Op.binOp BinOp.sub 3 (Operand.tmp 16) (Operand.const (Value.int IntKind.i64 1)) 3), 3, none⟩),
                      (⟨[18, 15, 17, 0, 17], [11, 12, 13, 14, 15, 16, 17, 18, 19, 20], [18]⟩, ⟨(some 18), (Op.indexAddr 25 (Operand.tmp 15) (Operand.tmp 17)), 0, none⟩),
                      (⟨[19, 18, 0], [11, 12, 13, 14, 15, 16, 17, 18, 19, 20], [19]⟩, ⟨(some 19), (Op.load 3 (Operand.tmp 18)), 3, none⟩),
                      (⟨[20, 14, 19, 0, 0], [11, 12, 13, 14, 15, 16, 17, 18, 19, 20], [20]⟩, ⟨(some 20), (Op.call { callee := (Callee.value (Operand.func 91)), args := #[(Operand.tmp 14), (Operand.tmp 19)], argTypes := #[3, 3] }), 4, none⟩)])
                    (.cond (Operand.tmp 20)
                      (.seq
                        (.ops [
                          ⟨(some 2), (Op.assign (Operand.const (Value.bool false))), 4, none⟩])
                        .ret)
                      .skip)))
                (.ops [
                  ⟨(some 9), (Op.move (Operand.tmp 3)), 3, none⟩,
                  ⟨(some 10), (Op.binOp BinOp.sub 3 (Operand.tmp 9) (Operand.const (Value.int IntKind.i64 1)) 3), 3, none⟩,
                  ⟨(some 3), (Op.assign (Operand.tmp 10)), 3, none⟩]))))))
      (.seq
        (.ops [
          ⟨(some 2), (Op.assign (Operand.const (Value.bool true))), 4, none⟩])
        .ret))
theorem slim79 : Try.f79.body.map (slim lends) = some k79 := by kernel_rfl
theorem ok79 : fnOk Try.f79 1 = true := by kernel_rfl
theorem c79 {a l : List D} {r : D × List D} (h : wpD Y.env k79 (fin tys l.length [ResultVar.tmp 2] r) (entry a l)) (ha : a.length = 1) : Y.call 79 a l = some r :=
  call_slim (Y := Y) rfl Try.func79 (ha ▸ ok79) slim79 h

/-- slices.Compare[[]int,int] -/
def k81 : SC :=
  .seq
    (.ops [
      ⟨(some 4), (Op.assign (Operand.const (Value.int IntKind.i64 0))), 3, none⟩])
    (.seq
      (.seq
        (.ops [
          ⟨(some 9), (Op.move (Operand.tmp 0)), 25, none⟩,
          ⟨(some 10), (Op.call { callee := (Callee.builtin Builtin.len), args := #[(Operand.tmp 9)], argTypes := #[25] }), 3, none⟩,
          ⟨(some 11), (Op.move (Operand.const (Value.int IntKind.i64 0))), 3, none⟩])
        (.block 0
          (.loop
            (.seq
              (.ops [
                ⟨(some 12), (Op.binOp BinOp.lss 3 (Operand.tmp 11) (Operand.tmp 10) 3), 0, none⟩])
              (.seq
                (.cond (Operand.tmp 12)
                  .skip
                  (.exit 0))
                (.seq
                  (.block 1
                    (.seq
                      (.ops [
                        ⟨(some 13), (Op.move (Operand.tmp 11)), 3, none⟩,
                        ⟨(some 14), (Op.indexAddr 25 (Operand.tmp 9) (Operand.tmp 11)), 0, none⟩,
                        ⟨(some 15), (Op.load 3 (Operand.tmp 14)), 3, none⟩,
                        ⟨(some 5), (Op.assign (Operand.tmp 13)), 3, none⟩,
                        ⟨(some 6), (Op.assign (Operand.tmp 15)), 3, none⟩])
                      (.seq
                        (.seq
                          (.ops [
                            ⟨(some 16), (Op.move (Operand.tmp 5)), 3, none⟩,
                            ⟨(some 17), (Op.move (Operand.tmp 1)), 25, none⟩,
                            ⟨(some 18), (Op.call { callee := (Callee.builtin Builtin.len), args := #[(Operand.tmp 17)], argTypes := #[25] }), 3, none⟩,
                            ⟨(some 19), (Op.binOp BinOp.geq 3 (Operand.tmp 16) (Operand.tmp 18) 3), 4, none⟩])
                          (.cond (Operand.tmp 19)
                            (.seq
                              (.ops [
                                ⟨(some 4), (Op.assign (Operand.const (Value.int IntKind.i64 1))), 3, none⟩])
                              .ret)
                            .skip))
                        (.seq
                          (.ops [
                            ⟨(some 20), (Op.move (Operand.tmp 1)), 25, none⟩,
                            ⟨(some 21), (Op.move (Operand.tmp 5)), 3, none⟩,
                            ⟨(some 22), (Op.indexAddr 25 (Operand.tmp 20) (Operand.tmp 21)), 0, none⟩,
                            ⟨(some 23), (Op.load 3 (Operand.tmp 22)), 3, none⟩,
                            ⟨(some 7), (Op.assign (Operand.tmp 23)), 3, none⟩])
                          (.seq
                            (.ops [
                              ⟨(some 24), (Op.move (Operand.tmp 6)), 3, none⟩,
                              ⟨(some 25), (Op.move (Operand.tmp 7)), 3, none⟩,
                              ⟨(some 26), (Op.call { callee := (Callee.value (Operand.func 94)), args := #[(Operand.tmp 24), (Operand.tmp 25)], argTypes := #[3, 3] }), 3, none⟩,
                              ⟨(some 8), (Op.assign (Operand.tmp 26)), 3, none⟩])
                            (.seq
                              (.ops [
                                ⟨(some 27), (Op.move (Operand.tmp 8)), 3, none⟩,
                                ⟨(some 28), (Op.binOp BinOp.neq 3 (Operand.tmp 27) (Operand.const (Value.int IntKind.i64 0)) 3), 4, none⟩])
                              (.cond (Operand.tmp 28)
                                (.seq
                                  (.ops [
                                    ⟨(some 29), (Op.move (Operand.tmp 8)), 3, none⟩,
                                    ⟨(some 4), (Op.assign (Operand.tmp 29)), 3, none⟩])
                                  .ret)
                                .skip)))))))
                  (.ops [
                    ⟨(some 30), (Op.binOp BinOp.add 3 (Operand.tmp 11) (Operand.const (Value.int IntKind.i64 1)) 3), 3, none⟩,
                    ⟨(some 11), (Op.move (Operand.tmp 30)), 3, none⟩])))))))
      (.seq
        (.seq
          (.ops [
            ⟨(some 31), (Op.move (Operand.tmp 0)), 25, none⟩,
            ⟨(some 32), (Op.call { callee := (Callee.builtin Builtin.len), args := #[(Operand.tmp 31)], argTypes := #[25] }), 3, none⟩,
            ⟨(some 33), (Op.move (Operand.tmp 1)), 25, none⟩,
            ⟨(some 34), (Op.call { callee := (Callee.builtin Builtin.len), args := #[(Operand.tmp 33)], argTypes := #[25] }), 3, none⟩,
            ⟨(some 35), (Op.binOp BinOp.lss 3 (Operand.tmp 32) (Operand.tmp 34) 3), 4, none⟩])
          (.cond (Operand.tmp 35)
            (.seq
              (.ops [
                ⟨(some 4), (Op.assign (Operand.const (Value.int IntKind.i64 (-1)))), 3, none⟩])
              .ret)
            .skip))
        (.seq
          (.ops [
            ⟨(some 4), (Op.assign (Operand.const (Value.int IntKind.i64 0))), 3, none⟩])
          .ret)))
theorem slim81 : Try.f81.body.map (slim lends) = some k81 := by kernel_rfl
theorem ok81 : fnOk Try.f81 2 = true := by kernel_rfl
theorem c81 {a l : List D} {r : D × List D} (h : wpD Y.env k81 (fin tys l.length [ResultVar.tmp 4] r) (entry a l)) (ha : a.length = 2) : Y.call 81 a l = some r :=
  call_slim (Y := Y) rfl Try.func81 (ha ▸ ok81) slim81 h

/-- slices.IndexFunc[[]int,int] -/
def k106 : SC :=
  .seq
    (.ops [
      ⟨(some 4), (Op.assign (Operand.const (Value.int IntKind.i64 0))), 3, none⟩])
    (.seq
      (.seq
        (.ops [
          ⟨(some 6), (Op.move (Operand.tmp 0)), 25, none⟩,
          ⟨(some 7), (Op.call { callee := (Callee.builtin Builtin.len), args := #[(Operand.tmp 6)], argTypes := #[25] }), 3, none⟩,
          ⟨(some 8), (Op.move (Operand.const (Value.int IntKind.i64 0))), 3, none⟩])
        (.block 0
          (.loop
            (.seq
              (.ops [
                ⟨(some 9), (Op.binOp BinOp.lss 3 (Operand.tmp 8) (Operand.tmp 7) 3), 0, none⟩])
              (.seq
                (.cond (Operand.tmp 9)
                  .skip
                  (.exit 0))
                (.seq
                  (.block 1
                    (.seq
                      (.ops [
                        ⟨(some 10), (Op.move (Operand.tmp 8)), 3, none⟩,
                        ⟨(some 5), (Op.assign (Operand.tmp 10)), 3, none⟩])
                      (.seq
                        (.ops [
                          ⟨(some 11), (Op.move (Operand.tmp 1)), 24, none⟩,
                          ⟨(some 12), (Op.move (Operand.tmp 0)), 25, none⟩,
                          ⟨(some 13), (Op.move (Operand.tmp 5)), 3, none⟩,
                          ⟨(some 14), (Op.indexAddr 25 (Operand.tmp 12) (Operand.tmp 13)), 0, none⟩,
                          ⟨(some 15), (Op.load 3 (Operand.tmp 14)), 3, none⟩,
                          ⟨(some 16), (Op.call { callee := (Callee.value (Operand.tmp 11)), args := #[(Operand.tmp 15)], argTypes := #[3] }), 4, none⟩])
                        (.cond (Operand.tmp 16)
                          (.seq
                            (.ops [
                              ⟨(some 17), (Op.move (Operand.tmp 5)), 3, none⟩,
                              ⟨(some 4), (Op.assign (Operand.tmp 17)), 3, none⟩])
                            .ret)
                          .skip))))
                  (.ops [
                    ⟨(some 18), (Op.binOp BinOp.add 3 (Operand.tmp 8) (Operand.const (Value.int IntKind.i64 1)) 3), 3, none⟩,
                    ⟨(some 8), (Op.move (Operand.tmp 18)), 3, none⟩])))))))
      (.seq
        (.ops [
          ⟨(some 4), (Op.assign (Operand.const (Value.int IntKind.i64 (-1)))), 3, none⟩])
        .ret))
theorem slim106 : Try.f106.body.map (slim lends) = some k106 := by kernel_rfl
theorem ok106 : fnOk Try.f106 2 = true := by kernel_rfl
theorem c106 {a l : List D} {r : D × List D} (h : wpD Y.env k106 (fin tys l.length [ResultVar.tmp 4] r) (entry a l)) (ha : a.length = 2) : Y.call 106 a l = some r :=
  call_slim (Y := Y) rfl Try.func106 (ha ▸ ok106) slim106 h

/-- slices.ContainsFunc[[]int,int] -/
def k92 : SC :=
  .seq
    (.ops [
      ⟨(some 4), (Op.assign (Operand.const (Value.bool false))), 4, none⟩])
    (.seq
      (.ops [
        ⟨(some 5), (Op.move (Operand.tmp 0)), 25, none⟩,
        ⟨(some 6), (Op.move (Operand.tmp 1)), 24, none⟩,
        ⟨(some 7), (Op.call { callee := (Callee.value (Operand.func 106)), args := #[(Operand.tmp 5), (Operand.tmp 6)], argTypes := #[25, 24] }), 3, none⟩,
        ⟨(some 8), (Op.binOp BinOp.geq 3 (Operand.tmp 7) (Operand.const (Value.int IntKind.i64 0)) 3), 4, none⟩,
        ⟨(some 4), (Op.assign (Operand.tmp 8)), 4, none⟩])
      .ret)
theorem slim92 : Try.f92.body.map (slim lends) = some k92 := by kernel_rfl
theorem ok92 : fnOk Try.f92 2 = true := by kernel_rfl
theorem c92 {a l : List D} {r : D × List D} (h : wpD Y.env k92 (fin tys l.length [ResultVar.tmp 4] r) (entry a l)) (ha : a.length = 2) : Y.call 92 a l = some r :=
  call_slim (Y := Y) rfl Try.func92 (ha ▸ ok92) slim92 h

/-- spec.l1Sign -/
def k96 : SC :=
  .seq
    (.ops [
      ⟨(some 2), (Op.assign (Operand.const (Value.int IntKind.i64 0))), 3, none⟩])
    (.seq
      (.block 0
        (.seq
          (.ops [
            ⟨(some 4), (Op.move (Operand.tmp 0)), 3, none⟩,
            ⟨(some 5), (Op.binOp BinOp.gtr 3 (Operand.tmp 4) (Operand.const (Value.int IntKind.i64 0)) 3), 4, none⟩,
            ⟨(some 3), (Op.assign (Operand.tmp 5)), 4, none⟩])
          (.cond (Operand.tmp 3)
            (.seq
              (.ops [
                ⟨(some 2), (Op.assign (Operand.const (Value.int IntKind.i64 1))), 3, none⟩])
              .ret)
            (.seq
              (.ops [
                ⟨(some 7), (Op.move (Operand.tmp 0)), 3, none⟩,
                ⟨(some 8), (Op.binOp BinOp.lss 3 (Operand.tmp 7) (Operand.const (Value.int IntKind.i64 0)) 3), 4, none⟩,
                ⟨(some 6), (Op.assign (Operand.tmp 8)), 4, none⟩])
              (.cond (Operand.tmp 6)
                (.seq
                  (.ops [
                    ⟨(some 2), (Op.assign (Operand.const (Value.int IntKind.i64 (-1)))), 3, none⟩])
                  .ret)
                .skip)))))
      (.seq
        (.ops [
          ⟨(some 2), (Op.assign (Operand.const (Value.int IntKind.i64 0))), 3, none⟩])
        .ret))
theorem slim96 : Try.f96.body.map (slim lends) = some k96 := by kernel_rfl
theorem ok96 : fnOk Try.f96 1 = true := by kernel_rfl
theorem c96 {a l : List D} {r : D × List D} (h : wpD Y.env k96 (fin tys l.length [ResultVar.tmp 2] r) (entry a l)) (ha : a.length = 1) : Y.call 96 a l = some r :=
  call_slim (Y := Y) rfl Try.func96 (ha ▸ ok96) slim96 h

/-- spec.prOrder -/
def k83 : SC :=
  .seq
    (.ops [
      ⟨(some 4), (Op.assign (Operand.const (Value.int IntKind.i64 0))), 3, none⟩])
    (.seq
      (.seq
        (.ops [
          ⟨(some 7), (Op.move (Operand.tmp 0)), 25, none⟩,
          ⟨(some 8), (Op.call { callee := (Callee.builtin Builtin.len), args := #[(Operand.tmp 7)], argTypes := #[25] }), 3, none⟩,
          ⟨(some 9), (Op.move (Operand.const (Value.int IntKind.i64 0))), 3, none⟩])
        (.block 0
          (.loop
            (.seq
              (.ops [
                ⟨(some 10), (Op.binOp BinOp.lss 3 (Operand.tmp 9) (Operand.tmp 8) 3), 0, none⟩])
              (.seq
                (.cond (Operand.tmp 10)
                  .skip
                  (.exit 0))
                (.seq
                  (.block 1
                    (.seq
                      (.ops [
                        ⟨(some 11), (Op.move (Operand.tmp 9)), 3, none⟩,
                        ⟨(some 12), (Op.indexAddr 25 (Operand.tmp 7) (Operand.tmp 9)), 0, none⟩,
                        ⟨(some 13), (Op.load 3 (Operand.tmp 12)), 3, none⟩,
                        ⟨(some 5), (Op.assign (Operand.tmp 11)), 3, none⟩,
                        ⟨(some 6), (Op.assign (Operand.tmp 13)), 3, none⟩])
                      (.seq
                        (.ops [
                          ⟨(some 14), (Op.move (Operand.tmp 6)), 3, none⟩,
                          ⟨(some 15), (Op.move (Operand.tmp 1)), 25, none⟩,
                          ⟨(some 16), (Op.move (Operand.tmp 5)), 3, none⟩,
                          ⟨(some 17), (Op.indexAddr 25 (Operand.tmp 15) (Operand.tmp 16)), 0, none⟩,
                          ⟨(some 18), (Op.load 3 (Operand.tmp 17)), 3, none⟩,
                          ⟨(some 19), (Op.binOp BinOp.neq 3 (Operand.tmp 14) (Operand.tmp 18) 3), 4, none⟩])
                        (.cond (Operand.tmp 19)
                          (.seq
                            (.ops [
                              ⟨(some 20), (Op.move (Operand.tmp 6)), 3, none⟩,
                              ⟨(some 21), (Op.move (Operand.tmp 1)), 25, none⟩,
                              ⟨(some 22), (Op.move (Operand.tmp 5)), 3, none⟩,
                              ⟨(some 23), (Op.indexAddr 25 (Operand.tmp 21) (Operand.tmp 22)), 0, none⟩,
                              ⟨(some 24), (Op.load 3 (Operand.tmp 23)), 3, none⟩,
                              ⟨(some 25), (Op.binOp BinOp.sub 3 (Operand.tmp 20) (Operand.tmp 24) 3), 3, none⟩,
                              ⟨(some 26), (Op.call { callee := (Callee.value (Operand.func 96)), args := #[(Operand.tmp 25)], argTypes := #[3] }), 3, none⟩,
                              ⟨(some 4), (Op.assign (Operand.tmp 26)), 3, none⟩])
                            .ret)
                          .skip))))
                  (.ops [
                    ⟨(some 27), (Op.binOp BinOp.add 3 (Operand.tmp 9) (Operand.const (Value.int IntKind.i64 1)) 3), 3, none⟩,
                    ⟨(some 9), (Op.move (Operand.tmp 27)), 3, none⟩])))))))
      (.seq
        (.ops [
          ⟨(some 4), (Op.assign (Operand.const (Value.int IntKind.i64 0))), 3, none⟩])
        .ret))
theorem slim83 : Try.f83.body.map (slim lends) = some k83 := by kernel_rfl
theorem ok83 : fnOk Try.f83 2 = true := by kernel_rfl
theorem c83 {a l : List D} {r : D × List D} (h : wpD Y.env k83 (fin tys l.length [ResultVar.tmp 4] r) (entry a l)) (ha : a.length = 2) : Y.call 83 a l = some r :=
  call_slim (Y := Y) rfl Try.func83 (ha ▸ ok83) slim83 h

/-- spec.l1All -/
def k90 : SC :=
  .seq
    (.ops [
      ⟨(some 6), (Op.assign (Operand.const (Value.bool false))), 4, none⟩])
    (.seq
      (.seq
        (.ops [
          ⟨(some 9), (Op.move (Operand.tmp 0)), 25, none⟩,
          ⟨(some 10), (Op.call { callee := (Callee.builtin Builtin.len), args := #[(Operand.tmp 9)], argTypes := #[25] }), 3, none⟩,
          ⟨(some 11), (Op.move (Operand.const (Value.int IntKind.i64 0))), 3, none⟩])
        (.block 0
          (.loop
            (.seq
              (.ops [
                ⟨(some 12), (Op.binOp BinOp.lss 3 (Operand.tmp 11) (Operand.tmp 10) 3), 0, none⟩])
              (.seq
                (.cond (Operand.tmp 12)
                  .skip
                  (.exit 0))
                (.seq
                  (.block 1
                    (.seq
                      (.ops [
                        ⟨(some 13), (Op.indexAddr 25 (Operand.tmp 9) (Operand.tmp 11)), 0, none⟩,
                        ⟨(some 14), (Op.load 3 (Operand.tmp 13)), 3, none⟩,
                        ⟨(some 8), (Op.assign (Operand.tmp 14)), 3, none⟩])
                      (.seq
                        (.ops [
                          ⟨(some 15), (Op.move (Operand.tmp 8)), 3, none⟩,
                          ⟨(some 16), (Op.move (Operand.tmp 1)), 3, none⟩,
                          ⟨(some 17), (Op.move (Operand.tmp 2)), 3, none⟩,
                          ⟨(some 18), (Op.call { callee := (Callee.value (Operand.func 50)), args := #[(Operand.tmp 15), (Operand.tmp 16), (Operand.tmp 17)], argTypes := #[3, 3, 3] }), 4, none⟩,
                          ⟨(some 19), (Op.unOp UnOp.not 4 (Operand.tmp 18)), 4, none⟩])
                        (.cond (Operand.tmp 19)
                          (.seq
                            (.ops [
                              ⟨(some 6), (Op.assign (Operand.const (Value.bool false))), 4, none⟩])
                            .ret)
                          .skip))))
                  (.ops [
                    ⟨(some 20), (Op.binOp BinOp.add 3 (Operand.tmp 11) (Operand.const (Value.int IntKind.i64 1)) 3), 3, none⟩,
                    ⟨(some 11), (Op.move (Operand.tmp 20)), 3, none⟩])))))))
      (.seq
        (.ops [
          ⟨(some 6), (Op.assign (Operand.const (Value.bool true))), 4, none⟩])
        .ret))
theorem slim90 : Try.f90.body.map (slim lends) = some k90 := by kernel_rfl
theorem ok90 : fnOk Try.f90 3 = true := by kernel_rfl
theorem c90 {a l : List D} {r : D × List D} (h : wpD Y.env k90 (fin tys l.length [ResultVar.tmp 6] r) (entry a l)) (ha : a.length = 3) : Y.call 90 a l = some r :=
  call_slim (Y := Y) rfl Try.func90 (ha ▸ ok90) slim90 h

/-- impl.allWithin$1 -/
def k93 : SC :=
  .seq
    (.ops [
      ⟨(some 4), (Op.assign (Operand.const (Value.bool false))), 4, none⟩])
    (.seq
      (.ops [
        ⟨(some 5), (Op.move (Operand.tmp 0)), 3, none⟩,
        ⟨(some 6), (Op.load 3 (Operand.tmp 1)), 3, none⟩,
        ⟨(some 7), (Op.load 3 (Operand.tmp 2)), 3, none⟩,
        ⟨(some 8), (Op.call { callee := (Callee.value (Operand.func 52)), args := #[(Operand.tmp 5), (Operand.tmp 6), (Operand.tmp 7)], argTypes := #[3, 3, 3] }), 4, none⟩,
        ⟨(some 9), (Op.unOp UnOp.not 4 (Operand.tmp 8)), 4, none⟩,
        ⟨(some 4), (Op.assign (Operand.tmp 9)), 4, none⟩])
      .ret)
theorem slim93 : Try.f93.body.map (slim lends) = some k93 := by kernel_rfl
theorem ok93 : fnOk Try.f93 3 = true := by kernel_rfl
theorem c93 {a l : List D} {r : D × List D} (h : wpD Y.env k93 (fin tys l.length [ResultVar.tmp 4] r) (entry a l)) (ha : a.length = 3) : Y.call 93 a l = some r :=
  call_slim (Y := Y) rfl Try.func93 (ha ▸ ok93) slim93 h

/-- impl.allWithin -/
def k80 : SC :=
  .seq
    (.ops [
      ⟨(some 4), (Op.box 3 (Operand.tmp 1)), 0, none⟩,
      ⟨(some 5), (Op.box 3 (Operand.tmp 2)), 0, none⟩,
      ⟨(some 6), (Op.assign (Operand.const (Value.bool false))), 4, none⟩])
    (.seq
      (.ops [
        ⟨(some 7), (Op.move (Operand.tmp 0)), 25, none⟩,
        ⟨(some 8), (Op.makeFunc (Fn.func 93) #[] #[(Operand.tmp 4), (Operand.tmp 5)]), 24, none⟩,
        ⟨(some 9), (Op.call { callee := (Callee.value (Operand.func 92)), args := #[(Operand.tmp 7), (Operand.tmp 8)], argTypes := #[25, 24] }), 4, none⟩,
        ⟨(some 10), (Op.unOp UnOp.not 4 (Operand.tmp 9)), 4, none⟩,
        ⟨(some 6), (Op.assign (Operand.tmp 10)), 4, none⟩])
      .ret)
theorem slim80 : Try.f80.body.map (slim lends) = some k80 := by kernel_rfl
theorem ok80 : fnOk Try.f80 3 = true := by kernel_rfl
theorem c80 {a l : List D} {r : D × List D} (h : wpD Y.env k80 (fin tys l.length [ResultVar.tmp 6] r) (entry a l)) (ha : a.length = 3) : Y.call 80 a l = some r :=
  call_slim (Y := Y) rfl Try.func80 (ha ▸ ok80) slim80 h

theorem isNaN_eq (x : Int) : Y.call 105 [.int .i64 x] [] = some (.bool false, []) := by
  refine c105 ?_ rfl
  unfold k105
  simp only [↓xpre, xpost, yset, Option.bind_some, Option.map_some, Option.isSome_some, ↓reduceIte, Nat.reduceEqDiff, Nat.reduceLT, Nat.reduceLeDiff, Nat.reduceAdd, Nat.reduceMul, Nat.reduceMod, Nat.reduceSub, List.contains_cons, List.contains_nil, Nat.reduceBEq, List.getD_cons_zero, List.getD_cons_succ, List.getD_nil, List.length_cons, List.length_nil, List.size_toArray, List.toList_toArray, List.zip_cons_cons, List.zip_nil_left, List.append_nil, List.nil_append, List.cons_append, List.map_cons, List.map_nil, List.replicate_succ, List.replicate_zero, List.set_cons_zero, List.set_cons_succ, List.set_set, List.all_cons, List.all_nil, List.getElem?_cons_zero, List.getElem?_cons_succ, List.getElem?_nil, List.range_zero, beq_self_eq_true, Int.reduceLE, Int.reduceLT, Int.reduceEq, Int.reduceSub, Int.reduceAdd, Int.reduceToNat, Int.reduceNeg]
theorem less_eq (x y : Int) : Y.call 91 [.int .i64 x, .int .i64 y] [] = some (.bool (decide (x < y)), []) := by
  refine c91 ?_ rfl
  unfold k91
  simp only [↓xpre, xpost, yset, Option.bind_some, Option.map_some, Option.isSome_some, ↓reduceIte, Nat.reduceEqDiff, Nat.reduceLT, Nat.reduceLeDiff, Nat.reduceAdd, Nat.reduceMul, Nat.reduceMod, Nat.reduceSub, List.contains_cons, List.contains_nil, Nat.reduceBEq, List.getD_cons_zero, List.getD_cons_succ, List.getD_nil, List.length_cons, List.length_nil, List.size_toArray, List.toList_toArray, List.zip_cons_cons, List.zip_nil_left, List.append_nil, List.nil_append, List.cons_append, List.map_cons, List.map_nil, List.replicate_succ, List.replicate_zero, List.set_cons_zero, List.set_cons_succ, List.set_set, List.all_cons, List.all_nil, List.getElem?_cons_zero, List.getElem?_cons_succ, List.getElem?_nil, List.range_zero, beq_self_eq_true, Int.reduceLE, Int.reduceLT, Int.reduceEq, Int.reduceSub, Int.reduceAdd, Int.reduceToNat, Int.reduceNeg, isNaN_eq]
def cmpI (x y : Int) : Int := if x < y then -1 else if y < x then 1 else 0
theorem compare_eq (x y : Int) : Y.call 94 [.int .i64 x, .int .i64 y] [] = some (.int .i64 (cmpI x y), []) := by
  refine c94 ?_ rfl
  unfold k94 cmpI
  by_cases h1 : x < y
  · simp only [↓xpre, xpost, yset, Option.bind_some, Option.map_some, Option.isSome_some, ↓reduceIte, Nat.reduceEqDiff, Nat.reduceLT, Nat.reduceLeDiff, Nat.reduceAdd, Nat.reduceMul, Nat.reduceMod, Nat.reduceSub, List.contains_cons, List.contains_nil, Nat.reduceBEq, List.getD_cons_zero, List.getD_cons_succ, List.getD_nil, List.length_cons, List.length_nil, List.size_toArray, List.toList_toArray, List.zip_cons_cons, List.zip_nil_left, List.append_nil, List.nil_append, List.cons_append, List.map_cons, List.map_nil, List.replicate_succ, List.replicate_zero, List.set_cons_zero, List.set_cons_succ, List.set_set, List.all_cons, List.all_nil, List.getElem?_cons_zero, List.getElem?_cons_succ, List.getElem?_nil, List.range_zero, beq_self_eq_true, Int.reduceLE, Int.reduceLT, Int.reduceEq, Int.reduceSub, Int.reduceAdd, Int.reduceToNat, Int.reduceNeg, isNaN_eq, h1]
  · by_cases h2 : y < x <;> simp only [↓xpre, xpost, yset, Option.bind_some, Option.map_some, Option.isSome_some, ↓reduceIte, Nat.reduceEqDiff, Nat.reduceLT, Nat.reduceLeDiff, Nat.reduceAdd, Nat.reduceMul, Nat.reduceMod, Nat.reduceSub, List.contains_cons, List.contains_nil, Nat.reduceBEq, List.getD_cons_zero, List.getD_cons_succ, List.getD_nil, List.length_cons, List.length_nil, List.size_toArray, List.toList_toArray, List.zip_cons_cons, List.zip_nil_left, List.append_nil, List.nil_append, List.cons_append, List.map_cons, List.map_nil, List.replicate_succ, List.replicate_zero, List.set_cons_zero, List.set_cons_succ, List.set_set, List.all_cons, List.all_nil, List.getElem?_cons_zero, List.getElem?_cons_succ, List.getElem?_nil, List.range_zero, beq_self_eq_true, Int.reduceLE, Int.reduceLT, Int.reduceEq, Int.reduceSub, Int.reduceAdd, Int.reduceToNat, Int.reduceNeg, isNaN_eq, h1, h2]
def sortedAt (xs : List Int) (i : Nat) : Bool := !decide (xs.getD (i + 1) 0 < xs.getD i 0)
def sortedB (xs : List Int) : Bool := allUp (xs.length - 1) (sortedAt xs)
theorem isSorted_eq (xs : List Int) (h : xs.length < 1099511627776) : Y.call 79 [.sl 3 (ints xs)] [] = some (.bool (sortedB xs), []) := by
  refine c79 ?_ rfl
  unfold k79
  simp only [↓xpre, xpost, yset, Option.bind_some, Option.map_some, Option.isSome_some, ↓reduceIte, Nat.reduceEqDiff, Nat.reduceLT, Nat.reduceLeDiff, Nat.reduceAdd, Nat.reduceMul, Nat.reduceMod, Nat.reduceSub, List.contains_cons, List.contains_nil, Nat.reduceBEq, List.getD_cons_zero, List.getD_cons_succ, List.getD_nil, List.length_cons, List.length_nil, List.size_toArray, List.toList_toArray, List.zip_cons_cons, List.zip_nil_left, List.append_nil, List.nil_append, List.cons_append, List.map_cons, List.map_nil, List.replicate_succ, List.replicate_zero, List.set_cons_zero, List.set_cons_succ, List.set_set, List.all_cons, List.all_nil, List.getElem?_cons_zero, List.getElem?_cons_succ, List.getElem?_nil, List.range_zero, beq_self_eq_true, Int.reduceLE, Int.reduceLT, Int.reduceEq, Int.reduceSub, Int.reduceAdd, Int.reduceToNat, Int.reduceNeg, wr64 ((xs.length : Int) - 1) (by omega)]
  refine wd_loop (fun n s => ∃ m : Nat, n = m ∧ m ≤ xs.length ∧ (∀ j, m - 1 ≤ j → j < xs.length - 1 → sortedAt xs j = true) ∧ s.v 0 = .sl 3 (ints xs) ∧ s.v 3 = .int .i64 ((m : Int) - 1)) xs.length ⟨xs.length, rfl, Nat.le_refl _, by intro j h1 h2; omega, ?_⟩ ?_
  · simp only [↓xpre, xpost, yset, Option.bind_some, Option.map_some, Option.isSome_some, ↓reduceIte, Nat.reduceEqDiff, Nat.reduceLT, Nat.reduceLeDiff, Nat.reduceAdd, Nat.reduceMul, Nat.reduceMod, Nat.reduceSub, List.contains_cons, List.contains_nil, Nat.reduceBEq, List.getD_cons_zero, List.getD_cons_succ, List.getD_nil, List.length_cons, List.length_nil, List.size_toArray, List.toList_toArray, List.zip_cons_cons, List.zip_nil_left, List.append_nil, List.nil_append, List.cons_append, List.map_cons, List.map_nil, List.replicate_succ, List.replicate_zero, List.set_cons_zero, List.set_cons_succ, List.set_set, List.all_cons, List.all_nil, List.getElem?_cons_zero, List.getElem?_cons_succ, List.getElem?_nil, List.range_zero, beq_self_eq_true, Int.reduceLE, Int.reduceLT, Int.reduceEq, Int.reduceSub, Int.reduceAdd, Int.reduceToNat, Int.reduceNeg]
  · rintro n s ⟨m, rfl, hm, hp, h0, h3⟩
    by_cases hlt : 2 ≤ n
    · have e1 : (0 : Int) < (n : Int) - 1 := by omega
      have e2 : 0 ≤ (n : Int) - 1 := by omega
      have e3 : ((n : Int) - 1).toNat = n - 1 := by omega
      have e4 : n - 1 < xs.length := by omega
      have e5 : 0 ≤ (n : Int) - 1 - 1 := by omega
      have e6 : ((n : Int) - 1 - 1).toNat = n - 2 := by omega
      have e7 : n - 2 < xs.length := by omega
      by_cases hq : xs.getD (n - 1) 0 < xs.getD (n - 2) 0
      · have e8 : sortedB xs = false := allUp_false (i := n - 2) (by omega) (by simp only [sortedAt]; rw [show n - 2 + 1 = n - 1 by omega, decide_eq_true hq]; rfl)
        simp only [↓xpre, xpost, yset, Option.bind_some, Option.map_some, Option.isSome_some, ↓reduceIte, Nat.reduceEqDiff, Nat.reduceLT, Nat.reduceLeDiff, Nat.reduceAdd, Nat.reduceMul, Nat.reduceMod, Nat.reduceSub, List.contains_cons, List.contains_nil, Nat.reduceBEq, List.getD_cons_zero, List.getD_cons_succ, List.getD_nil, List.length_cons, List.length_nil, List.size_toArray, List.toList_toArray, List.zip_cons_cons, List.zip_nil_left, List.append_nil, List.nil_append, List.cons_append, List.map_cons, List.map_nil, List.replicate_succ, List.replicate_zero, List.set_cons_zero, List.set_cons_succ, List.set_set, List.all_cons, List.all_nil, List.getElem?_cons_zero, List.getElem?_cons_succ, List.getElem?_nil, List.range_zero, beq_self_eq_true, Int.reduceLE, Int.reduceLT, Int.reduceEq, Int.reduceSub, Int.reduceAdd, Int.reduceToNat, Int.reduceNeg, h0, h3, e1, e2, e3, e4, e5, e6, e7, less_eq, hq, e8, wr64 ((n : Int) - 1 - 1) (by omega)]
      · simp only [↓xpre, xpost, yset, Option.bind_some, Option.map_some, Option.isSome_some, ↓reduceIte, Nat.reduceEqDiff, Nat.reduceLT, Nat.reduceLeDiff, Nat.reduceAdd, Nat.reduceMul, Nat.reduceMod, Nat.reduceSub, List.contains_cons, List.contains_nil, Nat.reduceBEq, List.getD_cons_zero, List.getD_cons_succ, List.getD_nil, List.length_cons, List.length_nil, List.size_toArray, List.toList_toArray, List.zip_cons_cons, List.zip_nil_left, List.append_nil, List.nil_append, List.cons_append, List.map_cons, List.map_nil, List.replicate_succ, List.replicate_zero, List.set_cons_zero, List.set_cons_succ, List.set_set, List.all_cons, List.all_nil, List.getElem?_cons_zero, List.getElem?_cons_succ, List.getElem?_nil, List.range_zero, beq_self_eq_true, Int.reduceLE, Int.reduceLT, Int.reduceEq, Int.reduceSub, Int.reduceAdd, Int.reduceToNat, Int.reduceNeg, h0, h3, e1, e2, e3, e4, e5, e6, e7, less_eq, hq, wr64 ((n : Int) - 1 - 1) (by omega)]
        refine ⟨n - 1, by omega, n - 1, rfl, by omega, ?_, ?_⟩
        · intro j h1 h2
          by_cases hj : j = n - 2
          · subst hj; simp only [sortedAt]; rw [show n - 2 + 1 = n - 1 by omega, decide_eq_false hq]; rfl
          · exact hp j (by omega) h2
        · congr 1; omega
    · have e1 : ¬ (0 : Int) < (n : Int) - 1 := by omega
      have e8 : sortedB xs = true := allUp_true (fun j hj => hp j (by omega) hj)
      simp only [↓xpre, xpost, yset, Option.bind_some, Option.map_some, Option.isSome_some, ↓reduceIte, Nat.reduceEqDiff, Nat.reduceLT, Nat.reduceLeDiff, Nat.reduceAdd, Nat.reduceMul, Nat.reduceMod, Nat.reduceSub, List.contains_cons, List.contains_nil, Nat.reduceBEq, List.getD_cons_zero, List.getD_cons_succ, List.getD_nil, List.length_cons, List.length_nil, List.size_toArray, List.toList_toArray, List.zip_cons_cons, List.zip_nil_left, List.append_nil, List.nil_append, List.cons_append, List.map_cons, List.map_nil, List.replicate_succ, List.replicate_zero, List.set_cons_zero, List.set_cons_succ, List.set_set, List.all_cons, List.all_nil, List.getElem?_cons_zero, List.getElem?_cons_succ, List.getElem?_nil, List.range_zero, beq_self_eq_true, Int.reduceLE, Int.reduceLT, Int.reduceEq, Int.reduceSub, Int.reduceAdd, Int.reduceToNat, Int.reduceNeg, h0, h3, e1, e8]
def cmpL : List Int → List Int → Int
  | [], [] => 0
  | [], _ :: _ => -1
  | _ :: _, [] => 1
  | x :: xs, y :: ys => if x < y then -1 else if y < x then 1 else cmpL xs ys
theorem drop_getD (xs : List Int) (i : Nat) (h : i < xs.length) : xs.drop i = xs.getD i 0 :: xs.drop (i + 1) := by
  rw [List.drop_eq_getElem_cons h, List.getD_eq_getElem?_getD, List.getElem?_eq_getElem h]; rfl
theorem compareS_eq (xs ys : List Int) (hx : xs.length < 1099511627776) (hy : ys.length < 1099511627776) : Y.call 81 [.sl 3 (ints xs), .sl 3 (ints ys)] [] = some (.int .i64 (cmpL xs ys), []) := by
  refine c81 ?_ rfl
  unfold k81
  simp only [↓xpre, xpost, yset, Option.bind_some, Option.map_some, Option.isSome_some, ↓reduceIte, Nat.reduceEqDiff, Nat.reduceLT, Nat.reduceLeDiff, Nat.reduceAdd, Nat.reduceMul, Nat.reduceMod, Nat.reduceSub, List.contains_cons, List.contains_nil, Nat.reduceBEq, List.getD_cons_zero, List.getD_cons_succ, List.getD_nil, List.length_cons, List.length_nil, List.size_toArray, List.toList_toArray, List.zip_cons_cons, List.zip_nil_left, List.append_nil, List.nil_append, List.cons_append, List.map_cons, List.map_nil, List.replicate_succ, List.replicate_zero, List.set_cons_zero, List.set_cons_succ, List.set_set, List.all_cons, List.all_nil, List.getElem?_cons_zero, List.getElem?_cons_succ, List.getElem?_nil, List.range_zero, beq_self_eq_true, Int.reduceLE, Int.reduceLT, Int.reduceEq, Int.reduceSub, Int.reduceAdd, Int.reduceToNat, Int.reduceNeg]
  refine wd_loop (fun n s => ∃ i : Nat, n = xs.length - i ∧ i ≤ xs.length ∧ i ≤ ys.length ∧ cmpL xs ys = cmpL (xs.drop i) (ys.drop i) ∧ s.v 0 = .sl 3 (ints xs) ∧ s.v 1 = .sl 3 (ints ys) ∧ s.v 9 = .sl 3 (ints xs) ∧ s.v 10 = .int .i64 xs.length ∧ s.v 11 = .int .i64 i) xs.length ⟨0, by simp, by simp, by simp, by simp, ?_⟩ ?_
  · simp only [↓xpre, xpost, yset, Option.bind_some, Option.map_some, Option.isSome_some, ↓reduceIte, Nat.reduceEqDiff, Nat.reduceLT, Nat.reduceLeDiff, Nat.reduceAdd, Nat.reduceMul, Nat.reduceMod, Nat.reduceSub, List.contains_cons, List.contains_nil, Nat.reduceBEq, List.getD_cons_zero, List.getD_cons_succ, List.getD_nil, List.length_cons, List.length_nil, List.size_toArray, List.toList_toArray, List.zip_cons_cons, List.zip_nil_left, List.append_nil, List.nil_append, List.cons_append, List.map_cons, List.map_nil, List.replicate_succ, List.replicate_zero, List.set_cons_zero, List.set_cons_succ, List.set_set, List.all_cons, List.all_nil, List.getElem?_cons_zero, List.getElem?_cons_succ, List.getElem?_nil, List.range_zero, beq_self_eq_true, Int.reduceLE, Int.reduceLT, Int.reduceEq, Int.reduceSub, Int.reduceAdd, Int.reduceToNat, Int.reduceNeg]
    simp
  · rintro n s ⟨i, hn, hi, hj, hc, h0, h1, h9, h10, h11⟩
    by_cases hlt : i < xs.length
    · have e1 : (i : Int) < (xs.length : Int) := by omega
      by_cases hlt2 : i < ys.length
      · have e2 : ¬ (ys.length : Int) ≤ (i : Int) := by omega
        rw [drop_getD xs i hlt, drop_getD ys i hlt2, cmpL] at hc
        by_cases hl : xs.getD i 0 < ys.getD i 0
        · have e3 : cmpI (xs.getD i 0) (ys.getD i 0) = -1 := by simp only [cmpI, hl, if_true]
          have e4 : cmpL xs ys = -1 := by rw [hc, if_pos hl]
          simp only [↓xpre, xpost, yset, Option.bind_some, Option.map_some, Option.isSome_some, ↓reduceIte, Nat.reduceEqDiff, Nat.reduceLT, Nat.reduceLeDiff, Nat.reduceAdd, Nat.reduceMul, Nat.reduceMod, Nat.reduceSub, List.contains_cons, List.contains_nil, Nat.reduceBEq, List.getD_cons_zero, List.getD_cons_succ, List.getD_nil, List.length_cons, List.length_nil, List.size_toArray, List.toList_toArray, List.zip_cons_cons, List.zip_nil_left, List.append_nil, List.nil_append, List.cons_append, List.map_cons, List.map_nil, List.replicate_succ, List.replicate_zero, List.set_cons_zero, List.set_cons_succ, List.set_set, List.all_cons, List.all_nil, List.getElem?_cons_zero, List.getElem?_cons_succ, List.getElem?_nil, List.range_zero, beq_self_eq_true, Int.reduceLE, Int.reduceLT, Int.reduceEq, Int.reduceSub, Int.reduceAdd, Int.reduceToNat, Int.reduceNeg, h0, h1, h9, h10, h11, e1, hlt, hlt2, e2, compare_eq, e3, e4]
        · by_cases hg : ys.getD i 0 < xs.getD i 0
          · have e3 : cmpI (xs.getD i 0) (ys.getD i 0) = 1 := by simp only [cmpI, hl, hg, if_true, if_false]
            have e4 : cmpL xs ys = 1 := by rw [hc, if_neg hl, if_pos hg]
            simp only [↓xpre, xpost, yset, Option.bind_some, Option.map_some, Option.isSome_some, ↓reduceIte, Nat.reduceEqDiff, Nat.reduceLT, Nat.reduceLeDiff, Nat.reduceAdd, Nat.reduceMul, Nat.reduceMod, Nat.reduceSub, List.contains_cons, List.contains_nil, Nat.reduceBEq, List.getD_cons_zero, List.getD_cons_succ, List.getD_nil, List.length_cons, List.length_nil, List.size_toArray, List.toList_toArray, List.zip_cons_cons, List.zip_nil_left, List.append_nil, List.nil_append, List.cons_append, List.map_cons, List.map_nil, List.replicate_succ, List.replicate_zero, List.set_cons_zero, List.set_cons_succ, List.set_set, List.all_cons, List.all_nil, List.getElem?_cons_zero, List.getElem?_cons_succ, List.getElem?_nil, List.range_zero, beq_self_eq_true, Int.reduceLE, Int.reduceLT, Int.reduceEq, Int.reduceSub, Int.reduceAdd, Int.reduceToNat, Int.reduceNeg, h0, h1, h9, h10, h11, e1, hlt, hlt2, e2, compare_eq, e3, e4]
          · have e3 : cmpI (xs.getD i 0) (ys.getD i 0) = 0 := by simp only [cmpI, hl, hg, if_false]
            rw [if_neg hl, if_neg hg] at hc
            simp only [↓xpre, xpost, yset, Option.bind_some, Option.map_some, Option.isSome_some, ↓reduceIte, Nat.reduceEqDiff, Nat.reduceLT, Nat.reduceLeDiff, Nat.reduceAdd, Nat.reduceMul, Nat.reduceMod, Nat.reduceSub, List.contains_cons, List.contains_nil, Nat.reduceBEq, List.getD_cons_zero, List.getD_cons_succ, List.getD_nil, List.length_cons, List.length_nil, List.size_toArray, List.toList_toArray, List.zip_cons_cons, List.zip_nil_left, List.append_nil, List.nil_append, List.cons_append, List.map_cons, List.map_nil, List.replicate_succ, List.replicate_zero, List.set_cons_zero, List.set_cons_succ, List.set_set, List.all_cons, List.all_nil, List.getElem?_cons_zero, List.getElem?_cons_succ, List.getElem?_nil, List.range_zero, beq_self_eq_true, Int.reduceLE, Int.reduceLT, Int.reduceEq, Int.reduceSub, Int.reduceAdd, Int.reduceToNat, Int.reduceNeg, h0, h1, h9, h10, h11, e1, hlt, hlt2, e2, compare_eq, e3, wr64 ((i : Int) + 1) (by omega)]
            refine ⟨_, ?_, i + 1, rfl, by omega, by omega, hc, ?_⟩
            · omega
            · simp
      · have e2 : (ys.length : Int) ≤ (i : Int) := by omega
        have e4 : cmpL xs ys = 1 := by rw [hc, drop_getD xs i hlt, List.drop_eq_nil_of_le (by omega : ys.length ≤ i)]; rfl
        simp only [↓xpre, xpost, yset, Option.bind_some, Option.map_some, Option.isSome_some, ↓reduceIte, Nat.reduceEqDiff, Nat.reduceLT, Nat.reduceLeDiff, Nat.reduceAdd, Nat.reduceMul, Nat.reduceMod, Nat.reduceSub, List.contains_cons, List.contains_nil, Nat.reduceBEq, List.getD_cons_zero, List.getD_cons_succ, List.getD_nil, List.length_cons, List.length_nil, List.size_toArray, List.toList_toArray, List.zip_cons_cons, List.zip_nil_left, List.append_nil, List.nil_append, List.cons_append, List.map_cons, List.map_nil, List.replicate_succ, List.replicate_zero, List.set_cons_zero, List.set_cons_succ, List.set_set, List.all_cons, List.all_nil, List.getElem?_cons_zero, List.getElem?_cons_succ, List.getElem?_nil, List.range_zero, beq_self_eq_true, Int.reduceLE, Int.reduceLT, Int.reduceEq, Int.reduceSub, Int.reduceAdd, Int.reduceToNat, Int.reduceNeg, h0, h1, h9, h10, h11, e1, hlt, e2, e4]
    · have e1 : ¬ (i : Int) < (xs.length : Int) := by omega
      rw [List.drop_eq_nil_of_le (by omega : xs.length ≤ i)] at hc
      by_cases hl : (xs.length : Int) < (ys.length : Int)
      · have e4 : cmpL xs ys = -1 := by rw [hc, drop_getD ys i (by omega)]; rfl
        simp only [↓xpre, xpost, yset, Option.bind_some, Option.map_some, Option.isSome_some, ↓reduceIte, Nat.reduceEqDiff, Nat.reduceLT, Nat.reduceLeDiff, Nat.reduceAdd, Nat.reduceMul, Nat.reduceMod, Nat.reduceSub, List.contains_cons, List.contains_nil, Nat.reduceBEq, List.getD_cons_zero, List.getD_cons_succ, List.getD_nil, List.length_cons, List.length_nil, List.size_toArray, List.toList_toArray, List.zip_cons_cons, List.zip_nil_left, List.append_nil, List.nil_append, List.cons_append, List.map_cons, List.map_nil, List.replicate_succ, List.replicate_zero, List.set_cons_zero, List.set_cons_succ, List.set_set, List.all_cons, List.all_nil, List.getElem?_cons_zero, List.getElem?_cons_succ, List.getElem?_nil, List.range_zero, beq_self_eq_true, Int.reduceLE, Int.reduceLT, Int.reduceEq, Int.reduceSub, Int.reduceAdd, Int.reduceToNat, Int.reduceNeg, h0, h1, h9, h10, h11, e1, hl, e4]
      · have e4 : cmpL xs ys = 0 := by rw [hc, List.drop_eq_nil_of_le (by omega : ys.length ≤ i)]; rfl
        simp only [↓xpre, xpost, yset, Option.bind_some, Option.map_some, Option.isSome_some, ↓reduceIte, Nat.reduceEqDiff, Nat.reduceLT, Nat.reduceLeDiff, Nat.reduceAdd, Nat.reduceMul, Nat.reduceMod, Nat.reduceSub, List.contains_cons, List.contains_nil, Nat.reduceBEq, List.getD_cons_zero, List.getD_cons_succ, List.getD_nil, List.length_cons, List.length_nil, List.size_toArray, List.toList_toArray, List.zip_cons_cons, List.zip_nil_left, List.append_nil, List.nil_append, List.cons_append, List.map_cons, List.map_nil, List.replicate_succ, List.replicate_zero, List.set_cons_zero, List.set_cons_succ, List.set_set, List.all_cons, List.all_nil, List.getElem?_cons_zero, List.getElem?_cons_succ, List.getElem?_nil, List.range_zero, beq_self_eq_true, Int.reduceLE, Int.reduceLT, Int.reduceEq, Int.reduceSub, Int.reduceAdd, Int.reduceToNat, Int.reduceNeg, h0, h1, h9, h10, h11, e1, hl, e4]
def signI (n : Int) : Int := if 0 < n then 1 else if n < 0 then -1 else 0
theorem l1Sign_eq (n : Int) : Y.call 96 [.int .i64 n] [] = some (.int .i64 (signI n), []) := by
  refine c96 ?_ rfl
  unfold k96 signI
  by_cases h1 : 0 < n
  · simp only [↓xpre, xpost, yset, Option.bind_some, Option.map_some, Option.isSome_some, ↓reduceIte, Nat.reduceEqDiff, Nat.reduceLT, Nat.reduceLeDiff, Nat.reduceAdd, Nat.reduceMul, Nat.reduceMod, Nat.reduceSub, List.contains_cons, List.contains_nil, Nat.reduceBEq, List.getD_cons_zero, List.getD_cons_succ, List.getD_nil, List.length_cons, List.length_nil, List.size_toArray, List.toList_toArray, List.zip_cons_cons, List.zip_nil_left, List.append_nil, List.nil_append, List.cons_append, List.map_cons, List.map_nil, List.replicate_succ, List.replicate_zero, List.set_cons_zero, List.set_cons_succ, List.set_set, List.all_cons, List.all_nil, List.getElem?_cons_zero, List.getElem?_cons_succ, List.getElem?_nil, List.range_zero, beq_self_eq_true, Int.reduceLE, Int.reduceLT, Int.reduceEq, Int.reduceSub, Int.reduceAdd, Int.reduceToNat, Int.reduceNeg, h1]
  · by_cases h2 : n < 0 <;> simp only [↓xpre, xpost, yset, Option.bind_some, Option.map_some, Option.isSome_some, ↓reduceIte, Nat.reduceEqDiff, Nat.reduceLT, Nat.reduceLeDiff, Nat.reduceAdd, Nat.reduceMul, Nat.reduceMod, Nat.reduceSub, List.contains_cons, List.contains_nil, Nat.reduceBEq, List.getD_cons_zero, List.getD_cons_succ, List.getD_nil, List.length_cons, List.length_nil, List.size_toArray, List.toList_toArray, List.zip_cons_cons, List.zip_nil_left, List.append_nil, List.nil_append, List.cons_append, List.map_cons, List.map_nil, List.replicate_succ, List.replicate_zero, List.set_cons_zero, List.set_cons_succ, List.set_set, List.all_cons, List.all_nil, List.getElem?_cons_zero, List.getElem?_cons_succ, List.getElem?_nil, List.range_zero, beq_self_eq_true, Int.reduceLE, Int.reduceLT, Int.reduceEq, Int.reduceSub, Int.reduceAdd, Int.reduceToNat, Int.reduceNeg, h1, h2]
/-- Small numbers. -/
def Small (xs : List Int) : Prop := ∀ i, i < xs.length → 0 ≤ xs.getD i 0 ∧ xs.getD i 0 < 1099511627776
theorem prOrder_eq (xs ys : List Int) (hx : xs.length < 1099511627776) (hxy : xs.length = ys.length) (sx1 : Small xs) (sy1 : Small ys) : Y.call 83 [.sl 3 (ints xs), .sl 3 (ints ys)] [] = some (.int .i64 (cmpL xs ys), []) := by
  refine c83 ?_ rfl
  unfold k83
  simp only [↓xpre, xpost, yset, Option.bind_some, Option.map_some, Option.isSome_some, ↓reduceIte, Nat.reduceEqDiff, Nat.reduceLT, Nat.reduceLeDiff, Nat.reduceAdd, Nat.reduceMul, Nat.reduceMod, Nat.reduceSub, List.contains_cons, List.contains_nil, Nat.reduceBEq, List.getD_cons_zero, List.getD_cons_succ, List.getD_nil, List.length_cons, List.length_nil, List.size_toArray, List.toList_toArray, List.zip_cons_cons, List.zip_nil_left, List.append_nil, List.nil_append, List.cons_append, List.map_cons, List.map_nil, List.replicate_succ, List.replicate_zero, List.set_cons_zero, List.set_cons_succ, List.set_set, List.all_cons, List.all_nil, List.getElem?_cons_zero, List.getElem?_cons_succ, List.getElem?_nil, List.range_zero, beq_self_eq_true, Int.reduceLE, Int.reduceLT, Int.reduceEq, Int.reduceSub, Int.reduceAdd, Int.reduceToNat, Int.reduceNeg]
  refine wd_loop (fun n s => ∃ i : Nat, n = xs.length - i ∧ i ≤ xs.length ∧ cmpL xs ys = cmpL (xs.drop i) (ys.drop i) ∧ s.v 1 = .sl 3 (ints ys) ∧ s.v 7 = .sl 3 (ints xs) ∧ s.v 8 = .int .i64 xs.length ∧ s.v 9 = .int .i64 i) xs.length ⟨0, by simp, by simp, by simp, ?_⟩ ?_
  · simp only [↓xpre, xpost, yset, Option.bind_some, Option.map_some, Option.isSome_some, ↓reduceIte, Nat.reduceEqDiff, Nat.reduceLT, Nat.reduceLeDiff, Nat.reduceAdd, Nat.reduceMul, Nat.reduceMod, Nat.reduceSub, List.contains_cons, List.contains_nil, Nat.reduceBEq, List.getD_cons_zero, List.getD_cons_succ, List.getD_nil, List.length_cons, List.length_nil, List.size_toArray, List.toList_toArray, List.zip_cons_cons, List.zip_nil_left, List.append_nil, List.nil_append, List.cons_append, List.map_cons, List.map_nil, List.replicate_succ, List.replicate_zero, List.set_cons_zero, List.set_cons_succ, List.set_set, List.all_cons, List.all_nil, List.getElem?_cons_zero, List.getElem?_cons_succ, List.getElem?_nil, List.range_zero, beq_self_eq_true, Int.reduceLE, Int.reduceLT, Int.reduceEq, Int.reduceSub, Int.reduceAdd, Int.reduceToNat, Int.reduceNeg]
    simp
  · rintro n s ⟨i, hn, hi, hc, h1, h7, h8, h9⟩
    by_cases hlt : i < xs.length
    · have e1 : (i : Int) < (xs.length : Int) := by omega
      have hlt2 : i < ys.length := by omega
      have b1 := sx1 i hlt
      have b2 := sy1 i hlt2
      rw [drop_getD xs i hlt, drop_getD ys i hlt2, cmpL] at hc
      by_cases he : xs.getD i 0 = ys.getD i 0
      · have q1 : ¬ xs.getD i 0 < ys.getD i 0 := by omega
        have q2 : ¬ ys.getD i 0 < xs.getD i 0 := by omega
        rw [if_neg q1, if_neg q2] at hc
        simp only [↓xpre, xpost, yset, Option.bind_some, Option.map_some, Option.isSome_some, ↓reduceIte, Nat.reduceEqDiff, Nat.reduceLT, Nat.reduceLeDiff, Nat.reduceAdd, Nat.reduceMul, Nat.reduceMod, Nat.reduceSub, List.contains_cons, List.contains_nil, Nat.reduceBEq, List.getD_cons_zero, List.getD_cons_succ, List.getD_nil, List.length_cons, List.length_nil, List.size_toArray, List.toList_toArray, List.zip_cons_cons, List.zip_nil_left, List.append_nil, List.nil_append, List.cons_append, List.map_cons, List.map_nil, List.replicate_succ, List.replicate_zero, List.set_cons_zero, List.set_cons_succ, List.set_set, List.all_cons, List.all_nil, List.getElem?_cons_zero, List.getElem?_cons_succ, List.getElem?_nil, List.range_zero, beq_self_eq_true, Int.reduceLE, Int.reduceLT, Int.reduceEq, Int.reduceSub, Int.reduceAdd, Int.reduceToNat, Int.reduceNeg, h1, h7, h8, h9, e1, hlt, hlt2, he, wr64 ((i : Int) + 1) (by omega)]
        refine ⟨_, ?_, i + 1, rfl, by omega, hc, ?_⟩
        · omega
        · simp
      · have e4 : signI (xs.getD i 0 - ys.getD i 0) = cmpL xs ys := by
          rw [hc]; unfold signI
          by_cases hl : xs.getD i 0 < ys.getD i 0
          · rw [if_pos hl, if_neg (by omega), if_pos (by omega)]
          · rw [if_neg hl, if_pos (by omega : ys.getD i 0 < xs.getD i 0), if_pos (by omega)]
        simp only [↓xpre, xpost, yset, Option.bind_some, Option.map_some, Option.isSome_some, ↓reduceIte, Nat.reduceEqDiff, Nat.reduceLT, Nat.reduceLeDiff, Nat.reduceAdd, Nat.reduceMul, Nat.reduceMod, Nat.reduceSub, List.contains_cons, List.contains_nil, Nat.reduceBEq, List.getD_cons_zero, List.getD_cons_succ, List.getD_nil, List.length_cons, List.length_nil, List.size_toArray, List.toList_toArray, List.zip_cons_cons, List.zip_nil_left, List.append_nil, List.nil_append, List.cons_append, List.map_cons, List.map_nil, List.replicate_succ, List.replicate_zero, List.set_cons_zero, List.set_cons_succ, List.set_set, List.all_cons, List.all_nil, List.getElem?_cons_zero, List.getElem?_cons_succ, List.getElem?_nil, List.range_zero, beq_self_eq_true, Int.reduceLE, Int.reduceLT, Int.reduceEq, Int.reduceSub, Int.reduceAdd, Int.reduceToNat, Int.reduceNeg, h1, h7, h8, h9, e1, hlt, hlt2, he, l1Sign_eq, wr64 (xs.getD i 0 - ys.getD i 0) (by omega), e4]
    · have e1 : ¬ (i : Int) < (xs.length : Int) := by omega
      have e4 : cmpL xs ys = 0 := by rw [hc, List.drop_eq_nil_of_le (by omega : xs.length ≤ i), List.drop_eq_nil_of_le (by omega : ys.length ≤ i)]; rfl
      simp only [↓xpre, xpost, yset, Option.bind_some, Option.map_some, Option.isSome_some, ↓reduceIte, Nat.reduceEqDiff, Nat.reduceLT, Nat.reduceLeDiff, Nat.reduceAdd, Nat.reduceMul, Nat.reduceMod, Nat.reduceSub, List.contains_cons, List.contains_nil, Nat.reduceBEq, List.getD_cons_zero, List.getD_cons_succ, List.getD_nil, List.length_cons, List.length_nil, List.size_toArray, List.toList_toArray, List.zip_cons_cons, List.zip_nil_left, List.append_nil, List.nil_append, List.cons_append, List.map_cons, List.map_nil, List.replicate_succ, List.replicate_zero, List.set_cons_zero, List.set_cons_succ, List.set_set, List.all_cons, List.all_nil, List.getElem?_cons_zero, List.getElem?_cons_succ, List.getElem?_nil, List.range_zero, beq_self_eq_true, Int.reduceLE, Int.reduceLT, Int.reduceEq, Int.reduceSub, Int.reduceAdd, Int.reduceToNat, Int.reduceNeg, h1, h7, h8, h9, e1, e4]
def inAt (xs : List Int) (lo hi : Int) (i : Nat) : Bool := decide (lo ≤ xs.getD i 0) && decide (xs.getD i 0 ≤ hi)
def allIn (xs : List Int) (lo hi : Int) : Bool := allUp xs.length (inAt xs lo hi)
theorem l1All_eq (xs : List Int) (lo hi : Int) (h : xs.length < 1099511627776) : Y.call 90 [.sl 3 (ints xs), .int .i64 lo, .int .i64 hi] [] = some (.bool (allIn xs lo hi), []) := by
  refine c90 ?_ rfl
  unfold k90
  simp only [↓xpre, xpost, yset, Option.bind_some, Option.map_some, Option.isSome_some, ↓reduceIte, Nat.reduceEqDiff, Nat.reduceLT, Nat.reduceLeDiff, Nat.reduceAdd, Nat.reduceMul, Nat.reduceMod, Nat.reduceSub, List.contains_cons, List.contains_nil, Nat.reduceBEq, List.getD_cons_zero, List.getD_cons_succ, List.getD_nil, List.length_cons, List.length_nil, List.size_toArray, List.toList_toArray, List.zip_cons_cons, List.zip_nil_left, List.append_nil, List.nil_append, List.cons_append, List.map_cons, List.map_nil, List.replicate_succ, List.replicate_zero, List.set_cons_zero, List.set_cons_succ, List.set_set, List.all_cons, List.all_nil, List.getElem?_cons_zero, List.getElem?_cons_succ, List.getElem?_nil, List.range_zero, beq_self_eq_true, Int.reduceLE, Int.reduceLT, Int.reduceEq, Int.reduceSub, Int.reduceAdd, Int.reduceToNat, Int.reduceNeg]
  refine wd_loop (fun n s => ∃ i : Nat, n = xs.length - i ∧ i ≤ xs.length ∧ (∀ j, j < i → inAt xs lo hi j = true) ∧ s.v 1 = .int .i64 lo ∧ s.v 2 = .int .i64 hi ∧ s.v 9 = .sl 3 (ints xs) ∧ s.v 10 = .int .i64 xs.length ∧ s.v 11 = .int .i64 i) xs.length ⟨0, by simp, by simp, by simp, ?_⟩ ?_
  · simp only [↓xpre, xpost, yset, Option.bind_some, Option.map_some, Option.isSome_some, ↓reduceIte, Nat.reduceEqDiff, Nat.reduceLT, Nat.reduceLeDiff, Nat.reduceAdd, Nat.reduceMul, Nat.reduceMod, Nat.reduceSub, List.contains_cons, List.contains_nil, Nat.reduceBEq, List.getD_cons_zero, List.getD_cons_succ, List.getD_nil, List.length_cons, List.length_nil, List.size_toArray, List.toList_toArray, List.zip_cons_cons, List.zip_nil_left, List.append_nil, List.nil_append, List.cons_append, List.map_cons, List.map_nil, List.replicate_succ, List.replicate_zero, List.set_cons_zero, List.set_cons_succ, List.set_set, List.all_cons, List.all_nil, List.getElem?_cons_zero, List.getElem?_cons_succ, List.getElem?_nil, List.range_zero, beq_self_eq_true, Int.reduceLE, Int.reduceLT, Int.reduceEq, Int.reduceSub, Int.reduceAdd, Int.reduceToNat, Int.reduceNeg]
    simp
  · rintro n s ⟨i, hn, hi', hp, h1, h2, h9, h10, h11⟩
    by_cases hlt : i < xs.length
    · have e1 : (i : Int) < (xs.length : Int) := by omega
      cases hw : inAt xs lo hi i with
      | true =>
        have hw' := hw
        unfold inAt at hw'
        simp only [↓xpre, xpost, yset, Option.bind_some, Option.map_some, Option.isSome_some, ↓reduceIte, Nat.reduceEqDiff, Nat.reduceLT, Nat.reduceLeDiff, Nat.reduceAdd, Nat.reduceMul, Nat.reduceMod, Nat.reduceSub, List.contains_cons, List.contains_nil, Nat.reduceBEq, List.getD_cons_zero, List.getD_cons_succ, List.getD_nil, List.length_cons, List.length_nil, List.size_toArray, List.toList_toArray, List.zip_cons_cons, List.zip_nil_left, List.append_nil, List.nil_append, List.cons_append, List.map_cons, List.map_nil, List.replicate_succ, List.replicate_zero, List.set_cons_zero, List.set_cons_succ, List.set_set, List.all_cons, List.all_nil, List.getElem?_cons_zero, List.getElem?_cons_succ, List.getElem?_nil, List.range_zero, beq_self_eq_true, Int.reduceLE, Int.reduceLT, Int.reduceEq, Int.reduceSub, Int.reduceAdd, Int.reduceToNat, Int.reduceNeg, h1, h2, h9, h10, h11, e1, hlt, l1In_eq, hw', wr64 ((i : Int) + 1) (by omega)]
        refine ⟨_, ?_, i + 1, rfl, by omega, ?_, ?_⟩
        · omega
        · intro j hj
          by_cases hji : j = i
          · subst hji; exact hw
          · exact hp j (by omega)
        · simp
      | false =>
        have e6 : allIn xs lo hi = false := allUp_false hlt hw
        unfold inAt at hw
        simp only [↓xpre, xpost, yset, Option.bind_some, Option.map_some, Option.isSome_some, ↓reduceIte, Nat.reduceEqDiff, Nat.reduceLT, Nat.reduceLeDiff, Nat.reduceAdd, Nat.reduceMul, Nat.reduceMod, Nat.reduceSub, List.contains_cons, List.contains_nil, Nat.reduceBEq, List.getD_cons_zero, List.getD_cons_succ, List.getD_nil, List.length_cons, List.length_nil, List.size_toArray, List.toList_toArray, List.zip_cons_cons, List.zip_nil_left, List.append_nil, List.nil_append, List.cons_append, List.map_cons, List.map_nil, List.replicate_succ, List.replicate_zero, List.set_cons_zero, List.set_cons_succ, List.set_set, List.all_cons, List.all_nil, List.getElem?_cons_zero, List.getElem?_cons_succ, List.getElem?_nil, List.range_zero, beq_self_eq_true, Int.reduceLE, Int.reduceLT, Int.reduceEq, Int.reduceSub, Int.reduceAdd, Int.reduceToNat, Int.reduceNeg, h1, h2, h9, h10, h11, e1, hlt, l1In_eq, hw, e6]
    · have e1 : ¬ (i : Int) < (xs.length : Int) := by omega
      have e6 : allIn xs lo hi = true := allUp_true (fun j hj => hp j (by omega))
      simp only [↓xpre, xpost, yset, Option.bind_some, Option.map_some, Option.isSome_some, ↓reduceIte, Nat.reduceEqDiff, Nat.reduceLT, Nat.reduceLeDiff, Nat.reduceAdd, Nat.reduceMul, Nat.reduceMod, Nat.reduceSub, List.contains_cons, List.contains_nil, Nat.reduceBEq, List.getD_cons_zero, List.getD_cons_succ, List.getD_nil, List.length_cons, List.length_nil, List.size_toArray, List.toList_toArray, List.zip_cons_cons, List.zip_nil_left, List.append_nil, List.nil_append, List.cons_append, List.map_cons, List.map_nil, List.replicate_succ, List.replicate_zero, List.set_cons_zero, List.set_cons_succ, List.set_set, List.all_cons, List.all_nil, List.getElem?_cons_zero, List.getElem?_cons_succ, List.getElem?_nil, List.range_zero, beq_self_eq_true, Int.reduceLE, Int.reduceLT, Int.reduceEq, Int.reduceSub, Int.reduceAdd, Int.reduceToNat, Int.reduceNeg, h1, h2, h9, h10, h11, e1, e6]
/-- The first place at which a test holds. -/
def firstAt (n : Nat) (p : Nat → Bool) : Int := match (List.range n).find? p with | some i => (i : Int) | none => -1
theorem firstAt_some {n i : Nat} {p : Nat → Bool} (h : i < n) (hp : p i = true) (hq : ∀ j, j < i → p j = false) : firstAt n p = i := by
  have : (List.range n).find? p = some i := by
    rw [List.find?_range_eq_some]
    exact ⟨hp, List.mem_range.2 h, fun j hj => by simp [hq j hj]⟩
  simp [firstAt, this]
theorem firstAt_none {n : Nat} {p : Nat → Bool} (hq : ∀ j, j < n → p j = false) : firstAt n p = -1 := by
  have : (List.range n).find? p = none := by
    rw [List.find?_eq_none]; intro j hj; simp [hq j (List.mem_range.1 hj)]
  simp [firstAt, this]
theorem firstAt_ge (n : Nat) (p : Nat → Bool) : decide ((0 : Int) ≤ firstAt n p) = !allUp n (fun j => !p j) := by
  unfold firstAt allUp
  cases h : (List.range n).find? p with
  | none =>
    rw [List.find?_eq_none] at h
    have : (List.range n).all (fun j => !p j) = true := by rw [List.all_eq_true]; intro j hj; simp [h j hj]
    simp [this]
  | some i =>
    have h1 := List.find?_some h
    have h2 := List.mem_of_find?_eq_some h
    have : (List.range n).all (fun j => !p j) = false := by rw [List.all_eq_false]; exact ⟨i, h2, by simp [h1]⟩
    simp [this]
theorem indexFunc_eq (xs : List Int) (f : FuncId) (caps : List D) (p : Int → Bool) (h : xs.length < 1099511627776) (hl : lends f = false) (hf : ∀ x, Y.call f (.int .i64 x :: caps) [] = some (.bool (p x), [])) :
    Y.call 106 [.sl 3 (ints xs), .clo f caps] [] = some (.int .i64 (firstAt xs.length fun i => p (xs.getD i 0)), []) := by
  refine c106 ?_ rfl
  unfold k106
  simp only [↓xpre, xpost, yset, Option.bind_some, Option.map_some, Option.isSome_some, ↓reduceIte, Nat.reduceEqDiff, Nat.reduceLT, Nat.reduceLeDiff, Nat.reduceAdd, Nat.reduceMul, Nat.reduceMod, Nat.reduceSub, List.contains_cons, List.contains_nil, Nat.reduceBEq, List.getD_cons_zero, List.getD_cons_succ, List.getD_nil, List.length_cons, List.length_nil, List.size_toArray, List.toList_toArray, List.zip_cons_cons, List.zip_nil_left, List.append_nil, List.nil_append, List.cons_append, List.map_cons, List.map_nil, List.replicate_succ, List.replicate_zero, List.set_cons_zero, List.set_cons_succ, List.set_set, List.all_cons, List.all_nil, List.getElem?_cons_zero, List.getElem?_cons_succ, List.getElem?_nil, List.range_zero, beq_self_eq_true, Int.reduceLE, Int.reduceLT, Int.reduceEq, Int.reduceSub, Int.reduceAdd, Int.reduceToNat, Int.reduceNeg]
  refine wd_loop (fun n s => ∃ i : Nat, n = xs.length - i ∧ i ≤ xs.length ∧ (∀ j, j < i → p (xs.getD j 0) = false) ∧ s.v 0 = .sl 3 (ints xs) ∧ s.v 1 = .clo f caps ∧ s.v 7 = .int .i64 xs.length ∧ s.v 8 = .int .i64 i) xs.length ⟨0, by simp, by simp, by simp, ?_⟩ ?_
  · simp only [↓xpre, xpost, yset, Option.bind_some, Option.map_some, Option.isSome_some, ↓reduceIte, Nat.reduceEqDiff, Nat.reduceLT, Nat.reduceLeDiff, Nat.reduceAdd, Nat.reduceMul, Nat.reduceMod, Nat.reduceSub, List.contains_cons, List.contains_nil, Nat.reduceBEq, List.getD_cons_zero, List.getD_cons_succ, List.getD_nil, List.length_cons, List.length_nil, List.size_toArray, List.toList_toArray, List.zip_cons_cons, List.zip_nil_left, List.append_nil, List.nil_append, List.cons_append, List.map_cons, List.map_nil, List.replicate_succ, List.replicate_zero, List.set_cons_zero, List.set_cons_succ, List.set_set, List.all_cons, List.all_nil, List.getElem?_cons_zero, List.getElem?_cons_succ, List.getElem?_nil, List.range_zero, beq_self_eq_true, Int.reduceLE, Int.reduceLT, Int.reduceEq, Int.reduceSub, Int.reduceAdd, Int.reduceToNat, Int.reduceNeg]
    simp
  · rintro n s ⟨i, hn, hi', hp, h0, h1, h7, h8⟩
    by_cases hlt : i < xs.length
    · have e1 : (i : Int) < (xs.length : Int) := by omega
      cases hw : p (xs.getD i 0) with
      | true =>
        have e6 := firstAt_some (p := fun i => p (xs.getD i 0)) hlt hw hp
        simp only [↓xpre, xpost, yset, Option.bind_some, Option.map_some, Option.isSome_some, ↓reduceIte, Nat.reduceEqDiff, Nat.reduceLT, Nat.reduceLeDiff, Nat.reduceAdd, Nat.reduceMul, Nat.reduceMod, Nat.reduceSub, List.contains_cons, List.contains_nil, Nat.reduceBEq, List.getD_cons_zero, List.getD_cons_succ, List.getD_nil, List.length_cons, List.length_nil, List.size_toArray, List.toList_toArray, List.zip_cons_cons, List.zip_nil_left, List.append_nil, List.nil_append, List.cons_append, List.map_cons, List.map_nil, List.replicate_succ, List.replicate_zero, List.set_cons_zero, List.set_cons_succ, List.set_set, List.all_cons, List.all_nil, List.getElem?_cons_zero, List.getElem?_cons_succ, List.getElem?_nil, List.range_zero, beq_self_eq_true, Int.reduceLE, Int.reduceLT, Int.reduceEq, Int.reduceSub, Int.reduceAdd, Int.reduceToNat, Int.reduceNeg, h0, h1, h7, h8, e1, hlt, hl, hf, hw, e6]
      | false =>
        simp only [↓xpre, xpost, yset, Option.bind_some, Option.map_some, Option.isSome_some, ↓reduceIte, Nat.reduceEqDiff, Nat.reduceLT, Nat.reduceLeDiff, Nat.reduceAdd, Nat.reduceMul, Nat.reduceMod, Nat.reduceSub, List.contains_cons, List.contains_nil, Nat.reduceBEq, List.getD_cons_zero, List.getD_cons_succ, List.getD_nil, List.length_cons, List.length_nil, List.size_toArray, List.toList_toArray, List.zip_cons_cons, List.zip_nil_left, List.append_nil, List.nil_append, List.cons_append, List.map_cons, List.map_nil, List.replicate_succ, List.replicate_zero, List.set_cons_zero, List.set_cons_succ, List.set_set, List.all_cons, List.all_nil, List.getElem?_cons_zero, List.getElem?_cons_succ, List.getElem?_nil, List.range_zero, beq_self_eq_true, Int.reduceLE, Int.reduceLT, Int.reduceEq, Int.reduceSub, Int.reduceAdd, Int.reduceToNat, Int.reduceNeg, h0, h1, h7, h8, e1, hlt, hl, hf, hw, wr64 ((i : Int) + 1) (by omega)]
        refine ⟨_, ?_, i + 1, rfl, by omega, ?_, ?_⟩
        · omega
        · intro j hj
          by_cases hji : j = i
          · subst hji; exact hw
          · exact hp j (by omega)
        · simp
    · have e1 : ¬ (i : Int) < (xs.length : Int) := by omega
      have e6 := firstAt_none (n := xs.length) (p := fun i => p (xs.getD i 0)) (fun j hj => hp j (by omega))
      simp only [↓xpre, xpost, yset, Option.bind_some, Option.map_some, Option.isSome_some, ↓reduceIte, Nat.reduceEqDiff, Nat.reduceLT, Nat.reduceLeDiff, Nat.reduceAdd, Nat.reduceMul, Nat.reduceMod, Nat.reduceSub, List.contains_cons, List.contains_nil, Nat.reduceBEq, List.getD_cons_zero, List.getD_cons_succ, List.getD_nil, List.length_cons, List.length_nil, List.size_toArray, List.toList_toArray, List.zip_cons_cons, List.zip_nil_left, List.append_nil, List.nil_append, List.cons_append, List.map_cons, List.map_nil, List.replicate_succ, List.replicate_zero, List.set_cons_zero, List.set_cons_succ, List.set_set, List.all_cons, List.all_nil, List.getElem?_cons_zero, List.getElem?_cons_succ, List.getElem?_nil, List.range_zero, beq_self_eq_true, Int.reduceLE, Int.reduceLT, Int.reduceEq, Int.reduceSub, Int.reduceAdd, Int.reduceToNat, Int.reduceNeg, h0, h1, h7, h8, e1, e6]
theorem containsFunc_eq (xs : List Int) (f : FuncId) (caps : List D) (p : Int → Bool) (h : xs.length < 1099511627776) (hl : lends f = false) (hf : ∀ x, Y.call f (.int .i64 x :: caps) [] = some (.bool (p x), [])) :
    Y.call 92 [.sl 3 (ints xs), .clo f caps] [] = some (.bool (!allUp xs.length fun i => !p (xs.getD i 0)), []) := by
  refine c92 ?_ rfl
  unfold k92
  simp only [↓xpre, xpost, yset, Option.bind_some, Option.map_some, Option.isSome_some, ↓reduceIte, Nat.reduceEqDiff, Nat.reduceLT, Nat.reduceLeDiff, Nat.reduceAdd, Nat.reduceMul, Nat.reduceMod, Nat.reduceSub, List.contains_cons, List.contains_nil, Nat.reduceBEq, List.getD_cons_zero, List.getD_cons_succ, List.getD_nil, List.length_cons, List.length_nil, List.size_toArray, List.toList_toArray, List.zip_cons_cons, List.zip_nil_left, List.append_nil, List.nil_append, List.cons_append, List.map_cons, List.map_nil, List.replicate_succ, List.replicate_zero, List.set_cons_zero, List.set_cons_succ, List.set_set, List.all_cons, List.all_nil, List.getElem?_cons_zero, List.getElem?_cons_succ, List.getElem?_nil, List.range_zero, beq_self_eq_true, Int.reduceLE, Int.reduceLT, Int.reduceEq, Int.reduceSub, Int.reduceAdd, Int.reduceToNat, Int.reduceNeg, indexFunc_eq xs f caps p h hl hf, firstAt_ge]
theorem allWithin1_eq (x lo hi : Int) : Y.call 93 [.int .i64 x, .cptr [.int .i64 lo], .cptr [.int .i64 hi]] [] = some (.bool (!(decide (lo ≤ x) && decide (x ≤ hi))), []) := by
  refine c93 ?_ rfl
  unfold k93
  simp only [↓xpre, xpost, yset, Option.bind_some, Option.map_some, Option.isSome_some, ↓reduceIte, Nat.reduceEqDiff, Nat.reduceLT, Nat.reduceLeDiff, Nat.reduceAdd, Nat.reduceMul, Nat.reduceMod, Nat.reduceSub, List.contains_cons, List.contains_nil, Nat.reduceBEq, List.getD_cons_zero, List.getD_cons_succ, List.getD_nil, List.length_cons, List.length_nil, List.size_toArray, List.toList_toArray, List.zip_cons_cons, List.zip_nil_left, List.append_nil, List.nil_append, List.cons_append, List.map_cons, List.map_nil, List.replicate_succ, List.replicate_zero, List.set_cons_zero, List.set_cons_succ, List.set_set, List.all_cons, List.all_nil, List.getElem?_cons_zero, List.getElem?_cons_succ, List.getElem?_nil, List.range_zero, beq_self_eq_true, Int.reduceLE, Int.reduceLT, Int.reduceEq, Int.reduceSub, Int.reduceAdd, Int.reduceToNat, Int.reduceNeg, within_eq]
theorem allWithin_eq (xs : List Int) (lo hi : Int) (h : xs.length < 1099511627776) : Y.call 80 [.sl 3 (ints xs), .int .i64 lo, .int .i64 hi] [] = some (.bool (allIn xs lo hi), []) := by
  refine c80 ?_ rfl
  unfold k80
  simp only [↓xpre, xpost, yset, Option.bind_some, Option.map_some, Option.isSome_some, ↓reduceIte, Nat.reduceEqDiff, Nat.reduceLT, Nat.reduceLeDiff, Nat.reduceAdd, Nat.reduceMul, Nat.reduceMod, Nat.reduceSub, List.contains_cons, List.contains_nil, Nat.reduceBEq, List.getD_cons_zero, List.getD_cons_succ, List.getD_nil, List.length_cons, List.length_nil, List.size_toArray, List.toList_toArray, List.zip_cons_cons, List.zip_nil_left, List.append_nil, List.nil_append, List.cons_append, List.map_cons, List.map_nil, List.replicate_succ, List.replicate_zero, List.set_cons_zero, List.set_cons_succ, List.set_set, List.all_cons, List.all_nil, List.getElem?_cons_zero, List.getElem?_cons_succ, List.getElem?_nil, List.range_zero, beq_self_eq_true, Int.reduceLE, Int.reduceLT, Int.reduceEq, Int.reduceSub, Int.reduceAdd, Int.reduceToNat, Int.reduceNeg, containsFunc_eq xs 93 [.cptr [.int .i64 lo], .cptr [.int .i64 hi]] (fun x => !(decide (lo ≤ x) && decide (x ≤ hi))) h le93 (fun x => allWithin1_eq x lo hi), Bool.not_not]
  rfl

end Go.Proofs.Ythaimoghceamnaa
