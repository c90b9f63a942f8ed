/- When lists are a problem. Conditions: the lists are short. -/
import Derived.Test.YthaimoghceamnaaCmp
namespace Go.Proofs.Ythaimoghceamnaa
open Go Dv
set_option linter.unusedSimpArgs false
set_option linter.unusedVariables false
set_option maxRecDepth 100000

/-- impl.configurationsOk -/
def k57 : SC :=
  .seq
    (.ops [
      ⟨(some 6), (Op.assign (Operand.const (Value.bool false))), 4, none⟩])
    (.seq
      (.seq
        (.ops [
          ⟨(some 9), (Op.move (Operand.tmp 0)), 34, none⟩,
          ⟨(some 10), (Op.call { callee := (Callee.builtin Builtin.len), args := #[(Operand.tmp 9)], argTypes := #[34] }), 3, none⟩,
          ⟨(some 11), (Op.move (Operand.const (Value.int IntKind.i64 0))), 3, none⟩])
        (.block 0
          (.loop
            (.seq
              (.ops [
                ⟨(some 12), (Op.binOp BinOp.lss 3 (Operand.tmp 11) (Operand.tmp 10) 3), 0, none⟩])
              (.seq
                (.cond (Operand.tmp 12)
                  .skip
                  (.exit 0))
                (.seq
                  (.block 1
                    (.seq
                      (.ops [
                        ⟨(some 13), (Op.move (Operand.tmp 11)), 3, none⟩,
                        ⟨(some 14), (Op.indexAddr 34 (Operand.tmp 9) (Operand.tmp 11)), 0, none⟩,
                        ⟨(some 15), (Op.load 25 (Operand.tmp 14)), 25, none⟩,
                        ⟨(some 7), (Op.assign (Operand.tmp 13)), 3, none⟩,
                        ⟨(some 8), (Op.assign (Operand.tmp 15)), 25, none⟩])
                      (.seq
                        (.ops [
                          ⟨(some 16), (Op.move (Operand.tmp 8)), 25, none⟩,
                          ⟨(some 17), (Op.call { callee := (Callee.builtin Builtin.len), args := #[(Operand.tmp 16)], argTypes := #[25] }), 3, none⟩,
                          ⟨(some 18), (Op.move (Operand.tmp 1)), 3, none⟩,
                          ⟨(some 19), (Op.binOp BinOp.neq 3 (Operand.tmp 17) (Operand.tmp 18) 3), 4, none⟩,
                          ⟨(some 20), (Op.move (Operand.tmp 19)), 4, none⟩,
                          ⟨(some 21), (Op.move (Operand.tmp 8)), 25, (some (some 20, false))⟩,
                          ⟨(some 22), (Op.call { callee := (Callee.value (Operand.func 79)), args := #[(Operand.tmp 21)], argTypes := #[25] }), 4, (some (some 20, false))⟩,
                          ⟨(some 23), (Op.unOp UnOp.not 4 (Operand.tmp 22)), 4, (some (some 20, false))⟩,
                          ⟨(some 24), (Op.pick (Operand.tmp 20) (Operand.const (Value.bool true)) (Operand.tmp 23)), 4, none⟩,
                          ⟨(some 25), (Op.move (Operand.tmp 24)), 4, none⟩,
                          ⟨(some 26), (Op.move (Operand.tmp 8)), 25, (some (some 25, false))⟩,
                          ⟨(some 27), (Op.move (Operand.tmp 2)), 3, (some (some 25, false))⟩,
                          ⟨(some 28), (Op.binOp BinOp.sub 3 (Operand.tmp 27) (Operand.const (Value.int IntKind.i64 1)) 3), 3, (some (some 25, false))⟩,
                          ⟨(some 29), (Op.call { callee := (Callee.value (Operand.func 80)), args := #[(Operand.tmp 26), (Operand.const (Value.int IntKind.i64 0)), (Operand.tmp 28)], argTypes := #[25, 3, 3] }), 4, (some (some 25, false))⟩,
                          ⟨(some 30), (Op.unOp UnOp.not 4 (Operand.tmp 29)), 4, (some (some 25, false))⟩,
                          ⟨(some 31), (Op.pick (Operand.tmp 25) (Operand.const (Value.bool true)) (Operand.tmp 30)), 4, none⟩,
                          ⟨(some 32), (Op.move (Operand.tmp 31)), 4, none⟩,
                          ⟨(some 33), (Op.move (Operand.tmp 7)), 3, (some (some 32, false))⟩,
                          ⟨(some 34), (Op.binOp BinOp.gtr 3 (Operand.tmp 33) (Operand.const (Value.int IntKind.i64 0)) 3), 4, (some (some 32, false))⟩,
                          ⟨(some 35), (Op.move (Operand.tmp 34)), 4, (some (some 32, false))⟩,
                          ⟨(some 36), (Op.move (Operand.tmp 0)), 34, (some (some 35, true))⟩,
                          ⟨(some 37), (Op.move (Operand.tmp 7)), 3, (some (some 35, true))⟩,
                          ⟨(some 38), (Op.binOp BinOp.sub 3 (Operand.tmp 37) (Operand.const (Value.int IntKind.i64 1)) 3), 3, (some (some 35, true))⟩,
                          ⟨(some 39), (Op.indexAddr 34 (Operand.tmp 36) (Operand.tmp 38)), 0, (some (some 35, true))⟩,
                          ⟨(some 40), (Op.load 25 (Operand.tmp 39)), 25, (some (some 35, true))⟩,
                          ⟨(some 41), (Op.move (Operand.tmp 8)), 25, (some (some 35, true))⟩,
                          ⟨(some 42), (Op.call { callee := (Callee.value (Operand.func 81)), args := #[(Operand.tmp 40), (Operand.tmp 41)], argTypes := #[25, 25] }), 3, (some (some 35, true))⟩,
                          ⟨(some 43), (Op.binOp BinOp.geq 3 (Operand.tmp 42) (Operand.const (Value.int IntKind.i64 0)) 3), 4, (some (some 35, true))⟩,
                          ⟨(some 44), (Op.pick (Operand.tmp 35) (Operand.tmp 43) (Operand.const (Value.bool false))), 4, (some (some 32, false))⟩,
                          ⟨(some 45), (Op.pick (Operand.tmp 32) (Operand.const (Value.bool true)) (Operand.tmp 44)), 4, none⟩])
                        (.cond (Operand.tmp 45)
                          (.seq
                            (.ops [
                              ⟨(some 6), (Op.assign (Operand.const (Value.bool false))), 4, none⟩])
                            .ret)
                          .skip))))
                  (.ops [
                    ⟨(some 46), (Op.binOp BinOp.add 3 (Operand.tmp 11) (Operand.const (Value.int IntKind.i64 1)) 3), 3, none⟩,
                    ⟨(some 11), (Op.move (Operand.tmp 46)), 3, none⟩])))))))
      (.seq
        (.ops [
          ⟨(some 6), (Op.assign (Operand.const (Value.bool true))), 4, none⟩])
        .ret))
theorem slim57 : Try.f57.body.map (slim lends) = some k57 := by kernel_rfl
theorem ok57 : fnOk Try.f57 3 = true := by kernel_rfl
theorem c57 {a l : List D} {r : D × List D} (h : wpD Y.env k57 (fin tys l.length [ResultVar.tmp 6] r) (entry a l)) (ha : a.length = 3) : Y.call 57 a l = some r :=
  call_slim (Y := Y) rfl Try.func57 (ha ▸ ok57) slim57 h

/-- spec.prLists -/
def k78 : SC :=
  .seq
    (.ops [
      ⟨(some 6), (Op.assign (Operand.const (Value.bool false))), 4, none⟩])
    (.seq
      (.seq
        (.ops [
          ⟨(some 10), (Op.move (Operand.tmp 0)), 34, none⟩,
          ⟨(some 11), (Op.call { callee := (Callee.builtin Builtin.len), args := #[(Operand.tmp 10)], argTypes := #[34] }), 3, none⟩,
          ⟨(some 12), (Op.move (Operand.const (Value.int IntKind.i64 0))), 3, none⟩])
        (.block 0
          (.loop
            (.seq
              (.ops [
                ⟨(some 13), (Op.binOp BinOp.lss 3 (Operand.tmp 12) (Operand.tmp 11) 3), 0, none⟩])
              (.seq
                (.cond (Operand.tmp 13)
                  .skip
                  (.exit 0))
                (.seq
                  (.block 1
                    (.seq
                      (.ops [
                        ⟨(some 14), (Op.move (Operand.tmp 12)), 3, none⟩,
                        ⟨(some 15), (Op.indexAddr 34 (Operand.tmp 10) (Operand.tmp 12)), 0, none⟩,
                        ⟨(some 16), (Op.load 25 (Operand.tmp 15)), 25, none⟩,
                        ⟨(some 7), (Op.assign (Operand.tmp 14)), 3, none⟩,
                        ⟨(some 8), (Op.assign (Operand.tmp 16)), 25, none⟩])
                      (.seq
                        (.seq
                          (.ops [
                            ⟨(some 17), (Op.move (Operand.tmp 8)), 25, none⟩,
                            ⟨(some 18), (Op.call { callee := (Callee.builtin Builtin.len), args := #[(Operand.tmp 17)], argTypes := #[25] }), 3, none⟩,
                            ⟨(some 19), (Op.move (Operand.tmp 1)), 3, none⟩,
                            ⟨(some 20), (Op.binOp BinOp.neq 3 (Operand.tmp 18) (Operand.tmp 19) 3), 4, none⟩,
                            ⟨(some 21), (Op.move (Operand.tmp 20)), 4, none⟩,
                            ⟨(some 22), (Op.move (Operand.tmp 8)), 25, (some (some 21, false))⟩,
                            ⟨(some 23), (Op.move (Operand.tmp 2)), 3, (some (some 21, false))⟩,
                            ⟨(some 24), (Op.binOp BinOp.sub 3 (Operand.tmp 23) (Operand.const (Value.int IntKind.i64 1)) 3), 3, (some (some 21, false))⟩,
                            ⟨(some 25), (Op.call { callee := (Callee.value (Operand.func 90)), args := #[(Operand.tmp 22), (Operand.const (Value.int IntKind.i64 0)), (Operand.tmp 24)], argTypes := #[25, 3, 3] }), 4, (some (some 21, false))⟩,
                            ⟨(some 26), (Op.unOp UnOp.not 4 (Operand.tmp 25)), 4, (some (some 21, false))⟩,
                            ⟨(some 27), (Op.pick (Operand.tmp 21) (Operand.const (Value.bool true)) (Operand.tmp 26)), 4, none⟩,
                            ⟨(some 28), (Op.move (Operand.tmp 27)), 4, none⟩,
                            ⟨(some 29), (Op.move (Operand.tmp 7)), 3, (some (some 28, false))⟩,
                            ⟨(some 30), (Op.binOp BinOp.gtr 3 (Operand.tmp 29) (Operand.const (Value.int IntKind.i64 0)) 3), 4, (some (some 28, false))⟩,
                            ⟨(some 31), (Op.move (Operand.tmp 30)), 4, (some (some 28, false))⟩,
                            ⟨(some 32), (Op.move (Operand.tmp 0)), 34, (some (some 31, true))⟩,
                            ⟨(some 33), (Op.move (Operand.tmp 7)), 3, (some (some 31, true))⟩,
                            ⟨(some 34), (Op.binOp BinOp.sub 3 (Operand.tmp 33) (Operand.const (Value.int IntKind.i64 1)) 3), 3, (some (some 31, true))⟩,
                            ⟨(some 35), (Op.indexAddr 34 (Operand.tmp 32) (Operand.tmp 34)), 0, (some (some 31, true))⟩,
                            ⟨(some 36), (Op.load 25 (Operand.tmp 35)), 25, (some (some 31, true))⟩,
                            ⟨(some 37), (Op.move (Operand.tmp 8)), 25, (some (some 31, true))⟩,
                            ⟨(some 38), (Op.call { callee := (Callee.value (Operand.func 83)), args := #[(Operand.tmp 36), (Operand.tmp 37)], argTypes := #[25, 25] }), 3, (some (some 31, true))⟩,
                            ⟨(some 39), (Op.binOp BinOp.geq 3 (Operand.tmp 38) (Operand.const (Value.int IntKind.i64 0)) 3), 4, (some (some 31, true))⟩,
                            ⟨(some 40), (Op.pick (Operand.tmp 31) (Operand.tmp 39) (Operand.const (Value.bool false))), 4, (some (some 28, false))⟩,
                            ⟨(some 41), (Op.pick (Operand.tmp 28) (Operand.const (Value.bool true)) (Operand.tmp 40)), 4, none⟩])
                          (.cond (Operand.tmp 41)
                            (.seq
                              (.ops [
                                ⟨(some 6), (Op.assign (Operand.const (Value.bool false))), 4, none⟩])
                              .ret)
                            .skip))
                        (.seq
                          (.ops [
                            ⟨(some 9), (Op.assign (Operand.const (Value.int IntKind.i64 1))), 3, none⟩])
                          (.block 2
                            (.loop
                              (.seq
                                (.seq
                                  (.ops [
                                    ⟨(some 42), (Op.move (Operand.tmp 9)), 3, none⟩,
                                    ⟨(some 43), (Op.move (Operand.tmp 1)), 3, none⟩,
                                    ⟨(some 44), (Op.binOp BinOp.lss 3 (Operand.tmp 42) (Operand.tmp 43) 3), 4, none⟩])
                                  (.cond (Operand.tmp 44)
                                    .skip
                                    (.exit 2)))
                                (.seq
                                  (.block 3
                                    (.seq
                                      (.draws [
                                        (⟨[47, 8, 8], [47, 48, 49, 50, 51, 52, 53, 54, 55, 56], [47]⟩, ⟨(some 47), (Op.move (Operand.tmp 8)), 25, none⟩),
                                        (⟨[48, 9, 9], [47, 48, 49, 50, 51, 52, 53, 54, 55, 56], [48]⟩, ⟨(some 48), (Op.move (Operand.tmp 9)), 3, none⟩),
                                        (⟨[49, 48, 9], [47, 48, 49, 50, 51, 52, 53, 54, 55, 56], [49]⟩, ⟨(some 49), (Op.binOp BinOp.sub 3 (Operand.tmp 48) (Operand.const (Value.int IntKind.i64 1)) 3), 3, none⟩),
                                        (⟨[50, 47, 49, 8, 49], [47, 48, 49, 50, 51, 52, 53, 54, 55, 56], [50]⟩, ⟨(some 50), (Op.indexAddr 25 (Operand.tmp 47) (Operand.tmp 49)), 0, none⟩),
                                        (⟨[51, 50, 8], [47, 48, 49, 50, 51, 52, 53, 54, 55, 56], [51]⟩, ⟨(some 51), (Op.load 3 (Operand.tmp 50)), 3, none⟩),
                                        (⟨[52, 8, 8], [47, 48, 49, 50, 51, 52, 53, 54, 55, 56], [52]⟩, ⟨(some 52), (Op.move (Operand.tmp 8)), 25, none⟩),
                                        (⟨[53, 9, 9], [47, 48, 49, 50, 51, 52, 53, 54, 55, 56], [53]⟩, ⟨(some 53), (Op.move (Operand.tmp 9)), 3, none⟩),
                                        (⟨[54, 52, 53, 8, 9], [47, 48, 49, 50, 51, 52, 53, 54, 55, 56], [54]⟩, ⟨(some 54), (Op.indexAddr 25 (Operand.tmp 52) (Operand.tmp 53)), 0, none⟩),
                                        (⟨[55, 54, 8], [47, 48, 49, 50, 51, 52, 53, 54, 55, 56], [55]⟩, ⟨(some 55), (Op.load 3 (Operand.tmp 54)), 3, none⟩),
                                        (⟨[56, 51, 55, 8, 8], [47, 48, 49, 50, 51, 52, 53, 54, 55, 56], [56]⟩, ⟨(some 56), (Op.binOp BinOp.gtr 3 (Operand.tmp 51) (Operand.tmp 55) 3), 4, none⟩)])
                                      (.cond (Operand.tmp 56)
                                        (.seq
                                          (.ops [
                                            ⟨(some 6), (Op.assign (Operand.const (Value.bool false))), 4, none⟩])
                                          .ret)
                                        .skip)))
                                  (.ops [
                                    ⟨(some 45), (Op.move (Operand.tmp 9)), 3, none⟩,
                                    ⟨(some 46), (Op.binOp BinOp.add 3 (Operand.tmp 45) (Operand.const (Value.int IntKind.i64 1)) 3), 3, none⟩,
                                    ⟨(some 9), (Op.assign (Operand.tmp 46)), 3, none⟩])))))))))
                  (.ops [
                    ⟨(some 57), (Op.binOp BinOp.add 3 (Operand.tmp 12) (Operand.const (Value.int IntKind.i64 1)) 3), 3, none⟩,
                    ⟨(some 12), (Op.move (Operand.tmp 57)), 3, none⟩])))))))
      (.seq
        (.ops [
          ⟨(some 6), (Op.assign (Operand.const (Value.bool true))), 4, none⟩])
        .ret))
theorem slim78 : Try.f78.body.map (slim lends) = some k78 := by kernel_rfl
theorem ok78 : fnOk Try.f78 3 = true := by kernel_rfl
theorem c78 {a l : List D} {r : D × List D} (h : wpD Y.env k78 (fin tys l.length [ResultVar.tmp 6] r) (entry a l)) (ha : a.length = 3) : Y.call 78 a l = some r :=
  call_slim (Y := Y) rfl Try.func78 (ha ▸ ok78) slim78 h

/-- impl.IsProblem -/
def k27 : SC :=
  .seq
    (.ops [
      ⟨(some 1), (Op.box 39 (Operand.tmp 0)), 0, none⟩,
      ⟨(some 2), (Op.assign (Operand.const (Value.bool false))), 4, none⟩])
    (.seq
      (.ops [
        ⟨(some 3), (Op.fieldAddr 39 (Operand.tmp 1) 0), 0, none⟩,
        ⟨(some 4), (Op.load 3 (Operand.tmp 3)), 3, none⟩,
        ⟨(some 5), (Op.call { callee := (Callee.value (Operand.func 52)), args := #[(Operand.tmp 4), (Operand.const (Value.int IntKind.i64 1)), (Operand.const (Value.int IntKind.i64 8))], argTypes := #[3, 3, 3] }), 4, none⟩,
        ⟨(some 6), (Op.move (Operand.tmp 5)), 4, none⟩,
        ⟨(some 7), (Op.fieldAddr 39 (Operand.tmp 1) 1), 0, (some (some 6, true))⟩,
        ⟨(some 8), (Op.load 3 (Operand.tmp 7)), 3, (some (some 6, true))⟩,
        ⟨(some 9), (Op.call { callee := (Callee.value (Operand.func 52)), args := #[(Operand.tmp 8), (Operand.const (Value.int IntKind.i64 1)), (Operand.const (Value.int IntKind.i64 4))], argTypes := #[3, 3, 3] }), 4, (some (some 6, true))⟩,
        ⟨(some 10), (Op.pick (Operand.tmp 6) (Operand.tmp 9) (Operand.const (Value.bool false))), 4, none⟩,
        ⟨(some 11), (Op.move (Operand.tmp 10)), 4, none⟩,
        ⟨(some 12), (Op.fieldAddr 39 (Operand.tmp 1) 2), 0, (some (some 11, true))⟩,
        ⟨(some 13), (Op.load 34 (Operand.tmp 12)), 34, (some (some 11, true))⟩,
        ⟨(some 14), (Op.fieldAddr 39 (Operand.tmp 1) 1), 0, (some (some 11, true))⟩,
        ⟨(some 15), (Op.load 3 (Operand.tmp 14)), 3, (some (some 11, true))⟩,
        ⟨(some 16), (Op.fieldAddr 39 (Operand.tmp 1) 0), 0, (some (some 11, true))⟩,
        ⟨(some 17), (Op.load 3 (Operand.tmp 16)), 3, (some (some 11, true))⟩,
        ⟨(some 18), (Op.call { callee := (Callee.value (Operand.func 57)), args := #[(Operand.tmp 13), (Operand.tmp 15), (Operand.tmp 17)], argTypes := #[34, 3, 3] }), 4, (some (some 11, true))⟩,
        ⟨(some 19), (Op.pick (Operand.tmp 11) (Operand.tmp 18) (Operand.const (Value.bool false))), 4, none⟩,
        ⟨(some 20), (Op.move (Operand.tmp 19)), 4, none⟩,
        ⟨(some 21), (Op.fieldAddr 39 (Operand.tmp 1) 3), 0, (some (some 20, true))⟩,
        ⟨(some 22), (Op.load 34 (Operand.tmp 21)), 34, (some (some 20, true))⟩,
        ⟨(some 23), (Op.fieldAddr 39 (Operand.tmp 1) 0), 0, (some (some 20, true))⟩,
        ⟨(some 24), (Op.load 3 (Operand.tmp 23)), 3, (some (some 20, true))⟩,
        ⟨(some 25), (Op.call { callee := (Callee.value (Operand.func 57)), args := #[(Operand.tmp 22), (Operand.const (Value.int IntKind.i64 2)), (Operand.tmp 24)], argTypes := #[34, 3, 3] }), 4, (some (some 20, true))⟩,
        ⟨(some 26), (Op.pick (Operand.tmp 20) (Operand.tmp 25) (Operand.const (Value.bool false))), 4, none⟩,
        ⟨(some 2), (Op.assign (Operand.tmp 26)), 4, none⟩])
      .ret)
theorem slim27 : Try.f27.body.map (slim lends) = some k27 := by kernel_rfl
theorem ok27 : fnOk Try.f27 1 = true := by kernel_rfl
theorem c27 {a l : List D} {r : D × List D} (h : wpD Y.env k27 (fin tys l.length [ResultVar.tmp 2] r) (entry a l)) (ha : a.length = 1) : Y.call 27 a l = some r :=
  call_slim (Y := Y) rfl Try.func27 (ha ▸ ok27) slim27 h

/-- spec.prGood -/
def k55 : SC :=
  .seq
    (.ops [
      ⟨(some 1), (Op.box 39 (Operand.tmp 0)), 0, none⟩,
      ⟨(some 2), (Op.assign (Operand.const (Value.bool false))), 4, none⟩])
    (.seq
      (.ops [
        ⟨(some 3), (Op.fieldAddr 39 (Operand.tmp 1) 0), 0, none⟩,
        ⟨(some 4), (Op.load 3 (Operand.tmp 3)), 3, none⟩,
        ⟨(some 5), (Op.call { callee := (Callee.value (Operand.func 50)), args := #[(Operand.tmp 4), (Operand.const (Value.int IntKind.i64 1)), (Operand.const (Value.int IntKind.i64 8))], argTypes := #[3, 3, 3] }), 4, none⟩,
        ⟨(some 6), (Op.move (Operand.tmp 5)), 4, none⟩,
        ⟨(some 7), (Op.fieldAddr 39 (Operand.tmp 1) 1), 0, (some (some 6, true))⟩,
        ⟨(some 8), (Op.load 3 (Operand.tmp 7)), 3, (some (some 6, true))⟩,
        ⟨(some 9), (Op.call { callee := (Callee.value (Operand.func 50)), args := #[(Operand.tmp 8), (Operand.const (Value.int IntKind.i64 1)), (Operand.const (Value.int IntKind.i64 4))], argTypes := #[3, 3, 3] }), 4, (some (some 6, true))⟩,
        ⟨(some 10), (Op.pick (Operand.tmp 6) (Operand.tmp 9) (Operand.const (Value.bool false))), 4, none⟩,
        ⟨(some 11), (Op.move (Operand.tmp 10)), 4, none⟩,
        ⟨(some 12), (Op.fieldAddr 39 (Operand.tmp 1) 2), 0, (some (some 11, true))⟩,
        ⟨(some 13), (Op.load 34 (Operand.tmp 12)), 34, (some (some 11, true))⟩,
        ⟨(some 14), (Op.fieldAddr 39 (Operand.tmp 1) 1), 0, (some (some 11, true))⟩,
        ⟨(some 15), (Op.load 3 (Operand.tmp 14)), 3, (some (some 11, true))⟩,
        ⟨(some 16), (Op.fieldAddr 39 (Operand.tmp 1) 0), 0, (some (some 11, true))⟩,
        ⟨(some 17), (Op.load 3 (Operand.tmp 16)), 3, (some (some 11, true))⟩,
        ⟨(some 18), (Op.call { callee := (Callee.value (Operand.func 78)), args := #[(Operand.tmp 13), (Operand.tmp 15), (Operand.tmp 17)], argTypes := #[34, 3, 3] }), 4, (some (some 11, true))⟩,
        ⟨(some 19), (Op.pick (Operand.tmp 11) (Operand.tmp 18) (Operand.const (Value.bool false))), 4, none⟩,
        ⟨(some 20), (Op.move (Operand.tmp 19)), 4, none⟩,
        ⟨(some 21), (Op.fieldAddr 39 (Operand.tmp 1) 3), 0, (some (some 20, true))⟩,
        ⟨(some 22), (Op.load 34 (Operand.tmp 21)), 34, (some (some 20, true))⟩,
        ⟨(some 23), (Op.fieldAddr 39 (Operand.tmp 1) 0), 0, (some (some 20, true))⟩,
        ⟨(some 24), (Op.load 3 (Operand.tmp 23)), 3, (some (some 20, true))⟩,
        ⟨(some 25), (Op.call { callee := (Callee.value (Operand.func 78)), args := #[(Operand.tmp 22), (Operand.const (Value.int IntKind.i64 2)), (Operand.tmp 24)], argTypes := #[34, 3, 3] }), 4, (some (some 20, true))⟩,
        ⟨(some 26), (Op.pick (Operand.tmp 20) (Operand.tmp 25) (Operand.const (Value.bool false))), 4, none⟩,
        ⟨(some 2), (Op.assign (Operand.tmp 26)), 4, none⟩])
      .ret)
theorem slim55 : Try.f55.body.map (slim lends) = some k55 := by kernel_rfl
theorem ok55 : fnOk Try.f55 1 = true := by kernel_rfl
theorem c55 {a l : List D} {r : D × List D} (h : wpD Y.env k55 (fin tys l.length [ResultVar.tmp 2] r) (entry a l)) (ha : a.length = 1) : Y.call 55 a l = some r :=
  call_slim (Y := Y) rfl Try.func55 (ha ▸ ok55) slim55 h

/-- spec.IsProblem -/
def k25 : SC :=
  .seq
    (.ops [
      ⟨(some 1), (Op.box 39 (Operand.tmp 0)), 0, none⟩,
      ⟨(some 2), (Op.assign (Operand.const (Value.bool false))), 4, none⟩])
    (.seq
      (.ops [
        ⟨(some 3), (Op.load 39 (Operand.tmp 1)), 39, none⟩,
        ⟨(some 4), (Op.call { callee := (Callee.value (Operand.func 55)), args := #[(Operand.tmp 3)], argTypes := #[39] }), 4, none⟩,
        ⟨(some 2), (Op.assign (Operand.tmp 4)), 4, none⟩])
      .ret)
theorem slim25 : Try.f25.body.map (slim lends) = some k25 := by kernel_rfl
theorem ok25 : fnOk Try.f25 1 = true := by kernel_rfl
theorem c25 {a l : List D} {r : D × List D} (h : wpD Y.env k25 (fin tys l.length [ResultVar.tmp 2] r) (entry a l)) (ha : a.length = 1) : Y.call 25 a l = some r :=
  call_slim (Y := Y) rfl Try.func25 (ha ▸ ok25) slim25 h

def Short (xss : List (List Int)) : Prop := xss.length < 1099511627776 ∧ ∀ xs ∈ xss, xs.length < 1099511627776
theorem Short.at {xss : List (List Int)} (h : Short xss) (i : Nat) : (xss.getD i []).length < 1099511627776 := by
  rcases Nat.lt_or_ge i xss.length with hi | hi
  · rw [List.getD_eq_getElem?_getD, List.getElem?_eq_getElem hi]; exact h.2 _ (List.getElem_mem hi)
  · rw [List.getD_eq_getElem?_getD, List.getElem?_eq_none hi]; simp
def confAt (l : List (List Int)) (size labels : Int) (i : Nat) : Bool :=
  ((decide (((l.getD i []).length : Int) = size) && sortedB (l.getD i [])) && allIn (l.getD i []) 0 (labels - 1)) && (decide (i = 0) || decide (cmpL (l.getD (i - 1) []) (l.getD i []) < 0))
def confs (l : List (List Int)) (size labels : Int) : Bool := allUp l.length (confAt l size labels)
theorem configurationsOk_eq (l : List (List Int)) (size labels : Int) (h : Short l) (hl : 1 ≤ labels ∧ labels ≤ 8) :
    Y.call 57 [.sl 25 (sls 3 l), .int .i64 size, .int .i64 labels] [] = some (.bool (confs l size labels), []) := by
  refine c57 ?_ rfl
  unfold k57
  simp only [↓xpre, xpost, yset, Option.bind_some, Option.map_some, Option.isSome_some, ↓reduceIte, Nat.reduceEqDiff, Nat.reduceLT, Nat.reduceLeDiff, Nat.reduceAdd, Nat.reduceMul, Nat.reduceMod, Nat.reduceSub, List.contains_cons, List.contains_nil, Nat.reduceBEq, List.getD_cons_zero, List.getD_cons_succ, List.getD_nil, List.length_cons, List.length_nil, List.size_toArray, List.toList_toArray, List.zip_cons_cons, List.zip_nil_left, List.append_nil, List.nil_append, List.cons_append, List.map_cons, List.map_nil, List.replicate_succ, List.replicate_zero, List.set_cons_zero, List.set_cons_succ, List.set_set, List.all_cons, List.all_nil, List.getElem?_cons_zero, List.getElem?_cons_succ, List.getElem?_nil, List.range_zero, beq_self_eq_true, Int.reduceLE, Int.reduceLT, Int.reduceEq, Int.reduceSub, Int.reduceAdd, Int.reduceToNat, Int.reduceNeg]
  refine wd_loop (fun n s => ∃ i : Nat, n = l.length - i ∧ i ≤ l.length ∧ (∀ j, j < i → confAt l size labels j = true) ∧ s.v 0 = .sl 25 (sls 3 l) ∧ s.v 1 = .int .i64 size ∧ s.v 2 = .int .i64 labels ∧ s.v 9 = .sl 25 (sls 3 l) ∧ s.v 10 = .int .i64 l.length ∧ s.v 11 = .int .i64 i) l.length ⟨0, by simp, by simp, by simp, ?_⟩ ?_
  · simp only [↓xpre, xpost, yset, Option.bind_some, Option.map_some, Option.isSome_some, ↓reduceIte, Nat.reduceEqDiff, Nat.reduceLT, Nat.reduceLeDiff, Nat.reduceAdd, Nat.reduceMul, Nat.reduceMod, Nat.reduceSub, List.contains_cons, List.contains_nil, Nat.reduceBEq, List.getD_cons_zero, List.getD_cons_succ, List.getD_nil, List.length_cons, List.length_nil, List.size_toArray, List.toList_toArray, List.zip_cons_cons, List.zip_nil_left, List.append_nil, List.nil_append, List.cons_append, List.map_cons, List.map_nil, List.replicate_succ, List.replicate_zero, List.set_cons_zero, List.set_cons_succ, List.set_set, List.all_cons, List.all_nil, List.getElem?_cons_zero, List.getElem?_cons_succ, List.getElem?_nil, List.range_zero, beq_self_eq_true, Int.reduceLE, Int.reduceLT, Int.reduceEq, Int.reduceSub, Int.reduceAdd, Int.reduceToNat, Int.reduceNeg]
    simp
  · rintro n s ⟨i, hn, hi', hp, h0, h1, h2, h9, h10, h11⟩
    have hll := h.1
    by_cases hlt : i < l.length
    · have e1 : (i : Int) < (l.length : Int) := by omega
      have hs := h.at i
      have hs1 := h.at (i - 1)
      have w1 := wr64 (labels - 1) (by omega)
      have w2 := wr64 ((i : Int) + 1) (by omega)
      have next : confAt l size labels i = true → ∀ j, j < i + 1 → confAt l size labels j = true := by
        intro hc j hj
        by_cases hji : j = i
        · subst hji; exact hc
        · exact hp j (by omega)
      have stop : confAt l size labels i = false → confs l size labels = false := fun hc => allUp_false hlt hc
      by_cases q1 : ((l.getD i []).length : Int) = size
      · cases q2 : sortedB (l.getD i []) with
        | false =>
          have e6 := stop (by simp only [confAt, q2, Bool.and_false, Bool.false_and])
          simp only [↓xpre, xpost, yset, Option.bind_some, Option.map_some, Option.isSome_some, ↓reduceIte, Nat.reduceEqDiff, Nat.reduceLT, Nat.reduceLeDiff, Nat.reduceAdd, Nat.reduceMul, Nat.reduceMod, Nat.reduceSub, List.contains_cons, List.contains_nil, Nat.reduceBEq, List.getD_cons_zero, List.getD_cons_succ, List.getD_nil, List.length_cons, List.length_nil, List.size_toArray, List.toList_toArray, List.zip_cons_cons, List.zip_nil_left, List.append_nil, List.nil_append, List.cons_append, List.map_cons, List.map_nil, List.replicate_succ, List.replicate_zero, List.set_cons_zero, List.set_cons_succ, List.set_set, List.all_cons, List.all_nil, List.getElem?_cons_zero, List.getElem?_cons_succ, List.getElem?_nil, List.range_zero, beq_self_eq_true, Int.reduceLE, Int.reduceLT, Int.reduceEq, Int.reduceSub, Int.reduceAdd, Int.reduceToNat, Int.reduceNeg, h0, h1, h2, h9, h10, h11, e1, hlt, q1, isSorted_eq _ hs, q2, e6]
        | true =>
          cases q3 : allIn (l.getD i []) 0 (labels - 1) with
          | false =>
            have e6 := stop (by simp only [confAt, q3, Bool.and_false, Bool.false_and])
            simp only [↓xpre, xpost, yset, Option.bind_some, Option.map_some, Option.isSome_some, ↓reduceIte, Nat.reduceEqDiff, Nat.reduceLT, Nat.reduceLeDiff, Nat.reduceAdd, Nat.reduceMul, Nat.reduceMod, Nat.reduceSub, List.contains_cons, List.contains_nil, Nat.reduceBEq, List.getD_cons_zero, List.getD_cons_succ, List.getD_nil, List.length_cons, List.length_nil, List.size_toArray, List.toList_toArray, List.zip_cons_cons, List.zip_nil_left, List.append_nil, List.nil_append, List.cons_append, List.map_cons, List.map_nil, List.replicate_succ, List.replicate_zero, List.set_cons_zero, List.set_cons_succ, List.set_set, List.all_cons, List.all_nil, List.getElem?_cons_zero, List.getElem?_cons_succ, List.getElem?_nil, List.range_zero, beq_self_eq_true, Int.reduceLE, Int.reduceLT, Int.reduceEq, Int.reduceSub, Int.reduceAdd, Int.reduceToNat, Int.reduceNeg, h0, h1, h2, h9, h10, h11, e1, hlt, q1, isSorted_eq _ hs, q2, w1, allWithin_eq _ _ _ hs, q3, e6]
          | true =>
            by_cases q4 : 0 < i
            · have f1 : (0 : Int) < (i : Int) := by omega
              have f2 : 0 ≤ (i : Int) - 1 := by omega
              have f3 : ((i : Int) - 1).toNat = i - 1 := by omega
              have f4 : i - 1 < l.length := by omega
              have w3 := wr64 ((i : Int) - 1) (by omega)
              by_cases q5 : 0 ≤ cmpL (l.getD (i - 1) []) (l.getD i [])
              · have e6 := stop (by simp only [confAt, Bool.and_eq_false_iff]; right; simp only [Bool.or_eq_false_iff, decide_eq_false_iff_not]; omega)
                simp only [↓xpre, xpost, yset, Option.bind_some, Option.map_some, Option.isSome_some, ↓reduceIte, Nat.reduceEqDiff, Nat.reduceLT, Nat.reduceLeDiff, Nat.reduceAdd, Nat.reduceMul, Nat.reduceMod, Nat.reduceSub, List.contains_cons, List.contains_nil, Nat.reduceBEq, List.getD_cons_zero, List.getD_cons_succ, List.getD_nil, List.length_cons, List.length_nil, List.size_toArray, List.toList_toArray, List.zip_cons_cons, List.zip_nil_left, List.append_nil, List.nil_append, List.cons_append, List.map_cons, List.map_nil, List.replicate_succ, List.replicate_zero, List.set_cons_zero, List.set_cons_succ, List.set_set, List.all_cons, List.all_nil, List.getElem?_cons_zero, List.getElem?_cons_succ, List.getElem?_nil, List.range_zero, beq_self_eq_true, Int.reduceLE, Int.reduceLT, Int.reduceEq, Int.reduceSub, Int.reduceAdd, Int.reduceToNat, Int.reduceNeg, h0, h1, h2, h9, h10, h11, e1, hlt, q1, isSorted_eq _ hs, q2, w1, allWithin_eq _ _ _ hs, q3, f1, f2, f3, f4, w3, compareS_eq _ _ hs1 hs, q5, e6]
              · have e6 := next (by simp only [confAt, q1, q2, q3, decide_true, Bool.true_and]; simp only [Bool.or_eq_true, decide_eq_true_eq]; omega)
                simp only [↓xpre, xpost, yset, Option.bind_some, Option.map_some, Option.isSome_some, ↓reduceIte, Nat.reduceEqDiff, Nat.reduceLT, Nat.reduceLeDiff, Nat.reduceAdd, Nat.reduceMul, Nat.reduceMod, Nat.reduceSub, List.contains_cons, List.contains_nil, Nat.reduceBEq, List.getD_cons_zero, List.getD_cons_succ, List.getD_nil, List.length_cons, List.length_nil, List.size_toArray, List.toList_toArray, List.zip_cons_cons, List.zip_nil_left, List.append_nil, List.nil_append, List.cons_append, List.map_cons, List.map_nil, List.replicate_succ, List.replicate_zero, List.set_cons_zero, List.set_cons_succ, List.set_set, List.all_cons, List.all_nil, List.getElem?_cons_zero, List.getElem?_cons_succ, List.getElem?_nil, List.range_zero, beq_self_eq_true, Int.reduceLE, Int.reduceLT, Int.reduceEq, Int.reduceSub, Int.reduceAdd, Int.reduceToNat, Int.reduceNeg, h0, h1, h2, h9, h10, h11, e1, hlt, q1, isSorted_eq _ hs, q2, w1, allWithin_eq _ _ _ hs, q3, f1, f2, f3, f4, w3, compareS_eq _ _ hs1 hs, q5, w2]
                refine ⟨_, ?_, i + 1, rfl, by omega, e6, ?_⟩
                · omega
                · simp
            · have f1 : ¬ (0 : Int) < (i : Int) := by omega
              have e6 := next (by simp only [confAt, q1, q2, q3, decide_true, Bool.true_and]; simp only [Bool.or_eq_true, decide_eq_true_eq]; omega)
              simp only [↓xpre, xpost, yset, Option.bind_some, Option.map_some, Option.isSome_some, ↓reduceIte, Nat.reduceEqDiff, Nat.reduceLT, Nat.reduceLeDiff, Nat.reduceAdd, Nat.reduceMul, Nat.reduceMod, Nat.reduceSub, List.contains_cons, List.contains_nil, Nat.reduceBEq, List.getD_cons_zero, List.getD_cons_succ, List.getD_nil, List.length_cons, List.length_nil, List.size_toArray, List.toList_toArray, List.zip_cons_cons, List.zip_nil_left, List.append_nil, List.nil_append, List.cons_append, List.map_cons, List.map_nil, List.replicate_succ, List.replicate_zero, List.set_cons_zero, List.set_cons_succ, List.set_set, List.all_cons, List.all_nil, List.getElem?_cons_zero, List.getElem?_cons_succ, List.getElem?_nil, List.range_zero, beq_self_eq_true, Int.reduceLE, Int.reduceLT, Int.reduceEq, Int.reduceSub, Int.reduceAdd, Int.reduceToNat, Int.reduceNeg, h0, h1, h2, h9, h10, h11, e1, hlt, q1, isSorted_eq _ hs, q2, w1, allWithin_eq _ _ _ hs, q3, f1, w2]
              refine ⟨_, ?_, i + 1, rfl, by omega, e6, ?_⟩
              · omega
              · simp
      · have e6 := stop (by simp only [confAt, q1, decide_false, Bool.false_and])
        simp only [↓xpre, xpost, yset, Option.bind_some, Option.map_some, Option.isSome_some, ↓reduceIte, Nat.reduceEqDiff, Nat.reduceLT, Nat.reduceLeDiff, Nat.reduceAdd, Nat.reduceMul, Nat.reduceMod, Nat.reduceSub, List.contains_cons, List.contains_nil, Nat.reduceBEq, List.getD_cons_zero, List.getD_cons_succ, List.getD_nil, List.length_cons, List.length_nil, List.size_toArray, List.toList_toArray, List.zip_cons_cons, List.zip_nil_left, List.append_nil, List.nil_append, List.cons_append, List.map_cons, List.map_nil, List.replicate_succ, List.replicate_zero, List.set_cons_zero, List.set_cons_succ, List.set_set, List.all_cons, List.all_nil, List.getElem?_cons_zero, List.getElem?_cons_succ, List.getElem?_nil, List.range_zero, beq_self_eq_true, Int.reduceLE, Int.reduceLT, Int.reduceEq, Int.reduceSub, Int.reduceAdd, Int.reduceToNat, Int.reduceNeg, h0, h1, h2, h9, h10, h11, e1, hlt, q1, e6]
    · have e1 : ¬ (i : Int) < (l.length : Int) := by omega
      have e6 : confs l size labels = true := allUp_true (fun j hj => hp j (by omega))
      simp only [↓xpre, xpost, yset, Option.bind_some, Option.map_some, Option.isSome_some, ↓reduceIte, Nat.reduceEqDiff, Nat.reduceLT, Nat.reduceLeDiff, Nat.reduceAdd, Nat.reduceMul, Nat.reduceMod, Nat.reduceSub, List.contains_cons, List.contains_nil, Nat.reduceBEq, List.getD_cons_zero, List.getD_cons_succ, List.getD_nil, List.length_cons, List.length_nil, List.size_toArray, List.toList_toArray, List.zip_cons_cons, List.zip_nil_left, List.append_nil, List.nil_append, List.cons_append, List.map_cons, List.map_nil, List.replicate_succ, List.replicate_zero, List.set_cons_zero, List.set_cons_succ, List.set_set, List.all_cons, List.all_nil, List.getElem?_cons_zero, List.getElem?_cons_succ, List.getElem?_nil, List.range_zero, beq_self_eq_true, Int.reduceLE, Int.reduceLT, Int.reduceEq, Int.reduceSub, Int.reduceAdd, Int.reduceToNat, Int.reduceNeg, h0, h1, h2, h9, h10, h11, e1, e6]
theorem allIn_small {xs : List Int} {labels : Int} (hl : 1 ≤ labels ∧ labels ≤ 8) (h : allIn xs 0 (labels - 1) = true) : Small xs := by
  intro i hi
  have := allUp_get h i hi
  simp only [inAt, Bool.and_eq_true, decide_eq_true_eq] at this
  omega
theorem prLists_eq (l : List (List Int)) (size labels : Int) (h : Short l) (hl : 1 ≤ labels ∧ labels ≤ 8) :
    Y.call 78 [.sl 25 (sls 3 l), .int .i64 size, .int .i64 labels] [] = some (.bool (confs l size labels), []) := by
  refine c78 ?_ rfl
  unfold k78
  simp only [↓xpre, xpost, yset, Option.bind_some, Option.map_some, Option.isSome_some, ↓reduceIte, Nat.reduceEqDiff, Nat.reduceLT, Nat.reduceLeDiff, Nat.reduceAdd, Nat.reduceMul, Nat.reduceMod, Nat.reduceSub, List.contains_cons, List.contains_nil, Nat.reduceBEq, List.getD_cons_zero, List.getD_cons_succ, List.getD_nil, List.length_cons, List.length_nil, List.size_toArray, List.toList_toArray, List.zip_cons_cons, List.zip_nil_left, List.append_nil, List.nil_append, List.cons_append, List.map_cons, List.map_nil, List.replicate_succ, List.replicate_zero, List.set_cons_zero, List.set_cons_succ, List.set_set, List.all_cons, List.all_nil, List.getElem?_cons_zero, List.getElem?_cons_succ, List.getElem?_nil, List.range_zero, beq_self_eq_true, Int.reduceLE, Int.reduceLT, Int.reduceEq, Int.reduceSub, Int.reduceAdd, Int.reduceToNat, Int.reduceNeg]
  refine wd_loop (fun n s => ∃ i : Nat, n = l.length - i ∧ i ≤ l.length ∧ (∀ j, j < i → confAt l size labels j = true) ∧ s.v 0 = .sl 25 (sls 3 l) ∧ s.v 1 = .int .i64 size ∧ s.v 2 = .int .i64 labels ∧ s.v 10 = .sl 25 (sls 3 l) ∧ s.v 11 = .int .i64 l.length ∧ s.v 12 = .int .i64 i) l.length ⟨0, by simp, by simp, by simp, ?_⟩ ?_
  · simp only [↓xpre, xpost, yset, Option.bind_some, Option.map_some, Option.isSome_some, ↓reduceIte, Nat.reduceEqDiff, Nat.reduceLT, Nat.reduceLeDiff, Nat.reduceAdd, Nat.reduceMul, Nat.reduceMod, Nat.reduceSub, List.contains_cons, List.contains_nil, Nat.reduceBEq, List.getD_cons_zero, List.getD_cons_succ, List.getD_nil, List.length_cons, List.length_nil, List.size_toArray, List.toList_toArray, List.zip_cons_cons, List.zip_nil_left, List.append_nil, List.nil_append, List.cons_append, List.map_cons, List.map_nil, List.replicate_succ, List.replicate_zero, List.set_cons_zero, List.set_cons_succ, List.set_set, List.all_cons, List.all_nil, List.getElem?_cons_zero, List.getElem?_cons_succ, List.getElem?_nil, List.range_zero, beq_self_eq_true, Int.reduceLE, Int.reduceLT, Int.reduceEq, Int.reduceSub, Int.reduceAdd, Int.reduceToNat, Int.reduceNeg]
    simp
  · rintro n s ⟨i, hn, hi', hp, h0, h1, h2, h10, h11, h12⟩
    have hll := h.1
    by_cases hlt : i < l.length
    · have e1 : (i : Int) < (l.length : Int) := by omega
      have hs := h.at i
      have hs1 := h.at (i - 1)
      have w1 := wr64 (labels - 1) (by omega)
      have w2 := wr64 ((i : Int) + 1) (by omega)
      have next : confAt l size labels i = true → ∀ j, j < i + 1 → confAt l size labels j = true := by
        intro hc j hj
        by_cases hji : j = i
        · subst hji; exact hc
        · exact hp j (by omega)
      have stop : confAt l size labels i = false → confs l size labels = false := fun hc => allUp_false hlt hc
      by_cases q1 : ((l.getD i []).length : Int) = size
      · cases q3 : allIn (l.getD i []) 0 (labels - 1) with
        | false =>
          have e6 := stop (by simp only [confAt, q3, Bool.and_false, Bool.false_and])
          simp only [↓xpre, xpost, yset, Option.bind_some, Option.map_some, Option.isSome_some, ↓reduceIte, Nat.reduceEqDiff, Nat.reduceLT, Nat.reduceLeDiff, Nat.reduceAdd, Nat.reduceMul, Nat.reduceMod, Nat.reduceSub, List.contains_cons, List.contains_nil, Nat.reduceBEq, List.getD_cons_zero, List.getD_cons_succ, List.getD_nil, List.length_cons, List.length_nil, List.size_toArray, List.toList_toArray, List.zip_cons_cons, List.zip_nil_left, List.append_nil, List.nil_append, List.cons_append, List.map_cons, List.map_nil, List.replicate_succ, List.replicate_zero, List.set_cons_zero, List.set_cons_succ, List.set_set, List.all_cons, List.all_nil, List.getElem?_cons_zero, List.getElem?_cons_succ, List.getElem?_nil, List.range_zero, beq_self_eq_true, Int.reduceLE, Int.reduceLT, Int.reduceEq, Int.reduceSub, Int.reduceAdd, Int.reduceToNat, Int.reduceNeg, h0, h1, h2, h10, h11, h12, e1, hlt, q1, w1, l1All_eq _ _ _ hs, q3, e6]
        | true =>
          have hlen : (l.getD i []).length < 1099511627776 := hs
          rcases (show (¬ 0 < i) ∨ (0 < i ∧ 0 ≤ cmpL (l.getD (i - 1) []) (l.getD i [])) ∨ (0 < i ∧ ¬ 0 ≤ cmpL (l.getD (i - 1) []) (l.getD i [])) by omega) with q4 | ⟨q4, q5⟩ | ⟨q4, q5⟩
          · have f1 : ¬ (0 : Int) < (i : Int) := by omega
            have hor : (decide (i = 0) || decide (cmpL (l.getD (i - 1) []) (l.getD i []) < 0)) = true := by simp only [Bool.or_eq_true, decide_eq_true_eq]; omega
            simp only [↓xpre, xpost, yset, Option.bind_some, Option.map_some, Option.isSome_some, ↓reduceIte, Nat.reduceEqDiff, Nat.reduceLT, Nat.reduceLeDiff, Nat.reduceAdd, Nat.reduceMul, Nat.reduceMod, Nat.reduceSub, List.contains_cons, List.contains_nil, Nat.reduceBEq, List.getD_cons_zero, List.getD_cons_succ, List.getD_nil, List.length_cons, List.length_nil, List.size_toArray, List.toList_toArray, List.zip_cons_cons, List.zip_nil_left, List.append_nil, List.nil_append, List.cons_append, List.map_cons, List.map_nil, List.replicate_succ, List.replicate_zero, List.set_cons_zero, List.set_cons_succ, List.set_set, List.all_cons, List.all_nil, List.getElem?_cons_zero, List.getElem?_cons_succ, List.getElem?_nil, List.range_zero, beq_self_eq_true, Int.reduceLE, Int.reduceLT, Int.reduceEq, Int.reduceSub, Int.reduceAdd, Int.reduceToNat, Int.reduceNeg, h0, h1, h2, h10, h11, h12, e1, hlt, q1, w1, l1All_eq _ _ _ hs, q3, f1]
            refine wd_loop (fun n s => ∃ j : Nat, n = (l.getD i []).length - j ∧ 1 ≤ j ∧ (∀ m, m + 1 < j → sortedAt (l.getD i []) m = true) ∧ s.v 0 = .sl 25 (sls 3 l) ∧ s.v 1 = .int .i64 size ∧ s.v 2 = .int .i64 labels ∧ s.v 8 = .sl 3 (ints (l.getD i [])) ∧ s.v 9 = .int .i64 j ∧ s.v 10 = .sl 25 (sls 3 l) ∧ s.v 11 = .int .i64 l.length ∧ s.v 12 = .int .i64 i) ((l.getD i []).length - 1) ⟨1, rfl, Nat.le_refl _, (fun m hm => by omega), ?_⟩ ?_
            · simp only [↓xpre, xpost, yset, Option.bind_some, Option.map_some, Option.isSome_some, ↓reduceIte, Nat.reduceEqDiff, Nat.reduceLT, Nat.reduceLeDiff, Nat.reduceAdd, Nat.reduceMul, Nat.reduceMod, Nat.reduceSub, List.contains_cons, List.contains_nil, Nat.reduceBEq, List.getD_cons_zero, List.getD_cons_succ, List.getD_nil, List.length_cons, List.length_nil, List.size_toArray, List.toList_toArray, List.zip_cons_cons, List.zip_nil_left, List.append_nil, List.nil_append, List.cons_append, List.map_cons, List.map_nil, List.replicate_succ, List.replicate_zero, List.set_cons_zero, List.set_cons_succ, List.set_set, List.all_cons, List.all_nil, List.getElem?_cons_zero, List.getElem?_cons_succ, List.getElem?_nil, List.range_zero, beq_self_eq_true, Int.reduceLE, Int.reduceLT, Int.reduceEq, Int.reduceSub, Int.reduceAdd, Int.reduceToNat, Int.reduceNeg, h0, h1, h2, h10, h11, h12]
              simp
            · rintro n' s' ⟨j, hn', hj, hso, g0, g1, g2, g8, g9, g10, g11, g12⟩
              by_cases hjl : j < (l.getD i []).length
              · have k1 : (j : Int) < size := by omega
                have k2 : 0 ≤ (j : Int) - 1 := by omega
                have k3 : ((j : Int) - 1).toNat = j - 1 := by omega
                have k4 : j - 1 < (l.getD i []).length := by omega
                have w4 := wr64 ((j : Int) - 1) (by omega)
                by_cases hq : (l.getD i []).getD j 0 < (l.getD i []).getD (j - 1) 0
                · have e7 : sortedB (l.getD i []) = false := allUp_false (i := j - 1) (by omega) (by simp only [sortedAt]; rw [show j - 1 + 1 = j by omega, decide_eq_true hq]; rfl)
                  have e6 := stop (by simp only [confAt, e7, Bool.and_false, Bool.false_and])
                  simp only [↓xpre, xpost, yset, Option.bind_some, Option.map_some, Option.isSome_some, ↓reduceIte, Nat.reduceEqDiff, Nat.reduceLT, Nat.reduceLeDiff, Nat.reduceAdd, Nat.reduceMul, Nat.reduceMod, Nat.reduceSub, List.contains_cons, List.contains_nil, Nat.reduceBEq, List.getD_cons_zero, List.getD_cons_succ, List.getD_nil, List.length_cons, List.length_nil, List.size_toArray, List.toList_toArray, List.zip_cons_cons, List.zip_nil_left, List.append_nil, List.nil_append, List.cons_append, List.map_cons, List.map_nil, List.replicate_succ, List.replicate_zero, List.set_cons_zero, List.set_cons_succ, List.set_set, List.all_cons, List.all_nil, List.getElem?_cons_zero, List.getElem?_cons_succ, List.getElem?_nil, List.range_zero, beq_self_eq_true, Int.reduceLE, Int.reduceLT, Int.reduceEq, Int.reduceSub, Int.reduceAdd, Int.reduceToNat, Int.reduceNeg, g0, g1, g2, g8, g9, g10, g11, g12, k1, k2, k3, k4, hjl, w4, hq, e6]
                · simp only [↓xpre, xpost, yset, Option.bind_some, Option.map_some, Option.isSome_some, ↓reduceIte, Nat.reduceEqDiff, Nat.reduceLT, Nat.reduceLeDiff, Nat.reduceAdd, Nat.reduceMul, Nat.reduceMod, Nat.reduceSub, List.contains_cons, List.contains_nil, Nat.reduceBEq, List.getD_cons_zero, List.getD_cons_succ, List.getD_nil, List.length_cons, List.length_nil, List.size_toArray, List.toList_toArray, List.zip_cons_cons, List.zip_nil_left, List.append_nil, List.nil_append, List.cons_append, List.map_cons, List.map_nil, List.replicate_succ, List.replicate_zero, List.set_cons_zero, List.set_cons_succ, List.set_set, List.all_cons, List.all_nil, List.getElem?_cons_zero, List.getElem?_cons_succ, List.getElem?_nil, List.range_zero, beq_self_eq_true, Int.reduceLE, Int.reduceLT, Int.reduceEq, Int.reduceSub, Int.reduceAdd, Int.reduceToNat, Int.reduceNeg, g0, g1, g2, g8, g9, g10, g11, g12, k1, k2, k3, k4, hjl, w4, hq, wr64 ((j : Int) + 1) (by omega)]
                  refine ⟨_, ?_, j + 1, rfl, by omega, ?_, ?_⟩
                  · omega
                  · intro m hm
                    by_cases hmj : m = j - 1
                    · subst hmj; simp only [sortedAt]; rw [show j - 1 + 1 = j by omega, decide_eq_false hq]; rfl
                    · exact hso m (by omega)
                  · simp
              · have k1 : ¬ (j : Int) < size := by omega
                have e7 : sortedB (l.getD i []) = true := allUp_true (fun m hm => hso m (by omega))
                have e6 := next (by simp only [confAt, q1, e7, q3, decide_true, Bool.true_and]; exact hor)
                simp only [↓xpre, xpost, yset, Option.bind_some, Option.map_some, Option.isSome_some, ↓reduceIte, Nat.reduceEqDiff, Nat.reduceLT, Nat.reduceLeDiff, Nat.reduceAdd, Nat.reduceMul, Nat.reduceMod, Nat.reduceSub, List.contains_cons, List.contains_nil, Nat.reduceBEq, List.getD_cons_zero, List.getD_cons_succ, List.getD_nil, List.length_cons, List.length_nil, List.size_toArray, List.toList_toArray, List.zip_cons_cons, List.zip_nil_left, List.append_nil, List.nil_append, List.cons_append, List.map_cons, List.map_nil, List.replicate_succ, List.replicate_zero, List.set_cons_zero, List.set_cons_succ, List.set_set, List.all_cons, List.all_nil, List.getElem?_cons_zero, List.getElem?_cons_succ, List.getElem?_nil, List.range_zero, beq_self_eq_true, Int.reduceLE, Int.reduceLT, Int.reduceEq, Int.reduceSub, Int.reduceAdd, Int.reduceToNat, Int.reduceNeg, g0, g1, g2, g8, g9, g10, g11, g12, k1, w2]
                refine ⟨_, ?_, i + 1, rfl, by omega, e6, ?_⟩
                · omega
                · simp
          · have f1 : (0 : Int) < (i : Int) := by omega
            have f2 : 0 ≤ (i : Int) - 1 := by omega
            have f3 : ((i : Int) - 1).toNat = i - 1 := by omega
            have f4 : i - 1 < l.length := by omega
            have w3 := wr64 ((i : Int) - 1) (by omega)
            have g1 := hp (i - 1) (by omega)
            simp only [confAt, Bool.and_eq_true, decide_eq_true_eq] at g1
            have hpo := prOrder_eq (l.getD (i - 1) []) (l.getD i []) hs1 (by omega) (allIn_small hl g1.1.2) (allIn_small hl q3)
            have e6 := stop (by simp only [confAt, Bool.and_eq_false_iff]; right; simp only [Bool.or_eq_false_iff, decide_eq_false_iff_not]; omega)
            simp only [↓xpre, xpost, yset, Option.bind_some, Option.map_some, Option.isSome_some, ↓reduceIte, Nat.reduceEqDiff, Nat.reduceLT, Nat.reduceLeDiff, Nat.reduceAdd, Nat.reduceMul, Nat.reduceMod, Nat.reduceSub, List.contains_cons, List.contains_nil, Nat.reduceBEq, List.getD_cons_zero, List.getD_cons_succ, List.getD_nil, List.length_cons, List.length_nil, List.size_toArray, List.toList_toArray, List.zip_cons_cons, List.zip_nil_left, List.append_nil, List.nil_append, List.cons_append, List.map_cons, List.map_nil, List.replicate_succ, List.replicate_zero, List.set_cons_zero, List.set_cons_succ, List.set_set, List.all_cons, List.all_nil, List.getElem?_cons_zero, List.getElem?_cons_succ, List.getElem?_nil, List.range_zero, beq_self_eq_true, Int.reduceLE, Int.reduceLT, Int.reduceEq, Int.reduceSub, Int.reduceAdd, Int.reduceToNat, Int.reduceNeg, h0, h1, h2, h10, h11, h12, e1, hlt, q1, w1, l1All_eq _ _ _ hs, q3, f1, f2, f3, f4, w3, hpo, q5, e6]
          · have f1 : (0 : Int) < (i : Int) := by omega
            have f2 : 0 ≤ (i : Int) - 1 := by omega
            have f3 : ((i : Int) - 1).toNat = i - 1 := by omega
            have f4 : i - 1 < l.length := by omega
            have w3 := wr64 ((i : Int) - 1) (by omega)
            have g1 := hp (i - 1) (by omega)
            simp only [confAt, Bool.and_eq_true, decide_eq_true_eq] at g1
            have hpo := prOrder_eq (l.getD (i - 1) []) (l.getD i []) hs1 (by omega) (allIn_small hl g1.1.2) (allIn_small hl q3)
            have hor : (decide (i = 0) || decide (cmpL (l.getD (i - 1) []) (l.getD i []) < 0)) = true := by simp only [Bool.or_eq_true, decide_eq_true_eq]; omega
            simp only [↓xpre, xpost, yset, Option.bind_some, Option.map_some, Option.isSome_some, ↓reduceIte, Nat.reduceEqDiff, Nat.reduceLT, Nat.reduceLeDiff, Nat.reduceAdd, Nat.reduceMul, Nat.reduceMod, Nat.reduceSub, List.contains_cons, List.contains_nil, Nat.reduceBEq, List.getD_cons_zero, List.getD_cons_succ, List.getD_nil, List.length_cons, List.length_nil, List.size_toArray, List.toList_toArray, List.zip_cons_cons, List.zip_nil_left, List.append_nil, List.nil_append, List.cons_append, List.map_cons, List.map_nil, List.replicate_succ, List.replicate_zero, List.set_cons_zero, List.set_cons_succ, List.set_set, List.all_cons, List.all_nil, List.getElem?_cons_zero, List.getElem?_cons_succ, List.getElem?_nil, List.range_zero, beq_self_eq_true, Int.reduceLE, Int.reduceLT, Int.reduceEq, Int.reduceSub, Int.reduceAdd, Int.reduceToNat, Int.reduceNeg, h0, h1, h2, h10, h11, h12, e1, hlt, q1, w1, l1All_eq _ _ _ hs, q3, f1, f2, f3, f4, w3, hpo, q5]
            refine wd_loop (fun n s => ∃ j : Nat, n = (l.getD i []).length - j ∧ 1 ≤ j ∧ (∀ m, m + 1 < j → sortedAt (l.getD i []) m = true) ∧ s.v 0 = .sl 25 (sls 3 l) ∧ s.v 1 = .int .i64 size ∧ s.v 2 = .int .i64 labels ∧ s.v 8 = .sl 3 (ints (l.getD i [])) ∧ s.v 9 = .int .i64 j ∧ s.v 10 = .sl 25 (sls 3 l) ∧ s.v 11 = .int .i64 l.length ∧ s.v 12 = .int .i64 i) ((l.getD i []).length - 1) ⟨1, rfl, Nat.le_refl _, (fun m hm => by omega), ?_⟩ ?_
            · simp only [↓xpre, xpost, yset, Option.bind_some, Option.map_some, Option.isSome_some, ↓reduceIte, Nat.reduceEqDiff, Nat.reduceLT, Nat.reduceLeDiff, Nat.reduceAdd, Nat.reduceMul, Nat.reduceMod, Nat.reduceSub, List.contains_cons, List.contains_nil, Nat.reduceBEq, List.getD_cons_zero, List.getD_cons_succ, List.getD_nil, List.length_cons, List.length_nil, List.size_toArray, List.toList_toArray, List.zip_cons_cons, List.zip_nil_left, List.append_nil, List.nil_append, List.cons_append, List.map_cons, List.map_nil, List.replicate_succ, List.replicate_zero, List.set_cons_zero, List.set_cons_succ, List.set_set, List.all_cons, List.all_nil, List.getElem?_cons_zero, List.getElem?_cons_succ, List.getElem?_nil, List.range_zero, beq_self_eq_true, Int.reduceLE, Int.reduceLT, Int.reduceEq, Int.reduceSub, Int.reduceAdd, Int.reduceToNat, Int.reduceNeg, h0, h1, h2, h10, h11, h12]
              simp
            · rintro n' s' ⟨j, hn', hj, hso, g0, g1, g2, g8, g9, g10, g11, g12⟩
              by_cases hjl : j < (l.getD i []).length
              · have k1 : (j : Int) < size := by omega
                have k2 : 0 ≤ (j : Int) - 1 := by omega
                have k3 : ((j : Int) - 1).toNat = j - 1 := by omega
                have k4 : j - 1 < (l.getD i []).length := by omega
                have w4 := wr64 ((j : Int) - 1) (by omega)
                by_cases hq : (l.getD i []).getD j 0 < (l.getD i []).getD (j - 1) 0
                · have e7 : sortedB (l.getD i []) = false := allUp_false (i := j - 1) (by omega) (by simp only [sortedAt]; rw [show j - 1 + 1 = j by omega, decide_eq_true hq]; rfl)
                  have e6 := stop (by simp only [confAt, e7, Bool.and_false, Bool.false_and])
                  simp only [↓xpre, xpost, yset, Option.bind_some, Option.map_some, Option.isSome_some, ↓reduceIte, Nat.reduceEqDiff, Nat.reduceLT, Nat.reduceLeDiff, Nat.reduceAdd, Nat.reduceMul, Nat.reduceMod, Nat.reduceSub, List.contains_cons, List.contains_nil, Nat.reduceBEq, List.getD_cons_zero, List.getD_cons_succ, List.getD_nil, List.length_cons, List.length_nil, List.size_toArray, List.toList_toArray, List.zip_cons_cons, List.zip_nil_left, List.append_nil, List.nil_append, List.cons_append, List.map_cons, List.map_nil, List.replicate_succ, List.replicate_zero, List.set_cons_zero, List.set_cons_succ, List.set_set, List.all_cons, List.all_nil, List.getElem?_cons_zero, List.getElem?_cons_succ, List.getElem?_nil, List.range_zero, beq_self_eq_true, Int.reduceLE, Int.reduceLT, Int.reduceEq, Int.reduceSub, Int.reduceAdd, Int.reduceToNat, Int.reduceNeg, g0, g1, g2, g8, g9, g10, g11, g12, k1, k2, k3, k4, hjl, w4, hq, e6]
                · simp only [↓xpre, xpost, yset, Option.bind_some, Option.map_some, Option.isSome_some, ↓reduceIte, Nat.reduceEqDiff, Nat.reduceLT, Nat.reduceLeDiff, Nat.reduceAdd, Nat.reduceMul, Nat.reduceMod, Nat.reduceSub, List.contains_cons, List.contains_nil, Nat.reduceBEq, List.getD_cons_zero, List.getD_cons_succ, List.getD_nil, List.length_cons, List.length_nil, List.size_toArray, List.toList_toArray, List.zip_cons_cons, List.zip_nil_left, List.append_nil, List.nil_append, List.cons_append, List.map_cons, List.map_nil, List.replicate_succ, List.replicate_zero, List.set_cons_zero, List.set_cons_succ, List.set_set, List.all_cons, List.all_nil, List.getElem?_cons_zero, List.getElem?_cons_succ, List.getElem?_nil, List.range_zero, beq_self_eq_true, Int.reduceLE, Int.reduceLT, Int.reduceEq, Int.reduceSub, Int.reduceAdd, Int.reduceToNat, Int.reduceNeg, g0, g1, g2, g8, g9, g10, g11, g12, k1, k2, k3, k4, hjl, w4, hq, wr64 ((j : Int) + 1) (by omega)]
                  refine ⟨_, ?_, j + 1, rfl, by omega, ?_, ?_⟩
                  · omega
                  · intro m hm
                    by_cases hmj : m = j - 1
                    · subst hmj; simp only [sortedAt]; rw [show j - 1 + 1 = j by omega, decide_eq_false hq]; rfl
                    · exact hso m (by omega)
                  · simp
              · have k1 : ¬ (j : Int) < size := by omega
                have e7 : sortedB (l.getD i []) = true := allUp_true (fun m hm => hso m (by omega))
                have e6 := next (by simp only [confAt, q1, e7, q3, decide_true, Bool.true_and]; exact hor)
                simp only [↓xpre, xpost, yset, Option.bind_some, Option.map_some, Option.isSome_some, ↓reduceIte, Nat.reduceEqDiff, Nat.reduceLT, Nat.reduceLeDiff, Nat.reduceAdd, Nat.reduceMul, Nat.reduceMod, Nat.reduceSub, List.contains_cons, List.contains_nil, Nat.reduceBEq, List.getD_cons_zero, List.getD_cons_succ, List.getD_nil, List.length_cons, List.length_nil, List.size_toArray, List.toList_toArray, List.zip_cons_cons, List.zip_nil_left, List.append_nil, List.nil_append, List.cons_append, List.map_cons, List.map_nil, List.replicate_succ, List.replicate_zero, List.set_cons_zero, List.set_cons_succ, List.set_set, List.all_cons, List.all_nil, List.getElem?_cons_zero, List.getElem?_cons_succ, List.getElem?_nil, List.range_zero, beq_self_eq_true, Int.reduceLE, Int.reduceLT, Int.reduceEq, Int.reduceSub, Int.reduceAdd, Int.reduceToNat, Int.reduceNeg, g0, g1, g2, g8, g9, g10, g11, g12, k1, w2]
                refine ⟨_, ?_, i + 1, rfl, by omega, e6, ?_⟩
                · omega
                · simp
      · have e6 := stop (by simp only [confAt, q1, decide_false, Bool.false_and])
        simp only [↓xpre, xpost, yset, Option.bind_some, Option.map_some, Option.isSome_some, ↓reduceIte, Nat.reduceEqDiff, Nat.reduceLT, Nat.reduceLeDiff, Nat.reduceAdd, Nat.reduceMul, Nat.reduceMod, Nat.reduceSub, List.contains_cons, List.contains_nil, Nat.reduceBEq, List.getD_cons_zero, List.getD_cons_succ, List.getD_nil, List.length_cons, List.length_nil, List.size_toArray, List.toList_toArray, List.zip_cons_cons, List.zip_nil_left, List.append_nil, List.nil_append, List.cons_append, List.map_cons, List.map_nil, List.replicate_succ, List.replicate_zero, List.set_cons_zero, List.set_cons_succ, List.set_set, List.all_cons, List.all_nil, List.getElem?_cons_zero, List.getElem?_cons_succ, List.getElem?_nil, List.range_zero, beq_self_eq_true, Int.reduceLE, Int.reduceLT, Int.reduceEq, Int.reduceSub, Int.reduceAdd, Int.reduceToNat, Int.reduceNeg, h0, h1, h2, h10, h11, h12, e1, hlt, q1, e6]
    · have e1 : ¬ (i : Int) < (l.length : Int) := by omega
      have e6 : confs l size labels = true := allUp_true (fun j hj => hp j (by omega))
      simp only [↓xpre, xpost, yset, Option.bind_some, Option.map_some, Option.isSome_some, ↓reduceIte, Nat.reduceEqDiff, Nat.reduceLT, Nat.reduceLeDiff, Nat.reduceAdd, Nat.reduceMul, Nat.reduceMod, Nat.reduceSub, List.contains_cons, List.contains_nil, Nat.reduceBEq, List.getD_cons_zero, List.getD_cons_succ, List.getD_nil, List.length_cons, List.length_nil, List.size_toArray, List.toList_toArray, List.zip_cons_cons, List.zip_nil_left, List.append_nil, List.nil_append, List.cons_append, List.map_cons, List.map_nil, List.replicate_succ, List.replicate_zero, List.set_cons_zero, List.set_cons_succ, List.set_set, List.all_cons, List.all_nil, List.getElem?_cons_zero, List.getElem?_cons_succ, List.getElem?_nil, List.range_zero, beq_self_eq_true, Int.reduceLE, Int.reduceLT, Int.reduceEq, Int.reduceSub, Int.reduceAdd, Int.reduceToNat, Int.reduceNeg, h0, h1, h2, h10, h11, h12, e1, e6]

/-- When numbers and lists are a problem. -/
def isProb (labels degree : Int) (ns es : List (List Int)) : Bool :=
  (((decide (1 ≤ labels) && decide (labels ≤ 8)) && (decide (1 ≤ degree) && decide (degree ≤ 4))) && confs ns degree labels) && confs es 2 labels
def probD (labels degree : Int) (ns es : List (List Int)) : D := .agg [.int .i64 labels, .int .i64 degree, .sl 25 (sls 3 ns), .sl 25 (sls 3 es)]
def probO (labels degree : Int) (ns es : List (List Int)) : D := .agg [.int .i64 labels, .int .i64 degree, .own 25 (owns 3 ns), .own 25 (owns 3 es)]
theorem isProblemI_eq (labels degree : Int) (ns es : List (List Int)) (hn : Short ns) (he : Short es) : Y.call 27 [probD labels degree ns es] [] = some (.bool (isProb labels degree ns es), []) := by
  refine c27 ?_ rfl
  unfold k27 probD isProb
  cases q1 : (decide (1 ≤ labels) && decide (labels ≤ 8)) with
  | false => simp only [↓xpre, xpost, yset, Option.bind_some, Option.map_some, Option.isSome_some, ↓reduceIte, Nat.reduceEqDiff, Nat.reduceLT, Nat.reduceLeDiff, Nat.reduceAdd, Nat.reduceMul, Nat.reduceMod, Nat.reduceSub, List.contains_cons, List.contains_nil, Nat.reduceBEq, List.getD_cons_zero, List.getD_cons_succ, List.getD_nil, List.length_cons, List.length_nil, List.size_toArray, List.toList_toArray, List.zip_cons_cons, List.zip_nil_left, List.append_nil, List.nil_append, List.cons_append, List.map_cons, List.map_nil, List.replicate_succ, List.replicate_zero, List.set_cons_zero, List.set_cons_succ, List.set_set, List.all_cons, List.all_nil, List.getElem?_cons_zero, List.getElem?_cons_succ, List.getElem?_nil, List.range_zero, beq_self_eq_true, Int.reduceLE, Int.reduceLT, Int.reduceEq, Int.reduceSub, Int.reduceAdd, Int.reduceToNat, Int.reduceNeg, within_eq, q1]
  | true =>
    have hl : 1 ≤ labels ∧ labels ≤ 8 := by simpa using q1
    cases q2 : (decide (1 ≤ degree) && decide (degree ≤ 4)) with
    | false => simp only [↓xpre, xpost, yset, Option.bind_some, Option.map_some, Option.isSome_some, ↓reduceIte, Nat.reduceEqDiff, Nat.reduceLT, Nat.reduceLeDiff, Nat.reduceAdd, Nat.reduceMul, Nat.reduceMod, Nat.reduceSub, List.contains_cons, List.contains_nil, Nat.reduceBEq, List.getD_cons_zero, List.getD_cons_succ, List.getD_nil, List.length_cons, List.length_nil, List.size_toArray, List.toList_toArray, List.zip_cons_cons, List.zip_nil_left, List.append_nil, List.nil_append, List.cons_append, List.map_cons, List.map_nil, List.replicate_succ, List.replicate_zero, List.set_cons_zero, List.set_cons_succ, List.set_set, List.all_cons, List.all_nil, List.getElem?_cons_zero, List.getElem?_cons_succ, List.getElem?_nil, List.range_zero, beq_self_eq_true, Int.reduceLE, Int.reduceLT, Int.reduceEq, Int.reduceSub, Int.reduceAdd, Int.reduceToNat, Int.reduceNeg, within_eq, q1, q2]
    | true =>
      cases q3 : confs ns degree labels with
      | false => simp only [↓xpre, xpost, yset, Option.bind_some, Option.map_some, Option.isSome_some, ↓reduceIte, Nat.reduceEqDiff, Nat.reduceLT, Nat.reduceLeDiff, Nat.reduceAdd, Nat.reduceMul, Nat.reduceMod, Nat.reduceSub, List.contains_cons, List.contains_nil, Nat.reduceBEq, List.getD_cons_zero, List.getD_cons_succ, List.getD_nil, List.length_cons, List.length_nil, List.size_toArray, List.toList_toArray, List.zip_cons_cons, List.zip_nil_left, List.append_nil, List.nil_append, List.cons_append, List.map_cons, List.map_nil, List.replicate_succ, List.replicate_zero, List.set_cons_zero, List.set_cons_succ, List.set_set, List.all_cons, List.all_nil, List.getElem?_cons_zero, List.getElem?_cons_succ, List.getElem?_nil, List.range_zero, beq_self_eq_true, Int.reduceLE, Int.reduceLT, Int.reduceEq, Int.reduceSub, Int.reduceAdd, Int.reduceToNat, Int.reduceNeg, within_eq, q1, q2, configurationsOk_eq _ _ _ hn hl, q3]
      | true => simp only [↓xpre, xpost, yset, Option.bind_some, Option.map_some, Option.isSome_some, ↓reduceIte, Nat.reduceEqDiff, Nat.reduceLT, Nat.reduceLeDiff, Nat.reduceAdd, Nat.reduceMul, Nat.reduceMod, Nat.reduceSub, List.contains_cons, List.contains_nil, Nat.reduceBEq, List.getD_cons_zero, List.getD_cons_succ, List.getD_nil, List.length_cons, List.length_nil, List.size_toArray, List.toList_toArray, List.zip_cons_cons, List.zip_nil_left, List.append_nil, List.nil_append, List.cons_append, List.map_cons, List.map_nil, List.replicate_succ, List.replicate_zero, List.set_cons_zero, List.set_cons_succ, List.set_set, List.all_cons, List.all_nil, List.getElem?_cons_zero, List.getElem?_cons_succ, List.getElem?_nil, List.range_zero, beq_self_eq_true, Int.reduceLE, Int.reduceLT, Int.reduceEq, Int.reduceSub, Int.reduceAdd, Int.reduceToNat, Int.reduceNeg, within_eq, q1, q2, configurationsOk_eq _ _ _ hn hl, q3, configurationsOk_eq _ _ _ he hl]
theorem prGood_eq (labels degree : Int) (ns es : List (List Int)) (hn : Short ns) (he : Short es) : Y.call 55 [probD labels degree ns es] [] = some (.bool (isProb labels degree ns es), []) := by
  refine c55 ?_ rfl
  unfold k55 probD isProb
  cases q1 : (decide (1 ≤ labels) && decide (labels ≤ 8)) with
  | false => simp only [↓xpre, xpost, yset, Option.bind_some, Option.map_some, Option.isSome_some, ↓reduceIte, Nat.reduceEqDiff, Nat.reduceLT, Nat.reduceLeDiff, Nat.reduceAdd, Nat.reduceMul, Nat.reduceMod, Nat.reduceSub, List.contains_cons, List.contains_nil, Nat.reduceBEq, List.getD_cons_zero, List.getD_cons_succ, List.getD_nil, List.length_cons, List.length_nil, List.size_toArray, List.toList_toArray, List.zip_cons_cons, List.zip_nil_left, List.append_nil, List.nil_append, List.cons_append, List.map_cons, List.map_nil, List.replicate_succ, List.replicate_zero, List.set_cons_zero, List.set_cons_succ, List.set_set, List.all_cons, List.all_nil, List.getElem?_cons_zero, List.getElem?_cons_succ, List.getElem?_nil, List.range_zero, beq_self_eq_true, Int.reduceLE, Int.reduceLT, Int.reduceEq, Int.reduceSub, Int.reduceAdd, Int.reduceToNat, Int.reduceNeg, l1In_eq, q1]
  | true =>
    have hl : 1 ≤ labels ∧ labels ≤ 8 := by simpa using q1
    cases q2 : (decide (1 ≤ degree) && decide (degree ≤ 4)) with
    | false => simp only [↓xpre, xpost, yset, Option.bind_some, Option.map_some, Option.isSome_some, ↓reduceIte, Nat.reduceEqDiff, Nat.reduceLT, Nat.reduceLeDiff, Nat.reduceAdd, Nat.reduceMul, Nat.reduceMod, Nat.reduceSub, List.contains_cons, List.contains_nil, Nat.reduceBEq, List.getD_cons_zero, List.getD_cons_succ, List.getD_nil, List.length_cons, List.length_nil, List.size_toArray, List.toList_toArray, List.zip_cons_cons, List.zip_nil_left, List.append_nil, List.nil_append, List.cons_append, List.map_cons, List.map_nil, List.replicate_succ, List.replicate_zero, List.set_cons_zero, List.set_cons_succ, List.set_set, List.all_cons, List.all_nil, List.getElem?_cons_zero, List.getElem?_cons_succ, List.getElem?_nil, List.range_zero, beq_self_eq_true, Int.reduceLE, Int.reduceLT, Int.reduceEq, Int.reduceSub, Int.reduceAdd, Int.reduceToNat, Int.reduceNeg, l1In_eq, q1, q2]
    | true =>
      cases q3 : confs ns degree labels with
      | false => simp only [↓xpre, xpost, yset, Option.bind_some, Option.map_some, Option.isSome_some, ↓reduceIte, Nat.reduceEqDiff, Nat.reduceLT, Nat.reduceLeDiff, Nat.reduceAdd, Nat.reduceMul, Nat.reduceMod, Nat.reduceSub, List.contains_cons, List.contains_nil, Nat.reduceBEq, List.getD_cons_zero, List.getD_cons_succ, List.getD_nil, List.length_cons, List.length_nil, List.size_toArray, List.toList_toArray, List.zip_cons_cons, List.zip_nil_left, List.append_nil, List.nil_append, List.cons_append, List.map_cons, List.map_nil, List.replicate_succ, List.replicate_zero, List.set_cons_zero, List.set_cons_succ, List.set_set, List.all_cons, List.all_nil, List.getElem?_cons_zero, List.getElem?_cons_succ, List.getElem?_nil, List.range_zero, beq_self_eq_true, Int.reduceLE, Int.reduceLT, Int.reduceEq, Int.reduceSub, Int.reduceAdd, Int.reduceToNat, Int.reduceNeg, l1In_eq, q1, q2, prLists_eq _ _ _ hn hl, q3]
      | true => simp only [↓xpre, xpost, yset, Option.bind_some, Option.map_some, Option.isSome_some, ↓reduceIte, Nat.reduceEqDiff, Nat.reduceLT, Nat.reduceLeDiff, Nat.reduceAdd, Nat.reduceMul, Nat.reduceMod, Nat.reduceSub, List.contains_cons, List.contains_nil, Nat.reduceBEq, List.getD_cons_zero, List.getD_cons_succ, List.getD_nil, List.length_cons, List.length_nil, List.size_toArray, List.toList_toArray, List.zip_cons_cons, List.zip_nil_left, List.append_nil, List.nil_append, List.cons_append, List.map_cons, List.map_nil, List.replicate_succ, List.replicate_zero, List.set_cons_zero, List.set_cons_succ, List.set_set, List.all_cons, List.all_nil, List.getElem?_cons_zero, List.getElem?_cons_succ, List.getElem?_nil, List.range_zero, beq_self_eq_true, Int.reduceLE, Int.reduceLT, Int.reduceEq, Int.reduceSub, Int.reduceAdd, Int.reduceToNat, Int.reduceNeg, l1In_eq, q1, q2, prLists_eq _ _ _ hn hl, q3, prLists_eq _ _ _ he hl]
theorem isProblemS_eq (labels degree : Int) (ns es : List (List Int)) (hn : Short ns) (he : Short es) : Y.call 25 [probD labels degree ns es] [] = some (.bool (isProb labels degree ns es), []) := by
  refine c25 ?_ rfl
  have hg := prGood_eq labels degree ns es hn he
  unfold k25
  unfold probD at hg ⊢
  simp only [↓xpre, xpost, yset, Option.bind_some, Option.map_some, Option.isSome_some, ↓reduceIte, Nat.reduceEqDiff, Nat.reduceLT, Nat.reduceLeDiff, Nat.reduceAdd, Nat.reduceMul, Nat.reduceMod, Nat.reduceSub, List.contains_cons, List.contains_nil, Nat.reduceBEq, List.getD_cons_zero, List.getD_cons_succ, List.getD_nil, List.length_cons, List.length_nil, List.size_toArray, List.toList_toArray, List.zip_cons_cons, List.zip_nil_left, List.append_nil, List.nil_append, List.cons_append, List.map_cons, List.map_nil, List.replicate_succ, List.replicate_zero, List.set_cons_zero, List.set_cons_succ, List.set_set, List.all_cons, List.all_nil, List.getElem?_cons_zero, List.getElem?_cons_succ, List.getElem?_nil, List.range_zero, beq_self_eq_true, Int.reduceLE, Int.reduceLT, Int.reduceEq, Int.reduceSub, Int.reduceAdd, Int.reduceToNat, Int.reduceNeg, hg]

end Go.Proofs.Ythaimoghceamnaa
