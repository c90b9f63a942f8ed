/- Slim code of functions of this seat. Conditions: none. -/
import Derived.Test.YthaimoghceamnaaDt
namespace Go.Proofs.Ythaimoghceamnaa
open Go Dv
set_option maxRecDepth 100000

/-- loop.example/g01084/laws.FnExactTaskName -/
def k3 : SC :=
  .seq
    (.ops [
      ⟨(some 2), (Op.assign (Operand.const (Value.bool false))), 4, none⟩])
    (.seq
      (.ops [
        ⟨(some 8), (Op.move (Operand.tmp 0)), 3, none⟩,
        ⟨(some 9), (Op.call { callee := (Callee.value (Operand.func 14)), args := #[(Operand.tmp 8)], argTypes := #[3] }), 22, none⟩,
        ⟨(some 7), (Op.move (Operand.tmp 9)), 22, none⟩,
        ⟨(some 10), (Op.extract (Operand.tmp 7) 0), 9, none⟩,
        ⟨(some 11), (Op.extract (Operand.tmp 7) 1), 4, none⟩,
        ⟨(some 3), (Op.assign (Operand.tmp 10)), 9, none⟩,
        ⟨(some 4), (Op.assign (Operand.tmp 11)), 4, none⟩])
      (.seq
        (.ops [
          ⟨(some 13), (Op.move (Operand.tmp 0)), 3, none⟩,
          ⟨(some 14), (Op.call { callee := (Callee.value (Operand.func 15)), args := #[(Operand.tmp 13)], argTypes := #[3] }), 22, none⟩,
          ⟨(some 12), (Op.move (Operand.tmp 14)), 22, none⟩,
          ⟨(some 15), (Op.extract (Operand.tmp 12) 0), 9, none⟩,
          ⟨(some 16), (Op.extract (Operand.tmp 12) 1), 4, none⟩,
          ⟨(some 5), (Op.assign (Operand.tmp 15)), 9, none⟩,
          ⟨(some 6), (Op.assign (Operand.tmp 16)), 4, none⟩])
        (.seq
          (.seq
            (.ops [
              ⟨(some 17), (Op.move (Operand.tmp 5)), 9, none⟩,
              ⟨(some 18), (Op.move (Operand.tmp 3)), 9, none⟩,
              ⟨(some 19), (Op.binOp BinOp.neq 9 (Operand.tmp 17) (Operand.tmp 18) 9), 4, none⟩,
              ⟨(some 20), (Op.move (Operand.tmp 19)), 4, none⟩,
              ⟨(some 21), (Op.move (Operand.tmp 6)), 4, (some (some 20, false))⟩,
              ⟨(some 22), (Op.move (Operand.tmp 4)), 4, (some (some 20, false))⟩,
              ⟨(some 23), (Op.binOp BinOp.neq 4 (Operand.tmp 21) (Operand.tmp 22) 4), 4, (some (some 20, false))⟩,
              ⟨(some 24), (Op.pick (Operand.tmp 20) (Operand.const (Value.bool true)) (Operand.tmp 23)), 4, none⟩])
            (.cond (Operand.tmp 24)
              (.seq
                (.ops [
                  ⟨(some 2), (Op.assign (Operand.const (Value.bool false))), 4, none⟩])
                .ret)
              .skip))
          (.seq
            (.ops [
              ⟨(some 2), (Op.assign (Operand.const (Value.bool true))), 4, none⟩])
            .ret))))
theorem slim3 : Try.f3.body.map (slim lends) = some k3 := by kernel_rfl
theorem ok3 : fnOk Try.f3 1 = true := by kernel_rfl
theorem c3 {a l : List D} {r : D × List D} (h : wpD Y.env k3 (fin tys l.length [ResultVar.tmp 2] r) (entry a l)) (ha : a.length = 1) : Y.call 3 a l = some r :=
  call_slim (Y := Y) rfl Try.func3 (ha ▸ ok3) slim3 h

/-- loop.example/g01084/spec.TaskName -/
def k14 : SC :=
  .seq
    (.ops [
      ⟨(some 2), (Op.assign (Operand.const (Value.string { data := #[] }))), 9, none⟩,
      ⟨(some 3), (Op.assign (Operand.const (Value.bool false))), 4, none⟩])
    (.seq
      (.seq
        (.ops [
          ⟨(some 4), (Op.move (Operand.tmp 0)), 3, none⟩,
          ⟨(some 5), (Op.call { callee := (Callee.value (Operand.func 45)), args := #[(Operand.tmp 4)], argTypes := #[3] }), 4, none⟩,
          ⟨(some 6), (Op.unOp UnOp.not 4 (Operand.tmp 5)), 4, none⟩])
        (.cond (Operand.tmp 6)
          (.seq
            (.ops [
              ⟨(some 2), (Op.assign (Operand.const (Value.string { data := #[] }))), 9, none⟩,
              ⟨(some 3), (Op.assign (Operand.const (Value.bool false))), 4, none⟩])
            .ret)
          .skip))
      (.seq
        (.ops [
          ⟨(some 7), (Op.buildSlice 51 3 #[(0, (Operand.const (Value.string { data := #[108, 101, 97, 100, 101, 114] }))), (1, (Operand.const (Value.string { data := #[99, 111, 108, 111, 117, 114, 105, 110, 103] }))), (2, (Operand.const (Value.string { data := #[110, 97, 109, 101, 115] })))]), 51, none⟩,
          ⟨(some 8), (Op.move (Operand.tmp 0)), 3, none⟩,
          ⟨(some 9), (Op.binOp BinOp.sub 3 (Operand.tmp 8) (Operand.const (Value.int IntKind.i64 1)) 3), 3, none⟩,
          ⟨(some 10), (Op.indexAddr 51 (Operand.tmp 7) (Operand.tmp 9)), 0, none⟩,
          ⟨(some 11), (Op.load 9 (Operand.tmp 10)), 9, none⟩,
          ⟨(some 2), (Op.assign (Operand.tmp 11)), 9, none⟩,
          ⟨(some 3), (Op.assign (Operand.const (Value.bool true))), 4, none⟩])
        .ret))
theorem slim14 : Try.f14.body.map (slim lends) = some k14 := by kernel_rfl
theorem ok14 : fnOk Try.f14 1 = true := by kernel_rfl
theorem c14 {a l : List D} {r : D × List D} (h : wpD Y.env k14 (fin tys l.length [ResultVar.tmp 2, ResultVar.tmp 3] r) (entry a l)) (ha : a.length = 1) : Y.call 14 a l = some r :=
  call_slim (Y := Y) rfl Try.func14 (ha ▸ ok14) slim14 h

/-- loop.example/g01084/impl.TaskName -/
def k15 : SC :=
  .seq
    (.ops [
      ⟨(some 2), (Op.assign (Operand.const (Value.string { data := #[] }))), 9, none⟩,
      ⟨(some 3), (Op.assign (Operand.const (Value.bool false))), 4, none⟩])
    (.seq
      (.seq
        (.ops [
          ⟨(some 4), (Op.move (Operand.tmp 0)), 3, none⟩,
          ⟨(some 5), (Op.call { callee := (Callee.value (Operand.func 46)), args := #[(Operand.tmp 4)], argTypes := #[3] }), 4, none⟩,
          ⟨(some 6), (Op.unOp UnOp.not 4 (Operand.tmp 5)), 4, none⟩])
        (.cond (Operand.tmp 6)
          (.seq
            (.ops [
              ⟨(some 2), (Op.assign (Operand.const (Value.string { data := #[] }))), 9, none⟩,
              ⟨(some 3), (Op.assign (Operand.const (Value.bool false))), 4, none⟩])
            .ret)
          .skip))
      (.seq
        (.ops [
          ⟨(some 7), (Op.buildSlice 51 3 #[(0, (Operand.const (Value.string { data := #[108, 101, 97, 100, 101, 114] }))), (1, (Operand.const (Value.string { data := #[99, 111, 108, 111, 117, 114, 105, 110, 103] }))), (2, (Operand.const (Value.string { data := #[110, 97, 109, 101, 115] })))]), 51, none⟩,
          ⟨(some 8), (Op.move (Operand.tmp 0)), 3, none⟩,
          ⟨(some 9), (Op.binOp BinOp.sub 3 (Operand.tmp 8) (Operand.const (Value.int IntKind.i64 1)) 3), 3, none⟩,
          ⟨(some 10), (Op.indexAddr 51 (Operand.tmp 7) (Operand.tmp 9)), 0, none⟩,
          ⟨(some 11), (Op.load 9 (Operand.tmp 10)), 9, none⟩,
          ⟨(some 2), (Op.assign (Operand.tmp 11)), 9, none⟩,
          ⟨(some 3), (Op.assign (Operand.const (Value.bool true))), 4, none⟩])
        .ret))
theorem slim15 : Try.f15.body.map (slim lends) = some k15 := by kernel_rfl
theorem ok15 : fnOk Try.f15 1 = true := by kernel_rfl
theorem c15 {a l : List D} {r : D × List D} (h : wpD Y.env k15 (fin tys l.length [ResultVar.tmp 2, ResultVar.tmp 3] r) (entry a l)) (ha : a.length = 1) : Y.call 15 a l = some r :=
  call_slim (Y := Y) rfl Try.func15 (ha ▸ ok15) slim15 h

/-- loop.example/g01084/spec.imTask -/
def k45 : SC :=
  .seq
    (.ops [
      ⟨(some 2), (Op.assign (Operand.const (Value.bool false))), 4, none⟩])
    (.seq
      (.ops [
        ⟨(some 3), (Op.move (Operand.tmp 0)), 3, none⟩,
        ⟨(some 4), (Op.call { callee := (Callee.value (Operand.func 50)), args := #[(Operand.tmp 3), (Operand.const (Value.int IntKind.i64 1)), (Operand.const (Value.int IntKind.i64 3))], argTypes := #[3, 3, 3] }), 4, none⟩,
        ⟨(some 2), (Op.assign (Operand.tmp 4)), 4, none⟩])
      .ret)
theorem slim45 : Try.f45.body.map (slim lends) = some k45 := by kernel_rfl
theorem ok45 : fnOk Try.f45 1 = true := by kernel_rfl
theorem c45 {a l : List D} {r : D × List D} (h : wpD Y.env k45 (fin tys l.length [ResultVar.tmp 2] r) (entry a l)) (ha : a.length = 1) : Y.call 45 a l = some r :=
  call_slim (Y := Y) rfl Try.func45 (ha ▸ ok45) slim45 h

/-- loop.example/g01084/impl.isTask -/
def k46 : SC :=
  .seq
    (.ops [
      ⟨(some 2), (Op.assign (Operand.const (Value.bool false))), 4, none⟩])
    (.seq
      (.ops [
        ⟨(some 3), (Op.move (Operand.tmp 0)), 3, none⟩,
        ⟨(some 4), (Op.call { callee := (Callee.value (Operand.func 52)), args := #[(Operand.tmp 3), (Operand.const (Value.int IntKind.i64 1)), (Operand.const (Value.int IntKind.i64 3))], argTypes := #[3, 3, 3] }), 4, none⟩,
        ⟨(some 2), (Op.assign (Operand.tmp 4)), 4, none⟩])
      .ret)
theorem slim46 : Try.f46.body.map (slim lends) = some k46 := by kernel_rfl
theorem ok46 : fnOk Try.f46 1 = true := by kernel_rfl
theorem c46 {a l : List D} {r : D × List D} (h : wpD Y.env k46 (fin tys l.length [ResultVar.tmp 2] r) (entry a l)) (ha : a.length = 1) : Y.call 46 a l = some r :=
  call_slim (Y := Y) rfl Try.func46 (ha ▸ ok46) slim46 h

/-- loop.example/g01084/spec.l1In -/
def k50 : SC :=
  .seq
    (.ops [
      ⟨(some 6), (Op.assign (Operand.const (Value.bool false))), 4, none⟩])
    (.seq
      (.ops [
        ⟨(some 7), (Op.move (Operand.tmp 0)), 3, none⟩,
        ⟨(some 8), (Op.move (Operand.tmp 1)), 3, none⟩,
        ⟨(some 9), (Op.binOp BinOp.geq 3 (Operand.tmp 7) (Operand.tmp 8) 3), 4, none⟩,
        ⟨(some 10), (Op.move (Operand.tmp 9)), 4, none⟩,
        ⟨(some 11), (Op.move (Operand.tmp 0)), 3, (some (some 10, true))⟩,
        ⟨(some 12), (Op.move (Operand.tmp 2)), 3, (some (some 10, true))⟩,
        ⟨(some 13), (Op.binOp BinOp.leq 3 (Operand.tmp 11) (Operand.tmp 12) 3), 4, (some (some 10, true))⟩,
        ⟨(some 14), (Op.pick (Operand.tmp 10) (Operand.tmp 13) (Operand.const (Value.bool false))), 4, none⟩,
        ⟨(some 6), (Op.assign (Operand.tmp 14)), 4, none⟩])
      .ret)
theorem slim50 : Try.f50.body.map (slim lends) = some k50 := by kernel_rfl
theorem ok50 : fnOk Try.f50 3 = true := by kernel_rfl
theorem c50 {a l : List D} {r : D × List D} (h : wpD Y.env k50 (fin tys l.length [ResultVar.tmp 6] r) (entry a l)) (ha : a.length = 3) : Y.call 50 a l = some r :=
  call_slim (Y := Y) rfl Try.func50 (ha ▸ ok50) slim50 h

/-- loop.example/g01084/impl.within -/
def k52 : SC :=
  .seq
    (.ops [
      ⟨(some 6), (Op.assign (Operand.const (Value.bool false))), 4, none⟩])
    (.seq
      (.ops [
        ⟨(some 7), (Op.move (Operand.tmp 1)), 3, none⟩,
        ⟨(some 8), (Op.move (Operand.tmp 0)), 3, none⟩,
        ⟨(some 9), (Op.binOp BinOp.leq 3 (Operand.tmp 7) (Operand.tmp 8) 3), 4, none⟩,
        ⟨(some 10), (Op.move (Operand.tmp 9)), 4, none⟩,
        ⟨(some 11), (Op.move (Operand.tmp 0)), 3, (some (some 10, true))⟩,
        ⟨(some 12), (Op.move (Operand.tmp 2)), 3, (some (some 10, true))⟩,
        ⟨(some 13), (Op.binOp BinOp.leq 3 (Operand.tmp 11) (Operand.tmp 12) 3), 4, (some (some 10, true))⟩,
        ⟨(some 14), (Op.pick (Operand.tmp 10) (Operand.tmp 13) (Operand.const (Value.bool false))), 4, none⟩,
        ⟨(some 6), (Op.assign (Operand.tmp 14)), 4, none⟩])
      .ret)
theorem slim52 : Try.f52.body.map (slim lends) = some k52 := by kernel_rfl
theorem ok52 : fnOk Try.f52 3 = true := by kernel_rfl
theorem c52 {a l : List D} {r : D × List D} (h : wpD Y.env k52 (fin tys l.length [ResultVar.tmp 6] r) (entry a l)) (ha : a.length = 3) : Y.call 52 a l = some r :=
  call_slim (Y := Y) rfl Try.func52 (ha ▸ ok52) slim52 h

end Go.Proofs.Ythaimoghceamnaa
