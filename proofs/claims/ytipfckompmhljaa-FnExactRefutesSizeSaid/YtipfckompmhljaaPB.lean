/- Problems copied, compared, measured and marked, as plain functions. Conditions: the lists are short. -/
import Derived.Test.YtipfckompmhljaaL6
import Derived.Test.YtipfckompmhljaaBase
namespace Go.Proofs.Ytipfckompmhljaa
open Go Dv
set_option linter.unusedSimpArgs false
set_option linter.unusedVariables false
set_option maxRecDepth 100000
set_option maxHeartbeats 4000000

/-- laws.toProblem -/
def k25 : SC :=
 .seq
 (.ops [
 ⟨some 1, .box 46 (.tmp 0), 0, none⟩,
 ⟨some 2, .alloc 50, 0, none⟩])
 (.seq
 (.ops [
 ⟨some 3, .alloc 50, 0, none⟩])
 (.seq
 (.ops [
 ⟨some 4, .fieldAddr 46 (.tmp 1) 0, 0, none⟩,
 ⟨some 5, .load 3 (.tmp 4), 3, none⟩,
 ⟨some 6, .fieldAddr 50 (.tmp 3) 0, 0, none⟩,
 ⟨none, .store 3 (.tmp 6) (.tmp 5), 0, none⟩])
 (.seq
 (.ops [
 ⟨some 7, .fieldAddr 46 (.tmp 1) 1, 0, none⟩,
 ⟨some 8, .load 3 (.tmp 7), 3, none⟩,
 ⟨some 9, .fieldAddr 50 (.tmp 3) 1, 0, none⟩,
 ⟨none, .store 3 (.tmp 9) (.tmp 8), 0, none⟩])
 (.seq
 (.ops [
 ⟨some 10, .fieldAddr 46 (.tmp 1) 2, 0, none⟩,
 ⟨some 11, .load 44 (.tmp 10), 44, none⟩,
 ⟨some 12, .call ⟨(.value (.func 59)), #[(.tmp 11)], #[44]⟩, 44, none⟩,
 ⟨some 13, .fieldAddr 50 (.tmp 3) 2, 0, none⟩,
 ⟨none, .store 44 (.tmp 13) (.tmp 12), 0, none⟩])
 (.seq
 (.ops [
 ⟨some 14, .fieldAddr 46 (.tmp 1) 3, 0, none⟩,
 ⟨some 15, .load 44 (.tmp 14), 44, none⟩,
 ⟨some 16, .call ⟨(.value (.func 59)), #[(.tmp 15)], #[44]⟩, 44, none⟩,
 ⟨some 17, .fieldAddr 50 (.tmp 3) 3, 0, none⟩,
 ⟨none, .store 44 (.tmp 17) (.tmp 16), 0, none⟩])
 (.seq
 (.ops [
 ⟨some 18, .load 50 (.tmp 3), 50, none⟩,
 ⟨none, .store 50 (.tmp 2) (.tmp 18), 0, none⟩])
 .ret))))))
theorem slim25 : Try.f25.body.map (slim lends) = some k25 := by kernel_rfl
theorem ok25 : fnOk Try.f25 1 = true := by kernel_rfl
theorem c25 {a l : List D} {r : D × List D} (h : wpD Y.env k25 (fin tys l.length [ResultVar.cell 2 50] r) (entry a l)) (ha : a.length = 1) : Y.call 25 a l = some r :=
 call_slim (Y := Y) rfl Try.func25 (ha ▸ ok25) slim25 h
/-- laws.eqProblem -/
def k27 : SC :=
 .seq
 (.ops [
 ⟨some 2, .box 50 (.tmp 0), 0, none⟩,
 ⟨some 3, .box 50 (.tmp 1), 0, none⟩,
 ⟨some 4, .assign (.const (.bool false)), 4, none⟩])
 (.seq
 (.seq
 (.ops [
 ⟨some 5, .fieldAddr 50 (.tmp 2) 0, 0, none⟩,
 ⟨some 6, .load 3 (.tmp 5), 3, none⟩,
 ⟨some 7, .fieldAddr 50 (.tmp 3) 0, 0, none⟩,
 ⟨some 8, .load 3 (.tmp 7), 3, none⟩,
 ⟨some 9, .binOp .neq 3 (.tmp 6) (.tmp 8) 3, 4, none⟩])
 (.cond (.tmp 9)
 (.seq
 (.ops [
 ⟨some 4, .assign (.const (.bool false)), 4, none⟩])
 .ret)
 .skip))
 (.seq
 (.seq
 (.ops [
 ⟨some 10, .fieldAddr 50 (.tmp 2) 1, 0, none⟩,
 ⟨some 11, .load 3 (.tmp 10), 3, none⟩,
 ⟨some 12, .fieldAddr 50 (.tmp 3) 1, 0, none⟩,
 ⟨some 13, .load 3 (.tmp 12), 3, none⟩,
 ⟨some 14, .binOp .neq 3 (.tmp 11) (.tmp 13) 3, 4, none⟩])
 (.cond (.tmp 14)
 (.seq
 (.ops [
 ⟨some 4, .assign (.const (.bool false)), 4, none⟩])
 .ret)
 .skip))
 (.seq
 (.seq
 (.ops [
 ⟨some 15, .fieldAddr 50 (.tmp 2) 2, 0, none⟩,
 ⟨some 16, .load 44 (.tmp 15), 44, none⟩,
 ⟨some 17, .fieldAddr 50 (.tmp 3) 2, 0, none⟩,
 ⟨some 18, .load 44 (.tmp 17), 44, none⟩,
 ⟨some 19, .call ⟨(.value (.func 62)), #[(.tmp 16), (.tmp 18)], #[44, 44]⟩, 4, none⟩,
 ⟨some 20, .unOp .not 4 (.tmp 19), 4, none⟩])
 (.cond (.tmp 20)
 (.seq
 (.ops [
 ⟨some 4, .assign (.const (.bool false)), 4, none⟩])
 .ret)
 .skip))
 (.seq
 (.seq
 (.ops [
 ⟨some 21, .fieldAddr 50 (.tmp 2) 3, 0, none⟩,
 ⟨some 22, .load 44 (.tmp 21), 44, none⟩,
 ⟨some 23, .fieldAddr 50 (.tmp 3) 3, 0, none⟩,
 ⟨some 24, .load 44 (.tmp 23), 44, none⟩,
 ⟨some 25, .call ⟨(.value (.func 62)), #[(.tmp 22), (.tmp 24)], #[44, 44]⟩, 4, none⟩,
 ⟨some 26, .unOp .not 4 (.tmp 25), 4, none⟩])
 (.cond (.tmp 26)
 (.seq
 (.ops [
 ⟨some 4, .assign (.const (.bool false)), 4, none⟩])
 .ret)
 .skip))
 (.seq
 (.ops [
 ⟨some 4, .assign (.const (.bool true)), 4, none⟩])
 .ret)))))
theorem slim27 : Try.f27.body.map (slim lends) = some k27 := by kernel_rfl
theorem ok27 : fnOk Try.f27 2 = true := by kernel_rfl
theorem c27 {a l : List D} {r : D × List D} (h : wpD Y.env k27 (fin tys l.length [ResultVar.tmp 4] r) (entry a l)) (ha : a.length = 2) : Y.call 27 a l = some r :=
 call_slim (Y := Y) rfl Try.func27 (ha ▸ ok27) slim27 h
/-- laws.szProblem -/
def k23 : SC :=
 .seq
 (.ops [
 ⟨some 2, .box 46 (.tmp 0), 0, none⟩,
 ⟨some 4, .assign (.const (.int .i64 0)), 3, none⟩])
 (.seq
 (.ops [
 ⟨some 5, .fieldAddr 46 (.tmp 2) 2, 0, none⟩,
 ⟨some 6, .load 44 (.tmp 5), 44, none⟩,
 ⟨some 7, .move (.tmp 1), 3, none⟩,
 ⟨some 8, .call ⟨(.value (.func 56)), #[(.tmp 6), (.tmp 7)], #[44, 3]⟩, 3, none⟩,
 ⟨some 1, .assign (.tmp 8), 3, none⟩])
 (.seq
 (.seq
 (.ops [
 ⟨some 9, .move (.tmp 1), 3, none⟩,
 ⟨some 10, .binOp .lss 3 (.tmp 9) (.const (.int .i64 0)) 3, 4, none⟩])
 (.cond (.tmp 10)
 (.seq
 (.ops [
 ⟨some 4, .assign (.const (.int .i64 (-1))), 3, none⟩])
 .ret)
 .skip))
 (.seq
 (.ops [
 ⟨some 11, .fieldAddr 46 (.tmp 2) 3, 0, none⟩,
 ⟨some 12, .load 44 (.tmp 11), 44, none⟩,
 ⟨some 13, .move (.tmp 1), 3, none⟩,
 ⟨some 14, .call ⟨(.value (.func 56)), #[(.tmp 12), (.tmp 13)], #[44, 3]⟩, 3, none⟩,
 ⟨some 1, .assign (.tmp 14), 3, none⟩])
 (.seq
 (.seq
 (.ops [
 ⟨some 15, .move (.tmp 1), 3, none⟩,
 ⟨some 16, .binOp .lss 3 (.tmp 15) (.const (.int .i64 0)) 3, 4, none⟩])
 (.cond (.tmp 16)
 (.seq
 (.ops [
 ⟨some 4, .assign (.const (.int .i64 (-1))), 3, none⟩])
 .ret)
 .skip))
 (.seq
 (.ops [
 ⟨some 17, .move (.tmp 1), 3, none⟩,
 ⟨some 4, .assign (.tmp 17), 3, none⟩])
 .ret)))))
theorem slim23 : Try.f23.body.map (slim lends) = some k23 := by kernel_rfl
theorem ok23 : fnOk Try.f23 2 = true := by kernel_rfl
theorem c23 {a l : List D} {r : D × List D} (h : wpD Y.env k23 (fin tys l.length [ResultVar.tmp 4] r) (entry a l)) (ha : a.length = 2) : Y.call 23 a l = some r :=
 call_slim (Y := Y) rfl Try.func23 (ha ▸ ok23) slim23 h
/-- laws.markProblem -/
def k28 : SC :=
 .seq
 (.ops [
 ⟨some 2, .box 50 (.tmp 0), 0, none⟩,
 ⟨some 4, .assign (.const (.int .i64 0)), 3, none⟩])
 (.seq
 (.ops [
 ⟨some 5, .fieldAddr 50 (.tmp 2) 2, 0, none⟩,
 ⟨some 6, .load 44 (.tmp 5), 44, none⟩,
 ⟨some 7, .move (.tmp 1), 3, none⟩,
 ⟨some 8, .call ⟨(.value (.func 63)), #[(.tmp 6), (.tmp 7)], #[44, 3]⟩, 3, none⟩,
 ⟨some 1, .assign (.tmp 8), 3, none⟩])
 (.seq
 (.ops [
 ⟨some 9, .fieldAddr 50 (.tmp 2) 3, 0, none⟩,
 ⟨some 10, .load 44 (.tmp 9), 44, none⟩,
 ⟨some 11, .move (.tmp 1), 3, none⟩,
 ⟨some 12, .call ⟨(.value (.func 63)), #[(.tmp 10), (.tmp 11)], #[44, 3]⟩, 3, none⟩,
 ⟨some 1, .assign (.tmp 12), 3, none⟩])
 (.seq
 (.ops [
 ⟨some 13, .move (.tmp 1), 3, none⟩,
 ⟨some 4, .assign (.tmp 13), 3, none⟩])
 .ret)))
theorem slim28 : Try.f28.body.map (slim lends) = some k28 := by kernel_rfl
theorem ok28 : fnOk Try.f28 2 = true := by kernel_rfl
theorem c28 {a l : List D} {r : D × List D} (h : wpD Y.env k28 (fin tys l.length [ResultVar.tmp 4] r) (entry a l)) (ha : a.length = 2) : Y.call 28 a l = some r :=
 call_slim (Y := Y) rfl Try.func28 (ha ▸ ok28) slim28 h
end Go.Proofs.Ytipfckompmhljaa
