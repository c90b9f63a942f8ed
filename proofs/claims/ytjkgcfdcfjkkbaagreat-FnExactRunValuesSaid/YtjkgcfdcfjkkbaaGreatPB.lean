/- Problems copied, compared, measured and marked, as plain functions. Conditions: the lists are short. -/
import Derived.Test.YtjkgcfdcfjkkbaaGreatL6
import Derived.Test.YtjkgcfdcfjkkbaaGreatBase
namespace Go.Proofs.YtjkgcfdcfjkkbaaGreat
open Go Dv
set_option linter.unusedSimpArgs false
set_option linter.unusedVariables false
set_option maxRecDepth 100000
set_option maxHeartbeats 4000000

/-- laws.toProblem -/
def k9 : SC :=
 .seq
 (.ops [
 ⟨(some 1), (.box 24 (.tmp 0)), 0, none⟩,
 ⟨(some 2), (.alloc 33), 0, none⟩])
 (.seq
 (.ops [
 ⟨(some 3), (.alloc 33), 0, none⟩])
 (.seq
 (.ops [
 ⟨(some 4), (.fieldAddr 24 (.tmp 1) 0), 0, none⟩,
 ⟨(some 5), (.load 3 (.tmp 4)), 3, none⟩,
 ⟨(some 6), (.fieldAddr 33 (.tmp 3) 0), 0, none⟩,
 ⟨none, (.store 3 (.tmp 6) (.tmp 5)), 0, none⟩])
 (.seq
 (.ops [
 ⟨(some 7), (.fieldAddr 24 (.tmp 1) 1), 0, none⟩,
 ⟨(some 8), (.load 3 (.tmp 7)), 3, none⟩,
 ⟨(some 9), (.fieldAddr 33 (.tmp 3) 1), 0, none⟩,
 ⟨none, (.store 3 (.tmp 9) (.tmp 8)), 0, none⟩])
 (.seq
 (.ops [
 ⟨(some 10), (.fieldAddr 24 (.tmp 1) 2), 0, none⟩,
 ⟨(some 11), (.load 22 (.tmp 10)), 22, none⟩,
 ⟨(some 12), (.call ⟨(.value (.func 37)), #[(.tmp 11)], #[22]⟩), 22, none⟩,
 ⟨(some 13), (.fieldAddr 33 (.tmp 3) 2), 0, none⟩,
 ⟨none, (.store 22 (.tmp 13) (.tmp 12)), 0, none⟩])
 (.seq
 (.ops [
 ⟨(some 14), (.fieldAddr 24 (.tmp 1) 3), 0, none⟩,
 ⟨(some 15), (.load 22 (.tmp 14)), 22, none⟩,
 ⟨(some 16), (.call ⟨(.value (.func 37)), #[(.tmp 15)], #[22]⟩), 22, none⟩,
 ⟨(some 17), (.fieldAddr 33 (.tmp 3) 3), 0, none⟩,
 ⟨none, (.store 22 (.tmp 17) (.tmp 16)), 0, none⟩])
 (.seq
 (.ops [
 ⟨(some 18), (.load 33 (.tmp 3)), 33, none⟩,
 ⟨none, (.store 33 (.tmp 2) (.tmp 18)), 0, none⟩])
 .ret))))))
theorem slim9 : Tryz.f9.body.map (slim lends) = some k9 := by kernel_rfl
theorem ok9 : fnOk Tryz.f9 1 = true := by kernel_rfl
theorem c9 {a l : List D} {r : D × List D} (h : wpD Y.env k9 (fin tys l.length [ResultVar.cell 2 33] r) (entry a l)) (ha : a.length = 1) : Y.call 9 a l = some r :=
 call_slim (Y := Y) rfl Tryz.func9 (ha ▸ ok9) slim9 h
/-- laws.eqProblem -/
def k13 : SC :=
 .seq
 (.ops [
 ⟨(some 2), (.box 33 (.tmp 0)), 0, none⟩,
 ⟨(some 3), (.box 33 (.tmp 1)), 0, none⟩,
 ⟨(some 4), (.assign (.const (.bool false))), 4, none⟩])
 (.seq
 (.seq
 (.ops [
 ⟨(some 5), (.fieldAddr 33 (.tmp 2) 0), 0, none⟩,
 ⟨(some 6), (.load 3 (.tmp 5)), 3, none⟩,
 ⟨(some 7), (.fieldAddr 33 (.tmp 3) 0), 0, none⟩,
 ⟨(some 8), (.load 3 (.tmp 7)), 3, none⟩,
 ⟨(some 9), (.binOp .neq 3 (.tmp 6) (.tmp 8) 3), 4, none⟩])
 (.cond (.tmp 9)
 (.seq
 (.ops [
 ⟨(some 4), (.assign (.const (.bool false))), 4, none⟩])
 .ret)
 .skip))
 (.seq
 (.seq
 (.ops [
 ⟨(some 10), (.fieldAddr 33 (.tmp 2) 1), 0, none⟩,
 ⟨(some 11), (.load 3 (.tmp 10)), 3, none⟩,
 ⟨(some 12), (.fieldAddr 33 (.tmp 3) 1), 0, none⟩,
 ⟨(some 13), (.load 3 (.tmp 12)), 3, none⟩,
 ⟨(some 14), (.binOp .neq 3 (.tmp 11) (.tmp 13) 3), 4, none⟩])
 (.cond (.tmp 14)
 (.seq
 (.ops [
 ⟨(some 4), (.assign (.const (.bool false))), 4, none⟩])
 .ret)
 .skip))
 (.seq
 (.seq
 (.ops [
 ⟨(some 15), (.fieldAddr 33 (.tmp 2) 2), 0, none⟩,
 ⟨(some 16), (.load 22 (.tmp 15)), 22, none⟩,
 ⟨(some 17), (.fieldAddr 33 (.tmp 3) 2), 0, none⟩,
 ⟨(some 18), (.load 22 (.tmp 17)), 22, none⟩,
 ⟨(some 19), (.call ⟨(.value (.func 12)), #[(.tmp 16), (.tmp 18)], #[22, 22]⟩), 4, none⟩,
 ⟨(some 20), (.unOp .not 4 (.tmp 19)), 4, none⟩])
 (.cond (.tmp 20)
 (.seq
 (.ops [
 ⟨(some 4), (.assign (.const (.bool false))), 4, none⟩])
 .ret)
 .skip))
 (.seq
 (.seq
 (.ops [
 ⟨(some 21), (.fieldAddr 33 (.tmp 2) 3), 0, none⟩,
 ⟨(some 22), (.load 22 (.tmp 21)), 22, none⟩,
 ⟨(some 23), (.fieldAddr 33 (.tmp 3) 3), 0, none⟩,
 ⟨(some 24), (.load 22 (.tmp 23)), 22, none⟩,
 ⟨(some 25), (.call ⟨(.value (.func 12)), #[(.tmp 22), (.tmp 24)], #[22, 22]⟩), 4, none⟩,
 ⟨(some 26), (.unOp .not 4 (.tmp 25)), 4, none⟩])
 (.cond (.tmp 26)
 (.seq
 (.ops [
 ⟨(some 4), (.assign (.const (.bool false))), 4, none⟩])
 .ret)
 .skip))
 (.seq
 (.ops [
 ⟨(some 4), (.assign (.const (.bool true))), 4, none⟩])
 .ret)))))
theorem slim13 : Tryz.f13.body.map (slim lends) = some k13 := by kernel_rfl
theorem ok13 : fnOk Tryz.f13 2 = true := by kernel_rfl
theorem c13 {a l : List D} {r : D × List D} (h : wpD Y.env k13 (fin tys l.length [ResultVar.tmp 4] r) (entry a l)) (ha : a.length = 2) : Y.call 13 a l = some r :=
 call_slim (Y := Y) rfl Tryz.func13 (ha ▸ ok13) slim13 h
/-- laws.szProblem -/
def k6 : SC :=
 .seq
 (.ops [
 ⟨(some 2), (.box 24 (.tmp 0)), 0, none⟩,
 ⟨(some 4), (.assign (.const (.int .i64 0))), 3, none⟩])
 (.seq
 (.ops [
 ⟨(some 5), (.fieldAddr 24 (.tmp 2) 2), 0, none⟩,
 ⟨(some 6), (.load 22 (.tmp 5)), 22, none⟩,
 ⟨(some 7), (.move (.tmp 1)), 3, none⟩,
 ⟨(some 8), (.call ⟨(.value (.func 31)), #[(.tmp 6), (.tmp 7)], #[22, 3]⟩), 3, none⟩,
 ⟨(some 1), (.assign (.tmp 8)), 3, none⟩])
 (.seq
 (.seq
 (.ops [
 ⟨(some 9), (.move (.tmp 1)), 3, none⟩,
 ⟨(some 10), (.binOp .lss 3 (.tmp 9) (.const (.int .i64 0)) 3), 4, none⟩])
 (.cond (.tmp 10)
 (.seq
 (.ops [
 ⟨(some 4), (.assign (.const (.int .i64 (-1)))), 3, none⟩])
 .ret)
 .skip))
 (.seq
 (.ops [
 ⟨(some 11), (.fieldAddr 24 (.tmp 2) 3), 0, none⟩,
 ⟨(some 12), (.load 22 (.tmp 11)), 22, none⟩,
 ⟨(some 13), (.move (.tmp 1)), 3, none⟩,
 ⟨(some 14), (.call ⟨(.value (.func 31)), #[(.tmp 12), (.tmp 13)], #[22, 3]⟩), 3, none⟩,
 ⟨(some 1), (.assign (.tmp 14)), 3, none⟩])
 (.seq
 (.seq
 (.ops [
 ⟨(some 15), (.move (.tmp 1)), 3, none⟩,
 ⟨(some 16), (.binOp .lss 3 (.tmp 15) (.const (.int .i64 0)) 3), 4, none⟩])
 (.cond (.tmp 16)
 (.seq
 (.ops [
 ⟨(some 4), (.assign (.const (.int .i64 (-1)))), 3, none⟩])
 .ret)
 .skip))
 (.seq
 (.ops [
 ⟨(some 17), (.move (.tmp 1)), 3, none⟩,
 ⟨(some 4), (.assign (.tmp 17)), 3, none⟩])
 .ret)))))
theorem slim6 : Tryz.f6.body.map (slim lends) = some k6 := by kernel_rfl
theorem ok6 : fnOk Tryz.f6 2 = true := by kernel_rfl
theorem c6 {a l : List D} {r : D × List D} (h : wpD Y.env k6 (fin tys l.length [ResultVar.tmp 4] r) (entry a l)) (ha : a.length = 2) : Y.call 6 a l = some r :=
 call_slim (Y := Y) rfl Tryz.func6 (ha ▸ ok6) slim6 h
/-- laws.markProblem -/
def k15 : SC :=
 .seq
 (.ops [
 ⟨(some 2), (.box 33 (.tmp 0)), 0, none⟩,
 ⟨(some 4), (.assign (.const (.int .i64 0))), 3, none⟩])
 (.seq
 (.ops [
 ⟨(some 5), (.fieldAddr 33 (.tmp 2) 2), 0, none⟩,
 ⟨(some 6), (.load 22 (.tmp 5)), 22, none⟩,
 ⟨(some 7), (.move (.tmp 1)), 3, none⟩,
 ⟨(some 8), (.call ⟨(.value (.func 17)), #[(.tmp 6), (.tmp 7)], #[22, 3]⟩), 3, none⟩,
 ⟨(some 1), (.assign (.tmp 8)), 3, none⟩])
 (.seq
 (.ops [
 ⟨(some 9), (.fieldAddr 33 (.tmp 2) 3), 0, none⟩,
 ⟨(some 10), (.load 22 (.tmp 9)), 22, none⟩,
 ⟨(some 11), (.move (.tmp 1)), 3, none⟩,
 ⟨(some 12), (.call ⟨(.value (.func 17)), #[(.tmp 10), (.tmp 11)], #[22, 3]⟩), 3, none⟩,
 ⟨(some 1), (.assign (.tmp 12)), 3, none⟩])
 (.seq
 (.ops [
 ⟨(some 13), (.move (.tmp 1)), 3, none⟩,
 ⟨(some 4), (.assign (.tmp 13)), 3, none⟩])
 .ret)))
theorem slim15 : Tryz.f15.body.map (slim lends) = some k15 := by kernel_rfl
theorem ok15 : fnOk Tryz.f15 2 = true := by kernel_rfl
theorem c15 {a l : List D} {r : D × List D} (h : wpD Y.env k15 (fin tys l.length [ResultVar.tmp 4] r) (entry a l)) (ha : a.length = 2) : Y.call 15 a l = some r :=
 call_slim (Y := Y) rfl Tryz.func15 (ha ▸ ok15) slim15 h
end Go.Proofs.YtjkgcfdcfjkkbaaGreat
