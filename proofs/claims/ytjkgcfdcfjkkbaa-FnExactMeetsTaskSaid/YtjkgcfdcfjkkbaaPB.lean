/- Problems copied, compared, measured and marked, as plain functions. Conditions: the lists are short. -/
import Derived.Test.YtjkgcfdcfjkkbaaL6
import Derived.Test.YtjkgcfdcfjkkbaaBase
namespace Go.Proofs.Ytjkgcfdcfjkkbaa
open Go Dv
set_option linter.unusedSimpArgs false
set_option linter.unusedVariables false
set_option maxRecDepth 100000
set_option maxHeartbeats 4000000

/-- laws.toProblem -/
def k18 : SC :=
 .seq
 (.ops [
 ⟨(some 1), (.box 38 (.tmp 0)), 0, none⟩,
 ⟨(some 2), (.alloc 43), 0, none⟩])
 (.seq
 (.ops [
 ⟨(some 3), (.alloc 43), 0, none⟩])
 (.seq
 (.ops [
 ⟨(some 4), (.fieldAddr 38 (.tmp 1) 0), 0, none⟩,
 ⟨(some 5), (.load 3 (.tmp 4)), 3, none⟩,
 ⟨(some 6), (.fieldAddr 43 (.tmp 3) 0), 0, none⟩,
 ⟨none, (.store 3 (.tmp 6) (.tmp 5)), 0, none⟩])
 (.seq
 (.ops [
 ⟨(some 7), (.fieldAddr 38 (.tmp 1) 1), 0, none⟩,
 ⟨(some 8), (.load 3 (.tmp 7)), 3, none⟩,
 ⟨(some 9), (.fieldAddr 43 (.tmp 3) 1), 0, none⟩,
 ⟨none, (.store 3 (.tmp 9) (.tmp 8)), 0, none⟩])
 (.seq
 (.ops [
 ⟨(some 10), (.fieldAddr 38 (.tmp 1) 2), 0, none⟩,
 ⟨(some 11), (.load 36 (.tmp 10)), 36, none⟩,
 ⟨(some 12), (.call ⟨(.value (.func 19)), #[(.tmp 11)], #[36]⟩), 36, none⟩,
 ⟨(some 13), (.fieldAddr 43 (.tmp 3) 2), 0, none⟩,
 ⟨none, (.store 36 (.tmp 13) (.tmp 12)), 0, none⟩])
 (.seq
 (.ops [
 ⟨(some 14), (.fieldAddr 38 (.tmp 1) 3), 0, none⟩,
 ⟨(some 15), (.load 36 (.tmp 14)), 36, none⟩,
 ⟨(some 16), (.call ⟨(.value (.func 19)), #[(.tmp 15)], #[36]⟩), 36, none⟩,
 ⟨(some 17), (.fieldAddr 43 (.tmp 3) 3), 0, none⟩,
 ⟨none, (.store 36 (.tmp 17) (.tmp 16)), 0, none⟩])
 (.seq
 (.ops [
 ⟨(some 18), (.load 43 (.tmp 3)), 43, none⟩,
 ⟨none, (.store 43 (.tmp 2) (.tmp 18)), 0, none⟩])
 .ret))))))
theorem slim18 : Try.f18.body.map (slim lends) = some k18 := by kernel_rfl
theorem ok18 : fnOk Try.f18 1 = true := by kernel_rfl
theorem c18 {a l : List D} {r : D × List D} (h : wpD Y.env k18 (fin tys l.length [ResultVar.cell 2 43] r) (entry a l)) (ha : a.length = 1) : Y.call 18 a l = some r :=
 call_slim (Y := Y) rfl Try.func18 (ha ▸ ok18) slim18 h
/-- laws.szProblem -/
def k15 : SC :=
 .seq
 (.ops [
 ⟨(some 2), (.box 38 (.tmp 0)), 0, none⟩,
 ⟨(some 4), (.assign (.const (.int .i64 0))), 3, none⟩])
 (.seq
 (.ops [
 ⟨(some 5), (.fieldAddr 38 (.tmp 2) 2), 0, none⟩,
 ⟨(some 6), (.load 36 (.tmp 5)), 36, none⟩,
 ⟨(some 7), (.move (.tmp 1)), 3, none⟩,
 ⟨(some 8), (.call ⟨(.value (.func 16)), #[(.tmp 6), (.tmp 7)], #[36, 3]⟩), 3, none⟩,
 ⟨(some 1), (.assign (.tmp 8)), 3, none⟩])
 (.seq
 (.seq
 (.ops [
 ⟨(some 9), (.move (.tmp 1)), 3, none⟩,
 ⟨(some 10), (.binOp .lss 3 (.tmp 9) (.const (.int .i64 0)) 3), 4, none⟩])
 (.cond (.tmp 10)
 (.seq
 (.ops [
 ⟨(some 4), (.assign (.const (.int .i64 (-1)))), 3, none⟩])
 .ret)
 .skip))
 (.seq
 (.ops [
 ⟨(some 11), (.fieldAddr 38 (.tmp 2) 3), 0, none⟩,
 ⟨(some 12), (.load 36 (.tmp 11)), 36, none⟩,
 ⟨(some 13), (.move (.tmp 1)), 3, none⟩,
 ⟨(some 14), (.call ⟨(.value (.func 16)), #[(.tmp 12), (.tmp 13)], #[36, 3]⟩), 3, none⟩,
 ⟨(some 1), (.assign (.tmp 14)), 3, none⟩])
 (.seq
 (.seq
 (.ops [
 ⟨(some 15), (.move (.tmp 1)), 3, none⟩,
 ⟨(some 16), (.binOp .lss 3 (.tmp 15) (.const (.int .i64 0)) 3), 4, none⟩])
 (.cond (.tmp 16)
 (.seq
 (.ops [
 ⟨(some 4), (.assign (.const (.int .i64 (-1)))), 3, none⟩])
 .ret)
 .skip))
 (.seq
 (.ops [
 ⟨(some 17), (.move (.tmp 1)), 3, none⟩,
 ⟨(some 4), (.assign (.tmp 17)), 3, none⟩])
 .ret)))))
theorem slim15 : Try.f15.body.map (slim lends) = some k15 := by kernel_rfl
theorem ok15 : fnOk Try.f15 2 = true := by kernel_rfl
theorem c15 {a l : List D} {r : D × List D} (h : wpD Y.env k15 (fin tys l.length [ResultVar.tmp 4] r) (entry a l)) (ha : a.length = 2) : Y.call 15 a l = some r :=
 call_slim (Y := Y) rfl Try.func15 (ha ▸ ok15) slim15 h
end Go.Proofs.Ytjkgcfdcfjkkbaa
