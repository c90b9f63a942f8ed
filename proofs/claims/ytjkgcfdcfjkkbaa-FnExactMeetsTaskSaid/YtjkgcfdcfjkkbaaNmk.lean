/- Networks marked, and marks held, as plain functions. Conditions: the lists are short. -/
import Derived.Test.YtjkgcfdcfjkkbaaL6
import Derived.Test.YtjkgcfdcfjkkbaaNis
namespace Go.Proofs.Ytjkgcfdcfjkkbaa
open Go Dv
set_option linter.unusedSimpArgs false
set_option linter.unusedVariables false
set_option maxRecDepth 100000
set_option maxHeartbeats 4000000

/-- laws.markNetwork -/
def k13 : SC :=
 .seq
 (.ops [
 ⟨(some 2), (.box 29 (.tmp 0)), 0, none⟩,
 ⟨(some 4), (.assign (.const (.int .i64 0))), 3, none⟩])
 (.seq
 (.ops [
 ⟨(some 5), (.fieldAddr 29 (.tmp 2) 0), 0, none⟩,
 ⟨(some 6), (.load 27 (.tmp 5)), 27, none⟩,
 ⟨(some 7), (.move (.tmp 1)), 3, none⟩,
 ⟨(some 8), (.call ⟨(.value (.func 48)), #[(.tmp 6), (.tmp 7)], #[27, 3]⟩), 3, none⟩,
 ⟨(some 1), (.assign (.tmp 8)), 3, none⟩])
 (.seq
 (.ops [
 ⟨(some 9), (.fieldAddr 29 (.tmp 2) 1), 0, none⟩,
 ⟨(some 10), (.load 23 (.tmp 9)), 23, none⟩,
 ⟨(some 11), (.move (.tmp 1)), 3, none⟩,
 ⟨(some 12), (.call ⟨(.value (.func 33)), #[(.tmp 10), (.tmp 11)], #[23, 3]⟩), 3, none⟩,
 ⟨(some 1), (.assign (.tmp 12)), 3, none⟩])
 (.seq
 (.ops [
 ⟨(some 13), (.fieldAddr 29 (.tmp 2) 2), 0, none⟩,
 ⟨(some 14), (.load 23 (.tmp 13)), 23, none⟩,
 ⟨(some 15), (.move (.tmp 1)), 3, none⟩,
 ⟨(some 16), (.call ⟨(.value (.func 33)), #[(.tmp 14), (.tmp 15)], #[23, 3]⟩), 3, none⟩,
 ⟨(some 1), (.assign (.tmp 16)), 3, none⟩])
 (.seq
 (.ops [
 ⟨(some 17), (.move (.tmp 1)), 3, none⟩,
 ⟨(some 4), (.assign (.tmp 17)), 3, none⟩])
 .ret))))
theorem slim13 : Try.f13.body.map (slim lends) = some k13 := by kernel_rfl
theorem ok13 : fnOk Try.f13 2 = true := by kernel_rfl
theorem c13 {a l : List D} {r : D × List D} (h : wpD Y.env k13 (fin tys l.length [ResultVar.tmp 4] r) (entry a l)) (ha : a.length = 2) : Y.call 13 a l = some r :=
 call_slim (Y := Y) rfl Try.func13 (ha ▸ ok13) slim13 h
/-- laws.heldNetwork -/
def k14 : SC :=
 .seq
 (.ops [
 ⟨(some 2), (.box 29 (.tmp 0)), 0, none⟩,
 ⟨(some 4), (.assign (.const (.int .i64 0))), 3, none⟩])
 (.seq
 (.ops [
 ⟨(some 5), (.fieldAddr 29 (.tmp 2) 0), 0, none⟩,
 ⟨(some 6), (.load 27 (.tmp 5)), 27, none⟩,
 ⟨(some 7), (.move (.tmp 1)), 3, none⟩,
 ⟨(some 8), (.call ⟨(.value (.func 49)), #[(.tmp 6), (.tmp 7)], #[27, 3]⟩), 3, none⟩,
 ⟨(some 1), (.assign (.tmp 8)), 3, none⟩])
 (.seq
 (.seq
 (.ops [
 ⟨(some 9), (.move (.tmp 1)), 3, none⟩,
 ⟨(some 10), (.binOp .lss 3 (.tmp 9) (.const (.int .i64 0)) 3), 4, none⟩])
 (.cond (.tmp 10)
 (.seq
 (.ops [
 ⟨(some 4), (.assign (.const (.int .i64 (-1)))), 3, none⟩])
 .ret)
 .skip))
 (.seq
 (.ops [
 ⟨(some 11), (.fieldAddr 29 (.tmp 2) 1), 0, none⟩,
 ⟨(some 12), (.load 23 (.tmp 11)), 23, none⟩,
 ⟨(some 13), (.move (.tmp 1)), 3, none⟩,
 ⟨(some 14), (.call ⟨(.value (.func 34)), #[(.tmp 12), (.tmp 13)], #[23, 3]⟩), 3, none⟩,
 ⟨(some 1), (.assign (.tmp 14)), 3, none⟩])
 (.seq
 (.seq
 (.ops [
 ⟨(some 15), (.move (.tmp 1)), 3, none⟩,
 ⟨(some 16), (.binOp .lss 3 (.tmp 15) (.const (.int .i64 0)) 3), 4, none⟩])
 (.cond (.tmp 16)
 (.seq
 (.ops [
 ⟨(some 4), (.assign (.const (.int .i64 (-1)))), 3, none⟩])
 .ret)
 .skip))
 (.seq
 (.ops [
 ⟨(some 17), (.fieldAddr 29 (.tmp 2) 2), 0, none⟩,
 ⟨(some 18), (.load 23 (.tmp 17)), 23, none⟩,
 ⟨(some 19), (.move (.tmp 1)), 3, none⟩,
 ⟨(some 20), (.call ⟨(.value (.func 34)), #[(.tmp 18), (.tmp 19)], #[23, 3]⟩), 3, none⟩,
 ⟨(some 1), (.assign (.tmp 20)), 3, none⟩])
 (.seq
 (.seq
 (.ops [
 ⟨(some 21), (.move (.tmp 1)), 3, none⟩,
 ⟨(some 22), (.binOp .lss 3 (.tmp 21) (.const (.int .i64 0)) 3), 4, none⟩])
 (.cond (.tmp 22)
 (.seq
 (.ops [
 ⟨(some 4), (.assign (.const (.int .i64 (-1)))), 3, none⟩])
 .ret)
 .skip))
 (.seq
 (.ops [
 ⟨(some 23), (.move (.tmp 1)), 3, none⟩,
 ⟨(some 4), (.assign (.tmp 23)), 3, none⟩])
 .ret)))))))
theorem slim14 : Try.f14.body.map (slim lends) = some k14 := by kernel_rfl
theorem ok14 : fnOk Try.f14 2 = true := by kernel_rfl
theorem c14 {a l : List D} {r : D × List D} (h : wpD Y.env k14 (fin tys l.length [ResultVar.tmp 4] r) (entry a l)) (ha : a.length = 2) : Y.call 14 a l = some r :=
 call_slim (Y := Y) rfl Try.func14 (ha ▸ ok14) slim14 h
end Go.Proofs.Ytjkgcfdcfjkkbaa
