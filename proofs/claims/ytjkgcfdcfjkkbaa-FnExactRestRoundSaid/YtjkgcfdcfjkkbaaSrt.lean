/- Sorting by insertion, as a plain function. Conditions: the list is short. -/
import Derived.Test.YtjkgcfdcfjkkbaaL6
import Derived.Test.YtjkgcfdcfjkkbaaIsP
namespace Go.Proofs.Ytjkgcfdcfjkkbaa
open Go Dv
set_option linter.unusedSimpArgs false
set_option linter.unusedVariables false
set_option maxRecDepth 100000
set_option maxHeartbeats 4000000

noncomputable def s_l1Own (l : List Int) : Option ((List Int)) :=
 ck (0 + l.length < 1099511627776) <|
 some l
/-- spec.l1Own -/
def k70 : SC :=
 .seq
 (.ops [
 ⟨(some 2), (.assign (.const (.slice none 0 0))), 23, none⟩])
 (.seq
 (.ops [
 ⟨(some 3), (.buildSlice 23 0 #[]), 23, none⟩,
 ⟨(some 4), (.move (.tmp 0)), 23, none⟩,
 ⟨(some 5), (.call ⟨(.builtin .append), #[(.tmp 3), (.tmp 4)], #[23, 23]⟩), 23, none⟩,
 ⟨(some 2), (.assign (.tmp 5)), 23, none⟩])
 .ret)
theorem slim70 : Try.f70.body.map (slim lends) = some k70 := by kernel_rfl
theorem ok70 : fnOk Try.f70 1 = true := by kernel_rfl
theorem c70 {a l : List D} {r : D × List D} (h : wpD Y.env k70 (fin tys l.length [ResultVar.tmp 2] r) (entry a l)) (ha : a.length = 1) : Y.call 70 a l = some r :=
 call_slim (Y := Y) rfl Try.func70 (ha ▸ ok70) slim70 h
theorem s_l1Own_call (l : List Int) {r : (List Int)} (h : s_l1Own l = some r) : Y.call 70 [D.sl 3 (lst (D.int .i64) l)] [] = some (D.own 3 (lst (D.int .i64) r), []) := by
 refine c70 ?_ rfl
 unfold k70
 unfold s_l1Own at h
 obtain ⟨e1, h⟩ := ckS h
 obtain rfl := Option.some.inj h
 simp (maxDischargeDepth := 9) only [↓xpre, xpost, xlst, xc2, xcore, yset, rg0, ↓reduceIte, Nat.reduceEqDiff, Nat.reduceLT, Nat.reduceLeDiff, Nat.reduceAdd, Nat.reduceMul, Nat.reduceMod, Nat.reduceSub, Nat.reduceBEq, Int.reduceLE, Int.reduceLT, Int.reduceEq, Int.reduceSub, Int.reduceAdd, Int.reduceToNat, Int.reduceNeg, e1] <;> (repeat' apply And.intro) <;> first | rfl | exact ⟨_, rfl⟩ | simp [lst, cat2_nil]

/-- A number put into a list, from the back. -/
def insR (x : Int) : List Int → List Int
 | [] => [x]
 | y :: r => if x < y then y :: insR x r else x :: y :: r
/-- The list sorted. -/
def sortI (l : List Int) : List Int := (l.foldl (fun r x => insR x r) []).reverse
end Go.Proofs.Ytjkgcfdcfjkkbaa
