/- Sorting by insertion, as a plain function. Conditions: the list is short. -/
import Derived.Test.YtjkgcfdcfjkkbaaGreatL6
import Derived.Test.YtjkgcfdcfjkkbaaGreatIsP
namespace Go.Proofs.YtjkgcfdcfjkkbaaGreat
open Go Dv
set_option linter.unusedSimpArgs false
set_option linter.unusedVariables false
set_option maxRecDepth 100000
set_option maxHeartbeats 4000000

noncomputable def s_l1Own (l : List Int) : Option ((List Int)) :=
 ck (0 + l.length < 1099511627776) <|
 some l
/-- spec.l1Own -/
def k46 : SC :=
 .seq
 (.ops [
 ⟨(some 2), (.assign (.const (.slice none 0 0))), 26, none⟩])
 (.seq
 (.ops [
 ⟨(some 3), (.buildSlice 26 0 #[]), 26, none⟩,
 ⟨(some 4), (.move (.tmp 0)), 26, none⟩,
 ⟨(some 5), (.call ⟨(.builtin .append), #[(.tmp 3), (.tmp 4)], #[26, 26]⟩), 26, none⟩,
 ⟨(some 2), (.assign (.tmp 5)), 26, none⟩])
 .ret)
theorem slim46 : Tryz.f46.body.map (slim lends) = some k46 := by kernel_rfl
theorem ok46 : fnOk Tryz.f46 1 = true := by kernel_rfl
theorem c46 {a l : List D} {r : D × List D} (h : wpD Y.env k46 (fin tys l.length [ResultVar.tmp 2] r) (entry a l)) (ha : a.length = 1) : Y.call 46 a l = some r :=
 call_slim (Y := Y) rfl Tryz.func46 (ha ▸ ok46) slim46 h
theorem s_l1Own_call (l : List Int) {r : (List Int)} (h : s_l1Own l = some r) : Y.call 46 [D.sl 3 (lst (D.int .i64) l)] [] = some (D.own 3 (lst (D.int .i64) r), []) := by
 refine c46 ?_ rfl
 unfold k46
 unfold s_l1Own at h
 obtain ⟨e1, h⟩ := ckS h
 obtain rfl := Option.some.inj h
 simp (maxDischargeDepth := 9) only [↓xpre, xpost, xlst, xc2, xcore, yset, rg0, ↓reduceIte, Nat.reduceEqDiff, Nat.reduceLT, Nat.reduceLeDiff, Nat.reduceAdd, Nat.reduceMul, Nat.reduceMod, Nat.reduceSub, Nat.reduceBEq, Int.reduceLE, Int.reduceLT, Int.reduceEq, Int.reduceSub, Int.reduceAdd, Int.reduceToNat, Int.reduceNeg, e1] <;> (repeat' apply And.intro) <;> first | rfl | exact ⟨_, rfl⟩ | simp [lst, cat2_nil]

/-- A number put into a list, from the back. -/
def insR (x : Int) : List Int → List Int
 | [] => [x]
 | y :: r => if x < y then y :: insR x r else x :: y :: r
/-- The list sorted. -/
def sortI (l : List Int) : List Int := (l.foldl (fun r x => insR x r) []).reverse

end Go.Proofs.YtjkgcfdcfjkkbaaGreat
