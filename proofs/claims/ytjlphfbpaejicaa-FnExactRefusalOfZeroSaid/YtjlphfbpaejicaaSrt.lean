/- Sorting by insertion, as a plain function. Conditions: the list is short. -/
import Derived.Test.YtjlphfbpaejicaaL6
import Derived.Test.YtjlphfbpaejicaaIsP
namespace Go.Proofs.Ytjlphfbpaejicaa
open Go Dv
set_option linter.unusedSimpArgs false
set_option linter.unusedVariables false
set_option maxRecDepth 100000
set_option maxHeartbeats 4000000

noncomputable def s_l1Own (l : List Int) : Option ((List Int)) :=
  ck (0 + l.length < 1099511627776) <|
  some l
/-- spec.l1Own -/
def k69 : SC :=
  .seq
    (.ops [
      ⟨(some 2), (Op.assign (Operand.const (Value.slice none 0 0))), 32, none⟩])
    (.seq
      (.ops [
        ⟨(some 3), (Op.buildSlice 32 0 #[]), 32, none⟩,
        ⟨(some 4), (Op.move (Operand.tmp 0)), 32, none⟩,
        ⟨(some 5), (Op.call { callee := (Callee.builtin Builtin.append), args := #[(Operand.tmp 3), (Operand.tmp 4)], argTypes := #[32, 32] }), 32, none⟩,
        ⟨(some 2), (Op.assign (Operand.tmp 5)), 32, none⟩])
      .ret)
theorem slim69 : Try.f69.body.map (slim lends) = some k69 := by kernel_rfl
theorem ok69 : fnOk Try.f69 1 = true := by kernel_rfl
theorem c69 {a l : List D} {r : D × List D} (h : wpD Y.env k69 (fin tys l.length [ResultVar.tmp 2] r) (entry a l)) (ha : a.length = 1) : Y.call 69 a l = some r :=
  call_slim (Y := Y) rfl Try.func69 (ha ▸ ok69) slim69 h
theorem s_l1Own_call (l : List Int) {r : (List Int)} (h : s_l1Own l = some r) : Y.call 69 [D.sl 3 (lst (D.int .i64) l)] [] = some (D.own 3 (lst (D.int .i64) r), []) := by
  refine c69 ?_ rfl
  unfold k69
  unfold s_l1Own at h
  obtain ⟨e1, h⟩ := ckS h
  obtain rfl := Option.some.inj h
  simp (maxDischargeDepth := 9) only [↓xpre, xpost, xlst, xcore, yset, rg0, ↓reduceIte, Nat.reduceEqDiff, Nat.reduceLT, Nat.reduceLeDiff, Nat.reduceAdd, Nat.reduceMul, Nat.reduceMod, Nat.reduceSub, Nat.reduceBEq, Int.reduceLE, Int.reduceLT, Int.reduceEq, Int.reduceSub, Int.reduceAdd, Int.reduceToNat, Int.reduceNeg, e1] <;> (repeat' apply And.intro) <;> first | rfl | exact ⟨_, rfl⟩ | simp [lst]

/-- A number put into a list, from the back. -/
def insR (x : Int) : List Int → List Int
  | [] => [x]
  | y :: r => if x < y then y :: insR x r else x :: y :: r
/-- The list sorted. -/
def sortI (l : List Int) : List Int := (l.foldl (fun r x => insR x r) []).reverse
end Go.Proofs.Ytjlphfbpaejicaa
