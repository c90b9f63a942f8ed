/- When lists are a problem, as plain functions. Conditions: the lists are short. -/
import Derived.Test.YtaogbcdlpgfplaaDoorL6
import Derived.Test.YtaogbcdlpgfplaaDoorPB
namespace Go.Proofs.YtaogbcdlpgfplaaDoor
open Go Dv
set_option linter.unusedSimpArgs false
set_option linter.unusedVariables false
set_option maxRecDepth 100000
set_option maxHeartbeats 4000000

def inR (n lo hi : Int) : Bool := decide (lo ≤ n ∧ n ≤ hi)
theorem inR_iff {n lo hi : Int} : inR n lo hi = true ↔ lo ≤ n ∧ n ≤ hi := by simp [inR]
noncomputable def i_within (n_ : Int) (low : Int) (high : Int) : Option (Bool) :=
 if low ≤ n_ then
  some (decide (n_ ≤ high))
 else
  some false
/-- impl.within -/
def k54 : SC :=
 .seq
 (.ops [
 ⟨(some 6), (.assign (.const (.bool false))), 4, none⟩])
 (.seq
 (.ops [
 ⟨(some 7), (.move (.tmp 1)), 3, none⟩,
 ⟨(some 8), (.move (.tmp 0)), 3, none⟩,
 ⟨(some 9), (.binOp .leq 3 (.tmp 7) (.tmp 8) 3), 4, none⟩,
 ⟨(some 10), (.move (.tmp 9)), 4, none⟩,
 ⟨(some 11), (.move (.tmp 0)), 3, (some (some 10, true))⟩,
 ⟨(some 12), (.move (.tmp 2)), 3, (some (some 10, true))⟩,
 ⟨(some 13), (.binOp .leq 3 (.tmp 11) (.tmp 12) 3), 4, (some (some 10, true))⟩,
 ⟨(some 14), (.pick (.tmp 10) (.tmp 13) (.const (.bool false))), 4, none⟩,
 ⟨(some 6), (.assign (.tmp 14)), 4, none⟩])
 .ret)
theorem slim54 : Tryd.f54.body.map (slim lends) = some k54 := by kernel_rfl
theorem ok54 : fnOk Tryd.f54 3 = true := by kernel_rfl
theorem c54 {a l : List D} {r : D × List D} (h : wpD Y.env k54 (fin tys l.length [ResultVar.tmp 6] r) (entry a l)) (ha : a.length = 3) : Y.call 54 a l = some r :=
 call_slim (Y := Y) rfl Tryd.func54 (ha ▸ ok54) slim54 h
theorem i_within_call (n_ : Int) (low : Int) (high : Int) {r : Bool} (h : i_within n_ low high = some r) : Y.call 54 [D.int .i64 n_, D.int .i64 low, D.int .i64 high] [] = some (D.bool r, []) := by
 refine c54 ?_ rfl
 unfold k54
 unfold i_within at h
 by_cases e1 : low ≤ n_
 ·rw [if_pos e1] at h
  obtain rfl := Option.some.inj h
  simp (maxDischargeDepth := 9) only [↓xpre, xpost, xlst, xc2, xcore, yset, rg0, ↓reduceIte, Nat.reduceEqDiff, Nat.reduceLT, Nat.reduceLeDiff, Nat.reduceAdd, Nat.reduceMul, Nat.reduceMod, Nat.reduceDiv, Nat.reducePow, Nat.reduceSub, Nat.reduceBEq, Int.reduceLE, Int.reduceLT, Int.reduceEq, Int.reduceSub, Int.reduceAdd, Int.reduceToNat, Int.reduceNeg, e1] <;> (repeat' apply And.intro) <;> first | rfl | exact ⟨_, rfl⟩ | exact ⟨_, _, rfl⟩ | simp [lst, cat2_nil]
 ·rw [if_neg e1] at h
  obtain rfl := Option.some.inj h
  simp (maxDischargeDepth := 9) only [↓xpre, xpost, xlst, xc2, xcore, yset, rg0, ↓reduceIte, Nat.reduceEqDiff, Nat.reduceLT, Nat.reduceLeDiff, Nat.reduceAdd, Nat.reduceMul, Nat.reduceMod, Nat.reduceDiv, Nat.reducePow, Nat.reduceSub, Nat.reduceBEq, Int.reduceLE, Int.reduceLT, Int.reduceEq, Int.reduceSub, Int.reduceAdd, Int.reduceToNat, Int.reduceNeg, e1] <;> (repeat' apply And.intro) <;> first | rfl | exact ⟨_, rfl⟩ | exact ⟨_, _, rfl⟩ | simp [lst, cat2_nil]

noncomputable def s_l1In (n_ : Int) (lo : Int) (hi : Int) : Option (Bool) :=
 if lo ≤ n_ then
  some (decide (n_ ≤ hi))
 else
  some false
/-- spec.l1In -/
def k51 : SC :=
 .seq
 (.ops [
 ⟨(some 6), (.assign (.const (.bool false))), 4, none⟩])
 (.seq
 (.ops [
 ⟨(some 7), (.move (.tmp 0)), 3, none⟩,
 ⟨(some 8), (.move (.tmp 1)), 3, none⟩,
 ⟨(some 9), (.binOp .geq 3 (.tmp 7) (.tmp 8) 3), 4, none⟩,
 ⟨(some 10), (.move (.tmp 9)), 4, none⟩,
 ⟨(some 11), (.move (.tmp 0)), 3, (some (some 10, true))⟩,
 ⟨(some 12), (.move (.tmp 2)), 3, (some (some 10, true))⟩,
 ⟨(some 13), (.binOp .leq 3 (.tmp 11) (.tmp 12) 3), 4, (some (some 10, true))⟩,
 ⟨(some 14), (.pick (.tmp 10) (.tmp 13) (.const (.bool false))), 4, none⟩,
 ⟨(some 6), (.assign (.tmp 14)), 4, none⟩])
 .ret)
theorem slim51 : Tryd.f51.body.map (slim lends) = some k51 := by kernel_rfl
theorem ok51 : fnOk Tryd.f51 3 = true := by kernel_rfl
theorem c51 {a l : List D} {r : D × List D} (h : wpD Y.env k51 (fin tys l.length [ResultVar.tmp 6] r) (entry a l)) (ha : a.length = 3) : Y.call 51 a l = some r :=
 call_slim (Y := Y) rfl Tryd.func51 (ha ▸ ok51) slim51 h
theorem s_l1In_call (n_ : Int) (lo : Int) (hi : Int) {r : Bool} (h : s_l1In n_ lo hi = some r) : Y.call 51 [D.int .i64 n_, D.int .i64 lo, D.int .i64 hi] [] = some (D.bool r, []) := by
 refine c51 ?_ rfl
 unfold k51
 unfold s_l1In at h
 by_cases e1 : lo ≤ n_
 ·rw [if_pos e1] at h
  obtain rfl := Option.some.inj h
  simp (maxDischargeDepth := 9) only [↓xpre, xpost, xlst, xc2, xcore, yset, rg0, ↓reduceIte, Nat.reduceEqDiff, Nat.reduceLT, Nat.reduceLeDiff, Nat.reduceAdd, Nat.reduceMul, Nat.reduceMod, Nat.reduceDiv, Nat.reducePow, Nat.reduceSub, Nat.reduceBEq, Int.reduceLE, Int.reduceLT, Int.reduceEq, Int.reduceSub, Int.reduceAdd, Int.reduceToNat, Int.reduceNeg, e1] <;> (repeat' apply And.intro) <;> first | rfl | exact ⟨_, rfl⟩ | exact ⟨_, _, rfl⟩ | simp [lst, cat2_nil]
 ·rw [if_neg e1] at h
  obtain rfl := Option.some.inj h
  simp (maxDischargeDepth := 9) only [↓xpre, xpost, xlst, xc2, xcore, yset, rg0, ↓reduceIte, Nat.reduceEqDiff, Nat.reduceLT, Nat.reduceLeDiff, Nat.reduceAdd, Nat.reduceMul, Nat.reduceMod, Nat.reduceDiv, Nat.reducePow, Nat.reduceSub, Nat.reduceBEq, Int.reduceLE, Int.reduceLT, Int.reduceEq, Int.reduceSub, Int.reduceAdd, Int.reduceToNat, Int.reduceNeg, e1] <;> (repeat' apply And.intro) <;> first | rfl | exact ⟨_, rfl⟩ | exact ⟨_, _, rfl⟩ | simp [lst, cat2_nil]

theorem i_within_eq (n lo hi : Int) : i_within n lo hi = some (inR n lo hi) := by unfold i_within inR; by_cases h1 : lo ≤ n <;> by_cases h2 : n ≤ hi <;> simp [h1, h2]
theorem s_l1In_eq (n lo hi : Int) : s_l1In n lo hi = some (inR n lo hi) := by unfold s_l1In inR; by_cases h1 : lo ≤ n <;> by_cases h2 : n ≤ hi <;> simp [h1, h2]
theorem i_within_cl (n_ : Int) (low : Int) (high : Int)  : Y.call 54 [D.int .i64 n_, D.int .i64 low, D.int .i64 high] [] = some (D.bool (inR n_ low high), []) := i_within_call n_ low high (i_within_eq n_ low high)
theorem s_l1In_cl (n_ : Int) (lo : Int) (hi : Int)  : Y.call 51 [D.int .i64 n_, D.int .i64 lo, D.int .i64 hi] [] = some (D.bool (inR n_ lo hi), []) := s_l1In_call n_ lo hi (s_l1In_eq n_ lo hi)
theorem Short.getD {l : List (List Int)} (h : Short l) (i : Nat) : (l.getD i default).length < 1099511627776 := by
 rcases Nat.lt_or_ge i l.length with hi | hi
 ·rw [getD_get _ _ hi]; exact h.at i hi
 ·rw [List.getD_eq_getElem?_getD, List.getElem?_eq_none hi]; decide
end Go.Proofs.YtaogbcdlpgfplaaDoor
