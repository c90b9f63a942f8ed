/- Texts of value programs: the law, lifted. Conditions: none. -/
import Derived.Test.YtaogbcdlpgfplaaDoorL6
import Derived.Test.YtaogbcdlpgfplaaDoorTxV
import Derived.Test.YtaogbcdlpgfplaaDoorVot
namespace Go.Proofs.YtaogbcdlpgfplaaDoor
open Go Dv
set_option linter.unusedSimpArgs false
set_option linter.unusedVariables false
set_option maxRecDepth 100000
set_option maxHeartbeats 4000000

noncomputable def l_FnExactValueText (aProg : List (Int × Int)) : Option (Bool) :=
 ck (aProg.length < 9223372036854775808) <|
 ck (0 ≤ (1048576 : Int) ∧ (1048576 : Int) ≤ 1048576) <|
 if (szN (1048576 : Int) aProg.length) < 0 then
  some true
 else
  ck (aProg.length < 549755813888) <|
  (s_ValueText aProg).bind fun r17_ =>
  (i_ValueText aProg).bind fun r24_ =>
  if (r24_.1.toList == r17_.1.toList) = true then
   if r24_.2 = true then
    if r17_.2 = true then
     if (decide (aProg = aProg)) = true then
      some true
     else
      some false
    else
     some false
   else
    if r17_.2 = true then
     some false
    else
     if (decide (aProg = aProg)) = true then
      some true
     else
      some false
  else
   some false
/-- laws.FnExactValueText -/
def k3 : SC :=
 .seq
 (.ops [
 ⟨(some 2), (.assign (.const (.bool false))), 4, none⟩])
 (.seq
 (.ops [
 ⟨(some 3), (.assign (.const (.int .i64 1048576))), 3, none⟩])
 (.seq
 (.ops [
 ⟨(some 9), (.move (.tmp 0)), 22, none⟩,
 ⟨(some 10), (.move (.tmp 3)), 3, none⟩,
 ⟨(some 11), (.call ⟨(.value (.func 7)), #[(.tmp 9), (.tmp 10)], #[22, 3]⟩), 3, none⟩,
 ⟨(some 3), (.assign (.tmp 11)), 3, none⟩])
 (.seq
 (.seq
 (.ops [
 ⟨(some 12), (.move (.tmp 3)), 3, none⟩,
 ⟨(some 13), (.binOp .lss 3 (.tmp 12) (.const (.int .i64 0)) 3), 4, none⟩])
 (.cond (.tmp 13)
 (.seq
 (.ops [
 ⟨(some 2), (.assign (.const (.bool true))), 4, none⟩])
 .ret)
 .skip))
 (.seq
 (.ops [
 ⟨(some 15), (.move (.tmp 0)), 22, none⟩,
 ⟨(some 16), (.call ⟨(.value (.func 9)), #[(.tmp 15)], #[22]⟩), 26, none⟩,
 ⟨(some 17), (.call ⟨(.value (.func 8)), #[(.tmp 16)], #[26]⟩), 24, none⟩,
 ⟨(some 14), (.move (.tmp 17)), 24, none⟩,
 ⟨(some 18), (.extract (.tmp 14) 0), 9, none⟩,
 ⟨(some 19), (.extract (.tmp 14) 1), 4, none⟩,
 ⟨(some 4), (.assign (.tmp 18)), 9, none⟩,
 ⟨(some 5), (.assign (.tmp 19)), 4, none⟩])
 (.seq
 (.ops [
 ⟨(some 20), (.move (.tmp 0)), 22, none⟩,
 ⟨(some 21), (.call ⟨(.value (.func 9)), #[(.tmp 20)], #[22]⟩), 26, none⟩,
 ⟨(some 6), (.assign (.tmp 21)), 26, none⟩])
 (.seq
 (.ops [
 ⟨(some 23), (.move (.tmp 6)), 26, none⟩,
 ⟨(some 24), (.call ⟨(.value (.func 10)), #[(.tmp 23)], #[26]⟩), 24, none⟩,
 ⟨(some 22), (.move (.tmp 24)), 24, none⟩,
 ⟨(some 25), (.extract (.tmp 22) 0), 9, none⟩,
 ⟨(some 26), (.extract (.tmp 22) 1), 4, none⟩,
 ⟨(some 7), (.assign (.tmp 25)), 9, none⟩,
 ⟨(some 8), (.assign (.tmp 26)), 4, none⟩])
 (.seq
 (.seq
 (.ops [
 ⟨(some 27), (.move (.tmp 7)), 9, none⟩,
 ⟨(some 28), (.move (.tmp 4)), 9, none⟩,
 ⟨(some 29), (.binOp .neq 9 (.tmp 27) (.tmp 28) 9), 4, none⟩,
 ⟨(some 30), (.move (.tmp 29)), 4, none⟩,
 ⟨(some 31), (.move (.tmp 8)), 4, (some (some 30, false))⟩,
 ⟨(some 32), (.move (.tmp 5)), 4, (some (some 30, false))⟩,
 ⟨(some 33), (.binOp .neq 4 (.tmp 31) (.tmp 32) 4), 4, (some (some 30, false))⟩,
 ⟨(some 34), (.pick (.tmp 30) (.const (.bool true)) (.tmp 33)), 4, none⟩])
 (.cond (.tmp 34)
 (.seq
 (.ops [
 ⟨(some 2), (.assign (.const (.bool false))), 4, none⟩])
 .ret)
 .skip))
 (.seq
 (.seq
 (.ops [
 ⟨(some 35), (.move (.tmp 6)), 26, none⟩,
 ⟨(some 36), (.move (.tmp 0)), 22, none⟩,
 ⟨(some 37), (.call ⟨(.value (.func 9)), #[(.tmp 36)], #[22]⟩), 26, none⟩,
 ⟨(some 38), (.call ⟨(.value (.func 11)), #[(.tmp 35), (.tmp 37)], #[26, 26]⟩), 4, none⟩,
 ⟨(some 39), (.unOp .not 4 (.tmp 38)), 4, none⟩])
 (.cond (.tmp 39)
 (.seq
 (.ops [
 ⟨(some 2), (.assign (.const (.bool false))), 4, none⟩])
 .ret)
 .skip))
 (.seq
 (.ops [
 ⟨(some 2), (.assign (.const (.bool true))), 4, none⟩])
 .ret)))))))))
theorem slim3 : Tryd.f3.body.map (slim lends) = some k3 := by kernel_rfl
theorem ok3 : fnOk Tryd.f3 1 = true := by kernel_rfl
theorem c3 {a l : List D} {r : D × List D} (h : wpD Y.env k3 (fin tys l.length [ResultVar.tmp 2] r) (entry a l)) (ha : a.length = 1) : Y.call 3 a l = some r :=
 call_slim (Y := Y) rfl Tryd.func3 (ha ▸ ok3) slim3 h
theorem l_FnExactValueText_call (aProg : List (Int × Int)) {r : Bool} (h : l_FnExactValueText aProg = some r) : Y.call 3 [D.sl 51 (cat2 .i64 .i64 aProg)] [] = some (D.bool r, []) := by
 refine c3 ?_ rfl
 unfold k3
 unfold l_FnExactValueText at h
 obtain ⟨e1, h⟩ := ckS h
 obtain ⟨e2, h⟩ := ckS h
 have c3 := l_szValueOpS_cl aProg (1048576 : Int) e1 e2
 by_cases e4 : (szN (1048576 : Int) aProg.length) < 0
 ·rw [if_pos e4] at h
  obtain rfl := Option.some.inj h
  simp (maxDischargeDepth := 9) only [↓xpre, xpost, xlst, xc2, xcore, yset, rg0, ↓reduceIte, Nat.reduceEqDiff, Nat.reduceLT, Nat.reduceLeDiff, Nat.reduceAdd, Nat.reduceMul, Nat.reduceMod, Nat.reduceDiv, Nat.reducePow, Nat.reduceSub, Nat.reduceBEq, Int.reduceLE, Int.reduceLT, Int.reduceEq, Int.reduceSub, Int.reduceAdd, Int.reduceToNat, Int.reduceNeg, e1, e2.1, e2.2, c3, e4] <;> (repeat' apply And.intro) <;> first | rfl | exact ⟨_, rfl⟩ | exact ⟨_, _, rfl⟩ | simp [lst, cat2_nil]
 ·rw [if_neg e4] at h
  obtain ⟨e5, h⟩ := ckS h
  have c6 := l_toValueOpS_cl aProg e5
  obtain ⟨r17_, hl7, h⟩ := bindS h
  try dsimp only at h
  have c7 := s_ValueText_call aProg hl7
  have c8 := l_toValueOpS_cl aProg e5
  obtain ⟨r24_, hl9, h⟩ := bindS h
  try dsimp only at h
  have c9 := i_ValueText_call aProg hl9
  by_cases e10 : (r24_.1.toList == r17_.1.toList) = true
  ·rw [if_pos e10] at h
   by_cases e11 : r24_.2 = true
   ·rw [if_pos e11] at h
    by_cases e12 : r17_.2 = true
    ·rw [if_pos e12] at h
     have c13 := l_toValueOpS_cl aProg e5
     have c14 := l_eqValueOpS_cl aProg aProg e5
     by_cases e15 : (decide (aProg = aProg)) = true
     ·rw [if_pos e15] at h
      obtain rfl := Option.some.inj h
      simp (maxDischargeDepth := 9) only [↓xpre, xpost, xlst, xc2, xcore, yset, rg0, ↓reduceIte, Nat.reduceEqDiff, Nat.reduceLT, Nat.reduceLeDiff, Nat.reduceAdd, Nat.reduceMul, Nat.reduceMod, Nat.reduceDiv, Nat.reducePow, Nat.reduceSub, Nat.reduceBEq, Int.reduceLE, Int.reduceLT, Int.reduceEq, Int.reduceSub, Int.reduceAdd, Int.reduceToNat, Int.reduceNeg, e1, e2.1, e2.2, c3, e4, e5, c6, c7, c8, c9, e10, e11, e12, c13, c14, e15] <;> (repeat' apply And.intro) <;> first | rfl | exact ⟨_, rfl⟩ | exact ⟨_, _, rfl⟩ | simp [lst, cat2_nil]
     ·exact absurd (decide_eq_true rfl) e15
    ·rw [if_neg e12] at h
     have e12f : r17_.2 = false := Bool.eq_false_iff.mpr e12
     obtain rfl := Option.some.inj h
     simp (maxDischargeDepth := 9) only [↓xpre, xpost, xlst, xc2, xcore, yset, rg0, ↓reduceIte, Nat.reduceEqDiff, Nat.reduceLT, Nat.reduceLeDiff, Nat.reduceAdd, Nat.reduceMul, Nat.reduceMod, Nat.reduceDiv, Nat.reducePow, Nat.reduceSub, Nat.reduceBEq, Int.reduceLE, Int.reduceLT, Int.reduceEq, Int.reduceSub, Int.reduceAdd, Int.reduceToNat, Int.reduceNeg, e1, e2.1, e2.2, c3, e4, e5, c6, c7, c8, c9, e10, e11, e12f] <;> (repeat' apply And.intro) <;> first | rfl | exact ⟨_, rfl⟩ | exact ⟨_, _, rfl⟩ | simp [lst, cat2_nil]
   ·rw [if_neg e11] at h
    have e11f : r24_.2 = false := Bool.eq_false_iff.mpr e11
    by_cases e12 : r17_.2 = true
    ·rw [if_pos e12] at h
     obtain rfl := Option.some.inj h
     simp (maxDischargeDepth := 9) only [↓xpre, xpost, xlst, xc2, xcore, yset, rg0, ↓reduceIte, Nat.reduceEqDiff, Nat.reduceLT, Nat.reduceLeDiff, Nat.reduceAdd, Nat.reduceMul, Nat.reduceMod, Nat.reduceDiv, Nat.reducePow, Nat.reduceSub, Nat.reduceBEq, Int.reduceLE, Int.reduceLT, Int.reduceEq, Int.reduceSub, Int.reduceAdd, Int.reduceToNat, Int.reduceNeg, e1, e2.1, e2.2, c3, e4, e5, c6, c7, c8, c9, e10, e11f, e12] <;> (repeat' apply And.intro) <;> first | rfl | exact ⟨_, rfl⟩ | exact ⟨_, _, rfl⟩ | simp [lst, cat2_nil]
    ·rw [if_neg e12] at h
     have e12f : r17_.2 = false := Bool.eq_false_iff.mpr e12
     have c13 := l_toValueOpS_cl aProg e5
     have c14 := l_eqValueOpS_cl aProg aProg e5
     by_cases e15 : (decide (aProg = aProg)) = true
     ·rw [if_pos e15] at h
      obtain rfl := Option.some.inj h
      simp (maxDischargeDepth := 9) only [↓xpre, xpost, xlst, xc2, xcore, yset, rg0, ↓reduceIte, Nat.reduceEqDiff, Nat.reduceLT, Nat.reduceLeDiff, Nat.reduceAdd, Nat.reduceMul, Nat.reduceMod, Nat.reduceDiv, Nat.reducePow, Nat.reduceSub, Nat.reduceBEq, Int.reduceLE, Int.reduceLT, Int.reduceEq, Int.reduceSub, Int.reduceAdd, Int.reduceToNat, Int.reduceNeg, e1, e2.1, e2.2, c3, e4, e5, c6, c7, c8, c9, e10, e11f, e12f, c13, c14, e15] <;> (repeat' apply And.intro) <;> first | rfl | exact ⟨_, rfl⟩ | exact ⟨_, _, rfl⟩ | simp [lst, cat2_nil]
     ·exact absurd (decide_eq_true rfl) e15
  ·rw [if_neg e10] at h
   have e10f : (r24_.1.toList == r17_.1.toList) = false := Bool.eq_false_iff.mpr e10
   obtain rfl := Option.some.inj h
   simp (maxDischargeDepth := 9) only [↓xpre, xpost, xlst, xc2, xcore, yset, rg0, ↓reduceIte, Nat.reduceEqDiff, Nat.reduceLT, Nat.reduceLeDiff, Nat.reduceAdd, Nat.reduceMul, Nat.reduceMod, Nat.reduceDiv, Nat.reducePow, Nat.reduceSub, Nat.reduceBEq, Int.reduceLE, Int.reduceLT, Int.reduceEq, Int.reduceSub, Int.reduceAdd, Int.reduceToNat, Int.reduceNeg, e1, e2.1, e2.2, c3, e4, e5, c6, c7, c8, c9, e10f] <;> (repeat' apply And.intro) <;> first | rfl | exact ⟨_, rfl⟩ | exact ⟨_, _, rfl⟩ | simp [lst, cat2_nil]


end Go.Proofs.YtaogbcdlpgfplaaDoor
