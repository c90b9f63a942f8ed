/- Whether outputs meet a task: the law, lifted. Conditions: none. -/
import Derived.Test.YtjkgcfdcfjkkbaaL6
import Derived.Test.YtjkgcfdcfjkkbaaMtA
import Derived.Test.YtjkgcfdcfjkkbaaNmk
namespace Go.Proofs.Ytjkgcfdcfjkkbaa
open Go Dv
set_option linter.unusedSimpArgs false
set_option linter.unusedVariables false
set_option maxRecDepth 100000
set_option maxHeartbeats 4000000

noncomputable def l_FnExactMeetsTask (aN_Ends : List (List (Int × Int))) (aN_Ids : List Int) (aN_Inputs : List Int) (aTask : Int) (aOutputs : List Int) : Option (Bool) :=
 if 1048576 < (aOutputs.length : Int) then
  some true
 else
  ck (WideE aN_Ends) <|
  ck (aN_Ids.length < 9223372036854775808) <|
  ck (aN_Inputs.length < 9223372036854775808) <|
  ck (0 ≤ (1048576 : Int) ∧ (1048576 : Int) ≤ 1048576) <|
  if (szW (1048576 : Int) aN_Ends aN_Ids aN_Inputs) < 0 then
   some true
  else
   ck (ShortE aN_Ends) <|
   ck (aN_Ids.length < 1099511627776) <|
   ck (aN_Inputs.length < 1099511627776) <|
   ck (aOutputs.length < 1099511627776) <|
   (s_MeetsTask aN_Ends aN_Ids aN_Inputs aTask aOutputs).bind fun r14_ =>
   (i_MeetsTask aN_Ends aN_Ids aN_Inputs aTask aOutputs).bind fun r17_ =>
   if r17_.1 = true then
    if r14_.1 = true then
     if r17_.2 = true then
      if r14_.2 = true then
       if (sameN aN_Ends aN_Ids aN_Inputs aN_Ends aN_Ids aN_Inputs) = true then
        if (decide (aOutputs = aOutputs)) = true then
         some true
        else
         some false
       else
        some false
      else
       some false
     else
      if r14_.2 = true then
       some false
      else
       if (sameN aN_Ends aN_Ids aN_Inputs aN_Ends aN_Ids aN_Inputs) = true then
        if (decide (aOutputs = aOutputs)) = true then
         some true
        else
         some false
       else
        some false
    else
     some false
   else
    if r14_.1 = true then
     some false
    else
     if r17_.2 = true then
      if r14_.2 = true then
       if (sameN aN_Ends aN_Ids aN_Inputs aN_Ends aN_Ids aN_Inputs) = true then
        if (decide (aOutputs = aOutputs)) = true then
         some true
        else
         some false
       else
        some false
      else
       some false
     else
      if r14_.2 = true then
       some false
      else
       if (sameN aN_Ends aN_Ids aN_Inputs aN_Ends aN_Ids aN_Inputs) = true then
        if (decide (aOutputs = aOutputs)) = true then
         some true
        else
         some false
       else
        some false
/-- laws.FnExactMeetsTask -/
def k5 : SC :=
 .seq
 (.ops [
 ⟨(some 3), (.box 25 (.tmp 0)), 0, none⟩,
 ⟨(some 6), (.assign (.const (.bool false))), 4, none⟩])
 (.seq
 (.seq
 (.ops [
 ⟨(some 14), (.move (.tmp 2)), 23, none⟩,
 ⟨(some 15), (.call ⟨(.builtin .len), #[(.tmp 14)], #[23]⟩), 3, none⟩,
 ⟨(some 16), (.binOp .gtr 3 (.tmp 15) (.const (.int .i64 1048576)) 3), 4, none⟩])
 (.cond (.tmp 16)
 (.seq
 (.ops [
 ⟨(some 6), (.assign (.const (.bool true))), 4, none⟩])
 .ret)
 .skip))
 (.seq
 (.ops [
 ⟨(some 7), (.assign (.const (.int .i64 1048576))), 3, none⟩])
 (.seq
 (.ops [
 ⟨(some 17), (.load 25 (.tmp 3)), 25, none⟩,
 ⟨(some 18), (.move (.tmp 7)), 3, none⟩,
 ⟨(some 19), (.call ⟨(.value (.func 8)), #[(.tmp 17), (.tmp 18)], #[25, 3]⟩), 3, none⟩,
 ⟨(some 7), (.assign (.tmp 19)), 3, none⟩])
 (.seq
 (.seq
 (.ops [
 ⟨(some 20), (.move (.tmp 7)), 3, none⟩,
 ⟨(some 21), (.binOp .lss 3 (.tmp 20) (.const (.int .i64 0)) 3), 4, none⟩])
 (.cond (.tmp 21)
 (.seq
 (.ops [
 ⟨(some 6), (.assign (.const (.bool true))), 4, none⟩])
 .ret)
 .skip))
 (.seq
 (.ops [
 ⟨(some 23), (.load 25 (.tmp 3)), 25, none⟩,
 ⟨(some 24), (.call ⟨(.value (.func 10)), #[(.tmp 23)], #[25]⟩), 29, none⟩,
 ⟨(some 25), (.move (.tmp 1)), 3, none⟩,
 ⟨(some 26), (.move (.tmp 2)), 23, none⟩,
 ⟨(some 27), (.call ⟨(.value (.func 24)), #[(.tmp 26)], #[23]⟩), 23, none⟩,
 ⟨(some 28), (.call ⟨(.value (.func 23)), #[(.tmp 24), (.tmp 25), (.tmp 27)], #[29, 3, 23]⟩), 41, none⟩,
 ⟨(some 22), (.move (.tmp 28)), 41, none⟩,
 ⟨(some 29), (.extract (.tmp 22) 0), 4, none⟩,
 ⟨(some 30), (.extract (.tmp 22) 1), 4, none⟩,
 ⟨(some 8), (.assign (.tmp 29)), 4, none⟩,
 ⟨(some 9), (.assign (.tmp 30)), 4, none⟩])
 (.seq
 (.ops [
 ⟨(some 31), (.load 25 (.tmp 3)), 25, none⟩,
 ⟨(some 32), (.call ⟨(.value (.func 10)), #[(.tmp 31)], #[25]⟩), 29, none⟩,
 ⟨(some 10), (.alloc 29), 0, none⟩,
 ⟨none, (.store 29 (.tmp 10) (.tmp 32)), 0, none⟩])
 (.seq
 (.ops [
 ⟨(some 33), (.move (.tmp 2)), 23, none⟩,
 ⟨(some 34), (.call ⟨(.value (.func 24)), #[(.tmp 33)], #[23]⟩), 23, none⟩,
 ⟨(some 11), (.assign (.tmp 34)), 23, none⟩])
 (.seq
 (.ops [
 ⟨(some 36), (.load 29 (.tmp 10)), 29, none⟩,
 ⟨(some 37), (.move (.tmp 1)), 3, none⟩,
 ⟨(some 38), (.move (.tmp 11)), 23, none⟩,
 ⟨(some 39), (.call ⟨(.value (.func 25)), #[(.tmp 36), (.tmp 37), (.tmp 38)], #[29, 3, 23]⟩), 41, none⟩,
 ⟨(some 35), (.move (.tmp 39)), 41, none⟩,
 ⟨(some 40), (.extract (.tmp 35) 0), 4, none⟩,
 ⟨(some 41), (.extract (.tmp 35) 1), 4, none⟩,
 ⟨(some 12), (.assign (.tmp 40)), 4, none⟩,
 ⟨(some 13), (.assign (.tmp 41)), 4, none⟩])
 (.seq
 (.seq
 (.ops [
 ⟨(some 42), (.move (.tmp 12)), 4, none⟩,
 ⟨(some 43), (.move (.tmp 8)), 4, none⟩,
 ⟨(some 44), (.binOp .neq 4 (.tmp 42) (.tmp 43) 4), 4, none⟩,
 ⟨(some 45), (.move (.tmp 44)), 4, none⟩,
 ⟨(some 46), (.move (.tmp 13)), 4, (some (some 45, false))⟩,
 ⟨(some 47), (.move (.tmp 9)), 4, (some (some 45, false))⟩,
 ⟨(some 48), (.binOp .neq 4 (.tmp 46) (.tmp 47) 4), 4, (some (some 45, false))⟩,
 ⟨(some 49), (.pick (.tmp 45) (.const (.bool true)) (.tmp 48)), 4, none⟩])
 (.cond (.tmp 49)
 (.seq
 (.ops [
 ⟨(some 6), (.assign (.const (.bool false))), 4, none⟩])
 .ret)
 .skip))
 (.seq
 (.seq
 (.draws [
 (⟨[50, 10, 10], [50, 51, 52, 53, 54], [50]⟩, ⟨(some 50), (.load 29 (.tmp 10)), 29, none⟩),
 (⟨[51, 3, 3], [50, 51, 52, 53, 54], [51]⟩, ⟨(some 51), (.load 25 (.tmp 3)), 25, none⟩),
 (⟨[52, 51, 3], [50, 51, 52, 53, 54], [52]⟩, ⟨(some 52), (.call ⟨(.value (.func 10)), #[(.tmp 51)], #[25]⟩), 29, none⟩),
 (⟨[53, 50, 52, 10, 52], [50, 51, 52, 53, 54], [53]⟩, ⟨(some 53), (.call ⟨(.value (.func 12)), #[(.tmp 50), (.tmp 52)], #[29, 29]⟩), 4, none⟩),
 (⟨[54, 53, 53], [50, 51, 52, 53, 54], [54]⟩, ⟨(some 54), (.unOp .not 4 (.tmp 53)), 4, none⟩)])
 (.cond (.tmp 54)
 (.seq
 (.ops [
 ⟨(some 6), (.assign (.const (.bool false))), 4, none⟩])
 .ret)
 .skip))
 (.seq
 (.seq
 (.ops [
 ⟨(some 55), (.move (.tmp 11)), 23, none⟩,
 ⟨(some 56), (.move (.tmp 2)), 23, none⟩,
 ⟨(some 57), (.call ⟨(.value (.func 24)), #[(.tmp 56)], #[23]⟩), 23, none⟩,
 ⟨(some 58), (.call ⟨(.value (.func 26)), #[(.tmp 55), (.tmp 57)], #[23, 23]⟩), 4, none⟩,
 ⟨(some 59), (.unOp .not 4 (.tmp 58)), 4, none⟩])
 (.cond (.tmp 59)
 (.seq
 (.ops [
 ⟨(some 6), (.assign (.const (.bool false))), 4, none⟩])
 .ret)
 .skip))
 (.seq
 (.ops [
 ⟨(some 6), (.assign (.const (.bool true))), 4, none⟩])
 .ret))))))))))))
theorem slim5 : Try.f5.body.map (slim lends) = some k5 := by kernel_rfl
theorem ok5 : fnOk Try.f5 3 = true := by kernel_rfl
theorem c5 {a l : List D} {r : D × List D} (h : wpD Y.env k5 (fin tys l.length [ResultVar.tmp 6] r) (entry a l)) (ha : a.length = 3) : Y.call 5 a l = some r :=
 call_slim (Y := Y) rfl Try.func5 (ha ▸ ok5) slim5 h
theorem l_FnExactMeetsTask_call (aN_Ends : List (List (Int × Int))) (aN_Ids : List Int) (aN_Inputs : List Int) (aTask : Int) (aOutputs : List Int) {r : Bool} (h : l_FnExactMeetsTask aN_Ends aN_Ids aN_Inputs aTask aOutputs = some r) : Y.call 5 [D.agg [D.sl 90 (lst (fun x => D.sl 128 (cat2 .i64 .i64 x)) aN_Ends), D.sl 3 (lst (D.int .i64) aN_Ids), D.sl 3 (lst (D.int .i64) aN_Inputs)], D.int .i64 aTask, D.sl 3 (lst (D.int .i64) aOutputs)] [] = some (D.bool r, []) := by
 refine c5 ?_ rfl
 unfold k5
 unfold l_FnExactMeetsTask at h
 by_cases e1 : 1048576 < (aOutputs.length : Int)
 ·rw [if_pos e1] at h
  obtain rfl := Option.some.inj h
  simp (maxDischargeDepth := 9) only [↓xpre, xpost, xlst, xc2, xcore, yset, rg0, ↓reduceIte, Nat.reduceEqDiff, Nat.reduceLT, Nat.reduceLeDiff, Nat.reduceAdd, Nat.reduceMul, Nat.reduceMod, Nat.reduceSub, Nat.reduceBEq, Int.reduceLE, Int.reduceLT, Int.reduceEq, Int.reduceSub, Int.reduceAdd, Int.reduceToNat, Int.reduceNeg, e1] <;> (repeat' apply And.intro) <;> first | rfl | exact ⟨_, rfl⟩ | simp [lst, cat2_nil]
 ·rw [if_neg e1] at h
  obtain ⟨e2, h⟩ := ckS h
  obtain ⟨e3, h⟩ := ckS h
  obtain ⟨e4, h⟩ := ckS h
  obtain ⟨e5, h⟩ := ckS h
  have c6 := l_szNetwork_cl aN_Ends aN_Ids aN_Inputs (1048576 : Int) e2 e3 e4 e5
  by_cases e7 : (szW (1048576 : Int) aN_Ends aN_Ids aN_Inputs) < 0
  ·rw [if_pos e7] at h
   obtain rfl := Option.some.inj h
   simp (maxDischargeDepth := 9) only [↓xpre, xpost, xlst, xc2, xcore, yset, rg0, ↓reduceIte, Nat.reduceEqDiff, Nat.reduceLT, Nat.reduceLeDiff, Nat.reduceAdd, Nat.reduceMul, Nat.reduceMod, Nat.reduceSub, Nat.reduceBEq, Int.reduceLE, Int.reduceLT, Int.reduceEq, Int.reduceSub, Int.reduceAdd, Int.reduceToNat, Int.reduceNeg, e1, e2, e3, e4, e5.1, e5.2, c6, e7] <;> (repeat' apply And.intro) <;> first | rfl | exact ⟨_, rfl⟩ | simp [lst, cat2_nil]
  ·rw [if_neg e7] at h
   obtain ⟨e8, h⟩ := ckS h
   obtain ⟨e9, h⟩ := ckS h
   obtain ⟨e10, h⟩ := ckS h
   have c11 := l_toNetwork_cl aN_Ends aN_Ids aN_Inputs e8 e9 e10
   obtain ⟨e12, h⟩ := ckS h
   have c13 := l_toIntS_cl aOutputs e12
   obtain ⟨r14_, hl14, h⟩ := bindS h
   try dsimp only at h
   have c14 := s_MeetsTask_call aN_Ends aN_Ids aN_Inputs aTask aOutputs hl14
   have c15 := l_toNetwork_cl aN_Ends aN_Ids aN_Inputs e8 e9 e10
   have c16 := l_toIntS_cl aOutputs e12
   obtain ⟨r17_, hl17, h⟩ := bindS h
   try dsimp only at h
   have c17 := i_MeetsTask_call aN_Ends aN_Ids aN_Inputs aTask aOutputs hl17
   by_cases e18 : r17_.1 = true
   ·rw [if_pos e18] at h
    by_cases e19 : r14_.1 = true
    ·rw [if_pos e19] at h
     by_cases e20 : r17_.2 = true
     ·rw [if_pos e20] at h
      by_cases e21 : r14_.2 = true
      ·rw [if_pos e21] at h
       have c22 := l_toNetwork_cl aN_Ends aN_Ids aN_Inputs e8 e9 e10
       have c23 := l_eqNetwork_cl aN_Ends aN_Ids aN_Inputs aN_Ends aN_Ids aN_Inputs e8 e9 e10
       by_cases e24 : (sameN aN_Ends aN_Ids aN_Inputs aN_Ends aN_Ids aN_Inputs) = true
       ·rw [if_pos e24] at h
        have c25 := l_toIntS_cl aOutputs e12
        have c26 := l_eqIntS_cl aOutputs aOutputs e12
        by_cases e27 : (decide (aOutputs = aOutputs)) = true
        ·rw [if_pos e27] at h
         obtain rfl := Option.some.inj h
         simp (maxDischargeDepth := 9) only [↓xpre, xpost, xlst, xc2, xcore, yset, rg0, ↓reduceIte, Nat.reduceEqDiff, Nat.reduceLT, Nat.reduceLeDiff, Nat.reduceAdd, Nat.reduceMul, Nat.reduceMod, Nat.reduceSub, Nat.reduceBEq, Int.reduceLE, Int.reduceLT, Int.reduceEq, Int.reduceSub, Int.reduceAdd, Int.reduceToNat, Int.reduceNeg, e1, e2, e3, e4, e5.1, e5.2, c6, e7, e8, e9, e10, c11, e12, c13, c14, c15, c16, c17, e18, e19, e20, e21, c22, c23, e24, c25, c26, e27] <;> (repeat' apply And.intro) <;> first | rfl | exact ⟨_, rfl⟩ | simp [lst, cat2_nil]
        ·exact absurd (decide_eq_true rfl) e27
       ·rw [if_neg e24] at h
        have e24f : (sameN aN_Ends aN_Ids aN_Inputs aN_Ends aN_Ids aN_Inputs) = false := Bool.eq_false_iff.mpr e24
        obtain rfl := Option.some.inj h
        simp (maxDischargeDepth := 9) only [↓xpre, xpost, xlst, xc2, xcore, yset, rg0, ↓reduceIte, Nat.reduceEqDiff, Nat.reduceLT, Nat.reduceLeDiff, Nat.reduceAdd, Nat.reduceMul, Nat.reduceMod, Nat.reduceSub, Nat.reduceBEq, Int.reduceLE, Int.reduceLT, Int.reduceEq, Int.reduceSub, Int.reduceAdd, Int.reduceToNat, Int.reduceNeg, e1, e2, e3, e4, e5.1, e5.2, c6, e7, e8, e9, e10, c11, e12, c13, c14, c15, c16, c17, e18, e19, e20, e21, c22, c23, e24f] <;> (repeat' apply And.intro) <;> first | rfl | exact ⟨_, rfl⟩ | simp [lst, cat2_nil]
      ·rw [if_neg e21] at h
       have e21f : r14_.2 = false := Bool.eq_false_iff.mpr e21
       obtain rfl := Option.some.inj h
       simp (maxDischargeDepth := 9) only [↓xpre, xpost, xlst, xc2, xcore, yset, rg0, ↓reduceIte, Nat.reduceEqDiff, Nat.reduceLT, Nat.reduceLeDiff, Nat.reduceAdd, Nat.reduceMul, Nat.reduceMod, Nat.reduceSub, Nat.reduceBEq, Int.reduceLE, Int.reduceLT, Int.reduceEq, Int.reduceSub, Int.reduceAdd, Int.reduceToNat, Int.reduceNeg, e1, e2, e3, e4, e5.1, e5.2, c6, e7, e8, e9, e10, c11, e12, c13, c14, c15, c16, c17, e18, e19, e20, e21f] <;> (repeat' apply And.intro) <;> first | rfl | exact ⟨_, rfl⟩ | simp [lst, cat2_nil]
     ·rw [if_neg e20] at h
      have e20f : r17_.2 = false := Bool.eq_false_iff.mpr e20
      by_cases e21 : r14_.2 = true
      ·rw [if_pos e21] at h
       obtain rfl := Option.some.inj h
       simp (maxDischargeDepth := 9) only [↓xpre, xpost, xlst, xc2, xcore, yset, rg0, ↓reduceIte, Nat.reduceEqDiff, Nat.reduceLT, Nat.reduceLeDiff, Nat.reduceAdd, Nat.reduceMul, Nat.reduceMod, Nat.reduceSub, Nat.reduceBEq, Int.reduceLE, Int.reduceLT, Int.reduceEq, Int.reduceSub, Int.reduceAdd, Int.reduceToNat, Int.reduceNeg, e1, e2, e3, e4, e5.1, e5.2, c6, e7, e8, e9, e10, c11, e12, c13, c14, c15, c16, c17, e18, e19, e20f, e21] <;> (repeat' apply And.intro) <;> first | rfl | exact ⟨_, rfl⟩ | simp [lst, cat2_nil]
      ·rw [if_neg e21] at h
       have e21f : r14_.2 = false := Bool.eq_false_iff.mpr e21
       have c22 := l_toNetwork_cl aN_Ends aN_Ids aN_Inputs e8 e9 e10
       have c23 := l_eqNetwork_cl aN_Ends aN_Ids aN_Inputs aN_Ends aN_Ids aN_Inputs e8 e9 e10
       by_cases e24 : (sameN aN_Ends aN_Ids aN_Inputs aN_Ends aN_Ids aN_Inputs) = true
       ·rw [if_pos e24] at h
        have c25 := l_toIntS_cl aOutputs e12
        have c26 := l_eqIntS_cl aOutputs aOutputs e12
        by_cases e27 : (decide (aOutputs = aOutputs)) = true
        ·rw [if_pos e27] at h
         obtain rfl := Option.some.inj h
         simp (maxDischargeDepth := 9) only [↓xpre, xpost, xlst, xc2, xcore, yset, rg0, ↓reduceIte, Nat.reduceEqDiff, Nat.reduceLT, Nat.reduceLeDiff, Nat.reduceAdd, Nat.reduceMul, Nat.reduceMod, Nat.reduceSub, Nat.reduceBEq, Int.reduceLE, Int.reduceLT, Int.reduceEq, Int.reduceSub, Int.reduceAdd, Int.reduceToNat, Int.reduceNeg, e1, e2, e3, e4, e5.1, e5.2, c6, e7, e8, e9, e10, c11, e12, c13, c14, c15, c16, c17, e18, e19, e20f, e21f, c22, c23, e24, c25, c26, e27] <;> (repeat' apply And.intro) <;> first | rfl | exact ⟨_, rfl⟩ | simp [lst, cat2_nil]
        ·exact absurd (decide_eq_true rfl) e27
       ·rw [if_neg e24] at h
        have e24f : (sameN aN_Ends aN_Ids aN_Inputs aN_Ends aN_Ids aN_Inputs) = false := Bool.eq_false_iff.mpr e24
        obtain rfl := Option.some.inj h
        simp (maxDischargeDepth := 9) only [↓xpre, xpost, xlst, xc2, xcore, yset, rg0, ↓reduceIte, Nat.reduceEqDiff, Nat.reduceLT, Nat.reduceLeDiff, Nat.reduceAdd, Nat.reduceMul, Nat.reduceMod, Nat.reduceSub, Nat.reduceBEq, Int.reduceLE, Int.reduceLT, Int.reduceEq, Int.reduceSub, Int.reduceAdd, Int.reduceToNat, Int.reduceNeg, e1, e2, e3, e4, e5.1, e5.2, c6, e7, e8, e9, e10, c11, e12, c13, c14, c15, c16, c17, e18, e19, e20f, e21f, c22, c23, e24f] <;> (repeat' apply And.intro) <;> first | rfl | exact ⟨_, rfl⟩ | simp [lst, cat2_nil]
    ·rw [if_neg e19] at h
     have e19f : r14_.1 = false := Bool.eq_false_iff.mpr e19
     obtain rfl := Option.some.inj h
     simp (maxDischargeDepth := 9) only [↓xpre, xpost, xlst, xc2, xcore, yset, rg0, ↓reduceIte, Nat.reduceEqDiff, Nat.reduceLT, Nat.reduceLeDiff, Nat.reduceAdd, Nat.reduceMul, Nat.reduceMod, Nat.reduceSub, Nat.reduceBEq, Int.reduceLE, Int.reduceLT, Int.reduceEq, Int.reduceSub, Int.reduceAdd, Int.reduceToNat, Int.reduceNeg, e1, e2, e3, e4, e5.1, e5.2, c6, e7, e8, e9, e10, c11, e12, c13, c14, c15, c16, c17, e18, e19f] <;> (repeat' apply And.intro) <;> first | rfl | exact ⟨_, rfl⟩ | simp [lst, cat2_nil]
   ·rw [if_neg e18] at h
    have e18f : r17_.1 = false := Bool.eq_false_iff.mpr e18
    by_cases e19 : r14_.1 = true
    ·rw [if_pos e19] at h
     obtain rfl := Option.some.inj h
     simp (maxDischargeDepth := 9) only [↓xpre, xpost, xlst, xc2, xcore, yset, rg0, ↓reduceIte, Nat.reduceEqDiff, Nat.reduceLT, Nat.reduceLeDiff, Nat.reduceAdd, Nat.reduceMul, Nat.reduceMod, Nat.reduceSub, Nat.reduceBEq, Int.reduceLE, Int.reduceLT, Int.reduceEq, Int.reduceSub, Int.reduceAdd, Int.reduceToNat, Int.reduceNeg, e1, e2, e3, e4, e5.1, e5.2, c6, e7, e8, e9, e10, c11, e12, c13, c14, c15, c16, c17, e18f, e19] <;> (repeat' apply And.intro) <;> first | rfl | exact ⟨_, rfl⟩ | simp [lst, cat2_nil]
    ·rw [if_neg e19] at h
     have e19f : r14_.1 = false := Bool.eq_false_iff.mpr e19
     by_cases e20 : r17_.2 = true
     ·rw [if_pos e20] at h
      by_cases e21 : r14_.2 = true
      ·rw [if_pos e21] at h
       have c22 := l_toNetwork_cl aN_Ends aN_Ids aN_Inputs e8 e9 e10
       have c23 := l_eqNetwork_cl aN_Ends aN_Ids aN_Inputs aN_Ends aN_Ids aN_Inputs e8 e9 e10
       by_cases e24 : (sameN aN_Ends aN_Ids aN_Inputs aN_Ends aN_Ids aN_Inputs) = true
       ·rw [if_pos e24] at h
        have c25 := l_toIntS_cl aOutputs e12
        have c26 := l_eqIntS_cl aOutputs aOutputs e12
        by_cases e27 : (decide (aOutputs = aOutputs)) = true
        ·rw [if_pos e27] at h
         obtain rfl := Option.some.inj h
         simp (maxDischargeDepth := 9) only [↓xpre, xpost, xlst, xc2, xcore, yset, rg0, ↓reduceIte, Nat.reduceEqDiff, Nat.reduceLT, Nat.reduceLeDiff, Nat.reduceAdd, Nat.reduceMul, Nat.reduceMod, Nat.reduceSub, Nat.reduceBEq, Int.reduceLE, Int.reduceLT, Int.reduceEq, Int.reduceSub, Int.reduceAdd, Int.reduceToNat, Int.reduceNeg, e1, e2, e3, e4, e5.1, e5.2, c6, e7, e8, e9, e10, c11, e12, c13, c14, c15, c16, c17, e18f, e19f, e20, e21, c22, c23, e24, c25, c26, e27] <;> (repeat' apply And.intro) <;> first | rfl | exact ⟨_, rfl⟩ | simp [lst, cat2_nil]
        ·exact absurd (decide_eq_true rfl) e27
       ·rw [if_neg e24] at h
        have e24f : (sameN aN_Ends aN_Ids aN_Inputs aN_Ends aN_Ids aN_Inputs) = false := Bool.eq_false_iff.mpr e24
        obtain rfl := Option.some.inj h
        simp (maxDischargeDepth := 9) only [↓xpre, xpost, xlst, xc2, xcore, yset, rg0, ↓reduceIte, Nat.reduceEqDiff, Nat.reduceLT, Nat.reduceLeDiff, Nat.reduceAdd, Nat.reduceMul, Nat.reduceMod, Nat.reduceSub, Nat.reduceBEq, Int.reduceLE, Int.reduceLT, Int.reduceEq, Int.reduceSub, Int.reduceAdd, Int.reduceToNat, Int.reduceNeg, e1, e2, e3, e4, e5.1, e5.2, c6, e7, e8, e9, e10, c11, e12, c13, c14, c15, c16, c17, e18f, e19f, e20, e21, c22, c23, e24f] <;> (repeat' apply And.intro) <;> first | rfl | exact ⟨_, rfl⟩ | simp [lst, cat2_nil]
      ·rw [if_neg e21] at h
       have e21f : r14_.2 = false := Bool.eq_false_iff.mpr e21
       obtain rfl := Option.some.inj h
       simp (maxDischargeDepth := 9) only [↓xpre, xpost, xlst, xc2, xcore, yset, rg0, ↓reduceIte, Nat.reduceEqDiff, Nat.reduceLT, Nat.reduceLeDiff, Nat.reduceAdd, Nat.reduceMul, Nat.reduceMod, Nat.reduceSub, Nat.reduceBEq, Int.reduceLE, Int.reduceLT, Int.reduceEq, Int.reduceSub, Int.reduceAdd, Int.reduceToNat, Int.reduceNeg, e1, e2, e3, e4, e5.1, e5.2, c6, e7, e8, e9, e10, c11, e12, c13, c14, c15, c16, c17, e18f, e19f, e20, e21f] <;> (repeat' apply And.intro) <;> first | rfl | exact ⟨_, rfl⟩ | simp [lst, cat2_nil]
     ·rw [if_neg e20] at h
      have e20f : r17_.2 = false := Bool.eq_false_iff.mpr e20
      by_cases e21 : r14_.2 = true
      ·rw [if_pos e21] at h
       obtain rfl := Option.some.inj h
       simp (maxDischargeDepth := 9) only [↓xpre, xpost, xlst, xc2, xcore, yset, rg0, ↓reduceIte, Nat.reduceEqDiff, Nat.reduceLT, Nat.reduceLeDiff, Nat.reduceAdd, Nat.reduceMul, Nat.reduceMod, Nat.reduceSub, Nat.reduceBEq, Int.reduceLE, Int.reduceLT, Int.reduceEq, Int.reduceSub, Int.reduceAdd, Int.reduceToNat, Int.reduceNeg, e1, e2, e3, e4, e5.1, e5.2, c6, e7, e8, e9, e10, c11, e12, c13, c14, c15, c16, c17, e18f, e19f, e20f, e21] <;> (repeat' apply And.intro) <;> first | rfl | exact ⟨_, rfl⟩ | simp [lst, cat2_nil]
      ·rw [if_neg e21] at h
       have e21f : r14_.2 = false := Bool.eq_false_iff.mpr e21
       have c22 := l_toNetwork_cl aN_Ends aN_Ids aN_Inputs e8 e9 e10
       have c23 := l_eqNetwork_cl aN_Ends aN_Ids aN_Inputs aN_Ends aN_Ids aN_Inputs e8 e9 e10
       by_cases e24 : (sameN aN_Ends aN_Ids aN_Inputs aN_Ends aN_Ids aN_Inputs) = true
       ·rw [if_pos e24] at h
        have c25 := l_toIntS_cl aOutputs e12
        have c26 := l_eqIntS_cl aOutputs aOutputs e12
        by_cases e27 : (decide (aOutputs = aOutputs)) = true
        ·rw [if_pos e27] at h
         obtain rfl := Option.some.inj h
         simp (maxDischargeDepth := 9) only [↓xpre, xpost, xlst, xc2, xcore, yset, rg0, ↓reduceIte, Nat.reduceEqDiff, Nat.reduceLT, Nat.reduceLeDiff, Nat.reduceAdd, Nat.reduceMul, Nat.reduceMod, Nat.reduceSub, Nat.reduceBEq, Int.reduceLE, Int.reduceLT, Int.reduceEq, Int.reduceSub, Int.reduceAdd, Int.reduceToNat, Int.reduceNeg, e1, e2, e3, e4, e5.1, e5.2, c6, e7, e8, e9, e10, c11, e12, c13, c14, c15, c16, c17, e18f, e19f, e20f, e21f, c22, c23, e24, c25, c26, e27] <;> (repeat' apply And.intro) <;> first | rfl | exact ⟨_, rfl⟩ | simp [lst, cat2_nil]
        ·exact absurd (decide_eq_true rfl) e27
       ·rw [if_neg e24] at h
        have e24f : (sameN aN_Ends aN_Ids aN_Inputs aN_Ends aN_Ids aN_Inputs) = false := Bool.eq_false_iff.mpr e24
        obtain rfl := Option.some.inj h
        simp (maxDischargeDepth := 9) only [↓xpre, xpost, xlst, xc2, xcore, yset, rg0, ↓reduceIte, Nat.reduceEqDiff, Nat.reduceLT, Nat.reduceLeDiff, Nat.reduceAdd, Nat.reduceMul, Nat.reduceMod, Nat.reduceSub, Nat.reduceBEq, Int.reduceLE, Int.reduceLT, Int.reduceEq, Int.reduceSub, Int.reduceAdd, Int.reduceToNat, Int.reduceNeg, e1, e2, e3, e4, e5.1, e5.2, c6, e7, e8, e9, e10, c11, e12, c13, c14, c15, c16, c17, e18f, e19f, e20f, e21f, c22, c23, e24f] <;> (repeat' apply And.intro) <;> first | rfl | exact ⟨_, rfl⟩ | simp [lst, cat2_nil]


end Go.Proofs.Ytjkgcfdcfjkkbaa
