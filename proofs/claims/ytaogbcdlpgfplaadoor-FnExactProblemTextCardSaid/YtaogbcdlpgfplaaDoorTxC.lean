/- Texts of problems: the law, lifted. Conditions: none. -/
import Derived.Test.YtaogbcdlpgfplaaDoorL6
import Derived.Test.YtaogbcdlpgfplaaDoorTxA
namespace Go.Proofs.YtaogbcdlpgfplaaDoor
open Go Dv
set_option linter.unusedSimpArgs false
set_option linter.unusedVariables false
set_option maxRecDepth 100000
set_option maxHeartbeats 4000000

noncomputable def l_FnExactProblemText (aP_Labels : Int) (aP_Degree : Int) (aP_Nodes : List (List Int)) (aP_Edges : List (List Int)) : Option (Bool) :=
 ck (Wide aP_Nodes) <|
 ck (Wide aP_Edges) <|
 ck (0 ≤ (1048576 : Int) ∧ (1048576 : Int) ≤ 1048576) <|
 if (szP (1048576 : Int) aP_Nodes aP_Edges) < 0 then
  some true
 else
  ck (Short aP_Nodes) <|
  ck (Short aP_Edges) <|
  (s_ProblemText aP_Labels aP_Degree aP_Nodes aP_Edges).bind fun r17_ =>
  (i_ProblemText aP_Labels aP_Degree aP_Nodes aP_Edges).bind fun r24_ =>
  if (r24_.1.toList == r17_.1.toList) = true then
   if r24_.2 = true then
    if r17_.2 = true then
     if (sameP aP_Labels aP_Degree aP_Nodes aP_Edges aP_Labels aP_Degree aP_Nodes aP_Edges) = true then
      some true
     else
      some false
    else
     some false
   else
    if r17_.2 = true then
     some false
    else
     if (sameP aP_Labels aP_Degree aP_Nodes aP_Edges aP_Labels aP_Degree aP_Nodes aP_Edges) = true then
      some true
     else
      some false
  else
   some false
/-- laws.FnExactProblemText -/
def k5 : SC :=
 .seq
 (.ops [
 ⟨(some 1), (.box 36 (.tmp 0)), 0, none⟩,
 ⟨(some 2), (.assign (.const (.bool false))), 4, none⟩])
 (.seq
 (.ops [
 ⟨(some 3), (.assign (.const (.int .i64 1048576))), 3, none⟩])
 (.seq
 (.ops [
 ⟨(some 9), (.load 36 (.tmp 1)), 36, none⟩,
 ⟨(some 10), (.move (.tmp 3)), 3, none⟩,
 ⟨(some 11), (.call ⟨(.value (.func 16)), #[(.tmp 9), (.tmp 10)], #[36, 3]⟩), 3, none⟩,
 ⟨(some 3), (.assign (.tmp 11)), 3, none⟩])
 (.seq
 (.seq
 (.ops [
 ⟨(some 12), (.move (.tmp 3)), 3, none⟩,
 ⟨(some 13), (.binOp .lss 3 (.tmp 12) (.const (.int .i64 0)) 3), 4, none⟩])
 (.cond (.tmp 13)
 (.seq
 (.ops [
 ⟨(some 2), (.assign (.const (.bool true))), 4, none⟩])
 .ret)
 .skip))
 (.seq
 (.ops [
 ⟨(some 15), (.load 36 (.tmp 1)), 36, none⟩,
 ⟨(some 16), (.call ⟨(.value (.func 18)), #[(.tmp 15)], #[36]⟩), 39, none⟩,
 ⟨(some 17), (.call ⟨(.value (.func 17)), #[(.tmp 16)], #[39]⟩), 24, none⟩,
 ⟨(some 14), (.move (.tmp 17)), 24, none⟩,
 ⟨(some 18), (.extract (.tmp 14) 0), 9, none⟩,
 ⟨(some 19), (.extract (.tmp 14) 1), 4, none⟩,
 ⟨(some 4), (.assign (.tmp 18)), 9, none⟩,
 ⟨(some 5), (.assign (.tmp 19)), 4, none⟩])
 (.seq
 (.ops [
 ⟨(some 20), (.load 36 (.tmp 1)), 36, none⟩,
 ⟨(some 21), (.call ⟨(.value (.func 18)), #[(.tmp 20)], #[36]⟩), 39, none⟩,
 ⟨(some 6), (.alloc 39), 0, none⟩,
 ⟨none, (.store 39 (.tmp 6) (.tmp 21)), 0, none⟩])
 (.seq
 (.ops [
 ⟨(some 23), (.load 39 (.tmp 6)), 39, none⟩,
 ⟨(some 24), (.call ⟨(.value (.func 19)), #[(.tmp 23)], #[39]⟩), 24, none⟩,
 ⟨(some 22), (.move (.tmp 24)), 24, none⟩,
 ⟨(some 25), (.extract (.tmp 22) 0), 9, none⟩,
 ⟨(some 26), (.extract (.tmp 22) 1), 4, none⟩,
 ⟨(some 7), (.assign (.tmp 25)), 9, none⟩,
 ⟨(some 8), (.assign (.tmp 26)), 4, none⟩])
 (.seq
 (.seq
 (.ops [
 ⟨(some 27), (.move (.tmp 7)), 9, none⟩,
 ⟨(some 28), (.move (.tmp 4)), 9, none⟩,
 ⟨(some 29), (.binOp .neq 9 (.tmp 27) (.tmp 28) 9), 4, none⟩,
 ⟨(some 30), (.move (.tmp 29)), 4, none⟩,
 ⟨(some 31), (.move (.tmp 8)), 4, (some (some 30, false))⟩,
 ⟨(some 32), (.move (.tmp 5)), 4, (some (some 30, false))⟩,
 ⟨(some 33), (.binOp .neq 4 (.tmp 31) (.tmp 32) 4), 4, (some (some 30, false))⟩,
 ⟨(some 34), (.pick (.tmp 30) (.const (.bool true)) (.tmp 33)), 4, none⟩])
 (.cond (.tmp 34)
 (.seq
 (.ops [
 ⟨(some 2), (.assign (.const (.bool false))), 4, none⟩])
 .ret)
 .skip))
 (.seq
 (.seq
 (.draws [
 (⟨[35, 6, 6], [35, 36, 37, 38, 39], [35]⟩, ⟨(some 35), (.load 39 (.tmp 6)), 39, none⟩),
 (⟨[36, 1, 1], [35, 36, 37, 38, 39], [36]⟩, ⟨(some 36), (.load 36 (.tmp 1)), 36, none⟩),
 (⟨[37, 36, 1], [35, 36, 37, 38, 39], [37]⟩, ⟨(some 37), (.call ⟨(.value (.func 18)), #[(.tmp 36)], #[36]⟩), 39, none⟩),
 (⟨[38, 35, 37, 6, 37], [35, 36, 37, 38, 39], [38]⟩, ⟨(some 38), (.call ⟨(.value (.func 20)), #[(.tmp 35), (.tmp 37)], #[39, 39]⟩), 4, none⟩),
 (⟨[39, 38, 38], [35, 36, 37, 38, 39], [39]⟩, ⟨(some 39), (.unOp .not 4 (.tmp 38)), 4, none⟩)])
 (.cond (.tmp 39)
 (.seq
 (.ops [
 ⟨(some 2), (.assign (.const (.bool false))), 4, none⟩])
 .ret)
 .skip))
 (.seq
 (.ops [
 ⟨(some 2), (.assign (.const (.bool true))), 4, none⟩])
 .ret)))))))))
theorem slim5 : Tryd.f5.body.map (slim lends) = some k5 := by kernel_rfl
theorem ok5 : fnOk Tryd.f5 1 = true := by kernel_rfl
theorem c5 {a l : List D} {r : D × List D} (h : wpD Y.env k5 (fin tys l.length [ResultVar.tmp 2] r) (entry a l)) (ha : a.length = 1) : Y.call 5 a l = some r :=
 call_slim (Y := Y) rfl Tryd.func5 (ha ▸ ok5) slim5 h
theorem l_FnExactProblemText_call (aP_Labels : Int) (aP_Degree : Int) (aP_Nodes : List (List Int)) (aP_Edges : List (List Int)) {r : Bool} (h : l_FnExactProblemText aP_Labels aP_Degree aP_Nodes aP_Edges = some r) : Y.call 5 [D.agg [D.int .i64 aP_Labels, D.int .i64 aP_Degree, D.sl 70 (lst (fun x => D.sl 3 (lst (D.int .i64) x)) aP_Nodes), D.sl 70 (lst (fun x => D.sl 3 (lst (D.int .i64) x)) aP_Edges)]] [] = some (D.bool r, []) := by
 refine c5 ?_ rfl
 unfold k5
 unfold l_FnExactProblemText at h
 obtain ⟨e1, h⟩ := ckS h
 obtain ⟨e2, h⟩ := ckS h
 obtain ⟨e3, h⟩ := ckS h
 have c4 := l_szProblem_cl aP_Labels aP_Degree aP_Nodes aP_Edges (1048576 : Int) e1 e2 e3
 by_cases e5 : (szP (1048576 : Int) aP_Nodes aP_Edges) < 0
 ·rw [if_pos e5] at h
  obtain rfl := Option.some.inj h
  simp (maxDischargeDepth := 9) only [↓xpre, xpost, xlst, xc2, xcore, yset, rg0, ↓reduceIte, Nat.reduceEqDiff, Nat.reduceLT, Nat.reduceLeDiff, Nat.reduceAdd, Nat.reduceMul, Nat.reduceMod, Nat.reduceDiv, Nat.reducePow, Nat.reduceSub, Nat.reduceBEq, Int.reduceLE, Int.reduceLT, Int.reduceEq, Int.reduceSub, Int.reduceAdd, Int.reduceToNat, Int.reduceNeg, e1, e2, e3.1, e3.2, c4, e5] <;> (repeat' apply And.intro) <;> first | rfl | exact ⟨_, rfl⟩ | exact ⟨_, _, rfl⟩ | simp [lst, cat2_nil]
 ·rw [if_neg e5] at h
  obtain ⟨e6, h⟩ := ckS h
  obtain ⟨e7, h⟩ := ckS h
  have c8 := l_toProblem_cl aP_Labels aP_Degree aP_Nodes aP_Edges e6 e7
  obtain ⟨r17_, hl9, h⟩ := bindS h
  try dsimp only at h
  have c9 := s_ProblemText_call aP_Labels aP_Degree aP_Nodes aP_Edges hl9
  have c10 := l_toProblem_cl aP_Labels aP_Degree aP_Nodes aP_Edges e6 e7
  obtain ⟨r24_, hl11, h⟩ := bindS h
  try dsimp only at h
  have c11 := i_ProblemText_call aP_Labels aP_Degree aP_Nodes aP_Edges hl11
  by_cases e12 : (r24_.1.toList == r17_.1.toList) = true
  ·rw [if_pos e12] at h
   by_cases e13 : r24_.2 = true
   ·rw [if_pos e13] at h
    by_cases e14 : r17_.2 = true
    ·rw [if_pos e14] at h
     have c15 := l_toProblem_cl aP_Labels aP_Degree aP_Nodes aP_Edges e6 e7
     have c16 := l_eqProblem_cl aP_Labels aP_Degree aP_Nodes aP_Edges aP_Labels aP_Degree aP_Nodes aP_Edges e6 e7
     by_cases e17 : (sameP aP_Labels aP_Degree aP_Nodes aP_Edges aP_Labels aP_Degree aP_Nodes aP_Edges) = true
     ·rw [if_pos e17] at h
      obtain rfl := Option.some.inj h
      simp (maxDischargeDepth := 9) only [↓xpre, xpost, xlst, xc2, xcore, yset, rg0, ↓reduceIte, Nat.reduceEqDiff, Nat.reduceLT, Nat.reduceLeDiff, Nat.reduceAdd, Nat.reduceMul, Nat.reduceMod, Nat.reduceDiv, Nat.reducePow, Nat.reduceSub, Nat.reduceBEq, Int.reduceLE, Int.reduceLT, Int.reduceEq, Int.reduceSub, Int.reduceAdd, Int.reduceToNat, Int.reduceNeg, e1, e2, e3.1, e3.2, c4, e5, e6, e7, c8, c9, c10, c11, e12, e13, e14, c15, c16, e17] <;> (repeat' apply And.intro) <;> first | rfl | exact ⟨_, rfl⟩ | exact ⟨_, _, rfl⟩ | simp [lst, cat2_nil]
     ·rw [if_neg e17] at h
      have e17f : (sameP aP_Labels aP_Degree aP_Nodes aP_Edges aP_Labels aP_Degree aP_Nodes aP_Edges) = false := Bool.eq_false_iff.mpr e17
      obtain rfl := Option.some.inj h
      simp (maxDischargeDepth := 9) only [↓xpre, xpost, xlst, xc2, xcore, yset, rg0, ↓reduceIte, Nat.reduceEqDiff, Nat.reduceLT, Nat.reduceLeDiff, Nat.reduceAdd, Nat.reduceMul, Nat.reduceMod, Nat.reduceDiv, Nat.reducePow, Nat.reduceSub, Nat.reduceBEq, Int.reduceLE, Int.reduceLT, Int.reduceEq, Int.reduceSub, Int.reduceAdd, Int.reduceToNat, Int.reduceNeg, e1, e2, e3.1, e3.2, c4, e5, e6, e7, c8, c9, c10, c11, e12, e13, e14, c15, c16, e17f] <;> (repeat' apply And.intro) <;> first | rfl | exact ⟨_, rfl⟩ | exact ⟨_, _, rfl⟩ | simp [lst, cat2_nil]
    ·rw [if_neg e14] at h
     have e14f : r17_.2 = false := Bool.eq_false_iff.mpr e14
     obtain rfl := Option.some.inj h
     simp (maxDischargeDepth := 9) only [↓xpre, xpost, xlst, xc2, xcore, yset, rg0, ↓reduceIte, Nat.reduceEqDiff, Nat.reduceLT, Nat.reduceLeDiff, Nat.reduceAdd, Nat.reduceMul, Nat.reduceMod, Nat.reduceDiv, Nat.reducePow, Nat.reduceSub, Nat.reduceBEq, Int.reduceLE, Int.reduceLT, Int.reduceEq, Int.reduceSub, Int.reduceAdd, Int.reduceToNat, Int.reduceNeg, e1, e2, e3.1, e3.2, c4, e5, e6, e7, c8, c9, c10, c11, e12, e13, e14f] <;> (repeat' apply And.intro) <;> first | rfl | exact ⟨_, rfl⟩ | exact ⟨_, _, rfl⟩ | simp [lst, cat2_nil]
   ·rw [if_neg e13] at h
    have e13f : r24_.2 = false := Bool.eq_false_iff.mpr e13
    by_cases e14 : r17_.2 = true
    ·rw [if_pos e14] at h
     obtain rfl := Option.some.inj h
     simp (maxDischargeDepth := 9) only [↓xpre, xpost, xlst, xc2, xcore, yset, rg0, ↓reduceIte, Nat.reduceEqDiff, Nat.reduceLT, Nat.reduceLeDiff, Nat.reduceAdd, Nat.reduceMul, Nat.reduceMod, Nat.reduceDiv, Nat.reducePow, Nat.reduceSub, Nat.reduceBEq, Int.reduceLE, Int.reduceLT, Int.reduceEq, Int.reduceSub, Int.reduceAdd, Int.reduceToNat, Int.reduceNeg, e1, e2, e3.1, e3.2, c4, e5, e6, e7, c8, c9, c10, c11, e12, e13f, e14] <;> (repeat' apply And.intro) <;> first | rfl | exact ⟨_, rfl⟩ | exact ⟨_, _, rfl⟩ | simp [lst, cat2_nil]
    ·rw [if_neg e14] at h
     have e14f : r17_.2 = false := Bool.eq_false_iff.mpr e14
     have c15 := l_toProblem_cl aP_Labels aP_Degree aP_Nodes aP_Edges e6 e7
     have c16 := l_eqProblem_cl aP_Labels aP_Degree aP_Nodes aP_Edges aP_Labels aP_Degree aP_Nodes aP_Edges e6 e7
     by_cases e17 : (sameP aP_Labels aP_Degree aP_Nodes aP_Edges aP_Labels aP_Degree aP_Nodes aP_Edges) = true
     ·rw [if_pos e17] at h
      obtain rfl := Option.some.inj h
      simp (maxDischargeDepth := 9) only [↓xpre, xpost, xlst, xc2, xcore, yset, rg0, ↓reduceIte, Nat.reduceEqDiff, Nat.reduceLT, Nat.reduceLeDiff, Nat.reduceAdd, Nat.reduceMul, Nat.reduceMod, Nat.reduceDiv, Nat.reducePow, Nat.reduceSub, Nat.reduceBEq, Int.reduceLE, Int.reduceLT, Int.reduceEq, Int.reduceSub, Int.reduceAdd, Int.reduceToNat, Int.reduceNeg, e1, e2, e3.1, e3.2, c4, e5, e6, e7, c8, c9, c10, c11, e12, e13f, e14f, c15, c16, e17] <;> (repeat' apply And.intro) <;> first | rfl | exact ⟨_, rfl⟩ | exact ⟨_, _, rfl⟩ | simp [lst, cat2_nil]
     ·rw [if_neg e17] at h
      have e17f : (sameP aP_Labels aP_Degree aP_Nodes aP_Edges aP_Labels aP_Degree aP_Nodes aP_Edges) = false := Bool.eq_false_iff.mpr e17
      obtain rfl := Option.some.inj h
      simp (maxDischargeDepth := 9) only [↓xpre, xpost, xlst, xc2, xcore, yset, rg0, ↓reduceIte, Nat.reduceEqDiff, Nat.reduceLT, Nat.reduceLeDiff, Nat.reduceAdd, Nat.reduceMul, Nat.reduceMod, Nat.reduceDiv, Nat.reducePow, Nat.reduceSub, Nat.reduceBEq, Int.reduceLE, Int.reduceLT, Int.reduceEq, Int.reduceSub, Int.reduceAdd, Int.reduceToNat, Int.reduceNeg, e1, e2, e3.1, e3.2, c4, e5, e6, e7, c8, c9, c10, c11, e12, e13f, e14f, c15, c16, e17f] <;> (repeat' apply And.intro) <;> first | rfl | exact ⟨_, rfl⟩ | exact ⟨_, _, rfl⟩ | simp [lst, cat2_nil]
  ·rw [if_neg e12] at h
   have e12f : (r24_.1.toList == r17_.1.toList) = false := Bool.eq_false_iff.mpr e12
   obtain rfl := Option.some.inj h
   simp (maxDischargeDepth := 9) only [↓xpre, xpost, xlst, xc2, xcore, yset, rg0, ↓reduceIte, Nat.reduceEqDiff, Nat.reduceLT, Nat.reduceLeDiff, Nat.reduceAdd, Nat.reduceMul, Nat.reduceMod, Nat.reduceDiv, Nat.reducePow, Nat.reduceSub, Nat.reduceBEq, Int.reduceLE, Int.reduceLT, Int.reduceEq, Int.reduceSub, Int.reduceAdd, Int.reduceToNat, Int.reduceNeg, e1, e2, e3.1, e3.2, c4, e5, e6, e7, c8, c9, c10, c11, e12f] <;> (repeat' apply And.intro) <;> first | rfl | exact ⟨_, rfl⟩ | exact ⟨_, _, rfl⟩ | simp [lst, cat2_nil]


end Go.Proofs.YtaogbcdlpgfplaaDoor
