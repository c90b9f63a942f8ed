/- Whether a covering refutes a size: the law, lifted. Conditions: none. -/
import Derived.Test.YtipfckompmhljaaL6
import Derived.Test.YtipfckompmhljaaDstA
import Derived.Test.YtipfckompmhljaaNmk
namespace Go.Proofs.Ytipfckompmhljaa
open Go Dv
set_option linter.unusedSimpArgs false
set_option linter.unusedVariables false
set_option maxRecDepth 100000
set_option maxHeartbeats 4000000

noncomputable def l_FnExactRefutesSize (t0_Ends : List (List (Int × Int))) (t0_Ids t0_Inputs : List Int) (t1_Ends : List (List (Int × Int))) (t1_Ids t1_Inputs t2_ : List Int) : Option (Bool) :=
 if 1048576 < (t2_.length : Int) then
  some true
 else
  ck (WideE t0_Ends) <|
  ck (t0_Ids.length < 9223372036854775808) <|
  ck (t0_Inputs.length < 9223372036854775808) <|
  ck (0 ≤ (1048576 : Int) ∧ (1048576 : Int) ≤ 1048576) <|
  if (szW (1048576 : Int) t0_Ends t0_Ids t0_Inputs) < 0 then
   some true
  else
   ck (WideE t1_Ends) <|
   ck (t1_Ids.length < 9223372036854775808) <|
   ck (t1_Inputs.length < 9223372036854775808) <|
   ck (0 ≤ (szW (1048576 : Int) t0_Ends t0_Ids t0_Inputs) ∧ (szW (1048576 : Int) t0_Ends t0_Ids t0_Inputs) ≤ 1048576) <|
   if (szW (szW (1048576 : Int) t0_Ends t0_Ids t0_Inputs) t1_Ends t1_Ids t1_Inputs) < 0 then
    some true
   else
    ck (ShortE t0_Ends) <|
    ck (t0_Ids.length < 1099511627776) <|
    ck (t0_Inputs.length < 1099511627776) <|
    ck (ShortE t1_Ends) <|
    ck (t1_Ids.length < 1099511627776) <|
    ck (t1_Inputs.length < 1099511627776) <|
    ck (t2_.length < 1099511627776) <|
    (s_RefutesSize t0_Ends t0_Ids t0_Inputs t1_Ends t1_Ids t1_Inputs t2_).bind fun r24_ =>
    (i_RefutesSize t0_Ends t0_Ids t0_Inputs t1_Ends t1_Ids t1_Inputs t2_).bind fun r28_ =>
    if r28_.1 = true then
     if r24_.1 = true then
      if r28_.2 = true then
       if r24_.2 = true then
        if (sameN t0_Ends t0_Ids t0_Inputs t0_Ends t0_Ids t0_Inputs) = true then
         if (sameN t1_Ends t1_Ids t1_Inputs t1_Ends t1_Ids t1_Inputs) = true then
          if (decide (t2_ = t2_)) = true then
           some true
          else
           some false
         else
          some false
        else
         some false
       else
        some false
      else
       if r24_.2 = true then
        some false
       else
        if (sameN t0_Ends t0_Ids t0_Inputs t0_Ends t0_Ids t0_Inputs) = true then
         if (sameN t1_Ends t1_Ids t1_Inputs t1_Ends t1_Ids t1_Inputs) = true then
          if (decide (t2_ = t2_)) = true then
           some true
          else
           some false
         else
          some false
        else
         some false
     else
      some false
    else
     if r24_.1 = true then
      some false
     else
      if r28_.2 = true then
       if r24_.2 = true then
        if (sameN t0_Ends t0_Ids t0_Inputs t0_Ends t0_Ids t0_Inputs) = true then
         if (sameN t1_Ends t1_Ids t1_Inputs t1_Ends t1_Ids t1_Inputs) = true then
          if (decide (t2_ = t2_)) = true then
           some true
          else
           some false
         else
          some false
        else
         some false
       else
        some false
      else
       if r24_.2 = true then
        some false
       else
        if (sameN t0_Ends t0_Ids t0_Inputs t0_Ends t0_Ids t0_Inputs) = true then
         if (sameN t1_Ends t1_Ids t1_Inputs t1_Ends t1_Ids t1_Inputs) = true then
          if (decide (t2_ = t2_)) = true then
           some true
          else
           some false
         else
          some false
        else
         some false
/-- laws.FnExactRefutesSize -/
def k3 : SC :=
 .seq
 (.ops [
 ⟨some 3, .box 25 (.tmp 0), 0, none⟩,
 ⟨some 4, .box 25 (.tmp 1), 0, none⟩,
 ⟨some 6, .assign (.const (.bool false)), 4, none⟩])
 (.seq
 (.seq
 (.ops [
 ⟨some 15, .move (.tmp 2), 23, none⟩,
 ⟨some 16, .call ⟨(.builtin .len), #[(.tmp 15)], #[23]⟩, 3, none⟩,
 ⟨some 17, .binOp .gtr 3 (.tmp 16) (.const (.int .i64 1048576)) 3, 4, none⟩])
 (.cond (.tmp 17)
 (.seq
 (.ops [
 ⟨some 6, .assign (.const (.bool true)), 4, none⟩])
 .ret)
 .skip))
 (.seq
 (.ops [
 ⟨some 7, .assign (.const (.int .i64 1048576)), 3, none⟩])
 (.seq
 (.ops [
 ⟨some 18, .load 25 (.tmp 3), 25, none⟩,
 ⟨some 19, .move (.tmp 7), 3, none⟩,
 ⟨some 20, .call ⟨(.value (.func 8)), #[(.tmp 18), (.tmp 19)], #[25, 3]⟩, 3, none⟩,
 ⟨some 7, .assign (.tmp 20), 3, none⟩])
 (.seq
 (.seq
 (.ops [
 ⟨some 21, .move (.tmp 7), 3, none⟩,
 ⟨some 22, .binOp .lss 3 (.tmp 21) (.const (.int .i64 0)) 3, 4, none⟩])
 (.cond (.tmp 22)
 (.seq
 (.ops [
 ⟨some 6, .assign (.const (.bool true)), 4, none⟩])
 .ret)
 .skip))
 (.seq
 (.ops [
 ⟨some 23, .load 25 (.tmp 4), 25, none⟩,
 ⟨some 24, .move (.tmp 7), 3, none⟩,
 ⟨some 25, .call ⟨(.value (.func 8)), #[(.tmp 23), (.tmp 24)], #[25, 3]⟩, 3, none⟩,
 ⟨some 7, .assign (.tmp 25), 3, none⟩])
 (.seq
 (.seq
 (.ops [
 ⟨some 26, .move (.tmp 7), 3, none⟩,
 ⟨some 27, .binOp .lss 3 (.tmp 26) (.const (.int .i64 0)) 3, 4, none⟩])
 (.cond (.tmp 27)
 (.seq
 (.ops [
 ⟨some 6, .assign (.const (.bool true)), 4, none⟩])
 .ret)
 .skip))
 (.seq
 (.draws [
 (⟨[29, 3, 3], [29, 30, 31, 32, 33, 34, 35, 28, 35, 36, 37, 8, 36, 35, 9, 37], [29]⟩, ⟨some 29, .load 25 (.tmp 3), 25, none⟩),
 (⟨[30, 29, 3], [29, 30, 31, 32, 33, 34, 35, 28, 35, 36, 37, 8, 36, 35, 9, 37], [30]⟩, ⟨some 30, .call ⟨(.value (.func 10)), #[(.tmp 29)], #[25]⟩, 31, none⟩),
 (⟨[31, 4, 4], [29, 30, 31, 32, 33, 34, 35, 28, 35, 36, 37, 8, 36, 35, 9, 37], [31]⟩, ⟨some 31, .load 25 (.tmp 4), 25, none⟩),
 (⟨[32, 31, 4], [29, 30, 31, 32, 33, 34, 35, 28, 35, 36, 37, 8, 36, 35, 9, 37], [32]⟩, ⟨some 32, .call ⟨(.value (.func 10)), #[(.tmp 31)], #[25]⟩, 31, none⟩),
 (⟨[33, 2, 2], [29, 30, 31, 32, 33, 34, 35, 28, 35, 36, 37, 8, 36, 35, 9, 37], [33]⟩, ⟨some 33, .move (.tmp 2), 23, none⟩),
 (⟨[34, 33, 2], [29, 30, 31, 32, 33, 34, 35, 28, 35, 36, 37, 8, 36, 35, 9, 37], [34]⟩, ⟨some 34, .call ⟨(.value (.func 11)), #[(.tmp 33)], #[23]⟩, 23, none⟩),
 (⟨[35, 30, 32, 34, 30, 32, 34], [29, 30, 31, 32, 33, 34, 35, 28, 35, 36, 37, 8, 36, 35, 9, 37], [35]⟩, ⟨some 35, .call ⟨(.value (.func 9)), #[(.tmp 30), (.tmp 32), (.tmp 34)], #[31, 31, 23]⟩, 27, none⟩),
 (⟨[28, 35, 35], [29, 30, 31, 32, 33, 34, 35, 28, 35, 36, 37, 8, 36, 35, 9, 37], [28, 35]⟩, ⟨some 28, .move (.tmp 35), 27, none⟩),
 (⟨[36, 28], [29, 30, 31, 32, 33, 34, 35, 28, 35, 36, 37, 8, 36, 35, 9, 37], [36]⟩, ⟨some 36, .extract (.tmp 28) 0, 4, none⟩),
 (⟨[37, 28], [29, 30, 31, 32, 33, 34, 35, 28, 35, 36, 37, 8, 36, 35, 9, 37], [37]⟩, ⟨some 37, .extract (.tmp 28) 1, 4, none⟩),
 (⟨[8, 36, 35], [29, 30, 31, 32, 33, 34, 35, 28, 35, 36, 37, 8, 36, 35, 9, 37], [8, 36, 35]⟩, ⟨some 8, .assign (.tmp 36), 4, none⟩),
 (⟨[9, 37], [29, 30, 31, 32, 33, 34, 35, 28, 35, 36, 37, 8, 36, 35, 9, 37], [9, 37]⟩, ⟨some 9, .assign (.tmp 37), 4, none⟩)])
 (.seq
 (.ops [
 ⟨some 38, .load 25 (.tmp 3), 25, none⟩,
 ⟨some 39, .call ⟨(.value (.func 10)), #[(.tmp 38)], #[25]⟩, 31, none⟩,
 ⟨some 10, .alloc 31, 0, none⟩,
 ⟨none, .store 31 (.tmp 10) (.tmp 39), 0, none⟩])
 (.seq
 (.ops [
 ⟨some 40, .load 25 (.tmp 4), 25, none⟩,
 ⟨some 41, .call ⟨(.value (.func 10)), #[(.tmp 40)], #[25]⟩, 31, none⟩,
 ⟨some 11, .alloc 31, 0, none⟩,
 ⟨none, .store 31 (.tmp 11) (.tmp 41), 0, none⟩])
 (.seq
 (.ops [
 ⟨some 42, .move (.tmp 2), 23, none⟩,
 ⟨some 43, .call ⟨(.value (.func 11)), #[(.tmp 42)], #[23]⟩, 23, none⟩,
 ⟨some 12, .assign (.tmp 43), 23, none⟩])
 (.seq
 (.ops [
 ⟨some 45, .load 31 (.tmp 10), 31, none⟩,
 ⟨some 46, .load 31 (.tmp 11), 31, none⟩,
 ⟨some 47, .move (.tmp 12), 23, none⟩,
 ⟨some 48, .call ⟨(.value (.func 12)), #[(.tmp 45), (.tmp 46), (.tmp 47)], #[31, 31, 23]⟩, 27, none⟩,
 ⟨some 44, .move (.tmp 48), 27, none⟩,
 ⟨some 49, .extract (.tmp 44) 0, 4, none⟩,
 ⟨some 50, .extract (.tmp 44) 1, 4, none⟩,
 ⟨some 13, .assign (.tmp 49), 4, none⟩,
 ⟨some 14, .assign (.tmp 50), 4, none⟩])
 (.seq
 (.seq
 (.ops [
 ⟨some 51, .move (.tmp 13), 4, none⟩,
 ⟨some 52, .move (.tmp 8), 4, none⟩,
 ⟨some 53, .binOp .neq 4 (.tmp 51) (.tmp 52) 4, 4, none⟩,
 ⟨some 54, .move (.tmp 53), 4, none⟩,
 ⟨some 55, .move (.tmp 14), 4, (some (some 54, false))⟩,
 ⟨some 56, .move (.tmp 9), 4, (some (some 54, false))⟩,
 ⟨some 57, .binOp .neq 4 (.tmp 55) (.tmp 56) 4, 4, (some (some 54, false))⟩,
 ⟨some 58, .pick (.tmp 54) (.const (.bool true)) (.tmp 57), 4, none⟩])
 (.cond (.tmp 58)
 (.seq
 (.ops [
 ⟨some 6, .assign (.const (.bool false)), 4, none⟩])
 .ret)
 .skip))
 (.seq
 (.seq
 (.draws [
 (⟨[59, 10, 10], [59, 60, 61, 62, 63], [59]⟩, ⟨some 59, .load 31 (.tmp 10), 31, none⟩),
 (⟨[60, 3, 3], [59, 60, 61, 62, 63], [60]⟩, ⟨some 60, .load 25 (.tmp 3), 25, none⟩),
 (⟨[61, 60, 3], [59, 60, 61, 62, 63], [61]⟩, ⟨some 61, .call ⟨(.value (.func 10)), #[(.tmp 60)], #[25]⟩, 31, none⟩),
 (⟨[62, 59, 61, 10, 61], [59, 60, 61, 62, 63], [62]⟩, ⟨some 62, .call ⟨(.value (.func 13)), #[(.tmp 59), (.tmp 61)], #[31, 31]⟩, 4, none⟩),
 (⟨[63, 62, 62], [59, 60, 61, 62, 63], [63]⟩, ⟨some 63, .unOp .not 4 (.tmp 62), 4, none⟩)])
 (.cond (.tmp 63)
 (.seq
 (.ops [
 ⟨some 6, .assign (.const (.bool false)), 4, none⟩])
 .ret)
 .skip))
 (.seq
 (.seq
 (.draws [
 (⟨[64, 11, 11], [64, 65, 66, 67, 68], [64]⟩, ⟨some 64, .load 31 (.tmp 11), 31, none⟩),
 (⟨[65, 4, 4], [64, 65, 66, 67, 68], [65]⟩, ⟨some 65, .load 25 (.tmp 4), 25, none⟩),
 (⟨[66, 65, 4], [64, 65, 66, 67, 68], [66]⟩, ⟨some 66, .call ⟨(.value (.func 10)), #[(.tmp 65)], #[25]⟩, 31, none⟩),
 (⟨[67, 64, 66, 11, 66], [64, 65, 66, 67, 68], [67]⟩, ⟨some 67, .call ⟨(.value (.func 13)), #[(.tmp 64), (.tmp 66)], #[31, 31]⟩, 4, none⟩),
 (⟨[68, 67, 67], [64, 65, 66, 67, 68], [68]⟩, ⟨some 68, .unOp .not 4 (.tmp 67), 4, none⟩)])
 (.cond (.tmp 68)
 (.seq
 (.ops [
 ⟨some 6, .assign (.const (.bool false)), 4, none⟩])
 .ret)
 .skip))
 (.seq
 (.seq
 (.ops [
 ⟨some 69, .move (.tmp 12), 23, none⟩,
 ⟨some 70, .move (.tmp 2), 23, none⟩,
 ⟨some 71, .call ⟨(.value (.func 11)), #[(.tmp 70)], #[23]⟩, 23, none⟩,
 ⟨some 72, .call ⟨(.value (.func 14)), #[(.tmp 69), (.tmp 71)], #[23, 23]⟩, 4, none⟩,
 ⟨some 73, .unOp .not 4 (.tmp 72), 4, none⟩])
 (.cond (.tmp 73)
 (.seq
 (.ops [
 ⟨some 6, .assign (.const (.bool false)), 4, none⟩])
 .ret)
 .skip))
 (.seq
 (.ops [
 ⟨some 6, .assign (.const (.bool true)), 4, none⟩])
 .ret))))))))))))))))
theorem slim3 : Try.f3.body.map (slim lends) = some k3 := by kernel_rfl
theorem ok3 : fnOk Try.f3 3 = true := by kernel_rfl
theorem c3 {a l : List D} {r : D × List D} (h : wpD Y.env k3 (fin tys l.length [ResultVar.tmp 6] r) (entry a l)) (ha : a.length = 3) : Y.call 3 a l = some r :=
 call_slim (Y := Y) rfl Try.func3 (ha ▸ ok3) slim3 h
theorem l_FnExactRefutesSize_call (t0_Ends : List (List (Int × Int))) (t0_Ids t0_Inputs : List Int) (t1_Ends : List (List (Int × Int))) (t1_Ids t1_Inputs t2_ : List Int) {r : Bool} (h : l_FnExactRefutesSize t0_Ends t0_Ids t0_Inputs t1_Ends t1_Ids t1_Inputs t2_ = some r) : Y.call 3 [D.agg [D.sl 97 (lst (fun x => D.sl 141 (cat2 .i64 .i64 x)) t0_Ends), D.sl 3 (lst (D.int .i64) t0_Ids), D.sl 3 (lst (D.int .i64) t0_Inputs)], D.agg [D.sl 97 (lst (fun x => D.sl 141 (cat2 .i64 .i64 x)) t1_Ends), D.sl 3 (lst (D.int .i64) t1_Ids), D.sl 3 (lst (D.int .i64) t1_Inputs)], D.sl 3 (lst (D.int .i64) t2_)] [] = some (D.bool r, []) := by
 refine c3 ?_ rfl
 unfold k3
 unfold l_FnExactRefutesSize at h
 by_cases e1 : 1048576 < (t2_.length : Int)
 ·rw [if_pos e1] at h
  cases h
  simp (maxDischargeDepth := 9) only [↓xpre, xpost, xlst, xcore, yset, ↓reduceIte, Nat.reduceEqDiff, Nat.reduceLT, e1] <;> (repeat' apply And.intro) <;> first | rfl | exact ⟨_, rfl⟩ | exact ⟨_, _, rfl⟩ | simp [lst, cat2_nil]
 ·rw [if_neg e1] at h
  obtain ⟨e2, h⟩ := ckS h
  obtain ⟨e3, h⟩ := ckS h
  obtain ⟨e4, h⟩ := ckS h
  obtain ⟨e5, h⟩ := ckS h
  have c6 := l_szNetwork_cl t0_Ends t0_Ids t0_Inputs (1048576 : Int) e2 e3 e4 e5
  by_cases e7 : (szW (1048576 : Int) t0_Ends t0_Ids t0_Inputs) < 0
  ·rw [if_pos e7] at h
   cases h
   simp (maxDischargeDepth := 9) only [↓xpre, xpost, xlst, xcore, yset, ↓reduceIte, Nat.reduceEqDiff, Nat.reduceLT, Nat.reduceAdd, e1, c6, e7] <;> (repeat' apply And.intro) <;> first | rfl | exact ⟨_, rfl⟩ | exact ⟨_, _, rfl⟩ | simp [lst, cat2_nil]
  ·rw [if_neg e7] at h
   obtain ⟨e8, h⟩ := ckS h
   obtain ⟨e9, h⟩ := ckS h
   obtain ⟨e10, h⟩ := ckS h
   obtain ⟨e11, h⟩ := ckS h
   have c12 := l_szNetwork_cl t1_Ends t1_Ids t1_Inputs (szW (1048576 : Int) t0_Ends t0_Ids t0_Inputs) e8 e9 e10 e11
   by_cases e13 : (szW (szW (1048576 : Int) t0_Ends t0_Ids t0_Inputs) t1_Ends t1_Ids t1_Inputs) < 0
   ·rw [if_pos e13] at h
    cases h
    simp (maxDischargeDepth := 9) only [↓xpre, xpost, xlst, xcore, yset, ↓reduceIte, Nat.reduceEqDiff, Nat.reduceLT, Nat.reduceAdd, e1, c6, e7, c12, e13] <;> (repeat' apply And.intro) <;> first | rfl | exact ⟨_, rfl⟩ | exact ⟨_, _, rfl⟩ | simp [lst, cat2_nil]
   ·rw [if_neg e13] at h
    obtain ⟨e14, h⟩ := ckS h
    obtain ⟨e15, h⟩ := ckS h
    obtain ⟨e16, h⟩ := ckS h
    have c17 := l_toNetwork_cl t0_Ends t0_Ids t0_Inputs e14 e15 e16
    obtain ⟨e18, h⟩ := ckS h
    obtain ⟨e19, h⟩ := ckS h
    obtain ⟨e20, h⟩ := ckS h
    have c21 := l_toNetwork_cl t1_Ends t1_Ids t1_Inputs e18 e19 e20
    obtain ⟨e22, h⟩ := ckS h
    have c23 := l_toIntS_cl t2_ e22
    obtain ⟨r24_, hl24, h⟩ := bindS h
    try dsimp only at h
    have c24 := s_RefutesSize_call t0_Ends t0_Ids t0_Inputs t1_Ends t1_Ids t1_Inputs t2_ hl24
    have c25 := l_toNetwork_cl t0_Ends t0_Ids t0_Inputs e14 e15 e16
    have c26 := l_toNetwork_cl t1_Ends t1_Ids t1_Inputs e18 e19 e20
    have c27 := l_toIntS_cl t2_ e22
    obtain ⟨r28_, hl28, h⟩ := bindS h
    try dsimp only at h
    have c28 := i_RefutesSize_call t0_Ends t0_Ids t0_Inputs t1_Ends t1_Ids t1_Inputs t2_ hl28
    by_cases e29 : r28_.1 = true
    ·rw [if_pos e29] at h
     by_cases e30 : r24_.1 = true
     ·rw [if_pos e30] at h
      by_cases e31 : r28_.2 = true
      ·rw [if_pos e31] at h
       by_cases e32 : r24_.2 = true
       ·rw [if_pos e32] at h
        have c33 := l_toNetwork_cl t0_Ends t0_Ids t0_Inputs e14 e15 e16
        have c34 := l_eqNetwork_cl t0_Ends t0_Ids t0_Inputs t0_Ends t0_Ids t0_Inputs e14 e15 e16
        by_cases e35 : (sameN t0_Ends t0_Ids t0_Inputs t0_Ends t0_Ids t0_Inputs) = true
        ·rw [if_pos e35] at h
         have c36 := l_toNetwork_cl t1_Ends t1_Ids t1_Inputs e18 e19 e20
         have c37 := l_eqNetwork_cl t1_Ends t1_Ids t1_Inputs t1_Ends t1_Ids t1_Inputs e18 e19 e20
         by_cases e38 : (sameN t1_Ends t1_Ids t1_Inputs t1_Ends t1_Ids t1_Inputs) = true
         ·rw [if_pos e38] at h
          have c39 := l_toIntS_cl t2_ e22
          have c40 := l_eqIntS_cl t2_ t2_ e22
          by_cases e41 : (decide (t2_ = t2_)) = true
          ·rw [if_pos e41] at h
           cases h
           simp (maxDischargeDepth := 9) only [↓xpre, xpost, xlst, xc2, xcore, yset, ↓reduceIte, Nat.reduceEqDiff, Nat.reduceLT, Nat.reduceAdd, Nat.reduceBEq, e1, c6, e7, c12, e13, c17, c21, c23, c24, c28, e29, e30, e31, e32, c34, e35, c37, e38, c40] <;> (repeat' apply And.intro) <;> first | rfl | exact ⟨_, rfl⟩ | exact ⟨_, _, rfl⟩ | simp [lst, cat2_nil]
          ·exact absurd (decide_eq_true rfl) e41
         ·rw [if_neg e38] at h
          have e38f : (sameN t1_Ends t1_Ids t1_Inputs t1_Ends t1_Ids t1_Inputs) = false := Bool.eq_false_iff.mpr e38
          cases h
          simp (maxDischargeDepth := 9) only [↓xpre, xpost, xlst, xc2, xcore, yset, ↓reduceIte, Nat.reduceEqDiff, Nat.reduceLT, Nat.reduceAdd, Nat.reduceBEq, e1, c6, e7, c12, e13, c17, c21, c23, c24, c28, e29, e30, e31, e32, c34, e35, c37, e38f] <;> (repeat' apply And.intro) <;> first | rfl | exact ⟨_, rfl⟩ | exact ⟨_, _, rfl⟩ | simp [lst, cat2_nil]
        ·rw [if_neg e35] at h
         have e35f : (sameN t0_Ends t0_Ids t0_Inputs t0_Ends t0_Ids t0_Inputs) = false := Bool.eq_false_iff.mpr e35
         cases h
         simp (maxDischargeDepth := 9) only [↓xpre, xpost, xlst, xc2, xcore, yset, ↓reduceIte, Nat.reduceEqDiff, Nat.reduceLT, Nat.reduceAdd, Nat.reduceBEq, e1, c6, e7, c12, e13, c17, c21, c23, c24, c28, e29, e30, e31, e32, c34, e35f] <;> (repeat' apply And.intro) <;> first | rfl | exact ⟨_, rfl⟩ | exact ⟨_, _, rfl⟩ | simp [lst, cat2_nil]
       ·rw [if_neg e32] at h
        have e32f : r24_.2 = false := Bool.eq_false_iff.mpr e32
        cases h
        simp (maxDischargeDepth := 9) only [↓xpre, xpost, xlst, xc2, xcore, yset, ↓reduceIte, Nat.reduceEqDiff, Nat.reduceLT, Nat.reduceAdd, Nat.reduceBEq, e1, c6, e7, c12, e13, c17, c21, c23, c24, c28, e29, e30, e31, e32f] <;> (repeat' apply And.intro) <;> first | rfl | exact ⟨_, rfl⟩ | exact ⟨_, _, rfl⟩ | simp [lst, cat2_nil]
      ·rw [if_neg e31] at h
       have e31f : r28_.2 = false := Bool.eq_false_iff.mpr e31
       by_cases e32 : r24_.2 = true
       ·rw [if_pos e32] at h
        cases h
        simp (maxDischargeDepth := 9) only [↓xpre, xpost, xlst, xc2, xcore, yset, ↓reduceIte, Nat.reduceEqDiff, Nat.reduceLT, Nat.reduceAdd, Nat.reduceBEq, e1, c6, e7, c12, e13, c17, c21, c23, c24, c28, e29, e30, e31f, e32] <;> (repeat' apply And.intro) <;> first | rfl | exact ⟨_, rfl⟩ | exact ⟨_, _, rfl⟩ | simp [lst, cat2_nil]
       ·rw [if_neg e32] at h
        have e32f : r24_.2 = false := Bool.eq_false_iff.mpr e32
        have c33 := l_toNetwork_cl t0_Ends t0_Ids t0_Inputs e14 e15 e16
        have c34 := l_eqNetwork_cl t0_Ends t0_Ids t0_Inputs t0_Ends t0_Ids t0_Inputs e14 e15 e16
        by_cases e35 : (sameN t0_Ends t0_Ids t0_Inputs t0_Ends t0_Ids t0_Inputs) = true
        ·rw [if_pos e35] at h
         have c36 := l_toNetwork_cl t1_Ends t1_Ids t1_Inputs e18 e19 e20
         have c37 := l_eqNetwork_cl t1_Ends t1_Ids t1_Inputs t1_Ends t1_Ids t1_Inputs e18 e19 e20
         by_cases e38 : (sameN t1_Ends t1_Ids t1_Inputs t1_Ends t1_Ids t1_Inputs) = true
         ·rw [if_pos e38] at h
          have c39 := l_toIntS_cl t2_ e22
          have c40 := l_eqIntS_cl t2_ t2_ e22
          by_cases e41 : (decide (t2_ = t2_)) = true
          ·rw [if_pos e41] at h
           cases h
           simp (maxDischargeDepth := 9) only [↓xpre, xpost, xlst, xc2, xcore, yset, ↓reduceIte, Nat.reduceEqDiff, Nat.reduceLT, Nat.reduceAdd, Nat.reduceBEq, e1, c6, e7, c12, e13, c17, c21, c23, c24, c28, e29, e30, e31f, e32f, c34, e35, c37, e38, c40] <;> (repeat' apply And.intro) <;> first | rfl | exact ⟨_, rfl⟩ | exact ⟨_, _, rfl⟩ | simp [lst, cat2_nil]
          ·exact absurd (decide_eq_true rfl) e41
         ·rw [if_neg e38] at h
          have e38f : (sameN t1_Ends t1_Ids t1_Inputs t1_Ends t1_Ids t1_Inputs) = false := Bool.eq_false_iff.mpr e38
          cases h
          simp (maxDischargeDepth := 9) only [↓xpre, xpost, xlst, xc2, xcore, yset, ↓reduceIte, Nat.reduceEqDiff, Nat.reduceLT, Nat.reduceAdd, Nat.reduceBEq, e1, c6, e7, c12, e13, c17, c21, c23, c24, c28, e29, e30, e31f, e32f, c34, e35, c37, e38f] <;> (repeat' apply And.intro) <;> first | rfl | exact ⟨_, rfl⟩ | exact ⟨_, _, rfl⟩ | simp [lst, cat2_nil]
        ·rw [if_neg e35] at h
         have e35f : (sameN t0_Ends t0_Ids t0_Inputs t0_Ends t0_Ids t0_Inputs) = false := Bool.eq_false_iff.mpr e35
         cases h
         simp (maxDischargeDepth := 9) only [↓xpre, xpost, xlst, xc2, xcore, yset, ↓reduceIte, Nat.reduceEqDiff, Nat.reduceLT, Nat.reduceAdd, Nat.reduceBEq, e1, c6, e7, c12, e13, c17, c21, c23, c24, c28, e29, e30, e31f, e32f, c34, e35f] <;> (repeat' apply And.intro) <;> first | rfl | exact ⟨_, rfl⟩ | exact ⟨_, _, rfl⟩ | simp [lst, cat2_nil]
     ·rw [if_neg e30] at h
      have e30f : r24_.1 = false := Bool.eq_false_iff.mpr e30
      cases h
      simp (maxDischargeDepth := 9) only [↓xpre, xpost, xlst, xc2, xcore, yset, ↓reduceIte, Nat.reduceEqDiff, Nat.reduceLT, Nat.reduceAdd, Nat.reduceBEq, e1, c6, e7, c12, e13, c17, c21, c23, c24, c28, e29, e30f] <;> (repeat' apply And.intro) <;> first | rfl | exact ⟨_, rfl⟩ | exact ⟨_, _, rfl⟩ | simp [lst, cat2_nil]
    ·rw [if_neg e29] at h
     have e29f : r28_.1 = false := Bool.eq_false_iff.mpr e29
     by_cases e30 : r24_.1 = true
     ·rw [if_pos e30] at h
      cases h
      simp (maxDischargeDepth := 9) only [↓xpre, xpost, xlst, xc2, xcore, yset, ↓reduceIte, Nat.reduceEqDiff, Nat.reduceLT, Nat.reduceAdd, Nat.reduceBEq, e1, c6, e7, c12, e13, c17, c21, c23, c24, c28, e29f, e30] <;> (repeat' apply And.intro) <;> first | rfl | exact ⟨_, rfl⟩ | exact ⟨_, _, rfl⟩ | simp [lst, cat2_nil]
     ·rw [if_neg e30] at h
      have e30f : r24_.1 = false := Bool.eq_false_iff.mpr e30
      by_cases e31 : r28_.2 = true
      ·rw [if_pos e31] at h
       by_cases e32 : r24_.2 = true
       ·rw [if_pos e32] at h
        have c33 := l_toNetwork_cl t0_Ends t0_Ids t0_Inputs e14 e15 e16
        have c34 := l_eqNetwork_cl t0_Ends t0_Ids t0_Inputs t0_Ends t0_Ids t0_Inputs e14 e15 e16
        by_cases e35 : (sameN t0_Ends t0_Ids t0_Inputs t0_Ends t0_Ids t0_Inputs) = true
        ·rw [if_pos e35] at h
         have c36 := l_toNetwork_cl t1_Ends t1_Ids t1_Inputs e18 e19 e20
         have c37 := l_eqNetwork_cl t1_Ends t1_Ids t1_Inputs t1_Ends t1_Ids t1_Inputs e18 e19 e20
         by_cases e38 : (sameN t1_Ends t1_Ids t1_Inputs t1_Ends t1_Ids t1_Inputs) = true
         ·rw [if_pos e38] at h
          have c39 := l_toIntS_cl t2_ e22
          have c40 := l_eqIntS_cl t2_ t2_ e22
          by_cases e41 : (decide (t2_ = t2_)) = true
          ·rw [if_pos e41] at h
           cases h
           simp (maxDischargeDepth := 9) only [↓xpre, xpost, xlst, xc2, xcore, yset, ↓reduceIte, Nat.reduceEqDiff, Nat.reduceLT, Nat.reduceAdd, Nat.reduceBEq, e1, c6, e7, c12, e13, c17, c21, c23, c24, c28, e29f, e30f, e31, e32, c34, e35, c37, e38, c40] <;> (repeat' apply And.intro) <;> first | rfl | exact ⟨_, rfl⟩ | exact ⟨_, _, rfl⟩ | simp [lst, cat2_nil]
          ·exact absurd (decide_eq_true rfl) e41
         ·rw [if_neg e38] at h
          have e38f : (sameN t1_Ends t1_Ids t1_Inputs t1_Ends t1_Ids t1_Inputs) = false := Bool.eq_false_iff.mpr e38
          cases h
          simp (maxDischargeDepth := 9) only [↓xpre, xpost, xlst, xc2, xcore, yset, ↓reduceIte, Nat.reduceEqDiff, Nat.reduceLT, Nat.reduceAdd, Nat.reduceBEq, e1, c6, e7, c12, e13, c17, c21, c23, c24, c28, e29f, e30f, e31, e32, c34, e35, c37, e38f] <;> (repeat' apply And.intro) <;> first | rfl | exact ⟨_, rfl⟩ | exact ⟨_, _, rfl⟩ | simp [lst, cat2_nil]
        ·rw [if_neg e35] at h
         have e35f : (sameN t0_Ends t0_Ids t0_Inputs t0_Ends t0_Ids t0_Inputs) = false := Bool.eq_false_iff.mpr e35
         cases h
         simp (maxDischargeDepth := 9) only [↓xpre, xpost, xlst, xc2, xcore, yset, ↓reduceIte, Nat.reduceEqDiff, Nat.reduceLT, Nat.reduceAdd, Nat.reduceBEq, e1, c6, e7, c12, e13, c17, c21, c23, c24, c28, e29f, e30f, e31, e32, c34, e35f] <;> (repeat' apply And.intro) <;> first | rfl | exact ⟨_, rfl⟩ | exact ⟨_, _, rfl⟩ | simp [lst, cat2_nil]
       ·rw [if_neg e32] at h
        have e32f : r24_.2 = false := Bool.eq_false_iff.mpr e32
        cases h
        simp (maxDischargeDepth := 9) only [↓xpre, xpost, xlst, xc2, xcore, yset, ↓reduceIte, Nat.reduceEqDiff, Nat.reduceLT, Nat.reduceAdd, Nat.reduceBEq, e1, c6, e7, c12, e13, c17, c21, c23, c24, c28, e29f, e30f, e31, e32f] <;> (repeat' apply And.intro) <;> first | rfl | exact ⟨_, rfl⟩ | exact ⟨_, _, rfl⟩ | simp [lst, cat2_nil]
      ·rw [if_neg e31] at h
       have e31f : r28_.2 = false := Bool.eq_false_iff.mpr e31
       by_cases e32 : r24_.2 = true
       ·rw [if_pos e32] at h
        cases h
        simp (maxDischargeDepth := 9) only [↓xpre, xpost, xlst, xc2, xcore, yset, ↓reduceIte, Nat.reduceEqDiff, Nat.reduceLT, Nat.reduceAdd, Nat.reduceBEq, e1, c6, e7, c12, e13, c17, c21, c23, c24, c28, e29f, e30f, e31f, e32] <;> (repeat' apply And.intro) <;> first | rfl | exact ⟨_, rfl⟩ | exact ⟨_, _, rfl⟩ | simp [lst, cat2_nil]
       ·rw [if_neg e32] at h
        have e32f : r24_.2 = false := Bool.eq_false_iff.mpr e32
        have c33 := l_toNetwork_cl t0_Ends t0_Ids t0_Inputs e14 e15 e16
        have c34 := l_eqNetwork_cl t0_Ends t0_Ids t0_Inputs t0_Ends t0_Ids t0_Inputs e14 e15 e16
        by_cases e35 : (sameN t0_Ends t0_Ids t0_Inputs t0_Ends t0_Ids t0_Inputs) = true
        ·rw [if_pos e35] at h
         have c36 := l_toNetwork_cl t1_Ends t1_Ids t1_Inputs e18 e19 e20
         have c37 := l_eqNetwork_cl t1_Ends t1_Ids t1_Inputs t1_Ends t1_Ids t1_Inputs e18 e19 e20
         by_cases e38 : (sameN t1_Ends t1_Ids t1_Inputs t1_Ends t1_Ids t1_Inputs) = true
         ·rw [if_pos e38] at h
          have c39 := l_toIntS_cl t2_ e22
          have c40 := l_eqIntS_cl t2_ t2_ e22
          by_cases e41 : (decide (t2_ = t2_)) = true
          ·rw [if_pos e41] at h
           cases h
           simp (maxDischargeDepth := 9) only [↓xpre, xpost, xlst, xc2, xcore, yset, ↓reduceIte, Nat.reduceEqDiff, Nat.reduceLT, Nat.reduceAdd, Nat.reduceBEq, e1, c6, e7, c12, e13, c17, c21, c23, c24, c28, e29f, e30f, e31f, e32f, c34, e35, c37, e38, c40] <;> (repeat' apply And.intro) <;> first | rfl | exact ⟨_, rfl⟩ | exact ⟨_, _, rfl⟩ | simp [lst, cat2_nil]
          ·exact absurd (decide_eq_true rfl) e41
         ·rw [if_neg e38] at h
          have e38f : (sameN t1_Ends t1_Ids t1_Inputs t1_Ends t1_Ids t1_Inputs) = false := Bool.eq_false_iff.mpr e38
          cases h
          simp (maxDischargeDepth := 9) only [↓xpre, xpost, xlst, xc2, xcore, yset, ↓reduceIte, Nat.reduceEqDiff, Nat.reduceLT, Nat.reduceAdd, Nat.reduceBEq, e1, c6, e7, c12, e13, c17, c21, c23, c24, c28, e29f, e30f, e31f, e32f, c34, e35, c37, e38f] <;> (repeat' apply And.intro) <;> first | rfl | exact ⟨_, rfl⟩ | exact ⟨_, _, rfl⟩ | simp [lst, cat2_nil]
        ·rw [if_neg e35] at h
         have e35f : (sameN t0_Ends t0_Ids t0_Inputs t0_Ends t0_Ids t0_Inputs) = false := Bool.eq_false_iff.mpr e35
         cases h
         simp (maxDischargeDepth := 9) only [↓xpre, xpost, xlst, xc2, xcore, yset, ↓reduceIte, Nat.reduceEqDiff, Nat.reduceLT, Nat.reduceAdd, Nat.reduceBEq, e1, c6, e7, c12, e13, c17, c21, c23, c24, c28, e29f, e30f, e31f, e32f, c34, e35f] <;> (repeat' apply And.intro) <;> first | rfl | exact ⟨_, rfl⟩ | exact ⟨_, _, rfl⟩ | simp [lst, cat2_nil]


end Go.Proofs.Ytipfckompmhljaa
