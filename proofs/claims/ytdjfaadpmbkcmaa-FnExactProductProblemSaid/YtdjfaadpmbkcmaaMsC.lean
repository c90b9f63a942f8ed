/- The product of two problems: the law, lifted. Conditions: none. -/
import Derived.Test.YtdjfaadpmbkcmaaL6
import Derived.Test.YtdjfaadpmbkcmaaMsA
import Derived.Test.YtdjfaadpmbkcmaaPB
namespace Go.Proofs.Ytdjfaadpmbkcmaa
open Go Dv
set_option linter.unusedSimpArgs false
set_option linter.unusedVariables false
set_option maxRecDepth 100000
set_option maxHeartbeats 4000000

noncomputable def l_FnExactProductProblem (t0_Labels : Int) (t0_Degree : Int) (t0_Nodes : List (List Int)) (t0_Edges : List (List Int)) (t1_Labels : Int) (t1_Degree : Int) (t1_Nodes : List (List Int)) (t1_Edges : List (List Int)) : Option (Bool) :=
 ck (Wide t0_Nodes) <|
 ck (Wide t0_Edges) <|
 ck (0 ≤ (1048576 : Int) ∧ (1048576 : Int) ≤ 1048576) <|
 if (szP (1048576 : Int) t0_Nodes t0_Edges) < 0 then
  some true
 else
  ck (Wide t1_Nodes) <|
  ck (Wide t1_Edges) <|
  ck (0 ≤ (szP (1048576 : Int) t0_Nodes t0_Edges) ∧ (szP (1048576 : Int) t0_Nodes t0_Edges) ≤ 1048576) <|
  if (szP (szP (1048576 : Int) t0_Nodes t0_Edges) t1_Nodes t1_Edges) < 0 then
   some true
  else
   ck (Short t0_Nodes) <|
   ck (Short t0_Edges) <|
   ck (Short t1_Nodes) <|
   ck (Short t1_Edges) <|
   (s_ProductProblem t0_Labels t0_Degree t0_Nodes t0_Edges t1_Labels t1_Degree t1_Nodes t1_Edges).bind fun r17_ =>
   if (r17_.2.2.1.any fun x => (!x.isEmpty)) = true then
    (i_ProductProblem t0_Labels t0_Degree t0_Nodes t0_Edges t1_Labels t1_Degree t1_Nodes t1_Edges).bind fun r21_ =>
    ck (Short r21_.2.2.1) <|
    ck (Short r21_.2.2.2.1) <|
    if (sameP r21_.1 r21_.2.1 r21_.2.2.1 r21_.2.2.2.1 r17_.1 r17_.2.1 r17_.2.2.1 r17_.2.2.2.1) = true then
     if r21_.2.2.2.2 = true then
      if r17_.2.2.2.2 = true then
       if (sameP t0_Labels t0_Degree t0_Nodes t0_Edges t0_Labels t0_Degree t0_Nodes t0_Edges) = true then
        if (sameP t1_Labels t1_Degree t1_Nodes t1_Edges t1_Labels t1_Degree t1_Nodes t1_Edges) = true then
         ck (0 ≤ (1 : Int) ∧ (1 : Int) + tot t0_Nodes + tot t0_Edges < 1099511627776) <|
         ck (0 ≤ ((1 : Int) + tot t0_Nodes + tot t0_Edges) ∧ ((1 : Int) + tot t0_Nodes + tot t0_Edges) + tot t1_Nodes + tot t1_Edges < 1099511627776) <|
         if (((1 : Int) + tot t0_Nodes + tot t0_Edges) + tot t1_Nodes + tot t1_Edges) < 0 then
          some false
         else
          ck (0 ≤ (1 : Int) ∧ (1 : Int) + tot r21_.2.2.1 + tot r21_.2.2.2.1 < 1099511627776) <|
          (l_heldProblem r21_.1 r21_.2.1 (marks (1 : Int) r21_.2.2.1) (marks ((1 : Int) + tot r21_.2.2.1) r21_.2.2.2.1) (1 : Int)).bind fun r42_ =>
          if r42_ < 0 then
           some false
          else
           if r42_ = ((1 : Int) + tot r21_.2.2.1 + tot r21_.2.2.2.1) then
            some true
           else
            some false
        else
         some false
       else
        some false
      else
       some false
     else
      if r17_.2.2.2.2 = true then
       some false
      else
       if (sameP t0_Labels t0_Degree t0_Nodes t0_Edges t0_Labels t0_Degree t0_Nodes t0_Edges) = true then
        if (sameP t1_Labels t1_Degree t1_Nodes t1_Edges t1_Labels t1_Degree t1_Nodes t1_Edges) = true then
         ck (0 ≤ (1 : Int) ∧ (1 : Int) + tot t0_Nodes + tot t0_Edges < 1099511627776) <|
         ck (0 ≤ ((1 : Int) + tot t0_Nodes + tot t0_Edges) ∧ ((1 : Int) + tot t0_Nodes + tot t0_Edges) + tot t1_Nodes + tot t1_Edges < 1099511627776) <|
         if (((1 : Int) + tot t0_Nodes + tot t0_Edges) + tot t1_Nodes + tot t1_Edges) < 0 then
          some false
         else
          ck (0 ≤ (1 : Int) ∧ (1 : Int) + tot r21_.2.2.1 + tot r21_.2.2.2.1 < 1099511627776) <|
          (l_heldProblem r21_.1 r21_.2.1 (marks (1 : Int) r21_.2.2.1) (marks ((1 : Int) + tot r21_.2.2.1) r21_.2.2.2.1) (1 : Int)).bind fun r42_ =>
          if r42_ < 0 then
           some false
          else
           if r42_ = ((1 : Int) + tot r21_.2.2.1 + tot r21_.2.2.2.1) then
            some true
           else
            some false
        else
         some false
       else
        some false
    else
     some false
   else
    (i_ProductProblem t0_Labels t0_Degree t0_Nodes t0_Edges t1_Labels t1_Degree t1_Nodes t1_Edges).bind fun r22_ =>
    ck (Short r22_.2.2.1) <|
    ck (Short r22_.2.2.2.1) <|
    if (sameP r22_.1 r22_.2.1 r22_.2.2.1 r22_.2.2.2.1 r17_.1 r17_.2.1 r17_.2.2.1 r17_.2.2.2.1) = true then
     if r22_.2.2.2.2 = true then
      if r17_.2.2.2.2 = true then
       if (sameP t0_Labels t0_Degree t0_Nodes t0_Edges t0_Labels t0_Degree t0_Nodes t0_Edges) = true then
        if (sameP t1_Labels t1_Degree t1_Nodes t1_Edges t1_Labels t1_Degree t1_Nodes t1_Edges) = true then
         ck (0 ≤ (1 : Int) ∧ (1 : Int) + tot t0_Nodes + tot t0_Edges < 1099511627776) <|
         ck (0 ≤ ((1 : Int) + tot t0_Nodes + tot t0_Edges) ∧ ((1 : Int) + tot t0_Nodes + tot t0_Edges) + tot t1_Nodes + tot t1_Edges < 1099511627776) <|
         if (((1 : Int) + tot t0_Nodes + tot t0_Edges) + tot t1_Nodes + tot t1_Edges) < 0 then
          some false
         else
          ck (0 ≤ (1 : Int) ∧ (1 : Int) + tot r22_.2.2.1 + tot r22_.2.2.2.1 < 1099511627776) <|
          (l_heldProblem r22_.1 r22_.2.1 (marks (1 : Int) r22_.2.2.1) (marks ((1 : Int) + tot r22_.2.2.1) r22_.2.2.2.1) (1 : Int)).bind fun r43_ =>
          if r43_ < 0 then
           some false
          else
           if r43_ = ((1 : Int) + tot r22_.2.2.1 + tot r22_.2.2.2.1) then
            some true
           else
            some false
        else
         some false
       else
        some false
      else
       some false
     else
      if r17_.2.2.2.2 = true then
       some false
      else
       if (sameP t0_Labels t0_Degree t0_Nodes t0_Edges t0_Labels t0_Degree t0_Nodes t0_Edges) = true then
        if (sameP t1_Labels t1_Degree t1_Nodes t1_Edges t1_Labels t1_Degree t1_Nodes t1_Edges) = true then
         ck (0 ≤ (1 : Int) ∧ (1 : Int) + tot t0_Nodes + tot t0_Edges < 1099511627776) <|
         ck (0 ≤ ((1 : Int) + tot t0_Nodes + tot t0_Edges) ∧ ((1 : Int) + tot t0_Nodes + tot t0_Edges) + tot t1_Nodes + tot t1_Edges < 1099511627776) <|
         if (((1 : Int) + tot t0_Nodes + tot t0_Edges) + tot t1_Nodes + tot t1_Edges) < 0 then
          some false
         else
          ck (0 ≤ (1 : Int) ∧ (1 : Int) + tot r22_.2.2.1 + tot r22_.2.2.2.1 < 1099511627776) <|
          (l_heldProblem r22_.1 r22_.2.1 (marks (1 : Int) r22_.2.2.1) (marks ((1 : Int) + tot r22_.2.2.1) r22_.2.2.2.1) (1 : Int)).bind fun r43_ =>
          if r43_ < 0 then
           some false
          else
           if r43_ = ((1 : Int) + tot r22_.2.2.1 + tot r22_.2.2.2.1) then
            some true
           else
            some false
        else
         some false
       else
        some false
    else
     some false
/-- laws.FnExactProductProblem -/
def k3 : SC :=
 .seq
 (.ops [
 ⟨(some 2), (.box 24 (.tmp 0)), 0, none⟩,
 ⟨(some 3), (.box 24 (.tmp 1)), 0, none⟩,
 ⟨(some 4), (.assign (.const (.bool false))), 4, none⟩])
 (.seq
 (.ops [
 ⟨(some 5), (.assign (.const (.int .i64 1048576))), 3, none⟩])
 (.seq
 (.ops [
 ⟨(some 17), (.load 24 (.tmp 2)), 24, none⟩,
 ⟨(some 18), (.move (.tmp 5)), 3, none⟩,
 ⟨(some 19), (.call ⟨(.value (.func 8)), #[(.tmp 17), (.tmp 18)], #[24, 3]⟩), 3, none⟩,
 ⟨(some 5), (.assign (.tmp 19)), 3, none⟩])
 (.seq
 (.seq
 (.ops [
 ⟨(some 20), (.move (.tmp 5)), 3, none⟩,
 ⟨(some 21), (.binOp .lss 3 (.tmp 20) (.const (.int .i64 0)) 3), 4, none⟩])
 (.cond (.tmp 21)
 (.seq
 (.ops [
 ⟨(some 4), (.assign (.const (.bool true))), 4, none⟩])
 .ret)
 .skip))
 (.seq
 (.ops [
 ⟨(some 22), (.load 24 (.tmp 3)), 24, none⟩,
 ⟨(some 23), (.move (.tmp 5)), 3, none⟩,
 ⟨(some 24), (.call ⟨(.value (.func 8)), #[(.tmp 22), (.tmp 23)], #[24, 3]⟩), 3, none⟩,
 ⟨(some 5), (.assign (.tmp 24)), 3, none⟩])
 (.seq
 (.seq
 (.ops [
 ⟨(some 25), (.move (.tmp 5)), 3, none⟩,
 ⟨(some 26), (.binOp .lss 3 (.tmp 25) (.const (.int .i64 0)) 3), 4, none⟩])
 (.cond (.tmp 26)
 (.seq
 (.ops [
 ⟨(some 4), (.assign (.const (.bool true))), 4, none⟩])
 .ret)
 .skip))
 (.seq
 (.draws [
 (⟨[28, 2, 2], [28, 29, 30, 31, 32, 29, 31, 27, 32, 33, 34, 6, 6, 33, 6, 32, 7, 34], [28]⟩, ⟨(some 28), (.load 24 (.tmp 2)), 24, none⟩),
 (⟨[29, 28, 2], [28, 29, 30, 31, 32, 29, 31, 27, 32, 33, 34, 6, 6, 33, 6, 32, 7, 34], [29]⟩, ⟨(some 29), (.call ⟨(.value (.func 10)), #[(.tmp 28)], #[24]⟩), 26, none⟩),
 (⟨[30, 3, 3], [28, 29, 30, 31, 32, 29, 31, 27, 32, 33, 34, 6, 6, 33, 6, 32, 7, 34], [30]⟩, ⟨(some 30), (.load 24 (.tmp 3)), 24, none⟩),
 (⟨[31, 30, 3], [28, 29, 30, 31, 32, 29, 31, 27, 32, 33, 34, 6, 6, 33, 6, 32, 7, 34], [31]⟩, ⟨(some 31), (.call ⟨(.value (.func 10)), #[(.tmp 30)], #[24]⟩), 26, none⟩),
 (⟨[32, 29, 31, 29, 31], [28, 29, 30, 31, 32, 29, 31, 27, 32, 33, 34, 6, 6, 33, 6, 32, 7, 34], [32, 29, 31]⟩, ⟨(some 32), (.call ⟨(.value (.func 9)), #[(.tmp 29), (.tmp 31)], #[26, 26]⟩), 27, none⟩),
 (⟨[27, 32, 32], [28, 29, 30, 31, 32, 29, 31, 27, 32, 33, 34, 6, 6, 33, 6, 32, 7, 34], [27, 32]⟩, ⟨(some 27), (.move (.tmp 32)), 27, none⟩),
 (⟨[33, 27], [28, 29, 30, 31, 32, 29, 31, 27, 32, 33, 34, 6, 6, 33, 6, 32, 7, 34], [33]⟩, ⟨(some 33), (.extract (.tmp 27) 0), 26, none⟩),
 (⟨[34, 27], [28, 29, 30, 31, 32, 29, 31, 27, 32, 33, 34, 6, 6, 33, 6, 32, 7, 34], [34]⟩, ⟨(some 34), (.extract (.tmp 27) 1), 4, none⟩),
 (⟨[6], [28, 29, 30, 31, 32, 29, 31, 27, 32, 33, 34, 6, 6, 33, 6, 32, 7, 34], [6]⟩, ⟨(some 6), (.alloc 26), 0, none⟩),
 (⟨[6, 33, 6, 32], [28, 29, 30, 31, 32, 29, 31, 27, 32, 33, 34, 6, 6, 33, 6, 32, 7, 34], [6, 33, 6, 32]⟩, ⟨none, (.store 26 (.tmp 6) (.tmp 33)), 0, none⟩),
 (⟨[7, 34], [28, 29, 30, 31, 32, 29, 31, 27, 32, 33, 34, 6, 6, 33, 6, 32, 7, 34], [7, 34]⟩, ⟨(some 7), (.assign (.tmp 34)), 4, none⟩)])
 (.seq
 (.ops [
 ⟨(some 35), (.load 24 (.tmp 2)), 24, none⟩,
 ⟨(some 36), (.call ⟨(.value (.func 10)), #[(.tmp 35)], #[24]⟩), 26, none⟩,
 ⟨(some 8), (.alloc 26), 0, none⟩,
 ⟨none, (.store 26 (.tmp 8) (.tmp 36)), 0, none⟩])
 (.seq
 (.ops [
 ⟨(some 37), (.load 24 (.tmp 3)), 24, none⟩,
 ⟨(some 38), (.call ⟨(.value (.func 10)), #[(.tmp 37)], #[24]⟩), 26, none⟩,
 ⟨(some 9), (.alloc 26), 0, none⟩,
 ⟨none, (.store 26 (.tmp 9) (.tmp 38)), 0, none⟩])
 (.seq
 (.ops [
 ⟨(some 40), (.load 26 (.tmp 8)), 26, none⟩,
 ⟨(some 41), (.load 26 (.tmp 9)), 26, none⟩,
 ⟨(some 42), (.call ⟨(.value (.func 11)), #[(.tmp 40), (.tmp 41)], #[26, 26]⟩), 27, none⟩,
 ⟨(some 39), (.move (.tmp 42)), 27, none⟩,
 ⟨(some 43), (.extract (.tmp 39) 0), 26, none⟩,
 ⟨(some 44), (.extract (.tmp 39) 1), 4, none⟩,
 ⟨(some 10), (.alloc 26), 0, none⟩,
 ⟨none, (.store 26 (.tmp 10) (.tmp 43)), 0, none⟩,
 ⟨(some 11), (.assign (.tmp 44)), 4, none⟩])
 (.seq
 (.seq
 (.ops [
 ⟨(some 45), (.load 26 (.tmp 10)), 26, none⟩,
 ⟨(some 46), (.load 26 (.tmp 6)), 26, none⟩,
 ⟨(some 47), (.call ⟨(.value (.func 12)), #[(.tmp 45), (.tmp 46)], #[26, 26]⟩), 4, none⟩,
 ⟨(some 48), (.unOp .not 4 (.tmp 47)), 4, none⟩,
 ⟨(some 49), (.move (.tmp 48)), 4, none⟩,
 ⟨(some 50), (.move (.tmp 11)), 4, (some (some 49, false))⟩,
 ⟨(some 51), (.move (.tmp 7)), 4, (some (some 49, false))⟩,
 ⟨(some 52), (.binOp .neq 4 (.tmp 50) (.tmp 51) 4), 4, (some (some 49, false))⟩,
 ⟨(some 53), (.pick (.tmp 49) (.const (.bool true)) (.tmp 52)), 4, none⟩])
 (.cond (.tmp 53)
 (.seq
 (.ops [
 ⟨(some 4), (.assign (.const (.bool false))), 4, none⟩])
 .ret)
 .skip))
 (.seq
 (.seq
 (.draws [
 (⟨[54, 8, 8], [54, 55, 56, 57, 58], [54]⟩, ⟨(some 54), (.load 26 (.tmp 8)), 26, none⟩),
 (⟨[55, 2, 2], [54, 55, 56, 57, 58], [55]⟩, ⟨(some 55), (.load 24 (.tmp 2)), 24, none⟩),
 (⟨[56, 55, 2], [54, 55, 56, 57, 58], [56]⟩, ⟨(some 56), (.call ⟨(.value (.func 10)), #[(.tmp 55)], #[24]⟩), 26, none⟩),
 (⟨[57, 54, 56, 8, 56], [54, 55, 56, 57, 58], [57]⟩, ⟨(some 57), (.call ⟨(.value (.func 12)), #[(.tmp 54), (.tmp 56)], #[26, 26]⟩), 4, none⟩),
 (⟨[58, 57, 57], [54, 55, 56, 57, 58], [58]⟩, ⟨(some 58), (.unOp .not 4 (.tmp 57)), 4, none⟩)])
 (.cond (.tmp 58)
 (.seq
 (.ops [
 ⟨(some 4), (.assign (.const (.bool false))), 4, none⟩])
 .ret)
 .skip))
 (.seq
 (.seq
 (.draws [
 (⟨[59, 9, 9], [59, 60, 61, 62, 63], [59]⟩, ⟨(some 59), (.load 26 (.tmp 9)), 26, none⟩),
 (⟨[60, 3, 3], [59, 60, 61, 62, 63], [60]⟩, ⟨(some 60), (.load 24 (.tmp 3)), 24, none⟩),
 (⟨[61, 60, 3], [59, 60, 61, 62, 63], [61]⟩, ⟨(some 61), (.call ⟨(.value (.func 10)), #[(.tmp 60)], #[24]⟩), 26, none⟩),
 (⟨[62, 59, 61, 9, 61], [59, 60, 61, 62, 63], [62]⟩, ⟨(some 62), (.call ⟨(.value (.func 12)), #[(.tmp 59), (.tmp 61)], #[26, 26]⟩), 4, none⟩),
 (⟨[63, 62, 62], [59, 60, 61, 62, 63], [63]⟩, ⟨(some 63), (.unOp .not 4 (.tmp 62)), 4, none⟩)])
 (.cond (.tmp 63)
 (.seq
 (.ops [
 ⟨(some 4), (.assign (.const (.bool false))), 4, none⟩])
 .ret)
 .skip))
 (.seq
 (.ops [
 ⟨(some 12), (.assign (.const (.int .i64 1))), 3, none⟩])
 (.seq
 (.ops [
 ⟨(some 64), (.load 26 (.tmp 8)), 26, none⟩,
 ⟨(some 65), (.move (.tmp 12)), 3, none⟩,
 ⟨(some 66), (.call ⟨(.value (.func 13)), #[(.tmp 64), (.tmp 65)], #[26, 3]⟩), 3, none⟩,
 ⟨(some 12), (.assign (.tmp 66)), 3, none⟩])
 (.seq
 (.ops [
 ⟨(some 67), (.load 26 (.tmp 9)), 26, none⟩,
 ⟨(some 68), (.move (.tmp 12)), 3, none⟩,
 ⟨(some 69), (.call ⟨(.value (.func 13)), #[(.tmp 67), (.tmp 68)], #[26, 3]⟩), 3, none⟩,
 ⟨(some 12), (.assign (.tmp 69)), 3, none⟩])
 (.seq
 (.seq
 (.ops [
 ⟨(some 70), (.move (.tmp 12)), 3, none⟩,
 ⟨(some 71), (.binOp .lss 3 (.tmp 70) (.const (.int .i64 0)) 3), 4, none⟩,
 ⟨(some 72), (.move (.tmp 71)), 4, none⟩,
 ⟨(some 73), (.load 26 (.tmp 10)), 26, (some (some 72, false))⟩,
 ⟨(some 74), (.load 26 (.tmp 6)), 26, (some (some 72, false))⟩,
 ⟨(some 75), (.call ⟨(.value (.func 12)), #[(.tmp 73), (.tmp 74)], #[26, 26]⟩), 4, (some (some 72, false))⟩,
 ⟨(some 76), (.unOp .not 4 (.tmp 75)), 4, (some (some 72, false))⟩,
 ⟨(some 77), (.pick (.tmp 72) (.const (.bool true)) (.tmp 76)), 4, none⟩,
 ⟨(some 78), (.move (.tmp 77)), 4, none⟩,
 ⟨(some 79), (.move (.tmp 11)), 4, (some (some 78, false))⟩,
 ⟨(some 80), (.move (.tmp 7)), 4, (some (some 78, false))⟩,
 ⟨(some 81), (.binOp .neq 4 (.tmp 79) (.tmp 80) 4), 4, (some (some 78, false))⟩,
 ⟨(some 82), (.pick (.tmp 78) (.const (.bool true)) (.tmp 81)), 4, none⟩])
 (.cond (.tmp 82)
 (.seq
 (.ops [
 ⟨(some 4), (.assign (.const (.bool false))), 4, none⟩])
 .ret)
 .skip))
 (.seq
 (.ops [
 ⟨(some 13), (.assign (.const (.int .i64 1))), 3, none⟩])
 (.seq
 (.ops [
 ⟨(some 83), (.load 26 (.tmp 10)), 26, none⟩,
 ⟨(some 84), (.move (.tmp 13)), 3, none⟩,
 ⟨(some 85), (.call ⟨(.value (.func 13)), #[(.tmp 83), (.tmp 84)], #[26, 3]⟩), 3, none⟩,
 ⟨(some 13), (.assign (.tmp 85)), 3, none⟩])
 (.seq
 (.ops [
 ⟨(some 14), (.assign (.const (.int .i64 1))), 3, none⟩])
 (.seq
 (.ops [
 ⟨(some 86), (.load 26 (.tmp 10)), 26, none⟩,
 ⟨(some 87), (.move (.tmp 14)), 3, none⟩,
 ⟨(some 88), (.call ⟨(.value (.func 14)), #[(.tmp 86), (.tmp 87)], #[26, 3]⟩), 3, none⟩,
 ⟨(some 14), (.assign (.tmp 88)), 3, none⟩])
 (.seq
 (.seq
 (.ops [
 ⟨(some 89), (.move (.tmp 14)), 3, none⟩,
 ⟨(some 90), (.binOp .lss 3 (.tmp 89) (.const (.int .i64 0)) 3), 4, none⟩])
 (.cond (.tmp 90)
 (.seq
 (.ops [
 ⟨(some 4), (.assign (.const (.bool false))), 4, none⟩])
 .ret)
 .skip))
 (.seq
 (.seq
 (.ops [
 ⟨(some 91), (.move (.tmp 14)), 3, none⟩,
 ⟨(some 92), (.move (.tmp 13)), 3, none⟩,
 ⟨(some 93), (.binOp .neq 3 (.tmp 91) (.tmp 92) 3), 4, none⟩])
 (.cond (.tmp 93)
 (.seq
 (.ops [
 ⟨(some 4), (.assign (.const (.bool false))), 4, none⟩])
 .ret)
 .skip))
 (.seq
 (.draws [
 (⟨[95, 2, 2], [95, 96, 97, 98, 99, 94, 99, 100, 101, 15, 15, 100, 15, 99, 16, 101], [95]⟩, ⟨(some 95), (.load 24 (.tmp 2)), 24, none⟩),
 (⟨[96, 95, 2], [95, 96, 97, 98, 99, 94, 99, 100, 101, 15, 15, 100, 15, 99, 16, 101], [96]⟩, ⟨(some 96), (.call ⟨(.value (.func 10)), #[(.tmp 95)], #[24]⟩), 26, none⟩),
 (⟨[97, 3, 3], [95, 96, 97, 98, 99, 94, 99, 100, 101, 15, 15, 100, 15, 99, 16, 101], [97]⟩, ⟨(some 97), (.load 24 (.tmp 3)), 24, none⟩),
 (⟨[98, 97, 3], [95, 96, 97, 98, 99, 94, 99, 100, 101, 15, 15, 100, 15, 99, 16, 101], [98]⟩, ⟨(some 98), (.call ⟨(.value (.func 10)), #[(.tmp 97)], #[24]⟩), 26, none⟩),
 (⟨[99, 96, 98, 96, 98], [95, 96, 97, 98, 99, 94, 99, 100, 101, 15, 15, 100, 15, 99, 16, 101], [99]⟩, ⟨(some 99), (.call ⟨(.value (.func 11)), #[(.tmp 96), (.tmp 98)], #[26, 26]⟩), 27, none⟩),
 (⟨[94, 99, 99], [95, 96, 97, 98, 99, 94, 99, 100, 101, 15, 15, 100, 15, 99, 16, 101], [94, 99]⟩, ⟨(some 94), (.move (.tmp 99)), 27, none⟩),
 (⟨[100, 94], [95, 96, 97, 98, 99, 94, 99, 100, 101, 15, 15, 100, 15, 99, 16, 101], [100]⟩, ⟨(some 100), (.extract (.tmp 94) 0), 26, none⟩),
 (⟨[101, 94], [95, 96, 97, 98, 99, 94, 99, 100, 101, 15, 15, 100, 15, 99, 16, 101], [101]⟩, ⟨(some 101), (.extract (.tmp 94) 1), 4, none⟩),
 (⟨[15], [95, 96, 97, 98, 99, 94, 99, 100, 101, 15, 15, 100, 15, 99, 16, 101], [15]⟩, ⟨(some 15), (.alloc 26), 0, none⟩),
 (⟨[15, 100, 15, 99], [95, 96, 97, 98, 99, 94, 99, 100, 101, 15, 15, 100, 15, 99, 16, 101], [15, 100, 15, 99]⟩, ⟨none, (.store 26 (.tmp 15) (.tmp 100)), 0, none⟩),
 (⟨[16, 101], [95, 96, 97, 98, 99, 94, 99, 100, 101, 15, 15, 100, 15, 99, 16, 101], [16, 101]⟩, ⟨(some 16), (.assign (.tmp 101)), 4, none⟩)])
 (.seq
 (.seq
 (.ops [
 ⟨(some 102), (.load 26 (.tmp 15)), 26, none⟩,
 ⟨(some 103), (.load 26 (.tmp 6)), 26, none⟩,
 ⟨(some 104), (.call ⟨(.value (.func 12)), #[(.tmp 102), (.tmp 103)], #[26, 26]⟩), 4, none⟩,
 ⟨(some 105), (.unOp .not 4 (.tmp 104)), 4, none⟩,
 ⟨(some 106), (.move (.tmp 105)), 4, none⟩,
 ⟨(some 107), (.move (.tmp 16)), 4, (some (some 106, false))⟩,
 ⟨(some 108), (.move (.tmp 7)), 4, (some (some 106, false))⟩,
 ⟨(some 109), (.binOp .neq 4 (.tmp 107) (.tmp 108) 4), 4, (some (some 106, false))⟩,
 ⟨(some 110), (.pick (.tmp 106) (.const (.bool true)) (.tmp 109)), 4, none⟩])
 (.cond (.tmp 110)
 (.seq
 (.ops [
 ⟨(some 4), (.assign (.const (.bool false))), 4, none⟩])
 .ret)
 .skip))
 (.seq
 (.ops [
 ⟨(some 14), (.assign (.const (.int .i64 1))), 3, none⟩])
 (.seq
 (.ops [
 ⟨(some 111), (.load 26 (.tmp 10)), 26, none⟩,
 ⟨(some 112), (.move (.tmp 14)), 3, none⟩,
 ⟨(some 113), (.call ⟨(.value (.func 14)), #[(.tmp 111), (.tmp 112)], #[26, 3]⟩), 3, none⟩,
 ⟨(some 14), (.assign (.tmp 113)), 3, none⟩])
 (.seq
 (.seq
 (.ops [
 ⟨(some 114), (.move (.tmp 14)), 3, none⟩,
 ⟨(some 115), (.binOp .lss 3 (.tmp 114) (.const (.int .i64 0)) 3), 4, none⟩])
 (.cond (.tmp 115)
 (.seq
 (.ops [
 ⟨(some 4), (.assign (.const (.bool false))), 4, none⟩])
 .ret)
 .skip))
 (.seq
 (.seq
 (.ops [
 ⟨(some 116), (.move (.tmp 14)), 3, none⟩,
 ⟨(some 117), (.move (.tmp 13)), 3, none⟩,
 ⟨(some 118), (.binOp .neq 3 (.tmp 116) (.tmp 117) 3), 4, none⟩])
 (.cond (.tmp 118)
 (.seq
 (.ops [
 ⟨(some 4), (.assign (.const (.bool false))), 4, none⟩])
 .ret)
 .skip))
 (.seq
 (.ops [
 ⟨(some 4), (.assign (.const (.bool true))), 4, none⟩])
 .ret)))))))))))))))))))))))))))))
theorem slim3 : Try.f3.body.map (slim lends) = some k3 := by kernel_rfl
theorem ok3 : fnOk Try.f3 2 = true := by kernel_rfl
theorem c3 {a l : List D} {r : D × List D} (h : wpD Y.env k3 (fin tys l.length [ResultVar.tmp 4] r) (entry a l)) (ha : a.length = 2) : Y.call 3 a l = some r :=
 call_slim (Y := Y) rfl Try.func3 (ha ▸ ok3) slim3 h
theorem l_FnExactProductProblem_call (t0_Labels : Int) (t0_Degree : Int) (t0_Nodes : List (List Int)) (t0_Edges : List (List Int)) (t1_Labels : Int) (t1_Degree : Int) (t1_Nodes : List (List Int)) (t1_Edges : List (List Int)) {r : Bool} (h : l_FnExactProductProblem t0_Labels t0_Degree t0_Nodes t0_Edges t1_Labels t1_Degree t1_Nodes t1_Edges = some r) : Y.call 3 [D.agg [D.int .i64 t0_Labels, D.int .i64 t0_Degree, D.sl 33 (lst (fun x => D.sl 3 (lst (D.int .i64) x)) t0_Nodes), D.sl 33 (lst (fun x => D.sl 3 (lst (D.int .i64) x)) t0_Edges)], D.agg [D.int .i64 t1_Labels, D.int .i64 t1_Degree, D.sl 33 (lst (fun x => D.sl 3 (lst (D.int .i64) x)) t1_Nodes), D.sl 33 (lst (fun x => D.sl 3 (lst (D.int .i64) x)) t1_Edges)]] [] = some (D.bool r, []) := by
 refine c3 ?_ rfl
 unfold k3
 unfold l_FnExactProductProblem at h
 obtain ⟨e1, h⟩ := ckS h
 obtain ⟨e2, h⟩ := ckS h
 obtain ⟨e3, h⟩ := ckS h
 have c4 := l_szProblem_cl t0_Labels t0_Degree t0_Nodes t0_Edges (1048576 : Int) e1 e2 e3
 by_cases e5 : (szP (1048576 : Int) t0_Nodes t0_Edges) < 0
 ·rw [if_pos e5] at h
  obtain rfl := Option.some.inj h
  simp (maxDischargeDepth := 9) only [↓xpre, xpost, xlst, xc2, xcore, yset, rg0, ↓reduceIte, Nat.reduceEqDiff, Nat.reduceLT, Nat.reduceLeDiff, Nat.reduceAdd, Nat.reduceMul, Nat.reduceMod, Nat.reduceSub, Nat.reduceBEq, Int.reduceLE, Int.reduceLT, Int.reduceEq, Int.reduceSub, Int.reduceAdd, Int.reduceToNat, Int.reduceNeg, e1, e2, e3.1, e3.2, c4, e5] <;> (repeat' apply And.intro) <;> first | rfl | exact ⟨_, rfl⟩ | simp [lst, cat2_nil]
 ·rw [if_neg e5] at h
  obtain ⟨e6, h⟩ := ckS h
  obtain ⟨e7, h⟩ := ckS h
  obtain ⟨e8, h⟩ := ckS h
  have c9 := l_szProblem_cl t1_Labels t1_Degree t1_Nodes t1_Edges (szP (1048576 : Int) t0_Nodes t0_Edges) e6 e7 e8
  by_cases e10 : (szP (szP (1048576 : Int) t0_Nodes t0_Edges) t1_Nodes t1_Edges) < 0
  ·rw [if_pos e10] at h
   obtain rfl := Option.some.inj h
   simp (maxDischargeDepth := 9) only [↓xpre, xpost, xlst, xc2, xcore, yset, rg0, ↓reduceIte, Nat.reduceEqDiff, Nat.reduceLT, Nat.reduceLeDiff, Nat.reduceAdd, Nat.reduceMul, Nat.reduceMod, Nat.reduceSub, Nat.reduceBEq, Int.reduceLE, Int.reduceLT, Int.reduceEq, Int.reduceSub, Int.reduceAdd, Int.reduceToNat, Int.reduceNeg, e1, e2, e3.1, e3.2, c4, e5, e6, e7, e8.1, e8.2, c9, e10] <;> (repeat' apply And.intro) <;> first | rfl | exact ⟨_, rfl⟩ | simp [lst, cat2_nil]
  ·rw [if_neg e10] at h
   obtain ⟨e11, h⟩ := ckS h
   obtain ⟨e12, h⟩ := ckS h
   have c13 := l_toProblem_cl t0_Labels t0_Degree t0_Nodes t0_Edges e11 e12
   obtain ⟨e14, h⟩ := ckS h
   obtain ⟨e15, h⟩ := ckS h
   have c16 := l_toProblem_cl t1_Labels t1_Degree t1_Nodes t1_Edges e14 e15
   obtain ⟨r17_, hl17, h⟩ := bindS h
   try dsimp only at h
   have c17 := s_ProductProblem_call t0_Labels t0_Degree t0_Nodes t0_Edges t1_Labels t1_Degree t1_Nodes t1_Edges hl17
   by_cases e18 : (r17_.2.2.1.any fun x => (!x.isEmpty)) = true
   ·rw [if_pos e18] at h
    have c19 := l_toProblem_cl t0_Labels t0_Degree t0_Nodes t0_Edges e11 e12
    have c20 := l_toProblem_cl t1_Labels t1_Degree t1_Nodes t1_Edges e14 e15
    obtain ⟨r21_, hl21, h⟩ := bindS h
    try dsimp only at h
    have c21 := i_ProductProblem_call t0_Labels t0_Degree t0_Nodes t0_Edges t1_Labels t1_Degree t1_Nodes t1_Edges hl21
    obtain ⟨e22, h⟩ := ckS h
    obtain ⟨e23, h⟩ := ckS h
    have c24 := l_eqProblem_cl r21_.1 r21_.2.1 r21_.2.2.1 r21_.2.2.2.1 r17_.1 r17_.2.1 r17_.2.2.1 r17_.2.2.2.1 e22 e23
    by_cases e25 : (sameP r21_.1 r21_.2.1 r21_.2.2.1 r21_.2.2.2.1 r17_.1 r17_.2.1 r17_.2.2.1 r17_.2.2.2.1) = true
    ·rw [if_pos e25] at h
     by_cases e26 : r21_.2.2.2.2 = true
     ·rw [if_pos e26] at h
      by_cases e27 : r17_.2.2.2.2 = true
      ·rw [if_pos e27] at h
       have c28 := l_toProblem_cl t0_Labels t0_Degree t0_Nodes t0_Edges e11 e12
       have c29 := l_eqProblem_cl t0_Labels t0_Degree t0_Nodes t0_Edges t0_Labels t0_Degree t0_Nodes t0_Edges e11 e12
       by_cases e30 : (sameP t0_Labels t0_Degree t0_Nodes t0_Edges t0_Labels t0_Degree t0_Nodes t0_Edges) = true
       ·rw [if_pos e30] at h
        have c31 := l_toProblem_cl t1_Labels t1_Degree t1_Nodes t1_Edges e14 e15
        have c32 := l_eqProblem_cl t1_Labels t1_Degree t1_Nodes t1_Edges t1_Labels t1_Degree t1_Nodes t1_Edges e14 e15
        by_cases e33 : (sameP t1_Labels t1_Degree t1_Nodes t1_Edges t1_Labels t1_Degree t1_Nodes t1_Edges) = true
        ·rw [if_pos e33] at h
         obtain ⟨e34, h⟩ := ckS h
         have c35 := l_markProblem_cl t0_Labels t0_Degree t0_Nodes t0_Edges (1 : Int) e11 e12 e34
         obtain ⟨e36, h⟩ := ckS h
         have c37 := l_markProblem_cl t1_Labels t1_Degree t1_Nodes t1_Edges ((1 : Int) + tot t0_Nodes + tot t0_Edges) e14 e15 e36
         by_cases e38 : (((1 : Int) + tot t0_Nodes + tot t0_Edges) + tot t1_Nodes + tot t1_Edges) < 0
         ·rw [if_pos e38] at h
          obtain rfl := Option.some.inj h
          simp (maxDischargeDepth := 9) only [↓xpre, xpost, xlst, xc2, xcore, yset, rg0, ↓reduceIte, Nat.reduceEqDiff, Nat.reduceLT, Nat.reduceLeDiff, Nat.reduceAdd, Nat.reduceMul, Nat.reduceMod, Nat.reduceSub, Nat.reduceBEq, Int.reduceLE, Int.reduceLT, Int.reduceEq, Int.reduceSub, Int.reduceAdd, Int.reduceToNat, Int.reduceNeg, e1, e2, e3.1, e3.2, c4, e5, e6, e7, e8.1, e8.2, c9, e10, e11, e12, c13, e14, e15, c16, c17, e18, c19, c20, c21, e22, e23, c24, e25, e26, e27, c28, c29, e30, c31, c32, e33, e34.1, e34.2, c35, e36.1, e36.2, c37, e38] <;> (repeat' apply And.intro) <;> first | rfl | exact ⟨_, rfl⟩ | simp [lst, cat2_nil]
         ·rw [if_neg e38] at h
          have c39 := l_eqProblem_cl r21_.1 r21_.2.1 r21_.2.2.1 r21_.2.2.2.1 r17_.1 r17_.2.1 r17_.2.2.1 r17_.2.2.2.1 e22 e23
          obtain ⟨e40, h⟩ := ckS h
          have c41 := l_markProblem_cl r21_.1 r21_.2.1 r21_.2.2.1 r21_.2.2.2.1 (1 : Int) e22 e23 e40
          obtain ⟨r42_, hl42, h⟩ := bindS h
          try dsimp only at h
          have c42 := l_heldProblem_call r21_.1 r21_.2.1 (marks (1 : Int) r21_.2.2.1) (marks ((1 : Int) + tot r21_.2.2.1) r21_.2.2.2.1) (1 : Int) hl42
          by_cases e43 : r42_ < 0
          ·rw [if_pos e43] at h
           obtain rfl := Option.some.inj h
           simp (maxDischargeDepth := 9) only [↓xpre, xpost, xlst, xc2, xcore, yset, rg0, ↓reduceIte, Nat.reduceEqDiff, Nat.reduceLT, Nat.reduceLeDiff, Nat.reduceAdd, Nat.reduceMul, Nat.reduceMod, Nat.reduceSub, Nat.reduceBEq, Int.reduceLE, Int.reduceLT, Int.reduceEq, Int.reduceSub, Int.reduceAdd, Int.reduceToNat, Int.reduceNeg, e1, e2, e3.1, e3.2, c4, e5, e6, e7, e8.1, e8.2, c9, e10, e11, e12, c13, e14, e15, c16, c17, e18, c19, c20, c21, e22, e23, c24, e25, e26, e27, c28, c29, e30, c31, c32, e33, e34.1, e34.2, c35, e36.1, e36.2, c37, e38, c39, e40.1, e40.2, c41, c42, e43] <;> (repeat' apply And.intro) <;> first | rfl | exact ⟨_, rfl⟩ | simp [lst, cat2_nil]
          ·rw [if_neg e43] at h
           by_cases e44 : r42_ = ((1 : Int) + tot r21_.2.2.1 + tot r21_.2.2.2.1)
           ·rw [if_pos e44] at h
            have c45 := l_toProblem_cl t0_Labels t0_Degree t0_Nodes t0_Edges e11 e12
            have c46 := l_toProblem_cl t1_Labels t1_Degree t1_Nodes t1_Edges e14 e15
            have c47 := l_eqProblem_cl r21_.1 r21_.2.1 r21_.2.2.1 r21_.2.2.2.1 r17_.1 r17_.2.1 r17_.2.2.1 r17_.2.2.2.1 e22 e23
            obtain rfl := Option.some.inj h
            simp (maxDischargeDepth := 9) only [↓xpre, xpost, xlst, xc2, xcore, yset, rg0, ↓reduceIte, Nat.reduceEqDiff, Nat.reduceLT, Nat.reduceLeDiff, Nat.reduceAdd, Nat.reduceMul, Nat.reduceMod, Nat.reduceSub, Nat.reduceBEq, Int.reduceLE, Int.reduceLT, Int.reduceEq, Int.reduceSub, Int.reduceAdd, Int.reduceToNat, Int.reduceNeg, e1, e2, e3.1, e3.2, c4, e5, e6, e7, e8.1, e8.2, c9, e10, e11, e12, c13, e14, e15, c16, c17, e18, c19, c20, c21, e22, e23, c24, e25, e26, e27, c28, c29, e30, c31, c32, e33, e34.1, e34.2, c35, e36.1, e36.2, c37, e38, c39, e40.1, e40.2, c41, c42, e43, decide_eq_true e44, c45, c46, c47] <;> (repeat' apply And.intro) <;> first | rfl | exact ⟨_, rfl⟩ | simp [lst, cat2_nil]
           ·rw [if_neg e44] at h
            obtain rfl := Option.some.inj h
            simp (maxDischargeDepth := 9) only [↓xpre, xpost, xlst, xc2, xcore, yset, rg0, ↓reduceIte, Nat.reduceEqDiff, Nat.reduceLT, Nat.reduceLeDiff, Nat.reduceAdd, Nat.reduceMul, Nat.reduceMod, Nat.reduceSub, Nat.reduceBEq, Int.reduceLE, Int.reduceLT, Int.reduceEq, Int.reduceSub, Int.reduceAdd, Int.reduceToNat, Int.reduceNeg, e1, e2, e3.1, e3.2, c4, e5, e6, e7, e8.1, e8.2, c9, e10, e11, e12, c13, e14, e15, c16, c17, e18, c19, c20, c21, e22, e23, c24, e25, e26, e27, c28, c29, e30, c31, c32, e33, e34.1, e34.2, c35, e36.1, e36.2, c37, e38, c39, e40.1, e40.2, c41, c42, e43, e44] <;> (repeat' apply And.intro) <;> first | rfl | exact ⟨_, rfl⟩ | simp [lst, cat2_nil]
        ·rw [if_neg e33] at h
         have e33f : (sameP t1_Labels t1_Degree t1_Nodes t1_Edges t1_Labels t1_Degree t1_Nodes t1_Edges) = false := Bool.eq_false_iff.mpr e33
         obtain rfl := Option.some.inj h
         simp (maxDischargeDepth := 9) only [↓xpre, xpost, xlst, xc2, xcore, yset, rg0, ↓reduceIte, Nat.reduceEqDiff, Nat.reduceLT, Nat.reduceLeDiff, Nat.reduceAdd, Nat.reduceMul, Nat.reduceMod, Nat.reduceSub, Nat.reduceBEq, Int.reduceLE, Int.reduceLT, Int.reduceEq, Int.reduceSub, Int.reduceAdd, Int.reduceToNat, Int.reduceNeg, e1, e2, e3.1, e3.2, c4, e5, e6, e7, e8.1, e8.2, c9, e10, e11, e12, c13, e14, e15, c16, c17, e18, c19, c20, c21, e22, e23, c24, e25, e26, e27, c28, c29, e30, c31, c32, e33f] <;> (repeat' apply And.intro) <;> first | rfl | exact ⟨_, rfl⟩ | simp [lst, cat2_nil]
       ·rw [if_neg e30] at h
        have e30f : (sameP t0_Labels t0_Degree t0_Nodes t0_Edges t0_Labels t0_Degree t0_Nodes t0_Edges) = false := Bool.eq_false_iff.mpr e30
        obtain rfl := Option.some.inj h
        simp (maxDischargeDepth := 9) only [↓xpre, xpost, xlst, xc2, xcore, yset, rg0, ↓reduceIte, Nat.reduceEqDiff, Nat.reduceLT, Nat.reduceLeDiff, Nat.reduceAdd, Nat.reduceMul, Nat.reduceMod, Nat.reduceSub, Nat.reduceBEq, Int.reduceLE, Int.reduceLT, Int.reduceEq, Int.reduceSub, Int.reduceAdd, Int.reduceToNat, Int.reduceNeg, e1, e2, e3.1, e3.2, c4, e5, e6, e7, e8.1, e8.2, c9, e10, e11, e12, c13, e14, e15, c16, c17, e18, c19, c20, c21, e22, e23, c24, e25, e26, e27, c28, c29, e30f] <;> (repeat' apply And.intro) <;> first | rfl | exact ⟨_, rfl⟩ | simp [lst, cat2_nil]
      ·rw [if_neg e27] at h
       have e27f : r17_.2.2.2.2 = false := Bool.eq_false_iff.mpr e27
       obtain rfl := Option.some.inj h
       simp (maxDischargeDepth := 9) only [↓xpre, xpost, xlst, xc2, xcore, yset, rg0, ↓reduceIte, Nat.reduceEqDiff, Nat.reduceLT, Nat.reduceLeDiff, Nat.reduceAdd, Nat.reduceMul, Nat.reduceMod, Nat.reduceSub, Nat.reduceBEq, Int.reduceLE, Int.reduceLT, Int.reduceEq, Int.reduceSub, Int.reduceAdd, Int.reduceToNat, Int.reduceNeg, e1, e2, e3.1, e3.2, c4, e5, e6, e7, e8.1, e8.2, c9, e10, e11, e12, c13, e14, e15, c16, c17, e18, c19, c20, c21, e22, e23, c24, e25, e26, e27f] <;> (repeat' apply And.intro) <;> first | rfl | exact ⟨_, rfl⟩ | simp [lst, cat2_nil]
     ·rw [if_neg e26] at h
      have e26f : r21_.2.2.2.2 = false := Bool.eq_false_iff.mpr e26
      by_cases e27 : r17_.2.2.2.2 = true
      ·rw [if_pos e27] at h
       obtain rfl := Option.some.inj h
       simp (maxDischargeDepth := 9) only [↓xpre, xpost, xlst, xc2, xcore, yset, rg0, ↓reduceIte, Nat.reduceEqDiff, Nat.reduceLT, Nat.reduceLeDiff, Nat.reduceAdd, Nat.reduceMul, Nat.reduceMod, Nat.reduceSub, Nat.reduceBEq, Int.reduceLE, Int.reduceLT, Int.reduceEq, Int.reduceSub, Int.reduceAdd, Int.reduceToNat, Int.reduceNeg, e1, e2, e3.1, e3.2, c4, e5, e6, e7, e8.1, e8.2, c9, e10, e11, e12, c13, e14, e15, c16, c17, e18, c19, c20, c21, e22, e23, c24, e25, e26f, e27] <;> (repeat' apply And.intro) <;> first | rfl | exact ⟨_, rfl⟩ | simp [lst, cat2_nil]
      ·rw [if_neg e27] at h
       have e27f : r17_.2.2.2.2 = false := Bool.eq_false_iff.mpr e27
       have c28 := l_toProblem_cl t0_Labels t0_Degree t0_Nodes t0_Edges e11 e12
       have c29 := l_eqProblem_cl t0_Labels t0_Degree t0_Nodes t0_Edges t0_Labels t0_Degree t0_Nodes t0_Edges e11 e12
       by_cases e30 : (sameP t0_Labels t0_Degree t0_Nodes t0_Edges t0_Labels t0_Degree t0_Nodes t0_Edges) = true
       ·rw [if_pos e30] at h
        have c31 := l_toProblem_cl t1_Labels t1_Degree t1_Nodes t1_Edges e14 e15
        have c32 := l_eqProblem_cl t1_Labels t1_Degree t1_Nodes t1_Edges t1_Labels t1_Degree t1_Nodes t1_Edges e14 e15
        by_cases e33 : (sameP t1_Labels t1_Degree t1_Nodes t1_Edges t1_Labels t1_Degree t1_Nodes t1_Edges) = true
        ·rw [if_pos e33] at h
         obtain ⟨e34, h⟩ := ckS h
         have c35 := l_markProblem_cl t0_Labels t0_Degree t0_Nodes t0_Edges (1 : Int) e11 e12 e34
         obtain ⟨e36, h⟩ := ckS h
         have c37 := l_markProblem_cl t1_Labels t1_Degree t1_Nodes t1_Edges ((1 : Int) + tot t0_Nodes + tot t0_Edges) e14 e15 e36
         by_cases e38 : (((1 : Int) + tot t0_Nodes + tot t0_Edges) + tot t1_Nodes + tot t1_Edges) < 0
         ·rw [if_pos e38] at h
          obtain rfl := Option.some.inj h
          simp (maxDischargeDepth := 9) only [↓xpre, xpost, xlst, xc2, xcore, yset, rg0, ↓reduceIte, Nat.reduceEqDiff, Nat.reduceLT, Nat.reduceLeDiff, Nat.reduceAdd, Nat.reduceMul, Nat.reduceMod, Nat.reduceSub, Nat.reduceBEq, Int.reduceLE, Int.reduceLT, Int.reduceEq, Int.reduceSub, Int.reduceAdd, Int.reduceToNat, Int.reduceNeg, e1, e2, e3.1, e3.2, c4, e5, e6, e7, e8.1, e8.2, c9, e10, e11, e12, c13, e14, e15, c16, c17, e18, c19, c20, c21, e22, e23, c24, e25, e26f, e27f, c28, c29, e30, c31, c32, e33, e34.1, e34.2, c35, e36.1, e36.2, c37, e38] <;> (repeat' apply And.intro) <;> first | rfl | exact ⟨_, rfl⟩ | simp [lst, cat2_nil]
         ·rw [if_neg e38] at h
          have c39 := l_eqProblem_cl r21_.1 r21_.2.1 r21_.2.2.1 r21_.2.2.2.1 r17_.1 r17_.2.1 r17_.2.2.1 r17_.2.2.2.1 e22 e23
          obtain ⟨e40, h⟩ := ckS h
          have c41 := l_markProblem_cl r21_.1 r21_.2.1 r21_.2.2.1 r21_.2.2.2.1 (1 : Int) e22 e23 e40
          obtain ⟨r42_, hl42, h⟩ := bindS h
          try dsimp only at h
          have c42 := l_heldProblem_call r21_.1 r21_.2.1 (marks (1 : Int) r21_.2.2.1) (marks ((1 : Int) + tot r21_.2.2.1) r21_.2.2.2.1) (1 : Int) hl42
          by_cases e43 : r42_ < 0
          ·rw [if_pos e43] at h
           obtain rfl := Option.some.inj h
           simp (maxDischargeDepth := 9) only [↓xpre, xpost, xlst, xc2, xcore, yset, rg0, ↓reduceIte, Nat.reduceEqDiff, Nat.reduceLT, Nat.reduceLeDiff, Nat.reduceAdd, Nat.reduceMul, Nat.reduceMod, Nat.reduceSub, Nat.reduceBEq, Int.reduceLE, Int.reduceLT, Int.reduceEq, Int.reduceSub, Int.reduceAdd, Int.reduceToNat, Int.reduceNeg, e1, e2, e3.1, e3.2, c4, e5, e6, e7, e8.1, e8.2, c9, e10, e11, e12, c13, e14, e15, c16, c17, e18, c19, c20, c21, e22, e23, c24, e25, e26f, e27f, c28, c29, e30, c31, c32, e33, e34.1, e34.2, c35, e36.1, e36.2, c37, e38, c39, e40.1, e40.2, c41, c42, e43] <;> (repeat' apply And.intro) <;> first | rfl | exact ⟨_, rfl⟩ | simp [lst, cat2_nil]
          ·rw [if_neg e43] at h
           by_cases e44 : r42_ = ((1 : Int) + tot r21_.2.2.1 + tot r21_.2.2.2.1)
           ·rw [if_pos e44] at h
            have c45 := l_toProblem_cl t0_Labels t0_Degree t0_Nodes t0_Edges e11 e12
            have c46 := l_toProblem_cl t1_Labels t1_Degree t1_Nodes t1_Edges e14 e15
            have c47 := l_eqProblem_cl r21_.1 r21_.2.1 r21_.2.2.1 r21_.2.2.2.1 r17_.1 r17_.2.1 r17_.2.2.1 r17_.2.2.2.1 e22 e23
            obtain rfl := Option.some.inj h
            simp (maxDischargeDepth := 9) only [↓xpre, xpost, xlst, xc2, xcore, yset, rg0, ↓reduceIte, Nat.reduceEqDiff, Nat.reduceLT, Nat.reduceLeDiff, Nat.reduceAdd, Nat.reduceMul, Nat.reduceMod, Nat.reduceSub, Nat.reduceBEq, Int.reduceLE, Int.reduceLT, Int.reduceEq, Int.reduceSub, Int.reduceAdd, Int.reduceToNat, Int.reduceNeg, e1, e2, e3.1, e3.2, c4, e5, e6, e7, e8.1, e8.2, c9, e10, e11, e12, c13, e14, e15, c16, c17, e18, c19, c20, c21, e22, e23, c24, e25, e26f, e27f, c28, c29, e30, c31, c32, e33, e34.1, e34.2, c35, e36.1, e36.2, c37, e38, c39, e40.1, e40.2, c41, c42, e43, decide_eq_true e44, c45, c46, c47] <;> (repeat' apply And.intro) <;> first | rfl | exact ⟨_, rfl⟩ | simp [lst, cat2_nil]
           ·rw [if_neg e44] at h
            obtain rfl := Option.some.inj h
            simp (maxDischargeDepth := 9) only [↓xpre, xpost, xlst, xc2, xcore, yset, rg0, ↓reduceIte, Nat.reduceEqDiff, Nat.reduceLT, Nat.reduceLeDiff, Nat.reduceAdd, Nat.reduceMul, Nat.reduceMod, Nat.reduceSub, Nat.reduceBEq, Int.reduceLE, Int.reduceLT, Int.reduceEq, Int.reduceSub, Int.reduceAdd, Int.reduceToNat, Int.reduceNeg, e1, e2, e3.1, e3.2, c4, e5, e6, e7, e8.1, e8.2, c9, e10, e11, e12, c13, e14, e15, c16, c17, e18, c19, c20, c21, e22, e23, c24, e25, e26f, e27f, c28, c29, e30, c31, c32, e33, e34.1, e34.2, c35, e36.1, e36.2, c37, e38, c39, e40.1, e40.2, c41, c42, e43, e44] <;> (repeat' apply And.intro) <;> first | rfl | exact ⟨_, rfl⟩ | simp [lst, cat2_nil]
        ·rw [if_neg e33] at h
         have e33f : (sameP t1_Labels t1_Degree t1_Nodes t1_Edges t1_Labels t1_Degree t1_Nodes t1_Edges) = false := Bool.eq_false_iff.mpr e33
         obtain rfl := Option.some.inj h
         simp (maxDischargeDepth := 9) only [↓xpre, xpost, xlst, xc2, xcore, yset, rg0, ↓reduceIte, Nat.reduceEqDiff, Nat.reduceLT, Nat.reduceLeDiff, Nat.reduceAdd, Nat.reduceMul, Nat.reduceMod, Nat.reduceSub, Nat.reduceBEq, Int.reduceLE, Int.reduceLT, Int.reduceEq, Int.reduceSub, Int.reduceAdd, Int.reduceToNat, Int.reduceNeg, e1, e2, e3.1, e3.2, c4, e5, e6, e7, e8.1, e8.2, c9, e10, e11, e12, c13, e14, e15, c16, c17, e18, c19, c20, c21, e22, e23, c24, e25, e26f, e27f, c28, c29, e30, c31, c32, e33f] <;> (repeat' apply And.intro) <;> first | rfl | exact ⟨_, rfl⟩ | simp [lst, cat2_nil]
       ·rw [if_neg e30] at h
        have e30f : (sameP t0_Labels t0_Degree t0_Nodes t0_Edges t0_Labels t0_Degree t0_Nodes t0_Edges) = false := Bool.eq_false_iff.mpr e30
        obtain rfl := Option.some.inj h
        simp (maxDischargeDepth := 9) only [↓xpre, xpost, xlst, xc2, xcore, yset, rg0, ↓reduceIte, Nat.reduceEqDiff, Nat.reduceLT, Nat.reduceLeDiff, Nat.reduceAdd, Nat.reduceMul, Nat.reduceMod, Nat.reduceSub, Nat.reduceBEq, Int.reduceLE, Int.reduceLT, Int.reduceEq, Int.reduceSub, Int.reduceAdd, Int.reduceToNat, Int.reduceNeg, e1, e2, e3.1, e3.2, c4, e5, e6, e7, e8.1, e8.2, c9, e10, e11, e12, c13, e14, e15, c16, c17, e18, c19, c20, c21, e22, e23, c24, e25, e26f, e27f, c28, c29, e30f] <;> (repeat' apply And.intro) <;> first | rfl | exact ⟨_, rfl⟩ | simp [lst, cat2_nil]
    ·rw [if_neg e25] at h
     have e25f : (sameP r21_.1 r21_.2.1 r21_.2.2.1 r21_.2.2.2.1 r17_.1 r17_.2.1 r17_.2.2.1 r17_.2.2.2.1) = false := Bool.eq_false_iff.mpr e25
     obtain rfl := Option.some.inj h
     simp (maxDischargeDepth := 9) only [↓xpre, xpost, xlst, xc2, xcore, yset, rg0, ↓reduceIte, Nat.reduceEqDiff, Nat.reduceLT, Nat.reduceLeDiff, Nat.reduceAdd, Nat.reduceMul, Nat.reduceMod, Nat.reduceSub, Nat.reduceBEq, Int.reduceLE, Int.reduceLT, Int.reduceEq, Int.reduceSub, Int.reduceAdd, Int.reduceToNat, Int.reduceNeg, e1, e2, e3.1, e3.2, c4, e5, e6, e7, e8.1, e8.2, c9, e10, e11, e12, c13, e14, e15, c16, c17, e18, c19, c20, c21, e22, e23, c24, e25f] <;> (repeat' apply And.intro) <;> first | rfl | exact ⟨_, rfl⟩ | simp [lst, cat2_nil]
   ·rw [if_neg e18] at h
    have e18f : (r17_.2.2.1.any fun x => (!x.isEmpty)) = false := Bool.eq_false_iff.mpr e18
    by_cases e19 : (r17_.2.2.2.1.any fun x => (!x.isEmpty)) = true
    ·skip
     have c20 := l_toProblem_cl t0_Labels t0_Degree t0_Nodes t0_Edges e11 e12
     have c21 := l_toProblem_cl t1_Labels t1_Degree t1_Nodes t1_Edges e14 e15
     obtain ⟨r22_, hl22, h⟩ := bindS h
     try dsimp only at h
     have c22 := i_ProductProblem_call t0_Labels t0_Degree t0_Nodes t0_Edges t1_Labels t1_Degree t1_Nodes t1_Edges hl22
     obtain ⟨e23, h⟩ := ckS h
     obtain ⟨e24, h⟩ := ckS h
     have c25 := l_eqProblem_cl r22_.1 r22_.2.1 r22_.2.2.1 r22_.2.2.2.1 r17_.1 r17_.2.1 r17_.2.2.1 r17_.2.2.2.1 e23 e24
     by_cases e26 : (sameP r22_.1 r22_.2.1 r22_.2.2.1 r22_.2.2.2.1 r17_.1 r17_.2.1 r17_.2.2.1 r17_.2.2.2.1) = true
     ·rw [if_pos e26] at h
      by_cases e27 : r22_.2.2.2.2 = true
      ·rw [if_pos e27] at h
       by_cases e28 : r17_.2.2.2.2 = true
       ·rw [if_pos e28] at h
        have c29 := l_toProblem_cl t0_Labels t0_Degree t0_Nodes t0_Edges e11 e12
        have c30 := l_eqProblem_cl t0_Labels t0_Degree t0_Nodes t0_Edges t0_Labels t0_Degree t0_Nodes t0_Edges e11 e12
        by_cases e31 : (sameP t0_Labels t0_Degree t0_Nodes t0_Edges t0_Labels t0_Degree t0_Nodes t0_Edges) = true
        ·rw [if_pos e31] at h
         have c32 := l_toProblem_cl t1_Labels t1_Degree t1_Nodes t1_Edges e14 e15
         have c33 := l_eqProblem_cl t1_Labels t1_Degree t1_Nodes t1_Edges t1_Labels t1_Degree t1_Nodes t1_Edges e14 e15
         by_cases e34 : (sameP t1_Labels t1_Degree t1_Nodes t1_Edges t1_Labels t1_Degree t1_Nodes t1_Edges) = true
         ·rw [if_pos e34] at h
          obtain ⟨e35, h⟩ := ckS h
          have c36 := l_markProblem_cl t0_Labels t0_Degree t0_Nodes t0_Edges (1 : Int) e11 e12 e35
          obtain ⟨e37, h⟩ := ckS h
          have c38 := l_markProblem_cl t1_Labels t1_Degree t1_Nodes t1_Edges ((1 : Int) + tot t0_Nodes + tot t0_Edges) e14 e15 e37
          by_cases e39 : (((1 : Int) + tot t0_Nodes + tot t0_Edges) + tot t1_Nodes + tot t1_Edges) < 0
          ·rw [if_pos e39] at h
           obtain rfl := Option.some.inj h
           simp (maxDischargeDepth := 9) only [↓xpre, xpost, xlst, xc2, xcore, yset, rg0, ↓reduceIte, Nat.reduceEqDiff, Nat.reduceLT, Nat.reduceLeDiff, Nat.reduceAdd, Nat.reduceMul, Nat.reduceMod, Nat.reduceSub, Nat.reduceBEq, Int.reduceLE, Int.reduceLT, Int.reduceEq, Int.reduceSub, Int.reduceAdd, Int.reduceToNat, Int.reduceNeg, e1, e2, e3.1, e3.2, c4, e5, e6, e7, e8.1, e8.2, c9, e10, e11, e12, c13, e14, e15, c16, c17, e18f, e19, c20, c21, c22, e23, e24, c25, e26, e27, e28, c29, c30, e31, c32, c33, e34, e35.1, e35.2, c36, e37.1, e37.2, c38, e39] <;> (repeat' apply And.intro) <;> first | rfl | exact ⟨_, rfl⟩ | simp [lst, cat2_nil]
          ·rw [if_neg e39] at h
           have c40 := l_eqProblem_cl r22_.1 r22_.2.1 r22_.2.2.1 r22_.2.2.2.1 r17_.1 r17_.2.1 r17_.2.2.1 r17_.2.2.2.1 e23 e24
           obtain ⟨e41, h⟩ := ckS h
           have c42 := l_markProblem_cl r22_.1 r22_.2.1 r22_.2.2.1 r22_.2.2.2.1 (1 : Int) e23 e24 e41
           obtain ⟨r43_, hl43, h⟩ := bindS h
           try dsimp only at h
           have c43 := l_heldProblem_call r22_.1 r22_.2.1 (marks (1 : Int) r22_.2.2.1) (marks ((1 : Int) + tot r22_.2.2.1) r22_.2.2.2.1) (1 : Int) hl43
           by_cases e44 : r43_ < 0
           ·rw [if_pos e44] at h
            obtain rfl := Option.some.inj h
            simp (maxDischargeDepth := 9) only [↓xpre, xpost, xlst, xc2, xcore, yset, rg0, ↓reduceIte, Nat.reduceEqDiff, Nat.reduceLT, Nat.reduceLeDiff, Nat.reduceAdd, Nat.reduceMul, Nat.reduceMod, Nat.reduceSub, Nat.reduceBEq, Int.reduceLE, Int.reduceLT, Int.reduceEq, Int.reduceSub, Int.reduceAdd, Int.reduceToNat, Int.reduceNeg, e1, e2, e3.1, e3.2, c4, e5, e6, e7, e8.1, e8.2, c9, e10, e11, e12, c13, e14, e15, c16, c17, e18f, e19, c20, c21, c22, e23, e24, c25, e26, e27, e28, c29, c30, e31, c32, c33, e34, e35.1, e35.2, c36, e37.1, e37.2, c38, e39, c40, e41.1, e41.2, c42, c43, e44] <;> (repeat' apply And.intro) <;> first | rfl | exact ⟨_, rfl⟩ | simp [lst, cat2_nil]
           ·rw [if_neg e44] at h
            by_cases e45 : r43_ = ((1 : Int) + tot r22_.2.2.1 + tot r22_.2.2.2.1)
            ·rw [if_pos e45] at h
             have c46 := l_toProblem_cl t0_Labels t0_Degree t0_Nodes t0_Edges e11 e12
             have c47 := l_toProblem_cl t1_Labels t1_Degree t1_Nodes t1_Edges e14 e15
             have c48 := l_eqProblem_cl r22_.1 r22_.2.1 r22_.2.2.1 r22_.2.2.2.1 r17_.1 r17_.2.1 r17_.2.2.1 r17_.2.2.2.1 e23 e24
             obtain rfl := Option.some.inj h
             simp (maxDischargeDepth := 9) only [↓xpre, xpost, xlst, xc2, xcore, yset, rg0, ↓reduceIte, Nat.reduceEqDiff, Nat.reduceLT, Nat.reduceLeDiff, Nat.reduceAdd, Nat.reduceMul, Nat.reduceMod, Nat.reduceSub, Nat.reduceBEq, Int.reduceLE, Int.reduceLT, Int.reduceEq, Int.reduceSub, Int.reduceAdd, Int.reduceToNat, Int.reduceNeg, e1, e2, e3.1, e3.2, c4, e5, e6, e7, e8.1, e8.2, c9, e10, e11, e12, c13, e14, e15, c16, c17, e18f, e19, c20, c21, c22, e23, e24, c25, e26, e27, e28, c29, c30, e31, c32, c33, e34, e35.1, e35.2, c36, e37.1, e37.2, c38, e39, c40, e41.1, e41.2, c42, c43, e44, decide_eq_true e45, c46, c47, c48] <;> (repeat' apply And.intro) <;> first | rfl | exact ⟨_, rfl⟩ | simp [lst, cat2_nil]
            ·rw [if_neg e45] at h
             obtain rfl := Option.some.inj h
             simp (maxDischargeDepth := 9) only [↓xpre, xpost, xlst, xc2, xcore, yset, rg0, ↓reduceIte, Nat.reduceEqDiff, Nat.reduceLT, Nat.reduceLeDiff, Nat.reduceAdd, Nat.reduceMul, Nat.reduceMod, Nat.reduceSub, Nat.reduceBEq, Int.reduceLE, Int.reduceLT, Int.reduceEq, Int.reduceSub, Int.reduceAdd, Int.reduceToNat, Int.reduceNeg, e1, e2, e3.1, e3.2, c4, e5, e6, e7, e8.1, e8.2, c9, e10, e11, e12, c13, e14, e15, c16, c17, e18f, e19, c20, c21, c22, e23, e24, c25, e26, e27, e28, c29, c30, e31, c32, c33, e34, e35.1, e35.2, c36, e37.1, e37.2, c38, e39, c40, e41.1, e41.2, c42, c43, e44, e45] <;> (repeat' apply And.intro) <;> first | rfl | exact ⟨_, rfl⟩ | simp [lst, cat2_nil]
         ·rw [if_neg e34] at h
          have e34f : (sameP t1_Labels t1_Degree t1_Nodes t1_Edges t1_Labels t1_Degree t1_Nodes t1_Edges) = false := Bool.eq_false_iff.mpr e34
          obtain rfl := Option.some.inj h
          simp (maxDischargeDepth := 9) only [↓xpre, xpost, xlst, xc2, xcore, yset, rg0, ↓reduceIte, Nat.reduceEqDiff, Nat.reduceLT, Nat.reduceLeDiff, Nat.reduceAdd, Nat.reduceMul, Nat.reduceMod, Nat.reduceSub, Nat.reduceBEq, Int.reduceLE, Int.reduceLT, Int.reduceEq, Int.reduceSub, Int.reduceAdd, Int.reduceToNat, Int.reduceNeg, e1, e2, e3.1, e3.2, c4, e5, e6, e7, e8.1, e8.2, c9, e10, e11, e12, c13, e14, e15, c16, c17, e18f, e19, c20, c21, c22, e23, e24, c25, e26, e27, e28, c29, c30, e31, c32, c33, e34f] <;> (repeat' apply And.intro) <;> first | rfl | exact ⟨_, rfl⟩ | simp [lst, cat2_nil]
        ·rw [if_neg e31] at h
         have e31f : (sameP t0_Labels t0_Degree t0_Nodes t0_Edges t0_Labels t0_Degree t0_Nodes t0_Edges) = false := Bool.eq_false_iff.mpr e31
         obtain rfl := Option.some.inj h
         simp (maxDischargeDepth := 9) only [↓xpre, xpost, xlst, xc2, xcore, yset, rg0, ↓reduceIte, Nat.reduceEqDiff, Nat.reduceLT, Nat.reduceLeDiff, Nat.reduceAdd, Nat.reduceMul, Nat.reduceMod, Nat.reduceSub, Nat.reduceBEq, Int.reduceLE, Int.reduceLT, Int.reduceEq, Int.reduceSub, Int.reduceAdd, Int.reduceToNat, Int.reduceNeg, e1, e2, e3.1, e3.2, c4, e5, e6, e7, e8.1, e8.2, c9, e10, e11, e12, c13, e14, e15, c16, c17, e18f, e19, c20, c21, c22, e23, e24, c25, e26, e27, e28, c29, c30, e31f] <;> (repeat' apply And.intro) <;> first | rfl | exact ⟨_, rfl⟩ | simp [lst, cat2_nil]
       ·rw [if_neg e28] at h
        have e28f : r17_.2.2.2.2 = false := Bool.eq_false_iff.mpr e28
        obtain rfl := Option.some.inj h
        simp (maxDischargeDepth := 9) only [↓xpre, xpost, xlst, xc2, xcore, yset, rg0, ↓reduceIte, Nat.reduceEqDiff, Nat.reduceLT, Nat.reduceLeDiff, Nat.reduceAdd, Nat.reduceMul, Nat.reduceMod, Nat.reduceSub, Nat.reduceBEq, Int.reduceLE, Int.reduceLT, Int.reduceEq, Int.reduceSub, Int.reduceAdd, Int.reduceToNat, Int.reduceNeg, e1, e2, e3.1, e3.2, c4, e5, e6, e7, e8.1, e8.2, c9, e10, e11, e12, c13, e14, e15, c16, c17, e18f, e19, c20, c21, c22, e23, e24, c25, e26, e27, e28f] <;> (repeat' apply And.intro) <;> first | rfl | exact ⟨_, rfl⟩ | simp [lst, cat2_nil]
      ·rw [if_neg e27] at h
       have e27f : r22_.2.2.2.2 = false := Bool.eq_false_iff.mpr e27
       by_cases e28 : r17_.2.2.2.2 = true
       ·rw [if_pos e28] at h
        obtain rfl := Option.some.inj h
        simp (maxDischargeDepth := 9) only [↓xpre, xpost, xlst, xc2, xcore, yset, rg0, ↓reduceIte, Nat.reduceEqDiff, Nat.reduceLT, Nat.reduceLeDiff, Nat.reduceAdd, Nat.reduceMul, Nat.reduceMod, Nat.reduceSub, Nat.reduceBEq, Int.reduceLE, Int.reduceLT, Int.reduceEq, Int.reduceSub, Int.reduceAdd, Int.reduceToNat, Int.reduceNeg, e1, e2, e3.1, e3.2, c4, e5, e6, e7, e8.1, e8.2, c9, e10, e11, e12, c13, e14, e15, c16, c17, e18f, e19, c20, c21, c22, e23, e24, c25, e26, e27f, e28] <;> (repeat' apply And.intro) <;> first | rfl | exact ⟨_, rfl⟩ | simp [lst, cat2_nil]
       ·rw [if_neg e28] at h
        have e28f : r17_.2.2.2.2 = false := Bool.eq_false_iff.mpr e28
        have c29 := l_toProblem_cl t0_Labels t0_Degree t0_Nodes t0_Edges e11 e12
        have c30 := l_eqProblem_cl t0_Labels t0_Degree t0_Nodes t0_Edges t0_Labels t0_Degree t0_Nodes t0_Edges e11 e12
        by_cases e31 : (sameP t0_Labels t0_Degree t0_Nodes t0_Edges t0_Labels t0_Degree t0_Nodes t0_Edges) = true
        ·rw [if_pos e31] at h
         have c32 := l_toProblem_cl t1_Labels t1_Degree t1_Nodes t1_Edges e14 e15
         have c33 := l_eqProblem_cl t1_Labels t1_Degree t1_Nodes t1_Edges t1_Labels t1_Degree t1_Nodes t1_Edges e14 e15
         by_cases e34 : (sameP t1_Labels t1_Degree t1_Nodes t1_Edges t1_Labels t1_Degree t1_Nodes t1_Edges) = true
         ·rw [if_pos e34] at h
          obtain ⟨e35, h⟩ := ckS h
          have c36 := l_markProblem_cl t0_Labels t0_Degree t0_Nodes t0_Edges (1 : Int) e11 e12 e35
          obtain ⟨e37, h⟩ := ckS h
          have c38 := l_markProblem_cl t1_Labels t1_Degree t1_Nodes t1_Edges ((1 : Int) + tot t0_Nodes + tot t0_Edges) e14 e15 e37
          by_cases e39 : (((1 : Int) + tot t0_Nodes + tot t0_Edges) + tot t1_Nodes + tot t1_Edges) < 0
          ·rw [if_pos e39] at h
           obtain rfl := Option.some.inj h
           simp (maxDischargeDepth := 9) only [↓xpre, xpost, xlst, xc2, xcore, yset, rg0, ↓reduceIte, Nat.reduceEqDiff, Nat.reduceLT, Nat.reduceLeDiff, Nat.reduceAdd, Nat.reduceMul, Nat.reduceMod, Nat.reduceSub, Nat.reduceBEq, Int.reduceLE, Int.reduceLT, Int.reduceEq, Int.reduceSub, Int.reduceAdd, Int.reduceToNat, Int.reduceNeg, e1, e2, e3.1, e3.2, c4, e5, e6, e7, e8.1, e8.2, c9, e10, e11, e12, c13, e14, e15, c16, c17, e18f, e19, c20, c21, c22, e23, e24, c25, e26, e27f, e28f, c29, c30, e31, c32, c33, e34, e35.1, e35.2, c36, e37.1, e37.2, c38, e39] <;> (repeat' apply And.intro) <;> first | rfl | exact ⟨_, rfl⟩ | simp [lst, cat2_nil]
          ·rw [if_neg e39] at h
           have c40 := l_eqProblem_cl r22_.1 r22_.2.1 r22_.2.2.1 r22_.2.2.2.1 r17_.1 r17_.2.1 r17_.2.2.1 r17_.2.2.2.1 e23 e24
           obtain ⟨e41, h⟩ := ckS h
           have c42 := l_markProblem_cl r22_.1 r22_.2.1 r22_.2.2.1 r22_.2.2.2.1 (1 : Int) e23 e24 e41
           obtain ⟨r43_, hl43, h⟩ := bindS h
           try dsimp only at h
           have c43 := l_heldProblem_call r22_.1 r22_.2.1 (marks (1 : Int) r22_.2.2.1) (marks ((1 : Int) + tot r22_.2.2.1) r22_.2.2.2.1) (1 : Int) hl43
           by_cases e44 : r43_ < 0
           ·rw [if_pos e44] at h
            obtain rfl := Option.some.inj h
            simp (maxDischargeDepth := 9) only [↓xpre, xpost, xlst, xc2, xcore, yset, rg0, ↓reduceIte, Nat.reduceEqDiff, Nat.reduceLT, Nat.reduceLeDiff, Nat.reduceAdd, Nat.reduceMul, Nat.reduceMod, Nat.reduceSub, Nat.reduceBEq, Int.reduceLE, Int.reduceLT, Int.reduceEq, Int.reduceSub, Int.reduceAdd, Int.reduceToNat, Int.reduceNeg, e1, e2, e3.1, e3.2, c4, e5, e6, e7, e8.1, e8.2, c9, e10, e11, e12, c13, e14, e15, c16, c17, e18f, e19, c20, c21, c22, e23, e24, c25, e26, e27f, e28f, c29, c30, e31, c32, c33, e34, e35.1, e35.2, c36, e37.1, e37.2, c38, e39, c40, e41.1, e41.2, c42, c43, e44] <;> (repeat' apply And.intro) <;> first | rfl | exact ⟨_, rfl⟩ | simp [lst, cat2_nil]
           ·rw [if_neg e44] at h
            by_cases e45 : r43_ = ((1 : Int) + tot r22_.2.2.1 + tot r22_.2.2.2.1)
            ·rw [if_pos e45] at h
             have c46 := l_toProblem_cl t0_Labels t0_Degree t0_Nodes t0_Edges e11 e12
             have c47 := l_toProblem_cl t1_Labels t1_Degree t1_Nodes t1_Edges e14 e15
             have c48 := l_eqProblem_cl r22_.1 r22_.2.1 r22_.2.2.1 r22_.2.2.2.1 r17_.1 r17_.2.1 r17_.2.2.1 r17_.2.2.2.1 e23 e24
             obtain rfl := Option.some.inj h
             simp (maxDischargeDepth := 9) only [↓xpre, xpost, xlst, xc2, xcore, yset, rg0, ↓reduceIte, Nat.reduceEqDiff, Nat.reduceLT, Nat.reduceLeDiff, Nat.reduceAdd, Nat.reduceMul, Nat.reduceMod, Nat.reduceSub, Nat.reduceBEq, Int.reduceLE, Int.reduceLT, Int.reduceEq, Int.reduceSub, Int.reduceAdd, Int.reduceToNat, Int.reduceNeg, e1, e2, e3.1, e3.2, c4, e5, e6, e7, e8.1, e8.2, c9, e10, e11, e12, c13, e14, e15, c16, c17, e18f, e19, c20, c21, c22, e23, e24, c25, e26, e27f, e28f, c29, c30, e31, c32, c33, e34, e35.1, e35.2, c36, e37.1, e37.2, c38, e39, c40, e41.1, e41.2, c42, c43, e44, decide_eq_true e45, c46, c47, c48] <;> (repeat' apply And.intro) <;> first | rfl | exact ⟨_, rfl⟩ | simp [lst, cat2_nil]
            ·rw [if_neg e45] at h
             obtain rfl := Option.some.inj h
             simp (maxDischargeDepth := 9) only [↓xpre, xpost, xlst, xc2, xcore, yset, rg0, ↓reduceIte, Nat.reduceEqDiff, Nat.reduceLT, Nat.reduceLeDiff, Nat.reduceAdd, Nat.reduceMul, Nat.reduceMod, Nat.reduceSub, Nat.reduceBEq, Int.reduceLE, Int.reduceLT, Int.reduceEq, Int.reduceSub, Int.reduceAdd, Int.reduceToNat, Int.reduceNeg, e1, e2, e3.1, e3.2, c4, e5, e6, e7, e8.1, e8.2, c9, e10, e11, e12, c13, e14, e15, c16, c17, e18f, e19, c20, c21, c22, e23, e24, c25, e26, e27f, e28f, c29, c30, e31, c32, c33, e34, e35.1, e35.2, c36, e37.1, e37.2, c38, e39, c40, e41.1, e41.2, c42, c43, e44, e45] <;> (repeat' apply And.intro) <;> first | rfl | exact ⟨_, rfl⟩ | simp [lst, cat2_nil]
         ·rw [if_neg e34] at h
          have e34f : (sameP t1_Labels t1_Degree t1_Nodes t1_Edges t1_Labels t1_Degree t1_Nodes t1_Edges) = false := Bool.eq_false_iff.mpr e34
          obtain rfl := Option.some.inj h
          simp (maxDischargeDepth := 9) only [↓xpre, xpost, xlst, xc2, xcore, yset, rg0, ↓reduceIte, Nat.reduceEqDiff, Nat.reduceLT, Nat.reduceLeDiff, Nat.reduceAdd, Nat.reduceMul, Nat.reduceMod, Nat.reduceSub, Nat.reduceBEq, Int.reduceLE, Int.reduceLT, Int.reduceEq, Int.reduceSub, Int.reduceAdd, Int.reduceToNat, Int.reduceNeg, e1, e2, e3.1, e3.2, c4, e5, e6, e7, e8.1, e8.2, c9, e10, e11, e12, c13, e14, e15, c16, c17, e18f, e19, c20, c21, c22, e23, e24, c25, e26, e27f, e28f, c29, c30, e31, c32, c33, e34f] <;> (repeat' apply And.intro) <;> first | rfl | exact ⟨_, rfl⟩ | simp [lst, cat2_nil]
        ·rw [if_neg e31] at h
         have e31f : (sameP t0_Labels t0_Degree t0_Nodes t0_Edges t0_Labels t0_Degree t0_Nodes t0_Edges) = false := Bool.eq_false_iff.mpr e31
         obtain rfl := Option.some.inj h
         simp (maxDischargeDepth := 9) only [↓xpre, xpost, xlst, xc2, xcore, yset, rg0, ↓reduceIte, Nat.reduceEqDiff, Nat.reduceLT, Nat.reduceLeDiff, Nat.reduceAdd, Nat.reduceMul, Nat.reduceMod, Nat.reduceSub, Nat.reduceBEq, Int.reduceLE, Int.reduceLT, Int.reduceEq, Int.reduceSub, Int.reduceAdd, Int.reduceToNat, Int.reduceNeg, e1, e2, e3.1, e3.2, c4, e5, e6, e7, e8.1, e8.2, c9, e10, e11, e12, c13, e14, e15, c16, c17, e18f, e19, c20, c21, c22, e23, e24, c25, e26, e27f, e28f, c29, c30, e31f] <;> (repeat' apply And.intro) <;> first | rfl | exact ⟨_, rfl⟩ | simp [lst, cat2_nil]
     ·rw [if_neg e26] at h
      have e26f : (sameP r22_.1 r22_.2.1 r22_.2.2.1 r22_.2.2.2.1 r17_.1 r17_.2.1 r17_.2.2.1 r17_.2.2.2.1) = false := Bool.eq_false_iff.mpr e26
      obtain rfl := Option.some.inj h
      simp (maxDischargeDepth := 9) only [↓xpre, xpost, xlst, xc2, xcore, yset, rg0, ↓reduceIte, Nat.reduceEqDiff, Nat.reduceLT, Nat.reduceLeDiff, Nat.reduceAdd, Nat.reduceMul, Nat.reduceMod, Nat.reduceSub, Nat.reduceBEq, Int.reduceLE, Int.reduceLT, Int.reduceEq, Int.reduceSub, Int.reduceAdd, Int.reduceToNat, Int.reduceNeg, e1, e2, e3.1, e3.2, c4, e5, e6, e7, e8.1, e8.2, c9, e10, e11, e12, c13, e14, e15, c16, c17, e18f, e19, c20, c21, c22, e23, e24, c25, e26f] <;> (repeat' apply And.intro) <;> first | rfl | exact ⟨_, rfl⟩ | simp [lst, cat2_nil]
    ·skip
     have e19f : (r17_.2.2.2.1.any fun x => (!x.isEmpty)) = false := Bool.eq_false_iff.mpr e19
     have c20 := l_toProblem_cl t0_Labels t0_Degree t0_Nodes t0_Edges e11 e12
     have c21 := l_toProblem_cl t1_Labels t1_Degree t1_Nodes t1_Edges e14 e15
     obtain ⟨r22_, hl22, h⟩ := bindS h
     try dsimp only at h
     have c22 := i_ProductProblem_call t0_Labels t0_Degree t0_Nodes t0_Edges t1_Labels t1_Degree t1_Nodes t1_Edges hl22
     obtain ⟨e23, h⟩ := ckS h
     obtain ⟨e24, h⟩ := ckS h
     have c25 := l_eqProblem_cl r22_.1 r22_.2.1 r22_.2.2.1 r22_.2.2.2.1 r17_.1 r17_.2.1 r17_.2.2.1 r17_.2.2.2.1 e23 e24
     by_cases e26 : (sameP r22_.1 r22_.2.1 r22_.2.2.1 r22_.2.2.2.1 r17_.1 r17_.2.1 r17_.2.2.1 r17_.2.2.2.1) = true
     ·rw [if_pos e26] at h
      by_cases e27 : r22_.2.2.2.2 = true
      ·rw [if_pos e27] at h
       by_cases e28 : r17_.2.2.2.2 = true
       ·rw [if_pos e28] at h
        have c29 := l_toProblem_cl t0_Labels t0_Degree t0_Nodes t0_Edges e11 e12
        have c30 := l_eqProblem_cl t0_Labels t0_Degree t0_Nodes t0_Edges t0_Labels t0_Degree t0_Nodes t0_Edges e11 e12
        by_cases e31 : (sameP t0_Labels t0_Degree t0_Nodes t0_Edges t0_Labels t0_Degree t0_Nodes t0_Edges) = true
        ·rw [if_pos e31] at h
         have c32 := l_toProblem_cl t1_Labels t1_Degree t1_Nodes t1_Edges e14 e15
         have c33 := l_eqProblem_cl t1_Labels t1_Degree t1_Nodes t1_Edges t1_Labels t1_Degree t1_Nodes t1_Edges e14 e15
         by_cases e34 : (sameP t1_Labels t1_Degree t1_Nodes t1_Edges t1_Labels t1_Degree t1_Nodes t1_Edges) = true
         ·rw [if_pos e34] at h
          obtain ⟨e35, h⟩ := ckS h
          have c36 := l_markProblem_cl t0_Labels t0_Degree t0_Nodes t0_Edges (1 : Int) e11 e12 e35
          obtain ⟨e37, h⟩ := ckS h
          have c38 := l_markProblem_cl t1_Labels t1_Degree t1_Nodes t1_Edges ((1 : Int) + tot t0_Nodes + tot t0_Edges) e14 e15 e37
          by_cases e39 : (((1 : Int) + tot t0_Nodes + tot t0_Edges) + tot t1_Nodes + tot t1_Edges) < 0
          ·rw [if_pos e39] at h
           obtain rfl := Option.some.inj h
           simp (maxDischargeDepth := 9) only [↓xpre, xpost, xlst, xc2, xcore, yset, rg0, ↓reduceIte, Nat.reduceEqDiff, Nat.reduceLT, Nat.reduceLeDiff, Nat.reduceAdd, Nat.reduceMul, Nat.reduceMod, Nat.reduceSub, Nat.reduceBEq, Int.reduceLE, Int.reduceLT, Int.reduceEq, Int.reduceSub, Int.reduceAdd, Int.reduceToNat, Int.reduceNeg, e1, e2, e3.1, e3.2, c4, e5, e6, e7, e8.1, e8.2, c9, e10, e11, e12, c13, e14, e15, c16, c17, e18f, e19f, c20, c21, c22, e23, e24, c25, e26, e27, e28, c29, c30, e31, c32, c33, e34, e35.1, e35.2, c36, e37.1, e37.2, c38, e39] <;> (repeat' apply And.intro) <;> first | rfl | exact ⟨_, rfl⟩ | simp [lst, cat2_nil]
          ·rw [if_neg e39] at h
           have c40 := l_eqProblem_cl r22_.1 r22_.2.1 r22_.2.2.1 r22_.2.2.2.1 r17_.1 r17_.2.1 r17_.2.2.1 r17_.2.2.2.1 e23 e24
           obtain ⟨e41, h⟩ := ckS h
           have c42 := l_markProblem_cl r22_.1 r22_.2.1 r22_.2.2.1 r22_.2.2.2.1 (1 : Int) e23 e24 e41
           obtain ⟨r43_, hl43, h⟩ := bindS h
           try dsimp only at h
           have c43 := l_heldProblem_call r22_.1 r22_.2.1 (marks (1 : Int) r22_.2.2.1) (marks ((1 : Int) + tot r22_.2.2.1) r22_.2.2.2.1) (1 : Int) hl43
           by_cases e44 : r43_ < 0
           ·rw [if_pos e44] at h
            obtain rfl := Option.some.inj h
            simp (maxDischargeDepth := 9) only [↓xpre, xpost, xlst, xc2, xcore, yset, rg0, ↓reduceIte, Nat.reduceEqDiff, Nat.reduceLT, Nat.reduceLeDiff, Nat.reduceAdd, Nat.reduceMul, Nat.reduceMod, Nat.reduceSub, Nat.reduceBEq, Int.reduceLE, Int.reduceLT, Int.reduceEq, Int.reduceSub, Int.reduceAdd, Int.reduceToNat, Int.reduceNeg, e1, e2, e3.1, e3.2, c4, e5, e6, e7, e8.1, e8.2, c9, e10, e11, e12, c13, e14, e15, c16, c17, e18f, e19f, c20, c21, c22, e23, e24, c25, e26, e27, e28, c29, c30, e31, c32, c33, e34, e35.1, e35.2, c36, e37.1, e37.2, c38, e39, c40, e41.1, e41.2, c42, c43, e44] <;> (repeat' apply And.intro) <;> first | rfl | exact ⟨_, rfl⟩ | simp [lst, cat2_nil]
           ·rw [if_neg e44] at h
            by_cases e45 : r43_ = ((1 : Int) + tot r22_.2.2.1 + tot r22_.2.2.2.1)
            ·rw [if_pos e45] at h
             have c46 := l_toProblem_cl t0_Labels t0_Degree t0_Nodes t0_Edges e11 e12
             have c47 := l_toProblem_cl t1_Labels t1_Degree t1_Nodes t1_Edges e14 e15
             have c48 := l_eqProblem_cl r22_.1 r22_.2.1 r22_.2.2.1 r22_.2.2.2.1 r17_.1 r17_.2.1 r17_.2.2.1 r17_.2.2.2.1 e23 e24
             obtain rfl := Option.some.inj h
             simp (maxDischargeDepth := 9) only [↓xpre, xpost, xlst, xc2, xcore, yset, rg0, ↓reduceIte, Nat.reduceEqDiff, Nat.reduceLT, Nat.reduceLeDiff, Nat.reduceAdd, Nat.reduceMul, Nat.reduceMod, Nat.reduceSub, Nat.reduceBEq, Int.reduceLE, Int.reduceLT, Int.reduceEq, Int.reduceSub, Int.reduceAdd, Int.reduceToNat, Int.reduceNeg, e1, e2, e3.1, e3.2, c4, e5, e6, e7, e8.1, e8.2, c9, e10, e11, e12, c13, e14, e15, c16, c17, e18f, e19f, c20, c21, c22, e23, e24, c25, e26, e27, e28, c29, c30, e31, c32, c33, e34, e35.1, e35.2, c36, e37.1, e37.2, c38, e39, c40, e41.1, e41.2, c42, c43, e44, decide_eq_true e45, c46, c47, c48] <;> (repeat' apply And.intro) <;> first | rfl | exact ⟨_, rfl⟩ | simp [lst, cat2_nil]
            ·rw [if_neg e45] at h
             obtain rfl := Option.some.inj h
             simp (maxDischargeDepth := 9) only [↓xpre, xpost, xlst, xc2, xcore, yset, rg0, ↓reduceIte, Nat.reduceEqDiff, Nat.reduceLT, Nat.reduceLeDiff, Nat.reduceAdd, Nat.reduceMul, Nat.reduceMod, Nat.reduceSub, Nat.reduceBEq, Int.reduceLE, Int.reduceLT, Int.reduceEq, Int.reduceSub, Int.reduceAdd, Int.reduceToNat, Int.reduceNeg, e1, e2, e3.1, e3.2, c4, e5, e6, e7, e8.1, e8.2, c9, e10, e11, e12, c13, e14, e15, c16, c17, e18f, e19f, c20, c21, c22, e23, e24, c25, e26, e27, e28, c29, c30, e31, c32, c33, e34, e35.1, e35.2, c36, e37.1, e37.2, c38, e39, c40, e41.1, e41.2, c42, c43, e44, e45] <;> (repeat' apply And.intro) <;> first | rfl | exact ⟨_, rfl⟩ | simp [lst, cat2_nil]
         ·rw [if_neg e34] at h
          have e34f : (sameP t1_Labels t1_Degree t1_Nodes t1_Edges t1_Labels t1_Degree t1_Nodes t1_Edges) = false := Bool.eq_false_iff.mpr e34
          obtain rfl := Option.some.inj h
          simp (maxDischargeDepth := 9) only [↓xpre, xpost, xlst, xc2, xcore, yset, rg0, ↓reduceIte, Nat.reduceEqDiff, Nat.reduceLT, Nat.reduceLeDiff, Nat.reduceAdd, Nat.reduceMul, Nat.reduceMod, Nat.reduceSub, Nat.reduceBEq, Int.reduceLE, Int.reduceLT, Int.reduceEq, Int.reduceSub, Int.reduceAdd, Int.reduceToNat, Int.reduceNeg, e1, e2, e3.1, e3.2, c4, e5, e6, e7, e8.1, e8.2, c9, e10, e11, e12, c13, e14, e15, c16, c17, e18f, e19f, c20, c21, c22, e23, e24, c25, e26, e27, e28, c29, c30, e31, c32, c33, e34f] <;> (repeat' apply And.intro) <;> first | rfl | exact ⟨_, rfl⟩ | simp [lst, cat2_nil]
        ·rw [if_neg e31] at h
         have e31f : (sameP t0_Labels t0_Degree t0_Nodes t0_Edges t0_Labels t0_Degree t0_Nodes t0_Edges) = false := Bool.eq_false_iff.mpr e31
         obtain rfl := Option.some.inj h
         simp (maxDischargeDepth := 9) only [↓xpre, xpost, xlst, xc2, xcore, yset, rg0, ↓reduceIte, Nat.reduceEqDiff, Nat.reduceLT, Nat.reduceLeDiff, Nat.reduceAdd, Nat.reduceMul, Nat.reduceMod, Nat.reduceSub, Nat.reduceBEq, Int.reduceLE, Int.reduceLT, Int.reduceEq, Int.reduceSub, Int.reduceAdd, Int.reduceToNat, Int.reduceNeg, e1, e2, e3.1, e3.2, c4, e5, e6, e7, e8.1, e8.2, c9, e10, e11, e12, c13, e14, e15, c16, c17, e18f, e19f, c20, c21, c22, e23, e24, c25, e26, e27, e28, c29, c30, e31f] <;> (repeat' apply And.intro) <;> first | rfl | exact ⟨_, rfl⟩ | simp [lst, cat2_nil]
       ·rw [if_neg e28] at h
        have e28f : r17_.2.2.2.2 = false := Bool.eq_false_iff.mpr e28
        obtain rfl := Option.some.inj h
        simp (maxDischargeDepth := 9) only [↓xpre, xpost, xlst, xc2, xcore, yset, rg0, ↓reduceIte, Nat.reduceEqDiff, Nat.reduceLT, Nat.reduceLeDiff, Nat.reduceAdd, Nat.reduceMul, Nat.reduceMod, Nat.reduceSub, Nat.reduceBEq, Int.reduceLE, Int.reduceLT, Int.reduceEq, Int.reduceSub, Int.reduceAdd, Int.reduceToNat, Int.reduceNeg, e1, e2, e3.1, e3.2, c4, e5, e6, e7, e8.1, e8.2, c9, e10, e11, e12, c13, e14, e15, c16, c17, e18f, e19f, c20, c21, c22, e23, e24, c25, e26, e27, e28f] <;> (repeat' apply And.intro) <;> first | rfl | exact ⟨_, rfl⟩ | simp [lst, cat2_nil]
      ·rw [if_neg e27] at h
       have e27f : r22_.2.2.2.2 = false := Bool.eq_false_iff.mpr e27
       by_cases e28 : r17_.2.2.2.2 = true
       ·rw [if_pos e28] at h
        obtain rfl := Option.some.inj h
        simp (maxDischargeDepth := 9) only [↓xpre, xpost, xlst, xc2, xcore, yset, rg0, ↓reduceIte, Nat.reduceEqDiff, Nat.reduceLT, Nat.reduceLeDiff, Nat.reduceAdd, Nat.reduceMul, Nat.reduceMod, Nat.reduceSub, Nat.reduceBEq, Int.reduceLE, Int.reduceLT, Int.reduceEq, Int.reduceSub, Int.reduceAdd, Int.reduceToNat, Int.reduceNeg, e1, e2, e3.1, e3.2, c4, e5, e6, e7, e8.1, e8.2, c9, e10, e11, e12, c13, e14, e15, c16, c17, e18f, e19f, c20, c21, c22, e23, e24, c25, e26, e27f, e28] <;> (repeat' apply And.intro) <;> first | rfl | exact ⟨_, rfl⟩ | simp [lst, cat2_nil]
       ·rw [if_neg e28] at h
        have e28f : r17_.2.2.2.2 = false := Bool.eq_false_iff.mpr e28
        have c29 := l_toProblem_cl t0_Labels t0_Degree t0_Nodes t0_Edges e11 e12
        have c30 := l_eqProblem_cl t0_Labels t0_Degree t0_Nodes t0_Edges t0_Labels t0_Degree t0_Nodes t0_Edges e11 e12
        by_cases e31 : (sameP t0_Labels t0_Degree t0_Nodes t0_Edges t0_Labels t0_Degree t0_Nodes t0_Edges) = true
        ·rw [if_pos e31] at h
         have c32 := l_toProblem_cl t1_Labels t1_Degree t1_Nodes t1_Edges e14 e15
         have c33 := l_eqProblem_cl t1_Labels t1_Degree t1_Nodes t1_Edges t1_Labels t1_Degree t1_Nodes t1_Edges e14 e15
         by_cases e34 : (sameP t1_Labels t1_Degree t1_Nodes t1_Edges t1_Labels t1_Degree t1_Nodes t1_Edges) = true
         ·rw [if_pos e34] at h
          obtain ⟨e35, h⟩ := ckS h
          have c36 := l_markProblem_cl t0_Labels t0_Degree t0_Nodes t0_Edges (1 : Int) e11 e12 e35
          obtain ⟨e37, h⟩ := ckS h
          have c38 := l_markProblem_cl t1_Labels t1_Degree t1_Nodes t1_Edges ((1 : Int) + tot t0_Nodes + tot t0_Edges) e14 e15 e37
          by_cases e39 : (((1 : Int) + tot t0_Nodes + tot t0_Edges) + tot t1_Nodes + tot t1_Edges) < 0
          ·rw [if_pos e39] at h
           obtain rfl := Option.some.inj h
           simp (maxDischargeDepth := 9) only [↓xpre, xpost, xlst, xc2, xcore, yset, rg0, ↓reduceIte, Nat.reduceEqDiff, Nat.reduceLT, Nat.reduceLeDiff, Nat.reduceAdd, Nat.reduceMul, Nat.reduceMod, Nat.reduceSub, Nat.reduceBEq, Int.reduceLE, Int.reduceLT, Int.reduceEq, Int.reduceSub, Int.reduceAdd, Int.reduceToNat, Int.reduceNeg, e1, e2, e3.1, e3.2, c4, e5, e6, e7, e8.1, e8.2, c9, e10, e11, e12, c13, e14, e15, c16, c17, e18f, e19f, c20, c21, c22, e23, e24, c25, e26, e27f, e28f, c29, c30, e31, c32, c33, e34, e35.1, e35.2, c36, e37.1, e37.2, c38, e39] <;> (repeat' apply And.intro) <;> first | rfl | exact ⟨_, rfl⟩ | simp [lst, cat2_nil]
          ·rw [if_neg e39] at h
           have c40 := l_eqProblem_cl r22_.1 r22_.2.1 r22_.2.2.1 r22_.2.2.2.1 r17_.1 r17_.2.1 r17_.2.2.1 r17_.2.2.2.1 e23 e24
           obtain ⟨e41, h⟩ := ckS h
           have c42 := l_markProblem_cl r22_.1 r22_.2.1 r22_.2.2.1 r22_.2.2.2.1 (1 : Int) e23 e24 e41
           obtain ⟨r43_, hl43, h⟩ := bindS h
           try dsimp only at h
           have c43 := l_heldProblem_call r22_.1 r22_.2.1 (marks (1 : Int) r22_.2.2.1) (marks ((1 : Int) + tot r22_.2.2.1) r22_.2.2.2.1) (1 : Int) hl43
           by_cases e44 : r43_ < 0
           ·rw [if_pos e44] at h
            obtain rfl := Option.some.inj h
            simp (maxDischargeDepth := 9) only [↓xpre, xpost, xlst, xc2, xcore, yset, rg0, ↓reduceIte, Nat.reduceEqDiff, Nat.reduceLT, Nat.reduceLeDiff, Nat.reduceAdd, Nat.reduceMul, Nat.reduceMod, Nat.reduceSub, Nat.reduceBEq, Int.reduceLE, Int.reduceLT, Int.reduceEq, Int.reduceSub, Int.reduceAdd, Int.reduceToNat, Int.reduceNeg, e1, e2, e3.1, e3.2, c4, e5, e6, e7, e8.1, e8.2, c9, e10, e11, e12, c13, e14, e15, c16, c17, e18f, e19f, c20, c21, c22, e23, e24, c25, e26, e27f, e28f, c29, c30, e31, c32, c33, e34, e35.1, e35.2, c36, e37.1, e37.2, c38, e39, c40, e41.1, e41.2, c42, c43, e44] <;> (repeat' apply And.intro) <;> first | rfl | exact ⟨_, rfl⟩ | simp [lst, cat2_nil]
           ·rw [if_neg e44] at h
            by_cases e45 : r43_ = ((1 : Int) + tot r22_.2.2.1 + tot r22_.2.2.2.1)
            ·rw [if_pos e45] at h
             have c46 := l_toProblem_cl t0_Labels t0_Degree t0_Nodes t0_Edges e11 e12
             have c47 := l_toProblem_cl t1_Labels t1_Degree t1_Nodes t1_Edges e14 e15
             have c48 := l_eqProblem_cl r22_.1 r22_.2.1 r22_.2.2.1 r22_.2.2.2.1 r17_.1 r17_.2.1 r17_.2.2.1 r17_.2.2.2.1 e23 e24
             obtain rfl := Option.some.inj h
             simp (maxDischargeDepth := 9) only [↓xpre, xpost, xlst, xc2, xcore, yset, rg0, ↓reduceIte, Nat.reduceEqDiff, Nat.reduceLT, Nat.reduceLeDiff, Nat.reduceAdd, Nat.reduceMul, Nat.reduceMod, Nat.reduceSub, Nat.reduceBEq, Int.reduceLE, Int.reduceLT, Int.reduceEq, Int.reduceSub, Int.reduceAdd, Int.reduceToNat, Int.reduceNeg, e1, e2, e3.1, e3.2, c4, e5, e6, e7, e8.1, e8.2, c9, e10, e11, e12, c13, e14, e15, c16, c17, e18f, e19f, c20, c21, c22, e23, e24, c25, e26, e27f, e28f, c29, c30, e31, c32, c33, e34, e35.1, e35.2, c36, e37.1, e37.2, c38, e39, c40, e41.1, e41.2, c42, c43, e44, decide_eq_true e45, c46, c47, c48] <;> (repeat' apply And.intro) <;> first | rfl | exact ⟨_, rfl⟩ | simp [lst, cat2_nil]
            ·rw [if_neg e45] at h
             obtain rfl := Option.some.inj h
             simp (maxDischargeDepth := 9) only [↓xpre, xpost, xlst, xc2, xcore, yset, rg0, ↓reduceIte, Nat.reduceEqDiff, Nat.reduceLT, Nat.reduceLeDiff, Nat.reduceAdd, Nat.reduceMul, Nat.reduceMod, Nat.reduceSub, Nat.reduceBEq, Int.reduceLE, Int.reduceLT, Int.reduceEq, Int.reduceSub, Int.reduceAdd, Int.reduceToNat, Int.reduceNeg, e1, e2, e3.1, e3.2, c4, e5, e6, e7, e8.1, e8.2, c9, e10, e11, e12, c13, e14, e15, c16, c17, e18f, e19f, c20, c21, c22, e23, e24, c25, e26, e27f, e28f, c29, c30, e31, c32, c33, e34, e35.1, e35.2, c36, e37.1, e37.2, c38, e39, c40, e41.1, e41.2, c42, c43, e44, e45] <;> (repeat' apply And.intro) <;> first | rfl | exact ⟨_, rfl⟩ | simp [lst, cat2_nil]
         ·rw [if_neg e34] at h
          have e34f : (sameP t1_Labels t1_Degree t1_Nodes t1_Edges t1_Labels t1_Degree t1_Nodes t1_Edges) = false := Bool.eq_false_iff.mpr e34
          obtain rfl := Option.some.inj h
          simp (maxDischargeDepth := 9) only [↓xpre, xpost, xlst, xc2, xcore, yset, rg0, ↓reduceIte, Nat.reduceEqDiff, Nat.reduceLT, Nat.reduceLeDiff, Nat.reduceAdd, Nat.reduceMul, Nat.reduceMod, Nat.reduceSub, Nat.reduceBEq, Int.reduceLE, Int.reduceLT, Int.reduceEq, Int.reduceSub, Int.reduceAdd, Int.reduceToNat, Int.reduceNeg, e1, e2, e3.1, e3.2, c4, e5, e6, e7, e8.1, e8.2, c9, e10, e11, e12, c13, e14, e15, c16, c17, e18f, e19f, c20, c21, c22, e23, e24, c25, e26, e27f, e28f, c29, c30, e31, c32, c33, e34f] <;> (repeat' apply And.intro) <;> first | rfl | exact ⟨_, rfl⟩ | simp [lst, cat2_nil]
        ·rw [if_neg e31] at h
         have e31f : (sameP t0_Labels t0_Degree t0_Nodes t0_Edges t0_Labels t0_Degree t0_Nodes t0_Edges) = false := Bool.eq_false_iff.mpr e31
         obtain rfl := Option.some.inj h
         simp (maxDischargeDepth := 9) only [↓xpre, xpost, xlst, xc2, xcore, yset, rg0, ↓reduceIte, Nat.reduceEqDiff, Nat.reduceLT, Nat.reduceLeDiff, Nat.reduceAdd, Nat.reduceMul, Nat.reduceMod, Nat.reduceSub, Nat.reduceBEq, Int.reduceLE, Int.reduceLT, Int.reduceEq, Int.reduceSub, Int.reduceAdd, Int.reduceToNat, Int.reduceNeg, e1, e2, e3.1, e3.2, c4, e5, e6, e7, e8.1, e8.2, c9, e10, e11, e12, c13, e14, e15, c16, c17, e18f, e19f, c20, c21, c22, e23, e24, c25, e26, e27f, e28f, c29, c30, e31f] <;> (repeat' apply And.intro) <;> first | rfl | exact ⟨_, rfl⟩ | simp [lst, cat2_nil]
     ·rw [if_neg e26] at h
      have e26f : (sameP r22_.1 r22_.2.1 r22_.2.2.1 r22_.2.2.2.1 r17_.1 r17_.2.1 r17_.2.2.1 r17_.2.2.2.1) = false := Bool.eq_false_iff.mpr e26
      obtain rfl := Option.some.inj h
      simp (maxDischargeDepth := 9) only [↓xpre, xpost, xlst, xc2, xcore, yset, rg0, ↓reduceIte, Nat.reduceEqDiff, Nat.reduceLT, Nat.reduceLeDiff, Nat.reduceAdd, Nat.reduceMul, Nat.reduceMod, Nat.reduceSub, Nat.reduceBEq, Int.reduceLE, Int.reduceLT, Int.reduceEq, Int.reduceSub, Int.reduceAdd, Int.reduceToNat, Int.reduceNeg, e1, e2, e3.1, e3.2, c4, e5, e6, e7, e8.1, e8.2, c9, e10, e11, e12, c13, e14, e15, c16, c17, e18f, e19f, c20, c21, c22, e23, e24, c25, e26f] <;> (repeat' apply And.intro) <;> first | rfl | exact ⟨_, rfl⟩ | simp [lst, cat2_nil]


end Go.Proofs.Ytdjfaadpmbkcmaa
