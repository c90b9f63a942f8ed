/- Problems with other labels: the law, lifted. Conditions: none. -/
import Derived.Test.YtdjfaadpmbkcmaaL6
import Derived.Test.YtdjfaadpmbkcmaaKmA
import Derived.Test.YtdjfaadpmbkcmaaPB
namespace Go.Proofs.Ytdjfaadpmbkcmaa
open Go Dv
set_option linter.unusedSimpArgs false
set_option linter.unusedVariables false
set_option maxRecDepth 100000
set_option maxHeartbeats 4000000

noncomputable def l_FnExactRenameLabels (t0_Labels : Int) (t0_Degree : Int) (t0_Nodes : List (List Int)) (t0_Edges : List (List Int)) (t1_ : List Int) : Option (Bool) :=
 if 1048576 < (t1_.length : Int) then
  some true
 else
  ck (Wide t0_Nodes) <|
  ck (Wide t0_Edges) <|
  ck (0 ≤ (1048576 : Int) ∧ (1048576 : Int) ≤ 1048576) <|
  if (szP (1048576 : Int) t0_Nodes t0_Edges) < 0 then
   some true
  else
   ck (Short t0_Nodes) <|
   ck (Short t0_Edges) <|
   ck (t1_.length < 1099511627776) <|
   (s_RenameLabels t0_Labels t0_Degree t0_Nodes t0_Edges t1_).bind fun r12_ =>
   match r12_ with
   | .inl q12_ =>
    if (!q12_.2.2.1.isEmpty) = true then
     (i_RenameLabels t0_Labels t0_Degree t0_Nodes t0_Edges t1_).bind fun r16_ =>
     ck (Short r16_.2.2.1) <|
     ck (Short r16_.2.2.2.1) <|
     if (sameP r16_.1 r16_.2.1 r16_.2.2.1 r16_.2.2.2.1 q12_.1 q12_.2.1 q12_.2.2.1 q12_.2.2.2.1) = true then
      if r16_.2.2.2.2 = true then
       if q12_.2.2.2.2 = true then
        if (sameP t0_Labels t0_Degree t0_Nodes t0_Edges t0_Labels t0_Degree t0_Nodes t0_Edges) = true then
         if (decide (t1_ = t1_)) = true then
          ck (0 ≤ (1 : Int) ∧ (1 : Int) + tot t0_Nodes + tot t0_Edges < 1099511627776) <|
          ck (0 ≤ ((1 : Int) + tot t0_Nodes + tot t0_Edges) ∧ ((1 : Int) + tot t0_Nodes + tot t0_Edges) < 1099511627776) <|
          if (((1 : Int) + tot t0_Nodes + tot t0_Edges) + t1_.length) < 0 then
           some false
          else
           ck (0 ≤ (1 : Int) ∧ (1 : Int) + tot r16_.2.2.1 + tot r16_.2.2.2.1 < 1099511627776) <|
           (l_heldProblem r16_.1 r16_.2.1 (marks (1 : Int) r16_.2.2.1) (marks ((1 : Int) + tot r16_.2.2.1) r16_.2.2.2.1) (1 : Int)).bind fun r37_ =>
           if r37_ < 0 then
            some false
           else
            if r37_ = ((1 : Int) + tot r16_.2.2.1 + tot r16_.2.2.2.1) then
             some true
            else
             some false
         else
          some false
        else
         some false
       else
        some false
      else
       if q12_.2.2.2.2 = true then
        some false
       else
        if (sameP t0_Labels t0_Degree t0_Nodes t0_Edges t0_Labels t0_Degree t0_Nodes t0_Edges) = true then
         if (decide (t1_ = t1_)) = true then
          ck (0 ≤ (1 : Int) ∧ (1 : Int) + tot t0_Nodes + tot t0_Edges < 1099511627776) <|
          ck (0 ≤ ((1 : Int) + tot t0_Nodes + tot t0_Edges) ∧ ((1 : Int) + tot t0_Nodes + tot t0_Edges) < 1099511627776) <|
          if (((1 : Int) + tot t0_Nodes + tot t0_Edges) + t1_.length) < 0 then
           some false
          else
           ck (0 ≤ (1 : Int) ∧ (1 : Int) + tot r16_.2.2.1 + tot r16_.2.2.2.1 < 1099511627776) <|
           (l_heldProblem r16_.1 r16_.2.1 (marks (1 : Int) r16_.2.2.1) (marks ((1 : Int) + tot r16_.2.2.1) r16_.2.2.2.1) (1 : Int)).bind fun r37_ =>
           if r37_ < 0 then
            some false
           else
            if r37_ = ((1 : Int) + tot r16_.2.2.1 + tot r16_.2.2.2.1) then
             some true
            else
             some false
         else
          some false
        else
         some false
     else
      some false
    else
     (i_RenameLabels t0_Labels t0_Degree t0_Nodes t0_Edges t1_).bind fun r17_ =>
     ck (Short r17_.2.2.1) <|
     ck (Short r17_.2.2.2.1) <|
     if (sameP r17_.1 r17_.2.1 r17_.2.2.1 r17_.2.2.2.1 q12_.1 q12_.2.1 q12_.2.2.1 q12_.2.2.2.1) = true then
      if r17_.2.2.2.2 = true then
       if q12_.2.2.2.2 = true then
        if (sameP t0_Labels t0_Degree t0_Nodes t0_Edges t0_Labels t0_Degree t0_Nodes t0_Edges) = true then
         if (decide (t1_ = t1_)) = true then
          ck (0 ≤ (1 : Int) ∧ (1 : Int) + tot t0_Nodes + tot t0_Edges < 1099511627776) <|
          ck (0 ≤ ((1 : Int) + tot t0_Nodes + tot t0_Edges) ∧ ((1 : Int) + tot t0_Nodes + tot t0_Edges) < 1099511627776) <|
          if (((1 : Int) + tot t0_Nodes + tot t0_Edges) + t1_.length) < 0 then
           some false
          else
           ck (0 ≤ (1 : Int) ∧ (1 : Int) + tot r17_.2.2.1 + tot r17_.2.2.2.1 < 1099511627776) <|
           (l_heldProblem r17_.1 r17_.2.1 (marks (1 : Int) r17_.2.2.1) (marks ((1 : Int) + tot r17_.2.2.1) r17_.2.2.2.1) (1 : Int)).bind fun r38_ =>
           if r38_ < 0 then
            some false
           else
            if r38_ = ((1 : Int) + tot r17_.2.2.1 + tot r17_.2.2.2.1) then
             some true
            else
             some false
         else
          some false
        else
         some false
       else
        some false
      else
       if q12_.2.2.2.2 = true then
        some false
       else
        if (sameP t0_Labels t0_Degree t0_Nodes t0_Edges t0_Labels t0_Degree t0_Nodes t0_Edges) = true then
         if (decide (t1_ = t1_)) = true then
          ck (0 ≤ (1 : Int) ∧ (1 : Int) + tot t0_Nodes + tot t0_Edges < 1099511627776) <|
          ck (0 ≤ ((1 : Int) + tot t0_Nodes + tot t0_Edges) ∧ ((1 : Int) + tot t0_Nodes + tot t0_Edges) < 1099511627776) <|
          if (((1 : Int) + tot t0_Nodes + tot t0_Edges) + t1_.length) < 0 then
           some false
          else
           ck (0 ≤ (1 : Int) ∧ (1 : Int) + tot r17_.2.2.1 + tot r17_.2.2.2.1 < 1099511627776) <|
           (l_heldProblem r17_.1 r17_.2.1 (marks (1 : Int) r17_.2.2.1) (marks ((1 : Int) + tot r17_.2.2.1) r17_.2.2.2.1) (1 : Int)).bind fun r38_ =>
           if r38_ < 0 then
            some false
           else
            if r38_ = ((1 : Int) + tot r17_.2.2.1 + tot r17_.2.2.2.1) then
             some true
            else
             some false
         else
          some false
        else
         some false
     else
      some false
   | .inr q12_ =>
    (i_RenameLabels t0_Labels t0_Degree t0_Nodes t0_Edges t1_).bind fun r24_ =>
    ck (Short r24_.2.2.1) <|
    ck (Short r24_.2.2.2.1) <|
    if (sameP r24_.1 r24_.2.1 r24_.2.2.1 r24_.2.2.2.1 q12_.1 q12_.2.1 q12_.2.2.1 q12_.2.2.2.1) = true then
     if r24_.2.2.2.2 = true then
      if q12_.2.2.2.2 = true then
       if (sameP t0_Labels t0_Degree t0_Nodes t0_Edges t0_Labels t0_Degree t0_Nodes t0_Edges) = true then
        if (decide (t1_ = t1_)) = true then
         ck (0 ≤ (1 : Int) ∧ (1 : Int) + tot t0_Nodes + tot t0_Edges < 1099511627776) <|
         ck (0 ≤ ((1 : Int) + tot t0_Nodes + tot t0_Edges) ∧ ((1 : Int) + tot t0_Nodes + tot t0_Edges) < 1099511627776) <|
         if (((1 : Int) + tot t0_Nodes + tot t0_Edges) + t1_.length) < 0 then
          some false
         else
          ck (0 ≤ (1 : Int) ∧ (1 : Int) + tot r24_.2.2.1 + tot r24_.2.2.2.1 < 1099511627776) <|
          (l_heldProblem r24_.1 r24_.2.1 (marks (1 : Int) r24_.2.2.1) (marks ((1 : Int) + tot r24_.2.2.1) r24_.2.2.2.1) (1 : Int)).bind fun r45_ =>
          if r45_ < 0 then
           some false
          else
           if r45_ = ((1 : Int) + tot r24_.2.2.1 + tot r24_.2.2.2.1) then
            some true
           else
            some false
        else
         some false
       else
        some false
      else
       some false
     else
      if q12_.2.2.2.2 = true then
       some false
      else
       if (sameP t0_Labels t0_Degree t0_Nodes t0_Edges t0_Labels t0_Degree t0_Nodes t0_Edges) = true then
        if (decide (t1_ = t1_)) = true then
         ck (0 ≤ (1 : Int) ∧ (1 : Int) + tot t0_Nodes + tot t0_Edges < 1099511627776) <|
         ck (0 ≤ ((1 : Int) + tot t0_Nodes + tot t0_Edges) ∧ ((1 : Int) + tot t0_Nodes + tot t0_Edges) < 1099511627776) <|
         if (((1 : Int) + tot t0_Nodes + tot t0_Edges) + t1_.length) < 0 then
          some false
         else
          ck (0 ≤ (1 : Int) ∧ (1 : Int) + tot r24_.2.2.1 + tot r24_.2.2.2.1 < 1099511627776) <|
          (l_heldProblem r24_.1 r24_.2.1 (marks (1 : Int) r24_.2.2.1) (marks ((1 : Int) + tot r24_.2.2.1) r24_.2.2.2.1) (1 : Int)).bind fun r45_ =>
          if r45_ < 0 then
           some false
          else
           if r45_ = ((1 : Int) + tot r24_.2.2.1 + tot r24_.2.2.2.1) then
            some true
           else
            some false
        else
         some false
       else
        some false
    else
     some false
/-- laws.FnExactRenameLabels -/
def k4 : SC :=
 .seq
 (.ops [
 ⟨(some 2), (.box 24 (.tmp 0)), 0, none⟩,
 ⟨(some 4), (.assign (.const (.bool false))), 4, none⟩])
 (.seq
 (.seq
 (.ops [
 ⟨(some 17), (.move (.tmp 1)), 33, none⟩,
 ⟨(some 18), (.call ⟨(.builtin .len), #[(.tmp 17)], #[33]⟩), 3, none⟩,
 ⟨(some 19), (.binOp .gtr 3 (.tmp 18) (.const (.int .i64 1048576)) 3), 4, none⟩])
 (.cond (.tmp 19)
 (.seq
 (.ops [
 ⟨(some 4), (.assign (.const (.bool true))), 4, none⟩])
 .ret)
 .skip))
 (.seq
 (.ops [
 ⟨(some 5), (.assign (.const (.int .i64 1048576))), 3, none⟩])
 (.seq
 (.ops [
 ⟨(some 20), (.load 24 (.tmp 2)), 24, none⟩,
 ⟨(some 21), (.move (.tmp 5)), 3, none⟩,
 ⟨(some 22), (.call ⟨(.value (.func 8)), #[(.tmp 20), (.tmp 21)], #[24, 3]⟩), 3, none⟩,
 ⟨(some 5), (.assign (.tmp 22)), 3, none⟩])
 (.seq
 (.seq
 (.ops [
 ⟨(some 23), (.move (.tmp 5)), 3, none⟩,
 ⟨(some 24), (.binOp .lss 3 (.tmp 23) (.const (.int .i64 0)) 3), 4, none⟩])
 (.cond (.tmp 24)
 (.seq
 (.ops [
 ⟨(some 4), (.assign (.const (.bool true))), 4, none⟩])
 .ret)
 .skip))
 (.seq
 (.ops [
 ⟨(some 26), (.load 24 (.tmp 2)), 24, none⟩,
 ⟨(some 27), (.call ⟨(.value (.func 10)), #[(.tmp 26)], #[24]⟩), 26, none⟩,
 ⟨(some 28), (.move (.tmp 1)), 33, none⟩,
 ⟨(some 29), (.call ⟨(.value (.func 16)), #[(.tmp 28)], #[33]⟩), 33, none⟩,
 ⟨(some 30), (.call ⟨(.value (.func 15)), #[(.tmp 27), (.tmp 29)], #[26, 33]⟩), 27, none⟩,
 ⟨(some 25), (.move (.tmp 30)), 27, none⟩,
 ⟨(some 31), (.extract (.tmp 25) 0), 26, none⟩,
 ⟨(some 32), (.extract (.tmp 25) 1), 4, none⟩,
 ⟨(some 6), (.alloc 26), 0, none⟩,
 ⟨none, (.store 26 (.tmp 6) (.tmp 31)), 0, none⟩,
 ⟨(some 7), (.assign (.tmp 32)), 4, none⟩])
 (.seq
 (.ops [
 ⟨(some 33), (.load 24 (.tmp 2)), 24, none⟩,
 ⟨(some 34), (.call ⟨(.value (.func 10)), #[(.tmp 33)], #[24]⟩), 26, none⟩,
 ⟨(some 8), (.alloc 26), 0, none⟩,
 ⟨none, (.store 26 (.tmp 8) (.tmp 34)), 0, none⟩])
 (.seq
 (.ops [
 ⟨(some 35), (.move (.tmp 1)), 33, none⟩,
 ⟨(some 36), (.call ⟨(.value (.func 16)), #[(.tmp 35)], #[33]⟩), 33, none⟩,
 ⟨(some 9), (.assign (.tmp 36)), 33, none⟩])
 (.seq
 (.ops [
 ⟨(some 38), (.load 26 (.tmp 8)), 26, none⟩,
 ⟨(some 39), (.move (.tmp 9)), 33, none⟩,
 ⟨(some 40), (.call ⟨(.value (.func 17)), #[(.tmp 38), (.tmp 39)], #[26, 33]⟩), 27, none⟩,
 ⟨(some 37), (.move (.tmp 40)), 27, none⟩,
 ⟨(some 41), (.extract (.tmp 37) 0), 26, none⟩,
 ⟨(some 42), (.extract (.tmp 37) 1), 4, none⟩,
 ⟨(some 10), (.alloc 26), 0, none⟩,
 ⟨none, (.store 26 (.tmp 10) (.tmp 41)), 0, none⟩,
 ⟨(some 11), (.assign (.tmp 42)), 4, none⟩])
 (.seq
 (.seq
 (.ops [
 ⟨(some 43), (.load 26 (.tmp 10)), 26, none⟩,
 ⟨(some 44), (.load 26 (.tmp 6)), 26, none⟩,
 ⟨(some 45), (.call ⟨(.value (.func 12)), #[(.tmp 43), (.tmp 44)], #[26, 26]⟩), 4, none⟩,
 ⟨(some 46), (.unOp .not 4 (.tmp 45)), 4, none⟩,
 ⟨(some 47), (.move (.tmp 46)), 4, none⟩,
 ⟨(some 48), (.move (.tmp 11)), 4, (some (some 47, false))⟩,
 ⟨(some 49), (.move (.tmp 7)), 4, (some (some 47, false))⟩,
 ⟨(some 50), (.binOp .neq 4 (.tmp 48) (.tmp 49) 4), 4, (some (some 47, false))⟩,
 ⟨(some 51), (.pick (.tmp 47) (.const (.bool true)) (.tmp 50)), 4, none⟩])
 (.cond (.tmp 51)
 (.seq
 (.ops [
 ⟨(some 4), (.assign (.const (.bool false))), 4, none⟩])
 .ret)
 .skip))
 (.seq
 (.seq
 (.draws [
 (⟨[52, 8, 8], [52, 53, 54, 55, 56], [52]⟩, ⟨(some 52), (.load 26 (.tmp 8)), 26, none⟩),
 (⟨[53, 2, 2], [52, 53, 54, 55, 56], [53]⟩, ⟨(some 53), (.load 24 (.tmp 2)), 24, none⟩),
 (⟨[54, 53, 2], [52, 53, 54, 55, 56], [54]⟩, ⟨(some 54), (.call ⟨(.value (.func 10)), #[(.tmp 53)], #[24]⟩), 26, none⟩),
 (⟨[55, 52, 54, 8, 54], [52, 53, 54, 55, 56], [55]⟩, ⟨(some 55), (.call ⟨(.value (.func 12)), #[(.tmp 52), (.tmp 54)], #[26, 26]⟩), 4, none⟩),
 (⟨[56, 55, 55], [52, 53, 54, 55, 56], [56]⟩, ⟨(some 56), (.unOp .not 4 (.tmp 55)), 4, none⟩)])
 (.cond (.tmp 56)
 (.seq
 (.ops [
 ⟨(some 4), (.assign (.const (.bool false))), 4, none⟩])
 .ret)
 .skip))
 (.seq
 (.seq
 (.ops [
 ⟨(some 57), (.move (.tmp 9)), 33, none⟩,
 ⟨(some 58), (.move (.tmp 1)), 33, none⟩,
 ⟨(some 59), (.call ⟨(.value (.func 16)), #[(.tmp 58)], #[33]⟩), 33, none⟩,
 ⟨(some 60), (.call ⟨(.value (.func 18)), #[(.tmp 57), (.tmp 59)], #[33, 33]⟩), 4, none⟩,
 ⟨(some 61), (.unOp .not 4 (.tmp 60)), 4, none⟩])
 (.cond (.tmp 61)
 (.seq
 (.ops [
 ⟨(some 4), (.assign (.const (.bool false))), 4, none⟩])
 .ret)
 .skip))
 (.seq
 (.ops [
 ⟨(some 12), (.assign (.const (.int .i64 1))), 3, none⟩])
 (.seq
 (.ops [
 ⟨(some 62), (.load 26 (.tmp 8)), 26, none⟩,
 ⟨(some 63), (.move (.tmp 12)), 3, none⟩,
 ⟨(some 64), (.call ⟨(.value (.func 13)), #[(.tmp 62), (.tmp 63)], #[26, 3]⟩), 3, none⟩,
 ⟨(some 12), (.assign (.tmp 64)), 3, none⟩])
 (.seq
 (.ops [
 ⟨(some 65), (.move (.tmp 9)), 33, none⟩,
 ⟨(some 66), (.move (.tmp 12)), 3, none⟩,
 ⟨(some 67), (.call ⟨(.value (.func 19)), #[(.tmp 65), (.tmp 66)], #[33, 3]⟩), 3, none⟩,
 ⟨(some 12), (.assign (.tmp 67)), 3, none⟩])
 (.seq
 (.seq
 (.ops [
 ⟨(some 68), (.move (.tmp 12)), 3, none⟩,
 ⟨(some 69), (.binOp .lss 3 (.tmp 68) (.const (.int .i64 0)) 3), 4, none⟩,
 ⟨(some 70), (.move (.tmp 69)), 4, none⟩,
 ⟨(some 71), (.load 26 (.tmp 10)), 26, (some (some 70, false))⟩,
 ⟨(some 72), (.load 26 (.tmp 6)), 26, (some (some 70, false))⟩,
 ⟨(some 73), (.call ⟨(.value (.func 12)), #[(.tmp 71), (.tmp 72)], #[26, 26]⟩), 4, (some (some 70, false))⟩,
 ⟨(some 74), (.unOp .not 4 (.tmp 73)), 4, (some (some 70, false))⟩,
 ⟨(some 75), (.pick (.tmp 70) (.const (.bool true)) (.tmp 74)), 4, none⟩,
 ⟨(some 76), (.move (.tmp 75)), 4, none⟩,
 ⟨(some 77), (.move (.tmp 11)), 4, (some (some 76, false))⟩,
 ⟨(some 78), (.move (.tmp 7)), 4, (some (some 76, false))⟩,
 ⟨(some 79), (.binOp .neq 4 (.tmp 77) (.tmp 78) 4), 4, (some (some 76, false))⟩,
 ⟨(some 80), (.pick (.tmp 76) (.const (.bool true)) (.tmp 79)), 4, none⟩])
 (.cond (.tmp 80)
 (.seq
 (.ops [
 ⟨(some 4), (.assign (.const (.bool false))), 4, none⟩])
 .ret)
 .skip))
 (.seq
 (.ops [
 ⟨(some 13), (.assign (.const (.int .i64 1))), 3, none⟩])
 (.seq
 (.ops [
 ⟨(some 81), (.load 26 (.tmp 10)), 26, none⟩,
 ⟨(some 82), (.move (.tmp 13)), 3, none⟩,
 ⟨(some 83), (.call ⟨(.value (.func 13)), #[(.tmp 81), (.tmp 82)], #[26, 3]⟩), 3, none⟩,
 ⟨(some 13), (.assign (.tmp 83)), 3, none⟩])
 (.seq
 (.ops [
 ⟨(some 14), (.assign (.const (.int .i64 1))), 3, none⟩])
 (.seq
 (.ops [
 ⟨(some 84), (.load 26 (.tmp 10)), 26, none⟩,
 ⟨(some 85), (.move (.tmp 14)), 3, none⟩,
 ⟨(some 86), (.call ⟨(.value (.func 14)), #[(.tmp 84), (.tmp 85)], #[26, 3]⟩), 3, none⟩,
 ⟨(some 14), (.assign (.tmp 86)), 3, none⟩])
 (.seq
 (.seq
 (.ops [
 ⟨(some 87), (.move (.tmp 14)), 3, none⟩,
 ⟨(some 88), (.binOp .lss 3 (.tmp 87) (.const (.int .i64 0)) 3), 4, none⟩])
 (.cond (.tmp 88)
 (.seq
 (.ops [
 ⟨(some 4), (.assign (.const (.bool false))), 4, none⟩])
 .ret)
 .skip))
 (.seq
 (.seq
 (.ops [
 ⟨(some 89), (.move (.tmp 14)), 3, none⟩,
 ⟨(some 90), (.move (.tmp 13)), 3, none⟩,
 ⟨(some 91), (.binOp .neq 3 (.tmp 89) (.tmp 90) 3), 4, none⟩])
 (.cond (.tmp 91)
 (.seq
 (.ops [
 ⟨(some 4), (.assign (.const (.bool false))), 4, none⟩])
 .ret)
 .skip))
 (.seq
 (.ops [
 ⟨(some 93), (.load 24 (.tmp 2)), 24, none⟩,
 ⟨(some 94), (.call ⟨(.value (.func 10)), #[(.tmp 93)], #[24]⟩), 26, none⟩,
 ⟨(some 95), (.move (.tmp 1)), 33, none⟩,
 ⟨(some 96), (.call ⟨(.value (.func 16)), #[(.tmp 95)], #[33]⟩), 33, none⟩,
 ⟨(some 97), (.call ⟨(.value (.func 17)), #[(.tmp 94), (.tmp 96)], #[26, 33]⟩), 27, none⟩,
 ⟨(some 92), (.move (.tmp 97)), 27, none⟩,
 ⟨(some 98), (.extract (.tmp 92) 0), 26, none⟩,
 ⟨(some 99), (.extract (.tmp 92) 1), 4, none⟩,
 ⟨(some 15), (.alloc 26), 0, none⟩,
 ⟨none, (.store 26 (.tmp 15) (.tmp 98)), 0, none⟩,
 ⟨(some 16), (.assign (.tmp 99)), 4, none⟩])
 (.seq
 (.seq
 (.ops [
 ⟨(some 100), (.load 26 (.tmp 15)), 26, none⟩,
 ⟨(some 101), (.load 26 (.tmp 6)), 26, none⟩,
 ⟨(some 102), (.call ⟨(.value (.func 12)), #[(.tmp 100), (.tmp 101)], #[26, 26]⟩), 4, none⟩,
 ⟨(some 103), (.unOp .not 4 (.tmp 102)), 4, none⟩,
 ⟨(some 104), (.move (.tmp 103)), 4, none⟩,
 ⟨(some 105), (.move (.tmp 16)), 4, (some (some 104, false))⟩,
 ⟨(some 106), (.move (.tmp 7)), 4, (some (some 104, false))⟩,
 ⟨(some 107), (.binOp .neq 4 (.tmp 105) (.tmp 106) 4), 4, (some (some 104, false))⟩,
 ⟨(some 108), (.pick (.tmp 104) (.const (.bool true)) (.tmp 107)), 4, none⟩])
 (.cond (.tmp 108)
 (.seq
 (.ops [
 ⟨(some 4), (.assign (.const (.bool false))), 4, none⟩])
 .ret)
 .skip))
 (.seq
 (.ops [
 ⟨(some 14), (.assign (.const (.int .i64 1))), 3, none⟩])
 (.seq
 (.ops [
 ⟨(some 109), (.load 26 (.tmp 10)), 26, none⟩,
 ⟨(some 110), (.move (.tmp 14)), 3, none⟩,
 ⟨(some 111), (.call ⟨(.value (.func 14)), #[(.tmp 109), (.tmp 110)], #[26, 3]⟩), 3, none⟩,
 ⟨(some 14), (.assign (.tmp 111)), 3, none⟩])
 (.seq
 (.seq
 (.ops [
 ⟨(some 112), (.move (.tmp 14)), 3, none⟩,
 ⟨(some 113), (.binOp .lss 3 (.tmp 112) (.const (.int .i64 0)) 3), 4, none⟩])
 (.cond (.tmp 113)
 (.seq
 (.ops [
 ⟨(some 4), (.assign (.const (.bool false))), 4, none⟩])
 .ret)
 .skip))
 (.seq
 (.seq
 (.ops [
 ⟨(some 114), (.move (.tmp 14)), 3, none⟩,
 ⟨(some 115), (.move (.tmp 13)), 3, none⟩,
 ⟨(some 116), (.binOp .neq 3 (.tmp 114) (.tmp 115) 3), 4, none⟩])
 (.cond (.tmp 116)
 (.seq
 (.ops [
 ⟨(some 4), (.assign (.const (.bool false))), 4, none⟩])
 .ret)
 .skip))
 (.seq
 (.ops [
 ⟨(some 4), (.assign (.const (.bool true))), 4, none⟩])
 .ret))))))))))))))))))))))))))))
theorem slim4 : Try.f4.body.map (slim lends) = some k4 := by kernel_rfl
theorem ok4 : fnOk Try.f4 2 = true := by kernel_rfl
theorem c4 {a l : List D} {r : D × List D} (h : wpD Y.env k4 (fin tys l.length [ResultVar.tmp 4] r) (entry a l)) (ha : a.length = 2) : Y.call 4 a l = some r :=
 call_slim (Y := Y) rfl Try.func4 (ha ▸ ok4) slim4 h
theorem l_FnExactRenameLabels_call (t0_Labels : Int) (t0_Degree : Int) (t0_Nodes : List (List Int)) (t0_Edges : List (List Int)) (t1_ : List Int) {r : Bool} (h : l_FnExactRenameLabels t0_Labels t0_Degree t0_Nodes t0_Edges t1_ = some r) : Y.call 4 [D.agg [D.int .i64 t0_Labels, D.int .i64 t0_Degree, D.sl 33 (lst (fun x => D.sl 3 (lst (D.int .i64) x)) t0_Nodes), D.sl 33 (lst (fun x => D.sl 3 (lst (D.int .i64) x)) t0_Edges)], D.sl 3 (lst (D.int .i64) t1_)] [] = some (D.bool r, []) := by
 refine c4 ?_ rfl
 unfold k4
 unfold l_FnExactRenameLabels at h
 by_cases e1 : 1048576 < (t1_.length : Int)
 ·rw [if_pos e1] at h
  obtain rfl := Option.some.inj h
  simp (maxDischargeDepth := 9) only [↓xpre, xpost, xlst, xc2, xcore, yset, rg0, ↓reduceIte, Nat.reduceEqDiff, Nat.reduceLT, Nat.reduceLeDiff, Nat.reduceAdd, Nat.reduceMul, Nat.reduceMod, Nat.reduceSub, Nat.reduceBEq, Int.reduceLE, Int.reduceLT, Int.reduceEq, Int.reduceSub, Int.reduceAdd, Int.reduceToNat, Int.reduceNeg, e1] <;> (repeat' apply And.intro) <;> first | rfl | exact ⟨_, rfl⟩ | simp [lst, cat2_nil]
 ·rw [if_neg e1] at h
  obtain ⟨e2, h⟩ := ckS h
  obtain ⟨e3, h⟩ := ckS h
  obtain ⟨e4, h⟩ := ckS h
  have c5 := l_szProblem_cl t0_Labels t0_Degree t0_Nodes t0_Edges (1048576 : Int) e2 e3 e4
  by_cases e6 : (szP (1048576 : Int) t0_Nodes t0_Edges) < 0
  ·rw [if_pos e6] at h
   obtain rfl := Option.some.inj h
   simp (maxDischargeDepth := 9) only [↓xpre, xpost, xlst, xc2, xcore, yset, rg0, ↓reduceIte, Nat.reduceEqDiff, Nat.reduceLT, Nat.reduceLeDiff, Nat.reduceAdd, Nat.reduceMul, Nat.reduceMod, Nat.reduceSub, Nat.reduceBEq, Int.reduceLE, Int.reduceLT, Int.reduceEq, Int.reduceSub, Int.reduceAdd, Int.reduceToNat, Int.reduceNeg, e1, e2, e3, e4.1, e4.2, c5, e6] <;> (repeat' apply And.intro) <;> first | rfl | exact ⟨_, rfl⟩ | simp [lst, cat2_nil]
  ·rw [if_neg e6] at h
   obtain ⟨e7, h⟩ := ckS h
   obtain ⟨e8, h⟩ := ckS h
   have c9 := l_toProblem_cl t0_Labels t0_Degree t0_Nodes t0_Edges e7 e8
   obtain ⟨e10, h⟩ := ckS h
   have c11 := l_toIntS_cl t1_ e10
   obtain ⟨r12_, hl12, h⟩ := bindS h
   try dsimp only at h
   have c12 := s_RenameLabels_call t0_Labels t0_Degree t0_Nodes t0_Edges t1_ hl12
   rcases r12_ with q12_ | q12_
   ·dsimp only at h c12
    by_cases e13 : (!q12_.2.2.1.isEmpty) = true
    ·rw [if_pos e13] at h
     have c14 := l_toProblem_cl t0_Labels t0_Degree t0_Nodes t0_Edges e7 e8
     have c15 := l_toIntS_cl t1_ e10
     obtain ⟨r16_, hl16, h⟩ := bindS h
     try dsimp only at h
     have c16 := i_RenameLabels_call t0_Labels t0_Degree t0_Nodes t0_Edges t1_ hl16
     obtain ⟨e17, h⟩ := ckS h
     obtain ⟨e18, h⟩ := ckS h
     have c19 := l_eqProblem_cl r16_.1 r16_.2.1 r16_.2.2.1 r16_.2.2.2.1 q12_.1 q12_.2.1 q12_.2.2.1 q12_.2.2.2.1 e17 e18
     by_cases e20 : (sameP r16_.1 r16_.2.1 r16_.2.2.1 r16_.2.2.2.1 q12_.1 q12_.2.1 q12_.2.2.1 q12_.2.2.2.1) = true
     ·rw [if_pos e20] at h
      by_cases e21 : r16_.2.2.2.2 = true
      ·rw [if_pos e21] at h
       by_cases e22 : q12_.2.2.2.2 = true
       ·rw [if_pos e22] at h
        have c23 := l_toProblem_cl t0_Labels t0_Degree t0_Nodes t0_Edges e7 e8
        have c24 := l_eqProblem_cl t0_Labels t0_Degree t0_Nodes t0_Edges t0_Labels t0_Degree t0_Nodes t0_Edges e7 e8
        by_cases e25 : (sameP t0_Labels t0_Degree t0_Nodes t0_Edges t0_Labels t0_Degree t0_Nodes t0_Edges) = true
        ·rw [if_pos e25] at h
         have c26 := l_toIntS_cl t1_ e10
         have c27 := l_eqIntS_cl t1_ t1_ e10
         by_cases e28 : (decide (t1_ = t1_)) = true
         ·rw [if_pos e28] at h
          obtain ⟨e29, h⟩ := ckS h
          have c30 := l_markProblem_cl t0_Labels t0_Degree t0_Nodes t0_Edges (1 : Int) e7 e8 e29
          obtain ⟨e31, h⟩ := ckS h
          have c32 := l_markIntS_cl t1_ ((1 : Int) + tot t0_Nodes + tot t0_Edges) e10 e31
          by_cases e33 : (((1 : Int) + tot t0_Nodes + tot t0_Edges) + t1_.length) < 0
          ·rw [if_pos e33] at h
           obtain rfl := Option.some.inj h
           simp (maxDischargeDepth := 9) only [↓xpre, xpost, xlst, xc2, xcore, yset, rg0, ↓reduceIte, Nat.reduceEqDiff, Nat.reduceLT, Nat.reduceLeDiff, Nat.reduceAdd, Nat.reduceMul, Nat.reduceMod, Nat.reduceSub, Nat.reduceBEq, Int.reduceLE, Int.reduceLT, Int.reduceEq, Int.reduceSub, Int.reduceAdd, Int.reduceToNat, Int.reduceNeg, e1, e2, e3, e4.1, e4.2, c5, e6, e7, e8, c9, e10, c11, c12, e13, c14, c15, c16, e17, e18, c19, e20, e21, e22, c23, c24, e25, c26, c27, e28, e29.1, e29.2, c30, e31.1, e31.2, c32, e33] <;> (repeat' apply And.intro) <;> first | rfl | exact ⟨_, rfl⟩ | simp [lst, cat2_nil]
          ·rw [if_neg e33] at h
           have c34 := l_eqProblem_cl r16_.1 r16_.2.1 r16_.2.2.1 r16_.2.2.2.1 q12_.1 q12_.2.1 q12_.2.2.1 q12_.2.2.2.1 e17 e18
           obtain ⟨e35, h⟩ := ckS h
           have c36 := l_markProblem_cl r16_.1 r16_.2.1 r16_.2.2.1 r16_.2.2.2.1 (1 : Int) e17 e18 e35
           obtain ⟨r37_, hl37, h⟩ := bindS h
           try dsimp only at h
           have c37 := l_heldProblem_call r16_.1 r16_.2.1 (marks (1 : Int) r16_.2.2.1) (marks ((1 : Int) + tot r16_.2.2.1) r16_.2.2.2.1) (1 : Int) hl37
           by_cases e38 : r37_ < 0
           ·rw [if_pos e38] at h
            obtain rfl := Option.some.inj h
            simp (maxDischargeDepth := 9) only [↓xpre, xpost, xlst, xc2, xcore, yset, rg0, ↓reduceIte, Nat.reduceEqDiff, Nat.reduceLT, Nat.reduceLeDiff, Nat.reduceAdd, Nat.reduceMul, Nat.reduceMod, Nat.reduceSub, Nat.reduceBEq, Int.reduceLE, Int.reduceLT, Int.reduceEq, Int.reduceSub, Int.reduceAdd, Int.reduceToNat, Int.reduceNeg, e1, e2, e3, e4.1, e4.2, c5, e6, e7, e8, c9, e10, c11, c12, e13, c14, c15, c16, e17, e18, c19, e20, e21, e22, c23, c24, e25, c26, c27, e28, e29.1, e29.2, c30, e31.1, e31.2, c32, e33, c34, e35.1, e35.2, c36, c37, e38] <;> (repeat' apply And.intro) <;> first | rfl | exact ⟨_, rfl⟩ | simp [lst, cat2_nil]
           ·rw [if_neg e38] at h
            by_cases e39 : r37_ = ((1 : Int) + tot r16_.2.2.1 + tot r16_.2.2.2.1)
            ·rw [if_pos e39] at h
             have c40 := l_toProblem_cl t0_Labels t0_Degree t0_Nodes t0_Edges e7 e8
             have c41 := l_toIntS_cl t1_ e10
             have c42 := l_eqProblem_cl r16_.1 r16_.2.1 r16_.2.2.1 r16_.2.2.2.1 q12_.1 q12_.2.1 q12_.2.2.1 q12_.2.2.2.1 e17 e18
             obtain rfl := Option.some.inj h
             simp (maxDischargeDepth := 9) only [↓xpre, xpost, xlst, xc2, xcore, yset, rg0, ↓reduceIte, Nat.reduceEqDiff, Nat.reduceLT, Nat.reduceLeDiff, Nat.reduceAdd, Nat.reduceMul, Nat.reduceMod, Nat.reduceSub, Nat.reduceBEq, Int.reduceLE, Int.reduceLT, Int.reduceEq, Int.reduceSub, Int.reduceAdd, Int.reduceToNat, Int.reduceNeg, e1, e2, e3, e4.1, e4.2, c5, e6, e7, e8, c9, e10, c11, c12, e13, c14, c15, c16, e17, e18, c19, e20, e21, e22, c23, c24, e25, c26, c27, e28, e29.1, e29.2, c30, e31.1, e31.2, c32, e33, c34, e35.1, e35.2, c36, c37, e38, decide_eq_true e39, c40, c41, c42] <;> (repeat' apply And.intro) <;> first | rfl | exact ⟨_, rfl⟩ | simp [lst, cat2_nil]
            ·rw [if_neg e39] at h
             obtain rfl := Option.some.inj h
             simp (maxDischargeDepth := 9) only [↓xpre, xpost, xlst, xc2, xcore, yset, rg0, ↓reduceIte, Nat.reduceEqDiff, Nat.reduceLT, Nat.reduceLeDiff, Nat.reduceAdd, Nat.reduceMul, Nat.reduceMod, Nat.reduceSub, Nat.reduceBEq, Int.reduceLE, Int.reduceLT, Int.reduceEq, Int.reduceSub, Int.reduceAdd, Int.reduceToNat, Int.reduceNeg, e1, e2, e3, e4.1, e4.2, c5, e6, e7, e8, c9, e10, c11, c12, e13, c14, c15, c16, e17, e18, c19, e20, e21, e22, c23, c24, e25, c26, c27, e28, e29.1, e29.2, c30, e31.1, e31.2, c32, e33, c34, e35.1, e35.2, c36, c37, e38, e39] <;> (repeat' apply And.intro) <;> first | rfl | exact ⟨_, rfl⟩ | simp [lst, cat2_nil]
         ·exact absurd (decide_eq_true rfl) e28
        ·rw [if_neg e25] at h
         have e25f : (sameP t0_Labels t0_Degree t0_Nodes t0_Edges t0_Labels t0_Degree t0_Nodes t0_Edges) = false := Bool.eq_false_iff.mpr e25
         obtain rfl := Option.some.inj h
         simp (maxDischargeDepth := 9) only [↓xpre, xpost, xlst, xc2, xcore, yset, rg0, ↓reduceIte, Nat.reduceEqDiff, Nat.reduceLT, Nat.reduceLeDiff, Nat.reduceAdd, Nat.reduceMul, Nat.reduceMod, Nat.reduceSub, Nat.reduceBEq, Int.reduceLE, Int.reduceLT, Int.reduceEq, Int.reduceSub, Int.reduceAdd, Int.reduceToNat, Int.reduceNeg, e1, e2, e3, e4.1, e4.2, c5, e6, e7, e8, c9, e10, c11, c12, e13, c14, c15, c16, e17, e18, c19, e20, e21, e22, c23, c24, e25f] <;> (repeat' apply And.intro) <;> first | rfl | exact ⟨_, rfl⟩ | simp [lst, cat2_nil]
       ·rw [if_neg e22] at h
        have e22f : q12_.2.2.2.2 = false := Bool.eq_false_iff.mpr e22
        obtain rfl := Option.some.inj h
        simp (maxDischargeDepth := 9) only [↓xpre, xpost, xlst, xc2, xcore, yset, rg0, ↓reduceIte, Nat.reduceEqDiff, Nat.reduceLT, Nat.reduceLeDiff, Nat.reduceAdd, Nat.reduceMul, Nat.reduceMod, Nat.reduceSub, Nat.reduceBEq, Int.reduceLE, Int.reduceLT, Int.reduceEq, Int.reduceSub, Int.reduceAdd, Int.reduceToNat, Int.reduceNeg, e1, e2, e3, e4.1, e4.2, c5, e6, e7, e8, c9, e10, c11, c12, e13, c14, c15, c16, e17, e18, c19, e20, e21, e22f] <;> (repeat' apply And.intro) <;> first | rfl | exact ⟨_, rfl⟩ | simp [lst, cat2_nil]
      ·rw [if_neg e21] at h
       have e21f : r16_.2.2.2.2 = false := Bool.eq_false_iff.mpr e21
       by_cases e22 : q12_.2.2.2.2 = true
       ·rw [if_pos e22] at h
        obtain rfl := Option.some.inj h
        simp (maxDischargeDepth := 9) only [↓xpre, xpost, xlst, xc2, xcore, yset, rg0, ↓reduceIte, Nat.reduceEqDiff, Nat.reduceLT, Nat.reduceLeDiff, Nat.reduceAdd, Nat.reduceMul, Nat.reduceMod, Nat.reduceSub, Nat.reduceBEq, Int.reduceLE, Int.reduceLT, Int.reduceEq, Int.reduceSub, Int.reduceAdd, Int.reduceToNat, Int.reduceNeg, e1, e2, e3, e4.1, e4.2, c5, e6, e7, e8, c9, e10, c11, c12, e13, c14, c15, c16, e17, e18, c19, e20, e21f, e22] <;> (repeat' apply And.intro) <;> first | rfl | exact ⟨_, rfl⟩ | simp [lst, cat2_nil]
       ·rw [if_neg e22] at h
        have e22f : q12_.2.2.2.2 = false := Bool.eq_false_iff.mpr e22
        have c23 := l_toProblem_cl t0_Labels t0_Degree t0_Nodes t0_Edges e7 e8
        have c24 := l_eqProblem_cl t0_Labels t0_Degree t0_Nodes t0_Edges t0_Labels t0_Degree t0_Nodes t0_Edges e7 e8
        by_cases e25 : (sameP t0_Labels t0_Degree t0_Nodes t0_Edges t0_Labels t0_Degree t0_Nodes t0_Edges) = true
        ·rw [if_pos e25] at h
         have c26 := l_toIntS_cl t1_ e10
         have c27 := l_eqIntS_cl t1_ t1_ e10
         by_cases e28 : (decide (t1_ = t1_)) = true
         ·rw [if_pos e28] at h
          obtain ⟨e29, h⟩ := ckS h
          have c30 := l_markProblem_cl t0_Labels t0_Degree t0_Nodes t0_Edges (1 : Int) e7 e8 e29
          obtain ⟨e31, h⟩ := ckS h
          have c32 := l_markIntS_cl t1_ ((1 : Int) + tot t0_Nodes + tot t0_Edges) e10 e31
          by_cases e33 : (((1 : Int) + tot t0_Nodes + tot t0_Edges) + t1_.length) < 0
          ·rw [if_pos e33] at h
           obtain rfl := Option.some.inj h
           simp (maxDischargeDepth := 9) only [↓xpre, xpost, xlst, xc2, xcore, yset, rg0, ↓reduceIte, Nat.reduceEqDiff, Nat.reduceLT, Nat.reduceLeDiff, Nat.reduceAdd, Nat.reduceMul, Nat.reduceMod, Nat.reduceSub, Nat.reduceBEq, Int.reduceLE, Int.reduceLT, Int.reduceEq, Int.reduceSub, Int.reduceAdd, Int.reduceToNat, Int.reduceNeg, e1, e2, e3, e4.1, e4.2, c5, e6, e7, e8, c9, e10, c11, c12, e13, c14, c15, c16, e17, e18, c19, e20, e21f, e22f, c23, c24, e25, c26, c27, e28, e29.1, e29.2, c30, e31.1, e31.2, c32, e33] <;> (repeat' apply And.intro) <;> first | rfl | exact ⟨_, rfl⟩ | simp [lst, cat2_nil]
          ·rw [if_neg e33] at h
           have c34 := l_eqProblem_cl r16_.1 r16_.2.1 r16_.2.2.1 r16_.2.2.2.1 q12_.1 q12_.2.1 q12_.2.2.1 q12_.2.2.2.1 e17 e18
           obtain ⟨e35, h⟩ := ckS h
           have c36 := l_markProblem_cl r16_.1 r16_.2.1 r16_.2.2.1 r16_.2.2.2.1 (1 : Int) e17 e18 e35
           obtain ⟨r37_, hl37, h⟩ := bindS h
           try dsimp only at h
           have c37 := l_heldProblem_call r16_.1 r16_.2.1 (marks (1 : Int) r16_.2.2.1) (marks ((1 : Int) + tot r16_.2.2.1) r16_.2.2.2.1) (1 : Int) hl37
           by_cases e38 : r37_ < 0
           ·rw [if_pos e38] at h
            obtain rfl := Option.some.inj h
            simp (maxDischargeDepth := 9) only [↓xpre, xpost, xlst, xc2, xcore, yset, rg0, ↓reduceIte, Nat.reduceEqDiff, Nat.reduceLT, Nat.reduceLeDiff, Nat.reduceAdd, Nat.reduceMul, Nat.reduceMod, Nat.reduceSub, Nat.reduceBEq, Int.reduceLE, Int.reduceLT, Int.reduceEq, Int.reduceSub, Int.reduceAdd, Int.reduceToNat, Int.reduceNeg, e1, e2, e3, e4.1, e4.2, c5, e6, e7, e8, c9, e10, c11, c12, e13, c14, c15, c16, e17, e18, c19, e20, e21f, e22f, c23, c24, e25, c26, c27, e28, e29.1, e29.2, c30, e31.1, e31.2, c32, e33, c34, e35.1, e35.2, c36, c37, e38] <;> (repeat' apply And.intro) <;> first | rfl | exact ⟨_, rfl⟩ | simp [lst, cat2_nil]
           ·rw [if_neg e38] at h
            by_cases e39 : r37_ = ((1 : Int) + tot r16_.2.2.1 + tot r16_.2.2.2.1)
            ·rw [if_pos e39] at h
             have c40 := l_toProblem_cl t0_Labels t0_Degree t0_Nodes t0_Edges e7 e8
             have c41 := l_toIntS_cl t1_ e10
             have c42 := l_eqProblem_cl r16_.1 r16_.2.1 r16_.2.2.1 r16_.2.2.2.1 q12_.1 q12_.2.1 q12_.2.2.1 q12_.2.2.2.1 e17 e18
             obtain rfl := Option.some.inj h
             simp (maxDischargeDepth := 9) only [↓xpre, xpost, xlst, xc2, xcore, yset, rg0, ↓reduceIte, Nat.reduceEqDiff, Nat.reduceLT, Nat.reduceLeDiff, Nat.reduceAdd, Nat.reduceMul, Nat.reduceMod, Nat.reduceSub, Nat.reduceBEq, Int.reduceLE, Int.reduceLT, Int.reduceEq, Int.reduceSub, Int.reduceAdd, Int.reduceToNat, Int.reduceNeg, e1, e2, e3, e4.1, e4.2, c5, e6, e7, e8, c9, e10, c11, c12, e13, c14, c15, c16, e17, e18, c19, e20, e21f, e22f, c23, c24, e25, c26, c27, e28, e29.1, e29.2, c30, e31.1, e31.2, c32, e33, c34, e35.1, e35.2, c36, c37, e38, decide_eq_true e39, c40, c41, c42] <;> (repeat' apply And.intro) <;> first | rfl | exact ⟨_, rfl⟩ | simp [lst, cat2_nil]
            ·rw [if_neg e39] at h
             obtain rfl := Option.some.inj h
             simp (maxDischargeDepth := 9) only [↓xpre, xpost, xlst, xc2, xcore, yset, rg0, ↓reduceIte, Nat.reduceEqDiff, Nat.reduceLT, Nat.reduceLeDiff, Nat.reduceAdd, Nat.reduceMul, Nat.reduceMod, Nat.reduceSub, Nat.reduceBEq, Int.reduceLE, Int.reduceLT, Int.reduceEq, Int.reduceSub, Int.reduceAdd, Int.reduceToNat, Int.reduceNeg, e1, e2, e3, e4.1, e4.2, c5, e6, e7, e8, c9, e10, c11, c12, e13, c14, c15, c16, e17, e18, c19, e20, e21f, e22f, c23, c24, e25, c26, c27, e28, e29.1, e29.2, c30, e31.1, e31.2, c32, e33, c34, e35.1, e35.2, c36, c37, e38, e39] <;> (repeat' apply And.intro) <;> first | rfl | exact ⟨_, rfl⟩ | simp [lst, cat2_nil]
         ·exact absurd (decide_eq_true rfl) e28
        ·rw [if_neg e25] at h
         have e25f : (sameP t0_Labels t0_Degree t0_Nodes t0_Edges t0_Labels t0_Degree t0_Nodes t0_Edges) = false := Bool.eq_false_iff.mpr e25
         obtain rfl := Option.some.inj h
         simp (maxDischargeDepth := 9) only [↓xpre, xpost, xlst, xc2, xcore, yset, rg0, ↓reduceIte, Nat.reduceEqDiff, Nat.reduceLT, Nat.reduceLeDiff, Nat.reduceAdd, Nat.reduceMul, Nat.reduceMod, Nat.reduceSub, Nat.reduceBEq, Int.reduceLE, Int.reduceLT, Int.reduceEq, Int.reduceSub, Int.reduceAdd, Int.reduceToNat, Int.reduceNeg, e1, e2, e3, e4.1, e4.2, c5, e6, e7, e8, c9, e10, c11, c12, e13, c14, c15, c16, e17, e18, c19, e20, e21f, e22f, c23, c24, e25f] <;> (repeat' apply And.intro) <;> first | rfl | exact ⟨_, rfl⟩ | simp [lst, cat2_nil]
     ·rw [if_neg e20] at h
      have e20f : (sameP r16_.1 r16_.2.1 r16_.2.2.1 r16_.2.2.2.1 q12_.1 q12_.2.1 q12_.2.2.1 q12_.2.2.2.1) = false := Bool.eq_false_iff.mpr e20
      obtain rfl := Option.some.inj h
      simp (maxDischargeDepth := 9) only [↓xpre, xpost, xlst, xc2, xcore, yset, rg0, ↓reduceIte, Nat.reduceEqDiff, Nat.reduceLT, Nat.reduceLeDiff, Nat.reduceAdd, Nat.reduceMul, Nat.reduceMod, Nat.reduceSub, Nat.reduceBEq, Int.reduceLE, Int.reduceLT, Int.reduceEq, Int.reduceSub, Int.reduceAdd, Int.reduceToNat, Int.reduceNeg, e1, e2, e3, e4.1, e4.2, c5, e6, e7, e8, c9, e10, c11, c12, e13, c14, c15, c16, e17, e18, c19, e20f] <;> (repeat' apply And.intro) <;> first | rfl | exact ⟨_, rfl⟩ | simp [lst, cat2_nil]
    ·rw [if_neg e13] at h
     have e13f : (!q12_.2.2.1.isEmpty) = false := Bool.eq_false_iff.mpr e13
     by_cases e14 : (!q12_.2.2.2.1.isEmpty) = true
     ·skip
      have c15 := l_toProblem_cl t0_Labels t0_Degree t0_Nodes t0_Edges e7 e8
      have c16 := l_toIntS_cl t1_ e10
      obtain ⟨r17_, hl17, h⟩ := bindS h
      try dsimp only at h
      have c17 := i_RenameLabels_call t0_Labels t0_Degree t0_Nodes t0_Edges t1_ hl17
      obtain ⟨e18, h⟩ := ckS h
      obtain ⟨e19, h⟩ := ckS h
      have c20 := l_eqProblem_cl r17_.1 r17_.2.1 r17_.2.2.1 r17_.2.2.2.1 q12_.1 q12_.2.1 q12_.2.2.1 q12_.2.2.2.1 e18 e19
      by_cases e21 : (sameP r17_.1 r17_.2.1 r17_.2.2.1 r17_.2.2.2.1 q12_.1 q12_.2.1 q12_.2.2.1 q12_.2.2.2.1) = true
      ·rw [if_pos e21] at h
       by_cases e22 : r17_.2.2.2.2 = true
       ·rw [if_pos e22] at h
        by_cases e23 : q12_.2.2.2.2 = true
        ·rw [if_pos e23] at h
         have c24 := l_toProblem_cl t0_Labels t0_Degree t0_Nodes t0_Edges e7 e8
         have c25 := l_eqProblem_cl t0_Labels t0_Degree t0_Nodes t0_Edges t0_Labels t0_Degree t0_Nodes t0_Edges e7 e8
         by_cases e26 : (sameP t0_Labels t0_Degree t0_Nodes t0_Edges t0_Labels t0_Degree t0_Nodes t0_Edges) = true
         ·rw [if_pos e26] at h
          have c27 := l_toIntS_cl t1_ e10
          have c28 := l_eqIntS_cl t1_ t1_ e10
          by_cases e29 : (decide (t1_ = t1_)) = true
          ·rw [if_pos e29] at h
           obtain ⟨e30, h⟩ := ckS h
           have c31 := l_markProblem_cl t0_Labels t0_Degree t0_Nodes t0_Edges (1 : Int) e7 e8 e30
           obtain ⟨e32, h⟩ := ckS h
           have c33 := l_markIntS_cl t1_ ((1 : Int) + tot t0_Nodes + tot t0_Edges) e10 e32
           by_cases e34 : (((1 : Int) + tot t0_Nodes + tot t0_Edges) + t1_.length) < 0
           ·rw [if_pos e34] at h
            obtain rfl := Option.some.inj h
            simp (maxDischargeDepth := 9) only [↓xpre, xpost, xlst, xc2, xcore, yset, rg0, ↓reduceIte, Nat.reduceEqDiff, Nat.reduceLT, Nat.reduceLeDiff, Nat.reduceAdd, Nat.reduceMul, Nat.reduceMod, Nat.reduceSub, Nat.reduceBEq, Int.reduceLE, Int.reduceLT, Int.reduceEq, Int.reduceSub, Int.reduceAdd, Int.reduceToNat, Int.reduceNeg, e1, e2, e3, e4.1, e4.2, c5, e6, e7, e8, c9, e10, c11, c12, e13f, e14, c15, c16, c17, e18, e19, c20, e21, e22, e23, c24, c25, e26, c27, c28, e29, e30.1, e30.2, c31, e32.1, e32.2, c33, e34] <;> (repeat' apply And.intro) <;> first | rfl | exact ⟨_, rfl⟩ | simp [lst, cat2_nil]
           ·rw [if_neg e34] at h
            have c35 := l_eqProblem_cl r17_.1 r17_.2.1 r17_.2.2.1 r17_.2.2.2.1 q12_.1 q12_.2.1 q12_.2.2.1 q12_.2.2.2.1 e18 e19
            obtain ⟨e36, h⟩ := ckS h
            have c37 := l_markProblem_cl r17_.1 r17_.2.1 r17_.2.2.1 r17_.2.2.2.1 (1 : Int) e18 e19 e36
            obtain ⟨r38_, hl38, h⟩ := bindS h
            try dsimp only at h
            have c38 := l_heldProblem_call r17_.1 r17_.2.1 (marks (1 : Int) r17_.2.2.1) (marks ((1 : Int) + tot r17_.2.2.1) r17_.2.2.2.1) (1 : Int) hl38
            by_cases e39 : r38_ < 0
            ·rw [if_pos e39] at h
             obtain rfl := Option.some.inj h
             simp (maxDischargeDepth := 9) only [↓xpre, xpost, xlst, xc2, xcore, yset, rg0, ↓reduceIte, Nat.reduceEqDiff, Nat.reduceLT, Nat.reduceLeDiff, Nat.reduceAdd, Nat.reduceMul, Nat.reduceMod, Nat.reduceSub, Nat.reduceBEq, Int.reduceLE, Int.reduceLT, Int.reduceEq, Int.reduceSub, Int.reduceAdd, Int.reduceToNat, Int.reduceNeg, e1, e2, e3, e4.1, e4.2, c5, e6, e7, e8, c9, e10, c11, c12, e13f, e14, c15, c16, c17, e18, e19, c20, e21, e22, e23, c24, c25, e26, c27, c28, e29, e30.1, e30.2, c31, e32.1, e32.2, c33, e34, c35, e36.1, e36.2, c37, c38, e39] <;> (repeat' apply And.intro) <;> first | rfl | exact ⟨_, rfl⟩ | simp [lst, cat2_nil]
            ·rw [if_neg e39] at h
             by_cases e40 : r38_ = ((1 : Int) + tot r17_.2.2.1 + tot r17_.2.2.2.1)
             ·rw [if_pos e40] at h
              have c41 := l_toProblem_cl t0_Labels t0_Degree t0_Nodes t0_Edges e7 e8
              have c42 := l_toIntS_cl t1_ e10
              have c43 := l_eqProblem_cl r17_.1 r17_.2.1 r17_.2.2.1 r17_.2.2.2.1 q12_.1 q12_.2.1 q12_.2.2.1 q12_.2.2.2.1 e18 e19
              obtain rfl := Option.some.inj h
              simp (maxDischargeDepth := 9) only [↓xpre, xpost, xlst, xc2, xcore, yset, rg0, ↓reduceIte, Nat.reduceEqDiff, Nat.reduceLT, Nat.reduceLeDiff, Nat.reduceAdd, Nat.reduceMul, Nat.reduceMod, Nat.reduceSub, Nat.reduceBEq, Int.reduceLE, Int.reduceLT, Int.reduceEq, Int.reduceSub, Int.reduceAdd, Int.reduceToNat, Int.reduceNeg, e1, e2, e3, e4.1, e4.2, c5, e6, e7, e8, c9, e10, c11, c12, e13f, e14, c15, c16, c17, e18, e19, c20, e21, e22, e23, c24, c25, e26, c27, c28, e29, e30.1, e30.2, c31, e32.1, e32.2, c33, e34, c35, e36.1, e36.2, c37, c38, e39, decide_eq_true e40, c41, c42, c43] <;> (repeat' apply And.intro) <;> first | rfl | exact ⟨_, rfl⟩ | simp [lst, cat2_nil]
             ·rw [if_neg e40] at h
              obtain rfl := Option.some.inj h
              simp (maxDischargeDepth := 9) only [↓xpre, xpost, xlst, xc2, xcore, yset, rg0, ↓reduceIte, Nat.reduceEqDiff, Nat.reduceLT, Nat.reduceLeDiff, Nat.reduceAdd, Nat.reduceMul, Nat.reduceMod, Nat.reduceSub, Nat.reduceBEq, Int.reduceLE, Int.reduceLT, Int.reduceEq, Int.reduceSub, Int.reduceAdd, Int.reduceToNat, Int.reduceNeg, e1, e2, e3, e4.1, e4.2, c5, e6, e7, e8, c9, e10, c11, c12, e13f, e14, c15, c16, c17, e18, e19, c20, e21, e22, e23, c24, c25, e26, c27, c28, e29, e30.1, e30.2, c31, e32.1, e32.2, c33, e34, c35, e36.1, e36.2, c37, c38, e39, e40] <;> (repeat' apply And.intro) <;> first | rfl | exact ⟨_, rfl⟩ | simp [lst, cat2_nil]
          ·exact absurd (decide_eq_true rfl) e29
         ·rw [if_neg e26] at h
          have e26f : (sameP t0_Labels t0_Degree t0_Nodes t0_Edges t0_Labels t0_Degree t0_Nodes t0_Edges) = false := Bool.eq_false_iff.mpr e26
          obtain rfl := Option.some.inj h
          simp (maxDischargeDepth := 9) only [↓xpre, xpost, xlst, xc2, xcore, yset, rg0, ↓reduceIte, Nat.reduceEqDiff, Nat.reduceLT, Nat.reduceLeDiff, Nat.reduceAdd, Nat.reduceMul, Nat.reduceMod, Nat.reduceSub, Nat.reduceBEq, Int.reduceLE, Int.reduceLT, Int.reduceEq, Int.reduceSub, Int.reduceAdd, Int.reduceToNat, Int.reduceNeg, e1, e2, e3, e4.1, e4.2, c5, e6, e7, e8, c9, e10, c11, c12, e13f, e14, c15, c16, c17, e18, e19, c20, e21, e22, e23, c24, c25, e26f] <;> (repeat' apply And.intro) <;> first | rfl | exact ⟨_, rfl⟩ | simp [lst, cat2_nil]
        ·rw [if_neg e23] at h
         have e23f : q12_.2.2.2.2 = false := Bool.eq_false_iff.mpr e23
         obtain rfl := Option.some.inj h
         simp (maxDischargeDepth := 9) only [↓xpre, xpost, xlst, xc2, xcore, yset, rg0, ↓reduceIte, Nat.reduceEqDiff, Nat.reduceLT, Nat.reduceLeDiff, Nat.reduceAdd, Nat.reduceMul, Nat.reduceMod, Nat.reduceSub, Nat.reduceBEq, Int.reduceLE, Int.reduceLT, Int.reduceEq, Int.reduceSub, Int.reduceAdd, Int.reduceToNat, Int.reduceNeg, e1, e2, e3, e4.1, e4.2, c5, e6, e7, e8, c9, e10, c11, c12, e13f, e14, c15, c16, c17, e18, e19, c20, e21, e22, e23f] <;> (repeat' apply And.intro) <;> first | rfl | exact ⟨_, rfl⟩ | simp [lst, cat2_nil]
       ·rw [if_neg e22] at h
        have e22f : r17_.2.2.2.2 = false := Bool.eq_false_iff.mpr e22
        by_cases e23 : q12_.2.2.2.2 = true
        ·rw [if_pos e23] at h
         obtain rfl := Option.some.inj h
         simp (maxDischargeDepth := 9) only [↓xpre, xpost, xlst, xc2, xcore, yset, rg0, ↓reduceIte, Nat.reduceEqDiff, Nat.reduceLT, Nat.reduceLeDiff, Nat.reduceAdd, Nat.reduceMul, Nat.reduceMod, Nat.reduceSub, Nat.reduceBEq, Int.reduceLE, Int.reduceLT, Int.reduceEq, Int.reduceSub, Int.reduceAdd, Int.reduceToNat, Int.reduceNeg, e1, e2, e3, e4.1, e4.2, c5, e6, e7, e8, c9, e10, c11, c12, e13f, e14, c15, c16, c17, e18, e19, c20, e21, e22f, e23] <;> (repeat' apply And.intro) <;> first | rfl | exact ⟨_, rfl⟩ | simp [lst, cat2_nil]
        ·rw [if_neg e23] at h
         have e23f : q12_.2.2.2.2 = false := Bool.eq_false_iff.mpr e23
         have c24 := l_toProblem_cl t0_Labels t0_Degree t0_Nodes t0_Edges e7 e8
         have c25 := l_eqProblem_cl t0_Labels t0_Degree t0_Nodes t0_Edges t0_Labels t0_Degree t0_Nodes t0_Edges e7 e8
         by_cases e26 : (sameP t0_Labels t0_Degree t0_Nodes t0_Edges t0_Labels t0_Degree t0_Nodes t0_Edges) = true
         ·rw [if_pos e26] at h
          have c27 := l_toIntS_cl t1_ e10
          have c28 := l_eqIntS_cl t1_ t1_ e10
          by_cases e29 : (decide (t1_ = t1_)) = true
          ·rw [if_pos e29] at h
           obtain ⟨e30, h⟩ := ckS h
           have c31 := l_markProblem_cl t0_Labels t0_Degree t0_Nodes t0_Edges (1 : Int) e7 e8 e30
           obtain ⟨e32, h⟩ := ckS h
           have c33 := l_markIntS_cl t1_ ((1 : Int) + tot t0_Nodes + tot t0_Edges) e10 e32
           by_cases e34 : (((1 : Int) + tot t0_Nodes + tot t0_Edges) + t1_.length) < 0
           ·rw [if_pos e34] at h
            obtain rfl := Option.some.inj h
            simp (maxDischargeDepth := 9) only [↓xpre, xpost, xlst, xc2, xcore, yset, rg0, ↓reduceIte, Nat.reduceEqDiff, Nat.reduceLT, Nat.reduceLeDiff, Nat.reduceAdd, Nat.reduceMul, Nat.reduceMod, Nat.reduceSub, Nat.reduceBEq, Int.reduceLE, Int.reduceLT, Int.reduceEq, Int.reduceSub, Int.reduceAdd, Int.reduceToNat, Int.reduceNeg, e1, e2, e3, e4.1, e4.2, c5, e6, e7, e8, c9, e10, c11, c12, e13f, e14, c15, c16, c17, e18, e19, c20, e21, e22f, e23f, c24, c25, e26, c27, c28, e29, e30.1, e30.2, c31, e32.1, e32.2, c33, e34] <;> (repeat' apply And.intro) <;> first | rfl | exact ⟨_, rfl⟩ | simp [lst, cat2_nil]
           ·rw [if_neg e34] at h
            have c35 := l_eqProblem_cl r17_.1 r17_.2.1 r17_.2.2.1 r17_.2.2.2.1 q12_.1 q12_.2.1 q12_.2.2.1 q12_.2.2.2.1 e18 e19
            obtain ⟨e36, h⟩ := ckS h
            have c37 := l_markProblem_cl r17_.1 r17_.2.1 r17_.2.2.1 r17_.2.2.2.1 (1 : Int) e18 e19 e36
            obtain ⟨r38_, hl38, h⟩ := bindS h
            try dsimp only at h
            have c38 := l_heldProblem_call r17_.1 r17_.2.1 (marks (1 : Int) r17_.2.2.1) (marks ((1 : Int) + tot r17_.2.2.1) r17_.2.2.2.1) (1 : Int) hl38
            by_cases e39 : r38_ < 0
            ·rw [if_pos e39] at h
             obtain rfl := Option.some.inj h
             simp (maxDischargeDepth := 9) only [↓xpre, xpost, xlst, xc2, xcore, yset, rg0, ↓reduceIte, Nat.reduceEqDiff, Nat.reduceLT, Nat.reduceLeDiff, Nat.reduceAdd, Nat.reduceMul, Nat.reduceMod, Nat.reduceSub, Nat.reduceBEq, Int.reduceLE, Int.reduceLT, Int.reduceEq, Int.reduceSub, Int.reduceAdd, Int.reduceToNat, Int.reduceNeg, e1, e2, e3, e4.1, e4.2, c5, e6, e7, e8, c9, e10, c11, c12, e13f, e14, c15, c16, c17, e18, e19, c20, e21, e22f, e23f, c24, c25, e26, c27, c28, e29, e30.1, e30.2, c31, e32.1, e32.2, c33, e34, c35, e36.1, e36.2, c37, c38, e39] <;> (repeat' apply And.intro) <;> first | rfl | exact ⟨_, rfl⟩ | simp [lst, cat2_nil]
            ·rw [if_neg e39] at h
             by_cases e40 : r38_ = ((1 : Int) + tot r17_.2.2.1 + tot r17_.2.2.2.1)
             ·rw [if_pos e40] at h
              have c41 := l_toProblem_cl t0_Labels t0_Degree t0_Nodes t0_Edges e7 e8
              have c42 := l_toIntS_cl t1_ e10
              have c43 := l_eqProblem_cl r17_.1 r17_.2.1 r17_.2.2.1 r17_.2.2.2.1 q12_.1 q12_.2.1 q12_.2.2.1 q12_.2.2.2.1 e18 e19
              obtain rfl := Option.some.inj h
              simp (maxDischargeDepth := 9) only [↓xpre, xpost, xlst, xc2, xcore, yset, rg0, ↓reduceIte, Nat.reduceEqDiff, Nat.reduceLT, Nat.reduceLeDiff, Nat.reduceAdd, Nat.reduceMul, Nat.reduceMod, Nat.reduceSub, Nat.reduceBEq, Int.reduceLE, Int.reduceLT, Int.reduceEq, Int.reduceSub, Int.reduceAdd, Int.reduceToNat, Int.reduceNeg, e1, e2, e3, e4.1, e4.2, c5, e6, e7, e8, c9, e10, c11, c12, e13f, e14, c15, c16, c17, e18, e19, c20, e21, e22f, e23f, c24, c25, e26, c27, c28, e29, e30.1, e30.2, c31, e32.1, e32.2, c33, e34, c35, e36.1, e36.2, c37, c38, e39, decide_eq_true e40, c41, c42, c43] <;> (repeat' apply And.intro) <;> first | rfl | exact ⟨_, rfl⟩ | simp [lst, cat2_nil]
             ·rw [if_neg e40] at h
              obtain rfl := Option.some.inj h
              simp (maxDischargeDepth := 9) only [↓xpre, xpost, xlst, xc2, xcore, yset, rg0, ↓reduceIte, Nat.reduceEqDiff, Nat.reduceLT, Nat.reduceLeDiff, Nat.reduceAdd, Nat.reduceMul, Nat.reduceMod, Nat.reduceSub, Nat.reduceBEq, Int.reduceLE, Int.reduceLT, Int.reduceEq, Int.reduceSub, Int.reduceAdd, Int.reduceToNat, Int.reduceNeg, e1, e2, e3, e4.1, e4.2, c5, e6, e7, e8, c9, e10, c11, c12, e13f, e14, c15, c16, c17, e18, e19, c20, e21, e22f, e23f, c24, c25, e26, c27, c28, e29, e30.1, e30.2, c31, e32.1, e32.2, c33, e34, c35, e36.1, e36.2, c37, c38, e39, e40] <;> (repeat' apply And.intro) <;> first | rfl | exact ⟨_, rfl⟩ | simp [lst, cat2_nil]
          ·exact absurd (decide_eq_true rfl) e29
         ·rw [if_neg e26] at h
          have e26f : (sameP t0_Labels t0_Degree t0_Nodes t0_Edges t0_Labels t0_Degree t0_Nodes t0_Edges) = false := Bool.eq_false_iff.mpr e26
          obtain rfl := Option.some.inj h
          simp (maxDischargeDepth := 9) only [↓xpre, xpost, xlst, xc2, xcore, yset, rg0, ↓reduceIte, Nat.reduceEqDiff, Nat.reduceLT, Nat.reduceLeDiff, Nat.reduceAdd, Nat.reduceMul, Nat.reduceMod, Nat.reduceSub, Nat.reduceBEq, Int.reduceLE, Int.reduceLT, Int.reduceEq, Int.reduceSub, Int.reduceAdd, Int.reduceToNat, Int.reduceNeg, e1, e2, e3, e4.1, e4.2, c5, e6, e7, e8, c9, e10, c11, c12, e13f, e14, c15, c16, c17, e18, e19, c20, e21, e22f, e23f, c24, c25, e26f] <;> (repeat' apply And.intro) <;> first | rfl | exact ⟨_, rfl⟩ | simp [lst, cat2_nil]
      ·rw [if_neg e21] at h
       have e21f : (sameP r17_.1 r17_.2.1 r17_.2.2.1 r17_.2.2.2.1 q12_.1 q12_.2.1 q12_.2.2.1 q12_.2.2.2.1) = false := Bool.eq_false_iff.mpr e21
       obtain rfl := Option.some.inj h
       simp (maxDischargeDepth := 9) only [↓xpre, xpost, xlst, xc2, xcore, yset, rg0, ↓reduceIte, Nat.reduceEqDiff, Nat.reduceLT, Nat.reduceLeDiff, Nat.reduceAdd, Nat.reduceMul, Nat.reduceMod, Nat.reduceSub, Nat.reduceBEq, Int.reduceLE, Int.reduceLT, Int.reduceEq, Int.reduceSub, Int.reduceAdd, Int.reduceToNat, Int.reduceNeg, e1, e2, e3, e4.1, e4.2, c5, e6, e7, e8, c9, e10, c11, c12, e13f, e14, c15, c16, c17, e18, e19, c20, e21f] <;> (repeat' apply And.intro) <;> first | rfl | exact ⟨_, rfl⟩ | simp [lst, cat2_nil]
     ·skip
      have e14f : (!q12_.2.2.2.1.isEmpty) = false := Bool.eq_false_iff.mpr e14
      have c15 := l_toProblem_cl t0_Labels t0_Degree t0_Nodes t0_Edges e7 e8
      have c16 := l_toIntS_cl t1_ e10
      obtain ⟨r17_, hl17, h⟩ := bindS h
      try dsimp only at h
      have c17 := i_RenameLabels_call t0_Labels t0_Degree t0_Nodes t0_Edges t1_ hl17
      obtain ⟨e18, h⟩ := ckS h
      obtain ⟨e19, h⟩ := ckS h
      have c20 := l_eqProblem_cl r17_.1 r17_.2.1 r17_.2.2.1 r17_.2.2.2.1 q12_.1 q12_.2.1 q12_.2.2.1 q12_.2.2.2.1 e18 e19
      by_cases e21 : (sameP r17_.1 r17_.2.1 r17_.2.2.1 r17_.2.2.2.1 q12_.1 q12_.2.1 q12_.2.2.1 q12_.2.2.2.1) = true
      ·rw [if_pos e21] at h
       by_cases e22 : r17_.2.2.2.2 = true
       ·rw [if_pos e22] at h
        by_cases e23 : q12_.2.2.2.2 = true
        ·rw [if_pos e23] at h
         have c24 := l_toProblem_cl t0_Labels t0_Degree t0_Nodes t0_Edges e7 e8
         have c25 := l_eqProblem_cl t0_Labels t0_Degree t0_Nodes t0_Edges t0_Labels t0_Degree t0_Nodes t0_Edges e7 e8
         by_cases e26 : (sameP t0_Labels t0_Degree t0_Nodes t0_Edges t0_Labels t0_Degree t0_Nodes t0_Edges) = true
         ·rw [if_pos e26] at h
          have c27 := l_toIntS_cl t1_ e10
          have c28 := l_eqIntS_cl t1_ t1_ e10
          by_cases e29 : (decide (t1_ = t1_)) = true
          ·rw [if_pos e29] at h
           obtain ⟨e30, h⟩ := ckS h
           have c31 := l_markProblem_cl t0_Labels t0_Degree t0_Nodes t0_Edges (1 : Int) e7 e8 e30
           obtain ⟨e32, h⟩ := ckS h
           have c33 := l_markIntS_cl t1_ ((1 : Int) + tot t0_Nodes + tot t0_Edges) e10 e32
           by_cases e34 : (((1 : Int) + tot t0_Nodes + tot t0_Edges) + t1_.length) < 0
           ·rw [if_pos e34] at h
            obtain rfl := Option.some.inj h
            simp (maxDischargeDepth := 9) only [↓xpre, xpost, xlst, xc2, xcore, yset, rg0, ↓reduceIte, Nat.reduceEqDiff, Nat.reduceLT, Nat.reduceLeDiff, Nat.reduceAdd, Nat.reduceMul, Nat.reduceMod, Nat.reduceSub, Nat.reduceBEq, Int.reduceLE, Int.reduceLT, Int.reduceEq, Int.reduceSub, Int.reduceAdd, Int.reduceToNat, Int.reduceNeg, e1, e2, e3, e4.1, e4.2, c5, e6, e7, e8, c9, e10, c11, c12, e13f, e14f, c15, c16, c17, e18, e19, c20, e21, e22, e23, c24, c25, e26, c27, c28, e29, e30.1, e30.2, c31, e32.1, e32.2, c33, e34] <;> (repeat' apply And.intro) <;> first | rfl | exact ⟨_, rfl⟩ | simp [lst, cat2_nil]
           ·rw [if_neg e34] at h
            have c35 := l_eqProblem_cl r17_.1 r17_.2.1 r17_.2.2.1 r17_.2.2.2.1 q12_.1 q12_.2.1 q12_.2.2.1 q12_.2.2.2.1 e18 e19
            obtain ⟨e36, h⟩ := ckS h
            have c37 := l_markProblem_cl r17_.1 r17_.2.1 r17_.2.2.1 r17_.2.2.2.1 (1 : Int) e18 e19 e36
            obtain ⟨r38_, hl38, h⟩ := bindS h
            try dsimp only at h
            have c38 := l_heldProblem_call r17_.1 r17_.2.1 (marks (1 : Int) r17_.2.2.1) (marks ((1 : Int) + tot r17_.2.2.1) r17_.2.2.2.1) (1 : Int) hl38
            by_cases e39 : r38_ < 0
            ·rw [if_pos e39] at h
             obtain rfl := Option.some.inj h
             simp (maxDischargeDepth := 9) only [↓xpre, xpost, xlst, xc2, xcore, yset, rg0, ↓reduceIte, Nat.reduceEqDiff, Nat.reduceLT, Nat.reduceLeDiff, Nat.reduceAdd, Nat.reduceMul, Nat.reduceMod, Nat.reduceSub, Nat.reduceBEq, Int.reduceLE, Int.reduceLT, Int.reduceEq, Int.reduceSub, Int.reduceAdd, Int.reduceToNat, Int.reduceNeg, e1, e2, e3, e4.1, e4.2, c5, e6, e7, e8, c9, e10, c11, c12, e13f, e14f, c15, c16, c17, e18, e19, c20, e21, e22, e23, c24, c25, e26, c27, c28, e29, e30.1, e30.2, c31, e32.1, e32.2, c33, e34, c35, e36.1, e36.2, c37, c38, e39] <;> (repeat' apply And.intro) <;> first | rfl | exact ⟨_, rfl⟩ | simp [lst, cat2_nil]
            ·rw [if_neg e39] at h
             by_cases e40 : r38_ = ((1 : Int) + tot r17_.2.2.1 + tot r17_.2.2.2.1)
             ·rw [if_pos e40] at h
              have c41 := l_toProblem_cl t0_Labels t0_Degree t0_Nodes t0_Edges e7 e8
              have c42 := l_toIntS_cl t1_ e10
              have c43 := l_eqProblem_cl r17_.1 r17_.2.1 r17_.2.2.1 r17_.2.2.2.1 q12_.1 q12_.2.1 q12_.2.2.1 q12_.2.2.2.1 e18 e19
              obtain rfl := Option.some.inj h
              simp (maxDischargeDepth := 9) only [↓xpre, xpost, xlst, xc2, xcore, yset, rg0, ↓reduceIte, Nat.reduceEqDiff, Nat.reduceLT, Nat.reduceLeDiff, Nat.reduceAdd, Nat.reduceMul, Nat.reduceMod, Nat.reduceSub, Nat.reduceBEq, Int.reduceLE, Int.reduceLT, Int.reduceEq, Int.reduceSub, Int.reduceAdd, Int.reduceToNat, Int.reduceNeg, e1, e2, e3, e4.1, e4.2, c5, e6, e7, e8, c9, e10, c11, c12, e13f, e14f, c15, c16, c17, e18, e19, c20, e21, e22, e23, c24, c25, e26, c27, c28, e29, e30.1, e30.2, c31, e32.1, e32.2, c33, e34, c35, e36.1, e36.2, c37, c38, e39, decide_eq_true e40, c41, c42, c43] <;> (repeat' apply And.intro) <;> first | rfl | exact ⟨_, rfl⟩ | simp [lst, cat2_nil]
             ·rw [if_neg e40] at h
              obtain rfl := Option.some.inj h
              simp (maxDischargeDepth := 9) only [↓xpre, xpost, xlst, xc2, xcore, yset, rg0, ↓reduceIte, Nat.reduceEqDiff, Nat.reduceLT, Nat.reduceLeDiff, Nat.reduceAdd, Nat.reduceMul, Nat.reduceMod, Nat.reduceSub, Nat.reduceBEq, Int.reduceLE, Int.reduceLT, Int.reduceEq, Int.reduceSub, Int.reduceAdd, Int.reduceToNat, Int.reduceNeg, e1, e2, e3, e4.1, e4.2, c5, e6, e7, e8, c9, e10, c11, c12, e13f, e14f, c15, c16, c17, e18, e19, c20, e21, e22, e23, c24, c25, e26, c27, c28, e29, e30.1, e30.2, c31, e32.1, e32.2, c33, e34, c35, e36.1, e36.2, c37, c38, e39, e40] <;> (repeat' apply And.intro) <;> first | rfl | exact ⟨_, rfl⟩ | simp [lst, cat2_nil]
          ·exact absurd (decide_eq_true rfl) e29
         ·rw [if_neg e26] at h
          have e26f : (sameP t0_Labels t0_Degree t0_Nodes t0_Edges t0_Labels t0_Degree t0_Nodes t0_Edges) = false := Bool.eq_false_iff.mpr e26
          obtain rfl := Option.some.inj h
          simp (maxDischargeDepth := 9) only [↓xpre, xpost, xlst, xc2, xcore, yset, rg0, ↓reduceIte, Nat.reduceEqDiff, Nat.reduceLT, Nat.reduceLeDiff, Nat.reduceAdd, Nat.reduceMul, Nat.reduceMod, Nat.reduceSub, Nat.reduceBEq, Int.reduceLE, Int.reduceLT, Int.reduceEq, Int.reduceSub, Int.reduceAdd, Int.reduceToNat, Int.reduceNeg, e1, e2, e3, e4.1, e4.2, c5, e6, e7, e8, c9, e10, c11, c12, e13f, e14f, c15, c16, c17, e18, e19, c20, e21, e22, e23, c24, c25, e26f] <;> (repeat' apply And.intro) <;> first | rfl | exact ⟨_, rfl⟩ | simp [lst, cat2_nil]
        ·rw [if_neg e23] at h
         have e23f : q12_.2.2.2.2 = false := Bool.eq_false_iff.mpr e23
         obtain rfl := Option.some.inj h
         simp (maxDischargeDepth := 9) only [↓xpre, xpost, xlst, xc2, xcore, yset, rg0, ↓reduceIte, Nat.reduceEqDiff, Nat.reduceLT, Nat.reduceLeDiff, Nat.reduceAdd, Nat.reduceMul, Nat.reduceMod, Nat.reduceSub, Nat.reduceBEq, Int.reduceLE, Int.reduceLT, Int.reduceEq, Int.reduceSub, Int.reduceAdd, Int.reduceToNat, Int.reduceNeg, e1, e2, e3, e4.1, e4.2, c5, e6, e7, e8, c9, e10, c11, c12, e13f, e14f, c15, c16, c17, e18, e19, c20, e21, e22, e23f] <;> (repeat' apply And.intro) <;> first | rfl | exact ⟨_, rfl⟩ | simp [lst, cat2_nil]
       ·rw [if_neg e22] at h
        have e22f : r17_.2.2.2.2 = false := Bool.eq_false_iff.mpr e22
        by_cases e23 : q12_.2.2.2.2 = true
        ·rw [if_pos e23] at h
         obtain rfl := Option.some.inj h
         simp (maxDischargeDepth := 9) only [↓xpre, xpost, xlst, xc2, xcore, yset, rg0, ↓reduceIte, Nat.reduceEqDiff, Nat.reduceLT, Nat.reduceLeDiff, Nat.reduceAdd, Nat.reduceMul, Nat.reduceMod, Nat.reduceSub, Nat.reduceBEq, Int.reduceLE, Int.reduceLT, Int.reduceEq, Int.reduceSub, Int.reduceAdd, Int.reduceToNat, Int.reduceNeg, e1, e2, e3, e4.1, e4.2, c5, e6, e7, e8, c9, e10, c11, c12, e13f, e14f, c15, c16, c17, e18, e19, c20, e21, e22f, e23] <;> (repeat' apply And.intro) <;> first | rfl | exact ⟨_, rfl⟩ | simp [lst, cat2_nil]
        ·rw [if_neg e23] at h
         have e23f : q12_.2.2.2.2 = false := Bool.eq_false_iff.mpr e23
         have c24 := l_toProblem_cl t0_Labels t0_Degree t0_Nodes t0_Edges e7 e8
         have c25 := l_eqProblem_cl t0_Labels t0_Degree t0_Nodes t0_Edges t0_Labels t0_Degree t0_Nodes t0_Edges e7 e8
         by_cases e26 : (sameP t0_Labels t0_Degree t0_Nodes t0_Edges t0_Labels t0_Degree t0_Nodes t0_Edges) = true
         ·rw [if_pos e26] at h
          have c27 := l_toIntS_cl t1_ e10
          have c28 := l_eqIntS_cl t1_ t1_ e10
          by_cases e29 : (decide (t1_ = t1_)) = true
          ·rw [if_pos e29] at h
           obtain ⟨e30, h⟩ := ckS h
           have c31 := l_markProblem_cl t0_Labels t0_Degree t0_Nodes t0_Edges (1 : Int) e7 e8 e30
           obtain ⟨e32, h⟩ := ckS h
           have c33 := l_markIntS_cl t1_ ((1 : Int) + tot t0_Nodes + tot t0_Edges) e10 e32
           by_cases e34 : (((1 : Int) + tot t0_Nodes + tot t0_Edges) + t1_.length) < 0
           ·rw [if_pos e34] at h
            obtain rfl := Option.some.inj h
            simp (maxDischargeDepth := 9) only [↓xpre, xpost, xlst, xc2, xcore, yset, rg0, ↓reduceIte, Nat.reduceEqDiff, Nat.reduceLT, Nat.reduceLeDiff, Nat.reduceAdd, Nat.reduceMul, Nat.reduceMod, Nat.reduceSub, Nat.reduceBEq, Int.reduceLE, Int.reduceLT, Int.reduceEq, Int.reduceSub, Int.reduceAdd, Int.reduceToNat, Int.reduceNeg, e1, e2, e3, e4.1, e4.2, c5, e6, e7, e8, c9, e10, c11, c12, e13f, e14f, c15, c16, c17, e18, e19, c20, e21, e22f, e23f, c24, c25, e26, c27, c28, e29, e30.1, e30.2, c31, e32.1, e32.2, c33, e34] <;> (repeat' apply And.intro) <;> first | rfl | exact ⟨_, rfl⟩ | simp [lst, cat2_nil]
           ·rw [if_neg e34] at h
            have c35 := l_eqProblem_cl r17_.1 r17_.2.1 r17_.2.2.1 r17_.2.2.2.1 q12_.1 q12_.2.1 q12_.2.2.1 q12_.2.2.2.1 e18 e19
            obtain ⟨e36, h⟩ := ckS h
            have c37 := l_markProblem_cl r17_.1 r17_.2.1 r17_.2.2.1 r17_.2.2.2.1 (1 : Int) e18 e19 e36
            obtain ⟨r38_, hl38, h⟩ := bindS h
            try dsimp only at h
            have c38 := l_heldProblem_call r17_.1 r17_.2.1 (marks (1 : Int) r17_.2.2.1) (marks ((1 : Int) + tot r17_.2.2.1) r17_.2.2.2.1) (1 : Int) hl38
            by_cases e39 : r38_ < 0
            ·rw [if_pos e39] at h
             obtain rfl := Option.some.inj h
             simp (maxDischargeDepth := 9) only [↓xpre, xpost, xlst, xc2, xcore, yset, rg0, ↓reduceIte, Nat.reduceEqDiff, Nat.reduceLT, Nat.reduceLeDiff, Nat.reduceAdd, Nat.reduceMul, Nat.reduceMod, Nat.reduceSub, Nat.reduceBEq, Int.reduceLE, Int.reduceLT, Int.reduceEq, Int.reduceSub, Int.reduceAdd, Int.reduceToNat, Int.reduceNeg, e1, e2, e3, e4.1, e4.2, c5, e6, e7, e8, c9, e10, c11, c12, e13f, e14f, c15, c16, c17, e18, e19, c20, e21, e22f, e23f, c24, c25, e26, c27, c28, e29, e30.1, e30.2, c31, e32.1, e32.2, c33, e34, c35, e36.1, e36.2, c37, c38, e39] <;> (repeat' apply And.intro) <;> first | rfl | exact ⟨_, rfl⟩ | simp [lst, cat2_nil]
            ·rw [if_neg e39] at h
             by_cases e40 : r38_ = ((1 : Int) + tot r17_.2.2.1 + tot r17_.2.2.2.1)
             ·rw [if_pos e40] at h
              have c41 := l_toProblem_cl t0_Labels t0_Degree t0_Nodes t0_Edges e7 e8
              have c42 := l_toIntS_cl t1_ e10
              have c43 := l_eqProblem_cl r17_.1 r17_.2.1 r17_.2.2.1 r17_.2.2.2.1 q12_.1 q12_.2.1 q12_.2.2.1 q12_.2.2.2.1 e18 e19
              obtain rfl := Option.some.inj h
              simp (maxDischargeDepth := 9) only [↓xpre, xpost, xlst, xc2, xcore, yset, rg0, ↓reduceIte, Nat.reduceEqDiff, Nat.reduceLT, Nat.reduceLeDiff, Nat.reduceAdd, Nat.reduceMul, Nat.reduceMod, Nat.reduceSub, Nat.reduceBEq, Int.reduceLE, Int.reduceLT, Int.reduceEq, Int.reduceSub, Int.reduceAdd, Int.reduceToNat, Int.reduceNeg, e1, e2, e3, e4.1, e4.2, c5, e6, e7, e8, c9, e10, c11, c12, e13f, e14f, c15, c16, c17, e18, e19, c20, e21, e22f, e23f, c24, c25, e26, c27, c28, e29, e30.1, e30.2, c31, e32.1, e32.2, c33, e34, c35, e36.1, e36.2, c37, c38, e39, decide_eq_true e40, c41, c42, c43] <;> (repeat' apply And.intro) <;> first | rfl | exact ⟨_, rfl⟩ | simp [lst, cat2_nil]
             ·rw [if_neg e40] at h
              obtain rfl := Option.some.inj h
              simp (maxDischargeDepth := 9) only [↓xpre, xpost, xlst, xc2, xcore, yset, rg0, ↓reduceIte, Nat.reduceEqDiff, Nat.reduceLT, Nat.reduceLeDiff, Nat.reduceAdd, Nat.reduceMul, Nat.reduceMod, Nat.reduceSub, Nat.reduceBEq, Int.reduceLE, Int.reduceLT, Int.reduceEq, Int.reduceSub, Int.reduceAdd, Int.reduceToNat, Int.reduceNeg, e1, e2, e3, e4.1, e4.2, c5, e6, e7, e8, c9, e10, c11, c12, e13f, e14f, c15, c16, c17, e18, e19, c20, e21, e22f, e23f, c24, c25, e26, c27, c28, e29, e30.1, e30.2, c31, e32.1, e32.2, c33, e34, c35, e36.1, e36.2, c37, c38, e39, e40] <;> (repeat' apply And.intro) <;> first | rfl | exact ⟨_, rfl⟩ | simp [lst, cat2_nil]
          ·exact absurd (decide_eq_true rfl) e29
         ·rw [if_neg e26] at h
          have e26f : (sameP t0_Labels t0_Degree t0_Nodes t0_Edges t0_Labels t0_Degree t0_Nodes t0_Edges) = false := Bool.eq_false_iff.mpr e26
          obtain rfl := Option.some.inj h
          simp (maxDischargeDepth := 9) only [↓xpre, xpost, xlst, xc2, xcore, yset, rg0, ↓reduceIte, Nat.reduceEqDiff, Nat.reduceLT, Nat.reduceLeDiff, Nat.reduceAdd, Nat.reduceMul, Nat.reduceMod, Nat.reduceSub, Nat.reduceBEq, Int.reduceLE, Int.reduceLT, Int.reduceEq, Int.reduceSub, Int.reduceAdd, Int.reduceToNat, Int.reduceNeg, e1, e2, e3, e4.1, e4.2, c5, e6, e7, e8, c9, e10, c11, c12, e13f, e14f, c15, c16, c17, e18, e19, c20, e21, e22f, e23f, c24, c25, e26f] <;> (repeat' apply And.intro) <;> first | rfl | exact ⟨_, rfl⟩ | simp [lst, cat2_nil]
      ·rw [if_neg e21] at h
       have e21f : (sameP r17_.1 r17_.2.1 r17_.2.2.1 r17_.2.2.2.1 q12_.1 q12_.2.1 q12_.2.2.1 q12_.2.2.2.1) = false := Bool.eq_false_iff.mpr e21
       obtain rfl := Option.some.inj h
       simp (maxDischargeDepth := 9) only [↓xpre, xpost, xlst, xc2, xcore, yset, rg0, ↓reduceIte, Nat.reduceEqDiff, Nat.reduceLT, Nat.reduceLeDiff, Nat.reduceAdd, Nat.reduceMul, Nat.reduceMod, Nat.reduceSub, Nat.reduceBEq, Int.reduceLE, Int.reduceLT, Int.reduceEq, Int.reduceSub, Int.reduceAdd, Int.reduceToNat, Int.reduceNeg, e1, e2, e3, e4.1, e4.2, c5, e6, e7, e8, c9, e10, c11, c12, e13f, e14f, c15, c16, c17, e18, e19, c20, e21f] <;> (repeat' apply And.intro) <;> first | rfl | exact ⟨_, rfl⟩ | simp [lst, cat2_nil]
   ·dsimp only at h c12
    have c22 := l_toProblem_cl t0_Labels t0_Degree t0_Nodes t0_Edges e7 e8
    have c23 := l_toIntS_cl t1_ e10
    obtain ⟨r24_, hl24, h⟩ := bindS h
    try dsimp only at h
    have c24 := i_RenameLabels_call t0_Labels t0_Degree t0_Nodes t0_Edges t1_ hl24
    obtain ⟨e25, h⟩ := ckS h
    obtain ⟨e26, h⟩ := ckS h
    have c27 := l_eqProblem_cl r24_.1 r24_.2.1 r24_.2.2.1 r24_.2.2.2.1 q12_.1 q12_.2.1 q12_.2.2.1 q12_.2.2.2.1 e25 e26
    by_cases e28 : (sameP r24_.1 r24_.2.1 r24_.2.2.1 r24_.2.2.2.1 q12_.1 q12_.2.1 q12_.2.2.1 q12_.2.2.2.1) = true
    ·rw [if_pos e28] at h
     by_cases e29 : r24_.2.2.2.2 = true
     ·rw [if_pos e29] at h
      by_cases e30 : q12_.2.2.2.2 = true
      ·rw [if_pos e30] at h
       have c31 := l_toProblem_cl t0_Labels t0_Degree t0_Nodes t0_Edges e7 e8
       have c32 := l_eqProblem_cl t0_Labels t0_Degree t0_Nodes t0_Edges t0_Labels t0_Degree t0_Nodes t0_Edges e7 e8
       by_cases e33 : (sameP t0_Labels t0_Degree t0_Nodes t0_Edges t0_Labels t0_Degree t0_Nodes t0_Edges) = true
       ·rw [if_pos e33] at h
        have c34 := l_toIntS_cl t1_ e10
        have c35 := l_eqIntS_cl t1_ t1_ e10
        by_cases e36 : (decide (t1_ = t1_)) = true
        ·rw [if_pos e36] at h
         obtain ⟨e37, h⟩ := ckS h
         have c38 := l_markProblem_cl t0_Labels t0_Degree t0_Nodes t0_Edges (1 : Int) e7 e8 e37
         obtain ⟨e39, h⟩ := ckS h
         have c40 := l_markIntS_cl t1_ ((1 : Int) + tot t0_Nodes + tot t0_Edges) e10 e39
         by_cases e41 : (((1 : Int) + tot t0_Nodes + tot t0_Edges) + t1_.length) < 0
         ·rw [if_pos e41] at h
          obtain rfl := Option.some.inj h
          simp (maxDischargeDepth := 9) only [↓xpre, xpost, xlst, xc2, xcore, yset, rg0, ↓reduceIte, Nat.reduceEqDiff, Nat.reduceLT, Nat.reduceLeDiff, Nat.reduceAdd, Nat.reduceMul, Nat.reduceMod, Nat.reduceSub, Nat.reduceBEq, Int.reduceLE, Int.reduceLT, Int.reduceEq, Int.reduceSub, Int.reduceAdd, Int.reduceToNat, Int.reduceNeg, e1, e2, e3, e4.1, e4.2, c5, e6, e7, e8, c9, e10, c11, c12, c22, c23, c24, e25, e26, c27, e28, e29, e30, c31, c32, e33, c34, c35, e36, e37.1, e37.2, c38, e39.1, e39.2, c40, e41] <;> (repeat' apply And.intro) <;> first | rfl | exact ⟨_, rfl⟩ | simp [lst, cat2_nil]
         ·rw [if_neg e41] at h
          have c42 := l_eqProblem_cl r24_.1 r24_.2.1 r24_.2.2.1 r24_.2.2.2.1 q12_.1 q12_.2.1 q12_.2.2.1 q12_.2.2.2.1 e25 e26
          obtain ⟨e43, h⟩ := ckS h
          have c44 := l_markProblem_cl r24_.1 r24_.2.1 r24_.2.2.1 r24_.2.2.2.1 (1 : Int) e25 e26 e43
          obtain ⟨r45_, hl45, h⟩ := bindS h
          try dsimp only at h
          have c45 := l_heldProblem_call r24_.1 r24_.2.1 (marks (1 : Int) r24_.2.2.1) (marks ((1 : Int) + tot r24_.2.2.1) r24_.2.2.2.1) (1 : Int) hl45
          by_cases e46 : r45_ < 0
          ·rw [if_pos e46] at h
           obtain rfl := Option.some.inj h
           simp (maxDischargeDepth := 9) only [↓xpre, xpost, xlst, xc2, xcore, yset, rg0, ↓reduceIte, Nat.reduceEqDiff, Nat.reduceLT, Nat.reduceLeDiff, Nat.reduceAdd, Nat.reduceMul, Nat.reduceMod, Nat.reduceSub, Nat.reduceBEq, Int.reduceLE, Int.reduceLT, Int.reduceEq, Int.reduceSub, Int.reduceAdd, Int.reduceToNat, Int.reduceNeg, e1, e2, e3, e4.1, e4.2, c5, e6, e7, e8, c9, e10, c11, c12, c22, c23, c24, e25, e26, c27, e28, e29, e30, c31, c32, e33, c34, c35, e36, e37.1, e37.2, c38, e39.1, e39.2, c40, e41, c42, e43.1, e43.2, c44, c45, e46] <;> (repeat' apply And.intro) <;> first | rfl | exact ⟨_, rfl⟩ | simp [lst, cat2_nil]
          ·rw [if_neg e46] at h
           by_cases e47 : r45_ = ((1 : Int) + tot r24_.2.2.1 + tot r24_.2.2.2.1)
           ·rw [if_pos e47] at h
            have c48 := l_toProblem_cl t0_Labels t0_Degree t0_Nodes t0_Edges e7 e8
            have c49 := l_toIntS_cl t1_ e10
            have c50 := l_eqProblem_cl r24_.1 r24_.2.1 r24_.2.2.1 r24_.2.2.2.1 q12_.1 q12_.2.1 q12_.2.2.1 q12_.2.2.2.1 e25 e26
            obtain rfl := Option.some.inj h
            simp (maxDischargeDepth := 9) only [↓xpre, xpost, xlst, xc2, xcore, yset, rg0, ↓reduceIte, Nat.reduceEqDiff, Nat.reduceLT, Nat.reduceLeDiff, Nat.reduceAdd, Nat.reduceMul, Nat.reduceMod, Nat.reduceSub, Nat.reduceBEq, Int.reduceLE, Int.reduceLT, Int.reduceEq, Int.reduceSub, Int.reduceAdd, Int.reduceToNat, Int.reduceNeg, e1, e2, e3, e4.1, e4.2, c5, e6, e7, e8, c9, e10, c11, c12, c22, c23, c24, e25, e26, c27, e28, e29, e30, c31, c32, e33, c34, c35, e36, e37.1, e37.2, c38, e39.1, e39.2, c40, e41, c42, e43.1, e43.2, c44, c45, e46, decide_eq_true e47, c48, c49, c50] <;> (repeat' apply And.intro) <;> first | rfl | exact ⟨_, rfl⟩ | simp [lst, cat2_nil]
           ·rw [if_neg e47] at h
            obtain rfl := Option.some.inj h
            simp (maxDischargeDepth := 9) only [↓xpre, xpost, xlst, xc2, xcore, yset, rg0, ↓reduceIte, Nat.reduceEqDiff, Nat.reduceLT, Nat.reduceLeDiff, Nat.reduceAdd, Nat.reduceMul, Nat.reduceMod, Nat.reduceSub, Nat.reduceBEq, Int.reduceLE, Int.reduceLT, Int.reduceEq, Int.reduceSub, Int.reduceAdd, Int.reduceToNat, Int.reduceNeg, e1, e2, e3, e4.1, e4.2, c5, e6, e7, e8, c9, e10, c11, c12, c22, c23, c24, e25, e26, c27, e28, e29, e30, c31, c32, e33, c34, c35, e36, e37.1, e37.2, c38, e39.1, e39.2, c40, e41, c42, e43.1, e43.2, c44, c45, e46, e47] <;> (repeat' apply And.intro) <;> first | rfl | exact ⟨_, rfl⟩ | simp [lst, cat2_nil]
        ·exact absurd (decide_eq_true rfl) e36
       ·rw [if_neg e33] at h
        have e33f : (sameP t0_Labels t0_Degree t0_Nodes t0_Edges t0_Labels t0_Degree t0_Nodes t0_Edges) = false := Bool.eq_false_iff.mpr e33
        obtain rfl := Option.some.inj h
        simp (maxDischargeDepth := 9) only [↓xpre, xpost, xlst, xc2, xcore, yset, rg0, ↓reduceIte, Nat.reduceEqDiff, Nat.reduceLT, Nat.reduceLeDiff, Nat.reduceAdd, Nat.reduceMul, Nat.reduceMod, Nat.reduceSub, Nat.reduceBEq, Int.reduceLE, Int.reduceLT, Int.reduceEq, Int.reduceSub, Int.reduceAdd, Int.reduceToNat, Int.reduceNeg, e1, e2, e3, e4.1, e4.2, c5, e6, e7, e8, c9, e10, c11, c12, c22, c23, c24, e25, e26, c27, e28, e29, e30, c31, c32, e33f] <;> (repeat' apply And.intro) <;> first | rfl | exact ⟨_, rfl⟩ | simp [lst, cat2_nil]
      ·rw [if_neg e30] at h
       have e30f : q12_.2.2.2.2 = false := Bool.eq_false_iff.mpr e30
       obtain rfl := Option.some.inj h
       simp (maxDischargeDepth := 9) only [↓xpre, xpost, xlst, xc2, xcore, yset, rg0, ↓reduceIte, Nat.reduceEqDiff, Nat.reduceLT, Nat.reduceLeDiff, Nat.reduceAdd, Nat.reduceMul, Nat.reduceMod, Nat.reduceSub, Nat.reduceBEq, Int.reduceLE, Int.reduceLT, Int.reduceEq, Int.reduceSub, Int.reduceAdd, Int.reduceToNat, Int.reduceNeg, e1, e2, e3, e4.1, e4.2, c5, e6, e7, e8, c9, e10, c11, c12, c22, c23, c24, e25, e26, c27, e28, e29, e30f] <;> (repeat' apply And.intro) <;> first | rfl | exact ⟨_, rfl⟩ | simp [lst, cat2_nil]
     ·rw [if_neg e29] at h
      have e29f : r24_.2.2.2.2 = false := Bool.eq_false_iff.mpr e29
      by_cases e30 : q12_.2.2.2.2 = true
      ·rw [if_pos e30] at h
       obtain rfl := Option.some.inj h
       simp (maxDischargeDepth := 9) only [↓xpre, xpost, xlst, xc2, xcore, yset, rg0, ↓reduceIte, Nat.reduceEqDiff, Nat.reduceLT, Nat.reduceLeDiff, Nat.reduceAdd, Nat.reduceMul, Nat.reduceMod, Nat.reduceSub, Nat.reduceBEq, Int.reduceLE, Int.reduceLT, Int.reduceEq, Int.reduceSub, Int.reduceAdd, Int.reduceToNat, Int.reduceNeg, e1, e2, e3, e4.1, e4.2, c5, e6, e7, e8, c9, e10, c11, c12, c22, c23, c24, e25, e26, c27, e28, e29f, e30] <;> (repeat' apply And.intro) <;> first | rfl | exact ⟨_, rfl⟩ | simp [lst, cat2_nil]
      ·rw [if_neg e30] at h
       have e30f : q12_.2.2.2.2 = false := Bool.eq_false_iff.mpr e30
       have c31 := l_toProblem_cl t0_Labels t0_Degree t0_Nodes t0_Edges e7 e8
       have c32 := l_eqProblem_cl t0_Labels t0_Degree t0_Nodes t0_Edges t0_Labels t0_Degree t0_Nodes t0_Edges e7 e8
       by_cases e33 : (sameP t0_Labels t0_Degree t0_Nodes t0_Edges t0_Labels t0_Degree t0_Nodes t0_Edges) = true
       ·rw [if_pos e33] at h
        have c34 := l_toIntS_cl t1_ e10
        have c35 := l_eqIntS_cl t1_ t1_ e10
        by_cases e36 : (decide (t1_ = t1_)) = true
        ·rw [if_pos e36] at h
         obtain ⟨e37, h⟩ := ckS h
         have c38 := l_markProblem_cl t0_Labels t0_Degree t0_Nodes t0_Edges (1 : Int) e7 e8 e37
         obtain ⟨e39, h⟩ := ckS h
         have c40 := l_markIntS_cl t1_ ((1 : Int) + tot t0_Nodes + tot t0_Edges) e10 e39
         by_cases e41 : (((1 : Int) + tot t0_Nodes + tot t0_Edges) + t1_.length) < 0
         ·rw [if_pos e41] at h
          obtain rfl := Option.some.inj h
          simp (maxDischargeDepth := 9) only [↓xpre, xpost, xlst, xc2, xcore, yset, rg0, ↓reduceIte, Nat.reduceEqDiff, Nat.reduceLT, Nat.reduceLeDiff, Nat.reduceAdd, Nat.reduceMul, Nat.reduceMod, Nat.reduceSub, Nat.reduceBEq, Int.reduceLE, Int.reduceLT, Int.reduceEq, Int.reduceSub, Int.reduceAdd, Int.reduceToNat, Int.reduceNeg, e1, e2, e3, e4.1, e4.2, c5, e6, e7, e8, c9, e10, c11, c12, c22, c23, c24, e25, e26, c27, e28, e29f, e30f, c31, c32, e33, c34, c35, e36, e37.1, e37.2, c38, e39.1, e39.2, c40, e41] <;> (repeat' apply And.intro) <;> first | rfl | exact ⟨_, rfl⟩ | simp [lst, cat2_nil]
         ·rw [if_neg e41] at h
          have c42 := l_eqProblem_cl r24_.1 r24_.2.1 r24_.2.2.1 r24_.2.2.2.1 q12_.1 q12_.2.1 q12_.2.2.1 q12_.2.2.2.1 e25 e26
          obtain ⟨e43, h⟩ := ckS h
          have c44 := l_markProblem_cl r24_.1 r24_.2.1 r24_.2.2.1 r24_.2.2.2.1 (1 : Int) e25 e26 e43
          obtain ⟨r45_, hl45, h⟩ := bindS h
          try dsimp only at h
          have c45 := l_heldProblem_call r24_.1 r24_.2.1 (marks (1 : Int) r24_.2.2.1) (marks ((1 : Int) + tot r24_.2.2.1) r24_.2.2.2.1) (1 : Int) hl45
          by_cases e46 : r45_ < 0
          ·rw [if_pos e46] at h
           obtain rfl := Option.some.inj h
           simp (maxDischargeDepth := 9) only [↓xpre, xpost, xlst, xc2, xcore, yset, rg0, ↓reduceIte, Nat.reduceEqDiff, Nat.reduceLT, Nat.reduceLeDiff, Nat.reduceAdd, Nat.reduceMul, Nat.reduceMod, Nat.reduceSub, Nat.reduceBEq, Int.reduceLE, Int.reduceLT, Int.reduceEq, Int.reduceSub, Int.reduceAdd, Int.reduceToNat, Int.reduceNeg, e1, e2, e3, e4.1, e4.2, c5, e6, e7, e8, c9, e10, c11, c12, c22, c23, c24, e25, e26, c27, e28, e29f, e30f, c31, c32, e33, c34, c35, e36, e37.1, e37.2, c38, e39.1, e39.2, c40, e41, c42, e43.1, e43.2, c44, c45, e46] <;> (repeat' apply And.intro) <;> first | rfl | exact ⟨_, rfl⟩ | simp [lst, cat2_nil]
          ·rw [if_neg e46] at h
           by_cases e47 : r45_ = ((1 : Int) + tot r24_.2.2.1 + tot r24_.2.2.2.1)
           ·rw [if_pos e47] at h
            have c48 := l_toProblem_cl t0_Labels t0_Degree t0_Nodes t0_Edges e7 e8
            have c49 := l_toIntS_cl t1_ e10
            have c50 := l_eqProblem_cl r24_.1 r24_.2.1 r24_.2.2.1 r24_.2.2.2.1 q12_.1 q12_.2.1 q12_.2.2.1 q12_.2.2.2.1 e25 e26
            obtain rfl := Option.some.inj h
            simp (maxDischargeDepth := 9) only [↓xpre, xpost, xlst, xc2, xcore, yset, rg0, ↓reduceIte, Nat.reduceEqDiff, Nat.reduceLT, Nat.reduceLeDiff, Nat.reduceAdd, Nat.reduceMul, Nat.reduceMod, Nat.reduceSub, Nat.reduceBEq, Int.reduceLE, Int.reduceLT, Int.reduceEq, Int.reduceSub, Int.reduceAdd, Int.reduceToNat, Int.reduceNeg, e1, e2, e3, e4.1, e4.2, c5, e6, e7, e8, c9, e10, c11, c12, c22, c23, c24, e25, e26, c27, e28, e29f, e30f, c31, c32, e33, c34, c35, e36, e37.1, e37.2, c38, e39.1, e39.2, c40, e41, c42, e43.1, e43.2, c44, c45, e46, decide_eq_true e47, c48, c49, c50] <;> (repeat' apply And.intro) <;> first | rfl | exact ⟨_, rfl⟩ | simp [lst, cat2_nil]
           ·rw [if_neg e47] at h
            obtain rfl := Option.some.inj h
            simp (maxDischargeDepth := 9) only [↓xpre, xpost, xlst, xc2, xcore, yset, rg0, ↓reduceIte, Nat.reduceEqDiff, Nat.reduceLT, Nat.reduceLeDiff, Nat.reduceAdd, Nat.reduceMul, Nat.reduceMod, Nat.reduceSub, Nat.reduceBEq, Int.reduceLE, Int.reduceLT, Int.reduceEq, Int.reduceSub, Int.reduceAdd, Int.reduceToNat, Int.reduceNeg, e1, e2, e3, e4.1, e4.2, c5, e6, e7, e8, c9, e10, c11, c12, c22, c23, c24, e25, e26, c27, e28, e29f, e30f, c31, c32, e33, c34, c35, e36, e37.1, e37.2, c38, e39.1, e39.2, c40, e41, c42, e43.1, e43.2, c44, c45, e46, e47] <;> (repeat' apply And.intro) <;> first | rfl | exact ⟨_, rfl⟩ | simp [lst, cat2_nil]
        ·exact absurd (decide_eq_true rfl) e36
       ·rw [if_neg e33] at h
        have e33f : (sameP t0_Labels t0_Degree t0_Nodes t0_Edges t0_Labels t0_Degree t0_Nodes t0_Edges) = false := Bool.eq_false_iff.mpr e33
        obtain rfl := Option.some.inj h
        simp (maxDischargeDepth := 9) only [↓xpre, xpost, xlst, xc2, xcore, yset, rg0, ↓reduceIte, Nat.reduceEqDiff, Nat.reduceLT, Nat.reduceLeDiff, Nat.reduceAdd, Nat.reduceMul, Nat.reduceMod, Nat.reduceSub, Nat.reduceBEq, Int.reduceLE, Int.reduceLT, Int.reduceEq, Int.reduceSub, Int.reduceAdd, Int.reduceToNat, Int.reduceNeg, e1, e2, e3, e4.1, e4.2, c5, e6, e7, e8, c9, e10, c11, c12, c22, c23, c24, e25, e26, c27, e28, e29f, e30f, c31, c32, e33f] <;> (repeat' apply And.intro) <;> first | rfl | exact ⟨_, rfl⟩ | simp [lst, cat2_nil]
    ·rw [if_neg e28] at h
     have e28f : (sameP r24_.1 r24_.2.1 r24_.2.2.1 r24_.2.2.2.1 q12_.1 q12_.2.1 q12_.2.2.1 q12_.2.2.2.1) = false := Bool.eq_false_iff.mpr e28
     obtain rfl := Option.some.inj h
     simp (maxDischargeDepth := 9) only [↓xpre, xpost, xlst, xc2, xcore, yset, rg0, ↓reduceIte, Nat.reduceEqDiff, Nat.reduceLT, Nat.reduceLeDiff, Nat.reduceAdd, Nat.reduceMul, Nat.reduceMod, Nat.reduceSub, Nat.reduceBEq, Int.reduceLE, Int.reduceLT, Int.reduceEq, Int.reduceSub, Int.reduceAdd, Int.reduceToNat, Int.reduceNeg, e1, e2, e3, e4.1, e4.2, c5, e6, e7, e8, c9, e10, c11, c12, c22, c23, c24, e25, e26, c27, e28f] <;> (repeat' apply And.intro) <;> first | rfl | exact ⟨_, rfl⟩ | simp [lst, cat2_nil]


end Go.Proofs.Ytdjfaadpmbkcmaa
