/- Problems with some labels: the law, lifted. Conditions: none. -/
import Derived.Test.YtdjfaadpmbkcmaaL6
import Derived.Test.YtdjfaadpmbkcmaaKlA
import Derived.Test.YtdjfaadpmbkcmaaPB
namespace Go.Proofs.Ytdjfaadpmbkcmaa
open Go Dv
set_option linter.unusedSimpArgs false
set_option linter.unusedVariables false
set_option maxRecDepth 100000
set_option maxHeartbeats 4000000

noncomputable def l_FnExactKeepLabels (t0_Labels : Int) (t0_Degree : Int) (t0_Nodes : List (List Int)) (t0_Edges : List (List Int)) (t1_ : List Int) : Option (Bool) :=
 if 1048576 < (t1_.length : Int) then
  some true
 else
  ck (Wide t0_Nodes) <|
  ck (Wide t0_Edges) <|
  ck (0 ≤ (1048576 : Int) ∧ (1048576 : Int) ≤ 1048576) <|
  if (szP (1048576 : Int) t0_Nodes t0_Edges) < 0 then
   some true
  else
   ck (Short t0_Nodes) <|
   ck (Short t0_Edges) <|
   ck (t1_.length < 1099511627776) <|
   (s_KeepLabels t0_Labels t0_Degree t0_Nodes t0_Edges t1_).bind fun r12_ =>
   match r12_ with
   | .inl q12_ =>
    (i_KeepLabels t0_Labels t0_Degree t0_Nodes t0_Edges t1_).bind fun r15_ =>
    ck (Short r15_.2.2.1) <|
    ck (Short r15_.2.2.2.1) <|
    if (sameP r15_.1 r15_.2.1 r15_.2.2.1 r15_.2.2.2.1 q12_.1 q12_.2.1 q12_.2.2.1 q12_.2.2.2.1) = true then
     if r15_.2.2.2.2 = true then
      if q12_.2.2.2.2 = true then
       if (sameP t0_Labels t0_Degree t0_Nodes t0_Edges t0_Labels t0_Degree t0_Nodes t0_Edges) = true then
        if (decide (t1_ = t1_)) = true then
         ck (0 ≤ (1 : Int) ∧ (1 : Int) + tot t0_Nodes + tot t0_Edges < 1099511627776) <|
         ck (0 ≤ ((1 : Int) + tot t0_Nodes + tot t0_Edges) ∧ ((1 : Int) + tot t0_Nodes + tot t0_Edges) < 1099511627776) <|
         if (((1 : Int) + tot t0_Nodes + tot t0_Edges) + t1_.length) < 0 then
          some false
         else
          ck (0 ≤ (1 : Int) ∧ (1 : Int) + tot r15_.2.2.1 + tot r15_.2.2.2.1 < 1099511627776) <|
          (l_heldProblem r15_.1 r15_.2.1 (marks (1 : Int) r15_.2.2.1) (marks ((1 : Int) + tot r15_.2.2.1) r15_.2.2.2.1) (1 : Int)).bind fun r36_ =>
          if r36_ < 0 then
           some false
          else
           if r36_ = ((1 : Int) + tot r15_.2.2.1 + tot r15_.2.2.2.1) then
            some true
           else
            some false
        else
         some false
       else
        some false
      else
       some false
     else
      if q12_.2.2.2.2 = true then
       some false
      else
       if (sameP t0_Labels t0_Degree t0_Nodes t0_Edges t0_Labels t0_Degree t0_Nodes t0_Edges) = true then
        if (decide (t1_ = t1_)) = true then
         ck (0 ≤ (1 : Int) ∧ (1 : Int) + tot t0_Nodes + tot t0_Edges < 1099511627776) <|
         ck (0 ≤ ((1 : Int) + tot t0_Nodes + tot t0_Edges) ∧ ((1 : Int) + tot t0_Nodes + tot t0_Edges) < 1099511627776) <|
         if (((1 : Int) + tot t0_Nodes + tot t0_Edges) + t1_.length) < 0 then
          some false
         else
          ck (0 ≤ (1 : Int) ∧ (1 : Int) + tot r15_.2.2.1 + tot r15_.2.2.2.1 < 1099511627776) <|
          (l_heldProblem r15_.1 r15_.2.1 (marks (1 : Int) r15_.2.2.1) (marks ((1 : Int) + tot r15_.2.2.1) r15_.2.2.2.1) (1 : Int)).bind fun r36_ =>
          if r36_ < 0 then
           some false
          else
           if r36_ = ((1 : Int) + tot r15_.2.2.1 + tot r15_.2.2.2.1) then
            some true
           else
            some false
        else
         some false
       else
        some false
    else
     some false
   | .inr q12_ =>
    if (!q12_.2.2.1.isEmpty) = true then
     (i_KeepLabels t0_Labels t0_Degree t0_Nodes t0_Edges t1_).bind fun r23_ =>
     ck (Short r23_.2.2.1) <|
     ck (Short r23_.2.2.2.1) <|
     if (sameP r23_.1 r23_.2.1 r23_.2.2.1 r23_.2.2.2.1 q12_.1 q12_.2.1 q12_.2.2.1 q12_.2.2.2.1) = true then
      if r23_.2.2.2.2 = true then
       if q12_.2.2.2.2 = true then
        if (sameP t0_Labels t0_Degree t0_Nodes t0_Edges t0_Labels t0_Degree t0_Nodes t0_Edges) = true then
         if (decide (t1_ = t1_)) = true then
          ck (0 ≤ (1 : Int) ∧ (1 : Int) + tot t0_Nodes + tot t0_Edges < 1099511627776) <|
          ck (0 ≤ ((1 : Int) + tot t0_Nodes + tot t0_Edges) ∧ ((1 : Int) + tot t0_Nodes + tot t0_Edges) < 1099511627776) <|
          if (((1 : Int) + tot t0_Nodes + tot t0_Edges) + t1_.length) < 0 then
           some false
          else
           ck (0 ≤ (1 : Int) ∧ (1 : Int) + tot r23_.2.2.1 + tot r23_.2.2.2.1 < 1099511627776) <|
           (l_heldProblem r23_.1 r23_.2.1 (marks (1 : Int) r23_.2.2.1) (marks ((1 : Int) + tot r23_.2.2.1) r23_.2.2.2.1) (1 : Int)).bind fun r44_ =>
           if r44_ < 0 then
            some false
           else
            if r44_ = ((1 : Int) + tot r23_.2.2.1 + tot r23_.2.2.2.1) then
             some true
            else
             some false
         else
          some false
        else
         some false
       else
        some false
      else
       if q12_.2.2.2.2 = true then
        some false
       else
        if (sameP t0_Labels t0_Degree t0_Nodes t0_Edges t0_Labels t0_Degree t0_Nodes t0_Edges) = true then
         if (decide (t1_ = t1_)) = true then
          ck (0 ≤ (1 : Int) ∧ (1 : Int) + tot t0_Nodes + tot t0_Edges < 1099511627776) <|
          ck (0 ≤ ((1 : Int) + tot t0_Nodes + tot t0_Edges) ∧ ((1 : Int) + tot t0_Nodes + tot t0_Edges) < 1099511627776) <|
          if (((1 : Int) + tot t0_Nodes + tot t0_Edges) + t1_.length) < 0 then
           some false
          else
           ck (0 ≤ (1 : Int) ∧ (1 : Int) + tot r23_.2.2.1 + tot r23_.2.2.2.1 < 1099511627776) <|
           (l_heldProblem r23_.1 r23_.2.1 (marks (1 : Int) r23_.2.2.1) (marks ((1 : Int) + tot r23_.2.2.1) r23_.2.2.2.1) (1 : Int)).bind fun r44_ =>
           if r44_ < 0 then
            some false
           else
            if r44_ = ((1 : Int) + tot r23_.2.2.1 + tot r23_.2.2.2.1) then
             some true
            else
             some false
         else
          some false
        else
         some false
     else
      some false
    else
     (i_KeepLabels t0_Labels t0_Degree t0_Nodes t0_Edges t1_).bind fun r24_ =>
     ck (Short r24_.2.2.1) <|
     ck (Short r24_.2.2.2.1) <|
     if (sameP r24_.1 r24_.2.1 r24_.2.2.1 r24_.2.2.2.1 q12_.1 q12_.2.1 q12_.2.2.1 q12_.2.2.2.1) = true then
      if r24_.2.2.2.2 = true then
       if q12_.2.2.2.2 = true then
        if (sameP t0_Labels t0_Degree t0_Nodes t0_Edges t0_Labels t0_Degree t0_Nodes t0_Edges) = true then
         if (decide (t1_ = t1_)) = true then
          ck (0 ≤ (1 : Int) ∧ (1 : Int) + tot t0_Nodes + tot t0_Edges < 1099511627776) <|
          ck (0 ≤ ((1 : Int) + tot t0_Nodes + tot t0_Edges) ∧ ((1 : Int) + tot t0_Nodes + tot t0_Edges) < 1099511627776) <|
          if (((1 : Int) + tot t0_Nodes + tot t0_Edges) + t1_.length) < 0 then
           some false
          else
           ck (0 ≤ (1 : Int) ∧ (1 : Int) + tot r24_.2.2.1 + tot r24_.2.2.2.1 < 1099511627776) <|
           (l_heldProblem r24_.1 r24_.2.1 (marks (1 : Int) r24_.2.2.1) (marks ((1 : Int) + tot r24_.2.2.1) r24_.2.2.2.1) (1 : Int)).bind fun r45_ =>
           if r45_ < 0 then
            some false
           else
            if r45_ = ((1 : Int) + tot r24_.2.2.1 + tot r24_.2.2.2.1) then
             some true
            else
             some false
         else
          some false
        else
         some false
       else
        some false
      else
       if q12_.2.2.2.2 = true then
        some false
       else
        if (sameP t0_Labels t0_Degree t0_Nodes t0_Edges t0_Labels t0_Degree t0_Nodes t0_Edges) = true then
         if (decide (t1_ = t1_)) = true then
          ck (0 ≤ (1 : Int) ∧ (1 : Int) + tot t0_Nodes + tot t0_Edges < 1099511627776) <|
          ck (0 ≤ ((1 : Int) + tot t0_Nodes + tot t0_Edges) ∧ ((1 : Int) + tot t0_Nodes + tot t0_Edges) < 1099511627776) <|
          if (((1 : Int) + tot t0_Nodes + tot t0_Edges) + t1_.length) < 0 then
           some false
          else
           ck (0 ≤ (1 : Int) ∧ (1 : Int) + tot r24_.2.2.1 + tot r24_.2.2.2.1 < 1099511627776) <|
           (l_heldProblem r24_.1 r24_.2.1 (marks (1 : Int) r24_.2.2.1) (marks ((1 : Int) + tot r24_.2.2.1) r24_.2.2.2.1) (1 : Int)).bind fun r45_ =>
           if r45_ < 0 then
            some false
           else
            if r45_ = ((1 : Int) + tot r24_.2.2.1 + tot r24_.2.2.2.1) then
             some true
            else
             some false
         else
          some false
        else
         some false
     else
      some false
/-- laws.FnExactKeepLabels -/
def k5 : SC :=
 .seq
 (.ops [
 ⟨(some 2), (.box 24 (.tmp 0)), 0, none⟩,
 ⟨(some 4), (.assign (.const (.bool false))), 4, none⟩])
 (.seq
 (.seq
 (.ops [
 ⟨(some 17), (.move (.tmp 1)), 33, none⟩,
 ⟨(some 18), (.call ⟨(.builtin .len), #[(.tmp 17)], #[33]⟩), 3, none⟩,
 ⟨(some 19), (.binOp .gtr 3 (.tmp 18) (.const (.int .i64 1048576)) 3), 4, none⟩])
 (.cond (.tmp 19)
 (.seq
 (.ops [
 ⟨(some 4), (.assign (.const (.bool true))), 4, none⟩])
 .ret)
 .skip))
 (.seq
 (.ops [
 ⟨(some 5), (.assign (.const (.int .i64 1048576))), 3, none⟩])
 (.seq
 (.ops [
 ⟨(some 20), (.load 24 (.tmp 2)), 24, none⟩,
 ⟨(some 21), (.move (.tmp 5)), 3, none⟩,
 ⟨(some 22), (.call ⟨(.value (.func 8)), #[(.tmp 20), (.tmp 21)], #[24, 3]⟩), 3, none⟩,
 ⟨(some 5), (.assign (.tmp 22)), 3, none⟩])
 (.seq
 (.seq
 (.ops [
 ⟨(some 23), (.move (.tmp 5)), 3, none⟩,
 ⟨(some 24), (.binOp .lss 3 (.tmp 23) (.const (.int .i64 0)) 3), 4, none⟩])
 (.cond (.tmp 24)
 (.seq
 (.ops [
 ⟨(some 4), (.assign (.const (.bool true))), 4, none⟩])
 .ret)
 .skip))
 (.seq
 (.ops [
 ⟨(some 26), (.load 24 (.tmp 2)), 24, none⟩,
 ⟨(some 27), (.call ⟨(.value (.func 10)), #[(.tmp 26)], #[24]⟩), 26, none⟩,
 ⟨(some 28), (.move (.tmp 1)), 33, none⟩,
 ⟨(some 29), (.call ⟨(.value (.func 16)), #[(.tmp 28)], #[33]⟩), 33, none⟩,
 ⟨(some 30), (.call ⟨(.value (.func 20)), #[(.tmp 27), (.tmp 29)], #[26, 33]⟩), 27, none⟩,
 ⟨(some 25), (.move (.tmp 30)), 27, none⟩,
 ⟨(some 31), (.extract (.tmp 25) 0), 26, none⟩,
 ⟨(some 32), (.extract (.tmp 25) 1), 4, none⟩,
 ⟨(some 6), (.alloc 26), 0, none⟩,
 ⟨none, (.store 26 (.tmp 6) (.tmp 31)), 0, none⟩,
 ⟨(some 7), (.assign (.tmp 32)), 4, none⟩])
 (.seq
 (.ops [
 ⟨(some 33), (.load 24 (.tmp 2)), 24, none⟩,
 ⟨(some 34), (.call ⟨(.value (.func 10)), #[(.tmp 33)], #[24]⟩), 26, none⟩,
 ⟨(some 8), (.alloc 26), 0, none⟩,
 ⟨none, (.store 26 (.tmp 8) (.tmp 34)), 0, none⟩])
 (.seq
 (.ops [
 ⟨(some 35), (.move (.tmp 1)), 33, none⟩,
 ⟨(some 36), (.call ⟨(.value (.func 16)), #[(.tmp 35)], #[33]⟩), 33, none⟩,
 ⟨(some 9), (.assign (.tmp 36)), 33, none⟩])
 (.seq
 (.ops [
 ⟨(some 38), (.load 26 (.tmp 8)), 26, none⟩,
 ⟨(some 39), (.move (.tmp 9)), 33, none⟩,
 ⟨(some 40), (.call ⟨(.value (.func 21)), #[(.tmp 38), (.tmp 39)], #[26, 33]⟩), 27, none⟩,
 ⟨(some 37), (.move (.tmp 40)), 27, none⟩,
 ⟨(some 41), (.extract (.tmp 37) 0), 26, none⟩,
 ⟨(some 42), (.extract (.tmp 37) 1), 4, none⟩,
 ⟨(some 10), (.alloc 26), 0, none⟩,
 ⟨none, (.store 26 (.tmp 10) (.tmp 41)), 0, none⟩,
 ⟨(some 11), (.assign (.tmp 42)), 4, none⟩])
 (.seq
 (.seq
 (.ops [
 ⟨(some 43), (.load 26 (.tmp 10)), 26, none⟩,
 ⟨(some 44), (.load 26 (.tmp 6)), 26, none⟩,
 ⟨(some 45), (.call ⟨(.value (.func 12)), #[(.tmp 43), (.tmp 44)], #[26, 26]⟩), 4, none⟩,
 ⟨(some 46), (.unOp .not 4 (.tmp 45)), 4, none⟩,
 ⟨(some 47), (.move (.tmp 46)), 4, none⟩,
 ⟨(some 48), (.move (.tmp 11)), 4, (some (some 47, false))⟩,
 ⟨(some 49), (.move (.tmp 7)), 4, (some (some 47, false))⟩,
 ⟨(some 50), (.binOp .neq 4 (.tmp 48) (.tmp 49) 4), 4, (some (some 47, false))⟩,
 ⟨(some 51), (.pick (.tmp 47) (.const (.bool true)) (.tmp 50)), 4, none⟩])
 (.cond (.tmp 51)
 (.seq
 (.ops [
 ⟨(some 4), (.assign (.const (.bool false))), 4, none⟩])
 .ret)
 .skip))
 (.seq
 (.seq
 (.draws [
 (⟨[52, 8, 8], [52, 53, 54, 55, 56], [52]⟩, ⟨(some 52), (.load 26 (.tmp 8)), 26, none⟩),
 (⟨[53, 2, 2], [52, 53, 54, 55, 56], [53]⟩, ⟨(some 53), (.load 24 (.tmp 2)), 24, none⟩),
 (⟨[54, 53, 2], [52, 53, 54, 55, 56], [54]⟩, ⟨(some 54), (.call ⟨(.value (.func 10)), #[(.tmp 53)], #[24]⟩), 26, none⟩),
 (⟨[55, 52, 54, 8, 54], [52, 53, 54, 55, 56], [55]⟩, ⟨(some 55), (.call ⟨(.value (.func 12)), #[(.tmp 52), (.tmp 54)], #[26, 26]⟩), 4, none⟩),
 (⟨[56, 55, 55], [52, 53, 54, 55, 56], [56]⟩, ⟨(some 56), (.unOp .not 4 (.tmp 55)), 4, none⟩)])
 (.cond (.tmp 56)
 (.seq
 (.ops [
 ⟨(some 4), (.assign (.const (.bool false))), 4, none⟩])
 .ret)
 .skip))
 (.seq
 (.seq
 (.ops [
 ⟨(some 57), (.move (.tmp 9)), 33, none⟩,
 ⟨(some 58), (.move (.tmp 1)), 33, none⟩,
 ⟨(some 59), (.call ⟨(.value (.func 16)), #[(.tmp 58)], #[33]⟩), 33, none⟩,
 ⟨(some 60), (.call ⟨(.value (.func 18)), #[(.tmp 57), (.tmp 59)], #[33, 33]⟩), 4, none⟩,
 ⟨(some 61), (.unOp .not 4 (.tmp 60)), 4, none⟩])
 (.cond (.tmp 61)
 (.seq
 (.ops [
 ⟨(some 4), (.assign (.const (.bool false))), 4, none⟩])
 .ret)
 .skip))
 (.seq
 (.ops [
 ⟨(some 12), (.assign (.const (.int .i64 1))), 3, none⟩])
 (.seq
 (.ops [
 ⟨(some 62), (.load 26 (.tmp 8)), 26, none⟩,
 ⟨(some 63), (.move (.tmp 12)), 3, none⟩,
 ⟨(some 64), (.call ⟨(.value (.func 13)), #[(.tmp 62), (.tmp 63)], #[26, 3]⟩), 3, none⟩,
 ⟨(some 12), (.assign (.tmp 64)), 3, none⟩])
 (.seq
 (.ops [
 ⟨(some 65), (.move (.tmp 9)), 33, none⟩,
 ⟨(some 66), (.move (.tmp 12)), 3, none⟩,
 ⟨(some 67), (.call ⟨(.value (.func 19)), #[(.tmp 65), (.tmp 66)], #[33, 3]⟩), 3, none⟩,
 ⟨(some 12), (.assign (.tmp 67)), 3, none⟩])
 (.seq
 (.seq
 (.ops [
 ⟨(some 68), (.move (.tmp 12)), 3, none⟩,
 ⟨(some 69), (.binOp .lss 3 (.tmp 68) (.const (.int .i64 0)) 3), 4, none⟩,
 ⟨(some 70), (.move (.tmp 69)), 4, none⟩,
 ⟨(some 71), (.load 26 (.tmp 10)), 26, (some (some 70, false))⟩,
 ⟨(some 72), (.load 26 (.tmp 6)), 26, (some (some 70, false))⟩,
 ⟨(some 73), (.call ⟨(.value (.func 12)), #[(.tmp 71), (.tmp 72)], #[26, 26]⟩), 4, (some (some 70, false))⟩,
 ⟨(some 74), (.unOp .not 4 (.tmp 73)), 4, (some (some 70, false))⟩,
 ⟨(some 75), (.pick (.tmp 70) (.const (.bool true)) (.tmp 74)), 4, none⟩,
 ⟨(some 76), (.move (.tmp 75)), 4, none⟩,
 ⟨(some 77), (.move (.tmp 11)), 4, (some (some 76, false))⟩,
 ⟨(some 78), (.move (.tmp 7)), 4, (some (some 76, false))⟩,
 ⟨(some 79), (.binOp .neq 4 (.tmp 77) (.tmp 78) 4), 4, (some (some 76, false))⟩,
 ⟨(some 80), (.pick (.tmp 76) (.const (.bool true)) (.tmp 79)), 4, none⟩])
 (.cond (.tmp 80)
 (.seq
 (.ops [
 ⟨(some 4), (.assign (.const (.bool false))), 4, none⟩])
 .ret)
 .skip))
 (.seq
 (.ops [
 ⟨(some 13), (.assign (.const (.int .i64 1))), 3, none⟩])
 (.seq
 (.ops [
 ⟨(some 81), (.load 26 (.tmp 10)), 26, none⟩,
 ⟨(some 82), (.move (.tmp 13)), 3, none⟩,
 ⟨(some 83), (.call ⟨(.value (.func 13)), #[(.tmp 81), (.tmp 82)], #[26, 3]⟩), 3, none⟩,
 ⟨(some 13), (.assign (.tmp 83)), 3, none⟩])
 (.seq
 (.ops [
 ⟨(some 14), (.assign (.const (.int .i64 1))), 3, none⟩])
 (.seq
 (.ops [
 ⟨(some 84), (.load 26 (.tmp 10)), 26, none⟩,
 ⟨(some 85), (.move (.tmp 14)), 3, none⟩,
 ⟨(some 86), (.call ⟨(.value (.func 14)), #[(.tmp 84), (.tmp 85)], #[26, 3]⟩), 3, none⟩,
 ⟨(some 14), (.assign (.tmp 86)), 3, none⟩])
 (.seq
 (.seq
 (.ops [
 ⟨(some 87), (.move (.tmp 14)), 3, none⟩,
 ⟨(some 88), (.binOp .lss 3 (.tmp 87) (.const (.int .i64 0)) 3), 4, none⟩])
 (.cond (.tmp 88)
 (.seq
 (.ops [
 ⟨(some 4), (.assign (.const (.bool false))), 4, none⟩])
 .ret)
 .skip))
 (.seq
 (.seq
 (.ops [
 ⟨(some 89), (.move (.tmp 14)), 3, none⟩,
 ⟨(some 90), (.move (.tmp 13)), 3, none⟩,
 ⟨(some 91), (.binOp .neq 3 (.tmp 89) (.tmp 90) 3), 4, none⟩])
 (.cond (.tmp 91)
 (.seq
 (.ops [
 ⟨(some 4), (.assign (.const (.bool false))), 4, none⟩])
 .ret)
 .skip))
 (.seq
 (.ops [
 ⟨(some 93), (.load 24 (.tmp 2)), 24, none⟩,
 ⟨(some 94), (.call ⟨(.value (.func 10)), #[(.tmp 93)], #[24]⟩), 26, none⟩,
 ⟨(some 95), (.move (.tmp 1)), 33, none⟩,
 ⟨(some 96), (.call ⟨(.value (.func 16)), #[(.tmp 95)], #[33]⟩), 33, none⟩,
 ⟨(some 97), (.call ⟨(.value (.func 21)), #[(.tmp 94), (.tmp 96)], #[26, 33]⟩), 27, none⟩,
 ⟨(some 92), (.move (.tmp 97)), 27, none⟩,
 ⟨(some 98), (.extract (.tmp 92) 0), 26, none⟩,
 ⟨(some 99), (.extract (.tmp 92) 1), 4, none⟩,
 ⟨(some 15), (.alloc 26), 0, none⟩,
 ⟨none, (.store 26 (.tmp 15) (.tmp 98)), 0, none⟩,
 ⟨(some 16), (.assign (.tmp 99)), 4, none⟩])
 (.seq
 (.seq
 (.ops [
 ⟨(some 100), (.load 26 (.tmp 15)), 26, none⟩,
 ⟨(some 101), (.load 26 (.tmp 6)), 26, none⟩,
 ⟨(some 102), (.call ⟨(.value (.func 12)), #[(.tmp 100), (.tmp 101)], #[26, 26]⟩), 4, none⟩,
 ⟨(some 103), (.unOp .not 4 (.tmp 102)), 4, none⟩,
 ⟨(some 104), (.move (.tmp 103)), 4, none⟩,
 ⟨(some 105), (.move (.tmp 16)), 4, (some (some 104, false))⟩,
 ⟨(some 106), (.move (.tmp 7)), 4, (some (some 104, false))⟩,
 ⟨(some 107), (.binOp .neq 4 (.tmp 105) (.tmp 106) 4), 4, (some (some 104, false))⟩,
 ⟨(some 108), (.pick (.tmp 104) (.const (.bool true)) (.tmp 107)), 4, none⟩])
 (.cond (.tmp 108)
 (.seq
 (.ops [
 ⟨(some 4), (.assign (.const (.bool false))), 4, none⟩])
 .ret)
 .skip))
 (.seq
 (.ops [
 ⟨(some 14), (.assign (.const (.int .i64 1))), 3, none⟩])
 (.seq
 (.ops [
 ⟨(some 109), (.load 26 (.tmp 10)), 26, none⟩,
 ⟨(some 110), (.move (.tmp 14)), 3, none⟩,
 ⟨(some 111), (.call ⟨(.value (.func 14)), #[(.tmp 109), (.tmp 110)], #[26, 3]⟩), 3, none⟩,
 ⟨(some 14), (.assign (.tmp 111)), 3, none⟩])
 (.seq
 (.seq
 (.ops [
 ⟨(some 112), (.move (.tmp 14)), 3, none⟩,
 ⟨(some 113), (.binOp .lss 3 (.tmp 112) (.const (.int .i64 0)) 3), 4, none⟩])
 (.cond (.tmp 113)
 (.seq
 (.ops [
 ⟨(some 4), (.assign (.const (.bool false))), 4, none⟩])
 .ret)
 .skip))
 (.seq
 (.seq
 (.ops [
 ⟨(some 114), (.move (.tmp 14)), 3, none⟩,
 ⟨(some 115), (.move (.tmp 13)), 3, none⟩,
 ⟨(some 116), (.binOp .neq 3 (.tmp 114) (.tmp 115) 3), 4, none⟩])
 (.cond (.tmp 116)
 (.seq
 (.ops [
 ⟨(some 4), (.assign (.const (.bool false))), 4, none⟩])
 .ret)
 .skip))
 (.seq
 (.ops [
 ⟨(some 4), (.assign (.const (.bool true))), 4, none⟩])
 .ret))))))))))))))))))))))))))))
theorem slim5 : Try.f5.body.map (slim lends) = some k5 := by kernel_rfl
theorem ok5 : fnOk Try.f5 2 = true := by kernel_rfl
theorem c5 {a l : List D} {r : D × List D} (h : wpD Y.env k5 (fin tys l.length [ResultVar.tmp 4] r) (entry a l)) (ha : a.length = 2) : Y.call 5 a l = some r :=
 call_slim (Y := Y) rfl Try.func5 (ha ▸ ok5) slim5 h
theorem l_FnExactKeepLabels_call (t0_Labels : Int) (t0_Degree : Int) (t0_Nodes : List (List Int)) (t0_Edges : List (List Int)) (t1_ : List Int) {r : Bool} (h : l_FnExactKeepLabels t0_Labels t0_Degree t0_Nodes t0_Edges t1_ = some r) : Y.call 5 [D.agg [D.int .i64 t0_Labels, D.int .i64 t0_Degree, D.sl 33 (lst (fun x => D.sl 3 (lst (D.int .i64) x)) t0_Nodes), D.sl 33 (lst (fun x => D.sl 3 (lst (D.int .i64) x)) t0_Edges)], D.sl 3 (lst (D.int .i64) t1_)] [] = some (D.bool r, []) := by
 refine c5 ?_ rfl
 unfold k5
 unfold l_FnExactKeepLabels at h
 by_cases e1 : 1048576 < (t1_.length : Int)
 ·rw [if_pos e1] at h
  obtain rfl := Option.some.inj h
  simp (maxDischargeDepth := 9) only [↓xpre, xpost, xlst, xc2, xcore, yset, rg0, ↓reduceIte, Nat.reduceEqDiff, Nat.reduceLT, Nat.reduceLeDiff, Nat.reduceAdd, Nat.reduceMul, Nat.reduceMod, Nat.reduceSub, Nat.reduceBEq, Int.reduceLE, Int.reduceLT, Int.reduceEq, Int.reduceSub, Int.reduceAdd, Int.reduceToNat, Int.reduceNeg, e1] <;> (repeat' apply And.intro) <;> first | rfl | exact ⟨_, rfl⟩ | simp [lst, cat2_nil]
 ·rw [if_neg e1] at h
  obtain ⟨e2, h⟩ := ckS h
  obtain ⟨e3, h⟩ := ckS h
  obtain ⟨e4, h⟩ := ckS h
  have c5 := l_szProblem_cl t0_Labels t0_Degree t0_Nodes t0_Edges (1048576 : Int) e2 e3 e4
  by_cases e6 : (szP (1048576 : Int) t0_Nodes t0_Edges) < 0
  ·rw [if_pos e6] at h
   obtain rfl := Option.some.inj h
   simp (maxDischargeDepth := 9) only [↓xpre, xpost, xlst, xc2, xcore, yset, rg0, ↓reduceIte, Nat.reduceEqDiff, Nat.reduceLT, Nat.reduceLeDiff, Nat.reduceAdd, Nat.reduceMul, Nat.reduceMod, Nat.reduceSub, Nat.reduceBEq, Int.reduceLE, Int.reduceLT, Int.reduceEq, Int.reduceSub, Int.reduceAdd, Int.reduceToNat, Int.reduceNeg, e1, e2, e3, e4.1, e4.2, c5, e6] <;> (repeat' apply And.intro) <;> first | rfl | exact ⟨_, rfl⟩ | simp [lst, cat2_nil]
  ·rw [if_neg e6] at h
   obtain ⟨e7, h⟩ := ckS h
   obtain ⟨e8, h⟩ := ckS h
   have c9 := l_toProblem_cl t0_Labels t0_Degree t0_Nodes t0_Edges e7 e8
   obtain ⟨e10, h⟩ := ckS h
   have c11 := l_toIntS_cl t1_ e10
   obtain ⟨r12_, hl12, h⟩ := bindS h
   try dsimp only at h
   have c12 := s_KeepLabels_call t0_Labels t0_Degree t0_Nodes t0_Edges t1_ hl12
   rcases r12_ with q12_ | q12_
   ·dsimp only at h c12
    have c13 := l_toProblem_cl t0_Labels t0_Degree t0_Nodes t0_Edges e7 e8
    have c14 := l_toIntS_cl t1_ e10
    obtain ⟨r15_, hl15, h⟩ := bindS h
    try dsimp only at h
    have c15 := i_KeepLabels_call t0_Labels t0_Degree t0_Nodes t0_Edges t1_ hl15
    obtain ⟨e16, h⟩ := ckS h
    obtain ⟨e17, h⟩ := ckS h
    have c18 := l_eqProblem_cl r15_.1 r15_.2.1 r15_.2.2.1 r15_.2.2.2.1 q12_.1 q12_.2.1 q12_.2.2.1 q12_.2.2.2.1 e16 e17
    by_cases e19 : (sameP r15_.1 r15_.2.1 r15_.2.2.1 r15_.2.2.2.1 q12_.1 q12_.2.1 q12_.2.2.1 q12_.2.2.2.1) = true
    ·rw [if_pos e19] at h
     by_cases e20 : r15_.2.2.2.2 = true
     ·rw [if_pos e20] at h
      by_cases e21 : q12_.2.2.2.2 = true
      ·rw [if_pos e21] at h
       have c22 := l_toProblem_cl t0_Labels t0_Degree t0_Nodes t0_Edges e7 e8
       have c23 := l_eqProblem_cl t0_Labels t0_Degree t0_Nodes t0_Edges t0_Labels t0_Degree t0_Nodes t0_Edges e7 e8
       by_cases e24 : (sameP t0_Labels t0_Degree t0_Nodes t0_Edges t0_Labels t0_Degree t0_Nodes t0_Edges) = true
       ·rw [if_pos e24] at h
        have c25 := l_toIntS_cl t1_ e10
        have c26 := l_eqIntS_cl t1_ t1_ e10
        by_cases e27 : (decide (t1_ = t1_)) = true
        ·rw [if_pos e27] at h
         obtain ⟨e28, h⟩ := ckS h
         have c29 := l_markProblem_cl t0_Labels t0_Degree t0_Nodes t0_Edges (1 : Int) e7 e8 e28
         obtain ⟨e30, h⟩ := ckS h
         have c31 := l_markIntS_cl t1_ ((1 : Int) + tot t0_Nodes + tot t0_Edges) e10 e30
         by_cases e32 : (((1 : Int) + tot t0_Nodes + tot t0_Edges) + t1_.length) < 0
         ·rw [if_pos e32] at h
          obtain rfl := Option.some.inj h
          simp (maxDischargeDepth := 9) only [↓xpre, xpost, xlst, xc2, xcore, yset, rg0, ↓reduceIte, Nat.reduceEqDiff, Nat.reduceLT, Nat.reduceLeDiff, Nat.reduceAdd, Nat.reduceMul, Nat.reduceMod, Nat.reduceSub, Nat.reduceBEq, Int.reduceLE, Int.reduceLT, Int.reduceEq, Int.reduceSub, Int.reduceAdd, Int.reduceToNat, Int.reduceNeg, e1, e2, e3, e4.1, e4.2, c5, e6, e7, e8, c9, e10, c11, c12, c13, c14, c15, e16, e17, c18, e19, e20, e21, c22, c23, e24, c25, c26, e27, e28.1, e28.2, c29, e30.1, e30.2, c31, e32] <;> (repeat' apply And.intro) <;> first | rfl | exact ⟨_, rfl⟩ | simp [lst, cat2_nil]
         ·rw [if_neg e32] at h
          have c33 := l_eqProblem_cl r15_.1 r15_.2.1 r15_.2.2.1 r15_.2.2.2.1 q12_.1 q12_.2.1 q12_.2.2.1 q12_.2.2.2.1 e16 e17
          obtain ⟨e34, h⟩ := ckS h
          have c35 := l_markProblem_cl r15_.1 r15_.2.1 r15_.2.2.1 r15_.2.2.2.1 (1 : Int) e16 e17 e34
          obtain ⟨r36_, hl36, h⟩ := bindS h
          try dsimp only at h
          have c36 := l_heldProblem_call r15_.1 r15_.2.1 (marks (1 : Int) r15_.2.2.1) (marks ((1 : Int) + tot r15_.2.2.1) r15_.2.2.2.1) (1 : Int) hl36
          by_cases e37 : r36_ < 0
          ·rw [if_pos e37] at h
           obtain rfl := Option.some.inj h
           simp (maxDischargeDepth := 9) only [↓xpre, xpost, xlst, xc2, xcore, yset, rg0, ↓reduceIte, Nat.reduceEqDiff, Nat.reduceLT, Nat.reduceLeDiff, Nat.reduceAdd, Nat.reduceMul, Nat.reduceMod, Nat.reduceSub, Nat.reduceBEq, Int.reduceLE, Int.reduceLT, Int.reduceEq, Int.reduceSub, Int.reduceAdd, Int.reduceToNat, Int.reduceNeg, e1, e2, e3, e4.1, e4.2, c5, e6, e7, e8, c9, e10, c11, c12, c13, c14, c15, e16, e17, c18, e19, e20, e21, c22, c23, e24, c25, c26, e27, e28.1, e28.2, c29, e30.1, e30.2, c31, e32, c33, e34.1, e34.2, c35, c36, e37] <;> (repeat' apply And.intro) <;> first | rfl | exact ⟨_, rfl⟩ | simp [lst, cat2_nil]
          ·rw [if_neg e37] at h
           by_cases e38 : r36_ = ((1 : Int) + tot r15_.2.2.1 + tot r15_.2.2.2.1)
           ·rw [if_pos e38] at h
            have c39 := l_toProblem_cl t0_Labels t0_Degree t0_Nodes t0_Edges e7 e8
            have c40 := l_toIntS_cl t1_ e10
            have c41 := l_eqProblem_cl r15_.1 r15_.2.1 r15_.2.2.1 r15_.2.2.2.1 q12_.1 q12_.2.1 q12_.2.2.1 q12_.2.2.2.1 e16 e17
            obtain rfl := Option.some.inj h
            simp (maxDischargeDepth := 9) only [↓xpre, xpost, xlst, xc2, xcore, yset, rg0, ↓reduceIte, Nat.reduceEqDiff, Nat.reduceLT, Nat.reduceLeDiff, Nat.reduceAdd, Nat.reduceMul, Nat.reduceMod, Nat.reduceSub, Nat.reduceBEq, Int.reduceLE, Int.reduceLT, Int.reduceEq, Int.reduceSub, Int.reduceAdd, Int.reduceToNat, Int.reduceNeg, e1, e2, e3, e4.1, e4.2, c5, e6, e7, e8, c9, e10, c11, c12, c13, c14, c15, e16, e17, c18, e19, e20, e21, c22, c23, e24, c25, c26, e27, e28.1, e28.2, c29, e30.1, e30.2, c31, e32, c33, e34.1, e34.2, c35, c36, e37, decide_eq_true e38, c39, c40, c41] <;> (repeat' apply And.intro) <;> first | rfl | exact ⟨_, rfl⟩ | simp [lst, cat2_nil]
           ·rw [if_neg e38] at h
            obtain rfl := Option.some.inj h
            simp (maxDischargeDepth := 9) only [↓xpre, xpost, xlst, xc2, xcore, yset, rg0, ↓reduceIte, Nat.reduceEqDiff, Nat.reduceLT, Nat.reduceLeDiff, Nat.reduceAdd, Nat.reduceMul, Nat.reduceMod, Nat.reduceSub, Nat.reduceBEq, Int.reduceLE, Int.reduceLT, Int.reduceEq, Int.reduceSub, Int.reduceAdd, Int.reduceToNat, Int.reduceNeg, e1, e2, e3, e4.1, e4.2, c5, e6, e7, e8, c9, e10, c11, c12, c13, c14, c15, e16, e17, c18, e19, e20, e21, c22, c23, e24, c25, c26, e27, e28.1, e28.2, c29, e30.1, e30.2, c31, e32, c33, e34.1, e34.2, c35, c36, e37, e38] <;> (repeat' apply And.intro) <;> first | rfl | exact ⟨_, rfl⟩ | simp [lst, cat2_nil]
        ·exact absurd (decide_eq_true rfl) e27
       ·rw [if_neg e24] at h
        have e24f : (sameP t0_Labels t0_Degree t0_Nodes t0_Edges t0_Labels t0_Degree t0_Nodes t0_Edges) = false := Bool.eq_false_iff.mpr e24
        obtain rfl := Option.some.inj h
        simp (maxDischargeDepth := 9) only [↓xpre, xpost, xlst, xc2, xcore, yset, rg0, ↓reduceIte, Nat.reduceEqDiff, Nat.reduceLT, Nat.reduceLeDiff, Nat.reduceAdd, Nat.reduceMul, Nat.reduceMod, Nat.reduceSub, Nat.reduceBEq, Int.reduceLE, Int.reduceLT, Int.reduceEq, Int.reduceSub, Int.reduceAdd, Int.reduceToNat, Int.reduceNeg, e1, e2, e3, e4.1, e4.2, c5, e6, e7, e8, c9, e10, c11, c12, c13, c14, c15, e16, e17, c18, e19, e20, e21, c22, c23, e24f] <;> (repeat' apply And.intro) <;> first | rfl | exact ⟨_, rfl⟩ | simp [lst, cat2_nil]
      ·rw [if_neg e21] at h
       have e21f : q12_.2.2.2.2 = false := Bool.eq_false_iff.mpr e21
       obtain rfl := Option.some.inj h
       simp (maxDischargeDepth := 9) only [↓xpre, xpost, xlst, xc2, xcore, yset, rg0, ↓reduceIte, Nat.reduceEqDiff, Nat.reduceLT, Nat.reduceLeDiff, Nat.reduceAdd, Nat.reduceMul, Nat.reduceMod, Nat.reduceSub, Nat.reduceBEq, Int.reduceLE, Int.reduceLT, Int.reduceEq, Int.reduceSub, Int.reduceAdd, Int.reduceToNat, Int.reduceNeg, e1, e2, e3, e4.1, e4.2, c5, e6, e7, e8, c9, e10, c11, c12, c13, c14, c15, e16, e17, c18, e19, e20, e21f] <;> (repeat' apply And.intro) <;> first | rfl | exact ⟨_, rfl⟩ | simp [lst, cat2_nil]
     ·rw [if_neg e20] at h
      have e20f : r15_.2.2.2.2 = false := Bool.eq_false_iff.mpr e20
      by_cases e21 : q12_.2.2.2.2 = true
      ·rw [if_pos e21] at h
       obtain rfl := Option.some.inj h
       simp (maxDischargeDepth := 9) only [↓xpre, xpost, xlst, xc2, xcore, yset, rg0, ↓reduceIte, Nat.reduceEqDiff, Nat.reduceLT, Nat.reduceLeDiff, Nat.reduceAdd, Nat.reduceMul, Nat.reduceMod, Nat.reduceSub, Nat.reduceBEq, Int.reduceLE, Int.reduceLT, Int.reduceEq, Int.reduceSub, Int.reduceAdd, Int.reduceToNat, Int.reduceNeg, e1, e2, e3, e4.1, e4.2, c5, e6, e7, e8, c9, e10, c11, c12, c13, c14, c15, e16, e17, c18, e19, e20f, e21] <;> (repeat' apply And.intro) <;> first | rfl | exact ⟨_, rfl⟩ | simp [lst, cat2_nil]
      ·rw [if_neg e21] at h
       have e21f : q12_.2.2.2.2 = false := Bool.eq_false_iff.mpr e21
       have c22 := l_toProblem_cl t0_Labels t0_Degree t0_Nodes t0_Edges e7 e8
       have c23 := l_eqProblem_cl t0_Labels t0_Degree t0_Nodes t0_Edges t0_Labels t0_Degree t0_Nodes t0_Edges e7 e8
       by_cases e24 : (sameP t0_Labels t0_Degree t0_Nodes t0_Edges t0_Labels t0_Degree t0_Nodes t0_Edges) = true
       ·rw [if_pos e24] at h
        have c25 := l_toIntS_cl t1_ e10
        have c26 := l_eqIntS_cl t1_ t1_ e10
        by_cases e27 : (decide (t1_ = t1_)) = true
        ·rw [if_pos e27] at h
         obtain ⟨e28, h⟩ := ckS h
         have c29 := l_markProblem_cl t0_Labels t0_Degree t0_Nodes t0_Edges (1 : Int) e7 e8 e28
         obtain ⟨e30, h⟩ := ckS h
         have c31 := l_markIntS_cl t1_ ((1 : Int) + tot t0_Nodes + tot t0_Edges) e10 e30
         by_cases e32 : (((1 : Int) + tot t0_Nodes + tot t0_Edges) + t1_.length) < 0
         ·rw [if_pos e32] at h
          obtain rfl := Option.some.inj h
          simp (maxDischargeDepth := 9) only [↓xpre, xpost, xlst, xc2, xcore, yset, rg0, ↓reduceIte, Nat.reduceEqDiff, Nat.reduceLT, Nat.reduceLeDiff, Nat.reduceAdd, Nat.reduceMul, Nat.reduceMod, Nat.reduceSub, Nat.reduceBEq, Int.reduceLE, Int.reduceLT, Int.reduceEq, Int.reduceSub, Int.reduceAdd, Int.reduceToNat, Int.reduceNeg, e1, e2, e3, e4.1, e4.2, c5, e6, e7, e8, c9, e10, c11, c12, c13, c14, c15, e16, e17, c18, e19, e20f, e21f, c22, c23, e24, c25, c26, e27, e28.1, e28.2, c29, e30.1, e30.2, c31, e32] <;> (repeat' apply And.intro) <;> first | rfl | exact ⟨_, rfl⟩ | simp [lst, cat2_nil]
         ·rw [if_neg e32] at h
          have c33 := l_eqProblem_cl r15_.1 r15_.2.1 r15_.2.2.1 r15_.2.2.2.1 q12_.1 q12_.2.1 q12_.2.2.1 q12_.2.2.2.1 e16 e17
          obtain ⟨e34, h⟩ := ckS h
          have c35 := l_markProblem_cl r15_.1 r15_.2.1 r15_.2.2.1 r15_.2.2.2.1 (1 : Int) e16 e17 e34
          obtain ⟨r36_, hl36, h⟩ := bindS h
          try dsimp only at h
          have c36 := l_heldProblem_call r15_.1 r15_.2.1 (marks (1 : Int) r15_.2.2.1) (marks ((1 : Int) + tot r15_.2.2.1) r15_.2.2.2.1) (1 : Int) hl36
          by_cases e37 : r36_ < 0
          ·rw [if_pos e37] at h
           obtain rfl := Option.some.inj h
           simp (maxDischargeDepth := 9) only [↓xpre, xpost, xlst, xc2, xcore, yset, rg0, ↓reduceIte, Nat.reduceEqDiff, Nat.reduceLT, Nat.reduceLeDiff, Nat.reduceAdd, Nat.reduceMul, Nat.reduceMod, Nat.reduceSub, Nat.reduceBEq, Int.reduceLE, Int.reduceLT, Int.reduceEq, Int.reduceSub, Int.reduceAdd, Int.reduceToNat, Int.reduceNeg, e1, e2, e3, e4.1, e4.2, c5, e6, e7, e8, c9, e10, c11, c12, c13, c14, c15, e16, e17, c18, e19, e20f, e21f, c22, c23, e24, c25, c26, e27, e28.1, e28.2, c29, e30.1, e30.2, c31, e32, c33, e34.1, e34.2, c35, c36, e37] <;> (repeat' apply And.intro) <;> first | rfl | exact ⟨_, rfl⟩ | simp [lst, cat2_nil]
          ·rw [if_neg e37] at h
           by_cases e38 : r36_ = ((1 : Int) + tot r15_.2.2.1 + tot r15_.2.2.2.1)
           ·rw [if_pos e38] at h
            have c39 := l_toProblem_cl t0_Labels t0_Degree t0_Nodes t0_Edges e7 e8
            have c40 := l_toIntS_cl t1_ e10
            have c41 := l_eqProblem_cl r15_.1 r15_.2.1 r15_.2.2.1 r15_.2.2.2.1 q12_.1 q12_.2.1 q12_.2.2.1 q12_.2.2.2.1 e16 e17
            obtain rfl := Option.some.inj h
            simp (maxDischargeDepth := 9) only [↓xpre, xpost, xlst, xc2, xcore, yset, rg0, ↓reduceIte, Nat.reduceEqDiff, Nat.reduceLT, Nat.reduceLeDiff, Nat.reduceAdd, Nat.reduceMul, Nat.reduceMod, Nat.reduceSub, Nat.reduceBEq, Int.reduceLE, Int.reduceLT, Int.reduceEq, Int.reduceSub, Int.reduceAdd, Int.reduceToNat, Int.reduceNeg, e1, e2, e3, e4.1, e4.2, c5, e6, e7, e8, c9, e10, c11, c12, c13, c14, c15, e16, e17, c18, e19, e20f, e21f, c22, c23, e24, c25, c26, e27, e28.1, e28.2, c29, e30.1, e30.2, c31, e32, c33, e34.1, e34.2, c35, c36, e37, decide_eq_true e38, c39, c40, c41] <;> (repeat' apply And.intro) <;> first | rfl | exact ⟨_, rfl⟩ | simp [lst, cat2_nil]
           ·rw [if_neg e38] at h
            obtain rfl := Option.some.inj h
            simp (maxDischargeDepth := 9) only [↓xpre, xpost, xlst, xc2, xcore, yset, rg0, ↓reduceIte, Nat.reduceEqDiff, Nat.reduceLT, Nat.reduceLeDiff, Nat.reduceAdd, Nat.reduceMul, Nat.reduceMod, Nat.reduceSub, Nat.reduceBEq, Int.reduceLE, Int.reduceLT, Int.reduceEq, Int.reduceSub, Int.reduceAdd, Int.reduceToNat, Int.reduceNeg, e1, e2, e3, e4.1, e4.2, c5, e6, e7, e8, c9, e10, c11, c12, c13, c14, c15, e16, e17, c18, e19, e20f, e21f, c22, c23, e24, c25, c26, e27, e28.1, e28.2, c29, e30.1, e30.2, c31, e32, c33, e34.1, e34.2, c35, c36, e37, e38] <;> (repeat' apply And.intro) <;> first | rfl | exact ⟨_, rfl⟩ | simp [lst, cat2_nil]
        ·exact absurd (decide_eq_true rfl) e27
       ·rw [if_neg e24] at h
        have e24f : (sameP t0_Labels t0_Degree t0_Nodes t0_Edges t0_Labels t0_Degree t0_Nodes t0_Edges) = false := Bool.eq_false_iff.mpr e24
        obtain rfl := Option.some.inj h
        simp (maxDischargeDepth := 9) only [↓xpre, xpost, xlst, xc2, xcore, yset, rg0, ↓reduceIte, Nat.reduceEqDiff, Nat.reduceLT, Nat.reduceLeDiff, Nat.reduceAdd, Nat.reduceMul, Nat.reduceMod, Nat.reduceSub, Nat.reduceBEq, Int.reduceLE, Int.reduceLT, Int.reduceEq, Int.reduceSub, Int.reduceAdd, Int.reduceToNat, Int.reduceNeg, e1, e2, e3, e4.1, e4.2, c5, e6, e7, e8, c9, e10, c11, c12, c13, c14, c15, e16, e17, c18, e19, e20f, e21f, c22, c23, e24f] <;> (repeat' apply And.intro) <;> first | rfl | exact ⟨_, rfl⟩ | simp [lst, cat2_nil]
    ·rw [if_neg e19] at h
     have e19f : (sameP r15_.1 r15_.2.1 r15_.2.2.1 r15_.2.2.2.1 q12_.1 q12_.2.1 q12_.2.2.1 q12_.2.2.2.1) = false := Bool.eq_false_iff.mpr e19
     obtain rfl := Option.some.inj h
     simp (maxDischargeDepth := 9) only [↓xpre, xpost, xlst, xc2, xcore, yset, rg0, ↓reduceIte, Nat.reduceEqDiff, Nat.reduceLT, Nat.reduceLeDiff, Nat.reduceAdd, Nat.reduceMul, Nat.reduceMod, Nat.reduceSub, Nat.reduceBEq, Int.reduceLE, Int.reduceLT, Int.reduceEq, Int.reduceSub, Int.reduceAdd, Int.reduceToNat, Int.reduceNeg, e1, e2, e3, e4.1, e4.2, c5, e6, e7, e8, c9, e10, c11, c12, c13, c14, c15, e16, e17, c18, e19f] <;> (repeat' apply And.intro) <;> first | rfl | exact ⟨_, rfl⟩ | simp [lst, cat2_nil]
   ·dsimp only at h c12
    by_cases e20 : (!q12_.2.2.1.isEmpty) = true
    ·rw [if_pos e20] at h
     have c21 := l_toProblem_cl t0_Labels t0_Degree t0_Nodes t0_Edges e7 e8
     have c22 := l_toIntS_cl t1_ e10
     obtain ⟨r23_, hl23, h⟩ := bindS h
     try dsimp only at h
     have c23 := i_KeepLabels_call t0_Labels t0_Degree t0_Nodes t0_Edges t1_ hl23
     obtain ⟨e24, h⟩ := ckS h
     obtain ⟨e25, h⟩ := ckS h
     have c26 := l_eqProblem_cl r23_.1 r23_.2.1 r23_.2.2.1 r23_.2.2.2.1 q12_.1 q12_.2.1 q12_.2.2.1 q12_.2.2.2.1 e24 e25
     by_cases e27 : (sameP r23_.1 r23_.2.1 r23_.2.2.1 r23_.2.2.2.1 q12_.1 q12_.2.1 q12_.2.2.1 q12_.2.2.2.1) = true
     ·rw [if_pos e27] at h
      by_cases e28 : r23_.2.2.2.2 = true
      ·rw [if_pos e28] at h
       by_cases e29 : q12_.2.2.2.2 = true
       ·rw [if_pos e29] at h
        have c30 := l_toProblem_cl t0_Labels t0_Degree t0_Nodes t0_Edges e7 e8
        have c31 := l_eqProblem_cl t0_Labels t0_Degree t0_Nodes t0_Edges t0_Labels t0_Degree t0_Nodes t0_Edges e7 e8
        by_cases e32 : (sameP t0_Labels t0_Degree t0_Nodes t0_Edges t0_Labels t0_Degree t0_Nodes t0_Edges) = true
        ·rw [if_pos e32] at h
         have c33 := l_toIntS_cl t1_ e10
         have c34 := l_eqIntS_cl t1_ t1_ e10
         by_cases e35 : (decide (t1_ = t1_)) = true
         ·rw [if_pos e35] at h
          obtain ⟨e36, h⟩ := ckS h
          have c37 := l_markProblem_cl t0_Labels t0_Degree t0_Nodes t0_Edges (1 : Int) e7 e8 e36
          obtain ⟨e38, h⟩ := ckS h
          have c39 := l_markIntS_cl t1_ ((1 : Int) + tot t0_Nodes + tot t0_Edges) e10 e38
          by_cases e40 : (((1 : Int) + tot t0_Nodes + tot t0_Edges) + t1_.length) < 0
          ·rw [if_pos e40] at h
           obtain rfl := Option.some.inj h
           simp (maxDischargeDepth := 9) only [↓xpre, xpost, xlst, xc2, xcore, yset, rg0, ↓reduceIte, Nat.reduceEqDiff, Nat.reduceLT, Nat.reduceLeDiff, Nat.reduceAdd, Nat.reduceMul, Nat.reduceMod, Nat.reduceSub, Nat.reduceBEq, Int.reduceLE, Int.reduceLT, Int.reduceEq, Int.reduceSub, Int.reduceAdd, Int.reduceToNat, Int.reduceNeg, e1, e2, e3, e4.1, e4.2, c5, e6, e7, e8, c9, e10, c11, c12, e20, c21, c22, c23, e24, e25, c26, e27, e28, e29, c30, c31, e32, c33, c34, e35, e36.1, e36.2, c37, e38.1, e38.2, c39, e40] <;> (repeat' apply And.intro) <;> first | rfl | exact ⟨_, rfl⟩ | simp [lst, cat2_nil]
          ·rw [if_neg e40] at h
           have c41 := l_eqProblem_cl r23_.1 r23_.2.1 r23_.2.2.1 r23_.2.2.2.1 q12_.1 q12_.2.1 q12_.2.2.1 q12_.2.2.2.1 e24 e25
           obtain ⟨e42, h⟩ := ckS h
           have c43 := l_markProblem_cl r23_.1 r23_.2.1 r23_.2.2.1 r23_.2.2.2.1 (1 : Int) e24 e25 e42
           obtain ⟨r44_, hl44, h⟩ := bindS h
           try dsimp only at h
           have c44 := l_heldProblem_call r23_.1 r23_.2.1 (marks (1 : Int) r23_.2.2.1) (marks ((1 : Int) + tot r23_.2.2.1) r23_.2.2.2.1) (1 : Int) hl44
           by_cases e45 : r44_ < 0
           ·rw [if_pos e45] at h
            obtain rfl := Option.some.inj h
            simp (maxDischargeDepth := 9) only [↓xpre, xpost, xlst, xc2, xcore, yset, rg0, ↓reduceIte, Nat.reduceEqDiff, Nat.reduceLT, Nat.reduceLeDiff, Nat.reduceAdd, Nat.reduceMul, Nat.reduceMod, Nat.reduceSub, Nat.reduceBEq, Int.reduceLE, Int.reduceLT, Int.reduceEq, Int.reduceSub, Int.reduceAdd, Int.reduceToNat, Int.reduceNeg, e1, e2, e3, e4.1, e4.2, c5, e6, e7, e8, c9, e10, c11, c12, e20, c21, c22, c23, e24, e25, c26, e27, e28, e29, c30, c31, e32, c33, c34, e35, e36.1, e36.2, c37, e38.1, e38.2, c39, e40, c41, e42.1, e42.2, c43, c44, e45] <;> (repeat' apply And.intro) <;> first | rfl | exact ⟨_, rfl⟩ | simp [lst, cat2_nil]
           ·rw [if_neg e45] at h
            by_cases e46 : r44_ = ((1 : Int) + tot r23_.2.2.1 + tot r23_.2.2.2.1)
            ·rw [if_pos e46] at h
             have c47 := l_toProblem_cl t0_Labels t0_Degree t0_Nodes t0_Edges e7 e8
             have c48 := l_toIntS_cl t1_ e10
             have c49 := l_eqProblem_cl r23_.1 r23_.2.1 r23_.2.2.1 r23_.2.2.2.1 q12_.1 q12_.2.1 q12_.2.2.1 q12_.2.2.2.1 e24 e25
             obtain rfl := Option.some.inj h
             simp (maxDischargeDepth := 9) only [↓xpre, xpost, xlst, xc2, xcore, yset, rg0, ↓reduceIte, Nat.reduceEqDiff, Nat.reduceLT, Nat.reduceLeDiff, Nat.reduceAdd, Nat.reduceMul, Nat.reduceMod, Nat.reduceSub, Nat.reduceBEq, Int.reduceLE, Int.reduceLT, Int.reduceEq, Int.reduceSub, Int.reduceAdd, Int.reduceToNat, Int.reduceNeg, e1, e2, e3, e4.1, e4.2, c5, e6, e7, e8, c9, e10, c11, c12, e20, c21, c22, c23, e24, e25, c26, e27, e28, e29, c30, c31, e32, c33, c34, e35, e36.1, e36.2, c37, e38.1, e38.2, c39, e40, c41, e42.1, e42.2, c43, c44, e45, decide_eq_true e46, c47, c48, c49] <;> (repeat' apply And.intro) <;> first | rfl | exact ⟨_, rfl⟩ | simp [lst, cat2_nil]
            ·rw [if_neg e46] at h
             obtain rfl := Option.some.inj h
             simp (maxDischargeDepth := 9) only [↓xpre, xpost, xlst, xc2, xcore, yset, rg0, ↓reduceIte, Nat.reduceEqDiff, Nat.reduceLT, Nat.reduceLeDiff, Nat.reduceAdd, Nat.reduceMul, Nat.reduceMod, Nat.reduceSub, Nat.reduceBEq, Int.reduceLE, Int.reduceLT, Int.reduceEq, Int.reduceSub, Int.reduceAdd, Int.reduceToNat, Int.reduceNeg, e1, e2, e3, e4.1, e4.2, c5, e6, e7, e8, c9, e10, c11, c12, e20, c21, c22, c23, e24, e25, c26, e27, e28, e29, c30, c31, e32, c33, c34, e35, e36.1, e36.2, c37, e38.1, e38.2, c39, e40, c41, e42.1, e42.2, c43, c44, e45, e46] <;> (repeat' apply And.intro) <;> first | rfl | exact ⟨_, rfl⟩ | simp [lst, cat2_nil]
         ·exact absurd (decide_eq_true rfl) e35
        ·rw [if_neg e32] at h
         have e32f : (sameP t0_Labels t0_Degree t0_Nodes t0_Edges t0_Labels t0_Degree t0_Nodes t0_Edges) = false := Bool.eq_false_iff.mpr e32
         obtain rfl := Option.some.inj h
         simp (maxDischargeDepth := 9) only [↓xpre, xpost, xlst, xc2, xcore, yset, rg0, ↓reduceIte, Nat.reduceEqDiff, Nat.reduceLT, Nat.reduceLeDiff, Nat.reduceAdd, Nat.reduceMul, Nat.reduceMod, Nat.reduceSub, Nat.reduceBEq, Int.reduceLE, Int.reduceLT, Int.reduceEq, Int.reduceSub, Int.reduceAdd, Int.reduceToNat, Int.reduceNeg, e1, e2, e3, e4.1, e4.2, c5, e6, e7, e8, c9, e10, c11, c12, e20, c21, c22, c23, e24, e25, c26, e27, e28, e29, c30, c31, e32f] <;> (repeat' apply And.intro) <;> first | rfl | exact ⟨_, rfl⟩ | simp [lst, cat2_nil]
       ·rw [if_neg e29] at h
        have e29f : q12_.2.2.2.2 = false := Bool.eq_false_iff.mpr e29
        obtain rfl := Option.some.inj h
        simp (maxDischargeDepth := 9) only [↓xpre, xpost, xlst, xc2, xcore, yset, rg0, ↓reduceIte, Nat.reduceEqDiff, Nat.reduceLT, Nat.reduceLeDiff, Nat.reduceAdd, Nat.reduceMul, Nat.reduceMod, Nat.reduceSub, Nat.reduceBEq, Int.reduceLE, Int.reduceLT, Int.reduceEq, Int.reduceSub, Int.reduceAdd, Int.reduceToNat, Int.reduceNeg, e1, e2, e3, e4.1, e4.2, c5, e6, e7, e8, c9, e10, c11, c12, e20, c21, c22, c23, e24, e25, c26, e27, e28, e29f] <;> (repeat' apply And.intro) <;> first | rfl | exact ⟨_, rfl⟩ | simp [lst, cat2_nil]
      ·rw [if_neg e28] at h
       have e28f : r23_.2.2.2.2 = false := Bool.eq_false_iff.mpr e28
       by_cases e29 : q12_.2.2.2.2 = true
       ·rw [if_pos e29] at h
        obtain rfl := Option.some.inj h
        simp (maxDischargeDepth := 9) only [↓xpre, xpost, xlst, xc2, xcore, yset, rg0, ↓reduceIte, Nat.reduceEqDiff, Nat.reduceLT, Nat.reduceLeDiff, Nat.reduceAdd, Nat.reduceMul, Nat.reduceMod, Nat.reduceSub, Nat.reduceBEq, Int.reduceLE, Int.reduceLT, Int.reduceEq, Int.reduceSub, Int.reduceAdd, Int.reduceToNat, Int.reduceNeg, e1, e2, e3, e4.1, e4.2, c5, e6, e7, e8, c9, e10, c11, c12, e20, c21, c22, c23, e24, e25, c26, e27, e28f, e29] <;> (repeat' apply And.intro) <;> first | rfl | exact ⟨_, rfl⟩ | simp [lst, cat2_nil]
       ·rw [if_neg e29] at h
        have e29f : q12_.2.2.2.2 = false := Bool.eq_false_iff.mpr e29
        have c30 := l_toProblem_cl t0_Labels t0_Degree t0_Nodes t0_Edges e7 e8
        have c31 := l_eqProblem_cl t0_Labels t0_Degree t0_Nodes t0_Edges t0_Labels t0_Degree t0_Nodes t0_Edges e7 e8
        by_cases e32 : (sameP t0_Labels t0_Degree t0_Nodes t0_Edges t0_Labels t0_Degree t0_Nodes t0_Edges) = true
        ·rw [if_pos e32] at h
         have c33 := l_toIntS_cl t1_ e10
         have c34 := l_eqIntS_cl t1_ t1_ e10
         by_cases e35 : (decide (t1_ = t1_)) = true
         ·rw [if_pos e35] at h
          obtain ⟨e36, h⟩ := ckS h
          have c37 := l_markProblem_cl t0_Labels t0_Degree t0_Nodes t0_Edges (1 : Int) e7 e8 e36
          obtain ⟨e38, h⟩ := ckS h
          have c39 := l_markIntS_cl t1_ ((1 : Int) + tot t0_Nodes + tot t0_Edges) e10 e38
          by_cases e40 : (((1 : Int) + tot t0_Nodes + tot t0_Edges) + t1_.length) < 0
          ·rw [if_pos e40] at h
           obtain rfl := Option.some.inj h
           simp (maxDischargeDepth := 9) only [↓xpre, xpost, xlst, xc2, xcore, yset, rg0, ↓reduceIte, Nat.reduceEqDiff, Nat.reduceLT, Nat.reduceLeDiff, Nat.reduceAdd, Nat.reduceMul, Nat.reduceMod, Nat.reduceSub, Nat.reduceBEq, Int.reduceLE, Int.reduceLT, Int.reduceEq, Int.reduceSub, Int.reduceAdd, Int.reduceToNat, Int.reduceNeg, e1, e2, e3, e4.1, e4.2, c5, e6, e7, e8, c9, e10, c11, c12, e20, c21, c22, c23, e24, e25, c26, e27, e28f, e29f, c30, c31, e32, c33, c34, e35, e36.1, e36.2, c37, e38.1, e38.2, c39, e40] <;> (repeat' apply And.intro) <;> first | rfl | exact ⟨_, rfl⟩ | simp [lst, cat2_nil]
          ·rw [if_neg e40] at h
           have c41 := l_eqProblem_cl r23_.1 r23_.2.1 r23_.2.2.1 r23_.2.2.2.1 q12_.1 q12_.2.1 q12_.2.2.1 q12_.2.2.2.1 e24 e25
           obtain ⟨e42, h⟩ := ckS h
           have c43 := l_markProblem_cl r23_.1 r23_.2.1 r23_.2.2.1 r23_.2.2.2.1 (1 : Int) e24 e25 e42
           obtain ⟨r44_, hl44, h⟩ := bindS h
           try dsimp only at h
           have c44 := l_heldProblem_call r23_.1 r23_.2.1 (marks (1 : Int) r23_.2.2.1) (marks ((1 : Int) + tot r23_.2.2.1) r23_.2.2.2.1) (1 : Int) hl44
           by_cases e45 : r44_ < 0
           ·rw [if_pos e45] at h
            obtain rfl := Option.some.inj h
            simp (maxDischargeDepth := 9) only [↓xpre, xpost, xlst, xc2, xcore, yset, rg0, ↓reduceIte, Nat.reduceEqDiff, Nat.reduceLT, Nat.reduceLeDiff, Nat.reduceAdd, Nat.reduceMul, Nat.reduceMod, Nat.reduceSub, Nat.reduceBEq, Int.reduceLE, Int.reduceLT, Int.reduceEq, Int.reduceSub, Int.reduceAdd, Int.reduceToNat, Int.reduceNeg, e1, e2, e3, e4.1, e4.2, c5, e6, e7, e8, c9, e10, c11, c12, e20, c21, c22, c23, e24, e25, c26, e27, e28f, e29f, c30, c31, e32, c33, c34, e35, e36.1, e36.2, c37, e38.1, e38.2, c39, e40, c41, e42.1, e42.2, c43, c44, e45] <;> (repeat' apply And.intro) <;> first | rfl | exact ⟨_, rfl⟩ | simp [lst, cat2_nil]
           ·rw [if_neg e45] at h
            by_cases e46 : r44_ = ((1 : Int) + tot r23_.2.2.1 + tot r23_.2.2.2.1)
            ·rw [if_pos e46] at h
             have c47 := l_toProblem_cl t0_Labels t0_Degree t0_Nodes t0_Edges e7 e8
             have c48 := l_toIntS_cl t1_ e10
             have c49 := l_eqProblem_cl r23_.1 r23_.2.1 r23_.2.2.1 r23_.2.2.2.1 q12_.1 q12_.2.1 q12_.2.2.1 q12_.2.2.2.1 e24 e25
             obtain rfl := Option.some.inj h
             simp (maxDischargeDepth := 9) only [↓xpre, xpost, xlst, xc2, xcore, yset, rg0, ↓reduceIte, Nat.reduceEqDiff, Nat.reduceLT, Nat.reduceLeDiff, Nat.reduceAdd, Nat.reduceMul, Nat.reduceMod, Nat.reduceSub, Nat.reduceBEq, Int.reduceLE, Int.reduceLT, Int.reduceEq, Int.reduceSub, Int.reduceAdd, Int.reduceToNat, Int.reduceNeg, e1, e2, e3, e4.1, e4.2, c5, e6, e7, e8, c9, e10, c11, c12, e20, c21, c22, c23, e24, e25, c26, e27, e28f, e29f, c30, c31, e32, c33, c34, e35, e36.1, e36.2, c37, e38.1, e38.2, c39, e40, c41, e42.1, e42.2, c43, c44, e45, decide_eq_true e46, c47, c48, c49] <;> (repeat' apply And.intro) <;> first | rfl | exact ⟨_, rfl⟩ | simp [lst, cat2_nil]
            ·rw [if_neg e46] at h
             obtain rfl := Option.some.inj h
             simp (maxDischargeDepth := 9) only [↓xpre, xpost, xlst, xc2, xcore, yset, rg0, ↓reduceIte, Nat.reduceEqDiff, Nat.reduceLT, Nat.reduceLeDiff, Nat.reduceAdd, Nat.reduceMul, Nat.reduceMod, Nat.reduceSub, Nat.reduceBEq, Int.reduceLE, Int.reduceLT, Int.reduceEq, Int.reduceSub, Int.reduceAdd, Int.reduceToNat, Int.reduceNeg, e1, e2, e3, e4.1, e4.2, c5, e6, e7, e8, c9, e10, c11, c12, e20, c21, c22, c23, e24, e25, c26, e27, e28f, e29f, c30, c31, e32, c33, c34, e35, e36.1, e36.2, c37, e38.1, e38.2, c39, e40, c41, e42.1, e42.2, c43, c44, e45, e46] <;> (repeat' apply And.intro) <;> first | rfl | exact ⟨_, rfl⟩ | simp [lst, cat2_nil]
         ·exact absurd (decide_eq_true rfl) e35
        ·rw [if_neg e32] at h
         have e32f : (sameP t0_Labels t0_Degree t0_Nodes t0_Edges t0_Labels t0_Degree t0_Nodes t0_Edges) = false := Bool.eq_false_iff.mpr e32
         obtain rfl := Option.some.inj h
         simp (maxDischargeDepth := 9) only [↓xpre, xpost, xlst, xc2, xcore, yset, rg0, ↓reduceIte, Nat.reduceEqDiff, Nat.reduceLT, Nat.reduceLeDiff, Nat.reduceAdd, Nat.reduceMul, Nat.reduceMod, Nat.reduceSub, Nat.reduceBEq, Int.reduceLE, Int.reduceLT, Int.reduceEq, Int.reduceSub, Int.reduceAdd, Int.reduceToNat, Int.reduceNeg, e1, e2, e3, e4.1, e4.2, c5, e6, e7, e8, c9, e10, c11, c12, e20, c21, c22, c23, e24, e25, c26, e27, e28f, e29f, c30, c31, e32f] <;> (repeat' apply And.intro) <;> first | rfl | exact ⟨_, rfl⟩ | simp [lst, cat2_nil]
     ·rw [if_neg e27] at h
      have e27f : (sameP r23_.1 r23_.2.1 r23_.2.2.1 r23_.2.2.2.1 q12_.1 q12_.2.1 q12_.2.2.1 q12_.2.2.2.1) = false := Bool.eq_false_iff.mpr e27
      obtain rfl := Option.some.inj h
      simp (maxDischargeDepth := 9) only [↓xpre, xpost, xlst, xc2, xcore, yset, rg0, ↓reduceIte, Nat.reduceEqDiff, Nat.reduceLT, Nat.reduceLeDiff, Nat.reduceAdd, Nat.reduceMul, Nat.reduceMod, Nat.reduceSub, Nat.reduceBEq, Int.reduceLE, Int.reduceLT, Int.reduceEq, Int.reduceSub, Int.reduceAdd, Int.reduceToNat, Int.reduceNeg, e1, e2, e3, e4.1, e4.2, c5, e6, e7, e8, c9, e10, c11, c12, e20, c21, c22, c23, e24, e25, c26, e27f] <;> (repeat' apply And.intro) <;> first | rfl | exact ⟨_, rfl⟩ | simp [lst, cat2_nil]
    ·rw [if_neg e20] at h
     have e20f : (!q12_.2.2.1.isEmpty) = false := Bool.eq_false_iff.mpr e20
     by_cases e21 : (!q12_.2.2.2.1.isEmpty) = true
     ·skip
      have c22 := l_toProblem_cl t0_Labels t0_Degree t0_Nodes t0_Edges e7 e8
      have c23 := l_toIntS_cl t1_ e10
      obtain ⟨r24_, hl24, h⟩ := bindS h
      try dsimp only at h
      have c24 := i_KeepLabels_call t0_Labels t0_Degree t0_Nodes t0_Edges t1_ hl24
      obtain ⟨e25, h⟩ := ckS h
      obtain ⟨e26, h⟩ := ckS h
      have c27 := l_eqProblem_cl r24_.1 r24_.2.1 r24_.2.2.1 r24_.2.2.2.1 q12_.1 q12_.2.1 q12_.2.2.1 q12_.2.2.2.1 e25 e26
      by_cases e28 : (sameP r24_.1 r24_.2.1 r24_.2.2.1 r24_.2.2.2.1 q12_.1 q12_.2.1 q12_.2.2.1 q12_.2.2.2.1) = true
      ·rw [if_pos e28] at h
       by_cases e29 : r24_.2.2.2.2 = true
       ·rw [if_pos e29] at h
        by_cases e30 : q12_.2.2.2.2 = true
        ·rw [if_pos e30] at h
         have c31 := l_toProblem_cl t0_Labels t0_Degree t0_Nodes t0_Edges e7 e8
         have c32 := l_eqProblem_cl t0_Labels t0_Degree t0_Nodes t0_Edges t0_Labels t0_Degree t0_Nodes t0_Edges e7 e8
         by_cases e33 : (sameP t0_Labels t0_Degree t0_Nodes t0_Edges t0_Labels t0_Degree t0_Nodes t0_Edges) = true
         ·rw [if_pos e33] at h
          have c34 := l_toIntS_cl t1_ e10
          have c35 := l_eqIntS_cl t1_ t1_ e10
          by_cases e36 : (decide (t1_ = t1_)) = true
          ·rw [if_pos e36] at h
           obtain ⟨e37, h⟩ := ckS h
           have c38 := l_markProblem_cl t0_Labels t0_Degree t0_Nodes t0_Edges (1 : Int) e7 e8 e37
           obtain ⟨e39, h⟩ := ckS h
           have c40 := l_markIntS_cl t1_ ((1 : Int) + tot t0_Nodes + tot t0_Edges) e10 e39
           by_cases e41 : (((1 : Int) + tot t0_Nodes + tot t0_Edges) + t1_.length) < 0
           ·rw [if_pos e41] at h
            obtain rfl := Option.some.inj h
            simp (maxDischargeDepth := 9) only [↓xpre, xpost, xlst, xc2, xcore, yset, rg0, ↓reduceIte, Nat.reduceEqDiff, Nat.reduceLT, Nat.reduceLeDiff, Nat.reduceAdd, Nat.reduceMul, Nat.reduceMod, Nat.reduceSub, Nat.reduceBEq, Int.reduceLE, Int.reduceLT, Int.reduceEq, Int.reduceSub, Int.reduceAdd, Int.reduceToNat, Int.reduceNeg, e1, e2, e3, e4.1, e4.2, c5, e6, e7, e8, c9, e10, c11, c12, e20f, e21, c22, c23, c24, e25, e26, c27, e28, e29, e30, c31, c32, e33, c34, c35, e36, e37.1, e37.2, c38, e39.1, e39.2, c40, e41] <;> (repeat' apply And.intro) <;> first | rfl | exact ⟨_, rfl⟩ | simp [lst, cat2_nil]
           ·rw [if_neg e41] at h
            have c42 := l_eqProblem_cl r24_.1 r24_.2.1 r24_.2.2.1 r24_.2.2.2.1 q12_.1 q12_.2.1 q12_.2.2.1 q12_.2.2.2.1 e25 e26
            obtain ⟨e43, h⟩ := ckS h
            have c44 := l_markProblem_cl r24_.1 r24_.2.1 r24_.2.2.1 r24_.2.2.2.1 (1 : Int) e25 e26 e43
            obtain ⟨r45_, hl45, h⟩ := bindS h
            try dsimp only at h
            have c45 := l_heldProblem_call r24_.1 r24_.2.1 (marks (1 : Int) r24_.2.2.1) (marks ((1 : Int) + tot r24_.2.2.1) r24_.2.2.2.1) (1 : Int) hl45
            by_cases e46 : r45_ < 0
            ·rw [if_pos e46] at h
             obtain rfl := Option.some.inj h
             simp (maxDischargeDepth := 9) only [↓xpre, xpost, xlst, xc2, xcore, yset, rg0, ↓reduceIte, Nat.reduceEqDiff, Nat.reduceLT, Nat.reduceLeDiff, Nat.reduceAdd, Nat.reduceMul, Nat.reduceMod, Nat.reduceSub, Nat.reduceBEq, Int.reduceLE, Int.reduceLT, Int.reduceEq, Int.reduceSub, Int.reduceAdd, Int.reduceToNat, Int.reduceNeg, e1, e2, e3, e4.1, e4.2, c5, e6, e7, e8, c9, e10, c11, c12, e20f, e21, c22, c23, c24, e25, e26, c27, e28, e29, e30, c31, c32, e33, c34, c35, e36, e37.1, e37.2, c38, e39.1, e39.2, c40, e41, c42, e43.1, e43.2, c44, c45, e46] <;> (repeat' apply And.intro) <;> first | rfl | exact ⟨_, rfl⟩ | simp [lst, cat2_nil]
            ·rw [if_neg e46] at h
             by_cases e47 : r45_ = ((1 : Int) + tot r24_.2.2.1 + tot r24_.2.2.2.1)
             ·rw [if_pos e47] at h
              have c48 := l_toProblem_cl t0_Labels t0_Degree t0_Nodes t0_Edges e7 e8
              have c49 := l_toIntS_cl t1_ e10
              have c50 := l_eqProblem_cl r24_.1 r24_.2.1 r24_.2.2.1 r24_.2.2.2.1 q12_.1 q12_.2.1 q12_.2.2.1 q12_.2.2.2.1 e25 e26
              obtain rfl := Option.some.inj h
              simp (maxDischargeDepth := 9) only [↓xpre, xpost, xlst, xc2, xcore, yset, rg0, ↓reduceIte, Nat.reduceEqDiff, Nat.reduceLT, Nat.reduceLeDiff, Nat.reduceAdd, Nat.reduceMul, Nat.reduceMod, Nat.reduceSub, Nat.reduceBEq, Int.reduceLE, Int.reduceLT, Int.reduceEq, Int.reduceSub, Int.reduceAdd, Int.reduceToNat, Int.reduceNeg, e1, e2, e3, e4.1, e4.2, c5, e6, e7, e8, c9, e10, c11, c12, e20f, e21, c22, c23, c24, e25, e26, c27, e28, e29, e30, c31, c32, e33, c34, c35, e36, e37.1, e37.2, c38, e39.1, e39.2, c40, e41, c42, e43.1, e43.2, c44, c45, e46, decide_eq_true e47, c48, c49, c50] <;> (repeat' apply And.intro) <;> first | rfl | exact ⟨_, rfl⟩ | simp [lst, cat2_nil]
             ·rw [if_neg e47] at h
              obtain rfl := Option.some.inj h
              simp (maxDischargeDepth := 9) only [↓xpre, xpost, xlst, xc2, xcore, yset, rg0, ↓reduceIte, Nat.reduceEqDiff, Nat.reduceLT, Nat.reduceLeDiff, Nat.reduceAdd, Nat.reduceMul, Nat.reduceMod, Nat.reduceSub, Nat.reduceBEq, Int.reduceLE, Int.reduceLT, Int.reduceEq, Int.reduceSub, Int.reduceAdd, Int.reduceToNat, Int.reduceNeg, e1, e2, e3, e4.1, e4.2, c5, e6, e7, e8, c9, e10, c11, c12, e20f, e21, c22, c23, c24, e25, e26, c27, e28, e29, e30, c31, c32, e33, c34, c35, e36, e37.1, e37.2, c38, e39.1, e39.2, c40, e41, c42, e43.1, e43.2, c44, c45, e46, e47] <;> (repeat' apply And.intro) <;> first | rfl | exact ⟨_, rfl⟩ | simp [lst, cat2_nil]
          ·exact absurd (decide_eq_true rfl) e36
         ·rw [if_neg e33] at h
          have e33f : (sameP t0_Labels t0_Degree t0_Nodes t0_Edges t0_Labels t0_Degree t0_Nodes t0_Edges) = false := Bool.eq_false_iff.mpr e33
          obtain rfl := Option.some.inj h
          simp (maxDischargeDepth := 9) only [↓xpre, xpost, xlst, xc2, xcore, yset, rg0, ↓reduceIte, Nat.reduceEqDiff, Nat.reduceLT, Nat.reduceLeDiff, Nat.reduceAdd, Nat.reduceMul, Nat.reduceMod, Nat.reduceSub, Nat.reduceBEq, Int.reduceLE, Int.reduceLT, Int.reduceEq, Int.reduceSub, Int.reduceAdd, Int.reduceToNat, Int.reduceNeg, e1, e2, e3, e4.1, e4.2, c5, e6, e7, e8, c9, e10, c11, c12, e20f, e21, c22, c23, c24, e25, e26, c27, e28, e29, e30, c31, c32, e33f] <;> (repeat' apply And.intro) <;> first | rfl | exact ⟨_, rfl⟩ | simp [lst, cat2_nil]
        ·rw [if_neg e30] at h
         have e30f : q12_.2.2.2.2 = false := Bool.eq_false_iff.mpr e30
         obtain rfl := Option.some.inj h
         simp (maxDischargeDepth := 9) only [↓xpre, xpost, xlst, xc2, xcore, yset, rg0, ↓reduceIte, Nat.reduceEqDiff, Nat.reduceLT, Nat.reduceLeDiff, Nat.reduceAdd, Nat.reduceMul, Nat.reduceMod, Nat.reduceSub, Nat.reduceBEq, Int.reduceLE, Int.reduceLT, Int.reduceEq, Int.reduceSub, Int.reduceAdd, Int.reduceToNat, Int.reduceNeg, e1, e2, e3, e4.1, e4.2, c5, e6, e7, e8, c9, e10, c11, c12, e20f, e21, c22, c23, c24, e25, e26, c27, e28, e29, e30f] <;> (repeat' apply And.intro) <;> first | rfl | exact ⟨_, rfl⟩ | simp [lst, cat2_nil]
       ·rw [if_neg e29] at h
        have e29f : r24_.2.2.2.2 = false := Bool.eq_false_iff.mpr e29
        by_cases e30 : q12_.2.2.2.2 = true
        ·rw [if_pos e30] at h
         obtain rfl := Option.some.inj h
         simp (maxDischargeDepth := 9) only [↓xpre, xpost, xlst, xc2, xcore, yset, rg0, ↓reduceIte, Nat.reduceEqDiff, Nat.reduceLT, Nat.reduceLeDiff, Nat.reduceAdd, Nat.reduceMul, Nat.reduceMod, Nat.reduceSub, Nat.reduceBEq, Int.reduceLE, Int.reduceLT, Int.reduceEq, Int.reduceSub, Int.reduceAdd, Int.reduceToNat, Int.reduceNeg, e1, e2, e3, e4.1, e4.2, c5, e6, e7, e8, c9, e10, c11, c12, e20f, e21, c22, c23, c24, e25, e26, c27, e28, e29f, e30] <;> (repeat' apply And.intro) <;> first | rfl | exact ⟨_, rfl⟩ | simp [lst, cat2_nil]
        ·rw [if_neg e30] at h
         have e30f : q12_.2.2.2.2 = false := Bool.eq_false_iff.mpr e30
         have c31 := l_toProblem_cl t0_Labels t0_Degree t0_Nodes t0_Edges e7 e8
         have c32 := l_eqProblem_cl t0_Labels t0_Degree t0_Nodes t0_Edges t0_Labels t0_Degree t0_Nodes t0_Edges e7 e8
         by_cases e33 : (sameP t0_Labels t0_Degree t0_Nodes t0_Edges t0_Labels t0_Degree t0_Nodes t0_Edges) = true
         ·rw [if_pos e33] at h
          have c34 := l_toIntS_cl t1_ e10
          have c35 := l_eqIntS_cl t1_ t1_ e10
          by_cases e36 : (decide (t1_ = t1_)) = true
          ·rw [if_pos e36] at h
           obtain ⟨e37, h⟩ := ckS h
           have c38 := l_markProblem_cl t0_Labels t0_Degree t0_Nodes t0_Edges (1 : Int) e7 e8 e37
           obtain ⟨e39, h⟩ := ckS h
           have c40 := l_markIntS_cl t1_ ((1 : Int) + tot t0_Nodes + tot t0_Edges) e10 e39
           by_cases e41 : (((1 : Int) + tot t0_Nodes + tot t0_Edges) + t1_.length) < 0
           ·rw [if_pos e41] at h
            obtain rfl := Option.some.inj h
            simp (maxDischargeDepth := 9) only [↓xpre, xpost, xlst, xc2, xcore, yset, rg0, ↓reduceIte, Nat.reduceEqDiff, Nat.reduceLT, Nat.reduceLeDiff, Nat.reduceAdd, Nat.reduceMul, Nat.reduceMod, Nat.reduceSub, Nat.reduceBEq, Int.reduceLE, Int.reduceLT, Int.reduceEq, Int.reduceSub, Int.reduceAdd, Int.reduceToNat, Int.reduceNeg, e1, e2, e3, e4.1, e4.2, c5, e6, e7, e8, c9, e10, c11, c12, e20f, e21, c22, c23, c24, e25, e26, c27, e28, e29f, e30f, c31, c32, e33, c34, c35, e36, e37.1, e37.2, c38, e39.1, e39.2, c40, e41] <;> (repeat' apply And.intro) <;> first | rfl | exact ⟨_, rfl⟩ | simp [lst, cat2_nil]
           ·rw [if_neg e41] at h
            have c42 := l_eqProblem_cl r24_.1 r24_.2.1 r24_.2.2.1 r24_.2.2.2.1 q12_.1 q12_.2.1 q12_.2.2.1 q12_.2.2.2.1 e25 e26
            obtain ⟨e43, h⟩ := ckS h
            have c44 := l_markProblem_cl r24_.1 r24_.2.1 r24_.2.2.1 r24_.2.2.2.1 (1 : Int) e25 e26 e43
            obtain ⟨r45_, hl45, h⟩ := bindS h
            try dsimp only at h
            have c45 := l_heldProblem_call r24_.1 r24_.2.1 (marks (1 : Int) r24_.2.2.1) (marks ((1 : Int) + tot r24_.2.2.1) r24_.2.2.2.1) (1 : Int) hl45
            by_cases e46 : r45_ < 0
            ·rw [if_pos e46] at h
             obtain rfl := Option.some.inj h
             simp (maxDischargeDepth := 9) only [↓xpre, xpost, xlst, xc2, xcore, yset, rg0, ↓reduceIte, Nat.reduceEqDiff, Nat.reduceLT, Nat.reduceLeDiff, Nat.reduceAdd, Nat.reduceMul, Nat.reduceMod, Nat.reduceSub, Nat.reduceBEq, Int.reduceLE, Int.reduceLT, Int.reduceEq, Int.reduceSub, Int.reduceAdd, Int.reduceToNat, Int.reduceNeg, e1, e2, e3, e4.1, e4.2, c5, e6, e7, e8, c9, e10, c11, c12, e20f, e21, c22, c23, c24, e25, e26, c27, e28, e29f, e30f, c31, c32, e33, c34, c35, e36, e37.1, e37.2, c38, e39.1, e39.2, c40, e41, c42, e43.1, e43.2, c44, c45, e46] <;> (repeat' apply And.intro) <;> first | rfl | exact ⟨_, rfl⟩ | simp [lst, cat2_nil]
            ·rw [if_neg e46] at h
             by_cases e47 : r45_ = ((1 : Int) + tot r24_.2.2.1 + tot r24_.2.2.2.1)
             ·rw [if_pos e47] at h
              have c48 := l_toProblem_cl t0_Labels t0_Degree t0_Nodes t0_Edges e7 e8
              have c49 := l_toIntS_cl t1_ e10
              have c50 := l_eqProblem_cl r24_.1 r24_.2.1 r24_.2.2.1 r24_.2.2.2.1 q12_.1 q12_.2.1 q12_.2.2.1 q12_.2.2.2.1 e25 e26
              obtain rfl := Option.some.inj h
              simp (maxDischargeDepth := 9) only [↓xpre, xpost, xlst, xc2, xcore, yset, rg0, ↓reduceIte, Nat.reduceEqDiff, Nat.reduceLT, Nat.reduceLeDiff, Nat.reduceAdd, Nat.reduceMul, Nat.reduceMod, Nat.reduceSub, Nat.reduceBEq, Int.reduceLE, Int.reduceLT, Int.reduceEq, Int.reduceSub, Int.reduceAdd, Int.reduceToNat, Int.reduceNeg, e1, e2, e3, e4.1, e4.2, c5, e6, e7, e8, c9, e10, c11, c12, e20f, e21, c22, c23, c24, e25, e26, c27, e28, e29f, e30f, c31, c32, e33, c34, c35, e36, e37.1, e37.2, c38, e39.1, e39.2, c40, e41, c42, e43.1, e43.2, c44, c45, e46, decide_eq_true e47, c48, c49, c50] <;> (repeat' apply And.intro) <;> first | rfl | exact ⟨_, rfl⟩ | simp [lst, cat2_nil]
             ·rw [if_neg e47] at h
              obtain rfl := Option.some.inj h
              simp (maxDischargeDepth := 9) only [↓xpre, xpost, xlst, xc2, xcore, yset, rg0, ↓reduceIte, Nat.reduceEqDiff, Nat.reduceLT, Nat.reduceLeDiff, Nat.reduceAdd, Nat.reduceMul, Nat.reduceMod, Nat.reduceSub, Nat.reduceBEq, Int.reduceLE, Int.reduceLT, Int.reduceEq, Int.reduceSub, Int.reduceAdd, Int.reduceToNat, Int.reduceNeg, e1, e2, e3, e4.1, e4.2, c5, e6, e7, e8, c9, e10, c11, c12, e20f, e21, c22, c23, c24, e25, e26, c27, e28, e29f, e30f, c31, c32, e33, c34, c35, e36, e37.1, e37.2, c38, e39.1, e39.2, c40, e41, c42, e43.1, e43.2, c44, c45, e46, e47] <;> (repeat' apply And.intro) <;> first | rfl | exact ⟨_, rfl⟩ | simp [lst, cat2_nil]
          ·exact absurd (decide_eq_true rfl) e36
         ·rw [if_neg e33] at h
          have e33f : (sameP t0_Labels t0_Degree t0_Nodes t0_Edges t0_Labels t0_Degree t0_Nodes t0_Edges) = false := Bool.eq_false_iff.mpr e33
          obtain rfl := Option.some.inj h
          simp (maxDischargeDepth := 9) only [↓xpre, xpost, xlst, xc2, xcore, yset, rg0, ↓reduceIte, Nat.reduceEqDiff, Nat.reduceLT, Nat.reduceLeDiff, Nat.reduceAdd, Nat.reduceMul, Nat.reduceMod, Nat.reduceSub, Nat.reduceBEq, Int.reduceLE, Int.reduceLT, Int.reduceEq, Int.reduceSub, Int.reduceAdd, Int.reduceToNat, Int.reduceNeg, e1, e2, e3, e4.1, e4.2, c5, e6, e7, e8, c9, e10, c11, c12, e20f, e21, c22, c23, c24, e25, e26, c27, e28, e29f, e30f, c31, c32, e33f] <;> (repeat' apply And.intro) <;> first | rfl | exact ⟨_, rfl⟩ | simp [lst, cat2_nil]
      ·rw [if_neg e28] at h
       have e28f : (sameP r24_.1 r24_.2.1 r24_.2.2.1 r24_.2.2.2.1 q12_.1 q12_.2.1 q12_.2.2.1 q12_.2.2.2.1) = false := Bool.eq_false_iff.mpr e28
       obtain rfl := Option.some.inj h
       simp (maxDischargeDepth := 9) only [↓xpre, xpost, xlst, xc2, xcore, yset, rg0, ↓reduceIte, Nat.reduceEqDiff, Nat.reduceLT, Nat.reduceLeDiff, Nat.reduceAdd, Nat.reduceMul, Nat.reduceMod, Nat.reduceSub, Nat.reduceBEq, Int.reduceLE, Int.reduceLT, Int.reduceEq, Int.reduceSub, Int.reduceAdd, Int.reduceToNat, Int.reduceNeg, e1, e2, e3, e4.1, e4.2, c5, e6, e7, e8, c9, e10, c11, c12, e20f, e21, c22, c23, c24, e25, e26, c27, e28f] <;> (repeat' apply And.intro) <;> first | rfl | exact ⟨_, rfl⟩ | simp [lst, cat2_nil]
     ·skip
      have e21f : (!q12_.2.2.2.1.isEmpty) = false := Bool.eq_false_iff.mpr e21
      have c22 := l_toProblem_cl t0_Labels t0_Degree t0_Nodes t0_Edges e7 e8
      have c23 := l_toIntS_cl t1_ e10
      obtain ⟨r24_, hl24, h⟩ := bindS h
      try dsimp only at h
      have c24 := i_KeepLabels_call t0_Labels t0_Degree t0_Nodes t0_Edges t1_ hl24
      obtain ⟨e25, h⟩ := ckS h
      obtain ⟨e26, h⟩ := ckS h
      have c27 := l_eqProblem_cl r24_.1 r24_.2.1 r24_.2.2.1 r24_.2.2.2.1 q12_.1 q12_.2.1 q12_.2.2.1 q12_.2.2.2.1 e25 e26
      by_cases e28 : (sameP r24_.1 r24_.2.1 r24_.2.2.1 r24_.2.2.2.1 q12_.1 q12_.2.1 q12_.2.2.1 q12_.2.2.2.1) = true
      ·rw [if_pos e28] at h
       by_cases e29 : r24_.2.2.2.2 = true
       ·rw [if_pos e29] at h
        by_cases e30 : q12_.2.2.2.2 = true
        ·rw [if_pos e30] at h
         have c31 := l_toProblem_cl t0_Labels t0_Degree t0_Nodes t0_Edges e7 e8
         have c32 := l_eqProblem_cl t0_Labels t0_Degree t0_Nodes t0_Edges t0_Labels t0_Degree t0_Nodes t0_Edges e7 e8
         by_cases e33 : (sameP t0_Labels t0_Degree t0_Nodes t0_Edges t0_Labels t0_Degree t0_Nodes t0_Edges) = true
         ·rw [if_pos e33] at h
          have c34 := l_toIntS_cl t1_ e10
          have c35 := l_eqIntS_cl t1_ t1_ e10
          by_cases e36 : (decide (t1_ = t1_)) = true
          ·rw [if_pos e36] at h
           obtain ⟨e37, h⟩ := ckS h
           have c38 := l_markProblem_cl t0_Labels t0_Degree t0_Nodes t0_Edges (1 : Int) e7 e8 e37
           obtain ⟨e39, h⟩ := ckS h
           have c40 := l_markIntS_cl t1_ ((1 : Int) + tot t0_Nodes + tot t0_Edges) e10 e39
           by_cases e41 : (((1 : Int) + tot t0_Nodes + tot t0_Edges) + t1_.length) < 0
           ·rw [if_pos e41] at h
            obtain rfl := Option.some.inj h
            simp (maxDischargeDepth := 9) only [↓xpre, xpost, xlst, xc2, xcore, yset, rg0, ↓reduceIte, Nat.reduceEqDiff, Nat.reduceLT, Nat.reduceLeDiff, Nat.reduceAdd, Nat.reduceMul, Nat.reduceMod, Nat.reduceSub, Nat.reduceBEq, Int.reduceLE, Int.reduceLT, Int.reduceEq, Int.reduceSub, Int.reduceAdd, Int.reduceToNat, Int.reduceNeg, e1, e2, e3, e4.1, e4.2, c5, e6, e7, e8, c9, e10, c11, c12, e20f, e21f, c22, c23, c24, e25, e26, c27, e28, e29, e30, c31, c32, e33, c34, c35, e36, e37.1, e37.2, c38, e39.1, e39.2, c40, e41] <;> (repeat' apply And.intro) <;> first | rfl | exact ⟨_, rfl⟩ | simp [lst, cat2_nil]
           ·rw [if_neg e41] at h
            have c42 := l_eqProblem_cl r24_.1 r24_.2.1 r24_.2.2.1 r24_.2.2.2.1 q12_.1 q12_.2.1 q12_.2.2.1 q12_.2.2.2.1 e25 e26
            obtain ⟨e43, h⟩ := ckS h
            have c44 := l_markProblem_cl r24_.1 r24_.2.1 r24_.2.2.1 r24_.2.2.2.1 (1 : Int) e25 e26 e43
            obtain ⟨r45_, hl45, h⟩ := bindS h
            try dsimp only at h
            have c45 := l_heldProblem_call r24_.1 r24_.2.1 (marks (1 : Int) r24_.2.2.1) (marks ((1 : Int) + tot r24_.2.2.1) r24_.2.2.2.1) (1 : Int) hl45
            by_cases e46 : r45_ < 0
            ·rw [if_pos e46] at h
             obtain rfl := Option.some.inj h
             simp (maxDischargeDepth := 9) only [↓xpre, xpost, xlst, xc2, xcore, yset, rg0, ↓reduceIte, Nat.reduceEqDiff, Nat.reduceLT, Nat.reduceLeDiff, Nat.reduceAdd, Nat.reduceMul, Nat.reduceMod, Nat.reduceSub, Nat.reduceBEq, Int.reduceLE, Int.reduceLT, Int.reduceEq, Int.reduceSub, Int.reduceAdd, Int.reduceToNat, Int.reduceNeg, e1, e2, e3, e4.1, e4.2, c5, e6, e7, e8, c9, e10, c11, c12, e20f, e21f, c22, c23, c24, e25, e26, c27, e28, e29, e30, c31, c32, e33, c34, c35, e36, e37.1, e37.2, c38, e39.1, e39.2, c40, e41, c42, e43.1, e43.2, c44, c45, e46] <;> (repeat' apply And.intro) <;> first | rfl | exact ⟨_, rfl⟩ | simp [lst, cat2_nil]
            ·rw [if_neg e46] at h
             by_cases e47 : r45_ = ((1 : Int) + tot r24_.2.2.1 + tot r24_.2.2.2.1)
             ·rw [if_pos e47] at h
              have c48 := l_toProblem_cl t0_Labels t0_Degree t0_Nodes t0_Edges e7 e8
              have c49 := l_toIntS_cl t1_ e10
              have c50 := l_eqProblem_cl r24_.1 r24_.2.1 r24_.2.2.1 r24_.2.2.2.1 q12_.1 q12_.2.1 q12_.2.2.1 q12_.2.2.2.1 e25 e26
              obtain rfl := Option.some.inj h
              simp (maxDischargeDepth := 9) only [↓xpre, xpost, xlst, xc2, xcore, yset, rg0, ↓reduceIte, Nat.reduceEqDiff, Nat.reduceLT, Nat.reduceLeDiff, Nat.reduceAdd, Nat.reduceMul, Nat.reduceMod, Nat.reduceSub, Nat.reduceBEq, Int.reduceLE, Int.reduceLT, Int.reduceEq, Int.reduceSub, Int.reduceAdd, Int.reduceToNat, Int.reduceNeg, e1, e2, e3, e4.1, e4.2, c5, e6, e7, e8, c9, e10, c11, c12, e20f, e21f, c22, c23, c24, e25, e26, c27, e28, e29, e30, c31, c32, e33, c34, c35, e36, e37.1, e37.2, c38, e39.1, e39.2, c40, e41, c42, e43.1, e43.2, c44, c45, e46, decide_eq_true e47, c48, c49, c50] <;> (repeat' apply And.intro) <;> first | rfl | exact ⟨_, rfl⟩ | simp [lst, cat2_nil]
             ·rw [if_neg e47] at h
              obtain rfl := Option.some.inj h
              simp (maxDischargeDepth := 9) only [↓xpre, xpost, xlst, xc2, xcore, yset, rg0, ↓reduceIte, Nat.reduceEqDiff, Nat.reduceLT, Nat.reduceLeDiff, Nat.reduceAdd, Nat.reduceMul, Nat.reduceMod, Nat.reduceSub, Nat.reduceBEq, Int.reduceLE, Int.reduceLT, Int.reduceEq, Int.reduceSub, Int.reduceAdd, Int.reduceToNat, Int.reduceNeg, e1, e2, e3, e4.1, e4.2, c5, e6, e7, e8, c9, e10, c11, c12, e20f, e21f, c22, c23, c24, e25, e26, c27, e28, e29, e30, c31, c32, e33, c34, c35, e36, e37.1, e37.2, c38, e39.1, e39.2, c40, e41, c42, e43.1, e43.2, c44, c45, e46, e47] <;> (repeat' apply And.intro) <;> first | rfl | exact ⟨_, rfl⟩ | simp [lst, cat2_nil]
          ·exact absurd (decide_eq_true rfl) e36
         ·rw [if_neg e33] at h
          have e33f : (sameP t0_Labels t0_Degree t0_Nodes t0_Edges t0_Labels t0_Degree t0_Nodes t0_Edges) = false := Bool.eq_false_iff.mpr e33
          obtain rfl := Option.some.inj h
          simp (maxDischargeDepth := 9) only [↓xpre, xpost, xlst, xc2, xcore, yset, rg0, ↓reduceIte, Nat.reduceEqDiff, Nat.reduceLT, Nat.reduceLeDiff, Nat.reduceAdd, Nat.reduceMul, Nat.reduceMod, Nat.reduceSub, Nat.reduceBEq, Int.reduceLE, Int.reduceLT, Int.reduceEq, Int.reduceSub, Int.reduceAdd, Int.reduceToNat, Int.reduceNeg, e1, e2, e3, e4.1, e4.2, c5, e6, e7, e8, c9, e10, c11, c12, e20f, e21f, c22, c23, c24, e25, e26, c27, e28, e29, e30, c31, c32, e33f] <;> (repeat' apply And.intro) <;> first | rfl | exact ⟨_, rfl⟩ | simp [lst, cat2_nil]
        ·rw [if_neg e30] at h
         have e30f : q12_.2.2.2.2 = false := Bool.eq_false_iff.mpr e30
         obtain rfl := Option.some.inj h
         simp (maxDischargeDepth := 9) only [↓xpre, xpost, xlst, xc2, xcore, yset, rg0, ↓reduceIte, Nat.reduceEqDiff, Nat.reduceLT, Nat.reduceLeDiff, Nat.reduceAdd, Nat.reduceMul, Nat.reduceMod, Nat.reduceSub, Nat.reduceBEq, Int.reduceLE, Int.reduceLT, Int.reduceEq, Int.reduceSub, Int.reduceAdd, Int.reduceToNat, Int.reduceNeg, e1, e2, e3, e4.1, e4.2, c5, e6, e7, e8, c9, e10, c11, c12, e20f, e21f, c22, c23, c24, e25, e26, c27, e28, e29, e30f] <;> (repeat' apply And.intro) <;> first | rfl | exact ⟨_, rfl⟩ | simp [lst, cat2_nil]
       ·rw [if_neg e29] at h
        have e29f : r24_.2.2.2.2 = false := Bool.eq_false_iff.mpr e29
        by_cases e30 : q12_.2.2.2.2 = true
        ·rw [if_pos e30] at h
         obtain rfl := Option.some.inj h
         simp (maxDischargeDepth := 9) only [↓xpre, xpost, xlst, xc2, xcore, yset, rg0, ↓reduceIte, Nat.reduceEqDiff, Nat.reduceLT, Nat.reduceLeDiff, Nat.reduceAdd, Nat.reduceMul, Nat.reduceMod, Nat.reduceSub, Nat.reduceBEq, Int.reduceLE, Int.reduceLT, Int.reduceEq, Int.reduceSub, Int.reduceAdd, Int.reduceToNat, Int.reduceNeg, e1, e2, e3, e4.1, e4.2, c5, e6, e7, e8, c9, e10, c11, c12, e20f, e21f, c22, c23, c24, e25, e26, c27, e28, e29f, e30] <;> (repeat' apply And.intro) <;> first | rfl | exact ⟨_, rfl⟩ | simp [lst, cat2_nil]
        ·rw [if_neg e30] at h
         have e30f : q12_.2.2.2.2 = false := Bool.eq_false_iff.mpr e30
         have c31 := l_toProblem_cl t0_Labels t0_Degree t0_Nodes t0_Edges e7 e8
         have c32 := l_eqProblem_cl t0_Labels t0_Degree t0_Nodes t0_Edges t0_Labels t0_Degree t0_Nodes t0_Edges e7 e8
         by_cases e33 : (sameP t0_Labels t0_Degree t0_Nodes t0_Edges t0_Labels t0_Degree t0_Nodes t0_Edges) = true
         ·rw [if_pos e33] at h
          have c34 := l_toIntS_cl t1_ e10
          have c35 := l_eqIntS_cl t1_ t1_ e10
          by_cases e36 : (decide (t1_ = t1_)) = true
          ·rw [if_pos e36] at h
           obtain ⟨e37, h⟩ := ckS h
           have c38 := l_markProblem_cl t0_Labels t0_Degree t0_Nodes t0_Edges (1 : Int) e7 e8 e37
           obtain ⟨e39, h⟩ := ckS h
           have c40 := l_markIntS_cl t1_ ((1 : Int) + tot t0_Nodes + tot t0_Edges) e10 e39
           by_cases e41 : (((1 : Int) + tot t0_Nodes + tot t0_Edges) + t1_.length) < 0
           ·rw [if_pos e41] at h
            obtain rfl := Option.some.inj h
            simp (maxDischargeDepth := 9) only [↓xpre, xpost, xlst, xc2, xcore, yset, rg0, ↓reduceIte, Nat.reduceEqDiff, Nat.reduceLT, Nat.reduceLeDiff, Nat.reduceAdd, Nat.reduceMul, Nat.reduceMod, Nat.reduceSub, Nat.reduceBEq, Int.reduceLE, Int.reduceLT, Int.reduceEq, Int.reduceSub, Int.reduceAdd, Int.reduceToNat, Int.reduceNeg, e1, e2, e3, e4.1, e4.2, c5, e6, e7, e8, c9, e10, c11, c12, e20f, e21f, c22, c23, c24, e25, e26, c27, e28, e29f, e30f, c31, c32, e33, c34, c35, e36, e37.1, e37.2, c38, e39.1, e39.2, c40, e41] <;> (repeat' apply And.intro) <;> first | rfl | exact ⟨_, rfl⟩ | simp [lst, cat2_nil]
           ·rw [if_neg e41] at h
            have c42 := l_eqProblem_cl r24_.1 r24_.2.1 r24_.2.2.1 r24_.2.2.2.1 q12_.1 q12_.2.1 q12_.2.2.1 q12_.2.2.2.1 e25 e26
            obtain ⟨e43, h⟩ := ckS h
            have c44 := l_markProblem_cl r24_.1 r24_.2.1 r24_.2.2.1 r24_.2.2.2.1 (1 : Int) e25 e26 e43
            obtain ⟨r45_, hl45, h⟩ := bindS h
            try dsimp only at h
            have c45 := l_heldProblem_call r24_.1 r24_.2.1 (marks (1 : Int) r24_.2.2.1) (marks ((1 : Int) + tot r24_.2.2.1) r24_.2.2.2.1) (1 : Int) hl45
            by_cases e46 : r45_ < 0
            ·rw [if_pos e46] at h
             obtain rfl := Option.some.inj h
             simp (maxDischargeDepth := 9) only [↓xpre, xpost, xlst, xc2, xcore, yset, rg0, ↓reduceIte, Nat.reduceEqDiff, Nat.reduceLT, Nat.reduceLeDiff, Nat.reduceAdd, Nat.reduceMul, Nat.reduceMod, Nat.reduceSub, Nat.reduceBEq, Int.reduceLE, Int.reduceLT, Int.reduceEq, Int.reduceSub, Int.reduceAdd, Int.reduceToNat, Int.reduceNeg, e1, e2, e3, e4.1, e4.2, c5, e6, e7, e8, c9, e10, c11, c12, e20f, e21f, c22, c23, c24, e25, e26, c27, e28, e29f, e30f, c31, c32, e33, c34, c35, e36, e37.1, e37.2, c38, e39.1, e39.2, c40, e41, c42, e43.1, e43.2, c44, c45, e46] <;> (repeat' apply And.intro) <;> first | rfl | exact ⟨_, rfl⟩ | simp [lst, cat2_nil]
            ·rw [if_neg e46] at h
             by_cases e47 : r45_ = ((1 : Int) + tot r24_.2.2.1 + tot r24_.2.2.2.1)
             ·rw [if_pos e47] at h
              have c48 := l_toProblem_cl t0_Labels t0_Degree t0_Nodes t0_Edges e7 e8
              have c49 := l_toIntS_cl t1_ e10
              have c50 := l_eqProblem_cl r24_.1 r24_.2.1 r24_.2.2.1 r24_.2.2.2.1 q12_.1 q12_.2.1 q12_.2.2.1 q12_.2.2.2.1 e25 e26
              obtain rfl := Option.some.inj h
              simp (maxDischargeDepth := 9) only [↓xpre, xpost, xlst, xc2, xcore, yset, rg0, ↓reduceIte, Nat.reduceEqDiff, Nat.reduceLT, Nat.reduceLeDiff, Nat.reduceAdd, Nat.reduceMul, Nat.reduceMod, Nat.reduceSub, Nat.reduceBEq, Int.reduceLE, Int.reduceLT, Int.reduceEq, Int.reduceSub, Int.reduceAdd, Int.reduceToNat, Int.reduceNeg, e1, e2, e3, e4.1, e4.2, c5, e6, e7, e8, c9, e10, c11, c12, e20f, e21f, c22, c23, c24, e25, e26, c27, e28, e29f, e30f, c31, c32, e33, c34, c35, e36, e37.1, e37.2, c38, e39.1, e39.2, c40, e41, c42, e43.1, e43.2, c44, c45, e46, decide_eq_true e47, c48, c49, c50] <;> (repeat' apply And.intro) <;> first | rfl | exact ⟨_, rfl⟩ | simp [lst, cat2_nil]
             ·rw [if_neg e47] at h
              obtain rfl := Option.some.inj h
              simp (maxDischargeDepth := 9) only [↓xpre, xpost, xlst, xc2, xcore, yset, rg0, ↓reduceIte, Nat.reduceEqDiff, Nat.reduceLT, Nat.reduceLeDiff, Nat.reduceAdd, Nat.reduceMul, Nat.reduceMod, Nat.reduceSub, Nat.reduceBEq, Int.reduceLE, Int.reduceLT, Int.reduceEq, Int.reduceSub, Int.reduceAdd, Int.reduceToNat, Int.reduceNeg, e1, e2, e3, e4.1, e4.2, c5, e6, e7, e8, c9, e10, c11, c12, e20f, e21f, c22, c23, c24, e25, e26, c27, e28, e29f, e30f, c31, c32, e33, c34, c35, e36, e37.1, e37.2, c38, e39.1, e39.2, c40, e41, c42, e43.1, e43.2, c44, c45, e46, e47] <;> (repeat' apply And.intro) <;> first | rfl | exact ⟨_, rfl⟩ | simp [lst, cat2_nil]
          ·exact absurd (decide_eq_true rfl) e36
         ·rw [if_neg e33] at h
          have e33f : (sameP t0_Labels t0_Degree t0_Nodes t0_Edges t0_Labels t0_Degree t0_Nodes t0_Edges) = false := Bool.eq_false_iff.mpr e33
          obtain rfl := Option.some.inj h
          simp (maxDischargeDepth := 9) only [↓xpre, xpost, xlst, xc2, xcore, yset, rg0, ↓reduceIte, Nat.reduceEqDiff, Nat.reduceLT, Nat.reduceLeDiff, Nat.reduceAdd, Nat.reduceMul, Nat.reduceMod, Nat.reduceSub, Nat.reduceBEq, Int.reduceLE, Int.reduceLT, Int.reduceEq, Int.reduceSub, Int.reduceAdd, Int.reduceToNat, Int.reduceNeg, e1, e2, e3, e4.1, e4.2, c5, e6, e7, e8, c9, e10, c11, c12, e20f, e21f, c22, c23, c24, e25, e26, c27, e28, e29f, e30f, c31, c32, e33f] <;> (repeat' apply And.intro) <;> first | rfl | exact ⟨_, rfl⟩ | simp [lst, cat2_nil]
      ·rw [if_neg e28] at h
       have e28f : (sameP r24_.1 r24_.2.1 r24_.2.2.1 r24_.2.2.2.1 q12_.1 q12_.2.1 q12_.2.2.1 q12_.2.2.2.1) = false := Bool.eq_false_iff.mpr e28
       obtain rfl := Option.some.inj h
       simp (maxDischargeDepth := 9) only [↓xpre, xpost, xlst, xc2, xcore, yset, rg0, ↓reduceIte, Nat.reduceEqDiff, Nat.reduceLT, Nat.reduceLeDiff, Nat.reduceAdd, Nat.reduceMul, Nat.reduceMod, Nat.reduceSub, Nat.reduceBEq, Int.reduceLE, Int.reduceLT, Int.reduceEq, Int.reduceSub, Int.reduceAdd, Int.reduceToNat, Int.reduceNeg, e1, e2, e3, e4.1, e4.2, c5, e6, e7, e8, c9, e10, c11, c12, e20f, e21f, c22, c23, c24, e25, e26, c27, e28f] <;> (repeat' apply And.intro) <;> first | rfl | exact ⟨_, rfl⟩ | simp [lst, cat2_nil]


end Go.Proofs.Ytdjfaadpmbkcmaa
