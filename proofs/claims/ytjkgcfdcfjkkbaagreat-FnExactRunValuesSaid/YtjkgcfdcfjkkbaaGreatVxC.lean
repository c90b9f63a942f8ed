/- Runs: the law, lifted. Conditions: none. -/
import Derived.Test.YtjkgcfdcfjkkbaaGreatL6
import Derived.Test.YtjkgcfdcfjkkbaaGreatVxA
import Derived.Test.YtjkgcfdcfjkkbaaGreatVop
namespace Go.Proofs.YtjkgcfdcfjkkbaaGreat
open Go Dv
set_option linter.unusedSimpArgs false
set_option linter.unusedVariables false
set_option maxRecDepth 100000
set_option maxHeartbeats 4000000

noncomputable def l_FnExactRunValues (t0_ : List (Int × Int)) (t1_Ends : List (List (Int × Int))) (t1_Ids : List Int) (t1_Inputs : List Int) (t2_ : List Int) (t3_ : Int) : Option (Bool) :=
 if 1048576 < (t2_.length : Int) then
  some true
 else
  ck (t0_.length < 9223372036854775808) <|
  ck (0 ≤ (1048576 : Int) ∧ (1048576 : Int) ≤ 1048576) <|
  if (szN (1048576 : Int) t0_.length) < 0 then
   some true
  else
   ck (WideE t1_Ends) <|
   ck (t1_Ids.length < 9223372036854775808) <|
   ck (t1_Inputs.length < 9223372036854775808) <|
   ck (0 ≤ (szN (1048576 : Int) t0_.length) ∧ (szN (1048576 : Int) t0_.length) ≤ 1048576) <|
   if (szW (szN (1048576 : Int) t0_.length) t1_Ends t1_Ids t1_Inputs) < 0 then
    some true
   else
    ck (t0_.length < 549755813888) <|
    ck (ShortE t1_Ends) <|
    ck (t1_Ids.length < 1099511627776) <|
    ck (t1_Inputs.length < 1099511627776) <|
    ck (t2_.length < 1099511627776) <|
    (s_RunValues t0_ t1_Ends t1_Ids t1_Inputs t2_ t3_).bind fun r20_ =>
    (i_RunValues t0_ t1_Ends t1_Ids t1_Inputs t2_ t3_).bind fun r24_ =>
    ck (Short r24_.1) <|
    if (decide (r24_.1 = r20_.1)) = true then
     if r24_.2 = true then
      if r20_.2 = true then
       if (decide (t0_ = t0_)) = true then
        if (sameN t1_Ends t1_Ids t1_Inputs t1_Ends t1_Ids t1_Inputs) = true then
         if (decide (t2_ = t2_)) = true then
          ck (0 ≤ (1 : Int) ∧ (1 : Int) + 2 * (t0_.length : Int) < 1099511627776) <|
          ck (0 ≤ ((1 : Int) + 2 * (t0_.length : Int)) ∧ ((1 : Int) + 2 * (t0_.length : Int)) + 2 * tot (fE t1_Ends) + t1_Ids.length + t1_Inputs.length < 1099511627776) <|
          ck (0 ≤ (((1 : Int) + 2 * (t0_.length : Int)) + 2 * tot (fE t1_Ends) + t1_Ids.length + t1_Inputs.length) ∧ (((1 : Int) + 2 * (t0_.length : Int)) + 2 * tot (fE t1_Ends) + t1_Ids.length + t1_Inputs.length) < 1099511627776) <|
          if ((((1 : Int) + 2 * (t0_.length : Int)) + 2 * tot (fE t1_Ends) + t1_Ids.length + t1_Inputs.length) + t2_.length) < 0 then
           some false
          else
           ck (0 ≤ (1 : Int) ∧ (1 : Int) + tot r24_.1 < 1099511627776) <|
           (l_heldIntSS (marks (1 : Int) r24_.1) (1 : Int)).bind fun r49_ =>
           if r49_ < 0 then
            some false
           else
            if r49_ = ((1 : Int) + tot r24_.1) then
             some true
            else
             some false
         else
          some false
        else
         some false
       else
        some false
      else
       some false
     else
      if r20_.2 = true then
       some false
      else
       if (decide (t0_ = t0_)) = true then
        if (sameN t1_Ends t1_Ids t1_Inputs t1_Ends t1_Ids t1_Inputs) = true then
         if (decide (t2_ = t2_)) = true then
          ck (0 ≤ (1 : Int) ∧ (1 : Int) + 2 * (t0_.length : Int) < 1099511627776) <|
          ck (0 ≤ ((1 : Int) + 2 * (t0_.length : Int)) ∧ ((1 : Int) + 2 * (t0_.length : Int)) + 2 * tot (fE t1_Ends) + t1_Ids.length + t1_Inputs.length < 1099511627776) <|
          ck (0 ≤ (((1 : Int) + 2 * (t0_.length : Int)) + 2 * tot (fE t1_Ends) + t1_Ids.length + t1_Inputs.length) ∧ (((1 : Int) + 2 * (t0_.length : Int)) + 2 * tot (fE t1_Ends) + t1_Ids.length + t1_Inputs.length) < 1099511627776) <|
          if ((((1 : Int) + 2 * (t0_.length : Int)) + 2 * tot (fE t1_Ends) + t1_Ids.length + t1_Inputs.length) + t2_.length) < 0 then
           some false
          else
           ck (0 ≤ (1 : Int) ∧ (1 : Int) + tot r24_.1 < 1099511627776) <|
           (l_heldIntSS (marks (1 : Int) r24_.1) (1 : Int)).bind fun r49_ =>
           if r49_ < 0 then
            some false
           else
            if r49_ = ((1 : Int) + tot r24_.1) then
             some true
            else
             some false
         else
          some false
        else
         some false
       else
        some false
    else
     some false
/-- laws.FnExactRunValues -/
def k4 : SC :=
 .seq
 (.ops [
 ⟨(some 5), (.box 28 (.tmp 1)), 0, none⟩,
 ⟨(some 8), (.assign (.const (.bool false))), 4, none⟩])
 (.seq
 (.seq
 (.ops [
 ⟨(some 22), (.move (.tmp 2)), 26, none⟩,
 ⟨(some 23), (.call ⟨(.builtin .len), #[(.tmp 22)], #[26]⟩), 3, none⟩,
 ⟨(some 24), (.binOp .gtr 3 (.tmp 23) (.const (.int .i64 1048576)) 3), 4, none⟩])
 (.cond (.tmp 24)
 (.seq
 (.ops [
 ⟨(some 8), (.assign (.const (.bool true))), 4, none⟩])
 .ret)
 .skip))
 (.seq
 (.ops [
 ⟨(some 9), (.assign (.const (.int .i64 1048576))), 3, none⟩])
 (.seq
 (.ops [
 ⟨(some 25), (.move (.tmp 0)), 46, none⟩,
 ⟨(some 26), (.move (.tmp 9)), 3, none⟩,
 ⟨(some 27), (.call ⟨(.value (.func 19)), #[(.tmp 25), (.tmp 26)], #[46, 3]⟩), 3, none⟩,
 ⟨(some 9), (.assign (.tmp 27)), 3, none⟩])
 (.seq
 (.seq
 (.ops [
 ⟨(some 28), (.move (.tmp 9)), 3, none⟩,
 ⟨(some 29), (.binOp .lss 3 (.tmp 28) (.const (.int .i64 0)) 3), 4, none⟩])
 (.cond (.tmp 29)
 (.seq
 (.ops [
 ⟨(some 8), (.assign (.const (.bool true))), 4, none⟩])
 .ret)
 .skip))
 (.seq
 (.ops [
 ⟨(some 30), (.load 28 (.tmp 5)), 28, none⟩,
 ⟨(some 31), (.move (.tmp 9)), 3, none⟩,
 ⟨(some 32), (.call ⟨(.value (.func 7)), #[(.tmp 30), (.tmp 31)], #[28, 3]⟩), 3, none⟩,
 ⟨(some 9), (.assign (.tmp 32)), 3, none⟩])
 (.seq
 (.seq
 (.ops [
 ⟨(some 33), (.move (.tmp 9)), 3, none⟩,
 ⟨(some 34), (.binOp .lss 3 (.tmp 33) (.const (.int .i64 0)) 3), 4, none⟩])
 (.cond (.tmp 34)
 (.seq
 (.ops [
 ⟨(some 8), (.assign (.const (.bool true))), 4, none⟩])
 .ret)
 .skip))
 (.seq
 (.draws [
 (⟨[36, 0, 0], [36, 37, 38, 39, 40, 41, 42, 43, 35, 43, 44, 45, 10, 44, 43, 11, 45], [36]⟩, ⟨(some 36), (.move (.tmp 0)), 46, none⟩),
 (⟨[37, 36, 0], [36, 37, 38, 39, 40, 41, 42, 43, 35, 43, 44, 45, 10, 44, 43, 11, 45], [37]⟩, ⟨(some 37), (.call ⟨(.value (.func 21)), #[(.tmp 36)], #[46]⟩), 49, none⟩),
 (⟨[38, 5, 5], [36, 37, 38, 39, 40, 41, 42, 43, 35, 43, 44, 45, 10, 44, 43, 11, 45], [38]⟩, ⟨(some 38), (.load 28 (.tmp 5)), 28, none⟩),
 (⟨[39, 38, 5], [36, 37, 38, 39, 40, 41, 42, 43, 35, 43, 44, 45, 10, 44, 43, 11, 45], [39]⟩, ⟨(some 39), (.call ⟨(.value (.func 10)), #[(.tmp 38)], #[28]⟩), 37, none⟩),
 (⟨[40, 2, 2], [36, 37, 38, 39, 40, 41, 42, 43, 35, 43, 44, 45, 10, 44, 43, 11, 45], [40]⟩, ⟨(some 40), (.move (.tmp 2)), 26, none⟩),
 (⟨[41, 40, 2], [36, 37, 38, 39, 40, 41, 42, 43, 35, 43, 44, 45, 10, 44, 43, 11, 45], [41]⟩, ⟨(some 41), (.call ⟨(.value (.func 22)), #[(.tmp 40)], #[26]⟩), 26, none⟩),
 (⟨[42, 3, 3], [36, 37, 38, 39, 40, 41, 42, 43, 35, 43, 44, 45, 10, 44, 43, 11, 45], [42]⟩, ⟨(some 42), (.move (.tmp 3)), 3, none⟩),
 (⟨[43, 37, 39, 41, 42, 37, 39, 41, 3], [36, 37, 38, 39, 40, 41, 42, 43, 35, 43, 44, 45, 10, 44, 43, 11, 45], [43]⟩, ⟨(some 43), (.call ⟨(.value (.func 20)), #[(.tmp 37), (.tmp 39), (.tmp 41), (.tmp 42)], #[49, 37, 26, 3]⟩), 31, none⟩),
 (⟨[35, 43, 43], [36, 37, 38, 39, 40, 41, 42, 43, 35, 43, 44, 45, 10, 44, 43, 11, 45], [35, 43]⟩, ⟨(some 35), (.move (.tmp 43)), 31, none⟩),
 (⟨[44, 35], [36, 37, 38, 39, 40, 41, 42, 43, 35, 43, 44, 45, 10, 44, 43, 11, 45], [44]⟩, ⟨(some 44), (.extract (.tmp 35) 0), 22, none⟩),
 (⟨[45, 35], [36, 37, 38, 39, 40, 41, 42, 43, 35, 43, 44, 45, 10, 44, 43, 11, 45], [45]⟩, ⟨(some 45), (.extract (.tmp 35) 1), 4, none⟩),
 (⟨[10, 44, 43], [36, 37, 38, 39, 40, 41, 42, 43, 35, 43, 44, 45, 10, 44, 43, 11, 45], [10, 44, 43]⟩, ⟨(some 10), (.assign (.tmp 44)), 22, none⟩),
 (⟨[11, 45], [36, 37, 38, 39, 40, 41, 42, 43, 35, 43, 44, 45, 10, 44, 43, 11, 45], [11, 45]⟩, ⟨(some 11), (.assign (.tmp 45)), 4, none⟩)])
 (.seq
 (.ops [
 ⟨(some 46), (.move (.tmp 0)), 46, none⟩,
 ⟨(some 47), (.call ⟨(.value (.func 21)), #[(.tmp 46)], #[46]⟩), 49, none⟩,
 ⟨(some 12), (.assign (.tmp 47)), 49, none⟩])
 (.seq
 (.ops [
 ⟨(some 48), (.load 28 (.tmp 5)), 28, none⟩,
 ⟨(some 49), (.call ⟨(.value (.func 10)), #[(.tmp 48)], #[28]⟩), 37, none⟩,
 ⟨(some 13), (.alloc 37), 0, none⟩,
 ⟨none, (.store 37 (.tmp 13) (.tmp 49)), 0, none⟩])
 (.seq
 (.ops [
 ⟨(some 50), (.move (.tmp 2)), 26, none⟩,
 ⟨(some 51), (.call ⟨(.value (.func 22)), #[(.tmp 50)], #[26]⟩), 26, none⟩,
 ⟨(some 14), (.assign (.tmp 51)), 26, none⟩])
 (.seq
 (.ops [
 ⟨(some 53), (.move (.tmp 12)), 49, none⟩,
 ⟨(some 54), (.load 37 (.tmp 13)), 37, none⟩,
 ⟨(some 55), (.move (.tmp 14)), 26, none⟩,
 ⟨(some 56), (.move (.tmp 3)), 3, none⟩,
 ⟨(some 57), (.call ⟨(.value (.func 23)), #[(.tmp 53), (.tmp 54), (.tmp 55), (.tmp 56)], #[49, 37, 26, 3]⟩), 31, none⟩,
 ⟨(some 52), (.move (.tmp 57)), 31, none⟩,
 ⟨(some 58), (.extract (.tmp 52) 0), 22, none⟩,
 ⟨(some 59), (.extract (.tmp 52) 1), 4, none⟩,
 ⟨(some 15), (.assign (.tmp 58)), 22, none⟩,
 ⟨(some 16), (.assign (.tmp 59)), 4, none⟩])
 (.seq
 (.seq
 (.ops [
 ⟨(some 60), (.move (.tmp 15)), 22, none⟩,
 ⟨(some 61), (.move (.tmp 10)), 22, none⟩,
 ⟨(some 62), (.call ⟨(.value (.func 12)), #[(.tmp 60), (.tmp 61)], #[22, 22]⟩), 4, none⟩,
 ⟨(some 63), (.unOp .not 4 (.tmp 62)), 4, none⟩,
 ⟨(some 64), (.move (.tmp 63)), 4, none⟩,
 ⟨(some 65), (.move (.tmp 16)), 4, (some (some 64, false))⟩,
 ⟨(some 66), (.move (.tmp 11)), 4, (some (some 64, false))⟩,
 ⟨(some 67), (.binOp .neq 4 (.tmp 65) (.tmp 66) 4), 4, (some (some 64, false))⟩,
 ⟨(some 68), (.pick (.tmp 64) (.const (.bool true)) (.tmp 67)), 4, none⟩])
 (.cond (.tmp 68)
 (.seq
 (.ops [
 ⟨(some 8), (.assign (.const (.bool false))), 4, none⟩])
 .ret)
 .skip))
 (.seq
 (.seq
 (.ops [
 ⟨(some 69), (.move (.tmp 12)), 49, none⟩,
 ⟨(some 70), (.move (.tmp 0)), 46, none⟩,
 ⟨(some 71), (.call ⟨(.value (.func 21)), #[(.tmp 70)], #[46]⟩), 49, none⟩,
 ⟨(some 72), (.call ⟨(.value (.func 24)), #[(.tmp 69), (.tmp 71)], #[49, 49]⟩), 4, none⟩,
 ⟨(some 73), (.unOp .not 4 (.tmp 72)), 4, none⟩])
 (.cond (.tmp 73)
 (.seq
 (.ops [
 ⟨(some 8), (.assign (.const (.bool false))), 4, none⟩])
 .ret)
 .skip))
 (.seq
 (.seq
 (.draws [
 (⟨[74, 13, 13], [74, 75, 76, 77, 78], [74]⟩, ⟨(some 74), (.load 37 (.tmp 13)), 37, none⟩),
 (⟨[75, 5, 5], [74, 75, 76, 77, 78], [75]⟩, ⟨(some 75), (.load 28 (.tmp 5)), 28, none⟩),
 (⟨[76, 75, 5], [74, 75, 76, 77, 78], [76]⟩, ⟨(some 76), (.call ⟨(.value (.func 10)), #[(.tmp 75)], #[28]⟩), 37, none⟩),
 (⟨[77, 74, 76, 13, 76], [74, 75, 76, 77, 78], [77]⟩, ⟨(some 77), (.call ⟨(.value (.func 14)), #[(.tmp 74), (.tmp 76)], #[37, 37]⟩), 4, none⟩),
 (⟨[78, 77, 77], [74, 75, 76, 77, 78], [78]⟩, ⟨(some 78), (.unOp .not 4 (.tmp 77)), 4, none⟩)])
 (.cond (.tmp 78)
 (.seq
 (.ops [
 ⟨(some 8), (.assign (.const (.bool false))), 4, none⟩])
 .ret)
 .skip))
 (.seq
 (.seq
 (.ops [
 ⟨(some 79), (.move (.tmp 14)), 26, none⟩,
 ⟨(some 80), (.move (.tmp 2)), 26, none⟩,
 ⟨(some 81), (.call ⟨(.value (.func 22)), #[(.tmp 80)], #[26]⟩), 26, none⟩,
 ⟨(some 82), (.call ⟨(.value (.func 25)), #[(.tmp 79), (.tmp 81)], #[26, 26]⟩), 4, none⟩,
 ⟨(some 83), (.unOp .not 4 (.tmp 82)), 4, none⟩])
 (.cond (.tmp 83)
 (.seq
 (.ops [
 ⟨(some 8), (.assign (.const (.bool false))), 4, none⟩])
 .ret)
 .skip))
 (.seq
 (.ops [
 ⟨(some 17), (.assign (.const (.int .i64 1))), 3, none⟩])
 (.seq
 (.ops [
 ⟨(some 84), (.move (.tmp 12)), 49, none⟩,
 ⟨(some 85), (.move (.tmp 17)), 3, none⟩,
 ⟨(some 86), (.call ⟨(.value (.func 26)), #[(.tmp 84), (.tmp 85)], #[49, 3]⟩), 3, none⟩,
 ⟨(some 17), (.assign (.tmp 86)), 3, none⟩])
 (.seq
 (.ops [
 ⟨(some 87), (.load 37 (.tmp 13)), 37, none⟩,
 ⟨(some 88), (.move (.tmp 17)), 3, none⟩,
 ⟨(some 89), (.call ⟨(.value (.func 16)), #[(.tmp 87), (.tmp 88)], #[37, 3]⟩), 3, none⟩,
 ⟨(some 17), (.assign (.tmp 89)), 3, none⟩])
 (.seq
 (.ops [
 ⟨(some 90), (.move (.tmp 14)), 26, none⟩,
 ⟨(some 91), (.move (.tmp 17)), 3, none⟩,
 ⟨(some 92), (.call ⟨(.value (.func 27)), #[(.tmp 90), (.tmp 91)], #[26, 3]⟩), 3, none⟩,
 ⟨(some 17), (.assign (.tmp 92)), 3, none⟩])
 (.seq
 (.seq
 (.ops [
 ⟨(some 93), (.move (.tmp 17)), 3, none⟩,
 ⟨(some 94), (.binOp .lss 3 (.tmp 93) (.const (.int .i64 0)) 3), 4, none⟩,
 ⟨(some 95), (.move (.tmp 94)), 4, none⟩,
 ⟨(some 96), (.move (.tmp 15)), 22, (some (some 95, false))⟩,
 ⟨(some 97), (.move (.tmp 10)), 22, (some (some 95, false))⟩,
 ⟨(some 98), (.call ⟨(.value (.func 12)), #[(.tmp 96), (.tmp 97)], #[22, 22]⟩), 4, (some (some 95, false))⟩,
 ⟨(some 99), (.unOp .not 4 (.tmp 98)), 4, (some (some 95, false))⟩,
 ⟨(some 100), (.pick (.tmp 95) (.const (.bool true)) (.tmp 99)), 4, none⟩,
 ⟨(some 101), (.move (.tmp 100)), 4, none⟩,
 ⟨(some 102), (.move (.tmp 16)), 4, (some (some 101, false))⟩,
 ⟨(some 103), (.move (.tmp 11)), 4, (some (some 101, false))⟩,
 ⟨(some 104), (.binOp .neq 4 (.tmp 102) (.tmp 103) 4), 4, (some (some 101, false))⟩,
 ⟨(some 105), (.pick (.tmp 101) (.const (.bool true)) (.tmp 104)), 4, none⟩])
 (.cond (.tmp 105)
 (.seq
 (.ops [
 ⟨(some 8), (.assign (.const (.bool false))), 4, none⟩])
 .ret)
 .skip))
 (.seq
 (.ops [
 ⟨(some 18), (.assign (.const (.int .i64 1))), 3, none⟩])
 (.seq
 (.ops [
 ⟨(some 106), (.move (.tmp 15)), 22, none⟩,
 ⟨(some 107), (.move (.tmp 18)), 3, none⟩,
 ⟨(some 108), (.call ⟨(.value (.func 17)), #[(.tmp 106), (.tmp 107)], #[22, 3]⟩), 3, none⟩,
 ⟨(some 18), (.assign (.tmp 108)), 3, none⟩])
 (.seq
 (.ops [
 ⟨(some 19), (.assign (.const (.int .i64 1))), 3, none⟩])
 (.seq
 (.ops [
 ⟨(some 109), (.move (.tmp 15)), 22, none⟩,
 ⟨(some 110), (.move (.tmp 19)), 3, none⟩,
 ⟨(some 111), (.call ⟨(.value (.func 18)), #[(.tmp 109), (.tmp 110)], #[22, 3]⟩), 3, none⟩,
 ⟨(some 19), (.assign (.tmp 111)), 3, none⟩])
 (.seq
 (.seq
 (.ops [
 ⟨(some 112), (.move (.tmp 19)), 3, none⟩,
 ⟨(some 113), (.binOp .lss 3 (.tmp 112) (.const (.int .i64 0)) 3), 4, none⟩])
 (.cond (.tmp 113)
 (.seq
 (.ops [
 ⟨(some 8), (.assign (.const (.bool false))), 4, none⟩])
 .ret)
 .skip))
 (.seq
 (.seq
 (.ops [
 ⟨(some 114), (.move (.tmp 19)), 3, none⟩,
 ⟨(some 115), (.move (.tmp 18)), 3, none⟩,
 ⟨(some 116), (.binOp .neq 3 (.tmp 114) (.tmp 115) 3), 4, none⟩])
 (.cond (.tmp 116)
 (.seq
 (.ops [
 ⟨(some 8), (.assign (.const (.bool false))), 4, none⟩])
 .ret)
 .skip))
 (.seq
 (.draws [
 (⟨[118, 0, 0], [118, 119, 120, 121, 122, 123, 124, 125, 117, 125, 126, 127, 20, 126, 125, 21, 127], [118]⟩, ⟨(some 118), (.move (.tmp 0)), 46, none⟩),
 (⟨[119, 118, 0], [118, 119, 120, 121, 122, 123, 124, 125, 117, 125, 126, 127, 20, 126, 125, 21, 127], [119]⟩, ⟨(some 119), (.call ⟨(.value (.func 21)), #[(.tmp 118)], #[46]⟩), 49, none⟩),
 (⟨[120, 5, 5], [118, 119, 120, 121, 122, 123, 124, 125, 117, 125, 126, 127, 20, 126, 125, 21, 127], [120]⟩, ⟨(some 120), (.load 28 (.tmp 5)), 28, none⟩),
 (⟨[121, 120, 5], [118, 119, 120, 121, 122, 123, 124, 125, 117, 125, 126, 127, 20, 126, 125, 21, 127], [121]⟩, ⟨(some 121), (.call ⟨(.value (.func 10)), #[(.tmp 120)], #[28]⟩), 37, none⟩),
 (⟨[122, 2, 2], [118, 119, 120, 121, 122, 123, 124, 125, 117, 125, 126, 127, 20, 126, 125, 21, 127], [122]⟩, ⟨(some 122), (.move (.tmp 2)), 26, none⟩),
 (⟨[123, 122, 2], [118, 119, 120, 121, 122, 123, 124, 125, 117, 125, 126, 127, 20, 126, 125, 21, 127], [123]⟩, ⟨(some 123), (.call ⟨(.value (.func 22)), #[(.tmp 122)], #[26]⟩), 26, none⟩),
 (⟨[124, 3, 3], [118, 119, 120, 121, 122, 123, 124, 125, 117, 125, 126, 127, 20, 126, 125, 21, 127], [124]⟩, ⟨(some 124), (.move (.tmp 3)), 3, none⟩),
 (⟨[125, 119, 121, 123, 124, 119, 121, 123, 3], [118, 119, 120, 121, 122, 123, 124, 125, 117, 125, 126, 127, 20, 126, 125, 21, 127], [125]⟩, ⟨(some 125), (.call ⟨(.value (.func 23)), #[(.tmp 119), (.tmp 121), (.tmp 123), (.tmp 124)], #[49, 37, 26, 3]⟩), 31, none⟩),
 (⟨[117, 125, 125], [118, 119, 120, 121, 122, 123, 124, 125, 117, 125, 126, 127, 20, 126, 125, 21, 127], [117, 125]⟩, ⟨(some 117), (.move (.tmp 125)), 31, none⟩),
 (⟨[126, 117], [118, 119, 120, 121, 122, 123, 124, 125, 117, 125, 126, 127, 20, 126, 125, 21, 127], [126]⟩, ⟨(some 126), (.extract (.tmp 117) 0), 22, none⟩),
 (⟨[127, 117], [118, 119, 120, 121, 122, 123, 124, 125, 117, 125, 126, 127, 20, 126, 125, 21, 127], [127]⟩, ⟨(some 127), (.extract (.tmp 117) 1), 4, none⟩),
 (⟨[20, 126, 125], [118, 119, 120, 121, 122, 123, 124, 125, 117, 125, 126, 127, 20, 126, 125, 21, 127], [20, 126, 125]⟩, ⟨(some 20), (.assign (.tmp 126)), 22, none⟩),
 (⟨[21, 127], [118, 119, 120, 121, 122, 123, 124, 125, 117, 125, 126, 127, 20, 126, 125, 21, 127], [21, 127]⟩, ⟨(some 21), (.assign (.tmp 127)), 4, none⟩)])
 (.seq
 (.seq
 (.ops [
 ⟨(some 128), (.move (.tmp 20)), 22, none⟩,
 ⟨(some 129), (.move (.tmp 10)), 22, none⟩,
 ⟨(some 130), (.call ⟨(.value (.func 12)), #[(.tmp 128), (.tmp 129)], #[22, 22]⟩), 4, none⟩,
 ⟨(some 131), (.unOp .not 4 (.tmp 130)), 4, none⟩,
 ⟨(some 132), (.move (.tmp 131)), 4, none⟩,
 ⟨(some 133), (.move (.tmp 21)), 4, (some (some 132, false))⟩,
 ⟨(some 134), (.move (.tmp 11)), 4, (some (some 132, false))⟩,
 ⟨(some 135), (.binOp .neq 4 (.tmp 133) (.tmp 134) 4), 4, (some (some 132, false))⟩,
 ⟨(some 136), (.pick (.tmp 132) (.const (.bool true)) (.tmp 135)), 4, none⟩])
 (.cond (.tmp 136)
 (.seq
 (.ops [
 ⟨(some 8), (.assign (.const (.bool false))), 4, none⟩])
 .ret)
 .skip))
 (.seq
 (.ops [
 ⟨(some 19), (.assign (.const (.int .i64 1))), 3, none⟩])
 (.seq
 (.ops [
 ⟨(some 137), (.move (.tmp 15)), 22, none⟩,
 ⟨(some 138), (.move (.tmp 19)), 3, none⟩,
 ⟨(some 139), (.call ⟨(.value (.func 18)), #[(.tmp 137), (.tmp 138)], #[22, 3]⟩), 3, none⟩,
 ⟨(some 19), (.assign (.tmp 139)), 3, none⟩])
 (.seq
 (.seq
 (.ops [
 ⟨(some 140), (.move (.tmp 19)), 3, none⟩,
 ⟨(some 141), (.binOp .lss 3 (.tmp 140) (.const (.int .i64 0)) 3), 4, none⟩])
 (.cond (.tmp 141)
 (.seq
 (.ops [
 ⟨(some 8), (.assign (.const (.bool false))), 4, none⟩])
 .ret)
 .skip))
 (.seq
 (.seq
 (.ops [
 ⟨(some 142), (.move (.tmp 19)), 3, none⟩,
 ⟨(some 143), (.move (.tmp 18)), 3, none⟩,
 ⟨(some 144), (.binOp .neq 3 (.tmp 142) (.tmp 143) 3), 4, none⟩])
 (.cond (.tmp 144)
 (.seq
 (.ops [
 ⟨(some 8), (.assign (.const (.bool false))), 4, none⟩])
 .ret)
 .skip))
 (.seq
 (.ops [
 ⟨(some 8), (.assign (.const (.bool true))), 4, none⟩])
 .ret)))))))))))))))))))))))))))))))))
theorem slim4 : Tryz.f4.body.map (slim lends) = some k4 := by kernel_rfl
theorem ok4 : fnOk Tryz.f4 4 = true := by kernel_rfl
theorem c4 {a l : List D} {r : D × List D} (h : wpD Y.env k4 (fin tys l.length [ResultVar.tmp 8] r) (entry a l)) (ha : a.length = 4) : Y.call 4 a l = some r :=
 call_slim (Y := Y) rfl Tryz.func4 (ha ▸ ok4) slim4 h
theorem l_FnExactRunValues_call (t0_ : List (Int × Int)) (t1_Ends : List (List (Int × Int))) (t1_Ids : List Int) (t1_Inputs : List Int) (t2_ : List Int) (t3_ : Int) {r : Bool} (h : l_FnExactRunValues t0_ t1_Ends t1_Ids t1_Inputs t2_ t3_ = some r) : Y.call 4 [D.sl 75 (cat2 .i64 .i64 t0_), D.agg [D.sl 80 (lst (fun x => D.sl 103 (cat2 .i64 .i64 x)) t1_Ends), D.sl 3 (lst (D.int .i64) t1_Ids), D.sl 3 (lst (D.int .i64) t1_Inputs)], D.sl 3 (lst (D.int .i64) t2_), D.int .i64 t3_] [] = some (D.bool r, []) := by
 refine c4 ?_ rfl
 unfold k4
 unfold l_FnExactRunValues at h
 by_cases e1 : 1048576 < (t2_.length : Int)
 ·rw [if_pos e1] at h
  obtain rfl := Option.some.inj h
  simp (maxDischargeDepth := 9) only [↓xpre, xpost, xlst, xcore, yset, ↓reduceIte, Nat.reduceEqDiff, Nat.reduceLT, e1]
 ·rw [if_neg e1] at h
  obtain ⟨e2, h⟩ := ckS h
  obtain ⟨e3, h⟩ := ckS h
  have c4 := l_szValueOpS_cl t0_ (1048576 : Int) e2 e3
  by_cases e5 : (szN (1048576 : Int) t0_.length) < 0
  ·rw [if_pos e5] at h
   obtain rfl := Option.some.inj h
   simp (maxDischargeDepth := 9) only [↓xpre, xpost, xlst, xcore, yset, ↓reduceIte, Nat.reduceEqDiff, Nat.reduceLT, Nat.reduceAdd, e1, c4, e5]
  ·rw [if_neg e5] at h
   obtain ⟨e6, h⟩ := ckS h
   obtain ⟨e7, h⟩ := ckS h
   obtain ⟨e8, h⟩ := ckS h
   obtain ⟨e9, h⟩ := ckS h
   have c10 := l_szNetwork_cl t1_Ends t1_Ids t1_Inputs (szN (1048576 : Int) t0_.length) e6 e7 e8 e9
   by_cases e11 : (szW (szN (1048576 : Int) t0_.length) t1_Ends t1_Ids t1_Inputs) < 0
   ·rw [if_pos e11] at h
    obtain rfl := Option.some.inj h
    simp (maxDischargeDepth := 9) only [↓xpre, xpost, xlst, xcore, yset, ↓reduceIte, Nat.reduceEqDiff, Nat.reduceLT, Nat.reduceAdd, e1, c4, e5, c10, e11]
   ·rw [if_neg e11] at h
    obtain ⟨e12, h⟩ := ckS h
    have c13 := l_toValueOpS_cl t0_ e12
    obtain ⟨e14, h⟩ := ckS h
    obtain ⟨e15, h⟩ := ckS h
    obtain ⟨e16, h⟩ := ckS h
    have c17 := l_toNetwork_cl t1_Ends t1_Ids t1_Inputs e14 e15 e16
    obtain ⟨e18, h⟩ := ckS h
    have c19 := l_toIntS_cl t2_ e18
    obtain ⟨r20_, hl20, h⟩ := bindS h
    try dsimp only at h
    have c20 := s_RunValues_call t0_ t1_Ends t1_Ids t1_Inputs t2_ t3_ hl20
    have c21 := l_toValueOpS_cl t0_ e12
    have c22 := l_toNetwork_cl t1_Ends t1_Ids t1_Inputs e14 e15 e16
    have c23 := l_toIntS_cl t2_ e18
    obtain ⟨r24_, hl24, h⟩ := bindS h
    try dsimp only at h
    have c24 := i_RunValues_call t0_ t1_Ends t1_Ids t1_Inputs t2_ t3_ hl24
    obtain ⟨e25, h⟩ := ckS h
    have c26 := l_eqIntSS_cl r24_.1 r20_.1 e25
    by_cases e27 : (decide (r24_.1 = r20_.1)) = true
    ·rw [if_pos e27] at h
     by_cases e28 : r24_.2 = true
     ·rw [if_pos e28] at h
      by_cases e29 : r20_.2 = true
      ·rw [if_pos e29] at h
       have c30 := l_toValueOpS_cl t0_ e12
       have c31 := l_eqValueOpS_cl t0_ t0_ e12
       by_cases e32 : (decide (t0_ = t0_)) = true
       ·rw [if_pos e32] at h
        have c33 := l_toNetwork_cl t1_Ends t1_Ids t1_Inputs e14 e15 e16
        have c34 := l_eqNetwork_cl t1_Ends t1_Ids t1_Inputs t1_Ends t1_Ids t1_Inputs e14 e15 e16
        by_cases e35 : (sameN t1_Ends t1_Ids t1_Inputs t1_Ends t1_Ids t1_Inputs) = true
        ·rw [if_pos e35] at h
         have c36 := l_toIntS_cl t2_ e18
         have c37 := l_eqIntS_cl t2_ t2_ e18
         by_cases e38 : (decide (t2_ = t2_)) = true
         ·rw [if_pos e38] at h
          obtain ⟨e39, h⟩ := ckS h
          have c40 := l_markValueOpS_cl t0_ (1 : Int) e12 e39
          obtain ⟨e41, h⟩ := ckS h
          have c42 := l_markNetwork_cl t1_Ends t1_Ids t1_Inputs ((1 : Int) + 2 * (t0_.length : Int)) e14 e15 e16 e41
          obtain ⟨e43, h⟩ := ckS h
          have c44 := l_markIntS_cl t2_ (((1 : Int) + 2 * (t0_.length : Int)) + 2 * tot (fE t1_Ends) + t1_Ids.length + t1_Inputs.length) e18 e43
          by_cases e45 : ((((1 : Int) + 2 * (t0_.length : Int)) + 2 * tot (fE t1_Ends) + t1_Ids.length + t1_Inputs.length) + t2_.length) < 0
          ·rw [if_pos e45] at h
           obtain rfl := Option.some.inj h
           simp (maxDischargeDepth := 9) only [↓xpre, xpost, xlst, xc2, xcore, yset, ↓reduceIte, Nat.reduceEqDiff, Nat.reduceLT, Nat.reduceAdd, Nat.reduceBEq, e1, c4, e5, c10, e11, c13, c17, c19, c20, c24, c26, e27, e28, e29, c31, c34, e35, c37, c40, c42, c44, e45]
          ·rw [if_neg e45] at h
           have c46 := l_eqIntSS_cl r24_.1 r20_.1 e25
           obtain ⟨e47, h⟩ := ckS h
           have c48 := l_markIntSS_cl r24_.1 (1 : Int) e25 e47
           obtain ⟨r49_, hl49, h⟩ := bindS h
           try dsimp only at h
           have c49 := l_heldIntSS_call (marks (1 : Int) r24_.1) (1 : Int) hl49
           by_cases e50 : r49_ < 0
           ·rw [if_pos e50] at h
            obtain rfl := Option.some.inj h
            simp (maxDischargeDepth := 9) only [↓xpre, xpost, xlst, xc2, xcore, yset, ↓reduceIte, Nat.reduceEqDiff, Nat.reduceLT, Nat.reduceAdd, Nat.reduceBEq, e1, c4, e5, c10, e11, c13, c17, c19, c20, c24, c26, e27, e28, e29, c31, c34, e35, c37, c40, c42, c44, e45, c48, c49, e50]
           ·rw [if_neg e50] at h
            by_cases e51 : r49_ = ((1 : Int) + tot r24_.1)
            ·rw [if_pos e51] at h
             have c52 := l_toValueOpS_cl t0_ e12
             have c53 := l_toNetwork_cl t1_Ends t1_Ids t1_Inputs e14 e15 e16
             have c54 := l_toIntS_cl t2_ e18
             have c55 := l_eqIntSS_cl r24_.1 r20_.1 e25
             obtain rfl := Option.some.inj h
             simp (maxDischargeDepth := 9) only [↓xpre, xpost, xlst, xc2, xcore, yset, ↓reduceIte, Nat.reduceEqDiff, Nat.reduceLT, Nat.reduceAdd, Nat.reduceBEq, e1, c4, e5, c10, e11, c13, c17, c19, c20, c24, c26, e27, e28, e29, c31, c34, e35, c37, c40, c42, c44, e45, c48, c49, e50, decide_eq_true e51]
            ·rw [if_neg e51] at h
             obtain rfl := Option.some.inj h
             simp (maxDischargeDepth := 9) only [↓xpre, xpost, xlst, xc2, xcore, yset, ↓reduceIte, Nat.reduceEqDiff, Nat.reduceLT, Nat.reduceAdd, Nat.reduceBEq, e1, c4, e5, c10, e11, c13, c17, c19, c20, c24, c26, e27, e28, e29, c31, c34, e35, c37, c40, c42, c44, e45, c48, c49, e50, e51]
         ·exact absurd (decide_eq_true rfl) e38
        ·rw [if_neg e35] at h
         have e35f : (sameN t1_Ends t1_Ids t1_Inputs t1_Ends t1_Ids t1_Inputs) = false := Bool.eq_false_iff.mpr e35
         obtain rfl := Option.some.inj h
         simp (maxDischargeDepth := 9) only [↓xpre, xpost, xlst, xc2, xcore, yset, ↓reduceIte, Nat.reduceEqDiff, Nat.reduceLT, Nat.reduceAdd, Nat.reduceBEq, e1, c4, e5, c10, e11, c13, c17, c19, c20, c24, c26, e27, e28, e29, c31, c34, e35f]
       ·exact absurd (decide_eq_true rfl) e32
      ·rw [if_neg e29] at h
       have e29f : r20_.2 = false := Bool.eq_false_iff.mpr e29
       obtain rfl := Option.some.inj h
       simp (maxDischargeDepth := 9) only [↓xpre, xpost, xlst, xc2, xcore, yset, ↓reduceIte, Nat.reduceEqDiff, Nat.reduceLT, Nat.reduceAdd, Nat.reduceBEq, e1, c4, e5, c10, e11, c13, c17, c19, c20, c24, c26, e27, e28, e29f]
     ·rw [if_neg e28] at h
      have e28f : r24_.2 = false := Bool.eq_false_iff.mpr e28
      by_cases e29 : r20_.2 = true
      ·rw [if_pos e29] at h
       obtain rfl := Option.some.inj h
       simp (maxDischargeDepth := 9) only [↓xpre, xpost, xlst, xc2, xcore, yset, ↓reduceIte, Nat.reduceEqDiff, Nat.reduceLT, Nat.reduceAdd, Nat.reduceBEq, e1, c4, e5, c10, e11, c13, c17, c19, c20, c24, c26, e27, e28f, e29]
      ·rw [if_neg e29] at h
       have e29f : r20_.2 = false := Bool.eq_false_iff.mpr e29
       have c30 := l_toValueOpS_cl t0_ e12
       have c31 := l_eqValueOpS_cl t0_ t0_ e12
       by_cases e32 : (decide (t0_ = t0_)) = true
       ·rw [if_pos e32] at h
        have c33 := l_toNetwork_cl t1_Ends t1_Ids t1_Inputs e14 e15 e16
        have c34 := l_eqNetwork_cl t1_Ends t1_Ids t1_Inputs t1_Ends t1_Ids t1_Inputs e14 e15 e16
        by_cases e35 : (sameN t1_Ends t1_Ids t1_Inputs t1_Ends t1_Ids t1_Inputs) = true
        ·rw [if_pos e35] at h
         have c36 := l_toIntS_cl t2_ e18
         have c37 := l_eqIntS_cl t2_ t2_ e18
         by_cases e38 : (decide (t2_ = t2_)) = true
         ·rw [if_pos e38] at h
          obtain ⟨e39, h⟩ := ckS h
          have c40 := l_markValueOpS_cl t0_ (1 : Int) e12 e39
          obtain ⟨e41, h⟩ := ckS h
          have c42 := l_markNetwork_cl t1_Ends t1_Ids t1_Inputs ((1 : Int) + 2 * (t0_.length : Int)) e14 e15 e16 e41
          obtain ⟨e43, h⟩ := ckS h
          have c44 := l_markIntS_cl t2_ (((1 : Int) + 2 * (t0_.length : Int)) + 2 * tot (fE t1_Ends) + t1_Ids.length + t1_Inputs.length) e18 e43
          by_cases e45 : ((((1 : Int) + 2 * (t0_.length : Int)) + 2 * tot (fE t1_Ends) + t1_Ids.length + t1_Inputs.length) + t2_.length) < 0
          ·rw [if_pos e45] at h
           obtain rfl := Option.some.inj h
           simp (maxDischargeDepth := 9) only [↓xpre, xpost, xlst, xc2, xcore, yset, ↓reduceIte, Nat.reduceEqDiff, Nat.reduceLT, Nat.reduceAdd, Nat.reduceBEq, e1, c4, e5, c10, e11, c13, c17, c19, c20, c24, c26, e27, e28f, e29f, c31, c34, e35, c37, c40, c42, c44, e45]
          ·rw [if_neg e45] at h
           have c46 := l_eqIntSS_cl r24_.1 r20_.1 e25
           obtain ⟨e47, h⟩ := ckS h
           have c48 := l_markIntSS_cl r24_.1 (1 : Int) e25 e47
           obtain ⟨r49_, hl49, h⟩ := bindS h
           try dsimp only at h
           have c49 := l_heldIntSS_call (marks (1 : Int) r24_.1) (1 : Int) hl49
           by_cases e50 : r49_ < 0
           ·rw [if_pos e50] at h
            obtain rfl := Option.some.inj h
            simp (maxDischargeDepth := 9) only [↓xpre, xpost, xlst, xc2, xcore, yset, ↓reduceIte, Nat.reduceEqDiff, Nat.reduceLT, Nat.reduceAdd, Nat.reduceBEq, e1, c4, e5, c10, e11, c13, c17, c19, c20, c24, c26, e27, e28f, e29f, c31, c34, e35, c37, c40, c42, c44, e45, c48, c49, e50]
           ·rw [if_neg e50] at h
            by_cases e51 : r49_ = ((1 : Int) + tot r24_.1)
            ·rw [if_pos e51] at h
             have c52 := l_toValueOpS_cl t0_ e12
             have c53 := l_toNetwork_cl t1_Ends t1_Ids t1_Inputs e14 e15 e16
             have c54 := l_toIntS_cl t2_ e18
             have c55 := l_eqIntSS_cl r24_.1 r20_.1 e25
             obtain rfl := Option.some.inj h
             simp (maxDischargeDepth := 9) only [↓xpre, xpost, xlst, xc2, xcore, yset, ↓reduceIte, Nat.reduceEqDiff, Nat.reduceLT, Nat.reduceAdd, Nat.reduceBEq, e1, c4, e5, c10, e11, c13, c17, c19, c20, c24, c26, e27, e28f, e29f, c31, c34, e35, c37, c40, c42, c44, e45, c48, c49, e50, decide_eq_true e51]
            ·rw [if_neg e51] at h
             obtain rfl := Option.some.inj h
             simp (maxDischargeDepth := 9) only [↓xpre, xpost, xlst, xc2, xcore, yset, ↓reduceIte, Nat.reduceEqDiff, Nat.reduceLT, Nat.reduceAdd, Nat.reduceBEq, e1, c4, e5, c10, e11, c13, c17, c19, c20, c24, c26, e27, e28f, e29f, c31, c34, e35, c37, c40, c42, c44, e45, c48, c49, e50, e51]
         ·exact absurd (decide_eq_true rfl) e38
        ·rw [if_neg e35] at h
         have e35f : (sameN t1_Ends t1_Ids t1_Inputs t1_Ends t1_Ids t1_Inputs) = false := Bool.eq_false_iff.mpr e35
         obtain rfl := Option.some.inj h
         simp (maxDischargeDepth := 9) only [↓xpre, xpost, xlst, xc2, xcore, yset, ↓reduceIte, Nat.reduceEqDiff, Nat.reduceLT, Nat.reduceAdd, Nat.reduceBEq, e1, c4, e5, c10, e11, c13, c17, c19, c20, c24, c26, e27, e28f, e29f, c31, c34, e35f]
       ·exact absurd (decide_eq_true rfl) e32
    ·rw [if_neg e27] at h
     have e27f : (decide (r24_.1 = r20_.1)) = false := Bool.eq_false_iff.mpr e27
     obtain rfl := Option.some.inj h
     simp (maxDischargeDepth := 9) only [↓xpre, xpost, xlst, xc2, xcore, yset, ↓reduceIte, Nat.reduceEqDiff, Nat.reduceLT, Nat.reduceAdd, Nat.reduceBEq, e1, c4, e5, c10, e11, c13, c17, c19, c20, c24, c26, e27f]


end Go.Proofs.YtjkgcfdcfjkkbaaGreat
