/- Labelings without rounds: the law, lifted. Conditions: none. -/
import Derived.Test.YtjkgcfdcfjkkbaaGreatL6
import Derived.Test.YtjkgcfdcfjkkbaaGreatZla
import Derived.Test.YtjkgcfdcfjkkbaaGreatNmk
namespace Go.Proofs.YtjkgcfdcfjkkbaaGreat
open Go Dv
set_option linter.unusedSimpArgs false
set_option linter.unusedVariables false
set_option maxRecDepth 100000
set_option maxHeartbeats 4000000

noncomputable def l_FnExactZeroLabeling (t0_Labels : Int) (t0_Degree : Int) (t0_Nodes : List (List Int)) (t0_Edges : List (List Int)) (t1_Ends : List (List (Int × Int))) (t1_Ids : List Int) (t1_Inputs : List Int) : Option (Bool) :=
  ck (Wide t0_Nodes) <|
  ck (Wide t0_Edges) <|
  ck (0 ≤ (1048576 : Int) ∧ (1048576 : Int) ≤ 1048576) <|
  if (szP (1048576 : Int) t0_Nodes t0_Edges) < 0 then
    some true
  else
    ck (WideE t1_Ends) <|
    ck (t1_Ids.length < 9223372036854775808) <|
    ck (t1_Inputs.length < 9223372036854775808) <|
    ck (0 ≤ (szP (1048576 : Int) t0_Nodes t0_Edges) ∧ (szP (1048576 : Int) t0_Nodes t0_Edges) ≤ 1048576) <|
    if (szW (szP (1048576 : Int) t0_Nodes t0_Edges) t1_Ends t1_Ids t1_Inputs) < 0 then
      some true
    else
      ck (Short t0_Nodes) <|
      ck (Short t0_Edges) <|
      ck (ShortE t1_Ends) <|
      ck (t1_Ids.length < 1099511627776) <|
      ck (t1_Inputs.length < 1099511627776) <|
      (s_ZeroLabeling t0_Labels t0_Degree t0_Nodes t0_Edges t1_Ends t1_Ids t1_Inputs).bind fun r19_ =>
      (i_ZeroLabeling t0_Labels t0_Degree t0_Nodes t0_Edges t1_Ends t1_Ids t1_Inputs).bind fun r22_ =>
      ck (Short r22_.1) <|
      if (decide (r22_.1 = r19_.1)) = true then
        if r22_.2 = true then
          if r19_.2 = true then
            if (sameP t0_Labels t0_Degree t0_Nodes t0_Edges t0_Labels t0_Degree t0_Nodes t0_Edges) = true then
              if (sameN t1_Ends t1_Ids t1_Inputs t1_Ends t1_Ids t1_Inputs) = true then
                ck (0 ≤ (1 : Int) ∧ (1 : Int) + tot t0_Nodes + tot t0_Edges < 1099511627776) <|
                ck (0 ≤ ((1 : Int) + tot t0_Nodes + tot t0_Edges) ∧ ((1 : Int) + tot t0_Nodes + tot t0_Edges) + 2 * tot (fE t1_Ends) + t1_Ids.length + t1_Inputs.length < 1099511627776) <|
                if (((1 : Int) + tot t0_Nodes + tot t0_Edges) + 2 * tot (fE t1_Ends) + t1_Ids.length + t1_Inputs.length) < 0 then
                  some false
                else
                  ck (0 ≤ (1 : Int) ∧ (1 : Int) + tot r22_.1 < 1099511627776) <|
                  (l_heldIntSS (marks (1 : Int) r22_.1) (1 : Int)).bind fun r42_ =>
                  if r42_ < 0 then
                    some false
                  else
                    if r42_ = ((1 : Int) + tot r22_.1) then
                      some true
                    else
                      some false
              else
                some false
            else
              some false
          else
            some false
        else
          if r19_.2 = true then
            some false
          else
            if (sameP t0_Labels t0_Degree t0_Nodes t0_Edges t0_Labels t0_Degree t0_Nodes t0_Edges) = true then
              if (sameN t1_Ends t1_Ids t1_Inputs t1_Ends t1_Ids t1_Inputs) = true then
                ck (0 ≤ (1 : Int) ∧ (1 : Int) + tot t0_Nodes + tot t0_Edges < 1099511627776) <|
                ck (0 ≤ ((1 : Int) + tot t0_Nodes + tot t0_Edges) ∧ ((1 : Int) + tot t0_Nodes + tot t0_Edges) + 2 * tot (fE t1_Ends) + t1_Ids.length + t1_Inputs.length < 1099511627776) <|
                if (((1 : Int) + tot t0_Nodes + tot t0_Edges) + 2 * tot (fE t1_Ends) + t1_Ids.length + t1_Inputs.length) < 0 then
                  some false
                else
                  ck (0 ≤ (1 : Int) ∧ (1 : Int) + tot r22_.1 < 1099511627776) <|
                  (l_heldIntSS (marks (1 : Int) r22_.1) (1 : Int)).bind fun r42_ =>
                  if r42_ < 0 then
                    some false
                  else
                    if r42_ = ((1 : Int) + tot r22_.1) then
                      some true
                    else
                      some false
              else
                some false
            else
              some false
      else
        some false
/-- laws.FnExactZeroLabeling -/
def k3 : SC :=
 .seq
 (.ops [
 ⟨(some 2), (.box 24 (.tmp 0)), 0, none⟩,
 ⟨(some 3), (.box 28 (.tmp 1)), 0, none⟩,
 ⟨(some 4), (.assign (.const (.bool false))), 4, none⟩])
 (.seq
 (.ops [
 ⟨(some 5), (.assign (.const (.int .i64 1048576))), 3, none⟩])
 (.seq
 (.ops [
 ⟨(some 17), (.load 24 (.tmp 2)), 24, none⟩,
 ⟨(some 18), (.move (.tmp 5)), 3, none⟩,
 ⟨(some 19), (.call ⟨(.value (.func 6)), #[(.tmp 17), (.tmp 18)], #[24, 3]⟩), 3, none⟩,
 ⟨(some 5), (.assign (.tmp 19)), 3, none⟩])
 (.seq
 (.seq
 (.ops [
 ⟨(some 20), (.move (.tmp 5)), 3, none⟩,
 ⟨(some 21), (.binOp .lss 3 (.tmp 20) (.const (.int .i64 0)) 3), 4, none⟩])
 (.cond (.tmp 21)
 (.seq
 (.ops [
 ⟨(some 4), (.assign (.const (.bool true))), 4, none⟩])
 .ret)
 .skip))
 (.seq
 (.ops [
 ⟨(some 22), (.load 28 (.tmp 3)), 28, none⟩,
 ⟨(some 23), (.move (.tmp 5)), 3, none⟩,
 ⟨(some 24), (.call ⟨(.value (.func 7)), #[(.tmp 22), (.tmp 23)], #[28, 3]⟩), 3, none⟩,
 ⟨(some 5), (.assign (.tmp 24)), 3, none⟩])
 (.seq
 (.seq
 (.ops [
 ⟨(some 25), (.move (.tmp 5)), 3, none⟩,
 ⟨(some 26), (.binOp .lss 3 (.tmp 25) (.const (.int .i64 0)) 3), 4, none⟩])
 (.cond (.tmp 26)
 (.seq
 (.ops [
 ⟨(some 4), (.assign (.const (.bool true))), 4, none⟩])
 .ret)
 .skip))
 (.seq
 (.draws [
 (⟨[28, 2, 2], [28, 29, 30, 31, 32, 27, 32, 33, 34, 6, 33, 32, 7, 34], [28]⟩, ⟨(some 28), (.load 24 (.tmp 2)), 24, none⟩),
 (⟨[29, 28, 2], [28, 29, 30, 31, 32, 27, 32, 33, 34, 6, 33, 32, 7, 34], [29]⟩, ⟨(some 29), (.call ⟨(.value (.func 9)), #[(.tmp 28)], #[24]⟩), 33, none⟩),
 (⟨[30, 3, 3], [28, 29, 30, 31, 32, 27, 32, 33, 34, 6, 33, 32, 7, 34], [30]⟩, ⟨(some 30), (.load 28 (.tmp 3)), 28, none⟩),
 (⟨[31, 30, 3], [28, 29, 30, 31, 32, 27, 32, 33, 34, 6, 33, 32, 7, 34], [31]⟩, ⟨(some 31), (.call ⟨(.value (.func 10)), #[(.tmp 30)], #[28]⟩), 37, none⟩),
 (⟨[32, 29, 31, 29, 31], [28, 29, 30, 31, 32, 27, 32, 33, 34, 6, 33, 32, 7, 34], [32]⟩, ⟨(some 32), (.call ⟨(.value (.func 8)), #[(.tmp 29), (.tmp 31)], #[33, 37]⟩), 31, none⟩),
 (⟨[27, 32, 32], [28, 29, 30, 31, 32, 27, 32, 33, 34, 6, 33, 32, 7, 34], [27, 32]⟩, ⟨(some 27), (.move (.tmp 32)), 31, none⟩),
 (⟨[33, 27], [28, 29, 30, 31, 32, 27, 32, 33, 34, 6, 33, 32, 7, 34], [33]⟩, ⟨(some 33), (.extract (.tmp 27) 0), 22, none⟩),
 (⟨[34, 27], [28, 29, 30, 31, 32, 27, 32, 33, 34, 6, 33, 32, 7, 34], [34]⟩, ⟨(some 34), (.extract (.tmp 27) 1), 4, none⟩),
 (⟨[6, 33, 32], [28, 29, 30, 31, 32, 27, 32, 33, 34, 6, 33, 32, 7, 34], [6, 33, 32]⟩, ⟨(some 6), (.assign (.tmp 33)), 22, none⟩),
 (⟨[7, 34], [28, 29, 30, 31, 32, 27, 32, 33, 34, 6, 33, 32, 7, 34], [7, 34]⟩, ⟨(some 7), (.assign (.tmp 34)), 4, none⟩)])
 (.seq
 (.ops [
 ⟨(some 35), (.load 24 (.tmp 2)), 24, none⟩,
 ⟨(some 36), (.call ⟨(.value (.func 9)), #[(.tmp 35)], #[24]⟩), 33, none⟩,
 ⟨(some 8), (.alloc 33), 0, none⟩,
 ⟨none, (.store 33 (.tmp 8) (.tmp 36)), 0, none⟩])
 (.seq
 (.ops [
 ⟨(some 37), (.load 28 (.tmp 3)), 28, none⟩,
 ⟨(some 38), (.call ⟨(.value (.func 10)), #[(.tmp 37)], #[28]⟩), 37, none⟩,
 ⟨(some 9), (.alloc 37), 0, none⟩,
 ⟨none, (.store 37 (.tmp 9) (.tmp 38)), 0, none⟩])
 (.seq
 (.ops [
 ⟨(some 40), (.load 33 (.tmp 8)), 33, none⟩,
 ⟨(some 41), (.load 37 (.tmp 9)), 37, none⟩,
 ⟨(some 42), (.call ⟨(.value (.func 11)), #[(.tmp 40), (.tmp 41)], #[33, 37]⟩), 31, none⟩,
 ⟨(some 39), (.move (.tmp 42)), 31, none⟩,
 ⟨(some 43), (.extract (.tmp 39) 0), 22, none⟩,
 ⟨(some 44), (.extract (.tmp 39) 1), 4, none⟩,
 ⟨(some 10), (.assign (.tmp 43)), 22, none⟩,
 ⟨(some 11), (.assign (.tmp 44)), 4, none⟩])
 (.seq
 (.seq
 (.ops [
 ⟨(some 45), (.move (.tmp 10)), 22, none⟩,
 ⟨(some 46), (.move (.tmp 6)), 22, none⟩,
 ⟨(some 47), (.call ⟨(.value (.func 12)), #[(.tmp 45), (.tmp 46)], #[22, 22]⟩), 4, none⟩,
 ⟨(some 48), (.unOp .not 4 (.tmp 47)), 4, none⟩,
 ⟨(some 49), (.move (.tmp 48)), 4, none⟩,
 ⟨(some 50), (.move (.tmp 11)), 4, (some (some 49, false))⟩,
 ⟨(some 51), (.move (.tmp 7)), 4, (some (some 49, false))⟩,
 ⟨(some 52), (.binOp .neq 4 (.tmp 50) (.tmp 51) 4), 4, (some (some 49, false))⟩,
 ⟨(some 53), (.pick (.tmp 49) (.const (.bool true)) (.tmp 52)), 4, none⟩])
 (.cond (.tmp 53)
 (.seq
 (.ops [
 ⟨(some 4), (.assign (.const (.bool false))), 4, none⟩])
 .ret)
 .skip))
 (.seq
 (.seq
 (.draws [
 (⟨[54, 8, 8], [54, 55, 56, 57, 58], [54]⟩, ⟨(some 54), (.load 33 (.tmp 8)), 33, none⟩),
 (⟨[55, 2, 2], [54, 55, 56, 57, 58], [55]⟩, ⟨(some 55), (.load 24 (.tmp 2)), 24, none⟩),
 (⟨[56, 55, 2], [54, 55, 56, 57, 58], [56]⟩, ⟨(some 56), (.call ⟨(.value (.func 9)), #[(.tmp 55)], #[24]⟩), 33, none⟩),
 (⟨[57, 54, 56, 8, 56], [54, 55, 56, 57, 58], [57]⟩, ⟨(some 57), (.call ⟨(.value (.func 13)), #[(.tmp 54), (.tmp 56)], #[33, 33]⟩), 4, none⟩),
 (⟨[58, 57, 57], [54, 55, 56, 57, 58], [58]⟩, ⟨(some 58), (.unOp .not 4 (.tmp 57)), 4, none⟩)])
 (.cond (.tmp 58)
 (.seq
 (.ops [
 ⟨(some 4), (.assign (.const (.bool false))), 4, none⟩])
 .ret)
 .skip))
 (.seq
 (.seq
 (.draws [
 (⟨[59, 9, 9], [59, 60, 61, 62, 63], [59]⟩, ⟨(some 59), (.load 37 (.tmp 9)), 37, none⟩),
 (⟨[60, 3, 3], [59, 60, 61, 62, 63], [60]⟩, ⟨(some 60), (.load 28 (.tmp 3)), 28, none⟩),
 (⟨[61, 60, 3], [59, 60, 61, 62, 63], [61]⟩, ⟨(some 61), (.call ⟨(.value (.func 10)), #[(.tmp 60)], #[28]⟩), 37, none⟩),
 (⟨[62, 59, 61, 9, 61], [59, 60, 61, 62, 63], [62]⟩, ⟨(some 62), (.call ⟨(.value (.func 14)), #[(.tmp 59), (.tmp 61)], #[37, 37]⟩), 4, none⟩),
 (⟨[63, 62, 62], [59, 60, 61, 62, 63], [63]⟩, ⟨(some 63), (.unOp .not 4 (.tmp 62)), 4, none⟩)])
 (.cond (.tmp 63)
 (.seq
 (.ops [
 ⟨(some 4), (.assign (.const (.bool false))), 4, none⟩])
 .ret)
 .skip))
 (.seq
 (.ops [
 ⟨(some 12), (.assign (.const (.int .i64 1))), 3, none⟩])
 (.seq
 (.ops [
 ⟨(some 64), (.load 33 (.tmp 8)), 33, none⟩,
 ⟨(some 65), (.move (.tmp 12)), 3, none⟩,
 ⟨(some 66), (.call ⟨(.value (.func 15)), #[(.tmp 64), (.tmp 65)], #[33, 3]⟩), 3, none⟩,
 ⟨(some 12), (.assign (.tmp 66)), 3, none⟩])
 (.seq
 (.ops [
 ⟨(some 67), (.load 37 (.tmp 9)), 37, none⟩,
 ⟨(some 68), (.move (.tmp 12)), 3, none⟩,
 ⟨(some 69), (.call ⟨(.value (.func 16)), #[(.tmp 67), (.tmp 68)], #[37, 3]⟩), 3, none⟩,
 ⟨(some 12), (.assign (.tmp 69)), 3, none⟩])
 (.seq
 (.seq
 (.ops [
 ⟨(some 70), (.move (.tmp 12)), 3, none⟩,
 ⟨(some 71), (.binOp .lss 3 (.tmp 70) (.const (.int .i64 0)) 3), 4, none⟩,
 ⟨(some 72), (.move (.tmp 71)), 4, none⟩,
 ⟨(some 73), (.move (.tmp 10)), 22, (some (some 72, false))⟩,
 ⟨(some 74), (.move (.tmp 6)), 22, (some (some 72, false))⟩,
 ⟨(some 75), (.call ⟨(.value (.func 12)), #[(.tmp 73), (.tmp 74)], #[22, 22]⟩), 4, (some (some 72, false))⟩,
 ⟨(some 76), (.unOp .not 4 (.tmp 75)), 4, (some (some 72, false))⟩,
 ⟨(some 77), (.pick (.tmp 72) (.const (.bool true)) (.tmp 76)), 4, none⟩,
 ⟨(some 78), (.move (.tmp 77)), 4, none⟩,
 ⟨(some 79), (.move (.tmp 11)), 4, (some (some 78, false))⟩,
 ⟨(some 80), (.move (.tmp 7)), 4, (some (some 78, false))⟩,
 ⟨(some 81), (.binOp .neq 4 (.tmp 79) (.tmp 80) 4), 4, (some (some 78, false))⟩,
 ⟨(some 82), (.pick (.tmp 78) (.const (.bool true)) (.tmp 81)), 4, none⟩])
 (.cond (.tmp 82)
 (.seq
 (.ops [
 ⟨(some 4), (.assign (.const (.bool false))), 4, none⟩])
 .ret)
 .skip))
 (.seq
 (.ops [
 ⟨(some 13), (.assign (.const (.int .i64 1))), 3, none⟩])
 (.seq
 (.ops [
 ⟨(some 83), (.move (.tmp 10)), 22, none⟩,
 ⟨(some 84), (.move (.tmp 13)), 3, none⟩,
 ⟨(some 85), (.call ⟨(.value (.func 17)), #[(.tmp 83), (.tmp 84)], #[22, 3]⟩), 3, none⟩,
 ⟨(some 13), (.assign (.tmp 85)), 3, none⟩])
 (.seq
 (.ops [
 ⟨(some 14), (.assign (.const (.int .i64 1))), 3, none⟩])
 (.seq
 (.ops [
 ⟨(some 86), (.move (.tmp 10)), 22, none⟩,
 ⟨(some 87), (.move (.tmp 14)), 3, none⟩,
 ⟨(some 88), (.call ⟨(.value (.func 18)), #[(.tmp 86), (.tmp 87)], #[22, 3]⟩), 3, none⟩,
 ⟨(some 14), (.assign (.tmp 88)), 3, none⟩])
 (.seq
 (.seq
 (.ops [
 ⟨(some 89), (.move (.tmp 14)), 3, none⟩,
 ⟨(some 90), (.binOp .lss 3 (.tmp 89) (.const (.int .i64 0)) 3), 4, none⟩])
 (.cond (.tmp 90)
 (.seq
 (.ops [
 ⟨(some 4), (.assign (.const (.bool false))), 4, none⟩])
 .ret)
 .skip))
 (.seq
 (.seq
 (.ops [
 ⟨(some 91), (.move (.tmp 14)), 3, none⟩,
 ⟨(some 92), (.move (.tmp 13)), 3, none⟩,
 ⟨(some 93), (.binOp .neq 3 (.tmp 91) (.tmp 92) 3), 4, none⟩])
 (.cond (.tmp 93)
 (.seq
 (.ops [
 ⟨(some 4), (.assign (.const (.bool false))), 4, none⟩])
 .ret)
 .skip))
 (.seq
 (.draws [
 (⟨[95, 2, 2], [95, 96, 97, 98, 99, 94, 99, 100, 101, 15, 100, 99, 16, 101], [95]⟩, ⟨(some 95), (.load 24 (.tmp 2)), 24, none⟩),
 (⟨[96, 95, 2], [95, 96, 97, 98, 99, 94, 99, 100, 101, 15, 100, 99, 16, 101], [96]⟩, ⟨(some 96), (.call ⟨(.value (.func 9)), #[(.tmp 95)], #[24]⟩), 33, none⟩),
 (⟨[97, 3, 3], [95, 96, 97, 98, 99, 94, 99, 100, 101, 15, 100, 99, 16, 101], [97]⟩, ⟨(some 97), (.load 28 (.tmp 3)), 28, none⟩),
 (⟨[98, 97, 3], [95, 96, 97, 98, 99, 94, 99, 100, 101, 15, 100, 99, 16, 101], [98]⟩, ⟨(some 98), (.call ⟨(.value (.func 10)), #[(.tmp 97)], #[28]⟩), 37, none⟩),
 (⟨[99, 96, 98, 96, 98], [95, 96, 97, 98, 99, 94, 99, 100, 101, 15, 100, 99, 16, 101], [99]⟩, ⟨(some 99), (.call ⟨(.value (.func 11)), #[(.tmp 96), (.tmp 98)], #[33, 37]⟩), 31, none⟩),
 (⟨[94, 99, 99], [95, 96, 97, 98, 99, 94, 99, 100, 101, 15, 100, 99, 16, 101], [94, 99]⟩, ⟨(some 94), (.move (.tmp 99)), 31, none⟩),
 (⟨[100, 94], [95, 96, 97, 98, 99, 94, 99, 100, 101, 15, 100, 99, 16, 101], [100]⟩, ⟨(some 100), (.extract (.tmp 94) 0), 22, none⟩),
 (⟨[101, 94], [95, 96, 97, 98, 99, 94, 99, 100, 101, 15, 100, 99, 16, 101], [101]⟩, ⟨(some 101), (.extract (.tmp 94) 1), 4, none⟩),
 (⟨[15, 100, 99], [95, 96, 97, 98, 99, 94, 99, 100, 101, 15, 100, 99, 16, 101], [15, 100, 99]⟩, ⟨(some 15), (.assign (.tmp 100)), 22, none⟩),
 (⟨[16, 101], [95, 96, 97, 98, 99, 94, 99, 100, 101, 15, 100, 99, 16, 101], [16, 101]⟩, ⟨(some 16), (.assign (.tmp 101)), 4, none⟩)])
 (.seq
 (.seq
 (.ops [
 ⟨(some 102), (.move (.tmp 15)), 22, none⟩,
 ⟨(some 103), (.move (.tmp 6)), 22, none⟩,
 ⟨(some 104), (.call ⟨(.value (.func 12)), #[(.tmp 102), (.tmp 103)], #[22, 22]⟩), 4, none⟩,
 ⟨(some 105), (.unOp .not 4 (.tmp 104)), 4, none⟩,
 ⟨(some 106), (.move (.tmp 105)), 4, none⟩,
 ⟨(some 107), (.move (.tmp 16)), 4, (some (some 106, false))⟩,
 ⟨(some 108), (.move (.tmp 7)), 4, (some (some 106, false))⟩,
 ⟨(some 109), (.binOp .neq 4 (.tmp 107) (.tmp 108) 4), 4, (some (some 106, false))⟩,
 ⟨(some 110), (.pick (.tmp 106) (.const (.bool true)) (.tmp 109)), 4, none⟩])
 (.cond (.tmp 110)
 (.seq
 (.ops [
 ⟨(some 4), (.assign (.const (.bool false))), 4, none⟩])
 .ret)
 .skip))
 (.seq
 (.ops [
 ⟨(some 14), (.assign (.const (.int .i64 1))), 3, none⟩])
 (.seq
 (.ops [
 ⟨(some 111), (.move (.tmp 10)), 22, none⟩,
 ⟨(some 112), (.move (.tmp 14)), 3, none⟩,
 ⟨(some 113), (.call ⟨(.value (.func 18)), #[(.tmp 111), (.tmp 112)], #[22, 3]⟩), 3, none⟩,
 ⟨(some 14), (.assign (.tmp 113)), 3, none⟩])
 (.seq
 (.seq
 (.ops [
 ⟨(some 114), (.move (.tmp 14)), 3, none⟩,
 ⟨(some 115), (.binOp .lss 3 (.tmp 114) (.const (.int .i64 0)) 3), 4, none⟩])
 (.cond (.tmp 115)
 (.seq
 (.ops [
 ⟨(some 4), (.assign (.const (.bool false))), 4, none⟩])
 .ret)
 .skip))
 (.seq
 (.seq
 (.ops [
 ⟨(some 116), (.move (.tmp 14)), 3, none⟩,
 ⟨(some 117), (.move (.tmp 13)), 3, none⟩,
 ⟨(some 118), (.binOp .neq 3 (.tmp 116) (.tmp 117) 3), 4, none⟩])
 (.cond (.tmp 118)
 (.seq
 (.ops [
 ⟨(some 4), (.assign (.const (.bool false))), 4, none⟩])
 .ret)
 .skip))
 (.seq
 (.ops [
 ⟨(some 4), (.assign (.const (.bool true))), 4, none⟩])
 .ret)))))))))))))))))))))))))))))
theorem slim3 : Tryz.f3.body.map (slim lends) = some k3 := by kernel_rfl
theorem ok3 : fnOk Tryz.f3 2 = true := by kernel_rfl
theorem c3 {a l : List D} {r : D × List D} (h : wpD Y.env k3 (fin tys l.length [ResultVar.tmp 4] r) (entry a l)) (ha : a.length = 2) : Y.call 3 a l = some r :=
  call_slim (Y := Y) rfl Tryz.func3 (ha ▸ ok3) slim3 h
theorem l_FnExactZeroLabeling_call (t0_Labels : Int) (t0_Degree : Int) (t0_Nodes : List (List Int)) (t0_Edges : List (List Int)) (t1_Ends : List (List (Int × Int))) (t1_Ids : List Int) (t1_Inputs : List Int) {r : Bool} (h : l_FnExactZeroLabeling t0_Labels t0_Degree t0_Nodes t0_Edges t1_Ends t1_Ids t1_Inputs = some r) : Y.call 3 [D.agg [D.int .i64 t0_Labels, D.int .i64 t0_Degree, D.sl 26 (lst (fun x => D.sl 3 (lst (D.int .i64) x)) t0_Nodes), D.sl 26 (lst (fun x => D.sl 3 (lst (D.int .i64) x)) t0_Edges)], D.agg [D.sl 80 (lst (fun x => D.sl 103 (cat2 .i64 .i64 x)) t1_Ends), D.sl 3 (lst (D.int .i64) t1_Ids), D.sl 3 (lst (D.int .i64) t1_Inputs)]] [] = some (D.bool r, []) := by
  refine c3 ?_ rfl
  unfold k3
  unfold l_FnExactZeroLabeling at h
  obtain ⟨e1, h⟩ := ckS h
  obtain ⟨e2, h⟩ := ckS h
  obtain ⟨e3, h⟩ := ckS h
  have c4 := l_szProblem_cl t0_Labels t0_Degree t0_Nodes t0_Edges (1048576 : Int) e1 e2 e3
  by_cases e5 : (szP (1048576 : Int) t0_Nodes t0_Edges) < 0
  · rw [if_pos e5] at h
    obtain rfl := Option.some.inj h
    simp (maxDischargeDepth := 9) only [↓xpre, xpost, xcore, yset, ↓reduceIte, Nat.reduceEqDiff, Nat.reduceLT, Nat.reduceAdd, c4, e5] <;> (repeat' apply And.intro) <;> first | rfl | exact ⟨_, rfl⟩ | simp [lst, cat2_nil]
  · rw [if_neg e5] at h
    obtain ⟨e6, h⟩ := ckS h
    obtain ⟨e7, h⟩ := ckS h
    obtain ⟨e8, h⟩ := ckS h
    obtain ⟨e9, h⟩ := ckS h
    have c10 := l_szNetwork_cl t1_Ends t1_Ids t1_Inputs (szP (1048576 : Int) t0_Nodes t0_Edges) e6 e7 e8 e9
    by_cases e11 : (szW (szP (1048576 : Int) t0_Nodes t0_Edges) t1_Ends t1_Ids t1_Inputs) < 0
    · rw [if_pos e11] at h
      obtain rfl := Option.some.inj h
      simp (maxDischargeDepth := 9) only [↓xpre, xpost, xcore, yset, ↓reduceIte, Nat.reduceEqDiff, Nat.reduceLT, Nat.reduceAdd, c4, e5, c10, e11] <;> (repeat' apply And.intro) <;> first | rfl | exact ⟨_, rfl⟩ | simp [lst, cat2_nil]
    · rw [if_neg e11] at h
      obtain ⟨e12, h⟩ := ckS h
      obtain ⟨e13, h⟩ := ckS h
      have c14 := l_toProblem_cl t0_Labels t0_Degree t0_Nodes t0_Edges e12 e13
      obtain ⟨e15, h⟩ := ckS h
      obtain ⟨e16, h⟩ := ckS h
      obtain ⟨e17, h⟩ := ckS h
      have c18 := l_toNetwork_cl t1_Ends t1_Ids t1_Inputs e15 e16 e17
      obtain ⟨r19_, hl19, h⟩ := bindS h
      try dsimp only at h
      have c19 := s_ZeroLabeling_call t0_Labels t0_Degree t0_Nodes t0_Edges t1_Ends t1_Ids t1_Inputs hl19
      have c20 := l_toProblem_cl t0_Labels t0_Degree t0_Nodes t0_Edges e12 e13
      have c21 := l_toNetwork_cl t1_Ends t1_Ids t1_Inputs e15 e16 e17
      obtain ⟨r22_, hl22, h⟩ := bindS h
      try dsimp only at h
      have c22 := i_ZeroLabeling_call t0_Labels t0_Degree t0_Nodes t0_Edges t1_Ends t1_Ids t1_Inputs hl22
      obtain ⟨e23, h⟩ := ckS h
      have c24 := l_eqIntSS_cl r22_.1 r19_.1 e23
      by_cases e25 : (decide (r22_.1 = r19_.1)) = true
      · rw [if_pos e25] at h
        by_cases e26 : r22_.2 = true
        · rw [if_pos e26] at h
          by_cases e27 : r19_.2 = true
          · rw [if_pos e27] at h
            have c28 := l_toProblem_cl t0_Labels t0_Degree t0_Nodes t0_Edges e12 e13
            have c29 := l_eqProblem_cl t0_Labels t0_Degree t0_Nodes t0_Edges t0_Labels t0_Degree t0_Nodes t0_Edges e12 e13
            by_cases e30 : (sameP t0_Labels t0_Degree t0_Nodes t0_Edges t0_Labels t0_Degree t0_Nodes t0_Edges) = true
            · rw [if_pos e30] at h
              have c31 := l_toNetwork_cl t1_Ends t1_Ids t1_Inputs e15 e16 e17
              have c32 := l_eqNetwork_cl t1_Ends t1_Ids t1_Inputs t1_Ends t1_Ids t1_Inputs e15 e16 e17
              by_cases e33 : (sameN t1_Ends t1_Ids t1_Inputs t1_Ends t1_Ids t1_Inputs) = true
              · rw [if_pos e33] at h
                obtain ⟨e34, h⟩ := ckS h
                have c35 := l_markProblem_cl t0_Labels t0_Degree t0_Nodes t0_Edges (1 : Int) e12 e13 e34
                obtain ⟨e36, h⟩ := ckS h
                have c37 := l_markNetwork_cl t1_Ends t1_Ids t1_Inputs ((1 : Int) + tot t0_Nodes + tot t0_Edges) e15 e16 e17 e36
                by_cases e38 : (((1 : Int) + tot t0_Nodes + tot t0_Edges) + 2 * tot (fE t1_Ends) + t1_Ids.length + t1_Inputs.length) < 0
                · rw [if_pos e38] at h
                  obtain rfl := Option.some.inj h
                  simp (maxDischargeDepth := 9) only [↓xpre, xpost, xlst, xc2, xcore, yset, ↓reduceIte, Nat.reduceEqDiff, Nat.reduceLT, Nat.reduceAdd, Nat.reduceBEq, c4, e5, c10, e11, c14, c18, c19, c22, c24, e25, e26, e27, c29, e30, c32, e33, c35, c37, e38] <;> (repeat' apply And.intro) <;> first | rfl | exact ⟨_, rfl⟩ | simp [lst, cat2_nil]
                · rw [if_neg e38] at h
                  have c39 := l_eqIntSS_cl r22_.1 r19_.1 e23
                  obtain ⟨e40, h⟩ := ckS h
                  have c41 := l_markIntSS_cl r22_.1 (1 : Int) e23 e40
                  obtain ⟨r42_, hl42, h⟩ := bindS h
                  try dsimp only at h
                  have c42 := l_heldIntSS_call (marks (1 : Int) r22_.1) (1 : Int) hl42
                  by_cases e43 : r42_ < 0
                  · rw [if_pos e43] at h
                    obtain rfl := Option.some.inj h
                    simp (maxDischargeDepth := 9) only [↓xpre, xpost, xlst, xc2, xcore, yset, ↓reduceIte, Nat.reduceEqDiff, Nat.reduceLT, Nat.reduceAdd, Nat.reduceBEq, c4, e5, c10, e11, c14, c18, c19, c22, c24, e25, e26, e27, c29, e30, c32, e33, c35, c37, e38, c41, c42, e43] <;> (repeat' apply And.intro) <;> first | rfl | exact ⟨_, rfl⟩ | simp [lst, cat2_nil]
                  · rw [if_neg e43] at h
                    by_cases e44 : r42_ = ((1 : Int) + tot r22_.1)
                    · rw [if_pos e44] at h
                      have c45 := l_toProblem_cl t0_Labels t0_Degree t0_Nodes t0_Edges e12 e13
                      have c46 := l_toNetwork_cl t1_Ends t1_Ids t1_Inputs e15 e16 e17
                      have c47 := l_eqIntSS_cl r22_.1 r19_.1 e23
                      obtain rfl := Option.some.inj h
                      simp (maxDischargeDepth := 9) only [↓xpre, xpost, xlst, xc2, xcore, yset, ↓reduceIte, Nat.reduceEqDiff, Nat.reduceLT, Nat.reduceAdd, Nat.reduceBEq, c4, e5, c10, e11, c14, c18, c19, c22, c24, e25, e26, e27, c29, e30, c32, e33, c35, c37, e38, c41, c42, e43, decide_eq_true e44] <;> (repeat' apply And.intro) <;> first | rfl | exact ⟨_, rfl⟩ | simp [lst, cat2_nil]
                    · rw [if_neg e44] at h
                      obtain rfl := Option.some.inj h
                      simp (maxDischargeDepth := 9) only [↓xpre, xpost, xlst, xc2, xcore, yset, ↓reduceIte, Nat.reduceEqDiff, Nat.reduceLT, Nat.reduceAdd, Nat.reduceBEq, c4, e5, c10, e11, c14, c18, c19, c22, c24, e25, e26, e27, c29, e30, c32, e33, c35, c37, e38, c41, c42, e43, e44] <;> (repeat' apply And.intro) <;> first | rfl | exact ⟨_, rfl⟩ | simp [lst, cat2_nil]
              · rw [if_neg e33] at h
                have e33f : (sameN t1_Ends t1_Ids t1_Inputs t1_Ends t1_Ids t1_Inputs) = false := Bool.eq_false_iff.mpr e33
                obtain rfl := Option.some.inj h
                simp (maxDischargeDepth := 9) only [↓xpre, xpost, xlst, xc2, xcore, yset, ↓reduceIte, Nat.reduceEqDiff, Nat.reduceLT, Nat.reduceAdd, Nat.reduceBEq, c4, e5, c10, e11, c14, c18, c19, c22, c24, e25, e26, e27, c29, e30, c32, e33f] <;> (repeat' apply And.intro) <;> first | rfl | exact ⟨_, rfl⟩ | simp [lst, cat2_nil]
            · rw [if_neg e30] at h
              have e30f : (sameP t0_Labels t0_Degree t0_Nodes t0_Edges t0_Labels t0_Degree t0_Nodes t0_Edges) = false := Bool.eq_false_iff.mpr e30
              obtain rfl := Option.some.inj h
              simp (maxDischargeDepth := 9) only [↓xpre, xpost, xlst, xc2, xcore, yset, ↓reduceIte, Nat.reduceEqDiff, Nat.reduceLT, Nat.reduceAdd, Nat.reduceBEq, c4, e5, c10, e11, c14, c18, c19, c22, c24, e25, e26, e27, c29, e30f] <;> (repeat' apply And.intro) <;> first | rfl | exact ⟨_, rfl⟩ | simp [lst, cat2_nil]
          · rw [if_neg e27] at h
            have e27f : r19_.2 = false := Bool.eq_false_iff.mpr e27
            obtain rfl := Option.some.inj h
            simp (maxDischargeDepth := 9) only [↓xpre, xpost, xlst, xc2, xcore, yset, ↓reduceIte, Nat.reduceEqDiff, Nat.reduceLT, Nat.reduceAdd, Nat.reduceBEq, c4, e5, c10, e11, c14, c18, c19, c22, c24, e25, e26, e27f] <;> (repeat' apply And.intro) <;> first | rfl | exact ⟨_, rfl⟩ | simp [lst, cat2_nil]
        · rw [if_neg e26] at h
          have e26f : r22_.2 = false := Bool.eq_false_iff.mpr e26
          by_cases e27 : r19_.2 = true
          · rw [if_pos e27] at h
            obtain rfl := Option.some.inj h
            simp (maxDischargeDepth := 9) only [↓xpre, xpost, xlst, xc2, xcore, yset, ↓reduceIte, Nat.reduceEqDiff, Nat.reduceLT, Nat.reduceAdd, Nat.reduceBEq, c4, e5, c10, e11, c14, c18, c19, c22, c24, e25, e26f, e27] <;> (repeat' apply And.intro) <;> first | rfl | exact ⟨_, rfl⟩ | simp [lst, cat2_nil]
          · rw [if_neg e27] at h
            have e27f : r19_.2 = false := Bool.eq_false_iff.mpr e27
            have c28 := l_toProblem_cl t0_Labels t0_Degree t0_Nodes t0_Edges e12 e13
            have c29 := l_eqProblem_cl t0_Labels t0_Degree t0_Nodes t0_Edges t0_Labels t0_Degree t0_Nodes t0_Edges e12 e13
            by_cases e30 : (sameP t0_Labels t0_Degree t0_Nodes t0_Edges t0_Labels t0_Degree t0_Nodes t0_Edges) = true
            · rw [if_pos e30] at h
              have c31 := l_toNetwork_cl t1_Ends t1_Ids t1_Inputs e15 e16 e17
              have c32 := l_eqNetwork_cl t1_Ends t1_Ids t1_Inputs t1_Ends t1_Ids t1_Inputs e15 e16 e17
              by_cases e33 : (sameN t1_Ends t1_Ids t1_Inputs t1_Ends t1_Ids t1_Inputs) = true
              · rw [if_pos e33] at h
                obtain ⟨e34, h⟩ := ckS h
                have c35 := l_markProblem_cl t0_Labels t0_Degree t0_Nodes t0_Edges (1 : Int) e12 e13 e34
                obtain ⟨e36, h⟩ := ckS h
                have c37 := l_markNetwork_cl t1_Ends t1_Ids t1_Inputs ((1 : Int) + tot t0_Nodes + tot t0_Edges) e15 e16 e17 e36
                by_cases e38 : (((1 : Int) + tot t0_Nodes + tot t0_Edges) + 2 * tot (fE t1_Ends) + t1_Ids.length + t1_Inputs.length) < 0
                · rw [if_pos e38] at h
                  obtain rfl := Option.some.inj h
                  simp (maxDischargeDepth := 9) only [↓xpre, xpost, xlst, xc2, xcore, yset, ↓reduceIte, Nat.reduceEqDiff, Nat.reduceLT, Nat.reduceAdd, Nat.reduceBEq, c4, e5, c10, e11, c14, c18, c19, c22, c24, e25, e26f, e27f, c29, e30, c32, e33, c35, c37, e38] <;> (repeat' apply And.intro) <;> first | rfl | exact ⟨_, rfl⟩ | simp [lst, cat2_nil]
                · rw [if_neg e38] at h
                  have c39 := l_eqIntSS_cl r22_.1 r19_.1 e23
                  obtain ⟨e40, h⟩ := ckS h
                  have c41 := l_markIntSS_cl r22_.1 (1 : Int) e23 e40
                  obtain ⟨r42_, hl42, h⟩ := bindS h
                  try dsimp only at h
                  have c42 := l_heldIntSS_call (marks (1 : Int) r22_.1) (1 : Int) hl42
                  by_cases e43 : r42_ < 0
                  · rw [if_pos e43] at h
                    obtain rfl := Option.some.inj h
                    simp (maxDischargeDepth := 9) only [↓xpre, xpost, xlst, xc2, xcore, yset, ↓reduceIte, Nat.reduceEqDiff, Nat.reduceLT, Nat.reduceAdd, Nat.reduceBEq, c4, e5, c10, e11, c14, c18, c19, c22, c24, e25, e26f, e27f, c29, e30, c32, e33, c35, c37, e38, c41, c42, e43] <;> (repeat' apply And.intro) <;> first | rfl | exact ⟨_, rfl⟩ | simp [lst, cat2_nil]
                  · rw [if_neg e43] at h
                    by_cases e44 : r42_ = ((1 : Int) + tot r22_.1)
                    · rw [if_pos e44] at h
                      have c45 := l_toProblem_cl t0_Labels t0_Degree t0_Nodes t0_Edges e12 e13
                      have c46 := l_toNetwork_cl t1_Ends t1_Ids t1_Inputs e15 e16 e17
                      have c47 := l_eqIntSS_cl r22_.1 r19_.1 e23
                      obtain rfl := Option.some.inj h
                      simp (maxDischargeDepth := 9) only [↓xpre, xpost, xlst, xc2, xcore, yset, ↓reduceIte, Nat.reduceEqDiff, Nat.reduceLT, Nat.reduceAdd, Nat.reduceBEq, c4, e5, c10, e11, c14, c18, c19, c22, c24, e25, e26f, e27f, c29, e30, c32, e33, c35, c37, e38, c41, c42, e43, decide_eq_true e44] <;> (repeat' apply And.intro) <;> first | rfl | exact ⟨_, rfl⟩ | simp [lst, cat2_nil]
                    · rw [if_neg e44] at h
                      obtain rfl := Option.some.inj h
                      simp (maxDischargeDepth := 9) only [↓xpre, xpost, xlst, xc2, xcore, yset, ↓reduceIte, Nat.reduceEqDiff, Nat.reduceLT, Nat.reduceAdd, Nat.reduceBEq, c4, e5, c10, e11, c14, c18, c19, c22, c24, e25, e26f, e27f, c29, e30, c32, e33, c35, c37, e38, c41, c42, e43, e44] <;> (repeat' apply And.intro) <;> first | rfl | exact ⟨_, rfl⟩ | simp [lst, cat2_nil]
              · rw [if_neg e33] at h
                have e33f : (sameN t1_Ends t1_Ids t1_Inputs t1_Ends t1_Ids t1_Inputs) = false := Bool.eq_false_iff.mpr e33
                obtain rfl := Option.some.inj h
                simp (maxDischargeDepth := 9) only [↓xpre, xpost, xlst, xc2, xcore, yset, ↓reduceIte, Nat.reduceEqDiff, Nat.reduceLT, Nat.reduceAdd, Nat.reduceBEq, c4, e5, c10, e11, c14, c18, c19, c22, c24, e25, e26f, e27f, c29, e30, c32, e33f] <;> (repeat' apply And.intro) <;> first | rfl | exact ⟨_, rfl⟩ | simp [lst, cat2_nil]
            · rw [if_neg e30] at h
              have e30f : (sameP t0_Labels t0_Degree t0_Nodes t0_Edges t0_Labels t0_Degree t0_Nodes t0_Edges) = false := Bool.eq_false_iff.mpr e30
              obtain rfl := Option.some.inj h
              simp (maxDischargeDepth := 9) only [↓xpre, xpost, xlst, xc2, xcore, yset, ↓reduceIte, Nat.reduceEqDiff, Nat.reduceLT, Nat.reduceAdd, Nat.reduceBEq, c4, e5, c10, e11, c14, c18, c19, c22, c24, e25, e26f, e27f, c29, e30f] <;> (repeat' apply And.intro) <;> first | rfl | exact ⟨_, rfl⟩ | simp [lst, cat2_nil]
      · rw [if_neg e25] at h
        have e25f : (decide (r22_.1 = r19_.1)) = false := Bool.eq_false_iff.mpr e25
        obtain rfl := Option.some.inj h
        simp (maxDischargeDepth := 9) only [↓xpre, xpost, xlst, xc2, xcore, yset, ↓reduceIte, Nat.reduceEqDiff, Nat.reduceLT, Nat.reduceAdd, Nat.reduceBEq, c4, e5, c10, e11, c14, c18, c19, c22, c24, e25f] <;> (repeat' apply And.intro) <;> first | rfl | exact ⟨_, rfl⟩ | simp [lst, cat2_nil]


end Go.Proofs.YtjkgcfdcfjkkbaaGreat
