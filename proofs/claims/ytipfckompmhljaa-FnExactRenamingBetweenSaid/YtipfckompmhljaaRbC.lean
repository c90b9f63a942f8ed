/- Renamings between problems: the law, lifted. Conditions: none. -/
import Derived.Test.YtipfckompmhljaaL6
import Derived.Test.YtipfckompmhljaaRbA
import Derived.Test.YtipfckompmhljaaPB
namespace Go.Proofs.Ytipfckompmhljaa
open Go Dv
set_option linter.unusedSimpArgs false
set_option linter.unusedVariables false
set_option maxRecDepth 100000
set_option maxHeartbeats 4000000

noncomputable def l_FnExactRenamingBetween (tL tD : Int) (tN tE : List (List Int)) (uL uD : Int) (uN uE : List (List Int)) : Option (Bool) :=
 ck (Wide tN) <|
 ck (Wide tE) <|
 ck (0 ≤ (1048576 : Int) ∧ (1048576 : Int) ≤ 1048576) <|
 if (szP (1048576 : Int) tN tE) < 0 then
  some true
 else
  ck (Wide uN) <|
  ck (Wide uE) <|
  ck (0 ≤ (szP (1048576 : Int) tN tE) ∧ (szP (1048576 : Int) tN tE) ≤ 1048576) <|
  if (szP (szP (1048576 : Int) tN tE) uN uE) < 0 then
   some true
  else
   ck (Short tN) <|
   ck (Short tE) <|
   ck (Short uN) <|
   ck (Short uE) <|
   (s_RenamingBetween tL tD tN tE uL uD uN uE).bind fun r17_ =>
   match r17_ with
   | .inl q17_ =>
    (i_RenamingBetween tL tD tN tE uL uD uN uE).bind fun r21_ =>
    ck (r21_.1.length < 1099511627776) <|
    if (decide (r21_.1 = q17_.1)) = true then
     if r21_.2 = true then
      if q17_.2 = true then
       if (sameP tL tD tN tE tL tD tN tE) = true then
        if (sameP uL uD uN uE uL uD uN uE) = true then
         ck (0 ≤ (1 : Int) ∧ (1 : Int) + tot tN + tot tE < 1099511627776) <|
         ck (0 ≤ ((1 : Int) + tot tN + tot tE) ∧ ((1 : Int) + tot tN + tot tE) + tot uN + tot uE < 1099511627776) <|
         if (((1 : Int) + tot tN + tot tE) + tot uN + tot uE) < 0 then
          some false
         else
          ck (0 ≤ (1 : Int) ∧ (1 : Int) < 1099511627776) <|
          ck ((upto (1 : Int) r21_.1.length).length < 1099511627776) <|
          ck (0 ≤ (1 : Int) ∧ (1 : Int) + (upto (1 : Int) r21_.1.length).length < 1099511627776) <|
          if (held (1 : Int) (upto (1 : Int) r21_.1.length)) < 0 then
           some false
          else
           if (held (1 : Int) (upto (1 : Int) r21_.1.length)) = ((1 : Int) + r21_.1.length) then
            some true
           else
            some false
        else
         some false
       else
        some false
      else
       some false
     else
      if q17_.2 = true then
       some false
      else
       if (sameP tL tD tN tE tL tD tN tE) = true then
        if (sameP uL uD uN uE uL uD uN uE) = true then
         ck (0 ≤ (1 : Int) ∧ (1 : Int) + tot tN + tot tE < 1099511627776) <|
         ck (0 ≤ ((1 : Int) + tot tN + tot tE) ∧ ((1 : Int) + tot tN + tot tE) + tot uN + tot uE < 1099511627776) <|
         if (((1 : Int) + tot tN + tot tE) + tot uN + tot uE) < 0 then
          some false
         else
          ck (0 ≤ (1 : Int) ∧ (1 : Int) < 1099511627776) <|
          ck ((upto (1 : Int) r21_.1.length).length < 1099511627776) <|
          ck (0 ≤ (1 : Int) ∧ (1 : Int) + (upto (1 : Int) r21_.1.length).length < 1099511627776) <|
          if (held (1 : Int) (upto (1 : Int) r21_.1.length)) < 0 then
           some false
          else
           if (held (1 : Int) (upto (1 : Int) r21_.1.length)) = ((1 : Int) + r21_.1.length) then
            some true
           else
            some false
        else
         some false
       else
        some false
    else
     some false
   | .inr q17_ =>
    (i_RenamingBetween tL tD tN tE uL uD uN uE).bind fun r27_ =>
    ck (r27_.1.length < 1099511627776) <|
    if (decide (r27_.1 = q17_.1)) = true then
     if r27_.2 = true then
      if q17_.2 = true then
       if (sameP tL tD tN tE tL tD tN tE) = true then
        if (sameP uL uD uN uE uL uD uN uE) = true then
         ck (0 ≤ (1 : Int) ∧ (1 : Int) + tot tN + tot tE < 1099511627776) <|
         ck (0 ≤ ((1 : Int) + tot tN + tot tE) ∧ ((1 : Int) + tot tN + tot tE) + tot uN + tot uE < 1099511627776) <|
         if (((1 : Int) + tot tN + tot tE) + tot uN + tot uE) < 0 then
          some false
         else
          ck (0 ≤ (1 : Int) ∧ (1 : Int) < 1099511627776) <|
          ck ((upto (1 : Int) r27_.1.length).length < 1099511627776) <|
          ck (0 ≤ (1 : Int) ∧ (1 : Int) + (upto (1 : Int) r27_.1.length).length < 1099511627776) <|
          if (held (1 : Int) (upto (1 : Int) r27_.1.length)) < 0 then
           some false
          else
           if (held (1 : Int) (upto (1 : Int) r27_.1.length)) = ((1 : Int) + r27_.1.length) then
            some true
           else
            some false
        else
         some false
       else
        some false
      else
       some false
     else
      if q17_.2 = true then
       some false
      else
       if (sameP tL tD tN tE tL tD tN tE) = true then
        if (sameP uL uD uN uE uL uD uN uE) = true then
         ck (0 ≤ (1 : Int) ∧ (1 : Int) + tot tN + tot tE < 1099511627776) <|
         ck (0 ≤ ((1 : Int) + tot tN + tot tE) ∧ ((1 : Int) + tot tN + tot tE) + tot uN + tot uE < 1099511627776) <|
         if (((1 : Int) + tot tN + tot tE) + tot uN + tot uE) < 0 then
          some false
         else
          ck (0 ≤ (1 : Int) ∧ (1 : Int) < 1099511627776) <|
          ck ((upto (1 : Int) r27_.1.length).length < 1099511627776) <|
          ck (0 ≤ (1 : Int) ∧ (1 : Int) + (upto (1 : Int) r27_.1.length).length < 1099511627776) <|
          if (held (1 : Int) (upto (1 : Int) r27_.1.length)) < 0 then
           some false
          else
           if (held (1 : Int) (upto (1 : Int) r27_.1.length)) = ((1 : Int) + r27_.1.length) then
            some true
           else
            some false
        else
         some false
       else
        some false
    else
     some false
/-- laws.FnExactRenamingBetween -/
def k6 : SC :=
 .seq
 (.ops [
 ⟨some 2, .box 46 (.tmp 0), 0, none⟩,
 ⟨some 3, .box 46 (.tmp 1), 0, none⟩,
 ⟨some 4, .assign (.const (.bool false)), 4, none⟩])
 (.seq
 (.ops [
 ⟨some 5, .assign (.const (.int .i64 1048576)), 3, none⟩])
 (.seq
 (.ops [
 ⟨some 17, .load 46 (.tmp 2), 46, none⟩,
 ⟨some 18, .move (.tmp 5), 3, none⟩,
 ⟨some 19, .call ⟨(.value (.func 23)), #[(.tmp 17), (.tmp 18)], #[46, 3]⟩, 3, none⟩,
 ⟨some 5, .assign (.tmp 19), 3, none⟩])
 (.seq
 (.seq
 (.ops [
 ⟨some 20, .move (.tmp 5), 3, none⟩,
 ⟨some 21, .binOp .lss 3 (.tmp 20) (.const (.int .i64 0)) 3, 4, none⟩])
 (.cond (.tmp 21)
 (.seq
 (.ops [
 ⟨some 4, .assign (.const (.bool true)), 4, none⟩])
 .ret)
 .skip))
 (.seq
 (.ops [
 ⟨some 22, .load 46 (.tmp 3), 46, none⟩,
 ⟨some 23, .move (.tmp 5), 3, none⟩,
 ⟨some 24, .call ⟨(.value (.func 23)), #[(.tmp 22), (.tmp 23)], #[46, 3]⟩, 3, none⟩,
 ⟨some 5, .assign (.tmp 24), 3, none⟩])
 (.seq
 (.seq
 (.ops [
 ⟨some 25, .move (.tmp 5), 3, none⟩,
 ⟨some 26, .binOp .lss 3 (.tmp 25) (.const (.int .i64 0)) 3, 4, none⟩])
 (.cond (.tmp 26)
 (.seq
 (.ops [
 ⟨some 4, .assign (.const (.bool true)), 4, none⟩])
 .ret)
 .skip))
 (.seq
 (.draws [
 (⟨[28, 2, 2], [28, 29, 30, 31, 32, 29, 31, 27, 32, 33, 34, 6, 33, 32, 7, 34], [28]⟩, ⟨some 28, .load 46 (.tmp 2), 46, none⟩),
 (⟨[29, 28, 2], [28, 29, 30, 31, 32, 29, 31, 27, 32, 33, 34, 6, 33, 32, 7, 34], [29]⟩, ⟨some 29, .call ⟨(.value (.func 25)), #[(.tmp 28)], #[46]⟩, 50, none⟩),
 (⟨[30, 3, 3], [28, 29, 30, 31, 32, 29, 31, 27, 32, 33, 34, 6, 33, 32, 7, 34], [30]⟩, ⟨some 30, .load 46 (.tmp 3), 46, none⟩),
 (⟨[31, 30, 3], [28, 29, 30, 31, 32, 29, 31, 27, 32, 33, 34, 6, 33, 32, 7, 34], [31]⟩, ⟨some 31, .call ⟨(.value (.func 25)), #[(.tmp 30)], #[46]⟩, 50, none⟩),
 (⟨[32, 29, 31, 29, 31], [28, 29, 30, 31, 32, 29, 31, 27, 32, 33, 34, 6, 33, 32, 7, 34], [32, 29, 31]⟩, ⟨some 32, .call ⟨(.value (.func 24)), #[(.tmp 29), (.tmp 31)], #[50, 50]⟩, 48, none⟩),
 (⟨[27, 32, 32], [28, 29, 30, 31, 32, 29, 31, 27, 32, 33, 34, 6, 33, 32, 7, 34], [27, 32]⟩, ⟨some 27, .move (.tmp 32), 48, none⟩),
 (⟨[33, 27], [28, 29, 30, 31, 32, 29, 31, 27, 32, 33, 34, 6, 33, 32, 7, 34], [33]⟩, ⟨some 33, .extract (.tmp 27) 0, 23, none⟩),
 (⟨[34, 27], [28, 29, 30, 31, 32, 29, 31, 27, 32, 33, 34, 6, 33, 32, 7, 34], [34]⟩, ⟨some 34, .extract (.tmp 27) 1, 4, none⟩),
 (⟨[6, 33, 32], [28, 29, 30, 31, 32, 29, 31, 27, 32, 33, 34, 6, 33, 32, 7, 34], [6, 33, 32]⟩, ⟨some 6, .assign (.tmp 33), 23, none⟩),
 (⟨[7, 34], [28, 29, 30, 31, 32, 29, 31, 27, 32, 33, 34, 6, 33, 32, 7, 34], [7, 34]⟩, ⟨some 7, .assign (.tmp 34), 4, none⟩)])
 (.seq
 (.ops [
 ⟨some 35, .load 46 (.tmp 2), 46, none⟩,
 ⟨some 36, .call ⟨(.value (.func 25)), #[(.tmp 35)], #[46]⟩, 50, none⟩,
 ⟨some 8, .alloc 50, 0, none⟩,
 ⟨none, .store 50 (.tmp 8) (.tmp 36), 0, none⟩])
 (.seq
 (.ops [
 ⟨some 37, .load 46 (.tmp 3), 46, none⟩,
 ⟨some 38, .call ⟨(.value (.func 25)), #[(.tmp 37)], #[46]⟩, 50, none⟩,
 ⟨some 9, .alloc 50, 0, none⟩,
 ⟨none, .store 50 (.tmp 9) (.tmp 38), 0, none⟩])
 (.seq
 (.ops [
 ⟨some 40, .load 50 (.tmp 8), 50, none⟩,
 ⟨some 41, .load 50 (.tmp 9), 50, none⟩,
 ⟨some 42, .call ⟨(.value (.func 26)), #[(.tmp 40), (.tmp 41)], #[50, 50]⟩, 48, none⟩,
 ⟨some 39, .move (.tmp 42), 48, none⟩,
 ⟨some 43, .extract (.tmp 39) 0, 23, none⟩,
 ⟨some 44, .extract (.tmp 39) 1, 4, none⟩,
 ⟨some 10, .assign (.tmp 43), 23, none⟩,
 ⟨some 11, .assign (.tmp 44), 4, none⟩])
 (.seq
 (.seq
 (.ops [
 ⟨some 45, .move (.tmp 10), 23, none⟩,
 ⟨some 46, .move (.tmp 6), 23, none⟩,
 ⟨some 47, .call ⟨(.value (.func 14)), #[(.tmp 45), (.tmp 46)], #[23, 23]⟩, 4, none⟩,
 ⟨some 48, .unOp .not 4 (.tmp 47), 4, none⟩,
 ⟨some 49, .move (.tmp 48), 4, none⟩,
 ⟨some 50, .move (.tmp 11), 4, (some (some 49, false))⟩,
 ⟨some 51, .move (.tmp 7), 4, (some (some 49, false))⟩,
 ⟨some 52, .binOp .neq 4 (.tmp 50) (.tmp 51) 4, 4, (some (some 49, false))⟩,
 ⟨some 53, .pick (.tmp 49) (.const (.bool true)) (.tmp 52), 4, none⟩])
 (.cond (.tmp 53)
 (.seq
 (.ops [
 ⟨some 4, .assign (.const (.bool false)), 4, none⟩])
 .ret)
 .skip))
 (.seq
 (.seq
 (.draws [
 (⟨[54, 8, 8], [54, 55, 56, 57, 58], [54]⟩, ⟨some 54, .load 50 (.tmp 8), 50, none⟩),
 (⟨[55, 2, 2], [54, 55, 56, 57, 58], [55]⟩, ⟨some 55, .load 46 (.tmp 2), 46, none⟩),
 (⟨[56, 55, 2], [54, 55, 56, 57, 58], [56]⟩, ⟨some 56, .call ⟨(.value (.func 25)), #[(.tmp 55)], #[46]⟩, 50, none⟩),
 (⟨[57, 54, 56, 8, 56], [54, 55, 56, 57, 58], [57]⟩, ⟨some 57, .call ⟨(.value (.func 27)), #[(.tmp 54), (.tmp 56)], #[50, 50]⟩, 4, none⟩),
 (⟨[58, 57, 57], [54, 55, 56, 57, 58], [58]⟩, ⟨some 58, .unOp .not 4 (.tmp 57), 4, none⟩)])
 (.cond (.tmp 58)
 (.seq
 (.ops [
 ⟨some 4, .assign (.const (.bool false)), 4, none⟩])
 .ret)
 .skip))
 (.seq
 (.seq
 (.draws [
 (⟨[59, 9, 9], [59, 60, 61, 62, 63], [59]⟩, ⟨some 59, .load 50 (.tmp 9), 50, none⟩),
 (⟨[60, 3, 3], [59, 60, 61, 62, 63], [60]⟩, ⟨some 60, .load 46 (.tmp 3), 46, none⟩),
 (⟨[61, 60, 3], [59, 60, 61, 62, 63], [61]⟩, ⟨some 61, .call ⟨(.value (.func 25)), #[(.tmp 60)], #[46]⟩, 50, none⟩),
 (⟨[62, 59, 61, 9, 61], [59, 60, 61, 62, 63], [62]⟩, ⟨some 62, .call ⟨(.value (.func 27)), #[(.tmp 59), (.tmp 61)], #[50, 50]⟩, 4, none⟩),
 (⟨[63, 62, 62], [59, 60, 61, 62, 63], [63]⟩, ⟨some 63, .unOp .not 4 (.tmp 62), 4, none⟩)])
 (.cond (.tmp 63)
 (.seq
 (.ops [
 ⟨some 4, .assign (.const (.bool false)), 4, none⟩])
 .ret)
 .skip))
 (.seq
 (.ops [
 ⟨some 12, .assign (.const (.int .i64 1)), 3, none⟩])
 (.seq
 (.ops [
 ⟨some 64, .load 50 (.tmp 8), 50, none⟩,
 ⟨some 65, .move (.tmp 12), 3, none⟩,
 ⟨some 66, .call ⟨(.value (.func 28)), #[(.tmp 64), (.tmp 65)], #[50, 3]⟩, 3, none⟩,
 ⟨some 12, .assign (.tmp 66), 3, none⟩])
 (.seq
 (.ops [
 ⟨some 67, .load 50 (.tmp 9), 50, none⟩,
 ⟨some 68, .move (.tmp 12), 3, none⟩,
 ⟨some 69, .call ⟨(.value (.func 28)), #[(.tmp 67), (.tmp 68)], #[50, 3]⟩, 3, none⟩,
 ⟨some 12, .assign (.tmp 69), 3, none⟩])
 (.seq
 (.seq
 (.ops [
 ⟨some 70, .move (.tmp 12), 3, none⟩,
 ⟨some 71, .binOp .lss 3 (.tmp 70) (.const (.int .i64 0)) 3, 4, none⟩,
 ⟨some 72, .move (.tmp 71), 4, none⟩,
 ⟨some 73, .move (.tmp 10), 23, (some (some 72, false))⟩,
 ⟨some 74, .move (.tmp 6), 23, (some (some 72, false))⟩,
 ⟨some 75, .call ⟨(.value (.func 14)), #[(.tmp 73), (.tmp 74)], #[23, 23]⟩, 4, (some (some 72, false))⟩,
 ⟨some 76, .unOp .not 4 (.tmp 75), 4, (some (some 72, false))⟩,
 ⟨some 77, .pick (.tmp 72) (.const (.bool true)) (.tmp 76), 4, none⟩,
 ⟨some 78, .move (.tmp 77), 4, none⟩,
 ⟨some 79, .move (.tmp 11), 4, (some (some 78, false))⟩,
 ⟨some 80, .move (.tmp 7), 4, (some (some 78, false))⟩,
 ⟨some 81, .binOp .neq 4 (.tmp 79) (.tmp 80) 4, 4, (some (some 78, false))⟩,
 ⟨some 82, .pick (.tmp 78) (.const (.bool true)) (.tmp 81), 4, none⟩])
 (.cond (.tmp 82)
 (.seq
 (.ops [
 ⟨some 4, .assign (.const (.bool false)), 4, none⟩])
 .ret)
 .skip))
 (.seq
 (.ops [
 ⟨some 13, .assign (.const (.int .i64 1)), 3, none⟩])
 (.seq
 (.ops [
 ⟨some 83, .move (.tmp 10), 23, none⟩,
 ⟨some 84, .move (.tmp 13), 3, none⟩,
 ⟨some 85, .call ⟨(.value (.func 18)), #[(.tmp 83), (.tmp 84)], #[23, 3]⟩, 3, none⟩,
 ⟨some 13, .assign (.tmp 85), 3, none⟩])
 (.seq
 (.ops [
 ⟨some 14, .assign (.const (.int .i64 1)), 3, none⟩])
 (.seq
 (.ops [
 ⟨some 86, .move (.tmp 10), 23, none⟩,
 ⟨some 87, .move (.tmp 14), 3, none⟩,
 ⟨some 88, .call ⟨(.value (.func 20)), #[(.tmp 86), (.tmp 87)], #[23, 3]⟩, 3, none⟩,
 ⟨some 14, .assign (.tmp 88), 3, none⟩])
 (.seq
 (.seq
 (.ops [
 ⟨some 89, .move (.tmp 14), 3, none⟩,
 ⟨some 90, .binOp .lss 3 (.tmp 89) (.const (.int .i64 0)) 3, 4, none⟩])
 (.cond (.tmp 90)
 (.seq
 (.ops [
 ⟨some 4, .assign (.const (.bool false)), 4, none⟩])
 .ret)
 .skip))
 (.seq
 (.seq
 (.ops [
 ⟨some 91, .move (.tmp 14), 3, none⟩,
 ⟨some 92, .move (.tmp 13), 3, none⟩,
 ⟨some 93, .binOp .neq 3 (.tmp 91) (.tmp 92) 3, 4, none⟩])
 (.cond (.tmp 93)
 (.seq
 (.ops [
 ⟨some 4, .assign (.const (.bool false)), 4, none⟩])
 .ret)
 .skip))
 (.seq
 (.draws [
 (⟨[95, 2, 2], [95, 96, 97, 98, 99, 94, 99, 100, 101, 15, 100, 99, 16, 101], [95]⟩, ⟨some 95, .load 46 (.tmp 2), 46, none⟩),
 (⟨[96, 95, 2], [95, 96, 97, 98, 99, 94, 99, 100, 101, 15, 100, 99, 16, 101], [96]⟩, ⟨some 96, .call ⟨(.value (.func 25)), #[(.tmp 95)], #[46]⟩, 50, none⟩),
 (⟨[97, 3, 3], [95, 96, 97, 98, 99, 94, 99, 100, 101, 15, 100, 99, 16, 101], [97]⟩, ⟨some 97, .load 46 (.tmp 3), 46, none⟩),
 (⟨[98, 97, 3], [95, 96, 97, 98, 99, 94, 99, 100, 101, 15, 100, 99, 16, 101], [98]⟩, ⟨some 98, .call ⟨(.value (.func 25)), #[(.tmp 97)], #[46]⟩, 50, none⟩),
 (⟨[99, 96, 98, 96, 98], [95, 96, 97, 98, 99, 94, 99, 100, 101, 15, 100, 99, 16, 101], [99]⟩, ⟨some 99, .call ⟨(.value (.func 26)), #[(.tmp 96), (.tmp 98)], #[50, 50]⟩, 48, none⟩),
 (⟨[94, 99, 99], [95, 96, 97, 98, 99, 94, 99, 100, 101, 15, 100, 99, 16, 101], [94, 99]⟩, ⟨some 94, .move (.tmp 99), 48, none⟩),
 (⟨[100, 94], [95, 96, 97, 98, 99, 94, 99, 100, 101, 15, 100, 99, 16, 101], [100]⟩, ⟨some 100, .extract (.tmp 94) 0, 23, none⟩),
 (⟨[101, 94], [95, 96, 97, 98, 99, 94, 99, 100, 101, 15, 100, 99, 16, 101], [101]⟩, ⟨some 101, .extract (.tmp 94) 1, 4, none⟩),
 (⟨[15, 100, 99], [95, 96, 97, 98, 99, 94, 99, 100, 101, 15, 100, 99, 16, 101], [15, 100, 99]⟩, ⟨some 15, .assign (.tmp 100), 23, none⟩),
 (⟨[16, 101], [95, 96, 97, 98, 99, 94, 99, 100, 101, 15, 100, 99, 16, 101], [16, 101]⟩, ⟨some 16, .assign (.tmp 101), 4, none⟩)])
 (.seq
 (.seq
 (.ops [
 ⟨some 102, .move (.tmp 15), 23, none⟩,
 ⟨some 103, .move (.tmp 6), 23, none⟩,
 ⟨some 104, .call ⟨(.value (.func 14)), #[(.tmp 102), (.tmp 103)], #[23, 23]⟩, 4, none⟩,
 ⟨some 105, .unOp .not 4 (.tmp 104), 4, none⟩,
 ⟨some 106, .move (.tmp 105), 4, none⟩,
 ⟨some 107, .move (.tmp 16), 4, (some (some 106, false))⟩,
 ⟨some 108, .move (.tmp 7), 4, (some (some 106, false))⟩,
 ⟨some 109, .binOp .neq 4 (.tmp 107) (.tmp 108) 4, 4, (some (some 106, false))⟩,
 ⟨some 110, .pick (.tmp 106) (.const (.bool true)) (.tmp 109), 4, none⟩])
 (.cond (.tmp 110)
 (.seq
 (.ops [
 ⟨some 4, .assign (.const (.bool false)), 4, none⟩])
 .ret)
 .skip))
 (.seq
 (.ops [
 ⟨some 14, .assign (.const (.int .i64 1)), 3, none⟩])
 (.seq
 (.ops [
 ⟨some 111, .move (.tmp 10), 23, none⟩,
 ⟨some 112, .move (.tmp 14), 3, none⟩,
 ⟨some 113, .call ⟨(.value (.func 20)), #[(.tmp 111), (.tmp 112)], #[23, 3]⟩, 3, none⟩,
 ⟨some 14, .assign (.tmp 113), 3, none⟩])
 (.seq
 (.seq
 (.ops [
 ⟨some 114, .move (.tmp 14), 3, none⟩,
 ⟨some 115, .binOp .lss 3 (.tmp 114) (.const (.int .i64 0)) 3, 4, none⟩])
 (.cond (.tmp 115)
 (.seq
 (.ops [
 ⟨some 4, .assign (.const (.bool false)), 4, none⟩])
 .ret)
 .skip))
 (.seq
 (.seq
 (.ops [
 ⟨some 116, .move (.tmp 14), 3, none⟩,
 ⟨some 117, .move (.tmp 13), 3, none⟩,
 ⟨some 118, .binOp .neq 3 (.tmp 116) (.tmp 117) 3, 4, none⟩])
 (.cond (.tmp 118)
 (.seq
 (.ops [
 ⟨some 4, .assign (.const (.bool false)), 4, none⟩])
 .ret)
 .skip))
 (.seq
 (.ops [
 ⟨some 4, .assign (.const (.bool true)), 4, none⟩])
 .ret)))))))))))))))))))))))))))))
theorem slim6 : Try.f6.body.map (slim lends) = some k6 := by kernel_rfl
theorem ok6 : fnOk Try.f6 2 = true := by kernel_rfl
theorem c6 {a l : List D} {r : D × List D} (h : wpD Y.env k6 (fin tys l.length [ResultVar.tmp 4] r) (entry a l)) (ha : a.length = 2) : Y.call 6 a l = some r :=
 call_slim (Y := Y) rfl Try.func6 (ha ▸ ok6) slim6 h
theorem l_FnExactRenamingBetween_call (tL tD : Int) (tN tE : List (List Int)) (uL uD : Int) (uN uE : List (List Int)) {r : Bool} (h : l_FnExactRenamingBetween tL tD tN tE uL uD uN uE = some r) : Y.call 6 [D.agg [D.int .i64 tL, D.int .i64 tD, D.sl 23 (lst (fun x => D.sl 3 (lst (D.int .i64) x)) tN), D.sl 23 (lst (fun x => D.sl 3 (lst (D.int .i64) x)) tE)], D.agg [D.int .i64 uL, D.int .i64 uD, D.sl 23 (lst (fun x => D.sl 3 (lst (D.int .i64) x)) uN), D.sl 23 (lst (fun x => D.sl 3 (lst (D.int .i64) x)) uE)]] [] = some (D.bool r, []) := by
 refine c6 ?_ rfl
 unfold k6
 unfold l_FnExactRenamingBetween at h
 obtain ⟨e1, h⟩ := ckS h
 obtain ⟨e2, h⟩ := ckS h
 obtain ⟨e3, h⟩ := ckS h
 have c4 := l_szProblem_cl tL tD tN tE (1048576 : Int) e1 e2 e3
 by_cases e5 : (szP (1048576 : Int) tN tE) < 0
 ·rw [if_pos e5] at h
  cases h
  simp (maxDischargeDepth := 9) only [↓xpre, xpost, xc2, xcore, yset, ↓reduceIte, Nat.reduceEqDiff, Nat.reduceLT, Nat.reduceAdd, c4, e5]
 ·rw [if_neg e5] at h
  obtain ⟨e6, h⟩ := ckS h
  obtain ⟨e7, h⟩ := ckS h
  obtain ⟨e8, h⟩ := ckS h
  have c9 := l_szProblem_cl uL uD uN uE (szP (1048576 : Int) tN tE) e6 e7 e8
  by_cases e10 : (szP (szP (1048576 : Int) tN tE) uN uE) < 0
  ·rw [if_pos e10] at h
   cases h
   simp (maxDischargeDepth := 9) only [↓xpre, xpost, xc2, xcore, yset, ↓reduceIte, Nat.reduceEqDiff, Nat.reduceLT, Nat.reduceAdd, c4, e5, c9, e10]
  ·rw [if_neg e10] at h
   obtain ⟨e11, h⟩ := ckS h
   obtain ⟨e12, h⟩ := ckS h
   have c13 := l_toProblem_cl tL tD tN tE e11 e12
   obtain ⟨e14, h⟩ := ckS h
   obtain ⟨e15, h⟩ := ckS h
   have c16 := l_toProblem_cl uL uD uN uE e14 e15
   obtain ⟨r17_, hl17, h⟩ := bindS h
   try dsimp only at h
   have c17 := s_RenamingBetween_call tL tD tN tE uL uD uN uE hl17
   rcases r17_ with q17_ | q17_
   ·dsimp only at h c17
    by_cases e18 : (!q17_.1.isEmpty) = true
    ·skip
     have c19 := l_toProblem_cl tL tD tN tE e11 e12
     have c20 := l_toProblem_cl uL uD uN uE e14 e15
     obtain ⟨r21_, hl21, h⟩ := bindS h
     try dsimp only at h
     have c21 := i_RenamingBetween_call tL tD tN tE uL uD uN uE hl21
     obtain ⟨e22, h⟩ := ckS h
     have c23 := l_eqIntS_cl r21_.1 q17_.1 e22
     by_cases e24 : (decide (r21_.1 = q17_.1)) = true
     ·rw [if_pos e24] at h
      by_cases e25 : r21_.2 = true
      ·rw [if_pos e25] at h
       by_cases e26 : q17_.2 = true
       ·rw [if_pos e26] at h
        have c27 := l_toProblem_cl tL tD tN tE e11 e12
        have c28 := l_eqProblem_cl tL tD tN tE tL tD tN tE e11 e12
        by_cases e29 : (sameP tL tD tN tE tL tD tN tE) = true
        ·rw [if_pos e29] at h
         have c30 := l_toProblem_cl uL uD uN uE e14 e15
         have c31 := l_eqProblem_cl uL uD uN uE uL uD uN uE e14 e15
         by_cases e32 : (sameP uL uD uN uE uL uD uN uE) = true
         ·rw [if_pos e32] at h
          obtain ⟨e33, h⟩ := ckS h
          have c34 := l_markProblem_cl tL tD tN tE (1 : Int) e11 e12 e33
          obtain ⟨e35, h⟩ := ckS h
          have c36 := l_markProblem_cl uL uD uN uE ((1 : Int) + tot tN + tot tE) e14 e15 e35
          by_cases e37 : (((1 : Int) + tot tN + tot tE) + tot uN + tot uE) < 0
          ·rw [if_pos e37] at h
           cases h
           simp (maxDischargeDepth := 9) only [↓xpre, xpost, xlst, xc2, xcore, yset, ↓reduceIte, Nat.reduceEqDiff, Nat.reduceLT, Nat.reduceAdd, Nat.reduceBEq, c4, e5, c9, e10, c13, c16, c17, e18, c21, c23, e24, e25, e26, c28, e29, c31, e32, c34, c36, e37]
          ·rw [if_neg e37] at h
           have c38 := l_eqIntS_cl r21_.1 q17_.1 e22
           obtain ⟨e39, h⟩ := ckS h
           have c40 := l_markIntS_cl r21_.1 (1 : Int) e22 e39
           obtain ⟨e41, h⟩ := ckS h
           obtain ⟨e42, h⟩ := ckS h
           have c43 := l_heldIntS_cl (upto (1 : Int) r21_.1.length) (1 : Int) e41 e42
           by_cases e44 : (held (1 : Int) (upto (1 : Int) r21_.1.length)) < 0
           ·rw [if_pos e44] at h
            cases h
            simp (maxDischargeDepth := 9) only [↓xpre, xpost, xlst, xc2, xcore, yset, ↓reduceIte, Nat.reduceEqDiff, Nat.reduceLT, Nat.reduceAdd, Nat.reduceBEq, c4, e5, c9, e10, c13, c16, c17, e18, c21, c23, e24, e25, e26, c28, e29, c31, e32, c34, c36, e37, c40, c43, e44]
           ·rw [if_neg e44] at h
            by_cases e45 : (held (1 : Int) (upto (1 : Int) r21_.1.length)) = ((1 : Int) + r21_.1.length)
            ·rw [if_pos e45] at h
             have c46 := l_toProblem_cl tL tD tN tE e11 e12
             have c47 := l_toProblem_cl uL uD uN uE e14 e15
             have c48 := l_eqIntS_cl r21_.1 q17_.1 e22
             have c49 := l_heldIntS_cl (upto (1 : Int) r21_.1.length) (1 : Int) e41 e42
             cases h
             simp (maxDischargeDepth := 9) only [↓xpre, xpost, xlst, xc2, xcore, yset, ↓reduceIte, Nat.reduceEqDiff, Nat.reduceLT, Nat.reduceAdd, Nat.reduceBEq, c4, e5, c9, e10, c13, c16, c17, e18, c21, c23, e24, e25, e26, c28, e29, c31, e32, c34, c36, e37, c40, c43, e44, decide_eq_true e45]
            ·rw [if_neg e45] at h
             cases h
             simp (maxDischargeDepth := 9) only [↓xpre, xpost, xlst, xc2, xcore, yset, ↓reduceIte, Nat.reduceEqDiff, Nat.reduceLT, Nat.reduceAdd, Nat.reduceBEq, c4, e5, c9, e10, c13, c16, c17, e18, c21, c23, e24, e25, e26, c28, e29, c31, e32, c34, c36, e37, c40, c43, e44, e45]
         ·rw [if_neg e32] at h
          have e32f : (sameP uL uD uN uE uL uD uN uE) = false := Bool.eq_false_iff.mpr e32
          cases h
          simp (maxDischargeDepth := 9) only [↓xpre, xpost, xlst, xc2, xcore, yset, ↓reduceIte, Nat.reduceEqDiff, Nat.reduceLT, Nat.reduceAdd, Nat.reduceBEq, c4, e5, c9, e10, c13, c16, c17, e18, c21, c23, e24, e25, e26, c28, e29, c31, e32f]
        ·rw [if_neg e29] at h
         have e29f : (sameP tL tD tN tE tL tD tN tE) = false := Bool.eq_false_iff.mpr e29
         cases h
         simp (maxDischargeDepth := 9) only [↓xpre, xpost, xlst, xc2, xcore, yset, ↓reduceIte, Nat.reduceEqDiff, Nat.reduceLT, Nat.reduceAdd, Nat.reduceBEq, c4, e5, c9, e10, c13, c16, c17, e18, c21, c23, e24, e25, e26, c28, e29f]
       ·rw [if_neg e26] at h
        have e26f : q17_.2 = false := Bool.eq_false_iff.mpr e26
        cases h
        simp (maxDischargeDepth := 9) only [↓xpre, xpost, xlst, xc2, xcore, yset, ↓reduceIte, Nat.reduceEqDiff, Nat.reduceLT, Nat.reduceAdd, Nat.reduceBEq, c4, e5, c9, e10, c13, c16, c17, e18, c21, c23, e24, e25, e26f]
      ·rw [if_neg e25] at h
       have e25f : r21_.2 = false := Bool.eq_false_iff.mpr e25
       by_cases e26 : q17_.2 = true
       ·rw [if_pos e26] at h
        cases h
        simp (maxDischargeDepth := 9) only [↓xpre, xpost, xlst, xc2, xcore, yset, ↓reduceIte, Nat.reduceEqDiff, Nat.reduceLT, Nat.reduceAdd, Nat.reduceBEq, c4, e5, c9, e10, c13, c16, c17, e18, c21, c23, e24, e25f, e26]
       ·rw [if_neg e26] at h
        have e26f : q17_.2 = false := Bool.eq_false_iff.mpr e26
        have c27 := l_toProblem_cl tL tD tN tE e11 e12
        have c28 := l_eqProblem_cl tL tD tN tE tL tD tN tE e11 e12
        by_cases e29 : (sameP tL tD tN tE tL tD tN tE) = true
        ·rw [if_pos e29] at h
         have c30 := l_toProblem_cl uL uD uN uE e14 e15
         have c31 := l_eqProblem_cl uL uD uN uE uL uD uN uE e14 e15
         by_cases e32 : (sameP uL uD uN uE uL uD uN uE) = true
         ·rw [if_pos e32] at h
          obtain ⟨e33, h⟩ := ckS h
          have c34 := l_markProblem_cl tL tD tN tE (1 : Int) e11 e12 e33
          obtain ⟨e35, h⟩ := ckS h
          have c36 := l_markProblem_cl uL uD uN uE ((1 : Int) + tot tN + tot tE) e14 e15 e35
          by_cases e37 : (((1 : Int) + tot tN + tot tE) + tot uN + tot uE) < 0
          ·rw [if_pos e37] at h
           cases h
           simp (maxDischargeDepth := 9) only [↓xpre, xpost, xlst, xc2, xcore, yset, ↓reduceIte, Nat.reduceEqDiff, Nat.reduceLT, Nat.reduceAdd, Nat.reduceBEq, c4, e5, c9, e10, c13, c16, c17, e18, c21, c23, e24, e25f, e26f, c28, e29, c31, e32, c34, c36, e37]
          ·rw [if_neg e37] at h
           have c38 := l_eqIntS_cl r21_.1 q17_.1 e22
           obtain ⟨e39, h⟩ := ckS h
           have c40 := l_markIntS_cl r21_.1 (1 : Int) e22 e39
           obtain ⟨e41, h⟩ := ckS h
           obtain ⟨e42, h⟩ := ckS h
           have c43 := l_heldIntS_cl (upto (1 : Int) r21_.1.length) (1 : Int) e41 e42
           by_cases e44 : (held (1 : Int) (upto (1 : Int) r21_.1.length)) < 0
           ·rw [if_pos e44] at h
            cases h
            simp (maxDischargeDepth := 9) only [↓xpre, xpost, xlst, xc2, xcore, yset, ↓reduceIte, Nat.reduceEqDiff, Nat.reduceLT, Nat.reduceAdd, Nat.reduceBEq, c4, e5, c9, e10, c13, c16, c17, e18, c21, c23, e24, e25f, e26f, c28, e29, c31, e32, c34, c36, e37, c40, c43, e44]
           ·rw [if_neg e44] at h
            by_cases e45 : (held (1 : Int) (upto (1 : Int) r21_.1.length)) = ((1 : Int) + r21_.1.length)
            ·rw [if_pos e45] at h
             have c46 := l_toProblem_cl tL tD tN tE e11 e12
             have c47 := l_toProblem_cl uL uD uN uE e14 e15
             have c48 := l_eqIntS_cl r21_.1 q17_.1 e22
             have c49 := l_heldIntS_cl (upto (1 : Int) r21_.1.length) (1 : Int) e41 e42
             cases h
             simp (maxDischargeDepth := 9) only [↓xpre, xpost, xlst, xc2, xcore, yset, ↓reduceIte, Nat.reduceEqDiff, Nat.reduceLT, Nat.reduceAdd, Nat.reduceBEq, c4, e5, c9, e10, c13, c16, c17, e18, c21, c23, e24, e25f, e26f, c28, e29, c31, e32, c34, c36, e37, c40, c43, e44, decide_eq_true e45]
            ·rw [if_neg e45] at h
             cases h
             simp (maxDischargeDepth := 9) only [↓xpre, xpost, xlst, xc2, xcore, yset, ↓reduceIte, Nat.reduceEqDiff, Nat.reduceLT, Nat.reduceAdd, Nat.reduceBEq, c4, e5, c9, e10, c13, c16, c17, e18, c21, c23, e24, e25f, e26f, c28, e29, c31, e32, c34, c36, e37, c40, c43, e44, e45]
         ·rw [if_neg e32] at h
          have e32f : (sameP uL uD uN uE uL uD uN uE) = false := Bool.eq_false_iff.mpr e32
          cases h
          simp (maxDischargeDepth := 9) only [↓xpre, xpost, xlst, xc2, xcore, yset, ↓reduceIte, Nat.reduceEqDiff, Nat.reduceLT, Nat.reduceAdd, Nat.reduceBEq, c4, e5, c9, e10, c13, c16, c17, e18, c21, c23, e24, e25f, e26f, c28, e29, c31, e32f]
        ·rw [if_neg e29] at h
         have e29f : (sameP tL tD tN tE tL tD tN tE) = false := Bool.eq_false_iff.mpr e29
         cases h
         simp (maxDischargeDepth := 9) only [↓xpre, xpost, xlst, xc2, xcore, yset, ↓reduceIte, Nat.reduceEqDiff, Nat.reduceLT, Nat.reduceAdd, Nat.reduceBEq, c4, e5, c9, e10, c13, c16, c17, e18, c21, c23, e24, e25f, e26f, c28, e29f]
     ·rw [if_neg e24] at h
      have e24f : (decide (r21_.1 = q17_.1)) = false := Bool.eq_false_iff.mpr e24
      cases h
      simp (maxDischargeDepth := 9) only [↓xpre, xpost, xlst, xc2, xcore, yset, ↓reduceIte, Nat.reduceEqDiff, Nat.reduceLT, Nat.reduceAdd, Nat.reduceBEq, c4, e5, c9, e10, c13, c16, c17, e18, c21, c23, e24f]
    ·skip
     have e18f : (!q17_.1.isEmpty) = false := Bool.eq_false_iff.mpr e18
     have c19 := l_toProblem_cl tL tD tN tE e11 e12
     have c20 := l_toProblem_cl uL uD uN uE e14 e15
     obtain ⟨r21_, hl21, h⟩ := bindS h
     try dsimp only at h
     have c21 := i_RenamingBetween_call tL tD tN tE uL uD uN uE hl21
     obtain ⟨e22, h⟩ := ckS h
     have c23 := l_eqIntS_cl r21_.1 q17_.1 e22
     by_cases e24 : (decide (r21_.1 = q17_.1)) = true
     ·rw [if_pos e24] at h
      by_cases e25 : r21_.2 = true
      ·rw [if_pos e25] at h
       by_cases e26 : q17_.2 = true
       ·rw [if_pos e26] at h
        have c27 := l_toProblem_cl tL tD tN tE e11 e12
        have c28 := l_eqProblem_cl tL tD tN tE tL tD tN tE e11 e12
        by_cases e29 : (sameP tL tD tN tE tL tD tN tE) = true
        ·rw [if_pos e29] at h
         have c30 := l_toProblem_cl uL uD uN uE e14 e15
         have c31 := l_eqProblem_cl uL uD uN uE uL uD uN uE e14 e15
         by_cases e32 : (sameP uL uD uN uE uL uD uN uE) = true
         ·rw [if_pos e32] at h
          obtain ⟨e33, h⟩ := ckS h
          have c34 := l_markProblem_cl tL tD tN tE (1 : Int) e11 e12 e33
          obtain ⟨e35, h⟩ := ckS h
          have c36 := l_markProblem_cl uL uD uN uE ((1 : Int) + tot tN + tot tE) e14 e15 e35
          by_cases e37 : (((1 : Int) + tot tN + tot tE) + tot uN + tot uE) < 0
          ·rw [if_pos e37] at h
           cases h
           simp (maxDischargeDepth := 9) only [↓xpre, xpost, xlst, xc2, xcore, yset, ↓reduceIte, Nat.reduceEqDiff, Nat.reduceLT, Nat.reduceAdd, Nat.reduceBEq, c4, e5, c9, e10, c13, c16, c17, e18f, c21, c23, e24, e25, e26, c28, e29, c31, e32, c34, c36, e37]
          ·rw [if_neg e37] at h
           have c38 := l_eqIntS_cl r21_.1 q17_.1 e22
           obtain ⟨e39, h⟩ := ckS h
           have c40 := l_markIntS_cl r21_.1 (1 : Int) e22 e39
           obtain ⟨e41, h⟩ := ckS h
           obtain ⟨e42, h⟩ := ckS h
           have c43 := l_heldIntS_cl (upto (1 : Int) r21_.1.length) (1 : Int) e41 e42
           by_cases e44 : (held (1 : Int) (upto (1 : Int) r21_.1.length)) < 0
           ·rw [if_pos e44] at h
            cases h
            simp (maxDischargeDepth := 9) only [↓xpre, xpost, xlst, xc2, xcore, yset, ↓reduceIte, Nat.reduceEqDiff, Nat.reduceLT, Nat.reduceAdd, Nat.reduceBEq, c4, e5, c9, e10, c13, c16, c17, e18f, c21, c23, e24, e25, e26, c28, e29, c31, e32, c34, c36, e37, c40, c43, e44]
           ·rw [if_neg e44] at h
            by_cases e45 : (held (1 : Int) (upto (1 : Int) r21_.1.length)) = ((1 : Int) + r21_.1.length)
            ·rw [if_pos e45] at h
             have c46 := l_toProblem_cl tL tD tN tE e11 e12
             have c47 := l_toProblem_cl uL uD uN uE e14 e15
             have c48 := l_eqIntS_cl r21_.1 q17_.1 e22
             have c49 := l_heldIntS_cl (upto (1 : Int) r21_.1.length) (1 : Int) e41 e42
             cases h
             simp (maxDischargeDepth := 9) only [↓xpre, xpost, xlst, xc2, xcore, yset, ↓reduceIte, Nat.reduceEqDiff, Nat.reduceLT, Nat.reduceAdd, Nat.reduceBEq, c4, e5, c9, e10, c13, c16, c17, e18f, c21, c23, e24, e25, e26, c28, e29, c31, e32, c34, c36, e37, c40, c43, e44, decide_eq_true e45]
            ·rw [if_neg e45] at h
             cases h
             simp (maxDischargeDepth := 9) only [↓xpre, xpost, xlst, xc2, xcore, yset, ↓reduceIte, Nat.reduceEqDiff, Nat.reduceLT, Nat.reduceAdd, Nat.reduceBEq, c4, e5, c9, e10, c13, c16, c17, e18f, c21, c23, e24, e25, e26, c28, e29, c31, e32, c34, c36, e37, c40, c43, e44, e45]
         ·rw [if_neg e32] at h
          have e32f : (sameP uL uD uN uE uL uD uN uE) = false := Bool.eq_false_iff.mpr e32
          cases h
          simp (maxDischargeDepth := 9) only [↓xpre, xpost, xlst, xc2, xcore, yset, ↓reduceIte, Nat.reduceEqDiff, Nat.reduceLT, Nat.reduceAdd, Nat.reduceBEq, c4, e5, c9, e10, c13, c16, c17, e18f, c21, c23, e24, e25, e26, c28, e29, c31, e32f]
        ·rw [if_neg e29] at h
         have e29f : (sameP tL tD tN tE tL tD tN tE) = false := Bool.eq_false_iff.mpr e29
         cases h
         simp (maxDischargeDepth := 9) only [↓xpre, xpost, xlst, xc2, xcore, yset, ↓reduceIte, Nat.reduceEqDiff, Nat.reduceLT, Nat.reduceAdd, Nat.reduceBEq, c4, e5, c9, e10, c13, c16, c17, e18f, c21, c23, e24, e25, e26, c28, e29f]
       ·rw [if_neg e26] at h
        have e26f : q17_.2 = false := Bool.eq_false_iff.mpr e26
        cases h
        simp (maxDischargeDepth := 9) only [↓xpre, xpost, xlst, xc2, xcore, yset, ↓reduceIte, Nat.reduceEqDiff, Nat.reduceLT, Nat.reduceAdd, Nat.reduceBEq, c4, e5, c9, e10, c13, c16, c17, e18f, c21, c23, e24, e25, e26f]
      ·rw [if_neg e25] at h
       have e25f : r21_.2 = false := Bool.eq_false_iff.mpr e25
       by_cases e26 : q17_.2 = true
       ·rw [if_pos e26] at h
        cases h
        simp (maxDischargeDepth := 9) only [↓xpre, xpost, xlst, xc2, xcore, yset, ↓reduceIte, Nat.reduceEqDiff, Nat.reduceLT, Nat.reduceAdd, Nat.reduceBEq, c4, e5, c9, e10, c13, c16, c17, e18f, c21, c23, e24, e25f, e26]
       ·rw [if_neg e26] at h
        have e26f : q17_.2 = false := Bool.eq_false_iff.mpr e26
        have c27 := l_toProblem_cl tL tD tN tE e11 e12
        have c28 := l_eqProblem_cl tL tD tN tE tL tD tN tE e11 e12
        by_cases e29 : (sameP tL tD tN tE tL tD tN tE) = true
        ·rw [if_pos e29] at h
         have c30 := l_toProblem_cl uL uD uN uE e14 e15
         have c31 := l_eqProblem_cl uL uD uN uE uL uD uN uE e14 e15
         by_cases e32 : (sameP uL uD uN uE uL uD uN uE) = true
         ·rw [if_pos e32] at h
          obtain ⟨e33, h⟩ := ckS h
          have c34 := l_markProblem_cl tL tD tN tE (1 : Int) e11 e12 e33
          obtain ⟨e35, h⟩ := ckS h
          have c36 := l_markProblem_cl uL uD uN uE ((1 : Int) + tot tN + tot tE) e14 e15 e35
          by_cases e37 : (((1 : Int) + tot tN + tot tE) + tot uN + tot uE) < 0
          ·rw [if_pos e37] at h
           cases h
           simp (maxDischargeDepth := 9) only [↓xpre, xpost, xlst, xc2, xcore, yset, ↓reduceIte, Nat.reduceEqDiff, Nat.reduceLT, Nat.reduceAdd, Nat.reduceBEq, c4, e5, c9, e10, c13, c16, c17, e18f, c21, c23, e24, e25f, e26f, c28, e29, c31, e32, c34, c36, e37]
          ·rw [if_neg e37] at h
           have c38 := l_eqIntS_cl r21_.1 q17_.1 e22
           obtain ⟨e39, h⟩ := ckS h
           have c40 := l_markIntS_cl r21_.1 (1 : Int) e22 e39
           obtain ⟨e41, h⟩ := ckS h
           obtain ⟨e42, h⟩ := ckS h
           have c43 := l_heldIntS_cl (upto (1 : Int) r21_.1.length) (1 : Int) e41 e42
           by_cases e44 : (held (1 : Int) (upto (1 : Int) r21_.1.length)) < 0
           ·rw [if_pos e44] at h
            cases h
            simp (maxDischargeDepth := 9) only [↓xpre, xpost, xlst, xc2, xcore, yset, ↓reduceIte, Nat.reduceEqDiff, Nat.reduceLT, Nat.reduceAdd, Nat.reduceBEq, c4, e5, c9, e10, c13, c16, c17, e18f, c21, c23, e24, e25f, e26f, c28, e29, c31, e32, c34, c36, e37, c40, c43, e44]
           ·rw [if_neg e44] at h
            by_cases e45 : (held (1 : Int) (upto (1 : Int) r21_.1.length)) = ((1 : Int) + r21_.1.length)
            ·rw [if_pos e45] at h
             have c46 := l_toProblem_cl tL tD tN tE e11 e12
             have c47 := l_toProblem_cl uL uD uN uE e14 e15
             have c48 := l_eqIntS_cl r21_.1 q17_.1 e22
             have c49 := l_heldIntS_cl (upto (1 : Int) r21_.1.length) (1 : Int) e41 e42
             cases h
             simp (maxDischargeDepth := 9) only [↓xpre, xpost, xlst, xc2, xcore, yset, ↓reduceIte, Nat.reduceEqDiff, Nat.reduceLT, Nat.reduceAdd, Nat.reduceBEq, c4, e5, c9, e10, c13, c16, c17, e18f, c21, c23, e24, e25f, e26f, c28, e29, c31, e32, c34, c36, e37, c40, c43, e44, decide_eq_true e45]
            ·rw [if_neg e45] at h
             cases h
             simp (maxDischargeDepth := 9) only [↓xpre, xpost, xlst, xc2, xcore, yset, ↓reduceIte, Nat.reduceEqDiff, Nat.reduceLT, Nat.reduceAdd, Nat.reduceBEq, c4, e5, c9, e10, c13, c16, c17, e18f, c21, c23, e24, e25f, e26f, c28, e29, c31, e32, c34, c36, e37, c40, c43, e44, e45]
         ·rw [if_neg e32] at h
          have e32f : (sameP uL uD uN uE uL uD uN uE) = false := Bool.eq_false_iff.mpr e32
          cases h
          simp (maxDischargeDepth := 9) only [↓xpre, xpost, xlst, xc2, xcore, yset, ↓reduceIte, Nat.reduceEqDiff, Nat.reduceLT, Nat.reduceAdd, Nat.reduceBEq, c4, e5, c9, e10, c13, c16, c17, e18f, c21, c23, e24, e25f, e26f, c28, e29, c31, e32f]
        ·rw [if_neg e29] at h
         have e29f : (sameP tL tD tN tE tL tD tN tE) = false := Bool.eq_false_iff.mpr e29
         cases h
         simp (maxDischargeDepth := 9) only [↓xpre, xpost, xlst, xc2, xcore, yset, ↓reduceIte, Nat.reduceEqDiff, Nat.reduceLT, Nat.reduceAdd, Nat.reduceBEq, c4, e5, c9, e10, c13, c16, c17, e18f, c21, c23, e24, e25f, e26f, c28, e29f]
     ·rw [if_neg e24] at h
      have e24f : (decide (r21_.1 = q17_.1)) = false := Bool.eq_false_iff.mpr e24
      cases h
      simp (maxDischargeDepth := 9) only [↓xpre, xpost, xlst, xc2, xcore, yset, ↓reduceIte, Nat.reduceEqDiff, Nat.reduceLT, Nat.reduceAdd, Nat.reduceBEq, c4, e5, c9, e10, c13, c16, c17, e18f, c21, c23, e24f]
   ·dsimp only at h c17
    have c25 := l_toProblem_cl tL tD tN tE e11 e12
    have c26 := l_toProblem_cl uL uD uN uE e14 e15
    obtain ⟨r27_, hl27, h⟩ := bindS h
    try dsimp only at h
    have c27 := i_RenamingBetween_call tL tD tN tE uL uD uN uE hl27
    obtain ⟨e28, h⟩ := ckS h
    have c29 := l_eqIntS_cl r27_.1 q17_.1 e28
    by_cases e30 : (decide (r27_.1 = q17_.1)) = true
    ·rw [if_pos e30] at h
     by_cases e31 : r27_.2 = true
     ·rw [if_pos e31] at h
      by_cases e32 : q17_.2 = true
      ·rw [if_pos e32] at h
       have c33 := l_toProblem_cl tL tD tN tE e11 e12
       have c34 := l_eqProblem_cl tL tD tN tE tL tD tN tE e11 e12
       by_cases e35 : (sameP tL tD tN tE tL tD tN tE) = true
       ·rw [if_pos e35] at h
        have c36 := l_toProblem_cl uL uD uN uE e14 e15
        have c37 := l_eqProblem_cl uL uD uN uE uL uD uN uE e14 e15
        by_cases e38 : (sameP uL uD uN uE uL uD uN uE) = true
        ·rw [if_pos e38] at h
         obtain ⟨e39, h⟩ := ckS h
         have c40 := l_markProblem_cl tL tD tN tE (1 : Int) e11 e12 e39
         obtain ⟨e41, h⟩ := ckS h
         have c42 := l_markProblem_cl uL uD uN uE ((1 : Int) + tot tN + tot tE) e14 e15 e41
         by_cases e43 : (((1 : Int) + tot tN + tot tE) + tot uN + tot uE) < 0
         ·rw [if_pos e43] at h
          cases h
          simp (maxDischargeDepth := 9) only [↓xpre, xpost, xlst, xc2, xcore, yset, ↓reduceIte, Nat.reduceEqDiff, Nat.reduceLT, Nat.reduceAdd, Nat.reduceBEq, c4, e5, c9, e10, c13, c16, c17, c27, c29, e30, e31, e32, c34, e35, c37, e38, c40, c42, e43]
         ·rw [if_neg e43] at h
          have c44 := l_eqIntS_cl r27_.1 q17_.1 e28
          obtain ⟨e45, h⟩ := ckS h
          have c46 := l_markIntS_cl r27_.1 (1 : Int) e28 e45
          obtain ⟨e47, h⟩ := ckS h
          obtain ⟨e48, h⟩ := ckS h
          have c49 := l_heldIntS_cl (upto (1 : Int) r27_.1.length) (1 : Int) e47 e48
          by_cases e50 : (held (1 : Int) (upto (1 : Int) r27_.1.length)) < 0
          ·rw [if_pos e50] at h
           cases h
           simp (maxDischargeDepth := 9) only [↓xpre, xpost, xlst, xc2, xcore, yset, ↓reduceIte, Nat.reduceEqDiff, Nat.reduceLT, Nat.reduceAdd, Nat.reduceBEq, c4, e5, c9, e10, c13, c16, c17, c27, c29, e30, e31, e32, c34, e35, c37, e38, c40, c42, e43, c46, c49, e50]
          ·rw [if_neg e50] at h
           by_cases e51 : (held (1 : Int) (upto (1 : Int) r27_.1.length)) = ((1 : Int) + r27_.1.length)
           ·rw [if_pos e51] at h
            have c52 := l_toProblem_cl tL tD tN tE e11 e12
            have c53 := l_toProblem_cl uL uD uN uE e14 e15
            have c54 := l_eqIntS_cl r27_.1 q17_.1 e28
            have c55 := l_heldIntS_cl (upto (1 : Int) r27_.1.length) (1 : Int) e47 e48
            cases h
            simp (maxDischargeDepth := 9) only [↓xpre, xpost, xlst, xc2, xcore, yset, ↓reduceIte, Nat.reduceEqDiff, Nat.reduceLT, Nat.reduceAdd, Nat.reduceBEq, c4, e5, c9, e10, c13, c16, c17, c27, c29, e30, e31, e32, c34, e35, c37, e38, c40, c42, e43, c46, c49, e50, decide_eq_true e51]
           ·rw [if_neg e51] at h
            cases h
            simp (maxDischargeDepth := 9) only [↓xpre, xpost, xlst, xc2, xcore, yset, ↓reduceIte, Nat.reduceEqDiff, Nat.reduceLT, Nat.reduceAdd, Nat.reduceBEq, c4, e5, c9, e10, c13, c16, c17, c27, c29, e30, e31, e32, c34, e35, c37, e38, c40, c42, e43, c46, c49, e50, e51]
        ·rw [if_neg e38] at h
         have e38f : (sameP uL uD uN uE uL uD uN uE) = false := Bool.eq_false_iff.mpr e38
         cases h
         simp (maxDischargeDepth := 9) only [↓xpre, xpost, xlst, xc2, xcore, yset, ↓reduceIte, Nat.reduceEqDiff, Nat.reduceLT, Nat.reduceAdd, Nat.reduceBEq, c4, e5, c9, e10, c13, c16, c17, c27, c29, e30, e31, e32, c34, e35, c37, e38f]
       ·rw [if_neg e35] at h
        have e35f : (sameP tL tD tN tE tL tD tN tE) = false := Bool.eq_false_iff.mpr e35
        cases h
        simp (maxDischargeDepth := 9) only [↓xpre, xpost, xlst, xc2, xcore, yset, ↓reduceIte, Nat.reduceEqDiff, Nat.reduceLT, Nat.reduceAdd, Nat.reduceBEq, c4, e5, c9, e10, c13, c16, c17, c27, c29, e30, e31, e32, c34, e35f]
      ·rw [if_neg e32] at h
       have e32f : q17_.2 = false := Bool.eq_false_iff.mpr e32
       cases h
       simp (maxDischargeDepth := 9) only [↓xpre, xpost, xlst, xc2, xcore, yset, ↓reduceIte, Nat.reduceEqDiff, Nat.reduceLT, Nat.reduceAdd, Nat.reduceBEq, c4, e5, c9, e10, c13, c16, c17, c27, c29, e30, e31, e32f]
     ·rw [if_neg e31] at h
      have e31f : r27_.2 = false := Bool.eq_false_iff.mpr e31
      by_cases e32 : q17_.2 = true
      ·rw [if_pos e32] at h
       cases h
       simp (maxDischargeDepth := 9) only [↓xpre, xpost, xlst, xc2, xcore, yset, ↓reduceIte, Nat.reduceEqDiff, Nat.reduceLT, Nat.reduceAdd, Nat.reduceBEq, c4, e5, c9, e10, c13, c16, c17, c27, c29, e30, e31f, e32]
      ·rw [if_neg e32] at h
       have e32f : q17_.2 = false := Bool.eq_false_iff.mpr e32
       have c33 := l_toProblem_cl tL tD tN tE e11 e12
       have c34 := l_eqProblem_cl tL tD tN tE tL tD tN tE e11 e12
       by_cases e35 : (sameP tL tD tN tE tL tD tN tE) = true
       ·rw [if_pos e35] at h
        have c36 := l_toProblem_cl uL uD uN uE e14 e15
        have c37 := l_eqProblem_cl uL uD uN uE uL uD uN uE e14 e15
        by_cases e38 : (sameP uL uD uN uE uL uD uN uE) = true
        ·rw [if_pos e38] at h
         obtain ⟨e39, h⟩ := ckS h
         have c40 := l_markProblem_cl tL tD tN tE (1 : Int) e11 e12 e39
         obtain ⟨e41, h⟩ := ckS h
         have c42 := l_markProblem_cl uL uD uN uE ((1 : Int) + tot tN + tot tE) e14 e15 e41
         by_cases e43 : (((1 : Int) + tot tN + tot tE) + tot uN + tot uE) < 0
         ·rw [if_pos e43] at h
          cases h
          simp (maxDischargeDepth := 9) only [↓xpre, xpost, xlst, xc2, xcore, yset, ↓reduceIte, Nat.reduceEqDiff, Nat.reduceLT, Nat.reduceAdd, Nat.reduceBEq, c4, e5, c9, e10, c13, c16, c17, c27, c29, e30, e31f, e32f, c34, e35, c37, e38, c40, c42, e43]
         ·rw [if_neg e43] at h
          have c44 := l_eqIntS_cl r27_.1 q17_.1 e28
          obtain ⟨e45, h⟩ := ckS h
          have c46 := l_markIntS_cl r27_.1 (1 : Int) e28 e45
          obtain ⟨e47, h⟩ := ckS h
          obtain ⟨e48, h⟩ := ckS h
          have c49 := l_heldIntS_cl (upto (1 : Int) r27_.1.length) (1 : Int) e47 e48
          by_cases e50 : (held (1 : Int) (upto (1 : Int) r27_.1.length)) < 0
          ·rw [if_pos e50] at h
           cases h
           simp (maxDischargeDepth := 9) only [↓xpre, xpost, xlst, xc2, xcore, yset, ↓reduceIte, Nat.reduceEqDiff, Nat.reduceLT, Nat.reduceAdd, Nat.reduceBEq, c4, e5, c9, e10, c13, c16, c17, c27, c29, e30, e31f, e32f, c34, e35, c37, e38, c40, c42, e43, c46, c49, e50]
          ·rw [if_neg e50] at h
           by_cases e51 : (held (1 : Int) (upto (1 : Int) r27_.1.length)) = ((1 : Int) + r27_.1.length)
           ·rw [if_pos e51] at h
            have c52 := l_toProblem_cl tL tD tN tE e11 e12
            have c53 := l_toProblem_cl uL uD uN uE e14 e15
            have c54 := l_eqIntS_cl r27_.1 q17_.1 e28
            have c55 := l_heldIntS_cl (upto (1 : Int) r27_.1.length) (1 : Int) e47 e48
            cases h
            simp (maxDischargeDepth := 9) only [↓xpre, xpost, xlst, xc2, xcore, yset, ↓reduceIte, Nat.reduceEqDiff, Nat.reduceLT, Nat.reduceAdd, Nat.reduceBEq, c4, e5, c9, e10, c13, c16, c17, c27, c29, e30, e31f, e32f, c34, e35, c37, e38, c40, c42, e43, c46, c49, e50, decide_eq_true e51]
           ·rw [if_neg e51] at h
            cases h
            simp (maxDischargeDepth := 9) only [↓xpre, xpost, xlst, xc2, xcore, yset, ↓reduceIte, Nat.reduceEqDiff, Nat.reduceLT, Nat.reduceAdd, Nat.reduceBEq, c4, e5, c9, e10, c13, c16, c17, c27, c29, e30, e31f, e32f, c34, e35, c37, e38, c40, c42, e43, c46, c49, e50, e51]
        ·rw [if_neg e38] at h
         have e38f : (sameP uL uD uN uE uL uD uN uE) = false := Bool.eq_false_iff.mpr e38
         cases h
         simp (maxDischargeDepth := 9) only [↓xpre, xpost, xlst, xc2, xcore, yset, ↓reduceIte, Nat.reduceEqDiff, Nat.reduceLT, Nat.reduceAdd, Nat.reduceBEq, c4, e5, c9, e10, c13, c16, c17, c27, c29, e30, e31f, e32f, c34, e35, c37, e38f]
       ·rw [if_neg e35] at h
        have e35f : (sameP tL tD tN tE tL tD tN tE) = false := Bool.eq_false_iff.mpr e35
        cases h
        simp (maxDischargeDepth := 9) only [↓xpre, xpost, xlst, xc2, xcore, yset, ↓reduceIte, Nat.reduceEqDiff, Nat.reduceLT, Nat.reduceAdd, Nat.reduceBEq, c4, e5, c9, e10, c13, c16, c17, c27, c29, e30, e31f, e32f, c34, e35f]
    ·rw [if_neg e30] at h
     have e30f : (decide (r27_.1 = q17_.1)) = false := Bool.eq_false_iff.mpr e30
     cases h
     simp (maxDischargeDepth := 9) only [↓xpre, xpost, xlst, xc2, xcore, yset, ↓reduceIte, Nat.reduceEqDiff, Nat.reduceLT, Nat.reduceAdd, Nat.reduceBEq, c4, e5, c9, e10, c13, c16, c17, c27, c29, e30f]


end Go.Proofs.Ytipfckompmhljaa
