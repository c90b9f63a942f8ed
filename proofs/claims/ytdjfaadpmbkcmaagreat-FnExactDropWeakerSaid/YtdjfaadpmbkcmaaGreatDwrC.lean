/- Problems without weaker labels: the law, lifted. Conditions: none. -/
import Derived.Test.YtdjfaadpmbkcmaaGreatL6
import Derived.Test.YtdjfaadpmbkcmaaGreatDwrA
import Derived.Test.YtdjfaadpmbkcmaaGreatPB
namespace Go.Proofs.YtdjfaadpmbkcmaaGreat
open Go Dv
set_option linter.unusedSimpArgs false
set_option linter.unusedVariables false
set_option maxRecDepth 100000
set_option maxHeartbeats 4000000

noncomputable def l_FnExactDropWeaker (tL tD : Int) (tN tE : List (List Int)) : Option (Bool) :=
 ck (Wide tN) <|
 ck (Wide tE) <|
 ck (0 ≤ (1048576 : Int) ∧ (1048576 : Int) ≤ 1048576) <|
 if (szP (1048576 : Int) tN tE) < 0 then
  some true
 else
  ck (Short tN) <|
  ck (Short tE) <|
  (sDW tL tD tN tE).bind fun r9_ =>
  match r9_ with
  | .inl q9_ =>
   if (!q9_.2.2.1.isEmpty) = true then
    (i_DropWeaker tL tD tN tE).bind fun r12_ =>
    ck (Short r12_.2.2.1) <|
    ck (Short r12_.2.2.2.1) <|
    if (sameP r12_.1 r12_.2.1 r12_.2.2.1 r12_.2.2.2.1 q9_.1 q9_.2.1 q9_.2.2.1 q9_.2.2.2.1) = true then
     ck (r12_.2.2.2.2.1.length < 1099511627776) <|
     if (decide (r12_.2.2.2.2.1 = q9_.2.2.2.2.1)) = true then
      if r12_.2.2.2.2.2 = true then
       if q9_.2.2.2.2.2 = true then
        if (sameP tL tD tN tE tL tD tN tE) = true then
         ck (0 ≤ (1 : Int) ∧ (1 : Int) + tot tN + tot tE < 1099511627776) <|
         if ((1 : Int) + tot tN + tot tE) < 0 then
          some false
         else
          ck (0 ≤ (1 : Int) ∧ (1 : Int) + tot r12_.2.2.1 + tot r12_.2.2.2.1 < 1099511627776) <|
          ck (0 ≤ ((1 : Int) + tot r12_.2.2.1 + tot r12_.2.2.2.1) ∧ ((1 : Int) + tot r12_.2.2.1 + tot r12_.2.2.2.1) < 1099511627776) <|
          (l_heldProblem r12_.1 r12_.2.1 (marks (1 : Int) r12_.2.2.1) (marks ((1 : Int) + tot r12_.2.2.1) r12_.2.2.2.1) (1 : Int)).bind fun r34_ =>
          if r34_ < 0 then
           some false
          else
           ck ((upto ((1 : Int) + tot r12_.2.2.1 + tot r12_.2.2.2.1) r12_.2.2.2.2.1.length).length < 1099511627776) <|
           ck (0 ≤ r34_ ∧ r34_ + (upto ((1 : Int) + tot r12_.2.2.1 + tot r12_.2.2.2.1) r12_.2.2.2.2.1.length).length < 1099511627776) <|
           if (held r34_ (upto ((1 : Int) + tot r12_.2.2.1 + tot r12_.2.2.2.1) r12_.2.2.2.2.1.length)) < 0 then
            some false
           else
            if (held r34_ (upto ((1 : Int) + tot r12_.2.2.1 + tot r12_.2.2.2.1) r12_.2.2.2.2.1.length)) = (((1 : Int) + tot r12_.2.2.1 + tot r12_.2.2.2.1) + r12_.2.2.2.2.1.length) then
             some true
            else
             some false
        else
         some false
       else
        some false
      else
       if q9_.2.2.2.2.2 = true then
        some false
       else
        if (sameP tL tD tN tE tL tD tN tE) = true then
         ck (0 ≤ (1 : Int) ∧ (1 : Int) + tot tN + tot tE < 1099511627776) <|
         if ((1 : Int) + tot tN + tot tE) < 0 then
          some false
         else
          ck (0 ≤ (1 : Int) ∧ (1 : Int) + tot r12_.2.2.1 + tot r12_.2.2.2.1 < 1099511627776) <|
          ck (0 ≤ ((1 : Int) + tot r12_.2.2.1 + tot r12_.2.2.2.1) ∧ ((1 : Int) + tot r12_.2.2.1 + tot r12_.2.2.2.1) < 1099511627776) <|
          (l_heldProblem r12_.1 r12_.2.1 (marks (1 : Int) r12_.2.2.1) (marks ((1 : Int) + tot r12_.2.2.1) r12_.2.2.2.1) (1 : Int)).bind fun r34_ =>
          if r34_ < 0 then
           some false
          else
           ck ((upto ((1 : Int) + tot r12_.2.2.1 + tot r12_.2.2.2.1) r12_.2.2.2.2.1.length).length < 1099511627776) <|
           ck (0 ≤ r34_ ∧ r34_ + (upto ((1 : Int) + tot r12_.2.2.1 + tot r12_.2.2.2.1) r12_.2.2.2.2.1.length).length < 1099511627776) <|
           if (held r34_ (upto ((1 : Int) + tot r12_.2.2.1 + tot r12_.2.2.2.1) r12_.2.2.2.2.1.length)) < 0 then
            some false
           else
            if (held r34_ (upto ((1 : Int) + tot r12_.2.2.1 + tot r12_.2.2.2.1) r12_.2.2.2.2.1.length)) = (((1 : Int) + tot r12_.2.2.1 + tot r12_.2.2.2.1) + r12_.2.2.2.2.1.length) then
             some true
            else
             some false
        else
         some false
     else
      some false
    else
     some false
   else
    (i_DropWeaker tL tD tN tE).bind fun r13_ =>
    ck (Short r13_.2.2.1) <|
    ck (Short r13_.2.2.2.1) <|
    if (sameP r13_.1 r13_.2.1 r13_.2.2.1 r13_.2.2.2.1 q9_.1 q9_.2.1 q9_.2.2.1 q9_.2.2.2.1) = true then
     ck (r13_.2.2.2.2.1.length < 1099511627776) <|
     if (decide (r13_.2.2.2.2.1 = q9_.2.2.2.2.1)) = true then
      if r13_.2.2.2.2.2 = true then
       if q9_.2.2.2.2.2 = true then
        if (sameP tL tD tN tE tL tD tN tE) = true then
         ck (0 ≤ (1 : Int) ∧ (1 : Int) + tot tN + tot tE < 1099511627776) <|
         if ((1 : Int) + tot tN + tot tE) < 0 then
          some false
         else
          ck (0 ≤ (1 : Int) ∧ (1 : Int) + tot r13_.2.2.1 + tot r13_.2.2.2.1 < 1099511627776) <|
          ck (0 ≤ ((1 : Int) + tot r13_.2.2.1 + tot r13_.2.2.2.1) ∧ ((1 : Int) + tot r13_.2.2.1 + tot r13_.2.2.2.1) < 1099511627776) <|
          (l_heldProblem r13_.1 r13_.2.1 (marks (1 : Int) r13_.2.2.1) (marks ((1 : Int) + tot r13_.2.2.1) r13_.2.2.2.1) (1 : Int)).bind fun r35_ =>
          if r35_ < 0 then
           some false
          else
           ck ((upto ((1 : Int) + tot r13_.2.2.1 + tot r13_.2.2.2.1) r13_.2.2.2.2.1.length).length < 1099511627776) <|
           ck (0 ≤ r35_ ∧ r35_ + (upto ((1 : Int) + tot r13_.2.2.1 + tot r13_.2.2.2.1) r13_.2.2.2.2.1.length).length < 1099511627776) <|
           if (held r35_ (upto ((1 : Int) + tot r13_.2.2.1 + tot r13_.2.2.2.1) r13_.2.2.2.2.1.length)) < 0 then
            some false
           else
            if (held r35_ (upto ((1 : Int) + tot r13_.2.2.1 + tot r13_.2.2.2.1) r13_.2.2.2.2.1.length)) = (((1 : Int) + tot r13_.2.2.1 + tot r13_.2.2.2.1) + r13_.2.2.2.2.1.length) then
             some true
            else
             some false
        else
         some false
       else
        some false
      else
       if q9_.2.2.2.2.2 = true then
        some false
       else
        if (sameP tL tD tN tE tL tD tN tE) = true then
         ck (0 ≤ (1 : Int) ∧ (1 : Int) + tot tN + tot tE < 1099511627776) <|
         if ((1 : Int) + tot tN + tot tE) < 0 then
          some false
         else
          ck (0 ≤ (1 : Int) ∧ (1 : Int) + tot r13_.2.2.1 + tot r13_.2.2.2.1 < 1099511627776) <|
          ck (0 ≤ ((1 : Int) + tot r13_.2.2.1 + tot r13_.2.2.2.1) ∧ ((1 : Int) + tot r13_.2.2.1 + tot r13_.2.2.2.1) < 1099511627776) <|
          (l_heldProblem r13_.1 r13_.2.1 (marks (1 : Int) r13_.2.2.1) (marks ((1 : Int) + tot r13_.2.2.1) r13_.2.2.2.1) (1 : Int)).bind fun r35_ =>
          if r35_ < 0 then
           some false
          else
           ck ((upto ((1 : Int) + tot r13_.2.2.1 + tot r13_.2.2.2.1) r13_.2.2.2.2.1.length).length < 1099511627776) <|
           ck (0 ≤ r35_ ∧ r35_ + (upto ((1 : Int) + tot r13_.2.2.1 + tot r13_.2.2.2.1) r13_.2.2.2.2.1.length).length < 1099511627776) <|
           if (held r35_ (upto ((1 : Int) + tot r13_.2.2.1 + tot r13_.2.2.2.1) r13_.2.2.2.2.1.length)) < 0 then
            some false
           else
            if (held r35_ (upto ((1 : Int) + tot r13_.2.2.1 + tot r13_.2.2.2.1) r13_.2.2.2.2.1.length)) = (((1 : Int) + tot r13_.2.2.1 + tot r13_.2.2.2.1) + r13_.2.2.2.2.1.length) then
             some true
            else
             some false
        else
         some false
     else
      some false
    else
     some false
  | .inr q9_ =>
   (i_DropWeaker tL tD tN tE).bind fun r19_ =>
   ck (Short r19_.2.2.1) <|
   ck (Short r19_.2.2.2.1) <|
   if (sameP r19_.1 r19_.2.1 r19_.2.2.1 r19_.2.2.2.1 q9_.1 q9_.2.1 q9_.2.2.1 q9_.2.2.2.1) = true then
    ck (r19_.2.2.2.2.1.length < 1099511627776) <|
    if (decide (r19_.2.2.2.2.1 = q9_.2.2.2.2.1)) = true then
     if r19_.2.2.2.2.2 = true then
      if q9_.2.2.2.2.2 = true then
       if (sameP tL tD tN tE tL tD tN tE) = true then
        ck (0 ≤ (1 : Int) ∧ (1 : Int) + tot tN + tot tE < 1099511627776) <|
        if ((1 : Int) + tot tN + tot tE) < 0 then
         some false
        else
         ck (0 ≤ (1 : Int) ∧ (1 : Int) + tot r19_.2.2.1 + tot r19_.2.2.2.1 < 1099511627776) <|
         ck (0 ≤ ((1 : Int) + tot r19_.2.2.1 + tot r19_.2.2.2.1) ∧ ((1 : Int) + tot r19_.2.2.1 + tot r19_.2.2.2.1) < 1099511627776) <|
         (l_heldProblem r19_.1 r19_.2.1 (marks (1 : Int) r19_.2.2.1) (marks ((1 : Int) + tot r19_.2.2.1) r19_.2.2.2.1) (1 : Int)).bind fun r41_ =>
         if r41_ < 0 then
          some false
         else
          ck ((upto ((1 : Int) + tot r19_.2.2.1 + tot r19_.2.2.2.1) r19_.2.2.2.2.1.length).length < 1099511627776) <|
          ck (0 ≤ r41_ ∧ r41_ + (upto ((1 : Int) + tot r19_.2.2.1 + tot r19_.2.2.2.1) r19_.2.2.2.2.1.length).length < 1099511627776) <|
          if (held r41_ (upto ((1 : Int) + tot r19_.2.2.1 + tot r19_.2.2.2.1) r19_.2.2.2.2.1.length)) < 0 then
           some false
          else
           if (held r41_ (upto ((1 : Int) + tot r19_.2.2.1 + tot r19_.2.2.2.1) r19_.2.2.2.2.1.length)) = (((1 : Int) + tot r19_.2.2.1 + tot r19_.2.2.2.1) + r19_.2.2.2.2.1.length) then
            some true
           else
            some false
       else
        some false
      else
       some false
     else
      if q9_.2.2.2.2.2 = true then
       some false
      else
       if (sameP tL tD tN tE tL tD tN tE) = true then
        ck (0 ≤ (1 : Int) ∧ (1 : Int) + tot tN + tot tE < 1099511627776) <|
        if ((1 : Int) + tot tN + tot tE) < 0 then
         some false
        else
         ck (0 ≤ (1 : Int) ∧ (1 : Int) + tot r19_.2.2.1 + tot r19_.2.2.2.1 < 1099511627776) <|
         ck (0 ≤ ((1 : Int) + tot r19_.2.2.1 + tot r19_.2.2.2.1) ∧ ((1 : Int) + tot r19_.2.2.1 + tot r19_.2.2.2.1) < 1099511627776) <|
         (l_heldProblem r19_.1 r19_.2.1 (marks (1 : Int) r19_.2.2.1) (marks ((1 : Int) + tot r19_.2.2.1) r19_.2.2.2.1) (1 : Int)).bind fun r41_ =>
         if r41_ < 0 then
          some false
         else
          ck ((upto ((1 : Int) + tot r19_.2.2.1 + tot r19_.2.2.2.1) r19_.2.2.2.2.1.length).length < 1099511627776) <|
          ck (0 ≤ r41_ ∧ r41_ + (upto ((1 : Int) + tot r19_.2.2.1 + tot r19_.2.2.2.1) r19_.2.2.2.2.1.length).length < 1099511627776) <|
          if (held r41_ (upto ((1 : Int) + tot r19_.2.2.1 + tot r19_.2.2.2.1) r19_.2.2.2.2.1.length)) < 0 then
           some false
          else
           if (held r41_ (upto ((1 : Int) + tot r19_.2.2.1 + tot r19_.2.2.2.1) r19_.2.2.2.2.1.length)) = (((1 : Int) + tot r19_.2.2.1 + tot r19_.2.2.2.1) + r19_.2.2.2.2.1.length) then
            some true
           else
            some false
       else
        some false
    else
     some false
   else
    some false
/-- laws.FnExactDropWeaker -/
def k3 : SC :=
 .seq
 (.ops [
 ⟨some 1, .box 24 (.tmp 0), 0, none⟩,
 ⟨some 2, .assign (.const (.bool false)), 4, none⟩])
 (.seq
 (.ops [
 ⟨some 3, .assign (.const (.int .i64 1048576)), 3, none⟩])
 (.seq
 (.ops [
 ⟨some 17, .load 24 (.tmp 1), 24, none⟩,
 ⟨some 18, .move (.tmp 3), 3, none⟩,
 ⟨some 19, .call ⟨(.value (.func 5)), #[(.tmp 17), (.tmp 18)], #[24, 3]⟩, 3, none⟩,
 ⟨some 3, .assign (.tmp 19), 3, none⟩])
 (.seq
 (.seq
 (.ops [
 ⟨some 20, .move (.tmp 3), 3, none⟩,
 ⟨some 21, .binOp .lss 3 (.tmp 20) (.const (.int .i64 0)) 3, 4, none⟩])
 (.cond (.tmp 21)
 (.seq
 (.ops [
 ⟨some 2, .assign (.const (.bool true)), 4, none⟩])
 .ret)
 .skip))
 (.seq
 (.ops [
 ⟨some 23, .load 24 (.tmp 1), 24, none⟩,
 ⟨some 24, .call ⟨(.value (.func 7)), #[(.tmp 23)], #[24]⟩, 26, none⟩,
 ⟨some 25, .call ⟨(.value (.func 6)), #[(.tmp 24)], #[26]⟩, 28, none⟩,
 ⟨some 22, .move (.tmp 25), 28, none⟩,
 ⟨some 26, .extract (.tmp 22) 0, 26, none⟩,
 ⟨some 27, .extract (.tmp 22) 1, 27, none⟩,
 ⟨some 28, .extract (.tmp 22) 2, 4, none⟩,
 ⟨some 4, .alloc 26, 0, none⟩,
 ⟨none, .store 26 (.tmp 4) (.tmp 26), 0, none⟩,
 ⟨some 5, .assign (.tmp 27), 27, none⟩,
 ⟨some 6, .assign (.tmp 28), 4, none⟩])
 (.seq
 (.ops [
 ⟨some 29, .load 24 (.tmp 1), 24, none⟩,
 ⟨some 30, .call ⟨(.value (.func 7)), #[(.tmp 29)], #[24]⟩, 26, none⟩,
 ⟨some 7, .alloc 26, 0, none⟩,
 ⟨none, .store 26 (.tmp 7) (.tmp 30), 0, none⟩])
 (.seq
 (.ops [
 ⟨some 32, .load 26 (.tmp 7), 26, none⟩,
 ⟨some 33, .call ⟨(.value (.func 8)), #[(.tmp 32)], #[26]⟩, 28, none⟩,
 ⟨some 31, .move (.tmp 33), 28, none⟩,
 ⟨some 34, .extract (.tmp 31) 0, 26, none⟩,
 ⟨some 35, .extract (.tmp 31) 1, 27, none⟩,
 ⟨some 36, .extract (.tmp 31) 2, 4, none⟩,
 ⟨some 8, .alloc 26, 0, none⟩,
 ⟨none, .store 26 (.tmp 8) (.tmp 34), 0, none⟩,
 ⟨some 9, .assign (.tmp 35), 27, none⟩,
 ⟨some 10, .assign (.tmp 36), 4, none⟩])
 (.seq
 (.seq
 (.ops [
 ⟨some 37, .load 26 (.tmp 8), 26, none⟩,
 ⟨some 38, .load 26 (.tmp 4), 26, none⟩,
 ⟨some 39, .call ⟨(.value (.func 9)), #[(.tmp 37), (.tmp 38)], #[26, 26]⟩, 4, none⟩,
 ⟨some 40, .unOp .not 4 (.tmp 39), 4, none⟩,
 ⟨some 41, .move (.tmp 40), 4, none⟩,
 ⟨some 42, .move (.tmp 9), 27, (some (some 41, false))⟩,
 ⟨some 43, .move (.tmp 5), 27, (some (some 41, false))⟩,
 ⟨some 44, .call ⟨(.value (.func 10)), #[(.tmp 42), (.tmp 43)], #[27, 27]⟩, 4, (some (some 41, false))⟩,
 ⟨some 45, .unOp .not 4 (.tmp 44), 4, (some (some 41, false))⟩,
 ⟨some 46, .pick (.tmp 41) (.const (.bool true)) (.tmp 45), 4, none⟩,
 ⟨some 47, .move (.tmp 46), 4, none⟩,
 ⟨some 48, .move (.tmp 10), 4, (some (some 47, false))⟩,
 ⟨some 49, .move (.tmp 6), 4, (some (some 47, false))⟩,
 ⟨some 50, .binOp .neq 4 (.tmp 48) (.tmp 49) 4, 4, (some (some 47, false))⟩,
 ⟨some 51, .pick (.tmp 47) (.const (.bool true)) (.tmp 50), 4, none⟩])
 (.cond (.tmp 51)
 (.seq
 (.ops [
 ⟨some 2, .assign (.const (.bool false)), 4, none⟩])
 .ret)
 .skip))
 (.seq
 (.seq
 (.draws [
 (⟨[52, 7, 7], [52, 53, 54, 55, 56], [52]⟩, ⟨some 52, .load 26 (.tmp 7), 26, none⟩),
 (⟨[53, 1, 1], [52, 53, 54, 55, 56], [53]⟩, ⟨some 53, .load 24 (.tmp 1), 24, none⟩),
 (⟨[54, 53, 1], [52, 53, 54, 55, 56], [54]⟩, ⟨some 54, .call ⟨(.value (.func 7)), #[(.tmp 53)], #[24]⟩, 26, none⟩),
 (⟨[55, 52, 54, 7, 54], [52, 53, 54, 55, 56], [55]⟩, ⟨some 55, .call ⟨(.value (.func 9)), #[(.tmp 52), (.tmp 54)], #[26, 26]⟩, 4, none⟩),
 (⟨[56, 55, 55], [52, 53, 54, 55, 56], [56]⟩, ⟨some 56, .unOp .not 4 (.tmp 55), 4, none⟩)])
 (.cond (.tmp 56)
 (.seq
 (.ops [
 ⟨some 2, .assign (.const (.bool false)), 4, none⟩])
 .ret)
 .skip))
 (.seq
 (.ops [
 ⟨some 11, .assign (.const (.int .i64 1)), 3, none⟩])
 (.seq
 (.ops [
 ⟨some 57, .load 26 (.tmp 7), 26, none⟩,
 ⟨some 58, .move (.tmp 11), 3, none⟩,
 ⟨some 59, .call ⟨(.value (.func 11)), #[(.tmp 57), (.tmp 58)], #[26, 3]⟩, 3, none⟩,
 ⟨some 11, .assign (.tmp 59), 3, none⟩])
 (.seq
 (.seq
 (.ops [
 ⟨some 60, .move (.tmp 11), 3, none⟩,
 ⟨some 61, .binOp .lss 3 (.tmp 60) (.const (.int .i64 0)) 3, 4, none⟩,
 ⟨some 62, .move (.tmp 61), 4, none⟩,
 ⟨some 63, .load 26 (.tmp 8), 26, (some (some 62, false))⟩,
 ⟨some 64, .load 26 (.tmp 4), 26, (some (some 62, false))⟩,
 ⟨some 65, .call ⟨(.value (.func 9)), #[(.tmp 63), (.tmp 64)], #[26, 26]⟩, 4, (some (some 62, false))⟩,
 ⟨some 66, .unOp .not 4 (.tmp 65), 4, (some (some 62, false))⟩,
 ⟨some 67, .pick (.tmp 62) (.const (.bool true)) (.tmp 66), 4, none⟩,
 ⟨some 68, .move (.tmp 67), 4, none⟩,
 ⟨some 69, .move (.tmp 9), 27, (some (some 68, false))⟩,
 ⟨some 70, .move (.tmp 5), 27, (some (some 68, false))⟩,
 ⟨some 71, .call ⟨(.value (.func 10)), #[(.tmp 69), (.tmp 70)], #[27, 27]⟩, 4, (some (some 68, false))⟩,
 ⟨some 72, .unOp .not 4 (.tmp 71), 4, (some (some 68, false))⟩,
 ⟨some 73, .pick (.tmp 68) (.const (.bool true)) (.tmp 72), 4, none⟩,
 ⟨some 74, .move (.tmp 73), 4, none⟩,
 ⟨some 75, .move (.tmp 10), 4, (some (some 74, false))⟩,
 ⟨some 76, .move (.tmp 6), 4, (some (some 74, false))⟩,
 ⟨some 77, .binOp .neq 4 (.tmp 75) (.tmp 76) 4, 4, (some (some 74, false))⟩,
 ⟨some 78, .pick (.tmp 74) (.const (.bool true)) (.tmp 77), 4, none⟩])
 (.cond (.tmp 78)
 (.seq
 (.ops [
 ⟨some 2, .assign (.const (.bool false)), 4, none⟩])
 .ret)
 .skip))
 (.seq
 (.ops [
 ⟨some 12, .assign (.const (.int .i64 1)), 3, none⟩])
 (.seq
 (.ops [
 ⟨some 79, .load 26 (.tmp 8), 26, none⟩,
 ⟨some 80, .move (.tmp 12), 3, none⟩,
 ⟨some 81, .call ⟨(.value (.func 11)), #[(.tmp 79), (.tmp 80)], #[26, 3]⟩, 3, none⟩,
 ⟨some 12, .assign (.tmp 81), 3, none⟩])
 (.seq
 (.ops [
 ⟨some 82, .move (.tmp 9), 27, none⟩,
 ⟨some 83, .move (.tmp 12), 3, none⟩,
 ⟨some 84, .call ⟨(.value (.func 12)), #[(.tmp 82), (.tmp 83)], #[27, 3]⟩, 3, none⟩,
 ⟨some 12, .assign (.tmp 84), 3, none⟩])
 (.seq
 (.ops [
 ⟨some 13, .assign (.const (.int .i64 1)), 3, none⟩])
 (.seq
 (.ops [
 ⟨some 85, .load 26 (.tmp 8), 26, none⟩,
 ⟨some 86, .move (.tmp 13), 3, none⟩,
 ⟨some 87, .call ⟨(.value (.func 13)), #[(.tmp 85), (.tmp 86)], #[26, 3]⟩, 3, none⟩,
 ⟨some 13, .assign (.tmp 87), 3, none⟩])
 (.seq
 (.seq
 (.ops [
 ⟨some 88, .move (.tmp 13), 3, none⟩,
 ⟨some 89, .binOp .lss 3 (.tmp 88) (.const (.int .i64 0)) 3, 4, none⟩])
 (.cond (.tmp 89)
 (.seq
 (.ops [
 ⟨some 2, .assign (.const (.bool false)), 4, none⟩])
 .ret)
 .skip))
 (.seq
 (.ops [
 ⟨some 90, .move (.tmp 9), 27, none⟩,
 ⟨some 91, .move (.tmp 13), 3, none⟩,
 ⟨some 92, .call ⟨(.value (.func 14)), #[(.tmp 90), (.tmp 91)], #[27, 3]⟩, 3, none⟩,
 ⟨some 13, .assign (.tmp 92), 3, none⟩])
 (.seq
 (.seq
 (.ops [
 ⟨some 93, .move (.tmp 13), 3, none⟩,
 ⟨some 94, .binOp .lss 3 (.tmp 93) (.const (.int .i64 0)) 3, 4, none⟩])
 (.cond (.tmp 94)
 (.seq
 (.ops [
 ⟨some 2, .assign (.const (.bool false)), 4, none⟩])
 .ret)
 .skip))
 (.seq
 (.seq
 (.ops [
 ⟨some 95, .move (.tmp 13), 3, none⟩,
 ⟨some 96, .move (.tmp 12), 3, none⟩,
 ⟨some 97, .binOp .neq 3 (.tmp 95) (.tmp 96) 3, 4, none⟩])
 (.cond (.tmp 97)
 (.seq
 (.ops [
 ⟨some 2, .assign (.const (.bool false)), 4, none⟩])
 .ret)
 .skip))
 (.seq
 (.ops [
 ⟨some 99, .load 24 (.tmp 1), 24, none⟩,
 ⟨some 100, .call ⟨(.value (.func 7)), #[(.tmp 99)], #[24]⟩, 26, none⟩,
 ⟨some 101, .call ⟨(.value (.func 8)), #[(.tmp 100)], #[26]⟩, 28, none⟩,
 ⟨some 98, .move (.tmp 101), 28, none⟩,
 ⟨some 102, .extract (.tmp 98) 0, 26, none⟩,
 ⟨some 103, .extract (.tmp 98) 1, 27, none⟩,
 ⟨some 104, .extract (.tmp 98) 2, 4, none⟩,
 ⟨some 14, .alloc 26, 0, none⟩,
 ⟨none, .store 26 (.tmp 14) (.tmp 102), 0, none⟩,
 ⟨some 15, .assign (.tmp 103), 27, none⟩,
 ⟨some 16, .assign (.tmp 104), 4, none⟩])
 (.seq
 (.seq
 (.ops [
 ⟨some 105, .load 26 (.tmp 14), 26, none⟩,
 ⟨some 106, .load 26 (.tmp 4), 26, none⟩,
 ⟨some 107, .call ⟨(.value (.func 9)), #[(.tmp 105), (.tmp 106)], #[26, 26]⟩, 4, none⟩,
 ⟨some 108, .unOp .not 4 (.tmp 107), 4, none⟩,
 ⟨some 109, .move (.tmp 108), 4, none⟩,
 ⟨some 110, .move (.tmp 15), 27, (some (some 109, false))⟩,
 ⟨some 111, .move (.tmp 5), 27, (some (some 109, false))⟩,
 ⟨some 112, .call ⟨(.value (.func 10)), #[(.tmp 110), (.tmp 111)], #[27, 27]⟩, 4, (some (some 109, false))⟩,
 ⟨some 113, .unOp .not 4 (.tmp 112), 4, (some (some 109, false))⟩,
 ⟨some 114, .pick (.tmp 109) (.const (.bool true)) (.tmp 113), 4, none⟩,
 ⟨some 115, .move (.tmp 114), 4, none⟩,
 ⟨some 116, .move (.tmp 16), 4, (some (some 115, false))⟩,
 ⟨some 117, .move (.tmp 6), 4, (some (some 115, false))⟩,
 ⟨some 118, .binOp .neq 4 (.tmp 116) (.tmp 117) 4, 4, (some (some 115, false))⟩,
 ⟨some 119, .pick (.tmp 115) (.const (.bool true)) (.tmp 118), 4, none⟩])
 (.cond (.tmp 119)
 (.seq
 (.ops [
 ⟨some 2, .assign (.const (.bool false)), 4, none⟩])
 .ret)
 .skip))
 (.seq
 (.ops [
 ⟨some 13, .assign (.const (.int .i64 1)), 3, none⟩])
 (.seq
 (.ops [
 ⟨some 120, .load 26 (.tmp 8), 26, none⟩,
 ⟨some 121, .move (.tmp 13), 3, none⟩,
 ⟨some 122, .call ⟨(.value (.func 13)), #[(.tmp 120), (.tmp 121)], #[26, 3]⟩, 3, none⟩,
 ⟨some 13, .assign (.tmp 122), 3, none⟩])
 (.seq
 (.seq
 (.ops [
 ⟨some 123, .move (.tmp 13), 3, none⟩,
 ⟨some 124, .binOp .lss 3 (.tmp 123) (.const (.int .i64 0)) 3, 4, none⟩])
 (.cond (.tmp 124)
 (.seq
 (.ops [
 ⟨some 2, .assign (.const (.bool false)), 4, none⟩])
 .ret)
 .skip))
 (.seq
 (.ops [
 ⟨some 125, .move (.tmp 9), 27, none⟩,
 ⟨some 126, .move (.tmp 13), 3, none⟩,
 ⟨some 127, .call ⟨(.value (.func 14)), #[(.tmp 125), (.tmp 126)], #[27, 3]⟩, 3, none⟩,
 ⟨some 13, .assign (.tmp 127), 3, none⟩])
 (.seq
 (.seq
 (.ops [
 ⟨some 128, .move (.tmp 13), 3, none⟩,
 ⟨some 129, .binOp .lss 3 (.tmp 128) (.const (.int .i64 0)) 3, 4, none⟩])
 (.cond (.tmp 129)
 (.seq
 (.ops [
 ⟨some 2, .assign (.const (.bool false)), 4, none⟩])
 .ret)
 .skip))
 (.seq
 (.seq
 (.ops [
 ⟨some 130, .move (.tmp 13), 3, none⟩,
 ⟨some 131, .move (.tmp 12), 3, none⟩,
 ⟨some 132, .binOp .neq 3 (.tmp 130) (.tmp 131) 3, 4, none⟩])
 (.cond (.tmp 132)
 (.seq
 (.ops [
 ⟨some 2, .assign (.const (.bool false)), 4, none⟩])
 .ret)
 .skip))
 (.seq
 (.ops [
 ⟨some 2, .assign (.const (.bool true)), 4, none⟩])
 .ret)))))))))))))))))))))))))))))
theorem slim3 : Tryz.f3.body.map (slim lends) = some k3 := by kernel_rfl
theorem ok3 : fnOk Tryz.f3 1 = true := by kernel_rfl
theorem c3 {a l : List D} {r : D × List D} (h : wpD Y.env k3 (fin tys l.length [ResultVar.tmp 2] r) (entry a l)) (ha : a.length = 1) : Y.call 3 a l = some r :=
 call_slim (Y := Y) rfl Tryz.func3 (ha ▸ ok3) slim3 h
theorem l_FnExactDropWeaker_call (tL tD : Int) (tN tE : List (List Int)) {r : Bool} (h : l_FnExactDropWeaker tL tD tN tE = some r) : Y.call 3 [D.agg [D.int .i64 tL, D.int .i64 tD, D.sl 27 (lst (fun x => D.sl 3 (lst (D.int .i64) x)) tN), D.sl 27 (lst (fun x => D.sl 3 (lst (D.int .i64) x)) tE)]] [] = some (D.bool r, []) := by
 refine c3 ?_ rfl
 unfold k3
 unfold l_FnExactDropWeaker at h
 obtain ⟨e1, h⟩ := ckS h
 obtain ⟨e2, h⟩ := ckS h
 obtain ⟨e3, h⟩ := ckS h
 have c4 := l_szProblem_cl tL tD tN tE (1048576 : Int) e1 e2 e3
 by_cases e5 : (szP (1048576 : Int) tN tE) < 0
 ·rw [if_pos e5] at h
  cases h
  simp (maxDischargeDepth := 9) only [↓xpre, xpost, xcore, yset, ↓reduceIte, Nat.reduceEqDiff, Nat.reduceLT, Nat.reduceAdd, c4, e5]
 ·rw [if_neg e5] at h
  obtain ⟨e6, h⟩ := ckS h
  obtain ⟨e7, h⟩ := ckS h
  have c8 := l_toProblem_cl tL tD tN tE e6 e7
  obtain ⟨r9_, hl9, h⟩ := bindS h
  try dsimp only at h
  have c9 := sDW_call tL tD tN tE hl9
  rcases r9_ with q9_ | q9_
  ·dsimp only at h c9
   by_cases e10 : (!q9_.2.2.1.isEmpty) = true
   ·rw [if_pos e10] at h
    have c11 := l_toProblem_cl tL tD tN tE e6 e7
    obtain ⟨r12_, hl12, h⟩ := bindS h
    try dsimp only at h
    have c12 := i_DropWeaker_call tL tD tN tE hl12
    obtain ⟨e13, h⟩ := ckS h
    obtain ⟨e14, h⟩ := ckS h
    have c15 := l_eqProblem_cl r12_.1 r12_.2.1 r12_.2.2.1 r12_.2.2.2.1 q9_.1 q9_.2.1 q9_.2.2.1 q9_.2.2.2.1 e13 e14
    by_cases e16 : (sameP r12_.1 r12_.2.1 r12_.2.2.1 r12_.2.2.2.1 q9_.1 q9_.2.1 q9_.2.2.1 q9_.2.2.2.1) = true
    ·rw [if_pos e16] at h
     obtain ⟨e17, h⟩ := ckS h
     have c18 := l_eqIntS_cl r12_.2.2.2.2.1 q9_.2.2.2.2.1 e17
     by_cases e19 : (decide (r12_.2.2.2.2.1 = q9_.2.2.2.2.1)) = true
     ·rw [if_pos e19] at h
      by_cases e20 : r12_.2.2.2.2.2 = true
      ·rw [if_pos e20] at h
       by_cases e21 : q9_.2.2.2.2.2 = true
       ·rw [if_pos e21] at h
        have c22 := l_toProblem_cl tL tD tN tE e6 e7
        have c23 := l_eqProblem_cl tL tD tN tE tL tD tN tE e6 e7
        by_cases e24 : (sameP tL tD tN tE tL tD tN tE) = true
        ·rw [if_pos e24] at h
         obtain ⟨e25, h⟩ := ckS h
         have c26 := l_markProblem_cl tL tD tN tE (1 : Int) e6 e7 e25
         by_cases e27 : ((1 : Int) + tot tN + tot tE) < 0
         ·rw [if_pos e27] at h
          cases h
          simp (maxDischargeDepth := 9) only [↓xpre, xpost, xlst, xcore, yset, ↓reduceIte, Nat.reduceEqDiff, Nat.reduceLT, Nat.reduceAdd, Nat.reduceBEq, c4, e5, c8, c9, e10, c12, c15, e16, c18, e19, e20, e21, c23, e24, c26, e27]
         ·rw [if_neg e27] at h
          have c28 := l_eqProblem_cl r12_.1 r12_.2.1 r12_.2.2.1 r12_.2.2.2.1 q9_.1 q9_.2.1 q9_.2.2.1 q9_.2.2.2.1 e13 e14
          have c29 := l_eqIntS_cl r12_.2.2.2.2.1 q9_.2.2.2.2.1 e17
          obtain ⟨e30, h⟩ := ckS h
          have c31 := l_markProblem_cl r12_.1 r12_.2.1 r12_.2.2.1 r12_.2.2.2.1 (1 : Int) e13 e14 e30
          obtain ⟨e32, h⟩ := ckS h
          have c33 := l_markIntS_cl r12_.2.2.2.2.1 ((1 : Int) + tot r12_.2.2.1 + tot r12_.2.2.2.1) e17 e32
          obtain ⟨r34_, hl34, h⟩ := bindS h
          try dsimp only at h
          have c34 := l_heldProblem_call r12_.1 r12_.2.1 (marks (1 : Int) r12_.2.2.1) (marks ((1 : Int) + tot r12_.2.2.1) r12_.2.2.2.1) (1 : Int) hl34
          by_cases e35 : r34_ < 0
          ·rw [if_pos e35] at h
           cases h
           simp (maxDischargeDepth := 9) only [↓xpre, xpost, xlst, xcore, yset, ↓reduceIte, Nat.reduceEqDiff, Nat.reduceLT, Nat.reduceAdd, Nat.reduceBEq, c4, e5, c8, c9, e10, c12, c15, e16, c18, e19, e20, e21, c23, e24, c26, e27, c31, c33, c34, e35]
          ·rw [if_neg e35] at h
           obtain ⟨e36, h⟩ := ckS h
           obtain ⟨e37, h⟩ := ckS h
           have c38 := l_heldIntS_cl (upto ((1 : Int) + tot r12_.2.2.1 + tot r12_.2.2.2.1) r12_.2.2.2.2.1.length) r34_ e36 e37
           by_cases e39 : (held r34_ (upto ((1 : Int) + tot r12_.2.2.1 + tot r12_.2.2.2.1) r12_.2.2.2.2.1.length)) < 0
           ·rw [if_pos e39] at h
            cases h
            simp (maxDischargeDepth := 9) only [↓xpre, xpost, xlst, xcore, yset, ↓reduceIte, Nat.reduceEqDiff, Nat.reduceLT, Nat.reduceAdd, Nat.reduceBEq, c4, e5, c8, c9, e10, c12, c15, e16, c18, e19, e20, e21, c23, e24, c26, e27, c31, c33, c34, e35, c38, e39]
           ·rw [if_neg e39] at h
            by_cases e40 : (held r34_ (upto ((1 : Int) + tot r12_.2.2.1 + tot r12_.2.2.2.1) r12_.2.2.2.2.1.length)) = (((1 : Int) + tot r12_.2.2.1 + tot r12_.2.2.2.1) + r12_.2.2.2.2.1.length)
            ·rw [if_pos e40] at h
             have c41 := l_toProblem_cl tL tD tN tE e6 e7
             have c42 := l_eqProblem_cl r12_.1 r12_.2.1 r12_.2.2.1 r12_.2.2.2.1 q9_.1 q9_.2.1 q9_.2.2.1 q9_.2.2.2.1 e13 e14
             have c43 := l_eqIntS_cl r12_.2.2.2.2.1 q9_.2.2.2.2.1 e17
             have c44 := l_heldIntS_cl (upto ((1 : Int) + tot r12_.2.2.1 + tot r12_.2.2.2.1) r12_.2.2.2.2.1.length) r34_ e36 e37
             cases h
             simp (maxDischargeDepth := 9) only [↓xpre, xpost, xlst, xcore, yset, ↓reduceIte, Nat.reduceEqDiff, Nat.reduceLT, Nat.reduceAdd, Nat.reduceBEq, c4, e5, c8, c9, e10, c12, c15, e16, c18, e19, e20, e21, c23, e24, c26, e27, c31, c33, c34, e35, c38, e39, decide_eq_true e40]
            ·rw [if_neg e40] at h
             cases h
             simp (maxDischargeDepth := 9) only [↓xpre, xpost, xlst, xcore, yset, ↓reduceIte, Nat.reduceEqDiff, Nat.reduceLT, Nat.reduceAdd, Nat.reduceBEq, c4, e5, c8, c9, e10, c12, c15, e16, c18, e19, e20, e21, c23, e24, c26, e27, c31, c33, c34, e35, c38, e39, e40]
        ·rw [if_neg e24] at h
         have e24f : (sameP tL tD tN tE tL tD tN tE) = false := Bool.eq_false_iff.mpr e24
         cases h
         simp (maxDischargeDepth := 9) only [↓xpre, xpost, xlst, xcore, yset, ↓reduceIte, Nat.reduceEqDiff, Nat.reduceLT, Nat.reduceAdd, Nat.reduceBEq, c4, e5, c8, c9, e10, c12, c15, e16, c18, e19, e20, e21, c23, e24f]
       ·rw [if_neg e21] at h
        have e21f : q9_.2.2.2.2.2 = false := Bool.eq_false_iff.mpr e21
        cases h
        simp (maxDischargeDepth := 9) only [↓xpre, xpost, xlst, xcore, yset, ↓reduceIte, Nat.reduceEqDiff, Nat.reduceLT, Nat.reduceAdd, Nat.reduceBEq, c4, e5, c8, c9, e10, c12, c15, e16, c18, e19, e20, e21f]
      ·rw [if_neg e20] at h
       have e20f : r12_.2.2.2.2.2 = false := Bool.eq_false_iff.mpr e20
       by_cases e21 : q9_.2.2.2.2.2 = true
       ·rw [if_pos e21] at h
        cases h
        simp (maxDischargeDepth := 9) only [↓xpre, xpost, xlst, xcore, yset, ↓reduceIte, Nat.reduceEqDiff, Nat.reduceLT, Nat.reduceAdd, Nat.reduceBEq, c4, e5, c8, c9, e10, c12, c15, e16, c18, e19, e20f, e21]
       ·rw [if_neg e21] at h
        have e21f : q9_.2.2.2.2.2 = false := Bool.eq_false_iff.mpr e21
        have c22 := l_toProblem_cl tL tD tN tE e6 e7
        have c23 := l_eqProblem_cl tL tD tN tE tL tD tN tE e6 e7
        by_cases e24 : (sameP tL tD tN tE tL tD tN tE) = true
        ·rw [if_pos e24] at h
         obtain ⟨e25, h⟩ := ckS h
         have c26 := l_markProblem_cl tL tD tN tE (1 : Int) e6 e7 e25
         by_cases e27 : ((1 : Int) + tot tN + tot tE) < 0
         ·rw [if_pos e27] at h
          cases h
          simp (maxDischargeDepth := 9) only [↓xpre, xpost, xlst, xcore, yset, ↓reduceIte, Nat.reduceEqDiff, Nat.reduceLT, Nat.reduceAdd, Nat.reduceBEq, c4, e5, c8, c9, e10, c12, c15, e16, c18, e19, e20f, e21f, c23, e24, c26, e27]
         ·rw [if_neg e27] at h
          have c28 := l_eqProblem_cl r12_.1 r12_.2.1 r12_.2.2.1 r12_.2.2.2.1 q9_.1 q9_.2.1 q9_.2.2.1 q9_.2.2.2.1 e13 e14
          have c29 := l_eqIntS_cl r12_.2.2.2.2.1 q9_.2.2.2.2.1 e17
          obtain ⟨e30, h⟩ := ckS h
          have c31 := l_markProblem_cl r12_.1 r12_.2.1 r12_.2.2.1 r12_.2.2.2.1 (1 : Int) e13 e14 e30
          obtain ⟨e32, h⟩ := ckS h
          have c33 := l_markIntS_cl r12_.2.2.2.2.1 ((1 : Int) + tot r12_.2.2.1 + tot r12_.2.2.2.1) e17 e32
          obtain ⟨r34_, hl34, h⟩ := bindS h
          try dsimp only at h
          have c34 := l_heldProblem_call r12_.1 r12_.2.1 (marks (1 : Int) r12_.2.2.1) (marks ((1 : Int) + tot r12_.2.2.1) r12_.2.2.2.1) (1 : Int) hl34
          by_cases e35 : r34_ < 0
          ·rw [if_pos e35] at h
           cases h
           simp (maxDischargeDepth := 9) only [↓xpre, xpost, xlst, xcore, yset, ↓reduceIte, Nat.reduceEqDiff, Nat.reduceLT, Nat.reduceAdd, Nat.reduceBEq, c4, e5, c8, c9, e10, c12, c15, e16, c18, e19, e20f, e21f, c23, e24, c26, e27, c31, c33, c34, e35]
          ·rw [if_neg e35] at h
           obtain ⟨e36, h⟩ := ckS h
           obtain ⟨e37, h⟩ := ckS h
           have c38 := l_heldIntS_cl (upto ((1 : Int) + tot r12_.2.2.1 + tot r12_.2.2.2.1) r12_.2.2.2.2.1.length) r34_ e36 e37
           by_cases e39 : (held r34_ (upto ((1 : Int) + tot r12_.2.2.1 + tot r12_.2.2.2.1) r12_.2.2.2.2.1.length)) < 0
           ·rw [if_pos e39] at h
            cases h
            simp (maxDischargeDepth := 9) only [↓xpre, xpost, xlst, xcore, yset, ↓reduceIte, Nat.reduceEqDiff, Nat.reduceLT, Nat.reduceAdd, Nat.reduceBEq, c4, e5, c8, c9, e10, c12, c15, e16, c18, e19, e20f, e21f, c23, e24, c26, e27, c31, c33, c34, e35, c38, e39]
           ·rw [if_neg e39] at h
            by_cases e40 : (held r34_ (upto ((1 : Int) + tot r12_.2.2.1 + tot r12_.2.2.2.1) r12_.2.2.2.2.1.length)) = (((1 : Int) + tot r12_.2.2.1 + tot r12_.2.2.2.1) + r12_.2.2.2.2.1.length)
            ·rw [if_pos e40] at h
             have c41 := l_toProblem_cl tL tD tN tE e6 e7
             have c42 := l_eqProblem_cl r12_.1 r12_.2.1 r12_.2.2.1 r12_.2.2.2.1 q9_.1 q9_.2.1 q9_.2.2.1 q9_.2.2.2.1 e13 e14
             have c43 := l_eqIntS_cl r12_.2.2.2.2.1 q9_.2.2.2.2.1 e17
             have c44 := l_heldIntS_cl (upto ((1 : Int) + tot r12_.2.2.1 + tot r12_.2.2.2.1) r12_.2.2.2.2.1.length) r34_ e36 e37
             cases h
             simp (maxDischargeDepth := 9) only [↓xpre, xpost, xlst, xcore, yset, ↓reduceIte, Nat.reduceEqDiff, Nat.reduceLT, Nat.reduceAdd, Nat.reduceBEq, c4, e5, c8, c9, e10, c12, c15, e16, c18, e19, e20f, e21f, c23, e24, c26, e27, c31, c33, c34, e35, c38, e39, decide_eq_true e40]
            ·rw [if_neg e40] at h
             cases h
             simp (maxDischargeDepth := 9) only [↓xpre, xpost, xlst, xcore, yset, ↓reduceIte, Nat.reduceEqDiff, Nat.reduceLT, Nat.reduceAdd, Nat.reduceBEq, c4, e5, c8, c9, e10, c12, c15, e16, c18, e19, e20f, e21f, c23, e24, c26, e27, c31, c33, c34, e35, c38, e39, e40]
        ·rw [if_neg e24] at h
         have e24f : (sameP tL tD tN tE tL tD tN tE) = false := Bool.eq_false_iff.mpr e24
         cases h
         simp (maxDischargeDepth := 9) only [↓xpre, xpost, xlst, xcore, yset, ↓reduceIte, Nat.reduceEqDiff, Nat.reduceLT, Nat.reduceAdd, Nat.reduceBEq, c4, e5, c8, c9, e10, c12, c15, e16, c18, e19, e20f, e21f, c23, e24f]
     ·rw [if_neg e19] at h
      have e19f : (decide (r12_.2.2.2.2.1 = q9_.2.2.2.2.1)) = false := Bool.eq_false_iff.mpr e19
      cases h
      simp (maxDischargeDepth := 9) only [↓xpre, xpost, xlst, xcore, yset, ↓reduceIte, Nat.reduceEqDiff, Nat.reduceLT, Nat.reduceAdd, Nat.reduceBEq, c4, e5, c8, c9, e10, c12, c15, e16, c18, e19f]
    ·rw [if_neg e16] at h
     have e16f : (sameP r12_.1 r12_.2.1 r12_.2.2.1 r12_.2.2.2.1 q9_.1 q9_.2.1 q9_.2.2.1 q9_.2.2.2.1) = false := Bool.eq_false_iff.mpr e16
     cases h
     simp (maxDischargeDepth := 9) only [↓xpre, xpost, xlst, xcore, yset, ↓reduceIte, Nat.reduceEqDiff, Nat.reduceLT, Nat.reduceAdd, Nat.reduceBEq, c4, e5, c8, c9, e10, c12, c15, e16f]
   ·rw [if_neg e10] at h
    have e10f : (!q9_.2.2.1.isEmpty) = false := Bool.eq_false_iff.mpr e10
    by_cases e11 : (!q9_.2.2.2.1.isEmpty) = true
    ·skip
     have c12 := l_toProblem_cl tL tD tN tE e6 e7
     obtain ⟨r13_, hl13, h⟩ := bindS h
     try dsimp only at h
     have c13 := i_DropWeaker_call tL tD tN tE hl13
     obtain ⟨e14, h⟩ := ckS h
     obtain ⟨e15, h⟩ := ckS h
     have c16 := l_eqProblem_cl r13_.1 r13_.2.1 r13_.2.2.1 r13_.2.2.2.1 q9_.1 q9_.2.1 q9_.2.2.1 q9_.2.2.2.1 e14 e15
     by_cases e17 : (sameP r13_.1 r13_.2.1 r13_.2.2.1 r13_.2.2.2.1 q9_.1 q9_.2.1 q9_.2.2.1 q9_.2.2.2.1) = true
     ·rw [if_pos e17] at h
      obtain ⟨e18, h⟩ := ckS h
      have c19 := l_eqIntS_cl r13_.2.2.2.2.1 q9_.2.2.2.2.1 e18
      by_cases e20 : (decide (r13_.2.2.2.2.1 = q9_.2.2.2.2.1)) = true
      ·rw [if_pos e20] at h
       by_cases e21 : r13_.2.2.2.2.2 = true
       ·rw [if_pos e21] at h
        by_cases e22 : q9_.2.2.2.2.2 = true
        ·rw [if_pos e22] at h
         have c23 := l_toProblem_cl tL tD tN tE e6 e7
         have c24 := l_eqProblem_cl tL tD tN tE tL tD tN tE e6 e7
         by_cases e25 : (sameP tL tD tN tE tL tD tN tE) = true
         ·rw [if_pos e25] at h
          obtain ⟨e26, h⟩ := ckS h
          have c27 := l_markProblem_cl tL tD tN tE (1 : Int) e6 e7 e26
          by_cases e28 : ((1 : Int) + tot tN + tot tE) < 0
          ·rw [if_pos e28] at h
           cases h
           simp (maxDischargeDepth := 9) only [↓xpre, xpost, xlst, xcore, yset, ↓reduceIte, Nat.reduceEqDiff, Nat.reduceLT, Nat.reduceAdd, Nat.reduceBEq, c4, e5, c8, c9, e10f, e11, c13, c16, e17, c19, e20, e21, e22, c24, e25, c27, e28]
          ·rw [if_neg e28] at h
           have c29 := l_eqProblem_cl r13_.1 r13_.2.1 r13_.2.2.1 r13_.2.2.2.1 q9_.1 q9_.2.1 q9_.2.2.1 q9_.2.2.2.1 e14 e15
           have c30 := l_eqIntS_cl r13_.2.2.2.2.1 q9_.2.2.2.2.1 e18
           obtain ⟨e31, h⟩ := ckS h
           have c32 := l_markProblem_cl r13_.1 r13_.2.1 r13_.2.2.1 r13_.2.2.2.1 (1 : Int) e14 e15 e31
           obtain ⟨e33, h⟩ := ckS h
           have c34 := l_markIntS_cl r13_.2.2.2.2.1 ((1 : Int) + tot r13_.2.2.1 + tot r13_.2.2.2.1) e18 e33
           obtain ⟨r35_, hl35, h⟩ := bindS h
           try dsimp only at h
           have c35 := l_heldProblem_call r13_.1 r13_.2.1 (marks (1 : Int) r13_.2.2.1) (marks ((1 : Int) + tot r13_.2.2.1) r13_.2.2.2.1) (1 : Int) hl35
           by_cases e36 : r35_ < 0
           ·rw [if_pos e36] at h
            cases h
            simp (maxDischargeDepth := 9) only [↓xpre, xpost, xlst, xcore, yset, ↓reduceIte, Nat.reduceEqDiff, Nat.reduceLT, Nat.reduceAdd, Nat.reduceBEq, c4, e5, c8, c9, e10f, e11, c13, c16, e17, c19, e20, e21, e22, c24, e25, c27, e28, c32, c34, c35, e36]
           ·rw [if_neg e36] at h
            obtain ⟨e37, h⟩ := ckS h
            obtain ⟨e38, h⟩ := ckS h
            have c39 := l_heldIntS_cl (upto ((1 : Int) + tot r13_.2.2.1 + tot r13_.2.2.2.1) r13_.2.2.2.2.1.length) r35_ e37 e38
            by_cases e40 : (held r35_ (upto ((1 : Int) + tot r13_.2.2.1 + tot r13_.2.2.2.1) r13_.2.2.2.2.1.length)) < 0
            ·rw [if_pos e40] at h
             cases h
             simp (maxDischargeDepth := 9) only [↓xpre, xpost, xlst, xcore, yset, ↓reduceIte, Nat.reduceEqDiff, Nat.reduceLT, Nat.reduceAdd, Nat.reduceBEq, c4, e5, c8, c9, e10f, e11, c13, c16, e17, c19, e20, e21, e22, c24, e25, c27, e28, c32, c34, c35, e36, c39, e40]
            ·rw [if_neg e40] at h
             by_cases e41 : (held r35_ (upto ((1 : Int) + tot r13_.2.2.1 + tot r13_.2.2.2.1) r13_.2.2.2.2.1.length)) = (((1 : Int) + tot r13_.2.2.1 + tot r13_.2.2.2.1) + r13_.2.2.2.2.1.length)
             ·rw [if_pos e41] at h
              have c42 := l_toProblem_cl tL tD tN tE e6 e7
              have c43 := l_eqProblem_cl r13_.1 r13_.2.1 r13_.2.2.1 r13_.2.2.2.1 q9_.1 q9_.2.1 q9_.2.2.1 q9_.2.2.2.1 e14 e15
              have c44 := l_eqIntS_cl r13_.2.2.2.2.1 q9_.2.2.2.2.1 e18
              have c45 := l_heldIntS_cl (upto ((1 : Int) + tot r13_.2.2.1 + tot r13_.2.2.2.1) r13_.2.2.2.2.1.length) r35_ e37 e38
              cases h
              simp (maxDischargeDepth := 9) only [↓xpre, xpost, xlst, xcore, yset, ↓reduceIte, Nat.reduceEqDiff, Nat.reduceLT, Nat.reduceAdd, Nat.reduceBEq, c4, e5, c8, c9, e10f, e11, c13, c16, e17, c19, e20, e21, e22, c24, e25, c27, e28, c32, c34, c35, e36, c39, e40, decide_eq_true e41]
             ·rw [if_neg e41] at h
              cases h
              simp (maxDischargeDepth := 9) only [↓xpre, xpost, xlst, xcore, yset, ↓reduceIte, Nat.reduceEqDiff, Nat.reduceLT, Nat.reduceAdd, Nat.reduceBEq, c4, e5, c8, c9, e10f, e11, c13, c16, e17, c19, e20, e21, e22, c24, e25, c27, e28, c32, c34, c35, e36, c39, e40, e41]
         ·rw [if_neg e25] at h
          have e25f : (sameP tL tD tN tE tL tD tN tE) = false := Bool.eq_false_iff.mpr e25
          cases h
          simp (maxDischargeDepth := 9) only [↓xpre, xpost, xlst, xcore, yset, ↓reduceIte, Nat.reduceEqDiff, Nat.reduceLT, Nat.reduceAdd, Nat.reduceBEq, c4, e5, c8, c9, e10f, e11, c13, c16, e17, c19, e20, e21, e22, c24, e25f]
        ·rw [if_neg e22] at h
         have e22f : q9_.2.2.2.2.2 = false := Bool.eq_false_iff.mpr e22
         cases h
         simp (maxDischargeDepth := 9) only [↓xpre, xpost, xlst, xcore, yset, ↓reduceIte, Nat.reduceEqDiff, Nat.reduceLT, Nat.reduceAdd, Nat.reduceBEq, c4, e5, c8, c9, e10f, e11, c13, c16, e17, c19, e20, e21, e22f]
       ·rw [if_neg e21] at h
        have e21f : r13_.2.2.2.2.2 = false := Bool.eq_false_iff.mpr e21
        by_cases e22 : q9_.2.2.2.2.2 = true
        ·rw [if_pos e22] at h
         cases h
         simp (maxDischargeDepth := 9) only [↓xpre, xpost, xlst, xcore, yset, ↓reduceIte, Nat.reduceEqDiff, Nat.reduceLT, Nat.reduceAdd, Nat.reduceBEq, c4, e5, c8, c9, e10f, e11, c13, c16, e17, c19, e20, e21f, e22]
        ·rw [if_neg e22] at h
         have e22f : q9_.2.2.2.2.2 = false := Bool.eq_false_iff.mpr e22
         have c23 := l_toProblem_cl tL tD tN tE e6 e7
         have c24 := l_eqProblem_cl tL tD tN tE tL tD tN tE e6 e7
         by_cases e25 : (sameP tL tD tN tE tL tD tN tE) = true
         ·rw [if_pos e25] at h
          obtain ⟨e26, h⟩ := ckS h
          have c27 := l_markProblem_cl tL tD tN tE (1 : Int) e6 e7 e26
          by_cases e28 : ((1 : Int) + tot tN + tot tE) < 0
          ·rw [if_pos e28] at h
           cases h
           simp (maxDischargeDepth := 9) only [↓xpre, xpost, xlst, xcore, yset, ↓reduceIte, Nat.reduceEqDiff, Nat.reduceLT, Nat.reduceAdd, Nat.reduceBEq, c4, e5, c8, c9, e10f, e11, c13, c16, e17, c19, e20, e21f, e22f, c24, e25, c27, e28]
          ·rw [if_neg e28] at h
           have c29 := l_eqProblem_cl r13_.1 r13_.2.1 r13_.2.2.1 r13_.2.2.2.1 q9_.1 q9_.2.1 q9_.2.2.1 q9_.2.2.2.1 e14 e15
           have c30 := l_eqIntS_cl r13_.2.2.2.2.1 q9_.2.2.2.2.1 e18
           obtain ⟨e31, h⟩ := ckS h
           have c32 := l_markProblem_cl r13_.1 r13_.2.1 r13_.2.2.1 r13_.2.2.2.1 (1 : Int) e14 e15 e31
           obtain ⟨e33, h⟩ := ckS h
           have c34 := l_markIntS_cl r13_.2.2.2.2.1 ((1 : Int) + tot r13_.2.2.1 + tot r13_.2.2.2.1) e18 e33
           obtain ⟨r35_, hl35, h⟩ := bindS h
           try dsimp only at h
           have c35 := l_heldProblem_call r13_.1 r13_.2.1 (marks (1 : Int) r13_.2.2.1) (marks ((1 : Int) + tot r13_.2.2.1) r13_.2.2.2.1) (1 : Int) hl35
           by_cases e36 : r35_ < 0
           ·rw [if_pos e36] at h
            cases h
            simp (maxDischargeDepth := 9) only [↓xpre, xpost, xlst, xcore, yset, ↓reduceIte, Nat.reduceEqDiff, Nat.reduceLT, Nat.reduceAdd, Nat.reduceBEq, c4, e5, c8, c9, e10f, e11, c13, c16, e17, c19, e20, e21f, e22f, c24, e25, c27, e28, c32, c34, c35, e36]
           ·rw [if_neg e36] at h
            obtain ⟨e37, h⟩ := ckS h
            obtain ⟨e38, h⟩ := ckS h
            have c39 := l_heldIntS_cl (upto ((1 : Int) + tot r13_.2.2.1 + tot r13_.2.2.2.1) r13_.2.2.2.2.1.length) r35_ e37 e38
            by_cases e40 : (held r35_ (upto ((1 : Int) + tot r13_.2.2.1 + tot r13_.2.2.2.1) r13_.2.2.2.2.1.length)) < 0
            ·rw [if_pos e40] at h
             cases h
             simp (maxDischargeDepth := 9) only [↓xpre, xpost, xlst, xcore, yset, ↓reduceIte, Nat.reduceEqDiff, Nat.reduceLT, Nat.reduceAdd, Nat.reduceBEq, c4, e5, c8, c9, e10f, e11, c13, c16, e17, c19, e20, e21f, e22f, c24, e25, c27, e28, c32, c34, c35, e36, c39, e40]
            ·rw [if_neg e40] at h
             by_cases e41 : (held r35_ (upto ((1 : Int) + tot r13_.2.2.1 + tot r13_.2.2.2.1) r13_.2.2.2.2.1.length)) = (((1 : Int) + tot r13_.2.2.1 + tot r13_.2.2.2.1) + r13_.2.2.2.2.1.length)
             ·rw [if_pos e41] at h
              have c42 := l_toProblem_cl tL tD tN tE e6 e7
              have c43 := l_eqProblem_cl r13_.1 r13_.2.1 r13_.2.2.1 r13_.2.2.2.1 q9_.1 q9_.2.1 q9_.2.2.1 q9_.2.2.2.1 e14 e15
              have c44 := l_eqIntS_cl r13_.2.2.2.2.1 q9_.2.2.2.2.1 e18
              have c45 := l_heldIntS_cl (upto ((1 : Int) + tot r13_.2.2.1 + tot r13_.2.2.2.1) r13_.2.2.2.2.1.length) r35_ e37 e38
              cases h
              simp (maxDischargeDepth := 9) only [↓xpre, xpost, xlst, xcore, yset, ↓reduceIte, Nat.reduceEqDiff, Nat.reduceLT, Nat.reduceAdd, Nat.reduceBEq, c4, e5, c8, c9, e10f, e11, c13, c16, e17, c19, e20, e21f, e22f, c24, e25, c27, e28, c32, c34, c35, e36, c39, e40, decide_eq_true e41]
             ·rw [if_neg e41] at h
              cases h
              simp (maxDischargeDepth := 9) only [↓xpre, xpost, xlst, xcore, yset, ↓reduceIte, Nat.reduceEqDiff, Nat.reduceLT, Nat.reduceAdd, Nat.reduceBEq, c4, e5, c8, c9, e10f, e11, c13, c16, e17, c19, e20, e21f, e22f, c24, e25, c27, e28, c32, c34, c35, e36, c39, e40, e41]
         ·rw [if_neg e25] at h
          have e25f : (sameP tL tD tN tE tL tD tN tE) = false := Bool.eq_false_iff.mpr e25
          cases h
          simp (maxDischargeDepth := 9) only [↓xpre, xpost, xlst, xcore, yset, ↓reduceIte, Nat.reduceEqDiff, Nat.reduceLT, Nat.reduceAdd, Nat.reduceBEq, c4, e5, c8, c9, e10f, e11, c13, c16, e17, c19, e20, e21f, e22f, c24, e25f]
      ·rw [if_neg e20] at h
       have e20f : (decide (r13_.2.2.2.2.1 = q9_.2.2.2.2.1)) = false := Bool.eq_false_iff.mpr e20
       cases h
       simp (maxDischargeDepth := 9) only [↓xpre, xpost, xlst, xcore, yset, ↓reduceIte, Nat.reduceEqDiff, Nat.reduceLT, Nat.reduceAdd, Nat.reduceBEq, c4, e5, c8, c9, e10f, e11, c13, c16, e17, c19, e20f]
     ·rw [if_neg e17] at h
      have e17f : (sameP r13_.1 r13_.2.1 r13_.2.2.1 r13_.2.2.2.1 q9_.1 q9_.2.1 q9_.2.2.1 q9_.2.2.2.1) = false := Bool.eq_false_iff.mpr e17
      cases h
      simp (maxDischargeDepth := 9) only [↓xpre, xpost, xlst, xcore, yset, ↓reduceIte, Nat.reduceEqDiff, Nat.reduceLT, Nat.reduceAdd, Nat.reduceBEq, c4, e5, c8, c9, e10f, e11, c13, c16, e17f]
    ·skip
     have e11f : (!q9_.2.2.2.1.isEmpty) = false := Bool.eq_false_iff.mpr e11
     have c12 := l_toProblem_cl tL tD tN tE e6 e7
     obtain ⟨r13_, hl13, h⟩ := bindS h
     try dsimp only at h
     have c13 := i_DropWeaker_call tL tD tN tE hl13
     obtain ⟨e14, h⟩ := ckS h
     obtain ⟨e15, h⟩ := ckS h
     have c16 := l_eqProblem_cl r13_.1 r13_.2.1 r13_.2.2.1 r13_.2.2.2.1 q9_.1 q9_.2.1 q9_.2.2.1 q9_.2.2.2.1 e14 e15
     by_cases e17 : (sameP r13_.1 r13_.2.1 r13_.2.2.1 r13_.2.2.2.1 q9_.1 q9_.2.1 q9_.2.2.1 q9_.2.2.2.1) = true
     ·rw [if_pos e17] at h
      obtain ⟨e18, h⟩ := ckS h
      have c19 := l_eqIntS_cl r13_.2.2.2.2.1 q9_.2.2.2.2.1 e18
      by_cases e20 : (decide (r13_.2.2.2.2.1 = q9_.2.2.2.2.1)) = true
      ·rw [if_pos e20] at h
       by_cases e21 : r13_.2.2.2.2.2 = true
       ·rw [if_pos e21] at h
        by_cases e22 : q9_.2.2.2.2.2 = true
        ·rw [if_pos e22] at h
         have c23 := l_toProblem_cl tL tD tN tE e6 e7
         have c24 := l_eqProblem_cl tL tD tN tE tL tD tN tE e6 e7
         by_cases e25 : (sameP tL tD tN tE tL tD tN tE) = true
         ·rw [if_pos e25] at h
          obtain ⟨e26, h⟩ := ckS h
          have c27 := l_markProblem_cl tL tD tN tE (1 : Int) e6 e7 e26
          by_cases e28 : ((1 : Int) + tot tN + tot tE) < 0
          ·rw [if_pos e28] at h
           cases h
           simp (maxDischargeDepth := 9) only [↓xpre, xpost, xlst, xcore, yset, ↓reduceIte, Nat.reduceEqDiff, Nat.reduceLT, Nat.reduceAdd, Nat.reduceBEq, c4, e5, c8, c9, e10f, e11f, c13, c16, e17, c19, e20, e21, e22, c24, e25, c27, e28]
          ·rw [if_neg e28] at h
           have c29 := l_eqProblem_cl r13_.1 r13_.2.1 r13_.2.2.1 r13_.2.2.2.1 q9_.1 q9_.2.1 q9_.2.2.1 q9_.2.2.2.1 e14 e15
           have c30 := l_eqIntS_cl r13_.2.2.2.2.1 q9_.2.2.2.2.1 e18
           obtain ⟨e31, h⟩ := ckS h
           have c32 := l_markProblem_cl r13_.1 r13_.2.1 r13_.2.2.1 r13_.2.2.2.1 (1 : Int) e14 e15 e31
           obtain ⟨e33, h⟩ := ckS h
           have c34 := l_markIntS_cl r13_.2.2.2.2.1 ((1 : Int) + tot r13_.2.2.1 + tot r13_.2.2.2.1) e18 e33
           obtain ⟨r35_, hl35, h⟩ := bindS h
           try dsimp only at h
           have c35 := l_heldProblem_call r13_.1 r13_.2.1 (marks (1 : Int) r13_.2.2.1) (marks ((1 : Int) + tot r13_.2.2.1) r13_.2.2.2.1) (1 : Int) hl35
           by_cases e36 : r35_ < 0
           ·rw [if_pos e36] at h
            cases h
            simp (maxDischargeDepth := 9) only [↓xpre, xpost, xlst, xcore, yset, ↓reduceIte, Nat.reduceEqDiff, Nat.reduceLT, Nat.reduceAdd, Nat.reduceBEq, c4, e5, c8, c9, e10f, e11f, c13, c16, e17, c19, e20, e21, e22, c24, e25, c27, e28, c32, c34, c35, e36]
           ·rw [if_neg e36] at h
            obtain ⟨e37, h⟩ := ckS h
            obtain ⟨e38, h⟩ := ckS h
            have c39 := l_heldIntS_cl (upto ((1 : Int) + tot r13_.2.2.1 + tot r13_.2.2.2.1) r13_.2.2.2.2.1.length) r35_ e37 e38
            by_cases e40 : (held r35_ (upto ((1 : Int) + tot r13_.2.2.1 + tot r13_.2.2.2.1) r13_.2.2.2.2.1.length)) < 0
            ·rw [if_pos e40] at h
             cases h
             simp (maxDischargeDepth := 9) only [↓xpre, xpost, xlst, xcore, yset, ↓reduceIte, Nat.reduceEqDiff, Nat.reduceLT, Nat.reduceAdd, Nat.reduceBEq, c4, e5, c8, c9, e10f, e11f, c13, c16, e17, c19, e20, e21, e22, c24, e25, c27, e28, c32, c34, c35, e36, c39, e40]
            ·rw [if_neg e40] at h
             by_cases e41 : (held r35_ (upto ((1 : Int) + tot r13_.2.2.1 + tot r13_.2.2.2.1) r13_.2.2.2.2.1.length)) = (((1 : Int) + tot r13_.2.2.1 + tot r13_.2.2.2.1) + r13_.2.2.2.2.1.length)
             ·rw [if_pos e41] at h
              have c42 := l_toProblem_cl tL tD tN tE e6 e7
              have c43 := l_eqProblem_cl r13_.1 r13_.2.1 r13_.2.2.1 r13_.2.2.2.1 q9_.1 q9_.2.1 q9_.2.2.1 q9_.2.2.2.1 e14 e15
              have c44 := l_eqIntS_cl r13_.2.2.2.2.1 q9_.2.2.2.2.1 e18
              have c45 := l_heldIntS_cl (upto ((1 : Int) + tot r13_.2.2.1 + tot r13_.2.2.2.1) r13_.2.2.2.2.1.length) r35_ e37 e38
              cases h
              simp (maxDischargeDepth := 9) only [↓xpre, xpost, xlst, xcore, yset, ↓reduceIte, Nat.reduceEqDiff, Nat.reduceLT, Nat.reduceAdd, Nat.reduceBEq, c4, e5, c8, c9, e10f, e11f, c13, c16, e17, c19, e20, e21, e22, c24, e25, c27, e28, c32, c34, c35, e36, c39, e40, decide_eq_true e41]
             ·rw [if_neg e41] at h
              cases h
              simp (maxDischargeDepth := 9) only [↓xpre, xpost, xlst, xcore, yset, ↓reduceIte, Nat.reduceEqDiff, Nat.reduceLT, Nat.reduceAdd, Nat.reduceBEq, c4, e5, c8, c9, e10f, e11f, c13, c16, e17, c19, e20, e21, e22, c24, e25, c27, e28, c32, c34, c35, e36, c39, e40, e41]
         ·rw [if_neg e25] at h
          have e25f : (sameP tL tD tN tE tL tD tN tE) = false := Bool.eq_false_iff.mpr e25
          cases h
          simp (maxDischargeDepth := 9) only [↓xpre, xpost, xlst, xcore, yset, ↓reduceIte, Nat.reduceEqDiff, Nat.reduceLT, Nat.reduceAdd, Nat.reduceBEq, c4, e5, c8, c9, e10f, e11f, c13, c16, e17, c19, e20, e21, e22, c24, e25f]
        ·rw [if_neg e22] at h
         have e22f : q9_.2.2.2.2.2 = false := Bool.eq_false_iff.mpr e22
         cases h
         simp (maxDischargeDepth := 9) only [↓xpre, xpost, xlst, xcore, yset, ↓reduceIte, Nat.reduceEqDiff, Nat.reduceLT, Nat.reduceAdd, c4, e5, c8, c9, e10f, e11f, c13, c16, e17, c19, e20, e21, e22f]
       ·rw [if_neg e21] at h
        have e21f : r13_.2.2.2.2.2 = false := Bool.eq_false_iff.mpr e21
        by_cases e22 : q9_.2.2.2.2.2 = true
        ·rw [if_pos e22] at h
         cases h
         simp (maxDischargeDepth := 9) only [↓xpre, xpost, xlst, xcore, yset, ↓reduceIte, Nat.reduceEqDiff, Nat.reduceLT, Nat.reduceAdd, c4, e5, c8, c9, e10f, e11f, c13, c16, e17, c19, e20, e21f, e22]
        ·rw [if_neg e22] at h
         have e22f : q9_.2.2.2.2.2 = false := Bool.eq_false_iff.mpr e22
         have c23 := l_toProblem_cl tL tD tN tE e6 e7
         have c24 := l_eqProblem_cl tL tD tN tE tL tD tN tE e6 e7
         by_cases e25 : (sameP tL tD tN tE tL tD tN tE) = true
         ·rw [if_pos e25] at h
          obtain ⟨e26, h⟩ := ckS h
          have c27 := l_markProblem_cl tL tD tN tE (1 : Int) e6 e7 e26
          by_cases e28 : ((1 : Int) + tot tN + tot tE) < 0
          ·rw [if_pos e28] at h
           cases h
           simp (maxDischargeDepth := 9) only [↓xpre, xpost, xlst, xcore, yset, ↓reduceIte, Nat.reduceEqDiff, Nat.reduceLT, Nat.reduceAdd, Nat.reduceBEq, c4, e5, c8, c9, e10f, e11f, c13, c16, e17, c19, e20, e21f, e22f, c24, e25, c27, e28]
          ·rw [if_neg e28] at h
           have c29 := l_eqProblem_cl r13_.1 r13_.2.1 r13_.2.2.1 r13_.2.2.2.1 q9_.1 q9_.2.1 q9_.2.2.1 q9_.2.2.2.1 e14 e15
           have c30 := l_eqIntS_cl r13_.2.2.2.2.1 q9_.2.2.2.2.1 e18
           obtain ⟨e31, h⟩ := ckS h
           have c32 := l_markProblem_cl r13_.1 r13_.2.1 r13_.2.2.1 r13_.2.2.2.1 (1 : Int) e14 e15 e31
           obtain ⟨e33, h⟩ := ckS h
           have c34 := l_markIntS_cl r13_.2.2.2.2.1 ((1 : Int) + tot r13_.2.2.1 + tot r13_.2.2.2.1) e18 e33
           obtain ⟨r35_, hl35, h⟩ := bindS h
           try dsimp only at h
           have c35 := l_heldProblem_call r13_.1 r13_.2.1 (marks (1 : Int) r13_.2.2.1) (marks ((1 : Int) + tot r13_.2.2.1) r13_.2.2.2.1) (1 : Int) hl35
           by_cases e36 : r35_ < 0
           ·rw [if_pos e36] at h
            cases h
            simp (maxDischargeDepth := 9) only [↓xpre, xpost, xlst, xcore, yset, ↓reduceIte, Nat.reduceEqDiff, Nat.reduceLT, Nat.reduceAdd, Nat.reduceBEq, c4, e5, c8, c9, e10f, e11f, c13, c16, e17, c19, e20, e21f, e22f, c24, e25, c27, e28, c32, c34, c35, e36]
           ·rw [if_neg e36] at h
            obtain ⟨e37, h⟩ := ckS h
            obtain ⟨e38, h⟩ := ckS h
            have c39 := l_heldIntS_cl (upto ((1 : Int) + tot r13_.2.2.1 + tot r13_.2.2.2.1) r13_.2.2.2.2.1.length) r35_ e37 e38
            by_cases e40 : (held r35_ (upto ((1 : Int) + tot r13_.2.2.1 + tot r13_.2.2.2.1) r13_.2.2.2.2.1.length)) < 0
            ·rw [if_pos e40] at h
             cases h
             simp (maxDischargeDepth := 9) only [↓xpre, xpost, xlst, xcore, yset, ↓reduceIte, Nat.reduceEqDiff, Nat.reduceLT, Nat.reduceAdd, Nat.reduceBEq, c4, e5, c8, c9, e10f, e11f, c13, c16, e17, c19, e20, e21f, e22f, c24, e25, c27, e28, c32, c34, c35, e36, c39, e40]
            ·rw [if_neg e40] at h
             by_cases e41 : (held r35_ (upto ((1 : Int) + tot r13_.2.2.1 + tot r13_.2.2.2.1) r13_.2.2.2.2.1.length)) = (((1 : Int) + tot r13_.2.2.1 + tot r13_.2.2.2.1) + r13_.2.2.2.2.1.length)
             ·rw [if_pos e41] at h
              have c42 := l_toProblem_cl tL tD tN tE e6 e7
              have c43 := l_eqProblem_cl r13_.1 r13_.2.1 r13_.2.2.1 r13_.2.2.2.1 q9_.1 q9_.2.1 q9_.2.2.1 q9_.2.2.2.1 e14 e15
              have c44 := l_eqIntS_cl r13_.2.2.2.2.1 q9_.2.2.2.2.1 e18
              have c45 := l_heldIntS_cl (upto ((1 : Int) + tot r13_.2.2.1 + tot r13_.2.2.2.1) r13_.2.2.2.2.1.length) r35_ e37 e38
              cases h
              simp (maxDischargeDepth := 9) only [↓xpre, xpost, xlst, xcore, yset, ↓reduceIte, Nat.reduceEqDiff, Nat.reduceLT, Nat.reduceAdd, Nat.reduceBEq, c4, e5, c8, c9, e10f, e11f, c13, c16, e17, c19, e20, e21f, e22f, c24, e25, c27, e28, c32, c34, c35, e36, c39, e40, decide_eq_true e41]
             ·rw [if_neg e41] at h
              cases h
              simp (maxDischargeDepth := 9) only [↓xpre, xpost, xlst, xcore, yset, ↓reduceIte, Nat.reduceEqDiff, Nat.reduceLT, Nat.reduceAdd, Nat.reduceBEq, c4, e5, c8, c9, e10f, e11f, c13, c16, e17, c19, e20, e21f, e22f, c24, e25, c27, e28, c32, c34, c35, e36, c39, e40, e41]
         ·rw [if_neg e25] at h
          have e25f : (sameP tL tD tN tE tL tD tN tE) = false := Bool.eq_false_iff.mpr e25
          cases h
          simp (maxDischargeDepth := 9) only [↓xpre, xpost, xlst, xcore, yset, ↓reduceIte, Nat.reduceEqDiff, Nat.reduceLT, Nat.reduceAdd, Nat.reduceBEq, c4, e5, c8, c9, e10f, e11f, c13, c16, e17, c19, e20, e21f, e22f, c24, e25f]
      ·rw [if_neg e20] at h
       have e20f : (decide (r13_.2.2.2.2.1 = q9_.2.2.2.2.1)) = false := Bool.eq_false_iff.mpr e20
       cases h
       simp (maxDischargeDepth := 9) only [↓xpre, xpost, xlst, xcore, yset, ↓reduceIte, Nat.reduceEqDiff, Nat.reduceLT, Nat.reduceAdd, c4, e5, c8, c9, e10f, e11f, c13, c16, e17, c19, e20f]
     ·rw [if_neg e17] at h
      have e17f : (sameP r13_.1 r13_.2.1 r13_.2.2.1 r13_.2.2.2.1 q9_.1 q9_.2.1 q9_.2.2.1 q9_.2.2.2.1) = false := Bool.eq_false_iff.mpr e17
      cases h
      simp (maxDischargeDepth := 9) only [↓xpre, xpost, xlst, xcore, yset, ↓reduceIte, Nat.reduceEqDiff, Nat.reduceLT, Nat.reduceAdd, c4, e5, c8, c9, e10f, e11f, c13, c16, e17f]
  ·dsimp only at h c9
   have c18 := l_toProblem_cl tL tD tN tE e6 e7
   obtain ⟨r19_, hl19, h⟩ := bindS h
   try dsimp only at h
   have c19 := i_DropWeaker_call tL tD tN tE hl19
   obtain ⟨e20, h⟩ := ckS h
   obtain ⟨e21, h⟩ := ckS h
   have c22 := l_eqProblem_cl r19_.1 r19_.2.1 r19_.2.2.1 r19_.2.2.2.1 q9_.1 q9_.2.1 q9_.2.2.1 q9_.2.2.2.1 e20 e21
   by_cases e23 : (sameP r19_.1 r19_.2.1 r19_.2.2.1 r19_.2.2.2.1 q9_.1 q9_.2.1 q9_.2.2.1 q9_.2.2.2.1) = true
   ·rw [if_pos e23] at h
    obtain ⟨e24, h⟩ := ckS h
    have c25 := l_eqIntS_cl r19_.2.2.2.2.1 q9_.2.2.2.2.1 e24
    by_cases e26 : (decide (r19_.2.2.2.2.1 = q9_.2.2.2.2.1)) = true
    ·rw [if_pos e26] at h
     by_cases e27 : r19_.2.2.2.2.2 = true
     ·rw [if_pos e27] at h
      by_cases e28 : q9_.2.2.2.2.2 = true
      ·rw [if_pos e28] at h
       have c29 := l_toProblem_cl tL tD tN tE e6 e7
       have c30 := l_eqProblem_cl tL tD tN tE tL tD tN tE e6 e7
       by_cases e31 : (sameP tL tD tN tE tL tD tN tE) = true
       ·rw [if_pos e31] at h
        obtain ⟨e32, h⟩ := ckS h
        have c33 := l_markProblem_cl tL tD tN tE (1 : Int) e6 e7 e32
        by_cases e34 : ((1 : Int) + tot tN + tot tE) < 0
        ·rw [if_pos e34] at h
         cases h
         simp (maxDischargeDepth := 9) only [↓xpre, xpost, xlst, xcore, yset, ↓reduceIte, Nat.reduceEqDiff, Nat.reduceLT, Nat.reduceAdd, Nat.reduceBEq, c4, e5, c8, c9, c19, c22, e23, c25, e26, e27, e28, c30, e31, c33, e34]
        ·rw [if_neg e34] at h
         have c35 := l_eqProblem_cl r19_.1 r19_.2.1 r19_.2.2.1 r19_.2.2.2.1 q9_.1 q9_.2.1 q9_.2.2.1 q9_.2.2.2.1 e20 e21
         have c36 := l_eqIntS_cl r19_.2.2.2.2.1 q9_.2.2.2.2.1 e24
         obtain ⟨e37, h⟩ := ckS h
         have c38 := l_markProblem_cl r19_.1 r19_.2.1 r19_.2.2.1 r19_.2.2.2.1 (1 : Int) e20 e21 e37
         obtain ⟨e39, h⟩ := ckS h
         have c40 := l_markIntS_cl r19_.2.2.2.2.1 ((1 : Int) + tot r19_.2.2.1 + tot r19_.2.2.2.1) e24 e39
         obtain ⟨r41_, hl41, h⟩ := bindS h
         try dsimp only at h
         have c41 := l_heldProblem_call r19_.1 r19_.2.1 (marks (1 : Int) r19_.2.2.1) (marks ((1 : Int) + tot r19_.2.2.1) r19_.2.2.2.1) (1 : Int) hl41
         by_cases e42 : r41_ < 0
         ·rw [if_pos e42] at h
          cases h
          simp (maxDischargeDepth := 9) only [↓xpre, xpost, xlst, xcore, yset, ↓reduceIte, Nat.reduceEqDiff, Nat.reduceLT, Nat.reduceAdd, Nat.reduceBEq, c4, e5, c8, c9, c19, c22, e23, c25, e26, e27, e28, c30, e31, c33, e34, c38, c40, c41, e42]
         ·rw [if_neg e42] at h
          obtain ⟨e43, h⟩ := ckS h
          obtain ⟨e44, h⟩ := ckS h
          have c45 := l_heldIntS_cl (upto ((1 : Int) + tot r19_.2.2.1 + tot r19_.2.2.2.1) r19_.2.2.2.2.1.length) r41_ e43 e44
          by_cases e46 : (held r41_ (upto ((1 : Int) + tot r19_.2.2.1 + tot r19_.2.2.2.1) r19_.2.2.2.2.1.length)) < 0
          ·rw [if_pos e46] at h
           cases h
           simp (maxDischargeDepth := 9) only [↓xpre, xpost, xlst, xcore, yset, ↓reduceIte, Nat.reduceEqDiff, Nat.reduceLT, Nat.reduceAdd, Nat.reduceBEq, c4, e5, c8, c9, c19, c22, e23, c25, e26, e27, e28, c30, e31, c33, e34, c38, c40, c41, e42, c45, e46]
          ·rw [if_neg e46] at h
           by_cases e47 : (held r41_ (upto ((1 : Int) + tot r19_.2.2.1 + tot r19_.2.2.2.1) r19_.2.2.2.2.1.length)) = (((1 : Int) + tot r19_.2.2.1 + tot r19_.2.2.2.1) + r19_.2.2.2.2.1.length)
           ·rw [if_pos e47] at h
            have c48 := l_toProblem_cl tL tD tN tE e6 e7
            have c49 := l_eqProblem_cl r19_.1 r19_.2.1 r19_.2.2.1 r19_.2.2.2.1 q9_.1 q9_.2.1 q9_.2.2.1 q9_.2.2.2.1 e20 e21
            have c50 := l_eqIntS_cl r19_.2.2.2.2.1 q9_.2.2.2.2.1 e24
            have c51 := l_heldIntS_cl (upto ((1 : Int) + tot r19_.2.2.1 + tot r19_.2.2.2.1) r19_.2.2.2.2.1.length) r41_ e43 e44
            cases h
            simp (maxDischargeDepth := 9) only [↓xpre, xpost, xlst, xcore, yset, ↓reduceIte, Nat.reduceEqDiff, Nat.reduceLT, Nat.reduceAdd, Nat.reduceBEq, c4, e5, c8, c9, c19, c22, e23, c25, e26, e27, e28, c30, e31, c33, e34, c38, c40, c41, e42, c45, e46, decide_eq_true e47]
           ·rw [if_neg e47] at h
            cases h
            simp (maxDischargeDepth := 9) only [↓xpre, xpost, xlst, xcore, yset, ↓reduceIte, Nat.reduceEqDiff, Nat.reduceLT, Nat.reduceAdd, Nat.reduceBEq, c4, e5, c8, c9, c19, c22, e23, c25, e26, e27, e28, c30, e31, c33, e34, c38, c40, c41, e42, c45, e46, e47]
       ·rw [if_neg e31] at h
        have e31f : (sameP tL tD tN tE tL tD tN tE) = false := Bool.eq_false_iff.mpr e31
        cases h
        simp (maxDischargeDepth := 9) only [↓xpre, xpost, xlst, xcore, yset, ↓reduceIte, Nat.reduceEqDiff, Nat.reduceLT, Nat.reduceAdd, Nat.reduceBEq, c4, e5, c8, c9, c19, c22, e23, c25, e26, e27, e28, c30, e31f]
      ·rw [if_neg e28] at h
       have e28f : q9_.2.2.2.2.2 = false := Bool.eq_false_iff.mpr e28
       cases h
       simp (maxDischargeDepth := 9) only [↓xpre, xpost, xlst, xcore, yset, ↓reduceIte, Nat.reduceEqDiff, Nat.reduceLT, Nat.reduceAdd, c4, e5, c8, c9, c19, c22, e23, c25, e26, e27, e28f]
     ·rw [if_neg e27] at h
      have e27f : r19_.2.2.2.2.2 = false := Bool.eq_false_iff.mpr e27
      by_cases e28 : q9_.2.2.2.2.2 = true
      ·rw [if_pos e28] at h
       cases h
       simp (maxDischargeDepth := 9) only [↓xpre, xpost, xlst, xcore, yset, ↓reduceIte, Nat.reduceEqDiff, Nat.reduceLT, Nat.reduceAdd, c4, e5, c8, c9, c19, c22, e23, c25, e26, e27f, e28]
      ·rw [if_neg e28] at h
       have e28f : q9_.2.2.2.2.2 = false := Bool.eq_false_iff.mpr e28
       have c29 := l_toProblem_cl tL tD tN tE e6 e7
       have c30 := l_eqProblem_cl tL tD tN tE tL tD tN tE e6 e7
       by_cases e31 : (sameP tL tD tN tE tL tD tN tE) = true
       ·rw [if_pos e31] at h
        obtain ⟨e32, h⟩ := ckS h
        have c33 := l_markProblem_cl tL tD tN tE (1 : Int) e6 e7 e32
        by_cases e34 : ((1 : Int) + tot tN + tot tE) < 0
        ·rw [if_pos e34] at h
         cases h
         simp (maxDischargeDepth := 9) only [↓xpre, xpost, xlst, xcore, yset, ↓reduceIte, Nat.reduceEqDiff, Nat.reduceLT, Nat.reduceAdd, Nat.reduceBEq, c4, e5, c8, c9, c19, c22, e23, c25, e26, e27f, e28f, c30, e31, c33, e34]
        ·rw [if_neg e34] at h
         have c35 := l_eqProblem_cl r19_.1 r19_.2.1 r19_.2.2.1 r19_.2.2.2.1 q9_.1 q9_.2.1 q9_.2.2.1 q9_.2.2.2.1 e20 e21
         have c36 := l_eqIntS_cl r19_.2.2.2.2.1 q9_.2.2.2.2.1 e24
         obtain ⟨e37, h⟩ := ckS h
         have c38 := l_markProblem_cl r19_.1 r19_.2.1 r19_.2.2.1 r19_.2.2.2.1 (1 : Int) e20 e21 e37
         obtain ⟨e39, h⟩ := ckS h
         have c40 := l_markIntS_cl r19_.2.2.2.2.1 ((1 : Int) + tot r19_.2.2.1 + tot r19_.2.2.2.1) e24 e39
         obtain ⟨r41_, hl41, h⟩ := bindS h
         try dsimp only at h
         have c41 := l_heldProblem_call r19_.1 r19_.2.1 (marks (1 : Int) r19_.2.2.1) (marks ((1 : Int) + tot r19_.2.2.1) r19_.2.2.2.1) (1 : Int) hl41
         by_cases e42 : r41_ < 0
         ·rw [if_pos e42] at h
          cases h
          simp (maxDischargeDepth := 9) only [↓xpre, xpost, xlst, xcore, yset, ↓reduceIte, Nat.reduceEqDiff, Nat.reduceLT, Nat.reduceAdd, Nat.reduceBEq, c4, e5, c8, c9, c19, c22, e23, c25, e26, e27f, e28f, c30, e31, c33, e34, c38, c40, c41, e42]
         ·rw [if_neg e42] at h
          obtain ⟨e43, h⟩ := ckS h
          obtain ⟨e44, h⟩ := ckS h
          have c45 := l_heldIntS_cl (upto ((1 : Int) + tot r19_.2.2.1 + tot r19_.2.2.2.1) r19_.2.2.2.2.1.length) r41_ e43 e44
          by_cases e46 : (held r41_ (upto ((1 : Int) + tot r19_.2.2.1 + tot r19_.2.2.2.1) r19_.2.2.2.2.1.length)) < 0
          ·rw [if_pos e46] at h
           cases h
           simp (maxDischargeDepth := 9) only [↓xpre, xpost, xlst, xcore, yset, ↓reduceIte, Nat.reduceEqDiff, Nat.reduceLT, Nat.reduceAdd, Nat.reduceBEq, c4, e5, c8, c9, c19, c22, e23, c25, e26, e27f, e28f, c30, e31, c33, e34, c38, c40, c41, e42, c45, e46]
          ·rw [if_neg e46] at h
           by_cases e47 : (held r41_ (upto ((1 : Int) + tot r19_.2.2.1 + tot r19_.2.2.2.1) r19_.2.2.2.2.1.length)) = (((1 : Int) + tot r19_.2.2.1 + tot r19_.2.2.2.1) + r19_.2.2.2.2.1.length)
           ·rw [if_pos e47] at h
            have c48 := l_toProblem_cl tL tD tN tE e6 e7
            have c49 := l_eqProblem_cl r19_.1 r19_.2.1 r19_.2.2.1 r19_.2.2.2.1 q9_.1 q9_.2.1 q9_.2.2.1 q9_.2.2.2.1 e20 e21
            have c50 := l_eqIntS_cl r19_.2.2.2.2.1 q9_.2.2.2.2.1 e24
            have c51 := l_heldIntS_cl (upto ((1 : Int) + tot r19_.2.2.1 + tot r19_.2.2.2.1) r19_.2.2.2.2.1.length) r41_ e43 e44
            cases h
            simp (maxDischargeDepth := 9) only [↓xpre, xpost, xlst, xcore, yset, ↓reduceIte, Nat.reduceEqDiff, Nat.reduceLT, Nat.reduceAdd, Nat.reduceBEq, c4, e5, c8, c9, c19, c22, e23, c25, e26, e27f, e28f, c30, e31, c33, e34, c38, c40, c41, e42, c45, e46, decide_eq_true e47]
           ·rw [if_neg e47] at h
            cases h
            simp (maxDischargeDepth := 9) only [↓xpre, xpost, xlst, xcore, yset, ↓reduceIte, Nat.reduceEqDiff, Nat.reduceLT, Nat.reduceAdd, Nat.reduceBEq, c4, e5, c8, c9, c19, c22, e23, c25, e26, e27f, e28f, c30, e31, c33, e34, c38, c40, c41, e42, c45, e46, e47]
       ·rw [if_neg e31] at h
        have e31f : (sameP tL tD tN tE tL tD tN tE) = false := Bool.eq_false_iff.mpr e31
        cases h
        simp (maxDischargeDepth := 9) only [↓xpre, xpost, xlst, xcore, yset, ↓reduceIte, Nat.reduceEqDiff, Nat.reduceLT, Nat.reduceAdd, Nat.reduceBEq, c4, e5, c8, c9, c19, c22, e23, c25, e26, e27f, e28f, c30, e31f]
    ·rw [if_neg e26] at h
     have e26f : (decide (r19_.2.2.2.2.1 = q9_.2.2.2.2.1)) = false := Bool.eq_false_iff.mpr e26
     cases h
     simp (maxDischargeDepth := 9) only [↓xpre, xpost, xlst, xcore, yset, ↓reduceIte, Nat.reduceEqDiff, Nat.reduceLT, Nat.reduceAdd, c4, e5, c8, c9, c19, c22, e23, c25, e26f]
   ·rw [if_neg e23] at h
    have e23f : (sameP r19_.1 r19_.2.1 r19_.2.2.1 r19_.2.2.2.1 q9_.1 q9_.2.1 q9_.2.2.1 q9_.2.2.2.1) = false := Bool.eq_false_iff.mpr e23
    cases h
    simp (maxDischargeDepth := 9) only [↓xpre, xpost, xlst, xcore, yset, ↓reduceIte, Nat.reduceEqDiff, Nat.reduceLT, Nat.reduceAdd, c4, e5, c8, c9, c19, c22, e23f]


end Go.Proofs.YtdjfaadpmbkcmaaGreat
