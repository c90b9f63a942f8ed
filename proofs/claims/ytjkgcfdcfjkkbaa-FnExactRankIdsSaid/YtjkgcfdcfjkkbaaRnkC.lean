/- Ranks of identifiers: the law, lifted. Conditions: none. -/
import Derived.Test.YtjkgcfdcfjkkbaaL6
import Derived.Test.YtjkgcfdcfjkkbaaRnkA
import Derived.Test.YtjkgcfdcfjkkbaaNmk
namespace Go.Proofs.Ytjkgcfdcfjkkbaa
open Go Dv
set_option linter.unusedSimpArgs false
set_option linter.unusedVariables false
set_option maxRecDepth 100000
set_option maxHeartbeats 4000000

noncomputable def l_FnExactRankIds (t0_Ends : List (List (Int × Int))) (t0_Ids : List Int) (t0_Inputs : List Int) : Option (Bool) :=
  ck (WideE t0_Ends) <|
  ck (t0_Ids.length < 9223372036854775808) <|
  ck (t0_Inputs.length < 9223372036854775808) <|
  ck (0 ≤ (1048576 : Int) ∧ (1048576 : Int) ≤ 1048576) <|
  if (szW (1048576 : Int) t0_Ends t0_Ids t0_Inputs) < 0 then
    some true
  else
    ck (ShortE t0_Ends) <|
    ck (t0_Ids.length < 1099511627776) <|
    ck (t0_Inputs.length < 1099511627776) <|
    (s_RankIds t0_Ends t0_Ids t0_Inputs).bind fun r11_ =>
    (i_RankIds t0_Ends t0_Ids t0_Inputs).bind fun r13_ =>
    ck (ShortE r13_.1) <|
    ck (r13_.2.1.length < 1099511627776) <|
    ck (r13_.2.2.1.length < 1099511627776) <|
    if (sameN r13_.1 r13_.2.1 r13_.2.2.1 r11_.1 r11_.2.1 r11_.2.2.1) = true then
      if r13_.2.2.2 = true then
        if r11_.2.2.2 = true then
          if (sameN t0_Ends t0_Ids t0_Inputs t0_Ends t0_Ids t0_Inputs) = true then
            ck (0 ≤ (1 : Int) ∧ (1 : Int) + 2 * tot (fE t0_Ends) + t0_Ids.length + t0_Inputs.length < 1099511627776) <|
            if ((1 : Int) + 2 * tot (fE t0_Ends) + t0_Ids.length + t0_Inputs.length) < 0 then
              some false
            else
              ck (0 ≤ (1 : Int) ∧ (1 : Int) + 2 * tot (fE r13_.1) + r13_.2.1.length + r13_.2.2.1.length < 1099511627776) <|
              (l_heldNetwork (marksE (1 : Int) r13_.1) (upto ((1 : Int) + 2 * tot (fE r13_.1)) r13_.2.1.length) (upto ((1 : Int) + 2 * tot (fE r13_.1) + r13_.2.1.length) r13_.2.2.1.length) (1 : Int)).bind fun r30_ =>
              if r30_ < 0 then
                some false
              else
                if r30_ = ((1 : Int) + 2 * tot (fE r13_.1) + r13_.2.1.length + r13_.2.2.1.length) then
                  some true
                else
                  some false
          else
            some false
        else
          some false
      else
        if r11_.2.2.2 = true then
          some false
        else
          if (sameN t0_Ends t0_Ids t0_Inputs t0_Ends t0_Ids t0_Inputs) = true then
            ck (0 ≤ (1 : Int) ∧ (1 : Int) + 2 * tot (fE t0_Ends) + t0_Ids.length + t0_Inputs.length < 1099511627776) <|
            if ((1 : Int) + 2 * tot (fE t0_Ends) + t0_Ids.length + t0_Inputs.length) < 0 then
              some false
            else
              ck (0 ≤ (1 : Int) ∧ (1 : Int) + 2 * tot (fE r13_.1) + r13_.2.1.length + r13_.2.2.1.length < 1099511627776) <|
              (l_heldNetwork (marksE (1 : Int) r13_.1) (upto ((1 : Int) + 2 * tot (fE r13_.1)) r13_.2.1.length) (upto ((1 : Int) + 2 * tot (fE r13_.1) + r13_.2.1.length) r13_.2.2.1.length) (1 : Int)).bind fun r30_ =>
              if r30_ < 0 then
                some false
              else
                if r30_ = ((1 : Int) + 2 * tot (fE r13_.1) + r13_.2.1.length + r13_.2.2.1.length) then
                  some true
                else
                  some false
          else
            some false
    else
      some false
/-- laws.FnExactRankIds -/
def k3 : SC :=
 .seq
 (.ops [
 ⟨(some 1), (.box 25 (.tmp 0)), 0, none⟩,
 ⟨(some 2), (.assign (.const (.bool false))), 4, none⟩])
 (.seq
 (.ops [
 ⟨(some 3), (.assign (.const (.int .i64 1048576))), 3, none⟩])
 (.seq
 (.ops [
 ⟨(some 14), (.load 25 (.tmp 1)), 25, none⟩,
 ⟨(some 15), (.move (.tmp 3)), 3, none⟩,
 ⟨(some 16), (.call ⟨(.value (.func 8)), #[(.tmp 14), (.tmp 15)], #[25, 3]⟩), 3, none⟩,
 ⟨(some 3), (.assign (.tmp 16)), 3, none⟩])
 (.seq
 (.seq
 (.ops [
 ⟨(some 17), (.move (.tmp 3)), 3, none⟩,
 ⟨(some 18), (.binOp .lss 3 (.tmp 17) (.const (.int .i64 0)) 3), 4, none⟩])
 (.cond (.tmp 18)
 (.seq
 (.ops [
 ⟨(some 2), (.assign (.const (.bool true))), 4, none⟩])
 .ret)
 .skip))
 (.seq
 (.ops [
 ⟨(some 20), (.load 25 (.tmp 1)), 25, none⟩,
 ⟨(some 21), (.call ⟨(.value (.func 10)), #[(.tmp 20)], #[25]⟩), 29, none⟩,
 ⟨(some 22), (.call ⟨(.value (.func 9)), #[(.tmp 21)], #[29]⟩), 30, none⟩,
 ⟨(some 19), (.move (.tmp 22)), 30, none⟩,
 ⟨(some 23), (.extract (.tmp 19) 0), 29, none⟩,
 ⟨(some 24), (.extract (.tmp 19) 1), 4, none⟩,
 ⟨(some 4), (.alloc 29), 0, none⟩,
 ⟨none, (.store 29 (.tmp 4) (.tmp 23)), 0, none⟩,
 ⟨(some 5), (.assign (.tmp 24)), 4, none⟩])
 (.seq
 (.ops [
 ⟨(some 25), (.load 25 (.tmp 1)), 25, none⟩,
 ⟨(some 26), (.call ⟨(.value (.func 10)), #[(.tmp 25)], #[25]⟩), 29, none⟩,
 ⟨(some 6), (.alloc 29), 0, none⟩,
 ⟨none, (.store 29 (.tmp 6) (.tmp 26)), 0, none⟩])
 (.seq
 (.ops [
 ⟨(some 28), (.load 29 (.tmp 6)), 29, none⟩,
 ⟨(some 29), (.call ⟨(.value (.func 11)), #[(.tmp 28)], #[29]⟩), 30, none⟩,
 ⟨(some 27), (.move (.tmp 29)), 30, none⟩,
 ⟨(some 30), (.extract (.tmp 27) 0), 29, none⟩,
 ⟨(some 31), (.extract (.tmp 27) 1), 4, none⟩,
 ⟨(some 7), (.alloc 29), 0, none⟩,
 ⟨none, (.store 29 (.tmp 7) (.tmp 30)), 0, none⟩,
 ⟨(some 8), (.assign (.tmp 31)), 4, none⟩])
 (.seq
 (.seq
 (.ops [
 ⟨(some 32), (.load 29 (.tmp 7)), 29, none⟩,
 ⟨(some 33), (.load 29 (.tmp 4)), 29, none⟩,
 ⟨(some 34), (.call ⟨(.value (.func 12)), #[(.tmp 32), (.tmp 33)], #[29, 29]⟩), 4, none⟩,
 ⟨(some 35), (.unOp .not 4 (.tmp 34)), 4, none⟩,
 ⟨(some 36), (.move (.tmp 35)), 4, none⟩,
 ⟨(some 37), (.move (.tmp 8)), 4, (some (some 36, false))⟩,
 ⟨(some 38), (.move (.tmp 5)), 4, (some (some 36, false))⟩,
 ⟨(some 39), (.binOp .neq 4 (.tmp 37) (.tmp 38) 4), 4, (some (some 36, false))⟩,
 ⟨(some 40), (.pick (.tmp 36) (.const (.bool true)) (.tmp 39)), 4, none⟩])
 (.cond (.tmp 40)
 (.seq
 (.ops [
 ⟨(some 2), (.assign (.const (.bool false))), 4, none⟩])
 .ret)
 .skip))
 (.seq
 (.seq
 (.draws [
 (⟨[41, 6, 6], [41, 42, 43, 44, 45], [41]⟩, ⟨(some 41), (.load 29 (.tmp 6)), 29, none⟩),
 (⟨[42, 1, 1], [41, 42, 43, 44, 45], [42]⟩, ⟨(some 42), (.load 25 (.tmp 1)), 25, none⟩),
 (⟨[43, 42, 1], [41, 42, 43, 44, 45], [43]⟩, ⟨(some 43), (.call ⟨(.value (.func 10)), #[(.tmp 42)], #[25]⟩), 29, none⟩),
 (⟨[44, 41, 43, 6, 43], [41, 42, 43, 44, 45], [44]⟩, ⟨(some 44), (.call ⟨(.value (.func 12)), #[(.tmp 41), (.tmp 43)], #[29, 29]⟩), 4, none⟩),
 (⟨[45, 44, 44], [41, 42, 43, 44, 45], [45]⟩, ⟨(some 45), (.unOp .not 4 (.tmp 44)), 4, none⟩)])
 (.cond (.tmp 45)
 (.seq
 (.ops [
 ⟨(some 2), (.assign (.const (.bool false))), 4, none⟩])
 .ret)
 .skip))
 (.seq
 (.ops [
 ⟨(some 9), (.assign (.const (.int .i64 1))), 3, none⟩])
 (.seq
 (.ops [
 ⟨(some 46), (.load 29 (.tmp 6)), 29, none⟩,
 ⟨(some 47), (.move (.tmp 9)), 3, none⟩,
 ⟨(some 48), (.call ⟨(.value (.func 13)), #[(.tmp 46), (.tmp 47)], #[29, 3]⟩), 3, none⟩,
 ⟨(some 9), (.assign (.tmp 48)), 3, none⟩])
 (.seq
 (.seq
 (.ops [
 ⟨(some 49), (.move (.tmp 9)), 3, none⟩,
 ⟨(some 50), (.binOp .lss 3 (.tmp 49) (.const (.int .i64 0)) 3), 4, none⟩,
 ⟨(some 51), (.move (.tmp 50)), 4, none⟩,
 ⟨(some 52), (.load 29 (.tmp 7)), 29, (some (some 51, false))⟩,
 ⟨(some 53), (.load 29 (.tmp 4)), 29, (some (some 51, false))⟩,
 ⟨(some 54), (.call ⟨(.value (.func 12)), #[(.tmp 52), (.tmp 53)], #[29, 29]⟩), 4, (some (some 51, false))⟩,
 ⟨(some 55), (.unOp .not 4 (.tmp 54)), 4, (some (some 51, false))⟩,
 ⟨(some 56), (.pick (.tmp 51) (.const (.bool true)) (.tmp 55)), 4, none⟩,
 ⟨(some 57), (.move (.tmp 56)), 4, none⟩,
 ⟨(some 58), (.move (.tmp 8)), 4, (some (some 57, false))⟩,
 ⟨(some 59), (.move (.tmp 5)), 4, (some (some 57, false))⟩,
 ⟨(some 60), (.binOp .neq 4 (.tmp 58) (.tmp 59) 4), 4, (some (some 57, false))⟩,
 ⟨(some 61), (.pick (.tmp 57) (.const (.bool true)) (.tmp 60)), 4, none⟩])
 (.cond (.tmp 61)
 (.seq
 (.ops [
 ⟨(some 2), (.assign (.const (.bool false))), 4, none⟩])
 .ret)
 .skip))
 (.seq
 (.ops [
 ⟨(some 10), (.assign (.const (.int .i64 1))), 3, none⟩])
 (.seq
 (.ops [
 ⟨(some 62), (.load 29 (.tmp 7)), 29, none⟩,
 ⟨(some 63), (.move (.tmp 10)), 3, none⟩,
 ⟨(some 64), (.call ⟨(.value (.func 13)), #[(.tmp 62), (.tmp 63)], #[29, 3]⟩), 3, none⟩,
 ⟨(some 10), (.assign (.tmp 64)), 3, none⟩])
 (.seq
 (.ops [
 ⟨(some 11), (.assign (.const (.int .i64 1))), 3, none⟩])
 (.seq
 (.ops [
 ⟨(some 65), (.load 29 (.tmp 7)), 29, none⟩,
 ⟨(some 66), (.move (.tmp 11)), 3, none⟩,
 ⟨(some 67), (.call ⟨(.value (.func 14)), #[(.tmp 65), (.tmp 66)], #[29, 3]⟩), 3, none⟩,
 ⟨(some 11), (.assign (.tmp 67)), 3, none⟩])
 (.seq
 (.seq
 (.ops [
 ⟨(some 68), (.move (.tmp 11)), 3, none⟩,
 ⟨(some 69), (.binOp .lss 3 (.tmp 68) (.const (.int .i64 0)) 3), 4, none⟩])
 (.cond (.tmp 69)
 (.seq
 (.ops [
 ⟨(some 2), (.assign (.const (.bool false))), 4, none⟩])
 .ret)
 .skip))
 (.seq
 (.seq
 (.ops [
 ⟨(some 70), (.move (.tmp 11)), 3, none⟩,
 ⟨(some 71), (.move (.tmp 10)), 3, none⟩,
 ⟨(some 72), (.binOp .neq 3 (.tmp 70) (.tmp 71) 3), 4, none⟩])
 (.cond (.tmp 72)
 (.seq
 (.ops [
 ⟨(some 2), (.assign (.const (.bool false))), 4, none⟩])
 .ret)
 .skip))
 (.seq
 (.ops [
 ⟨(some 74), (.load 25 (.tmp 1)), 25, none⟩,
 ⟨(some 75), (.call ⟨(.value (.func 10)), #[(.tmp 74)], #[25]⟩), 29, none⟩,
 ⟨(some 76), (.call ⟨(.value (.func 11)), #[(.tmp 75)], #[29]⟩), 30, none⟩,
 ⟨(some 73), (.move (.tmp 76)), 30, none⟩,
 ⟨(some 77), (.extract (.tmp 73) 0), 29, none⟩,
 ⟨(some 78), (.extract (.tmp 73) 1), 4, none⟩,
 ⟨(some 12), (.alloc 29), 0, none⟩,
 ⟨none, (.store 29 (.tmp 12) (.tmp 77)), 0, none⟩,
 ⟨(some 13), (.assign (.tmp 78)), 4, none⟩])
 (.seq
 (.seq
 (.ops [
 ⟨(some 79), (.load 29 (.tmp 12)), 29, none⟩,
 ⟨(some 80), (.load 29 (.tmp 4)), 29, none⟩,
 ⟨(some 81), (.call ⟨(.value (.func 12)), #[(.tmp 79), (.tmp 80)], #[29, 29]⟩), 4, none⟩,
 ⟨(some 82), (.unOp .not 4 (.tmp 81)), 4, none⟩,
 ⟨(some 83), (.move (.tmp 82)), 4, none⟩,
 ⟨(some 84), (.move (.tmp 13)), 4, (some (some 83, false))⟩,
 ⟨(some 85), (.move (.tmp 5)), 4, (some (some 83, false))⟩,
 ⟨(some 86), (.binOp .neq 4 (.tmp 84) (.tmp 85) 4), 4, (some (some 83, false))⟩,
 ⟨(some 87), (.pick (.tmp 83) (.const (.bool true)) (.tmp 86)), 4, none⟩])
 (.cond (.tmp 87)
 (.seq
 (.ops [
 ⟨(some 2), (.assign (.const (.bool false))), 4, none⟩])
 .ret)
 .skip))
 (.seq
 (.ops [
 ⟨(some 11), (.assign (.const (.int .i64 1))), 3, none⟩])
 (.seq
 (.ops [
 ⟨(some 88), (.load 29 (.tmp 7)), 29, none⟩,
 ⟨(some 89), (.move (.tmp 11)), 3, none⟩,
 ⟨(some 90), (.call ⟨(.value (.func 14)), #[(.tmp 88), (.tmp 89)], #[29, 3]⟩), 3, none⟩,
 ⟨(some 11), (.assign (.tmp 90)), 3, none⟩])
 (.seq
 (.seq
 (.ops [
 ⟨(some 91), (.move (.tmp 11)), 3, none⟩,
 ⟨(some 92), (.binOp .lss 3 (.tmp 91) (.const (.int .i64 0)) 3), 4, none⟩])
 (.cond (.tmp 92)
 (.seq
 (.ops [
 ⟨(some 2), (.assign (.const (.bool false))), 4, none⟩])
 .ret)
 .skip))
 (.seq
 (.seq
 (.ops [
 ⟨(some 93), (.move (.tmp 11)), 3, none⟩,
 ⟨(some 94), (.move (.tmp 10)), 3, none⟩,
 ⟨(some 95), (.binOp .neq 3 (.tmp 93) (.tmp 94) 3), 4, none⟩])
 (.cond (.tmp 95)
 (.seq
 (.ops [
 ⟨(some 2), (.assign (.const (.bool false))), 4, none⟩])
 .ret)
 .skip))
 (.seq
 (.ops [
 ⟨(some 2), (.assign (.const (.bool true))), 4, none⟩])
 .ret))))))))))))))))))))))))
theorem slim3 : Try.f3.body.map (slim lends) = some k3 := by kernel_rfl
theorem ok3 : fnOk Try.f3 1 = true := by kernel_rfl
theorem c3 {a l : List D} {r : D × List D} (h : wpD Y.env k3 (fin tys l.length [ResultVar.tmp 2] r) (entry a l)) (ha : a.length = 1) : Y.call 3 a l = some r :=
  call_slim (Y := Y) rfl Try.func3 (ha ▸ ok3) slim3 h
theorem l_FnExactRankIds_call (t0_Ends : List (List (Int × Int))) (t0_Ids : List Int) (t0_Inputs : List Int) {r : Bool} (h : l_FnExactRankIds t0_Ends t0_Ids t0_Inputs = some r) : Y.call 3 [D.agg [D.sl 90 (lst (fun x => D.sl 128 (cat2 .i64 .i64 x)) t0_Ends), D.sl 3 (lst (D.int .i64) t0_Ids), D.sl 3 (lst (D.int .i64) t0_Inputs)]] [] = some (D.bool r, []) := by
  refine c3 ?_ rfl
  unfold k3
  unfold l_FnExactRankIds at h
  obtain ⟨e1, h⟩ := ckS h
  obtain ⟨e2, h⟩ := ckS h
  obtain ⟨e3, h⟩ := ckS h
  obtain ⟨e4, h⟩ := ckS h
  have c5 := l_szNetwork_cl t0_Ends t0_Ids t0_Inputs (1048576 : Int) e1 e2 e3 e4
  by_cases e6 : (szW (1048576 : Int) t0_Ends t0_Ids t0_Inputs) < 0
  · rw [if_pos e6] at h
    obtain rfl := Option.some.inj h
    simp (maxDischargeDepth := 9) only [↓xpre, xpost, xlst, xc2, xcore, yset, rg0, ↓reduceIte, Nat.reduceEqDiff, Nat.reduceLT, Nat.reduceLeDiff, Nat.reduceAdd, Nat.reduceMul, Nat.reduceMod, Nat.reduceSub, Nat.reduceBEq, Int.reduceLE, Int.reduceLT, Int.reduceEq, Int.reduceSub, Int.reduceAdd, Int.reduceToNat, Int.reduceNeg, e1, e2, e3, e4.1, e4.2, c5, e6] <;> (repeat' apply And.intro) <;> first | rfl | exact ⟨_, rfl⟩ | simp [lst, cat2_nil]
  · rw [if_neg e6] at h
    obtain ⟨e7, h⟩ := ckS h
    obtain ⟨e8, h⟩ := ckS h
    obtain ⟨e9, h⟩ := ckS h
    have c10 := l_toNetwork_cl t0_Ends t0_Ids t0_Inputs e7 e8 e9
    obtain ⟨r11_, hl11, h⟩ := bindS h
    try dsimp only at h
    have c11 := s_RankIds_call t0_Ends t0_Ids t0_Inputs hl11
    have c12 := l_toNetwork_cl t0_Ends t0_Ids t0_Inputs e7 e8 e9
    obtain ⟨r13_, hl13, h⟩ := bindS h
    try dsimp only at h
    have c13 := i_RankIds_call t0_Ends t0_Ids t0_Inputs hl13
    obtain ⟨e14, h⟩ := ckS h
    obtain ⟨e15, h⟩ := ckS h
    obtain ⟨e16, h⟩ := ckS h
    have c17 := l_eqNetwork_cl r13_.1 r13_.2.1 r13_.2.2.1 r11_.1 r11_.2.1 r11_.2.2.1 e14 e15 e16
    by_cases e18 : (sameN r13_.1 r13_.2.1 r13_.2.2.1 r11_.1 r11_.2.1 r11_.2.2.1) = true
    · rw [if_pos e18] at h
      by_cases e19 : r13_.2.2.2 = true
      · rw [if_pos e19] at h
        by_cases e20 : r11_.2.2.2 = true
        · rw [if_pos e20] at h
          have c21 := l_toNetwork_cl t0_Ends t0_Ids t0_Inputs e7 e8 e9
          have c22 := l_eqNetwork_cl t0_Ends t0_Ids t0_Inputs t0_Ends t0_Ids t0_Inputs e7 e8 e9
          by_cases e23 : (sameN t0_Ends t0_Ids t0_Inputs t0_Ends t0_Ids t0_Inputs) = true
          · rw [if_pos e23] at h
            obtain ⟨e24, h⟩ := ckS h
            have c25 := l_markNetwork_cl t0_Ends t0_Ids t0_Inputs (1 : Int) e7 e8 e9 e24
            by_cases e26 : ((1 : Int) + 2 * tot (fE t0_Ends) + t0_Ids.length + t0_Inputs.length) < 0
            · rw [if_pos e26] at h
              obtain rfl := Option.some.inj h
              simp (maxDischargeDepth := 9) only [↓xpre, xpost, xlst, xc2, xcore, yset, rg0, ↓reduceIte, Nat.reduceEqDiff, Nat.reduceLT, Nat.reduceLeDiff, Nat.reduceAdd, Nat.reduceMul, Nat.reduceMod, Nat.reduceSub, Nat.reduceBEq, Int.reduceLE, Int.reduceLT, Int.reduceEq, Int.reduceSub, Int.reduceAdd, Int.reduceToNat, Int.reduceNeg, e1, e2, e3, e4.1, e4.2, c5, e6, e7, e8, e9, c10, c11, c12, c13, e14, e15, e16, c17, e18, e19, e20, c21, c22, e23, e24.1, e24.2, c25, e26] <;> (repeat' apply And.intro) <;> first | rfl | exact ⟨_, rfl⟩ | simp [lst, cat2_nil]
            · rw [if_neg e26] at h
              have c27 := l_eqNetwork_cl r13_.1 r13_.2.1 r13_.2.2.1 r11_.1 r11_.2.1 r11_.2.2.1 e14 e15 e16
              obtain ⟨e28, h⟩ := ckS h
              have c29 := l_markNetwork_cl r13_.1 r13_.2.1 r13_.2.2.1 (1 : Int) e14 e15 e16 e28
              obtain ⟨r30_, hl30, h⟩ := bindS h
              try dsimp only at h
              have c30 := l_heldNetwork_call (marksE (1 : Int) r13_.1) (upto ((1 : Int) + 2 * tot (fE r13_.1)) r13_.2.1.length) (upto ((1 : Int) + 2 * tot (fE r13_.1) + r13_.2.1.length) r13_.2.2.1.length) (1 : Int) hl30
              by_cases e31 : r30_ < 0
              · rw [if_pos e31] at h
                obtain rfl := Option.some.inj h
                simp (maxDischargeDepth := 9) only [↓xpre, xpost, xlst, xc2, xcore, yset, rg0, ↓reduceIte, Nat.reduceEqDiff, Nat.reduceLT, Nat.reduceLeDiff, Nat.reduceAdd, Nat.reduceMul, Nat.reduceMod, Nat.reduceSub, Nat.reduceBEq, Int.reduceLE, Int.reduceLT, Int.reduceEq, Int.reduceSub, Int.reduceAdd, Int.reduceToNat, Int.reduceNeg, e1, e2, e3, e4.1, e4.2, c5, e6, e7, e8, e9, c10, c11, c12, c13, e14, e15, e16, c17, e18, e19, e20, c21, c22, e23, e24.1, e24.2, c25, e26, c27, e28.1, e28.2, c29, c30, e31] <;> (repeat' apply And.intro) <;> first | rfl | exact ⟨_, rfl⟩ | simp [lst, cat2_nil]
              · rw [if_neg e31] at h
                by_cases e32 : r30_ = ((1 : Int) + 2 * tot (fE r13_.1) + r13_.2.1.length + r13_.2.2.1.length)
                · rw [if_pos e32] at h
                  have c33 := l_toNetwork_cl t0_Ends t0_Ids t0_Inputs e7 e8 e9
                  have c34 := l_eqNetwork_cl r13_.1 r13_.2.1 r13_.2.2.1 r11_.1 r11_.2.1 r11_.2.2.1 e14 e15 e16
                  obtain rfl := Option.some.inj h
                  simp (maxDischargeDepth := 9) only [↓xpre, xpost, xlst, xc2, xcore, yset, rg0, ↓reduceIte, Nat.reduceEqDiff, Nat.reduceLT, Nat.reduceLeDiff, Nat.reduceAdd, Nat.reduceMul, Nat.reduceMod, Nat.reduceSub, Nat.reduceBEq, Int.reduceLE, Int.reduceLT, Int.reduceEq, Int.reduceSub, Int.reduceAdd, Int.reduceToNat, Int.reduceNeg, e1, e2, e3, e4.1, e4.2, c5, e6, e7, e8, e9, c10, c11, c12, c13, e14, e15, e16, c17, e18, e19, e20, c21, c22, e23, e24.1, e24.2, c25, e26, c27, e28.1, e28.2, c29, c30, e31, decide_eq_true e32, c33, c34] <;> (repeat' apply And.intro) <;> first | rfl | exact ⟨_, rfl⟩ | simp [lst, cat2_nil]
                · rw [if_neg e32] at h
                  obtain rfl := Option.some.inj h
                  simp (maxDischargeDepth := 9) only [↓xpre, xpost, xlst, xc2, xcore, yset, rg0, ↓reduceIte, Nat.reduceEqDiff, Nat.reduceLT, Nat.reduceLeDiff, Nat.reduceAdd, Nat.reduceMul, Nat.reduceMod, Nat.reduceSub, Nat.reduceBEq, Int.reduceLE, Int.reduceLT, Int.reduceEq, Int.reduceSub, Int.reduceAdd, Int.reduceToNat, Int.reduceNeg, e1, e2, e3, e4.1, e4.2, c5, e6, e7, e8, e9, c10, c11, c12, c13, e14, e15, e16, c17, e18, e19, e20, c21, c22, e23, e24.1, e24.2, c25, e26, c27, e28.1, e28.2, c29, c30, e31, e32] <;> (repeat' apply And.intro) <;> first | rfl | exact ⟨_, rfl⟩ | simp [lst, cat2_nil]
          · rw [if_neg e23] at h
            have e23f : (sameN t0_Ends t0_Ids t0_Inputs t0_Ends t0_Ids t0_Inputs) = false := Bool.eq_false_iff.mpr e23
            obtain rfl := Option.some.inj h
            simp (maxDischargeDepth := 9) only [↓xpre, xpost, xlst, xc2, xcore, yset, rg0, ↓reduceIte, Nat.reduceEqDiff, Nat.reduceLT, Nat.reduceLeDiff, Nat.reduceAdd, Nat.reduceMul, Nat.reduceMod, Nat.reduceSub, Nat.reduceBEq, Int.reduceLE, Int.reduceLT, Int.reduceEq, Int.reduceSub, Int.reduceAdd, Int.reduceToNat, Int.reduceNeg, e1, e2, e3, e4.1, e4.2, c5, e6, e7, e8, e9, c10, c11, c12, c13, e14, e15, e16, c17, e18, e19, e20, c21, c22, e23f] <;> (repeat' apply And.intro) <;> first | rfl | exact ⟨_, rfl⟩ | simp [lst, cat2_nil]
        · rw [if_neg e20] at h
          have e20f : r11_.2.2.2 = false := Bool.eq_false_iff.mpr e20
          obtain rfl := Option.some.inj h
          simp (maxDischargeDepth := 9) only [↓xpre, xpost, xlst, xc2, xcore, yset, rg0, ↓reduceIte, Nat.reduceEqDiff, Nat.reduceLT, Nat.reduceLeDiff, Nat.reduceAdd, Nat.reduceMul, Nat.reduceMod, Nat.reduceSub, Nat.reduceBEq, Int.reduceLE, Int.reduceLT, Int.reduceEq, Int.reduceSub, Int.reduceAdd, Int.reduceToNat, Int.reduceNeg, e1, e2, e3, e4.1, e4.2, c5, e6, e7, e8, e9, c10, c11, c12, c13, e14, e15, e16, c17, e18, e19, e20f] <;> (repeat' apply And.intro) <;> first | rfl | exact ⟨_, rfl⟩ | simp [lst, cat2_nil]
      · rw [if_neg e19] at h
        have e19f : r13_.2.2.2 = false := Bool.eq_false_iff.mpr e19
        by_cases e20 : r11_.2.2.2 = true
        · rw [if_pos e20] at h
          obtain rfl := Option.some.inj h
          simp (maxDischargeDepth := 9) only [↓xpre, xpost, xlst, xc2, xcore, yset, rg0, ↓reduceIte, Nat.reduceEqDiff, Nat.reduceLT, Nat.reduceLeDiff, Nat.reduceAdd, Nat.reduceMul, Nat.reduceMod, Nat.reduceSub, Nat.reduceBEq, Int.reduceLE, Int.reduceLT, Int.reduceEq, Int.reduceSub, Int.reduceAdd, Int.reduceToNat, Int.reduceNeg, e1, e2, e3, e4.1, e4.2, c5, e6, e7, e8, e9, c10, c11, c12, c13, e14, e15, e16, c17, e18, e19f, e20] <;> (repeat' apply And.intro) <;> first | rfl | exact ⟨_, rfl⟩ | simp [lst, cat2_nil]
        · rw [if_neg e20] at h
          have e20f : r11_.2.2.2 = false := Bool.eq_false_iff.mpr e20
          have c21 := l_toNetwork_cl t0_Ends t0_Ids t0_Inputs e7 e8 e9
          have c22 := l_eqNetwork_cl t0_Ends t0_Ids t0_Inputs t0_Ends t0_Ids t0_Inputs e7 e8 e9
          by_cases e23 : (sameN t0_Ends t0_Ids t0_Inputs t0_Ends t0_Ids t0_Inputs) = true
          · rw [if_pos e23] at h
            obtain ⟨e24, h⟩ := ckS h
            have c25 := l_markNetwork_cl t0_Ends t0_Ids t0_Inputs (1 : Int) e7 e8 e9 e24
            by_cases e26 : ((1 : Int) + 2 * tot (fE t0_Ends) + t0_Ids.length + t0_Inputs.length) < 0
            · rw [if_pos e26] at h
              obtain rfl := Option.some.inj h
              simp (maxDischargeDepth := 9) only [↓xpre, xpost, xlst, xc2, xcore, yset, rg0, ↓reduceIte, Nat.reduceEqDiff, Nat.reduceLT, Nat.reduceLeDiff, Nat.reduceAdd, Nat.reduceMul, Nat.reduceMod, Nat.reduceSub, Nat.reduceBEq, Int.reduceLE, Int.reduceLT, Int.reduceEq, Int.reduceSub, Int.reduceAdd, Int.reduceToNat, Int.reduceNeg, e1, e2, e3, e4.1, e4.2, c5, e6, e7, e8, e9, c10, c11, c12, c13, e14, e15, e16, c17, e18, e19f, e20f, c21, c22, e23, e24.1, e24.2, c25, e26] <;> (repeat' apply And.intro) <;> first | rfl | exact ⟨_, rfl⟩ | simp [lst, cat2_nil]
            · rw [if_neg e26] at h
              have c27 := l_eqNetwork_cl r13_.1 r13_.2.1 r13_.2.2.1 r11_.1 r11_.2.1 r11_.2.2.1 e14 e15 e16
              obtain ⟨e28, h⟩ := ckS h
              have c29 := l_markNetwork_cl r13_.1 r13_.2.1 r13_.2.2.1 (1 : Int) e14 e15 e16 e28
              obtain ⟨r30_, hl30, h⟩ := bindS h
              try dsimp only at h
              have c30 := l_heldNetwork_call (marksE (1 : Int) r13_.1) (upto ((1 : Int) + 2 * tot (fE r13_.1)) r13_.2.1.length) (upto ((1 : Int) + 2 * tot (fE r13_.1) + r13_.2.1.length) r13_.2.2.1.length) (1 : Int) hl30
              by_cases e31 : r30_ < 0
              · rw [if_pos e31] at h
                obtain rfl := Option.some.inj h
                simp (maxDischargeDepth := 9) only [↓xpre, xpost, xlst, xc2, xcore, yset, rg0, ↓reduceIte, Nat.reduceEqDiff, Nat.reduceLT, Nat.reduceLeDiff, Nat.reduceAdd, Nat.reduceMul, Nat.reduceMod, Nat.reduceSub, Nat.reduceBEq, Int.reduceLE, Int.reduceLT, Int.reduceEq, Int.reduceSub, Int.reduceAdd, Int.reduceToNat, Int.reduceNeg, e1, e2, e3, e4.1, e4.2, c5, e6, e7, e8, e9, c10, c11, c12, c13, e14, e15, e16, c17, e18, e19f, e20f, c21, c22, e23, e24.1, e24.2, c25, e26, c27, e28.1, e28.2, c29, c30, e31] <;> (repeat' apply And.intro) <;> first | rfl | exact ⟨_, rfl⟩ | simp [lst, cat2_nil]
              · rw [if_neg e31] at h
                by_cases e32 : r30_ = ((1 : Int) + 2 * tot (fE r13_.1) + r13_.2.1.length + r13_.2.2.1.length)
                · rw [if_pos e32] at h
                  have c33 := l_toNetwork_cl t0_Ends t0_Ids t0_Inputs e7 e8 e9
                  have c34 := l_eqNetwork_cl r13_.1 r13_.2.1 r13_.2.2.1 r11_.1 r11_.2.1 r11_.2.2.1 e14 e15 e16
                  obtain rfl := Option.some.inj h
                  simp (maxDischargeDepth := 9) only [↓xpre, xpost, xlst, xc2, xcore, yset, rg0, ↓reduceIte, Nat.reduceEqDiff, Nat.reduceLT, Nat.reduceLeDiff, Nat.reduceAdd, Nat.reduceMul, Nat.reduceMod, Nat.reduceSub, Nat.reduceBEq, Int.reduceLE, Int.reduceLT, Int.reduceEq, Int.reduceSub, Int.reduceAdd, Int.reduceToNat, Int.reduceNeg, e1, e2, e3, e4.1, e4.2, c5, e6, e7, e8, e9, c10, c11, c12, c13, e14, e15, e16, c17, e18, e19f, e20f, c21, c22, e23, e24.1, e24.2, c25, e26, c27, e28.1, e28.2, c29, c30, e31, decide_eq_true e32, c33, c34] <;> (repeat' apply And.intro) <;> first | rfl | exact ⟨_, rfl⟩ | simp [lst, cat2_nil]
                · rw [if_neg e32] at h
                  obtain rfl := Option.some.inj h
                  simp (maxDischargeDepth := 9) only [↓xpre, xpost, xlst, xc2, xcore, yset, rg0, ↓reduceIte, Nat.reduceEqDiff, Nat.reduceLT, Nat.reduceLeDiff, Nat.reduceAdd, Nat.reduceMul, Nat.reduceMod, Nat.reduceSub, Nat.reduceBEq, Int.reduceLE, Int.reduceLT, Int.reduceEq, Int.reduceSub, Int.reduceAdd, Int.reduceToNat, Int.reduceNeg, e1, e2, e3, e4.1, e4.2, c5, e6, e7, e8, e9, c10, c11, c12, c13, e14, e15, e16, c17, e18, e19f, e20f, c21, c22, e23, e24.1, e24.2, c25, e26, c27, e28.1, e28.2, c29, c30, e31, e32] <;> (repeat' apply And.intro) <;> first | rfl | exact ⟨_, rfl⟩ | simp [lst, cat2_nil]
          · rw [if_neg e23] at h
            have e23f : (sameN t0_Ends t0_Ids t0_Inputs t0_Ends t0_Ids t0_Inputs) = false := Bool.eq_false_iff.mpr e23
            obtain rfl := Option.some.inj h
            simp (maxDischargeDepth := 9) only [↓xpre, xpost, xlst, xc2, xcore, yset, rg0, ↓reduceIte, Nat.reduceEqDiff, Nat.reduceLT, Nat.reduceLeDiff, Nat.reduceAdd, Nat.reduceMul, Nat.reduceMod, Nat.reduceSub, Nat.reduceBEq, Int.reduceLE, Int.reduceLT, Int.reduceEq, Int.reduceSub, Int.reduceAdd, Int.reduceToNat, Int.reduceNeg, e1, e2, e3, e4.1, e4.2, c5, e6, e7, e8, e9, c10, c11, c12, c13, e14, e15, e16, c17, e18, e19f, e20f, c21, c22, e23f] <;> (repeat' apply And.intro) <;> first | rfl | exact ⟨_, rfl⟩ | simp [lst, cat2_nil]
    · rw [if_neg e18] at h
      have e18f : (sameN r13_.1 r13_.2.1 r13_.2.2.1 r11_.1 r11_.2.1 r11_.2.2.1) = false := Bool.eq_false_iff.mpr e18
      obtain rfl := Option.some.inj h
      simp (maxDischargeDepth := 9) only [↓xpre, xpost, xlst, xc2, xcore, yset, rg0, ↓reduceIte, Nat.reduceEqDiff, Nat.reduceLT, Nat.reduceLeDiff, Nat.reduceAdd, Nat.reduceMul, Nat.reduceMod, Nat.reduceSub, Nat.reduceBEq, Int.reduceLE, Int.reduceLT, Int.reduceEq, Int.reduceSub, Int.reduceAdd, Int.reduceToNat, Int.reduceNeg, e1, e2, e3, e4.1, e4.2, c5, e6, e7, e8, e9, c10, c11, c12, c13, e14, e15, e16, c17, e18f] <;> (repeat' apply And.intro) <;> first | rfl | exact ⟨_, rfl⟩ | simp [lst, cat2_nil]


end Go.Proofs.Ytjkgcfdcfjkkbaa
