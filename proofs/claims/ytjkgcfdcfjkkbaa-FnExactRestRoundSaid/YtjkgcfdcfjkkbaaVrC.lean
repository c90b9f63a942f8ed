/- The round at which values rest: the law, lifted. Conditions: none. -/
import Derived.Test.YtjkgcfdcfjkkbaaL6
import Derived.Test.YtjkgcfdcfjkkbaaVrA
import Derived.Test.YtjkgcfdcfjkkbaaVop
namespace Go.Proofs.Ytjkgcfdcfjkkbaa
open Go Dv
set_option linter.unusedSimpArgs false
set_option linter.unusedVariables false
set_option maxRecDepth 100000
set_option maxHeartbeats 4000000

noncomputable def l_FnExactRestRound (t0_ : List (Int × Int)) (t1_Ends : List (List (Int × Int))) (t1_Ids : List Int) (t1_Inputs : List Int) (t2_ : List Int) (t3_ : Int) : Option (Bool) :=
 if 1048576 < (t2_.length : Int) then
  some true
 else
  ck (t0_.length < 9223372036854775808) <|
  ck (0 ≤ (1048576 : Int) ∧ (1048576 : Int) ≤ 1048576) <|
  if (szN (1048576 : Int) t0_.length) < 0 then
   some true
  else
   ck (WideE t1_Ends) <|
   ck (t1_Ids.length < 9223372036854775808) <|
   ck (t1_Inputs.length < 9223372036854775808) <|
   ck (0 ≤ (szN (1048576 : Int) t0_.length) ∧ (szN (1048576 : Int) t0_.length) ≤ 1048576) <|
   if (szW (szN (1048576 : Int) t0_.length) t1_Ends t1_Ids t1_Inputs) < 0 then
    some true
   else
    ck (t0_.length < 549755813888) <|
    ck (ShortE t1_Ends) <|
    ck (t1_Ids.length < 1099511627776) <|
    ck (t1_Inputs.length < 1099511627776) <|
    ck (t2_.length < 1099511627776) <|
    (s_RestRound t0_ t1_Ends t1_Ids t1_Inputs t2_ t3_).bind fun r20_ =>
    (i_RestRound t0_ t1_Ends t1_Ids t1_Inputs t2_ t3_).bind fun r24_ =>
    if r24_.1 = r20_.1 then
     if r24_.2 = true then
      if r20_.2 = true then
       if (decide (t0_ = t0_)) = true then
        if (sameN t1_Ends t1_Ids t1_Inputs t1_Ends t1_Ids t1_Inputs) = true then
         if (decide (t2_ = t2_)) = true then
          some true
         else
          some false
        else
         some false
       else
        some false
      else
       some false
     else
      if r20_.2 = true then
       some false
      else
       if (decide (t0_ = t0_)) = true then
        if (sameN t1_Ends t1_Ids t1_Inputs t1_Ends t1_Ids t1_Inputs) = true then
         if (decide (t2_ = t2_)) = true then
          some true
         else
          some false
        else
         some false
       else
        some false
    else
     some false
/-- laws.FnExactRestRound -/
def k7 : SC :=
 .seq
 (.ops [
 ⟨(some 5), (.box 25 (.tmp 1)), 0, none⟩,
 ⟨(some 8), (.assign (.const (.bool false))), 4, none⟩])
 (.seq
 (.seq
 (.ops [
 ⟨(some 17), (.move (.tmp 2)), 23, none⟩,
 ⟨(some 18), (.call ⟨(.builtin .len), #[(.tmp 17)], #[23]⟩), 3, none⟩,
 ⟨(some 19), (.binOp .gtr 3 (.tmp 18) (.const (.int .i64 1048576)) 3), 4, none⟩])
 (.cond (.tmp 19)
 (.seq
 (.ops [
 ⟨(some 8), (.assign (.const (.bool true))), 4, none⟩])
 .ret)
 .skip))
 (.seq
 (.ops [
 ⟨(some 9), (.assign (.const (.int .i64 1048576))), 3, none⟩])
 (.seq
 (.ops [
 ⟨(some 20), (.move (.tmp 0)), 53, none⟩,
 ⟨(some 21), (.move (.tmp 9)), 3, none⟩,
 ⟨(some 22), (.call ⟨(.value (.func 27)), #[(.tmp 20), (.tmp 21)], #[53, 3]⟩), 3, none⟩,
 ⟨(some 9), (.assign (.tmp 22)), 3, none⟩])
 (.seq
 (.seq
 (.ops [
 ⟨(some 23), (.move (.tmp 9)), 3, none⟩,
 ⟨(some 24), (.binOp .lss 3 (.tmp 23) (.const (.int .i64 0)) 3), 4, none⟩])
 (.cond (.tmp 24)
 (.seq
 (.ops [
 ⟨(some 8), (.assign (.const (.bool true))), 4, none⟩])
 .ret)
 .skip))
 (.seq
 (.ops [
 ⟨(some 25), (.load 25 (.tmp 5)), 25, none⟩,
 ⟨(some 26), (.move (.tmp 9)), 3, none⟩,
 ⟨(some 27), (.call ⟨(.value (.func 8)), #[(.tmp 25), (.tmp 26)], #[25, 3]⟩), 3, none⟩,
 ⟨(some 9), (.assign (.tmp 27)), 3, none⟩])
 (.seq
 (.seq
 (.ops [
 ⟨(some 28), (.move (.tmp 9)), 3, none⟩,
 ⟨(some 29), (.binOp .lss 3 (.tmp 28) (.const (.int .i64 0)) 3), 4, none⟩])
 (.cond (.tmp 29)
 (.seq
 (.ops [
 ⟨(some 8), (.assign (.const (.bool true))), 4, none⟩])
 .ret)
 .skip))
 (.seq
 (.draws [
 (⟨[31, 0, 0], [31, 32, 33, 34, 35, 36, 37, 38, 30, 38, 39, 40, 10, 39, 11, 40], [31]⟩, ⟨(some 31), (.move (.tmp 0)), 53, none⟩),
 (⟨[32, 31, 0], [31, 32, 33, 34, 35, 36, 37, 38, 30, 38, 39, 40, 10, 39, 11, 40], [32]⟩, ⟨(some 32), (.call ⟨(.value (.func 29)), #[(.tmp 31)], #[53]⟩), 57, none⟩),
 (⟨[33, 5, 5], [31, 32, 33, 34, 35, 36, 37, 38, 30, 38, 39, 40, 10, 39, 11, 40], [33]⟩, ⟨(some 33), (.load 25 (.tmp 5)), 25, none⟩),
 (⟨[34, 33, 5], [31, 32, 33, 34, 35, 36, 37, 38, 30, 38, 39, 40, 10, 39, 11, 40], [34]⟩, ⟨(some 34), (.call ⟨(.value (.func 10)), #[(.tmp 33)], #[25]⟩), 29, none⟩),
 (⟨[35, 2, 2], [31, 32, 33, 34, 35, 36, 37, 38, 30, 38, 39, 40, 10, 39, 11, 40], [35]⟩, ⟨(some 35), (.move (.tmp 2)), 23, none⟩),
 (⟨[36, 35, 2], [31, 32, 33, 34, 35, 36, 37, 38, 30, 38, 39, 40, 10, 39, 11, 40], [36]⟩, ⟨(some 36), (.call ⟨(.value (.func 24)), #[(.tmp 35)], #[23]⟩), 23, none⟩),
 (⟨[37, 3, 3], [31, 32, 33, 34, 35, 36, 37, 38, 30, 38, 39, 40, 10, 39, 11, 40], [37]⟩, ⟨(some 37), (.move (.tmp 3)), 3, none⟩),
 (⟨[38, 32, 34, 36, 37, 32, 34, 36, 3], [31, 32, 33, 34, 35, 36, 37, 38, 30, 38, 39, 40, 10, 39, 11, 40], [38]⟩, ⟨(some 38), (.call ⟨(.value (.func 35)), #[(.tmp 32), (.tmp 34), (.tmp 36), (.tmp 37)], #[57, 29, 23, 3]⟩), 63, none⟩),
 (⟨[30, 38, 38], [31, 32, 33, 34, 35, 36, 37, 38, 30, 38, 39, 40, 10, 39, 11, 40], [30, 38]⟩, ⟨(some 30), (.move (.tmp 38)), 63, none⟩),
 (⟨[39, 30], [31, 32, 33, 34, 35, 36, 37, 38, 30, 38, 39, 40, 10, 39, 11, 40], [39]⟩, ⟨(some 39), (.extract (.tmp 30) 0), 3, none⟩),
 (⟨[40, 30], [31, 32, 33, 34, 35, 36, 37, 38, 30, 38, 39, 40, 10, 39, 11, 40], [40]⟩, ⟨(some 40), (.extract (.tmp 30) 1), 4, none⟩),
 (⟨[10, 39, 38], [31, 32, 33, 34, 35, 36, 37, 38, 30, 38, 39, 40, 10, 39, 11, 40], [10, 39]⟩, ⟨(some 10), (.assign (.tmp 39)), 3, none⟩),
 (⟨[11, 40], [31, 32, 33, 34, 35, 36, 37, 38, 30, 38, 39, 40, 10, 39, 11, 40], [11, 40]⟩, ⟨(some 11), (.assign (.tmp 40)), 4, none⟩)])
 (.seq
 (.ops [
 ⟨(some 41), (.move (.tmp 0)), 53, none⟩,
 ⟨(some 42), (.call ⟨(.value (.func 29)), #[(.tmp 41)], #[53]⟩), 57, none⟩,
 ⟨(some 12), (.assign (.tmp 42)), 57, none⟩])
 (.seq
 (.ops [
 ⟨(some 43), (.load 25 (.tmp 5)), 25, none⟩,
 ⟨(some 44), (.call ⟨(.value (.func 10)), #[(.tmp 43)], #[25]⟩), 29, none⟩,
 ⟨(some 13), (.alloc 29), 0, none⟩,
 ⟨none, (.store 29 (.tmp 13) (.tmp 44)), 0, none⟩])
 (.seq
 (.ops [
 ⟨(some 45), (.move (.tmp 2)), 23, none⟩,
 ⟨(some 46), (.call ⟨(.value (.func 24)), #[(.tmp 45)], #[23]⟩), 23, none⟩,
 ⟨(some 14), (.assign (.tmp 46)), 23, none⟩])
 (.seq
 (.ops [
 ⟨(some 48), (.move (.tmp 12)), 57, none⟩,
 ⟨(some 49), (.load 29 (.tmp 13)), 29, none⟩,
 ⟨(some 50), (.move (.tmp 14)), 23, none⟩,
 ⟨(some 51), (.move (.tmp 3)), 3, none⟩,
 ⟨(some 52), (.call ⟨(.value (.func 36)), #[(.tmp 48), (.tmp 49), (.tmp 50), (.tmp 51)], #[57, 29, 23, 3]⟩), 63, none⟩,
 ⟨(some 47), (.move (.tmp 52)), 63, none⟩,
 ⟨(some 53), (.extract (.tmp 47) 0), 3, none⟩,
 ⟨(some 54), (.extract (.tmp 47) 1), 4, none⟩,
 ⟨(some 15), (.assign (.tmp 53)), 3, none⟩,
 ⟨(some 16), (.assign (.tmp 54)), 4, none⟩])
 (.seq
 (.seq
 (.ops [
 ⟨(some 55), (.move (.tmp 15)), 3, none⟩,
 ⟨(some 56), (.move (.tmp 10)), 3, none⟩,
 ⟨(some 57), (.binOp .neq 3 (.tmp 55) (.tmp 56) 3), 4, none⟩,
 ⟨(some 58), (.move (.tmp 57)), 4, none⟩,
 ⟨(some 59), (.move (.tmp 16)), 4, (some (some 58, false))⟩,
 ⟨(some 60), (.move (.tmp 11)), 4, (some (some 58, false))⟩,
 ⟨(some 61), (.binOp .neq 4 (.tmp 59) (.tmp 60) 4), 4, (some (some 58, false))⟩,
 ⟨(some 62), (.pick (.tmp 58) (.const (.bool true)) (.tmp 61)), 4, none⟩])
 (.cond (.tmp 62)
 (.seq
 (.ops [
 ⟨(some 8), (.assign (.const (.bool false))), 4, none⟩])
 .ret)
 .skip))
 (.seq
 (.seq
 (.ops [
 ⟨(some 63), (.move (.tmp 12)), 57, none⟩,
 ⟨(some 64), (.move (.tmp 0)), 53, none⟩,
 ⟨(some 65), (.call ⟨(.value (.func 29)), #[(.tmp 64)], #[53]⟩), 57, none⟩,
 ⟨(some 66), (.call ⟨(.value (.func 31)), #[(.tmp 63), (.tmp 65)], #[57, 57]⟩), 4, none⟩,
 ⟨(some 67), (.unOp .not 4 (.tmp 66)), 4, none⟩])
 (.cond (.tmp 67)
 (.seq
 (.ops [
 ⟨(some 8), (.assign (.const (.bool false))), 4, none⟩])
 .ret)
 .skip))
 (.seq
 (.seq
 (.draws [
 (⟨[68, 13, 13], [68, 69, 70, 71, 72], [68]⟩, ⟨(some 68), (.load 29 (.tmp 13)), 29, none⟩),
 (⟨[69, 5, 5], [68, 69, 70, 71, 72], [69]⟩, ⟨(some 69), (.load 25 (.tmp 5)), 25, none⟩),
 (⟨[70, 69, 5], [68, 69, 70, 71, 72], [70]⟩, ⟨(some 70), (.call ⟨(.value (.func 10)), #[(.tmp 69)], #[25]⟩), 29, none⟩),
 (⟨[71, 68, 70, 13, 70], [68, 69, 70, 71, 72], [71]⟩, ⟨(some 71), (.call ⟨(.value (.func 12)), #[(.tmp 68), (.tmp 70)], #[29, 29]⟩), 4, none⟩),
 (⟨[72, 71, 71], [68, 69, 70, 71, 72], [72]⟩, ⟨(some 72), (.unOp .not 4 (.tmp 71)), 4, none⟩)])
 (.cond (.tmp 72)
 (.seq
 (.ops [
 ⟨(some 8), (.assign (.const (.bool false))), 4, none⟩])
 .ret)
 .skip))
 (.seq
 (.seq
 (.ops [
 ⟨(some 73), (.move (.tmp 14)), 23, none⟩,
 ⟨(some 74), (.move (.tmp 2)), 23, none⟩,
 ⟨(some 75), (.call ⟨(.value (.func 24)), #[(.tmp 74)], #[23]⟩), 23, none⟩,
 ⟨(some 76), (.call ⟨(.value (.func 26)), #[(.tmp 73), (.tmp 75)], #[23, 23]⟩), 4, none⟩,
 ⟨(some 77), (.unOp .not 4 (.tmp 76)), 4, none⟩])
 (.cond (.tmp 77)
 (.seq
 (.ops [
 ⟨(some 8), (.assign (.const (.bool false))), 4, none⟩])
 .ret)
 .skip))
 (.seq
 (.ops [
 ⟨(some 8), (.assign (.const (.bool true))), 4, none⟩])
 .ret))))))))))))))))
theorem slim7 : Try.f7.body.map (slim lends) = some k7 := by kernel_rfl
theorem ok7 : fnOk Try.f7 4 = true := by kernel_rfl
theorem c7 {a l : List D} {r : D × List D} (h : wpD Y.env k7 (fin tys l.length [ResultVar.tmp 8] r) (entry a l)) (ha : a.length = 4) : Y.call 7 a l = some r :=
 call_slim (Y := Y) rfl Try.func7 (ha ▸ ok7) slim7 h
theorem l_FnExactRestRound_call (t0_ : List (Int × Int)) (t1_Ends : List (List (Int × Int))) (t1_Ids : List Int) (t1_Inputs : List Int) (t2_ : List Int) (t3_ : Int) {r : Bool} (h : l_FnExactRestRound t0_ t1_Ends t1_Ids t1_Inputs t2_ t3_ = some r) : Y.call 7 [D.sl 87 (cat2 .i64 .i64 t0_), D.agg [D.sl 90 (lst (fun x => D.sl 128 (cat2 .i64 .i64 x)) t1_Ends), D.sl 3 (lst (D.int .i64) t1_Ids), D.sl 3 (lst (D.int .i64) t1_Inputs)], D.sl 3 (lst (D.int .i64) t2_), D.int .i64 t3_] [] = some (D.bool r, []) := by
 refine c7 ?_ rfl
 unfold k7
 unfold l_FnExactRestRound at h
 by_cases e1 : 1048576 < (t2_.length : Int)
 ·rw [if_pos e1] at h
  obtain rfl := Option.some.inj h
  simp (maxDischargeDepth := 9) only [↓xpre, xpost, xlst, xcore, yset, ↓reduceIte, Nat.reduceEqDiff, Nat.reduceLT, e1] <;> (repeat' apply And.intro) <;> first | rfl | exact ⟨_, rfl⟩ | simp [lst, cat2_nil]
 ·rw [if_neg e1] at h
  obtain ⟨e2, h⟩ := ckS h
  obtain ⟨e3, h⟩ := ckS h
  have c4 := l_szValueOpS_cl t0_ (1048576 : Int) e2 e3
  by_cases e5 : (szN (1048576 : Int) t0_.length) < 0
  ·rw [if_pos e5] at h
   obtain rfl := Option.some.inj h
   simp (maxDischargeDepth := 9) only [↓xpre, xpost, xlst, xcore, yset, ↓reduceIte, Nat.reduceEqDiff, Nat.reduceLT, Nat.reduceAdd, e1, c4, e5] <;> (repeat' apply And.intro) <;> first | rfl | exact ⟨_, rfl⟩ | simp [lst, cat2_nil]
  ·rw [if_neg e5] at h
   obtain ⟨e6, h⟩ := ckS h
   obtain ⟨e7, h⟩ := ckS h
   obtain ⟨e8, h⟩ := ckS h
   obtain ⟨e9, h⟩ := ckS h
   have c10 := l_szNetwork_cl t1_Ends t1_Ids t1_Inputs (szN (1048576 : Int) t0_.length) e6 e7 e8 e9
   by_cases e11 : (szW (szN (1048576 : Int) t0_.length) t1_Ends t1_Ids t1_Inputs) < 0
   ·rw [if_pos e11] at h
    obtain rfl := Option.some.inj h
    simp (maxDischargeDepth := 9) only [↓xpre, xpost, xlst, xcore, yset, ↓reduceIte, Nat.reduceEqDiff, Nat.reduceLT, Nat.reduceAdd, e1, c4, e5, c10, e11] <;> (repeat' apply And.intro) <;> first | rfl | exact ⟨_, rfl⟩ | simp [lst, cat2_nil]
   ·rw [if_neg e11] at h
    obtain ⟨e12, h⟩ := ckS h
    have c13 := l_toValueOpS_cl t0_ e12
    obtain ⟨e14, h⟩ := ckS h
    obtain ⟨e15, h⟩ := ckS h
    obtain ⟨e16, h⟩ := ckS h
    have c17 := l_toNetwork_cl t1_Ends t1_Ids t1_Inputs e14 e15 e16
    obtain ⟨e18, h⟩ := ckS h
    have c19 := l_toIntS_cl t2_ e18
    obtain ⟨r20_, hl20, h⟩ := bindS h
    try dsimp only at h
    have c20 := s_RestRound_call t0_ t1_Ends t1_Ids t1_Inputs t2_ t3_ hl20
    have c21 := l_toValueOpS_cl t0_ e12
    have c22 := l_toNetwork_cl t1_Ends t1_Ids t1_Inputs e14 e15 e16
    have c23 := l_toIntS_cl t2_ e18
    obtain ⟨r24_, hl24, h⟩ := bindS h
    try dsimp only at h
    have c24 := i_RestRound_call t0_ t1_Ends t1_Ids t1_Inputs t2_ t3_ hl24
    by_cases e25 : r24_.1 = r20_.1
    ·rw [if_pos e25] at h
     by_cases e26 : r24_.2 = true
     ·rw [if_pos e26] at h
      by_cases e27 : r20_.2 = true
      ·rw [if_pos e27] at h
       have c28 := l_toValueOpS_cl t0_ e12
       have c29 := l_eqValueOpS_cl t0_ t0_ e12
       by_cases e30 : (decide (t0_ = t0_)) = true
       ·rw [if_pos e30] at h
        have c31 := l_toNetwork_cl t1_Ends t1_Ids t1_Inputs e14 e15 e16
        have c32 := l_eqNetwork_cl t1_Ends t1_Ids t1_Inputs t1_Ends t1_Ids t1_Inputs e14 e15 e16
        by_cases e33 : (sameN t1_Ends t1_Ids t1_Inputs t1_Ends t1_Ids t1_Inputs) = true
        ·rw [if_pos e33] at h
         have c34 := l_toIntS_cl t2_ e18
         have c35 := l_eqIntS_cl t2_ t2_ e18
         by_cases e36 : (decide (t2_ = t2_)) = true
         ·rw [if_pos e36] at h
          obtain rfl := Option.some.inj h
          simp (maxDischargeDepth := 9) only [↓xpre, xpost, xlst, xc2, xcore, yset, ↓reduceIte, Nat.reduceEqDiff, Nat.reduceLT, Nat.reduceAdd, Nat.reduceBEq, e1, c4, e5, c10, e11, c13, c17, c19, c20, c24, decide_eq_true e25, e26, e27, c29, c32, e33, c35] <;> (repeat' apply And.intro) <;> first | rfl | exact ⟨_, rfl⟩ | simp [lst, cat2_nil]
         ·exact absurd (decide_eq_true rfl) e36
        ·rw [if_neg e33] at h
         have e33f : (sameN t1_Ends t1_Ids t1_Inputs t1_Ends t1_Ids t1_Inputs) = false := Bool.eq_false_iff.mpr e33
         obtain rfl := Option.some.inj h
         simp (maxDischargeDepth := 9) only [↓xpre, xpost, xlst, xc2, xcore, yset, ↓reduceIte, Nat.reduceEqDiff, Nat.reduceLT, Nat.reduceAdd, Nat.reduceBEq, e1, c4, e5, c10, e11, c13, c17, c19, c20, c24, decide_eq_true e25, e26, e27, c29, c32, e33f] <;> (repeat' apply And.intro) <;> first | rfl | exact ⟨_, rfl⟩ | simp [lst, cat2_nil]
       ·exact absurd (decide_eq_true rfl) e30
      ·rw [if_neg e27] at h
       have e27f : r20_.2 = false := Bool.eq_false_iff.mpr e27
       obtain rfl := Option.some.inj h
       simp (maxDischargeDepth := 9) only [↓xpre, xpost, xlst, xc2, xcore, yset, ↓reduceIte, Nat.reduceEqDiff, Nat.reduceLT, Nat.reduceAdd, Nat.reduceBEq, e1, c4, e5, c10, e11, c13, c17, c19, c20, c24, decide_eq_true e25, e26, e27f] <;> (repeat' apply And.intro) <;> first | rfl | exact ⟨_, rfl⟩ | simp [lst, cat2_nil]
     ·rw [if_neg e26] at h
      have e26f : r24_.2 = false := Bool.eq_false_iff.mpr e26
      by_cases e27 : r20_.2 = true
      ·rw [if_pos e27] at h
       obtain rfl := Option.some.inj h
       simp (maxDischargeDepth := 9) only [↓xpre, xpost, xlst, xc2, xcore, yset, ↓reduceIte, Nat.reduceEqDiff, Nat.reduceLT, Nat.reduceAdd, Nat.reduceBEq, e1, c4, e5, c10, e11, c13, c17, c19, c20, c24, decide_eq_true e25, e26f, e27] <;> (repeat' apply And.intro) <;> first | rfl | exact ⟨_, rfl⟩ | simp [lst, cat2_nil]
      ·rw [if_neg e27] at h
       have e27f : r20_.2 = false := Bool.eq_false_iff.mpr e27
       have c28 := l_toValueOpS_cl t0_ e12
       have c29 := l_eqValueOpS_cl t0_ t0_ e12
       by_cases e30 : (decide (t0_ = t0_)) = true
       ·rw [if_pos e30] at h
        have c31 := l_toNetwork_cl t1_Ends t1_Ids t1_Inputs e14 e15 e16
        have c32 := l_eqNetwork_cl t1_Ends t1_Ids t1_Inputs t1_Ends t1_Ids t1_Inputs e14 e15 e16
        by_cases e33 : (sameN t1_Ends t1_Ids t1_Inputs t1_Ends t1_Ids t1_Inputs) = true
        ·rw [if_pos e33] at h
         have c34 := l_toIntS_cl t2_ e18
         have c35 := l_eqIntS_cl t2_ t2_ e18
         by_cases e36 : (decide (t2_ = t2_)) = true
         ·rw [if_pos e36] at h
          obtain rfl := Option.some.inj h
          simp (maxDischargeDepth := 9) only [↓xpre, xpost, xlst, xc2, xcore, yset, ↓reduceIte, Nat.reduceEqDiff, Nat.reduceLT, Nat.reduceAdd, Nat.reduceBEq, e1, c4, e5, c10, e11, c13, c17, c19, c20, c24, decide_eq_true e25, e26f, e27f, c29, c32, e33, c35] <;> (repeat' apply And.intro) <;> first | rfl | exact ⟨_, rfl⟩ | simp [lst, cat2_nil]
         ·exact absurd (decide_eq_true rfl) e36
        ·rw [if_neg e33] at h
         have e33f : (sameN t1_Ends t1_Ids t1_Inputs t1_Ends t1_Ids t1_Inputs) = false := Bool.eq_false_iff.mpr e33
         obtain rfl := Option.some.inj h
         simp (maxDischargeDepth := 9) only [↓xpre, xpost, xlst, xc2, xcore, yset, ↓reduceIte, Nat.reduceEqDiff, Nat.reduceLT, Nat.reduceAdd, Nat.reduceBEq, e1, c4, e5, c10, e11, c13, c17, c19, c20, c24, decide_eq_true e25, e26f, e27f, c29, c32, e33f] <;> (repeat' apply And.intro) <;> first | rfl | exact ⟨_, rfl⟩ | simp [lst, cat2_nil]
       ·exact absurd (decide_eq_true rfl) e30
    ·rw [if_neg e25] at h
     obtain rfl := Option.some.inj h
     simp (maxDischargeDepth := 9) only [↓xpre, xpost, xlst, xc2, xcore, yset, ↓reduceIte, Nat.reduceEqDiff, Nat.reduceLT, Nat.reduceAdd, Nat.reduceBEq, e1, c4, e5, c10, e11, c13, c17, c19, c20, c24, e25] <;> (repeat' apply And.intro) <;> first | rfl | exact ⟨_, rfl⟩ | simp [lst, cat2_nil]


end Go.Proofs.Ytjkgcfdcfjkkbaa
