/- Texts of value programs read: the law, lifted. Conditions: none. -/
import Derived.Test.YtaogbcdlpgfplaaDoorL6
import Derived.Test.YtaogbcdlpgfplaaDoorTxW
import Derived.Test.YtaogbcdlpgfplaaDoorVot
import Derived.Test.YtaogbcdlpgfplaaDoorVmk
namespace Go.Proofs.YtaogbcdlpgfplaaDoor
open Go Dv
set_option linter.unusedSimpArgs false
set_option linter.unusedVariables false
set_option maxRecDepth 100000
set_option maxHeartbeats 4000000

noncomputable def l_FnExactParseValue (t0_ : ByteArray) : Option (Bool) :=
 if 1048576 < (t0_.size : Int) then
  some true
 else
  (s_ParseValue t0_).bind fun r16_ =>
  (i_ParseValue t0_).bind fun r21_ =>
  ck (r21_.1.length < 549755813888) <|
  if (decide (r21_.1 = r16_.1)) = true then
   if r21_.2 = true then
    if r16_.2 = true then
     (l_markValueOpS r21_.1 (1 : Int)).bind fun r35_ =>
     (l_heldValueOpS r35_.2 (1 : Int)).bind fun r38_ =>
     if r38_ < 0 then
      some false
     else
      if r38_ = r35_.1 then
       some true
      else
       some false
    else
     some false
   else
    if r16_.2 = true then
     some false
    else
     (l_markValueOpS r21_.1 (1 : Int)).bind fun r35_ =>
     (l_heldValueOpS r35_.2 (1 : Int)).bind fun r38_ =>
     if r38_ < 0 then
      some false
     else
      if r38_ = r35_.1 then
       some true
      else
       some false
  else
   some false
/-- laws.FnExactParseValue -/
def k4 : SC :=
 .seq
 (.ops [
 ⟨(some 2), (.assign (.const (.bool false))), 4, none⟩])
 (.seq
 (.seq
 (.ops [
 ⟨(some 11), (.move (.tmp 0)), 9, none⟩,
 ⟨(some 12), (.call ⟨(.builtin .len), #[(.tmp 11)], #[9]⟩), 3, none⟩,
 ⟨(some 13), (.binOp .gtr 3 (.tmp 12) (.const (.int .i64 1048576)) 3), 4, none⟩])
 (.cond (.tmp 13)
 (.seq
 (.ops [
 ⟨(some 2), (.assign (.const (.bool true))), 4, none⟩])
 .ret)
 .skip))
 (.seq
 (.ops [
 ⟨(some 15), (.move (.tmp 0)), 9, none⟩,
 ⟨(some 16), (.call ⟨(.value (.func 12)), #[(.tmp 15)], #[9]⟩), 30, none⟩,
 ⟨(some 14), (.move (.tmp 16)), 30, none⟩,
 ⟨(some 17), (.extract (.tmp 14) 0), 26, none⟩,
 ⟨(some 18), (.extract (.tmp 14) 1), 4, none⟩,
 ⟨(some 3), (.assign (.tmp 17)), 26, none⟩,
 ⟨(some 4), (.assign (.tmp 18)), 4, none⟩])
 (.seq
 (.ops [
 ⟨(some 20), (.move (.tmp 0)), 9, none⟩,
 ⟨(some 21), (.call ⟨(.value (.func 13)), #[(.tmp 20)], #[9]⟩), 30, none⟩,
 ⟨(some 19), (.move (.tmp 21)), 30, none⟩,
 ⟨(some 22), (.extract (.tmp 19) 0), 26, none⟩,
 ⟨(some 23), (.extract (.tmp 19) 1), 4, none⟩,
 ⟨(some 5), (.assign (.tmp 22)), 26, none⟩,
 ⟨(some 6), (.assign (.tmp 23)), 4, none⟩])
 (.seq
 (.seq
 (.ops [
 ⟨(some 24), (.move (.tmp 5)), 26, none⟩,
 ⟨(some 25), (.move (.tmp 3)), 26, none⟩,
 ⟨(some 26), (.call ⟨(.value (.func 11)), #[(.tmp 24), (.tmp 25)], #[26, 26]⟩), 4, none⟩,
 ⟨(some 27), (.unOp .not 4 (.tmp 26)), 4, none⟩,
 ⟨(some 28), (.move (.tmp 27)), 4, none⟩,
 ⟨(some 29), (.move (.tmp 6)), 4, (some (some 28, false))⟩,
 ⟨(some 30), (.move (.tmp 4)), 4, (some (some 28, false))⟩,
 ⟨(some 31), (.binOp .neq 4 (.tmp 29) (.tmp 30) 4), 4, (some (some 28, false))⟩,
 ⟨(some 32), (.pick (.tmp 28) (.const (.bool true)) (.tmp 31)), 4, none⟩])
 (.cond (.tmp 32)
 (.seq
 (.ops [
 ⟨(some 2), (.assign (.const (.bool false))), 4, none⟩])
 .ret)
 .skip))
 (.seq
 (.ops [
 ⟨(some 7), (.assign (.const (.int .i64 1))), 3, none⟩])
 (.seq
 (.ops [
 ⟨(some 33), (.move (.tmp 5)), 26, none⟩,
 ⟨(some 34), (.move (.tmp 7)), 3, none⟩,
 ⟨(some 35), (.call ⟨(.value (.func 14)), #[(.tmp 33), (.tmp 34)], #[26, 3]⟩), 3, none⟩,
 ⟨(some 7), (.assign (.tmp 35)), 3, none⟩])
 (.seq
 (.ops [
 ⟨(some 8), (.assign (.const (.int .i64 1))), 3, none⟩])
 (.seq
 (.ops [
 ⟨(some 36), (.move (.tmp 5)), 26, none⟩,
 ⟨(some 37), (.move (.tmp 8)), 3, none⟩,
 ⟨(some 38), (.call ⟨(.value (.func 15)), #[(.tmp 36), (.tmp 37)], #[26, 3]⟩), 3, none⟩,
 ⟨(some 8), (.assign (.tmp 38)), 3, none⟩])
 (.seq
 (.seq
 (.ops [
 ⟨(some 39), (.move (.tmp 8)), 3, none⟩,
 ⟨(some 40), (.binOp .lss 3 (.tmp 39) (.const (.int .i64 0)) 3), 4, none⟩])
 (.cond (.tmp 40)
 (.seq
 (.ops [
 ⟨(some 2), (.assign (.const (.bool false))), 4, none⟩])
 .ret)
 .skip))
 (.seq
 (.seq
 (.ops [
 ⟨(some 41), (.move (.tmp 8)), 3, none⟩,
 ⟨(some 42), (.move (.tmp 7)), 3, none⟩,
 ⟨(some 43), (.binOp .neq 3 (.tmp 41) (.tmp 42) 3), 4, none⟩])
 (.cond (.tmp 43)
 (.seq
 (.ops [
 ⟨(some 2), (.assign (.const (.bool false))), 4, none⟩])
 .ret)
 .skip))
 (.seq
 (.ops [
 ⟨(some 45), (.move (.tmp 0)), 9, none⟩,
 ⟨(some 46), (.call ⟨(.value (.func 13)), #[(.tmp 45)], #[9]⟩), 30, none⟩,
 ⟨(some 44), (.move (.tmp 46)), 30, none⟩,
 ⟨(some 47), (.extract (.tmp 44) 0), 26, none⟩,
 ⟨(some 48), (.extract (.tmp 44) 1), 4, none⟩,
 ⟨(some 9), (.assign (.tmp 47)), 26, none⟩,
 ⟨(some 10), (.assign (.tmp 48)), 4, none⟩])
 (.seq
 (.seq
 (.ops [
 ⟨(some 49), (.move (.tmp 9)), 26, none⟩,
 ⟨(some 50), (.move (.tmp 3)), 26, none⟩,
 ⟨(some 51), (.call ⟨(.value (.func 11)), #[(.tmp 49), (.tmp 50)], #[26, 26]⟩), 4, none⟩,
 ⟨(some 52), (.unOp .not 4 (.tmp 51)), 4, none⟩,
 ⟨(some 53), (.move (.tmp 52)), 4, none⟩,
 ⟨(some 54), (.move (.tmp 10)), 4, (some (some 53, false))⟩,
 ⟨(some 55), (.move (.tmp 4)), 4, (some (some 53, false))⟩,
 ⟨(some 56), (.binOp .neq 4 (.tmp 54) (.tmp 55) 4), 4, (some (some 53, false))⟩,
 ⟨(some 57), (.pick (.tmp 53) (.const (.bool true)) (.tmp 56)), 4, none⟩])
 (.cond (.tmp 57)
 (.seq
 (.ops [
 ⟨(some 2), (.assign (.const (.bool false))), 4, none⟩])
 .ret)
 .skip))
 (.seq
 (.ops [
 ⟨(some 8), (.assign (.const (.int .i64 1))), 3, none⟩])
 (.seq
 (.ops [
 ⟨(some 58), (.move (.tmp 5)), 26, none⟩,
 ⟨(some 59), (.move (.tmp 8)), 3, none⟩,
 ⟨(some 60), (.call ⟨(.value (.func 15)), #[(.tmp 58), (.tmp 59)], #[26, 3]⟩), 3, none⟩,
 ⟨(some 8), (.assign (.tmp 60)), 3, none⟩])
 (.seq
 (.seq
 (.ops [
 ⟨(some 61), (.move (.tmp 8)), 3, none⟩,
 ⟨(some 62), (.binOp .lss 3 (.tmp 61) (.const (.int .i64 0)) 3), 4, none⟩])
 (.cond (.tmp 62)
 (.seq
 (.ops [
 ⟨(some 2), (.assign (.const (.bool false))), 4, none⟩])
 .ret)
 .skip))
 (.seq
 (.seq
 (.ops [
 ⟨(some 63), (.move (.tmp 8)), 3, none⟩,
 ⟨(some 64), (.move (.tmp 7)), 3, none⟩,
 ⟨(some 65), (.binOp .neq 3 (.tmp 63) (.tmp 64) 3), 4, none⟩])
 (.cond (.tmp 65)
 (.seq
 (.ops [
 ⟨(some 2), (.assign (.const (.bool false))), 4, none⟩])
 .ret)
 .skip))
 (.seq
 (.ops [
 ⟨(some 2), (.assign (.const (.bool true))), 4, none⟩])
 .ret)))))))))))))))))
theorem slim4 : Tryd.f4.body.map (slim lends) = some k4 := by kernel_rfl
theorem ok4 : fnOk Tryd.f4 1 = true := by kernel_rfl
theorem c4 {a l : List D} {r : D × List D} (h : wpD Y.env k4 (fin tys l.length [ResultVar.tmp 2] r) (entry a l)) (ha : a.length = 1) : Y.call 4 a l = some r :=
 call_slim (Y := Y) rfl Tryd.func4 (ha ▸ ok4) slim4 h
theorem l_FnExactParseValue_call (t0_ : ByteArray) {r : Bool} (h : l_FnExactParseValue t0_ = some r) : Y.call 4 [D.str t0_] [] = some (D.bool r, []) := by
 refine c4 ?_ rfl
 unfold k4
 unfold l_FnExactParseValue at h
 by_cases e1 : 1048576 < (t0_.size : Int)
 ·rw [if_pos e1] at h
  obtain rfl := Option.some.inj h
  simp (maxDischargeDepth := 9) only [↓xpre, xpost, xlst, xc2, xcore, yset, rg0, ↓reduceIte, Nat.reduceEqDiff, Nat.reduceLT, Nat.reduceLeDiff, Nat.reduceAdd, Nat.reduceMul, Nat.reduceMod, Nat.reduceDiv, Nat.reducePow, Nat.reduceSub, Nat.reduceBEq, Int.reduceLE, Int.reduceLT, Int.reduceEq, Int.reduceSub, Int.reduceAdd, Int.reduceToNat, Int.reduceNeg, e1] <;> (repeat' apply And.intro) <;> first | rfl | exact ⟨_, rfl⟩ | exact ⟨_, _, rfl⟩ | simp [lst, cat2_nil]
 ·rw [if_neg e1] at h
  obtain ⟨r16_, hl2, h⟩ := bindS h
  try dsimp only at h
  have c2 := s_ParseValue_call t0_ hl2
  obtain ⟨r21_, hl3, h⟩ := bindS h
  try dsimp only at h
  have c3 := i_ParseValue_call t0_ hl3
  obtain ⟨e4, h⟩ := ckS h
  have c5 := l_eqValueOpS_cl r21_.1 r16_.1 e4
  by_cases e6 : (decide (r21_.1 = r16_.1)) = true
  ·rw [if_pos e6] at h
   by_cases e7 : r21_.2 = true
   ·rw [if_pos e7] at h
    by_cases e8 : r16_.2 = true
    ·rw [if_pos e8] at h
     obtain ⟨r35_, hl9, h⟩ := bindS h
     try dsimp only at h
     have c9 := l_markValueOpS_call r21_.1 (1 : Int) hl9
     obtain ⟨r38_, hl10, h⟩ := bindS h
     try dsimp only at h
     have c10 := l_heldValueOpS_call r35_.2 (1 : Int) hl10
     by_cases e11 : r38_ < 0
     ·rw [if_pos e11] at h
      obtain rfl := Option.some.inj h
      simp (maxDischargeDepth := 9) only [↓xpre, xpost, xlst, xc2, xcore, yset, rg0, ↓reduceIte, Nat.reduceEqDiff, Nat.reduceLT, Nat.reduceLeDiff, Nat.reduceAdd, Nat.reduceMul, Nat.reduceMod, Nat.reduceDiv, Nat.reducePow, Nat.reduceSub, Nat.reduceBEq, Int.reduceLE, Int.reduceLT, Int.reduceEq, Int.reduceSub, Int.reduceAdd, Int.reduceToNat, Int.reduceNeg, e1, c2, c3, e4, c5, e6, e7, e8, c9, c10, e11] <;> (repeat' apply And.intro) <;> first | rfl | exact ⟨_, rfl⟩ | exact ⟨_, _, rfl⟩ | simp [lst, cat2_nil]
     ·rw [if_neg e11] at h
      by_cases e12 : r38_ = r35_.1
      ·rw [if_pos e12] at h
       have c13 := l_eqValueOpS_cl r21_.1 r16_.1 e4
       obtain rfl := Option.some.inj h
       simp (maxDischargeDepth := 9) only [↓xpre, xpost, xlst, xc2, xcore, yset, rg0, ↓reduceIte, Nat.reduceEqDiff, Nat.reduceLT, Nat.reduceLeDiff, Nat.reduceAdd, Nat.reduceMul, Nat.reduceMod, Nat.reduceDiv, Nat.reducePow, Nat.reduceSub, Nat.reduceBEq, Int.reduceLE, Int.reduceLT, Int.reduceEq, Int.reduceSub, Int.reduceAdd, Int.reduceToNat, Int.reduceNeg, e1, c2, c3, e4, c5, e6, e7, e8, c9, c10, e11, decide_eq_true e12, c13] <;> (repeat' apply And.intro) <;> first | rfl | exact ⟨_, rfl⟩ | exact ⟨_, _, rfl⟩ | simp [lst, cat2_nil]
      ·rw [if_neg e12] at h
       obtain rfl := Option.some.inj h
       simp (maxDischargeDepth := 9) only [↓xpre, xpost, xlst, xc2, xcore, yset, rg0, ↓reduceIte, Nat.reduceEqDiff, Nat.reduceLT, Nat.reduceLeDiff, Nat.reduceAdd, Nat.reduceMul, Nat.reduceMod, Nat.reduceDiv, Nat.reducePow, Nat.reduceSub, Nat.reduceBEq, Int.reduceLE, Int.reduceLT, Int.reduceEq, Int.reduceSub, Int.reduceAdd, Int.reduceToNat, Int.reduceNeg, e1, c2, c3, e4, c5, e6, e7, e8, c9, c10, e11, e12] <;> (repeat' apply And.intro) <;> first | rfl | exact ⟨_, rfl⟩ | exact ⟨_, _, rfl⟩ | simp [lst, cat2_nil]
    ·rw [if_neg e8] at h
     have e8f : r16_.2 = false := Bool.eq_false_iff.mpr e8
     obtain rfl := Option.some.inj h
     simp (maxDischargeDepth := 9) only [↓xpre, xpost, xlst, xc2, xcore, yset, rg0, ↓reduceIte, Nat.reduceEqDiff, Nat.reduceLT, Nat.reduceLeDiff, Nat.reduceAdd, Nat.reduceMul, Nat.reduceMod, Nat.reduceDiv, Nat.reducePow, Nat.reduceSub, Nat.reduceBEq, Int.reduceLE, Int.reduceLT, Int.reduceEq, Int.reduceSub, Int.reduceAdd, Int.reduceToNat, Int.reduceNeg, e1, c2, c3, e4, c5, e6, e7, e8f] <;> (repeat' apply And.intro) <;> first | rfl | exact ⟨_, rfl⟩ | exact ⟨_, _, rfl⟩ | simp [lst, cat2_nil]
   ·rw [if_neg e7] at h
    have e7f : r21_.2 = false := Bool.eq_false_iff.mpr e7
    by_cases e8 : r16_.2 = true
    ·rw [if_pos e8] at h
     obtain rfl := Option.some.inj h
     simp (maxDischargeDepth := 9) only [↓xpre, xpost, xlst, xc2, xcore, yset, rg0, ↓reduceIte, Nat.reduceEqDiff, Nat.reduceLT, Nat.reduceLeDiff, Nat.reduceAdd, Nat.reduceMul, Nat.reduceMod, Nat.reduceDiv, Nat.reducePow, Nat.reduceSub, Nat.reduceBEq, Int.reduceLE, Int.reduceLT, Int.reduceEq, Int.reduceSub, Int.reduceAdd, Int.reduceToNat, Int.reduceNeg, e1, c2, c3, e4, c5, e6, e7f, e8] <;> (repeat' apply And.intro) <;> first | rfl | exact ⟨_, rfl⟩ | exact ⟨_, _, rfl⟩ | simp [lst, cat2_nil]
    ·rw [if_neg e8] at h
     have e8f : r16_.2 = false := Bool.eq_false_iff.mpr e8
     obtain ⟨r35_, hl9, h⟩ := bindS h
     try dsimp only at h
     have c9 := l_markValueOpS_call r21_.1 (1 : Int) hl9
     obtain ⟨r38_, hl10, h⟩ := bindS h
     try dsimp only at h
     have c10 := l_heldValueOpS_call r35_.2 (1 : Int) hl10
     by_cases e11 : r38_ < 0
     ·rw [if_pos e11] at h
      obtain rfl := Option.some.inj h
      simp (maxDischargeDepth := 9) only [↓xpre, xpost, xlst, xc2, xcore, yset, rg0, ↓reduceIte, Nat.reduceEqDiff, Nat.reduceLT, Nat.reduceLeDiff, Nat.reduceAdd, Nat.reduceMul, Nat.reduceMod, Nat.reduceDiv, Nat.reducePow, Nat.reduceSub, Nat.reduceBEq, Int.reduceLE, Int.reduceLT, Int.reduceEq, Int.reduceSub, Int.reduceAdd, Int.reduceToNat, Int.reduceNeg, e1, c2, c3, e4, c5, e6, e7f, e8f, c9, c10, e11] <;> (repeat' apply And.intro) <;> first | rfl | exact ⟨_, rfl⟩ | exact ⟨_, _, rfl⟩ | simp [lst, cat2_nil]
     ·rw [if_neg e11] at h
      by_cases e12 : r38_ = r35_.1
      ·rw [if_pos e12] at h
       have c13 := l_eqValueOpS_cl r21_.1 r16_.1 e4
       obtain rfl := Option.some.inj h
       simp (maxDischargeDepth := 9) only [↓xpre, xpost, xlst, xc2, xcore, yset, rg0, ↓reduceIte, Nat.reduceEqDiff, Nat.reduceLT, Nat.reduceLeDiff, Nat.reduceAdd, Nat.reduceMul, Nat.reduceMod, Nat.reduceDiv, Nat.reducePow, Nat.reduceSub, Nat.reduceBEq, Int.reduceLE, Int.reduceLT, Int.reduceEq, Int.reduceSub, Int.reduceAdd, Int.reduceToNat, Int.reduceNeg, e1, c2, c3, e4, c5, e6, e7f, e8f, c9, c10, e11, decide_eq_true e12, c13] <;> (repeat' apply And.intro) <;> first | rfl | exact ⟨_, rfl⟩ | exact ⟨_, _, rfl⟩ | simp [lst, cat2_nil]
      ·rw [if_neg e12] at h
       obtain rfl := Option.some.inj h
       simp (maxDischargeDepth := 9) only [↓xpre, xpost, xlst, xc2, xcore, yset, rg0, ↓reduceIte, Nat.reduceEqDiff, Nat.reduceLT, Nat.reduceLeDiff, Nat.reduceAdd, Nat.reduceMul, Nat.reduceMod, Nat.reduceDiv, Nat.reducePow, Nat.reduceSub, Nat.reduceBEq, Int.reduceLE, Int.reduceLT, Int.reduceEq, Int.reduceSub, Int.reduceAdd, Int.reduceToNat, Int.reduceNeg, e1, c2, c3, e4, c5, e6, e7f, e8f, c9, c10, e11, e12] <;> (repeat' apply And.intro) <;> first | rfl | exact ⟨_, rfl⟩ | exact ⟨_, _, rfl⟩ | simp [lst, cat2_nil]
  ·rw [if_neg e6] at h
   have e6f : (decide (r21_.1 = r16_.1)) = false := Bool.eq_false_iff.mpr e6
   obtain rfl := Option.some.inj h
   simp (maxDischargeDepth := 9) only [↓xpre, xpost, xlst, xc2, xcore, yset, rg0, ↓reduceIte, Nat.reduceEqDiff, Nat.reduceLT, Nat.reduceLeDiff, Nat.reduceAdd, Nat.reduceMul, Nat.reduceMod, Nat.reduceDiv, Nat.reducePow, Nat.reduceSub, Nat.reduceBEq, Int.reduceLE, Int.reduceLT, Int.reduceEq, Int.reduceSub, Int.reduceAdd, Int.reduceToNat, Int.reduceNeg, e1, c2, c3, e4, c5, e6f] <;> (repeat' apply And.intro) <;> first | rfl | exact ⟨_, rfl⟩ | exact ⟨_, _, rfl⟩ | simp [lst, cat2_nil]


end Go.Proofs.YtaogbcdlpgfplaaDoor
