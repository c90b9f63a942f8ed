/- Texts of value programs, lifted. Conditions: none. -/
import Derived.Test.YtaogbcdlpgfplaaDoorL6
import Derived.Test.YtaogbcdlpgfplaaDoorTxA
namespace Go.Proofs.YtaogbcdlpgfplaaDoor
open Go Dv
set_option linter.unusedSimpArgs false
set_option linter.unusedVariables false
set_option maxRecDepth 100000
set_option maxHeartbeats 4000000

noncomputable def i_ValueOp_needs (o_Kind : Int) (o_Value : Int) : Option (Int) :=
 if o_Kind ≤ 10 then
  some 0
 else
  if o_Kind ≤ 12 then
   some 1
  else
   if o_Kind ≤ 18 then
    some 2
   else
    some 3
/-- impl.ValueOp).needs -/
def k55 : SC :=
 .seq
 (.ops [
 ⟨(some 1), (.box 49 (.tmp 0)), 0, none⟩,
 ⟨(some 2), (.assign (.const (.int .i64 0))), 3, none⟩])
 (.seq
 (.block 0
 (.seq
 (.ops [
 ⟨(some 4), (.fieldAddr 49 (.tmp 1) 0), 0, none⟩,
 ⟨(some 5), (.load 3 (.tmp 4)), 3, none⟩,
 ⟨(some 6), (.binOp .leq 3 (.tmp 5) (.const (.int .i64 10)) 3), 4, none⟩,
 ⟨(some 3), (.assign (.tmp 6)), 4, none⟩])
 (.cond (.tmp 3)
 (.seq
 (.ops [
 ⟨(some 2), (.assign (.const (.int .i64 0))), 3, none⟩])
 .ret)
 (.seq
 (.ops [
 ⟨(some 8), (.fieldAddr 49 (.tmp 1) 0), 0, none⟩,
 ⟨(some 9), (.load 3 (.tmp 8)), 3, none⟩,
 ⟨(some 10), (.binOp .leq 3 (.tmp 9) (.const (.int .i64 12)) 3), 4, none⟩,
 ⟨(some 7), (.assign (.tmp 10)), 4, none⟩])
 (.cond (.tmp 7)
 (.seq
 (.ops [
 ⟨(some 2), (.assign (.const (.int .i64 1))), 3, none⟩])
 .ret)
 (.seq
 (.ops [
 ⟨(some 12), (.fieldAddr 49 (.tmp 1) 0), 0, none⟩,
 ⟨(some 13), (.load 3 (.tmp 12)), 3, none⟩,
 ⟨(some 14), (.binOp .leq 3 (.tmp 13) (.const (.int .i64 18)) 3), 4, none⟩,
 ⟨(some 11), (.assign (.tmp 14)), 4, none⟩])
 (.cond (.tmp 11)
 (.seq
 (.ops [
 ⟨(some 2), (.assign (.const (.int .i64 2))), 3, none⟩])
 .ret)
 .skip)))))))
 (.seq
 (.ops [
 ⟨(some 2), (.assign (.const (.int .i64 3))), 3, none⟩])
 .ret))
theorem slim55 : Tryd.f55.body.map (slim lends) = some k55 := by kernel_rfl
theorem ok55 : fnOk Tryd.f55 1 = true := by kernel_rfl
theorem c55 {a l : List D} {r : D × List D} (h : wpD Y.env k55 (fin tys l.length [ResultVar.tmp 2] r) (entry a l)) (ha : a.length = 1) : Y.call 55 a l = some r :=
 call_slim (Y := Y) rfl Tryd.func55 (ha ▸ ok55) slim55 h
theorem i_ValueOp_needs_call (o_Kind : Int) (o_Value : Int) {r : Int} (h : i_ValueOp_needs o_Kind o_Value = some r) : Y.call 55 [D.agg [D.int .i64 o_Kind, D.int .i64 o_Value]] [] = some (D.int .i64 r, []) := by
 refine c55 ?_ rfl
 unfold k55
 unfold i_ValueOp_needs at h
 by_cases e1 : o_Kind ≤ 10
 ·rw [if_pos e1] at h
  obtain rfl := Option.some.inj h
  simp (maxDischargeDepth := 9) only [↓xpre, xpost, xlst, xc2, xcore, yset, rg0, ↓reduceIte, Nat.reduceEqDiff, Nat.reduceLT, Nat.reduceLeDiff, Nat.reduceAdd, Nat.reduceMul, Nat.reduceMod, Nat.reduceDiv, Nat.reducePow, Nat.reduceSub, Nat.reduceBEq, Int.reduceLE, Int.reduceLT, Int.reduceEq, Int.reduceSub, Int.reduceAdd, Int.reduceToNat, Int.reduceNeg, e1] <;> (repeat' apply And.intro) <;> first | rfl | exact ⟨_, rfl⟩ | exact ⟨_, _, rfl⟩ | simp [lst, cat2_nil]
 ·rw [if_neg e1] at h
  by_cases e2 : o_Kind ≤ 12
  ·rw [if_pos e2] at h
   obtain rfl := Option.some.inj h
   simp (maxDischargeDepth := 9) only [↓xpre, xpost, xlst, xc2, xcore, yset, rg0, ↓reduceIte, Nat.reduceEqDiff, Nat.reduceLT, Nat.reduceLeDiff, Nat.reduceAdd, Nat.reduceMul, Nat.reduceMod, Nat.reduceDiv, Nat.reducePow, Nat.reduceSub, Nat.reduceBEq, Int.reduceLE, Int.reduceLT, Int.reduceEq, Int.reduceSub, Int.reduceAdd, Int.reduceToNat, Int.reduceNeg, e1, e2] <;> (repeat' apply And.intro) <;> first | rfl | exact ⟨_, rfl⟩ | exact ⟨_, _, rfl⟩ | simp [lst, cat2_nil]
  ·rw [if_neg e2] at h
   by_cases e3 : o_Kind ≤ 18
   ·rw [if_pos e3] at h
    obtain rfl := Option.some.inj h
    simp (maxDischargeDepth := 9) only [↓xpre, xpost, xlst, xc2, xcore, yset, rg0, ↓reduceIte, Nat.reduceEqDiff, Nat.reduceLT, Nat.reduceLeDiff, Nat.reduceAdd, Nat.reduceMul, Nat.reduceMod, Nat.reduceDiv, Nat.reducePow, Nat.reduceSub, Nat.reduceBEq, Int.reduceLE, Int.reduceLT, Int.reduceEq, Int.reduceSub, Int.reduceAdd, Int.reduceToNat, Int.reduceNeg, e1, e2, e3] <;> (repeat' apply And.intro) <;> first | rfl | exact ⟨_, rfl⟩ | exact ⟨_, _, rfl⟩ | simp [lst, cat2_nil]
   ·rw [if_neg e3] at h
    obtain rfl := Option.some.inj h
    simp (maxDischargeDepth := 9) only [↓xpre, xpost, xlst, xc2, xcore, yset, rg0, ↓reduceIte, Nat.reduceEqDiff, Nat.reduceLT, Nat.reduceLeDiff, Nat.reduceAdd, Nat.reduceMul, Nat.reduceMod, Nat.reduceDiv, Nat.reducePow, Nat.reduceSub, Nat.reduceBEq, Int.reduceLE, Int.reduceLT, Int.reduceEq, Int.reduceSub, Int.reduceAdd, Int.reduceToNat, Int.reduceNeg, e1, e2, e3] <;> (repeat' apply And.intro) <;> first | rfl | exact ⟨_, rfl⟩ | exact ⟨_, _, rfl⟩ | simp [lst, cat2_nil]

noncomputable def i_IsValueProgram_l0_S (prog : List (Int × Int)) (height : Int) (t13_ : Int) : Option ((Int × Int) ⊕ (Unit ⊕ Int)) :=
 if t13_ < (prog.length : Int) then
  ck (0 ≤ t13_ ∧ t13_.toNat < prog.length) <|
  if (fstD prog t13_.toNat) = 1 then
   if (inR (fstD prog t13_.toNat) (1 : Int) (19 : Int)) = true then
    if (inR (sndD prog t13_.toNat) (0 : Int) (1000000 : Int)) = true then
     (i_ValueOp_needs (fstD prog t13_.toNat) (sndD prog t13_.toNat)).bind fun r34_ =>
     if height < r34_ then
      some (Sum.inr (Sum.inl ()))
     else
      some (Sum.inl (IntKind.i64.wrap (height + (IntKind.i64.wrap (1 - r34_))), IntKind.i64.wrap (t13_ + 1)))
    else
     some (Sum.inr (Sum.inl ()))
   else
    some (Sum.inr (Sum.inl ()))
  else
   if (inR (fstD prog t13_.toNat) (1 : Int) (19 : Int)) = true then
    if (inR (sndD prog t13_.toNat) (0 : Int) (0 : Int)) = true then
     (i_ValueOp_needs (fstD prog t13_.toNat) (sndD prog t13_.toNat)).bind fun r34_ =>
     if height < r34_ then
      some (Sum.inr (Sum.inl ()))
     else
      some (Sum.inl (IntKind.i64.wrap (height + (IntKind.i64.wrap (1 - r34_))), IntKind.i64.wrap (t13_ + 1)))
    else
     some (Sum.inr (Sum.inl ()))
   else
    some (Sum.inr (Sum.inl ()))
 else
  some (Sum.inr (Sum.inr height))
noncomputable def i_IsValueProgram_l0 (prog : List (Int × Int)) (v : Int × Int) : Option (Unit ⊕ Int) := itO (fun v => i_IsValueProgram_l0_S prog v.1 v.2) v
noncomputable def i_IsValueProgram (prog : List (Int × Int)) : Option (Bool) :=
 if (inR (prog.length : Int) (1 : Int) (40 : Int)) = true then
  (i_IsValueProgram_l0 prog (0, 0)).bind fun r1000_ =>
  match r1000_ with
  | .inl q1000_ =>
   some false
  | .inr q1000_ =>
   some (decide (q1000_ = 1))
 else
  some false
/-- impl.IsValueProgram -/
def k28_l0b : SC :=
 .seq
 (.ops [
 ⟨(some 14), (.binOp .lss 3 (.tmp 13) (.tmp 12) 3), 0, none⟩])
 (.seq
 (.cond (.tmp 14)
 .skip
 (.exit 0))
 (.seq
 (.block 1
 (.seq
 (.ops [
 ⟨(some 15), (.indexAddr 26 (.tmp 11) (.tmp 13)), 0, none⟩,
 ⟨(some 16), (.load 49 (.tmp 15)), 49, none⟩,
 ⟨(some 5), (.alloc 49), 0, none⟩,
 ⟨none, (.store 49 (.tmp 5) (.tmp 16)), 0, none⟩])
 (.seq
 (.ops [
 ⟨(some 6), (.assign (.const (.int .i64 0))), 3, none⟩])
 (.seq
 (.seq
 (.ops [
 ⟨(some 17), (.fieldAddr 49 (.tmp 5) 0), 0, none⟩,
 ⟨(some 18), (.load 3 (.tmp 17)), 3, none⟩,
 ⟨(some 19), (.binOp .eql 3 (.tmp 18) (.const (.int .i64 1)) 3), 4, none⟩])
 (.cond (.tmp 19)
 (.ops [
 ⟨(some 6), (.assign (.const (.int .i64 1000000))), 3, none⟩])
 .skip))
 (.seq
 (.seq
 (.ops [
 ⟨(some 20), (.fieldAddr 49 (.tmp 5) 0), 0, none⟩,
 ⟨(some 21), (.load 3 (.tmp 20)), 3, none⟩,
 ⟨(some 22), (.call ⟨(.value (.func 54)), #[(.tmp 21), (.const (.int .i64 1)), (.const (.int .i64 19))], #[3, 3, 3]⟩), 4, none⟩,
 ⟨(some 23), (.unOp .not 4 (.tmp 22)), 4, none⟩,
 ⟨(some 24), (.move (.tmp 23)), 4, none⟩,
 ⟨(some 25), (.fieldAddr 49 (.tmp 5) 1), 0, (some (some 24, false))⟩,
 ⟨(some 26), (.load 3 (.tmp 25)), 3, (some (some 24, false))⟩,
 ⟨(some 27), (.move (.tmp 6)), 3, (some (some 24, false))⟩,
 ⟨(some 28), (.call ⟨(.value (.func 54)), #[(.tmp 26), (.const (.int .i64 0)), (.tmp 27)], #[3, 3, 3]⟩), 4, (some (some 24, false))⟩,
 ⟨(some 29), (.unOp .not 4 (.tmp 28)), 4, (some (some 24, false))⟩,
 ⟨(some 30), (.pick (.tmp 24) (.const (.bool true)) (.tmp 29)), 4, none⟩,
 ⟨(some 31), (.move (.tmp 30)), 4, none⟩,
 ⟨(some 32), (.move (.tmp 3)), 3, (some (some 31, false))⟩,
 ⟨(some 33), (.load 49 (.tmp 5)), 49, (some (some 31, false))⟩,
 ⟨(some 34), (.call ⟨(.value (.func 55)), #[(.tmp 33)], #[49]⟩), 3, (some (some 31, false))⟩,
 ⟨(some 35), (.binOp .lss 3 (.tmp 32) (.tmp 34) 3), 4, (some (some 31, false))⟩,
 ⟨(some 36), (.pick (.tmp 31) (.const (.bool true)) (.tmp 35)), 4, none⟩])
 (.cond (.tmp 36)
 (.seq
 (.ops [
 ⟨(some 2), (.assign (.const (.bool false))), 4, none⟩])
 .ret)
 .skip))
 (.ops [
 ⟨(some 37), (.move (.tmp 3)), 3, none⟩,
 ⟨(some 38), (.load 49 (.tmp 5)), 49, none⟩,
 ⟨(some 39), (.call ⟨(.value (.func 55)), #[(.tmp 38)], #[49]⟩), 3, none⟩,
 ⟨(some 40), (.binOp .sub 3 (.const (.int .i64 1)) (.tmp 39) 3), 3, none⟩,
 ⟨(some 41), (.binOp .add 3 (.tmp 37) (.tmp 40) 3), 3, none⟩,
 ⟨(some 3), (.assign (.tmp 41)), 3, none⟩]))))))
 (.ops [
 ⟨(some 42), (.binOp .add 3 (.tmp 13) (.const (.int .i64 1)) 3), 3, none⟩,
 ⟨(some 13), (.move (.tmp 42)), 3, none⟩])))
def k28_l0 : SC := .loop k28_l0b
def k28 : SC :=
 .seq
 (.ops [
 ⟨(some 2), (.assign (.const (.bool false))), 4, none⟩])
 (.seq
 (.seq
 (.ops [
 ⟨(some 7), (.move (.tmp 0)), 26, none⟩,
 ⟨(some 8), (.call ⟨(.builtin .len), #[(.tmp 7)], #[26]⟩), 3, none⟩,
 ⟨(some 9), (.call ⟨(.value (.func 54)), #[(.tmp 8), (.const (.int .i64 1)), (.const (.int .i64 40))], #[3, 3, 3]⟩), 4, none⟩,
 ⟨(some 10), (.unOp .not 4 (.tmp 9)), 4, none⟩])
 (.cond (.tmp 10)
 (.seq
 (.ops [
 ⟨(some 2), (.assign (.const (.bool false))), 4, none⟩])
 .ret)
 .skip))
 (.seq
 (.ops [
 ⟨(some 3), (.assign (.const (.int .i64 0))), 3, none⟩])
 (.seq
 (.seq
 (.ops [
 ⟨(some 11), (.move (.tmp 0)), 26, none⟩,
 ⟨(some 12), (.call ⟨(.builtin .len), #[(.tmp 11)], #[26]⟩), 3, none⟩,
 ⟨(some 13), (.move (.const (.int .i64 0))), 3, none⟩])
 (.block 0
 k28_l0))
 (.seq
 (.ops [
 ⟨(some 43), (.move (.tmp 3)), 3, none⟩,
 ⟨(some 44), (.binOp .eql 3 (.tmp 43) (.const (.int .i64 1)) 3), 4, none⟩,
 ⟨(some 2), (.assign (.tmp 44)), 4, none⟩])
 .ret))))
theorem slim28 : Tryd.f28.body.map (slim lends) = some k28 := by kernel_rfl
theorem ok28 : fnOk Tryd.f28 1 = true := by kernel_rfl
theorem c28 {a l : List D} {r : D × List D} (h : wpD Y.env k28 (fin tys l.length [ResultVar.tmp 2] r) (entry a l)) (ha : a.length = 1) : Y.call 28 a l = some r :=
 call_slim (Y := Y) rfl Tryd.func28 (ha ▸ ok28) slim28 h
def i_IsValueProgram_l0_M (prog : List (Int × Int)) (height : Int) (t13_ : Int) (s : St) : Prop := s.v 3 = D.int .i64 height ∧ s.v 11 = D.sl 49 (cat2 .i64 .i64 prog) ∧ s.v 12 = D.int .i64 (prog.length : Int) ∧ s.v 13 = D.int .i64 t13_
def i_IsValueProgram_l0_X (prog : List (Int × Int)) (r : Unit ⊕ Int) (ex : Ex) (s : St) : Prop := match r with
 | .inl q => ex = .ret ∧ s.v 2 = D.bool false
 | .inr q => ex = .exit 0 ∧ s.v 3 = D.int .i64 q
theorem i_IsValueProgram_l0_wp (prog : List (Int × Int)) {v : Int × Int} {s : St} {r : Unit ⊕ Int} (h : i_IsValueProgram_l0 prog v = some r) (hM : i_IsValueProgram_l0_M prog v.1 v.2 s) : wpD Y.env k28_l0 (i_IsValueProgram_l0_X prog r) s := by
 unfold i_IsValueProgram_l0 at h
 refine wd_itO (c := k28_l0b) (fun v => i_IsValueProgram_l0_S prog v.1 v.2) (fun v s => i_IsValueProgram_l0_M prog v.1 v.2 s) (i_IsValueProgram_l0_X prog) ?_ h hM
 clear h hM s v r
 intro v s o hM h
 obtain ⟨height, t13_⟩ := v
 dsimp only at h hM
 unfold i_IsValueProgram_l0_S at h
 unfold i_IsValueProgram_l0_M at hM
 obtain ⟨m0, m1, m2, m3⟩ := hM
 unfold k28_l0b
 by_cases e3 : t13_ < (prog.length : Int)
 ·rw [if_pos e3] at h
  obtain ⟨e4, h⟩ := ckS h
  by_cases e5 : (fstD prog t13_.toNat) = 1
  ·rw [if_pos e5] at h
   have c6 := i_within_cl (fstD prog t13_.toNat) (1 : Int) (19 : Int)
   by_cases e7 : (inR (fstD prog t13_.toNat) (1 : Int) (19 : Int)) = true
   ·rw [if_pos e7] at h
    have c8 := i_within_cl (sndD prog t13_.toNat) (0 : Int) (1000000 : Int)
    by_cases e9 : (inR (sndD prog t13_.toNat) (0 : Int) (1000000 : Int)) = true
    ·rw [if_pos e9] at h
     obtain ⟨r34_, hl10, h⟩ := bindS h
     try dsimp only at h
     have c10 := i_ValueOp_needs_call (fstD prog t13_.toNat) (sndD prog t13_.toNat) hl10
     by_cases e11 : height < r34_
     ·rw [if_pos e11] at h
      obtain rfl := Option.some.inj h
      simp (maxDischargeDepth := 9) only [↓xpre, xpost, xlst, xc2, xcore, yset, rg0, ↓reduceIte, Nat.reduceEqDiff, Nat.reduceLT, Nat.reduceLeDiff, Nat.reduceAdd, Nat.reduceMul, Nat.reduceMod, Nat.reduceDiv, Nat.reducePow, Nat.reduceSub, Nat.reduceBEq, Int.reduceLE, Int.reduceLT, Int.reduceEq, Int.reduceSub, Int.reduceAdd, Int.reduceToNat, Int.reduceNeg, m0, m1, m2, m3, e3, e4.1, e4.2, decide_eq_true e5, c6, e7, c8, e9, c10, e11, i_IsValueProgram_l0_M, i_IsValueProgram_l0_X, sxN, sxE, sxR] <;> (repeat' apply And.intro) <;> first | rfl | exact ⟨_, rfl⟩ | exact ⟨_, _, rfl⟩ | simp [lst, cat2_nil]
     ·rw [if_neg e11] at h
      obtain rfl := Option.some.inj h
      simp (maxDischargeDepth := 9) only [↓xpre, xpost, xlst, xc2, xcore, yset, rg0, ↓reduceIte, Nat.reduceEqDiff, Nat.reduceLT, Nat.reduceLeDiff, Nat.reduceAdd, Nat.reduceMul, Nat.reduceMod, Nat.reduceDiv, Nat.reducePow, Nat.reduceSub, Nat.reduceBEq, Int.reduceLE, Int.reduceLT, Int.reduceEq, Int.reduceSub, Int.reduceAdd, Int.reduceToNat, Int.reduceNeg, m0, m1, m2, m3, e3, e4.1, e4.2, decide_eq_true e5, c6, e7, c8, e9, c10, e11, i_IsValueProgram_l0_M, i_IsValueProgram_l0_X, sxN, sxE, sxR] <;> (repeat' apply And.intro) <;> first | rfl | exact ⟨_, rfl⟩ | exact ⟨_, _, rfl⟩ | simp [lst, cat2_nil]
    ·rw [if_neg e9] at h
     have e9f : (inR (sndD prog t13_.toNat) (0 : Int) (1000000 : Int)) = false := Bool.eq_false_iff.mpr e9
     obtain rfl := Option.some.inj h
     simp (maxDischargeDepth := 9) only [↓xpre, xpost, xlst, xc2, xcore, yset, rg0, ↓reduceIte, Nat.reduceEqDiff, Nat.reduceLT, Nat.reduceLeDiff, Nat.reduceAdd, Nat.reduceMul, Nat.reduceMod, Nat.reduceDiv, Nat.reducePow, Nat.reduceSub, Nat.reduceBEq, Int.reduceLE, Int.reduceLT, Int.reduceEq, Int.reduceSub, Int.reduceAdd, Int.reduceToNat, Int.reduceNeg, m0, m1, m2, m3, e3, e4.1, e4.2, decide_eq_true e5, c6, e7, c8, e9f, i_IsValueProgram_l0_M, i_IsValueProgram_l0_X, sxN, sxE, sxR] <;> (repeat' apply And.intro) <;> first | rfl | exact ⟨_, rfl⟩ | exact ⟨_, _, rfl⟩ | simp [lst, cat2_nil]
   ·rw [if_neg e7] at h
    have e7f : (inR (fstD prog t13_.toNat) (1 : Int) (19 : Int)) = false := Bool.eq_false_iff.mpr e7
    obtain rfl := Option.some.inj h
    simp (maxDischargeDepth := 9) only [↓xpre, xpost, xlst, xc2, xcore, yset, rg0, ↓reduceIte, Nat.reduceEqDiff, Nat.reduceLT, Nat.reduceLeDiff, Nat.reduceAdd, Nat.reduceMul, Nat.reduceMod, Nat.reduceDiv, Nat.reducePow, Nat.reduceSub, Nat.reduceBEq, Int.reduceLE, Int.reduceLT, Int.reduceEq, Int.reduceSub, Int.reduceAdd, Int.reduceToNat, Int.reduceNeg, m0, m1, m2, m3, e3, e4.1, e4.2, decide_eq_true e5, c6, e7f, i_IsValueProgram_l0_M, i_IsValueProgram_l0_X, sxN, sxE, sxR] <;> (repeat' apply And.intro) <;> first | rfl | exact ⟨_, rfl⟩ | exact ⟨_, _, rfl⟩ | simp [lst, cat2_nil]
  ·rw [if_neg e5] at h
   have c6 := i_within_cl (fstD prog t13_.toNat) (1 : Int) (19 : Int)
   by_cases e7 : (inR (fstD prog t13_.toNat) (1 : Int) (19 : Int)) = true
   ·rw [if_pos e7] at h
    have c8 := i_within_cl (sndD prog t13_.toNat) (0 : Int) (0 : Int)
    by_cases e9 : (inR (sndD prog t13_.toNat) (0 : Int) (0 : Int)) = true
    ·rw [if_pos e9] at h
     obtain ⟨r34_, hl10, h⟩ := bindS h
     try dsimp only at h
     have c10 := i_ValueOp_needs_call (fstD prog t13_.toNat) (sndD prog t13_.toNat) hl10
     by_cases e11 : height < r34_
     ·rw [if_pos e11] at h
      obtain rfl := Option.some.inj h
      simp (maxDischargeDepth := 9) only [↓xpre, xpost, xlst, xc2, xcore, yset, rg0, ↓reduceIte, Nat.reduceEqDiff, Nat.reduceLT, Nat.reduceLeDiff, Nat.reduceAdd, Nat.reduceMul, Nat.reduceMod, Nat.reduceDiv, Nat.reducePow, Nat.reduceSub, Nat.reduceBEq, Int.reduceLE, Int.reduceLT, Int.reduceEq, Int.reduceSub, Int.reduceAdd, Int.reduceToNat, Int.reduceNeg, m0, m1, m2, m3, e3, e4.1, e4.2, e5, c6, e7, c8, e9, c10, e11, i_IsValueProgram_l0_M, i_IsValueProgram_l0_X, sxN, sxE, sxR] <;> (repeat' apply And.intro) <;> first | rfl | exact ⟨_, rfl⟩ | exact ⟨_, _, rfl⟩ | simp [lst, cat2_nil]
     ·rw [if_neg e11] at h
      obtain rfl := Option.some.inj h
      simp (maxDischargeDepth := 9) only [↓xpre, xpost, xlst, xc2, xcore, yset, rg0, ↓reduceIte, Nat.reduceEqDiff, Nat.reduceLT, Nat.reduceLeDiff, Nat.reduceAdd, Nat.reduceMul, Nat.reduceMod, Nat.reduceDiv, Nat.reducePow, Nat.reduceSub, Nat.reduceBEq, Int.reduceLE, Int.reduceLT, Int.reduceEq, Int.reduceSub, Int.reduceAdd, Int.reduceToNat, Int.reduceNeg, m0, m1, m2, m3, e3, e4.1, e4.2, e5, c6, e7, c8, e9, c10, e11, i_IsValueProgram_l0_M, i_IsValueProgram_l0_X, sxN, sxE, sxR] <;> (repeat' apply And.intro) <;> first | rfl | exact ⟨_, rfl⟩ | exact ⟨_, _, rfl⟩ | simp [lst, cat2_nil]
    ·rw [if_neg e9] at h
     have e9f : (inR (sndD prog t13_.toNat) (0 : Int) (0 : Int)) = false := Bool.eq_false_iff.mpr e9
     obtain rfl := Option.some.inj h
     simp (maxDischargeDepth := 9) only [↓xpre, xpost, xlst, xc2, xcore, yset, rg0, ↓reduceIte, Nat.reduceEqDiff, Nat.reduceLT, Nat.reduceLeDiff, Nat.reduceAdd, Nat.reduceMul, Nat.reduceMod, Nat.reduceDiv, Nat.reducePow, Nat.reduceSub, Nat.reduceBEq, Int.reduceLE, Int.reduceLT, Int.reduceEq, Int.reduceSub, Int.reduceAdd, Int.reduceToNat, Int.reduceNeg, m0, m1, m2, m3, e3, e4.1, e4.2, e5, c6, e7, c8, e9f, i_IsValueProgram_l0_M, i_IsValueProgram_l0_X, sxN, sxE, sxR] <;> (repeat' apply And.intro) <;> first | rfl | exact ⟨_, rfl⟩ | exact ⟨_, _, rfl⟩ | simp [lst, cat2_nil]
   ·rw [if_neg e7] at h
    have e7f : (inR (fstD prog t13_.toNat) (1 : Int) (19 : Int)) = false := Bool.eq_false_iff.mpr e7
    obtain rfl := Option.some.inj h
    simp (maxDischargeDepth := 9) only [↓xpre, xpost, xlst, xc2, xcore, yset, rg0, ↓reduceIte, Nat.reduceEqDiff, Nat.reduceLT, Nat.reduceLeDiff, Nat.reduceAdd, Nat.reduceMul, Nat.reduceMod, Nat.reduceDiv, Nat.reducePow, Nat.reduceSub, Nat.reduceBEq, Int.reduceLE, Int.reduceLT, Int.reduceEq, Int.reduceSub, Int.reduceAdd, Int.reduceToNat, Int.reduceNeg, m0, m1, m2, m3, e3, e4.1, e4.2, e5, c6, e7f, i_IsValueProgram_l0_M, i_IsValueProgram_l0_X, sxN, sxE, sxR] <;> (repeat' apply And.intro) <;> first | rfl | exact ⟨_, rfl⟩ | exact ⟨_, _, rfl⟩ | simp [lst, cat2_nil]
 ·rw [if_neg e3] at h
  obtain rfl := Option.some.inj h
  simp (maxDischargeDepth := 9) only [↓xpre, xpost, xlst, xc2, xcore, yset, rg0, ↓reduceIte, Nat.reduceEqDiff, Nat.reduceLT, Nat.reduceLeDiff, Nat.reduceAdd, Nat.reduceMul, Nat.reduceMod, Nat.reduceDiv, Nat.reducePow, Nat.reduceSub, Nat.reduceBEq, Int.reduceLE, Int.reduceLT, Int.reduceEq, Int.reduceSub, Int.reduceAdd, Int.reduceToNat, Int.reduceNeg, m0, m1, m2, m3, e3, i_IsValueProgram_l0_M, i_IsValueProgram_l0_X, sxN, sxE, sxR] <;> (repeat' apply And.intro) <;> first | rfl | exact ⟨_, rfl⟩ | exact ⟨_, _, rfl⟩ | simp [lst, cat2_nil]
theorem i_IsValueProgram_call (prog : List (Int × Int)) {r : Bool} (h : i_IsValueProgram prog = some r) : Y.call 28 [D.sl 49 (cat2 .i64 .i64 prog)] [] = some (D.bool r, []) := by
 refine c28 ?_ rfl
 unfold k28
 unfold i_IsValueProgram at h
 have c1 := i_within_cl (prog.length : Int) (1 : Int) (40 : Int)
 by_cases e2 : (inR (prog.length : Int) (1 : Int) (40 : Int)) = true
 ·rw [if_pos e2] at h
  obtain ⟨r1000_, hl4, h⟩ := bindS h
  try dsimp only at h
  simp (maxDischargeDepth := 9) only [↓xpre, xpost, xlst, xc2, xcore, yset, rg0, ↓reduceIte, Nat.reduceEqDiff, Nat.reduceLT, Nat.reduceLeDiff, Nat.reduceAdd, Nat.reduceMul, Nat.reduceMod, Nat.reduceDiv, Nat.reducePow, Nat.reduceSub, Nat.reduceBEq, Int.reduceLE, Int.reduceLT, Int.reduceEq, Int.reduceSub, Int.reduceAdd, Int.reduceToNat, Int.reduceNeg, c1, e2]
  refine wd_mono (i_IsValueProgram_l0_wp prog hl4 ?_) ?_
  ·simp (maxDischargeDepth := 9) only [↓xpre, xpost, xlst, xc2, xcore, yset, rg0, ↓reduceIte, Nat.reduceEqDiff, Nat.reduceLT, Nat.reduceLeDiff, Nat.reduceAdd, Nat.reduceMul, Nat.reduceMod, Nat.reduceDiv, Nat.reducePow, Nat.reduceSub, Nat.reduceBEq, Int.reduceLE, Int.reduceLT, Int.reduceEq, Int.reduceSub, Int.reduceAdd, Int.reduceToNat, Int.reduceNeg, c1, e2, i_IsValueProgram_l0_M] <;> (repeat' apply And.intro) <;> first | rfl | exact ⟨_, rfl⟩ | exact ⟨_, _, rfl⟩ | simp [lst, cat2_nil]
  ·intro ex4 s4 hX4
   rcases r1000_ with q1000_ | q1000_
   ·unfold i_IsValueProgram_l0_X at hX4
    dsimp only at hX4 h
    obtain ⟨rfl, n4_0⟩ := hX4
    obtain rfl := Option.some.inj h
    simp (maxDischargeDepth := 9) only [↓xpre, xpost, xlst, xc2, xcore, yset, rg0, ↓reduceIte, Nat.reduceEqDiff, Nat.reduceLT, Nat.reduceLeDiff, Nat.reduceAdd, Nat.reduceMul, Nat.reduceMod, Nat.reduceDiv, Nat.reducePow, Nat.reduceSub, Nat.reduceBEq, Int.reduceLE, Int.reduceLT, Int.reduceEq, Int.reduceSub, Int.reduceAdd, Int.reduceToNat, Int.reduceNeg, c1, e2, n4_0] <;> (repeat' apply And.intro) <;> first | rfl | exact ⟨_, rfl⟩ | exact ⟨_, _, rfl⟩ | simp [lst, cat2_nil]
   ·unfold i_IsValueProgram_l0_X at hX4
    dsimp only at hX4 h
    obtain ⟨rfl, n4_0⟩ := hX4
    obtain rfl := Option.some.inj h
    simp (maxDischargeDepth := 9) only [↓xpre, xpost, xlst, xc2, xcore, yset, rg0, ↓reduceIte, Nat.reduceEqDiff, Nat.reduceLT, Nat.reduceLeDiff, Nat.reduceAdd, Nat.reduceMul, Nat.reduceMod, Nat.reduceDiv, Nat.reducePow, Nat.reduceSub, Nat.reduceBEq, Int.reduceLE, Int.reduceLT, Int.reduceEq, Int.reduceSub, Int.reduceAdd, Int.reduceToNat, Int.reduceNeg, c1, e2, n4_0] <;> (repeat' apply And.intro) <;> first | rfl | exact ⟨_, rfl⟩ | exact ⟨_, _, rfl⟩ | simp [lst, cat2_nil]
 ·rw [if_neg e2] at h
  have e2f : (inR (prog.length : Int) (1 : Int) (40 : Int)) = false := Bool.eq_false_iff.mpr e2
  obtain rfl := Option.some.inj h
  simp (maxDischargeDepth := 9) only [↓xpre, xpost, xlst, xc2, xcore, yset, rg0, ↓reduceIte, Nat.reduceEqDiff, Nat.reduceLT, Nat.reduceLeDiff, Nat.reduceAdd, Nat.reduceMul, Nat.reduceMod, Nat.reduceDiv, Nat.reducePow, Nat.reduceSub, Nat.reduceBEq, Int.reduceLE, Int.reduceLT, Int.reduceEq, Int.reduceSub, Int.reduceAdd, Int.reduceToNat, Int.reduceNeg, c1, e2f] <;> (repeat' apply And.intro) <;> first | rfl | exact ⟨_, rfl⟩ | exact ⟨_, _, rfl⟩ | simp [lst, cat2_nil]

noncomputable def i_valueWords : Option ((List ByteArray)) :=
 ck (({ data := #[111, 119, 110, 32, 105, 100, 32, 100, 101, 103, 114, 101, 101, 32, 105, 110, 112, 117, 116, 32, 114, 111, 117, 110, 100, 32, 108, 101, 97, 115, 116, 32, 103, 114, 101, 97, 116, 101, 115, 116, 32, 115, 117, 109, 32, 102, 114, 101, 101, 32, 99, 111, 117, 110, 116, 32, 98, 101, 108, 111, 119, 32, 97, 100, 100, 32, 115, 117, 98, 32, 109, 105, 110, 32, 109, 97, 120, 32, 108, 101, 115, 115, 32, 101, 113, 117, 97, 108, 32, 105, 102] } : ByteArray).size < 4294967281 ∧ 1 ≤ ({ data := #[32] } : ByteArray).size) <|
 some (splitS ({ data := #[111, 119, 110, 32, 105, 100, 32, 100, 101, 103, 114, 101, 101, 32, 105, 110, 112, 117, 116, 32, 114, 111, 117, 110, 100, 32, 108, 101, 97, 115, 116, 32, 103, 114, 101, 97, 116, 101, 115, 116, 32, 115, 117, 109, 32, 102, 114, 101, 101, 32, 99, 111, 117, 110, 116, 32, 98, 101, 108, 111, 119, 32, 97, 100, 100, 32, 115, 117, 98, 32, 109, 105, 110, 32, 109, 97, 120, 32, 108, 101, 115, 115, 32, 101, 113, 117, 97, 108, 32, 105, 102] } : ByteArray) ({ data := #[32] } : ByteArray))
/-- impl.valueWords -/
def k30 : SC :=
 .seq
 (.ops [
 ⟨(some 0), (.assign (.const (.slice none 0 0))), 52, none⟩])
 (.seq
 (.ops [
 ⟨(some 1), (.call ⟨(.value (.func 36)), #[(.const (.string { data := #[111, 119, 110, 32, 105, 100, 32, 100, 101, 103, 114, 101, 101, 32, 105, 110, 112, 117, 116, 32, 114, 111, 117, 110, 100, 32, 108, 101, 97, 115, 116, 32, 103, 114, 101, 97, 116, 101, 115, 116, 32, 115, 117, 109, 32, 102, 114, 101, 101, 32, 99, 111, 117, 110, 116, 32, 98, 101, 108, 111, 119, 32, 97, 100, 100, 32, 115, 117, 98, 32, 109, 105, 110, 32, 109, 97, 120, 32, 108, 101, 115, 115, 32, 101, 113, 117, 97, 108, 32, 105, 102] })), (.const (.string { data := #[32] }))], #[9, 9]⟩), 52, none⟩,
 ⟨(some 0), (.assign (.tmp 1)), 52, none⟩])
 .ret)
theorem slim30 : Tryd.f30.body.map (slim lends) = some k30 := by kernel_rfl
theorem ok30 : fnOk Tryd.f30 0 = true := by kernel_rfl
theorem c30 {a l : List D} {r : D × List D} (h : wpD Y.env k30 (fin tys l.length [ResultVar.tmp 0] r) (entry a l)) (ha : a.length = 0) : Y.call 30 a l = some r :=
 call_slim (Y := Y) rfl Tryd.func30 (ha ▸ ok30) slim30 h
theorem i_valueWords_call {r : (List ByteArray)} (h : i_valueWords = some r) : Y.call 30 [] [] = some (D.own 9 (lst D.str r), []) := by
 refine c30 ?_ rfl
 unfold k30
 unfold i_valueWords at h
 obtain ⟨e1, h⟩ := ckS h
 have c2 := split_36 ({ data := #[111, 119, 110, 32, 105, 100, 32, 100, 101, 103, 114, 101, 101, 32, 105, 110, 112, 117, 116, 32, 114, 111, 117, 110, 100, 32, 108, 101, 97, 115, 116, 32, 103, 114, 101, 97, 116, 101, 115, 116, 32, 115, 117, 109, 32, 102, 114, 101, 101, 32, 99, 111, 117, 110, 116, 32, 98, 101, 108, 111, 119, 32, 97, 100, 100, 32, 115, 117, 98, 32, 109, 105, 110, 32, 109, 97, 120, 32, 108, 101, 115, 115, 32, 101, 113, 117, 97, 108, 32, 105, 102] } : ByteArray) ({ data := #[32] } : ByteArray) e1
 obtain rfl := Option.some.inj h
 simp (maxDischargeDepth := 9) only [↓xpre, xpost, xlst, xc2, xcore, yset, rg0, ↓reduceIte, Nat.reduceEqDiff, Nat.reduceLT, Nat.reduceLeDiff, Nat.reduceAdd, Nat.reduceMul, Nat.reduceMod, Nat.reduceDiv, Nat.reducePow, Nat.reduceSub, Nat.reduceBEq, Int.reduceLE, Int.reduceLT, Int.reduceEq, Int.reduceSub, Int.reduceAdd, Int.reduceToNat, Int.reduceNeg, e1.1, e1.2, c2] <;> (repeat' apply And.intro) <;> first | rfl | exact ⟨_, rfl⟩ | exact ⟨_, _, rfl⟩ | simp [lst, cat2_nil]

/-- impl.ValueText -/
def k10_l0b : SC :=
 .seq
 (.ops [
 ⟨(some 13), (.binOp .lss 3 (.tmp 12) (.tmp 11) 3), 0, none⟩])
 (.seq
 (.cond (.tmp 13)
 .skip
 (.exit 0))
 (.seq
 (.block 1
 (.seq
 (.ops [
 ⟨(some 14), (.indexAddr 26 (.tmp 10) (.tmp 12)), 0, none⟩,
 ⟨(some 15), (.load 49 (.tmp 14)), 49, none⟩,
 ⟨(some 6), (.alloc 49), 0, none⟩,
 ⟨none, (.store 49 (.tmp 6) (.tmp 15)), 0, none⟩])
 (.seq
 (.ops [
 ⟨(some 16), (.fieldAddr 49 (.tmp 6) 0), 0, none⟩,
 ⟨(some 17), (.load 3 (.tmp 16)), 3, none⟩,
 ⟨(some 18), (.binOp .eql 3 (.tmp 17) (.const (.int .i64 1)) 3), 4, none⟩])
 (.cond (.tmp 18)
 (.ops [
 ⟨(some 19), (.move (.tmp 4)), 52, none⟩,
 ⟨(some 20), (.fieldAddr 49 (.tmp 6) 1), 0, none⟩,
 ⟨(some 21), (.load 3 (.tmp 20)), 3, none⟩,
 ⟨(some 22), (.call ⟨(.value (.func 29)), #[(.tmp 21)], #[3]⟩), 9, none⟩,
 ⟨(some 23), (.buildSlice 52 1 #[(0, (.tmp 22))]), 52, none⟩,
 ⟨(some 24), (.call ⟨(.builtin .append), #[(.tmp 19), (.tmp 23)], #[52, 52]⟩), 52, none⟩,
 ⟨(some 4), (.assign (.tmp 24)), 52, none⟩])
 (.draws [
 (⟨[25, 4, 4], [25, 26, 27, 28, 29, 30, 31, 32, 31, 26, 33, 25, 32, 4, 32, 4, 33, 33], [25]⟩, ⟨(some 25), (.move (.tmp 4)), 52, none⟩),
 (⟨[26], [25, 26, 27, 28, 29, 30, 31, 32, 31, 26, 33, 25, 32, 4, 32, 4, 33, 33], [26]⟩, ⟨(some 26), (.call ⟨(.value (.func 30)), #[], #[]⟩), 52, none⟩),
 (⟨[27, 6, 6], [25, 26, 27, 28, 29, 30, 31, 32, 31, 26, 33, 25, 32, 4, 32, 4, 33, 33], [27]⟩, ⟨(some 27), (.fieldAddr 49 (.tmp 6) 0), 0, none⟩),
 (⟨[28, 27, 6], [25, 26, 27, 28, 29, 30, 31, 32, 31, 26, 33, 25, 32, 4, 32, 4, 33, 33], [28]⟩, ⟨(some 28), (.load 3 (.tmp 27)), 3, none⟩),
 (⟨[29, 28, 6], [25, 26, 27, 28, 29, 30, 31, 32, 31, 26, 33, 25, 32, 4, 32, 4, 33, 33], [29]⟩, ⟨(some 29), (.binOp .sub 3 (.tmp 28) (.const (.int .i64 2)) 3), 3, none⟩),
 (⟨[30, 26, 29, 26, 29], [25, 26, 27, 28, 29, 30, 31, 32, 31, 26, 33, 25, 32, 4, 32, 4, 33, 33], [30]⟩, ⟨(some 30), (.indexAddr 52 (.tmp 26) (.tmp 29)), 0, none⟩),
 (⟨[31, 30, 26], [25, 26, 27, 28, 29, 30, 31, 32, 31, 26, 33, 25, 32, 4, 32, 4, 33, 33], [31]⟩, ⟨(some 31), (.load 9 (.tmp 30)), 9, none⟩),
 (⟨[32, 31, 26], [25, 26, 27, 28, 29, 30, 31, 32, 31, 26, 33, 25, 32, 4, 32, 4, 33, 33], [32, 31, 26]⟩, ⟨(some 32), (.buildSlice 52 1 #[(0, (.tmp 31))]), 52, none⟩),
 (⟨[33, 25, 32, 4, 32], [25, 26, 27, 28, 29, 30, 31, 32, 31, 26, 33, 25, 32, 4, 32, 4, 33, 33], [33, 25, 32, 4, 32]⟩, ⟨(some 33), (.call ⟨(.builtin .append), #[(.tmp 25), (.tmp 32)], #[52, 52]⟩), 52, none⟩),
 (⟨[4, 33, 33], [25, 26, 27, 28, 29, 30, 31, 32, 31, 26, 33, 25, 32, 4, 32, 4, 33, 33], [4, 33, 33]⟩, ⟨(some 4), (.assign (.tmp 33)), 52, none⟩)])))))
 (.ops [
 ⟨(some 34), (.binOp .add 3 (.tmp 12) (.const (.int .i64 1)) 3), 3, none⟩,
 ⟨(some 12), (.move (.tmp 34)), 3, none⟩])))
def k10_l0 : SC := .loop k10_l0b
def k10 : SC :=
 .seq
 (.ops [
 ⟨(some 2), (.assign (.const (.string { data := #[] }))), 9, none⟩,
 ⟨(some 3), (.assign (.const (.bool false))), 4, none⟩])
 (.seq
 (.seq
 (.ops [
 ⟨(some 7), (.move (.tmp 0)), 26, none⟩,
 ⟨(some 8), (.call ⟨(.value (.func 28)), #[(.tmp 7)], #[26]⟩), 4, none⟩,
 ⟨(some 9), (.unOp .not 4 (.tmp 8)), 4, none⟩])
 (.cond (.tmp 9)
 (.seq
 (.ops [
 ⟨(some 2), (.assign (.const (.string { data := #[] }))), 9, none⟩,
 ⟨(some 3), (.assign (.const (.bool false))), 4, none⟩])
 .ret)
 .skip))
 (.seq
 (.ops [
 ⟨(some 4), (.assign (.const (.slice none 0 0))), 52, none⟩])
 (.seq
 (.seq
 (.ops [
 ⟨(some 10), (.move (.tmp 0)), 26, none⟩,
 ⟨(some 11), (.call ⟨(.builtin .len), #[(.tmp 10)], #[26]⟩), 3, none⟩,
 ⟨(some 12), (.move (.const (.int .i64 0))), 3, none⟩])
 (.block 0
 k10_l0))
 (.seq
 (.ops [
 ⟨(some 35), (.move (.tmp 4)), 52, none⟩,
 ⟨(some 36), (.call ⟨(.value (.func 31)), #[(.tmp 35), (.const (.string { data := #[32] }))], #[52, 9]⟩), 9, none⟩,
 ⟨(some 2), (.assign (.tmp 36)), 9, none⟩,
 ⟨(some 3), (.assign (.const (.bool true))), 4, none⟩])
 .ret))))
theorem slim10 : Tryd.f10.body.map (slim lends) = some k10 := by kernel_rfl
theorem ok10 : fnOk Tryd.f10 1 = true := by kernel_rfl
theorem c10 {a l : List D} {r : D × List D} (h : wpD Y.env k10 (fin tys l.length [ResultVar.tmp 2, ResultVar.tmp 3] r) (entry a l)) (ha : a.length = 1) : Y.call 10 a l = some r :=
 call_slim (Y := Y) rfl Tryd.func10 (ha ▸ ok10) slim10 h
noncomputable def s_vaNeeds (kind : Int) : Option (Int) :=
 if kind = 19 then
  some 3
 else
  if 13 ≤ kind then
   some 2
  else
   if 11 ≤ kind then
    some 1
   else
    some 0
/-- spec.vaNeeds -/
def k52 : SC :=
 .seq
 (.ops [
 ⟨(some 2), (.assign (.const (.int .i64 0))), 3, none⟩])
 (.seq
 (.block 0
 (.seq
 (.ops [
 ⟨(some 4), (.move (.tmp 0)), 3, none⟩,
 ⟨(some 5), (.binOp .eql 3 (.tmp 4) (.const (.int .i64 19)) 3), 4, none⟩,
 ⟨(some 3), (.assign (.tmp 5)), 4, none⟩])
 (.cond (.tmp 3)
 (.seq
 (.ops [
 ⟨(some 2), (.assign (.const (.int .i64 3))), 3, none⟩])
 .ret)
 (.seq
 (.ops [
 ⟨(some 7), (.move (.tmp 0)), 3, none⟩,
 ⟨(some 8), (.binOp .geq 3 (.tmp 7) (.const (.int .i64 13)) 3), 4, none⟩,
 ⟨(some 6), (.assign (.tmp 8)), 4, none⟩])
 (.cond (.tmp 6)
 (.seq
 (.ops [
 ⟨(some 2), (.assign (.const (.int .i64 2))), 3, none⟩])
 .ret)
 (.seq
 (.ops [
 ⟨(some 10), (.move (.tmp 0)), 3, none⟩,
 ⟨(some 11), (.binOp .geq 3 (.tmp 10) (.const (.int .i64 11)) 3), 4, none⟩,
 ⟨(some 9), (.assign (.tmp 11)), 4, none⟩])
 (.cond (.tmp 9)
 (.seq
 (.ops [
 ⟨(some 2), (.assign (.const (.int .i64 1))), 3, none⟩])
 .ret)
 .skip)))))))
 (.seq
 (.ops [
 ⟨(some 2), (.assign (.const (.int .i64 0))), 3, none⟩])
 .ret))
theorem slim52 : Tryd.f52.body.map (slim lends) = some k52 := by kernel_rfl
theorem ok52 : fnOk Tryd.f52 1 = true := by kernel_rfl
theorem c52 {a l : List D} {r : D × List D} (h : wpD Y.env k52 (fin tys l.length [ResultVar.tmp 2] r) (entry a l)) (ha : a.length = 1) : Y.call 52 a l = some r :=
 call_slim (Y := Y) rfl Tryd.func52 (ha ▸ ok52) slim52 h
theorem s_vaNeeds_call (kind : Int) {r : Int} (h : s_vaNeeds kind = some r) : Y.call 52 [D.int .i64 kind] [] = some (D.int .i64 r, []) := by
 refine c52 ?_ rfl
 unfold k52
 unfold s_vaNeeds at h
 by_cases e1 : kind = 19
 ·rw [if_pos e1] at h
  obtain rfl := Option.some.inj h
  simp (maxDischargeDepth := 9) only [↓xpre, xpost, xlst, xc2, xcore, yset, rg0, ↓reduceIte, Nat.reduceEqDiff, Nat.reduceLT, Nat.reduceLeDiff, Nat.reduceAdd, Nat.reduceMul, Nat.reduceMod, Nat.reduceDiv, Nat.reducePow, Nat.reduceSub, Nat.reduceBEq, Int.reduceLE, Int.reduceLT, Int.reduceEq, Int.reduceSub, Int.reduceAdd, Int.reduceToNat, Int.reduceNeg, decide_eq_true e1] <;> (repeat' apply And.intro) <;> first | rfl | exact ⟨_, rfl⟩ | exact ⟨_, _, rfl⟩ | simp [lst, cat2_nil]
 ·rw [if_neg e1] at h
  by_cases e2 : 13 ≤ kind
  ·rw [if_pos e2] at h
   obtain rfl := Option.some.inj h
   simp (maxDischargeDepth := 9) only [↓xpre, xpost, xlst, xc2, xcore, yset, rg0, ↓reduceIte, Nat.reduceEqDiff, Nat.reduceLT, Nat.reduceLeDiff, Nat.reduceAdd, Nat.reduceMul, Nat.reduceMod, Nat.reduceDiv, Nat.reducePow, Nat.reduceSub, Nat.reduceBEq, Int.reduceLE, Int.reduceLT, Int.reduceEq, Int.reduceSub, Int.reduceAdd, Int.reduceToNat, Int.reduceNeg, e1, e2] <;> (repeat' apply And.intro) <;> first | rfl | exact ⟨_, rfl⟩ | exact ⟨_, _, rfl⟩ | simp [lst, cat2_nil]
  ·rw [if_neg e2] at h
   by_cases e3 : 11 ≤ kind
   ·rw [if_pos e3] at h
    obtain rfl := Option.some.inj h
    simp (maxDischargeDepth := 9) only [↓xpre, xpost, xlst, xc2, xcore, yset, rg0, ↓reduceIte, Nat.reduceEqDiff, Nat.reduceLT, Nat.reduceLeDiff, Nat.reduceAdd, Nat.reduceMul, Nat.reduceMod, Nat.reduceDiv, Nat.reducePow, Nat.reduceSub, Nat.reduceBEq, Int.reduceLE, Int.reduceLT, Int.reduceEq, Int.reduceSub, Int.reduceAdd, Int.reduceToNat, Int.reduceNeg, e1, e2, e3] <;> (repeat' apply And.intro) <;> first | rfl | exact ⟨_, rfl⟩ | exact ⟨_, _, rfl⟩ | simp [lst, cat2_nil]
   ·rw [if_neg e3] at h
    obtain rfl := Option.some.inj h
    simp (maxDischargeDepth := 9) only [↓xpre, xpost, xlst, xc2, xcore, yset, rg0, ↓reduceIte, Nat.reduceEqDiff, Nat.reduceLT, Nat.reduceLeDiff, Nat.reduceAdd, Nat.reduceMul, Nat.reduceMod, Nat.reduceDiv, Nat.reducePow, Nat.reduceSub, Nat.reduceBEq, Int.reduceLE, Int.reduceLT, Int.reduceEq, Int.reduceSub, Int.reduceAdd, Int.reduceToNat, Int.reduceNeg, e1, e2, e3] <;> (repeat' apply And.intro) <;> first | rfl | exact ⟨_, rfl⟩ | exact ⟨_, _, rfl⟩ | simp [lst, cat2_nil]

noncomputable def s_vaGood_l0_S (prog : List (Int × Int)) (depth : Int) (t12_ : Int) : Option ((Int × Int) ⊕ (Unit ⊕ Int)) :=
 if t12_ < (prog.length : Int) then
  ck (0 ≤ t12_ ∧ t12_.toNat < prog.length) <|
  if (inR (fstD prog t12_.toNat) (1 : Int) (19 : Int)) = true then
   if (inR (sndD prog t12_.toNat) (0 : Int) (1000000 : Int)) = true then
    if (fstD prog t12_.toNat) = 1 then
     (s_vaNeeds (fstD prog t12_.toNat)).bind fun r40_ =>
     if depth < r40_ then
      some (Sum.inr (Sum.inl ()))
     else
      some (Sum.inl (IntKind.i64.wrap (depth + (IntKind.i64.wrap (1 - r40_))), IntKind.i64.wrap (t12_ + 1)))
    else
     if (sndD prog t12_.toNat) = 0 then
      (s_vaNeeds (fstD prog t12_.toNat)).bind fun r40_ =>
      if depth < r40_ then
       some (Sum.inr (Sum.inl ()))
      else
       some (Sum.inl (IntKind.i64.wrap (depth + (IntKind.i64.wrap (1 - r40_))), IntKind.i64.wrap (t12_ + 1)))
     else
      some (Sum.inr (Sum.inl ()))
   else
    some (Sum.inr (Sum.inl ()))
  else
   some (Sum.inr (Sum.inl ()))
 else
  some (Sum.inr (Sum.inr depth))
noncomputable def s_vaGood_l0 (prog : List (Int × Int)) (v : Int × Int) : Option (Unit ⊕ Int) := itO (fun v => s_vaGood_l0_S prog v.1 v.2) v
noncomputable def s_vaGood (prog : List (Int × Int)) : Option (Bool) :=
 if (inR (prog.length : Int) (1 : Int) (40 : Int)) = true then
  (s_vaGood_l0 prog (0, 0)).bind fun r1000_ =>
  match r1000_ with
  | .inl q1000_ =>
   some false
  | .inr q1000_ =>
   some (decide (q1000_ = 1))
 else
  some false
/-- spec.vaGood -/
def k25_l0b : SC :=
 .seq
 (.ops [
 ⟨(some 13), (.binOp .lss 3 (.tmp 12) (.tmp 11) 3), 0, none⟩])
 (.seq
 (.cond (.tmp 13)
 .skip
 (.exit 0))
 (.seq
 (.block 1
 (.seq
 (.ops [
 ⟨(some 14), (.indexAddr 26 (.tmp 10) (.tmp 12)), 0, none⟩,
 ⟨(some 15), (.load 49 (.tmp 14)), 49, none⟩,
 ⟨(some 5), (.alloc 49), 0, none⟩,
 ⟨none, (.store 49 (.tmp 5) (.tmp 15)), 0, none⟩])
 (.seq
 (.seq
 (.ops [
 ⟨(some 16), (.fieldAddr 49 (.tmp 5) 0), 0, none⟩,
 ⟨(some 17), (.load 3 (.tmp 16)), 3, none⟩,
 ⟨(some 18), (.call ⟨(.value (.func 51)), #[(.tmp 17), (.const (.int .i64 1)), (.const (.int .i64 19))], #[3, 3, 3]⟩), 4, none⟩,
 ⟨(some 19), (.unOp .not 4 (.tmp 18)), 4, none⟩,
 ⟨(some 20), (.move (.tmp 19)), 4, none⟩,
 ⟨(some 21), (.fieldAddr 49 (.tmp 5) 1), 0, (some (some 20, false))⟩,
 ⟨(some 22), (.load 3 (.tmp 21)), 3, (some (some 20, false))⟩,
 ⟨(some 23), (.call ⟨(.value (.func 51)), #[(.tmp 22), (.const (.int .i64 0)), (.const (.int .i64 1000000))], #[3, 3, 3]⟩), 4, (some (some 20, false))⟩,
 ⟨(some 24), (.unOp .not 4 (.tmp 23)), 4, (some (some 20, false))⟩,
 ⟨(some 25), (.pick (.tmp 20) (.const (.bool true)) (.tmp 24)), 4, none⟩,
 ⟨(some 26), (.move (.tmp 25)), 4, none⟩,
 ⟨(some 27), (.fieldAddr 49 (.tmp 5) 0), 0, (some (some 26, false))⟩,
 ⟨(some 28), (.load 3 (.tmp 27)), 3, (some (some 26, false))⟩,
 ⟨(some 29), (.binOp .neq 3 (.tmp 28) (.const (.int .i64 1)) 3), 4, (some (some 26, false))⟩,
 ⟨(some 30), (.move (.tmp 29)), 4, (some (some 26, false))⟩,
 ⟨(some 31), (.fieldAddr 49 (.tmp 5) 1), 0, (some (some 30, true))⟩,
 ⟨(some 32), (.load 3 (.tmp 31)), 3, (some (some 30, true))⟩,
 ⟨(some 33), (.binOp .neq 3 (.tmp 32) (.const (.int .i64 0)) 3), 4, (some (some 30, true))⟩,
 ⟨(some 34), (.pick (.tmp 30) (.tmp 33) (.const (.bool false))), 4, (some (some 26, false))⟩,
 ⟨(some 35), (.pick (.tmp 26) (.const (.bool true)) (.tmp 34)), 4, none⟩,
 ⟨(some 36), (.move (.tmp 35)), 4, none⟩,
 ⟨(some 37), (.move (.tmp 3)), 3, (some (some 36, false))⟩,
 ⟨(some 38), (.fieldAddr 49 (.tmp 5) 0), 0, (some (some 36, false))⟩,
 ⟨(some 39), (.load 3 (.tmp 38)), 3, (some (some 36, false))⟩,
 ⟨(some 40), (.call ⟨(.value (.func 52)), #[(.tmp 39)], #[3]⟩), 3, (some (some 36, false))⟩,
 ⟨(some 41), (.binOp .lss 3 (.tmp 37) (.tmp 40) 3), 4, (some (some 36, false))⟩,
 ⟨(some 42), (.pick (.tmp 36) (.const (.bool true)) (.tmp 41)), 4, none⟩])
 (.cond (.tmp 42)
 (.seq
 (.ops [
 ⟨(some 2), (.assign (.const (.bool false))), 4, none⟩])
 .ret)
 .skip))
 (.ops [
 ⟨(some 43), (.move (.tmp 3)), 3, none⟩,
 ⟨(some 44), (.fieldAddr 49 (.tmp 5) 0), 0, none⟩,
 ⟨(some 45), (.load 3 (.tmp 44)), 3, none⟩,
 ⟨(some 46), (.call ⟨(.value (.func 52)), #[(.tmp 45)], #[3]⟩), 3, none⟩,
 ⟨(some 47), (.binOp .sub 3 (.const (.int .i64 1)) (.tmp 46) 3), 3, none⟩,
 ⟨(some 48), (.binOp .add 3 (.tmp 43) (.tmp 47) 3), 3, none⟩,
 ⟨(some 3), (.assign (.tmp 48)), 3, none⟩]))))
 (.ops [
 ⟨(some 49), (.binOp .add 3 (.tmp 12) (.const (.int .i64 1)) 3), 3, none⟩,
 ⟨(some 12), (.move (.tmp 49)), 3, none⟩])))
def k25_l0 : SC := .loop k25_l0b
def k25 : SC :=
 .seq
 (.ops [
 ⟨(some 2), (.assign (.const (.bool false))), 4, none⟩])
 (.seq
 (.seq
 (.ops [
 ⟨(some 6), (.move (.tmp 0)), 26, none⟩,
 ⟨(some 7), (.call ⟨(.builtin .len), #[(.tmp 6)], #[26]⟩), 3, none⟩,
 ⟨(some 8), (.call ⟨(.value (.func 51)), #[(.tmp 7), (.const (.int .i64 1)), (.const (.int .i64 40))], #[3, 3, 3]⟩), 4, none⟩,
 ⟨(some 9), (.unOp .not 4 (.tmp 8)), 4, none⟩])
 (.cond (.tmp 9)
 (.seq
 (.ops [
 ⟨(some 2), (.assign (.const (.bool false))), 4, none⟩])
 .ret)
 .skip))
 (.seq
 (.ops [
 ⟨(some 3), (.assign (.const (.int .i64 0))), 3, none⟩])
 (.seq
 (.seq
 (.ops [
 ⟨(some 10), (.move (.tmp 0)), 26, none⟩,
 ⟨(some 11), (.call ⟨(.builtin .len), #[(.tmp 10)], #[26]⟩), 3, none⟩,
 ⟨(some 12), (.move (.const (.int .i64 0))), 3, none⟩])
 (.block 0
 k25_l0))
 (.seq
 (.ops [
 ⟨(some 50), (.move (.tmp 3)), 3, none⟩,
 ⟨(some 51), (.binOp .eql 3 (.tmp 50) (.const (.int .i64 1)) 3), 4, none⟩,
 ⟨(some 2), (.assign (.tmp 51)), 4, none⟩])
 .ret))))
theorem slim25 : Tryd.f25.body.map (slim lends) = some k25 := by kernel_rfl
theorem ok25 : fnOk Tryd.f25 1 = true := by kernel_rfl
theorem c25 {a l : List D} {r : D × List D} (h : wpD Y.env k25 (fin tys l.length [ResultVar.tmp 2] r) (entry a l)) (ha : a.length = 1) : Y.call 25 a l = some r :=
 call_slim (Y := Y) rfl Tryd.func25 (ha ▸ ok25) slim25 h
def s_vaGood_l0_M (prog : List (Int × Int)) (depth : Int) (t12_ : Int) (s : St) : Prop := s.v 3 = D.int .i64 depth ∧ s.v 10 = D.sl 49 (cat2 .i64 .i64 prog) ∧ s.v 11 = D.int .i64 (prog.length : Int) ∧ s.v 12 = D.int .i64 t12_
def s_vaGood_l0_X (prog : List (Int × Int)) (r : Unit ⊕ Int) (ex : Ex) (s : St) : Prop := match r with
 | .inl q => ex = .ret ∧ s.v 2 = D.bool false
 | .inr q => ex = .exit 0 ∧ s.v 3 = D.int .i64 q
theorem s_vaGood_l0_wp (prog : List (Int × Int)) {v : Int × Int} {s : St} {r : Unit ⊕ Int} (h : s_vaGood_l0 prog v = some r) (hM : s_vaGood_l0_M prog v.1 v.2 s) : wpD Y.env k25_l0 (s_vaGood_l0_X prog r) s := by
 unfold s_vaGood_l0 at h
 refine wd_itO (c := k25_l0b) (fun v => s_vaGood_l0_S prog v.1 v.2) (fun v s => s_vaGood_l0_M prog v.1 v.2 s) (s_vaGood_l0_X prog) ?_ h hM
 clear h hM s v r
 intro v s o hM h
 obtain ⟨depth, t12_⟩ := v
 dsimp only at h hM
 unfold s_vaGood_l0_S at h
 unfold s_vaGood_l0_M at hM
 obtain ⟨m0, m1, m2, m3⟩ := hM
 unfold k25_l0b
 by_cases e3 : t12_ < (prog.length : Int)
 ·rw [if_pos e3] at h
  obtain ⟨e4, h⟩ := ckS h
  have c5 := s_l1In_cl (fstD prog t12_.toNat) (1 : Int) (19 : Int)
  by_cases e6 : (inR (fstD prog t12_.toNat) (1 : Int) (19 : Int)) = true
  ·rw [if_pos e6] at h
   have c7 := s_l1In_cl (sndD prog t12_.toNat) (0 : Int) (1000000 : Int)
   by_cases e8 : (inR (sndD prog t12_.toNat) (0 : Int) (1000000 : Int)) = true
   ·rw [if_pos e8] at h
    by_cases e9 : (fstD prog t12_.toNat) = 1
    ·rw [if_pos e9] at h
     obtain ⟨r40_, hl10, h⟩ := bindS h
     try dsimp only at h
     have c10 := s_vaNeeds_call (fstD prog t12_.toNat) hl10
     by_cases e11 : depth < r40_
     ·rw [if_pos e11] at h
      obtain rfl := Option.some.inj h
      simp (maxDischargeDepth := 9) only [↓xpre, xpost, xlst, xc2, xcore, yset, rg0, ↓reduceIte, Nat.reduceEqDiff, Nat.reduceLT, Nat.reduceLeDiff, Nat.reduceAdd, Nat.reduceMul, Nat.reduceMod, Nat.reduceDiv, Nat.reducePow, Nat.reduceSub, Nat.reduceBEq, Int.reduceLE, Int.reduceLT, Int.reduceEq, Int.reduceSub, Int.reduceAdd, Int.reduceToNat, Int.reduceNeg, m0, m1, m2, m3, e3, e4.1, e4.2, c5, e6, c7, e8, decide_eq_true e9, c10, e11, s_vaGood_l0_M, s_vaGood_l0_X, sxN, sxE, sxR] <;> (repeat' apply And.intro) <;> first | rfl | exact ⟨_, rfl⟩ | exact ⟨_, _, rfl⟩ | simp [lst, cat2_nil]
     ·rw [if_neg e11] at h
      obtain rfl := Option.some.inj h
      simp (maxDischargeDepth := 9) only [↓xpre, xpost, xlst, xc2, xcore, yset, rg0, ↓reduceIte, Nat.reduceEqDiff, Nat.reduceLT, Nat.reduceLeDiff, Nat.reduceAdd, Nat.reduceMul, Nat.reduceMod, Nat.reduceDiv, Nat.reducePow, Nat.reduceSub, Nat.reduceBEq, Int.reduceLE, Int.reduceLT, Int.reduceEq, Int.reduceSub, Int.reduceAdd, Int.reduceToNat, Int.reduceNeg, m0, m1, m2, m3, e3, e4.1, e4.2, c5, e6, c7, e8, decide_eq_true e9, c10, e11, s_vaGood_l0_M, s_vaGood_l0_X, sxN, sxE, sxR] <;> (repeat' apply And.intro) <;> first | rfl | exact ⟨_, rfl⟩ | exact ⟨_, _, rfl⟩ | simp [lst, cat2_nil]
    ·rw [if_neg e9] at h
     by_cases e10 : (sndD prog t12_.toNat) = 0
     ·rw [if_pos e10] at h
      obtain ⟨r40_, hl11, h⟩ := bindS h
      try dsimp only at h
      have c11 := s_vaNeeds_call (fstD prog t12_.toNat) hl11
      by_cases e12 : depth < r40_
      ·rw [if_pos e12] at h
       obtain rfl := Option.some.inj h
       simp (maxDischargeDepth := 9) only [↓xpre, xpost, xlst, xc2, xcore, yset, rg0, ↓reduceIte, Nat.reduceEqDiff, Nat.reduceLT, Nat.reduceLeDiff, Nat.reduceAdd, Nat.reduceMul, Nat.reduceMod, Nat.reduceDiv, Nat.reducePow, Nat.reduceSub, Nat.reduceBEq, Int.reduceLE, Int.reduceLT, Int.reduceEq, Int.reduceSub, Int.reduceAdd, Int.reduceToNat, Int.reduceNeg, m0, m1, m2, m3, e3, e4.1, e4.2, c5, e6, c7, e8, e9, decide_eq_true e10, c11, e12, s_vaGood_l0_M, s_vaGood_l0_X, sxN, sxE, sxR] <;> (repeat' apply And.intro) <;> first | rfl | exact ⟨_, rfl⟩ | exact ⟨_, _, rfl⟩ | simp [lst, cat2_nil]
      ·rw [if_neg e12] at h
       obtain rfl := Option.some.inj h
       simp (maxDischargeDepth := 9) only [↓xpre, xpost, xlst, xc2, xcore, yset, rg0, ↓reduceIte, Nat.reduceEqDiff, Nat.reduceLT, Nat.reduceLeDiff, Nat.reduceAdd, Nat.reduceMul, Nat.reduceMod, Nat.reduceDiv, Nat.reducePow, Nat.reduceSub, Nat.reduceBEq, Int.reduceLE, Int.reduceLT, Int.reduceEq, Int.reduceSub, Int.reduceAdd, Int.reduceToNat, Int.reduceNeg, m0, m1, m2, m3, e3, e4.1, e4.2, c5, e6, c7, e8, e9, decide_eq_true e10, c11, e12, s_vaGood_l0_M, s_vaGood_l0_X, sxN, sxE, sxR] <;> (repeat' apply And.intro) <;> first | rfl | exact ⟨_, rfl⟩ | exact ⟨_, _, rfl⟩ | simp [lst, cat2_nil]
     ·rw [if_neg e10] at h
      obtain rfl := Option.some.inj h
      simp (maxDischargeDepth := 9) only [↓xpre, xpost, xlst, xc2, xcore, yset, rg0, ↓reduceIte, Nat.reduceEqDiff, Nat.reduceLT, Nat.reduceLeDiff, Nat.reduceAdd, Nat.reduceMul, Nat.reduceMod, Nat.reduceDiv, Nat.reducePow, Nat.reduceSub, Nat.reduceBEq, Int.reduceLE, Int.reduceLT, Int.reduceEq, Int.reduceSub, Int.reduceAdd, Int.reduceToNat, Int.reduceNeg, m0, m1, m2, m3, e3, e4.1, e4.2, c5, e6, c7, e8, e9, e10, s_vaGood_l0_M, s_vaGood_l0_X, sxN, sxE, sxR] <;> (repeat' apply And.intro) <;> first | rfl | exact ⟨_, rfl⟩ | exact ⟨_, _, rfl⟩ | simp [lst, cat2_nil]
   ·rw [if_neg e8] at h
    have e8f : (inR (sndD prog t12_.toNat) (0 : Int) (1000000 : Int)) = false := Bool.eq_false_iff.mpr e8
    obtain rfl := Option.some.inj h
    simp (maxDischargeDepth := 9) only [↓xpre, xpost, xlst, xc2, xcore, yset, rg0, ↓reduceIte, Nat.reduceEqDiff, Nat.reduceLT, Nat.reduceLeDiff, Nat.reduceAdd, Nat.reduceMul, Nat.reduceMod, Nat.reduceDiv, Nat.reducePow, Nat.reduceSub, Nat.reduceBEq, Int.reduceLE, Int.reduceLT, Int.reduceEq, Int.reduceSub, Int.reduceAdd, Int.reduceToNat, Int.reduceNeg, m0, m1, m2, m3, e3, e4.1, e4.2, c5, e6, c7, e8f, s_vaGood_l0_M, s_vaGood_l0_X, sxN, sxE, sxR] <;> (repeat' apply And.intro) <;> first | rfl | exact ⟨_, rfl⟩ | exact ⟨_, _, rfl⟩ | simp [lst, cat2_nil]
  ·rw [if_neg e6] at h
   have e6f : (inR (fstD prog t12_.toNat) (1 : Int) (19 : Int)) = false := Bool.eq_false_iff.mpr e6
   obtain rfl := Option.some.inj h
   simp (maxDischargeDepth := 9) only [↓xpre, xpost, xlst, xc2, xcore, yset, rg0, ↓reduceIte, Nat.reduceEqDiff, Nat.reduceLT, Nat.reduceLeDiff, Nat.reduceAdd, Nat.reduceMul, Nat.reduceMod, Nat.reduceDiv, Nat.reducePow, Nat.reduceSub, Nat.reduceBEq, Int.reduceLE, Int.reduceLT, Int.reduceEq, Int.reduceSub, Int.reduceAdd, Int.reduceToNat, Int.reduceNeg, m0, m1, m2, m3, e3, e4.1, e4.2, c5, e6f, s_vaGood_l0_M, s_vaGood_l0_X, sxN, sxE, sxR] <;> (repeat' apply And.intro) <;> first | rfl | exact ⟨_, rfl⟩ | exact ⟨_, _, rfl⟩ | simp [lst, cat2_nil]
 ·rw [if_neg e3] at h
  obtain rfl := Option.some.inj h
  simp (maxDischargeDepth := 9) only [↓xpre, xpost, xlst, xc2, xcore, yset, rg0, ↓reduceIte, Nat.reduceEqDiff, Nat.reduceLT, Nat.reduceLeDiff, Nat.reduceAdd, Nat.reduceMul, Nat.reduceMod, Nat.reduceDiv, Nat.reducePow, Nat.reduceSub, Nat.reduceBEq, Int.reduceLE, Int.reduceLT, Int.reduceEq, Int.reduceSub, Int.reduceAdd, Int.reduceToNat, Int.reduceNeg, m0, m1, m2, m3, e3, s_vaGood_l0_M, s_vaGood_l0_X, sxN, sxE, sxR] <;> (repeat' apply And.intro) <;> first | rfl | exact ⟨_, rfl⟩ | exact ⟨_, _, rfl⟩ | simp [lst, cat2_nil]
theorem s_vaGood_call (prog : List (Int × Int)) {r : Bool} (h : s_vaGood prog = some r) : Y.call 25 [D.sl 49 (cat2 .i64 .i64 prog)] [] = some (D.bool r, []) := by
 refine c25 ?_ rfl
 unfold k25
 unfold s_vaGood at h
 have c1 := s_l1In_cl (prog.length : Int) (1 : Int) (40 : Int)
 by_cases e2 : (inR (prog.length : Int) (1 : Int) (40 : Int)) = true
 ·rw [if_pos e2] at h
  obtain ⟨r1000_, hl4, h⟩ := bindS h
  try dsimp only at h
  simp (maxDischargeDepth := 9) only [↓xpre, xpost, xlst, xc2, xcore, yset, rg0, ↓reduceIte, Nat.reduceEqDiff, Nat.reduceLT, Nat.reduceLeDiff, Nat.reduceAdd, Nat.reduceMul, Nat.reduceMod, Nat.reduceDiv, Nat.reducePow, Nat.reduceSub, Nat.reduceBEq, Int.reduceLE, Int.reduceLT, Int.reduceEq, Int.reduceSub, Int.reduceAdd, Int.reduceToNat, Int.reduceNeg, c1, e2]
  refine wd_mono (s_vaGood_l0_wp prog hl4 ?_) ?_
  ·simp (maxDischargeDepth := 9) only [↓xpre, xpost, xlst, xc2, xcore, yset, rg0, ↓reduceIte, Nat.reduceEqDiff, Nat.reduceLT, Nat.reduceLeDiff, Nat.reduceAdd, Nat.reduceMul, Nat.reduceMod, Nat.reduceDiv, Nat.reducePow, Nat.reduceSub, Nat.reduceBEq, Int.reduceLE, Int.reduceLT, Int.reduceEq, Int.reduceSub, Int.reduceAdd, Int.reduceToNat, Int.reduceNeg, c1, e2, s_vaGood_l0_M] <;> (repeat' apply And.intro) <;> first | rfl | exact ⟨_, rfl⟩ | exact ⟨_, _, rfl⟩ | simp [lst, cat2_nil]
  ·intro ex4 s4 hX4
   rcases r1000_ with q1000_ | q1000_
   ·unfold s_vaGood_l0_X at hX4
    dsimp only at hX4 h
    obtain ⟨rfl, n4_0⟩ := hX4
    obtain rfl := Option.some.inj h
    simp (maxDischargeDepth := 9) only [↓xpre, xpost, xlst, xc2, xcore, yset, rg0, ↓reduceIte, Nat.reduceEqDiff, Nat.reduceLT, Nat.reduceLeDiff, Nat.reduceAdd, Nat.reduceMul, Nat.reduceMod, Nat.reduceDiv, Nat.reducePow, Nat.reduceSub, Nat.reduceBEq, Int.reduceLE, Int.reduceLT, Int.reduceEq, Int.reduceSub, Int.reduceAdd, Int.reduceToNat, Int.reduceNeg, c1, e2, n4_0] <;> (repeat' apply And.intro) <;> first | rfl | exact ⟨_, rfl⟩ | exact ⟨_, _, rfl⟩ | simp [lst, cat2_nil]
   ·unfold s_vaGood_l0_X at hX4
    dsimp only at hX4 h
    obtain ⟨rfl, n4_0⟩ := hX4
    obtain rfl := Option.some.inj h
    simp (maxDischargeDepth := 9) only [↓xpre, xpost, xlst, xc2, xcore, yset, rg0, ↓reduceIte, Nat.reduceEqDiff, Nat.reduceLT, Nat.reduceLeDiff, Nat.reduceAdd, Nat.reduceMul, Nat.reduceMod, Nat.reduceDiv, Nat.reducePow, Nat.reduceSub, Nat.reduceBEq, Int.reduceLE, Int.reduceLT, Int.reduceEq, Int.reduceSub, Int.reduceAdd, Int.reduceToNat, Int.reduceNeg, c1, e2, n4_0] <;> (repeat' apply And.intro) <;> first | rfl | exact ⟨_, rfl⟩ | exact ⟨_, _, rfl⟩ | simp [lst, cat2_nil]
 ·rw [if_neg e2] at h
  have e2f : (inR (prog.length : Int) (1 : Int) (40 : Int)) = false := Bool.eq_false_iff.mpr e2
  obtain rfl := Option.some.inj h
  simp (maxDischargeDepth := 9) only [↓xpre, xpost, xlst, xc2, xcore, yset, rg0, ↓reduceIte, Nat.reduceEqDiff, Nat.reduceLT, Nat.reduceLeDiff, Nat.reduceAdd, Nat.reduceMul, Nat.reduceMod, Nat.reduceDiv, Nat.reducePow, Nat.reduceSub, Nat.reduceBEq, Int.reduceLE, Int.reduceLT, Int.reduceEq, Int.reduceSub, Int.reduceAdd, Int.reduceToNat, Int.reduceNeg, c1, e2f] <;> (repeat' apply And.intro) <;> first | rfl | exact ⟨_, rfl⟩ | exact ⟨_, _, rfl⟩ | simp [lst, cat2_nil]

noncomputable def s_vaWords : Option ((List ByteArray)) :=
 some [({ data := #[] } : ByteArray), ({ data := #[] } : ByteArray), ({ data := #[111, 119, 110] } : ByteArray), ({ data := #[105, 100] } : ByteArray), ({ data := #[100, 101, 103, 114, 101, 101] } : ByteArray), ({ data := #[105, 110, 112, 117, 116] } : ByteArray), ({ data := #[114, 111, 117, 110, 100] } : ByteArray), ({ data := #[108, 101, 97, 115, 116] } : ByteArray), ({ data := #[103, 114, 101, 97, 116, 101, 115, 116] } : ByteArray), ({ data := #[115, 117, 109] } : ByteArray), ({ data := #[102, 114, 101, 101] } : ByteArray), ({ data := #[99, 111, 117, 110, 116] } : ByteArray), ({ data := #[98, 101, 108, 111, 119] } : ByteArray), ({ data := #[97, 100, 100] } : ByteArray), ({ data := #[115, 117, 98] } : ByteArray), ({ data := #[109, 105, 110] } : ByteArray), ({ data := #[109, 97, 120] } : ByteArray), ({ data := #[108, 101, 115, 115] } : ByteArray), ({ data := #[101, 113, 117, 97, 108] } : ByteArray), ({ data := #[105, 102] } : ByteArray)]
/-- spec.vaWords -/
def k35 : SC :=
 .seq
 (.ops [
 ⟨(some 0), (.assign (.const (.slice none 0 0))), 52, none⟩])
 (.seq
 (.ops [
 ⟨(some 1), (.buildSlice 52 20 #[(0, (.const (.string { data := #[] }))), (1, (.const (.string { data := #[] }))), (2, (.const (.string { data := #[111, 119, 110] }))), (3, (.const (.string { data := #[105, 100] }))), (4, (.const (.string { data := #[100, 101, 103, 114, 101, 101] }))), (5, (.const (.string { data := #[105, 110, 112, 117, 116] }))), (6, (.const (.string { data := #[114, 111, 117, 110, 100] }))), (7, (.const (.string { data := #[108, 101, 97, 115, 116] }))), (8, (.const (.string { data := #[103, 114, 101, 97, 116, 101, 115, 116] }))), (9, (.const (.string { data := #[115, 117, 109] }))), (10, (.const (.string { data := #[102, 114, 101, 101] }))), (11, (.const (.string { data := #[99, 111, 117, 110, 116] }))), (12, (.const (.string { data := #[98, 101, 108, 111, 119] }))), (13, (.const (.string { data := #[97, 100, 100] }))), (14, (.const (.string { data := #[115, 117, 98] }))), (15, (.const (.string { data := #[109, 105, 110] }))), (16, (.const (.string { data := #[109, 97, 120] }))), (17, (.const (.string { data := #[108, 101, 115, 115] }))), (18, (.const (.string { data := #[101, 113, 117, 97, 108] }))), (19, (.const (.string { data := #[105, 102] })))]), 52, none⟩,
 ⟨(some 0), (.assign (.tmp 1)), 52, none⟩])
 .ret)
theorem slim35 : Tryd.f35.body.map (slim lends) = some k35 := by kernel_rfl
theorem ok35 : fnOk Tryd.f35 0 = true := by kernel_rfl
theorem c35 {a l : List D} {r : D × List D} (h : wpD Y.env k35 (fin tys l.length [ResultVar.tmp 0] r) (entry a l)) (ha : a.length = 0) : Y.call 35 a l = some r :=
 call_slim (Y := Y) rfl Tryd.func35 (ha ▸ ok35) slim35 h
theorem s_vaWords_call {r : (List ByteArray)} (h : s_vaWords = some r) : Y.call 35 [] [] = some (D.own 9 (lst D.str r), []) := by
 refine c35 ?_ rfl
 unfold k35
 unfold s_vaWords at h
 obtain rfl := Option.some.inj h
 simp (maxDischargeDepth := 9) only [↓xpre, xpost, xlst, xc2, xcore, yset, rg0, ↓reduceIte, Nat.reduceEqDiff, Nat.reduceLT, Nat.reduceLeDiff, Nat.reduceAdd, Nat.reduceMul, Nat.reduceMod, Nat.reduceDiv, Nat.reducePow, Nat.reduceSub, Nat.reduceBEq, Int.reduceLE, Int.reduceLT, Int.reduceEq, Int.reduceSub, Int.reduceAdd, Int.reduceToNat, Int.reduceNeg] <;> (repeat' apply And.intro) <;> first | rfl | exact ⟨_, rfl⟩ | exact ⟨_, _, rfl⟩ | simp [lst, cat2_nil]

noncomputable def s_vaText_l0_S (prog : List (Int × Int)) (out : ByteArray) (t8_ : Int) : Option ((ByteArray × Int) ⊕ (ByteArray)) :=
 if t8_ < (prog.length : Int) then
  ck (0 ≤ t8_ ∧ t8_.toNat < prog.length) <|
  if 0 < t8_ then
   ck (out.size + ({ data := #[32] } : ByteArray).size < 1099511627776) <|
   if (fstD prog t8_.toNat) = 1 then
    (s_l1Num (sndD prog t8_.toNat)).bind fun r23_ =>
    ck ((out ++ ({ data := #[32] } : ByteArray)).size + r23_.size < 1099511627776) <|
    some (Sum.inl (((out ++ ({ data := #[32] } : ByteArray)) ++ r23_), IntKind.i64.wrap (t8_ + 1)))
   else
    (s_vaWords).bind fun r26_ =>
    ck (0 ≤ (fstD prog t8_.toNat) ∧ (fstD prog t8_.toNat).toNat < r26_.length) <|
    ck ((out ++ ({ data := #[32] } : ByteArray)).size + (r26_.getD ((fstD prog t8_.toNat).toNat) default).size < 1099511627776) <|
    some (Sum.inl (((out ++ ({ data := #[32] } : ByteArray)) ++ (r26_.getD ((fstD prog t8_.toNat).toNat) default)), IntKind.i64.wrap (t8_ + 1)))
  else
   if (fstD prog t8_.toNat) = 1 then
    (s_l1Num (sndD prog t8_.toNat)).bind fun r23_ =>
    ck (out.size + r23_.size < 1099511627776) <|
    some (Sum.inl ((out ++ r23_), IntKind.i64.wrap (t8_ + 1)))
   else
    (s_vaWords).bind fun r26_ =>
    ck (0 ≤ (fstD prog t8_.toNat) ∧ (fstD prog t8_.toNat).toNat < r26_.length) <|
    ck (out.size + (r26_.getD ((fstD prog t8_.toNat).toNat) default).size < 1099511627776) <|
    some (Sum.inl ((out ++ (r26_.getD ((fstD prog t8_.toNat).toNat) default)), IntKind.i64.wrap (t8_ + 1)))
 else
  some (Sum.inr out)
noncomputable def s_vaText_l0 (prog : List (Int × Int)) (v : ByteArray × Int) : Option (ByteArray) := itO (fun v => s_vaText_l0_S prog v.1 v.2) v
noncomputable def s_vaText (prog : List (Int × Int)) : Option (ByteArray) :=
 (s_vaText_l0 prog (({ data := #[] } : ByteArray), 0)).bind fun r1000_ =>
 some r1000_
/-- spec.vaText -/
def k26_l0b : SC :=
 .seq
 (.ops [
 ⟨(some 9), (.binOp .lss 3 (.tmp 8) (.tmp 7) 3), 0, none⟩])
 (.seq
 (.cond (.tmp 9)
 .skip
 (.exit 0))
 (.seq
 (.block 1
 (.seq
 (.ops [
 ⟨(some 10), (.move (.tmp 8)), 3, none⟩,
 ⟨(some 11), (.indexAddr 26 (.tmp 6) (.tmp 8)), 0, none⟩,
 ⟨(some 12), (.load 49 (.tmp 11)), 49, none⟩,
 ⟨(some 5), (.alloc 49), 0, none⟩,
 ⟨(some 4), (.assign (.tmp 10)), 3, none⟩,
 ⟨none, (.store 49 (.tmp 5) (.tmp 12)), 0, none⟩])
 (.seq
 (.seq
 (.ops [
 ⟨(some 13), (.move (.tmp 4)), 3, none⟩,
 ⟨(some 14), (.binOp .gtr 3 (.tmp 13) (.const (.int .i64 0)) 3), 4, none⟩])
 (.cond (.tmp 14)
 (.ops [
 ⟨(some 15), (.move (.tmp 3)), 9, none⟩,
 ⟨(some 16), (.binOp .add 9 (.tmp 15) (.const (.string { data := #[32] })) 9), 9, none⟩,
 ⟨(some 3), (.assign (.tmp 16)), 9, none⟩])
 .skip))
 (.seq
 (.ops [
 ⟨(some 17), (.fieldAddr 49 (.tmp 5) 0), 0, none⟩,
 ⟨(some 18), (.load 3 (.tmp 17)), 3, none⟩,
 ⟨(some 19), (.binOp .eql 3 (.tmp 18) (.const (.int .i64 1)) 3), 4, none⟩])
 (.cond (.tmp 19)
 (.ops [
 ⟨(some 20), (.move (.tmp 3)), 9, none⟩,
 ⟨(some 21), (.fieldAddr 49 (.tmp 5) 1), 0, none⟩,
 ⟨(some 22), (.load 3 (.tmp 21)), 3, none⟩,
 ⟨(some 23), (.call ⟨(.value (.func 53)), #[(.tmp 22)], #[3]⟩), 9, none⟩,
 ⟨(some 24), (.binOp .add 9 (.tmp 20) (.tmp 23) 9), 9, none⟩,
 ⟨(some 3), (.assign (.tmp 24)), 9, none⟩])
 (.draws [
 (⟨[25, 3, 3], [25, 26, 27, 28, 29, 30, 31, 3, 31, 31], [25]⟩, ⟨(some 25), (.move (.tmp 3)), 9, none⟩),
 (⟨[26], [25, 26, 27, 28, 29, 30, 31, 3, 31, 31], [26]⟩, ⟨(some 26), (.call ⟨(.value (.func 35)), #[], #[]⟩), 52, none⟩),
 (⟨[27, 5, 5], [25, 26, 27, 28, 29, 30, 31, 3, 31, 31], [27]⟩, ⟨(some 27), (.fieldAddr 49 (.tmp 5) 0), 0, none⟩),
 (⟨[28, 27, 5], [25, 26, 27, 28, 29, 30, 31, 3, 31, 31], [28]⟩, ⟨(some 28), (.load 3 (.tmp 27)), 3, none⟩),
 (⟨[29, 26, 28, 26, 5], [25, 26, 27, 28, 29, 30, 31, 3, 31, 31], [29]⟩, ⟨(some 29), (.indexAddr 52 (.tmp 26) (.tmp 28)), 0, none⟩),
 (⟨[30, 29, 26], [25, 26, 27, 28, 29, 30, 31, 3, 31, 31], [30]⟩, ⟨(some 30), (.load 9 (.tmp 29)), 9, none⟩),
 (⟨[31, 25, 30, 3, 26], [25, 26, 27, 28, 29, 30, 31, 3, 31, 31], [31]⟩, ⟨(some 31), (.binOp .add 9 (.tmp 25) (.tmp 30) 9), 9, none⟩),
 (⟨[3, 31, 31], [25, 26, 27, 28, 29, 30, 31, 3, 31, 31], [3, 31, 31]⟩, ⟨(some 3), (.assign (.tmp 31)), 9, none⟩)]))))))
 (.ops [
 ⟨(some 32), (.binOp .add 3 (.tmp 8) (.const (.int .i64 1)) 3), 3, none⟩,
 ⟨(some 8), (.move (.tmp 32)), 3, none⟩])))
def k26_l0 : SC := .loop k26_l0b
def k26 : SC :=
 .seq
 (.ops [
 ⟨(some 2), (.assign (.const (.string { data := #[] }))), 9, none⟩])
 (.seq
 (.ops [
 ⟨(some 3), (.assign (.const (.string { data := #[] }))), 9, none⟩])
 (.seq
 (.seq
 (.ops [
 ⟨(some 6), (.move (.tmp 0)), 26, none⟩,
 ⟨(some 7), (.call ⟨(.builtin .len), #[(.tmp 6)], #[26]⟩), 3, none⟩,
 ⟨(some 8), (.move (.const (.int .i64 0))), 3, none⟩])
 (.block 0
 k26_l0))
 (.seq
 (.ops [
 ⟨(some 33), (.move (.tmp 3)), 9, none⟩,
 ⟨(some 2), (.assign (.tmp 33)), 9, none⟩])
 .ret)))
theorem slim26 : Tryd.f26.body.map (slim lends) = some k26 := by kernel_rfl
theorem ok26 : fnOk Tryd.f26 1 = true := by kernel_rfl
theorem c26 {a l : List D} {r : D × List D} (h : wpD Y.env k26 (fin tys l.length [ResultVar.tmp 2] r) (entry a l)) (ha : a.length = 1) : Y.call 26 a l = some r :=
 call_slim (Y := Y) rfl Tryd.func26 (ha ▸ ok26) slim26 h
def s_vaText_l0_M (prog : List (Int × Int)) (out : ByteArray) (t8_ : Int) (s : St) : Prop := s.v 3 = D.str out ∧ s.v 6 = D.sl 49 (cat2 .i64 .i64 prog) ∧ s.v 7 = D.int .i64 (prog.length : Int) ∧ s.v 8 = D.int .i64 t8_
def s_vaText_l0_X (prog : List (Int × Int)) (r : ByteArray) (ex : Ex) (s : St) : Prop := ex = .exit 0 ∧ s.v 3 = D.str r
theorem s_vaText_l0_wp (prog : List (Int × Int)) {v : ByteArray × Int} {s : St} {r : ByteArray} (h : s_vaText_l0 prog v = some r) (hM : s_vaText_l0_M prog v.1 v.2 s) : wpD Y.env k26_l0 (s_vaText_l0_X prog r) s := by
 unfold s_vaText_l0 at h
 refine wd_itO (c := k26_l0b) (fun v => s_vaText_l0_S prog v.1 v.2) (fun v s => s_vaText_l0_M prog v.1 v.2 s) (s_vaText_l0_X prog) ?_ h hM
 clear h hM s v r
 intro v s o hM h
 obtain ⟨out, t8_⟩ := v
 dsimp only at h hM
 unfold s_vaText_l0_S at h
 unfold s_vaText_l0_M at hM
 obtain ⟨m0, m1, m2, m3⟩ := hM
 unfold k26_l0b
 by_cases e1 : t8_ < (prog.length : Int)
 ·rw [if_pos e1] at h
  obtain ⟨e2, h⟩ := ckS h
  by_cases e3 : 0 < t8_
  ·rw [if_pos e3] at h
   obtain ⟨e4, h⟩ := ckS h
   by_cases e5 : (fstD prog t8_.toNat) = 1
   ·rw [if_pos e5] at h
    obtain ⟨r23_, hl6, h⟩ := bindS h
    try dsimp only at h
    have c6 := s_l1Num_call (sndD prog t8_.toNat) hl6
    obtain ⟨e7, h⟩ := ckS h
    obtain rfl := Option.some.inj h
    simp (maxDischargeDepth := 9) only [↓xpre, xpost, xlst, xc2, xcore, yset, rg0, ↓reduceIte, Nat.reduceEqDiff, Nat.reduceLT, Nat.reduceLeDiff, Nat.reduceAdd, Nat.reduceMul, Nat.reduceMod, Nat.reduceDiv, Nat.reducePow, Nat.reduceSub, Nat.reduceBEq, Int.reduceLE, Int.reduceLT, Int.reduceEq, Int.reduceSub, Int.reduceAdd, Int.reduceToNat, Int.reduceNeg, m0, m1, m2, m3, e1, e2.1, e2.2, e3, e4, decide_eq_true e5, c6, e7, s_vaText_l0_M, s_vaText_l0_X, sxN, sxE, sxR] <;> (repeat' apply And.intro) <;> first | rfl | exact ⟨_, rfl⟩ | exact ⟨_, _, rfl⟩ | simp [lst, cat2_nil]
   ·rw [if_neg e5] at h
    obtain ⟨r26_, hl6, h⟩ := bindS h
    try dsimp only at h
    have c6 := s_vaWords_call hl6
    obtain ⟨e7, h⟩ := ckS h
    obtain ⟨e8, h⟩ := ckS h
    obtain rfl := Option.some.inj h
    simp (maxDischargeDepth := 9) only [↓xpre, xpost, xlst, xc2, xcore, yset, rg0, ↓reduceIte, Nat.reduceEqDiff, Nat.reduceLT, Nat.reduceLeDiff, Nat.reduceAdd, Nat.reduceMul, Nat.reduceMod, Nat.reduceDiv, Nat.reducePow, Nat.reduceSub, Nat.reduceBEq, Int.reduceLE, Int.reduceLT, Int.reduceEq, Int.reduceSub, Int.reduceAdd, Int.reduceToNat, Int.reduceNeg, m0, m1, m2, m3, e1, e2.1, e2.2, e3, e4, e5, c6, e7.1, e7.2, e8, s_vaText_l0_M, s_vaText_l0_X, sxN, sxE, sxR] <;> (repeat' apply And.intro) <;> first | rfl | exact ⟨_, rfl⟩ | exact ⟨_, _, rfl⟩ | simp [lst, cat2_nil]
  ·rw [if_neg e3] at h
   by_cases e4 : (fstD prog t8_.toNat) = 1
   ·rw [if_pos e4] at h
    obtain ⟨r23_, hl5, h⟩ := bindS h
    try dsimp only at h
    have c5 := s_l1Num_call (sndD prog t8_.toNat) hl5
    obtain ⟨e6, h⟩ := ckS h
    obtain rfl := Option.some.inj h
    simp (maxDischargeDepth := 9) only [↓xpre, xpost, xlst, xc2, xcore, yset, rg0, ↓reduceIte, Nat.reduceEqDiff, Nat.reduceLT, Nat.reduceLeDiff, Nat.reduceAdd, Nat.reduceMul, Nat.reduceMod, Nat.reduceDiv, Nat.reducePow, Nat.reduceSub, Nat.reduceBEq, Int.reduceLE, Int.reduceLT, Int.reduceEq, Int.reduceSub, Int.reduceAdd, Int.reduceToNat, Int.reduceNeg, m0, m1, m2, m3, e1, e2.1, e2.2, e3, decide_eq_true e4, c5, e6, s_vaText_l0_M, s_vaText_l0_X, sxN, sxE, sxR] <;> (repeat' apply And.intro) <;> first | rfl | exact ⟨_, rfl⟩ | exact ⟨_, _, rfl⟩ | simp [lst, cat2_nil]
   ·rw [if_neg e4] at h
    obtain ⟨r26_, hl5, h⟩ := bindS h
    try dsimp only at h
    have c5 := s_vaWords_call hl5
    obtain ⟨e6, h⟩ := ckS h
    obtain ⟨e7, h⟩ := ckS h
    obtain rfl := Option.some.inj h
    simp (maxDischargeDepth := 9) only [↓xpre, xpost, xlst, xc2, xcore, yset, rg0, ↓reduceIte, Nat.reduceEqDiff, Nat.reduceLT, Nat.reduceLeDiff, Nat.reduceAdd, Nat.reduceMul, Nat.reduceMod, Nat.reduceDiv, Nat.reducePow, Nat.reduceSub, Nat.reduceBEq, Int.reduceLE, Int.reduceLT, Int.reduceEq, Int.reduceSub, Int.reduceAdd, Int.reduceToNat, Int.reduceNeg, m0, m1, m2, m3, e1, e2.1, e2.2, e3, e4, c5, e6.1, e6.2, e7, s_vaText_l0_M, s_vaText_l0_X, sxN, sxE, sxR] <;> (repeat' apply And.intro) <;> first | rfl | exact ⟨_, rfl⟩ | exact ⟨_, _, rfl⟩ | simp [lst, cat2_nil]
 ·rw [if_neg e1] at h
  obtain rfl := Option.some.inj h
  simp (maxDischargeDepth := 9) only [↓xpre, xpost, xlst, xc2, xcore, yset, rg0, ↓reduceIte, Nat.reduceEqDiff, Nat.reduceLT, Nat.reduceLeDiff, Nat.reduceAdd, Nat.reduceMul, Nat.reduceMod, Nat.reduceDiv, Nat.reducePow, Nat.reduceSub, Nat.reduceBEq, Int.reduceLE, Int.reduceLT, Int.reduceEq, Int.reduceSub, Int.reduceAdd, Int.reduceToNat, Int.reduceNeg, m0, m1, m2, m3, e1, s_vaText_l0_M, s_vaText_l0_X, sxN, sxE, sxR] <;> (repeat' apply And.intro) <;> first | rfl | exact ⟨_, rfl⟩ | exact ⟨_, _, rfl⟩ | simp [lst, cat2_nil]
theorem s_vaText_call (prog : List (Int × Int)) {r : ByteArray} (h : s_vaText prog = some r) : Y.call 26 [D.sl 49 (cat2 .i64 .i64 prog)] [] = some (D.str r, []) := by
 refine c26 ?_ rfl
 unfold k26
 unfold s_vaText at h
 obtain ⟨r1000_, hl2, h⟩ := bindS h
 try dsimp only at h
 simp (maxDischargeDepth := 9) only [↓xpre, xpost, xlst, xc2, xcore, yset, rg0, ↓reduceIte, Nat.reduceEqDiff, Nat.reduceLT, Nat.reduceLeDiff, Nat.reduceAdd, Nat.reduceMul, Nat.reduceMod, Nat.reduceDiv, Nat.reducePow, Nat.reduceSub, Nat.reduceBEq, Int.reduceLE, Int.reduceLT, Int.reduceEq, Int.reduceSub, Int.reduceAdd, Int.reduceToNat, Int.reduceNeg]
 refine wd_mono (s_vaText_l0_wp prog hl2 ?_) ?_
 ·simp (maxDischargeDepth := 9) only [↓xpre, xpost, xlst, xc2, xcore, yset, rg0, ↓reduceIte, Nat.reduceEqDiff, Nat.reduceLT, Nat.reduceLeDiff, Nat.reduceAdd, Nat.reduceMul, Nat.reduceMod, Nat.reduceDiv, Nat.reducePow, Nat.reduceSub, Nat.reduceBEq, Int.reduceLE, Int.reduceLT, Int.reduceEq, Int.reduceSub, Int.reduceAdd, Int.reduceToNat, Int.reduceNeg, s_vaText_l0_M] <;> (repeat' apply And.intro) <;> first | rfl | exact ⟨_, rfl⟩ | exact ⟨_, _, rfl⟩ | simp [lst, cat2_nil]
 ·intro ex2 s2 hX2
  unfold s_vaText_l0_X at hX2
  obtain ⟨rfl, n2_0⟩ := hX2
  obtain rfl := Option.some.inj h
  simp (maxDischargeDepth := 9) only [↓xpre, xpost, xlst, xc2, xcore, yset, rg0, ↓reduceIte, Nat.reduceEqDiff, Nat.reduceLT, Nat.reduceLeDiff, Nat.reduceAdd, Nat.reduceMul, Nat.reduceMod, Nat.reduceDiv, Nat.reducePow, Nat.reduceSub, Nat.reduceBEq, Int.reduceLE, Int.reduceLT, Int.reduceEq, Int.reduceSub, Int.reduceAdd, Int.reduceToNat, Int.reduceNeg, n2_0] <;> (repeat' apply And.intro) <;> first | rfl | exact ⟨_, rfl⟩ | exact ⟨_, _, rfl⟩ | simp [lst, cat2_nil]

/-- spec.ValueText -/
def k8 : SC :=
 .seq
 (.ops [
 ⟨(some 2), (.assign (.const (.string { data := #[] }))), 9, none⟩,
 ⟨(some 3), (.assign (.const (.bool false))), 4, none⟩])
 (.seq
 (.seq
 (.ops [
 ⟨(some 4), (.move (.tmp 0)), 26, none⟩,
 ⟨(some 5), (.call ⟨(.value (.func 25)), #[(.tmp 4)], #[26]⟩), 4, none⟩,
 ⟨(some 6), (.unOp .not 4 (.tmp 5)), 4, none⟩])
 (.cond (.tmp 6)
 (.seq
 (.ops [
 ⟨(some 2), (.assign (.const (.string { data := #[] }))), 9, none⟩,
 ⟨(some 3), (.assign (.const (.bool false))), 4, none⟩])
 .ret)
 .skip))
 (.seq
 (.ops [
 ⟨(some 7), (.move (.tmp 0)), 26, none⟩,
 ⟨(some 8), (.call ⟨(.value (.func 26)), #[(.tmp 7)], #[26]⟩), 9, none⟩,
 ⟨(some 2), (.assign (.tmp 8)), 9, none⟩,
 ⟨(some 3), (.assign (.const (.bool true))), 4, none⟩])
 .ret))
theorem slim8 : Tryd.f8.body.map (slim lends) = some k8 := by kernel_rfl
theorem ok8 : fnOk Tryd.f8 1 = true := by kernel_rfl
theorem c8 {a l : List D} {r : D × List D} (h : wpD Y.env k8 (fin tys l.length [ResultVar.tmp 2, ResultVar.tmp 3] r) (entry a l)) (ha : a.length = 1) : Y.call 8 a l = some r :=
 call_slim (Y := Y) rfl Tryd.func8 (ha ▸ ok8) slim8 h
end Go.Proofs.YtaogbcdlpgfplaaDoor
