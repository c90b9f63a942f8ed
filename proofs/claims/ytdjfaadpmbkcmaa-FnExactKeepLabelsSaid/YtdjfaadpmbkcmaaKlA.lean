/- Problems with some labels: lifted. Conditions: none. -/
import Derived.Test.YtdjfaadpmbkcmaaL6
import Derived.Test.YtdjfaadpmbkcmaaRnA
import Derived.Test.YtdjfaadpmbkcmaaRep
namespace Go.Proofs.Ytdjfaadpmbkcmaa
open Go Dv
set_option linter.unusedSimpArgs false
set_option linter.unusedVariables false
set_option maxRecDepth 100000
set_option maxHeartbeats 4000000

noncomputable def i_increasing_l0_S (list : List Int) (low : Int) (high : Int) (t11_ : Int) : Option ((Int) ⊕ (Unit ⊕ Unit)) :=
 if t11_ < (list.length : Int) then
  ck (0 ≤ t11_ ∧ t11_.toNat < list.length) <|
  if (inR (list.getD t11_.toNat default) low high) = true then
   if 0 < t11_ then
    ck (0 ≤ IntKind.i64.wrap (t11_ - 1) ∧ (IntKind.i64.wrap (t11_ - 1)).toNat < list.length) <|
    if (list.getD t11_.toNat default) ≤ (list.getD ((IntKind.i64.wrap (t11_ - 1)).toNat) default) then
     some (Sum.inr (Sum.inl ()))
    else
     some (Sum.inl (IntKind.i64.wrap (t11_ + 1)))
   else
    some (Sum.inl (IntKind.i64.wrap (t11_ + 1)))
  else
   some (Sum.inr (Sum.inl ()))
 else
  some (Sum.inr (Sum.inr ()))
noncomputable def i_increasing_l0 (list : List Int) (low : Int) (high : Int) (v : Int) : Option (Unit ⊕ Unit) := itO (fun v => i_increasing_l0_S list low high v) v
noncomputable def i_increasing (list : List Int) (low : Int) (high : Int) : Option (Bool) :=
 (i_increasing_l0 list low high 0).bind fun r2_ =>
 match r2_ with
 | .inl q2_ =>
  some false
 | .inr q2_ =>
  some true
/-- impl.increasing -/
def k49_l0b : SC :=
 .seq
 (.ops [
 ⟨(some 12), (.binOp .lss 3 (.tmp 11) (.tmp 10) 3), 0, none⟩])
 (.seq
 (.cond (.tmp 12)
 .skip
 (.exit 0))
 (.seq
 (.block 1
 (.seq
 (.ops [
 ⟨(some 13), (.move (.tmp 11)), 3, none⟩,
 ⟨(some 14), (.indexAddr 33 (.tmp 9) (.tmp 11)), 0, none⟩,
 ⟨(some 15), (.load 3 (.tmp 14)), 3, none⟩,
 ⟨(some 7), (.assign (.tmp 13)), 3, none⟩,
 ⟨(some 8), (.assign (.tmp 15)), 3, none⟩])
 (.seq
 (.ops [
 ⟨(some 16), (.move (.tmp 8)), 3, none⟩,
 ⟨(some 17), (.move (.tmp 1)), 3, none⟩,
 ⟨(some 18), (.move (.tmp 2)), 3, none⟩,
 ⟨(some 19), (.call ⟨(.value (.func 70)), #[(.tmp 16), (.tmp 17), (.tmp 18)], #[3, 3, 3]⟩), 4, none⟩,
 ⟨(some 20), (.unOp .not 4 (.tmp 19)), 4, none⟩,
 ⟨(some 21), (.move (.tmp 20)), 4, none⟩,
 ⟨(some 22), (.move (.tmp 7)), 3, (some (some 21, false))⟩,
 ⟨(some 23), (.binOp .gtr 3 (.tmp 22) (.const (.int .i64 0)) 3), 4, (some (some 21, false))⟩,
 ⟨(some 24), (.move (.tmp 23)), 4, (some (some 21, false))⟩,
 ⟨(some 25), (.move (.tmp 0)), 33, (some (some 24, true))⟩,
 ⟨(some 26), (.move (.tmp 7)), 3, (some (some 24, true))⟩,
 ⟨(some 27), (.binOp .sub 3 (.tmp 26) (.const (.int .i64 1)) 3), 3, (some (some 24, true))⟩,
 ⟨(some 28), (.indexAddr 33 (.tmp 25) (.tmp 27)), 0, (some (some 24, true))⟩,
 ⟨(some 29), (.load 3 (.tmp 28)), 3, (some (some 24, true))⟩,
 ⟨(some 30), (.move (.tmp 8)), 3, (some (some 24, true))⟩,
 ⟨(some 31), (.binOp .geq 3 (.tmp 29) (.tmp 30) 3), 4, (some (some 24, true))⟩,
 ⟨(some 32), (.pick (.tmp 24) (.tmp 31) (.const (.bool false))), 4, (some (some 21, false))⟩,
 ⟨(some 33), (.pick (.tmp 21) (.const (.bool true)) (.tmp 32)), 4, none⟩])
 (.cond (.tmp 33)
 (.seq
 (.ops [
 ⟨(some 6), (.assign (.const (.bool false))), 4, none⟩])
 .ret)
 .skip))))
 (.ops [
 ⟨(some 34), (.binOp .add 3 (.tmp 11) (.const (.int .i64 1)) 3), 3, none⟩,
 ⟨(some 11), (.move (.tmp 34)), 3, none⟩])))
def k49_l0 : SC := .loop k49_l0b
def k49 : SC :=
 .seq
 (.ops [
 ⟨(some 6), (.assign (.const (.bool false))), 4, none⟩])
 (.seq
 (.seq
 (.ops [
 ⟨(some 9), (.move (.tmp 0)), 33, none⟩,
 ⟨(some 10), (.call ⟨(.builtin .len), #[(.tmp 9)], #[33]⟩), 3, none⟩,
 ⟨(some 11), (.move (.const (.int .i64 0))), 3, none⟩])
 (.block 0
 k49_l0))
 (.seq
 (.ops [
 ⟨(some 6), (.assign (.const (.bool true))), 4, none⟩])
 .ret))
theorem slim49 : Try.f49.body.map (slim lends) = some k49 := by kernel_rfl
theorem ok49 : fnOk Try.f49 3 = true := by kernel_rfl
theorem c49 {a l : List D} {r : D × List D} (h : wpD Y.env k49 (fin tys l.length [ResultVar.tmp 6] r) (entry a l)) (ha : a.length = 3) : Y.call 49 a l = some r :=
 call_slim (Y := Y) rfl Try.func49 (ha ▸ ok49) slim49 h
def i_increasing_l0_M (list : List Int) (low : Int) (high : Int) (t11_ : Int) (s : St) : Prop := s.v 0 = D.sl 3 (lst (D.int .i64) list) ∧ s.v 1 = D.int .i64 low ∧ s.v 2 = D.int .i64 high ∧ s.v 9 = D.sl 3 (lst (D.int .i64) list) ∧ s.v 10 = D.int .i64 (list.length : Int) ∧ s.v 11 = D.int .i64 t11_
def i_increasing_l0_X (list : List Int) (low : Int) (high : Int) (r : Unit ⊕ Unit) (ex : Ex) (s : St) : Prop := match r with
 | .inl q => ex = .ret ∧ s.v 6 = D.bool false
 | .inr q => ex = .exit 0
theorem i_increasing_l0_wp (list : List Int) (low : Int) (high : Int) {v : Int} {s : St} {r : Unit ⊕ Unit} (h : i_increasing_l0 list low high v = some r) (hM : i_increasing_l0_M list low high v s) : wpD Y.env k49_l0 (i_increasing_l0_X list low high r) s := by
 unfold i_increasing_l0 at h
 refine wd_itO (c := k49_l0b) (fun v => i_increasing_l0_S list low high v) (fun v s => i_increasing_l0_M list low high v s) (i_increasing_l0_X list low high) ?_ h hM
 clear h hM s v r
 intro t11_ s o hM h
 unfold i_increasing_l0_S at h
 unfold i_increasing_l0_M at hM
 obtain ⟨m0, m1, m2, m3, m4, m5⟩ := hM
 unfold k49_l0b
 by_cases e1 : t11_ < (list.length : Int)
 ·rw [if_pos e1] at h
  obtain ⟨e2, h⟩ := ckS h
  have c3 := i_within_cl (list.getD t11_.toNat default) low high
  by_cases e4 : (inR (list.getD t11_.toNat default) low high) = true
  ·rw [if_pos e4] at h
   by_cases e5 : 0 < t11_
   ·rw [if_pos e5] at h
    obtain ⟨e6, h⟩ := ckS h
    by_cases e7 : (list.getD t11_.toNat default) ≤ (list.getD ((IntKind.i64.wrap (t11_ - 1)).toNat) default)
    ·rw [if_pos e7] at h
     obtain rfl := Option.some.inj h
     simp (maxDischargeDepth := 9) only [↓xpre, xpost, xlst, xc2, xcore, yset, rg0, ↓reduceIte, Nat.reduceEqDiff, Nat.reduceLT, Nat.reduceLeDiff, Nat.reduceAdd, Nat.reduceMul, Nat.reduceMod, Nat.reduceSub, Nat.reduceBEq, Int.reduceLE, Int.reduceLT, Int.reduceEq, Int.reduceSub, Int.reduceAdd, Int.reduceToNat, Int.reduceNeg, m0, m1, m2, m3, m4, m5, e1, e2.1, e2.2, c3, e4, e5, e6.1, e6.2, e7, i_increasing_l0_M, i_increasing_l0_X, sxN, sxE, sxR] <;> (repeat' apply And.intro) <;> first | rfl | exact ⟨_, rfl⟩ | simp [lst, cat2_nil]
    ·rw [if_neg e7] at h
     obtain rfl := Option.some.inj h
     simp (maxDischargeDepth := 9) only [↓xpre, xpost, xlst, xc2, xcore, yset, rg0, ↓reduceIte, Nat.reduceEqDiff, Nat.reduceLT, Nat.reduceLeDiff, Nat.reduceAdd, Nat.reduceMul, Nat.reduceMod, Nat.reduceSub, Nat.reduceBEq, Int.reduceLE, Int.reduceLT, Int.reduceEq, Int.reduceSub, Int.reduceAdd, Int.reduceToNat, Int.reduceNeg, m0, m1, m2, m3, m4, m5, e1, e2.1, e2.2, c3, e4, e5, e6.1, e6.2, e7, i_increasing_l0_M, i_increasing_l0_X, sxN, sxE, sxR] <;> (repeat' apply And.intro) <;> first | rfl | exact ⟨_, rfl⟩ | simp [lst, cat2_nil]
   ·rw [if_neg e5] at h
    obtain rfl := Option.some.inj h
    simp (maxDischargeDepth := 9) only [↓xpre, xpost, xlst, xc2, xcore, yset, rg0, ↓reduceIte, Nat.reduceEqDiff, Nat.reduceLT, Nat.reduceLeDiff, Nat.reduceAdd, Nat.reduceMul, Nat.reduceMod, Nat.reduceSub, Nat.reduceBEq, Int.reduceLE, Int.reduceLT, Int.reduceEq, Int.reduceSub, Int.reduceAdd, Int.reduceToNat, Int.reduceNeg, m0, m1, m2, m3, m4, m5, e1, e2.1, e2.2, c3, e4, e5, i_increasing_l0_M, i_increasing_l0_X, sxN, sxE, sxR] <;> (repeat' apply And.intro) <;> first | rfl | exact ⟨_, rfl⟩ | simp [lst, cat2_nil]
  ·rw [if_neg e4] at h
   have e4f : (inR (list.getD t11_.toNat default) low high) = false := Bool.eq_false_iff.mpr e4
   obtain rfl := Option.some.inj h
   simp (maxDischargeDepth := 9) only [↓xpre, xpost, xlst, xc2, xcore, yset, rg0, ↓reduceIte, Nat.reduceEqDiff, Nat.reduceLT, Nat.reduceLeDiff, Nat.reduceAdd, Nat.reduceMul, Nat.reduceMod, Nat.reduceSub, Nat.reduceBEq, Int.reduceLE, Int.reduceLT, Int.reduceEq, Int.reduceSub, Int.reduceAdd, Int.reduceToNat, Int.reduceNeg, m0, m1, m2, m3, m4, m5, e1, e2.1, e2.2, c3, e4f, i_increasing_l0_M, i_increasing_l0_X, sxN, sxE, sxR] <;> (repeat' apply And.intro) <;> first | rfl | exact ⟨_, rfl⟩ | simp [lst, cat2_nil]
 ·rw [if_neg e1] at h
  obtain rfl := Option.some.inj h
  simp (maxDischargeDepth := 9) only [↓xpre, xpost, xlst, xc2, xcore, yset, rg0, ↓reduceIte, Nat.reduceEqDiff, Nat.reduceLT, Nat.reduceLeDiff, Nat.reduceAdd, Nat.reduceMul, Nat.reduceMod, Nat.reduceSub, Nat.reduceBEq, Int.reduceLE, Int.reduceLT, Int.reduceEq, Int.reduceSub, Int.reduceAdd, Int.reduceToNat, Int.reduceNeg, m0, m1, m2, m3, m4, m5, e1, i_increasing_l0_M, i_increasing_l0_X, sxN, sxE, sxR] <;> (repeat' apply And.intro) <;> first | rfl | exact ⟨_, rfl⟩ | simp [lst, cat2_nil]
theorem i_increasing_call (list : List Int) (low : Int) (high : Int) {r : Bool} (h : i_increasing list low high = some r) : Y.call 49 [D.sl 3 (lst (D.int .i64) list), D.int .i64 low, D.int .i64 high] [] = some (D.bool r, []) := by
 refine c49 ?_ rfl
 unfold k49
 unfold i_increasing at h
 obtain ⟨r2_, hl2, h⟩ := bindS h
 try dsimp only at h
 simp (maxDischargeDepth := 9) only [↓xpre, xpost, xlst, xc2, xcore, yset, rg0, ↓reduceIte, Nat.reduceEqDiff, Nat.reduceLT, Nat.reduceLeDiff, Nat.reduceAdd, Nat.reduceMul, Nat.reduceMod, Nat.reduceSub, Nat.reduceBEq, Int.reduceLE, Int.reduceLT, Int.reduceEq, Int.reduceSub, Int.reduceAdd, Int.reduceToNat, Int.reduceNeg]
 refine wd_mono (i_increasing_l0_wp list low high hl2 ?_) ?_
 ·simp (maxDischargeDepth := 9) only [↓xpre, xpost, xlst, xc2, xcore, yset, rg0, ↓reduceIte, Nat.reduceEqDiff, Nat.reduceLT, Nat.reduceLeDiff, Nat.reduceAdd, Nat.reduceMul, Nat.reduceMod, Nat.reduceSub, Nat.reduceBEq, Int.reduceLE, Int.reduceLT, Int.reduceEq, Int.reduceSub, Int.reduceAdd, Int.reduceToNat, Int.reduceNeg, i_increasing_l0_M] <;> (repeat' apply And.intro) <;> first | rfl | exact ⟨_, rfl⟩ | simp [lst, cat2_nil]
 ·intro ex2 s2 hX2
  rcases r2_ with q2_ | q2_
  ·unfold i_increasing_l0_X at hX2
   dsimp only at hX2 h
   obtain ⟨rfl, n2_0⟩ := hX2
   obtain rfl := Option.some.inj h
   simp (maxDischargeDepth := 9) only [↓xpre, xpost, xlst, xc2, xcore, yset, rg0, ↓reduceIte, Nat.reduceEqDiff, Nat.reduceLT, Nat.reduceLeDiff, Nat.reduceAdd, Nat.reduceMul, Nat.reduceMod, Nat.reduceSub, Nat.reduceBEq, Int.reduceLE, Int.reduceLT, Int.reduceEq, Int.reduceSub, Int.reduceAdd, Int.reduceToNat, Int.reduceNeg, n2_0] <;> (repeat' apply And.intro) <;> first | rfl | exact ⟨_, rfl⟩ | simp [lst, cat2_nil]
  ·unfold i_increasing_l0_X at hX2
   dsimp only at hX2 h
   obtain rfl := hX2
   obtain rfl := Option.some.inj h
   simp (maxDischargeDepth := 9) only [↓xpre, xpost, xlst, xc2, xcore, yset, rg0, ↓reduceIte, Nat.reduceEqDiff, Nat.reduceLT, Nat.reduceLeDiff, Nat.reduceAdd, Nat.reduceMul, Nat.reduceMod, Nat.reduceSub, Nat.reduceBEq, Int.reduceLE, Int.reduceLT, Int.reduceEq, Int.reduceSub, Int.reduceAdd, Int.reduceToNat, Int.reduceNeg] <;> (repeat' apply And.intro) <;> first | rfl | exact ⟨_, rfl⟩ | simp [lst, cat2_nil]

noncomputable def s_l1Rising_l0_S (l : List Int) (lo : Int) (hi : Int) (t11_ : Int) : Option ((Int) ⊕ (Unit ⊕ Unit)) :=
 if t11_ < (l.length : Int) then
  ck (0 ≤ t11_ ∧ t11_.toNat < l.length) <|
  if (inR (l.getD t11_.toNat default) lo hi) = true then
   if 0 < t11_ then
    ck (0 ≤ IntKind.i64.wrap (t11_ - 1) ∧ (IntKind.i64.wrap (t11_ - 1)).toNat < l.length) <|
    if (l.getD t11_.toNat default) ≤ (l.getD ((IntKind.i64.wrap (t11_ - 1)).toNat) default) then
     some (Sum.inr (Sum.inl ()))
    else
     some (Sum.inl (IntKind.i64.wrap (t11_ + 1)))
   else
    some (Sum.inl (IntKind.i64.wrap (t11_ + 1)))
  else
   some (Sum.inr (Sum.inl ()))
 else
  some (Sum.inr (Sum.inr ()))
noncomputable def s_l1Rising_l0 (l : List Int) (lo : Int) (hi : Int) (v : Int) : Option (Unit ⊕ Unit) := itO (fun v => s_l1Rising_l0_S l lo hi v) v
noncomputable def s_l1Rising (l : List Int) (lo : Int) (hi : Int) : Option (Bool) :=
 (s_l1Rising_l0 l lo hi 0).bind fun r2_ =>
 match r2_ with
 | .inl q2_ =>
  some false
 | .inr q2_ =>
  some true
/-- spec.l1Rising -/
def k47_l0b : SC :=
 .seq
 (.ops [
 ⟨(some 12), (.binOp .lss 3 (.tmp 11) (.tmp 10) 3), 0, none⟩])
 (.seq
 (.cond (.tmp 12)
 .skip
 (.exit 0))
 (.seq
 (.block 1
 (.seq
 (.ops [
 ⟨(some 13), (.move (.tmp 11)), 3, none⟩,
 ⟨(some 14), (.indexAddr 33 (.tmp 9) (.tmp 11)), 0, none⟩,
 ⟨(some 15), (.load 3 (.tmp 14)), 3, none⟩,
 ⟨(some 7), (.assign (.tmp 13)), 3, none⟩,
 ⟨(some 8), (.assign (.tmp 15)), 3, none⟩])
 (.seq
 (.ops [
 ⟨(some 16), (.move (.tmp 8)), 3, none⟩,
 ⟨(some 17), (.move (.tmp 1)), 3, none⟩,
 ⟨(some 18), (.move (.tmp 2)), 3, none⟩,
 ⟨(some 19), (.call ⟨(.value (.func 66)), #[(.tmp 16), (.tmp 17), (.tmp 18)], #[3, 3, 3]⟩), 4, none⟩,
 ⟨(some 20), (.unOp .not 4 (.tmp 19)), 4, none⟩,
 ⟨(some 21), (.move (.tmp 20)), 4, none⟩,
 ⟨(some 22), (.move (.tmp 7)), 3, (some (some 21, false))⟩,
 ⟨(some 23), (.binOp .gtr 3 (.tmp 22) (.const (.int .i64 0)) 3), 4, (some (some 21, false))⟩,
 ⟨(some 24), (.move (.tmp 23)), 4, (some (some 21, false))⟩,
 ⟨(some 25), (.move (.tmp 0)), 33, (some (some 24, true))⟩,
 ⟨(some 26), (.move (.tmp 7)), 3, (some (some 24, true))⟩,
 ⟨(some 27), (.binOp .sub 3 (.tmp 26) (.const (.int .i64 1)) 3), 3, (some (some 24, true))⟩,
 ⟨(some 28), (.indexAddr 33 (.tmp 25) (.tmp 27)), 0, (some (some 24, true))⟩,
 ⟨(some 29), (.load 3 (.tmp 28)), 3, (some (some 24, true))⟩,
 ⟨(some 30), (.move (.tmp 8)), 3, (some (some 24, true))⟩,
 ⟨(some 31), (.binOp .geq 3 (.tmp 29) (.tmp 30) 3), 4, (some (some 24, true))⟩,
 ⟨(some 32), (.pick (.tmp 24) (.tmp 31) (.const (.bool false))), 4, (some (some 21, false))⟩,
 ⟨(some 33), (.pick (.tmp 21) (.const (.bool true)) (.tmp 32)), 4, none⟩])
 (.cond (.tmp 33)
 (.seq
 (.ops [
 ⟨(some 6), (.assign (.const (.bool false))), 4, none⟩])
 .ret)
 .skip))))
 (.ops [
 ⟨(some 34), (.binOp .add 3 (.tmp 11) (.const (.int .i64 1)) 3), 3, none⟩,
 ⟨(some 11), (.move (.tmp 34)), 3, none⟩])))
def k47_l0 : SC := .loop k47_l0b
def k47 : SC :=
 .seq
 (.ops [
 ⟨(some 6), (.assign (.const (.bool false))), 4, none⟩])
 (.seq
 (.seq
 (.ops [
 ⟨(some 9), (.move (.tmp 0)), 33, none⟩,
 ⟨(some 10), (.call ⟨(.builtin .len), #[(.tmp 9)], #[33]⟩), 3, none⟩,
 ⟨(some 11), (.move (.const (.int .i64 0))), 3, none⟩])
 (.block 0
 k47_l0))
 (.seq
 (.ops [
 ⟨(some 6), (.assign (.const (.bool true))), 4, none⟩])
 .ret))
theorem slim47 : Try.f47.body.map (slim lends) = some k47 := by kernel_rfl
theorem ok47 : fnOk Try.f47 3 = true := by kernel_rfl
theorem c47 {a l : List D} {r : D × List D} (h : wpD Y.env k47 (fin tys l.length [ResultVar.tmp 6] r) (entry a l)) (ha : a.length = 3) : Y.call 47 a l = some r :=
 call_slim (Y := Y) rfl Try.func47 (ha ▸ ok47) slim47 h
def s_l1Rising_l0_M (l : List Int) (lo : Int) (hi : Int) (t11_ : Int) (s : St) : Prop := s.v 0 = D.sl 3 (lst (D.int .i64) l) ∧ s.v 1 = D.int .i64 lo ∧ s.v 2 = D.int .i64 hi ∧ s.v 9 = D.sl 3 (lst (D.int .i64) l) ∧ s.v 10 = D.int .i64 (l.length : Int) ∧ s.v 11 = D.int .i64 t11_
def s_l1Rising_l0_X (l : List Int) (lo : Int) (hi : Int) (r : Unit ⊕ Unit) (ex : Ex) (s : St) : Prop := match r with
 | .inl q => ex = .ret ∧ s.v 6 = D.bool false
 | .inr q => ex = .exit 0
theorem s_l1Rising_l0_wp (l : List Int) (lo : Int) (hi : Int) {v : Int} {s : St} {r : Unit ⊕ Unit} (h : s_l1Rising_l0 l lo hi v = some r) (hM : s_l1Rising_l0_M l lo hi v s) : wpD Y.env k47_l0 (s_l1Rising_l0_X l lo hi r) s := by
 unfold s_l1Rising_l0 at h
 refine wd_itO (c := k47_l0b) (fun v => s_l1Rising_l0_S l lo hi v) (fun v s => s_l1Rising_l0_M l lo hi v s) (s_l1Rising_l0_X l lo hi) ?_ h hM
 clear h hM s v r
 intro t11_ s o hM h
 unfold s_l1Rising_l0_S at h
 unfold s_l1Rising_l0_M at hM
 obtain ⟨m0, m1, m2, m3, m4, m5⟩ := hM
 unfold k47_l0b
 by_cases e1 : t11_ < (l.length : Int)
 ·rw [if_pos e1] at h
  obtain ⟨e2, h⟩ := ckS h
  have c3 := s_l1In_cl (l.getD t11_.toNat default) lo hi
  by_cases e4 : (inR (l.getD t11_.toNat default) lo hi) = true
  ·rw [if_pos e4] at h
   by_cases e5 : 0 < t11_
   ·rw [if_pos e5] at h
    obtain ⟨e6, h⟩ := ckS h
    by_cases e7 : (l.getD t11_.toNat default) ≤ (l.getD ((IntKind.i64.wrap (t11_ - 1)).toNat) default)
    ·rw [if_pos e7] at h
     obtain rfl := Option.some.inj h
     simp (maxDischargeDepth := 9) only [↓xpre, xpost, xlst, xc2, xcore, yset, rg0, ↓reduceIte, Nat.reduceEqDiff, Nat.reduceLT, Nat.reduceLeDiff, Nat.reduceAdd, Nat.reduceMul, Nat.reduceMod, Nat.reduceSub, Nat.reduceBEq, Int.reduceLE, Int.reduceLT, Int.reduceEq, Int.reduceSub, Int.reduceAdd, Int.reduceToNat, Int.reduceNeg, m0, m1, m2, m3, m4, m5, e1, e2.1, e2.2, c3, e4, e5, e6.1, e6.2, e7, s_l1Rising_l0_M, s_l1Rising_l0_X, sxN, sxE, sxR] <;> (repeat' apply And.intro) <;> first | rfl | exact ⟨_, rfl⟩ | simp [lst, cat2_nil]
    ·rw [if_neg e7] at h
     obtain rfl := Option.some.inj h
     simp (maxDischargeDepth := 9) only [↓xpre, xpost, xlst, xc2, xcore, yset, rg0, ↓reduceIte, Nat.reduceEqDiff, Nat.reduceLT, Nat.reduceLeDiff, Nat.reduceAdd, Nat.reduceMul, Nat.reduceMod, Nat.reduceSub, Nat.reduceBEq, Int.reduceLE, Int.reduceLT, Int.reduceEq, Int.reduceSub, Int.reduceAdd, Int.reduceToNat, Int.reduceNeg, m0, m1, m2, m3, m4, m5, e1, e2.1, e2.2, c3, e4, e5, e6.1, e6.2, e7, s_l1Rising_l0_M, s_l1Rising_l0_X, sxN, sxE, sxR] <;> (repeat' apply And.intro) <;> first | rfl | exact ⟨_, rfl⟩ | simp [lst, cat2_nil]
   ·rw [if_neg e5] at h
    obtain rfl := Option.some.inj h
    simp (maxDischargeDepth := 9) only [↓xpre, xpost, xlst, xc2, xcore, yset, rg0, ↓reduceIte, Nat.reduceEqDiff, Nat.reduceLT, Nat.reduceLeDiff, Nat.reduceAdd, Nat.reduceMul, Nat.reduceMod, Nat.reduceSub, Nat.reduceBEq, Int.reduceLE, Int.reduceLT, Int.reduceEq, Int.reduceSub, Int.reduceAdd, Int.reduceToNat, Int.reduceNeg, m0, m1, m2, m3, m4, m5, e1, e2.1, e2.2, c3, e4, e5, s_l1Rising_l0_M, s_l1Rising_l0_X, sxN, sxE, sxR] <;> (repeat' apply And.intro) <;> first | rfl | exact ⟨_, rfl⟩ | simp [lst, cat2_nil]
  ·rw [if_neg e4] at h
   have e4f : (inR (l.getD t11_.toNat default) lo hi) = false := Bool.eq_false_iff.mpr e4
   obtain rfl := Option.some.inj h
   simp (maxDischargeDepth := 9) only [↓xpre, xpost, xlst, xc2, xcore, yset, rg0, ↓reduceIte, Nat.reduceEqDiff, Nat.reduceLT, Nat.reduceLeDiff, Nat.reduceAdd, Nat.reduceMul, Nat.reduceMod, Nat.reduceSub, Nat.reduceBEq, Int.reduceLE, Int.reduceLT, Int.reduceEq, Int.reduceSub, Int.reduceAdd, Int.reduceToNat, Int.reduceNeg, m0, m1, m2, m3, m4, m5, e1, e2.1, e2.2, c3, e4f, s_l1Rising_l0_M, s_l1Rising_l0_X, sxN, sxE, sxR] <;> (repeat' apply And.intro) <;> first | rfl | exact ⟨_, rfl⟩ | simp [lst, cat2_nil]
 ·rw [if_neg e1] at h
  obtain rfl := Option.some.inj h
  simp (maxDischargeDepth := 9) only [↓xpre, xpost, xlst, xc2, xcore, yset, rg0, ↓reduceIte, Nat.reduceEqDiff, Nat.reduceLT, Nat.reduceLeDiff, Nat.reduceAdd, Nat.reduceMul, Nat.reduceMod, Nat.reduceSub, Nat.reduceBEq, Int.reduceLE, Int.reduceLT, Int.reduceEq, Int.reduceSub, Int.reduceAdd, Int.reduceToNat, Int.reduceNeg, m0, m1, m2, m3, m4, m5, e1, s_l1Rising_l0_M, s_l1Rising_l0_X, sxN, sxE, sxR] <;> (repeat' apply And.intro) <;> first | rfl | exact ⟨_, rfl⟩ | simp [lst, cat2_nil]
theorem s_l1Rising_call (l : List Int) (lo : Int) (hi : Int) {r : Bool} (h : s_l1Rising l lo hi = some r) : Y.call 47 [D.sl 3 (lst (D.int .i64) l), D.int .i64 lo, D.int .i64 hi] [] = some (D.bool r, []) := by
 refine c47 ?_ rfl
 unfold k47
 unfold s_l1Rising at h
 obtain ⟨r2_, hl2, h⟩ := bindS h
 try dsimp only at h
 simp (maxDischargeDepth := 9) only [↓xpre, xpost, xlst, xc2, xcore, yset, rg0, ↓reduceIte, Nat.reduceEqDiff, Nat.reduceLT, Nat.reduceLeDiff, Nat.reduceAdd, Nat.reduceMul, Nat.reduceMod, Nat.reduceSub, Nat.reduceBEq, Int.reduceLE, Int.reduceLT, Int.reduceEq, Int.reduceSub, Int.reduceAdd, Int.reduceToNat, Int.reduceNeg]
 refine wd_mono (s_l1Rising_l0_wp l lo hi hl2 ?_) ?_
 ·simp (maxDischargeDepth := 9) only [↓xpre, xpost, xlst, xc2, xcore, yset, rg0, ↓reduceIte, Nat.reduceEqDiff, Nat.reduceLT, Nat.reduceLeDiff, Nat.reduceAdd, Nat.reduceMul, Nat.reduceMod, Nat.reduceSub, Nat.reduceBEq, Int.reduceLE, Int.reduceLT, Int.reduceEq, Int.reduceSub, Int.reduceAdd, Int.reduceToNat, Int.reduceNeg, s_l1Rising_l0_M] <;> (repeat' apply And.intro) <;> first | rfl | exact ⟨_, rfl⟩ | simp [lst, cat2_nil]
 ·intro ex2 s2 hX2
  rcases r2_ with q2_ | q2_
  ·unfold s_l1Rising_l0_X at hX2
   dsimp only at hX2 h
   obtain ⟨rfl, n2_0⟩ := hX2
   obtain rfl := Option.some.inj h
   simp (maxDischargeDepth := 9) only [↓xpre, xpost, xlst, xc2, xcore, yset, rg0, ↓reduceIte, Nat.reduceEqDiff, Nat.reduceLT, Nat.reduceLeDiff, Nat.reduceAdd, Nat.reduceMul, Nat.reduceMod, Nat.reduceSub, Nat.reduceBEq, Int.reduceLE, Int.reduceLT, Int.reduceEq, Int.reduceSub, Int.reduceAdd, Int.reduceToNat, Int.reduceNeg, n2_0] <;> (repeat' apply And.intro) <;> first | rfl | exact ⟨_, rfl⟩ | simp [lst, cat2_nil]
  ·unfold s_l1Rising_l0_X at hX2
   dsimp only at hX2 h
   obtain rfl := hX2
   obtain rfl := Option.some.inj h
   simp (maxDischargeDepth := 9) only [↓xpre, xpost, xlst, xc2, xcore, yset, rg0, ↓reduceIte, Nat.reduceEqDiff, Nat.reduceLT, Nat.reduceLeDiff, Nat.reduceAdd, Nat.reduceMul, Nat.reduceMod, Nat.reduceSub, Nat.reduceBEq, Int.reduceLE, Int.reduceLT, Int.reduceEq, Int.reduceSub, Int.reduceAdd, Int.reduceToNat, Int.reduceNeg] <;> (repeat' apply And.intro) <;> first | rfl | exact ⟨_, rfl⟩ | simp [lst, cat2_nil]

noncomputable def i_keepLabels_l0_S (p_Labels : Int) (p_Degree : Int) (p_Nodes : List (List Int)) (p_Edges : List (List Int)) (keep : List Int) (to : List Int) (t14_ : Int) : Option (((List Int) × Int) ⊕ ((List Int))) :=
 if t14_ < (keep.length : Int) then
  ck (0 ≤ t14_ ∧ t14_.toNat < keep.length) <|
  ck (0 ≤ (keep.getD t14_.toNat default) ∧ (keep.getD t14_.toNat default).toNat < to.length) <|
  some (Sum.inl ((to.set ((keep.getD t14_.toNat default).toNat) t14_), IntKind.i64.wrap (t14_ + 1)))
 else
  some (Sum.inr to)
noncomputable def i_keepLabels_l0 (p_Labels : Int) (p_Degree : Int) (p_Nodes : List (List Int)) (p_Edges : List (List Int)) (keep : List Int) (v : (List Int) × Int) : Option ((List Int)) := itO (fun v => i_keepLabels_l0_S p_Labels p_Degree p_Nodes p_Edges keep v.1 v.2) v
noncomputable def i_keepLabels (p_Labels : Int) (p_Degree : Int) (p_Nodes : List (List Int)) (p_Edges : List (List Int)) (keep : List Int) : Option (Int × Int × (List (List Int)) × (List (List Int))) :=
 (g_slices_Repeat_Sint_int [(-1)] p_Labels).bind fun r1_ =>
 (i_keepLabels_l0 p_Labels p_Degree p_Nodes p_Edges keep (r1_, 0)).bind fun r3_ =>
 (i_renamed p_Nodes r3_).bind fun r4_ =>
 (i_renamed p_Edges r3_).bind fun r5_ =>
 some ((keep.length : Int), p_Degree, r4_, r5_)
/-- impl.keepLabels -/
def k50_l0b : SC :=
 .seq
 (.ops [
 ⟨(some 15), (.binOp .lss 3 (.tmp 14) (.tmp 13) 3), 0, none⟩])
 (.seq
 (.cond (.tmp 15)
 .skip
 (.exit 0))
 (.seq
 (.block 1
 (.seq
 (.ops [
 ⟨(some 16), (.move (.tmp 14)), 3, none⟩,
 ⟨(some 17), (.indexAddr 33 (.tmp 12) (.tmp 14)), 0, none⟩,
 ⟨(some 18), (.load 3 (.tmp 17)), 3, none⟩,
 ⟨(some 6), (.assign (.tmp 16)), 3, none⟩,
 ⟨(some 7), (.assign (.tmp 18)), 3, none⟩])
 (.ops [
 ⟨(some 19), (.move (.tmp 5)), 33, none⟩,
 ⟨(some 20), (.move (.tmp 7)), 3, none⟩,
 ⟨(some 21), (.move (.tmp 6)), 3, none⟩,
 ⟨(some 22), (.indexAddr 33 (.tmp 19) (.tmp 20)), 0, none⟩,
 ⟨none, (.store 3 (.tmp 22) (.tmp 21)), 0, none⟩])))
 (.ops [
 ⟨(some 23), (.binOp .add 3 (.tmp 14) (.const (.int .i64 1)) 3), 3, none⟩,
 ⟨(some 14), (.move (.tmp 23)), 3, none⟩])))
def k50_l0 : SC := .loop k50_l0b
def k50 : SC :=
 .seq
 (.ops [
 ⟨(some 2), (.box 26 (.tmp 0)), 0, none⟩,
 ⟨(some 4), (.alloc 26), 0, none⟩])
 (.seq
 (.ops [
 ⟨(some 8), (.buildSlice 33 1 #[(0, (.const (.int .i64 (-1))))]), 33, none⟩,
 ⟨(some 9), (.fieldAddr 26 (.tmp 2) 0), 0, none⟩,
 ⟨(some 10), (.load 3 (.tmp 9)), 3, none⟩,
 ⟨(some 11), (.call ⟨(.value (.func 75)), #[(.tmp 8), (.tmp 10)], #[33, 3]⟩), 33, none⟩,
 ⟨(some 5), (.assign (.tmp 11)), 33, none⟩])
 (.seq
 (.seq
 (.ops [
 ⟨(some 12), (.move (.tmp 1)), 33, none⟩,
 ⟨(some 13), (.call ⟨(.builtin .len), #[(.tmp 12)], #[33]⟩), 3, none⟩,
 ⟨(some 14), (.move (.const (.int .i64 0))), 3, none⟩])
 (.block 0
 k50_l0))
 (.seq
 (.draws [
 (⟨[24, 1, 1], [24, 25, 26, 27, 28, 29, 30, 31, 32, 33, 34, 35, 36, 25, 27, 31, 35, 25, 2, 31, 35, 4, 36, 4, 36], [24]⟩, ⟨(some 24), (.move (.tmp 1)), 33, none⟩),
 (⟨[25, 24, 1], [24, 25, 26, 27, 28, 29, 30, 31, 32, 33, 34, 35, 36, 25, 27, 31, 35, 25, 2, 31, 35, 4, 36, 4, 36], [25]⟩, ⟨(some 25), (.call ⟨(.builtin .len), #[(.tmp 24)], #[33]⟩), 3, none⟩),
 (⟨[26, 2, 2], [24, 25, 26, 27, 28, 29, 30, 31, 32, 33, 34, 35, 36, 25, 27, 31, 35, 25, 2, 31, 35, 4, 36, 4, 36], [26]⟩, ⟨(some 26), (.fieldAddr 26 (.tmp 2) 1), 0, none⟩),
 (⟨[27, 26, 2], [24, 25, 26, 27, 28, 29, 30, 31, 32, 33, 34, 35, 36, 25, 27, 31, 35, 25, 2, 31, 35, 4, 36, 4, 36], [27]⟩, ⟨(some 27), (.load 3 (.tmp 26)), 3, none⟩),
 (⟨[28, 2, 2], [24, 25, 26, 27, 28, 29, 30, 31, 32, 33, 34, 35, 36, 25, 27, 31, 35, 25, 2, 31, 35, 4, 36, 4, 36], [28]⟩, ⟨(some 28), (.fieldAddr 26 (.tmp 2) 2), 0, none⟩),
 (⟨[29, 28, 2], [24, 25, 26, 27, 28, 29, 30, 31, 32, 33, 34, 35, 36, 25, 27, 31, 35, 25, 2, 31, 35, 4, 36, 4, 36], [29]⟩, ⟨(some 29), (.load 22 (.tmp 28)), 22, none⟩),
 (⟨[30, 5, 5], [24, 25, 26, 27, 28, 29, 30, 31, 32, 33, 34, 35, 36, 25, 27, 31, 35, 25, 2, 31, 35, 4, 36, 4, 36], [30]⟩, ⟨(some 30), (.move (.tmp 5)), 33, none⟩),
 (⟨[31, 29, 30, 2, 5], [24, 25, 26, 27, 28, 29, 30, 31, 32, 33, 34, 35, 36, 25, 27, 31, 35, 25, 2, 31, 35, 4, 36, 4, 36], [31]⟩, ⟨(some 31), (.call ⟨(.value (.func 46)), #[(.tmp 29), (.tmp 30)], #[22, 33]⟩), 22, none⟩),
 (⟨[32, 2, 2], [24, 25, 26, 27, 28, 29, 30, 31, 32, 33, 34, 35, 36, 25, 27, 31, 35, 25, 2, 31, 35, 4, 36, 4, 36], [32]⟩, ⟨(some 32), (.fieldAddr 26 (.tmp 2) 3), 0, none⟩),
 (⟨[33, 32, 2], [24, 25, 26, 27, 28, 29, 30, 31, 32, 33, 34, 35, 36, 25, 27, 31, 35, 25, 2, 31, 35, 4, 36, 4, 36], [33]⟩, ⟨(some 33), (.load 22 (.tmp 32)), 22, none⟩),
 (⟨[34, 5, 5], [24, 25, 26, 27, 28, 29, 30, 31, 32, 33, 34, 35, 36, 25, 27, 31, 35, 25, 2, 31, 35, 4, 36, 4, 36], [34]⟩, ⟨(some 34), (.move (.tmp 5)), 33, none⟩),
 (⟨[35, 33, 34, 2, 5], [24, 25, 26, 27, 28, 29, 30, 31, 32, 33, 34, 35, 36, 25, 27, 31, 35, 25, 2, 31, 35, 4, 36, 4, 36], [35]⟩, ⟨(some 35), (.call ⟨(.value (.func 46)), #[(.tmp 33), (.tmp 34)], #[22, 33]⟩), 22, none⟩),
 (⟨[36, 25, 27, 31, 35, 25, 2, 31, 35], [24, 25, 26, 27, 28, 29, 30, 31, 32, 33, 34, 35, 36, 25, 27, 31, 35, 25, 2, 31, 35, 4, 36, 4, 36], [36, 25, 27, 31, 35, 25, 2, 31, 35]⟩, ⟨(some 36), (.build 26 #[(0, (.tmp 25)), (1, (.tmp 27)), (2, (.tmp 31)), (3, (.tmp 35))]), 26, none⟩),
 (⟨[4, 36, 4, 36], [24, 25, 26, 27, 28, 29, 30, 31, 32, 33, 34, 35, 36, 25, 27, 31, 35, 25, 2, 31, 35, 4, 36, 4, 36], [4, 36, 4, 36]⟩, ⟨none, (.store 26 (.tmp 4) (.tmp 36)), 0, none⟩)])
 .ret)))
theorem slim50 : Try.f50.body.map (slim lends) = some k50 := by kernel_rfl
theorem ok50 : fnOk Try.f50 2 = true := by kernel_rfl
theorem c50 {a l : List D} {r : D × List D} (h : wpD Y.env k50 (fin tys l.length [ResultVar.cell 4 26] r) (entry a l)) (ha : a.length = 2) : Y.call 50 a l = some r :=
 call_slim (Y := Y) rfl Try.func50 (ha ▸ ok50) slim50 h
def i_keepLabels_l0_M (p_Labels : Int) (p_Degree : Int) (p_Nodes : List (List Int)) (p_Edges : List (List Int)) (keep : List Int) (to : List Int) (t14_ : Int) (s : St) : Prop := s.v 1 = D.sl 3 (lst (D.int .i64) keep) ∧ s.v 2 = D.box [D.int .i64 p_Labels, D.int .i64 p_Degree, D.sl 33 (lst (fun x => D.sl 3 (lst (D.int .i64) x)) p_Nodes), D.sl 33 (lst (fun x => D.sl 3 (lst (D.int .i64) x)) p_Edges)] ∧ s.v 4 = D.box [D.int .i64 0, D.int .i64 0, D.own 33 [], D.own 33 []] ∧ s.v 5 = D.own 3 (lst (D.int .i64) to) ∧ s.v 12 = D.sl 3 (lst (D.int .i64) keep) ∧ s.v 13 = D.int .i64 (keep.length : Int) ∧ s.v 14 = D.int .i64 t14_
def i_keepLabels_l0_X (p_Labels : Int) (p_Degree : Int) (p_Nodes : List (List Int)) (p_Edges : List (List Int)) (keep : List Int) (r : (List Int)) (ex : Ex) (s : St) : Prop := ex = .exit 0 ∧ s.v 1 = D.sl 3 (lst (D.int .i64) keep) ∧ s.v 2 = D.box [D.int .i64 p_Labels, D.int .i64 p_Degree, D.sl 33 (lst (fun x => D.sl 3 (lst (D.int .i64) x)) p_Nodes), D.sl 33 (lst (fun x => D.sl 3 (lst (D.int .i64) x)) p_Edges)] ∧ s.v 4 = D.box [D.int .i64 0, D.int .i64 0, D.own 33 [], D.own 33 []] ∧ s.v 5 = D.own 3 (lst (D.int .i64) r)
theorem i_keepLabels_l0_wp (p_Labels : Int) (p_Degree : Int) (p_Nodes : List (List Int)) (p_Edges : List (List Int)) (keep : List Int) {v : (List Int) × Int} {s : St} {r : (List Int)} (h : i_keepLabels_l0 p_Labels p_Degree p_Nodes p_Edges keep v = some r) (hM : i_keepLabels_l0_M p_Labels p_Degree p_Nodes p_Edges keep v.1 v.2 s) : wpD Y.env k50_l0 (i_keepLabels_l0_X p_Labels p_Degree p_Nodes p_Edges keep r) s := by
 unfold i_keepLabels_l0 at h
 refine wd_itO (c := k50_l0b) (fun v => i_keepLabels_l0_S p_Labels p_Degree p_Nodes p_Edges keep v.1 v.2) (fun v s => i_keepLabels_l0_M p_Labels p_Degree p_Nodes p_Edges keep v.1 v.2 s) (i_keepLabels_l0_X p_Labels p_Degree p_Nodes p_Edges keep) ?_ h hM
 clear h hM s v r
 intro v s o hM h
 obtain ⟨to, t14_⟩ := v
 dsimp only at h hM
 unfold i_keepLabels_l0_S at h
 unfold i_keepLabels_l0_M at hM
 obtain ⟨m0, m1, m2, m3, m4, m5, m6⟩ := hM
 unfold k50_l0b
 by_cases e2 : t14_ < (keep.length : Int)
 ·rw [if_pos e2] at h
  obtain ⟨e3, h⟩ := ckS h
  obtain ⟨e4, h⟩ := ckS h
  obtain rfl := Option.some.inj h
  simp (maxDischargeDepth := 9) only [↓xpre, xpost, xlst, xc2, xcore, yset, rg0, ↓reduceIte, Nat.reduceEqDiff, Nat.reduceLT, Nat.reduceLeDiff, Nat.reduceAdd, Nat.reduceMul, Nat.reduceMod, Nat.reduceSub, Nat.reduceBEq, Int.reduceLE, Int.reduceLT, Int.reduceEq, Int.reduceSub, Int.reduceAdd, Int.reduceToNat, Int.reduceNeg, m0, m1, m2, m3, m4, m5, m6, e2, e3.1, e3.2, e4.1, e4.2, i_keepLabels_l0_M, i_keepLabels_l0_X, sxN, sxE, sxR] <;> (repeat' apply And.intro) <;> first | rfl | exact ⟨_, rfl⟩ | simp [lst, cat2_nil]
 ·rw [if_neg e2] at h
  obtain rfl := Option.some.inj h
  simp (maxDischargeDepth := 9) only [↓xpre, xpost, xlst, xc2, xcore, yset, rg0, ↓reduceIte, Nat.reduceEqDiff, Nat.reduceLT, Nat.reduceLeDiff, Nat.reduceAdd, Nat.reduceMul, Nat.reduceMod, Nat.reduceSub, Nat.reduceBEq, Int.reduceLE, Int.reduceLT, Int.reduceEq, Int.reduceSub, Int.reduceAdd, Int.reduceToNat, Int.reduceNeg, m0, m1, m2, m3, m4, m5, m6, e2, i_keepLabels_l0_M, i_keepLabels_l0_X, sxN, sxE, sxR] <;> (repeat' apply And.intro) <;> first | rfl | exact ⟨_, rfl⟩ | simp [lst, cat2_nil]
theorem i_keepLabels_call (p_Labels : Int) (p_Degree : Int) (p_Nodes : List (List Int)) (p_Edges : List (List Int)) (keep : List Int) {r : Int × Int × (List (List Int)) × (List (List Int))} (h : i_keepLabels p_Labels p_Degree p_Nodes p_Edges keep = some r) : Y.call 50 [D.agg [D.int .i64 p_Labels, D.int .i64 p_Degree, D.sl 33 (lst (fun x => D.sl 3 (lst (D.int .i64) x)) p_Nodes), D.sl 33 (lst (fun x => D.sl 3 (lst (D.int .i64) x)) p_Edges)], D.sl 3 (lst (D.int .i64) keep)] [] = some (D.agg [D.int .i64 r.1, D.int .i64 r.2.1, D.own 33 (lst (fun x => D.own 3 (lst (D.int .i64) x)) r.2.2.1), D.own 33 (lst (fun x => D.own 3 (lst (D.int .i64) x)) r.2.2.2)], []) := by
 refine c50 ?_ rfl
 unfold k50
 unfold i_keepLabels at h
 obtain ⟨r1_, hl1, h⟩ := bindS h
 try dsimp only at h
 have c1 := g_slices_Repeat_Sint_int_call [(-1)] p_Labels hl1
 simp only [lst_cons, lst_nil, cat_cons, cat_nil, List.append_nil, List.cons_append, List.nil_append] at c1
 obtain ⟨r3_, hl3, h⟩ := bindS h
 try dsimp only at h
 simp (maxDischargeDepth := 9) only [↓xpre, xpost, xlst, xc2, xcore, yset, rg0, ↓reduceIte, Nat.reduceEqDiff, Nat.reduceLT, Nat.reduceLeDiff, Nat.reduceAdd, Nat.reduceMul, Nat.reduceMod, Nat.reduceSub, Nat.reduceBEq, Int.reduceLE, Int.reduceLT, Int.reduceEq, Int.reduceSub, Int.reduceAdd, Int.reduceToNat, Int.reduceNeg, c1]
 refine wd_mono (i_keepLabels_l0_wp p_Labels p_Degree p_Nodes p_Edges keep hl3 ?_) ?_
 ·simp (maxDischargeDepth := 9) only [↓xpre, xpost, xlst, xc2, xcore, yset, rg0, ↓reduceIte, Nat.reduceEqDiff, Nat.reduceLT, Nat.reduceLeDiff, Nat.reduceAdd, Nat.reduceMul, Nat.reduceMod, Nat.reduceSub, Nat.reduceBEq, Int.reduceLE, Int.reduceLT, Int.reduceEq, Int.reduceSub, Int.reduceAdd, Int.reduceToNat, Int.reduceNeg, c1, i_keepLabels_l0_M] <;> (repeat' apply And.intro) <;> first | rfl | exact ⟨_, rfl⟩ | simp [lst, cat2_nil]
 ·intro ex3 s3 hX3
  unfold i_keepLabels_l0_X at hX3
  obtain ⟨rfl, n3_0, n3_1, n3_2, n3_3⟩ := hX3
  obtain ⟨r4_, hl4, h⟩ := bindS h
  try dsimp only at h
  have c4 := i_renamed_call p_Nodes r3_ hl4
  obtain ⟨r5_, hl5, h⟩ := bindS h
  try dsimp only at h
  have c5 := i_renamed_call p_Edges r3_ hl5
  obtain rfl := Option.some.inj h
  simp (maxDischargeDepth := 9) only [↓xpre, xpost, xlst, xc2, xcore, yset, rg0, ↓reduceIte, Nat.reduceEqDiff, Nat.reduceLT, Nat.reduceLeDiff, Nat.reduceAdd, Nat.reduceMul, Nat.reduceMod, Nat.reduceSub, Nat.reduceBEq, Int.reduceLE, Int.reduceLT, Int.reduceEq, Int.reduceSub, Int.reduceAdd, Int.reduceToNat, Int.reduceNeg, c1, n3_0, n3_1, n3_2, n3_3, c4, c5] <;> (repeat' apply And.intro) <;> first | rfl | exact ⟨_, rfl⟩ | simp [lst, cat2_nil]

noncomputable def s_prKeep_l0_S (p_Labels : Int) (p_Degree : Int) (p_Nodes : List (List Int)) (p_Edges : List (List Int)) (keep : List Int) (to : List Int) (t14_ : Int) : Option (((List Int) × Int) ⊕ ((List Int))) :=
 if t14_ < ((List.replicate p_Labels.toNat 0).length : Int) then
  ck (0 ≤ t14_ ∧ t14_.toNat < to.length) <|
  some (Sum.inl ((to.set t14_.toNat (-1)), IntKind.i64.wrap (t14_ + 1)))
 else
  some (Sum.inr to)
noncomputable def s_prKeep_l0 (p_Labels : Int) (p_Degree : Int) (p_Nodes : List (List Int)) (p_Edges : List (List Int)) (keep : List Int) (v : (List Int) × Int) : Option ((List Int)) := itO (fun v => s_prKeep_l0_S p_Labels p_Degree p_Nodes p_Edges keep v.1 v.2) v
noncomputable def s_prKeep_l1_S (p_Labels : Int) (p_Degree : Int) (p_Nodes : List (List Int)) (p_Edges : List (List Int)) (keep : List Int) (to : List Int) (t23_ : Int) : Option (((List Int) × Int) ⊕ ((List Int))) :=
 if t23_ < (keep.length : Int) then
  ck (0 ≤ t23_ ∧ t23_.toNat < keep.length) <|
  ck (0 ≤ (keep.getD t23_.toNat default) ∧ (keep.getD t23_.toNat default).toNat < to.length) <|
  some (Sum.inl ((to.set ((keep.getD t23_.toNat default).toNat) t23_), IntKind.i64.wrap (t23_ + 1)))
 else
  some (Sum.inr to)
noncomputable def s_prKeep_l1 (p_Labels : Int) (p_Degree : Int) (p_Nodes : List (List Int)) (p_Edges : List (List Int)) (keep : List Int) (v : (List Int) × Int) : Option ((List Int)) := itO (fun v => s_prKeep_l1_S p_Labels p_Degree p_Nodes p_Edges keep v.1 v.2) v
noncomputable def s_prKeep (p_Labels : Int) (p_Degree : Int) (p_Nodes : List (List Int)) (p_Edges : List (List Int)) (keep : List Int) : Option (Int × Int × (List (List Int)) × (List (List Int))) :=
 ck (0 ≤ p_Labels ∧ p_Labels < 1099511627776) <|
 (s_prKeep_l0 p_Labels p_Degree p_Nodes p_Edges keep ((List.replicate p_Labels.toNat 0), 0)).bind fun r3_ =>
 (s_prKeep_l1 p_Labels p_Degree p_Nodes p_Edges keep (r3_, 0)).bind fun r5_ =>
 (s_prMap p_Nodes r5_).bind fun r6_ =>
 (s_prMap p_Edges r5_).bind fun r7_ =>
 some ((keep.length : Int), p_Degree, r6_, r7_)
/-- spec.prKeep -/
def k48_l0b : SC :=
 .seq
 (.ops [
 ⟨(some 15), (.binOp .lss 3 (.tmp 14) (.tmp 13) 3), 0, none⟩])
 (.seq
 (.cond (.tmp 15)
 .skip
 (.exit 0))
 (.seq
 (.block 1
 (.seq
 (.ops [
 ⟨(some 16), (.move (.tmp 14)), 3, none⟩,
 ⟨(some 6), (.assign (.tmp 16)), 3, none⟩])
 (.ops [
 ⟨(some 17), (.move (.tmp 5)), 33, none⟩,
 ⟨(some 18), (.move (.tmp 6)), 3, none⟩,
 ⟨(some 19), (.indexAddr 33 (.tmp 17) (.tmp 18)), 0, none⟩,
 ⟨none, (.store 3 (.tmp 19) (.const (.int .i64 (-1)))), 0, none⟩])))
 (.ops [
 ⟨(some 20), (.binOp .add 3 (.tmp 14) (.const (.int .i64 1)) 3), 3, none⟩,
 ⟨(some 14), (.move (.tmp 20)), 3, none⟩])))
def k48_l0 : SC := .loop k48_l0b
def k48_l1b : SC :=
 .seq
 (.ops [
 ⟨(some 24), (.binOp .lss 3 (.tmp 23) (.tmp 22) 3), 2000005, none⟩])
 (.seq
 (.cond (.tmp 24)
 .skip
 (.exit 2))
 (.seq
 (.block 3
 (.seq
 (.ops [
 ⟨(some 25), (.move (.tmp 23)), 3, none⟩,
 ⟨(some 26), (.indexAddr 33 (.tmp 21) (.tmp 23)), 0, none⟩,
 ⟨(some 27), (.load 3 (.tmp 26)), 3, none⟩,
 ⟨(some 7), (.assign (.tmp 25)), 3, none⟩,
 ⟨(some 8), (.assign (.tmp 27)), 3, none⟩])
 (.ops [
 ⟨(some 28), (.move (.tmp 5)), 33, none⟩,
 ⟨(some 29), (.move (.tmp 8)), 3, none⟩,
 ⟨(some 30), (.move (.tmp 7)), 3, none⟩,
 ⟨(some 31), (.indexAddr 33 (.tmp 28) (.tmp 29)), 0, none⟩,
 ⟨none, (.store 3 (.tmp 31) (.tmp 30)), 0, none⟩])))
 (.ops [
 ⟨(some 32), (.binOp .add 3 (.tmp 23) (.const (.int .i64 1)) 3), 3, none⟩,
 ⟨(some 23), (.move (.tmp 32)), 3, none⟩])))
def k48_l1 : SC := .loop k48_l1b
def k48 : SC :=
 .seq
 (.ops [
 ⟨(some 2), (.box 26 (.tmp 0)), 0, none⟩,
 ⟨(some 4), (.alloc 26), 0, none⟩])
 (.seq
 (.ops [
 ⟨(some 9), (.fieldAddr 26 (.tmp 2) 0), 0, none⟩,
 ⟨(some 10), (.load 3 (.tmp 9)), 3, none⟩,
 ⟨(some 11), (.makeSlice 33 (.tmp 10) (.tmp 10)), 33, none⟩,
 ⟨(some 5), (.assign (.tmp 11)), 33, none⟩])
 (.seq
 (.seq
 (.ops [
 ⟨(some 12), (.move (.tmp 5)), 33, none⟩,
 ⟨(some 13), (.call ⟨(.builtin .len), #[(.tmp 12)], #[33]⟩), 3, none⟩,
 ⟨(some 14), (.move (.const (.int .i64 0))), 3, none⟩])
 (.block 0
 k48_l0))
 (.seq
 (.seq
 (.ops [
 ⟨(some 21), (.move (.tmp 1)), 33, none⟩,
 ⟨(some 22), (.call ⟨(.builtin .len), #[(.tmp 21)], #[33]⟩), 3, none⟩,
 ⟨(some 23), (.move (.const (.int .i64 0))), 3, none⟩])
 (.block 2
 k48_l1))
 (.seq
 (.draws [
 (⟨[33, 1, 1], [33, 34, 35, 36, 37, 38, 39, 40, 41, 42, 43, 44, 45, 34, 36, 40, 44, 34, 2, 40, 44, 4, 45, 4, 45], [33]⟩, ⟨(some 33), (.move (.tmp 1)), 33, none⟩),
 (⟨[34, 33, 1], [33, 34, 35, 36, 37, 38, 39, 40, 41, 42, 43, 44, 45, 34, 36, 40, 44, 34, 2, 40, 44, 4, 45, 4, 45], [34]⟩, ⟨(some 34), (.call ⟨(.builtin .len), #[(.tmp 33)], #[33]⟩), 3, none⟩),
 (⟨[35, 2, 2], [33, 34, 35, 36, 37, 38, 39, 40, 41, 42, 43, 44, 45, 34, 36, 40, 44, 34, 2, 40, 44, 4, 45, 4, 45], [35]⟩, ⟨(some 35), (.fieldAddr 26 (.tmp 2) 1), 0, none⟩),
 (⟨[36, 35, 2], [33, 34, 35, 36, 37, 38, 39, 40, 41, 42, 43, 44, 45, 34, 36, 40, 44, 34, 2, 40, 44, 4, 45, 4, 45], [36]⟩, ⟨(some 36), (.load 3 (.tmp 35)), 3, none⟩),
 (⟨[37, 2, 2], [33, 34, 35, 36, 37, 38, 39, 40, 41, 42, 43, 44, 45, 34, 36, 40, 44, 34, 2, 40, 44, 4, 45, 4, 45], [37]⟩, ⟨(some 37), (.fieldAddr 26 (.tmp 2) 2), 0, none⟩),
 (⟨[38, 37, 2], [33, 34, 35, 36, 37, 38, 39, 40, 41, 42, 43, 44, 45, 34, 36, 40, 44, 34, 2, 40, 44, 4, 45, 4, 45], [38]⟩, ⟨(some 38), (.load 22 (.tmp 37)), 22, none⟩),
 (⟨[39, 5, 5], [33, 34, 35, 36, 37, 38, 39, 40, 41, 42, 43, 44, 45, 34, 36, 40, 44, 34, 2, 40, 44, 4, 45, 4, 45], [39]⟩, ⟨(some 39), (.move (.tmp 5)), 33, none⟩),
 (⟨[40, 38, 39, 2, 5], [33, 34, 35, 36, 37, 38, 39, 40, 41, 42, 43, 44, 45, 34, 36, 40, 44, 34, 2, 40, 44, 4, 45, 4, 45], [40]⟩, ⟨(some 40), (.call ⟨(.value (.func 69)), #[(.tmp 38), (.tmp 39)], #[22, 33]⟩), 22, none⟩),
 (⟨[41, 2, 2], [33, 34, 35, 36, 37, 38, 39, 40, 41, 42, 43, 44, 45, 34, 36, 40, 44, 34, 2, 40, 44, 4, 45, 4, 45], [41]⟩, ⟨(some 41), (.fieldAddr 26 (.tmp 2) 3), 0, none⟩),
 (⟨[42, 41, 2], [33, 34, 35, 36, 37, 38, 39, 40, 41, 42, 43, 44, 45, 34, 36, 40, 44, 34, 2, 40, 44, 4, 45, 4, 45], [42]⟩, ⟨(some 42), (.load 22 (.tmp 41)), 22, none⟩),
 (⟨[43, 5, 5], [33, 34, 35, 36, 37, 38, 39, 40, 41, 42, 43, 44, 45, 34, 36, 40, 44, 34, 2, 40, 44, 4, 45, 4, 45], [43]⟩, ⟨(some 43), (.move (.tmp 5)), 33, none⟩),
 (⟨[44, 42, 43, 2, 5], [33, 34, 35, 36, 37, 38, 39, 40, 41, 42, 43, 44, 45, 34, 36, 40, 44, 34, 2, 40, 44, 4, 45, 4, 45], [44]⟩, ⟨(some 44), (.call ⟨(.value (.func 69)), #[(.tmp 42), (.tmp 43)], #[22, 33]⟩), 22, none⟩),
 (⟨[45, 34, 36, 40, 44, 34, 2, 40, 44], [33, 34, 35, 36, 37, 38, 39, 40, 41, 42, 43, 44, 45, 34, 36, 40, 44, 34, 2, 40, 44, 4, 45, 4, 45], [45, 34, 36, 40, 44, 34, 2, 40, 44]⟩, ⟨(some 45), (.build 26 #[(0, (.tmp 34)), (1, (.tmp 36)), (2, (.tmp 40)), (3, (.tmp 44))]), 26, none⟩),
 (⟨[4, 45, 4, 45], [33, 34, 35, 36, 37, 38, 39, 40, 41, 42, 43, 44, 45, 34, 36, 40, 44, 34, 2, 40, 44, 4, 45, 4, 45], [4, 45, 4, 45]⟩, ⟨none, (.store 26 (.tmp 4) (.tmp 45)), 0, none⟩)])
 .ret))))
theorem slim48 : Try.f48.body.map (slim lends) = some k48 := by kernel_rfl
theorem ok48 : fnOk Try.f48 2 = true := by kernel_rfl
theorem c48 {a l : List D} {r : D × List D} (h : wpD Y.env k48 (fin tys l.length [ResultVar.cell 4 26] r) (entry a l)) (ha : a.length = 2) : Y.call 48 a l = some r :=
 call_slim (Y := Y) rfl Try.func48 (ha ▸ ok48) slim48 h
def s_prKeep_l0_M (p_Labels : Int) (p_Degree : Int) (p_Nodes : List (List Int)) (p_Edges : List (List Int)) (keep : List Int) (to : List Int) (t14_ : Int) (s : St) : Prop := s.v 1 = D.sl 3 (lst (D.int .i64) keep) ∧ s.v 2 = D.box [D.int .i64 p_Labels, D.int .i64 p_Degree, D.sl 33 (lst (fun x => D.sl 3 (lst (D.int .i64) x)) p_Nodes), D.sl 33 (lst (fun x => D.sl 3 (lst (D.int .i64) x)) p_Edges)] ∧ s.v 4 = D.box [D.int .i64 0, D.int .i64 0, D.own 33 [], D.own 33 []] ∧ s.v 5 = D.own 3 (lst (D.int .i64) to) ∧ s.v 13 = D.int .i64 ((List.replicate p_Labels.toNat 0).length : Int) ∧ s.v 14 = D.int .i64 t14_
def s_prKeep_l0_X (p_Labels : Int) (p_Degree : Int) (p_Nodes : List (List Int)) (p_Edges : List (List Int)) (keep : List Int) (r : (List Int)) (ex : Ex) (s : St) : Prop := ex = .exit 0 ∧ s.v 1 = D.sl 3 (lst (D.int .i64) keep) ∧ s.v 2 = D.box [D.int .i64 p_Labels, D.int .i64 p_Degree, D.sl 33 (lst (fun x => D.sl 3 (lst (D.int .i64) x)) p_Nodes), D.sl 33 (lst (fun x => D.sl 3 (lst (D.int .i64) x)) p_Edges)] ∧ s.v 4 = D.box [D.int .i64 0, D.int .i64 0, D.own 33 [], D.own 33 []] ∧ s.v 5 = D.own 3 (lst (D.int .i64) r)
theorem s_prKeep_l0_wp (p_Labels : Int) (p_Degree : Int) (p_Nodes : List (List Int)) (p_Edges : List (List Int)) (keep : List Int) {v : (List Int) × Int} {s : St} {r : (List Int)} (h : s_prKeep_l0 p_Labels p_Degree p_Nodes p_Edges keep v = some r) (hM : s_prKeep_l0_M p_Labels p_Degree p_Nodes p_Edges keep v.1 v.2 s) : wpD Y.env k48_l0 (s_prKeep_l0_X p_Labels p_Degree p_Nodes p_Edges keep r) s := by
 unfold s_prKeep_l0 at h
 refine wd_itO (c := k48_l0b) (fun v => s_prKeep_l0_S p_Labels p_Degree p_Nodes p_Edges keep v.1 v.2) (fun v s => s_prKeep_l0_M p_Labels p_Degree p_Nodes p_Edges keep v.1 v.2 s) (s_prKeep_l0_X p_Labels p_Degree p_Nodes p_Edges keep) ?_ h hM
 clear h hM s v r
 intro v s o hM h
 obtain ⟨to, t14_⟩ := v
 dsimp only at h hM
 unfold s_prKeep_l0_S at h
 unfold s_prKeep_l0_M at hM
 obtain ⟨m0, m1, m2, m3, m4, m5⟩ := hM
 unfold k48_l0b
 by_cases e2 : t14_ < ((List.replicate p_Labels.toNat 0).length : Int)
 ·rw [if_pos e2] at h
  obtain ⟨e3, h⟩ := ckS h
  obtain rfl := Option.some.inj h
  simp (maxDischargeDepth := 9) only [↓xpre, xpost, xlst, xc2, xcore, yset, rg0, ↓reduceIte, Nat.reduceEqDiff, Nat.reduceLT, Nat.reduceLeDiff, Nat.reduceAdd, Nat.reduceMul, Nat.reduceMod, Nat.reduceSub, Nat.reduceBEq, Int.reduceLE, Int.reduceLT, Int.reduceEq, Int.reduceSub, Int.reduceAdd, Int.reduceToNat, Int.reduceNeg, m0, m1, m2, m3, m4, m5, e2, e3.1, e3.2, s_prKeep_l0_M, s_prKeep_l0_X, sxN, sxE, sxR] <;> (repeat' apply And.intro) <;> first | rfl | exact ⟨_, rfl⟩ | simp [lst, cat2_nil]
 ·rw [if_neg e2] at h
  obtain rfl := Option.some.inj h
  simp (maxDischargeDepth := 9) only [↓xpre, xpost, xlst, xc2, xcore, yset, rg0, ↓reduceIte, Nat.reduceEqDiff, Nat.reduceLT, Nat.reduceLeDiff, Nat.reduceAdd, Nat.reduceMul, Nat.reduceMod, Nat.reduceSub, Nat.reduceBEq, Int.reduceLE, Int.reduceLT, Int.reduceEq, Int.reduceSub, Int.reduceAdd, Int.reduceToNat, Int.reduceNeg, m0, m1, m2, m3, m4, m5, e2, s_prKeep_l0_M, s_prKeep_l0_X, sxN, sxE, sxR] <;> (repeat' apply And.intro) <;> first | rfl | exact ⟨_, rfl⟩ | simp [lst, cat2_nil]
def s_prKeep_l1_M (p_Labels : Int) (p_Degree : Int) (p_Nodes : List (List Int)) (p_Edges : List (List Int)) (keep : List Int) (to : List Int) (t23_ : Int) (s : St) : Prop := s.v 1 = D.sl 3 (lst (D.int .i64) keep) ∧ s.v 2 = D.box [D.int .i64 p_Labels, D.int .i64 p_Degree, D.sl 33 (lst (fun x => D.sl 3 (lst (D.int .i64) x)) p_Nodes), D.sl 33 (lst (fun x => D.sl 3 (lst (D.int .i64) x)) p_Edges)] ∧ s.v 4 = D.box [D.int .i64 0, D.int .i64 0, D.own 33 [], D.own 33 []] ∧ s.v 5 = D.own 3 (lst (D.int .i64) to) ∧ s.v 21 = D.sl 3 (lst (D.int .i64) keep) ∧ s.v 22 = D.int .i64 (keep.length : Int) ∧ s.v 23 = D.int .i64 t23_
def s_prKeep_l1_X (p_Labels : Int) (p_Degree : Int) (p_Nodes : List (List Int)) (p_Edges : List (List Int)) (keep : List Int) (r : (List Int)) (ex : Ex) (s : St) : Prop := ex = .exit 2 ∧ s.v 1 = D.sl 3 (lst (D.int .i64) keep) ∧ s.v 2 = D.box [D.int .i64 p_Labels, D.int .i64 p_Degree, D.sl 33 (lst (fun x => D.sl 3 (lst (D.int .i64) x)) p_Nodes), D.sl 33 (lst (fun x => D.sl 3 (lst (D.int .i64) x)) p_Edges)] ∧ s.v 4 = D.box [D.int .i64 0, D.int .i64 0, D.own 33 [], D.own 33 []] ∧ s.v 5 = D.sl 3 (lst (D.int .i64) r)
theorem s_prKeep_l1_wp (p_Labels : Int) (p_Degree : Int) (p_Nodes : List (List Int)) (p_Edges : List (List Int)) (keep : List Int) {v : (List Int) × Int} {s : St} {r : (List Int)} (h : s_prKeep_l1 p_Labels p_Degree p_Nodes p_Edges keep v = some r) (hM : s_prKeep_l1_M p_Labels p_Degree p_Nodes p_Edges keep v.1 v.2 s) : wpD Y.env k48_l1 (s_prKeep_l1_X p_Labels p_Degree p_Nodes p_Edges keep r) s := by
 unfold s_prKeep_l1 at h
 refine wd_itO (c := k48_l1b) (fun v => s_prKeep_l1_S p_Labels p_Degree p_Nodes p_Edges keep v.1 v.2) (fun v s => s_prKeep_l1_M p_Labels p_Degree p_Nodes p_Edges keep v.1 v.2 s) (s_prKeep_l1_X p_Labels p_Degree p_Nodes p_Edges keep) ?_ h hM
 clear h hM s v r
 intro v s o hM h
 obtain ⟨to, t23_⟩ := v
 dsimp only at h hM
 unfold s_prKeep_l1_S at h
 unfold s_prKeep_l1_M at hM
 obtain ⟨m0, m1, m2, m3, m4, m5, m6⟩ := hM
 unfold k48_l1b
 by_cases e4 : t23_ < (keep.length : Int)
 ·rw [if_pos e4] at h
  obtain ⟨e5, h⟩ := ckS h
  obtain ⟨e6, h⟩ := ckS h
  obtain rfl := Option.some.inj h
  simp (maxDischargeDepth := 9) only [↓xpre, xpost, xlst, xc2, xcore, yset, rg0, ↓reduceIte, Nat.reduceEqDiff, Nat.reduceLT, Nat.reduceLeDiff, Nat.reduceAdd, Nat.reduceMul, Nat.reduceMod, Nat.reduceSub, Nat.reduceBEq, Int.reduceLE, Int.reduceLT, Int.reduceEq, Int.reduceSub, Int.reduceAdd, Int.reduceToNat, Int.reduceNeg, m0, m1, m2, m3, m4, m5, m6, e4, e5.1, e5.2, e6.1, e6.2, s_prKeep_l1_M, s_prKeep_l1_X, sxN, sxE, sxR] <;> (repeat' apply And.intro) <;> first | rfl | exact ⟨_, rfl⟩ | simp [lst, cat2_nil]
 ·rw [if_neg e4] at h
  obtain rfl := Option.some.inj h
  simp (maxDischargeDepth := 9) only [↓xpre, xpost, xlst, xc2, xcore, yset, rg0, ↓reduceIte, Nat.reduceEqDiff, Nat.reduceLT, Nat.reduceLeDiff, Nat.reduceAdd, Nat.reduceMul, Nat.reduceMod, Nat.reduceSub, Nat.reduceBEq, Int.reduceLE, Int.reduceLT, Int.reduceEq, Int.reduceSub, Int.reduceAdd, Int.reduceToNat, Int.reduceNeg, m0, m1, m2, m3, m4, m5, m6, e4, s_prKeep_l1_M, s_prKeep_l1_X, sxN, sxE, sxR] <;> (repeat' apply And.intro) <;> first | rfl | exact ⟨_, rfl⟩ | simp [lst, cat2_nil]
theorem s_prKeep_call (p_Labels : Int) (p_Degree : Int) (p_Nodes : List (List Int)) (p_Edges : List (List Int)) (keep : List Int) {r : Int × Int × (List (List Int)) × (List (List Int))} (h : s_prKeep p_Labels p_Degree p_Nodes p_Edges keep = some r) : Y.call 48 [D.agg [D.int .i64 p_Labels, D.int .i64 p_Degree, D.sl 33 (lst (fun x => D.sl 3 (lst (D.int .i64) x)) p_Nodes), D.sl 33 (lst (fun x => D.sl 3 (lst (D.int .i64) x)) p_Edges)], D.sl 3 (lst (D.int .i64) keep)] [] = some (D.agg [D.int .i64 r.1, D.int .i64 r.2.1, D.sl 33 (lst (fun x => D.sl 3 (lst (D.int .i64) x)) r.2.2.1), D.sl 33 (lst (fun x => D.sl 3 (lst (D.int .i64) x)) r.2.2.2)], []) := by
 refine c48 ?_ rfl
 unfold k48
 unfold s_prKeep at h
 obtain ⟨e1, h⟩ := ckS h
 obtain ⟨r3_, hl3, h⟩ := bindS h
 try dsimp only at h
 simp (maxDischargeDepth := 9) only [↓xpre, xpost, xlst, xc2, xcore, yset, rg0, ↓reduceIte, Nat.reduceEqDiff, Nat.reduceLT, Nat.reduceLeDiff, Nat.reduceAdd, Nat.reduceMul, Nat.reduceMod, Nat.reduceSub, Nat.reduceBEq, Int.reduceLE, Int.reduceLT, Int.reduceEq, Int.reduceSub, Int.reduceAdd, Int.reduceToNat, Int.reduceNeg, e1.1, e1.2]
 refine wd_mono (s_prKeep_l0_wp p_Labels p_Degree p_Nodes p_Edges keep hl3 ?_) ?_
 ·simp (maxDischargeDepth := 9) only [↓xpre, xpost, xlst, xc2, xcore, yset, rg0, ↓reduceIte, Nat.reduceEqDiff, Nat.reduceLT, Nat.reduceLeDiff, Nat.reduceAdd, Nat.reduceMul, Nat.reduceMod, Nat.reduceSub, Nat.reduceBEq, Int.reduceLE, Int.reduceLT, Int.reduceEq, Int.reduceSub, Int.reduceAdd, Int.reduceToNat, Int.reduceNeg, e1.1, e1.2, s_prKeep_l0_M] <;> (repeat' apply And.intro) <;> first | rfl | exact ⟨_, rfl⟩ | simp [lst, cat2_nil]
 ·intro ex3 s3 hX3
  unfold s_prKeep_l0_X at hX3
  obtain ⟨rfl, n3_0, n3_1, n3_2, n3_3⟩ := hX3
  obtain ⟨r5_, hl5, h⟩ := bindS h
  try dsimp only at h
  simp (maxDischargeDepth := 9) only [↓xpre, xpost, xlst, xc2, xcore, yset, rg0, ↓reduceIte, Nat.reduceEqDiff, Nat.reduceLT, Nat.reduceLeDiff, Nat.reduceAdd, Nat.reduceMul, Nat.reduceMod, Nat.reduceSub, Nat.reduceBEq, Int.reduceLE, Int.reduceLT, Int.reduceEq, Int.reduceSub, Int.reduceAdd, Int.reduceToNat, Int.reduceNeg, e1.1, e1.2, n3_0, n3_1, n3_2, n3_3]
  refine wd_mono (s_prKeep_l1_wp p_Labels p_Degree p_Nodes p_Edges keep hl5 ?_) ?_
  ·simp (maxDischargeDepth := 9) only [↓xpre, xpost, xlst, xc2, xcore, yset, rg0, ↓reduceIte, Nat.reduceEqDiff, Nat.reduceLT, Nat.reduceLeDiff, Nat.reduceAdd, Nat.reduceMul, Nat.reduceMod, Nat.reduceSub, Nat.reduceBEq, Int.reduceLE, Int.reduceLT, Int.reduceEq, Int.reduceSub, Int.reduceAdd, Int.reduceToNat, Int.reduceNeg, e1.1, e1.2, n3_0, n3_1, n3_2, n3_3, s_prKeep_l1_M] <;> (repeat' apply And.intro) <;> first | rfl | exact ⟨_, rfl⟩ | simp [lst, cat2_nil]
  ·intro ex5 s5 hX5
   unfold s_prKeep_l1_X at hX5
   obtain ⟨rfl, n5_0, n5_1, n5_2, n5_3⟩ := hX5
   obtain ⟨r6_, hl6, h⟩ := bindS h
   try dsimp only at h
   have c6 := s_prMap_call p_Nodes r5_ hl6
   obtain ⟨r7_, hl7, h⟩ := bindS h
   try dsimp only at h
   have c7 := s_prMap_call p_Edges r5_ hl7
   obtain rfl := Option.some.inj h
   simp (maxDischargeDepth := 9) only [↓xpre, xpost, xlst, xc2, xcore, yset, rg0, ↓reduceIte, Nat.reduceEqDiff, Nat.reduceLT, Nat.reduceLeDiff, Nat.reduceAdd, Nat.reduceMul, Nat.reduceMod, Nat.reduceSub, Nat.reduceBEq, Int.reduceLE, Int.reduceLT, Int.reduceEq, Int.reduceSub, Int.reduceAdd, Int.reduceToNat, Int.reduceNeg, e1.1, e1.2, n5_0, n5_1, n5_2, n5_3, c6, c7] <;> (repeat' apply And.intro) <;> first | rfl | exact ⟨_, rfl⟩ | simp [lst, cat2_nil]

noncomputable def i_KeepLabels (p_Labels : Int) (p_Degree : Int) (p_Nodes : List (List Int)) (p_Edges : List (List Int)) (keep : List Int) : Option (Int × Int × (List (List Int)) × (List (List Int)) × Bool) :=
 ck (Short p_Nodes) <|
 ck (Short p_Edges) <|
 if (isProb p_Labels p_Degree p_Nodes p_Edges) = true then
  if (keep.length : Int) = 0 then
   some (0, 0, [], [], false)
  else
   (i_increasing keep (0 : Int) (IntKind.i64.wrap (p_Labels - 1))).bind fun r6_ =>
   if r6_ = true then
    (i_keepLabels p_Labels p_Degree p_Nodes p_Edges keep).bind fun r8_ =>
    some (r8_.1, r8_.2.1, r8_.2.2.1, r8_.2.2.2, true)
   else
    some (0, 0, [], [], false)
 else
  some (0, 0, [], [], false)
/-- impl.KeepLabels -/
def k21 : SC :=
 .seq
 (.ops [
 ⟨(some 2), (.box 26 (.tmp 0)), 0, none⟩,
 ⟨(some 4), (.alloc 26), 0, none⟩,
 ⟨(some 5), (.assign (.const (.bool false))), 4, none⟩])
 (.seq
 (.seq
 (.ops [
 ⟨(some 6), (.load 26 (.tmp 2)), 26, none⟩,
 ⟨(some 7), (.call ⟨(.value (.func 44)), #[(.tmp 6)], #[26]⟩), 4, none⟩,
 ⟨(some 8), (.unOp .not 4 (.tmp 7)), 4, none⟩,
 ⟨(some 9), (.move (.tmp 8)), 4, none⟩,
 ⟨(some 10), (.move (.tmp 1)), 33, (some (some 9, false))⟩,
 ⟨(some 11), (.call ⟨(.builtin .len), #[(.tmp 10)], #[33]⟩), 3, (some (some 9, false))⟩,
 ⟨(some 12), (.binOp .eql 3 (.tmp 11) (.const (.int .i64 0)) 3), 4, (some (some 9, false))⟩,
 ⟨(some 13), (.pick (.tmp 9) (.const (.bool true)) (.tmp 12)), 4, none⟩,
 ⟨(some 14), (.move (.tmp 13)), 4, none⟩,
 ⟨(some 15), (.move (.tmp 1)), 33, (some (some 14, false))⟩,
 ⟨(some 16), (.fieldAddr 26 (.tmp 2) 0), 0, (some (some 14, false))⟩,
 ⟨(some 17), (.load 3 (.tmp 16)), 3, (some (some 14, false))⟩,
 ⟨(some 18), (.binOp .sub 3 (.tmp 17) (.const (.int .i64 1)) 3), 3, (some (some 14, false))⟩,
 ⟨(some 19), (.call ⟨(.value (.func 49)), #[(.tmp 15), (.const (.int .i64 0)), (.tmp 18)], #[33, 3, 3]⟩), 4, (some (some 14, false))⟩,
 ⟨(some 20), (.unOp .not 4 (.tmp 19)), 4, (some (some 14, false))⟩,
 ⟨(some 21), (.pick (.tmp 14) (.const (.bool true)) (.tmp 20)), 4, none⟩])
 (.cond (.tmp 21)
 (.seq
 (.ops [
 ⟨(some 22), (.build 26 #[]), 26, none⟩,
 ⟨none, (.store 26 (.tmp 4) (.tmp 22)), 0, none⟩,
 ⟨(some 5), (.assign (.const (.bool false))), 4, none⟩])
 .ret)
 .skip))
 (.seq
 (.ops [
 ⟨(some 23), (.load 26 (.tmp 2)), 26, none⟩,
 ⟨(some 24), (.move (.tmp 1)), 33, none⟩,
 ⟨(some 25), (.call ⟨(.value (.func 50)), #[(.tmp 23), (.tmp 24)], #[26, 33]⟩), 26, none⟩,
 ⟨none, (.store 26 (.tmp 4) (.tmp 25)), 0, none⟩,
 ⟨(some 5), (.assign (.const (.bool true))), 4, none⟩])
 .ret))
theorem slim21 : Try.f21.body.map (slim lends) = some k21 := by kernel_rfl
theorem ok21 : fnOk Try.f21 2 = true := by kernel_rfl
theorem c21 {a l : List D} {r : D × List D} (h : wpD Y.env k21 (fin tys l.length [ResultVar.cell 4 26, ResultVar.tmp 5] r) (entry a l)) (ha : a.length = 2) : Y.call 21 a l = some r :=
 call_slim (Y := Y) rfl Try.func21 (ha ▸ ok21) slim21 h
theorem i_KeepLabels_call (p_Labels : Int) (p_Degree : Int) (p_Nodes : List (List Int)) (p_Edges : List (List Int)) (keep : List Int) {r : Int × Int × (List (List Int)) × (List (List Int)) × Bool} (h : i_KeepLabels p_Labels p_Degree p_Nodes p_Edges keep = some r) : Y.call 21 [D.agg [D.int .i64 p_Labels, D.int .i64 p_Degree, D.sl 33 (lst (fun x => D.sl 3 (lst (D.int .i64) x)) p_Nodes), D.sl 33 (lst (fun x => D.sl 3 (lst (D.int .i64) x)) p_Edges)], D.sl 3 (lst (D.int .i64) keep)] [] = some (D.tup [D.agg [D.int .i64 r.1, D.int .i64 r.2.1, D.own 33 (lst (fun x => D.own 3 (lst (D.int .i64) x)) r.2.2.1), D.own 33 (lst (fun x => D.own 3 (lst (D.int .i64) x)) r.2.2.2.1)], D.bool r.2.2.2.2], []) := by
 refine c21 ?_ rfl
 unfold k21
 unfold i_KeepLabels at h
 obtain ⟨e1, h⟩ := ckS h
 obtain ⟨e2, h⟩ := ckS h
 have c3 := i_IsProblem_cl p_Labels p_Degree p_Nodes p_Edges e1 e2
 by_cases e4 : (isProb p_Labels p_Degree p_Nodes p_Edges) = true
 ·rw [if_pos e4] at h
  by_cases e5 : (keep.length : Int) = 0
  ·rw [if_pos e5] at h
   obtain rfl := Option.some.inj h
   simp (maxDischargeDepth := 9) only [↓xpre, xpost, xlst, xc2, xcore, yset, rg0, ↓reduceIte, Nat.reduceEqDiff, Nat.reduceLT, Nat.reduceLeDiff, Nat.reduceAdd, Nat.reduceMul, Nat.reduceMod, Nat.reduceSub, Nat.reduceBEq, Int.reduceLE, Int.reduceLT, Int.reduceEq, Int.reduceSub, Int.reduceAdd, Int.reduceToNat, Int.reduceNeg, e1, e2, c3, e4, decide_eq_true e5] <;> (repeat' apply And.intro) <;> first | rfl | exact ⟨_, rfl⟩ | simp [lst, cat2_nil]
  ·rw [if_neg e5] at h
   obtain ⟨r6_, hl6, h⟩ := bindS h
   try dsimp only at h
   have c6 := i_increasing_call keep (0 : Int) (IntKind.i64.wrap (p_Labels - 1)) hl6
   by_cases e7 : r6_ = true
   ·rw [if_pos e7] at h
    obtain ⟨r8_, hl8, h⟩ := bindS h
    try dsimp only at h
    have c8 := i_keepLabels_call p_Labels p_Degree p_Nodes p_Edges keep hl8
    obtain rfl := Option.some.inj h
    simp (maxDischargeDepth := 9) only [↓xpre, xpost, xlst, xc2, xcore, yset, rg0, ↓reduceIte, Nat.reduceEqDiff, Nat.reduceLT, Nat.reduceLeDiff, Nat.reduceAdd, Nat.reduceMul, Nat.reduceMod, Nat.reduceSub, Nat.reduceBEq, Int.reduceLE, Int.reduceLT, Int.reduceEq, Int.reduceSub, Int.reduceAdd, Int.reduceToNat, Int.reduceNeg, e1, e2, c3, e4, e5, c6, e7, c8] <;> (repeat' apply And.intro) <;> first | rfl | exact ⟨_, rfl⟩ | simp [lst, cat2_nil]
   ·rw [if_neg e7] at h
    have e7f : r6_ = false := Bool.eq_false_iff.mpr e7
    obtain rfl := Option.some.inj h
    simp (maxDischargeDepth := 9) only [↓xpre, xpost, xlst, xc2, xcore, yset, rg0, ↓reduceIte, Nat.reduceEqDiff, Nat.reduceLT, Nat.reduceLeDiff, Nat.reduceAdd, Nat.reduceMul, Nat.reduceMod, Nat.reduceSub, Nat.reduceBEq, Int.reduceLE, Int.reduceLT, Int.reduceEq, Int.reduceSub, Int.reduceAdd, Int.reduceToNat, Int.reduceNeg, e1, e2, c3, e4, e5, c6, e7f] <;> (repeat' apply And.intro) <;> first | rfl | exact ⟨_, rfl⟩ | simp [lst, cat2_nil]
 ·rw [if_neg e4] at h
  have e4f : (isProb p_Labels p_Degree p_Nodes p_Edges) = false := Bool.eq_false_iff.mpr e4
  obtain rfl := Option.some.inj h
  simp (maxDischargeDepth := 9) only [↓xpre, xpost, xlst, xc2, xcore, yset, rg0, ↓reduceIte, Nat.reduceEqDiff, Nat.reduceLT, Nat.reduceLeDiff, Nat.reduceAdd, Nat.reduceMul, Nat.reduceMod, Nat.reduceSub, Nat.reduceBEq, Int.reduceLE, Int.reduceLT, Int.reduceEq, Int.reduceSub, Int.reduceAdd, Int.reduceToNat, Int.reduceNeg, e1, e2, c3, e4f] <;> (repeat' apply And.intro) <;> first | rfl | exact ⟨_, rfl⟩ | simp [lst, cat2_nil]

noncomputable def s_KeepLabels (p_Labels : Int) (p_Degree : Int) (p_Nodes : List (List Int)) (p_Edges : List (List Int)) (keep : List Int) : Option ((Int × Int × (List (List Int)) × (List (List Int)) × Bool) ⊕ (Int × Int × (List (List Int)) × (List (List Int)) × Bool)) :=
 ck (Short p_Nodes) <|
 ck (Short p_Edges) <|
 if (isProb p_Labels p_Degree p_Nodes p_Edges) = true then
  if (keep.length : Int) = 0 then
   some (Sum.inl (0, 0, [], [], false))
  else
   (s_l1Rising keep (0 : Int) (IntKind.i64.wrap (p_Labels - 1))).bind fun r6_ =>
   if r6_ = true then
    (s_prKeep p_Labels p_Degree p_Nodes p_Edges keep).bind fun r8_ =>
    some (Sum.inr (r8_.1, r8_.2.1, r8_.2.2.1, r8_.2.2.2, true))
   else
    some (Sum.inl (0, 0, [], [], false))
 else
  some (Sum.inl (0, 0, [], [], false))
/-- spec.KeepLabels -/
def k20 : SC :=
 .seq
 (.ops [
 ⟨(some 2), (.box 26 (.tmp 0)), 0, none⟩,
 ⟨(some 4), (.alloc 26), 0, none⟩,
 ⟨(some 5), (.assign (.const (.bool false))), 4, none⟩])
 (.seq
 (.seq
 (.ops [
 ⟨(some 6), (.load 26 (.tmp 2)), 26, none⟩,
 ⟨(some 7), (.call ⟨(.value (.func 41)), #[(.tmp 6)], #[26]⟩), 4, none⟩,
 ⟨(some 8), (.unOp .not 4 (.tmp 7)), 4, none⟩,
 ⟨(some 9), (.move (.tmp 8)), 4, none⟩,
 ⟨(some 10), (.move (.tmp 1)), 33, (some (some 9, false))⟩,
 ⟨(some 11), (.call ⟨(.builtin .len), #[(.tmp 10)], #[33]⟩), 3, (some (some 9, false))⟩,
 ⟨(some 12), (.binOp .eql 3 (.tmp 11) (.const (.int .i64 0)) 3), 4, (some (some 9, false))⟩,
 ⟨(some 13), (.pick (.tmp 9) (.const (.bool true)) (.tmp 12)), 4, none⟩,
 ⟨(some 14), (.move (.tmp 13)), 4, none⟩,
 ⟨(some 15), (.move (.tmp 1)), 33, (some (some 14, false))⟩,
 ⟨(some 16), (.fieldAddr 26 (.tmp 2) 0), 0, (some (some 14, false))⟩,
 ⟨(some 17), (.load 3 (.tmp 16)), 3, (some (some 14, false))⟩,
 ⟨(some 18), (.binOp .sub 3 (.tmp 17) (.const (.int .i64 1)) 3), 3, (some (some 14, false))⟩,
 ⟨(some 19), (.call ⟨(.value (.func 47)), #[(.tmp 15), (.const (.int .i64 0)), (.tmp 18)], #[33, 3, 3]⟩), 4, (some (some 14, false))⟩,
 ⟨(some 20), (.unOp .not 4 (.tmp 19)), 4, (some (some 14, false))⟩,
 ⟨(some 21), (.pick (.tmp 14) (.const (.bool true)) (.tmp 20)), 4, none⟩])
 (.cond (.tmp 21)
 (.seq
 (.ops [
 ⟨(some 22), (.build 26 #[]), 26, none⟩,
 ⟨none, (.store 26 (.tmp 4) (.tmp 22)), 0, none⟩,
 ⟨(some 5), (.assign (.const (.bool false))), 4, none⟩])
 .ret)
 .skip))
 (.seq
 (.ops [
 ⟨(some 23), (.load 26 (.tmp 2)), 26, none⟩,
 ⟨(some 24), (.move (.tmp 1)), 33, none⟩,
 ⟨(some 25), (.call ⟨(.value (.func 48)), #[(.tmp 23), (.tmp 24)], #[26, 33]⟩), 26, none⟩,
 ⟨none, (.store 26 (.tmp 4) (.tmp 25)), 0, none⟩,
 ⟨(some 5), (.assign (.const (.bool true))), 4, none⟩])
 .ret))
theorem slim20 : Try.f20.body.map (slim lends) = some k20 := by kernel_rfl
theorem ok20 : fnOk Try.f20 2 = true := by kernel_rfl
theorem c20 {a l : List D} {r : D × List D} (h : wpD Y.env k20 (fin tys l.length [ResultVar.cell 4 26, ResultVar.tmp 5] r) (entry a l)) (ha : a.length = 2) : Y.call 20 a l = some r :=
 call_slim (Y := Y) rfl Try.func20 (ha ▸ ok20) slim20 h
theorem s_KeepLabels_call (p_Labels : Int) (p_Degree : Int) (p_Nodes : List (List Int)) (p_Edges : List (List Int)) (keep : List Int) {r : (Int × Int × (List (List Int)) × (List (List Int)) × Bool) ⊕ (Int × Int × (List (List Int)) × (List (List Int)) × Bool)} (h : s_KeepLabels p_Labels p_Degree p_Nodes p_Edges keep = some r) : Y.call 20 [D.agg [D.int .i64 p_Labels, D.int .i64 p_Degree, D.sl 33 (lst (fun x => D.sl 3 (lst (D.int .i64) x)) p_Nodes), D.sl 33 (lst (fun x => D.sl 3 (lst (D.int .i64) x)) p_Edges)], D.sl 3 (lst (D.int .i64) keep)] [] = some (match r with | .inl q => (D.tup [D.agg [D.int .i64 q.1, D.int .i64 q.2.1, D.own 33 (lst (fun x => D.own 3 (lst (D.int .i64) x)) q.2.2.1), D.own 33 (lst (fun x => D.own 3 (lst (D.int .i64) x)) q.2.2.2.1)], D.bool q.2.2.2.2], []) | .inr q => (D.tup [D.agg [D.int .i64 q.1, D.int .i64 q.2.1, D.sl 33 (lst (fun x => D.sl 3 (lst (D.int .i64) x)) q.2.2.1), D.sl 33 (lst (fun x => D.sl 3 (lst (D.int .i64) x)) q.2.2.2.1)], D.bool q.2.2.2.2], [])) := by
 refine c20 ?_ rfl
 unfold k20
 unfold s_KeepLabels at h
 obtain ⟨e1, h⟩ := ckS h
 obtain ⟨e2, h⟩ := ckS h
 have c3 := s_prGood_cl p_Labels p_Degree p_Nodes p_Edges e1 e2
 by_cases e4 : (isProb p_Labels p_Degree p_Nodes p_Edges) = true
 ·rw [if_pos e4] at h
  by_cases e5 : (keep.length : Int) = 0
  ·rw [if_pos e5] at h
   obtain rfl := Option.some.inj h
   simp (maxDischargeDepth := 9) only [↓xpre, xpost, xlst, xc2, xcore, yset, rg0, ↓reduceIte, Nat.reduceEqDiff, Nat.reduceLT, Nat.reduceLeDiff, Nat.reduceAdd, Nat.reduceMul, Nat.reduceMod, Nat.reduceSub, Nat.reduceBEq, Int.reduceLE, Int.reduceLT, Int.reduceEq, Int.reduceSub, Int.reduceAdd, Int.reduceToNat, Int.reduceNeg, e1, e2, c3, e4, decide_eq_true e5] <;> (repeat' apply And.intro) <;> first | rfl | exact ⟨_, rfl⟩ | simp [lst, cat2_nil]
  ·rw [if_neg e5] at h
   obtain ⟨r6_, hl6, h⟩ := bindS h
   try dsimp only at h
   have c6 := s_l1Rising_call keep (0 : Int) (IntKind.i64.wrap (p_Labels - 1)) hl6
   by_cases e7 : r6_ = true
   ·rw [if_pos e7] at h
    obtain ⟨r8_, hl8, h⟩ := bindS h
    try dsimp only at h
    have c8 := s_prKeep_call p_Labels p_Degree p_Nodes p_Edges keep hl8
    obtain rfl := Option.some.inj h
    simp (maxDischargeDepth := 9) only [↓xpre, xpost, xlst, xc2, xcore, yset, rg0, ↓reduceIte, Nat.reduceEqDiff, Nat.reduceLT, Nat.reduceLeDiff, Nat.reduceAdd, Nat.reduceMul, Nat.reduceMod, Nat.reduceSub, Nat.reduceBEq, Int.reduceLE, Int.reduceLT, Int.reduceEq, Int.reduceSub, Int.reduceAdd, Int.reduceToNat, Int.reduceNeg, e1, e2, c3, e4, e5, c6, e7, c8] <;> (repeat' apply And.intro) <;> first | rfl | exact ⟨_, rfl⟩ | simp [lst, cat2_nil]
   ·rw [if_neg e7] at h
    have e7f : r6_ = false := Bool.eq_false_iff.mpr e7
    obtain rfl := Option.some.inj h
    simp (maxDischargeDepth := 9) only [↓xpre, xpost, xlst, xc2, xcore, yset, rg0, ↓reduceIte, Nat.reduceEqDiff, Nat.reduceLT, Nat.reduceLeDiff, Nat.reduceAdd, Nat.reduceMul, Nat.reduceMod, Nat.reduceSub, Nat.reduceBEq, Int.reduceLE, Int.reduceLT, Int.reduceEq, Int.reduceSub, Int.reduceAdd, Int.reduceToNat, Int.reduceNeg, e1, e2, c3, e4, e5, c6, e7f] <;> (repeat' apply And.intro) <;> first | rfl | exact ⟨_, rfl⟩ | simp [lst, cat2_nil]
 ·rw [if_neg e4] at h
  have e4f : (isProb p_Labels p_Degree p_Nodes p_Edges) = false := Bool.eq_false_iff.mpr e4
  obtain rfl := Option.some.inj h
  simp (maxDischargeDepth := 9) only [↓xpre, xpost, xlst, xc2, xcore, yset, rg0, ↓reduceIte, Nat.reduceEqDiff, Nat.reduceLT, Nat.reduceLeDiff, Nat.reduceAdd, Nat.reduceMul, Nat.reduceMod, Nat.reduceSub, Nat.reduceBEq, Int.reduceLE, Int.reduceLT, Int.reduceEq, Int.reduceSub, Int.reduceAdd, Int.reduceToNat, Int.reduceNeg, e1, e2, c3, e4f] <;> (repeat' apply And.intro) <;> first | rfl | exact ⟨_, rfl⟩ | simp [lst, cat2_nil]


end Go.Proofs.Ytdjfaadpmbkcmaa
