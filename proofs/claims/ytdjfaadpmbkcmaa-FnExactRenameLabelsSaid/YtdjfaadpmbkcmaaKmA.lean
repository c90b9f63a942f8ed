/- Problems with other labels: lifted. Conditions: none. -/
import Derived.Test.YtdjfaadpmbkcmaaL6
import Derived.Test.YtdjfaadpmbkcmaaRnA
namespace Go.Proofs.Ytdjfaadpmbkcmaa
open Go Dv
set_option linter.unusedSimpArgs false
set_option linter.unusedVariables false
set_option maxRecDepth 100000
set_option maxHeartbeats 4000000

noncomputable def i_isPermutation_l0_S (list : List Int) (n_ : Int) (seen : List Bool) (t16_ : Int) : Option (((List Bool) × Int) ⊕ (Unit ⊕ Unit)) :=
 if t16_ < (list.length : Int) then
  ck (0 ≤ t16_ ∧ t16_.toNat < list.length) <|
  if (inR (list.getD t16_.toNat default) (0 : Int) (IntKind.i64.wrap (n_ - 1))) = true then
   ck (0 ≤ (list.getD t16_.toNat default) ∧ (list.getD t16_.toNat default).toNat < seen.length) <|
   if (seen.getD ((list.getD t16_.toNat default).toNat) default) = true then
    some (Sum.inr (Sum.inl ()))
   else
    some (Sum.inl ((seen.set ((list.getD t16_.toNat default).toNat) true), IntKind.i64.wrap (t16_ + 1)))
  else
   some (Sum.inr (Sum.inl ()))
 else
  some (Sum.inr (Sum.inr ()))
noncomputable def i_isPermutation_l0 (list : List Int) (n_ : Int) (v : (List Bool) × Int) : Option (Unit ⊕ Unit) := itO (fun v => i_isPermutation_l0_S list n_ v.1 v.2) v
noncomputable def i_isPermutation (list : List Int) (n_ : Int) : Option (Bool) :=
 if (list.length : Int) = n_ then
  ck (0 ≤ n_ ∧ n_ < 1099511627776) <|
  (i_isPermutation_l0 list n_ ((List.replicate n_.toNat false), 0)).bind fun r4_ =>
  match r4_ with
  | .inl q4_ =>
   some false
  | .inr q4_ =>
   some true
 else
  some false
/-- impl.isPermutation -/
def k45_l0b : SC :=
 .seq
 (.ops [
 ⟨(some 17), (.binOp .lss 3 (.tmp 16) (.tmp 15) 3), 0, none⟩])
 (.seq
 (.cond (.tmp 17)
 .skip
 (.exit 0))
 (.seq
 (.block 1
 (.seq
 (.ops [
 ⟨(some 18), (.indexAddr 33 (.tmp 14) (.tmp 16)), 0, none⟩,
 ⟨(some 19), (.load 3 (.tmp 18)), 3, none⟩,
 ⟨(some 7), (.assign (.tmp 19)), 3, none⟩])
 (.seq
 (.seq
 (.ops [
 ⟨(some 20), (.move (.tmp 7)), 3, none⟩,
 ⟨(some 21), (.move (.tmp 1)), 3, none⟩,
 ⟨(some 22), (.binOp .sub 3 (.tmp 21) (.const (.int .i64 1)) 3), 3, none⟩,
 ⟨(some 23), (.call ⟨(.value (.func 70)), #[(.tmp 20), (.const (.int .i64 0)), (.tmp 22)], #[3, 3, 3]⟩), 4, none⟩,
 ⟨(some 24), (.unOp .not 4 (.tmp 23)), 4, none⟩,
 ⟨(some 25), (.move (.tmp 24)), 4, none⟩,
 ⟨(some 26), (.move (.tmp 5)), 63, (some (some 25, false))⟩,
 ⟨(some 27), (.move (.tmp 7)), 3, (some (some 25, false))⟩,
 ⟨(some 28), (.indexAddr 63 (.tmp 26) (.tmp 27)), 0, (some (some 25, false))⟩,
 ⟨(some 29), (.load 4 (.tmp 28)), 4, (some (some 25, false))⟩,
 ⟨(some 30), (.pick (.tmp 25) (.const (.bool true)) (.tmp 29)), 4, none⟩])
 (.cond (.tmp 30)
 (.seq
 (.ops [
 ⟨(some 4), (.assign (.const (.bool false))), 4, none⟩])
 .ret)
 .skip))
 (.ops [
 ⟨(some 31), (.move (.tmp 5)), 63, none⟩,
 ⟨(some 32), (.move (.tmp 7)), 3, none⟩,
 ⟨(some 33), (.indexAddr 63 (.tmp 31) (.tmp 32)), 0, none⟩,
 ⟨none, (.store 4 (.tmp 33) (.const (.bool true))), 0, none⟩]))))
 (.ops [
 ⟨(some 34), (.binOp .add 3 (.tmp 16) (.const (.int .i64 1)) 3), 3, none⟩,
 ⟨(some 16), (.move (.tmp 34)), 3, none⟩])))
def k45_l0 : SC := .loop k45_l0b
def k45 : SC :=
 .seq
 (.ops [
 ⟨(some 4), (.assign (.const (.bool false))), 4, none⟩])
 (.seq
 (.seq
 (.ops [
 ⟨(some 8), (.move (.tmp 0)), 33, none⟩,
 ⟨(some 9), (.call ⟨(.builtin .len), #[(.tmp 8)], #[33]⟩), 3, none⟩,
 ⟨(some 10), (.move (.tmp 1)), 3, none⟩,
 ⟨(some 11), (.binOp .neq 3 (.tmp 9) (.tmp 10) 3), 4, none⟩])
 (.cond (.tmp 11)
 (.seq
 (.ops [
 ⟨(some 4), (.assign (.const (.bool false))), 4, none⟩])
 .ret)
 .skip))
 (.seq
 (.ops [
 ⟨(some 12), (.move (.tmp 1)), 3, none⟩,
 ⟨(some 13), (.makeSlice 63 (.tmp 12) (.tmp 12)), 63, none⟩,
 ⟨(some 5), (.assign (.tmp 13)), 63, none⟩])
 (.seq
 (.seq
 (.ops [
 ⟨(some 14), (.move (.tmp 0)), 33, none⟩,
 ⟨(some 15), (.call ⟨(.builtin .len), #[(.tmp 14)], #[33]⟩), 3, none⟩,
 ⟨(some 16), (.move (.const (.int .i64 0))), 3, none⟩])
 (.block 0
 k45_l0))
 (.seq
 (.ops [
 ⟨(some 4), (.assign (.const (.bool true))), 4, none⟩])
 .ret))))
theorem slim45 : Try.f45.body.map (slim lends) = some k45 := by kernel_rfl
theorem ok45 : fnOk Try.f45 2 = true := by kernel_rfl
theorem c45 {a l : List D} {r : D × List D} (h : wpD Y.env k45 (fin tys l.length [ResultVar.tmp 4] r) (entry a l)) (ha : a.length = 2) : Y.call 45 a l = some r :=
 call_slim (Y := Y) rfl Try.func45 (ha ▸ ok45) slim45 h
def i_isPermutation_l0_M (list : List Int) (n_ : Int) (seen : List Bool) (t16_ : Int) (s : St) : Prop := s.v 1 = D.int .i64 n_ ∧ s.v 5 = D.own 4 (lst D.bool seen) ∧ s.v 14 = D.sl 3 (lst (D.int .i64) list) ∧ s.v 15 = D.int .i64 (list.length : Int) ∧ s.v 16 = D.int .i64 t16_
def i_isPermutation_l0_X (list : List Int) (n_ : Int) (r : Unit ⊕ Unit) (ex : Ex) (s : St) : Prop := match r with
 | .inl q => ex = .ret ∧ s.v 4 = D.bool false
 | .inr q => ex = .exit 0
theorem i_isPermutation_l0_wp (list : List Int) (n_ : Int) {v : (List Bool) × Int} {s : St} {r : Unit ⊕ Unit} (h : i_isPermutation_l0 list n_ v = some r) (hM : i_isPermutation_l0_M list n_ v.1 v.2 s) : wpD Y.env k45_l0 (i_isPermutation_l0_X list n_ r) s := by
 unfold i_isPermutation_l0 at h
 refine wd_itO (c := k45_l0b) (fun v => i_isPermutation_l0_S list n_ v.1 v.2) (fun v s => i_isPermutation_l0_M list n_ v.1 v.2 s) (i_isPermutation_l0_X list n_) ?_ h hM
 clear h hM s v r
 intro v s o hM h
 obtain ⟨seen, t16_⟩ := v
 dsimp only at h hM
 unfold i_isPermutation_l0_S at h
 unfold i_isPermutation_l0_M at hM
 obtain ⟨m0, m1, m2, m3, m4⟩ := hM
 unfold k45_l0b
 by_cases e3 : t16_ < (list.length : Int)
 ·rw [if_pos e3] at h
  obtain ⟨e4, h⟩ := ckS h
  have c5 := i_within_cl (list.getD t16_.toNat default) (0 : Int) (IntKind.i64.wrap (n_ - 1))
  by_cases e6 : (inR (list.getD t16_.toNat default) (0 : Int) (IntKind.i64.wrap (n_ - 1))) = true
  ·rw [if_pos e6] at h
   obtain ⟨e7, h⟩ := ckS h
   by_cases e8 : (seen.getD ((list.getD t16_.toNat default).toNat) default) = true
   ·rw [if_pos e8] at h
    obtain rfl := Option.some.inj h
    simp (maxDischargeDepth := 9) only [↓xpre, xpost, xlst, xc2, xcore, yset, rg0, ↓reduceIte, Nat.reduceEqDiff, Nat.reduceLT, Nat.reduceLeDiff, Nat.reduceAdd, Nat.reduceMul, Nat.reduceMod, Nat.reduceSub, Nat.reduceBEq, Int.reduceLE, Int.reduceLT, Int.reduceEq, Int.reduceSub, Int.reduceAdd, Int.reduceToNat, Int.reduceNeg, m0, m1, m2, m3, m4, e3, e4.1, e4.2, c5, e6, e7.1, e7.2, e8, i_isPermutation_l0_M, i_isPermutation_l0_X, sxN, sxE, sxR] <;> (repeat' apply And.intro) <;> first | rfl | exact ⟨_, rfl⟩ | simp [lst, cat2_nil]
   ·rw [if_neg e8] at h
    have e8f : (seen.getD ((list.getD t16_.toNat default).toNat) default) = false := Bool.eq_false_iff.mpr e8
    obtain rfl := Option.some.inj h
    simp (maxDischargeDepth := 9) only [↓xpre, xpost, xlst, xc2, xcore, yset, rg0, ↓reduceIte, Nat.reduceEqDiff, Nat.reduceLT, Nat.reduceLeDiff, Nat.reduceAdd, Nat.reduceMul, Nat.reduceMod, Nat.reduceSub, Nat.reduceBEq, Int.reduceLE, Int.reduceLT, Int.reduceEq, Int.reduceSub, Int.reduceAdd, Int.reduceToNat, Int.reduceNeg, m0, m1, m2, m3, m4, e3, e4.1, e4.2, c5, e6, e7.1, e7.2, e8f, i_isPermutation_l0_M, i_isPermutation_l0_X, sxN, sxE, sxR] <;> (repeat' apply And.intro) <;> first | rfl | exact ⟨_, rfl⟩ | simp [lst, cat2_nil]
  ·rw [if_neg e6] at h
   have e6f : (inR (list.getD t16_.toNat default) (0 : Int) (IntKind.i64.wrap (n_ - 1))) = false := Bool.eq_false_iff.mpr e6
   obtain rfl := Option.some.inj h
   simp (maxDischargeDepth := 9) only [↓xpre, xpost, xlst, xc2, xcore, yset, rg0, ↓reduceIte, Nat.reduceEqDiff, Nat.reduceLT, Nat.reduceLeDiff, Nat.reduceAdd, Nat.reduceMul, Nat.reduceMod, Nat.reduceSub, Nat.reduceBEq, Int.reduceLE, Int.reduceLT, Int.reduceEq, Int.reduceSub, Int.reduceAdd, Int.reduceToNat, Int.reduceNeg, m0, m1, m2, m3, m4, e3, e4.1, e4.2, c5, e6f, i_isPermutation_l0_M, i_isPermutation_l0_X, sxN, sxE, sxR] <;> (repeat' apply And.intro) <;> first | rfl | exact ⟨_, rfl⟩ | simp [lst, cat2_nil]
 ·rw [if_neg e3] at h
  obtain rfl := Option.some.inj h
  simp (maxDischargeDepth := 9) only [↓xpre, xpost, xlst, xc2, xcore, yset, rg0, ↓reduceIte, Nat.reduceEqDiff, Nat.reduceLT, Nat.reduceLeDiff, Nat.reduceAdd, Nat.reduceMul, Nat.reduceMod, Nat.reduceSub, Nat.reduceBEq, Int.reduceLE, Int.reduceLT, Int.reduceEq, Int.reduceSub, Int.reduceAdd, Int.reduceToNat, Int.reduceNeg, m0, m1, m2, m3, m4, e3, i_isPermutation_l0_M, i_isPermutation_l0_X, sxN, sxE, sxR] <;> (repeat' apply And.intro) <;> first | rfl | exact ⟨_, rfl⟩ | simp [lst, cat2_nil]
theorem i_isPermutation_call (list : List Int) (n_ : Int) {r : Bool} (h : i_isPermutation list n_ = some r) : Y.call 45 [D.sl 3 (lst (D.int .i64) list), D.int .i64 n_] [] = some (D.bool r, []) := by
 refine c45 ?_ rfl
 unfold k45
 unfold i_isPermutation at h
 by_cases e1 : (list.length : Int) = n_
 ·rw [if_pos e1] at h
  obtain ⟨e2, h⟩ := ckS h
  obtain ⟨r4_, hl4, h⟩ := bindS h
  try dsimp only at h
  simp (maxDischargeDepth := 9) only [↓xpre, xpost, xlst, xc2, xcore, yset, rg0, ↓reduceIte, Nat.reduceEqDiff, Nat.reduceLT, Nat.reduceLeDiff, Nat.reduceAdd, Nat.reduceMul, Nat.reduceMod, Nat.reduceSub, Nat.reduceBEq, Int.reduceLE, Int.reduceLT, Int.reduceEq, Int.reduceSub, Int.reduceAdd, Int.reduceToNat, Int.reduceNeg, decide_eq_true e1, e2.1, e2.2]
  refine wd_mono (i_isPermutation_l0_wp list n_ hl4 ?_) ?_
  ·simp (maxDischargeDepth := 9) only [↓xpre, xpost, xlst, xc2, xcore, yset, rg0, ↓reduceIte, Nat.reduceEqDiff, Nat.reduceLT, Nat.reduceLeDiff, Nat.reduceAdd, Nat.reduceMul, Nat.reduceMod, Nat.reduceSub, Nat.reduceBEq, Int.reduceLE, Int.reduceLT, Int.reduceEq, Int.reduceSub, Int.reduceAdd, Int.reduceToNat, Int.reduceNeg, decide_eq_true e1, e2.1, e2.2, i_isPermutation_l0_M] <;> (repeat' apply And.intro) <;> first | rfl | exact ⟨_, rfl⟩ | simp [lst, cat2_nil]
  ·intro ex4 s4 hX4
   rcases r4_ with q4_ | q4_
   ·unfold i_isPermutation_l0_X at hX4
    dsimp only at hX4 h
    obtain ⟨rfl, n4_0⟩ := hX4
    obtain rfl := Option.some.inj h
    simp (maxDischargeDepth := 9) only [↓xpre, xpost, xlst, xc2, xcore, yset, rg0, ↓reduceIte, Nat.reduceEqDiff, Nat.reduceLT, Nat.reduceLeDiff, Nat.reduceAdd, Nat.reduceMul, Nat.reduceMod, Nat.reduceSub, Nat.reduceBEq, Int.reduceLE, Int.reduceLT, Int.reduceEq, Int.reduceSub, Int.reduceAdd, Int.reduceToNat, Int.reduceNeg, decide_eq_true e1, e2.1, e2.2, n4_0] <;> (repeat' apply And.intro) <;> first | rfl | exact ⟨_, rfl⟩ | simp [lst, cat2_nil]
   ·unfold i_isPermutation_l0_X at hX4
    dsimp only at hX4 h
    obtain rfl := hX4
    obtain rfl := Option.some.inj h
    simp (maxDischargeDepth := 9) only [↓xpre, xpost, xlst, xc2, xcore, yset, rg0, ↓reduceIte, Nat.reduceEqDiff, Nat.reduceLT, Nat.reduceLeDiff, Nat.reduceAdd, Nat.reduceMul, Nat.reduceMod, Nat.reduceSub, Nat.reduceBEq, Int.reduceLE, Int.reduceLT, Int.reduceEq, Int.reduceSub, Int.reduceAdd, Int.reduceToNat, Int.reduceNeg, decide_eq_true e1, e2.1, e2.2] <;> (repeat' apply And.intro) <;> first | rfl | exact ⟨_, rfl⟩ | simp [lst, cat2_nil]
 ·rw [if_neg e1] at h
  obtain rfl := Option.some.inj h
  simp (maxDischargeDepth := 9) only [↓xpre, xpost, xlst, xc2, xcore, yset, rg0, ↓reduceIte, Nat.reduceEqDiff, Nat.reduceLT, Nat.reduceLeDiff, Nat.reduceAdd, Nat.reduceMul, Nat.reduceMod, Nat.reduceSub, Nat.reduceBEq, Int.reduceLE, Int.reduceLT, Int.reduceEq, Int.reduceSub, Int.reduceAdd, Int.reduceToNat, Int.reduceNeg, e1] <;> (repeat' apply And.intro) <;> first | rfl | exact ⟨_, rfl⟩ | simp [lst, cat2_nil]

noncomputable def s_nePerm_l0_S (perm : List Int) (n_ : Int) (t9_ : Int) : Option ((Int) ⊕ (Unit ⊕ Unit)) :=
 if t9_ < (perm.length : Int) then
  ck (0 ≤ t9_ ∧ t9_.toNat < perm.length) <|
  if (inR (perm.getD t9_.toNat default) (0 : Int) (IntKind.i64.wrap (n_ - 1))) = true then
   ck (0 ≤ t9_) <|
   ck (t9_.toNat ≤ perm.length) <|
   ck (((perm.take t9_.toNat).drop 0).length < 1099511627776) <|
   if (((perm.take t9_.toNat).drop 0).contains (perm.getD t9_.toNat default)) = true then
    some (Sum.inr (Sum.inl ()))
   else
    some (Sum.inl (IntKind.i64.wrap (t9_ + 1)))
  else
   some (Sum.inr (Sum.inl ()))
 else
  some (Sum.inr (Sum.inr ()))
noncomputable def s_nePerm_l0 (perm : List Int) (n_ : Int) (v : Int) : Option (Unit ⊕ Unit) := itO (fun v => s_nePerm_l0_S perm n_ v) v
noncomputable def s_nePerm (perm : List Int) (n_ : Int) : Option (Bool) :=
 (s_nePerm_l0 perm n_ 0).bind fun r2_ =>
 match r2_ with
 | .inl q2_ =>
  some false
 | .inr q2_ =>
  some (decide ((perm.length : Int) = n_))
/-- spec.nePerm -/
def k42_l0b : SC :=
 .seq
 (.ops [
 ⟨(some 10), (.binOp .lss 3 (.tmp 9) (.tmp 8) 3), 0, none⟩])
 (.seq
 (.cond (.tmp 10)
 .skip
 (.exit 0))
 (.seq
 (.block 1
 (.seq
 (.ops [
 ⟨(some 11), (.move (.tmp 9)), 3, none⟩,
 ⟨(some 12), (.indexAddr 33 (.tmp 7) (.tmp 9)), 0, none⟩,
 ⟨(some 13), (.load 3 (.tmp 12)), 3, none⟩,
 ⟨(some 5), (.assign (.tmp 11)), 3, none⟩,
 ⟨(some 6), (.assign (.tmp 13)), 3, none⟩])
 (.seq
 (.ops [
 ⟨(some 14), (.move (.tmp 6)), 3, none⟩,
 ⟨(some 15), (.move (.tmp 1)), 3, none⟩,
 ⟨(some 16), (.binOp .sub 3 (.tmp 15) (.const (.int .i64 1)) 3), 3, none⟩,
 ⟨(some 17), (.call ⟨(.value (.func 66)), #[(.tmp 14), (.const (.int .i64 0)), (.tmp 16)], #[3, 3, 3]⟩), 4, none⟩,
 ⟨(some 18), (.unOp .not 4 (.tmp 17)), 4, none⟩,
 ⟨(some 19), (.move (.tmp 18)), 4, none⟩,
 ⟨(some 20), (.move (.tmp 0)), 33, (some (some 19, false))⟩,
 ⟨(some 21), (.move (.tmp 5)), 3, (some (some 19, false))⟩,
 ⟨(some 22), (.slice 33 (.tmp 20) none (some (.tmp 21)) none), 900001, (some (some 19, false))⟩,
 ⟨(some 23), (.move (.tmp 6)), 3, (some (some 19, false))⟩,
 ⟨(some 24), (.call ⟨(.value (.func 68)), #[(.tmp 22), (.tmp 23)], #[33, 3]⟩), 4, (some (some 19, false))⟩,
 ⟨(some 25), (.pick (.tmp 19) (.const (.bool true)) (.tmp 24)), 4, none⟩])
 (.cond (.tmp 25)
 (.seq
 (.ops [
 ⟨(some 4), (.assign (.const (.bool false))), 4, none⟩])
 .ret)
 .skip))))
 (.ops [
 ⟨(some 26), (.binOp .add 3 (.tmp 9) (.const (.int .i64 1)) 3), 3, none⟩,
 ⟨(some 9), (.move (.tmp 26)), 3, none⟩])))
def k42_l0 : SC := .loop k42_l0b
def k42 : SC :=
 .seq
 (.ops [
 ⟨(some 4), (.assign (.const (.bool false))), 4, none⟩])
 (.seq
 (.seq
 (.ops [
 ⟨(some 7), (.move (.tmp 0)), 33, none⟩,
 ⟨(some 8), (.call ⟨(.builtin .len), #[(.tmp 7)], #[33]⟩), 3, none⟩,
 ⟨(some 9), (.move (.const (.int .i64 0))), 3, none⟩])
 (.block 0
 k42_l0))
 (.seq
 (.ops [
 ⟨(some 27), (.move (.tmp 0)), 33, none⟩,
 ⟨(some 28), (.call ⟨(.builtin .len), #[(.tmp 27)], #[33]⟩), 3, none⟩,
 ⟨(some 29), (.move (.tmp 1)), 3, none⟩,
 ⟨(some 30), (.binOp .eql 3 (.tmp 28) (.tmp 29) 3), 4, none⟩,
 ⟨(some 4), (.assign (.tmp 30)), 4, none⟩])
 .ret))
theorem slim42 : Try.f42.body.map (slim lends) = some k42 := by kernel_rfl
theorem ok42 : fnOk Try.f42 2 = true := by kernel_rfl
theorem c42 {a l : List D} {r : D × List D} (h : wpD Y.env k42 (fin tys l.length [ResultVar.tmp 4] r) (entry a l)) (ha : a.length = 2) : Y.call 42 a l = some r :=
 call_slim (Y := Y) rfl Try.func42 (ha ▸ ok42) slim42 h
def s_nePerm_l0_M (perm : List Int) (n_ : Int) (t9_ : Int) (s : St) : Prop := s.v 0 = D.sl 3 (lst (D.int .i64) perm) ∧ s.v 1 = D.int .i64 n_ ∧ s.v 7 = D.sl 3 (lst (D.int .i64) perm) ∧ s.v 8 = D.int .i64 (perm.length : Int) ∧ s.v 9 = D.int .i64 t9_
def s_nePerm_l0_X (perm : List Int) (n_ : Int) (r : Unit ⊕ Unit) (ex : Ex) (s : St) : Prop := match r with
 | .inl q => ex = .ret ∧ s.v 4 = D.bool false
 | .inr q => ex = .exit 0 ∧ s.v 0 = D.sl 3 (lst (D.int .i64) perm) ∧ s.v 1 = D.int .i64 n_
theorem s_nePerm_l0_wp (perm : List Int) (n_ : Int) {v : Int} {s : St} {r : Unit ⊕ Unit} (h : s_nePerm_l0 perm n_ v = some r) (hM : s_nePerm_l0_M perm n_ v s) : wpD Y.env k42_l0 (s_nePerm_l0_X perm n_ r) s := by
 unfold s_nePerm_l0 at h
 refine wd_itO (c := k42_l0b) (fun v => s_nePerm_l0_S perm n_ v) (fun v s => s_nePerm_l0_M perm n_ v s) (s_nePerm_l0_X perm n_) ?_ h hM
 clear h hM s v r
 intro t9_ s o hM h
 unfold s_nePerm_l0_S at h
 unfold s_nePerm_l0_M at hM
 obtain ⟨m0, m1, m2, m3, m4⟩ := hM
 unfold k42_l0b
 by_cases e1 : t9_ < (perm.length : Int)
 ·rw [if_pos e1] at h
  obtain ⟨e2, h⟩ := ckS h
  have c3 := s_l1In_cl (perm.getD t9_.toNat default) (0 : Int) (IntKind.i64.wrap (n_ - 1))
  by_cases e4 : (inR (perm.getD t9_.toNat default) (0 : Int) (IntKind.i64.wrap (n_ - 1))) = true
  ·rw [if_pos e4] at h
   obtain ⟨e5, h⟩ := ckS h
   obtain ⟨e6, h⟩ := ckS h
   obtain ⟨e7, h⟩ := ckS h
   have c8 := s_l1Has_cl ((perm.take t9_.toNat).drop 0) (perm.getD t9_.toNat default) e7
   by_cases e9 : (((perm.take t9_.toNat).drop 0).contains (perm.getD t9_.toNat default)) = true
   ·rw [if_pos e9] at h
    obtain rfl := Option.some.inj h
    simp (maxDischargeDepth := 9) only [↓xpre, xpost, xlst, xc2, xcore, yset, rg0, ↓reduceIte, Nat.reduceEqDiff, Nat.reduceLT, Nat.reduceLeDiff, Nat.reduceAdd, Nat.reduceMul, Nat.reduceMod, Nat.reduceSub, Nat.reduceBEq, Int.reduceLE, Int.reduceLT, Int.reduceEq, Int.reduceSub, Int.reduceAdd, Int.reduceToNat, Int.reduceNeg, m0, m1, m2, m3, m4, e1, e2.1, e2.2, c3, e4, e5, e6, e7, c8, e9, s_nePerm_l0_M, s_nePerm_l0_X, sxN, sxE, sxR] <;> (repeat' apply And.intro) <;> first | rfl | exact ⟨_, rfl⟩ | simp [lst, cat2_nil]
   ·rw [if_neg e9] at h
    have e9f : (((perm.take t9_.toNat).drop 0).contains (perm.getD t9_.toNat default)) = false := Bool.eq_false_iff.mpr e9
    obtain rfl := Option.some.inj h
    simp (maxDischargeDepth := 9) only [↓xpre, xpost, xlst, xc2, xcore, yset, rg0, ↓reduceIte, Nat.reduceEqDiff, Nat.reduceLT, Nat.reduceLeDiff, Nat.reduceAdd, Nat.reduceMul, Nat.reduceMod, Nat.reduceSub, Nat.reduceBEq, Int.reduceLE, Int.reduceLT, Int.reduceEq, Int.reduceSub, Int.reduceAdd, Int.reduceToNat, Int.reduceNeg, m0, m1, m2, m3, m4, e1, e2.1, e2.2, c3, e4, e5, e6, e7, c8, e9f, s_nePerm_l0_M, s_nePerm_l0_X, sxN, sxE, sxR] <;> (repeat' apply And.intro) <;> first | rfl | exact ⟨_, rfl⟩ | simp [lst, cat2_nil]
  ·rw [if_neg e4] at h
   have e4f : (inR (perm.getD t9_.toNat default) (0 : Int) (IntKind.i64.wrap (n_ - 1))) = false := Bool.eq_false_iff.mpr e4
   obtain rfl := Option.some.inj h
   simp (maxDischargeDepth := 9) only [↓xpre, xpost, xlst, xc2, xcore, yset, rg0, ↓reduceIte, Nat.reduceEqDiff, Nat.reduceLT, Nat.reduceLeDiff, Nat.reduceAdd, Nat.reduceMul, Nat.reduceMod, Nat.reduceSub, Nat.reduceBEq, Int.reduceLE, Int.reduceLT, Int.reduceEq, Int.reduceSub, Int.reduceAdd, Int.reduceToNat, Int.reduceNeg, m0, m1, m2, m3, m4, e1, e2.1, e2.2, c3, e4f, s_nePerm_l0_M, s_nePerm_l0_X, sxN, sxE, sxR] <;> (repeat' apply And.intro) <;> first | rfl | exact ⟨_, rfl⟩ | simp [lst, cat2_nil]
 ·rw [if_neg e1] at h
  obtain rfl := Option.some.inj h
  simp (maxDischargeDepth := 9) only [↓xpre, xpost, xlst, xc2, xcore, yset, rg0, ↓reduceIte, Nat.reduceEqDiff, Nat.reduceLT, Nat.reduceLeDiff, Nat.reduceAdd, Nat.reduceMul, Nat.reduceMod, Nat.reduceSub, Nat.reduceBEq, Int.reduceLE, Int.reduceLT, Int.reduceEq, Int.reduceSub, Int.reduceAdd, Int.reduceToNat, Int.reduceNeg, m0, m1, m2, m3, m4, e1, s_nePerm_l0_M, s_nePerm_l0_X, sxN, sxE, sxR] <;> (repeat' apply And.intro) <;> first | rfl | exact ⟨_, rfl⟩ | simp [lst, cat2_nil]
theorem s_nePerm_call (perm : List Int) (n_ : Int) {r : Bool} (h : s_nePerm perm n_ = some r) : Y.call 42 [D.sl 3 (lst (D.int .i64) perm), D.int .i64 n_] [] = some (D.bool r, []) := by
 refine c42 ?_ rfl
 unfold k42
 unfold s_nePerm at h
 obtain ⟨r2_, hl2, h⟩ := bindS h
 try dsimp only at h
 simp (maxDischargeDepth := 9) only [↓xpre, xpost, xlst, xc2, xcore, yset, rg0, ↓reduceIte, Nat.reduceEqDiff, Nat.reduceLT, Nat.reduceLeDiff, Nat.reduceAdd, Nat.reduceMul, Nat.reduceMod, Nat.reduceSub, Nat.reduceBEq, Int.reduceLE, Int.reduceLT, Int.reduceEq, Int.reduceSub, Int.reduceAdd, Int.reduceToNat, Int.reduceNeg]
 refine wd_mono (s_nePerm_l0_wp perm n_ hl2 ?_) ?_
 ·simp (maxDischargeDepth := 9) only [↓xpre, xpost, xlst, xc2, xcore, yset, rg0, ↓reduceIte, Nat.reduceEqDiff, Nat.reduceLT, Nat.reduceLeDiff, Nat.reduceAdd, Nat.reduceMul, Nat.reduceMod, Nat.reduceSub, Nat.reduceBEq, Int.reduceLE, Int.reduceLT, Int.reduceEq, Int.reduceSub, Int.reduceAdd, Int.reduceToNat, Int.reduceNeg, s_nePerm_l0_M] <;> (repeat' apply And.intro) <;> first | rfl | exact ⟨_, rfl⟩ | simp [lst, cat2_nil]
 ·intro ex2 s2 hX2
  rcases r2_ with q2_ | q2_
  ·unfold s_nePerm_l0_X at hX2
   dsimp only at hX2 h
   obtain ⟨rfl, n2_0⟩ := hX2
   obtain rfl := Option.some.inj h
   simp (maxDischargeDepth := 9) only [↓xpre, xpost, xlst, xc2, xcore, yset, rg0, ↓reduceIte, Nat.reduceEqDiff, Nat.reduceLT, Nat.reduceLeDiff, Nat.reduceAdd, Nat.reduceMul, Nat.reduceMod, Nat.reduceSub, Nat.reduceBEq, Int.reduceLE, Int.reduceLT, Int.reduceEq, Int.reduceSub, Int.reduceAdd, Int.reduceToNat, Int.reduceNeg, n2_0] <;> (repeat' apply And.intro) <;> first | rfl | exact ⟨_, rfl⟩ | simp [lst, cat2_nil]
  ·unfold s_nePerm_l0_X at hX2
   dsimp only at hX2 h
   obtain ⟨rfl, n2_0, n2_1⟩ := hX2
   obtain rfl := Option.some.inj h
   simp (maxDischargeDepth := 9) only [↓xpre, xpost, xlst, xc2, xcore, yset, rg0, ↓reduceIte, Nat.reduceEqDiff, Nat.reduceLT, Nat.reduceLeDiff, Nat.reduceAdd, Nat.reduceMul, Nat.reduceMod, Nat.reduceSub, Nat.reduceBEq, Int.reduceLE, Int.reduceLT, Int.reduceEq, Int.reduceSub, Int.reduceAdd, Int.reduceToNat, Int.reduceNeg, n2_0, n2_1] <;> (repeat' apply And.intro) <;> first | rfl | exact ⟨_, rfl⟩ | simp [lst, cat2_nil]

noncomputable def i_RenameLabels (p_Labels : Int) (p_Degree : Int) (p_Nodes : List (List Int)) (p_Edges : List (List Int)) (perm : List Int) : Option (Int × Int × (List (List Int)) × (List (List Int)) × Bool) :=
 ck (Short p_Nodes) <|
 ck (Short p_Edges) <|
 if (isProb p_Labels p_Degree p_Nodes p_Edges) = true then
  (i_isPermutation perm p_Labels).bind fun r5_ =>
  if r5_ = true then
   (i_renamed p_Nodes perm).bind fun r7_ =>
   (i_renamed p_Edges perm).bind fun r8_ =>
   some (p_Labels, p_Degree, r7_, r8_, true)
  else
   some (0, 0, [], [], false)
 else
  some (0, 0, [], [], false)
/-- impl.RenameLabels -/
def k17 : SC :=
 .seq
 (.ops [
 ⟨(some 2), (.box 26 (.tmp 0)), 0, none⟩,
 ⟨(some 4), (.alloc 26), 0, none⟩,
 ⟨(some 5), (.assign (.const (.bool false))), 4, none⟩])
 (.seq
 (.seq
 (.ops [
 ⟨(some 6), (.load 26 (.tmp 2)), 26, none⟩,
 ⟨(some 7), (.call ⟨(.value (.func 44)), #[(.tmp 6)], #[26]⟩), 4, none⟩,
 ⟨(some 8), (.unOp .not 4 (.tmp 7)), 4, none⟩,
 ⟨(some 9), (.move (.tmp 8)), 4, none⟩,
 ⟨(some 10), (.move (.tmp 1)), 33, (some (some 9, false))⟩,
 ⟨(some 11), (.fieldAddr 26 (.tmp 2) 0), 0, (some (some 9, false))⟩,
 ⟨(some 12), (.load 3 (.tmp 11)), 3, (some (some 9, false))⟩,
 ⟨(some 13), (.call ⟨(.value (.func 45)), #[(.tmp 10), (.tmp 12)], #[33, 3]⟩), 4, (some (some 9, false))⟩,
 ⟨(some 14), (.unOp .not 4 (.tmp 13)), 4, (some (some 9, false))⟩,
 ⟨(some 15), (.pick (.tmp 9) (.const (.bool true)) (.tmp 14)), 4, none⟩])
 (.cond (.tmp 15)
 (.seq
 (.ops [
 ⟨(some 16), (.build 26 #[]), 26, none⟩,
 ⟨none, (.store 26 (.tmp 4) (.tmp 16)), 0, none⟩,
 ⟨(some 5), (.assign (.const (.bool false))), 4, none⟩])
 .ret)
 .skip))
 (.seq
 (.draws [
 (⟨[17, 2, 2], [17, 18, 19, 20, 21, 22, 23, 24, 25, 26, 27, 28, 29, 18, 20, 24, 28, 2, 2, 24, 28, 4, 29, 4, 29, 5], [17]⟩, ⟨(some 17), (.fieldAddr 26 (.tmp 2) 0), 0, none⟩),
 (⟨[18, 17, 2], [17, 18, 19, 20, 21, 22, 23, 24, 25, 26, 27, 28, 29, 18, 20, 24, 28, 2, 2, 24, 28, 4, 29, 4, 29, 5], [18]⟩, ⟨(some 18), (.load 3 (.tmp 17)), 3, none⟩),
 (⟨[19, 2, 2], [17, 18, 19, 20, 21, 22, 23, 24, 25, 26, 27, 28, 29, 18, 20, 24, 28, 2, 2, 24, 28, 4, 29, 4, 29, 5], [19]⟩, ⟨(some 19), (.fieldAddr 26 (.tmp 2) 1), 0, none⟩),
 (⟨[20, 19, 2], [17, 18, 19, 20, 21, 22, 23, 24, 25, 26, 27, 28, 29, 18, 20, 24, 28, 2, 2, 24, 28, 4, 29, 4, 29, 5], [20]⟩, ⟨(some 20), (.load 3 (.tmp 19)), 3, none⟩),
 (⟨[21, 2, 2], [17, 18, 19, 20, 21, 22, 23, 24, 25, 26, 27, 28, 29, 18, 20, 24, 28, 2, 2, 24, 28, 4, 29, 4, 29, 5], [21]⟩, ⟨(some 21), (.fieldAddr 26 (.tmp 2) 2), 0, none⟩),
 (⟨[22, 21, 2], [17, 18, 19, 20, 21, 22, 23, 24, 25, 26, 27, 28, 29, 18, 20, 24, 28, 2, 2, 24, 28, 4, 29, 4, 29, 5], [22]⟩, ⟨(some 22), (.load 22 (.tmp 21)), 22, none⟩),
 (⟨[23, 1, 1], [17, 18, 19, 20, 21, 22, 23, 24, 25, 26, 27, 28, 29, 18, 20, 24, 28, 2, 2, 24, 28, 4, 29, 4, 29, 5], [23]⟩, ⟨(some 23), (.move (.tmp 1)), 33, none⟩),
 (⟨[24, 22, 23, 2, 1], [17, 18, 19, 20, 21, 22, 23, 24, 25, 26, 27, 28, 29, 18, 20, 24, 28, 2, 2, 24, 28, 4, 29, 4, 29, 5], [24]⟩, ⟨(some 24), (.call ⟨(.value (.func 46)), #[(.tmp 22), (.tmp 23)], #[22, 33]⟩), 22, none⟩),
 (⟨[25, 2, 2], [17, 18, 19, 20, 21, 22, 23, 24, 25, 26, 27, 28, 29, 18, 20, 24, 28, 2, 2, 24, 28, 4, 29, 4, 29, 5], [25]⟩, ⟨(some 25), (.fieldAddr 26 (.tmp 2) 3), 0, none⟩),
 (⟨[26, 25, 2], [17, 18, 19, 20, 21, 22, 23, 24, 25, 26, 27, 28, 29, 18, 20, 24, 28, 2, 2, 24, 28, 4, 29, 4, 29, 5], [26]⟩, ⟨(some 26), (.load 22 (.tmp 25)), 22, none⟩),
 (⟨[27, 1, 1], [17, 18, 19, 20, 21, 22, 23, 24, 25, 26, 27, 28, 29, 18, 20, 24, 28, 2, 2, 24, 28, 4, 29, 4, 29, 5], [27]⟩, ⟨(some 27), (.move (.tmp 1)), 33, none⟩),
 (⟨[28, 26, 27, 2, 1], [17, 18, 19, 20, 21, 22, 23, 24, 25, 26, 27, 28, 29, 18, 20, 24, 28, 2, 2, 24, 28, 4, 29, 4, 29, 5], [28]⟩, ⟨(some 28), (.call ⟨(.value (.func 46)), #[(.tmp 26), (.tmp 27)], #[22, 33]⟩), 22, none⟩),
 (⟨[29, 18, 20, 24, 28, 2, 2, 24, 28], [17, 18, 19, 20, 21, 22, 23, 24, 25, 26, 27, 28, 29, 18, 20, 24, 28, 2, 2, 24, 28, 4, 29, 4, 29, 5], [29, 18, 20, 24, 28, 2, 2, 24, 28]⟩, ⟨(some 29), (.build 26 #[(0, (.tmp 18)), (1, (.tmp 20)), (2, (.tmp 24)), (3, (.tmp 28))]), 26, none⟩),
 (⟨[4, 29, 4, 29], [17, 18, 19, 20, 21, 22, 23, 24, 25, 26, 27, 28, 29, 18, 20, 24, 28, 2, 2, 24, 28, 4, 29, 4, 29, 5], [4, 29, 4, 29]⟩, ⟨none, (.store 26 (.tmp 4) (.tmp 29)), 0, none⟩),
 (⟨[5], [17, 18, 19, 20, 21, 22, 23, 24, 25, 26, 27, 28, 29, 18, 20, 24, 28, 2, 2, 24, 28, 4, 29, 4, 29, 5], [5]⟩, ⟨(some 5), (.assign (.const (.bool true))), 4, none⟩)])
 .ret))
theorem slim17 : Try.f17.body.map (slim lends) = some k17 := by kernel_rfl
theorem ok17 : fnOk Try.f17 2 = true := by kernel_rfl
theorem c17 {a l : List D} {r : D × List D} (h : wpD Y.env k17 (fin tys l.length [ResultVar.cell 4 26, ResultVar.tmp 5] r) (entry a l)) (ha : a.length = 2) : Y.call 17 a l = some r :=
 call_slim (Y := Y) rfl Try.func17 (ha ▸ ok17) slim17 h
theorem i_RenameLabels_call (p_Labels : Int) (p_Degree : Int) (p_Nodes : List (List Int)) (p_Edges : List (List Int)) (perm : List Int) {r : Int × Int × (List (List Int)) × (List (List Int)) × Bool} (h : i_RenameLabels p_Labels p_Degree p_Nodes p_Edges perm = some r) : Y.call 17 [D.agg [D.int .i64 p_Labels, D.int .i64 p_Degree, D.sl 33 (lst (fun x => D.sl 3 (lst (D.int .i64) x)) p_Nodes), D.sl 33 (lst (fun x => D.sl 3 (lst (D.int .i64) x)) p_Edges)], D.sl 3 (lst (D.int .i64) perm)] [] = some (D.tup [D.agg [D.int .i64 r.1, D.int .i64 r.2.1, D.own 33 (lst (fun x => D.own 3 (lst (D.int .i64) x)) r.2.2.1), D.own 33 (lst (fun x => D.own 3 (lst (D.int .i64) x)) r.2.2.2.1)], D.bool r.2.2.2.2], []) := by
 refine c17 ?_ rfl
 unfold k17
 unfold i_RenameLabels at h
 obtain ⟨e1, h⟩ := ckS h
 obtain ⟨e2, h⟩ := ckS h
 have c3 := i_IsProblem_cl p_Labels p_Degree p_Nodes p_Edges e1 e2
 by_cases e4 : (isProb p_Labels p_Degree p_Nodes p_Edges) = true
 ·rw [if_pos e4] at h
  obtain ⟨r5_, hl5, h⟩ := bindS h
  try dsimp only at h
  have c5 := i_isPermutation_call perm p_Labels hl5
  by_cases e6 : r5_ = true
  ·rw [if_pos e6] at h
   obtain ⟨r7_, hl7, h⟩ := bindS h
   try dsimp only at h
   have c7 := i_renamed_call p_Nodes perm hl7
   obtain ⟨r8_, hl8, h⟩ := bindS h
   try dsimp only at h
   have c8 := i_renamed_call p_Edges perm hl8
   obtain rfl := Option.some.inj h
   simp (maxDischargeDepth := 9) only [↓xpre, xpost, xlst, xc2, xcore, yset, rg0, ↓reduceIte, Nat.reduceEqDiff, Nat.reduceLT, Nat.reduceLeDiff, Nat.reduceAdd, Nat.reduceMul, Nat.reduceMod, Nat.reduceSub, Nat.reduceBEq, Int.reduceLE, Int.reduceLT, Int.reduceEq, Int.reduceSub, Int.reduceAdd, Int.reduceToNat, Int.reduceNeg, e1, e2, c3, e4, c5, e6, c7, c8] <;> (repeat' apply And.intro) <;> first | rfl | exact ⟨_, rfl⟩ | simp [lst, cat2_nil]
  ·rw [if_neg e6] at h
   have e6f : r5_ = false := Bool.eq_false_iff.mpr e6
   obtain rfl := Option.some.inj h
   simp (maxDischargeDepth := 9) only [↓xpre, xpost, xlst, xc2, xcore, yset, rg0, ↓reduceIte, Nat.reduceEqDiff, Nat.reduceLT, Nat.reduceLeDiff, Nat.reduceAdd, Nat.reduceMul, Nat.reduceMod, Nat.reduceSub, Nat.reduceBEq, Int.reduceLE, Int.reduceLT, Int.reduceEq, Int.reduceSub, Int.reduceAdd, Int.reduceToNat, Int.reduceNeg, e1, e2, c3, e4, c5, e6f] <;> (repeat' apply And.intro) <;> first | rfl | exact ⟨_, rfl⟩ | simp [lst, cat2_nil]
 ·rw [if_neg e4] at h
  have e4f : (isProb p_Labels p_Degree p_Nodes p_Edges) = false := Bool.eq_false_iff.mpr e4
  obtain rfl := Option.some.inj h
  simp (maxDischargeDepth := 9) only [↓xpre, xpost, xlst, xc2, xcore, yset, rg0, ↓reduceIte, Nat.reduceEqDiff, Nat.reduceLT, Nat.reduceLeDiff, Nat.reduceAdd, Nat.reduceMul, Nat.reduceMod, Nat.reduceSub, Nat.reduceBEq, Int.reduceLE, Int.reduceLT, Int.reduceEq, Int.reduceSub, Int.reduceAdd, Int.reduceToNat, Int.reduceNeg, e1, e2, c3, e4f] <;> (repeat' apply And.intro) <;> first | rfl | exact ⟨_, rfl⟩ | simp [lst, cat2_nil]

noncomputable def s_prRename (p_Labels : Int) (p_Degree : Int) (p_Nodes : List (List Int)) (p_Edges : List (List Int)) (perm : List Int) : Option (Int × Int × (List (List Int)) × (List (List Int))) :=
 (s_prMap p_Nodes perm).bind fun r1_ =>
 (s_prMap p_Edges perm).bind fun r2_ =>
 some (p_Labels, p_Degree, r1_, r2_)
/-- spec.prRename -/
def k43 : SC :=
 .seq
 (.ops [
 ⟨(some 2), (.box 26 (.tmp 0)), 0, none⟩,
 ⟨(some 4), (.alloc 26), 0, none⟩])
 (.seq
 (.draws [
 (⟨[5, 2, 2], [5, 6, 7, 8, 9, 10, 11, 12, 13, 14, 15, 16, 17, 6, 8, 12, 16, 2, 2, 12, 16, 4, 17, 4, 17], [5]⟩, ⟨(some 5), (.fieldAddr 26 (.tmp 2) 0), 0, none⟩),
 (⟨[6, 5, 2], [5, 6, 7, 8, 9, 10, 11, 12, 13, 14, 15, 16, 17, 6, 8, 12, 16, 2, 2, 12, 16, 4, 17, 4, 17], [6]⟩, ⟨(some 6), (.load 3 (.tmp 5)), 3, none⟩),
 (⟨[7, 2, 2], [5, 6, 7, 8, 9, 10, 11, 12, 13, 14, 15, 16, 17, 6, 8, 12, 16, 2, 2, 12, 16, 4, 17, 4, 17], [7]⟩, ⟨(some 7), (.fieldAddr 26 (.tmp 2) 1), 0, none⟩),
 (⟨[8, 7, 2], [5, 6, 7, 8, 9, 10, 11, 12, 13, 14, 15, 16, 17, 6, 8, 12, 16, 2, 2, 12, 16, 4, 17, 4, 17], [8]⟩, ⟨(some 8), (.load 3 (.tmp 7)), 3, none⟩),
 (⟨[9, 2, 2], [5, 6, 7, 8, 9, 10, 11, 12, 13, 14, 15, 16, 17, 6, 8, 12, 16, 2, 2, 12, 16, 4, 17, 4, 17], [9]⟩, ⟨(some 9), (.fieldAddr 26 (.tmp 2) 2), 0, none⟩),
 (⟨[10, 9, 2], [5, 6, 7, 8, 9, 10, 11, 12, 13, 14, 15, 16, 17, 6, 8, 12, 16, 2, 2, 12, 16, 4, 17, 4, 17], [10]⟩, ⟨(some 10), (.load 22 (.tmp 9)), 22, none⟩),
 (⟨[11, 1, 1], [5, 6, 7, 8, 9, 10, 11, 12, 13, 14, 15, 16, 17, 6, 8, 12, 16, 2, 2, 12, 16, 4, 17, 4, 17], [11]⟩, ⟨(some 11), (.move (.tmp 1)), 33, none⟩),
 (⟨[12, 10, 11, 2, 1], [5, 6, 7, 8, 9, 10, 11, 12, 13, 14, 15, 16, 17, 6, 8, 12, 16, 2, 2, 12, 16, 4, 17, 4, 17], [12]⟩, ⟨(some 12), (.call ⟨(.value (.func 69)), #[(.tmp 10), (.tmp 11)], #[22, 33]⟩), 22, none⟩),
 (⟨[13, 2, 2], [5, 6, 7, 8, 9, 10, 11, 12, 13, 14, 15, 16, 17, 6, 8, 12, 16, 2, 2, 12, 16, 4, 17, 4, 17], [13]⟩, ⟨(some 13), (.fieldAddr 26 (.tmp 2) 3), 0, none⟩),
 (⟨[14, 13, 2], [5, 6, 7, 8, 9, 10, 11, 12, 13, 14, 15, 16, 17, 6, 8, 12, 16, 2, 2, 12, 16, 4, 17, 4, 17], [14]⟩, ⟨(some 14), (.load 22 (.tmp 13)), 22, none⟩),
 (⟨[15, 1, 1], [5, 6, 7, 8, 9, 10, 11, 12, 13, 14, 15, 16, 17, 6, 8, 12, 16, 2, 2, 12, 16, 4, 17, 4, 17], [15]⟩, ⟨(some 15), (.move (.tmp 1)), 33, none⟩),
 (⟨[16, 14, 15, 2, 1], [5, 6, 7, 8, 9, 10, 11, 12, 13, 14, 15, 16, 17, 6, 8, 12, 16, 2, 2, 12, 16, 4, 17, 4, 17], [16]⟩, ⟨(some 16), (.call ⟨(.value (.func 69)), #[(.tmp 14), (.tmp 15)], #[22, 33]⟩), 22, none⟩),
 (⟨[17, 6, 8, 12, 16, 2, 2, 12, 16], [5, 6, 7, 8, 9, 10, 11, 12, 13, 14, 15, 16, 17, 6, 8, 12, 16, 2, 2, 12, 16, 4, 17, 4, 17], [17, 6, 8, 12, 16, 2, 2, 12, 16]⟩, ⟨(some 17), (.build 26 #[(0, (.tmp 6)), (1, (.tmp 8)), (2, (.tmp 12)), (3, (.tmp 16))]), 26, none⟩),
 (⟨[4, 17, 4, 17], [5, 6, 7, 8, 9, 10, 11, 12, 13, 14, 15, 16, 17, 6, 8, 12, 16, 2, 2, 12, 16, 4, 17, 4, 17], [4, 17, 4, 17]⟩, ⟨none, (.store 26 (.tmp 4) (.tmp 17)), 0, none⟩)])
 .ret)
theorem slim43 : Try.f43.body.map (slim lends) = some k43 := by kernel_rfl
theorem ok43 : fnOk Try.f43 2 = true := by kernel_rfl
theorem c43 {a l : List D} {r : D × List D} (h : wpD Y.env k43 (fin tys l.length [ResultVar.cell 4 26] r) (entry a l)) (ha : a.length = 2) : Y.call 43 a l = some r :=
 call_slim (Y := Y) rfl Try.func43 (ha ▸ ok43) slim43 h
theorem s_prRename_call (p_Labels : Int) (p_Degree : Int) (p_Nodes : List (List Int)) (p_Edges : List (List Int)) (perm : List Int) {r : Int × Int × (List (List Int)) × (List (List Int))} (h : s_prRename p_Labels p_Degree p_Nodes p_Edges perm = some r) : Y.call 43 [D.agg [D.int .i64 p_Labels, D.int .i64 p_Degree, D.sl 33 (lst (fun x => D.sl 3 (lst (D.int .i64) x)) p_Nodes), D.sl 33 (lst (fun x => D.sl 3 (lst (D.int .i64) x)) p_Edges)], D.sl 3 (lst (D.int .i64) perm)] [] = some (D.agg [D.int .i64 r.1, D.int .i64 r.2.1, D.sl 33 (lst (fun x => D.sl 3 (lst (D.int .i64) x)) r.2.2.1), D.sl 33 (lst (fun x => D.sl 3 (lst (D.int .i64) x)) r.2.2.2)], []) := by
 refine c43 ?_ rfl
 unfold k43
 unfold s_prRename at h
 obtain ⟨r1_, hl1, h⟩ := bindS h
 try dsimp only at h
 have c1 := s_prMap_call p_Nodes perm hl1
 obtain ⟨r2_, hl2, h⟩ := bindS h
 try dsimp only at h
 have c2 := s_prMap_call p_Edges perm hl2
 obtain rfl := Option.some.inj h
 simp (maxDischargeDepth := 9) only [↓xpre, xpost, xlst, xc2, xcore, yset, rg0, ↓reduceIte, Nat.reduceEqDiff, Nat.reduceLT, Nat.reduceLeDiff, Nat.reduceAdd, Nat.reduceMul, Nat.reduceMod, Nat.reduceSub, Nat.reduceBEq, Int.reduceLE, Int.reduceLT, Int.reduceEq, Int.reduceSub, Int.reduceAdd, Int.reduceToNat, Int.reduceNeg, c1, c2] <;> (repeat' apply And.intro) <;> first | rfl | exact ⟨_, rfl⟩ | simp [lst, cat2_nil]

noncomputable def s_RenameLabels (p_Labels : Int) (p_Degree : Int) (p_Nodes : List (List Int)) (p_Edges : List (List Int)) (perm : List Int) : Option ((Int × Int × (List (List Int)) × (List (List Int)) × Bool) ⊕ (Int × Int × (List (List Int)) × (List (List Int)) × Bool)) :=
 ck (Short p_Nodes) <|
 ck (Short p_Edges) <|
 if (isProb p_Labels p_Degree p_Nodes p_Edges) = true then
  (s_nePerm perm p_Labels).bind fun r5_ =>
  if r5_ = true then
   (s_prRename p_Labels p_Degree p_Nodes p_Edges perm).bind fun r7_ =>
   some (Sum.inl (r7_.1, r7_.2.1, r7_.2.2.1, r7_.2.2.2, true))
  else
   some (Sum.inr (0, 0, [], [], false))
 else
  some (Sum.inr (0, 0, [], [], false))
/-- spec.RenameLabels -/
def k15 : SC :=
 .seq
 (.ops [
 ⟨(some 2), (.box 26 (.tmp 0)), 0, none⟩,
 ⟨(some 4), (.alloc 26), 0, none⟩,
 ⟨(some 5), (.assign (.const (.bool false))), 4, none⟩])
 (.seq
 (.seq
 (.ops [
 ⟨(some 6), (.load 26 (.tmp 2)), 26, none⟩,
 ⟨(some 7), (.call ⟨(.value (.func 41)), #[(.tmp 6)], #[26]⟩), 4, none⟩,
 ⟨(some 8), (.unOp .not 4 (.tmp 7)), 4, none⟩,
 ⟨(some 9), (.move (.tmp 8)), 4, none⟩,
 ⟨(some 10), (.move (.tmp 1)), 33, (some (some 9, false))⟩,
 ⟨(some 11), (.fieldAddr 26 (.tmp 2) 0), 0, (some (some 9, false))⟩,
 ⟨(some 12), (.load 3 (.tmp 11)), 3, (some (some 9, false))⟩,
 ⟨(some 13), (.call ⟨(.value (.func 42)), #[(.tmp 10), (.tmp 12)], #[33, 3]⟩), 4, (some (some 9, false))⟩,
 ⟨(some 14), (.unOp .not 4 (.tmp 13)), 4, (some (some 9, false))⟩,
 ⟨(some 15), (.pick (.tmp 9) (.const (.bool true)) (.tmp 14)), 4, none⟩])
 (.cond (.tmp 15)
 (.seq
 (.ops [
 ⟨(some 16), (.build 26 #[]), 26, none⟩,
 ⟨none, (.store 26 (.tmp 4) (.tmp 16)), 0, none⟩,
 ⟨(some 5), (.assign (.const (.bool false))), 4, none⟩])
 .ret)
 .skip))
 (.seq
 (.ops [
 ⟨(some 17), (.load 26 (.tmp 2)), 26, none⟩,
 ⟨(some 18), (.move (.tmp 1)), 33, none⟩,
 ⟨(some 19), (.call ⟨(.value (.func 43)), #[(.tmp 17), (.tmp 18)], #[26, 33]⟩), 26, none⟩,
 ⟨none, (.store 26 (.tmp 4) (.tmp 19)), 0, none⟩,
 ⟨(some 5), (.assign (.const (.bool true))), 4, none⟩])
 .ret))
theorem slim15 : Try.f15.body.map (slim lends) = some k15 := by kernel_rfl
theorem ok15 : fnOk Try.f15 2 = true := by kernel_rfl
theorem c15 {a l : List D} {r : D × List D} (h : wpD Y.env k15 (fin tys l.length [ResultVar.cell 4 26, ResultVar.tmp 5] r) (entry a l)) (ha : a.length = 2) : Y.call 15 a l = some r :=
 call_slim (Y := Y) rfl Try.func15 (ha ▸ ok15) slim15 h
theorem s_RenameLabels_call (p_Labels : Int) (p_Degree : Int) (p_Nodes : List (List Int)) (p_Edges : List (List Int)) (perm : List Int) {r : (Int × Int × (List (List Int)) × (List (List Int)) × Bool) ⊕ (Int × Int × (List (List Int)) × (List (List Int)) × Bool)} (h : s_RenameLabels p_Labels p_Degree p_Nodes p_Edges perm = some r) : Y.call 15 [D.agg [D.int .i64 p_Labels, D.int .i64 p_Degree, D.sl 33 (lst (fun x => D.sl 3 (lst (D.int .i64) x)) p_Nodes), D.sl 33 (lst (fun x => D.sl 3 (lst (D.int .i64) x)) p_Edges)], D.sl 3 (lst (D.int .i64) perm)] [] = some (match r with | .inl q => (D.tup [D.agg [D.int .i64 q.1, D.int .i64 q.2.1, D.sl 33 (lst (fun x => D.sl 3 (lst (D.int .i64) x)) q.2.2.1), D.sl 33 (lst (fun x => D.sl 3 (lst (D.int .i64) x)) q.2.2.2.1)], D.bool q.2.2.2.2], []) | .inr q => (D.tup [D.agg [D.int .i64 q.1, D.int .i64 q.2.1, D.own 33 (lst (fun x => D.own 3 (lst (D.int .i64) x)) q.2.2.1), D.own 33 (lst (fun x => D.own 3 (lst (D.int .i64) x)) q.2.2.2.1)], D.bool q.2.2.2.2], [])) := by
 refine c15 ?_ rfl
 unfold k15
 unfold s_RenameLabels at h
 obtain ⟨e1, h⟩ := ckS h
 obtain ⟨e2, h⟩ := ckS h
 have c3 := s_prGood_cl p_Labels p_Degree p_Nodes p_Edges e1 e2
 by_cases e4 : (isProb p_Labels p_Degree p_Nodes p_Edges) = true
 ·rw [if_pos e4] at h
  obtain ⟨r5_, hl5, h⟩ := bindS h
  try dsimp only at h
  have c5 := s_nePerm_call perm p_Labels hl5
  by_cases e6 : r5_ = true
  ·rw [if_pos e6] at h
   obtain ⟨r7_, hl7, h⟩ := bindS h
   try dsimp only at h
   have c7 := s_prRename_call p_Labels p_Degree p_Nodes p_Edges perm hl7
   obtain rfl := Option.some.inj h
   simp (maxDischargeDepth := 9) only [↓xpre, xpost, xlst, xc2, xcore, yset, rg0, ↓reduceIte, Nat.reduceEqDiff, Nat.reduceLT, Nat.reduceLeDiff, Nat.reduceAdd, Nat.reduceMul, Nat.reduceMod, Nat.reduceSub, Nat.reduceBEq, Int.reduceLE, Int.reduceLT, Int.reduceEq, Int.reduceSub, Int.reduceAdd, Int.reduceToNat, Int.reduceNeg, e1, e2, c3, e4, c5, e6, c7] <;> (repeat' apply And.intro) <;> first | rfl | exact ⟨_, rfl⟩ | simp [lst, cat2_nil]
  ·rw [if_neg e6] at h
   have e6f : r5_ = false := Bool.eq_false_iff.mpr e6
   obtain rfl := Option.some.inj h
   simp (maxDischargeDepth := 9) only [↓xpre, xpost, xlst, xc2, xcore, yset, rg0, ↓reduceIte, Nat.reduceEqDiff, Nat.reduceLT, Nat.reduceLeDiff, Nat.reduceAdd, Nat.reduceMul, Nat.reduceMod, Nat.reduceSub, Nat.reduceBEq, Int.reduceLE, Int.reduceLT, Int.reduceEq, Int.reduceSub, Int.reduceAdd, Int.reduceToNat, Int.reduceNeg, e1, e2, c3, e4, c5, e6f] <;> (repeat' apply And.intro) <;> first | rfl | exact ⟨_, rfl⟩ | simp [lst, cat2_nil]
 ·rw [if_neg e4] at h
  have e4f : (isProb p_Labels p_Degree p_Nodes p_Edges) = false := Bool.eq_false_iff.mpr e4
  obtain rfl := Option.some.inj h
  simp (maxDischargeDepth := 9) only [↓xpre, xpost, xlst, xc2, xcore, yset, rg0, ↓reduceIte, Nat.reduceEqDiff, Nat.reduceLT, Nat.reduceLeDiff, Nat.reduceAdd, Nat.reduceMul, Nat.reduceMod, Nat.reduceSub, Nat.reduceBEq, Int.reduceLE, Int.reduceLT, Int.reduceEq, Int.reduceSub, Int.reduceAdd, Int.reduceToNat, Int.reduceNeg, e1, e2, c3, e4f] <;> (repeat' apply And.intro) <;> first | rfl | exact ⟨_, rfl⟩ | simp [lst, cat2_nil]


end Go.Proofs.Ytdjfaadpmbkcmaa
