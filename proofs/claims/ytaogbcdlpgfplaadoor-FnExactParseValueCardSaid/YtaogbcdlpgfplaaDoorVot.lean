/- Value programs copied, compared, measured, as plain functions. Conditions: the lists are short. -/
import Derived.Test.YtaogbcdlpgfplaaDoorL6
import Derived.Test.YtaogbcdlpgfplaaDoorTxV
namespace Go.Proofs.YtaogbcdlpgfplaaDoor
open Go Dv
set_option linter.unusedSimpArgs false
set_option linter.unusedVariables false
set_option maxRecDepth 100000
set_option maxHeartbeats 4000000

/-- laws.toValueOpS -/
def k9_l0b : SC :=
 .seq
 (.seq
 (.ops [
 ⟨(some 8), (.move (.tmp 4)), 3, none⟩,
 ⟨(some 9), (.move (.tmp 0)), 22, none⟩,
 ⟨(some 10), (.call ⟨(.builtin .len), #[(.tmp 9)], #[22]⟩), 3, none⟩,
 ⟨(some 11), (.binOp .lss 3 (.tmp 8) (.tmp 10) 3), 4, none⟩])
 (.cond (.tmp 11)
 .skip
 (.exit 0)))
 (.seq
 (.block 1
 (.ops [
 ⟨(some 14), (.move (.tmp 3)), 26, none⟩,
 ⟨(some 15), (.move (.tmp 4)), 3, none⟩,
 ⟨(some 16), (.move (.tmp 0)), 22, none⟩,
 ⟨(some 17), (.move (.tmp 4)), 3, none⟩,
 ⟨(some 18), (.indexAddr 22 (.tmp 16) (.tmp 17)), 0, none⟩,
 ⟨(some 19), (.load 51 (.tmp 18)), 51, none⟩,
 ⟨(some 20), (.call ⟨(.value (.func 27)), #[(.tmp 19)], #[51]⟩), 49, none⟩,
 ⟨(some 21), (.indexAddr 26 (.tmp 14) (.tmp 15)), 0, none⟩,
 ⟨none, (.store 49 (.tmp 21) (.tmp 20)), 0, none⟩]))
 (.ops [
 ⟨(some 12), (.move (.tmp 4)), 3, none⟩,
 ⟨(some 13), (.binOp .add 3 (.tmp 12) (.const (.int .i64 1)) 3), 3, none⟩,
 ⟨(some 4), (.assign (.tmp 13)), 3, none⟩]))
def k9_l0 : SC := .loop k9_l0b
def k9 : SC :=
 .seq
 (.ops [
 ⟨(some 2), (.assign (.const (.slice none 0 0))), 26, none⟩])
 (.seq
 (.ops [
 ⟨(some 5), (.move (.tmp 0)), 22, none⟩,
 ⟨(some 6), (.call ⟨(.builtin .len), #[(.tmp 5)], #[22]⟩), 3, none⟩,
 ⟨(some 7), (.makeSlice 26 (.tmp 6) (.tmp 6)), 26, none⟩,
 ⟨(some 3), (.assign (.tmp 7)), 26, none⟩])
 (.seq
 (.seq
 (.ops [
 ⟨(some 4), (.assign (.const (.int .i64 0))), 3, none⟩])
 (.block 0
 k9_l0))
 (.seq
 (.ops [
 ⟨(some 22), (.move (.tmp 3)), 26, none⟩,
 ⟨(some 2), (.assign (.tmp 22)), 26, none⟩])
 .ret)))
theorem slim9 : Tryd.f9.body.map (slim lends) = some k9 := by kernel_rfl
theorem ok9 : fnOk Tryd.f9 1 = true := by kernel_rfl
theorem c9 {a l : List D} {r : D × List D} (h : wpD Y.env k9 (fin tys l.length [ResultVar.tmp 2] r) (entry a l)) (ha : a.length = 1) : Y.call 9 a l = some r :=
 call_slim (Y := Y) rfl Tryd.func9 (ha ▸ ok9) slim9 h
noncomputable def l_eqValueOp (a_Kind : Int) (a_Value : Int) (b_Kind : Int) (b_Value : Int) : Option (Bool) :=
 if a_Kind = b_Kind then
  if a_Value = b_Value then
   some true
  else
   some false
 else
  some false
/-- laws.eqValueOp -/
def k32 : SC :=
 .seq
 (.ops [
 ⟨(some 2), (.box 49 (.tmp 0)), 0, none⟩,
 ⟨(some 3), (.box 49 (.tmp 1)), 0, none⟩,
 ⟨(some 4), (.assign (.const (.bool false))), 4, none⟩])
 (.seq
 (.seq
 (.ops [
 ⟨(some 5), (.fieldAddr 49 (.tmp 2) 0), 0, none⟩,
 ⟨(some 6), (.load 3 (.tmp 5)), 3, none⟩,
 ⟨(some 7), (.fieldAddr 49 (.tmp 3) 0), 0, none⟩,
 ⟨(some 8), (.load 3 (.tmp 7)), 3, none⟩,
 ⟨(some 9), (.binOp .neq 3 (.tmp 6) (.tmp 8) 3), 4, none⟩])
 (.cond (.tmp 9)
 (.seq
 (.ops [
 ⟨(some 4), (.assign (.const (.bool false))), 4, none⟩])
 .ret)
 .skip))
 (.seq
 (.seq
 (.ops [
 ⟨(some 10), (.fieldAddr 49 (.tmp 2) 1), 0, none⟩,
 ⟨(some 11), (.load 3 (.tmp 10)), 3, none⟩,
 ⟨(some 12), (.fieldAddr 49 (.tmp 3) 1), 0, none⟩,
 ⟨(some 13), (.load 3 (.tmp 12)), 3, none⟩,
 ⟨(some 14), (.binOp .neq 3 (.tmp 11) (.tmp 13) 3), 4, none⟩])
 (.cond (.tmp 14)
 (.seq
 (.ops [
 ⟨(some 4), (.assign (.const (.bool false))), 4, none⟩])
 .ret)
 .skip))
 (.seq
 (.ops [
 ⟨(some 4), (.assign (.const (.bool true))), 4, none⟩])
 .ret)))
theorem slim32 : Tryd.f32.body.map (slim lends) = some k32 := by kernel_rfl
theorem ok32 : fnOk Tryd.f32 2 = true := by kernel_rfl
theorem c32 {a l : List D} {r : D × List D} (h : wpD Y.env k32 (fin tys l.length [ResultVar.tmp 4] r) (entry a l)) (ha : a.length = 2) : Y.call 32 a l = some r :=
 call_slim (Y := Y) rfl Tryd.func32 (ha ▸ ok32) slim32 h
theorem l_eqValueOp_call (a_Kind : Int) (a_Value : Int) (b_Kind : Int) (b_Value : Int) {r : Bool} (h : l_eqValueOp a_Kind a_Value b_Kind b_Value = some r) : Y.call 32 [D.agg [D.int .i64 a_Kind, D.int .i64 a_Value], D.agg [D.int .i64 b_Kind, D.int .i64 b_Value]] [] = some (D.bool r, []) := by
 refine c32 ?_ rfl
 unfold k32
 unfold l_eqValueOp at h
 by_cases e1 : a_Kind = b_Kind
 ·rw [if_pos e1] at h
  by_cases e2 : a_Value = b_Value
  ·rw [if_pos e2] at h
   obtain rfl := Option.some.inj h
   simp (maxDischargeDepth := 9) only [↓xpre, xpost, xlst, xc2, xcore, yset, rg0, ↓reduceIte, Nat.reduceEqDiff, Nat.reduceLT, Nat.reduceLeDiff, Nat.reduceAdd, Nat.reduceMul, Nat.reduceMod, Nat.reduceDiv, Nat.reducePow, Nat.reduceSub, Nat.reduceBEq, Int.reduceLE, Int.reduceLT, Int.reduceEq, Int.reduceSub, Int.reduceAdd, Int.reduceToNat, Int.reduceNeg, decide_eq_true e1, decide_eq_true e2] <;> (repeat' apply And.intro) <;> first | rfl | exact ⟨_, rfl⟩ | exact ⟨_, _, rfl⟩ | simp [lst, cat2_nil]
  ·rw [if_neg e2] at h
   obtain rfl := Option.some.inj h
   simp (maxDischargeDepth := 9) only [↓xpre, xpost, xlst, xc2, xcore, yset, rg0, ↓reduceIte, Nat.reduceEqDiff, Nat.reduceLT, Nat.reduceLeDiff, Nat.reduceAdd, Nat.reduceMul, Nat.reduceMod, Nat.reduceDiv, Nat.reducePow, Nat.reduceSub, Nat.reduceBEq, Int.reduceLE, Int.reduceLT, Int.reduceEq, Int.reduceSub, Int.reduceAdd, Int.reduceToNat, Int.reduceNeg, decide_eq_true e1, e2] <;> (repeat' apply And.intro) <;> first | rfl | exact ⟨_, rfl⟩ | exact ⟨_, _, rfl⟩ | simp [lst, cat2_nil]
 ·rw [if_neg e1] at h
  obtain rfl := Option.some.inj h
  simp (maxDischargeDepth := 9) only [↓xpre, xpost, xlst, xc2, xcore, yset, rg0, ↓reduceIte, Nat.reduceEqDiff, Nat.reduceLT, Nat.reduceLeDiff, Nat.reduceAdd, Nat.reduceMul, Nat.reduceMod, Nat.reduceDiv, Nat.reducePow, Nat.reduceSub, Nat.reduceBEq, Int.reduceLE, Int.reduceLT, Int.reduceEq, Int.reduceSub, Int.reduceAdd, Int.reduceToNat, Int.reduceNeg, e1] <;> (repeat' apply And.intro) <;> first | rfl | exact ⟨_, rfl⟩ | exact ⟨_, _, rfl⟩ | simp [lst, cat2_nil]

noncomputable def l_eqValueOpS_l0_S (a : List (Int × Int)) (b : List (Int × Int)) (i : Int) : Option ((Int) ⊕ (Unit ⊕ Unit)) :=
 if i < (a.length : Int) then
  ck (0 ≤ i ∧ i.toNat < a.length) <|
  ck (0 ≤ i ∧ i.toNat < b.length) <|
  (l_eqValueOp (fstD a i.toNat) (sndD a i.toNat) (fstD b i.toNat) (sndD b i.toNat)).bind fun r25_ =>
  if r25_ = true then
   some (Sum.inl (IntKind.i64.wrap (i + 1)))
  else
   some (Sum.inr (Sum.inl ()))
 else
  some (Sum.inr (Sum.inr ()))
noncomputable def l_eqValueOpS_l0 (a : List (Int × Int)) (b : List (Int × Int)) (v : Int) : Option (Unit ⊕ Unit) := itO (fun v => l_eqValueOpS_l0_S a b v) v
noncomputable def l_eqValueOpS (a : List (Int × Int)) (b : List (Int × Int)) : Option (Bool) :=
 if (a.length : Int) = (b.length : Int) then
  (l_eqValueOpS_l0 a b 0).bind fun r1000_ =>
  match r1000_ with
  | .inl q1000_ =>
   some false
  | .inr q1000_ =>
   some true
 else
  some false
/-- laws.eqValueOpS -/
def k11_l0b : SC :=
 .seq
 (.seq
 (.ops [
 ⟨(some 11), (.move (.tmp 5)), 3, none⟩,
 ⟨(some 12), (.move (.tmp 0)), 26, none⟩,
 ⟨(some 13), (.call ⟨(.builtin .len), #[(.tmp 12)], #[26]⟩), 3, none⟩,
 ⟨(some 14), (.binOp .lss 3 (.tmp 11) (.tmp 13) 3), 4, none⟩])
 (.cond (.tmp 14)
 .skip
 (.exit 0)))
 (.seq
 (.block 1
 (.seq
 (.draws [
 (⟨[17, 0, 0], [17, 18, 19, 20, 21, 22, 23, 24, 25, 26], [17]⟩, ⟨(some 17), (.move (.tmp 0)), 26, none⟩),
 (⟨[18, 5, 5], [17, 18, 19, 20, 21, 22, 23, 24, 25, 26], [18]⟩, ⟨(some 18), (.move (.tmp 5)), 3, none⟩),
 (⟨[19, 17, 18, 0, 5], [17, 18, 19, 20, 21, 22, 23, 24, 25, 26], [19]⟩, ⟨(some 19), (.indexAddr 26 (.tmp 17) (.tmp 18)), 0, none⟩),
 (⟨[20, 19, 0], [17, 18, 19, 20, 21, 22, 23, 24, 25, 26], [20]⟩, ⟨(some 20), (.load 49 (.tmp 19)), 49, none⟩),
 (⟨[21, 1, 1], [17, 18, 19, 20, 21, 22, 23, 24, 25, 26], [21]⟩, ⟨(some 21), (.move (.tmp 1)), 26, none⟩),
 (⟨[22, 5, 5], [17, 18, 19, 20, 21, 22, 23, 24, 25, 26], [22]⟩, ⟨(some 22), (.move (.tmp 5)), 3, none⟩),
 (⟨[23, 21, 22, 1, 5], [17, 18, 19, 20, 21, 22, 23, 24, 25, 26], [23]⟩, ⟨(some 23), (.indexAddr 26 (.tmp 21) (.tmp 22)), 0, none⟩),
 (⟨[24, 23, 1], [17, 18, 19, 20, 21, 22, 23, 24, 25, 26], [24]⟩, ⟨(some 24), (.load 49 (.tmp 23)), 49, none⟩),
 (⟨[25, 20, 24, 0, 1], [17, 18, 19, 20, 21, 22, 23, 24, 25, 26], [25]⟩, ⟨(some 25), (.call ⟨(.value (.func 32)), #[(.tmp 20), (.tmp 24)], #[49, 49]⟩), 4, none⟩),
 (⟨[26, 25, 25], [17, 18, 19, 20, 21, 22, 23, 24, 25, 26], [26]⟩, ⟨(some 26), (.unOp .not 4 (.tmp 25)), 4, none⟩)])
 (.cond (.tmp 26)
 (.seq
 (.ops [
 ⟨(some 4), (.assign (.const (.bool false))), 4, none⟩])
 .ret)
 .skip)))
 (.ops [
 ⟨(some 15), (.move (.tmp 5)), 3, none⟩,
 ⟨(some 16), (.binOp .add 3 (.tmp 15) (.const (.int .i64 1)) 3), 3, none⟩,
 ⟨(some 5), (.assign (.tmp 16)), 3, none⟩]))
def k11_l0 : SC := .loop k11_l0b
def k11 : SC :=
 .seq
 (.ops [
 ⟨(some 4), (.assign (.const (.bool false))), 4, none⟩])
 (.seq
 (.seq
 (.ops [
 ⟨(some 6), (.move (.tmp 0)), 26, none⟩,
 ⟨(some 7), (.call ⟨(.builtin .len), #[(.tmp 6)], #[26]⟩), 3, none⟩,
 ⟨(some 8), (.move (.tmp 1)), 26, none⟩,
 ⟨(some 9), (.call ⟨(.builtin .len), #[(.tmp 8)], #[26]⟩), 3, none⟩,
 ⟨(some 10), (.binOp .neq 3 (.tmp 7) (.tmp 9) 3), 4, none⟩])
 (.cond (.tmp 10)
 (.seq
 (.ops [
 ⟨(some 4), (.assign (.const (.bool false))), 4, none⟩])
 .ret)
 .skip))
 (.seq
 (.seq
 (.ops [
 ⟨(some 5), (.assign (.const (.int .i64 0))), 3, none⟩])
 (.block 0
 k11_l0))
 (.seq
 (.ops [
 ⟨(some 4), (.assign (.const (.bool true))), 4, none⟩])
 .ret)))
theorem slim11 : Tryd.f11.body.map (slim lends) = some k11 := by kernel_rfl
theorem ok11 : fnOk Tryd.f11 2 = true := by kernel_rfl
theorem c11 {a l : List D} {r : D × List D} (h : wpD Y.env k11 (fin tys l.length [ResultVar.tmp 4] r) (entry a l)) (ha : a.length = 2) : Y.call 11 a l = some r :=
 call_slim (Y := Y) rfl Tryd.func11 (ha ▸ ok11) slim11 h
def l_eqValueOpS_l0_M (a : List (Int × Int)) (b : List (Int × Int)) (i : Int) (s : St) : Prop := s.v 0 = D.sl 49 (cat2 .i64 .i64 a) ∧ s.v 1 = D.sl 49 (cat2 .i64 .i64 b) ∧ s.v 5 = D.int .i64 i
def l_eqValueOpS_l0_X (a : List (Int × Int)) (b : List (Int × Int)) (r : Unit ⊕ Unit) (ex : Ex) (s : St) : Prop := match r with
 | .inl q => ex = .ret ∧ s.v 4 = D.bool false
 | .inr q => ex = .exit 0
theorem l_eqValueOpS_l0_wp (a : List (Int × Int)) (b : List (Int × Int)) {v : Int} {s : St} {r : Unit ⊕ Unit} (h : l_eqValueOpS_l0 a b v = some r) (hM : l_eqValueOpS_l0_M a b v s) : wpD Y.env k11_l0 (l_eqValueOpS_l0_X a b r) s := by
 unfold l_eqValueOpS_l0 at h
 refine wd_itO (c := k11_l0b) (fun v => l_eqValueOpS_l0_S a b v) (fun v s => l_eqValueOpS_l0_M a b v s) (l_eqValueOpS_l0_X a b) ?_ h hM
 clear h hM s v r
 intro i s o hM h
 unfold l_eqValueOpS_l0_S at h
 unfold l_eqValueOpS_l0_M at hM
 obtain ⟨m0, m1, m2⟩ := hM
 unfold k11_l0b
 by_cases e2 : i < (a.length : Int)
 ·rw [if_pos e2] at h
  obtain ⟨e3, h⟩ := ckS h
  obtain ⟨e4, h⟩ := ckS h
  obtain ⟨r25_, hl5, h⟩ := bindS h
  try dsimp only at h
  have c5 := l_eqValueOp_call (fstD a i.toNat) (sndD a i.toNat) (fstD b i.toNat) (sndD b i.toNat) hl5
  by_cases e6 : r25_ = true
  ·rw [if_pos e6] at h
   obtain rfl := Option.some.inj h
   simp (maxDischargeDepth := 9) only [↓xpre, xpost, xlst, xc2, xcore, yset, rg0, ↓reduceIte, Nat.reduceEqDiff, Nat.reduceLT, Nat.reduceLeDiff, Nat.reduceAdd, Nat.reduceMul, Nat.reduceMod, Nat.reduceDiv, Nat.reducePow, Nat.reduceSub, Nat.reduceBEq, Int.reduceLE, Int.reduceLT, Int.reduceEq, Int.reduceSub, Int.reduceAdd, Int.reduceToNat, Int.reduceNeg, m0, m1, m2, e2, e3.1, e3.2, e4.1, e4.2, c5, e6, l_eqValueOpS_l0_M, l_eqValueOpS_l0_X, sxN, sxE, sxR] <;> (repeat' apply And.intro) <;> first | rfl | exact ⟨_, rfl⟩ | exact ⟨_, _, rfl⟩ | simp [lst, cat2_nil]
  ·rw [if_neg e6] at h
   have e6f : r25_ = false := Bool.eq_false_iff.mpr e6
   obtain rfl := Option.some.inj h
   simp (maxDischargeDepth := 9) only [↓xpre, xpost, xlst, xc2, xcore, yset, rg0, ↓reduceIte, Nat.reduceEqDiff, Nat.reduceLT, Nat.reduceLeDiff, Nat.reduceAdd, Nat.reduceMul, Nat.reduceMod, Nat.reduceDiv, Nat.reducePow, Nat.reduceSub, Nat.reduceBEq, Int.reduceLE, Int.reduceLT, Int.reduceEq, Int.reduceSub, Int.reduceAdd, Int.reduceToNat, Int.reduceNeg, m0, m1, m2, e2, e3.1, e3.2, e4.1, e4.2, c5, e6f, l_eqValueOpS_l0_M, l_eqValueOpS_l0_X, sxN, sxE, sxR] <;> (repeat' apply And.intro) <;> first | rfl | exact ⟨_, rfl⟩ | exact ⟨_, _, rfl⟩ | simp [lst, cat2_nil]
 ·rw [if_neg e2] at h
  obtain rfl := Option.some.inj h
  simp (maxDischargeDepth := 9) only [↓xpre, xpost, xlst, xc2, xcore, yset, rg0, ↓reduceIte, Nat.reduceEqDiff, Nat.reduceLT, Nat.reduceLeDiff, Nat.reduceAdd, Nat.reduceMul, Nat.reduceMod, Nat.reduceDiv, Nat.reducePow, Nat.reduceSub, Nat.reduceBEq, Int.reduceLE, Int.reduceLT, Int.reduceEq, Int.reduceSub, Int.reduceAdd, Int.reduceToNat, Int.reduceNeg, m0, m1, m2, e2, l_eqValueOpS_l0_M, l_eqValueOpS_l0_X, sxN, sxE, sxR] <;> (repeat' apply And.intro) <;> first | rfl | exact ⟨_, rfl⟩ | exact ⟨_, _, rfl⟩ | simp [lst, cat2_nil]
theorem l_eqValueOpS_call (a : List (Int × Int)) (b : List (Int × Int)) {r : Bool} (h : l_eqValueOpS a b = some r) : Y.call 11 [D.sl 49 (cat2 .i64 .i64 a), D.sl 49 (cat2 .i64 .i64 b)] [] = some (D.bool r, []) := by
 refine c11 ?_ rfl
 unfold k11
 unfold l_eqValueOpS at h
 by_cases e1 : (a.length : Int) = (b.length : Int)
 ·rw [if_pos e1] at h
  obtain ⟨r1000_, hl3, h⟩ := bindS h
  try dsimp only at h
  simp (maxDischargeDepth := 9) only [↓xpre, xpost, xlst, xc2, xcore, yset, rg0, ↓reduceIte, Nat.reduceEqDiff, Nat.reduceLT, Nat.reduceLeDiff, Nat.reduceAdd, Nat.reduceMul, Nat.reduceMod, Nat.reduceDiv, Nat.reducePow, Nat.reduceSub, Nat.reduceBEq, Int.reduceLE, Int.reduceLT, Int.reduceEq, Int.reduceSub, Int.reduceAdd, Int.reduceToNat, Int.reduceNeg, decide_eq_true e1]
  refine wd_mono (l_eqValueOpS_l0_wp a b hl3 ?_) ?_
  ·simp (maxDischargeDepth := 9) only [↓xpre, xpost, xlst, xc2, xcore, yset, rg0, ↓reduceIte, Nat.reduceEqDiff, Nat.reduceLT, Nat.reduceLeDiff, Nat.reduceAdd, Nat.reduceMul, Nat.reduceMod, Nat.reduceDiv, Nat.reducePow, Nat.reduceSub, Nat.reduceBEq, Int.reduceLE, Int.reduceLT, Int.reduceEq, Int.reduceSub, Int.reduceAdd, Int.reduceToNat, Int.reduceNeg, decide_eq_true e1, l_eqValueOpS_l0_M] <;> (repeat' apply And.intro) <;> first | rfl | exact ⟨_, rfl⟩ | exact ⟨_, _, rfl⟩ | simp [lst, cat2_nil]
  ·intro ex3 s3 hX3
   rcases r1000_ with q1000_ | q1000_
   ·unfold l_eqValueOpS_l0_X at hX3
    dsimp only at hX3 h
    obtain ⟨rfl, n3_0⟩ := hX3
    obtain rfl := Option.some.inj h
    simp (maxDischargeDepth := 9) only [↓xpre, xpost, xlst, xc2, xcore, yset, rg0, ↓reduceIte, Nat.reduceEqDiff, Nat.reduceLT, Nat.reduceLeDiff, Nat.reduceAdd, Nat.reduceMul, Nat.reduceMod, Nat.reduceDiv, Nat.reducePow, Nat.reduceSub, Nat.reduceBEq, Int.reduceLE, Int.reduceLT, Int.reduceEq, Int.reduceSub, Int.reduceAdd, Int.reduceToNat, Int.reduceNeg, decide_eq_true e1, n3_0] <;> (repeat' apply And.intro) <;> first | rfl | exact ⟨_, rfl⟩ | exact ⟨_, _, rfl⟩ | simp [lst, cat2_nil]
   ·unfold l_eqValueOpS_l0_X at hX3
    dsimp only at hX3 h
    obtain rfl := hX3
    obtain rfl := Option.some.inj h
    simp (maxDischargeDepth := 9) only [↓xpre, xpost, xlst, xc2, xcore, yset, rg0, ↓reduceIte, Nat.reduceEqDiff, Nat.reduceLT, Nat.reduceLeDiff, Nat.reduceAdd, Nat.reduceMul, Nat.reduceMod, Nat.reduceDiv, Nat.reducePow, Nat.reduceSub, Nat.reduceBEq, Int.reduceLE, Int.reduceLT, Int.reduceEq, Int.reduceSub, Int.reduceAdd, Int.reduceToNat, Int.reduceNeg, decide_eq_true e1] <;> (repeat' apply And.intro) <;> first | rfl | exact ⟨_, rfl⟩ | exact ⟨_, _, rfl⟩ | simp [lst, cat2_nil]
 ·rw [if_neg e1] at h
  obtain rfl := Option.some.inj h
  simp (maxDischargeDepth := 9) only [↓xpre, xpost, xlst, xc2, xcore, yset, rg0, ↓reduceIte, Nat.reduceEqDiff, Nat.reduceLT, Nat.reduceLeDiff, Nat.reduceAdd, Nat.reduceMul, Nat.reduceMod, Nat.reduceDiv, Nat.reducePow, Nat.reduceSub, Nat.reduceBEq, Int.reduceLE, Int.reduceLT, Int.reduceEq, Int.reduceSub, Int.reduceAdd, Int.reduceToNat, Int.reduceNeg, e1] <;> (repeat' apply And.intro) <;> first | rfl | exact ⟨_, rfl⟩ | exact ⟨_, _, rfl⟩ | simp [lst, cat2_nil]

theorem l_eqValueOp_eq (a b c d : Int) : l_eqValueOp a b c d = some (decide ((a, b) = (c, d))) := by
 unfold l_eqValueOp
 by_cases h1 : a = c <;> by_cases h2 : b = d <;> simp [h1, h2]
theorem l_eqValueOpS_eq (a b : List (Int × Int)) (ha : a.length < 549755813888) : l_eqValueOpS a b = some (decide (a = b)) := by
 unfold l_eqValueOpS l_eqValueOpS_l0
 by_cases hl : a.length = b.length
 ·rw [if_pos (by omega)]
  have key := itO_all (fun v => l_eqValueOpS_l0_S a b v) (fun i => (i : Int)) a.length (fun i => decide (a.getD i default = b.getD i default)) (.inl ()) (.inr ()) ?_ ?_
  ·simp only [Int.natCast_zero] at key
   rw [key, all_same a b hl]
   by_cases he : a = b <;> simp [he]
  ·intro i hi
   simp only [l_eqValueOpS_l0_S, Int.toNat_natCast]
   rw [if_pos (lt_nat hi), ckT (by omega), ckT (by omega), l_eqValueOp_eq, Option.bind_some, wrS i (by omega)]
   rfl
  ·simp only [l_eqValueOpS_l0_S]
   rw [if_neg (not_lt_nat _)]
 ·rw [if_neg (by omega)]
  have : ¬ a = b := fun e => hl (by rw [e])
  simp [this]
theorem l_eqValueOpS_cl (a : List (Int × Int)) (b : List (Int × Int)) (h0 : a.length < 549755813888) : Y.call 11 [D.sl 49 (cat2 .i64 .i64 a), D.sl 49 (cat2 .i64 .i64 b)] [] = some (D.bool (decide (a = b)), []) := l_eqValueOpS_call a b (l_eqValueOpS_eq a b h0)
end Go.Proofs.YtaogbcdlpgfplaaDoor
