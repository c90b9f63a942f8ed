/- Usable labels, as plain functions, and their law. Conditions: none. -/
import Derived.Test.YthaimoghceamnaaL5
import Derived.Test.YthaimoghceamnaaPM
namespace Go.Proofs.Ythaimoghceamnaa
open Go Dv
set_option linter.unusedSimpArgs false
set_option linter.unusedVariables false
set_option maxRecDepth 100000
set_option maxHeartbeats 4000000

noncomputable def s_l1Has_l0_S (l : List Int) (n_ : Int) (t9_ : Int) : Option ((Int) ⊕ (Unit ⊕ Unit)) :=
  if t9_ < (l.length : Int) then
    ck (0 ≤ t9_ ∧ t9_.toNat < l.length) <|
    if (l.getD t9_.toNat default) = n_ then
      some (Sum.inr (Sum.inl ()))
    else
      some (Sum.inl (IntKind.i64.wrap (t9_ + 1)))
  else
    some (Sum.inr (Sum.inr ()))
noncomputable def s_l1Has_l0 (l : List Int) (n_ : Int) (v : Int) : Option (Unit ⊕ Unit) := itO (fun v => s_l1Has_l0_S l n_ v) v
noncomputable def s_l1Has (l : List Int) (n_ : Int) : Option (Bool) :=
  (s_l1Has_l0 l n_ 0).bind fun r2_ =>
  match r2_ with
  | .inl q2_ =>
    some true
  | .inr q2_ =>
    some false
/-- spec.l1Has -/
def k99_l0b : SC :=
  .seq
    (.ops [
      ⟨(some 10), (Op.binOp BinOp.lss 3 (Operand.tmp 9) (Operand.tmp 8) 3), 0, none⟩])
    (.seq
      (.cond (Operand.tmp 10)
        .skip
        (.exit 0))
      (.seq
        (.block 1
          (.seq
            (.ops [
              ⟨(some 11), (Op.indexAddr 25 (Operand.tmp 7) (Operand.tmp 9)), 0, none⟩,
              ⟨(some 12), (Op.load 3 (Operand.tmp 11)), 3, none⟩,
              ⟨(some 6), (Op.assign (Operand.tmp 12)), 3, none⟩])
            (.seq
              (.ops [
                ⟨(some 13), (Op.move (Operand.tmp 6)), 3, none⟩,
                ⟨(some 14), (Op.move (Operand.tmp 1)), 3, none⟩,
                ⟨(some 15), (Op.binOp BinOp.eql 3 (Operand.tmp 13) (Operand.tmp 14) 3), 4, none⟩])
              (.cond (Operand.tmp 15)
                (.seq
                  (.ops [
                    ⟨(some 4), (Op.assign (Operand.const (Value.bool true))), 4, none⟩])
                  .ret)
                .skip))))
        (.ops [
          ⟨(some 16), (Op.binOp BinOp.add 3 (Operand.tmp 9) (Operand.const (Value.int IntKind.i64 1)) 3), 3, none⟩,
          ⟨(some 9), (Op.move (Operand.tmp 16)), 3, none⟩])))
def k99_l0 : SC := .loop k99_l0b
def k99 : SC :=
  .seq
    (.ops [
      ⟨(some 4), (Op.assign (Operand.const (Value.bool false))), 4, none⟩])
    (.seq
      (.seq
        (.ops [
          ⟨(some 7), (Op.move (Operand.tmp 0)), 25, none⟩,
          ⟨(some 8), (Op.call { callee := (Callee.builtin Builtin.len), args := #[(Operand.tmp 7)], argTypes := #[25] }), 3, none⟩,
          ⟨(some 9), (Op.move (Operand.const (Value.int IntKind.i64 0))), 3, none⟩])
        (.block 0
          k99_l0))
      (.seq
        (.ops [
          ⟨(some 4), (Op.assign (Operand.const (Value.bool false))), 4, none⟩])
        .ret))
theorem slim99 : Try.f99.body.map (slim lends) = some k99 := by kernel_rfl
theorem ok99 : fnOk Try.f99 2 = true := by kernel_rfl
theorem c99 {a l : List D} {r : D × List D} (h : wpD Y.env k99 (fin tys l.length [ResultVar.tmp 4] r) (entry a l)) (ha : a.length = 2) : Y.call 99 a l = some r :=
  call_slim (Y := Y) rfl Try.func99 (ha ▸ ok99) slim99 h
def s_l1Has_l0_M (l : List Int) (n_ : Int) (t9_ : Int) (s : St) : Prop := s.v 1 = D.int .i64 n_ ∧ s.v 7 = D.sl 3 (lst (D.int .i64) l) ∧ s.v 8 = D.int .i64 (l.length : Int) ∧ s.v 9 = D.int .i64 t9_
def s_l1Has_l0_X (l : List Int) (n_ : Int) (r : Unit ⊕ Unit) (ex : Ex) (s : St) : Prop := match r with
  | .inl q => ex = .ret ∧ s.v 4 = D.bool true
  | .inr q => ex = .exit 0
theorem s_l1Has_l0_wp (l : List Int) (n_ : Int) {v : Int} {s : St} {r : Unit ⊕ Unit} (h : s_l1Has_l0 l n_ v = some r) (hM : s_l1Has_l0_M l n_ v s) : wpD Y.env k99_l0 (s_l1Has_l0_X l n_ r) s := by
  unfold s_l1Has_l0 at h
  refine wd_itO (c := k99_l0b) (fun v => s_l1Has_l0_S l n_ v) (fun v s => s_l1Has_l0_M l n_ v s) (s_l1Has_l0_X l n_) ?_ h hM
  clear h hM s v r
  intro t9_ s o hM h
  unfold s_l1Has_l0_S at h
  unfold s_l1Has_l0_M at hM
  obtain ⟨m0, m1, m2, m3⟩ := hM
  unfold k99_l0b
  by_cases e1 : t9_ < (l.length : Int)
  · rw [if_pos e1] at h
    obtain ⟨e2, h⟩ := ckS h
    by_cases e3 : (l.getD t9_.toNat default) = n_
    · rw [if_pos e3] at h
      obtain rfl := Option.some.inj h
      simp (maxDischargeDepth := 9) only [↓xpre, xpost, xlst, xcore, yset, rg0, ↓reduceIte, Nat.reduceEqDiff, Nat.reduceLT, Nat.reduceLeDiff, Nat.reduceAdd, Nat.reduceMul, Nat.reduceMod, Nat.reduceSub, Nat.reduceBEq, Int.reduceLE, Int.reduceLT, Int.reduceEq, Int.reduceSub, Int.reduceAdd, Int.reduceToNat, Int.reduceNeg, m0, m1, m2, m3, e1, e2.1, e2.2, decide_eq_true e3, s_l1Has_l0_M, s_l1Has_l0_X, sxN, sxE, sxR] <;> (repeat' apply And.intro) <;> first | rfl | exact ⟨_, rfl⟩ | simp [lst]
    · rw [if_neg e3] at h
      obtain rfl := Option.some.inj h
      simp (maxDischargeDepth := 9) only [↓xpre, xpost, xlst, xcore, yset, rg0, ↓reduceIte, Nat.reduceEqDiff, Nat.reduceLT, Nat.reduceLeDiff, Nat.reduceAdd, Nat.reduceMul, Nat.reduceMod, Nat.reduceSub, Nat.reduceBEq, Int.reduceLE, Int.reduceLT, Int.reduceEq, Int.reduceSub, Int.reduceAdd, Int.reduceToNat, Int.reduceNeg, m0, m1, m2, m3, e1, e2.1, e2.2, e3, s_l1Has_l0_M, s_l1Has_l0_X, sxN, sxE, sxR] <;> (repeat' apply And.intro) <;> first | rfl | exact ⟨_, rfl⟩ | simp [lst]
  · rw [if_neg e1] at h
    obtain rfl := Option.some.inj h
    simp (maxDischargeDepth := 9) only [↓xpre, xpost, xlst, xcore, yset, rg0, ↓reduceIte, Nat.reduceEqDiff, Nat.reduceLT, Nat.reduceLeDiff, Nat.reduceAdd, Nat.reduceMul, Nat.reduceMod, Nat.reduceSub, Nat.reduceBEq, Int.reduceLE, Int.reduceLT, Int.reduceEq, Int.reduceSub, Int.reduceAdd, Int.reduceToNat, Int.reduceNeg, m0, m1, m2, m3, e1, s_l1Has_l0_M, s_l1Has_l0_X, sxN, sxE, sxR] <;> (repeat' apply And.intro) <;> first | rfl | exact ⟨_, rfl⟩ | simp [lst]
theorem s_l1Has_call (l : List Int) (n_ : Int) {r : Bool} (h : s_l1Has l n_ = some r) : Y.call 99 [D.sl 3 (lst (D.int .i64) l), D.int .i64 n_] [] = some (D.bool r, []) := by
  refine c99 ?_ rfl
  unfold k99
  unfold s_l1Has at h
  obtain ⟨r2_, hl2, h⟩ := bindS h
  try dsimp only at h
  simp (maxDischargeDepth := 9) only [↓xpre, xpost, xlst, xcore, yset, rg0, ↓reduceIte, Nat.reduceEqDiff, Nat.reduceLT, Nat.reduceLeDiff, Nat.reduceAdd, Nat.reduceMul, Nat.reduceMod, Nat.reduceSub, Nat.reduceBEq, Int.reduceLE, Int.reduceLT, Int.reduceEq, Int.reduceSub, Int.reduceAdd, Int.reduceToNat, Int.reduceNeg]
  refine wd_mono (s_l1Has_l0_wp l n_ hl2 ?_) ?_
  · simp (maxDischargeDepth := 9) only [↓xpre, xpost, xlst, xcore, yset, rg0, ↓reduceIte, Nat.reduceEqDiff, Nat.reduceLT, Nat.reduceLeDiff, Nat.reduceAdd, Nat.reduceMul, Nat.reduceMod, Nat.reduceSub, Nat.reduceBEq, Int.reduceLE, Int.reduceLT, Int.reduceEq, Int.reduceSub, Int.reduceAdd, Int.reduceToNat, Int.reduceNeg, s_l1Has_l0_M] <;> (repeat' apply And.intro) <;> first | rfl | exact ⟨_, rfl⟩ | simp [lst]
  · intro ex2 s2 hX2
    rcases r2_ with q2_ | q2_
    · unfold s_l1Has_l0_X at hX2
      dsimp only at hX2 h
      obtain ⟨rfl, n2_0⟩ := hX2
      obtain rfl := Option.some.inj h
      simp (maxDischargeDepth := 9) only [↓xpre, xpost, xlst, xcore, yset, rg0, ↓reduceIte, Nat.reduceEqDiff, Nat.reduceLT, Nat.reduceLeDiff, Nat.reduceAdd, Nat.reduceMul, Nat.reduceMod, Nat.reduceSub, Nat.reduceBEq, Int.reduceLE, Int.reduceLT, Int.reduceEq, Int.reduceSub, Int.reduceAdd, Int.reduceToNat, Int.reduceNeg, n2_0] <;> (repeat' apply And.intro) <;> first | rfl | exact ⟨_, rfl⟩ | simp [lst]
    · unfold s_l1Has_l0_X at hX2
      dsimp only at hX2 h
      obtain rfl := hX2
      obtain rfl := Option.some.inj h
      simp (maxDischargeDepth := 9) only [↓xpre, xpost, xlst, xcore, yset, rg0, ↓reduceIte, Nat.reduceEqDiff, Nat.reduceLT, Nat.reduceLeDiff, Nat.reduceAdd, Nat.reduceMul, Nat.reduceMod, Nat.reduceSub, Nat.reduceBEq, Int.reduceLE, Int.reduceLT, Int.reduceEq, Int.reduceSub, Int.reduceAdd, Int.reduceToNat, Int.reduceNeg] <;> (repeat' apply And.intro) <;> first | rfl | exact ⟨_, rfl⟩ | simp [lst]

noncomputable def g_slices_Index_Sint_int_l0_S (s_ : List Int) (v_ : Int) (t8_ : Int) : Option ((Int) ⊕ (Int ⊕ Unit)) :=
  if t8_ < (s_.length : Int) then
    ck (0 ≤ t8_ ∧ t8_.toNat < s_.length) <|
    if v_ = (s_.getD t8_.toNat default) then
      some (Sum.inr (Sum.inl t8_))
    else
      some (Sum.inl (IntKind.i64.wrap (t8_ + 1)))
  else
    some (Sum.inr (Sum.inr ()))
noncomputable def g_slices_Index_Sint_int_l0 (s_ : List Int) (v_ : Int) (v : Int) : Option (Int ⊕ Unit) := itO (fun v => g_slices_Index_Sint_int_l0_S s_ v_ v) v
noncomputable def g_slices_Index_Sint_int (s_ : List Int) (v_ : Int) : Option (Int) :=
  (g_slices_Index_Sint_int_l0 s_ v_ 0).bind fun r2_ =>
  match r2_ with
  | .inl q2_ =>
    some q2_
  | .inr q2_ =>
    some (-1)
/-- slices.Index[[]int,int] -/
def k108_l0b : SC :=
  .seq
    (.ops [
      ⟨(some 9), (Op.binOp BinOp.lss 3 (Operand.tmp 8) (Operand.tmp 7) 3), 0, none⟩])
    (.seq
      (.cond (Operand.tmp 9)
        .skip
        (.exit 0))
      (.seq
        (.block 1
          (.seq
            (.ops [
              ⟨(some 10), (Op.move (Operand.tmp 8)), 3, none⟩,
              ⟨(some 5), (Op.assign (Operand.tmp 10)), 3, none⟩])
            (.seq
              (.ops [
                ⟨(some 11), (Op.move (Operand.tmp 1)), 3, none⟩,
                ⟨(some 12), (Op.move (Operand.tmp 0)), 25, none⟩,
                ⟨(some 13), (Op.move (Operand.tmp 5)), 3, none⟩,
                ⟨(some 14), (Op.indexAddr 25 (Operand.tmp 12) (Operand.tmp 13)), 0, none⟩,
                ⟨(some 15), (Op.load 3 (Operand.tmp 14)), 3, none⟩,
                ⟨(some 16), (Op.binOp BinOp.eql 3 (Operand.tmp 11) (Operand.tmp 15) 3), 4, none⟩])
              (.cond (Operand.tmp 16)
                (.seq
                  (.ops [
                    ⟨(some 17), (Op.move (Operand.tmp 5)), 3, none⟩,
                    ⟨(some 4), (Op.assign (Operand.tmp 17)), 3, none⟩])
                  .ret)
                .skip))))
        (.ops [
          ⟨(some 18), (Op.binOp BinOp.add 3 (Operand.tmp 8) (Operand.const (Value.int IntKind.i64 1)) 3), 3, none⟩,
          ⟨(some 8), (Op.move (Operand.tmp 18)), 3, none⟩])))
def k108_l0 : SC := .loop k108_l0b
def k108 : SC :=
  .seq
    (.ops [
      ⟨(some 4), (Op.assign (Operand.const (Value.int IntKind.i64 0))), 3, none⟩])
    (.seq
      (.seq
        (.ops [
          ⟨(some 6), (Op.move (Operand.tmp 0)), 25, none⟩,
          ⟨(some 7), (Op.call { callee := (Callee.builtin Builtin.len), args := #[(Operand.tmp 6)], argTypes := #[25] }), 3, none⟩,
          ⟨(some 8), (Op.move (Operand.const (Value.int IntKind.i64 0))), 3, none⟩])
        (.block 0
          k108_l0))
      (.seq
        (.ops [
          ⟨(some 4), (Op.assign (Operand.const (Value.int IntKind.i64 (-1)))), 3, none⟩])
        .ret))
theorem slim108 : Try.f108.body.map (slim lends) = some k108 := by kernel_rfl
theorem ok108 : fnOk Try.f108 2 = true := by kernel_rfl
theorem c108 {a l : List D} {r : D × List D} (h : wpD Y.env k108 (fin tys l.length [ResultVar.tmp 4] r) (entry a l)) (ha : a.length = 2) : Y.call 108 a l = some r :=
  call_slim (Y := Y) rfl Try.func108 (ha ▸ ok108) slim108 h
def g_slices_Index_Sint_int_l0_M (s_ : List Int) (v_ : Int) (t8_ : Int) (s : St) : Prop := s.v 0 = D.sl 3 (lst (D.int .i64) s_) ∧ s.v 1 = D.int .i64 v_ ∧ s.v 7 = D.int .i64 (s_.length : Int) ∧ s.v 8 = D.int .i64 t8_
def g_slices_Index_Sint_int_l0_X (s_ : List Int) (v_ : Int) (r : Int ⊕ Unit) (ex : Ex) (s : St) : Prop := match r with
  | .inl q => ex = .ret ∧ s.v 4 = D.int .i64 q
  | .inr q => ex = .exit 0
theorem g_slices_Index_Sint_int_l0_wp (s_ : List Int) (v_ : Int) {v : Int} {s : St} {r : Int ⊕ Unit} (h : g_slices_Index_Sint_int_l0 s_ v_ v = some r) (hM : g_slices_Index_Sint_int_l0_M s_ v_ v s) : wpD Y.env k108_l0 (g_slices_Index_Sint_int_l0_X s_ v_ r) s := by
  unfold g_slices_Index_Sint_int_l0 at h
  refine wd_itO (c := k108_l0b) (fun v => g_slices_Index_Sint_int_l0_S s_ v_ v) (fun v s => g_slices_Index_Sint_int_l0_M s_ v_ v s) (g_slices_Index_Sint_int_l0_X s_ v_) ?_ h hM
  clear h hM s v r
  intro t8_ s o hM h
  unfold g_slices_Index_Sint_int_l0_S at h
  unfold g_slices_Index_Sint_int_l0_M at hM
  obtain ⟨m0, m1, m2, m3⟩ := hM
  unfold k108_l0b
  by_cases e1 : t8_ < (s_.length : Int)
  · rw [if_pos e1] at h
    obtain ⟨e2, h⟩ := ckS h
    by_cases e3 : v_ = (s_.getD t8_.toNat default)
    · rw [if_pos e3] at h
      obtain rfl := Option.some.inj h
      simp (maxDischargeDepth := 9) only [↓xpre, xpost, xlst, xcore, yset, rg0, ↓reduceIte, Nat.reduceEqDiff, Nat.reduceLT, Nat.reduceLeDiff, Nat.reduceAdd, Nat.reduceMul, Nat.reduceMod, Nat.reduceSub, Nat.reduceBEq, Int.reduceLE, Int.reduceLT, Int.reduceEq, Int.reduceSub, Int.reduceAdd, Int.reduceToNat, Int.reduceNeg, m0, m1, m2, m3, e1, e2.1, e2.2, decide_eq_true e3, g_slices_Index_Sint_int_l0_M, g_slices_Index_Sint_int_l0_X, sxN, sxE, sxR] <;> (repeat' apply And.intro) <;> first | rfl | exact ⟨_, rfl⟩ | simp [lst]
    · rw [if_neg e3] at h
      obtain rfl := Option.some.inj h
      simp (maxDischargeDepth := 9) only [↓xpre, xpost, xlst, xcore, yset, rg0, ↓reduceIte, Nat.reduceEqDiff, Nat.reduceLT, Nat.reduceLeDiff, Nat.reduceAdd, Nat.reduceMul, Nat.reduceMod, Nat.reduceSub, Nat.reduceBEq, Int.reduceLE, Int.reduceLT, Int.reduceEq, Int.reduceSub, Int.reduceAdd, Int.reduceToNat, Int.reduceNeg, m0, m1, m2, m3, e1, e2.1, e2.2, e3, g_slices_Index_Sint_int_l0_M, g_slices_Index_Sint_int_l0_X, sxN, sxE, sxR] <;> (repeat' apply And.intro) <;> first | rfl | exact ⟨_, rfl⟩ | simp [lst]
  · rw [if_neg e1] at h
    obtain rfl := Option.some.inj h
    simp (maxDischargeDepth := 9) only [↓xpre, xpost, xlst, xcore, yset, rg0, ↓reduceIte, Nat.reduceEqDiff, Nat.reduceLT, Nat.reduceLeDiff, Nat.reduceAdd, Nat.reduceMul, Nat.reduceMod, Nat.reduceSub, Nat.reduceBEq, Int.reduceLE, Int.reduceLT, Int.reduceEq, Int.reduceSub, Int.reduceAdd, Int.reduceToNat, Int.reduceNeg, m0, m1, m2, m3, e1, g_slices_Index_Sint_int_l0_M, g_slices_Index_Sint_int_l0_X, sxN, sxE, sxR] <;> (repeat' apply And.intro) <;> first | rfl | exact ⟨_, rfl⟩ | simp [lst]
theorem g_slices_Index_Sint_int_call (s_ : List Int) (v_ : Int) {r : Int} (h : g_slices_Index_Sint_int s_ v_ = some r) : Y.call 108 [D.sl 3 (lst (D.int .i64) s_), D.int .i64 v_] [] = some (D.int .i64 r, []) := by
  refine c108 ?_ rfl
  unfold k108
  unfold g_slices_Index_Sint_int at h
  obtain ⟨r2_, hl2, h⟩ := bindS h
  try dsimp only at h
  simp (maxDischargeDepth := 9) only [↓xpre, xpost, xlst, xcore, yset, rg0, ↓reduceIte, Nat.reduceEqDiff, Nat.reduceLT, Nat.reduceLeDiff, Nat.reduceAdd, Nat.reduceMul, Nat.reduceMod, Nat.reduceSub, Nat.reduceBEq, Int.reduceLE, Int.reduceLT, Int.reduceEq, Int.reduceSub, Int.reduceAdd, Int.reduceToNat, Int.reduceNeg]
  refine wd_mono (g_slices_Index_Sint_int_l0_wp s_ v_ hl2 ?_) ?_
  · simp (maxDischargeDepth := 9) only [↓xpre, xpost, xlst, xcore, yset, rg0, ↓reduceIte, Nat.reduceEqDiff, Nat.reduceLT, Nat.reduceLeDiff, Nat.reduceAdd, Nat.reduceMul, Nat.reduceMod, Nat.reduceSub, Nat.reduceBEq, Int.reduceLE, Int.reduceLT, Int.reduceEq, Int.reduceSub, Int.reduceAdd, Int.reduceToNat, Int.reduceNeg, g_slices_Index_Sint_int_l0_M] <;> (repeat' apply And.intro) <;> first | rfl | exact ⟨_, rfl⟩ | simp [lst]
  · intro ex2 s2 hX2
    rcases r2_ with q2_ | q2_
    · unfold g_slices_Index_Sint_int_l0_X at hX2
      dsimp only at hX2 h
      obtain ⟨rfl, n2_0⟩ := hX2
      obtain rfl := Option.some.inj h
      simp (maxDischargeDepth := 9) only [↓xpre, xpost, xlst, xcore, yset, rg0, ↓reduceIte, Nat.reduceEqDiff, Nat.reduceLT, Nat.reduceLeDiff, Nat.reduceAdd, Nat.reduceMul, Nat.reduceMod, Nat.reduceSub, Nat.reduceBEq, Int.reduceLE, Int.reduceLT, Int.reduceEq, Int.reduceSub, Int.reduceAdd, Int.reduceToNat, Int.reduceNeg, n2_0] <;> (repeat' apply And.intro) <;> first | rfl | exact ⟨_, rfl⟩ | simp [lst]
    · unfold g_slices_Index_Sint_int_l0_X at hX2
      dsimp only at hX2 h
      obtain rfl := hX2
      obtain rfl := Option.some.inj h
      simp (maxDischargeDepth := 9) only [↓xpre, xpost, xlst, xcore, yset, rg0, ↓reduceIte, Nat.reduceEqDiff, Nat.reduceLT, Nat.reduceLeDiff, Nat.reduceAdd, Nat.reduceMul, Nat.reduceMod, Nat.reduceSub, Nat.reduceBEq, Int.reduceLE, Int.reduceLT, Int.reduceEq, Int.reduceSub, Int.reduceAdd, Int.reduceToNat, Int.reduceNeg] <;> (repeat' apply And.intro) <;> first | rfl | exact ⟨_, rfl⟩ | simp [lst]

noncomputable def g_slices_Contains_Sint_int (s_ : List Int) (v_ : Int) : Option (Bool) :=
  (g_slices_Index_Sint_int s_ v_).bind fun r1_ =>
  some (decide (0 ≤ r1_))
/-- slices.Contains[[]int,int] -/
def k103 : SC :=
  .seq
    (.ops [
      ⟨(some 4), (Op.assign (Operand.const (Value.bool false))), 4, none⟩])
    (.seq
      (.ops [
        ⟨(some 5), (Op.move (Operand.tmp 0)), 25, none⟩,
        ⟨(some 6), (Op.move (Operand.tmp 1)), 3, none⟩,
        ⟨(some 7), (Op.call { callee := (Callee.value (Operand.func 108)), args := #[(Operand.tmp 5), (Operand.tmp 6)], argTypes := #[25, 3] }), 3, none⟩,
        ⟨(some 8), (Op.binOp BinOp.geq 3 (Operand.tmp 7) (Operand.const (Value.int IntKind.i64 0)) 3), 4, none⟩,
        ⟨(some 4), (Op.assign (Operand.tmp 8)), 4, none⟩])
      .ret)
theorem slim103 : Try.f103.body.map (slim lends) = some k103 := by kernel_rfl
theorem ok103 : fnOk Try.f103 2 = true := by kernel_rfl
theorem c103 {a l : List D} {r : D × List D} (h : wpD Y.env k103 (fin tys l.length [ResultVar.tmp 4] r) (entry a l)) (ha : a.length = 2) : Y.call 103 a l = some r :=
  call_slim (Y := Y) rfl Try.func103 (ha ▸ ok103) slim103 h
theorem g_slices_Contains_Sint_int_call (s_ : List Int) (v_ : Int) {r : Bool} (h : g_slices_Contains_Sint_int s_ v_ = some r) : Y.call 103 [D.sl 3 (lst (D.int .i64) s_), D.int .i64 v_] [] = some (D.bool r, []) := by
  refine c103 ?_ rfl
  unfold k103
  unfold g_slices_Contains_Sint_int at h
  obtain ⟨r1_, hl1, h⟩ := bindS h
  try dsimp only at h
  have c1 := g_slices_Index_Sint_int_call s_ v_ hl1
  obtain rfl := Option.some.inj h
  simp (maxDischargeDepth := 9) only [↓xpre, xpost, xlst, xcore, yset, rg0, ↓reduceIte, Nat.reduceEqDiff, Nat.reduceLT, Nat.reduceLeDiff, Nat.reduceAdd, Nat.reduceMul, Nat.reduceMod, Nat.reduceSub, Nat.reduceBEq, Int.reduceLE, Int.reduceLT, Int.reduceEq, Int.reduceSub, Int.reduceAdd, Int.reduceToNat, Int.reduceNeg, c1] <;> (repeat' apply And.intro) <;> first | rfl | exact ⟨_, rfl⟩ | simp [lst]

theorem s_l1Has_eq (l : List Int) (n : Int) (h : l.length < 1099511627776) : s_l1Has l n = some (l.contains n) := by
  unfold s_l1Has s_l1Has_l0
  have key := itO_all (fun v => s_l1Has_l0_S l n v) (fun i => (i : Int)) l.length (fun i => !decide (l.getD i default = n)) (.inl ()) (.inr ()) ?_ ?_
  · simp only [Int.natCast_zero] at key
    rw [key, all_getD (fun x => !decide (x = n))]
    have e : l.all (fun x => !decide (x = n)) = !l.contains n := by
      rw [List.all_eq_not_any_not, List.contains_eq_any_beq]
      congr 2
      funext x
      rw [Bool.not_not, Bool.eq_iff_iff, decide_eq_true_eq, beq_iff_eq]
      exact eq_comm
    rw [e]
    cases l.contains n <;> rfl
  · intro i hi
    simp only [s_l1Has_l0_S]
    rw [if_pos (lt_nat hi), ckT (ix_nat hi), Int.toNat_natCast, wrS i (by omega)]
    by_cases hq : l.getD i default = n
    · rw [if_pos hq, decide_eq_true hq]; rfl
    · rw [if_neg hq, decide_eq_false hq]; rfl
  · simp only [s_l1Has_l0_S]; rw [if_neg (not_lt_nat _)]
theorem s_l1Has_cl (l : List Int) (n_ : Int) (h0 : l.length < 1099511627776) : Y.call 99 [D.sl 3 (lst (D.int .i64) l), D.int .i64 n_] [] = some (D.bool (l.contains n_), []) := s_l1Has_call l n_ (s_l1Has_eq l n_ h0)
theorem index_eq (l : List Int) (n : Int) (h : l.length < 1099511627776) : ∃ r, g_slices_Index_Sint_int l n = some r ∧ (0 ≤ r ↔ l.contains n = true) := by
  unfold g_slices_Index_Sint_int g_slices_Index_Sint_int_l0
  by_cases ha : ∀ i, i < l.length → (!decide (n = l.getD i default)) = true
  · have key := itO_for (fun v => g_slices_Index_Sint_int_l0_S l n v) (fun i => (i : Int)) l.length (.inr ()) ?_ ?_
    · simp only [Int.natCast_zero] at key
      rw [key]
      refine ⟨-1, rfl, by simp, fun hc => ?_⟩
      obtain ⟨i, hi, he⟩ := List.getElem_of_mem (List.contains_iff_mem.1 hc)
      have := ha i hi
      rw [getD_get _ _ hi, he] at this; simp at this
    · intro i hi
      simp only [g_slices_Index_Sint_int_l0_S]
      have e := ha i hi
      rw [if_pos (lt_nat hi), ckT (ix_nat hi), Int.toNat_natCast, if_neg (by simpa using e), wrS i (by omega)]
    · simp only [g_slices_Index_Sint_int_l0_S]; rw [if_neg (not_lt_nat _)]
  · obtain ⟨m, h1, h2, h3⟩ := first_fail (P := fun i => !decide (n = l.getD i default)) ha
    have h2' : n = l.getD m default := by simpa using h2
    have key := itO_for (fun v => g_slices_Index_Sint_int_l0_S l n v) (fun i => (i : Int)) m (.inl (m : Int)) ?_ ?_
    · simp only [Int.natCast_zero] at key
      rw [key]
      refine ⟨(m : Int), rfl, fun _ => ?_, fun _ => by omega⟩
      rw [h2', getD_get _ _ h1]
      exact List.contains_iff_mem.2 (List.getElem_mem h1)
    · intro i hi
      simp only [g_slices_Index_Sint_int_l0_S]
      have e := h3 i hi
      rw [if_pos (lt_nat (by omega)), ckT (ix_nat (by omega)), Int.toNat_natCast, if_neg (by simpa using e), wrS i (by omega)]
    · simp only [g_slices_Index_Sint_int_l0_S]
      rw [if_pos (lt_nat h1), ckT (ix_nat h1), Int.toNat_natCast, if_pos h2']
theorem g_slices_Contains_Sint_int_eq (l : List Int) (n : Int) (h : l.length < 1099511627776) : g_slices_Contains_Sint_int l n = some (l.contains n) := by
  obtain ⟨r, h1, h2⟩ := index_eq l n h
  unfold g_slices_Contains_Sint_int
  rw [h1, Option.bind_some]
  congr 1
  rw [Bool.eq_iff_iff]; simpa using h2
theorem g_slices_Contains_Sint_int_cl (s_ : List Int) (v_ : Int) (h0 : s_.length < 1099511627776) : Y.call 103 [D.sl 3 (lst (D.int .i64) s_), D.int .i64 v_] [] = some (D.bool (s_.contains v_), []) := g_slices_Contains_Sint_int_call s_ v_ (g_slices_Contains_Sint_int_eq s_ v_ h0)
noncomputable def s_prAll_l0_S (x_ : List Int) (set_ : List Int) (t9_ : Int) : Option ((Int) ⊕ (Unit ⊕ Unit)) :=
  if t9_ < (x_.length : Int) then
    ck (0 ≤ t9_ ∧ t9_.toNat < x_.length) <|
    ck (set_.length < 1099511627776) <|
    if (set_.contains (x_.getD t9_.toNat default)) = true then
      some (Sum.inl (IntKind.i64.wrap (t9_ + 1)))
    else
      some (Sum.inr (Sum.inl ()))
  else
    some (Sum.inr (Sum.inr ()))
noncomputable def s_prAll_l0 (x_ : List Int) (set_ : List Int) (v : Int) : Option (Unit ⊕ Unit) := itO (fun v => s_prAll_l0_S x_ set_ v) v
noncomputable def s_prAll (x_ : List Int) (set_ : List Int) : Option (Bool) :=
  (s_prAll_l0 x_ set_ 0).bind fun r2_ =>
  match r2_ with
  | .inl q2_ =>
    some false
  | .inr q2_ =>
    some true
/-- spec.prAll -/
def k100_l0b : SC :=
  .seq
    (.ops [
      ⟨(some 10), (Op.binOp BinOp.lss 3 (Operand.tmp 9) (Operand.tmp 8) 3), 0, none⟩])
    (.seq
      (.cond (Operand.tmp 10)
        .skip
        (.exit 0))
      (.seq
        (.block 1
          (.seq
            (.ops [
              ⟨(some 11), (Op.indexAddr 25 (Operand.tmp 7) (Operand.tmp 9)), 0, none⟩,
              ⟨(some 12), (Op.load 3 (Operand.tmp 11)), 3, none⟩,
              ⟨(some 6), (Op.assign (Operand.tmp 12)), 3, none⟩])
            (.seq
              (.ops [
                ⟨(some 13), (Op.move (Operand.tmp 1)), 25, none⟩,
                ⟨(some 14), (Op.move (Operand.tmp 6)), 3, none⟩,
                ⟨(some 15), (Op.call { callee := (Callee.value (Operand.func 99)), args := #[(Operand.tmp 13), (Operand.tmp 14)], argTypes := #[25, 3] }), 4, none⟩,
                ⟨(some 16), (Op.unOp UnOp.not 4 (Operand.tmp 15)), 4, none⟩])
              (.cond (Operand.tmp 16)
                (.seq
                  (.ops [
                    ⟨(some 4), (Op.assign (Operand.const (Value.bool false))), 4, none⟩])
                  .ret)
                .skip))))
        (.ops [
          ⟨(some 17), (Op.binOp BinOp.add 3 (Operand.tmp 9) (Operand.const (Value.int IntKind.i64 1)) 3), 3, none⟩,
          ⟨(some 9), (Op.move (Operand.tmp 17)), 3, none⟩])))
def k100_l0 : SC := .loop k100_l0b
def k100 : SC :=
  .seq
    (.ops [
      ⟨(some 4), (Op.assign (Operand.const (Value.bool false))), 4, none⟩])
    (.seq
      (.seq
        (.ops [
          ⟨(some 7), (Op.move (Operand.tmp 0)), 25, none⟩,
          ⟨(some 8), (Op.call { callee := (Callee.builtin Builtin.len), args := #[(Operand.tmp 7)], argTypes := #[25] }), 3, none⟩,
          ⟨(some 9), (Op.move (Operand.const (Value.int IntKind.i64 0))), 3, none⟩])
        (.block 0
          k100_l0))
      (.seq
        (.ops [
          ⟨(some 4), (Op.assign (Operand.const (Value.bool true))), 4, none⟩])
        .ret))
theorem slim100 : Try.f100.body.map (slim lends) = some k100 := by kernel_rfl
theorem ok100 : fnOk Try.f100 2 = true := by kernel_rfl
theorem c100 {a l : List D} {r : D × List D} (h : wpD Y.env k100 (fin tys l.length [ResultVar.tmp 4] r) (entry a l)) (ha : a.length = 2) : Y.call 100 a l = some r :=
  call_slim (Y := Y) rfl Try.func100 (ha ▸ ok100) slim100 h
def s_prAll_l0_M (x_ : List Int) (set_ : List Int) (t9_ : Int) (s : St) : Prop := s.v 1 = D.sl 3 (lst (D.int .i64) set_) ∧ s.v 7 = D.sl 3 (lst (D.int .i64) x_) ∧ s.v 8 = D.int .i64 (x_.length : Int) ∧ s.v 9 = D.int .i64 t9_
def s_prAll_l0_X (x_ : List Int) (set_ : List Int) (r : Unit ⊕ Unit) (ex : Ex) (s : St) : Prop := match r with
  | .inl q => ex = .ret ∧ s.v 4 = D.bool false
  | .inr q => ex = .exit 0
theorem s_prAll_l0_wp (x_ : List Int) (set_ : List Int) {v : Int} {s : St} {r : Unit ⊕ Unit} (h : s_prAll_l0 x_ set_ v = some r) (hM : s_prAll_l0_M x_ set_ v s) : wpD Y.env k100_l0 (s_prAll_l0_X x_ set_ r) s := by
  unfold s_prAll_l0 at h
  refine wd_itO (c := k100_l0b) (fun v => s_prAll_l0_S x_ set_ v) (fun v s => s_prAll_l0_M x_ set_ v s) (s_prAll_l0_X x_ set_) ?_ h hM
  clear h hM s v r
  intro t9_ s o hM h
  unfold s_prAll_l0_S at h
  unfold s_prAll_l0_M at hM
  obtain ⟨m0, m1, m2, m3⟩ := hM
  unfold k100_l0b
  by_cases e1 : t9_ < (x_.length : Int)
  · rw [if_pos e1] at h
    obtain ⟨e2, h⟩ := ckS h
    obtain ⟨e3, h⟩ := ckS h
    have c4 := s_l1Has_cl set_ (x_.getD t9_.toNat default) e3
    by_cases e5 : (set_.contains (x_.getD t9_.toNat default)) = true
    · rw [if_pos e5] at h
      obtain rfl := Option.some.inj h
      simp (maxDischargeDepth := 9) only [↓xpre, xpost, xlst, xcore, yset, rg0, ↓reduceIte, Nat.reduceEqDiff, Nat.reduceLT, Nat.reduceLeDiff, Nat.reduceAdd, Nat.reduceMul, Nat.reduceMod, Nat.reduceSub, Nat.reduceBEq, Int.reduceLE, Int.reduceLT, Int.reduceEq, Int.reduceSub, Int.reduceAdd, Int.reduceToNat, Int.reduceNeg, m0, m1, m2, m3, e1, e2.1, e2.2, e3, c4, e5, s_prAll_l0_M, s_prAll_l0_X, sxN, sxE, sxR] <;> (repeat' apply And.intro) <;> first | rfl | exact ⟨_, rfl⟩ | simp [lst]
    · rw [if_neg e5] at h
      have e5f : (set_.contains (x_.getD t9_.toNat default)) = false := Bool.eq_false_iff.mpr e5
      obtain rfl := Option.some.inj h
      simp (maxDischargeDepth := 9) only [↓xpre, xpost, xlst, xcore, yset, rg0, ↓reduceIte, Nat.reduceEqDiff, Nat.reduceLT, Nat.reduceLeDiff, Nat.reduceAdd, Nat.reduceMul, Nat.reduceMod, Nat.reduceSub, Nat.reduceBEq, Int.reduceLE, Int.reduceLT, Int.reduceEq, Int.reduceSub, Int.reduceAdd, Int.reduceToNat, Int.reduceNeg, m0, m1, m2, m3, e1, e2.1, e2.2, e3, c4, e5f, s_prAll_l0_M, s_prAll_l0_X, sxN, sxE, sxR] <;> (repeat' apply And.intro) <;> first | rfl | exact ⟨_, rfl⟩ | simp [lst]
  · rw [if_neg e1] at h
    obtain rfl := Option.some.inj h
    simp (maxDischargeDepth := 9) only [↓xpre, xpost, xlst, xcore, yset, rg0, ↓reduceIte, Nat.reduceEqDiff, Nat.reduceLT, Nat.reduceLeDiff, Nat.reduceAdd, Nat.reduceMul, Nat.reduceMod, Nat.reduceSub, Nat.reduceBEq, Int.reduceLE, Int.reduceLT, Int.reduceEq, Int.reduceSub, Int.reduceAdd, Int.reduceToNat, Int.reduceNeg, m0, m1, m2, m3, e1, s_prAll_l0_M, s_prAll_l0_X, sxN, sxE, sxR] <;> (repeat' apply And.intro) <;> first | rfl | exact ⟨_, rfl⟩ | simp [lst]
theorem s_prAll_call (x_ : List Int) (set_ : List Int) {r : Bool} (h : s_prAll x_ set_ = some r) : Y.call 100 [D.sl 3 (lst (D.int .i64) x_), D.sl 3 (lst (D.int .i64) set_)] [] = some (D.bool r, []) := by
  refine c100 ?_ rfl
  unfold k100
  unfold s_prAll at h
  obtain ⟨r2_, hl2, h⟩ := bindS h
  try dsimp only at h
  simp (maxDischargeDepth := 9) only [↓xpre, xpost, xlst, xcore, yset, rg0, ↓reduceIte, Nat.reduceEqDiff, Nat.reduceLT, Nat.reduceLeDiff, Nat.reduceAdd, Nat.reduceMul, Nat.reduceMod, Nat.reduceSub, Nat.reduceBEq, Int.reduceLE, Int.reduceLT, Int.reduceEq, Int.reduceSub, Int.reduceAdd, Int.reduceToNat, Int.reduceNeg]
  refine wd_mono (s_prAll_l0_wp x_ set_ hl2 ?_) ?_
  · simp (maxDischargeDepth := 9) only [↓xpre, xpost, xlst, xcore, yset, rg0, ↓reduceIte, Nat.reduceEqDiff, Nat.reduceLT, Nat.reduceLeDiff, Nat.reduceAdd, Nat.reduceMul, Nat.reduceMod, Nat.reduceSub, Nat.reduceBEq, Int.reduceLE, Int.reduceLT, Int.reduceEq, Int.reduceSub, Int.reduceAdd, Int.reduceToNat, Int.reduceNeg, s_prAll_l0_M] <;> (repeat' apply And.intro) <;> first | rfl | exact ⟨_, rfl⟩ | simp [lst]
  · intro ex2 s2 hX2
    rcases r2_ with q2_ | q2_
    · unfold s_prAll_l0_X at hX2
      dsimp only at hX2 h
      obtain ⟨rfl, n2_0⟩ := hX2
      obtain rfl := Option.some.inj h
      simp (maxDischargeDepth := 9) only [↓xpre, xpost, xlst, xcore, yset, rg0, ↓reduceIte, Nat.reduceEqDiff, Nat.reduceLT, Nat.reduceLeDiff, Nat.reduceAdd, Nat.reduceMul, Nat.reduceMod, Nat.reduceSub, Nat.reduceBEq, Int.reduceLE, Int.reduceLT, Int.reduceEq, Int.reduceSub, Int.reduceAdd, Int.reduceToNat, Int.reduceNeg, n2_0] <;> (repeat' apply And.intro) <;> first | rfl | exact ⟨_, rfl⟩ | simp [lst]
    · unfold s_prAll_l0_X at hX2
      dsimp only at hX2 h
      obtain rfl := hX2
      obtain rfl := Option.some.inj h
      simp (maxDischargeDepth := 9) only [↓xpre, xpost, xlst, xcore, yset, rg0, ↓reduceIte, Nat.reduceEqDiff, Nat.reduceLT, Nat.reduceLeDiff, Nat.reduceAdd, Nat.reduceMul, Nat.reduceMod, Nat.reduceSub, Nat.reduceBEq, Int.reduceLE, Int.reduceLT, Int.reduceEq, Int.reduceSub, Int.reduceAdd, Int.reduceToNat, Int.reduceNeg] <;> (repeat' apply And.intro) <;> first | rfl | exact ⟨_, rfl⟩ | simp [lst]

theorem s_prAll_eq (x s : List Int) (h : x.length < 1099511627776) (hs : s.length < 1099511627776) : s_prAll x s = some (x.all fun y => s.contains y) := by
  unfold s_prAll s_prAll_l0
  have key := itO_all (fun v => s_prAll_l0_S x s v) (fun i => (i : Int)) x.length (fun i => s.contains (x.getD i default)) (.inl ()) (.inr ()) ?_ ?_
  · simp only [Int.natCast_zero] at key
    rw [key, all_getD (fun y => s.contains y)]
    cases x.all (fun y => s.contains y) <;> rfl
  · intro i hi
    simp only [s_prAll_l0_S]
    rw [if_pos (lt_nat hi), ckT (ix_nat hi), ckT hs, Int.toNat_natCast, wrS i (by omega)]
  · simp only [s_prAll_l0_S]; rw [if_neg (not_lt_nat _)]
theorem s_prAll_cl (x_ : List Int) (set_ : List Int) (h0 : x_.length < 1099511627776) (h1 : set_.length < 1099511627776) : Y.call 100 [D.sl 3 (lst (D.int .i64) x_), D.sl 3 (lst (D.int .i64) set_)] [] = some (D.bool (x_.all fun y => set_.contains y), []) := s_prAll_call x_ set_ (s_prAll_eq x_ set_ h0 h1)
noncomputable def s_prWithin_l0_S (l : List (List Int)) (a : Int) (set_ : List Int) (t11_ : Int) : Option ((Int) ⊕ (Unit ⊕ Unit)) :=
  if t11_ < (l.length : Int) then
    ck (0 ≤ t11_ ∧ t11_.toNat < l.length) <|
    ck ((l.getD t11_.toNat default).length < 1099511627776) <|
    if ((l.getD t11_.toNat default).contains a) = true then
      ck (set_.length < 1099511627776) <|
      if ((l.getD t11_.toNat default).all fun y => set_.contains y) = true then
        some (Sum.inr (Sum.inl ()))
      else
        some (Sum.inl (IntKind.i64.wrap (t11_ + 1)))
    else
      some (Sum.inl (IntKind.i64.wrap (t11_ + 1)))
  else
    some (Sum.inr (Sum.inr ()))
noncomputable def s_prWithin_l0 (l : List (List Int)) (a : Int) (set_ : List Int) (v : Int) : Option (Unit ⊕ Unit) := itO (fun v => s_prWithin_l0_S l a set_ v) v
noncomputable def s_prWithin (l : List (List Int)) (a : Int) (set_ : List Int) : Option (Bool) :=
  (s_prWithin_l0 l a set_ 0).bind fun r2_ =>
  match r2_ with
  | .inl q2_ =>
    some true
  | .inr q2_ =>
    some false
/-- spec.prWithin -/
def k87_l0b : SC :=
  .seq
    (.ops [
      ⟨(some 12), (Op.binOp BinOp.lss 3 (Operand.tmp 11) (Operand.tmp 10) 3), 0, none⟩])
    (.seq
      (.cond (Operand.tmp 12)
        .skip
        (.exit 0))
      (.seq
        (.block 1
          (.seq
            (.ops [
              ⟨(some 13), (Op.indexAddr 34 (Operand.tmp 9) (Operand.tmp 11)), 0, none⟩,
              ⟨(some 14), (Op.load 25 (Operand.tmp 13)), 25, none⟩,
              ⟨(some 8), (Op.assign (Operand.tmp 14)), 25, none⟩])
            (.seq
              (.ops [
                ⟨(some 15), (Op.move (Operand.tmp 8)), 25, none⟩,
                ⟨(some 16), (Op.move (Operand.tmp 1)), 3, none⟩,
                ⟨(some 17), (Op.call { callee := (Callee.value (Operand.func 99)), args := #[(Operand.tmp 15), (Operand.tmp 16)], argTypes := #[25, 3] }), 4, none⟩,
                ⟨(some 18), (Op.move (Operand.tmp 17)), 4, none⟩,
                ⟨(some 19), (Op.move (Operand.tmp 8)), 25, (some (some 18, true))⟩,
                ⟨(some 20), (Op.move (Operand.tmp 2)), 25, (some (some 18, true))⟩,
                ⟨(some 21), (Op.call { callee := (Callee.value (Operand.func 100)), args := #[(Operand.tmp 19), (Operand.tmp 20)], argTypes := #[25, 25] }), 4, (some (some 18, true))⟩,
                ⟨(some 22), (Op.pick (Operand.tmp 18) (Operand.tmp 21) (Operand.const (Value.bool false))), 4, none⟩])
              (.cond (Operand.tmp 22)
                (.seq
                  (.ops [
                    ⟨(some 6), (Op.assign (Operand.const (Value.bool true))), 4, none⟩])
                  .ret)
                .skip))))
        (.ops [
          ⟨(some 23), (Op.binOp BinOp.add 3 (Operand.tmp 11) (Operand.const (Value.int IntKind.i64 1)) 3), 3, none⟩,
          ⟨(some 11), (Op.move (Operand.tmp 23)), 3, none⟩])))
def k87_l0 : SC := .loop k87_l0b
def k87 : SC :=
  .seq
    (.ops [
      ⟨(some 6), (Op.assign (Operand.const (Value.bool false))), 4, none⟩])
    (.seq
      (.seq
        (.ops [
          ⟨(some 9), (Op.move (Operand.tmp 0)), 34, none⟩,
          ⟨(some 10), (Op.call { callee := (Callee.builtin Builtin.len), args := #[(Operand.tmp 9)], argTypes := #[34] }), 3, none⟩,
          ⟨(some 11), (Op.move (Operand.const (Value.int IntKind.i64 0))), 3, none⟩])
        (.block 0
          k87_l0))
      (.seq
        (.ops [
          ⟨(some 6), (Op.assign (Operand.const (Value.bool false))), 4, none⟩])
        .ret))
theorem slim87 : Try.f87.body.map (slim lends) = some k87 := by kernel_rfl
theorem ok87 : fnOk Try.f87 3 = true := by kernel_rfl
theorem c87 {a l : List D} {r : D × List D} (h : wpD Y.env k87 (fin tys l.length [ResultVar.tmp 6] r) (entry a l)) (ha : a.length = 3) : Y.call 87 a l = some r :=
  call_slim (Y := Y) rfl Try.func87 (ha ▸ ok87) slim87 h
def s_prWithin_l0_M (l : List (List Int)) (a : Int) (set_ : List Int) (t11_ : Int) (s : St) : Prop := s.v 1 = D.int .i64 a ∧ s.v 2 = D.sl 3 (lst (D.int .i64) set_) ∧ s.v 9 = D.sl 25 (lst (fun x => D.sl 3 (lst (D.int .i64) x)) l) ∧ s.v 10 = D.int .i64 (l.length : Int) ∧ s.v 11 = D.int .i64 t11_
def s_prWithin_l0_X (l : List (List Int)) (a : Int) (set_ : List Int) (r : Unit ⊕ Unit) (ex : Ex) (s : St) : Prop := match r with
  | .inl q => ex = .ret ∧ s.v 6 = D.bool true
  | .inr q => ex = .exit 0
theorem s_prWithin_l0_wp (l : List (List Int)) (a : Int) (set_ : List Int) {v : Int} {s : St} {r : Unit ⊕ Unit} (h : s_prWithin_l0 l a set_ v = some r) (hM : s_prWithin_l0_M l a set_ v s) : wpD Y.env k87_l0 (s_prWithin_l0_X l a set_ r) s := by
  unfold s_prWithin_l0 at h
  refine wd_itO (c := k87_l0b) (fun v => s_prWithin_l0_S l a set_ v) (fun v s => s_prWithin_l0_M l a set_ v s) (s_prWithin_l0_X l a set_) ?_ h hM
  clear h hM s v r
  intro t11_ s o hM h
  unfold s_prWithin_l0_S at h
  unfold s_prWithin_l0_M at hM
  obtain ⟨m0, m1, m2, m3, m4⟩ := hM
  unfold k87_l0b
  by_cases e1 : t11_ < (l.length : Int)
  · rw [if_pos e1] at h
    obtain ⟨e2, h⟩ := ckS h
    obtain ⟨e3, h⟩ := ckS h
    have c4 := s_l1Has_cl (l.getD t11_.toNat default) a e3
    by_cases e5 : ((l.getD t11_.toNat default).contains a) = true
    · rw [if_pos e5] at h
      obtain ⟨e6, h⟩ := ckS h
      have c7 := s_prAll_cl (l.getD t11_.toNat default) set_ e3 e6
      by_cases e8 : ((l.getD t11_.toNat default).all fun y => set_.contains y) = true
      · rw [if_pos e8] at h
        obtain rfl := Option.some.inj h
        simp (maxDischargeDepth := 9) only [↓xpre, xpost, xlst, xcore, yset, rg0, ↓reduceIte, Nat.reduceEqDiff, Nat.reduceLT, Nat.reduceLeDiff, Nat.reduceAdd, Nat.reduceMul, Nat.reduceMod, Nat.reduceSub, Nat.reduceBEq, Int.reduceLE, Int.reduceLT, Int.reduceEq, Int.reduceSub, Int.reduceAdd, Int.reduceToNat, Int.reduceNeg, m0, m1, m2, m3, m4, e1, e2.1, e2.2, e3, c4, e5, e6, c7, e8, s_prWithin_l0_M, s_prWithin_l0_X, sxN, sxE, sxR] <;> (repeat' apply And.intro) <;> first | rfl | exact ⟨_, rfl⟩ | simp [lst]
      · rw [if_neg e8] at h
        have e8f : ((l.getD t11_.toNat default).all fun y => set_.contains y) = false := Bool.eq_false_iff.mpr e8
        obtain rfl := Option.some.inj h
        simp (maxDischargeDepth := 9) only [↓xpre, xpost, xlst, xcore, yset, rg0, ↓reduceIte, Nat.reduceEqDiff, Nat.reduceLT, Nat.reduceLeDiff, Nat.reduceAdd, Nat.reduceMul, Nat.reduceMod, Nat.reduceSub, Nat.reduceBEq, Int.reduceLE, Int.reduceLT, Int.reduceEq, Int.reduceSub, Int.reduceAdd, Int.reduceToNat, Int.reduceNeg, m0, m1, m2, m3, m4, e1, e2.1, e2.2, e3, c4, e5, e6, c7, e8f, s_prWithin_l0_M, s_prWithin_l0_X, sxN, sxE, sxR] <;> (repeat' apply And.intro) <;> first | rfl | exact ⟨_, rfl⟩ | simp [lst]
    · rw [if_neg e5] at h
      have e5f : ((l.getD t11_.toNat default).contains a) = false := Bool.eq_false_iff.mpr e5
      obtain rfl := Option.some.inj h
      simp (maxDischargeDepth := 9) only [↓xpre, xpost, xlst, xcore, yset, rg0, ↓reduceIte, Nat.reduceEqDiff, Nat.reduceLT, Nat.reduceLeDiff, Nat.reduceAdd, Nat.reduceMul, Nat.reduceMod, Nat.reduceSub, Nat.reduceBEq, Int.reduceLE, Int.reduceLT, Int.reduceEq, Int.reduceSub, Int.reduceAdd, Int.reduceToNat, Int.reduceNeg, m0, m1, m2, m3, m4, e1, e2.1, e2.2, e3, c4, e5f, s_prWithin_l0_M, s_prWithin_l0_X, sxN, sxE, sxR] <;> (repeat' apply And.intro) <;> first | rfl | exact ⟨_, rfl⟩ | simp [lst]
  · rw [if_neg e1] at h
    obtain rfl := Option.some.inj h
    simp (maxDischargeDepth := 9) only [↓xpre, xpost, xlst, xcore, yset, rg0, ↓reduceIte, Nat.reduceEqDiff, Nat.reduceLT, Nat.reduceLeDiff, Nat.reduceAdd, Nat.reduceMul, Nat.reduceMod, Nat.reduceSub, Nat.reduceBEq, Int.reduceLE, Int.reduceLT, Int.reduceEq, Int.reduceSub, Int.reduceAdd, Int.reduceToNat, Int.reduceNeg, m0, m1, m2, m3, m4, e1, s_prWithin_l0_M, s_prWithin_l0_X, sxN, sxE, sxR] <;> (repeat' apply And.intro) <;> first | rfl | exact ⟨_, rfl⟩ | simp [lst]
theorem s_prWithin_call (l : List (List Int)) (a : Int) (set_ : List Int) {r : Bool} (h : s_prWithin l a set_ = some r) : Y.call 87 [D.sl 25 (lst (fun x => D.sl 3 (lst (D.int .i64) x)) l), D.int .i64 a, D.sl 3 (lst (D.int .i64) set_)] [] = some (D.bool r, []) := by
  refine c87 ?_ rfl
  unfold k87
  unfold s_prWithin at h
  obtain ⟨r2_, hl2, h⟩ := bindS h
  try dsimp only at h
  simp (maxDischargeDepth := 9) only [↓xpre, xpost, xlst, xcore, yset, rg0, ↓reduceIte, Nat.reduceEqDiff, Nat.reduceLT, Nat.reduceLeDiff, Nat.reduceAdd, Nat.reduceMul, Nat.reduceMod, Nat.reduceSub, Nat.reduceBEq, Int.reduceLE, Int.reduceLT, Int.reduceEq, Int.reduceSub, Int.reduceAdd, Int.reduceToNat, Int.reduceNeg]
  refine wd_mono (s_prWithin_l0_wp l a set_ hl2 ?_) ?_
  · simp (maxDischargeDepth := 9) only [↓xpre, xpost, xlst, xcore, yset, rg0, ↓reduceIte, Nat.reduceEqDiff, Nat.reduceLT, Nat.reduceLeDiff, Nat.reduceAdd, Nat.reduceMul, Nat.reduceMod, Nat.reduceSub, Nat.reduceBEq, Int.reduceLE, Int.reduceLT, Int.reduceEq, Int.reduceSub, Int.reduceAdd, Int.reduceToNat, Int.reduceNeg, s_prWithin_l0_M] <;> (repeat' apply And.intro) <;> first | rfl | exact ⟨_, rfl⟩ | simp [lst]
  · intro ex2 s2 hX2
    rcases r2_ with q2_ | q2_
    · unfold s_prWithin_l0_X at hX2
      dsimp only at hX2 h
      obtain ⟨rfl, n2_0⟩ := hX2
      obtain rfl := Option.some.inj h
      simp (maxDischargeDepth := 9) only [↓xpre, xpost, xlst, xcore, yset, rg0, ↓reduceIte, Nat.reduceEqDiff, Nat.reduceLT, Nat.reduceLeDiff, Nat.reduceAdd, Nat.reduceMul, Nat.reduceMod, Nat.reduceSub, Nat.reduceBEq, Int.reduceLE, Int.reduceLT, Int.reduceEq, Int.reduceSub, Int.reduceAdd, Int.reduceToNat, Int.reduceNeg, n2_0] <;> (repeat' apply And.intro) <;> first | rfl | exact ⟨_, rfl⟩ | simp [lst]
    · unfold s_prWithin_l0_X at hX2
      dsimp only at hX2 h
      obtain rfl := hX2
      obtain rfl := Option.some.inj h
      simp (maxDischargeDepth := 9) only [↓xpre, xpost, xlst, xcore, yset, rg0, ↓reduceIte, Nat.reduceEqDiff, Nat.reduceLT, Nat.reduceLeDiff, Nat.reduceAdd, Nat.reduceMul, Nat.reduceMod, Nat.reduceSub, Nat.reduceBEq, Int.reduceLE, Int.reduceLT, Int.reduceEq, Int.reduceSub, Int.reduceAdd, Int.reduceToNat, Int.reduceNeg] <;> (repeat' apply And.intro) <;> first | rfl | exact ⟨_, rfl⟩ | simp [lst]

theorem s_prWithin_eq (l : List (List Int)) (a : Int) (s : List Int) (h : Short l) (hs : s.length < 1099511627776) : s_prWithin l a s = some (l.any fun x => x.contains a && x.all fun y => s.contains y) := by
  have h1 := h.1
  unfold s_prWithin s_prWithin_l0
  have key := itO_all (fun v => s_prWithin_l0_S l a s v) (fun i => (i : Int)) l.length (fun i => !((l.getD i default).contains a && (l.getD i default).all fun y => s.contains y)) (.inl ()) (.inr ()) ?_ ?_
  · simp only [Int.natCast_zero] at key
    rw [key, all_getD (fun (x : List Int) => !(x.contains a && x.all fun y => s.contains y)), List.all_eq_not_any_not]
    simp only [Bool.not_not]
    cases l.any (fun x => x.contains a && x.all fun y => s.contains y) <;> rfl
  · intro i hi
    simp only [s_prWithin_l0_S]
    have hx := h.getD i
    rw [if_pos (lt_nat hi), ckT (ix_nat hi), Int.toNat_natCast, wrS i (by omega), ckT hx, ckT hs]
    cases (l.getD i default).contains a with
    | false => simp
    | true =>
      simp only [if_true, Bool.true_and]
      cases (l.getD i default).all (fun y => s.contains y) <;> rfl
  · simp only [s_prWithin_l0_S]; rw [if_neg (not_lt_nat _)]
theorem s_prWithin_cl (l : List (List Int)) (a : Int) (set_ : List Int) (h0 : Short l) (h1 : set_.length < 1099511627776) : Y.call 87 [D.sl 25 (lst (fun x => D.sl 3 (lst (D.int .i64) x)) l), D.int .i64 a, D.sl 3 (lst (D.int .i64) set_)] [] = some (D.bool (l.any fun x => x.contains a && x.all fun y => set_.contains y), []) := s_prWithin_call l a set_ (s_prWithin_eq l a set_ h0 h1)
noncomputable def g_slices_IndexFunc_SSint_Sint_l0_S (s_ : List (List Int)) (f : (List Int) → Option Bool) (t8_ : Int) : Option ((Int) ⊕ (Int ⊕ Unit)) :=
  if t8_ < (s_.length : Int) then
    ck (0 ≤ t8_ ∧ t8_.toNat < s_.length) <|
    (f (s_.getD t8_.toNat default)).bind fun r3_ =>
    if r3_ = true then
      some (Sum.inr (Sum.inl t8_))
    else
      some (Sum.inl (IntKind.i64.wrap (t8_ + 1)))
  else
    some (Sum.inr (Sum.inr ()))
noncomputable def g_slices_IndexFunc_SSint_Sint_l0 (s_ : List (List Int)) (f : (List Int) → Option Bool) (v : Int) : Option (Int ⊕ Unit) := itO (fun v => g_slices_IndexFunc_SSint_Sint_l0_S s_ f v) v
noncomputable def g_slices_IndexFunc_SSint_Sint (s_ : List (List Int)) (f : (List Int) → Option Bool) : Option (Int) :=
  (g_slices_IndexFunc_SSint_Sint_l0 s_ f 0).bind fun r2_ =>
  match r2_ with
  | .inl q2_ =>
    some q2_
  | .inr q2_ =>
    some (-1)
/-- slices.IndexFunc[[][]int,[]int] -/
def k107_l0b : SC :=
  .seq
    (.ops [
      ⟨(some 9), (Op.binOp BinOp.lss 3 (Operand.tmp 8) (Operand.tmp 7) 3), 0, none⟩])
    (.seq
      (.cond (Operand.tmp 9)
        .skip
        (.exit 0))
      (.seq
        (.block 1
          (.seq
            (.ops [
              ⟨(some 10), (Op.move (Operand.tmp 8)), 3, none⟩,
              ⟨(some 5), (Op.assign (Operand.tmp 10)), 3, none⟩])
            (.seq
              (.ops [
                ⟨(some 11), (Op.move (Operand.tmp 1)), 30, none⟩,
                ⟨(some 12), (Op.move (Operand.tmp 0)), 34, none⟩,
                ⟨(some 13), (Op.move (Operand.tmp 5)), 3, none⟩,
                ⟨(some 14), (Op.indexAddr 34 (Operand.tmp 12) (Operand.tmp 13)), 0, none⟩,
                ⟨(some 15), (Op.load 25 (Operand.tmp 14)), 25, none⟩,
                ⟨(some 16), (Op.call { callee := (Callee.value (Operand.tmp 11)), args := #[(Operand.tmp 15)], argTypes := #[25] }), 4, none⟩])
              (.cond (Operand.tmp 16)
                (.seq
                  (.ops [
                    ⟨(some 17), (Op.move (Operand.tmp 5)), 3, none⟩,
                    ⟨(some 4), (Op.assign (Operand.tmp 17)), 3, none⟩])
                  .ret)
                .skip))))
        (.ops [
          ⟨(some 18), (Op.binOp BinOp.add 3 (Operand.tmp 8) (Operand.const (Value.int IntKind.i64 1)) 3), 3, none⟩,
          ⟨(some 8), (Op.move (Operand.tmp 18)), 3, none⟩])))
def k107_l0 : SC := .loop k107_l0b
def k107 : SC :=
  .seq
    (.ops [
      ⟨(some 4), (Op.assign (Operand.const (Value.int IntKind.i64 0))), 3, none⟩])
    (.seq
      (.seq
        (.ops [
          ⟨(some 6), (Op.move (Operand.tmp 0)), 34, none⟩,
          ⟨(some 7), (Op.call { callee := (Callee.builtin Builtin.len), args := #[(Operand.tmp 6)], argTypes := #[34] }), 3, none⟩,
          ⟨(some 8), (Op.move (Operand.const (Value.int IntKind.i64 0))), 3, none⟩])
        (.block 0
          k107_l0))
      (.seq
        (.ops [
          ⟨(some 4), (Op.assign (Operand.const (Value.int IntKind.i64 (-1)))), 3, none⟩])
        .ret))
theorem slim107 : Try.f107.body.map (slim lends) = some k107 := by kernel_rfl
theorem ok107 : fnOk Try.f107 2 = true := by kernel_rfl
theorem c107 {a l : List D} {r : D × List D} (h : wpD Y.env k107 (fin tys l.length [ResultVar.tmp 4] r) (entry a l)) (ha : a.length = 2) : Y.call 107 a l = some r :=
  call_slim (Y := Y) rfl Try.func107 (ha ▸ ok107) slim107 h
def g_slices_IndexFunc_SSint_Sint_l0_M (s_ : List (List Int)) (f : (List Int) → Option Bool) (f_f : FuncId) (f_c : List D) (t8_ : Int) (s : St) : Prop := s.v 0 = D.sl 25 (lst (fun x => D.sl 3 (lst (D.int .i64) x)) s_) ∧ s.v 1 = D.clo f_f f_c ∧ s.v 7 = D.int .i64 (s_.length : Int) ∧ s.v 8 = D.int .i64 t8_
def g_slices_IndexFunc_SSint_Sint_l0_X (s_ : List (List Int)) (f : (List Int) → Option Bool) (f_f : FuncId) (f_c : List D) (r : Int ⊕ Unit) (ex : Ex) (s : St) : Prop := match r with
  | .inl q => ex = .ret ∧ s.v 4 = D.int .i64 q
  | .inr q => ex = .exit 0
theorem g_slices_IndexFunc_SSint_Sint_l0_wp (s_ : List (List Int)) (f : (List Int) → Option Bool) (f_f : FuncId) (f_c : List D) (f_h : ∀ (a0 : List Int) (r : Bool), f a0 = some r → Y.call f_f (D.sl 3 (lst (D.int .i64) a0) :: f_c) [] = some (D.bool r, [])) (f_l : lends f_f = false) {v : Int} {s : St} {r : Int ⊕ Unit} (h : g_slices_IndexFunc_SSint_Sint_l0 s_ f v = some r) (hM : g_slices_IndexFunc_SSint_Sint_l0_M s_ f f_f f_c v s) : wpD Y.env k107_l0 (g_slices_IndexFunc_SSint_Sint_l0_X s_ f f_f f_c r) s := by
  unfold g_slices_IndexFunc_SSint_Sint_l0 at h
  refine wd_itO (c := k107_l0b) (fun v => g_slices_IndexFunc_SSint_Sint_l0_S s_ f v) (fun v s => g_slices_IndexFunc_SSint_Sint_l0_M s_ f f_f f_c v s) (g_slices_IndexFunc_SSint_Sint_l0_X s_ f f_f f_c) ?_ h hM
  clear h hM s v r
  intro t8_ s o hM h
  unfold g_slices_IndexFunc_SSint_Sint_l0_S at h
  unfold g_slices_IndexFunc_SSint_Sint_l0_M at hM
  obtain ⟨m0, m1, m2, m3⟩ := hM
  unfold k107_l0b
  by_cases e1 : t8_ < (s_.length : Int)
  · rw [if_pos e1] at h
    obtain ⟨e2, h⟩ := ckS h
    obtain ⟨r3_, hl3, h⟩ := bindS h
    try dsimp only at h
    have c3 := f_h _ _ hl3
    by_cases e4 : r3_ = true
    · rw [if_pos e4] at h
      obtain rfl := Option.some.inj h
      simp (maxDischargeDepth := 9) only [↓xpre, xpost, xlst, xcore, yset, rg0, ↓reduceIte, Nat.reduceEqDiff, Nat.reduceLT, Nat.reduceLeDiff, Nat.reduceAdd, Nat.reduceMul, Nat.reduceMod, Nat.reduceSub, Nat.reduceBEq, Int.reduceLE, Int.reduceLT, Int.reduceEq, Int.reduceSub, Int.reduceAdd, Int.reduceToNat, Int.reduceNeg, m0, m1, m2, m3, f_l, e1, e2.1, e2.2, c3, e4, g_slices_IndexFunc_SSint_Sint_l0_M, g_slices_IndexFunc_SSint_Sint_l0_X, sxN, sxE, sxR] <;> (repeat' apply And.intro) <;> first | rfl | exact ⟨_, rfl⟩ | simp [lst]
    · rw [if_neg e4] at h
      have e4f : r3_ = false := Bool.eq_false_iff.mpr e4
      obtain rfl := Option.some.inj h
      simp (maxDischargeDepth := 9) only [↓xpre, xpost, xlst, xcore, yset, rg0, ↓reduceIte, Nat.reduceEqDiff, Nat.reduceLT, Nat.reduceLeDiff, Nat.reduceAdd, Nat.reduceMul, Nat.reduceMod, Nat.reduceSub, Nat.reduceBEq, Int.reduceLE, Int.reduceLT, Int.reduceEq, Int.reduceSub, Int.reduceAdd, Int.reduceToNat, Int.reduceNeg, m0, m1, m2, m3, f_l, e1, e2.1, e2.2, c3, e4f, g_slices_IndexFunc_SSint_Sint_l0_M, g_slices_IndexFunc_SSint_Sint_l0_X, sxN, sxE, sxR] <;> (repeat' apply And.intro) <;> first | rfl | exact ⟨_, rfl⟩ | simp [lst]
  · rw [if_neg e1] at h
    obtain rfl := Option.some.inj h
    simp (maxDischargeDepth := 9) only [↓xpre, xpost, xlst, xcore, yset, rg0, ↓reduceIte, Nat.reduceEqDiff, Nat.reduceLT, Nat.reduceLeDiff, Nat.reduceAdd, Nat.reduceMul, Nat.reduceMod, Nat.reduceSub, Nat.reduceBEq, Int.reduceLE, Int.reduceLT, Int.reduceEq, Int.reduceSub, Int.reduceAdd, Int.reduceToNat, Int.reduceNeg, m0, m1, m2, m3, f_l, e1, g_slices_IndexFunc_SSint_Sint_l0_M, g_slices_IndexFunc_SSint_Sint_l0_X, sxN, sxE, sxR] <;> (repeat' apply And.intro) <;> first | rfl | exact ⟨_, rfl⟩ | simp [lst]
theorem g_slices_IndexFunc_SSint_Sint_call (s_ : List (List Int)) (f : (List Int) → Option Bool) (f_f : FuncId) (f_c : List D) (f_h : ∀ (a0 : List Int) (r : Bool), f a0 = some r → Y.call f_f (D.sl 3 (lst (D.int .i64) a0) :: f_c) [] = some (D.bool r, [])) (f_l : lends f_f = false) {r : Int} (h : g_slices_IndexFunc_SSint_Sint s_ f = some r) : Y.call 107 [D.sl 25 (lst (fun x => D.sl 3 (lst (D.int .i64) x)) s_), D.clo f_f f_c] [] = some (D.int .i64 r, []) := by
  refine c107 ?_ rfl
  unfold k107
  unfold g_slices_IndexFunc_SSint_Sint at h
  obtain ⟨r2_, hl2, h⟩ := bindS h
  try dsimp only at h
  simp (maxDischargeDepth := 9) only [↓xpre, xpost, xlst, xcore, yset, rg0, ↓reduceIte, Nat.reduceEqDiff, Nat.reduceLT, Nat.reduceLeDiff, Nat.reduceAdd, Nat.reduceMul, Nat.reduceMod, Nat.reduceSub, Nat.reduceBEq, Int.reduceLE, Int.reduceLT, Int.reduceEq, Int.reduceSub, Int.reduceAdd, Int.reduceToNat, Int.reduceNeg, f_l]
  refine wd_mono (g_slices_IndexFunc_SSint_Sint_l0_wp s_ f f_f f_c f_h f_l hl2 ?_) ?_
  · simp (maxDischargeDepth := 9) only [↓xpre, xpost, xlst, xcore, yset, rg0, ↓reduceIte, Nat.reduceEqDiff, Nat.reduceLT, Nat.reduceLeDiff, Nat.reduceAdd, Nat.reduceMul, Nat.reduceMod, Nat.reduceSub, Nat.reduceBEq, Int.reduceLE, Int.reduceLT, Int.reduceEq, Int.reduceSub, Int.reduceAdd, Int.reduceToNat, Int.reduceNeg, f_l, g_slices_IndexFunc_SSint_Sint_l0_M] <;> (repeat' apply And.intro) <;> first | rfl | exact ⟨_, rfl⟩ | simp [lst]
  · intro ex2 s2 hX2
    rcases r2_ with q2_ | q2_
    · unfold g_slices_IndexFunc_SSint_Sint_l0_X at hX2
      dsimp only at hX2 h
      obtain ⟨rfl, n2_0⟩ := hX2
      obtain rfl := Option.some.inj h
      simp (maxDischargeDepth := 9) only [↓xpre, xpost, xlst, xcore, yset, rg0, ↓reduceIte, Nat.reduceEqDiff, Nat.reduceLT, Nat.reduceLeDiff, Nat.reduceAdd, Nat.reduceMul, Nat.reduceMod, Nat.reduceSub, Nat.reduceBEq, Int.reduceLE, Int.reduceLT, Int.reduceEq, Int.reduceSub, Int.reduceAdd, Int.reduceToNat, Int.reduceNeg, f_l, n2_0] <;> (repeat' apply And.intro) <;> first | rfl | exact ⟨_, rfl⟩ | simp [lst]
    · unfold g_slices_IndexFunc_SSint_Sint_l0_X at hX2
      dsimp only at hX2 h
      obtain rfl := hX2
      obtain rfl := Option.some.inj h
      simp (maxDischargeDepth := 9) only [↓xpre, xpost, xlst, xcore, yset, rg0, ↓reduceIte, Nat.reduceEqDiff, Nat.reduceLT, Nat.reduceLeDiff, Nat.reduceAdd, Nat.reduceMul, Nat.reduceMod, Nat.reduceSub, Nat.reduceBEq, Int.reduceLE, Int.reduceLT, Int.reduceEq, Int.reduceSub, Int.reduceAdd, Int.reduceToNat, Int.reduceNeg, f_l] <;> (repeat' apply And.intro) <;> first | rfl | exact ⟨_, rfl⟩ | simp [lst]

noncomputable def g_slices_ContainsFunc_SSint_Sint (s_ : List (List Int)) (f : (List Int) → Option Bool) : Option (Bool) :=
  (g_slices_IndexFunc_SSint_Sint s_ f).bind fun r1_ =>
  some (decide (0 ≤ r1_))
/-- slices.ContainsFunc[[][]int,[]int] -/
def k101 : SC :=
  .seq
    (.ops [
      ⟨(some 4), (Op.assign (Operand.const (Value.bool false))), 4, none⟩])
    (.seq
      (.ops [
        ⟨(some 5), (Op.move (Operand.tmp 0)), 34, none⟩,
        ⟨(some 6), (Op.move (Operand.tmp 1)), 30, none⟩,
        ⟨(some 7), (Op.call { callee := (Callee.value (Operand.func 107)), args := #[(Operand.tmp 5), (Operand.tmp 6)], argTypes := #[34, 30] }), 3, none⟩,
        ⟨(some 8), (Op.binOp BinOp.geq 3 (Operand.tmp 7) (Operand.const (Value.int IntKind.i64 0)) 3), 4, none⟩,
        ⟨(some 4), (Op.assign (Operand.tmp 8)), 4, none⟩])
      .ret)
theorem slim101 : Try.f101.body.map (slim lends) = some k101 := by kernel_rfl
theorem ok101 : fnOk Try.f101 2 = true := by kernel_rfl
theorem c101 {a l : List D} {r : D × List D} (h : wpD Y.env k101 (fin tys l.length [ResultVar.tmp 4] r) (entry a l)) (ha : a.length = 2) : Y.call 101 a l = some r :=
  call_slim (Y := Y) rfl Try.func101 (ha ▸ ok101) slim101 h
theorem g_slices_ContainsFunc_SSint_Sint_call (s_ : List (List Int)) (f : (List Int) → Option Bool) (f_f : FuncId) (f_c : List D) (f_h : ∀ (a0 : List Int) (r : Bool), f a0 = some r → Y.call f_f (D.sl 3 (lst (D.int .i64) a0) :: f_c) [] = some (D.bool r, [])) (f_l : lends f_f = false) {r : Bool} (h : g_slices_ContainsFunc_SSint_Sint s_ f = some r) : Y.call 101 [D.sl 25 (lst (fun x => D.sl 3 (lst (D.int .i64) x)) s_), D.clo f_f f_c] [] = some (D.bool r, []) := by
  refine c101 ?_ rfl
  unfold k101
  unfold g_slices_ContainsFunc_SSint_Sint at h
  obtain ⟨r1_, hl1, h⟩ := bindS h
  try dsimp only at h
  have c1 := g_slices_IndexFunc_SSint_Sint_call s_ f f_f f_c f_h f_l hl1
  obtain rfl := Option.some.inj h
  simp (maxDischargeDepth := 9) only [↓xpre, xpost, xlst, xcore, yset, rg0, ↓reduceIte, Nat.reduceEqDiff, Nat.reduceLT, Nat.reduceLeDiff, Nat.reduceAdd, Nat.reduceMul, Nat.reduceMod, Nat.reduceSub, Nat.reduceBEq, Int.reduceLE, Int.reduceLT, Int.reduceEq, Int.reduceSub, Int.reduceAdd, Int.reduceToNat, Int.reduceNeg, f_l, c1] <;> (repeat' apply And.intro) <;> first | rfl | exact ⟨_, rfl⟩ | simp [lst]

noncomputable def i_occurs_1_1 (x_ : Int) (c0_ : List Bool) : Option (Bool) :=
  ck (0 ≤ x_ ∧ x_.toNat < c0_.length) <|
  some (!(c0_.getD x_.toNat default))
/-- impl.occurs$1$1 -/
def k104 : SC :=
  .seq
    (.ops [
      ⟨(some 3), (Op.assign (Operand.const (Value.bool false))), 4, none⟩])
    (.seq
      (.ops [
        ⟨(some 4), (Op.load 72 (Operand.tmp 1)), 72, none⟩,
        ⟨(some 5), (Op.move (Operand.tmp 0)), 3, none⟩,
        ⟨(some 6), (Op.indexAddr 72 (Operand.tmp 4) (Operand.tmp 5)), 0, none⟩,
        ⟨(some 7), (Op.load 4 (Operand.tmp 6)), 4, none⟩,
        ⟨(some 8), (Op.unOp UnOp.not 4 (Operand.tmp 7)), 4, none⟩,
        ⟨(some 3), (Op.assign (Operand.tmp 8)), 4, none⟩])
      .ret)
theorem slim104 : Try.f104.body.map (slim lends) = some k104 := by kernel_rfl
theorem ok104 : fnOk Try.f104 2 = true := by kernel_rfl
theorem c104 {a l : List D} {r : D × List D} (h : wpD Y.env k104 (fin tys l.length [ResultVar.tmp 3] r) (entry a l)) (ha : a.length = 2) : Y.call 104 a l = some r :=
  call_slim (Y := Y) rfl Try.func104 (ha ▸ ok104) slim104 h
theorem i_occurs_1_1_call (x_ : Int) (c0_ : List Bool) {r : Bool} (h : i_occurs_1_1 x_ c0_ = some r) : Y.call 104 [D.int .i64 x_, D.cptr [D.sl 4 (lst D.bool c0_)]] [] = some (D.bool r, []) := by
  refine c104 ?_ rfl
  unfold k104
  unfold i_occurs_1_1 at h
  obtain ⟨e1, h⟩ := ckS h
  obtain rfl := Option.some.inj h
  simp (maxDischargeDepth := 9) only [↓xpre, xpost, xlst, xcore, yset, rg0, ↓reduceIte, Nat.reduceEqDiff, Nat.reduceLT, Nat.reduceLeDiff, Nat.reduceAdd, Nat.reduceMul, Nat.reduceMod, Nat.reduceSub, Nat.reduceBEq, Int.reduceLE, Int.reduceLT, Int.reduceEq, Int.reduceSub, Int.reduceAdd, Int.reduceToNat, Int.reduceNeg, e1.1, e1.2] <;> (repeat' apply And.intro) <;> first | rfl | exact ⟨_, rfl⟩ | simp [lst]

noncomputable def i_occurs_1 (c_ : List Int) (c0_ : Int) (c1_ : List Bool) : Option (Bool) :=
  ck (c_.length < 1099511627776) <|
  if (c_.contains c0_) = true then
    (g_slices_ContainsFunc_Sint_int c_ (fun a0 => i_occurs_1_1 a0 c1_)).bind fun r4_ =>
    some (!r4_)
  else
    some false
/-- impl.occurs$1 -/
def k102 : SC :=
  .seq
    (.ops [
      ⟨(some 4), (Op.assign (Operand.const (Value.bool false))), 4, none⟩])
    (.seq
      (.ops [
        ⟨(some 5), (Op.move (Operand.tmp 0)), 25, none⟩,
        ⟨(some 6), (Op.load 3 (Operand.tmp 1)), 3, none⟩,
        ⟨(some 7), (Op.call { callee := (Callee.value (Operand.func 103)), args := #[(Operand.tmp 5), (Operand.tmp 6)], argTypes := #[25, 3] }), 4, none⟩,
        ⟨(some 8), (Op.move (Operand.tmp 7)), 4, none⟩,
        ⟨(some 9), (Op.move (Operand.tmp 0)), 25, (some (some 8, true))⟩,
        ⟨(some 10), (Op.makeFunc (Fn.func 104) #[] #[(Operand.tmp 2)]), 24, (some (some 8, true))⟩,
        ⟨(some 11), (Op.call { callee := (Callee.value (Operand.func 92)), args := #[(Operand.tmp 9), (Operand.tmp 10)], argTypes := #[25, 24] }), 4, (some (some 8, true))⟩,
        ⟨(some 12), (Op.unOp UnOp.not 4 (Operand.tmp 11)), 4, (some (some 8, true))⟩,
        ⟨(some 13), (Op.pick (Operand.tmp 8) (Operand.tmp 12) (Operand.const (Value.bool false))), 4, none⟩,
        ⟨(some 4), (Op.assign (Operand.tmp 13)), 4, none⟩])
      .ret)
theorem slim102 : Try.f102.body.map (slim lends) = some k102 := by kernel_rfl
theorem ok102 : fnOk Try.f102 3 = true := by kernel_rfl
theorem c102 {a l : List D} {r : D × List D} (h : wpD Y.env k102 (fin tys l.length [ResultVar.tmp 4] r) (entry a l)) (ha : a.length = 3) : Y.call 102 a l = some r :=
  call_slim (Y := Y) rfl Try.func102 (ha ▸ ok102) slim102 h
theorem i_occurs_1_call (c_ : List Int) (c0_ : Int) (c1_ : List Bool) {r : Bool} (h : i_occurs_1 c_ c0_ c1_ = some r) : Y.call 102 [D.sl 3 (lst (D.int .i64) c_), D.cptr [D.int .i64 c0_], D.cptr [D.sl 4 (lst D.bool c1_)]] [] = some (D.bool r, []) := by
  refine c102 ?_ rfl
  unfold k102
  unfold i_occurs_1 at h
  obtain ⟨e1, h⟩ := ckS h
  have c2 := g_slices_Contains_Sint_int_cl c_ c0_ e1
  by_cases e3 : (c_.contains c0_) = true
  · rw [if_pos e3] at h
    obtain ⟨r4_, hl4, h⟩ := bindS h
    try dsimp only at h
    have c4 := g_slices_ContainsFunc_Sint_int_call c_ (fun a0 => i_occurs_1_1 a0 c1_) 104 [D.cptr [D.sl 4 (lst D.bool c1_)]] (fun a0 _ hh => i_occurs_1_1_call a0 c1_ hh) le104 hl4
    obtain rfl := Option.some.inj h
    simp (maxDischargeDepth := 9) only [↓xpre, xpost, xlst, xcore, yset, rg0, ↓reduceIte, Nat.reduceEqDiff, Nat.reduceLT, Nat.reduceLeDiff, Nat.reduceAdd, Nat.reduceMul, Nat.reduceMod, Nat.reduceSub, Nat.reduceBEq, Int.reduceLE, Int.reduceLT, Int.reduceEq, Int.reduceSub, Int.reduceAdd, Int.reduceToNat, Int.reduceNeg, e1, c2, e3, c4] <;> (repeat' apply And.intro) <;> first | rfl | exact ⟨_, rfl⟩ | simp [lst]
  · rw [if_neg e3] at h
    have e3f : (c_.contains c0_) = false := Bool.eq_false_iff.mpr e3
    obtain rfl := Option.some.inj h
    simp (maxDischargeDepth := 9) only [↓xpre, xpost, xlst, xcore, yset, rg0, ↓reduceIte, Nat.reduceEqDiff, Nat.reduceLT, Nat.reduceLeDiff, Nat.reduceAdd, Nat.reduceMul, Nat.reduceMod, Nat.reduceSub, Nat.reduceBEq, Int.reduceLE, Int.reduceLT, Int.reduceEq, Int.reduceSub, Int.reduceAdd, Int.reduceToNat, Int.reduceNeg, e1, c2, e3f] <;> (repeat' apply And.intro) <;> first | rfl | exact ⟨_, rfl⟩ | simp [lst]

noncomputable def i_occurs (list : List (List Int)) (label : Int) (in_ : List Bool) : Option (Bool) :=
  (g_slices_ContainsFunc_SSint_Sint list (fun a0 => i_occurs_1 a0 label in_)).bind fun r1_ =>
  some r1_
/-- impl.occurs -/
def k89 : SC :=
  .seq
    (.ops [
      ⟨(some 4), (Op.box 3 (Operand.tmp 1)), 0, none⟩,
      ⟨(some 5), (Op.box 72 (Operand.tmp 2)), 0, none⟩,
      ⟨(some 6), (Op.assign (Operand.const (Value.bool false))), 4, none⟩])
    (.seq
      (.ops [
        ⟨(some 7), (Op.move (Operand.tmp 0)), 34, none⟩,
        ⟨(some 8), (Op.makeFunc (Fn.func 102) #[] #[(Operand.tmp 4), (Operand.tmp 5)]), 30, none⟩,
        ⟨(some 9), (Op.call { callee := (Callee.value (Operand.func 101)), args := #[(Operand.tmp 7), (Operand.tmp 8)], argTypes := #[34, 30] }), 4, none⟩,
        ⟨(some 6), (Op.assign (Operand.tmp 9)), 4, none⟩])
      .ret)
theorem slim89 : Try.f89.body.map (slim lends) = some k89 := by kernel_rfl
theorem ok89 : fnOk Try.f89 3 = true := by kernel_rfl
theorem c89 {a l : List D} {r : D × List D} (h : wpD Y.env k89 (fin tys l.length [ResultVar.tmp 6] r) (entry a l)) (ha : a.length = 3) : Y.call 89 a l = some r :=
  call_slim (Y := Y) rfl Try.func89 (ha ▸ ok89) slim89 h
theorem i_occurs_call (list : List (List Int)) (label : Int) (in_ : List Bool) {r : Bool} (h : i_occurs list label in_ = some r) : Y.call 89 [D.sl 25 (lst (fun x => D.sl 3 (lst (D.int .i64) x)) list), D.int .i64 label, D.sl 4 (lst D.bool in_)] [] = some (D.bool r, []) := by
  refine c89 ?_ rfl
  unfold k89
  unfold i_occurs at h
  obtain ⟨r1_, hl1, h⟩ := bindS h
  try dsimp only at h
  have c1 := g_slices_ContainsFunc_SSint_Sint_call list (fun a0 => i_occurs_1 a0 label in_) 102 [D.cptr [D.int .i64 label], D.cptr [D.sl 4 (lst D.bool in_)]] (fun a0 _ hh => i_occurs_1_call a0 label in_ hh) le102 hl1
  obtain rfl := Option.some.inj h
  simp (maxDischargeDepth := 9) only [↓xpre, xpost, xlst, xcore, yset, rg0, ↓reduceIte, Nat.reduceEqDiff, Nat.reduceLT, Nat.reduceLeDiff, Nat.reduceAdd, Nat.reduceMul, Nat.reduceMod, Nat.reduceSub, Nat.reduceBEq, Int.reduceLE, Int.reduceLT, Int.reduceEq, Int.reduceSub, Int.reduceAdd, Int.reduceToNat, Int.reduceNeg, c1] <;> (repeat' apply And.intro) <;> first | rfl | exact ⟨_, rfl⟩ | simp [lst]

theorem indexFuncL_eq (l : List (List Int)) (f : List Int → Option Bool) (p : List Int → Bool) (h : l.length < 1099511627776) (hf : ∀ x ∈ l, f x = some (p x)) :
    ∃ r, g_slices_IndexFunc_SSint_Sint l f = some r ∧ (0 ≤ r ↔ l.any p = true) := by
  unfold g_slices_IndexFunc_SSint_Sint g_slices_IndexFunc_SSint_Sint_l0
  by_cases ha : ∀ i, i < l.length → (!p (l.getD i default)) = true
  · have key := itO_for (fun v => g_slices_IndexFunc_SSint_Sint_l0_S l f v) (fun i => (i : Int)) l.length (.inr ()) ?_ ?_
    · simp only [Int.natCast_zero] at key
      rw [key]
      refine ⟨-1, rfl, by simp, fun hc => ?_⟩
      obtain ⟨x, hx, hpx⟩ := List.any_eq_true.1 hc
      obtain ⟨i, hi, rfl⟩ := List.getElem_of_mem hx
      have := ha i hi
      rw [getD_get _ _ hi, hpx] at this; cases this
    · intro i hi
      simp only [g_slices_IndexFunc_SSint_Sint_l0_S]
      have e := ha i hi
      rw [getD_get _ _ hi] at e
      rw [if_pos (lt_nat hi), ckT (ix_nat hi), getD_nat _ _ hi, hf _ (List.getElem_mem hi), Option.bind_some, if_neg (by cases hp : p l[i] <;> simp_all), wrS i (by omega)]
    · simp only [g_slices_IndexFunc_SSint_Sint_l0_S]; rw [if_neg (not_lt_nat _)]
  · obtain ⟨m, h1, h2, h3⟩ := first_fail (P := fun i => !p (l.getD i default)) ha
    have h2' : p l[m] = true := by rw [getD_get _ _ h1] at h2; simpa using h2
    have key := itO_for (fun v => g_slices_IndexFunc_SSint_Sint_l0_S l f v) (fun i => (i : Int)) m (.inl (m : Int)) ?_ ?_
    · simp only [Int.natCast_zero] at key
      rw [key]
      exact ⟨(m : Int), rfl, fun _ => List.any_eq_true.2 ⟨_, List.getElem_mem h1, h2'⟩, fun _ => by omega⟩
    · intro i hi
      simp only [g_slices_IndexFunc_SSint_Sint_l0_S]
      have e := h3 i hi
      rw [getD_get _ _ (by omega)] at e
      rw [if_pos (lt_nat (by omega)), ckT (ix_nat (by omega)), getD_nat _ _ (by omega), hf _ (List.getElem_mem _), Option.bind_some, if_neg (by cases hp : p l[i] <;> simp_all), wrS i (by omega)]
    · simp only [g_slices_IndexFunc_SSint_Sint_l0_S]
      rw [if_pos (lt_nat h1), ckT (ix_nat h1), getD_nat _ _ h1, hf _ (List.getElem_mem _), Option.bind_some, if_pos h2']
theorem containsFuncL_eq (l : List (List Int)) (f : List Int → Option Bool) (p : List Int → Bool) (h : l.length < 1099511627776) (hf : ∀ x ∈ l, f x = some (p x)) : g_slices_ContainsFunc_SSint_Sint l f = some (l.any p) := by
  obtain ⟨r, h1, h2⟩ := indexFuncL_eq l f p h hf
  unfold g_slices_ContainsFunc_SSint_Sint
  rw [h1, Option.bind_some]
  congr 1
  rw [Bool.eq_iff_iff]; simpa using h2
/-- A label is in a configuration of labels of a set alone. -/
def occB (l : List (List Int)) (a : Int) (p : Nat → Bool) : Bool := l.any fun x => x.contains a && x.all fun y => p y.toNat
/-- All numbers are places. -/
def inside (l : List (List Int)) (n : Nat) : Bool := l.all fun x => x.all fun y => decide (0 ≤ y ∧ y.toNat < n)
theorem inside_get {l : List (List Int)} {n : Nat} (h : inside l n = true) {x : List Int} (hx : x ∈ l) {y : Int} (hy : y ∈ x) : 0 ≤ y ∧ y.toNat < n := by
  have := List.all_eq_true.1 (List.all_eq_true.1 h x hx) y hy; simpa using this
theorem i_occurs_eq (l : List (List Int)) (a : Int) (s : List Bool) (h : Short l) (hr : inside l s.length = true) : i_occurs l a s = some (occB l a fun i => s.getD i default) := by
  unfold i_occurs
  rw [containsFuncL_eq l (fun a0 => i_occurs_1 a0 a s) (fun x => x.contains a && x.all fun y => s.getD y.toNat default) h.1 ?_, Option.bind_some]
  · rfl
  · intro x hx
    have hxl := h.2 x hx
    unfold i_occurs_1
    rw [ckT hxl]
    cases hc : x.contains a with
    | false => simp
    | true =>
      rw [if_pos rfl, containsFunc_eq x (fun a0 => i_occurs_1_1 a0 s) (fun y => !(s.getD y.toNat default)) hxl ?_, Option.bind_some, List.all_eq_not_any_not]
      · rfl
      · intro y hy
        unfold i_occurs_1_1
        rw [ckT (inside_get hr hx hy)]
theorem i_occurs_cl (list : List (List Int)) (label : Int) (in_ : List Bool) (h0 : Short list) (h1 : inside list in_.length = true) : Y.call 89 [D.sl 25 (lst (fun x => D.sl 3 (lst (D.int .i64) x)) list), D.int .i64 label, D.sl 4 (lst D.bool in_)] [] = some (D.bool (occB list label fun i => in_.getD i default), []) := i_occurs_call list label in_ (i_occurs_eq list label in_ h0 h1)
noncomputable def i_usableLabels_l0_S (p_Labels : Int) (p_Degree : Int) (p_Nodes : List (List Int)) (p_Edges : List (List Int)) (in_ : List Bool) (in_1 : List Bool) (shrunk1 : Bool) (t15_ : Int) : Option (((List Bool) × Bool × Int) ⊕ ((List Bool) × Bool)) :=
  if t15_ < (in_.length : Int) then
    ck (0 ≤ t15_ ∧ t15_.toNat < in_1.length) <|
    if (in_1.getD t15_.toNat default) = true then
      ck (Short p_Nodes) <|
      ck (inside p_Nodes in_1.length = true) <|
      if (occB p_Nodes t15_ fun i => in_1.getD i default) = true then
        ck (Short p_Edges) <|
        ck (inside p_Edges in_1.length = true) <|
        if (occB p_Edges t15_ fun i => in_1.getD i default) = true then
          some (Sum.inl (in_1, shrunk1, IntKind.i64.wrap (t15_ + 1)))
        else
          some (Sum.inl ((in_1.set t15_.toNat false), true, IntKind.i64.wrap (t15_ + 1)))
      else
        some (Sum.inl ((in_1.set t15_.toNat false), true, IntKind.i64.wrap (t15_ + 1)))
    else
      some (Sum.inl (in_1, shrunk1, IntKind.i64.wrap (t15_ + 1)))
  else
    some (Sum.inr (in_1, shrunk1))
noncomputable def i_usableLabels_l0 (p_Labels : Int) (p_Degree : Int) (p_Nodes : List (List Int)) (p_Edges : List (List Int)) (in_ : List Bool) (v : (List Bool) × Bool × Int) : Option ((List Bool) × Bool) := itO (fun v => i_usableLabels_l0_S p_Labels p_Degree p_Nodes p_Edges in_ v.1 v.2.1 v.2.2) v
noncomputable def i_usableLabels_l1_S (p_Labels : Int) (p_Degree : Int) (p_Nodes : List (List Int)) (p_Edges : List (List Int)) (in_ : List Bool) (shrunk : Bool) : Option (((List Bool) × Bool) ⊕ ((List Bool))) :=
  if shrunk = true then
    (i_usableLabels_l0 p_Labels p_Degree p_Nodes p_Edges in_ (in_, false, 0)).bind fun r4_ =>
    some (Sum.inl (r4_.1, r4_.2))
  else
    some (Sum.inr in_)
noncomputable def i_usableLabels_l1 (p_Labels : Int) (p_Degree : Int) (p_Nodes : List (List Int)) (p_Edges : List (List Int)) (v : (List Bool) × Bool) : Option ((List Bool)) := itO (fun v => i_usableLabels_l1_S p_Labels p_Degree p_Nodes p_Edges v.1 v.2) v
noncomputable def i_usableLabels_l2_S (r3_ : (List Bool)) (out : List Int) (t44_ : Int) : Option (((List Int) × Int) ⊕ ((List Int))) :=
  if t44_ < (r3_.length : Int) then
    ck (0 ≤ t44_ ∧ t44_.toNat < r3_.length) <|
    if (r3_.getD t44_.toNat default) = true then
      ck (out.length + 1 < 1099511627776) <|
      some (Sum.inl ((out ++ [t44_]), IntKind.i64.wrap (t44_ + 1)))
    else
      some (Sum.inl (out, IntKind.i64.wrap (t44_ + 1)))
  else
    some (Sum.inr out)
noncomputable def i_usableLabels_l2 (r3_ : (List Bool)) (v : (List Int) × Int) : Option ((List Int)) := itO (fun v => i_usableLabels_l2_S r3_ v.1 v.2) v
noncomputable def i_usableLabels (p_Labels : Int) (p_Degree : Int) (p_Nodes : List (List Int)) (p_Edges : List (List Int)) : Option ((List Int)) :=
  (g_slices_Repeat_Sbool_bool [true] p_Labels).bind fun r1_ =>
  (i_usableLabels_l1 p_Labels p_Degree p_Nodes p_Edges (r1_, true)).bind fun r3_ =>
  (i_usableLabels_l2 r3_ ([], 0)).bind fun r5_ =>
  some r5_
/-- impl.usableLabels -/
def k75_l0b : SC :=
  .seq
    (.ops [
      ⟨(some 16), (Op.binOp BinOp.lss 3 (Operand.tmp 15) (Operand.tmp 14) 3), 0, none⟩])
    (.seq
      (.cond (Operand.tmp 16)
        .skip
        (.exit 2))
      (.seq
        (.block 3
          (.seq
            (.ops [
              ⟨(some 17), (Op.move (Operand.tmp 15)), 3, none⟩,
              ⟨(some 5), (Op.assign (Operand.tmp 17)), 3, none⟩])
            (.seq
              (.ops [
                ⟨(some 18), (Op.move (Operand.tmp 3)), 72, none⟩,
                ⟨(some 19), (Op.move (Operand.tmp 5)), 3, none⟩,
                ⟨(some 20), (Op.indexAddr 72 (Operand.tmp 18) (Operand.tmp 19)), 0, none⟩,
                ⟨(some 21), (Op.load 4 (Operand.tmp 20)), 4, none⟩,
                ⟨(some 22), (Op.move (Operand.tmp 21)), 4, none⟩,
                ⟨(some 23), (Op.fieldAddr 39 (Operand.tmp 1) 2), 0, (some (some 22, true))⟩,
                ⟨(some 24), (Op.load 34 (Operand.tmp 23)), 34, (some (some 22, true))⟩,
                ⟨(some 25), (Op.move (Operand.tmp 5)), 3, (some (some 22, true))⟩,
                ⟨(some 26), (Op.move (Operand.tmp 3)), 72, (some (some 22, true))⟩,
                ⟨(some 27), (Op.call { callee := (Callee.value (Operand.func 89)), args := #[(Operand.tmp 24), (Operand.tmp 25), (Operand.tmp 26)], argTypes := #[34, 3, 72] }), 4, (some (some 22, true))⟩,
                ⟨(some 28), (Op.unOp UnOp.not 4 (Operand.tmp 27)), 4, (some (some 22, true))⟩,
                ⟨(some 29), (Op.move (Operand.tmp 28)), 4, (some (some 22, true))⟩,
                ⟨(some 30), (Op.fieldAddr 39 (Operand.tmp 1) 3), 0, (some (some 29, false))⟩,
                ⟨(some 31), (Op.load 34 (Operand.tmp 30)), 34, (some (some 29, false))⟩,
                ⟨(some 32), (Op.move (Operand.tmp 5)), 3, (some (some 29, false))⟩,
                ⟨(some 33), (Op.move (Operand.tmp 3)), 72, (some (some 29, false))⟩,
                ⟨(some 34), (Op.call { callee := (Callee.value (Operand.func 89)), args := #[(Operand.tmp 31), (Operand.tmp 32), (Operand.tmp 33)], argTypes := #[34, 3, 72] }), 4, (some (some 29, false))⟩,
                ⟨(some 35), (Op.unOp UnOp.not 4 (Operand.tmp 34)), 4, (some (some 29, false))⟩,
                ⟨(some 36), (Op.pick (Operand.tmp 29) (Operand.const (Value.bool true)) (Operand.tmp 35)), 4, (some (some 22, true))⟩,
                ⟨(some 37), (Op.pick (Operand.tmp 22) (Operand.tmp 36) (Operand.const (Value.bool false))), 4, none⟩])
              (.cond (Operand.tmp 37)
                (.ops [
                  ⟨(some 38), (Op.move (Operand.tmp 3)), 72, none⟩,
                  ⟨(some 39), (Op.move (Operand.tmp 5)), 3, none⟩,
                  ⟨(some 40), (Op.indexAddr 72 (Operand.tmp 38) (Operand.tmp 39)), 0, none⟩,
                  ⟨none, (Op.store 4 (Operand.tmp 40) (Operand.const (Value.bool false))), 0, none⟩,
                  ⟨(some 4), (Op.assign (Operand.const (Value.bool true))), 4, none⟩])
                .skip))))
        (.ops [
          ⟨(some 41), (Op.binOp BinOp.add 3 (Operand.tmp 15) (Operand.const (Value.int IntKind.i64 1)) 3), 3, none⟩,
          ⟨(some 15), (Op.move (Operand.tmp 41)), 3, none⟩])))
def k75_l0 : SC := .loop k75_l0b
def k75_l1b : SC :=
  .seq
    (.seq
      (.ops [
        ⟨(some 12), (Op.move (Operand.tmp 4)), 4, none⟩])
      (.cond (Operand.tmp 12)
        .skip
        (.exit 0)))
    (.block 1
      (.seq
        (.ops [
          ⟨(some 4), (Op.assign (Operand.const (Value.bool false))), 4, none⟩])
        (.seq
          (.ops [
            ⟨(some 13), (Op.move (Operand.tmp 3)), 72, none⟩,
            ⟨(some 14), (Op.call { callee := (Callee.builtin Builtin.len), args := #[(Operand.tmp 13)], argTypes := #[72] }), 3, none⟩,
            ⟨(some 15), (Op.move (Operand.const (Value.int IntKind.i64 0))), 3, none⟩])
          (.block 2
            k75_l0))))
def k75_l1 : SC := .loop k75_l1b
def k75_l2b : SC :=
  .seq
    (.ops [
      ⟨(some 45), (Op.binOp BinOp.lss 3 (Operand.tmp 44) (Operand.tmp 43) 3), 0, none⟩])
    (.seq
      (.cond (Operand.tmp 45)
        .skip
        (.exit 4))
      (.seq
        (.block 5
          (.seq
            (.ops [
              ⟨(some 46), (Op.move (Operand.tmp 44)), 3, none⟩,
              ⟨(some 7), (Op.assign (Operand.tmp 46)), 3, none⟩])
            (.seq
              (.ops [
                ⟨(some 47), (Op.move (Operand.tmp 3)), 72, none⟩,
                ⟨(some 48), (Op.move (Operand.tmp 7)), 3, none⟩,
                ⟨(some 49), (Op.indexAddr 72 (Operand.tmp 47) (Operand.tmp 48)), 0, none⟩,
                ⟨(some 50), (Op.load 4 (Operand.tmp 49)), 4, none⟩])
              (.cond (Operand.tmp 50)
                (.ops [
                  ⟨(some 51), (Op.move (Operand.tmp 6)), 25, none⟩,
                  ⟨(some 52), (Op.move (Operand.tmp 7)), 3, none⟩,
                  ⟨(some 53), (Op.buildSlice 25 1 #[(0, (Operand.tmp 52))]), 25, none⟩,
                  ⟨(some 54), (Op.call { callee := (Callee.builtin Builtin.append), args := #[(Operand.tmp 51), (Operand.tmp 53)], argTypes := #[25, 25] }), 25, none⟩,
                  ⟨(some 6), (Op.assign (Operand.tmp 54)), 25, none⟩])
                .skip))))
        (.ops [
          ⟨(some 55), (Op.binOp BinOp.add 3 (Operand.tmp 44) (Operand.const (Value.int IntKind.i64 1)) 3), 3, none⟩,
          ⟨(some 44), (Op.move (Operand.tmp 55)), 3, none⟩])))
def k75_l2 : SC := .loop k75_l2b
def k75 : SC :=
  .seq
    (.ops [
      ⟨(some 1), (Op.box 39 (Operand.tmp 0)), 0, none⟩,
      ⟨(some 2), (Op.assign (Operand.const (Value.slice none 0 0))), 25, none⟩])
    (.seq
      (.ops [
        ⟨(some 8), (Op.buildSlice 72 1 #[(0, (Operand.const (Value.bool true)))]), 72, none⟩,
        ⟨(some 9), (Op.fieldAddr 39 (Operand.tmp 1) 0), 0, none⟩,
        ⟨(some 10), (Op.load 3 (Operand.tmp 9)), 3, none⟩,
        ⟨(some 11), (Op.call { callee := (Callee.value (Operand.func 88)), args := #[(Operand.tmp 8), (Operand.tmp 10)], argTypes := #[72, 3] }), 72, none⟩,
        ⟨(some 3), (Op.assign (Operand.tmp 11)), 72, none⟩])
      (.seq
        (.seq
          (.ops [
            ⟨(some 4), (Op.assign (Operand.const (Value.bool true))), 4, none⟩])
          (.block 0
            k75_l1))
        (.seq
          (.ops [
            ⟨(some 6), (Op.assign (Operand.const (Value.slice none 0 0))), 25, none⟩])
          (.seq
            (.seq
              (.ops [
                ⟨(some 42), (Op.move (Operand.tmp 3)), 72, none⟩,
                ⟨(some 43), (Op.call { callee := (Callee.builtin Builtin.len), args := #[(Operand.tmp 42)], argTypes := #[72] }), 3, none⟩,
                ⟨(some 44), (Op.move (Operand.const (Value.int IntKind.i64 0))), 3, none⟩])
              (.block 4
                k75_l2))
            (.seq
              (.ops [
                ⟨(some 56), (Op.move (Operand.tmp 6)), 25, none⟩,
                ⟨(some 2), (Op.assign (Operand.tmp 56)), 25, none⟩])
              .ret)))))
theorem slim75 : Try.f75.body.map (slim lends) = some k75 := by kernel_rfl
theorem ok75 : fnOk Try.f75 1 = true := by kernel_rfl
theorem c75 {a l : List D} {r : D × List D} (h : wpD Y.env k75 (fin tys l.length [ResultVar.tmp 2] r) (entry a l)) (ha : a.length = 1) : Y.call 75 a l = some r :=
  call_slim (Y := Y) rfl Try.func75 (ha ▸ ok75) slim75 h
def i_usableLabels_l0_M (p_Labels : Int) (p_Degree : Int) (p_Nodes : List (List Int)) (p_Edges : List (List Int)) (in_ : List Bool) (in_1 : List Bool) (shrunk1 : Bool) (t15_ : Int) (s : St) : Prop := s.v 1 = D.box [D.int .i64 p_Labels, D.int .i64 p_Degree, D.sl 25 (lst (fun x => D.sl 3 (lst (D.int .i64) x)) p_Nodes), D.sl 25 (lst (fun x => D.sl 3 (lst (D.int .i64) x)) p_Edges)] ∧ s.v 3 = D.own 4 (lst D.bool in_1) ∧ s.v 4 = D.bool shrunk1 ∧ s.v 14 = D.int .i64 (in_.length : Int) ∧ s.v 15 = D.int .i64 t15_
def i_usableLabels_l0_X (p_Labels : Int) (p_Degree : Int) (p_Nodes : List (List Int)) (p_Edges : List (List Int)) (in_ : List Bool) (r : (List Bool) × Bool) (ex : Ex) (s : St) : Prop := ex = .exit 2 ∧ s.v 1 = D.box [D.int .i64 p_Labels, D.int .i64 p_Degree, D.sl 25 (lst (fun x => D.sl 3 (lst (D.int .i64) x)) p_Nodes), D.sl 25 (lst (fun x => D.sl 3 (lst (D.int .i64) x)) p_Edges)] ∧ s.v 3 = D.own 4 (lst D.bool r.1) ∧ s.v 4 = D.bool r.2
theorem i_usableLabels_l0_wp (p_Labels : Int) (p_Degree : Int) (p_Nodes : List (List Int)) (p_Edges : List (List Int)) (in_ : List Bool) {v : (List Bool) × Bool × Int} {s : St} {r : (List Bool) × Bool} (h : i_usableLabels_l0 p_Labels p_Degree p_Nodes p_Edges in_ v = some r) (hM : i_usableLabels_l0_M p_Labels p_Degree p_Nodes p_Edges in_ v.1 v.2.1 v.2.2 s) : wpD Y.env k75_l0 (i_usableLabels_l0_X p_Labels p_Degree p_Nodes p_Edges in_ r) s := by
  unfold i_usableLabels_l0 at h
  refine wd_itO (c := k75_l0b) (fun v => i_usableLabels_l0_S p_Labels p_Degree p_Nodes p_Edges in_ v.1 v.2.1 v.2.2) (fun v s => i_usableLabels_l0_M p_Labels p_Degree p_Nodes p_Edges in_ v.1 v.2.1 v.2.2 s) (i_usableLabels_l0_X p_Labels p_Degree p_Nodes p_Edges in_) ?_ h hM
  clear h hM s v r
  intro v s o hM h
  obtain ⟨in_1, shrunk1, t15_⟩ := v
  dsimp only at h hM
  unfold i_usableLabels_l0_S at h
  unfold i_usableLabels_l0_M at hM
  obtain ⟨m0, m1, m2, m3, m4⟩ := hM
  unfold k75_l0b
  by_cases e3 : t15_ < (in_.length : Int)
  · rw [if_pos e3] at h
    obtain ⟨e4, h⟩ := ckS h
    by_cases e5 : (in_1.getD t15_.toNat default) = true
    · rw [if_pos e5] at h
      obtain ⟨e6, h⟩ := ckS h
      obtain ⟨e7, h⟩ := ckS h
      have c8 := i_occurs_cl p_Nodes t15_ in_1 e6 e7
      by_cases e9 : (occB p_Nodes t15_ fun i => in_1.getD i default) = true
      · rw [if_pos e9] at h
        obtain ⟨e10, h⟩ := ckS h
        obtain ⟨e11, h⟩ := ckS h
        have c12 := i_occurs_cl p_Edges t15_ in_1 e10 e11
        by_cases e13 : (occB p_Edges t15_ fun i => in_1.getD i default) = true
        · rw [if_pos e13] at h
          obtain rfl := Option.some.inj h
          simp (maxDischargeDepth := 9) only [↓xpre, xpost, xlst, xcore, yset, rg0, ↓reduceIte, Nat.reduceEqDiff, Nat.reduceLT, Nat.reduceLeDiff, Nat.reduceAdd, Nat.reduceMul, Nat.reduceMod, Nat.reduceSub, Nat.reduceBEq, Int.reduceLE, Int.reduceLT, Int.reduceEq, Int.reduceSub, Int.reduceAdd, Int.reduceToNat, Int.reduceNeg, m0, m1, m2, m3, m4, e3, e4.1, e4.2, e5, e6, e7, c8, e9, e10, e11, c12, e13, i_usableLabels_l0_M, i_usableLabels_l0_X, sxN, sxE, sxR] <;> (repeat' apply And.intro) <;> first | rfl | exact ⟨_, rfl⟩ | simp [lst]
        · rw [if_neg e13] at h
          have e13f : (occB p_Edges t15_ fun i => in_1.getD i default) = false := Bool.eq_false_iff.mpr e13
          obtain rfl := Option.some.inj h
          simp (maxDischargeDepth := 9) only [↓xpre, xpost, xlst, xcore, yset, rg0, ↓reduceIte, Nat.reduceEqDiff, Nat.reduceLT, Nat.reduceLeDiff, Nat.reduceAdd, Nat.reduceMul, Nat.reduceMod, Nat.reduceSub, Nat.reduceBEq, Int.reduceLE, Int.reduceLT, Int.reduceEq, Int.reduceSub, Int.reduceAdd, Int.reduceToNat, Int.reduceNeg, m0, m1, m2, m3, m4, e3, e4.1, e4.2, e5, e6, e7, c8, e9, e10, e11, c12, e13f, i_usableLabels_l0_M, i_usableLabels_l0_X, sxN, sxE, sxR] <;> (repeat' apply And.intro) <;> first | rfl | exact ⟨_, rfl⟩ | simp [lst]
      · rw [if_neg e9] at h
        have e9f : (occB p_Nodes t15_ fun i => in_1.getD i default) = false := Bool.eq_false_iff.mpr e9
        obtain rfl := Option.some.inj h
        simp (maxDischargeDepth := 9) only [↓xpre, xpost, xlst, xcore, yset, rg0, ↓reduceIte, Nat.reduceEqDiff, Nat.reduceLT, Nat.reduceLeDiff, Nat.reduceAdd, Nat.reduceMul, Nat.reduceMod, Nat.reduceSub, Nat.reduceBEq, Int.reduceLE, Int.reduceLT, Int.reduceEq, Int.reduceSub, Int.reduceAdd, Int.reduceToNat, Int.reduceNeg, m0, m1, m2, m3, m4, e3, e4.1, e4.2, e5, e6, e7, c8, e9f, i_usableLabels_l0_M, i_usableLabels_l0_X, sxN, sxE, sxR] <;> (repeat' apply And.intro) <;> first | rfl | exact ⟨_, rfl⟩ | simp [lst]
    · rw [if_neg e5] at h
      have e5f : (in_1.getD t15_.toNat default) = false := Bool.eq_false_iff.mpr e5
      obtain rfl := Option.some.inj h
      simp (maxDischargeDepth := 9) only [↓xpre, xpost, xlst, xcore, yset, rg0, ↓reduceIte, Nat.reduceEqDiff, Nat.reduceLT, Nat.reduceLeDiff, Nat.reduceAdd, Nat.reduceMul, Nat.reduceMod, Nat.reduceSub, Nat.reduceBEq, Int.reduceLE, Int.reduceLT, Int.reduceEq, Int.reduceSub, Int.reduceAdd, Int.reduceToNat, Int.reduceNeg, m0, m1, m2, m3, m4, e3, e4.1, e4.2, e5f, i_usableLabels_l0_M, i_usableLabels_l0_X, sxN, sxE, sxR] <;> (repeat' apply And.intro) <;> first | rfl | exact ⟨_, rfl⟩ | simp [lst]
  · rw [if_neg e3] at h
    obtain rfl := Option.some.inj h
    simp (maxDischargeDepth := 9) only [↓xpre, xpost, xlst, xcore, yset, rg0, ↓reduceIte, Nat.reduceEqDiff, Nat.reduceLT, Nat.reduceLeDiff, Nat.reduceAdd, Nat.reduceMul, Nat.reduceMod, Nat.reduceSub, Nat.reduceBEq, Int.reduceLE, Int.reduceLT, Int.reduceEq, Int.reduceSub, Int.reduceAdd, Int.reduceToNat, Int.reduceNeg, m0, m1, m2, m3, m4, e3, i_usableLabels_l0_M, i_usableLabels_l0_X, sxN, sxE, sxR] <;> (repeat' apply And.intro) <;> first | rfl | exact ⟨_, rfl⟩ | simp [lst]
def i_usableLabels_l1_M (p_Labels : Int) (p_Degree : Int) (p_Nodes : List (List Int)) (p_Edges : List (List Int)) (in_ : List Bool) (shrunk : Bool) (s : St) : Prop := s.v 1 = D.box [D.int .i64 p_Labels, D.int .i64 p_Degree, D.sl 25 (lst (fun x => D.sl 3 (lst (D.int .i64) x)) p_Nodes), D.sl 25 (lst (fun x => D.sl 3 (lst (D.int .i64) x)) p_Edges)] ∧ s.v 3 = D.own 4 (lst D.bool in_) ∧ s.v 4 = D.bool shrunk
def i_usableLabels_l1_X (p_Labels : Int) (p_Degree : Int) (p_Nodes : List (List Int)) (p_Edges : List (List Int)) (r : (List Bool)) (ex : Ex) (s : St) : Prop := ex = .exit 0 ∧ s.v 3 = D.own 4 (lst D.bool r)
theorem i_usableLabels_l1_wp (p_Labels : Int) (p_Degree : Int) (p_Nodes : List (List Int)) (p_Edges : List (List Int)) {v : (List Bool) × Bool} {s : St} {r : (List Bool)} (h : i_usableLabels_l1 p_Labels p_Degree p_Nodes p_Edges v = some r) (hM : i_usableLabels_l1_M p_Labels p_Degree p_Nodes p_Edges v.1 v.2 s) : wpD Y.env k75_l1 (i_usableLabels_l1_X p_Labels p_Degree p_Nodes p_Edges r) s := by
  unfold i_usableLabels_l1 at h
  refine wd_itO (c := k75_l1b) (fun v => i_usableLabels_l1_S p_Labels p_Degree p_Nodes p_Edges v.1 v.2) (fun v s => i_usableLabels_l1_M p_Labels p_Degree p_Nodes p_Edges v.1 v.2 s) (i_usableLabels_l1_X p_Labels p_Degree p_Nodes p_Edges) ?_ h hM
  clear h hM s v r
  intro v s o hM h
  obtain ⟨in_, shrunk⟩ := v
  dsimp only at h hM
  unfold i_usableLabels_l1_S at h
  unfold i_usableLabels_l1_M at hM
  obtain ⟨m0, m1, m2⟩ := hM
  unfold k75_l1b
  by_cases e2 : shrunk = true
  · rw [if_pos e2] at h
    obtain ⟨r4_, hl4, h⟩ := bindS h
    try dsimp only at h
    simp (maxDischargeDepth := 9) only [↓xpre, xpost, xlst, xcore, yset, rg0, ↓reduceIte, Nat.reduceEqDiff, Nat.reduceLT, Nat.reduceLeDiff, Nat.reduceAdd, Nat.reduceMul, Nat.reduceMod, Nat.reduceSub, Nat.reduceBEq, Int.reduceLE, Int.reduceLT, Int.reduceEq, Int.reduceSub, Int.reduceAdd, Int.reduceToNat, Int.reduceNeg, m0, m1, m2, e2]
    refine wd_mono (i_usableLabels_l0_wp p_Labels p_Degree p_Nodes p_Edges in_ hl4 ?_) ?_
    · simp (maxDischargeDepth := 9) only [↓xpre, xpost, xlst, xcore, yset, rg0, ↓reduceIte, Nat.reduceEqDiff, Nat.reduceLT, Nat.reduceLeDiff, Nat.reduceAdd, Nat.reduceMul, Nat.reduceMod, Nat.reduceSub, Nat.reduceBEq, Int.reduceLE, Int.reduceLT, Int.reduceEq, Int.reduceSub, Int.reduceAdd, Int.reduceToNat, Int.reduceNeg, m0, m1, m2, e2, i_usableLabels_l0_M] <;> (repeat' apply And.intro) <;> first | rfl | exact ⟨_, rfl⟩ | simp [lst]
    · intro ex4 s4 hX4
      unfold i_usableLabels_l0_X at hX4
      obtain ⟨rfl, n4_0, n4_1, n4_2⟩ := hX4
      obtain rfl := Option.some.inj h
      simp (maxDischargeDepth := 9) only [↓xpre, xpost, xlst, xcore, yset, rg0, ↓reduceIte, Nat.reduceEqDiff, Nat.reduceLT, Nat.reduceLeDiff, Nat.reduceAdd, Nat.reduceMul, Nat.reduceMod, Nat.reduceSub, Nat.reduceBEq, Int.reduceLE, Int.reduceLT, Int.reduceEq, Int.reduceSub, Int.reduceAdd, Int.reduceToNat, Int.reduceNeg, e2, n4_0, n4_1, n4_2, i_usableLabels_l1_M, i_usableLabels_l1_X, sxN, sxE, sxR] <;> (repeat' apply And.intro) <;> first | rfl | exact ⟨_, rfl⟩ | simp [lst]
  · rw [if_neg e2] at h
    have e2f : shrunk = false := Bool.eq_false_iff.mpr e2
    obtain rfl := Option.some.inj h
    simp (maxDischargeDepth := 9) only [↓xpre, xpost, xlst, xcore, yset, rg0, ↓reduceIte, Nat.reduceEqDiff, Nat.reduceLT, Nat.reduceLeDiff, Nat.reduceAdd, Nat.reduceMul, Nat.reduceMod, Nat.reduceSub, Nat.reduceBEq, Int.reduceLE, Int.reduceLT, Int.reduceEq, Int.reduceSub, Int.reduceAdd, Int.reduceToNat, Int.reduceNeg, m0, m1, m2, e2f, i_usableLabels_l1_M, i_usableLabels_l1_X, sxN, sxE, sxR] <;> (repeat' apply And.intro) <;> first | rfl | exact ⟨_, rfl⟩ | simp [lst]
def i_usableLabels_l2_M (r3_ : (List Bool)) (out : List Int) (t44_ : Int) (s : St) : Prop := s.v 3 = D.own 4 (lst D.bool r3_) ∧ s.v 6 = D.own 3 (lst (D.int .i64) out) ∧ s.v 43 = D.int .i64 (r3_.length : Int) ∧ s.v 44 = D.int .i64 t44_
def i_usableLabels_l2_X (r3_ : (List Bool)) (r : (List Int)) (ex : Ex) (s : St) : Prop := ex = .exit 4 ∧ s.v 6 = D.own 3 (lst (D.int .i64) r)
theorem i_usableLabels_l2_wp (r3_ : (List Bool)) {v : (List Int) × Int} {s : St} {r : (List Int)} (h : i_usableLabels_l2 r3_ v = some r) (hM : i_usableLabels_l2_M r3_ v.1 v.2 s) : wpD Y.env k75_l2 (i_usableLabels_l2_X r3_ r) s := by
  unfold i_usableLabels_l2 at h
  refine wd_itO (c := k75_l2b) (fun v => i_usableLabels_l2_S r3_ v.1 v.2) (fun v s => i_usableLabels_l2_M r3_ v.1 v.2 s) (i_usableLabels_l2_X r3_) ?_ h hM
  clear h hM s v r
  intro v s o hM h
  obtain ⟨out, t44_⟩ := v
  dsimp only at h hM
  unfold i_usableLabels_l2_S at h
  unfold i_usableLabels_l2_M at hM
  obtain ⟨m0, m1, m2, m3⟩ := hM
  unfold k75_l2b
  by_cases e4 : t44_ < (r3_.length : Int)
  · rw [if_pos e4] at h
    obtain ⟨e5, h⟩ := ckS h
    by_cases e6 : (r3_.getD t44_.toNat default) = true
    · rw [if_pos e6] at h
      obtain ⟨e7, h⟩ := ckS h
      obtain rfl := Option.some.inj h
      simp (maxDischargeDepth := 9) only [↓xpre, xpost, xlst, xcore, yset, rg0, ↓reduceIte, Nat.reduceEqDiff, Nat.reduceLT, Nat.reduceLeDiff, Nat.reduceAdd, Nat.reduceMul, Nat.reduceMod, Nat.reduceSub, Nat.reduceBEq, Int.reduceLE, Int.reduceLT, Int.reduceEq, Int.reduceSub, Int.reduceAdd, Int.reduceToNat, Int.reduceNeg, m0, m1, m2, m3, e4, e5.1, e5.2, e6, e7, i_usableLabels_l2_M, i_usableLabels_l2_X, sxN, sxE, sxR] <;> (repeat' apply And.intro) <;> first | rfl | exact ⟨_, rfl⟩ | simp [lst]
    · rw [if_neg e6] at h
      have e6f : (r3_.getD t44_.toNat default) = false := Bool.eq_false_iff.mpr e6
      obtain rfl := Option.some.inj h
      simp (maxDischargeDepth := 9) only [↓xpre, xpost, xlst, xcore, yset, rg0, ↓reduceIte, Nat.reduceEqDiff, Nat.reduceLT, Nat.reduceLeDiff, Nat.reduceAdd, Nat.reduceMul, Nat.reduceMod, Nat.reduceSub, Nat.reduceBEq, Int.reduceLE, Int.reduceLT, Int.reduceEq, Int.reduceSub, Int.reduceAdd, Int.reduceToNat, Int.reduceNeg, m0, m1, m2, m3, e4, e5.1, e5.2, e6f, i_usableLabels_l2_M, i_usableLabels_l2_X, sxN, sxE, sxR] <;> (repeat' apply And.intro) <;> first | rfl | exact ⟨_, rfl⟩ | simp [lst]
  · rw [if_neg e4] at h
    obtain rfl := Option.some.inj h
    simp (maxDischargeDepth := 9) only [↓xpre, xpost, xlst, xcore, yset, rg0, ↓reduceIte, Nat.reduceEqDiff, Nat.reduceLT, Nat.reduceLeDiff, Nat.reduceAdd, Nat.reduceMul, Nat.reduceMod, Nat.reduceSub, Nat.reduceBEq, Int.reduceLE, Int.reduceLT, Int.reduceEq, Int.reduceSub, Int.reduceAdd, Int.reduceToNat, Int.reduceNeg, m0, m1, m2, m3, e4, i_usableLabels_l2_M, i_usableLabels_l2_X, sxN, sxE, sxR] <;> (repeat' apply And.intro) <;> first | rfl | exact ⟨_, rfl⟩ | simp [lst]
theorem i_usableLabels_call (p_Labels : Int) (p_Degree : Int) (p_Nodes : List (List Int)) (p_Edges : List (List Int)) {r : (List Int)} (h : i_usableLabels p_Labels p_Degree p_Nodes p_Edges = some r) : Y.call 75 [D.agg [D.int .i64 p_Labels, D.int .i64 p_Degree, D.sl 25 (lst (fun x => D.sl 3 (lst (D.int .i64) x)) p_Nodes), D.sl 25 (lst (fun x => D.sl 3 (lst (D.int .i64) x)) p_Edges)]] [] = some (D.own 3 (lst (D.int .i64) r), []) := by
  refine c75 ?_ rfl
  unfold k75
  unfold i_usableLabels at h
  obtain ⟨r1_, hl1, h⟩ := bindS h
  try dsimp only at h
  have c1 := g_slices_Repeat_Sbool_bool_call [true] p_Labels hl1
  simp only [lst_cons, lst_nil, cat_cons, cat_nil, List.append_nil, List.cons_append, List.nil_append] at c1
  obtain ⟨r3_, hl3, h⟩ := bindS h
  try dsimp only at h
  simp (maxDischargeDepth := 9) only [↓xpre, xpost, xlst, xcore, yset, rg0, ↓reduceIte, Nat.reduceEqDiff, Nat.reduceLT, Nat.reduceLeDiff, Nat.reduceAdd, Nat.reduceMul, Nat.reduceMod, Nat.reduceSub, Nat.reduceBEq, Int.reduceLE, Int.reduceLT, Int.reduceEq, Int.reduceSub, Int.reduceAdd, Int.reduceToNat, Int.reduceNeg, c1]
  refine wd_mono (i_usableLabels_l1_wp p_Labels p_Degree p_Nodes p_Edges hl3 ?_) ?_
  · simp (maxDischargeDepth := 9) only [↓xpre, xpost, xlst, xcore, yset, rg0, ↓reduceIte, Nat.reduceEqDiff, Nat.reduceLT, Nat.reduceLeDiff, Nat.reduceAdd, Nat.reduceMul, Nat.reduceMod, Nat.reduceSub, Nat.reduceBEq, Int.reduceLE, Int.reduceLT, Int.reduceEq, Int.reduceSub, Int.reduceAdd, Int.reduceToNat, Int.reduceNeg, c1, i_usableLabels_l1_M] <;> (repeat' apply And.intro) <;> first | rfl | exact ⟨_, rfl⟩ | simp [lst]
  · intro ex3 s3 hX3
    unfold i_usableLabels_l1_X at hX3
    obtain ⟨rfl, n3_0⟩ := hX3
    obtain ⟨r5_, hl5, h⟩ := bindS h
    try dsimp only at h
    simp (maxDischargeDepth := 9) only [↓xpre, xpost, xlst, xcore, yset, rg0, ↓reduceIte, Nat.reduceEqDiff, Nat.reduceLT, Nat.reduceLeDiff, Nat.reduceAdd, Nat.reduceMul, Nat.reduceMod, Nat.reduceSub, Nat.reduceBEq, Int.reduceLE, Int.reduceLT, Int.reduceEq, Int.reduceSub, Int.reduceAdd, Int.reduceToNat, Int.reduceNeg, c1, n3_0]
    refine wd_mono (i_usableLabels_l2_wp r3_ hl5 ?_) ?_
    · simp (maxDischargeDepth := 9) only [↓xpre, xpost, xlst, xcore, yset, rg0, ↓reduceIte, Nat.reduceEqDiff, Nat.reduceLT, Nat.reduceLeDiff, Nat.reduceAdd, Nat.reduceMul, Nat.reduceMod, Nat.reduceSub, Nat.reduceBEq, Int.reduceLE, Int.reduceLT, Int.reduceEq, Int.reduceSub, Int.reduceAdd, Int.reduceToNat, Int.reduceNeg, c1, n3_0, i_usableLabels_l2_M] <;> (repeat' apply And.intro) <;> first | rfl | exact ⟨_, rfl⟩ | simp [lst]
    · intro ex5 s5 hX5
      unfold i_usableLabels_l2_X at hX5
      obtain ⟨rfl, n5_0⟩ := hX5
      obtain rfl := Option.some.inj h
      simp (maxDischargeDepth := 9) only [↓xpre, xpost, xlst, xcore, yset, rg0, ↓reduceIte, Nat.reduceEqDiff, Nat.reduceLT, Nat.reduceLeDiff, Nat.reduceAdd, Nat.reduceMul, Nat.reduceMod, Nat.reduceSub, Nat.reduceBEq, Int.reduceLE, Int.reduceLT, Int.reduceEq, Int.reduceSub, Int.reduceAdd, Int.reduceToNat, Int.reduceNeg, c1, n5_0] <;> (repeat' apply And.intro) <;> first | rfl | exact ⟨_, rfl⟩ | simp [lst]

noncomputable def s_prUsable_l0_S (p_Labels : Int) (p_Degree : Int) (p_Nodes : List (List Int)) (p_Edges : List (List Int)) (set_ : List Int) (a : Int) : Option (((List Int) × Int) ⊕ ((List Int))) :=
  if a < p_Labels then
    ck (set_.length + 1 < 1099511627776) <|
    some (Sum.inl ((set_ ++ [a]), IntKind.i64.wrap (a + 1)))
  else
    some (Sum.inr set_)
noncomputable def s_prUsable_l0 (p_Labels : Int) (p_Degree : Int) (p_Nodes : List (List Int)) (p_Edges : List (List Int)) (v : (List Int) × Int) : Option ((List Int)) := itO (fun v => s_prUsable_l0_S p_Labels p_Degree p_Nodes p_Edges v.1 v.2) v
noncomputable def s_prUsable_l1_S (p_Labels : Int) (p_Degree : Int) (p_Nodes : List (List Int)) (p_Edges : List (List Int)) (set_ : List Int) (next : List Int) (t20_ : Int) : Option (((List Int) × Int) ⊕ ((List Int))) :=
  if t20_ < (set_.length : Int) then
    ck (0 ≤ t20_ ∧ t20_.toNat < set_.length) <|
    ck (Short p_Nodes) <|
    ck (set_.length < 1099511627776) <|
    if (p_Nodes.any fun x => x.contains (set_.getD t20_.toNat default) && x.all fun y => set_.contains y) = true then
      ck (Short p_Edges) <|
      if (p_Edges.any fun x => x.contains (set_.getD t20_.toNat default) && x.all fun y => set_.contains y) = true then
        ck (next.length + 1 < 1099511627776) <|
        some (Sum.inl ((next ++ [(set_.getD t20_.toNat default)]), IntKind.i64.wrap (t20_ + 1)))
      else
        some (Sum.inl (next, IntKind.i64.wrap (t20_ + 1)))
    else
      some (Sum.inl (next, IntKind.i64.wrap (t20_ + 1)))
  else
    some (Sum.inr next)
noncomputable def s_prUsable_l1 (p_Labels : Int) (p_Degree : Int) (p_Nodes : List (List Int)) (p_Edges : List (List Int)) (set_ : List Int) (v : (List Int) × Int) : Option ((List Int)) := itO (fun v => s_prUsable_l1_S p_Labels p_Degree p_Nodes p_Edges set_ v.1 v.2) v
noncomputable def s_prUsable_l2_S (p_Labels : Int) (p_Degree : Int) (p_Nodes : List (List Int)) (p_Edges : List (List Int)) (set_ : List Int) : Option (((List Int)) ⊕ ((List Int))) :=
  (s_prUsable_l1 p_Labels p_Degree p_Nodes p_Edges set_ ([], 0)).bind fun r4_ =>
  if (r4_.length : Int) = (set_.length : Int) then
    some (Sum.inr set_)
  else
    some (Sum.inl r4_)
noncomputable def s_prUsable_l2 (p_Labels : Int) (p_Degree : Int) (p_Nodes : List (List Int)) (p_Edges : List (List Int)) (v : (List Int)) : Option ((List Int)) := itO (fun v => s_prUsable_l2_S p_Labels p_Degree p_Nodes p_Edges v) v
noncomputable def s_prUsable (p_Labels : Int) (p_Degree : Int) (p_Nodes : List (List Int)) (p_Edges : List (List Int)) : Option ((List Int)) :=
  (s_prUsable_l0 p_Labels p_Degree p_Nodes p_Edges ([], 0)).bind fun r2_ =>
  (s_prUsable_l2 p_Labels p_Degree p_Nodes p_Edges r2_).bind fun r6_ =>
  some r6_
/-- spec.prUsable -/
def k74_l0b : SC :=
  .seq
    (.seq
      (.ops [
        ⟨(some 8), (Op.move (Operand.tmp 4)), 3, none⟩,
        ⟨(some 9), (Op.fieldAddr 39 (Operand.tmp 1) 0), 0, none⟩,
        ⟨(some 10), (Op.load 3 (Operand.tmp 9)), 3, none⟩,
        ⟨(some 11), (Op.binOp BinOp.lss 3 (Operand.tmp 8) (Operand.tmp 10) 3), 4, none⟩])
      (.cond (Operand.tmp 11)
        .skip
        (.exit 0)))
    (.seq
      (.block 1
        (.ops [
          ⟨(some 14), (Op.move (Operand.tmp 3)), 25, none⟩,
          ⟨(some 15), (Op.move (Operand.tmp 4)), 3, none⟩,
          ⟨(some 16), (Op.buildSlice 25 1 #[(0, (Operand.tmp 15))]), 25, none⟩,
          ⟨(some 17), (Op.call { callee := (Callee.builtin Builtin.append), args := #[(Operand.tmp 14), (Operand.tmp 16)], argTypes := #[25, 25] }), 25, none⟩,
          ⟨(some 3), (Op.assign (Operand.tmp 17)), 25, none⟩]))
      (.ops [
        ⟨(some 12), (Op.move (Operand.tmp 4)), 3, none⟩,
        ⟨(some 13), (Op.binOp BinOp.add 3 (Operand.tmp 12) (Operand.const (Value.int IntKind.i64 1)) 3), 3, none⟩,
        ⟨(some 4), (Op.assign (Operand.tmp 13)), 3, none⟩]))
def k74_l0 : SC := .loop k74_l0b
def k74_l1b : SC :=
  .seq
    (.ops [
      ⟨(some 21), (Op.binOp BinOp.lss 3 (Operand.tmp 20) (Operand.tmp 19) 3), 0, none⟩])
    (.seq
      (.cond (Operand.tmp 21)
        .skip
        (.exit 4))
      (.seq
        (.block 5
          (.seq
            (.ops [
              ⟨(some 22), (Op.indexAddr 25 (Operand.tmp 18) (Operand.tmp 20)), 0, none⟩,
              ⟨(some 23), (Op.load 3 (Operand.tmp 22)), 3, none⟩,
              ⟨(some 7), (Op.assign (Operand.tmp 23)), 3, none⟩])
            (.seq
              (.ops [
                ⟨(some 24), (Op.fieldAddr 39 (Operand.tmp 1) 2), 0, none⟩,
                ⟨(some 25), (Op.load 34 (Operand.tmp 24)), 34, none⟩,
                ⟨(some 26), (Op.move (Operand.tmp 7)), 3, none⟩,
                ⟨(some 27), (Op.move (Operand.tmp 3)), 25, none⟩,
                ⟨(some 28), (Op.call { callee := (Callee.value (Operand.func 87)), args := #[(Operand.tmp 25), (Operand.tmp 26), (Operand.tmp 27)], argTypes := #[34, 3, 25] }), 4, none⟩,
                ⟨(some 29), (Op.move (Operand.tmp 28)), 4, none⟩,
                ⟨(some 30), (Op.fieldAddr 39 (Operand.tmp 1) 3), 0, (some (some 29, true))⟩,
                ⟨(some 31), (Op.load 34 (Operand.tmp 30)), 34, (some (some 29, true))⟩,
                ⟨(some 32), (Op.move (Operand.tmp 7)), 3, (some (some 29, true))⟩,
                ⟨(some 33), (Op.move (Operand.tmp 3)), 25, (some (some 29, true))⟩,
                ⟨(some 34), (Op.call { callee := (Callee.value (Operand.func 87)), args := #[(Operand.tmp 31), (Operand.tmp 32), (Operand.tmp 33)], argTypes := #[34, 3, 25] }), 4, (some (some 29, true))⟩,
                ⟨(some 35), (Op.pick (Operand.tmp 29) (Operand.tmp 34) (Operand.const (Value.bool false))), 4, none⟩])
              (.cond (Operand.tmp 35)
                (.ops [
                  ⟨(some 36), (Op.move (Operand.tmp 5)), 25, none⟩,
                  ⟨(some 37), (Op.move (Operand.tmp 7)), 3, none⟩,
                  ⟨(some 38), (Op.buildSlice 25 1 #[(0, (Operand.tmp 37))]), 25, none⟩,
                  ⟨(some 39), (Op.call { callee := (Callee.builtin Builtin.append), args := #[(Operand.tmp 36), (Operand.tmp 38)], argTypes := #[25, 25] }), 25, none⟩,
                  ⟨(some 5), (Op.assign (Operand.tmp 39)), 25, none⟩])
                .skip))))
        (.ops [
          ⟨(some 40), (Op.binOp BinOp.add 3 (Operand.tmp 20) (Operand.const (Value.int IntKind.i64 1)) 3), 3, none⟩,
          ⟨(some 20), (Op.move (Operand.tmp 40)), 3, none⟩])))
def k74_l1 : SC := .loop k74_l1b
def k74_l2b : SC :=
  .block 3
    (.seq
      (.ops [
        ⟨(some 5), (Op.assign (Operand.const (Value.slice none 0 0))), 25, none⟩])
      (.seq
        (.seq
          (.ops [
            ⟨(some 18), (Op.move (Operand.tmp 3)), 25, none⟩,
            ⟨(some 19), (Op.call { callee := (Callee.builtin Builtin.len), args := #[(Operand.tmp 18)], argTypes := #[25] }), 3, none⟩,
            ⟨(some 20), (Op.move (Operand.const (Value.int IntKind.i64 0))), 3, none⟩])
          (.block 4
            k74_l1))
        (.seq
          (.seq
            (.ops [
              ⟨(some 41), (Op.move (Operand.tmp 5)), 25, none⟩,
              ⟨(some 42), (Op.call { callee := (Callee.builtin Builtin.len), args := #[(Operand.tmp 41)], argTypes := #[25] }), 3, none⟩,
              ⟨(some 43), (Op.move (Operand.tmp 3)), 25, none⟩,
              ⟨(some 44), (Op.call { callee := (Callee.builtin Builtin.len), args := #[(Operand.tmp 43)], argTypes := #[25] }), 3, none⟩,
              ⟨(some 45), (Op.binOp BinOp.eql 3 (Operand.tmp 42) (Operand.tmp 44) 3), 4, none⟩])
            (.cond (Operand.tmp 45)
              (.seq
                (.ops [
                  ⟨(some 46), (Op.move (Operand.tmp 3)), 25, none⟩,
                  ⟨(some 2), (Op.assign (Operand.tmp 46)), 25, none⟩])
                .ret)
              .skip))
          (.ops [
            ⟨(some 47), (Op.move (Operand.tmp 5)), 25, none⟩,
            ⟨(some 3), (Op.assign (Operand.tmp 47)), 25, none⟩]))))
def k74_l2 : SC := .loop k74_l2b
def k74 : SC :=
  .seq
    (.ops [
      ⟨(some 1), (Op.box 39 (Operand.tmp 0)), 0, none⟩,
      ⟨(some 2), (Op.assign (Operand.const (Value.slice none 0 0))), 25, none⟩])
    (.seq
      (.ops [
        ⟨(some 3), (Op.assign (Operand.const (Value.slice none 0 0))), 25, none⟩])
      (.seq
        (.seq
          (.ops [
            ⟨(some 4), (Op.assign (Operand.const (Value.int IntKind.i64 0))), 3, none⟩])
          (.block 0
            k74_l0))
        (.block 2
          k74_l2)))
theorem slim74 : Try.f74.body.map (slim lends) = some k74 := by kernel_rfl
theorem ok74 : fnOk Try.f74 1 = true := by kernel_rfl
theorem c74 {a l : List D} {r : D × List D} (h : wpD Y.env k74 (fin tys l.length [ResultVar.tmp 2] r) (entry a l)) (ha : a.length = 1) : Y.call 74 a l = some r :=
  call_slim (Y := Y) rfl Try.func74 (ha ▸ ok74) slim74 h
def s_prUsable_l0_M (p_Labels : Int) (p_Degree : Int) (p_Nodes : List (List Int)) (p_Edges : List (List Int)) (set_ : List Int) (a : Int) (s : St) : Prop := s.v 1 = D.box [D.int .i64 p_Labels, D.int .i64 p_Degree, D.sl 25 (lst (fun x => D.sl 3 (lst (D.int .i64) x)) p_Nodes), D.sl 25 (lst (fun x => D.sl 3 (lst (D.int .i64) x)) p_Edges)] ∧ s.v 3 = D.own 3 (lst (D.int .i64) set_) ∧ s.v 4 = D.int .i64 a
def s_prUsable_l0_X (p_Labels : Int) (p_Degree : Int) (p_Nodes : List (List Int)) (p_Edges : List (List Int)) (r : (List Int)) (ex : Ex) (s : St) : Prop := ex = .exit 0 ∧ s.v 1 = D.box [D.int .i64 p_Labels, D.int .i64 p_Degree, D.sl 25 (lst (fun x => D.sl 3 (lst (D.int .i64) x)) p_Nodes), D.sl 25 (lst (fun x => D.sl 3 (lst (D.int .i64) x)) p_Edges)] ∧ s.v 3 = D.own 3 (lst (D.int .i64) r)
theorem s_prUsable_l0_wp (p_Labels : Int) (p_Degree : Int) (p_Nodes : List (List Int)) (p_Edges : List (List Int)) {v : (List Int) × Int} {s : St} {r : (List Int)} (h : s_prUsable_l0 p_Labels p_Degree p_Nodes p_Edges v = some r) (hM : s_prUsable_l0_M p_Labels p_Degree p_Nodes p_Edges v.1 v.2 s) : wpD Y.env k74_l0 (s_prUsable_l0_X p_Labels p_Degree p_Nodes p_Edges r) s := by
  unfold s_prUsable_l0 at h
  refine wd_itO (c := k74_l0b) (fun v => s_prUsable_l0_S p_Labels p_Degree p_Nodes p_Edges v.1 v.2) (fun v s => s_prUsable_l0_M p_Labels p_Degree p_Nodes p_Edges v.1 v.2 s) (s_prUsable_l0_X p_Labels p_Degree p_Nodes p_Edges) ?_ h hM
  clear h hM s v r
  intro v s o hM h
  obtain ⟨set_, a⟩ := v
  dsimp only at h hM
  unfold s_prUsable_l0_S at h
  unfold s_prUsable_l0_M at hM
  obtain ⟨m0, m1, m2⟩ := hM
  unfold k74_l0b
  by_cases e1 : a < p_Labels
  · rw [if_pos e1] at h
    obtain ⟨e2, h⟩ := ckS h
    obtain rfl := Option.some.inj h
    simp (maxDischargeDepth := 9) only [↓xpre, xpost, xlst, xcore, yset, rg0, ↓reduceIte, Nat.reduceEqDiff, Nat.reduceLT, Nat.reduceLeDiff, Nat.reduceAdd, Nat.reduceMul, Nat.reduceMod, Nat.reduceSub, Nat.reduceBEq, Int.reduceLE, Int.reduceLT, Int.reduceEq, Int.reduceSub, Int.reduceAdd, Int.reduceToNat, Int.reduceNeg, m0, m1, m2, e1, e2, s_prUsable_l0_M, s_prUsable_l0_X, sxN, sxE, sxR] <;> (repeat' apply And.intro) <;> first | rfl | exact ⟨_, rfl⟩ | simp [lst]
  · rw [if_neg e1] at h
    obtain rfl := Option.some.inj h
    simp (maxDischargeDepth := 9) only [↓xpre, xpost, xlst, xcore, yset, rg0, ↓reduceIte, Nat.reduceEqDiff, Nat.reduceLT, Nat.reduceLeDiff, Nat.reduceAdd, Nat.reduceMul, Nat.reduceMod, Nat.reduceSub, Nat.reduceBEq, Int.reduceLE, Int.reduceLT, Int.reduceEq, Int.reduceSub, Int.reduceAdd, Int.reduceToNat, Int.reduceNeg, m0, m1, m2, e1, s_prUsable_l0_M, s_prUsable_l0_X, sxN, sxE, sxR] <;> (repeat' apply And.intro) <;> first | rfl | exact ⟨_, rfl⟩ | simp [lst]
def s_prUsable_l1_M (p_Labels : Int) (p_Degree : Int) (p_Nodes : List (List Int)) (p_Edges : List (List Int)) (set_ : List Int) (next : List Int) (t20_ : Int) (s : St) : Prop := s.v 1 = D.box [D.int .i64 p_Labels, D.int .i64 p_Degree, D.sl 25 (lst (fun x => D.sl 3 (lst (D.int .i64) x)) p_Nodes), D.sl 25 (lst (fun x => D.sl 3 (lst (D.int .i64) x)) p_Edges)] ∧ s.v 3 = D.own 3 (lst (D.int .i64) set_) ∧ s.v 5 = D.own 3 (lst (D.int .i64) next) ∧ (∃ w_, s.v 18 = D.vw [3] (s.k 3) w_) ∧ s.v 19 = D.int .i64 (set_.length : Int) ∧ s.v 20 = D.int .i64 t20_
def s_prUsable_l1_X (p_Labels : Int) (p_Degree : Int) (p_Nodes : List (List Int)) (p_Edges : List (List Int)) (set_ : List Int) (r : (List Int)) (ex : Ex) (s : St) : Prop := ex = .exit 4 ∧ s.v 1 = D.box [D.int .i64 p_Labels, D.int .i64 p_Degree, D.sl 25 (lst (fun x => D.sl 3 (lst (D.int .i64) x)) p_Nodes), D.sl 25 (lst (fun x => D.sl 3 (lst (D.int .i64) x)) p_Edges)] ∧ s.v 3 = D.own 3 (lst (D.int .i64) set_) ∧ s.v 5 = D.own 3 (lst (D.int .i64) r)
theorem s_prUsable_l1_wp (p_Labels : Int) (p_Degree : Int) (p_Nodes : List (List Int)) (p_Edges : List (List Int)) (set_ : List Int) {v : (List Int) × Int} {s : St} {r : (List Int)} (h : s_prUsable_l1 p_Labels p_Degree p_Nodes p_Edges set_ v = some r) (hM : s_prUsable_l1_M p_Labels p_Degree p_Nodes p_Edges set_ v.1 v.2 s) : wpD Y.env k74_l1 (s_prUsable_l1_X p_Labels p_Degree p_Nodes p_Edges set_ r) s := by
  unfold s_prUsable_l1 at h
  refine wd_itO (c := k74_l1b) (fun v => s_prUsable_l1_S p_Labels p_Degree p_Nodes p_Edges set_ v.1 v.2) (fun v s => s_prUsable_l1_M p_Labels p_Degree p_Nodes p_Edges set_ v.1 v.2 s) (s_prUsable_l1_X p_Labels p_Degree p_Nodes p_Edges set_) ?_ h hM
  clear h hM s v r
  intro v s o hM h
  obtain ⟨next, t20_⟩ := v
  dsimp only at h hM
  unfold s_prUsable_l1_S at h
  unfold s_prUsable_l1_M at hM
  obtain ⟨m0, m1, m2, ⟨w3_, m3⟩, m4, m5⟩ := hM
  unfold k74_l1b
  by_cases e3 : t20_ < (set_.length : Int)
  · rw [if_pos e3] at h
    obtain ⟨e4, h⟩ := ckS h
    obtain ⟨e5, h⟩ := ckS h
    obtain ⟨e6, h⟩ := ckS h
    have c7 := s_prWithin_cl p_Nodes (set_.getD t20_.toNat default) set_ e5 e6
    by_cases e8 : (p_Nodes.any fun x => x.contains (set_.getD t20_.toNat default) && x.all fun y => set_.contains y) = true
    · rw [if_pos e8] at h
      obtain ⟨e9, h⟩ := ckS h
      have c10 := s_prWithin_cl p_Edges (set_.getD t20_.toNat default) set_ e9 e6
      by_cases e11 : (p_Edges.any fun x => x.contains (set_.getD t20_.toNat default) && x.all fun y => set_.contains y) = true
      · rw [if_pos e11] at h
        obtain ⟨e12, h⟩ := ckS h
        obtain rfl := Option.some.inj h
        simp (maxDischargeDepth := 9) only [↓xpre, xpost, xlst, xcore, yset, rg0, ↓reduceIte, Nat.reduceEqDiff, Nat.reduceLT, Nat.reduceLeDiff, Nat.reduceAdd, Nat.reduceMul, Nat.reduceMod, Nat.reduceSub, Nat.reduceBEq, Int.reduceLE, Int.reduceLT, Int.reduceEq, Int.reduceSub, Int.reduceAdd, Int.reduceToNat, Int.reduceNeg, m0, m1, m2, m3, m4, m5, e3, e4.1, e4.2, e5, e6, c7, e8, e9, c10, e11, e12, s_prUsable_l1_M, s_prUsable_l1_X, sxN, sxE, sxR] <;> (repeat' apply And.intro) <;> first | rfl | exact ⟨_, rfl⟩ | simp [lst]
      · rw [if_neg e11] at h
        have e11f : (p_Edges.any fun x => x.contains (set_.getD t20_.toNat default) && x.all fun y => set_.contains y) = false := Bool.eq_false_iff.mpr e11
        obtain rfl := Option.some.inj h
        simp (maxDischargeDepth := 9) only [↓xpre, xpost, xlst, xcore, yset, rg0, ↓reduceIte, Nat.reduceEqDiff, Nat.reduceLT, Nat.reduceLeDiff, Nat.reduceAdd, Nat.reduceMul, Nat.reduceMod, Nat.reduceSub, Nat.reduceBEq, Int.reduceLE, Int.reduceLT, Int.reduceEq, Int.reduceSub, Int.reduceAdd, Int.reduceToNat, Int.reduceNeg, m0, m1, m2, m3, m4, m5, e3, e4.1, e4.2, e5, e6, c7, e8, e9, c10, e11f, s_prUsable_l1_M, s_prUsable_l1_X, sxN, sxE, sxR] <;> (repeat' apply And.intro) <;> first | rfl | exact ⟨_, rfl⟩ | simp [lst]
    · rw [if_neg e8] at h
      have e8f : (p_Nodes.any fun x => x.contains (set_.getD t20_.toNat default) && x.all fun y => set_.contains y) = false := Bool.eq_false_iff.mpr e8
      obtain rfl := Option.some.inj h
      simp (maxDischargeDepth := 9) only [↓xpre, xpost, xlst, xcore, yset, rg0, ↓reduceIte, Nat.reduceEqDiff, Nat.reduceLT, Nat.reduceLeDiff, Nat.reduceAdd, Nat.reduceMul, Nat.reduceMod, Nat.reduceSub, Nat.reduceBEq, Int.reduceLE, Int.reduceLT, Int.reduceEq, Int.reduceSub, Int.reduceAdd, Int.reduceToNat, Int.reduceNeg, m0, m1, m2, m3, m4, m5, e3, e4.1, e4.2, e5, e6, c7, e8f, s_prUsable_l1_M, s_prUsable_l1_X, sxN, sxE, sxR] <;> (repeat' apply And.intro) <;> first | rfl | exact ⟨_, rfl⟩ | simp [lst]
  · rw [if_neg e3] at h
    obtain rfl := Option.some.inj h
    simp (maxDischargeDepth := 9) only [↓xpre, xpost, xlst, xcore, yset, rg0, ↓reduceIte, Nat.reduceEqDiff, Nat.reduceLT, Nat.reduceLeDiff, Nat.reduceAdd, Nat.reduceMul, Nat.reduceMod, Nat.reduceSub, Nat.reduceBEq, Int.reduceLE, Int.reduceLT, Int.reduceEq, Int.reduceSub, Int.reduceAdd, Int.reduceToNat, Int.reduceNeg, m0, m1, m2, m3, m4, m5, e3, s_prUsable_l1_M, s_prUsable_l1_X, sxN, sxE, sxR] <;> (repeat' apply And.intro) <;> first | rfl | exact ⟨_, rfl⟩ | simp [lst]
def s_prUsable_l2_M (p_Labels : Int) (p_Degree : Int) (p_Nodes : List (List Int)) (p_Edges : List (List Int)) (set_ : List Int) (s : St) : Prop := s.v 1 = D.box [D.int .i64 p_Labels, D.int .i64 p_Degree, D.sl 25 (lst (fun x => D.sl 3 (lst (D.int .i64) x)) p_Nodes), D.sl 25 (lst (fun x => D.sl 3 (lst (D.int .i64) x)) p_Edges)] ∧ s.v 3 = D.own 3 (lst (D.int .i64) set_)
def s_prUsable_l2_X (p_Labels : Int) (p_Degree : Int) (p_Nodes : List (List Int)) (p_Edges : List (List Int)) (r : (List Int)) (ex : Ex) (s : St) : Prop := ex = .ret ∧ s.v 2 = D.own 3 (lst (D.int .i64) r)
theorem s_prUsable_l2_wp (p_Labels : Int) (p_Degree : Int) (p_Nodes : List (List Int)) (p_Edges : List (List Int)) {v : (List Int)} {s : St} {r : (List Int)} (h : s_prUsable_l2 p_Labels p_Degree p_Nodes p_Edges v = some r) (hM : s_prUsable_l2_M p_Labels p_Degree p_Nodes p_Edges v s) : wpD Y.env k74_l2 (s_prUsable_l2_X p_Labels p_Degree p_Nodes p_Edges r) s := by
  unfold s_prUsable_l2 at h
  refine wd_itO (c := k74_l2b) (fun v => s_prUsable_l2_S p_Labels p_Degree p_Nodes p_Edges v) (fun v s => s_prUsable_l2_M p_Labels p_Degree p_Nodes p_Edges v s) (s_prUsable_l2_X p_Labels p_Degree p_Nodes p_Edges) ?_ h hM
  clear h hM s v r
  intro set_ s o hM h
  unfold s_prUsable_l2_S at h
  unfold s_prUsable_l2_M at hM
  obtain ⟨m0, m1⟩ := hM
  unfold k74_l2b
  obtain ⟨r4_, hl4, h⟩ := bindS h
  try dsimp only at h
  simp (maxDischargeDepth := 9) only [↓xpre, xpost, xlst, xcore, yset, rg0, ↓reduceIte, Nat.reduceEqDiff, Nat.reduceLT, Nat.reduceLeDiff, Nat.reduceAdd, Nat.reduceMul, Nat.reduceMod, Nat.reduceSub, Nat.reduceBEq, Int.reduceLE, Int.reduceLT, Int.reduceEq, Int.reduceSub, Int.reduceAdd, Int.reduceToNat, Int.reduceNeg, m0, m1]
  refine wd_mono (s_prUsable_l1_wp p_Labels p_Degree p_Nodes p_Edges set_ hl4 ?_) ?_
  · simp (maxDischargeDepth := 9) only [↓xpre, xpost, xlst, xcore, yset, rg0, ↓reduceIte, Nat.reduceEqDiff, Nat.reduceLT, Nat.reduceLeDiff, Nat.reduceAdd, Nat.reduceMul, Nat.reduceMod, Nat.reduceSub, Nat.reduceBEq, Int.reduceLE, Int.reduceLT, Int.reduceEq, Int.reduceSub, Int.reduceAdd, Int.reduceToNat, Int.reduceNeg, m0, m1, s_prUsable_l1_M] <;> (repeat' apply And.intro) <;> first | rfl | exact ⟨_, rfl⟩ | simp [lst]
  · intro ex4 s4 hX4
    unfold s_prUsable_l1_X at hX4
    obtain ⟨rfl, n4_0, n4_1, n4_2⟩ := hX4
    by_cases e5 : (r4_.length : Int) = (set_.length : Int)
    · rw [if_pos e5] at h
      obtain rfl := Option.some.inj h
      simp (maxDischargeDepth := 9) only [↓xpre, xpost, xlst, xcore, yset, rg0, ↓reduceIte, Nat.reduceEqDiff, Nat.reduceLT, Nat.reduceLeDiff, Nat.reduceAdd, Nat.reduceMul, Nat.reduceMod, Nat.reduceSub, Nat.reduceBEq, Int.reduceLE, Int.reduceLT, Int.reduceEq, Int.reduceSub, Int.reduceAdd, Int.reduceToNat, Int.reduceNeg, n4_0, n4_1, n4_2, decide_eq_true e5, s_prUsable_l2_M, s_prUsable_l2_X, sxN, sxE, sxR] <;> (repeat' apply And.intro) <;> first | rfl | exact ⟨_, rfl⟩ | simp [lst]
    · rw [if_neg e5] at h
      obtain rfl := Option.some.inj h
      simp (maxDischargeDepth := 9) only [↓xpre, xpost, xlst, xcore, yset, rg0, ↓reduceIte, Nat.reduceEqDiff, Nat.reduceLT, Nat.reduceLeDiff, Nat.reduceAdd, Nat.reduceMul, Nat.reduceMod, Nat.reduceSub, Nat.reduceBEq, Int.reduceLE, Int.reduceLT, Int.reduceEq, Int.reduceSub, Int.reduceAdd, Int.reduceToNat, Int.reduceNeg, n4_0, n4_1, n4_2, e5, s_prUsable_l2_M, s_prUsable_l2_X, sxN, sxE, sxR] <;> (repeat' apply And.intro) <;> first | rfl | exact ⟨_, rfl⟩ | simp [lst]
theorem s_prUsable_call (p_Labels : Int) (p_Degree : Int) (p_Nodes : List (List Int)) (p_Edges : List (List Int)) {r : (List Int)} (h : s_prUsable p_Labels p_Degree p_Nodes p_Edges = some r) : Y.call 74 [D.agg [D.int .i64 p_Labels, D.int .i64 p_Degree, D.sl 25 (lst (fun x => D.sl 3 (lst (D.int .i64) x)) p_Nodes), D.sl 25 (lst (fun x => D.sl 3 (lst (D.int .i64) x)) p_Edges)]] [] = some (D.own 3 (lst (D.int .i64) r), []) := by
  refine c74 ?_ rfl
  unfold k74
  unfold s_prUsable at h
  obtain ⟨r2_, hl2, h⟩ := bindS h
  try dsimp only at h
  simp (maxDischargeDepth := 9) only [↓xpre, xpost, xlst, xcore, yset, rg0, ↓reduceIte, Nat.reduceEqDiff, Nat.reduceLT, Nat.reduceLeDiff, Nat.reduceAdd, Nat.reduceMul, Nat.reduceMod, Nat.reduceSub, Nat.reduceBEq, Int.reduceLE, Int.reduceLT, Int.reduceEq, Int.reduceSub, Int.reduceAdd, Int.reduceToNat, Int.reduceNeg]
  refine wd_mono (s_prUsable_l0_wp p_Labels p_Degree p_Nodes p_Edges hl2 ?_) ?_
  · simp (maxDischargeDepth := 9) only [↓xpre, xpost, xlst, xcore, yset, rg0, ↓reduceIte, Nat.reduceEqDiff, Nat.reduceLT, Nat.reduceLeDiff, Nat.reduceAdd, Nat.reduceMul, Nat.reduceMod, Nat.reduceSub, Nat.reduceBEq, Int.reduceLE, Int.reduceLT, Int.reduceEq, Int.reduceSub, Int.reduceAdd, Int.reduceToNat, Int.reduceNeg, s_prUsable_l0_M] <;> (repeat' apply And.intro) <;> first | rfl | exact ⟨_, rfl⟩ | simp [lst]
  · intro ex2 s2 hX2
    unfold s_prUsable_l0_X at hX2
    obtain ⟨rfl, n2_0, n2_1⟩ := hX2
    obtain ⟨r6_, hl6, h⟩ := bindS h
    try dsimp only at h
    simp (maxDischargeDepth := 9) only [↓xpre, xpost, xlst, xcore, yset, rg0, ↓reduceIte, Nat.reduceEqDiff, Nat.reduceLT, Nat.reduceLeDiff, Nat.reduceAdd, Nat.reduceMul, Nat.reduceMod, Nat.reduceSub, Nat.reduceBEq, Int.reduceLE, Int.reduceLT, Int.reduceEq, Int.reduceSub, Int.reduceAdd, Int.reduceToNat, Int.reduceNeg, n2_0, n2_1]
    refine wd_mono (s_prUsable_l2_wp p_Labels p_Degree p_Nodes p_Edges hl6 ?_) ?_
    · simp (maxDischargeDepth := 9) only [↓xpre, xpost, xlst, xcore, yset, rg0, ↓reduceIte, Nat.reduceEqDiff, Nat.reduceLT, Nat.reduceLeDiff, Nat.reduceAdd, Nat.reduceMul, Nat.reduceMod, Nat.reduceSub, Nat.reduceBEq, Int.reduceLE, Int.reduceLT, Int.reduceEq, Int.reduceSub, Int.reduceAdd, Int.reduceToNat, Int.reduceNeg, n2_0, n2_1, s_prUsable_l2_M] <;> (repeat' apply And.intro) <;> first | rfl | exact ⟨_, rfl⟩ | simp [lst]
    · intro ex6 s6 hX6
      unfold s_prUsable_l2_X at hX6
      obtain ⟨rfl, n6_0⟩ := hX6
      obtain rfl := Option.some.inj h
      simp (maxDischargeDepth := 9) only [↓xpre, xpost, xlst, xcore, yset, rg0, ↓reduceIte, Nat.reduceEqDiff, Nat.reduceLT, Nat.reduceLeDiff, Nat.reduceAdd, Nat.reduceMul, Nat.reduceMod, Nat.reduceSub, Nat.reduceBEq, Int.reduceLE, Int.reduceLT, Int.reduceEq, Int.reduceSub, Int.reduceAdd, Int.reduceToNat, Int.reduceNeg, n6_0] <;> (repeat' apply And.intro) <;> first | rfl | exact ⟨_, rfl⟩ | simp [lst]

/-- The labels of a set. -/
def labs (n : Nat) (p : Nat → Bool) : List Int := ((List.range n).filter p).map fun (i : Nat) => (i : Int)
theorem labs_mem {n : Nat} {p : Nat → Bool} {y : Int} : y ∈ labs n p ↔ 0 ≤ y ∧ y.toNat < n ∧ p y.toNat = true := by
  unfold labs
  simp only [List.mem_map, List.mem_filter, List.mem_range]
  constructor
  · rintro ⟨i, ⟨h1, h2⟩, rfl⟩; exact ⟨by omega, by simpa using h1, by simpa using h2⟩
  · rintro ⟨h1, h2, h3⟩; exact ⟨y.toNat, ⟨h2, h3⟩, by omega⟩
theorem labs_len (n : Nat) (p : Nat → Bool) : (labs n p).length ≤ n := by
  unfold labs; rw [List.length_map]; exact Nat.le_trans (List.length_filter_le _ _) (by simp)
theorem labs_congr {n : Nat} {p q : Nat → Bool} (h : ∀ i, i < n → p i = q i) : labs n p = labs n q := by
  unfold labs
  congr 1
  apply List.filter_congr
  intro i hi
  exact h i (List.mem_range.1 hi)
/-- A label of a set is used by configurations of that set. -/
def goodB (ns es : List (List Int)) (p : Nat → Bool) (a : Int) : Bool := occB ns a p && occB es a p
theorem occB_mono {l : List (List Int)} {a : Int} {p q : Nat → Bool} (h : ∀ i, p i = true → q i = true) (ho : occB l a p = true) : occB l a q = true := by
  obtain ⟨x, hx, hc⟩ := List.any_eq_true.1 ho
  simp only [Bool.and_eq_true] at hc
  refine List.any_eq_true.2 ⟨x, hx, ?_⟩
  simp only [Bool.and_eq_true]
  exact ⟨hc.1, List.all_eq_true.2 fun y hy => h _ (List.all_eq_true.1 hc.2 y hy)⟩
theorem goodB_mono {ns es : List (List Int)} {a : Int} {p q : Nat → Bool} (h : ∀ i, p i = true → q i = true) (ho : goodB ns es p a = true) : goodB ns es q a = true := by
  unfold goodB at ho ⊢
  simp only [Bool.and_eq_true] at ho ⊢
  exact ⟨occB_mono h ho.1, occB_mono h ho.2⟩
/-- A set in which each label is used. -/
def Fixd (n : Nat) (ns es : List (List Int)) (p : Nat → Bool) : Prop := ∀ i, p i = true → i < n ∧ goodB ns es p (i : Int) = true
/-- The greatest such set. -/
def Great (n : Nat) (ns es : List (List Int)) (p : Nat → Bool) : Prop := Fixd n ns es p ∧ ∀ q, Fixd n ns es q → ∀ i, q i = true → p i = true
theorem Great.uniq {n : Nat} {ns es : List (List Int)} {p q : Nat → Bool} (h : Great n ns es p) (g : Great n ns es q) (i : Nat) : p i = q i := by
  rw [Bool.eq_iff_iff]; exact ⟨g.2 p h.1 i, h.2 q g.1 i⟩
theorem within_labs {n : Nat} {l : List (List Int)} (hi : inside l n = true) (p : Nat → Bool) (a : Int) : (l.any fun x => x.contains a && x.all fun y => (labs n p).contains y) = occB l a p := by
  unfold occB
  rw [Bool.eq_iff_iff, List.any_eq_true, List.any_eq_true]
  constructor
  · rintro ⟨x, hx, hc⟩
    simp only [Bool.and_eq_true] at hc
    refine ⟨x, hx, ?_⟩
    simp only [Bool.and_eq_true]
    exact ⟨hc.1, List.all_eq_true.2 fun y hy => (labs_mem.1 (List.contains_iff_mem.1 (List.all_eq_true.1 hc.2 y hy))).2.2⟩
  · rintro ⟨x, hx, hc⟩
    simp only [Bool.and_eq_true] at hc
    refine ⟨x, hx, ?_⟩
    simp only [Bool.and_eq_true]
    refine ⟨hc.1, List.all_eq_true.2 fun y hy => List.contains_iff_mem.2 (labs_mem.2 ?_)⟩
    have := inside_get hi hx hy
    exact ⟨this.1, this.2, List.all_eq_true.1 hc.2 y hy⟩
/-- The specification's sets. -/
theorem usable_l1 (L D' : Int) (ns es : List (List Int)) (n : Nat) (p : Nat → Bool) (hn : Short ns) (he : Short es) (h1 : inside ns n = true) (h2 : inside es n = true) (hs : n < 1000) :
    s_prUsable_l1 L D' ns es (labs n p) ([], 0) = some (labs n fun i => p i && goodB ns es p (i : Int)) := by
  have hl := labs_len n p
  have key := itO_fold (fun v => s_prUsable_l1_S L D' ns es (labs n p) v.1 v.2) (fun i b => (b, (i : Int))) (fun i b => b.length ≤ i) (labs n p) (fun b a => if goodB ns es p a = true then b ++ [a] else b) (fun b => b) ?_ ?_ [] (Nat.le_refl _)
  · unfold s_prUsable_l1
    have k1 := key.1
    simp only [Int.natCast_zero] at k1
    rw [k1]
    congr 1
    have ff : ∀ (l b : List Int), l.foldl (fun b a => if goodB ns es p a = true then b ++ [a] else b) b = b ++ l.filter (goodB ns es p) := by
      intro l
      induction l with
      | nil => intro b; simp
      | cons x l ih =>
        intro b
        rw [List.foldl_cons, ih, List.filter_cons]
        split <;> simp
    rw [ff, List.nil_append]
    unfold labs
    rw [List.filter_map, List.filter_filter]
    congr 1
    apply List.filter_congr
    intro i _
    simp only [Function.comp]
    rw [Bool.and_comm]
  · intro i b hi hb
    simp only [s_prUsable_l1_S]
    have hx := labs_len n p
    rw [if_pos (lt_nat hi), ckT (ix_nat hi), getD_nat _ _ hi, ckT hn, ckT (by omega), within_labs h1, ckT he, within_labs h2, wrS i (by omega)]
    unfold goodB
    cases q1 : occB ns (labs n p)[i] p with
    | false => simp; omega
    | true =>
      cases q2 : occB es (labs n p)[i] p with
      | false => simp; omega
      | true =>
        simp only [if_true, Bool.and_self]
        rw [ckT (by omega)]
        exact ⟨rfl, by simp; omega⟩
  · intro b hb
    simp only [s_prUsable_l1_S]; rw [if_neg (not_lt_nat _)]
theorem labs_same {n : Nat} {p q : Nat → Bool} (h : ∀ i, q i = true → p i = true) (hl : (labs n q).length = (labs n p).length) : ∀ i, i < n → p i = q i := by
  have hsub : ∀ (l : List Nat), ((l.filter q).length ≤ (l.filter p).length) ∧ ((l.filter q).length = (l.filter p).length → ∀ i ∈ l, p i = q i) := by
    intro l
    induction l with
    | nil => simp
    | cons x l ih =>
      rw [List.filter_cons, List.filter_cons]
      cases hq : q x with
      | true =>
        have hp := h x hq
        rw [hp]
        simp only [if_true, List.length_cons]
        refine ⟨by omega, fun he i hi => ?_⟩
        rcases List.mem_cons.1 hi with rfl | hi
        · rw [hp, hq]
        · exact ih.2 (by omega) i hi
      | false =>
        cases hp : p x with
        | true =>
          simp only [if_true, Bool.false_eq_true, if_false, List.length_cons]
          exact ⟨by omega, fun he => by have := ih.1; omega⟩
        | false =>
          simp only [Bool.false_eq_true, if_false]
          refine ⟨ih.1, fun he i hi => ?_⟩
          rcases List.mem_cons.1 hi with rfl | hi
          · rw [hp, hq]
          · exact ih.2 he i hi
  unfold labs at hl
  rw [List.length_map, List.length_map] at hl
  exact fun i hi => (hsub (List.range n)).2 hl i (List.mem_range.2 hi)
theorem usable_l2 (L D' : Int) (ns es : List (List Int)) (n : Nat) (hn : Short ns) (he : Short es) (h1 : inside ns n = true) (h2 : inside es n = true) (hs : n < 1000) :
    ∃ p, s_prUsable_l2 L D' ns es (labs n fun _ => true) = some (labs n p) ∧ Great n ns es p := by
  unfold s_prUsable_l2
  obtain ⟨r, k1, k2⟩ := itO_inv (fun v => s_prUsable_l2_S L D' ns es v) (fun m v => ∃ p : Nat → Bool, v = labs n p ∧ m = v.length ∧ (∀ i, p i = true → i < n) ∧ ∀ q, Fixd n ns es q → ∀ i, q i = true → p i = true) (fun r => ∃ p, r = labs n p ∧ Great n ns es p) (by
    rintro m v ⟨p, rfl, rfl, hb, hq⟩
    have step := usable_l1 L D' ns es n p hn he h1 h2 hs
    simp only [s_prUsable_l2_S, step, Option.bind_some]
    by_cases hl : ((labs n fun i => p i && goodB ns es p (i : Int)).length : Int) = ((labs n p).length : Int)
    · right
      refine ⟨labs n p, by rw [if_pos hl], p, rfl, ⟨fun i hi => ⟨hb i hi, ?_⟩, hq⟩⟩
      have := labs_same (n := n) (p := p) (q := fun i => p i && goodB ns es p (i : Int)) (fun i h => by simp only [Bool.and_eq_true] at h; exact h.1) (by omega) i (hb i hi)
      rw [hi] at this
      simp only [Bool.true_and] at this
      exact this.symm
    · left
      refine ⟨_, _, by rw [if_neg hl], ?_, _, rfl, rfl, fun i h => ?_, fun q hf i hqi => ?_⟩
      · have : ∀ (l : List Nat), (l.filter fun i => p i && goodB ns es p (i : Int)).length ≤ (l.filter p).length := by
          intro l
          induction l with
          | nil => simp
          | cons x l ih =>
            rw [List.filter_cons, List.filter_cons]
            cases hp : p x with
            | false => simpa using ih
            | true => cases hg : goodB ns es p (x : Int) <;> simp <;> omega
        have h3 := this (List.range n)
        unfold labs at hl ⊢
        simp only [List.length_map] at hl ⊢
        omega
      · simp only [Bool.and_eq_true] at h; exact hb i h.1
      · simp only [Bool.and_eq_true]
        exact ⟨hq q hf i hqi, goodB_mono (fun j hj => hq q hf j hj) (hf i hqi).2⟩) _ (labs n fun i => decide (i < n)) ⟨fun i => decide (i < n), rfl, rfl, fun i h => by simpa using h, fun q hf i hqi => by simpa using (hf i hqi).1⟩
  obtain ⟨p, rfl, hp⟩ := k2
  refine ⟨p, ?_, hp⟩
  rw [labs_congr (q := fun i => decide (i < n)) (fun i hi => by simp [hi])]
  exact k1

end Go.Proofs.Ythaimoghceamnaa
