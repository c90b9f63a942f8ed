/- Membership of a number, as a plain function. Conditions: the list is short. -/
import Derived.Test.YtjlphfbpaejicaaL6
import Derived.Test.YtjlphfbpaejicaaIsP
namespace Go.Proofs.Ytjlphfbpaejicaa
open Go Dv
set_option linter.unusedSimpArgs false
set_option linter.unusedVariables false
set_option maxRecDepth 100000
set_option maxHeartbeats 4000000

noncomputable def g_slices_Index_Sint_int_l0_S (s_ : List Int) (v_ : Int) (t8_ : Int) : Option ((Int) ⊕ (Int ⊕ Unit)) :=
  if t8_ < (s_.length : Int) then
    ck (0 ≤ t8_ ∧ t8_.toNat < s_.length) <|
    if v_ = (s_.getD t8_.toNat default) then
      some (Sum.inr (Sum.inl t8_))
    else
      some (Sum.inl (IntKind.i64.wrap (t8_ + 1)))
  else
    some (Sum.inr (Sum.inr ()))
noncomputable def g_slices_Index_Sint_int_l0 (s_ : List Int) (v_ : Int) (v : Int) : Option (Int ⊕ Unit) := itO (fun v => g_slices_Index_Sint_int_l0_S s_ v_ v) v
noncomputable def g_slices_Index_Sint_int (s_ : List Int) (v_ : Int) : Option (Int) :=
  (g_slices_Index_Sint_int_l0 s_ v_ 0).bind fun r2_ =>
  match r2_ with
  | .inl q2_ =>
    some q2_
  | .inr q2_ =>
    some (-1)
/-- slices.Index[[]int,int] -/
def k108_l0b : SC :=
  .seq
    (.ops [
      ⟨(some 9), (Op.binOp BinOp.lss 3 (Operand.tmp 8) (Operand.tmp 7) 3), 0, none⟩])
    (.seq
      (.cond (Operand.tmp 9)
        .skip
        (.exit 0))
      (.seq
        (.block 1
          (.seq
            (.ops [
              ⟨(some 10), (Op.move (Operand.tmp 8)), 3, none⟩,
              ⟨(some 5), (Op.assign (Operand.tmp 10)), 3, none⟩])
            (.seq
              (.ops [
                ⟨(some 11), (Op.move (Operand.tmp 1)), 3, none⟩,
                ⟨(some 12), (Op.move (Operand.tmp 0)), 32, none⟩,
                ⟨(some 13), (Op.move (Operand.tmp 5)), 3, none⟩,
                ⟨(some 14), (Op.indexAddr 32 (Operand.tmp 12) (Operand.tmp 13)), 0, none⟩,
                ⟨(some 15), (Op.load 3 (Operand.tmp 14)), 3, none⟩,
                ⟨(some 16), (Op.binOp BinOp.eql 3 (Operand.tmp 11) (Operand.tmp 15) 3), 4, none⟩])
              (.cond (Operand.tmp 16)
                (.seq
                  (.ops [
                    ⟨(some 17), (Op.move (Operand.tmp 5)), 3, none⟩,
                    ⟨(some 4), (Op.assign (Operand.tmp 17)), 3, none⟩])
                  .ret)
                .skip))))
        (.ops [
          ⟨(some 18), (Op.binOp BinOp.add 3 (Operand.tmp 8) (Operand.const (Value.int IntKind.i64 1)) 3), 3, none⟩,
          ⟨(some 8), (Op.move (Operand.tmp 18)), 3, none⟩])))
def k108_l0 : SC := .loop k108_l0b
def k108 : SC :=
  .seq
    (.ops [
      ⟨(some 4), (Op.assign (Operand.const (Value.int IntKind.i64 0))), 3, none⟩])
    (.seq
      (.seq
        (.ops [
          ⟨(some 6), (Op.move (Operand.tmp 0)), 32, none⟩,
          ⟨(some 7), (Op.call { callee := (Callee.builtin Builtin.len), args := #[(Operand.tmp 6)], argTypes := #[32] }), 3, none⟩,
          ⟨(some 8), (Op.move (Operand.const (Value.int IntKind.i64 0))), 3, none⟩])
        (.block 0
          k108_l0))
      (.seq
        (.ops [
          ⟨(some 4), (Op.assign (Operand.const (Value.int IntKind.i64 (-1)))), 3, none⟩])
        .ret))
theorem slim108 : Try.f108.body.map (slim lends) = some k108 := by kernel_rfl
theorem ok108 : fnOk Try.f108 2 = true := by kernel_rfl
theorem c108 {a l : List D} {r : D × List D} (h : wpD Y.env k108 (fin tys l.length [ResultVar.tmp 4] r) (entry a l)) (ha : a.length = 2) : Y.call 108 a l = some r :=
  call_slim (Y := Y) rfl Try.func108 (ha ▸ ok108) slim108 h
def g_slices_Index_Sint_int_l0_M (s_ : List Int) (v_ : Int) (t8_ : Int) (s : St) : Prop := s.v 0 = D.sl 3 (lst (D.int .i64) s_) ∧ s.v 1 = D.int .i64 v_ ∧ s.v 7 = D.int .i64 (s_.length : Int) ∧ s.v 8 = D.int .i64 t8_
def g_slices_Index_Sint_int_l0_X (s_ : List Int) (v_ : Int) (r : Int ⊕ Unit) (ex : Ex) (s : St) : Prop := match r with
  | .inl q => ex = .ret ∧ s.v 4 = D.int .i64 q
  | .inr q => ex = .exit 0
theorem g_slices_Index_Sint_int_l0_wp (s_ : List Int) (v_ : Int) {v : Int} {s : St} {r : Int ⊕ Unit} (h : g_slices_Index_Sint_int_l0 s_ v_ v = some r) (hM : g_slices_Index_Sint_int_l0_M s_ v_ v s) : wpD Y.env k108_l0 (g_slices_Index_Sint_int_l0_X s_ v_ r) s := by
  unfold g_slices_Index_Sint_int_l0 at h
  refine wd_itO (c := k108_l0b) (fun v => g_slices_Index_Sint_int_l0_S s_ v_ v) (fun v s => g_slices_Index_Sint_int_l0_M s_ v_ v s) (g_slices_Index_Sint_int_l0_X s_ v_) ?_ h hM
  clear h hM s v r
  intro t8_ s o hM h
  unfold g_slices_Index_Sint_int_l0_S at h
  unfold g_slices_Index_Sint_int_l0_M at hM
  obtain ⟨m0, m1, m2, m3⟩ := hM
  unfold k108_l0b
  by_cases e1 : t8_ < (s_.length : Int)
  · rw [if_pos e1] at h
    obtain ⟨e2, h⟩ := ckS h
    by_cases e3 : v_ = (s_.getD t8_.toNat default)
    · rw [if_pos e3] at h
      obtain rfl := Option.some.inj h
      simp (maxDischargeDepth := 9) only [↓xpre, xpost, xlst, xcore, yset, rg0, ↓reduceIte, Nat.reduceEqDiff, Nat.reduceLT, Nat.reduceLeDiff, Nat.reduceAdd, Nat.reduceMul, Nat.reduceMod, Nat.reduceSub, Nat.reduceBEq, Int.reduceLE, Int.reduceLT, Int.reduceEq, Int.reduceSub, Int.reduceAdd, Int.reduceToNat, Int.reduceNeg, m0, m1, m2, m3, e1, e2.1, e2.2, decide_eq_true e3, g_slices_Index_Sint_int_l0_M, g_slices_Index_Sint_int_l0_X, sxN, sxE, sxR] <;> (repeat' apply And.intro) <;> first | rfl | exact ⟨_, rfl⟩ | simp [lst]
    · rw [if_neg e3] at h
      obtain rfl := Option.some.inj h
      simp (maxDischargeDepth := 9) only [↓xpre, xpost, xlst, xcore, yset, rg0, ↓reduceIte, Nat.reduceEqDiff, Nat.reduceLT, Nat.reduceLeDiff, Nat.reduceAdd, Nat.reduceMul, Nat.reduceMod, Nat.reduceSub, Nat.reduceBEq, Int.reduceLE, Int.reduceLT, Int.reduceEq, Int.reduceSub, Int.reduceAdd, Int.reduceToNat, Int.reduceNeg, m0, m1, m2, m3, e1, e2.1, e2.2, e3, g_slices_Index_Sint_int_l0_M, g_slices_Index_Sint_int_l0_X, sxN, sxE, sxR] <;> (repeat' apply And.intro) <;> first | rfl | exact ⟨_, rfl⟩ | simp [lst]
  · rw [if_neg e1] at h
    obtain rfl := Option.some.inj h
    simp (maxDischargeDepth := 9) only [↓xpre, xpost, xlst, xcore, yset, rg0, ↓reduceIte, Nat.reduceEqDiff, Nat.reduceLT, Nat.reduceLeDiff, Nat.reduceAdd, Nat.reduceMul, Nat.reduceMod, Nat.reduceSub, Nat.reduceBEq, Int.reduceLE, Int.reduceLT, Int.reduceEq, Int.reduceSub, Int.reduceAdd, Int.reduceToNat, Int.reduceNeg, m0, m1, m2, m3, e1, g_slices_Index_Sint_int_l0_M, g_slices_Index_Sint_int_l0_X, sxN, sxE, sxR] <;> (repeat' apply And.intro) <;> first | rfl | exact ⟨_, rfl⟩ | simp [lst]
theorem g_slices_Index_Sint_int_call (s_ : List Int) (v_ : Int) {r : Int} (h : g_slices_Index_Sint_int s_ v_ = some r) : Y.call 108 [D.sl 3 (lst (D.int .i64) s_), D.int .i64 v_] [] = some (D.int .i64 r, []) := by
  refine c108 ?_ rfl
  unfold k108
  unfold g_slices_Index_Sint_int at h
  obtain ⟨r2_, hl2, h⟩ := bindS h
  try dsimp only at h
  simp (maxDischargeDepth := 9) only [↓xpre, xpost, xlst, xcore, yset, rg0, ↓reduceIte, Nat.reduceEqDiff, Nat.reduceLT, Nat.reduceLeDiff, Nat.reduceAdd, Nat.reduceMul, Nat.reduceMod, Nat.reduceSub, Nat.reduceBEq, Int.reduceLE, Int.reduceLT, Int.reduceEq, Int.reduceSub, Int.reduceAdd, Int.reduceToNat, Int.reduceNeg]
  refine wd_mono (g_slices_Index_Sint_int_l0_wp s_ v_ hl2 ?_) ?_
  · simp (maxDischargeDepth := 9) only [↓xpre, xpost, xlst, xcore, yset, rg0, ↓reduceIte, Nat.reduceEqDiff, Nat.reduceLT, Nat.reduceLeDiff, Nat.reduceAdd, Nat.reduceMul, Nat.reduceMod, Nat.reduceSub, Nat.reduceBEq, Int.reduceLE, Int.reduceLT, Int.reduceEq, Int.reduceSub, Int.reduceAdd, Int.reduceToNat, Int.reduceNeg, g_slices_Index_Sint_int_l0_M] <;> (repeat' apply And.intro) <;> first | rfl | exact ⟨_, rfl⟩ | simp [lst]
  · intro ex2 s2 hX2
    rcases r2_ with q2_ | q2_
    · unfold g_slices_Index_Sint_int_l0_X at hX2
      dsimp only at hX2 h
      obtain ⟨rfl, n2_0⟩ := hX2
      obtain rfl := Option.some.inj h
      simp (maxDischargeDepth := 9) only [↓xpre, xpost, xlst, xcore, yset, rg0, ↓reduceIte, Nat.reduceEqDiff, Nat.reduceLT, Nat.reduceLeDiff, Nat.reduceAdd, Nat.reduceMul, Nat.reduceMod, Nat.reduceSub, Nat.reduceBEq, Int.reduceLE, Int.reduceLT, Int.reduceEq, Int.reduceSub, Int.reduceAdd, Int.reduceToNat, Int.reduceNeg, n2_0] <;> (repeat' apply And.intro) <;> first | rfl | exact ⟨_, rfl⟩ | simp [lst]
    · unfold g_slices_Index_Sint_int_l0_X at hX2
      dsimp only at hX2 h
      obtain rfl := hX2
      obtain rfl := Option.some.inj h
      simp (maxDischargeDepth := 9) only [↓xpre, xpost, xlst, xcore, yset, rg0, ↓reduceIte, Nat.reduceEqDiff, Nat.reduceLT, Nat.reduceLeDiff, Nat.reduceAdd, Nat.reduceMul, Nat.reduceMod, Nat.reduceSub, Nat.reduceBEq, Int.reduceLE, Int.reduceLT, Int.reduceEq, Int.reduceSub, Int.reduceAdd, Int.reduceToNat, Int.reduceNeg] <;> (repeat' apply And.intro) <;> first | rfl | exact ⟨_, rfl⟩ | simp [lst]

end Go.Proofs.Ytjlphfbpaejicaa
