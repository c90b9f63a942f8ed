/- Diagrams, lifted. Conditions: none. -/
import Derived.Test.YtjlphfbpaejicaaL6
import Derived.Test.YtjlphfbpaejicaaZep
import Derived.Test.YtjlphfbpaejicaaCon
namespace Go.Proofs.Ytjlphfbpaejicaa
open Go Dv
set_option linter.unusedSimpArgs false
set_option linter.unusedVariables false
set_option maxRecDepth 100000
set_option maxHeartbeats 4000000

noncomputable def i_replaces_l0_S (list : List (List Int)) (a : Int) (b : Int) (t13_ : Int) : Option ((Int) ⊕ (Unit ⊕ Unit)) :=
  if t13_ < (list.length : Int) then
    ck (0 ≤ t13_ ∧ t13_.toNat < list.length) <|
    (g_slices_Index_Sint_int (list.getD t13_.toNat default) a).bind fun r3_ =>
    if 0 ≤ r3_ then
      ck ((list.getD t13_.toNat default).length < 1099511627776) <|
      ck (0 ≤ r3_ ∧ r3_.toNat < (list.getD t13_.toNat default).length) <|
      ck (Short list) <|
      ck (((list.getD t13_.toNat default).set r3_.toNat b).length < 1099511627776) <|
      ck (incL list = true) <|
      if (list.contains (sortI ((list.getD t13_.toNat default).set r3_.toNat b))) = true then
        some (Sum.inl (IntKind.i64.wrap (t13_ + 1)))
      else
        some (Sum.inr (Sum.inl ()))
    else
      some (Sum.inl (IntKind.i64.wrap (t13_ + 1)))
  else
    some (Sum.inr (Sum.inr ()))
noncomputable def i_replaces_l0 (list : List (List Int)) (a : Int) (b : Int) (v : Int) : Option (Unit ⊕ Unit) := itO (fun v => i_replaces_l0_S list a b v) v
noncomputable def i_replaces (list : List (List Int)) (a : Int) (b : Int) : Option (Bool) :=
  (i_replaces_l0 list a b 0).bind fun r2_ =>
  match r2_ with
  | .inl q2_ =>
    some false
  | .inr q2_ =>
    some true
/-- impl.replaces -/
def k92_l0b : SC :=
  .seq
    (.ops [
      ⟨(some 14), (Op.binOp BinOp.lss 3 (Operand.tmp 13) (Operand.tmp 12) 3), 0, none⟩])
    (.seq
      (.cond (Operand.tmp 14)
        .skip
        (.exit 0))
      (.seq
        (.block 1
          (.seq
            (.ops [
              ⟨(some 15), (Op.indexAddr 22 (Operand.tmp 11) (Operand.tmp 13)), 0, none⟩,
              ⟨(some 16), (Op.load 32 (Operand.tmp 15)), 32, none⟩,
              ⟨(some 8), (Op.assign (Operand.tmp 16)), 32, none⟩])
            (.seq
              (.ops [
                ⟨(some 17), (Op.move (Operand.tmp 8)), 32, none⟩,
                ⟨(some 18), (Op.move (Operand.tmp 1)), 3, none⟩,
                ⟨(some 19), (Op.call { callee := (Callee.value (Operand.func 108)), args := #[(Operand.tmp 17), (Operand.tmp 18)], argTypes := #[32, 3] }), 3, none⟩,
                ⟨(some 9), (Op.assign (Operand.tmp 19)), 3, none⟩])
              (.seq
                (.ops [
                  ⟨(some 20), (Op.move (Operand.tmp 9)), 3, none⟩,
                  ⟨(some 21), (Op.binOp BinOp.geq 3 (Operand.tmp 20) (Operand.const (Value.int IntKind.i64 0)) 3), 4, none⟩])
                (.cond (Operand.tmp 21)
                  (.seq
                    (.ops [
                      ⟨(some 22), (Op.move (Operand.tmp 8)), 32, none⟩,
                      ⟨(some 23), (Op.call { callee := (Callee.value (Operand.func 67)), args := #[(Operand.tmp 22)], argTypes := #[32] }), 32, none⟩,
                      ⟨(some 10), (Op.assign (Operand.tmp 23)), 32, none⟩])
                    (.seq
                      (.ops [
                        ⟨(some 24), (Op.move (Operand.tmp 10)), 32, none⟩,
                        ⟨(some 25), (Op.move (Operand.tmp 9)), 3, none⟩,
                        ⟨(some 26), (Op.move (Operand.tmp 2)), 3, none⟩,
                        ⟨(some 27), (Op.indexAddr 32 (Operand.tmp 24) (Operand.tmp 25)), 0, none⟩,
                        ⟨none, (Op.store 3 (Operand.tmp 27) (Operand.tmp 26)), 0, none⟩])
                      (.seq
                        (.ops [
                          ⟨(some 28), (Op.move (Operand.tmp 0)), 22, none⟩,
                          ⟨(some 29), (Op.move (Operand.tmp 10)), 32, none⟩,
                          ⟨(some 30), (Op.call { callee := (Callee.value (Operand.func 81)), args := #[(Operand.tmp 28), (Operand.tmp 29)], argTypes := #[22, 32] }), 4, none⟩,
                          ⟨(some 31), (Op.unOp UnOp.not 4 (Operand.tmp 30)), 4, none⟩])
                        (.cond (Operand.tmp 31)
                          (.seq
                            (.ops [
                              ⟨(some 6), (Op.assign (Operand.const (Value.bool false))), 4, none⟩])
                            .ret)
                          .skip))))
                  .skip)))))
        (.ops [
          ⟨(some 32), (Op.binOp BinOp.add 3 (Operand.tmp 13) (Operand.const (Value.int IntKind.i64 1)) 3), 3, none⟩,
          ⟨(some 13), (Op.move (Operand.tmp 32)), 3, none⟩])))
def k92_l0 : SC := .loop k92_l0b
def k92 : SC :=
  .seq
    (.ops [
      ⟨(some 6), (Op.assign (Operand.const (Value.bool false))), 4, none⟩])
    (.seq
      (.seq
        (.ops [
          ⟨(some 11), (Op.move (Operand.tmp 0)), 22, none⟩,
          ⟨(some 12), (Op.call { callee := (Callee.builtin Builtin.len), args := #[(Operand.tmp 11)], argTypes := #[22] }), 3, none⟩,
          ⟨(some 13), (Op.move (Operand.const (Value.int IntKind.i64 0))), 3, none⟩])
        (.block 0
          k92_l0))
      (.seq
        (.ops [
          ⟨(some 6), (Op.assign (Operand.const (Value.bool true))), 4, none⟩])
        .ret))
theorem slim92 : Try.f92.body.map (slim lends) = some k92 := by kernel_rfl
theorem ok92 : fnOk Try.f92 3 = true := by kernel_rfl
theorem c92 {a l : List D} {r : D × List D} (h : wpD Y.env k92 (fin tys l.length [ResultVar.tmp 6] r) (entry a l)) (ha : a.length = 3) : Y.call 92 a l = some r :=
  call_slim (Y := Y) rfl Try.func92 (ha ▸ ok92) slim92 h
def i_replaces_l0_M (list : List (List Int)) (a : Int) (b : Int) (t13_ : Int) (s : St) : Prop := s.v 0 = D.sl 32 (lst (fun x => D.sl 3 (lst (D.int .i64) x)) list) ∧ s.v 1 = D.int .i64 a ∧ s.v 2 = D.int .i64 b ∧ s.v 11 = D.sl 32 (lst (fun x => D.sl 3 (lst (D.int .i64) x)) list) ∧ s.v 12 = D.int .i64 (list.length : Int) ∧ s.v 13 = D.int .i64 t13_
def i_replaces_l0_X (list : List (List Int)) (a : Int) (b : Int) (r : Unit ⊕ Unit) (ex : Ex) (s : St) : Prop := match r with
  | .inl q => ex = .ret ∧ s.v 6 = D.bool false
  | .inr q => ex = .exit 0
theorem i_replaces_l0_wp (list : List (List Int)) (a : Int) (b : Int) {v : Int} {s : St} {r : Unit ⊕ Unit} (h : i_replaces_l0 list a b v = some r) (hM : i_replaces_l0_M list a b v s) : wpD Y.env k92_l0 (i_replaces_l0_X list a b r) s := by
  unfold i_replaces_l0 at h
  refine wd_itO (c := k92_l0b) (fun v => i_replaces_l0_S list a b v) (fun v s => i_replaces_l0_M list a b v s) (i_replaces_l0_X list a b) ?_ h hM
  clear h hM s v r
  intro t13_ s o hM h
  unfold i_replaces_l0_S at h
  unfold i_replaces_l0_M at hM
  obtain ⟨m0, m1, m2, m3, m4, m5⟩ := hM
  unfold k92_l0b
  by_cases e1 : t13_ < (list.length : Int)
  · rw [if_pos e1] at h
    obtain ⟨e2, h⟩ := ckS h
    obtain ⟨r3_, hl3, h⟩ := bindS h
    try dsimp only at h
    have c3 := g_slices_Index_Sint_int_call (list.getD t13_.toNat default) a hl3
    by_cases e4 : 0 ≤ r3_
    · rw [if_pos e4] at h
      obtain ⟨e5, h⟩ := ckS h
      have c6 := g_slices_Clone_Sint_int_cl (list.getD t13_.toNat default) e5
      obtain ⟨e7, h⟩ := ckS h
      obtain ⟨e8, h⟩ := ckS h
      obtain ⟨e9, h⟩ := ckS h
      obtain ⟨e10, h⟩ := ckS h
      have c11 := i_hasConfiguration_cl list ((list.getD t13_.toNat default).set r3_.toNat b) e8 e9 e10
      by_cases e12 : (list.contains (sortI ((list.getD t13_.toNat default).set r3_.toNat b))) = true
      · rw [if_pos e12] at h
        obtain rfl := Option.some.inj h
        simp (maxDischargeDepth := 9) only [↓xpre, xpost, xlst, xcore, yset, rg0, ↓reduceIte, Nat.reduceEqDiff, Nat.reduceLT, Nat.reduceLeDiff, Nat.reduceAdd, Nat.reduceMul, Nat.reduceMod, Nat.reduceSub, Nat.reduceBEq, Int.reduceLE, Int.reduceLT, Int.reduceEq, Int.reduceSub, Int.reduceAdd, Int.reduceToNat, Int.reduceNeg, m0, m1, m2, m3, m4, m5, e1, e2.1, e2.2, c3, e4, e5, c6, e7.1, e7.2, e8, e9, e10, c11, e12, i_replaces_l0_M, i_replaces_l0_X, sxN, sxE, sxR] <;> (repeat' apply And.intro) <;> first | rfl | exact ⟨_, rfl⟩ | simp [lst]
      · rw [if_neg e12] at h
        have e12f : (list.contains (sortI ((list.getD t13_.toNat default).set r3_.toNat b))) = false := Bool.eq_false_iff.mpr e12
        obtain rfl := Option.some.inj h
        simp (maxDischargeDepth := 9) only [↓xpre, xpost, xlst, xcore, yset, rg0, ↓reduceIte, Nat.reduceEqDiff, Nat.reduceLT, Nat.reduceLeDiff, Nat.reduceAdd, Nat.reduceMul, Nat.reduceMod, Nat.reduceSub, Nat.reduceBEq, Int.reduceLE, Int.reduceLT, Int.reduceEq, Int.reduceSub, Int.reduceAdd, Int.reduceToNat, Int.reduceNeg, m0, m1, m2, m3, m4, m5, e1, e2.1, e2.2, c3, e4, e5, c6, e7.1, e7.2, e8, e9, e10, c11, e12f, i_replaces_l0_M, i_replaces_l0_X, sxN, sxE, sxR] <;> (repeat' apply And.intro) <;> first | rfl | exact ⟨_, rfl⟩ | simp [lst]
    · rw [if_neg e4] at h
      obtain rfl := Option.some.inj h
      simp (maxDischargeDepth := 9) only [↓xpre, xpost, xlst, xcore, yset, rg0, ↓reduceIte, Nat.reduceEqDiff, Nat.reduceLT, Nat.reduceLeDiff, Nat.reduceAdd, Nat.reduceMul, Nat.reduceMod, Nat.reduceSub, Nat.reduceBEq, Int.reduceLE, Int.reduceLT, Int.reduceEq, Int.reduceSub, Int.reduceAdd, Int.reduceToNat, Int.reduceNeg, m0, m1, m2, m3, m4, m5, e1, e2.1, e2.2, c3, e4, i_replaces_l0_M, i_replaces_l0_X, sxN, sxE, sxR] <;> (repeat' apply And.intro) <;> first | rfl | exact ⟨_, rfl⟩ | simp [lst]
  · rw [if_neg e1] at h
    obtain rfl := Option.some.inj h
    simp (maxDischargeDepth := 9) only [↓xpre, xpost, xlst, xcore, yset, rg0, ↓reduceIte, Nat.reduceEqDiff, Nat.reduceLT, Nat.reduceLeDiff, Nat.reduceAdd, Nat.reduceMul, Nat.reduceMod, Nat.reduceSub, Nat.reduceBEq, Int.reduceLE, Int.reduceLT, Int.reduceEq, Int.reduceSub, Int.reduceAdd, Int.reduceToNat, Int.reduceNeg, m0, m1, m2, m3, m4, m5, e1, i_replaces_l0_M, i_replaces_l0_X, sxN, sxE, sxR] <;> (repeat' apply And.intro) <;> first | rfl | exact ⟨_, rfl⟩ | simp [lst]
theorem i_replaces_call (list : List (List Int)) (a : Int) (b : Int) {r : Bool} (h : i_replaces list a b = some r) : Y.call 92 [D.sl 32 (lst (fun x => D.sl 3 (lst (D.int .i64) x)) list), D.int .i64 a, D.int .i64 b] [] = some (D.bool r, []) := by
  refine c92 ?_ rfl
  unfold k92
  unfold i_replaces at h
  obtain ⟨r2_, hl2, h⟩ := bindS h
  try dsimp only at h
  simp (maxDischargeDepth := 9) only [↓xpre, xpost, xlst, xcore, yset, rg0, ↓reduceIte, Nat.reduceEqDiff, Nat.reduceLT, Nat.reduceLeDiff, Nat.reduceAdd, Nat.reduceMul, Nat.reduceMod, Nat.reduceSub, Nat.reduceBEq, Int.reduceLE, Int.reduceLT, Int.reduceEq, Int.reduceSub, Int.reduceAdd, Int.reduceToNat, Int.reduceNeg]
  refine wd_mono (i_replaces_l0_wp list a b hl2 ?_) ?_
  · simp (maxDischargeDepth := 9) only [↓xpre, xpost, xlst, xcore, yset, rg0, ↓reduceIte, Nat.reduceEqDiff, Nat.reduceLT, Nat.reduceLeDiff, Nat.reduceAdd, Nat.reduceMul, Nat.reduceMod, Nat.reduceSub, Nat.reduceBEq, Int.reduceLE, Int.reduceLT, Int.reduceEq, Int.reduceSub, Int.reduceAdd, Int.reduceToNat, Int.reduceNeg, i_replaces_l0_M] <;> (repeat' apply And.intro) <;> first | rfl | exact ⟨_, rfl⟩ | simp [lst]
  · intro ex2 s2 hX2
    rcases r2_ with q2_ | q2_
    · unfold i_replaces_l0_X at hX2
      dsimp only at hX2 h
      obtain ⟨rfl, n2_0⟩ := hX2
      obtain rfl := Option.some.inj h
      simp (maxDischargeDepth := 9) only [↓xpre, xpost, xlst, xcore, yset, rg0, ↓reduceIte, Nat.reduceEqDiff, Nat.reduceLT, Nat.reduceLeDiff, Nat.reduceAdd, Nat.reduceMul, Nat.reduceMod, Nat.reduceSub, Nat.reduceBEq, Int.reduceLE, Int.reduceLT, Int.reduceEq, Int.reduceSub, Int.reduceAdd, Int.reduceToNat, Int.reduceNeg, n2_0] <;> (repeat' apply And.intro) <;> first | rfl | exact ⟨_, rfl⟩ | simp [lst]
    · unfold i_replaces_l0_X at hX2
      dsimp only at hX2 h
      obtain rfl := hX2
      obtain rfl := Option.some.inj h
      simp (maxDischargeDepth := 9) only [↓xpre, xpost, xlst, xcore, yset, rg0, ↓reduceIte, Nat.reduceEqDiff, Nat.reduceLT, Nat.reduceLeDiff, Nat.reduceAdd, Nat.reduceMul, Nat.reduceMod, Nat.reduceSub, Nat.reduceBEq, Int.reduceLE, Int.reduceLT, Int.reduceEq, Int.reduceSub, Int.reduceAdd, Int.reduceToNat, Int.reduceNeg] <;> (repeat' apply And.intro) <;> first | rfl | exact ⟨_, rfl⟩ | simp [lst]

noncomputable def i_diagram_l0_S (labels : Int) (list : List (List Int)) (t9_ : Int) (out1 : List (List Int)) (t13_ : Int) : Option (((List (List Int)) × Int) ⊕ ((List (List Int)))) :=
  if t13_ < labels then
    if t9_ = t13_ then
      some (Sum.inl (out1, IntKind.i64.wrap (t13_ + 1)))
    else
      (i_replaces list t9_ t13_).bind fun r4_ =>
      if r4_ = true then
        ck (out1.length + 1 < 1099511627776) <|
        some (Sum.inl ((out1 ++ [[t9_, t13_]]), IntKind.i64.wrap (t13_ + 1)))
      else
        some (Sum.inl (out1, IntKind.i64.wrap (t13_ + 1)))
  else
    some (Sum.inr out1)
noncomputable def i_diagram_l0 (labels : Int) (list : List (List Int)) (t9_ : Int) (v : (List (List Int)) × Int) : Option ((List (List Int))) := itO (fun v => i_diagram_l0_S labels list t9_ v.1 v.2) v
noncomputable def i_diagram_l1_S (labels : Int) (list : List (List Int)) (out : List (List Int)) (t9_ : Int) : Option (((List (List Int)) × Int) ⊕ ((List (List Int)))) :=
  if t9_ < labels then
    (i_diagram_l0 labels list t9_ (out, 0)).bind fun r3_ =>
    some (Sum.inl (r3_, IntKind.i64.wrap (t9_ + 1)))
  else
    some (Sum.inr out)
noncomputable def i_diagram_l1 (labels : Int) (list : List (List Int)) (v : (List (List Int)) × Int) : Option ((List (List Int))) := itO (fun v => i_diagram_l1_S labels list v.1 v.2) v
noncomputable def i_diagram (labels : Int) (list : List (List Int)) : Option ((List (List Int))) :=
  (i_diagram_l1 labels list ([], 0)).bind fun r2_ =>
  some r2_
/-- impl.diagram -/
def k71_l0b : SC :=
  .seq
    (.ops [
      ⟨(some 14), (Op.binOp BinOp.lss 3 (Operand.tmp 13) (Operand.tmp 12) 3), 4, none⟩])
    (.seq
      (.cond (Operand.tmp 14)
        .skip
        (.exit 2))
      (.seq
        (.block 3
          (.seq
            (.ops [
              ⟨(some 15), (Op.move (Operand.tmp 13)), 3, none⟩,
              ⟨(some 7), (Op.assign (Operand.tmp 15)), 3, none⟩])
            (.seq
              (.ops [
                ⟨(some 16), (Op.move (Operand.tmp 6)), 3, none⟩,
                ⟨(some 17), (Op.move (Operand.tmp 7)), 3, none⟩,
                ⟨(some 18), (Op.binOp BinOp.neq 3 (Operand.tmp 16) (Operand.tmp 17) 3), 4, none⟩,
                ⟨(some 19), (Op.move (Operand.tmp 18)), 4, none⟩,
                ⟨(some 20), (Op.move (Operand.tmp 1)), 22, (some (some 19, true))⟩,
                ⟨(some 21), (Op.move (Operand.tmp 6)), 3, (some (some 19, true))⟩,
                ⟨(some 22), (Op.move (Operand.tmp 7)), 3, (some (some 19, true))⟩,
                ⟨(some 23), (Op.call { callee := (Callee.value (Operand.func 92)), args := #[(Operand.tmp 20), (Operand.tmp 21), (Operand.tmp 22)], argTypes := #[22, 3, 3] }), 4, (some (some 19, true))⟩,
                ⟨(some 24), (Op.pick (Operand.tmp 19) (Operand.tmp 23) (Operand.const (Value.bool false))), 4, none⟩])
              (.cond (Operand.tmp 24)
                (.ops [
                  ⟨(some 25), (Op.move (Operand.tmp 5)), 22, none⟩,
                  ⟨(some 26), (Op.move (Operand.tmp 6)), 3, none⟩,
                  ⟨(some 27), (Op.move (Operand.tmp 7)), 3, none⟩,
                  ⟨(some 28), (Op.buildSlice 32 2 #[(0, (Operand.tmp 26)), (1, (Operand.tmp 27))]), 32, none⟩,
                  ⟨(some 29), (Op.buildSlice 22 1 #[(0, (Operand.tmp 28))]), 22, none⟩,
                  ⟨(some 30), (Op.call { callee := (Callee.builtin Builtin.append), args := #[(Operand.tmp 25), (Operand.tmp 29)], argTypes := #[22, 22] }), 22, none⟩,
                  ⟨(some 5), (Op.assign (Operand.tmp 30)), 22, none⟩])
                .skip))))
        (.ops [
          ⟨(some 31), (Op.binOp BinOp.add 3 (Operand.tmp 13) (Operand.const (Value.int IntKind.i64 1)) 3), 3, none⟩,
          ⟨(some 13), (Op.move (Operand.tmp 31)), 3, none⟩])))
def k71_l0 : SC := .loop k71_l0b
def k71_l1b : SC :=
  .seq
    (.ops [
      ⟨(some 10), (Op.binOp BinOp.lss 3 (Operand.tmp 9) (Operand.tmp 8) 3), 4, none⟩])
    (.seq
      (.cond (Operand.tmp 10)
        .skip
        (.exit 0))
      (.seq
        (.block 1
          (.seq
            (.ops [
              ⟨(some 11), (Op.move (Operand.tmp 9)), 3, none⟩,
              ⟨(some 6), (Op.assign (Operand.tmp 11)), 3, none⟩])
            (.seq
              (.ops [
                ⟨(some 12), (Op.move (Operand.tmp 0)), 3, none⟩,
                ⟨(some 13), (Op.move (Operand.const (Value.int IntKind.i64 0))), 3, none⟩])
              (.block 2
                k71_l0))))
        (.ops [
          ⟨(some 32), (Op.binOp BinOp.add 3 (Operand.tmp 9) (Operand.const (Value.int IntKind.i64 1)) 3), 3, none⟩,
          ⟨(some 9), (Op.move (Operand.tmp 32)), 3, none⟩])))
def k71_l1 : SC := .loop k71_l1b
def k71 : SC :=
  .seq
    (.ops [
      ⟨(some 4), (Op.assign (Operand.const (Value.slice none 0 0))), 22, none⟩])
    (.seq
      (.ops [
        ⟨(some 5), (Op.assign (Operand.const (Value.slice none 0 0))), 22, none⟩])
      (.seq
        (.seq
          (.ops [
            ⟨(some 8), (Op.move (Operand.tmp 0)), 3, none⟩,
            ⟨(some 9), (Op.move (Operand.const (Value.int IntKind.i64 0))), 3, none⟩])
          (.block 0
            k71_l1))
        (.seq
          (.ops [
            ⟨(some 33), (Op.move (Operand.tmp 5)), 22, none⟩,
            ⟨(some 4), (Op.assign (Operand.tmp 33)), 22, none⟩])
          .ret)))
theorem slim71 : Try.f71.body.map (slim lends) = some k71 := by kernel_rfl
theorem ok71 : fnOk Try.f71 2 = true := by kernel_rfl
theorem c71 {a l : List D} {r : D × List D} (h : wpD Y.env k71 (fin tys l.length [ResultVar.tmp 4] r) (entry a l)) (ha : a.length = 2) : Y.call 71 a l = some r :=
  call_slim (Y := Y) rfl Try.func71 (ha ▸ ok71) slim71 h
def i_diagram_l0_M (labels : Int) (list : List (List Int)) (t9_ : Int) (out1 : List (List Int)) (t13_ : Int) (s : St) : Prop := s.v 0 = D.int .i64 labels ∧ s.v 1 = D.sl 32 (lst (fun x => D.sl 3 (lst (D.int .i64) x)) list) ∧ s.v 5 = D.own 32 (lst (fun x => D.own 3 (lst (D.int .i64) x)) out1) ∧ s.v 6 = D.int .i64 t9_ ∧ s.v 8 = D.int .i64 labels ∧ s.v 9 = D.int .i64 t9_ ∧ s.v 12 = D.int .i64 labels ∧ s.v 13 = D.int .i64 t13_
def i_diagram_l0_X (labels : Int) (list : List (List Int)) (t9_ : Int) (r : (List (List Int))) (ex : Ex) (s : St) : Prop := ex = .exit 2 ∧ s.v 0 = D.int .i64 labels ∧ s.v 1 = D.sl 32 (lst (fun x => D.sl 3 (lst (D.int .i64) x)) list) ∧ s.v 5 = D.own 32 (lst (fun x => D.own 3 (lst (D.int .i64) x)) r) ∧ s.v 8 = D.int .i64 labels ∧ s.v 9 = D.int .i64 t9_
theorem i_diagram_l0_wp (labels : Int) (list : List (List Int)) (t9_ : Int) {v : (List (List Int)) × Int} {s : St} {r : (List (List Int))} (h : i_diagram_l0 labels list t9_ v = some r) (hM : i_diagram_l0_M labels list t9_ v.1 v.2 s) : wpD Y.env k71_l0 (i_diagram_l0_X labels list t9_ r) s := by
  unfold i_diagram_l0 at h
  refine wd_itO (c := k71_l0b) (fun v => i_diagram_l0_S labels list t9_ v.1 v.2) (fun v s => i_diagram_l0_M labels list t9_ v.1 v.2 s) (i_diagram_l0_X labels list t9_) ?_ h hM
  clear h hM s v r
  intro v s o hM h
  obtain ⟨out1, t13_⟩ := v
  dsimp only at h hM
  unfold i_diagram_l0_S at h
  unfold i_diagram_l0_M at hM
  obtain ⟨m0, m1, m2, m3, m4, m5, m6, m7⟩ := hM
  unfold k71_l0b
  by_cases e2 : t13_ < labels
  · rw [if_pos e2] at h
    by_cases e3 : t9_ = t13_
    · rw [if_pos e3] at h
      obtain rfl := Option.some.inj h
      simp (maxDischargeDepth := 9) only [↓xpre, xpost, xlst, xcore, yset, rg0, ↓reduceIte, Nat.reduceEqDiff, Nat.reduceLT, Nat.reduceLeDiff, Nat.reduceAdd, Nat.reduceMul, Nat.reduceMod, Nat.reduceSub, Nat.reduceBEq, Int.reduceLE, Int.reduceLT, Int.reduceEq, Int.reduceSub, Int.reduceAdd, Int.reduceToNat, Int.reduceNeg, m0, m1, m2, m3, m4, m5, m6, m7, e2, decide_eq_true e3, i_diagram_l0_M, i_diagram_l0_X, sxN, sxE, sxR] <;> (repeat' apply And.intro) <;> first | rfl | exact ⟨_, rfl⟩ | simp [lst]
    · rw [if_neg e3] at h
      obtain ⟨r4_, hl4, h⟩ := bindS h
      try dsimp only at h
      have c4 := i_replaces_call list t9_ t13_ hl4
      by_cases e5 : r4_ = true
      · rw [if_pos e5] at h
        obtain ⟨e6, h⟩ := ckS h
        obtain rfl := Option.some.inj h
        simp (maxDischargeDepth := 9) only [↓xpre, xpost, xlst, xcore, yset, rg0, ↓reduceIte, Nat.reduceEqDiff, Nat.reduceLT, Nat.reduceLeDiff, Nat.reduceAdd, Nat.reduceMul, Nat.reduceMod, Nat.reduceSub, Nat.reduceBEq, Int.reduceLE, Int.reduceLT, Int.reduceEq, Int.reduceSub, Int.reduceAdd, Int.reduceToNat, Int.reduceNeg, m0, m1, m2, m3, m4, m5, m6, m7, e2, e3, c4, e5, e6, i_diagram_l0_M, i_diagram_l0_X, sxN, sxE, sxR] <;> (repeat' apply And.intro) <;> first | rfl | exact ⟨_, rfl⟩ | simp [lst]
      · rw [if_neg e5] at h
        have e5f : r4_ = false := Bool.eq_false_iff.mpr e5
        obtain rfl := Option.some.inj h
        simp (maxDischargeDepth := 9) only [↓xpre, xpost, xlst, xcore, yset, rg0, ↓reduceIte, Nat.reduceEqDiff, Nat.reduceLT, Nat.reduceLeDiff, Nat.reduceAdd, Nat.reduceMul, Nat.reduceMod, Nat.reduceSub, Nat.reduceBEq, Int.reduceLE, Int.reduceLT, Int.reduceEq, Int.reduceSub, Int.reduceAdd, Int.reduceToNat, Int.reduceNeg, m0, m1, m2, m3, m4, m5, m6, m7, e2, e3, c4, e5f, i_diagram_l0_M, i_diagram_l0_X, sxN, sxE, sxR] <;> (repeat' apply And.intro) <;> first | rfl | exact ⟨_, rfl⟩ | simp [lst]
  · rw [if_neg e2] at h
    obtain rfl := Option.some.inj h
    simp (maxDischargeDepth := 9) only [↓xpre, xpost, xlst, xcore, yset, rg0, ↓reduceIte, Nat.reduceEqDiff, Nat.reduceLT, Nat.reduceLeDiff, Nat.reduceAdd, Nat.reduceMul, Nat.reduceMod, Nat.reduceSub, Nat.reduceBEq, Int.reduceLE, Int.reduceLT, Int.reduceEq, Int.reduceSub, Int.reduceAdd, Int.reduceToNat, Int.reduceNeg, m0, m1, m2, m3, m4, m5, m6, m7, e2, i_diagram_l0_M, i_diagram_l0_X, sxN, sxE, sxR] <;> (repeat' apply And.intro) <;> first | rfl | exact ⟨_, rfl⟩ | simp [lst]
def i_diagram_l1_M (labels : Int) (list : List (List Int)) (out : List (List Int)) (t9_ : Int) (s : St) : Prop := s.v 0 = D.int .i64 labels ∧ s.v 1 = D.sl 32 (lst (fun x => D.sl 3 (lst (D.int .i64) x)) list) ∧ s.v 5 = D.own 32 (lst (fun x => D.own 3 (lst (D.int .i64) x)) out) ∧ s.v 8 = D.int .i64 labels ∧ s.v 9 = D.int .i64 t9_
def i_diagram_l1_X (labels : Int) (list : List (List Int)) (r : (List (List Int))) (ex : Ex) (s : St) : Prop := ex = .exit 0 ∧ s.v 5 = D.own 32 (lst (fun x => D.own 3 (lst (D.int .i64) x)) r)
theorem i_diagram_l1_wp (labels : Int) (list : List (List Int)) {v : (List (List Int)) × Int} {s : St} {r : (List (List Int))} (h : i_diagram_l1 labels list v = some r) (hM : i_diagram_l1_M labels list v.1 v.2 s) : wpD Y.env k71_l1 (i_diagram_l1_X labels list r) s := by
  unfold i_diagram_l1 at h
  refine wd_itO (c := k71_l1b) (fun v => i_diagram_l1_S labels list v.1 v.2) (fun v s => i_diagram_l1_M labels list v.1 v.2 s) (i_diagram_l1_X labels list) ?_ h hM
  clear h hM s v r
  intro v s o hM h
  obtain ⟨out, t9_⟩ := v
  dsimp only at h hM
  unfold i_diagram_l1_S at h
  unfold i_diagram_l1_M at hM
  obtain ⟨m0, m1, m2, m3, m4⟩ := hM
  unfold k71_l1b
  by_cases e1 : t9_ < labels
  · rw [if_pos e1] at h
    obtain ⟨r3_, hl3, h⟩ := bindS h
    try dsimp only at h
    simp (maxDischargeDepth := 9) only [↓xpre, xpost, xlst, xcore, yset, rg0, ↓reduceIte, Nat.reduceEqDiff, Nat.reduceLT, Nat.reduceLeDiff, Nat.reduceAdd, Nat.reduceMul, Nat.reduceMod, Nat.reduceSub, Nat.reduceBEq, Int.reduceLE, Int.reduceLT, Int.reduceEq, Int.reduceSub, Int.reduceAdd, Int.reduceToNat, Int.reduceNeg, m0, m1, m2, m3, m4, e1]
    refine wd_mono (i_diagram_l0_wp labels list t9_ hl3 ?_) ?_
    · simp (maxDischargeDepth := 9) only [↓xpre, xpost, xlst, xcore, yset, rg0, ↓reduceIte, Nat.reduceEqDiff, Nat.reduceLT, Nat.reduceLeDiff, Nat.reduceAdd, Nat.reduceMul, Nat.reduceMod, Nat.reduceSub, Nat.reduceBEq, Int.reduceLE, Int.reduceLT, Int.reduceEq, Int.reduceSub, Int.reduceAdd, Int.reduceToNat, Int.reduceNeg, m0, m1, m2, m3, m4, e1, i_diagram_l0_M] <;> (repeat' apply And.intro) <;> first | rfl | exact ⟨_, rfl⟩ | simp [lst]
    · intro ex3 s3 hX3
      unfold i_diagram_l0_X at hX3
      obtain ⟨rfl, n3_0, n3_1, n3_2, n3_3, n3_4⟩ := hX3
      obtain rfl := Option.some.inj h
      simp (maxDischargeDepth := 9) only [↓xpre, xpost, xlst, xcore, yset, rg0, ↓reduceIte, Nat.reduceEqDiff, Nat.reduceLT, Nat.reduceLeDiff, Nat.reduceAdd, Nat.reduceMul, Nat.reduceMod, Nat.reduceSub, Nat.reduceBEq, Int.reduceLE, Int.reduceLT, Int.reduceEq, Int.reduceSub, Int.reduceAdd, Int.reduceToNat, Int.reduceNeg, e1, n3_0, n3_1, n3_2, n3_3, n3_4, i_diagram_l1_M, i_diagram_l1_X, sxN, sxE, sxR] <;> (repeat' apply And.intro) <;> first | rfl | exact ⟨_, rfl⟩ | simp [lst]
  · rw [if_neg e1] at h
    obtain rfl := Option.some.inj h
    simp (maxDischargeDepth := 9) only [↓xpre, xpost, xlst, xcore, yset, rg0, ↓reduceIte, Nat.reduceEqDiff, Nat.reduceLT, Nat.reduceLeDiff, Nat.reduceAdd, Nat.reduceMul, Nat.reduceMod, Nat.reduceSub, Nat.reduceBEq, Int.reduceLE, Int.reduceLT, Int.reduceEq, Int.reduceSub, Int.reduceAdd, Int.reduceToNat, Int.reduceNeg, m0, m1, m2, m3, m4, e1, i_diagram_l1_M, i_diagram_l1_X, sxN, sxE, sxR] <;> (repeat' apply And.intro) <;> first | rfl | exact ⟨_, rfl⟩ | simp [lst]
theorem i_diagram_call (labels : Int) (list : List (List Int)) {r : (List (List Int))} (h : i_diagram labels list = some r) : Y.call 71 [D.int .i64 labels, D.sl 32 (lst (fun x => D.sl 3 (lst (D.int .i64) x)) list)] [] = some (D.own 32 (lst (fun x => D.own 3 (lst (D.int .i64) x)) r), []) := by
  refine c71 ?_ rfl
  unfold k71
  unfold i_diagram at h
  obtain ⟨r2_, hl2, h⟩ := bindS h
  try dsimp only at h
  simp (maxDischargeDepth := 9) only [↓xpre, xpost, xlst, xcore, yset, rg0, ↓reduceIte, Nat.reduceEqDiff, Nat.reduceLT, Nat.reduceLeDiff, Nat.reduceAdd, Nat.reduceMul, Nat.reduceMod, Nat.reduceSub, Nat.reduceBEq, Int.reduceLE, Int.reduceLT, Int.reduceEq, Int.reduceSub, Int.reduceAdd, Int.reduceToNat, Int.reduceNeg]
  refine wd_mono (i_diagram_l1_wp labels list hl2 ?_) ?_
  · simp (maxDischargeDepth := 9) only [↓xpre, xpost, xlst, xcore, yset, rg0, ↓reduceIte, Nat.reduceEqDiff, Nat.reduceLT, Nat.reduceLeDiff, Nat.reduceAdd, Nat.reduceMul, Nat.reduceMod, Nat.reduceSub, Nat.reduceBEq, Int.reduceLE, Int.reduceLT, Int.reduceEq, Int.reduceSub, Int.reduceAdd, Int.reduceToNat, Int.reduceNeg, i_diagram_l1_M] <;> (repeat' apply And.intro) <;> first | rfl | exact ⟨_, rfl⟩ | simp [lst]
  · intro ex2 s2 hX2
    unfold i_diagram_l1_X at hX2
    obtain ⟨rfl, n2_0⟩ := hX2
    obtain rfl := Option.some.inj h
    simp (maxDischargeDepth := 9) only [↓xpre, xpost, xlst, xcore, yset, rg0, ↓reduceIte, Nat.reduceEqDiff, Nat.reduceLT, Nat.reduceLeDiff, Nat.reduceAdd, Nat.reduceMul, Nat.reduceMod, Nat.reduceSub, Nat.reduceBEq, Int.reduceLE, Int.reduceLT, Int.reduceEq, Int.reduceSub, Int.reduceAdd, Int.reduceToNat, Int.reduceNeg, n2_0] <;> (repeat' apply And.intro) <;> first | rfl | exact ⟨_, rfl⟩ | simp [lst]

noncomputable def i_EdgeDiagram (p_Labels : Int) (p_Degree : Int) (p_Nodes : List (List Int)) (p_Edges : List (List Int)) : Option ((List (List Int)) × Bool) :=
  ck (Short p_Nodes) <|
  ck (Short p_Edges) <|
  if (isProb p_Labels p_Degree p_Nodes p_Edges) = true then
    (i_diagram p_Labels p_Edges).bind fun r5_ =>
    some (r5_, true)
  else
    some ([], false)
/-- impl.EdgeDiagram -/
def k41 : SC :=
  .seq
    (.ops [
      ⟨(some 1), (Op.box 28 (Operand.tmp 0)), 0, none⟩,
      ⟨(some 2), (Op.assign (Operand.const (Value.slice none 0 0))), 22, none⟩,
      ⟨(some 3), (Op.assign (Operand.const (Value.bool false))), 4, none⟩])
    (.seq
      (.seq
        (.ops [
          ⟨(some 4), (Op.load 28 (Operand.tmp 1)), 28, none⟩,
          ⟨(some 5), (Op.call { callee := (Callee.value (Operand.func 58)), args := #[(Operand.tmp 4)], argTypes := #[28] }), 4, none⟩,
          ⟨(some 6), (Op.unOp UnOp.not 4 (Operand.tmp 5)), 4, none⟩])
        (.cond (Operand.tmp 6)
          (.seq
            (.ops [
              ⟨(some 2), (Op.assign (Operand.const (Value.slice none 0 0))), 22, none⟩,
              ⟨(some 3), (Op.assign (Operand.const (Value.bool false))), 4, none⟩])
            .ret)
          .skip))
      (.seq
        (.ops [
          ⟨(some 7), (Op.fieldAddr 28 (Operand.tmp 1) 0), 0, none⟩,
          ⟨(some 8), (Op.load 3 (Operand.tmp 7)), 3, none⟩,
          ⟨(some 9), (Op.fieldAddr 28 (Operand.tmp 1) 3), 0, none⟩,
          ⟨(some 10), (Op.load 22 (Operand.tmp 9)), 22, none⟩,
          ⟨(some 11), (Op.call { callee := (Callee.value (Operand.func 71)), args := #[(Operand.tmp 8), (Operand.tmp 10)], argTypes := #[3, 22] }), 22, none⟩,
          ⟨(some 2), (Op.assign (Operand.tmp 11)), 22, none⟩,
          ⟨(some 3), (Op.assign (Operand.const (Value.bool true))), 4, none⟩])
        .ret))
theorem slim41 : Try.f41.body.map (slim lends) = some k41 := by kernel_rfl
theorem ok41 : fnOk Try.f41 1 = true := by kernel_rfl
theorem c41 {a l : List D} {r : D × List D} (h : wpD Y.env k41 (fin tys l.length [ResultVar.tmp 2, ResultVar.tmp 3] r) (entry a l)) (ha : a.length = 1) : Y.call 41 a l = some r :=
  call_slim (Y := Y) rfl Try.func41 (ha ▸ ok41) slim41 h
theorem i_EdgeDiagram_call (p_Labels : Int) (p_Degree : Int) (p_Nodes : List (List Int)) (p_Edges : List (List Int)) {r : (List (List Int)) × Bool} (h : i_EdgeDiagram p_Labels p_Degree p_Nodes p_Edges = some r) : Y.call 41 [D.agg [D.int .i64 p_Labels, D.int .i64 p_Degree, D.sl 32 (lst (fun x => D.sl 3 (lst (D.int .i64) x)) p_Nodes), D.sl 32 (lst (fun x => D.sl 3 (lst (D.int .i64) x)) p_Edges)]] [] = some (D.tup [D.own 32 (lst (fun x => D.own 3 (lst (D.int .i64) x)) r.1), D.bool r.2], []) := by
  refine c41 ?_ rfl
  unfold k41
  unfold i_EdgeDiagram at h
  obtain ⟨e1, h⟩ := ckS h
  obtain ⟨e2, h⟩ := ckS h
  have c3 := i_IsProblem_cl p_Labels p_Degree p_Nodes p_Edges e1 e2
  by_cases e4 : (isProb p_Labels p_Degree p_Nodes p_Edges) = true
  · rw [if_pos e4] at h
    obtain ⟨r5_, hl5, h⟩ := bindS h
    try dsimp only at h
    have c5 := i_diagram_call p_Labels p_Edges hl5
    obtain rfl := Option.some.inj h
    simp (maxDischargeDepth := 9) only [↓xpre, xpost, xlst, xcore, yset, rg0, ↓reduceIte, Nat.reduceEqDiff, Nat.reduceLT, Nat.reduceLeDiff, Nat.reduceAdd, Nat.reduceMul, Nat.reduceMod, Nat.reduceSub, Nat.reduceBEq, Int.reduceLE, Int.reduceLT, Int.reduceEq, Int.reduceSub, Int.reduceAdd, Int.reduceToNat, Int.reduceNeg, e1, e2, c3, e4, c5] <;> (repeat' apply And.intro) <;> first | rfl | exact ⟨_, rfl⟩ | simp [lst]
  · rw [if_neg e4] at h
    have e4f : (isProb p_Labels p_Degree p_Nodes p_Edges) = false := Bool.eq_false_iff.mpr e4
    obtain rfl := Option.some.inj h
    simp (maxDischargeDepth := 9) only [↓xpre, xpost, xlst, xcore, yset, rg0, ↓reduceIte, Nat.reduceEqDiff, Nat.reduceLT, Nat.reduceLeDiff, Nat.reduceAdd, Nat.reduceMul, Nat.reduceMod, Nat.reduceSub, Nat.reduceBEq, Int.reduceLE, Int.reduceLT, Int.reduceEq, Int.reduceSub, Int.reduceAdd, Int.reduceToNat, Int.reduceNeg, e1, e2, c3, e4f] <;> (repeat' apply And.intro) <;> first | rfl | exact ⟨_, rfl⟩ | simp [lst]

noncomputable def s_reMay_l0_S (l : List (List Int)) (a : Int) (b : Int) (t14_ : Int) (t20_ : Int) : Option ((Int) ⊕ (Unit ⊕ Unit)) :=
  if t20_ < ((l.getD t14_.toNat default).length : Int) then
    ck (0 ≤ t20_ ∧ t20_.toNat < (l.getD t14_.toNat default).length) <|
    if ((l.getD t14_.toNat default).getD t20_.toNat default) = a then
      (s_l1Own (l.getD t14_.toNat default)).bind fun r6_ =>
      ck (0 ≤ t20_ ∧ t20_.toNat < r6_.length) <|
      ck ((r6_.set t20_.toNat b).length < 1099511627776) <|
      ck (l.length < 1099511627776) <|
      ck ((sortI (r6_.set t20_.toNat b)).length < 1099511627776) <|
      if (l.contains (sortI (r6_.set t20_.toNat b))) = true then
        some (Sum.inl (IntKind.i64.wrap (t20_ + 1)))
      else
        some (Sum.inr (Sum.inl ()))
    else
      some (Sum.inl (IntKind.i64.wrap (t20_ + 1)))
  else
    some (Sum.inr (Sum.inr ()))
noncomputable def s_reMay_l0 (l : List (List Int)) (a : Int) (b : Int) (t14_ : Int) (v : Int) : Option (Unit ⊕ Unit) := itO (fun v => s_reMay_l0_S l a b t14_ v) v
noncomputable def s_reMay_l1_S (l : List (List Int)) (a : Int) (b : Int) (t14_ : Int) : Option ((Int) ⊕ (Unit ⊕ Unit)) :=
  if t14_ < (l.length : Int) then
    ck (0 ≤ t14_ ∧ t14_.toNat < l.length) <|
    (s_reMay_l0 l a b t14_ 0).bind fun r4_ =>
    match r4_ with
    | .inl q4_ =>
      some (Sum.inr (Sum.inl ()))
    | .inr q4_ =>
      some (Sum.inl (IntKind.i64.wrap (t14_ + 1)))
  else
    some (Sum.inr (Sum.inr ()))
noncomputable def s_reMay_l1 (l : List (List Int)) (a : Int) (b : Int) (v : Int) : Option (Unit ⊕ Unit) := itO (fun v => s_reMay_l1_S l a b v) v
noncomputable def s_reMay (l : List (List Int)) (a : Int) (b : Int) : Option (Bool) :=
  (s_reMay_l1 l a b 0).bind fun r2_ =>
  match r2_ with
  | .inl q2_ =>
    some false
  | .inr q2_ =>
    some true
/-- spec.reMay -/
def k91_l0b : SC :=
  .seq
    (.ops [
      ⟨(some 21), (Op.binOp BinOp.lss 3 (Operand.tmp 20) (Operand.tmp 19) 3), 0, none⟩])
    (.seq
      (.cond (Operand.tmp 21)
        .skip
        (.exit 2))
      (.seq
        (.block 3
          (.seq
            (.ops [
              ⟨(some 22), (Op.move (Operand.tmp 20)), 3, none⟩,
              ⟨(some 23), (Op.indexAddr 32 (Operand.tmp 18) (Operand.tmp 20)), 0, none⟩,
              ⟨(some 24), (Op.load 3 (Operand.tmp 23)), 3, none⟩,
              ⟨(some 9), (Op.assign (Operand.tmp 22)), 3, none⟩,
              ⟨(some 10), (Op.assign (Operand.tmp 24)), 3, none⟩])
            (.seq
              (.seq
                (.ops [
                  ⟨(some 25), (Op.move (Operand.tmp 10)), 3, none⟩,
                  ⟨(some 26), (Op.move (Operand.tmp 1)), 3, none⟩,
                  ⟨(some 27), (Op.binOp BinOp.neq 3 (Operand.tmp 25) (Operand.tmp 26) 3), 4, none⟩])
                (.cond (Operand.tmp 27)
                  (.exit 3)
                  .skip))
              (.seq
                (.ops [
                  ⟨(some 28), (Op.move (Operand.tmp 8)), 32, none⟩,
                  ⟨(some 29), (Op.call { callee := (Callee.value (Operand.func 69)), args := #[(Operand.tmp 28)], argTypes := #[32] }), 32, none⟩,
                  ⟨(some 11), (Op.assign (Operand.tmp 29)), 32, none⟩])
                (.seq
                  (.ops [
                    ⟨(some 30), (Op.move (Operand.tmp 11)), 32, none⟩,
                    ⟨(some 31), (Op.move (Operand.tmp 9)), 3, none⟩,
                    ⟨(some 32), (Op.move (Operand.tmp 2)), 3, none⟩,
                    ⟨(some 33), (Op.indexAddr 32 (Operand.tmp 30) (Operand.tmp 31)), 0, none⟩,
                    ⟨none, (Op.store 3 (Operand.tmp 33) (Operand.tmp 32)), 0, none⟩])
                  (.seq
                    (.ops [
                      ⟨(some 34), (Op.move (Operand.tmp 0)), 22, none⟩,
                      ⟨(some 35), (Op.move (Operand.tmp 11)), 32, none⟩,
                      ⟨(some 36), (Op.call { callee := (Callee.value (Operand.func 95)), args := #[(Operand.tmp 35)], argTypes := #[32] }), 32, none⟩,
                      ⟨(some 37), (Op.call { callee := (Callee.value (Operand.func 80)), args := #[(Operand.tmp 34), (Operand.tmp 36)], argTypes := #[22, 32] }), 4, none⟩,
                      ⟨(some 38), (Op.unOp UnOp.not 4 (Operand.tmp 37)), 4, none⟩])
                    (.cond (Operand.tmp 38)
                      (.seq
                        (.ops [
                          ⟨(some 6), (Op.assign (Operand.const (Value.bool false))), 4, none⟩])
                        .ret)
                      .skip)))))))
        (.ops [
          ⟨(some 39), (Op.binOp BinOp.add 3 (Operand.tmp 20) (Operand.const (Value.int IntKind.i64 1)) 3), 3, none⟩,
          ⟨(some 20), (Op.move (Operand.tmp 39)), 3, none⟩])))
def k91_l0 : SC := .loop k91_l0b
def k91_l1b : SC :=
  .seq
    (.ops [
      ⟨(some 15), (Op.binOp BinOp.lss 3 (Operand.tmp 14) (Operand.tmp 13) 3), 0, none⟩])
    (.seq
      (.cond (Operand.tmp 15)
        .skip
        (.exit 0))
      (.seq
        (.block 1
          (.seq
            (.ops [
              ⟨(some 16), (Op.indexAddr 22 (Operand.tmp 12) (Operand.tmp 14)), 0, none⟩,
              ⟨(some 17), (Op.load 32 (Operand.tmp 16)), 32, none⟩,
              ⟨(some 8), (Op.assign (Operand.tmp 17)), 32, none⟩])
            (.seq
              (.ops [
                ⟨(some 18), (Op.move (Operand.tmp 8)), 32, none⟩,
                ⟨(some 19), (Op.call { callee := (Callee.builtin Builtin.len), args := #[(Operand.tmp 18)], argTypes := #[32] }), 3, none⟩,
                ⟨(some 20), (Op.move (Operand.const (Value.int IntKind.i64 0))), 3, none⟩])
              (.block 2
                k91_l0))))
        (.ops [
          ⟨(some 40), (Op.binOp BinOp.add 3 (Operand.tmp 14) (Operand.const (Value.int IntKind.i64 1)) 3), 3, none⟩,
          ⟨(some 14), (Op.move (Operand.tmp 40)), 3, none⟩])))
def k91_l1 : SC := .loop k91_l1b
def k91 : SC :=
  .seq
    (.ops [
      ⟨(some 6), (Op.assign (Operand.const (Value.bool false))), 4, none⟩])
    (.seq
      (.seq
        (.ops [
          ⟨(some 12), (Op.move (Operand.tmp 0)), 22, none⟩,
          ⟨(some 13), (Op.call { callee := (Callee.builtin Builtin.len), args := #[(Operand.tmp 12)], argTypes := #[22] }), 3, none⟩,
          ⟨(some 14), (Op.move (Operand.const (Value.int IntKind.i64 0))), 3, none⟩])
        (.block 0
          k91_l1))
      (.seq
        (.ops [
          ⟨(some 6), (Op.assign (Operand.const (Value.bool true))), 4, none⟩])
        .ret))
theorem slim91 : Try.f91.body.map (slim lends) = some k91 := by kernel_rfl
theorem ok91 : fnOk Try.f91 3 = true := by kernel_rfl
theorem c91 {a l : List D} {r : D × List D} (h : wpD Y.env k91 (fin tys l.length [ResultVar.tmp 6] r) (entry a l)) (ha : a.length = 3) : Y.call 91 a l = some r :=
  call_slim (Y := Y) rfl Try.func91 (ha ▸ ok91) slim91 h
def s_reMay_l0_M (l : List (List Int)) (a : Int) (b : Int) (t14_ : Int) (t20_ : Int) (s : St) : Prop := s.v 0 = D.sl 32 (lst (fun x => D.sl 3 (lst (D.int .i64) x)) l) ∧ s.v 1 = D.int .i64 a ∧ s.v 2 = D.int .i64 b ∧ s.v 8 = D.sl 3 (lst (D.int .i64) (l.getD t14_.toNat default)) ∧ s.v 12 = D.sl 32 (lst (fun x => D.sl 3 (lst (D.int .i64) x)) l) ∧ s.v 13 = D.int .i64 (l.length : Int) ∧ s.v 14 = D.int .i64 t14_ ∧ s.v 18 = D.sl 3 (lst (D.int .i64) (l.getD t14_.toNat default)) ∧ s.v 19 = D.int .i64 ((l.getD t14_.toNat default).length : Int) ∧ s.v 20 = D.int .i64 t20_
def s_reMay_l0_X (l : List (List Int)) (a : Int) (b : Int) (t14_ : Int) (r : Unit ⊕ Unit) (ex : Ex) (s : St) : Prop := match r with
  | .inl q => ex = .ret ∧ s.v 6 = D.bool false
  | .inr q => ex = .exit 2 ∧ s.v 0 = D.sl 32 (lst (fun x => D.sl 3 (lst (D.int .i64) x)) l) ∧ s.v 1 = D.int .i64 a ∧ s.v 2 = D.int .i64 b ∧ s.v 12 = D.sl 32 (lst (fun x => D.sl 3 (lst (D.int .i64) x)) l) ∧ s.v 13 = D.int .i64 (l.length : Int) ∧ s.v 14 = D.int .i64 t14_
theorem s_reMay_l0_wp (l : List (List Int)) (a : Int) (b : Int) (t14_ : Int) {v : Int} {s : St} {r : Unit ⊕ Unit} (h : s_reMay_l0 l a b t14_ v = some r) (hM : s_reMay_l0_M l a b t14_ v s) : wpD Y.env k91_l0 (s_reMay_l0_X l a b t14_ r) s := by
  unfold s_reMay_l0 at h
  refine wd_itO (c := k91_l0b) (fun v => s_reMay_l0_S l a b t14_ v) (fun v s => s_reMay_l0_M l a b t14_ v s) (s_reMay_l0_X l a b t14_) ?_ h hM
  clear h hM s v r
  intro t20_ s o hM h
  unfold s_reMay_l0_S at h
  unfold s_reMay_l0_M at hM
  obtain ⟨m0, m1, m2, m3, m4, m5, m6, m7, m8, m9⟩ := hM
  unfold k91_l0b
  by_cases e3 : t20_ < ((l.getD t14_.toNat default).length : Int)
  · rw [if_pos e3] at h
    obtain ⟨e4, h⟩ := ckS h
    by_cases e5 : ((l.getD t14_.toNat default).getD t20_.toNat default) = a
    · rw [if_pos e5] at h
      obtain ⟨r6_, hl6, h⟩ := bindS h
      try dsimp only at h
      have c6 := s_l1Own_call (l.getD t14_.toNat default) hl6
      obtain ⟨e7, h⟩ := ckS h
      obtain ⟨e8, h⟩ := ckS h
      have c9 := s_prSorted_cl (r6_.set t20_.toNat b) e8
      obtain ⟨e10, h⟩ := ckS h
      obtain ⟨e11, h⟩ := ckS h
      have c12 := s_prHas_cl l (sortI (r6_.set t20_.toNat b)) e10 e11
      by_cases e13 : (l.contains (sortI (r6_.set t20_.toNat b))) = true
      · rw [if_pos e13] at h
        obtain rfl := Option.some.inj h
        simp (maxDischargeDepth := 9) only [↓xpre, xpost, xlst, xcore, yset, rg0, ↓reduceIte, Nat.reduceEqDiff, Nat.reduceLT, Nat.reduceLeDiff, Nat.reduceAdd, Nat.reduceMul, Nat.reduceMod, Nat.reduceSub, Nat.reduceBEq, Int.reduceLE, Int.reduceLT, Int.reduceEq, Int.reduceSub, Int.reduceAdd, Int.reduceToNat, Int.reduceNeg, m0, m1, m2, m3, m4, m5, m6, m7, m8, m9, e3, e4.1, e4.2, decide_eq_true e5, c6, e7.1, e7.2, e8, c9, e10, e11, c12, e13, s_reMay_l0_M, s_reMay_l0_X, sxN, sxE, sxR] <;> (repeat' apply And.intro) <;> first | rfl | exact ⟨_, rfl⟩ | simp [lst]
      · rw [if_neg e13] at h
        have e13f : (l.contains (sortI (r6_.set t20_.toNat b))) = false := Bool.eq_false_iff.mpr e13
        obtain rfl := Option.some.inj h
        simp (maxDischargeDepth := 9) only [↓xpre, xpost, xlst, xcore, yset, rg0, ↓reduceIte, Nat.reduceEqDiff, Nat.reduceLT, Nat.reduceLeDiff, Nat.reduceAdd, Nat.reduceMul, Nat.reduceMod, Nat.reduceSub, Nat.reduceBEq, Int.reduceLE, Int.reduceLT, Int.reduceEq, Int.reduceSub, Int.reduceAdd, Int.reduceToNat, Int.reduceNeg, m0, m1, m2, m3, m4, m5, m6, m7, m8, m9, e3, e4.1, e4.2, decide_eq_true e5, c6, e7.1, e7.2, e8, c9, e10, e11, c12, e13f, s_reMay_l0_M, s_reMay_l0_X, sxN, sxE, sxR] <;> (repeat' apply And.intro) <;> first | rfl | exact ⟨_, rfl⟩ | simp [lst]
    · rw [if_neg e5] at h
      obtain rfl := Option.some.inj h
      simp (maxDischargeDepth := 9) only [↓xpre, xpost, xlst, xcore, yset, rg0, ↓reduceIte, Nat.reduceEqDiff, Nat.reduceLT, Nat.reduceLeDiff, Nat.reduceAdd, Nat.reduceMul, Nat.reduceMod, Nat.reduceSub, Nat.reduceBEq, Int.reduceLE, Int.reduceLT, Int.reduceEq, Int.reduceSub, Int.reduceAdd, Int.reduceToNat, Int.reduceNeg, m0, m1, m2, m3, m4, m5, m6, m7, m8, m9, e3, e4.1, e4.2, e5, s_reMay_l0_M, s_reMay_l0_X, sxN, sxE, sxR] <;> (repeat' apply And.intro) <;> first | rfl | exact ⟨_, rfl⟩ | simp [lst]
  · rw [if_neg e3] at h
    obtain rfl := Option.some.inj h
    simp (maxDischargeDepth := 9) only [↓xpre, xpost, xlst, xcore, yset, rg0, ↓reduceIte, Nat.reduceEqDiff, Nat.reduceLT, Nat.reduceLeDiff, Nat.reduceAdd, Nat.reduceMul, Nat.reduceMod, Nat.reduceSub, Nat.reduceBEq, Int.reduceLE, Int.reduceLT, Int.reduceEq, Int.reduceSub, Int.reduceAdd, Int.reduceToNat, Int.reduceNeg, m0, m1, m2, m3, m4, m5, m6, m7, m8, m9, e3, s_reMay_l0_M, s_reMay_l0_X, sxN, sxE, sxR] <;> (repeat' apply And.intro) <;> first | rfl | exact ⟨_, rfl⟩ | simp [lst]
def s_reMay_l1_M (l : List (List Int)) (a : Int) (b : Int) (t14_ : Int) (s : St) : Prop := s.v 0 = D.sl 32 (lst (fun x => D.sl 3 (lst (D.int .i64) x)) l) ∧ s.v 1 = D.int .i64 a ∧ s.v 2 = D.int .i64 b ∧ s.v 12 = D.sl 32 (lst (fun x => D.sl 3 (lst (D.int .i64) x)) l) ∧ s.v 13 = D.int .i64 (l.length : Int) ∧ s.v 14 = D.int .i64 t14_
def s_reMay_l1_X (l : List (List Int)) (a : Int) (b : Int) (r : Unit ⊕ Unit) (ex : Ex) (s : St) : Prop := match r with
  | .inl q => ex = .ret ∧ s.v 6 = D.bool false
  | .inr q => ex = .exit 0
theorem s_reMay_l1_wp (l : List (List Int)) (a : Int) (b : Int) {v : Int} {s : St} {r : Unit ⊕ Unit} (h : s_reMay_l1 l a b v = some r) (hM : s_reMay_l1_M l a b v s) : wpD Y.env k91_l1 (s_reMay_l1_X l a b r) s := by
  unfold s_reMay_l1 at h
  refine wd_itO (c := k91_l1b) (fun v => s_reMay_l1_S l a b v) (fun v s => s_reMay_l1_M l a b v s) (s_reMay_l1_X l a b) ?_ h hM
  clear h hM s v r
  intro t14_ s o hM h
  unfold s_reMay_l1_S at h
  unfold s_reMay_l1_M at hM
  obtain ⟨m0, m1, m2, m3, m4, m5⟩ := hM
  unfold k91_l1b
  by_cases e1 : t14_ < (l.length : Int)
  · rw [if_pos e1] at h
    obtain ⟨e2, h⟩ := ckS h
    obtain ⟨r4_, hl4, h⟩ := bindS h
    try dsimp only at h
    simp (maxDischargeDepth := 9) only [↓xpre, xpost, xlst, xcore, yset, rg0, ↓reduceIte, Nat.reduceEqDiff, Nat.reduceLT, Nat.reduceLeDiff, Nat.reduceAdd, Nat.reduceMul, Nat.reduceMod, Nat.reduceSub, Nat.reduceBEq, Int.reduceLE, Int.reduceLT, Int.reduceEq, Int.reduceSub, Int.reduceAdd, Int.reduceToNat, Int.reduceNeg, m0, m1, m2, m3, m4, m5, e1, e2.1, e2.2]
    refine wd_mono (s_reMay_l0_wp l a b t14_ hl4 ?_) ?_
    · simp (maxDischargeDepth := 9) only [↓xpre, xpost, xlst, xcore, yset, rg0, ↓reduceIte, Nat.reduceEqDiff, Nat.reduceLT, Nat.reduceLeDiff, Nat.reduceAdd, Nat.reduceMul, Nat.reduceMod, Nat.reduceSub, Nat.reduceBEq, Int.reduceLE, Int.reduceLT, Int.reduceEq, Int.reduceSub, Int.reduceAdd, Int.reduceToNat, Int.reduceNeg, m0, m1, m2, m3, m4, m5, e1, e2.1, e2.2, s_reMay_l0_M] <;> (repeat' apply And.intro) <;> first | rfl | exact ⟨_, rfl⟩ | simp [lst]
    · intro ex4 s4 hX4
      rcases r4_ with q4_ | q4_
      · unfold s_reMay_l0_X at hX4
        dsimp only at hX4 h
        obtain ⟨rfl, n4_0⟩ := hX4
        obtain rfl := Option.some.inj h
        simp (maxDischargeDepth := 9) only [↓xpre, xpost, xlst, xcore, yset, rg0, ↓reduceIte, Nat.reduceEqDiff, Nat.reduceLT, Nat.reduceLeDiff, Nat.reduceAdd, Nat.reduceMul, Nat.reduceMod, Nat.reduceSub, Nat.reduceBEq, Int.reduceLE, Int.reduceLT, Int.reduceEq, Int.reduceSub, Int.reduceAdd, Int.reduceToNat, Int.reduceNeg, e1, e2.1, e2.2, n4_0, s_reMay_l1_M, s_reMay_l1_X, sxN, sxE, sxR] <;> (repeat' apply And.intro) <;> first | rfl | exact ⟨_, rfl⟩ | simp [lst]
      · unfold s_reMay_l0_X at hX4
        dsimp only at hX4 h
        obtain ⟨rfl, n4_0, n4_1, n4_2, n4_3, n4_4, n4_5⟩ := hX4
        obtain rfl := Option.some.inj h
        simp (maxDischargeDepth := 9) only [↓xpre, xpost, xlst, xcore, yset, rg0, ↓reduceIte, Nat.reduceEqDiff, Nat.reduceLT, Nat.reduceLeDiff, Nat.reduceAdd, Nat.reduceMul, Nat.reduceMod, Nat.reduceSub, Nat.reduceBEq, Int.reduceLE, Int.reduceLT, Int.reduceEq, Int.reduceSub, Int.reduceAdd, Int.reduceToNat, Int.reduceNeg, e1, e2.1, e2.2, n4_0, n4_1, n4_2, n4_3, n4_4, n4_5, s_reMay_l1_M, s_reMay_l1_X, sxN, sxE, sxR] <;> (repeat' apply And.intro) <;> first | rfl | exact ⟨_, rfl⟩ | simp [lst]
  · rw [if_neg e1] at h
    obtain rfl := Option.some.inj h
    simp (maxDischargeDepth := 9) only [↓xpre, xpost, xlst, xcore, yset, rg0, ↓reduceIte, Nat.reduceEqDiff, Nat.reduceLT, Nat.reduceLeDiff, Nat.reduceAdd, Nat.reduceMul, Nat.reduceMod, Nat.reduceSub, Nat.reduceBEq, Int.reduceLE, Int.reduceLT, Int.reduceEq, Int.reduceSub, Int.reduceAdd, Int.reduceToNat, Int.reduceNeg, m0, m1, m2, m3, m4, m5, e1, s_reMay_l1_M, s_reMay_l1_X, sxN, sxE, sxR] <;> (repeat' apply And.intro) <;> first | rfl | exact ⟨_, rfl⟩ | simp [lst]
theorem s_reMay_call (l : List (List Int)) (a : Int) (b : Int) {r : Bool} (h : s_reMay l a b = some r) : Y.call 91 [D.sl 32 (lst (fun x => D.sl 3 (lst (D.int .i64) x)) l), D.int .i64 a, D.int .i64 b] [] = some (D.bool r, []) := by
  refine c91 ?_ rfl
  unfold k91
  unfold s_reMay at h
  obtain ⟨r2_, hl2, h⟩ := bindS h
  try dsimp only at h
  simp (maxDischargeDepth := 9) only [↓xpre, xpost, xlst, xcore, yset, rg0, ↓reduceIte, Nat.reduceEqDiff, Nat.reduceLT, Nat.reduceLeDiff, Nat.reduceAdd, Nat.reduceMul, Nat.reduceMod, Nat.reduceSub, Nat.reduceBEq, Int.reduceLE, Int.reduceLT, Int.reduceEq, Int.reduceSub, Int.reduceAdd, Int.reduceToNat, Int.reduceNeg]
  refine wd_mono (s_reMay_l1_wp l a b hl2 ?_) ?_
  · simp (maxDischargeDepth := 9) only [↓xpre, xpost, xlst, xcore, yset, rg0, ↓reduceIte, Nat.reduceEqDiff, Nat.reduceLT, Nat.reduceLeDiff, Nat.reduceAdd, Nat.reduceMul, Nat.reduceMod, Nat.reduceSub, Nat.reduceBEq, Int.reduceLE, Int.reduceLT, Int.reduceEq, Int.reduceSub, Int.reduceAdd, Int.reduceToNat, Int.reduceNeg, s_reMay_l1_M] <;> (repeat' apply And.intro) <;> first | rfl | exact ⟨_, rfl⟩ | simp [lst]
  · intro ex2 s2 hX2
    rcases r2_ with q2_ | q2_
    · unfold s_reMay_l1_X at hX2
      dsimp only at hX2 h
      obtain ⟨rfl, n2_0⟩ := hX2
      obtain rfl := Option.some.inj h
      simp (maxDischargeDepth := 9) only [↓xpre, xpost, xlst, xcore, yset, rg0, ↓reduceIte, Nat.reduceEqDiff, Nat.reduceLT, Nat.reduceLeDiff, Nat.reduceAdd, Nat.reduceMul, Nat.reduceMod, Nat.reduceSub, Nat.reduceBEq, Int.reduceLE, Int.reduceLT, Int.reduceEq, Int.reduceSub, Int.reduceAdd, Int.reduceToNat, Int.reduceNeg, n2_0] <;> (repeat' apply And.intro) <;> first | rfl | exact ⟨_, rfl⟩ | simp [lst]
    · unfold s_reMay_l1_X at hX2
      dsimp only at hX2 h
      obtain rfl := hX2
      obtain rfl := Option.some.inj h
      simp (maxDischargeDepth := 9) only [↓xpre, xpost, xlst, xcore, yset, rg0, ↓reduceIte, Nat.reduceEqDiff, Nat.reduceLT, Nat.reduceLeDiff, Nat.reduceAdd, Nat.reduceMul, Nat.reduceMod, Nat.reduceSub, Nat.reduceBEq, Int.reduceLE, Int.reduceLT, Int.reduceEq, Int.reduceSub, Int.reduceAdd, Int.reduceToNat, Int.reduceNeg] <;> (repeat' apply And.intro) <;> first | rfl | exact ⟨_, rfl⟩ | simp [lst]

noncomputable def s_reDiagram_l0_S (l : List (List Int)) (labels : Int) (a : Int) (out1 : List (List Int)) (b : Int) : Option (((List (List Int)) × Int) ⊕ ((List (List Int)))) :=
  if b < labels then
    if a = b then
      some (Sum.inl (out1, IntKind.i64.wrap (b + 1)))
    else
      (s_reMay l a b).bind fun r4_ =>
      if r4_ = true then
        ck (out1.length + 1 < 1099511627776) <|
        some (Sum.inl ((out1 ++ [[a, b]]), IntKind.i64.wrap (b + 1)))
      else
        some (Sum.inl (out1, IntKind.i64.wrap (b + 1)))
  else
    some (Sum.inr out1)
noncomputable def s_reDiagram_l0 (l : List (List Int)) (labels : Int) (a : Int) (v : (List (List Int)) × Int) : Option ((List (List Int))) := itO (fun v => s_reDiagram_l0_S l labels a v.1 v.2) v
noncomputable def s_reDiagram_l1_S (l : List (List Int)) (labels : Int) (out : List (List Int)) (a : Int) : Option (((List (List Int)) × Int) ⊕ ((List (List Int)))) :=
  if a < labels then
    (s_reDiagram_l0 l labels a (out, 0)).bind fun r3_ =>
    some (Sum.inl (r3_, IntKind.i64.wrap (a + 1)))
  else
    some (Sum.inr out)
noncomputable def s_reDiagram_l1 (l : List (List Int)) (labels : Int) (v : (List (List Int)) × Int) : Option ((List (List Int))) := itO (fun v => s_reDiagram_l1_S l labels v.1 v.2) v
noncomputable def s_reDiagram (l : List (List Int)) (labels : Int) : Option ((List (List Int))) :=
  (s_reDiagram_l1 l labels ([], 0)).bind fun r2_ =>
  some r2_
/-- spec.reDiagram -/
def k70_l0b : SC :=
  .seq
    (.seq
      (.ops [
        ⟨(some 13), (Op.move (Operand.tmp 7)), 3, none⟩,
        ⟨(some 14), (Op.move (Operand.tmp 1)), 3, none⟩,
        ⟨(some 15), (Op.binOp BinOp.lss 3 (Operand.tmp 13) (Operand.tmp 14) 3), 4, none⟩])
      (.cond (Operand.tmp 15)
        .skip
        (.exit 2)))
    (.seq
      (.block 3
        (.seq
          (.ops [
            ⟨(some 18), (Op.move (Operand.tmp 6)), 3, none⟩,
            ⟨(some 19), (Op.move (Operand.tmp 7)), 3, none⟩,
            ⟨(some 20), (Op.binOp BinOp.neq 3 (Operand.tmp 18) (Operand.tmp 19) 3), 4, none⟩,
            ⟨(some 21), (Op.move (Operand.tmp 20)), 4, none⟩,
            ⟨(some 22), (Op.move (Operand.tmp 0)), 22, (some (some 21, true))⟩,
            ⟨(some 23), (Op.move (Operand.tmp 6)), 3, (some (some 21, true))⟩,
            ⟨(some 24), (Op.move (Operand.tmp 7)), 3, (some (some 21, true))⟩,
            ⟨(some 25), (Op.call { callee := (Callee.value (Operand.func 91)), args := #[(Operand.tmp 22), (Operand.tmp 23), (Operand.tmp 24)], argTypes := #[22, 3, 3] }), 4, (some (some 21, true))⟩,
            ⟨(some 26), (Op.pick (Operand.tmp 21) (Operand.tmp 25) (Operand.const (Value.bool false))), 4, none⟩])
          (.cond (Operand.tmp 26)
            (.ops [
              ⟨(some 27), (Op.move (Operand.tmp 5)), 22, none⟩,
              ⟨(some 28), (Op.move (Operand.tmp 6)), 3, none⟩,
              ⟨(some 29), (Op.move (Operand.tmp 7)), 3, none⟩,
              ⟨(some 30), (Op.buildSlice 32 2 #[(0, (Operand.tmp 28)), (1, (Operand.tmp 29))]), 32, none⟩,
              ⟨(some 31), (Op.buildSlice 22 1 #[(0, (Operand.tmp 30))]), 22, none⟩,
              ⟨(some 32), (Op.call { callee := (Callee.builtin Builtin.append), args := #[(Operand.tmp 27), (Operand.tmp 31)], argTypes := #[22, 22] }), 22, none⟩,
              ⟨(some 5), (Op.assign (Operand.tmp 32)), 22, none⟩])
            .skip)))
      (.ops [
        ⟨(some 16), (Op.move (Operand.tmp 7)), 3, none⟩,
        ⟨(some 17), (Op.binOp BinOp.add 3 (Operand.tmp 16) (Operand.const (Value.int IntKind.i64 1)) 3), 3, none⟩,
        ⟨(some 7), (Op.assign (Operand.tmp 17)), 3, none⟩]))
def k70_l0 : SC := .loop k70_l0b
def k70_l1b : SC :=
  .seq
    (.seq
      (.ops [
        ⟨(some 8), (Op.move (Operand.tmp 6)), 3, none⟩,
        ⟨(some 9), (Op.move (Operand.tmp 1)), 3, none⟩,
        ⟨(some 10), (Op.binOp BinOp.lss 3 (Operand.tmp 8) (Operand.tmp 9) 3), 4, none⟩])
      (.cond (Operand.tmp 10)
        .skip
        (.exit 0)))
    (.seq
      (.block 1
        (.seq
          (.ops [
            ⟨(some 7), (Op.assign (Operand.const (Value.int IntKind.i64 0))), 3, none⟩])
          (.block 2
            k70_l0)))
      (.ops [
        ⟨(some 11), (Op.move (Operand.tmp 6)), 3, none⟩,
        ⟨(some 12), (Op.binOp BinOp.add 3 (Operand.tmp 11) (Operand.const (Value.int IntKind.i64 1)) 3), 3, none⟩,
        ⟨(some 6), (Op.assign (Operand.tmp 12)), 3, none⟩]))
def k70_l1 : SC := .loop k70_l1b
def k70 : SC :=
  .seq
    (.ops [
      ⟨(some 4), (Op.assign (Operand.const (Value.slice none 0 0))), 22, none⟩])
    (.seq
      (.ops [
        ⟨(some 5), (Op.assign (Operand.const (Value.slice none 0 0))), 22, none⟩])
      (.seq
        (.seq
          (.ops [
            ⟨(some 6), (Op.assign (Operand.const (Value.int IntKind.i64 0))), 3, none⟩])
          (.block 0
            k70_l1))
        (.seq
          (.ops [
            ⟨(some 33), (Op.move (Operand.tmp 5)), 22, none⟩,
            ⟨(some 4), (Op.assign (Operand.tmp 33)), 22, none⟩])
          .ret)))
theorem slim70 : Try.f70.body.map (slim lends) = some k70 := by kernel_rfl
theorem ok70 : fnOk Try.f70 2 = true := by kernel_rfl
theorem c70 {a l : List D} {r : D × List D} (h : wpD Y.env k70 (fin tys l.length [ResultVar.tmp 4] r) (entry a l)) (ha : a.length = 2) : Y.call 70 a l = some r :=
  call_slim (Y := Y) rfl Try.func70 (ha ▸ ok70) slim70 h
def s_reDiagram_l0_M (l : List (List Int)) (labels : Int) (a : Int) (out1 : List (List Int)) (b : Int) (s : St) : Prop := s.v 0 = D.sl 32 (lst (fun x => D.sl 3 (lst (D.int .i64) x)) l) ∧ s.v 1 = D.int .i64 labels ∧ s.v 5 = D.own 32 (lst (fun x => D.own 3 (lst (D.int .i64) x)) out1) ∧ s.v 6 = D.int .i64 a ∧ s.v 7 = D.int .i64 b
def s_reDiagram_l0_X (l : List (List Int)) (labels : Int) (a : Int) (r : (List (List Int))) (ex : Ex) (s : St) : Prop := ex = .exit 2 ∧ s.v 0 = D.sl 32 (lst (fun x => D.sl 3 (lst (D.int .i64) x)) l) ∧ s.v 1 = D.int .i64 labels ∧ s.v 5 = D.own 32 (lst (fun x => D.own 3 (lst (D.int .i64) x)) r) ∧ s.v 6 = D.int .i64 a
theorem s_reDiagram_l0_wp (l : List (List Int)) (labels : Int) (a : Int) {v : (List (List Int)) × Int} {s : St} {r : (List (List Int))} (h : s_reDiagram_l0 l labels a v = some r) (hM : s_reDiagram_l0_M l labels a v.1 v.2 s) : wpD Y.env k70_l0 (s_reDiagram_l0_X l labels a r) s := by
  unfold s_reDiagram_l0 at h
  refine wd_itO (c := k70_l0b) (fun v => s_reDiagram_l0_S l labels a v.1 v.2) (fun v s => s_reDiagram_l0_M l labels a v.1 v.2 s) (s_reDiagram_l0_X l labels a) ?_ h hM
  clear h hM s v r
  intro v s o hM h
  obtain ⟨out1, b⟩ := v
  dsimp only at h hM
  unfold s_reDiagram_l0_S at h
  unfold s_reDiagram_l0_M at hM
  obtain ⟨m0, m1, m2, m3, m4⟩ := hM
  unfold k70_l0b
  by_cases e2 : b < labels
  · rw [if_pos e2] at h
    by_cases e3 : a = b
    · rw [if_pos e3] at h
      obtain rfl := Option.some.inj h
      simp (maxDischargeDepth := 9) only [↓xpre, xpost, xlst, xcore, yset, rg0, ↓reduceIte, Nat.reduceEqDiff, Nat.reduceLT, Nat.reduceLeDiff, Nat.reduceAdd, Nat.reduceMul, Nat.reduceMod, Nat.reduceSub, Nat.reduceBEq, Int.reduceLE, Int.reduceLT, Int.reduceEq, Int.reduceSub, Int.reduceAdd, Int.reduceToNat, Int.reduceNeg, m0, m1, m2, m3, m4, e2, decide_eq_true e3, s_reDiagram_l0_M, s_reDiagram_l0_X, sxN, sxE, sxR] <;> (repeat' apply And.intro) <;> first | rfl | exact ⟨_, rfl⟩ | simp [lst]
    · rw [if_neg e3] at h
      obtain ⟨r4_, hl4, h⟩ := bindS h
      try dsimp only at h
      have c4 := s_reMay_call l a b hl4
      by_cases e5 : r4_ = true
      · rw [if_pos e5] at h
        obtain ⟨e6, h⟩ := ckS h
        obtain rfl := Option.some.inj h
        simp (maxDischargeDepth := 9) only [↓xpre, xpost, xlst, xcore, yset, rg0, ↓reduceIte, Nat.reduceEqDiff, Nat.reduceLT, Nat.reduceLeDiff, Nat.reduceAdd, Nat.reduceMul, Nat.reduceMod, Nat.reduceSub, Nat.reduceBEq, Int.reduceLE, Int.reduceLT, Int.reduceEq, Int.reduceSub, Int.reduceAdd, Int.reduceToNat, Int.reduceNeg, m0, m1, m2, m3, m4, e2, e3, c4, e5, e6, s_reDiagram_l0_M, s_reDiagram_l0_X, sxN, sxE, sxR] <;> (repeat' apply And.intro) <;> first | rfl | exact ⟨_, rfl⟩ | simp [lst]
      · rw [if_neg e5] at h
        have e5f : r4_ = false := Bool.eq_false_iff.mpr e5
        obtain rfl := Option.some.inj h
        simp (maxDischargeDepth := 9) only [↓xpre, xpost, xlst, xcore, yset, rg0, ↓reduceIte, Nat.reduceEqDiff, Nat.reduceLT, Nat.reduceLeDiff, Nat.reduceAdd, Nat.reduceMul, Nat.reduceMod, Nat.reduceSub, Nat.reduceBEq, Int.reduceLE, Int.reduceLT, Int.reduceEq, Int.reduceSub, Int.reduceAdd, Int.reduceToNat, Int.reduceNeg, m0, m1, m2, m3, m4, e2, e3, c4, e5f, s_reDiagram_l0_M, s_reDiagram_l0_X, sxN, sxE, sxR] <;> (repeat' apply And.intro) <;> first | rfl | exact ⟨_, rfl⟩ | simp [lst]
  · rw [if_neg e2] at h
    obtain rfl := Option.some.inj h
    simp (maxDischargeDepth := 9) only [↓xpre, xpost, xlst, xcore, yset, rg0, ↓reduceIte, Nat.reduceEqDiff, Nat.reduceLT, Nat.reduceLeDiff, Nat.reduceAdd, Nat.reduceMul, Nat.reduceMod, Nat.reduceSub, Nat.reduceBEq, Int.reduceLE, Int.reduceLT, Int.reduceEq, Int.reduceSub, Int.reduceAdd, Int.reduceToNat, Int.reduceNeg, m0, m1, m2, m3, m4, e2, s_reDiagram_l0_M, s_reDiagram_l0_X, sxN, sxE, sxR] <;> (repeat' apply And.intro) <;> first | rfl | exact ⟨_, rfl⟩ | simp [lst]
def s_reDiagram_l1_M (l : List (List Int)) (labels : Int) (out : List (List Int)) (a : Int) (s : St) : Prop := s.v 0 = D.sl 32 (lst (fun x => D.sl 3 (lst (D.int .i64) x)) l) ∧ s.v 1 = D.int .i64 labels ∧ s.v 5 = D.own 32 (lst (fun x => D.own 3 (lst (D.int .i64) x)) out) ∧ s.v 6 = D.int .i64 a
def s_reDiagram_l1_X (l : List (List Int)) (labels : Int) (r : (List (List Int))) (ex : Ex) (s : St) : Prop := ex = .exit 0 ∧ s.v 5 = D.own 32 (lst (fun x => D.own 3 (lst (D.int .i64) x)) r)
theorem s_reDiagram_l1_wp (l : List (List Int)) (labels : Int) {v : (List (List Int)) × Int} {s : St} {r : (List (List Int))} (h : s_reDiagram_l1 l labels v = some r) (hM : s_reDiagram_l1_M l labels v.1 v.2 s) : wpD Y.env k70_l1 (s_reDiagram_l1_X l labels r) s := by
  unfold s_reDiagram_l1 at h
  refine wd_itO (c := k70_l1b) (fun v => s_reDiagram_l1_S l labels v.1 v.2) (fun v s => s_reDiagram_l1_M l labels v.1 v.2 s) (s_reDiagram_l1_X l labels) ?_ h hM
  clear h hM s v r
  intro v s o hM h
  obtain ⟨out, a⟩ := v
  dsimp only at h hM
  unfold s_reDiagram_l1_S at h
  unfold s_reDiagram_l1_M at hM
  obtain ⟨m0, m1, m2, m3⟩ := hM
  unfold k70_l1b
  by_cases e1 : a < labels
  · rw [if_pos e1] at h
    obtain ⟨r3_, hl3, h⟩ := bindS h
    try dsimp only at h
    simp (maxDischargeDepth := 9) only [↓xpre, xpost, xlst, xcore, yset, rg0, ↓reduceIte, Nat.reduceEqDiff, Nat.reduceLT, Nat.reduceLeDiff, Nat.reduceAdd, Nat.reduceMul, Nat.reduceMod, Nat.reduceSub, Nat.reduceBEq, Int.reduceLE, Int.reduceLT, Int.reduceEq, Int.reduceSub, Int.reduceAdd, Int.reduceToNat, Int.reduceNeg, m0, m1, m2, m3, e1]
    refine wd_mono (s_reDiagram_l0_wp l labels a hl3 ?_) ?_
    · simp (maxDischargeDepth := 9) only [↓xpre, xpost, xlst, xcore, yset, rg0, ↓reduceIte, Nat.reduceEqDiff, Nat.reduceLT, Nat.reduceLeDiff, Nat.reduceAdd, Nat.reduceMul, Nat.reduceMod, Nat.reduceSub, Nat.reduceBEq, Int.reduceLE, Int.reduceLT, Int.reduceEq, Int.reduceSub, Int.reduceAdd, Int.reduceToNat, Int.reduceNeg, m0, m1, m2, m3, e1, s_reDiagram_l0_M] <;> (repeat' apply And.intro) <;> first | rfl | exact ⟨_, rfl⟩ | simp [lst]
    · intro ex3 s3 hX3
      unfold s_reDiagram_l0_X at hX3
      obtain ⟨rfl, n3_0, n3_1, n3_2, n3_3⟩ := hX3
      obtain rfl := Option.some.inj h
      simp (maxDischargeDepth := 9) only [↓xpre, xpost, xlst, xcore, yset, rg0, ↓reduceIte, Nat.reduceEqDiff, Nat.reduceLT, Nat.reduceLeDiff, Nat.reduceAdd, Nat.reduceMul, Nat.reduceMod, Nat.reduceSub, Nat.reduceBEq, Int.reduceLE, Int.reduceLT, Int.reduceEq, Int.reduceSub, Int.reduceAdd, Int.reduceToNat, Int.reduceNeg, e1, n3_0, n3_1, n3_2, n3_3, s_reDiagram_l1_M, s_reDiagram_l1_X, sxN, sxE, sxR] <;> (repeat' apply And.intro) <;> first | rfl | exact ⟨_, rfl⟩ | simp [lst]
  · rw [if_neg e1] at h
    obtain rfl := Option.some.inj h
    simp (maxDischargeDepth := 9) only [↓xpre, xpost, xlst, xcore, yset, rg0, ↓reduceIte, Nat.reduceEqDiff, Nat.reduceLT, Nat.reduceLeDiff, Nat.reduceAdd, Nat.reduceMul, Nat.reduceMod, Nat.reduceSub, Nat.reduceBEq, Int.reduceLE, Int.reduceLT, Int.reduceEq, Int.reduceSub, Int.reduceAdd, Int.reduceToNat, Int.reduceNeg, m0, m1, m2, m3, e1, s_reDiagram_l1_M, s_reDiagram_l1_X, sxN, sxE, sxR] <;> (repeat' apply And.intro) <;> first | rfl | exact ⟨_, rfl⟩ | simp [lst]
theorem s_reDiagram_call (l : List (List Int)) (labels : Int) {r : (List (List Int))} (h : s_reDiagram l labels = some r) : Y.call 70 [D.sl 32 (lst (fun x => D.sl 3 (lst (D.int .i64) x)) l), D.int .i64 labels] [] = some (D.own 32 (lst (fun x => D.own 3 (lst (D.int .i64) x)) r), []) := by
  refine c70 ?_ rfl
  unfold k70
  unfold s_reDiagram at h
  obtain ⟨r2_, hl2, h⟩ := bindS h
  try dsimp only at h
  simp (maxDischargeDepth := 9) only [↓xpre, xpost, xlst, xcore, yset, rg0, ↓reduceIte, Nat.reduceEqDiff, Nat.reduceLT, Nat.reduceLeDiff, Nat.reduceAdd, Nat.reduceMul, Nat.reduceMod, Nat.reduceSub, Nat.reduceBEq, Int.reduceLE, Int.reduceLT, Int.reduceEq, Int.reduceSub, Int.reduceAdd, Int.reduceToNat, Int.reduceNeg]
  refine wd_mono (s_reDiagram_l1_wp l labels hl2 ?_) ?_
  · simp (maxDischargeDepth := 9) only [↓xpre, xpost, xlst, xcore, yset, rg0, ↓reduceIte, Nat.reduceEqDiff, Nat.reduceLT, Nat.reduceLeDiff, Nat.reduceAdd, Nat.reduceMul, Nat.reduceMod, Nat.reduceSub, Nat.reduceBEq, Int.reduceLE, Int.reduceLT, Int.reduceEq, Int.reduceSub, Int.reduceAdd, Int.reduceToNat, Int.reduceNeg, s_reDiagram_l1_M] <;> (repeat' apply And.intro) <;> first | rfl | exact ⟨_, rfl⟩ | simp [lst]
  · intro ex2 s2 hX2
    unfold s_reDiagram_l1_X at hX2
    obtain ⟨rfl, n2_0⟩ := hX2
    obtain rfl := Option.some.inj h
    simp (maxDischargeDepth := 9) only [↓xpre, xpost, xlst, xcore, yset, rg0, ↓reduceIte, Nat.reduceEqDiff, Nat.reduceLT, Nat.reduceLeDiff, Nat.reduceAdd, Nat.reduceMul, Nat.reduceMod, Nat.reduceSub, Nat.reduceBEq, Int.reduceLE, Int.reduceLT, Int.reduceEq, Int.reduceSub, Int.reduceAdd, Int.reduceToNat, Int.reduceNeg, n2_0] <;> (repeat' apply And.intro) <;> first | rfl | exact ⟨_, rfl⟩ | simp [lst]

noncomputable def s_EdgeDiagram (p_Labels : Int) (p_Degree : Int) (p_Nodes : List (List Int)) (p_Edges : List (List Int)) : Option ((List (List Int)) × Bool) :=
  ck (Short p_Nodes) <|
  ck (Short p_Edges) <|
  if (isProb p_Labels p_Degree p_Nodes p_Edges) = true then
    (s_reDiagram p_Edges p_Labels).bind fun r5_ =>
    some (r5_, true)
  else
    some ([], false)
/-- spec.EdgeDiagram -/
def k40 : SC :=
  .seq
    (.ops [
      ⟨(some 1), (Op.box 28 (Operand.tmp 0)), 0, none⟩,
      ⟨(some 2), (Op.assign (Operand.const (Value.slice none 0 0))), 22, none⟩,
      ⟨(some 3), (Op.assign (Operand.const (Value.bool false))), 4, none⟩])
    (.seq
      (.seq
        (.ops [
          ⟨(some 4), (Op.load 28 (Operand.tmp 1)), 28, none⟩,
          ⟨(some 5), (Op.call { callee := (Callee.value (Operand.func 56)), args := #[(Operand.tmp 4)], argTypes := #[28] }), 4, none⟩,
          ⟨(some 6), (Op.unOp UnOp.not 4 (Operand.tmp 5)), 4, none⟩])
        (.cond (Operand.tmp 6)
          (.seq
            (.ops [
              ⟨(some 2), (Op.assign (Operand.const (Value.slice none 0 0))), 22, none⟩,
              ⟨(some 3), (Op.assign (Operand.const (Value.bool false))), 4, none⟩])
            .ret)
          .skip))
      (.seq
        (.ops [
          ⟨(some 7), (Op.fieldAddr 28 (Operand.tmp 1) 3), 0, none⟩,
          ⟨(some 8), (Op.load 22 (Operand.tmp 7)), 22, none⟩,
          ⟨(some 9), (Op.fieldAddr 28 (Operand.tmp 1) 0), 0, none⟩,
          ⟨(some 10), (Op.load 3 (Operand.tmp 9)), 3, none⟩,
          ⟨(some 11), (Op.call { callee := (Callee.value (Operand.func 70)), args := #[(Operand.tmp 8), (Operand.tmp 10)], argTypes := #[22, 3] }), 22, none⟩,
          ⟨(some 2), (Op.assign (Operand.tmp 11)), 22, none⟩,
          ⟨(some 3), (Op.assign (Operand.const (Value.bool true))), 4, none⟩])
        .ret))
theorem slim40 : Try.f40.body.map (slim lends) = some k40 := by kernel_rfl
theorem ok40 : fnOk Try.f40 1 = true := by kernel_rfl
theorem c40 {a l : List D} {r : D × List D} (h : wpD Y.env k40 (fin tys l.length [ResultVar.tmp 2, ResultVar.tmp 3] r) (entry a l)) (ha : a.length = 1) : Y.call 40 a l = some r :=
  call_slim (Y := Y) rfl Try.func40 (ha ▸ ok40) slim40 h
theorem s_EdgeDiagram_call (p_Labels : Int) (p_Degree : Int) (p_Nodes : List (List Int)) (p_Edges : List (List Int)) {r : (List (List Int)) × Bool} (h : s_EdgeDiagram p_Labels p_Degree p_Nodes p_Edges = some r) : Y.call 40 [D.agg [D.int .i64 p_Labels, D.int .i64 p_Degree, D.sl 32 (lst (fun x => D.sl 3 (lst (D.int .i64) x)) p_Nodes), D.sl 32 (lst (fun x => D.sl 3 (lst (D.int .i64) x)) p_Edges)]] [] = some (D.tup [D.own 32 (lst (fun x => D.own 3 (lst (D.int .i64) x)) r.1), D.bool r.2], []) := by
  refine c40 ?_ rfl
  unfold k40
  unfold s_EdgeDiagram at h
  obtain ⟨e1, h⟩ := ckS h
  obtain ⟨e2, h⟩ := ckS h
  have c3 := s_prGood_cl p_Labels p_Degree p_Nodes p_Edges e1 e2
  by_cases e4 : (isProb p_Labels p_Degree p_Nodes p_Edges) = true
  · rw [if_pos e4] at h
    obtain ⟨r5_, hl5, h⟩ := bindS h
    try dsimp only at h
    have c5 := s_reDiagram_call p_Edges p_Labels hl5
    obtain rfl := Option.some.inj h
    simp (maxDischargeDepth := 9) only [↓xpre, xpost, xlst, xcore, yset, rg0, ↓reduceIte, Nat.reduceEqDiff, Nat.reduceLT, Nat.reduceLeDiff, Nat.reduceAdd, Nat.reduceMul, Nat.reduceMod, Nat.reduceSub, Nat.reduceBEq, Int.reduceLE, Int.reduceLT, Int.reduceEq, Int.reduceSub, Int.reduceAdd, Int.reduceToNat, Int.reduceNeg, e1, e2, c3, e4, c5] <;> (repeat' apply And.intro) <;> first | rfl | exact ⟨_, rfl⟩ | simp [lst]
  · rw [if_neg e4] at h
    have e4f : (isProb p_Labels p_Degree p_Nodes p_Edges) = false := Bool.eq_false_iff.mpr e4
    obtain rfl := Option.some.inj h
    simp (maxDischargeDepth := 9) only [↓xpre, xpost, xlst, xcore, yset, rg0, ↓reduceIte, Nat.reduceEqDiff, Nat.reduceLT, Nat.reduceLeDiff, Nat.reduceAdd, Nat.reduceMul, Nat.reduceMod, Nat.reduceSub, Nat.reduceBEq, Int.reduceLE, Int.reduceLT, Int.reduceEq, Int.reduceSub, Int.reduceAdd, Int.reduceToNat, Int.reduceNeg, e1, e2, c3, e4f] <;> (repeat' apply And.intro) <;> first | rfl | exact ⟨_, rfl⟩ | simp [lst]

end Go.Proofs.Ytjlphfbpaejicaa
