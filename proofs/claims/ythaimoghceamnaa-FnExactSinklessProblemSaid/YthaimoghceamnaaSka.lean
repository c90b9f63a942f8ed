/- Lists compared, and a list put ahead of others, as plain functions. Conditions: lengths in range. -/
import Derived.Test.YthaimoghceamnaaL5
import Derived.Test.YthaimoghceamnaaPM
namespace Go.Proofs.Ythaimoghceamnaa
open Go Dv
set_option linter.unusedSimpArgs false
set_option linter.unusedVariables false
set_option maxRecDepth 100000
set_option maxHeartbeats 4000000

noncomputable def s_l1Same_l0_S (a : List Int) (b : List Int) (t13_ : Int) : Option ((Int) ⊕ (Unit ⊕ Unit)) :=
  if t13_ < (a.length : Int) then
    ck (0 ≤ t13_ ∧ t13_.toNat < a.length) <|
    ck (0 ≤ t13_ ∧ t13_.toNat < b.length) <|
    if (a.getD t13_.toNat default) = (b.getD t13_.toNat default) then
      some (Sum.inl (IntKind.i64.wrap (t13_ + 1)))
    else
      some (Sum.inr (Sum.inl ()))
  else
    some (Sum.inr (Sum.inr ()))
noncomputable def s_l1Same_l0 (a : List Int) (b : List Int) (v : Int) : Option (Unit ⊕ Unit) := itO (fun v => s_l1Same_l0_S a b v) v
noncomputable def s_l1Same (a : List Int) (b : List Int) : Option (Bool) :=
  if (a.length : Int) = (b.length : Int) then
    (s_l1Same_l0 a b 0).bind fun r3_ =>
    match r3_ with
    | .inl q3_ =>
      some false
    | .inr q3_ =>
      some true
  else
    some false
/-- spec.l1Same -/
def k84_l0b : SC :=
  .seq
    (.ops [
      ⟨(some 14), (Op.binOp BinOp.lss 3 (Operand.tmp 13) (Operand.tmp 12) 3), 0, none⟩])
    (.seq
      (.cond (Operand.tmp 14)
        .skip
        (.exit 0))
      (.seq
        (.block 1
          (.seq
            (.ops [
              ⟨(some 15), (Op.move (Operand.tmp 13)), 3, none⟩,
              ⟨(some 5), (Op.assign (Operand.tmp 15)), 3, none⟩])
            (.seq
              (.draws [
                (⟨[16, 0, 0], [16, 17, 18, 19, 20, 21, 22, 23, 24], [16]⟩, ⟨(some 16), (Op.move (Operand.tmp 0)), 25, none⟩),
                (⟨[17, 5, 5], [16, 17, 18, 19, 20, 21, 22, 23, 24], [17]⟩, ⟨(some 17), (Op.move (Operand.tmp 5)), 3, none⟩),
                (⟨[18, 16, 17, 0, 5], [16, 17, 18, 19, 20, 21, 22, 23, 24], [18]⟩, ⟨(some 18), (Op.indexAddr 25 (Operand.tmp 16) (Operand.tmp 17)), 0, none⟩),
                (⟨[19, 18, 0], [16, 17, 18, 19, 20, 21, 22, 23, 24], [19]⟩, ⟨(some 19), (Op.load 3 (Operand.tmp 18)), 3, none⟩),
                (⟨[20, 1, 1], [16, 17, 18, 19, 20, 21, 22, 23, 24], [20]⟩, ⟨(some 20), (Op.move (Operand.tmp 1)), 25, none⟩),
                (⟨[21, 5, 5], [16, 17, 18, 19, 20, 21, 22, 23, 24], [21]⟩, ⟨(some 21), (Op.move (Operand.tmp 5)), 3, none⟩),
                (⟨[22, 20, 21, 1, 5], [16, 17, 18, 19, 20, 21, 22, 23, 24], [22]⟩, ⟨(some 22), (Op.indexAddr 25 (Operand.tmp 20) (Operand.tmp 21)), 0, none⟩),
                (⟨[23, 22, 1], [16, 17, 18, 19, 20, 21, 22, 23, 24], [23]⟩, ⟨(some 23), (Op.load 3 (Operand.tmp 22)), 3, none⟩),
                (⟨[24, 19, 23, 0, 1], [16, 17, 18, 19, 20, 21, 22, 23, 24], [24]⟩, ⟨(some 24), (Op.binOp BinOp.neq 3 (Operand.tmp 19) (Operand.tmp 23) 3), 4, none⟩)])
              (.cond (Operand.tmp 24)
                (.seq
                  (.ops [
                    ⟨(some 4), (Op.assign (Operand.const (Value.bool false))), 4, none⟩])
                  .ret)
                .skip))))
        (.ops [
          ⟨(some 25), (Op.binOp BinOp.add 3 (Operand.tmp 13) (Operand.const (Value.int IntKind.i64 1)) 3), 3, none⟩,
          ⟨(some 13), (Op.move (Operand.tmp 25)), 3, none⟩])))
def k84_l0 : SC := .loop k84_l0b
def k84 : SC :=
  .seq
    (.ops [
      ⟨(some 4), (Op.assign (Operand.const (Value.bool false))), 4, none⟩])
    (.seq
      (.seq
        (.ops [
          ⟨(some 6), (Op.move (Operand.tmp 0)), 25, none⟩,
          ⟨(some 7), (Op.call { callee := (Callee.builtin Builtin.len), args := #[(Operand.tmp 6)], argTypes := #[25] }), 3, none⟩,
          ⟨(some 8), (Op.move (Operand.tmp 1)), 25, none⟩,
          ⟨(some 9), (Op.call { callee := (Callee.builtin Builtin.len), args := #[(Operand.tmp 8)], argTypes := #[25] }), 3, none⟩,
          ⟨(some 10), (Op.binOp BinOp.neq 3 (Operand.tmp 7) (Operand.tmp 9) 3), 4, none⟩])
        (.cond (Operand.tmp 10)
          (.seq
            (.ops [
              ⟨(some 4), (Op.assign (Operand.const (Value.bool false))), 4, none⟩])
            .ret)
          .skip))
      (.seq
        (.seq
          (.ops [
            ⟨(some 11), (Op.move (Operand.tmp 0)), 25, none⟩,
            ⟨(some 12), (Op.call { callee := (Callee.builtin Builtin.len), args := #[(Operand.tmp 11)], argTypes := #[25] }), 3, none⟩,
            ⟨(some 13), (Op.move (Operand.const (Value.int IntKind.i64 0))), 3, none⟩])
          (.block 0
            k84_l0))
        (.seq
          (.ops [
            ⟨(some 4), (Op.assign (Operand.const (Value.bool true))), 4, none⟩])
          .ret)))
theorem slim84 : Try.f84.body.map (slim lends) = some k84 := by kernel_rfl
theorem ok84 : fnOk Try.f84 2 = true := by kernel_rfl
theorem c84 {a l : List D} {r : D × List D} (h : wpD Y.env k84 (fin tys l.length [ResultVar.tmp 4] r) (entry a l)) (ha : a.length = 2) : Y.call 84 a l = some r :=
  call_slim (Y := Y) rfl Try.func84 (ha ▸ ok84) slim84 h
def s_l1Same_l0_M (a : List Int) (b : List Int) (t13_ : Int) (s : St) : Prop := s.v 0 = D.sl 3 (lst (D.int .i64) a) ∧ s.v 1 = D.sl 3 (lst (D.int .i64) b) ∧ s.v 12 = D.int .i64 (a.length : Int) ∧ s.v 13 = D.int .i64 t13_
def s_l1Same_l0_X (a : List Int) (b : List Int) (r : Unit ⊕ Unit) (ex : Ex) (s : St) : Prop := match r with
  | .inl q => ex = .ret ∧ s.v 4 = D.bool false
  | .inr q => ex = .exit 0
theorem s_l1Same_l0_wp (a : List Int) (b : List Int) {v : Int} {s : St} {r : Unit ⊕ Unit} (h : s_l1Same_l0 a b v = some r) (hM : s_l1Same_l0_M a b v s) : wpD Y.env k84_l0 (s_l1Same_l0_X a b r) s := by
  unfold s_l1Same_l0 at h
  refine wd_itO (c := k84_l0b) (fun v => s_l1Same_l0_S a b v) (fun v s => s_l1Same_l0_M a b v s) (s_l1Same_l0_X a b) ?_ h hM
  clear h hM s v r
  intro t13_ s o hM h
  unfold s_l1Same_l0_S at h
  unfold s_l1Same_l0_M at hM
  obtain ⟨m0, m1, m2, m3⟩ := hM
  unfold k84_l0b
  by_cases e2 : t13_ < (a.length : Int)
  · rw [if_pos e2] at h
    obtain ⟨e3, h⟩ := ckS h
    obtain ⟨e4, h⟩ := ckS h
    by_cases e5 : (a.getD t13_.toNat default) = (b.getD t13_.toNat default)
    · rw [if_pos e5] at h
      obtain rfl := Option.some.inj h
      simp (maxDischargeDepth := 9) only [↓xpre, xpost, xlst, xcore, yset, rg0, ↓reduceIte, Nat.reduceEqDiff, Nat.reduceLT, Nat.reduceLeDiff, Nat.reduceAdd, Nat.reduceMul, Nat.reduceMod, Nat.reduceSub, Nat.reduceBEq, Int.reduceLE, Int.reduceLT, Int.reduceEq, Int.reduceSub, Int.reduceAdd, Int.reduceToNat, Int.reduceNeg, m0, m1, m2, m3, e2, e3.1, e3.2, e4.1, e4.2, decide_eq_true e5, s_l1Same_l0_M, s_l1Same_l0_X, sxN, sxE, sxR] <;> (repeat' apply And.intro) <;> first | rfl | exact ⟨_, rfl⟩ | simp [lst]
    · rw [if_neg e5] at h
      obtain rfl := Option.some.inj h
      simp (maxDischargeDepth := 9) only [↓xpre, xpost, xlst, xcore, yset, rg0, ↓reduceIte, Nat.reduceEqDiff, Nat.reduceLT, Nat.reduceLeDiff, Nat.reduceAdd, Nat.reduceMul, Nat.reduceMod, Nat.reduceSub, Nat.reduceBEq, Int.reduceLE, Int.reduceLT, Int.reduceEq, Int.reduceSub, Int.reduceAdd, Int.reduceToNat, Int.reduceNeg, m0, m1, m2, m3, e2, e3.1, e3.2, e4.1, e4.2, e5, s_l1Same_l0_M, s_l1Same_l0_X, sxN, sxE, sxR] <;> (repeat' apply And.intro) <;> first | rfl | exact ⟨_, rfl⟩ | simp [lst]
  · rw [if_neg e2] at h
    obtain rfl := Option.some.inj h
    simp (maxDischargeDepth := 9) only [↓xpre, xpost, xlst, xcore, yset, rg0, ↓reduceIte, Nat.reduceEqDiff, Nat.reduceLT, Nat.reduceLeDiff, Nat.reduceAdd, Nat.reduceMul, Nat.reduceMod, Nat.reduceSub, Nat.reduceBEq, Int.reduceLE, Int.reduceLT, Int.reduceEq, Int.reduceSub, Int.reduceAdd, Int.reduceToNat, Int.reduceNeg, m0, m1, m2, m3, e2, s_l1Same_l0_M, s_l1Same_l0_X, sxN, sxE, sxR] <;> (repeat' apply And.intro) <;> first | rfl | exact ⟨_, rfl⟩ | simp [lst]
theorem s_l1Same_call (a : List Int) (b : List Int) {r : Bool} (h : s_l1Same a b = some r) : Y.call 84 [D.sl 3 (lst (D.int .i64) a), D.sl 3 (lst (D.int .i64) b)] [] = some (D.bool r, []) := by
  refine c84 ?_ rfl
  unfold k84
  unfold s_l1Same at h
  by_cases e1 : (a.length : Int) = (b.length : Int)
  · rw [if_pos e1] at h
    obtain ⟨r3_, hl3, h⟩ := bindS h
    try dsimp only at h
    simp (maxDischargeDepth := 9) only [↓xpre, xpost, xlst, xcore, yset, rg0, ↓reduceIte, Nat.reduceEqDiff, Nat.reduceLT, Nat.reduceLeDiff, Nat.reduceAdd, Nat.reduceMul, Nat.reduceMod, Nat.reduceSub, Nat.reduceBEq, Int.reduceLE, Int.reduceLT, Int.reduceEq, Int.reduceSub, Int.reduceAdd, Int.reduceToNat, Int.reduceNeg, decide_eq_true e1]
    refine wd_mono (s_l1Same_l0_wp a b hl3 ?_) ?_
    · simp (maxDischargeDepth := 9) only [↓xpre, xpost, xlst, xcore, yset, rg0, ↓reduceIte, Nat.reduceEqDiff, Nat.reduceLT, Nat.reduceLeDiff, Nat.reduceAdd, Nat.reduceMul, Nat.reduceMod, Nat.reduceSub, Nat.reduceBEq, Int.reduceLE, Int.reduceLT, Int.reduceEq, Int.reduceSub, Int.reduceAdd, Int.reduceToNat, Int.reduceNeg, decide_eq_true e1, s_l1Same_l0_M] <;> (repeat' apply And.intro) <;> first | rfl | exact ⟨_, rfl⟩ | simp [lst]
    · intro ex3 s3 hX3
      rcases r3_ with q3_ | q3_
      · unfold s_l1Same_l0_X at hX3
        dsimp only at hX3 h
        obtain ⟨rfl, n3_0⟩ := hX3
        obtain rfl := Option.some.inj h
        simp (maxDischargeDepth := 9) only [↓xpre, xpost, xlst, xcore, yset, rg0, ↓reduceIte, Nat.reduceEqDiff, Nat.reduceLT, Nat.reduceLeDiff, Nat.reduceAdd, Nat.reduceMul, Nat.reduceMod, Nat.reduceSub, Nat.reduceBEq, Int.reduceLE, Int.reduceLT, Int.reduceEq, Int.reduceSub, Int.reduceAdd, Int.reduceToNat, Int.reduceNeg, decide_eq_true e1, n3_0] <;> (repeat' apply And.intro) <;> first | rfl | exact ⟨_, rfl⟩ | simp [lst]
      · unfold s_l1Same_l0_X at hX3
        dsimp only at hX3 h
        obtain rfl := hX3
        obtain rfl := Option.some.inj h
        simp (maxDischargeDepth := 9) only [↓xpre, xpost, xlst, xcore, yset, rg0, ↓reduceIte, Nat.reduceEqDiff, Nat.reduceLT, Nat.reduceLeDiff, Nat.reduceAdd, Nat.reduceMul, Nat.reduceMod, Nat.reduceSub, Nat.reduceBEq, Int.reduceLE, Int.reduceLT, Int.reduceEq, Int.reduceSub, Int.reduceAdd, Int.reduceToNat, Int.reduceNeg, decide_eq_true e1] <;> (repeat' apply And.intro) <;> first | rfl | exact ⟨_, rfl⟩ | simp [lst]
  · rw [if_neg e1] at h
    obtain rfl := Option.some.inj h
    simp (maxDischargeDepth := 9) only [↓xpre, xpost, xlst, xcore, yset, rg0, ↓reduceIte, Nat.reduceEqDiff, Nat.reduceLT, Nat.reduceLeDiff, Nat.reduceAdd, Nat.reduceMul, Nat.reduceMod, Nat.reduceSub, Nat.reduceBEq, Int.reduceLE, Int.reduceLT, Int.reduceEq, Int.reduceSub, Int.reduceAdd, Int.reduceToNat, Int.reduceNeg, e1] <;> (repeat' apply And.intro) <;> first | rfl | exact ⟨_, rfl⟩ | simp [lst]

theorem s_l1Same_eq (a b : List Int) (ha : a.length < 1099511627776) : s_l1Same a b = some (decide (a = b)) := by
  unfold s_l1Same s_l1Same_l0
  by_cases hl : a.length = b.length
  · rw [if_pos (by omega)]
    have key := itO_all (fun v => s_l1Same_l0_S a b v) (fun i => (i : Int)) a.length (fun i => decide (a.getD i default = b.getD i default)) (.inl ()) (.inr ()) ?_ ?_
    · simp only [Int.natCast_zero] at key
      rw [key, all_same a b hl]
      by_cases he : a = b <;> simp [he]
    · intro i hi
      simp only [s_l1Same_l0_S]
      rw [if_pos (lt_nat hi), ckT (ix_nat hi), ckT (ix_nat (by omega)), Int.toNat_natCast, wrS i (by omega)] <;> simp only [decide_eq_true_eq]
    · simp only [s_l1Same_l0_S]
      rw [if_neg (not_lt_nat _)]
  · rw [if_neg (by omega)]
    have : ¬ a = b := fun e => hl (by rw [e])
    simp [this]
theorem s_l1Same_cl (a : List Int) (b : List Int) (h0 : a.length < 1099511627776) : Y.call 84 [D.sl 3 (lst (D.int .i64) a), D.sl 3 (lst (D.int .i64) b)] [] = some (D.bool (decide (a = b)), []) := s_l1Same_call a b (s_l1Same_eq a b h0)
noncomputable def s_prInsert_l0_S (l : List (List Int)) (x_ : List Int) (k : Int) : Option ((Int) ⊕ (Int)) :=
  if k < (l.length : Int) then
    ck (0 ≤ k ∧ k.toNat < l.length) <|
    ck ((l.getD k.toNat default).length < 1099511627776) <|
    ck ((l.getD k.toNat default).length = x_.length) <|
    ck (smallI (l.getD k.toNat default) = true) <|
    ck (smallI x_ = true) <|
    if (cmpL (l.getD k.toNat default) x_) < 0 then
      some (Sum.inl (IntKind.i64.wrap (k + 1)))
    else
      some (Sum.inr k)
  else
    some (Sum.inr k)
noncomputable def s_prInsert_l0 (l : List (List Int)) (x_ : List Int) (v : Int) : Option (Int) := itO (fun v => s_prInsert_l0_S l x_ v) v
noncomputable def s_prInsert (l : List (List Int)) (x_ : List Int) : Option (((List (List Int))) ⊕ ((List (List Int)))) :=
  (s_prInsert_l0 l x_ 0).bind fun r2_ =>
  if r2_ < (l.length : Int) then
    ck (0 ≤ r2_ ∧ r2_.toNat < l.length) <|
    ck ((l.getD r2_.toNat default).length < 1099511627776) <|
    if (decide ((l.getD r2_.toNat default) = x_)) = true then
      some (Sum.inl l)
    else
      ck (0 ≤ r2_) <|
      ck (r2_.toNat ≤ l.length) <|
      ck (0 + ((l.take r2_.toNat).drop 0).length < 1099511627776) <|
      ck (((l.take r2_.toNat).drop 0).length + 1 < 1099511627776) <|
      ck ((((l.take r2_.toNat).drop 0) ++ [x_]).length + ((l.take l.length).drop r2_.toNat).length < 1099511627776) <|
      some (Sum.inr ((((l.take r2_.toNat).drop 0) ++ [x_]) ++ ((l.take l.length).drop r2_.toNat)))
  else
    ck (0 ≤ r2_) <|
    ck (r2_.toNat ≤ l.length) <|
    ck (0 + ((l.take r2_.toNat).drop 0).length < 1099511627776) <|
    ck (((l.take r2_.toNat).drop 0).length + 1 < 1099511627776) <|
    ck ((((l.take r2_.toNat).drop 0) ++ [x_]).length + ((l.take l.length).drop r2_.toNat).length < 1099511627776) <|
    some (Sum.inr ((((l.take r2_.toNat).drop 0) ++ [x_]) ++ ((l.take l.length).drop r2_.toNat)))
/-- spec.prInsert -/
def k66_l0b : SC :=
  .seq
    (.seq
      (.ops [
        ⟨(some 7), (Op.move (Operand.tmp 5)), 3, none⟩,
        ⟨(some 8), (Op.move (Operand.tmp 0)), 34, none⟩,
        ⟨(some 9), (Op.call { callee := (Callee.builtin Builtin.len), args := #[(Operand.tmp 8)], argTypes := #[34] }), 3, none⟩,
        ⟨(some 10), (Op.binOp BinOp.lss 3 (Operand.tmp 7) (Operand.tmp 9) 3), 4, none⟩,
        ⟨(some 11), (Op.move (Operand.tmp 10)), 4, none⟩,
        ⟨(some 12), (Op.move (Operand.tmp 0)), 34, (some (some 11, true))⟩,
        ⟨(some 13), (Op.move (Operand.tmp 5)), 3, (some (some 11, true))⟩,
        ⟨(some 14), (Op.indexAddr 34 (Operand.tmp 12) (Operand.tmp 13)), 0, (some (some 11, true))⟩,
        ⟨(some 15), (Op.load 25 (Operand.tmp 14)), 25, (some (some 11, true))⟩,
        ⟨(some 16), (Op.move (Operand.tmp 1)), 25, (some (some 11, true))⟩,
        ⟨(some 17), (Op.call { callee := (Callee.value (Operand.func 83)), args := #[(Operand.tmp 15), (Operand.tmp 16)], argTypes := #[25, 25] }), 3, (some (some 11, true))⟩,
        ⟨(some 18), (Op.binOp BinOp.lss 3 (Operand.tmp 17) (Operand.const (Value.int IntKind.i64 0)) 3), 4, (some (some 11, true))⟩,
        ⟨(some 19), (Op.pick (Operand.tmp 11) (Operand.tmp 18) (Operand.const (Value.bool false))), 4, none⟩])
      (.cond (Operand.tmp 19)
        .skip
        (.exit 0)))
    (.block 1
      (.ops [
        ⟨(some 20), (Op.move (Operand.tmp 5)), 3, none⟩,
        ⟨(some 21), (Op.binOp BinOp.add 3 (Operand.tmp 20) (Operand.const (Value.int IntKind.i64 1)) 3), 3, none⟩,
        ⟨(some 5), (Op.assign (Operand.tmp 21)), 3, none⟩]))
def k66_l0 : SC := .loop k66_l0b
def k66 : SC :=
  .seq
    (.ops [
      ⟨(some 4), (Op.assign (Operand.const (Value.slice none 0 0))), 34, none⟩])
    (.seq
      (.ops [
        ⟨(some 5), (Op.assign (Operand.const (Value.int IntKind.i64 0))), 3, none⟩])
      (.seq
        (.block 0
          k66_l0)
        (.seq
          (.seq
            (.ops [
              ⟨(some 22), (Op.move (Operand.tmp 5)), 3, none⟩,
              ⟨(some 23), (Op.move (Operand.tmp 0)), 34, none⟩,
              ⟨(some 24), (Op.call { callee := (Callee.builtin Builtin.len), args := #[(Operand.tmp 23)], argTypes := #[34] }), 3, none⟩,
              ⟨(some 25), (Op.binOp BinOp.lss 3 (Operand.tmp 22) (Operand.tmp 24) 3), 4, none⟩,
              ⟨(some 26), (Op.move (Operand.tmp 25)), 4, none⟩,
              ⟨(some 27), (Op.move (Operand.tmp 0)), 34, (some (some 26, true))⟩,
              ⟨(some 28), (Op.move (Operand.tmp 5)), 3, (some (some 26, true))⟩,
              ⟨(some 29), (Op.indexAddr 34 (Operand.tmp 27) (Operand.tmp 28)), 0, (some (some 26, true))⟩,
              ⟨(some 30), (Op.load 25 (Operand.tmp 29)), 25, (some (some 26, true))⟩,
              ⟨(some 31), (Op.move (Operand.tmp 1)), 25, (some (some 26, true))⟩,
              ⟨(some 32), (Op.call { callee := (Callee.value (Operand.func 84)), args := #[(Operand.tmp 30), (Operand.tmp 31)], argTypes := #[25, 25] }), 4, (some (some 26, true))⟩,
              ⟨(some 33), (Op.pick (Operand.tmp 26) (Operand.tmp 32) (Operand.const (Value.bool false))), 4, none⟩])
            (.cond (Operand.tmp 33)
              (.seq
                (.ops [
                  ⟨(some 34), (Op.move (Operand.tmp 0)), 34, none⟩,
                  ⟨(some 4), (Op.assign (Operand.tmp 34)), 34, none⟩])
                .ret)
              .skip))
          (.seq
            (.ops [
              ⟨(some 35), (Op.buildSlice 34 0 #[]), 34, none⟩,
              ⟨(some 36), (Op.move (Operand.tmp 0)), 34, none⟩,
              ⟨(some 37), (Op.move (Operand.tmp 5)), 3, none⟩,
              ⟨(some 38), (Op.slice 34 (Operand.tmp 36) none (some (Operand.tmp 37)) none), 34, none⟩,
              ⟨(some 39), (Op.call { callee := (Callee.builtin Builtin.append), args := #[(Operand.tmp 35), (Operand.tmp 38)], argTypes := #[34, 34] }), 34, none⟩,
              ⟨(some 6), (Op.assign (Operand.tmp 39)), 34, none⟩])
            (.seq
              (.ops [
                ⟨(some 40), (Op.move (Operand.tmp 6)), 34, none⟩,
                ⟨(some 41), (Op.move (Operand.tmp 1)), 25, none⟩,
                ⟨(some 42), (Op.buildSlice 34 1 #[(0, (Operand.tmp 41))]), 34, none⟩,
                ⟨(some 43), (Op.call { callee := (Callee.builtin Builtin.append), args := #[(Operand.tmp 40), (Operand.tmp 42)], argTypes := #[34, 34] }), 34, none⟩,
                ⟨(some 6), (Op.assign (Operand.tmp 43)), 34, none⟩])
              (.seq
                (.ops [
                  ⟨(some 44), (Op.move (Operand.tmp 6)), 34, none⟩,
                  ⟨(some 45), (Op.move (Operand.tmp 0)), 34, none⟩,
                  ⟨(some 46), (Op.move (Operand.tmp 5)), 3, none⟩,
                  ⟨(some 47), (Op.slice 34 (Operand.tmp 45) (some (Operand.tmp 46)) none none), 34, none⟩,
                  ⟨(some 48), (Op.call { callee := (Callee.builtin Builtin.append), args := #[(Operand.tmp 44), (Operand.tmp 47)], argTypes := #[34, 34] }), 34, none⟩,
                  ⟨(some 4), (Op.assign (Operand.tmp 48)), 34, none⟩])
                .ret))))))
theorem slim66 : Try.f66.body.map (slim lends) = some k66 := by kernel_rfl
theorem ok66 : fnOk Try.f66 2 = true := by kernel_rfl
theorem c66 {a l : List D} {r : D × List D} (h : wpD Y.env k66 (fin tys l.length [ResultVar.tmp 4] r) (entry a l)) (ha : a.length = 2) : Y.call 66 a l = some r :=
  call_slim (Y := Y) rfl Try.func66 (ha ▸ ok66) slim66 h
def s_prInsert_l0_M (l : List (List Int)) (x_ : List Int) (k : Int) (s : St) : Prop := s.v 0 = D.sl 25 (lst (fun x => D.sl 3 (lst (D.int .i64) x)) l) ∧ s.v 1 = D.sl 3 (lst (D.int .i64) x_) ∧ s.v 5 = D.int .i64 k
def s_prInsert_l0_X (l : List (List Int)) (x_ : List Int) (r : Int) (ex : Ex) (s : St) : Prop := ex = .exit 0 ∧ s.v 0 = D.sl 25 (lst (fun x => D.sl 3 (lst (D.int .i64) x)) l) ∧ s.v 1 = D.sl 3 (lst (D.int .i64) x_) ∧ s.v 5 = D.int .i64 r
theorem s_prInsert_l0_wp (l : List (List Int)) (x_ : List Int) {v : Int} {s : St} {r : Int} (h : s_prInsert_l0 l x_ v = some r) (hM : s_prInsert_l0_M l x_ v s) : wpD Y.env k66_l0 (s_prInsert_l0_X l x_ r) s := by
  unfold s_prInsert_l0 at h
  refine wd_itO (c := k66_l0b) (fun v => s_prInsert_l0_S l x_ v) (fun v s => s_prInsert_l0_M l x_ v s) (s_prInsert_l0_X l x_) ?_ h hM
  clear h hM s v r
  intro k s o hM h
  unfold s_prInsert_l0_S at h
  unfold s_prInsert_l0_M at hM
  obtain ⟨m0, m1, m2⟩ := hM
  unfold k66_l0b
  by_cases e1 : k < (l.length : Int)
  · rw [if_pos e1] at h
    obtain ⟨e2, h⟩ := ckS h
    obtain ⟨e3, h⟩ := ckS h
    obtain ⟨e4, h⟩ := ckS h
    obtain ⟨e5, h⟩ := ckS h
    obtain ⟨e6, h⟩ := ckS h
    have c7 := s_prOrder_cl (l.getD k.toNat default) x_ e3 e4 e5 e6
    by_cases e8 : (cmpL (l.getD k.toNat default) x_) < 0
    · rw [if_pos e8] at h
      obtain rfl := Option.some.inj h
      simp (maxDischargeDepth := 9) only [↓xpre, xpost, xlst, xcore, yset, rg0, ↓reduceIte, Nat.reduceEqDiff, Nat.reduceLT, Nat.reduceLeDiff, Nat.reduceAdd, Nat.reduceMul, Nat.reduceMod, Nat.reduceSub, Nat.reduceBEq, Int.reduceLE, Int.reduceLT, Int.reduceEq, Int.reduceSub, Int.reduceAdd, Int.reduceToNat, Int.reduceNeg, m0, m1, m2, e1, e2.1, e2.2, e3, decide_eq_true e4, e5, e6, c7, e8, s_prInsert_l0_M, s_prInsert_l0_X, sxN, sxE, sxR] <;> (repeat' apply And.intro) <;> first | rfl | exact ⟨_, rfl⟩ | simp [lst]
    · rw [if_neg e8] at h
      obtain rfl := Option.some.inj h
      simp (maxDischargeDepth := 9) only [↓xpre, xpost, xlst, xcore, yset, rg0, ↓reduceIte, Nat.reduceEqDiff, Nat.reduceLT, Nat.reduceLeDiff, Nat.reduceAdd, Nat.reduceMul, Nat.reduceMod, Nat.reduceSub, Nat.reduceBEq, Int.reduceLE, Int.reduceLT, Int.reduceEq, Int.reduceSub, Int.reduceAdd, Int.reduceToNat, Int.reduceNeg, m0, m1, m2, e1, e2.1, e2.2, e3, decide_eq_true e4, e5, e6, c7, e8, s_prInsert_l0_M, s_prInsert_l0_X, sxN, sxE, sxR] <;> (repeat' apply And.intro) <;> first | rfl | exact ⟨_, rfl⟩ | simp [lst]
  · rw [if_neg e1] at h
    obtain rfl := Option.some.inj h
    simp (maxDischargeDepth := 9) only [↓xpre, xpost, xlst, xcore, yset, rg0, ↓reduceIte, Nat.reduceEqDiff, Nat.reduceLT, Nat.reduceLeDiff, Nat.reduceAdd, Nat.reduceMul, Nat.reduceMod, Nat.reduceSub, Nat.reduceBEq, Int.reduceLE, Int.reduceLT, Int.reduceEq, Int.reduceSub, Int.reduceAdd, Int.reduceToNat, Int.reduceNeg, m0, m1, m2, e1, s_prInsert_l0_M, s_prInsert_l0_X, sxN, sxE, sxR] <;> (repeat' apply And.intro) <;> first | rfl | exact ⟨_, rfl⟩ | simp [lst]
theorem s_prInsert_call (l : List (List Int)) (x_ : List Int) {r : ((List (List Int))) ⊕ ((List (List Int)))} (h : s_prInsert l x_ = some r) : Y.call 66 [D.sl 25 (lst (fun x => D.sl 3 (lst (D.int .i64) x)) l), D.sl 3 (lst (D.int .i64) x_)] [] = some (match r with | .inl q => (D.sl 25 (lst (fun x => D.sl 3 (lst (D.int .i64) x)) q), []) | .inr q => (D.own 25 (lst (fun x => D.sl 3 (lst (D.int .i64) x)) q), [])) := by
  refine c66 ?_ rfl
  unfold k66
  unfold s_prInsert at h
  obtain ⟨r2_, hl2, h⟩ := bindS h
  try dsimp only at h
  simp (maxDischargeDepth := 9) only [↓xpre, xpost, xlst, xcore, yset, rg0, ↓reduceIte, Nat.reduceEqDiff, Nat.reduceLT, Nat.reduceLeDiff, Nat.reduceAdd, Nat.reduceMul, Nat.reduceMod, Nat.reduceSub, Nat.reduceBEq, Int.reduceLE, Int.reduceLT, Int.reduceEq, Int.reduceSub, Int.reduceAdd, Int.reduceToNat, Int.reduceNeg]
  refine wd_mono (s_prInsert_l0_wp l x_ hl2 ?_) ?_
  · simp (maxDischargeDepth := 9) only [↓xpre, xpost, xlst, xcore, yset, rg0, ↓reduceIte, Nat.reduceEqDiff, Nat.reduceLT, Nat.reduceLeDiff, Nat.reduceAdd, Nat.reduceMul, Nat.reduceMod, Nat.reduceSub, Nat.reduceBEq, Int.reduceLE, Int.reduceLT, Int.reduceEq, Int.reduceSub, Int.reduceAdd, Int.reduceToNat, Int.reduceNeg, s_prInsert_l0_M] <;> (repeat' apply And.intro) <;> first | rfl | exact ⟨_, rfl⟩ | simp [lst]
  · intro ex2 s2 hX2
    unfold s_prInsert_l0_X at hX2
    obtain ⟨rfl, n2_0, n2_1, n2_2⟩ := hX2
    by_cases e3 : r2_ < (l.length : Int)
    · rw [if_pos e3] at h
      obtain ⟨e4, h⟩ := ckS h
      obtain ⟨e5, h⟩ := ckS h
      have c6 := s_l1Same_cl (l.getD r2_.toNat default) x_ e5
      by_cases e7 : (decide ((l.getD r2_.toNat default) = x_)) = true
      · rw [if_pos e7] at h
        obtain rfl := Option.some.inj h
        simp (maxDischargeDepth := 9) only [↓xpre, xpost, xlst, xcore, yset, rg0, ↓reduceIte, Nat.reduceEqDiff, Nat.reduceLT, Nat.reduceLeDiff, Nat.reduceAdd, Nat.reduceMul, Nat.reduceMod, Nat.reduceSub, Nat.reduceBEq, Int.reduceLE, Int.reduceLT, Int.reduceEq, Int.reduceSub, Int.reduceAdd, Int.reduceToNat, Int.reduceNeg, n2_0, n2_1, n2_2, e3, e4.1, e4.2, e5, c6, e7] <;> (repeat' apply And.intro) <;> first | rfl | exact ⟨_, rfl⟩ | simp [lst]
      · rw [if_neg e7] at h
        have e7f : (decide ((l.getD r2_.toNat default) = x_)) = false := Bool.eq_false_iff.mpr e7
        obtain ⟨e8, h⟩ := ckS h
        obtain ⟨e9, h⟩ := ckS h
        obtain ⟨e10, h⟩ := ckS h
        obtain ⟨e11, h⟩ := ckS h
        obtain ⟨e12, h⟩ := ckS h
        obtain rfl := Option.some.inj h
        simp (maxDischargeDepth := 9) only [↓xpre, xpost, xlst, xcore, yset, rg0, ↓reduceIte, Nat.reduceEqDiff, Nat.reduceLT, Nat.reduceLeDiff, Nat.reduceAdd, Nat.reduceMul, Nat.reduceMod, Nat.reduceSub, Nat.reduceBEq, Int.reduceLE, Int.reduceLT, Int.reduceEq, Int.reduceSub, Int.reduceAdd, Int.reduceToNat, Int.reduceNeg, n2_0, n2_1, n2_2, e3, e4.1, e4.2, e5, c6, e7f, e8, e9, e10, e11, e12] <;> (repeat' apply And.intro) <;> first | rfl | exact ⟨_, rfl⟩ | simp [lst]
    · rw [if_neg e3] at h
      obtain ⟨e4, h⟩ := ckS h
      obtain ⟨e5, h⟩ := ckS h
      obtain ⟨e6, h⟩ := ckS h
      obtain ⟨e7, h⟩ := ckS h
      obtain ⟨e8, h⟩ := ckS h
      obtain rfl := Option.some.inj h
      simp (maxDischargeDepth := 9) only [↓xpre, xpost, xlst, xcore, yset, rg0, ↓reduceIte, Nat.reduceEqDiff, Nat.reduceLT, Nat.reduceLeDiff, Nat.reduceAdd, Nat.reduceMul, Nat.reduceMod, Nat.reduceSub, Nat.reduceBEq, Int.reduceLE, Int.reduceLT, Int.reduceEq, Int.reduceSub, Int.reduceAdd, Int.reduceToNat, Int.reduceNeg, n2_0, n2_1, n2_2, e3, e4, e5, e6, e7, e8] <;> (repeat' apply And.intro) <;> first | rfl | exact ⟨_, rfl⟩ | simp [lst]

/-- The list x stands ahead of all in l (seen from the first one). -/
def aheadB : List (List Int) → List Int → Bool
  | [], _ => true
  | y :: _, x => ((decide (y.length < 1099511627776) && decide (y.length = x.length)) && (smallI y && smallI x)) && (decide (¬ cmpL y x < 0) && decide (¬ y = x))
theorem s_prInsert_eq (l : List (List Int)) (x : List Int) (h0 : l.length < 1000) (h2 : aheadB l x = true) : s_prInsert l x = some (.inr (x :: l)) := by
  unfold s_prInsert s_prInsert_l0
  have hl := h0
  cases l with
  | nil =>
    rw [itO_inr (r := (0 : Int))]
    · simp only [Option.bind_some]
      rw [if_neg (by simp), ckT (by decide), ckT (by simp), ckT (by simp), ckT (by simp), ckT (by simp)]
      simp
    · simp only [s_prInsert_l0_S]
      rw [if_neg (by simp)]
  | cons y r =>
    simp only [aheadB, Bool.and_eq_true, decide_eq_true_eq] at h2
    obtain ⟨⟨⟨g1, g2⟩, g3, g4⟩, g5, g6⟩ := h2
    simp only [List.length_cons] at hl
    rw [itO_inr (r := (0 : Int))]
    · simp only [Option.bind_some]
      have e : (y :: r).getD (0 : Int).toNat default = y := rfl
      rw [if_pos (by simp), ckT (by simp), e, ckT g1]
      have : decide (y = x) = false := decide_eq_false g6
      rw [this, if_neg (by simp), ckT (by decide), ckT (by simp), ckT (by simp), ckT (by simp), ckT (by simp; omega)]
      simp
    · simp only [s_prInsert_l0_S]
      have e : (y :: r).getD (0 : Int).toNat default = y := rfl
      rw [if_pos (by simp), ckT (by simp), e, ckT g1, ckT g2, ckT g3, ckT g4, if_neg g5]
theorem s_prInsert_cl (l : List (List Int)) (x_ : List Int) (h0 : l.length < 1000) (h1 : aheadB l x_ = true) : Y.call 66 [D.sl 25 (lst (fun x => D.sl 3 (lst (D.int .i64) x)) l), D.sl 3 (lst (D.int .i64) x_)] [] = some (D.own 25 (lst (fun x => D.sl 3 (lst (D.int .i64) x)) (x_ :: l)), []) := s_prInsert_call l x_ (s_prInsert_eq l x_ h0 h1)
noncomputable def s_vaIs (is : Bool) : Option (Int) :=
  if is = true then
    some 1
  else
    some 0
/-- spec.vaIs -/
def k65 : SC :=
  .seq
    (.ops [
      ⟨(some 2), (Op.assign (Operand.const (Value.int IntKind.i64 0))), 3, none⟩])
    (.seq
      (.seq
        (.ops [
          ⟨(some 3), (Op.move (Operand.tmp 0)), 4, none⟩])
        (.cond (Operand.tmp 3)
          (.seq
            (.ops [
              ⟨(some 2), (Op.assign (Operand.const (Value.int IntKind.i64 1))), 3, none⟩])
            .ret)
          .skip))
      (.seq
        (.ops [
          ⟨(some 2), (Op.assign (Operand.const (Value.int IntKind.i64 0))), 3, none⟩])
        .ret))
theorem slim65 : Try.f65.body.map (slim lends) = some k65 := by kernel_rfl
theorem ok65 : fnOk Try.f65 1 = true := by kernel_rfl
theorem c65 {a l : List D} {r : D × List D} (h : wpD Y.env k65 (fin tys l.length [ResultVar.tmp 2] r) (entry a l)) (ha : a.length = 1) : Y.call 65 a l = some r :=
  call_slim (Y := Y) rfl Try.func65 (ha ▸ ok65) slim65 h
theorem s_vaIs_call (is : Bool) {r : Int} (h : s_vaIs is = some r) : Y.call 65 [D.bool is] [] = some (D.int .i64 r, []) := by
  refine c65 ?_ rfl
  unfold k65
  unfold s_vaIs at h
  by_cases e1 : is = true
  · rw [if_pos e1] at h
    obtain rfl := Option.some.inj h
    simp (maxDischargeDepth := 9) only [↓xpre, xpost, xlst, xcore, yset, rg0, ↓reduceIte, Nat.reduceEqDiff, Nat.reduceLT, Nat.reduceLeDiff, Nat.reduceAdd, Nat.reduceMul, Nat.reduceMod, Nat.reduceSub, Nat.reduceBEq, Int.reduceLE, Int.reduceLT, Int.reduceEq, Int.reduceSub, Int.reduceAdd, Int.reduceToNat, Int.reduceNeg, e1] <;> (repeat' apply And.intro) <;> first | rfl | exact ⟨_, rfl⟩ | simp [lst]
  · rw [if_neg e1] at h
    have e1f : is = false := Bool.eq_false_iff.mpr e1
    obtain rfl := Option.some.inj h
    simp (maxDischargeDepth := 9) only [↓xpre, xpost, xlst, xcore, yset, rg0, ↓reduceIte, Nat.reduceEqDiff, Nat.reduceLT, Nat.reduceLeDiff, Nat.reduceAdd, Nat.reduceMul, Nat.reduceMod, Nat.reduceSub, Nat.reduceBEq, Int.reduceLE, Int.reduceLT, Int.reduceEq, Int.reduceSub, Int.reduceAdd, Int.reduceToNat, Int.reduceNeg, e1f] <;> (repeat' apply And.intro) <;> first | rfl | exact ⟨_, rfl⟩ | simp [lst]

noncomputable def s_SinklessProblem_l0_S (d : Int) (p_2 : List (List Int)) (k : Int) (x_ : List Int) (i : Int) : Option (((List Int) × Int) ⊕ ((List Int))) :=
  if i < d then
    (s_vaIs (decide (k ≤ i))).bind fun r5_ =>
    ck (x_.length + 1 < 1099511627776) <|
    some (Sum.inl ((x_ ++ [r5_]), IntKind.i64.wrap (i + 1)))
  else
    some (Sum.inr x_)
noncomputable def s_SinklessProblem_l0 (d : Int) (p_2 : List (List Int)) (k : Int) (v : (List Int) × Int) : Option ((List Int)) := itO (fun v => s_SinklessProblem_l0_S d p_2 k v.1 v.2) v
noncomputable def s_SinklessProblem_l1_S (d : Int) (p_2 : List (List Int)) (k : Int) : Option (((List (List Int)) × Int) ⊕ ((List (List Int)))) :=
  if k ≤ d then
    (s_SinklessProblem_l0 d p_2 k ([], 0)).bind fun r5_ =>
    ck (p_2.length < 1000) <|
    ck (aheadB p_2 r5_ = true) <|
    some (Sum.inl ((r5_ :: p_2), IntKind.i64.wrap (k + 1)))
  else
    some (Sum.inr p_2)
noncomputable def s_SinklessProblem_l1 (d : Int) (v : (List (List Int)) × Int) : Option ((List (List Int))) := itO (fun v => s_SinklessProblem_l1_S d v.1 v.2) v
noncomputable def s_SinklessProblem (d : Int) : Option (Int × Int × (List (List Int)) × (List (List Int)) × Bool) :=
  if (inR d (1 : Int) (4 : Int)) = true then
    (s_SinklessProblem_l1 d ([], 1)).bind fun r4_ =>
    some (2, d, r4_, [[0, 1]], true)
  else
    some (0, 0, [], [], false)
/-- spec.SinklessProblem -/
def k39_l0b : SC :=
  .seq
    (.seq
      (.ops [
        ⟨(some 21), (Op.move (Operand.tmp 7)), 3, none⟩,
        ⟨(some 22), (Op.move (Operand.tmp 0)), 3, none⟩,
        ⟨(some 23), (Op.binOp BinOp.lss 3 (Operand.tmp 21) (Operand.tmp 22) 3), 4, none⟩])
      (.cond (Operand.tmp 23)
        .skip
        (.exit 2)))
    (.seq
      (.block 3
        (.ops [
          ⟨(some 26), (Op.move (Operand.tmp 6)), 25, none⟩,
          ⟨(some 27), (Op.move (Operand.tmp 7)), 3, none⟩,
          ⟨(some 28), (Op.move (Operand.tmp 5)), 3, none⟩,
          ⟨(some 29), (Op.binOp BinOp.geq 3 (Operand.tmp 27) (Operand.tmp 28) 3), 4, none⟩,
          ⟨(some 30), (Op.call { callee := (Callee.value (Operand.func 65)), args := #[(Operand.tmp 29)], argTypes := #[4] }), 3, none⟩,
          ⟨(some 31), (Op.buildSlice 25 1 #[(0, (Operand.tmp 30))]), 25, none⟩,
          ⟨(some 32), (Op.call { callee := (Callee.builtin Builtin.append), args := #[(Operand.tmp 26), (Operand.tmp 31)], argTypes := #[25, 25] }), 25, none⟩,
          ⟨(some 6), (Op.assign (Operand.tmp 32)), 25, none⟩]))
      (.ops [
        ⟨(some 24), (Op.move (Operand.tmp 7)), 3, none⟩,
        ⟨(some 25), (Op.binOp BinOp.add 3 (Operand.tmp 24) (Operand.const (Value.int IntKind.i64 1)) 3), 3, none⟩,
        ⟨(some 7), (Op.assign (Operand.tmp 25)), 3, none⟩]))
def k39_l0 : SC := .loop k39_l0b
def k39_l1b : SC :=
  .seq
    (.seq
      (.ops [
        ⟨(some 16), (Op.move (Operand.tmp 5)), 3, none⟩,
        ⟨(some 17), (Op.move (Operand.tmp 0)), 3, none⟩,
        ⟨(some 18), (Op.binOp BinOp.leq 3 (Operand.tmp 16) (Operand.tmp 17) 3), 4, none⟩])
      (.cond (Operand.tmp 18)
        .skip
        (.exit 0)))
    (.seq
      (.block 1
        (.seq
          (.ops [
            ⟨(some 6), (Op.assign (Operand.const (Value.slice none 0 0))), 25, none⟩])
          (.seq
            (.seq
              (.ops [
                ⟨(some 7), (Op.assign (Operand.const (Value.int IntKind.i64 0))), 3, none⟩])
              (.block 2
                k39_l0))
            (.ops [
              ⟨(some 33), (Op.fieldAddr 39 (Operand.tmp 4) 2), 0, none⟩,
              ⟨(some 34), (Op.load 34 (Operand.tmp 33)), 34, none⟩,
              ⟨(some 35), (Op.move (Operand.tmp 6)), 25, none⟩,
              ⟨(some 36), (Op.call { callee := (Callee.value (Operand.func 66)), args := #[(Operand.tmp 34), (Operand.tmp 35)], argTypes := #[34, 25] }), 34, none⟩,
              ⟨(some 37), (Op.fieldAddr 39 (Operand.tmp 4) 2), 0, none⟩,
              ⟨none, (Op.store 34 (Operand.tmp 37) (Operand.tmp 36)), 0, none⟩]))))
      (.ops [
        ⟨(some 19), (Op.move (Operand.tmp 5)), 3, none⟩,
        ⟨(some 20), (Op.binOp BinOp.add 3 (Operand.tmp 19) (Operand.const (Value.int IntKind.i64 1)) 3), 3, none⟩,
        ⟨(some 5), (Op.assign (Operand.tmp 20)), 3, none⟩]))
def k39_l1 : SC := .loop k39_l1b
def k39 : SC :=
  .seq
    (.ops [
      ⟨(some 2), (Op.alloc 39), 0, none⟩,
      ⟨(some 3), (Op.assign (Operand.const (Value.bool false))), 4, none⟩])
    (.seq
      (.seq
        (.ops [
          ⟨(some 8), (Op.move (Operand.tmp 0)), 3, none⟩,
          ⟨(some 9), (Op.call { callee := (Callee.value (Operand.func 50)), args := #[(Operand.tmp 8), (Operand.const (Value.int IntKind.i64 1)), (Operand.const (Value.int IntKind.i64 4))], argTypes := #[3, 3, 3] }), 4, none⟩,
          ⟨(some 10), (Op.unOp UnOp.not 4 (Operand.tmp 9)), 4, none⟩])
        (.cond (Operand.tmp 10)
          (.seq
            (.ops [
              ⟨(some 11), (Op.build 39 #[]), 39, none⟩,
              ⟨none, (Op.store 39 (Operand.tmp 2) (Operand.tmp 11)), 0, none⟩,
              ⟨(some 3), (Op.assign (Operand.const (Value.bool false))), 4, none⟩])
            .ret)
          .skip))
      (.seq
        (.ops [
          ⟨(some 12), (Op.move (Operand.tmp 0)), 3, none⟩,
          ⟨(some 13), (Op.buildSlice 25 2 #[(0, (Operand.const (Value.int IntKind.i64 0))), (1, (Operand.const (Value.int IntKind.i64 1)))]), 25, none⟩,
          ⟨(some 14), (Op.buildSlice 34 1 #[(0, (Operand.tmp 13))]), 34, none⟩,
          ⟨(some 15), (Op.build 39 #[(0, (Operand.const (Value.int IntKind.i64 2))), (1, (Operand.tmp 12)), (3, (Operand.tmp 14))]), 39, none⟩,
          ⟨(some 4), (Op.alloc 39), 0, none⟩,
          ⟨none, (Op.store 39 (Operand.tmp 4) (Operand.tmp 15)), 0, none⟩])
        (.seq
          (.seq
            (.ops [
              ⟨(some 5), (Op.assign (Operand.const (Value.int IntKind.i64 1))), 3, none⟩])
            (.block 0
              k39_l1))
          (.seq
            (.ops [
              ⟨(some 38), (Op.load 39 (Operand.tmp 4)), 39, none⟩,
              ⟨none, (Op.store 39 (Operand.tmp 2) (Operand.tmp 38)), 0, none⟩,
              ⟨(some 3), (Op.assign (Operand.const (Value.bool true))), 4, none⟩])
            .ret))))
theorem slim39 : Try.f39.body.map (slim lends) = some k39 := by kernel_rfl
theorem ok39 : fnOk Try.f39 1 = true := by kernel_rfl
theorem c39 {a l : List D} {r : D × List D} (h : wpD Y.env k39 (fin tys l.length [ResultVar.cell 2 39, ResultVar.tmp 3] r) (entry a l)) (ha : a.length = 1) : Y.call 39 a l = some r :=
  call_slim (Y := Y) rfl Try.func39 (ha ▸ ok39) slim39 h
def s_SinklessProblem_l0_M (d : Int) (p_2 : List (List Int)) (k : Int) (x_ : List Int) (i : Int) (s : St) : Prop := s.v 0 = D.int .i64 d ∧ s.v 2 = D.box [D.int .i64 0, D.int .i64 0, D.own 25 [], D.own 25 []] ∧ s.v 4 = D.box [D.int .i64 2, D.int .i64 d, D.own 25 (lst (fun x => D.sl 3 (lst (D.int .i64) x)) p_2), D.own 25 [D.own 3 [D.int .i64 0, D.int .i64 1]]] ∧ s.v 5 = D.int .i64 k ∧ s.v 6 = D.own 3 (lst (D.int .i64) x_) ∧ s.v 7 = D.int .i64 i
def s_SinklessProblem_l0_X (d : Int) (p_2 : List (List Int)) (k : Int) (r : (List Int)) (ex : Ex) (s : St) : Prop := ex = .exit 2 ∧ s.v 0 = D.int .i64 d ∧ s.v 2 = D.box [D.int .i64 0, D.int .i64 0, D.own 25 [], D.own 25 []] ∧ s.v 4 = D.box [D.int .i64 2, D.int .i64 d, D.own 25 (lst (fun x => D.sl 3 (lst (D.int .i64) x)) p_2), D.own 25 [D.own 3 [D.int .i64 0, D.int .i64 1]]] ∧ s.v 5 = D.int .i64 k ∧ s.v 6 = D.own 3 (lst (D.int .i64) r)
theorem s_SinklessProblem_l0_wp (d : Int) (p_2 : List (List Int)) (k : Int) {v : (List Int) × Int} {s : St} {r : (List Int)} (h : s_SinklessProblem_l0 d p_2 k v = some r) (hM : s_SinklessProblem_l0_M d p_2 k v.1 v.2 s) : wpD Y.env k39_l0 (s_SinklessProblem_l0_X d p_2 k r) s := by
  unfold s_SinklessProblem_l0 at h
  refine wd_itO (c := k39_l0b) (fun v => s_SinklessProblem_l0_S d p_2 k v.1 v.2) (fun v s => s_SinklessProblem_l0_M d p_2 k v.1 v.2 s) (s_SinklessProblem_l0_X d p_2 k) ?_ h hM
  clear h hM s v r
  intro v s o hM h
  obtain ⟨x_, i⟩ := v
  dsimp only at h hM
  unfold s_SinklessProblem_l0_S at h
  unfold s_SinklessProblem_l0_M at hM
  obtain ⟨m0, m1, m2, m3, m4, m5⟩ := hM
  unfold k39_l0b
  by_cases e4 : i < d
  · rw [if_pos e4] at h
    obtain ⟨r5_, hl5, h⟩ := bindS h
    try dsimp only at h
    have c5 := s_vaIs_call (decide (k ≤ i)) hl5
    obtain ⟨e6, h⟩ := ckS h
    obtain rfl := Option.some.inj h
    simp (maxDischargeDepth := 9) only [↓xpre, xpost, xlst, xcore, yset, rg0, ↓reduceIte, Nat.reduceEqDiff, Nat.reduceLT, Nat.reduceLeDiff, Nat.reduceAdd, Nat.reduceMul, Nat.reduceMod, Nat.reduceSub, Nat.reduceBEq, Int.reduceLE, Int.reduceLT, Int.reduceEq, Int.reduceSub, Int.reduceAdd, Int.reduceToNat, Int.reduceNeg, m0, m1, m2, m3, m4, m5, e4, c5, e6, s_SinklessProblem_l0_M, s_SinklessProblem_l0_X, sxN, sxE, sxR] <;> (repeat' apply And.intro) <;> first | rfl | exact ⟨_, rfl⟩ | simp [lst]
  · rw [if_neg e4] at h
    obtain rfl := Option.some.inj h
    simp (maxDischargeDepth := 9) only [↓xpre, xpost, xlst, xcore, yset, rg0, ↓reduceIte, Nat.reduceEqDiff, Nat.reduceLT, Nat.reduceLeDiff, Nat.reduceAdd, Nat.reduceMul, Nat.reduceMod, Nat.reduceSub, Nat.reduceBEq, Int.reduceLE, Int.reduceLT, Int.reduceEq, Int.reduceSub, Int.reduceAdd, Int.reduceToNat, Int.reduceNeg, m0, m1, m2, m3, m4, m5, e4, s_SinklessProblem_l0_M, s_SinklessProblem_l0_X, sxN, sxE, sxR] <;> (repeat' apply And.intro) <;> first | rfl | exact ⟨_, rfl⟩ | simp [lst]
def s_SinklessProblem_l1_M (d : Int) (p_2 : List (List Int)) (k : Int) (s : St) : Prop := s.v 0 = D.int .i64 d ∧ s.v 2 = D.box [D.int .i64 0, D.int .i64 0, D.own 25 [], D.own 25 []] ∧ s.v 4 = D.box [D.int .i64 2, D.int .i64 d, D.own 25 (lst (fun x => D.sl 3 (lst (D.int .i64) x)) p_2), D.own 25 [D.own 3 [D.int .i64 0, D.int .i64 1]]] ∧ s.v 5 = D.int .i64 k
def s_SinklessProblem_l1_X (d : Int) (r : (List (List Int))) (ex : Ex) (s : St) : Prop := ex = .exit 0 ∧ s.v 2 = D.box [D.int .i64 0, D.int .i64 0, D.own 25 [], D.own 25 []] ∧ s.v 4 = D.box [D.int .i64 2, D.int .i64 d, D.own 25 (lst (fun x => D.sl 3 (lst (D.int .i64) x)) r), D.own 25 [D.own 3 [D.int .i64 0, D.int .i64 1]]]
theorem s_SinklessProblem_l1_wp (d : Int) {v : (List (List Int)) × Int} {s : St} {r : (List (List Int))} (h : s_SinklessProblem_l1 d v = some r) (hM : s_SinklessProblem_l1_M d v.1 v.2 s) : wpD Y.env k39_l1 (s_SinklessProblem_l1_X d r) s := by
  unfold s_SinklessProblem_l1 at h
  refine wd_itO (c := k39_l1b) (fun v => s_SinklessProblem_l1_S d v.1 v.2) (fun v s => s_SinklessProblem_l1_M d v.1 v.2 s) (s_SinklessProblem_l1_X d) ?_ h hM
  clear h hM s v r
  intro v s o hM h
  obtain ⟨p_2, k⟩ := v
  dsimp only at h hM
  unfold s_SinklessProblem_l1_S at h
  unfold s_SinklessProblem_l1_M at hM
  obtain ⟨m0, m1, m2, m3⟩ := hM
  unfold k39_l1b
  by_cases e3 : k ≤ d
  · rw [if_pos e3] at h
    obtain ⟨r5_, hl5, h⟩ := bindS h
    try dsimp only at h
    simp (maxDischargeDepth := 9) only [↓xpre, xpost, xlst, xcore, yset, rg0, ↓reduceIte, Nat.reduceEqDiff, Nat.reduceLT, Nat.reduceLeDiff, Nat.reduceAdd, Nat.reduceMul, Nat.reduceMod, Nat.reduceSub, Nat.reduceBEq, Int.reduceLE, Int.reduceLT, Int.reduceEq, Int.reduceSub, Int.reduceAdd, Int.reduceToNat, Int.reduceNeg, m0, m1, m2, m3, e3]
    refine wd_mono (s_SinklessProblem_l0_wp d p_2 k hl5 ?_) ?_
    · simp (maxDischargeDepth := 9) only [↓xpre, xpost, xlst, xcore, yset, rg0, ↓reduceIte, Nat.reduceEqDiff, Nat.reduceLT, Nat.reduceLeDiff, Nat.reduceAdd, Nat.reduceMul, Nat.reduceMod, Nat.reduceSub, Nat.reduceBEq, Int.reduceLE, Int.reduceLT, Int.reduceEq, Int.reduceSub, Int.reduceAdd, Int.reduceToNat, Int.reduceNeg, m0, m1, m2, m3, e3, s_SinklessProblem_l0_M] <;> (repeat' apply And.intro) <;> first | rfl | exact ⟨_, rfl⟩ | simp [lst]
    · intro ex5 s5 hX5
      unfold s_SinklessProblem_l0_X at hX5
      obtain ⟨rfl, n5_0, n5_1, n5_2, n5_3, n5_4⟩ := hX5
      obtain ⟨e6, h⟩ := ckS h
      obtain ⟨e7, h⟩ := ckS h
      have c8 := s_prInsert_cl p_2 r5_ e6 e7
      by_cases e9 : ((r5_ :: p_2).any fun x => (!x.isEmpty)) = true
      · skip
        obtain rfl := Option.some.inj h
        simp (maxDischargeDepth := 9) only [↓xpre, xpost, xlst, xcore, yset, rg0, ↓reduceIte, Nat.reduceEqDiff, Nat.reduceLT, Nat.reduceLeDiff, Nat.reduceAdd, Nat.reduceMul, Nat.reduceMod, Nat.reduceSub, Nat.reduceBEq, Int.reduceLE, Int.reduceLT, Int.reduceEq, Int.reduceSub, Int.reduceAdd, Int.reduceToNat, Int.reduceNeg, e3, n5_0, n5_1, n5_2, n5_3, n5_4, e6, e7, c8, e9, s_SinklessProblem_l1_M, s_SinklessProblem_l1_X, sxN, sxE, sxR] <;> (repeat' apply And.intro) <;> first | rfl | exact ⟨_, rfl⟩ | simp [lst]
      · skip
        have e9f : ((r5_ :: p_2).any fun x => (!x.isEmpty)) = false := Bool.eq_false_iff.mpr e9
        obtain rfl := Option.some.inj h
        simp (maxDischargeDepth := 9) only [↓xpre, xpost, xlst, xcore, yset, rg0, ↓reduceIte, Nat.reduceEqDiff, Nat.reduceLT, Nat.reduceLeDiff, Nat.reduceAdd, Nat.reduceMul, Nat.reduceMod, Nat.reduceSub, Nat.reduceBEq, Int.reduceLE, Int.reduceLT, Int.reduceEq, Int.reduceSub, Int.reduceAdd, Int.reduceToNat, Int.reduceNeg, e3, n5_0, n5_1, n5_2, n5_3, n5_4, e6, e7, c8, e9f, s_SinklessProblem_l1_M, s_SinklessProblem_l1_X, sxN, sxE, sxR] <;> (repeat' apply And.intro) <;> first | rfl | exact ⟨_, rfl⟩ | simp [lst]
  · rw [if_neg e3] at h
    obtain rfl := Option.some.inj h
    simp (maxDischargeDepth := 9) only [↓xpre, xpost, xlst, xcore, yset, rg0, ↓reduceIte, Nat.reduceEqDiff, Nat.reduceLT, Nat.reduceLeDiff, Nat.reduceAdd, Nat.reduceMul, Nat.reduceMod, Nat.reduceSub, Nat.reduceBEq, Int.reduceLE, Int.reduceLT, Int.reduceEq, Int.reduceSub, Int.reduceAdd, Int.reduceToNat, Int.reduceNeg, m0, m1, m2, m3, e3, s_SinklessProblem_l1_M, s_SinklessProblem_l1_X, sxN, sxE, sxR] <;> (repeat' apply And.intro) <;> first | rfl | exact ⟨_, rfl⟩ | simp [lst]
theorem s_SinklessProblem_call (d : Int) {r : Int × Int × (List (List Int)) × (List (List Int)) × Bool} (h : s_SinklessProblem d = some r) : Y.call 39 [D.int .i64 d] [] = some (D.tup [D.agg [D.int .i64 r.1, D.int .i64 r.2.1, D.own 25 (lst (fun x => D.sl 3 (lst (D.int .i64) x)) r.2.2.1), D.own 25 (lst (fun x => D.own 3 (lst (D.int .i64) x)) r.2.2.2.1)], D.bool r.2.2.2.2], []) := by
  refine c39 ?_ rfl
  unfold k39
  unfold s_SinklessProblem at h
  have c1 := s_l1In_cl d (1 : Int) (4 : Int)
  by_cases e2 : (inR d (1 : Int) (4 : Int)) = true
  · rw [if_pos e2] at h
    obtain ⟨r4_, hl4, h⟩ := bindS h
    try dsimp only at h
    simp (maxDischargeDepth := 9) only [↓xpre, xpost, xlst, xcore, yset, rg0, ↓reduceIte, Nat.reduceEqDiff, Nat.reduceLT, Nat.reduceLeDiff, Nat.reduceAdd, Nat.reduceMul, Nat.reduceMod, Nat.reduceSub, Nat.reduceBEq, Int.reduceLE, Int.reduceLT, Int.reduceEq, Int.reduceSub, Int.reduceAdd, Int.reduceToNat, Int.reduceNeg, c1, e2]
    refine wd_mono (s_SinklessProblem_l1_wp d hl4 ?_) ?_
    · simp (maxDischargeDepth := 9) only [↓xpre, xpost, xlst, xcore, yset, rg0, ↓reduceIte, Nat.reduceEqDiff, Nat.reduceLT, Nat.reduceLeDiff, Nat.reduceAdd, Nat.reduceMul, Nat.reduceMod, Nat.reduceSub, Nat.reduceBEq, Int.reduceLE, Int.reduceLT, Int.reduceEq, Int.reduceSub, Int.reduceAdd, Int.reduceToNat, Int.reduceNeg, c1, e2, s_SinklessProblem_l1_M] <;> (repeat' apply And.intro) <;> first | rfl | exact ⟨_, rfl⟩ | simp [lst]
    · intro ex4 s4 hX4
      unfold s_SinklessProblem_l1_X at hX4
      obtain ⟨rfl, n4_0, n4_1⟩ := hX4
      obtain rfl := Option.some.inj h
      simp (maxDischargeDepth := 9) only [↓xpre, xpost, xlst, xcore, yset, rg0, ↓reduceIte, Nat.reduceEqDiff, Nat.reduceLT, Nat.reduceLeDiff, Nat.reduceAdd, Nat.reduceMul, Nat.reduceMod, Nat.reduceSub, Nat.reduceBEq, Int.reduceLE, Int.reduceLT, Int.reduceEq, Int.reduceSub, Int.reduceAdd, Int.reduceToNat, Int.reduceNeg, c1, e2, n4_0, n4_1] <;> (repeat' apply And.intro) <;> first | rfl | exact ⟨_, rfl⟩ | simp [lst]
  · rw [if_neg e2] at h
    have e2f : (inR d (1 : Int) (4 : Int)) = false := Bool.eq_false_iff.mpr e2
    obtain rfl := Option.some.inj h
    simp (maxDischargeDepth := 9) only [↓xpre, xpost, xlst, xcore, yset, rg0, ↓reduceIte, Nat.reduceEqDiff, Nat.reduceLT, Nat.reduceLeDiff, Nat.reduceAdd, Nat.reduceMul, Nat.reduceMod, Nat.reduceSub, Nat.reduceBEq, Int.reduceLE, Int.reduceLT, Int.reduceEq, Int.reduceSub, Int.reduceAdd, Int.reduceToNat, Int.reduceNeg, c1, e2f] <;> (repeat' apply And.intro) <;> first | rfl | exact ⟨_, rfl⟩ | simp [lst]


end Go.Proofs.Ythaimoghceamnaa
