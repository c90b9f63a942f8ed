/- Sorting by insertion, as a plain function. Conditions: the list is short. -/
import Derived.Test.YtjlphfbpaejicaaL6
import Derived.Test.YtjlphfbpaejicaaIsP
namespace Go.Proofs.Ytjlphfbpaejicaa
open Go Dv
set_option linter.unusedSimpArgs false
set_option linter.unusedVariables false
set_option maxRecDepth 100000
set_option maxHeartbeats 4000000

noncomputable def s_l1Own (l : List Int) : Option ((List Int)) :=
  ck (0 + l.length < 1099511627776) <|
  some l
/-- spec.l1Own -/
def k69 : SC :=
  .seq
    (.ops [
      ⟨(some 2), (Op.assign (Operand.const (Value.slice none 0 0))), 32, none⟩])
    (.seq
      (.ops [
        ⟨(some 3), (Op.buildSlice 32 0 #[]), 32, none⟩,
        ⟨(some 4), (Op.move (Operand.tmp 0)), 32, none⟩,
        ⟨(some 5), (Op.call { callee := (Callee.builtin Builtin.append), args := #[(Operand.tmp 3), (Operand.tmp 4)], argTypes := #[32, 32] }), 32, none⟩,
        ⟨(some 2), (Op.assign (Operand.tmp 5)), 32, none⟩])
      .ret)
theorem slim69 : Try.f69.body.map (slim lends) = some k69 := by kernel_rfl
theorem ok69 : fnOk Try.f69 1 = true := by kernel_rfl
theorem c69 {a l : List D} {r : D × List D} (h : wpD Y.env k69 (fin tys l.length [ResultVar.tmp 2] r) (entry a l)) (ha : a.length = 1) : Y.call 69 a l = some r :=
  call_slim (Y := Y) rfl Try.func69 (ha ▸ ok69) slim69 h
theorem s_l1Own_call (l : List Int) {r : (List Int)} (h : s_l1Own l = some r) : Y.call 69 [D.sl 3 (lst (D.int .i64) l)] [] = some (D.own 3 (lst (D.int .i64) r), []) := by
  refine c69 ?_ rfl
  unfold k69
  unfold s_l1Own at h
  obtain ⟨e1, h⟩ := ckS h
  obtain rfl := Option.some.inj h
  simp (maxDischargeDepth := 9) only [↓xpre, xpost, xlst, xcore, yset, rg0, ↓reduceIte, Nat.reduceEqDiff, Nat.reduceLT, Nat.reduceLeDiff, Nat.reduceAdd, Nat.reduceMul, Nat.reduceMod, Nat.reduceSub, Nat.reduceBEq, Int.reduceLE, Int.reduceLT, Int.reduceEq, Int.reduceSub, Int.reduceAdd, Int.reduceToNat, Int.reduceNeg, e1] <;> (repeat' apply And.intro) <;> first | rfl | exact ⟨_, rfl⟩ | simp [lst]

noncomputable def s_prSorted_l0_S (r1_ : (List Int)) (t11_ : Int) (out1 : List Int) (k : Int) : Option (((List Int) × Int) ⊕ ((List Int))) :=
  if 0 < k then
    ck (0 ≤ IntKind.i64.wrap (k - 1) ∧ (IntKind.i64.wrap (k - 1)).toNat < out1.length) <|
    ck (0 ≤ k ∧ k.toNat < out1.length) <|
    if (out1.getD k.toNat default) < (out1.getD ((IntKind.i64.wrap (k - 1)).toNat) default) then
      ck (0 ≤ IntKind.i64.wrap (k - 1) ∧ (IntKind.i64.wrap (k - 1)).toNat < (out1.set k.toNat (out1.getD ((IntKind.i64.wrap (k - 1)).toNat) default)).length) <|
      some (Sum.inl (((out1.set k.toNat (out1.getD ((IntKind.i64.wrap (k - 1)).toNat) default)).set ((IntKind.i64.wrap (k - 1)).toNat) (out1.getD k.toNat default)), IntKind.i64.wrap (k - 1)))
    else
      some (Sum.inr out1)
  else
    some (Sum.inr out1)
noncomputable def s_prSorted_l0 (r1_ : (List Int)) (t11_ : Int) (v : (List Int) × Int) : Option ((List Int)) := itO (fun v => s_prSorted_l0_S r1_ t11_ v.1 v.2) v
noncomputable def s_prSorted_l1_S (r1_ : (List Int)) (out : List Int) (t11_ : Int) : Option (((List Int) × Int) ⊕ ((List Int))) :=
  if t11_ < (r1_.length : Int) then
    (s_prSorted_l0 r1_ t11_ (out, t11_)).bind fun r4_ =>
    some (Sum.inl (r4_, IntKind.i64.wrap (t11_ + 1)))
  else
    some (Sum.inr out)
noncomputable def s_prSorted_l1 (r1_ : (List Int)) (v : (List Int) × Int) : Option ((List Int)) := itO (fun v => s_prSorted_l1_S r1_ v.1 v.2) v
noncomputable def s_prSorted (l : List Int) : Option ((List Int)) :=
  (s_l1Own l).bind fun r1_ =>
  (s_prSorted_l1 r1_ (r1_, 0)).bind fun r3_ =>
  some r3_
/-- spec.prSorted -/
def k95_l0b : SC :=
  .seq
    (.seq
      (.draws [
        (⟨[15, 5, 5], [15, 16, 17, 18, 19, 20, 21, 22, 23, 24, 25, 26, 27, 28], [15]⟩, ⟨(some 15), (Op.move (Operand.tmp 5)), 3, none⟩),
        (⟨[16, 15, 5], [15, 16, 17, 18, 19, 20, 21, 22, 23, 24, 25, 26, 27, 28], [16]⟩, ⟨(some 16), (Op.binOp BinOp.gtr 3 (Operand.tmp 15) (Operand.const (Value.int IntKind.i64 0)) 3), 4, none⟩),
        (⟨[17, 16, 16], [15, 16, 17, 18, 19, 20, 21, 22, 23, 24, 25, 26, 27, 28], [17]⟩, ⟨(some 17), (Op.move (Operand.tmp 16)), 4, none⟩),
        (⟨[18, 3, 3, 17], [15, 16, 17, 18, 19, 20, 21, 22, 23, 24, 25, 26, 27, 28], [18]⟩, ⟨(some 18), (Op.move (Operand.tmp 3)), 32, (some (some 17, true))⟩),
        (⟨[19, 5, 5, 17], [15, 16, 17, 18, 19, 20, 21, 22, 23, 24, 25, 26, 27, 28], [19]⟩, ⟨(some 19), (Op.move (Operand.tmp 5)), 3, (some (some 17, true))⟩),
        (⟨[20, 19, 5, 17], [15, 16, 17, 18, 19, 20, 21, 22, 23, 24, 25, 26, 27, 28], [20]⟩, ⟨(some 20), (Op.binOp BinOp.sub 3 (Operand.tmp 19) (Operand.const (Value.int IntKind.i64 1)) 3), 3, (some (some 17, true))⟩),
        (⟨[21, 18, 20, 3, 20, 17], [15, 16, 17, 18, 19, 20, 21, 22, 23, 24, 25, 26, 27, 28], [21]⟩, ⟨(some 21), (Op.indexAddr 32 (Operand.tmp 18) (Operand.tmp 20)), 0, (some (some 17, true))⟩),
        (⟨[22, 21, 3, 17], [15, 16, 17, 18, 19, 20, 21, 22, 23, 24, 25, 26, 27, 28], [22]⟩, ⟨(some 22), (Op.load 3 (Operand.tmp 21)), 3, (some (some 17, true))⟩),
        (⟨[23, 3, 3, 17], [15, 16, 17, 18, 19, 20, 21, 22, 23, 24, 25, 26, 27, 28], [23]⟩, ⟨(some 23), (Op.move (Operand.tmp 3)), 32, (some (some 17, true))⟩),
        (⟨[24, 5, 5, 17], [15, 16, 17, 18, 19, 20, 21, 22, 23, 24, 25, 26, 27, 28], [24]⟩, ⟨(some 24), (Op.move (Operand.tmp 5)), 3, (some (some 17, true))⟩),
        (⟨[25, 23, 24, 3, 5, 17], [15, 16, 17, 18, 19, 20, 21, 22, 23, 24, 25, 26, 27, 28], [25]⟩, ⟨(some 25), (Op.indexAddr 32 (Operand.tmp 23) (Operand.tmp 24)), 0, (some (some 17, true))⟩),
        (⟨[26, 25, 3, 17], [15, 16, 17, 18, 19, 20, 21, 22, 23, 24, 25, 26, 27, 28], [26]⟩, ⟨(some 26), (Op.load 3 (Operand.tmp 25)), 3, (some (some 17, true))⟩),
        (⟨[27, 22, 26, 3, 3, 17], [15, 16, 17, 18, 19, 20, 21, 22, 23, 24, 25, 26, 27, 28], [27]⟩, ⟨(some 27), (Op.binOp BinOp.gtr 3 (Operand.tmp 22) (Operand.tmp 26) 3), 4, (some (some 17, true))⟩),
        (⟨[28, 17, 27, 16, 27], [15, 16, 17, 18, 19, 20, 21, 22, 23, 24, 25, 26, 27, 28], [28]⟩, ⟨(some 28), (Op.pick (Operand.tmp 17) (Operand.tmp 27) (Operand.const (Value.bool false))), 4, none⟩)])
      (.cond (Operand.tmp 28)
        .skip
        (.exit 2)))
    (.seq
      (.block 3
        (.seq
          (.ops [
            ⟨(some 31), (Op.move (Operand.tmp 3)), 32, none⟩,
            ⟨(some 32), (Op.move (Operand.tmp 5)), 3, none⟩,
            ⟨(some 33), (Op.indexAddr 32 (Operand.tmp 31) (Operand.tmp 32)), 0, none⟩,
            ⟨(some 34), (Op.load 3 (Operand.tmp 33)), 3, none⟩,
            ⟨(some 6), (Op.assign (Operand.tmp 34)), 3, none⟩])
          (.seq
            (.ops [
              ⟨(some 35), (Op.move (Operand.tmp 3)), 32, none⟩,
              ⟨(some 36), (Op.move (Operand.tmp 5)), 3, none⟩,
              ⟨(some 37), (Op.move (Operand.tmp 3)), 32, none⟩,
              ⟨(some 38), (Op.move (Operand.tmp 5)), 3, none⟩,
              ⟨(some 39), (Op.binOp BinOp.sub 3 (Operand.tmp 38) (Operand.const (Value.int IntKind.i64 1)) 3), 3, none⟩,
              ⟨(some 40), (Op.indexAddr 32 (Operand.tmp 37) (Operand.tmp 39)), 0, none⟩,
              ⟨(some 41), (Op.load 3 (Operand.tmp 40)), 3, none⟩,
              ⟨(some 42), (Op.indexAddr 32 (Operand.tmp 35) (Operand.tmp 36)), 0, none⟩,
              ⟨none, (Op.store 3 (Operand.tmp 42) (Operand.tmp 41)), 0, none⟩])
            (.ops [
              ⟨(some 43), (Op.move (Operand.tmp 3)), 32, none⟩,
              ⟨(some 44), (Op.move (Operand.tmp 5)), 3, none⟩,
              ⟨(some 45), (Op.binOp BinOp.sub 3 (Operand.tmp 44) (Operand.const (Value.int IntKind.i64 1)) 3), 3, none⟩,
              ⟨(some 46), (Op.move (Operand.tmp 6)), 3, none⟩,
              ⟨(some 47), (Op.indexAddr 32 (Operand.tmp 43) (Operand.tmp 45)), 0, none⟩,
              ⟨none, (Op.store 3 (Operand.tmp 47) (Operand.tmp 46)), 0, none⟩]))))
      (.ops [
        ⟨(some 29), (Op.move (Operand.tmp 5)), 3, none⟩,
        ⟨(some 30), (Op.binOp BinOp.sub 3 (Operand.tmp 29) (Operand.const (Value.int IntKind.i64 1)) 3), 3, none⟩,
        ⟨(some 5), (Op.assign (Operand.tmp 30)), 3, none⟩]))
def k95_l0 : SC := .loop k95_l0b
def k95_l1b : SC :=
  .seq
    (.ops [
      ⟨(some 12), (Op.binOp BinOp.lss 3 (Operand.tmp 11) (Operand.tmp 10) 3), 0, none⟩])
    (.seq
      (.cond (Operand.tmp 12)
        .skip
        (.exit 0))
      (.seq
        (.block 1
          (.seq
            (.ops [
              ⟨(some 13), (Op.move (Operand.tmp 11)), 3, none⟩,
              ⟨(some 4), (Op.assign (Operand.tmp 13)), 3, none⟩])
            (.seq
              (.ops [
                ⟨(some 14), (Op.move (Operand.tmp 4)), 3, none⟩,
                ⟨(some 5), (Op.assign (Operand.tmp 14)), 3, none⟩])
              (.block 2
                k95_l0))))
        (.ops [
          ⟨(some 48), (Op.binOp BinOp.add 3 (Operand.tmp 11) (Operand.const (Value.int IntKind.i64 1)) 3), 3, none⟩,
          ⟨(some 11), (Op.move (Operand.tmp 48)), 3, none⟩])))
def k95_l1 : SC := .loop k95_l1b
def k95 : SC :=
  .seq
    (.ops [
      ⟨(some 2), (Op.assign (Operand.const (Value.slice none 0 0))), 32, none⟩])
    (.seq
      (.ops [
        ⟨(some 7), (Op.move (Operand.tmp 0)), 32, none⟩,
        ⟨(some 8), (Op.call { callee := (Callee.value (Operand.func 69)), args := #[(Operand.tmp 7)], argTypes := #[32] }), 32, none⟩,
        ⟨(some 3), (Op.assign (Operand.tmp 8)), 32, none⟩])
      (.seq
        (.seq
          (.ops [
            ⟨(some 9), (Op.move (Operand.tmp 3)), 32, none⟩,
            ⟨(some 10), (Op.call { callee := (Callee.builtin Builtin.len), args := #[(Operand.tmp 9)], argTypes := #[32] }), 3, none⟩,
            ⟨(some 11), (Op.move (Operand.const (Value.int IntKind.i64 0))), 3, none⟩])
          (.block 0
            k95_l1))
        (.seq
          (.ops [
            ⟨(some 49), (Op.move (Operand.tmp 3)), 32, none⟩,
            ⟨(some 2), (Op.assign (Operand.tmp 49)), 32, none⟩])
          .ret)))
theorem slim95 : Try.f95.body.map (slim lends) = some k95 := by kernel_rfl
theorem ok95 : fnOk Try.f95 1 = true := by kernel_rfl
theorem c95 {a l : List D} {r : D × List D} (h : wpD Y.env k95 (fin tys l.length [ResultVar.tmp 2] r) (entry a l)) (ha : a.length = 1) : Y.call 95 a l = some r :=
  call_slim (Y := Y) rfl Try.func95 (ha ▸ ok95) slim95 h
def s_prSorted_l0_M (r1_ : (List Int)) (t11_ : Int) (out1 : List Int) (k : Int) (s : St) : Prop := s.v 3 = D.own 3 (lst (D.int .i64) out1) ∧ s.v 5 = D.int .i64 k ∧ s.v 10 = D.int .i64 (r1_.length : Int) ∧ s.v 11 = D.int .i64 t11_
def s_prSorted_l0_X (r1_ : (List Int)) (t11_ : Int) (r : (List Int)) (ex : Ex) (s : St) : Prop := ex = .exit 2 ∧ s.v 3 = D.own 3 (lst (D.int .i64) r) ∧ s.v 10 = D.int .i64 (r1_.length : Int) ∧ s.v 11 = D.int .i64 t11_
theorem s_prSorted_l0_wp (r1_ : (List Int)) (t11_ : Int) {v : (List Int) × Int} {s : St} {r : (List Int)} (h : s_prSorted_l0 r1_ t11_ v = some r) (hM : s_prSorted_l0_M r1_ t11_ v.1 v.2 s) : wpD Y.env k95_l0 (s_prSorted_l0_X r1_ t11_ r) s := by
  unfold s_prSorted_l0 at h
  refine wd_itO (c := k95_l0b) (fun v => s_prSorted_l0_S r1_ t11_ v.1 v.2) (fun v s => s_prSorted_l0_M r1_ t11_ v.1 v.2 s) (s_prSorted_l0_X r1_ t11_) ?_ h hM
  clear h hM s v r
  intro v s o hM h
  obtain ⟨out1, k⟩ := v
  dsimp only at h hM
  unfold s_prSorted_l0_S at h
  unfold s_prSorted_l0_M at hM
  obtain ⟨m0, m1, m2, m3⟩ := hM
  unfold k95_l0b
  by_cases e3 : 0 < k
  · rw [if_pos e3] at h
    obtain ⟨e4, h⟩ := ckS h
    obtain ⟨e5, h⟩ := ckS h
    by_cases e6 : (out1.getD k.toNat default) < (out1.getD ((IntKind.i64.wrap (k - 1)).toNat) default)
    · rw [if_pos e6] at h
      obtain ⟨e7, h⟩ := ckS h
      obtain rfl := Option.some.inj h
      simp (maxDischargeDepth := 9) only [↓xpre, xpost, xlst, xcore, yset, rg0, ↓reduceIte, Nat.reduceEqDiff, Nat.reduceLT, Nat.reduceLeDiff, Nat.reduceAdd, Nat.reduceMul, Nat.reduceMod, Nat.reduceSub, Nat.reduceBEq, Int.reduceLE, Int.reduceLT, Int.reduceEq, Int.reduceSub, Int.reduceAdd, Int.reduceToNat, Int.reduceNeg, m0, m1, m2, m3, e3, e4.1, e4.2, e5.1, e5.2, e6, e7.1, e7.2, s_prSorted_l0_M, s_prSorted_l0_X, sxN, sxE, sxR] <;> (repeat' apply And.intro) <;> first | rfl | exact ⟨_, rfl⟩ | simp [lst]
    · rw [if_neg e6] at h
      obtain rfl := Option.some.inj h
      simp (maxDischargeDepth := 9) only [↓xpre, xpost, xlst, xcore, yset, rg0, ↓reduceIte, Nat.reduceEqDiff, Nat.reduceLT, Nat.reduceLeDiff, Nat.reduceAdd, Nat.reduceMul, Nat.reduceMod, Nat.reduceSub, Nat.reduceBEq, Int.reduceLE, Int.reduceLT, Int.reduceEq, Int.reduceSub, Int.reduceAdd, Int.reduceToNat, Int.reduceNeg, m0, m1, m2, m3, e3, e4.1, e4.2, e5.1, e5.2, e6, s_prSorted_l0_M, s_prSorted_l0_X, sxN, sxE, sxR] <;> (repeat' apply And.intro) <;> first | rfl | exact ⟨_, rfl⟩ | simp [lst]
  · rw [if_neg e3] at h
    obtain rfl := Option.some.inj h
    simp (maxDischargeDepth := 9) only [↓xpre, xpost, xlst, xcore, yset, rg0, ↓reduceIte, Nat.reduceEqDiff, Nat.reduceLT, Nat.reduceLeDiff, Nat.reduceAdd, Nat.reduceMul, Nat.reduceMod, Nat.reduceSub, Nat.reduceBEq, Int.reduceLE, Int.reduceLT, Int.reduceEq, Int.reduceSub, Int.reduceAdd, Int.reduceToNat, Int.reduceNeg, m0, m1, m2, m3, e3, s_prSorted_l0_M, s_prSorted_l0_X, sxN, sxE, sxR] <;> (repeat' apply And.intro) <;> first | rfl | exact ⟨_, rfl⟩ | simp [lst]
def s_prSorted_l1_M (r1_ : (List Int)) (out : List Int) (t11_ : Int) (s : St) : Prop := s.v 3 = D.own 3 (lst (D.int .i64) out) ∧ s.v 10 = D.int .i64 (r1_.length : Int) ∧ s.v 11 = D.int .i64 t11_
def s_prSorted_l1_X (r1_ : (List Int)) (r : (List Int)) (ex : Ex) (s : St) : Prop := ex = .exit 0 ∧ s.v 3 = D.own 3 (lst (D.int .i64) r)
theorem s_prSorted_l1_wp (r1_ : (List Int)) {v : (List Int) × Int} {s : St} {r : (List Int)} (h : s_prSorted_l1 r1_ v = some r) (hM : s_prSorted_l1_M r1_ v.1 v.2 s) : wpD Y.env k95_l1 (s_prSorted_l1_X r1_ r) s := by
  unfold s_prSorted_l1 at h
  refine wd_itO (c := k95_l1b) (fun v => s_prSorted_l1_S r1_ v.1 v.2) (fun v s => s_prSorted_l1_M r1_ v.1 v.2 s) (s_prSorted_l1_X r1_) ?_ h hM
  clear h hM s v r
  intro v s o hM h
  obtain ⟨out, t11_⟩ := v
  dsimp only at h hM
  unfold s_prSorted_l1_S at h
  unfold s_prSorted_l1_M at hM
  obtain ⟨m0, m1, m2⟩ := hM
  unfold k95_l1b
  by_cases e2 : t11_ < (r1_.length : Int)
  · rw [if_pos e2] at h
    obtain ⟨r4_, hl4, h⟩ := bindS h
    try dsimp only at h
    simp (maxDischargeDepth := 9) only [↓xpre, xpost, xlst, xcore, yset, rg0, ↓reduceIte, Nat.reduceEqDiff, Nat.reduceLT, Nat.reduceLeDiff, Nat.reduceAdd, Nat.reduceMul, Nat.reduceMod, Nat.reduceSub, Nat.reduceBEq, Int.reduceLE, Int.reduceLT, Int.reduceEq, Int.reduceSub, Int.reduceAdd, Int.reduceToNat, Int.reduceNeg, m0, m1, m2, e2]
    refine wd_mono (s_prSorted_l0_wp r1_ t11_ hl4 ?_) ?_
    · simp (maxDischargeDepth := 9) only [↓xpre, xpost, xlst, xcore, yset, rg0, ↓reduceIte, Nat.reduceEqDiff, Nat.reduceLT, Nat.reduceLeDiff, Nat.reduceAdd, Nat.reduceMul, Nat.reduceMod, Nat.reduceSub, Nat.reduceBEq, Int.reduceLE, Int.reduceLT, Int.reduceEq, Int.reduceSub, Int.reduceAdd, Int.reduceToNat, Int.reduceNeg, m0, m1, m2, e2, s_prSorted_l0_M] <;> (repeat' apply And.intro) <;> first | rfl | exact ⟨_, rfl⟩ | simp [lst]
    · intro ex4 s4 hX4
      unfold s_prSorted_l0_X at hX4
      obtain ⟨rfl, n4_0, n4_1, n4_2⟩ := hX4
      obtain rfl := Option.some.inj h
      simp (maxDischargeDepth := 9) only [↓xpre, xpost, xlst, xcore, yset, rg0, ↓reduceIte, Nat.reduceEqDiff, Nat.reduceLT, Nat.reduceLeDiff, Nat.reduceAdd, Nat.reduceMul, Nat.reduceMod, Nat.reduceSub, Nat.reduceBEq, Int.reduceLE, Int.reduceLT, Int.reduceEq, Int.reduceSub, Int.reduceAdd, Int.reduceToNat, Int.reduceNeg, e2, n4_0, n4_1, n4_2, s_prSorted_l1_M, s_prSorted_l1_X, sxN, sxE, sxR] <;> (repeat' apply And.intro) <;> first | rfl | exact ⟨_, rfl⟩ | simp [lst]
  · rw [if_neg e2] at h
    obtain rfl := Option.some.inj h
    simp (maxDischargeDepth := 9) only [↓xpre, xpost, xlst, xcore, yset, rg0, ↓reduceIte, Nat.reduceEqDiff, Nat.reduceLT, Nat.reduceLeDiff, Nat.reduceAdd, Nat.reduceMul, Nat.reduceMod, Nat.reduceSub, Nat.reduceBEq, Int.reduceLE, Int.reduceLT, Int.reduceEq, Int.reduceSub, Int.reduceAdd, Int.reduceToNat, Int.reduceNeg, m0, m1, m2, e2, s_prSorted_l1_M, s_prSorted_l1_X, sxN, sxE, sxR] <;> (repeat' apply And.intro) <;> first | rfl | exact ⟨_, rfl⟩ | simp [lst]
theorem s_prSorted_call (l : List Int) {r : (List Int)} (h : s_prSorted l = some r) : Y.call 95 [D.sl 3 (lst (D.int .i64) l)] [] = some (D.own 3 (lst (D.int .i64) r), []) := by
  refine c95 ?_ rfl
  unfold k95
  unfold s_prSorted at h
  obtain ⟨r1_, hl1, h⟩ := bindS h
  try dsimp only at h
  have c1 := s_l1Own_call l hl1
  obtain ⟨r3_, hl3, h⟩ := bindS h
  try dsimp only at h
  simp (maxDischargeDepth := 9) only [↓xpre, xpost, xlst, xcore, yset, rg0, ↓reduceIte, Nat.reduceEqDiff, Nat.reduceLT, Nat.reduceLeDiff, Nat.reduceAdd, Nat.reduceMul, Nat.reduceMod, Nat.reduceSub, Nat.reduceBEq, Int.reduceLE, Int.reduceLT, Int.reduceEq, Int.reduceSub, Int.reduceAdd, Int.reduceToNat, Int.reduceNeg, c1]
  refine wd_mono (s_prSorted_l1_wp r1_ hl3 ?_) ?_
  · simp (maxDischargeDepth := 9) only [↓xpre, xpost, xlst, xcore, yset, rg0, ↓reduceIte, Nat.reduceEqDiff, Nat.reduceLT, Nat.reduceLeDiff, Nat.reduceAdd, Nat.reduceMul, Nat.reduceMod, Nat.reduceSub, Nat.reduceBEq, Int.reduceLE, Int.reduceLT, Int.reduceEq, Int.reduceSub, Int.reduceAdd, Int.reduceToNat, Int.reduceNeg, c1, s_prSorted_l1_M] <;> (repeat' apply And.intro) <;> first | rfl | exact ⟨_, rfl⟩ | simp [lst]
  · intro ex3 s3 hX3
    unfold s_prSorted_l1_X at hX3
    obtain ⟨rfl, n3_0⟩ := hX3
    obtain rfl := Option.some.inj h
    simp (maxDischargeDepth := 9) only [↓xpre, xpost, xlst, xcore, yset, rg0, ↓reduceIte, Nat.reduceEqDiff, Nat.reduceLT, Nat.reduceLeDiff, Nat.reduceAdd, Nat.reduceMul, Nat.reduceMod, Nat.reduceSub, Nat.reduceBEq, Int.reduceLE, Int.reduceLT, Int.reduceEq, Int.reduceSub, Int.reduceAdd, Int.reduceToNat, Int.reduceNeg, c1, n3_0] <;> (repeat' apply And.intro) <;> first | rfl | exact ⟨_, rfl⟩ | simp [lst]

/-- A number put into a list, from the back. -/
def insR (x : Int) : List Int → List Int
  | [] => [x]
  | y :: r => if x < y then y :: insR x r else x :: y :: r
theorem insR_len (x : Int) : ∀ r, (insR x r).length = r.length + 1 := by
  intro r
  induction r with
  | nil => rfl
  | cons y r ih => unfold insR; split <;> simp [ih]
/-- The list sorted. -/
def sortI (l : List Int) : List Int := (l.foldl (fun r x => insR x r) []).reverse
theorem prSorted_l0_eq (rr : List Int) (tt x : Int) : ∀ (r b : List Int), r.length < 1099511627776 → s_prSorted_l0 rr tt (r.reverse ++ x :: b, (r.length : Int)) = some ((insR x r).reverse ++ b) := by
  intro r
  induction r with
  | nil =>
    intro b _
    unfold s_prSorted_l0
    rw [itO_inr (r := x :: b)]
    · rfl
    · simp only [s_prSorted_l0_S]; rw [if_neg (by simp)]; rfl
  | cons y r ih =>
    intro b hl
    simp only [List.length_cons] at hl
    have e0 : (y :: r).reverse ++ x :: b = r.reverse ++ y :: x :: b := by simp
    have el : (r.reverse ++ y :: x :: b).length = r.length + (b.length + 2) := by simp
    have e1 : (r.reverse ++ y :: x :: b).getD r.length default = y := by rw [getD_app_right r.reverse (y :: x :: b) r.length (by simp) (by simp)]; rfl
    have e2 : (r.reverse ++ y :: x :: b).getD (r.length + 1) default = x := by
      rw [show r.reverse ++ y :: x :: b = (r.reverse ++ [y]) ++ x :: b by simp, getD_app_right (r.reverse ++ [y]) (x :: b) (r.length + 1) (by simp) (by simp)]; rfl
    have t1 : ((r.length + 1 : Nat) : Int).toNat = r.length + 1 := by omega
    have t2 : (((r.length + 1 : Nat) : Int) - 1).toNat = r.length := by omega
    have s1 : (r.reverse ++ y :: x :: b).set (r.length + 1) y = r.reverse ++ y :: y :: b := by
      rw [List.set_append_right _ _ (by simp)]; simp
    have s2 : (r.reverse ++ y :: y :: b).set r.length x = r.reverse ++ x :: y :: b := by
      rw [List.set_append_right _ _ (by simp)]; simp
    unfold insR
    by_cases hq : x < y
    · rw [if_pos hq]
      have := ih (y :: b) (by omega)
      unfold s_prSorted_l0 at this ⊢
      rw [itO_inl (s' := (r.reverse ++ x :: y :: b, (r.length : Int))), this]
      · simp
      · simp only [s_prSorted_l0_S]
        rw [e0, List.length_cons, if_pos (by omega), wr64 _ (by omega), ckT (by rw [el]; omega), ckT (by rw [el]; omega), t1, t2, e1, e2, if_pos hq, s1, ckT (by rw [List.length_append, List.length_cons, List.length_reverse]; omega), s2]
        rw [show ((r.length + 1 : Nat) : Int) - 1 = (r.length : Int) by omega]
    · rw [if_neg hq]
      unfold s_prSorted_l0
      rw [itO_inr (r := r.reverse ++ y :: x :: b)]
      · simp
      · simp only [s_prSorted_l0_S]
        rw [e0, List.length_cons, if_pos (by omega), wr64 _ (by omega), ckT (by rw [el]; omega), ckT (by rw [el]; omega), t1, t2, e1, e2, if_neg hq]
theorem s_prSorted_eq (l : List Int) (h : l.length < 1099511627776) : s_prSorted l = some (sortI l) := by
  unfold s_prSorted s_l1Own s_prSorted_l1
  rw [ckT (by omega), Option.bind_some]
  have key := itO_fold (fun v => s_prSorted_l1_S l v.1 v.2) (fun i r => (r.reverse ++ l.drop i, (i : Int))) (fun i r => r.length = i) l (fun r x => insR x r) (fun r => r.reverse) ?_ ?_ [] rfl
  · have h1 := key.1
    simp only [List.reverse_nil, List.nil_append, List.drop_zero, Int.natCast_zero] at h1
    rw [h1]; rfl
  · intro i r hi hr
    refine ⟨?_, by rw [insR_len, hr]⟩
    simp only [s_prSorted_l1_S]
    rw [if_pos (lt_nat hi), List.drop_eq_getElem_cons hi]
    have := prSorted_l0_eq l (i : Int) l[i] r (l.drop (i + 1)) (by omega)
    rw [hr] at this
    rw [this, Option.bind_some, wrS i (by omega)]
  · intro r hr
    simp only [s_prSorted_l1_S]
    rw [if_neg (not_lt_nat _)]; simp
theorem s_prSorted_cl (l : List Int) (h0 : l.length < 1099511627776) : Y.call 95 [D.sl 3 (lst (D.int .i64) l)] [] = some (D.own 3 (lst (D.int .i64) (sortI l)), []) := s_prSorted_call l (s_prSorted_eq l h0)

end Go.Proofs.Ytjlphfbpaejicaa
