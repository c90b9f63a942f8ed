/- Unions of problems, as plain functions. Conditions: the lists are short. -/
import Derived.Test.YthaimoghceamnaaL5
import Derived.Test.YthaimoghceamnaaIsP
namespace Go.Proofs.Ythaimoghceamnaa
open Go Dv
set_option linter.unusedSimpArgs false
set_option linter.unusedVariables false
set_option maxRecDepth 100000
set_option maxHeartbeats 4000000

def shiftL (b : Int) (l : List (List Int)) : List (List Int) := l.map fun xs => xs.map fun x => x + b
theorem shiftL_zero (l : List (List Int)) : shiftL 0 l = l := by simp [shiftL]
theorem shiftL_len (b : Int) (l : List (List Int)) : (shiftL b l).length = l.length := by simp [shiftL]
/-- All numbers small. -/
def tinyB (l : List (List Int)) : Bool := l.all fun xs => allIn xs 0 8
theorem tiny_get {l : List (List Int)} (h : tinyB l = true) {xs : List Int} (hx : xs ∈ l) {x : Int} (hxx : x ∈ xs) : 0 ≤ x ∧ x ≤ 8 := inR_iff.1 (List.all_eq_true.1 (List.all_eq_true.1 h xs hx) x hxx)
noncomputable def i_shifted_l0_S (list : List (List Int)) (by_ : Int) (out : List (List Int)) (t13_ : Int) (image : List Int) (t19_ : Int) : Option (((List Int) × Int) ⊕ ((List Int))) :=
  if t19_ < ((list.getD t13_.toNat default).length : Int) then
    ck (0 ≤ t19_ ∧ t19_.toNat < (list.getD t13_.toNat default).length) <|
    ck (image.length + 1 < 1099511627776) <|
    some (Sum.inl ((image ++ [IntKind.i64.wrap (((list.getD t13_.toNat default).getD t19_.toNat default) + by_)]), IntKind.i64.wrap (t19_ + 1)))
  else
    some (Sum.inr image)
noncomputable def i_shifted_l0 (list : List (List Int)) (by_ : Int) (out : List (List Int)) (t13_ : Int) (v : (List Int) × Int) : Option ((List Int)) := itO (fun v => i_shifted_l0_S list by_ out t13_ v.1 v.2) v
noncomputable def i_shifted_l1_S (list : List (List Int)) (by_ : Int) (out : List (List Int)) (t13_ : Int) : Option (((List (List Int)) × Int) ⊕ ((List (List Int)))) :=
  if t13_ < (list.length : Int) then
    ck (0 ≤ t13_ ∧ t13_.toNat < list.length) <|
    (i_shifted_l0 list by_ out t13_ ([], 0)).bind fun r4_ =>
    ck (out.length + 1 < 1099511627776) <|
    some (Sum.inl ((out ++ [r4_]), IntKind.i64.wrap (t13_ + 1)))
  else
    some (Sum.inr out)
noncomputable def i_shifted_l1 (list : List (List Int)) (by_ : Int) (v : (List (List Int)) × Int) : Option ((List (List Int))) := itO (fun v => i_shifted_l1_S list by_ v.1 v.2) v
noncomputable def i_shifted (list : List (List Int)) (by_ : Int) : Option ((List (List Int))) :=
  (i_shifted_l1 list by_ ([], 0)).bind fun r2_ =>
  some r2_
/-- impl.shifted -/
def k73_l0b : SC :=
  .seq
    (.ops [
      ⟨(some 20), (Op.binOp BinOp.lss 3 (Operand.tmp 19) (Operand.tmp 18) 3), 0, none⟩])
    (.seq
      (.cond (Operand.tmp 20)
        .skip
        (.exit 2))
      (.seq
        (.block 3
          (.seq
            (.ops [
              ⟨(some 21), (Op.indexAddr 25 (Operand.tmp 17) (Operand.tmp 19)), 0, none⟩,
              ⟨(some 22), (Op.load 3 (Operand.tmp 21)), 3, none⟩,
              ⟨(some 10), (Op.assign (Operand.tmp 22)), 3, none⟩])
            (.ops [
              ⟨(some 23), (Op.move (Operand.tmp 8)), 25, none⟩,
              ⟨(some 24), (Op.move (Operand.tmp 10)), 3, none⟩,
              ⟨(some 25), (Op.move (Operand.tmp 1)), 3, none⟩,
              ⟨(some 26), (Op.binOp BinOp.add 3 (Operand.tmp 24) (Operand.tmp 25) 3), 3, none⟩,
              ⟨(some 27), (Op.buildSlice 25 1 #[(0, (Operand.tmp 26))]), 25, none⟩,
              ⟨(some 28), (Op.call { callee := (Callee.builtin Builtin.append), args := #[(Operand.tmp 23), (Operand.tmp 27)], argTypes := #[25, 25] }), 25, none⟩,
              ⟨(some 8), (Op.assign (Operand.tmp 28)), 25, none⟩])))
        (.ops [
          ⟨(some 29), (Op.binOp BinOp.add 3 (Operand.tmp 19) (Operand.const (Value.int IntKind.i64 1)) 3), 3, none⟩,
          ⟨(some 19), (Op.move (Operand.tmp 29)), 3, none⟩])))
def k73_l0 : SC := .loop k73_l0b
def k73_l1b : SC :=
  .seq
    (.ops [
      ⟨(some 14), (Op.binOp BinOp.lss 3 (Operand.tmp 13) (Operand.tmp 12) 3), 0, none⟩])
    (.seq
      (.cond (Operand.tmp 14)
        .skip
        (.exit 0))
      (.seq
        (.block 1
          (.seq
            (.ops [
              ⟨(some 15), (Op.indexAddr 34 (Operand.tmp 11) (Operand.tmp 13)), 0, none⟩,
              ⟨(some 16), (Op.load 25 (Operand.tmp 15)), 25, none⟩,
              ⟨(some 7), (Op.assign (Operand.tmp 16)), 25, none⟩])
            (.seq
              (.ops [
                ⟨(some 8), (Op.assign (Operand.const (Value.slice none 0 0))), 25, none⟩])
              (.seq
                (.seq
                  (.ops [
                    ⟨(some 17), (Op.move (Operand.tmp 7)), 25, none⟩,
                    ⟨(some 18), (Op.call { callee := (Callee.builtin Builtin.len), args := #[(Operand.tmp 17)], argTypes := #[25] }), 3, none⟩,
                    ⟨(some 19), (Op.move (Operand.const (Value.int IntKind.i64 0))), 3, none⟩])
                  (.block 2
                    k73_l0))
                (.ops [
                  ⟨(some 30), (Op.move (Operand.tmp 5)), 34, none⟩,
                  ⟨(some 31), (Op.move (Operand.tmp 8)), 25, none⟩,
                  ⟨(some 32), (Op.buildSlice 34 1 #[(0, (Operand.tmp 31))]), 34, none⟩,
                  ⟨(some 33), (Op.call { callee := (Callee.builtin Builtin.append), args := #[(Operand.tmp 30), (Operand.tmp 32)], argTypes := #[34, 34] }), 34, none⟩,
                  ⟨(some 5), (Op.assign (Operand.tmp 33)), 34, none⟩])))))
        (.ops [
          ⟨(some 34), (Op.binOp BinOp.add 3 (Operand.tmp 13) (Operand.const (Value.int IntKind.i64 1)) 3), 3, none⟩,
          ⟨(some 13), (Op.move (Operand.tmp 34)), 3, none⟩])))
def k73_l1 : SC := .loop k73_l1b
def k73 : SC :=
  .seq
    (.ops [
      ⟨(some 4), (Op.assign (Operand.const (Value.slice none 0 0))), 34, none⟩])
    (.seq
      (.ops [
        ⟨(some 5), (Op.assign (Operand.const (Value.slice none 0 0))), 34, none⟩])
      (.seq
        (.seq
          (.ops [
            ⟨(some 11), (Op.move (Operand.tmp 0)), 34, none⟩,
            ⟨(some 12), (Op.call { callee := (Callee.builtin Builtin.len), args := #[(Operand.tmp 11)], argTypes := #[34] }), 3, none⟩,
            ⟨(some 13), (Op.move (Operand.const (Value.int IntKind.i64 0))), 3, none⟩])
          (.block 0
            k73_l1))
        (.seq
          (.ops [
            ⟨(some 35), (Op.move (Operand.tmp 5)), 34, none⟩,
            ⟨(some 4), (Op.assign (Operand.tmp 35)), 34, none⟩])
          .ret)))
theorem slim73 : Try.f73.body.map (slim lends) = some k73 := by kernel_rfl
theorem ok73 : fnOk Try.f73 2 = true := by kernel_rfl
theorem c73 {a l : List D} {r : D × List D} (h : wpD Y.env k73 (fin tys l.length [ResultVar.tmp 4] r) (entry a l)) (ha : a.length = 2) : Y.call 73 a l = some r :=
  call_slim (Y := Y) rfl Try.func73 (ha ▸ ok73) slim73 h
def i_shifted_l0_M (list : List (List Int)) (by_ : Int) (out : List (List Int)) (t13_ : Int) (image : List Int) (t19_ : Int) (s : St) : Prop := s.v 1 = D.int .i64 by_ ∧ s.v 5 = D.own 25 (lst (fun x => D.own 3 (lst (D.int .i64) x)) out) ∧ s.v 8 = D.own 3 (lst (D.int .i64) image) ∧ s.v 11 = D.sl 25 (lst (fun x => D.sl 3 (lst (D.int .i64) x)) list) ∧ s.v 12 = D.int .i64 (list.length : Int) ∧ s.v 13 = D.int .i64 t13_ ∧ s.v 17 = D.sl 3 (lst (D.int .i64) (list.getD t13_.toNat default)) ∧ s.v 18 = D.int .i64 ((list.getD t13_.toNat default).length : Int) ∧ s.v 19 = D.int .i64 t19_
def i_shifted_l0_X (list : List (List Int)) (by_ : Int) (out : List (List Int)) (t13_ : Int) (r : (List Int)) (ex : Ex) (s : St) : Prop := ex = .exit 2 ∧ s.v 1 = D.int .i64 by_ ∧ s.v 5 = D.own 25 (lst (fun x => D.own 3 (lst (D.int .i64) x)) out) ∧ s.v 8 = D.own 3 (lst (D.int .i64) r) ∧ s.v 11 = D.sl 25 (lst (fun x => D.sl 3 (lst (D.int .i64) x)) list) ∧ s.v 12 = D.int .i64 (list.length : Int) ∧ s.v 13 = D.int .i64 t13_
theorem i_shifted_l0_wp (list : List (List Int)) (by_ : Int) (out : List (List Int)) (t13_ : Int) {v : (List Int) × Int} {s : St} {r : (List Int)} (h : i_shifted_l0 list by_ out t13_ v = some r) (hM : i_shifted_l0_M list by_ out t13_ v.1 v.2 s) : wpD Y.env k73_l0 (i_shifted_l0_X list by_ out t13_ r) s := by
  unfold i_shifted_l0 at h
  refine wd_itO (c := k73_l0b) (fun v => i_shifted_l0_S list by_ out t13_ v.1 v.2) (fun v s => i_shifted_l0_M list by_ out t13_ v.1 v.2 s) (i_shifted_l0_X list by_ out t13_) ?_ h hM
  clear h hM s v r
  intro v s o hM h
  obtain ⟨image, t19_⟩ := v
  dsimp only at h hM
  unfold i_shifted_l0_S at h
  unfold i_shifted_l0_M at hM
  obtain ⟨m0, m1, m2, m3, m4, m5, m6, m7, m8⟩ := hM
  unfold k73_l0b
  by_cases e3 : t19_ < ((list.getD t13_.toNat default).length : Int)
  · rw [if_pos e3] at h
    obtain ⟨e4, h⟩ := ckS h
    obtain ⟨e5, h⟩ := ckS h
    obtain rfl := Option.some.inj h
    simp (maxDischargeDepth := 9) only [↓xpre, xpost, xlst, xcore, yset, rg0, ↓reduceIte, Nat.reduceEqDiff, Nat.reduceLT, Nat.reduceLeDiff, Nat.reduceAdd, Nat.reduceMul, Nat.reduceMod, Nat.reduceSub, Nat.reduceBEq, Int.reduceLE, Int.reduceLT, Int.reduceEq, Int.reduceSub, Int.reduceAdd, Int.reduceToNat, Int.reduceNeg, m0, m1, m2, m3, m4, m5, m6, m7, m8, e3, e4.1, e4.2, e5, i_shifted_l0_M, i_shifted_l0_X, sxN, sxE, sxR] <;> (repeat' apply And.intro) <;> first | rfl | exact ⟨_, rfl⟩ | simp [lst]
  · rw [if_neg e3] at h
    obtain rfl := Option.some.inj h
    simp (maxDischargeDepth := 9) only [↓xpre, xpost, xlst, xcore, yset, rg0, ↓reduceIte, Nat.reduceEqDiff, Nat.reduceLT, Nat.reduceLeDiff, Nat.reduceAdd, Nat.reduceMul, Nat.reduceMod, Nat.reduceSub, Nat.reduceBEq, Int.reduceLE, Int.reduceLT, Int.reduceEq, Int.reduceSub, Int.reduceAdd, Int.reduceToNat, Int.reduceNeg, m0, m1, m2, m3, m4, m5, m6, m7, m8, e3, i_shifted_l0_M, i_shifted_l0_X, sxN, sxE, sxR] <;> (repeat' apply And.intro) <;> first | rfl | exact ⟨_, rfl⟩ | simp [lst]
def i_shifted_l1_M (list : List (List Int)) (by_ : Int) (out : List (List Int)) (t13_ : Int) (s : St) : Prop := s.v 1 = D.int .i64 by_ ∧ s.v 5 = D.own 25 (lst (fun x => D.own 3 (lst (D.int .i64) x)) out) ∧ s.v 11 = D.sl 25 (lst (fun x => D.sl 3 (lst (D.int .i64) x)) list) ∧ s.v 12 = D.int .i64 (list.length : Int) ∧ s.v 13 = D.int .i64 t13_
def i_shifted_l1_X (list : List (List Int)) (by_ : Int) (r : (List (List Int))) (ex : Ex) (s : St) : Prop := ex = .exit 0 ∧ s.v 5 = D.own 25 (lst (fun x => D.own 3 (lst (D.int .i64) x)) r)
theorem i_shifted_l1_wp (list : List (List Int)) (by_ : Int) {v : (List (List Int)) × Int} {s : St} {r : (List (List Int))} (h : i_shifted_l1 list by_ v = some r) (hM : i_shifted_l1_M list by_ v.1 v.2 s) : wpD Y.env k73_l1 (i_shifted_l1_X list by_ r) s := by
  unfold i_shifted_l1 at h
  refine wd_itO (c := k73_l1b) (fun v => i_shifted_l1_S list by_ v.1 v.2) (fun v s => i_shifted_l1_M list by_ v.1 v.2 s) (i_shifted_l1_X list by_) ?_ h hM
  clear h hM s v r
  intro v s o hM h
  obtain ⟨out, t13_⟩ := v
  dsimp only at h hM
  unfold i_shifted_l1_S at h
  unfold i_shifted_l1_M at hM
  obtain ⟨m0, m1, m2, m3, m4⟩ := hM
  unfold k73_l1b
  by_cases e1 : t13_ < (list.length : Int)
  · rw [if_pos e1] at h
    obtain ⟨e2, h⟩ := ckS h
    obtain ⟨r4_, hl4, h⟩ := bindS h
    try dsimp only at h
    simp (maxDischargeDepth := 9) only [↓xpre, xpost, xlst, xcore, yset, rg0, ↓reduceIte, Nat.reduceEqDiff, Nat.reduceLT, Nat.reduceLeDiff, Nat.reduceAdd, Nat.reduceMul, Nat.reduceMod, Nat.reduceSub, Nat.reduceBEq, Int.reduceLE, Int.reduceLT, Int.reduceEq, Int.reduceSub, Int.reduceAdd, Int.reduceToNat, Int.reduceNeg, m0, m1, m2, m3, m4, e1, e2.1, e2.2]
    refine wd_mono (i_shifted_l0_wp list by_ out t13_ hl4 ?_) ?_
    · simp (maxDischargeDepth := 9) only [↓xpre, xpost, xlst, xcore, yset, rg0, ↓reduceIte, Nat.reduceEqDiff, Nat.reduceLT, Nat.reduceLeDiff, Nat.reduceAdd, Nat.reduceMul, Nat.reduceMod, Nat.reduceSub, Nat.reduceBEq, Int.reduceLE, Int.reduceLT, Int.reduceEq, Int.reduceSub, Int.reduceAdd, Int.reduceToNat, Int.reduceNeg, m0, m1, m2, m3, m4, e1, e2.1, e2.2, i_shifted_l0_M] <;> (repeat' apply And.intro) <;> first | rfl | exact ⟨_, rfl⟩ | simp [lst]
    · intro ex4 s4 hX4
      unfold i_shifted_l0_X at hX4
      obtain ⟨rfl, n4_0, n4_1, n4_2, n4_3, n4_4, n4_5⟩ := hX4
      obtain ⟨e5, h⟩ := ckS h
      obtain rfl := Option.some.inj h
      simp (maxDischargeDepth := 9) only [↓xpre, xpost, xlst, xcore, yset, rg0, ↓reduceIte, Nat.reduceEqDiff, Nat.reduceLT, Nat.reduceLeDiff, Nat.reduceAdd, Nat.reduceMul, Nat.reduceMod, Nat.reduceSub, Nat.reduceBEq, Int.reduceLE, Int.reduceLT, Int.reduceEq, Int.reduceSub, Int.reduceAdd, Int.reduceToNat, Int.reduceNeg, e1, e2.1, e2.2, n4_0, n4_1, n4_2, n4_3, n4_4, n4_5, e5, i_shifted_l1_M, i_shifted_l1_X, sxN, sxE, sxR] <;> (repeat' apply And.intro) <;> first | rfl | exact ⟨_, rfl⟩ | simp [lst]
  · rw [if_neg e1] at h
    obtain rfl := Option.some.inj h
    simp (maxDischargeDepth := 9) only [↓xpre, xpost, xlst, xcore, yset, rg0, ↓reduceIte, Nat.reduceEqDiff, Nat.reduceLT, Nat.reduceLeDiff, Nat.reduceAdd, Nat.reduceMul, Nat.reduceMod, Nat.reduceSub, Nat.reduceBEq, Int.reduceLE, Int.reduceLT, Int.reduceEq, Int.reduceSub, Int.reduceAdd, Int.reduceToNat, Int.reduceNeg, m0, m1, m2, m3, m4, e1, i_shifted_l1_M, i_shifted_l1_X, sxN, sxE, sxR] <;> (repeat' apply And.intro) <;> first | rfl | exact ⟨_, rfl⟩ | simp [lst]
theorem i_shifted_call (list : List (List Int)) (by_ : Int) {r : (List (List Int))} (h : i_shifted list by_ = some r) : Y.call 73 [D.sl 25 (lst (fun x => D.sl 3 (lst (D.int .i64) x)) list), D.int .i64 by_] [] = some (D.own 25 (lst (fun x => D.own 3 (lst (D.int .i64) x)) r), []) := by
  refine c73 ?_ rfl
  unfold k73
  unfold i_shifted at h
  obtain ⟨r2_, hl2, h⟩ := bindS h
  try dsimp only at h
  simp (maxDischargeDepth := 9) only [↓xpre, xpost, xlst, xcore, yset, rg0, ↓reduceIte, Nat.reduceEqDiff, Nat.reduceLT, Nat.reduceLeDiff, Nat.reduceAdd, Nat.reduceMul, Nat.reduceMod, Nat.reduceSub, Nat.reduceBEq, Int.reduceLE, Int.reduceLT, Int.reduceEq, Int.reduceSub, Int.reduceAdd, Int.reduceToNat, Int.reduceNeg]
  refine wd_mono (i_shifted_l1_wp list by_ hl2 ?_) ?_
  · simp (maxDischargeDepth := 9) only [↓xpre, xpost, xlst, xcore, yset, rg0, ↓reduceIte, Nat.reduceEqDiff, Nat.reduceLT, Nat.reduceLeDiff, Nat.reduceAdd, Nat.reduceMul, Nat.reduceMod, Nat.reduceSub, Nat.reduceBEq, Int.reduceLE, Int.reduceLT, Int.reduceEq, Int.reduceSub, Int.reduceAdd, Int.reduceToNat, Int.reduceNeg, i_shifted_l1_M] <;> (repeat' apply And.intro) <;> first | rfl | exact ⟨_, rfl⟩ | simp [lst]
  · intro ex2 s2 hX2
    unfold i_shifted_l1_X at hX2
    obtain ⟨rfl, n2_0⟩ := hX2
    obtain rfl := Option.some.inj h
    simp (maxDischargeDepth := 9) only [↓xpre, xpost, xlst, xcore, yset, rg0, ↓reduceIte, Nat.reduceEqDiff, Nat.reduceLT, Nat.reduceLeDiff, Nat.reduceAdd, Nat.reduceMul, Nat.reduceMod, Nat.reduceSub, Nat.reduceBEq, Int.reduceLE, Int.reduceLT, Int.reduceEq, Int.reduceSub, Int.reduceAdd, Int.reduceToNat, Int.reduceNeg, n2_0] <;> (repeat' apply And.intro) <;> first | rfl | exact ⟨_, rfl⟩ | simp [lst]

noncomputable def s_reShifted_l0_S (l : List (List Int)) (by_ : Int) (out : List (List Int)) (t13_ : Int) (y : List Int) (t19_ : Int) : Option (((List Int) × Int) ⊕ ((List Int))) :=
  if t19_ < ((l.getD t13_.toNat default).length : Int) then
    ck (0 ≤ t19_ ∧ t19_.toNat < (l.getD t13_.toNat default).length) <|
    ck (y.length + 1 < 1099511627776) <|
    some (Sum.inl ((y ++ [IntKind.i64.wrap (((l.getD t13_.toNat default).getD t19_.toNat default) + by_)]), IntKind.i64.wrap (t19_ + 1)))
  else
    some (Sum.inr y)
noncomputable def s_reShifted_l0 (l : List (List Int)) (by_ : Int) (out : List (List Int)) (t13_ : Int) (v : (List Int) × Int) : Option ((List Int)) := itO (fun v => s_reShifted_l0_S l by_ out t13_ v.1 v.2) v
noncomputable def s_reShifted_l1_S (l : List (List Int)) (by_ : Int) (out : List (List Int)) (t13_ : Int) : Option (((List (List Int)) × Int) ⊕ ((List (List Int)))) :=
  if t13_ < (l.length : Int) then
    ck (0 ≤ t13_ ∧ t13_.toNat < l.length) <|
    (s_reShifted_l0 l by_ out t13_ ([], 0)).bind fun r4_ =>
    ck (out.length + 1 < 1099511627776) <|
    some (Sum.inl ((out ++ [r4_]), IntKind.i64.wrap (t13_ + 1)))
  else
    some (Sum.inr out)
noncomputable def s_reShifted_l1 (l : List (List Int)) (by_ : Int) (v : (List (List Int)) × Int) : Option ((List (List Int))) := itO (fun v => s_reShifted_l1_S l by_ v.1 v.2) v
noncomputable def s_reShifted (l : List (List Int)) (by_ : Int) : Option ((List (List Int))) :=
  (s_reShifted_l1 l by_ ([], 0)).bind fun r2_ =>
  some r2_
/-- spec.reShifted -/
def k70_l0b : SC :=
  .seq
    (.ops [
      ⟨(some 20), (Op.binOp BinOp.lss 3 (Operand.tmp 19) (Operand.tmp 18) 3), 0, none⟩])
    (.seq
      (.cond (Operand.tmp 20)
        .skip
        (.exit 2))
      (.seq
        (.block 3
          (.seq
            (.ops [
              ⟨(some 21), (Op.indexAddr 25 (Operand.tmp 17) (Operand.tmp 19)), 0, none⟩,
              ⟨(some 22), (Op.load 3 (Operand.tmp 21)), 3, none⟩,
              ⟨(some 10), (Op.assign (Operand.tmp 22)), 3, none⟩])
            (.ops [
              ⟨(some 23), (Op.move (Operand.tmp 8)), 25, none⟩,
              ⟨(some 24), (Op.move (Operand.tmp 10)), 3, none⟩,
              ⟨(some 25), (Op.move (Operand.tmp 1)), 3, none⟩,
              ⟨(some 26), (Op.binOp BinOp.add 3 (Operand.tmp 24) (Operand.tmp 25) 3), 3, none⟩,
              ⟨(some 27), (Op.buildSlice 25 1 #[(0, (Operand.tmp 26))]), 25, none⟩,
              ⟨(some 28), (Op.call { callee := (Callee.builtin Builtin.append), args := #[(Operand.tmp 23), (Operand.tmp 27)], argTypes := #[25, 25] }), 25, none⟩,
              ⟨(some 8), (Op.assign (Operand.tmp 28)), 25, none⟩])))
        (.ops [
          ⟨(some 29), (Op.binOp BinOp.add 3 (Operand.tmp 19) (Operand.const (Value.int IntKind.i64 1)) 3), 3, none⟩,
          ⟨(some 19), (Op.move (Operand.tmp 29)), 3, none⟩])))
def k70_l0 : SC := .loop k70_l0b
def k70_l1b : SC :=
  .seq
    (.ops [
      ⟨(some 14), (Op.binOp BinOp.lss 3 (Operand.tmp 13) (Operand.tmp 12) 3), 0, none⟩])
    (.seq
      (.cond (Operand.tmp 14)
        .skip
        (.exit 0))
      (.seq
        (.block 1
          (.seq
            (.ops [
              ⟨(some 15), (Op.indexAddr 34 (Operand.tmp 11) (Operand.tmp 13)), 0, none⟩,
              ⟨(some 16), (Op.load 25 (Operand.tmp 15)), 25, none⟩,
              ⟨(some 7), (Op.assign (Operand.tmp 16)), 25, none⟩])
            (.seq
              (.ops [
                ⟨(some 8), (Op.assign (Operand.const (Value.slice none 0 0))), 25, none⟩])
              (.seq
                (.seq
                  (.ops [
                    ⟨(some 17), (Op.move (Operand.tmp 7)), 25, none⟩,
                    ⟨(some 18), (Op.call { callee := (Callee.builtin Builtin.len), args := #[(Operand.tmp 17)], argTypes := #[25] }), 3, none⟩,
                    ⟨(some 19), (Op.move (Operand.const (Value.int IntKind.i64 0))), 3, none⟩])
                  (.block 2
                    k70_l0))
                (.ops [
                  ⟨(some 30), (Op.move (Operand.tmp 5)), 34, none⟩,
                  ⟨(some 31), (Op.move (Operand.tmp 8)), 25, none⟩,
                  ⟨(some 32), (Op.buildSlice 34 1 #[(0, (Operand.tmp 31))]), 34, none⟩,
                  ⟨(some 33), (Op.call { callee := (Callee.builtin Builtin.append), args := #[(Operand.tmp 30), (Operand.tmp 32)], argTypes := #[34, 34] }), 34, none⟩,
                  ⟨(some 5), (Op.assign (Operand.tmp 33)), 34, none⟩])))))
        (.ops [
          ⟨(some 34), (Op.binOp BinOp.add 3 (Operand.tmp 13) (Operand.const (Value.int IntKind.i64 1)) 3), 3, none⟩,
          ⟨(some 13), (Op.move (Operand.tmp 34)), 3, none⟩])))
def k70_l1 : SC := .loop k70_l1b
def k70 : SC :=
  .seq
    (.ops [
      ⟨(some 4), (Op.assign (Operand.const (Value.slice none 0 0))), 34, none⟩])
    (.seq
      (.ops [
        ⟨(some 5), (Op.assign (Operand.const (Value.slice none 0 0))), 34, none⟩])
      (.seq
        (.seq
          (.ops [
            ⟨(some 11), (Op.move (Operand.tmp 0)), 34, none⟩,
            ⟨(some 12), (Op.call { callee := (Callee.builtin Builtin.len), args := #[(Operand.tmp 11)], argTypes := #[34] }), 3, none⟩,
            ⟨(some 13), (Op.move (Operand.const (Value.int IntKind.i64 0))), 3, none⟩])
          (.block 0
            k70_l1))
        (.seq
          (.ops [
            ⟨(some 35), (Op.move (Operand.tmp 5)), 34, none⟩,
            ⟨(some 4), (Op.assign (Operand.tmp 35)), 34, none⟩])
          .ret)))
theorem slim70 : Try.f70.body.map (slim lends) = some k70 := by kernel_rfl
theorem ok70 : fnOk Try.f70 2 = true := by kernel_rfl
theorem c70 {a l : List D} {r : D × List D} (h : wpD Y.env k70 (fin tys l.length [ResultVar.tmp 4] r) (entry a l)) (ha : a.length = 2) : Y.call 70 a l = some r :=
  call_slim (Y := Y) rfl Try.func70 (ha ▸ ok70) slim70 h
def s_reShifted_l0_M (l : List (List Int)) (by_ : Int) (out : List (List Int)) (t13_ : Int) (y : List Int) (t19_ : Int) (s : St) : Prop := s.v 1 = D.int .i64 by_ ∧ s.v 5 = D.own 25 (lst (fun x => D.own 3 (lst (D.int .i64) x)) out) ∧ s.v 8 = D.own 3 (lst (D.int .i64) y) ∧ s.v 11 = D.sl 25 (lst (fun x => D.sl 3 (lst (D.int .i64) x)) l) ∧ s.v 12 = D.int .i64 (l.length : Int) ∧ s.v 13 = D.int .i64 t13_ ∧ s.v 17 = D.sl 3 (lst (D.int .i64) (l.getD t13_.toNat default)) ∧ s.v 18 = D.int .i64 ((l.getD t13_.toNat default).length : Int) ∧ s.v 19 = D.int .i64 t19_
def s_reShifted_l0_X (l : List (List Int)) (by_ : Int) (out : List (List Int)) (t13_ : Int) (r : (List Int)) (ex : Ex) (s : St) : Prop := ex = .exit 2 ∧ s.v 1 = D.int .i64 by_ ∧ s.v 5 = D.own 25 (lst (fun x => D.own 3 (lst (D.int .i64) x)) out) ∧ s.v 8 = D.own 3 (lst (D.int .i64) r) ∧ s.v 11 = D.sl 25 (lst (fun x => D.sl 3 (lst (D.int .i64) x)) l) ∧ s.v 12 = D.int .i64 (l.length : Int) ∧ s.v 13 = D.int .i64 t13_
theorem s_reShifted_l0_wp (l : List (List Int)) (by_ : Int) (out : List (List Int)) (t13_ : Int) {v : (List Int) × Int} {s : St} {r : (List Int)} (h : s_reShifted_l0 l by_ out t13_ v = some r) (hM : s_reShifted_l0_M l by_ out t13_ v.1 v.2 s) : wpD Y.env k70_l0 (s_reShifted_l0_X l by_ out t13_ r) s := by
  unfold s_reShifted_l0 at h
  refine wd_itO (c := k70_l0b) (fun v => s_reShifted_l0_S l by_ out t13_ v.1 v.2) (fun v s => s_reShifted_l0_M l by_ out t13_ v.1 v.2 s) (s_reShifted_l0_X l by_ out t13_) ?_ h hM
  clear h hM s v r
  intro v s o hM h
  obtain ⟨y, t19_⟩ := v
  dsimp only at h hM
  unfold s_reShifted_l0_S at h
  unfold s_reShifted_l0_M at hM
  obtain ⟨m0, m1, m2, m3, m4, m5, m6, m7, m8⟩ := hM
  unfold k70_l0b
  by_cases e3 : t19_ < ((l.getD t13_.toNat default).length : Int)
  · rw [if_pos e3] at h
    obtain ⟨e4, h⟩ := ckS h
    obtain ⟨e5, h⟩ := ckS h
    obtain rfl := Option.some.inj h
    simp (maxDischargeDepth := 9) only [↓xpre, xpost, xlst, xcore, yset, rg0, ↓reduceIte, Nat.reduceEqDiff, Nat.reduceLT, Nat.reduceLeDiff, Nat.reduceAdd, Nat.reduceMul, Nat.reduceMod, Nat.reduceSub, Nat.reduceBEq, Int.reduceLE, Int.reduceLT, Int.reduceEq, Int.reduceSub, Int.reduceAdd, Int.reduceToNat, Int.reduceNeg, m0, m1, m2, m3, m4, m5, m6, m7, m8, e3, e4.1, e4.2, e5, s_reShifted_l0_M, s_reShifted_l0_X, sxN, sxE, sxR] <;> (repeat' apply And.intro) <;> first | rfl | exact ⟨_, rfl⟩ | simp [lst]
  · rw [if_neg e3] at h
    obtain rfl := Option.some.inj h
    simp (maxDischargeDepth := 9) only [↓xpre, xpost, xlst, xcore, yset, rg0, ↓reduceIte, Nat.reduceEqDiff, Nat.reduceLT, Nat.reduceLeDiff, Nat.reduceAdd, Nat.reduceMul, Nat.reduceMod, Nat.reduceSub, Nat.reduceBEq, Int.reduceLE, Int.reduceLT, Int.reduceEq, Int.reduceSub, Int.reduceAdd, Int.reduceToNat, Int.reduceNeg, m0, m1, m2, m3, m4, m5, m6, m7, m8, e3, s_reShifted_l0_M, s_reShifted_l0_X, sxN, sxE, sxR] <;> (repeat' apply And.intro) <;> first | rfl | exact ⟨_, rfl⟩ | simp [lst]
def s_reShifted_l1_M (l : List (List Int)) (by_ : Int) (out : List (List Int)) (t13_ : Int) (s : St) : Prop := s.v 1 = D.int .i64 by_ ∧ s.v 5 = D.own 25 (lst (fun x => D.own 3 (lst (D.int .i64) x)) out) ∧ s.v 11 = D.sl 25 (lst (fun x => D.sl 3 (lst (D.int .i64) x)) l) ∧ s.v 12 = D.int .i64 (l.length : Int) ∧ s.v 13 = D.int .i64 t13_
def s_reShifted_l1_X (l : List (List Int)) (by_ : Int) (r : (List (List Int))) (ex : Ex) (s : St) : Prop := ex = .exit 0 ∧ s.v 5 = D.own 25 (lst (fun x => D.own 3 (lst (D.int .i64) x)) r)
theorem s_reShifted_l1_wp (l : List (List Int)) (by_ : Int) {v : (List (List Int)) × Int} {s : St} {r : (List (List Int))} (h : s_reShifted_l1 l by_ v = some r) (hM : s_reShifted_l1_M l by_ v.1 v.2 s) : wpD Y.env k70_l1 (s_reShifted_l1_X l by_ r) s := by
  unfold s_reShifted_l1 at h
  refine wd_itO (c := k70_l1b) (fun v => s_reShifted_l1_S l by_ v.1 v.2) (fun v s => s_reShifted_l1_M l by_ v.1 v.2 s) (s_reShifted_l1_X l by_) ?_ h hM
  clear h hM s v r
  intro v s o hM h
  obtain ⟨out, t13_⟩ := v
  dsimp only at h hM
  unfold s_reShifted_l1_S at h
  unfold s_reShifted_l1_M at hM
  obtain ⟨m0, m1, m2, m3, m4⟩ := hM
  unfold k70_l1b
  by_cases e1 : t13_ < (l.length : Int)
  · rw [if_pos e1] at h
    obtain ⟨e2, h⟩ := ckS h
    obtain ⟨r4_, hl4, h⟩ := bindS h
    try dsimp only at h
    simp (maxDischargeDepth := 9) only [↓xpre, xpost, xlst, xcore, yset, rg0, ↓reduceIte, Nat.reduceEqDiff, Nat.reduceLT, Nat.reduceLeDiff, Nat.reduceAdd, Nat.reduceMul, Nat.reduceMod, Nat.reduceSub, Nat.reduceBEq, Int.reduceLE, Int.reduceLT, Int.reduceEq, Int.reduceSub, Int.reduceAdd, Int.reduceToNat, Int.reduceNeg, m0, m1, m2, m3, m4, e1, e2.1, e2.2]
    refine wd_mono (s_reShifted_l0_wp l by_ out t13_ hl4 ?_) ?_
    · simp (maxDischargeDepth := 9) only [↓xpre, xpost, xlst, xcore, yset, rg0, ↓reduceIte, Nat.reduceEqDiff, Nat.reduceLT, Nat.reduceLeDiff, Nat.reduceAdd, Nat.reduceMul, Nat.reduceMod, Nat.reduceSub, Nat.reduceBEq, Int.reduceLE, Int.reduceLT, Int.reduceEq, Int.reduceSub, Int.reduceAdd, Int.reduceToNat, Int.reduceNeg, m0, m1, m2, m3, m4, e1, e2.1, e2.2, s_reShifted_l0_M] <;> (repeat' apply And.intro) <;> first | rfl | exact ⟨_, rfl⟩ | simp [lst]
    · intro ex4 s4 hX4
      unfold s_reShifted_l0_X at hX4
      obtain ⟨rfl, n4_0, n4_1, n4_2, n4_3, n4_4, n4_5⟩ := hX4
      obtain ⟨e5, h⟩ := ckS h
      obtain rfl := Option.some.inj h
      simp (maxDischargeDepth := 9) only [↓xpre, xpost, xlst, xcore, yset, rg0, ↓reduceIte, Nat.reduceEqDiff, Nat.reduceLT, Nat.reduceLeDiff, Nat.reduceAdd, Nat.reduceMul, Nat.reduceMod, Nat.reduceSub, Nat.reduceBEq, Int.reduceLE, Int.reduceLT, Int.reduceEq, Int.reduceSub, Int.reduceAdd, Int.reduceToNat, Int.reduceNeg, e1, e2.1, e2.2, n4_0, n4_1, n4_2, n4_3, n4_4, n4_5, e5, s_reShifted_l1_M, s_reShifted_l1_X, sxN, sxE, sxR] <;> (repeat' apply And.intro) <;> first | rfl | exact ⟨_, rfl⟩ | simp [lst]
  · rw [if_neg e1] at h
    obtain rfl := Option.some.inj h
    simp (maxDischargeDepth := 9) only [↓xpre, xpost, xlst, xcore, yset, rg0, ↓reduceIte, Nat.reduceEqDiff, Nat.reduceLT, Nat.reduceLeDiff, Nat.reduceAdd, Nat.reduceMul, Nat.reduceMod, Nat.reduceSub, Nat.reduceBEq, Int.reduceLE, Int.reduceLT, Int.reduceEq, Int.reduceSub, Int.reduceAdd, Int.reduceToNat, Int.reduceNeg, m0, m1, m2, m3, m4, e1, s_reShifted_l1_M, s_reShifted_l1_X, sxN, sxE, sxR] <;> (repeat' apply And.intro) <;> first | rfl | exact ⟨_, rfl⟩ | simp [lst]
theorem s_reShifted_call (l : List (List Int)) (by_ : Int) {r : (List (List Int))} (h : s_reShifted l by_ = some r) : Y.call 70 [D.sl 25 (lst (fun x => D.sl 3 (lst (D.int .i64) x)) l), D.int .i64 by_] [] = some (D.own 25 (lst (fun x => D.own 3 (lst (D.int .i64) x)) r), []) := by
  refine c70 ?_ rfl
  unfold k70
  unfold s_reShifted at h
  obtain ⟨r2_, hl2, h⟩ := bindS h
  try dsimp only at h
  simp (maxDischargeDepth := 9) only [↓xpre, xpost, xlst, xcore, yset, rg0, ↓reduceIte, Nat.reduceEqDiff, Nat.reduceLT, Nat.reduceLeDiff, Nat.reduceAdd, Nat.reduceMul, Nat.reduceMod, Nat.reduceSub, Nat.reduceBEq, Int.reduceLE, Int.reduceLT, Int.reduceEq, Int.reduceSub, Int.reduceAdd, Int.reduceToNat, Int.reduceNeg]
  refine wd_mono (s_reShifted_l1_wp l by_ hl2 ?_) ?_
  · simp (maxDischargeDepth := 9) only [↓xpre, xpost, xlst, xcore, yset, rg0, ↓reduceIte, Nat.reduceEqDiff, Nat.reduceLT, Nat.reduceLeDiff, Nat.reduceAdd, Nat.reduceMul, Nat.reduceMod, Nat.reduceSub, Nat.reduceBEq, Int.reduceLE, Int.reduceLT, Int.reduceEq, Int.reduceSub, Int.reduceAdd, Int.reduceToNat, Int.reduceNeg, s_reShifted_l1_M] <;> (repeat' apply And.intro) <;> first | rfl | exact ⟨_, rfl⟩ | simp [lst]
  · intro ex2 s2 hX2
    unfold s_reShifted_l1_X at hX2
    obtain ⟨rfl, n2_0⟩ := hX2
    obtain rfl := Option.some.inj h
    simp (maxDischargeDepth := 9) only [↓xpre, xpost, xlst, xcore, yset, rg0, ↓reduceIte, Nat.reduceEqDiff, Nat.reduceLT, Nat.reduceLeDiff, Nat.reduceAdd, Nat.reduceMul, Nat.reduceMod, Nat.reduceSub, Nat.reduceBEq, Int.reduceLE, Int.reduceLT, Int.reduceEq, Int.reduceSub, Int.reduceAdd, Int.reduceToNat, Int.reduceNeg, n2_0] <;> (repeat' apply And.intro) <;> first | rfl | exact ⟨_, rfl⟩ | simp [lst]

theorem i_shifted_eq (l : List (List Int)) (b : Int) (h : Short l) (ht : tinyB l = true) (hb : 0 ≤ b ∧ b ≤ 8) : i_shifted l b = some (shiftL b l) := by
  have h1 := h.1
  unfold i_shifted i_shifted_l1
  rw [itO_push (fun v => i_shifted_l1_S l b v.1 v.2) l (fun xs => xs.map fun x => x + b)]
  · rfl
  · intro i hi out ho
    simp only [i_shifted_l1_S]
    rw [if_pos (lt_nat hi), ckT (ix_nat hi)]
    have hx := h.at i hi
    have inner : i_shifted_l0 l b out (i : Int) ([], 0) = some (l[i].map fun x => x + b) := by
      unfold i_shifted_l0
      refine itO_push (fun v => i_shifted_l0_S l b out (i : Int) v.1 v.2) l[i] (fun x => x + b) ?_ ?_
      · intro j hj out2 ho2
        have hv := tiny_get ht (List.getElem_mem hi) (List.getElem_mem hj)
        simp only [i_shifted_l0_S]
        rw [getD_nat _ _ hi, if_pos (lt_nat hj), ckT (ix_nat hj), ckT (by omega), getD_nat _ _ hj, wr64 _ (by omega), wrS j (by omega)]
      · intro out2 ho2
        simp only [i_shifted_l0_S]
        rw [getD_nat _ _ hi, if_neg (not_lt_nat _)]
    rw [inner, Option.bind_some, ckT (by omega), wrS i (by omega)]
  · intro out ho
    simp only [i_shifted_l1_S]; rw [if_neg (not_lt_nat _)]
theorem s_reShifted_eq (l : List (List Int)) (b : Int) (h : Short l) (ht : tinyB l = true) (hb : 0 ≤ b ∧ b ≤ 8) : s_reShifted l b = some (shiftL b l) := by
  have h1 := h.1
  unfold s_reShifted s_reShifted_l1
  rw [itO_push (fun v => s_reShifted_l1_S l b v.1 v.2) l (fun xs => xs.map fun x => x + b)]
  · rfl
  · intro i hi out ho
    simp only [s_reShifted_l1_S]
    rw [if_pos (lt_nat hi), ckT (ix_nat hi)]
    have hx := h.at i hi
    have inner : s_reShifted_l0 l b out (i : Int) ([], 0) = some (l[i].map fun x => x + b) := by
      unfold s_reShifted_l0
      refine itO_push (fun v => s_reShifted_l0_S l b out (i : Int) v.1 v.2) l[i] (fun x => x + b) ?_ ?_
      · intro j hj out2 ho2
        have hv := tiny_get ht (List.getElem_mem hi) (List.getElem_mem hj)
        simp only [s_reShifted_l0_S]
        rw [getD_nat _ _ hi, if_pos (lt_nat hj), ckT (ix_nat hj), ckT (by omega), getD_nat _ _ hj, wr64 _ (by omega), wrS j (by omega)]
      · intro out2 ho2
        simp only [s_reShifted_l0_S]
        rw [getD_nat _ _ hi, if_neg (not_lt_nat _)]
    rw [inner, Option.bind_some, ckT (by omega), wrS i (by omega)]
  · intro out ho
    simp only [s_reShifted_l1_S]; rw [if_neg (not_lt_nat _)]
theorem i_shifted_cl (list : List (List Int)) (by_ : Int) (h0 : Short list) (h1 : tinyB list = true) (h2 : 0 ≤ by_ ∧ by_ ≤ 8) : Y.call 73 [D.sl 25 (lst (fun x => D.sl 3 (lst (D.int .i64) x)) list), D.int .i64 by_] [] = some (D.own 25 (lst (fun x => D.own 3 (lst (D.int .i64) x)) (shiftL by_ list)), []) := i_shifted_call list by_ (i_shifted_eq list by_ h0 h1 h2)
theorem s_reShifted_cl (l : List (List Int)) (by_ : Int) (h0 : Short l) (h1 : tinyB l = true) (h2 : 0 ≤ by_ ∧ by_ ≤ 8) : Y.call 70 [D.sl 25 (lst (fun x => D.sl 3 (lst (D.int .i64) x)) l), D.int .i64 by_] [] = some (D.own 25 (lst (fun x => D.own 3 (lst (D.int .i64) x)) (shiftL by_ l)), []) := s_reShifted_call l by_ (s_reShifted_eq l by_ h0 h1 h2)
theorem g_slices_Clone_Sint_int_cl (xs : List Int) (h : xs.length < 1099511627776) : Y.call 86 [.sl 3 (lst (D.int .i64) xs)] [] = some (.own 3 (lst (D.int .i64) xs), []) := by
  refine clone_86 (lst (D.int .i64) xs) (by rw [lst_length]; exact h) (lst_solid _ _ (fun x => rfl)) (lst_hasObj _ _ (fun x => by first | exact hoI .. | exact hoSl .. | exact hoB .. | exact hoS ..)) ?_
  simp (maxDischargeDepth := 9) only [↓xpre, xpost, xlst, xcore, yset, rg0, ↓reduceIte, Nat.reduceEqDiff, Nat.reduceLT, Nat.reduceLeDiff, Nat.reduceAdd, Nat.reduceMul, Nat.reduceMod, Nat.reduceSub, Nat.reduceBEq, Int.reduceLE, Int.reduceLT, Int.reduceEq, Int.reduceSub, Int.reduceAdd, Int.reduceToNat, Int.reduceNeg, Option.isSome_some]

noncomputable def i_copyLists_l0_S (l : List (List Int)) (out : List (List Int)) (t10_ : Int) : Option (((List (List Int)) × Int) ⊕ ((List (List Int)))) :=
  if t10_ < (l.length : Int) then
    ck (0 ≤ t10_ ∧ t10_.toNat < l.length) <|
    ck ((l.getD t10_.toNat default).length < 1099511627776) <|
    ck (0 ≤ t10_ ∧ t10_.toNat < out.length) <|
    some (Sum.inl ((out.set t10_.toNat (l.getD t10_.toNat default)), IntKind.i64.wrap (t10_ + 1)))
  else
    some (Sum.inr out)
noncomputable def i_copyLists_l0 (l : List (List Int)) (v : (List (List Int)) × Int) : Option ((List (List Int))) := itO (fun v => i_copyLists_l0_S l v.1 v.2) v
noncomputable def i_copyLists (l : List (List Int)) : Option ((List (List Int))) :=
  ck (0 ≤ (l.length : Int) ∧ (l.length : Int) < 1099511627776) <|
  (i_copyLists_l0 l ((List.replicate l.length []), 0)).bind fun r3_ =>
  some r3_
/-- impl.copyLists -/
def k72_l0b : SC :=
  .seq
    (.ops [
      ⟨(some 11), (Op.binOp BinOp.lss 3 (Operand.tmp 10) (Operand.tmp 9) 3), 0, none⟩])
    (.seq
      (.cond (Operand.tmp 11)
        .skip
        (.exit 0))
      (.seq
        (.block 1
          (.seq
            (.ops [
              ⟨(some 12), (Op.move (Operand.tmp 10)), 3, none⟩,
              ⟨(some 4), (Op.assign (Operand.tmp 12)), 3, none⟩])
            (.ops [
              ⟨(some 13), (Op.move (Operand.tmp 3)), 34, none⟩,
              ⟨(some 14), (Op.move (Operand.tmp 4)), 3, none⟩,
              ⟨(some 15), (Op.move (Operand.tmp 0)), 34, none⟩,
              ⟨(some 16), (Op.move (Operand.tmp 4)), 3, none⟩,
              ⟨(some 17), (Op.indexAddr 34 (Operand.tmp 15) (Operand.tmp 16)), 0, none⟩,
              ⟨(some 18), (Op.load 25 (Operand.tmp 17)), 25, none⟩,
              ⟨(some 19), (Op.call { callee := (Callee.value (Operand.func 86)), args := #[(Operand.tmp 18)], argTypes := #[25] }), 25, none⟩,
              ⟨(some 20), (Op.indexAddr 34 (Operand.tmp 13) (Operand.tmp 14)), 0, none⟩,
              ⟨none, (Op.store 25 (Operand.tmp 20) (Operand.tmp 19)), 0, none⟩])))
        (.ops [
          ⟨(some 21), (Op.binOp BinOp.add 3 (Operand.tmp 10) (Operand.const (Value.int IntKind.i64 1)) 3), 3, none⟩,
          ⟨(some 10), (Op.move (Operand.tmp 21)), 3, none⟩])))
def k72_l0 : SC := .loop k72_l0b
def k72 : SC :=
  .seq
    (.ops [
      ⟨(some 2), (Op.assign (Operand.const (Value.slice none 0 0))), 34, none⟩])
    (.seq
      (.ops [
        ⟨(some 5), (Op.move (Operand.tmp 0)), 34, none⟩,
        ⟨(some 6), (Op.call { callee := (Callee.builtin Builtin.len), args := #[(Operand.tmp 5)], argTypes := #[34] }), 3, none⟩,
        ⟨(some 7), (Op.makeSlice 34 (Operand.tmp 6) (Operand.tmp 6)), 34, none⟩,
        ⟨(some 3), (Op.assign (Operand.tmp 7)), 34, none⟩])
      (.seq
        (.seq
          (.ops [
            ⟨(some 8), (Op.move (Operand.tmp 0)), 34, none⟩,
            ⟨(some 9), (Op.call { callee := (Callee.builtin Builtin.len), args := #[(Operand.tmp 8)], argTypes := #[34] }), 3, none⟩,
            ⟨(some 10), (Op.move (Operand.const (Value.int IntKind.i64 0))), 3, none⟩])
          (.block 0
            k72_l0))
        (.seq
          (.ops [
            ⟨(some 22), (Op.move (Operand.tmp 3)), 34, none⟩,
            ⟨(some 2), (Op.assign (Operand.tmp 22)), 34, none⟩])
          .ret)))
theorem slim72 : Try.f72.body.map (slim lends) = some k72 := by kernel_rfl
theorem ok72 : fnOk Try.f72 1 = true := by kernel_rfl
theorem c72 {a l : List D} {r : D × List D} (h : wpD Y.env k72 (fin tys l.length [ResultVar.tmp 2] r) (entry a l)) (ha : a.length = 1) : Y.call 72 a l = some r :=
  call_slim (Y := Y) rfl Try.func72 (ha ▸ ok72) slim72 h
def i_copyLists_l0_M (l : List (List Int)) (out : List (List Int)) (t10_ : Int) (s : St) : Prop := s.v 0 = D.sl 25 (lst (fun x => D.sl 3 (lst (D.int .i64) x)) l) ∧ s.v 3 = D.own 25 (lst (fun x => D.own 3 (lst (D.int .i64) x)) out) ∧ s.v 9 = D.int .i64 (l.length : Int) ∧ s.v 10 = D.int .i64 t10_
def i_copyLists_l0_X (l : List (List Int)) (r : (List (List Int))) (ex : Ex) (s : St) : Prop := ex = .exit 0 ∧ s.v 3 = D.own 25 (lst (fun x => D.own 3 (lst (D.int .i64) x)) r)
theorem i_copyLists_l0_wp (l : List (List Int)) {v : (List (List Int)) × Int} {s : St} {r : (List (List Int))} (h : i_copyLists_l0 l v = some r) (hM : i_copyLists_l0_M l v.1 v.2 s) : wpD Y.env k72_l0 (i_copyLists_l0_X l r) s := by
  unfold i_copyLists_l0 at h
  refine wd_itO (c := k72_l0b) (fun v => i_copyLists_l0_S l v.1 v.2) (fun v s => i_copyLists_l0_M l v.1 v.2 s) (i_copyLists_l0_X l) ?_ h hM
  clear h hM s v r
  intro v s o hM h
  obtain ⟨out, t10_⟩ := v
  dsimp only at h hM
  unfold i_copyLists_l0_S at h
  unfold i_copyLists_l0_M at hM
  obtain ⟨m0, m1, m2, m3⟩ := hM
  unfold k72_l0b
  by_cases e2 : t10_ < (l.length : Int)
  · rw [if_pos e2] at h
    obtain ⟨e3, h⟩ := ckS h
    obtain ⟨e4, h⟩ := ckS h
    have c5 := g_slices_Clone_Sint_int_cl (l.getD t10_.toNat default) e4
    obtain ⟨e6, h⟩ := ckS h
    obtain rfl := Option.some.inj h
    simp (maxDischargeDepth := 9) only [↓xpre, xpost, xlst, xcore, yset, rg0, ↓reduceIte, Nat.reduceEqDiff, Nat.reduceLT, Nat.reduceLeDiff, Nat.reduceAdd, Nat.reduceMul, Nat.reduceMod, Nat.reduceSub, Nat.reduceBEq, Int.reduceLE, Int.reduceLT, Int.reduceEq, Int.reduceSub, Int.reduceAdd, Int.reduceToNat, Int.reduceNeg, m0, m1, m2, m3, e2, e3.1, e3.2, e4, c5, e6.1, e6.2, i_copyLists_l0_M, i_copyLists_l0_X, sxN, sxE, sxR] <;> (repeat' apply And.intro) <;> first | rfl | exact ⟨_, rfl⟩ | simp [lst]
  · rw [if_neg e2] at h
    obtain rfl := Option.some.inj h
    simp (maxDischargeDepth := 9) only [↓xpre, xpost, xlst, xcore, yset, rg0, ↓reduceIte, Nat.reduceEqDiff, Nat.reduceLT, Nat.reduceLeDiff, Nat.reduceAdd, Nat.reduceMul, Nat.reduceMod, Nat.reduceSub, Nat.reduceBEq, Int.reduceLE, Int.reduceLT, Int.reduceEq, Int.reduceSub, Int.reduceAdd, Int.reduceToNat, Int.reduceNeg, m0, m1, m2, m3, e2, i_copyLists_l0_M, i_copyLists_l0_X, sxN, sxE, sxR] <;> (repeat' apply And.intro) <;> first | rfl | exact ⟨_, rfl⟩ | simp [lst]
theorem i_copyLists_call (l : List (List Int)) {r : (List (List Int))} (h : i_copyLists l = some r) : Y.call 72 [D.sl 25 (lst (fun x => D.sl 3 (lst (D.int .i64) x)) l)] [] = some (D.own 25 (lst (fun x => D.own 3 (lst (D.int .i64) x)) r), []) := by
  refine c72 ?_ rfl
  unfold k72
  unfold i_copyLists at h
  obtain ⟨e1, h⟩ := ckS h
  obtain ⟨r3_, hl3, h⟩ := bindS h
  try dsimp only at h
  simp (maxDischargeDepth := 9) only [↓xpre, xpost, xlst, xcore, yset, rg0, ↓reduceIte, Nat.reduceEqDiff, Nat.reduceLT, Nat.reduceLeDiff, Nat.reduceAdd, Nat.reduceMul, Nat.reduceMod, Nat.reduceSub, Nat.reduceBEq, Int.reduceLE, Int.reduceLT, Int.reduceEq, Int.reduceSub, Int.reduceAdd, Int.reduceToNat, Int.reduceNeg, e1.1, e1.2]
  refine wd_mono (i_copyLists_l0_wp l hl3 ?_) ?_
  · simp (maxDischargeDepth := 9) only [↓xpre, xpost, xlst, xcore, yset, rg0, ↓reduceIte, Nat.reduceEqDiff, Nat.reduceLT, Nat.reduceLeDiff, Nat.reduceAdd, Nat.reduceMul, Nat.reduceMod, Nat.reduceSub, Nat.reduceBEq, Int.reduceLE, Int.reduceLT, Int.reduceEq, Int.reduceSub, Int.reduceAdd, Int.reduceToNat, Int.reduceNeg, e1.1, e1.2, i_copyLists_l0_M] <;> (repeat' apply And.intro) <;> first | rfl | exact ⟨_, rfl⟩ | simp [lst]
  · intro ex3 s3 hX3
    unfold i_copyLists_l0_X at hX3
    obtain ⟨rfl, n3_0⟩ := hX3
    obtain rfl := Option.some.inj h
    simp (maxDischargeDepth := 9) only [↓xpre, xpost, xlst, xcore, yset, rg0, ↓reduceIte, Nat.reduceEqDiff, Nat.reduceLT, Nat.reduceLeDiff, Nat.reduceAdd, Nat.reduceMul, Nat.reduceMod, Nat.reduceSub, Nat.reduceBEq, Int.reduceLE, Int.reduceLT, Int.reduceEq, Int.reduceSub, Int.reduceAdd, Int.reduceToNat, Int.reduceNeg, e1.1, e1.2, n3_0] <;> (repeat' apply And.intro) <;> first | rfl | exact ⟨_, rfl⟩ | simp [lst]

noncomputable def s_reOwn (l : List (List Int)) : Option ((List (List Int))) :=
  ck (Short l) <|
  ck (tinyB l = true) <|
  ck (0 ≤ (0 : Int) ∧ (0 : Int) ≤ 8) <|
  some (shiftL (0 : Int) l)
/-- spec.reOwn -/
def k69 : SC :=
  .seq
    (.ops [
      ⟨(some 2), (Op.assign (Operand.const (Value.slice none 0 0))), 34, none⟩])
    (.seq
      (.ops [
        ⟨(some 3), (Op.move (Operand.tmp 0)), 34, none⟩,
        ⟨(some 4), (Op.call { callee := (Callee.value (Operand.func 70)), args := #[(Operand.tmp 3), (Operand.const (Value.int IntKind.i64 0))], argTypes := #[34, 3] }), 34, none⟩,
        ⟨(some 2), (Op.assign (Operand.tmp 4)), 34, none⟩])
      .ret)
theorem slim69 : Try.f69.body.map (slim lends) = some k69 := by kernel_rfl
theorem ok69 : fnOk Try.f69 1 = true := by kernel_rfl
theorem c69 {a l : List D} {r : D × List D} (h : wpD Y.env k69 (fin tys l.length [ResultVar.tmp 2] r) (entry a l)) (ha : a.length = 1) : Y.call 69 a l = some r :=
  call_slim (Y := Y) rfl Try.func69 (ha ▸ ok69) slim69 h
theorem s_reOwn_call (l : List (List Int)) {r : (List (List Int))} (h : s_reOwn l = some r) : Y.call 69 [D.sl 25 (lst (fun x => D.sl 3 (lst (D.int .i64) x)) l)] [] = some (D.own 25 (lst (fun x => D.own 3 (lst (D.int .i64) x)) r), []) := by
  refine c69 ?_ rfl
  unfold k69
  unfold s_reOwn at h
  obtain ⟨e1, h⟩ := ckS h
  obtain ⟨e2, h⟩ := ckS h
  obtain ⟨e3, h⟩ := ckS h
  have c4 := s_reShifted_cl l (0 : Int) e1 e2 e3
  obtain rfl := Option.some.inj h
  simp (maxDischargeDepth := 9) only [↓xpre, xpost, xlst, xcore, yset, rg0, ↓reduceIte, Nat.reduceEqDiff, Nat.reduceLT, Nat.reduceLeDiff, Nat.reduceAdd, Nat.reduceMul, Nat.reduceMod, Nat.reduceSub, Nat.reduceBEq, Int.reduceLE, Int.reduceLT, Int.reduceEq, Int.reduceSub, Int.reduceAdd, Int.reduceToNat, Int.reduceNeg, e1, e2, e3.1, e3.2, c4] <;> (repeat' apply And.intro) <;> first | rfl | exact ⟨_, rfl⟩ | simp [lst]

theorem i_copyLists_eq (l : List (List Int)) (h : Short l) : i_copyLists l = some l := by
  have h1 := h.1
  unfold i_copyLists i_copyLists_l0
  rw [ckT (by omega), itO_fill (fun v => i_copyLists_l0_S l v.1 v.2) l (fun xs => xs) []]
  · simp
  · intro i hi out ho
    have hx := h.at i hi
    simp only [i_copyLists_l0_S]
    rw [if_pos (lt_nat hi), ckT (ix_nat hi), getD_nat _ _ hi, ckT hx, ckT (by omega), wrS i (by omega), Int.toNat_natCast]
  · intro out ho
    simp only [i_copyLists_l0_S]; rw [if_neg (not_lt_nat _)]
theorem s_reOwn_eq (l : List (List Int)) (h : Short l) (ht : tinyB l = true) : s_reOwn l = some l := by
  unfold s_reOwn
  rw [ckT h, ckT ht, ckT (by omega), shiftL_zero]
theorem i_copyLists_cl (l : List (List Int)) (h0 : Short l) : Y.call 72 [D.sl 25 (lst (fun x => D.sl 3 (lst (D.int .i64) x)) l)] [] = some (D.own 25 (lst (fun x => D.own 3 (lst (D.int .i64) x)) l), []) := i_copyLists_call l (i_copyLists_eq l h0)
theorem s_reOwn_cl (l : List (List Int)) (h0 : Short l) (h1 : tinyB l = true) : Y.call 69 [D.sl 25 (lst (fun x => D.sl 3 (lst (D.int .i64) x)) l)] [] = some (D.own 25 (lst (fun x => D.own 3 (lst (D.int .i64) x)) l), []) := s_reOwn_call l (s_reOwn_eq l h0 h1)
noncomputable def i_madeProblem (p_Labels : Int) (p_Degree : Int) (p_Nodes : List (List Int)) (p_Edges : List (List Int)) : Option ((Int × Int × (List (List Int)) × (List (List Int)) × Bool) ⊕ (Int × Int × (List (List Int)) × (List (List Int)) × Bool × (List (List Int)) × (List (List Int)))) :=
  ck (Short p_Nodes) <|
  ck (Short p_Edges) <|
  if (isProb p_Labels p_Degree p_Nodes p_Edges) = true then
    some (Sum.inl (p_Labels, p_Degree, p_Nodes, p_Edges, true))
  else
    some (Sum.inr (0, 0, [], [], false, p_Nodes, p_Edges))
/-- impl.madeProblem -/
def k61 : SC :=
  .seq
    (.ops [
      ⟨(some 1), (Op.box 39 (Operand.tmp 0)), 0, none⟩,
      ⟨(some 2), (Op.alloc 39), 0, none⟩,
      ⟨(some 3), (Op.assign (Operand.const (Value.bool false))), 4, none⟩])
    (.seq
      (.seq
        (.ops [
          ⟨(some 4), (Op.load 39 (Operand.tmp 1)), 39, none⟩,
          ⟨(some 5), (Op.call { callee := (Callee.value (Operand.func 27)), args := #[(Operand.tmp 4)], argTypes := #[39] }), 4, none⟩,
          ⟨(some 6), (Op.unOp UnOp.not 4 (Operand.tmp 5)), 4, none⟩])
        (.cond (Operand.tmp 6)
          (.seq
            (.ops [
              ⟨(some 7), (Op.build 39 #[]), 39, none⟩,
              ⟨none, (Op.store 39 (Operand.tmp 2) (Operand.tmp 7)), 0, none⟩,
              ⟨(some 3), (Op.assign (Operand.const (Value.bool false))), 4, none⟩])
            .ret)
          .skip))
      (.seq
        (.ops [
          ⟨(some 8), (Op.load 39 (Operand.tmp 1)), 39, none⟩,
          ⟨none, (Op.store 39 (Operand.tmp 2) (Operand.tmp 8)), 0, none⟩,
          ⟨(some 3), (Op.assign (Operand.const (Value.bool true))), 4, none⟩])
        .ret))
theorem slim61 : Try.f61.body.map (slim lends) = some k61 := by kernel_rfl
theorem ok61 : fnOk Try.f61 1 = true := by kernel_rfl
theorem c61 {a l : List D} {r : D × List D} (h : wpD Y.env k61 (fin tys l.length [ResultVar.cell 2 39, ResultVar.tmp 3] r) (entry a l)) (ha : a.length = 1) : Y.call 61 a l = some r :=
  call_slim (Y := Y) rfl Try.func61 (ha ▸ ok61) slim61 h
theorem i_madeProblem_call (p_Labels : Int) (p_Degree : Int) (p_Nodes : List (List Int)) (p_Edges : List (List Int)) {r : (Int × Int × (List (List Int)) × (List (List Int)) × Bool) ⊕ (Int × Int × (List (List Int)) × (List (List Int)) × Bool × (List (List Int)) × (List (List Int)))} (h : i_madeProblem p_Labels p_Degree p_Nodes p_Edges = some r) : Y.call 61 [D.agg [D.int .i64 p_Labels, D.int .i64 p_Degree, D.vw [100000] 0 0, D.vw [100001] 0 0]] [D.own 25 (lst (fun x => D.own 3 (lst (D.int .i64) x)) p_Nodes), D.own 25 (lst (fun x => D.own 3 (lst (D.int .i64) x)) p_Edges)] = some (match r with | .inl q => (D.tup [D.agg [D.int .i64 q.1, D.int .i64 q.2.1, D.own 25 (lst (fun x => D.own 3 (lst (D.int .i64) x)) q.2.2.1), D.own 25 (lst (fun x => D.own 3 (lst (D.int .i64) x)) q.2.2.2.1)], D.bool q.2.2.2.2], [D.undef, D.undef]) | .inr q => (D.tup [D.agg [D.int .i64 q.1, D.int .i64 q.2.1, D.own 25 (lst (fun x => D.own 3 (lst (D.int .i64) x)) q.2.2.1), D.own 25 (lst (fun x => D.own 3 (lst (D.int .i64) x)) q.2.2.2.1)], D.bool q.2.2.2.2.1], [D.own 25 (lst (fun x => D.own 3 (lst (D.int .i64) x)) q.2.2.2.2.2.1), D.own 25 (lst (fun x => D.own 3 (lst (D.int .i64) x)) q.2.2.2.2.2.2)])) := by
  refine c61 ?_ rfl
  unfold k61
  unfold i_madeProblem at h
  obtain ⟨e1, h⟩ := ckS h
  obtain ⟨e2, h⟩ := ckS h
  have c3 := i_IsProblem_cl p_Labels p_Degree p_Nodes p_Edges e1 e2
  by_cases e4 : (isProb p_Labels p_Degree p_Nodes p_Edges) = true
  · rw [if_pos e4] at h
    obtain rfl := Option.some.inj h
    simp (maxDischargeDepth := 9) only [↓xpre, xpost, xlst, xcore, yset, rg0, ↓reduceIte, Nat.reduceEqDiff, Nat.reduceLT, Nat.reduceLeDiff, Nat.reduceAdd, Nat.reduceMul, Nat.reduceMod, Nat.reduceSub, Nat.reduceBEq, Int.reduceLE, Int.reduceLT, Int.reduceEq, Int.reduceSub, Int.reduceAdd, Int.reduceToNat, Int.reduceNeg, e1, e2, c3, e4] <;> (repeat' apply And.intro) <;> first | rfl | exact ⟨_, rfl⟩ | simp [lst]
  · rw [if_neg e4] at h
    have e4f : (isProb p_Labels p_Degree p_Nodes p_Edges) = false := Bool.eq_false_iff.mpr e4
    obtain rfl := Option.some.inj h
    simp (maxDischargeDepth := 9) only [↓xpre, xpost, xlst, xcore, yset, rg0, ↓reduceIte, Nat.reduceEqDiff, Nat.reduceLT, Nat.reduceLeDiff, Nat.reduceAdd, Nat.reduceMul, Nat.reduceMod, Nat.reduceSub, Nat.reduceBEq, Int.reduceLE, Int.reduceLT, Int.reduceEq, Int.reduceSub, Int.reduceAdd, Int.reduceToNat, Int.reduceNeg, e1, e2, c3, e4f] <;> (repeat' apply And.intro) <;> first | rfl | exact ⟨_, rfl⟩ | simp [lst]

noncomputable def i_areProblems (p_Labels : Int) (p_Degree : Int) (p_Nodes : List (List Int)) (p_Edges : List (List Int)) (q_Labels : Int) (q_Degree : Int) (q_Nodes : List (List Int)) (q_Edges : List (List Int)) : Option (Bool) :=
  ck (Short p_Nodes) <|
  ck (Short p_Edges) <|
  if (isProb p_Labels p_Degree p_Nodes p_Edges) = true then
    ck (Short q_Nodes) <|
    ck (Short q_Edges) <|
    if (isProb q_Labels q_Degree q_Nodes q_Edges) = true then
      some (decide (p_Degree = q_Degree))
    else
      some false
  else
    some false
/-- impl.areProblems -/
def k71 : SC :=
  .seq
    (.ops [
      ⟨(some 2), (Op.box 39 (Operand.tmp 0)), 0, none⟩,
      ⟨(some 3), (Op.box 39 (Operand.tmp 1)), 0, none⟩,
      ⟨(some 4), (Op.assign (Operand.const (Value.bool false))), 4, none⟩])
    (.seq
      (.ops [
        ⟨(some 5), (Op.load 39 (Operand.tmp 2)), 39, none⟩,
        ⟨(some 6), (Op.call { callee := (Callee.value (Operand.func 27)), args := #[(Operand.tmp 5)], argTypes := #[39] }), 4, none⟩,
        ⟨(some 7), (Op.move (Operand.tmp 6)), 4, none⟩,
        ⟨(some 8), (Op.load 39 (Operand.tmp 3)), 39, (some (some 7, true))⟩,
        ⟨(some 9), (Op.call { callee := (Callee.value (Operand.func 27)), args := #[(Operand.tmp 8)], argTypes := #[39] }), 4, (some (some 7, true))⟩,
        ⟨(some 10), (Op.pick (Operand.tmp 7) (Operand.tmp 9) (Operand.const (Value.bool false))), 4, none⟩,
        ⟨(some 11), (Op.move (Operand.tmp 10)), 4, none⟩,
        ⟨(some 12), (Op.fieldAddr 39 (Operand.tmp 2) 1), 0, (some (some 11, true))⟩,
        ⟨(some 13), (Op.load 3 (Operand.tmp 12)), 3, (some (some 11, true))⟩,
        ⟨(some 14), (Op.fieldAddr 39 (Operand.tmp 3) 1), 0, (some (some 11, true))⟩,
        ⟨(some 15), (Op.load 3 (Operand.tmp 14)), 3, (some (some 11, true))⟩,
        ⟨(some 16), (Op.binOp BinOp.eql 3 (Operand.tmp 13) (Operand.tmp 15) 3), 4, (some (some 11, true))⟩,
        ⟨(some 17), (Op.pick (Operand.tmp 11) (Operand.tmp 16) (Operand.const (Value.bool false))), 4, none⟩,
        ⟨(some 4), (Op.assign (Operand.tmp 17)), 4, none⟩])
      .ret)
theorem slim71 : Try.f71.body.map (slim lends) = some k71 := by kernel_rfl
theorem ok71 : fnOk Try.f71 2 = true := by kernel_rfl
theorem c71 {a l : List D} {r : D × List D} (h : wpD Y.env k71 (fin tys l.length [ResultVar.tmp 4] r) (entry a l)) (ha : a.length = 2) : Y.call 71 a l = some r :=
  call_slim (Y := Y) rfl Try.func71 (ha ▸ ok71) slim71 h
theorem i_areProblems_call (p_Labels : Int) (p_Degree : Int) (p_Nodes : List (List Int)) (p_Edges : List (List Int)) (q_Labels : Int) (q_Degree : Int) (q_Nodes : List (List Int)) (q_Edges : List (List Int)) {r : Bool} (h : i_areProblems p_Labels p_Degree p_Nodes p_Edges q_Labels q_Degree q_Nodes q_Edges = some r) : Y.call 71 [D.agg [D.int .i64 p_Labels, D.int .i64 p_Degree, D.sl 25 (lst (fun x => D.sl 3 (lst (D.int .i64) x)) p_Nodes), D.sl 25 (lst (fun x => D.sl 3 (lst (D.int .i64) x)) p_Edges)], D.agg [D.int .i64 q_Labels, D.int .i64 q_Degree, D.sl 25 (lst (fun x => D.sl 3 (lst (D.int .i64) x)) q_Nodes), D.sl 25 (lst (fun x => D.sl 3 (lst (D.int .i64) x)) q_Edges)]] [] = some (D.bool r, []) := by
  refine c71 ?_ rfl
  unfold k71
  unfold i_areProblems at h
  obtain ⟨e1, h⟩ := ckS h
  obtain ⟨e2, h⟩ := ckS h
  have c3 := i_IsProblem_cl p_Labels p_Degree p_Nodes p_Edges e1 e2
  by_cases e4 : (isProb p_Labels p_Degree p_Nodes p_Edges) = true
  · rw [if_pos e4] at h
    obtain ⟨e5, h⟩ := ckS h
    obtain ⟨e6, h⟩ := ckS h
    have c7 := i_IsProblem_cl q_Labels q_Degree q_Nodes q_Edges e5 e6
    by_cases e8 : (isProb q_Labels q_Degree q_Nodes q_Edges) = true
    · rw [if_pos e8] at h
      obtain rfl := Option.some.inj h
      simp (maxDischargeDepth := 9) only [↓xpre, xpost, xlst, xcore, yset, rg0, ↓reduceIte, Nat.reduceEqDiff, Nat.reduceLT, Nat.reduceLeDiff, Nat.reduceAdd, Nat.reduceMul, Nat.reduceMod, Nat.reduceSub, Nat.reduceBEq, Int.reduceLE, Int.reduceLT, Int.reduceEq, Int.reduceSub, Int.reduceAdd, Int.reduceToNat, Int.reduceNeg, e1, e2, c3, e4, e5, e6, c7, e8] <;> (repeat' apply And.intro) <;> first | rfl | exact ⟨_, rfl⟩ | simp [lst]
    · rw [if_neg e8] at h
      have e8f : (isProb q_Labels q_Degree q_Nodes q_Edges) = false := Bool.eq_false_iff.mpr e8
      obtain rfl := Option.some.inj h
      simp (maxDischargeDepth := 9) only [↓xpre, xpost, xlst, xcore, yset, rg0, ↓reduceIte, Nat.reduceEqDiff, Nat.reduceLT, Nat.reduceLeDiff, Nat.reduceAdd, Nat.reduceMul, Nat.reduceMod, Nat.reduceSub, Nat.reduceBEq, Int.reduceLE, Int.reduceLT, Int.reduceEq, Int.reduceSub, Int.reduceAdd, Int.reduceToNat, Int.reduceNeg, e1, e2, c3, e4, e5, e6, c7, e8f] <;> (repeat' apply And.intro) <;> first | rfl | exact ⟨_, rfl⟩ | simp [lst]
  · rw [if_neg e4] at h
    have e4f : (isProb p_Labels p_Degree p_Nodes p_Edges) = false := Bool.eq_false_iff.mpr e4
    obtain rfl := Option.some.inj h
    simp (maxDischargeDepth := 9) only [↓xpre, xpost, xlst, xcore, yset, rg0, ↓reduceIte, Nat.reduceEqDiff, Nat.reduceLT, Nat.reduceLeDiff, Nat.reduceAdd, Nat.reduceMul, Nat.reduceMod, Nat.reduceSub, Nat.reduceBEq, Int.reduceLE, Int.reduceLT, Int.reduceEq, Int.reduceSub, Int.reduceAdd, Int.reduceToNat, Int.reduceNeg, e1, e2, c3, e4f] <;> (repeat' apply And.intro) <;> first | rfl | exact ⟨_, rfl⟩ | simp [lst]

noncomputable def s_reTwo (p_Labels : Int) (p_Degree : Int) (p_Nodes : List (List Int)) (p_Edges : List (List Int)) (q_Labels : Int) (q_Degree : Int) (q_Nodes : List (List Int)) (q_Edges : List (List Int)) : Option (Bool) :=
  ck (Short p_Nodes) <|
  ck (Short p_Edges) <|
  if (isProb p_Labels p_Degree p_Nodes p_Edges) = true then
    ck (Short q_Nodes) <|
    ck (Short q_Edges) <|
    if (isProb q_Labels q_Degree q_Nodes q_Edges) = true then
      some (decide (p_Degree = q_Degree))
    else
      some false
  else
    some false
/-- spec.reTwo -/
def k68 : SC :=
  .seq
    (.ops [
      ⟨(some 2), (Op.box 39 (Operand.tmp 0)), 0, none⟩,
      ⟨(some 3), (Op.box 39 (Operand.tmp 1)), 0, none⟩,
      ⟨(some 4), (Op.assign (Operand.const (Value.bool false))), 4, none⟩])
    (.seq
      (.ops [
        ⟨(some 5), (Op.load 39 (Operand.tmp 2)), 39, none⟩,
        ⟨(some 6), (Op.call { callee := (Callee.value (Operand.func 55)), args := #[(Operand.tmp 5)], argTypes := #[39] }), 4, none⟩,
        ⟨(some 7), (Op.move (Operand.tmp 6)), 4, none⟩,
        ⟨(some 8), (Op.load 39 (Operand.tmp 3)), 39, (some (some 7, true))⟩,
        ⟨(some 9), (Op.call { callee := (Callee.value (Operand.func 55)), args := #[(Operand.tmp 8)], argTypes := #[39] }), 4, (some (some 7, true))⟩,
        ⟨(some 10), (Op.pick (Operand.tmp 7) (Operand.tmp 9) (Operand.const (Value.bool false))), 4, none⟩,
        ⟨(some 11), (Op.move (Operand.tmp 10)), 4, none⟩,
        ⟨(some 12), (Op.fieldAddr 39 (Operand.tmp 2) 1), 0, (some (some 11, true))⟩,
        ⟨(some 13), (Op.load 3 (Operand.tmp 12)), 3, (some (some 11, true))⟩,
        ⟨(some 14), (Op.fieldAddr 39 (Operand.tmp 3) 1), 0, (some (some 11, true))⟩,
        ⟨(some 15), (Op.load 3 (Operand.tmp 14)), 3, (some (some 11, true))⟩,
        ⟨(some 16), (Op.binOp BinOp.eql 3 (Operand.tmp 13) (Operand.tmp 15) 3), 4, (some (some 11, true))⟩,
        ⟨(some 17), (Op.pick (Operand.tmp 11) (Operand.tmp 16) (Operand.const (Value.bool false))), 4, none⟩,
        ⟨(some 4), (Op.assign (Operand.tmp 17)), 4, none⟩])
      .ret)
theorem slim68 : Try.f68.body.map (slim lends) = some k68 := by kernel_rfl
theorem ok68 : fnOk Try.f68 2 = true := by kernel_rfl
theorem c68 {a l : List D} {r : D × List D} (h : wpD Y.env k68 (fin tys l.length [ResultVar.tmp 4] r) (entry a l)) (ha : a.length = 2) : Y.call 68 a l = some r :=
  call_slim (Y := Y) rfl Try.func68 (ha ▸ ok68) slim68 h
theorem s_reTwo_call (p_Labels : Int) (p_Degree : Int) (p_Nodes : List (List Int)) (p_Edges : List (List Int)) (q_Labels : Int) (q_Degree : Int) (q_Nodes : List (List Int)) (q_Edges : List (List Int)) {r : Bool} (h : s_reTwo p_Labels p_Degree p_Nodes p_Edges q_Labels q_Degree q_Nodes q_Edges = some r) : Y.call 68 [D.agg [D.int .i64 p_Labels, D.int .i64 p_Degree, D.sl 25 (lst (fun x => D.sl 3 (lst (D.int .i64) x)) p_Nodes), D.sl 25 (lst (fun x => D.sl 3 (lst (D.int .i64) x)) p_Edges)], D.agg [D.int .i64 q_Labels, D.int .i64 q_Degree, D.sl 25 (lst (fun x => D.sl 3 (lst (D.int .i64) x)) q_Nodes), D.sl 25 (lst (fun x => D.sl 3 (lst (D.int .i64) x)) q_Edges)]] [] = some (D.bool r, []) := by
  refine c68 ?_ rfl
  unfold k68
  unfold s_reTwo at h
  obtain ⟨e1, h⟩ := ckS h
  obtain ⟨e2, h⟩ := ckS h
  have c3 := s_prGood_cl p_Labels p_Degree p_Nodes p_Edges e1 e2
  by_cases e4 : (isProb p_Labels p_Degree p_Nodes p_Edges) = true
  · rw [if_pos e4] at h
    obtain ⟨e5, h⟩ := ckS h
    obtain ⟨e6, h⟩ := ckS h
    have c7 := s_prGood_cl q_Labels q_Degree q_Nodes q_Edges e5 e6
    by_cases e8 : (isProb q_Labels q_Degree q_Nodes q_Edges) = true
    · rw [if_pos e8] at h
      obtain rfl := Option.some.inj h
      simp (maxDischargeDepth := 9) only [↓xpre, xpost, xlst, xcore, yset, rg0, ↓reduceIte, Nat.reduceEqDiff, Nat.reduceLT, Nat.reduceLeDiff, Nat.reduceAdd, Nat.reduceMul, Nat.reduceMod, Nat.reduceSub, Nat.reduceBEq, Int.reduceLE, Int.reduceLT, Int.reduceEq, Int.reduceSub, Int.reduceAdd, Int.reduceToNat, Int.reduceNeg, e1, e2, c3, e4, e5, e6, c7, e8] <;> (repeat' apply And.intro) <;> first | rfl | exact ⟨_, rfl⟩ | simp [lst]
    · rw [if_neg e8] at h
      have e8f : (isProb q_Labels q_Degree q_Nodes q_Edges) = false := Bool.eq_false_iff.mpr e8
      obtain rfl := Option.some.inj h
      simp (maxDischargeDepth := 9) only [↓xpre, xpost, xlst, xcore, yset, rg0, ↓reduceIte, Nat.reduceEqDiff, Nat.reduceLT, Nat.reduceLeDiff, Nat.reduceAdd, Nat.reduceMul, Nat.reduceMod, Nat.reduceSub, Nat.reduceBEq, Int.reduceLE, Int.reduceLT, Int.reduceEq, Int.reduceSub, Int.reduceAdd, Int.reduceToNat, Int.reduceNeg, e1, e2, c3, e4, e5, e6, c7, e8f] <;> (repeat' apply And.intro) <;> first | rfl | exact ⟨_, rfl⟩ | simp [lst]
  · rw [if_neg e4] at h
    have e4f : (isProb p_Labels p_Degree p_Nodes p_Edges) = false := Bool.eq_false_iff.mpr e4
    obtain rfl := Option.some.inj h
    simp (maxDischargeDepth := 9) only [↓xpre, xpost, xlst, xcore, yset, rg0, ↓reduceIte, Nat.reduceEqDiff, Nat.reduceLT, Nat.reduceLeDiff, Nat.reduceAdd, Nat.reduceMul, Nat.reduceMod, Nat.reduceSub, Nat.reduceBEq, Int.reduceLE, Int.reduceLT, Int.reduceEq, Int.reduceSub, Int.reduceAdd, Int.reduceToNat, Int.reduceNeg, e1, e2, c3, e4f] <;> (repeat' apply And.intro) <;> first | rfl | exact ⟨_, rfl⟩ | simp [lst]

theorem i_areProblems_eq (a b : Int) (n e : List (List Int)) (a' b' : Int) (n' e' : List (List Int)) (hn : Short n) (he : Short e) (hn' : Short n') (he' : Short e') :
    i_areProblems a b n e a' b' n' e' = some (isProb a b n e && (isProb a' b' n' e' && decide (b = b'))) := by
  unfold i_areProblems
  rw [ckT hn, ckT he]
  cases isProb a b n e with
  | false => simp
  | true =>
    rw [if_pos rfl, ckT hn', ckT he']
    cases isProb a' b' n' e' <;> simp
theorem s_reTwo_eq (a b : Int) (n e : List (List Int)) (a' b' : Int) (n' e' : List (List Int)) (hn : Short n) (he : Short e) (hn' : Short n') (he' : Short e') :
    s_reTwo a b n e a' b' n' e' = some (isProb a b n e && (isProb a' b' n' e' && decide (b = b'))) := by
  unfold s_reTwo
  rw [ckT hn, ckT he]
  cases isProb a b n e with
  | false => simp
  | true =>
    rw [if_pos rfl, ckT hn', ckT he']
    cases isProb a' b' n' e' <;> simp
theorem i_areProblems_cl (p_Labels : Int) (p_Degree : Int) (p_Nodes : List (List Int)) (p_Edges : List (List Int)) (q_Labels : Int) (q_Degree : Int) (q_Nodes : List (List Int)) (q_Edges : List (List Int)) (h0 : Short p_Nodes) (h1 : Short p_Edges) (h2 : Short q_Nodes) (h3 : Short q_Edges) : Y.call 71 [D.agg [D.int .i64 p_Labels, D.int .i64 p_Degree, D.sl 25 (lst (fun x => D.sl 3 (lst (D.int .i64) x)) p_Nodes), D.sl 25 (lst (fun x => D.sl 3 (lst (D.int .i64) x)) p_Edges)], D.agg [D.int .i64 q_Labels, D.int .i64 q_Degree, D.sl 25 (lst (fun x => D.sl 3 (lst (D.int .i64) x)) q_Nodes), D.sl 25 (lst (fun x => D.sl 3 (lst (D.int .i64) x)) q_Edges)]] [] = some (D.bool (isProb p_Labels p_Degree p_Nodes p_Edges && (isProb q_Labels q_Degree q_Nodes q_Edges && decide (p_Degree = q_Degree))), []) := i_areProblems_call p_Labels p_Degree p_Nodes p_Edges q_Labels q_Degree q_Nodes q_Edges (i_areProblems_eq p_Labels p_Degree p_Nodes p_Edges q_Labels q_Degree q_Nodes q_Edges h0 h1 h2 h3)
theorem s_reTwo_cl (p_Labels : Int) (p_Degree : Int) (p_Nodes : List (List Int)) (p_Edges : List (List Int)) (q_Labels : Int) (q_Degree : Int) (q_Nodes : List (List Int)) (q_Edges : List (List Int)) (h0 : Short p_Nodes) (h1 : Short p_Edges) (h2 : Short q_Nodes) (h3 : Short q_Edges) : Y.call 68 [D.agg [D.int .i64 p_Labels, D.int .i64 p_Degree, D.sl 25 (lst (fun x => D.sl 3 (lst (D.int .i64) x)) p_Nodes), D.sl 25 (lst (fun x => D.sl 3 (lst (D.int .i64) x)) p_Edges)], D.agg [D.int .i64 q_Labels, D.int .i64 q_Degree, D.sl 25 (lst (fun x => D.sl 3 (lst (D.int .i64) x)) q_Nodes), D.sl 25 (lst (fun x => D.sl 3 (lst (D.int .i64) x)) q_Edges)]] [] = some (D.bool (isProb p_Labels p_Degree p_Nodes p_Edges && (isProb q_Labels q_Degree q_Nodes q_Edges && decide (p_Degree = q_Degree))), []) := s_reTwo_call p_Labels p_Degree p_Nodes p_Edges q_Labels q_Degree q_Nodes q_Edges (s_reTwo_eq p_Labels p_Degree p_Nodes p_Edges q_Labels q_Degree q_Nodes q_Edges h0 h1 h2 h3)
noncomputable def i_UnionProblem (p_Labels : Int) (p_Degree : Int) (p_Nodes : List (List Int)) (p_Edges : List (List Int)) (q_Labels : Int) (q_Degree : Int) (q_Nodes : List (List Int)) (q_Edges : List (List Int)) : Option (Int × Int × (List (List Int)) × (List (List Int)) × Bool) :=
  ck (Short p_Nodes) <|
  ck (Short p_Edges) <|
  ck (Short q_Nodes) <|
  ck (Short q_Edges) <|
  if (isProb p_Labels p_Degree p_Nodes p_Edges && (isProb q_Labels q_Degree q_Nodes q_Edges && decide (p_Degree = q_Degree))) = true then
    ck (tinyB q_Nodes = true) <|
    ck (0 ≤ p_Labels ∧ p_Labels ≤ 8) <|
    ck (p_Nodes.length + (shiftL p_Labels q_Nodes).length < 1099511627776) <|
    ck (tinyB q_Edges = true) <|
    ck (p_Edges.length + (shiftL p_Labels q_Edges).length < 1099511627776) <|
    (i_madeProblem (IntKind.i64.wrap (p_Labels + q_Labels)) p_Degree (p_Nodes ++ (shiftL p_Labels q_Nodes)) (p_Edges ++ (shiftL p_Labels q_Edges))).bind fun r18_ =>
    match r18_ with
    | .inl q18_ =>
      some (q18_.1, q18_.2.1, q18_.2.2.1, q18_.2.2.2.1, q18_.2.2.2.2)
    | .inr q18_ =>
      some (q18_.1, q18_.2.1, q18_.2.2.1, q18_.2.2.2.1, q18_.2.2.2.2.1)
  else
    some (0, 0, [], [], false)
/-- impl.UnionProblem -/
def k42 : SC :=
  .seq
    (.ops [
      ⟨(some 2), (Op.box 39 (Operand.tmp 0)), 0, none⟩,
      ⟨(some 3), (Op.box 39 (Operand.tmp 1)), 0, none⟩,
      ⟨(some 4), (Op.alloc 39), 0, none⟩,
      ⟨(some 5), (Op.assign (Operand.const (Value.bool false))), 4, none⟩])
    (.seq
      (.seq
        (.ops [
          ⟨(some 6), (Op.load 39 (Operand.tmp 2)), 39, none⟩,
          ⟨(some 7), (Op.load 39 (Operand.tmp 3)), 39, none⟩,
          ⟨(some 8), (Op.call { callee := (Callee.value (Operand.func 71)), args := #[(Operand.tmp 6), (Operand.tmp 7)], argTypes := #[39, 39] }), 4, none⟩,
          ⟨(some 9), (Op.unOp UnOp.not 4 (Operand.tmp 8)), 4, none⟩])
        (.cond (Operand.tmp 9)
          (.seq
            (.ops [
              ⟨(some 10), (Op.build 39 #[]), 39, none⟩,
              ⟨none, (Op.store 39 (Operand.tmp 4) (Operand.tmp 10)), 0, none⟩,
              ⟨(some 5), (Op.assign (Operand.const (Value.bool false))), 4, none⟩])
            .ret)
          .skip))
      (.seq
        (.draws [
          (⟨[11, 2, 2], [11, 12, 13, 14, 15, 16, 17, 18, 19, 20, 21, 22, 23, 24, 25, 26, 20, 25, 20, 25, 27, 28, 29, 30, 31, 32, 33, 34, 35, 29, 34, 29, 34, 36, 15, 17, 26, 35, 15, 2, 26, 35, 37, 36, 36, 38, 39, 4, 38, 4, 37, 5, 39], [11]⟩, ⟨(some 11), (Op.fieldAddr 39 (Operand.tmp 2) 0), 0, none⟩),
          (⟨[12, 11, 2], [11, 12, 13, 14, 15, 16, 17, 18, 19, 20, 21, 22, 23, 24, 25, 26, 20, 25, 20, 25, 27, 28, 29, 30, 31, 32, 33, 34, 35, 29, 34, 29, 34, 36, 15, 17, 26, 35, 15, 2, 26, 35, 37, 36, 36, 38, 39, 4, 38, 4, 37, 5, 39], [12]⟩, ⟨(some 12), (Op.load 3 (Operand.tmp 11)), 3, none⟩),
          (⟨[13, 3, 3], [11, 12, 13, 14, 15, 16, 17, 18, 19, 20, 21, 22, 23, 24, 25, 26, 20, 25, 20, 25, 27, 28, 29, 30, 31, 32, 33, 34, 35, 29, 34, 29, 34, 36, 15, 17, 26, 35, 15, 2, 26, 35, 37, 36, 36, 38, 39, 4, 38, 4, 37, 5, 39], [13]⟩, ⟨(some 13), (Op.fieldAddr 39 (Operand.tmp 3) 0), 0, none⟩),
          (⟨[14, 13, 3], [11, 12, 13, 14, 15, 16, 17, 18, 19, 20, 21, 22, 23, 24, 25, 26, 20, 25, 20, 25, 27, 28, 29, 30, 31, 32, 33, 34, 35, 29, 34, 29, 34, 36, 15, 17, 26, 35, 15, 2, 26, 35, 37, 36, 36, 38, 39, 4, 38, 4, 37, 5, 39], [14]⟩, ⟨(some 14), (Op.load 3 (Operand.tmp 13)), 3, none⟩),
          (⟨[15, 12, 14, 2, 3], [11, 12, 13, 14, 15, 16, 17, 18, 19, 20, 21, 22, 23, 24, 25, 26, 20, 25, 20, 25, 27, 28, 29, 30, 31, 32, 33, 34, 35, 29, 34, 29, 34, 36, 15, 17, 26, 35, 15, 2, 26, 35, 37, 36, 36, 38, 39, 4, 38, 4, 37, 5, 39], [15]⟩, ⟨(some 15), (Op.binOp BinOp.add 3 (Operand.tmp 12) (Operand.tmp 14) 3), 3, none⟩),
          (⟨[16, 2, 2], [11, 12, 13, 14, 15, 16, 17, 18, 19, 20, 21, 22, 23, 24, 25, 26, 20, 25, 20, 25, 27, 28, 29, 30, 31, 32, 33, 34, 35, 29, 34, 29, 34, 36, 15, 17, 26, 35, 15, 2, 26, 35, 37, 36, 36, 38, 39, 4, 38, 4, 37, 5, 39], [16]⟩, ⟨(some 16), (Op.fieldAddr 39 (Operand.tmp 2) 1), 0, none⟩),
          (⟨[17, 16, 2], [11, 12, 13, 14, 15, 16, 17, 18, 19, 20, 21, 22, 23, 24, 25, 26, 20, 25, 20, 25, 27, 28, 29, 30, 31, 32, 33, 34, 35, 29, 34, 29, 34, 36, 15, 17, 26, 35, 15, 2, 26, 35, 37, 36, 36, 38, 39, 4, 38, 4, 37, 5, 39], [17]⟩, ⟨(some 17), (Op.load 3 (Operand.tmp 16)), 3, none⟩),
          (⟨[18, 2, 2], [11, 12, 13, 14, 15, 16, 17, 18, 19, 20, 21, 22, 23, 24, 25, 26, 20, 25, 20, 25, 27, 28, 29, 30, 31, 32, 33, 34, 35, 29, 34, 29, 34, 36, 15, 17, 26, 35, 15, 2, 26, 35, 37, 36, 36, 38, 39, 4, 38, 4, 37, 5, 39], [18]⟩, ⟨(some 18), (Op.fieldAddr 39 (Operand.tmp 2) 2), 0, none⟩),
          (⟨[19, 18, 2], [11, 12, 13, 14, 15, 16, 17, 18, 19, 20, 21, 22, 23, 24, 25, 26, 20, 25, 20, 25, 27, 28, 29, 30, 31, 32, 33, 34, 35, 29, 34, 29, 34, 36, 15, 17, 26, 35, 15, 2, 26, 35, 37, 36, 36, 38, 39, 4, 38, 4, 37, 5, 39], [19]⟩, ⟨(some 19), (Op.load 34 (Operand.tmp 18)), 34, none⟩),
          (⟨[20, 19, 2], [11, 12, 13, 14, 15, 16, 17, 18, 19, 20, 21, 22, 23, 24, 25, 26, 20, 25, 20, 25, 27, 28, 29, 30, 31, 32, 33, 34, 35, 29, 34, 29, 34, 36, 15, 17, 26, 35, 15, 2, 26, 35, 37, 36, 36, 38, 39, 4, 38, 4, 37, 5, 39], [20]⟩, ⟨(some 20), (Op.call { callee := (Callee.value (Operand.func 72)), args := #[(Operand.tmp 19)], argTypes := #[34] }), 34, none⟩),
          (⟨[21, 3, 3], [11, 12, 13, 14, 15, 16, 17, 18, 19, 20, 21, 22, 23, 24, 25, 26, 20, 25, 20, 25, 27, 28, 29, 30, 31, 32, 33, 34, 35, 29, 34, 29, 34, 36, 15, 17, 26, 35, 15, 2, 26, 35, 37, 36, 36, 38, 39, 4, 38, 4, 37, 5, 39], [21]⟩, ⟨(some 21), (Op.fieldAddr 39 (Operand.tmp 3) 2), 0, none⟩),
          (⟨[22, 21, 3], [11, 12, 13, 14, 15, 16, 17, 18, 19, 20, 21, 22, 23, 24, 25, 26, 20, 25, 20, 25, 27, 28, 29, 30, 31, 32, 33, 34, 35, 29, 34, 29, 34, 36, 15, 17, 26, 35, 15, 2, 26, 35, 37, 36, 36, 38, 39, 4, 38, 4, 37, 5, 39], [22]⟩, ⟨(some 22), (Op.load 34 (Operand.tmp 21)), 34, none⟩),
          (⟨[23, 2, 2], [11, 12, 13, 14, 15, 16, 17, 18, 19, 20, 21, 22, 23, 24, 25, 26, 20, 25, 20, 25, 27, 28, 29, 30, 31, 32, 33, 34, 35, 29, 34, 29, 34, 36, 15, 17, 26, 35, 15, 2, 26, 35, 37, 36, 36, 38, 39, 4, 38, 4, 37, 5, 39], [23]⟩, ⟨(some 23), (Op.fieldAddr 39 (Operand.tmp 2) 0), 0, none⟩),
          (⟨[24, 23, 2], [11, 12, 13, 14, 15, 16, 17, 18, 19, 20, 21, 22, 23, 24, 25, 26, 20, 25, 20, 25, 27, 28, 29, 30, 31, 32, 33, 34, 35, 29, 34, 29, 34, 36, 15, 17, 26, 35, 15, 2, 26, 35, 37, 36, 36, 38, 39, 4, 38, 4, 37, 5, 39], [24]⟩, ⟨(some 24), (Op.load 3 (Operand.tmp 23)), 3, none⟩),
          (⟨[25, 22, 24, 3, 2], [11, 12, 13, 14, 15, 16, 17, 18, 19, 20, 21, 22, 23, 24, 25, 26, 20, 25, 20, 25, 27, 28, 29, 30, 31, 32, 33, 34, 35, 29, 34, 29, 34, 36, 15, 17, 26, 35, 15, 2, 26, 35, 37, 36, 36, 38, 39, 4, 38, 4, 37, 5, 39], [25]⟩, ⟨(some 25), (Op.call { callee := (Callee.value (Operand.func 73)), args := #[(Operand.tmp 22), (Operand.tmp 24)], argTypes := #[34, 3] }), 34, none⟩),
          (⟨[26, 20, 25, 20, 25], [11, 12, 13, 14, 15, 16, 17, 18, 19, 20, 21, 22, 23, 24, 25, 26, 20, 25, 20, 25, 27, 28, 29, 30, 31, 32, 33, 34, 35, 29, 34, 29, 34, 36, 15, 17, 26, 35, 15, 2, 26, 35, 37, 36, 36, 38, 39, 4, 38, 4, 37, 5, 39], [26, 20, 25, 20, 25]⟩, ⟨(some 26), (Op.call { callee := (Callee.builtin Builtin.append), args := #[(Operand.tmp 20), (Operand.tmp 25)], argTypes := #[34, 34] }), 34, none⟩),
          (⟨[27, 2, 2], [11, 12, 13, 14, 15, 16, 17, 18, 19, 20, 21, 22, 23, 24, 25, 26, 20, 25, 20, 25, 27, 28, 29, 30, 31, 32, 33, 34, 35, 29, 34, 29, 34, 36, 15, 17, 26, 35, 15, 2, 26, 35, 37, 36, 36, 38, 39, 4, 38, 4, 37, 5, 39], [27]⟩, ⟨(some 27), (Op.fieldAddr 39 (Operand.tmp 2) 3), 0, none⟩),
          (⟨[28, 27, 2], [11, 12, 13, 14, 15, 16, 17, 18, 19, 20, 21, 22, 23, 24, 25, 26, 20, 25, 20, 25, 27, 28, 29, 30, 31, 32, 33, 34, 35, 29, 34, 29, 34, 36, 15, 17, 26, 35, 15, 2, 26, 35, 37, 36, 36, 38, 39, 4, 38, 4, 37, 5, 39], [28]⟩, ⟨(some 28), (Op.load 34 (Operand.tmp 27)), 34, none⟩),
          (⟨[29, 28, 2], [11, 12, 13, 14, 15, 16, 17, 18, 19, 20, 21, 22, 23, 24, 25, 26, 20, 25, 20, 25, 27, 28, 29, 30, 31, 32, 33, 34, 35, 29, 34, 29, 34, 36, 15, 17, 26, 35, 15, 2, 26, 35, 37, 36, 36, 38, 39, 4, 38, 4, 37, 5, 39], [29]⟩, ⟨(some 29), (Op.call { callee := (Callee.value (Operand.func 72)), args := #[(Operand.tmp 28)], argTypes := #[34] }), 34, none⟩),
          (⟨[30, 3, 3], [11, 12, 13, 14, 15, 16, 17, 18, 19, 20, 21, 22, 23, 24, 25, 26, 20, 25, 20, 25, 27, 28, 29, 30, 31, 32, 33, 34, 35, 29, 34, 29, 34, 36, 15, 17, 26, 35, 15, 2, 26, 35, 37, 36, 36, 38, 39, 4, 38, 4, 37, 5, 39], [30]⟩, ⟨(some 30), (Op.fieldAddr 39 (Operand.tmp 3) 3), 0, none⟩),
          (⟨[31, 30, 3], [11, 12, 13, 14, 15, 16, 17, 18, 19, 20, 21, 22, 23, 24, 25, 26, 20, 25, 20, 25, 27, 28, 29, 30, 31, 32, 33, 34, 35, 29, 34, 29, 34, 36, 15, 17, 26, 35, 15, 2, 26, 35, 37, 36, 36, 38, 39, 4, 38, 4, 37, 5, 39], [31]⟩, ⟨(some 31), (Op.load 34 (Operand.tmp 30)), 34, none⟩),
          (⟨[32, 2, 2], [11, 12, 13, 14, 15, 16, 17, 18, 19, 20, 21, 22, 23, 24, 25, 26, 20, 25, 20, 25, 27, 28, 29, 30, 31, 32, 33, 34, 35, 29, 34, 29, 34, 36, 15, 17, 26, 35, 15, 2, 26, 35, 37, 36, 36, 38, 39, 4, 38, 4, 37, 5, 39], [32]⟩, ⟨(some 32), (Op.fieldAddr 39 (Operand.tmp 2) 0), 0, none⟩),
          (⟨[33, 32, 2], [11, 12, 13, 14, 15, 16, 17, 18, 19, 20, 21, 22, 23, 24, 25, 26, 20, 25, 20, 25, 27, 28, 29, 30, 31, 32, 33, 34, 35, 29, 34, 29, 34, 36, 15, 17, 26, 35, 15, 2, 26, 35, 37, 36, 36, 38, 39, 4, 38, 4, 37, 5, 39], [33]⟩, ⟨(some 33), (Op.load 3 (Operand.tmp 32)), 3, none⟩),
          (⟨[34, 31, 33, 3, 2], [11, 12, 13, 14, 15, 16, 17, 18, 19, 20, 21, 22, 23, 24, 25, 26, 20, 25, 20, 25, 27, 28, 29, 30, 31, 32, 33, 34, 35, 29, 34, 29, 34, 36, 15, 17, 26, 35, 15, 2, 26, 35, 37, 36, 36, 38, 39, 4, 38, 4, 37, 5, 39], [34]⟩, ⟨(some 34), (Op.call { callee := (Callee.value (Operand.func 73)), args := #[(Operand.tmp 31), (Operand.tmp 33)], argTypes := #[34, 3] }), 34, none⟩),
          (⟨[35, 29, 34, 29, 34], [11, 12, 13, 14, 15, 16, 17, 18, 19, 20, 21, 22, 23, 24, 25, 26, 20, 25, 20, 25, 27, 28, 29, 30, 31, 32, 33, 34, 35, 29, 34, 29, 34, 36, 15, 17, 26, 35, 15, 2, 26, 35, 37, 36, 36, 38, 39, 4, 38, 4, 37, 5, 39], [35, 29, 34, 29, 34]⟩, ⟨(some 35), (Op.call { callee := (Callee.builtin Builtin.append), args := #[(Operand.tmp 29), (Operand.tmp 34)], argTypes := #[34, 34] }), 34, none⟩),
          (⟨[36, 15, 17, 26, 35, 15, 2, 26, 35], [11, 12, 13, 14, 15, 16, 17, 18, 19, 20, 21, 22, 23, 24, 25, 26, 20, 25, 20, 25, 27, 28, 29, 30, 31, 32, 33, 34, 35, 29, 34, 29, 34, 36, 15, 17, 26, 35, 15, 2, 26, 35, 37, 36, 36, 38, 39, 4, 38, 4, 37, 5, 39], [36, 15, 17, 26, 35, 15, 2, 26, 35]⟩, ⟨(some 36), (Op.build 39 #[(0, (Operand.tmp 15)), (1, (Operand.tmp 17)), (2, (Operand.tmp 26)), (3, (Operand.tmp 35))]), 39, none⟩),
          (⟨[37, 36, 36], [11, 12, 13, 14, 15, 16, 17, 18, 19, 20, 21, 22, 23, 24, 25, 26, 20, 25, 20, 25, 27, 28, 29, 30, 31, 32, 33, 34, 35, 29, 34, 29, 34, 36, 15, 17, 26, 35, 15, 2, 26, 35, 37, 36, 36, 38, 39, 4, 38, 4, 37, 5, 39], [37, 36, 36]⟩, ⟨(some 37), (Op.call { callee := (Callee.value (Operand.func 61)), args := #[(Operand.tmp 36)], argTypes := #[39] }), 43, none⟩),
          (⟨[38, 37], [11, 12, 13, 14, 15, 16, 17, 18, 19, 20, 21, 22, 23, 24, 25, 26, 20, 25, 20, 25, 27, 28, 29, 30, 31, 32, 33, 34, 35, 29, 34, 29, 34, 36, 15, 17, 26, 35, 15, 2, 26, 35, 37, 36, 36, 38, 39, 4, 38, 4, 37, 5, 39], [38]⟩, ⟨(some 38), (Op.extract (Operand.tmp 37) 0), 39, none⟩),
          (⟨[39, 37], [11, 12, 13, 14, 15, 16, 17, 18, 19, 20, 21, 22, 23, 24, 25, 26, 20, 25, 20, 25, 27, 28, 29, 30, 31, 32, 33, 34, 35, 29, 34, 29, 34, 36, 15, 17, 26, 35, 15, 2, 26, 35, 37, 36, 36, 38, 39, 4, 38, 4, 37, 5, 39], [39]⟩, ⟨(some 39), (Op.extract (Operand.tmp 37) 1), 4, none⟩),
          (⟨[4, 38, 4, 37], [11, 12, 13, 14, 15, 16, 17, 18, 19, 20, 21, 22, 23, 24, 25, 26, 20, 25, 20, 25, 27, 28, 29, 30, 31, 32, 33, 34, 35, 29, 34, 29, 34, 36, 15, 17, 26, 35, 15, 2, 26, 35, 37, 36, 36, 38, 39, 4, 38, 4, 37, 5, 39], [4, 38, 4, 37]⟩, ⟨none, (Op.store 39 (Operand.tmp 4) (Operand.tmp 38)), 0, none⟩),
          (⟨[5, 39], [11, 12, 13, 14, 15, 16, 17, 18, 19, 20, 21, 22, 23, 24, 25, 26, 20, 25, 20, 25, 27, 28, 29, 30, 31, 32, 33, 34, 35, 29, 34, 29, 34, 36, 15, 17, 26, 35, 15, 2, 26, 35, 37, 36, 36, 38, 39, 4, 38, 4, 37, 5, 39], [5, 39]⟩, ⟨(some 5), (Op.assign (Operand.tmp 39)), 4, none⟩)])
        .ret))
theorem slim42 : Try.f42.body.map (slim lends) = some k42 := by kernel_rfl
theorem ok42 : fnOk Try.f42 2 = true := by kernel_rfl
theorem c42 {a l : List D} {r : D × List D} (h : wpD Y.env k42 (fin tys l.length [ResultVar.cell 4 39, ResultVar.tmp 5] r) (entry a l)) (ha : a.length = 2) : Y.call 42 a l = some r :=
  call_slim (Y := Y) rfl Try.func42 (ha ▸ ok42) slim42 h
theorem i_UnionProblem_call (p_Labels : Int) (p_Degree : Int) (p_Nodes : List (List Int)) (p_Edges : List (List Int)) (q_Labels : Int) (q_Degree : Int) (q_Nodes : List (List Int)) (q_Edges : List (List Int)) {r : Int × Int × (List (List Int)) × (List (List Int)) × Bool} (h : i_UnionProblem p_Labels p_Degree p_Nodes p_Edges q_Labels q_Degree q_Nodes q_Edges = some r) : Y.call 42 [D.agg [D.int .i64 p_Labels, D.int .i64 p_Degree, D.sl 25 (lst (fun x => D.sl 3 (lst (D.int .i64) x)) p_Nodes), D.sl 25 (lst (fun x => D.sl 3 (lst (D.int .i64) x)) p_Edges)], D.agg [D.int .i64 q_Labels, D.int .i64 q_Degree, D.sl 25 (lst (fun x => D.sl 3 (lst (D.int .i64) x)) q_Nodes), D.sl 25 (lst (fun x => D.sl 3 (lst (D.int .i64) x)) q_Edges)]] [] = some (D.tup [D.agg [D.int .i64 r.1, D.int .i64 r.2.1, D.own 25 (lst (fun x => D.own 3 (lst (D.int .i64) x)) r.2.2.1), D.own 25 (lst (fun x => D.own 3 (lst (D.int .i64) x)) r.2.2.2.1)], D.bool r.2.2.2.2], []) := by
  refine c42 ?_ rfl
  unfold k42
  unfold i_UnionProblem at h
  obtain ⟨e1, h⟩ := ckS h
  obtain ⟨e2, h⟩ := ckS h
  obtain ⟨e3, h⟩ := ckS h
  obtain ⟨e4, h⟩ := ckS h
  have c5 := i_areProblems_cl p_Labels p_Degree p_Nodes p_Edges q_Labels q_Degree q_Nodes q_Edges e1 e2 e3 e4
  by_cases e6 : (isProb p_Labels p_Degree p_Nodes p_Edges && (isProb q_Labels q_Degree q_Nodes q_Edges && decide (p_Degree = q_Degree))) = true
  · rw [if_pos e6] at h
    have c7 := i_copyLists_cl p_Nodes e1
    obtain ⟨e8, h⟩ := ckS h
    obtain ⟨e9, h⟩ := ckS h
    have c10 := i_shifted_cl q_Nodes p_Labels e3 e8 e9
    obtain ⟨e11, h⟩ := ckS h
    by_cases e12 : ((shiftL p_Labels q_Nodes).isEmpty) = true
    · skip
      have c13 := i_copyLists_cl p_Edges e2
      obtain ⟨e14, h⟩ := ckS h
      have c15 := i_shifted_cl q_Edges p_Labels e4 e14 e9
      obtain ⟨e16, h⟩ := ckS h
      by_cases e17 : ((shiftL p_Labels q_Edges).isEmpty) = true
      · skip
        obtain ⟨r18_, hl18, h⟩ := bindS h
        try dsimp only at h
        have c18 := i_madeProblem_call (IntKind.i64.wrap (p_Labels + q_Labels)) p_Degree (p_Nodes ++ (shiftL p_Labels q_Nodes)) (p_Edges ++ (shiftL p_Labels q_Edges)) hl18
        rcases r18_ with q18_ | q18_
        · dsimp only at h c18
          obtain rfl := Option.some.inj h
          simp (maxDischargeDepth := 9) only [↓xpre, xpost, xlst, xcore, yset, rg0, ↓reduceIte, Nat.reduceEqDiff, Nat.reduceLT, Nat.reduceLeDiff, Nat.reduceAdd, Nat.reduceMul, Nat.reduceMod, Nat.reduceSub, Nat.reduceBEq, Int.reduceLE, Int.reduceLT, Int.reduceEq, Int.reduceSub, Int.reduceAdd, Int.reduceToNat, Int.reduceNeg, e1, e2, e3, e4, c5, e6, c7, e8, e9.1, e9.2, c10, e11, e12, c13, e14, c15, e16, e17, c18] <;> (repeat' apply And.intro) <;> first | rfl | exact ⟨_, rfl⟩ | simp [lst]
        · dsimp only at h c18
          obtain rfl := Option.some.inj h
          simp (maxDischargeDepth := 9) only [↓xpre, xpost, xlst, xcore, yset, rg0, ↓reduceIte, Nat.reduceEqDiff, Nat.reduceLT, Nat.reduceLeDiff, Nat.reduceAdd, Nat.reduceMul, Nat.reduceMod, Nat.reduceSub, Nat.reduceBEq, Int.reduceLE, Int.reduceLT, Int.reduceEq, Int.reduceSub, Int.reduceAdd, Int.reduceToNat, Int.reduceNeg, e1, e2, e3, e4, c5, e6, c7, e8, e9.1, e9.2, c10, e11, e12, c13, e14, c15, e16, e17, c18] <;> (repeat' apply And.intro) <;> first | rfl | exact ⟨_, rfl⟩ | simp [lst]
      · skip
        have e17f : ((shiftL p_Labels q_Edges).isEmpty) = false := Bool.eq_false_iff.mpr e17
        obtain ⟨r18_, hl18, h⟩ := bindS h
        try dsimp only at h
        have c18 := i_madeProblem_call (IntKind.i64.wrap (p_Labels + q_Labels)) p_Degree (p_Nodes ++ (shiftL p_Labels q_Nodes)) (p_Edges ++ (shiftL p_Labels q_Edges)) hl18
        rcases r18_ with q18_ | q18_
        · dsimp only at h c18
          obtain rfl := Option.some.inj h
          simp (maxDischargeDepth := 9) only [↓xpre, xpost, xlst, xcore, yset, rg0, ↓reduceIte, Nat.reduceEqDiff, Nat.reduceLT, Nat.reduceLeDiff, Nat.reduceAdd, Nat.reduceMul, Nat.reduceMod, Nat.reduceSub, Nat.reduceBEq, Int.reduceLE, Int.reduceLT, Int.reduceEq, Int.reduceSub, Int.reduceAdd, Int.reduceToNat, Int.reduceNeg, e1, e2, e3, e4, c5, e6, c7, e8, e9.1, e9.2, c10, e11, e12, c13, e14, c15, e16, e17f, c18] <;> (repeat' apply And.intro) <;> first | rfl | exact ⟨_, rfl⟩ | simp [lst]
        · dsimp only at h c18
          obtain rfl := Option.some.inj h
          simp (maxDischargeDepth := 9) only [↓xpre, xpost, xlst, xcore, yset, rg0, ↓reduceIte, Nat.reduceEqDiff, Nat.reduceLT, Nat.reduceLeDiff, Nat.reduceAdd, Nat.reduceMul, Nat.reduceMod, Nat.reduceSub, Nat.reduceBEq, Int.reduceLE, Int.reduceLT, Int.reduceEq, Int.reduceSub, Int.reduceAdd, Int.reduceToNat, Int.reduceNeg, e1, e2, e3, e4, c5, e6, c7, e8, e9.1, e9.2, c10, e11, e12, c13, e14, c15, e16, e17f, c18] <;> (repeat' apply And.intro) <;> first | rfl | exact ⟨_, rfl⟩ | simp [lst]
    · skip
      have e12f : ((shiftL p_Labels q_Nodes).isEmpty) = false := Bool.eq_false_iff.mpr e12
      have c13 := i_copyLists_cl p_Edges e2
      obtain ⟨e14, h⟩ := ckS h
      have c15 := i_shifted_cl q_Edges p_Labels e4 e14 e9
      obtain ⟨e16, h⟩ := ckS h
      by_cases e17 : ((shiftL p_Labels q_Edges).isEmpty) = true
      · skip
        obtain ⟨r18_, hl18, h⟩ := bindS h
        try dsimp only at h
        have c18 := i_madeProblem_call (IntKind.i64.wrap (p_Labels + q_Labels)) p_Degree (p_Nodes ++ (shiftL p_Labels q_Nodes)) (p_Edges ++ (shiftL p_Labels q_Edges)) hl18
        rcases r18_ with q18_ | q18_
        · dsimp only at h c18
          obtain rfl := Option.some.inj h
          simp (maxDischargeDepth := 9) only [↓xpre, xpost, xlst, xcore, yset, rg0, ↓reduceIte, Nat.reduceEqDiff, Nat.reduceLT, Nat.reduceLeDiff, Nat.reduceAdd, Nat.reduceMul, Nat.reduceMod, Nat.reduceSub, Nat.reduceBEq, Int.reduceLE, Int.reduceLT, Int.reduceEq, Int.reduceSub, Int.reduceAdd, Int.reduceToNat, Int.reduceNeg, e1, e2, e3, e4, c5, e6, c7, e8, e9.1, e9.2, c10, e11, e12f, c13, e14, c15, e16, e17, c18] <;> (repeat' apply And.intro) <;> first | rfl | exact ⟨_, rfl⟩ | simp [lst]
        · dsimp only at h c18
          obtain rfl := Option.some.inj h
          simp (maxDischargeDepth := 9) only [↓xpre, xpost, xlst, xcore, yset, rg0, ↓reduceIte, Nat.reduceEqDiff, Nat.reduceLT, Nat.reduceLeDiff, Nat.reduceAdd, Nat.reduceMul, Nat.reduceMod, Nat.reduceSub, Nat.reduceBEq, Int.reduceLE, Int.reduceLT, Int.reduceEq, Int.reduceSub, Int.reduceAdd, Int.reduceToNat, Int.reduceNeg, e1, e2, e3, e4, c5, e6, c7, e8, e9.1, e9.2, c10, e11, e12f, c13, e14, c15, e16, e17, c18] <;> (repeat' apply And.intro) <;> first | rfl | exact ⟨_, rfl⟩ | simp [lst]
      · skip
        have e17f : ((shiftL p_Labels q_Edges).isEmpty) = false := Bool.eq_false_iff.mpr e17
        obtain ⟨r18_, hl18, h⟩ := bindS h
        try dsimp only at h
        have c18 := i_madeProblem_call (IntKind.i64.wrap (p_Labels + q_Labels)) p_Degree (p_Nodes ++ (shiftL p_Labels q_Nodes)) (p_Edges ++ (shiftL p_Labels q_Edges)) hl18
        rcases r18_ with q18_ | q18_
        · dsimp only at h c18
          obtain rfl := Option.some.inj h
          simp (maxDischargeDepth := 9) only [↓xpre, xpost, xlst, xcore, yset, rg0, ↓reduceIte, Nat.reduceEqDiff, Nat.reduceLT, Nat.reduceLeDiff, Nat.reduceAdd, Nat.reduceMul, Nat.reduceMod, Nat.reduceSub, Nat.reduceBEq, Int.reduceLE, Int.reduceLT, Int.reduceEq, Int.reduceSub, Int.reduceAdd, Int.reduceToNat, Int.reduceNeg, e1, e2, e3, e4, c5, e6, c7, e8, e9.1, e9.2, c10, e11, e12f, c13, e14, c15, e16, e17f, c18] <;> (repeat' apply And.intro) <;> first | rfl | exact ⟨_, rfl⟩ | simp [lst]
        · dsimp only at h c18
          obtain rfl := Option.some.inj h
          simp (maxDischargeDepth := 9) only [↓xpre, xpost, xlst, xcore, yset, rg0, ↓reduceIte, Nat.reduceEqDiff, Nat.reduceLT, Nat.reduceLeDiff, Nat.reduceAdd, Nat.reduceMul, Nat.reduceMod, Nat.reduceSub, Nat.reduceBEq, Int.reduceLE, Int.reduceLT, Int.reduceEq, Int.reduceSub, Int.reduceAdd, Int.reduceToNat, Int.reduceNeg, e1, e2, e3, e4, c5, e6, c7, e8, e9.1, e9.2, c10, e11, e12f, c13, e14, c15, e16, e17f, c18] <;> (repeat' apply And.intro) <;> first | rfl | exact ⟨_, rfl⟩ | simp [lst]
  · rw [if_neg e6] at h
    have e6f : (isProb p_Labels p_Degree p_Nodes p_Edges && (isProb q_Labels q_Degree q_Nodes q_Edges && decide (p_Degree = q_Degree))) = false := Bool.eq_false_iff.mpr e6
    obtain rfl := Option.some.inj h
    simp (maxDischargeDepth := 9) only [↓xpre, xpost, xlst, xcore, yset, rg0, ↓reduceIte, Nat.reduceEqDiff, Nat.reduceLT, Nat.reduceLeDiff, Nat.reduceAdd, Nat.reduceMul, Nat.reduceMod, Nat.reduceSub, Nat.reduceBEq, Int.reduceLE, Int.reduceLT, Int.reduceEq, Int.reduceSub, Int.reduceAdd, Int.reduceToNat, Int.reduceNeg, e1, e2, e3, e4, c5, e6f] <;> (repeat' apply And.intro) <;> first | rfl | exact ⟨_, rfl⟩ | simp [lst]

noncomputable def s_UnionProblem (p_Labels : Int) (p_Degree : Int) (p_Nodes : List (List Int)) (p_Edges : List (List Int)) (q_Labels : Int) (q_Degree : Int) (q_Nodes : List (List Int)) (q_Edges : List (List Int)) : Option (Int × Int × (List (List Int)) × (List (List Int)) × Bool) :=
  ck (Short p_Nodes) <|
  ck (Short p_Edges) <|
  ck (Short q_Nodes) <|
  ck (Short q_Edges) <|
  if (isProb p_Labels p_Degree p_Nodes p_Edges && (isProb q_Labels q_Degree q_Nodes q_Edges && decide (p_Degree = q_Degree))) = true then
    if 8 < (IntKind.i64.wrap (p_Labels + q_Labels)) then
      some (0, 0, [], [], false)
    else
      ck (tinyB p_Nodes = true) <|
      ck (tinyB q_Nodes = true) <|
      ck (0 ≤ p_Labels ∧ p_Labels ≤ 8) <|
      ck (p_Nodes.length + (shiftL p_Labels q_Nodes).length < 1099511627776) <|
      ck (tinyB p_Edges = true) <|
      ck (tinyB q_Edges = true) <|
      ck (p_Edges.length + (shiftL p_Labels q_Edges).length < 1099511627776) <|
      some (IntKind.i64.wrap (p_Labels + q_Labels), p_Degree, (p_Nodes ++ (shiftL p_Labels q_Nodes)), (p_Edges ++ (shiftL p_Labels q_Edges)), true)
  else
    some (0, 0, [], [], false)
/-- spec.UnionProblem -/
def k41 : SC :=
  .seq
    (.ops [
      ⟨(some 2), (Op.box 39 (Operand.tmp 0)), 0, none⟩,
      ⟨(some 3), (Op.box 39 (Operand.tmp 1)), 0, none⟩,
      ⟨(some 4), (Op.alloc 39), 0, none⟩,
      ⟨(some 5), (Op.assign (Operand.const (Value.bool false))), 4, none⟩])
    (.seq
      (.seq
        (.ops [
          ⟨(some 6), (Op.load 39 (Operand.tmp 2)), 39, none⟩,
          ⟨(some 7), (Op.load 39 (Operand.tmp 3)), 39, none⟩,
          ⟨(some 8), (Op.call { callee := (Callee.value (Operand.func 68)), args := #[(Operand.tmp 6), (Operand.tmp 7)], argTypes := #[39, 39] }), 4, none⟩,
          ⟨(some 9), (Op.unOp UnOp.not 4 (Operand.tmp 8)), 4, none⟩,
          ⟨(some 10), (Op.move (Operand.tmp 9)), 4, none⟩,
          ⟨(some 11), (Op.fieldAddr 39 (Operand.tmp 2) 0), 0, (some (some 10, false))⟩,
          ⟨(some 12), (Op.load 3 (Operand.tmp 11)), 3, (some (some 10, false))⟩,
          ⟨(some 13), (Op.fieldAddr 39 (Operand.tmp 3) 0), 0, (some (some 10, false))⟩,
          ⟨(some 14), (Op.load 3 (Operand.tmp 13)), 3, (some (some 10, false))⟩,
          ⟨(some 15), (Op.binOp BinOp.add 3 (Operand.tmp 12) (Operand.tmp 14) 3), 3, (some (some 10, false))⟩,
          ⟨(some 16), (Op.binOp BinOp.gtr 3 (Operand.tmp 15) (Operand.const (Value.int IntKind.i64 8)) 3), 4, (some (some 10, false))⟩,
          ⟨(some 17), (Op.pick (Operand.tmp 10) (Operand.const (Value.bool true)) (Operand.tmp 16)), 4, none⟩])
        (.cond (Operand.tmp 17)
          (.seq
            (.ops [
              ⟨(some 18), (Op.build 39 #[]), 39, none⟩,
              ⟨none, (Op.store 39 (Operand.tmp 4) (Operand.tmp 18)), 0, none⟩,
              ⟨(some 5), (Op.assign (Operand.const (Value.bool false))), 4, none⟩])
            .ret)
          .skip))
      (.seq
        (.draws [
          (⟨[19, 2, 2], [19, 20, 21, 22, 23, 24, 25, 26, 27, 28, 29, 30, 31, 32, 33, 34, 28, 33, 28, 33, 35, 36, 37, 38, 39, 40, 41, 42, 43, 37, 42, 37, 42, 44, 23, 25, 34, 43, 23, 2, 34, 43, 4, 44, 4, 44, 5], [19]⟩, ⟨(some 19), (Op.fieldAddr 39 (Operand.tmp 2) 0), 0, none⟩),
          (⟨[20, 19, 2], [19, 20, 21, 22, 23, 24, 25, 26, 27, 28, 29, 30, 31, 32, 33, 34, 28, 33, 28, 33, 35, 36, 37, 38, 39, 40, 41, 42, 43, 37, 42, 37, 42, 44, 23, 25, 34, 43, 23, 2, 34, 43, 4, 44, 4, 44, 5], [20]⟩, ⟨(some 20), (Op.load 3 (Operand.tmp 19)), 3, none⟩),
          (⟨[21, 3, 3], [19, 20, 21, 22, 23, 24, 25, 26, 27, 28, 29, 30, 31, 32, 33, 34, 28, 33, 28, 33, 35, 36, 37, 38, 39, 40, 41, 42, 43, 37, 42, 37, 42, 44, 23, 25, 34, 43, 23, 2, 34, 43, 4, 44, 4, 44, 5], [21]⟩, ⟨(some 21), (Op.fieldAddr 39 (Operand.tmp 3) 0), 0, none⟩),
          (⟨[22, 21, 3], [19, 20, 21, 22, 23, 24, 25, 26, 27, 28, 29, 30, 31, 32, 33, 34, 28, 33, 28, 33, 35, 36, 37, 38, 39, 40, 41, 42, 43, 37, 42, 37, 42, 44, 23, 25, 34, 43, 23, 2, 34, 43, 4, 44, 4, 44, 5], [22]⟩, ⟨(some 22), (Op.load 3 (Operand.tmp 21)), 3, none⟩),
          (⟨[23, 20, 22, 2, 3], [19, 20, 21, 22, 23, 24, 25, 26, 27, 28, 29, 30, 31, 32, 33, 34, 28, 33, 28, 33, 35, 36, 37, 38, 39, 40, 41, 42, 43, 37, 42, 37, 42, 44, 23, 25, 34, 43, 23, 2, 34, 43, 4, 44, 4, 44, 5], [23]⟩, ⟨(some 23), (Op.binOp BinOp.add 3 (Operand.tmp 20) (Operand.tmp 22) 3), 3, none⟩),
          (⟨[24, 2, 2], [19, 20, 21, 22, 23, 24, 25, 26, 27, 28, 29, 30, 31, 32, 33, 34, 28, 33, 28, 33, 35, 36, 37, 38, 39, 40, 41, 42, 43, 37, 42, 37, 42, 44, 23, 25, 34, 43, 23, 2, 34, 43, 4, 44, 4, 44, 5], [24]⟩, ⟨(some 24), (Op.fieldAddr 39 (Operand.tmp 2) 1), 0, none⟩),
          (⟨[25, 24, 2], [19, 20, 21, 22, 23, 24, 25, 26, 27, 28, 29, 30, 31, 32, 33, 34, 28, 33, 28, 33, 35, 36, 37, 38, 39, 40, 41, 42, 43, 37, 42, 37, 42, 44, 23, 25, 34, 43, 23, 2, 34, 43, 4, 44, 4, 44, 5], [25]⟩, ⟨(some 25), (Op.load 3 (Operand.tmp 24)), 3, none⟩),
          (⟨[26, 2, 2], [19, 20, 21, 22, 23, 24, 25, 26, 27, 28, 29, 30, 31, 32, 33, 34, 28, 33, 28, 33, 35, 36, 37, 38, 39, 40, 41, 42, 43, 37, 42, 37, 42, 44, 23, 25, 34, 43, 23, 2, 34, 43, 4, 44, 4, 44, 5], [26]⟩, ⟨(some 26), (Op.fieldAddr 39 (Operand.tmp 2) 2), 0, none⟩),
          (⟨[27, 26, 2], [19, 20, 21, 22, 23, 24, 25, 26, 27, 28, 29, 30, 31, 32, 33, 34, 28, 33, 28, 33, 35, 36, 37, 38, 39, 40, 41, 42, 43, 37, 42, 37, 42, 44, 23, 25, 34, 43, 23, 2, 34, 43, 4, 44, 4, 44, 5], [27]⟩, ⟨(some 27), (Op.load 34 (Operand.tmp 26)), 34, none⟩),
          (⟨[28, 27, 2], [19, 20, 21, 22, 23, 24, 25, 26, 27, 28, 29, 30, 31, 32, 33, 34, 28, 33, 28, 33, 35, 36, 37, 38, 39, 40, 41, 42, 43, 37, 42, 37, 42, 44, 23, 25, 34, 43, 23, 2, 34, 43, 4, 44, 4, 44, 5], [28]⟩, ⟨(some 28), (Op.call { callee := (Callee.value (Operand.func 69)), args := #[(Operand.tmp 27)], argTypes := #[34] }), 34, none⟩),
          (⟨[29, 3, 3], [19, 20, 21, 22, 23, 24, 25, 26, 27, 28, 29, 30, 31, 32, 33, 34, 28, 33, 28, 33, 35, 36, 37, 38, 39, 40, 41, 42, 43, 37, 42, 37, 42, 44, 23, 25, 34, 43, 23, 2, 34, 43, 4, 44, 4, 44, 5], [29]⟩, ⟨(some 29), (Op.fieldAddr 39 (Operand.tmp 3) 2), 0, none⟩),
          (⟨[30, 29, 3], [19, 20, 21, 22, 23, 24, 25, 26, 27, 28, 29, 30, 31, 32, 33, 34, 28, 33, 28, 33, 35, 36, 37, 38, 39, 40, 41, 42, 43, 37, 42, 37, 42, 44, 23, 25, 34, 43, 23, 2, 34, 43, 4, 44, 4, 44, 5], [30]⟩, ⟨(some 30), (Op.load 34 (Operand.tmp 29)), 34, none⟩),
          (⟨[31, 2, 2], [19, 20, 21, 22, 23, 24, 25, 26, 27, 28, 29, 30, 31, 32, 33, 34, 28, 33, 28, 33, 35, 36, 37, 38, 39, 40, 41, 42, 43, 37, 42, 37, 42, 44, 23, 25, 34, 43, 23, 2, 34, 43, 4, 44, 4, 44, 5], [31]⟩, ⟨(some 31), (Op.fieldAddr 39 (Operand.tmp 2) 0), 0, none⟩),
          (⟨[32, 31, 2], [19, 20, 21, 22, 23, 24, 25, 26, 27, 28, 29, 30, 31, 32, 33, 34, 28, 33, 28, 33, 35, 36, 37, 38, 39, 40, 41, 42, 43, 37, 42, 37, 42, 44, 23, 25, 34, 43, 23, 2, 34, 43, 4, 44, 4, 44, 5], [32]⟩, ⟨(some 32), (Op.load 3 (Operand.tmp 31)), 3, none⟩),
          (⟨[33, 30, 32, 3, 2], [19, 20, 21, 22, 23, 24, 25, 26, 27, 28, 29, 30, 31, 32, 33, 34, 28, 33, 28, 33, 35, 36, 37, 38, 39, 40, 41, 42, 43, 37, 42, 37, 42, 44, 23, 25, 34, 43, 23, 2, 34, 43, 4, 44, 4, 44, 5], [33]⟩, ⟨(some 33), (Op.call { callee := (Callee.value (Operand.func 70)), args := #[(Operand.tmp 30), (Operand.tmp 32)], argTypes := #[34, 3] }), 34, none⟩),
          (⟨[34, 28, 33, 28, 33], [19, 20, 21, 22, 23, 24, 25, 26, 27, 28, 29, 30, 31, 32, 33, 34, 28, 33, 28, 33, 35, 36, 37, 38, 39, 40, 41, 42, 43, 37, 42, 37, 42, 44, 23, 25, 34, 43, 23, 2, 34, 43, 4, 44, 4, 44, 5], [34, 28, 33, 28, 33]⟩, ⟨(some 34), (Op.call { callee := (Callee.builtin Builtin.append), args := #[(Operand.tmp 28), (Operand.tmp 33)], argTypes := #[34, 34] }), 34, none⟩),
          (⟨[35, 2, 2], [19, 20, 21, 22, 23, 24, 25, 26, 27, 28, 29, 30, 31, 32, 33, 34, 28, 33, 28, 33, 35, 36, 37, 38, 39, 40, 41, 42, 43, 37, 42, 37, 42, 44, 23, 25, 34, 43, 23, 2, 34, 43, 4, 44, 4, 44, 5], [35]⟩, ⟨(some 35), (Op.fieldAddr 39 (Operand.tmp 2) 3), 0, none⟩),
          (⟨[36, 35, 2], [19, 20, 21, 22, 23, 24, 25, 26, 27, 28, 29, 30, 31, 32, 33, 34, 28, 33, 28, 33, 35, 36, 37, 38, 39, 40, 41, 42, 43, 37, 42, 37, 42, 44, 23, 25, 34, 43, 23, 2, 34, 43, 4, 44, 4, 44, 5], [36]⟩, ⟨(some 36), (Op.load 34 (Operand.tmp 35)), 34, none⟩),
          (⟨[37, 36, 2], [19, 20, 21, 22, 23, 24, 25, 26, 27, 28, 29, 30, 31, 32, 33, 34, 28, 33, 28, 33, 35, 36, 37, 38, 39, 40, 41, 42, 43, 37, 42, 37, 42, 44, 23, 25, 34, 43, 23, 2, 34, 43, 4, 44, 4, 44, 5], [37]⟩, ⟨(some 37), (Op.call { callee := (Callee.value (Operand.func 69)), args := #[(Operand.tmp 36)], argTypes := #[34] }), 34, none⟩),
          (⟨[38, 3, 3], [19, 20, 21, 22, 23, 24, 25, 26, 27, 28, 29, 30, 31, 32, 33, 34, 28, 33, 28, 33, 35, 36, 37, 38, 39, 40, 41, 42, 43, 37, 42, 37, 42, 44, 23, 25, 34, 43, 23, 2, 34, 43, 4, 44, 4, 44, 5], [38]⟩, ⟨(some 38), (Op.fieldAddr 39 (Operand.tmp 3) 3), 0, none⟩),
          (⟨[39, 38, 3], [19, 20, 21, 22, 23, 24, 25, 26, 27, 28, 29, 30, 31, 32, 33, 34, 28, 33, 28, 33, 35, 36, 37, 38, 39, 40, 41, 42, 43, 37, 42, 37, 42, 44, 23, 25, 34, 43, 23, 2, 34, 43, 4, 44, 4, 44, 5], [39]⟩, ⟨(some 39), (Op.load 34 (Operand.tmp 38)), 34, none⟩),
          (⟨[40, 2, 2], [19, 20, 21, 22, 23, 24, 25, 26, 27, 28, 29, 30, 31, 32, 33, 34, 28, 33, 28, 33, 35, 36, 37, 38, 39, 40, 41, 42, 43, 37, 42, 37, 42, 44, 23, 25, 34, 43, 23, 2, 34, 43, 4, 44, 4, 44, 5], [40]⟩, ⟨(some 40), (Op.fieldAddr 39 (Operand.tmp 2) 0), 0, none⟩),
          (⟨[41, 40, 2], [19, 20, 21, 22, 23, 24, 25, 26, 27, 28, 29, 30, 31, 32, 33, 34, 28, 33, 28, 33, 35, 36, 37, 38, 39, 40, 41, 42, 43, 37, 42, 37, 42, 44, 23, 25, 34, 43, 23, 2, 34, 43, 4, 44, 4, 44, 5], [41]⟩, ⟨(some 41), (Op.load 3 (Operand.tmp 40)), 3, none⟩),
          (⟨[42, 39, 41, 3, 2], [19, 20, 21, 22, 23, 24, 25, 26, 27, 28, 29, 30, 31, 32, 33, 34, 28, 33, 28, 33, 35, 36, 37, 38, 39, 40, 41, 42, 43, 37, 42, 37, 42, 44, 23, 25, 34, 43, 23, 2, 34, 43, 4, 44, 4, 44, 5], [42]⟩, ⟨(some 42), (Op.call { callee := (Callee.value (Operand.func 70)), args := #[(Operand.tmp 39), (Operand.tmp 41)], argTypes := #[34, 3] }), 34, none⟩),
          (⟨[43, 37, 42, 37, 42], [19, 20, 21, 22, 23, 24, 25, 26, 27, 28, 29, 30, 31, 32, 33, 34, 28, 33, 28, 33, 35, 36, 37, 38, 39, 40, 41, 42, 43, 37, 42, 37, 42, 44, 23, 25, 34, 43, 23, 2, 34, 43, 4, 44, 4, 44, 5], [43, 37, 42, 37, 42]⟩, ⟨(some 43), (Op.call { callee := (Callee.builtin Builtin.append), args := #[(Operand.tmp 37), (Operand.tmp 42)], argTypes := #[34, 34] }), 34, none⟩),
          (⟨[44, 23, 25, 34, 43, 23, 2, 34, 43], [19, 20, 21, 22, 23, 24, 25, 26, 27, 28, 29, 30, 31, 32, 33, 34, 28, 33, 28, 33, 35, 36, 37, 38, 39, 40, 41, 42, 43, 37, 42, 37, 42, 44, 23, 25, 34, 43, 23, 2, 34, 43, 4, 44, 4, 44, 5], [44, 23, 25, 34, 43, 23, 2, 34, 43]⟩, ⟨(some 44), (Op.build 39 #[(0, (Operand.tmp 23)), (1, (Operand.tmp 25)), (2, (Operand.tmp 34)), (3, (Operand.tmp 43))]), 39, none⟩),
          (⟨[4, 44, 4, 44], [19, 20, 21, 22, 23, 24, 25, 26, 27, 28, 29, 30, 31, 32, 33, 34, 28, 33, 28, 33, 35, 36, 37, 38, 39, 40, 41, 42, 43, 37, 42, 37, 42, 44, 23, 25, 34, 43, 23, 2, 34, 43, 4, 44, 4, 44, 5], [4, 44, 4, 44]⟩, ⟨none, (Op.store 39 (Operand.tmp 4) (Operand.tmp 44)), 0, none⟩),
          (⟨[5], [19, 20, 21, 22, 23, 24, 25, 26, 27, 28, 29, 30, 31, 32, 33, 34, 28, 33, 28, 33, 35, 36, 37, 38, 39, 40, 41, 42, 43, 37, 42, 37, 42, 44, 23, 25, 34, 43, 23, 2, 34, 43, 4, 44, 4, 44, 5], [5]⟩, ⟨(some 5), (Op.assign (Operand.const (Value.bool true))), 4, none⟩)])
        .ret))
theorem slim41 : Try.f41.body.map (slim lends) = some k41 := by kernel_rfl
theorem ok41 : fnOk Try.f41 2 = true := by kernel_rfl
theorem c41 {a l : List D} {r : D × List D} (h : wpD Y.env k41 (fin tys l.length [ResultVar.cell 4 39, ResultVar.tmp 5] r) (entry a l)) (ha : a.length = 2) : Y.call 41 a l = some r :=
  call_slim (Y := Y) rfl Try.func41 (ha ▸ ok41) slim41 h
theorem s_UnionProblem_call (p_Labels : Int) (p_Degree : Int) (p_Nodes : List (List Int)) (p_Edges : List (List Int)) (q_Labels : Int) (q_Degree : Int) (q_Nodes : List (List Int)) (q_Edges : List (List Int)) {r : Int × Int × (List (List Int)) × (List (List Int)) × Bool} (h : s_UnionProblem p_Labels p_Degree p_Nodes p_Edges q_Labels q_Degree q_Nodes q_Edges = some r) : Y.call 41 [D.agg [D.int .i64 p_Labels, D.int .i64 p_Degree, D.sl 25 (lst (fun x => D.sl 3 (lst (D.int .i64) x)) p_Nodes), D.sl 25 (lst (fun x => D.sl 3 (lst (D.int .i64) x)) p_Edges)], D.agg [D.int .i64 q_Labels, D.int .i64 q_Degree, D.sl 25 (lst (fun x => D.sl 3 (lst (D.int .i64) x)) q_Nodes), D.sl 25 (lst (fun x => D.sl 3 (lst (D.int .i64) x)) q_Edges)]] [] = some (D.tup [D.agg [D.int .i64 r.1, D.int .i64 r.2.1, D.own 25 (lst (fun x => D.own 3 (lst (D.int .i64) x)) r.2.2.1), D.own 25 (lst (fun x => D.own 3 (lst (D.int .i64) x)) r.2.2.2.1)], D.bool r.2.2.2.2], []) := by
  refine c41 ?_ rfl
  unfold k41
  unfold s_UnionProblem at h
  obtain ⟨e1, h⟩ := ckS h
  obtain ⟨e2, h⟩ := ckS h
  obtain ⟨e3, h⟩ := ckS h
  obtain ⟨e4, h⟩ := ckS h
  have c5 := s_reTwo_cl p_Labels p_Degree p_Nodes p_Edges q_Labels q_Degree q_Nodes q_Edges e1 e2 e3 e4
  by_cases e6 : (isProb p_Labels p_Degree p_Nodes p_Edges && (isProb q_Labels q_Degree q_Nodes q_Edges && decide (p_Degree = q_Degree))) = true
  · rw [if_pos e6] at h
    by_cases e7 : 8 < (IntKind.i64.wrap (p_Labels + q_Labels))
    · rw [if_pos e7] at h
      obtain rfl := Option.some.inj h
      simp (maxDischargeDepth := 9) only [↓xpre, xpost, xlst, xcore, yset, rg0, ↓reduceIte, Nat.reduceEqDiff, Nat.reduceLT, Nat.reduceLeDiff, Nat.reduceAdd, Nat.reduceMul, Nat.reduceMod, Nat.reduceSub, Nat.reduceBEq, Int.reduceLE, Int.reduceLT, Int.reduceEq, Int.reduceSub, Int.reduceAdd, Int.reduceToNat, Int.reduceNeg, e1, e2, e3, e4, c5, e6, e7] <;> (repeat' apply And.intro) <;> first | rfl | exact ⟨_, rfl⟩ | simp [lst]
    · rw [if_neg e7] at h
      obtain ⟨e8, h⟩ := ckS h
      have c9 := s_reOwn_cl p_Nodes e1 e8
      obtain ⟨e10, h⟩ := ckS h
      obtain ⟨e11, h⟩ := ckS h
      have c12 := s_reShifted_cl q_Nodes p_Labels e3 e10 e11
      obtain ⟨e13, h⟩ := ckS h
      by_cases e14 : ((shiftL p_Labels q_Nodes).isEmpty) = true
      · skip
        obtain ⟨e15, h⟩ := ckS h
        have c16 := s_reOwn_cl p_Edges e2 e15
        obtain ⟨e17, h⟩ := ckS h
        have c18 := s_reShifted_cl q_Edges p_Labels e4 e17 e11
        obtain ⟨e19, h⟩ := ckS h
        by_cases e20 : ((shiftL p_Labels q_Edges).isEmpty) = true
        · skip
          obtain rfl := Option.some.inj h
          simp (maxDischargeDepth := 9) only [↓xpre, xpost, xlst, xcore, yset, rg0, ↓reduceIte, Nat.reduceEqDiff, Nat.reduceLT, Nat.reduceLeDiff, Nat.reduceAdd, Nat.reduceMul, Nat.reduceMod, Nat.reduceSub, Nat.reduceBEq, Int.reduceLE, Int.reduceLT, Int.reduceEq, Int.reduceSub, Int.reduceAdd, Int.reduceToNat, Int.reduceNeg, e1, e2, e3, e4, c5, e6, e7, e8, c9, e10, e11.1, e11.2, c12, e13, e14, e15, c16, e17, c18, e19, e20] <;> (repeat' apply And.intro) <;> first | rfl | exact ⟨_, rfl⟩ | simp [lst]
        · skip
          have e20f : ((shiftL p_Labels q_Edges).isEmpty) = false := Bool.eq_false_iff.mpr e20
          obtain rfl := Option.some.inj h
          simp (maxDischargeDepth := 9) only [↓xpre, xpost, xlst, xcore, yset, rg0, ↓reduceIte, Nat.reduceEqDiff, Nat.reduceLT, Nat.reduceLeDiff, Nat.reduceAdd, Nat.reduceMul, Nat.reduceMod, Nat.reduceSub, Nat.reduceBEq, Int.reduceLE, Int.reduceLT, Int.reduceEq, Int.reduceSub, Int.reduceAdd, Int.reduceToNat, Int.reduceNeg, e1, e2, e3, e4, c5, e6, e7, e8, c9, e10, e11.1, e11.2, c12, e13, e14, e15, c16, e17, c18, e19, e20f] <;> (repeat' apply And.intro) <;> first | rfl | exact ⟨_, rfl⟩ | simp [lst]
      · skip
        have e14f : ((shiftL p_Labels q_Nodes).isEmpty) = false := Bool.eq_false_iff.mpr e14
        obtain ⟨e15, h⟩ := ckS h
        have c16 := s_reOwn_cl p_Edges e2 e15
        obtain ⟨e17, h⟩ := ckS h
        have c18 := s_reShifted_cl q_Edges p_Labels e4 e17 e11
        obtain ⟨e19, h⟩ := ckS h
        by_cases e20 : ((shiftL p_Labels q_Edges).isEmpty) = true
        · skip
          obtain rfl := Option.some.inj h
          simp (maxDischargeDepth := 9) only [↓xpre, xpost, xlst, xcore, yset, rg0, ↓reduceIte, Nat.reduceEqDiff, Nat.reduceLT, Nat.reduceLeDiff, Nat.reduceAdd, Nat.reduceMul, Nat.reduceMod, Nat.reduceSub, Nat.reduceBEq, Int.reduceLE, Int.reduceLT, Int.reduceEq, Int.reduceSub, Int.reduceAdd, Int.reduceToNat, Int.reduceNeg, e1, e2, e3, e4, c5, e6, e7, e8, c9, e10, e11.1, e11.2, c12, e13, e14f, e15, c16, e17, c18, e19, e20] <;> (repeat' apply And.intro) <;> first | rfl | exact ⟨_, rfl⟩ | simp [lst]
        · skip
          have e20f : ((shiftL p_Labels q_Edges).isEmpty) = false := Bool.eq_false_iff.mpr e20
          obtain rfl := Option.some.inj h
          simp (maxDischargeDepth := 9) only [↓xpre, xpost, xlst, xcore, yset, rg0, ↓reduceIte, Nat.reduceEqDiff, Nat.reduceLT, Nat.reduceLeDiff, Nat.reduceAdd, Nat.reduceMul, Nat.reduceMod, Nat.reduceSub, Nat.reduceBEq, Int.reduceLE, Int.reduceLT, Int.reduceEq, Int.reduceSub, Int.reduceAdd, Int.reduceToNat, Int.reduceNeg, e1, e2, e3, e4, c5, e6, e7, e8, c9, e10, e11.1, e11.2, c12, e13, e14f, e15, c16, e17, c18, e19, e20f] <;> (repeat' apply And.intro) <;> first | rfl | exact ⟨_, rfl⟩ | simp [lst]
  · rw [if_neg e6] at h
    have e6f : (isProb p_Labels p_Degree p_Nodes p_Edges && (isProb q_Labels q_Degree q_Nodes q_Edges && decide (p_Degree = q_Degree))) = false := Bool.eq_false_iff.mpr e6
    obtain rfl := Option.some.inj h
    simp (maxDischargeDepth := 9) only [↓xpre, xpost, xlst, xcore, yset, rg0, ↓reduceIte, Nat.reduceEqDiff, Nat.reduceLT, Nat.reduceLeDiff, Nat.reduceAdd, Nat.reduceMul, Nat.reduceMod, Nat.reduceSub, Nat.reduceBEq, Int.reduceLE, Int.reduceLT, Int.reduceEq, Int.reduceSub, Int.reduceAdd, Int.reduceToNat, Int.reduceNeg, e1, e2, e3, e4, c5, e6f] <;> (repeat' apply And.intro) <;> first | rfl | exact ⟨_, rfl⟩ | simp [lst]

noncomputable def l_FnExactUnionProblem (t0_Labels : Int) (t0_Degree : Int) (t0_Nodes : List (List Int)) (t0_Edges : List (List Int)) (t1_Labels : Int) (t1_Degree : Int) (t1_Nodes : List (List Int)) (t1_Edges : List (List Int)) : Option (Bool) :=
  ck (Wide t0_Nodes) <|
  ck (Wide t0_Edges) <|
  ck (0 ≤ (1048576 : Int) ∧ (1048576 : Int) ≤ 1048576) <|
  if (szP (1048576 : Int) t0_Nodes t0_Edges) < 0 then
    some true
  else
    ck (Wide t1_Nodes) <|
    ck (Wide t1_Edges) <|
    ck (0 ≤ (szP (1048576 : Int) t0_Nodes t0_Edges) ∧ (szP (1048576 : Int) t0_Nodes t0_Edges) ≤ 1048576) <|
    if (szP (szP (1048576 : Int) t0_Nodes t0_Edges) t1_Nodes t1_Edges) < 0 then
      some true
    else
      ck (Short t0_Nodes) <|
      ck (Short t0_Edges) <|
      ck (Short t1_Nodes) <|
      ck (Short t1_Edges) <|
      (s_UnionProblem t0_Labels t0_Degree t0_Nodes t0_Edges t1_Labels t1_Degree t1_Nodes t1_Edges).bind fun r17_ =>
      (i_UnionProblem t0_Labels t0_Degree t0_Nodes t0_Edges t1_Labels t1_Degree t1_Nodes t1_Edges).bind fun r20_ =>
      ck (Short r20_.2.2.1) <|
      ck (Short r20_.2.2.2.1) <|
      if (sameP r20_.1 r20_.2.1 r20_.2.2.1 r20_.2.2.2.1 r17_.1 r17_.2.1 r17_.2.2.1 r17_.2.2.2.1) = true then
        if r20_.2.2.2.2 = true then
          if r17_.2.2.2.2 = true then
            if (sameP t0_Labels t0_Degree t0_Nodes t0_Edges t0_Labels t0_Degree t0_Nodes t0_Edges) = true then
              if (sameP t1_Labels t1_Degree t1_Nodes t1_Edges t1_Labels t1_Degree t1_Nodes t1_Edges) = true then
                ck (0 ≤ (1 : Int) ∧ (1 : Int) + tot t0_Nodes + tot t0_Edges < 1099511627776) <|
                ck (0 ≤ ((1 : Int) + tot t0_Nodes + tot t0_Edges) ∧ ((1 : Int) + tot t0_Nodes + tot t0_Edges) + tot t1_Nodes + tot t1_Edges < 1099511627776) <|
                if (((1 : Int) + tot t0_Nodes + tot t0_Edges) + tot t1_Nodes + tot t1_Edges) < 0 then
                  some false
                else
                  ck (0 ≤ (1 : Int) ∧ (1 : Int) + tot r20_.2.2.1 + tot r20_.2.2.2.1 < 1099511627776) <|
                  (l_heldProblem r20_.1 r20_.2.1 (marks (1 : Int) r20_.2.2.1) (marks ((1 : Int) + tot r20_.2.2.1) r20_.2.2.2.1) (1 : Int)).bind fun r41_ =>
                  if r41_ < 0 then
                    some false
                  else
                    if r41_ = ((1 : Int) + tot r20_.2.2.1 + tot r20_.2.2.2.1) then
                      some true
                    else
                      some false
              else
                some false
            else
              some false
          else
            some false
        else
          if r17_.2.2.2.2 = true then
            some false
          else
            if (sameP t0_Labels t0_Degree t0_Nodes t0_Edges t0_Labels t0_Degree t0_Nodes t0_Edges) = true then
              if (sameP t1_Labels t1_Degree t1_Nodes t1_Edges t1_Labels t1_Degree t1_Nodes t1_Edges) = true then
                ck (0 ≤ (1 : Int) ∧ (1 : Int) + tot t0_Nodes + tot t0_Edges < 1099511627776) <|
                ck (0 ≤ ((1 : Int) + tot t0_Nodes + tot t0_Edges) ∧ ((1 : Int) + tot t0_Nodes + tot t0_Edges) + tot t1_Nodes + tot t1_Edges < 1099511627776) <|
                if (((1 : Int) + tot t0_Nodes + tot t0_Edges) + tot t1_Nodes + tot t1_Edges) < 0 then
                  some false
                else
                  ck (0 ≤ (1 : Int) ∧ (1 : Int) + tot r20_.2.2.1 + tot r20_.2.2.2.1 < 1099511627776) <|
                  (l_heldProblem r20_.1 r20_.2.1 (marks (1 : Int) r20_.2.2.1) (marks ((1 : Int) + tot r20_.2.2.1) r20_.2.2.2.1) (1 : Int)).bind fun r41_ =>
                  if r41_ < 0 then
                    some false
                  else
                    if r41_ = ((1 : Int) + tot r20_.2.2.1 + tot r20_.2.2.2.1) then
                      some true
                    else
                      some false
              else
                some false
            else
              some false
      else
        some false
/-- laws.FnExactUnionProblem -/
def k12 : SC :=
  .seq
    (.ops [
      ⟨(some 2), (Op.box 36 (Operand.tmp 0)), 0, none⟩,
      ⟨(some 3), (Op.box 36 (Operand.tmp 1)), 0, none⟩,
      ⟨(some 4), (Op.assign (Operand.const (Value.bool false))), 4, none⟩])
    (.seq
      (.ops [
        ⟨(some 5), (Op.assign (Operand.const (Value.int IntKind.i64 1048576))), 3, none⟩])
      (.seq
        (.ops [
          ⟨(some 17), (Op.load 36 (Operand.tmp 2)), 36, none⟩,
          ⟨(some 18), (Op.move (Operand.tmp 5)), 3, none⟩,
          ⟨(some 19), (Op.call { callee := (Callee.value (Operand.func 24)), args := #[(Operand.tmp 17), (Operand.tmp 18)], argTypes := #[36, 3] }), 3, none⟩,
          ⟨(some 5), (Op.assign (Operand.tmp 19)), 3, none⟩])
        (.seq
          (.seq
            (.ops [
              ⟨(some 20), (Op.move (Operand.tmp 5)), 3, none⟩,
              ⟨(some 21), (Op.binOp BinOp.lss 3 (Operand.tmp 20) (Operand.const (Value.int IntKind.i64 0)) 3), 4, none⟩])
            (.cond (Operand.tmp 21)
              (.seq
                (.ops [
                  ⟨(some 4), (Op.assign (Operand.const (Value.bool true))), 4, none⟩])
                .ret)
              .skip))
          (.seq
            (.ops [
              ⟨(some 22), (Op.load 36 (Operand.tmp 3)), 36, none⟩,
              ⟨(some 23), (Op.move (Operand.tmp 5)), 3, none⟩,
              ⟨(some 24), (Op.call { callee := (Callee.value (Operand.func 24)), args := #[(Operand.tmp 22), (Operand.tmp 23)], argTypes := #[36, 3] }), 3, none⟩,
              ⟨(some 5), (Op.assign (Operand.tmp 24)), 3, none⟩])
            (.seq
              (.seq
                (.ops [
                  ⟨(some 25), (Op.move (Operand.tmp 5)), 3, none⟩,
                  ⟨(some 26), (Op.binOp BinOp.lss 3 (Operand.tmp 25) (Operand.const (Value.int IntKind.i64 0)) 3), 4, none⟩])
                (.cond (Operand.tmp 26)
                  (.seq
                    (.ops [
                      ⟨(some 4), (Op.assign (Operand.const (Value.bool true))), 4, none⟩])
                    .ret)
                  .skip))
              (.seq
                (.draws [
                  (⟨[28, 2, 2], [28, 29, 30, 31, 32, 27, 32, 33, 34, 6, 6, 33, 6, 32, 7, 34], [28]⟩, ⟨(some 28), (Op.load 36 (Operand.tmp 2)), 36, none⟩),
                  (⟨[29, 28, 2], [28, 29, 30, 31, 32, 27, 32, 33, 34, 6, 6, 33, 6, 32, 7, 34], [29]⟩, ⟨(some 29), (Op.call { callee := (Callee.value (Operand.func 26)), args := #[(Operand.tmp 28)], argTypes := #[36] }), 39, none⟩),
                  (⟨[30, 3, 3], [28, 29, 30, 31, 32, 27, 32, 33, 34, 6, 6, 33, 6, 32, 7, 34], [30]⟩, ⟨(some 30), (Op.load 36 (Operand.tmp 3)), 36, none⟩),
                  (⟨[31, 30, 3], [28, 29, 30, 31, 32, 27, 32, 33, 34, 6, 6, 33, 6, 32, 7, 34], [31]⟩, ⟨(some 31), (Op.call { callee := (Callee.value (Operand.func 26)), args := #[(Operand.tmp 30)], argTypes := #[36] }), 39, none⟩),
                  (⟨[32, 29, 31, 29, 31], [28, 29, 30, 31, 32, 27, 32, 33, 34, 6, 6, 33, 6, 32, 7, 34], [32]⟩, ⟨(some 32), (Op.call { callee := (Callee.value (Operand.func 41)), args := #[(Operand.tmp 29), (Operand.tmp 31)], argTypes := #[39, 39] }), 43, none⟩),
                  (⟨[27, 32, 32], [28, 29, 30, 31, 32, 27, 32, 33, 34, 6, 6, 33, 6, 32, 7, 34], [27, 32]⟩, ⟨(some 27), (Op.move (Operand.tmp 32)), 43, none⟩),
                  (⟨[33, 27], [28, 29, 30, 31, 32, 27, 32, 33, 34, 6, 6, 33, 6, 32, 7, 34], [33]⟩, ⟨(some 33), (Op.extract (Operand.tmp 27) 0), 39, none⟩),
                  (⟨[34, 27], [28, 29, 30, 31, 32, 27, 32, 33, 34, 6, 6, 33, 6, 32, 7, 34], [34]⟩, ⟨(some 34), (Op.extract (Operand.tmp 27) 1), 4, none⟩),
                  (⟨[6], [28, 29, 30, 31, 32, 27, 32, 33, 34, 6, 6, 33, 6, 32, 7, 34], [6]⟩, ⟨(some 6), (Op.alloc 39), 0, none⟩),
                  (⟨[6, 33, 6, 32], [28, 29, 30, 31, 32, 27, 32, 33, 34, 6, 6, 33, 6, 32, 7, 34], [6, 33, 6, 32]⟩, ⟨none, (Op.store 39 (Operand.tmp 6) (Operand.tmp 33)), 0, none⟩),
                  (⟨[7, 34], [28, 29, 30, 31, 32, 27, 32, 33, 34, 6, 6, 33, 6, 32, 7, 34], [7, 34]⟩, ⟨(some 7), (Op.assign (Operand.tmp 34)), 4, none⟩)])
                (.seq
                  (.ops [
                    ⟨(some 35), (Op.load 36 (Operand.tmp 2)), 36, none⟩,
                    ⟨(some 36), (Op.call { callee := (Callee.value (Operand.func 26)), args := #[(Operand.tmp 35)], argTypes := #[36] }), 39, none⟩,
                    ⟨(some 8), (Op.alloc 39), 0, none⟩,
                    ⟨none, (Op.store 39 (Operand.tmp 8) (Operand.tmp 36)), 0, none⟩])
                  (.seq
                    (.ops [
                      ⟨(some 37), (Op.load 36 (Operand.tmp 3)), 36, none⟩,
                      ⟨(some 38), (Op.call { callee := (Callee.value (Operand.func 26)), args := #[(Operand.tmp 37)], argTypes := #[36] }), 39, none⟩,
                      ⟨(some 9), (Op.alloc 39), 0, none⟩,
                      ⟨none, (Op.store 39 (Operand.tmp 9) (Operand.tmp 38)), 0, none⟩])
                    (.seq
                      (.ops [
                        ⟨(some 40), (Op.load 39 (Operand.tmp 8)), 39, none⟩,
                        ⟨(some 41), (Op.load 39 (Operand.tmp 9)), 39, none⟩,
                        ⟨(some 42), (Op.call { callee := (Callee.value (Operand.func 42)), args := #[(Operand.tmp 40), (Operand.tmp 41)], argTypes := #[39, 39] }), 43, none⟩,
                        ⟨(some 39), (Op.move (Operand.tmp 42)), 43, none⟩,
                        ⟨(some 43), (Op.extract (Operand.tmp 39) 0), 39, none⟩,
                        ⟨(some 44), (Op.extract (Operand.tmp 39) 1), 4, none⟩,
                        ⟨(some 10), (Op.alloc 39), 0, none⟩,
                        ⟨none, (Op.store 39 (Operand.tmp 10) (Operand.tmp 43)), 0, none⟩,
                        ⟨(some 11), (Op.assign (Operand.tmp 44)), 4, none⟩])
                      (.seq
                        (.seq
                          (.ops [
                            ⟨(some 45), (Op.load 39 (Operand.tmp 10)), 39, none⟩,
                            ⟨(some 46), (Op.load 39 (Operand.tmp 6)), 39, none⟩,
                            ⟨(some 47), (Op.call { callee := (Callee.value (Operand.func 28)), args := #[(Operand.tmp 45), (Operand.tmp 46)], argTypes := #[39, 39] }), 4, none⟩,
                            ⟨(some 48), (Op.unOp UnOp.not 4 (Operand.tmp 47)), 4, none⟩,
                            ⟨(some 49), (Op.move (Operand.tmp 48)), 4, none⟩,
                            ⟨(some 50), (Op.move (Operand.tmp 11)), 4, (some (some 49, false))⟩,
                            ⟨(some 51), (Op.move (Operand.tmp 7)), 4, (some (some 49, false))⟩,
                            ⟨(some 52), (Op.binOp BinOp.neq 4 (Operand.tmp 50) (Operand.tmp 51) 4), 4, (some (some 49, false))⟩,
                            ⟨(some 53), (Op.pick (Operand.tmp 49) (Operand.const (Value.bool true)) (Operand.tmp 52)), 4, none⟩])
                          (.cond (Operand.tmp 53)
                            (.seq
                              (.ops [
                                ⟨(some 4), (Op.assign (Operand.const (Value.bool false))), 4, none⟩])
                              .ret)
                            .skip))
                        (.seq
                          (.seq
                            (.draws [
                              (⟨[54, 8, 8], [54, 55, 56, 57, 58], [54]⟩, ⟨(some 54), (Op.load 39 (Operand.tmp 8)), 39, none⟩),
                              (⟨[55, 2, 2], [54, 55, 56, 57, 58], [55]⟩, ⟨(some 55), (Op.load 36 (Operand.tmp 2)), 36, none⟩),
                              (⟨[56, 55, 2], [54, 55, 56, 57, 58], [56]⟩, ⟨(some 56), (Op.call { callee := (Callee.value (Operand.func 26)), args := #[(Operand.tmp 55)], argTypes := #[36] }), 39, none⟩),
                              (⟨[57, 54, 56, 8, 56], [54, 55, 56, 57, 58], [57]⟩, ⟨(some 57), (Op.call { callee := (Callee.value (Operand.func 28)), args := #[(Operand.tmp 54), (Operand.tmp 56)], argTypes := #[39, 39] }), 4, none⟩),
                              (⟨[58, 57, 57], [54, 55, 56, 57, 58], [58]⟩, ⟨(some 58), (Op.unOp UnOp.not 4 (Operand.tmp 57)), 4, none⟩)])
                            (.cond (Operand.tmp 58)
                              (.seq
                                (.ops [
                                  ⟨(some 4), (Op.assign (Operand.const (Value.bool false))), 4, none⟩])
                                .ret)
                              .skip))
                          (.seq
                            (.seq
                              (.draws [
                                (⟨[59, 9, 9], [59, 60, 61, 62, 63], [59]⟩, ⟨(some 59), (Op.load 39 (Operand.tmp 9)), 39, none⟩),
                                (⟨[60, 3, 3], [59, 60, 61, 62, 63], [60]⟩, ⟨(some 60), (Op.load 36 (Operand.tmp 3)), 36, none⟩),
                                (⟨[61, 60, 3], [59, 60, 61, 62, 63], [61]⟩, ⟨(some 61), (Op.call { callee := (Callee.value (Operand.func 26)), args := #[(Operand.tmp 60)], argTypes := #[36] }), 39, none⟩),
                                (⟨[62, 59, 61, 9, 61], [59, 60, 61, 62, 63], [62]⟩, ⟨(some 62), (Op.call { callee := (Callee.value (Operand.func 28)), args := #[(Operand.tmp 59), (Operand.tmp 61)], argTypes := #[39, 39] }), 4, none⟩),
                                (⟨[63, 62, 62], [59, 60, 61, 62, 63], [63]⟩, ⟨(some 63), (Op.unOp UnOp.not 4 (Operand.tmp 62)), 4, none⟩)])
                              (.cond (Operand.tmp 63)
                                (.seq
                                  (.ops [
                                    ⟨(some 4), (Op.assign (Operand.const (Value.bool false))), 4, none⟩])
                                  .ret)
                                .skip))
                            (.seq
                              (.ops [
                                ⟨(some 12), (Op.assign (Operand.const (Value.int IntKind.i64 1))), 3, none⟩])
                              (.seq
                                (.ops [
                                  ⟨(some 64), (Op.load 39 (Operand.tmp 8)), 39, none⟩,
                                  ⟨(some 65), (Op.move (Operand.tmp 12)), 3, none⟩,
                                  ⟨(some 66), (Op.call { callee := (Callee.value (Operand.func 31)), args := #[(Operand.tmp 64), (Operand.tmp 65)], argTypes := #[39, 3] }), 3, none⟩,
                                  ⟨(some 12), (Op.assign (Operand.tmp 66)), 3, none⟩])
                                (.seq
                                  (.ops [
                                    ⟨(some 67), (Op.load 39 (Operand.tmp 9)), 39, none⟩,
                                    ⟨(some 68), (Op.move (Operand.tmp 12)), 3, none⟩,
                                    ⟨(some 69), (Op.call { callee := (Callee.value (Operand.func 31)), args := #[(Operand.tmp 67), (Operand.tmp 68)], argTypes := #[39, 3] }), 3, none⟩,
                                    ⟨(some 12), (Op.assign (Operand.tmp 69)), 3, none⟩])
                                  (.seq
                                    (.seq
                                      (.ops [
                                        ⟨(some 70), (Op.move (Operand.tmp 12)), 3, none⟩,
                                        ⟨(some 71), (Op.binOp BinOp.lss 3 (Operand.tmp 70) (Operand.const (Value.int IntKind.i64 0)) 3), 4, none⟩,
                                        ⟨(some 72), (Op.move (Operand.tmp 71)), 4, none⟩,
                                        ⟨(some 73), (Op.load 39 (Operand.tmp 10)), 39, (some (some 72, false))⟩,
                                        ⟨(some 74), (Op.load 39 (Operand.tmp 6)), 39, (some (some 72, false))⟩,
                                        ⟨(some 75), (Op.call { callee := (Callee.value (Operand.func 28)), args := #[(Operand.tmp 73), (Operand.tmp 74)], argTypes := #[39, 39] }), 4, (some (some 72, false))⟩,
                                        ⟨(some 76), (Op.unOp UnOp.not 4 (Operand.tmp 75)), 4, (some (some 72, false))⟩,
                                        ⟨(some 77), (Op.pick (Operand.tmp 72) (Operand.const (Value.bool true)) (Operand.tmp 76)), 4, none⟩,
                                        ⟨(some 78), (Op.move (Operand.tmp 77)), 4, none⟩,
                                        ⟨(some 79), (Op.move (Operand.tmp 11)), 4, (some (some 78, false))⟩,
                                        ⟨(some 80), (Op.move (Operand.tmp 7)), 4, (some (some 78, false))⟩,
                                        ⟨(some 81), (Op.binOp BinOp.neq 4 (Operand.tmp 79) (Operand.tmp 80) 4), 4, (some (some 78, false))⟩,
                                        ⟨(some 82), (Op.pick (Operand.tmp 78) (Operand.const (Value.bool true)) (Operand.tmp 81)), 4, none⟩])
                                      (.cond (Operand.tmp 82)
                                        (.seq
                                          (.ops [
                                            ⟨(some 4), (Op.assign (Operand.const (Value.bool false))), 4, none⟩])
                                          .ret)
                                        .skip))
                                    (.seq
                                      (.ops [
                                        ⟨(some 13), (Op.assign (Operand.const (Value.int IntKind.i64 1))), 3, none⟩])
                                      (.seq
                                        (.ops [
                                          ⟨(some 83), (Op.load 39 (Operand.tmp 10)), 39, none⟩,
                                          ⟨(some 84), (Op.move (Operand.tmp 13)), 3, none⟩,
                                          ⟨(some 85), (Op.call { callee := (Callee.value (Operand.func 31)), args := #[(Operand.tmp 83), (Operand.tmp 84)], argTypes := #[39, 3] }), 3, none⟩,
                                          ⟨(some 13), (Op.assign (Operand.tmp 85)), 3, none⟩])
                                        (.seq
                                          (.ops [
                                            ⟨(some 14), (Op.assign (Operand.const (Value.int IntKind.i64 1))), 3, none⟩])
                                          (.seq
                                            (.ops [
                                              ⟨(some 86), (Op.load 39 (Operand.tmp 10)), 39, none⟩,
                                              ⟨(some 87), (Op.move (Operand.tmp 14)), 3, none⟩,
                                              ⟨(some 88), (Op.call { callee := (Callee.value (Operand.func 32)), args := #[(Operand.tmp 86), (Operand.tmp 87)], argTypes := #[39, 3] }), 3, none⟩,
                                              ⟨(some 14), (Op.assign (Operand.tmp 88)), 3, none⟩])
                                            (.seq
                                              (.seq
                                                (.ops [
                                                  ⟨(some 89), (Op.move (Operand.tmp 14)), 3, none⟩,
                                                  ⟨(some 90), (Op.binOp BinOp.lss 3 (Operand.tmp 89) (Operand.const (Value.int IntKind.i64 0)) 3), 4, none⟩])
                                                (.cond (Operand.tmp 90)
                                                  (.seq
                                                    (.ops [
                                                      ⟨(some 4), (Op.assign (Operand.const (Value.bool false))), 4, none⟩])
                                                    .ret)
                                                  .skip))
                                              (.seq
                                                (.seq
                                                  (.ops [
                                                    ⟨(some 91), (Op.move (Operand.tmp 14)), 3, none⟩,
                                                    ⟨(some 92), (Op.move (Operand.tmp 13)), 3, none⟩,
                                                    ⟨(some 93), (Op.binOp BinOp.neq 3 (Operand.tmp 91) (Operand.tmp 92) 3), 4, none⟩])
                                                  (.cond (Operand.tmp 93)
                                                    (.seq
                                                      (.ops [
                                                        ⟨(some 4), (Op.assign (Operand.const (Value.bool false))), 4, none⟩])
                                                      .ret)
                                                    .skip))
                                                (.seq
                                                  (.draws [
                                                    (⟨[95, 2, 2], [95, 96, 97, 98, 99, 94, 99, 100, 101, 15, 15, 100, 15, 99, 16, 101], [95]⟩, ⟨(some 95), (Op.load 36 (Operand.tmp 2)), 36, none⟩),
                                                    (⟨[96, 95, 2], [95, 96, 97, 98, 99, 94, 99, 100, 101, 15, 15, 100, 15, 99, 16, 101], [96]⟩, ⟨(some 96), (Op.call { callee := (Callee.value (Operand.func 26)), args := #[(Operand.tmp 95)], argTypes := #[36] }), 39, none⟩),
                                                    (⟨[97, 3, 3], [95, 96, 97, 98, 99, 94, 99, 100, 101, 15, 15, 100, 15, 99, 16, 101], [97]⟩, ⟨(some 97), (Op.load 36 (Operand.tmp 3)), 36, none⟩),
                                                    (⟨[98, 97, 3], [95, 96, 97, 98, 99, 94, 99, 100, 101, 15, 15, 100, 15, 99, 16, 101], [98]⟩, ⟨(some 98), (Op.call { callee := (Callee.value (Operand.func 26)), args := #[(Operand.tmp 97)], argTypes := #[36] }), 39, none⟩),
                                                    (⟨[99, 96, 98, 96, 98], [95, 96, 97, 98, 99, 94, 99, 100, 101, 15, 15, 100, 15, 99, 16, 101], [99]⟩, ⟨(some 99), (Op.call { callee := (Callee.value (Operand.func 42)), args := #[(Operand.tmp 96), (Operand.tmp 98)], argTypes := #[39, 39] }), 43, none⟩),
                                                    (⟨[94, 99, 99], [95, 96, 97, 98, 99, 94, 99, 100, 101, 15, 15, 100, 15, 99, 16, 101], [94, 99]⟩, ⟨(some 94), (Op.move (Operand.tmp 99)), 43, none⟩),
                                                    (⟨[100, 94], [95, 96, 97, 98, 99, 94, 99, 100, 101, 15, 15, 100, 15, 99, 16, 101], [100]⟩, ⟨(some 100), (Op.extract (Operand.tmp 94) 0), 39, none⟩),
                                                    (⟨[101, 94], [95, 96, 97, 98, 99, 94, 99, 100, 101, 15, 15, 100, 15, 99, 16, 101], [101]⟩, ⟨(some 101), (Op.extract (Operand.tmp 94) 1), 4, none⟩),
                                                    (⟨[15], [95, 96, 97, 98, 99, 94, 99, 100, 101, 15, 15, 100, 15, 99, 16, 101], [15]⟩, ⟨(some 15), (Op.alloc 39), 0, none⟩),
                                                    (⟨[15, 100, 15, 99], [95, 96, 97, 98, 99, 94, 99, 100, 101, 15, 15, 100, 15, 99, 16, 101], [15, 100, 15, 99]⟩, ⟨none, (Op.store 39 (Operand.tmp 15) (Operand.tmp 100)), 0, none⟩),
                                                    (⟨[16, 101], [95, 96, 97, 98, 99, 94, 99, 100, 101, 15, 15, 100, 15, 99, 16, 101], [16, 101]⟩, ⟨(some 16), (Op.assign (Operand.tmp 101)), 4, none⟩)])
                                                  (.seq
                                                    (.seq
                                                      (.ops [
                                                        ⟨(some 102), (Op.load 39 (Operand.tmp 15)), 39, none⟩,
                                                        ⟨(some 103), (Op.load 39 (Operand.tmp 6)), 39, none⟩,
                                                        ⟨(some 104), (Op.call { callee := (Callee.value (Operand.func 28)), args := #[(Operand.tmp 102), (Operand.tmp 103)], argTypes := #[39, 39] }), 4, none⟩,
                                                        ⟨(some 105), (Op.unOp UnOp.not 4 (Operand.tmp 104)), 4, none⟩,
                                                        ⟨(some 106), (Op.move (Operand.tmp 105)), 4, none⟩,
                                                        ⟨(some 107), (Op.move (Operand.tmp 16)), 4, (some (some 106, false))⟩,
                                                        ⟨(some 108), (Op.move (Operand.tmp 7)), 4, (some (some 106, false))⟩,
                                                        ⟨(some 109), (Op.binOp BinOp.neq 4 (Operand.tmp 107) (Operand.tmp 108) 4), 4, (some (some 106, false))⟩,
                                                        ⟨(some 110), (Op.pick (Operand.tmp 106) (Operand.const (Value.bool true)) (Operand.tmp 109)), 4, none⟩])
                                                      (.cond (Operand.tmp 110)
                                                        (.seq
                                                          (.ops [
                                                            ⟨(some 4), (Op.assign (Operand.const (Value.bool false))), 4, none⟩])
                                                          .ret)
                                                        .skip))
                                                    (.seq
                                                      (.ops [
                                                        ⟨(some 14), (Op.assign (Operand.const (Value.int IntKind.i64 1))), 3, none⟩])
                                                      (.seq
                                                        (.ops [
                                                          ⟨(some 111), (Op.load 39 (Operand.tmp 10)), 39, none⟩,
                                                          ⟨(some 112), (Op.move (Operand.tmp 14)), 3, none⟩,
                                                          ⟨(some 113), (Op.call { callee := (Callee.value (Operand.func 32)), args := #[(Operand.tmp 111), (Operand.tmp 112)], argTypes := #[39, 3] }), 3, none⟩,
                                                          ⟨(some 14), (Op.assign (Operand.tmp 113)), 3, none⟩])
                                                        (.seq
                                                          (.seq
                                                            (.ops [
                                                              ⟨(some 114), (Op.move (Operand.tmp 14)), 3, none⟩,
                                                              ⟨(some 115), (Op.binOp BinOp.lss 3 (Operand.tmp 114) (Operand.const (Value.int IntKind.i64 0)) 3), 4, none⟩])
                                                            (.cond (Operand.tmp 115)
                                                              (.seq
                                                                (.ops [
                                                                  ⟨(some 4), (Op.assign (Operand.const (Value.bool false))), 4, none⟩])
                                                                .ret)
                                                              .skip))
                                                          (.seq
                                                            (.seq
                                                              (.ops [
                                                                ⟨(some 116), (Op.move (Operand.tmp 14)), 3, none⟩,
                                                                ⟨(some 117), (Op.move (Operand.tmp 13)), 3, none⟩,
                                                                ⟨(some 118), (Op.binOp BinOp.neq 3 (Operand.tmp 116) (Operand.tmp 117) 3), 4, none⟩])
                                                              (.cond (Operand.tmp 118)
                                                                (.seq
                                                                  (.ops [
                                                                    ⟨(some 4), (Op.assign (Operand.const (Value.bool false))), 4, none⟩])
                                                                  .ret)
                                                                .skip))
                                                            (.seq
                                                              (.ops [
                                                                ⟨(some 4), (Op.assign (Operand.const (Value.bool true))), 4, none⟩])
                                                              .ret)))))))))))))))))))))))))))))
theorem slim12 : Try.f12.body.map (slim lends) = some k12 := by kernel_rfl
theorem ok12 : fnOk Try.f12 2 = true := by kernel_rfl
theorem c12 {a l : List D} {r : D × List D} (h : wpD Y.env k12 (fin tys l.length [ResultVar.tmp 4] r) (entry a l)) (ha : a.length = 2) : Y.call 12 a l = some r :=
  call_slim (Y := Y) rfl Try.func12 (ha ▸ ok12) slim12 h
theorem l_FnExactUnionProblem_call (t0_Labels : Int) (t0_Degree : Int) (t0_Nodes : List (List Int)) (t0_Edges : List (List Int)) (t1_Labels : Int) (t1_Degree : Int) (t1_Nodes : List (List Int)) (t1_Edges : List (List Int)) {r : Bool} (h : l_FnExactUnionProblem t0_Labels t0_Degree t0_Nodes t0_Edges t1_Labels t1_Degree t1_Nodes t1_Edges = some r) : Y.call 12 [D.agg [D.int .i64 t0_Labels, D.int .i64 t0_Degree, D.sl 25 (lst (fun x => D.sl 3 (lst (D.int .i64) x)) t0_Nodes), D.sl 25 (lst (fun x => D.sl 3 (lst (D.int .i64) x)) t0_Edges)], D.agg [D.int .i64 t1_Labels, D.int .i64 t1_Degree, D.sl 25 (lst (fun x => D.sl 3 (lst (D.int .i64) x)) t1_Nodes), D.sl 25 (lst (fun x => D.sl 3 (lst (D.int .i64) x)) t1_Edges)]] [] = some (D.bool r, []) := by
  refine c12 ?_ rfl
  unfold k12
  unfold l_FnExactUnionProblem at h
  obtain ⟨e1, h⟩ := ckS h
  obtain ⟨e2, h⟩ := ckS h
  obtain ⟨e3, h⟩ := ckS h
  have c4 := l_szProblem_cl t0_Labels t0_Degree t0_Nodes t0_Edges (1048576 : Int) e1 e2 e3
  by_cases e5 : (szP (1048576 : Int) t0_Nodes t0_Edges) < 0
  · rw [if_pos e5] at h
    obtain rfl := Option.some.inj h
    simp (maxDischargeDepth := 9) only [↓xpre, xpost, xlst, xcore, yset, rg0, ↓reduceIte, Nat.reduceEqDiff, Nat.reduceLT, Nat.reduceLeDiff, Nat.reduceAdd, Nat.reduceMul, Nat.reduceMod, Nat.reduceSub, Nat.reduceBEq, Int.reduceLE, Int.reduceLT, Int.reduceEq, Int.reduceSub, Int.reduceAdd, Int.reduceToNat, Int.reduceNeg, e1, e2, e3.1, e3.2, c4, e5] <;> (repeat' apply And.intro) <;> first | rfl | exact ⟨_, rfl⟩ | simp [lst]
  · rw [if_neg e5] at h
    obtain ⟨e6, h⟩ := ckS h
    obtain ⟨e7, h⟩ := ckS h
    obtain ⟨e8, h⟩ := ckS h
    have c9 := l_szProblem_cl t1_Labels t1_Degree t1_Nodes t1_Edges (szP (1048576 : Int) t0_Nodes t0_Edges) e6 e7 e8
    by_cases e10 : (szP (szP (1048576 : Int) t0_Nodes t0_Edges) t1_Nodes t1_Edges) < 0
    · rw [if_pos e10] at h
      obtain rfl := Option.some.inj h
      simp (maxDischargeDepth := 9) only [↓xpre, xpost, xlst, xcore, yset, rg0, ↓reduceIte, Nat.reduceEqDiff, Nat.reduceLT, Nat.reduceLeDiff, Nat.reduceAdd, Nat.reduceMul, Nat.reduceMod, Nat.reduceSub, Nat.reduceBEq, Int.reduceLE, Int.reduceLT, Int.reduceEq, Int.reduceSub, Int.reduceAdd, Int.reduceToNat, Int.reduceNeg, e1, e2, e3.1, e3.2, c4, e5, e6, e7, e8.1, e8.2, c9, e10] <;> (repeat' apply And.intro) <;> first | rfl | exact ⟨_, rfl⟩ | simp [lst]
    · rw [if_neg e10] at h
      obtain ⟨e11, h⟩ := ckS h
      obtain ⟨e12, h⟩ := ckS h
      have c13 := l_toProblem_cl t0_Labels t0_Degree t0_Nodes t0_Edges e11 e12
      obtain ⟨e14, h⟩ := ckS h
      obtain ⟨e15, h⟩ := ckS h
      have c16 := l_toProblem_cl t1_Labels t1_Degree t1_Nodes t1_Edges e14 e15
      obtain ⟨r17_, hl17, h⟩ := bindS h
      try dsimp only at h
      have c17 := s_UnionProblem_call t0_Labels t0_Degree t0_Nodes t0_Edges t1_Labels t1_Degree t1_Nodes t1_Edges hl17
      have c18 := l_toProblem_cl t0_Labels t0_Degree t0_Nodes t0_Edges e11 e12
      have c19 := l_toProblem_cl t1_Labels t1_Degree t1_Nodes t1_Edges e14 e15
      obtain ⟨r20_, hl20, h⟩ := bindS h
      try dsimp only at h
      have c20 := i_UnionProblem_call t0_Labels t0_Degree t0_Nodes t0_Edges t1_Labels t1_Degree t1_Nodes t1_Edges hl20
      obtain ⟨e21, h⟩ := ckS h
      obtain ⟨e22, h⟩ := ckS h
      have c23 := l_eqProblem_cl r20_.1 r20_.2.1 r20_.2.2.1 r20_.2.2.2.1 r17_.1 r17_.2.1 r17_.2.2.1 r17_.2.2.2.1 e21 e22
      by_cases e24 : (sameP r20_.1 r20_.2.1 r20_.2.2.1 r20_.2.2.2.1 r17_.1 r17_.2.1 r17_.2.2.1 r17_.2.2.2.1) = true
      · rw [if_pos e24] at h
        by_cases e25 : r20_.2.2.2.2 = true
        · rw [if_pos e25] at h
          by_cases e26 : r17_.2.2.2.2 = true
          · rw [if_pos e26] at h
            have c27 := l_toProblem_cl t0_Labels t0_Degree t0_Nodes t0_Edges e11 e12
            have c28 := l_eqProblem_cl t0_Labels t0_Degree t0_Nodes t0_Edges t0_Labels t0_Degree t0_Nodes t0_Edges e11 e12
            by_cases e29 : (sameP t0_Labels t0_Degree t0_Nodes t0_Edges t0_Labels t0_Degree t0_Nodes t0_Edges) = true
            · rw [if_pos e29] at h
              have c30 := l_toProblem_cl t1_Labels t1_Degree t1_Nodes t1_Edges e14 e15
              have c31 := l_eqProblem_cl t1_Labels t1_Degree t1_Nodes t1_Edges t1_Labels t1_Degree t1_Nodes t1_Edges e14 e15
              by_cases e32 : (sameP t1_Labels t1_Degree t1_Nodes t1_Edges t1_Labels t1_Degree t1_Nodes t1_Edges) = true
              · rw [if_pos e32] at h
                obtain ⟨e33, h⟩ := ckS h
                have c34 := l_markProblem_cl t0_Labels t0_Degree t0_Nodes t0_Edges (1 : Int) e11 e12 e33
                obtain ⟨e35, h⟩ := ckS h
                have c36 := l_markProblem_cl t1_Labels t1_Degree t1_Nodes t1_Edges ((1 : Int) + tot t0_Nodes + tot t0_Edges) e14 e15 e35
                by_cases e37 : (((1 : Int) + tot t0_Nodes + tot t0_Edges) + tot t1_Nodes + tot t1_Edges) < 0
                · rw [if_pos e37] at h
                  obtain rfl := Option.some.inj h
                  simp (maxDischargeDepth := 9) only [↓xpre, xpost, xlst, xcore, yset, rg0, ↓reduceIte, Nat.reduceEqDiff, Nat.reduceLT, Nat.reduceLeDiff, Nat.reduceAdd, Nat.reduceMul, Nat.reduceMod, Nat.reduceSub, Nat.reduceBEq, Int.reduceLE, Int.reduceLT, Int.reduceEq, Int.reduceSub, Int.reduceAdd, Int.reduceToNat, Int.reduceNeg, e1, e2, e3.1, e3.2, c4, e5, e6, e7, e8.1, e8.2, c9, e10, e11, e12, c13, e14, e15, c16, c17, c18, c19, c20, e21, e22, c23, e24, e25, e26, c27, c28, e29, c30, c31, e32, e33.1, e33.2, c34, e35.1, e35.2, c36, e37] <;> (repeat' apply And.intro) <;> first | rfl | exact ⟨_, rfl⟩ | simp [lst]
                · rw [if_neg e37] at h
                  have c38 := l_eqProblem_cl r20_.1 r20_.2.1 r20_.2.2.1 r20_.2.2.2.1 r17_.1 r17_.2.1 r17_.2.2.1 r17_.2.2.2.1 e21 e22
                  obtain ⟨e39, h⟩ := ckS h
                  have c40 := l_markProblem_cl r20_.1 r20_.2.1 r20_.2.2.1 r20_.2.2.2.1 (1 : Int) e21 e22 e39
                  obtain ⟨r41_, hl41, h⟩ := bindS h
                  try dsimp only at h
                  have c41 := l_heldProblem_call r20_.1 r20_.2.1 (marks (1 : Int) r20_.2.2.1) (marks ((1 : Int) + tot r20_.2.2.1) r20_.2.2.2.1) (1 : Int) hl41
                  by_cases e42 : r41_ < 0
                  · rw [if_pos e42] at h
                    obtain rfl := Option.some.inj h
                    simp (maxDischargeDepth := 9) only [↓xpre, xpost, xlst, xcore, yset, rg0, ↓reduceIte, Nat.reduceEqDiff, Nat.reduceLT, Nat.reduceLeDiff, Nat.reduceAdd, Nat.reduceMul, Nat.reduceMod, Nat.reduceSub, Nat.reduceBEq, Int.reduceLE, Int.reduceLT, Int.reduceEq, Int.reduceSub, Int.reduceAdd, Int.reduceToNat, Int.reduceNeg, e1, e2, e3.1, e3.2, c4, e5, e6, e7, e8.1, e8.2, c9, e10, e11, e12, c13, e14, e15, c16, c17, c18, c19, c20, e21, e22, c23, e24, e25, e26, c27, c28, e29, c30, c31, e32, e33.1, e33.2, c34, e35.1, e35.2, c36, e37, c38, e39.1, e39.2, c40, c41, e42] <;> (repeat' apply And.intro) <;> first | rfl | exact ⟨_, rfl⟩ | simp [lst]
                  · rw [if_neg e42] at h
                    by_cases e43 : r41_ = ((1 : Int) + tot r20_.2.2.1 + tot r20_.2.2.2.1)
                    · rw [if_pos e43] at h
                      have c44 := l_toProblem_cl t0_Labels t0_Degree t0_Nodes t0_Edges e11 e12
                      have c45 := l_toProblem_cl t1_Labels t1_Degree t1_Nodes t1_Edges e14 e15
                      have c46 := l_eqProblem_cl r20_.1 r20_.2.1 r20_.2.2.1 r20_.2.2.2.1 r17_.1 r17_.2.1 r17_.2.2.1 r17_.2.2.2.1 e21 e22
                      obtain rfl := Option.some.inj h
                      simp (maxDischargeDepth := 9) only [↓xpre, xpost, xlst, xcore, yset, rg0, ↓reduceIte, Nat.reduceEqDiff, Nat.reduceLT, Nat.reduceLeDiff, Nat.reduceAdd, Nat.reduceMul, Nat.reduceMod, Nat.reduceSub, Nat.reduceBEq, Int.reduceLE, Int.reduceLT, Int.reduceEq, Int.reduceSub, Int.reduceAdd, Int.reduceToNat, Int.reduceNeg, e1, e2, e3.1, e3.2, c4, e5, e6, e7, e8.1, e8.2, c9, e10, e11, e12, c13, e14, e15, c16, c17, c18, c19, c20, e21, e22, c23, e24, e25, e26, c27, c28, e29, c30, c31, e32, e33.1, e33.2, c34, e35.1, e35.2, c36, e37, c38, e39.1, e39.2, c40, c41, e42, decide_eq_true e43, c44, c45, c46] <;> (repeat' apply And.intro) <;> first | rfl | exact ⟨_, rfl⟩ | simp [lst]
                    · rw [if_neg e43] at h
                      obtain rfl := Option.some.inj h
                      simp (maxDischargeDepth := 9) only [↓xpre, xpost, xlst, xcore, yset, rg0, ↓reduceIte, Nat.reduceEqDiff, Nat.reduceLT, Nat.reduceLeDiff, Nat.reduceAdd, Nat.reduceMul, Nat.reduceMod, Nat.reduceSub, Nat.reduceBEq, Int.reduceLE, Int.reduceLT, Int.reduceEq, Int.reduceSub, Int.reduceAdd, Int.reduceToNat, Int.reduceNeg, e1, e2, e3.1, e3.2, c4, e5, e6, e7, e8.1, e8.2, c9, e10, e11, e12, c13, e14, e15, c16, c17, c18, c19, c20, e21, e22, c23, e24, e25, e26, c27, c28, e29, c30, c31, e32, e33.1, e33.2, c34, e35.1, e35.2, c36, e37, c38, e39.1, e39.2, c40, c41, e42, e43] <;> (repeat' apply And.intro) <;> first | rfl | exact ⟨_, rfl⟩ | simp [lst]
              · rw [if_neg e32] at h
                have e32f : (sameP t1_Labels t1_Degree t1_Nodes t1_Edges t1_Labels t1_Degree t1_Nodes t1_Edges) = false := Bool.eq_false_iff.mpr e32
                obtain rfl := Option.some.inj h
                simp (maxDischargeDepth := 9) only [↓xpre, xpost, xlst, xcore, yset, rg0, ↓reduceIte, Nat.reduceEqDiff, Nat.reduceLT, Nat.reduceLeDiff, Nat.reduceAdd, Nat.reduceMul, Nat.reduceMod, Nat.reduceSub, Nat.reduceBEq, Int.reduceLE, Int.reduceLT, Int.reduceEq, Int.reduceSub, Int.reduceAdd, Int.reduceToNat, Int.reduceNeg, e1, e2, e3.1, e3.2, c4, e5, e6, e7, e8.1, e8.2, c9, e10, e11, e12, c13, e14, e15, c16, c17, c18, c19, c20, e21, e22, c23, e24, e25, e26, c27, c28, e29, c30, c31, e32f] <;> (repeat' apply And.intro) <;> first | rfl | exact ⟨_, rfl⟩ | simp [lst]
            · rw [if_neg e29] at h
              have e29f : (sameP t0_Labels t0_Degree t0_Nodes t0_Edges t0_Labels t0_Degree t0_Nodes t0_Edges) = false := Bool.eq_false_iff.mpr e29
              obtain rfl := Option.some.inj h
              simp (maxDischargeDepth := 9) only [↓xpre, xpost, xlst, xcore, yset, rg0, ↓reduceIte, Nat.reduceEqDiff, Nat.reduceLT, Nat.reduceLeDiff, Nat.reduceAdd, Nat.reduceMul, Nat.reduceMod, Nat.reduceSub, Nat.reduceBEq, Int.reduceLE, Int.reduceLT, Int.reduceEq, Int.reduceSub, Int.reduceAdd, Int.reduceToNat, Int.reduceNeg, e1, e2, e3.1, e3.2, c4, e5, e6, e7, e8.1, e8.2, c9, e10, e11, e12, c13, e14, e15, c16, c17, c18, c19, c20, e21, e22, c23, e24, e25, e26, c27, c28, e29f] <;> (repeat' apply And.intro) <;> first | rfl | exact ⟨_, rfl⟩ | simp [lst]
          · rw [if_neg e26] at h
            have e26f : r17_.2.2.2.2 = false := Bool.eq_false_iff.mpr e26
            obtain rfl := Option.some.inj h
            simp (maxDischargeDepth := 9) only [↓xpre, xpost, xlst, xcore, yset, rg0, ↓reduceIte, Nat.reduceEqDiff, Nat.reduceLT, Nat.reduceLeDiff, Nat.reduceAdd, Nat.reduceMul, Nat.reduceMod, Nat.reduceSub, Nat.reduceBEq, Int.reduceLE, Int.reduceLT, Int.reduceEq, Int.reduceSub, Int.reduceAdd, Int.reduceToNat, Int.reduceNeg, e1, e2, e3.1, e3.2, c4, e5, e6, e7, e8.1, e8.2, c9, e10, e11, e12, c13, e14, e15, c16, c17, c18, c19, c20, e21, e22, c23, e24, e25, e26f] <;> (repeat' apply And.intro) <;> first | rfl | exact ⟨_, rfl⟩ | simp [lst]
        · rw [if_neg e25] at h
          have e25f : r20_.2.2.2.2 = false := Bool.eq_false_iff.mpr e25
          by_cases e26 : r17_.2.2.2.2 = true
          · rw [if_pos e26] at h
            obtain rfl := Option.some.inj h
            simp (maxDischargeDepth := 9) only [↓xpre, xpost, xlst, xcore, yset, rg0, ↓reduceIte, Nat.reduceEqDiff, Nat.reduceLT, Nat.reduceLeDiff, Nat.reduceAdd, Nat.reduceMul, Nat.reduceMod, Nat.reduceSub, Nat.reduceBEq, Int.reduceLE, Int.reduceLT, Int.reduceEq, Int.reduceSub, Int.reduceAdd, Int.reduceToNat, Int.reduceNeg, e1, e2, e3.1, e3.2, c4, e5, e6, e7, e8.1, e8.2, c9, e10, e11, e12, c13, e14, e15, c16, c17, c18, c19, c20, e21, e22, c23, e24, e25f, e26] <;> (repeat' apply And.intro) <;> first | rfl | exact ⟨_, rfl⟩ | simp [lst]
          · rw [if_neg e26] at h
            have e26f : r17_.2.2.2.2 = false := Bool.eq_false_iff.mpr e26
            have c27 := l_toProblem_cl t0_Labels t0_Degree t0_Nodes t0_Edges e11 e12
            have c28 := l_eqProblem_cl t0_Labels t0_Degree t0_Nodes t0_Edges t0_Labels t0_Degree t0_Nodes t0_Edges e11 e12
            by_cases e29 : (sameP t0_Labels t0_Degree t0_Nodes t0_Edges t0_Labels t0_Degree t0_Nodes t0_Edges) = true
            · rw [if_pos e29] at h
              have c30 := l_toProblem_cl t1_Labels t1_Degree t1_Nodes t1_Edges e14 e15
              have c31 := l_eqProblem_cl t1_Labels t1_Degree t1_Nodes t1_Edges t1_Labels t1_Degree t1_Nodes t1_Edges e14 e15
              by_cases e32 : (sameP t1_Labels t1_Degree t1_Nodes t1_Edges t1_Labels t1_Degree t1_Nodes t1_Edges) = true
              · rw [if_pos e32] at h
                obtain ⟨e33, h⟩ := ckS h
                have c34 := l_markProblem_cl t0_Labels t0_Degree t0_Nodes t0_Edges (1 : Int) e11 e12 e33
                obtain ⟨e35, h⟩ := ckS h
                have c36 := l_markProblem_cl t1_Labels t1_Degree t1_Nodes t1_Edges ((1 : Int) + tot t0_Nodes + tot t0_Edges) e14 e15 e35
                by_cases e37 : (((1 : Int) + tot t0_Nodes + tot t0_Edges) + tot t1_Nodes + tot t1_Edges) < 0
                · rw [if_pos e37] at h
                  obtain rfl := Option.some.inj h
                  simp (maxDischargeDepth := 9) only [↓xpre, xpost, xlst, xcore, yset, rg0, ↓reduceIte, Nat.reduceEqDiff, Nat.reduceLT, Nat.reduceLeDiff, Nat.reduceAdd, Nat.reduceMul, Nat.reduceMod, Nat.reduceSub, Nat.reduceBEq, Int.reduceLE, Int.reduceLT, Int.reduceEq, Int.reduceSub, Int.reduceAdd, Int.reduceToNat, Int.reduceNeg, e1, e2, e3.1, e3.2, c4, e5, e6, e7, e8.1, e8.2, c9, e10, e11, e12, c13, e14, e15, c16, c17, c18, c19, c20, e21, e22, c23, e24, e25f, e26f, c27, c28, e29, c30, c31, e32, e33.1, e33.2, c34, e35.1, e35.2, c36, e37] <;> (repeat' apply And.intro) <;> first | rfl | exact ⟨_, rfl⟩ | simp [lst]
                · rw [if_neg e37] at h
                  have c38 := l_eqProblem_cl r20_.1 r20_.2.1 r20_.2.2.1 r20_.2.2.2.1 r17_.1 r17_.2.1 r17_.2.2.1 r17_.2.2.2.1 e21 e22
                  obtain ⟨e39, h⟩ := ckS h
                  have c40 := l_markProblem_cl r20_.1 r20_.2.1 r20_.2.2.1 r20_.2.2.2.1 (1 : Int) e21 e22 e39
                  obtain ⟨r41_, hl41, h⟩ := bindS h
                  try dsimp only at h
                  have c41 := l_heldProblem_call r20_.1 r20_.2.1 (marks (1 : Int) r20_.2.2.1) (marks ((1 : Int) + tot r20_.2.2.1) r20_.2.2.2.1) (1 : Int) hl41
                  by_cases e42 : r41_ < 0
                  · rw [if_pos e42] at h
                    obtain rfl := Option.some.inj h
                    simp (maxDischargeDepth := 9) only [↓xpre, xpost, xlst, xcore, yset, rg0, ↓reduceIte, Nat.reduceEqDiff, Nat.reduceLT, Nat.reduceLeDiff, Nat.reduceAdd, Nat.reduceMul, Nat.reduceMod, Nat.reduceSub, Nat.reduceBEq, Int.reduceLE, Int.reduceLT, Int.reduceEq, Int.reduceSub, Int.reduceAdd, Int.reduceToNat, Int.reduceNeg, e1, e2, e3.1, e3.2, c4, e5, e6, e7, e8.1, e8.2, c9, e10, e11, e12, c13, e14, e15, c16, c17, c18, c19, c20, e21, e22, c23, e24, e25f, e26f, c27, c28, e29, c30, c31, e32, e33.1, e33.2, c34, e35.1, e35.2, c36, e37, c38, e39.1, e39.2, c40, c41, e42] <;> (repeat' apply And.intro) <;> first | rfl | exact ⟨_, rfl⟩ | simp [lst]
                  · rw [if_neg e42] at h
                    by_cases e43 : r41_ = ((1 : Int) + tot r20_.2.2.1 + tot r20_.2.2.2.1)
                    · rw [if_pos e43] at h
                      have c44 := l_toProblem_cl t0_Labels t0_Degree t0_Nodes t0_Edges e11 e12
                      have c45 := l_toProblem_cl t1_Labels t1_Degree t1_Nodes t1_Edges e14 e15
                      have c46 := l_eqProblem_cl r20_.1 r20_.2.1 r20_.2.2.1 r20_.2.2.2.1 r17_.1 r17_.2.1 r17_.2.2.1 r17_.2.2.2.1 e21 e22
                      obtain rfl := Option.some.inj h
                      simp (maxDischargeDepth := 9) only [↓xpre, xpost, xlst, xcore, yset, rg0, ↓reduceIte, Nat.reduceEqDiff, Nat.reduceLT, Nat.reduceLeDiff, Nat.reduceAdd, Nat.reduceMul, Nat.reduceMod, Nat.reduceSub, Nat.reduceBEq, Int.reduceLE, Int.reduceLT, Int.reduceEq, Int.reduceSub, Int.reduceAdd, Int.reduceToNat, Int.reduceNeg, e1, e2, e3.1, e3.2, c4, e5, e6, e7, e8.1, e8.2, c9, e10, e11, e12, c13, e14, e15, c16, c17, c18, c19, c20, e21, e22, c23, e24, e25f, e26f, c27, c28, e29, c30, c31, e32, e33.1, e33.2, c34, e35.1, e35.2, c36, e37, c38, e39.1, e39.2, c40, c41, e42, decide_eq_true e43, c44, c45, c46] <;> (repeat' apply And.intro) <;> first | rfl | exact ⟨_, rfl⟩ | simp [lst]
                    · rw [if_neg e43] at h
                      obtain rfl := Option.some.inj h
                      simp (maxDischargeDepth := 9) only [↓xpre, xpost, xlst, xcore, yset, rg0, ↓reduceIte, Nat.reduceEqDiff, Nat.reduceLT, Nat.reduceLeDiff, Nat.reduceAdd, Nat.reduceMul, Nat.reduceMod, Nat.reduceSub, Nat.reduceBEq, Int.reduceLE, Int.reduceLT, Int.reduceEq, Int.reduceSub, Int.reduceAdd, Int.reduceToNat, Int.reduceNeg, e1, e2, e3.1, e3.2, c4, e5, e6, e7, e8.1, e8.2, c9, e10, e11, e12, c13, e14, e15, c16, c17, c18, c19, c20, e21, e22, c23, e24, e25f, e26f, c27, c28, e29, c30, c31, e32, e33.1, e33.2, c34, e35.1, e35.2, c36, e37, c38, e39.1, e39.2, c40, c41, e42, e43] <;> (repeat' apply And.intro) <;> first | rfl | exact ⟨_, rfl⟩ | simp [lst]
              · rw [if_neg e32] at h
                have e32f : (sameP t1_Labels t1_Degree t1_Nodes t1_Edges t1_Labels t1_Degree t1_Nodes t1_Edges) = false := Bool.eq_false_iff.mpr e32
                obtain rfl := Option.some.inj h
                simp (maxDischargeDepth := 9) only [↓xpre, xpost, xlst, xcore, yset, rg0, ↓reduceIte, Nat.reduceEqDiff, Nat.reduceLT, Nat.reduceLeDiff, Nat.reduceAdd, Nat.reduceMul, Nat.reduceMod, Nat.reduceSub, Nat.reduceBEq, Int.reduceLE, Int.reduceLT, Int.reduceEq, Int.reduceSub, Int.reduceAdd, Int.reduceToNat, Int.reduceNeg, e1, e2, e3.1, e3.2, c4, e5, e6, e7, e8.1, e8.2, c9, e10, e11, e12, c13, e14, e15, c16, c17, c18, c19, c20, e21, e22, c23, e24, e25f, e26f, c27, c28, e29, c30, c31, e32f] <;> (repeat' apply And.intro) <;> first | rfl | exact ⟨_, rfl⟩ | simp [lst]
            · rw [if_neg e29] at h
              have e29f : (sameP t0_Labels t0_Degree t0_Nodes t0_Edges t0_Labels t0_Degree t0_Nodes t0_Edges) = false := Bool.eq_false_iff.mpr e29
              obtain rfl := Option.some.inj h
              simp (maxDischargeDepth := 9) only [↓xpre, xpost, xlst, xcore, yset, rg0, ↓reduceIte, Nat.reduceEqDiff, Nat.reduceLT, Nat.reduceLeDiff, Nat.reduceAdd, Nat.reduceMul, Nat.reduceMod, Nat.reduceSub, Nat.reduceBEq, Int.reduceLE, Int.reduceLT, Int.reduceEq, Int.reduceSub, Int.reduceAdd, Int.reduceToNat, Int.reduceNeg, e1, e2, e3.1, e3.2, c4, e5, e6, e7, e8.1, e8.2, c9, e10, e11, e12, c13, e14, e15, c16, c17, c18, c19, c20, e21, e22, c23, e24, e25f, e26f, c27, c28, e29f] <;> (repeat' apply And.intro) <;> first | rfl | exact ⟨_, rfl⟩ | simp [lst]
      · rw [if_neg e24] at h
        have e24f : (sameP r20_.1 r20_.2.1 r20_.2.2.1 r20_.2.2.2.1 r17_.1 r17_.2.1 r17_.2.2.1 r17_.2.2.2.1) = false := Bool.eq_false_iff.mpr e24
        obtain rfl := Option.some.inj h
        simp (maxDischargeDepth := 9) only [↓xpre, xpost, xlst, xcore, yset, rg0, ↓reduceIte, Nat.reduceEqDiff, Nat.reduceLT, Nat.reduceLeDiff, Nat.reduceAdd, Nat.reduceMul, Nat.reduceMod, Nat.reduceSub, Nat.reduceBEq, Int.reduceLE, Int.reduceLT, Int.reduceEq, Int.reduceSub, Int.reduceAdd, Int.reduceToNat, Int.reduceNeg, e1, e2, e3.1, e3.2, c4, e5, e6, e7, e8.1, e8.2, c9, e10, e11, e12, c13, e14, e15, c16, c17, c18, c19, c20, e21, e22, c23, e24f] <;> (repeat' apply And.intro) <;> first | rfl | exact ⟨_, rfl⟩ | simp [lst]

theorem conf_tiny {l : List (List Int)} {size labels : Int} (h : confs l size labels = true) (hl : labels ≤ 8) : tinyB l = true := by
  refine List.all_eq_true.2 fun xs hx => List.all_eq_true.2 fun x hxx => ?_
  obtain ⟨i, hi, rfl⟩ := List.getElem_of_mem hx
  have h1 := range_all.1 h i hi
  unfold confAt at h1
  simp only [Bool.and_eq_true] at h1
  have h2 := h1.1.2
  rw [getD_get _ _ hi] at h2
  have := inR_iff.1 (List.all_eq_true.1 h2 x hxx)
  exact inR_iff.2 ⟨by omega, by omega⟩
theorem isProb_tiny {a b : Int} {n e : List (List Int)} (h : isProb a b n e = true) : (1 ≤ a ∧ a ≤ 8) ∧ tinyB n = true ∧ tinyB e = true := by
  unfold isProb at h
  simp only [Bool.and_eq_true] at h
  have := inR_iff.1 h.1.1.1
  exact ⟨this, conf_tiny h.1.2 this.2, conf_tiny h.2 this.2⟩
theorem tot_shift (a : Int) (l : List (List Int)) : tot (shiftL a l) = tot l := by
  induction l with
  | nil => rfl
  | cons x l ih =>
    have e : shiftL a (x :: l) = (x.map fun y => y + a) :: shiftL a l := rfl
    rw [e, tot_cons, tot_cons, ih, List.length_map]

end Go.Proofs.Ythaimoghceamnaa
