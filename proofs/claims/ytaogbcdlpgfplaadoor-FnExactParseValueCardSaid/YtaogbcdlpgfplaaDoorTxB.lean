/- Texts of problems read, lifted. Conditions: none. -/
import Derived.Test.YtaogbcdlpgfplaaDoorL6
import Derived.Test.YtaogbcdlpgfplaaDoorTxV
namespace Go.Proofs.YtaogbcdlpgfplaaDoor
open Go Dv
set_option linter.unusedSimpArgs false
set_option linter.unusedVariables false
set_option maxRecDepth 100000
set_option maxHeartbeats 4000000

noncomputable def s_l1Split_l0_S (s_ : ByteArray) (b : Int) (out : List ByteArray) (from_ : Int) (i : Int) : Option (((List ByteArray) × Int × Int) ⊕ ((List ByteArray) × Int)) :=
 if i < (s_.size : Int) then
  ck (0 ≤ i ∧ i.toNat < s_.size) <|
  if (atB s_ i) = b then
   ck (0 ≤ from_) <|
   ck (0 ≤ i) <|
   ck (from_.toNat ≤ i.toNat ∧ i.toNat ≤ s_.size) <|
   ck (out.length + 1 < 1099511627776) <|
   some (Sum.inl ((out ++ [(s_.extract from_.toNat i.toNat)]), IntKind.i64.wrap (i + 1), IntKind.i64.wrap (i + 1)))
  else
   some (Sum.inl (out, from_, IntKind.i64.wrap (i + 1)))
 else
  some (Sum.inr (out, from_))
noncomputable def s_l1Split_l0 (s_ : ByteArray) (b : Int) (v : (List ByteArray) × Int × Int) : Option ((List ByteArray) × Int) := itO (fun v => s_l1Split_l0_S s_ b v.1 v.2.1 v.2.2) v
noncomputable def s_l1Split (s_ : ByteArray) (b : Int) : Option ((List ByteArray)) :=
 (s_l1Split_l0 s_ b ([], 0, 0)).bind fun r1000_ =>
 ck (0 ≤ r1000_.2) <|
 ck (r1000_.2.toNat ≤ s_.size ∧ s_.size ≤ s_.size) <|
 ck (r1000_.1.length + 1 < 1099511627776) <|
 some (r1000_.1 ++ [(s_.extract r1000_.2.toNat s_.size)])
/-- spec.l1Split -/
def k33_l0b : SC :=
 .seq
 (.seq
 (.ops [
 ⟨(some 8), (.move (.tmp 7)), 3, none⟩,
 ⟨(some 9), (.move (.tmp 0)), 9, none⟩,
 ⟨(some 10), (.call ⟨(.builtin .len), #[(.tmp 9)], #[9]⟩), 3, none⟩,
 ⟨(some 11), (.binOp .lss 3 (.tmp 8) (.tmp 10) 3), 4, none⟩])
 (.cond (.tmp 11)
 .skip
 (.exit 0)))
 (.seq
 (.block 1
 (.seq
 (.ops [
 ⟨(some 14), (.move (.tmp 0)), 9, none⟩,
 ⟨(some 15), (.move (.tmp 7)), 3, none⟩,
 ⟨(some 16), (.index 9 (.tmp 14) (.tmp 15)), 5, none⟩,
 ⟨(some 17), (.move (.tmp 1)), 5, none⟩,
 ⟨(some 18), (.binOp .eql 5 (.tmp 16) (.tmp 17) 5), 4, none⟩])
 (.cond (.tmp 18)
 (.seq
 (.ops [
 ⟨(some 19), (.move (.tmp 5)), 52, none⟩,
 ⟨(some 20), (.move (.tmp 0)), 9, none⟩,
 ⟨(some 21), (.move (.tmp 6)), 3, none⟩,
 ⟨(some 22), (.move (.tmp 7)), 3, none⟩,
 ⟨(some 23), (.slice 9 (.tmp 20) (some (.tmp 21)) (some (.tmp 22)) none), 9, none⟩,
 ⟨(some 24), (.buildSlice 52 1 #[(0, (.tmp 23))]), 52, none⟩,
 ⟨(some 25), (.call ⟨(.builtin .append), #[(.tmp 19), (.tmp 24)], #[52, 52]⟩), 52, none⟩,
 ⟨(some 5), (.assign (.tmp 25)), 52, none⟩])
 (.ops [
 ⟨(some 26), (.move (.tmp 7)), 3, none⟩,
 ⟨(some 27), (.binOp .add 3 (.tmp 26) (.const (.int .i64 1)) 3), 3, none⟩,
 ⟨(some 6), (.assign (.tmp 27)), 3, none⟩]))
 .skip)))
 (.ops [
 ⟨(some 12), (.move (.tmp 7)), 3, none⟩,
 ⟨(some 13), (.binOp .add 3 (.tmp 12) (.const (.int .i64 1)) 3), 3, none⟩,
 ⟨(some 7), (.assign (.tmp 13)), 3, none⟩]))
def k33_l0 : SC := .loop k33_l0b
def k33 : SC :=
 .seq
 (.ops [
 ⟨(some 4), (.assign (.const (.slice none 0 0))), 52, none⟩])
 (.seq
 (.ops [
 ⟨(some 5), (.assign (.const (.slice none 0 0))), 52, none⟩])
 (.seq
 (.ops [
 ⟨(some 6), (.assign (.const (.int .i64 0))), 3, none⟩])
 (.seq
 (.seq
 (.ops [
 ⟨(some 7), (.assign (.const (.int .i64 0))), 3, none⟩])
 (.block 0
 k33_l0))
 (.seq
 (.ops [
 ⟨(some 28), (.move (.tmp 5)), 52, none⟩,
 ⟨(some 29), (.move (.tmp 0)), 9, none⟩,
 ⟨(some 30), (.move (.tmp 6)), 3, none⟩,
 ⟨(some 31), (.slice 9 (.tmp 29) (some (.tmp 30)) none none), 9, none⟩,
 ⟨(some 32), (.buildSlice 52 1 #[(0, (.tmp 31))]), 52, none⟩,
 ⟨(some 33), (.call ⟨(.builtin .append), #[(.tmp 28), (.tmp 32)], #[52, 52]⟩), 52, none⟩,
 ⟨(some 4), (.assign (.tmp 33)), 52, none⟩])
 .ret))))
theorem slim33 : Tryd.f33.body.map (slim lends) = some k33 := by kernel_rfl
theorem ok33 : fnOk Tryd.f33 2 = true := by kernel_rfl
theorem c33 {a l : List D} {r : D × List D} (h : wpD Y.env k33 (fin tys l.length [ResultVar.tmp 4] r) (entry a l)) (ha : a.length = 2) : Y.call 33 a l = some r :=
 call_slim (Y := Y) rfl Tryd.func33 (ha ▸ ok33) slim33 h
def s_l1Split_l0_M (s_ : ByteArray) (b : Int) (out : List ByteArray) (from_ : Int) (i : Int) (s : St) : Prop := s.v 0 = D.str s_ ∧ s.v 1 = D.int .u8 b ∧ s.v 5 = D.own 9 (lst D.str out) ∧ s.v 6 = D.int .i64 from_ ∧ s.v 7 = D.int .i64 i
def s_l1Split_l0_X (s_ : ByteArray) (b : Int) (r : (List ByteArray) × Int) (ex : Ex) (s : St) : Prop := ex = .exit 0 ∧ s.v 0 = D.str s_ ∧ s.v 5 = D.own 9 (lst D.str r.1) ∧ s.v 6 = D.int .i64 r.2
theorem s_l1Split_l0_wp (s_ : ByteArray) (b : Int) {v : (List ByteArray) × Int × Int} {s : St} {r : (List ByteArray) × Int} (h : s_l1Split_l0 s_ b v = some r) (hM : s_l1Split_l0_M s_ b v.1 v.2.1 v.2.2 s) : wpD Y.env k33_l0 (s_l1Split_l0_X s_ b r) s := by
 unfold s_l1Split_l0 at h
 refine wd_itO (c := k33_l0b) (fun v => s_l1Split_l0_S s_ b v.1 v.2.1 v.2.2) (fun v s => s_l1Split_l0_M s_ b v.1 v.2.1 v.2.2 s) (s_l1Split_l0_X s_ b) ?_ h hM
 clear h hM s v r
 intro v s o hM h
 obtain ⟨out, from_, i⟩ := v
 dsimp only at h hM
 unfold s_l1Split_l0_S at h
 unfold s_l1Split_l0_M at hM
 obtain ⟨m0, m1, m2, m3, m4⟩ := hM
 unfold k33_l0b
 by_cases e1 : i < (s_.size : Int)
 ·rw [if_pos e1] at h
  obtain ⟨e2, h⟩ := ckS h
  by_cases e3 : (atB s_ i) = b
  ·rw [if_pos e3] at h
   obtain ⟨e4, h⟩ := ckS h
   obtain ⟨e5, h⟩ := ckS h
   obtain ⟨e6, h⟩ := ckS h
   obtain ⟨e7, h⟩ := ckS h
   obtain rfl := Option.some.inj h
   simp (maxDischargeDepth := 9) only [↓xpre, xpost, xlst, xc2, xcore, yset, rg0, ↓reduceIte, Nat.reduceEqDiff, Nat.reduceLT, Nat.reduceLeDiff, Nat.reduceAdd, Nat.reduceMul, Nat.reduceMod, Nat.reduceDiv, Nat.reducePow, Nat.reduceSub, Nat.reduceBEq, Int.reduceLE, Int.reduceLT, Int.reduceEq, Int.reduceSub, Int.reduceAdd, Int.reduceToNat, Int.reduceNeg, m0, m1, m2, m3, m4, e1, e2.1, e2.2, decide_eq_true e3, e4, e5, e6.1, e6.2, e7, s_l1Split_l0_M, s_l1Split_l0_X, sxN, sxE, sxR] <;> (repeat' apply And.intro) <;> first | rfl | exact ⟨_, rfl⟩ | exact ⟨_, _, rfl⟩ | simp [lst, cat2_nil]
  ·rw [if_neg e3] at h
   obtain rfl := Option.some.inj h
   simp (maxDischargeDepth := 9) only [↓xpre, xpost, xlst, xc2, xcore, yset, rg0, ↓reduceIte, Nat.reduceEqDiff, Nat.reduceLT, Nat.reduceLeDiff, Nat.reduceAdd, Nat.reduceMul, Nat.reduceMod, Nat.reduceDiv, Nat.reducePow, Nat.reduceSub, Nat.reduceBEq, Int.reduceLE, Int.reduceLT, Int.reduceEq, Int.reduceSub, Int.reduceAdd, Int.reduceToNat, Int.reduceNeg, m0, m1, m2, m3, m4, e1, e2.1, e2.2, e3, s_l1Split_l0_M, s_l1Split_l0_X, sxN, sxE, sxR] <;> (repeat' apply And.intro) <;> first | rfl | exact ⟨_, rfl⟩ | exact ⟨_, _, rfl⟩ | simp [lst, cat2_nil]
 ·rw [if_neg e1] at h
  obtain rfl := Option.some.inj h
  simp (maxDischargeDepth := 9) only [↓xpre, xpost, xlst, xc2, xcore, yset, rg0, ↓reduceIte, Nat.reduceEqDiff, Nat.reduceLT, Nat.reduceLeDiff, Nat.reduceAdd, Nat.reduceMul, Nat.reduceMod, Nat.reduceDiv, Nat.reducePow, Nat.reduceSub, Nat.reduceBEq, Int.reduceLE, Int.reduceLT, Int.reduceEq, Int.reduceSub, Int.reduceAdd, Int.reduceToNat, Int.reduceNeg, m0, m1, m2, m3, m4, e1, s_l1Split_l0_M, s_l1Split_l0_X, sxN, sxE, sxR] <;> (repeat' apply And.intro) <;> first | rfl | exact ⟨_, rfl⟩ | exact ⟨_, _, rfl⟩ | simp [lst, cat2_nil]
theorem s_l1Split_call (s_ : ByteArray) (b : Int) {r : (List ByteArray)} (h : s_l1Split s_ b = some r) : Y.call 33 [D.str s_, D.int .u8 b] [] = some (D.own 9 (lst D.str r), []) := by
 refine c33 ?_ rfl
 unfold k33
 unfold s_l1Split at h
 obtain ⟨r1000_, hl2, h⟩ := bindS h
 try dsimp only at h
 simp (maxDischargeDepth := 9) only [↓xpre, xpost, xlst, xc2, xcore, yset, rg0, ↓reduceIte, Nat.reduceEqDiff, Nat.reduceLT, Nat.reduceLeDiff, Nat.reduceAdd, Nat.reduceMul, Nat.reduceMod, Nat.reduceDiv, Nat.reducePow, Nat.reduceSub, Nat.reduceBEq, Int.reduceLE, Int.reduceLT, Int.reduceEq, Int.reduceSub, Int.reduceAdd, Int.reduceToNat, Int.reduceNeg]
 refine wd_mono (s_l1Split_l0_wp s_ b hl2 ?_) ?_
 ·simp (maxDischargeDepth := 9) only [↓xpre, xpost, xlst, xc2, xcore, yset, rg0, ↓reduceIte, Nat.reduceEqDiff, Nat.reduceLT, Nat.reduceLeDiff, Nat.reduceAdd, Nat.reduceMul, Nat.reduceMod, Nat.reduceDiv, Nat.reducePow, Nat.reduceSub, Nat.reduceBEq, Int.reduceLE, Int.reduceLT, Int.reduceEq, Int.reduceSub, Int.reduceAdd, Int.reduceToNat, Int.reduceNeg, s_l1Split_l0_M] <;> (repeat' apply And.intro) <;> first | rfl | exact ⟨_, rfl⟩ | exact ⟨_, _, rfl⟩ | simp [lst, cat2_nil]
 ·intro ex2 s2 hX2
  unfold s_l1Split_l0_X at hX2
  obtain ⟨rfl, n2_0, n2_1, n2_2⟩ := hX2
  obtain ⟨e3, h⟩ := ckS h
  obtain ⟨e4, h⟩ := ckS h
  obtain ⟨e5, h⟩ := ckS h
  obtain rfl := Option.some.inj h
  simp (maxDischargeDepth := 9) only [↓xpre, xpost, xlst, xc2, xcore, yset, rg0, ↓reduceIte, Nat.reduceEqDiff, Nat.reduceLT, Nat.reduceLeDiff, Nat.reduceAdd, Nat.reduceMul, Nat.reduceMod, Nat.reduceDiv, Nat.reducePow, Nat.reduceSub, Nat.reduceBEq, Int.reduceLE, Int.reduceLT, Int.reduceEq, Int.reduceSub, Int.reduceAdd, Int.reduceToNat, Int.reduceNeg, n2_0, n2_1, n2_2, e3, e4.1, e4.2, e5] <;> (repeat' apply And.intro) <;> first | rfl | exact ⟨_, rfl⟩ | exact ⟨_, _, rfl⟩ | simp [lst, cat2_nil]

noncomputable def s_l1Read_l0_S (s_ : ByteArray) (n_ : Int) (i : Int) : Option ((Int × Int) ⊕ (Unit ⊕ Int)) :=
 if i < (s_.size : Int) then
  ck (0 ≤ i ∧ i.toNat < s_.size) <|
  if (atB s_ i) < 48 then
   some (Sum.inr (Sum.inl ()))
  else
   if 57 < (atB s_ i) then
    some (Sum.inr (Sum.inl ()))
   else
    some (Sum.inl (IntKind.i64.wrap ((IntKind.i64.wrap (10 * n_)) + (IntKind.i64.wrap (IntKind.u8.wrap ((atB s_ i) - 48)))), IntKind.i64.wrap (i + 1)))
 else
  some (Sum.inr (Sum.inr n_))
noncomputable def s_l1Read_l0 (s_ : ByteArray) (v : Int × Int) : Option (Unit ⊕ Int) := itO (fun v => s_l1Read_l0_S s_ v.1 v.2) v
noncomputable def s_l1Read (s_ : ByteArray) : Option (Int) :=
 if (inR (s_.size : Int) (1 : Int) (6 : Int)) = true then
  ck (0 < s_.size) <|
  if (atB s_ 0) = 48 then
   if 1 < (s_.size : Int) then
    some (-1)
   else
    (s_l1Read_l0 s_ (0, 0)).bind fun r1000_ =>
    match r1000_ with
    | .inl q1000_ =>
     some (-1)
    | .inr q1000_ =>
     some q1000_
  else
   (s_l1Read_l0 s_ (0, 0)).bind fun r1000_ =>
   match r1000_ with
   | .inl q1000_ =>
    some (-1)
   | .inr q1000_ =>
    some q1000_
 else
  some (-1)
/-- spec.l1Read -/
def k60_l0b : SC :=
 .seq
 (.seq
 (.ops [
 ⟨(some 19), (.move (.tmp 4)), 3, none⟩,
 ⟨(some 20), (.move (.tmp 0)), 9, none⟩,
 ⟨(some 21), (.call ⟨(.builtin .len), #[(.tmp 20)], #[9]⟩), 3, none⟩,
 ⟨(some 22), (.binOp .lss 3 (.tmp 19) (.tmp 21) 3), 4, none⟩])
 (.cond (.tmp 22)
 .skip
 (.exit 0)))
 (.seq
 (.block 1
 (.seq
 (.seq
 (.ops [
 ⟨(some 25), (.move (.tmp 0)), 9, none⟩,
 ⟨(some 26), (.move (.tmp 4)), 3, none⟩,
 ⟨(some 27), (.index 9 (.tmp 25) (.tmp 26)), 5, none⟩,
 ⟨(some 28), (.binOp .lss 5 (.tmp 27) (.const (.int .u8 48)) 5), 4, none⟩,
 ⟨(some 29), (.move (.tmp 28)), 4, none⟩,
 ⟨(some 30), (.move (.tmp 0)), 9, (some (some 29, false))⟩,
 ⟨(some 31), (.move (.tmp 4)), 3, (some (some 29, false))⟩,
 ⟨(some 32), (.index 9 (.tmp 30) (.tmp 31)), 5, (some (some 29, false))⟩,
 ⟨(some 33), (.binOp .gtr 5 (.tmp 32) (.const (.int .u8 57)) 5), 4, (some (some 29, false))⟩,
 ⟨(some 34), (.pick (.tmp 29) (.const (.bool true)) (.tmp 33)), 4, none⟩])
 (.cond (.tmp 34)
 (.seq
 (.ops [
 ⟨(some 2), (.assign (.const (.int .i64 (-1)))), 3, none⟩])
 .ret)
 .skip))
 (.ops [
 ⟨(some 35), (.move (.tmp 3)), 3, none⟩,
 ⟨(some 36), (.binOp .mul 3 (.const (.int .i64 10)) (.tmp 35) 3), 3, none⟩,
 ⟨(some 37), (.move (.tmp 0)), 9, none⟩,
 ⟨(some 38), (.move (.tmp 4)), 3, none⟩,
 ⟨(some 39), (.index 9 (.tmp 37) (.tmp 38)), 5, none⟩,
 ⟨(some 40), (.binOp .sub 5 (.tmp 39) (.const (.int .u8 48)) 5), 5, none⟩,
 ⟨(some 41), (.convert 5 3 (.tmp 40)), 3, none⟩,
 ⟨(some 42), (.binOp .add 3 (.tmp 36) (.tmp 41) 3), 3, none⟩,
 ⟨(some 3), (.assign (.tmp 42)), 3, none⟩])))
 (.ops [
 ⟨(some 23), (.move (.tmp 4)), 3, none⟩,
 ⟨(some 24), (.binOp .add 3 (.tmp 23) (.const (.int .i64 1)) 3), 3, none⟩,
 ⟨(some 4), (.assign (.tmp 24)), 3, none⟩]))
def k60_l0 : SC := .loop k60_l0b
def k60 : SC :=
 .seq
 (.ops [
 ⟨(some 2), (.assign (.const (.int .i64 0))), 3, none⟩])
 (.seq
 (.seq
 (.ops [
 ⟨(some 5), (.move (.tmp 0)), 9, none⟩,
 ⟨(some 6), (.call ⟨(.builtin .len), #[(.tmp 5)], #[9]⟩), 3, none⟩,
 ⟨(some 7), (.call ⟨(.value (.func 51)), #[(.tmp 6), (.const (.int .i64 1)), (.const (.int .i64 6))], #[3, 3, 3]⟩), 4, none⟩,
 ⟨(some 8), (.unOp .not 4 (.tmp 7)), 4, none⟩,
 ⟨(some 9), (.move (.tmp 8)), 4, none⟩,
 ⟨(some 10), (.move (.tmp 0)), 9, (some (some 9, false))⟩,
 ⟨(some 11), (.index 9 (.tmp 10) (.const (.int .i64 0))), 5, (some (some 9, false))⟩,
 ⟨(some 12), (.binOp .eql 5 (.tmp 11) (.const (.int .u8 48)) 5), 4, (some (some 9, false))⟩,
 ⟨(some 13), (.move (.tmp 12)), 4, (some (some 9, false))⟩,
 ⟨(some 14), (.move (.tmp 0)), 9, (some (some 13, true))⟩,
 ⟨(some 15), (.call ⟨(.builtin .len), #[(.tmp 14)], #[9]⟩), 3, (some (some 13, true))⟩,
 ⟨(some 16), (.binOp .gtr 3 (.tmp 15) (.const (.int .i64 1)) 3), 4, (some (some 13, true))⟩,
 ⟨(some 17), (.pick (.tmp 13) (.tmp 16) (.const (.bool false))), 4, (some (some 9, false))⟩,
 ⟨(some 18), (.pick (.tmp 9) (.const (.bool true)) (.tmp 17)), 4, none⟩])
 (.cond (.tmp 18)
 (.seq
 (.ops [
 ⟨(some 2), (.assign (.const (.int .i64 (-1)))), 3, none⟩])
 .ret)
 .skip))
 (.seq
 (.ops [
 ⟨(some 3), (.assign (.const (.int .i64 0))), 3, none⟩])
 (.seq
 (.seq
 (.ops [
 ⟨(some 4), (.assign (.const (.int .i64 0))), 3, none⟩])
 (.block 0
 k60_l0))
 (.seq
 (.ops [
 ⟨(some 43), (.move (.tmp 3)), 3, none⟩,
 ⟨(some 2), (.assign (.tmp 43)), 3, none⟩])
 .ret))))
theorem slim60 : Tryd.f60.body.map (slim lends) = some k60 := by kernel_rfl
theorem ok60 : fnOk Tryd.f60 1 = true := by kernel_rfl
theorem c60 {a l : List D} {r : D × List D} (h : wpD Y.env k60 (fin tys l.length [ResultVar.tmp 2] r) (entry a l)) (ha : a.length = 1) : Y.call 60 a l = some r :=
 call_slim (Y := Y) rfl Tryd.func60 (ha ▸ ok60) slim60 h
def s_l1Read_l0_M (s_ : ByteArray) (n_ : Int) (i : Int) (s : St) : Prop := s.v 0 = D.str s_ ∧ s.v 3 = D.int .i64 n_ ∧ s.v 4 = D.int .i64 i
def s_l1Read_l0_X (s_ : ByteArray) (r : Unit ⊕ Int) (ex : Ex) (s : St) : Prop := match r with
 | .inl q => ex = .ret ∧ s.v 2 = D.int .i64 (-1)
 | .inr q => ex = .exit 0 ∧ s.v 3 = D.int .i64 q
theorem s_l1Read_l0_wp (s_ : ByteArray) {v : Int × Int} {s : St} {r : Unit ⊕ Int} (h : s_l1Read_l0 s_ v = some r) (hM : s_l1Read_l0_M s_ v.1 v.2 s) : wpD Y.env k60_l0 (s_l1Read_l0_X s_ r) s := by
 unfold s_l1Read_l0 at h
 refine wd_itO (c := k60_l0b) (fun v => s_l1Read_l0_S s_ v.1 v.2) (fun v s => s_l1Read_l0_M s_ v.1 v.2 s) (s_l1Read_l0_X s_) ?_ h hM
 clear h hM s v r
 intro v s o hM h
 obtain ⟨n_, i⟩ := v
 dsimp only at h hM
 unfold s_l1Read_l0_S at h
 unfold s_l1Read_l0_M at hM
 obtain ⟨m0, m1, m2⟩ := hM
 unfold k60_l0b
 by_cases e6 : i < (s_.size : Int)
 ·rw [if_pos e6] at h
  obtain ⟨e7, h⟩ := ckS h
  by_cases e8 : (atB s_ i) < 48
  ·rw [if_pos e8] at h
   obtain rfl := Option.some.inj h
   simp (maxDischargeDepth := 9) only [↓xpre, xpost, xlst, xc2, xcore, yset, rg0, ↓reduceIte, Nat.reduceEqDiff, Nat.reduceLT, Nat.reduceLeDiff, Nat.reduceAdd, Nat.reduceMul, Nat.reduceMod, Nat.reduceDiv, Nat.reducePow, Nat.reduceSub, Nat.reduceBEq, Int.reduceLE, Int.reduceLT, Int.reduceEq, Int.reduceSub, Int.reduceAdd, Int.reduceToNat, Int.reduceNeg, m0, m1, m2, e6, e7.1, e7.2, e8, s_l1Read_l0_M, s_l1Read_l0_X, sxN, sxE, sxR] <;> (repeat' apply And.intro) <;> first | rfl | exact ⟨_, rfl⟩ | exact ⟨_, _, rfl⟩ | simp [lst, cat2_nil]
  ·rw [if_neg e8] at h
   by_cases e9 : 57 < (atB s_ i)
   ·rw [if_pos e9] at h
    obtain rfl := Option.some.inj h
    simp (maxDischargeDepth := 9) only [↓xpre, xpost, xlst, xc2, xcore, yset, rg0, ↓reduceIte, Nat.reduceEqDiff, Nat.reduceLT, Nat.reduceLeDiff, Nat.reduceAdd, Nat.reduceMul, Nat.reduceMod, Nat.reduceDiv, Nat.reducePow, Nat.reduceSub, Nat.reduceBEq, Int.reduceLE, Int.reduceLT, Int.reduceEq, Int.reduceSub, Int.reduceAdd, Int.reduceToNat, Int.reduceNeg, m0, m1, m2, e6, e7.1, e7.2, e8, e9, s_l1Read_l0_M, s_l1Read_l0_X, sxN, sxE, sxR] <;> (repeat' apply And.intro) <;> first | rfl | exact ⟨_, rfl⟩ | exact ⟨_, _, rfl⟩ | simp [lst, cat2_nil]
   ·rw [if_neg e9] at h
    obtain rfl := Option.some.inj h
    simp (maxDischargeDepth := 9) only [↓xpre, xpost, xlst, xc2, xcore, yset, rg0, ↓reduceIte, Nat.reduceEqDiff, Nat.reduceLT, Nat.reduceLeDiff, Nat.reduceAdd, Nat.reduceMul, Nat.reduceMod, Nat.reduceDiv, Nat.reducePow, Nat.reduceSub, Nat.reduceBEq, Int.reduceLE, Int.reduceLT, Int.reduceEq, Int.reduceSub, Int.reduceAdd, Int.reduceToNat, Int.reduceNeg, m0, m1, m2, e6, e7.1, e7.2, e8, e9, s_l1Read_l0_M, s_l1Read_l0_X, sxN, sxE, sxR] <;> (repeat' apply And.intro) <;> first | rfl | exact ⟨_, rfl⟩ | exact ⟨_, _, rfl⟩ | simp [lst, cat2_nil]
 ·rw [if_neg e6] at h
  obtain rfl := Option.some.inj h
  simp (maxDischargeDepth := 9) only [↓xpre, xpost, xlst, xc2, xcore, yset, rg0, ↓reduceIte, Nat.reduceEqDiff, Nat.reduceLT, Nat.reduceLeDiff, Nat.reduceAdd, Nat.reduceMul, Nat.reduceMod, Nat.reduceDiv, Nat.reducePow, Nat.reduceSub, Nat.reduceBEq, Int.reduceLE, Int.reduceLT, Int.reduceEq, Int.reduceSub, Int.reduceAdd, Int.reduceToNat, Int.reduceNeg, m0, m1, m2, e6, s_l1Read_l0_M, s_l1Read_l0_X, sxN, sxE, sxR] <;> (repeat' apply And.intro) <;> first | rfl | exact ⟨_, rfl⟩ | exact ⟨_, _, rfl⟩ | simp [lst, cat2_nil]
theorem s_l1Read_call (s_ : ByteArray) {r : Int} (h : s_l1Read s_ = some r) : Y.call 60 [D.str s_] [] = some (D.int .i64 r, []) := by
 refine c60 ?_ rfl
 unfold k60
 unfold s_l1Read at h
 have c1 := s_l1In_cl (s_.size : Int) (1 : Int) (6 : Int)
 by_cases e2 : (inR (s_.size : Int) (1 : Int) (6 : Int)) = true
 ·rw [if_pos e2] at h
  obtain ⟨e3, h⟩ := ckS h
  by_cases e4 : (atB s_ 0) = 48
  ·rw [if_pos e4] at h
   by_cases e5 : 1 < (s_.size : Int)
   ·rw [if_pos e5] at h
    obtain rfl := Option.some.inj h
    simp (maxDischargeDepth := 9) only [↓xpre, xpost, xlst, xc2, xcore, yset, rg0, ↓reduceIte, Nat.reduceEqDiff, Nat.reduceLT, Nat.reduceLeDiff, Nat.reduceAdd, Nat.reduceMul, Nat.reduceMod, Nat.reduceDiv, Nat.reducePow, Nat.reduceSub, Nat.reduceBEq, Int.reduceLE, Int.reduceLT, Int.reduceEq, Int.reduceSub, Int.reduceAdd, Int.reduceToNat, Int.reduceNeg, c1, e2, e3, decide_eq_true e4, e5] <;> (repeat' apply And.intro) <;> first | rfl | exact ⟨_, rfl⟩ | exact ⟨_, _, rfl⟩ | simp [lst, cat2_nil]
   ·rw [if_neg e5] at h
    obtain ⟨r1000_, hl7, h⟩ := bindS h
    try dsimp only at h
    simp (maxDischargeDepth := 9) only [↓xpre, xpost, xlst, xc2, xcore, yset, rg0, ↓reduceIte, Nat.reduceEqDiff, Nat.reduceLT, Nat.reduceLeDiff, Nat.reduceAdd, Nat.reduceMul, Nat.reduceMod, Nat.reduceDiv, Nat.reducePow, Nat.reduceSub, Nat.reduceBEq, Int.reduceLE, Int.reduceLT, Int.reduceEq, Int.reduceSub, Int.reduceAdd, Int.reduceToNat, Int.reduceNeg, c1, e2, e3, decide_eq_true e4, e5]
    refine wd_mono (s_l1Read_l0_wp s_ hl7 ?_) ?_
    ·simp (maxDischargeDepth := 9) only [↓xpre, xpost, xlst, xc2, xcore, yset, rg0, ↓reduceIte, Nat.reduceEqDiff, Nat.reduceLT, Nat.reduceLeDiff, Nat.reduceAdd, Nat.reduceMul, Nat.reduceMod, Nat.reduceDiv, Nat.reducePow, Nat.reduceSub, Nat.reduceBEq, Int.reduceLE, Int.reduceLT, Int.reduceEq, Int.reduceSub, Int.reduceAdd, Int.reduceToNat, Int.reduceNeg, c1, e2, e3, decide_eq_true e4, e5, s_l1Read_l0_M] <;> (repeat' apply And.intro) <;> first | rfl | exact ⟨_, rfl⟩ | exact ⟨_, _, rfl⟩ | simp [lst, cat2_nil]
    ·intro ex7 s7 hX7
     rcases r1000_ with q1000_ | q1000_
     ·unfold s_l1Read_l0_X at hX7
      dsimp only at hX7 h
      obtain ⟨rfl, n7_0⟩ := hX7
      obtain rfl := Option.some.inj h
      simp (maxDischargeDepth := 9) only [↓xpre, xpost, xlst, xc2, xcore, yset, rg0, ↓reduceIte, Nat.reduceEqDiff, Nat.reduceLT, Nat.reduceLeDiff, Nat.reduceAdd, Nat.reduceMul, Nat.reduceMod, Nat.reduceDiv, Nat.reducePow, Nat.reduceSub, Nat.reduceBEq, Int.reduceLE, Int.reduceLT, Int.reduceEq, Int.reduceSub, Int.reduceAdd, Int.reduceToNat, Int.reduceNeg, c1, e2, e3, decide_eq_true e4, e5, n7_0] <;> (repeat' apply And.intro) <;> first | rfl | exact ⟨_, rfl⟩ | exact ⟨_, _, rfl⟩ | simp [lst, cat2_nil]
     ·unfold s_l1Read_l0_X at hX7
      dsimp only at hX7 h
      obtain ⟨rfl, n7_0⟩ := hX7
      obtain rfl := Option.some.inj h
      simp (maxDischargeDepth := 9) only [↓xpre, xpost, xlst, xc2, xcore, yset, rg0, ↓reduceIte, Nat.reduceEqDiff, Nat.reduceLT, Nat.reduceLeDiff, Nat.reduceAdd, Nat.reduceMul, Nat.reduceMod, Nat.reduceDiv, Nat.reducePow, Nat.reduceSub, Nat.reduceBEq, Int.reduceLE, Int.reduceLT, Int.reduceEq, Int.reduceSub, Int.reduceAdd, Int.reduceToNat, Int.reduceNeg, c1, e2, e3, decide_eq_true e4, e5, n7_0] <;> (repeat' apply And.intro) <;> first | rfl | exact ⟨_, rfl⟩ | exact ⟨_, _, rfl⟩ | simp [lst, cat2_nil]
  ·rw [if_neg e4] at h
   obtain ⟨r1000_, hl6, h⟩ := bindS h
   try dsimp only at h
   simp (maxDischargeDepth := 9) only [↓xpre, xpost, xlst, xc2, xcore, yset, rg0, ↓reduceIte, Nat.reduceEqDiff, Nat.reduceLT, Nat.reduceLeDiff, Nat.reduceAdd, Nat.reduceMul, Nat.reduceMod, Nat.reduceDiv, Nat.reducePow, Nat.reduceSub, Nat.reduceBEq, Int.reduceLE, Int.reduceLT, Int.reduceEq, Int.reduceSub, Int.reduceAdd, Int.reduceToNat, Int.reduceNeg, c1, e2, e3, e4]
   refine wd_mono (s_l1Read_l0_wp s_ hl6 ?_) ?_
   ·simp (maxDischargeDepth := 9) only [↓xpre, xpost, xlst, xc2, xcore, yset, rg0, ↓reduceIte, Nat.reduceEqDiff, Nat.reduceLT, Nat.reduceLeDiff, Nat.reduceAdd, Nat.reduceMul, Nat.reduceMod, Nat.reduceDiv, Nat.reducePow, Nat.reduceSub, Nat.reduceBEq, Int.reduceLE, Int.reduceLT, Int.reduceEq, Int.reduceSub, Int.reduceAdd, Int.reduceToNat, Int.reduceNeg, c1, e2, e3, e4, s_l1Read_l0_M] <;> (repeat' apply And.intro) <;> first | rfl | exact ⟨_, rfl⟩ | exact ⟨_, _, rfl⟩ | simp [lst, cat2_nil]
   ·intro ex6 s6 hX6
    rcases r1000_ with q1000_ | q1000_
    ·unfold s_l1Read_l0_X at hX6
     dsimp only at hX6 h
     obtain ⟨rfl, n6_0⟩ := hX6
     obtain rfl := Option.some.inj h
     simp (maxDischargeDepth := 9) only [↓xpre, xpost, xlst, xc2, xcore, yset, rg0, ↓reduceIte, Nat.reduceEqDiff, Nat.reduceLT, Nat.reduceLeDiff, Nat.reduceAdd, Nat.reduceMul, Nat.reduceMod, Nat.reduceDiv, Nat.reducePow, Nat.reduceSub, Nat.reduceBEq, Int.reduceLE, Int.reduceLT, Int.reduceEq, Int.reduceSub, Int.reduceAdd, Int.reduceToNat, Int.reduceNeg, c1, e2, e3, e4, n6_0] <;> (repeat' apply And.intro) <;> first | rfl | exact ⟨_, rfl⟩ | exact ⟨_, _, rfl⟩ | simp [lst, cat2_nil]
    ·unfold s_l1Read_l0_X at hX6
     dsimp only at hX6 h
     obtain ⟨rfl, n6_0⟩ := hX6
     obtain rfl := Option.some.inj h
     simp (maxDischargeDepth := 9) only [↓xpre, xpost, xlst, xc2, xcore, yset, rg0, ↓reduceIte, Nat.reduceEqDiff, Nat.reduceLT, Nat.reduceLeDiff, Nat.reduceAdd, Nat.reduceMul, Nat.reduceMod, Nat.reduceDiv, Nat.reducePow, Nat.reduceSub, Nat.reduceBEq, Int.reduceLE, Int.reduceLT, Int.reduceEq, Int.reduceSub, Int.reduceAdd, Int.reduceToNat, Int.reduceNeg, c1, e2, e3, e4, n6_0] <;> (repeat' apply And.intro) <;> first | rfl | exact ⟨_, rfl⟩ | exact ⟨_, _, rfl⟩ | simp [lst, cat2_nil]
 ·rw [if_neg e2] at h
  have e2f : (inR (s_.size : Int) (1 : Int) (6 : Int)) = false := Bool.eq_false_iff.mpr e2
  obtain rfl := Option.some.inj h
  simp (maxDischargeDepth := 9) only [↓xpre, xpost, xlst, xc2, xcore, yset, rg0, ↓reduceIte, Nat.reduceEqDiff, Nat.reduceLT, Nat.reduceLeDiff, Nat.reduceAdd, Nat.reduceMul, Nat.reduceMod, Nat.reduceDiv, Nat.reducePow, Nat.reduceSub, Nat.reduceBEq, Int.reduceLE, Int.reduceLT, Int.reduceEq, Int.reduceSub, Int.reduceAdd, Int.reduceToNat, Int.reduceNeg, c1, e2f] <;> (repeat' apply And.intro) <;> first | rfl | exact ⟨_, rfl⟩ | exact ⟨_, _, rfl⟩ | simp [lst, cat2_nil]

end Go.Proofs.YtaogbcdlpgfplaaDoor
