/- The round at which values rest, lifted. Conditions: none. -/
import Derived.Test.YtjkgcfdcfjkkbaaL6
import Derived.Test.YtjkgcfdcfjkkbaaVpA
namespace Go.Proofs.Ytjkgcfdcfjkkbaa
open Go Dv
set_option linter.unusedSimpArgs false
set_option linter.unusedVariables false
set_option maxRecDepth 100000
set_option maxHeartbeats 4000000

noncomputable def g_slices_Equal_Sint_int_l0_S (s1_ : List Int) (s2_ : List Int) (t13_ : Int) : Option ((Int) ⊕ (Unit ⊕ Unit)) :=
 if t13_ < (s1_.length : Int) then
  ck (0 ≤ t13_ ∧ t13_.toNat < s1_.length) <|
  ck (0 ≤ t13_ ∧ t13_.toNat < s2_.length) <|
  if (s1_.getD t13_.toNat default) = (s2_.getD t13_.toNat default) then
   some (Sum.inl (IntKind.i64.wrap (t13_ + 1)))
  else
   some (Sum.inr (Sum.inl ()))
 else
  some (Sum.inr (Sum.inr ()))
noncomputable def g_slices_Equal_Sint_int_l0 (s1_ : List Int) (s2_ : List Int) (v : Int) : Option (Unit ⊕ Unit) := itO (fun v => g_slices_Equal_Sint_int_l0_S s1_ s2_ v) v
noncomputable def g_slices_Equal_Sint_int (s1_ : List Int) (s2_ : List Int) : Option (Bool) :=
 if (s1_.length : Int) = (s2_.length : Int) then
  (g_slices_Equal_Sint_int_l0 s1_ s2_ 0).bind fun r3_ =>
  match r3_ with
  | .inl q3_ =>
   some false
  | .inr q3_ =>
   some true
 else
  some false
/-- slices.Equal[[]int,int] -/
def k72_l0b : SC :=
 .seq
 (.ops [
 ⟨(some 14), (.binOp .lss 3 (.tmp 13) (.tmp 12) 3), 0, none⟩])
 (.seq
 (.cond (.tmp 14)
 .skip
 (.exit 0))
 (.seq
 (.block 1
 (.seq
 (.ops [
 ⟨(some 15), (.move (.tmp 13)), 3, none⟩,
 ⟨(some 5), (.assign (.tmp 15)), 3, none⟩])
 (.seq
 (.draws [
 (⟨[16, 0, 0], [16, 17, 18, 19, 20, 21, 22, 23, 24], [16]⟩, ⟨(some 16), (.move (.tmp 0)), 23, none⟩),
 (⟨[17, 5, 5], [16, 17, 18, 19, 20, 21, 22, 23, 24], [17]⟩, ⟨(some 17), (.move (.tmp 5)), 3, none⟩),
 (⟨[18, 16, 17, 0, 5], [16, 17, 18, 19, 20, 21, 22, 23, 24], [18]⟩, ⟨(some 18), (.indexAddr 23 (.tmp 16) (.tmp 17)), 0, none⟩),
 (⟨[19, 18, 0], [16, 17, 18, 19, 20, 21, 22, 23, 24], [19]⟩, ⟨(some 19), (.load 3 (.tmp 18)), 3, none⟩),
 (⟨[20, 1, 1], [16, 17, 18, 19, 20, 21, 22, 23, 24], [20]⟩, ⟨(some 20), (.move (.tmp 1)), 23, none⟩),
 (⟨[21, 5, 5], [16, 17, 18, 19, 20, 21, 22, 23, 24], [21]⟩, ⟨(some 21), (.move (.tmp 5)), 3, none⟩),
 (⟨[22, 20, 21, 1, 5], [16, 17, 18, 19, 20, 21, 22, 23, 24], [22]⟩, ⟨(some 22), (.indexAddr 23 (.tmp 20) (.tmp 21)), 0, none⟩),
 (⟨[23, 22, 1], [16, 17, 18, 19, 20, 21, 22, 23, 24], [23]⟩, ⟨(some 23), (.load 3 (.tmp 22)), 3, none⟩),
 (⟨[24, 19, 23, 0, 1], [16, 17, 18, 19, 20, 21, 22, 23, 24], [24]⟩, ⟨(some 24), (.binOp .neq 3 (.tmp 19) (.tmp 23) 3), 4, none⟩)])
 (.cond (.tmp 24)
 (.seq
 (.ops [
 ⟨(some 4), (.assign (.const (.bool false))), 4, none⟩])
 .ret)
 .skip))))
 (.ops [
 ⟨(some 25), (.binOp .add 3 (.tmp 13) (.const (.int .i64 1)) 3), 3, none⟩,
 ⟨(some 13), (.move (.tmp 25)), 3, none⟩])))
def k72_l0 : SC := .loop k72_l0b
def k72 : SC :=
 .seq
 (.ops [
 ⟨(some 4), (.assign (.const (.bool false))), 4, none⟩])
 (.seq
 (.seq
 (.ops [
 ⟨(some 6), (.move (.tmp 0)), 23, none⟩,
 ⟨(some 7), (.call ⟨(.builtin .len), #[(.tmp 6)], #[23]⟩), 3, none⟩,
 ⟨(some 8), (.move (.tmp 1)), 23, none⟩,
 ⟨(some 9), (.call ⟨(.builtin .len), #[(.tmp 8)], #[23]⟩), 3, none⟩,
 ⟨(some 10), (.binOp .neq 3 (.tmp 7) (.tmp 9) 3), 4, none⟩])
 (.cond (.tmp 10)
 (.seq
 (.ops [
 ⟨(some 4), (.assign (.const (.bool false))), 4, none⟩])
 .ret)
 .skip))
 (.seq
 (.seq
 (.ops [
 ⟨(some 11), (.move (.tmp 0)), 23, none⟩,
 ⟨(some 12), (.call ⟨(.builtin .len), #[(.tmp 11)], #[23]⟩), 3, none⟩,
 ⟨(some 13), (.move (.const (.int .i64 0))), 3, none⟩])
 (.block 0
 k72_l0))
 (.seq
 (.ops [
 ⟨(some 4), (.assign (.const (.bool true))), 4, none⟩])
 .ret)))
theorem slim72 : Try.f72.body.map (slim lends) = some k72 := by kernel_rfl
theorem ok72 : fnOk Try.f72 2 = true := by kernel_rfl
theorem c72 {a l : List D} {r : D × List D} (h : wpD Y.env k72 (fin tys l.length [ResultVar.tmp 4] r) (entry a l)) (ha : a.length = 2) : Y.call 72 a l = some r :=
 call_slim (Y := Y) rfl Try.func72 (ha ▸ ok72) slim72 h
def g_slices_Equal_Sint_int_l0_M (s1_ : List Int) (s2_ : List Int) (t13_ : Int) (s : St) : Prop := s.v 0 = D.sl 3 (lst (D.int .i64) s1_) ∧ s.v 1 = D.sl 3 (lst (D.int .i64) s2_) ∧ s.v 12 = D.int .i64 (s1_.length : Int) ∧ s.v 13 = D.int .i64 t13_
def g_slices_Equal_Sint_int_l0_X (s1_ : List Int) (s2_ : List Int) (r : Unit ⊕ Unit) (ex : Ex) (s : St) : Prop := match r with
 | .inl q => ex = .ret ∧ s.v 4 = D.bool false
 | .inr q => ex = .exit 0
theorem g_slices_Equal_Sint_int_l0_wp (s1_ : List Int) (s2_ : List Int) {v : Int} {s : St} {r : Unit ⊕ Unit} (h : g_slices_Equal_Sint_int_l0 s1_ s2_ v = some r) (hM : g_slices_Equal_Sint_int_l0_M s1_ s2_ v s) : wpD Y.env k72_l0 (g_slices_Equal_Sint_int_l0_X s1_ s2_ r) s := by
 unfold g_slices_Equal_Sint_int_l0 at h
 refine wd_itO (c := k72_l0b) (fun v => g_slices_Equal_Sint_int_l0_S s1_ s2_ v) (fun v s => g_slices_Equal_Sint_int_l0_M s1_ s2_ v s) (g_slices_Equal_Sint_int_l0_X s1_ s2_) ?_ h hM
 clear h hM s v r
 intro t13_ s o hM h
 unfold g_slices_Equal_Sint_int_l0_S at h
 unfold g_slices_Equal_Sint_int_l0_M at hM
 obtain ⟨m0, m1, m2, m3⟩ := hM
 unfold k72_l0b
 by_cases e2 : t13_ < (s1_.length : Int)
 ·rw [if_pos e2] at h
  obtain ⟨e3, h⟩ := ckS h
  obtain ⟨e4, h⟩ := ckS h
  by_cases e5 : (s1_.getD t13_.toNat default) = (s2_.getD t13_.toNat default)
  ·rw [if_pos e5] at h
   obtain rfl := Option.some.inj h
   simp (maxDischargeDepth := 9) only [↓xpre, xpost, xlst, xcore, yset, ↓reduceIte, Nat.reduceEqDiff, m0, m1, m2, m3, e2, e3.1, e3.2, e4.2, decide_eq_true e5, g_slices_Equal_Sint_int_l0_M, sxN] <;> (repeat' apply And.intro) <;> first | rfl | exact ⟨_, rfl⟩ | simp [lst, cat2_nil]
  ·rw [if_neg e5] at h
   obtain rfl := Option.some.inj h
   simp (maxDischargeDepth := 9) only [↓xpre, xpost, xlst, xcore, yset, ↓reduceIte, Nat.reduceEqDiff, m0, m1, m2, m3, e2, e3.1, e3.2, e4.2, e5, g_slices_Equal_Sint_int_l0_M, g_slices_Equal_Sint_int_l0_X, sxR] <;> (repeat' apply And.intro) <;> first | rfl | exact ⟨_, rfl⟩ | simp [lst, cat2_nil]
 ·rw [if_neg e2] at h
  obtain rfl := Option.some.inj h
  simp (maxDischargeDepth := 9) only [↓xpre, xpost, yset, ↓reduceIte, m2, m3, e2, g_slices_Equal_Sint_int_l0_M, g_slices_Equal_Sint_int_l0_X, sxE] <;> (repeat' apply And.intro) <;> first | rfl | exact ⟨_, rfl⟩ | simp [lst, cat2_nil]
theorem g_slices_Equal_Sint_int_call (s1_ : List Int) (s2_ : List Int) {r : Bool} (h : g_slices_Equal_Sint_int s1_ s2_ = some r) : Y.call 72 [D.sl 3 (lst (D.int .i64) s1_), D.sl 3 (lst (D.int .i64) s2_)] [] = some (D.bool r, []) := by
 refine c72 ?_ rfl
 unfold k72
 unfold g_slices_Equal_Sint_int at h
 by_cases e1 : (s1_.length : Int) = (s2_.length : Int)
 ·rw [if_pos e1] at h
  obtain ⟨r3_, hl3, h⟩ := bindS h
  try dsimp only at h
  simp (maxDischargeDepth := 9) only [↓xpre, xpost, xlst, xcore, yset, ↓reduceIte, Nat.reduceEqDiff, Nat.reduceLT, decide_eq_true e1]
  refine wd_mono (g_slices_Equal_Sint_int_l0_wp s1_ s2_ hl3 ?_) ?_
  ·simp (maxDischargeDepth := 9) only [xpost, xcore, ↓reduceIte, Nat.reduceEqDiff, Nat.reduceLT, g_slices_Equal_Sint_int_l0_M] <;> (repeat' apply And.intro) <;> first | rfl | exact ⟨_, rfl⟩ | simp [lst, cat2_nil]
  ·intro ex3 s3 hX3
   rcases r3_ with q3_ | q3_
   ·unfold g_slices_Equal_Sint_int_l0_X at hX3
    dsimp only at hX3 h
    obtain ⟨rfl, n3_0⟩ := hX3
    obtain rfl := Option.some.inj h
    simp (maxDischargeDepth := 9) only [↓xpre, xpost, xcore, ↓reduceIte, n3_0] <;> (repeat' apply And.intro) <;> first | rfl | exact ⟨_, rfl⟩ | simp [lst, cat2_nil]
   ·unfold g_slices_Equal_Sint_int_l0_X at hX3
    dsimp only at hX3 h
    obtain rfl := hX3
    obtain rfl := Option.some.inj h
    simp (maxDischargeDepth := 9) only [↓xpre, xpost, xcore, yset, ↓reduceIte, Nat.reduceEqDiff] <;> (repeat' apply And.intro) <;> first | rfl | exact ⟨_, rfl⟩ | simp [lst, cat2_nil]
 ·rw [if_neg e1] at h
  obtain rfl := Option.some.inj h
  simp (maxDischargeDepth := 9) only [↓xpre, xpost, xlst, xcore, yset, ↓reduceIte, Nat.reduceEqDiff, Nat.reduceLT, e1] <;> (repeat' apply And.intro) <;> first | rfl | exact ⟨_, rfl⟩ | simp [lst, cat2_nil]

noncomputable def i_RestRound_l0_S (prog : List (Int × Int)) (n_Ends : List (List (Int × Int))) (n_Ids : List Int) (n_Inputs : List Int) (most : Int) (values : List Int) (t26_ : Int) : Option (((List Int) × Int) ⊕ (Int ⊕ Unit)) :=
 if t26_ < (IntKind.i64.wrap (most + 1)) then
  (i_stepValues prog n_Ends n_Ids n_Inputs (IntKind.i64.wrap (t26_ + 1)) values).bind fun r6_ =>
  (g_slices_Equal_Sint_int r6_ values).bind fun r7_ =>
  if r7_ = true then
   some (Sum.inr (Sum.inl t26_))
  else
   some (Sum.inl (r6_, IntKind.i64.wrap (t26_ + 1)))
 else
  some (Sum.inr (Sum.inr ()))
noncomputable def i_RestRound_l0 (prog : List (Int × Int)) (n_Ends : List (List (Int × Int))) (n_Ids : List Int) (n_Inputs : List Int) (most : Int) (v : (List Int) × Int) : Option (Int ⊕ Unit) := itO (fun v => i_RestRound_l0_S prog n_Ends n_Ids n_Inputs most v.1 v.2) v
noncomputable def i_RestRound (prog : List (Int × Int)) (n_Ends : List (List (Int × Int))) (n_Ids : List Int) (n_Inputs : List Int) (start : List Int) (most : Int) : Option (Int × Bool) :=
 (i_valuesOk prog n_Ends n_Ids n_Inputs start).bind fun r1_ =>
 if r1_ = true then
  if (inR most (0 : Int) (2000 : Int)) = true then
   (i_RestRound_l0 prog n_Ends n_Ids n_Inputs most (start, 0)).bind fun r6_ =>
   match r6_ with
   | .inl q6_ =>
    some (q6_, true)
   | .inr q6_ =>
    some (0, false)
  else
   some (0, false)
 else
  some (0, false)
/-- impl.RestRound -/
def k36_l0b : SC :=
 .seq
 (.ops [
 ⟨(some 27), (.binOp .lss 3 (.tmp 26) (.tmp 25) 3), 4, none⟩])
 (.seq
 (.cond (.tmp 27)
 .skip
 (.exit 0))
 (.seq
 (.block 1
 (.seq
 (.ops [
 ⟨(some 28), (.move (.tmp 26)), 3, none⟩,
 ⟨(some 11), (.assign (.tmp 28)), 3, none⟩])
 (.seq
 (.ops [
 ⟨(some 29), (.move (.tmp 0)), 57, none⟩,
 ⟨(some 30), (.load 29 (.tmp 5)), 29, none⟩,
 ⟨(some 31), (.move (.tmp 11)), 3, none⟩,
 ⟨(some 32), (.binOp .add 3 (.tmp 31) (.const (.int .i64 1)) 3), 3, none⟩,
 ⟨(some 33), (.move (.tmp 10)), 23, none⟩,
 ⟨(some 34), (.call ⟨(.value (.func 67)), #[(.tmp 29), (.tmp 30), (.tmp 32), (.tmp 33)], #[57, 29, 3, 23]⟩), 23, none⟩,
 ⟨(some 12), (.assign (.tmp 34)), 23, none⟩])
 (.seq
 (.seq
 (.ops [
 ⟨(some 35), (.move (.tmp 12)), 23, none⟩,
 ⟨(some 36), (.move (.tmp 10)), 23, none⟩,
 ⟨(some 37), (.call ⟨(.value (.func 72)), #[(.tmp 35), (.tmp 36)], #[23, 23]⟩), 4, none⟩])
 (.cond (.tmp 37)
 (.seq
 (.ops [
 ⟨(some 38), (.move (.tmp 11)), 3, none⟩,
 ⟨(some 8), (.assign (.tmp 38)), 3, none⟩,
 ⟨(some 9), (.assign (.const (.bool true))), 4, none⟩])
 .ret)
 .skip))
 (.ops [
 ⟨(some 39), (.move (.tmp 12)), 23, none⟩,
 ⟨(some 10), (.assign (.tmp 39)), 900003, none⟩])))))
 (.ops [
 ⟨(some 40), (.binOp .add 3 (.tmp 26) (.const (.int .i64 1)) 3), 3, none⟩,
 ⟨(some 26), (.move (.tmp 40)), 3, none⟩])))
def k36_l0 : SC := .loop k36_l0b
def k36 : SC :=
 .seq
 (.ops [
 ⟨(some 5), (.box 29 (.tmp 1)), 0, none⟩,
 ⟨(some 8), (.assign (.const (.int .i64 0))), 3, none⟩,
 ⟨(some 9), (.assign (.const (.bool false))), 4, none⟩])
 (.seq
 (.seq
 (.ops [
 ⟨(some 13), (.move (.tmp 0)), 57, none⟩,
 ⟨(some 14), (.load 29 (.tmp 5)), 29, none⟩,
 ⟨(some 15), (.move (.tmp 2)), 23, none⟩,
 ⟨(some 16), (.call ⟨(.value (.func 65)), #[(.tmp 13), (.tmp 14), (.tmp 15)], #[57, 29, 23]⟩), 4, none⟩,
 ⟨(some 17), (.unOp .not 4 (.tmp 16)), 4, none⟩,
 ⟨(some 18), (.move (.tmp 17)), 4, none⟩,
 ⟨(some 19), (.move (.tmp 3)), 3, (some (some 18, false))⟩,
 ⟨(some 20), (.call ⟨(.value (.func 66)), #[(.tmp 19), (.const (.int .i64 0)), (.const (.int .i64 2000))], #[3, 3, 3]⟩), 4, (some (some 18, false))⟩,
 ⟨(some 21), (.unOp .not 4 (.tmp 20)), 4, (some (some 18, false))⟩,
 ⟨(some 22), (.pick (.tmp 18) (.const (.bool true)) (.tmp 21)), 4, none⟩])
 (.cond (.tmp 22)
 (.seq
 (.ops [
 ⟨(some 8), (.assign (.const (.int .i64 0))), 3, none⟩,
 ⟨(some 9), (.assign (.const (.bool false))), 4, none⟩])
 .ret)
 .skip))
 (.seq
 (.ops [
 ⟨(some 23), (.move (.tmp 2)), 23, none⟩,
 ⟨(some 10), (.assign (.tmp 23)), 23, none⟩])
 (.seq
 (.seq
 (.ops [
 ⟨(some 24), (.move (.tmp 3)), 3, none⟩,
 ⟨(some 25), (.binOp .add 3 (.tmp 24) (.const (.int .i64 1)) 3), 3, none⟩,
 ⟨(some 26), (.move (.const (.int .i64 0))), 3, none⟩])
 (.block 0
 k36_l0))
 (.seq
 (.ops [
 ⟨(some 8), (.assign (.const (.int .i64 0))), 3, none⟩,
 ⟨(some 9), (.assign (.const (.bool false))), 4, none⟩])
 .ret))))
theorem slim36 : Try.f36.body.map (slim lends) = some k36 := by kernel_rfl
theorem ok36 : fnOk Try.f36 4 = true := by kernel_rfl
theorem c36 {a l : List D} {r : D × List D} (h : wpD Y.env k36 (fin tys l.length [ResultVar.tmp 8, ResultVar.tmp 9] r) (entry a l)) (ha : a.length = 4) : Y.call 36 a l = some r :=
 call_slim (Y := Y) rfl Try.func36 (ha ▸ ok36) slim36 h
def i_RestRound_l0_M (prog : List (Int × Int)) (n_Ends : List (List (Int × Int))) (n_Ids : List Int) (n_Inputs : List Int) (most : Int) (values : List Int) (t26_ : Int) (s : St) : Prop := s.v 0 = D.sl 85 (cat2 .i64 .i64 prog) ∧ s.v 5 = D.box [D.sl 93 (lst (fun x => D.sl 95 (cat2 .i64 .i64 x)) n_Ends), D.sl 3 (lst (D.int .i64) n_Ids), D.sl 3 (lst (D.int .i64) n_Inputs)] ∧ s.v 10 = D.sl 3 (lst (D.int .i64) values) ∧ s.v 25 = D.int .i64 (IntKind.i64.wrap (most + 1)) ∧ s.v 26 = D.int .i64 t26_
def i_RestRound_l0_X (prog : List (Int × Int)) (n_Ends : List (List (Int × Int))) (n_Ids : List Int) (n_Inputs : List Int) (most : Int) (r : Int ⊕ Unit) (ex : Ex) (s : St) : Prop := match r with
 | .inl q => ex = .ret ∧ s.v 8 = D.int .i64 q ∧ s.v 9 = D.bool true
 | .inr q => ex = .exit 0
theorem i_RestRound_l0_wp (prog : List (Int × Int)) (n_Ends : List (List (Int × Int))) (n_Ids : List Int) (n_Inputs : List Int) (most : Int) {v : (List Int) × Int} {s : St} {r : Int ⊕ Unit} (h : i_RestRound_l0 prog n_Ends n_Ids n_Inputs most v = some r) (hM : i_RestRound_l0_M prog n_Ends n_Ids n_Inputs most v.1 v.2 s) : wpD Y.env k36_l0 (i_RestRound_l0_X prog n_Ends n_Ids n_Inputs most r) s := by
 unfold i_RestRound_l0 at h
 refine wd_itO (c := k36_l0b) (fun v => i_RestRound_l0_S prog n_Ends n_Ids n_Inputs most v.1 v.2) (fun v s => i_RestRound_l0_M prog n_Ends n_Ids n_Inputs most v.1 v.2 s) (i_RestRound_l0_X prog n_Ends n_Ids n_Inputs most) ?_ h hM
 clear h hM s v r
 intro v s o hM h
 obtain ⟨values, t26_⟩ := v
 dsimp only at h hM
 unfold i_RestRound_l0_S at h
 unfold i_RestRound_l0_M at hM
 obtain ⟨m0, m1, m2, m3, m4⟩ := hM
 unfold k36_l0b
 by_cases e5 : t26_ < (IntKind.i64.wrap (most + 1))
 ·rw [if_pos e5] at h
  obtain ⟨r6_, hl6, h⟩ := bindS h
  try dsimp only at h
  have c6 := i_stepValues_call prog n_Ends n_Ids n_Inputs (IntKind.i64.wrap (t26_ + 1)) values hl6
  obtain ⟨r7_, hl7, h⟩ := bindS h
  try dsimp only at h
  have c7 := g_slices_Equal_Sint_int_call r6_ values hl7
  by_cases e8 : r7_ = true
  ·rw [if_pos e8] at h
   obtain rfl := Option.some.inj h
   simp (maxDischargeDepth := 9) only [↓xpre, xpost, xlst, xcore, yset, ↓reduceIte, Nat.reduceEqDiff, Nat.reduceAdd, m0, m1, m2, m3, m4, e5, c6, c7, e8, i_RestRound_l0_M, i_RestRound_l0_X, sxR] <;> (repeat' apply And.intro) <;> first | rfl | exact ⟨_, rfl⟩ | simp [lst, cat2_nil]
  ·rw [if_neg e8] at h
   have e8f : r7_ = false := Bool.eq_false_iff.mpr e8
   obtain rfl := Option.some.inj h
   simp (maxDischargeDepth := 9) only [↓xpre, xpost, xlst, xcore, yset, ↓reduceIte, Nat.reduceEqDiff, Nat.reduceAdd, m0, m1, m2, m3, m4, e5, c6, c7, e8f, i_RestRound_l0_M, sxN] <;> (repeat' apply And.intro) <;> first | rfl | exact ⟨_, rfl⟩ | simp [lst, cat2_nil]
 ·rw [if_neg e5] at h
  obtain rfl := Option.some.inj h
  simp (maxDischargeDepth := 9) only [↓xpre, xpost, yset, ↓reduceIte, m3, m4, e5, i_RestRound_l0_M, i_RestRound_l0_X, sxE] <;> (repeat' apply And.intro) <;> first | rfl | exact ⟨_, rfl⟩ | simp [lst, cat2_nil]
theorem i_RestRound_call (prog : List (Int × Int)) (n_Ends : List (List (Int × Int))) (n_Ids : List Int) (n_Inputs : List Int) (start : List Int) (most : Int) {r : Int × Bool} (h : i_RestRound prog n_Ends n_Ids n_Inputs start most = some r) : Y.call 36 [D.sl 85 (cat2 .i64 .i64 prog), D.agg [D.sl 93 (lst (fun x => D.sl 95 (cat2 .i64 .i64 x)) n_Ends), D.sl 3 (lst (D.int .i64) n_Ids), D.sl 3 (lst (D.int .i64) n_Inputs)], D.sl 3 (lst (D.int .i64) start), D.int .i64 most] [] = some (D.tup [D.int .i64 r.1, D.bool r.2], []) := by
 refine c36 ?_ rfl
 unfold k36
 unfold i_RestRound at h
 obtain ⟨r1_, hl1, h⟩ := bindS h
 try dsimp only at h
 have c1 := i_valuesOk_call prog n_Ends n_Ids n_Inputs start hl1
 by_cases e2 : r1_ = true
 ·rw [if_pos e2] at h
  have c3 := i_within_cl most (0 : Int) (2000 : Int)
  by_cases e4 : (inR most (0 : Int) (2000 : Int)) = true
  ·rw [if_pos e4] at h
   obtain ⟨r6_, hl6, h⟩ := bindS h
   try dsimp only at h
   simp (maxDischargeDepth := 9) only [↓xpre, xpost, xcore, yset, ↓reduceIte, Nat.reduceEqDiff, Nat.reduceLT, Nat.reduceAdd, c1, e2, c3, e4]
   refine wd_mono (i_RestRound_l0_wp prog n_Ends n_Ids n_Inputs most hl6 ?_) ?_
   ·simp (maxDischargeDepth := 9) only [xpost, xcore, ↓reduceIte, Nat.reduceEqDiff, Nat.reduceLT, i_RestRound_l0_M] <;> (repeat' apply And.intro) <;> first | rfl | exact ⟨_, rfl⟩ | simp [lst, cat2_nil]
   ·intro ex6 s6 hX6
    rcases r6_ with q6_ | q6_
    ·unfold i_RestRound_l0_X at hX6
     dsimp only at hX6 h
     obtain ⟨rfl, n6_0, n6_1⟩ := hX6
     obtain rfl := Option.some.inj h
     simp (maxDischargeDepth := 9) only [↓xpre, xpost, xcore, ↓reduceIte, n6_0, n6_1] <;> (repeat' apply And.intro) <;> first | rfl | exact ⟨_, rfl⟩ | simp [lst, cat2_nil]
    ·unfold i_RestRound_l0_X at hX6
     dsimp only at hX6 h
     obtain rfl := hX6
     obtain rfl := Option.some.inj h
     simp (maxDischargeDepth := 9) only [↓xpre, xpost, xcore, yset, ↓reduceIte, Nat.reduceEqDiff] <;> (repeat' apply And.intro) <;> first | rfl | exact ⟨_, rfl⟩ | simp [lst, cat2_nil]
  ·rw [if_neg e4] at h
   have e4f : (inR most (0 : Int) (2000 : Int)) = false := Bool.eq_false_iff.mpr e4
   obtain rfl := Option.some.inj h
   simp (maxDischargeDepth := 9) only [↓xpre, xpost, xcore, yset, ↓reduceIte, Nat.reduceEqDiff, Nat.reduceLT, Nat.reduceAdd, c1, e2, c3, e4f] <;> (repeat' apply And.intro) <;> first | rfl | exact ⟨_, rfl⟩ | simp [lst, cat2_nil]
 ·rw [if_neg e2] at h
  have e2f : r1_ = false := Bool.eq_false_iff.mpr e2
  obtain rfl := Option.some.inj h
  simp (maxDischargeDepth := 9) only [↓xpre, xpost, xcore, yset, ↓reduceIte, Nat.reduceEqDiff, Nat.reduceLT, Nat.reduceAdd, c1, e2f] <;> (repeat' apply And.intro) <;> first | rfl | exact ⟨_, rfl⟩ | simp [lst, cat2_nil]

noncomputable def s_maLong (rounds : Int) : Option (Bool) :=
 some (inR rounds (0 : Int) (2000 : Int))
/-- spec.maLong -/
def k69 : SC :=
 .seq
 (.ops [
 ⟨(some 2), (.assign (.const (.bool false))), 4, none⟩])
 (.seq
 (.ops [
 ⟨(some 3), (.move (.tmp 0)), 3, none⟩,
 ⟨(some 4), (.call ⟨(.value (.func 62)), #[(.tmp 3), (.const (.int .i64 0)), (.const (.int .i64 2000))], #[3, 3, 3]⟩), 4, none⟩,
 ⟨(some 2), (.assign (.tmp 4)), 4, none⟩])
 .ret)
theorem slim69 : Try.f69.body.map (slim lends) = some k69 := by kernel_rfl
theorem ok69 : fnOk Try.f69 1 = true := by kernel_rfl
theorem c69 {a l : List D} {r : D × List D} (h : wpD Y.env k69 (fin tys l.length [ResultVar.tmp 2] r) (entry a l)) (ha : a.length = 1) : Y.call 69 a l = some r :=
 call_slim (Y := Y) rfl Try.func69 (ha ▸ ok69) slim69 h
theorem s_maLong_call (rounds : Int) {r : Bool} (h : s_maLong rounds = some r) : Y.call 69 [D.int .i64 rounds] [] = some (D.bool r, []) := by
 refine c69 ?_ rfl
 unfold k69
 unfold s_maLong at h
 have c1 := s_l1In_cl rounds (0 : Int) (2000 : Int)
 obtain rfl := Option.some.inj h
 simp (maxDischargeDepth := 9) only [↓xpre, xpost, xcore, yset, ↓reduceIte, Nat.reduceEqDiff, Nat.reduceLT, Nat.reduceAdd, c1] <;> (repeat' apply And.intro) <;> first | rfl | exact ⟨_, rfl⟩ | simp [lst, cat2_nil]

noncomputable def s_RestRound_l0_S (prog : List (Int × Int)) (n_Ends : List (List (Int × Int))) (n_Ids : List Int) (n_Inputs : List Int) (most : Int) (values : List Int) (k : Int) : Option (((List Int) × Int) ⊕ (Int ⊕ Unit)) :=
 if k ≤ most then
  (s_vaStep prog n_Ends n_Ids n_Inputs (IntKind.i64.wrap (k + 1)) values).bind fun r7_ =>
  (s_l1Same r7_ values).bind fun r8_ =>
  if r8_ = true then
   some (Sum.inr (Sum.inl k))
  else
   some (Sum.inl (r7_, IntKind.i64.wrap (k + 1)))
 else
  some (Sum.inr (Sum.inr ()))
noncomputable def s_RestRound_l0 (prog : List (Int × Int)) (n_Ends : List (List (Int × Int))) (n_Ids : List Int) (n_Inputs : List Int) (most : Int) (v : (List Int) × Int) : Option (Int ⊕ Unit) := itO (fun v => s_RestRound_l0_S prog n_Ends n_Ids n_Inputs most v.1 v.2) v
noncomputable def s_RestRound (prog : List (Int × Int)) (n_Ends : List (List (Int × Int))) (n_Ids : List Int) (n_Inputs : List Int) (start : List Int) (most : Int) : Option (Int × Bool) :=
 (s_vaAsked prog n_Ends n_Ids n_Inputs start).bind fun r1_ =>
 if r1_ = true then
  (s_maLong most).bind fun r3_ =>
  if r3_ = true then
   (s_l1Own start).bind fun r5_ =>
   (s_RestRound_l0 prog n_Ends n_Ids n_Inputs most (r5_, 0)).bind fun r7_ =>
   match r7_ with
   | .inl q7_ =>
    some (q7_, true)
   | .inr q7_ =>
    some (0, false)
  else
   some (0, false)
 else
  some (0, false)
/-- spec.RestRound -/
def k35_l0b : SC :=
 .seq
 (.seq
 (.ops [
 ⟨(some 25), (.move (.tmp 11)), 3, none⟩,
 ⟨(some 26), (.move (.tmp 3)), 3, none⟩,
 ⟨(some 27), (.binOp .leq 3 (.tmp 25) (.tmp 26) 3), 4, none⟩])
 (.cond (.tmp 27)
 .skip
 (.exit 0)))
 (.seq
 (.block 1
 (.seq
 (.ops [
 ⟨(some 30), (.move (.tmp 0)), 57, none⟩,
 ⟨(some 31), (.load 29 (.tmp 5)), 29, none⟩,
 ⟨(some 32), (.move (.tmp 11)), 3, none⟩,
 ⟨(some 33), (.binOp .add 3 (.tmp 32) (.const (.int .i64 1)) 3), 3, none⟩,
 ⟨(some 34), (.move (.tmp 10)), 23, none⟩,
 ⟨(some 35), (.call ⟨(.value (.func 63)), #[(.tmp 30), (.tmp 31), (.tmp 33), (.tmp 34)], #[57, 29, 3, 23]⟩), 23, none⟩,
 ⟨(some 12), (.assign (.tmp 35)), 23, none⟩])
 (.seq
 (.seq
 (.ops [
 ⟨(some 36), (.move (.tmp 12)), 23, none⟩,
 ⟨(some 37), (.move (.tmp 10)), 23, none⟩,
 ⟨(some 38), (.call ⟨(.value (.func 71)), #[(.tmp 36), (.tmp 37)], #[23, 23]⟩), 4, none⟩])
 (.cond (.tmp 38)
 (.seq
 (.ops [
 ⟨(some 39), (.move (.tmp 11)), 3, none⟩,
 ⟨(some 8), (.assign (.tmp 39)), 3, none⟩,
 ⟨(some 9), (.assign (.const (.bool true))), 4, none⟩])
 .ret)
 .skip))
 (.ops [
 ⟨(some 40), (.move (.tmp 12)), 23, none⟩,
 ⟨(some 10), (.assign (.tmp 40)), 23, none⟩]))))
 (.ops [
 ⟨(some 28), (.move (.tmp 11)), 3, none⟩,
 ⟨(some 29), (.binOp .add 3 (.tmp 28) (.const (.int .i64 1)) 3), 3, none⟩,
 ⟨(some 11), (.assign (.tmp 29)), 3, none⟩]))
def k35_l0 : SC := .loop k35_l0b
def k35 : SC :=
 .seq
 (.ops [
 ⟨(some 5), (.box 29 (.tmp 1)), 0, none⟩,
 ⟨(some 8), (.assign (.const (.int .i64 0))), 3, none⟩,
 ⟨(some 9), (.assign (.const (.bool false))), 4, none⟩])
 (.seq
 (.seq
 (.ops [
 ⟨(some 13), (.move (.tmp 0)), 57, none⟩,
 ⟨(some 14), (.load 29 (.tmp 5)), 29, none⟩,
 ⟨(some 15), (.move (.tmp 2)), 23, none⟩,
 ⟨(some 16), (.call ⟨(.value (.func 61)), #[(.tmp 13), (.tmp 14), (.tmp 15)], #[57, 29, 23]⟩), 4, none⟩,
 ⟨(some 17), (.unOp .not 4 (.tmp 16)), 4, none⟩,
 ⟨(some 18), (.move (.tmp 17)), 4, none⟩,
 ⟨(some 19), (.move (.tmp 3)), 3, (some (some 18, false))⟩,
 ⟨(some 20), (.call ⟨(.value (.func 69)), #[(.tmp 19)], #[3]⟩), 4, (some (some 18, false))⟩,
 ⟨(some 21), (.unOp .not 4 (.tmp 20)), 4, (some (some 18, false))⟩,
 ⟨(some 22), (.pick (.tmp 18) (.const (.bool true)) (.tmp 21)), 4, none⟩])
 (.cond (.tmp 22)
 (.seq
 (.ops [
 ⟨(some 8), (.assign (.const (.int .i64 0))), 3, none⟩,
 ⟨(some 9), (.assign (.const (.bool false))), 4, none⟩])
 .ret)
 .skip))
 (.seq
 (.ops [
 ⟨(some 23), (.move (.tmp 2)), 23, none⟩,
 ⟨(some 24), (.call ⟨(.value (.func 70)), #[(.tmp 23)], #[23]⟩), 23, none⟩,
 ⟨(some 10), (.assign (.tmp 24)), 23, none⟩])
 (.seq
 (.seq
 (.ops [
 ⟨(some 11), (.assign (.const (.int .i64 0))), 3, none⟩])
 (.block 0
 k35_l0))
 (.seq
 (.ops [
 ⟨(some 8), (.assign (.const (.int .i64 0))), 3, none⟩,
 ⟨(some 9), (.assign (.const (.bool false))), 4, none⟩])
 .ret))))
theorem slim35 : Try.f35.body.map (slim lends) = some k35 := by kernel_rfl
theorem ok35 : fnOk Try.f35 4 = true := by kernel_rfl
theorem c35 {a l : List D} {r : D × List D} (h : wpD Y.env k35 (fin tys l.length [ResultVar.tmp 8, ResultVar.tmp 9] r) (entry a l)) (ha : a.length = 4) : Y.call 35 a l = some r :=
 call_slim (Y := Y) rfl Try.func35 (ha ▸ ok35) slim35 h
def s_RestRound_l0_M (prog : List (Int × Int)) (n_Ends : List (List (Int × Int))) (n_Ids : List Int) (n_Inputs : List Int) (most : Int) (values : List Int) (k : Int) (s : St) : Prop := s.v 0 = D.sl 85 (cat2 .i64 .i64 prog) ∧ s.v 3 = D.int .i64 most ∧ s.v 5 = D.box [D.sl 93 (lst (fun x => D.sl 95 (cat2 .i64 .i64 x)) n_Ends), D.sl 3 (lst (D.int .i64) n_Ids), D.sl 3 (lst (D.int .i64) n_Inputs)] ∧ s.v 10 = D.own 3 (lst (D.int .i64) values) ∧ s.v 11 = D.int .i64 k
def s_RestRound_l0_X (prog : List (Int × Int)) (n_Ends : List (List (Int × Int))) (n_Ids : List Int) (n_Inputs : List Int) (most : Int) (r : Int ⊕ Unit) (ex : Ex) (s : St) : Prop := match r with
 | .inl q => ex = .ret ∧ s.v 8 = D.int .i64 q ∧ s.v 9 = D.bool true
 | .inr q => ex = .exit 0
theorem s_RestRound_l0_wp (prog : List (Int × Int)) (n_Ends : List (List (Int × Int))) (n_Ids : List Int) (n_Inputs : List Int) (most : Int) {v : (List Int) × Int} {s : St} {r : Int ⊕ Unit} (h : s_RestRound_l0 prog n_Ends n_Ids n_Inputs most v = some r) (hM : s_RestRound_l0_M prog n_Ends n_Ids n_Inputs most v.1 v.2 s) : wpD Y.env k35_l0 (s_RestRound_l0_X prog n_Ends n_Ids n_Inputs most r) s := by
 unfold s_RestRound_l0 at h
 refine wd_itO (c := k35_l0b) (fun v => s_RestRound_l0_S prog n_Ends n_Ids n_Inputs most v.1 v.2) (fun v s => s_RestRound_l0_M prog n_Ends n_Ids n_Inputs most v.1 v.2 s) (s_RestRound_l0_X prog n_Ends n_Ids n_Inputs most) ?_ h hM
 clear h hM s v r
 intro v s o hM h
 obtain ⟨values, k⟩ := v
 dsimp only at h hM
 unfold s_RestRound_l0_S at h
 unfold s_RestRound_l0_M at hM
 obtain ⟨m0, m1, m2, m3, m4⟩ := hM
 unfold k35_l0b
 by_cases e6 : k ≤ most
 ·rw [if_pos e6] at h
  obtain ⟨r7_, hl7, h⟩ := bindS h
  try dsimp only at h
  have c7 := s_vaStep_call prog n_Ends n_Ids n_Inputs (IntKind.i64.wrap (k + 1)) values hl7
  obtain ⟨r8_, hl8, h⟩ := bindS h
  try dsimp only at h
  have c8 := s_l1Same_call r7_ values hl8
  by_cases e9 : r8_ = true
  ·rw [if_pos e9] at h
   obtain rfl := Option.some.inj h
   simp (maxDischargeDepth := 9) only [↓xpre, xpost, xlst, xcore, yset, ↓reduceIte, Nat.reduceEqDiff, Nat.reduceAdd, m0, m1, m2, m3, m4, e6, c7, c8, e9, s_RestRound_l0_M, s_RestRound_l0_X, sxR] <;> (repeat' apply And.intro) <;> first | rfl | exact ⟨_, rfl⟩ | simp [lst, cat2_nil]
  ·rw [if_neg e9] at h
   have e9f : r8_ = false := Bool.eq_false_iff.mpr e9
   obtain rfl := Option.some.inj h
   simp (maxDischargeDepth := 9) only [↓xpre, xpost, xlst, xcore, yset, ↓reduceIte, Nat.reduceEqDiff, Nat.reduceAdd, m0, m1, m2, m3, m4, e6, c7, c8, e9f, s_RestRound_l0_M, sxN] <;> (repeat' apply And.intro) <;> first | rfl | exact ⟨_, rfl⟩ | simp [lst, cat2_nil]
 ·rw [if_neg e6] at h
  obtain rfl := Option.some.inj h
  simp (maxDischargeDepth := 9) only [↓xpre, xpost, yset, ↓reduceIte, Nat.reduceEqDiff, m1, m4, e6, s_RestRound_l0_M, s_RestRound_l0_X, sxE] <;> (repeat' apply And.intro) <;> first | rfl | exact ⟨_, rfl⟩ | simp [lst, cat2_nil]
theorem s_RestRound_call (prog : List (Int × Int)) (n_Ends : List (List (Int × Int))) (n_Ids : List Int) (n_Inputs : List Int) (start : List Int) (most : Int) {r : Int × Bool} (h : s_RestRound prog n_Ends n_Ids n_Inputs start most = some r) : Y.call 35 [D.sl 85 (cat2 .i64 .i64 prog), D.agg [D.sl 93 (lst (fun x => D.sl 95 (cat2 .i64 .i64 x)) n_Ends), D.sl 3 (lst (D.int .i64) n_Ids), D.sl 3 (lst (D.int .i64) n_Inputs)], D.sl 3 (lst (D.int .i64) start), D.int .i64 most] [] = some (D.tup [D.int .i64 r.1, D.bool r.2], []) := by
 refine c35 ?_ rfl
 unfold k35
 unfold s_RestRound at h
 obtain ⟨r1_, hl1, h⟩ := bindS h
 try dsimp only at h
 have c1 := s_vaAsked_call prog n_Ends n_Ids n_Inputs start hl1
 by_cases e2 : r1_ = true
 ·rw [if_pos e2] at h
  obtain ⟨r3_, hl3, h⟩ := bindS h
  try dsimp only at h
  have c3 := s_maLong_call most hl3
  by_cases e4 : r3_ = true
  ·rw [if_pos e4] at h
   obtain ⟨r5_, hl5, h⟩ := bindS h
   try dsimp only at h
   have c5 := s_l1Own_call start hl5
   obtain ⟨r7_, hl7, h⟩ := bindS h
   try dsimp only at h
   simp (maxDischargeDepth := 9) only [↓xpre, xpost, xlst, xcore, yset, ↓reduceIte, Nat.reduceEqDiff, Nat.reduceLT, Nat.reduceAdd, c1, e2, c3, e4, c5]
   refine wd_mono (s_RestRound_l0_wp prog n_Ends n_Ids n_Inputs most hl7 ?_) ?_
   ·simp (maxDischargeDepth := 9) only [xpost, xcore, ↓reduceIte, Nat.reduceEqDiff, Nat.reduceLT, s_RestRound_l0_M] <;> (repeat' apply And.intro) <;> first | rfl | exact ⟨_, rfl⟩ | simp [lst, cat2_nil]
   ·intro ex7 s7 hX7
    rcases r7_ with q7_ | q7_
    ·unfold s_RestRound_l0_X at hX7
     dsimp only at hX7 h
     obtain ⟨rfl, n7_0, n7_1⟩ := hX7
     obtain rfl := Option.some.inj h
     simp (maxDischargeDepth := 9) only [↓xpre, xpost, xcore, ↓reduceIte, n7_0, n7_1] <;> (repeat' apply And.intro) <;> first | rfl | exact ⟨_, rfl⟩ | simp [lst, cat2_nil]
    ·unfold s_RestRound_l0_X at hX7
     dsimp only at hX7 h
     obtain rfl := hX7
     obtain rfl := Option.some.inj h
     simp (maxDischargeDepth := 9) only [↓xpre, xpost, xcore, yset, ↓reduceIte, Nat.reduceEqDiff] <;> (repeat' apply And.intro) <;> first | rfl | exact ⟨_, rfl⟩ | simp [lst, cat2_nil]
  ·rw [if_neg e4] at h
   have e4f : r3_ = false := Bool.eq_false_iff.mpr e4
   obtain rfl := Option.some.inj h
   simp (maxDischargeDepth := 9) only [↓xpre, xpost, xcore, yset, ↓reduceIte, Nat.reduceEqDiff, Nat.reduceLT, Nat.reduceAdd, c1, e2, c3, e4f] <;> (repeat' apply And.intro) <;> first | rfl | exact ⟨_, rfl⟩ | simp [lst, cat2_nil]
 ·rw [if_neg e2] at h
  have e2f : r1_ = false := Bool.eq_false_iff.mpr e2
  obtain rfl := Option.some.inj h
  simp (maxDischargeDepth := 9) only [↓xpre, xpost, xcore, yset, ↓reduceIte, Nat.reduceEqDiff, Nat.reduceLT, Nat.reduceAdd, c1, e2f] <;> (repeat' apply And.intro) <;> first | rfl | exact ⟨_, rfl⟩ | simp [lst, cat2_nil]


end Go.Proofs.Ytjkgcfdcfjkkbaa
