/- When lists are a problem, as plain functions. Conditions: the lists are short. -/
import Derived.Test.YtjkgcfdcfjkkbaaL6
import Derived.Test.YtjkgcfdcfjkkbaaPB
namespace Go.Proofs.Ytjkgcfdcfjkkbaa
open Go Dv
set_option linter.unusedSimpArgs false
set_option linter.unusedVariables false
set_option maxRecDepth 100000
set_option maxHeartbeats 4000000

def inR (n lo hi : Int) : Bool := decide (lo ≤ n ∧ n ≤ hi)
theorem inR_iff {n lo hi : Int} : inR n lo hi = true ↔ lo ≤ n ∧ n ≤ hi := by simp [inR]
noncomputable def i_within (n_ : Int) (low : Int) (high : Int) : Option (Bool) :=
 if low ≤ n_ then
  some (decide (n_ ≤ high))
 else
  some false
/-- impl.within -/
def k66 : SC :=
 .seq
 (.ops [
 ⟨(some 6), (.assign (.const (.bool false))), 4, none⟩])
 (.seq
 (.ops [
 ⟨(some 7), (.move (.tmp 1)), 3, none⟩,
 ⟨(some 8), (.move (.tmp 0)), 3, none⟩,
 ⟨(some 9), (.binOp .leq 3 (.tmp 7) (.tmp 8) 3), 4, none⟩,
 ⟨(some 10), (.move (.tmp 9)), 4, none⟩,
 ⟨(some 11), (.move (.tmp 0)), 3, (some (some 10, true))⟩,
 ⟨(some 12), (.move (.tmp 2)), 3, (some (some 10, true))⟩,
 ⟨(some 13), (.binOp .leq 3 (.tmp 11) (.tmp 12) 3), 4, (some (some 10, true))⟩,
 ⟨(some 14), (.pick (.tmp 10) (.tmp 13) (.const (.bool false))), 4, none⟩,
 ⟨(some 6), (.assign (.tmp 14)), 4, none⟩])
 .ret)
theorem slim66 : Try.f66.body.map (slim lends) = some k66 := by kernel_rfl
theorem ok66 : fnOk Try.f66 3 = true := by kernel_rfl
theorem c66 {a l : List D} {r : D × List D} (h : wpD Y.env k66 (fin tys l.length [ResultVar.tmp 6] r) (entry a l)) (ha : a.length = 3) : Y.call 66 a l = some r :=
 call_slim (Y := Y) rfl Try.func66 (ha ▸ ok66) slim66 h
theorem i_within_call (n_ : Int) (low : Int) (high : Int) {r : Bool} (h : i_within n_ low high = some r) : Y.call 66 [D.int .i64 n_, D.int .i64 low, D.int .i64 high] [] = some (D.bool r, []) := by
 refine c66 ?_ rfl
 unfold k66
 unfold i_within at h
 by_cases e1 : low ≤ n_
 ·rw [if_pos e1] at h
  obtain rfl := Option.some.inj h
  simp (maxDischargeDepth := 9) only [↓xpre, xpost, xlst, xc2, xcore, yset, rg0, ↓reduceIte, Nat.reduceEqDiff, Nat.reduceLT, Nat.reduceLeDiff, Nat.reduceAdd, Nat.reduceMul, Nat.reduceMod, Nat.reduceSub, Nat.reduceBEq, Int.reduceLE, Int.reduceLT, Int.reduceEq, Int.reduceSub, Int.reduceAdd, Int.reduceToNat, Int.reduceNeg, e1] <;> (repeat' apply And.intro) <;> first | rfl | exact ⟨_, rfl⟩ | simp [lst, cat2_nil]
 ·rw [if_neg e1] at h
  obtain rfl := Option.some.inj h
  simp (maxDischargeDepth := 9) only [↓xpre, xpost, xlst, xc2, xcore, yset, rg0, ↓reduceIte, Nat.reduceEqDiff, Nat.reduceLT, Nat.reduceLeDiff, Nat.reduceAdd, Nat.reduceMul, Nat.reduceMod, Nat.reduceSub, Nat.reduceBEq, Int.reduceLE, Int.reduceLT, Int.reduceEq, Int.reduceSub, Int.reduceAdd, Int.reduceToNat, Int.reduceNeg, e1] <;> (repeat' apply And.intro) <;> first | rfl | exact ⟨_, rfl⟩ | simp [lst, cat2_nil]

noncomputable def s_l1In (n_ : Int) (lo : Int) (hi : Int) : Option (Bool) :=
 if lo ≤ n_ then
  some (decide (n_ ≤ hi))
 else
  some false
/-- spec.l1In -/
def k62 : SC :=
 .seq
 (.ops [
 ⟨(some 6), (.assign (.const (.bool false))), 4, none⟩])
 (.seq
 (.ops [
 ⟨(some 7), (.move (.tmp 0)), 3, none⟩,
 ⟨(some 8), (.move (.tmp 1)), 3, none⟩,
 ⟨(some 9), (.binOp .geq 3 (.tmp 7) (.tmp 8) 3), 4, none⟩,
 ⟨(some 10), (.move (.tmp 9)), 4, none⟩,
 ⟨(some 11), (.move (.tmp 0)), 3, (some (some 10, true))⟩,
 ⟨(some 12), (.move (.tmp 2)), 3, (some (some 10, true))⟩,
 ⟨(some 13), (.binOp .leq 3 (.tmp 11) (.tmp 12) 3), 4, (some (some 10, true))⟩,
 ⟨(some 14), (.pick (.tmp 10) (.tmp 13) (.const (.bool false))), 4, none⟩,
 ⟨(some 6), (.assign (.tmp 14)), 4, none⟩])
 .ret)
theorem slim62 : Try.f62.body.map (slim lends) = some k62 := by kernel_rfl
theorem ok62 : fnOk Try.f62 3 = true := by kernel_rfl
theorem c62 {a l : List D} {r : D × List D} (h : wpD Y.env k62 (fin tys l.length [ResultVar.tmp 6] r) (entry a l)) (ha : a.length = 3) : Y.call 62 a l = some r :=
 call_slim (Y := Y) rfl Try.func62 (ha ▸ ok62) slim62 h
theorem s_l1In_call (n_ : Int) (lo : Int) (hi : Int) {r : Bool} (h : s_l1In n_ lo hi = some r) : Y.call 62 [D.int .i64 n_, D.int .i64 lo, D.int .i64 hi] [] = some (D.bool r, []) := by
 refine c62 ?_ rfl
 unfold k62
 unfold s_l1In at h
 by_cases e1 : lo ≤ n_
 ·rw [if_pos e1] at h
  obtain rfl := Option.some.inj h
  simp (maxDischargeDepth := 9) only [↓xpre, xpost, xlst, xc2, xcore, yset, rg0, ↓reduceIte, Nat.reduceEqDiff, Nat.reduceLT, Nat.reduceLeDiff, Nat.reduceAdd, Nat.reduceMul, Nat.reduceMod, Nat.reduceSub, Nat.reduceBEq, Int.reduceLE, Int.reduceLT, Int.reduceEq, Int.reduceSub, Int.reduceAdd, Int.reduceToNat, Int.reduceNeg, e1] <;> (repeat' apply And.intro) <;> first | rfl | exact ⟨_, rfl⟩ | simp [lst, cat2_nil]
 ·rw [if_neg e1] at h
  obtain rfl := Option.some.inj h
  simp (maxDischargeDepth := 9) only [↓xpre, xpost, xlst, xc2, xcore, yset, rg0, ↓reduceIte, Nat.reduceEqDiff, Nat.reduceLT, Nat.reduceLeDiff, Nat.reduceAdd, Nat.reduceMul, Nat.reduceMod, Nat.reduceSub, Nat.reduceBEq, Int.reduceLE, Int.reduceLT, Int.reduceEq, Int.reduceSub, Int.reduceAdd, Int.reduceToNat, Int.reduceNeg, e1] <;> (repeat' apply And.intro) <;> first | rfl | exact ⟨_, rfl⟩ | simp [lst, cat2_nil]

theorem i_within_eq (n lo hi : Int) : i_within n lo hi = some (inR n lo hi) := by unfold i_within inR; by_cases h1 : lo ≤ n <;> by_cases h2 : n ≤ hi <;> simp [h1, h2]
theorem s_l1In_eq (n lo hi : Int) : s_l1In n lo hi = some (inR n lo hi) := by unfold s_l1In inR; by_cases h1 : lo ≤ n <;> by_cases h2 : n ≤ hi <;> simp [h1, h2]
theorem i_within_cl (n_ : Int) (low : Int) (high : Int)  : Y.call 66 [D.int .i64 n_, D.int .i64 low, D.int .i64 high] [] = some (D.bool (inR n_ low high), []) := i_within_call n_ low high (i_within_eq n_ low high)
theorem s_l1In_cl (n_ : Int) (lo : Int) (hi : Int)  : Y.call 62 [D.int .i64 n_, D.int .i64 lo, D.int .i64 hi] [] = some (D.bool (inR n_ lo hi), []) := s_l1In_call n_ lo hi (s_l1In_eq n_ lo hi)
noncomputable def s_l1All_l0_S (l : List Int) (lo : Int) (hi : Int) (t11_ : Int) : Option ((Int) ⊕ (Unit ⊕ Unit)) :=
 if t11_ < (l.length : Int) then
  ck (0 ≤ t11_ ∧ t11_.toNat < l.length) <|
  if (inR (l.getD t11_.toNat default) lo hi) = true then
   some (Sum.inl (IntKind.i64.wrap (t11_ + 1)))
  else
   some (Sum.inr (Sum.inl ()))
 else
  some (Sum.inr (Sum.inr ()))
noncomputable def s_l1All_l0 (l : List Int) (lo : Int) (hi : Int) (v : Int) : Option (Unit ⊕ Unit) := itO (fun v => s_l1All_l0_S l lo hi v) v
noncomputable def s_l1All (l : List Int) (lo : Int) (hi : Int) : Option (Bool) :=
 (s_l1All_l0 l lo hi 0).bind fun r2_ =>
 match r2_ with
 | .inl q2_ =>
  some false
 | .inr q2_ =>
  some true
/-- spec.l1All -/
def k75_l0b : SC :=
 .seq
 (.ops [
 ⟨(some 12), (.binOp .lss 3 (.tmp 11) (.tmp 10) 3), 0, none⟩])
 (.seq
 (.cond (.tmp 12)
 .skip
 (.exit 0))
 (.seq
 (.block 1
 (.seq
 (.ops [
 ⟨(some 13), (.indexAddr 23 (.tmp 9) (.tmp 11)), 0, none⟩,
 ⟨(some 14), (.load 3 (.tmp 13)), 3, none⟩,
 ⟨(some 8), (.assign (.tmp 14)), 3, none⟩])
 (.seq
 (.ops [
 ⟨(some 15), (.move (.tmp 8)), 3, none⟩,
 ⟨(some 16), (.move (.tmp 1)), 3, none⟩,
 ⟨(some 17), (.move (.tmp 2)), 3, none⟩,
 ⟨(some 18), (.call ⟨(.value (.func 62)), #[(.tmp 15), (.tmp 16), (.tmp 17)], #[3, 3, 3]⟩), 4, none⟩,
 ⟨(some 19), (.unOp .not 4 (.tmp 18)), 4, none⟩])
 (.cond (.tmp 19)
 (.seq
 (.ops [
 ⟨(some 6), (.assign (.const (.bool false))), 4, none⟩])
 .ret)
 .skip))))
 (.ops [
 ⟨(some 20), (.binOp .add 3 (.tmp 11) (.const (.int .i64 1)) 3), 3, none⟩,
 ⟨(some 11), (.move (.tmp 20)), 3, none⟩])))
def k75_l0 : SC := .loop k75_l0b
def k75 : SC :=
 .seq
 (.ops [
 ⟨(some 6), (.assign (.const (.bool false))), 4, none⟩])
 (.seq
 (.seq
 (.ops [
 ⟨(some 9), (.move (.tmp 0)), 23, none⟩,
 ⟨(some 10), (.call ⟨(.builtin .len), #[(.tmp 9)], #[23]⟩), 3, none⟩,
 ⟨(some 11), (.move (.const (.int .i64 0))), 3, none⟩])
 (.block 0
 k75_l0))
 (.seq
 (.ops [
 ⟨(some 6), (.assign (.const (.bool true))), 4, none⟩])
 .ret))
theorem slim75 : Try.f75.body.map (slim lends) = some k75 := by kernel_rfl
theorem ok75 : fnOk Try.f75 3 = true := by kernel_rfl
theorem c75 {a l : List D} {r : D × List D} (h : wpD Y.env k75 (fin tys l.length [ResultVar.tmp 6] r) (entry a l)) (ha : a.length = 3) : Y.call 75 a l = some r :=
 call_slim (Y := Y) rfl Try.func75 (ha ▸ ok75) slim75 h
def s_l1All_l0_M (l : List Int) (lo : Int) (hi : Int) (t11_ : Int) (s : St) : Prop := s.v 1 = D.int .i64 lo ∧ s.v 2 = D.int .i64 hi ∧ s.v 9 = D.sl 3 (lst (D.int .i64) l) ∧ s.v 10 = D.int .i64 (l.length : Int) ∧ s.v 11 = D.int .i64 t11_
def s_l1All_l0_X (l : List Int) (lo : Int) (hi : Int) (r : Unit ⊕ Unit) (ex : Ex) (s : St) : Prop := match r with
 | .inl q => ex = .ret ∧ s.v 6 = D.bool false
 | .inr q => ex = .exit 0
theorem s_l1All_l0_wp (l : List Int) (lo : Int) (hi : Int) {v : Int} {s : St} {r : Unit ⊕ Unit} (h : s_l1All_l0 l lo hi v = some r) (hM : s_l1All_l0_M l lo hi v s) : wpD Y.env k75_l0 (s_l1All_l0_X l lo hi r) s := by
 unfold s_l1All_l0 at h
 refine wd_itO (c := k75_l0b) (fun v => s_l1All_l0_S l lo hi v) (fun v s => s_l1All_l0_M l lo hi v s) (s_l1All_l0_X l lo hi) ?_ h hM
 clear h hM s v r
 intro t11_ s o hM h
 unfold s_l1All_l0_S at h
 unfold s_l1All_l0_M at hM
 obtain ⟨m0, m1, m2, m3, m4⟩ := hM
 unfold k75_l0b
 by_cases e1 : t11_ < (l.length : Int)
 ·rw [if_pos e1] at h
  obtain ⟨e2, h⟩ := ckS h
  have c3 := s_l1In_cl (l.getD t11_.toNat default) lo hi
  by_cases e4 : (inR (l.getD t11_.toNat default) lo hi) = true
  ·rw [if_pos e4] at h
   obtain rfl := Option.some.inj h
   simp (maxDischargeDepth := 9) only [↓xpre, xpost, xlst, xc2, xcore, yset, rg0, ↓reduceIte, Nat.reduceEqDiff, Nat.reduceLT, Nat.reduceLeDiff, Nat.reduceAdd, Nat.reduceMul, Nat.reduceMod, Nat.reduceSub, Nat.reduceBEq, Int.reduceLE, Int.reduceLT, Int.reduceEq, Int.reduceSub, Int.reduceAdd, Int.reduceToNat, Int.reduceNeg, m0, m1, m2, m3, m4, e1, e2.1, e2.2, c3, e4, s_l1All_l0_M, s_l1All_l0_X, sxN, sxE, sxR] <;> (repeat' apply And.intro) <;> first | rfl | exact ⟨_, rfl⟩ | simp [lst, cat2_nil]
  ·rw [if_neg e4] at h
   have e4f : (inR (l.getD t11_.toNat default) lo hi) = false := Bool.eq_false_iff.mpr e4
   obtain rfl := Option.some.inj h
   simp (maxDischargeDepth := 9) only [↓xpre, xpost, xlst, xc2, xcore, yset, rg0, ↓reduceIte, Nat.reduceEqDiff, Nat.reduceLT, Nat.reduceLeDiff, Nat.reduceAdd, Nat.reduceMul, Nat.reduceMod, Nat.reduceSub, Nat.reduceBEq, Int.reduceLE, Int.reduceLT, Int.reduceEq, Int.reduceSub, Int.reduceAdd, Int.reduceToNat, Int.reduceNeg, m0, m1, m2, m3, m4, e1, e2.1, e2.2, c3, e4f, s_l1All_l0_M, s_l1All_l0_X, sxN, sxE, sxR] <;> (repeat' apply And.intro) <;> first | rfl | exact ⟨_, rfl⟩ | simp [lst, cat2_nil]
 ·rw [if_neg e1] at h
  obtain rfl := Option.some.inj h
  simp (maxDischargeDepth := 9) only [↓xpre, xpost, xlst, xc2, xcore, yset, rg0, ↓reduceIte, Nat.reduceEqDiff, Nat.reduceLT, Nat.reduceLeDiff, Nat.reduceAdd, Nat.reduceMul, Nat.reduceMod, Nat.reduceSub, Nat.reduceBEq, Int.reduceLE, Int.reduceLT, Int.reduceEq, Int.reduceSub, Int.reduceAdd, Int.reduceToNat, Int.reduceNeg, m0, m1, m2, m3, m4, e1, s_l1All_l0_M, s_l1All_l0_X, sxN, sxE, sxR] <;> (repeat' apply And.intro) <;> first | rfl | exact ⟨_, rfl⟩ | simp [lst, cat2_nil]
theorem s_l1All_call (l : List Int) (lo : Int) (hi : Int) {r : Bool} (h : s_l1All l lo hi = some r) : Y.call 75 [D.sl 3 (lst (D.int .i64) l), D.int .i64 lo, D.int .i64 hi] [] = some (D.bool r, []) := by
 refine c75 ?_ rfl
 unfold k75
 unfold s_l1All at h
 obtain ⟨r2_, hl2, h⟩ := bindS h
 try dsimp only at h
 simp (maxDischargeDepth := 9) only [↓xpre, xpost, xlst, xc2, xcore, yset, rg0, ↓reduceIte, Nat.reduceEqDiff, Nat.reduceLT, Nat.reduceLeDiff, Nat.reduceAdd, Nat.reduceMul, Nat.reduceMod, Nat.reduceSub, Nat.reduceBEq, Int.reduceLE, Int.reduceLT, Int.reduceEq, Int.reduceSub, Int.reduceAdd, Int.reduceToNat, Int.reduceNeg]
 refine wd_mono (s_l1All_l0_wp l lo hi hl2 ?_) ?_
 ·simp (maxDischargeDepth := 9) only [↓xpre, xpost, xlst, xc2, xcore, yset, rg0, ↓reduceIte, Nat.reduceEqDiff, Nat.reduceLT, Nat.reduceLeDiff, Nat.reduceAdd, Nat.reduceMul, Nat.reduceMod, Nat.reduceSub, Nat.reduceBEq, Int.reduceLE, Int.reduceLT, Int.reduceEq, Int.reduceSub, Int.reduceAdd, Int.reduceToNat, Int.reduceNeg, s_l1All_l0_M] <;> (repeat' apply And.intro) <;> first | rfl | exact ⟨_, rfl⟩ | simp [lst, cat2_nil]
 ·intro ex2 s2 hX2
  rcases r2_ with q2_ | q2_
  ·unfold s_l1All_l0_X at hX2
   dsimp only at hX2 h
   obtain ⟨rfl, n2_0⟩ := hX2
   obtain rfl := Option.some.inj h
   simp (maxDischargeDepth := 9) only [↓xpre, xpost, xlst, xc2, xcore, yset, rg0, ↓reduceIte, Nat.reduceEqDiff, Nat.reduceLT, Nat.reduceLeDiff, Nat.reduceAdd, Nat.reduceMul, Nat.reduceMod, Nat.reduceSub, Nat.reduceBEq, Int.reduceLE, Int.reduceLT, Int.reduceEq, Int.reduceSub, Int.reduceAdd, Int.reduceToNat, Int.reduceNeg, n2_0] <;> (repeat' apply And.intro) <;> first | rfl | exact ⟨_, rfl⟩ | simp [lst, cat2_nil]
  ·unfold s_l1All_l0_X at hX2
   dsimp only at hX2 h
   obtain rfl := hX2
   obtain rfl := Option.some.inj h
   simp (maxDischargeDepth := 9) only [↓xpre, xpost, xlst, xc2, xcore, yset, rg0, ↓reduceIte, Nat.reduceEqDiff, Nat.reduceLT, Nat.reduceLeDiff, Nat.reduceAdd, Nat.reduceMul, Nat.reduceMod, Nat.reduceSub, Nat.reduceBEq, Int.reduceLE, Int.reduceLT, Int.reduceEq, Int.reduceSub, Int.reduceAdd, Int.reduceToNat, Int.reduceNeg] <;> (repeat' apply And.intro) <;> first | rfl | exact ⟨_, rfl⟩ | simp [lst, cat2_nil]

def allIn (l : List Int) (lo hi : Int) : Bool := l.all fun x => inR x lo hi
theorem s_l1All_eq (l : List Int) (lo hi : Int) (h : l.length < 1099511627776) : s_l1All l lo hi = some (allIn l lo hi) := by
 unfold s_l1All s_l1All_l0
 have key := itO_all (fun v => s_l1All_l0_S l lo hi v) (fun i => (i : Int)) l.length (fun i => inR (l.getD i default) lo hi) (.inl ()) (.inr ()) ?_ ?_
 ·simp only [Int.natCast_zero] at key
  rw [key, all_getD (fun x => inR x lo hi)]
  unfold allIn
  cases l.all (fun x => inR x lo hi) <;> rfl
 ·intro i hi
  simp only [s_l1All_l0_S]
  rw [if_pos (lt_nat hi), ckT (ix_nat hi), Int.toNat_natCast, wrS i (by omega)]
 ·simp only [s_l1All_l0_S]; rw [if_neg (not_lt_nat _)]
theorem s_l1All_cl (l : List Int) (lo : Int) (hi : Int) (h0 : l.length < 1099511627776) : Y.call 75 [D.sl 3 (lst (D.int .i64) l), D.int .i64 lo, D.int .i64 hi] [] = some (D.bool (allIn l lo hi), []) := s_l1All_call l lo hi (s_l1All_eq l lo hi h0)
noncomputable def g_slices_IndexFunc_Sint_int_l0_S (s_ : List Int) (f : Int → Option Bool) (t8_ : Int) : Option ((Int) ⊕ (Int ⊕ Unit)) :=
 if t8_ < (s_.length : Int) then
  ck (0 ≤ t8_ ∧ t8_.toNat < s_.length) <|
  (f (s_.getD t8_.toNat default)).bind fun r3_ =>
  if r3_ = true then
   some (Sum.inr (Sum.inl t8_))
  else
   some (Sum.inl (IntKind.i64.wrap (t8_ + 1)))
 else
  some (Sum.inr (Sum.inr ()))
noncomputable def g_slices_IndexFunc_Sint_int_l0 (s_ : List Int) (f : Int → Option Bool) (v : Int) : Option (Int ⊕ Unit) := itO (fun v => g_slices_IndexFunc_Sint_int_l0_S s_ f v) v
noncomputable def g_slices_IndexFunc_Sint_int (s_ : List Int) (f : Int → Option Bool) : Option (Int) :=
 (g_slices_IndexFunc_Sint_int_l0 s_ f 0).bind fun r2_ =>
 match r2_ with
 | .inl q2_ =>
  some q2_
 | .inr q2_ =>
  some (-1)
/-- slices.IndexFunc[[]int,int] -/
def k155_l0b : SC :=
 .seq
 (.ops [
 ⟨(some 9), (.binOp .lss 3 (.tmp 8) (.tmp 7) 3), 0, none⟩])
 (.seq
 (.cond (.tmp 9)
 .skip
 (.exit 0))
 (.seq
 (.block 1
 (.seq
 (.ops [
 ⟨(some 10), (.move (.tmp 8)), 3, none⟩,
 ⟨(some 5), (.assign (.tmp 10)), 3, none⟩])
 (.seq
 (.ops [
 ⟨(some 11), (.move (.tmp 1)), 79, none⟩,
 ⟨(some 12), (.move (.tmp 0)), 23, none⟩,
 ⟨(some 13), (.move (.tmp 5)), 3, none⟩,
 ⟨(some 14), (.indexAddr 23 (.tmp 12) (.tmp 13)), 0, none⟩,
 ⟨(some 15), (.load 3 (.tmp 14)), 3, none⟩,
 ⟨(some 16), (.call ⟨(.value (.tmp 11)), #[(.tmp 15)], #[3]⟩), 4, none⟩])
 (.cond (.tmp 16)
 (.seq
 (.ops [
 ⟨(some 17), (.move (.tmp 5)), 3, none⟩,
 ⟨(some 4), (.assign (.tmp 17)), 3, none⟩])
 .ret)
 .skip))))
 (.ops [
 ⟨(some 18), (.binOp .add 3 (.tmp 8) (.const (.int .i64 1)) 3), 3, none⟩,
 ⟨(some 8), (.move (.tmp 18)), 3, none⟩])))
def k155_l0 : SC := .loop k155_l0b
def k155 : SC :=
 .seq
 (.ops [
 ⟨(some 4), (.assign (.const (.int .i64 0))), 3, none⟩])
 (.seq
 (.seq
 (.ops [
 ⟨(some 6), (.move (.tmp 0)), 23, none⟩,
 ⟨(some 7), (.call ⟨(.builtin .len), #[(.tmp 6)], #[23]⟩), 3, none⟩,
 ⟨(some 8), (.move (.const (.int .i64 0))), 3, none⟩])
 (.block 0
 k155_l0))
 (.seq
 (.ops [
 ⟨(some 4), (.assign (.const (.int .i64 (-1)))), 3, none⟩])
 .ret))
theorem slim155 : Try.f155.body.map (slim lends) = some k155 := by kernel_rfl
theorem ok155 : fnOk Try.f155 2 = true := by kernel_rfl
theorem c155 {a l : List D} {r : D × List D} (h : wpD Y.env k155 (fin tys l.length [ResultVar.tmp 4] r) (entry a l)) (ha : a.length = 2) : Y.call 155 a l = some r :=
 call_slim (Y := Y) rfl Try.func155 (ha ▸ ok155) slim155 h
def g_slices_IndexFunc_Sint_int_l0_M (s_ : List Int) (f : Int → Option Bool) (f_f : FuncId) (f_c : List D) (t8_ : Int) (s : St) : Prop := s.v 0 = D.sl 3 (lst (D.int .i64) s_) ∧ s.v 1 = D.clo f_f f_c ∧ s.v 7 = D.int .i64 (s_.length : Int) ∧ s.v 8 = D.int .i64 t8_
def g_slices_IndexFunc_Sint_int_l0_X (s_ : List Int) (f : Int → Option Bool) (f_f : FuncId) (f_c : List D) (r : Int ⊕ Unit) (ex : Ex) (s : St) : Prop := match r with
 | .inl q => ex = .ret ∧ s.v 4 = D.int .i64 q
 | .inr q => ex = .exit 0
theorem g_slices_IndexFunc_Sint_int_l0_wp (s_ : List Int) (f : Int → Option Bool) (f_f : FuncId) (f_c : List D) (f_h : ∀ (a0 : Int) (r : Bool), f a0 = some r → Y.call f_f (D.int .i64 a0 :: f_c) [] = some (D.bool r, [])) (f_l : lends f_f = false) {v : Int} {s : St} {r : Int ⊕ Unit} (h : g_slices_IndexFunc_Sint_int_l0 s_ f v = some r) (hM : g_slices_IndexFunc_Sint_int_l0_M s_ f f_f f_c v s) : wpD Y.env k155_l0 (g_slices_IndexFunc_Sint_int_l0_X s_ f f_f f_c r) s := by
 unfold g_slices_IndexFunc_Sint_int_l0 at h
 refine wd_itO (c := k155_l0b) (fun v => g_slices_IndexFunc_Sint_int_l0_S s_ f v) (fun v s => g_slices_IndexFunc_Sint_int_l0_M s_ f f_f f_c v s) (g_slices_IndexFunc_Sint_int_l0_X s_ f f_f f_c) ?_ h hM
 clear h hM s v r
 intro t8_ s o hM h
 unfold g_slices_IndexFunc_Sint_int_l0_S at h
 unfold g_slices_IndexFunc_Sint_int_l0_M at hM
 obtain ⟨m0, m1, m2, m3⟩ := hM
 unfold k155_l0b
 by_cases e1 : t8_ < (s_.length : Int)
 ·rw [if_pos e1] at h
  obtain ⟨e2, h⟩ := ckS h
  obtain ⟨r3_, hl3, h⟩ := bindS h
  try dsimp only at h
  have c3 := f_h _ _ hl3
  by_cases e4 : r3_ = true
  ·rw [if_pos e4] at h
   obtain rfl := Option.some.inj h
   simp (maxDischargeDepth := 9) only [↓xpre, xpost, xlst, xc2, xcore, yset, rg0, ↓reduceIte, Nat.reduceEqDiff, Nat.reduceLT, Nat.reduceLeDiff, Nat.reduceAdd, Nat.reduceMul, Nat.reduceMod, Nat.reduceSub, Nat.reduceBEq, Int.reduceLE, Int.reduceLT, Int.reduceEq, Int.reduceSub, Int.reduceAdd, Int.reduceToNat, Int.reduceNeg, m0, m1, m2, m3, f_l, e1, e2.1, e2.2, c3, e4, g_slices_IndexFunc_Sint_int_l0_M, g_slices_IndexFunc_Sint_int_l0_X, sxN, sxE, sxR] <;> (repeat' apply And.intro) <;> first | rfl | exact ⟨_, rfl⟩ | simp [lst, cat2_nil]
  ·rw [if_neg e4] at h
   have e4f : r3_ = false := Bool.eq_false_iff.mpr e4
   obtain rfl := Option.some.inj h
   simp (maxDischargeDepth := 9) only [↓xpre, xpost, xlst, xc2, xcore, yset, rg0, ↓reduceIte, Nat.reduceEqDiff, Nat.reduceLT, Nat.reduceLeDiff, Nat.reduceAdd, Nat.reduceMul, Nat.reduceMod, Nat.reduceSub, Nat.reduceBEq, Int.reduceLE, Int.reduceLT, Int.reduceEq, Int.reduceSub, Int.reduceAdd, Int.reduceToNat, Int.reduceNeg, m0, m1, m2, m3, f_l, e1, e2.1, e2.2, c3, e4f, g_slices_IndexFunc_Sint_int_l0_M, g_slices_IndexFunc_Sint_int_l0_X, sxN, sxE, sxR] <;> (repeat' apply And.intro) <;> first | rfl | exact ⟨_, rfl⟩ | simp [lst, cat2_nil]
 ·rw [if_neg e1] at h
  obtain rfl := Option.some.inj h
  simp (maxDischargeDepth := 9) only [↓xpre, xpost, xlst, xc2, xcore, yset, rg0, ↓reduceIte, Nat.reduceEqDiff, Nat.reduceLT, Nat.reduceLeDiff, Nat.reduceAdd, Nat.reduceMul, Nat.reduceMod, Nat.reduceSub, Nat.reduceBEq, Int.reduceLE, Int.reduceLT, Int.reduceEq, Int.reduceSub, Int.reduceAdd, Int.reduceToNat, Int.reduceNeg, m0, m1, m2, m3, f_l, e1, g_slices_IndexFunc_Sint_int_l0_M, g_slices_IndexFunc_Sint_int_l0_X, sxN, sxE, sxR] <;> (repeat' apply And.intro) <;> first | rfl | exact ⟨_, rfl⟩ | simp [lst, cat2_nil]
theorem g_slices_IndexFunc_Sint_int_call (s_ : List Int) (f : Int → Option Bool) (f_f : FuncId) (f_c : List D) (f_h : ∀ (a0 : Int) (r : Bool), f a0 = some r → Y.call f_f (D.int .i64 a0 :: f_c) [] = some (D.bool r, [])) (f_l : lends f_f = false) {r : Int} (h : g_slices_IndexFunc_Sint_int s_ f = some r) : Y.call 155 [D.sl 3 (lst (D.int .i64) s_), D.clo f_f f_c] [] = some (D.int .i64 r, []) := by
 refine c155 ?_ rfl
 unfold k155
 unfold g_slices_IndexFunc_Sint_int at h
 obtain ⟨r2_, hl2, h⟩ := bindS h
 try dsimp only at h
 simp (maxDischargeDepth := 9) only [↓xpre, xpost, xlst, xc2, xcore, yset, rg0, ↓reduceIte, Nat.reduceEqDiff, Nat.reduceLT, Nat.reduceLeDiff, Nat.reduceAdd, Nat.reduceMul, Nat.reduceMod, Nat.reduceSub, Nat.reduceBEq, Int.reduceLE, Int.reduceLT, Int.reduceEq, Int.reduceSub, Int.reduceAdd, Int.reduceToNat, Int.reduceNeg, f_l]
 refine wd_mono (g_slices_IndexFunc_Sint_int_l0_wp s_ f f_f f_c f_h f_l hl2 ?_) ?_
 ·simp (maxDischargeDepth := 9) only [↓xpre, xpost, xlst, xc2, xcore, yset, rg0, ↓reduceIte, Nat.reduceEqDiff, Nat.reduceLT, Nat.reduceLeDiff, Nat.reduceAdd, Nat.reduceMul, Nat.reduceMod, Nat.reduceSub, Nat.reduceBEq, Int.reduceLE, Int.reduceLT, Int.reduceEq, Int.reduceSub, Int.reduceAdd, Int.reduceToNat, Int.reduceNeg, f_l, g_slices_IndexFunc_Sint_int_l0_M] <;> (repeat' apply And.intro) <;> first | rfl | exact ⟨_, rfl⟩ | simp [lst, cat2_nil]
 ·intro ex2 s2 hX2
  rcases r2_ with q2_ | q2_
  ·unfold g_slices_IndexFunc_Sint_int_l0_X at hX2
   dsimp only at hX2 h
   obtain ⟨rfl, n2_0⟩ := hX2
   obtain rfl := Option.some.inj h
   simp (maxDischargeDepth := 9) only [↓xpre, xpost, xlst, xc2, xcore, yset, rg0, ↓reduceIte, Nat.reduceEqDiff, Nat.reduceLT, Nat.reduceLeDiff, Nat.reduceAdd, Nat.reduceMul, Nat.reduceMod, Nat.reduceSub, Nat.reduceBEq, Int.reduceLE, Int.reduceLT, Int.reduceEq, Int.reduceSub, Int.reduceAdd, Int.reduceToNat, Int.reduceNeg, f_l, n2_0] <;> (repeat' apply And.intro) <;> first | rfl | exact ⟨_, rfl⟩ | simp [lst, cat2_nil]
  ·unfold g_slices_IndexFunc_Sint_int_l0_X at hX2
   dsimp only at hX2 h
   obtain rfl := hX2
   obtain rfl := Option.some.inj h
   simp (maxDischargeDepth := 9) only [↓xpre, xpost, xlst, xc2, xcore, yset, rg0, ↓reduceIte, Nat.reduceEqDiff, Nat.reduceLT, Nat.reduceLeDiff, Nat.reduceAdd, Nat.reduceMul, Nat.reduceMod, Nat.reduceSub, Nat.reduceBEq, Int.reduceLE, Int.reduceLT, Int.reduceEq, Int.reduceSub, Int.reduceAdd, Int.reduceToNat, Int.reduceNeg, f_l] <;> (repeat' apply And.intro) <;> first | rfl | exact ⟨_, rfl⟩ | simp [lst, cat2_nil]

noncomputable def g_slices_ContainsFunc_Sint_int (s_ : List Int) (f : Int → Option Bool) : Option (Bool) :=
 (g_slices_IndexFunc_Sint_int s_ f).bind fun r1_ =>
 some (decide (0 ≤ r1_))
/-- slices.ContainsFunc[[]int,int] -/
def k125 : SC :=
 .seq
 (.ops [
 ⟨(some 4), (.assign (.const (.bool false))), 4, none⟩])
 (.seq
 (.ops [
 ⟨(some 5), (.move (.tmp 0)), 23, none⟩,
 ⟨(some 6), (.move (.tmp 1)), 79, none⟩,
 ⟨(some 7), (.call ⟨(.value (.func 155)), #[(.tmp 5), (.tmp 6)], #[23, 79]⟩), 3, none⟩,
 ⟨(some 8), (.binOp .geq 3 (.tmp 7) (.const (.int .i64 0)) 3), 4, none⟩,
 ⟨(some 4), (.assign (.tmp 8)), 4, none⟩])
 .ret)
theorem slim125 : Try.f125.body.map (slim lends) = some k125 := by kernel_rfl
theorem ok125 : fnOk Try.f125 2 = true := by kernel_rfl
theorem c125 {a l : List D} {r : D × List D} (h : wpD Y.env k125 (fin tys l.length [ResultVar.tmp 4] r) (entry a l)) (ha : a.length = 2) : Y.call 125 a l = some r :=
 call_slim (Y := Y) rfl Try.func125 (ha ▸ ok125) slim125 h
theorem g_slices_ContainsFunc_Sint_int_call (s_ : List Int) (f : Int → Option Bool) (f_f : FuncId) (f_c : List D) (f_h : ∀ (a0 : Int) (r : Bool), f a0 = some r → Y.call f_f (D.int .i64 a0 :: f_c) [] = some (D.bool r, [])) (f_l : lends f_f = false) {r : Bool} (h : g_slices_ContainsFunc_Sint_int s_ f = some r) : Y.call 125 [D.sl 3 (lst (D.int .i64) s_), D.clo f_f f_c] [] = some (D.bool r, []) := by
 refine c125 ?_ rfl
 unfold k125
 unfold g_slices_ContainsFunc_Sint_int at h
 obtain ⟨r1_, hl1, h⟩ := bindS h
 try dsimp only at h
 have c1 := g_slices_IndexFunc_Sint_int_call s_ f f_f f_c f_h f_l hl1
 obtain rfl := Option.some.inj h
 simp (maxDischargeDepth := 9) only [↓xpre, xpost, xlst, xc2, xcore, yset, rg0, ↓reduceIte, Nat.reduceEqDiff, Nat.reduceLT, Nat.reduceLeDiff, Nat.reduceAdd, Nat.reduceMul, Nat.reduceMod, Nat.reduceSub, Nat.reduceBEq, Int.reduceLE, Int.reduceLT, Int.reduceEq, Int.reduceSub, Int.reduceAdd, Int.reduceToNat, Int.reduceNeg, f_l, c1] <;> (repeat' apply And.intro) <;> first | rfl | exact ⟨_, rfl⟩ | simp [lst, cat2_nil]

noncomputable def i_allWithin_1 (n_ : Int) (c0_ : Int) (c1_ : Int) : Option (Bool) :=
 some (!(inR n_ c0_ c1_))
/-- impl.allWithin$1 -/
def k126 : SC :=
 .seq
 (.ops [
 ⟨(some 4), (.assign (.const (.bool false))), 4, none⟩])
 (.seq
 (.ops [
 ⟨(some 5), (.move (.tmp 0)), 3, none⟩,
 ⟨(some 6), (.load 3 (.tmp 1)), 3, none⟩,
 ⟨(some 7), (.load 3 (.tmp 2)), 3, none⟩,
 ⟨(some 8), (.call ⟨(.value (.func 66)), #[(.tmp 5), (.tmp 6), (.tmp 7)], #[3, 3, 3]⟩), 4, none⟩,
 ⟨(some 9), (.unOp .not 4 (.tmp 8)), 4, none⟩,
 ⟨(some 4), (.assign (.tmp 9)), 4, none⟩])
 .ret)
theorem slim126 : Try.f126.body.map (slim lends) = some k126 := by kernel_rfl
theorem ok126 : fnOk Try.f126 3 = true := by kernel_rfl
theorem c126 {a l : List D} {r : D × List D} (h : wpD Y.env k126 (fin tys l.length [ResultVar.tmp 4] r) (entry a l)) (ha : a.length = 3) : Y.call 126 a l = some r :=
 call_slim (Y := Y) rfl Try.func126 (ha ▸ ok126) slim126 h
theorem i_allWithin_1_call (n_ : Int) (c0_ : Int) (c1_ : Int) {r : Bool} (h : i_allWithin_1 n_ c0_ c1_ = some r) : Y.call 126 [D.int .i64 n_, D.cptr [D.int .i64 c0_], D.cptr [D.int .i64 c1_]] [] = some (D.bool r, []) := by
 refine c126 ?_ rfl
 unfold k126
 unfold i_allWithin_1 at h
 have c1 := i_within_cl n_ c0_ c1_
 obtain rfl := Option.some.inj h
 simp (maxDischargeDepth := 9) only [↓xpre, xpost, xlst, xc2, xcore, yset, rg0, ↓reduceIte, Nat.reduceEqDiff, Nat.reduceLT, Nat.reduceLeDiff, Nat.reduceAdd, Nat.reduceMul, Nat.reduceMod, Nat.reduceSub, Nat.reduceBEq, Int.reduceLE, Int.reduceLT, Int.reduceEq, Int.reduceSub, Int.reduceAdd, Int.reduceToNat, Int.reduceNeg, c1] <;> (repeat' apply And.intro) <;> first | rfl | exact ⟨_, rfl⟩ | simp [lst, cat2_nil]

noncomputable def i_allWithin (list : List Int) (low : Int) (high : Int) : Option (Bool) :=
 (g_slices_ContainsFunc_Sint_int list (fun a0 => i_allWithin_1 a0 low high)).bind fun r1_ =>
 some (!r1_)
/-- impl.allWithin -/
def k95 : SC :=
 .seq
 (.ops [
 ⟨(some 4), (.box 3 (.tmp 1)), 0, none⟩,
 ⟨(some 5), (.box 3 (.tmp 2)), 0, none⟩,
 ⟨(some 6), (.assign (.const (.bool false))), 4, none⟩])
 (.seq
 (.ops [
 ⟨(some 7), (.move (.tmp 0)), 23, none⟩,
 ⟨(some 8), (.makeFunc (Fn.func 126) #[] #[(.tmp 4), (.tmp 5)]), 79, none⟩,
 ⟨(some 9), (.call ⟨(.value (.func 125)), #[(.tmp 7), (.tmp 8)], #[23, 79]⟩), 4, none⟩,
 ⟨(some 10), (.unOp .not 4 (.tmp 9)), 4, none⟩,
 ⟨(some 6), (.assign (.tmp 10)), 4, none⟩])
 .ret)
theorem slim95 : Try.f95.body.map (slim lends) = some k95 := by kernel_rfl
theorem ok95 : fnOk Try.f95 3 = true := by kernel_rfl
theorem c95 {a l : List D} {r : D × List D} (h : wpD Y.env k95 (fin tys l.length [ResultVar.tmp 6] r) (entry a l)) (ha : a.length = 3) : Y.call 95 a l = some r :=
 call_slim (Y := Y) rfl Try.func95 (ha ▸ ok95) slim95 h
theorem i_allWithin_call (list : List Int) (low : Int) (high : Int) {r : Bool} (h : i_allWithin list low high = some r) : Y.call 95 [D.sl 3 (lst (D.int .i64) list), D.int .i64 low, D.int .i64 high] [] = some (D.bool r, []) := by
 refine c95 ?_ rfl
 unfold k95
 unfold i_allWithin at h
 obtain ⟨r1_, hl1, h⟩ := bindS h
 try dsimp only at h
 have c1 := g_slices_ContainsFunc_Sint_int_call list (fun a0 => i_allWithin_1 a0 low high) 126 [D.cptr [D.int .i64 low], D.cptr [D.int .i64 high]] (fun a0 _ hh => i_allWithin_1_call a0 low high hh) le126 hl1
 obtain rfl := Option.some.inj h
 simp (maxDischargeDepth := 9) only [↓xpre, xpost, xlst, xc2, xcore, yset, rg0, ↓reduceIte, Nat.reduceEqDiff, Nat.reduceLT, Nat.reduceLeDiff, Nat.reduceAdd, Nat.reduceMul, Nat.reduceMod, Nat.reduceSub, Nat.reduceBEq, Int.reduceLE, Int.reduceLT, Int.reduceEq, Int.reduceSub, Int.reduceAdd, Int.reduceToNat, Int.reduceNeg, c1] <;> (repeat' apply And.intro) <;> first | rfl | exact ⟨_, rfl⟩ | simp [lst, cat2_nil]

theorem indexFunc_eq (l : List Int) (f : Int → Option Bool) (p : Int → Bool) (h : l.length < 1099511627776) (hf : ∀ x ∈ l, f x = some (p x)) :
  ∃ r, g_slices_IndexFunc_Sint_int l f = some r ∧ (0 ≤ r ↔ l.any p = true) := by
 unfold g_slices_IndexFunc_Sint_int g_slices_IndexFunc_Sint_int_l0
 by_cases ha : ∀ i, i < l.length → (!p (l.getD i default)) = true
 ·have key := itO_for (fun v => g_slices_IndexFunc_Sint_int_l0_S l f v) (fun i => (i : Int)) l.length (.inr ()) ?_ ?_
  ·simp only [Int.natCast_zero] at key
   rw [key]
   refine ⟨-1, rfl, by simp, fun hc => ?_⟩
   obtain ⟨x, hx, hpx⟩ := List.any_eq_true.1 hc
   obtain ⟨i, hi, rfl⟩ := List.getElem_of_mem hx
   have := ha i hi
   rw [getD_get _ _ hi, hpx] at this; cases this
  ·intro i hi
   simp only [g_slices_IndexFunc_Sint_int_l0_S]
   have e := ha i hi
   rw [getD_get _ _ hi] at e
   rw [if_pos (lt_nat hi), ckT (ix_nat hi), getD_nat _ _ hi, hf _ (List.getElem_mem hi), Option.bind_some, if_neg (by cases hp : p l[i] <;> simp_all), wrS i (by omega)]
  ·simp only [g_slices_IndexFunc_Sint_int_l0_S]; rw [if_neg (not_lt_nat _)]
 ·obtain ⟨m, h1, h2, h3⟩ := first_fail (P := fun i => !p (l.getD i default)) ha
  have key := itO_for (fun v => g_slices_IndexFunc_Sint_int_l0_S l f v) (fun i => (i : Int)) m (.inl (m : Int)) ?_ ?_
  ·simp only [Int.natCast_zero] at key
   rw [key]
   refine ⟨(m : Int), rfl, fun _ => ?_, fun _ => by omega⟩
   have h2' : p l[m] = true := by rw [getD_get _ _ h1] at h2; simpa using h2
   exact List.any_eq_true.2 ⟨_, List.getElem_mem h1, h2'⟩
  ·intro i hi
   simp only [g_slices_IndexFunc_Sint_int_l0_S]
   have e := h3 i hi
   rw [getD_get _ _ (by omega)] at e
   rw [if_pos (lt_nat (by omega)), ckT (ix_nat (by omega)), getD_nat _ _ (by omega), hf _ (List.getElem_mem _), Option.bind_some, if_neg (by cases hp : p l[i] <;> simp_all), wrS i (by omega)]
  ·simp only [g_slices_IndexFunc_Sint_int_l0_S]
   have h2' : p l[m] = true := by rw [getD_get _ _ h1] at h2; simpa using h2
   rw [if_pos (lt_nat h1), ckT (ix_nat h1), getD_nat _ _ h1, hf _ (List.getElem_mem _), Option.bind_some, if_pos h2']
theorem containsFunc_eq (l : List Int) (f : Int → Option Bool) (p : Int → Bool) (h : l.length < 1099511627776) (hf : ∀ x ∈ l, f x = some (p x)) : g_slices_ContainsFunc_Sint_int l f = some (l.any p) := by
 obtain ⟨r, h1, h2⟩ := indexFunc_eq l f p h hf
 unfold g_slices_ContainsFunc_Sint_int
 rw [h1, Option.bind_some]
 congr 1
 rw [Bool.eq_iff_iff]; simpa using h2
theorem i_allWithin_eq (l : List Int) (lo hi : Int) (h : l.length < 1099511627776) : i_allWithin l lo hi = some (allIn l lo hi) := by
 unfold i_allWithin
 rw [containsFunc_eq l (fun a0 => i_allWithin_1 a0 lo hi) (fun x => !inR x lo hi) h (fun x _ => rfl), Option.bind_some]
 unfold allIn
 rw [List.all_eq_not_any_not]
theorem i_allWithin_cl (list : List Int) (low : Int) (high : Int) (h0 : list.length < 1099511627776) : Y.call 95 [D.sl 3 (lst (D.int .i64) list), D.int .i64 low, D.int .i64 high] [] = some (D.bool (allIn list low high), []) := i_allWithin_call list low high (i_allWithin_eq list low high h0)
theorem Short.getD {l : List (List Int)} (h : Short l) (i : Nat) : (l.getD i default).length < 1099511627776 := by
 rcases Nat.lt_or_ge i l.length with hi | hi
 ·rw [getD_get _ _ hi]; exact h.at i hi
 ·rw [List.getD_eq_getElem?_getD, List.getElem?_eq_none hi]; decide
end Go.Proofs.Ytjkgcfdcfjkkbaa
