/- When lists are a problem, as plain functions. Conditions: the lists are short. -/
import Derived.Test.YtaogbcdlpgfplaaDoorL6
import Derived.Test.YtaogbcdlpgfplaaDoorPB
namespace Go.Proofs.YtaogbcdlpgfplaaDoor
open Go Dv
set_option linter.unusedSimpArgs false
set_option linter.unusedVariables false
set_option maxRecDepth 100000
set_option maxHeartbeats 4000000

def inR (n lo hi : Int) : Bool := decide (lo ≤ n ∧ n ≤ hi)
theorem inR_iff {n lo hi : Int} : inR n lo hi = true ↔ lo ≤ n ∧ n ≤ hi := by simp [inR]
noncomputable def i_within (n_ : Int) (low : Int) (high : Int) : Option (Bool) :=
 if low ≤ n_ then
  some (decide (n_ ≤ high))
 else
  some false
/-- impl.within -/
def k54 : SC :=
 .seq
 (.ops [
 ⟨(some 6), (.assign (.const (.bool false))), 4, none⟩])
 (.seq
 (.ops [
 ⟨(some 7), (.move (.tmp 1)), 3, none⟩,
 ⟨(some 8), (.move (.tmp 0)), 3, none⟩,
 ⟨(some 9), (.binOp .leq 3 (.tmp 7) (.tmp 8) 3), 4, none⟩,
 ⟨(some 10), (.move (.tmp 9)), 4, none⟩,
 ⟨(some 11), (.move (.tmp 0)), 3, (some (some 10, true))⟩,
 ⟨(some 12), (.move (.tmp 2)), 3, (some (some 10, true))⟩,
 ⟨(some 13), (.binOp .leq 3 (.tmp 11) (.tmp 12) 3), 4, (some (some 10, true))⟩,
 ⟨(some 14), (.pick (.tmp 10) (.tmp 13) (.const (.bool false))), 4, none⟩,
 ⟨(some 6), (.assign (.tmp 14)), 4, none⟩])
 .ret)
theorem slim54 : Tryd.f54.body.map (slim lends) = some k54 := by kernel_rfl
theorem ok54 : fnOk Tryd.f54 3 = true := by kernel_rfl
theorem c54 {a l : List D} {r : D × List D} (h : wpD Y.env k54 (fin tys l.length [ResultVar.tmp 6] r) (entry a l)) (ha : a.length = 3) : Y.call 54 a l = some r :=
 call_slim (Y := Y) rfl Tryd.func54 (ha ▸ ok54) slim54 h
theorem i_within_call (n_ : Int) (low : Int) (high : Int) {r : Bool} (h : i_within n_ low high = some r) : Y.call 54 [D.int .i64 n_, D.int .i64 low, D.int .i64 high] [] = some (D.bool r, []) := by
 refine c54 ?_ rfl
 unfold k54
 unfold i_within at h
 by_cases e1 : low ≤ n_
 ·rw [if_pos e1] at h
  obtain rfl := Option.some.inj h
  simp (maxDischargeDepth := 9) only [↓xpre, xpost, xlst, xc2, xcore, yset, rg0, ↓reduceIte, Nat.reduceEqDiff, Nat.reduceLT, Nat.reduceLeDiff, Nat.reduceAdd, Nat.reduceMul, Nat.reduceMod, Nat.reduceDiv, Nat.reducePow, Nat.reduceSub, Nat.reduceBEq, Int.reduceLE, Int.reduceLT, Int.reduceEq, Int.reduceSub, Int.reduceAdd, Int.reduceToNat, Int.reduceNeg, e1] <;> (repeat' apply And.intro) <;> first | rfl | exact ⟨_, rfl⟩ | exact ⟨_, _, rfl⟩ | simp [lst, cat2_nil]
 ·rw [if_neg e1] at h
  obtain rfl := Option.some.inj h
  simp (maxDischargeDepth := 9) only [↓xpre, xpost, xlst, xc2, xcore, yset, rg0, ↓reduceIte, Nat.reduceEqDiff, Nat.reduceLT, Nat.reduceLeDiff, Nat.reduceAdd, Nat.reduceMul, Nat.reduceMod, Nat.reduceDiv, Nat.reducePow, Nat.reduceSub, Nat.reduceBEq, Int.reduceLE, Int.reduceLT, Int.reduceEq, Int.reduceSub, Int.reduceAdd, Int.reduceToNat, Int.reduceNeg, e1] <;> (repeat' apply And.intro) <;> first | rfl | exact ⟨_, rfl⟩ | exact ⟨_, _, rfl⟩ | simp [lst, cat2_nil]

noncomputable def s_l1In (n_ : Int) (lo : Int) (hi : Int) : Option (Bool) :=
 if lo ≤ n_ then
  some (decide (n_ ≤ hi))
 else
  some false
/-- spec.l1In -/
def k51 : SC :=
 .seq
 (.ops [
 ⟨(some 6), (.assign (.const (.bool false))), 4, none⟩])
 (.seq
 (.ops [
 ⟨(some 7), (.move (.tmp 0)), 3, none⟩,
 ⟨(some 8), (.move (.tmp 1)), 3, none⟩,
 ⟨(some 9), (.binOp .geq 3 (.tmp 7) (.tmp 8) 3), 4, none⟩,
 ⟨(some 10), (.move (.tmp 9)), 4, none⟩,
 ⟨(some 11), (.move (.tmp 0)), 3, (some (some 10, true))⟩,
 ⟨(some 12), (.move (.tmp 2)), 3, (some (some 10, true))⟩,
 ⟨(some 13), (.binOp .leq 3 (.tmp 11) (.tmp 12) 3), 4, (some (some 10, true))⟩,
 ⟨(some 14), (.pick (.tmp 10) (.tmp 13) (.const (.bool false))), 4, none⟩,
 ⟨(some 6), (.assign (.tmp 14)), 4, none⟩])
 .ret)
theorem slim51 : Tryd.f51.body.map (slim lends) = some k51 := by kernel_rfl
theorem ok51 : fnOk Tryd.f51 3 = true := by kernel_rfl
theorem c51 {a l : List D} {r : D × List D} (h : wpD Y.env k51 (fin tys l.length [ResultVar.tmp 6] r) (entry a l)) (ha : a.length = 3) : Y.call 51 a l = some r :=
 call_slim (Y := Y) rfl Tryd.func51 (ha ▸ ok51) slim51 h
theorem s_l1In_call (n_ : Int) (lo : Int) (hi : Int) {r : Bool} (h : s_l1In n_ lo hi = some r) : Y.call 51 [D.int .i64 n_, D.int .i64 lo, D.int .i64 hi] [] = some (D.bool r, []) := by
 refine c51 ?_ rfl
 unfold k51
 unfold s_l1In at h
 by_cases e1 : lo ≤ n_
 ·rw [if_pos e1] at h
  obtain rfl := Option.some.inj h
  simp (maxDischargeDepth := 9) only [↓xpre, xpost, xlst, xc2, xcore, yset, rg0, ↓reduceIte, Nat.reduceEqDiff, Nat.reduceLT, Nat.reduceLeDiff, Nat.reduceAdd, Nat.reduceMul, Nat.reduceMod, Nat.reduceDiv, Nat.reducePow, Nat.reduceSub, Nat.reduceBEq, Int.reduceLE, Int.reduceLT, Int.reduceEq, Int.reduceSub, Int.reduceAdd, Int.reduceToNat, Int.reduceNeg, e1] <;> (repeat' apply And.intro) <;> first | rfl | exact ⟨_, rfl⟩ | exact ⟨_, _, rfl⟩ | simp [lst, cat2_nil]
 ·rw [if_neg e1] at h
  obtain rfl := Option.some.inj h
  simp (maxDischargeDepth := 9) only [↓xpre, xpost, xlst, xc2, xcore, yset, rg0, ↓reduceIte, Nat.reduceEqDiff, Nat.reduceLT, Nat.reduceLeDiff, Nat.reduceAdd, Nat.reduceMul, Nat.reduceMod, Nat.reduceDiv, Nat.reducePow, Nat.reduceSub, Nat.reduceBEq, Int.reduceLE, Int.reduceLT, Int.reduceEq, Int.reduceSub, Int.reduceAdd, Int.reduceToNat, Int.reduceNeg, e1] <;> (repeat' apply And.intro) <;> first | rfl | exact ⟨_, rfl⟩ | exact ⟨_, _, rfl⟩ | simp [lst, cat2_nil]

theorem i_within_eq (n lo hi : Int) : i_within n lo hi = some (inR n lo hi) := by unfold i_within inR; by_cases h1 : lo ≤ n <;> by_cases h2 : n ≤ hi <;> simp [h1, h2]
theorem s_l1In_eq (n lo hi : Int) : s_l1In n lo hi = some (inR n lo hi) := by unfold s_l1In inR; by_cases h1 : lo ≤ n <;> by_cases h2 : n ≤ hi <;> simp [h1, h2]
theorem i_within_cl (n_ : Int) (low : Int) (high : Int)  : Y.call 54 [D.int .i64 n_, D.int .i64 low, D.int .i64 high] [] = some (D.bool (inR n_ low high), []) := i_within_call n_ low high (i_within_eq n_ low high)
theorem s_l1In_cl (n_ : Int) (lo : Int) (hi : Int)  : Y.call 51 [D.int .i64 n_, D.int .i64 lo, D.int .i64 hi] [] = some (D.bool (inR n_ lo hi), []) := s_l1In_call n_ lo hi (s_l1In_eq n_ lo hi)
noncomputable def s_l1All_l0_S (l : List Int) (lo : Int) (hi : Int) (t11_ : Int) : Option ((Int) ⊕ (Unit ⊕ Unit)) :=
 if t11_ < (l.length : Int) then
  ck (0 ≤ t11_ ∧ t11_.toNat < l.length) <|
  if (inR (l.getD t11_.toNat default) lo hi) = true then
   some (Sum.inl (IntKind.i64.wrap (t11_ + 1)))
  else
   some (Sum.inr (Sum.inl ()))
 else
  some (Sum.inr (Sum.inr ()))
noncomputable def s_l1All_l0 (l : List Int) (lo : Int) (hi : Int) (v : Int) : Option (Unit ⊕ Unit) := itO (fun v => s_l1All_l0_S l lo hi v) v
noncomputable def s_l1All (l : List Int) (lo : Int) (hi : Int) : Option (Bool) :=
 (s_l1All_l0 l lo hi 0).bind fun r1000_ =>
 match r1000_ with
 | .inl q1000_ =>
  some false
 | .inr q1000_ =>
  some true
/-- spec.l1All -/
def k86_l0b : SC :=
 .seq
 (.ops [
 ⟨(some 12), (.binOp .lss 3 (.tmp 11) (.tmp 10) 3), 0, none⟩])
 (.seq
 (.cond (.tmp 12)
 .skip
 (.exit 0))
 (.seq
 (.block 1
 (.seq
 (.ops [
 ⟨(some 13), (.indexAddr 70 (.tmp 9) (.tmp 11)), 0, none⟩,
 ⟨(some 14), (.load 3 (.tmp 13)), 3, none⟩,
 ⟨(some 8), (.assign (.tmp 14)), 3, none⟩])
 (.seq
 (.ops [
 ⟨(some 15), (.move (.tmp 8)), 3, none⟩,
 ⟨(some 16), (.move (.tmp 1)), 3, none⟩,
 ⟨(some 17), (.move (.tmp 2)), 3, none⟩,
 ⟨(some 18), (.call ⟨(.value (.func 51)), #[(.tmp 15), (.tmp 16), (.tmp 17)], #[3, 3, 3]⟩), 4, none⟩,
 ⟨(some 19), (.unOp .not 4 (.tmp 18)), 4, none⟩])
 (.cond (.tmp 19)
 (.seq
 (.ops [
 ⟨(some 6), (.assign (.const (.bool false))), 4, none⟩])
 .ret)
 .skip))))
 (.ops [
 ⟨(some 20), (.binOp .add 3 (.tmp 11) (.const (.int .i64 1)) 3), 3, none⟩,
 ⟨(some 11), (.move (.tmp 20)), 3, none⟩])))
def k86_l0 : SC := .loop k86_l0b
def k86 : SC :=
 .seq
 (.ops [
 ⟨(some 6), (.assign (.const (.bool false))), 4, none⟩])
 (.seq
 (.seq
 (.ops [
 ⟨(some 9), (.move (.tmp 0)), 70, none⟩,
 ⟨(some 10), (.call ⟨(.builtin .len), #[(.tmp 9)], #[70]⟩), 3, none⟩,
 ⟨(some 11), (.move (.const (.int .i64 0))), 3, none⟩])
 (.block 0
 k86_l0))
 (.seq
 (.ops [
 ⟨(some 6), (.assign (.const (.bool true))), 4, none⟩])
 .ret))
theorem slim86 : Tryd.f86.body.map (slim lends) = some k86 := by kernel_rfl
theorem ok86 : fnOk Tryd.f86 3 = true := by kernel_rfl
theorem c86 {a l : List D} {r : D × List D} (h : wpD Y.env k86 (fin tys l.length [ResultVar.tmp 6] r) (entry a l)) (ha : a.length = 3) : Y.call 86 a l = some r :=
 call_slim (Y := Y) rfl Tryd.func86 (ha ▸ ok86) slim86 h
def s_l1All_l0_M (l : List Int) (lo : Int) (hi : Int) (t11_ : Int) (s : St) : Prop := s.v 1 = D.int .i64 lo ∧ s.v 2 = D.int .i64 hi ∧ s.v 9 = D.sl 3 (lst (D.int .i64) l) ∧ s.v 10 = D.int .i64 (l.length : Int) ∧ s.v 11 = D.int .i64 t11_
def s_l1All_l0_X (l : List Int) (lo : Int) (hi : Int) (r : Unit ⊕ Unit) (ex : Ex) (s : St) : Prop := match r with
 | .inl q => ex = .ret ∧ s.v 6 = D.bool false
 | .inr q => ex = .exit 0
theorem s_l1All_l0_wp (l : List Int) (lo : Int) (hi : Int) {v : Int} {s : St} {r : Unit ⊕ Unit} (h : s_l1All_l0 l lo hi v = some r) (hM : s_l1All_l0_M l lo hi v s) : wpD Y.env k86_l0 (s_l1All_l0_X l lo hi r) s := by
 unfold s_l1All_l0 at h
 refine wd_itO (c := k86_l0b) (fun v => s_l1All_l0_S l lo hi v) (fun v s => s_l1All_l0_M l lo hi v s) (s_l1All_l0_X l lo hi) ?_ h hM
 clear h hM s v r
 intro t11_ s o hM h
 unfold s_l1All_l0_S at h
 unfold s_l1All_l0_M at hM
 obtain ⟨m0, m1, m2, m3, m4⟩ := hM
 unfold k86_l0b
 by_cases e1 : t11_ < (l.length : Int)
 ·rw [if_pos e1] at h
  obtain ⟨e2, h⟩ := ckS h
  have c3 := s_l1In_cl (l.getD t11_.toNat default) lo hi
  by_cases e4 : (inR (l.getD t11_.toNat default) lo hi) = true
  ·rw [if_pos e4] at h
   obtain rfl := Option.some.inj h
   simp (maxDischargeDepth := 9) only [↓xpre, xpost, xlst, xc2, xcore, yset, rg0, ↓reduceIte, Nat.reduceEqDiff, Nat.reduceLT, Nat.reduceLeDiff, Nat.reduceAdd, Nat.reduceMul, Nat.reduceMod, Nat.reduceDiv, Nat.reducePow, Nat.reduceSub, Nat.reduceBEq, Int.reduceLE, Int.reduceLT, Int.reduceEq, Int.reduceSub, Int.reduceAdd, Int.reduceToNat, Int.reduceNeg, m0, m1, m2, m3, m4, e1, e2.1, e2.2, c3, e4, s_l1All_l0_M, s_l1All_l0_X, sxN, sxE, sxR] <;> (repeat' apply And.intro) <;> first | rfl | exact ⟨_, rfl⟩ | exact ⟨_, _, rfl⟩ | simp [lst, cat2_nil]
  ·rw [if_neg e4] at h
   have e4f : (inR (l.getD t11_.toNat default) lo hi) = false := Bool.eq_false_iff.mpr e4
   obtain rfl := Option.some.inj h
   simp (maxDischargeDepth := 9) only [↓xpre, xpost, xlst, xc2, xcore, yset, rg0, ↓reduceIte, Nat.reduceEqDiff, Nat.reduceLT, Nat.reduceLeDiff, Nat.reduceAdd, Nat.reduceMul, Nat.reduceMod, Nat.reduceDiv, Nat.reducePow, Nat.reduceSub, Nat.reduceBEq, Int.reduceLE, Int.reduceLT, Int.reduceEq, Int.reduceSub, Int.reduceAdd, Int.reduceToNat, Int.reduceNeg, m0, m1, m2, m3, m4, e1, e2.1, e2.2, c3, e4f, s_l1All_l0_M, s_l1All_l0_X, sxN, sxE, sxR] <;> (repeat' apply And.intro) <;> first | rfl | exact ⟨_, rfl⟩ | exact ⟨_, _, rfl⟩ | simp [lst, cat2_nil]
 ·rw [if_neg e1] at h
  obtain rfl := Option.some.inj h
  simp (maxDischargeDepth := 9) only [↓xpre, xpost, xlst, xc2, xcore, yset, rg0, ↓reduceIte, Nat.reduceEqDiff, Nat.reduceLT, Nat.reduceLeDiff, Nat.reduceAdd, Nat.reduceMul, Nat.reduceMod, Nat.reduceDiv, Nat.reducePow, Nat.reduceSub, Nat.reduceBEq, Int.reduceLE, Int.reduceLT, Int.reduceEq, Int.reduceSub, Int.reduceAdd, Int.reduceToNat, Int.reduceNeg, m0, m1, m2, m3, m4, e1, s_l1All_l0_M, s_l1All_l0_X, sxN, sxE, sxR] <;> (repeat' apply And.intro) <;> first | rfl | exact ⟨_, rfl⟩ | exact ⟨_, _, rfl⟩ | simp [lst, cat2_nil]
theorem s_l1All_call (l : List Int) (lo : Int) (hi : Int) {r : Bool} (h : s_l1All l lo hi = some r) : Y.call 86 [D.sl 3 (lst (D.int .i64) l), D.int .i64 lo, D.int .i64 hi] [] = some (D.bool r, []) := by
 refine c86 ?_ rfl
 unfold k86
 unfold s_l1All at h
 obtain ⟨r1000_, hl2, h⟩ := bindS h
 try dsimp only at h
 simp (maxDischargeDepth := 9) only [↓xpre, xpost, xlst, xc2, xcore, yset, rg0, ↓reduceIte, Nat.reduceEqDiff, Nat.reduceLT, Nat.reduceLeDiff, Nat.reduceAdd, Nat.reduceMul, Nat.reduceMod, Nat.reduceDiv, Nat.reducePow, Nat.reduceSub, Nat.reduceBEq, Int.reduceLE, Int.reduceLT, Int.reduceEq, Int.reduceSub, Int.reduceAdd, Int.reduceToNat, Int.reduceNeg]
 refine wd_mono (s_l1All_l0_wp l lo hi hl2 ?_) ?_
 ·simp (maxDischargeDepth := 9) only [↓xpre, xpost, xlst, xc2, xcore, yset, rg0, ↓reduceIte, Nat.reduceEqDiff, Nat.reduceLT, Nat.reduceLeDiff, Nat.reduceAdd, Nat.reduceMul, Nat.reduceMod, Nat.reduceDiv, Nat.reducePow, Nat.reduceSub, Nat.reduceBEq, Int.reduceLE, Int.reduceLT, Int.reduceEq, Int.reduceSub, Int.reduceAdd, Int.reduceToNat, Int.reduceNeg, s_l1All_l0_M] <;> (repeat' apply And.intro) <;> first | rfl | exact ⟨_, rfl⟩ | exact ⟨_, _, rfl⟩ | simp [lst, cat2_nil]
 ·intro ex2 s2 hX2
  rcases r1000_ with q1000_ | q1000_
  ·unfold s_l1All_l0_X at hX2
   dsimp only at hX2 h
   obtain ⟨rfl, n2_0⟩ := hX2
   obtain rfl := Option.some.inj h
   simp (maxDischargeDepth := 9) only [↓xpre, xpost, xlst, xc2, xcore, yset, rg0, ↓reduceIte, Nat.reduceEqDiff, Nat.reduceLT, Nat.reduceLeDiff, Nat.reduceAdd, Nat.reduceMul, Nat.reduceMod, Nat.reduceDiv, Nat.reducePow, Nat.reduceSub, Nat.reduceBEq, Int.reduceLE, Int.reduceLT, Int.reduceEq, Int.reduceSub, Int.reduceAdd, Int.reduceToNat, Int.reduceNeg, n2_0] <;> (repeat' apply And.intro) <;> first | rfl | exact ⟨_, rfl⟩ | exact ⟨_, _, rfl⟩ | simp [lst, cat2_nil]
  ·unfold s_l1All_l0_X at hX2
   dsimp only at hX2 h
   obtain rfl := hX2
   obtain rfl := Option.some.inj h
   simp (maxDischargeDepth := 9) only [↓xpre, xpost, xlst, xc2, xcore, yset, rg0, ↓reduceIte, Nat.reduceEqDiff, Nat.reduceLT, Nat.reduceLeDiff, Nat.reduceAdd, Nat.reduceMul, Nat.reduceMod, Nat.reduceDiv, Nat.reducePow, Nat.reduceSub, Nat.reduceBEq, Int.reduceLE, Int.reduceLT, Int.reduceEq, Int.reduceSub, Int.reduceAdd, Int.reduceToNat, Int.reduceNeg] <;> (repeat' apply And.intro) <;> first | rfl | exact ⟨_, rfl⟩ | exact ⟨_, _, rfl⟩ | simp [lst, cat2_nil]

def allIn (l : List Int) (lo hi : Int) : Bool := l.all fun x => inR x lo hi
theorem s_l1All_eq (l : List Int) (lo hi : Int) (h : l.length < 1099511627776) : s_l1All l lo hi = some (allIn l lo hi) := by
 unfold s_l1All s_l1All_l0
 have key := itO_all (fun v => s_l1All_l0_S l lo hi v) (fun i => (i : Int)) l.length (fun i => inR (l.getD i default) lo hi) (.inl ()) (.inr ()) ?_ ?_
 ·simp only [Int.natCast_zero] at key
  rw [key, all_getD (fun x => inR x lo hi)]
  unfold allIn
  cases l.all (fun x => inR x lo hi) <;> rfl
 ·intro i hi
  simp only [s_l1All_l0_S]
  rw [if_pos (lt_nat hi), ckT (ix_nat hi), Int.toNat_natCast, wrS i (by omega)]
 ·simp only [s_l1All_l0_S]; rw [if_neg (not_lt_nat _)]
theorem s_l1All_cl (l : List Int) (lo : Int) (hi : Int) (h0 : l.length < 1099511627776) : Y.call 86 [D.sl 3 (lst (D.int .i64) l), D.int .i64 lo, D.int .i64 hi] [] = some (D.bool (allIn l lo hi), []) := s_l1All_call l lo hi (s_l1All_eq l lo hi h0)
noncomputable def g_slices_IndexFunc_Sint_int_l0_S (s_ : List Int) (f : Int → Option Bool) (t8_ : Int) : Option ((Int) ⊕ (Int ⊕ Unit)) :=
 if t8_ < (s_.length : Int) then
  ck (0 ≤ t8_ ∧ t8_.toNat < s_.length) <|
  (f (s_.getD t8_.toNat default)).bind fun r16_ =>
  if r16_ = true then
   some (Sum.inr (Sum.inl t8_))
  else
   some (Sum.inl (IntKind.i64.wrap (t8_ + 1)))
 else
  some (Sum.inr (Sum.inr ()))
noncomputable def g_slices_IndexFunc_Sint_int_l0 (s_ : List Int) (f : Int → Option Bool) (v : Int) : Option (Int ⊕ Unit) := itO (fun v => g_slices_IndexFunc_Sint_int_l0_S s_ f v) v
noncomputable def g_slices_IndexFunc_Sint_int (s_ : List Int) (f : Int → Option Bool) : Option (Int) :=
 (g_slices_IndexFunc_Sint_int_l0 s_ f 0).bind fun r1000_ =>
 match r1000_ with
 | .inl q1000_ =>
  some q1000_
 | .inr q1000_ =>
  some (-1)
/-- slices.IndexFunc[[]int,int] -/
def k124_l0b : SC :=
 .seq
 (.ops [
 ⟨(some 9), (.binOp .lss 3 (.tmp 8) (.tmp 7) 3), 0, none⟩])
 (.seq
 (.cond (.tmp 9)
 .skip
 (.exit 0))
 (.seq
 (.block 1
 (.seq
 (.ops [
 ⟨(some 10), (.move (.tmp 8)), 3, none⟩,
 ⟨(some 5), (.assign (.tmp 10)), 3, none⟩])
 (.seq
 (.ops [
 ⟨(some 11), (.move (.tmp 1)), 129, none⟩,
 ⟨(some 12), (.move (.tmp 0)), 70, none⟩,
 ⟨(some 13), (.move (.tmp 5)), 3, none⟩,
 ⟨(some 14), (.indexAddr 70 (.tmp 12) (.tmp 13)), 0, none⟩,
 ⟨(some 15), (.load 3 (.tmp 14)), 3, none⟩,
 ⟨(some 16), (.call ⟨(.value (.tmp 11)), #[(.tmp 15)], #[3]⟩), 4, none⟩])
 (.cond (.tmp 16)
 (.seq
 (.ops [
 ⟨(some 17), (.move (.tmp 5)), 3, none⟩,
 ⟨(some 4), (.assign (.tmp 17)), 3, none⟩])
 .ret)
 .skip))))
 (.ops [
 ⟨(some 18), (.binOp .add 3 (.tmp 8) (.const (.int .i64 1)) 3), 3, none⟩,
 ⟨(some 8), (.move (.tmp 18)), 3, none⟩])))
def k124_l0 : SC := .loop k124_l0b
def k124 : SC :=
 .seq
 (.ops [
 ⟨(some 4), (.assign (.const (.int .i64 0))), 3, none⟩])
 (.seq
 (.seq
 (.ops [
 ⟨(some 6), (.move (.tmp 0)), 70, none⟩,
 ⟨(some 7), (.call ⟨(.builtin .len), #[(.tmp 6)], #[70]⟩), 3, none⟩,
 ⟨(some 8), (.move (.const (.int .i64 0))), 3, none⟩])
 (.block 0
 k124_l0))
 (.seq
 (.ops [
 ⟨(some 4), (.assign (.const (.int .i64 (-1)))), 3, none⟩])
 .ret))
theorem slim124 : Tryd.f124.body.map (slim lends) = some k124 := by kernel_rfl
theorem ok124 : fnOk Tryd.f124 2 = true := by kernel_rfl
theorem c124 {a l : List D} {r : D × List D} (h : wpD Y.env k124 (fin tys l.length [ResultVar.tmp 4] r) (entry a l)) (ha : a.length = 2) : Y.call 124 a l = some r :=
 call_slim (Y := Y) rfl Tryd.func124 (ha ▸ ok124) slim124 h
def g_slices_IndexFunc_Sint_int_l0_M (s_ : List Int) (f : Int → Option Bool) (f_f : FuncId) (f_c : List D) (t8_ : Int) (s : St) : Prop := s.v 0 = D.sl 3 (lst (D.int .i64) s_) ∧ s.v 1 = D.clo f_f f_c ∧ s.v 7 = D.int .i64 (s_.length : Int) ∧ s.v 8 = D.int .i64 t8_
def g_slices_IndexFunc_Sint_int_l0_X (s_ : List Int) (f : Int → Option Bool) (f_f : FuncId) (f_c : List D) (r : Int ⊕ Unit) (ex : Ex) (s : St) : Prop := match r with
 | .inl q => ex = .ret ∧ s.v 4 = D.int .i64 q
 | .inr q => ex = .exit 0
theorem g_slices_IndexFunc_Sint_int_l0_wp (s_ : List Int) (f : Int → Option Bool) (f_f : FuncId) (f_c : List D) (f_h : ∀ (a0 : Int) (r : Bool), f a0 = some r → Y.call f_f (D.int .i64 a0 :: f_c) [] = some (D.bool r, [])) (f_l : lends f_f = false) {v : Int} {s : St} {r : Int ⊕ Unit} (h : g_slices_IndexFunc_Sint_int_l0 s_ f v = some r) (hM : g_slices_IndexFunc_Sint_int_l0_M s_ f f_f f_c v s) : wpD Y.env k124_l0 (g_slices_IndexFunc_Sint_int_l0_X s_ f f_f f_c r) s := by
 unfold g_slices_IndexFunc_Sint_int_l0 at h
 refine wd_itO (c := k124_l0b) (fun v => g_slices_IndexFunc_Sint_int_l0_S s_ f v) (fun v s => g_slices_IndexFunc_Sint_int_l0_M s_ f f_f f_c v s) (g_slices_IndexFunc_Sint_int_l0_X s_ f f_f f_c) ?_ h hM
 clear h hM s v r
 intro t8_ s o hM h
 unfold g_slices_IndexFunc_Sint_int_l0_S at h
 unfold g_slices_IndexFunc_Sint_int_l0_M at hM
 obtain ⟨m0, m1, m2, m3⟩ := hM
 unfold k124_l0b
 by_cases e1 : t8_ < (s_.length : Int)
 ·rw [if_pos e1] at h
  obtain ⟨e2, h⟩ := ckS h
  obtain ⟨r16_, hl3, h⟩ := bindS h
  try dsimp only at h
  have c3 := f_h _ _ hl3
  by_cases e4 : r16_ = true
  ·rw [if_pos e4] at h
   obtain rfl := Option.some.inj h
   simp (maxDischargeDepth := 9) only [↓xpre, xpost, xlst, xc2, xcore, yset, rg0, ↓reduceIte, Nat.reduceEqDiff, Nat.reduceLT, Nat.reduceLeDiff, Nat.reduceAdd, Nat.reduceMul, Nat.reduceMod, Nat.reduceDiv, Nat.reducePow, Nat.reduceSub, Nat.reduceBEq, Int.reduceLE, Int.reduceLT, Int.reduceEq, Int.reduceSub, Int.reduceAdd, Int.reduceToNat, Int.reduceNeg, m0, m1, m2, m3, f_l, e1, e2.1, e2.2, c3, e4, g_slices_IndexFunc_Sint_int_l0_M, g_slices_IndexFunc_Sint_int_l0_X, sxN, sxE, sxR] <;> (repeat' apply And.intro) <;> first | rfl | exact ⟨_, rfl⟩ | exact ⟨_, _, rfl⟩ | simp [lst, cat2_nil]
  ·rw [if_neg e4] at h
   have e4f : r16_ = false := Bool.eq_false_iff.mpr e4
   obtain rfl := Option.some.inj h
   simp (maxDischargeDepth := 9) only [↓xpre, xpost, xlst, xc2, xcore, yset, rg0, ↓reduceIte, Nat.reduceEqDiff, Nat.reduceLT, Nat.reduceLeDiff, Nat.reduceAdd, Nat.reduceMul, Nat.reduceMod, Nat.reduceDiv, Nat.reducePow, Nat.reduceSub, Nat.reduceBEq, Int.reduceLE, Int.reduceLT, Int.reduceEq, Int.reduceSub, Int.reduceAdd, Int.reduceToNat, Int.reduceNeg, m0, m1, m2, m3, f_l, e1, e2.1, e2.2, c3, e4f, g_slices_IndexFunc_Sint_int_l0_M, g_slices_IndexFunc_Sint_int_l0_X, sxN, sxE, sxR] <;> (repeat' apply And.intro) <;> first | rfl | exact ⟨_, rfl⟩ | exact ⟨_, _, rfl⟩ | simp [lst, cat2_nil]
 ·rw [if_neg e1] at h
  obtain rfl := Option.some.inj h
  simp (maxDischargeDepth := 9) only [↓xpre, xpost, xlst, xc2, xcore, yset, rg0, ↓reduceIte, Nat.reduceEqDiff, Nat.reduceLT, Nat.reduceLeDiff, Nat.reduceAdd, Nat.reduceMul, Nat.reduceMod, Nat.reduceDiv, Nat.reducePow, Nat.reduceSub, Nat.reduceBEq, Int.reduceLE, Int.reduceLT, Int.reduceEq, Int.reduceSub, Int.reduceAdd, Int.reduceToNat, Int.reduceNeg, m0, m1, m2, m3, f_l, e1, g_slices_IndexFunc_Sint_int_l0_M, g_slices_IndexFunc_Sint_int_l0_X, sxN, sxE, sxR] <;> (repeat' apply And.intro) <;> first | rfl | exact ⟨_, rfl⟩ | exact ⟨_, _, rfl⟩ | simp [lst, cat2_nil]
theorem g_slices_IndexFunc_Sint_int_call (s_ : List Int) (f : Int → Option Bool) (f_f : FuncId) (f_c : List D) (f_h : ∀ (a0 : Int) (r : Bool), f a0 = some r → Y.call f_f (D.int .i64 a0 :: f_c) [] = some (D.bool r, [])) (f_l : lends f_f = false) {r : Int} (h : g_slices_IndexFunc_Sint_int s_ f = some r) : Y.call 124 [D.sl 3 (lst (D.int .i64) s_), D.clo f_f f_c] [] = some (D.int .i64 r, []) := by
 refine c124 ?_ rfl
 unfold k124
 unfold g_slices_IndexFunc_Sint_int at h
 obtain ⟨r1000_, hl2, h⟩ := bindS h
 try dsimp only at h
 simp (maxDischargeDepth := 9) only [↓xpre, xpost, xlst, xc2, xcore, yset, rg0, ↓reduceIte, Nat.reduceEqDiff, Nat.reduceLT, Nat.reduceLeDiff, Nat.reduceAdd, Nat.reduceMul, Nat.reduceMod, Nat.reduceDiv, Nat.reducePow, Nat.reduceSub, Nat.reduceBEq, Int.reduceLE, Int.reduceLT, Int.reduceEq, Int.reduceSub, Int.reduceAdd, Int.reduceToNat, Int.reduceNeg, f_l]
 refine wd_mono (g_slices_IndexFunc_Sint_int_l0_wp s_ f f_f f_c f_h f_l hl2 ?_) ?_
 ·simp (maxDischargeDepth := 9) only [↓xpre, xpost, xlst, xc2, xcore, yset, rg0, ↓reduceIte, Nat.reduceEqDiff, Nat.reduceLT, Nat.reduceLeDiff, Nat.reduceAdd, Nat.reduceMul, Nat.reduceMod, Nat.reduceDiv, Nat.reducePow, Nat.reduceSub, Nat.reduceBEq, Int.reduceLE, Int.reduceLT, Int.reduceEq, Int.reduceSub, Int.reduceAdd, Int.reduceToNat, Int.reduceNeg, f_l, g_slices_IndexFunc_Sint_int_l0_M] <;> (repeat' apply And.intro) <;> first | rfl | exact ⟨_, rfl⟩ | exact ⟨_, _, rfl⟩ | simp [lst, cat2_nil]
 ·intro ex2 s2 hX2
  rcases r1000_ with q1000_ | q1000_
  ·unfold g_slices_IndexFunc_Sint_int_l0_X at hX2
   dsimp only at hX2 h
   obtain ⟨rfl, n2_0⟩ := hX2
   obtain rfl := Option.some.inj h
   simp (maxDischargeDepth := 9) only [↓xpre, xpost, xlst, xc2, xcore, yset, rg0, ↓reduceIte, Nat.reduceEqDiff, Nat.reduceLT, Nat.reduceLeDiff, Nat.reduceAdd, Nat.reduceMul, Nat.reduceMod, Nat.reduceDiv, Nat.reducePow, Nat.reduceSub, Nat.reduceBEq, Int.reduceLE, Int.reduceLT, Int.reduceEq, Int.reduceSub, Int.reduceAdd, Int.reduceToNat, Int.reduceNeg, f_l, n2_0] <;> (repeat' apply And.intro) <;> first | rfl | exact ⟨_, rfl⟩ | exact ⟨_, _, rfl⟩ | simp [lst, cat2_nil]
  ·unfold g_slices_IndexFunc_Sint_int_l0_X at hX2
   dsimp only at hX2 h
   obtain rfl := hX2
   obtain rfl := Option.some.inj h
   simp (maxDischargeDepth := 9) only [↓xpre, xpost, xlst, xc2, xcore, yset, rg0, ↓reduceIte, Nat.reduceEqDiff, Nat.reduceLT, Nat.reduceLeDiff, Nat.reduceAdd, Nat.reduceMul, Nat.reduceMod, Nat.reduceDiv, Nat.reducePow, Nat.reduceSub, Nat.reduceBEq, Int.reduceLE, Int.reduceLT, Int.reduceEq, Int.reduceSub, Int.reduceAdd, Int.reduceToNat, Int.reduceNeg, f_l] <;> (repeat' apply And.intro) <;> first | rfl | exact ⟨_, rfl⟩ | exact ⟨_, _, rfl⟩ | simp [lst, cat2_nil]

noncomputable def g_slices_ContainsFunc_Sint_int (s_ : List Int) (f : Int → Option Bool) : Option (Bool) :=
 (g_slices_IndexFunc_Sint_int s_ f).bind fun r7_ =>
 some (decide (0 ≤ r7_))
/-- slices.ContainsFunc[[]int,int] -/
def k107 : SC :=
 .seq
 (.ops [
 ⟨(some 4), (.assign (.const (.bool false))), 4, none⟩])
 (.seq
 (.ops [
 ⟨(some 5), (.move (.tmp 0)), 70, none⟩,
 ⟨(some 6), (.move (.tmp 1)), 129, none⟩,
 ⟨(some 7), (.call ⟨(.value (.func 124)), #[(.tmp 5), (.tmp 6)], #[70, 129]⟩), 3, none⟩,
 ⟨(some 8), (.binOp .geq 3 (.tmp 7) (.const (.int .i64 0)) 3), 4, none⟩,
 ⟨(some 4), (.assign (.tmp 8)), 4, none⟩])
 .ret)
theorem slim107 : Tryd.f107.body.map (slim lends) = some k107 := by kernel_rfl
theorem ok107 : fnOk Tryd.f107 2 = true := by kernel_rfl
theorem c107 {a l : List D} {r : D × List D} (h : wpD Y.env k107 (fin tys l.length [ResultVar.tmp 4] r) (entry a l)) (ha : a.length = 2) : Y.call 107 a l = some r :=
 call_slim (Y := Y) rfl Tryd.func107 (ha ▸ ok107) slim107 h
theorem g_slices_ContainsFunc_Sint_int_call (s_ : List Int) (f : Int → Option Bool) (f_f : FuncId) (f_c : List D) (f_h : ∀ (a0 : Int) (r : Bool), f a0 = some r → Y.call f_f (D.int .i64 a0 :: f_c) [] = some (D.bool r, [])) (f_l : lends f_f = false) {r : Bool} (h : g_slices_ContainsFunc_Sint_int s_ f = some r) : Y.call 107 [D.sl 3 (lst (D.int .i64) s_), D.clo f_f f_c] [] = some (D.bool r, []) := by
 refine c107 ?_ rfl
 unfold k107
 unfold g_slices_ContainsFunc_Sint_int at h
 obtain ⟨r7_, hl1, h⟩ := bindS h
 try dsimp only at h
 have c1 := g_slices_IndexFunc_Sint_int_call s_ f f_f f_c f_h f_l hl1
 obtain rfl := Option.some.inj h
 simp (maxDischargeDepth := 9) only [↓xpre, xpost, xlst, xc2, xcore, yset, rg0, ↓reduceIte, Nat.reduceEqDiff, Nat.reduceLT, Nat.reduceLeDiff, Nat.reduceAdd, Nat.reduceMul, Nat.reduceMod, Nat.reduceDiv, Nat.reducePow, Nat.reduceSub, Nat.reduceBEq, Int.reduceLE, Int.reduceLT, Int.reduceEq, Int.reduceSub, Int.reduceAdd, Int.reduceToNat, Int.reduceNeg, f_l, c1] <;> (repeat' apply And.intro) <;> first | rfl | exact ⟨_, rfl⟩ | exact ⟨_, _, rfl⟩ | simp [lst, cat2_nil]

noncomputable def i_allWithin_1 (n_ : Int) (c0_ : Int) (c1_ : Int) : Option (Bool) :=
 some (!(inR n_ c0_ c1_))
/-- impl.allWithin$1 -/
def k108 : SC :=
 .seq
 (.ops [
 ⟨(some 4), (.assign (.const (.bool false))), 4, none⟩])
 (.seq
 (.ops [
 ⟨(some 5), (.move (.tmp 0)), 3, none⟩,
 ⟨(some 6), (.load 3 (.tmp 1)), 3, none⟩,
 ⟨(some 7), (.load 3 (.tmp 2)), 3, none⟩,
 ⟨(some 8), (.call ⟨(.value (.func 54)), #[(.tmp 5), (.tmp 6), (.tmp 7)], #[3, 3, 3]⟩), 4, none⟩,
 ⟨(some 9), (.unOp .not 4 (.tmp 8)), 4, none⟩,
 ⟨(some 4), (.assign (.tmp 9)), 4, none⟩])
 .ret)
theorem slim108 : Tryd.f108.body.map (slim lends) = some k108 := by kernel_rfl
theorem ok108 : fnOk Tryd.f108 3 = true := by kernel_rfl
theorem c108 {a l : List D} {r : D × List D} (h : wpD Y.env k108 (fin tys l.length [ResultVar.tmp 4] r) (entry a l)) (ha : a.length = 3) : Y.call 108 a l = some r :=
 call_slim (Y := Y) rfl Tryd.func108 (ha ▸ ok108) slim108 h
theorem i_allWithin_1_call (n_ : Int) (c0_ : Int) (c1_ : Int) {r : Bool} (h : i_allWithin_1 n_ c0_ c1_ = some r) : Y.call 108 [D.int .i64 n_, D.cptr [D.int .i64 c0_], D.cptr [D.int .i64 c1_]] [] = some (D.bool r, []) := by
 refine c108 ?_ rfl
 unfold k108
 unfold i_allWithin_1 at h
 have c1 := i_within_cl n_ c0_ c1_
 obtain rfl := Option.some.inj h
 simp (maxDischargeDepth := 9) only [↓xpre, xpost, xlst, xc2, xcore, yset, rg0, ↓reduceIte, Nat.reduceEqDiff, Nat.reduceLT, Nat.reduceLeDiff, Nat.reduceAdd, Nat.reduceMul, Nat.reduceMod, Nat.reduceDiv, Nat.reducePow, Nat.reduceSub, Nat.reduceBEq, Int.reduceLE, Int.reduceLT, Int.reduceEq, Int.reduceSub, Int.reduceAdd, Int.reduceToNat, Int.reduceNeg, c1] <;> (repeat' apply And.intro) <;> first | rfl | exact ⟨_, rfl⟩ | exact ⟨_, _, rfl⟩ | simp [lst, cat2_nil]

noncomputable def i_allWithin (list : List Int) (low : Int) (high : Int) : Option (Bool) :=
 (g_slices_ContainsFunc_Sint_int list (fun a0 => i_allWithin_1 a0 low high)).bind fun r9_ =>
 some (!r9_)
/-- impl.allWithin -/
def k89 : SC :=
 .seq
 (.ops [
 ⟨(some 4), (.box 3 (.tmp 1)), 0, none⟩,
 ⟨(some 5), (.box 3 (.tmp 2)), 0, none⟩,
 ⟨(some 6), (.assign (.const (.bool false))), 4, none⟩])
 (.seq
 (.ops [
 ⟨(some 7), (.move (.tmp 0)), 70, none⟩,
 ⟨(some 8), (.makeFunc (Fn.func 108) #[] #[(.tmp 4), (.tmp 5)]), 129, none⟩,
 ⟨(some 9), (.call ⟨(.value (.func 107)), #[(.tmp 7), (.tmp 8)], #[70, 129]⟩), 4, none⟩,
 ⟨(some 10), (.unOp .not 4 (.tmp 9)), 4, none⟩,
 ⟨(some 6), (.assign (.tmp 10)), 4, none⟩])
 .ret)
theorem slim89 : Tryd.f89.body.map (slim lends) = some k89 := by kernel_rfl
theorem ok89 : fnOk Tryd.f89 3 = true := by kernel_rfl
theorem c89 {a l : List D} {r : D × List D} (h : wpD Y.env k89 (fin tys l.length [ResultVar.tmp 6] r) (entry a l)) (ha : a.length = 3) : Y.call 89 a l = some r :=
 call_slim (Y := Y) rfl Tryd.func89 (ha ▸ ok89) slim89 h
theorem i_allWithin_call (list : List Int) (low : Int) (high : Int) {r : Bool} (h : i_allWithin list low high = some r) : Y.call 89 [D.sl 3 (lst (D.int .i64) list), D.int .i64 low, D.int .i64 high] [] = some (D.bool r, []) := by
 refine c89 ?_ rfl
 unfold k89
 unfold i_allWithin at h
 obtain ⟨r9_, hl1, h⟩ := bindS h
 try dsimp only at h
 have c1 := g_slices_ContainsFunc_Sint_int_call list (fun a0 => i_allWithin_1 a0 low high) 108 [D.cptr [D.int .i64 low], D.cptr [D.int .i64 high]] (fun a0 _ hh => i_allWithin_1_call a0 low high hh) le108 hl1
 obtain rfl := Option.some.inj h
 simp (maxDischargeDepth := 9) only [↓xpre, xpost, xlst, xc2, xcore, yset, rg0, ↓reduceIte, Nat.reduceEqDiff, Nat.reduceLT, Nat.reduceLeDiff, Nat.reduceAdd, Nat.reduceMul, Nat.reduceMod, Nat.reduceDiv, Nat.reducePow, Nat.reduceSub, Nat.reduceBEq, Int.reduceLE, Int.reduceLT, Int.reduceEq, Int.reduceSub, Int.reduceAdd, Int.reduceToNat, Int.reduceNeg, c1] <;> (repeat' apply And.intro) <;> first | rfl | exact ⟨_, rfl⟩ | exact ⟨_, _, rfl⟩ | simp [lst, cat2_nil]

theorem indexFunc_eq (l : List Int) (f : Int → Option Bool) (p : Int → Bool) (h : l.length < 1099511627776) (hf : ∀ x ∈ l, f x = some (p x)) :
  ∃ r, g_slices_IndexFunc_Sint_int l f = some r ∧ (0 ≤ r ↔ l.any p = true) := by
 unfold g_slices_IndexFunc_Sint_int g_slices_IndexFunc_Sint_int_l0
 by_cases ha : ∀ i, i < l.length → (!p (l.getD i default)) = true
 ·have key := itO_for (fun v => g_slices_IndexFunc_Sint_int_l0_S l f v) (fun i => (i : Int)) l.length (.inr ()) ?_ ?_
  ·simp only [Int.natCast_zero] at key
   rw [key]
   refine ⟨-1, rfl, by simp, fun hc => ?_⟩
   obtain ⟨x, hx, hpx⟩ := List.any_eq_true.1 hc
   obtain ⟨i, hi, rfl⟩ := List.getElem_of_mem hx
   have := ha i hi
   rw [getD_get _ _ hi, hpx] at this; cases this
  ·intro i hi
   simp only [g_slices_IndexFunc_Sint_int_l0_S]
   have e := ha i hi
   rw [getD_get _ _ hi] at e
   rw [if_pos (lt_nat hi), ckT (ix_nat hi), getD_nat _ _ hi, hf _ (List.getElem_mem hi), Option.bind_some, if_neg (by cases hp : p l[i] <;> simp_all), wrS i (by omega)]
  ·simp only [g_slices_IndexFunc_Sint_int_l0_S]; rw [if_neg (not_lt_nat _)]
 ·obtain ⟨m, h1, h2, h3⟩ := first_fail (P := fun i => !p (l.getD i default)) ha
  have key := itO_for (fun v => g_slices_IndexFunc_Sint_int_l0_S l f v) (fun i => (i : Int)) m (.inl (m : Int)) ?_ ?_
  ·simp only [Int.natCast_zero] at key
   rw [key]
   refine ⟨(m : Int), rfl, fun _ => ?_, fun _ => by omega⟩
   have h2' : p l[m] = true := by rw [getD_get _ _ h1] at h2; simpa using h2
   exact List.any_eq_true.2 ⟨_, List.getElem_mem h1, h2'⟩
  ·intro i hi
   simp only [g_slices_IndexFunc_Sint_int_l0_S]
   have e := h3 i hi
   rw [getD_get _ _ (by omega)] at e
   rw [if_pos (lt_nat (by omega)), ckT (ix_nat (by omega)), getD_nat _ _ (by omega), hf _ (List.getElem_mem _), Option.bind_some, if_neg (by cases hp : p l[i] <;> simp_all), wrS i (by omega)]
  ·simp only [g_slices_IndexFunc_Sint_int_l0_S]
   have h2' : p l[m] = true := by rw [getD_get _ _ h1] at h2; simpa using h2
   rw [if_pos (lt_nat h1), ckT (ix_nat h1), getD_nat _ _ h1, hf _ (List.getElem_mem _), Option.bind_some, if_pos h2']
theorem containsFunc_eq (l : List Int) (f : Int → Option Bool) (p : Int → Bool) (h : l.length < 1099511627776) (hf : ∀ x ∈ l, f x = some (p x)) : g_slices_ContainsFunc_Sint_int l f = some (l.any p) := by
 obtain ⟨r, h1, h2⟩ := indexFunc_eq l f p h hf
 unfold g_slices_ContainsFunc_Sint_int
 rw [h1, Option.bind_some]
 congr 1
 rw [Bool.eq_iff_iff]; simpa using h2
theorem i_allWithin_eq (l : List Int) (lo hi : Int) (h : l.length < 1099511627776) : i_allWithin l lo hi = some (allIn l lo hi) := by
 unfold i_allWithin
 rw [containsFunc_eq l (fun a0 => i_allWithin_1 a0 lo hi) (fun x => !inR x lo hi) h (fun x _ => rfl), Option.bind_some]
 unfold allIn
 rw [List.all_eq_not_any_not]
theorem i_allWithin_cl (list : List Int) (low : Int) (high : Int) (h0 : list.length < 1099511627776) : Y.call 89 [D.sl 3 (lst (D.int .i64) list), D.int .i64 low, D.int .i64 high] [] = some (D.bool (allIn list low high), []) := i_allWithin_call list low high (i_allWithin_eq list low high h0)
noncomputable def g_cmp_isNaN_int (x_ : Int) : Option (Bool) :=
 some false
/-- cmp.isNaN[int] -/
def k123 : SC :=
 .seq
 (.ops [
 ⟨(some 2), (.assign (.const (.bool false))), 4, none⟩])
 (.seq
 (.ops [
 ⟨(some 3), (.move (.tmp 0)), 3, none⟩,
 ⟨(some 4), (.move (.tmp 0)), 3, none⟩,
 ⟨(some 5), (.binOp .neq 3 (.tmp 3) (.tmp 4) 3), 4, none⟩,
 ⟨(some 2), (.assign (.tmp 5)), 4, none⟩])
 .ret)
theorem slim123 : Tryd.f123.body.map (slim lends) = some k123 := by kernel_rfl
theorem ok123 : fnOk Tryd.f123 1 = true := by kernel_rfl
theorem c123 {a l : List D} {r : D × List D} (h : wpD Y.env k123 (fin tys l.length [ResultVar.tmp 2] r) (entry a l)) (ha : a.length = 1) : Y.call 123 a l = some r :=
 call_slim (Y := Y) rfl Tryd.func123 (ha ▸ ok123) slim123 h
theorem g_cmp_isNaN_int_call (x_ : Int) {r : Bool} (h : g_cmp_isNaN_int x_ = some r) : Y.call 123 [D.int .i64 x_] [] = some (D.bool r, []) := by
 refine c123 ?_ rfl
 unfold k123
 unfold g_cmp_isNaN_int at h
 obtain rfl := Option.some.inj h
 simp (maxDischargeDepth := 9) only [↓xpre, xpost, xlst, xc2, xcore, yset, rg0, ↓reduceIte, Nat.reduceEqDiff, Nat.reduceLT, Nat.reduceLeDiff, Nat.reduceAdd, Nat.reduceMul, Nat.reduceMod, Nat.reduceDiv, Nat.reducePow, Nat.reduceSub, Nat.reduceBEq, Int.reduceLE, Int.reduceLT, Int.reduceEq, Int.reduceSub, Int.reduceAdd, Int.reduceToNat, Int.reduceNeg] <;> (repeat' apply And.intro) <;> first | rfl | exact ⟨_, rfl⟩ | exact ⟨_, _, rfl⟩ | simp [lst, cat2_nil]

noncomputable def g_cmp_Less_int (x_ : Int) (y : Int) : Option (Bool) :=
 (g_cmp_isNaN_int x_).bind fun r6_ =>
 if r6_ = true then
  (g_cmp_isNaN_int y).bind fun r9_ =>
  if r9_ = true then
   some (decide (x_ < y))
  else
   some true
 else
  some (decide (x_ < y))
/-- cmp.Less[int] -/
def k106 : SC :=
 .seq
 (.ops [
 ⟨(some 4), (.assign (.const (.bool false))), 4, none⟩])
 (.seq
 (.ops [
 ⟨(some 5), (.move (.tmp 0)), 3, none⟩,
 ⟨(some 6), (.call ⟨(.value (.func 123)), #[(.tmp 5)], #[3]⟩), 4, none⟩,
 ⟨(some 7), (.move (.tmp 6)), 4, none⟩,
 ⟨(some 8), (.move (.tmp 1)), 3, (some (some 7, true))⟩,
 ⟨(some 9), (.call ⟨(.value (.func 123)), #[(.tmp 8)], #[3]⟩), 4, (some (some 7, true))⟩,
 ⟨(some 10), (.unOp .not 4 (.tmp 9)), 4, (some (some 7, true))⟩,
 ⟨(some 11), (.pick (.tmp 7) (.tmp 10) (.const (.bool false))), 4, none⟩,
 ⟨(some 12), (.move (.tmp 11)), 4, none⟩,
 ⟨(some 13), (.move (.tmp 0)), 3, (some (some 12, false))⟩,
 ⟨(some 14), (.move (.tmp 1)), 3, (some (some 12, false))⟩,
 ⟨(some 15), (.binOp .lss 3 (.tmp 13) (.tmp 14) 3), 4, (some (some 12, false))⟩,
 ⟨(some 16), (.pick (.tmp 12) (.const (.bool true)) (.tmp 15)), 4, none⟩,
 ⟨(some 4), (.assign (.tmp 16)), 4, none⟩])
 .ret)
theorem slim106 : Tryd.f106.body.map (slim lends) = some k106 := by kernel_rfl
theorem ok106 : fnOk Tryd.f106 2 = true := by kernel_rfl
theorem c106 {a l : List D} {r : D × List D} (h : wpD Y.env k106 (fin tys l.length [ResultVar.tmp 4] r) (entry a l)) (ha : a.length = 2) : Y.call 106 a l = some r :=
 call_slim (Y := Y) rfl Tryd.func106 (ha ▸ ok106) slim106 h
theorem g_cmp_Less_int_call (x_ : Int) (y : Int) {r : Bool} (h : g_cmp_Less_int x_ y = some r) : Y.call 106 [D.int .i64 x_, D.int .i64 y] [] = some (D.bool r, []) := by
 refine c106 ?_ rfl
 unfold k106
 unfold g_cmp_Less_int at h
 obtain ⟨r6_, hl1, h⟩ := bindS h
 try dsimp only at h
 have c1 := g_cmp_isNaN_int_call x_ hl1
 by_cases e2 : r6_ = true
 ·rw [if_pos e2] at h
  obtain ⟨r9_, hl3, h⟩ := bindS h
  try dsimp only at h
  have c3 := g_cmp_isNaN_int_call y hl3
  by_cases e4 : r9_ = true
  ·rw [if_pos e4] at h
   obtain rfl := Option.some.inj h
   simp (maxDischargeDepth := 9) only [↓xpre, xpost, xlst, xc2, xcore, yset, rg0, ↓reduceIte, Nat.reduceEqDiff, Nat.reduceLT, Nat.reduceLeDiff, Nat.reduceAdd, Nat.reduceMul, Nat.reduceMod, Nat.reduceDiv, Nat.reducePow, Nat.reduceSub, Nat.reduceBEq, Int.reduceLE, Int.reduceLT, Int.reduceEq, Int.reduceSub, Int.reduceAdd, Int.reduceToNat, Int.reduceNeg, c1, e2, c3, e4] <;> (repeat' apply And.intro) <;> first | rfl | exact ⟨_, rfl⟩ | exact ⟨_, _, rfl⟩ | simp [lst, cat2_nil]
  ·rw [if_neg e4] at h
   have e4f : r9_ = false := Bool.eq_false_iff.mpr e4
   obtain rfl := Option.some.inj h
   simp (maxDischargeDepth := 9) only [↓xpre, xpost, xlst, xc2, xcore, yset, rg0, ↓reduceIte, Nat.reduceEqDiff, Nat.reduceLT, Nat.reduceLeDiff, Nat.reduceAdd, Nat.reduceMul, Nat.reduceMod, Nat.reduceDiv, Nat.reducePow, Nat.reduceSub, Nat.reduceBEq, Int.reduceLE, Int.reduceLT, Int.reduceEq, Int.reduceSub, Int.reduceAdd, Int.reduceToNat, Int.reduceNeg, c1, e2, c3, e4f] <;> (repeat' apply And.intro) <;> first | rfl | exact ⟨_, rfl⟩ | exact ⟨_, _, rfl⟩ | simp [lst, cat2_nil]
 ·rw [if_neg e2] at h
  have e2f : r6_ = false := Bool.eq_false_iff.mpr e2
  obtain rfl := Option.some.inj h
  simp (maxDischargeDepth := 9) only [↓xpre, xpost, xlst, xc2, xcore, yset, rg0, ↓reduceIte, Nat.reduceEqDiff, Nat.reduceLT, Nat.reduceLeDiff, Nat.reduceAdd, Nat.reduceMul, Nat.reduceMod, Nat.reduceDiv, Nat.reducePow, Nat.reduceSub, Nat.reduceBEq, Int.reduceLE, Int.reduceLT, Int.reduceEq, Int.reduceSub, Int.reduceAdd, Int.reduceToNat, Int.reduceNeg, c1, e2f] <;> (repeat' apply And.intro) <;> first | rfl | exact ⟨_, rfl⟩ | exact ⟨_, _, rfl⟩ | simp [lst, cat2_nil]

noncomputable def g_slices_IsSorted_Sint_int_l0_S (x_ : List Int) (i : Int) : Option ((Int) ⊕ (Unit ⊕ Unit)) :=
 if 0 < i then
  ck (0 ≤ i ∧ i.toNat < x_.length) <|
  ck (0 ≤ IntKind.i64.wrap (i - 1) ∧ (IntKind.i64.wrap (i - 1)).toNat < x_.length) <|
  (g_cmp_Less_int (x_.getD i.toNat default) (x_.getD ((IntKind.i64.wrap (i - 1)).toNat) default)).bind fun r20_ =>
  if r20_ = true then
   some (Sum.inr (Sum.inl ()))
  else
   some (Sum.inl (IntKind.i64.wrap (i - 1)))
 else
  some (Sum.inr (Sum.inr ()))
noncomputable def g_slices_IsSorted_Sint_int_l0 (x_ : List Int) (v : Int) : Option (Unit ⊕ Unit) := itO (fun v => g_slices_IsSorted_Sint_int_l0_S x_ v) v
noncomputable def g_slices_IsSorted_Sint_int (x_ : List Int) : Option (Bool) :=
 (g_slices_IsSorted_Sint_int_l0 x_ (IntKind.i64.wrap ((x_.length : Int) - 1))).bind fun r1000_ =>
 match r1000_ with
 | .inl q1000_ =>
  some false
 | .inr q1000_ =>
  some true
/-- slices.IsSorted[[]int,int] -/
def k88_l0b : SC :=
 .seq
 (.seq
 (.ops [
 ⟨(some 7), (.move (.tmp 3)), 3, none⟩,
 ⟨(some 8), (.binOp .gtr 3 (.tmp 7) (.const (.int .i64 0)) 3), 4, none⟩])
 (.cond (.tmp 8)
 .skip
 (.exit 0)))
 (.seq
 (.block 1
 (.seq
 (.draws [
 (⟨[11, 0, 0], [11, 12, 13, 14, 15, 16, 17, 18, 19, 20], [11]⟩, ⟨(some 11), (.move (.tmp 0)), 70, none⟩),
 (⟨[12, 3, 3], [11, 12, 13, 14, 15, 16, 17, 18, 19, 20], [12]⟩, ⟨(some 12), (.move (.tmp 3)), 3, none⟩),
 (⟨[13, 11, 12, 0, 3], [11, 12, 13, 14, 15, 16, 17, 18, 19, 20], [13]⟩, ⟨(some 13), (.indexAddr 70 (.tmp 11) (.tmp 12)), 0, none⟩),
 (⟨[14, 13, 0], [11, 12, 13, 14, 15, 16, 17, 18, 19, 20], [14]⟩, ⟨(some 14), (.load 3 (.tmp 13)), 3, none⟩),
 (⟨[15, 0, 0], [11, 12, 13, 14, 15, 16, 17, 18, 19, 20], [15]⟩, ⟨(some 15), (.move (.tmp 0)), 70, none⟩),
 (⟨[16, 3, 3], [11, 12, 13, 14, 15, 16, 17, 18, 19, 20], [16]⟩, ⟨(some 16), (.move (.tmp 3)), 3, none⟩),
 (⟨[17, 16, 3], [11, 12, 13, 14, 15, 16, 17, 18, 19, 20], [17]⟩, ⟨(some 17), (.binOp .sub 3 (.tmp 16) (.const (.int .i64 1)) 3), 3, none⟩),
 (⟨[18, 15, 17, 0, 17], [11, 12, 13, 14, 15, 16, 17, 18, 19, 20], [18]⟩, ⟨(some 18), (.indexAddr 70 (.tmp 15) (.tmp 17)), 0, none⟩),
 (⟨[19, 18, 0], [11, 12, 13, 14, 15, 16, 17, 18, 19, 20], [19]⟩, ⟨(some 19), (.load 3 (.tmp 18)), 3, none⟩),
 (⟨[20, 14, 19, 0, 0], [11, 12, 13, 14, 15, 16, 17, 18, 19, 20], [20]⟩, ⟨(some 20), (.call ⟨(.value (.func 106)), #[(.tmp 14), (.tmp 19)], #[3, 3]⟩), 4, none⟩)])
 (.cond (.tmp 20)
 (.seq
 (.ops [
 ⟨(some 2), (.assign (.const (.bool false))), 4, none⟩])
 .ret)
 .skip)))
 (.ops [
 ⟨(some 9), (.move (.tmp 3)), 3, none⟩,
 ⟨(some 10), (.binOp .sub 3 (.tmp 9) (.const (.int .i64 1)) 3), 3, none⟩,
 ⟨(some 3), (.assign (.tmp 10)), 3, none⟩]))
def k88_l0 : SC := .loop k88_l0b
def k88 : SC :=
 .seq
 (.ops [
 ⟨(some 2), (.assign (.const (.bool false))), 4, none⟩])
 (.seq
 (.seq
 (.ops [
 ⟨(some 4), (.move (.tmp 0)), 70, none⟩,
 ⟨(some 5), (.call ⟨(.builtin .len), #[(.tmp 4)], #[70]⟩), 3, none⟩,
 ⟨(some 6), (.binOp .sub 3 (.tmp 5) (.const (.int .i64 1)) 3), 3, none⟩,
 ⟨(some 3), (.assign (.tmp 6)), 3, none⟩])
 (.block 0
 k88_l0))
 (.seq
 (.ops [
 ⟨(some 2), (.assign (.const (.bool true))), 4, none⟩])
 .ret))
theorem slim88 : Tryd.f88.body.map (slim lends) = some k88 := by kernel_rfl
theorem ok88 : fnOk Tryd.f88 1 = true := by kernel_rfl
theorem c88 {a l : List D} {r : D × List D} (h : wpD Y.env k88 (fin tys l.length [ResultVar.tmp 2] r) (entry a l)) (ha : a.length = 1) : Y.call 88 a l = some r :=
 call_slim (Y := Y) rfl Tryd.func88 (ha ▸ ok88) slim88 h
def g_slices_IsSorted_Sint_int_l0_M (x_ : List Int) (i : Int) (s : St) : Prop := s.v 0 = D.sl 3 (lst (D.int .i64) x_) ∧ s.v 3 = D.int .i64 i
def g_slices_IsSorted_Sint_int_l0_X (x_ : List Int) (r : Unit ⊕ Unit) (ex : Ex) (s : St) : Prop := match r with
 | .inl q => ex = .ret ∧ s.v 2 = D.bool false
 | .inr q => ex = .exit 0
theorem g_slices_IsSorted_Sint_int_l0_wp (x_ : List Int) {v : Int} {s : St} {r : Unit ⊕ Unit} (h : g_slices_IsSorted_Sint_int_l0 x_ v = some r) (hM : g_slices_IsSorted_Sint_int_l0_M x_ v s) : wpD Y.env k88_l0 (g_slices_IsSorted_Sint_int_l0_X x_ r) s := by
 unfold g_slices_IsSorted_Sint_int_l0 at h
 refine wd_itO (c := k88_l0b) (fun v => g_slices_IsSorted_Sint_int_l0_S x_ v) (fun v s => g_slices_IsSorted_Sint_int_l0_M x_ v s) (g_slices_IsSorted_Sint_int_l0_X x_) ?_ h hM
 clear h hM s v r
 intro i s o hM h
 unfold g_slices_IsSorted_Sint_int_l0_S at h
 unfold g_slices_IsSorted_Sint_int_l0_M at hM
 obtain ⟨m0, m1⟩ := hM
 unfold k88_l0b
 by_cases e1 : 0 < i
 ·rw [if_pos e1] at h
  obtain ⟨e2, h⟩ := ckS h
  obtain ⟨e3, h⟩ := ckS h
  obtain ⟨r20_, hl4, h⟩ := bindS h
  try dsimp only at h
  have c4 := g_cmp_Less_int_call (x_.getD i.toNat default) (x_.getD ((IntKind.i64.wrap (i - 1)).toNat) default) hl4
  by_cases e5 : r20_ = true
  ·rw [if_pos e5] at h
   obtain rfl := Option.some.inj h
   simp (maxDischargeDepth := 9) only [↓xpre, xpost, xlst, xc2, xcore, yset, rg0, ↓reduceIte, Nat.reduceEqDiff, Nat.reduceLT, Nat.reduceLeDiff, Nat.reduceAdd, Nat.reduceMul, Nat.reduceMod, Nat.reduceDiv, Nat.reducePow, Nat.reduceSub, Nat.reduceBEq, Int.reduceLE, Int.reduceLT, Int.reduceEq, Int.reduceSub, Int.reduceAdd, Int.reduceToNat, Int.reduceNeg, m0, m1, e1, e2.1, e2.2, e3.1, e3.2, c4, e5, g_slices_IsSorted_Sint_int_l0_M, g_slices_IsSorted_Sint_int_l0_X, sxN, sxE, sxR] <;> (repeat' apply And.intro) <;> first | rfl | exact ⟨_, rfl⟩ | exact ⟨_, _, rfl⟩ | simp [lst, cat2_nil]
  ·rw [if_neg e5] at h
   have e5f : r20_ = false := Bool.eq_false_iff.mpr e5
   obtain rfl := Option.some.inj h
   simp (maxDischargeDepth := 9) only [↓xpre, xpost, xlst, xc2, xcore, yset, rg0, ↓reduceIte, Nat.reduceEqDiff, Nat.reduceLT, Nat.reduceLeDiff, Nat.reduceAdd, Nat.reduceMul, Nat.reduceMod, Nat.reduceDiv, Nat.reducePow, Nat.reduceSub, Nat.reduceBEq, Int.reduceLE, Int.reduceLT, Int.reduceEq, Int.reduceSub, Int.reduceAdd, Int.reduceToNat, Int.reduceNeg, m0, m1, e1, e2.1, e2.2, e3.1, e3.2, c4, e5f, g_slices_IsSorted_Sint_int_l0_M, g_slices_IsSorted_Sint_int_l0_X, sxN, sxE, sxR] <;> (repeat' apply And.intro) <;> first | rfl | exact ⟨_, rfl⟩ | exact ⟨_, _, rfl⟩ | simp [lst, cat2_nil]
 ·rw [if_neg e1] at h
  obtain rfl := Option.some.inj h
  simp (maxDischargeDepth := 9) only [↓xpre, xpost, xlst, xc2, xcore, yset, rg0, ↓reduceIte, Nat.reduceEqDiff, Nat.reduceLT, Nat.reduceLeDiff, Nat.reduceAdd, Nat.reduceMul, Nat.reduceMod, Nat.reduceDiv, Nat.reducePow, Nat.reduceSub, Nat.reduceBEq, Int.reduceLE, Int.reduceLT, Int.reduceEq, Int.reduceSub, Int.reduceAdd, Int.reduceToNat, Int.reduceNeg, m0, m1, e1, g_slices_IsSorted_Sint_int_l0_M, g_slices_IsSorted_Sint_int_l0_X, sxN, sxE, sxR] <;> (repeat' apply And.intro) <;> first | rfl | exact ⟨_, rfl⟩ | exact ⟨_, _, rfl⟩ | simp [lst, cat2_nil]
theorem g_slices_IsSorted_Sint_int_call (x_ : List Int) {r : Bool} (h : g_slices_IsSorted_Sint_int x_ = some r) : Y.call 88 [D.sl 3 (lst (D.int .i64) x_)] [] = some (D.bool r, []) := by
 refine c88 ?_ rfl
 unfold k88
 unfold g_slices_IsSorted_Sint_int at h
 obtain ⟨r1000_, hl2, h⟩ := bindS h
 try dsimp only at h
 simp (maxDischargeDepth := 9) only [↓xpre, xpost, xlst, xc2, xcore, yset, rg0, ↓reduceIte, Nat.reduceEqDiff, Nat.reduceLT, Nat.reduceLeDiff, Nat.reduceAdd, Nat.reduceMul, Nat.reduceMod, Nat.reduceDiv, Nat.reducePow, Nat.reduceSub, Nat.reduceBEq, Int.reduceLE, Int.reduceLT, Int.reduceEq, Int.reduceSub, Int.reduceAdd, Int.reduceToNat, Int.reduceNeg]
 refine wd_mono (g_slices_IsSorted_Sint_int_l0_wp x_ hl2 ?_) ?_
 ·simp (maxDischargeDepth := 9) only [↓xpre, xpost, xlst, xc2, xcore, yset, rg0, ↓reduceIte, Nat.reduceEqDiff, Nat.reduceLT, Nat.reduceLeDiff, Nat.reduceAdd, Nat.reduceMul, Nat.reduceMod, Nat.reduceDiv, Nat.reducePow, Nat.reduceSub, Nat.reduceBEq, Int.reduceLE, Int.reduceLT, Int.reduceEq, Int.reduceSub, Int.reduceAdd, Int.reduceToNat, Int.reduceNeg, g_slices_IsSorted_Sint_int_l0_M] <;> (repeat' apply And.intro) <;> first | rfl | exact ⟨_, rfl⟩ | exact ⟨_, _, rfl⟩ | simp [lst, cat2_nil]
 ·intro ex2 s2 hX2
  rcases r1000_ with q1000_ | q1000_
  ·unfold g_slices_IsSorted_Sint_int_l0_X at hX2
   dsimp only at hX2 h
   obtain ⟨rfl, n2_0⟩ := hX2
   obtain rfl := Option.some.inj h
   simp (maxDischargeDepth := 9) only [↓xpre, xpost, xlst, xc2, xcore, yset, rg0, ↓reduceIte, Nat.reduceEqDiff, Nat.reduceLT, Nat.reduceLeDiff, Nat.reduceAdd, Nat.reduceMul, Nat.reduceMod, Nat.reduceDiv, Nat.reducePow, Nat.reduceSub, Nat.reduceBEq, Int.reduceLE, Int.reduceLT, Int.reduceEq, Int.reduceSub, Int.reduceAdd, Int.reduceToNat, Int.reduceNeg, n2_0] <;> (repeat' apply And.intro) <;> first | rfl | exact ⟨_, rfl⟩ | exact ⟨_, _, rfl⟩ | simp [lst, cat2_nil]
  ·unfold g_slices_IsSorted_Sint_int_l0_X at hX2
   dsimp only at hX2 h
   obtain rfl := hX2
   obtain rfl := Option.some.inj h
   simp (maxDischargeDepth := 9) only [↓xpre, xpost, xlst, xc2, xcore, yset, rg0, ↓reduceIte, Nat.reduceEqDiff, Nat.reduceLT, Nat.reduceLeDiff, Nat.reduceAdd, Nat.reduceMul, Nat.reduceMod, Nat.reduceDiv, Nat.reducePow, Nat.reduceSub, Nat.reduceBEq, Int.reduceLE, Int.reduceLT, Int.reduceEq, Int.reduceSub, Int.reduceAdd, Int.reduceToNat, Int.reduceNeg] <;> (repeat' apply And.intro) <;> first | rfl | exact ⟨_, rfl⟩ | exact ⟨_, _, rfl⟩ | simp [lst, cat2_nil]

def sortedB (l : List Int) : Bool := (List.range (l.length - 1)).all fun i => decide (l.getD i default ≤ l.getD (i + 1) default)
theorem g_slices_IsSorted_Sint_int_eq (l : List Int) (h : l.length < 1099511627776) : g_slices_IsSorted_Sint_int l = some (sortedB l) := by
 unfold g_slices_IsSorted_Sint_int g_slices_IsSorted_Sint_int_l0
 rw [wr64 _ (by omega)]
 rcases Nat.eq_zero_or_pos l.length with h0 | h0
 ·rw [itO_inr (r := Sum.inr ())]
  ·simp [sortedB, h0]
  ·simp only [g_slices_IsSorted_Sint_int_l0_S]; rw [if_neg (by omega)]
 ·have key := itO_all (fun v => g_slices_IsSorted_Sint_int_l0_S l v) (fun j => (l.length : Int) - 1 - j) (l.length - 1) (fun j => decide (l.getD (l.length - 1 - j - 1) default ≤ l.getD (l.length - 1 - j) default)) (.inl ()) (.inr ()) ?_ ?_
  ·simp only [Int.natCast_zero, Int.sub_zero] at key
   rw [key]
   have e : (List.range (l.length - 1)).all (fun j => decide (l.getD (l.length - 1 - j - 1) default ≤ l.getD (l.length - 1 - j) default)) = sortedB l := by
    unfold sortedB
    rw [Bool.eq_iff_iff, range_all, range_all]
    constructor
    ·intro hh i hi
     have := hh (l.length - 1 - i - 1) (by omega)
     rwa [show l.length - 1 - (l.length - 1 - i - 1) = i + 1 by omega, Nat.add_sub_cancel] at this
    ·intro hh i hi
     have := hh (l.length - 1 - i - 1) (by omega)
     rwa [show l.length - 1 - i - 1 + 1 = l.length - 1 - i by omega] at this
   rw [e]
   cases sortedB l <;> rfl
  ·intro i hi
   simp only [g_slices_IsSorted_Sint_int_l0_S]
   rw [if_pos (by omega), wr64 _ (by omega)]
   rw [ckT (by omega), ckT (by omega), show ((l.length : Int) - 1 - i).toNat = l.length - 1 - i by omega, show ((l.length : Int) - 1 - i - 1).toNat = l.length - 1 - i - 1 by omega]
   have e : g_cmp_Less_int (l.getD (l.length - 1 - i) default) (l.getD (l.length - 1 - i - 1) default) = some (decide (l.getD (l.length - 1 - i) default < l.getD (l.length - 1 - i - 1) default)) := by
    unfold g_cmp_Less_int g_cmp_isNaN_int; by_cases hq : l.getD (l.length - 1 - i) default < l.getD (l.length - 1 - i - 1) default <;> simp [hq]
   rw [e, Option.bind_some]
   simp only [decide_eq_true_eq]
   by_cases hq : l.getD (l.length - 1 - i) default < l.getD (l.length - 1 - i - 1) default
   ·rw [if_pos hq, if_neg (by omega)]
   ·rw [if_neg hq, if_pos (by omega), show (l.length : Int) - 1 - i - 1 = (l.length : Int) - 1 - ((i + 1 : Nat) : Int) by omega]
  ·simp only [g_slices_IsSorted_Sint_int_l0_S]; rw [if_neg (by omega)]
theorem g_slices_IsSorted_Sint_int_cl (x_ : List Int) (h0 : x_.length < 1099511627776) : Y.call 88 [D.sl 3 (lst (D.int .i64) x_)] [] = some (D.bool (sortedB x_), []) := g_slices_IsSorted_Sint_int_call x_ (g_slices_IsSorted_Sint_int_eq x_ h0)
/-- Comparison of lists, as Go's: -1, 0 or 1. -/
def cmpL : List Int → List Int → Int
 | [], [] => 0
 | [], _ :: _ => -1
 | _ :: _, [] => 1
 | x :: a, y :: b => if x = y then cmpL a b else if x < y then -1 else 1
noncomputable def g_cmp_Compare_int (x_ : Int) (y : Int) : Option (Int) :=
 (g_cmp_isNaN_int x_).bind fun r8_ =>
 (g_cmp_isNaN_int y).bind fun r10_ =>
 if r8_ = true then
  if r10_ = true then
   some 0
  else
   some (-1)
 else
  if r10_ = true then
   some 1
  else
   if x_ < y then
    some (-1)
   else
    if y < x_ then
     some 1
    else
     some 0
/-- cmp.Compare[int] -/
def k109 : SC :=
 .seq
 (.ops [
 ⟨(some 4), (.assign (.const (.int .i64 0))), 3, none⟩])
 (.seq
 (.ops [
 ⟨(some 7), (.move (.tmp 0)), 3, none⟩,
 ⟨(some 8), (.call ⟨(.value (.func 123)), #[(.tmp 7)], #[3]⟩), 4, none⟩,
 ⟨(some 5), (.assign (.tmp 8)), 4, none⟩])
 (.seq
 (.ops [
 ⟨(some 9), (.move (.tmp 1)), 3, none⟩,
 ⟨(some 10), (.call ⟨(.value (.func 123)), #[(.tmp 9)], #[3]⟩), 4, none⟩,
 ⟨(some 6), (.assign (.tmp 10)), 4, none⟩])
 (.seq
 (.seq
 (.ops [
 ⟨(some 11), (.move (.tmp 5)), 4, none⟩])
 (.cond (.tmp 11)
 (.seq
 (.seq
 (.ops [
 ⟨(some 12), (.move (.tmp 6)), 4, none⟩])
 (.cond (.tmp 12)
 (.seq
 (.ops [
 ⟨(some 4), (.assign (.const (.int .i64 0))), 3, none⟩])
 .ret)
 .skip))
 (.seq
 (.ops [
 ⟨(some 4), (.assign (.const (.int .i64 (-1)))), 3, none⟩])
 .ret))
 .skip))
 (.seq
 (.seq
 (.ops [
 ⟨(some 13), (.move (.tmp 6)), 4, none⟩])
 (.cond (.tmp 13)
 (.seq
 (.ops [
 ⟨(some 4), (.assign (.const (.int .i64 1))), 3, none⟩])
 .ret)
 .skip))
 (.seq
 (.seq
 (.ops [
 ⟨(some 14), (.move (.tmp 0)), 3, none⟩,
 ⟨(some 15), (.move (.tmp 1)), 3, none⟩,
 ⟨(some 16), (.binOp .lss 3 (.tmp 14) (.tmp 15) 3), 4, none⟩])
 (.cond (.tmp 16)
 (.seq
 (.ops [
 ⟨(some 4), (.assign (.const (.int .i64 (-1)))), 3, none⟩])
 .ret)
 .skip))
 (.seq
 (.seq
 (.ops [
 ⟨(some 17), (.move (.tmp 0)), 3, none⟩,
 ⟨(some 18), (.move (.tmp 1)), 3, none⟩,
 ⟨(some 19), (.binOp .gtr 3 (.tmp 17) (.tmp 18) 3), 4, none⟩])
 (.cond (.tmp 19)
 (.seq
 (.ops [
 ⟨(some 4), (.assign (.const (.int .i64 1))), 3, none⟩])
 .ret)
 .skip))
 (.seq
 (.ops [
 ⟨(some 4), (.assign (.const (.int .i64 0))), 3, none⟩])
 .ret)))))))
theorem slim109 : Tryd.f109.body.map (slim lends) = some k109 := by kernel_rfl
theorem ok109 : fnOk Tryd.f109 2 = true := by kernel_rfl
theorem c109 {a l : List D} {r : D × List D} (h : wpD Y.env k109 (fin tys l.length [ResultVar.tmp 4] r) (entry a l)) (ha : a.length = 2) : Y.call 109 a l = some r :=
 call_slim (Y := Y) rfl Tryd.func109 (ha ▸ ok109) slim109 h
theorem g_cmp_Compare_int_call (x_ : Int) (y : Int) {r : Int} (h : g_cmp_Compare_int x_ y = some r) : Y.call 109 [D.int .i64 x_, D.int .i64 y] [] = some (D.int .i64 r, []) := by
 refine c109 ?_ rfl
 unfold k109
 unfold g_cmp_Compare_int at h
 obtain ⟨r8_, hl1, h⟩ := bindS h
 try dsimp only at h
 have c1 := g_cmp_isNaN_int_call x_ hl1
 obtain ⟨r10_, hl2, h⟩ := bindS h
 try dsimp only at h
 have c2 := g_cmp_isNaN_int_call y hl2
 by_cases e3 : r8_ = true
 ·rw [if_pos e3] at h
  by_cases e4 : r10_ = true
  ·rw [if_pos e4] at h
   obtain rfl := Option.some.inj h
   simp (maxDischargeDepth := 9) only [↓xpre, xpost, xlst, xc2, xcore, yset, rg0, ↓reduceIte, Nat.reduceEqDiff, Nat.reduceLT, Nat.reduceLeDiff, Nat.reduceAdd, Nat.reduceMul, Nat.reduceMod, Nat.reduceDiv, Nat.reducePow, Nat.reduceSub, Nat.reduceBEq, Int.reduceLE, Int.reduceLT, Int.reduceEq, Int.reduceSub, Int.reduceAdd, Int.reduceToNat, Int.reduceNeg, c1, c2, e3, e4] <;> (repeat' apply And.intro) <;> first | rfl | exact ⟨_, rfl⟩ | exact ⟨_, _, rfl⟩ | simp [lst, cat2_nil]
  ·rw [if_neg e4] at h
   have e4f : r10_ = false := Bool.eq_false_iff.mpr e4
   obtain rfl := Option.some.inj h
   simp (maxDischargeDepth := 9) only [↓xpre, xpost, xlst, xc2, xcore, yset, rg0, ↓reduceIte, Nat.reduceEqDiff, Nat.reduceLT, Nat.reduceLeDiff, Nat.reduceAdd, Nat.reduceMul, Nat.reduceMod, Nat.reduceDiv, Nat.reducePow, Nat.reduceSub, Nat.reduceBEq, Int.reduceLE, Int.reduceLT, Int.reduceEq, Int.reduceSub, Int.reduceAdd, Int.reduceToNat, Int.reduceNeg, c1, c2, e3, e4f] <;> (repeat' apply And.intro) <;> first | rfl | exact ⟨_, rfl⟩ | exact ⟨_, _, rfl⟩ | simp [lst, cat2_nil]
 ·rw [if_neg e3] at h
  have e3f : r8_ = false := Bool.eq_false_iff.mpr e3
  by_cases e4 : r10_ = true
  ·rw [if_pos e4] at h
   obtain rfl := Option.some.inj h
   simp (maxDischargeDepth := 9) only [↓xpre, xpost, xlst, xc2, xcore, yset, rg0, ↓reduceIte, Nat.reduceEqDiff, Nat.reduceLT, Nat.reduceLeDiff, Nat.reduceAdd, Nat.reduceMul, Nat.reduceMod, Nat.reduceDiv, Nat.reducePow, Nat.reduceSub, Nat.reduceBEq, Int.reduceLE, Int.reduceLT, Int.reduceEq, Int.reduceSub, Int.reduceAdd, Int.reduceToNat, Int.reduceNeg, c1, c2, e3f, e4] <;> (repeat' apply And.intro) <;> first | rfl | exact ⟨_, rfl⟩ | exact ⟨_, _, rfl⟩ | simp [lst, cat2_nil]
  ·rw [if_neg e4] at h
   have e4f : r10_ = false := Bool.eq_false_iff.mpr e4
   by_cases e5 : x_ < y
   ·rw [if_pos e5] at h
    obtain rfl := Option.some.inj h
    simp (maxDischargeDepth := 9) only [↓xpre, xpost, xlst, xc2, xcore, yset, rg0, ↓reduceIte, Nat.reduceEqDiff, Nat.reduceLT, Nat.reduceLeDiff, Nat.reduceAdd, Nat.reduceMul, Nat.reduceMod, Nat.reduceDiv, Nat.reducePow, Nat.reduceSub, Nat.reduceBEq, Int.reduceLE, Int.reduceLT, Int.reduceEq, Int.reduceSub, Int.reduceAdd, Int.reduceToNat, Int.reduceNeg, c1, c2, e3f, e4f, e5] <;> (repeat' apply And.intro) <;> first | rfl | exact ⟨_, rfl⟩ | exact ⟨_, _, rfl⟩ | simp [lst, cat2_nil]
   ·rw [if_neg e5] at h
    by_cases e6 : y < x_
    ·rw [if_pos e6] at h
     obtain rfl := Option.some.inj h
     simp (maxDischargeDepth := 9) only [↓xpre, xpost, xlst, xc2, xcore, yset, rg0, ↓reduceIte, Nat.reduceEqDiff, Nat.reduceLT, Nat.reduceLeDiff, Nat.reduceAdd, Nat.reduceMul, Nat.reduceMod, Nat.reduceDiv, Nat.reducePow, Nat.reduceSub, Nat.reduceBEq, Int.reduceLE, Int.reduceLT, Int.reduceEq, Int.reduceSub, Int.reduceAdd, Int.reduceToNat, Int.reduceNeg, c1, c2, e3f, e4f, e5, e6] <;> (repeat' apply And.intro) <;> first | rfl | exact ⟨_, rfl⟩ | exact ⟨_, _, rfl⟩ | simp [lst, cat2_nil]
    ·rw [if_neg e6] at h
     obtain rfl := Option.some.inj h
     simp (maxDischargeDepth := 9) only [↓xpre, xpost, xlst, xc2, xcore, yset, rg0, ↓reduceIte, Nat.reduceEqDiff, Nat.reduceLT, Nat.reduceLeDiff, Nat.reduceAdd, Nat.reduceMul, Nat.reduceMod, Nat.reduceDiv, Nat.reducePow, Nat.reduceSub, Nat.reduceBEq, Int.reduceLE, Int.reduceLT, Int.reduceEq, Int.reduceSub, Int.reduceAdd, Int.reduceToNat, Int.reduceNeg, c1, c2, e3f, e4f, e5, e6] <;> (repeat' apply And.intro) <;> first | rfl | exact ⟨_, rfl⟩ | exact ⟨_, _, rfl⟩ | simp [lst, cat2_nil]

noncomputable def g_slices_Compare_Sint_int_l0_S (s1_ : List Int) (s2_ : List Int) (t11_ : Int) : Option ((Int) ⊕ (Int ⊕ Unit)) :=
 if t11_ < (s1_.length : Int) then
  ck (0 ≤ t11_ ∧ t11_.toNat < s1_.length) <|
  if (s2_.length : Int) ≤ t11_ then
   some (Sum.inr (Sum.inl 1))
  else
   ck (0 ≤ t11_ ∧ t11_.toNat < s2_.length) <|
   (g_cmp_Compare_int (s1_.getD t11_.toNat default) (s2_.getD t11_.toNat default)).bind fun r26_ =>
   if r26_ = 0 then
    some (Sum.inl (IntKind.i64.wrap (t11_ + 1)))
   else
    some (Sum.inr (Sum.inl r26_))
 else
  some (Sum.inr (Sum.inr ()))
noncomputable def g_slices_Compare_Sint_int_l0 (s1_ : List Int) (s2_ : List Int) (v : Int) : Option (Int ⊕ Unit) := itO (fun v => g_slices_Compare_Sint_int_l0_S s1_ s2_ v) v
noncomputable def g_slices_Compare_Sint_int (s1_ : List Int) (s2_ : List Int) : Option (Int) :=
 (g_slices_Compare_Sint_int_l0 s1_ s2_ 0).bind fun r1000_ =>
 match r1000_ with
 | .inl q1000_ =>
  some q1000_
 | .inr q1000_ =>
  if (s1_.length : Int) < (s2_.length : Int) then
   some (-1)
  else
   some 0
/-- slices.Compare[[]int,int] -/
def k90_l0b : SC :=
 .seq
 (.ops [
 ⟨(some 12), (.binOp .lss 3 (.tmp 11) (.tmp 10) 3), 0, none⟩])
 (.seq
 (.cond (.tmp 12)
 .skip
 (.exit 0))
 (.seq
 (.block 1
 (.seq
 (.ops [
 ⟨(some 13), (.move (.tmp 11)), 3, none⟩,
 ⟨(some 14), (.indexAddr 70 (.tmp 9) (.tmp 11)), 0, none⟩,
 ⟨(some 15), (.load 3 (.tmp 14)), 3, none⟩,
 ⟨(some 5), (.assign (.tmp 13)), 3, none⟩,
 ⟨(some 6), (.assign (.tmp 15)), 3, none⟩])
 (.seq
 (.seq
 (.ops [
 ⟨(some 16), (.move (.tmp 5)), 3, none⟩,
 ⟨(some 17), (.move (.tmp 1)), 70, none⟩,
 ⟨(some 18), (.call ⟨(.builtin .len), #[(.tmp 17)], #[70]⟩), 3, none⟩,
 ⟨(some 19), (.binOp .geq 3 (.tmp 16) (.tmp 18) 3), 4, none⟩])
 (.cond (.tmp 19)
 (.seq
 (.ops [
 ⟨(some 4), (.assign (.const (.int .i64 1))), 3, none⟩])
 .ret)
 .skip))
 (.seq
 (.ops [
 ⟨(some 20), (.move (.tmp 1)), 70, none⟩,
 ⟨(some 21), (.move (.tmp 5)), 3, none⟩,
 ⟨(some 22), (.indexAddr 70 (.tmp 20) (.tmp 21)), 0, none⟩,
 ⟨(some 23), (.load 3 (.tmp 22)), 3, none⟩,
 ⟨(some 7), (.assign (.tmp 23)), 3, none⟩])
 (.seq
 (.ops [
 ⟨(some 24), (.move (.tmp 6)), 3, none⟩,
 ⟨(some 25), (.move (.tmp 7)), 3, none⟩,
 ⟨(some 26), (.call ⟨(.value (.func 109)), #[(.tmp 24), (.tmp 25)], #[3, 3]⟩), 3, none⟩,
 ⟨(some 8), (.assign (.tmp 26)), 3, none⟩])
 (.seq
 (.ops [
 ⟨(some 27), (.move (.tmp 8)), 3, none⟩,
 ⟨(some 28), (.binOp .neq 3 (.tmp 27) (.const (.int .i64 0)) 3), 4, none⟩])
 (.cond (.tmp 28)
 (.seq
 (.ops [
 ⟨(some 29), (.move (.tmp 8)), 3, none⟩,
 ⟨(some 4), (.assign (.tmp 29)), 3, none⟩])
 .ret)
 .skip)))))))
 (.ops [
 ⟨(some 30), (.binOp .add 3 (.tmp 11) (.const (.int .i64 1)) 3), 3, none⟩,
 ⟨(some 11), (.move (.tmp 30)), 3, none⟩])))
def k90_l0 : SC := .loop k90_l0b
def k90 : SC :=
 .seq
 (.ops [
 ⟨(some 4), (.assign (.const (.int .i64 0))), 3, none⟩])
 (.seq
 (.seq
 (.ops [
 ⟨(some 9), (.move (.tmp 0)), 70, none⟩,
 ⟨(some 10), (.call ⟨(.builtin .len), #[(.tmp 9)], #[70]⟩), 3, none⟩,
 ⟨(some 11), (.move (.const (.int .i64 0))), 3, none⟩])
 (.block 0
 k90_l0))
 (.seq
 (.seq
 (.ops [
 ⟨(some 31), (.move (.tmp 0)), 70, none⟩,
 ⟨(some 32), (.call ⟨(.builtin .len), #[(.tmp 31)], #[70]⟩), 3, none⟩,
 ⟨(some 33), (.move (.tmp 1)), 70, none⟩,
 ⟨(some 34), (.call ⟨(.builtin .len), #[(.tmp 33)], #[70]⟩), 3, none⟩,
 ⟨(some 35), (.binOp .lss 3 (.tmp 32) (.tmp 34) 3), 4, none⟩])
 (.cond (.tmp 35)
 (.seq
 (.ops [
 ⟨(some 4), (.assign (.const (.int .i64 (-1)))), 3, none⟩])
 .ret)
 .skip))
 (.seq
 (.ops [
 ⟨(some 4), (.assign (.const (.int .i64 0))), 3, none⟩])
 .ret)))
theorem slim90 : Tryd.f90.body.map (slim lends) = some k90 := by kernel_rfl
theorem ok90 : fnOk Tryd.f90 2 = true := by kernel_rfl
theorem c90 {a l : List D} {r : D × List D} (h : wpD Y.env k90 (fin tys l.length [ResultVar.tmp 4] r) (entry a l)) (ha : a.length = 2) : Y.call 90 a l = some r :=
 call_slim (Y := Y) rfl Tryd.func90 (ha ▸ ok90) slim90 h
def g_slices_Compare_Sint_int_l0_M (s1_ : List Int) (s2_ : List Int) (t11_ : Int) (s : St) : Prop := s.v 0 = D.sl 3 (lst (D.int .i64) s1_) ∧ s.v 1 = D.sl 3 (lst (D.int .i64) s2_) ∧ s.v 9 = D.sl 3 (lst (D.int .i64) s1_) ∧ s.v 10 = D.int .i64 (s1_.length : Int) ∧ s.v 11 = D.int .i64 t11_
def g_slices_Compare_Sint_int_l0_X (s1_ : List Int) (s2_ : List Int) (r : Int ⊕ Unit) (ex : Ex) (s : St) : Prop := match r with
 | .inl q => ex = .ret ∧ s.v 4 = D.int .i64 q
 | .inr q => ex = .exit 0 ∧ s.v 0 = D.sl 3 (lst (D.int .i64) s1_) ∧ s.v 1 = D.sl 3 (lst (D.int .i64) s2_)
theorem g_slices_Compare_Sint_int_l0_wp (s1_ : List Int) (s2_ : List Int) {v : Int} {s : St} {r : Int ⊕ Unit} (h : g_slices_Compare_Sint_int_l0 s1_ s2_ v = some r) (hM : g_slices_Compare_Sint_int_l0_M s1_ s2_ v s) : wpD Y.env k90_l0 (g_slices_Compare_Sint_int_l0_X s1_ s2_ r) s := by
 unfold g_slices_Compare_Sint_int_l0 at h
 refine wd_itO (c := k90_l0b) (fun v => g_slices_Compare_Sint_int_l0_S s1_ s2_ v) (fun v s => g_slices_Compare_Sint_int_l0_M s1_ s2_ v s) (g_slices_Compare_Sint_int_l0_X s1_ s2_) ?_ h hM
 clear h hM s v r
 intro t11_ s o hM h
 unfold g_slices_Compare_Sint_int_l0_S at h
 unfold g_slices_Compare_Sint_int_l0_M at hM
 obtain ⟨m0, m1, m2, m3, m4⟩ := hM
 unfold k90_l0b
 by_cases e1 : t11_ < (s1_.length : Int)
 ·rw [if_pos e1] at h
  obtain ⟨e2, h⟩ := ckS h
  by_cases e3 : (s2_.length : Int) ≤ t11_
  ·rw [if_pos e3] at h
   obtain rfl := Option.some.inj h
   simp (maxDischargeDepth := 9) only [↓xpre, xpost, xlst, xc2, xcore, yset, rg0, ↓reduceIte, Nat.reduceEqDiff, Nat.reduceLT, Nat.reduceLeDiff, Nat.reduceAdd, Nat.reduceMul, Nat.reduceMod, Nat.reduceDiv, Nat.reducePow, Nat.reduceSub, Nat.reduceBEq, Int.reduceLE, Int.reduceLT, Int.reduceEq, Int.reduceSub, Int.reduceAdd, Int.reduceToNat, Int.reduceNeg, m0, m1, m2, m3, m4, e1, e2.1, e2.2, e3, g_slices_Compare_Sint_int_l0_M, g_slices_Compare_Sint_int_l0_X, sxN, sxE, sxR] <;> (repeat' apply And.intro) <;> first | rfl | exact ⟨_, rfl⟩ | exact ⟨_, _, rfl⟩ | simp [lst, cat2_nil]
  ·rw [if_neg e3] at h
   obtain ⟨e4, h⟩ := ckS h
   obtain ⟨r26_, hl5, h⟩ := bindS h
   try dsimp only at h
   have c5 := g_cmp_Compare_int_call (s1_.getD t11_.toNat default) (s2_.getD t11_.toNat default) hl5
   by_cases e6 : r26_ = 0
   ·rw [if_pos e6] at h
    obtain rfl := Option.some.inj h
    simp (maxDischargeDepth := 9) only [↓xpre, xpost, xlst, xc2, xcore, yset, rg0, ↓reduceIte, Nat.reduceEqDiff, Nat.reduceLT, Nat.reduceLeDiff, Nat.reduceAdd, Nat.reduceMul, Nat.reduceMod, Nat.reduceDiv, Nat.reducePow, Nat.reduceSub, Nat.reduceBEq, Int.reduceLE, Int.reduceLT, Int.reduceEq, Int.reduceSub, Int.reduceAdd, Int.reduceToNat, Int.reduceNeg, m0, m1, m2, m3, m4, e1, e2.1, e2.2, e3, e4.1, e4.2, c5, decide_eq_true e6, g_slices_Compare_Sint_int_l0_M, g_slices_Compare_Sint_int_l0_X, sxN, sxE, sxR] <;> (repeat' apply And.intro) <;> first | rfl | exact ⟨_, rfl⟩ | exact ⟨_, _, rfl⟩ | simp [lst, cat2_nil]
   ·rw [if_neg e6] at h
    obtain rfl := Option.some.inj h
    simp (maxDischargeDepth := 9) only [↓xpre, xpost, xlst, xc2, xcore, yset, rg0, ↓reduceIte, Nat.reduceEqDiff, Nat.reduceLT, Nat.reduceLeDiff, Nat.reduceAdd, Nat.reduceMul, Nat.reduceMod, Nat.reduceDiv, Nat.reducePow, Nat.reduceSub, Nat.reduceBEq, Int.reduceLE, Int.reduceLT, Int.reduceEq, Int.reduceSub, Int.reduceAdd, Int.reduceToNat, Int.reduceNeg, m0, m1, m2, m3, m4, e1, e2.1, e2.2, e3, e4.1, e4.2, c5, e6, g_slices_Compare_Sint_int_l0_M, g_slices_Compare_Sint_int_l0_X, sxN, sxE, sxR] <;> (repeat' apply And.intro) <;> first | rfl | exact ⟨_, rfl⟩ | exact ⟨_, _, rfl⟩ | simp [lst, cat2_nil]
 ·rw [if_neg e1] at h
  obtain rfl := Option.some.inj h
  simp (maxDischargeDepth := 9) only [↓xpre, xpost, xlst, xc2, xcore, yset, rg0, ↓reduceIte, Nat.reduceEqDiff, Nat.reduceLT, Nat.reduceLeDiff, Nat.reduceAdd, Nat.reduceMul, Nat.reduceMod, Nat.reduceDiv, Nat.reducePow, Nat.reduceSub, Nat.reduceBEq, Int.reduceLE, Int.reduceLT, Int.reduceEq, Int.reduceSub, Int.reduceAdd, Int.reduceToNat, Int.reduceNeg, m0, m1, m2, m3, m4, e1, g_slices_Compare_Sint_int_l0_M, g_slices_Compare_Sint_int_l0_X, sxN, sxE, sxR] <;> (repeat' apply And.intro) <;> first | rfl | exact ⟨_, rfl⟩ | exact ⟨_, _, rfl⟩ | simp [lst, cat2_nil]
theorem g_slices_Compare_Sint_int_call (s1_ : List Int) (s2_ : List Int) {r : Int} (h : g_slices_Compare_Sint_int s1_ s2_ = some r) : Y.call 90 [D.sl 3 (lst (D.int .i64) s1_), D.sl 3 (lst (D.int .i64) s2_)] [] = some (D.int .i64 r, []) := by
 refine c90 ?_ rfl
 unfold k90
 unfold g_slices_Compare_Sint_int at h
 obtain ⟨r1000_, hl2, h⟩ := bindS h
 try dsimp only at h
 simp (maxDischargeDepth := 9) only [↓xpre, xpost, xlst, xc2, xcore, yset, rg0, ↓reduceIte, Nat.reduceEqDiff, Nat.reduceLT, Nat.reduceLeDiff, Nat.reduceAdd, Nat.reduceMul, Nat.reduceMod, Nat.reduceDiv, Nat.reducePow, Nat.reduceSub, Nat.reduceBEq, Int.reduceLE, Int.reduceLT, Int.reduceEq, Int.reduceSub, Int.reduceAdd, Int.reduceToNat, Int.reduceNeg]
 refine wd_mono (g_slices_Compare_Sint_int_l0_wp s1_ s2_ hl2 ?_) ?_
 ·simp (maxDischargeDepth := 9) only [↓xpre, xpost, xlst, xc2, xcore, yset, rg0, ↓reduceIte, Nat.reduceEqDiff, Nat.reduceLT, Nat.reduceLeDiff, Nat.reduceAdd, Nat.reduceMul, Nat.reduceMod, Nat.reduceDiv, Nat.reducePow, Nat.reduceSub, Nat.reduceBEq, Int.reduceLE, Int.reduceLT, Int.reduceEq, Int.reduceSub, Int.reduceAdd, Int.reduceToNat, Int.reduceNeg, g_slices_Compare_Sint_int_l0_M] <;> (repeat' apply And.intro) <;> first | rfl | exact ⟨_, rfl⟩ | exact ⟨_, _, rfl⟩ | simp [lst, cat2_nil]
 ·intro ex2 s2 hX2
  rcases r1000_ with q1000_ | q1000_
  ·unfold g_slices_Compare_Sint_int_l0_X at hX2
   dsimp only at hX2 h
   obtain ⟨rfl, n2_0⟩ := hX2
   obtain rfl := Option.some.inj h
   simp (maxDischargeDepth := 9) only [↓xpre, xpost, xlst, xc2, xcore, yset, rg0, ↓reduceIte, Nat.reduceEqDiff, Nat.reduceLT, Nat.reduceLeDiff, Nat.reduceAdd, Nat.reduceMul, Nat.reduceMod, Nat.reduceDiv, Nat.reducePow, Nat.reduceSub, Nat.reduceBEq, Int.reduceLE, Int.reduceLT, Int.reduceEq, Int.reduceSub, Int.reduceAdd, Int.reduceToNat, Int.reduceNeg, n2_0] <;> (repeat' apply And.intro) <;> first | rfl | exact ⟨_, rfl⟩ | exact ⟨_, _, rfl⟩ | simp [lst, cat2_nil]
  ·unfold g_slices_Compare_Sint_int_l0_X at hX2
   dsimp only at hX2 h
   obtain ⟨rfl, n2_0, n2_1⟩ := hX2
   by_cases e3 : (s1_.length : Int) < (s2_.length : Int)
   ·rw [if_pos e3] at h
    obtain rfl := Option.some.inj h
    simp (maxDischargeDepth := 9) only [↓xpre, xpost, xlst, xc2, xcore, yset, rg0, ↓reduceIte, Nat.reduceEqDiff, Nat.reduceLT, Nat.reduceLeDiff, Nat.reduceAdd, Nat.reduceMul, Nat.reduceMod, Nat.reduceDiv, Nat.reducePow, Nat.reduceSub, Nat.reduceBEq, Int.reduceLE, Int.reduceLT, Int.reduceEq, Int.reduceSub, Int.reduceAdd, Int.reduceToNat, Int.reduceNeg, n2_0, n2_1, e3] <;> (repeat' apply And.intro) <;> first | rfl | exact ⟨_, rfl⟩ | exact ⟨_, _, rfl⟩ | simp [lst, cat2_nil]
   ·rw [if_neg e3] at h
    obtain rfl := Option.some.inj h
    simp (maxDischargeDepth := 9) only [↓xpre, xpost, xlst, xc2, xcore, yset, rg0, ↓reduceIte, Nat.reduceEqDiff, Nat.reduceLT, Nat.reduceLeDiff, Nat.reduceAdd, Nat.reduceMul, Nat.reduceMod, Nat.reduceDiv, Nat.reducePow, Nat.reduceSub, Nat.reduceBEq, Int.reduceLE, Int.reduceLT, Int.reduceEq, Int.reduceSub, Int.reduceAdd, Int.reduceToNat, Int.reduceNeg, n2_0, n2_1, e3] <;> (repeat' apply And.intro) <;> first | rfl | exact ⟨_, rfl⟩ | exact ⟨_, _, rfl⟩ | simp [lst, cat2_nil]

theorem g_cmp_Compare_eq (x y : Int) : g_cmp_Compare_int x y = some (if x < y then -1 else if y < x then 1 else 0) := by
 unfold g_cmp_Compare_int g_cmp_isNaN_int
 by_cases h1 : x < y <;> by_cases h2 : y < x <;> simp [h1, h2]
theorem compare_l0_eq : ∀ (a b p q : List Int), p.length = q.length → p.length + a.length < 1099511627776 → q.length + b.length < 1099511627776 →
  (g_slices_Compare_Sint_int_l0 (p ++ a) (q ++ b) (p.length : Int)).bind (fun r => match r with | .inl q2 => some q2 | .inr _ => if ((p ++ a).length : Int) < ((q ++ b).length : Int) then some (-1) else some 0) = some (cmpL a b) := by
 intro a
 induction a with
 | nil =>
  intro b p q hpq ha hb
  unfold g_slices_Compare_Sint_int_l0
  rw [itO_inr (r := Sum.inr ())]
  ·simp only [Option.bind_some, List.append_nil, List.length_append, hpq]
   cases b with
   | nil => rw [if_neg (by simp)]; rfl
   | cons y b => rw [if_pos (by simp; omega)]; rfl
  ·simp only [g_slices_Compare_Sint_int_l0_S]; rw [if_neg (app_not _)]
 | cons x a ih =>
  intro b p q hpq ha hb
  simp only [List.length_cons] at ha hb
  have ex : (p ++ x :: a).getD (p.length : Int).toNat default = x := by rw [Int.toNat_natCast]; exact getD_app_right p (x :: a) p.length rfl (by simp)
  cases b with
  | nil =>
   unfold g_slices_Compare_Sint_int_l0
   rw [itO_inr (r := Sum.inl 1)]
   ·rfl
   ·simp only [g_slices_Compare_Sint_int_l0_S]
    rw [if_pos (app_lt ..), ckT (app_ix ..), if_pos (by simp; omega)]
  | cons y b =>
   simp only [List.length_cons] at hb
   have ey : (q ++ y :: b).getD (p.length : Int).toNat default = y := by rw [Int.toNat_natCast, hpq]; exact getD_app_right q (y :: b) q.length rfl (by simp)
   have step : g_slices_Compare_Sint_int_l0_S (p ++ x :: a) (q ++ y :: b) (p.length : Int) = if x = y then some (.inl (((p ++ [x]).length : Nat) : Int)) else some (.inr (.inl (if x < y then -1 else 1))) := by
    unfold g_slices_Compare_Sint_int_l0_S
    rw [if_pos (app_lt ..), ckT (app_ix ..), if_neg (by simp; omega), ckT (by simp; omega), ex, ey, g_cmp_Compare_eq, Option.bind_some, wrS _ (by omega)]
    by_cases h1 : x = y
    ·subst h1; simp
    ·rw [if_neg h1]
     by_cases h2 : x < y
     ·simp [h2]
     ·have h3 : y < x := by omega
      simp [h2, h3]
   unfold cmpL
   by_cases h1 : x = y
   ·rw [if_pos h1]
    rw [if_pos h1] at step
    have := ih b (p ++ [x]) (q ++ [y]) (by simp [hpq]) (by simp; omega) (by simp; omega)
    unfold g_slices_Compare_Sint_int_l0 at this ⊢
    rw [itO_inl step]
    simpa using this
   ·rw [if_neg h1]
    rw [if_neg h1] at step
    unfold g_slices_Compare_Sint_int_l0
    rw [itO_inr step]; rfl
theorem g_slices_Compare_Sint_int_eq (a b : List Int) (ha : a.length < 1099511627776) (hb : b.length < 1099511627776) : g_slices_Compare_Sint_int a b = some (cmpL a b) := by
 have := compare_l0_eq a b [] [] rfl (by simpa using ha) (by simpa using hb)
 unfold g_slices_Compare_Sint_int
 simp only [List.nil_append, List.length_nil, Int.natCast_zero] at this
 exact this
theorem g_slices_Compare_Sint_int_cl (s1_ : List Int) (s2_ : List Int) (h0 : s1_.length < 1099511627776) (h1 : s2_.length < 1099511627776) : Y.call 90 [D.sl 3 (lst (D.int .i64) s1_), D.sl 3 (lst (D.int .i64) s2_)] [] = some (D.int .i64 (cmpL s1_ s2_), []) := g_slices_Compare_Sint_int_call s1_ s2_ (g_slices_Compare_Sint_int_eq s1_ s2_ h0 h1)
noncomputable def s_l1Sign (n_ : Int) : Option (Int) :=
 if 0 < n_ then
  some 1
 else
  if n_ < 0 then
   some (-1)
  else
   some 0
/-- spec.l1Sign -/
def k105 : SC :=
 .seq
 (.ops [
 ⟨(some 2), (.assign (.const (.int .i64 0))), 3, none⟩])
 (.seq
 (.block 0
 (.seq
 (.ops [
 ⟨(some 4), (.move (.tmp 0)), 3, none⟩,
 ⟨(some 5), (.binOp .gtr 3 (.tmp 4) (.const (.int .i64 0)) 3), 4, none⟩,
 ⟨(some 3), (.assign (.tmp 5)), 4, none⟩])
 (.cond (.tmp 3)
 (.seq
 (.ops [
 ⟨(some 2), (.assign (.const (.int .i64 1))), 3, none⟩])
 .ret)
 (.seq
 (.ops [
 ⟨(some 7), (.move (.tmp 0)), 3, none⟩,
 ⟨(some 8), (.binOp .lss 3 (.tmp 7) (.const (.int .i64 0)) 3), 4, none⟩,
 ⟨(some 6), (.assign (.tmp 8)), 4, none⟩])
 (.cond (.tmp 6)
 (.seq
 (.ops [
 ⟨(some 2), (.assign (.const (.int .i64 (-1)))), 3, none⟩])
 .ret)
 .skip)))))
 (.seq
 (.ops [
 ⟨(some 2), (.assign (.const (.int .i64 0))), 3, none⟩])
 .ret))
theorem slim105 : Tryd.f105.body.map (slim lends) = some k105 := by kernel_rfl
theorem ok105 : fnOk Tryd.f105 1 = true := by kernel_rfl
theorem c105 {a l : List D} {r : D × List D} (h : wpD Y.env k105 (fin tys l.length [ResultVar.tmp 2] r) (entry a l)) (ha : a.length = 1) : Y.call 105 a l = some r :=
 call_slim (Y := Y) rfl Tryd.func105 (ha ▸ ok105) slim105 h
theorem s_l1Sign_call (n_ : Int) {r : Int} (h : s_l1Sign n_ = some r) : Y.call 105 [D.int .i64 n_] [] = some (D.int .i64 r, []) := by
 refine c105 ?_ rfl
 unfold k105
 unfold s_l1Sign at h
 by_cases e1 : 0 < n_
 ·rw [if_pos e1] at h
  obtain rfl := Option.some.inj h
  simp (maxDischargeDepth := 9) only [↓xpre, xpost, xlst, xc2, xcore, yset, rg0, ↓reduceIte, Nat.reduceEqDiff, Nat.reduceLT, Nat.reduceLeDiff, Nat.reduceAdd, Nat.reduceMul, Nat.reduceMod, Nat.reduceDiv, Nat.reducePow, Nat.reduceSub, Nat.reduceBEq, Int.reduceLE, Int.reduceLT, Int.reduceEq, Int.reduceSub, Int.reduceAdd, Int.reduceToNat, Int.reduceNeg, e1] <;> (repeat' apply And.intro) <;> first | rfl | exact ⟨_, rfl⟩ | exact ⟨_, _, rfl⟩ | simp [lst, cat2_nil]
 ·rw [if_neg e1] at h
  by_cases e2 : n_ < 0
  ·rw [if_pos e2] at h
   obtain rfl := Option.some.inj h
   simp (maxDischargeDepth := 9) only [↓xpre, xpost, xlst, xc2, xcore, yset, rg0, ↓reduceIte, Nat.reduceEqDiff, Nat.reduceLT, Nat.reduceLeDiff, Nat.reduceAdd, Nat.reduceMul, Nat.reduceMod, Nat.reduceDiv, Nat.reducePow, Nat.reduceSub, Nat.reduceBEq, Int.reduceLE, Int.reduceLT, Int.reduceEq, Int.reduceSub, Int.reduceAdd, Int.reduceToNat, Int.reduceNeg, e1, e2] <;> (repeat' apply And.intro) <;> first | rfl | exact ⟨_, rfl⟩ | exact ⟨_, _, rfl⟩ | simp [lst, cat2_nil]
  ·rw [if_neg e2] at h
   obtain rfl := Option.some.inj h
   simp (maxDischargeDepth := 9) only [↓xpre, xpost, xlst, xc2, xcore, yset, rg0, ↓reduceIte, Nat.reduceEqDiff, Nat.reduceLT, Nat.reduceLeDiff, Nat.reduceAdd, Nat.reduceMul, Nat.reduceMod, Nat.reduceDiv, Nat.reducePow, Nat.reduceSub, Nat.reduceBEq, Int.reduceLE, Int.reduceLT, Int.reduceEq, Int.reduceSub, Int.reduceAdd, Int.reduceToNat, Int.reduceNeg, e1, e2] <;> (repeat' apply And.intro) <;> first | rfl | exact ⟨_, rfl⟩ | exact ⟨_, _, rfl⟩ | simp [lst, cat2_nil]

noncomputable def s_prOrder_l0_S (a : List Int) (b : List Int) (t9_ : Int) : Option ((Int) ⊕ (Int ⊕ Unit)) :=
 if t9_ < (a.length : Int) then
  ck (0 ≤ t9_ ∧ t9_.toNat < a.length) <|
  ck (0 ≤ t9_ ∧ t9_.toNat < b.length) <|
  if (a.getD t9_.toNat default) = (b.getD t9_.toNat default) then
   some (Sum.inl (IntKind.i64.wrap (t9_ + 1)))
  else
   (s_l1Sign (IntKind.i64.wrap ((a.getD t9_.toNat default) - (b.getD t9_.toNat default)))).bind fun r26_ =>
   some (Sum.inr (Sum.inl r26_))
 else
  some (Sum.inr (Sum.inr ()))
noncomputable def s_prOrder_l0 (a : List Int) (b : List Int) (v : Int) : Option (Int ⊕ Unit) := itO (fun v => s_prOrder_l0_S a b v) v
noncomputable def s_prOrder (a : List Int) (b : List Int) : Option (Int) :=
 (s_prOrder_l0 a b 0).bind fun r1000_ =>
 match r1000_ with
 | .inl q1000_ =>
  some q1000_
 | .inr q1000_ =>
  some 0
/-- spec.prOrder -/
def k87_l0b : SC :=
 .seq
 (.ops [
 ⟨(some 10), (.binOp .lss 3 (.tmp 9) (.tmp 8) 3), 0, none⟩])
 (.seq
 (.cond (.tmp 10)
 .skip
 (.exit 0))
 (.seq
 (.block 1
 (.seq
 (.ops [
 ⟨(some 11), (.move (.tmp 9)), 3, none⟩,
 ⟨(some 12), (.indexAddr 70 (.tmp 7) (.tmp 9)), 0, none⟩,
 ⟨(some 13), (.load 3 (.tmp 12)), 3, none⟩,
 ⟨(some 5), (.assign (.tmp 11)), 3, none⟩,
 ⟨(some 6), (.assign (.tmp 13)), 3, none⟩])
 (.seq
 (.ops [
 ⟨(some 14), (.move (.tmp 6)), 3, none⟩,
 ⟨(some 15), (.move (.tmp 1)), 70, none⟩,
 ⟨(some 16), (.move (.tmp 5)), 3, none⟩,
 ⟨(some 17), (.indexAddr 70 (.tmp 15) (.tmp 16)), 0, none⟩,
 ⟨(some 18), (.load 3 (.tmp 17)), 3, none⟩,
 ⟨(some 19), (.binOp .neq 3 (.tmp 14) (.tmp 18) 3), 4, none⟩])
 (.cond (.tmp 19)
 (.seq
 (.ops [
 ⟨(some 20), (.move (.tmp 6)), 3, none⟩,
 ⟨(some 21), (.move (.tmp 1)), 70, none⟩,
 ⟨(some 22), (.move (.tmp 5)), 3, none⟩,
 ⟨(some 23), (.indexAddr 70 (.tmp 21) (.tmp 22)), 0, none⟩,
 ⟨(some 24), (.load 3 (.tmp 23)), 3, none⟩,
 ⟨(some 25), (.binOp .sub 3 (.tmp 20) (.tmp 24) 3), 3, none⟩,
 ⟨(some 26), (.call ⟨(.value (.func 105)), #[(.tmp 25)], #[3]⟩), 3, none⟩,
 ⟨(some 4), (.assign (.tmp 26)), 3, none⟩])
 .ret)
 .skip))))
 (.ops [
 ⟨(some 27), (.binOp .add 3 (.tmp 9) (.const (.int .i64 1)) 3), 3, none⟩,
 ⟨(some 9), (.move (.tmp 27)), 3, none⟩])))
def k87_l0 : SC := .loop k87_l0b
def k87 : SC :=
 .seq
 (.ops [
 ⟨(some 4), (.assign (.const (.int .i64 0))), 3, none⟩])
 (.seq
 (.seq
 (.ops [
 ⟨(some 7), (.move (.tmp 0)), 70, none⟩,
 ⟨(some 8), (.call ⟨(.builtin .len), #[(.tmp 7)], #[70]⟩), 3, none⟩,
 ⟨(some 9), (.move (.const (.int .i64 0))), 3, none⟩])
 (.block 0
 k87_l0))
 (.seq
 (.ops [
 ⟨(some 4), (.assign (.const (.int .i64 0))), 3, none⟩])
 .ret))
theorem slim87 : Tryd.f87.body.map (slim lends) = some k87 := by kernel_rfl
theorem ok87 : fnOk Tryd.f87 2 = true := by kernel_rfl
theorem c87 {a l : List D} {r : D × List D} (h : wpD Y.env k87 (fin tys l.length [ResultVar.tmp 4] r) (entry a l)) (ha : a.length = 2) : Y.call 87 a l = some r :=
 call_slim (Y := Y) rfl Tryd.func87 (ha ▸ ok87) slim87 h
def s_prOrder_l0_M (a : List Int) (b : List Int) (t9_ : Int) (s : St) : Prop := s.v 1 = D.sl 3 (lst (D.int .i64) b) ∧ s.v 7 = D.sl 3 (lst (D.int .i64) a) ∧ s.v 8 = D.int .i64 (a.length : Int) ∧ s.v 9 = D.int .i64 t9_
def s_prOrder_l0_X (a : List Int) (b : List Int) (r : Int ⊕ Unit) (ex : Ex) (s : St) : Prop := match r with
 | .inl q => ex = .ret ∧ s.v 4 = D.int .i64 q
 | .inr q => ex = .exit 0
theorem s_prOrder_l0_wp (a : List Int) (b : List Int) {v : Int} {s : St} {r : Int ⊕ Unit} (h : s_prOrder_l0 a b v = some r) (hM : s_prOrder_l0_M a b v s) : wpD Y.env k87_l0 (s_prOrder_l0_X a b r) s := by
 unfold s_prOrder_l0 at h
 refine wd_itO (c := k87_l0b) (fun v => s_prOrder_l0_S a b v) (fun v s => s_prOrder_l0_M a b v s) (s_prOrder_l0_X a b) ?_ h hM
 clear h hM s v r
 intro t9_ s o hM h
 unfold s_prOrder_l0_S at h
 unfold s_prOrder_l0_M at hM
 obtain ⟨m0, m1, m2, m3⟩ := hM
 unfold k87_l0b
 by_cases e1 : t9_ < (a.length : Int)
 ·rw [if_pos e1] at h
  obtain ⟨e2, h⟩ := ckS h
  obtain ⟨e3, h⟩ := ckS h
  by_cases e4 : (a.getD t9_.toNat default) = (b.getD t9_.toNat default)
  ·rw [if_pos e4] at h
   obtain rfl := Option.some.inj h
   simp (maxDischargeDepth := 9) only [↓xpre, xpost, xlst, xc2, xcore, yset, rg0, ↓reduceIte, Nat.reduceEqDiff, Nat.reduceLT, Nat.reduceLeDiff, Nat.reduceAdd, Nat.reduceMul, Nat.reduceMod, Nat.reduceDiv, Nat.reducePow, Nat.reduceSub, Nat.reduceBEq, Int.reduceLE, Int.reduceLT, Int.reduceEq, Int.reduceSub, Int.reduceAdd, Int.reduceToNat, Int.reduceNeg, m0, m1, m2, m3, e1, e2.1, e2.2, e3.1, e3.2, decide_eq_true e4, s_prOrder_l0_M, s_prOrder_l0_X, sxN, sxE, sxR] <;> (repeat' apply And.intro) <;> first | rfl | exact ⟨_, rfl⟩ | exact ⟨_, _, rfl⟩ | simp [lst, cat2_nil]
  ·rw [if_neg e4] at h
   obtain ⟨r26_, hl5, h⟩ := bindS h
   try dsimp only at h
   have c5 := s_l1Sign_call (IntKind.i64.wrap ((a.getD t9_.toNat default) - (b.getD t9_.toNat default))) hl5
   obtain rfl := Option.some.inj h
   simp (maxDischargeDepth := 9) only [↓xpre, xpost, xlst, xc2, xcore, yset, rg0, ↓reduceIte, Nat.reduceEqDiff, Nat.reduceLT, Nat.reduceLeDiff, Nat.reduceAdd, Nat.reduceMul, Nat.reduceMod, Nat.reduceDiv, Nat.reducePow, Nat.reduceSub, Nat.reduceBEq, Int.reduceLE, Int.reduceLT, Int.reduceEq, Int.reduceSub, Int.reduceAdd, Int.reduceToNat, Int.reduceNeg, m0, m1, m2, m3, e1, e2.1, e2.2, e3.1, e3.2, e4, c5, s_prOrder_l0_M, s_prOrder_l0_X, sxN, sxE, sxR] <;> (repeat' apply And.intro) <;> first | rfl | exact ⟨_, rfl⟩ | exact ⟨_, _, rfl⟩ | simp [lst, cat2_nil]
 ·rw [if_neg e1] at h
  obtain rfl := Option.some.inj h
  simp (maxDischargeDepth := 9) only [↓xpre, xpost, xlst, xc2, xcore, yset, rg0, ↓reduceIte, Nat.reduceEqDiff, Nat.reduceLT, Nat.reduceLeDiff, Nat.reduceAdd, Nat.reduceMul, Nat.reduceMod, Nat.reduceDiv, Nat.reducePow, Nat.reduceSub, Nat.reduceBEq, Int.reduceLE, Int.reduceLT, Int.reduceEq, Int.reduceSub, Int.reduceAdd, Int.reduceToNat, Int.reduceNeg, m0, m1, m2, m3, e1, s_prOrder_l0_M, s_prOrder_l0_X, sxN, sxE, sxR] <;> (repeat' apply And.intro) <;> first | rfl | exact ⟨_, rfl⟩ | exact ⟨_, _, rfl⟩ | simp [lst, cat2_nil]
theorem s_prOrder_call (a : List Int) (b : List Int) {r : Int} (h : s_prOrder a b = some r) : Y.call 87 [D.sl 3 (lst (D.int .i64) a), D.sl 3 (lst (D.int .i64) b)] [] = some (D.int .i64 r, []) := by
 refine c87 ?_ rfl
 unfold k87
 unfold s_prOrder at h
 obtain ⟨r1000_, hl2, h⟩ := bindS h
 try dsimp only at h
 simp (maxDischargeDepth := 9) only [↓xpre, xpost, xlst, xc2, xcore, yset, rg0, ↓reduceIte, Nat.reduceEqDiff, Nat.reduceLT, Nat.reduceLeDiff, Nat.reduceAdd, Nat.reduceMul, Nat.reduceMod, Nat.reduceDiv, Nat.reducePow, Nat.reduceSub, Nat.reduceBEq, Int.reduceLE, Int.reduceLT, Int.reduceEq, Int.reduceSub, Int.reduceAdd, Int.reduceToNat, Int.reduceNeg]
 refine wd_mono (s_prOrder_l0_wp a b hl2 ?_) ?_
 ·simp (maxDischargeDepth := 9) only [↓xpre, xpost, xlst, xc2, xcore, yset, rg0, ↓reduceIte, Nat.reduceEqDiff, Nat.reduceLT, Nat.reduceLeDiff, Nat.reduceAdd, Nat.reduceMul, Nat.reduceMod, Nat.reduceDiv, Nat.reducePow, Nat.reduceSub, Nat.reduceBEq, Int.reduceLE, Int.reduceLT, Int.reduceEq, Int.reduceSub, Int.reduceAdd, Int.reduceToNat, Int.reduceNeg, s_prOrder_l0_M] <;> (repeat' apply And.intro) <;> first | rfl | exact ⟨_, rfl⟩ | exact ⟨_, _, rfl⟩ | simp [lst, cat2_nil]
 ·intro ex2 s2 hX2
  rcases r1000_ with q1000_ | q1000_
  ·unfold s_prOrder_l0_X at hX2
   dsimp only at hX2 h
   obtain ⟨rfl, n2_0⟩ := hX2
   obtain rfl := Option.some.inj h
   simp (maxDischargeDepth := 9) only [↓xpre, xpost, xlst, xc2, xcore, yset, rg0, ↓reduceIte, Nat.reduceEqDiff, Nat.reduceLT, Nat.reduceLeDiff, Nat.reduceAdd, Nat.reduceMul, Nat.reduceMod, Nat.reduceDiv, Nat.reducePow, Nat.reduceSub, Nat.reduceBEq, Int.reduceLE, Int.reduceLT, Int.reduceEq, Int.reduceSub, Int.reduceAdd, Int.reduceToNat, Int.reduceNeg, n2_0] <;> (repeat' apply And.intro) <;> first | rfl | exact ⟨_, rfl⟩ | exact ⟨_, _, rfl⟩ | simp [lst, cat2_nil]
  ·unfold s_prOrder_l0_X at hX2
   dsimp only at hX2 h
   obtain rfl := hX2
   obtain rfl := Option.some.inj h
   simp (maxDischargeDepth := 9) only [↓xpre, xpost, xlst, xc2, xcore, yset, rg0, ↓reduceIte, Nat.reduceEqDiff, Nat.reduceLT, Nat.reduceLeDiff, Nat.reduceAdd, Nat.reduceMul, Nat.reduceMod, Nat.reduceDiv, Nat.reducePow, Nat.reduceSub, Nat.reduceBEq, Int.reduceLE, Int.reduceLT, Int.reduceEq, Int.reduceSub, Int.reduceAdd, Int.reduceToNat, Int.reduceNeg] <;> (repeat' apply And.intro) <;> first | rfl | exact ⟨_, rfl⟩ | exact ⟨_, _, rfl⟩ | simp [lst, cat2_nil]

def smallI (l : List Int) : Bool := allIn l (-1099511627776) 1099511627776
theorem smallI_get {l : List Int} (h : smallI l = true) {x : Int} (hx : x ∈ l) : -1099511627776 ≤ x ∧ x ≤ 1099511627776 := by
 have := List.all_eq_true.1 h x hx; exact inR_iff.1 this
theorem smallI_of {l : List Int} {lo hi : Int} (h : allIn l lo hi = true) (h1 : -1099511627776 ≤ lo) (h2 : hi ≤ 1099511627776) : smallI l = true := by
 refine List.all_eq_true.2 fun x hx => ?_
 have := inR_iff.1 (List.all_eq_true.1 h x hx)
 exact inR_iff.2 ⟨by omega, by omega⟩
theorem s_l1Sign_eq (n : Int) : s_l1Sign n = some (if n < 0 then -1 else if 0 < n then 1 else 0) := by
 unfold s_l1Sign
 by_cases h1 : n < 0 <;> by_cases h2 : 0 < n <;> simp [h1, h2] <;> omega
theorem order_l0_eq : ∀ (a b p q : List Int), p.length = q.length → a.length = b.length → p.length + a.length < 1099511627776 → smallI a = true → smallI b = true →
  (s_prOrder_l0 (p ++ a) (q ++ b) (p.length : Int)).bind (fun r => match r with | .inl q2 => some q2 | .inr _ => some 0) = some (cmpL a b) := by
 intro a
 induction a with
 | nil =>
  intro b p q hpq hab ha h1 h2
  have : b = [] := by cases b with | nil => rfl | cons _ _ => simp at hab
  subst this
  unfold s_prOrder_l0
  rw [itO_inr (r := Sum.inr ())]
  ·rfl
  ·simp only [s_prOrder_l0_S]; rw [if_neg (app_not _)]
 | cons x a ih =>
  intro b p q hpq hab ha h1 h2
  cases b with
  | nil => simp at hab
  | cons y b =>
   simp only [List.length_cons] at ha hab
   have sx1 := smallI_get h1 (List.mem_cons_self ..)
   have sy1 := smallI_get h2 (List.mem_cons_self ..)
   have ex : (p ++ x :: a).getD (p.length : Int).toNat default = x := by rw [Int.toNat_natCast]; exact getD_app_right p (x :: a) p.length rfl (by simp)
   have ey : (q ++ y :: b).getD (p.length : Int).toNat default = y := by rw [Int.toNat_natCast, hpq]; exact getD_app_right q (y :: b) q.length rfl (by simp)
   have step : s_prOrder_l0_S (p ++ x :: a) (q ++ y :: b) (p.length : Int) = if x = y then some (.inl (((p ++ [x]).length : Nat) : Int)) else some (.inr (.inl (if x < y then -1 else 1))) := by
    unfold s_prOrder_l0_S
    rw [if_pos (app_lt ..), ckT (app_ix ..), ckT (by simp; omega), ex, ey, wrS _ (by omega), wr64 _ (by omega), s_l1Sign_eq, Option.bind_some]
    by_cases h1 : x = y
    ·subst h1; simp
    ·rw [if_neg h1, if_neg h1]
     by_cases h2 : x < y
     ·rw [if_pos (by omega), if_pos h2]
     ·rw [if_neg (by omega), if_pos (by omega), if_neg h2]
   have s1 : smallI a = true := List.all_eq_true.2 fun z hz => List.all_eq_true.1 h1 z (List.mem_cons_of_mem _ hz)
   have s2 : smallI b = true := List.all_eq_true.2 fun z hz => List.all_eq_true.1 h2 z (List.mem_cons_of_mem _ hz)
   unfold cmpL
   by_cases h1 : x = y
   ·rw [if_pos h1]
    rw [if_pos h1] at step
    have := ih b (p ++ [x]) (q ++ [y]) (by simp [hpq]) (by omega) (by simp; omega) s1 s2
    unfold s_prOrder_l0 at this ⊢
    rw [itO_inl step]
    simpa using this
   ·rw [if_neg h1]
    rw [if_neg h1] at step
    unfold s_prOrder_l0
    rw [itO_inr step]; rfl
theorem s_prOrder_eq (a b : List Int) (ha : a.length < 1099511627776) (hab : a.length = b.length) (h1 : smallI a = true) (h2 : smallI b = true) : s_prOrder a b = some (cmpL a b) := by
 have := order_l0_eq a b [] [] rfl hab (by simpa using ha) h1 h2
 unfold s_prOrder
 simp only [List.nil_append, List.length_nil, Int.natCast_zero] at this
 exact this
theorem s_prOrder_cl (a : List Int) (b : List Int) (h0 : a.length < 1099511627776) (h1 : a.length = b.length) (h2 : smallI a = true) (h3 : smallI b = true) : Y.call 87 [D.sl 3 (lst (D.int .i64) a), D.sl 3 (lst (D.int .i64) b)] [] = some (D.int .i64 (cmpL a b), []) := s_prOrder_call a b (s_prOrder_eq a b h0 h1 h2 h3)
def confAt (l : List (List Int)) (size labels : Int) (i : Nat) : Bool :=
 ((decide (((l.getD i default).length : Int) = size) && sortedB (l.getD i default)) && allIn (l.getD i default) 0 (labels - 1)) && (decide (i = 0) || decide (cmpL (l.getD (i - 1) default) (l.getD i default) < 0))
def confs (l : List (List Int)) (size labels : Int) : Bool := (List.range l.length).all (confAt l size labels)
def isProb (labels degree : Int) (ns es : List (List Int)) : Bool := ((inR labels 1 8 && inR degree 1 4) && confs ns degree labels) && confs es 2 labels
theorem Short.getD {l : List (List Int)} (h : Short l) (i : Nat) : (l.getD i default).length < 1099511627776 := by
 rcases Nat.lt_or_ge i l.length with hi | hi
 ·rw [getD_get _ _ hi]; exact h.at i hi
 ·rw [List.getD_eq_getElem?_getD, List.getElem?_eq_none hi]; decide
noncomputable def i_configurationsOk_l0_S (list : List (List Int)) (size : Int) (labels : Int) (t11_ : Int) : Option ((Int) ⊕ (Unit ⊕ Unit)) :=
 if t11_ < (list.length : Int) then
  ck (0 ≤ t11_ ∧ t11_.toNat < list.length) <|
  if ((list.getD t11_.toNat default).length : Int) = size then
   ck ((list.getD t11_.toNat default).length < 1099511627776) <|
   if (sortedB (list.getD t11_.toNat default)) = true then
    if (allIn (list.getD t11_.toNat default) (0 : Int) (IntKind.i64.wrap (labels - 1))) = true then
     if 0 < t11_ then
      ck (0 ≤ IntKind.i64.wrap (t11_ - 1) ∧ (IntKind.i64.wrap (t11_ - 1)).toNat < list.length) <|
      ck ((list.getD ((IntKind.i64.wrap (t11_ - 1)).toNat) default).length < 1099511627776) <|
      if 0 ≤ (cmpL (list.getD ((IntKind.i64.wrap (t11_ - 1)).toNat) default) (list.getD t11_.toNat default)) then
       some (Sum.inr (Sum.inl ()))
      else
       some (Sum.inl (IntKind.i64.wrap (t11_ + 1)))
     else
      some (Sum.inl (IntKind.i64.wrap (t11_ + 1)))
    else
     some (Sum.inr (Sum.inl ()))
   else
    some (Sum.inr (Sum.inl ()))
  else
   some (Sum.inr (Sum.inl ()))
 else
  some (Sum.inr (Sum.inr ()))
noncomputable def i_configurationsOk_l0 (list : List (List Int)) (size : Int) (labels : Int) (v : Int) : Option (Unit ⊕ Unit) := itO (fun v => i_configurationsOk_l0_S list size labels v) v
noncomputable def i_configurationsOk (list : List (List Int)) (size : Int) (labels : Int) : Option (Bool) :=
 (i_configurationsOk_l0 list size labels 0).bind fun r1000_ =>
 match r1000_ with
 | .inl q1000_ =>
  some false
 | .inr q1000_ =>
  some true
/-- impl.configurationsOk -/
def k68_l0b : SC :=
 .seq
 (.ops [
 ⟨(some 12), (.binOp .lss 3 (.tmp 11) (.tmp 10) 3), 0, none⟩])
 (.seq
 (.cond (.tmp 12)
 .skip
 (.exit 0))
 (.seq
 (.block 1
 (.seq
 (.ops [
 ⟨(some 13), (.move (.tmp 11)), 3, none⟩,
 ⟨(some 14), (.indexAddr 34 (.tmp 9) (.tmp 11)), 0, none⟩,
 ⟨(some 15), (.load 70 (.tmp 14)), 70, none⟩,
 ⟨(some 7), (.assign (.tmp 13)), 3, none⟩,
 ⟨(some 8), (.assign (.tmp 15)), 70, none⟩])
 (.seq
 (.ops [
 ⟨(some 16), (.move (.tmp 8)), 70, none⟩,
 ⟨(some 17), (.call ⟨(.builtin .len), #[(.tmp 16)], #[70]⟩), 3, none⟩,
 ⟨(some 18), (.move (.tmp 1)), 3, none⟩,
 ⟨(some 19), (.binOp .neq 3 (.tmp 17) (.tmp 18) 3), 4, none⟩,
 ⟨(some 20), (.move (.tmp 19)), 4, none⟩,
 ⟨(some 21), (.move (.tmp 8)), 70, (some (some 20, false))⟩,
 ⟨(some 22), (.call ⟨(.value (.func 88)), #[(.tmp 21)], #[70]⟩), 4, (some (some 20, false))⟩,
 ⟨(some 23), (.unOp .not 4 (.tmp 22)), 4, (some (some 20, false))⟩,
 ⟨(some 24), (.pick (.tmp 20) (.const (.bool true)) (.tmp 23)), 4, none⟩,
 ⟨(some 25), (.move (.tmp 24)), 4, none⟩,
 ⟨(some 26), (.move (.tmp 8)), 70, (some (some 25, false))⟩,
 ⟨(some 27), (.move (.tmp 2)), 3, (some (some 25, false))⟩,
 ⟨(some 28), (.binOp .sub 3 (.tmp 27) (.const (.int .i64 1)) 3), 3, (some (some 25, false))⟩,
 ⟨(some 29), (.call ⟨(.value (.func 89)), #[(.tmp 26), (.const (.int .i64 0)), (.tmp 28)], #[70, 3, 3]⟩), 4, (some (some 25, false))⟩,
 ⟨(some 30), (.unOp .not 4 (.tmp 29)), 4, (some (some 25, false))⟩,
 ⟨(some 31), (.pick (.tmp 25) (.const (.bool true)) (.tmp 30)), 4, none⟩,
 ⟨(some 32), (.move (.tmp 31)), 4, none⟩,
 ⟨(some 33), (.move (.tmp 7)), 3, (some (some 32, false))⟩,
 ⟨(some 34), (.binOp .gtr 3 (.tmp 33) (.const (.int .i64 0)) 3), 4, (some (some 32, false))⟩,
 ⟨(some 35), (.move (.tmp 34)), 4, (some (some 32, false))⟩,
 ⟨(some 36), (.move (.tmp 0)), 34, (some (some 35, true))⟩,
 ⟨(some 37), (.move (.tmp 7)), 3, (some (some 35, true))⟩,
 ⟨(some 38), (.binOp .sub 3 (.tmp 37) (.const (.int .i64 1)) 3), 3, (some (some 35, true))⟩,
 ⟨(some 39), (.indexAddr 34 (.tmp 36) (.tmp 38)), 0, (some (some 35, true))⟩,
 ⟨(some 40), (.load 70 (.tmp 39)), 70, (some (some 35, true))⟩,
 ⟨(some 41), (.move (.tmp 8)), 70, (some (some 35, true))⟩,
 ⟨(some 42), (.call ⟨(.value (.func 90)), #[(.tmp 40), (.tmp 41)], #[70, 70]⟩), 3, (some (some 35, true))⟩,
 ⟨(some 43), (.binOp .geq 3 (.tmp 42) (.const (.int .i64 0)) 3), 4, (some (some 35, true))⟩,
 ⟨(some 44), (.pick (.tmp 35) (.tmp 43) (.const (.bool false))), 4, (some (some 32, false))⟩,
 ⟨(some 45), (.pick (.tmp 32) (.const (.bool true)) (.tmp 44)), 4, none⟩])
 (.cond (.tmp 45)
 (.seq
 (.ops [
 ⟨(some 6), (.assign (.const (.bool false))), 4, none⟩])
 .ret)
 .skip))))
 (.ops [
 ⟨(some 46), (.binOp .add 3 (.tmp 11) (.const (.int .i64 1)) 3), 3, none⟩,
 ⟨(some 11), (.move (.tmp 46)), 3, none⟩])))
def k68_l0 : SC := .loop k68_l0b
def k68 : SC :=
 .seq
 (.ops [
 ⟨(some 6), (.assign (.const (.bool false))), 4, none⟩])
 (.seq
 (.seq
 (.ops [
 ⟨(some 9), (.move (.tmp 0)), 34, none⟩,
 ⟨(some 10), (.call ⟨(.builtin .len), #[(.tmp 9)], #[34]⟩), 3, none⟩,
 ⟨(some 11), (.move (.const (.int .i64 0))), 3, none⟩])
 (.block 0
 k68_l0))
 (.seq
 (.ops [
 ⟨(some 6), (.assign (.const (.bool true))), 4, none⟩])
 .ret))
theorem slim68 : Tryd.f68.body.map (slim lends) = some k68 := by kernel_rfl
theorem ok68 : fnOk Tryd.f68 3 = true := by kernel_rfl
theorem c68 {a l : List D} {r : D × List D} (h : wpD Y.env k68 (fin tys l.length [ResultVar.tmp 6] r) (entry a l)) (ha : a.length = 3) : Y.call 68 a l = some r :=
 call_slim (Y := Y) rfl Tryd.func68 (ha ▸ ok68) slim68 h
def i_configurationsOk_l0_M (list : List (List Int)) (size : Int) (labels : Int) (t11_ : Int) (s : St) : Prop := s.v 0 = D.sl 70 (lst (fun x => D.sl 3 (lst (D.int .i64) x)) list) ∧ s.v 1 = D.int .i64 size ∧ s.v 2 = D.int .i64 labels ∧ s.v 9 = D.sl 70 (lst (fun x => D.sl 3 (lst (D.int .i64) x)) list) ∧ s.v 10 = D.int .i64 (list.length : Int) ∧ s.v 11 = D.int .i64 t11_
def i_configurationsOk_l0_X (list : List (List Int)) (size : Int) (labels : Int) (r : Unit ⊕ Unit) (ex : Ex) (s : St) : Prop := match r with
 | .inl q => ex = .ret ∧ s.v 6 = D.bool false
 | .inr q => ex = .exit 0
theorem i_configurationsOk_l0_wp (list : List (List Int)) (size : Int) (labels : Int) {v : Int} {s : St} {r : Unit ⊕ Unit} (h : i_configurationsOk_l0 list size labels v = some r) (hM : i_configurationsOk_l0_M list size labels v s) : wpD Y.env k68_l0 (i_configurationsOk_l0_X list size labels r) s := by
 unfold i_configurationsOk_l0 at h
 refine wd_itO (c := k68_l0b) (fun v => i_configurationsOk_l0_S list size labels v) (fun v s => i_configurationsOk_l0_M list size labels v s) (i_configurationsOk_l0_X list size labels) ?_ h hM
 clear h hM s v r
 intro t11_ s o hM h
 unfold i_configurationsOk_l0_S at h
 unfold i_configurationsOk_l0_M at hM
 obtain ⟨m0, m1, m2, m3, m4, m5⟩ := hM
 unfold k68_l0b
 by_cases e1 : t11_ < (list.length : Int)
 ·rw [if_pos e1] at h
  obtain ⟨e2, h⟩ := ckS h
  by_cases e3 : ((list.getD t11_.toNat default).length : Int) = size
  ·rw [if_pos e3] at h
   obtain ⟨e4, h⟩ := ckS h
   have c5 := g_slices_IsSorted_Sint_int_cl (list.getD t11_.toNat default) e4
   by_cases e6 : (sortedB (list.getD t11_.toNat default)) = true
   ·rw [if_pos e6] at h
    have c7 := i_allWithin_cl (list.getD t11_.toNat default) (0 : Int) (IntKind.i64.wrap (labels - 1)) e4
    by_cases e8 : (allIn (list.getD t11_.toNat default) (0 : Int) (IntKind.i64.wrap (labels - 1))) = true
    ·rw [if_pos e8] at h
     by_cases e9 : 0 < t11_
     ·rw [if_pos e9] at h
      obtain ⟨e10, h⟩ := ckS h
      obtain ⟨e11, h⟩ := ckS h
      have c12 := g_slices_Compare_Sint_int_cl (list.getD ((IntKind.i64.wrap (t11_ - 1)).toNat) default) (list.getD t11_.toNat default) e11 e4
      by_cases e13 : 0 ≤ (cmpL (list.getD ((IntKind.i64.wrap (t11_ - 1)).toNat) default) (list.getD t11_.toNat default))
      ·rw [if_pos e13] at h
       obtain rfl := Option.some.inj h
       simp (maxDischargeDepth := 9) only [↓xpre, xpost, xlst, xc2, xcore, yset, rg0, ↓reduceIte, Nat.reduceEqDiff, Nat.reduceLT, Nat.reduceLeDiff, Nat.reduceAdd, Nat.reduceMul, Nat.reduceMod, Nat.reduceDiv, Nat.reducePow, Nat.reduceSub, Nat.reduceBEq, Int.reduceLE, Int.reduceLT, Int.reduceEq, Int.reduceSub, Int.reduceAdd, Int.reduceToNat, Int.reduceNeg, m0, m1, m2, m3, m4, m5, e1, e2.1, e2.2, decide_eq_true e3, e4, c5, e6, c7, e8, e9, e10.1, e10.2, e11, c12, e13, i_configurationsOk_l0_M, i_configurationsOk_l0_X, sxN, sxE, sxR] <;> (repeat' apply And.intro) <;> first | rfl | exact ⟨_, rfl⟩ | exact ⟨_, _, rfl⟩ | simp [lst, cat2_nil]
      ·rw [if_neg e13] at h
       obtain rfl := Option.some.inj h
       simp (maxDischargeDepth := 9) only [↓xpre, xpost, xlst, xc2, xcore, yset, rg0, ↓reduceIte, Nat.reduceEqDiff, Nat.reduceLT, Nat.reduceLeDiff, Nat.reduceAdd, Nat.reduceMul, Nat.reduceMod, Nat.reduceDiv, Nat.reducePow, Nat.reduceSub, Nat.reduceBEq, Int.reduceLE, Int.reduceLT, Int.reduceEq, Int.reduceSub, Int.reduceAdd, Int.reduceToNat, Int.reduceNeg, m0, m1, m2, m3, m4, m5, e1, e2.1, e2.2, decide_eq_true e3, e4, c5, e6, c7, e8, e9, e10.1, e10.2, e11, c12, e13, i_configurationsOk_l0_M, i_configurationsOk_l0_X, sxN, sxE, sxR] <;> (repeat' apply And.intro) <;> first | rfl | exact ⟨_, rfl⟩ | exact ⟨_, _, rfl⟩ | simp [lst, cat2_nil]
     ·rw [if_neg e9] at h
      obtain rfl := Option.some.inj h
      simp (maxDischargeDepth := 9) only [↓xpre, xpost, xlst, xc2, xcore, yset, rg0, ↓reduceIte, Nat.reduceEqDiff, Nat.reduceLT, Nat.reduceLeDiff, Nat.reduceAdd, Nat.reduceMul, Nat.reduceMod, Nat.reduceDiv, Nat.reducePow, Nat.reduceSub, Nat.reduceBEq, Int.reduceLE, Int.reduceLT, Int.reduceEq, Int.reduceSub, Int.reduceAdd, Int.reduceToNat, Int.reduceNeg, m0, m1, m2, m3, m4, m5, e1, e2.1, e2.2, decide_eq_true e3, e4, c5, e6, c7, e8, e9, i_configurationsOk_l0_M, i_configurationsOk_l0_X, sxN, sxE, sxR] <;> (repeat' apply And.intro) <;> first | rfl | exact ⟨_, rfl⟩ | exact ⟨_, _, rfl⟩ | simp [lst, cat2_nil]
    ·rw [if_neg e8] at h
     have e8f : (allIn (list.getD t11_.toNat default) (0 : Int) (IntKind.i64.wrap (labels - 1))) = false := Bool.eq_false_iff.mpr e8
     obtain rfl := Option.some.inj h
     simp (maxDischargeDepth := 9) only [↓xpre, xpost, xlst, xc2, xcore, yset, rg0, ↓reduceIte, Nat.reduceEqDiff, Nat.reduceLT, Nat.reduceLeDiff, Nat.reduceAdd, Nat.reduceMul, Nat.reduceMod, Nat.reduceDiv, Nat.reducePow, Nat.reduceSub, Nat.reduceBEq, Int.reduceLE, Int.reduceLT, Int.reduceEq, Int.reduceSub, Int.reduceAdd, Int.reduceToNat, Int.reduceNeg, m0, m1, m2, m3, m4, m5, e1, e2.1, e2.2, decide_eq_true e3, e4, c5, e6, c7, e8f, i_configurationsOk_l0_M, i_configurationsOk_l0_X, sxN, sxE, sxR] <;> (repeat' apply And.intro) <;> first | rfl | exact ⟨_, rfl⟩ | exact ⟨_, _, rfl⟩ | simp [lst, cat2_nil]
   ·rw [if_neg e6] at h
    have e6f : (sortedB (list.getD t11_.toNat default)) = false := Bool.eq_false_iff.mpr e6
    obtain rfl := Option.some.inj h
    simp (maxDischargeDepth := 9) only [↓xpre, xpost, xlst, xc2, xcore, yset, rg0, ↓reduceIte, Nat.reduceEqDiff, Nat.reduceLT, Nat.reduceLeDiff, Nat.reduceAdd, Nat.reduceMul, Nat.reduceMod, Nat.reduceDiv, Nat.reducePow, Nat.reduceSub, Nat.reduceBEq, Int.reduceLE, Int.reduceLT, Int.reduceEq, Int.reduceSub, Int.reduceAdd, Int.reduceToNat, Int.reduceNeg, m0, m1, m2, m3, m4, m5, e1, e2.1, e2.2, decide_eq_true e3, e4, c5, e6f, i_configurationsOk_l0_M, i_configurationsOk_l0_X, sxN, sxE, sxR] <;> (repeat' apply And.intro) <;> first | rfl | exact ⟨_, rfl⟩ | exact ⟨_, _, rfl⟩ | simp [lst, cat2_nil]
  ·rw [if_neg e3] at h
   obtain rfl := Option.some.inj h
   simp (maxDischargeDepth := 9) only [↓xpre, xpost, xlst, xc2, xcore, yset, rg0, ↓reduceIte, Nat.reduceEqDiff, Nat.reduceLT, Nat.reduceLeDiff, Nat.reduceAdd, Nat.reduceMul, Nat.reduceMod, Nat.reduceDiv, Nat.reducePow, Nat.reduceSub, Nat.reduceBEq, Int.reduceLE, Int.reduceLT, Int.reduceEq, Int.reduceSub, Int.reduceAdd, Int.reduceToNat, Int.reduceNeg, m0, m1, m2, m3, m4, m5, e1, e2.1, e2.2, e3, i_configurationsOk_l0_M, i_configurationsOk_l0_X, sxN, sxE, sxR] <;> (repeat' apply And.intro) <;> first | rfl | exact ⟨_, rfl⟩ | exact ⟨_, _, rfl⟩ | simp [lst, cat2_nil]
 ·rw [if_neg e1] at h
  obtain rfl := Option.some.inj h
  simp (maxDischargeDepth := 9) only [↓xpre, xpost, xlst, xc2, xcore, yset, rg0, ↓reduceIte, Nat.reduceEqDiff, Nat.reduceLT, Nat.reduceLeDiff, Nat.reduceAdd, Nat.reduceMul, Nat.reduceMod, Nat.reduceDiv, Nat.reducePow, Nat.reduceSub, Nat.reduceBEq, Int.reduceLE, Int.reduceLT, Int.reduceEq, Int.reduceSub, Int.reduceAdd, Int.reduceToNat, Int.reduceNeg, m0, m1, m2, m3, m4, m5, e1, i_configurationsOk_l0_M, i_configurationsOk_l0_X, sxN, sxE, sxR] <;> (repeat' apply And.intro) <;> first | rfl | exact ⟨_, rfl⟩ | exact ⟨_, _, rfl⟩ | simp [lst, cat2_nil]
theorem i_configurationsOk_call (list : List (List Int)) (size : Int) (labels : Int) {r : Bool} (h : i_configurationsOk list size labels = some r) : Y.call 68 [D.sl 70 (lst (fun x => D.sl 3 (lst (D.int .i64) x)) list), D.int .i64 size, D.int .i64 labels] [] = some (D.bool r, []) := by
 refine c68 ?_ rfl
 unfold k68
 unfold i_configurationsOk at h
 obtain ⟨r1000_, hl2, h⟩ := bindS h
 try dsimp only at h
 simp (maxDischargeDepth := 9) only [↓xpre, xpost, xlst, xc2, xcore, yset, rg0, ↓reduceIte, Nat.reduceEqDiff, Nat.reduceLT, Nat.reduceLeDiff, Nat.reduceAdd, Nat.reduceMul, Nat.reduceMod, Nat.reduceDiv, Nat.reducePow, Nat.reduceSub, Nat.reduceBEq, Int.reduceLE, Int.reduceLT, Int.reduceEq, Int.reduceSub, Int.reduceAdd, Int.reduceToNat, Int.reduceNeg]
 refine wd_mono (i_configurationsOk_l0_wp list size labels hl2 ?_) ?_
 ·simp (maxDischargeDepth := 9) only [↓xpre, xpost, xlst, xc2, xcore, yset, rg0, ↓reduceIte, Nat.reduceEqDiff, Nat.reduceLT, Nat.reduceLeDiff, Nat.reduceAdd, Nat.reduceMul, Nat.reduceMod, Nat.reduceDiv, Nat.reducePow, Nat.reduceSub, Nat.reduceBEq, Int.reduceLE, Int.reduceLT, Int.reduceEq, Int.reduceSub, Int.reduceAdd, Int.reduceToNat, Int.reduceNeg, i_configurationsOk_l0_M] <;> (repeat' apply And.intro) <;> first | rfl | exact ⟨_, rfl⟩ | exact ⟨_, _, rfl⟩ | simp [lst, cat2_nil]
 ·intro ex2 s2 hX2
  rcases r1000_ with q1000_ | q1000_
  ·unfold i_configurationsOk_l0_X at hX2
   dsimp only at hX2 h
   obtain ⟨rfl, n2_0⟩ := hX2
   obtain rfl := Option.some.inj h
   simp (maxDischargeDepth := 9) only [↓xpre, xpost, xlst, xc2, xcore, yset, rg0, ↓reduceIte, Nat.reduceEqDiff, Nat.reduceLT, Nat.reduceLeDiff, Nat.reduceAdd, Nat.reduceMul, Nat.reduceMod, Nat.reduceDiv, Nat.reducePow, Nat.reduceSub, Nat.reduceBEq, Int.reduceLE, Int.reduceLT, Int.reduceEq, Int.reduceSub, Int.reduceAdd, Int.reduceToNat, Int.reduceNeg, n2_0] <;> (repeat' apply And.intro) <;> first | rfl | exact ⟨_, rfl⟩ | exact ⟨_, _, rfl⟩ | simp [lst, cat2_nil]
  ·unfold i_configurationsOk_l0_X at hX2
   dsimp only at hX2 h
   obtain rfl := hX2
   obtain rfl := Option.some.inj h
   simp (maxDischargeDepth := 9) only [↓xpre, xpost, xlst, xc2, xcore, yset, rg0, ↓reduceIte, Nat.reduceEqDiff, Nat.reduceLT, Nat.reduceLeDiff, Nat.reduceAdd, Nat.reduceMul, Nat.reduceMod, Nat.reduceDiv, Nat.reducePow, Nat.reduceSub, Nat.reduceBEq, Int.reduceLE, Int.reduceLT, Int.reduceEq, Int.reduceSub, Int.reduceAdd, Int.reduceToNat, Int.reduceNeg] <;> (repeat' apply And.intro) <;> first | rfl | exact ⟨_, rfl⟩ | exact ⟨_, _, rfl⟩ | simp [lst, cat2_nil]

theorem i_configurationsOk_eq (l : List (List Int)) (size labels : Int) (h : Short l) (hl : 1 ≤ labels ∧ labels ≤ 8) : i_configurationsOk l size labels = some (confs l size labels) := by
 have h1 := h.1
 unfold i_configurationsOk i_configurationsOk_l0
 have key := itO_all (fun v => i_configurationsOk_l0_S l size labels v) (fun i => (i : Int)) l.length (confAt l size labels) (.inl ()) (.inr ()) ?_ ?_
 ·simp only [Int.natCast_zero] at key
  rw [key]
  unfold confs
  cases (List.range l.length).all (confAt l size labels) <;> rfl
 ·intro i hi
  simp only [i_configurationsOk_l0_S]
  rw [if_pos (lt_nat hi), ckT (ix_nat hi), Int.toNat_natCast, wrS i (by omega), wr64 (labels - 1) (by omega)]
  have hs := h.getD i
  have hs1 := h.getD (i - 1)
  rw [ckT hs]
  unfold confAt
  generalize l.getD i default = x at *
  by_cases q1 : (x.length : Int) = size
  ·rw [if_pos q1]
   cases q2 : sortedB x with
   | false => simp
   | true =>
    rw [if_pos rfl]
    cases q3 : allIn x 0 (labels - 1) with
    | false => simp
    | true =>
     rw [if_pos rfl]
     by_cases q4 : i = 0
     ·simp [q1, q4]
     ·rw [if_pos (by omega), wr64 _ (by omega), ckT (by omega), show ((i : Int) - 1).toNat = i - 1 by omega, ckT hs1]
      generalize l.getD (i - 1) default = y at *
      by_cases q5 : 0 ≤ cmpL y x
      ·rw [if_pos q5, if_neg (by simp; intro _; exact ⟨q4, q5⟩)]
      ·rw [if_neg q5, if_pos (by simp [q1, q4]; omega)]
  ·have e := decide_eq_false q1
   rw [if_neg q1, if_neg (by rw [e]; simp)]
 ·simp only [i_configurationsOk_l0_S]; rw [if_neg (not_lt_nat _)]
theorem i_configurationsOk_cl (list : List (List Int)) (size : Int) (labels : Int) (h0 : Short list) (h1 : 1 ≤ labels ∧ labels ≤ 8) : Y.call 68 [D.sl 70 (lst (fun x => D.sl 3 (lst (D.int .i64) x)) list), D.int .i64 size, D.int .i64 labels] [] = some (D.bool (confs list size labels), []) := i_configurationsOk_call list size labels (i_configurationsOk_eq list size labels h0 h1)
noncomputable def s_prLists_l0_S (l : List (List Int)) (size : Int) (labels : Int) (t12_ : Int) (k : Int) : Option ((Int) ⊕ (Unit ⊕ Unit)) :=
 if k < size then
  ck (0 ≤ IntKind.i64.wrap (k - 1) ∧ (IntKind.i64.wrap (k - 1)).toNat < (l.getD t12_.toNat default).length) <|
  ck (0 ≤ k ∧ k.toNat < (l.getD t12_.toNat default).length) <|
  if ((l.getD t12_.toNat default).getD k.toNat default) < ((l.getD t12_.toNat default).getD ((IntKind.i64.wrap (k - 1)).toNat) default) then
   some (Sum.inr (Sum.inl ()))
  else
   some (Sum.inl (IntKind.i64.wrap (k + 1)))
 else
  some (Sum.inr (Sum.inr ()))
noncomputable def s_prLists_l0 (l : List (List Int)) (size : Int) (labels : Int) (t12_ : Int) (v : Int) : Option (Unit ⊕ Unit) := itO (fun v => s_prLists_l0_S l size labels t12_ v) v
noncomputable def s_prLists_l1_S (l : List (List Int)) (size : Int) (labels : Int) (t12_ : Int) : Option ((Int) ⊕ (Unit ⊕ Unit)) :=
 if t12_ < (l.length : Int) then
  ck (0 ≤ t12_ ∧ t12_.toNat < l.length) <|
  if ((l.getD t12_.toNat default).length : Int) = size then
   ck ((l.getD t12_.toNat default).length < 1099511627776) <|
   if (allIn (l.getD t12_.toNat default) (0 : Int) (IntKind.i64.wrap (labels - 1))) = true then
    if 0 < t12_ then
     ck (0 ≤ IntKind.i64.wrap (t12_ - 1) ∧ (IntKind.i64.wrap (t12_ - 1)).toNat < l.length) <|
     ck ((l.getD ((IntKind.i64.wrap (t12_ - 1)).toNat) default).length < 1099511627776) <|
     ck ((l.getD ((IntKind.i64.wrap (t12_ - 1)).toNat) default).length = (l.getD t12_.toNat default).length) <|
     ck (smallI (l.getD ((IntKind.i64.wrap (t12_ - 1)).toNat) default) = true) <|
     ck (smallI (l.getD t12_.toNat default) = true) <|
     if 0 ≤ (cmpL (l.getD ((IntKind.i64.wrap (t12_ - 1)).toNat) default) (l.getD t12_.toNat default)) then
      some (Sum.inr (Sum.inl ()))
     else
      (s_prLists_l0 l size labels t12_ 1).bind fun r1000_ =>
      match r1000_ with
      | .inl q1000_ =>
       some (Sum.inr (Sum.inl ()))
      | .inr q1000_ =>
       some (Sum.inl (IntKind.i64.wrap (t12_ + 1)))
    else
     (s_prLists_l0 l size labels t12_ 1).bind fun r1000_ =>
     match r1000_ with
     | .inl q1000_ =>
      some (Sum.inr (Sum.inl ()))
     | .inr q1000_ =>
      some (Sum.inl (IntKind.i64.wrap (t12_ + 1)))
   else
    some (Sum.inr (Sum.inl ()))
  else
   some (Sum.inr (Sum.inl ()))
 else
  some (Sum.inr (Sum.inr ()))
noncomputable def s_prLists_l1 (l : List (List Int)) (size : Int) (labels : Int) (v : Int) : Option (Unit ⊕ Unit) := itO (fun v => s_prLists_l1_S l size labels v) v
noncomputable def s_prLists (l : List (List Int)) (size : Int) (labels : Int) : Option (Bool) :=
 (s_prLists_l1 l size labels 0).bind fun r1001_ =>
 match r1001_ with
 | .inl q1001_ =>
  some false
 | .inr q1001_ =>
  some true
/-- spec.prLists -/
def k65_l0b : SC :=
 .seq
 (.seq
 (.ops [
 ⟨(some 42), (.move (.tmp 9)), 3, none⟩,
 ⟨(some 43), (.move (.tmp 1)), 3, none⟩,
 ⟨(some 44), (.binOp .lss 3 (.tmp 42) (.tmp 43) 3), 4, none⟩])
 (.cond (.tmp 44)
 .skip
 (.exit 2)))
 (.seq
 (.block 3
 (.seq
 (.draws [
 (⟨[47, 8, 8], [47, 48, 49, 50, 51, 52, 53, 54, 55, 56], [47]⟩, ⟨(some 47), (.move (.tmp 8)), 70, none⟩),
 (⟨[48, 9, 9], [47, 48, 49, 50, 51, 52, 53, 54, 55, 56], [48]⟩, ⟨(some 48), (.move (.tmp 9)), 3, none⟩),
 (⟨[49, 48, 9], [47, 48, 49, 50, 51, 52, 53, 54, 55, 56], [49]⟩, ⟨(some 49), (.binOp .sub 3 (.tmp 48) (.const (.int .i64 1)) 3), 3, none⟩),
 (⟨[50, 47, 49, 8, 49], [47, 48, 49, 50, 51, 52, 53, 54, 55, 56], [50]⟩, ⟨(some 50), (.indexAddr 70 (.tmp 47) (.tmp 49)), 0, none⟩),
 (⟨[51, 50, 8], [47, 48, 49, 50, 51, 52, 53, 54, 55, 56], [51]⟩, ⟨(some 51), (.load 3 (.tmp 50)), 3, none⟩),
 (⟨[52, 8, 8], [47, 48, 49, 50, 51, 52, 53, 54, 55, 56], [52]⟩, ⟨(some 52), (.move (.tmp 8)), 70, none⟩),
 (⟨[53, 9, 9], [47, 48, 49, 50, 51, 52, 53, 54, 55, 56], [53]⟩, ⟨(some 53), (.move (.tmp 9)), 3, none⟩),
 (⟨[54, 52, 53, 8, 9], [47, 48, 49, 50, 51, 52, 53, 54, 55, 56], [54]⟩, ⟨(some 54), (.indexAddr 70 (.tmp 52) (.tmp 53)), 0, none⟩),
 (⟨[55, 54, 8], [47, 48, 49, 50, 51, 52, 53, 54, 55, 56], [55]⟩, ⟨(some 55), (.load 3 (.tmp 54)), 3, none⟩),
 (⟨[56, 51, 55, 8, 8], [47, 48, 49, 50, 51, 52, 53, 54, 55, 56], [56]⟩, ⟨(some 56), (.binOp .gtr 3 (.tmp 51) (.tmp 55) 3), 4, none⟩)])
 (.cond (.tmp 56)
 (.seq
 (.ops [
 ⟨(some 6), (.assign (.const (.bool false))), 4, none⟩])
 .ret)
 .skip)))
 (.ops [
 ⟨(some 45), (.move (.tmp 9)), 3, none⟩,
 ⟨(some 46), (.binOp .add 3 (.tmp 45) (.const (.int .i64 1)) 3), 3, none⟩,
 ⟨(some 9), (.assign (.tmp 46)), 3, none⟩]))
def k65_l0 : SC := .loop k65_l0b
def k65_l1b : SC :=
 .seq
 (.ops [
 ⟨(some 13), (.binOp .lss 3 (.tmp 12) (.tmp 11) 3), 0, none⟩])
 (.seq
 (.cond (.tmp 13)
 .skip
 (.exit 0))
 (.seq
 (.block 1
 (.seq
 (.ops [
 ⟨(some 14), (.move (.tmp 12)), 3, none⟩,
 ⟨(some 15), (.indexAddr 34 (.tmp 10) (.tmp 12)), 0, none⟩,
 ⟨(some 16), (.load 70 (.tmp 15)), 70, none⟩,
 ⟨(some 7), (.assign (.tmp 14)), 3, none⟩,
 ⟨(some 8), (.assign (.tmp 16)), 70, none⟩])
 (.seq
 (.seq
 (.ops [
 ⟨(some 17), (.move (.tmp 8)), 70, none⟩,
 ⟨(some 18), (.call ⟨(.builtin .len), #[(.tmp 17)], #[70]⟩), 3, none⟩,
 ⟨(some 19), (.move (.tmp 1)), 3, none⟩,
 ⟨(some 20), (.binOp .neq 3 (.tmp 18) (.tmp 19) 3), 4, none⟩,
 ⟨(some 21), (.move (.tmp 20)), 4, none⟩,
 ⟨(some 22), (.move (.tmp 8)), 70, (some (some 21, false))⟩,
 ⟨(some 23), (.move (.tmp 2)), 3, (some (some 21, false))⟩,
 ⟨(some 24), (.binOp .sub 3 (.tmp 23) (.const (.int .i64 1)) 3), 3, (some (some 21, false))⟩,
 ⟨(some 25), (.call ⟨(.value (.func 86)), #[(.tmp 22), (.const (.int .i64 0)), (.tmp 24)], #[70, 3, 3]⟩), 4, (some (some 21, false))⟩,
 ⟨(some 26), (.unOp .not 4 (.tmp 25)), 4, (some (some 21, false))⟩,
 ⟨(some 27), (.pick (.tmp 21) (.const (.bool true)) (.tmp 26)), 4, none⟩,
 ⟨(some 28), (.move (.tmp 27)), 4, none⟩,
 ⟨(some 29), (.move (.tmp 7)), 3, (some (some 28, false))⟩,
 ⟨(some 30), (.binOp .gtr 3 (.tmp 29) (.const (.int .i64 0)) 3), 4, (some (some 28, false))⟩,
 ⟨(some 31), (.move (.tmp 30)), 4, (some (some 28, false))⟩,
 ⟨(some 32), (.move (.tmp 0)), 34, (some (some 31, true))⟩,
 ⟨(some 33), (.move (.tmp 7)), 3, (some (some 31, true))⟩,
 ⟨(some 34), (.binOp .sub 3 (.tmp 33) (.const (.int .i64 1)) 3), 3, (some (some 31, true))⟩,
 ⟨(some 35), (.indexAddr 34 (.tmp 32) (.tmp 34)), 0, (some (some 31, true))⟩,
 ⟨(some 36), (.load 70 (.tmp 35)), 70, (some (some 31, true))⟩,
 ⟨(some 37), (.move (.tmp 8)), 70, (some (some 31, true))⟩,
 ⟨(some 38), (.call ⟨(.value (.func 87)), #[(.tmp 36), (.tmp 37)], #[70, 70]⟩), 3, (some (some 31, true))⟩,
 ⟨(some 39), (.binOp .geq 3 (.tmp 38) (.const (.int .i64 0)) 3), 4, (some (some 31, true))⟩,
 ⟨(some 40), (.pick (.tmp 31) (.tmp 39) (.const (.bool false))), 4, (some (some 28, false))⟩,
 ⟨(some 41), (.pick (.tmp 28) (.const (.bool true)) (.tmp 40)), 4, none⟩])
 (.cond (.tmp 41)
 (.seq
 (.ops [
 ⟨(some 6), (.assign (.const (.bool false))), 4, none⟩])
 .ret)
 .skip))
 (.seq
 (.ops [
 ⟨(some 9), (.assign (.const (.int .i64 1))), 3, none⟩])
 (.block 2
 k65_l0)))))
 (.ops [
 ⟨(some 57), (.binOp .add 3 (.tmp 12) (.const (.int .i64 1)) 3), 3, none⟩,
 ⟨(some 12), (.move (.tmp 57)), 3, none⟩])))
def k65_l1 : SC := .loop k65_l1b
def k65 : SC :=
 .seq
 (.ops [
 ⟨(some 6), (.assign (.const (.bool false))), 4, none⟩])
 (.seq
 (.seq
 (.ops [
 ⟨(some 10), (.move (.tmp 0)), 34, none⟩,
 ⟨(some 11), (.call ⟨(.builtin .len), #[(.tmp 10)], #[34]⟩), 3, none⟩,
 ⟨(some 12), (.move (.const (.int .i64 0))), 3, none⟩])
 (.block 0
 k65_l1))
 (.seq
 (.ops [
 ⟨(some 6), (.assign (.const (.bool true))), 4, none⟩])
 .ret))
theorem slim65 : Tryd.f65.body.map (slim lends) = some k65 := by kernel_rfl
theorem ok65 : fnOk Tryd.f65 3 = true := by kernel_rfl
theorem c65 {a l : List D} {r : D × List D} (h : wpD Y.env k65 (fin tys l.length [ResultVar.tmp 6] r) (entry a l)) (ha : a.length = 3) : Y.call 65 a l = some r :=
 call_slim (Y := Y) rfl Tryd.func65 (ha ▸ ok65) slim65 h
def s_prLists_l0_M (l : List (List Int)) (size : Int) (labels : Int) (t12_ : Int) (k : Int) (s : St) : Prop := s.v 0 = D.sl 70 (lst (fun x => D.sl 3 (lst (D.int .i64) x)) l) ∧ s.v 1 = D.int .i64 size ∧ s.v 2 = D.int .i64 labels ∧ s.v 8 = D.sl 3 (lst (D.int .i64) (l.getD t12_.toNat default)) ∧ s.v 9 = D.int .i64 k ∧ s.v 10 = D.sl 70 (lst (fun x => D.sl 3 (lst (D.int .i64) x)) l) ∧ s.v 11 = D.int .i64 (l.length : Int) ∧ s.v 12 = D.int .i64 t12_
def s_prLists_l0_X (l : List (List Int)) (size : Int) (labels : Int) (t12_ : Int) (r : Unit ⊕ Unit) (ex : Ex) (s : St) : Prop := match r with
 | .inl q => ex = .ret ∧ s.v 6 = D.bool false
 | .inr q => ex = .exit 2 ∧ s.v 0 = D.sl 70 (lst (fun x => D.sl 3 (lst (D.int .i64) x)) l) ∧ s.v 1 = D.int .i64 size ∧ s.v 2 = D.int .i64 labels ∧ s.v 10 = D.sl 70 (lst (fun x => D.sl 3 (lst (D.int .i64) x)) l) ∧ s.v 11 = D.int .i64 (l.length : Int) ∧ s.v 12 = D.int .i64 t12_
theorem s_prLists_l0_wp (l : List (List Int)) (size : Int) (labels : Int) (t12_ : Int) {v : Int} {s : St} {r : Unit ⊕ Unit} (h : s_prLists_l0 l size labels t12_ v = some r) (hM : s_prLists_l0_M l size labels t12_ v s) : wpD Y.env k65_l0 (s_prLists_l0_X l size labels t12_ r) s := by
 unfold s_prLists_l0 at h
 refine wd_itO (c := k65_l0b) (fun v => s_prLists_l0_S l size labels t12_ v) (fun v s => s_prLists_l0_M l size labels t12_ v s) (s_prLists_l0_X l size labels t12_) ?_ h hM
 clear h hM s v r
 intro k s o hM h
 unfold s_prLists_l0_S at h
 unfold s_prLists_l0_M at hM
 obtain ⟨m0, m1, m2, m3, m4, m5, m6, m7⟩ := hM
 unfold k65_l0b
 by_cases e15 : k < size
 ·rw [if_pos e15] at h
  obtain ⟨e16, h⟩ := ckS h
  obtain ⟨e17, h⟩ := ckS h
  by_cases e18 : ((l.getD t12_.toNat default).getD k.toNat default) < ((l.getD t12_.toNat default).getD ((IntKind.i64.wrap (k - 1)).toNat) default)
  ·rw [if_pos e18] at h
   obtain rfl := Option.some.inj h
   simp (maxDischargeDepth := 9) only [↓xpre, xpost, xlst, xc2, xcore, yset, rg0, ↓reduceIte, Nat.reduceEqDiff, Nat.reduceLT, Nat.reduceLeDiff, Nat.reduceAdd, Nat.reduceMul, Nat.reduceMod, Nat.reduceDiv, Nat.reducePow, Nat.reduceSub, Nat.reduceBEq, Int.reduceLE, Int.reduceLT, Int.reduceEq, Int.reduceSub, Int.reduceAdd, Int.reduceToNat, Int.reduceNeg, m0, m1, m2, m3, m4, m5, m6, m7, e15, e16.1, e16.2, e17.1, e17.2, e18, s_prLists_l0_M, s_prLists_l0_X, sxN, sxE, sxR] <;> (repeat' apply And.intro) <;> first | rfl | exact ⟨_, rfl⟩ | exact ⟨_, _, rfl⟩ | simp [lst, cat2_nil]
  ·rw [if_neg e18] at h
   obtain rfl := Option.some.inj h
   simp (maxDischargeDepth := 9) only [↓xpre, xpost, xlst, xc2, xcore, yset, rg0, ↓reduceIte, Nat.reduceEqDiff, Nat.reduceLT, Nat.reduceLeDiff, Nat.reduceAdd, Nat.reduceMul, Nat.reduceMod, Nat.reduceDiv, Nat.reducePow, Nat.reduceSub, Nat.reduceBEq, Int.reduceLE, Int.reduceLT, Int.reduceEq, Int.reduceSub, Int.reduceAdd, Int.reduceToNat, Int.reduceNeg, m0, m1, m2, m3, m4, m5, m6, m7, e15, e16.1, e16.2, e17.1, e17.2, e18, s_prLists_l0_M, s_prLists_l0_X, sxN, sxE, sxR] <;> (repeat' apply And.intro) <;> first | rfl | exact ⟨_, rfl⟩ | exact ⟨_, _, rfl⟩ | simp [lst, cat2_nil]
 ·rw [if_neg e15] at h
  obtain rfl := Option.some.inj h
  simp (maxDischargeDepth := 9) only [↓xpre, xpost, xlst, xc2, xcore, yset, rg0, ↓reduceIte, Nat.reduceEqDiff, Nat.reduceLT, Nat.reduceLeDiff, Nat.reduceAdd, Nat.reduceMul, Nat.reduceMod, Nat.reduceDiv, Nat.reducePow, Nat.reduceSub, Nat.reduceBEq, Int.reduceLE, Int.reduceLT, Int.reduceEq, Int.reduceSub, Int.reduceAdd, Int.reduceToNat, Int.reduceNeg, m0, m1, m2, m3, m4, m5, m6, m7, e15, s_prLists_l0_M, s_prLists_l0_X, sxN, sxE, sxR] <;> (repeat' apply And.intro) <;> first | rfl | exact ⟨_, rfl⟩ | exact ⟨_, _, rfl⟩ | simp [lst, cat2_nil]
def s_prLists_l1_M (l : List (List Int)) (size : Int) (labels : Int) (t12_ : Int) (s : St) : Prop := s.v 0 = D.sl 70 (lst (fun x => D.sl 3 (lst (D.int .i64) x)) l) ∧ s.v 1 = D.int .i64 size ∧ s.v 2 = D.int .i64 labels ∧ s.v 10 = D.sl 70 (lst (fun x => D.sl 3 (lst (D.int .i64) x)) l) ∧ s.v 11 = D.int .i64 (l.length : Int) ∧ s.v 12 = D.int .i64 t12_
def s_prLists_l1_X (l : List (List Int)) (size : Int) (labels : Int) (r : Unit ⊕ Unit) (ex : Ex) (s : St) : Prop := match r with
 | .inl q => ex = .ret ∧ s.v 6 = D.bool false
 | .inr q => ex = .exit 0
theorem s_prLists_l1_wp (l : List (List Int)) (size : Int) (labels : Int) {v : Int} {s : St} {r : Unit ⊕ Unit} (h : s_prLists_l1 l size labels v = some r) (hM : s_prLists_l1_M l size labels v s) : wpD Y.env k65_l1 (s_prLists_l1_X l size labels r) s := by
 unfold s_prLists_l1 at h
 refine wd_itO (c := k65_l1b) (fun v => s_prLists_l1_S l size labels v) (fun v s => s_prLists_l1_M l size labels v s) (s_prLists_l1_X l size labels) ?_ h hM
 clear h hM s v r
 intro t12_ s o hM h
 unfold s_prLists_l1_S at h
 unfold s_prLists_l1_M at hM
 obtain ⟨m0, m1, m2, m3, m4, m5⟩ := hM
 unfold k65_l1b
 by_cases e1 : t12_ < (l.length : Int)
 ·rw [if_pos e1] at h
  obtain ⟨e2, h⟩ := ckS h
  by_cases e3 : ((l.getD t12_.toNat default).length : Int) = size
  ·rw [if_pos e3] at h
   obtain ⟨e4, h⟩ := ckS h
   have c5 := s_l1All_cl (l.getD t12_.toNat default) (0 : Int) (IntKind.i64.wrap (labels - 1)) e4
   by_cases e6 : (allIn (l.getD t12_.toNat default) (0 : Int) (IntKind.i64.wrap (labels - 1))) = true
   ·rw [if_pos e6] at h
    by_cases e7 : 0 < t12_
    ·rw [if_pos e7] at h
     obtain ⟨e8, h⟩ := ckS h
     obtain ⟨e9, h⟩ := ckS h
     obtain ⟨e10, h⟩ := ckS h
     obtain ⟨e11, h⟩ := ckS h
     obtain ⟨e12, h⟩ := ckS h
     have c13 := s_prOrder_cl (l.getD ((IntKind.i64.wrap (t12_ - 1)).toNat) default) (l.getD t12_.toNat default) e9 e10 e11 e12
     by_cases e14 : 0 ≤ (cmpL (l.getD ((IntKind.i64.wrap (t12_ - 1)).toNat) default) (l.getD t12_.toNat default))
     ·rw [if_pos e14] at h
      obtain rfl := Option.some.inj h
      simp (maxDischargeDepth := 9) only [↓xpre, xpost, xlst, xc2, xcore, yset, rg0, ↓reduceIte, Nat.reduceEqDiff, Nat.reduceLT, Nat.reduceLeDiff, Nat.reduceAdd, Nat.reduceMul, Nat.reduceMod, Nat.reduceDiv, Nat.reducePow, Nat.reduceSub, Nat.reduceBEq, Int.reduceLE, Int.reduceLT, Int.reduceEq, Int.reduceSub, Int.reduceAdd, Int.reduceToNat, Int.reduceNeg, m0, m1, m2, m3, m4, m5, e1, e2.1, e2.2, decide_eq_true e3, e4, c5, e6, e7, e8.1, e8.2, e9, decide_eq_true e10, e11, e12, c13, e14, s_prLists_l1_M, s_prLists_l1_X, sxN, sxE, sxR] <;> (repeat' apply And.intro) <;> first | rfl | exact ⟨_, rfl⟩ | exact ⟨_, _, rfl⟩ | simp [lst, cat2_nil]
     ·rw [if_neg e14] at h
      obtain ⟨r1000_, hl16, h⟩ := bindS h
      try dsimp only at h
      simp (maxDischargeDepth := 9) only [↓xpre, xpost, xlst, xc2, xcore, yset, rg0, ↓reduceIte, Nat.reduceEqDiff, Nat.reduceLT, Nat.reduceLeDiff, Nat.reduceAdd, Nat.reduceMul, Nat.reduceMod, Nat.reduceDiv, Nat.reducePow, Nat.reduceSub, Nat.reduceBEq, Int.reduceLE, Int.reduceLT, Int.reduceEq, Int.reduceSub, Int.reduceAdd, Int.reduceToNat, Int.reduceNeg, m0, m1, m2, m3, m4, m5, e1, e2.1, e2.2, decide_eq_true e3, e4, c5, e6, e7, e8.1, e8.2, e9, decide_eq_true e10, e11, e12, c13, e14]
      refine wd_mono (s_prLists_l0_wp l size labels t12_ hl16 ?_) ?_
      ·simp (maxDischargeDepth := 9) only [↓xpre, xpost, xlst, xc2, xcore, yset, rg0, ↓reduceIte, Nat.reduceEqDiff, Nat.reduceLT, Nat.reduceLeDiff, Nat.reduceAdd, Nat.reduceMul, Nat.reduceMod, Nat.reduceDiv, Nat.reducePow, Nat.reduceSub, Nat.reduceBEq, Int.reduceLE, Int.reduceLT, Int.reduceEq, Int.reduceSub, Int.reduceAdd, Int.reduceToNat, Int.reduceNeg, m0, m1, m2, m3, m4, m5, e1, e2.1, e2.2, decide_eq_true e3, e4, c5, e6, e7, e8.1, e8.2, e9, decide_eq_true e10, e11, e12, c13, e14, s_prLists_l0_M] <;> (repeat' apply And.intro) <;> first | rfl | exact ⟨_, rfl⟩ | exact ⟨_, _, rfl⟩ | simp [lst, cat2_nil]
      ·intro ex16 s16 hX16
       rcases r1000_ with q1000_ | q1000_
       ·unfold s_prLists_l0_X at hX16
        dsimp only at hX16 h
        obtain ⟨rfl, n16_0⟩ := hX16
        obtain rfl := Option.some.inj h
        simp (maxDischargeDepth := 9) only [↓xpre, xpost, xlst, xc2, xcore, yset, rg0, ↓reduceIte, Nat.reduceEqDiff, Nat.reduceLT, Nat.reduceLeDiff, Nat.reduceAdd, Nat.reduceMul, Nat.reduceMod, Nat.reduceDiv, Nat.reducePow, Nat.reduceSub, Nat.reduceBEq, Int.reduceLE, Int.reduceLT, Int.reduceEq, Int.reduceSub, Int.reduceAdd, Int.reduceToNat, Int.reduceNeg, e1, e2.1, e2.2, decide_eq_true e3, e4, c5, e6, e7, e8.1, e8.2, e9, decide_eq_true e10, e11, e12, c13, e14, n16_0, s_prLists_l1_M, s_prLists_l1_X, sxN, sxE, sxR] <;> (repeat' apply And.intro) <;> first | rfl | exact ⟨_, rfl⟩ | exact ⟨_, _, rfl⟩ | simp [lst, cat2_nil]
       ·unfold s_prLists_l0_X at hX16
        dsimp only at hX16 h
        obtain ⟨rfl, n16_0, n16_1, n16_2, n16_3, n16_4, n16_5⟩ := hX16
        obtain rfl := Option.some.inj h
        simp (maxDischargeDepth := 9) only [↓xpre, xpost, xlst, xc2, xcore, yset, rg0, ↓reduceIte, Nat.reduceEqDiff, Nat.reduceLT, Nat.reduceLeDiff, Nat.reduceAdd, Nat.reduceMul, Nat.reduceMod, Nat.reduceDiv, Nat.reducePow, Nat.reduceSub, Nat.reduceBEq, Int.reduceLE, Int.reduceLT, Int.reduceEq, Int.reduceSub, Int.reduceAdd, Int.reduceToNat, Int.reduceNeg, e1, e2.1, e2.2, decide_eq_true e3, e4, c5, e6, e7, e8.1, e8.2, e9, decide_eq_true e10, e11, e12, c13, e14, n16_0, n16_1, n16_2, n16_3, n16_4, n16_5, s_prLists_l1_M, s_prLists_l1_X, sxN, sxE, sxR] <;> (repeat' apply And.intro) <;> first | rfl | exact ⟨_, rfl⟩ | exact ⟨_, _, rfl⟩ | simp [lst, cat2_nil]
    ·rw [if_neg e7] at h
     obtain ⟨r1000_, hl9, h⟩ := bindS h
     try dsimp only at h
     simp (maxDischargeDepth := 9) only [↓xpre, xpost, xlst, xc2, xcore, yset, rg0, ↓reduceIte, Nat.reduceEqDiff, Nat.reduceLT, Nat.reduceLeDiff, Nat.reduceAdd, Nat.reduceMul, Nat.reduceMod, Nat.reduceDiv, Nat.reducePow, Nat.reduceSub, Nat.reduceBEq, Int.reduceLE, Int.reduceLT, Int.reduceEq, Int.reduceSub, Int.reduceAdd, Int.reduceToNat, Int.reduceNeg, m0, m1, m2, m3, m4, m5, e1, e2.1, e2.2, decide_eq_true e3, e4, c5, e6, e7]
     refine wd_mono (s_prLists_l0_wp l size labels t12_ hl9 ?_) ?_
     ·simp (maxDischargeDepth := 9) only [↓xpre, xpost, xlst, xc2, xcore, yset, rg0, ↓reduceIte, Nat.reduceEqDiff, Nat.reduceLT, Nat.reduceLeDiff, Nat.reduceAdd, Nat.reduceMul, Nat.reduceMod, Nat.reduceDiv, Nat.reducePow, Nat.reduceSub, Nat.reduceBEq, Int.reduceLE, Int.reduceLT, Int.reduceEq, Int.reduceSub, Int.reduceAdd, Int.reduceToNat, Int.reduceNeg, m0, m1, m2, m3, m4, m5, e1, e2.1, e2.2, decide_eq_true e3, e4, c5, e6, e7, s_prLists_l0_M] <;> (repeat' apply And.intro) <;> first | rfl | exact ⟨_, rfl⟩ | exact ⟨_, _, rfl⟩ | simp [lst, cat2_nil]
     ·intro ex9 s9 hX9
      rcases r1000_ with q1000_ | q1000_
      ·unfold s_prLists_l0_X at hX9
       dsimp only at hX9 h
       obtain ⟨rfl, n9_0⟩ := hX9
       obtain rfl := Option.some.inj h
       simp (maxDischargeDepth := 9) only [↓xpre, xpost, xlst, xc2, xcore, yset, rg0, ↓reduceIte, Nat.reduceEqDiff, Nat.reduceLT, Nat.reduceLeDiff, Nat.reduceAdd, Nat.reduceMul, Nat.reduceMod, Nat.reduceDiv, Nat.reducePow, Nat.reduceSub, Nat.reduceBEq, Int.reduceLE, Int.reduceLT, Int.reduceEq, Int.reduceSub, Int.reduceAdd, Int.reduceToNat, Int.reduceNeg, e1, e2.1, e2.2, decide_eq_true e3, e4, c5, e6, e7, n9_0, s_prLists_l1_M, s_prLists_l1_X, sxN, sxE, sxR] <;> (repeat' apply And.intro) <;> first | rfl | exact ⟨_, rfl⟩ | exact ⟨_, _, rfl⟩ | simp [lst, cat2_nil]
      ·unfold s_prLists_l0_X at hX9
       dsimp only at hX9 h
       obtain ⟨rfl, n9_0, n9_1, n9_2, n9_3, n9_4, n9_5⟩ := hX9
       obtain rfl := Option.some.inj h
       simp (maxDischargeDepth := 9) only [↓xpre, xpost, xlst, xc2, xcore, yset, rg0, ↓reduceIte, Nat.reduceEqDiff, Nat.reduceLT, Nat.reduceLeDiff, Nat.reduceAdd, Nat.reduceMul, Nat.reduceMod, Nat.reduceDiv, Nat.reducePow, Nat.reduceSub, Nat.reduceBEq, Int.reduceLE, Int.reduceLT, Int.reduceEq, Int.reduceSub, Int.reduceAdd, Int.reduceToNat, Int.reduceNeg, e1, e2.1, e2.2, decide_eq_true e3, e4, c5, e6, e7, n9_0, n9_1, n9_2, n9_3, n9_4, n9_5, s_prLists_l1_M, s_prLists_l1_X, sxN, sxE, sxR] <;> (repeat' apply And.intro) <;> first | rfl | exact ⟨_, rfl⟩ | exact ⟨_, _, rfl⟩ | simp [lst, cat2_nil]
   ·rw [if_neg e6] at h
    have e6f : (allIn (l.getD t12_.toNat default) (0 : Int) (IntKind.i64.wrap (labels - 1))) = false := Bool.eq_false_iff.mpr e6
    obtain rfl := Option.some.inj h
    simp (maxDischargeDepth := 9) only [↓xpre, xpost, xlst, xc2, xcore, yset, rg0, ↓reduceIte, Nat.reduceEqDiff, Nat.reduceLT, Nat.reduceLeDiff, Nat.reduceAdd, Nat.reduceMul, Nat.reduceMod, Nat.reduceDiv, Nat.reducePow, Nat.reduceSub, Nat.reduceBEq, Int.reduceLE, Int.reduceLT, Int.reduceEq, Int.reduceSub, Int.reduceAdd, Int.reduceToNat, Int.reduceNeg, m0, m1, m2, m3, m4, m5, e1, e2.1, e2.2, decide_eq_true e3, e4, c5, e6f, s_prLists_l1_M, s_prLists_l1_X, sxN, sxE, sxR] <;> (repeat' apply And.intro) <;> first | rfl | exact ⟨_, rfl⟩ | exact ⟨_, _, rfl⟩ | simp [lst, cat2_nil]
  ·rw [if_neg e3] at h
   obtain rfl := Option.some.inj h
   simp (maxDischargeDepth := 9) only [↓xpre, xpost, xlst, xc2, xcore, yset, rg0, ↓reduceIte, Nat.reduceEqDiff, Nat.reduceLT, Nat.reduceLeDiff, Nat.reduceAdd, Nat.reduceMul, Nat.reduceMod, Nat.reduceDiv, Nat.reducePow, Nat.reduceSub, Nat.reduceBEq, Int.reduceLE, Int.reduceLT, Int.reduceEq, Int.reduceSub, Int.reduceAdd, Int.reduceToNat, Int.reduceNeg, m0, m1, m2, m3, m4, m5, e1, e2.1, e2.2, e3, s_prLists_l1_M, s_prLists_l1_X, sxN, sxE, sxR] <;> (repeat' apply And.intro) <;> first | rfl | exact ⟨_, rfl⟩ | exact ⟨_, _, rfl⟩ | simp [lst, cat2_nil]
 ·rw [if_neg e1] at h
  obtain rfl := Option.some.inj h
  simp (maxDischargeDepth := 9) only [↓xpre, xpost, xlst, xc2, xcore, yset, rg0, ↓reduceIte, Nat.reduceEqDiff, Nat.reduceLT, Nat.reduceLeDiff, Nat.reduceAdd, Nat.reduceMul, Nat.reduceMod, Nat.reduceDiv, Nat.reducePow, Nat.reduceSub, Nat.reduceBEq, Int.reduceLE, Int.reduceLT, Int.reduceEq, Int.reduceSub, Int.reduceAdd, Int.reduceToNat, Int.reduceNeg, m0, m1, m2, m3, m4, m5, e1, s_prLists_l1_M, s_prLists_l1_X, sxN, sxE, sxR] <;> (repeat' apply And.intro) <;> first | rfl | exact ⟨_, rfl⟩ | exact ⟨_, _, rfl⟩ | simp [lst, cat2_nil]
theorem s_prLists_call (l : List (List Int)) (size : Int) (labels : Int) {r : Bool} (h : s_prLists l size labels = some r) : Y.call 65 [D.sl 70 (lst (fun x => D.sl 3 (lst (D.int .i64) x)) l), D.int .i64 size, D.int .i64 labels] [] = some (D.bool r, []) := by
 refine c65 ?_ rfl
 unfold k65
 unfold s_prLists at h
 obtain ⟨r1001_, hl2, h⟩ := bindS h
 try dsimp only at h
 simp (maxDischargeDepth := 9) only [↓xpre, xpost, xlst, xc2, xcore, yset, rg0, ↓reduceIte, Nat.reduceEqDiff, Nat.reduceLT, Nat.reduceLeDiff, Nat.reduceAdd, Nat.reduceMul, Nat.reduceMod, Nat.reduceDiv, Nat.reducePow, Nat.reduceSub, Nat.reduceBEq, Int.reduceLE, Int.reduceLT, Int.reduceEq, Int.reduceSub, Int.reduceAdd, Int.reduceToNat, Int.reduceNeg]
 refine wd_mono (s_prLists_l1_wp l size labels hl2 ?_) ?_
 ·simp (maxDischargeDepth := 9) only [↓xpre, xpost, xlst, xc2, xcore, yset, rg0, ↓reduceIte, Nat.reduceEqDiff, Nat.reduceLT, Nat.reduceLeDiff, Nat.reduceAdd, Nat.reduceMul, Nat.reduceMod, Nat.reduceDiv, Nat.reducePow, Nat.reduceSub, Nat.reduceBEq, Int.reduceLE, Int.reduceLT, Int.reduceEq, Int.reduceSub, Int.reduceAdd, Int.reduceToNat, Int.reduceNeg, s_prLists_l1_M] <;> (repeat' apply And.intro) <;> first | rfl | exact ⟨_, rfl⟩ | exact ⟨_, _, rfl⟩ | simp [lst, cat2_nil]
 ·intro ex2 s2 hX2
  rcases r1001_ with q1001_ | q1001_
  ·unfold s_prLists_l1_X at hX2
   dsimp only at hX2 h
   obtain ⟨rfl, n2_0⟩ := hX2
   obtain rfl := Option.some.inj h
   simp (maxDischargeDepth := 9) only [↓xpre, xpost, xlst, xc2, xcore, yset, rg0, ↓reduceIte, Nat.reduceEqDiff, Nat.reduceLT, Nat.reduceLeDiff, Nat.reduceAdd, Nat.reduceMul, Nat.reduceMod, Nat.reduceDiv, Nat.reducePow, Nat.reduceSub, Nat.reduceBEq, Int.reduceLE, Int.reduceLT, Int.reduceEq, Int.reduceSub, Int.reduceAdd, Int.reduceToNat, Int.reduceNeg, n2_0] <;> (repeat' apply And.intro) <;> first | rfl | exact ⟨_, rfl⟩ | exact ⟨_, _, rfl⟩ | simp [lst, cat2_nil]
  ·unfold s_prLists_l1_X at hX2
   dsimp only at hX2 h
   obtain rfl := hX2
   obtain rfl := Option.some.inj h
   simp (maxDischargeDepth := 9) only [↓xpre, xpost, xlst, xc2, xcore, yset, rg0, ↓reduceIte, Nat.reduceEqDiff, Nat.reduceLT, Nat.reduceLeDiff, Nat.reduceAdd, Nat.reduceMul, Nat.reduceMod, Nat.reduceDiv, Nat.reducePow, Nat.reduceSub, Nat.reduceBEq, Int.reduceLE, Int.reduceLT, Int.reduceEq, Int.reduceSub, Int.reduceAdd, Int.reduceToNat, Int.reduceNeg] <;> (repeat' apply And.intro) <;> first | rfl | exact ⟨_, rfl⟩ | exact ⟨_, _, rfl⟩ | simp [lst, cat2_nil]

theorem prLists_l0_eq (l : List (List Int)) (size labels t : Int) (x : List Int) (hx : l.getD t.toNat default = x) (hs : (x.length : Int) = size) (hb : x.length < 1099511627776) :
  s_prLists_l0 l size labels t 1 = some (if sortedB x = true then .inr () else .inl ()) := by
 unfold s_prLists_l0
 rcases Nat.eq_zero_or_pos x.length with h0 | h0
 ·rw [itO_inr (r := Sum.inr ())]
  ·simp [sortedB, h0]
  ·simp only [s_prLists_l0_S]; rw [if_neg (by omega)]
 ·have key := itO_all (fun v => s_prLists_l0_S l size labels t v) (fun j => (j : Int) + 1) (x.length - 1) (fun i => decide (x.getD i default ≤ x.getD (i + 1) default)) (.inl ()) (.inr ()) ?_ ?_
  ·simp only [Int.natCast_zero, Int.zero_add] at key
   rw [key]; rfl
  ·intro i hi
   simp only [s_prLists_l0_S]
   rw [hx, if_pos (by omega), wr64 _ (by omega), wr64 _ (by omega), ckT (by omega), ckT (by omega), show ((i : Int) + 1).toNat = i + 1 by omega, show ((i : Int) + 1 - 1).toNat = i by omega]
   simp only [decide_eq_true_eq]
   by_cases hq : x.getD (i + 1) default < x.getD i default
   ·rw [if_pos hq, if_neg (by omega)]
   ·rw [if_neg hq, if_pos (by omega)]; rfl
  ·simp only [s_prLists_l0_S]; rw [if_neg (by omega)]
theorem s_prLists_eq (l : List (List Int)) (size labels : Int) (h : Short l) (hl : 1 ≤ labels ∧ labels ≤ 8) : s_prLists l size labels = some (confs l size labels) := by
 have h1 := h.1
 unfold s_prLists s_prLists_l1
 have key := itO_all' (fun v => s_prLists_l1_S l size labels v) (fun i => (i : Int)) l.length (confAt l size labels) (.inl ()) (.inr ()) ?_ ?_
 ·simp only [Int.natCast_zero] at key
  rw [key]
  unfold confs
  cases (List.range l.length).all (confAt l size labels) <;> rfl
 ·intro i hi hp
  simp only [s_prLists_l1_S]
  rw [if_pos (lt_nat hi), ckT (ix_nat hi), wrS i (by omega), wr64 (labels - 1) (by omega)]
  have hs := h.getD i
  have hs1 := h.getD (i - 1)
  rw [Int.toNat_natCast, ckT hs]
  by_cases q1 : ((l.getD i default).length : Int) = size
  ·rw [if_pos q1]
   have inner := prLists_l0_eq l size labels (i : Int) (l.getD i default) (by rw [Int.toNat_natCast]) q1 hs
   rw [inner]
   have hprev := hp (i - 1)
   unfold confAt at hprev ⊢
   generalize l.getD i default = x at *
   cases q3 : allIn x 0 (labels - 1) with
   | false => simp
   | true =>
    rw [if_pos rfl]
    by_cases q4 : i = 0
    ·rw [if_neg (by omega)]
     cases q2 : sortedB x <;> simp [q1, q4]
    ·rw [if_pos (by omega), wr64 _ (by omega), ckT (by omega), show ((i : Int) - 1).toNat = i - 1 by omega, ckT hs1]
     have hprev := hprev (by omega)
     generalize l.getD (i - 1) default = y at *
     simp only [Bool.and_eq_true, decide_eq_true_eq] at hprev
     rw [ckT (by omega), ckT (smallI_of hprev.1.2 (by omega) (by omega)), ckT (smallI_of q3 (by omega) (by omega))]
     by_cases q5 : 0 ≤ cmpL y x
     ·rw [if_pos q5, if_neg (by simp; intro _ _; exact ⟨q4, q5⟩)]
     ·rw [if_neg q5]
      have q6 : cmpL y x < 0 := by omega
      cases q2 : sortedB x <;> simp [q1, q6]
  ·have e := decide_eq_false q1
   unfold confAt
   rw [if_neg q1, if_neg (by rw [e]; simp)]
 ·intro _
  simp only [s_prLists_l1_S]; rw [if_neg (not_lt_nat _)]
theorem s_prLists_cl (l : List (List Int)) (size : Int) (labels : Int) (h0 : Short l) (h1 : 1 ≤ labels ∧ labels ≤ 8) : Y.call 65 [D.sl 70 (lst (fun x => D.sl 3 (lst (D.int .i64) x)) l), D.int .i64 size, D.int .i64 labels] [] = some (D.bool (confs l size labels), []) := s_prLists_call l size labels (s_prLists_eq l size labels h0 h1)
noncomputable def i_IsProblem (p_Labels : Int) (p_Degree : Int) (p_Nodes : List (List Int)) (p_Edges : List (List Int)) : Option (Bool) :=
 if (inR p_Labels (1 : Int) (8 : Int)) = true then
  if (inR p_Degree (1 : Int) (4 : Int)) = true then
   ck (Short p_Nodes) <|
   ck (1 ≤ p_Labels ∧ p_Labels ≤ 8) <|
   if (confs p_Nodes p_Degree p_Labels) = true then
    ck (Short p_Edges) <|
    some (confs p_Edges (2 : Int) p_Labels)
   else
    some false
  else
   some false
 else
  some false
/-- impl.IsProblem -/
def k43 : SC :=
 .seq
 (.ops [
 ⟨(some 1), (.box 39 (.tmp 0)), 0, none⟩,
 ⟨(some 2), (.assign (.const (.bool false))), 4, none⟩])
 (.seq
 (.ops [
 ⟨(some 3), (.fieldAddr 39 (.tmp 1) 0), 0, none⟩,
 ⟨(some 4), (.load 3 (.tmp 3)), 3, none⟩,
 ⟨(some 5), (.call ⟨(.value (.func 54)), #[(.tmp 4), (.const (.int .i64 1)), (.const (.int .i64 8))], #[3, 3, 3]⟩), 4, none⟩,
 ⟨(some 6), (.move (.tmp 5)), 4, none⟩,
 ⟨(some 7), (.fieldAddr 39 (.tmp 1) 1), 0, (some (some 6, true))⟩,
 ⟨(some 8), (.load 3 (.tmp 7)), 3, (some (some 6, true))⟩,
 ⟨(some 9), (.call ⟨(.value (.func 54)), #[(.tmp 8), (.const (.int .i64 1)), (.const (.int .i64 4))], #[3, 3, 3]⟩), 4, (some (some 6, true))⟩,
 ⟨(some 10), (.pick (.tmp 6) (.tmp 9) (.const (.bool false))), 4, none⟩,
 ⟨(some 11), (.move (.tmp 10)), 4, none⟩,
 ⟨(some 12), (.fieldAddr 39 (.tmp 1) 2), 0, (some (some 11, true))⟩,
 ⟨(some 13), (.load 34 (.tmp 12)), 34, (some (some 11, true))⟩,
 ⟨(some 14), (.fieldAddr 39 (.tmp 1) 1), 0, (some (some 11, true))⟩,
 ⟨(some 15), (.load 3 (.tmp 14)), 3, (some (some 11, true))⟩,
 ⟨(some 16), (.fieldAddr 39 (.tmp 1) 0), 0, (some (some 11, true))⟩,
 ⟨(some 17), (.load 3 (.tmp 16)), 3, (some (some 11, true))⟩,
 ⟨(some 18), (.call ⟨(.value (.func 68)), #[(.tmp 13), (.tmp 15), (.tmp 17)], #[34, 3, 3]⟩), 4, (some (some 11, true))⟩,
 ⟨(some 19), (.pick (.tmp 11) (.tmp 18) (.const (.bool false))), 4, none⟩,
 ⟨(some 20), (.move (.tmp 19)), 4, none⟩,
 ⟨(some 21), (.fieldAddr 39 (.tmp 1) 3), 0, (some (some 20, true))⟩,
 ⟨(some 22), (.load 34 (.tmp 21)), 34, (some (some 20, true))⟩,
 ⟨(some 23), (.fieldAddr 39 (.tmp 1) 0), 0, (some (some 20, true))⟩,
 ⟨(some 24), (.load 3 (.tmp 23)), 3, (some (some 20, true))⟩,
 ⟨(some 25), (.call ⟨(.value (.func 68)), #[(.tmp 22), (.const (.int .i64 2)), (.tmp 24)], #[34, 3, 3]⟩), 4, (some (some 20, true))⟩,
 ⟨(some 26), (.pick (.tmp 20) (.tmp 25) (.const (.bool false))), 4, none⟩,
 ⟨(some 2), (.assign (.tmp 26)), 4, none⟩])
 .ret)
theorem slim43 : Tryd.f43.body.map (slim lends) = some k43 := by kernel_rfl
theorem ok43 : fnOk Tryd.f43 1 = true := by kernel_rfl
theorem c43 {a l : List D} {r : D × List D} (h : wpD Y.env k43 (fin tys l.length [ResultVar.tmp 2] r) (entry a l)) (ha : a.length = 1) : Y.call 43 a l = some r :=
 call_slim (Y := Y) rfl Tryd.func43 (ha ▸ ok43) slim43 h
theorem i_IsProblem_call (p_Labels : Int) (p_Degree : Int) (p_Nodes : List (List Int)) (p_Edges : List (List Int)) {r : Bool} (h : i_IsProblem p_Labels p_Degree p_Nodes p_Edges = some r) : Y.call 43 [D.agg [D.int .i64 p_Labels, D.int .i64 p_Degree, D.sl 70 (lst (fun x => D.sl 3 (lst (D.int .i64) x)) p_Nodes), D.sl 70 (lst (fun x => D.sl 3 (lst (D.int .i64) x)) p_Edges)]] [] = some (D.bool r, []) := by
 refine c43 ?_ rfl
 unfold k43
 unfold i_IsProblem at h
 have c1 := i_within_cl p_Labels (1 : Int) (8 : Int)
 by_cases e2 : (inR p_Labels (1 : Int) (8 : Int)) = true
 ·rw [if_pos e2] at h
  have c3 := i_within_cl p_Degree (1 : Int) (4 : Int)
  by_cases e4 : (inR p_Degree (1 : Int) (4 : Int)) = true
  ·rw [if_pos e4] at h
   obtain ⟨e5, h⟩ := ckS h
   obtain ⟨e6, h⟩ := ckS h
   have c7 := i_configurationsOk_cl p_Nodes p_Degree p_Labels e5 e6
   by_cases e8 : (confs p_Nodes p_Degree p_Labels) = true
   ·rw [if_pos e8] at h
    obtain ⟨e9, h⟩ := ckS h
    have c10 := i_configurationsOk_cl p_Edges (2 : Int) p_Labels e9 e6
    obtain rfl := Option.some.inj h
    simp (maxDischargeDepth := 9) only [↓xpre, xpost, xlst, xc2, xcore, yset, rg0, ↓reduceIte, Nat.reduceEqDiff, Nat.reduceLT, Nat.reduceLeDiff, Nat.reduceAdd, Nat.reduceMul, Nat.reduceMod, Nat.reduceDiv, Nat.reducePow, Nat.reduceSub, Nat.reduceBEq, Int.reduceLE, Int.reduceLT, Int.reduceEq, Int.reduceSub, Int.reduceAdd, Int.reduceToNat, Int.reduceNeg, c1, e2, c3, e4, e5, e6.1, e6.2, c7, e8, e9, c10] <;> (repeat' apply And.intro) <;> first | rfl | exact ⟨_, rfl⟩ | exact ⟨_, _, rfl⟩ | simp [lst, cat2_nil]
   ·rw [if_neg e8] at h
    have e8f : (confs p_Nodes p_Degree p_Labels) = false := Bool.eq_false_iff.mpr e8
    obtain rfl := Option.some.inj h
    simp (maxDischargeDepth := 9) only [↓xpre, xpost, xlst, xc2, xcore, yset, rg0, ↓reduceIte, Nat.reduceEqDiff, Nat.reduceLT, Nat.reduceLeDiff, Nat.reduceAdd, Nat.reduceMul, Nat.reduceMod, Nat.reduceDiv, Nat.reducePow, Nat.reduceSub, Nat.reduceBEq, Int.reduceLE, Int.reduceLT, Int.reduceEq, Int.reduceSub, Int.reduceAdd, Int.reduceToNat, Int.reduceNeg, c1, e2, c3, e4, e5, e6.1, e6.2, c7, e8f] <;> (repeat' apply And.intro) <;> first | rfl | exact ⟨_, rfl⟩ | exact ⟨_, _, rfl⟩ | simp [lst, cat2_nil]
  ·rw [if_neg e4] at h
   have e4f : (inR p_Degree (1 : Int) (4 : Int)) = false := Bool.eq_false_iff.mpr e4
   obtain rfl := Option.some.inj h
   simp (maxDischargeDepth := 9) only [↓xpre, xpost, xlst, xc2, xcore, yset, rg0, ↓reduceIte, Nat.reduceEqDiff, Nat.reduceLT, Nat.reduceLeDiff, Nat.reduceAdd, Nat.reduceMul, Nat.reduceMod, Nat.reduceDiv, Nat.reducePow, Nat.reduceSub, Nat.reduceBEq, Int.reduceLE, Int.reduceLT, Int.reduceEq, Int.reduceSub, Int.reduceAdd, Int.reduceToNat, Int.reduceNeg, c1, e2, c3, e4f] <;> (repeat' apply And.intro) <;> first | rfl | exact ⟨_, rfl⟩ | exact ⟨_, _, rfl⟩ | simp [lst, cat2_nil]
 ·rw [if_neg e2] at h
  have e2f : (inR p_Labels (1 : Int) (8 : Int)) = false := Bool.eq_false_iff.mpr e2
  obtain rfl := Option.some.inj h
  simp (maxDischargeDepth := 9) only [↓xpre, xpost, xlst, xc2, xcore, yset, rg0, ↓reduceIte, Nat.reduceEqDiff, Nat.reduceLT, Nat.reduceLeDiff, Nat.reduceAdd, Nat.reduceMul, Nat.reduceMod, Nat.reduceDiv, Nat.reducePow, Nat.reduceSub, Nat.reduceBEq, Int.reduceLE, Int.reduceLT, Int.reduceEq, Int.reduceSub, Int.reduceAdd, Int.reduceToNat, Int.reduceNeg, c1, e2f] <;> (repeat' apply And.intro) <;> first | rfl | exact ⟨_, rfl⟩ | exact ⟨_, _, rfl⟩ | simp [lst, cat2_nil]

noncomputable def s_prGood (p_Labels : Int) (p_Degree : Int) (p_Nodes : List (List Int)) (p_Edges : List (List Int)) : Option (Bool) :=
 if (inR p_Labels (1 : Int) (8 : Int)) = true then
  if (inR p_Degree (1 : Int) (4 : Int)) = true then
   ck (Short p_Nodes) <|
   ck (1 ≤ p_Labels ∧ p_Labels ≤ 8) <|
   if (confs p_Nodes p_Degree p_Labels) = true then
    ck (Short p_Edges) <|
    some (confs p_Edges (2 : Int) p_Labels)
   else
    some false
  else
   some false
 else
  some false
/-- spec.prGood -/
def k40 : SC :=
 .seq
 (.ops [
 ⟨(some 1), (.box 39 (.tmp 0)), 0, none⟩,
 ⟨(some 2), (.assign (.const (.bool false))), 4, none⟩])
 (.seq
 (.ops [
 ⟨(some 3), (.fieldAddr 39 (.tmp 1) 0), 0, none⟩,
 ⟨(some 4), (.load 3 (.tmp 3)), 3, none⟩,
 ⟨(some 5), (.call ⟨(.value (.func 51)), #[(.tmp 4), (.const (.int .i64 1)), (.const (.int .i64 8))], #[3, 3, 3]⟩), 4, none⟩,
 ⟨(some 6), (.move (.tmp 5)), 4, none⟩,
 ⟨(some 7), (.fieldAddr 39 (.tmp 1) 1), 0, (some (some 6, true))⟩,
 ⟨(some 8), (.load 3 (.tmp 7)), 3, (some (some 6, true))⟩,
 ⟨(some 9), (.call ⟨(.value (.func 51)), #[(.tmp 8), (.const (.int .i64 1)), (.const (.int .i64 4))], #[3, 3, 3]⟩), 4, (some (some 6, true))⟩,
 ⟨(some 10), (.pick (.tmp 6) (.tmp 9) (.const (.bool false))), 4, none⟩,
 ⟨(some 11), (.move (.tmp 10)), 4, none⟩,
 ⟨(some 12), (.fieldAddr 39 (.tmp 1) 2), 0, (some (some 11, true))⟩,
 ⟨(some 13), (.load 34 (.tmp 12)), 34, (some (some 11, true))⟩,
 ⟨(some 14), (.fieldAddr 39 (.tmp 1) 1), 0, (some (some 11, true))⟩,
 ⟨(some 15), (.load 3 (.tmp 14)), 3, (some (some 11, true))⟩,
 ⟨(some 16), (.fieldAddr 39 (.tmp 1) 0), 0, (some (some 11, true))⟩,
 ⟨(some 17), (.load 3 (.tmp 16)), 3, (some (some 11, true))⟩,
 ⟨(some 18), (.call ⟨(.value (.func 65)), #[(.tmp 13), (.tmp 15), (.tmp 17)], #[34, 3, 3]⟩), 4, (some (some 11, true))⟩,
 ⟨(some 19), (.pick (.tmp 11) (.tmp 18) (.const (.bool false))), 4, none⟩,
 ⟨(some 20), (.move (.tmp 19)), 4, none⟩,
 ⟨(some 21), (.fieldAddr 39 (.tmp 1) 3), 0, (some (some 20, true))⟩,
 ⟨(some 22), (.load 34 (.tmp 21)), 34, (some (some 20, true))⟩,
 ⟨(some 23), (.fieldAddr 39 (.tmp 1) 0), 0, (some (some 20, true))⟩,
 ⟨(some 24), (.load 3 (.tmp 23)), 3, (some (some 20, true))⟩,
 ⟨(some 25), (.call ⟨(.value (.func 65)), #[(.tmp 22), (.const (.int .i64 2)), (.tmp 24)], #[34, 3, 3]⟩), 4, (some (some 20, true))⟩,
 ⟨(some 26), (.pick (.tmp 20) (.tmp 25) (.const (.bool false))), 4, none⟩,
 ⟨(some 2), (.assign (.tmp 26)), 4, none⟩])
 .ret)
theorem slim40 : Tryd.f40.body.map (slim lends) = some k40 := by kernel_rfl
theorem ok40 : fnOk Tryd.f40 1 = true := by kernel_rfl
theorem c40 {a l : List D} {r : D × List D} (h : wpD Y.env k40 (fin tys l.length [ResultVar.tmp 2] r) (entry a l)) (ha : a.length = 1) : Y.call 40 a l = some r :=
 call_slim (Y := Y) rfl Tryd.func40 (ha ▸ ok40) slim40 h
theorem s_prGood_call (p_Labels : Int) (p_Degree : Int) (p_Nodes : List (List Int)) (p_Edges : List (List Int)) {r : Bool} (h : s_prGood p_Labels p_Degree p_Nodes p_Edges = some r) : Y.call 40 [D.agg [D.int .i64 p_Labels, D.int .i64 p_Degree, D.sl 70 (lst (fun x => D.sl 3 (lst (D.int .i64) x)) p_Nodes), D.sl 70 (lst (fun x => D.sl 3 (lst (D.int .i64) x)) p_Edges)]] [] = some (D.bool r, []) := by
 refine c40 ?_ rfl
 unfold k40
 unfold s_prGood at h
 have c1 := s_l1In_cl p_Labels (1 : Int) (8 : Int)
 by_cases e2 : (inR p_Labels (1 : Int) (8 : Int)) = true
 ·rw [if_pos e2] at h
  have c3 := s_l1In_cl p_Degree (1 : Int) (4 : Int)
  by_cases e4 : (inR p_Degree (1 : Int) (4 : Int)) = true
  ·rw [if_pos e4] at h
   obtain ⟨e5, h⟩ := ckS h
   obtain ⟨e6, h⟩ := ckS h
   have c7 := s_prLists_cl p_Nodes p_Degree p_Labels e5 e6
   by_cases e8 : (confs p_Nodes p_Degree p_Labels) = true
   ·rw [if_pos e8] at h
    obtain ⟨e9, h⟩ := ckS h
    have c10 := s_prLists_cl p_Edges (2 : Int) p_Labels e9 e6
    obtain rfl := Option.some.inj h
    simp (maxDischargeDepth := 9) only [↓xpre, xpost, xlst, xc2, xcore, yset, rg0, ↓reduceIte, Nat.reduceEqDiff, Nat.reduceLT, Nat.reduceLeDiff, Nat.reduceAdd, Nat.reduceMul, Nat.reduceMod, Nat.reduceDiv, Nat.reducePow, Nat.reduceSub, Nat.reduceBEq, Int.reduceLE, Int.reduceLT, Int.reduceEq, Int.reduceSub, Int.reduceAdd, Int.reduceToNat, Int.reduceNeg, c1, e2, c3, e4, e5, e6.1, e6.2, c7, e8, e9, c10] <;> (repeat' apply And.intro) <;> first | rfl | exact ⟨_, rfl⟩ | exact ⟨_, _, rfl⟩ | simp [lst, cat2_nil]
   ·rw [if_neg e8] at h
    have e8f : (confs p_Nodes p_Degree p_Labels) = false := Bool.eq_false_iff.mpr e8
    obtain rfl := Option.some.inj h
    simp (maxDischargeDepth := 9) only [↓xpre, xpost, xlst, xc2, xcore, yset, rg0, ↓reduceIte, Nat.reduceEqDiff, Nat.reduceLT, Nat.reduceLeDiff, Nat.reduceAdd, Nat.reduceMul, Nat.reduceMod, Nat.reduceDiv, Nat.reducePow, Nat.reduceSub, Nat.reduceBEq, Int.reduceLE, Int.reduceLT, Int.reduceEq, Int.reduceSub, Int.reduceAdd, Int.reduceToNat, Int.reduceNeg, c1, e2, c3, e4, e5, e6.1, e6.2, c7, e8f] <;> (repeat' apply And.intro) <;> first | rfl | exact ⟨_, rfl⟩ | exact ⟨_, _, rfl⟩ | simp [lst, cat2_nil]
  ·rw [if_neg e4] at h
   have e4f : (inR p_Degree (1 : Int) (4 : Int)) = false := Bool.eq_false_iff.mpr e4
   obtain rfl := Option.some.inj h
   simp (maxDischargeDepth := 9) only [↓xpre, xpost, xlst, xc2, xcore, yset, rg0, ↓reduceIte, Nat.reduceEqDiff, Nat.reduceLT, Nat.reduceLeDiff, Nat.reduceAdd, Nat.reduceMul, Nat.reduceMod, Nat.reduceDiv, Nat.reducePow, Nat.reduceSub, Nat.reduceBEq, Int.reduceLE, Int.reduceLT, Int.reduceEq, Int.reduceSub, Int.reduceAdd, Int.reduceToNat, Int.reduceNeg, c1, e2, c3, e4f] <;> (repeat' apply And.intro) <;> first | rfl | exact ⟨_, rfl⟩ | exact ⟨_, _, rfl⟩ | simp [lst, cat2_nil]
 ·rw [if_neg e2] at h
  have e2f : (inR p_Labels (1 : Int) (8 : Int)) = false := Bool.eq_false_iff.mpr e2
  obtain rfl := Option.some.inj h
  simp (maxDischargeDepth := 9) only [↓xpre, xpost, xlst, xc2, xcore, yset, rg0, ↓reduceIte, Nat.reduceEqDiff, Nat.reduceLT, Nat.reduceLeDiff, Nat.reduceAdd, Nat.reduceMul, Nat.reduceMod, Nat.reduceDiv, Nat.reducePow, Nat.reduceSub, Nat.reduceBEq, Int.reduceLE, Int.reduceLT, Int.reduceEq, Int.reduceSub, Int.reduceAdd, Int.reduceToNat, Int.reduceNeg, c1, e2f] <;> (repeat' apply And.intro) <;> first | rfl | exact ⟨_, rfl⟩ | exact ⟨_, _, rfl⟩ | simp [lst, cat2_nil]

theorem i_IsProblem_eq (a b : Int) (n e : List (List Int)) (hn : Short n) (he : Short e) : i_IsProblem a b n e = some (isProb a b n e) := by
 unfold i_IsProblem isProb
 by_cases h1 : inR a 1 8 = true
 ·have h1' := inR_iff.1 h1
  by_cases h2 : inR b 1 4 = true
  ·rw [if_pos h1, if_pos h2, ckT hn, ckT h1', ckT he]
   cases h3 : confs n b a <;> simp [h1, h2]
  ·rw [if_pos h1, if_neg h2]; simp [h2]
 ·rw [if_neg h1]; simp [h1]
theorem s_prGood_eq (a b : Int) (n e : List (List Int)) (hn : Short n) (he : Short e) : s_prGood a b n e = some (isProb a b n e) := by
 unfold s_prGood isProb
 by_cases h1 : inR a 1 8 = true
 ·have h1' := inR_iff.1 h1
  by_cases h2 : inR b 1 4 = true
  ·rw [if_pos h1, if_pos h2, ckT hn, ckT h1', ckT he]
   cases h3 : confs n b a <;> simp [h1, h2]
  ·rw [if_pos h1, if_neg h2]; simp [h2]
 ·rw [if_neg h1]; simp [h1]
theorem i_IsProblem_cl (p_Labels : Int) (p_Degree : Int) (p_Nodes : List (List Int)) (p_Edges : List (List Int)) (h0 : Short p_Nodes) (h1 : Short p_Edges) : Y.call 43 [D.agg [D.int .i64 p_Labels, D.int .i64 p_Degree, D.sl 70 (lst (fun x => D.sl 3 (lst (D.int .i64) x)) p_Nodes), D.sl 70 (lst (fun x => D.sl 3 (lst (D.int .i64) x)) p_Edges)]] [] = some (D.bool (isProb p_Labels p_Degree p_Nodes p_Edges), []) := i_IsProblem_call p_Labels p_Degree p_Nodes p_Edges (i_IsProblem_eq p_Labels p_Degree p_Nodes p_Edges h0 h1)
theorem s_prGood_cl (p_Labels : Int) (p_Degree : Int) (p_Nodes : List (List Int)) (p_Edges : List (List Int)) (h0 : Short p_Nodes) (h1 : Short p_Edges) : Y.call 40 [D.agg [D.int .i64 p_Labels, D.int .i64 p_Degree, D.sl 70 (lst (fun x => D.sl 3 (lst (D.int .i64) x)) p_Nodes), D.sl 70 (lst (fun x => D.sl 3 (lst (D.int .i64) x)) p_Edges)]] [] = some (D.bool (isProb p_Labels p_Degree p_Nodes p_Edges), []) := s_prGood_call p_Labels p_Degree p_Nodes p_Edges (s_prGood_eq p_Labels p_Degree p_Nodes p_Edges h0 h1)

end Go.Proofs.YtaogbcdlpgfplaaDoor
