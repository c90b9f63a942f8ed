/- When lists are a problem, as plain functions. Conditions: the lists are short. -/
import Derived.Test.YtipfckompmhljaaL6
import Derived.Test.YtipfckompmhljaaPB
namespace Go.Proofs.Ytipfckompmhljaa
open Go Dv
set_option linter.unusedSimpArgs false
set_option linter.unusedVariables false
set_option maxRecDepth 100000
set_option maxHeartbeats 4000000

def inR (n lo hi : Int) : Bool := decide (lo ≤ n ∧ n ≤ hi)
theorem inR_iff {n lo hi : Int} : inR n lo hi = true ↔ lo ≤ n ∧ n ≤ hi := by simp [inR]
noncomputable def i_within (n_ low high : Int) : Option (Bool) :=
 if low ≤ n_ then
  some (decide (n_ ≤ high))
 else
  some false
/-- impl.within -/
def k77 : SC :=
 .seq
 (.ops [
 ⟨some 6, .assign (.const (.bool false)), 4, none⟩])
 (.seq
 (.ops [
 ⟨some 7, .move (.tmp 1), 3, none⟩,
 ⟨some 8, .move (.tmp 0), 3, none⟩,
 ⟨some 9, .binOp .leq 3 (.tmp 7) (.tmp 8) 3, 4, none⟩,
 ⟨some 10, .move (.tmp 9), 4, none⟩,
 ⟨some 11, .move (.tmp 0), 3, (some (some 10, true))⟩,
 ⟨some 12, .move (.tmp 2), 3, (some (some 10, true))⟩,
 ⟨some 13, .binOp .leq 3 (.tmp 11) (.tmp 12) 3, 4, (some (some 10, true))⟩,
 ⟨some 14, .pick (.tmp 10) (.tmp 13) (.const (.bool false)), 4, none⟩,
 ⟨some 6, .assign (.tmp 14), 4, none⟩])
 .ret)
theorem slim77 : Try.f77.body.map (slim lends) = some k77 := by kernel_rfl
theorem ok77 : fnOk Try.f77 3 = true := by kernel_rfl
theorem c77 {a l : List D} {r : D × List D} (h : wpD Y.env k77 (fin tys l.length [ResultVar.tmp 6] r) (entry a l)) (ha : a.length = 3) : Y.call 77 a l = some r :=
 call_slim (Y := Y) rfl Try.func77 (ha ▸ ok77) slim77 h
theorem i_within_call (n_ low high : Int) {r : Bool} (h : i_within n_ low high = some r) : Y.call 77 [D.int .i64 n_, D.int .i64 low, D.int .i64 high] [] = some (D.bool r, []) := by
 refine c77 ?_ rfl
 unfold k77
 unfold i_within at h
 by_cases e1 : low ≤ n_
 ·rw [if_pos e1] at h
  cases h
  simp (maxDischargeDepth := 9) only [↓xpre, xpost, xcore, yset, ↓reduceIte, Nat.reduceEqDiff, Nat.reduceLT, e1] <;> (repeat' apply And.intro) <;> first | rfl | exact ⟨_, rfl⟩ | exact ⟨_, _, rfl⟩ | simp [lst, cat2_nil]
 ·rw [if_neg e1] at h
  cases h
  simp (maxDischargeDepth := 9) only [↓xpre, xpost, xcore, yset, ↓reduceIte, Nat.reduceEqDiff, Nat.reduceLT, e1] <;> (repeat' apply And.intro) <;> first | rfl | exact ⟨_, rfl⟩ | exact ⟨_, _, rfl⟩ | simp [lst, cat2_nil]

noncomputable def s_l1In (n_ lo hi : Int) : Option (Bool) :=
 if lo ≤ n_ then
  some (decide (n_ ≤ hi))
 else
  some false
/-- spec.l1In -/
def k43 : SC :=
 .seq
 (.ops [
 ⟨some 6, .assign (.const (.bool false)), 4, none⟩])
 (.seq
 (.ops [
 ⟨some 7, .move (.tmp 0), 3, none⟩,
 ⟨some 8, .move (.tmp 1), 3, none⟩,
 ⟨some 9, .binOp .geq 3 (.tmp 7) (.tmp 8) 3, 4, none⟩,
 ⟨some 10, .move (.tmp 9), 4, none⟩,
 ⟨some 11, .move (.tmp 0), 3, (some (some 10, true))⟩,
 ⟨some 12, .move (.tmp 2), 3, (some (some 10, true))⟩,
 ⟨some 13, .binOp .leq 3 (.tmp 11) (.tmp 12) 3, 4, (some (some 10, true))⟩,
 ⟨some 14, .pick (.tmp 10) (.tmp 13) (.const (.bool false)), 4, none⟩,
 ⟨some 6, .assign (.tmp 14), 4, none⟩])
 .ret)
theorem slim43 : Try.f43.body.map (slim lends) = some k43 := by kernel_rfl
theorem ok43 : fnOk Try.f43 3 = true := by kernel_rfl
theorem c43 {a l : List D} {r : D × List D} (h : wpD Y.env k43 (fin tys l.length [ResultVar.tmp 6] r) (entry a l)) (ha : a.length = 3) : Y.call 43 a l = some r :=
 call_slim (Y := Y) rfl Try.func43 (ha ▸ ok43) slim43 h
theorem s_l1In_call (n_ lo hi : Int) {r : Bool} (h : s_l1In n_ lo hi = some r) : Y.call 43 [D.int .i64 n_, D.int .i64 lo, D.int .i64 hi] [] = some (D.bool r, []) := by
 refine c43 ?_ rfl
 unfold k43
 unfold s_l1In at h
 by_cases e1 : lo ≤ n_
 ·rw [if_pos e1] at h
  cases h
  simp (maxDischargeDepth := 9) only [↓xpre, xpost, xcore, yset, ↓reduceIte, Nat.reduceEqDiff, Nat.reduceLT, e1] <;> (repeat' apply And.intro) <;> first | rfl | exact ⟨_, rfl⟩ | exact ⟨_, _, rfl⟩ | simp [lst, cat2_nil]
 ·rw [if_neg e1] at h
  cases h
  simp (maxDischargeDepth := 9) only [↓xpre, xpost, xcore, yset, ↓reduceIte, Nat.reduceEqDiff, Nat.reduceLT, e1] <;> (repeat' apply And.intro) <;> first | rfl | exact ⟨_, rfl⟩ | exact ⟨_, _, rfl⟩ | simp [lst, cat2_nil]

theorem i_within_eq (n lo hi : Int) : i_within n lo hi = some (inR n lo hi) := by unfold i_within inR; by_cases h1 : lo ≤ n <;> by_cases h2 : n ≤ hi <;> simp [h1, h2]
theorem s_l1In_eq (n lo hi : Int) : s_l1In n lo hi = some (inR n lo hi) := by unfold s_l1In inR; by_cases h1 : lo ≤ n <;> by_cases h2 : n ≤ hi <;> simp [h1, h2]
theorem i_within_cl (n_ low high : Int)  : Y.call 77 [D.int .i64 n_, D.int .i64 low, D.int .i64 high] [] = some (D.bool (inR n_ low high), []) := i_within_call n_ low high (i_within_eq n_ low high)
theorem s_l1In_cl (n_ lo hi : Int)  : Y.call 43 [D.int .i64 n_, D.int .i64 lo, D.int .i64 hi] [] = some (D.bool (inR n_ lo hi), []) := s_l1In_call n_ lo hi (s_l1In_eq n_ lo hi)
noncomputable def s_l1All_l0_S (l : List Int) (lo hi t11_ : Int) : Option ((Int) ⊕ (Unit ⊕ Unit)) :=
 if t11_ < (l.length : Int) then
  ck (0 ≤ t11_ ∧ t11_.toNat < l.length) <|
  if (inR (l.getD t11_.toNat default) lo hi) = true then
   some (Sum.inl (IntKind.i64.wrap (t11_ + 1)))
  else
   some (Sum.inr (Sum.inl ()))
 else
  some (Sum.inr (Sum.inr ()))
noncomputable def s_l1All_l0 (l : List Int) (lo hi v : Int) : Option (Unit ⊕ Unit) := itO (fun v => s_l1All_l0_S l lo hi v) v
noncomputable def s_l1All (l : List Int) (lo hi : Int) : Option (Bool) :=
 (s_l1All_l0 l lo hi 0).bind fun r2_ =>
 match r2_ with
 | .inl q2_ =>
  some false
 | .inr q2_ =>
  some true
/-- spec.l1All -/
def k72_l0b : SC :=
 .seq
 (.ops [
 ⟨some 12, .binOp .lss 3 (.tmp 11) (.tmp 10) 3, 0, none⟩])
 (.seq
 (.cond (.tmp 12)
 .skip
 (.exit 0))
 (.seq
 (.block 1
 (.seq
 (.ops [
 ⟨some 13, .indexAddr 23 (.tmp 9) (.tmp 11), 0, none⟩,
 ⟨some 14, .load 3 (.tmp 13), 3, none⟩,
 ⟨some 8, .assign (.tmp 14), 3, none⟩])
 (.seq
 (.ops [
 ⟨some 15, .move (.tmp 8), 3, none⟩,
 ⟨some 16, .move (.tmp 1), 3, none⟩,
 ⟨some 17, .move (.tmp 2), 3, none⟩,
 ⟨some 18, .call ⟨(.value (.func 43)), #[(.tmp 15), (.tmp 16), (.tmp 17)], #[3, 3, 3]⟩, 4, none⟩,
 ⟨some 19, .unOp .not 4 (.tmp 18), 4, none⟩])
 (.cond (.tmp 19)
 (.seq
 (.ops [
 ⟨some 6, .assign (.const (.bool false)), 4, none⟩])
 .ret)
 .skip))))
 (.ops [
 ⟨some 20, .binOp .add 3 (.tmp 11) (.const (.int .i64 1)) 3, 3, none⟩,
 ⟨some 11, .move (.tmp 20), 3, none⟩])))
def k72_l0 : SC := .loop k72_l0b
def k72 : SC :=
 .seq
 (.ops [
 ⟨some 6, .assign (.const (.bool false)), 4, none⟩])
 (.seq
 (.seq
 (.ops [
 ⟨some 9, .move (.tmp 0), 23, none⟩,
 ⟨some 10, .call ⟨(.builtin .len), #[(.tmp 9)], #[23]⟩, 3, none⟩,
 ⟨some 11, .move (.const (.int .i64 0)), 3, none⟩])
 (.block 0
 k72_l0))
 (.seq
 (.ops [
 ⟨some 6, .assign (.const (.bool true)), 4, none⟩])
 .ret))
theorem slim72 : Try.f72.body.map (slim lends) = some k72 := by kernel_rfl
theorem ok72 : fnOk Try.f72 3 = true := by kernel_rfl
theorem c72 {a l : List D} {r : D × List D} (h : wpD Y.env k72 (fin tys l.length [ResultVar.tmp 6] r) (entry a l)) (ha : a.length = 3) : Y.call 72 a l = some r :=
 call_slim (Y := Y) rfl Try.func72 (ha ▸ ok72) slim72 h
def s_l1All_l0_M (l : List Int) (lo hi t11_ : Int) (s : St) : Prop := s.v 1 = D.int .i64 lo ∧ s.v 2 = D.int .i64 hi ∧ s.v 9 = D.sl 3 (lst (D.int .i64) l) ∧ s.v 10 = D.int .i64 (l.length : Int) ∧ s.v 11 = D.int .i64 t11_
def s_l1All_l0_X (l : List Int) (lo hi : Int) (r : Unit ⊕ Unit) (ex : Ex) (s : St) : Prop := match r with
 | .inl q => ex = .ret ∧ s.v 6 = D.bool false
 | .inr q => ex = .exit 0
theorem s_l1All_l0_wp (l : List Int) (lo hi : Int) {v : Int} {s : St} {r : Unit ⊕ Unit} (h : s_l1All_l0 l lo hi v = some r) (hM : s_l1All_l0_M l lo hi v s) : wpD Y.env k72_l0 (s_l1All_l0_X l lo hi r) s := by
 unfold s_l1All_l0 at h
 refine wd_itO (c := k72_l0b) (fun v => s_l1All_l0_S l lo hi v) (fun v s => s_l1All_l0_M l lo hi v s) (s_l1All_l0_X l lo hi) ?_ h hM
 clear h hM s v r
 intro t11_ s o hM h
 unfold s_l1All_l0_S at h
 unfold s_l1All_l0_M at hM
 obtain ⟨m0, m1, m2, m3, m4⟩ := hM
 unfold k72_l0b
 by_cases e1 : t11_ < (l.length : Int)
 ·rw [if_pos e1] at h
  obtain ⟨e2, h⟩ := ckS h
  have c3 := s_l1In_cl (l.getD t11_.toNat default) lo hi
  by_cases e4 : (inR (l.getD t11_.toNat default) lo hi) = true
  ·rw [if_pos e4] at h
   cases h
   simp (maxDischargeDepth := 9) only [↓xpre, xpost, xlst, xcore, yset, ↓reduceIte, Nat.reduceEqDiff, Nat.reduceLT, Nat.reduceAdd, m0, m1, m2, m3, m4, e1, e2.1, e2.2, c3, e4, s_l1All_l0_M, sxN] <;> (repeat' apply And.intro) <;> first | rfl | exact ⟨_, rfl⟩ | exact ⟨_, _, rfl⟩ | simp [lst, cat2_nil]
  ·rw [if_neg e4] at h
   have e4f : (inR (l.getD t11_.toNat default) lo hi) = false := Bool.eq_false_iff.mpr e4
   cases h
   simp (maxDischargeDepth := 9) only [↓xpre, xpost, xlst, xcore, yset, ↓reduceIte, Nat.reduceEqDiff, Nat.reduceLT, Nat.reduceAdd, m0, m1, m2, m3, m4, e1, e2.1, e2.2, c3, e4f, s_l1All_l0_M, s_l1All_l0_X, sxR] <;> (repeat' apply And.intro) <;> first | rfl | exact ⟨_, rfl⟩ | exact ⟨_, _, rfl⟩ | simp [lst, cat2_nil]
 ·rw [if_neg e1] at h
  cases h
  simp (maxDischargeDepth := 9) only [↓xpre, xpost, yset, ↓reduceIte, Nat.reduceLT, m3, m4, e1, s_l1All_l0_M, s_l1All_l0_X, sxE] <;> (repeat' apply And.intro) <;> first | rfl | exact ⟨_, rfl⟩ | exact ⟨_, _, rfl⟩ | simp [lst, cat2_nil]
theorem s_l1All_call (l : List Int) (lo hi : Int) {r : Bool} (h : s_l1All l lo hi = some r) : Y.call 72 [D.sl 3 (lst (D.int .i64) l), D.int .i64 lo, D.int .i64 hi] [] = some (D.bool r, []) := by
 refine c72 ?_ rfl
 unfold k72
 unfold s_l1All at h
 obtain ⟨r2_, hl2, h⟩ := bindS h
 try dsimp only at h
 simp (maxDischargeDepth := 9) only [↓xpre, xpost, xlst, xcore, yset, ↓reduceIte, Nat.reduceEqDiff, Nat.reduceLT]
 refine wd_mono (s_l1All_l0_wp l lo hi hl2 ?_) ?_
 ·simp (maxDischargeDepth := 9) only [xpost, xcore, ↓reduceIte, Nat.reduceEqDiff, Nat.reduceLT, s_l1All_l0_M] <;> (repeat' apply And.intro) <;> first | rfl | exact ⟨_, rfl⟩ | exact ⟨_, _, rfl⟩ | simp [lst, cat2_nil]
 ·intro ex2 s2 hX2
  rcases r2_ with q2_ | q2_
  ·unfold s_l1All_l0_X at hX2
   dsimp only at hX2 h
   obtain ⟨rfl, n2_0⟩ := hX2
   cases h
   simp (maxDischargeDepth := 9) only [↓xpre, xpost, xcore, ↓reduceIte, n2_0] <;> (repeat' apply And.intro) <;> first | rfl | exact ⟨_, rfl⟩ | exact ⟨_, _, rfl⟩ | simp [lst, cat2_nil]
  ·unfold s_l1All_l0_X at hX2
   dsimp only at hX2 h
   obtain rfl := hX2
   cases h
   simp (maxDischargeDepth := 9) only [↓xpre, xpost, xcore, yset, ↓reduceIte, Nat.reduceEqDiff, Nat.reduceLT] <;> (repeat' apply And.intro) <;> first | rfl | exact ⟨_, rfl⟩ | exact ⟨_, _, rfl⟩ | simp [lst, cat2_nil]

def allIn (l : List Int) (lo hi : Int) : Bool := l.all fun x => inR x lo hi
theorem s_l1All_eq (l : List Int) (lo hi : Int) (h : l.length < 1099511627776) : s_l1All l lo hi = some (allIn l lo hi) := by
 unfold s_l1All s_l1All_l0
 have key := itO_all (fun v => s_l1All_l0_S l lo hi v) (fun i => (i : Int)) l.length (fun i => inR (l.getD i default) lo hi) (.inl ()) (.inr ()) ?_ ?_
 ·simp only [Int.natCast_zero] at key
  rw [key, all_getD (fun x => inR x lo hi)]
  unfold allIn
  cases l.all (fun x => inR x lo hi) <;> rfl
 ·intro i hi
  simp only [s_l1All_l0_S]
  rw [if_pos (lt_nat hi), ckT (ix_nat hi), Int.toNat_natCast, wrS i (by omega)]
 ·simp only [s_l1All_l0_S]; rw [if_neg (not_lt_nat _)]
theorem s_l1All_cl (l : List Int) (lo hi : Int) (h0 : l.length < 1099511627776) : Y.call 72 [D.sl 3 (lst (D.int .i64) l), D.int .i64 lo, D.int .i64 hi] [] = some (D.bool (allIn l lo hi), []) := s_l1All_call l lo hi (s_l1All_eq l lo hi h0)
noncomputable def gIF_l0_S (s_ : List Int) (f : Int → Option Bool) (t8_ : Int) : Option ((Int) ⊕ (Int ⊕ Unit)) :=
 if t8_ < (s_.length : Int) then
  ck (0 ≤ t8_ ∧ t8_.toNat < s_.length) <|
  (f (s_.getD t8_.toNat default)).bind fun r3_ =>
  if r3_ = true then
   some (Sum.inr (Sum.inl t8_))
  else
   some (Sum.inl (IntKind.i64.wrap (t8_ + 1)))
 else
  some (Sum.inr (Sum.inr ()))
noncomputable def gIF_l0 (s_ : List Int) (f : Int → Option Bool) (v : Int) : Option (Int ⊕ Unit) := itO (fun v => gIF_l0_S s_ f v) v
noncomputable def gIF (s_ : List Int) (f : Int → Option Bool) : Option (Int) :=
 (gIF_l0 s_ f 0).bind fun r2_ =>
 match r2_ with
 | .inl q2_ =>
  some q2_
 | .inr q2_ =>
  some (-1)
/-- slices.IndexFunc[[]int,int] -/
def k155_l0b : SC :=
 .seq
 (.ops [
 ⟨some 9, .binOp .lss 3 (.tmp 8) (.tmp 7) 3, 0, none⟩])
 (.seq
 (.cond (.tmp 9)
 .skip
 (.exit 0))
 (.seq
 (.block 1
 (.seq
 (.ops [
 ⟨some 10, .move (.tmp 8), 3, none⟩,
 ⟨some 5, .assign (.tmp 10), 3, none⟩])
 (.seq
 (.ops [
 ⟨some 11, .move (.tmp 1), 115, none⟩,
 ⟨some 12, .move (.tmp 0), 23, none⟩,
 ⟨some 13, .move (.tmp 5), 3, none⟩,
 ⟨some 14, .indexAddr 23 (.tmp 12) (.tmp 13), 0, none⟩,
 ⟨some 15, .load 3 (.tmp 14), 3, none⟩,
 ⟨some 16, .call ⟨(.value (.tmp 11)), #[(.tmp 15)], #[3]⟩, 4, none⟩])
 (.cond (.tmp 16)
 (.seq
 (.ops [
 ⟨some 17, .move (.tmp 5), 3, none⟩,
 ⟨some 4, .assign (.tmp 17), 3, none⟩])
 .ret)
 .skip))))
 (.ops [
 ⟨some 18, .binOp .add 3 (.tmp 8) (.const (.int .i64 1)) 3, 3, none⟩,
 ⟨some 8, .move (.tmp 18), 3, none⟩])))
def k155_l0 : SC := .loop k155_l0b
def k155 : SC :=
 .seq
 (.ops [
 ⟨some 4, .assign (.const (.int .i64 0)), 3, none⟩])
 (.seq
 (.seq
 (.ops [
 ⟨some 6, .move (.tmp 0), 23, none⟩,
 ⟨some 7, .call ⟨(.builtin .len), #[(.tmp 6)], #[23]⟩, 3, none⟩,
 ⟨some 8, .move (.const (.int .i64 0)), 3, none⟩])
 (.block 0
 k155_l0))
 (.seq
 (.ops [
 ⟨some 4, .assign (.const (.int .i64 (-1))), 3, none⟩])
 .ret))
theorem slim155 : Try.f155.body.map (slim lends) = some k155 := by kernel_rfl
theorem ok155 : fnOk Try.f155 2 = true := by kernel_rfl
theorem c155 {a l : List D} {r : D × List D} (h : wpD Y.env k155 (fin tys l.length [ResultVar.tmp 4] r) (entry a l)) (ha : a.length = 2) : Y.call 155 a l = some r :=
 call_slim (Y := Y) rfl Try.func155 (ha ▸ ok155) slim155 h
def gIF_l0_M (s_ : List Int) (f : Int → Option Bool) (f_f : FuncId) (f_c : List D) (t8_ : Int) (s : St) : Prop := s.v 0 = D.sl 3 (lst (D.int .i64) s_) ∧ s.v 1 = D.clo f_f f_c ∧ s.v 7 = D.int .i64 (s_.length : Int) ∧ s.v 8 = D.int .i64 t8_
def gIF_l0_X (s_ : List Int) (f : Int → Option Bool) (f_f : FuncId) (f_c : List D) (r : Int ⊕ Unit) (ex : Ex) (s : St) : Prop := match r with
 | .inl q => ex = .ret ∧ s.v 4 = D.int .i64 q
 | .inr q => ex = .exit 0
theorem gIF_l0_wp (s_ : List Int) (f : Int → Option Bool) (f_f : FuncId) (f_c : List D) (f_h : ∀ (a0 : Int) (r : Bool), f a0 = some r → Y.call f_f (D.int .i64 a0 :: f_c) [] = some (D.bool r, [])) (f_l : lends f_f = false) {v : Int} {s : St} {r : Int ⊕ Unit} (h : gIF_l0 s_ f v = some r) (hM : gIF_l0_M s_ f f_f f_c v s) : wpD Y.env k155_l0 (gIF_l0_X s_ f f_f f_c r) s := by
 unfold gIF_l0 at h
 refine wd_itO (c := k155_l0b) (fun v => gIF_l0_S s_ f v) (fun v s => gIF_l0_M s_ f f_f f_c v s) (gIF_l0_X s_ f f_f f_c) ?_ h hM
 clear h hM s v r
 intro t8_ s o hM h
 unfold gIF_l0_S at h
 unfold gIF_l0_M at hM
 obtain ⟨m0, m1, m2, m3⟩ := hM
 unfold k155_l0b
 by_cases e1 : t8_ < (s_.length : Int)
 ·rw [if_pos e1] at h
  obtain ⟨e2, h⟩ := ckS h
  obtain ⟨r3_, hl3, h⟩ := bindS h
  try dsimp only at h
  have c3 := f_h _ _ hl3
  by_cases e4 : r3_ = true
  ·rw [if_pos e4] at h
   cases h
   simp (maxDischargeDepth := 9) only [↓xpre, xpost, xlst, xcore, yset, ↓reduceIte, Nat.reduceEqDiff, Nat.reduceLT, Nat.reduceAdd, m0, m1, m2, m3, f_l, e1, e2.1, e2.2, c3, e4, gIF_l0_M, gIF_l0_X, sxR] <;> (repeat' apply And.intro) <;> first | rfl | exact ⟨_, rfl⟩ | exact ⟨_, _, rfl⟩ | simp [lst, cat2_nil]
  ·rw [if_neg e4] at h
   have e4f : r3_ = false := Bool.eq_false_iff.mpr e4
   cases h
   simp (maxDischargeDepth := 9) only [↓xpre, xpost, xlst, xcore, yset, ↓reduceIte, Nat.reduceEqDiff, Nat.reduceLT, Nat.reduceAdd, m0, m1, m2, m3, f_l, e1, e2.1, e2.2, c3, e4f, gIF_l0_M, sxN] <;> (repeat' apply And.intro) <;> first | rfl | exact ⟨_, rfl⟩ | exact ⟨_, _, rfl⟩ | simp [lst, cat2_nil]
 ·rw [if_neg e1] at h
  cases h
  simp (maxDischargeDepth := 9) only [↓xpre, xpost, yset, ↓reduceIte, Nat.reduceLT, m2, m3, e1, gIF_l0_M, gIF_l0_X, sxE] <;> (repeat' apply And.intro) <;> first | rfl | exact ⟨_, rfl⟩ | exact ⟨_, _, rfl⟩ | simp [lst, cat2_nil]
theorem gIF_call (s_ : List Int) (f : Int → Option Bool) (f_f : FuncId) (f_c : List D) (f_h : ∀ (a0 : Int) (r : Bool), f a0 = some r → Y.call f_f (D.int .i64 a0 :: f_c) [] = some (D.bool r, [])) (f_l : lends f_f = false) {r : Int} (h : gIF s_ f = some r) : Y.call 155 [D.sl 3 (lst (D.int .i64) s_), D.clo f_f f_c] [] = some (D.int .i64 r, []) := by
 refine c155 ?_ rfl
 unfold k155
 unfold gIF at h
 obtain ⟨r2_, hl2, h⟩ := bindS h
 try dsimp only at h
 simp (maxDischargeDepth := 9) only [↓xpre, xpost, xlst, xcore, yset, ↓reduceIte, Nat.reduceEqDiff, Nat.reduceLT, Int.reduceNeg]
 refine wd_mono (gIF_l0_wp s_ f f_f f_c f_h f_l hl2 ?_) ?_
 ·simp (maxDischargeDepth := 9) only [xpost, xcore, ↓reduceIte, Nat.reduceEqDiff, Nat.reduceLT, gIF_l0_M] <;> (repeat' apply And.intro) <;> first | rfl | exact ⟨_, rfl⟩ | exact ⟨_, _, rfl⟩ | simp [lst, cat2_nil]
 ·intro ex2 s2 hX2
  rcases r2_ with q2_ | q2_
  ·unfold gIF_l0_X at hX2
   dsimp only at hX2 h
   obtain ⟨rfl, n2_0⟩ := hX2
   cases h
   simp (maxDischargeDepth := 9) only [↓xpre, xpost, xcore, ↓reduceIte, n2_0] <;> (repeat' apply And.intro) <;> first | rfl | exact ⟨_, rfl⟩ | exact ⟨_, _, rfl⟩ | simp [lst, cat2_nil]
  ·unfold gIF_l0_X at hX2
   dsimp only at hX2 h
   obtain rfl := hX2
   cases h
   simp (maxDischargeDepth := 9) only [↓xpre, xpost, xcore, yset, ↓reduceIte, Nat.reduceEqDiff, Nat.reduceLT, Int.reduceNeg] <;> (repeat' apply And.intro) <;> first | rfl | exact ⟨_, rfl⟩ | exact ⟨_, _, rfl⟩ | simp [lst, cat2_nil]

noncomputable def g_slices_ContainsFunc_Sint_int (s_ : List Int) (f : Int → Option Bool) : Option (Bool) :=
 (gIF s_ f).bind fun r1_ =>
 some (decide (0 ≤ r1_))
/-- slices.ContainsFunc[[]int,int] -/
def k131 : SC :=
 .seq
 (.ops [
 ⟨some 4, .assign (.const (.bool false)), 4, none⟩])
 (.seq
 (.ops [
 ⟨some 5, .move (.tmp 0), 23, none⟩,
 ⟨some 6, .move (.tmp 1), 115, none⟩,
 ⟨some 7, .call ⟨(.value (.func 155)), #[(.tmp 5), (.tmp 6)], #[23, 115]⟩, 3, none⟩,
 ⟨some 8, .binOp .geq 3 (.tmp 7) (.const (.int .i64 0)) 3, 4, none⟩,
 ⟨some 4, .assign (.tmp 8), 4, none⟩])
 .ret)
theorem slim131 : Try.f131.body.map (slim lends) = some k131 := by kernel_rfl
theorem ok131 : fnOk Try.f131 2 = true := by kernel_rfl
theorem c131 {a l : List D} {r : D × List D} (h : wpD Y.env k131 (fin tys l.length [ResultVar.tmp 4] r) (entry a l)) (ha : a.length = 2) : Y.call 131 a l = some r :=
 call_slim (Y := Y) rfl Try.func131 (ha ▸ ok131) slim131 h
theorem g_slices_ContainsFunc_Sint_int_call (s_ : List Int) (f : Int → Option Bool) (f_f : FuncId) (f_c : List D) (f_h : ∀ (a0 : Int) (r : Bool), f a0 = some r → Y.call f_f (D.int .i64 a0 :: f_c) [] = some (D.bool r, [])) (f_l : lends f_f = false) {r : Bool} (h : g_slices_ContainsFunc_Sint_int s_ f = some r) : Y.call 131 [D.sl 3 (lst (D.int .i64) s_), D.clo f_f f_c] [] = some (D.bool r, []) := by
 refine c131 ?_ rfl
 unfold k131
 unfold g_slices_ContainsFunc_Sint_int at h
 obtain ⟨r1_, hl1, h⟩ := bindS h
 try dsimp only at h
 have c1 := gIF_call s_ f f_f f_c f_h f_l hl1
 cases h
 simp (maxDischargeDepth := 9) only [↓xpre, xpost, xcore, yset, ↓reduceIte, Nat.reduceEqDiff, Nat.reduceLT, Nat.reduceAdd, c1] <;> (repeat' apply And.intro) <;> first | rfl | exact ⟨_, rfl⟩ | exact ⟨_, _, rfl⟩ | simp [lst, cat2_nil]

noncomputable def i_allWithin_1 (n_ c0_ c1_ : Int) : Option (Bool) :=
 some (!(inR n_ c0_ c1_))
/-- impl.allWithin$1 -/
def k132 : SC :=
 .seq
 (.ops [
 ⟨some 4, .assign (.const (.bool false)), 4, none⟩])
 (.seq
 (.ops [
 ⟨some 5, .move (.tmp 0), 3, none⟩,
 ⟨some 6, .load 3 (.tmp 1), 3, none⟩,
 ⟨some 7, .load 3 (.tmp 2), 3, none⟩,
 ⟨some 8, .call ⟨(.value (.func 77)), #[(.tmp 5), (.tmp 6), (.tmp 7)], #[3, 3, 3]⟩, 4, none⟩,
 ⟨some 9, .unOp .not 4 (.tmp 8), 4, none⟩,
 ⟨some 4, .assign (.tmp 9), 4, none⟩])
 .ret)
theorem slim132 : Try.f132.body.map (slim lends) = some k132 := by kernel_rfl
theorem ok132 : fnOk Try.f132 3 = true := by kernel_rfl
theorem c132 {a l : List D} {r : D × List D} (h : wpD Y.env k132 (fin tys l.length [ResultVar.tmp 4] r) (entry a l)) (ha : a.length = 3) : Y.call 132 a l = some r :=
 call_slim (Y := Y) rfl Try.func132 (ha ▸ ok132) slim132 h
theorem i_allWithin_1_call (n_ c0_ c1_ : Int) {r : Bool} (h : i_allWithin_1 n_ c0_ c1_ = some r) : Y.call 132 [D.int .i64 n_, D.cptr [D.int .i64 c0_], D.cptr [D.int .i64 c1_]] [] = some (D.bool r, []) := by
 refine c132 ?_ rfl
 unfold k132
 unfold i_allWithin_1 at h
 have c1 := i_within_cl n_ c0_ c1_
 cases h
 simp (maxDischargeDepth := 9) only [↓xpre, xpost, xcore, yset, ↓reduceIte, Nat.reduceEqDiff, Nat.reduceLT, Nat.reduceAdd, c1] <;> (repeat' apply And.intro) <;> first | rfl | exact ⟨_, rfl⟩ | exact ⟨_, _, rfl⟩ | simp [lst, cat2_nil]

noncomputable def i_allWithin (list : List Int) (low high : Int) : Option (Bool) :=
 (g_slices_ContainsFunc_Sint_int list (fun a0 => i_allWithin_1 a0 low high)).bind fun r1_ =>
 some (!r1_)
/-- impl.allWithin -/
def k83 : SC :=
 .seq
 (.ops [
 ⟨some 4, .box 3 (.tmp 1), 0, none⟩,
 ⟨some 5, .box 3 (.tmp 2), 0, none⟩,
 ⟨some 6, .assign (.const (.bool false)), 4, none⟩])
 (.seq
 (.ops [
 ⟨some 7, .move (.tmp 0), 23, none⟩,
 ⟨some 8, .makeFunc (Fn.func 132) #[] #[(.tmp 4), (.tmp 5)], 115, none⟩,
 ⟨some 9, .call ⟨(.value (.func 131)), #[(.tmp 7), (.tmp 8)], #[23, 115]⟩, 4, none⟩,
 ⟨some 10, .unOp .not 4 (.tmp 9), 4, none⟩,
 ⟨some 6, .assign (.tmp 10), 4, none⟩])
 .ret)
theorem slim83 : Try.f83.body.map (slim lends) = some k83 := by kernel_rfl
theorem ok83 : fnOk Try.f83 3 = true := by kernel_rfl
theorem c83 {a l : List D} {r : D × List D} (h : wpD Y.env k83 (fin tys l.length [ResultVar.tmp 6] r) (entry a l)) (ha : a.length = 3) : Y.call 83 a l = some r :=
 call_slim (Y := Y) rfl Try.func83 (ha ▸ ok83) slim83 h
theorem i_allWithin_call (list : List Int) (low high : Int) {r : Bool} (h : i_allWithin list low high = some r) : Y.call 83 [D.sl 3 (lst (D.int .i64) list), D.int .i64 low, D.int .i64 high] [] = some (D.bool r, []) := by
 refine c83 ?_ rfl
 unfold k83
 unfold i_allWithin at h
 obtain ⟨r1_, hl1, h⟩ := bindS h
 try dsimp only at h
 have c1 := g_slices_ContainsFunc_Sint_int_call list (fun a0 => i_allWithin_1 a0 low high) 132 [D.cptr [D.int .i64 low], D.cptr [D.int .i64 high]] (fun a0 _ hh => i_allWithin_1_call a0 low high hh) le132 hl1
 cases h
 simp (maxDischargeDepth := 9) only [↓xpre, xpost, xcore, yset, ↓reduceIte, Nat.reduceEqDiff, Nat.reduceLT, Nat.reduceAdd, c1] <;> (repeat' apply And.intro) <;> first | rfl | exact ⟨_, rfl⟩ | exact ⟨_, _, rfl⟩ | simp [lst, cat2_nil]

theorem indexFunc_eq (l : List Int) (f : Int → Option Bool) (p : Int → Bool) (h : l.length < 1099511627776) (hf : ∀ x ∈ l, f x = some (p x)) :
  ∃ r, gIF l f = some r ∧ (0 ≤ r ↔ l.any p = true) := by
 unfold gIF gIF_l0
 by_cases ha : ∀ i, i < l.length → (!p (l.getD i default)) = true
 ·have key := itO_for (fun v => gIF_l0_S l f v) (fun i => (i : Int)) l.length (.inr ()) ?_ ?_
  ·simp only [Int.natCast_zero] at key
   rw [key]
   refine ⟨-1, rfl, by simp, fun hc => ?_⟩
   obtain ⟨x, hx, hpx⟩ := List.any_eq_true.1 hc
   obtain ⟨i, hi, rfl⟩ := List.getElem_of_mem hx
   have := ha i hi
   rw [getD_get _ _ hi, hpx] at this; cases this
  ·intro i hi
   simp only [gIF_l0_S]
   have e := ha i hi
   rw [getD_get _ _ hi] at e
   rw [if_pos (lt_nat hi), ckT (ix_nat hi), getD_nat _ _ hi, hf _ (List.getElem_mem hi), Option.bind_some, if_neg (by cases hp : p l[i] <;> simp_all), wrS i (by omega)]
  ·simp only [gIF_l0_S]; rw [if_neg (not_lt_nat _)]
 ·obtain ⟨m, h1, h2, h3⟩ := first_fail (P := fun i => !p (l.getD i default)) ha
  have key := itO_for (fun v => gIF_l0_S l f v) (fun i => (i : Int)) m (.inl (m : Int)) ?_ ?_
  ·simp only [Int.natCast_zero] at key
   rw [key]
   refine ⟨(m : Int), rfl, fun _ => ?_, fun _ => by omega⟩
   have h2' : p l[m] = true := by rw [getD_get _ _ h1] at h2; simpa using h2
   exact List.any_eq_true.2 ⟨_, List.getElem_mem h1, h2'⟩
  ·intro i hi
   simp only [gIF_l0_S]
   have e := h3 i hi
   rw [getD_get _ _ (by omega)] at e
   rw [if_pos (lt_nat (by omega)), ckT (ix_nat (by omega)), getD_nat _ _ (by omega), hf _ (List.getElem_mem _), Option.bind_some, if_neg (by cases hp : p l[i] <;> simp_all), wrS i (by omega)]
  ·simp only [gIF_l0_S]
   have h2' : p l[m] = true := by rw [getD_get _ _ h1] at h2; simpa using h2
   rw [if_pos (lt_nat h1), ckT (ix_nat h1), getD_nat _ _ h1, hf _ (List.getElem_mem _), Option.bind_some, if_pos h2']
theorem containsFunc_eq (l : List Int) (f : Int → Option Bool) (p : Int → Bool) (h : l.length < 1099511627776) (hf : ∀ x ∈ l, f x = some (p x)) : g_slices_ContainsFunc_Sint_int l f = some (l.any p) := by
 obtain ⟨r, h1, h2⟩ := indexFunc_eq l f p h hf
 unfold g_slices_ContainsFunc_Sint_int
 rw [h1, Option.bind_some]
 congr 1
 rw [Bool.eq_iff_iff]; simpa using h2
theorem i_allWithin_eq (l : List Int) (lo hi : Int) (h : l.length < 1099511627776) : i_allWithin l lo hi = some (allIn l lo hi) := by
 unfold i_allWithin
 rw [containsFunc_eq l (fun a0 => i_allWithin_1 a0 lo hi) (fun x => !inR x lo hi) h (fun x _ => rfl), Option.bind_some]
 unfold allIn
 rw [List.all_eq_not_any_not]
theorem i_allWithin_cl (list : List Int) (low high : Int) (h0 : list.length < 1099511627776) : Y.call 83 [D.sl 3 (lst (D.int .i64) list), D.int .i64 low, D.int .i64 high] [] = some (D.bool (allIn list low high), []) := i_allWithin_call list low high (i_allWithin_eq list low high h0)
theorem Short.getD {l : List (List Int)} (h : Short l) (i : Nat) : (l.getD i default).length < 1099511627776 := by
 rcases Nat.lt_or_ge i l.length with hi | hi
 ·rw [getD_get _ _ hi]; exact h.at i hi
 ·rw [List.getD_eq_getElem?_getD, List.getElem?_eq_none hi]; decide
end Go.Proofs.Ytipfckompmhljaa
