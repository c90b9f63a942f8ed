/- When lists are a problem, as plain functions. Conditions: the lists are short. -/
import Derived.Test.YtipfckompmhljaaL6
import Derived.Test.YtipfckompmhljaaPB
namespace Go.Proofs.Ytipfckompmhljaa
open Go Dv
set_option linter.unusedSimpArgs false
set_option linter.unusedVariables false
set_option maxRecDepth 100000
set_option maxHeartbeats 4000000

def inR (n lo hi : Int) : Bool := decide (lo ≤ n ∧ n ≤ hi)
theorem inR_iff {n lo hi : Int} : inR n lo hi = true ↔ lo ≤ n ∧ n ≤ hi := by simp [inR]
noncomputable def i_within (n_ low high : Int) : Option (Bool) :=
 if low ≤ n_ then
  some (decide (n_ ≤ high))
 else
  some false
/-- impl.within -/
def k77 : SC :=
 .seq
 (.ops [
 ⟨some 6, .assign (.const (.bool false)), 4, none⟩])
 (.seq
 (.ops [
 ⟨some 7, .move (.tmp 1), 3, none⟩,
 ⟨some 8, .move (.tmp 0), 3, none⟩,
 ⟨some 9, .binOp .leq 3 (.tmp 7) (.tmp 8) 3, 4, none⟩,
 ⟨some 10, .move (.tmp 9), 4, none⟩,
 ⟨some 11, .move (.tmp 0), 3, (some (some 10, true))⟩,
 ⟨some 12, .move (.tmp 2), 3, (some (some 10, true))⟩,
 ⟨some 13, .binOp .leq 3 (.tmp 11) (.tmp 12) 3, 4, (some (some 10, true))⟩,
 ⟨some 14, .pick (.tmp 10) (.tmp 13) (.const (.bool false)), 4, none⟩,
 ⟨some 6, .assign (.tmp 14), 4, none⟩])
 .ret)
theorem slim77 : Try.f77.body.map (slim lends) = some k77 := by kernel_rfl
theorem ok77 : fnOk Try.f77 3 = true := by kernel_rfl
theorem c77 {a l : List D} {r : D × List D} (h : wpD Y.env k77 (fin tys l.length [ResultVar.tmp 6] r) (entry a l)) (ha : a.length = 3) : Y.call 77 a l = some r :=
 call_slim (Y := Y) rfl Try.func77 (ha ▸ ok77) slim77 h
theorem i_within_call (n_ low high : Int) {r : Bool} (h : i_within n_ low high = some r) : Y.call 77 [D.int .i64 n_, D.int .i64 low, D.int .i64 high] [] = some (D.bool r, []) := by
 refine c77 ?_ rfl
 unfold k77
 unfold i_within at h
 by_cases e1 : low ≤ n_
 ·rw [if_pos e1] at h
  cases h
  simp (maxDischargeDepth := 9) only [↓xpre, xpost, xcore, yset, ↓reduceIte, Nat.reduceEqDiff, Nat.reduceLT, e1]
 ·rw [if_neg e1] at h
  cases h
  simp (maxDischargeDepth := 9) only [↓xpre, xpost, xcore, yset, ↓reduceIte, Nat.reduceEqDiff, Nat.reduceLT, e1]

noncomputable def s_l1In (n_ lo hi : Int) : Option (Bool) :=
 if lo ≤ n_ then
  some (decide (n_ ≤ hi))
 else
  some false
/-- spec.l1In -/
def k43 : SC :=
 .seq
 (.ops [
 ⟨some 6, .assign (.const (.bool false)), 4, none⟩])
 (.seq
 (.ops [
 ⟨some 7, .move (.tmp 0), 3, none⟩,
 ⟨some 8, .move (.tmp 1), 3, none⟩,
 ⟨some 9, .binOp .geq 3 (.tmp 7) (.tmp 8) 3, 4, none⟩,
 ⟨some 10, .move (.tmp 9), 4, none⟩,
 ⟨some 11, .move (.tmp 0), 3, (some (some 10, true))⟩,
 ⟨some 12, .move (.tmp 2), 3, (some (some 10, true))⟩,
 ⟨some 13, .binOp .leq 3 (.tmp 11) (.tmp 12) 3, 4, (some (some 10, true))⟩,
 ⟨some 14, .pick (.tmp 10) (.tmp 13) (.const (.bool false)), 4, none⟩,
 ⟨some 6, .assign (.tmp 14), 4, none⟩])
 .ret)
theorem slim43 : Try.f43.body.map (slim lends) = some k43 := by kernel_rfl
theorem ok43 : fnOk Try.f43 3 = true := by kernel_rfl
theorem c43 {a l : List D} {r : D × List D} (h : wpD Y.env k43 (fin tys l.length [ResultVar.tmp 6] r) (entry a l)) (ha : a.length = 3) : Y.call 43 a l = some r :=
 call_slim (Y := Y) rfl Try.func43 (ha ▸ ok43) slim43 h
theorem s_l1In_call (n_ lo hi : Int) {r : Bool} (h : s_l1In n_ lo hi = some r) : Y.call 43 [D.int .i64 n_, D.int .i64 lo, D.int .i64 hi] [] = some (D.bool r, []) := by
 refine c43 ?_ rfl
 unfold k43
 unfold s_l1In at h
 by_cases e1 : lo ≤ n_
 ·rw [if_pos e1] at h
  cases h
  simp (maxDischargeDepth := 9) only [↓xpre, xpost, xcore, yset, ↓reduceIte, Nat.reduceEqDiff, Nat.reduceLT, e1]
 ·rw [if_neg e1] at h
  cases h
  simp (maxDischargeDepth := 9) only [↓xpre, xpost, xcore, yset, ↓reduceIte, Nat.reduceEqDiff, Nat.reduceLT, e1]

theorem i_within_eq (n lo hi : Int) : i_within n lo hi = some (inR n lo hi) := by unfold i_within inR; by_cases h1 : lo ≤ n <;> by_cases h2 : n ≤ hi <;> simp [h1, h2]
theorem s_l1In_eq (n lo hi : Int) : s_l1In n lo hi = some (inR n lo hi) := by unfold s_l1In inR; by_cases h1 : lo ≤ n <;> by_cases h2 : n ≤ hi <;> simp [h1, h2]
theorem i_within_cl (n_ low high : Int)  : Y.call 77 [D.int .i64 n_, D.int .i64 low, D.int .i64 high] [] = some (D.bool (inR n_ low high), []) := i_within_call n_ low high (i_within_eq n_ low high)
theorem s_l1In_cl (n_ lo hi : Int)  : Y.call 43 [D.int .i64 n_, D.int .i64 lo, D.int .i64 hi] [] = some (D.bool (inR n_ lo hi), []) := s_l1In_call n_ lo hi (s_l1In_eq n_ lo hi)
noncomputable def s_l1All_l0_S (l : List Int) (lo hi t11_ : Int) : Option ((Int) ⊕ (Unit ⊕ Unit)) :=
 if t11_ < (l.length : Int) then
  ck (0 ≤ t11_ ∧ t11_.toNat < l.length) <|
  if (inR (l.getD t11_.toNat default) lo hi) = true then
   some (Sum.inl (IntKind.i64.wrap (t11_ + 1)))
  else
   some (Sum.inr (Sum.inl ()))
 else
  some (Sum.inr (Sum.inr ()))
noncomputable def s_l1All_l0 (l : List Int) (lo hi v : Int) : Option (Unit ⊕ Unit) := itO (fun v => s_l1All_l0_S l lo hi v) v
noncomputable def s_l1All (l : List Int) (lo hi : Int) : Option (Bool) :=
 (s_l1All_l0 l lo hi 0).bind fun r2_ =>
 match r2_ with
 | .inl q2_ =>
  some false
 | .inr q2_ =>
  some true
/-- spec.l1All -/
def k72_l0b : SC :=
 .seq
 (.ops [
 ⟨some 12, .binOp .lss 3 (.tmp 11) (.tmp 10) 3, 0, none⟩])
 (.seq
 (.cond (.tmp 12)
 .skip
 (.exit 0))
 (.seq
 (.block 1
 (.seq
 (.ops [
 ⟨some 13, .indexAddr 23 (.tmp 9) (.tmp 11), 0, none⟩,
 ⟨some 14, .load 3 (.tmp 13), 3, none⟩,
 ⟨some 8, .assign (.tmp 14), 3, none⟩])
 (.seq
 (.ops [
 ⟨some 15, .move (.tmp 8), 3, none⟩,
 ⟨some 16, .move (.tmp 1), 3, none⟩,
 ⟨some 17, .move (.tmp 2), 3, none⟩,
 ⟨some 18, .call ⟨(.value (.func 43)), #[(.tmp 15), (.tmp 16), (.tmp 17)], #[3, 3, 3]⟩, 4, none⟩,
 ⟨some 19, .unOp .not 4 (.tmp 18), 4, none⟩])
 (.cond (.tmp 19)
 (.seq
 (.ops [
 ⟨some 6, .assign (.const (.bool false)), 4, none⟩])
 .ret)
 .skip))))
 (.ops [
 ⟨some 20, .binOp .add 3 (.tmp 11) (.const (.int .i64 1)) 3, 3, none⟩,
 ⟨some 11, .move (.tmp 20), 3, none⟩])))
def k72_l0 : SC := .loop k72_l0b
def k72 : SC :=
 .seq
 (.ops [
 ⟨some 6, .assign (.const (.bool false)), 4, none⟩])
 (.seq
 (.seq
 (.ops [
 ⟨some 9, .move (.tmp 0), 23, none⟩,
 ⟨some 10, .call ⟨(.builtin .len), #[(.tmp 9)], #[23]⟩, 3, none⟩,
 ⟨some 11, .move (.const (.int .i64 0)), 3, none⟩])
 (.block 0
 k72_l0))
 (.seq
 (.ops [
 ⟨some 6, .assign (.const (.bool true)), 4, none⟩])
 .ret))
theorem slim72 : Try.f72.body.map (slim lends) = some k72 := by kernel_rfl
theorem ok72 : fnOk Try.f72 3 = true := by kernel_rfl
theorem c72 {a l : List D} {r : D × List D} (h : wpD Y.env k72 (fin tys l.length [ResultVar.tmp 6] r) (entry a l)) (ha : a.length = 3) : Y.call 72 a l = some r :=
 call_slim (Y := Y) rfl Try.func72 (ha ▸ ok72) slim72 h
def s_l1All_l0_M (l : List Int) (lo hi t11_ : Int) (s : St) : Prop := s.v 1 = D.int .i64 lo ∧ s.v 2 = D.int .i64 hi ∧ s.v 9 = D.sl 3 (lst (D.int .i64) l) ∧ s.v 10 = D.int .i64 (l.length : Int) ∧ s.v 11 = D.int .i64 t11_
def s_l1All_l0_X (l : List Int) (lo hi : Int) (r : Unit ⊕ Unit) (ex : Ex) (s : St) : Prop := match r with
 | .inl q => ex = .ret ∧ s.v 6 = D.bool false
 | .inr q => ex = .exit 0
theorem s_l1All_l0_wp (l : List Int) (lo hi : Int) {v : Int} {s : St} {r : Unit ⊕ Unit} (h : s_l1All_l0 l lo hi v = some r) (hM : s_l1All_l0_M l lo hi v s) : wpD Y.env k72_l0 (s_l1All_l0_X l lo hi r) s := by
 unfold s_l1All_l0 at h
 refine wd_itO (c := k72_l0b) (fun v => s_l1All_l0_S l lo hi v) (fun v s => s_l1All_l0_M l lo hi v s) (s_l1All_l0_X l lo hi) ?_ h hM
 clear h hM s v r
 intro t11_ s o hM h
 unfold s_l1All_l0_S at h
 unfold s_l1All_l0_M at hM
 obtain ⟨m0, m1, m2, m3, m4⟩ := hM
 unfold k72_l0b
 by_cases e1 : t11_ < (l.length : Int)
 ·rw [if_pos e1] at h
  obtain ⟨e2, h⟩ := ckS h
  have c3 := s_l1In_cl (l.getD t11_.toNat default) lo hi
  by_cases e4 : (inR (l.getD t11_.toNat default) lo hi) = true
  ·rw [if_pos e4] at h
   cases h
   simp (maxDischargeDepth := 9) only [↓xpre, xpost, xlst, xc2, xcore, yset, ↓reduceIte, Nat.reduceEqDiff, Nat.reduceLT, Nat.reduceAdd, m0, m1, m2, m3, m4, e1, e2.1, e2.2, c3, e4, s_l1All_l0_M, sxN]
  ·rw [if_neg e4] at h
   have e4f : (inR (l.getD t11_.toNat default) lo hi) = false := Bool.eq_false_iff.mpr e4
   cases h
   simp (maxDischargeDepth := 9) only [↓xpre, xpost, xlst, xc2, xcore, yset, ↓reduceIte, Nat.reduceEqDiff, Nat.reduceLT, Nat.reduceAdd, m0, m1, m2, m3, m4, e1, e2.1, e2.2, c3, e4f, s_l1All_l0_M, s_l1All_l0_X, sxR]
 ·rw [if_neg e1] at h
  cases h
  simp (maxDischargeDepth := 9) only [↓xpre, xpost, yset, ↓reduceIte, Nat.reduceLT, m3, m4, e1, s_l1All_l0_M, s_l1All_l0_X, sxE]
theorem s_l1All_call (l : List Int) (lo hi : Int) {r : Bool} (h : s_l1All l lo hi = some r) : Y.call 72 [D.sl 3 (lst (D.int .i64) l), D.int .i64 lo, D.int .i64 hi] [] = some (D.bool r, []) := by
 refine c72 ?_ rfl
 unfold k72
 unfold s_l1All at h
 obtain ⟨r2_, hl2, h⟩ := bindS h
 try dsimp only at h
 simp (maxDischargeDepth := 9) only [↓xpre, xpost, xlst, xcore, yset, ↓reduceIte, Nat.reduceEqDiff, Nat.reduceLT]
 refine wd_mono (s_l1All_l0_wp l lo hi hl2 ?_) ?_
 ·simp (maxDischargeDepth := 9) only [xpost, xcore, ↓reduceIte, Nat.reduceEqDiff, Nat.reduceLT, s_l1All_l0_M]
 ·intro ex2 s2 hX2
  rcases r2_ with q2_ | q2_
  ·unfold s_l1All_l0_X at hX2
   dsimp only at hX2 h
   obtain ⟨rfl, n2_0⟩ := hX2
   cases h
   simp (maxDischargeDepth := 9) only [↓xpre, xpost, xcore, ↓reduceIte, n2_0]
  ·unfold s_l1All_l0_X at hX2
   dsimp only at hX2 h
   obtain rfl := hX2
   cases h
   simp (maxDischargeDepth := 9) only [↓xpre, xpost, xcore, yset, ↓reduceIte, Nat.reduceEqDiff, Nat.reduceLT]

def allIn (l : List Int) (lo hi : Int) : Bool := l.all fun x => inR x lo hi
theorem s_l1All_eq (l : List Int) (lo hi : Int) (h : l.length < 1099511627776) : s_l1All l lo hi = some (allIn l lo hi) := by
 unfold s_l1All s_l1All_l0
 have key := itO_all (fun v => s_l1All_l0_S l lo hi v) (fun i => (i : Int)) l.length (fun i => inR (l.getD i default) lo hi) (.inl ()) (.inr ()) ?_ ?_
 ·simp only [Int.natCast_zero] at key
  rw [key, all_getD (fun x => inR x lo hi)]
  unfold allIn
  cases l.all (fun x => inR x lo hi) <;> rfl
 ·intro i hi
  simp only [s_l1All_l0_S]
  rw [if_pos (lt_nat hi), ckT (ix_nat hi), Int.toNat_natCast, wrS i (by omega)]
 ·simp only [s_l1All_l0_S]; rw [if_neg (not_lt_nat _)]
theorem s_l1All_cl (l : List Int) (lo hi : Int) (h0 : l.length < 1099511627776) : Y.call 72 [D.sl 3 (lst (D.int .i64) l), D.int .i64 lo, D.int .i64 hi] [] = some (D.bool (allIn l lo hi), []) := s_l1All_call l lo hi (s_l1All_eq l lo hi h0)
noncomputable def gIF_l0_S (s_ : List Int) (f : Int → Option Bool) (t8_ : Int) : Option ((Int) ⊕ (Int ⊕ Unit)) :=
 if t8_ < (s_.length : Int) then
  ck (0 ≤ t8_ ∧ t8_.toNat < s_.length) <|
  (f (s_.getD t8_.toNat default)).bind fun r3_ =>
  if r3_ = true then
   some (Sum.inr (Sum.inl t8_))
  else
   some (Sum.inl (IntKind.i64.wrap (t8_ + 1)))
 else
  some (Sum.inr (Sum.inr ()))
noncomputable def gIF_l0 (s_ : List Int) (f : Int → Option Bool) (v : Int) : Option (Int ⊕ Unit) := itO (fun v => gIF_l0_S s_ f v) v
noncomputable def gIF (s_ : List Int) (f : Int → Option Bool) : Option (Int) :=
 (gIF_l0 s_ f 0).bind fun r2_ =>
 match r2_ with
 | .inl q2_ =>
  some q2_
 | .inr q2_ =>
  some (-1)
/-- slices.IndexFunc[[]int,int] -/
def k155_l0b : SC :=
 .seq
 (.ops [
 ⟨some 9, .binOp .lss 3 (.tmp 8) (.tmp 7) 3, 0, none⟩])
 (.seq
 (.cond (.tmp 9)
 .skip
 (.exit 0))
 (.seq
 (.block 1
 (.seq
 (.ops [
 ⟨some 10, .move (.tmp 8), 3, none⟩,
 ⟨some 5, .assign (.tmp 10), 3, none⟩])
 (.seq
 (.ops [
 ⟨some 11, .move (.tmp 1), 115, none⟩,
 ⟨some 12, .move (.tmp 0), 23, none⟩,
 ⟨some 13, .move (.tmp 5), 3, none⟩,
 ⟨some 14, .indexAddr 23 (.tmp 12) (.tmp 13), 0, none⟩,
 ⟨some 15, .load 3 (.tmp 14), 3, none⟩,
 ⟨some 16, .call ⟨(.value (.tmp 11)), #[(.tmp 15)], #[3]⟩, 4, none⟩])
 (.cond (.tmp 16)
 (.seq
 (.ops [
 ⟨some 17, .move (.tmp 5), 3, none⟩,
 ⟨some 4, .assign (.tmp 17), 3, none⟩])
 .ret)
 .skip))))
 (.ops [
 ⟨some 18, .binOp .add 3 (.tmp 8) (.const (.int .i64 1)) 3, 3, none⟩,
 ⟨some 8, .move (.tmp 18), 3, none⟩])))
def k155_l0 : SC := .loop k155_l0b
def k155 : SC :=
 .seq
 (.ops [
 ⟨some 4, .assign (.const (.int .i64 0)), 3, none⟩])
 (.seq
 (.seq
 (.ops [
 ⟨some 6, .move (.tmp 0), 23, none⟩,
 ⟨some 7, .call ⟨(.builtin .len), #[(.tmp 6)], #[23]⟩, 3, none⟩,
 ⟨some 8, .move (.const (.int .i64 0)), 3, none⟩])
 (.block 0
 k155_l0))
 (.seq
 (.ops [
 ⟨some 4, .assign (.const (.int .i64 (-1))), 3, none⟩])
 .ret))
theorem slim155 : Try.f155.body.map (slim lends) = some k155 := by kernel_rfl
theorem ok155 : fnOk Try.f155 2 = true := by kernel_rfl
theorem c155 {a l : List D} {r : D × List D} (h : wpD Y.env k155 (fin tys l.length [ResultVar.tmp 4] r) (entry a l)) (ha : a.length = 2) : Y.call 155 a l = some r :=
 call_slim (Y := Y) rfl Try.func155 (ha ▸ ok155) slim155 h
def gIF_l0_M (s_ : List Int) (f : Int → Option Bool) (f_f : FuncId) (f_c : List D) (t8_ : Int) (s : St) : Prop := s.v 0 = D.sl 3 (lst (D.int .i64) s_) ∧ s.v 1 = D.clo f_f f_c ∧ s.v 7 = D.int .i64 (s_.length : Int) ∧ s.v 8 = D.int .i64 t8_
def gIF_l0_X (s_ : List Int) (f : Int → Option Bool) (f_f : FuncId) (f_c : List D) (r : Int ⊕ Unit) (ex : Ex) (s : St) : Prop := match r with
 | .inl q => ex = .ret ∧ s.v 4 = D.int .i64 q
 | .inr q => ex = .exit 0
theorem gIF_l0_wp (s_ : List Int) (f : Int → Option Bool) (f_f : FuncId) (f_c : List D) (f_h : ∀ (a0 : Int) (r : Bool), f a0 = some r → Y.call f_f (D.int .i64 a0 :: f_c) [] = some (D.bool r, [])) (f_l : lends f_f = false) {v : Int} {s : St} {r : Int ⊕ Unit} (h : gIF_l0 s_ f v = some r) (hM : gIF_l0_M s_ f f_f f_c v s) : wpD Y.env k155_l0 (gIF_l0_X s_ f f_f f_c r) s := by
 unfold gIF_l0 at h
 refine wd_itO (c := k155_l0b) (fun v => gIF_l0_S s_ f v) (fun v s => gIF_l0_M s_ f f_f f_c v s) (gIF_l0_X s_ f f_f f_c) ?_ h hM
 clear h hM s v r
 intro t8_ s o hM h
 unfold gIF_l0_S at h
 unfold gIF_l0_M at hM
 obtain ⟨m0, m1, m2, m3⟩ := hM
 unfold k155_l0b
 by_cases e1 : t8_ < (s_.length : Int)
 ·rw [if_pos e1] at h
  obtain ⟨e2, h⟩ := ckS h
  obtain ⟨r3_, hl3, h⟩ := bindS h
  try dsimp only at h
  have c3 := f_h _ _ hl3
  by_cases e4 : r3_ = true
  ·rw [if_pos e4] at h
   cases h
   simp (maxDischargeDepth := 9) only [↓xpre, xpost, xlst, xc2, xcore, yset, ↓reduceIte, Nat.reduceEqDiff, Nat.reduceLT, Nat.reduceAdd, m0, m1, m2, m3, f_l, e1, e2.1, e2.2, c3, e4, gIF_l0_M, gIF_l0_X, sxR]
  ·rw [if_neg e4] at h
   have e4f : r3_ = false := Bool.eq_false_iff.mpr e4
   cases h
   simp (maxDischargeDepth := 9) only [↓xpre, xpost, xlst, xc2, xcore, yset, ↓reduceIte, Nat.reduceEqDiff, Nat.reduceLT, Nat.reduceAdd, m0, m1, m2, m3, f_l, e1, e2.1, e2.2, c3, e4f, gIF_l0_M, sxN]
 ·rw [if_neg e1] at h
  cases h
  simp (maxDischargeDepth := 9) only [↓xpre, xpost, yset, ↓reduceIte, Nat.reduceLT, m2, m3, e1, gIF_l0_M, gIF_l0_X, sxE]
theorem gIF_call (s_ : List Int) (f : Int → Option Bool) (f_f : FuncId) (f_c : List D) (f_h : ∀ (a0 : Int) (r : Bool), f a0 = some r → Y.call f_f (D.int .i64 a0 :: f_c) [] = some (D.bool r, [])) (f_l : lends f_f = false) {r : Int} (h : gIF s_ f = some r) : Y.call 155 [D.sl 3 (lst (D.int .i64) s_), D.clo f_f f_c] [] = some (D.int .i64 r, []) := by
 refine c155 ?_ rfl
 unfold k155
 unfold gIF at h
 obtain ⟨r2_, hl2, h⟩ := bindS h
 try dsimp only at h
 simp (maxDischargeDepth := 9) only [↓xpre, xpost, xlst, xcore, yset, ↓reduceIte, Nat.reduceEqDiff, Nat.reduceLT, Int.reduceNeg]
 refine wd_mono (gIF_l0_wp s_ f f_f f_c f_h f_l hl2 ?_) ?_
 ·simp (maxDischargeDepth := 9) only [xpost, xcore, ↓reduceIte, Nat.reduceEqDiff, Nat.reduceLT, gIF_l0_M]
 ·intro ex2 s2 hX2
  rcases r2_ with q2_ | q2_
  ·unfold gIF_l0_X at hX2
   dsimp only at hX2 h
   obtain ⟨rfl, n2_0⟩ := hX2
   cases h
   simp (maxDischargeDepth := 9) only [↓xpre, xpost, xcore, ↓reduceIte, n2_0]
  ·unfold gIF_l0_X at hX2
   dsimp only at hX2 h
   obtain rfl := hX2
   cases h
   simp (maxDischargeDepth := 9) only [↓xpre, xpost, xcore, yset, ↓reduceIte, Nat.reduceEqDiff, Nat.reduceLT, Int.reduceNeg]

noncomputable def g_slices_ContainsFunc_Sint_int (s_ : List Int) (f : Int → Option Bool) : Option (Bool) :=
 (gIF s_ f).bind fun r1_ =>
 some (decide (0 ≤ r1_))
/-- slices.ContainsFunc[[]int,int] -/
def k131 : SC :=
 .seq
 (.ops [
 ⟨some 4, .assign (.const (.bool false)), 4, none⟩])
 (.seq
 (.ops [
 ⟨some 5, .move (.tmp 0), 23, none⟩,
 ⟨some 6, .move (.tmp 1), 115, none⟩,
 ⟨some 7, .call ⟨(.value (.func 155)), #[(.tmp 5), (.tmp 6)], #[23, 115]⟩, 3, none⟩,
 ⟨some 8, .binOp .geq 3 (.tmp 7) (.const (.int .i64 0)) 3, 4, none⟩,
 ⟨some 4, .assign (.tmp 8), 4, none⟩])
 .ret)
theorem slim131 : Try.f131.body.map (slim lends) = some k131 := by kernel_rfl
theorem ok131 : fnOk Try.f131 2 = true := by kernel_rfl
theorem c131 {a l : List D} {r : D × List D} (h : wpD Y.env k131 (fin tys l.length [ResultVar.tmp 4] r) (entry a l)) (ha : a.length = 2) : Y.call 131 a l = some r :=
 call_slim (Y := Y) rfl Try.func131 (ha ▸ ok131) slim131 h
theorem g_slices_ContainsFunc_Sint_int_call (s_ : List Int) (f : Int → Option Bool) (f_f : FuncId) (f_c : List D) (f_h : ∀ (a0 : Int) (r : Bool), f a0 = some r → Y.call f_f (D.int .i64 a0 :: f_c) [] = some (D.bool r, [])) (f_l : lends f_f = false) {r : Bool} (h : g_slices_ContainsFunc_Sint_int s_ f = some r) : Y.call 131 [D.sl 3 (lst (D.int .i64) s_), D.clo f_f f_c] [] = some (D.bool r, []) := by
 refine c131 ?_ rfl
 unfold k131
 unfold g_slices_ContainsFunc_Sint_int at h
 obtain ⟨r1_, hl1, h⟩ := bindS h
 try dsimp only at h
 have c1 := gIF_call s_ f f_f f_c f_h f_l hl1
 cases h
 simp (maxDischargeDepth := 9) only [↓xpre, xpost, xc2, xcore, yset, ↓reduceIte, Nat.reduceEqDiff, Nat.reduceLT, Nat.reduceAdd, c1]

noncomputable def i_allWithin_1 (n_ c0_ c1_ : Int) : Option (Bool) :=
 some (!(inR n_ c0_ c1_))
/-- impl.allWithin$1 -/
def k132 : SC :=
 .seq
 (.ops [
 ⟨some 4, .assign (.const (.bool false)), 4, none⟩])
 (.seq
 (.ops [
 ⟨some 5, .move (.tmp 0), 3, none⟩,
 ⟨some 6, .load 3 (.tmp 1), 3, none⟩,
 ⟨some 7, .load 3 (.tmp 2), 3, none⟩,
 ⟨some 8, .call ⟨(.value (.func 77)), #[(.tmp 5), (.tmp 6), (.tmp 7)], #[3, 3, 3]⟩, 4, none⟩,
 ⟨some 9, .unOp .not 4 (.tmp 8), 4, none⟩,
 ⟨some 4, .assign (.tmp 9), 4, none⟩])
 .ret)
theorem slim132 : Try.f132.body.map (slim lends) = some k132 := by kernel_rfl
theorem ok132 : fnOk Try.f132 3 = true := by kernel_rfl
theorem c132 {a l : List D} {r : D × List D} (h : wpD Y.env k132 (fin tys l.length [ResultVar.tmp 4] r) (entry a l)) (ha : a.length = 3) : Y.call 132 a l = some r :=
 call_slim (Y := Y) rfl Try.func132 (ha ▸ ok132) slim132 h
theorem i_allWithin_1_call (n_ c0_ c1_ : Int) {r : Bool} (h : i_allWithin_1 n_ c0_ c1_ = some r) : Y.call 132 [D.int .i64 n_, D.cptr [D.int .i64 c0_], D.cptr [D.int .i64 c1_]] [] = some (D.bool r, []) := by
 refine c132 ?_ rfl
 unfold k132
 unfold i_allWithin_1 at h
 have c1 := i_within_cl n_ c0_ c1_
 cases h
 simp (maxDischargeDepth := 9) only [↓xpre, xpost, xc2, xcore, yset, ↓reduceIte, Nat.reduceEqDiff, Nat.reduceLT, Nat.reduceAdd, c1]

noncomputable def i_allWithin (list : List Int) (low high : Int) : Option (Bool) :=
 (g_slices_ContainsFunc_Sint_int list (fun a0 => i_allWithin_1 a0 low high)).bind fun r1_ =>
 some (!r1_)
/-- impl.allWithin -/
def k83 : SC :=
 .seq
 (.ops [
 ⟨some 4, .box 3 (.tmp 1), 0, none⟩,
 ⟨some 5, .box 3 (.tmp 2), 0, none⟩,
 ⟨some 6, .assign (.const (.bool false)), 4, none⟩])
 (.seq
 (.ops [
 ⟨some 7, .move (.tmp 0), 23, none⟩,
 ⟨some 8, .makeFunc (Fn.func 132) #[] #[(.tmp 4), (.tmp 5)], 115, none⟩,
 ⟨some 9, .call ⟨(.value (.func 131)), #[(.tmp 7), (.tmp 8)], #[23, 115]⟩, 4, none⟩,
 ⟨some 10, .unOp .not 4 (.tmp 9), 4, none⟩,
 ⟨some 6, .assign (.tmp 10), 4, none⟩])
 .ret)
theorem slim83 : Try.f83.body.map (slim lends) = some k83 := by kernel_rfl
theorem ok83 : fnOk Try.f83 3 = true := by kernel_rfl
theorem c83 {a l : List D} {r : D × List D} (h : wpD Y.env k83 (fin tys l.length [ResultVar.tmp 6] r) (entry a l)) (ha : a.length = 3) : Y.call 83 a l = some r :=
 call_slim (Y := Y) rfl Try.func83 (ha ▸ ok83) slim83 h
theorem i_allWithin_call (list : List Int) (low high : Int) {r : Bool} (h : i_allWithin list low high = some r) : Y.call 83 [D.sl 3 (lst (D.int .i64) list), D.int .i64 low, D.int .i64 high] [] = some (D.bool r, []) := by
 refine c83 ?_ rfl
 unfold k83
 unfold i_allWithin at h
 obtain ⟨r1_, hl1, h⟩ := bindS h
 try dsimp only at h
 have c1 := g_slices_ContainsFunc_Sint_int_call list (fun a0 => i_allWithin_1 a0 low high) 132 [D.cptr [D.int .i64 low], D.cptr [D.int .i64 high]] (fun a0 _ hh => i_allWithin_1_call a0 low high hh) le132 hl1
 cases h
 simp (maxDischargeDepth := 9) only [↓xpre, xpost, xc2, xcore, yset, ↓reduceIte, Nat.reduceEqDiff, Nat.reduceLT, Nat.reduceAdd, c1]

theorem indexFunc_eq (l : List Int) (f : Int → Option Bool) (p : Int → Bool) (h : l.length < 1099511627776) (hf : ∀ x ∈ l, f x = some (p x)) :
  ∃ r, gIF l f = some r ∧ (0 ≤ r ↔ l.any p = true) := by
 unfold gIF gIF_l0
 by_cases ha : ∀ i, i < l.length → (!p (l.getD i default)) = true
 ·have key := itO_for (fun v => gIF_l0_S l f v) (fun i => (i : Int)) l.length (.inr ()) ?_ ?_
  ·simp only [Int.natCast_zero] at key
   rw [key]
   refine ⟨-1, rfl, by simp, fun hc => ?_⟩
   obtain ⟨x, hx, hpx⟩ := List.any_eq_true.1 hc
   obtain ⟨i, hi, rfl⟩ := List.getElem_of_mem hx
   have := ha i hi
   rw [getD_get _ _ hi, hpx] at this; cases this
  ·intro i hi
   simp only [gIF_l0_S]
   have e := ha i hi
   rw [getD_get _ _ hi] at e
   rw [if_pos (lt_nat hi), ckT (ix_nat hi), getD_nat _ _ hi, hf _ (List.getElem_mem hi), Option.bind_some, if_neg (by cases hp : p l[i] <;> simp_all), wrS i (by omega)]
  ·simp only [gIF_l0_S]; rw [if_neg (not_lt_nat _)]
 ·obtain ⟨m, h1, h2, h3⟩ := first_fail (P := fun i => !p (l.getD i default)) ha
  have key := itO_for (fun v => gIF_l0_S l f v) (fun i => (i : Int)) m (.inl (m : Int)) ?_ ?_
  ·simp only [Int.natCast_zero] at key
   rw [key]
   refine ⟨(m : Int), rfl, fun _ => ?_, fun _ => by omega⟩
   have h2' : p l[m] = true := by rw [getD_get _ _ h1] at h2; simpa using h2
   exact List.any_eq_true.2 ⟨_, List.getElem_mem h1, h2'⟩
  ·intro i hi
   simp only [gIF_l0_S]
   have e := h3 i hi
   rw [getD_get _ _ (by omega)] at e
   rw [if_pos (lt_nat (by omega)), ckT (ix_nat (by omega)), getD_nat _ _ (by omega), hf _ (List.getElem_mem _), Option.bind_some, if_neg (by cases hp : p l[i] <;> simp_all), wrS i (by omega)]
  ·simp only [gIF_l0_S]
   have h2' : p l[m] = true := by rw [getD_get _ _ h1] at h2; simpa using h2
   rw [if_pos (lt_nat h1), ckT (ix_nat h1), getD_nat _ _ h1, hf _ (List.getElem_mem _), Option.bind_some, if_pos h2']
theorem containsFunc_eq (l : List Int) (f : Int → Option Bool) (p : Int → Bool) (h : l.length < 1099511627776) (hf : ∀ x ∈ l, f x = some (p x)) : g_slices_ContainsFunc_Sint_int l f = some (l.any p) := by
 obtain ⟨r, h1, h2⟩ := indexFunc_eq l f p h hf
 unfold g_slices_ContainsFunc_Sint_int
 rw [h1, Option.bind_some]
 congr 1
 rw [Bool.eq_iff_iff]; simpa using h2
theorem i_allWithin_eq (l : List Int) (lo hi : Int) (h : l.length < 1099511627776) : i_allWithin l lo hi = some (allIn l lo hi) := by
 unfold i_allWithin
 rw [containsFunc_eq l (fun a0 => i_allWithin_1 a0 lo hi) (fun x => !inR x lo hi) h (fun x _ => rfl), Option.bind_some]
 unfold allIn
 rw [List.all_eq_not_any_not]
theorem i_allWithin_cl (list : List Int) (low high : Int) (h0 : list.length < 1099511627776) : Y.call 83 [D.sl 3 (lst (D.int .i64) list), D.int .i64 low, D.int .i64 high] [] = some (D.bool (allIn list low high), []) := i_allWithin_call list low high (i_allWithin_eq list low high h0)
noncomputable def g_cmp_isNaN_int (x_ : Int) : Option (Bool) :=
 some false
/-- cmp.isNaN[int] -/
def k176 : SC :=
 .seq
 (.ops [
 ⟨some 2, .assign (.const (.bool false)), 4, none⟩])
 (.seq
 (.ops [
 ⟨some 3, .move (.tmp 0), 3, none⟩,
 ⟨some 4, .move (.tmp 0), 3, none⟩,
 ⟨some 5, .binOp .neq 3 (.tmp 3) (.tmp 4) 3, 4, none⟩,
 ⟨some 2, .assign (.tmp 5), 4, none⟩])
 .ret)
theorem slim176 : Try.f176.body.map (slim lends) = some k176 := by kernel_rfl
theorem ok176 : fnOk Try.f176 1 = true := by kernel_rfl
theorem c176 {a l : List D} {r : D × List D} (h : wpD Y.env k176 (fin tys l.length [ResultVar.tmp 2] r) (entry a l)) (ha : a.length = 1) : Y.call 176 a l = some r :=
 call_slim (Y := Y) rfl Try.func176 (ha ▸ ok176) slim176 h
theorem g_cmp_isNaN_int_call (x_ : Int) {r : Bool} (h : g_cmp_isNaN_int x_ = some r) : Y.call 176 [D.int .i64 x_] [] = some (D.bool r, []) := by
 refine c176 ?_ rfl
 unfold k176
 unfold g_cmp_isNaN_int at h
 cases h
 simp (maxDischargeDepth := 9) only [↓xpre, xpost, xcore, yset, ↓reduceIte, Nat.reduceEqDiff, Nat.reduceLT]

noncomputable def g_cmp_Less_int (x_ y : Int) : Option (Bool) :=
 (g_cmp_isNaN_int x_).bind fun r1_ =>
 if r1_ = true then
  (g_cmp_isNaN_int y).bind fun r3_ =>
  if r3_ = true then
   some (decide (x_ < y))
  else
   some true
 else
  some (decide (x_ < y))
/-- cmp.Less[int] -/
def k157 : SC :=
 .seq
 (.ops [
 ⟨some 4, .assign (.const (.bool false)), 4, none⟩])
 (.seq
 (.ops [
 ⟨some 5, .move (.tmp 0), 3, none⟩,
 ⟨some 6, .call ⟨(.value (.func 176)), #[(.tmp 5)], #[3]⟩, 4, none⟩,
 ⟨some 7, .move (.tmp 6), 4, none⟩,
 ⟨some 8, .move (.tmp 1), 3, (some (some 7, true))⟩,
 ⟨some 9, .call ⟨(.value (.func 176)), #[(.tmp 8)], #[3]⟩, 4, (some (some 7, true))⟩,
 ⟨some 10, .unOp .not 4 (.tmp 9), 4, (some (some 7, true))⟩,
 ⟨some 11, .pick (.tmp 7) (.tmp 10) (.const (.bool false)), 4, none⟩,
 ⟨some 12, .move (.tmp 11), 4, none⟩,
 ⟨some 13, .move (.tmp 0), 3, (some (some 12, false))⟩,
 ⟨some 14, .move (.tmp 1), 3, (some (some 12, false))⟩,
 ⟨some 15, .binOp .lss 3 (.tmp 13) (.tmp 14) 3, 4, (some (some 12, false))⟩,
 ⟨some 16, .pick (.tmp 12) (.const (.bool true)) (.tmp 15), 4, none⟩,
 ⟨some 4, .assign (.tmp 16), 4, none⟩])
 .ret)
theorem slim157 : Try.f157.body.map (slim lends) = some k157 := by kernel_rfl
theorem ok157 : fnOk Try.f157 2 = true := by kernel_rfl
theorem c157 {a l : List D} {r : D × List D} (h : wpD Y.env k157 (fin tys l.length [ResultVar.tmp 4] r) (entry a l)) (ha : a.length = 2) : Y.call 157 a l = some r :=
 call_slim (Y := Y) rfl Try.func157 (ha ▸ ok157) slim157 h
theorem g_cmp_Less_int_call (x_ y : Int) {r : Bool} (h : g_cmp_Less_int x_ y = some r) : Y.call 157 [D.int .i64 x_, D.int .i64 y] [] = some (D.bool r, []) := by
 refine c157 ?_ rfl
 unfold k157
 unfold g_cmp_Less_int at h
 obtain ⟨r1_, hl1, h⟩ := bindS h
 try dsimp only at h
 have c1 := g_cmp_isNaN_int_call x_ hl1
 by_cases e2 : r1_ = true
 ·rw [if_pos e2] at h
  obtain ⟨r3_, hl3, h⟩ := bindS h
  try dsimp only at h
  have c3 := g_cmp_isNaN_int_call y hl3
  by_cases e4 : r3_ = true
  ·rw [if_pos e4] at h
   cases h
   simp (maxDischargeDepth := 9) only [↓xpre, xpost, xc2, xcore, yset, ↓reduceIte, Nat.reduceEqDiff, Nat.reduceLT, Nat.reduceAdd, c1, e2, c3, e4]
  ·rw [if_neg e4] at h
   have e4f : r3_ = false := Bool.eq_false_iff.mpr e4
   cases h
   simp (maxDischargeDepth := 9) only [↓xpre, xpost, xc2, xcore, yset, ↓reduceIte, Nat.reduceEqDiff, Nat.reduceLT, Nat.reduceAdd, c1, e2, c3, e4f]
 ·rw [if_neg e2] at h
  have e2f : r1_ = false := Bool.eq_false_iff.mpr e2
  cases h
  simp (maxDischargeDepth := 9) only [↓xpre, xpost, xc2, xcore, yset, ↓reduceIte, Nat.reduceEqDiff, Nat.reduceLT, Nat.reduceAdd, c1, e2f]

noncomputable def gIS_l0_S (x_ : List Int) (i : Int) : Option ((Int) ⊕ (Unit ⊕ Unit)) :=
 if 0 < i then
  ck (0 ≤ i ∧ i.toNat < x_.length) <|
  ck (0 ≤ IntKind.i64.wrap (i - 1) ∧ (IntKind.i64.wrap (i - 1)).toNat < x_.length) <|
  (g_cmp_Less_int (x_.getD i.toNat default) (x_.getD ((IntKind.i64.wrap (i - 1)).toNat) default)).bind fun r4_ =>
  if r4_ = true then
   some (Sum.inr (Sum.inl ()))
  else
   some (Sum.inl (IntKind.i64.wrap (i - 1)))
 else
  some (Sum.inr (Sum.inr ()))
noncomputable def gIS_l0 (x_ : List Int) (v : Int) : Option (Unit ⊕ Unit) := itO (fun v => gIS_l0_S x_ v) v
noncomputable def gIS (x_ : List Int) : Option (Bool) :=
 (gIS_l0 x_ (IntKind.i64.wrap ((x_.length : Int) - 1))).bind fun r2_ =>
 match r2_ with
 | .inl q2_ =>
  some false
 | .inr q2_ =>
  some true
/-- slices.IsSorted[[]int,int] -/
def k142_l0b : SC :=
 .seq
 (.seq
 (.ops [
 ⟨some 7, .move (.tmp 3), 3, none⟩,
 ⟨some 8, .binOp .gtr 3 (.tmp 7) (.const (.int .i64 0)) 3, 4, none⟩])
 (.cond (.tmp 8)
 .skip
 (.exit 0)))
 (.seq
 (.block 1
 (.seq
 (.draws [
 (⟨[11, 0, 0], [11, 12, 13, 14, 15, 16, 17, 18, 19, 20], [11]⟩, ⟨some 11, .move (.tmp 0), 23, none⟩),
 (⟨[12, 3, 3], [11, 12, 13, 14, 15, 16, 17, 18, 19, 20], [12]⟩, ⟨some 12, .move (.tmp 3), 3, none⟩),
 (⟨[13, 11, 12, 0, 3], [11, 12, 13, 14, 15, 16, 17, 18, 19, 20], [13]⟩, ⟨some 13, .indexAddr 23 (.tmp 11) (.tmp 12), 0, none⟩),
 (⟨[14, 13, 0], [11, 12, 13, 14, 15, 16, 17, 18, 19, 20], [14]⟩, ⟨some 14, .load 3 (.tmp 13), 3, none⟩),
 (⟨[15, 0, 0], [11, 12, 13, 14, 15, 16, 17, 18, 19, 20], [15]⟩, ⟨some 15, .move (.tmp 0), 23, none⟩),
 (⟨[16, 3, 3], [11, 12, 13, 14, 15, 16, 17, 18, 19, 20], [16]⟩, ⟨some 16, .move (.tmp 3), 3, none⟩),
 (⟨[17, 16, 3], [11, 12, 13, 14, 15, 16, 17, 18, 19, 20], [17]⟩, ⟨some 17, .binOp .sub 3 (.tmp 16) (.const (.int .i64 1)) 3, 3, none⟩),
 (⟨[18, 15, 17, 0, 17], [11, 12, 13, 14, 15, 16, 17, 18, 19, 20], [18]⟩, ⟨some 18, .indexAddr 23 (.tmp 15) (.tmp 17), 0, none⟩),
 (⟨[19, 18, 0], [11, 12, 13, 14, 15, 16, 17, 18, 19, 20], [19]⟩, ⟨some 19, .load 3 (.tmp 18), 3, none⟩),
 (⟨[20, 14, 19, 0, 0], [11, 12, 13, 14, 15, 16, 17, 18, 19, 20], [20]⟩, ⟨some 20, .call ⟨(.value (.func 157)), #[(.tmp 14), (.tmp 19)], #[3, 3]⟩, 4, none⟩)])
 (.cond (.tmp 20)
 (.seq
 (.ops [
 ⟨some 2, .assign (.const (.bool false)), 4, none⟩])
 .ret)
 .skip)))
 (.ops [
 ⟨some 9, .move (.tmp 3), 3, none⟩,
 ⟨some 10, .binOp .sub 3 (.tmp 9) (.const (.int .i64 1)) 3, 3, none⟩,
 ⟨some 3, .assign (.tmp 10), 3, none⟩]))
def k142_l0 : SC := .loop k142_l0b
def k142 : SC :=
 .seq
 (.ops [
 ⟨some 2, .assign (.const (.bool false)), 4, none⟩])
 (.seq
 (.seq
 (.ops [
 ⟨some 4, .move (.tmp 0), 23, none⟩,
 ⟨some 5, .call ⟨(.builtin .len), #[(.tmp 4)], #[23]⟩, 3, none⟩,
 ⟨some 6, .binOp .sub 3 (.tmp 5) (.const (.int .i64 1)) 3, 3, none⟩,
 ⟨some 3, .assign (.tmp 6), 3, none⟩])
 (.block 0
 k142_l0))
 (.seq
 (.ops [
 ⟨some 2, .assign (.const (.bool true)), 4, none⟩])
 .ret))
theorem slim142 : Try.f142.body.map (slim lends) = some k142 := by kernel_rfl
theorem ok142 : fnOk Try.f142 1 = true := by kernel_rfl
theorem c142 {a l : List D} {r : D × List D} (h : wpD Y.env k142 (fin tys l.length [ResultVar.tmp 2] r) (entry a l)) (ha : a.length = 1) : Y.call 142 a l = some r :=
 call_slim (Y := Y) rfl Try.func142 (ha ▸ ok142) slim142 h
def gIS_l0_M (x_ : List Int) (i : Int) (s : St) : Prop := s.v 0 = D.sl 3 (lst (D.int .i64) x_) ∧ s.v 3 = D.int .i64 i
def gIS_l0_X (x_ : List Int) (r : Unit ⊕ Unit) (ex : Ex) (s : St) : Prop := match r with
 | .inl q => ex = .ret ∧ s.v 2 = D.bool false
 | .inr q => ex = .exit 0
theorem gIS_l0_wp (x_ : List Int) {v : Int} {s : St} {r : Unit ⊕ Unit} (h : gIS_l0 x_ v = some r) (hM : gIS_l0_M x_ v s) : wpD Y.env k142_l0 (gIS_l0_X x_ r) s := by
 unfold gIS_l0 at h
 refine wd_itO (c := k142_l0b) (fun v => gIS_l0_S x_ v) (fun v s => gIS_l0_M x_ v s) (gIS_l0_X x_) ?_ h hM
 clear h hM s v r
 intro i s o hM h
 unfold gIS_l0_S at h
 unfold gIS_l0_M at hM
 obtain ⟨m0, m1⟩ := hM
 unfold k142_l0b
 by_cases e1 : 0 < i
 ·rw [if_pos e1] at h
  obtain ⟨e2, h⟩ := ckS h
  obtain ⟨e3, h⟩ := ckS h
  obtain ⟨r4_, hl4, h⟩ := bindS h
  try dsimp only at h
  have c4 := g_cmp_Less_int_call (x_.getD i.toNat default) (x_.getD ((IntKind.i64.wrap (i - 1)).toNat) default) hl4
  by_cases e5 : r4_ = true
  ·rw [if_pos e5] at h
   cases h
   simp (maxDischargeDepth := 9) only [↓xpre, xpost, xlst, xc2, xcore, yset, ↓reduceIte, Nat.reduceEqDiff, Nat.reduceLT, Nat.reduceAdd, m0, m1, e1, e2.1, e2.2, e3.1, e3.2, c4, e5, gIS_l0_M, gIS_l0_X, sxR]
  ·rw [if_neg e5] at h
   have e5f : r4_ = false := Bool.eq_false_iff.mpr e5
   cases h
   simp (maxDischargeDepth := 9) only [↓xpre, xpost, xlst, xc2, xcore, yset, ↓reduceIte, Nat.reduceEqDiff, Nat.reduceLT, Nat.reduceAdd, m0, m1, e1, e2.1, e2.2, e3.1, e3.2, c4, e5f, gIS_l0_M, sxN]
 ·rw [if_neg e1] at h
  cases h
  simp (maxDischargeDepth := 9) only [↓xpre, xpost, yset, ↓reduceIte, Nat.reduceLT, m1, e1, gIS_l0_M, gIS_l0_X, sxE]
theorem gIS_call (x_ : List Int) {r : Bool} (h : gIS x_ = some r) : Y.call 142 [D.sl 3 (lst (D.int .i64) x_)] [] = some (D.bool r, []) := by
 refine c142 ?_ rfl
 unfold k142
 unfold gIS at h
 obtain ⟨r2_, hl2, h⟩ := bindS h
 try dsimp only at h
 simp (maxDischargeDepth := 9) only [↓xpre, xpost, xlst, xcore, yset, ↓reduceIte, Nat.reduceEqDiff, Nat.reduceLT]
 refine wd_mono (gIS_l0_wp x_ hl2 ?_) ?_
 ·simp (maxDischargeDepth := 9) only [xpost, xcore, ↓reduceIte, Nat.reduceEqDiff, Nat.reduceLT, gIS_l0_M]
 ·intro ex2 s2 hX2
  rcases r2_ with q2_ | q2_
  ·unfold gIS_l0_X at hX2
   dsimp only at hX2 h
   obtain ⟨rfl, n2_0⟩ := hX2
   cases h
   simp (maxDischargeDepth := 9) only [↓xpre, xpost, xcore, ↓reduceIte, n2_0]
  ·unfold gIS_l0_X at hX2
   dsimp only at hX2 h
   obtain rfl := hX2
   cases h
   simp (maxDischargeDepth := 9) only [↓xpre, xpost, xcore, yset, ↓reduceIte, Nat.reduceEqDiff, Nat.reduceLT]

def sortedB (l : List Int) : Bool := (List.range (l.length - 1)).all fun i => decide (l.getD i default ≤ l.getD (i + 1) default)
theorem gIS_eq (l : List Int) (h : l.length < 1099511627776) : gIS l = some (sortedB l) := by
 unfold gIS gIS_l0
 rw [wr64 _ (by omega)]
 rcases Nat.eq_zero_or_pos l.length with h0 | h0
 ·rw [itO_inr (r := Sum.inr ())]
  ·simp [sortedB, h0]
  ·simp only [gIS_l0_S]; rw [if_neg (by omega)]
 ·have key := itO_all (fun v => gIS_l0_S l v) (fun j => (l.length : Int) - 1 - j) (l.length - 1) (fun j => decide (l.getD (l.length - 1 - j - 1) default ≤ l.getD (l.length - 1 - j) default)) (.inl ()) (.inr ()) ?_ ?_
  ·simp only [Int.natCast_zero, Int.sub_zero] at key
   rw [key]
   have e : (List.range (l.length - 1)).all (fun j => decide (l.getD (l.length - 1 - j - 1) default ≤ l.getD (l.length - 1 - j) default)) = sortedB l := by
    unfold sortedB
    rw [Bool.eq_iff_iff, range_all, range_all]
    constructor
    ·intro hh i hi
     have := hh (l.length - 1 - i - 1) (by omega)
     rwa [show l.length - 1 - (l.length - 1 - i - 1) = i + 1 by omega, Nat.add_sub_cancel] at this
    ·intro hh i hi
     have := hh (l.length - 1 - i - 1) (by omega)
     rwa [show l.length - 1 - i - 1 + 1 = l.length - 1 - i by omega] at this
   rw [e]
   cases sortedB l <;> rfl
  ·intro i hi
   simp only [gIS_l0_S]
   rw [if_pos (by omega), wr64 _ (by omega)]
   rw [ckT (by omega), ckT (by omega), show ((l.length : Int) - 1 - i).toNat = l.length - 1 - i by omega, show ((l.length : Int) - 1 - i - 1).toNat = l.length - 1 - i - 1 by omega]
   have e : g_cmp_Less_int (l.getD (l.length - 1 - i) default) (l.getD (l.length - 1 - i - 1) default) = some (decide (l.getD (l.length - 1 - i) default < l.getD (l.length - 1 - i - 1) default)) := by
    unfold g_cmp_Less_int g_cmp_isNaN_int; by_cases hq : l.getD (l.length - 1 - i) default < l.getD (l.length - 1 - i - 1) default <;> simp [hq]
   rw [e, Option.bind_some]
   simp only [decide_eq_true_eq]
   by_cases hq : l.getD (l.length - 1 - i) default < l.getD (l.length - 1 - i - 1) default
   ·rw [if_pos hq, if_neg (by omega)]
   ·rw [if_neg hq, if_pos (by omega), show (l.length : Int) - 1 - i - 1 = (l.length : Int) - 1 - ((i + 1 : Nat) : Int) by omega]
  ·simp only [gIS_l0_S]; rw [if_neg (by omega)]
theorem gIS_cl (x_ : List Int) (h0 : x_.length < 1099511627776) : Y.call 142 [D.sl 3 (lst (D.int .i64) x_)] [] = some (D.bool (sortedB x_), []) := gIS_call x_ (gIS_eq x_ h0)
/-- Comparison of lists, as Go's: -1, 0 or 1. -/
def cmpL : List Int → List Int → Int
 | [], [] => 0
 | [], _ :: _ => -1
 | _ :: _, [] => 1
 | x :: a, y :: b => if x = y then cmpL a b else if x < y then -1 else 1
noncomputable def g_cmp_Compare_int (x_ y : Int) : Option (Int) :=
 (g_cmp_isNaN_int x_).bind fun r1_ =>
 (g_cmp_isNaN_int y).bind fun r2_ =>
 if r1_ = true then
  if r2_ = true then
   some 0
  else
   some (-1)
 else
  if r2_ = true then
   some 1
  else
   if x_ < y then
    some (-1)
   else
    if y < x_ then
     some 1
    else
     some 0
/-- cmp.Compare[int] -/
def k158 : SC :=
 .seq
 (.ops [
 ⟨some 4, .assign (.const (.int .i64 0)), 3, none⟩])
 (.seq
 (.ops [
 ⟨some 7, .move (.tmp 0), 3, none⟩,
 ⟨some 8, .call ⟨(.value (.func 176)), #[(.tmp 7)], #[3]⟩, 4, none⟩,
 ⟨some 5, .assign (.tmp 8), 4, none⟩])
 (.seq
 (.ops [
 ⟨some 9, .move (.tmp 1), 3, none⟩,
 ⟨some 10, .call ⟨(.value (.func 176)), #[(.tmp 9)], #[3]⟩, 4, none⟩,
 ⟨some 6, .assign (.tmp 10), 4, none⟩])
 (.seq
 (.seq
 (.ops [
 ⟨some 11, .move (.tmp 5), 4, none⟩])
 (.cond (.tmp 11)
 (.seq
 (.seq
 (.ops [
 ⟨some 12, .move (.tmp 6), 4, none⟩])
 (.cond (.tmp 12)
 (.seq
 (.ops [
 ⟨some 4, .assign (.const (.int .i64 0)), 3, none⟩])
 .ret)
 .skip))
 (.seq
 (.ops [
 ⟨some 4, .assign (.const (.int .i64 (-1))), 3, none⟩])
 .ret))
 .skip))
 (.seq
 (.seq
 (.ops [
 ⟨some 13, .move (.tmp 6), 4, none⟩])
 (.cond (.tmp 13)
 (.seq
 (.ops [
 ⟨some 4, .assign (.const (.int .i64 1)), 3, none⟩])
 .ret)
 .skip))
 (.seq
 (.seq
 (.ops [
 ⟨some 14, .move (.tmp 0), 3, none⟩,
 ⟨some 15, .move (.tmp 1), 3, none⟩,
 ⟨some 16, .binOp .lss 3 (.tmp 14) (.tmp 15) 3, 4, none⟩])
 (.cond (.tmp 16)
 (.seq
 (.ops [
 ⟨some 4, .assign (.const (.int .i64 (-1))), 3, none⟩])
 .ret)
 .skip))
 (.seq
 (.seq
 (.ops [
 ⟨some 17, .move (.tmp 0), 3, none⟩,
 ⟨some 18, .move (.tmp 1), 3, none⟩,
 ⟨some 19, .binOp .gtr 3 (.tmp 17) (.tmp 18) 3, 4, none⟩])
 (.cond (.tmp 19)
 (.seq
 (.ops [
 ⟨some 4, .assign (.const (.int .i64 1)), 3, none⟩])
 .ret)
 .skip))
 (.seq
 (.ops [
 ⟨some 4, .assign (.const (.int .i64 0)), 3, none⟩])
 .ret)))))))
theorem slim158 : Try.f158.body.map (slim lends) = some k158 := by kernel_rfl
theorem ok158 : fnOk Try.f158 2 = true := by kernel_rfl
theorem c158 {a l : List D} {r : D × List D} (h : wpD Y.env k158 (fin tys l.length [ResultVar.tmp 4] r) (entry a l)) (ha : a.length = 2) : Y.call 158 a l = some r :=
 call_slim (Y := Y) rfl Try.func158 (ha ▸ ok158) slim158 h
theorem g_cmp_Compare_int_call (x_ y : Int) {r : Int} (h : g_cmp_Compare_int x_ y = some r) : Y.call 158 [D.int .i64 x_, D.int .i64 y] [] = some (D.int .i64 r, []) := by
 refine c158 ?_ rfl
 unfold k158
 unfold g_cmp_Compare_int at h
 obtain ⟨r1_, hl1, h⟩ := bindS h
 try dsimp only at h
 have c1 := g_cmp_isNaN_int_call x_ hl1
 obtain ⟨r2_, hl2, h⟩ := bindS h
 try dsimp only at h
 have c2 := g_cmp_isNaN_int_call y hl2
 by_cases e3 : r1_ = true
 ·rw [if_pos e3] at h
  by_cases e4 : r2_ = true
  ·rw [if_pos e4] at h
   cases h
   simp (maxDischargeDepth := 9) only [↓xpre, xpost, xc2, xcore, yset, ↓reduceIte, Nat.reduceEqDiff, Nat.reduceLT, Nat.reduceAdd, Int.reduceNeg, c1, c2, e3, e4]
  ·rw [if_neg e4] at h
   have e4f : r2_ = false := Bool.eq_false_iff.mpr e4
   cases h
   simp (maxDischargeDepth := 9) only [↓xpre, xpost, xc2, xcore, yset, ↓reduceIte, Nat.reduceEqDiff, Nat.reduceLT, Nat.reduceAdd, Int.reduceNeg, c1, c2, e3, e4f]
 ·rw [if_neg e3] at h
  have e3f : r1_ = false := Bool.eq_false_iff.mpr e3
  by_cases e4 : r2_ = true
  ·rw [if_pos e4] at h
   cases h
   simp (maxDischargeDepth := 9) only [↓xpre, xpost, xc2, xcore, yset, ↓reduceIte, Nat.reduceEqDiff, Nat.reduceLT, Nat.reduceAdd, Int.reduceNeg, c1, c2, e3f, e4]
  ·rw [if_neg e4] at h
   have e4f : r2_ = false := Bool.eq_false_iff.mpr e4
   by_cases e5 : x_ < y
   ·rw [if_pos e5] at h
    cases h
    simp (maxDischargeDepth := 9) only [↓xpre, xpost, xc2, xcore, yset, ↓reduceIte, Nat.reduceEqDiff, Nat.reduceLT, Nat.reduceAdd, Int.reduceNeg, c1, c2, e3f, e4f, e5]
   ·rw [if_neg e5] at h
    by_cases e6 : y < x_
    ·rw [if_pos e6] at h
     cases h
     simp (maxDischargeDepth := 9) only [↓xpre, xpost, xc2, xcore, yset, ↓reduceIte, Nat.reduceEqDiff, Nat.reduceLT, Nat.reduceAdd, Int.reduceNeg, c1, c2, e3f, e4f, e5, e6]
    ·rw [if_neg e6] at h
     cases h
     simp (maxDischargeDepth := 9) only [↓xpre, xpost, xc2, xcore, yset, ↓reduceIte, Nat.reduceEqDiff, Nat.reduceLT, Nat.reduceAdd, Int.reduceNeg, c1, c2, e3f, e4f, e5, e6]

noncomputable def gCp_l0_S (s1_ s2_ : List Int) (t11_ : Int) : Option ((Int) ⊕ (Int ⊕ Unit)) :=
 if t11_ < (s1_.length : Int) then
  ck (0 ≤ t11_ ∧ t11_.toNat < s1_.length) <|
  if (s2_.length : Int) ≤ t11_ then
   some (Sum.inr (Sum.inl 1))
  else
   ck (0 ≤ t11_ ∧ t11_.toNat < s2_.length) <|
   (g_cmp_Compare_int (s1_.getD t11_.toNat default) (s2_.getD t11_.toNat default)).bind fun r5_ =>
   if r5_ = 0 then
    some (Sum.inl (IntKind.i64.wrap (t11_ + 1)))
   else
    some (Sum.inr (Sum.inl r5_))
 else
  some (Sum.inr (Sum.inr ()))
noncomputable def gCp_l0 (s1_ s2_ : List Int) (v : Int) : Option (Int ⊕ Unit) := itO (fun v => gCp_l0_S s1_ s2_ v) v
noncomputable def gCp (s1_ s2_ : List Int) : Option (Int) :=
 (gCp_l0 s1_ s2_ 0).bind fun r2_ =>
 match r2_ with
 | .inl q2_ =>
  some q2_
 | .inr q2_ =>
  if (s1_.length : Int) < (s2_.length : Int) then
   some (-1)
  else
   some 0
/-- slices.Compare[[]int,int] -/
def k143_l0b : SC :=
 .seq
 (.ops [
 ⟨some 12, .binOp .lss 3 (.tmp 11) (.tmp 10) 3, 0, none⟩])
 (.seq
 (.cond (.tmp 12)
 .skip
 (.exit 0))
 (.seq
 (.block 1
 (.seq
 (.ops [
 ⟨some 13, .move (.tmp 11), 3, none⟩,
 ⟨some 14, .indexAddr 23 (.tmp 9) (.tmp 11), 0, none⟩,
 ⟨some 15, .load 3 (.tmp 14), 3, none⟩,
 ⟨some 5, .assign (.tmp 13), 3, none⟩,
 ⟨some 6, .assign (.tmp 15), 3, none⟩])
 (.seq
 (.seq
 (.ops [
 ⟨some 16, .move (.tmp 5), 3, none⟩,
 ⟨some 17, .move (.tmp 1), 23, none⟩,
 ⟨some 18, .call ⟨(.builtin .len), #[(.tmp 17)], #[23]⟩, 3, none⟩,
 ⟨some 19, .binOp .geq 3 (.tmp 16) (.tmp 18) 3, 4, none⟩])
 (.cond (.tmp 19)
 (.seq
 (.ops [
 ⟨some 4, .assign (.const (.int .i64 1)), 3, none⟩])
 .ret)
 .skip))
 (.seq
 (.ops [
 ⟨some 20, .move (.tmp 1), 23, none⟩,
 ⟨some 21, .move (.tmp 5), 3, none⟩,
 ⟨some 22, .indexAddr 23 (.tmp 20) (.tmp 21), 0, none⟩,
 ⟨some 23, .load 3 (.tmp 22), 3, none⟩,
 ⟨some 7, .assign (.tmp 23), 3, none⟩])
 (.seq
 (.ops [
 ⟨some 24, .move (.tmp 6), 3, none⟩,
 ⟨some 25, .move (.tmp 7), 3, none⟩,
 ⟨some 26, .call ⟨(.value (.func 158)), #[(.tmp 24), (.tmp 25)], #[3, 3]⟩, 3, none⟩,
 ⟨some 8, .assign (.tmp 26), 3, none⟩])
 (.seq
 (.ops [
 ⟨some 27, .move (.tmp 8), 3, none⟩,
 ⟨some 28, .binOp .neq 3 (.tmp 27) (.const (.int .i64 0)) 3, 4, none⟩])
 (.cond (.tmp 28)
 (.seq
 (.ops [
 ⟨some 29, .move (.tmp 8), 3, none⟩,
 ⟨some 4, .assign (.tmp 29), 3, none⟩])
 .ret)
 .skip)))))))
 (.ops [
 ⟨some 30, .binOp .add 3 (.tmp 11) (.const (.int .i64 1)) 3, 3, none⟩,
 ⟨some 11, .move (.tmp 30), 3, none⟩])))
def k143_l0 : SC := .loop k143_l0b
def k143 : SC :=
 .seq
 (.ops [
 ⟨some 4, .assign (.const (.int .i64 0)), 3, none⟩])
 (.seq
 (.seq
 (.ops [
 ⟨some 9, .move (.tmp 0), 23, none⟩,
 ⟨some 10, .call ⟨(.builtin .len), #[(.tmp 9)], #[23]⟩, 3, none⟩,
 ⟨some 11, .move (.const (.int .i64 0)), 3, none⟩])
 (.block 0
 k143_l0))
 (.seq
 (.seq
 (.ops [
 ⟨some 31, .move (.tmp 0), 23, none⟩,
 ⟨some 32, .call ⟨(.builtin .len), #[(.tmp 31)], #[23]⟩, 3, none⟩,
 ⟨some 33, .move (.tmp 1), 23, none⟩,
 ⟨some 34, .call ⟨(.builtin .len), #[(.tmp 33)], #[23]⟩, 3, none⟩,
 ⟨some 35, .binOp .lss 3 (.tmp 32) (.tmp 34) 3, 4, none⟩])
 (.cond (.tmp 35)
 (.seq
 (.ops [
 ⟨some 4, .assign (.const (.int .i64 (-1))), 3, none⟩])
 .ret)
 .skip))
 (.seq
 (.ops [
 ⟨some 4, .assign (.const (.int .i64 0)), 3, none⟩])
 .ret)))
theorem slim143 : Try.f143.body.map (slim lends) = some k143 := by kernel_rfl
theorem ok143 : fnOk Try.f143 2 = true := by kernel_rfl
theorem c143 {a l : List D} {r : D × List D} (h : wpD Y.env k143 (fin tys l.length [ResultVar.tmp 4] r) (entry a l)) (ha : a.length = 2) : Y.call 143 a l = some r :=
 call_slim (Y := Y) rfl Try.func143 (ha ▸ ok143) slim143 h
def gCp_l0_M (s1_ s2_ : List Int) (t11_ : Int) (s : St) : Prop := s.v 0 = D.sl 3 (lst (D.int .i64) s1_) ∧ s.v 1 = D.sl 3 (lst (D.int .i64) s2_) ∧ s.v 9 = D.sl 3 (lst (D.int .i64) s1_) ∧ s.v 10 = D.int .i64 (s1_.length : Int) ∧ s.v 11 = D.int .i64 t11_
def gCp_l0_X (s1_ s2_ : List Int) (r : Int ⊕ Unit) (ex : Ex) (s : St) : Prop := match r with
 | .inl q => ex = .ret ∧ s.v 4 = D.int .i64 q
 | .inr q => ex = .exit 0 ∧ s.v 0 = D.sl 3 (lst (D.int .i64) s1_) ∧ s.v 1 = D.sl 3 (lst (D.int .i64) s2_)
theorem gCp_l0_wp (s1_ s2_ : List Int) {v : Int} {s : St} {r : Int ⊕ Unit} (h : gCp_l0 s1_ s2_ v = some r) (hM : gCp_l0_M s1_ s2_ v s) : wpD Y.env k143_l0 (gCp_l0_X s1_ s2_ r) s := by
 unfold gCp_l0 at h
 refine wd_itO (c := k143_l0b) (fun v => gCp_l0_S s1_ s2_ v) (fun v s => gCp_l0_M s1_ s2_ v s) (gCp_l0_X s1_ s2_) ?_ h hM
 clear h hM s v r
 intro t11_ s o hM h
 unfold gCp_l0_S at h
 unfold gCp_l0_M at hM
 obtain ⟨m0, m1, m2, m3, m4⟩ := hM
 unfold k143_l0b
 by_cases e1 : t11_ < (s1_.length : Int)
 ·rw [if_pos e1] at h
  obtain ⟨e2, h⟩ := ckS h
  by_cases e3 : (s2_.length : Int) ≤ t11_
  ·rw [if_pos e3] at h
   cases h
   simp (maxDischargeDepth := 9) only [↓xpre, xpost, xlst, xcore, yset, ↓reduceIte, Nat.reduceEqDiff, Nat.reduceLT, m1, m2, m3, m4, e1, e2.1, e2.2, e3, gCp_l0_M, gCp_l0_X, sxR]
  ·rw [if_neg e3] at h
   obtain ⟨e4, h⟩ := ckS h
   obtain ⟨r5_, hl5, h⟩ := bindS h
   try dsimp only at h
   have c5 := g_cmp_Compare_int_call (s1_.getD t11_.toNat default) (s2_.getD t11_.toNat default) hl5
   by_cases e6 : r5_ = 0
   ·rw [if_pos e6] at h
    cases h
    simp (maxDischargeDepth := 9) only [↓xpre, xpost, xlst, xc2, xcore, yset, ↓reduceIte, Nat.reduceEqDiff, Nat.reduceLT, Nat.reduceAdd, m0, m1, m2, m3, m4, e1, e2.1, e2.2, e3, e4.2, c5, decide_eq_true e6, gCp_l0_M, sxN]
   ·rw [if_neg e6] at h
    cases h
    simp (maxDischargeDepth := 9) only [↓xpre, xpost, xlst, xc2, xcore, yset, ↓reduceIte, Nat.reduceEqDiff, Nat.reduceLT, Nat.reduceAdd, m1, m2, m3, m4, e1, e2.1, e2.2, e3, e4.2, c5, e6, gCp_l0_M, gCp_l0_X, sxR]
 ·rw [if_neg e1] at h
  cases h
  simp (maxDischargeDepth := 9) only [↓xpre, xpost, yset, ↓reduceIte, Nat.reduceEqDiff, Nat.reduceLT, m0, m1, m3, m4, e1, gCp_l0_M, gCp_l0_X, sxE]
theorem gCp_call (s1_ s2_ : List Int) {r : Int} (h : gCp s1_ s2_ = some r) : Y.call 143 [D.sl 3 (lst (D.int .i64) s1_), D.sl 3 (lst (D.int .i64) s2_)] [] = some (D.int .i64 r, []) := by
 refine c143 ?_ rfl
 unfold k143
 unfold gCp at h
 obtain ⟨r2_, hl2, h⟩ := bindS h
 try dsimp only at h
 simp (maxDischargeDepth := 9) only [↓xpre, xpost, xlst, xcore, yset, ↓reduceIte, Nat.reduceEqDiff, Nat.reduceLT, Int.reduceNeg]
 refine wd_mono (gCp_l0_wp s1_ s2_ hl2 ?_) ?_
 ·simp (maxDischargeDepth := 9) only [xpost, xcore, ↓reduceIte, Nat.reduceEqDiff, Nat.reduceLT, gCp_l0_M]
 ·intro ex2 s2 hX2
  rcases r2_ with q2_ | q2_
  ·unfold gCp_l0_X at hX2
   dsimp only at hX2 h
   obtain ⟨rfl, n2_0⟩ := hX2
   cases h
   simp (maxDischargeDepth := 9) only [↓xpre, xpost, xcore, ↓reduceIte, n2_0]
  ·unfold gCp_l0_X at hX2
   dsimp only at hX2 h
   obtain ⟨rfl, n2_0, n2_1⟩ := hX2
   by_cases e3 : (s1_.length : Int) < (s2_.length : Int)
   ·rw [if_pos e3] at h
    cases h
    simp (maxDischargeDepth := 9) only [↓xpre, xpost, xlst, xcore, yset, ↓reduceIte, Nat.reduceEqDiff, Nat.reduceLT, Int.reduceNeg, n2_0, n2_1, e3]
   ·rw [if_neg e3] at h
    cases h
    simp (maxDischargeDepth := 9) only [↓xpre, xpost, xlst, xcore, yset, ↓reduceIte, Nat.reduceEqDiff, Nat.reduceLT, Int.reduceNeg, n2_0, n2_1, e3]

theorem g_cmp_Compare_eq (x y : Int) : g_cmp_Compare_int x y = some (if x < y then -1 else if y < x then 1 else 0) := by
 unfold g_cmp_Compare_int g_cmp_isNaN_int
 by_cases h1 : x < y <;> by_cases h2 : y < x <;> simp [h1, h2]
theorem compare_l0_eq : ∀ (a b p q : List Int), p.length = q.length → p.length + a.length < 1099511627776 → q.length + b.length < 1099511627776 →
  (gCp_l0 (p ++ a) (q ++ b) (p.length : Int)).bind (fun r => match r with | .inl q2 => some q2 | .inr _ => if ((p ++ a).length : Int) < ((q ++ b).length : Int) then some (-1) else some 0) = some (cmpL a b) := by
 intro a
 induction a with
 | nil =>
  intro b p q hpq ha hb
  unfold gCp_l0
  rw [itO_inr (r := Sum.inr ())]
  ·simp only [Option.bind_some, List.append_nil, List.length_append, hpq]
   cases b with
   | nil => rw [if_neg (by simp)]; rfl
   | cons y b => rw [if_pos (by simp; omega)]; rfl
  ·simp only [gCp_l0_S]; rw [if_neg (app_not _)]
 | cons x a ih =>
  intro b p q hpq ha hb
  simp only [List.length_cons] at ha hb
  have ex : (p ++ x :: a).getD (p.length : Int).toNat default = x := by rw [Int.toNat_natCast]; exact getD_app_right p (x :: a) p.length rfl (by simp)
  cases b with
  | nil =>
   unfold gCp_l0
   rw [itO_inr (r := Sum.inl 1)]
   ·rfl
   ·simp only [gCp_l0_S]
    rw [if_pos (app_lt ..), ckT (app_ix ..), if_pos (by simp; omega)]
  | cons y b =>
   simp only [List.length_cons] at hb
   have ey : (q ++ y :: b).getD (p.length : Int).toNat default = y := by rw [Int.toNat_natCast, hpq]; exact getD_app_right q (y :: b) q.length rfl (by simp)
   have step : gCp_l0_S (p ++ x :: a) (q ++ y :: b) (p.length : Int) = if x = y then some (.inl (((p ++ [x]).length : Nat) : Int)) else some (.inr (.inl (if x < y then -1 else 1))) := by
    unfold gCp_l0_S
    rw [if_pos (app_lt ..), ckT (app_ix ..), if_neg (by simp; omega), ckT (by simp; omega), ex, ey, g_cmp_Compare_eq, Option.bind_some, wrS _ (by omega)]
    by_cases h1 : x = y
    ·subst h1; simp
    ·rw [if_neg h1]
     by_cases h2 : x < y
     ·simp [h2]
     ·have h3 : y < x := by omega
      simp [h2, h3]
   unfold cmpL
   by_cases h1 : x = y
   ·rw [if_pos h1]
    rw [if_pos h1] at step
    have := ih b (p ++ [x]) (q ++ [y]) (by simp [hpq]) (by simp; omega) (by simp; omega)
    unfold gCp_l0 at this ⊢
    rw [itO_inl step]
    simpa using this
   ·rw [if_neg h1]
    rw [if_neg h1] at step
    unfold gCp_l0
    rw [itO_inr step]; rfl
theorem gCp_eq (a b : List Int) (ha : a.length < 1099511627776) (hb : b.length < 1099511627776) : gCp a b = some (cmpL a b) := by
 have := compare_l0_eq a b [] [] rfl (by simpa using ha) (by simpa using hb)
 unfold gCp
 simp only [List.nil_append, List.length_nil, Int.natCast_zero] at this
 exact this
theorem gCp_cl (s1_ s2_ : List Int) (h0 : s1_.length < 1099511627776) (h1 : s2_.length < 1099511627776) : Y.call 143 [D.sl 3 (lst (D.int .i64) s1_), D.sl 3 (lst (D.int .i64) s2_)] [] = some (D.int .i64 (cmpL s1_ s2_), []) := gCp_call s1_ s2_ (gCp_eq s1_ s2_ h0 h1)
noncomputable def s_l1Sign (n_ : Int) : Option (Int) :=
 if 0 < n_ then
  some 1
 else
  if n_ < 0 then
   some (-1)
  else
   some 0
/-- spec.l1Sign -/
def k156 : SC :=
 .seq
 (.ops [
 ⟨some 2, .assign (.const (.int .i64 0)), 3, none⟩])
 (.seq
 (.block 0
 (.seq
 (.ops [
 ⟨some 4, .move (.tmp 0), 3, none⟩,
 ⟨some 5, .binOp .gtr 3 (.tmp 4) (.const (.int .i64 0)) 3, 4, none⟩,
 ⟨some 3, .assign (.tmp 5), 4, none⟩])
 (.cond (.tmp 3)
 (.seq
 (.ops [
 ⟨some 2, .assign (.const (.int .i64 1)), 3, none⟩])
 .ret)
 (.seq
 (.ops [
 ⟨some 7, .move (.tmp 0), 3, none⟩,
 ⟨some 8, .binOp .lss 3 (.tmp 7) (.const (.int .i64 0)) 3, 4, none⟩,
 ⟨some 6, .assign (.tmp 8), 4, none⟩])
 (.cond (.tmp 6)
 (.seq
 (.ops [
 ⟨some 2, .assign (.const (.int .i64 (-1))), 3, none⟩])
 .ret)
 .skip)))))
 (.seq
 (.ops [
 ⟨some 2, .assign (.const (.int .i64 0)), 3, none⟩])
 .ret))
theorem slim156 : Try.f156.body.map (slim lends) = some k156 := by kernel_rfl
theorem ok156 : fnOk Try.f156 1 = true := by kernel_rfl
theorem c156 {a l : List D} {r : D × List D} (h : wpD Y.env k156 (fin tys l.length [ResultVar.tmp 2] r) (entry a l)) (ha : a.length = 1) : Y.call 156 a l = some r :=
 call_slim (Y := Y) rfl Try.func156 (ha ▸ ok156) slim156 h
theorem s_l1Sign_call (n_ : Int) {r : Int} (h : s_l1Sign n_ = some r) : Y.call 156 [D.int .i64 n_] [] = some (D.int .i64 r, []) := by
 refine c156 ?_ rfl
 unfold k156
 unfold s_l1Sign at h
 by_cases e1 : 0 < n_
 ·rw [if_pos e1] at h
  cases h
  simp (maxDischargeDepth := 9) only [↓xpre, xpost, xcore, yset, ↓reduceIte, Nat.reduceEqDiff, Nat.reduceLT, Int.reduceNeg, e1]
 ·rw [if_neg e1] at h
  by_cases e2 : n_ < 0
  ·rw [if_pos e2] at h
   cases h
   simp (maxDischargeDepth := 9) only [↓xpre, xpost, xcore, yset, ↓reduceIte, Nat.reduceEqDiff, Nat.reduceLT, Int.reduceNeg, e1, e2]
  ·rw [if_neg e2] at h
   cases h
   simp (maxDischargeDepth := 9) only [↓xpre, xpost, xcore, yset, ↓reduceIte, Nat.reduceEqDiff, Nat.reduceLT, Int.reduceNeg, e1, e2]

noncomputable def s_prOrder_l0_S (a b : List Int) (t9_ : Int) : Option ((Int) ⊕ (Int ⊕ Unit)) :=
 if t9_ < (a.length : Int) then
  ck (0 ≤ t9_ ∧ t9_.toNat < a.length) <|
  ck (0 ≤ t9_ ∧ t9_.toNat < b.length) <|
  if (a.getD t9_.toNat default) = (b.getD t9_.toNat default) then
   some (Sum.inl (IntKind.i64.wrap (t9_ + 1)))
  else
   (s_l1Sign (IntKind.i64.wrap ((a.getD t9_.toNat default) - (b.getD t9_.toNat default)))).bind fun r5_ =>
   some (Sum.inr (Sum.inl r5_))
 else
  some (Sum.inr (Sum.inr ()))
noncomputable def s_prOrder_l0 (a b : List Int) (v : Int) : Option (Int ⊕ Unit) := itO (fun v => s_prOrder_l0_S a b v) v
noncomputable def s_prOrder (a b : List Int) : Option (Int) :=
 (s_prOrder_l0 a b 0).bind fun r2_ =>
 match r2_ with
 | .inl q2_ =>
  some q2_
 | .inr q2_ =>
  some 0
/-- spec.prOrder -/
def k138_l0b : SC :=
 .seq
 (.ops [
 ⟨some 10, .binOp .lss 3 (.tmp 9) (.tmp 8) 3, 0, none⟩])
 (.seq
 (.cond (.tmp 10)
 .skip
 (.exit 0))
 (.seq
 (.block 1
 (.seq
 (.ops [
 ⟨some 11, .move (.tmp 9), 3, none⟩,
 ⟨some 12, .indexAddr 23 (.tmp 7) (.tmp 9), 0, none⟩,
 ⟨some 13, .load 3 (.tmp 12), 3, none⟩,
 ⟨some 5, .assign (.tmp 11), 3, none⟩,
 ⟨some 6, .assign (.tmp 13), 3, none⟩])
 (.seq
 (.ops [
 ⟨some 14, .move (.tmp 6), 3, none⟩,
 ⟨some 15, .move (.tmp 1), 23, none⟩,
 ⟨some 16, .move (.tmp 5), 3, none⟩,
 ⟨some 17, .indexAddr 23 (.tmp 15) (.tmp 16), 0, none⟩,
 ⟨some 18, .load 3 (.tmp 17), 3, none⟩,
 ⟨some 19, .binOp .neq 3 (.tmp 14) (.tmp 18) 3, 4, none⟩])
 (.cond (.tmp 19)
 (.seq
 (.ops [
 ⟨some 20, .move (.tmp 6), 3, none⟩,
 ⟨some 21, .move (.tmp 1), 23, none⟩,
 ⟨some 22, .move (.tmp 5), 3, none⟩,
 ⟨some 23, .indexAddr 23 (.tmp 21) (.tmp 22), 0, none⟩,
 ⟨some 24, .load 3 (.tmp 23), 3, none⟩,
 ⟨some 25, .binOp .sub 3 (.tmp 20) (.tmp 24) 3, 3, none⟩,
 ⟨some 26, .call ⟨(.value (.func 156)), #[(.tmp 25)], #[3]⟩, 3, none⟩,
 ⟨some 4, .assign (.tmp 26), 3, none⟩])
 .ret)
 .skip))))
 (.ops [
 ⟨some 27, .binOp .add 3 (.tmp 9) (.const (.int .i64 1)) 3, 3, none⟩,
 ⟨some 9, .move (.tmp 27), 3, none⟩])))
def k138_l0 : SC := .loop k138_l0b
def k138 : SC :=
 .seq
 (.ops [
 ⟨some 4, .assign (.const (.int .i64 0)), 3, none⟩])
 (.seq
 (.seq
 (.ops [
 ⟨some 7, .move (.tmp 0), 23, none⟩,
 ⟨some 8, .call ⟨(.builtin .len), #[(.tmp 7)], #[23]⟩, 3, none⟩,
 ⟨some 9, .move (.const (.int .i64 0)), 3, none⟩])
 (.block 0
 k138_l0))
 (.seq
 (.ops [
 ⟨some 4, .assign (.const (.int .i64 0)), 3, none⟩])
 .ret))
theorem slim138 : Try.f138.body.map (slim lends) = some k138 := by kernel_rfl
theorem ok138 : fnOk Try.f138 2 = true := by kernel_rfl
theorem c138 {a l : List D} {r : D × List D} (h : wpD Y.env k138 (fin tys l.length [ResultVar.tmp 4] r) (entry a l)) (ha : a.length = 2) : Y.call 138 a l = some r :=
 call_slim (Y := Y) rfl Try.func138 (ha ▸ ok138) slim138 h
def s_prOrder_l0_M (a b : List Int) (t9_ : Int) (s : St) : Prop := s.v 1 = D.sl 3 (lst (D.int .i64) b) ∧ s.v 7 = D.sl 3 (lst (D.int .i64) a) ∧ s.v 8 = D.int .i64 (a.length : Int) ∧ s.v 9 = D.int .i64 t9_
def s_prOrder_l0_X (a b : List Int) (r : Int ⊕ Unit) (ex : Ex) (s : St) : Prop := match r with
 | .inl q => ex = .ret ∧ s.v 4 = D.int .i64 q
 | .inr q => ex = .exit 0
theorem s_prOrder_l0_wp (a b : List Int) {v : Int} {s : St} {r : Int ⊕ Unit} (h : s_prOrder_l0 a b v = some r) (hM : s_prOrder_l0_M a b v s) : wpD Y.env k138_l0 (s_prOrder_l0_X a b r) s := by
 unfold s_prOrder_l0 at h
 refine wd_itO (c := k138_l0b) (fun v => s_prOrder_l0_S a b v) (fun v s => s_prOrder_l0_M a b v s) (s_prOrder_l0_X a b) ?_ h hM
 clear h hM s v r
 intro t9_ s o hM h
 unfold s_prOrder_l0_S at h
 unfold s_prOrder_l0_M at hM
 obtain ⟨m0, m1, m2, m3⟩ := hM
 unfold k138_l0b
 by_cases e1 : t9_ < (a.length : Int)
 ·rw [if_pos e1] at h
  obtain ⟨e2, h⟩ := ckS h
  obtain ⟨e3, h⟩ := ckS h
  by_cases e4 : (a.getD t9_.toNat default) = (b.getD t9_.toNat default)
  ·rw [if_pos e4] at h
   cases h
   simp (maxDischargeDepth := 9) only [↓xpre, xpost, xlst, xcore, yset, ↓reduceIte, Nat.reduceEqDiff, Nat.reduceLT, m0, m1, m2, m3, e1, e2.1, e2.2, e3.2, decide_eq_true e4, s_prOrder_l0_M, sxN]
  ·rw [if_neg e4] at h
   obtain ⟨r5_, hl5, h⟩ := bindS h
   try dsimp only at h
   have c5 := s_l1Sign_call (IntKind.i64.wrap ((a.getD t9_.toNat default) - (b.getD t9_.toNat default))) hl5
   cases h
   simp (maxDischargeDepth := 9) only [↓xpre, xpost, xlst, xc2, xcore, yset, ↓reduceIte, Nat.reduceEqDiff, Nat.reduceLT, Nat.reduceAdd, m0, m1, m2, m3, e1, e2.1, e2.2, e3.2, e4, c5, s_prOrder_l0_M, s_prOrder_l0_X, sxR]
 ·rw [if_neg e1] at h
  cases h
  simp (maxDischargeDepth := 9) only [↓xpre, xpost, yset, ↓reduceIte, Nat.reduceLT, m2, m3, e1, s_prOrder_l0_M, s_prOrder_l0_X, sxE]
theorem s_prOrder_call (a b : List Int) {r : Int} (h : s_prOrder a b = some r) : Y.call 138 [D.sl 3 (lst (D.int .i64) a), D.sl 3 (lst (D.int .i64) b)] [] = some (D.int .i64 r, []) := by
 refine c138 ?_ rfl
 unfold k138
 unfold s_prOrder at h
 obtain ⟨r2_, hl2, h⟩ := bindS h
 try dsimp only at h
 simp (maxDischargeDepth := 9) only [↓xpre, xpost, xlst, xcore, yset, ↓reduceIte, Nat.reduceEqDiff, Nat.reduceLT]
 refine wd_mono (s_prOrder_l0_wp a b hl2 ?_) ?_
 ·simp (maxDischargeDepth := 9) only [xpost, xcore, ↓reduceIte, Nat.reduceEqDiff, Nat.reduceLT, s_prOrder_l0_M]
 ·intro ex2 s2 hX2
  rcases r2_ with q2_ | q2_
  ·unfold s_prOrder_l0_X at hX2
   dsimp only at hX2 h
   obtain ⟨rfl, n2_0⟩ := hX2
   cases h
   simp (maxDischargeDepth := 9) only [↓xpre, xpost, xcore, ↓reduceIte, n2_0]
  ·unfold s_prOrder_l0_X at hX2
   dsimp only at hX2 h
   obtain rfl := hX2
   cases h
   simp (maxDischargeDepth := 9) only [↓xpre, xpost, xcore, yset, ↓reduceIte, Nat.reduceEqDiff, Nat.reduceLT]

def smallI (l : List Int) : Bool := allIn l (-1099511627776) 1099511627776
theorem smallI_get {l : List Int} (h : smallI l = true) {x : Int} (hx : x ∈ l) : -1099511627776 ≤ x ∧ x ≤ 1099511627776 := by
 have := List.all_eq_true.1 h x hx; exact inR_iff.1 this
theorem smallI_of {l : List Int} {lo hi : Int} (h : allIn l lo hi = true) (h1 : -1099511627776 ≤ lo) (h2 : hi ≤ 1099511627776) : smallI l = true := by
 refine List.all_eq_true.2 fun x hx => ?_
 have := inR_iff.1 (List.all_eq_true.1 h x hx)
 exact inR_iff.2 ⟨by omega, by omega⟩
theorem s_l1Sign_eq (n : Int) : s_l1Sign n = some (if n < 0 then -1 else if 0 < n then 1 else 0) := by
 unfold s_l1Sign
 by_cases h1 : n < 0 <;> by_cases h2 : 0 < n <;> simp [h1, h2] <;> omega
theorem order_l0_eq : ∀ (a b p q : List Int), p.length = q.length → a.length = b.length → p.length + a.length < 1099511627776 → smallI a = true → smallI b = true →
  (s_prOrder_l0 (p ++ a) (q ++ b) (p.length : Int)).bind (fun r => match r with | .inl q2 => some q2 | .inr _ => some 0) = some (cmpL a b) := by
 intro a
 induction a with
 | nil =>
  intro b p q hpq hab ha h1 h2
  have : b = [] := by cases b with | nil => rfl | cons _ _ => simp at hab
  subst this
  unfold s_prOrder_l0
  rw [itO_inr (r := Sum.inr ())]
  ·rfl
  ·simp only [s_prOrder_l0_S]; rw [if_neg (app_not _)]
 | cons x a ih =>
  intro b p q hpq hab ha h1 h2
  cases b with
  | nil => simp at hab
  | cons y b =>
   simp only [List.length_cons] at ha hab
   have sx1 := smallI_get h1 (List.mem_cons_self ..)
   have sy1 := smallI_get h2 (List.mem_cons_self ..)
   have ex : (p ++ x :: a).getD (p.length : Int).toNat default = x := by rw [Int.toNat_natCast]; exact getD_app_right p (x :: a) p.length rfl (by simp)
   have ey : (q ++ y :: b).getD (p.length : Int).toNat default = y := by rw [Int.toNat_natCast, hpq]; exact getD_app_right q (y :: b) q.length rfl (by simp)
   have step : s_prOrder_l0_S (p ++ x :: a) (q ++ y :: b) (p.length : Int) = if x = y then some (.inl (((p ++ [x]).length : Nat) : Int)) else some (.inr (.inl (if x < y then -1 else 1))) := by
    unfold s_prOrder_l0_S
    rw [if_pos (app_lt ..), ckT (app_ix ..), ckT (by simp; omega), ex, ey, wrS _ (by omega), wr64 _ (by omega), s_l1Sign_eq, Option.bind_some]
    by_cases h1 : x = y
    ·subst h1; simp
    ·rw [if_neg h1, if_neg h1]
     by_cases h2 : x < y
     ·rw [if_pos (by omega), if_pos h2]
     ·rw [if_neg (by omega), if_pos (by omega), if_neg h2]
   have s1 : smallI a = true := List.all_eq_true.2 fun z hz => List.all_eq_true.1 h1 z (List.mem_cons_of_mem _ hz)
   have s2 : smallI b = true := List.all_eq_true.2 fun z hz => List.all_eq_true.1 h2 z (List.mem_cons_of_mem _ hz)
   unfold cmpL
   by_cases h1 : x = y
   ·rw [if_pos h1]
    rw [if_pos h1] at step
    have := ih b (p ++ [x]) (q ++ [y]) (by simp [hpq]) (by omega) (by simp; omega) s1 s2
    unfold s_prOrder_l0 at this ⊢
    rw [itO_inl step]
    simpa using this
   ·rw [if_neg h1]
    rw [if_neg h1] at step
    unfold s_prOrder_l0
    rw [itO_inr step]; rfl
theorem s_prOrder_eq (a b : List Int) (ha : a.length < 1099511627776) (hab : a.length = b.length) (h1 : smallI a = true) (h2 : smallI b = true) : s_prOrder a b = some (cmpL a b) := by
 have := order_l0_eq a b [] [] rfl hab (by simpa using ha) h1 h2
 unfold s_prOrder
 simp only [List.nil_append, List.length_nil, Int.natCast_zero] at this
 exact this
theorem s_prOrder_cl (a b : List Int) (h0 : a.length < 1099511627776) (h1 : a.length = b.length) (h2 : smallI a = true) (h3 : smallI b = true) : Y.call 138 [D.sl 3 (lst (D.int .i64) a), D.sl 3 (lst (D.int .i64) b)] [] = some (D.int .i64 (cmpL a b), []) := s_prOrder_call a b (s_prOrder_eq a b h0 h1 h2 h3)
def confAt (l : List (List Int)) (size labels : Int) (i : Nat) : Bool :=
 ((decide (((l.getD i default).length : Int) = size) && sortedB (l.getD i default)) && allIn (l.getD i default) 0 (labels - 1)) && (decide (i = 0) || decide (cmpL (l.getD (i - 1) default) (l.getD i default) < 0))
def confs (l : List (List Int)) (size labels : Int) : Bool := (List.range l.length).all (confAt l size labels)
def isProb (labels degree : Int) (ns es : List (List Int)) : Bool := ((inR labels 1 8 && inR degree 1 4) && confs ns degree labels) && confs es 2 labels
theorem Short.getD {l : List (List Int)} (h : Short l) (i : Nat) : (l.getD i default).length < 1099511627776 := by
 rcases Nat.lt_or_ge i l.length with hi | hi
 ·rw [getD_get _ _ hi]; exact h.at i hi
 ·rw [List.getD_eq_getElem?_getD, List.getElem?_eq_none hi]; decide
noncomputable def iCO_l0_S (list : List (List Int)) (size labels t11_ : Int) : Option ((Int) ⊕ (Unit ⊕ Unit)) :=
 if t11_ < (list.length : Int) then
  ck (0 ≤ t11_ ∧ t11_.toNat < list.length) <|
  if ((list.getD t11_.toNat default).length : Int) = size then
   ck ((list.getD t11_.toNat default).length < 1099511627776) <|
   if (sortedB (list.getD t11_.toNat default)) = true then
    if (allIn (list.getD t11_.toNat default) (0 : Int) (IntKind.i64.wrap (labels - 1))) = true then
     if 0 < t11_ then
      ck (0 ≤ IntKind.i64.wrap (t11_ - 1) ∧ (IntKind.i64.wrap (t11_ - 1)).toNat < list.length) <|
      ck ((list.getD ((IntKind.i64.wrap (t11_ - 1)).toNat) default).length < 1099511627776) <|
      if 0 ≤ (cmpL (list.getD ((IntKind.i64.wrap (t11_ - 1)).toNat) default) (list.getD t11_.toNat default)) then
       some (Sum.inr (Sum.inl ()))
      else
       some (Sum.inl (IntKind.i64.wrap (t11_ + 1)))
     else
      some (Sum.inl (IntKind.i64.wrap (t11_ + 1)))
    else
     some (Sum.inr (Sum.inl ()))
   else
    some (Sum.inr (Sum.inl ()))
  else
   some (Sum.inr (Sum.inl ()))
 else
  some (Sum.inr (Sum.inr ()))
noncomputable def iCO_l0 (list : List (List Int)) (size labels v : Int) : Option (Unit ⊕ Unit) := itO (fun v => iCO_l0_S list size labels v) v
noncomputable def iCO (list : List (List Int)) (size labels : Int) : Option (Bool) :=
 (iCO_l0 list size labels 0).bind fun r2_ =>
 match r2_ with
 | .inl q2_ =>
  some false
 | .inr q2_ =>
  some true
/-- impl.configurationsOk -/
def k113_l0b : SC :=
 .seq
 (.ops [
 ⟨some 12, .binOp .lss 3 (.tmp 11) (.tmp 10) 3, 0, none⟩])
 (.seq
 (.cond (.tmp 12)
 .skip
 (.exit 0))
 (.seq
 (.block 1
 (.seq
 (.ops [
 ⟨some 13, .move (.tmp 11), 3, none⟩,
 ⟨some 14, .indexAddr 44 (.tmp 9) (.tmp 11), 0, none⟩,
 ⟨some 15, .load 23 (.tmp 14), 23, none⟩,
 ⟨some 7, .assign (.tmp 13), 3, none⟩,
 ⟨some 8, .assign (.tmp 15), 23, none⟩])
 (.seq
 (.ops [
 ⟨some 16, .move (.tmp 8), 23, none⟩,
 ⟨some 17, .call ⟨(.builtin .len), #[(.tmp 16)], #[23]⟩, 3, none⟩,
 ⟨some 18, .move (.tmp 1), 3, none⟩,
 ⟨some 19, .binOp .neq 3 (.tmp 17) (.tmp 18) 3, 4, none⟩,
 ⟨some 20, .move (.tmp 19), 4, none⟩,
 ⟨some 21, .move (.tmp 8), 23, (some (some 20, false))⟩,
 ⟨some 22, .call ⟨(.value (.func 142)), #[(.tmp 21)], #[23]⟩, 4, (some (some 20, false))⟩,
 ⟨some 23, .unOp .not 4 (.tmp 22), 4, (some (some 20, false))⟩,
 ⟨some 24, .pick (.tmp 20) (.const (.bool true)) (.tmp 23), 4, none⟩,
 ⟨some 25, .move (.tmp 24), 4, none⟩,
 ⟨some 26, .move (.tmp 8), 23, (some (some 25, false))⟩,
 ⟨some 27, .move (.tmp 2), 3, (some (some 25, false))⟩,
 ⟨some 28, .binOp .sub 3 (.tmp 27) (.const (.int .i64 1)) 3, 3, (some (some 25, false))⟩,
 ⟨some 29, .call ⟨(.value (.func 83)), #[(.tmp 26), (.const (.int .i64 0)), (.tmp 28)], #[23, 3, 3]⟩, 4, (some (some 25, false))⟩,
 ⟨some 30, .unOp .not 4 (.tmp 29), 4, (some (some 25, false))⟩,
 ⟨some 31, .pick (.tmp 25) (.const (.bool true)) (.tmp 30), 4, none⟩,
 ⟨some 32, .move (.tmp 31), 4, none⟩,
 ⟨some 33, .move (.tmp 7), 3, (some (some 32, false))⟩,
 ⟨some 34, .binOp .gtr 3 (.tmp 33) (.const (.int .i64 0)) 3, 4, (some (some 32, false))⟩,
 ⟨some 35, .move (.tmp 34), 4, (some (some 32, false))⟩,
 ⟨some 36, .move (.tmp 0), 44, (some (some 35, true))⟩,
 ⟨some 37, .move (.tmp 7), 3, (some (some 35, true))⟩,
 ⟨some 38, .binOp .sub 3 (.tmp 37) (.const (.int .i64 1)) 3, 3, (some (some 35, true))⟩,
 ⟨some 39, .indexAddr 44 (.tmp 36) (.tmp 38), 0, (some (some 35, true))⟩,
 ⟨some 40, .load 23 (.tmp 39), 23, (some (some 35, true))⟩,
 ⟨some 41, .move (.tmp 8), 23, (some (some 35, true))⟩,
 ⟨some 42, .call ⟨(.value (.func 143)), #[(.tmp 40), (.tmp 41)], #[23, 23]⟩, 3, (some (some 35, true))⟩,
 ⟨some 43, .binOp .geq 3 (.tmp 42) (.const (.int .i64 0)) 3, 4, (some (some 35, true))⟩,
 ⟨some 44, .pick (.tmp 35) (.tmp 43) (.const (.bool false)), 4, (some (some 32, false))⟩,
 ⟨some 45, .pick (.tmp 32) (.const (.bool true)) (.tmp 44), 4, none⟩])
 (.cond (.tmp 45)
 (.seq
 (.ops [
 ⟨some 6, .assign (.const (.bool false)), 4, none⟩])
 .ret)
 .skip))))
 (.ops [
 ⟨some 46, .binOp .add 3 (.tmp 11) (.const (.int .i64 1)) 3, 3, none⟩,
 ⟨some 11, .move (.tmp 46), 3, none⟩])))
def k113_l0 : SC := .loop k113_l0b
def k113 : SC :=
 .seq
 (.ops [
 ⟨some 6, .assign (.const (.bool false)), 4, none⟩])
 (.seq
 (.seq
 (.ops [
 ⟨some 9, .move (.tmp 0), 44, none⟩,
 ⟨some 10, .call ⟨(.builtin .len), #[(.tmp 9)], #[44]⟩, 3, none⟩,
 ⟨some 11, .move (.const (.int .i64 0)), 3, none⟩])
 (.block 0
 k113_l0))
 (.seq
 (.ops [
 ⟨some 6, .assign (.const (.bool true)), 4, none⟩])
 .ret))
theorem slim113 : Try.f113.body.map (slim lends) = some k113 := by kernel_rfl
theorem ok113 : fnOk Try.f113 3 = true := by kernel_rfl
theorem c113 {a l : List D} {r : D × List D} (h : wpD Y.env k113 (fin tys l.length [ResultVar.tmp 6] r) (entry a l)) (ha : a.length = 3) : Y.call 113 a l = some r :=
 call_slim (Y := Y) rfl Try.func113 (ha ▸ ok113) slim113 h
def iCO_l0_M (list : List (List Int)) (size labels t11_ : Int) (s : St) : Prop := s.v 0 = D.sl 23 (lst (fun x => D.sl 3 (lst (D.int .i64) x)) list) ∧ s.v 1 = D.int .i64 size ∧ s.v 2 = D.int .i64 labels ∧ s.v 9 = D.sl 23 (lst (fun x => D.sl 3 (lst (D.int .i64) x)) list) ∧ s.v 10 = D.int .i64 (list.length : Int) ∧ s.v 11 = D.int .i64 t11_
def iCO_l0_X (list : List (List Int)) (size labels : Int) (r : Unit ⊕ Unit) (ex : Ex) (s : St) : Prop := match r with
 | .inl q => ex = .ret ∧ s.v 6 = D.bool false
 | .inr q => ex = .exit 0
theorem iCO_l0_wp (list : List (List Int)) (size labels : Int) {v : Int} {s : St} {r : Unit ⊕ Unit} (h : iCO_l0 list size labels v = some r) (hM : iCO_l0_M list size labels v s) : wpD Y.env k113_l0 (iCO_l0_X list size labels r) s := by
 unfold iCO_l0 at h
 refine wd_itO (c := k113_l0b) (fun v => iCO_l0_S list size labels v) (fun v s => iCO_l0_M list size labels v s) (iCO_l0_X list size labels) ?_ h hM
 clear h hM s v r
 intro t11_ s o hM h
 unfold iCO_l0_S at h
 unfold iCO_l0_M at hM
 obtain ⟨m0, m1, m2, m3, m4, m5⟩ := hM
 unfold k113_l0b
 by_cases e1 : t11_ < (list.length : Int)
 ·rw [if_pos e1] at h
  obtain ⟨e2, h⟩ := ckS h
  by_cases e3 : ((list.getD t11_.toNat default).length : Int) = size
  ·rw [if_pos e3] at h
   obtain ⟨e4, h⟩ := ckS h
   have c5 := gIS_cl (list.getD t11_.toNat default) e4
   by_cases e6 : (sortedB (list.getD t11_.toNat default)) = true
   ·rw [if_pos e6] at h
    have c7 := i_allWithin_cl (list.getD t11_.toNat default) (0 : Int) (IntKind.i64.wrap (labels - 1)) e4
    by_cases e8 : (allIn (list.getD t11_.toNat default) (0 : Int) (IntKind.i64.wrap (labels - 1))) = true
    ·rw [if_pos e8] at h
     by_cases e9 : 0 < t11_
     ·rw [if_pos e9] at h
      obtain ⟨e10, h⟩ := ckS h
      obtain ⟨e11, h⟩ := ckS h
      have c12 := gCp_cl (list.getD ((IntKind.i64.wrap (t11_ - 1)).toNat) default) (list.getD t11_.toNat default) e11 e4
      by_cases e13 : 0 ≤ (cmpL (list.getD ((IntKind.i64.wrap (t11_ - 1)).toNat) default) (list.getD t11_.toNat default))
      ·rw [if_pos e13] at h
       cases h
       simp (maxDischargeDepth := 9) only [↓xpre, xpost, xlst, xc2, xcore, yset, ↓reduceIte, Nat.reduceEqDiff, Nat.reduceLT, Nat.reduceAdd, m0, m1, m2, m3, m4, m5, e1, e2.1, e2.2, decide_eq_true e3, c5, e6, c7, e8, e9, e10.1, e10.2, c12, e13, iCO_l0_M, iCO_l0_X, sxR]
      ·rw [if_neg e13] at h
       cases h
       simp (maxDischargeDepth := 9) only [↓xpre, xpost, xlst, xc2, xcore, yset, ↓reduceIte, Nat.reduceEqDiff, Nat.reduceLT, Nat.reduceAdd, m0, m1, m2, m3, m4, m5, e1, e2.1, e2.2, decide_eq_true e3, c5, e6, c7, e8, e9, e10.1, e10.2, c12, e13, iCO_l0_M, sxN]
     ·rw [if_neg e9] at h
      cases h
      simp (maxDischargeDepth := 9) only [↓xpre, xpost, xlst, xc2, xcore, yset, ↓reduceIte, Nat.reduceEqDiff, Nat.reduceLT, Nat.reduceAdd, m0, m1, m2, m3, m4, m5, e1, e2.1, e2.2, decide_eq_true e3, c5, e6, c7, e8, e9, iCO_l0_M, sxN]
    ·rw [if_neg e8] at h
     have e8f : (allIn (list.getD t11_.toNat default) (0 : Int) (IntKind.i64.wrap (labels - 1))) = false := Bool.eq_false_iff.mpr e8
     cases h
     simp (maxDischargeDepth := 9) only [↓xpre, xpost, xlst, xc2, xcore, yset, ↓reduceIte, Nat.reduceEqDiff, Nat.reduceLT, Nat.reduceAdd, m1, m2, m3, m4, m5, e1, e2.1, e2.2, decide_eq_true e3, c5, e6, c7, e8f, iCO_l0_M, iCO_l0_X, sxR]
   ·rw [if_neg e6] at h
    have e6f : (sortedB (list.getD t11_.toNat default)) = false := Bool.eq_false_iff.mpr e6
    cases h
    simp (maxDischargeDepth := 9) only [↓xpre, xpost, xlst, xc2, xcore, yset, ↓reduceIte, Nat.reduceEqDiff, Nat.reduceLT, Nat.reduceAdd, m1, m3, m4, m5, e1, e2.1, e2.2, decide_eq_true e3, c5, e6f, iCO_l0_M, iCO_l0_X, sxR]
  ·rw [if_neg e3] at h
   cases h
   simp (maxDischargeDepth := 9) only [↓xpre, xpost, xlst, xcore, yset, ↓reduceIte, Nat.reduceEqDiff, Nat.reduceLT, m1, m3, m4, m5, e1, e2.1, e2.2, e3, iCO_l0_M, iCO_l0_X, sxR]
 ·rw [if_neg e1] at h
  cases h
  simp (maxDischargeDepth := 9) only [↓xpre, xpost, yset, ↓reduceIte, Nat.reduceLT, m4, m5, e1, iCO_l0_M, iCO_l0_X, sxE]
theorem iCO_call (list : List (List Int)) (size labels : Int) {r : Bool} (h : iCO list size labels = some r) : Y.call 113 [D.sl 23 (lst (fun x => D.sl 3 (lst (D.int .i64) x)) list), D.int .i64 size, D.int .i64 labels] [] = some (D.bool r, []) := by
 refine c113 ?_ rfl
 unfold k113
 unfold iCO at h
 obtain ⟨r2_, hl2, h⟩ := bindS h
 try dsimp only at h
 simp (maxDischargeDepth := 9) only [↓xpre, xpost, xlst, xcore, yset, ↓reduceIte, Nat.reduceEqDiff, Nat.reduceLT]
 refine wd_mono (iCO_l0_wp list size labels hl2 ?_) ?_
 ·simp (maxDischargeDepth := 9) only [xpost, xcore, ↓reduceIte, Nat.reduceEqDiff, Nat.reduceLT, iCO_l0_M]
 ·intro ex2 s2 hX2
  rcases r2_ with q2_ | q2_
  ·unfold iCO_l0_X at hX2
   dsimp only at hX2 h
   obtain ⟨rfl, n2_0⟩ := hX2
   cases h
   simp (maxDischargeDepth := 9) only [↓xpre, xpost, xcore, ↓reduceIte, n2_0]
  ·unfold iCO_l0_X at hX2
   dsimp only at hX2 h
   obtain rfl := hX2
   cases h
   simp (maxDischargeDepth := 9) only [↓xpre, xpost, xcore, yset, ↓reduceIte, Nat.reduceEqDiff, Nat.reduceLT]

theorem iCO_eq (l : List (List Int)) (size labels : Int) (h : Short l) (hl : 1 ≤ labels ∧ labels ≤ 8) : iCO l size labels = some (confs l size labels) := by
 have h1 := h.1
 unfold iCO iCO_l0
 have key := itO_all (fun v => iCO_l0_S l size labels v) (fun i => (i : Int)) l.length (confAt l size labels) (.inl ()) (.inr ()) ?_ ?_
 ·simp only [Int.natCast_zero] at key
  rw [key]
  unfold confs
  cases (List.range l.length).all (confAt l size labels) <;> rfl
 ·intro i hi
  simp only [iCO_l0_S]
  rw [if_pos (lt_nat hi), ckT (ix_nat hi), Int.toNat_natCast, wrS i (by omega), wr64 (labels - 1) (by omega)]
  have hs := h.getD i
  have hs1 := h.getD (i - 1)
  rw [ckT hs]
  unfold confAt
  generalize l.getD i default = x at *
  by_cases q1 : (x.length : Int) = size
  ·rw [if_pos q1]
   cases q2 : sortedB x with
   | false => simp
   | true =>
    rw [if_pos rfl]
    cases q3 : allIn x 0 (labels - 1) with
    | false => simp
    | true =>
     rw [if_pos rfl]
     by_cases q4 : i = 0
     ·simp [q1, q4]
     ·rw [if_pos (by omega), wr64 _ (by omega), ckT (by omega), show ((i : Int) - 1).toNat = i - 1 by omega, ckT hs1]
      generalize l.getD (i - 1) default = y at *
      by_cases q5 : 0 ≤ cmpL y x
      ·rw [if_pos q5, if_neg (by simp; intro _; exact ⟨q4, q5⟩)]
      ·rw [if_neg q5, if_pos (by simp [q1, q4]; omega)]
  ·have e := decide_eq_false q1
   rw [if_neg q1, if_neg (by rw [e]; simp)]
 ·simp only [iCO_l0_S]; rw [if_neg (not_lt_nat _)]
theorem iCO_cl (list : List (List Int)) (size labels : Int) (h0 : Short list) (h1 : 1 ≤ labels ∧ labels ≤ 8) : Y.call 113 [D.sl 23 (lst (fun x => D.sl 3 (lst (D.int .i64) x)) list), D.int .i64 size, D.int .i64 labels] [] = some (D.bool (confs list size labels), []) := iCO_call list size labels (iCO_eq list size labels h0 h1)
noncomputable def sPL_l0_S (l : List (List Int)) (size labels t12_ k : Int) : Option ((Int) ⊕ (Unit ⊕ Unit)) :=
 if k < size then
  ck (0 ≤ IntKind.i64.wrap (k - 1) ∧ (IntKind.i64.wrap (k - 1)).toNat < (l.getD t12_.toNat default).length) <|
  ck (0 ≤ k ∧ k.toNat < (l.getD t12_.toNat default).length) <|
  if ((l.getD t12_.toNat default).getD k.toNat default) < ((l.getD t12_.toNat default).getD ((IntKind.i64.wrap (k - 1)).toNat) default) then
   some (Sum.inr (Sum.inl ()))
  else
   some (Sum.inl (IntKind.i64.wrap (k + 1)))
 else
  some (Sum.inr (Sum.inr ()))
noncomputable def sPL_l0 (l : List (List Int)) (size labels t12_ v : Int) : Option (Unit ⊕ Unit) := itO (fun v => sPL_l0_S l size labels t12_ v) v
noncomputable def sPL_l1_S (l : List (List Int)) (size labels t12_ : Int) : Option ((Int) ⊕ (Unit ⊕ Unit)) :=
 if t12_ < (l.length : Int) then
  ck (0 ≤ t12_ ∧ t12_.toNat < l.length) <|
  if ((l.getD t12_.toNat default).length : Int) = size then
   ck ((l.getD t12_.toNat default).length < 1099511627776) <|
   if (allIn (l.getD t12_.toNat default) (0 : Int) (IntKind.i64.wrap (labels - 1))) = true then
    if 0 < t12_ then
     ck (0 ≤ IntKind.i64.wrap (t12_ - 1) ∧ (IntKind.i64.wrap (t12_ - 1)).toNat < l.length) <|
     ck ((l.getD ((IntKind.i64.wrap (t12_ - 1)).toNat) default).length < 1099511627776) <|
     ck ((l.getD ((IntKind.i64.wrap (t12_ - 1)).toNat) default).length = (l.getD t12_.toNat default).length) <|
     ck (smallI (l.getD ((IntKind.i64.wrap (t12_ - 1)).toNat) default) = true) <|
     ck (smallI (l.getD t12_.toNat default) = true) <|
     if 0 ≤ (cmpL (l.getD ((IntKind.i64.wrap (t12_ - 1)).toNat) default) (l.getD t12_.toNat default)) then
      some (Sum.inr (Sum.inl ()))
     else
      (sPL_l0 l size labels t12_ 1).bind fun r16_ =>
      match r16_ with
      | .inl q16_ =>
       some (Sum.inr (Sum.inl ()))
      | .inr q16_ =>
       some (Sum.inl (IntKind.i64.wrap (t12_ + 1)))
    else
     (sPL_l0 l size labels t12_ 1).bind fun r9_ =>
     match r9_ with
     | .inl q9_ =>
      some (Sum.inr (Sum.inl ()))
     | .inr q9_ =>
      some (Sum.inl (IntKind.i64.wrap (t12_ + 1)))
   else
    some (Sum.inr (Sum.inl ()))
  else
   some (Sum.inr (Sum.inl ()))
 else
  some (Sum.inr (Sum.inr ()))
noncomputable def sPL_l1 (l : List (List Int)) (size labels v : Int) : Option (Unit ⊕ Unit) := itO (fun v => sPL_l1_S l size labels v) v
noncomputable def sPL (l : List (List Int)) (size labels : Int) : Option (Bool) :=
 (sPL_l1 l size labels 0).bind fun r2_ =>
 match r2_ with
 | .inl q2_ =>
  some false
 | .inr q2_ =>
  some true
/-- spec.prLists -/
def k109_l0b : SC :=
 .seq
 (.seq
 (.ops [
 ⟨some 42, .move (.tmp 9), 3, none⟩,
 ⟨some 43, .move (.tmp 1), 3, none⟩,
 ⟨some 44, .binOp .lss 3 (.tmp 42) (.tmp 43) 3, 4, none⟩])
 (.cond (.tmp 44)
 .skip
 (.exit 2)))
 (.seq
 (.block 3
 (.seq
 (.draws [
 (⟨[47, 8, 8], [47, 48, 49, 50, 51, 52, 53, 54, 55, 56], [47]⟩, ⟨some 47, .move (.tmp 8), 23, none⟩),
 (⟨[48, 9, 9], [47, 48, 49, 50, 51, 52, 53, 54, 55, 56], [48]⟩, ⟨some 48, .move (.tmp 9), 3, none⟩),
 (⟨[49, 48, 9], [47, 48, 49, 50, 51, 52, 53, 54, 55, 56], [49]⟩, ⟨some 49, .binOp .sub 3 (.tmp 48) (.const (.int .i64 1)) 3, 3, none⟩),
 (⟨[50, 47, 49, 8, 49], [47, 48, 49, 50, 51, 52, 53, 54, 55, 56], [50]⟩, ⟨some 50, .indexAddr 23 (.tmp 47) (.tmp 49), 0, none⟩),
 (⟨[51, 50, 8], [47, 48, 49, 50, 51, 52, 53, 54, 55, 56], [51]⟩, ⟨some 51, .load 3 (.tmp 50), 3, none⟩),
 (⟨[52, 8, 8], [47, 48, 49, 50, 51, 52, 53, 54, 55, 56], [52]⟩, ⟨some 52, .move (.tmp 8), 23, none⟩),
 (⟨[53, 9, 9], [47, 48, 49, 50, 51, 52, 53, 54, 55, 56], [53]⟩, ⟨some 53, .move (.tmp 9), 3, none⟩),
 (⟨[54, 52, 53, 8, 9], [47, 48, 49, 50, 51, 52, 53, 54, 55, 56], [54]⟩, ⟨some 54, .indexAddr 23 (.tmp 52) (.tmp 53), 0, none⟩),
 (⟨[55, 54, 8], [47, 48, 49, 50, 51, 52, 53, 54, 55, 56], [55]⟩, ⟨some 55, .load 3 (.tmp 54), 3, none⟩),
 (⟨[56, 51, 55, 8, 8], [47, 48, 49, 50, 51, 52, 53, 54, 55, 56], [56]⟩, ⟨some 56, .binOp .gtr 3 (.tmp 51) (.tmp 55) 3, 4, none⟩)])
 (.cond (.tmp 56)
 (.seq
 (.ops [
 ⟨some 6, .assign (.const (.bool false)), 4, none⟩])
 .ret)
 .skip)))
 (.ops [
 ⟨some 45, .move (.tmp 9), 3, none⟩,
 ⟨some 46, .binOp .add 3 (.tmp 45) (.const (.int .i64 1)) 3, 3, none⟩,
 ⟨some 9, .assign (.tmp 46), 3, none⟩]))
def k109_l0 : SC := .loop k109_l0b
def k109_l1b : SC :=
 .seq
 (.ops [
 ⟨some 13, .binOp .lss 3 (.tmp 12) (.tmp 11) 3, 0, none⟩])
 (.seq
 (.cond (.tmp 13)
 .skip
 (.exit 0))
 (.seq
 (.block 1
 (.seq
 (.ops [
 ⟨some 14, .move (.tmp 12), 3, none⟩,
 ⟨some 15, .indexAddr 44 (.tmp 10) (.tmp 12), 0, none⟩,
 ⟨some 16, .load 23 (.tmp 15), 23, none⟩,
 ⟨some 7, .assign (.tmp 14), 3, none⟩,
 ⟨some 8, .assign (.tmp 16), 23, none⟩])
 (.seq
 (.seq
 (.ops [
 ⟨some 17, .move (.tmp 8), 23, none⟩,
 ⟨some 18, .call ⟨(.builtin .len), #[(.tmp 17)], #[23]⟩, 3, none⟩,
 ⟨some 19, .move (.tmp 1), 3, none⟩,
 ⟨some 20, .binOp .neq 3 (.tmp 18) (.tmp 19) 3, 4, none⟩,
 ⟨some 21, .move (.tmp 20), 4, none⟩,
 ⟨some 22, .move (.tmp 8), 23, (some (some 21, false))⟩,
 ⟨some 23, .move (.tmp 2), 3, (some (some 21, false))⟩,
 ⟨some 24, .binOp .sub 3 (.tmp 23) (.const (.int .i64 1)) 3, 3, (some (some 21, false))⟩,
 ⟨some 25, .call ⟨(.value (.func 72)), #[(.tmp 22), (.const (.int .i64 0)), (.tmp 24)], #[23, 3, 3]⟩, 4, (some (some 21, false))⟩,
 ⟨some 26, .unOp .not 4 (.tmp 25), 4, (some (some 21, false))⟩,
 ⟨some 27, .pick (.tmp 21) (.const (.bool true)) (.tmp 26), 4, none⟩,
 ⟨some 28, .move (.tmp 27), 4, none⟩,
 ⟨some 29, .move (.tmp 7), 3, (some (some 28, false))⟩,
 ⟨some 30, .binOp .gtr 3 (.tmp 29) (.const (.int .i64 0)) 3, 4, (some (some 28, false))⟩,
 ⟨some 31, .move (.tmp 30), 4, (some (some 28, false))⟩,
 ⟨some 32, .move (.tmp 0), 44, (some (some 31, true))⟩,
 ⟨some 33, .move (.tmp 7), 3, (some (some 31, true))⟩,
 ⟨some 34, .binOp .sub 3 (.tmp 33) (.const (.int .i64 1)) 3, 3, (some (some 31, true))⟩,
 ⟨some 35, .indexAddr 44 (.tmp 32) (.tmp 34), 0, (some (some 31, true))⟩,
 ⟨some 36, .load 23 (.tmp 35), 23, (some (some 31, true))⟩,
 ⟨some 37, .move (.tmp 8), 23, (some (some 31, true))⟩,
 ⟨some 38, .call ⟨(.value (.func 138)), #[(.tmp 36), (.tmp 37)], #[23, 23]⟩, 3, (some (some 31, true))⟩,
 ⟨some 39, .binOp .geq 3 (.tmp 38) (.const (.int .i64 0)) 3, 4, (some (some 31, true))⟩,
 ⟨some 40, .pick (.tmp 31) (.tmp 39) (.const (.bool false)), 4, (some (some 28, false))⟩,
 ⟨some 41, .pick (.tmp 28) (.const (.bool true)) (.tmp 40), 4, none⟩])
 (.cond (.tmp 41)
 (.seq
 (.ops [
 ⟨some 6, .assign (.const (.bool false)), 4, none⟩])
 .ret)
 .skip))
 (.seq
 (.ops [
 ⟨some 9, .assign (.const (.int .i64 1)), 3, none⟩])
 (.block 2
 k109_l0)))))
 (.ops [
 ⟨some 57, .binOp .add 3 (.tmp 12) (.const (.int .i64 1)) 3, 3, none⟩,
 ⟨some 12, .move (.tmp 57), 3, none⟩])))
def k109_l1 : SC := .loop k109_l1b
def k109 : SC :=
 .seq
 (.ops [
 ⟨some 6, .assign (.const (.bool false)), 4, none⟩])
 (.seq
 (.seq
 (.ops [
 ⟨some 10, .move (.tmp 0), 44, none⟩,
 ⟨some 11, .call ⟨(.builtin .len), #[(.tmp 10)], #[44]⟩, 3, none⟩,
 ⟨some 12, .move (.const (.int .i64 0)), 3, none⟩])
 (.block 0
 k109_l1))
 (.seq
 (.ops [
 ⟨some 6, .assign (.const (.bool true)), 4, none⟩])
 .ret))
theorem slim109 : Try.f109.body.map (slim lends) = some k109 := by kernel_rfl
theorem ok109 : fnOk Try.f109 3 = true := by kernel_rfl
theorem c109 {a l : List D} {r : D × List D} (h : wpD Y.env k109 (fin tys l.length [ResultVar.tmp 6] r) (entry a l)) (ha : a.length = 3) : Y.call 109 a l = some r :=
 call_slim (Y := Y) rfl Try.func109 (ha ▸ ok109) slim109 h
def sPL_l0_M (l : List (List Int)) (size labels t12_ k : Int) (s : St) : Prop := s.v 0 = D.sl 23 (lst (fun x => D.sl 3 (lst (D.int .i64) x)) l) ∧ s.v 1 = D.int .i64 size ∧ s.v 2 = D.int .i64 labels ∧ s.v 8 = D.sl 3 (lst (D.int .i64) (l.getD t12_.toNat default)) ∧ s.v 9 = D.int .i64 k ∧ s.v 10 = D.sl 23 (lst (fun x => D.sl 3 (lst (D.int .i64) x)) l) ∧ s.v 11 = D.int .i64 (l.length : Int) ∧ s.v 12 = D.int .i64 t12_
def sPL_l0_X (l : List (List Int)) (size labels t12_ : Int) (r : Unit ⊕ Unit) (ex : Ex) (s : St) : Prop := match r with
 | .inl q => ex = .ret ∧ s.v 6 = D.bool false
 | .inr q => ex = .exit 2 ∧ s.v 0 = D.sl 23 (lst (fun x => D.sl 3 (lst (D.int .i64) x)) l) ∧ s.v 1 = D.int .i64 size ∧ s.v 2 = D.int .i64 labels ∧ s.v 10 = D.sl 23 (lst (fun x => D.sl 3 (lst (D.int .i64) x)) l) ∧ s.v 11 = D.int .i64 (l.length : Int) ∧ s.v 12 = D.int .i64 t12_
theorem sPL_l0_wp (l : List (List Int)) (size labels t12_ : Int) {v : Int} {s : St} {r : Unit ⊕ Unit} (h : sPL_l0 l size labels t12_ v = some r) (hM : sPL_l0_M l size labels t12_ v s) : wpD Y.env k109_l0 (sPL_l0_X l size labels t12_ r) s := by
 unfold sPL_l0 at h
 refine wd_itO (c := k109_l0b) (fun v => sPL_l0_S l size labels t12_ v) (fun v s => sPL_l0_M l size labels t12_ v s) (sPL_l0_X l size labels t12_) ?_ h hM
 clear h hM s v r
 intro k s o hM h
 unfold sPL_l0_S at h
 unfold sPL_l0_M at hM
 obtain ⟨m0, m1, m2, m3, m4, m5, m6, m7⟩ := hM
 unfold k109_l0b
 by_cases e15 : k < size
 ·rw [if_pos e15] at h
  obtain ⟨e16, h⟩ := ckS h
  obtain ⟨e17, h⟩ := ckS h
  by_cases e18 : ((l.getD t12_.toNat default).getD k.toNat default) < ((l.getD t12_.toNat default).getD ((IntKind.i64.wrap (k - 1)).toNat) default)
  ·rw [if_pos e18] at h
   cases h
   simp (maxDischargeDepth := 9) only [↓xpre, xpost, xlst, xcore, yset, ↓reduceIte, Nat.reduceEqDiff, Nat.reduceLT, m1, m3, m4, e15, e16.1, e16.2, e17.1, e17.2, e18, sPL_l0_M, sPL_l0_X, sxR]
  ·rw [if_neg e18] at h
   cases h
   simp (maxDischargeDepth := 9) only [↓xpre, xpost, xlst, xcore, yset, ↓reduceIte, Nat.reduceEqDiff, Nat.reduceLT, m0, m1, m2, m3, m4, m5, m6, m7, e15, e16.1, e16.2, e17.1, e17.2, e18, sPL_l0_M, sxN]
 ·rw [if_neg e15] at h
  cases h
  simp (maxDischargeDepth := 9) only [↓xpre, xpost, yset, ↓reduceIte, Nat.reduceEqDiff, Nat.reduceLT, m0, m1, m2, m4, m5, m6, m7, e15, sPL_l0_M, sPL_l0_X, sxE]
def sPL_l1_M (l : List (List Int)) (size labels t12_ : Int) (s : St) : Prop := s.v 0 = D.sl 23 (lst (fun x => D.sl 3 (lst (D.int .i64) x)) l) ∧ s.v 1 = D.int .i64 size ∧ s.v 2 = D.int .i64 labels ∧ s.v 10 = D.sl 23 (lst (fun x => D.sl 3 (lst (D.int .i64) x)) l) ∧ s.v 11 = D.int .i64 (l.length : Int) ∧ s.v 12 = D.int .i64 t12_
def sPL_l1_X (l : List (List Int)) (size labels : Int) (r : Unit ⊕ Unit) (ex : Ex) (s : St) : Prop := match r with
 | .inl q => ex = .ret ∧ s.v 6 = D.bool false
 | .inr q => ex = .exit 0
theorem sPL_l1_wp (l : List (List Int)) (size labels : Int) {v : Int} {s : St} {r : Unit ⊕ Unit} (h : sPL_l1 l size labels v = some r) (hM : sPL_l1_M l size labels v s) : wpD Y.env k109_l1 (sPL_l1_X l size labels r) s := by
 unfold sPL_l1 at h
 refine wd_itO (c := k109_l1b) (fun v => sPL_l1_S l size labels v) (fun v s => sPL_l1_M l size labels v s) (sPL_l1_X l size labels) ?_ h hM
 clear h hM s v r
 intro t12_ s o hM h
 unfold sPL_l1_S at h
 unfold sPL_l1_M at hM
 obtain ⟨m0, m1, m2, m3, m4, m5⟩ := hM
 unfold k109_l1b
 by_cases e1 : t12_ < (l.length : Int)
 ·rw [if_pos e1] at h
  obtain ⟨e2, h⟩ := ckS h
  by_cases e3 : ((l.getD t12_.toNat default).length : Int) = size
  ·rw [if_pos e3] at h
   obtain ⟨e4, h⟩ := ckS h
   have c5 := s_l1All_cl (l.getD t12_.toNat default) (0 : Int) (IntKind.i64.wrap (labels - 1)) e4
   by_cases e6 : (allIn (l.getD t12_.toNat default) (0 : Int) (IntKind.i64.wrap (labels - 1))) = true
   ·rw [if_pos e6] at h
    by_cases e7 : 0 < t12_
    ·rw [if_pos e7] at h
     obtain ⟨e8, h⟩ := ckS h
     obtain ⟨e9, h⟩ := ckS h
     obtain ⟨e10, h⟩ := ckS h
     obtain ⟨e11, h⟩ := ckS h
     obtain ⟨e12, h⟩ := ckS h
     have c13 := s_prOrder_cl (l.getD ((IntKind.i64.wrap (t12_ - 1)).toNat) default) (l.getD t12_.toNat default) e9 e10 e11 e12
     by_cases e14 : 0 ≤ (cmpL (l.getD ((IntKind.i64.wrap (t12_ - 1)).toNat) default) (l.getD t12_.toNat default))
     ·rw [if_pos e14] at h
      cases h
      simp (maxDischargeDepth := 9) only [↓xpre, xpost, xlst, xc2, xcore, yset, ↓reduceIte, Nat.reduceEqDiff, Nat.reduceLT, Nat.reduceAdd, m0, m1, m2, m3, m4, m5, e1, e2.1, e2.2, decide_eq_true e3, c5, e6, e7, e8.1, e8.2, c13, e14, sPL_l1_M, sPL_l1_X, sxR]
     ·rw [if_neg e14] at h
      obtain ⟨r16_, hl16, h⟩ := bindS h
      try dsimp only at h
      simp (maxDischargeDepth := 9) only [↓xpre, xpost, xlst, xc2, xcore, yset, ↓reduceIte, Nat.reduceEqDiff, Nat.reduceLT, Nat.reduceAdd, m0, m1, m2, m3, m4, m5, e1, e2.1, e2.2, decide_eq_true e3, c5, e6, e7, e8.1, e8.2, c13, e14]
      refine wd_mono (sPL_l0_wp l size labels t12_ hl16 ?_) ?_
      ·simp (maxDischargeDepth := 9) only [xpost, ↓reduceIte, Nat.reduceEqDiff, m0, m1, m2, m3, m4, m5, sPL_l0_M]
      ·intro ex16 s16 hX16
       rcases r16_ with q16_ | q16_
       ·unfold sPL_l0_X at hX16
        dsimp only at hX16 h
        obtain ⟨rfl, n16_0⟩ := hX16
        cases h
        simp (maxDischargeDepth := 9) only [↓xpre, xpost, n16_0, sPL_l1_M, sPL_l1_X, sxR]
       ·unfold sPL_l0_X at hX16
        dsimp only at hX16 h
        obtain ⟨rfl, n16_0, n16_1, n16_2, n16_3, n16_4, n16_5⟩ := hX16
        cases h
        simp (maxDischargeDepth := 9) only [↓xpre, xpost, yset, ↓reduceIte, Nat.reduceEqDiff, Nat.reduceLT, n16_0, n16_1, n16_2, n16_3, n16_4, n16_5, sPL_l1_M, sxN]
    ·rw [if_neg e7] at h
     obtain ⟨r9_, hl9, h⟩ := bindS h
     try dsimp only at h
     simp (maxDischargeDepth := 9) only [↓xpre, xpost, xlst, xc2, xcore, yset, ↓reduceIte, Nat.reduceEqDiff, Nat.reduceLT, Nat.reduceAdd, m1, m2, m3, m4, m5, e1, e2.1, e2.2, decide_eq_true e3, c5, e6, e7]
     refine wd_mono (sPL_l0_wp l size labels t12_ hl9 ?_) ?_
     ·simp (maxDischargeDepth := 9) only [xpost, ↓reduceIte, Nat.reduceEqDiff, m0, m1, m2, m3, m4, m5, sPL_l0_M]
     ·intro ex9 s9 hX9
      rcases r9_ with q9_ | q9_
      ·unfold sPL_l0_X at hX9
       dsimp only at hX9 h
       obtain ⟨rfl, n9_0⟩ := hX9
       cases h
       simp (maxDischargeDepth := 9) only [↓xpre, xpost, n9_0, sPL_l1_M, sPL_l1_X, sxR]
      ·unfold sPL_l0_X at hX9
       dsimp only at hX9 h
       obtain ⟨rfl, n9_0, n9_1, n9_2, n9_3, n9_4, n9_5⟩ := hX9
       cases h
       simp (maxDischargeDepth := 9) only [↓xpre, xpost, yset, ↓reduceIte, Nat.reduceEqDiff, Nat.reduceLT, n9_0, n9_1, n9_2, n9_3, n9_4, n9_5, sPL_l1_M, sxN]
   ·rw [if_neg e6] at h
    have e6f : (allIn (l.getD t12_.toNat default) (0 : Int) (IntKind.i64.wrap (labels - 1))) = false := Bool.eq_false_iff.mpr e6
    cases h
    simp (maxDischargeDepth := 9) only [↓xpre, xpost, xlst, xc2, xcore, yset, ↓reduceIte, Nat.reduceEqDiff, Nat.reduceLT, Nat.reduceAdd, m1, m2, m3, m4, m5, e1, e2.1, e2.2, decide_eq_true e3, c5, e6f, sPL_l1_M, sPL_l1_X, sxR]
  ·rw [if_neg e3] at h
   cases h
   simp (maxDischargeDepth := 9) only [↓xpre, xpost, xlst, xcore, yset, ↓reduceIte, Nat.reduceEqDiff, Nat.reduceLT, m1, m3, m4, m5, e1, e2.1, e2.2, e3, sPL_l1_M, sPL_l1_X, sxR]
 ·rw [if_neg e1] at h
  cases h
  simp (maxDischargeDepth := 9) only [↓xpre, xpost, yset, ↓reduceIte, Nat.reduceLT, m4, m5, e1, sPL_l1_M, sPL_l1_X, sxE]
theorem sPL_call (l : List (List Int)) (size labels : Int) {r : Bool} (h : sPL l size labels = some r) : Y.call 109 [D.sl 23 (lst (fun x => D.sl 3 (lst (D.int .i64) x)) l), D.int .i64 size, D.int .i64 labels] [] = some (D.bool r, []) := by
 refine c109 ?_ rfl
 unfold k109
 unfold sPL at h
 obtain ⟨r2_, hl2, h⟩ := bindS h
 try dsimp only at h
 simp (maxDischargeDepth := 9) only [↓xpre, xpost, xlst, xcore, yset, ↓reduceIte, Nat.reduceEqDiff, Nat.reduceLT]
 refine wd_mono (sPL_l1_wp l size labels hl2 ?_) ?_
 ·simp (maxDischargeDepth := 9) only [xpost, xcore, ↓reduceIte, Nat.reduceEqDiff, Nat.reduceLT, sPL_l1_M]
 ·intro ex2 s2 hX2
  rcases r2_ with q2_ | q2_
  ·unfold sPL_l1_X at hX2
   dsimp only at hX2 h
   obtain ⟨rfl, n2_0⟩ := hX2
   cases h
   simp (maxDischargeDepth := 9) only [↓xpre, xpost, xcore, ↓reduceIte, n2_0]
  ·unfold sPL_l1_X at hX2
   dsimp only at hX2 h
   obtain rfl := hX2
   cases h
   simp (maxDischargeDepth := 9) only [↓xpre, xpost, xcore, yset, ↓reduceIte, Nat.reduceEqDiff, Nat.reduceLT]

theorem prLists_l0_eq (l : List (List Int)) (size labels t : Int) (x : List Int) (hx : l.getD t.toNat default = x) (hs : (x.length : Int) = size) (hb : x.length < 1099511627776) :
  sPL_l0 l size labels t 1 = some (if sortedB x = true then .inr () else .inl ()) := by
 unfold sPL_l0
 rcases Nat.eq_zero_or_pos x.length with h0 | h0
 ·rw [itO_inr (r := Sum.inr ())]
  ·simp [sortedB, h0]
  ·simp only [sPL_l0_S]; rw [if_neg (by omega)]
 ·have key := itO_all (fun v => sPL_l0_S l size labels t v) (fun j => (j : Int) + 1) (x.length - 1) (fun i => decide (x.getD i default ≤ x.getD (i + 1) default)) (.inl ()) (.inr ()) ?_ ?_
  ·simp only [Int.natCast_zero, Int.zero_add] at key
   rw [key]; rfl
  ·intro i hi
   simp only [sPL_l0_S]
   rw [hx, if_pos (by omega), wr64 _ (by omega), wr64 _ (by omega), ckT (by omega), ckT (by omega), show ((i : Int) + 1).toNat = i + 1 by omega, show ((i : Int) + 1 - 1).toNat = i by omega]
   simp only [decide_eq_true_eq]
   by_cases hq : x.getD (i + 1) default < x.getD i default
   ·rw [if_pos hq, if_neg (by omega)]
   ·rw [if_neg hq, if_pos (by omega)]; rfl
  ·simp only [sPL_l0_S]; rw [if_neg (by omega)]
theorem sPL_eq (l : List (List Int)) (size labels : Int) (h : Short l) (hl : 1 ≤ labels ∧ labels ≤ 8) : sPL l size labels = some (confs l size labels) := by
 have h1 := h.1
 unfold sPL sPL_l1
 have key := itO_all' (fun v => sPL_l1_S l size labels v) (fun i => (i : Int)) l.length (confAt l size labels) (.inl ()) (.inr ()) ?_ ?_
 ·simp only [Int.natCast_zero] at key
  rw [key]
  unfold confs
  cases (List.range l.length).all (confAt l size labels) <;> rfl
 ·intro i hi hp
  simp only [sPL_l1_S]
  rw [if_pos (lt_nat hi), ckT (ix_nat hi), wrS i (by omega), wr64 (labels - 1) (by omega)]
  have hs := h.getD i
  have hs1 := h.getD (i - 1)
  rw [Int.toNat_natCast, ckT hs]
  by_cases q1 : ((l.getD i default).length : Int) = size
  ·rw [if_pos q1]
   have inner := prLists_l0_eq l size labels (i : Int) (l.getD i default) (by rw [Int.toNat_natCast]) q1 hs
   rw [inner]
   have hprev := hp (i - 1)
   unfold confAt at hprev ⊢
   generalize l.getD i default = x at *
   cases q3 : allIn x 0 (labels - 1) with
   | false => simp
   | true =>
    rw [if_pos rfl]
    by_cases q4 : i = 0
    ·rw [if_neg (by omega)]
     cases q2 : sortedB x <;> simp [q1, q4]
    ·rw [if_pos (by omega), wr64 _ (by omega), ckT (by omega), show ((i : Int) - 1).toNat = i - 1 by omega, ckT hs1]
     have hprev := hprev (by omega)
     generalize l.getD (i - 1) default = y at *
     simp only [Bool.and_eq_true, decide_eq_true_eq] at hprev
     rw [ckT (by omega), ckT (smallI_of hprev.1.2 (by omega) (by omega)), ckT (smallI_of q3 (by omega) (by omega))]
     by_cases q5 : 0 ≤ cmpL y x
     ·rw [if_pos q5, if_neg (by simp; intro _ _; exact ⟨q4, q5⟩)]
     ·rw [if_neg q5]
      have q6 : cmpL y x < 0 := by omega
      cases q2 : sortedB x <;> simp [q1, q6]
  ·have e := decide_eq_false q1
   unfold confAt
   rw [if_neg q1, if_neg (by rw [e]; simp)]
 ·intro _
  simp only [sPL_l1_S]; rw [if_neg (not_lt_nat _)]
theorem sPL_cl (l : List (List Int)) (size labels : Int) (h0 : Short l) (h1 : 1 ≤ labels ∧ labels ≤ 8) : Y.call 109 [D.sl 23 (lst (fun x => D.sl 3 (lst (D.int .i64) x)) l), D.int .i64 size, D.int .i64 labels] [] = some (D.bool (confs l size labels), []) := sPL_call l size labels (sPL_eq l size labels h0 h1)
noncomputable def i_IsProblem (pL pD : Int) (pN pE : List (List Int)) : Option (Bool) :=
 if (inR pL (1 : Int) (8 : Int)) = true then
  if (inR pD (1 : Int) (4 : Int)) = true then
   ck (Short pN) <|
   ck (1 ≤ pL ∧ pL ≤ 8) <|
   if (confs pN pD pL) = true then
    ck (Short pE) <|
    some (confs pE (2 : Int) pL)
   else
    some false
  else
   some false
 else
  some false
/-- impl.IsProblem -/
def k60 : SC :=
 .seq
 (.ops [
 ⟨some 1, .box 50 (.tmp 0), 0, none⟩,
 ⟨some 2, .assign (.const (.bool false)), 4, none⟩])
 (.seq
 (.ops [
 ⟨some 3, .fieldAddr 50 (.tmp 1) 0, 0, none⟩,
 ⟨some 4, .load 3 (.tmp 3), 3, none⟩,
 ⟨some 5, .call ⟨(.value (.func 77)), #[(.tmp 4), (.const (.int .i64 1)), (.const (.int .i64 8))], #[3, 3, 3]⟩, 4, none⟩,
 ⟨some 6, .move (.tmp 5), 4, none⟩,
 ⟨some 7, .fieldAddr 50 (.tmp 1) 1, 0, (some (some 6, true))⟩,
 ⟨some 8, .load 3 (.tmp 7), 3, (some (some 6, true))⟩,
 ⟨some 9, .call ⟨(.value (.func 77)), #[(.tmp 8), (.const (.int .i64 1)), (.const (.int .i64 4))], #[3, 3, 3]⟩, 4, (some (some 6, true))⟩,
 ⟨some 10, .pick (.tmp 6) (.tmp 9) (.const (.bool false)), 4, none⟩,
 ⟨some 11, .move (.tmp 10), 4, none⟩,
 ⟨some 12, .fieldAddr 50 (.tmp 1) 2, 0, (some (some 11, true))⟩,
 ⟨some 13, .load 44 (.tmp 12), 44, (some (some 11, true))⟩,
 ⟨some 14, .fieldAddr 50 (.tmp 1) 1, 0, (some (some 11, true))⟩,
 ⟨some 15, .load 3 (.tmp 14), 3, (some (some 11, true))⟩,
 ⟨some 16, .fieldAddr 50 (.tmp 1) 0, 0, (some (some 11, true))⟩,
 ⟨some 17, .load 3 (.tmp 16), 3, (some (some 11, true))⟩,
 ⟨some 18, .call ⟨(.value (.func 113)), #[(.tmp 13), (.tmp 15), (.tmp 17)], #[44, 3, 3]⟩, 4, (some (some 11, true))⟩,
 ⟨some 19, .pick (.tmp 11) (.tmp 18) (.const (.bool false)), 4, none⟩,
 ⟨some 20, .move (.tmp 19), 4, none⟩,
 ⟨some 21, .fieldAddr 50 (.tmp 1) 3, 0, (some (some 20, true))⟩,
 ⟨some 22, .load 44 (.tmp 21), 44, (some (some 20, true))⟩,
 ⟨some 23, .fieldAddr 50 (.tmp 1) 0, 0, (some (some 20, true))⟩,
 ⟨some 24, .load 3 (.tmp 23), 3, (some (some 20, true))⟩,
 ⟨some 25, .call ⟨(.value (.func 113)), #[(.tmp 22), (.const (.int .i64 2)), (.tmp 24)], #[44, 3, 3]⟩, 4, (some (some 20, true))⟩,
 ⟨some 26, .pick (.tmp 20) (.tmp 25) (.const (.bool false)), 4, none⟩,
 ⟨some 2, .assign (.tmp 26), 4, none⟩])
 .ret)
theorem slim60 : Try.f60.body.map (slim lends) = some k60 := by kernel_rfl
theorem ok60 : fnOk Try.f60 1 = true := by kernel_rfl
theorem c60 {a l : List D} {r : D × List D} (h : wpD Y.env k60 (fin tys l.length [ResultVar.tmp 2] r) (entry a l)) (ha : a.length = 1) : Y.call 60 a l = some r :=
 call_slim (Y := Y) rfl Try.func60 (ha ▸ ok60) slim60 h
theorem i_IsProblem_call (pL pD : Int) (pN pE : List (List Int)) {r : Bool} (h : i_IsProblem pL pD pN pE = some r) : Y.call 60 [D.agg [D.int .i64 pL, D.int .i64 pD, D.sl 23 (lst (fun x => D.sl 3 (lst (D.int .i64) x)) pN), D.sl 23 (lst (fun x => D.sl 3 (lst (D.int .i64) x)) pE)]] [] = some (D.bool r, []) := by
 refine c60 ?_ rfl
 unfold k60
 unfold i_IsProblem at h
 have c1 := i_within_cl pL (1 : Int) (8 : Int)
 by_cases e2 : (inR pL (1 : Int) (8 : Int)) = true
 ·rw [if_pos e2] at h
  have c3 := i_within_cl pD (1 : Int) (4 : Int)
  by_cases e4 : (inR pD (1 : Int) (4 : Int)) = true
  ·rw [if_pos e4] at h
   obtain ⟨e5, h⟩ := ckS h
   obtain ⟨e6, h⟩ := ckS h
   have c7 := iCO_cl pN pD pL e5 e6
   by_cases e8 : (confs pN pD pL) = true
   ·rw [if_pos e8] at h
    obtain ⟨e9, h⟩ := ckS h
    have c10 := iCO_cl pE (2 : Int) pL e9 e6
    cases h
    simp (maxDischargeDepth := 9) only [↓xpre, xpost, xc2, xcore, yset, ↓reduceIte, Nat.reduceEqDiff, Nat.reduceLT, Nat.reduceAdd, c1, e2, c3, e4, c7, e8, c10]
   ·rw [if_neg e8] at h
    have e8f : (confs pN pD pL) = false := Bool.eq_false_iff.mpr e8
    cases h
    simp (maxDischargeDepth := 9) only [↓xpre, xpost, xc2, xcore, yset, ↓reduceIte, Nat.reduceEqDiff, Nat.reduceLT, Nat.reduceAdd, c1, e2, c3, e4, c7, e8f]
  ·rw [if_neg e4] at h
   have e4f : (inR pD (1 : Int) (4 : Int)) = false := Bool.eq_false_iff.mpr e4
   cases h
   simp (maxDischargeDepth := 9) only [↓xpre, xpost, xc2, xcore, yset, ↓reduceIte, Nat.reduceEqDiff, Nat.reduceLT, Nat.reduceAdd, c1, e2, c3, e4f]
 ·rw [if_neg e2] at h
  have e2f : (inR pL (1 : Int) (8 : Int)) = false := Bool.eq_false_iff.mpr e2
  cases h
  simp (maxDischargeDepth := 9) only [↓xpre, xpost, xc2, xcore, yset, ↓reduceIte, Nat.reduceEqDiff, Nat.reduceLT, Nat.reduceAdd, c1, e2f]

noncomputable def s_prGood (pL pD : Int) (pN pE : List (List Int)) : Option (Bool) :=
 if (inR pL (1 : Int) (8 : Int)) = true then
  if (inR pD (1 : Int) (4 : Int)) = true then
   ck (Short pN) <|
   ck (1 ≤ pL ∧ pL ≤ 8) <|
   if (confs pN pD pL) = true then
    ck (Short pE) <|
    some (confs pE (2 : Int) pL)
   else
    some false
  else
   some false
 else
  some false
/-- spec.prGood -/
def k57 : SC :=
 .seq
 (.ops [
 ⟨some 1, .box 50 (.tmp 0), 0, none⟩,
 ⟨some 2, .assign (.const (.bool false)), 4, none⟩])
 (.seq
 (.ops [
 ⟨some 3, .fieldAddr 50 (.tmp 1) 0, 0, none⟩,
 ⟨some 4, .load 3 (.tmp 3), 3, none⟩,
 ⟨some 5, .call ⟨(.value (.func 43)), #[(.tmp 4), (.const (.int .i64 1)), (.const (.int .i64 8))], #[3, 3, 3]⟩, 4, none⟩,
 ⟨some 6, .move (.tmp 5), 4, none⟩,
 ⟨some 7, .fieldAddr 50 (.tmp 1) 1, 0, (some (some 6, true))⟩,
 ⟨some 8, .load 3 (.tmp 7), 3, (some (some 6, true))⟩,
 ⟨some 9, .call ⟨(.value (.func 43)), #[(.tmp 8), (.const (.int .i64 1)), (.const (.int .i64 4))], #[3, 3, 3]⟩, 4, (some (some 6, true))⟩,
 ⟨some 10, .pick (.tmp 6) (.tmp 9) (.const (.bool false)), 4, none⟩,
 ⟨some 11, .move (.tmp 10), 4, none⟩,
 ⟨some 12, .fieldAddr 50 (.tmp 1) 2, 0, (some (some 11, true))⟩,
 ⟨some 13, .load 44 (.tmp 12), 44, (some (some 11, true))⟩,
 ⟨some 14, .fieldAddr 50 (.tmp 1) 1, 0, (some (some 11, true))⟩,
 ⟨some 15, .load 3 (.tmp 14), 3, (some (some 11, true))⟩,
 ⟨some 16, .fieldAddr 50 (.tmp 1) 0, 0, (some (some 11, true))⟩,
 ⟨some 17, .load 3 (.tmp 16), 3, (some (some 11, true))⟩,
 ⟨some 18, .call ⟨(.value (.func 109)), #[(.tmp 13), (.tmp 15), (.tmp 17)], #[44, 3, 3]⟩, 4, (some (some 11, true))⟩,
 ⟨some 19, .pick (.tmp 11) (.tmp 18) (.const (.bool false)), 4, none⟩,
 ⟨some 20, .move (.tmp 19), 4, none⟩,
 ⟨some 21, .fieldAddr 50 (.tmp 1) 3, 0, (some (some 20, true))⟩,
 ⟨some 22, .load 44 (.tmp 21), 44, (some (some 20, true))⟩,
 ⟨some 23, .fieldAddr 50 (.tmp 1) 0, 0, (some (some 20, true))⟩,
 ⟨some 24, .load 3 (.tmp 23), 3, (some (some 20, true))⟩,
 ⟨some 25, .call ⟨(.value (.func 109)), #[(.tmp 22), (.const (.int .i64 2)), (.tmp 24)], #[44, 3, 3]⟩, 4, (some (some 20, true))⟩,
 ⟨some 26, .pick (.tmp 20) (.tmp 25) (.const (.bool false)), 4, none⟩,
 ⟨some 2, .assign (.tmp 26), 4, none⟩])
 .ret)
theorem slim57 : Try.f57.body.map (slim lends) = some k57 := by kernel_rfl
theorem ok57 : fnOk Try.f57 1 = true := by kernel_rfl
theorem c57 {a l : List D} {r : D × List D} (h : wpD Y.env k57 (fin tys l.length [ResultVar.tmp 2] r) (entry a l)) (ha : a.length = 1) : Y.call 57 a l = some r :=
 call_slim (Y := Y) rfl Try.func57 (ha ▸ ok57) slim57 h
theorem s_prGood_call (pL pD : Int) (pN pE : List (List Int)) {r : Bool} (h : s_prGood pL pD pN pE = some r) : Y.call 57 [D.agg [D.int .i64 pL, D.int .i64 pD, D.sl 23 (lst (fun x => D.sl 3 (lst (D.int .i64) x)) pN), D.sl 23 (lst (fun x => D.sl 3 (lst (D.int .i64) x)) pE)]] [] = some (D.bool r, []) := by
 refine c57 ?_ rfl
 unfold k57
 unfold s_prGood at h
 have c1 := s_l1In_cl pL (1 : Int) (8 : Int)
 by_cases e2 : (inR pL (1 : Int) (8 : Int)) = true
 ·rw [if_pos e2] at h
  have c3 := s_l1In_cl pD (1 : Int) (4 : Int)
  by_cases e4 : (inR pD (1 : Int) (4 : Int)) = true
  ·rw [if_pos e4] at h
   obtain ⟨e5, h⟩ := ckS h
   obtain ⟨e6, h⟩ := ckS h
   have c7 := sPL_cl pN pD pL e5 e6
   by_cases e8 : (confs pN pD pL) = true
   ·rw [if_pos e8] at h
    obtain ⟨e9, h⟩ := ckS h
    have c10 := sPL_cl pE (2 : Int) pL e9 e6
    cases h
    simp (maxDischargeDepth := 9) only [↓xpre, xpost, xc2, xcore, yset, ↓reduceIte, Nat.reduceEqDiff, Nat.reduceLT, Nat.reduceAdd, c1, e2, c3, e4, c7, e8, c10]
   ·rw [if_neg e8] at h
    have e8f : (confs pN pD pL) = false := Bool.eq_false_iff.mpr e8
    cases h
    simp (maxDischargeDepth := 9) only [↓xpre, xpost, xc2, xcore, yset, ↓reduceIte, Nat.reduceEqDiff, Nat.reduceLT, Nat.reduceAdd, c1, e2, c3, e4, c7, e8f]
  ·rw [if_neg e4] at h
   have e4f : (inR pD (1 : Int) (4 : Int)) = false := Bool.eq_false_iff.mpr e4
   cases h
   simp (maxDischargeDepth := 9) only [↓xpre, xpost, xc2, xcore, yset, ↓reduceIte, Nat.reduceEqDiff, Nat.reduceLT, Nat.reduceAdd, c1, e2, c3, e4f]
 ·rw [if_neg e2] at h
  have e2f : (inR pL (1 : Int) (8 : Int)) = false := Bool.eq_false_iff.mpr e2
  cases h
  simp (maxDischargeDepth := 9) only [↓xpre, xpost, xc2, xcore, yset, ↓reduceIte, Nat.reduceEqDiff, Nat.reduceLT, Nat.reduceAdd, c1, e2f]

theorem i_IsProblem_eq (a b : Int) (n e : List (List Int)) (hn : Short n) (he : Short e) : i_IsProblem a b n e = some (isProb a b n e) := by
 unfold i_IsProblem isProb
 by_cases h1 : inR a 1 8 = true
 ·have h1' := inR_iff.1 h1
  by_cases h2 : inR b 1 4 = true
  ·rw [if_pos h1, if_pos h2, ckT hn, ckT h1', ckT he]
   cases h3 : confs n b a <;> simp [h1, h2]
  ·rw [if_pos h1, if_neg h2]; simp [h2]
 ·rw [if_neg h1]; simp [h1]
theorem s_prGood_eq (a b : Int) (n e : List (List Int)) (hn : Short n) (he : Short e) : s_prGood a b n e = some (isProb a b n e) := by
 unfold s_prGood isProb
 by_cases h1 : inR a 1 8 = true
 ·have h1' := inR_iff.1 h1
  by_cases h2 : inR b 1 4 = true
  ·rw [if_pos h1, if_pos h2, ckT hn, ckT h1', ckT he]
   cases h3 : confs n b a <;> simp [h1, h2]
  ·rw [if_pos h1, if_neg h2]; simp [h2]
 ·rw [if_neg h1]; simp [h1]
theorem i_IsProblem_cl (pL pD : Int) (pN pE : List (List Int)) (h0 : Short pN) (h1 : Short pE) : Y.call 60 [D.agg [D.int .i64 pL, D.int .i64 pD, D.sl 23 (lst (fun x => D.sl 3 (lst (D.int .i64) x)) pN), D.sl 23 (lst (fun x => D.sl 3 (lst (D.int .i64) x)) pE)]] [] = some (D.bool (isProb pL pD pN pE), []) := i_IsProblem_call pL pD pN pE (i_IsProblem_eq pL pD pN pE h0 h1)
theorem s_prGood_cl (pL pD : Int) (pN pE : List (List Int)) (h0 : Short pN) (h1 : Short pE) : Y.call 57 [D.agg [D.int .i64 pL, D.int .i64 pD, D.sl 23 (lst (fun x => D.sl 3 (lst (D.int .i64) x)) pN), D.sl 23 (lst (fun x => D.sl 3 (lst (D.int .i64) x)) pE)]] [] = some (D.bool (isProb pL pD pN pE), []) := s_prGood_call pL pD pN pE (s_prGood_eq pL pD pN pE h0 h1)

end Go.Proofs.Ytipfckompmhljaa
