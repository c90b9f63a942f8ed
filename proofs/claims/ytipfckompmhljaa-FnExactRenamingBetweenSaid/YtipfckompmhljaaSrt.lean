/- Sorting by insertion, as a plain function. Conditions: the list is short. -/
import Derived.Test.YtipfckompmhljaaL6
import Derived.Test.YtipfckompmhljaaIsP
namespace Go.Proofs.Ytipfckompmhljaa
open Go Dv
set_option linter.unusedSimpArgs false
set_option linter.unusedVariables false
set_option maxRecDepth 100000
set_option maxHeartbeats 4000000

noncomputable def s_l1Own (l : List Int) : Option ((List Int)) :=
 ck (0 + l.length < 1099511627776) <|
 some l
/-- spec.l1Own -/
def k88 : SC :=
 .seq
 (.ops [
 ⟨some 2, .assign (.const (.slice none 0 0)), 23, none⟩])
 (.seq
 (.ops [
 ⟨some 3, .buildSlice 23 0 #[], 23, none⟩,
 ⟨some 4, .move (.tmp 0), 23, none⟩,
 ⟨some 5, .call ⟨(.builtin .append), #[(.tmp 3), (.tmp 4)], #[23, 23]⟩, 23, none⟩,
 ⟨some 2, .assign (.tmp 5), 23, none⟩])
 .ret)
theorem slim88 : Try.f88.body.map (slim lends) = some k88 := by kernel_rfl
theorem ok88 : fnOk Try.f88 1 = true := by kernel_rfl
theorem c88 {a l : List D} {r : D × List D} (h : wpD Y.env k88 (fin tys l.length [ResultVar.tmp 2] r) (entry a l)) (ha : a.length = 1) : Y.call 88 a l = some r :=
 call_slim (Y := Y) rfl Try.func88 (ha ▸ ok88) slim88 h
theorem s_l1Own_call (l : List Int) {r : (List Int)} (h : s_l1Own l = some r) : Y.call 88 [D.sl 3 (lst (D.int .i64) l)] [] = some (D.own 3 (lst (D.int .i64) r), []) := by
 refine c88 ?_ rfl
 unfold k88
 unfold s_l1Own at h
 obtain ⟨e1, h⟩ := ckS h
 cases h
 simp (maxDischargeDepth := 9) only [↓xpre, xpost, xlst, xcore, yset, ↓reduceIte, Nat.reduceEqDiff, Nat.reduceLT, Nat.reduceLeDiff, e1]

/-- A number put into a list, from the back. -/
def insR (x : Int) : List Int → List Int
 | [] => [x]
 | y :: r => if x < y then y :: insR x r else x :: y :: r
theorem insR_len (x : Int) : ∀ r, (insR x r).length = r.length + 1 := by
 intro r
 induction r with
 | nil => rfl
 | cons y r ih => unfold insR; split <;> simp [ih]
/-- The list sorted. -/
def sortI (l : List Int) : List Int := (l.foldl (fun r x => insR x r) []).reverse
noncomputable def sPS_l0_S (r1_ : (List Int)) (t11_ : Int) (out1 : List Int) (k : Int) : Option (((List Int) × Int) ⊕ ((List Int))) :=
 if 0 < k then
  ck (0 ≤ IntKind.i64.wrap (k - 1) ∧ (IntKind.i64.wrap (k - 1)).toNat < out1.length) <|
  ck (0 ≤ k ∧ k.toNat < out1.length) <|
  if (out1.getD k.toNat default) < (out1.getD ((IntKind.i64.wrap (k - 1)).toNat) default) then
   ck (0 ≤ IntKind.i64.wrap (k - 1) ∧ (IntKind.i64.wrap (k - 1)).toNat < (out1.set k.toNat (out1.getD ((IntKind.i64.wrap (k - 1)).toNat) default)).length) <|
   some (Sum.inl (((out1.set k.toNat (out1.getD ((IntKind.i64.wrap (k - 1)).toNat) default)).set ((IntKind.i64.wrap (k - 1)).toNat) (out1.getD k.toNat default)), IntKind.i64.wrap (k - 1)))
  else
   some (Sum.inr out1)
 else
  some (Sum.inr out1)
noncomputable def sPS_l0 (r1_ : (List Int)) (t11_ : Int) (v : (List Int) × Int) : Option ((List Int)) := itO (fun v => sPS_l0_S r1_ t11_ v.1 v.2) v
noncomputable def sPS_l1_S (r1_ : (List Int)) (out : List Int) (t11_ : Int) : Option (((List Int) × Int) ⊕ ((List Int))) :=
 if t11_ < (r1_.length : Int) then
  (sPS_l0 r1_ t11_ (out, t11_)).bind fun r4_ =>
  some (Sum.inl (r4_, IntKind.i64.wrap (t11_ + 1)))
 else
  some (Sum.inr out)
noncomputable def sPS_l1 (r1_ : (List Int)) (v : (List Int) × Int) : Option ((List Int)) := itO (fun v => sPS_l1_S r1_ v.1 v.2) v
noncomputable def sPS (l : List Int) : Option ((List Int)) :=
 (s_l1Own l).bind fun r1_ =>
 (sPS_l1 r1_ (r1_, 0)).bind fun r3_ =>
 some r3_
/-- spec.prSorted -/
def k140_l0b : SC :=
 .seq
 (.seq
 (.draws [
 (⟨[15, 5, 5], [15, 16, 17, 18, 19, 20, 21, 22, 23, 24, 25, 26, 27, 28], [15]⟩, ⟨some 15, .move (.tmp 5), 3, none⟩),
 (⟨[16, 15, 5], [15, 16, 17, 18, 19, 20, 21, 22, 23, 24, 25, 26, 27, 28], [16]⟩, ⟨some 16, .binOp .gtr 3 (.tmp 15) (.const (.int .i64 0)) 3, 4, none⟩),
 (⟨[17, 16, 16], [15, 16, 17, 18, 19, 20, 21, 22, 23, 24, 25, 26, 27, 28], [17]⟩, ⟨some 17, .move (.tmp 16), 4, none⟩),
 (⟨[18, 3, 3, 17], [15, 16, 17, 18, 19, 20, 21, 22, 23, 24, 25, 26, 27, 28], [18]⟩, ⟨some 18, .move (.tmp 3), 23, (some (some 17, true))⟩),
 (⟨[19, 5, 5, 17], [15, 16, 17, 18, 19, 20, 21, 22, 23, 24, 25, 26, 27, 28], [19]⟩, ⟨some 19, .move (.tmp 5), 3, (some (some 17, true))⟩),
 (⟨[20, 19, 5, 17], [15, 16, 17, 18, 19, 20, 21, 22, 23, 24, 25, 26, 27, 28], [20]⟩, ⟨some 20, .binOp .sub 3 (.tmp 19) (.const (.int .i64 1)) 3, 3, (some (some 17, true))⟩),
 (⟨[21, 18, 20, 3, 20, 17], [15, 16, 17, 18, 19, 20, 21, 22, 23, 24, 25, 26, 27, 28], [21]⟩, ⟨some 21, .indexAddr 23 (.tmp 18) (.tmp 20), 0, (some (some 17, true))⟩),
 (⟨[22, 21, 3, 17], [15, 16, 17, 18, 19, 20, 21, 22, 23, 24, 25, 26, 27, 28], [22]⟩, ⟨some 22, .load 3 (.tmp 21), 3, (some (some 17, true))⟩),
 (⟨[23, 3, 3, 17], [15, 16, 17, 18, 19, 20, 21, 22, 23, 24, 25, 26, 27, 28], [23]⟩, ⟨some 23, .move (.tmp 3), 23, (some (some 17, true))⟩),
 (⟨[24, 5, 5, 17], [15, 16, 17, 18, 19, 20, 21, 22, 23, 24, 25, 26, 27, 28], [24]⟩, ⟨some 24, .move (.tmp 5), 3, (some (some 17, true))⟩),
 (⟨[25, 23, 24, 3, 5, 17], [15, 16, 17, 18, 19, 20, 21, 22, 23, 24, 25, 26, 27, 28], [25]⟩, ⟨some 25, .indexAddr 23 (.tmp 23) (.tmp 24), 0, (some (some 17, true))⟩),
 (⟨[26, 25, 3, 17], [15, 16, 17, 18, 19, 20, 21, 22, 23, 24, 25, 26, 27, 28], [26]⟩, ⟨some 26, .load 3 (.tmp 25), 3, (some (some 17, true))⟩),
 (⟨[27, 22, 26, 3, 3, 17], [15, 16, 17, 18, 19, 20, 21, 22, 23, 24, 25, 26, 27, 28], [27]⟩, ⟨some 27, .binOp .gtr 3 (.tmp 22) (.tmp 26) 3, 4, (some (some 17, true))⟩),
 (⟨[28, 17, 27, 16, 27], [15, 16, 17, 18, 19, 20, 21, 22, 23, 24, 25, 26, 27, 28], [28]⟩, ⟨some 28, .pick (.tmp 17) (.tmp 27) (.const (.bool false)), 4, none⟩)])
 (.cond (.tmp 28)
 .skip
 (.exit 2)))
 (.seq
 (.block 3
 (.seq
 (.ops [
 ⟨some 31, .move (.tmp 3), 23, none⟩,
 ⟨some 32, .move (.tmp 5), 3, none⟩,
 ⟨some 33, .indexAddr 23 (.tmp 31) (.tmp 32), 0, none⟩,
 ⟨some 34, .load 3 (.tmp 33), 3, none⟩,
 ⟨some 6, .assign (.tmp 34), 3, none⟩])
 (.seq
 (.ops [
 ⟨some 35, .move (.tmp 3), 23, none⟩,
 ⟨some 36, .move (.tmp 5), 3, none⟩,
 ⟨some 37, .move (.tmp 3), 23, none⟩,
 ⟨some 38, .move (.tmp 5), 3, none⟩,
 ⟨some 39, .binOp .sub 3 (.tmp 38) (.const (.int .i64 1)) 3, 3, none⟩,
 ⟨some 40, .indexAddr 23 (.tmp 37) (.tmp 39), 0, none⟩,
 ⟨some 41, .load 3 (.tmp 40), 3, none⟩,
 ⟨some 42, .indexAddr 23 (.tmp 35) (.tmp 36), 0, none⟩,
 ⟨none, .store 3 (.tmp 42) (.tmp 41), 0, none⟩])
 (.ops [
 ⟨some 43, .move (.tmp 3), 23, none⟩,
 ⟨some 44, .move (.tmp 5), 3, none⟩,
 ⟨some 45, .binOp .sub 3 (.tmp 44) (.const (.int .i64 1)) 3, 3, none⟩,
 ⟨some 46, .move (.tmp 6), 3, none⟩,
 ⟨some 47, .indexAddr 23 (.tmp 43) (.tmp 45), 0, none⟩,
 ⟨none, .store 3 (.tmp 47) (.tmp 46), 0, none⟩]))))
 (.ops [
 ⟨some 29, .move (.tmp 5), 3, none⟩,
 ⟨some 30, .binOp .sub 3 (.tmp 29) (.const (.int .i64 1)) 3, 3, none⟩,
 ⟨some 5, .assign (.tmp 30), 3, none⟩]))
def k140_l0 : SC := .loop k140_l0b
def k140_l1b : SC :=
 .seq
 (.ops [
 ⟨some 12, .binOp .lss 3 (.tmp 11) (.tmp 10) 3, 0, none⟩])
 (.seq
 (.cond (.tmp 12)
 .skip
 (.exit 0))
 (.seq
 (.block 1
 (.seq
 (.ops [
 ⟨some 13, .move (.tmp 11), 3, none⟩,
 ⟨some 4, .assign (.tmp 13), 3, none⟩])
 (.seq
 (.ops [
 ⟨some 14, .move (.tmp 4), 3, none⟩,
 ⟨some 5, .assign (.tmp 14), 3, none⟩])
 (.block 2
 k140_l0))))
 (.ops [
 ⟨some 48, .binOp .add 3 (.tmp 11) (.const (.int .i64 1)) 3, 3, none⟩,
 ⟨some 11, .move (.tmp 48), 3, none⟩])))
def k140_l1 : SC := .loop k140_l1b
def k140 : SC :=
 .seq
 (.ops [
 ⟨some 2, .assign (.const (.slice none 0 0)), 23, none⟩])
 (.seq
 (.ops [
 ⟨some 7, .move (.tmp 0), 23, none⟩,
 ⟨some 8, .call ⟨(.value (.func 88)), #[(.tmp 7)], #[23]⟩, 23, none⟩,
 ⟨some 3, .assign (.tmp 8), 23, none⟩])
 (.seq
 (.seq
 (.ops [
 ⟨some 9, .move (.tmp 3), 23, none⟩,
 ⟨some 10, .call ⟨(.builtin .len), #[(.tmp 9)], #[23]⟩, 3, none⟩,
 ⟨some 11, .move (.const (.int .i64 0)), 3, none⟩])
 (.block 0
 k140_l1))
 (.seq
 (.ops [
 ⟨some 49, .move (.tmp 3), 23, none⟩,
 ⟨some 2, .assign (.tmp 49), 23, none⟩])
 .ret)))
theorem slim140 : Try.f140.body.map (slim lends) = some k140 := by kernel_rfl
theorem ok140 : fnOk Try.f140 1 = true := by kernel_rfl
theorem c140 {a l : List D} {r : D × List D} (h : wpD Y.env k140 (fin tys l.length [ResultVar.tmp 2] r) (entry a l)) (ha : a.length = 1) : Y.call 140 a l = some r :=
 call_slim (Y := Y) rfl Try.func140 (ha ▸ ok140) slim140 h
def sPS_l0_M (r1_ : (List Int)) (t11_ : Int) (out1 : List Int) (k : Int) (s : St) : Prop := s.v 3 = D.own 3 (lst (D.int .i64) out1) ∧ s.v 5 = D.int .i64 k ∧ s.v 10 = D.int .i64 (r1_.length : Int) ∧ s.v 11 = D.int .i64 t11_
def sPS_l0_X (r1_ : (List Int)) (t11_ : Int) (r : (List Int)) (ex : Ex) (s : St) : Prop := ex = .exit 2 ∧ s.v 3 = D.own 3 (lst (D.int .i64) r) ∧ s.v 10 = D.int .i64 (r1_.length : Int) ∧ s.v 11 = D.int .i64 t11_
theorem sPS_l0_wp (r1_ : (List Int)) (t11_ : Int) {v : (List Int) × Int} {s : St} {r : (List Int)} (h : sPS_l0 r1_ t11_ v = some r) (hM : sPS_l0_M r1_ t11_ v.1 v.2 s) : wpD Y.env k140_l0 (sPS_l0_X r1_ t11_ r) s := by
 unfold sPS_l0 at h
 refine wd_itO (c := k140_l0b) (fun v => sPS_l0_S r1_ t11_ v.1 v.2) (fun v s => sPS_l0_M r1_ t11_ v.1 v.2 s) (sPS_l0_X r1_ t11_) ?_ h hM
 clear h hM s v r
 intro v s o hM h
 obtain ⟨out1, k⟩ := v
 dsimp only at h hM
 unfold sPS_l0_S at h
 unfold sPS_l0_M at hM
 obtain ⟨m0, m1, m2, m3⟩ := hM
 unfold k140_l0b
 by_cases e3 : 0 < k
 ·rw [if_pos e3] at h
  obtain ⟨e4, h⟩ := ckS h
  obtain ⟨e5, h⟩ := ckS h
  by_cases e6 : (out1.getD k.toNat default) < (out1.getD ((IntKind.i64.wrap (k - 1)).toNat) default)
  ·rw [if_pos e6] at h
   obtain ⟨e7, h⟩ := ckS h
   cases h
   simp (maxDischargeDepth := 9) only [↓xpre, xpost, xlst, xc2, xcore, yset, ↓reduceIte, Nat.reduceEqDiff, Nat.reduceLT, Nat.reduceBEq, m0, m1, m2, m3, e3, e4.1, e4.2, e5.1, e5.2, e6, sPS_l0_M, sxN]
  ·rw [if_neg e6] at h
   cases h
   simp (maxDischargeDepth := 9) only [↓xpre, xpost, xlst, xcore, yset, ↓reduceIte, Nat.reduceEqDiff, Nat.reduceLT, Nat.reduceBEq, m0, m1, m2, m3, e3, e4.1, e4.2, e5.1, e5.2, e6, sPS_l0_M, sPS_l0_X, sxE]
 ·rw [if_neg e3] at h
  cases h
  simp (maxDischargeDepth := 9) only [↓xpre, xpost, yset, ↓reduceIte, Nat.reduceEqDiff, Nat.reduceLT, m0, m1, m2, m3, e3, sPS_l0_M, sPS_l0_X, sxE]
def sPS_l1_M (r1_ : (List Int)) (out : List Int) (t11_ : Int) (s : St) : Prop := s.v 3 = D.own 3 (lst (D.int .i64) out) ∧ s.v 10 = D.int .i64 (r1_.length : Int) ∧ s.v 11 = D.int .i64 t11_
def sPS_l1_X (r1_ : (List Int)) (r : (List Int)) (ex : Ex) (s : St) : Prop := ex = .exit 0 ∧ s.v 3 = D.own 3 (lst (D.int .i64) r)
theorem sPS_l1_wp (r1_ : (List Int)) {v : (List Int) × Int} {s : St} {r : (List Int)} (h : sPS_l1 r1_ v = some r) (hM : sPS_l1_M r1_ v.1 v.2 s) : wpD Y.env k140_l1 (sPS_l1_X r1_ r) s := by
 unfold sPS_l1 at h
 refine wd_itO (c := k140_l1b) (fun v => sPS_l1_S r1_ v.1 v.2) (fun v s => sPS_l1_M r1_ v.1 v.2 s) (sPS_l1_X r1_) ?_ h hM
 clear h hM s v r
 intro v s o hM h
 obtain ⟨out, t11_⟩ := v
 dsimp only at h hM
 unfold sPS_l1_S at h
 unfold sPS_l1_M at hM
 obtain ⟨m0, m1, m2⟩ := hM
 unfold k140_l1b
 by_cases e2 : t11_ < (r1_.length : Int)
 ·rw [if_pos e2] at h
  obtain ⟨r4_, hl4, h⟩ := bindS h
  try dsimp only at h
  simp (maxDischargeDepth := 9) only [↓xpre, xpost, yset, ↓reduceIte, Nat.reduceEqDiff, Nat.reduceLT, m1, m2, e2]
  refine wd_mono (sPS_l0_wp r1_ t11_ hl4 ?_) ?_
  ·simp (maxDischargeDepth := 9) only [xpost, ↓reduceIte, Nat.reduceEqDiff, m0, m1, m2, sPS_l0_M]
  ·intro ex4 s4 hX4
   unfold sPS_l0_X at hX4
   obtain ⟨rfl, n4_0, n4_1, n4_2⟩ := hX4
   cases h
   simp (maxDischargeDepth := 9) only [↓xpre, xpost, yset, ↓reduceIte, Nat.reduceEqDiff, Nat.reduceLT, n4_0, n4_1, n4_2, sPS_l1_M, sxN]
 ·rw [if_neg e2] at h
  cases h
  simp (maxDischargeDepth := 9) only [↓xpre, xpost, yset, ↓reduceIte, Nat.reduceEqDiff, Nat.reduceLT, m0, m1, m2, e2, sPS_l1_M, sPS_l1_X, sxE]
theorem sPS_call (l : List Int) {r : (List Int)} (h : sPS l = some r) : Y.call 140 [D.sl 3 (lst (D.int .i64) l)] [] = some (D.own 3 (lst (D.int .i64) r), []) := by
 refine c140 ?_ rfl
 unfold k140
 unfold sPS at h
 obtain ⟨r1_, hl1, h⟩ := bindS h
 try dsimp only at h
 have c1 := s_l1Own_call l hl1
 obtain ⟨r3_, hl3, h⟩ := bindS h
 try dsimp only at h
 simp (maxDischargeDepth := 9) only [↓xpre, xpost, xlst, xc2, xcore, yset, ↓reduceIte, Nat.reduceEqDiff, Nat.reduceLT, Nat.reduceAdd, c1]
 refine wd_mono (sPS_l1_wp r1_ hl3 ?_) ?_
 ·simp (maxDischargeDepth := 9) only [xpost, ↓reduceIte, Nat.reduceEqDiff, sPS_l1_M]
 ·intro ex3 s3 hX3
  unfold sPS_l1_X at hX3
  obtain ⟨rfl, n3_0⟩ := hX3
  cases h
  simp (maxDischargeDepth := 9) only [↓xpre, xpost, xlst, xcore, ↓reduceIte, Nat.reduceEqDiff, Nat.reduceLT, n3_0]

theorem prSorted_l0_eq (rr : List Int) (tt x : Int) : ∀ (r b : List Int), r.length < 1099511627776 → sPS_l0 rr tt (r.reverse ++ x :: b, (r.length : Int)) = some ((insR x r).reverse ++ b) := by
 intro r
 induction r with
 | nil =>
  intro b _
  unfold sPS_l0
  rw [itO_inr (r := x :: b)]
  ·rfl
  ·simp only [sPS_l0_S]; rw [if_neg (by simp)]; rfl
 | cons y r ih =>
  intro b hl
  simp only [List.length_cons] at hl
  have e0 : (y :: r).reverse ++ x :: b = r.reverse ++ y :: x :: b := by simp
  have el : (r.reverse ++ y :: x :: b).length = r.length + (b.length + 2) := by simp
  have e1 : (r.reverse ++ y :: x :: b).getD r.length default = y := by rw [getD_app_right r.reverse (y :: x :: b) r.length (by simp) (by simp)]; rfl
  have e2 : (r.reverse ++ y :: x :: b).getD (r.length + 1) default = x := by
   rw [show r.reverse ++ y :: x :: b = (r.reverse ++ [y]) ++ x :: b by simp, getD_app_right (r.reverse ++ [y]) (x :: b) (r.length + 1) (by simp) (by simp)]; rfl
  have t1 : ((r.length + 1 : Nat) : Int).toNat = r.length + 1 := by omega
  have t2 : (((r.length + 1 : Nat) : Int) - 1).toNat = r.length := by omega
  have s1 : (r.reverse ++ y :: x :: b).set (r.length + 1) y = r.reverse ++ y :: y :: b := by
   rw [List.set_append_right _ _ (by simp)]; simp
  have s2 : (r.reverse ++ y :: y :: b).set r.length x = r.reverse ++ x :: y :: b := by
   rw [List.set_append_right _ _ (by simp)]; simp
  unfold insR
  by_cases hq : x < y
  ·rw [if_pos hq]
   have := ih (y :: b) (by omega)
   unfold sPS_l0 at this ⊢
   rw [itO_inl (s' := (r.reverse ++ x :: y :: b, (r.length : Int))), this]
   ·simp
   ·simp only [sPS_l0_S]
    rw [e0, List.length_cons, if_pos (by omega), wr64 _ (by omega), ckT (by rw [el]; omega), ckT (by rw [el]; omega), t1, t2, e1, e2, if_pos hq, s1, ckT (by rw [List.length_append, List.length_cons, List.length_reverse]; omega), s2]
    rw [show ((r.length + 1 : Nat) : Int) - 1 = (r.length : Int) by omega]
  ·rw [if_neg hq]
   unfold sPS_l0
   rw [itO_inr (r := r.reverse ++ y :: x :: b)]
   ·simp
   ·simp only [sPS_l0_S]
    rw [e0, List.length_cons, if_pos (by omega), wr64 _ (by omega), ckT (by rw [el]; omega), ckT (by rw [el]; omega), t1, t2, e1, e2, if_neg hq]
theorem sPS_eq (l : List Int) (h : l.length < 1099511627776) : sPS l = some (sortI l) := by
 unfold sPS s_l1Own sPS_l1
 rw [ckT (by omega), Option.bind_some]
 have key := itO_fold (fun v => sPS_l1_S l v.1 v.2) (fun i r => (r.reverse ++ l.drop i, (i : Int))) (fun i r => r.length = i) l (fun r x => insR x r) (fun r => r.reverse) ?_ ?_ [] rfl
 ·have h1 := key.1
  simp only [List.reverse_nil, List.nil_append, List.drop_zero, Int.natCast_zero] at h1
  rw [h1]; rfl
 ·intro i r hi hr
  refine ⟨?_, by rw [insR_len, hr]⟩
  simp only [sPS_l1_S]
  rw [if_pos (lt_nat hi), List.drop_eq_getElem_cons hi]
  have := prSorted_l0_eq l (i : Int) l[i] r (l.drop (i + 1)) (by omega)
  rw [hr] at this
  rw [this, Option.bind_some, wrS i (by omega)]
 ·intro r hr
  simp only [sPS_l1_S]
  rw [if_neg (not_lt_nat _)]; simp
theorem sPS_cl (l : List Int) (h0 : l.length < 1099511627776) : Y.call 140 [D.sl 3 (lst (D.int .i64) l)] [] = some (D.own 3 (lst (D.int .i64) (sortI l)), []) := sPS_call l (sPS_eq l h0)

end Go.Proofs.Ytipfckompmhljaa
