/- Problems without weaker labels, lifted. Conditions: none. -/
import Derived.Test.YtdjfaadpmbkcmaaGreatL6
import Derived.Test.YtdjfaadpmbkcmaaGreatRnA
import Derived.Test.YtdjfaadpmbkcmaaGreatCon
import Derived.Test.YtdjfaadpmbkcmaaGreatRep
namespace Go.Proofs.YtdjfaadpmbkcmaaGreat
open Go Dv
set_option linter.unusedSimpArgs false
set_option linter.unusedVariables false
set_option maxRecDepth 100000
set_option maxHeartbeats 4000000

theorem g_slices_Clone_Sint_int_cl (xs : List Int) (h : xs.length < 1099511627776) : Y.call 65 [.sl 3 (lst (D.int .i64) xs)] [] = some (.own 3 (lst (D.int .i64) xs), []) := by
 refine clone_65 (lst (D.int .i64) xs) (by rw [lst_length]; exact h) (lst_solid _ _ (fun x => rfl)) (lst_hasObj _ _ (fun x => by first | exact hoI .. | exact hoSl .. | exact hoB .. | exact hoS ..)) ?_
 simp (maxDischargeDepth := 9) only [xpost, xlst, xcore]

noncomputable def i_replaces_l0_S (list : List (List Int)) (a b t13_ : Int) : Option ((Int) ⊕ (Unit ⊕ Unit)) :=
 if t13_ < (list.length : Int) then
  ck (0 ≤ t13_ ∧ t13_.toNat < list.length) <|
  (gIx (list.getD t13_.toNat default) a).bind fun r3_ =>
  if 0 ≤ r3_ then
   ck ((list.getD t13_.toNat default).length < 1099511627776) <|
   ck (0 ≤ r3_ ∧ r3_.toNat < (list.getD t13_.toNat default).length) <|
   ck (Short list) <|
   ck (((list.getD t13_.toNat default).set r3_.toNat b).length < 1099511627776) <|
   ck (incL list = true) <|
   if (list.contains (sortI ((list.getD t13_.toNat default).set r3_.toNat b))) = true then
    some (Sum.inl (IntKind.i64.wrap (t13_ + 1)))
   else
    some (Sum.inr (Sum.inl ()))
  else
   some (Sum.inl (IntKind.i64.wrap (t13_ + 1)))
 else
  some (Sum.inr (Sum.inr ()))
noncomputable def i_replaces_l0 (list : List (List Int)) (a b v : Int) : Option (Unit ⊕ Unit) := itO (fun v => i_replaces_l0_S list a b v) v
noncomputable def i_replaces (list : List (List Int)) (a b : Int) : Option (Bool) :=
 (i_replaces_l0 list a b 0).bind fun r2_ =>
 match r2_ with
 | .inl q2_ =>
  some false
 | .inr q2_ =>
  some true
/-- impl.replaces -/
def k45_l0b : SC :=
 .seq
 (.ops [
 ⟨some 14, .binOp .lss 3 (.tmp 13) (.tmp 12) 3, 0, none⟩])
 (.seq
 (.cond (.tmp 14)
 .skip
 (.exit 0))
 (.seq
 (.block 1
 (.seq
 (.ops [
 ⟨some 15, .indexAddr 22 (.tmp 11) (.tmp 13), 0, none⟩,
 ⟨some 16, .load 27 (.tmp 15), 27, none⟩,
 ⟨some 8, .assign (.tmp 16), 27, none⟩])
 (.seq
 (.ops [
 ⟨some 17, .move (.tmp 8), 27, none⟩,
 ⟨some 18, .move (.tmp 1), 3, none⟩,
 ⟨some 19, .call ⟨(.value (.func 66)), #[(.tmp 17), (.tmp 18)], #[27, 3]⟩, 3, none⟩,
 ⟨some 9, .assign (.tmp 19), 3, none⟩])
 (.seq
 (.ops [
 ⟨some 20, .move (.tmp 9), 3, none⟩,
 ⟨some 21, .binOp .geq 3 (.tmp 20) (.const (.int .i64 0)) 3, 4, none⟩])
 (.cond (.tmp 21)
 (.seq
 (.ops [
 ⟨some 22, .move (.tmp 8), 27, none⟩,
 ⟨some 23, .call ⟨(.value (.func 65)), #[(.tmp 22)], #[27]⟩, 27, none⟩,
 ⟨some 10, .assign (.tmp 23), 27, none⟩])
 (.seq
 (.ops [
 ⟨some 24, .move (.tmp 10), 27, none⟩,
 ⟨some 25, .move (.tmp 9), 3, none⟩,
 ⟨some 26, .move (.tmp 2), 3, none⟩,
 ⟨some 27, .indexAddr 27 (.tmp 24) (.tmp 25), 0, none⟩,
 ⟨none, .store 3 (.tmp 27) (.tmp 26), 0, none⟩])
 (.seq
 (.ops [
 ⟨some 28, .move (.tmp 0), 22, none⟩,
 ⟨some 29, .move (.tmp 10), 27, none⟩,
 ⟨some 30, .call ⟨(.value (.func 67)), #[(.tmp 28), (.tmp 29)], #[22, 27]⟩, 4, none⟩,
 ⟨some 31, .unOp .not 4 (.tmp 30), 4, none⟩])
 (.cond (.tmp 31)
 (.seq
 (.ops [
 ⟨some 6, .assign (.const (.bool false)), 4, none⟩])
 .ret)
 .skip))))
 .skip)))))
 (.ops [
 ⟨some 32, .binOp .add 3 (.tmp 13) (.const (.int .i64 1)) 3, 3, none⟩,
 ⟨some 13, .move (.tmp 32), 3, none⟩])))
def k45_l0 : SC := .loop k45_l0b
def k45 : SC :=
 .seq
 (.ops [
 ⟨some 6, .assign (.const (.bool false)), 4, none⟩])
 (.seq
 (.seq
 (.ops [
 ⟨some 11, .move (.tmp 0), 22, none⟩,
 ⟨some 12, .call ⟨(.builtin .len), #[(.tmp 11)], #[22]⟩, 3, none⟩,
 ⟨some 13, .move (.const (.int .i64 0)), 3, none⟩])
 (.block 0
 k45_l0))
 (.seq
 (.ops [
 ⟨some 6, .assign (.const (.bool true)), 4, none⟩])
 .ret))
theorem slim45 : Tryz.f45.body.map (slim lends) = some k45 := by kernel_rfl
theorem ok45 : fnOk Tryz.f45 3 = true := by kernel_rfl
theorem c45 {a l : List D} {r : D × List D} (h : wpD Y.env k45 (fin tys l.length [ResultVar.tmp 6] r) (entry a l)) (ha : a.length = 3) : Y.call 45 a l = some r :=
 call_slim (Y := Y) rfl Tryz.func45 (ha ▸ ok45) slim45 h
def i_replaces_l0_M (list : List (List Int)) (a b t13_ : Int) (s : St) : Prop := s.v 0 = D.sl 27 (lst (fun x => D.sl 3 (lst (D.int .i64) x)) list) ∧ s.v 1 = D.int .i64 a ∧ s.v 2 = D.int .i64 b ∧ s.v 11 = D.sl 27 (lst (fun x => D.sl 3 (lst (D.int .i64) x)) list) ∧ s.v 12 = D.int .i64 (list.length : Int) ∧ s.v 13 = D.int .i64 t13_
def i_replaces_l0_X (list : List (List Int)) (a b : Int) (r : Unit ⊕ Unit) (ex : Ex) (s : St) : Prop := match r with
 | .inl q => ex = .ret ∧ s.v 6 = D.bool false
 | .inr q => ex = .exit 0
theorem i_replaces_l0_wp (list : List (List Int)) (a b : Int) {v : Int} {s : St} {r : Unit ⊕ Unit} (h : i_replaces_l0 list a b v = some r) (hM : i_replaces_l0_M list a b v s) : wpD Y.env k45_l0 (i_replaces_l0_X list a b r) s := by
 unfold i_replaces_l0 at h
 refine wd_itO (c := k45_l0b) (fun v => i_replaces_l0_S list a b v) (fun v s => i_replaces_l0_M list a b v s) (i_replaces_l0_X list a b) ?_ h hM
 clear h hM s v r
 intro t13_ s o hM h
 unfold i_replaces_l0_S at h
 unfold i_replaces_l0_M at hM
 obtain ⟨m0, m1, m2, m3, m4, m5⟩ := hM
 unfold k45_l0b
 by_cases e1 : t13_ < (list.length : Int)
 ·rw [if_pos e1] at h
  obtain ⟨e2, h⟩ := ckS h
  obtain ⟨r3_, hl3, h⟩ := bindS h
  try dsimp only at h
  have c3 := gIx_call (list.getD t13_.toNat default) a hl3
  by_cases e4 : 0 ≤ r3_
  ·rw [if_pos e4] at h
   obtain ⟨e5, h⟩ := ckS h
   have c6 := g_slices_Clone_Sint_int_cl (list.getD t13_.toNat default) e5
   obtain ⟨e7, h⟩ := ckS h
   obtain ⟨e8, h⟩ := ckS h
   obtain ⟨e9, h⟩ := ckS h
   obtain ⟨e10, h⟩ := ckS h
   have c11 := i_hasConfiguration_cl list ((list.getD t13_.toNat default).set r3_.toNat b) e8 e9 e10
   by_cases e12 : (list.contains (sortI ((list.getD t13_.toNat default).set r3_.toNat b))) = true
   ·rw [if_pos e12] at h
    cases h
    simp (maxDischargeDepth := 9) only [↓xpre, xpost, xlst, xcore, yset, ↓reduceIte, Nat.reduceEqDiff, Nat.reduceLT, Nat.reduceAdd, m0, m1, m2, m3, m4, m5, e1, e2.1, e2.2, c3, e4, c6, e7.2, c11, e12, i_replaces_l0_M, sxN]
   ·rw [if_neg e12] at h
    have e12f : (list.contains (sortI ((list.getD t13_.toNat default).set r3_.toNat b))) = false := Bool.eq_false_iff.mpr e12
    cases h
    simp (maxDischargeDepth := 9) only [↓xpre, xpost, xlst, xcore, yset, ↓reduceIte, Nat.reduceEqDiff, Nat.reduceLT, Nat.reduceAdd, m0, m1, m2, m3, m4, m5, e1, e2.1, e2.2, c3, e4, c6, e7.2, c11, e12f, i_replaces_l0_M, i_replaces_l0_X, sxR]
  ·rw [if_neg e4] at h
   cases h
   simp (maxDischargeDepth := 9) only [↓xpre, xpost, xlst, xcore, yset, ↓reduceIte, Nat.reduceEqDiff, Nat.reduceLT, Nat.reduceAdd, m0, m1, m2, m3, m4, m5, e1, e2.1, e2.2, c3, e4, i_replaces_l0_M, sxN]
 ·rw [if_neg e1] at h
  cases h
  simp (maxDischargeDepth := 9) only [↓xpre, xpost, yset, ↓reduceIte, Nat.reduceLT, m4, m5, e1, i_replaces_l0_M, i_replaces_l0_X, sxE]
theorem i_replaces_call (list : List (List Int)) (a b : Int) {r : Bool} (h : i_replaces list a b = some r) : Y.call 45 [D.sl 27 (lst (fun x => D.sl 3 (lst (D.int .i64) x)) list), D.int .i64 a, D.int .i64 b] [] = some (D.bool r, []) := by
 refine c45 ?_ rfl
 unfold k45
 unfold i_replaces at h
 obtain ⟨r2_, hl2, h⟩ := bindS h
 try dsimp only at h
 simp (maxDischargeDepth := 9) only [↓xpre, xpost, xlst, xcore, yset, ↓reduceIte, Nat.reduceEqDiff, Nat.reduceLT]
 refine wd_mono (i_replaces_l0_wp list a b hl2 ?_) ?_
 ·simp (maxDischargeDepth := 9) only [xpost, xcore, ↓reduceIte, Nat.reduceEqDiff, Nat.reduceLT, i_replaces_l0_M]
 ·intro ex2 s2 hX2
  rcases r2_ with q2_ | q2_
  ·unfold i_replaces_l0_X at hX2
   dsimp only at hX2 h
   obtain ⟨rfl, n2_0⟩ := hX2
   cases h
   simp (maxDischargeDepth := 9) only [↓xpre, xpost, xcore, ↓reduceIte, n2_0]
  ·unfold i_replaces_l0_X at hX2
   dsimp only at hX2 h
   obtain rfl := hX2
   cases h
   simp (maxDischargeDepth := 9) only [↓xpre, xpost, xcore, yset, ↓reduceIte, Nat.reduceEqDiff, Nat.reduceLT]

noncomputable def s_reMay_l0_S (l : List (List Int)) (a b t14_ t20_ : Int) : Option ((Int) ⊕ (Unit ⊕ Unit)) :=
 if t20_ < ((l.getD t14_.toNat default).length : Int) then
  ck (0 ≤ t20_ ∧ t20_.toNat < (l.getD t14_.toNat default).length) <|
  if ((l.getD t14_.toNat default).getD t20_.toNat default) = a then
   (s_l1Own (l.getD t14_.toNat default)).bind fun r6_ =>
   ck (0 ≤ t20_ ∧ t20_.toNat < r6_.length) <|
   ck ((r6_.set t20_.toNat b).length < 1099511627776) <|
   ck (l.length < 1099511627776) <|
   ck ((sortI (r6_.set t20_.toNat b)).length < 1099511627776) <|
   if (l.contains (sortI (r6_.set t20_.toNat b))) = true then
    some (Sum.inl (IntKind.i64.wrap (t20_ + 1)))
   else
    some (Sum.inr (Sum.inl ()))
  else
   some (Sum.inl (IntKind.i64.wrap (t20_ + 1)))
 else
  some (Sum.inr (Sum.inr ()))
noncomputable def s_reMay_l0 (l : List (List Int)) (a b t14_ v : Int) : Option (Unit ⊕ Unit) := itO (fun v => s_reMay_l0_S l a b t14_ v) v
noncomputable def s_reMay_l1_S (l : List (List Int)) (a b t14_ : Int) : Option ((Int) ⊕ (Unit ⊕ Unit)) :=
 if t14_ < (l.length : Int) then
  ck (0 ≤ t14_ ∧ t14_.toNat < l.length) <|
  (s_reMay_l0 l a b t14_ 0).bind fun r4_ =>
  match r4_ with
  | .inl q4_ =>
   some (Sum.inr (Sum.inl ()))
  | .inr q4_ =>
   some (Sum.inl (IntKind.i64.wrap (t14_ + 1)))
 else
  some (Sum.inr (Sum.inr ()))
noncomputable def s_reMay_l1 (l : List (List Int)) (a b v : Int) : Option (Unit ⊕ Unit) := itO (fun v => s_reMay_l1_S l a b v) v
noncomputable def s_reMay (l : List (List Int)) (a b : Int) : Option (Bool) :=
 (s_reMay_l1 l a b 0).bind fun r2_ =>
 match r2_ with
 | .inl q2_ =>
  some false
 | .inr q2_ =>
  some true
/-- spec.reMay -/
def k39_l0b : SC :=
 .seq
 (.ops [
 ⟨some 21, .binOp .lss 3 (.tmp 20) (.tmp 19) 3, 0, none⟩])
 (.seq
 (.cond (.tmp 21)
 .skip
 (.exit 2))
 (.seq
 (.block 3
 (.seq
 (.ops [
 ⟨some 22, .move (.tmp 20), 3, none⟩,
 ⟨some 23, .indexAddr 27 (.tmp 18) (.tmp 20), 0, none⟩,
 ⟨some 24, .load 3 (.tmp 23), 3, none⟩,
 ⟨some 9, .assign (.tmp 22), 3, none⟩,
 ⟨some 10, .assign (.tmp 24), 3, none⟩])
 (.seq
 (.seq
 (.ops [
 ⟨some 25, .move (.tmp 10), 3, none⟩,
 ⟨some 26, .move (.tmp 1), 3, none⟩,
 ⟨some 27, .binOp .neq 3 (.tmp 25) (.tmp 26) 3, 4, none⟩])
 (.cond (.tmp 27)
 (.exit 3)
 .skip))
 (.seq
 (.ops [
 ⟨some 28, .move (.tmp 8), 27, none⟩,
 ⟨some 29, .call ⟨(.value (.func 58)), #[(.tmp 28)], #[27]⟩, 27, none⟩,
 ⟨some 11, .assign (.tmp 29), 27, none⟩])
 (.seq
 (.ops [
 ⟨some 30, .move (.tmp 11), 27, none⟩,
 ⟨some 31, .move (.tmp 9), 3, none⟩,
 ⟨some 32, .move (.tmp 2), 3, none⟩,
 ⟨some 33, .indexAddr 27 (.tmp 30) (.tmp 31), 0, none⟩,
 ⟨none, .store 3 (.tmp 33) (.tmp 32), 0, none⟩])
 (.seq
 (.ops [
 ⟨some 34, .move (.tmp 0), 22, none⟩,
 ⟨some 35, .move (.tmp 11), 27, none⟩,
 ⟨some 36, .call ⟨(.value (.func 60)), #[(.tmp 35)], #[27]⟩, 27, none⟩,
 ⟨some 37, .call ⟨(.value (.func 59)), #[(.tmp 34), (.tmp 36)], #[22, 27]⟩, 4, none⟩,
 ⟨some 38, .unOp .not 4 (.tmp 37), 4, none⟩])
 (.cond (.tmp 38)
 (.seq
 (.ops [
 ⟨some 6, .assign (.const (.bool false)), 4, none⟩])
 .ret)
 .skip)))))))
 (.ops [
 ⟨some 39, .binOp .add 3 (.tmp 20) (.const (.int .i64 1)) 3, 3, none⟩,
 ⟨some 20, .move (.tmp 39), 3, none⟩])))
def k39_l0 : SC := .loop k39_l0b
def k39_l1b : SC :=
 .seq
 (.ops [
 ⟨some 15, .binOp .lss 3 (.tmp 14) (.tmp 13) 3, 0, none⟩])
 (.seq
 (.cond (.tmp 15)
 .skip
 (.exit 0))
 (.seq
 (.block 1
 (.seq
 (.ops [
 ⟨some 16, .indexAddr 22 (.tmp 12) (.tmp 14), 0, none⟩,
 ⟨some 17, .load 27 (.tmp 16), 27, none⟩,
 ⟨some 8, .assign (.tmp 17), 27, none⟩])
 (.seq
 (.ops [
 ⟨some 18, .move (.tmp 8), 27, none⟩,
 ⟨some 19, .call ⟨(.builtin .len), #[(.tmp 18)], #[27]⟩, 3, none⟩,
 ⟨some 20, .move (.const (.int .i64 0)), 3, none⟩])
 (.block 2
 k39_l0))))
 (.ops [
 ⟨some 40, .binOp .add 3 (.tmp 14) (.const (.int .i64 1)) 3, 3, none⟩,
 ⟨some 14, .move (.tmp 40), 3, none⟩])))
def k39_l1 : SC := .loop k39_l1b
def k39 : SC :=
 .seq
 (.ops [
 ⟨some 6, .assign (.const (.bool false)), 4, none⟩])
 (.seq
 (.seq
 (.ops [
 ⟨some 12, .move (.tmp 0), 22, none⟩,
 ⟨some 13, .call ⟨(.builtin .len), #[(.tmp 12)], #[22]⟩, 3, none⟩,
 ⟨some 14, .move (.const (.int .i64 0)), 3, none⟩])
 (.block 0
 k39_l1))
 (.seq
 (.ops [
 ⟨some 6, .assign (.const (.bool true)), 4, none⟩])
 .ret))
theorem slim39 : Tryz.f39.body.map (slim lends) = some k39 := by kernel_rfl
theorem ok39 : fnOk Tryz.f39 3 = true := by kernel_rfl
theorem c39 {a l : List D} {r : D × List D} (h : wpD Y.env k39 (fin tys l.length [ResultVar.tmp 6] r) (entry a l)) (ha : a.length = 3) : Y.call 39 a l = some r :=
 call_slim (Y := Y) rfl Tryz.func39 (ha ▸ ok39) slim39 h
def s_reMay_l0_M (l : List (List Int)) (a b t14_ t20_ : Int) (s : St) : Prop := s.v 0 = D.sl 27 (lst (fun x => D.sl 3 (lst (D.int .i64) x)) l) ∧ s.v 1 = D.int .i64 a ∧ s.v 2 = D.int .i64 b ∧ s.v 8 = D.sl 3 (lst (D.int .i64) (l.getD t14_.toNat default)) ∧ s.v 12 = D.sl 27 (lst (fun x => D.sl 3 (lst (D.int .i64) x)) l) ∧ s.v 13 = D.int .i64 (l.length : Int) ∧ s.v 14 = D.int .i64 t14_ ∧ s.v 18 = D.sl 3 (lst (D.int .i64) (l.getD t14_.toNat default)) ∧ s.v 19 = D.int .i64 ((l.getD t14_.toNat default).length : Int) ∧ s.v 20 = D.int .i64 t20_
def s_reMay_l0_X (l : List (List Int)) (a b t14_ : Int) (r : Unit ⊕ Unit) (ex : Ex) (s : St) : Prop := match r with
 | .inl q => ex = .ret ∧ s.v 6 = D.bool false
 | .inr q => ex = .exit 2 ∧ s.v 0 = D.sl 27 (lst (fun x => D.sl 3 (lst (D.int .i64) x)) l) ∧ s.v 1 = D.int .i64 a ∧ s.v 2 = D.int .i64 b ∧ s.v 12 = D.sl 27 (lst (fun x => D.sl 3 (lst (D.int .i64) x)) l) ∧ s.v 13 = D.int .i64 (l.length : Int) ∧ s.v 14 = D.int .i64 t14_
theorem s_reMay_l0_wp (l : List (List Int)) (a b t14_ : Int) {v : Int} {s : St} {r : Unit ⊕ Unit} (h : s_reMay_l0 l a b t14_ v = some r) (hM : s_reMay_l0_M l a b t14_ v s) : wpD Y.env k39_l0 (s_reMay_l0_X l a b t14_ r) s := by
 unfold s_reMay_l0 at h
 refine wd_itO (c := k39_l0b) (fun v => s_reMay_l0_S l a b t14_ v) (fun v s => s_reMay_l0_M l a b t14_ v s) (s_reMay_l0_X l a b t14_) ?_ h hM
 clear h hM s v r
 intro t20_ s o hM h
 unfold s_reMay_l0_S at h
 unfold s_reMay_l0_M at hM
 obtain ⟨m0, m1, m2, m3, m4, m5, m6, m7, m8, m9⟩ := hM
 unfold k39_l0b
 by_cases e3 : t20_ < ((l.getD t14_.toNat default).length : Int)
 ·rw [if_pos e3] at h
  obtain ⟨e4, h⟩ := ckS h
  by_cases e5 : ((l.getD t14_.toNat default).getD t20_.toNat default) = a
  ·rw [if_pos e5] at h
   obtain ⟨r6_, hl6, h⟩ := bindS h
   try dsimp only at h
   have c6 := s_l1Own_call (l.getD t14_.toNat default) hl6
   obtain ⟨e7, h⟩ := ckS h
   obtain ⟨e8, h⟩ := ckS h
   have c9 := sPS_cl (r6_.set t20_.toNat b) e8
   obtain ⟨e10, h⟩ := ckS h
   obtain ⟨e11, h⟩ := ckS h
   have c12 := s_prHas_cl l (sortI (r6_.set t20_.toNat b)) e10 e11
   by_cases e13 : (l.contains (sortI (r6_.set t20_.toNat b))) = true
   ·rw [if_pos e13] at h
    cases h
    simp (maxDischargeDepth := 9) only [↓xpre, xpost, xlst, xcore, yset, ↓reduceIte, Nat.reduceEqDiff, Nat.reduceLT, Nat.reduceAdd, m0, m1, m2, m3, m4, m5, m6, m7, m8, m9, e3, e4.1, e4.2, decide_eq_true e5, c6, e7.2, c9, c12, e13, s_reMay_l0_M, sxN]
   ·rw [if_neg e13] at h
    have e13f : (l.contains (sortI (r6_.set t20_.toNat b))) = false := Bool.eq_false_iff.mpr e13
    cases h
    simp (maxDischargeDepth := 9) only [↓xpre, xpost, xlst, xcore, yset, ↓reduceIte, Nat.reduceEqDiff, Nat.reduceLT, Nat.reduceAdd, m0, m1, m2, m3, m7, m8, m9, e3, e4.1, e4.2, decide_eq_true e5, c6, e7.2, c9, c12, e13f, s_reMay_l0_M, s_reMay_l0_X, sxR]
  ·rw [if_neg e5] at h
   cases h
   simp (maxDischargeDepth := 9) only [↓xpre, xpost, xlst, xcore, yset, ↓reduceIte, Nat.reduceEqDiff, Nat.reduceLT, m0, m1, m2, m3, m4, m5, m6, m7, m8, m9, e3, e4.1, e4.2, e5, s_reMay_l0_M, sxN]
 ·rw [if_neg e3] at h
  cases h
  simp (maxDischargeDepth := 9) only [↓xpre, xpost, yset, ↓reduceIte, Nat.reduceEqDiff, Nat.reduceLT, m0, m1, m2, m4, m5, m6, m8, m9, e3, s_reMay_l0_M, s_reMay_l0_X, sxE]
def s_reMay_l1_M (l : List (List Int)) (a b t14_ : Int) (s : St) : Prop := s.v 0 = D.sl 27 (lst (fun x => D.sl 3 (lst (D.int .i64) x)) l) ∧ s.v 1 = D.int .i64 a ∧ s.v 2 = D.int .i64 b ∧ s.v 12 = D.sl 27 (lst (fun x => D.sl 3 (lst (D.int .i64) x)) l) ∧ s.v 13 = D.int .i64 (l.length : Int) ∧ s.v 14 = D.int .i64 t14_
def s_reMay_l1_X (l : List (List Int)) (a b : Int) (r : Unit ⊕ Unit) (ex : Ex) (s : St) : Prop := match r with
 | .inl q => ex = .ret ∧ s.v 6 = D.bool false
 | .inr q => ex = .exit 0
theorem s_reMay_l1_wp (l : List (List Int)) (a b : Int) {v : Int} {s : St} {r : Unit ⊕ Unit} (h : s_reMay_l1 l a b v = some r) (hM : s_reMay_l1_M l a b v s) : wpD Y.env k39_l1 (s_reMay_l1_X l a b r) s := by
 unfold s_reMay_l1 at h
 refine wd_itO (c := k39_l1b) (fun v => s_reMay_l1_S l a b v) (fun v s => s_reMay_l1_M l a b v s) (s_reMay_l1_X l a b) ?_ h hM
 clear h hM s v r
 intro t14_ s o hM h
 unfold s_reMay_l1_S at h
 unfold s_reMay_l1_M at hM
 obtain ⟨m0, m1, m2, m3, m4, m5⟩ := hM
 unfold k39_l1b
 by_cases e1 : t14_ < (l.length : Int)
 ·rw [if_pos e1] at h
  obtain ⟨e2, h⟩ := ckS h
  obtain ⟨r4_, hl4, h⟩ := bindS h
  try dsimp only at h
  simp (maxDischargeDepth := 9) only [↓xpre, xpost, xlst, xcore, yset, ↓reduceIte, Nat.reduceEqDiff, Nat.reduceLT, m3, m4, m5, e1, e2.1, e2.2]
  refine wd_mono (s_reMay_l0_wp l a b t14_ hl4 ?_) ?_
  ·simp (maxDischargeDepth := 9) only [xpost, ↓reduceIte, Nat.reduceEqDiff, m0, m1, m2, m3, m4, m5, s_reMay_l0_M]
  ·intro ex4 s4 hX4
   rcases r4_ with q4_ | q4_
   ·unfold s_reMay_l0_X at hX4
    dsimp only at hX4 h
    obtain ⟨rfl, n4_0⟩ := hX4
    cases h
    simp (maxDischargeDepth := 9) only [↓xpre, xpost, n4_0, s_reMay_l1_M, s_reMay_l1_X, sxR]
   ·unfold s_reMay_l0_X at hX4
    dsimp only at hX4 h
    obtain ⟨rfl, n4_0, n4_1, n4_2, n4_3, n4_4, n4_5⟩ := hX4
    cases h
    simp (maxDischargeDepth := 9) only [↓xpre, xpost, yset, ↓reduceIte, Nat.reduceEqDiff, Nat.reduceLT, n4_0, n4_1, n4_2, n4_3, n4_4, n4_5, s_reMay_l1_M, sxN]
 ·rw [if_neg e1] at h
  cases h
  simp (maxDischargeDepth := 9) only [↓xpre, xpost, yset, ↓reduceIte, Nat.reduceLT, m4, m5, e1, s_reMay_l1_M, s_reMay_l1_X, sxE]
theorem s_reMay_call (l : List (List Int)) (a b : Int) {r : Bool} (h : s_reMay l a b = some r) : Y.call 39 [D.sl 27 (lst (fun x => D.sl 3 (lst (D.int .i64) x)) l), D.int .i64 a, D.int .i64 b] [] = some (D.bool r, []) := by
 refine c39 ?_ rfl
 unfold k39
 unfold s_reMay at h
 obtain ⟨r2_, hl2, h⟩ := bindS h
 try dsimp only at h
 simp (maxDischargeDepth := 9) only [↓xpre, xpost, xlst, xcore, yset, ↓reduceIte, Nat.reduceEqDiff, Nat.reduceLT]
 refine wd_mono (s_reMay_l1_wp l a b hl2 ?_) ?_
 ·simp (maxDischargeDepth := 9) only [xpost, xcore, ↓reduceIte, Nat.reduceEqDiff, Nat.reduceLT, s_reMay_l1_M]
 ·intro ex2 s2 hX2
  rcases r2_ with q2_ | q2_
  ·unfold s_reMay_l1_X at hX2
   dsimp only at hX2 h
   obtain ⟨rfl, n2_0⟩ := hX2
   cases h
   simp (maxDischargeDepth := 9) only [↓xpre, xpost, xcore, ↓reduceIte, n2_0]
  ·unfold s_reMay_l1_X at hX2
   dsimp only at hX2 h
   obtain rfl := hX2
   cases h
   simp (maxDischargeDepth := 9) only [↓xpre, xpost, xcore, yset, ↓reduceIte, Nat.reduceEqDiff, Nat.reduceLT]

noncomputable def i_weakest_l0_S (pL pD : Int) (pN pE : List (List Int)) (t7_ t12_ : Int) : Option ((Int) ⊕ (Unit ⊕ Unit)) :=
 if t12_ < pL then
  if t7_ = t12_ then
   some (Sum.inl (IntKind.i64.wrap (t12_ + 1)))
  else
   (i_replaces pN t7_ t12_).bind fun r4_ =>
   if r4_ = true then
    (i_replaces pE t7_ t12_).bind fun r6_ =>
    if r6_ = true then
     some (Sum.inr (Sum.inl ()))
    else
     some (Sum.inl (IntKind.i64.wrap (t12_ + 1)))
   else
    some (Sum.inl (IntKind.i64.wrap (t12_ + 1)))
 else
  some (Sum.inr (Sum.inr ()))
noncomputable def i_weakest_l0 (pL pD : Int) (pN pE : List (List Int)) (t7_ v : Int) : Option (Unit ⊕ Unit) := itO (fun v => i_weakest_l0_S pL pD pN pE t7_ v) v
noncomputable def i_weakest_l1_S (pL pD : Int) (pN pE : List (List Int)) (t7_ : Int) : Option ((Int) ⊕ (Int ⊕ Unit)) :=
 if t7_ < pL then
  (i_weakest_l0 pL pD pN pE t7_ 0).bind fun r3_ =>
  match r3_ with
  | .inl q3_ =>
   some (Sum.inr (Sum.inl t7_))
  | .inr q3_ =>
   some (Sum.inl (IntKind.i64.wrap (t7_ + 1)))
 else
  some (Sum.inr (Sum.inr ()))
noncomputable def i_weakest_l1 (pL pD : Int) (pN pE : List (List Int)) (v : Int) : Option (Int ⊕ Unit) := itO (fun v => i_weakest_l1_S pL pD pN pE v) v
noncomputable def i_weakest (pL pD : Int) (pN pE : List (List Int)) : Option (Int) :=
 (i_weakest_l1 pL pD pN pE 0).bind fun r2_ =>
 match r2_ with
 | .inl q2_ =>
  some q2_
 | .inr q2_ =>
  some (-1)
/-- impl.weakest -/
def k27_l0b : SC :=
 .seq
 (.ops [
 ⟨some 13, .binOp .lss 3 (.tmp 12) (.tmp 11) 3, 4, none⟩])
 (.seq
 (.cond (.tmp 13)
 .skip
 (.exit 2))
 (.seq
 (.block 3
 (.seq
 (.ops [
 ⟨some 14, .move (.tmp 12), 3, none⟩,
 ⟨some 4, .assign (.tmp 14), 3, none⟩])
 (.seq
 (.ops [
 ⟨some 15, .move (.tmp 3), 3, none⟩,
 ⟨some 16, .move (.tmp 4), 3, none⟩,
 ⟨some 17, .binOp .neq 3 (.tmp 15) (.tmp 16) 3, 4, none⟩,
 ⟨some 18, .move (.tmp 17), 4, none⟩,
 ⟨some 19, .fieldAddr 26 (.tmp 1) 2, 0, (some (some 18, true))⟩,
 ⟨some 20, .load 22 (.tmp 19), 22, (some (some 18, true))⟩,
 ⟨some 21, .move (.tmp 3), 3, (some (some 18, true))⟩,
 ⟨some 22, .move (.tmp 4), 3, (some (some 18, true))⟩,
 ⟨some 23, .call ⟨(.value (.func 45)), #[(.tmp 20), (.tmp 21), (.tmp 22)], #[22, 3, 3]⟩, 4, (some (some 18, true))⟩,
 ⟨some 24, .pick (.tmp 18) (.tmp 23) (.const (.bool false)), 4, none⟩,
 ⟨some 25, .move (.tmp 24), 4, none⟩,
 ⟨some 26, .fieldAddr 26 (.tmp 1) 3, 0, (some (some 25, true))⟩,
 ⟨some 27, .load 22 (.tmp 26), 22, (some (some 25, true))⟩,
 ⟨some 28, .move (.tmp 3), 3, (some (some 25, true))⟩,
 ⟨some 29, .move (.tmp 4), 3, (some (some 25, true))⟩,
 ⟨some 30, .call ⟨(.value (.func 45)), #[(.tmp 27), (.tmp 28), (.tmp 29)], #[22, 3, 3]⟩, 4, (some (some 25, true))⟩,
 ⟨some 31, .pick (.tmp 25) (.tmp 30) (.const (.bool false)), 4, none⟩])
 (.cond (.tmp 31)
 (.seq
 (.ops [
 ⟨some 32, .move (.tmp 3), 3, none⟩,
 ⟨some 2, .assign (.tmp 32), 3, none⟩])
 .ret)
 .skip))))
 (.ops [
 ⟨some 33, .binOp .add 3 (.tmp 12) (.const (.int .i64 1)) 3, 3, none⟩,
 ⟨some 12, .move (.tmp 33), 3, none⟩])))
def k27_l0 : SC := .loop k27_l0b
def k27_l1b : SC :=
 .seq
 (.ops [
 ⟨some 8, .binOp .lss 3 (.tmp 7) (.tmp 6) 3, 4, none⟩])
 (.seq
 (.cond (.tmp 8)
 .skip
 (.exit 0))
 (.seq
 (.block 1
 (.seq
 (.ops [
 ⟨some 9, .move (.tmp 7), 3, none⟩,
 ⟨some 3, .assign (.tmp 9), 3, none⟩])
 (.seq
 (.ops [
 ⟨some 10, .fieldAddr 26 (.tmp 1) 0, 0, none⟩,
 ⟨some 11, .load 3 (.tmp 10), 3, none⟩,
 ⟨some 12, .move (.const (.int .i64 0)), 3, none⟩])
 (.block 2
 k27_l0))))
 (.ops [
 ⟨some 34, .binOp .add 3 (.tmp 7) (.const (.int .i64 1)) 3, 3, none⟩,
 ⟨some 7, .move (.tmp 34), 3, none⟩])))
def k27_l1 : SC := .loop k27_l1b
def k27 : SC :=
 .seq
 (.ops [
 ⟨some 1, .box 26 (.tmp 0), 0, none⟩,
 ⟨some 2, .assign (.const (.int .i64 0)), 3, none⟩])
 (.seq
 (.seq
 (.ops [
 ⟨some 5, .fieldAddr 26 (.tmp 1) 0, 0, none⟩,
 ⟨some 6, .load 3 (.tmp 5), 3, none⟩,
 ⟨some 7, .move (.const (.int .i64 0)), 3, none⟩])
 (.block 0
 k27_l1))
 (.seq
 (.ops [
 ⟨some 2, .assign (.const (.int .i64 (-1))), 3, none⟩])
 .ret))
theorem slim27 : Tryz.f27.body.map (slim lends) = some k27 := by kernel_rfl
theorem ok27 : fnOk Tryz.f27 1 = true := by kernel_rfl
theorem c27 {a l : List D} {r : D × List D} (h : wpD Y.env k27 (fin tys l.length [ResultVar.tmp 2] r) (entry a l)) (ha : a.length = 1) : Y.call 27 a l = some r :=
 call_slim (Y := Y) rfl Tryz.func27 (ha ▸ ok27) slim27 h
def i_weakest_l0_M (pL pD : Int) (pN pE : List (List Int)) (t7_ t12_ : Int) (s : St) : Prop := s.v 1 = D.box [D.int .i64 pL, D.int .i64 pD, D.sl 27 (lst (fun x => D.sl 3 (lst (D.int .i64) x)) pN), D.sl 27 (lst (fun x => D.sl 3 (lst (D.int .i64) x)) pE)] ∧ s.v 3 = D.int .i64 t7_ ∧ s.v 6 = D.int .i64 pL ∧ s.v 7 = D.int .i64 t7_ ∧ s.v 11 = D.int .i64 pL ∧ s.v 12 = D.int .i64 t12_
def i_weakest_l0_X (pL pD : Int) (pN pE : List (List Int)) (t7_ : Int) (r : Unit ⊕ Unit) (ex : Ex) (s : St) : Prop := match r with
 | .inl q => ex = .ret ∧ s.v 2 = D.int .i64 t7_
 | .inr q => ex = .exit 2 ∧ s.v 1 = D.box [D.int .i64 pL, D.int .i64 pD, D.sl 27 (lst (fun x => D.sl 3 (lst (D.int .i64) x)) pN), D.sl 27 (lst (fun x => D.sl 3 (lst (D.int .i64) x)) pE)] ∧ s.v 6 = D.int .i64 pL ∧ s.v 7 = D.int .i64 t7_
theorem i_weakest_l0_wp (pL pD : Int) (pN pE : List (List Int)) (t7_ : Int) {v : Int} {s : St} {r : Unit ⊕ Unit} (h : i_weakest_l0 pL pD pN pE t7_ v = some r) (hM : i_weakest_l0_M pL pD pN pE t7_ v s) : wpD Y.env k27_l0 (i_weakest_l0_X pL pD pN pE t7_ r) s := by
 unfold i_weakest_l0 at h
 refine wd_itO (c := k27_l0b) (fun v => i_weakest_l0_S pL pD pN pE t7_ v) (fun v s => i_weakest_l0_M pL pD pN pE t7_ v s) (i_weakest_l0_X pL pD pN pE t7_) ?_ h hM
 clear h hM s v r
 intro t12_ s o hM h
 unfold i_weakest_l0_S at h
 unfold i_weakest_l0_M at hM
 obtain ⟨m0, m1, m2, m3, m4, m5⟩ := hM
 unfold k27_l0b
 by_cases e2 : t12_ < pL
 ·rw [if_pos e2] at h
  by_cases e3 : t7_ = t12_
  ·rw [if_pos e3] at h
   cases h
   simp (maxDischargeDepth := 9) only [↓xpre, xpost, yset, ↓reduceIte, Nat.reduceEqDiff, Nat.reduceLT, m0, m1, m2, m3, m4, m5, e2, decide_eq_true e3, i_weakest_l0_M, sxN]
  ·rw [if_neg e3] at h
   obtain ⟨r4_, hl4, h⟩ := bindS h
   try dsimp only at h
   have c4 := i_replaces_call pN t7_ t12_ hl4
   by_cases e5 : r4_ = true
   ·rw [if_pos e5] at h
    obtain ⟨r6_, hl6, h⟩ := bindS h
    try dsimp only at h
    have c6 := i_replaces_call pE t7_ t12_ hl6
    by_cases e7 : r6_ = true
    ·rw [if_pos e7] at h
     cases h
     simp (maxDischargeDepth := 9) only [↓xpre, xpost, xcore, yset, ↓reduceIte, Nat.reduceEqDiff, Nat.reduceLT, Nat.reduceAdd, m0, m1, m4, m5, e2, e3, c4, e5, c6, e7, i_weakest_l0_M, i_weakest_l0_X, sxR]
    ·rw [if_neg e7] at h
     have e7f : r6_ = false := Bool.eq_false_iff.mpr e7
     cases h
     simp (maxDischargeDepth := 9) only [↓xpre, xpost, xcore, yset, ↓reduceIte, Nat.reduceEqDiff, Nat.reduceLT, Nat.reduceAdd, m0, m1, m2, m3, m4, m5, e2, e3, c4, e5, c6, e7f, i_weakest_l0_M, sxN]
   ·rw [if_neg e5] at h
    have e5f : r4_ = false := Bool.eq_false_iff.mpr e5
    cases h
    simp (maxDischargeDepth := 9) only [↓xpre, xpost, xcore, yset, ↓reduceIte, Nat.reduceEqDiff, Nat.reduceLT, Nat.reduceAdd, m0, m1, m2, m3, m4, m5, e2, e3, c4, e5f, i_weakest_l0_M, sxN]
 ·rw [if_neg e2] at h
  cases h
  simp (maxDischargeDepth := 9) only [↓xpre, xpost, yset, ↓reduceIte, Nat.reduceEqDiff, Nat.reduceLT, m0, m2, m3, m4, m5, e2, i_weakest_l0_M, i_weakest_l0_X, sxE]
def i_weakest_l1_M (pL pD : Int) (pN pE : List (List Int)) (t7_ : Int) (s : St) : Prop := s.v 1 = D.box [D.int .i64 pL, D.int .i64 pD, D.sl 27 (lst (fun x => D.sl 3 (lst (D.int .i64) x)) pN), D.sl 27 (lst (fun x => D.sl 3 (lst (D.int .i64) x)) pE)] ∧ s.v 6 = D.int .i64 pL ∧ s.v 7 = D.int .i64 t7_
def i_weakest_l1_X (pL pD : Int) (pN pE : List (List Int)) (r : Int ⊕ Unit) (ex : Ex) (s : St) : Prop := match r with
 | .inl q => ex = .ret ∧ s.v 2 = D.int .i64 q
 | .inr q => ex = .exit 0
theorem i_weakest_l1_wp (pL pD : Int) (pN pE : List (List Int)) {v : Int} {s : St} {r : Int ⊕ Unit} (h : i_weakest_l1 pL pD pN pE v = some r) (hM : i_weakest_l1_M pL pD pN pE v s) : wpD Y.env k27_l1 (i_weakest_l1_X pL pD pN pE r) s := by
 unfold i_weakest_l1 at h
 refine wd_itO (c := k27_l1b) (fun v => i_weakest_l1_S pL pD pN pE v) (fun v s => i_weakest_l1_M pL pD pN pE v s) (i_weakest_l1_X pL pD pN pE) ?_ h hM
 clear h hM s v r
 intro t7_ s o hM h
 unfold i_weakest_l1_S at h
 unfold i_weakest_l1_M at hM
 obtain ⟨m0, m1, m2⟩ := hM
 unfold k27_l1b
 by_cases e1 : t7_ < pL
 ·rw [if_pos e1] at h
  obtain ⟨r3_, hl3, h⟩ := bindS h
  try dsimp only at h
  simp (maxDischargeDepth := 9) only [↓xpre, xpost, xcore, yset, ↓reduceIte, Nat.reduceEqDiff, Nat.reduceLT, m0, m1, m2, e1]
  refine wd_mono (i_weakest_l0_wp pL pD pN pE t7_ hl3 ?_) ?_
  ·simp (maxDischargeDepth := 9) only [xpost, ↓reduceIte, Nat.reduceEqDiff, m0, m1, m2, i_weakest_l0_M]
  ·intro ex3 s3 hX3
   rcases r3_ with q3_ | q3_
   ·unfold i_weakest_l0_X at hX3
    dsimp only at hX3 h
    obtain ⟨rfl, n3_0⟩ := hX3
    cases h
    simp (maxDischargeDepth := 9) only [↓xpre, xpost, n3_0, i_weakest_l1_M, i_weakest_l1_X, sxR]
   ·unfold i_weakest_l0_X at hX3
    dsimp only at hX3 h
    obtain ⟨rfl, n3_0, n3_1, n3_2⟩ := hX3
    cases h
    simp (maxDischargeDepth := 9) only [↓xpre, xpost, yset, ↓reduceIte, Nat.reduceEqDiff, Nat.reduceLT, n3_0, n3_1, n3_2, i_weakest_l1_M, sxN]
 ·rw [if_neg e1] at h
  cases h
  simp (maxDischargeDepth := 9) only [↓xpre, xpost, yset, ↓reduceIte, Nat.reduceLT, m1, m2, e1, i_weakest_l1_M, i_weakest_l1_X, sxE]
theorem i_weakest_call (pL pD : Int) (pN pE : List (List Int)) {r : Int} (h : i_weakest pL pD pN pE = some r) : Y.call 27 [D.agg [D.int .i64 pL, D.int .i64 pD, D.sl 27 (lst (fun x => D.sl 3 (lst (D.int .i64) x)) pN), D.sl 27 (lst (fun x => D.sl 3 (lst (D.int .i64) x)) pE)]] [] = some (D.int .i64 r, []) := by
 refine c27 ?_ rfl
 unfold k27
 unfold i_weakest at h
 obtain ⟨r2_, hl2, h⟩ := bindS h
 try dsimp only at h
 simp (maxDischargeDepth := 9) only [↓xpre, xpost, xcore, yset, ↓reduceIte, Nat.reduceEqDiff, Nat.reduceLT, Nat.reduceAdd, Int.reduceNeg]
 refine wd_mono (i_weakest_l1_wp pL pD pN pE hl2 ?_) ?_
 ·simp (maxDischargeDepth := 9) only [xpost, ↓reduceIte, Nat.reduceEqDiff, i_weakest_l1_M]
 ·intro ex2 s2 hX2
  rcases r2_ with q2_ | q2_
  ·unfold i_weakest_l1_X at hX2
   dsimp only at hX2 h
   obtain ⟨rfl, n2_0⟩ := hX2
   cases h
   simp (maxDischargeDepth := 9) only [↓xpre, xpost, xcore, ↓reduceIte, n2_0]
  ·unfold i_weakest_l1_X at hX2
   dsimp only at hX2 h
   obtain rfl := hX2
   cases h
   simp (maxDischargeDepth := 9) only [↓xpre, xpost, xcore, yset, ↓reduceIte, Nat.reduceEqDiff, Nat.reduceLT, Int.reduceNeg]

noncomputable def s_elWeak_l0_S (pL pD : Int) (pN pE : List (List Int)) (a b : Int) : Option ((Int) ⊕ (Unit ⊕ Unit)) :=
 if b < pL then
  if a = b then
   some (Sum.inl (IntKind.i64.wrap (b + 1)))
  else
   (s_reMay pN a b).bind fun r4_ =>
   if r4_ = true then
    (s_reMay pE a b).bind fun r6_ =>
    if r6_ = true then
     some (Sum.inr (Sum.inl ()))
    else
     some (Sum.inl (IntKind.i64.wrap (b + 1)))
   else
    some (Sum.inl (IntKind.i64.wrap (b + 1)))
 else
  some (Sum.inr (Sum.inr ()))
noncomputable def s_elWeak_l0 (pL pD : Int) (pN pE : List (List Int)) (a v : Int) : Option (Unit ⊕ Unit) := itO (fun v => s_elWeak_l0_S pL pD pN pE a v) v
noncomputable def s_elWeak_l1_S (pL pD : Int) (pN pE : List (List Int)) (a : Int) : Option ((Int) ⊕ (Int ⊕ Unit)) :=
 if a < pL then
  (s_elWeak_l0 pL pD pN pE a 0).bind fun r3_ =>
  match r3_ with
  | .inl q3_ =>
   some (Sum.inr (Sum.inl a))
  | .inr q3_ =>
   some (Sum.inl (IntKind.i64.wrap (a + 1)))
 else
  some (Sum.inr (Sum.inr ()))
noncomputable def s_elWeak_l1 (pL pD : Int) (pN pE : List (List Int)) (v : Int) : Option (Int ⊕ Unit) := itO (fun v => s_elWeak_l1_S pL pD pN pE v) v
noncomputable def s_elWeak (pL pD : Int) (pN pE : List (List Int)) : Option (Int) :=
 (s_elWeak_l1 pL pD pN pE 0).bind fun r2_ =>
 match r2_ with
 | .inl q2_ =>
  some q2_
 | .inr q2_ =>
  some (-1)
/-- spec.elWeak -/
def k20_l0b : SC :=
 .seq
 (.seq
 (.ops [
 ⟨some 11, .move (.tmp 4), 3, none⟩,
 ⟨some 12, .fieldAddr 26 (.tmp 1) 0, 0, none⟩,
 ⟨some 13, .load 3 (.tmp 12), 3, none⟩,
 ⟨some 14, .binOp .lss 3 (.tmp 11) (.tmp 13) 3, 4, none⟩])
 (.cond (.tmp 14)
 .skip
 (.exit 2)))
 (.seq
 (.block 3
 (.seq
 (.ops [
 ⟨some 17, .move (.tmp 3), 3, none⟩,
 ⟨some 18, .move (.tmp 4), 3, none⟩,
 ⟨some 19, .binOp .neq 3 (.tmp 17) (.tmp 18) 3, 4, none⟩,
 ⟨some 20, .move (.tmp 19), 4, none⟩,
 ⟨some 21, .fieldAddr 26 (.tmp 1) 2, 0, (some (some 20, true))⟩,
 ⟨some 22, .load 22 (.tmp 21), 22, (some (some 20, true))⟩,
 ⟨some 23, .move (.tmp 3), 3, (some (some 20, true))⟩,
 ⟨some 24, .move (.tmp 4), 3, (some (some 20, true))⟩,
 ⟨some 25, .call ⟨(.value (.func 39)), #[(.tmp 22), (.tmp 23), (.tmp 24)], #[22, 3, 3]⟩, 4, (some (some 20, true))⟩,
 ⟨some 26, .pick (.tmp 20) (.tmp 25) (.const (.bool false)), 4, none⟩,
 ⟨some 27, .move (.tmp 26), 4, none⟩,
 ⟨some 28, .fieldAddr 26 (.tmp 1) 3, 0, (some (some 27, true))⟩,
 ⟨some 29, .load 22 (.tmp 28), 22, (some (some 27, true))⟩,
 ⟨some 30, .move (.tmp 3), 3, (some (some 27, true))⟩,
 ⟨some 31, .move (.tmp 4), 3, (some (some 27, true))⟩,
 ⟨some 32, .call ⟨(.value (.func 39)), #[(.tmp 29), (.tmp 30), (.tmp 31)], #[22, 3, 3]⟩, 4, (some (some 27, true))⟩,
 ⟨some 33, .pick (.tmp 27) (.tmp 32) (.const (.bool false)), 4, none⟩])
 (.cond (.tmp 33)
 (.seq
 (.ops [
 ⟨some 34, .move (.tmp 3), 3, none⟩,
 ⟨some 2, .assign (.tmp 34), 3, none⟩])
 .ret)
 .skip)))
 (.ops [
 ⟨some 15, .move (.tmp 4), 3, none⟩,
 ⟨some 16, .binOp .add 3 (.tmp 15) (.const (.int .i64 1)) 3, 3, none⟩,
 ⟨some 4, .assign (.tmp 16), 3, none⟩]))
def k20_l0 : SC := .loop k20_l0b
def k20_l1b : SC :=
 .seq
 (.seq
 (.ops [
 ⟨some 5, .move (.tmp 3), 3, none⟩,
 ⟨some 6, .fieldAddr 26 (.tmp 1) 0, 0, none⟩,
 ⟨some 7, .load 3 (.tmp 6), 3, none⟩,
 ⟨some 8, .binOp .lss 3 (.tmp 5) (.tmp 7) 3, 4, none⟩])
 (.cond (.tmp 8)
 .skip
 (.exit 0)))
 (.seq
 (.block 1
 (.seq
 (.ops [
 ⟨some 4, .assign (.const (.int .i64 0)), 3, none⟩])
 (.block 2
 k20_l0)))
 (.ops [
 ⟨some 9, .move (.tmp 3), 3, none⟩,
 ⟨some 10, .binOp .add 3 (.tmp 9) (.const (.int .i64 1)) 3, 3, none⟩,
 ⟨some 3, .assign (.tmp 10), 3, none⟩]))
def k20_l1 : SC := .loop k20_l1b
def k20 : SC :=
 .seq
 (.ops [
 ⟨some 1, .box 26 (.tmp 0), 0, none⟩,
 ⟨some 2, .assign (.const (.int .i64 0)), 3, none⟩])
 (.seq
 (.seq
 (.ops [
 ⟨some 3, .assign (.const (.int .i64 0)), 3, none⟩])
 (.block 0
 k20_l1))
 (.seq
 (.ops [
 ⟨some 2, .assign (.const (.int .i64 (-1))), 3, none⟩])
 .ret))
theorem slim20 : Tryz.f20.body.map (slim lends) = some k20 := by kernel_rfl
theorem ok20 : fnOk Tryz.f20 1 = true := by kernel_rfl
theorem c20 {a l : List D} {r : D × List D} (h : wpD Y.env k20 (fin tys l.length [ResultVar.tmp 2] r) (entry a l)) (ha : a.length = 1) : Y.call 20 a l = some r :=
 call_slim (Y := Y) rfl Tryz.func20 (ha ▸ ok20) slim20 h
def s_elWeak_l0_M (pL pD : Int) (pN pE : List (List Int)) (a b : Int) (s : St) : Prop := s.v 1 = D.box [D.int .i64 pL, D.int .i64 pD, D.sl 27 (lst (fun x => D.sl 3 (lst (D.int .i64) x)) pN), D.sl 27 (lst (fun x => D.sl 3 (lst (D.int .i64) x)) pE)] ∧ s.v 3 = D.int .i64 a ∧ s.v 4 = D.int .i64 b
def s_elWeak_l0_X (pL pD : Int) (pN pE : List (List Int)) (a : Int) (r : Unit ⊕ Unit) (ex : Ex) (s : St) : Prop := match r with
 | .inl q => ex = .ret ∧ s.v 2 = D.int .i64 a
 | .inr q => ex = .exit 2 ∧ s.v 1 = D.box [D.int .i64 pL, D.int .i64 pD, D.sl 27 (lst (fun x => D.sl 3 (lst (D.int .i64) x)) pN), D.sl 27 (lst (fun x => D.sl 3 (lst (D.int .i64) x)) pE)] ∧ s.v 3 = D.int .i64 a
theorem s_elWeak_l0_wp (pL pD : Int) (pN pE : List (List Int)) (a : Int) {v : Int} {s : St} {r : Unit ⊕ Unit} (h : s_elWeak_l0 pL pD pN pE a v = some r) (hM : s_elWeak_l0_M pL pD pN pE a v s) : wpD Y.env k20_l0 (s_elWeak_l0_X pL pD pN pE a r) s := by
 unfold s_elWeak_l0 at h
 refine wd_itO (c := k20_l0b) (fun v => s_elWeak_l0_S pL pD pN pE a v) (fun v s => s_elWeak_l0_M pL pD pN pE a v s) (s_elWeak_l0_X pL pD pN pE a) ?_ h hM
 clear h hM s v r
 intro b s o hM h
 unfold s_elWeak_l0_S at h
 unfold s_elWeak_l0_M at hM
 obtain ⟨m0, m1, m2⟩ := hM
 unfold k20_l0b
 by_cases e2 : b < pL
 ·rw [if_pos e2] at h
  by_cases e3 : a = b
  ·rw [if_pos e3] at h
   cases h
   simp (maxDischargeDepth := 9) only [↓xpre, xpost, xcore, yset, ↓reduceIte, Nat.reduceEqDiff, Nat.reduceLT, m0, m1, m2, e2, decide_eq_true e3, s_elWeak_l0_M, sxN]
  ·rw [if_neg e3] at h
   obtain ⟨r4_, hl4, h⟩ := bindS h
   try dsimp only at h
   have c4 := s_reMay_call pN a b hl4
   by_cases e5 : r4_ = true
   ·rw [if_pos e5] at h
    obtain ⟨r6_, hl6, h⟩ := bindS h
    try dsimp only at h
    have c6 := s_reMay_call pE a b hl6
    by_cases e7 : r6_ = true
    ·rw [if_pos e7] at h
     cases h
     simp (maxDischargeDepth := 9) only [↓xpre, xpost, xcore, yset, ↓reduceIte, Nat.reduceEqDiff, Nat.reduceLT, Nat.reduceAdd, m0, m1, m2, e2, e3, c4, e5, c6, e7, s_elWeak_l0_M, s_elWeak_l0_X, sxR]
    ·rw [if_neg e7] at h
     have e7f : r6_ = false := Bool.eq_false_iff.mpr e7
     cases h
     simp (maxDischargeDepth := 9) only [↓xpre, xpost, xcore, yset, ↓reduceIte, Nat.reduceEqDiff, Nat.reduceLT, Nat.reduceAdd, m0, m1, m2, e2, e3, c4, e5, c6, e7f, s_elWeak_l0_M, sxN]
   ·rw [if_neg e5] at h
    have e5f : r4_ = false := Bool.eq_false_iff.mpr e5
    cases h
    simp (maxDischargeDepth := 9) only [↓xpre, xpost, xcore, yset, ↓reduceIte, Nat.reduceEqDiff, Nat.reduceLT, Nat.reduceAdd, m0, m1, m2, e2, e3, c4, e5f, s_elWeak_l0_M, sxN]
 ·rw [if_neg e2] at h
  cases h
  simp (maxDischargeDepth := 9) only [↓xpre, xpost, xcore, yset, ↓reduceIte, Nat.reduceEqDiff, Nat.reduceLT, m0, m1, m2, e2, s_elWeak_l0_M, s_elWeak_l0_X, sxE]
def s_elWeak_l1_M (pL pD : Int) (pN pE : List (List Int)) (a : Int) (s : St) : Prop := s.v 1 = D.box [D.int .i64 pL, D.int .i64 pD, D.sl 27 (lst (fun x => D.sl 3 (lst (D.int .i64) x)) pN), D.sl 27 (lst (fun x => D.sl 3 (lst (D.int .i64) x)) pE)] ∧ s.v 3 = D.int .i64 a
def s_elWeak_l1_X (pL pD : Int) (pN pE : List (List Int)) (r : Int ⊕ Unit) (ex : Ex) (s : St) : Prop := match r with
 | .inl q => ex = .ret ∧ s.v 2 = D.int .i64 q
 | .inr q => ex = .exit 0
theorem s_elWeak_l1_wp (pL pD : Int) (pN pE : List (List Int)) {v : Int} {s : St} {r : Int ⊕ Unit} (h : s_elWeak_l1 pL pD pN pE v = some r) (hM : s_elWeak_l1_M pL pD pN pE v s) : wpD Y.env k20_l1 (s_elWeak_l1_X pL pD pN pE r) s := by
 unfold s_elWeak_l1 at h
 refine wd_itO (c := k20_l1b) (fun v => s_elWeak_l1_S pL pD pN pE v) (fun v s => s_elWeak_l1_M pL pD pN pE v s) (s_elWeak_l1_X pL pD pN pE) ?_ h hM
 clear h hM s v r
 intro a s o hM h
 unfold s_elWeak_l1_S at h
 unfold s_elWeak_l1_M at hM
 obtain ⟨m0, m1⟩ := hM
 unfold k20_l1b
 by_cases e1 : a < pL
 ·rw [if_pos e1] at h
  obtain ⟨r3_, hl3, h⟩ := bindS h
  try dsimp only at h
  simp (maxDischargeDepth := 9) only [↓xpre, xpost, xcore, yset, ↓reduceIte, Nat.reduceEqDiff, Nat.reduceLT, m0, m1, e1]
  refine wd_mono (s_elWeak_l0_wp pL pD pN pE a hl3 ?_) ?_
  ·simp (maxDischargeDepth := 9) only [xpost, ↓reduceIte, Nat.reduceEqDiff, m0, m1, s_elWeak_l0_M]
  ·intro ex3 s3 hX3
   rcases r3_ with q3_ | q3_
   ·unfold s_elWeak_l0_X at hX3
    dsimp only at hX3 h
    obtain ⟨rfl, n3_0⟩ := hX3
    cases h
    simp (maxDischargeDepth := 9) only [↓xpre, xpost, n3_0, s_elWeak_l1_M, s_elWeak_l1_X, sxR]
   ·unfold s_elWeak_l0_X at hX3
    dsimp only at hX3 h
    obtain ⟨rfl, n3_0, n3_1⟩ := hX3
    cases h
    simp (maxDischargeDepth := 9) only [↓xpre, xpost, yset, ↓reduceIte, Nat.reduceEqDiff, Nat.reduceLT, n3_0, n3_1, s_elWeak_l1_M, sxN]
 ·rw [if_neg e1] at h
  cases h
  simp (maxDischargeDepth := 9) only [↓xpre, xpost, xcore, yset, ↓reduceIte, Nat.reduceEqDiff, Nat.reduceLT, m0, m1, e1, s_elWeak_l1_M, s_elWeak_l1_X, sxE]
theorem s_elWeak_call (pL pD : Int) (pN pE : List (List Int)) {r : Int} (h : s_elWeak pL pD pN pE = some r) : Y.call 20 [D.agg [D.int .i64 pL, D.int .i64 pD, D.sl 27 (lst (fun x => D.sl 3 (lst (D.int .i64) x)) pN), D.sl 27 (lst (fun x => D.sl 3 (lst (D.int .i64) x)) pE)]] [] = some (D.int .i64 r, []) := by
 refine c20 ?_ rfl
 unfold k20
 unfold s_elWeak at h
 obtain ⟨r2_, hl2, h⟩ := bindS h
 try dsimp only at h
 simp (maxDischargeDepth := 9) only [↓xpre, xpost, xcore, yset, ↓reduceIte, Nat.reduceEqDiff, Nat.reduceLT, Int.reduceNeg]
 refine wd_mono (s_elWeak_l1_wp pL pD pN pE hl2 ?_) ?_
 ·simp (maxDischargeDepth := 9) only [xpost, ↓reduceIte, Nat.reduceEqDiff, s_elWeak_l1_M]
 ·intro ex2 s2 hX2
  rcases r2_ with q2_ | q2_
  ·unfold s_elWeak_l1_X at hX2
   dsimp only at hX2 h
   obtain ⟨rfl, n2_0⟩ := hX2
   cases h
   simp (maxDischargeDepth := 9) only [↓xpre, xpost, xcore, ↓reduceIte, n2_0]
  ·unfold s_elWeak_l1_X at hX2
   dsimp only at hX2 h
   obtain rfl := hX2
   cases h
   simp (maxDischargeDepth := 9) only [↓xpre, xpost, xcore, yset, ↓reduceIte, Nat.reduceEqDiff, Nat.reduceLT, Int.reduceNeg]

noncomputable def i_keepLabels_l0_S (pL pD : Int) (pN pE : List (List Int)) (keep to : List Int) (t14_ : Int) : Option (((List Int) × Int) ⊕ ((List Int))) :=
 if t14_ < (keep.length : Int) then
  ck (0 ≤ t14_ ∧ t14_.toNat < keep.length) <|
  ck (0 ≤ (keep.getD t14_.toNat default) ∧ (keep.getD t14_.toNat default).toNat < to.length) <|
  some (Sum.inl ((to.set ((keep.getD t14_.toNat default).toNat) t14_), IntKind.i64.wrap (t14_ + 1)))
 else
  some (Sum.inr to)
noncomputable def i_keepLabels_l0 (pL pD : Int) (pN pE : List (List Int)) (keep : List Int) (v : (List Int) × Int) : Option ((List Int)) := itO (fun v => i_keepLabels_l0_S pL pD pN pE keep v.1 v.2) v
noncomputable def i_keepLabels (pL pD : Int) (pN pE : List (List Int)) (keep : List Int) : Option (Int × Int × (List (List Int)) × (List (List Int))) :=
 (gRp [(-1)] pL).bind fun r1_ =>
 (i_keepLabels_l0 pL pD pN pE keep (r1_, 0)).bind fun r3_ =>
 (i_renamed pN r3_).bind fun r4_ =>
 (i_renamed pE r3_).bind fun r5_ =>
 some ((keep.length : Int), pD, r4_, r5_)
/-- impl.keepLabels -/
def k28_l0b : SC :=
 .seq
 (.ops [
 ⟨some 15, .binOp .lss 3 (.tmp 14) (.tmp 13) 3, 0, none⟩])
 (.seq
 (.cond (.tmp 15)
 .skip
 (.exit 0))
 (.seq
 (.block 1
 (.seq
 (.ops [
 ⟨some 16, .move (.tmp 14), 3, none⟩,
 ⟨some 17, .indexAddr 27 (.tmp 12) (.tmp 14), 0, none⟩,
 ⟨some 18, .load 3 (.tmp 17), 3, none⟩,
 ⟨some 6, .assign (.tmp 16), 3, none⟩,
 ⟨some 7, .assign (.tmp 18), 3, none⟩])
 (.ops [
 ⟨some 19, .move (.tmp 5), 27, none⟩,
 ⟨some 20, .move (.tmp 7), 3, none⟩,
 ⟨some 21, .move (.tmp 6), 3, none⟩,
 ⟨some 22, .indexAddr 27 (.tmp 19) (.tmp 20), 0, none⟩,
 ⟨none, .store 3 (.tmp 22) (.tmp 21), 0, none⟩])))
 (.ops [
 ⟨some 23, .binOp .add 3 (.tmp 14) (.const (.int .i64 1)) 3, 3, none⟩,
 ⟨some 14, .move (.tmp 23), 3, none⟩])))
def k28_l0 : SC := .loop k28_l0b
def k28 : SC :=
 .seq
 (.ops [
 ⟨some 2, .box 26 (.tmp 0), 0, none⟩,
 ⟨some 4, .alloc 26, 0, none⟩])
 (.seq
 (.ops [
 ⟨some 8, .buildSlice 27 1 #[(0, (.const (.int .i64 (-1))))], 27, none⟩,
 ⟨some 9, .fieldAddr 26 (.tmp 2) 0, 0, none⟩,
 ⟨some 10, .load 3 (.tmp 9), 3, none⟩,
 ⟨some 11, .call ⟨(.value (.func 46)), #[(.tmp 8), (.tmp 10)], #[27, 3]⟩, 27, none⟩,
 ⟨some 5, .assign (.tmp 11), 27, none⟩])
 (.seq
 (.seq
 (.ops [
 ⟨some 12, .move (.tmp 1), 27, none⟩,
 ⟨some 13, .call ⟨(.builtin .len), #[(.tmp 12)], #[27]⟩, 3, none⟩,
 ⟨some 14, .move (.const (.int .i64 0)), 3, none⟩])
 (.block 0
 k28_l0))
 (.seq
 (.draws [
 (⟨[24, 1, 1], [24, 25, 26, 27, 28, 29, 30, 31, 32, 33, 34, 35, 36, 25, 27, 31, 35, 25, 2, 31, 35, 4, 36, 4, 36], [24]⟩, ⟨some 24, .move (.tmp 1), 27, none⟩),
 (⟨[25, 24, 1], [24, 25, 26, 27, 28, 29, 30, 31, 32, 33, 34, 35, 36, 25, 27, 31, 35, 25, 2, 31, 35, 4, 36, 4, 36], [25]⟩, ⟨some 25, .call ⟨(.builtin .len), #[(.tmp 24)], #[27]⟩, 3, none⟩),
 (⟨[26, 2, 2], [24, 25, 26, 27, 28, 29, 30, 31, 32, 33, 34, 35, 36, 25, 27, 31, 35, 25, 2, 31, 35, 4, 36, 4, 36], [26]⟩, ⟨some 26, .fieldAddr 26 (.tmp 2) 1, 0, none⟩),
 (⟨[27, 26, 2], [24, 25, 26, 27, 28, 29, 30, 31, 32, 33, 34, 35, 36, 25, 27, 31, 35, 25, 2, 31, 35, 4, 36, 4, 36], [27]⟩, ⟨some 27, .load 3 (.tmp 26), 3, none⟩),
 (⟨[28, 2, 2], [24, 25, 26, 27, 28, 29, 30, 31, 32, 33, 34, 35, 36, 25, 27, 31, 35, 25, 2, 31, 35, 4, 36, 4, 36], [28]⟩, ⟨some 28, .fieldAddr 26 (.tmp 2) 2, 0, none⟩),
 (⟨[29, 28, 2], [24, 25, 26, 27, 28, 29, 30, 31, 32, 33, 34, 35, 36, 25, 27, 31, 35, 25, 2, 31, 35, 4, 36, 4, 36], [29]⟩, ⟨some 29, .load 22 (.tmp 28), 22, none⟩),
 (⟨[30, 5, 5], [24, 25, 26, 27, 28, 29, 30, 31, 32, 33, 34, 35, 36, 25, 27, 31, 35, 25, 2, 31, 35, 4, 36, 4, 36], [30]⟩, ⟨some 30, .move (.tmp 5), 27, none⟩),
 (⟨[31, 29, 30, 2, 5], [24, 25, 26, 27, 28, 29, 30, 31, 32, 33, 34, 35, 36, 25, 27, 31, 35, 25, 2, 31, 35, 4, 36, 4, 36], [31]⟩, ⟨some 31, .call ⟨(.value (.func 47)), #[(.tmp 29), (.tmp 30)], #[22, 27]⟩, 22, none⟩),
 (⟨[32, 2, 2], [24, 25, 26, 27, 28, 29, 30, 31, 32, 33, 34, 35, 36, 25, 27, 31, 35, 25, 2, 31, 35, 4, 36, 4, 36], [32]⟩, ⟨some 32, .fieldAddr 26 (.tmp 2) 3, 0, none⟩),
 (⟨[33, 32, 2], [24, 25, 26, 27, 28, 29, 30, 31, 32, 33, 34, 35, 36, 25, 27, 31, 35, 25, 2, 31, 35, 4, 36, 4, 36], [33]⟩, ⟨some 33, .load 22 (.tmp 32), 22, none⟩),
 (⟨[34, 5, 5], [24, 25, 26, 27, 28, 29, 30, 31, 32, 33, 34, 35, 36, 25, 27, 31, 35, 25, 2, 31, 35, 4, 36, 4, 36], [34]⟩, ⟨some 34, .move (.tmp 5), 27, none⟩),
 (⟨[35, 33, 34, 2, 5], [24, 25, 26, 27, 28, 29, 30, 31, 32, 33, 34, 35, 36, 25, 27, 31, 35, 25, 2, 31, 35, 4, 36, 4, 36], [35]⟩, ⟨some 35, .call ⟨(.value (.func 47)), #[(.tmp 33), (.tmp 34)], #[22, 27]⟩, 22, none⟩),
 (⟨[36, 25, 27, 31, 35, 25, 2, 31, 35], [24, 25, 26, 27, 28, 29, 30, 31, 32, 33, 34, 35, 36, 25, 27, 31, 35, 25, 2, 31, 35, 4, 36, 4, 36], [36, 25, 27, 31, 35, 25, 2, 31, 35]⟩, ⟨some 36, .build 26 #[(0, (.tmp 25)), (1, (.tmp 27)), (2, (.tmp 31)), (3, (.tmp 35))], 26, none⟩),
 (⟨[4, 36, 4, 36], [24, 25, 26, 27, 28, 29, 30, 31, 32, 33, 34, 35, 36, 25, 27, 31, 35, 25, 2, 31, 35, 4, 36, 4, 36], [4, 36, 4, 36]⟩, ⟨none, .store 26 (.tmp 4) (.tmp 36), 0, none⟩)])
 .ret)))
theorem slim28 : Tryz.f28.body.map (slim lends) = some k28 := by kernel_rfl
theorem ok28 : fnOk Tryz.f28 2 = true := by kernel_rfl
theorem c28 {a l : List D} {r : D × List D} (h : wpD Y.env k28 (fin tys l.length [ResultVar.cell 4 26] r) (entry a l)) (ha : a.length = 2) : Y.call 28 a l = some r :=
 call_slim (Y := Y) rfl Tryz.func28 (ha ▸ ok28) slim28 h
def i_keepLabels_l0_M (pL pD : Int) (pN pE : List (List Int)) (keep to : List Int) (t14_ : Int) (s : St) : Prop := s.v 1 = D.sl 3 (lst (D.int .i64) keep) ∧ s.v 2 = D.box [D.int .i64 pL, D.int .i64 pD, D.sl 27 (lst (fun x => D.sl 3 (lst (D.int .i64) x)) pN), D.sl 27 (lst (fun x => D.sl 3 (lst (D.int .i64) x)) pE)] ∧ s.v 4 = D.box [D.int .i64 0, D.int .i64 0, D.own 27 [], D.own 27 []] ∧ s.v 5 = D.own 3 (lst (D.int .i64) to) ∧ s.v 12 = D.sl 3 (lst (D.int .i64) keep) ∧ s.v 13 = D.int .i64 (keep.length : Int) ∧ s.v 14 = D.int .i64 t14_
def i_keepLabels_l0_X (pL pD : Int) (pN pE : List (List Int)) (keep : List Int) (r : (List Int)) (ex : Ex) (s : St) : Prop := ex = .exit 0 ∧ s.v 1 = D.sl 3 (lst (D.int .i64) keep) ∧ s.v 2 = D.box [D.int .i64 pL, D.int .i64 pD, D.sl 27 (lst (fun x => D.sl 3 (lst (D.int .i64) x)) pN), D.sl 27 (lst (fun x => D.sl 3 (lst (D.int .i64) x)) pE)] ∧ s.v 4 = D.box [D.int .i64 0, D.int .i64 0, D.own 27 [], D.own 27 []] ∧ s.v 5 = D.own 3 (lst (D.int .i64) r)
theorem i_keepLabels_l0_wp (pL pD : Int) (pN pE : List (List Int)) (keep : List Int) {v : (List Int) × Int} {s : St} {r : (List Int)} (h : i_keepLabels_l0 pL pD pN pE keep v = some r) (hM : i_keepLabels_l0_M pL pD pN pE keep v.1 v.2 s) : wpD Y.env k28_l0 (i_keepLabels_l0_X pL pD pN pE keep r) s := by
 unfold i_keepLabels_l0 at h
 refine wd_itO (c := k28_l0b) (fun v => i_keepLabels_l0_S pL pD pN pE keep v.1 v.2) (fun v s => i_keepLabels_l0_M pL pD pN pE keep v.1 v.2 s) (i_keepLabels_l0_X pL pD pN pE keep) ?_ h hM
 clear h hM s v r
 intro v s o hM h
 obtain ⟨to, t14_⟩ := v
 dsimp only at h hM
 unfold i_keepLabels_l0_S at h
 unfold i_keepLabels_l0_M at hM
 obtain ⟨m0, m1, m2, m3, m4, m5, m6⟩ := hM
 unfold k28_l0b
 by_cases e2 : t14_ < (keep.length : Int)
 ·rw [if_pos e2] at h
  obtain ⟨e3, h⟩ := ckS h
  obtain ⟨e4, h⟩ := ckS h
  cases h
  simp (maxDischargeDepth := 9) only [↓xpre, xpost, xlst, xcore, yset, ↓reduceIte, Nat.reduceEqDiff, Nat.reduceLT, m0, m1, m2, m3, m4, m5, m6, e2, e3.1, e3.2, e4.1, e4.2, i_keepLabels_l0_M, sxN]
 ·rw [if_neg e2] at h
  cases h
  simp (maxDischargeDepth := 9) only [↓xpre, xpost, yset, ↓reduceIte, Nat.reduceEqDiff, Nat.reduceLT, m0, m1, m2, m3, m5, m6, e2, i_keepLabels_l0_M, i_keepLabels_l0_X, sxE]
theorem i_keepLabels_call (pL pD : Int) (pN pE : List (List Int)) (keep : List Int) {r : Int × Int × (List (List Int)) × (List (List Int))} (h : i_keepLabels pL pD pN pE keep = some r) : Y.call 28 [D.agg [D.int .i64 pL, D.int .i64 pD, D.sl 27 (lst (fun x => D.sl 3 (lst (D.int .i64) x)) pN), D.sl 27 (lst (fun x => D.sl 3 (lst (D.int .i64) x)) pE)], D.sl 3 (lst (D.int .i64) keep)] [] = some (D.agg [D.int .i64 r.1, D.int .i64 r.2.1, D.own 27 (lst (fun x => D.own 3 (lst (D.int .i64) x)) r.2.2.1), D.own 27 (lst (fun x => D.own 3 (lst (D.int .i64) x)) r.2.2.2)], []) := by
 refine c28 ?_ rfl
 unfold k28
 unfold i_keepLabels at h
 obtain ⟨r1_, hl1, h⟩ := bindS h
 try dsimp only at h
 have c1 := gRp_call [(-1)] pL hl1
 simp only [lst_cons, lst_nil] at c1
 obtain ⟨r3_, hl3, h⟩ := bindS h
 try dsimp only at h
 simp (maxDischargeDepth := 9) only [↓xpre, xpost, xlst, xcore, yset, ↓reduceIte, Nat.reduceEqDiff, Nat.reduceLT, Nat.reduceLeDiff, Nat.reduceAdd, Int.reduceNeg, c1]
 refine wd_mono (i_keepLabels_l0_wp pL pD pN pE keep hl3 ?_) ?_
 ·simp (maxDischargeDepth := 9) only [xpost, xcore, ↓reduceIte, Nat.reduceEqDiff, Nat.reduceLT, Int.reduceNeg, i_keepLabels_l0_M]
 ·intro ex3 s3 hX3
  unfold i_keepLabels_l0_X at hX3
  obtain ⟨rfl, n3_0, n3_1, n3_2, n3_3⟩ := hX3
  obtain ⟨r4_, hl4, h⟩ := bindS h
  try dsimp only at h
  have c4 := i_renamed_call pN r3_ hl4
  obtain ⟨r5_, hl5, h⟩ := bindS h
  try dsimp only at h
  have c5 := i_renamed_call pE r3_ hl5
  cases h
  simp (maxDischargeDepth := 9) only [↓xpre, xpost, xlst, xcore, yset, ↓reduceIte, Nat.reduceEqDiff, Nat.reduceLT, Nat.reduceLeDiff, Nat.reduceAdd, Nat.reduceBEq, n3_0, n3_1, n3_2, n3_3, c4, c5]

noncomputable def s_prKeep_l0_S (pL pD : Int) (pN pE : List (List Int)) (keep to : List Int) (t14_ : Int) : Option (((List Int) × Int) ⊕ ((List Int))) :=
 if t14_ < ((List.replicate pL.toNat 0).length : Int) then
  ck (0 ≤ t14_ ∧ t14_.toNat < to.length) <|
  some (Sum.inl ((to.set t14_.toNat (-1)), IntKind.i64.wrap (t14_ + 1)))
 else
  some (Sum.inr to)
noncomputable def s_prKeep_l0 (pL pD : Int) (pN pE : List (List Int)) (keep : List Int) (v : (List Int) × Int) : Option ((List Int)) := itO (fun v => s_prKeep_l0_S pL pD pN pE keep v.1 v.2) v
noncomputable def s_prKeep_l1_S (pL pD : Int) (pN pE : List (List Int)) (keep to : List Int) (t23_ : Int) : Option (((List Int) × Int) ⊕ ((List Int))) :=
 if t23_ < (keep.length : Int) then
  ck (0 ≤ t23_ ∧ t23_.toNat < keep.length) <|
  ck (0 ≤ (keep.getD t23_.toNat default) ∧ (keep.getD t23_.toNat default).toNat < to.length) <|
  some (Sum.inl ((to.set ((keep.getD t23_.toNat default).toNat) t23_), IntKind.i64.wrap (t23_ + 1)))
 else
  some (Sum.inr to)
noncomputable def s_prKeep_l1 (pL pD : Int) (pN pE : List (List Int)) (keep : List Int) (v : (List Int) × Int) : Option ((List Int)) := itO (fun v => s_prKeep_l1_S pL pD pN pE keep v.1 v.2) v
noncomputable def s_prKeep (pL pD : Int) (pN pE : List (List Int)) (keep : List Int) : Option (Int × Int × (List (List Int)) × (List (List Int))) :=
 ck (0 ≤ pL ∧ pL < 1099511627776) <|
 (s_prKeep_l0 pL pD pN pE keep ((List.replicate pL.toNat 0), 0)).bind fun r3_ =>
 (s_prKeep_l1 pL pD pN pE keep (r3_, 0)).bind fun r5_ =>
 (s_prMap pN r5_).bind fun r6_ =>
 (s_prMap pE r5_).bind fun r7_ =>
 some ((keep.length : Int), pD, r6_, r7_)
/-- spec.prKeep -/
def k21_l0b : SC :=
 .seq
 (.ops [
 ⟨some 15, .binOp .lss 3 (.tmp 14) (.tmp 13) 3, 0, none⟩])
 (.seq
 (.cond (.tmp 15)
 .skip
 (.exit 0))
 (.seq
 (.block 1
 (.seq
 (.ops [
 ⟨some 16, .move (.tmp 14), 3, none⟩,
 ⟨some 6, .assign (.tmp 16), 3, none⟩])
 (.ops [
 ⟨some 17, .move (.tmp 5), 27, none⟩,
 ⟨some 18, .move (.tmp 6), 3, none⟩,
 ⟨some 19, .indexAddr 27 (.tmp 17) (.tmp 18), 0, none⟩,
 ⟨none, .store 3 (.tmp 19) (.const (.int .i64 (-1))), 0, none⟩])))
 (.ops [
 ⟨some 20, .binOp .add 3 (.tmp 14) (.const (.int .i64 1)) 3, 3, none⟩,
 ⟨some 14, .move (.tmp 20), 3, none⟩])))
def k21_l0 : SC := .loop k21_l0b
def k21_l1b : SC :=
 .seq
 (.ops [
 ⟨some 24, .binOp .lss 3 (.tmp 23) (.tmp 22) 3, 2000005, none⟩])
 (.seq
 (.cond (.tmp 24)
 .skip
 (.exit 2))
 (.seq
 (.block 3
 (.seq
 (.ops [
 ⟨some 25, .move (.tmp 23), 3, none⟩,
 ⟨some 26, .indexAddr 27 (.tmp 21) (.tmp 23), 0, none⟩,
 ⟨some 27, .load 3 (.tmp 26), 3, none⟩,
 ⟨some 7, .assign (.tmp 25), 3, none⟩,
 ⟨some 8, .assign (.tmp 27), 3, none⟩])
 (.ops [
 ⟨some 28, .move (.tmp 5), 27, none⟩,
 ⟨some 29, .move (.tmp 8), 3, none⟩,
 ⟨some 30, .move (.tmp 7), 3, none⟩,
 ⟨some 31, .indexAddr 27 (.tmp 28) (.tmp 29), 0, none⟩,
 ⟨none, .store 3 (.tmp 31) (.tmp 30), 0, none⟩])))
 (.ops [
 ⟨some 32, .binOp .add 3 (.tmp 23) (.const (.int .i64 1)) 3, 3, none⟩,
 ⟨some 23, .move (.tmp 32), 3, none⟩])))
def k21_l1 : SC := .loop k21_l1b
def k21 : SC :=
 .seq
 (.ops [
 ⟨some 2, .box 26 (.tmp 0), 0, none⟩,
 ⟨some 4, .alloc 26, 0, none⟩])
 (.seq
 (.ops [
 ⟨some 9, .fieldAddr 26 (.tmp 2) 0, 0, none⟩,
 ⟨some 10, .load 3 (.tmp 9), 3, none⟩,
 ⟨some 11, .makeSlice 27 (.tmp 10) (.tmp 10), 27, none⟩,
 ⟨some 5, .assign (.tmp 11), 27, none⟩])
 (.seq
 (.seq
 (.ops [
 ⟨some 12, .move (.tmp 5), 27, none⟩,
 ⟨some 13, .call ⟨(.builtin .len), #[(.tmp 12)], #[27]⟩, 3, none⟩,
 ⟨some 14, .move (.const (.int .i64 0)), 3, none⟩])
 (.block 0
 k21_l0))
 (.seq
 (.seq
 (.ops [
 ⟨some 21, .move (.tmp 1), 27, none⟩,
 ⟨some 22, .call ⟨(.builtin .len), #[(.tmp 21)], #[27]⟩, 3, none⟩,
 ⟨some 23, .move (.const (.int .i64 0)), 3, none⟩])
 (.block 2
 k21_l1))
 (.seq
 (.draws [
 (⟨[33, 1, 1], [33, 34, 35, 36, 37, 38, 39, 40, 41, 42, 43, 44, 45, 34, 36, 40, 44, 34, 2, 40, 44, 4, 45, 4, 45], [33]⟩, ⟨some 33, .move (.tmp 1), 27, none⟩),
 (⟨[34, 33, 1], [33, 34, 35, 36, 37, 38, 39, 40, 41, 42, 43, 44, 45, 34, 36, 40, 44, 34, 2, 40, 44, 4, 45, 4, 45], [34]⟩, ⟨some 34, .call ⟨(.builtin .len), #[(.tmp 33)], #[27]⟩, 3, none⟩),
 (⟨[35, 2, 2], [33, 34, 35, 36, 37, 38, 39, 40, 41, 42, 43, 44, 45, 34, 36, 40, 44, 34, 2, 40, 44, 4, 45, 4, 45], [35]⟩, ⟨some 35, .fieldAddr 26 (.tmp 2) 1, 0, none⟩),
 (⟨[36, 35, 2], [33, 34, 35, 36, 37, 38, 39, 40, 41, 42, 43, 44, 45, 34, 36, 40, 44, 34, 2, 40, 44, 4, 45, 4, 45], [36]⟩, ⟨some 36, .load 3 (.tmp 35), 3, none⟩),
 (⟨[37, 2, 2], [33, 34, 35, 36, 37, 38, 39, 40, 41, 42, 43, 44, 45, 34, 36, 40, 44, 34, 2, 40, 44, 4, 45, 4, 45], [37]⟩, ⟨some 37, .fieldAddr 26 (.tmp 2) 2, 0, none⟩),
 (⟨[38, 37, 2], [33, 34, 35, 36, 37, 38, 39, 40, 41, 42, 43, 44, 45, 34, 36, 40, 44, 34, 2, 40, 44, 4, 45, 4, 45], [38]⟩, ⟨some 38, .load 22 (.tmp 37), 22, none⟩),
 (⟨[39, 5, 5], [33, 34, 35, 36, 37, 38, 39, 40, 41, 42, 43, 44, 45, 34, 36, 40, 44, 34, 2, 40, 44, 4, 45, 4, 45], [39]⟩, ⟨some 39, .move (.tmp 5), 27, none⟩),
 (⟨[40, 38, 39, 2, 5], [33, 34, 35, 36, 37, 38, 39, 40, 41, 42, 43, 44, 45, 34, 36, 40, 44, 34, 2, 40, 44, 4, 45, 4, 45], [40]⟩, ⟨some 40, .call ⟨(.value (.func 40)), #[(.tmp 38), (.tmp 39)], #[22, 27]⟩, 22, none⟩),
 (⟨[41, 2, 2], [33, 34, 35, 36, 37, 38, 39, 40, 41, 42, 43, 44, 45, 34, 36, 40, 44, 34, 2, 40, 44, 4, 45, 4, 45], [41]⟩, ⟨some 41, .fieldAddr 26 (.tmp 2) 3, 0, none⟩),
 (⟨[42, 41, 2], [33, 34, 35, 36, 37, 38, 39, 40, 41, 42, 43, 44, 45, 34, 36, 40, 44, 34, 2, 40, 44, 4, 45, 4, 45], [42]⟩, ⟨some 42, .load 22 (.tmp 41), 22, none⟩),
 (⟨[43, 5, 5], [33, 34, 35, 36, 37, 38, 39, 40, 41, 42, 43, 44, 45, 34, 36, 40, 44, 34, 2, 40, 44, 4, 45, 4, 45], [43]⟩, ⟨some 43, .move (.tmp 5), 27, none⟩),
 (⟨[44, 42, 43, 2, 5], [33, 34, 35, 36, 37, 38, 39, 40, 41, 42, 43, 44, 45, 34, 36, 40, 44, 34, 2, 40, 44, 4, 45, 4, 45], [44]⟩, ⟨some 44, .call ⟨(.value (.func 40)), #[(.tmp 42), (.tmp 43)], #[22, 27]⟩, 22, none⟩),
 (⟨[45, 34, 36, 40, 44, 34, 2, 40, 44], [33, 34, 35, 36, 37, 38, 39, 40, 41, 42, 43, 44, 45, 34, 36, 40, 44, 34, 2, 40, 44, 4, 45, 4, 45], [45, 34, 36, 40, 44, 34, 2, 40, 44]⟩, ⟨some 45, .build 26 #[(0, (.tmp 34)), (1, (.tmp 36)), (2, (.tmp 40)), (3, (.tmp 44))], 26, none⟩),
 (⟨[4, 45, 4, 45], [33, 34, 35, 36, 37, 38, 39, 40, 41, 42, 43, 44, 45, 34, 36, 40, 44, 34, 2, 40, 44, 4, 45, 4, 45], [4, 45, 4, 45]⟩, ⟨none, .store 26 (.tmp 4) (.tmp 45), 0, none⟩)])
 .ret))))
theorem slim21 : Tryz.f21.body.map (slim lends) = some k21 := by kernel_rfl
theorem ok21 : fnOk Tryz.f21 2 = true := by kernel_rfl
theorem c21 {a l : List D} {r : D × List D} (h : wpD Y.env k21 (fin tys l.length [ResultVar.cell 4 26] r) (entry a l)) (ha : a.length = 2) : Y.call 21 a l = some r :=
 call_slim (Y := Y) rfl Tryz.func21 (ha ▸ ok21) slim21 h
def s_prKeep_l0_M (pL pD : Int) (pN pE : List (List Int)) (keep to : List Int) (t14_ : Int) (s : St) : Prop := s.v 1 = D.sl 3 (lst (D.int .i64) keep) ∧ s.v 2 = D.box [D.int .i64 pL, D.int .i64 pD, D.sl 27 (lst (fun x => D.sl 3 (lst (D.int .i64) x)) pN), D.sl 27 (lst (fun x => D.sl 3 (lst (D.int .i64) x)) pE)] ∧ s.v 4 = D.box [D.int .i64 0, D.int .i64 0, D.own 27 [], D.own 27 []] ∧ s.v 5 = D.own 3 (lst (D.int .i64) to) ∧ s.v 13 = D.int .i64 ((List.replicate pL.toNat 0).length : Int) ∧ s.v 14 = D.int .i64 t14_
def s_prKeep_l0_X (pL pD : Int) (pN pE : List (List Int)) (keep : List Int) (r : (List Int)) (ex : Ex) (s : St) : Prop := ex = .exit 0 ∧ s.v 1 = D.sl 3 (lst (D.int .i64) keep) ∧ s.v 2 = D.box [D.int .i64 pL, D.int .i64 pD, D.sl 27 (lst (fun x => D.sl 3 (lst (D.int .i64) x)) pN), D.sl 27 (lst (fun x => D.sl 3 (lst (D.int .i64) x)) pE)] ∧ s.v 4 = D.box [D.int .i64 0, D.int .i64 0, D.own 27 [], D.own 27 []] ∧ s.v 5 = D.own 3 (lst (D.int .i64) r)
theorem s_prKeep_l0_wp (pL pD : Int) (pN pE : List (List Int)) (keep : List Int) {v : (List Int) × Int} {s : St} {r : (List Int)} (h : s_prKeep_l0 pL pD pN pE keep v = some r) (hM : s_prKeep_l0_M pL pD pN pE keep v.1 v.2 s) : wpD Y.env k21_l0 (s_prKeep_l0_X pL pD pN pE keep r) s := by
 unfold s_prKeep_l0 at h
 refine wd_itO (c := k21_l0b) (fun v => s_prKeep_l0_S pL pD pN pE keep v.1 v.2) (fun v s => s_prKeep_l0_M pL pD pN pE keep v.1 v.2 s) (s_prKeep_l0_X pL pD pN pE keep) ?_ h hM
 clear h hM s v r
 intro v s o hM h
 obtain ⟨to, t14_⟩ := v
 dsimp only at h hM
 unfold s_prKeep_l0_S at h
 unfold s_prKeep_l0_M at hM
 obtain ⟨m0, m1, m2, m3, m4, m5⟩ := hM
 unfold k21_l0b
 by_cases e2 : t14_ < ((List.replicate pL.toNat 0).length : Int)
 ·rw [if_pos e2] at h
  obtain ⟨e3, h⟩ := ckS h
  cases h
  simp (maxDischargeDepth := 9) only [↓xpre, xpost, xlst, xcore, yset, ↓reduceIte, Nat.reduceEqDiff, Nat.reduceLT, Int.reduceNeg, m0, m1, m2, m3, m4, m5, e2, e3.1, e3.2, s_prKeep_l0_M, sxN]
 ·rw [if_neg e2] at h
  cases h
  simp (maxDischargeDepth := 9) only [↓xpre, xpost, yset, ↓reduceIte, Nat.reduceEqDiff, Nat.reduceLT, Int.reduceNeg, m0, m1, m2, m3, m4, m5, e2, s_prKeep_l0_M, s_prKeep_l0_X, sxE]
def s_prKeep_l1_M (pL pD : Int) (pN pE : List (List Int)) (keep to : List Int) (t23_ : Int) (s : St) : Prop := s.v 1 = D.sl 3 (lst (D.int .i64) keep) ∧ s.v 2 = D.box [D.int .i64 pL, D.int .i64 pD, D.sl 27 (lst (fun x => D.sl 3 (lst (D.int .i64) x)) pN), D.sl 27 (lst (fun x => D.sl 3 (lst (D.int .i64) x)) pE)] ∧ s.v 4 = D.box [D.int .i64 0, D.int .i64 0, D.own 27 [], D.own 27 []] ∧ s.v 5 = D.own 3 (lst (D.int .i64) to) ∧ s.v 21 = D.sl 3 (lst (D.int .i64) keep) ∧ s.v 22 = D.int .i64 (keep.length : Int) ∧ s.v 23 = D.int .i64 t23_
def s_prKeep_l1_X (pL pD : Int) (pN pE : List (List Int)) (keep : List Int) (r : (List Int)) (ex : Ex) (s : St) : Prop := ex = .exit 2 ∧ s.v 1 = D.sl 3 (lst (D.int .i64) keep) ∧ s.v 2 = D.box [D.int .i64 pL, D.int .i64 pD, D.sl 27 (lst (fun x => D.sl 3 (lst (D.int .i64) x)) pN), D.sl 27 (lst (fun x => D.sl 3 (lst (D.int .i64) x)) pE)] ∧ s.v 4 = D.box [D.int .i64 0, D.int .i64 0, D.own 27 [], D.own 27 []] ∧ s.v 5 = D.sl 3 (lst (D.int .i64) r)
theorem s_prKeep_l1_wp (pL pD : Int) (pN pE : List (List Int)) (keep : List Int) {v : (List Int) × Int} {s : St} {r : (List Int)} (h : s_prKeep_l1 pL pD pN pE keep v = some r) (hM : s_prKeep_l1_M pL pD pN pE keep v.1 v.2 s) : wpD Y.env k21_l1 (s_prKeep_l1_X pL pD pN pE keep r) s := by
 unfold s_prKeep_l1 at h
 refine wd_itO (c := k21_l1b) (fun v => s_prKeep_l1_S pL pD pN pE keep v.1 v.2) (fun v s => s_prKeep_l1_M pL pD pN pE keep v.1 v.2 s) (s_prKeep_l1_X pL pD pN pE keep) ?_ h hM
 clear h hM s v r
 intro v s o hM h
 obtain ⟨to, t23_⟩ := v
 dsimp only at h hM
 unfold s_prKeep_l1_S at h
 unfold s_prKeep_l1_M at hM
 obtain ⟨m0, m1, m2, m3, m4, m5, m6⟩ := hM
 unfold k21_l1b
 by_cases e4 : t23_ < (keep.length : Int)
 ·rw [if_pos e4] at h
  obtain ⟨e5, h⟩ := ckS h
  obtain ⟨e6, h⟩ := ckS h
  cases h
  simp (maxDischargeDepth := 9) only [↓xpre, xpost, xlst, xcore, yset, ↓reduceIte, Nat.reduceEqDiff, Nat.reduceLT, Nat.reduceSub, m0, m1, m2, m3, m4, m5, m6, e4, e5.1, e5.2, e6.1, e6.2, s_prKeep_l1_M, sxN]
 ·rw [if_neg e4] at h
  cases h
  simp (maxDischargeDepth := 9) only [↓xpre, xpost, xlst, xcore, yset, ↓reduceIte, Nat.reduceEqDiff, Nat.reduceLT, Nat.reduceSub, m0, m1, m2, m3, m5, m6, e4, s_prKeep_l1_M, s_prKeep_l1_X, sxE]
theorem s_prKeep_call (pL pD : Int) (pN pE : List (List Int)) (keep : List Int) {r : Int × Int × (List (List Int)) × (List (List Int))} (h : s_prKeep pL pD pN pE keep = some r) : Y.call 21 [D.agg [D.int .i64 pL, D.int .i64 pD, D.sl 27 (lst (fun x => D.sl 3 (lst (D.int .i64) x)) pN), D.sl 27 (lst (fun x => D.sl 3 (lst (D.int .i64) x)) pE)], D.sl 3 (lst (D.int .i64) keep)] [] = some (D.agg [D.int .i64 r.1, D.int .i64 r.2.1, D.sl 27 (lst (fun x => D.sl 3 (lst (D.int .i64) x)) r.2.2.1), D.sl 27 (lst (fun x => D.sl 3 (lst (D.int .i64) x)) r.2.2.2)], []) := by
 refine c21 ?_ rfl
 unfold k21
 unfold s_prKeep at h
 obtain ⟨e1, h⟩ := ckS h
 obtain ⟨r3_, hl3, h⟩ := bindS h
 try dsimp only at h
 simp (maxDischargeDepth := 9) only [↓xpre, xpost, xlst, xcore, yset, ↓reduceIte, Nat.reduceEqDiff, Nat.reduceLT, Nat.reduceAdd, e1.1, e1.2]
 refine wd_mono (s_prKeep_l0_wp pL pD pN pE keep hl3 ?_) ?_
 ·simp (maxDischargeDepth := 9) only [xpost, xcore, ↓reduceIte, Nat.reduceEqDiff, Nat.reduceLT, s_prKeep_l0_M] <;> (repeat' apply And.intro) <;> first | rfl | exact ⟨_, rfl⟩ | simp [lst]
 ·intro ex3 s3 hX3
  unfold s_prKeep_l0_X at hX3
  obtain ⟨rfl, n3_0, n3_1, n3_2, n3_3⟩ := hX3
  obtain ⟨r5_, hl5, h⟩ := bindS h
  try dsimp only at h
  simp (maxDischargeDepth := 9) only [↓xpre, xpost, xlst, yset, ↓reduceIte, n3_0]
  refine wd_mono (s_prKeep_l1_wp pL pD pN pE keep hl5 ?_) ?_
  ·simp (maxDischargeDepth := 9) only [xpost, ↓reduceIte, Nat.reduceEqDiff, n3_0, n3_1, n3_2, n3_3, s_prKeep_l1_M]
  ·intro ex5 s5 hX5
   unfold s_prKeep_l1_X at hX5
   obtain ⟨rfl, n5_0, n5_1, n5_2, n5_3⟩ := hX5
   obtain ⟨r6_, hl6, h⟩ := bindS h
   try dsimp only at h
   have c6 := s_prMap_call pN r5_ hl6
   obtain ⟨r7_, hl7, h⟩ := bindS h
   try dsimp only at h
   have c7 := s_prMap_call pE r5_ hl7
   cases h
   simp (maxDischargeDepth := 9) only [↓xpre, xpost, xlst, xcore, yset, ↓reduceIte, Nat.reduceEqDiff, Nat.reduceLT, Nat.reduceLeDiff, Nat.reduceAdd, Nat.reduceBEq, n5_0, n5_1, n5_2, n5_3, c6, c7]

noncomputable def i_numbersTo_l0_S (n_ : Int) (out : List Int) (t9_ : Int) : Option (((List Int) × Int) ⊕ ((List Int))) :=
 if t9_ < ((List.replicate n_.toNat 0).length : Int) then
  ck (0 ≤ t9_ ∧ t9_.toNat < out.length) <|
  some (Sum.inl ((out.set t9_.toNat t9_), IntKind.i64.wrap (t9_ + 1)))
 else
  some (Sum.inr out)
noncomputable def i_numbersTo_l0 (n_ : Int) (v : (List Int) × Int) : Option ((List Int)) := itO (fun v => i_numbersTo_l0_S n_ v.1 v.2) v
noncomputable def i_numbersTo (n_ : Int) : Option ((List Int)) :=
 ck (0 ≤ n_ ∧ n_ < 1099511627776) <|
 (i_numbersTo_l0 n_ ((List.replicate n_.toNat 0), 0)).bind fun r3_ =>
 some r3_
/-- impl.numbersTo -/
def k26_l0b : SC :=
 .seq
 (.ops [
 ⟨some 10, .binOp .lss 3 (.tmp 9) (.tmp 8) 3, 0, none⟩])
 (.seq
 (.cond (.tmp 10)
 .skip
 (.exit 0))
 (.seq
 (.block 1
 (.seq
 (.ops [
 ⟨some 11, .move (.tmp 9), 3, none⟩,
 ⟨some 4, .assign (.tmp 11), 3, none⟩])
 (.ops [
 ⟨some 12, .move (.tmp 3), 27, none⟩,
 ⟨some 13, .move (.tmp 4), 3, none⟩,
 ⟨some 14, .move (.tmp 4), 3, none⟩,
 ⟨some 15, .indexAddr 27 (.tmp 12) (.tmp 13), 0, none⟩,
 ⟨none, .store 3 (.tmp 15) (.tmp 14), 0, none⟩])))
 (.ops [
 ⟨some 16, .binOp .add 3 (.tmp 9) (.const (.int .i64 1)) 3, 3, none⟩,
 ⟨some 9, .move (.tmp 16), 3, none⟩])))
def k26_l0 : SC := .loop k26_l0b
def k26 : SC :=
 .seq
 (.ops [
 ⟨some 2, .assign (.const (.slice none 0 0)), 27, none⟩])
 (.seq
 (.ops [
 ⟨some 5, .move (.tmp 0), 3, none⟩,
 ⟨some 6, .makeSlice 27 (.tmp 5) (.tmp 5), 27, none⟩,
 ⟨some 3, .assign (.tmp 6), 27, none⟩])
 (.seq
 (.seq
 (.ops [
 ⟨some 7, .move (.tmp 3), 27, none⟩,
 ⟨some 8, .call ⟨(.builtin .len), #[(.tmp 7)], #[27]⟩, 3, none⟩,
 ⟨some 9, .move (.const (.int .i64 0)), 3, none⟩])
 (.block 0
 k26_l0))
 (.seq
 (.ops [
 ⟨some 17, .move (.tmp 3), 27, none⟩,
 ⟨some 2, .assign (.tmp 17), 27, none⟩])
 .ret)))
theorem slim26 : Tryz.f26.body.map (slim lends) = some k26 := by kernel_rfl
theorem ok26 : fnOk Tryz.f26 1 = true := by kernel_rfl
theorem c26 {a l : List D} {r : D × List D} (h : wpD Y.env k26 (fin tys l.length [ResultVar.tmp 2] r) (entry a l)) (ha : a.length = 1) : Y.call 26 a l = some r :=
 call_slim (Y := Y) rfl Tryz.func26 (ha ▸ ok26) slim26 h
def i_numbersTo_l0_M (n_ : Int) (out : List Int) (t9_ : Int) (s : St) : Prop := s.v 3 = D.own 3 (lst (D.int .i64) out) ∧ s.v 8 = D.int .i64 ((List.replicate n_.toNat 0).length : Int) ∧ s.v 9 = D.int .i64 t9_
def i_numbersTo_l0_X (n_ : Int) (r : (List Int)) (ex : Ex) (s : St) : Prop := ex = .exit 0 ∧ s.v 3 = D.own 3 (lst (D.int .i64) r)
theorem i_numbersTo_l0_wp (n_ : Int) {v : (List Int) × Int} {s : St} {r : (List Int)} (h : i_numbersTo_l0 n_ v = some r) (hM : i_numbersTo_l0_M n_ v.1 v.2 s) : wpD Y.env k26_l0 (i_numbersTo_l0_X n_ r) s := by
 unfold i_numbersTo_l0 at h
 refine wd_itO (c := k26_l0b) (fun v => i_numbersTo_l0_S n_ v.1 v.2) (fun v s => i_numbersTo_l0_M n_ v.1 v.2 s) (i_numbersTo_l0_X n_) ?_ h hM
 clear h hM s v r
 intro v s o hM h
 obtain ⟨out, t9_⟩ := v
 dsimp only at h hM
 unfold i_numbersTo_l0_S at h
 unfold i_numbersTo_l0_M at hM
 obtain ⟨m0, m1, m2⟩ := hM
 unfold k26_l0b
 by_cases e2 : t9_ < ((List.replicate n_.toNat 0).length : Int)
 ·rw [if_pos e2] at h
  obtain ⟨e3, h⟩ := ckS h
  cases h
  simp (maxDischargeDepth := 9) only [↓xpre, xpost, xlst, xcore, yset, ↓reduceIte, Nat.reduceEqDiff, Nat.reduceLT, m0, m1, m2, e2, e3.1, e3.2, i_numbersTo_l0_M, sxN]
 ·rw [if_neg e2] at h
  cases h
  simp (maxDischargeDepth := 9) only [↓xpre, xpost, yset, ↓reduceIte, Nat.reduceEqDiff, Nat.reduceLT, m0, m1, m2, e2, i_numbersTo_l0_M, i_numbersTo_l0_X, sxE]
theorem i_numbersTo_call (n_ : Int) {r : (List Int)} (h : i_numbersTo n_ = some r) : Y.call 26 [D.int .i64 n_] [] = some (D.own 3 (lst (D.int .i64) r), []) := by
 refine c26 ?_ rfl
 unfold k26
 unfold i_numbersTo at h
 obtain ⟨e1, h⟩ := ckS h
 obtain ⟨r3_, hl3, h⟩ := bindS h
 try dsimp only at h
 simp (maxDischargeDepth := 9) only [↓xpre, xpost, xlst, xcore, yset, ↓reduceIte, Nat.reduceEqDiff, Nat.reduceLT, Nat.reduceAdd, e1.1, e1.2]
 refine wd_mono (i_numbersTo_l0_wp n_ hl3 ?_) ?_
 ·simp (maxDischargeDepth := 9) only [xpost, ↓reduceIte, Nat.reduceEqDiff, i_numbersTo_l0_M] <;> (repeat' apply And.intro) <;> first | rfl | exact ⟨_, rfl⟩ | simp [lst]
 ·intro ex3 s3 hX3
  unfold i_numbersTo_l0_X at hX3
  obtain ⟨rfl, n3_0⟩ := hX3
  cases h
  simp (maxDischargeDepth := 9) only [↓xpre, xpost, xlst, xcore, ↓reduceIte, Nat.reduceEqDiff, Nat.reduceLT, n3_0]

noncomputable def i_copyLists_l0_S (l out : List (List Int)) (t10_ : Int) : Option (((List (List Int)) × Int) ⊕ ((List (List Int)))) :=
 if t10_ < (l.length : Int) then
  ck (0 ≤ t10_ ∧ t10_.toNat < l.length) <|
  ck ((l.getD t10_.toNat default).length < 1099511627776) <|
  ck (0 ≤ t10_ ∧ t10_.toNat < out.length) <|
  some (Sum.inl ((out.set t10_.toNat (l.getD t10_.toNat default)), IntKind.i64.wrap (t10_ + 1)))
 else
  some (Sum.inr out)
noncomputable def i_copyLists_l0 (l : List (List Int)) (v : (List (List Int)) × Int) : Option ((List (List Int))) := itO (fun v => i_copyLists_l0_S l v.1 v.2) v
noncomputable def i_copyLists (l : List (List Int)) : Option ((List (List Int))) :=
 ck (0 ≤ (l.length : Int) ∧ (l.length : Int) < 1099511627776) <|
 (i_copyLists_l0 l ((List.replicate l.length []), 0)).bind fun r3_ =>
 some r3_
/-- impl.copyLists -/
def k44_l0b : SC :=
 .seq
 (.ops [
 ⟨some 11, .binOp .lss 3 (.tmp 10) (.tmp 9) 3, 0, none⟩])
 (.seq
 (.cond (.tmp 11)
 .skip
 (.exit 0))
 (.seq
 (.block 1
 (.seq
 (.ops [
 ⟨some 12, .move (.tmp 10), 3, none⟩,
 ⟨some 4, .assign (.tmp 12), 3, none⟩])
 (.ops [
 ⟨some 13, .move (.tmp 3), 22, none⟩,
 ⟨some 14, .move (.tmp 4), 3, none⟩,
 ⟨some 15, .move (.tmp 0), 22, none⟩,
 ⟨some 16, .move (.tmp 4), 3, none⟩,
 ⟨some 17, .indexAddr 22 (.tmp 15) (.tmp 16), 0, none⟩,
 ⟨some 18, .load 27 (.tmp 17), 27, none⟩,
 ⟨some 19, .call ⟨(.value (.func 65)), #[(.tmp 18)], #[27]⟩, 27, none⟩,
 ⟨some 20, .indexAddr 22 (.tmp 13) (.tmp 14), 0, none⟩,
 ⟨none, .store 27 (.tmp 20) (.tmp 19), 0, none⟩])))
 (.ops [
 ⟨some 21, .binOp .add 3 (.tmp 10) (.const (.int .i64 1)) 3, 3, none⟩,
 ⟨some 10, .move (.tmp 21), 3, none⟩])))
def k44_l0 : SC := .loop k44_l0b
def k44 : SC :=
 .seq
 (.ops [
 ⟨some 2, .assign (.const (.slice none 0 0)), 22, none⟩])
 (.seq
 (.ops [
 ⟨some 5, .move (.tmp 0), 22, none⟩,
 ⟨some 6, .call ⟨(.builtin .len), #[(.tmp 5)], #[22]⟩, 3, none⟩,
 ⟨some 7, .makeSlice 22 (.tmp 6) (.tmp 6), 22, none⟩,
 ⟨some 3, .assign (.tmp 7), 22, none⟩])
 (.seq
 (.seq
 (.ops [
 ⟨some 8, .move (.tmp 0), 22, none⟩,
 ⟨some 9, .call ⟨(.builtin .len), #[(.tmp 8)], #[22]⟩, 3, none⟩,
 ⟨some 10, .move (.const (.int .i64 0)), 3, none⟩])
 (.block 0
 k44_l0))
 (.seq
 (.ops [
 ⟨some 22, .move (.tmp 3), 22, none⟩,
 ⟨some 2, .assign (.tmp 22), 22, none⟩])
 .ret)))
theorem slim44 : Tryz.f44.body.map (slim lends) = some k44 := by kernel_rfl
theorem ok44 : fnOk Tryz.f44 1 = true := by kernel_rfl
theorem c44 {a l : List D} {r : D × List D} (h : wpD Y.env k44 (fin tys l.length [ResultVar.tmp 2] r) (entry a l)) (ha : a.length = 1) : Y.call 44 a l = some r :=
 call_slim (Y := Y) rfl Tryz.func44 (ha ▸ ok44) slim44 h
def i_copyLists_l0_M (l out : List (List Int)) (t10_ : Int) (s : St) : Prop := s.v 0 = D.sl 27 (lst (fun x => D.sl 3 (lst (D.int .i64) x)) l) ∧ s.v 3 = D.own 27 (lst (fun x => D.own 3 (lst (D.int .i64) x)) out) ∧ s.v 9 = D.int .i64 (l.length : Int) ∧ s.v 10 = D.int .i64 t10_
def i_copyLists_l0_X (l : List (List Int)) (r : (List (List Int))) (ex : Ex) (s : St) : Prop := ex = .exit 0 ∧ s.v 3 = D.own 27 (lst (fun x => D.own 3 (lst (D.int .i64) x)) r)
theorem i_copyLists_l0_wp (l : List (List Int)) {v : (List (List Int)) × Int} {s : St} {r : (List (List Int))} (h : i_copyLists_l0 l v = some r) (hM : i_copyLists_l0_M l v.1 v.2 s) : wpD Y.env k44_l0 (i_copyLists_l0_X l r) s := by
 unfold i_copyLists_l0 at h
 refine wd_itO (c := k44_l0b) (fun v => i_copyLists_l0_S l v.1 v.2) (fun v s => i_copyLists_l0_M l v.1 v.2 s) (i_copyLists_l0_X l) ?_ h hM
 clear h hM s v r
 intro v s o hM h
 obtain ⟨out, t10_⟩ := v
 dsimp only at h hM
 unfold i_copyLists_l0_S at h
 unfold i_copyLists_l0_M at hM
 obtain ⟨m0, m1, m2, m3⟩ := hM
 unfold k44_l0b
 by_cases e2 : t10_ < (l.length : Int)
 ·rw [if_pos e2] at h
  obtain ⟨e3, h⟩ := ckS h
  obtain ⟨e4, h⟩ := ckS h
  have c5 := g_slices_Clone_Sint_int_cl (l.getD t10_.toNat default) e4
  obtain ⟨e6, h⟩ := ckS h
  cases h
  simp (maxDischargeDepth := 9) only [↓xpre, xpost, xlst, xcore, yset, ↓reduceIte, Nat.reduceEqDiff, Nat.reduceLT, Nat.reduceAdd, m0, m1, m2, m3, e2, e3.1, e3.2, c5, e6.2, i_copyLists_l0_M, sxN]
 ·rw [if_neg e2] at h
  cases h
  simp (maxDischargeDepth := 9) only [↓xpre, xpost, yset, ↓reduceIte, Nat.reduceEqDiff, Nat.reduceLT, m1, m2, m3, e2, i_copyLists_l0_M, i_copyLists_l0_X, sxE]
theorem i_copyLists_call (l : List (List Int)) {r : (List (List Int))} (h : i_copyLists l = some r) : Y.call 44 [D.sl 27 (lst (fun x => D.sl 3 (lst (D.int .i64) x)) l)] [] = some (D.own 27 (lst (fun x => D.own 3 (lst (D.int .i64) x)) r), []) := by
 refine c44 ?_ rfl
 unfold k44
 unfold i_copyLists at h
 obtain ⟨e1, h⟩ := ckS h
 obtain ⟨r3_, hl3, h⟩ := bindS h
 try dsimp only at h
 simp (maxDischargeDepth := 9) only [↓xpre, xpost, xlst, xcore, yset, ↓reduceIte, Nat.reduceEqDiff, Nat.reduceLT, e1.1, e1.2]
 refine wd_mono (i_copyLists_l0_wp l hl3 ?_) ?_
 ·simp (maxDischargeDepth := 9) only [xpost, xcore, ↓reduceIte, Nat.reduceEqDiff, Nat.reduceLT, i_copyLists_l0_M]
 ·intro ex3 s3 hX3
  unfold i_copyLists_l0_X at hX3
  obtain ⟨rfl, n3_0⟩ := hX3
  cases h
  simp (maxDischargeDepth := 9) only [↓xpre, xpost, xlst, xcore, ↓reduceIte, Nat.reduceEqDiff, Nat.reduceLT, n3_0]

noncomputable def i_copyProblem (pL pD : Int) (pN pE : List (List Int)) : Option (Int × Int × (List (List Int)) × (List (List Int))) :=
 (i_copyLists pN).bind fun r1_ =>
 (i_copyLists pE).bind fun r2_ =>
 some (pL, pD, r1_, r2_)
/-- impl.copyProblem -/
def k25 : SC :=
 .seq
 (.ops [
 ⟨some 1, .box 26 (.tmp 0), 0, none⟩,
 ⟨some 2, .alloc 26, 0, none⟩])
 (.seq
 (.draws [
 (⟨[3, 1, 1], [3, 4, 5, 6, 7, 8, 9, 9, 5, 1, 5, 10, 10, 8, 1, 8], [3]⟩, ⟨some 3, .fieldAddr 26 (.tmp 1) 2, 0, none⟩),
 (⟨[4, 3, 1], [3, 4, 5, 6, 7, 8, 9, 9, 5, 1, 5, 10, 10, 8, 1, 8], [4]⟩, ⟨some 4, .load 22 (.tmp 3), 22, none⟩),
 (⟨[5, 4, 1], [3, 4, 5, 6, 7, 8, 9, 9, 5, 1, 5, 10, 10, 8, 1, 8], [5]⟩, ⟨some 5, .call ⟨(.value (.func 44)), #[(.tmp 4)], #[22]⟩, 22, none⟩),
 (⟨[6, 1, 1], [3, 4, 5, 6, 7, 8, 9, 9, 5, 1, 5, 10, 10, 8, 1, 8], [6]⟩, ⟨some 6, .fieldAddr 26 (.tmp 1) 3, 0, none⟩),
 (⟨[7, 6, 1], [3, 4, 5, 6, 7, 8, 9, 9, 5, 1, 5, 10, 10, 8, 1, 8], [7]⟩, ⟨some 7, .load 22 (.tmp 6), 22, none⟩),
 (⟨[8, 7, 1], [3, 4, 5, 6, 7, 8, 9, 9, 5, 1, 5, 10, 10, 8, 1, 8], [8]⟩, ⟨some 8, .call ⟨(.value (.func 44)), #[(.tmp 7)], #[22]⟩, 22, none⟩),
 (⟨[9, 1, 1], [3, 4, 5, 6, 7, 8, 9, 9, 5, 1, 5, 10, 10, 8, 1, 8], [9]⟩, ⟨some 9, .fieldAddr 26 (.tmp 1) 2, 0, none⟩),
 (⟨[9, 5, 1, 5], [3, 4, 5, 6, 7, 8, 9, 9, 5, 1, 5, 10, 10, 8, 1, 8], [9, 5, 1, 5]⟩, ⟨none, .store 22 (.tmp 9) (.tmp 5), 0, none⟩),
 (⟨[10, 1, 1], [3, 4, 5, 6, 7, 8, 9, 9, 5, 1, 5, 10, 10, 8, 1, 8], [10]⟩, ⟨some 10, .fieldAddr 26 (.tmp 1) 3, 0, none⟩),
 (⟨[10, 8, 1, 8], [3, 4, 5, 6, 7, 8, 9, 9, 5, 1, 5, 10, 10, 8, 1, 8], [10, 8, 1, 8]⟩, ⟨none, .store 22 (.tmp 10) (.tmp 8), 0, none⟩)])
 (.seq
 (.ops [
 ⟨some 11, .load 26 (.tmp 1), 26, none⟩,
 ⟨none, .store 26 (.tmp 2) (.tmp 11), 0, none⟩])
 .ret))
theorem slim25 : Tryz.f25.body.map (slim lends) = some k25 := by kernel_rfl
theorem ok25 : fnOk Tryz.f25 1 = true := by kernel_rfl
theorem c25 {a l : List D} {r : D × List D} (h : wpD Y.env k25 (fin tys l.length [ResultVar.cell 2 26] r) (entry a l)) (ha : a.length = 1) : Y.call 25 a l = some r :=
 call_slim (Y := Y) rfl Tryz.func25 (ha ▸ ok25) slim25 h
theorem i_copyProblem_call (pL pD : Int) (pN pE : List (List Int)) {r : Int × Int × (List (List Int)) × (List (List Int))} (h : i_copyProblem pL pD pN pE = some r) : Y.call 25 [D.agg [D.int .i64 pL, D.int .i64 pD, D.sl 27 (lst (fun x => D.sl 3 (lst (D.int .i64) x)) pN), D.sl 27 (lst (fun x => D.sl 3 (lst (D.int .i64) x)) pE)]] [] = some (D.agg [D.int .i64 r.1, D.int .i64 r.2.1, D.own 27 (lst (fun x => D.own 3 (lst (D.int .i64) x)) r.2.2.1), D.own 27 (lst (fun x => D.own 3 (lst (D.int .i64) x)) r.2.2.2)], []) := by
 refine c25 ?_ rfl
 unfold k25
 unfold i_copyProblem at h
 obtain ⟨r1_, hl1, h⟩ := bindS h
 try dsimp only at h
 have c1 := i_copyLists_call pN hl1
 obtain ⟨r2_, hl2, h⟩ := bindS h
 try dsimp only at h
 have c2 := i_copyLists_call pE hl2
 cases h
 simp (maxDischargeDepth := 9) only [↓xpre, xpost, xlst, xcore, yset, ↓reduceIte, Nat.reduceEqDiff, Nat.reduceLT, Nat.reduceAdd, Nat.reduceBEq, c1, c2]

noncomputable def i_DropWeaker_l0_S (out_0 out_1 : Int) (out_2 out_3 : List (List Int)) (left : List Int) (a : Int) : Option ((Int × Int × (List (List Int)) × (List (List Int)) × (List Int) × Int) ⊕ (Int × Int × (List (List Int)) × (List (List Int)) × (List Int))) :=
 if 0 ≤ a then
  (i_numbersTo out_0).bind fun r9_ =>
  ck (0 < r9_.length ∧ 0 ≤ a ∧ a ≤ (IntKind.i64.wrap (a + 1)) ∧ (IntKind.i64.wrap (a + 1)) ≤ (r9_.length : Int)) <|
  (i_keepLabels out_0 out_1 out_2 out_3 (cutL r9_ a.toNat (IntKind.i64.wrap (a + 1)).toNat)).bind fun r12_ =>
  ck (0 < left.length ∧ 0 ≤ a ∧ a ≤ (IntKind.i64.wrap (a + 1)) ∧ (IntKind.i64.wrap (a + 1)) ≤ (left.length : Int)) <|
  (i_weakest r12_.1 r12_.2.1 r12_.2.2.1 r12_.2.2.2).bind fun r15_ =>
  some (Sum.inl (r12_.1, r12_.2.1, r12_.2.2.1, r12_.2.2.2, (cutL left a.toNat (IntKind.i64.wrap (a + 1)).toNat), r15_))
 else
  some (Sum.inr (out_0, out_1, out_2, out_3, left))
noncomputable def i_DropWeaker_l0 (v : Int × Int × (List (List Int)) × (List (List Int)) × (List Int) × Int) : Option (Int × Int × (List (List Int)) × (List (List Int)) × (List Int)) := itO (fun v => i_DropWeaker_l0_S v.1 v.2.1 v.2.2.1 v.2.2.2.1 v.2.2.2.2.1 v.2.2.2.2.2) v
noncomputable def i_DropWeaker (pL pD : Int) (pN pE : List (List Int)) : Option (Int × Int × (List (List Int)) × (List (List Int)) × (List Int) × Bool) :=
 ck (Short pN) <|
 ck (Short pE) <|
 if (isProb pL pD pN pE) = true then
  (i_copyProblem pL pD pN pE).bind fun r5_ =>
  (i_numbersTo pL).bind fun r6_ =>
  (i_weakest r5_.1 r5_.2.1 r5_.2.2.1 r5_.2.2.2).bind fun r7_ =>
  (i_DropWeaker_l0 (r5_.1, r5_.2.1, r5_.2.2.1, r5_.2.2.2, r6_, r7_)).bind fun r9_ =>
  some (r9_.1, r9_.2.1, r9_.2.2.1, r9_.2.2.2.1, r9_.2.2.2.2, true)
 else
  some (0, 0, [], [], [], false)
/-- impl.DropWeaker -/
def k8_l0b : SC :=
 .seq
 (.seq
 (.ops [
 ⟨some 20, .move (.tmp 7), 3, none⟩,
 ⟨some 21, .binOp .geq 3 (.tmp 20) (.const (.int .i64 0)) 3, 4, none⟩])
 (.cond (.tmp 21)
 .skip
 (.exit 0)))
 (.seq
 (.block 1
 (.seq
 (.ops [
 ⟨some 24, .fieldAddr 26 (.tmp 5) 0, 0, none⟩,
 ⟨some 25, .load 3 (.tmp 24), 3, none⟩,
 ⟨some 26, .call ⟨(.value (.func 26)), #[(.tmp 25)], #[3]⟩, 27, none⟩,
 ⟨some 8, .assign (.tmp 26), 27, none⟩])
 (.seq
 (.draws [
 (⟨[27, 5, 5], [27, 28, 29, 30, 31, 32, 28, 29, 31, 8, 7, 31, 33, 5, 33, 5, 33], [27]⟩, ⟨some 27, .load 26 (.tmp 5), 26, none⟩),
 (⟨[28, 8, 8], [27, 28, 29, 30, 31, 32, 28, 29, 31, 8, 7, 31, 33, 5, 33, 5, 33], [28]⟩, ⟨some 28, .move (.tmp 8), 27, none⟩),
 (⟨[29, 7, 7], [27, 28, 29, 30, 31, 32, 28, 29, 31, 8, 7, 31, 33, 5, 33, 5, 33], [29]⟩, ⟨some 29, .move (.tmp 7), 3, none⟩),
 (⟨[30, 7, 7], [27, 28, 29, 30, 31, 32, 28, 29, 31, 8, 7, 31, 33, 5, 33, 5, 33], [30]⟩, ⟨some 30, .move (.tmp 7), 3, none⟩),
 (⟨[31, 30, 7], [27, 28, 29, 30, 31, 32, 28, 29, 31, 8, 7, 31, 33, 5, 33, 5, 33], [31]⟩, ⟨some 31, .binOp .add 3 (.tmp 30) (.const (.int .i64 1)) 3, 3, none⟩),
 (⟨[32, 28, 29, 31, 8, 7, 31], [27, 28, 29, 30, 31, 32, 28, 29, 31, 8, 7, 31, 33, 5, 33, 5, 33], [32, 28, 29, 31, 8, 7, 31]⟩, ⟨some 32, .call ⟨(.value (.func 29)), #[(.tmp 28), (.tmp 29), (.tmp 31)], #[27, 3, 3]⟩, 27, none⟩),
 (⟨[33, 27, 32, 5, 32], [27, 28, 29, 30, 31, 32, 28, 29, 31, 8, 7, 31, 33, 5, 33, 5, 33], [33]⟩, ⟨some 33, .call ⟨(.value (.func 28)), #[(.tmp 27), (.tmp 32)], #[26, 27]⟩, 26, none⟩),
 (⟨[5, 33, 5, 33], [27, 28, 29, 30, 31, 32, 28, 29, 31, 8, 7, 31, 33, 5, 33, 5, 33], [5, 33, 5, 33]⟩, ⟨none, .store 26 (.tmp 5) (.tmp 33), 0, none⟩)])
 (.ops [
 ⟨some 34, .move (.tmp 6), 27, none⟩,
 ⟨some 35, .move (.tmp 7), 3, none⟩,
 ⟨some 36, .move (.tmp 7), 3, none⟩,
 ⟨some 37, .binOp .add 3 (.tmp 36) (.const (.int .i64 1)) 3, 3, none⟩,
 ⟨some 38, .call ⟨(.value (.func 29)), #[(.tmp 34), (.tmp 35), (.tmp 37)], #[27, 3, 3]⟩, 27, none⟩,
 ⟨some 6, .assign (.tmp 38), 27, none⟩]))))
 (.ops [
 ⟨some 22, .load 26 (.tmp 5), 26, none⟩,
 ⟨some 23, .call ⟨(.value (.func 27)), #[(.tmp 22)], #[26]⟩, 3, none⟩,
 ⟨some 7, .assign (.tmp 23), 3, none⟩]))
def k8_l0 : SC := .loop k8_l0b
def k8 : SC :=
 .seq
 (.ops [
 ⟨some 1, .box 26 (.tmp 0), 0, none⟩,
 ⟨some 2, .alloc 26, 0, none⟩,
 ⟨some 3, .assign (.const (.slice none 0 0)), 27, none⟩,
 ⟨some 4, .assign (.const (.bool false)), 4, none⟩])
 (.seq
 (.seq
 (.ops [
 ⟨some 9, .load 26 (.tmp 1), 26, none⟩,
 ⟨some 10, .call ⟨(.value (.func 24)), #[(.tmp 9)], #[26]⟩, 4, none⟩,
 ⟨some 11, .unOp .not 4 (.tmp 10), 4, none⟩])
 (.cond (.tmp 11)
 (.seq
 (.ops [
 ⟨some 12, .build 26 #[], 26, none⟩,
 ⟨none, .store 26 (.tmp 2) (.tmp 12), 0, none⟩,
 ⟨some 3, .assign (.const (.slice none 0 0)), 27, none⟩,
 ⟨some 4, .assign (.const (.bool false)), 4, none⟩])
 .ret)
 .skip))
 (.seq
 (.draws [
 (⟨[13, 1, 1], [13, 14, 15, 16, 17, 5, 5, 14, 5, 14, 6, 17, 17], [13]⟩, ⟨some 13, .load 26 (.tmp 1), 26, none⟩),
 (⟨[14, 13, 1], [13, 14, 15, 16, 17, 5, 5, 14, 5, 14, 6, 17, 17], [14]⟩, ⟨some 14, .call ⟨(.value (.func 25)), #[(.tmp 13)], #[26]⟩, 26, none⟩),
 (⟨[15, 1, 1], [13, 14, 15, 16, 17, 5, 5, 14, 5, 14, 6, 17, 17], [15]⟩, ⟨some 15, .fieldAddr 26 (.tmp 1) 0, 0, none⟩),
 (⟨[16, 15, 1], [13, 14, 15, 16, 17, 5, 5, 14, 5, 14, 6, 17, 17], [16]⟩, ⟨some 16, .load 3 (.tmp 15), 3, none⟩),
 (⟨[17, 16, 1], [13, 14, 15, 16, 17, 5, 5, 14, 5, 14, 6, 17, 17], [17]⟩, ⟨some 17, .call ⟨(.value (.func 26)), #[(.tmp 16)], #[3]⟩, 27, none⟩),
 (⟨[5], [13, 14, 15, 16, 17, 5, 5, 14, 5, 14, 6, 17, 17], [5]⟩, ⟨some 5, .alloc 26, 0, none⟩),
 (⟨[5, 14, 5, 14], [13, 14, 15, 16, 17, 5, 5, 14, 5, 14, 6, 17, 17], [5, 14, 5, 14]⟩, ⟨none, .store 26 (.tmp 5) (.tmp 14), 0, none⟩),
 (⟨[6, 17, 17], [13, 14, 15, 16, 17, 5, 5, 14, 5, 14, 6, 17, 17], [6, 17, 17]⟩, ⟨some 6, .assign (.tmp 17), 27, none⟩)])
 (.seq
 (.seq
 (.ops [
 ⟨some 18, .load 26 (.tmp 5), 26, none⟩,
 ⟨some 19, .call ⟨(.value (.func 27)), #[(.tmp 18)], #[26]⟩, 3, none⟩,
 ⟨some 7, .assign (.tmp 19), 3, none⟩])
 (.block 0
 k8_l0))
 (.seq
 (.ops [
 ⟨some 39, .load 26 (.tmp 5), 26, none⟩,
 ⟨some 40, .move (.tmp 6), 27, none⟩,
 ⟨none, .store 26 (.tmp 2) (.tmp 39), 0, none⟩,
 ⟨some 3, .assign (.tmp 40), 27, none⟩,
 ⟨some 4, .assign (.const (.bool true)), 4, none⟩])
 .ret))))
theorem slim8 : Tryz.f8.body.map (slim lends) = some k8 := by kernel_rfl
theorem ok8 : fnOk Tryz.f8 1 = true := by kernel_rfl
theorem c8 {a l : List D} {r : D × List D} (h : wpD Y.env k8 (fin tys l.length [ResultVar.cell 2 26, ResultVar.tmp 3, ResultVar.tmp 4] r) (entry a l)) (ha : a.length = 1) : Y.call 8 a l = some r :=
 call_slim (Y := Y) rfl Tryz.func8 (ha ▸ ok8) slim8 h
def i_DropWeaker_l0_M (out_0 out_1 : Int) (out_2 out_3 : List (List Int)) (left : List Int) (a : Int) (s : St) : Prop := s.v 2 = D.box [D.int .i64 0, D.int .i64 0, D.own 27 [], D.own 27 []] ∧ s.v 5 = D.box [D.int .i64 out_0, D.int .i64 out_1, D.own 27 (lst (fun x => D.own 3 (lst (D.int .i64) x)) out_2), D.own 27 (lst (fun x => D.own 3 (lst (D.int .i64) x)) out_3)] ∧ s.v 6 = D.own 3 (lst (D.int .i64) left) ∧ s.v 7 = D.int .i64 a
def i_DropWeaker_l0_X (r : Int × Int × (List (List Int)) × (List (List Int)) × (List Int)) (ex : Ex) (s : St) : Prop := ex = .exit 0 ∧ s.v 2 = D.box [D.int .i64 0, D.int .i64 0, D.own 27 [], D.own 27 []] ∧ s.v 5 = D.box [D.int .i64 r.1, D.int .i64 r.2.1, D.own 27 (lst (fun x => D.own 3 (lst (D.int .i64) x)) r.2.2.1), D.own 27 (lst (fun x => D.own 3 (lst (D.int .i64) x)) r.2.2.2.1)] ∧ s.v 6 = D.own 3 (lst (D.int .i64) r.2.2.2.2)
theorem i_DropWeaker_l0_wp {v : Int × Int × (List (List Int)) × (List (List Int)) × (List Int) × Int} {s : St} {r : Int × Int × (List (List Int)) × (List (List Int)) × (List Int)} (h : i_DropWeaker_l0 v = some r) (hM : i_DropWeaker_l0_M v.1 v.2.1 v.2.2.1 v.2.2.2.1 v.2.2.2.2.1 v.2.2.2.2.2 s) : wpD Y.env k8_l0 (i_DropWeaker_l0_X r) s := by
 unfold i_DropWeaker_l0 at h
 refine wd_itO (c := k8_l0b) (fun v => i_DropWeaker_l0_S v.1 v.2.1 v.2.2.1 v.2.2.2.1 v.2.2.2.2.1 v.2.2.2.2.2) (fun v s => i_DropWeaker_l0_M v.1 v.2.1 v.2.2.1 v.2.2.2.1 v.2.2.2.2.1 v.2.2.2.2.2 s) (i_DropWeaker_l0_X) ?_ h hM
 clear h hM s v r
 intro v s o hM h
 obtain ⟨out_0, out_1, out_2, out_3, left, a⟩ := v
 dsimp only at h hM
 unfold i_DropWeaker_l0_S at h
 unfold i_DropWeaker_l0_M at hM
 obtain ⟨m0, m1, m2, m3⟩ := hM
 unfold k8_l0b
 by_cases e8 : 0 ≤ a
 ·rw [if_pos e8] at h
  obtain ⟨r9_, hl9, h⟩ := bindS h
  try dsimp only at h
  have c9 := i_numbersTo_call out_0 hl9
  obtain ⟨e10, h⟩ := ckS h
  have c11 := del_29 r9_ a (IntKind.i64.wrap (a + 1)) e10
  obtain ⟨r12_, hl12, h⟩ := bindS h
  try dsimp only at h
  have c12 := i_keepLabels_call out_0 out_1 out_2 out_3 (cutL r9_ a.toNat (IntKind.i64.wrap (a + 1)).toNat) hl12
  obtain ⟨e13, h⟩ := ckS h
  have c14 := del_29 left a (IntKind.i64.wrap (a + 1)) e13
  obtain ⟨r15_, hl15, h⟩ := bindS h
  try dsimp only at h
  have c15 := i_weakest_call r12_.1 r12_.2.1 r12_.2.2.1 r12_.2.2.2 hl15
  cases h
  simp (maxDischargeDepth := 9) only [↓xpre, xpost, xlst, xcore, yset, ↓reduceIte, Nat.reduceEqDiff, Nat.reduceLT, Nat.reduceAdd, Nat.reduceBEq, m0, m1, m2, m3, e8, c9, c11, c12, c14, c15, i_DropWeaker_l0_M, sxN]
 ·rw [if_neg e8] at h
  cases h
  simp (maxDischargeDepth := 9) only [↓xpre, xpost, yset, ↓reduceIte, Nat.reduceEqDiff, Nat.reduceLT, m0, m1, m2, m3, e8, i_DropWeaker_l0_M, i_DropWeaker_l0_X, sxE]
theorem i_DropWeaker_call (pL pD : Int) (pN pE : List (List Int)) {r : Int × Int × (List (List Int)) × (List (List Int)) × (List Int) × Bool} (h : i_DropWeaker pL pD pN pE = some r) : Y.call 8 [D.agg [D.int .i64 pL, D.int .i64 pD, D.sl 27 (lst (fun x => D.sl 3 (lst (D.int .i64) x)) pN), D.sl 27 (lst (fun x => D.sl 3 (lst (D.int .i64) x)) pE)]] [] = some (D.tup [D.agg [D.int .i64 r.1, D.int .i64 r.2.1, D.own 27 (lst (fun x => D.own 3 (lst (D.int .i64) x)) r.2.2.1), D.own 27 (lst (fun x => D.own 3 (lst (D.int .i64) x)) r.2.2.2.1)], D.own 3 (lst (D.int .i64) r.2.2.2.2.1), D.bool r.2.2.2.2.2], []) := by
 refine c8 ?_ rfl
 unfold k8
 unfold i_DropWeaker at h
 obtain ⟨e1, h⟩ := ckS h
 obtain ⟨e2, h⟩ := ckS h
 have c3 := i_IsProblem_cl pL pD pN pE e1 e2
 by_cases e4 : (isProb pL pD pN pE) = true
 ·rw [if_pos e4] at h
  obtain ⟨r5_, hl5, h⟩ := bindS h
  try dsimp only at h
  have c5 := i_copyProblem_call pL pD pN pE hl5
  obtain ⟨r6_, hl6, h⟩ := bindS h
  try dsimp only at h
  have c6 := i_numbersTo_call pL hl6
  obtain ⟨r7_, hl7, h⟩ := bindS h
  try dsimp only at h
  have c7 := i_weakest_call r5_.1 r5_.2.1 r5_.2.2.1 r5_.2.2.2 hl7
  obtain ⟨r9_, hl9, h⟩ := bindS h
  try dsimp only at h
  simp (maxDischargeDepth := 9) only [↓xpre, xpost, xlst, xcore, yset, ↓reduceIte, Nat.reduceEqDiff, Nat.reduceLT, Nat.reduceAdd, Nat.reduceBEq, c3, e4, c5, c6, c7]
  refine wd_mono (i_DropWeaker_l0_wp  hl9 ?_) ?_
  ·simp (maxDischargeDepth := 9) only [xpost, ↓reduceIte, Nat.reduceEqDiff, i_DropWeaker_l0_M]
  ·intro ex9 s9 hX9
   unfold i_DropWeaker_l0_X at hX9
   obtain ⟨rfl, n9_0, n9_1, n9_2⟩ := hX9
   cases h
   simp (maxDischargeDepth := 9) only [↓xpre, xpost, xlst, xcore, yset, ↓reduceIte, Nat.reduceEqDiff, Nat.reduceLT, Nat.reduceAdd, n9_0, n9_1, n9_2]
 ·rw [if_neg e4] at h
  have e4f : (isProb pL pD pN pE) = false := Bool.eq_false_iff.mpr e4
  cases h
  simp (maxDischargeDepth := 9) only [↓xpre, xpost, xcore, yset, ↓reduceIte, Nat.reduceEqDiff, Nat.reduceLT, Nat.reduceAdd, c3, e4f] <;> (repeat' apply And.intro) <;> first | rfl | exact ⟨_, rfl⟩ | simp [lst, cat2_nil]

noncomputable def sRS_l0_S (l : List (List Int)) (by_ : Int) (out : List (List Int)) (t13_ : Int) (y : List Int) (t19_ : Int) : Option (((List Int) × Int) ⊕ ((List Int))) :=
 if t19_ < ((l.getD t13_.toNat default).length : Int) then
  ck (0 ≤ t19_ ∧ t19_.toNat < (l.getD t13_.toNat default).length) <|
  ck (y.length + 1 < 1099511627776) <|
  some (Sum.inl ((y ++ [IntKind.i64.wrap (((l.getD t13_.toNat default).getD t19_.toNat default) + by_)]), IntKind.i64.wrap (t19_ + 1)))
 else
  some (Sum.inr y)
noncomputable def sRS_l0 (l : List (List Int)) (by_ : Int) (out : List (List Int)) (t13_ : Int) (v : (List Int) × Int) : Option ((List Int)) := itO (fun v => sRS_l0_S l by_ out t13_ v.1 v.2) v
noncomputable def sRS_l1_S (l : List (List Int)) (by_ : Int) (out : List (List Int)) (t13_ : Int) : Option (((List (List Int)) × Int) ⊕ ((List (List Int)))) :=
 if t13_ < (l.length : Int) then
  ck (0 ≤ t13_ ∧ t13_.toNat < l.length) <|
  (sRS_l0 l by_ out t13_ ([], 0)).bind fun r4_ =>
  ck (out.length + 1 < 1099511627776) <|
  some (Sum.inl ((out ++ [r4_]), IntKind.i64.wrap (t13_ + 1)))
 else
  some (Sum.inr out)
noncomputable def sRS_l1 (l : List (List Int)) (by_ : Int) (v : (List (List Int)) × Int) : Option ((List (List Int))) := itO (fun v => sRS_l1_S l by_ v.1 v.2) v
noncomputable def sRS (l : List (List Int)) (by_ : Int) : Option ((List (List Int))) :=
 (sRS_l1 l by_ ([], 0)).bind fun r2_ =>
 some r2_
/-- spec.reShifted -/
def k38_l0b : SC :=
 .seq
 (.ops [
 ⟨some 20, .binOp .lss 3 (.tmp 19) (.tmp 18) 3, 0, none⟩])
 (.seq
 (.cond (.tmp 20)
 .skip
 (.exit 2))
 (.seq
 (.block 3
 (.seq
 (.ops [
 ⟨some 21, .indexAddr 27 (.tmp 17) (.tmp 19), 0, none⟩,
 ⟨some 22, .load 3 (.tmp 21), 3, none⟩,
 ⟨some 10, .assign (.tmp 22), 3, none⟩])
 (.ops [
 ⟨some 23, .move (.tmp 8), 27, none⟩,
 ⟨some 24, .move (.tmp 10), 3, none⟩,
 ⟨some 25, .move (.tmp 1), 3, none⟩,
 ⟨some 26, .binOp .add 3 (.tmp 24) (.tmp 25) 3, 3, none⟩,
 ⟨some 27, .buildSlice 27 1 #[(0, (.tmp 26))], 27, none⟩,
 ⟨some 28, .call ⟨(.builtin .append), #[(.tmp 23), (.tmp 27)], #[27, 27]⟩, 27, none⟩,
 ⟨some 8, .assign (.tmp 28), 27, none⟩])))
 (.ops [
 ⟨some 29, .binOp .add 3 (.tmp 19) (.const (.int .i64 1)) 3, 3, none⟩,
 ⟨some 19, .move (.tmp 29), 3, none⟩])))
def k38_l0 : SC := .loop k38_l0b
def k38_l1b : SC :=
 .seq
 (.ops [
 ⟨some 14, .binOp .lss 3 (.tmp 13) (.tmp 12) 3, 0, none⟩])
 (.seq
 (.cond (.tmp 14)
 .skip
 (.exit 0))
 (.seq
 (.block 1
 (.seq
 (.ops [
 ⟨some 15, .indexAddr 22 (.tmp 11) (.tmp 13), 0, none⟩,
 ⟨some 16, .load 27 (.tmp 15), 27, none⟩,
 ⟨some 7, .assign (.tmp 16), 27, none⟩])
 (.seq
 (.ops [
 ⟨some 8, .assign (.const (.slice none 0 0)), 27, none⟩])
 (.seq
 (.seq
 (.ops [
 ⟨some 17, .move (.tmp 7), 27, none⟩,
 ⟨some 18, .call ⟨(.builtin .len), #[(.tmp 17)], #[27]⟩, 3, none⟩,
 ⟨some 19, .move (.const (.int .i64 0)), 3, none⟩])
 (.block 2
 k38_l0))
 (.ops [
 ⟨some 30, .move (.tmp 5), 22, none⟩,
 ⟨some 31, .move (.tmp 8), 27, none⟩,
 ⟨some 32, .buildSlice 22 1 #[(0, (.tmp 31))], 22, none⟩,
 ⟨some 33, .call ⟨(.builtin .append), #[(.tmp 30), (.tmp 32)], #[22, 22]⟩, 22, none⟩,
 ⟨some 5, .assign (.tmp 33), 22, none⟩])))))
 (.ops [
 ⟨some 34, .binOp .add 3 (.tmp 13) (.const (.int .i64 1)) 3, 3, none⟩,
 ⟨some 13, .move (.tmp 34), 3, none⟩])))
def k38_l1 : SC := .loop k38_l1b
def k38 : SC :=
 .seq
 (.ops [
 ⟨some 4, .assign (.const (.slice none 0 0)), 22, none⟩])
 (.seq
 (.ops [
 ⟨some 5, .assign (.const (.slice none 0 0)), 22, none⟩])
 (.seq
 (.seq
 (.ops [
 ⟨some 11, .move (.tmp 0), 22, none⟩,
 ⟨some 12, .call ⟨(.builtin .len), #[(.tmp 11)], #[22]⟩, 3, none⟩,
 ⟨some 13, .move (.const (.int .i64 0)), 3, none⟩])
 (.block 0
 k38_l1))
 (.seq
 (.ops [
 ⟨some 35, .move (.tmp 5), 22, none⟩,
 ⟨some 4, .assign (.tmp 35), 22, none⟩])
 .ret)))
theorem slim38 : Tryz.f38.body.map (slim lends) = some k38 := by kernel_rfl
theorem ok38 : fnOk Tryz.f38 2 = true := by kernel_rfl
theorem c38 {a l : List D} {r : D × List D} (h : wpD Y.env k38 (fin tys l.length [ResultVar.tmp 4] r) (entry a l)) (ha : a.length = 2) : Y.call 38 a l = some r :=
 call_slim (Y := Y) rfl Tryz.func38 (ha ▸ ok38) slim38 h
def sRS_l0_M (l : List (List Int)) (by_ : Int) (out : List (List Int)) (t13_ : Int) (y : List Int) (t19_ : Int) (s : St) : Prop := s.v 1 = D.int .i64 by_ ∧ s.v 5 = D.own 27 (lst (fun x => D.own 3 (lst (D.int .i64) x)) out) ∧ s.v 8 = D.own 3 (lst (D.int .i64) y) ∧ s.v 11 = D.sl 27 (lst (fun x => D.sl 3 (lst (D.int .i64) x)) l) ∧ s.v 12 = D.int .i64 (l.length : Int) ∧ s.v 13 = D.int .i64 t13_ ∧ s.v 17 = D.sl 3 (lst (D.int .i64) (l.getD t13_.toNat default)) ∧ s.v 18 = D.int .i64 ((l.getD t13_.toNat default).length : Int) ∧ s.v 19 = D.int .i64 t19_
def sRS_l0_X (l : List (List Int)) (by_ : Int) (out : List (List Int)) (t13_ : Int) (r : (List Int)) (ex : Ex) (s : St) : Prop := ex = .exit 2 ∧ s.v 1 = D.int .i64 by_ ∧ s.v 5 = D.own 27 (lst (fun x => D.own 3 (lst (D.int .i64) x)) out) ∧ s.v 8 = D.own 3 (lst (D.int .i64) r) ∧ s.v 11 = D.sl 27 (lst (fun x => D.sl 3 (lst (D.int .i64) x)) l) ∧ s.v 12 = D.int .i64 (l.length : Int) ∧ s.v 13 = D.int .i64 t13_
theorem sRS_l0_wp (l : List (List Int)) (by_ : Int) (out : List (List Int)) (t13_ : Int) {v : (List Int) × Int} {s : St} {r : (List Int)} (h : sRS_l0 l by_ out t13_ v = some r) (hM : sRS_l0_M l by_ out t13_ v.1 v.2 s) : wpD Y.env k38_l0 (sRS_l0_X l by_ out t13_ r) s := by
 unfold sRS_l0 at h
 refine wd_itO (c := k38_l0b) (fun v => sRS_l0_S l by_ out t13_ v.1 v.2) (fun v s => sRS_l0_M l by_ out t13_ v.1 v.2 s) (sRS_l0_X l by_ out t13_) ?_ h hM
 clear h hM s v r
 intro v s o hM h
 obtain ⟨y, t19_⟩ := v
 dsimp only at h hM
 unfold sRS_l0_S at h
 unfold sRS_l0_M at hM
 obtain ⟨m0, m1, m2, m3, m4, m5, m6, m7, m8⟩ := hM
 unfold k38_l0b
 by_cases e3 : t19_ < ((l.getD t13_.toNat default).length : Int)
 ·rw [if_pos e3] at h
  obtain ⟨e4, h⟩ := ckS h
  obtain ⟨e5, h⟩ := ckS h
  cases h
  simp (maxDischargeDepth := 9) only [↓xpre, xpost, xlst, xcore, yset, ↓reduceIte, Nat.reduceEqDiff, Nat.reduceLT, Nat.reduceLeDiff, Nat.reduceAdd, m0, m1, m2, m3, m4, m5, m6, m7, m8, e3, e4.1, e4.2, e5, sRS_l0_M, sxN]
 ·rw [if_neg e3] at h
  cases h
  simp (maxDischargeDepth := 9) only [↓xpre, xpost, yset, ↓reduceIte, Nat.reduceEqDiff, Nat.reduceLT, m0, m1, m2, m3, m4, m5, m7, m8, e3, sRS_l0_M, sRS_l0_X, sxE]
def sRS_l1_M (l : List (List Int)) (by_ : Int) (out : List (List Int)) (t13_ : Int) (s : St) : Prop := s.v 1 = D.int .i64 by_ ∧ s.v 5 = D.own 27 (lst (fun x => D.own 3 (lst (D.int .i64) x)) out) ∧ s.v 11 = D.sl 27 (lst (fun x => D.sl 3 (lst (D.int .i64) x)) l) ∧ s.v 12 = D.int .i64 (l.length : Int) ∧ s.v 13 = D.int .i64 t13_
def sRS_l1_X (l : List (List Int)) (by_ : Int) (r : (List (List Int))) (ex : Ex) (s : St) : Prop := ex = .exit 0 ∧ s.v 5 = D.own 27 (lst (fun x => D.own 3 (lst (D.int .i64) x)) r)
theorem sRS_l1_wp (l : List (List Int)) (by_ : Int) {v : (List (List Int)) × Int} {s : St} {r : (List (List Int))} (h : sRS_l1 l by_ v = some r) (hM : sRS_l1_M l by_ v.1 v.2 s) : wpD Y.env k38_l1 (sRS_l1_X l by_ r) s := by
 unfold sRS_l1 at h
 refine wd_itO (c := k38_l1b) (fun v => sRS_l1_S l by_ v.1 v.2) (fun v s => sRS_l1_M l by_ v.1 v.2 s) (sRS_l1_X l by_) ?_ h hM
 clear h hM s v r
 intro v s o hM h
 obtain ⟨out, t13_⟩ := v
 dsimp only at h hM
 unfold sRS_l1_S at h
 unfold sRS_l1_M at hM
 obtain ⟨m0, m1, m2, m3, m4⟩ := hM
 unfold k38_l1b
 by_cases e1 : t13_ < (l.length : Int)
 ·rw [if_pos e1] at h
  obtain ⟨e2, h⟩ := ckS h
  obtain ⟨r4_, hl4, h⟩ := bindS h
  try dsimp only at h
  simp (maxDischargeDepth := 9) only [↓xpre, xpost, xlst, xcore, yset, ↓reduceIte, Nat.reduceEqDiff, Nat.reduceLT, m2, m3, m4, e1, e2.1, e2.2]
  refine wd_mono (sRS_l0_wp l by_ out t13_ hl4 ?_) ?_
  ·simp (maxDischargeDepth := 9) only [xpost, ↓reduceIte, Nat.reduceEqDiff, m0, m1, m2, m3, m4, sRS_l0_M] <;> (repeat' apply And.intro) <;> first | rfl | exact ⟨_, rfl⟩ | simp [lst, cat2_nil]
  ·intro ex4 s4 hX4
   unfold sRS_l0_X at hX4
   obtain ⟨rfl, n4_0, n4_1, n4_2, n4_3, n4_4, n4_5⟩ := hX4
   obtain ⟨e5, h⟩ := ckS h
   cases h
   simp (maxDischargeDepth := 9) only [↓xpre, xpost, xlst, xcore, yset, ↓reduceIte, Nat.reduceEqDiff, Nat.reduceLT, Nat.reduceLeDiff, Nat.reduceAdd, n4_0, n4_1, n4_2, n4_3, n4_4, n4_5, e5, sRS_l1_M, sxN]
 ·rw [if_neg e1] at h
  cases h
  simp (maxDischargeDepth := 9) only [↓xpre, xpost, yset, ↓reduceIte, Nat.reduceEqDiff, Nat.reduceLT, m1, m3, m4, e1, sRS_l1_M, sRS_l1_X, sxE]
theorem sRS_call (l : List (List Int)) (by_ : Int) {r : (List (List Int))} (h : sRS l by_ = some r) : Y.call 38 [D.sl 27 (lst (fun x => D.sl 3 (lst (D.int .i64) x)) l), D.int .i64 by_] [] = some (D.own 27 (lst (fun x => D.own 3 (lst (D.int .i64) x)) r), []) := by
 refine c38 ?_ rfl
 unfold k38
 unfold sRS at h
 obtain ⟨r2_, hl2, h⟩ := bindS h
 try dsimp only at h
 simp (maxDischargeDepth := 9) only [↓xpre, xpost, xlst, xcore, yset, ↓reduceIte, Nat.reduceEqDiff, Nat.reduceLT]
 refine wd_mono (sRS_l1_wp l by_ hl2 ?_) ?_
 ·simp (maxDischargeDepth := 9) only [xpost, xcore, ↓reduceIte, Nat.reduceEqDiff, Nat.reduceLT, sRS_l1_M] <;> (repeat' apply And.intro) <;> first | rfl | exact ⟨_, rfl⟩ | simp [lst, cat2_nil]
 ·intro ex2 s2 hX2
  unfold sRS_l1_X at hX2
  obtain ⟨rfl, n2_0⟩ := hX2
  cases h
  simp (maxDischargeDepth := 9) only [↓xpre, xpost, xlst, xcore, ↓reduceIte, Nat.reduceEqDiff, Nat.reduceLT, n2_0]

noncomputable def s_reOwn (l : List (List Int)) : Option ((List (List Int))) :=
 (sRS l (0 : Int)).bind fun r1_ =>
 some r1_
/-- spec.reOwn -/
def k19 : SC :=
 .seq
 (.ops [
 ⟨some 2, .assign (.const (.slice none 0 0)), 1000022, none⟩])
 (.seq
 (.ops [
 ⟨some 3, .move (.tmp 0), 22, none⟩,
 ⟨some 4, .call ⟨(.value (.func 38)), #[(.tmp 3), (.const (.int .i64 0))], #[22, 3]⟩, 22, none⟩,
 ⟨some 2, .assign (.tmp 4), 1000022, none⟩])
 .ret)
theorem slim19 : Tryz.f19.body.map (slim lends) = some k19 := by kernel_rfl
theorem ok19 : fnOk Tryz.f19 1 = true := by kernel_rfl
theorem c19 {a l : List D} {r : D × List D} (h : wpD Y.env k19 (fin tys l.length [ResultVar.tmp 2] r) (entry a l)) (ha : a.length = 1) : Y.call 19 a l = some r :=
 call_slim (Y := Y) rfl Tryz.func19 (ha ▸ ok19) slim19 h
theorem s_reOwn_call (l : List (List Int)) {r : (List (List Int))} (h : s_reOwn l = some r) : Y.call 19 [D.sl 27 (lst (fun x => D.sl 3 (lst (D.int .i64) x)) l)] [] = some (D.sl 27 (lst (fun x => D.sl 3 (lst (D.int .i64) x)) r), []) := by
 refine c19 ?_ rfl
 unfold k19
 unfold s_reOwn at h
 obtain ⟨r1_, hl1, h⟩ := bindS h
 try dsimp only at h
 have c1 := sRS_call l (0 : Int) hl1
 cases h
 simp (maxDischargeDepth := 9) only [↓xpre, xpost, xlst, xcore, yset, ↓reduceIte, Nat.reduceEqDiff, Nat.reduceLT, Nat.reduceAdd, Nat.reduceSub, c1]

noncomputable def sDW_l0_S (pL pD : Int) (pN pE : List (List Int)) (r5_ : (List (List Int))) (r6_ : (List (List Int))) (left : List Int) (a : Int) : Option (((List Int) × Int) ⊕ ((List Int))) :=
 if a < pL then
  ck (left.length + 1 < 1099511627776) <|
  some (Sum.inl ((left ++ [a]), IntKind.i64.wrap (a + 1)))
 else
  some (Sum.inr left)
noncomputable def sDW_l0 (pL pD : Int) (pN pE : List (List Int)) (r5_ : (List (List Int))) (r6_ : (List (List Int))) (v : (List Int) × Int) : Option ((List Int)) := itO (fun v => sDW_l0_S pL pD pN pE r5_ r6_ v.1 v.2) v
noncomputable def sDW_l1_S (out_0 out_1 : Int) (out_2 out_3 : List (List Int)) (left : List Int) (a : Int) (keep : List Int) (b : Int) : Option (((List Int) × Int) ⊕ ((List Int))) :=
 if b < out_0 then
  if b = a then
   some (Sum.inl (keep, IntKind.i64.wrap (b + 1)))
  else
   ck (keep.length + 1 < 1099511627776) <|
   some (Sum.inl ((keep ++ [b]), IntKind.i64.wrap (b + 1)))
 else
  some (Sum.inr keep)
noncomputable def sDW_l1 (out_0 out_1 : Int) (out_2 out_3 : List (List Int)) (left : List Int) (a : Int) (v : (List Int) × Int) : Option ((List Int)) := itO (fun v => sDW_l1_S out_0 out_1 out_2 out_3 left a v.1 v.2) v
noncomputable def sDW_l2_S (out_0 out_1 : Int) (out_2 out_3 : List (List Int)) (left : List Int) (a : Int) : Option ((Int × Int × (List (List Int)) × (List (List Int)) × (List Int) × Int) ⊕ (Int × Int × (List (List Int)) × (List (List Int)) × (List Int))) :=
 if 0 ≤ a then
  (sDW_l1 out_0 out_1 out_2 out_3 left a ([], 0)).bind fun r12_ =>
  (s_prKeep out_0 out_1 out_2 out_3 r12_).bind fun r13_ =>
  if (!r13_.2.2.1.isEmpty) = true then
   (s_coThrough left r12_).bind fun r15_ =>
   (s_elWeak r13_.1 r13_.2.1 r13_.2.2.1 r13_.2.2.2).bind fun r16_ =>
   some (Sum.inl (r13_.1, r13_.2.1, r13_.2.2.1, r13_.2.2.2, r15_, r16_))
  else
   (s_coThrough left r12_).bind fun r16_ =>
   (s_elWeak r13_.1 r13_.2.1 r13_.2.2.1 r13_.2.2.2).bind fun r17_ =>
   some (Sum.inl (r13_.1, r13_.2.1, r13_.2.2.1, r13_.2.2.2, r16_, r17_))
 else
  some (Sum.inr (out_0, out_1, out_2, out_3, left))
noncomputable def sDW_l2 (v : Int × Int × (List (List Int)) × (List (List Int)) × (List Int) × Int) : Option (Int × Int × (List (List Int)) × (List (List Int)) × (List Int)) := itO (fun v => sDW_l2_S v.1 v.2.1 v.2.2.1 v.2.2.2.1 v.2.2.2.2.1 v.2.2.2.2.2) v
noncomputable def sDW (pL pD : Int) (pN pE : List (List Int)) : Option ((Int × Int × (List (List Int)) × (List (List Int)) × (List Int) × Bool) ⊕ (Int × Int × (List (List Int)) × (List (List Int)) × (List Int) × Bool)) :=
 ck (Short pN) <|
 ck (Short pE) <|
 if (isProb pL pD pN pE) = true then
  (s_reOwn pN).bind fun r5_ =>
  (s_reOwn pE).bind fun r6_ =>
  (sDW_l0 pL pD pN pE r5_ r6_ ([], 0)).bind fun r8_ =>
  (s_elWeak pL pD r5_ r6_).bind fun r9_ =>
  (sDW_l2 (pL, pD, r5_, r6_, r8_, r9_)).bind fun r11_ =>
  some (Sum.inl (r11_.1, r11_.2.1, r11_.2.2.1, r11_.2.2.2.1, r11_.2.2.2.2, true))
 else
  some (Sum.inr (0, 0, [], [], [], false))
/-- spec.DropWeaker -/
def k6_l0b : SC :=
 .seq
 (.seq
 (.ops [
 ⟨some 26, .move (.tmp 7), 3, none⟩,
 ⟨some 27, .fieldAddr 26 (.tmp 1) 0, 0, none⟩,
 ⟨some 28, .load 3 (.tmp 27), 3, none⟩,
 ⟨some 29, .binOp .lss 3 (.tmp 26) (.tmp 28) 3, 4, none⟩])
 (.cond (.tmp 29)
 .skip
 (.exit 0)))
 (.seq
 (.block 1
 (.ops [
 ⟨some 32, .move (.tmp 6), 27, none⟩,
 ⟨some 33, .move (.tmp 7), 3, none⟩,
 ⟨some 34, .buildSlice 27 1 #[(0, (.tmp 33))], 27, none⟩,
 ⟨some 35, .call ⟨(.builtin .append), #[(.tmp 32), (.tmp 34)], #[27, 27]⟩, 27, none⟩,
 ⟨some 6, .assign (.tmp 35), 27, none⟩]))
 (.ops [
 ⟨some 30, .move (.tmp 7), 3, none⟩,
 ⟨some 31, .binOp .add 3 (.tmp 30) (.const (.int .i64 1)) 3, 3, none⟩,
 ⟨some 7, .assign (.tmp 31), 3, none⟩]))
def k6_l0 : SC := .loop k6_l0b
def k6_l1b : SC :=
 .seq
 (.seq
 (.ops [
 ⟨some 42, .move (.tmp 10), 3, none⟩,
 ⟨some 43, .fieldAddr 26 (.tmp 5) 0, 0, none⟩,
 ⟨some 44, .load 3 (.tmp 43), 3, none⟩,
 ⟨some 45, .binOp .lss 3 (.tmp 42) (.tmp 44) 3, 4, none⟩])
 (.cond (.tmp 45)
 .skip
 (.exit 4)))
 (.seq
 (.block 5
 (.seq
 (.ops [
 ⟨some 48, .move (.tmp 10), 3, none⟩,
 ⟨some 49, .move (.tmp 8), 3, none⟩,
 ⟨some 50, .binOp .neq 3 (.tmp 48) (.tmp 49) 3, 4, none⟩])
 (.cond (.tmp 50)
 (.ops [
 ⟨some 51, .move (.tmp 9), 27, none⟩,
 ⟨some 52, .move (.tmp 10), 3, none⟩,
 ⟨some 53, .buildSlice 27 1 #[(0, (.tmp 52))], 27, none⟩,
 ⟨some 54, .call ⟨(.builtin .append), #[(.tmp 51), (.tmp 53)], #[27, 27]⟩, 27, none⟩,
 ⟨some 9, .assign (.tmp 54), 27, none⟩])
 .skip)))
 (.ops [
 ⟨some 46, .move (.tmp 10), 3, none⟩,
 ⟨some 47, .binOp .add 3 (.tmp 46) (.const (.int .i64 1)) 3, 3, none⟩,
 ⟨some 10, .assign (.tmp 47), 3, none⟩]))
def k6_l1 : SC := .loop k6_l1b
def k6_l2b : SC :=
 .seq
 (.seq
 (.ops [
 ⟨some 38, .move (.tmp 8), 3, none⟩,
 ⟨some 39, .binOp .geq 3 (.tmp 38) (.const (.int .i64 0)) 3, 4, none⟩])
 (.cond (.tmp 39)
 .skip
 (.exit 2)))
 (.seq
 (.block 3
 (.seq
 (.ops [
 ⟨some 9, .assign (.const (.slice none 0 0)), 27, none⟩])
 (.seq
 (.seq
 (.ops [
 ⟨some 10, .assign (.const (.int .i64 0)), 3, none⟩])
 (.block 4
 k6_l1))
 (.seq
 (.ops [
 ⟨some 55, .load 26 (.tmp 5), 26, none⟩,
 ⟨some 56, .move (.tmp 9), 27, none⟩,
 ⟨some 57, .call ⟨(.value (.func 21)), #[(.tmp 55), (.tmp 56)], #[26, 27]⟩, 26, none⟩,
 ⟨none, .store 26 (.tmp 5) (.tmp 57), 0, none⟩])
 (.ops [
 ⟨some 58, .move (.tmp 6), 27, none⟩,
 ⟨some 59, .move (.tmp 9), 27, none⟩,
 ⟨some 60, .call ⟨(.value (.func 22)), #[(.tmp 58), (.tmp 59)], #[27, 27]⟩, 27, none⟩,
 ⟨some 6, .assign (.tmp 60), 27, none⟩])))))
 (.ops [
 ⟨some 40, .load 26 (.tmp 5), 26, none⟩,
 ⟨some 41, .call ⟨(.value (.func 20)), #[(.tmp 40)], #[26]⟩, 3, none⟩,
 ⟨some 8, .assign (.tmp 41), 3, none⟩]))
def k6_l2 : SC := .loop k6_l2b
def k6 : SC :=
 .seq
 (.ops [
 ⟨some 1, .box 26 (.tmp 0), 0, none⟩,
 ⟨some 2, .alloc 26, 0, none⟩,
 ⟨some 3, .assign (.const (.slice none 0 0)), 27, none⟩,
 ⟨some 4, .assign (.const (.bool false)), 4, none⟩])
 (.seq
 (.seq
 (.ops [
 ⟨some 11, .load 26 (.tmp 1), 26, none⟩,
 ⟨some 12, .call ⟨(.value (.func 18)), #[(.tmp 11)], #[26]⟩, 4, none⟩,
 ⟨some 13, .unOp .not 4 (.tmp 12), 4, none⟩])
 (.cond (.tmp 13)
 (.seq
 (.ops [
 ⟨some 14, .build 26 #[], 26, none⟩,
 ⟨none, .store 26 (.tmp 2) (.tmp 14), 0, none⟩,
 ⟨some 3, .assign (.const (.slice none 0 0)), 27, none⟩,
 ⟨some 4, .assign (.const (.bool false)), 4, none⟩])
 .ret)
 .skip))
 (.seq
 (.draws [
 (⟨[15, 1, 1], [15, 16, 17, 18, 19, 20, 21, 22, 23, 24, 25, 16, 18, 21, 24, 1, 1, 21, 24, 5, 5, 25, 5, 25], [15]⟩, ⟨some 15, .fieldAddr 26 (.tmp 1) 0, 0, none⟩),
 (⟨[16, 15, 1], [15, 16, 17, 18, 19, 20, 21, 22, 23, 24, 25, 16, 18, 21, 24, 1, 1, 21, 24, 5, 5, 25, 5, 25], [16]⟩, ⟨some 16, .load 3 (.tmp 15), 3, none⟩),
 (⟨[17, 1, 1], [15, 16, 17, 18, 19, 20, 21, 22, 23, 24, 25, 16, 18, 21, 24, 1, 1, 21, 24, 5, 5, 25, 5, 25], [17]⟩, ⟨some 17, .fieldAddr 26 (.tmp 1) 1, 0, none⟩),
 (⟨[18, 17, 1], [15, 16, 17, 18, 19, 20, 21, 22, 23, 24, 25, 16, 18, 21, 24, 1, 1, 21, 24, 5, 5, 25, 5, 25], [18]⟩, ⟨some 18, .load 3 (.tmp 17), 3, none⟩),
 (⟨[19, 1, 1], [15, 16, 17, 18, 19, 20, 21, 22, 23, 24, 25, 16, 18, 21, 24, 1, 1, 21, 24, 5, 5, 25, 5, 25], [19]⟩, ⟨some 19, .fieldAddr 26 (.tmp 1) 2, 0, none⟩),
 (⟨[20, 19, 1], [15, 16, 17, 18, 19, 20, 21, 22, 23, 24, 25, 16, 18, 21, 24, 1, 1, 21, 24, 5, 5, 25, 5, 25], [20]⟩, ⟨some 20, .load 22 (.tmp 19), 22, none⟩),
 (⟨[21, 20, 1], [15, 16, 17, 18, 19, 20, 21, 22, 23, 24, 25, 16, 18, 21, 24, 1, 1, 21, 24, 5, 5, 25, 5, 25], [21]⟩, ⟨some 21, .call ⟨(.value (.func 19)), #[(.tmp 20)], #[22]⟩, 22, none⟩),
 (⟨[22, 1, 1], [15, 16, 17, 18, 19, 20, 21, 22, 23, 24, 25, 16, 18, 21, 24, 1, 1, 21, 24, 5, 5, 25, 5, 25], [22]⟩, ⟨some 22, .fieldAddr 26 (.tmp 1) 3, 0, none⟩),
 (⟨[23, 22, 1], [15, 16, 17, 18, 19, 20, 21, 22, 23, 24, 25, 16, 18, 21, 24, 1, 1, 21, 24, 5, 5, 25, 5, 25], [23]⟩, ⟨some 23, .load 22 (.tmp 22), 22, none⟩),
 (⟨[24, 23, 1], [15, 16, 17, 18, 19, 20, 21, 22, 23, 24, 25, 16, 18, 21, 24, 1, 1, 21, 24, 5, 5, 25, 5, 25], [24]⟩, ⟨some 24, .call ⟨(.value (.func 19)), #[(.tmp 23)], #[22]⟩, 22, none⟩),
 (⟨[25, 16, 18, 21, 24, 1, 1, 21, 24], [15, 16, 17, 18, 19, 20, 21, 22, 23, 24, 25, 16, 18, 21, 24, 1, 1, 21, 24, 5, 5, 25, 5, 25], [25, 16, 18, 21, 24, 1, 1, 21, 24]⟩, ⟨some 25, .build 26 #[(0, (.tmp 16)), (1, (.tmp 18)), (2, (.tmp 21)), (3, (.tmp 24))], 26, none⟩),
 (⟨[5], [15, 16, 17, 18, 19, 20, 21, 22, 23, 24, 25, 16, 18, 21, 24, 1, 1, 21, 24, 5, 5, 25, 5, 25], [5]⟩, ⟨some 5, .alloc 26, 0, none⟩),
 (⟨[5, 25, 5, 25], [15, 16, 17, 18, 19, 20, 21, 22, 23, 24, 25, 16, 18, 21, 24, 1, 1, 21, 24, 5, 5, 25, 5, 25], [5, 25, 5, 25]⟩, ⟨none, .store 26 (.tmp 5) (.tmp 25), 0, none⟩)])
 (.seq
 (.ops [
 ⟨some 6, .assign (.const (.slice none 0 0)), 27, none⟩])
 (.seq
 (.seq
 (.ops [
 ⟨some 7, .assign (.const (.int .i64 0)), 3, none⟩])
 (.block 0
 k6_l0))
 (.seq
 (.seq
 (.ops [
 ⟨some 36, .load 26 (.tmp 5), 26, none⟩,
 ⟨some 37, .call ⟨(.value (.func 20)), #[(.tmp 36)], #[26]⟩, 3, none⟩,
 ⟨some 8, .assign (.tmp 37), 3, none⟩])
 (.block 2
 k6_l2))
 (.seq
 (.ops [
 ⟨some 61, .load 26 (.tmp 5), 26, none⟩,
 ⟨some 62, .move (.tmp 6), 27, none⟩,
 ⟨none, .store 26 (.tmp 2) (.tmp 61), 0, none⟩,
 ⟨some 3, .assign (.tmp 62), 27, none⟩,
 ⟨some 4, .assign (.const (.bool true)), 4, none⟩])
 .ret))))))
theorem slim6 : Tryz.f6.body.map (slim lends) = some k6 := by kernel_rfl
theorem ok6 : fnOk Tryz.f6 1 = true := by kernel_rfl
theorem c6 {a l : List D} {r : D × List D} (h : wpD Y.env k6 (fin tys l.length [ResultVar.cell 2 26, ResultVar.tmp 3, ResultVar.tmp 4] r) (entry a l)) (ha : a.length = 1) : Y.call 6 a l = some r :=
 call_slim (Y := Y) rfl Tryz.func6 (ha ▸ ok6) slim6 h
def sDW_l0_M (pL pD : Int) (pN pE : List (List Int)) (r5_ : (List (List Int))) (r6_ : (List (List Int))) (left : List Int) (a : Int) (s : St) : Prop := s.v 1 = D.box [D.int .i64 pL, D.int .i64 pD, D.sl 27 (lst (fun x => D.sl 3 (lst (D.int .i64) x)) pN), D.sl 27 (lst (fun x => D.sl 3 (lst (D.int .i64) x)) pE)] ∧ s.v 2 = D.box [D.int .i64 0, D.int .i64 0, D.own 27 [], D.own 27 []] ∧ s.v 5 = D.box [D.int .i64 pL, D.int .i64 pD, D.sl 27 (lst (fun x => D.sl 3 (lst (D.int .i64) x)) r5_), D.sl 27 (lst (fun x => D.sl 3 (lst (D.int .i64) x)) r6_)] ∧ s.v 6 = D.own 3 (lst (D.int .i64) left) ∧ s.v 7 = D.int .i64 a
def sDW_l0_X (pL pD : Int) (pN pE : List (List Int)) (r5_ : (List (List Int))) (r6_ : (List (List Int))) (r : (List Int)) (ex : Ex) (s : St) : Prop := ex = .exit 0 ∧ s.v 2 = D.box [D.int .i64 0, D.int .i64 0, D.own 27 [], D.own 27 []] ∧ s.v 5 = D.box [D.int .i64 pL, D.int .i64 pD, D.sl 27 (lst (fun x => D.sl 3 (lst (D.int .i64) x)) r5_), D.sl 27 (lst (fun x => D.sl 3 (lst (D.int .i64) x)) r6_)] ∧ s.v 6 = D.own 3 (lst (D.int .i64) r)
theorem sDW_l0_wp (pL pD : Int) (pN pE : List (List Int)) (r5_ : (List (List Int))) (r6_ : (List (List Int))) {v : (List Int) × Int} {s : St} {r : (List Int)} (h : sDW_l0 pL pD pN pE r5_ r6_ v = some r) (hM : sDW_l0_M pL pD pN pE r5_ r6_ v.1 v.2 s) : wpD Y.env k6_l0 (sDW_l0_X pL pD pN pE r5_ r6_ r) s := by
 unfold sDW_l0 at h
 refine wd_itO (c := k6_l0b) (fun v => sDW_l0_S pL pD pN pE r5_ r6_ v.1 v.2) (fun v s => sDW_l0_M pL pD pN pE r5_ r6_ v.1 v.2 s) (sDW_l0_X pL pD pN pE r5_ r6_) ?_ h hM
 clear h hM s v r
 intro v s o hM h
 obtain ⟨left, a⟩ := v
 dsimp only at h hM
 unfold sDW_l0_S at h
 unfold sDW_l0_M at hM
 obtain ⟨m0, m1, m2, m3, m4⟩ := hM
 unfold k6_l0b
 by_cases e7 : a < pL
 ·rw [if_pos e7] at h
  obtain ⟨e8, h⟩ := ckS h
  cases h
  simp (maxDischargeDepth := 9) only [↓xpre, xpost, xlst, xcore, yset, ↓reduceIte, Nat.reduceEqDiff, Nat.reduceLT, Nat.reduceLeDiff, Nat.reduceAdd, m0, m1, m2, m3, m4, e7, e8, sDW_l0_M, sxN]
 ·rw [if_neg e7] at h
  cases h
  simp (maxDischargeDepth := 9) only [↓xpre, xpost, xcore, yset, ↓reduceIte, Nat.reduceEqDiff, Nat.reduceLT, m0, m1, m2, m3, m4, e7, sDW_l0_M, sDW_l0_X, sxE]
def sDW_l1_M (out_0 out_1 : Int) (out_2 out_3 : List (List Int)) (left : List Int) (a : Int) (keep : List Int) (b : Int) (s : St) : Prop := s.v 2 = D.box [D.int .i64 0, D.int .i64 0, D.own 27 [], D.own 27 []] ∧ s.v 5 = D.box [D.int .i64 out_0, D.int .i64 out_1, D.sl 27 (lst (fun x => D.sl 3 (lst (D.int .i64) x)) out_2), D.sl 27 (lst (fun x => D.sl 3 (lst (D.int .i64) x)) out_3)] ∧ s.v 6 = D.own 3 (lst (D.int .i64) left) ∧ s.v 8 = D.int .i64 a ∧ s.v 9 = D.own 3 (lst (D.int .i64) keep) ∧ s.v 10 = D.int .i64 b
def sDW_l1_X (out_0 out_1 : Int) (out_2 out_3 : List (List Int)) (left : List Int) (a : Int) (r : (List Int)) (ex : Ex) (s : St) : Prop := ex = .exit 4 ∧ s.v 2 = D.box [D.int .i64 0, D.int .i64 0, D.own 27 [], D.own 27 []] ∧ s.v 5 = D.box [D.int .i64 out_0, D.int .i64 out_1, D.sl 27 (lst (fun x => D.sl 3 (lst (D.int .i64) x)) out_2), D.sl 27 (lst (fun x => D.sl 3 (lst (D.int .i64) x)) out_3)] ∧ s.v 6 = D.own 3 (lst (D.int .i64) left) ∧ s.v 9 = D.own 3 (lst (D.int .i64) r)
theorem sDW_l1_wp (out_0 out_1 : Int) (out_2 out_3 : List (List Int)) (left : List Int) (a : Int) {v : (List Int) × Int} {s : St} {r : (List Int)} (h : sDW_l1 out_0 out_1 out_2 out_3 left a v = some r) (hM : sDW_l1_M out_0 out_1 out_2 out_3 left a v.1 v.2 s) : wpD Y.env k6_l1 (sDW_l1_X out_0 out_1 out_2 out_3 left a r) s := by
 unfold sDW_l1 at h
 refine wd_itO (c := k6_l1b) (fun v => sDW_l1_S out_0 out_1 out_2 out_3 left a v.1 v.2) (fun v s => sDW_l1_M out_0 out_1 out_2 out_3 left a v.1 v.2 s) (sDW_l1_X out_0 out_1 out_2 out_3 left a) ?_ h hM
 clear h hM s v r
 intro v s o hM h
 obtain ⟨keep, b⟩ := v
 dsimp only at h hM
 unfold sDW_l1_S at h
 unfold sDW_l1_M at hM
 obtain ⟨m0, m1, m2, m3, m4, m5⟩ := hM
 unfold k6_l1b
 by_cases e11 : b < out_0
 ·rw [if_pos e11] at h
  by_cases e12 : b = a
  ·rw [if_pos e12] at h
   cases h
   simp (maxDischargeDepth := 9) only [↓xpre, xpost, xcore, yset, ↓reduceIte, Nat.reduceEqDiff, Nat.reduceLT, m0, m1, m2, m3, m4, m5, e11, decide_eq_true e12, sDW_l1_M, sxN]
  ·rw [if_neg e12] at h
   obtain ⟨e13, h⟩ := ckS h
   cases h
   simp (maxDischargeDepth := 9) only [↓xpre, xpost, xlst, xcore, yset, ↓reduceIte, Nat.reduceEqDiff, Nat.reduceLT, Nat.reduceLeDiff, Nat.reduceAdd, m0, m1, m2, m3, m4, m5, e11, e12, e13, sDW_l1_M, sxN]
 ·rw [if_neg e11] at h
  cases h
  simp (maxDischargeDepth := 9) only [↓xpre, xpost, xcore, yset, ↓reduceIte, Nat.reduceEqDiff, Nat.reduceLT, m0, m1, m2, m4, m5, e11, sDW_l1_M, sDW_l1_X, sxE]
def sDW_l2_M (out_0 out_1 : Int) (out_2 out_3 : List (List Int)) (left : List Int) (a : Int) (s : St) : Prop := s.v 2 = D.box [D.int .i64 0, D.int .i64 0, D.own 27 [], D.own 27 []] ∧ s.v 5 = D.box [D.int .i64 out_0, D.int .i64 out_1, D.sl 27 (lst (fun x => D.sl 3 (lst (D.int .i64) x)) out_2), D.sl 27 (lst (fun x => D.sl 3 (lst (D.int .i64) x)) out_3)] ∧ s.v 6 = D.own 3 (lst (D.int .i64) left) ∧ s.v 8 = D.int .i64 a
def sDW_l2_X (r : Int × Int × (List (List Int)) × (List (List Int)) × (List Int)) (ex : Ex) (s : St) : Prop := ex = .exit 2 ∧ s.v 2 = D.box [D.int .i64 0, D.int .i64 0, D.own 27 [], D.own 27 []] ∧ s.v 5 = D.box [D.int .i64 r.1, D.int .i64 r.2.1, D.sl 27 (lst (fun x => D.sl 3 (lst (D.int .i64) x)) r.2.2.1), D.sl 27 (lst (fun x => D.sl 3 (lst (D.int .i64) x)) r.2.2.2.1)] ∧ s.v 6 = D.own 3 (lst (D.int .i64) r.2.2.2.2)
theorem sDW_l2_wp {v : Int × Int × (List (List Int)) × (List (List Int)) × (List Int) × Int} {s : St} {r : Int × Int × (List (List Int)) × (List (List Int)) × (List Int)} (h : sDW_l2 v = some r) (hM : sDW_l2_M v.1 v.2.1 v.2.2.1 v.2.2.2.1 v.2.2.2.2.1 v.2.2.2.2.2 s) : wpD Y.env k6_l2 (sDW_l2_X r) s := by
 unfold sDW_l2 at h
 refine wd_itO (c := k6_l2b) (fun v => sDW_l2_S v.1 v.2.1 v.2.2.1 v.2.2.2.1 v.2.2.2.2.1 v.2.2.2.2.2) (fun v s => sDW_l2_M v.1 v.2.1 v.2.2.1 v.2.2.2.1 v.2.2.2.2.1 v.2.2.2.2.2 s) (sDW_l2_X) ?_ h hM
 clear h hM s v r
 intro v s o hM h
 obtain ⟨out_0, out_1, out_2, out_3, left, a⟩ := v
 dsimp only at h hM
 unfold sDW_l2_S at h
 unfold sDW_l2_M at hM
 obtain ⟨m0, m1, m2, m3⟩ := hM
 unfold k6_l2b
 by_cases e10 : 0 ≤ a
 ·rw [if_pos e10] at h
  obtain ⟨r12_, hl12, h⟩ := bindS h
  try dsimp only at h
  simp (maxDischargeDepth := 9) only [↓xpre, xpost, yset, ↓reduceIte, Nat.reduceEqDiff, Nat.reduceLT, m3, e10]
  refine wd_mono (sDW_l1_wp out_0 out_1 out_2 out_3 left a hl12 ?_) ?_
  ·simp (maxDischargeDepth := 9) only [xpost, ↓reduceIte, Nat.reduceEqDiff, m0, m1, m2, m3, sDW_l1_M] <;> (repeat' apply And.intro) <;> first | rfl | exact ⟨_, rfl⟩ | simp [lst, cat2_nil]
  ·intro ex12 s12 hX12
   unfold sDW_l1_X at hX12
   obtain ⟨rfl, n12_0, n12_1, n12_2, n12_3⟩ := hX12
   obtain ⟨r13_, hl13, h⟩ := bindS h
   try dsimp only at h
   have c13 := s_prKeep_call out_0 out_1 out_2 out_3 r12_ hl13
   by_cases e14 : (!r13_.2.2.1.isEmpty) = true
   ·rw [if_pos e14] at h
    obtain ⟨r15_, hl15, h⟩ := bindS h
    try dsimp only at h
    have c15 := s_coThrough_call left r12_ hl15
    obtain ⟨r16_, hl16, h⟩ := bindS h
    try dsimp only at h
    have c16 := s_elWeak_call r13_.1 r13_.2.1 r13_.2.2.1 r13_.2.2.2 hl16
    cases h
    simp (maxDischargeDepth := 9) only [↓xpre, xpost, xlst, xcore, yset, ↓reduceIte, Nat.reduceEqDiff, Nat.reduceLT, Nat.reduceAdd, n12_0, n12_1, n12_2, n12_3, c13, e14, c15, c16, sDW_l2_M, sxN]
   ·rw [if_neg e14] at h
    have e14f : (!r13_.2.2.1.isEmpty) = false := Bool.eq_false_iff.mpr e14
    by_cases e15 : (!r13_.2.2.2.isEmpty) = true
    ·skip
     obtain ⟨r16_, hl16, h⟩ := bindS h
     try dsimp only at h
     have c16 := s_coThrough_call left r12_ hl16
     obtain ⟨r17_, hl17, h⟩ := bindS h
     try dsimp only at h
     have c17 := s_elWeak_call r13_.1 r13_.2.1 r13_.2.2.1 r13_.2.2.2 hl17
     cases h
     simp (maxDischargeDepth := 9) only [↓xpre, xpost, xlst, xcore, yset, ↓reduceIte, Nat.reduceEqDiff, Nat.reduceLT, Nat.reduceAdd, n12_0, n12_1, n12_2, n12_3, c13, e14f, e15, c16, c17, sDW_l2_M, sxN]
    ·skip
     have e15f : (!r13_.2.2.2.isEmpty) = false := Bool.eq_false_iff.mpr e15
     obtain ⟨r16_, hl16, h⟩ := bindS h
     try dsimp only at h
     have c16 := s_coThrough_call left r12_ hl16
     obtain ⟨r17_, hl17, h⟩ := bindS h
     try dsimp only at h
     have c17 := s_elWeak_call r13_.1 r13_.2.1 r13_.2.2.1 r13_.2.2.2 hl17
     cases h
     simp (maxDischargeDepth := 9) only [↓xpre, xpost, xlst, xcore, yset, ↓reduceIte, Nat.reduceEqDiff, Nat.reduceLT, Nat.reduceAdd, n12_0, n12_1, n12_2, n12_3, c13, e14f, e15f, c16, c17, sDW_l2_M, sxN]
 ·rw [if_neg e10] at h
  cases h
  simp (maxDischargeDepth := 9) only [↓xpre, xpost, yset, ↓reduceIte, Nat.reduceEqDiff, Nat.reduceLT, m0, m1, m2, m3, e10, sDW_l2_M, sDW_l2_X, sxE]
theorem sDW_call (pL pD : Int) (pN pE : List (List Int)) {r : (Int × Int × (List (List Int)) × (List (List Int)) × (List Int) × Bool) ⊕ (Int × Int × (List (List Int)) × (List (List Int)) × (List Int) × Bool)} (h : sDW pL pD pN pE = some r) : Y.call 6 [D.agg [D.int .i64 pL, D.int .i64 pD, D.sl 27 (lst (fun x => D.sl 3 (lst (D.int .i64) x)) pN), D.sl 27 (lst (fun x => D.sl 3 (lst (D.int .i64) x)) pE)]] [] = some (match r with | .inl q => (D.tup [D.agg [D.int .i64 q.1, D.int .i64 q.2.1, D.sl 27 (lst (fun x => D.sl 3 (lst (D.int .i64) x)) q.2.2.1), D.sl 27 (lst (fun x => D.sl 3 (lst (D.int .i64) x)) q.2.2.2.1)], D.own 3 (lst (D.int .i64) q.2.2.2.2.1), D.bool q.2.2.2.2.2], []) | .inr q => (D.tup [D.agg [D.int .i64 q.1, D.int .i64 q.2.1, D.own 27 (lst (fun x => D.own 3 (lst (D.int .i64) x)) q.2.2.1), D.own 27 (lst (fun x => D.own 3 (lst (D.int .i64) x)) q.2.2.2.1)], D.own 3 (lst (D.int .i64) q.2.2.2.2.1), D.bool q.2.2.2.2.2], [])) := by
 refine c6 ?_ rfl
 unfold k6
 unfold sDW at h
 obtain ⟨e1, h⟩ := ckS h
 obtain ⟨e2, h⟩ := ckS h
 have c3 := s_prGood_cl pL pD pN pE e1 e2
 by_cases e4 : (isProb pL pD pN pE) = true
 ·rw [if_pos e4] at h
  obtain ⟨r5_, hl5, h⟩ := bindS h
  try dsimp only at h
  have c5 := s_reOwn_call pN hl5
  obtain ⟨r6_, hl6, h⟩ := bindS h
  try dsimp only at h
  have c6 := s_reOwn_call pE hl6
  obtain ⟨r8_, hl8, h⟩ := bindS h
  try dsimp only at h
  simp (maxDischargeDepth := 9) only [↓xpre, xpost, xcore, yset, ↓reduceIte, Nat.reduceEqDiff, Nat.reduceLT, Nat.reduceLeDiff, Nat.reduceAdd, Nat.reduceBEq, c3, e4, c5, c6]
  refine wd_mono (sDW_l0_wp pL pD pN pE r5_ r6_ hl8 ?_) ?_
  ·simp (maxDischargeDepth := 9) only [xpost, ↓reduceIte, Nat.reduceEqDiff, sDW_l0_M] <;> (repeat' apply And.intro) <;> first | rfl | exact ⟨_, rfl⟩ | simp [lst, cat2_nil]
  ·intro ex8 s8 hX8
   unfold sDW_l0_X at hX8
   obtain ⟨rfl, n8_0, n8_1, n8_2⟩ := hX8
   obtain ⟨r9_, hl9, h⟩ := bindS h
   try dsimp only at h
   have c9 := s_elWeak_call pL pD r5_ r6_ hl9
   obtain ⟨r11_, hl11, h⟩ := bindS h
   try dsimp only at h
   simp (maxDischargeDepth := 9) only [↓xpre, xpost, xcore, yset, ↓reduceIte, Nat.reduceEqDiff, Nat.reduceLT, Nat.reduceAdd, n8_1, c9]
   refine wd_mono (sDW_l2_wp  hl11 ?_) ?_
   ·simp (maxDischargeDepth := 9) only [xpost, ↓reduceIte, Nat.reduceEqDiff, n8_0, n8_1, n8_2, sDW_l2_M]
   ·intro ex11 s11 hX11
    unfold sDW_l2_X at hX11
    obtain ⟨rfl, n11_0, n11_1, n11_2⟩ := hX11
    cases h
    simp (maxDischargeDepth := 9) only [↓xpre, xpost, xlst, xcore, yset, ↓reduceIte, Nat.reduceEqDiff, Nat.reduceLT, Nat.reduceAdd, n11_0, n11_1, n11_2]
 ·rw [if_neg e4] at h
  have e4f : (isProb pL pD pN pE) = false := Bool.eq_false_iff.mpr e4
  cases h
  simp (maxDischargeDepth := 9) only [↓xpre, xpost, xcore, yset, ↓reduceIte, Nat.reduceEqDiff, Nat.reduceLT, Nat.reduceAdd, c3, e4f] <;> (repeat' apply And.intro) <;> first | rfl | exact ⟨_, rfl⟩ | simp [lst, cat2_nil]


end Go.Proofs.YtdjfaadpmbkcmaaGreat
