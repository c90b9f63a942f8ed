/- Problems with other labels, lifted. Conditions: none. -/
import Derived.Test.YtdjfaadpmbkcmaaGreatL6
import Derived.Test.YtdjfaadpmbkcmaaGreatIsP
import Derived.Test.YtdjfaadpmbkcmaaGreatHas
import Derived.Test.YtdjfaadpmbkcmaaGreatSrt
import Derived.Test.YtdjfaadpmbkcmaaGreatCon
namespace Go.Proofs.YtdjfaadpmbkcmaaGreat
open Go Dv
set_option linter.unusedSimpArgs false
set_option linter.unusedVariables false
set_option maxRecDepth 100000
set_option maxHeartbeats 4000000

noncomputable def gCF_l0_S (t0_ : List (List Int)) (t1_ : (List Int) → (List Int) → Option Bool) (t5_ : Int) : Option ((Int) ⊕ (Unit)) :=
 if t5_ < (t0_.length : Int) then
  ck (0 ≤ t5_ ∧ t5_.toNat < t0_.length) <|
  ck (0 ≤ IntKind.i64.wrap (t5_ - 1) ∧ (IntKind.i64.wrap (t5_ - 1)).toNat < t0_.length) <|
  (t1_ (t0_.getD t5_.toNat default) (t0_.getD ((IntKind.i64.wrap (t5_ - 1)).toNat) default)).bind fun r5_ =>
  if r5_ = true then
   none
  else
   some (Sum.inl (IntKind.i64.wrap (t5_ + 1)))
 else
  some (Sum.inr ())
noncomputable def gCF_l0 (t0_ : List (List Int)) (t1_ : (List Int) → (List Int) → Option Bool) (v : Int) : Option (Unit) := itO (fun v => gCF_l0_S t0_ t1_ v) v
noncomputable def gCF (t0_ : List (List Int)) (t1_ : (List Int) → (List Int) → Option Bool) : Option ((List (List Int))) :=
 if (t0_.length : Int) < 2 then
  some t0_
 else
  (gCF_l0 t0_ t1_ 1).bind fun r3_ =>
  some t0_
/-- slices.CompactFunc[[][]int,[]int] -/
def k102_l0b : SC :=
 .seq
 (.seq
 (.ops [
 ⟨some 12, .move (.tmp 5), 3, none⟩,
 ⟨some 13, .move (.tmp 0), 22, none⟩,
 ⟨some 14, .call ⟨(.builtin .len), #[(.tmp 13)], #[22]⟩, 3, none⟩,
 ⟨some 15, .binOp .lss 3 (.tmp 12) (.tmp 14) 3, 4, none⟩])
 (.cond (.tmp 15)
 .skip
 (.exit 0)))
 (.seq
 (.block 1
 (.seq
 (.draws [
 (⟨[18, 1, 1], [18, 19, 20, 21, 22, 23, 24, 25, 26, 27, 28, 18, 22, 27, 1, 0, 0], [18]⟩, ⟨some 18, .move (.tmp 1), 32, none⟩),
 (⟨[19, 0, 0], [18, 19, 20, 21, 22, 23, 24, 25, 26, 27, 28, 18, 22, 27, 1, 0, 0], [19]⟩, ⟨some 19, .move (.tmp 0), 22, none⟩),
 (⟨[20, 5, 5], [18, 19, 20, 21, 22, 23, 24, 25, 26, 27, 28, 18, 22, 27, 1, 0, 0], [20]⟩, ⟨some 20, .move (.tmp 5), 3, none⟩),
 (⟨[21, 19, 20, 0, 5], [18, 19, 20, 21, 22, 23, 24, 25, 26, 27, 28, 18, 22, 27, 1, 0, 0], [21]⟩, ⟨some 21, .indexAddr 22 (.tmp 19) (.tmp 20), 0, none⟩),
 (⟨[22, 21, 0], [18, 19, 20, 21, 22, 23, 24, 25, 26, 27, 28, 18, 22, 27, 1, 0, 0], [22]⟩, ⟨some 22, .load 27 (.tmp 21), 27, none⟩),
 (⟨[23, 0, 0], [18, 19, 20, 21, 22, 23, 24, 25, 26, 27, 28, 18, 22, 27, 1, 0, 0], [23]⟩, ⟨some 23, .move (.tmp 0), 22, none⟩),
 (⟨[24, 5, 5], [18, 19, 20, 21, 22, 23, 24, 25, 26, 27, 28, 18, 22, 27, 1, 0, 0], [24]⟩, ⟨some 24, .move (.tmp 5), 3, none⟩),
 (⟨[25, 24, 5], [18, 19, 20, 21, 22, 23, 24, 25, 26, 27, 28, 18, 22, 27, 1, 0, 0], [25]⟩, ⟨some 25, .binOp .sub 3 (.tmp 24) (.const (.int .i64 1)) 3, 3, none⟩),
 (⟨[26, 23, 25, 0, 25], [18, 19, 20, 21, 22, 23, 24, 25, 26, 27, 28, 18, 22, 27, 1, 0, 0], [26]⟩, ⟨some 26, .indexAddr 22 (.tmp 23) (.tmp 25), 0, none⟩),
 (⟨[27, 26, 0], [18, 19, 20, 21, 22, 23, 24, 25, 26, 27, 28, 18, 22, 27, 1, 0, 0], [27]⟩, ⟨some 27, .load 27 (.tmp 26), 27, none⟩),
 (⟨[28, 18, 22, 27, 1, 0, 0], [18, 19, 20, 21, 22, 23, 24, 25, 26, 27, 28, 18, 22, 27, 1, 0, 0], [28, 18, 22, 27, 1, 0, 0]⟩, ⟨some 28, .call ⟨(.value (.tmp 18)), #[(.tmp 22), (.tmp 27)], #[27, 27]⟩, 4, none⟩)])
 (.cond (.tmp 28)
 (.seq
 (.ops [
 ⟨some 29, .move (.tmp 0), 22, none⟩,
 ⟨some 30, .move (.tmp 5), 3, none⟩,
 ⟨some 31, .slice 22 (.tmp 29) (some (.tmp 30)) none none, 900001, none⟩,
 ⟨some 6, .assign (.tmp 31), 22, none⟩])
 (.seq
 (.seq
 (.ops [
 ⟨some 7, .assign (.const (.int .i64 1)), 3, none⟩])
 (.block 2
 (.loop
 (.seq
 (.seq
 (.ops [
 ⟨some 32, .move (.tmp 7), 3, none⟩,
 ⟨some 33, .move (.tmp 6), 22, none⟩,
 ⟨some 34, .call ⟨(.builtin .len), #[(.tmp 33)], #[22]⟩, 3, none⟩,
 ⟨some 35, .binOp .lss 3 (.tmp 32) (.tmp 34) 3, 4, none⟩])
 (.cond (.tmp 35)
 .skip
 (.exit 2)))
 (.seq
 (.block 3
 (.seq
 (.draws [
 (⟨[38, 1, 1], [38, 39, 40, 41, 42, 43, 44, 45, 46, 47, 48, 38, 42, 47, 1, 6, 6, 49], [38]⟩, ⟨some 38, .move (.tmp 1), 32, none⟩),
 (⟨[39, 6, 6], [38, 39, 40, 41, 42, 43, 44, 45, 46, 47, 48, 38, 42, 47, 1, 6, 6, 49], [39]⟩, ⟨some 39, .move (.tmp 6), 22, none⟩),
 (⟨[40, 7, 7], [38, 39, 40, 41, 42, 43, 44, 45, 46, 47, 48, 38, 42, 47, 1, 6, 6, 49], [40]⟩, ⟨some 40, .move (.tmp 7), 3, none⟩),
 (⟨[41, 39, 40, 6, 7], [38, 39, 40, 41, 42, 43, 44, 45, 46, 47, 48, 38, 42, 47, 1, 6, 6, 49], [41]⟩, ⟨some 41, .indexAddr 22 (.tmp 39) (.tmp 40), 0, none⟩),
 (⟨[42, 41, 6], [38, 39, 40, 41, 42, 43, 44, 45, 46, 47, 48, 38, 42, 47, 1, 6, 6, 49], [42]⟩, ⟨some 42, .load 27 (.tmp 41), 27, none⟩),
 (⟨[43, 6, 6], [38, 39, 40, 41, 42, 43, 44, 45, 46, 47, 48, 38, 42, 47, 1, 6, 6, 49], [43]⟩, ⟨some 43, .move (.tmp 6), 22, none⟩),
 (⟨[44, 7, 7], [38, 39, 40, 41, 42, 43, 44, 45, 46, 47, 48, 38, 42, 47, 1, 6, 6, 49], [44]⟩, ⟨some 44, .move (.tmp 7), 3, none⟩),
 (⟨[45, 44, 7], [38, 39, 40, 41, 42, 43, 44, 45, 46, 47, 48, 38, 42, 47, 1, 6, 6, 49], [45]⟩, ⟨some 45, .binOp .sub 3 (.tmp 44) (.const (.int .i64 1)) 3, 3, none⟩),
 (⟨[46, 43, 45, 6, 45], [38, 39, 40, 41, 42, 43, 44, 45, 46, 47, 48, 38, 42, 47, 1, 6, 6, 49], [46]⟩, ⟨some 46, .indexAddr 22 (.tmp 43) (.tmp 45), 0, none⟩),
 (⟨[47, 46, 6], [38, 39, 40, 41, 42, 43, 44, 45, 46, 47, 48, 38, 42, 47, 1, 6, 6, 49], [47]⟩, ⟨some 47, .load 27 (.tmp 46), 27, none⟩),
 (⟨[48, 38, 42, 47, 1, 6, 6], [38, 39, 40, 41, 42, 43, 44, 45, 46, 47, 48, 38, 42, 47, 1, 6, 6, 49], [48, 38, 42, 47, 1, 6, 6]⟩, ⟨some 48, .call ⟨(.value (.tmp 38)), #[(.tmp 42), (.tmp 47)], #[27, 27]⟩, 4, none⟩),
 (⟨[49, 48, 48], [38, 39, 40, 41, 42, 43, 44, 45, 46, 47, 48, 38, 42, 47, 1, 6, 6, 49], [49]⟩, ⟨some 49, .unOp .not 4 (.tmp 48), 4, none⟩)])
 (.cond (.tmp 49)
 (.seq
 (.ops [
 ⟨some 50, .move (.tmp 0), 22, none⟩,
 ⟨some 51, .move (.tmp 5), 3, none⟩,
 ⟨some 52, .move (.tmp 6), 22, none⟩,
 ⟨some 53, .move (.tmp 7), 3, none⟩,
 ⟨some 54, .indexAddr 22 (.tmp 52) (.tmp 53), 0, none⟩,
 ⟨some 55, .load 27 (.tmp 54), 27, none⟩,
 ⟨some 56, .indexAddr 22 (.tmp 50) (.tmp 51), 0, none⟩,
 ⟨none, .store 27 (.tmp 56) (.tmp 55), 0, none⟩])
 (.ops [
 ⟨some 57, .move (.tmp 5), 3, none⟩,
 ⟨some 58, .binOp .add 3 (.tmp 57) (.const (.int .i64 1)) 3, 3, none⟩,
 ⟨some 5, .assign (.tmp 58), 3, none⟩]))
 .skip)))
 (.ops [
 ⟨some 36, .move (.tmp 7), 3, none⟩,
 ⟨some 37, .binOp .add 3 (.tmp 36) (.const (.int .i64 1)) 3, 3, none⟩,
 ⟨some 7, .assign (.tmp 37), 3, none⟩]))))))
 (.seq
 (.ops [
 ⟨some 59, .move (.tmp 0), 22, none⟩,
 ⟨some 60, .move (.tmp 5), 3, none⟩,
 ⟨some 61, .slice 22 (.tmp 59) (some (.tmp 60)) none none, 900001, none⟩,
 ⟨none, .call ⟨(.builtin .clear), #[(.tmp 61)], #[22]⟩, 0, none⟩])
 (.seq
 (.ops [
 ⟨some 62, .move (.tmp 0), 22, none⟩,
 ⟨some 63, .move (.tmp 5), 3, none⟩,
 ⟨some 64, .slice 22 (.tmp 62) none (some (.tmp 63)) none, 900002, none⟩,
 ⟨some 4, .assign (.tmp 64), 22, none⟩])
 .ret))))
 .skip)))
 (.ops [
 ⟨some 16, .move (.tmp 5), 3, none⟩,
 ⟨some 17, .binOp .add 3 (.tmp 16) (.const (.int .i64 1)) 3, 3, none⟩,
 ⟨some 5, .assign (.tmp 17), 3, none⟩]))
def k102_l0 : SC := .loop k102_l0b
def k102 : SC :=
 .seq
 (.ops [
 ⟨some 4, .assign (.const (.slice none 0 0)), 22, none⟩])
 (.seq
 (.seq
 (.ops [
 ⟨some 8, .move (.tmp 0), 22, none⟩,
 ⟨some 9, .call ⟨(.builtin .len), #[(.tmp 8)], #[22]⟩, 3, none⟩,
 ⟨some 10, .binOp .lss 3 (.tmp 9) (.const (.int .i64 2)) 3, 4, none⟩])
 (.cond (.tmp 10)
 (.seq
 (.ops [
 ⟨some 11, .move (.tmp 0), 22, none⟩,
 ⟨some 4, .assign (.tmp 11), 22, none⟩])
 .ret)
 .skip))
 (.seq
 (.seq
 (.ops [
 ⟨some 5, .assign (.const (.int .i64 1)), 3, none⟩])
 (.block 0
 k102_l0))
 (.seq
 (.ops [
 ⟨some 65, .move (.tmp 0), 22, none⟩,
 ⟨some 4, .assign (.tmp 65), 22, none⟩])
 .ret)))
theorem slim102 : Tryz.f102.body.map (slim lends) = some k102 := by kernel_rfl
theorem ok102 : fnOk Tryz.f102 2 = true := by kernel_rfl
theorem c102 {a l : List D} {r : D × List D} (h : wpD Y.env k102 (fin tys l.length [ResultVar.tmp 4] r) (entry a l)) (ha : a.length = 2) : Y.call 102 a l = some r :=
 call_slim (Y := Y) rfl Tryz.func102 (ha ▸ ok102) slim102 h
def gCF_l0_M (t0_ : List (List Int)) (t1_ : (List Int) → (List Int) → Option Bool) (t1__f : FuncId) (t1__c : List D) (t5_ : Int) (s : St) : Prop := (∃ w_, s.v 0 = D.vw [100000] (s.k 100000) w_) ∧ s.v 1 = D.clo t1__f t1__c ∧ s.v 5 = D.int .i64 t5_ ∧ s.v 100000 = D.own 27 (lst (fun x => D.own 3 (lst (D.int .i64) x)) t0_)
def gCF_l0_X (t0_ : List (List Int)) (t1_ : (List Int) → (List Int) → Option Bool) (t1__f : FuncId) (t1__c : List D) (r : Unit) (ex : Ex) (s : St) : Prop := ex = .exit 0 ∧ (∃ w_, s.v 0 = D.vw [100000] (s.k 100000) w_) ∧ s.v 100000 = D.own 27 (lst (fun x => D.own 3 (lst (D.int .i64) x)) t0_)
theorem gCF_l0_wp (t0_ : List (List Int)) (t1_ : (List Int) → (List Int) → Option Bool) (t1__f : FuncId) (t1__c : List D) (t1__h : ∀ (a0 a1 : List Int) (r : Bool), t1_ a0 a1 = some r → Y.call t1__f (D.sl 3 (lst (D.int .i64) a0) :: D.sl 3 (lst (D.int .i64) a1) :: t1__c) [] = some (D.bool r, [])) (t1__l : lends t1__f = false) {v : Int} {s : St} {r : Unit} (h : gCF_l0 t0_ t1_ v = some r) (hM : gCF_l0_M t0_ t1_ t1__f t1__c v s) : wpD Y.env k102_l0 (gCF_l0_X t0_ t1_ t1__f t1__c r) s := by
 unfold gCF_l0 at h
 refine wd_itO (c := k102_l0b) (fun v => gCF_l0_S t0_ t1_ v) (fun v s => gCF_l0_M t0_ t1_ t1__f t1__c v s) (gCF_l0_X t0_ t1_ t1__f t1__c) ?_ h hM
 clear h hM s v r
 intro t5_ s o hM h
 unfold gCF_l0_S at h
 unfold gCF_l0_M at hM
 obtain ⟨⟨w0_, m0⟩, m1, m2, m3⟩ := hM
 unfold k102_l0b
 by_cases e2 : t5_ < (t0_.length : Int)
 ·rw [if_pos e2] at h
  obtain ⟨e3, h⟩ := ckS h
  obtain ⟨e4, h⟩ := ckS h
  obtain ⟨r5_, hl5, h⟩ := bindS h
  try dsimp only at h
  have c5 := t1__h _ _ _ hl5
  by_cases e6 : r5_ = true
  ·rw [if_pos e6] at h
   cases h
  ·rw [if_neg e6] at h
   have e6f : r5_ = false := Bool.eq_false_iff.mpr e6
   cases h
   simp (maxDischargeDepth := 9) only [↓xpre, xpost, xlst, xcore, yset, ↓reduceIte, Nat.reduceEqDiff, Nat.reduceLT, Nat.reduceAdd, Nat.reduceBEq, m0, m1, m2, m3, t1__l, e2, e3.1, e3.2, e4.1, e4.2, c5, e6f, gCF_l0_M, sxN] <;> (repeat' apply And.intro) <;> first | rfl | exact ⟨_, rfl⟩ | simp [lst, cat2_nil]
 ·rw [if_neg e2] at h
  cases h
  simp (maxDischargeDepth := 9) only [↓xpre, xpost, xlst, xcore, yset, ↓reduceIte, Nat.reduceEqDiff, Nat.reduceLT, m0, m2, m3, e2, gCF_l0_M, gCF_l0_X, sxE] <;> (repeat' apply And.intro) <;> first | rfl | exact ⟨_, rfl⟩ | simp [lst, cat2_nil]
theorem gCF_call (t0_ : List (List Int)) (t1_ : (List Int) → (List Int) → Option Bool) (t1__f : FuncId) (t1__c : List D) (t1__h : ∀ (a0 a1 : List Int) (r : Bool), t1_ a0 a1 = some r → Y.call t1__f (D.sl 3 (lst (D.int .i64) a0) :: D.sl 3 (lst (D.int .i64) a1) :: t1__c) [] = some (D.bool r, [])) (t1__l : lends t1__f = false) {r : (List (List Int))} (h : gCF t0_ t1_ = some r) : Y.call 102 [D.vw [100000] 0 0, D.clo t1__f t1__c] [D.own 27 (lst (fun x => D.own 3 (lst (D.int .i64) x)) t0_)] = some (D.own 27 (lst (fun x => D.own 3 (lst (D.int .i64) x)) r), [D.undef]) := by
 refine c102 ?_ rfl
 unfold k102
 unfold gCF at h
 by_cases e1 : (t0_.length : Int) < 2
 ·rw [if_pos e1] at h
  cases h
  simp (maxDischargeDepth := 9) only [↓xpre, xpost, xlst, xcore, yset, ↓reduceIte, Nat.reduceEqDiff, Nat.reduceLT, Nat.reduceAdd, Nat.reduceSub, e1]
 ·rw [if_neg e1] at h
  obtain ⟨r3_, hl3, h⟩ := bindS h
  try dsimp only at h
  simp (maxDischargeDepth := 9) only [↓xpre, xpost, xlst, xcore, yset, ↓reduceIte, Nat.reduceEqDiff, Nat.reduceLT, Nat.reduceAdd, Nat.reduceSub, e1]
  refine wd_mono (gCF_l0_wp t0_ t1_ t1__f t1__c t1__h t1__l hl3 ?_) ?_
  ·simp (maxDischargeDepth := 9) only [xpost, xcore, ↓reduceIte, Nat.reduceEqDiff, Nat.reduceLT, Nat.reduceSub, gCF_l0_M] <;> (repeat' apply And.intro) <;> first | rfl | exact ⟨_, rfl⟩ | simp [lst, cat2_nil]
  ·intro ex3 s3 hX3
   unfold gCF_l0_X at hX3
   obtain ⟨rfl, ⟨w0_, n3_0⟩, n3_1⟩ := hX3
   cases h
   simp (maxDischargeDepth := 9) only [↓xpre, xpost, xlst, xcore, ↓reduceIte, Nat.reduceEqDiff, Nat.reduceLT, n3_0, n3_1]

noncomputable def gEq_l0_S (s1_ s2_ : List Int) (t13_ : Int) : Option ((Int) ⊕ (Unit ⊕ Unit)) :=
 if t13_ < (s1_.length : Int) then
  ck (0 ≤ t13_ ∧ t13_.toNat < s1_.length) <|
  ck (0 ≤ t13_ ∧ t13_.toNat < s2_.length) <|
  if (s1_.getD t13_.toNat default) = (s2_.getD t13_.toNat default) then
   some (Sum.inl (IntKind.i64.wrap (t13_ + 1)))
  else
   some (Sum.inr (Sum.inl ()))
 else
  some (Sum.inr (Sum.inr ()))
noncomputable def gEq_l0 (s1_ s2_ : List Int) (v : Int) : Option (Unit ⊕ Unit) := itO (fun v => gEq_l0_S s1_ s2_ v) v
noncomputable def gEq (s1_ s2_ : List Int) : Option (Bool) :=
 if (s1_.length : Int) = (s2_.length : Int) then
  (gEq_l0 s1_ s2_ 0).bind fun r3_ =>
  match r3_ with
  | .inl q3_ =>
   some false
  | .inr q3_ =>
   some true
 else
  some false
/-- slices.Equal[[]int,int] -/
def k103_l0b : SC :=
 .seq
 (.ops [
 ⟨some 14, .binOp .lss 3 (.tmp 13) (.tmp 12) 3, 0, none⟩])
 (.seq
 (.cond (.tmp 14)
 .skip
 (.exit 0))
 (.seq
 (.block 1
 (.seq
 (.ops [
 ⟨some 15, .move (.tmp 13), 3, none⟩,
 ⟨some 5, .assign (.tmp 15), 3, none⟩])
 (.seq
 (.draws [
 (⟨[16, 0, 0], [16, 17, 18, 19, 20, 21, 22, 23, 24], [16]⟩, ⟨some 16, .move (.tmp 0), 27, none⟩),
 (⟨[17, 5, 5], [16, 17, 18, 19, 20, 21, 22, 23, 24], [17]⟩, ⟨some 17, .move (.tmp 5), 3, none⟩),
 (⟨[18, 16, 17, 0, 5], [16, 17, 18, 19, 20, 21, 22, 23, 24], [18]⟩, ⟨some 18, .indexAddr 27 (.tmp 16) (.tmp 17), 0, none⟩),
 (⟨[19, 18, 0], [16, 17, 18, 19, 20, 21, 22, 23, 24], [19]⟩, ⟨some 19, .load 3 (.tmp 18), 3, none⟩),
 (⟨[20, 1, 1], [16, 17, 18, 19, 20, 21, 22, 23, 24], [20]⟩, ⟨some 20, .move (.tmp 1), 27, none⟩),
 (⟨[21, 5, 5], [16, 17, 18, 19, 20, 21, 22, 23, 24], [21]⟩, ⟨some 21, .move (.tmp 5), 3, none⟩),
 (⟨[22, 20, 21, 1, 5], [16, 17, 18, 19, 20, 21, 22, 23, 24], [22]⟩, ⟨some 22, .indexAddr 27 (.tmp 20) (.tmp 21), 0, none⟩),
 (⟨[23, 22, 1], [16, 17, 18, 19, 20, 21, 22, 23, 24], [23]⟩, ⟨some 23, .load 3 (.tmp 22), 3, none⟩),
 (⟨[24, 19, 23, 0, 1], [16, 17, 18, 19, 20, 21, 22, 23, 24], [24]⟩, ⟨some 24, .binOp .neq 3 (.tmp 19) (.tmp 23) 3, 4, none⟩)])
 (.cond (.tmp 24)
 (.seq
 (.ops [
 ⟨some 4, .assign (.const (.bool false)), 4, none⟩])
 .ret)
 .skip))))
 (.ops [
 ⟨some 25, .binOp .add 3 (.tmp 13) (.const (.int .i64 1)) 3, 3, none⟩,
 ⟨some 13, .move (.tmp 25), 3, none⟩])))
def k103_l0 : SC := .loop k103_l0b
def k103 : SC :=
 .seq
 (.ops [
 ⟨some 4, .assign (.const (.bool false)), 4, none⟩])
 (.seq
 (.seq
 (.ops [
 ⟨some 6, .move (.tmp 0), 27, none⟩,
 ⟨some 7, .call ⟨(.builtin .len), #[(.tmp 6)], #[27]⟩, 3, none⟩,
 ⟨some 8, .move (.tmp 1), 27, none⟩,
 ⟨some 9, .call ⟨(.builtin .len), #[(.tmp 8)], #[27]⟩, 3, none⟩,
 ⟨some 10, .binOp .neq 3 (.tmp 7) (.tmp 9) 3, 4, none⟩])
 (.cond (.tmp 10)
 (.seq
 (.ops [
 ⟨some 4, .assign (.const (.bool false)), 4, none⟩])
 .ret)
 .skip))
 (.seq
 (.seq
 (.ops [
 ⟨some 11, .move (.tmp 0), 27, none⟩,
 ⟨some 12, .call ⟨(.builtin .len), #[(.tmp 11)], #[27]⟩, 3, none⟩,
 ⟨some 13, .move (.const (.int .i64 0)), 3, none⟩])
 (.block 0
 k103_l0))
 (.seq
 (.ops [
 ⟨some 4, .assign (.const (.bool true)), 4, none⟩])
 .ret)))
theorem slim103 : Tryz.f103.body.map (slim lends) = some k103 := by kernel_rfl
theorem ok103 : fnOk Tryz.f103 2 = true := by kernel_rfl
theorem c103 {a l : List D} {r : D × List D} (h : wpD Y.env k103 (fin tys l.length [ResultVar.tmp 4] r) (entry a l)) (ha : a.length = 2) : Y.call 103 a l = some r :=
 call_slim (Y := Y) rfl Tryz.func103 (ha ▸ ok103) slim103 h
def gEq_l0_M (s1_ s2_ : List Int) (t13_ : Int) (s : St) : Prop := s.v 0 = D.sl 3 (lst (D.int .i64) s1_) ∧ s.v 1 = D.sl 3 (lst (D.int .i64) s2_) ∧ s.v 12 = D.int .i64 (s1_.length : Int) ∧ s.v 13 = D.int .i64 t13_
def gEq_l0_X (s1_ s2_ : List Int) (r : Unit ⊕ Unit) (ex : Ex) (s : St) : Prop := match r with
 | .inl q => ex = .ret ∧ s.v 4 = D.bool false
 | .inr q => ex = .exit 0
theorem gEq_l0_wp (s1_ s2_ : List Int) {v : Int} {s : St} {r : Unit ⊕ Unit} (h : gEq_l0 s1_ s2_ v = some r) (hM : gEq_l0_M s1_ s2_ v s) : wpD Y.env k103_l0 (gEq_l0_X s1_ s2_ r) s := by
 unfold gEq_l0 at h
 refine wd_itO (c := k103_l0b) (fun v => gEq_l0_S s1_ s2_ v) (fun v s => gEq_l0_M s1_ s2_ v s) (gEq_l0_X s1_ s2_) ?_ h hM
 clear h hM s v r
 intro t13_ s o hM h
 unfold gEq_l0_S at h
 unfold gEq_l0_M at hM
 obtain ⟨m0, m1, m2, m3⟩ := hM
 unfold k103_l0b
 by_cases e2 : t13_ < (s1_.length : Int)
 ·rw [if_pos e2] at h
  obtain ⟨e3, h⟩ := ckS h
  obtain ⟨e4, h⟩ := ckS h
  by_cases e5 : (s1_.getD t13_.toNat default) = (s2_.getD t13_.toNat default)
  ·rw [if_pos e5] at h
   cases h
   simp (maxDischargeDepth := 9) only [↓xpre, xpost, xlst, xcore, yset, ↓reduceIte, Nat.reduceEqDiff, Nat.reduceLT, m0, m1, m2, m3, e2, e3.1, e3.2, e4.2, decide_eq_true e5, gEq_l0_M, sxN]
  ·rw [if_neg e5] at h
   cases h
   simp (maxDischargeDepth := 9) only [↓xpre, xpost, xlst, xcore, yset, ↓reduceIte, Nat.reduceEqDiff, Nat.reduceLT, m0, m1, m2, m3, e2, e3.1, e3.2, e4.2, e5, gEq_l0_M, gEq_l0_X, sxR]
 ·rw [if_neg e2] at h
  cases h
  simp (maxDischargeDepth := 9) only [↓xpre, xpost, yset, ↓reduceIte, Nat.reduceLT, m2, m3, e2, gEq_l0_M, gEq_l0_X, sxE]
theorem gEq_call (s1_ s2_ : List Int) {r : Bool} (h : gEq s1_ s2_ = some r) : Y.call 103 [D.sl 3 (lst (D.int .i64) s1_), D.sl 3 (lst (D.int .i64) s2_)] [] = some (D.bool r, []) := by
 refine c103 ?_ rfl
 unfold k103
 unfold gEq at h
 by_cases e1 : (s1_.length : Int) = (s2_.length : Int)
 ·rw [if_pos e1] at h
  obtain ⟨r3_, hl3, h⟩ := bindS h
  try dsimp only at h
  simp (maxDischargeDepth := 9) only [↓xpre, xpost, xlst, xcore, yset, ↓reduceIte, Nat.reduceEqDiff, Nat.reduceLT, decide_eq_true e1]
  refine wd_mono (gEq_l0_wp s1_ s2_ hl3 ?_) ?_
  ·simp (maxDischargeDepth := 9) only [xpost, xcore, ↓reduceIte, Nat.reduceEqDiff, Nat.reduceLT, gEq_l0_M]
  ·intro ex3 s3 hX3
   rcases r3_ with q3_ | q3_
   ·unfold gEq_l0_X at hX3
    dsimp only at hX3 h
    obtain ⟨rfl, n3_0⟩ := hX3
    cases h
    simp (maxDischargeDepth := 9) only [↓xpre, xpost, xcore, ↓reduceIte, n3_0]
   ·unfold gEq_l0_X at hX3
    dsimp only at hX3 h
    obtain rfl := hX3
    cases h
    simp (maxDischargeDepth := 9) only [↓xpre, xpost, xcore, yset, ↓reduceIte, Nat.reduceEqDiff, Nat.reduceLT]
 ·rw [if_neg e1] at h
  cases h
  simp (maxDischargeDepth := 9) only [↓xpre, xpost, xlst, xcore, yset, ↓reduceIte, Nat.reduceEqDiff, Nat.reduceLT, e1]

noncomputable def i_sortedLists (list : List (List Int)) : Option ((List (List Int))) :=
 ck (list.length < 4611686018427387904) <|
 ck (∀ x ∈ list, x.length ≤ 9223372036854775807) <|
 (gCF (sortL list) (fun a0 a1 => gEq a0 a1)).bind fun r4_ =>
 some r4_
/-- impl.sortedLists -/
def k71 : SC :=
 .seq
 (.ops [
 ⟨some 2, .assign (.const (.slice none 0 0)), 22, none⟩])
 (.seq
 (.ops [
 ⟨some 3, .move (.tmp 0), 22, none⟩,
 ⟨some 4, .call ⟨(.value (.func 101)), #[(.tmp 3), (.func 64)], #[22, 61]⟩, 0, none⟩])
 (.seq
 (.ops [
 ⟨some 5, .move (.tmp 0), 22, none⟩,
 ⟨some 6, .call ⟨(.value (.func 102)), #[(.tmp 5), (.func 103)], #[22, 32]⟩, 22, none⟩,
 ⟨some 2, .assign (.tmp 6), 22, none⟩])
 .ret))
theorem slim71 : Tryz.f71.body.map (slim lends) = some k71 := by kernel_rfl
theorem ok71 : fnOk Tryz.f71 1 = true := by kernel_rfl
theorem c71 {a l : List D} {r : D × List D} (h : wpD Y.env k71 (fin tys l.length [ResultVar.tmp 2] r) (entry a l)) (ha : a.length = 1) : Y.call 71 a l = some r :=
 call_slim (Y := Y) rfl Tryz.func71 (ha ▸ ok71) slim71 h
theorem i_sortedLists_call (list : List (List Int)) {r : (List (List Int))} (h : i_sortedLists list = some r) : Y.call 71 [D.vw [100000] 0 0] [D.own 27 (lst (fun x => D.own 3 (lst (D.int .i64) x)) list)] = some (D.own 27 (lst (fun x => D.own 3 (lst (D.int .i64) x)) r), [D.undef]) := by
 refine c71 ?_ rfl
 unfold k71
 unfold i_sortedLists at h
 obtain ⟨e1, h⟩ := ckS h
 obtain ⟨e2, h⟩ := ckS h
 have c3 := sortf_101 list e1 e2
 obtain ⟨r4_, hl4, h⟩ := bindS h
 try dsimp only at h
 have c4 := gCF_call (sortL list) (fun a0 a1 => gEq a0 a1) 103 [] (fun a0 a1 _ hh => gEq_call a0 a1 hh) le103 hl4
 cases h
 simp (maxDischargeDepth := 9) only [↓xpre, xpost, xlst, xcore, yset, ↓reduceIte, Nat.reduceEqDiff, Nat.reduceLT, Nat.reduceAdd, Nat.reduceSub, c3, c4]

noncomputable def i_renamed_l0_S (list : List (List Int)) (to : List Int) (out : List (List Int)) (t13_ : Int) (image : List Int) (t19_ : Int) : Option (((List Int) × Int) ⊕ ((List Int))) :=
 if t19_ < ((list.getD t13_.toNat default).length : Int) then
  ck (0 ≤ t19_ ∧ t19_.toNat < (list.getD t13_.toNat default).length) <|
  ck (0 ≤ ((list.getD t13_.toNat default).getD t19_.toNat default) ∧ ((list.getD t13_.toNat default).getD t19_.toNat default).toNat < to.length) <|
  ck (image.length + 1 < 1099511627776) <|
  some (Sum.inl ((image ++ [(to.getD (((list.getD t13_.toNat default).getD t19_.toNat default).toNat) default)]), IntKind.i64.wrap (t19_ + 1)))
 else
  some (Sum.inr image)
noncomputable def i_renamed_l0 (list : List (List Int)) (to : List Int) (out : List (List Int)) (t13_ : Int) (v : (List Int) × Int) : Option ((List Int)) := itO (fun v => i_renamed_l0_S list to out t13_ v.1 v.2) v
noncomputable def i_renamed_l1_S (list : List (List Int)) (to : List Int) (out : List (List Int)) (t13_ : Int) : Option (((List (List Int)) × Int) ⊕ ((List (List Int)))) :=
 if t13_ < (list.length : Int) then
  ck (0 ≤ t13_ ∧ t13_.toNat < list.length) <|
  (i_renamed_l0 list to out t13_ ([], 0)).bind fun r4_ =>
  ck (r4_.length < 1099511627776) <|
  if (r4_.contains (-1 : Int)) = true then
   some (Sum.inl (out, IntKind.i64.wrap (t13_ + 1)))
  else
   ck (r4_.length < 4611686018427387904) <|
   ck (out.length + 1 < 1099511627776) <|
   some (Sum.inl ((out ++ [(sortM r4_)]), IntKind.i64.wrap (t13_ + 1)))
 else
  some (Sum.inr out)
noncomputable def i_renamed_l1 (list : List (List Int)) (to : List Int) (v : (List (List Int)) × Int) : Option ((List (List Int))) := itO (fun v => i_renamed_l1_S list to v.1 v.2) v
noncomputable def i_renamed (list : List (List Int)) (to : List Int) : Option ((List (List Int))) :=
 (i_renamed_l1 list to ([], 0)).bind fun r2_ =>
 (i_sortedLists r2_).bind fun r3_ =>
 some r3_
/-- impl.renamed -/
def k47_l0b : SC :=
 .seq
 (.ops [
 ⟨some 20, .binOp .lss 3 (.tmp 19) (.tmp 18) 3, 0, none⟩])
 (.seq
 (.cond (.tmp 20)
 .skip
 (.exit 2))
 (.seq
 (.block 3
 (.seq
 (.ops [
 ⟨some 21, .indexAddr 27 (.tmp 17) (.tmp 19), 0, none⟩,
 ⟨some 22, .load 3 (.tmp 21), 3, none⟩,
 ⟨some 10, .assign (.tmp 22), 3, none⟩])
 (.ops [
 ⟨some 23, .move (.tmp 8), 27, none⟩,
 ⟨some 24, .move (.tmp 1), 27, none⟩,
 ⟨some 25, .move (.tmp 10), 3, none⟩,
 ⟨some 26, .indexAddr 27 (.tmp 24) (.tmp 25), 0, none⟩,
 ⟨some 27, .load 3 (.tmp 26), 3, none⟩,
 ⟨some 28, .buildSlice 27 1 #[(0, (.tmp 27))], 27, none⟩,
 ⟨some 29, .call ⟨(.builtin .append), #[(.tmp 23), (.tmp 28)], #[27, 27]⟩, 27, none⟩,
 ⟨some 8, .assign (.tmp 29), 27, none⟩])))
 (.ops [
 ⟨some 30, .binOp .add 3 (.tmp 19) (.const (.int .i64 1)) 3, 3, none⟩,
 ⟨some 19, .move (.tmp 30), 3, none⟩])))
def k47_l0 : SC := .loop k47_l0b
def k47_l1b : SC :=
 .seq
 (.ops [
 ⟨some 14, .binOp .lss 3 (.tmp 13) (.tmp 12) 3, 0, none⟩])
 (.seq
 (.cond (.tmp 14)
 .skip
 (.exit 0))
 (.seq
 (.block 1
 (.seq
 (.ops [
 ⟨some 15, .indexAddr 22 (.tmp 11) (.tmp 13), 0, none⟩,
 ⟨some 16, .load 27 (.tmp 15), 27, none⟩,
 ⟨some 7, .assign (.tmp 16), 27, none⟩])
 (.seq
 (.ops [
 ⟨some 8, .assign (.const (.slice none 0 0)), 27, none⟩])
 (.seq
 (.seq
 (.ops [
 ⟨some 17, .move (.tmp 7), 27, none⟩,
 ⟨some 18, .call ⟨(.builtin .len), #[(.tmp 17)], #[27]⟩, 3, none⟩,
 ⟨some 19, .move (.const (.int .i64 0)), 3, none⟩])
 (.block 2
 k47_l0))
 (.seq
 (.ops [
 ⟨some 31, .move (.tmp 8), 27, none⟩,
 ⟨some 32, .call ⟨(.value (.func 69)), #[(.tmp 31), (.const (.int .i64 (-1)))], #[27, 3]⟩, 4, none⟩,
 ⟨some 33, .unOp .not 4 (.tmp 32), 4, none⟩])
 (.cond (.tmp 33)
 (.seq
 (.ops [
 ⟨some 34, .move (.tmp 8), 27, none⟩,
 ⟨some 35, .call ⟨(.value (.func 70)), #[(.tmp 34)], #[27]⟩, 0, none⟩])
 (.ops [
 ⟨some 36, .move (.tmp 5), 22, none⟩,
 ⟨some 37, .move (.tmp 8), 27, none⟩,
 ⟨some 38, .buildSlice 22 1 #[(0, (.tmp 37))], 22, none⟩,
 ⟨some 39, .call ⟨(.builtin .append), #[(.tmp 36), (.tmp 38)], #[22, 22]⟩, 22, none⟩,
 ⟨some 5, .assign (.tmp 39), 22, none⟩]))
 .skip))))))
 (.ops [
 ⟨some 40, .binOp .add 3 (.tmp 13) (.const (.int .i64 1)) 3, 3, none⟩,
 ⟨some 13, .move (.tmp 40), 3, none⟩])))
def k47_l1 : SC := .loop k47_l1b
def k47 : SC :=
 .seq
 (.ops [
 ⟨some 4, .assign (.const (.slice none 0 0)), 22, none⟩])
 (.seq
 (.ops [
 ⟨some 5, .assign (.const (.slice none 0 0)), 22, none⟩])
 (.seq
 (.seq
 (.ops [
 ⟨some 11, .move (.tmp 0), 22, none⟩,
 ⟨some 12, .call ⟨(.builtin .len), #[(.tmp 11)], #[22]⟩, 3, none⟩,
 ⟨some 13, .move (.const (.int .i64 0)), 3, none⟩])
 (.block 0
 k47_l1))
 (.seq
 (.ops [
 ⟨some 41, .move (.tmp 5), 22, none⟩,
 ⟨some 42, .call ⟨(.value (.func 71)), #[(.tmp 41)], #[22]⟩, 22, none⟩,
 ⟨some 4, .assign (.tmp 42), 22, none⟩])
 .ret)))
theorem slim47 : Tryz.f47.body.map (slim lends) = some k47 := by kernel_rfl
theorem ok47 : fnOk Tryz.f47 2 = true := by kernel_rfl
theorem c47 {a l : List D} {r : D × List D} (h : wpD Y.env k47 (fin tys l.length [ResultVar.tmp 4] r) (entry a l)) (ha : a.length = 2) : Y.call 47 a l = some r :=
 call_slim (Y := Y) rfl Tryz.func47 (ha ▸ ok47) slim47 h
def i_renamed_l0_M (list : List (List Int)) (to : List Int) (out : List (List Int)) (t13_ : Int) (image : List Int) (t19_ : Int) (s : St) : Prop := s.v 1 = D.sl 3 (lst (D.int .i64) to) ∧ s.v 5 = D.own 27 (lst (fun x => D.own 3 (lst (D.int .i64) x)) out) ∧ s.v 8 = D.own 3 (lst (D.int .i64) image) ∧ s.v 11 = D.sl 27 (lst (fun x => D.sl 3 (lst (D.int .i64) x)) list) ∧ s.v 12 = D.int .i64 (list.length : Int) ∧ s.v 13 = D.int .i64 t13_ ∧ s.v 17 = D.sl 3 (lst (D.int .i64) (list.getD t13_.toNat default)) ∧ s.v 18 = D.int .i64 ((list.getD t13_.toNat default).length : Int) ∧ s.v 19 = D.int .i64 t19_
def i_renamed_l0_X (list : List (List Int)) (to : List Int) (out : List (List Int)) (t13_ : Int) (r : (List Int)) (ex : Ex) (s : St) : Prop := ex = .exit 2 ∧ s.v 1 = D.sl 3 (lst (D.int .i64) to) ∧ s.v 5 = D.own 27 (lst (fun x => D.own 3 (lst (D.int .i64) x)) out) ∧ s.v 8 = D.own 3 (lst (D.int .i64) r) ∧ s.v 11 = D.sl 27 (lst (fun x => D.sl 3 (lst (D.int .i64) x)) list) ∧ s.v 12 = D.int .i64 (list.length : Int) ∧ s.v 13 = D.int .i64 t13_
theorem i_renamed_l0_wp (list : List (List Int)) (to : List Int) (out : List (List Int)) (t13_ : Int) {v : (List Int) × Int} {s : St} {r : (List Int)} (h : i_renamed_l0 list to out t13_ v = some r) (hM : i_renamed_l0_M list to out t13_ v.1 v.2 s) : wpD Y.env k47_l0 (i_renamed_l0_X list to out t13_ r) s := by
 unfold i_renamed_l0 at h
 refine wd_itO (c := k47_l0b) (fun v => i_renamed_l0_S list to out t13_ v.1 v.2) (fun v s => i_renamed_l0_M list to out t13_ v.1 v.2 s) (i_renamed_l0_X list to out t13_) ?_ h hM
 clear h hM s v r
 intro v s o hM h
 obtain ⟨image, t19_⟩ := v
 dsimp only at h hM
 unfold i_renamed_l0_S at h
 unfold i_renamed_l0_M at hM
 obtain ⟨m0, m1, m2, m3, m4, m5, m6, m7, m8⟩ := hM
 unfold k47_l0b
 by_cases e3 : t19_ < ((list.getD t13_.toNat default).length : Int)
 ·rw [if_pos e3] at h
  obtain ⟨e4, h⟩ := ckS h
  obtain ⟨e5, h⟩ := ckS h
  obtain ⟨e6, h⟩ := ckS h
  cases h
  simp (maxDischargeDepth := 9) only [↓xpre, xpost, xlst, xcore, yset, ↓reduceIte, Nat.reduceEqDiff, Nat.reduceLT, Nat.reduceLeDiff, Nat.reduceAdd, m0, m1, m2, m3, m4, m5, m6, m7, m8, e3, e4.1, e4.2, e5.1, e5.2, e6, i_renamed_l0_M, sxN]
 ·rw [if_neg e3] at h
  cases h
  simp (maxDischargeDepth := 9) only [↓xpre, xpost, yset, ↓reduceIte, Nat.reduceEqDiff, Nat.reduceLT, m0, m1, m2, m3, m4, m5, m7, m8, e3, i_renamed_l0_M, i_renamed_l0_X, sxE]
def i_renamed_l1_M (list : List (List Int)) (to : List Int) (out : List (List Int)) (t13_ : Int) (s : St) : Prop := s.v 1 = D.sl 3 (lst (D.int .i64) to) ∧ s.v 5 = D.own 27 (lst (fun x => D.own 3 (lst (D.int .i64) x)) out) ∧ s.v 11 = D.sl 27 (lst (fun x => D.sl 3 (lst (D.int .i64) x)) list) ∧ s.v 12 = D.int .i64 (list.length : Int) ∧ s.v 13 = D.int .i64 t13_
def i_renamed_l1_X (list : List (List Int)) (to : List Int) (r : (List (List Int))) (ex : Ex) (s : St) : Prop := ex = .exit 0 ∧ s.v 5 = D.own 27 (lst (fun x => D.own 3 (lst (D.int .i64) x)) r)
theorem i_renamed_l1_wp (list : List (List Int)) (to : List Int) {v : (List (List Int)) × Int} {s : St} {r : (List (List Int))} (h : i_renamed_l1 list to v = some r) (hM : i_renamed_l1_M list to v.1 v.2 s) : wpD Y.env k47_l1 (i_renamed_l1_X list to r) s := by
 unfold i_renamed_l1 at h
 refine wd_itO (c := k47_l1b) (fun v => i_renamed_l1_S list to v.1 v.2) (fun v s => i_renamed_l1_M list to v.1 v.2 s) (i_renamed_l1_X list to) ?_ h hM
 clear h hM s v r
 intro v s o hM h
 obtain ⟨out, t13_⟩ := v
 dsimp only at h hM
 unfold i_renamed_l1_S at h
 unfold i_renamed_l1_M at hM
 obtain ⟨m0, m1, m2, m3, m4⟩ := hM
 unfold k47_l1b
 by_cases e1 : t13_ < (list.length : Int)
 ·rw [if_pos e1] at h
  obtain ⟨e2, h⟩ := ckS h
  obtain ⟨r4_, hl4, h⟩ := bindS h
  try dsimp only at h
  simp (maxDischargeDepth := 9) only [↓xpre, xpost, xlst, xcore, yset, ↓reduceIte, Nat.reduceEqDiff, Nat.reduceLT, Int.reduceNeg, m2, m3, m4, e1, e2.1, e2.2]
  refine wd_mono (i_renamed_l0_wp list to out t13_ hl4 ?_) ?_
  ·simp (maxDischargeDepth := 9) only [xpost, ↓reduceIte, Nat.reduceEqDiff, m0, m1, m2, m3, m4, i_renamed_l0_M] <;> (repeat' apply And.intro) <;> first | rfl | exact ⟨_, rfl⟩ | simp [lst, cat2_nil]
  ·intro ex4 s4 hX4
   unfold i_renamed_l0_X at hX4
   obtain ⟨rfl, n4_0, n4_1, n4_2, n4_3, n4_4, n4_5⟩ := hX4
   obtain ⟨e5, h⟩ := ckS h
   have c6 := g_slices_Contains_Sint_int_cl r4_ (-1 : Int) e5
   by_cases e7 : (r4_.contains (-1 : Int)) = true
   ·rw [if_pos e7] at h
    cases h
    simp (maxDischargeDepth := 9) only [↓xpre, xpost, xlst, xcore, yset, ↓reduceIte, Nat.reduceEqDiff, Nat.reduceLT, Nat.reduceAdd, Int.reduceNeg, n4_0, n4_1, n4_2, n4_3, n4_4, n4_5, c6, e7, i_renamed_l1_M, sxN]
   ·rw [if_neg e7] at h
    have e7f : (r4_.contains (-1 : Int)) = false := Bool.eq_false_iff.mpr e7
    obtain ⟨e8, h⟩ := ckS h
    have c9 := sort_70 r4_ e8
    obtain ⟨e10, h⟩ := ckS h
    cases h
    simp (maxDischargeDepth := 9) only [↓xpre, xpost, xlst, xcore, yset, ↓reduceIte, Nat.reduceEqDiff, Nat.reduceLT, Nat.reduceLeDiff, Nat.reduceAdd, Int.reduceNeg, n4_0, n4_1, n4_2, n4_3, n4_4, n4_5, c6, e7f, c9, e10, i_renamed_l1_M, sxN]
 ·rw [if_neg e1] at h
  cases h
  simp (maxDischargeDepth := 9) only [↓xpre, xpost, yset, ↓reduceIte, Nat.reduceEqDiff, Nat.reduceLT, Int.reduceNeg, m1, m3, m4, e1, i_renamed_l1_M, i_renamed_l1_X, sxE]
theorem i_renamed_call (list : List (List Int)) (to : List Int) {r : (List (List Int))} (h : i_renamed list to = some r) : Y.call 47 [D.sl 27 (lst (fun x => D.sl 3 (lst (D.int .i64) x)) list), D.sl 3 (lst (D.int .i64) to)] [] = some (D.own 27 (lst (fun x => D.own 3 (lst (D.int .i64) x)) r), []) := by
 refine c47 ?_ rfl
 unfold k47
 unfold i_renamed at h
 obtain ⟨r2_, hl2, h⟩ := bindS h
 try dsimp only at h
 simp (maxDischargeDepth := 9) only [↓xpre, xpost, xlst, xcore, yset, ↓reduceIte, Nat.reduceEqDiff, Nat.reduceLT]
 refine wd_mono (i_renamed_l1_wp list to hl2 ?_) ?_
 ·simp (maxDischargeDepth := 9) only [xpost, xcore, ↓reduceIte, Nat.reduceEqDiff, Nat.reduceLT, i_renamed_l1_M] <;> (repeat' apply And.intro) <;> first | rfl | exact ⟨_, rfl⟩ | simp [lst, cat2_nil]
 ·intro ex2 s2 hX2
  unfold i_renamed_l1_X at hX2
  obtain ⟨rfl, n2_0⟩ := hX2
  obtain ⟨r3_, hl3, h⟩ := bindS h
  try dsimp only at h
  have c3 := i_sortedLists_call r2_ hl3
  cases h
  simp (maxDischargeDepth := 9) only [↓xpre, xpost, xlst, xcore, yset, ↓reduceIte, Nat.reduceEqDiff, Nat.reduceLT, Nat.reduceAdd, n2_0, c3]

noncomputable def s_coThrough_l0_S (l at_ out : List Int) (t10_ : Int) : Option (((List Int) × Int) ⊕ ((List Int))) :=
 if t10_ < (at_.length : Int) then
  ck (0 ≤ t10_ ∧ t10_.toNat < at_.length) <|
  ck (0 ≤ (at_.getD t10_.toNat default) ∧ (at_.getD t10_.toNat default).toNat < l.length) <|
  ck (out.length + 1 < 1099511627776) <|
  some (Sum.inl ((out ++ [(l.getD ((at_.getD t10_.toNat default).toNat) default)]), IntKind.i64.wrap (t10_ + 1)))
 else
  some (Sum.inr out)
noncomputable def s_coThrough_l0 (l at_ : List Int) (v : (List Int) × Int) : Option ((List Int)) := itO (fun v => s_coThrough_l0_S l at_ v.1 v.2) v
noncomputable def s_coThrough (l at_ : List Int) : Option ((List Int)) :=
 (s_coThrough_l0 l at_ ([], 0)).bind fun r2_ =>
 some r2_
/-- spec.coThrough -/
def k22_l0b : SC :=
 .seq
 (.ops [
 ⟨some 11, .binOp .lss 3 (.tmp 10) (.tmp 9) 3, 0, none⟩])
 (.seq
 (.cond (.tmp 11)
 .skip
 (.exit 0))
 (.seq
 (.block 1
 (.seq
 (.ops [
 ⟨some 12, .indexAddr 27 (.tmp 8) (.tmp 10), 0, none⟩,
 ⟨some 13, .load 3 (.tmp 12), 3, none⟩,
 ⟨some 7, .assign (.tmp 13), 3, none⟩])
 (.ops [
 ⟨some 14, .move (.tmp 5), 27, none⟩,
 ⟨some 15, .move (.tmp 0), 27, none⟩,
 ⟨some 16, .move (.tmp 7), 3, none⟩,
 ⟨some 17, .indexAddr 27 (.tmp 15) (.tmp 16), 0, none⟩,
 ⟨some 18, .load 3 (.tmp 17), 3, none⟩,
 ⟨some 19, .buildSlice 27 1 #[(0, (.tmp 18))], 27, none⟩,
 ⟨some 20, .call ⟨(.builtin .append), #[(.tmp 14), (.tmp 19)], #[27, 27]⟩, 27, none⟩,
 ⟨some 5, .assign (.tmp 20), 27, none⟩])))
 (.ops [
 ⟨some 21, .binOp .add 3 (.tmp 10) (.const (.int .i64 1)) 3, 3, none⟩,
 ⟨some 10, .move (.tmp 21), 3, none⟩])))
def k22_l0 : SC := .loop k22_l0b
def k22 : SC :=
 .seq
 (.ops [
 ⟨some 4, .assign (.const (.slice none 0 0)), 27, none⟩])
 (.seq
 (.ops [
 ⟨some 5, .assign (.const (.slice none 0 0)), 27, none⟩])
 (.seq
 (.seq
 (.ops [
 ⟨some 8, .move (.tmp 1), 27, none⟩,
 ⟨some 9, .call ⟨(.builtin .len), #[(.tmp 8)], #[27]⟩, 3, none⟩,
 ⟨some 10, .move (.const (.int .i64 0)), 3, none⟩])
 (.block 0
 k22_l0))
 (.seq
 (.ops [
 ⟨some 22, .move (.tmp 5), 27, none⟩,
 ⟨some 4, .assign (.tmp 22), 27, none⟩])
 .ret)))
theorem slim22 : Tryz.f22.body.map (slim lends) = some k22 := by kernel_rfl
theorem ok22 : fnOk Tryz.f22 2 = true := by kernel_rfl
theorem c22 {a l : List D} {r : D × List D} (h : wpD Y.env k22 (fin tys l.length [ResultVar.tmp 4] r) (entry a l)) (ha : a.length = 2) : Y.call 22 a l = some r :=
 call_slim (Y := Y) rfl Tryz.func22 (ha ▸ ok22) slim22 h
def s_coThrough_l0_M (l at_ out : List Int) (t10_ : Int) (s : St) : Prop := s.v 0 = D.sl 3 (lst (D.int .i64) l) ∧ s.v 5 = D.own 3 (lst (D.int .i64) out) ∧ s.v 8 = D.sl 3 (lst (D.int .i64) at_) ∧ s.v 9 = D.int .i64 (at_.length : Int) ∧ s.v 10 = D.int .i64 t10_
def s_coThrough_l0_X (l at_ : List Int) (r : (List Int)) (ex : Ex) (s : St) : Prop := ex = .exit 0 ∧ s.v 5 = D.own 3 (lst (D.int .i64) r)
theorem s_coThrough_l0_wp (l at_ : List Int) {v : (List Int) × Int} {s : St} {r : (List Int)} (h : s_coThrough_l0 l at_ v = some r) (hM : s_coThrough_l0_M l at_ v.1 v.2 s) : wpD Y.env k22_l0 (s_coThrough_l0_X l at_ r) s := by
 unfold s_coThrough_l0 at h
 refine wd_itO (c := k22_l0b) (fun v => s_coThrough_l0_S l at_ v.1 v.2) (fun v s => s_coThrough_l0_M l at_ v.1 v.2 s) (s_coThrough_l0_X l at_) ?_ h hM
 clear h hM s v r
 intro v s o hM h
 obtain ⟨out, t10_⟩ := v
 dsimp only at h hM
 unfold s_coThrough_l0_S at h
 unfold s_coThrough_l0_M at hM
 obtain ⟨m0, m1, m2, m3, m4⟩ := hM
 unfold k22_l0b
 by_cases e1 : t10_ < (at_.length : Int)
 ·rw [if_pos e1] at h
  obtain ⟨e2, h⟩ := ckS h
  obtain ⟨e3, h⟩ := ckS h
  obtain ⟨e4, h⟩ := ckS h
  cases h
  simp (maxDischargeDepth := 9) only [↓xpre, xpost, xlst, xcore, yset, ↓reduceIte, Nat.reduceEqDiff, Nat.reduceLT, Nat.reduceLeDiff, Nat.reduceAdd, m0, m1, m2, m3, m4, e1, e2.1, e2.2, e3.1, e3.2, e4, s_coThrough_l0_M, sxN]
 ·rw [if_neg e1] at h
  cases h
  simp (maxDischargeDepth := 9) only [↓xpre, xpost, yset, ↓reduceIte, Nat.reduceEqDiff, Nat.reduceLT, m1, m3, m4, e1, s_coThrough_l0_M, s_coThrough_l0_X, sxE]
theorem s_coThrough_call (l at_ : List Int) {r : (List Int)} (h : s_coThrough l at_ = some r) : Y.call 22 [D.sl 3 (lst (D.int .i64) l), D.sl 3 (lst (D.int .i64) at_)] [] = some (D.own 3 (lst (D.int .i64) r), []) := by
 refine c22 ?_ rfl
 unfold k22
 unfold s_coThrough at h
 obtain ⟨r2_, hl2, h⟩ := bindS h
 try dsimp only at h
 simp (maxDischargeDepth := 9) only [↓xpre, xpost, xlst, xcore, yset, ↓reduceIte, Nat.reduceEqDiff, Nat.reduceLT]
 refine wd_mono (s_coThrough_l0_wp l at_ hl2 ?_) ?_
 ·simp (maxDischargeDepth := 9) only [xpost, xcore, ↓reduceIte, Nat.reduceEqDiff, Nat.reduceLT, s_coThrough_l0_M] <;> (repeat' apply And.intro) <;> first | rfl | exact ⟨_, rfl⟩ | simp [lst, cat2_nil]
 ·intro ex2 s2 hX2
  unfold s_coThrough_l0_X at hX2
  obtain ⟨rfl, n2_0⟩ := hX2
  cases h
  simp (maxDischargeDepth := 9) only [↓xpre, xpost, xlst, xcore, ↓reduceIte, Nat.reduceEqDiff, Nat.reduceLT, n2_0]

noncomputable def s_prInsert_l0_S (l : List (List Int)) (x_ : List Int) (k : Int) : Option ((Int) ⊕ (Int)) :=
 if k < (l.length : Int) then
  ck (0 ≤ k ∧ k.toNat < l.length) <|
  ck ((l.getD k.toNat default).length < 1099511627776) <|
  ck ((l.getD k.toNat default).length = x_.length) <|
  ck (smallI (l.getD k.toNat default) = true) <|
  ck (smallI x_ = true) <|
  if (cmpL (l.getD k.toNat default) x_) < 0 then
   some (Sum.inl (IntKind.i64.wrap (k + 1)))
  else
   some (Sum.inr k)
 else
  some (Sum.inr k)
noncomputable def s_prInsert_l0 (l : List (List Int)) (x_ : List Int) (v : Int) : Option (Int) := itO (fun v => s_prInsert_l0_S l x_ v) v
noncomputable def s_prInsert (l : List (List Int)) (x_ : List Int) : Option (((List (List Int))) ⊕ ((List (List Int)))) :=
 (s_prInsert_l0 l x_ 0).bind fun r2_ =>
 if r2_ < (l.length : Int) then
  ck (0 ≤ r2_ ∧ r2_.toNat < l.length) <|
  (s_l1Same (l.getD r2_.toNat default) x_).bind fun r5_ =>
  if r5_ = true then
   some (Sum.inl l)
  else
   ck (0 ≤ r2_) <|
   ck (r2_.toNat ≤ l.length) <|
   ck (0 + ((l.take r2_.toNat).drop 0).length < 1099511627776) <|
   ck (((l.take r2_.toNat).drop 0).length + 1 < 1099511627776) <|
   ck ((((l.take r2_.toNat).drop 0) ++ [x_]).length + ((l.take l.length).drop r2_.toNat).length < 1099511627776) <|
   some (Sum.inr ((((l.take r2_.toNat).drop 0) ++ [x_]) ++ ((l.take l.length).drop r2_.toNat)))
 else
  ck (0 ≤ r2_) <|
  ck (r2_.toNat ≤ l.length) <|
  ck (0 + ((l.take r2_.toNat).drop 0).length < 1099511627776) <|
  ck (((l.take r2_.toNat).drop 0).length + 1 < 1099511627776) <|
  ck ((((l.take r2_.toNat).drop 0) ++ [x_]).length + ((l.take l.length).drop r2_.toNat).length < 1099511627776) <|
  some (Sum.inr ((((l.take r2_.toNat).drop 0) ++ [x_]) ++ ((l.take l.length).drop r2_.toNat)))
/-- spec.prInsert -/
def k61_l0b : SC :=
 .seq
 (.seq
 (.ops [
 ⟨some 7, .move (.tmp 5), 3, none⟩,
 ⟨some 8, .move (.tmp 0), 22, none⟩,
 ⟨some 9, .call ⟨(.builtin .len), #[(.tmp 8)], #[22]⟩, 3, none⟩,
 ⟨some 10, .binOp .lss 3 (.tmp 7) (.tmp 9) 3, 4, none⟩,
 ⟨some 11, .move (.tmp 10), 4, none⟩,
 ⟨some 12, .move (.tmp 0), 22, (some (some 11, true))⟩,
 ⟨some 13, .move (.tmp 5), 3, (some (some 11, true))⟩,
 ⟨some 14, .indexAddr 22 (.tmp 12) (.tmp 13), 0, (some (some 11, true))⟩,
 ⟨some 15, .load 27 (.tmp 14), 27, (some (some 11, true))⟩,
 ⟨some 16, .move (.tmp 1), 27, (some (some 11, true))⟩,
 ⟨some 17, .call ⟨(.value (.func 57)), #[(.tmp 15), (.tmp 16)], #[27, 27]⟩, 3, (some (some 11, true))⟩,
 ⟨some 18, .binOp .lss 3 (.tmp 17) (.const (.int .i64 0)) 3, 4, (some (some 11, true))⟩,
 ⟨some 19, .pick (.tmp 11) (.tmp 18) (.const (.bool false)), 4, none⟩])
 (.cond (.tmp 19)
 .skip
 (.exit 0)))
 (.block 1
 (.ops [
 ⟨some 20, .move (.tmp 5), 3, none⟩,
 ⟨some 21, .binOp .add 3 (.tmp 20) (.const (.int .i64 1)) 3, 3, none⟩,
 ⟨some 5, .assign (.tmp 21), 3, none⟩]))
def k61_l0 : SC := .loop k61_l0b
def k61 : SC :=
 .seq
 (.ops [
 ⟨some 4, .assign (.const (.slice none 0 0)), 22, none⟩])
 (.seq
 (.ops [
 ⟨some 5, .assign (.const (.int .i64 0)), 3, none⟩])
 (.seq
 (.block 0
 k61_l0)
 (.seq
 (.seq
 (.ops [
 ⟨some 22, .move (.tmp 5), 3, none⟩,
 ⟨some 23, .move (.tmp 0), 22, none⟩,
 ⟨some 24, .call ⟨(.builtin .len), #[(.tmp 23)], #[22]⟩, 3, none⟩,
 ⟨some 25, .binOp .lss 3 (.tmp 22) (.tmp 24) 3, 4, none⟩,
 ⟨some 26, .move (.tmp 25), 4, none⟩,
 ⟨some 27, .move (.tmp 0), 22, (some (some 26, true))⟩,
 ⟨some 28, .move (.tmp 5), 3, (some (some 26, true))⟩,
 ⟨some 29, .indexAddr 22 (.tmp 27) (.tmp 28), 0, (some (some 26, true))⟩,
 ⟨some 30, .load 27 (.tmp 29), 27, (some (some 26, true))⟩,
 ⟨some 31, .move (.tmp 1), 27, (some (some 26, true))⟩,
 ⟨some 32, .call ⟨(.value (.func 89)), #[(.tmp 30), (.tmp 31)], #[27, 27]⟩, 4, (some (some 26, true))⟩,
 ⟨some 33, .pick (.tmp 26) (.tmp 32) (.const (.bool false)), 4, none⟩])
 (.cond (.tmp 33)
 (.seq
 (.ops [
 ⟨some 34, .move (.tmp 0), 22, none⟩,
 ⟨some 4, .assign (.tmp 34), 22, none⟩])
 .ret)
 .skip))
 (.seq
 (.ops [
 ⟨some 35, .buildSlice 22 0 #[], 22, none⟩,
 ⟨some 36, .move (.tmp 0), 22, none⟩,
 ⟨some 37, .move (.tmp 5), 3, none⟩,
 ⟨some 38, .slice 22 (.tmp 36) none (some (.tmp 37)) none, 22, none⟩,
 ⟨some 39, .call ⟨(.builtin .append), #[(.tmp 35), (.tmp 38)], #[22, 22]⟩, 22, none⟩,
 ⟨some 6, .assign (.tmp 39), 22, none⟩])
 (.seq
 (.ops [
 ⟨some 40, .move (.tmp 6), 22, none⟩,
 ⟨some 41, .move (.tmp 1), 27, none⟩,
 ⟨some 42, .buildSlice 22 1 #[(0, (.tmp 41))], 22, none⟩,
 ⟨some 43, .call ⟨(.builtin .append), #[(.tmp 40), (.tmp 42)], #[22, 22]⟩, 22, none⟩,
 ⟨some 6, .assign (.tmp 43), 22, none⟩])
 (.seq
 (.ops [
 ⟨some 44, .move (.tmp 6), 22, none⟩,
 ⟨some 45, .move (.tmp 0), 22, none⟩,
 ⟨some 46, .move (.tmp 5), 3, none⟩,
 ⟨some 47, .slice 22 (.tmp 45) (some (.tmp 46)) none none, 22, none⟩,
 ⟨some 48, .call ⟨(.builtin .append), #[(.tmp 44), (.tmp 47)], #[22, 22]⟩, 22, none⟩,
 ⟨some 4, .assign (.tmp 48), 22, none⟩])
 .ret))))))
theorem slim61 : Tryz.f61.body.map (slim lends) = some k61 := by kernel_rfl
theorem ok61 : fnOk Tryz.f61 2 = true := by kernel_rfl
theorem c61 {a l : List D} {r : D × List D} (h : wpD Y.env k61 (fin tys l.length [ResultVar.tmp 4] r) (entry a l)) (ha : a.length = 2) : Y.call 61 a l = some r :=
 call_slim (Y := Y) rfl Tryz.func61 (ha ▸ ok61) slim61 h
def s_prInsert_l0_M (l : List (List Int)) (x_ : List Int) (k : Int) (s : St) : Prop := s.v 0 = D.sl 27 (lst (fun x => D.sl 3 (lst (D.int .i64) x)) l) ∧ s.v 1 = D.sl 3 (lst (D.int .i64) x_) ∧ s.v 5 = D.int .i64 k
def s_prInsert_l0_X (l : List (List Int)) (x_ : List Int) (r : Int) (ex : Ex) (s : St) : Prop := ex = .exit 0 ∧ s.v 0 = D.sl 27 (lst (fun x => D.sl 3 (lst (D.int .i64) x)) l) ∧ s.v 1 = D.sl 3 (lst (D.int .i64) x_) ∧ s.v 5 = D.int .i64 r
theorem s_prInsert_l0_wp (l : List (List Int)) (x_ : List Int) {v : Int} {s : St} {r : Int} (h : s_prInsert_l0 l x_ v = some r) (hM : s_prInsert_l0_M l x_ v s) : wpD Y.env k61_l0 (s_prInsert_l0_X l x_ r) s := by
 unfold s_prInsert_l0 at h
 refine wd_itO (c := k61_l0b) (fun v => s_prInsert_l0_S l x_ v) (fun v s => s_prInsert_l0_M l x_ v s) (s_prInsert_l0_X l x_) ?_ h hM
 clear h hM s v r
 intro k s o hM h
 unfold s_prInsert_l0_S at h
 unfold s_prInsert_l0_M at hM
 obtain ⟨m0, m1, m2⟩ := hM
 unfold k61_l0b
 by_cases e1 : k < (l.length : Int)
 ·rw [if_pos e1] at h
  obtain ⟨e2, h⟩ := ckS h
  obtain ⟨e3, h⟩ := ckS h
  obtain ⟨e4, h⟩ := ckS h
  obtain ⟨e5, h⟩ := ckS h
  obtain ⟨e6, h⟩ := ckS h
  have c7 := s_prOrder_cl (l.getD k.toNat default) x_ e3 e4 e5 e6
  by_cases e8 : (cmpL (l.getD k.toNat default) x_) < 0
  ·rw [if_pos e8] at h
   cases h
   simp (maxDischargeDepth := 9) only [↓xpre, xpost, xlst, xcore, yset, ↓reduceIte, Nat.reduceEqDiff, Nat.reduceLT, Nat.reduceAdd, m0, m1, m2, e1, e2.1, e2.2, c7, e8, s_prInsert_l0_M, sxN]
  ·rw [if_neg e8] at h
   cases h
   simp (maxDischargeDepth := 9) only [↓xpre, xpost, xlst, xcore, yset, ↓reduceIte, Nat.reduceEqDiff, Nat.reduceLT, Nat.reduceAdd, m0, m1, m2, e1, e2.1, e2.2, c7, e8, s_prInsert_l0_M, s_prInsert_l0_X, sxE]
 ·rw [if_neg e1] at h
  cases h
  simp (maxDischargeDepth := 9) only [↓xpre, xpost, xlst, yset, ↓reduceIte, Nat.reduceEqDiff, Nat.reduceLT, m0, m1, m2, e1, s_prInsert_l0_M, s_prInsert_l0_X, sxE]
theorem s_prInsert_call (l : List (List Int)) (x_ : List Int) {r : ((List (List Int))) ⊕ ((List (List Int)))} (h : s_prInsert l x_ = some r) : Y.call 61 [D.sl 27 (lst (fun x => D.sl 3 (lst (D.int .i64) x)) l), D.sl 3 (lst (D.int .i64) x_)] [] = some (match r with | .inl q => (D.sl 27 (lst (fun x => D.sl 3 (lst (D.int .i64) x)) q), []) | .inr q => (D.own 27 (lst (fun x => D.sl 3 (lst (D.int .i64) x)) q), [])) := by
 refine c61 ?_ rfl
 unfold k61
 unfold s_prInsert at h
 obtain ⟨r2_, hl2, h⟩ := bindS h
 try dsimp only at h
 simp (maxDischargeDepth := 9) only [↓xpre, xpost, xcore, yset, ↓reduceIte, Nat.reduceEqDiff, Nat.reduceLT]
 refine wd_mono (s_prInsert_l0_wp l x_ hl2 ?_) ?_
 ·simp (maxDischargeDepth := 9) only [xpost, xcore, ↓reduceIte, Nat.reduceEqDiff, Nat.reduceLT, s_prInsert_l0_M]
 ·intro ex2 s2 hX2
  unfold s_prInsert_l0_X at hX2
  obtain ⟨rfl, n2_0, n2_1, n2_2⟩ := hX2
  by_cases e3 : r2_ < (l.length : Int)
  ·rw [if_pos e3] at h
   obtain ⟨e4, h⟩ := ckS h
   obtain ⟨r5_, hl5, h⟩ := bindS h
   try dsimp only at h
   have c5 := s_l1Same_call (l.getD r2_.toNat default) x_ hl5
   by_cases e6 : r5_ = true
   ·rw [if_pos e6] at h
    cases h
    simp (maxDischargeDepth := 9) only [↓xpre, xpost, xlst, xcore, yset, ↓reduceIte, Nat.reduceEqDiff, Nat.reduceLT, Nat.reduceAdd, n2_0, n2_1, n2_2, e3, e4.1, e4.2, c5, e6]
   ·rw [if_neg e6] at h
    have e6f : r5_ = false := Bool.eq_false_iff.mpr e6
    obtain ⟨e7, h⟩ := ckS h
    obtain ⟨e8, h⟩ := ckS h
    obtain ⟨e9, h⟩ := ckS h
    obtain ⟨e10, h⟩ := ckS h
    obtain ⟨e11, h⟩ := ckS h
    cases h
    simp (maxDischargeDepth := 9) only [↓xpre, xpost, xlst, xcore, yset, ↓reduceIte, Nat.reduceEqDiff, Nat.reduceLT, Nat.reduceLeDiff, Nat.reduceAdd, n2_0, n2_1, n2_2, e3, e4.1, e4.2, c5, e6f, e8, e9, e10, e11]
  ·rw [if_neg e3] at h
   obtain ⟨e4, h⟩ := ckS h
   obtain ⟨e5, h⟩ := ckS h
   obtain ⟨e6, h⟩ := ckS h
   obtain ⟨e7, h⟩ := ckS h
   obtain ⟨e8, h⟩ := ckS h
   cases h
   simp (maxDischargeDepth := 9) only [↓xpre, xpost, xlst, xcore, yset, ↓reduceIte, Nat.reduceEqDiff, Nat.reduceLT, Nat.reduceLeDiff, Nat.reduceAdd, n2_0, n2_1, n2_2, e3, e4, e5, e6, e7, e8]

noncomputable def s_prMap_l0_S (l : List (List Int)) (to : List Int) (out : List (List Int)) (t11_ : Int) : Option (((List (List Int)) × Int) ⊕ ((List (List Int)))) :=
 if t11_ < (l.length : Int) then
  ck (0 ≤ t11_ ∧ t11_.toNat < l.length) <|
  (s_coThrough to (l.getD t11_.toNat default)).bind fun r3_ =>
  ck (r3_.length < 1099511627776) <|
  ck (0 < (sortI r3_).length) <|
  if 0 ≤ ((sortI r3_).getD 0 default) then
   (s_prInsert out (sortI r3_)).bind fun r8_ =>
   match r8_ with
   | .inl q8_ =>
    some (Sum.inl (q8_, IntKind.i64.wrap (t11_ + 1)))
   | .inr q8_ =>
    some (Sum.inl (q8_, IntKind.i64.wrap (t11_ + 1)))
  else
   some (Sum.inl (out, IntKind.i64.wrap (t11_ + 1)))
 else
  some (Sum.inr out)
noncomputable def s_prMap_l0 (l : List (List Int)) (to : List Int) (v : (List (List Int)) × Int) : Option ((List (List Int))) := itO (fun v => s_prMap_l0_S l to v.1 v.2) v
noncomputable def s_prMap (l : List (List Int)) (to : List Int) : Option ((List (List Int))) :=
 (s_prMap_l0 l to ([], 0)).bind fun r2_ =>
 some r2_
/-- spec.prMap -/
def k40_l0b : SC :=
 .seq
 (.ops [
 ⟨some 12, .binOp .lss 3 (.tmp 11) (.tmp 10) 3, 0, none⟩])
 (.seq
 (.cond (.tmp 12)
 .skip
 (.exit 0))
 (.seq
 (.block 1
 (.seq
 (.ops [
 ⟨some 13, .indexAddr 22 (.tmp 9) (.tmp 11), 0, none⟩,
 ⟨some 14, .load 27 (.tmp 13), 27, none⟩,
 ⟨some 7, .assign (.tmp 14), 27, none⟩])
 (.seq
 (.ops [
 ⟨some 15, .move (.tmp 1), 27, none⟩,
 ⟨some 16, .move (.tmp 7), 27, none⟩,
 ⟨some 17, .call ⟨(.value (.func 22)), #[(.tmp 15), (.tmp 16)], #[27, 27]⟩, 27, none⟩,
 ⟨some 18, .call ⟨(.value (.func 60)), #[(.tmp 17)], #[27]⟩, 27, none⟩,
 ⟨some 8, .assign (.tmp 18), 27, none⟩])
 (.seq
 (.ops [
 ⟨some 19, .move (.tmp 8), 27, none⟩,
 ⟨some 20, .indexAddr 27 (.tmp 19) (.const (.int .i64 0)), 0, none⟩,
 ⟨some 21, .load 3 (.tmp 20), 3, none⟩,
 ⟨some 22, .binOp .geq 3 (.tmp 21) (.const (.int .i64 0)) 3, 4, none⟩])
 (.cond (.tmp 22)
 (.ops [
 ⟨some 23, .move (.tmp 5), 22, none⟩,
 ⟨some 24, .move (.tmp 8), 27, none⟩,
 ⟨some 25, .call ⟨(.value (.func 61)), #[(.tmp 23), (.tmp 24)], #[22, 27]⟩, 22, none⟩,
 ⟨some 5, .assign (.tmp 25), 900003, none⟩])
 .skip)))))
 (.ops [
 ⟨some 26, .binOp .add 3 (.tmp 11) (.const (.int .i64 1)) 3, 3, none⟩,
 ⟨some 11, .move (.tmp 26), 3, none⟩])))
def k40_l0 : SC := .loop k40_l0b
def k40 : SC :=
 .seq
 (.ops [
 ⟨some 4, .assign (.const (.slice none 0 0)), 22, none⟩])
 (.seq
 (.ops [
 ⟨some 5, .assign (.const (.slice none 0 0)), 1000022, none⟩])
 (.seq
 (.seq
 (.ops [
 ⟨some 9, .move (.tmp 0), 22, none⟩,
 ⟨some 10, .call ⟨(.builtin .len), #[(.tmp 9)], #[22]⟩, 3, none⟩,
 ⟨some 11, .move (.const (.int .i64 0)), 3, none⟩])
 (.block 0
 k40_l0))
 (.seq
 (.ops [
 ⟨some 27, .move (.tmp 5), 22, none⟩,
 ⟨some 4, .assign (.tmp 27), 22, none⟩])
 .ret)))
theorem slim40 : Tryz.f40.body.map (slim lends) = some k40 := by kernel_rfl
theorem ok40 : fnOk Tryz.f40 2 = true := by kernel_rfl
theorem c40 {a l : List D} {r : D × List D} (h : wpD Y.env k40 (fin tys l.length [ResultVar.tmp 4] r) (entry a l)) (ha : a.length = 2) : Y.call 40 a l = some r :=
 call_slim (Y := Y) rfl Tryz.func40 (ha ▸ ok40) slim40 h
def s_prMap_l0_M (l : List (List Int)) (to : List Int) (out : List (List Int)) (t11_ : Int) (s : St) : Prop := s.v 1 = D.sl 3 (lst (D.int .i64) to) ∧ s.v 5 = D.sl 27 (lst (fun x => D.sl 3 (lst (D.int .i64) x)) out) ∧ s.v 9 = D.sl 27 (lst (fun x => D.sl 3 (lst (D.int .i64) x)) l) ∧ s.v 10 = D.int .i64 (l.length : Int) ∧ s.v 11 = D.int .i64 t11_
def s_prMap_l0_X (l : List (List Int)) (to : List Int) (r : (List (List Int))) (ex : Ex) (s : St) : Prop := ex = .exit 0 ∧ s.v 5 = D.sl 27 (lst (fun x => D.sl 3 (lst (D.int .i64) x)) r)
theorem s_prMap_l0_wp (l : List (List Int)) (to : List Int) {v : (List (List Int)) × Int} {s : St} {r : (List (List Int))} (h : s_prMap_l0 l to v = some r) (hM : s_prMap_l0_M l to v.1 v.2 s) : wpD Y.env k40_l0 (s_prMap_l0_X l to r) s := by
 unfold s_prMap_l0 at h
 refine wd_itO (c := k40_l0b) (fun v => s_prMap_l0_S l to v.1 v.2) (fun v s => s_prMap_l0_M l to v.1 v.2 s) (s_prMap_l0_X l to) ?_ h hM
 clear h hM s v r
 intro v s o hM h
 obtain ⟨out, t11_⟩ := v
 dsimp only at h hM
 unfold s_prMap_l0_S at h
 unfold s_prMap_l0_M at hM
 obtain ⟨m0, m1, m2, m3, m4⟩ := hM
 unfold k40_l0b
 by_cases e1 : t11_ < (l.length : Int)
 ·rw [if_pos e1] at h
  obtain ⟨e2, h⟩ := ckS h
  obtain ⟨r3_, hl3, h⟩ := bindS h
  try dsimp only at h
  have c3 := s_coThrough_call to (l.getD t11_.toNat default) hl3
  obtain ⟨e4, h⟩ := ckS h
  have c5 := sPS_cl r3_ e4
  obtain ⟨e6, h⟩ := ckS h
  by_cases e7 : 0 ≤ ((sortI r3_).getD 0 default)
  ·rw [if_pos e7] at h
   obtain ⟨r8_, hl8, h⟩ := bindS h
   try dsimp only at h
   have c8 := s_prInsert_call out (sortI r3_) hl8
   rcases r8_ with q8_ | q8_
   ·dsimp only at h c8
    by_cases e9 : (!q8_.isEmpty) = true
    ·skip
     cases h
     simp (maxDischargeDepth := 9) only [↓xpre, xpost, xlst, xcore, yset, ↓reduceIte, Nat.reduceEqDiff, Nat.reduceLT, Nat.reduceAdd, m0, m1, m2, m3, m4, e1, e2.1, e2.2, c3, c5, e6, e7, c8, e9, s_prMap_l0_M, sxN]
    ·skip
     have e9f : (!q8_.isEmpty) = false := Bool.eq_false_iff.mpr e9
     cases h
     simp (maxDischargeDepth := 9) only [↓xpre, xpost, xlst, xcore, yset, ↓reduceIte, Nat.reduceEqDiff, Nat.reduceLT, Nat.reduceAdd, m0, m1, m2, m3, m4, e1, e2.1, e2.2, c3, c5, e6, e7, c8, e9f, s_prMap_l0_M, sxN]
   ·dsimp only at h c8
    by_cases e10 : (q8_.any fun x => (!x.isEmpty)) = true
    ·skip
     cases h
     simp (maxDischargeDepth := 9) only [↓xpre, xpost, xlst, xcore, yset, ↓reduceIte, Nat.reduceEqDiff, Nat.reduceLT, Nat.reduceAdd, m0, m1, m2, m3, m4, e1, e2.1, e2.2, c3, c5, e6, e7, c8, e10, s_prMap_l0_M, sxN]
    ·skip
     have e10f : (q8_.any fun x => (!x.isEmpty)) = false := Bool.eq_false_iff.mpr e10
     cases h
     simp (maxDischargeDepth := 9) only [↓xpre, xpost, xlst, xcore, yset, ↓reduceIte, Nat.reduceEqDiff, Nat.reduceLT, Nat.reduceAdd, m0, m1, m2, m3, m4, e1, e2.1, e2.2, c3, c5, e6, e7, c8, e10f, s_prMap_l0_M, sxN]
  ·rw [if_neg e7] at h
   cases h
   simp (maxDischargeDepth := 9) only [↓xpre, xpost, xlst, xcore, yset, ↓reduceIte, Nat.reduceEqDiff, Nat.reduceLT, Nat.reduceAdd, m0, m1, m2, m3, m4, e1, e2.1, e2.2, c3, c5, e6, e7, s_prMap_l0_M, sxN]
 ·rw [if_neg e1] at h
  cases h
  simp (maxDischargeDepth := 9) only [↓xpre, xpost, yset, ↓reduceIte, Nat.reduceEqDiff, Nat.reduceLT, m1, m3, m4, e1, s_prMap_l0_M, s_prMap_l0_X, sxE]
theorem s_prMap_call (l : List (List Int)) (to : List Int) {r : (List (List Int))} (h : s_prMap l to = some r) : Y.call 40 [D.sl 27 (lst (fun x => D.sl 3 (lst (D.int .i64) x)) l), D.sl 3 (lst (D.int .i64) to)] [] = some (D.sl 27 (lst (fun x => D.sl 3 (lst (D.int .i64) x)) r), []) := by
 refine c40 ?_ rfl
 unfold k40
 unfold s_prMap at h
 obtain ⟨r2_, hl2, h⟩ := bindS h
 try dsimp only at h
 simp (maxDischargeDepth := 9) only [↓xpre, xpost, xlst, xcore, yset, ↓reduceIte, Nat.reduceEqDiff, Nat.reduceLT, Nat.reduceSub]
 refine wd_mono (s_prMap_l0_wp l to hl2 ?_) ?_
 ·simp (maxDischargeDepth := 9) only [xpost, xcore, ↓reduceIte, Nat.reduceEqDiff, Nat.reduceLT, s_prMap_l0_M] <;> (repeat' apply And.intro) <;> first | rfl | exact ⟨_, rfl⟩ | simp [lst, cat2_nil]
 ·intro ex2 s2 hX2
  unfold s_prMap_l0_X at hX2
  obtain ⟨rfl, n2_0⟩ := hX2
  cases h
  simp (maxDischargeDepth := 9) only [↓xpre, xpost, xcore, ↓reduceIte, Nat.reduceEqDiff, Nat.reduceLT, n2_0]


end Go.Proofs.YtdjfaadpmbkcmaaGreat
