/- Configurations looked up by halving and one by one, as membership. Conditions: the lists are short and increasing. -/
import Derived.Test.YtdjfaadpmbkcmaaL6
import Derived.Test.YtdjfaadpmbkcmaaSrt
namespace Go.Proofs.Ytdjfaadpmbkcmaa
open Go Dv
set_option linter.unusedSimpArgs false
set_option linter.unusedVariables false
set_option maxRecDepth 100000
set_option maxHeartbeats 4000000

theorem insR_perm (x : Int) : ∀ r, (insR x r).Perm (x :: r) := by
 intro r
 induction r with
 | nil => exact List.Perm.refl _
 | cons y r ih =>
  unfold insR
  split
  ·exact ((List.perm_cons y).2 ih).trans (List.Perm.swap x y r)
  ·exact List.Perm.refl _
theorem insR_pair (x : Int) : ∀ r, r.Pairwise (fun a b => b ≤ a) → (insR x r).Pairwise (fun a b => b ≤ a) := by
 intro r
 induction r with
 | nil => intro _; simp [insR]
 | cons y r ih =>
  intro h
  obtain ⟨h1, h2⟩ := List.pairwise_cons.1 h
  unfold insR
  split
  ·rename_i hxy
   refine List.pairwise_cons.2 ⟨fun z hz => ?_, ih h2⟩
   rcases List.mem_cons.1 ((insR_perm x r).mem_iff.1 hz) with rfl | hz
   ·omega
   ·exact h1 z hz
  ·rename_i hxy
   refine List.pairwise_cons.2 ⟨fun z hz => ?_, h⟩
   rcases List.mem_cons.1 hz with rfl | hz
   ·omega
   ·have := h1 z hz; omega
theorem foldR_perm : ∀ (l r : List Int), (l.foldl (fun r x => insR x r) r).Perm (l ++ r) := by
 intro l
 induction l with
 | nil => intro r; exact List.Perm.refl _
 | cons x l ih =>
  intro r
  simp only [List.foldl_cons]
  exact (ih _).trans (((List.Perm.refl l).append (insR_perm x r)).trans List.perm_middle)
theorem foldR_pair : ∀ (l r : List Int), r.Pairwise (fun a b => b ≤ a) → (l.foldl (fun r x => insR x r) r).Pairwise (fun a b => b ≤ a) := by
 intro l
 induction l with
 | nil => intro r h; exact h
 | cons x l ih => intro r h; exact ih _ (insR_pair x r h)
theorem sortI_perm (l : List Int) : (sortI l).Perm l := by
 unfold sortI
 have := foldR_perm l []
 rw [List.append_nil] at this
 exact (List.reverse_perm _).trans this
theorem sortI_pair (l : List Int) : (sortI l).Pairwise (fun a b => a ≤ b) := by
 unfold sortI
 exact List.pairwise_reverse.2 (foldR_pair l [] List.Pairwise.nil)
theorem sortM_eq (l : List Int) : sortM l = sortI l := by
 refine List.Perm.eq_of_pairwise (le := fun a b : Int => a ≤ b) (fun a b _ _ h1 h2 => Int.le_antisymm h1 h2) ?_ (sortI_pair l) ((List.mergeSort_perm _ _).trans (sortI_perm l).symm)
 have := List.pairwise_mergeSort (le := fun x y : Int => decide (x ≤ y)) (fun a b c h1 h2 => by simp only [decide_eq_true_eq] at *; omega) (fun a b => by simp only [Bool.or_eq_true, decide_eq_true_eq]; omega) l
 unfold sortM
 exact this.imp (fun h => by simpa using h)
theorem sortI_len (l : List Int) : (sortI l).length = l.length := (sortI_perm l).length_eq
theorem cmpL_refl : ∀ a : List Int, cmpL a a = 0 := by
 intro a
 induction a with
 | nil => rfl
 | cons x a ih => unfold cmpL; rw [if_pos rfl, ih]
theorem cmpL_trans : ∀ (a b c : List Int), cmpL a b < 0 → cmpL b c < 0 → cmpL a c < 0 := by
 intro a
 induction a with
 | nil => intro b c h1 h2; cases c with
  | nil => cases b with
   | nil => simp [cmpL] at h1
   | cons y b => simp [cmpL] at h2
  | cons z c => simp [cmpL]
 | cons x a ih => intro b c h1 h2; cases b with
  | nil => simp [cmpL] at h1
  | cons y b => cases c with
   | nil => simp [cmpL] at h2
   | cons z c =>
    unfold cmpL at h1 h2 ⊢
    by_cases e1 : x = y
    ·subst e1
     rw [if_pos rfl] at h1
     by_cases e2 : x = z
     ·subst e2
      rw [if_pos rfl] at h2 ⊢
      exact ih b c h1 h2
     ·rw [if_neg e2] at h2 ⊢; exact h2
    ·rw [if_neg e1] at h1
     have l1 : x < y := by
      by_cases hl : x < y
      ·exact hl
      ·rw [if_neg hl] at h1; omega
     by_cases e2 : y = z
     ·subst e2
      rw [if_neg e1, if_pos l1]; decide
     ·rw [if_neg e2] at h2
      have l2 : y < z := by
       by_cases hl : y < z
       ·exact hl
       ·rw [if_neg hl] at h2; omega
      rw [if_neg (by omega), if_pos (by omega)]; decide
/-- The lists strictly increase. -/
def incL (l : List (List Int)) : Bool := (List.range l.length).all fun i => decide (i = 0) || decide (cmpL (l.getD (i - 1) default) (l.getD i default) < 0)
theorem incL_lt {l : List (List Int)} (h : incL l = true) : ∀ (d i : Nat), i + d + 1 < l.length → cmpL (l.getD i default) (l.getD (i + d + 1) default) < 0 := by
 have step : ∀ i, i + 1 < l.length → cmpL (l.getD i default) (l.getD (i + 1) default) < 0 := fun i hi => by
  have := range_all.1 h (i + 1) hi
  simpa using this
 intro d
 induction d with
 | zero => intro i hi; exact step i hi
 | succ d ih =>
  intro i hi
  exact cmpL_trans _ _ _ (ih i (by omega)) (step (i + d + 1) (by omega))
theorem incL_lt' {l : List (List Int)} (h : incL l = true) {i j : Nat} (hij : i < j) (hj : j < l.length) : cmpL (l.getD i default) (l.getD j default) < 0 := by
 have := incL_lt h (j - i - 1) i (by omega)
 rwa [show i + (j - i - 1) + 1 = j by omega] at this
theorem confs_inc {l : List (List Int)} {s n : Int} (h : confs l s n = true) : incL l = true := by
 refine range_all.2 fun i hi => ?_
 have := range_all.1 h i hi
 unfold confAt at this
 rw [Bool.and_eq_true] at this
 exact this.2
theorem mem_getD {l : List (List Int)} {x : List Int} : x ∈ l ↔ ∃ k, k < l.length ∧ l.getD k default = x := by
 constructor
 ·intro h
  obtain ⟨k, hk, e⟩ := List.getElem_of_mem h
  exact ⟨k, hk, by rw [List.getD_eq_getElem?_getD, List.getElem?_eq_getElem hk]; exact e⟩
 ·rintro ⟨k, hk, rfl⟩
  rw [List.getD_eq_getElem?_getD, List.getElem?_eq_getElem hk]; exact List.getElem_mem hk
noncomputable def s_l1Same_l0_S (a : List Int) (b : List Int) (t13_ : Int) : Option ((Int) ⊕ (Unit ⊕ Unit)) :=
 if t13_ < (a.length : Int) then
  ck (0 ≤ t13_ ∧ t13_.toNat < a.length) <|
  ck (0 ≤ t13_ ∧ t13_.toNat < b.length) <|
  if (a.getD t13_.toNat default) = (b.getD t13_.toNat default) then
   some (Sum.inl (IntKind.i64.wrap (t13_ + 1)))
  else
   some (Sum.inr (Sum.inl ()))
 else
  some (Sum.inr (Sum.inr ()))
noncomputable def s_l1Same_l0 (a : List Int) (b : List Int) (v : Int) : Option (Unit ⊕ Unit) := itO (fun v => s_l1Same_l0_S a b v) v
noncomputable def s_l1Same (a : List Int) (b : List Int) : Option (Bool) :=
 if (a.length : Int) = (b.length : Int) then
  (s_l1Same_l0 a b 0).bind fun r3_ =>
  match r3_ with
  | .inl q3_ =>
   some false
  | .inr q3_ =>
   some true
 else
  some false
/-- spec.l1Same -/
def k76_l0b : SC :=
 .seq
 (.ops [
 ⟨(some 14), (.binOp .lss 3 (.tmp 13) (.tmp 12) 3), 0, none⟩])
 (.seq
 (.cond (.tmp 14)
 .skip
 (.exit 0))
 (.seq
 (.block 1
 (.seq
 (.ops [
 ⟨(some 15), (.move (.tmp 13)), 3, none⟩,
 ⟨(some 5), (.assign (.tmp 15)), 3, none⟩])
 (.seq
 (.draws [
 (⟨[16, 0, 0], [16, 17, 18, 19, 20, 21, 22, 23, 24], [16]⟩, ⟨(some 16), (.move (.tmp 0)), 33, none⟩),
 (⟨[17, 5, 5], [16, 17, 18, 19, 20, 21, 22, 23, 24], [17]⟩, ⟨(some 17), (.move (.tmp 5)), 3, none⟩),
 (⟨[18, 16, 17, 0, 5], [16, 17, 18, 19, 20, 21, 22, 23, 24], [18]⟩, ⟨(some 18), (.indexAddr 33 (.tmp 16) (.tmp 17)), 0, none⟩),
 (⟨[19, 18, 0], [16, 17, 18, 19, 20, 21, 22, 23, 24], [19]⟩, ⟨(some 19), (.load 3 (.tmp 18)), 3, none⟩),
 (⟨[20, 1, 1], [16, 17, 18, 19, 20, 21, 22, 23, 24], [20]⟩, ⟨(some 20), (.move (.tmp 1)), 33, none⟩),
 (⟨[21, 5, 5], [16, 17, 18, 19, 20, 21, 22, 23, 24], [21]⟩, ⟨(some 21), (.move (.tmp 5)), 3, none⟩),
 (⟨[22, 20, 21, 1, 5], [16, 17, 18, 19, 20, 21, 22, 23, 24], [22]⟩, ⟨(some 22), (.indexAddr 33 (.tmp 20) (.tmp 21)), 0, none⟩),
 (⟨[23, 22, 1], [16, 17, 18, 19, 20, 21, 22, 23, 24], [23]⟩, ⟨(some 23), (.load 3 (.tmp 22)), 3, none⟩),
 (⟨[24, 19, 23, 0, 1], [16, 17, 18, 19, 20, 21, 22, 23, 24], [24]⟩, ⟨(some 24), (.binOp .neq 3 (.tmp 19) (.tmp 23) 3), 4, none⟩)])
 (.cond (.tmp 24)
 (.seq
 (.ops [
 ⟨(some 4), (.assign (.const (.bool false))), 4, none⟩])
 .ret)
 .skip))))
 (.ops [
 ⟨(some 25), (.binOp .add 3 (.tmp 13) (.const (.int .i64 1)) 3), 3, none⟩,
 ⟨(some 13), (.move (.tmp 25)), 3, none⟩])))
def k76_l0 : SC := .loop k76_l0b
def k76 : SC :=
 .seq
 (.ops [
 ⟨(some 4), (.assign (.const (.bool false))), 4, none⟩])
 (.seq
 (.seq
 (.ops [
 ⟨(some 6), (.move (.tmp 0)), 33, none⟩,
 ⟨(some 7), (.call ⟨(.builtin .len), #[(.tmp 6)], #[33]⟩), 3, none⟩,
 ⟨(some 8), (.move (.tmp 1)), 33, none⟩,
 ⟨(some 9), (.call ⟨(.builtin .len), #[(.tmp 8)], #[33]⟩), 3, none⟩,
 ⟨(some 10), (.binOp .neq 3 (.tmp 7) (.tmp 9) 3), 4, none⟩])
 (.cond (.tmp 10)
 (.seq
 (.ops [
 ⟨(some 4), (.assign (.const (.bool false))), 4, none⟩])
 .ret)
 .skip))
 (.seq
 (.seq
 (.ops [
 ⟨(some 11), (.move (.tmp 0)), 33, none⟩,
 ⟨(some 12), (.call ⟨(.builtin .len), #[(.tmp 11)], #[33]⟩), 3, none⟩,
 ⟨(some 13), (.move (.const (.int .i64 0))), 3, none⟩])
 (.block 0
 k76_l0))
 (.seq
 (.ops [
 ⟨(some 4), (.assign (.const (.bool true))), 4, none⟩])
 .ret)))
theorem slim76 : Try.f76.body.map (slim lends) = some k76 := by kernel_rfl
theorem ok76 : fnOk Try.f76 2 = true := by kernel_rfl
theorem c76 {a l : List D} {r : D × List D} (h : wpD Y.env k76 (fin tys l.length [ResultVar.tmp 4] r) (entry a l)) (ha : a.length = 2) : Y.call 76 a l = some r :=
 call_slim (Y := Y) rfl Try.func76 (ha ▸ ok76) slim76 h
def s_l1Same_l0_M (a : List Int) (b : List Int) (t13_ : Int) (s : St) : Prop := s.v 0 = D.sl 3 (lst (D.int .i64) a) ∧ s.v 1 = D.sl 3 (lst (D.int .i64) b) ∧ s.v 12 = D.int .i64 (a.length : Int) ∧ s.v 13 = D.int .i64 t13_
def s_l1Same_l0_X (a : List Int) (b : List Int) (r : Unit ⊕ Unit) (ex : Ex) (s : St) : Prop := match r with
 | .inl q => ex = .ret ∧ s.v 4 = D.bool false
 | .inr q => ex = .exit 0
theorem s_l1Same_l0_wp (a : List Int) (b : List Int) {v : Int} {s : St} {r : Unit ⊕ Unit} (h : s_l1Same_l0 a b v = some r) (hM : s_l1Same_l0_M a b v s) : wpD Y.env k76_l0 (s_l1Same_l0_X a b r) s := by
 unfold s_l1Same_l0 at h
 refine wd_itO (c := k76_l0b) (fun v => s_l1Same_l0_S a b v) (fun v s => s_l1Same_l0_M a b v s) (s_l1Same_l0_X a b) ?_ h hM
 clear h hM s v r
 intro t13_ s o hM h
 unfold s_l1Same_l0_S at h
 unfold s_l1Same_l0_M at hM
 obtain ⟨m0, m1, m2, m3⟩ := hM
 unfold k76_l0b
 by_cases e2 : t13_ < (a.length : Int)
 ·rw [if_pos e2] at h
  obtain ⟨e3, h⟩ := ckS h
  obtain ⟨e4, h⟩ := ckS h
  by_cases e5 : (a.getD t13_.toNat default) = (b.getD t13_.toNat default)
  ·rw [if_pos e5] at h
   obtain rfl := Option.some.inj h
   simp (maxDischargeDepth := 9) only [↓xpre, xpost, xlst, xc2, xcore, yset, rg0, ↓reduceIte, Nat.reduceEqDiff, Nat.reduceLT, Nat.reduceLeDiff, Nat.reduceAdd, Nat.reduceMul, Nat.reduceMod, Nat.reduceSub, Nat.reduceBEq, Int.reduceLE, Int.reduceLT, Int.reduceEq, Int.reduceSub, Int.reduceAdd, Int.reduceToNat, Int.reduceNeg, m0, m1, m2, m3, e2, e3.1, e3.2, e4.1, e4.2, decide_eq_true e5, s_l1Same_l0_M, s_l1Same_l0_X, sxN, sxE, sxR] <;> (repeat' apply And.intro) <;> first | rfl | exact ⟨_, rfl⟩ | simp [lst, cat2_nil]
  ·rw [if_neg e5] at h
   obtain rfl := Option.some.inj h
   simp (maxDischargeDepth := 9) only [↓xpre, xpost, xlst, xc2, xcore, yset, rg0, ↓reduceIte, Nat.reduceEqDiff, Nat.reduceLT, Nat.reduceLeDiff, Nat.reduceAdd, Nat.reduceMul, Nat.reduceMod, Nat.reduceSub, Nat.reduceBEq, Int.reduceLE, Int.reduceLT, Int.reduceEq, Int.reduceSub, Int.reduceAdd, Int.reduceToNat, Int.reduceNeg, m0, m1, m2, m3, e2, e3.1, e3.2, e4.1, e4.2, e5, s_l1Same_l0_M, s_l1Same_l0_X, sxN, sxE, sxR] <;> (repeat' apply And.intro) <;> first | rfl | exact ⟨_, rfl⟩ | simp [lst, cat2_nil]
 ·rw [if_neg e2] at h
  obtain rfl := Option.some.inj h
  simp (maxDischargeDepth := 9) only [↓xpre, xpost, xlst, xc2, xcore, yset, rg0, ↓reduceIte, Nat.reduceEqDiff, Nat.reduceLT, Nat.reduceLeDiff, Nat.reduceAdd, Nat.reduceMul, Nat.reduceMod, Nat.reduceSub, Nat.reduceBEq, Int.reduceLE, Int.reduceLT, Int.reduceEq, Int.reduceSub, Int.reduceAdd, Int.reduceToNat, Int.reduceNeg, m0, m1, m2, m3, e2, s_l1Same_l0_M, s_l1Same_l0_X, sxN, sxE, sxR] <;> (repeat' apply And.intro) <;> first | rfl | exact ⟨_, rfl⟩ | simp [lst, cat2_nil]
theorem s_l1Same_call (a : List Int) (b : List Int) {r : Bool} (h : s_l1Same a b = some r) : Y.call 76 [D.sl 3 (lst (D.int .i64) a), D.sl 3 (lst (D.int .i64) b)] [] = some (D.bool r, []) := by
 refine c76 ?_ rfl
 unfold k76
 unfold s_l1Same at h
 by_cases e1 : (a.length : Int) = (b.length : Int)
 ·rw [if_pos e1] at h
  obtain ⟨r3_, hl3, h⟩ := bindS h
  try dsimp only at h
  simp (maxDischargeDepth := 9) only [↓xpre, xpost, xlst, xc2, xcore, yset, rg0, ↓reduceIte, Nat.reduceEqDiff, Nat.reduceLT, Nat.reduceLeDiff, Nat.reduceAdd, Nat.reduceMul, Nat.reduceMod, Nat.reduceSub, Nat.reduceBEq, Int.reduceLE, Int.reduceLT, Int.reduceEq, Int.reduceSub, Int.reduceAdd, Int.reduceToNat, Int.reduceNeg, decide_eq_true e1]
  refine wd_mono (s_l1Same_l0_wp a b hl3 ?_) ?_
  ·simp (maxDischargeDepth := 9) only [↓xpre, xpost, xlst, xc2, xcore, yset, rg0, ↓reduceIte, Nat.reduceEqDiff, Nat.reduceLT, Nat.reduceLeDiff, Nat.reduceAdd, Nat.reduceMul, Nat.reduceMod, Nat.reduceSub, Nat.reduceBEq, Int.reduceLE, Int.reduceLT, Int.reduceEq, Int.reduceSub, Int.reduceAdd, Int.reduceToNat, Int.reduceNeg, decide_eq_true e1, s_l1Same_l0_M] <;> (repeat' apply And.intro) <;> first | rfl | exact ⟨_, rfl⟩ | simp [lst, cat2_nil]
  ·intro ex3 s3 hX3
   rcases r3_ with q3_ | q3_
   ·unfold s_l1Same_l0_X at hX3
    dsimp only at hX3 h
    obtain ⟨rfl, n3_0⟩ := hX3
    obtain rfl := Option.some.inj h
    simp (maxDischargeDepth := 9) only [↓xpre, xpost, xlst, xc2, xcore, yset, rg0, ↓reduceIte, Nat.reduceEqDiff, Nat.reduceLT, Nat.reduceLeDiff, Nat.reduceAdd, Nat.reduceMul, Nat.reduceMod, Nat.reduceSub, Nat.reduceBEq, Int.reduceLE, Int.reduceLT, Int.reduceEq, Int.reduceSub, Int.reduceAdd, Int.reduceToNat, Int.reduceNeg, decide_eq_true e1, n3_0] <;> (repeat' apply And.intro) <;> first | rfl | exact ⟨_, rfl⟩ | simp [lst, cat2_nil]
   ·unfold s_l1Same_l0_X at hX3
    dsimp only at hX3 h
    obtain rfl := hX3
    obtain rfl := Option.some.inj h
    simp (maxDischargeDepth := 9) only [↓xpre, xpost, xlst, xc2, xcore, yset, rg0, ↓reduceIte, Nat.reduceEqDiff, Nat.reduceLT, Nat.reduceLeDiff, Nat.reduceAdd, Nat.reduceMul, Nat.reduceMod, Nat.reduceSub, Nat.reduceBEq, Int.reduceLE, Int.reduceLT, Int.reduceEq, Int.reduceSub, Int.reduceAdd, Int.reduceToNat, Int.reduceNeg, decide_eq_true e1] <;> (repeat' apply And.intro) <;> first | rfl | exact ⟨_, rfl⟩ | simp [lst, cat2_nil]
 ·rw [if_neg e1] at h
  obtain rfl := Option.some.inj h
  simp (maxDischargeDepth := 9) only [↓xpre, xpost, xlst, xc2, xcore, yset, rg0, ↓reduceIte, Nat.reduceEqDiff, Nat.reduceLT, Nat.reduceLeDiff, Nat.reduceAdd, Nat.reduceMul, Nat.reduceMod, Nat.reduceSub, Nat.reduceBEq, Int.reduceLE, Int.reduceLT, Int.reduceEq, Int.reduceSub, Int.reduceAdd, Int.reduceToNat, Int.reduceNeg, e1] <;> (repeat' apply And.intro) <;> first | rfl | exact ⟨_, rfl⟩ | simp [lst, cat2_nil]

theorem l1Same_eq (a b : List Int) (ha : a.length < 1099511627776) : s_l1Same a b = some (decide (a = b)) := by
 unfold s_l1Same s_l1Same_l0
 by_cases hl : a.length = b.length
 ·rw [if_pos (by omega)]
  have key := itO_all (fun v => s_l1Same_l0_S a b v) (fun i => (i : Int)) a.length (fun i => decide (a.getD i default = b.getD i default)) (.inl ()) (.inr ()) ?_ ?_
  ·simp only [Int.natCast_zero] at key
   rw [key, all_same a b hl]
   by_cases he : a = b <;> simp [he]
  ·intro i hi
   simp only [s_l1Same_l0_S]
   rw [if_pos (lt_nat hi), ckT (ix_nat hi), ckT (ix_nat (by omega)), Int.toNat_natCast, wrS i (by omega)] <;> simp only [decide_eq_true_eq]
  ·simp only [s_l1Same_l0_S]
   rw [if_neg (not_lt_nat _)]
 ·rw [if_neg (by omega)]
  have : ¬ a = b := fun e => hl (by rw [e])
  simp [this]
end Go.Proofs.Ytdjfaadpmbkcmaa
