/- Distances and coverings, lifted. Conditions: none. -/
import Derived.Test.YtipfckompmhljaaL6
import Derived.Test.YtipfckompmhljaaNis
import Derived.Test.YtipfckompmhljaaCon
import Derived.Test.YtipfckompmhljaaRep
namespace Go.Proofs.Ytipfckompmhljaa
open Go Dv
set_option linter.unusedSimpArgs false
set_option linter.unusedVariables false
set_option maxRecDepth 100000
set_option maxHeartbeats 4000000

noncomputable def i_distancesFrom_l0_S (n_Ends : List (List (Int × Int))) (n_Ids n_Inputs queue out1 queue1 : List Int) (t34_ : Int) : Option (((List Int) × (List Int) × Int) ⊕ ((List Int) × (List Int))) :=
 if t34_ < ((n_Ends.getD ((queue.getD 0 default).toNat) default).length : Int) then
  ck (0 ≤ t34_ ∧ t34_.toNat < (n_Ends.getD ((queue.getD 0 default).toNat) default).length) <|
  ck (0 ≤ (fstD (n_Ends.getD ((queue.getD 0 default).toNat) default) t34_.toNat) ∧ (fstD (n_Ends.getD ((queue.getD 0 default).toNat) default) t34_.toNat).toNat < out1.length) <|
  if (out1.getD ((fstD (n_Ends.getD ((queue.getD 0 default).toNat) default) t34_.toNat).toNat) default) < 0 then
   ck (0 ≤ (queue.getD 0 default) ∧ (queue.getD 0 default).toNat < out1.length) <|
   ck (queue1.length + 1 < 1099511627776) <|
   some (Sum.inl ((out1.set ((fstD (n_Ends.getD ((queue.getD 0 default).toNat) default) t34_.toNat).toNat) (IntKind.i64.wrap ((out1.getD ((queue.getD 0 default).toNat) default) + 1))), (queue1 ++ [(fstD (n_Ends.getD ((queue.getD 0 default).toNat) default) t34_.toNat)]), IntKind.i64.wrap (t34_ + 1)))
  else
   some (Sum.inl (out1, queue1, IntKind.i64.wrap (t34_ + 1)))
 else
  some (Sum.inr (out1, queue1))
noncomputable def i_distancesFrom_l0 (n_Ends : List (List (Int × Int))) (n_Ids n_Inputs queue : List Int) (v : (List Int) × (List Int) × Int) : Option ((List Int) × (List Int)) := itO (fun v => i_distancesFrom_l0_S n_Ends n_Ids n_Inputs queue v.1 v.2.1 v.2.2) v
noncomputable def i_distancesFrom_l1_S (n_Ends : List (List (Int × Int))) (n_Ids n_Inputs out queue : List Int) : Option (((List Int) × (List Int)) ⊕ ((List Int))) :=
 if 0 < (queue.length : Int) then
  ck (0 < queue.length) <|
  ck (1 ≤ queue.length) <|
  ck (0 ≤ (queue.getD 0 default) ∧ (queue.getD 0 default).toNat < n_Ends.length) <|
  (i_distancesFrom_l0 n_Ends n_Ids n_Inputs queue (out, (queue.drop 1), 0)).bind fun r8_ =>
  some (Sum.inl (r8_.1, r8_.2))
 else
  some (Sum.inr out)
noncomputable def i_distancesFrom_l1 (n_Ends : List (List (Int × Int))) (n_Ids n_Inputs : List Int) (v : (List Int) × (List Int)) : Option ((List Int)) := itO (fun v => i_distancesFrom_l1_S n_Ends n_Ids n_Inputs v.1 v.2) v
noncomputable def i_distancesFrom (n_Ends : List (List (Int × Int))) (n_Ids n_Inputs : List Int) (v_ : Int) : Option ((List Int)) :=
 (g_slices_Repeat_Sint_int [(-1)] (n_Ends.length : Int)).bind fun r1_ =>
 ck (0 ≤ v_ ∧ v_.toNat < r1_.length) <|
 (i_distancesFrom_l1 n_Ends n_Ids n_Inputs ((r1_.set v_.toNat 0), [v_])).bind fun r4_ =>
 some r4_
/-- impl.distancesFrom -/
def k82_l0b : SC :=
 .seq
 (.ops [
 ⟨some 35, .binOp .lss 3 (.tmp 34) (.tmp 33) 3, 0, none⟩])
 (.seq
 (.cond (.tmp 35)
 .skip
 (.exit 2))
 (.seq
 (.block 3
 (.seq
 (.ops [
 ⟨some 36, .indexAddr 100 (.tmp 32) (.tmp 34), 0, none⟩,
 ⟨some 37, .load 102 (.tmp 36), 102, none⟩,
 ⟨some 9, .alloc 102, 0, none⟩,
 ⟨none, .store 102 (.tmp 9) (.tmp 37), 0, none⟩])
 (.seq
 (.ops [
 ⟨some 38, .move (.tmp 5), 23, none⟩,
 ⟨some 39, .fieldAddr 102 (.tmp 9) 0, 0, none⟩,
 ⟨some 40, .load 3 (.tmp 39), 3, none⟩,
 ⟨some 41, .indexAddr 23 (.tmp 38) (.tmp 40), 0, none⟩,
 ⟨some 42, .load 3 (.tmp 41), 3, none⟩,
 ⟨some 43, .binOp .lss 3 (.tmp 42) (.const (.int .i64 0)) 3, 4, none⟩])
 (.cond (.tmp 43)
 (.seq
 (.draws [
 (⟨[44, 5, 5], [44, 45, 46, 47, 48, 49, 50, 51, 52, 52, 51, 5, 51], [44]⟩, ⟨some 44, .move (.tmp 5), 23, none⟩),
 (⟨[45, 9, 9], [44, 45, 46, 47, 48, 49, 50, 51, 52, 52, 51, 5, 51], [45]⟩, ⟨some 45, .fieldAddr 102 (.tmp 9) 0, 0, none⟩),
 (⟨[46, 45, 9], [44, 45, 46, 47, 48, 49, 50, 51, 52, 52, 51, 5, 51], [46]⟩, ⟨some 46, .load 3 (.tmp 45), 3, none⟩),
 (⟨[47, 5, 5], [44, 45, 46, 47, 48, 49, 50, 51, 52, 52, 51, 5, 51], [47]⟩, ⟨some 47, .move (.tmp 5), 23, none⟩),
 (⟨[48, 7, 7], [44, 45, 46, 47, 48, 49, 50, 51, 52, 52, 51, 5, 51], [48]⟩, ⟨some 48, .move (.tmp 7), 3, none⟩),
 (⟨[49, 47, 48, 5, 7], [44, 45, 46, 47, 48, 49, 50, 51, 52, 52, 51, 5, 51], [49]⟩, ⟨some 49, .indexAddr 23 (.tmp 47) (.tmp 48), 0, none⟩),
 (⟨[50, 49, 5], [44, 45, 46, 47, 48, 49, 50, 51, 52, 52, 51, 5, 51], [50]⟩, ⟨some 50, .load 3 (.tmp 49), 3, none⟩),
 (⟨[51, 50, 5], [44, 45, 46, 47, 48, 49, 50, 51, 52, 52, 51, 5, 51], [51]⟩, ⟨some 51, .binOp .add 3 (.tmp 50) (.const (.int .i64 1)) 3, 3, none⟩),
 (⟨[52, 44, 46, 5, 9], [44, 45, 46, 47, 48, 49, 50, 51, 52, 52, 51, 5, 51], [52]⟩, ⟨some 52, .indexAddr 23 (.tmp 44) (.tmp 46), 0, none⟩),
 (⟨[52, 51, 5, 51], [44, 45, 46, 47, 48, 49, 50, 51, 52, 52, 51, 5, 51], [52, 51, 5, 51]⟩, ⟨none, .store 3 (.tmp 52) (.tmp 51), 0, none⟩)])
 (.ops [
 ⟨some 53, .move (.tmp 6), 23, none⟩,
 ⟨some 54, .fieldAddr 102 (.tmp 9) 0, 0, none⟩,
 ⟨some 55, .load 3 (.tmp 54), 3, none⟩,
 ⟨some 56, .buildSlice 23 1 #[(0, (.tmp 55))], 23, none⟩,
 ⟨some 57, .call ⟨(.builtin .append), #[(.tmp 53), (.tmp 56)], #[23, 23]⟩, 23, none⟩,
 ⟨some 6, .assign (.tmp 57), 23, none⟩]))
 .skip))))
 (.ops [
 ⟨some 58, .binOp .add 3 (.tmp 34) (.const (.int .i64 1)) 3, 3, none⟩,
 ⟨some 34, .move (.tmp 58), 3, none⟩])))
def k82_l0 : SC := .loop k82_l0b
def k82_l1b : SC :=
 .seq
 (.seq
 (.ops [
 ⟨some 20, .move (.tmp 6), 23, none⟩,
 ⟨some 21, .call ⟨(.builtin .len), #[(.tmp 20)], #[23]⟩, 3, none⟩,
 ⟨some 22, .binOp .gtr 3 (.tmp 21) (.const (.int .i64 0)) 3, 4, none⟩])
 (.cond (.tmp 22)
 .skip
 (.exit 0)))
 (.block 1
 (.seq
 (.ops [
 ⟨some 23, .move (.tmp 6), 23, none⟩,
 ⟨some 24, .indexAddr 23 (.tmp 23) (.const (.int .i64 0)), 0, none⟩,
 ⟨some 25, .load 3 (.tmp 24), 3, none⟩,
 ⟨some 7, .assign (.tmp 25), 3, none⟩])
 (.seq
 (.ops [
 ⟨some 26, .move (.tmp 6), 23, none⟩,
 ⟨some 27, .slice 23 (.tmp 26) (some (.const (.int .i64 1))) none none, 900005, none⟩,
 ⟨some 6, .assign (.tmp 27), 23, none⟩])
 (.seq
 (.ops [
 ⟨some 28, .fieldAddr 31 (.tmp 2) 0, 0, none⟩,
 ⟨some 29, .load 29 (.tmp 28), 29, none⟩,
 ⟨some 30, .move (.tmp 7), 3, none⟩,
 ⟨some 31, .indexAddr 29 (.tmp 29) (.tmp 30), 0, none⟩,
 ⟨some 32, .load 100 (.tmp 31), 100, none⟩,
 ⟨some 33, .call ⟨(.builtin .len), #[(.tmp 32)], #[100]⟩, 3, none⟩,
 ⟨some 34, .move (.const (.int .i64 0)), 3, none⟩])
 (.block 2
 k82_l0)))))
def k82_l1 : SC := .loop k82_l1b
def k82 : SC :=
 .seq
 (.ops [
 ⟨some 2, .box 31 (.tmp 0), 0, none⟩,
 ⟨some 4, .assign (.const (.slice none 0 0)), 23, none⟩])
 (.seq
 (.ops [
 ⟨some 10, .buildSlice 23 1 #[(0, (.const (.int .i64 (-1))))], 23, none⟩,
 ⟨some 11, .fieldAddr 31 (.tmp 2) 0, 0, none⟩,
 ⟨some 12, .load 29 (.tmp 11), 29, none⟩,
 ⟨some 13, .call ⟨(.builtin .len), #[(.tmp 12)], #[29]⟩, 3, none⟩,
 ⟨some 14, .call ⟨(.value (.func 130)), #[(.tmp 10), (.tmp 13)], #[23, 3]⟩, 23, none⟩,
 ⟨some 5, .assign (.tmp 14), 23, none⟩])
 (.seq
 (.ops [
 ⟨some 15, .move (.tmp 5), 23, none⟩,
 ⟨some 16, .move (.tmp 1), 3, none⟩,
 ⟨some 17, .indexAddr 23 (.tmp 15) (.tmp 16), 0, none⟩,
 ⟨none, .store 3 (.tmp 17) (.const (.int .i64 0)), 0, none⟩])
 (.seq
 (.ops [
 ⟨some 18, .move (.tmp 1), 3, none⟩,
 ⟨some 19, .buildSlice 23 1 #[(0, (.tmp 18))], 23, none⟩,
 ⟨some 6, .assign (.tmp 19), 23, none⟩])
 (.seq
 (.block 0
 k82_l1)
 (.seq
 (.ops [
 ⟨some 59, .move (.tmp 5), 23, none⟩,
 ⟨some 4, .assign (.tmp 59), 23, none⟩])
 .ret)))))
theorem slim82 : Try.f82.body.map (slim lends) = some k82 := by kernel_rfl
theorem ok82 : fnOk Try.f82 2 = true := by kernel_rfl
theorem c82 {a l : List D} {r : D × List D} (h : wpD Y.env k82 (fin tys l.length [ResultVar.tmp 4] r) (entry a l)) (ha : a.length = 2) : Y.call 82 a l = some r :=
 call_slim (Y := Y) rfl Try.func82 (ha ▸ ok82) slim82 h
def i_distancesFrom_l0_M (n_Ends : List (List (Int × Int))) (n_Ids n_Inputs queue out1 queue1 : List Int) (t34_ : Int) (s : St) : Prop := s.v 2 = D.box [D.sl 100 (lst (fun x => D.sl 102 (cat2 .i64 .i64 x)) n_Ends), D.sl 3 (lst (D.int .i64) n_Ids), D.sl 3 (lst (D.int .i64) n_Inputs)] ∧ s.v 5 = D.own 3 (lst (D.int .i64) out1) ∧ s.v 6 = D.own 3 (lst (D.int .i64) queue1) ∧ s.v 7 = D.int .i64 (queue.getD 0 default) ∧ s.v 32 = D.sl 102 (cat2 .i64 .i64 (n_Ends.getD ((queue.getD 0 default).toNat) default)) ∧ s.v 33 = D.int .i64 ((n_Ends.getD ((queue.getD 0 default).toNat) default).length : Int) ∧ s.v 34 = D.int .i64 t34_
def i_distancesFrom_l0_X (n_Ends : List (List (Int × Int))) (n_Ids n_Inputs queue : List Int) (r : (List Int) × (List Int)) (ex : Ex) (s : St) : Prop := ex = .exit 2 ∧ s.v 2 = D.box [D.sl 100 (lst (fun x => D.sl 102 (cat2 .i64 .i64 x)) n_Ends), D.sl 3 (lst (D.int .i64) n_Ids), D.sl 3 (lst (D.int .i64) n_Inputs)] ∧ s.v 5 = D.own 3 (lst (D.int .i64) r.1) ∧ s.v 6 = D.own 3 (lst (D.int .i64) r.2)
theorem i_distancesFrom_l0_wp (n_Ends : List (List (Int × Int))) (n_Ids n_Inputs queue : List Int) {v : (List Int) × (List Int) × Int} {s : St} {r : (List Int) × (List Int)} (h : i_distancesFrom_l0 n_Ends n_Ids n_Inputs queue v = some r) (hM : i_distancesFrom_l0_M n_Ends n_Ids n_Inputs queue v.1 v.2.1 v.2.2 s) : wpD Y.env k82_l0 (i_distancesFrom_l0_X n_Ends n_Ids n_Inputs queue r) s := by
 unfold i_distancesFrom_l0 at h
 refine wd_itO (c := k82_l0b) (fun v => i_distancesFrom_l0_S n_Ends n_Ids n_Inputs queue v.1 v.2.1 v.2.2) (fun v s => i_distancesFrom_l0_M n_Ends n_Ids n_Inputs queue v.1 v.2.1 v.2.2 s) (i_distancesFrom_l0_X n_Ends n_Ids n_Inputs queue) ?_ h hM
 clear h hM s v r
 intro v s o hM h
 obtain ⟨out1, queue1, t34_⟩ := v
 dsimp only at h hM
 unfold i_distancesFrom_l0_S at h
 unfold i_distancesFrom_l0_M at hM
 obtain ⟨m0, m1, m2, m3, m4, m5, m6⟩ := hM
 unfold k82_l0b
 by_cases e7 : t34_ < ((n_Ends.getD ((queue.getD 0 default).toNat) default).length : Int)
 ·rw [if_pos e7] at h
  obtain ⟨e8, h⟩ := ckS h
  obtain ⟨e9, h⟩ := ckS h
  by_cases e10 : (out1.getD ((fstD (n_Ends.getD ((queue.getD 0 default).toNat) default) t34_.toNat).toNat) default) < 0
  ·rw [if_pos e10] at h
   obtain ⟨e11, h⟩ := ckS h
   obtain ⟨e12, h⟩ := ckS h
   cases h
   simp (maxDischargeDepth := 9) only [↓xpre, xpost, xlst, xc2, xcore, yset, ↓reduceIte, Nat.reduceEqDiff, Nat.reduceLT, Nat.reduceLeDiff, Nat.reduceAdd, Nat.reduceBEq, m0, m1, m2, m3, m4, m5, m6, e7, e8.1, e8.2, e9.1, e9.2, e10, e11.1, e11.2, e12, i_distancesFrom_l0_M, sxN] <;> (repeat' apply And.intro) <;> first | rfl | exact ⟨_, rfl⟩ | exact ⟨_, _, rfl⟩ | simp [lst, cat2_nil]
  ·rw [if_neg e10] at h
   cases h
   simp (maxDischargeDepth := 9) only [↓xpre, xpost, xlst, xc2, xcore, yset, ↓reduceIte, Nat.reduceEqDiff, Nat.reduceLT, Nat.reduceAdd, m0, m1, m2, m3, m4, m5, m6, e7, e8.1, e8.2, e9.1, e9.2, e10, i_distancesFrom_l0_M, sxN] <;> (repeat' apply And.intro) <;> first | rfl | exact ⟨_, rfl⟩ | exact ⟨_, _, rfl⟩ | simp [lst, cat2_nil]
 ·rw [if_neg e7] at h
  cases h
  simp (maxDischargeDepth := 9) only [↓xpre, xpost, yset, ↓reduceIte, Nat.reduceEqDiff, Nat.reduceLT, m0, m1, m2, m5, m6, e7, i_distancesFrom_l0_M, i_distancesFrom_l0_X, sxE] <;> (repeat' apply And.intro) <;> first | rfl | exact ⟨_, rfl⟩ | exact ⟨_, _, rfl⟩ | simp [lst, cat2_nil]
def i_distancesFrom_l1_M (n_Ends : List (List (Int × Int))) (n_Ids n_Inputs out queue : List Int) (s : St) : Prop := s.v 2 = D.box [D.sl 100 (lst (fun x => D.sl 102 (cat2 .i64 .i64 x)) n_Ends), D.sl 3 (lst (D.int .i64) n_Ids), D.sl 3 (lst (D.int .i64) n_Inputs)] ∧ s.v 5 = D.own 3 (lst (D.int .i64) out) ∧ s.v 6 = D.own 3 (lst (D.int .i64) queue)
def i_distancesFrom_l1_X (n_Ends : List (List (Int × Int))) (n_Ids n_Inputs : List Int) (r : (List Int)) (ex : Ex) (s : St) : Prop := ex = .exit 0 ∧ s.v 5 = D.own 3 (lst (D.int .i64) r)
theorem i_distancesFrom_l1_wp (n_Ends : List (List (Int × Int))) (n_Ids n_Inputs : List Int) {v : (List Int) × (List Int)} {s : St} {r : (List Int)} (h : i_distancesFrom_l1 n_Ends n_Ids n_Inputs v = some r) (hM : i_distancesFrom_l1_M n_Ends n_Ids n_Inputs v.1 v.2 s) : wpD Y.env k82_l1 (i_distancesFrom_l1_X n_Ends n_Ids n_Inputs r) s := by
 unfold i_distancesFrom_l1 at h
 refine wd_itO (c := k82_l1b) (fun v => i_distancesFrom_l1_S n_Ends n_Ids n_Inputs v.1 v.2) (fun v s => i_distancesFrom_l1_M n_Ends n_Ids n_Inputs v.1 v.2 s) (i_distancesFrom_l1_X n_Ends n_Ids n_Inputs) ?_ h hM
 clear h hM s v r
 intro v s o hM h
 obtain ⟨out, queue⟩ := v
 dsimp only at h hM
 unfold i_distancesFrom_l1_S at h
 unfold i_distancesFrom_l1_M at hM
 obtain ⟨m0, m1, m2⟩ := hM
 unfold k82_l1b
 by_cases e3 : 0 < (queue.length : Int)
 ·rw [if_pos e3] at h
  obtain ⟨e4, h⟩ := ckS h
  obtain ⟨e5, h⟩ := ckS h
  obtain ⟨e6, h⟩ := ckS h
  obtain ⟨r8_, hl8, h⟩ := bindS h
  try dsimp only at h
  simp (maxDischargeDepth := 9) only [↓xpre, xpost, xlst, xc2, xcore, yset, ↓reduceIte, Nat.reduceEqDiff, Nat.reduceLT, Int.reduceLE, Int.reduceToNat, m0, m2, e3, e4, e5, e6.1, e6.2]
  refine wd_mono (i_distancesFrom_l0_wp n_Ends n_Ids n_Inputs queue hl8 ?_) ?_
  ·simp (maxDischargeDepth := 9) only [xpost, ↓reduceIte, Nat.reduceEqDiff, m0, m1, i_distancesFrom_l0_M] <;> (repeat' apply And.intro) <;> first | rfl | exact ⟨_, rfl⟩ | exact ⟨_, _, rfl⟩ | simp [lst, cat2_nil]
  ·intro ex8 s8 hX8
   unfold i_distancesFrom_l0_X at hX8
   obtain ⟨rfl, n8_0, n8_1, n8_2⟩ := hX8
   cases h
   simp (maxDischargeDepth := 9) only [↓xpre, xpost, ↓reduceIte, n8_0, n8_1, n8_2, i_distancesFrom_l1_M, sxN] <;> (repeat' apply And.intro) <;> first | rfl | exact ⟨_, rfl⟩ | exact ⟨_, _, rfl⟩ | simp [lst, cat2_nil]
 ·rw [if_neg e3] at h
  cases h
  simp (maxDischargeDepth := 9) only [↓xpre, xpost, xlst, xcore, yset, ↓reduceIte, Nat.reduceEqDiff, Nat.reduceLT, m1, m2, e3, i_distancesFrom_l1_M, i_distancesFrom_l1_X, sxE] <;> (repeat' apply And.intro) <;> first | rfl | exact ⟨_, rfl⟩ | exact ⟨_, _, rfl⟩ | simp [lst, cat2_nil]
theorem i_distancesFrom_call (n_Ends : List (List (Int × Int))) (n_Ids n_Inputs : List Int) (v_ : Int) {r : (List Int)} (h : i_distancesFrom n_Ends n_Ids n_Inputs v_ = some r) : Y.call 82 [D.agg [D.sl 100 (lst (fun x => D.sl 102 (cat2 .i64 .i64 x)) n_Ends), D.sl 3 (lst (D.int .i64) n_Ids), D.sl 3 (lst (D.int .i64) n_Inputs)], D.int .i64 v_] [] = some (D.own 3 (lst (D.int .i64) r), []) := by
 refine c82 ?_ rfl
 unfold k82
 unfold i_distancesFrom at h
 obtain ⟨r1_, hl1, h⟩ := bindS h
 try dsimp only at h
 have c1 := g_slices_Repeat_Sint_int_call [(-1)] (n_Ends.length : Int) hl1
 simp only [lst_cons, lst_nil] at c1
 obtain ⟨e2, h⟩ := ckS h
 obtain ⟨r4_, hl4, h⟩ := bindS h
 try dsimp only at h
 simp (maxDischargeDepth := 9) only [↓xpre, xpost, xlst, xcore, yset, ↓reduceIte, Nat.reduceEqDiff, Nat.reduceLT, Nat.reduceLeDiff, Nat.reduceAdd, Int.reduceNeg, c1, e2.1, e2.2]
 refine wd_mono (i_distancesFrom_l1_wp n_Ends n_Ids n_Inputs hl4 ?_) ?_
 ·simp (maxDischargeDepth := 9) only [xpost, ↓reduceIte, Nat.reduceEqDiff, Int.reduceNeg, i_distancesFrom_l1_M] <;> (repeat' apply And.intro) <;> first | rfl | exact ⟨_, rfl⟩ | exact ⟨_, _, rfl⟩ | simp [lst, cat2_nil]
 ·intro ex4 s4 hX4
  unfold i_distancesFrom_l1_X at hX4
  obtain ⟨rfl, n4_0⟩ := hX4
  cases h
  simp (maxDischargeDepth := 9) only [↓xpre, xpost, xlst, xcore, ↓reduceIte, Nat.reduceEqDiff, Nat.reduceLT, n4_0] <;> (repeat' apply And.intro) <;> first | rfl | exact ⟨_, rfl⟩ | exact ⟨_, _, rfl⟩ | simp [lst, cat2_nil]

noncomputable def i_isConnected (n_Ends : List (List (Int × Int))) (n_Ids n_Inputs : List Int) : Option (Bool) :=
 (i_distancesFrom n_Ends n_Ids n_Inputs (0 : Int)).bind fun r1_ =>
 ck (r1_.length < 1099511627776) <|
 some (!(r1_.contains (-1 : Int)))
/-- impl.isConnected -/
def k38 : SC :=
 .seq
 (.ops [
 ⟨some 1, .box 31 (.tmp 0), 0, none⟩,
 ⟨some 2, .assign (.const (.bool false)), 4, none⟩])
 (.seq
 (.ops [
 ⟨some 3, .load 31 (.tmp 1), 31, none⟩,
 ⟨some 4, .call ⟨(.value (.func 82)), #[(.tmp 3), (.const (.int .i64 0))], #[31, 3]⟩, 23, none⟩,
 ⟨some 5, .call ⟨(.value (.func 81)), #[(.tmp 4), (.const (.int .i64 (-1)))], #[23, 3]⟩, 4, none⟩,
 ⟨some 6, .unOp .not 4 (.tmp 5), 4, none⟩,
 ⟨some 2, .assign (.tmp 6), 4, none⟩])
 .ret)
theorem slim38 : Try.f38.body.map (slim lends) = some k38 := by kernel_rfl
theorem ok38 : fnOk Try.f38 1 = true := by kernel_rfl
theorem c38 {a l : List D} {r : D × List D} (h : wpD Y.env k38 (fin tys l.length [ResultVar.tmp 2] r) (entry a l)) (ha : a.length = 1) : Y.call 38 a l = some r :=
 call_slim (Y := Y) rfl Try.func38 (ha ▸ ok38) slim38 h
theorem i_isConnected_call (n_Ends : List (List (Int × Int))) (n_Ids n_Inputs : List Int) {r : Bool} (h : i_isConnected n_Ends n_Ids n_Inputs = some r) : Y.call 38 [D.agg [D.sl 100 (lst (fun x => D.sl 102 (cat2 .i64 .i64 x)) n_Ends), D.sl 3 (lst (D.int .i64) n_Ids), D.sl 3 (lst (D.int .i64) n_Inputs)]] [] = some (D.bool r, []) := by
 refine c38 ?_ rfl
 unfold k38
 unfold i_isConnected at h
 obtain ⟨r1_, hl1, h⟩ := bindS h
 try dsimp only at h
 have c1 := i_distancesFrom_call n_Ends n_Ids n_Inputs (0 : Int) hl1
 obtain ⟨e2, h⟩ := ckS h
 have c3 := g_slices_Contains_Sint_int_cl r1_ (-1 : Int) e2
 cases h
 simp (maxDischargeDepth := 9) only [↓xpre, xpost, xlst, xcore, yset, ↓reduceIte, Nat.reduceEqDiff, Nat.reduceLT, Nat.reduceAdd, Int.reduceNeg, c1, c3] <;> (repeat' apply And.intro) <;> first | rfl | exact ⟨_, rfl⟩ | exact ⟨_, _, rfl⟩ | simp [lst, cat2_nil]

noncomputable def i_isPortMap_l0_S (t0_Ends : List (List (Int × Int))) (t0_Ids t0_Inputs : List Int) (t1_Ends : List (List (Int × Int))) (t1_Ids t1_Inputs t2_ : List Int) (t30_ t66_ : Int) : Option ((Int) ⊕ (Unit ⊕ Unit)) :=
 if t66_ < ((t0_Ends.getD t30_.toNat default).length : Int) then
  ck (0 ≤ t66_ ∧ t66_.toNat < (t0_Ends.getD t30_.toNat default).length) <|
  ck (0 ≤ t66_ ∧ t66_.toNat < (t1_Ends.getD ((t2_.getD t30_.toNat default).toNat) default).length) <|
  ck (0 ≤ (fstD (t0_Ends.getD t30_.toNat default) t66_.toNat) ∧ (fstD (t0_Ends.getD t30_.toNat default) t66_.toNat).toNat < t2_.length) <|
  if (((fstD (t1_Ends.getD ((t2_.getD t30_.toNat default).toNat) default) t66_.toNat) == (t2_.getD ((fstD (t0_Ends.getD t30_.toNat default) t66_.toNat).toNat) default)) && ((sndD (t1_Ends.getD ((t2_.getD t30_.toNat default).toNat) default) t66_.toNat) == (sndD (t0_Ends.getD t30_.toNat default) t66_.toNat))) = true then
   some (Sum.inl (IntKind.i64.wrap (t66_ + 1)))
  else
   some (Sum.inr (Sum.inl ()))
 else
  some (Sum.inr (Sum.inr ()))
noncomputable def i_isPortMap_l0 (t0_Ends : List (List (Int × Int))) (t0_Ids t0_Inputs : List Int) (t1_Ends : List (List (Int × Int))) (t1_Ids t1_Inputs t2_ : List Int) (t30_ v : Int) : Option (Unit ⊕ Unit) := itO (fun v => i_isPortMap_l0_S t0_Ends t0_Ids t0_Inputs t1_Ends t1_Ids t1_Inputs t2_ t30_ v) v
noncomputable def i_isPortMap_l1_S (t0_Ends : List (List (Int × Int))) (t0_Ids t0_Inputs : List Int) (t1_Ends : List (List (Int × Int))) (t1_Ids t1_Inputs t2_ : List Int) (t30_ : Int) : Option ((Int) ⊕ (Unit ⊕ Unit)) :=
 if t30_ < (t0_Ends.length : Int) then
  ck (0 ≤ t30_ ∧ t30_.toNat < t0_Ends.length) <|
  ck (0 ≤ t30_ ∧ t30_.toNat < t2_.length) <|
  ck (0 ≤ (t2_.getD t30_.toNat default) ∧ (t2_.getD t30_.toNat default).toNat < t1_Ends.length) <|
  if ((t0_Ends.getD t30_.toNat default).length : Int) = ((t1_Ends.getD ((t2_.getD t30_.toNat default).toNat) default).length : Int) then
   ck (0 ≤ t30_ ∧ t30_.toNat < t0_Inputs.length) <|
   ck (0 ≤ (t2_.getD t30_.toNat default) ∧ (t2_.getD t30_.toNat default).toNat < t1_Inputs.length) <|
   if (t0_Inputs.getD t30_.toNat default) = (t1_Inputs.getD ((t2_.getD t30_.toNat default).toNat) default) then
    (i_isPortMap_l0 t0_Ends t0_Ids t0_Inputs t1_Ends t1_Ids t1_Inputs t2_ t30_ 0).bind fun r14_ =>
    match r14_ with
    | .inl q14_ =>
     some (Sum.inr (Sum.inl ()))
    | .inr q14_ =>
     some (Sum.inl (IntKind.i64.wrap (t30_ + 1)))
   else
    some (Sum.inr (Sum.inl ()))
  else
   some (Sum.inr (Sum.inl ()))
 else
  some (Sum.inr (Sum.inr ()))
noncomputable def i_isPortMap_l1 (t0_Ends : List (List (Int × Int))) (t0_Ids t0_Inputs : List Int) (t1_Ends : List (List (Int × Int))) (t1_Ids t1_Inputs t2_ : List Int) (v : Int) : Option (Unit ⊕ Unit) := itO (fun v => i_isPortMap_l1_S t0_Ends t0_Ids t0_Inputs t1_Ends t1_Ids t1_Inputs t2_ v) v
noncomputable def i_isPortMap (t0_Ends : List (List (Int × Int))) (t0_Ids t0_Inputs : List Int) (t1_Ends : List (List (Int × Int))) (t1_Ids t1_Inputs t2_ : List Int) : Option (Bool) :=
 if (t2_.length : Int) = (t0_Ends.length : Int) then
  ck (t2_.length < 1099511627776) <|
  if (allIn t2_ (0 : Int) (IntKind.i64.wrap ((t1_Ends.length : Int) - 1))) = true then
   (i_isPortMap_l1 t0_Ends t0_Ids t0_Inputs t1_Ends t1_Ids t1_Inputs t2_ 0).bind fun r6_ =>
   match r6_ with
   | .inl q6_ =>
    some false
   | .inr q6_ =>
    some true
  else
   some false
 else
  some false
/-- impl.isPortMap -/
def k39_l0b : SC :=
 .seq
 (.ops [
 ⟨some 67, .binOp .lss 3 (.tmp 66) (.tmp 65) 3, 0, none⟩])
 (.seq
 (.cond (.tmp 67)
 .skip
 (.exit 2))
 (.seq
 (.block 3
 (.seq
 (.ops [
 ⟨some 68, .move (.tmp 66), 3, none⟩,
 ⟨some 69, .indexAddr 100 (.tmp 64) (.tmp 66), 0, none⟩,
 ⟨some 70, .load 102 (.tmp 69), 102, none⟩,
 ⟨some 11, .alloc 102, 0, none⟩,
 ⟨some 10, .assign (.tmp 68), 3, none⟩,
 ⟨none, .store 102 (.tmp 11) (.tmp 70), 0, none⟩])
 (.seq
 (.draws [
 (⟨[71, 9, 9], [71, 72, 73, 74, 75, 76, 77, 78, 79, 80, 81, 82, 79, 81, 83], [71]⟩, ⟨some 71, .move (.tmp 9), 100, none⟩),
 (⟨[72, 10, 10], [71, 72, 73, 74, 75, 76, 77, 78, 79, 80, 81, 82, 79, 81, 83], [72]⟩, ⟨some 72, .move (.tmp 10), 3, none⟩),
 (⟨[73, 71, 72, 9, 10], [71, 72, 73, 74, 75, 76, 77, 78, 79, 80, 81, 82, 79, 81, 83], [73]⟩, ⟨some 73, .indexAddr 100 (.tmp 71) (.tmp 72), 0, none⟩),
 (⟨[74, 73, 9], [71, 72, 73, 74, 75, 76, 77, 78, 79, 80, 81, 82, 79, 81, 83], [74]⟩, ⟨some 74, .load 102 (.tmp 73), 102, none⟩),
 (⟨[75, 2, 2], [71, 72, 73, 74, 75, 76, 77, 78, 79, 80, 81, 82, 79, 81, 83], [75]⟩, ⟨some 75, .move (.tmp 2), 23, none⟩),
 (⟨[76, 11, 11], [71, 72, 73, 74, 75, 76, 77, 78, 79, 80, 81, 82, 79, 81, 83], [76]⟩, ⟨some 76, .fieldAddr 102 (.tmp 11) 0, 0, none⟩),
 (⟨[77, 76, 11], [71, 72, 73, 74, 75, 76, 77, 78, 79, 80, 81, 82, 79, 81, 83], [77]⟩, ⟨some 77, .load 3 (.tmp 76), 3, none⟩),
 (⟨[78, 75, 77, 2, 11], [71, 72, 73, 74, 75, 76, 77, 78, 79, 80, 81, 82, 79, 81, 83], [78]⟩, ⟨some 78, .indexAddr 23 (.tmp 75) (.tmp 77), 0, none⟩),
 (⟨[79, 78, 2], [71, 72, 73, 74, 75, 76, 77, 78, 79, 80, 81, 82, 79, 81, 83], [79]⟩, ⟨some 79, .load 3 (.tmp 78), 3, none⟩),
 (⟨[80, 11, 11], [71, 72, 73, 74, 75, 76, 77, 78, 79, 80, 81, 82, 79, 81, 83], [80]⟩, ⟨some 80, .fieldAddr 102 (.tmp 11) 1, 0, none⟩),
 (⟨[81, 80, 11], [71, 72, 73, 74, 75, 76, 77, 78, 79, 80, 81, 82, 79, 81, 83], [81]⟩, ⟨some 81, .load 3 (.tmp 80), 3, none⟩),
 (⟨[82, 79, 81, 2, 11], [71, 72, 73, 74, 75, 76, 77, 78, 79, 80, 81, 82, 79, 81, 83], [82, 79, 81]⟩, ⟨some 82, .build 102 #[(0, (.tmp 79)), (1, (.tmp 81))], 102, none⟩),
 (⟨[83, 74, 82, 9, 82], [71, 72, 73, 74, 75, 76, 77, 78, 79, 80, 81, 82, 79, 81, 83], [83]⟩, ⟨some 83, .binOp .neq 102 (.tmp 74) (.tmp 82) 102, 4, none⟩)])
 (.cond (.tmp 83)
 (.seq
 (.ops [
 ⟨some 6, .assign (.const (.bool false)), 4, none⟩])
 .ret)
 .skip))))
 (.ops [
 ⟨some 84, .binOp .add 3 (.tmp 66) (.const (.int .i64 1)) 3, 3, none⟩,
 ⟨some 66, .move (.tmp 84), 3, none⟩])))
def k39_l0 : SC := .loop k39_l0b
def k39_l1b : SC :=
 .seq
 (.ops [
 ⟨some 31, .binOp .lss 3 (.tmp 30) (.tmp 29) 3, 0, none⟩])
 (.seq
 (.cond (.tmp 31)
 .skip
 (.exit 0))
 (.seq
 (.block 1
 (.seq
 (.ops [
 ⟨some 32, .move (.tmp 30), 3, none⟩,
 ⟨some 33, .indexAddr 29 (.tmp 28) (.tmp 30), 0, none⟩,
 ⟨some 34, .load 100 (.tmp 33), 100, none⟩,
 ⟨some 7, .assign (.tmp 32), 3, none⟩,
 ⟨some 8, .assign (.tmp 34), 100, none⟩])
 (.seq
 (.draws [
 (⟨[35, 4, 4], [35, 36, 37, 38, 39, 40, 41, 42, 9, 42, 4], [35]⟩, ⟨some 35, .fieldAddr 31 (.tmp 4) 0, 0, none⟩),
 (⟨[36, 35, 4], [35, 36, 37, 38, 39, 40, 41, 42, 9, 42, 4], [36]⟩, ⟨some 36, .load 29 (.tmp 35), 29, none⟩),
 (⟨[37, 2, 2], [35, 36, 37, 38, 39, 40, 41, 42, 9, 42, 4], [37]⟩, ⟨some 37, .move (.tmp 2), 23, none⟩),
 (⟨[38, 7, 7], [35, 36, 37, 38, 39, 40, 41, 42, 9, 42, 4], [38]⟩, ⟨some 38, .move (.tmp 7), 3, none⟩),
 (⟨[39, 37, 38, 2, 7], [35, 36, 37, 38, 39, 40, 41, 42, 9, 42, 4], [39]⟩, ⟨some 39, .indexAddr 23 (.tmp 37) (.tmp 38), 0, none⟩),
 (⟨[40, 39, 2], [35, 36, 37, 38, 39, 40, 41, 42, 9, 42, 4], [40]⟩, ⟨some 40, .load 3 (.tmp 39), 3, none⟩),
 (⟨[41, 36, 40, 4, 2], [35, 36, 37, 38, 39, 40, 41, 42, 9, 42, 4], [41]⟩, ⟨some 41, .indexAddr 29 (.tmp 36) (.tmp 40), 0, none⟩),
 (⟨[42, 41, 4], [35, 36, 37, 38, 39, 40, 41, 42, 9, 42, 4], [42]⟩, ⟨some 42, .load 100 (.tmp 41), 100, none⟩),
 (⟨[9, 42, 4], [35, 36, 37, 38, 39, 40, 41, 42, 9, 42, 4], [9, 42, 4]⟩, ⟨some 9, .assign (.tmp 42), 100, none⟩)])
 (.seq
 (.seq
 (.draws [
 (⟨[43, 8, 8], [43, 44, 45, 46, 47, 48, 49, 50, 51, 52, 53, 54, 55, 56, 57, 58, 59, 60, 61, 62, 63], [43]⟩, ⟨some 43, .move (.tmp 8), 100, none⟩),
 (⟨[44, 43, 8], [43, 44, 45, 46, 47, 48, 49, 50, 51, 52, 53, 54, 55, 56, 57, 58, 59, 60, 61, 62, 63], [44]⟩, ⟨some 44, .call ⟨(.builtin .len), #[(.tmp 43)], #[100]⟩, 3, none⟩),
 (⟨[45, 9, 9], [43, 44, 45, 46, 47, 48, 49, 50, 51, 52, 53, 54, 55, 56, 57, 58, 59, 60, 61, 62, 63], [45]⟩, ⟨some 45, .move (.tmp 9), 100, none⟩),
 (⟨[46, 45, 9], [43, 44, 45, 46, 47, 48, 49, 50, 51, 52, 53, 54, 55, 56, 57, 58, 59, 60, 61, 62, 63], [46]⟩, ⟨some 46, .call ⟨(.builtin .len), #[(.tmp 45)], #[100]⟩, 3, none⟩),
 (⟨[47, 44, 46, 44, 46], [43, 44, 45, 46, 47, 48, 49, 50, 51, 52, 53, 54, 55, 56, 57, 58, 59, 60, 61, 62, 63], [47]⟩, ⟨some 47, .binOp .neq 3 (.tmp 44) (.tmp 46) 3, 4, none⟩),
 (⟨[48, 47, 47], [43, 44, 45, 46, 47, 48, 49, 50, 51, 52, 53, 54, 55, 56, 57, 58, 59, 60, 61, 62, 63], [48]⟩, ⟨some 48, .move (.tmp 47), 4, none⟩),
 (⟨[49, 3, 3, 48], [43, 44, 45, 46, 47, 48, 49, 50, 51, 52, 53, 54, 55, 56, 57, 58, 59, 60, 61, 62, 63], [49]⟩, ⟨some 49, .fieldAddr 31 (.tmp 3) 2, 0, (some (some 48, false))⟩),
 (⟨[50, 49, 3, 48], [43, 44, 45, 46, 47, 48, 49, 50, 51, 52, 53, 54, 55, 56, 57, 58, 59, 60, 61, 62, 63], [50]⟩, ⟨some 50, .load 23 (.tmp 49), 23, (some (some 48, false))⟩),
 (⟨[51, 7, 7, 48], [43, 44, 45, 46, 47, 48, 49, 50, 51, 52, 53, 54, 55, 56, 57, 58, 59, 60, 61, 62, 63], [51]⟩, ⟨some 51, .move (.tmp 7), 3, (some (some 48, false))⟩),
 (⟨[52, 50, 51, 3, 7, 48], [43, 44, 45, 46, 47, 48, 49, 50, 51, 52, 53, 54, 55, 56, 57, 58, 59, 60, 61, 62, 63], [52]⟩, ⟨some 52, .indexAddr 23 (.tmp 50) (.tmp 51), 0, (some (some 48, false))⟩),
 (⟨[53, 52, 3, 48], [43, 44, 45, 46, 47, 48, 49, 50, 51, 52, 53, 54, 55, 56, 57, 58, 59, 60, 61, 62, 63], [53]⟩, ⟨some 53, .load 3 (.tmp 52), 3, (some (some 48, false))⟩),
 (⟨[54, 4, 4, 48], [43, 44, 45, 46, 47, 48, 49, 50, 51, 52, 53, 54, 55, 56, 57, 58, 59, 60, 61, 62, 63], [54]⟩, ⟨some 54, .fieldAddr 31 (.tmp 4) 2, 0, (some (some 48, false))⟩),
 (⟨[55, 54, 4, 48], [43, 44, 45, 46, 47, 48, 49, 50, 51, 52, 53, 54, 55, 56, 57, 58, 59, 60, 61, 62, 63], [55]⟩, ⟨some 55, .load 23 (.tmp 54), 23, (some (some 48, false))⟩),
 (⟨[56, 2, 2, 48], [43, 44, 45, 46, 47, 48, 49, 50, 51, 52, 53, 54, 55, 56, 57, 58, 59, 60, 61, 62, 63], [56]⟩, ⟨some 56, .move (.tmp 2), 23, (some (some 48, false))⟩),
 (⟨[57, 7, 7, 48], [43, 44, 45, 46, 47, 48, 49, 50, 51, 52, 53, 54, 55, 56, 57, 58, 59, 60, 61, 62, 63], [57]⟩, ⟨some 57, .move (.tmp 7), 3, (some (some 48, false))⟩),
 (⟨[58, 56, 57, 2, 7, 48], [43, 44, 45, 46, 47, 48, 49, 50, 51, 52, 53, 54, 55, 56, 57, 58, 59, 60, 61, 62, 63], [58]⟩, ⟨some 58, .indexAddr 23 (.tmp 56) (.tmp 57), 0, (some (some 48, false))⟩),
 (⟨[59, 58, 2, 48], [43, 44, 45, 46, 47, 48, 49, 50, 51, 52, 53, 54, 55, 56, 57, 58, 59, 60, 61, 62, 63], [59]⟩, ⟨some 59, .load 3 (.tmp 58), 3, (some (some 48, false))⟩),
 (⟨[60, 55, 59, 4, 2, 48], [43, 44, 45, 46, 47, 48, 49, 50, 51, 52, 53, 54, 55, 56, 57, 58, 59, 60, 61, 62, 63], [60]⟩, ⟨some 60, .indexAddr 23 (.tmp 55) (.tmp 59), 0, (some (some 48, false))⟩),
 (⟨[61, 60, 4, 48], [43, 44, 45, 46, 47, 48, 49, 50, 51, 52, 53, 54, 55, 56, 57, 58, 59, 60, 61, 62, 63], [61]⟩, ⟨some 61, .load 3 (.tmp 60), 3, (some (some 48, false))⟩),
 (⟨[62, 53, 61, 3, 4, 48], [43, 44, 45, 46, 47, 48, 49, 50, 51, 52, 53, 54, 55, 56, 57, 58, 59, 60, 61, 62, 63], [62]⟩, ⟨some 62, .binOp .neq 3 (.tmp 53) (.tmp 61) 3, 4, (some (some 48, false))⟩),
 (⟨[63, 48, 62, 47, 62], [43, 44, 45, 46, 47, 48, 49, 50, 51, 52, 53, 54, 55, 56, 57, 58, 59, 60, 61, 62, 63], [63]⟩, ⟨some 63, .pick (.tmp 48) (.const (.bool true)) (.tmp 62), 4, none⟩)])
 (.cond (.tmp 63)
 (.seq
 (.ops [
 ⟨some 6, .assign (.const (.bool false)), 4, none⟩])
 .ret)
 .skip))
 (.seq
 (.ops [
 ⟨some 64, .move (.tmp 8), 100, none⟩,
 ⟨some 65, .call ⟨(.builtin .len), #[(.tmp 64)], #[100]⟩, 3, none⟩,
 ⟨some 66, .move (.const (.int .i64 0)), 3, none⟩])
 (.block 2
 k39_l0))))))
 (.ops [
 ⟨some 85, .binOp .add 3 (.tmp 30) (.const (.int .i64 1)) 3, 3, none⟩,
 ⟨some 30, .move (.tmp 85), 3, none⟩])))
def k39_l1 : SC := .loop k39_l1b
def k39 : SC :=
 .seq
 (.ops [
 ⟨some 3, .box 31 (.tmp 0), 0, none⟩,
 ⟨some 4, .box 31 (.tmp 1), 0, none⟩,
 ⟨some 6, .assign (.const (.bool false)), 4, none⟩])
 (.seq
 (.seq
 (.ops [
 ⟨some 12, .move (.tmp 2), 23, none⟩,
 ⟨some 13, .call ⟨(.builtin .len), #[(.tmp 12)], #[23]⟩, 3, none⟩,
 ⟨some 14, .fieldAddr 31 (.tmp 3) 0, 0, none⟩,
 ⟨some 15, .load 29 (.tmp 14), 29, none⟩,
 ⟨some 16, .call ⟨(.builtin .len), #[(.tmp 15)], #[29]⟩, 3, none⟩,
 ⟨some 17, .binOp .neq 3 (.tmp 13) (.tmp 16) 3, 4, none⟩,
 ⟨some 18, .move (.tmp 17), 4, none⟩,
 ⟨some 19, .move (.tmp 2), 23, (some (some 18, false))⟩,
 ⟨some 20, .fieldAddr 31 (.tmp 4) 0, 0, (some (some 18, false))⟩,
 ⟨some 21, .load 29 (.tmp 20), 29, (some (some 18, false))⟩,
 ⟨some 22, .call ⟨(.builtin .len), #[(.tmp 21)], #[29]⟩, 3, (some (some 18, false))⟩,
 ⟨some 23, .binOp .sub 3 (.tmp 22) (.const (.int .i64 1)) 3, 3, (some (some 18, false))⟩,
 ⟨some 24, .call ⟨(.value (.func 83)), #[(.tmp 19), (.const (.int .i64 0)), (.tmp 23)], #[23, 3, 3]⟩, 4, (some (some 18, false))⟩,
 ⟨some 25, .unOp .not 4 (.tmp 24), 4, (some (some 18, false))⟩,
 ⟨some 26, .pick (.tmp 18) (.const (.bool true)) (.tmp 25), 4, none⟩])
 (.cond (.tmp 26)
 (.seq
 (.ops [
 ⟨some 6, .assign (.const (.bool false)), 4, none⟩])
 .ret)
 .skip))
 (.seq
 (.seq
 (.ops [
 ⟨some 27, .fieldAddr 31 (.tmp 3) 0, 0, none⟩,
 ⟨some 28, .load 29 (.tmp 27), 29, none⟩,
 ⟨some 29, .call ⟨(.builtin .len), #[(.tmp 28)], #[29]⟩, 3, none⟩,
 ⟨some 30, .move (.const (.int .i64 0)), 3, none⟩])
 (.block 0
 k39_l1))
 (.seq
 (.ops [
 ⟨some 6, .assign (.const (.bool true)), 4, none⟩])
 .ret)))
theorem slim39 : Try.f39.body.map (slim lends) = some k39 := by kernel_rfl
theorem ok39 : fnOk Try.f39 3 = true := by kernel_rfl
theorem c39 {a l : List D} {r : D × List D} (h : wpD Y.env k39 (fin tys l.length [ResultVar.tmp 6] r) (entry a l)) (ha : a.length = 3) : Y.call 39 a l = some r :=
 call_slim (Y := Y) rfl Try.func39 (ha ▸ ok39) slim39 h
def i_isPortMap_l0_M (t0_Ends : List (List (Int × Int))) (t0_Ids t0_Inputs : List Int) (t1_Ends : List (List (Int × Int))) (t1_Ids t1_Inputs t2_ : List Int) (t30_ t66_ : Int) (s : St) : Prop := s.v 2 = D.sl 3 (lst (D.int .i64) t2_) ∧ s.v 3 = D.box [D.sl 100 (lst (fun x => D.sl 102 (cat2 .i64 .i64 x)) t0_Ends), D.sl 3 (lst (D.int .i64) t0_Ids), D.sl 3 (lst (D.int .i64) t0_Inputs)] ∧ s.v 4 = D.box [D.sl 100 (lst (fun x => D.sl 102 (cat2 .i64 .i64 x)) t1_Ends), D.sl 3 (lst (D.int .i64) t1_Ids), D.sl 3 (lst (D.int .i64) t1_Inputs)] ∧ s.v 9 = D.sl 102 (cat2 .i64 .i64 (t1_Ends.getD ((t2_.getD t30_.toNat default).toNat) default)) ∧ s.v 28 = D.sl 100 (lst (fun x => D.sl 102 (cat2 .i64 .i64 x)) t0_Ends) ∧ s.v 29 = D.int .i64 (t0_Ends.length : Int) ∧ s.v 30 = D.int .i64 t30_ ∧ s.v 64 = D.sl 102 (cat2 .i64 .i64 (t0_Ends.getD t30_.toNat default)) ∧ s.v 65 = D.int .i64 ((t0_Ends.getD t30_.toNat default).length : Int) ∧ s.v 66 = D.int .i64 t66_
def i_isPortMap_l0_X (t0_Ends : List (List (Int × Int))) (t0_Ids t0_Inputs : List Int) (t1_Ends : List (List (Int × Int))) (t1_Ids t1_Inputs t2_ : List Int) (t30_ : Int) (r : Unit ⊕ Unit) (ex : Ex) (s : St) : Prop := match r with
 | .inl q => ex = .ret ∧ s.v 6 = D.bool false
 | .inr q => ex = .exit 2 ∧ s.v 2 = D.sl 3 (lst (D.int .i64) t2_) ∧ s.v 3 = D.box [D.sl 100 (lst (fun x => D.sl 102 (cat2 .i64 .i64 x)) t0_Ends), D.sl 3 (lst (D.int .i64) t0_Ids), D.sl 3 (lst (D.int .i64) t0_Inputs)] ∧ s.v 4 = D.box [D.sl 100 (lst (fun x => D.sl 102 (cat2 .i64 .i64 x)) t1_Ends), D.sl 3 (lst (D.int .i64) t1_Ids), D.sl 3 (lst (D.int .i64) t1_Inputs)] ∧ s.v 28 = D.sl 100 (lst (fun x => D.sl 102 (cat2 .i64 .i64 x)) t0_Ends) ∧ s.v 29 = D.int .i64 (t0_Ends.length : Int) ∧ s.v 30 = D.int .i64 t30_
theorem i_isPortMap_l0_wp (t0_Ends : List (List (Int × Int))) (t0_Ids t0_Inputs : List Int) (t1_Ends : List (List (Int × Int))) (t1_Ids t1_Inputs t2_ : List Int) (t30_ : Int) {v : Int} {s : St} {r : Unit ⊕ Unit} (h : i_isPortMap_l0 t0_Ends t0_Ids t0_Inputs t1_Ends t1_Ids t1_Inputs t2_ t30_ v = some r) (hM : i_isPortMap_l0_M t0_Ends t0_Ids t0_Inputs t1_Ends t1_Ids t1_Inputs t2_ t30_ v s) : wpD Y.env k39_l0 (i_isPortMap_l0_X t0_Ends t0_Ids t0_Inputs t1_Ends t1_Ids t1_Inputs t2_ t30_ r) s := by
 unfold i_isPortMap_l0 at h
 refine wd_itO (c := k39_l0b) (fun v => i_isPortMap_l0_S t0_Ends t0_Ids t0_Inputs t1_Ends t1_Ids t1_Inputs t2_ t30_ v) (fun v s => i_isPortMap_l0_M t0_Ends t0_Ids t0_Inputs t1_Ends t1_Ids t1_Inputs t2_ t30_ v s) (i_isPortMap_l0_X t0_Ends t0_Ids t0_Inputs t1_Ends t1_Ids t1_Inputs t2_ t30_) ?_ h hM
 clear h hM s v r
 intro t66_ s o hM h
 unfold i_isPortMap_l0_S at h
 unfold i_isPortMap_l0_M at hM
 obtain ⟨m0, m1, m2, m3, m4, m5, m6, m7, m8, m9⟩ := hM
 unfold k39_l0b
 by_cases e13 : t66_ < ((t0_Ends.getD t30_.toNat default).length : Int)
 ·rw [if_pos e13] at h
  obtain ⟨e14, h⟩ := ckS h
  obtain ⟨e15, h⟩ := ckS h
  obtain ⟨e16, h⟩ := ckS h
  by_cases e17 : (((fstD (t1_Ends.getD ((t2_.getD t30_.toNat default).toNat) default) t66_.toNat) == (t2_.getD ((fstD (t0_Ends.getD t30_.toNat default) t66_.toNat).toNat) default)) && ((sndD (t1_Ends.getD ((t2_.getD t30_.toNat default).toNat) default) t66_.toNat) == (sndD (t0_Ends.getD t30_.toNat default) t66_.toNat))) = true
  ·rw [if_pos e17] at h
   cases h
   simp (maxDischargeDepth := 9) only [↓xpre, xpost, xlst, xc2, xcore, yset, ↓reduceIte, Nat.reduceEqDiff, Nat.reduceLT, Nat.reduceLeDiff, Nat.reduceAdd, Nat.reduceBEq, m0, m1, m2, m3, m4, m5, m6, m7, m8, m9, e13, e14.1, e14.2, e15.2, e16.1, e16.2, e17, i_isPortMap_l0_M, sxN] <;> (repeat' apply And.intro) <;> first | rfl | exact ⟨_, rfl⟩ | exact ⟨_, _, rfl⟩ | simp [lst, cat2_nil]
  ·rw [if_neg e17] at h
   have e17f : (((fstD (t1_Ends.getD ((t2_.getD t30_.toNat default).toNat) default) t66_.toNat) == (t2_.getD ((fstD (t0_Ends.getD t30_.toNat default) t66_.toNat).toNat) default)) && ((sndD (t1_Ends.getD ((t2_.getD t30_.toNat default).toNat) default) t66_.toNat) == (sndD (t0_Ends.getD t30_.toNat default) t66_.toNat))) = false := Bool.eq_false_iff.mpr e17
   cases h
   simp (maxDischargeDepth := 9) only [↓xpre, xpost, xlst, xc2, xcore, yset, ↓reduceIte, Nat.reduceEqDiff, Nat.reduceLT, Nat.reduceLeDiff, Nat.reduceAdd, Nat.reduceBEq, m0, m3, m7, m8, m9, e13, e14.1, e14.2, e15.2, e16.1, e16.2, e17f, i_isPortMap_l0_M, i_isPortMap_l0_X, sxR] <;> (repeat' apply And.intro) <;> first | rfl | exact ⟨_, rfl⟩ | exact ⟨_, _, rfl⟩ | simp [lst, cat2_nil]
 ·rw [if_neg e13] at h
  cases h
  simp (maxDischargeDepth := 9) only [↓xpre, xpost, yset, ↓reduceIte, Nat.reduceEqDiff, Nat.reduceLT, m0, m1, m2, m4, m5, m6, m8, m9, e13, i_isPortMap_l0_M, i_isPortMap_l0_X, sxE] <;> (repeat' apply And.intro) <;> first | rfl | exact ⟨_, rfl⟩ | exact ⟨_, _, rfl⟩ | simp [lst, cat2_nil]
def i_isPortMap_l1_M (t0_Ends : List (List (Int × Int))) (t0_Ids t0_Inputs : List Int) (t1_Ends : List (List (Int × Int))) (t1_Ids t1_Inputs t2_ : List Int) (t30_ : Int) (s : St) : Prop := s.v 2 = D.sl 3 (lst (D.int .i64) t2_) ∧ s.v 3 = D.box [D.sl 100 (lst (fun x => D.sl 102 (cat2 .i64 .i64 x)) t0_Ends), D.sl 3 (lst (D.int .i64) t0_Ids), D.sl 3 (lst (D.int .i64) t0_Inputs)] ∧ s.v 4 = D.box [D.sl 100 (lst (fun x => D.sl 102 (cat2 .i64 .i64 x)) t1_Ends), D.sl 3 (lst (D.int .i64) t1_Ids), D.sl 3 (lst (D.int .i64) t1_Inputs)] ∧ s.v 28 = D.sl 100 (lst (fun x => D.sl 102 (cat2 .i64 .i64 x)) t0_Ends) ∧ s.v 29 = D.int .i64 (t0_Ends.length : Int) ∧ s.v 30 = D.int .i64 t30_
def i_isPortMap_l1_X (t0_Ends : List (List (Int × Int))) (t0_Ids t0_Inputs : List Int) (t1_Ends : List (List (Int × Int))) (t1_Ids t1_Inputs t2_ : List Int) (r : Unit ⊕ Unit) (ex : Ex) (s : St) : Prop := match r with
 | .inl q => ex = .ret ∧ s.v 6 = D.bool false
 | .inr q => ex = .exit 0
theorem i_isPortMap_l1_wp (t0_Ends : List (List (Int × Int))) (t0_Ids t0_Inputs : List Int) (t1_Ends : List (List (Int × Int))) (t1_Ids t1_Inputs t2_ : List Int) {v : Int} {s : St} {r : Unit ⊕ Unit} (h : i_isPortMap_l1 t0_Ends t0_Ids t0_Inputs t1_Ends t1_Ids t1_Inputs t2_ v = some r) (hM : i_isPortMap_l1_M t0_Ends t0_Ids t0_Inputs t1_Ends t1_Ids t1_Inputs t2_ v s) : wpD Y.env k39_l1 (i_isPortMap_l1_X t0_Ends t0_Ids t0_Inputs t1_Ends t1_Ids t1_Inputs t2_ r) s := by
 unfold i_isPortMap_l1 at h
 refine wd_itO (c := k39_l1b) (fun v => i_isPortMap_l1_S t0_Ends t0_Ids t0_Inputs t1_Ends t1_Ids t1_Inputs t2_ v) (fun v s => i_isPortMap_l1_M t0_Ends t0_Ids t0_Inputs t1_Ends t1_Ids t1_Inputs t2_ v s) (i_isPortMap_l1_X t0_Ends t0_Ids t0_Inputs t1_Ends t1_Ids t1_Inputs t2_) ?_ h hM
 clear h hM s v r
 intro t30_ s o hM h
 unfold i_isPortMap_l1_S at h
 unfold i_isPortMap_l1_M at hM
 obtain ⟨m0, m1, m2, m3, m4, m5⟩ := hM
 unfold k39_l1b
 by_cases e5 : t30_ < (t0_Ends.length : Int)
 ·rw [if_pos e5] at h
  obtain ⟨e6, h⟩ := ckS h
  obtain ⟨e7, h⟩ := ckS h
  obtain ⟨e8, h⟩ := ckS h
  by_cases e9 : ((t0_Ends.getD t30_.toNat default).length : Int) = ((t1_Ends.getD ((t2_.getD t30_.toNat default).toNat) default).length : Int)
  ·rw [if_pos e9] at h
   obtain ⟨e10, h⟩ := ckS h
   obtain ⟨e11, h⟩ := ckS h
   by_cases e12 : (t0_Inputs.getD t30_.toNat default) = (t1_Inputs.getD ((t2_.getD t30_.toNat default).toNat) default)
   ·rw [if_pos e12] at h
    obtain ⟨r14_, hl14, h⟩ := bindS h
    try dsimp only at h
    simp (maxDischargeDepth := 9) only [↓xpre, xpost, xlst, xc2, xcore, yset, ↓reduceIte, Nat.reduceEqDiff, Nat.reduceLT, Nat.reduceBEq, m0, m1, m2, m3, m4, m5, e5, e6.1, e6.2, e7.2, e8.1, e8.2, decide_eq_true e9, e10.2, e11.2, decide_eq_true e12]
    refine wd_mono (i_isPortMap_l0_wp t0_Ends t0_Ids t0_Inputs t1_Ends t1_Ids t1_Inputs t2_ t30_ hl14 ?_) ?_
    ·simp (maxDischargeDepth := 9) only [xpost, ↓reduceIte, Nat.reduceEqDiff, m0, m1, m2, m3, m4, m5, i_isPortMap_l0_M] <;> (repeat' apply And.intro) <;> first | rfl | exact ⟨_, rfl⟩ | exact ⟨_, _, rfl⟩ | simp [lst, cat2_nil]
    ·intro ex14 s14 hX14
     rcases r14_ with q14_ | q14_
     ·unfold i_isPortMap_l0_X at hX14
      dsimp only at hX14 h
      obtain ⟨rfl, n14_0⟩ := hX14
      cases h
      simp (maxDischargeDepth := 9) only [↓xpre, xpost, n14_0, i_isPortMap_l1_M, i_isPortMap_l1_X, sxR] <;> (repeat' apply And.intro) <;> first | rfl | exact ⟨_, rfl⟩ | exact ⟨_, _, rfl⟩ | simp [lst, cat2_nil]
     ·unfold i_isPortMap_l0_X at hX14
      dsimp only at hX14 h
      obtain ⟨rfl, n14_0, n14_1, n14_2, n14_3, n14_4, n14_5⟩ := hX14
      cases h
      simp (maxDischargeDepth := 9) only [↓xpre, xpost, yset, ↓reduceIte, Nat.reduceEqDiff, Nat.reduceLT, n14_0, n14_1, n14_2, n14_3, n14_4, n14_5, i_isPortMap_l1_M, sxN] <;> (repeat' apply And.intro) <;> first | rfl | exact ⟨_, rfl⟩ | exact ⟨_, _, rfl⟩ | simp [lst, cat2_nil]
   ·rw [if_neg e12] at h
    cases h
    simp (maxDischargeDepth := 9) only [↓xpre, xpost, xlst, xc2, xcore, yset, ↓reduceIte, Nat.reduceEqDiff, Nat.reduceLT, Nat.reduceBEq, m0, m1, m2, m3, m4, m5, e5, e6.1, e6.2, e7.2, e8.1, e8.2, decide_eq_true e9, e10.2, e11.2, e12, i_isPortMap_l1_M, i_isPortMap_l1_X, sxR] <;> (repeat' apply And.intro) <;> first | rfl | exact ⟨_, rfl⟩ | exact ⟨_, _, rfl⟩ | simp [lst, cat2_nil]
  ·rw [if_neg e9] at h
   cases h
   simp (maxDischargeDepth := 9) only [↓xpre, xpost, xlst, xc2, xcore, yset, ↓reduceIte, Nat.reduceEqDiff, Nat.reduceLT, Nat.reduceBEq, m0, m2, m3, m4, m5, e5, e6.1, e6.2, e7.2, e8.1, e8.2, e9, i_isPortMap_l1_M, i_isPortMap_l1_X, sxR] <;> (repeat' apply And.intro) <;> first | rfl | exact ⟨_, rfl⟩ | exact ⟨_, _, rfl⟩ | simp [lst, cat2_nil]
 ·rw [if_neg e5] at h
  cases h
  simp (maxDischargeDepth := 9) only [↓xpre, xpost, yset, ↓reduceIte, Nat.reduceLT, m4, m5, e5, i_isPortMap_l1_M, i_isPortMap_l1_X, sxE] <;> (repeat' apply And.intro) <;> first | rfl | exact ⟨_, rfl⟩ | exact ⟨_, _, rfl⟩ | simp [lst, cat2_nil]
theorem i_isPortMap_call (t0_Ends : List (List (Int × Int))) (t0_Ids t0_Inputs : List Int) (t1_Ends : List (List (Int × Int))) (t1_Ids t1_Inputs t2_ : List Int) {r : Bool} (h : i_isPortMap t0_Ends t0_Ids t0_Inputs t1_Ends t1_Ids t1_Inputs t2_ = some r) : Y.call 39 [D.agg [D.sl 100 (lst (fun x => D.sl 102 (cat2 .i64 .i64 x)) t0_Ends), D.sl 3 (lst (D.int .i64) t0_Ids), D.sl 3 (lst (D.int .i64) t0_Inputs)], D.agg [D.sl 100 (lst (fun x => D.sl 102 (cat2 .i64 .i64 x)) t1_Ends), D.sl 3 (lst (D.int .i64) t1_Ids), D.sl 3 (lst (D.int .i64) t1_Inputs)], D.sl 3 (lst (D.int .i64) t2_)] [] = some (D.bool r, []) := by
 refine c39 ?_ rfl
 unfold k39
 unfold i_isPortMap at h
 by_cases e1 : (t2_.length : Int) = (t0_Ends.length : Int)
 ·rw [if_pos e1] at h
  obtain ⟨e2, h⟩ := ckS h
  have c3 := i_allWithin_cl t2_ (0 : Int) (IntKind.i64.wrap ((t1_Ends.length : Int) - 1)) e2
  by_cases e4 : (allIn t2_ (0 : Int) (IntKind.i64.wrap ((t1_Ends.length : Int) - 1))) = true
  ·rw [if_pos e4] at h
   obtain ⟨r6_, hl6, h⟩ := bindS h
   try dsimp only at h
   simp (maxDischargeDepth := 9) only [↓xpre, xpost, xlst, xcore, yset, ↓reduceIte, Nat.reduceEqDiff, Nat.reduceLT, Nat.reduceAdd, decide_eq_true e1, c3, e4]
   refine wd_mono (i_isPortMap_l1_wp t0_Ends t0_Ids t0_Inputs t1_Ends t1_Ids t1_Inputs t2_ hl6 ?_) ?_
   ·simp (maxDischargeDepth := 9) only [xpost, xcore, ↓reduceIte, Nat.reduceEqDiff, Nat.reduceLT, i_isPortMap_l1_M] <;> (repeat' apply And.intro) <;> first | rfl | exact ⟨_, rfl⟩ | exact ⟨_, _, rfl⟩ | simp [lst, cat2_nil]
   ·intro ex6 s6 hX6
    rcases r6_ with q6_ | q6_
    ·unfold i_isPortMap_l1_X at hX6
     dsimp only at hX6 h
     obtain ⟨rfl, n6_0⟩ := hX6
     cases h
     simp (maxDischargeDepth := 9) only [↓xpre, xpost, xcore, ↓reduceIte, n6_0] <;> (repeat' apply And.intro) <;> first | rfl | exact ⟨_, rfl⟩ | exact ⟨_, _, rfl⟩ | simp [lst, cat2_nil]
    ·unfold i_isPortMap_l1_X at hX6
     dsimp only at hX6 h
     obtain rfl := hX6
     cases h
     simp (maxDischargeDepth := 9) only [↓xpre, xpost, xcore, yset, ↓reduceIte, Nat.reduceEqDiff, Nat.reduceLT] <;> (repeat' apply And.intro) <;> first | rfl | exact ⟨_, rfl⟩ | exact ⟨_, _, rfl⟩ | simp [lst, cat2_nil]
  ·rw [if_neg e4] at h
   have e4f : (allIn t2_ (0 : Int) (IntKind.i64.wrap ((t1_Ends.length : Int) - 1))) = false := Bool.eq_false_iff.mpr e4
   cases h
   simp (maxDischargeDepth := 9) only [↓xpre, xpost, xlst, xcore, yset, ↓reduceIte, Nat.reduceEqDiff, Nat.reduceLT, Nat.reduceAdd, decide_eq_true e1, c3, e4f] <;> (repeat' apply And.intro) <;> first | rfl | exact ⟨_, rfl⟩ | exact ⟨_, _, rfl⟩ | simp [lst, cat2_nil]
 ·rw [if_neg e1] at h
  cases h
  simp (maxDischargeDepth := 9) only [↓xpre, xpost, xlst, xcore, yset, ↓reduceIte, Nat.reduceEqDiff, Nat.reduceLT, Nat.reduceAdd, e1] <;> (repeat' apply And.intro) <;> first | rfl | exact ⟨_, rfl⟩ | exact ⟨_, _, rfl⟩ | simp [lst, cat2_nil]

noncomputable def i_fibres_l0_S (m_ : List Int) (out : List (List Int)) (t12_ : Int) : Option (((List (List Int)) × Int) ⊕ ((List (List Int)))) :=
 if t12_ < (m_.length : Int) then
  ck (0 ≤ t12_ ∧ t12_.toNat < m_.length) <|
  ck (0 ≤ (m_.getD t12_.toNat default) ∧ (m_.getD t12_.toNat default).toNat < out.length) <|
  ck ((out.getD ((m_.getD t12_.toNat default).toNat) default).length + 1 < 1099511627776) <|
  some (Sum.inl ((out.set ((m_.getD t12_.toNat default).toNat) ((out.getD ((m_.getD t12_.toNat default).toNat) default) ++ [t12_])), IntKind.i64.wrap (t12_ + 1)))
 else
  some (Sum.inr out)
noncomputable def i_fibres_l0 (m_ : List Int) (v : (List (List Int)) × Int) : Option ((List (List Int))) := itO (fun v => i_fibres_l0_S m_ v.1 v.2) v
noncomputable def i_fibres (m_ : List Int) (k : Int) : Option ((List (List Int))) :=
 ck (0 ≤ k ∧ k < 1099511627776) <|
 (i_fibres_l0 m_ ((List.replicate k.toNat []), 0)).bind fun r3_ =>
 some r3_
/-- impl.fibres -/
def k85_l0b : SC :=
 .seq
 (.ops [
 ⟨some 13, .binOp .lss 3 (.tmp 12) (.tmp 11) 3, 0, none⟩])
 (.seq
 (.cond (.tmp 13)
 .skip
 (.exit 0))
 (.seq
 (.block 1
 (.seq
 (.ops [
 ⟨some 14, .move (.tmp 12), 3, none⟩,
 ⟨some 15, .indexAddr 23 (.tmp 10) (.tmp 12), 0, none⟩,
 ⟨some 16, .load 3 (.tmp 15), 3, none⟩,
 ⟨some 6, .assign (.tmp 14), 3, none⟩,
 ⟨some 7, .assign (.tmp 16), 3, none⟩])
 (.ops [
 ⟨some 17, .move (.tmp 5), 44, none⟩,
 ⟨some 18, .move (.tmp 7), 3, none⟩,
 ⟨some 19, .move (.tmp 5), 44, none⟩,
 ⟨some 20, .move (.tmp 7), 3, none⟩,
 ⟨some 21, .indexAddr 44 (.tmp 19) (.tmp 20), 0, none⟩,
 ⟨some 22, .load 23 (.tmp 21), 23, none⟩,
 ⟨some 23, .move (.tmp 6), 3, none⟩,
 ⟨some 24, .buildSlice 23 1 #[(0, (.tmp 23))], 23, none⟩,
 ⟨some 25, .call ⟨(.builtin .append), #[(.tmp 22), (.tmp 24)], #[23, 23]⟩, 23, none⟩,
 ⟨some 26, .indexAddr 44 (.tmp 17) (.tmp 18), 0, none⟩,
 ⟨none, .store 23 (.tmp 26) (.tmp 25), 0, none⟩])))
 (.ops [
 ⟨some 27, .binOp .add 3 (.tmp 12) (.const (.int .i64 1)) 3, 3, none⟩,
 ⟨some 12, .move (.tmp 27), 3, none⟩])))
def k85_l0 : SC := .loop k85_l0b
def k85 : SC :=
 .seq
 (.ops [
 ⟨some 4, .assign (.const (.slice none 0 0)), 44, none⟩])
 (.seq
 (.ops [
 ⟨some 8, .move (.tmp 1), 3, none⟩,
 ⟨some 9, .makeSlice 44 (.tmp 8) (.tmp 8), 44, none⟩,
 ⟨some 5, .assign (.tmp 9), 44, none⟩])
 (.seq
 (.seq
 (.ops [
 ⟨some 10, .move (.tmp 0), 23, none⟩,
 ⟨some 11, .call ⟨(.builtin .len), #[(.tmp 10)], #[23]⟩, 3, none⟩,
 ⟨some 12, .move (.const (.int .i64 0)), 3, none⟩])
 (.block 0
 k85_l0))
 (.seq
 (.ops [
 ⟨some 28, .move (.tmp 5), 44, none⟩,
 ⟨some 4, .assign (.tmp 28), 44, none⟩])
 .ret)))
theorem slim85 : Try.f85.body.map (slim lends) = some k85 := by kernel_rfl
theorem ok85 : fnOk Try.f85 2 = true := by kernel_rfl
theorem c85 {a l : List D} {r : D × List D} (h : wpD Y.env k85 (fin tys l.length [ResultVar.tmp 4] r) (entry a l)) (ha : a.length = 2) : Y.call 85 a l = some r :=
 call_slim (Y := Y) rfl Try.func85 (ha ▸ ok85) slim85 h
def i_fibres_l0_M (m_ : List Int) (out : List (List Int)) (t12_ : Int) (s : St) : Prop := s.v 5 = D.own 23 (lst (fun x => D.own 3 (lst (D.int .i64) x)) out) ∧ s.v 10 = D.sl 3 (lst (D.int .i64) m_) ∧ s.v 11 = D.int .i64 (m_.length : Int) ∧ s.v 12 = D.int .i64 t12_
def i_fibres_l0_X (m_ : List Int) (r : (List (List Int))) (ex : Ex) (s : St) : Prop := ex = .exit 0 ∧ s.v 5 = D.own 23 (lst (fun x => D.own 3 (lst (D.int .i64) x)) r)
theorem i_fibres_l0_wp (m_ : List Int) {v : (List (List Int)) × Int} {s : St} {r : (List (List Int))} (h : i_fibres_l0 m_ v = some r) (hM : i_fibres_l0_M m_ v.1 v.2 s) : wpD Y.env k85_l0 (i_fibres_l0_X m_ r) s := by
 unfold i_fibres_l0 at h
 refine wd_itO (c := k85_l0b) (fun v => i_fibres_l0_S m_ v.1 v.2) (fun v s => i_fibres_l0_M m_ v.1 v.2 s) (i_fibres_l0_X m_) ?_ h hM
 clear h hM s v r
 intro v s o hM h
 obtain ⟨out, t12_⟩ := v
 dsimp only at h hM
 unfold i_fibres_l0_S at h
 unfold i_fibres_l0_M at hM
 obtain ⟨m0, m1, m2, m3⟩ := hM
 unfold k85_l0b
 by_cases e2 : t12_ < (m_.length : Int)
 ·rw [if_pos e2] at h
  obtain ⟨e3, h⟩ := ckS h
  obtain ⟨e4, h⟩ := ckS h
  obtain ⟨e5, h⟩ := ckS h
  cases h
  simp (maxDischargeDepth := 9) only [↓xpre, xpost, xlst, xc2, xcore, yset, ↓reduceIte, Nat.reduceEqDiff, Nat.reduceLT, Nat.reduceLeDiff, Nat.reduceAdd, m0, m1, m2, m3, e2, e3.1, e3.2, e4.1, e4.2, e5, i_fibres_l0_M, sxN] <;> (repeat' apply And.intro) <;> first | rfl | exact ⟨_, rfl⟩ | exact ⟨_, _, rfl⟩ | simp [lst, cat2_nil]
 ·rw [if_neg e2] at h
  cases h
  simp (maxDischargeDepth := 9) only [↓xpre, xpost, yset, ↓reduceIte, Nat.reduceEqDiff, Nat.reduceLT, m0, m2, m3, e2, i_fibres_l0_M, i_fibres_l0_X, sxE] <;> (repeat' apply And.intro) <;> first | rfl | exact ⟨_, rfl⟩ | exact ⟨_, _, rfl⟩ | simp [lst, cat2_nil]
theorem i_fibres_call (m_ : List Int) (k : Int) {r : (List (List Int))} (h : i_fibres m_ k = some r) : Y.call 85 [D.sl 3 (lst (D.int .i64) m_), D.int .i64 k] [] = some (D.own 23 (lst (fun x => D.own 3 (lst (D.int .i64) x)) r), []) := by
 refine c85 ?_ rfl
 unfold k85
 unfold i_fibres at h
 obtain ⟨e1, h⟩ := ckS h
 obtain ⟨r3_, hl3, h⟩ := bindS h
 try dsimp only at h
 simp (maxDischargeDepth := 9) only [↓xpre, xpost, xlst, xcore, yset, ↓reduceIte, Nat.reduceEqDiff, Nat.reduceLT, Nat.reduceLeDiff, e1.1, e1.2]
 refine wd_mono (i_fibres_l0_wp m_ hl3 ?_) ?_
 ·simp (maxDischargeDepth := 9) only [xpost, ↓reduceIte, Nat.reduceEqDiff, i_fibres_l0_M] <;> (repeat' apply And.intro) <;> first | rfl | exact ⟨_, rfl⟩ | exact ⟨_, _, rfl⟩ | simp [lst, cat2_nil]
 ·intro ex3 s3 hX3
  unfold i_fibres_l0_X at hX3
  obtain ⟨rfl, n3_0⟩ := hX3
  cases h
  simp (maxDischargeDepth := 9) only [↓xpre, xpost, xlst, xcore, ↓reduceIte, Nat.reduceEqDiff, Nat.reduceLT, n3_0] <;> (repeat' apply And.intro) <;> first | rfl | exact ⟨_, rfl⟩ | exact ⟨_, _, rfl⟩ | simp [lst, cat2_nil]

noncomputable def g_slices_IndexFunc_SSint_Sint_l0_S (s_ : List (List Int)) (f : (List Int) → Option Bool) (t8_ : Int) : Option ((Int) ⊕ (Int ⊕ Unit)) :=
 if t8_ < (s_.length : Int) then
  ck (0 ≤ t8_ ∧ t8_.toNat < s_.length) <|
  (f (s_.getD t8_.toNat default)).bind fun r3_ =>
  if r3_ = true then
   some (Sum.inr (Sum.inl t8_))
  else
   some (Sum.inl (IntKind.i64.wrap (t8_ + 1)))
 else
  some (Sum.inr (Sum.inr ()))
noncomputable def g_slices_IndexFunc_SSint_Sint_l0 (s_ : List (List Int)) (f : (List Int) → Option Bool) (v : Int) : Option (Int ⊕ Unit) := itO (fun v => g_slices_IndexFunc_SSint_Sint_l0_S s_ f v) v
noncomputable def g_slices_IndexFunc_SSint_Sint (s_ : List (List Int)) (f : (List Int) → Option Bool) : Option (Int) :=
 (g_slices_IndexFunc_SSint_Sint_l0 s_ f 0).bind fun r2_ =>
 match r2_ with
 | .inl q2_ =>
  some q2_
 | .inr q2_ =>
  some (-1)
/-- slices.IndexFunc[[][]int,[]int] -/
def k133_l0b : SC :=
 .seq
 (.ops [
 ⟨some 9, .binOp .lss 3 (.tmp 8) (.tmp 7) 3, 0, none⟩])
 (.seq
 (.cond (.tmp 9)
 .skip
 (.exit 0))
 (.seq
 (.block 1
 (.seq
 (.ops [
 ⟨some 10, .move (.tmp 8), 3, none⟩,
 ⟨some 5, .assign (.tmp 10), 3, none⟩])
 (.seq
 (.ops [
 ⟨some 11, .move (.tmp 1), 108, none⟩,
 ⟨some 12, .move (.tmp 0), 44, none⟩,
 ⟨some 13, .move (.tmp 5), 3, none⟩,
 ⟨some 14, .indexAddr 44 (.tmp 12) (.tmp 13), 0, none⟩,
 ⟨some 15, .load 23 (.tmp 14), 23, none⟩,
 ⟨some 16, .call ⟨(.value (.tmp 11)), #[(.tmp 15)], #[23]⟩, 4, none⟩])
 (.cond (.tmp 16)
 (.seq
 (.ops [
 ⟨some 17, .move (.tmp 5), 3, none⟩,
 ⟨some 4, .assign (.tmp 17), 3, none⟩])
 .ret)
 .skip))))
 (.ops [
 ⟨some 18, .binOp .add 3 (.tmp 8) (.const (.int .i64 1)) 3, 3, none⟩,
 ⟨some 8, .move (.tmp 18), 3, none⟩])))
def k133_l0 : SC := .loop k133_l0b
def k133 : SC :=
 .seq
 (.ops [
 ⟨some 4, .assign (.const (.int .i64 0)), 3, none⟩])
 (.seq
 (.seq
 (.ops [
 ⟨some 6, .move (.tmp 0), 44, none⟩,
 ⟨some 7, .call ⟨(.builtin .len), #[(.tmp 6)], #[44]⟩, 3, none⟩,
 ⟨some 8, .move (.const (.int .i64 0)), 3, none⟩])
 (.block 0
 k133_l0))
 (.seq
 (.ops [
 ⟨some 4, .assign (.const (.int .i64 (-1))), 3, none⟩])
 .ret))
theorem slim133 : Try.f133.body.map (slim lends) = some k133 := by kernel_rfl
theorem ok133 : fnOk Try.f133 2 = true := by kernel_rfl
theorem c133 {a l : List D} {r : D × List D} (h : wpD Y.env k133 (fin tys l.length [ResultVar.tmp 4] r) (entry a l)) (ha : a.length = 2) : Y.call 133 a l = some r :=
 call_slim (Y := Y) rfl Try.func133 (ha ▸ ok133) slim133 h
def g_slices_IndexFunc_SSint_Sint_l0_M (s_ : List (List Int)) (f : (List Int) → Option Bool) (f_f : FuncId) (f_c : List D) (t8_ : Int) (s : St) : Prop := s.v 0 = D.sl 23 (lst (fun x => D.sl 3 (lst (D.int .i64) x)) s_) ∧ s.v 1 = D.clo f_f f_c ∧ s.v 7 = D.int .i64 (s_.length : Int) ∧ s.v 8 = D.int .i64 t8_
def g_slices_IndexFunc_SSint_Sint_l0_X (s_ : List (List Int)) (f : (List Int) → Option Bool) (f_f : FuncId) (f_c : List D) (r : Int ⊕ Unit) (ex : Ex) (s : St) : Prop := match r with
 | .inl q => ex = .ret ∧ s.v 4 = D.int .i64 q
 | .inr q => ex = .exit 0
theorem g_slices_IndexFunc_SSint_Sint_l0_wp (s_ : List (List Int)) (f : (List Int) → Option Bool) (f_f : FuncId) (f_c : List D) (f_h : ∀ (a0 : List Int) (r : Bool), f a0 = some r → Y.call f_f (D.sl 3 (lst (D.int .i64) a0) :: f_c) [] = some (D.bool r, [])) (f_l : lends f_f = false) {v : Int} {s : St} {r : Int ⊕ Unit} (h : g_slices_IndexFunc_SSint_Sint_l0 s_ f v = some r) (hM : g_slices_IndexFunc_SSint_Sint_l0_M s_ f f_f f_c v s) : wpD Y.env k133_l0 (g_slices_IndexFunc_SSint_Sint_l0_X s_ f f_f f_c r) s := by
 unfold g_slices_IndexFunc_SSint_Sint_l0 at h
 refine wd_itO (c := k133_l0b) (fun v => g_slices_IndexFunc_SSint_Sint_l0_S s_ f v) (fun v s => g_slices_IndexFunc_SSint_Sint_l0_M s_ f f_f f_c v s) (g_slices_IndexFunc_SSint_Sint_l0_X s_ f f_f f_c) ?_ h hM
 clear h hM s v r
 intro t8_ s o hM h
 unfold g_slices_IndexFunc_SSint_Sint_l0_S at h
 unfold g_slices_IndexFunc_SSint_Sint_l0_M at hM
 obtain ⟨m0, m1, m2, m3⟩ := hM
 unfold k133_l0b
 by_cases e1 : t8_ < (s_.length : Int)
 ·rw [if_pos e1] at h
  obtain ⟨e2, h⟩ := ckS h
  obtain ⟨r3_, hl3, h⟩ := bindS h
  try dsimp only at h
  have c3 := f_h _ _ hl3
  by_cases e4 : r3_ = true
  ·rw [if_pos e4] at h
   cases h
   simp (maxDischargeDepth := 9) only [↓xpre, xpost, xlst, xcore, yset, ↓reduceIte, Nat.reduceEqDiff, Nat.reduceLT, Nat.reduceAdd, m0, m1, m2, m3, f_l, e1, e2.1, e2.2, c3, e4, g_slices_IndexFunc_SSint_Sint_l0_M, g_slices_IndexFunc_SSint_Sint_l0_X, sxR] <;> (repeat' apply And.intro) <;> first | rfl | exact ⟨_, rfl⟩ | exact ⟨_, _, rfl⟩ | simp [lst, cat2_nil]
  ·rw [if_neg e4] at h
   have e4f : r3_ = false := Bool.eq_false_iff.mpr e4
   cases h
   simp (maxDischargeDepth := 9) only [↓xpre, xpost, xlst, xcore, yset, ↓reduceIte, Nat.reduceEqDiff, Nat.reduceLT, Nat.reduceAdd, m0, m1, m2, m3, f_l, e1, e2.1, e2.2, c3, e4f, g_slices_IndexFunc_SSint_Sint_l0_M, sxN] <;> (repeat' apply And.intro) <;> first | rfl | exact ⟨_, rfl⟩ | exact ⟨_, _, rfl⟩ | simp [lst, cat2_nil]
 ·rw [if_neg e1] at h
  cases h
  simp (maxDischargeDepth := 9) only [↓xpre, xpost, yset, ↓reduceIte, Nat.reduceLT, m2, m3, e1, g_slices_IndexFunc_SSint_Sint_l0_M, g_slices_IndexFunc_SSint_Sint_l0_X, sxE] <;> (repeat' apply And.intro) <;> first | rfl | exact ⟨_, rfl⟩ | exact ⟨_, _, rfl⟩ | simp [lst, cat2_nil]
theorem g_slices_IndexFunc_SSint_Sint_call (s_ : List (List Int)) (f : (List Int) → Option Bool) (f_f : FuncId) (f_c : List D) (f_h : ∀ (a0 : List Int) (r : Bool), f a0 = some r → Y.call f_f (D.sl 3 (lst (D.int .i64) a0) :: f_c) [] = some (D.bool r, [])) (f_l : lends f_f = false) {r : Int} (h : g_slices_IndexFunc_SSint_Sint s_ f = some r) : Y.call 133 [D.sl 23 (lst (fun x => D.sl 3 (lst (D.int .i64) x)) s_), D.clo f_f f_c] [] = some (D.int .i64 r, []) := by
 refine c133 ?_ rfl
 unfold k133
 unfold g_slices_IndexFunc_SSint_Sint at h
 obtain ⟨r2_, hl2, h⟩ := bindS h
 try dsimp only at h
 simp (maxDischargeDepth := 9) only [↓xpre, xpost, xlst, xcore, yset, ↓reduceIte, Nat.reduceEqDiff, Nat.reduceLT, Int.reduceNeg]
 refine wd_mono (g_slices_IndexFunc_SSint_Sint_l0_wp s_ f f_f f_c f_h f_l hl2 ?_) ?_
 ·simp (maxDischargeDepth := 9) only [xpost, xcore, ↓reduceIte, Nat.reduceEqDiff, Nat.reduceLT, g_slices_IndexFunc_SSint_Sint_l0_M] <;> (repeat' apply And.intro) <;> first | rfl | exact ⟨_, rfl⟩ | exact ⟨_, _, rfl⟩ | simp [lst, cat2_nil]
 ·intro ex2 s2 hX2
  rcases r2_ with q2_ | q2_
  ·unfold g_slices_IndexFunc_SSint_Sint_l0_X at hX2
   dsimp only at hX2 h
   obtain ⟨rfl, n2_0⟩ := hX2
   cases h
   simp (maxDischargeDepth := 9) only [↓xpre, xpost, xcore, ↓reduceIte, n2_0] <;> (repeat' apply And.intro) <;> first | rfl | exact ⟨_, rfl⟩ | exact ⟨_, _, rfl⟩ | simp [lst, cat2_nil]
  ·unfold g_slices_IndexFunc_SSint_Sint_l0_X at hX2
   dsimp only at hX2 h
   obtain rfl := hX2
   cases h
   simp (maxDischargeDepth := 9) only [↓xpre, xpost, xcore, yset, ↓reduceIte, Nat.reduceEqDiff, Nat.reduceLT, Int.reduceNeg] <;> (repeat' apply And.intro) <;> first | rfl | exact ⟨_, rfl⟩ | exact ⟨_, _, rfl⟩ | simp [lst, cat2_nil]

noncomputable def g_slices_ContainsFunc_SSint_Sint (s_ : List (List Int)) (f : (List Int) → Option Bool) : Option (Bool) :=
 (g_slices_IndexFunc_SSint_Sint s_ f).bind fun r1_ =>
 some (decide (0 ≤ r1_))
/-- slices.ContainsFunc[[][]int,[]int] -/
def k84 : SC :=
 .seq
 (.ops [
 ⟨some 4, .assign (.const (.bool false)), 4, none⟩])
 (.seq
 (.ops [
 ⟨some 5, .move (.tmp 0), 44, none⟩,
 ⟨some 6, .move (.tmp 1), 108, none⟩,
 ⟨some 7, .call ⟨(.value (.func 133)), #[(.tmp 5), (.tmp 6)], #[44, 108]⟩, 3, none⟩,
 ⟨some 8, .binOp .geq 3 (.tmp 7) (.const (.int .i64 0)) 3, 4, none⟩,
 ⟨some 4, .assign (.tmp 8), 4, none⟩])
 .ret)
theorem slim84 : Try.f84.body.map (slim lends) = some k84 := by kernel_rfl
theorem ok84 : fnOk Try.f84 2 = true := by kernel_rfl
theorem c84 {a l : List D} {r : D × List D} (h : wpD Y.env k84 (fin tys l.length [ResultVar.tmp 4] r) (entry a l)) (ha : a.length = 2) : Y.call 84 a l = some r :=
 call_slim (Y := Y) rfl Try.func84 (ha ▸ ok84) slim84 h
theorem g_slices_ContainsFunc_SSint_Sint_call (s_ : List (List Int)) (f : (List Int) → Option Bool) (f_f : FuncId) (f_c : List D) (f_h : ∀ (a0 : List Int) (r : Bool), f a0 = some r → Y.call f_f (D.sl 3 (lst (D.int .i64) a0) :: f_c) [] = some (D.bool r, [])) (f_l : lends f_f = false) {r : Bool} (h : g_slices_ContainsFunc_SSint_Sint s_ f = some r) : Y.call 84 [D.sl 23 (lst (fun x => D.sl 3 (lst (D.int .i64) x)) s_), D.clo f_f f_c] [] = some (D.bool r, []) := by
 refine c84 ?_ rfl
 unfold k84
 unfold g_slices_ContainsFunc_SSint_Sint at h
 obtain ⟨r1_, hl1, h⟩ := bindS h
 try dsimp only at h
 have c1 := g_slices_IndexFunc_SSint_Sint_call s_ f f_f f_c f_h f_l hl1
 cases h
 simp (maxDischargeDepth := 9) only [↓xpre, xpost, xcore, yset, ↓reduceIte, Nat.reduceEqDiff, Nat.reduceLT, Nat.reduceAdd, c1] <;> (repeat' apply And.intro) <;> first | rfl | exact ⟨_, rfl⟩ | exact ⟨_, _, rfl⟩ | simp [lst, cat2_nil]

noncomputable def i_covers_1 (f : List Int) : Option (Bool) :=
 some (decide ((f.length : Int) = 0))
/-- impl.covers$1 -/
def k86 : SC :=
 .seq
 (.ops [
 ⟨some 2, .assign (.const (.bool false)), 4, none⟩])
 (.seq
 (.ops [
 ⟨some 3, .move (.tmp 0), 23, none⟩,
 ⟨some 4, .call ⟨(.builtin .len), #[(.tmp 3)], #[23]⟩, 3, none⟩,
 ⟨some 5, .binOp .eql 3 (.tmp 4) (.const (.int .i64 0)) 3, 4, none⟩,
 ⟨some 2, .assign (.tmp 5), 4, none⟩])
 .ret)
theorem slim86 : Try.f86.body.map (slim lends) = some k86 := by kernel_rfl
theorem ok86 : fnOk Try.f86 1 = true := by kernel_rfl
theorem c86 {a l : List D} {r : D × List D} (h : wpD Y.env k86 (fin tys l.length [ResultVar.tmp 2] r) (entry a l)) (ha : a.length = 1) : Y.call 86 a l = some r :=
 call_slim (Y := Y) rfl Try.func86 (ha ▸ ok86) slim86 h
theorem i_covers_1_call (f : List Int) {r : Bool} (h : i_covers_1 f = some r) : Y.call 86 [D.sl 3 (lst (D.int .i64) f)] [] = some (D.bool r, []) := by
 refine c86 ?_ rfl
 unfold k86
 unfold i_covers_1 at h
 cases h
 simp (maxDischargeDepth := 9) only [↓xpre, xpost, xlst, xcore, yset, ↓reduceIte, Nat.reduceEqDiff, Nat.reduceLT] <;> (repeat' apply And.intro) <;> first | rfl | exact ⟨_, rfl⟩ | exact ⟨_, _, rfl⟩ | simp [lst, cat2_nil]

noncomputable def i_covers (b_Ends : List (List (Int × Int))) (b_Ids b_Inputs m_ : List Int) : Option (Bool) :=
 (i_fibres m_ (b_Ends.length : Int)).bind fun r1_ =>
 (g_slices_ContainsFunc_SSint_Sint r1_ (fun a0 => i_covers_1 a0)).bind fun r2_ =>
 some (!r2_)
/-- impl.covers -/
def k40 : SC :=
 .seq
 (.ops [
 ⟨some 2, .box 31 (.tmp 0), 0, none⟩,
 ⟨some 4, .assign (.const (.bool false)), 4, none⟩])
 (.seq
 (.ops [
 ⟨some 5, .move (.tmp 1), 23, none⟩,
 ⟨some 6, .fieldAddr 31 (.tmp 2) 0, 0, none⟩,
 ⟨some 7, .load 29 (.tmp 6), 29, none⟩,
 ⟨some 8, .call ⟨(.builtin .len), #[(.tmp 7)], #[29]⟩, 3, none⟩,
 ⟨some 9, .call ⟨(.value (.func 85)), #[(.tmp 5), (.tmp 8)], #[23, 3]⟩, 44, none⟩,
 ⟨some 10, .call ⟨(.value (.func 84)), #[(.tmp 9), (.func 86)], #[44, 108]⟩, 4, none⟩,
 ⟨some 11, .unOp .not 4 (.tmp 10), 4, none⟩,
 ⟨some 4, .assign (.tmp 11), 4, none⟩])
 .ret)
theorem slim40 : Try.f40.body.map (slim lends) = some k40 := by kernel_rfl
theorem ok40 : fnOk Try.f40 2 = true := by kernel_rfl
theorem c40 {a l : List D} {r : D × List D} (h : wpD Y.env k40 (fin tys l.length [ResultVar.tmp 4] r) (entry a l)) (ha : a.length = 2) : Y.call 40 a l = some r :=
 call_slim (Y := Y) rfl Try.func40 (ha ▸ ok40) slim40 h
theorem i_covers_call (b_Ends : List (List (Int × Int))) (b_Ids b_Inputs m_ : List Int) {r : Bool} (h : i_covers b_Ends b_Ids b_Inputs m_ = some r) : Y.call 40 [D.agg [D.sl 100 (lst (fun x => D.sl 102 (cat2 .i64 .i64 x)) b_Ends), D.sl 3 (lst (D.int .i64) b_Ids), D.sl 3 (lst (D.int .i64) b_Inputs)], D.sl 3 (lst (D.int .i64) m_)] [] = some (D.bool r, []) := by
 refine c40 ?_ rfl
 unfold k40
 unfold i_covers at h
 obtain ⟨r1_, hl1, h⟩ := bindS h
 try dsimp only at h
 have c1 := i_fibres_call m_ (b_Ends.length : Int) hl1
 obtain ⟨r2_, hl2, h⟩ := bindS h
 try dsimp only at h
 have c2 := g_slices_ContainsFunc_SSint_Sint_call r1_ (fun a0 => i_covers_1 a0) 86 [] (fun a0 _ hh => i_covers_1_call a0 hh) le86 hl2
 cases h
 simp (maxDischargeDepth := 9) only [↓xpre, xpost, xlst, xcore, yset, ↓reduceIte, Nat.reduceEqDiff, Nat.reduceLT, Nat.reduceAdd, c1, c2] <;> (repeat' apply And.intro) <;> first | rfl | exact ⟨_, rfl⟩ | exact ⟨_, _, rfl⟩ | simp [lst, cat2_nil]

noncomputable def i_RefutesSize (n_Ends : List (List (Int × Int))) (n_Ids n_Inputs : List Int) (b_Ends : List (List (Int × Int))) (b_Ids b_Inputs m_ : List Int) : Option (Bool × Bool) :=
 ck (ShortE n_Ends) <|
 ck (n_Ids.length < 1099511627776) <|
 ck (n_Inputs.length < 1099511627776) <|
 if (isNet n_Ends n_Ids n_Inputs) = true then
  ck (ShortE b_Ends) <|
  ck (b_Ids.length < 1099511627776) <|
  ck (b_Inputs.length < 1099511627776) <|
  if (isNet b_Ends b_Ids b_Inputs) = true then
   (i_isConnected b_Ends b_Ids b_Inputs).bind fun r11_ =>
   if r11_ = true then
    if (n_Ends.length : Int) < (b_Ends.length : Int) then
     (i_isPortMap b_Ends b_Ids b_Inputs n_Ends n_Ids n_Inputs m_).bind fun r14_ =>
     if r14_ = true then
      (i_covers n_Ends n_Ids n_Inputs m_).bind fun r16_ =>
      some (r16_, true)
     else
      some (false, true)
    else
     some (false, true)
   else
    some (false, true)
  else
   some (false, false)
 else
  some (false, false)
/-- impl.RefutesSize -/
def k12 : SC :=
 .seq
 (.ops [
 ⟨some 3, .box 31 (.tmp 0), 0, none⟩,
 ⟨some 4, .box 31 (.tmp 1), 0, none⟩,
 ⟨some 6, .assign (.const (.bool false)), 4, none⟩,
 ⟨some 7, .assign (.const (.bool false)), 4, none⟩])
 (.seq
 (.seq
 (.ops [
 ⟨some 8, .load 31 (.tmp 3), 31, none⟩,
 ⟨some 9, .call ⟨(.value (.func 37)), #[(.tmp 8)], #[31]⟩, 4, none⟩,
 ⟨some 10, .unOp .not 4 (.tmp 9), 4, none⟩,
 ⟨some 11, .move (.tmp 10), 4, none⟩,
 ⟨some 12, .load 31 (.tmp 4), 31, (some (some 11, false))⟩,
 ⟨some 13, .call ⟨(.value (.func 37)), #[(.tmp 12)], #[31]⟩, 4, (some (some 11, false))⟩,
 ⟨some 14, .unOp .not 4 (.tmp 13), 4, (some (some 11, false))⟩,
 ⟨some 15, .pick (.tmp 11) (.const (.bool true)) (.tmp 14), 4, none⟩])
 (.cond (.tmp 15)
 (.seq
 (.ops [
 ⟨some 6, .assign (.const (.bool false)), 4, none⟩,
 ⟨some 7, .assign (.const (.bool false)), 4, none⟩])
 .ret)
 .skip))
 (.seq
 (.ops [
 ⟨some 16, .load 31 (.tmp 4), 31, none⟩,
 ⟨some 17, .call ⟨(.value (.func 38)), #[(.tmp 16)], #[31]⟩, 4, none⟩,
 ⟨some 18, .move (.tmp 17), 4, none⟩,
 ⟨some 19, .fieldAddr 31 (.tmp 4) 0, 0, (some (some 18, true))⟩,
 ⟨some 20, .load 29 (.tmp 19), 29, (some (some 18, true))⟩,
 ⟨some 21, .call ⟨(.builtin .len), #[(.tmp 20)], #[29]⟩, 3, (some (some 18, true))⟩,
 ⟨some 22, .fieldAddr 31 (.tmp 3) 0, 0, (some (some 18, true))⟩,
 ⟨some 23, .load 29 (.tmp 22), 29, (some (some 18, true))⟩,
 ⟨some 24, .call ⟨(.builtin .len), #[(.tmp 23)], #[29]⟩, 3, (some (some 18, true))⟩,
 ⟨some 25, .binOp .gtr 3 (.tmp 21) (.tmp 24) 3, 4, (some (some 18, true))⟩,
 ⟨some 26, .pick (.tmp 18) (.tmp 25) (.const (.bool false)), 4, none⟩,
 ⟨some 27, .move (.tmp 26), 4, none⟩,
 ⟨some 28, .load 31 (.tmp 4), 31, (some (some 27, true))⟩,
 ⟨some 29, .load 31 (.tmp 3), 31, (some (some 27, true))⟩,
 ⟨some 30, .move (.tmp 2), 23, (some (some 27, true))⟩,
 ⟨some 31, .call ⟨(.value (.func 39)), #[(.tmp 28), (.tmp 29), (.tmp 30)], #[31, 31, 23]⟩, 4, (some (some 27, true))⟩,
 ⟨some 32, .pick (.tmp 27) (.tmp 31) (.const (.bool false)), 4, none⟩,
 ⟨some 33, .move (.tmp 32), 4, none⟩,
 ⟨some 34, .load 31 (.tmp 3), 31, (some (some 33, true))⟩,
 ⟨some 35, .move (.tmp 2), 23, (some (some 33, true))⟩,
 ⟨some 36, .call ⟨(.value (.func 40)), #[(.tmp 34), (.tmp 35)], #[31, 23]⟩, 4, (some (some 33, true))⟩,
 ⟨some 37, .pick (.tmp 33) (.tmp 36) (.const (.bool false)), 4, none⟩,
 ⟨some 6, .assign (.tmp 37), 4, none⟩,
 ⟨some 7, .assign (.const (.bool true)), 4, none⟩])
 .ret))
theorem slim12 : Try.f12.body.map (slim lends) = some k12 := by kernel_rfl
theorem ok12 : fnOk Try.f12 3 = true := by kernel_rfl
theorem c12 {a l : List D} {r : D × List D} (h : wpD Y.env k12 (fin tys l.length [ResultVar.tmp 6, ResultVar.tmp 7] r) (entry a l)) (ha : a.length = 3) : Y.call 12 a l = some r :=
 call_slim (Y := Y) rfl Try.func12 (ha ▸ ok12) slim12 h
theorem i_RefutesSize_call (n_Ends : List (List (Int × Int))) (n_Ids n_Inputs : List Int) (b_Ends : List (List (Int × Int))) (b_Ids b_Inputs m_ : List Int) {r : Bool × Bool} (h : i_RefutesSize n_Ends n_Ids n_Inputs b_Ends b_Ids b_Inputs m_ = some r) : Y.call 12 [D.agg [D.sl 100 (lst (fun x => D.sl 102 (cat2 .i64 .i64 x)) n_Ends), D.sl 3 (lst (D.int .i64) n_Ids), D.sl 3 (lst (D.int .i64) n_Inputs)], D.agg [D.sl 100 (lst (fun x => D.sl 102 (cat2 .i64 .i64 x)) b_Ends), D.sl 3 (lst (D.int .i64) b_Ids), D.sl 3 (lst (D.int .i64) b_Inputs)], D.sl 3 (lst (D.int .i64) m_)] [] = some (D.tup [D.bool r.1, D.bool r.2], []) := by
 refine c12 ?_ rfl
 unfold k12
 unfold i_RefutesSize at h
 obtain ⟨e1, h⟩ := ckS h
 obtain ⟨e2, h⟩ := ckS h
 obtain ⟨e3, h⟩ := ckS h
 have c4 := i_IsNetwork_cl n_Ends n_Ids n_Inputs e1 e2 e3
 by_cases e5 : (isNet n_Ends n_Ids n_Inputs) = true
 ·rw [if_pos e5] at h
  obtain ⟨e6, h⟩ := ckS h
  obtain ⟨e7, h⟩ := ckS h
  obtain ⟨e8, h⟩ := ckS h
  have c9 := i_IsNetwork_cl b_Ends b_Ids b_Inputs e6 e7 e8
  by_cases e10 : (isNet b_Ends b_Ids b_Inputs) = true
  ·rw [if_pos e10] at h
   obtain ⟨r11_, hl11, h⟩ := bindS h
   try dsimp only at h
   have c11 := i_isConnected_call b_Ends b_Ids b_Inputs hl11
   by_cases e12 : r11_ = true
   ·rw [if_pos e12] at h
    by_cases e13 : (n_Ends.length : Int) < (b_Ends.length : Int)
    ·rw [if_pos e13] at h
     obtain ⟨r14_, hl14, h⟩ := bindS h
     try dsimp only at h
     have c14 := i_isPortMap_call b_Ends b_Ids b_Inputs n_Ends n_Ids n_Inputs m_ hl14
     by_cases e15 : r14_ = true
     ·rw [if_pos e15] at h
      obtain ⟨r16_, hl16, h⟩ := bindS h
      try dsimp only at h
      have c16 := i_covers_call n_Ends n_Ids n_Inputs m_ hl16
      cases h
      simp (maxDischargeDepth := 9) only [↓xpre, xpost, xlst, xcore, yset, ↓reduceIte, Nat.reduceEqDiff, Nat.reduceLT, Nat.reduceAdd, c4, e5, c9, e10, c11, e12, e13, c14, e15, c16] <;> (repeat' apply And.intro) <;> first | rfl | exact ⟨_, rfl⟩ | exact ⟨_, _, rfl⟩ | simp [lst, cat2_nil]
     ·rw [if_neg e15] at h
      have e15f : r14_ = false := Bool.eq_false_iff.mpr e15
      cases h
      simp (maxDischargeDepth := 9) only [↓xpre, xpost, xlst, xcore, yset, ↓reduceIte, Nat.reduceEqDiff, Nat.reduceLT, Nat.reduceAdd, c4, e5, c9, e10, c11, e12, e13, c14, e15f] <;> (repeat' apply And.intro) <;> first | rfl | exact ⟨_, rfl⟩ | exact ⟨_, _, rfl⟩ | simp [lst, cat2_nil]
    ·rw [if_neg e13] at h
     cases h
     simp (maxDischargeDepth := 9) only [↓xpre, xpost, xlst, xcore, yset, ↓reduceIte, Nat.reduceEqDiff, Nat.reduceLT, Nat.reduceAdd, c4, e5, c9, e10, c11, e12, e13] <;> (repeat' apply And.intro) <;> first | rfl | exact ⟨_, rfl⟩ | exact ⟨_, _, rfl⟩ | simp [lst, cat2_nil]
   ·rw [if_neg e12] at h
    have e12f : r11_ = false := Bool.eq_false_iff.mpr e12
    cases h
    simp (maxDischargeDepth := 9) only [↓xpre, xpost, xcore, yset, ↓reduceIte, Nat.reduceEqDiff, Nat.reduceLT, Nat.reduceAdd, c4, e5, c9, e10, c11, e12f] <;> (repeat' apply And.intro) <;> first | rfl | exact ⟨_, rfl⟩ | exact ⟨_, _, rfl⟩ | simp [lst, cat2_nil]
  ·rw [if_neg e10] at h
   have e10f : (isNet b_Ends b_Ids b_Inputs) = false := Bool.eq_false_iff.mpr e10
   cases h
   simp (maxDischargeDepth := 9) only [↓xpre, xpost, xcore, yset, ↓reduceIte, Nat.reduceEqDiff, Nat.reduceLT, Nat.reduceAdd, c4, e5, c9, e10f] <;> (repeat' apply And.intro) <;> first | rfl | exact ⟨_, rfl⟩ | exact ⟨_, _, rfl⟩ | simp [lst, cat2_nil]
 ·rw [if_neg e5] at h
  have e5f : (isNet n_Ends n_Ids n_Inputs) = false := Bool.eq_false_iff.mpr e5
  cases h
  simp (maxDischargeDepth := 9) only [↓xpre, xpost, xcore, yset, ↓reduceIte, Nat.reduceEqDiff, Nat.reduceLT, Nat.reduceAdd, c4, e5f] <;> (repeat' apply And.intro) <;> first | rfl | exact ⟨_, rfl⟩ | exact ⟨_, _, rfl⟩ | simp [lst, cat2_nil]

noncomputable def s_coMap_l0_S (t0_Ends : List (List (Int × Int))) (t0_Ids t0_Inputs : List Int) (t1_Ends : List (List (Int × Int))) (t1_Ids t1_Inputs t2_ : List Int) (t29_ t64_ : Int) : Option ((Int) ⊕ (Unit ⊕ Unit)) :=
 if t64_ < ((t0_Ends.getD t29_.toNat default).length : Int) then
  ck (0 ≤ t64_ ∧ t64_.toNat < (t0_Ends.getD t29_.toNat default).length) <|
  ck (0 ≤ t29_ ∧ t29_.toNat < t2_.length) <|
  ck (0 ≤ (t2_.getD t29_.toNat default) ∧ (t2_.getD t29_.toNat default).toNat < t1_Ends.length) <|
  ck (0 ≤ t64_ ∧ t64_.toNat < (t1_Ends.getD ((t2_.getD t29_.toNat default).toNat) default).length) <|
  ck (0 ≤ (fstD (t0_Ends.getD t29_.toNat default) t64_.toNat) ∧ (fstD (t0_Ends.getD t29_.toNat default) t64_.toNat).toNat < t2_.length) <|
  if (((fstD (t1_Ends.getD ((t2_.getD t29_.toNat default).toNat) default) t64_.toNat) == (t2_.getD ((fstD (t0_Ends.getD t29_.toNat default) t64_.toNat).toNat) default)) && ((sndD (t1_Ends.getD ((t2_.getD t29_.toNat default).toNat) default) t64_.toNat) == (sndD (t0_Ends.getD t29_.toNat default) t64_.toNat))) = true then
   some (Sum.inl (IntKind.i64.wrap (t64_ + 1)))
  else
   some (Sum.inr (Sum.inl ()))
 else
  some (Sum.inr (Sum.inr ()))
noncomputable def s_coMap_l0 (t0_Ends : List (List (Int × Int))) (t0_Ids t0_Inputs : List Int) (t1_Ends : List (List (Int × Int))) (t1_Ids t1_Inputs t2_ : List Int) (t29_ v : Int) : Option (Unit ⊕ Unit) := itO (fun v => s_coMap_l0_S t0_Ends t0_Ids t0_Inputs t1_Ends t1_Ids t1_Inputs t2_ t29_ v) v
noncomputable def s_coMap_l1_S (t0_Ends : List (List (Int × Int))) (t0_Ids t0_Inputs : List Int) (t1_Ends : List (List (Int × Int))) (t1_Ids t1_Inputs t2_ : List Int) (t29_ : Int) : Option ((Int) ⊕ (Unit ⊕ Unit)) :=
 if t29_ < (t0_Ends.length : Int) then
  ck (0 ≤ t29_ ∧ t29_.toNat < t0_Ends.length) <|
  ck (0 ≤ t29_ ∧ t29_.toNat < t2_.length) <|
  ck (0 ≤ (t2_.getD t29_.toNat default) ∧ (t2_.getD t29_.toNat default).toNat < t1_Ends.length) <|
  if ((t0_Ends.getD t29_.toNat default).length : Int) = ((t1_Ends.getD ((t2_.getD t29_.toNat default).toNat) default).length : Int) then
   ck (0 ≤ t29_ ∧ t29_.toNat < t0_Inputs.length) <|
   ck (0 ≤ (t2_.getD t29_.toNat default) ∧ (t2_.getD t29_.toNat default).toNat < t1_Inputs.length) <|
   if (t0_Inputs.getD t29_.toNat default) = (t1_Inputs.getD ((t2_.getD t29_.toNat default).toNat) default) then
    (s_coMap_l0 t0_Ends t0_Ids t0_Inputs t1_Ends t1_Ids t1_Inputs t2_ t29_ 0).bind fun r14_ =>
    match r14_ with
    | .inl q14_ =>
     some (Sum.inr (Sum.inl ()))
    | .inr q14_ =>
     some (Sum.inl (IntKind.i64.wrap (t29_ + 1)))
   else
    some (Sum.inr (Sum.inl ()))
  else
   some (Sum.inr (Sum.inl ()))
 else
  some (Sum.inr (Sum.inr ()))
noncomputable def s_coMap_l1 (t0_Ends : List (List (Int × Int))) (t0_Ids t0_Inputs : List Int) (t1_Ends : List (List (Int × Int))) (t1_Ids t1_Inputs t2_ : List Int) (v : Int) : Option (Unit ⊕ Unit) := itO (fun v => s_coMap_l1_S t0_Ends t0_Ids t0_Inputs t1_Ends t1_Ids t1_Inputs t2_ v) v
noncomputable def s_coMap (t0_Ends : List (List (Int × Int))) (t0_Ids t0_Inputs : List Int) (t1_Ends : List (List (Int × Int))) (t1_Ids t1_Inputs t2_ : List Int) : Option (Bool) :=
 if (t2_.length : Int) = (t0_Ends.length : Int) then
  ck (t2_.length < 1099511627776) <|
  if (allIn t2_ (0 : Int) (IntKind.i64.wrap ((t1_Ends.length : Int) - 1))) = true then
   (s_coMap_l1 t0_Ends t0_Ids t0_Inputs t1_Ends t1_Ids t1_Inputs t2_ 0).bind fun r6_ =>
   match r6_ with
   | .inl q6_ =>
    some false
   | .inr q6_ =>
    some true
  else
   some false
 else
  some false
/-- spec.coMap -/
def k73_l0b : SC :=
 .seq
 (.ops [
 ⟨some 65, .binOp .lss 3 (.tmp 64) (.tmp 63) 3, 0, none⟩])
 (.seq
 (.cond (.tmp 65)
 .skip
 (.exit 2))
 (.seq
 (.block 3
 (.seq
 (.ops [
 ⟨some 66, .move (.tmp 64), 3, none⟩,
 ⟨some 67, .indexAddr 100 (.tmp 62) (.tmp 64), 0, none⟩,
 ⟨some 68, .load 102 (.tmp 67), 102, none⟩,
 ⟨some 10, .alloc 102, 0, none⟩,
 ⟨some 9, .assign (.tmp 66), 3, none⟩,
 ⟨none, .store 102 (.tmp 10) (.tmp 68), 0, none⟩])
 (.seq
 (.draws [
 (⟨[69, 4, 4], [69, 70, 71, 72, 73, 74, 75, 76, 77, 78, 79, 80, 81, 82, 83, 84, 85, 86, 87, 84, 86, 88], [69]⟩, ⟨some 69, .fieldAddr 31 (.tmp 4) 0, 0, none⟩),
 (⟨[70, 69, 4], [69, 70, 71, 72, 73, 74, 75, 76, 77, 78, 79, 80, 81, 82, 83, 84, 85, 86, 87, 84, 86, 88], [70]⟩, ⟨some 70, .load 29 (.tmp 69), 29, none⟩),
 (⟨[71, 2, 2], [69, 70, 71, 72, 73, 74, 75, 76, 77, 78, 79, 80, 81, 82, 83, 84, 85, 86, 87, 84, 86, 88], [71]⟩, ⟨some 71, .move (.tmp 2), 23, none⟩),
 (⟨[72, 7, 7], [69, 70, 71, 72, 73, 74, 75, 76, 77, 78, 79, 80, 81, 82, 83, 84, 85, 86, 87, 84, 86, 88], [72]⟩, ⟨some 72, .move (.tmp 7), 3, none⟩),
 (⟨[73, 71, 72, 2, 7], [69, 70, 71, 72, 73, 74, 75, 76, 77, 78, 79, 80, 81, 82, 83, 84, 85, 86, 87, 84, 86, 88], [73]⟩, ⟨some 73, .indexAddr 23 (.tmp 71) (.tmp 72), 0, none⟩),
 (⟨[74, 73, 2], [69, 70, 71, 72, 73, 74, 75, 76, 77, 78, 79, 80, 81, 82, 83, 84, 85, 86, 87, 84, 86, 88], [74]⟩, ⟨some 74, .load 3 (.tmp 73), 3, none⟩),
 (⟨[75, 70, 74, 4, 2], [69, 70, 71, 72, 73, 74, 75, 76, 77, 78, 79, 80, 81, 82, 83, 84, 85, 86, 87, 84, 86, 88], [75]⟩, ⟨some 75, .indexAddr 29 (.tmp 70) (.tmp 74), 0, none⟩),
 (⟨[76, 75, 4], [69, 70, 71, 72, 73, 74, 75, 76, 77, 78, 79, 80, 81, 82, 83, 84, 85, 86, 87, 84, 86, 88], [76]⟩, ⟨some 76, .load 100 (.tmp 75), 100, none⟩),
 (⟨[77, 9, 9], [69, 70, 71, 72, 73, 74, 75, 76, 77, 78, 79, 80, 81, 82, 83, 84, 85, 86, 87, 84, 86, 88], [77]⟩, ⟨some 77, .move (.tmp 9), 3, none⟩),
 (⟨[78, 76, 77, 4, 9], [69, 70, 71, 72, 73, 74, 75, 76, 77, 78, 79, 80, 81, 82, 83, 84, 85, 86, 87, 84, 86, 88], [78]⟩, ⟨some 78, .indexAddr 100 (.tmp 76) (.tmp 77), 0, none⟩),
 (⟨[79, 78, 4], [69, 70, 71, 72, 73, 74, 75, 76, 77, 78, 79, 80, 81, 82, 83, 84, 85, 86, 87, 84, 86, 88], [79]⟩, ⟨some 79, .load 102 (.tmp 78), 102, none⟩),
 (⟨[80, 2, 2], [69, 70, 71, 72, 73, 74, 75, 76, 77, 78, 79, 80, 81, 82, 83, 84, 85, 86, 87, 84, 86, 88], [80]⟩, ⟨some 80, .move (.tmp 2), 23, none⟩),
 (⟨[81, 10, 10], [69, 70, 71, 72, 73, 74, 75, 76, 77, 78, 79, 80, 81, 82, 83, 84, 85, 86, 87, 84, 86, 88], [81]⟩, ⟨some 81, .fieldAddr 102 (.tmp 10) 0, 0, none⟩),
 (⟨[82, 81, 10], [69, 70, 71, 72, 73, 74, 75, 76, 77, 78, 79, 80, 81, 82, 83, 84, 85, 86, 87, 84, 86, 88], [82]⟩, ⟨some 82, .load 3 (.tmp 81), 3, none⟩),
 (⟨[83, 80, 82, 2, 10], [69, 70, 71, 72, 73, 74, 75, 76, 77, 78, 79, 80, 81, 82, 83, 84, 85, 86, 87, 84, 86, 88], [83]⟩, ⟨some 83, .indexAddr 23 (.tmp 80) (.tmp 82), 0, none⟩),
 (⟨[84, 83, 2], [69, 70, 71, 72, 73, 74, 75, 76, 77, 78, 79, 80, 81, 82, 83, 84, 85, 86, 87, 84, 86, 88], [84]⟩, ⟨some 84, .load 3 (.tmp 83), 3, none⟩),
 (⟨[85, 10, 10], [69, 70, 71, 72, 73, 74, 75, 76, 77, 78, 79, 80, 81, 82, 83, 84, 85, 86, 87, 84, 86, 88], [85]⟩, ⟨some 85, .fieldAddr 102 (.tmp 10) 1, 0, none⟩),
 (⟨[86, 85, 10], [69, 70, 71, 72, 73, 74, 75, 76, 77, 78, 79, 80, 81, 82, 83, 84, 85, 86, 87, 84, 86, 88], [86]⟩, ⟨some 86, .load 3 (.tmp 85), 3, none⟩),
 (⟨[87, 84, 86, 2, 10], [69, 70, 71, 72, 73, 74, 75, 76, 77, 78, 79, 80, 81, 82, 83, 84, 85, 86, 87, 84, 86, 88], [87, 84, 86]⟩, ⟨some 87, .build 102 #[(0, (.tmp 84)), (1, (.tmp 86))], 102, none⟩),
 (⟨[88, 79, 87, 4, 87], [69, 70, 71, 72, 73, 74, 75, 76, 77, 78, 79, 80, 81, 82, 83, 84, 85, 86, 87, 84, 86, 88], [88]⟩, ⟨some 88, .binOp .neq 102 (.tmp 79) (.tmp 87) 102, 4, none⟩)])
 (.cond (.tmp 88)
 (.seq
 (.ops [
 ⟨some 6, .assign (.const (.bool false)), 4, none⟩])
 .ret)
 .skip))))
 (.ops [
 ⟨some 89, .binOp .add 3 (.tmp 64) (.const (.int .i64 1)) 3, 3, none⟩,
 ⟨some 64, .move (.tmp 89), 3, none⟩])))
def k73_l0 : SC := .loop k73_l0b
def k73_l1b : SC :=
 .seq
 (.ops [
 ⟨some 30, .binOp .lss 3 (.tmp 29) (.tmp 28) 3, 0, none⟩])
 (.seq
 (.cond (.tmp 30)
 .skip
 (.exit 0))
 (.seq
 (.block 1
 (.seq
 (.ops [
 ⟨some 31, .move (.tmp 29), 3, none⟩,
 ⟨some 32, .indexAddr 29 (.tmp 27) (.tmp 29), 0, none⟩,
 ⟨some 33, .load 100 (.tmp 32), 100, none⟩,
 ⟨some 7, .assign (.tmp 31), 3, none⟩,
 ⟨some 8, .assign (.tmp 33), 100, none⟩])
 (.seq
 (.seq
 (.draws [
 (⟨[34, 8, 8], [34, 35, 36, 37, 38, 39, 40, 41, 42, 43, 44, 45, 46, 47, 48, 49, 50, 51, 52, 53, 54, 55, 56, 57, 58, 59, 60, 61], [34]⟩, ⟨some 34, .move (.tmp 8), 100, none⟩),
 (⟨[35, 34, 8], [34, 35, 36, 37, 38, 39, 40, 41, 42, 43, 44, 45, 46, 47, 48, 49, 50, 51, 52, 53, 54, 55, 56, 57, 58, 59, 60, 61], [35]⟩, ⟨some 35, .call ⟨(.builtin .len), #[(.tmp 34)], #[100]⟩, 3, none⟩),
 (⟨[36, 4, 4], [34, 35, 36, 37, 38, 39, 40, 41, 42, 43, 44, 45, 46, 47, 48, 49, 50, 51, 52, 53, 54, 55, 56, 57, 58, 59, 60, 61], [36]⟩, ⟨some 36, .fieldAddr 31 (.tmp 4) 0, 0, none⟩),
 (⟨[37, 36, 4], [34, 35, 36, 37, 38, 39, 40, 41, 42, 43, 44, 45, 46, 47, 48, 49, 50, 51, 52, 53, 54, 55, 56, 57, 58, 59, 60, 61], [37]⟩, ⟨some 37, .load 29 (.tmp 36), 29, none⟩),
 (⟨[38, 2, 2], [34, 35, 36, 37, 38, 39, 40, 41, 42, 43, 44, 45, 46, 47, 48, 49, 50, 51, 52, 53, 54, 55, 56, 57, 58, 59, 60, 61], [38]⟩, ⟨some 38, .move (.tmp 2), 23, none⟩),
 (⟨[39, 7, 7], [34, 35, 36, 37, 38, 39, 40, 41, 42, 43, 44, 45, 46, 47, 48, 49, 50, 51, 52, 53, 54, 55, 56, 57, 58, 59, 60, 61], [39]⟩, ⟨some 39, .move (.tmp 7), 3, none⟩),
 (⟨[40, 38, 39, 2, 7], [34, 35, 36, 37, 38, 39, 40, 41, 42, 43, 44, 45, 46, 47, 48, 49, 50, 51, 52, 53, 54, 55, 56, 57, 58, 59, 60, 61], [40]⟩, ⟨some 40, .indexAddr 23 (.tmp 38) (.tmp 39), 0, none⟩),
 (⟨[41, 40, 2], [34, 35, 36, 37, 38, 39, 40, 41, 42, 43, 44, 45, 46, 47, 48, 49, 50, 51, 52, 53, 54, 55, 56, 57, 58, 59, 60, 61], [41]⟩, ⟨some 41, .load 3 (.tmp 40), 3, none⟩),
 (⟨[42, 37, 41, 4, 2], [34, 35, 36, 37, 38, 39, 40, 41, 42, 43, 44, 45, 46, 47, 48, 49, 50, 51, 52, 53, 54, 55, 56, 57, 58, 59, 60, 61], [42]⟩, ⟨some 42, .indexAddr 29 (.tmp 37) (.tmp 41), 0, none⟩),
 (⟨[43, 42, 4], [34, 35, 36, 37, 38, 39, 40, 41, 42, 43, 44, 45, 46, 47, 48, 49, 50, 51, 52, 53, 54, 55, 56, 57, 58, 59, 60, 61], [43]⟩, ⟨some 43, .load 100 (.tmp 42), 100, none⟩),
 (⟨[44, 43, 4], [34, 35, 36, 37, 38, 39, 40, 41, 42, 43, 44, 45, 46, 47, 48, 49, 50, 51, 52, 53, 54, 55, 56, 57, 58, 59, 60, 61], [44]⟩, ⟨some 44, .call ⟨(.builtin .len), #[(.tmp 43)], #[100]⟩, 3, none⟩),
 (⟨[45, 35, 44, 35, 44], [34, 35, 36, 37, 38, 39, 40, 41, 42, 43, 44, 45, 46, 47, 48, 49, 50, 51, 52, 53, 54, 55, 56, 57, 58, 59, 60, 61], [45]⟩, ⟨some 45, .binOp .neq 3 (.tmp 35) (.tmp 44) 3, 4, none⟩),
 (⟨[46, 45, 45], [34, 35, 36, 37, 38, 39, 40, 41, 42, 43, 44, 45, 46, 47, 48, 49, 50, 51, 52, 53, 54, 55, 56, 57, 58, 59, 60, 61], [46]⟩, ⟨some 46, .move (.tmp 45), 4, none⟩),
 (⟨[47, 3, 3, 46], [34, 35, 36, 37, 38, 39, 40, 41, 42, 43, 44, 45, 46, 47, 48, 49, 50, 51, 52, 53, 54, 55, 56, 57, 58, 59, 60, 61], [47]⟩, ⟨some 47, .fieldAddr 31 (.tmp 3) 2, 0, (some (some 46, false))⟩),
 (⟨[48, 47, 3, 46], [34, 35, 36, 37, 38, 39, 40, 41, 42, 43, 44, 45, 46, 47, 48, 49, 50, 51, 52, 53, 54, 55, 56, 57, 58, 59, 60, 61], [48]⟩, ⟨some 48, .load 23 (.tmp 47), 23, (some (some 46, false))⟩),
 (⟨[49, 7, 7, 46], [34, 35, 36, 37, 38, 39, 40, 41, 42, 43, 44, 45, 46, 47, 48, 49, 50, 51, 52, 53, 54, 55, 56, 57, 58, 59, 60, 61], [49]⟩, ⟨some 49, .move (.tmp 7), 3, (some (some 46, false))⟩),
 (⟨[50, 48, 49, 3, 7, 46], [34, 35, 36, 37, 38, 39, 40, 41, 42, 43, 44, 45, 46, 47, 48, 49, 50, 51, 52, 53, 54, 55, 56, 57, 58, 59, 60, 61], [50]⟩, ⟨some 50, .indexAddr 23 (.tmp 48) (.tmp 49), 0, (some (some 46, false))⟩),
 (⟨[51, 50, 3, 46], [34, 35, 36, 37, 38, 39, 40, 41, 42, 43, 44, 45, 46, 47, 48, 49, 50, 51, 52, 53, 54, 55, 56, 57, 58, 59, 60, 61], [51]⟩, ⟨some 51, .load 3 (.tmp 50), 3, (some (some 46, false))⟩),
 (⟨[52, 4, 4, 46], [34, 35, 36, 37, 38, 39, 40, 41, 42, 43, 44, 45, 46, 47, 48, 49, 50, 51, 52, 53, 54, 55, 56, 57, 58, 59, 60, 61], [52]⟩, ⟨some 52, .fieldAddr 31 (.tmp 4) 2, 0, (some (some 46, false))⟩),
 (⟨[53, 52, 4, 46], [34, 35, 36, 37, 38, 39, 40, 41, 42, 43, 44, 45, 46, 47, 48, 49, 50, 51, 52, 53, 54, 55, 56, 57, 58, 59, 60, 61], [53]⟩, ⟨some 53, .load 23 (.tmp 52), 23, (some (some 46, false))⟩),
 (⟨[54, 2, 2, 46], [34, 35, 36, 37, 38, 39, 40, 41, 42, 43, 44, 45, 46, 47, 48, 49, 50, 51, 52, 53, 54, 55, 56, 57, 58, 59, 60, 61], [54]⟩, ⟨some 54, .move (.tmp 2), 23, (some (some 46, false))⟩),
 (⟨[55, 7, 7, 46], [34, 35, 36, 37, 38, 39, 40, 41, 42, 43, 44, 45, 46, 47, 48, 49, 50, 51, 52, 53, 54, 55, 56, 57, 58, 59, 60, 61], [55]⟩, ⟨some 55, .move (.tmp 7), 3, (some (some 46, false))⟩),
 (⟨[56, 54, 55, 2, 7, 46], [34, 35, 36, 37, 38, 39, 40, 41, 42, 43, 44, 45, 46, 47, 48, 49, 50, 51, 52, 53, 54, 55, 56, 57, 58, 59, 60, 61], [56]⟩, ⟨some 56, .indexAddr 23 (.tmp 54) (.tmp 55), 0, (some (some 46, false))⟩),
 (⟨[57, 56, 2, 46], [34, 35, 36, 37, 38, 39, 40, 41, 42, 43, 44, 45, 46, 47, 48, 49, 50, 51, 52, 53, 54, 55, 56, 57, 58, 59, 60, 61], [57]⟩, ⟨some 57, .load 3 (.tmp 56), 3, (some (some 46, false))⟩),
 (⟨[58, 53, 57, 4, 2, 46], [34, 35, 36, 37, 38, 39, 40, 41, 42, 43, 44, 45, 46, 47, 48, 49, 50, 51, 52, 53, 54, 55, 56, 57, 58, 59, 60, 61], [58]⟩, ⟨some 58, .indexAddr 23 (.tmp 53) (.tmp 57), 0, (some (some 46, false))⟩),
 (⟨[59, 58, 4, 46], [34, 35, 36, 37, 38, 39, 40, 41, 42, 43, 44, 45, 46, 47, 48, 49, 50, 51, 52, 53, 54, 55, 56, 57, 58, 59, 60, 61], [59]⟩, ⟨some 59, .load 3 (.tmp 58), 3, (some (some 46, false))⟩),
 (⟨[60, 51, 59, 3, 4, 46], [34, 35, 36, 37, 38, 39, 40, 41, 42, 43, 44, 45, 46, 47, 48, 49, 50, 51, 52, 53, 54, 55, 56, 57, 58, 59, 60, 61], [60]⟩, ⟨some 60, .binOp .neq 3 (.tmp 51) (.tmp 59) 3, 4, (some (some 46, false))⟩),
 (⟨[61, 46, 60, 45, 60], [34, 35, 36, 37, 38, 39, 40, 41, 42, 43, 44, 45, 46, 47, 48, 49, 50, 51, 52, 53, 54, 55, 56, 57, 58, 59, 60, 61], [61]⟩, ⟨some 61, .pick (.tmp 46) (.const (.bool true)) (.tmp 60), 4, none⟩)])
 (.cond (.tmp 61)
 (.seq
 (.ops [
 ⟨some 6, .assign (.const (.bool false)), 4, none⟩])
 .ret)
 .skip))
 (.seq
 (.ops [
 ⟨some 62, .move (.tmp 8), 100, none⟩,
 ⟨some 63, .call ⟨(.builtin .len), #[(.tmp 62)], #[100]⟩, 3, none⟩,
 ⟨some 64, .move (.const (.int .i64 0)), 3, none⟩])
 (.block 2
 k73_l0)))))
 (.ops [
 ⟨some 90, .binOp .add 3 (.tmp 29) (.const (.int .i64 1)) 3, 3, none⟩,
 ⟨some 29, .move (.tmp 90), 3, none⟩])))
def k73_l1 : SC := .loop k73_l1b
def k73 : SC :=
 .seq
 (.ops [
 ⟨some 3, .box 31 (.tmp 0), 0, none⟩,
 ⟨some 4, .box 31 (.tmp 1), 0, none⟩,
 ⟨some 6, .assign (.const (.bool false)), 4, none⟩])
 (.seq
 (.seq
 (.ops [
 ⟨some 11, .move (.tmp 2), 23, none⟩,
 ⟨some 12, .call ⟨(.builtin .len), #[(.tmp 11)], #[23]⟩, 3, none⟩,
 ⟨some 13, .fieldAddr 31 (.tmp 3) 0, 0, none⟩,
 ⟨some 14, .load 29 (.tmp 13), 29, none⟩,
 ⟨some 15, .call ⟨(.builtin .len), #[(.tmp 14)], #[29]⟩, 3, none⟩,
 ⟨some 16, .binOp .neq 3 (.tmp 12) (.tmp 15) 3, 4, none⟩,
 ⟨some 17, .move (.tmp 16), 4, none⟩,
 ⟨some 18, .move (.tmp 2), 23, (some (some 17, false))⟩,
 ⟨some 19, .fieldAddr 31 (.tmp 4) 0, 0, (some (some 17, false))⟩,
 ⟨some 20, .load 29 (.tmp 19), 29, (some (some 17, false))⟩,
 ⟨some 21, .call ⟨(.builtin .len), #[(.tmp 20)], #[29]⟩, 3, (some (some 17, false))⟩,
 ⟨some 22, .binOp .sub 3 (.tmp 21) (.const (.int .i64 1)) 3, 3, (some (some 17, false))⟩,
 ⟨some 23, .call ⟨(.value (.func 72)), #[(.tmp 18), (.const (.int .i64 0)), (.tmp 22)], #[23, 3, 3]⟩, 4, (some (some 17, false))⟩,
 ⟨some 24, .unOp .not 4 (.tmp 23), 4, (some (some 17, false))⟩,
 ⟨some 25, .pick (.tmp 17) (.const (.bool true)) (.tmp 24), 4, none⟩])
 (.cond (.tmp 25)
 (.seq
 (.ops [
 ⟨some 6, .assign (.const (.bool false)), 4, none⟩])
 .ret)
 .skip))
 (.seq
 (.seq
 (.ops [
 ⟨some 26, .fieldAddr 31 (.tmp 3) 0, 0, none⟩,
 ⟨some 27, .load 29 (.tmp 26), 29, none⟩,
 ⟨some 28, .call ⟨(.builtin .len), #[(.tmp 27)], #[29]⟩, 3, none⟩,
 ⟨some 29, .move (.const (.int .i64 0)), 3, none⟩])
 (.block 0
 k73_l1))
 (.seq
 (.ops [
 ⟨some 6, .assign (.const (.bool true)), 4, none⟩])
 .ret)))
theorem slim73 : Try.f73.body.map (slim lends) = some k73 := by kernel_rfl
theorem ok73 : fnOk Try.f73 3 = true := by kernel_rfl
theorem c73 {a l : List D} {r : D × List D} (h : wpD Y.env k73 (fin tys l.length [ResultVar.tmp 6] r) (entry a l)) (ha : a.length = 3) : Y.call 73 a l = some r :=
 call_slim (Y := Y) rfl Try.func73 (ha ▸ ok73) slim73 h
def s_coMap_l0_M (t0_Ends : List (List (Int × Int))) (t0_Ids t0_Inputs : List Int) (t1_Ends : List (List (Int × Int))) (t1_Ids t1_Inputs t2_ : List Int) (t29_ t64_ : Int) (s : St) : Prop := s.v 2 = D.sl 3 (lst (D.int .i64) t2_) ∧ s.v 3 = D.box [D.sl 100 (lst (fun x => D.sl 102 (cat2 .i64 .i64 x)) t0_Ends), D.sl 3 (lst (D.int .i64) t0_Ids), D.sl 3 (lst (D.int .i64) t0_Inputs)] ∧ s.v 4 = D.box [D.sl 100 (lst (fun x => D.sl 102 (cat2 .i64 .i64 x)) t1_Ends), D.sl 3 (lst (D.int .i64) t1_Ids), D.sl 3 (lst (D.int .i64) t1_Inputs)] ∧ s.v 7 = D.int .i64 t29_ ∧ s.v 27 = D.sl 100 (lst (fun x => D.sl 102 (cat2 .i64 .i64 x)) t0_Ends) ∧ s.v 28 = D.int .i64 (t0_Ends.length : Int) ∧ s.v 29 = D.int .i64 t29_ ∧ s.v 62 = D.sl 102 (cat2 .i64 .i64 (t0_Ends.getD t29_.toNat default)) ∧ s.v 63 = D.int .i64 ((t0_Ends.getD t29_.toNat default).length : Int) ∧ s.v 64 = D.int .i64 t64_
def s_coMap_l0_X (t0_Ends : List (List (Int × Int))) (t0_Ids t0_Inputs : List Int) (t1_Ends : List (List (Int × Int))) (t1_Ids t1_Inputs t2_ : List Int) (t29_ : Int) (r : Unit ⊕ Unit) (ex : Ex) (s : St) : Prop := match r with
 | .inl q => ex = .ret ∧ s.v 6 = D.bool false
 | .inr q => ex = .exit 2 ∧ s.v 2 = D.sl 3 (lst (D.int .i64) t2_) ∧ s.v 3 = D.box [D.sl 100 (lst (fun x => D.sl 102 (cat2 .i64 .i64 x)) t0_Ends), D.sl 3 (lst (D.int .i64) t0_Ids), D.sl 3 (lst (D.int .i64) t0_Inputs)] ∧ s.v 4 = D.box [D.sl 100 (lst (fun x => D.sl 102 (cat2 .i64 .i64 x)) t1_Ends), D.sl 3 (lst (D.int .i64) t1_Ids), D.sl 3 (lst (D.int .i64) t1_Inputs)] ∧ s.v 27 = D.sl 100 (lst (fun x => D.sl 102 (cat2 .i64 .i64 x)) t0_Ends) ∧ s.v 28 = D.int .i64 (t0_Ends.length : Int) ∧ s.v 29 = D.int .i64 t29_
theorem s_coMap_l0_wp (t0_Ends : List (List (Int × Int))) (t0_Ids t0_Inputs : List Int) (t1_Ends : List (List (Int × Int))) (t1_Ids t1_Inputs t2_ : List Int) (t29_ : Int) {v : Int} {s : St} {r : Unit ⊕ Unit} (h : s_coMap_l0 t0_Ends t0_Ids t0_Inputs t1_Ends t1_Ids t1_Inputs t2_ t29_ v = some r) (hM : s_coMap_l0_M t0_Ends t0_Ids t0_Inputs t1_Ends t1_Ids t1_Inputs t2_ t29_ v s) : wpD Y.env k73_l0 (s_coMap_l0_X t0_Ends t0_Ids t0_Inputs t1_Ends t1_Ids t1_Inputs t2_ t29_ r) s := by
 unfold s_coMap_l0 at h
 refine wd_itO (c := k73_l0b) (fun v => s_coMap_l0_S t0_Ends t0_Ids t0_Inputs t1_Ends t1_Ids t1_Inputs t2_ t29_ v) (fun v s => s_coMap_l0_M t0_Ends t0_Ids t0_Inputs t1_Ends t1_Ids t1_Inputs t2_ t29_ v s) (s_coMap_l0_X t0_Ends t0_Ids t0_Inputs t1_Ends t1_Ids t1_Inputs t2_ t29_) ?_ h hM
 clear h hM s v r
 intro t64_ s o hM h
 unfold s_coMap_l0_S at h
 unfold s_coMap_l0_M at hM
 obtain ⟨m0, m1, m2, m3, m4, m5, m6, m7, m8, m9⟩ := hM
 unfold k73_l0b
 by_cases e13 : t64_ < ((t0_Ends.getD t29_.toNat default).length : Int)
 ·rw [if_pos e13] at h
  obtain ⟨e14, h⟩ := ckS h
  obtain ⟨e15, h⟩ := ckS h
  obtain ⟨e16, h⟩ := ckS h
  obtain ⟨e17, h⟩ := ckS h
  obtain ⟨e18, h⟩ := ckS h
  by_cases e19 : (((fstD (t1_Ends.getD ((t2_.getD t29_.toNat default).toNat) default) t64_.toNat) == (t2_.getD ((fstD (t0_Ends.getD t29_.toNat default) t64_.toNat).toNat) default)) && ((sndD (t1_Ends.getD ((t2_.getD t29_.toNat default).toNat) default) t64_.toNat) == (sndD (t0_Ends.getD t29_.toNat default) t64_.toNat))) = true
  ·rw [if_pos e19] at h
   cases h
   simp (maxDischargeDepth := 9) only [↓xpre, xpost, xlst, xc2, xcore, yset, ↓reduceIte, Nat.reduceEqDiff, Nat.reduceLT, Nat.reduceLeDiff, Nat.reduceAdd, Nat.reduceBEq, m0, m1, m2, m3, m4, m5, m6, m7, m8, m9, e13, e14.1, e14.2, e15.1, e15.2, e16.1, e16.2, e17.2, e18.1, e18.2, e19, s_coMap_l0_M, sxN] <;> (repeat' apply And.intro) <;> first | rfl | exact ⟨_, rfl⟩ | exact ⟨_, _, rfl⟩ | simp [lst, cat2_nil]
  ·rw [if_neg e19] at h
   have e19f : (((fstD (t1_Ends.getD ((t2_.getD t29_.toNat default).toNat) default) t64_.toNat) == (t2_.getD ((fstD (t0_Ends.getD t29_.toNat default) t64_.toNat).toNat) default)) && ((sndD (t1_Ends.getD ((t2_.getD t29_.toNat default).toNat) default) t64_.toNat) == (sndD (t0_Ends.getD t29_.toNat default) t64_.toNat))) = false := Bool.eq_false_iff.mpr e19
   cases h
   simp (maxDischargeDepth := 9) only [↓xpre, xpost, xlst, xc2, xcore, yset, ↓reduceIte, Nat.reduceEqDiff, Nat.reduceLT, Nat.reduceLeDiff, Nat.reduceAdd, Nat.reduceBEq, m0, m2, m3, m7, m8, m9, e13, e14.1, e14.2, e15.1, e15.2, e16.1, e16.2, e17.2, e18.1, e18.2, e19f, s_coMap_l0_M, s_coMap_l0_X, sxR] <;> (repeat' apply And.intro) <;> first | rfl | exact ⟨_, rfl⟩ | exact ⟨_, _, rfl⟩ | simp [lst, cat2_nil]
 ·rw [if_neg e13] at h
  cases h
  simp (maxDischargeDepth := 9) only [↓xpre, xpost, yset, ↓reduceIte, Nat.reduceEqDiff, Nat.reduceLT, m0, m1, m2, m4, m5, m6, m8, m9, e13, s_coMap_l0_M, s_coMap_l0_X, sxE] <;> (repeat' apply And.intro) <;> first | rfl | exact ⟨_, rfl⟩ | exact ⟨_, _, rfl⟩ | simp [lst, cat2_nil]
def s_coMap_l1_M (t0_Ends : List (List (Int × Int))) (t0_Ids t0_Inputs : List Int) (t1_Ends : List (List (Int × Int))) (t1_Ids t1_Inputs t2_ : List Int) (t29_ : Int) (s : St) : Prop := s.v 2 = D.sl 3 (lst (D.int .i64) t2_) ∧ s.v 3 = D.box [D.sl 100 (lst (fun x => D.sl 102 (cat2 .i64 .i64 x)) t0_Ends), D.sl 3 (lst (D.int .i64) t0_Ids), D.sl 3 (lst (D.int .i64) t0_Inputs)] ∧ s.v 4 = D.box [D.sl 100 (lst (fun x => D.sl 102 (cat2 .i64 .i64 x)) t1_Ends), D.sl 3 (lst (D.int .i64) t1_Ids), D.sl 3 (lst (D.int .i64) t1_Inputs)] ∧ s.v 27 = D.sl 100 (lst (fun x => D.sl 102 (cat2 .i64 .i64 x)) t0_Ends) ∧ s.v 28 = D.int .i64 (t0_Ends.length : Int) ∧ s.v 29 = D.int .i64 t29_
def s_coMap_l1_X (t0_Ends : List (List (Int × Int))) (t0_Ids t0_Inputs : List Int) (t1_Ends : List (List (Int × Int))) (t1_Ids t1_Inputs t2_ : List Int) (r : Unit ⊕ Unit) (ex : Ex) (s : St) : Prop := match r with
 | .inl q => ex = .ret ∧ s.v 6 = D.bool false
 | .inr q => ex = .exit 0
theorem s_coMap_l1_wp (t0_Ends : List (List (Int × Int))) (t0_Ids t0_Inputs : List Int) (t1_Ends : List (List (Int × Int))) (t1_Ids t1_Inputs t2_ : List Int) {v : Int} {s : St} {r : Unit ⊕ Unit} (h : s_coMap_l1 t0_Ends t0_Ids t0_Inputs t1_Ends t1_Ids t1_Inputs t2_ v = some r) (hM : s_coMap_l1_M t0_Ends t0_Ids t0_Inputs t1_Ends t1_Ids t1_Inputs t2_ v s) : wpD Y.env k73_l1 (s_coMap_l1_X t0_Ends t0_Ids t0_Inputs t1_Ends t1_Ids t1_Inputs t2_ r) s := by
 unfold s_coMap_l1 at h
 refine wd_itO (c := k73_l1b) (fun v => s_coMap_l1_S t0_Ends t0_Ids t0_Inputs t1_Ends t1_Ids t1_Inputs t2_ v) (fun v s => s_coMap_l1_M t0_Ends t0_Ids t0_Inputs t1_Ends t1_Ids t1_Inputs t2_ v s) (s_coMap_l1_X t0_Ends t0_Ids t0_Inputs t1_Ends t1_Ids t1_Inputs t2_) ?_ h hM
 clear h hM s v r
 intro t29_ s o hM h
 unfold s_coMap_l1_S at h
 unfold s_coMap_l1_M at hM
 obtain ⟨m0, m1, m2, m3, m4, m5⟩ := hM
 unfold k73_l1b
 by_cases e5 : t29_ < (t0_Ends.length : Int)
 ·rw [if_pos e5] at h
  obtain ⟨e6, h⟩ := ckS h
  obtain ⟨e7, h⟩ := ckS h
  obtain ⟨e8, h⟩ := ckS h
  by_cases e9 : ((t0_Ends.getD t29_.toNat default).length : Int) = ((t1_Ends.getD ((t2_.getD t29_.toNat default).toNat) default).length : Int)
  ·rw [if_pos e9] at h
   obtain ⟨e10, h⟩ := ckS h
   obtain ⟨e11, h⟩ := ckS h
   by_cases e12 : (t0_Inputs.getD t29_.toNat default) = (t1_Inputs.getD ((t2_.getD t29_.toNat default).toNat) default)
   ·rw [if_pos e12] at h
    obtain ⟨r14_, hl14, h⟩ := bindS h
    try dsimp only at h
    simp (maxDischargeDepth := 9) only [↓xpre, xpost, xlst, xc2, xcore, yset, ↓reduceIte, Nat.reduceEqDiff, Nat.reduceLT, Nat.reduceBEq, m0, m1, m2, m3, m4, m5, e5, e6.1, e6.2, e7.2, e8.1, e8.2, decide_eq_true e9, e10.2, e11.2, decide_eq_true e12]
    refine wd_mono (s_coMap_l0_wp t0_Ends t0_Ids t0_Inputs t1_Ends t1_Ids t1_Inputs t2_ t29_ hl14 ?_) ?_
    ·simp (maxDischargeDepth := 9) only [xpost, ↓reduceIte, Nat.reduceEqDiff, m0, m1, m2, m3, m4, m5, s_coMap_l0_M] <;> (repeat' apply And.intro) <;> first | rfl | exact ⟨_, rfl⟩ | exact ⟨_, _, rfl⟩ | simp [lst, cat2_nil]
    ·intro ex14 s14 hX14
     rcases r14_ with q14_ | q14_
     ·unfold s_coMap_l0_X at hX14
      dsimp only at hX14 h
      obtain ⟨rfl, n14_0⟩ := hX14
      cases h
      simp (maxDischargeDepth := 9) only [↓xpre, xpost, n14_0, s_coMap_l1_M, s_coMap_l1_X, sxR] <;> (repeat' apply And.intro) <;> first | rfl | exact ⟨_, rfl⟩ | exact ⟨_, _, rfl⟩ | simp [lst, cat2_nil]
     ·unfold s_coMap_l0_X at hX14
      dsimp only at hX14 h
      obtain ⟨rfl, n14_0, n14_1, n14_2, n14_3, n14_4, n14_5⟩ := hX14
      cases h
      simp (maxDischargeDepth := 9) only [↓xpre, xpost, yset, ↓reduceIte, Nat.reduceEqDiff, Nat.reduceLT, n14_0, n14_1, n14_2, n14_3, n14_4, n14_5, s_coMap_l1_M, sxN] <;> (repeat' apply And.intro) <;> first | rfl | exact ⟨_, rfl⟩ | exact ⟨_, _, rfl⟩ | simp [lst, cat2_nil]
   ·rw [if_neg e12] at h
    cases h
    simp (maxDischargeDepth := 9) only [↓xpre, xpost, xlst, xc2, xcore, yset, ↓reduceIte, Nat.reduceEqDiff, Nat.reduceLT, Nat.reduceBEq, m0, m1, m2, m3, m4, m5, e5, e6.1, e6.2, e7.2, e8.1, e8.2, decide_eq_true e9, e10.2, e11.2, e12, s_coMap_l1_M, s_coMap_l1_X, sxR] <;> (repeat' apply And.intro) <;> first | rfl | exact ⟨_, rfl⟩ | exact ⟨_, _, rfl⟩ | simp [lst, cat2_nil]
  ·rw [if_neg e9] at h
   cases h
   simp (maxDischargeDepth := 9) only [↓xpre, xpost, xlst, xc2, xcore, yset, ↓reduceIte, Nat.reduceEqDiff, Nat.reduceLT, Nat.reduceBEq, m0, m2, m3, m4, m5, e5, e6.1, e6.2, e7.2, e8.1, e8.2, e9, s_coMap_l1_M, s_coMap_l1_X, sxR] <;> (repeat' apply And.intro) <;> first | rfl | exact ⟨_, rfl⟩ | exact ⟨_, _, rfl⟩ | simp [lst, cat2_nil]
 ·rw [if_neg e5] at h
  cases h
  simp (maxDischargeDepth := 9) only [↓xpre, xpost, yset, ↓reduceIte, Nat.reduceLT, m4, m5, e5, s_coMap_l1_M, s_coMap_l1_X, sxE] <;> (repeat' apply And.intro) <;> first | rfl | exact ⟨_, rfl⟩ | exact ⟨_, _, rfl⟩ | simp [lst, cat2_nil]
theorem s_coMap_call (t0_Ends : List (List (Int × Int))) (t0_Ids t0_Inputs : List Int) (t1_Ends : List (List (Int × Int))) (t1_Ids t1_Inputs t2_ : List Int) {r : Bool} (h : s_coMap t0_Ends t0_Ids t0_Inputs t1_Ends t1_Ids t1_Inputs t2_ = some r) : Y.call 73 [D.agg [D.sl 100 (lst (fun x => D.sl 102 (cat2 .i64 .i64 x)) t0_Ends), D.sl 3 (lst (D.int .i64) t0_Ids), D.sl 3 (lst (D.int .i64) t0_Inputs)], D.agg [D.sl 100 (lst (fun x => D.sl 102 (cat2 .i64 .i64 x)) t1_Ends), D.sl 3 (lst (D.int .i64) t1_Ids), D.sl 3 (lst (D.int .i64) t1_Inputs)], D.sl 3 (lst (D.int .i64) t2_)] [] = some (D.bool r, []) := by
 refine c73 ?_ rfl
 unfold k73
 unfold s_coMap at h
 by_cases e1 : (t2_.length : Int) = (t0_Ends.length : Int)
 ·rw [if_pos e1] at h
  obtain ⟨e2, h⟩ := ckS h
  have c3 := s_l1All_cl t2_ (0 : Int) (IntKind.i64.wrap ((t1_Ends.length : Int) - 1)) e2
  by_cases e4 : (allIn t2_ (0 : Int) (IntKind.i64.wrap ((t1_Ends.length : Int) - 1))) = true
  ·rw [if_pos e4] at h
   obtain ⟨r6_, hl6, h⟩ := bindS h
   try dsimp only at h
   simp (maxDischargeDepth := 9) only [↓xpre, xpost, xlst, xcore, yset, ↓reduceIte, Nat.reduceEqDiff, Nat.reduceLT, Nat.reduceAdd, decide_eq_true e1, c3, e4]
   refine wd_mono (s_coMap_l1_wp t0_Ends t0_Ids t0_Inputs t1_Ends t1_Ids t1_Inputs t2_ hl6 ?_) ?_
   ·simp (maxDischargeDepth := 9) only [xpost, xcore, ↓reduceIte, Nat.reduceEqDiff, Nat.reduceLT, s_coMap_l1_M] <;> (repeat' apply And.intro) <;> first | rfl | exact ⟨_, rfl⟩ | exact ⟨_, _, rfl⟩ | simp [lst, cat2_nil]
   ·intro ex6 s6 hX6
    rcases r6_ with q6_ | q6_
    ·unfold s_coMap_l1_X at hX6
     dsimp only at hX6 h
     obtain ⟨rfl, n6_0⟩ := hX6
     cases h
     simp (maxDischargeDepth := 9) only [↓xpre, xpost, xcore, ↓reduceIte, n6_0] <;> (repeat' apply And.intro) <;> first | rfl | exact ⟨_, rfl⟩ | exact ⟨_, _, rfl⟩ | simp [lst, cat2_nil]
    ·unfold s_coMap_l1_X at hX6
     dsimp only at hX6 h
     obtain rfl := hX6
     cases h
     simp (maxDischargeDepth := 9) only [↓xpre, xpost, xcore, yset, ↓reduceIte, Nat.reduceEqDiff, Nat.reduceLT] <;> (repeat' apply And.intro) <;> first | rfl | exact ⟨_, rfl⟩ | exact ⟨_, _, rfl⟩ | simp [lst, cat2_nil]
  ·rw [if_neg e4] at h
   have e4f : (allIn t2_ (0 : Int) (IntKind.i64.wrap ((t1_Ends.length : Int) - 1))) = false := Bool.eq_false_iff.mpr e4
   cases h
   simp (maxDischargeDepth := 9) only [↓xpre, xpost, xlst, xcore, yset, ↓reduceIte, Nat.reduceEqDiff, Nat.reduceLT, Nat.reduceAdd, decide_eq_true e1, c3, e4f] <;> (repeat' apply And.intro) <;> first | rfl | exact ⟨_, rfl⟩ | exact ⟨_, _, rfl⟩ | simp [lst, cat2_nil]
 ·rw [if_neg e1] at h
  cases h
  simp (maxDischargeDepth := 9) only [↓xpre, xpost, xlst, xcore, yset, ↓reduceIte, Nat.reduceEqDiff, Nat.reduceLT, Nat.reduceAdd, e1] <;> (repeat' apply And.intro) <;> first | rfl | exact ⟨_, rfl⟩ | exact ⟨_, _, rfl⟩ | simp [lst, cat2_nil]

noncomputable def s_coFibres_l0_S (m_ : List Int) (out : List (List Int)) (t14_ : Int) : Option (((List (List Int)) × Int) ⊕ ((List (List Int)))) :=
 if t14_ < (m_.length : Int) then
  ck (0 ≤ t14_ ∧ t14_.toNat < m_.length) <|
  ck (0 ≤ (m_.getD t14_.toNat default) ∧ (m_.getD t14_.toNat default).toNat < out.length) <|
  ck ((out.getD ((m_.getD t14_.toNat default).toNat) default).length + 1 < 1099511627776) <|
  some (Sum.inl ((out.set ((m_.getD t14_.toNat default).toNat) ((out.getD ((m_.getD t14_.toNat default).toNat) default) ++ [t14_])), IntKind.i64.wrap (t14_ + 1)))
 else
  some (Sum.inr out)
noncomputable def s_coFibres_l0 (m_ : List Int) (v : (List (List Int)) × Int) : Option ((List (List Int))) := itO (fun v => s_coFibres_l0_S m_ v.1 v.2) v
noncomputable def s_coFibres (b_Ends : List (List (Int × Int))) (b_Ids b_Inputs m_ : List Int) : Option ((List (List Int))) :=
 ck (0 ≤ (b_Ends.length : Int) ∧ (b_Ends.length : Int) < 1099511627776) <|
 (s_coFibres_l0 m_ ((List.replicate b_Ends.length []), 0)).bind fun r3_ =>
 some r3_
/-- spec.coFibres -/
def k124_l0b : SC :=
 .seq
 (.ops [
 ⟨some 15, .binOp .lss 3 (.tmp 14) (.tmp 13) 3, 0, none⟩])
 (.seq
 (.cond (.tmp 15)
 .skip
 (.exit 0))
 (.seq
 (.block 1
 (.seq
 (.ops [
 ⟨some 16, .move (.tmp 14), 3, none⟩,
 ⟨some 17, .indexAddr 23 (.tmp 12) (.tmp 14), 0, none⟩,
 ⟨some 18, .load 3 (.tmp 17), 3, none⟩,
 ⟨some 6, .assign (.tmp 16), 3, none⟩,
 ⟨some 7, .assign (.tmp 18), 3, none⟩])
 (.ops [
 ⟨some 19, .move (.tmp 5), 44, none⟩,
 ⟨some 20, .move (.tmp 7), 3, none⟩,
 ⟨some 21, .move (.tmp 5), 44, none⟩,
 ⟨some 22, .move (.tmp 7), 3, none⟩,
 ⟨some 23, .indexAddr 44 (.tmp 21) (.tmp 22), 0, none⟩,
 ⟨some 24, .load 23 (.tmp 23), 23, none⟩,
 ⟨some 25, .move (.tmp 6), 3, none⟩,
 ⟨some 26, .buildSlice 23 1 #[(0, (.tmp 25))], 23, none⟩,
 ⟨some 27, .call ⟨(.builtin .append), #[(.tmp 24), (.tmp 26)], #[23, 23]⟩, 23, none⟩,
 ⟨some 28, .indexAddr 44 (.tmp 19) (.tmp 20), 0, none⟩,
 ⟨none, .store 23 (.tmp 28) (.tmp 27), 0, none⟩])))
 (.ops [
 ⟨some 29, .binOp .add 3 (.tmp 14) (.const (.int .i64 1)) 3, 3, none⟩,
 ⟨some 14, .move (.tmp 29), 3, none⟩])))
def k124_l0 : SC := .loop k124_l0b
def k124 : SC :=
 .seq
 (.ops [
 ⟨some 2, .box 31 (.tmp 0), 0, none⟩,
 ⟨some 4, .assign (.const (.slice none 0 0)), 44, none⟩])
 (.seq
 (.ops [
 ⟨some 8, .fieldAddr 31 (.tmp 2) 0, 0, none⟩,
 ⟨some 9, .load 29 (.tmp 8), 29, none⟩,
 ⟨some 10, .call ⟨(.builtin .len), #[(.tmp 9)], #[29]⟩, 3, none⟩,
 ⟨some 11, .makeSlice 44 (.tmp 10) (.tmp 10), 44, none⟩,
 ⟨some 5, .assign (.tmp 11), 44, none⟩])
 (.seq
 (.seq
 (.ops [
 ⟨some 12, .move (.tmp 1), 23, none⟩,
 ⟨some 13, .call ⟨(.builtin .len), #[(.tmp 12)], #[23]⟩, 3, none⟩,
 ⟨some 14, .move (.const (.int .i64 0)), 3, none⟩])
 (.block 0
 k124_l0))
 (.seq
 (.ops [
 ⟨some 30, .move (.tmp 5), 44, none⟩,
 ⟨some 4, .assign (.tmp 30), 44, none⟩])
 .ret)))
theorem slim124 : Try.f124.body.map (slim lends) = some k124 := by kernel_rfl
theorem ok124 : fnOk Try.f124 2 = true := by kernel_rfl
theorem c124 {a l : List D} {r : D × List D} (h : wpD Y.env k124 (fin tys l.length [ResultVar.tmp 4] r) (entry a l)) (ha : a.length = 2) : Y.call 124 a l = some r :=
 call_slim (Y := Y) rfl Try.func124 (ha ▸ ok124) slim124 h
def s_coFibres_l0_M (m_ : List Int) (out : List (List Int)) (t14_ : Int) (s : St) : Prop := s.v 5 = D.own 23 (lst (fun x => D.own 3 (lst (D.int .i64) x)) out) ∧ s.v 12 = D.sl 3 (lst (D.int .i64) m_) ∧ s.v 13 = D.int .i64 (m_.length : Int) ∧ s.v 14 = D.int .i64 t14_
def s_coFibres_l0_X (m_ : List Int) (r : (List (List Int))) (ex : Ex) (s : St) : Prop := ex = .exit 0 ∧ s.v 5 = D.own 23 (lst (fun x => D.own 3 (lst (D.int .i64) x)) r)
theorem s_coFibres_l0_wp (m_ : List Int) {v : (List (List Int)) × Int} {s : St} {r : (List (List Int))} (h : s_coFibres_l0 m_ v = some r) (hM : s_coFibres_l0_M m_ v.1 v.2 s) : wpD Y.env k124_l0 (s_coFibres_l0_X m_ r) s := by
 unfold s_coFibres_l0 at h
 refine wd_itO (c := k124_l0b) (fun v => s_coFibres_l0_S m_ v.1 v.2) (fun v s => s_coFibres_l0_M m_ v.1 v.2 s) (s_coFibres_l0_X m_) ?_ h hM
 clear h hM s v r
 intro v s o hM h
 obtain ⟨out, t14_⟩ := v
 dsimp only at h hM
 unfold s_coFibres_l0_S at h
 unfold s_coFibres_l0_M at hM
 obtain ⟨m0, m1, m2, m3⟩ := hM
 unfold k124_l0b
 by_cases e2 : t14_ < (m_.length : Int)
 ·rw [if_pos e2] at h
  obtain ⟨e3, h⟩ := ckS h
  obtain ⟨e4, h⟩ := ckS h
  obtain ⟨e5, h⟩ := ckS h
  cases h
  simp (maxDischargeDepth := 9) only [↓xpre, xpost, xlst, xc2, xcore, yset, ↓reduceIte, Nat.reduceEqDiff, Nat.reduceLT, Nat.reduceLeDiff, Nat.reduceAdd, m0, m1, m2, m3, e2, e3.1, e3.2, e4.1, e4.2, e5, s_coFibres_l0_M, sxN] <;> (repeat' apply And.intro) <;> first | rfl | exact ⟨_, rfl⟩ | exact ⟨_, _, rfl⟩ | simp [lst, cat2_nil]
 ·rw [if_neg e2] at h
  cases h
  simp (maxDischargeDepth := 9) only [↓xpre, xpost, yset, ↓reduceIte, Nat.reduceEqDiff, Nat.reduceLT, m0, m2, m3, e2, s_coFibres_l0_M, s_coFibres_l0_X, sxE] <;> (repeat' apply And.intro) <;> first | rfl | exact ⟨_, rfl⟩ | exact ⟨_, _, rfl⟩ | simp [lst, cat2_nil]
theorem s_coFibres_call (b_Ends : List (List (Int × Int))) (b_Ids b_Inputs m_ : List Int) {r : (List (List Int))} (h : s_coFibres b_Ends b_Ids b_Inputs m_ = some r) : Y.call 124 [D.agg [D.sl 100 (lst (fun x => D.sl 102 (cat2 .i64 .i64 x)) b_Ends), D.sl 3 (lst (D.int .i64) b_Ids), D.sl 3 (lst (D.int .i64) b_Inputs)], D.sl 3 (lst (D.int .i64) m_)] [] = some (D.own 23 (lst (fun x => D.own 3 (lst (D.int .i64) x)) r), []) := by
 refine c124 ?_ rfl
 unfold k124
 unfold s_coFibres at h
 obtain ⟨e1, h⟩ := ckS h
 obtain ⟨r3_, hl3, h⟩ := bindS h
 try dsimp only at h
 simp (maxDischargeDepth := 9) only [↓xpre, xpost, xlst, xcore, yset, ↓reduceIte, Nat.reduceEqDiff, Nat.reduceLT, Nat.reduceLeDiff, Nat.reduceAdd, e1.1, e1.2]
 refine wd_mono (s_coFibres_l0_wp m_ hl3 ?_) ?_
 ·simp (maxDischargeDepth := 9) only [xpost, ↓reduceIte, Nat.reduceEqDiff, s_coFibres_l0_M] <;> (repeat' apply And.intro) <;> first | rfl | exact ⟨_, rfl⟩ | exact ⟨_, _, rfl⟩ | simp [lst, cat2_nil]
 ·intro ex3 s3 hX3
  unfold s_coFibres_l0_X at hX3
  obtain ⟨rfl, n3_0⟩ := hX3
  cases h
  simp (maxDischargeDepth := 9) only [↓xpre, xpost, xlst, xcore, ↓reduceIte, Nat.reduceEqDiff, Nat.reduceLT, n3_0] <;> (repeat' apply And.intro) <;> first | rfl | exact ⟨_, rfl⟩ | exact ⟨_, _, rfl⟩ | simp [lst, cat2_nil]

noncomputable def s_coOnto_l0_S (r1_ : (List (List Int))) (t11_ : Int) : Option ((Int) ⊕ (Unit ⊕ Unit)) :=
 if t11_ < (r1_.length : Int) then
  ck (0 ≤ t11_ ∧ t11_.toNat < r1_.length) <|
  if ((r1_.getD t11_.toNat default).length : Int) = 0 then
   some (Sum.inr (Sum.inl ()))
  else
   some (Sum.inl (IntKind.i64.wrap (t11_ + 1)))
 else
  some (Sum.inr (Sum.inr ()))
noncomputable def s_coOnto_l0 (r1_ : (List (List Int))) (v : Int) : Option (Unit ⊕ Unit) := itO (fun v => s_coOnto_l0_S r1_ v) v
noncomputable def s_coOnto (b_Ends : List (List (Int × Int))) (b_Ids b_Inputs m_ : List Int) : Option (Bool) :=
 (s_coFibres b_Ends b_Ids b_Inputs m_).bind fun r1_ =>
 (s_coOnto_l0 r1_ 0).bind fun r3_ =>
 match r3_ with
 | .inl q3_ =>
  some false
 | .inr q3_ =>
  some true
/-- spec.coOnto -/
def k74_l0b : SC :=
 .seq
 (.ops [
 ⟨some 12, .binOp .lss 3 (.tmp 11) (.tmp 10) 3, 0, none⟩])
 (.seq
 (.cond (.tmp 12)
 .skip
 (.exit 0))
 (.seq
 (.block 1
 (.seq
 (.ops [
 ⟨some 13, .indexAddr 44 (.tmp 9) (.tmp 11), 0, none⟩,
 ⟨some 14, .load 23 (.tmp 13), 23, none⟩,
 ⟨some 6, .assign (.tmp 14), 23, none⟩])
 (.seq
 (.ops [
 ⟨some 15, .move (.tmp 6), 23, none⟩,
 ⟨some 16, .call ⟨(.builtin .len), #[(.tmp 15)], #[23]⟩, 3, none⟩,
 ⟨some 17, .binOp .eql 3 (.tmp 16) (.const (.int .i64 0)) 3, 4, none⟩])
 (.cond (.tmp 17)
 (.seq
 (.ops [
 ⟨some 4, .assign (.const (.bool false)), 4, none⟩])
 .ret)
 .skip))))
 (.ops [
 ⟨some 18, .binOp .add 3 (.tmp 11) (.const (.int .i64 1)) 3, 3, none⟩,
 ⟨some 11, .move (.tmp 18), 3, none⟩])))
def k74_l0 : SC := .loop k74_l0b
def k74 : SC :=
 .seq
 (.ops [
 ⟨some 2, .box 31 (.tmp 0), 0, none⟩,
 ⟨some 4, .assign (.const (.bool false)), 4, none⟩])
 (.seq
 (.seq
 (.ops [
 ⟨some 7, .load 31 (.tmp 2), 31, none⟩,
 ⟨some 8, .move (.tmp 1), 23, none⟩,
 ⟨some 9, .call ⟨(.value (.func 124)), #[(.tmp 7), (.tmp 8)], #[31, 23]⟩, 44, none⟩,
 ⟨some 10, .call ⟨(.builtin .len), #[(.tmp 9)], #[44]⟩, 3, none⟩,
 ⟨some 11, .move (.const (.int .i64 0)), 3, none⟩])
 (.block 0
 k74_l0))
 (.seq
 (.ops [
 ⟨some 4, .assign (.const (.bool true)), 4, none⟩])
 .ret))
theorem slim74 : Try.f74.body.map (slim lends) = some k74 := by kernel_rfl
theorem ok74 : fnOk Try.f74 2 = true := by kernel_rfl
theorem c74 {a l : List D} {r : D × List D} (h : wpD Y.env k74 (fin tys l.length [ResultVar.tmp 4] r) (entry a l)) (ha : a.length = 2) : Y.call 74 a l = some r :=
 call_slim (Y := Y) rfl Try.func74 (ha ▸ ok74) slim74 h
def s_coOnto_l0_M (r1_ : (List (List Int))) (t11_ : Int) (s : St) : Prop := s.v 9 = D.own 23 (lst (fun x => D.own 3 (lst (D.int .i64) x)) r1_) ∧ s.v 10 = D.int .i64 (r1_.length : Int) ∧ s.v 11 = D.int .i64 t11_
def s_coOnto_l0_X (r1_ : (List (List Int))) (r : Unit ⊕ Unit) (ex : Ex) (s : St) : Prop := match r with
 | .inl q => ex = .ret ∧ s.v 4 = D.bool false
 | .inr q => ex = .exit 0
theorem s_coOnto_l0_wp (r1_ : (List (List Int))) {v : Int} {s : St} {r : Unit ⊕ Unit} (h : s_coOnto_l0 r1_ v = some r) (hM : s_coOnto_l0_M r1_ v s) : wpD Y.env k74_l0 (s_coOnto_l0_X r1_ r) s := by
 unfold s_coOnto_l0 at h
 refine wd_itO (c := k74_l0b) (fun v => s_coOnto_l0_S r1_ v) (fun v s => s_coOnto_l0_M r1_ v s) (s_coOnto_l0_X r1_) ?_ h hM
 clear h hM s v r
 intro t11_ s o hM h
 unfold s_coOnto_l0_S at h
 unfold s_coOnto_l0_M at hM
 obtain ⟨m0, m1, m2⟩ := hM
 unfold k74_l0b
 by_cases e2 : t11_ < (r1_.length : Int)
 ·rw [if_pos e2] at h
  obtain ⟨e3, h⟩ := ckS h
  by_cases e4 : ((r1_.getD t11_.toNat default).length : Int) = 0
  ·rw [if_pos e4] at h
   cases h
   simp (maxDischargeDepth := 9) only [↓xpre, xpost, xlst, xcore, yset, ↓reduceIte, Nat.reduceEqDiff, Nat.reduceLT, m0, m1, m2, e2, e3.1, e3.2, decide_eq_true e4, s_coOnto_l0_M, s_coOnto_l0_X, sxR] <;> (repeat' apply And.intro) <;> first | rfl | exact ⟨_, rfl⟩ | exact ⟨_, _, rfl⟩ | simp [lst, cat2_nil]
  ·rw [if_neg e4] at h
   cases h
   simp (maxDischargeDepth := 9) only [↓xpre, xpost, xlst, xcore, yset, ↓reduceIte, Nat.reduceEqDiff, Nat.reduceLT, m0, m1, m2, e2, e3.1, e3.2, e4, s_coOnto_l0_M, sxN] <;> (repeat' apply And.intro) <;> first | rfl | exact ⟨_, rfl⟩ | exact ⟨_, _, rfl⟩ | simp [lst, cat2_nil]
 ·rw [if_neg e2] at h
  cases h
  simp (maxDischargeDepth := 9) only [↓xpre, xpost, yset, ↓reduceIte, Nat.reduceLT, m1, m2, e2, s_coOnto_l0_M, s_coOnto_l0_X, sxE] <;> (repeat' apply And.intro) <;> first | rfl | exact ⟨_, rfl⟩ | exact ⟨_, _, rfl⟩ | simp [lst, cat2_nil]
theorem s_coOnto_call (b_Ends : List (List (Int × Int))) (b_Ids b_Inputs m_ : List Int) {r : Bool} (h : s_coOnto b_Ends b_Ids b_Inputs m_ = some r) : Y.call 74 [D.agg [D.sl 100 (lst (fun x => D.sl 102 (cat2 .i64 .i64 x)) b_Ends), D.sl 3 (lst (D.int .i64) b_Ids), D.sl 3 (lst (D.int .i64) b_Inputs)], D.sl 3 (lst (D.int .i64) m_)] [] = some (D.bool r, []) := by
 refine c74 ?_ rfl
 unfold k74
 unfold s_coOnto at h
 obtain ⟨r1_, hl1, h⟩ := bindS h
 try dsimp only at h
 have c1 := s_coFibres_call b_Ends b_Ids b_Inputs m_ hl1
 obtain ⟨r3_, hl3, h⟩ := bindS h
 try dsimp only at h
 simp (maxDischargeDepth := 9) only [↓xpre, xpost, xlst, xcore, yset, ↓reduceIte, Nat.reduceEqDiff, Nat.reduceLT, Nat.reduceAdd, c1]
 refine wd_mono (s_coOnto_l0_wp r1_ hl3 ?_) ?_
 ·simp (maxDischargeDepth := 9) only [xpost, ↓reduceIte, Nat.reduceEqDiff, s_coOnto_l0_M] <;> (repeat' apply And.intro) <;> first | rfl | exact ⟨_, rfl⟩ | exact ⟨_, _, rfl⟩ | simp [lst, cat2_nil]
 ·intro ex3 s3 hX3
  rcases r3_ with q3_ | q3_
  ·unfold s_coOnto_l0_X at hX3
   dsimp only at hX3 h
   obtain ⟨rfl, n3_0⟩ := hX3
   cases h
   simp (maxDischargeDepth := 9) only [↓xpre, xpost, xcore, ↓reduceIte, n3_0] <;> (repeat' apply And.intro) <;> first | rfl | exact ⟨_, rfl⟩ | exact ⟨_, _, rfl⟩ | simp [lst, cat2_nil]
  ·unfold s_coOnto_l0_X at hX3
   dsimp only at hX3 h
   obtain rfl := hX3
   cases h
   simp (maxDischargeDepth := 9) only [↓xpre, xpost, xcore, yset, ↓reduceIte, Nat.reduceEqDiff, Nat.reduceLT] <;> (repeat' apply And.intro) <;> first | rfl | exact ⟨_, rfl⟩ | exact ⟨_, _, rfl⟩ | simp [lst, cat2_nil]

noncomputable def s_IsCovering (a_Ends : List (List (Int × Int))) (a_Ids a_Inputs : List Int) (b_Ends : List (List (Int × Int))) (b_Ids b_Inputs m_ : List Int) : Option (Bool × Bool) :=
 ck (ShortE a_Ends) <|
 ck (a_Ids.length < 1099511627776) <|
 ck (a_Inputs.length < 1099511627776) <|
 if (isNet a_Ends a_Ids a_Inputs) = true then
  ck (ShortE b_Ends) <|
  ck (b_Ids.length < 1099511627776) <|
  ck (b_Inputs.length < 1099511627776) <|
  if (isNet b_Ends b_Ids b_Inputs) = true then
   (s_coMap a_Ends a_Ids a_Inputs b_Ends b_Ids b_Inputs m_).bind fun r11_ =>
   if r11_ = true then
    (s_coOnto b_Ends b_Ids b_Inputs m_).bind fun r13_ =>
    some (r13_, true)
   else
    some (false, true)
  else
   some (false, false)
 else
  some (false, false)
/-- spec.IsCovering -/
def k34 : SC :=
 .seq
 (.ops [
 ⟨some 3, .box 31 (.tmp 0), 0, none⟩,
 ⟨some 4, .box 31 (.tmp 1), 0, none⟩,
 ⟨some 6, .assign (.const (.bool false)), 4, none⟩,
 ⟨some 7, .assign (.const (.bool false)), 4, none⟩])
 (.seq
 (.seq
 (.ops [
 ⟨some 8, .load 31 (.tmp 3), 31, none⟩,
 ⟨some 9, .call ⟨(.value (.func 33)), #[(.tmp 8)], #[31]⟩, 4, none⟩,
 ⟨some 10, .unOp .not 4 (.tmp 9), 4, none⟩,
 ⟨some 11, .move (.tmp 10), 4, none⟩,
 ⟨some 12, .load 31 (.tmp 4), 31, (some (some 11, false))⟩,
 ⟨some 13, .call ⟨(.value (.func 33)), #[(.tmp 12)], #[31]⟩, 4, (some (some 11, false))⟩,
 ⟨some 14, .unOp .not 4 (.tmp 13), 4, (some (some 11, false))⟩,
 ⟨some 15, .pick (.tmp 11) (.const (.bool true)) (.tmp 14), 4, none⟩])
 (.cond (.tmp 15)
 (.seq
 (.ops [
 ⟨some 6, .assign (.const (.bool false)), 4, none⟩,
 ⟨some 7, .assign (.const (.bool false)), 4, none⟩])
 .ret)
 .skip))
 (.seq
 (.ops [
 ⟨some 16, .load 31 (.tmp 3), 31, none⟩,
 ⟨some 17, .load 31 (.tmp 4), 31, none⟩,
 ⟨some 18, .move (.tmp 2), 23, none⟩,
 ⟨some 19, .call ⟨(.value (.func 73)), #[(.tmp 16), (.tmp 17), (.tmp 18)], #[31, 31, 23]⟩, 4, none⟩,
 ⟨some 20, .move (.tmp 19), 4, none⟩,
 ⟨some 21, .load 31 (.tmp 4), 31, (some (some 20, true))⟩,
 ⟨some 22, .move (.tmp 2), 23, (some (some 20, true))⟩,
 ⟨some 23, .call ⟨(.value (.func 74)), #[(.tmp 21), (.tmp 22)], #[31, 23]⟩, 4, (some (some 20, true))⟩,
 ⟨some 24, .pick (.tmp 20) (.tmp 23) (.const (.bool false)), 4, none⟩,
 ⟨some 6, .assign (.tmp 24), 4, none⟩,
 ⟨some 7, .assign (.const (.bool true)), 4, none⟩])
 .ret))
theorem slim34 : Try.f34.body.map (slim lends) = some k34 := by kernel_rfl
theorem ok34 : fnOk Try.f34 3 = true := by kernel_rfl
theorem c34 {a l : List D} {r : D × List D} (h : wpD Y.env k34 (fin tys l.length [ResultVar.tmp 6, ResultVar.tmp 7] r) (entry a l)) (ha : a.length = 3) : Y.call 34 a l = some r :=
 call_slim (Y := Y) rfl Try.func34 (ha ▸ ok34) slim34 h
theorem s_IsCovering_call (a_Ends : List (List (Int × Int))) (a_Ids a_Inputs : List Int) (b_Ends : List (List (Int × Int))) (b_Ids b_Inputs m_ : List Int) {r : Bool × Bool} (h : s_IsCovering a_Ends a_Ids a_Inputs b_Ends b_Ids b_Inputs m_ = some r) : Y.call 34 [D.agg [D.sl 100 (lst (fun x => D.sl 102 (cat2 .i64 .i64 x)) a_Ends), D.sl 3 (lst (D.int .i64) a_Ids), D.sl 3 (lst (D.int .i64) a_Inputs)], D.agg [D.sl 100 (lst (fun x => D.sl 102 (cat2 .i64 .i64 x)) b_Ends), D.sl 3 (lst (D.int .i64) b_Ids), D.sl 3 (lst (D.int .i64) b_Inputs)], D.sl 3 (lst (D.int .i64) m_)] [] = some (D.tup [D.bool r.1, D.bool r.2], []) := by
 refine c34 ?_ rfl
 unfold k34
 unfold s_IsCovering at h
 obtain ⟨e1, h⟩ := ckS h
 obtain ⟨e2, h⟩ := ckS h
 obtain ⟨e3, h⟩ := ckS h
 have c4 := s_neGood_cl a_Ends a_Ids a_Inputs e1 e2 e3
 by_cases e5 : (isNet a_Ends a_Ids a_Inputs) = true
 ·rw [if_pos e5] at h
  obtain ⟨e6, h⟩ := ckS h
  obtain ⟨e7, h⟩ := ckS h
  obtain ⟨e8, h⟩ := ckS h
  have c9 := s_neGood_cl b_Ends b_Ids b_Inputs e6 e7 e8
  by_cases e10 : (isNet b_Ends b_Ids b_Inputs) = true
  ·rw [if_pos e10] at h
   obtain ⟨r11_, hl11, h⟩ := bindS h
   try dsimp only at h
   have c11 := s_coMap_call a_Ends a_Ids a_Inputs b_Ends b_Ids b_Inputs m_ hl11
   by_cases e12 : r11_ = true
   ·rw [if_pos e12] at h
    obtain ⟨r13_, hl13, h⟩ := bindS h
    try dsimp only at h
    have c13 := s_coOnto_call b_Ends b_Ids b_Inputs m_ hl13
    cases h
    simp (maxDischargeDepth := 9) only [↓xpre, xpost, xcore, yset, ↓reduceIte, Nat.reduceEqDiff, Nat.reduceLT, Nat.reduceAdd, c4, e5, c9, e10, c11, e12, c13] <;> (repeat' apply And.intro) <;> first | rfl | exact ⟨_, rfl⟩ | exact ⟨_, _, rfl⟩ | simp [lst, cat2_nil]
   ·rw [if_neg e12] at h
    have e12f : r11_ = false := Bool.eq_false_iff.mpr e12
    cases h
    simp (maxDischargeDepth := 9) only [↓xpre, xpost, xcore, yset, ↓reduceIte, Nat.reduceEqDiff, Nat.reduceLT, Nat.reduceAdd, c4, e5, c9, e10, c11, e12f] <;> (repeat' apply And.intro) <;> first | rfl | exact ⟨_, rfl⟩ | exact ⟨_, _, rfl⟩ | simp [lst, cat2_nil]
  ·rw [if_neg e10] at h
   have e10f : (isNet b_Ends b_Ids b_Inputs) = false := Bool.eq_false_iff.mpr e10
   cases h
   simp (maxDischargeDepth := 9) only [↓xpre, xpost, xcore, yset, ↓reduceIte, Nat.reduceEqDiff, Nat.reduceLT, Nat.reduceAdd, c4, e5, c9, e10f] <;> (repeat' apply And.intro) <;> first | rfl | exact ⟨_, rfl⟩ | exact ⟨_, _, rfl⟩ | simp [lst, cat2_nil]
 ·rw [if_neg e5] at h
  have e5f : (isNet a_Ends a_Ids a_Inputs) = false := Bool.eq_false_iff.mpr e5
  cases h
  simp (maxDischargeDepth := 9) only [↓xpre, xpost, xcore, yset, ↓reduceIte, Nat.reduceEqDiff, Nat.reduceLT, Nat.reduceAdd, c4, e5f] <;> (repeat' apply And.intro) <;> first | rfl | exact ⟨_, rfl⟩ | exact ⟨_, _, rfl⟩ | simp [lst, cat2_nil]

noncomputable def s_neNear_l0_S (n_Ends : List (List (Int × Int))) (v_ : Int) (out : List Int) (t14_ : Int) : Option (((List Int) × Int) ⊕ ((List Int))) :=
 if t14_ < ((n_Ends.getD v_.toNat default).length : Int) then
  ck (0 ≤ t14_ ∧ t14_.toNat < (n_Ends.getD v_.toNat default).length) <|
  ck (out.length + 1 < 1099511627776) <|
  some (Sum.inl ((out ++ [(fstD (n_Ends.getD v_.toNat default) t14_.toNat)]), IntKind.i64.wrap (t14_ + 1)))
 else
  some (Sum.inr out)
noncomputable def s_neNear_l0 (n_Ends : List (List (Int × Int))) (v_ : Int) (v : (List Int) × Int) : Option ((List Int)) := itO (fun v => s_neNear_l0_S n_Ends v_ v.1 v.2) v
noncomputable def s_neNear (n_Ends : List (List (Int × Int))) (n_Ids n_Inputs : List Int) (v_ : Int) : Option ((List Int)) :=
 ck (0 ≤ v_ ∧ v_.toNat < n_Ends.length) <|
 (s_neNear_l0 n_Ends v_ ([], 0)).bind fun r3_ =>
 some r3_
/-- spec.neNear -/
def k89_l0b : SC :=
 .seq
 (.ops [
 ⟨some 15, .binOp .lss 3 (.tmp 14) (.tmp 13) 3, 0, none⟩])
 (.seq
 (.cond (.tmp 15)
 .skip
 (.exit 0))
 (.seq
 (.block 1
 (.seq
 (.ops [
 ⟨some 16, .indexAddr 100 (.tmp 12) (.tmp 14), 0, none⟩,
 ⟨some 17, .load 102 (.tmp 16), 102, none⟩,
 ⟨some 7, .alloc 102, 0, none⟩,
 ⟨none, .store 102 (.tmp 7) (.tmp 17), 0, none⟩])
 (.ops [
 ⟨some 18, .move (.tmp 5), 23, none⟩,
 ⟨some 19, .fieldAddr 102 (.tmp 7) 0, 0, none⟩,
 ⟨some 20, .load 3 (.tmp 19), 3, none⟩,
 ⟨some 21, .buildSlice 23 1 #[(0, (.tmp 20))], 23, none⟩,
 ⟨some 22, .call ⟨(.builtin .append), #[(.tmp 18), (.tmp 21)], #[23, 23]⟩, 23, none⟩,
 ⟨some 5, .assign (.tmp 22), 23, none⟩])))
 (.ops [
 ⟨some 23, .binOp .add 3 (.tmp 14) (.const (.int .i64 1)) 3, 3, none⟩,
 ⟨some 14, .move (.tmp 23), 3, none⟩])))
def k89_l0 : SC := .loop k89_l0b
def k89 : SC :=
 .seq
 (.ops [
 ⟨some 2, .box 31 (.tmp 0), 0, none⟩,
 ⟨some 4, .assign (.const (.slice none 0 0)), 23, none⟩])
 (.seq
 (.ops [
 ⟨some 5, .assign (.const (.slice none 0 0)), 23, none⟩])
 (.seq
 (.seq
 (.ops [
 ⟨some 8, .fieldAddr 31 (.tmp 2) 0, 0, none⟩,
 ⟨some 9, .load 29 (.tmp 8), 29, none⟩,
 ⟨some 10, .move (.tmp 1), 3, none⟩,
 ⟨some 11, .indexAddr 29 (.tmp 9) (.tmp 10), 0, none⟩,
 ⟨some 12, .load 100 (.tmp 11), 100, none⟩,
 ⟨some 13, .call ⟨(.builtin .len), #[(.tmp 12)], #[100]⟩, 3, none⟩,
 ⟨some 14, .move (.const (.int .i64 0)), 3, none⟩])
 (.block 0
 k89_l0))
 (.seq
 (.ops [
 ⟨some 24, .move (.tmp 5), 23, none⟩,
 ⟨some 4, .assign (.tmp 24), 23, none⟩])
 .ret)))
theorem slim89 : Try.f89.body.map (slim lends) = some k89 := by kernel_rfl
theorem ok89 : fnOk Try.f89 2 = true := by kernel_rfl
theorem c89 {a l : List D} {r : D × List D} (h : wpD Y.env k89 (fin tys l.length [ResultVar.tmp 4] r) (entry a l)) (ha : a.length = 2) : Y.call 89 a l = some r :=
 call_slim (Y := Y) rfl Try.func89 (ha ▸ ok89) slim89 h
def s_neNear_l0_M (n_Ends : List (List (Int × Int))) (v_ : Int) (out : List Int) (t14_ : Int) (s : St) : Prop := s.v 5 = D.own 3 (lst (D.int .i64) out) ∧ s.v 12 = D.sl 102 (cat2 .i64 .i64 (n_Ends.getD v_.toNat default)) ∧ s.v 13 = D.int .i64 ((n_Ends.getD v_.toNat default).length : Int) ∧ s.v 14 = D.int .i64 t14_
def s_neNear_l0_X (n_Ends : List (List (Int × Int))) (v_ : Int) (r : (List Int)) (ex : Ex) (s : St) : Prop := ex = .exit 0 ∧ s.v 5 = D.own 3 (lst (D.int .i64) r)
theorem s_neNear_l0_wp (n_Ends : List (List (Int × Int))) (v_ : Int) {v : (List Int) × Int} {s : St} {r : (List Int)} (h : s_neNear_l0 n_Ends v_ v = some r) (hM : s_neNear_l0_M n_Ends v_ v.1 v.2 s) : wpD Y.env k89_l0 (s_neNear_l0_X n_Ends v_ r) s := by
 unfold s_neNear_l0 at h
 refine wd_itO (c := k89_l0b) (fun v => s_neNear_l0_S n_Ends v_ v.1 v.2) (fun v s => s_neNear_l0_M n_Ends v_ v.1 v.2 s) (s_neNear_l0_X n_Ends v_) ?_ h hM
 clear h hM s v r
 intro v s o hM h
 obtain ⟨out, t14_⟩ := v
 dsimp only at h hM
 unfold s_neNear_l0_S at h
 unfold s_neNear_l0_M at hM
 obtain ⟨m0, m1, m2, m3⟩ := hM
 unfold k89_l0b
 by_cases e2 : t14_ < ((n_Ends.getD v_.toNat default).length : Int)
 ·rw [if_pos e2] at h
  obtain ⟨e3, h⟩ := ckS h
  obtain ⟨e4, h⟩ := ckS h
  cases h
  simp (maxDischargeDepth := 9) only [↓xpre, xpost, xlst, xc2, xcore, yset, ↓reduceIte, Nat.reduceEqDiff, Nat.reduceLT, Nat.reduceLeDiff, Nat.reduceAdd, m0, m1, m2, m3, e2, e3.1, e3.2, e4, s_neNear_l0_M, sxN] <;> (repeat' apply And.intro) <;> first | rfl | exact ⟨_, rfl⟩ | exact ⟨_, _, rfl⟩ | simp [lst, cat2_nil]
 ·rw [if_neg e2] at h
  cases h
  simp (maxDischargeDepth := 9) only [↓xpre, xpost, yset, ↓reduceIte, Nat.reduceEqDiff, Nat.reduceLT, m0, m2, m3, e2, s_neNear_l0_M, s_neNear_l0_X, sxE] <;> (repeat' apply And.intro) <;> first | rfl | exact ⟨_, rfl⟩ | exact ⟨_, _, rfl⟩ | simp [lst, cat2_nil]
theorem s_neNear_call (n_Ends : List (List (Int × Int))) (n_Ids n_Inputs : List Int) (v_ : Int) {r : (List Int)} (h : s_neNear n_Ends n_Ids n_Inputs v_ = some r) : Y.call 89 [D.agg [D.sl 100 (lst (fun x => D.sl 102 (cat2 .i64 .i64 x)) n_Ends), D.sl 3 (lst (D.int .i64) n_Ids), D.sl 3 (lst (D.int .i64) n_Inputs)], D.int .i64 v_] [] = some (D.own 3 (lst (D.int .i64) r), []) := by
 refine c89 ?_ rfl
 unfold k89
 unfold s_neNear at h
 obtain ⟨e1, h⟩ := ckS h
 obtain ⟨r3_, hl3, h⟩ := bindS h
 try dsimp only at h
 simp (maxDischargeDepth := 9) only [↓xpre, xpost, xlst, xc2, xcore, yset, ↓reduceIte, Nat.reduceEqDiff, Nat.reduceLT, Nat.reduceAdd, e1.1, e1.2]
 refine wd_mono (s_neNear_l0_wp n_Ends v_ hl3 ?_) ?_
 ·simp (maxDischargeDepth := 9) only [xpost, ↓reduceIte, Nat.reduceEqDiff, s_neNear_l0_M] <;> (repeat' apply And.intro) <;> first | rfl | exact ⟨_, rfl⟩ | exact ⟨_, _, rfl⟩ | simp [lst, cat2_nil]
 ·intro ex3 s3 hX3
  unfold s_neNear_l0_X at hX3
  obtain ⟨rfl, n3_0⟩ := hX3
  cases h
  simp (maxDischargeDepth := 9) only [↓xpre, xpost, xlst, xcore, ↓reduceIte, Nat.reduceEqDiff, Nat.reduceLT, n3_0] <;> (repeat' apply And.intro) <;> first | rfl | exact ⟨_, rfl⟩ | exact ⟨_, _, rfl⟩ | simp [lst, cat2_nil]

noncomputable def s_meFrom_l0_S (t0_Ends : List (List (Int × Int))) (t0_Ids t0_Inputs : List Int) (t1_ : Int) (t5_ : List Int) (t17_ : Int) : Option (((List Int) × Int) ⊕ ((List Int))) :=
 if t17_ < ((List.replicate t0_Ends.length 0).length : Int) then
  ck (0 ≤ t17_ ∧ t17_.toNat < t5_.length) <|
  some (Sum.inl ((t5_.set t17_.toNat (-1)), IntKind.i64.wrap (t17_ + 1)))
 else
  some (Sum.inr t5_)
noncomputable def s_meFrom_l0 (t0_Ends : List (List (Int × Int))) (t0_Ids t0_Inputs : List Int) (t1_ : Int) (v : (List Int) × Int) : Option ((List Int)) := itO (fun v => s_meFrom_l0_S t0_Ends t0_Ids t0_Inputs t1_ v.1 v.2) v
noncomputable def s_meFrom_l1_S (t0_Ends : List (List (Int × Int))) (t0_Ids t0_Inputs : List Int) (t8_ : Int) (r7_ : (List Int)) (t5_1 t7_1 : List Int) (t42_ : Int) : Option (((List Int) × (List Int) × Int) ⊕ ((List Int) × (List Int))) :=
 if t42_ < (r7_.length : Int) then
  ck (0 ≤ t42_ ∧ t42_.toNat < r7_.length) <|
  ck (0 ≤ (r7_.getD t42_.toNat default) ∧ (r7_.getD t42_.toNat default).toNat < t5_1.length) <|
  if (t5_1.getD ((r7_.getD t42_.toNat default).toNat) default) < 0 then
   ck (0 ≤ t8_ ∧ t8_.toNat < t7_1.length) <|
   ck (0 ≤ (t7_1.getD t8_.toNat default) ∧ (t7_1.getD t8_.toNat default).toNat < t5_1.length) <|
   ck (t7_1.length + 1 < 1099511627776) <|
   some (Sum.inl ((t5_1.set ((r7_.getD t42_.toNat default).toNat) (IntKind.i64.wrap ((t5_1.getD ((t7_1.getD t8_.toNat default).toNat) default) + 1))), (t7_1 ++ [(r7_.getD t42_.toNat default)]), IntKind.i64.wrap (t42_ + 1)))
  else
   some (Sum.inl (t5_1, t7_1, IntKind.i64.wrap (t42_ + 1)))
 else
  some (Sum.inr (t5_1, t7_1))
noncomputable def s_meFrom_l1 (t0_Ends : List (List (Int × Int))) (t0_Ids t0_Inputs : List Int) (t8_ : Int) (r7_ : (List Int)) (v : (List Int) × (List Int) × Int) : Option ((List Int) × (List Int)) := itO (fun v => s_meFrom_l1_S t0_Ends t0_Ids t0_Inputs t8_ r7_ v.1 v.2.1 v.2.2) v
noncomputable def s_meFrom_l2_S (t0_Ends : List (List (Int × Int))) (t0_Ids t0_Inputs t5_ t7_ : List Int) (t8_ : Int) : Option (((List Int) × (List Int) × Int) ⊕ ((List Int))) :=
 if t8_ < (t7_.length : Int) then
  ck (0 ≤ t8_ ∧ t8_.toNat < t7_.length) <|
  (s_neNear t0_Ends t0_Ids t0_Inputs (t7_.getD t8_.toNat default)).bind fun r7_ =>
  (s_meFrom_l1 t0_Ends t0_Ids t0_Inputs t8_ r7_ (t5_, t7_, 0)).bind fun r9_ =>
  some (Sum.inl (r9_.1, r9_.2, IntKind.i64.wrap (t8_ + 1)))
 else
  some (Sum.inr t5_)
noncomputable def s_meFrom_l2 (t0_Ends : List (List (Int × Int))) (t0_Ids t0_Inputs : List Int) (v : (List Int) × (List Int) × Int) : Option ((List Int)) := itO (fun v => s_meFrom_l2_S t0_Ends t0_Ids t0_Inputs v.1 v.2.1 v.2.2) v
noncomputable def s_meFrom (t0_Ends : List (List (Int × Int))) (t0_Ids t0_Inputs : List Int) (t1_ : Int) : Option ((List Int)) :=
 ck (0 ≤ (t0_Ends.length : Int) ∧ (t0_Ends.length : Int) < 1099511627776) <|
 (s_meFrom_l0 t0_Ends t0_Ids t0_Inputs t1_ ((List.replicate t0_Ends.length 0), 0)).bind fun r3_ =>
 ck (0 ≤ t1_ ∧ t1_.toNat < r3_.length) <|
 (s_meFrom_l2 t0_Ends t0_Ids t0_Inputs ((r3_.set t1_.toNat 0), [t1_], 0)).bind fun r6_ =>
 some r6_
/-- spec.meFrom -/
def k75_l0b : SC :=
 .seq
 (.ops [
 ⟨some 18, .binOp .lss 3 (.tmp 17) (.tmp 16) 3, 0, none⟩])
 (.seq
 (.cond (.tmp 18)
 .skip
 (.exit 0))
 (.seq
 (.block 1
 (.seq
 (.ops [
 ⟨some 19, .move (.tmp 17), 3, none⟩,
 ⟨some 6, .assign (.tmp 19), 3, none⟩])
 (.ops [
 ⟨some 20, .move (.tmp 5), 23, none⟩,
 ⟨some 21, .move (.tmp 6), 3, none⟩,
 ⟨some 22, .indexAddr 23 (.tmp 20) (.tmp 21), 0, none⟩,
 ⟨none, .store 3 (.tmp 22) (.const (.int .i64 (-1))), 0, none⟩])))
 (.ops [
 ⟨some 23, .binOp .add 3 (.tmp 17) (.const (.int .i64 1)) 3, 3, none⟩,
 ⟨some 17, .move (.tmp 23), 3, none⟩])))
def k75_l0 : SC := .loop k75_l0b
def k75_l1b : SC :=
 .seq
 (.ops [
 ⟨some 43, .binOp .lss 3 (.tmp 42) (.tmp 41) 3, 0, none⟩])
 (.seq
 (.cond (.tmp 43)
 .skip
 (.exit 4))
 (.seq
 (.block 5
 (.seq
 (.ops [
 ⟨some 44, .indexAddr 23 (.tmp 40) (.tmp 42), 0, none⟩,
 ⟨some 45, .load 3 (.tmp 44), 3, none⟩,
 ⟨some 10, .assign (.tmp 45), 3, none⟩])
 (.seq
 (.ops [
 ⟨some 46, .move (.tmp 5), 23, none⟩,
 ⟨some 47, .move (.tmp 10), 3, none⟩,
 ⟨some 48, .indexAddr 23 (.tmp 46) (.tmp 47), 0, none⟩,
 ⟨some 49, .load 3 (.tmp 48), 3, none⟩,
 ⟨some 50, .binOp .lss 3 (.tmp 49) (.const (.int .i64 0)) 3, 4, none⟩])
 (.cond (.tmp 50)
 (.seq
 (.ops [
 ⟨some 51, .move (.tmp 5), 23, none⟩,
 ⟨some 52, .move (.tmp 10), 3, none⟩,
 ⟨some 53, .move (.tmp 5), 23, none⟩,
 ⟨some 54, .move (.tmp 7), 23, none⟩,
 ⟨some 55, .move (.tmp 8), 3, none⟩,
 ⟨some 56, .indexAddr 23 (.tmp 54) (.tmp 55), 0, none⟩,
 ⟨some 57, .load 3 (.tmp 56), 3, none⟩,
 ⟨some 58, .indexAddr 23 (.tmp 53) (.tmp 57), 0, none⟩,
 ⟨some 59, .load 3 (.tmp 58), 3, none⟩,
 ⟨some 60, .binOp .add 3 (.tmp 59) (.const (.int .i64 1)) 3, 3, none⟩,
 ⟨some 61, .indexAddr 23 (.tmp 51) (.tmp 52), 0, none⟩,
 ⟨none, .store 3 (.tmp 61) (.tmp 60), 0, none⟩])
 (.ops [
 ⟨some 62, .move (.tmp 7), 23, none⟩,
 ⟨some 63, .move (.tmp 10), 3, none⟩,
 ⟨some 64, .buildSlice 23 1 #[(0, (.tmp 63))], 23, none⟩,
 ⟨some 65, .call ⟨(.builtin .append), #[(.tmp 62), (.tmp 64)], #[23, 23]⟩, 23, none⟩,
 ⟨some 7, .assign (.tmp 65), 23, none⟩]))
 .skip))))
 (.ops [
 ⟨some 66, .binOp .add 3 (.tmp 42) (.const (.int .i64 1)) 3, 3, none⟩,
 ⟨some 42, .move (.tmp 66), 3, none⟩])))
def k75_l1 : SC := .loop k75_l1b
def k75_l2b : SC :=
 .seq
 (.seq
 (.ops [
 ⟨some 29, .move (.tmp 8), 3, none⟩,
 ⟨some 30, .move (.tmp 7), 23, none⟩,
 ⟨some 31, .call ⟨(.builtin .len), #[(.tmp 30)], #[23]⟩, 3, none⟩,
 ⟨some 32, .binOp .lss 3 (.tmp 29) (.tmp 31) 3, 4, none⟩])
 (.cond (.tmp 32)
 .skip
 (.exit 2)))
 (.seq
 (.block 3
 (.seq
 (.draws [
 (⟨[35, 2, 2], [35, 36, 37, 38, 39, 40, 41, 42], [35]⟩, ⟨some 35, .load 31 (.tmp 2), 31, none⟩),
 (⟨[36, 7, 7], [35, 36, 37, 38, 39, 40, 41, 42], [36]⟩, ⟨some 36, .move (.tmp 7), 23, none⟩),
 (⟨[37, 8, 8], [35, 36, 37, 38, 39, 40, 41, 42], [37]⟩, ⟨some 37, .move (.tmp 8), 3, none⟩),
 (⟨[38, 36, 37, 7, 8], [35, 36, 37, 38, 39, 40, 41, 42], [38]⟩, ⟨some 38, .indexAddr 23 (.tmp 36) (.tmp 37), 0, none⟩),
 (⟨[39, 38, 7], [35, 36, 37, 38, 39, 40, 41, 42], [39]⟩, ⟨some 39, .load 3 (.tmp 38), 3, none⟩),
 (⟨[40, 35, 39, 2, 7], [35, 36, 37, 38, 39, 40, 41, 42], [40]⟩, ⟨some 40, .call ⟨(.value (.func 89)), #[(.tmp 35), (.tmp 39)], #[31, 3]⟩, 23, none⟩),
 (⟨[41, 40, 40], [35, 36, 37, 38, 39, 40, 41, 42], [41]⟩, ⟨some 41, .call ⟨(.builtin .len), #[(.tmp 40)], #[23]⟩, 3, none⟩),
 (⟨[42], [35, 36, 37, 38, 39, 40, 41, 42], [42]⟩, ⟨some 42, .move (.const (.int .i64 0)), 3, none⟩)])
 (.block 4
 k75_l1)))
 (.ops [
 ⟨some 33, .move (.tmp 8), 3, none⟩,
 ⟨some 34, .binOp .add 3 (.tmp 33) (.const (.int .i64 1)) 3, 3, none⟩,
 ⟨some 8, .assign (.tmp 34), 3, none⟩]))
def k75_l2 : SC := .loop k75_l2b
def k75 : SC :=
 .seq
 (.ops [
 ⟨some 2, .box 31 (.tmp 0), 0, none⟩,
 ⟨some 4, .assign (.const (.slice none 0 0)), 23, none⟩])
 (.seq
 (.ops [
 ⟨some 11, .fieldAddr 31 (.tmp 2) 0, 0, none⟩,
 ⟨some 12, .load 29 (.tmp 11), 29, none⟩,
 ⟨some 13, .call ⟨(.builtin .len), #[(.tmp 12)], #[29]⟩, 3, none⟩,
 ⟨some 14, .makeSlice 23 (.tmp 13) (.tmp 13), 23, none⟩,
 ⟨some 5, .assign (.tmp 14), 23, none⟩])
 (.seq
 (.seq
 (.ops [
 ⟨some 15, .move (.tmp 5), 23, none⟩,
 ⟨some 16, .call ⟨(.builtin .len), #[(.tmp 15)], #[23]⟩, 3, none⟩,
 ⟨some 17, .move (.const (.int .i64 0)), 3, none⟩])
 (.block 0
 k75_l0))
 (.seq
 (.ops [
 ⟨some 24, .move (.tmp 5), 23, none⟩,
 ⟨some 25, .move (.tmp 1), 3, none⟩,
 ⟨some 26, .indexAddr 23 (.tmp 24) (.tmp 25), 0, none⟩,
 ⟨none, .store 3 (.tmp 26) (.const (.int .i64 0)), 0, none⟩])
 (.seq
 (.ops [
 ⟨some 27, .move (.tmp 1), 3, none⟩,
 ⟨some 28, .buildSlice 23 1 #[(0, (.tmp 27))], 23, none⟩,
 ⟨some 7, .assign (.tmp 28), 23, none⟩])
 (.seq
 (.seq
 (.ops [
 ⟨some 8, .assign (.const (.int .i64 0)), 3, none⟩])
 (.block 2
 k75_l2))
 (.seq
 (.ops [
 ⟨some 67, .move (.tmp 5), 23, none⟩,
 ⟨some 4, .assign (.tmp 67), 23, none⟩])
 .ret))))))
theorem slim75 : Try.f75.body.map (slim lends) = some k75 := by kernel_rfl
theorem ok75 : fnOk Try.f75 2 = true := by kernel_rfl
theorem c75 {a l : List D} {r : D × List D} (h : wpD Y.env k75 (fin tys l.length [ResultVar.tmp 4] r) (entry a l)) (ha : a.length = 2) : Y.call 75 a l = some r :=
 call_slim (Y := Y) rfl Try.func75 (ha ▸ ok75) slim75 h
def s_meFrom_l0_M (t0_Ends : List (List (Int × Int))) (t0_Ids t0_Inputs : List Int) (t1_ : Int) (t5_ : List Int) (t17_ : Int) (s : St) : Prop := s.v 1 = D.int .i64 t1_ ∧ s.v 2 = D.box [D.sl 100 (lst (fun x => D.sl 102 (cat2 .i64 .i64 x)) t0_Ends), D.sl 3 (lst (D.int .i64) t0_Ids), D.sl 3 (lst (D.int .i64) t0_Inputs)] ∧ s.v 5 = D.own 3 (lst (D.int .i64) t5_) ∧ s.v 16 = D.int .i64 ((List.replicate t0_Ends.length 0).length : Int) ∧ s.v 17 = D.int .i64 t17_
def s_meFrom_l0_X (t0_Ends : List (List (Int × Int))) (t0_Ids t0_Inputs : List Int) (t1_ : Int) (r : (List Int)) (ex : Ex) (s : St) : Prop := ex = .exit 0 ∧ s.v 1 = D.int .i64 t1_ ∧ s.v 2 = D.box [D.sl 100 (lst (fun x => D.sl 102 (cat2 .i64 .i64 x)) t0_Ends), D.sl 3 (lst (D.int .i64) t0_Ids), D.sl 3 (lst (D.int .i64) t0_Inputs)] ∧ s.v 5 = D.own 3 (lst (D.int .i64) r)
theorem s_meFrom_l0_wp (t0_Ends : List (List (Int × Int))) (t0_Ids t0_Inputs : List Int) (t1_ : Int) {v : (List Int) × Int} {s : St} {r : (List Int)} (h : s_meFrom_l0 t0_Ends t0_Ids t0_Inputs t1_ v = some r) (hM : s_meFrom_l0_M t0_Ends t0_Ids t0_Inputs t1_ v.1 v.2 s) : wpD Y.env k75_l0 (s_meFrom_l0_X t0_Ends t0_Ids t0_Inputs t1_ r) s := by
 unfold s_meFrom_l0 at h
 refine wd_itO (c := k75_l0b) (fun v => s_meFrom_l0_S t0_Ends t0_Ids t0_Inputs t1_ v.1 v.2) (fun v s => s_meFrom_l0_M t0_Ends t0_Ids t0_Inputs t1_ v.1 v.2 s) (s_meFrom_l0_X t0_Ends t0_Ids t0_Inputs t1_) ?_ h hM
 clear h hM s v r
 intro v s o hM h
 obtain ⟨t5_, t17_⟩ := v
 dsimp only at h hM
 unfold s_meFrom_l0_S at h
 unfold s_meFrom_l0_M at hM
 obtain ⟨m0, m1, m2, m3, m4⟩ := hM
 unfold k75_l0b
 by_cases e2 : t17_ < ((List.replicate t0_Ends.length 0).length : Int)
 ·rw [if_pos e2] at h
  obtain ⟨e3, h⟩ := ckS h
  cases h
  simp (maxDischargeDepth := 9) only [↓xpre, xpost, xlst, xcore, yset, ↓reduceIte, Nat.reduceEqDiff, Nat.reduceLT, Int.reduceNeg, m0, m1, m2, m3, m4, e2, e3.1, e3.2, s_meFrom_l0_M, sxN] <;> (repeat' apply And.intro) <;> first | rfl | exact ⟨_, rfl⟩ | exact ⟨_, _, rfl⟩ | simp [lst, cat2_nil]
 ·rw [if_neg e2] at h
  cases h
  simp (maxDischargeDepth := 9) only [↓xpre, xpost, yset, ↓reduceIte, Nat.reduceEqDiff, Nat.reduceLT, Int.reduceNeg, m0, m1, m2, m3, m4, e2, s_meFrom_l0_M, s_meFrom_l0_X, sxE] <;> (repeat' apply And.intro) <;> first | rfl | exact ⟨_, rfl⟩ | exact ⟨_, _, rfl⟩ | simp [lst, cat2_nil]
def s_meFrom_l1_M (t0_Ends : List (List (Int × Int))) (t0_Ids t0_Inputs : List Int) (t8_ : Int) (r7_ : (List Int)) (t5_1 t7_1 : List Int) (t42_ : Int) (s : St) : Prop := s.v 2 = D.box [D.sl 100 (lst (fun x => D.sl 102 (cat2 .i64 .i64 x)) t0_Ends), D.sl 3 (lst (D.int .i64) t0_Ids), D.sl 3 (lst (D.int .i64) t0_Inputs)] ∧ s.v 5 = D.own 3 (lst (D.int .i64) t5_1) ∧ s.v 7 = D.own 3 (lst (D.int .i64) t7_1) ∧ s.v 8 = D.int .i64 t8_ ∧ s.v 40 = D.own 3 (lst (D.int .i64) r7_) ∧ s.v 41 = D.int .i64 (r7_.length : Int) ∧ s.v 42 = D.int .i64 t42_
def s_meFrom_l1_X (t0_Ends : List (List (Int × Int))) (t0_Ids t0_Inputs : List Int) (t8_ : Int) (r7_ : (List Int)) (r : (List Int) × (List Int)) (ex : Ex) (s : St) : Prop := ex = .exit 4 ∧ s.v 2 = D.box [D.sl 100 (lst (fun x => D.sl 102 (cat2 .i64 .i64 x)) t0_Ends), D.sl 3 (lst (D.int .i64) t0_Ids), D.sl 3 (lst (D.int .i64) t0_Inputs)] ∧ s.v 5 = D.own 3 (lst (D.int .i64) r.1) ∧ s.v 7 = D.own 3 (lst (D.int .i64) r.2) ∧ s.v 8 = D.int .i64 t8_
theorem s_meFrom_l1_wp (t0_Ends : List (List (Int × Int))) (t0_Ids t0_Inputs : List Int) (t8_ : Int) (r7_ : (List Int)) {v : (List Int) × (List Int) × Int} {s : St} {r : (List Int) × (List Int)} (h : s_meFrom_l1 t0_Ends t0_Ids t0_Inputs t8_ r7_ v = some r) (hM : s_meFrom_l1_M t0_Ends t0_Ids t0_Inputs t8_ r7_ v.1 v.2.1 v.2.2 s) : wpD Y.env k75_l1 (s_meFrom_l1_X t0_Ends t0_Ids t0_Inputs t8_ r7_ r) s := by
 unfold s_meFrom_l1 at h
 refine wd_itO (c := k75_l1b) (fun v => s_meFrom_l1_S t0_Ends t0_Ids t0_Inputs t8_ r7_ v.1 v.2.1 v.2.2) (fun v s => s_meFrom_l1_M t0_Ends t0_Ids t0_Inputs t8_ r7_ v.1 v.2.1 v.2.2 s) (s_meFrom_l1_X t0_Ends t0_Ids t0_Inputs t8_ r7_) ?_ h hM
 clear h hM s v r
 intro v s o hM h
 obtain ⟨t5_1, t7_1, t42_⟩ := v
 dsimp only at h hM
 unfold s_meFrom_l1_S at h
 unfold s_meFrom_l1_M at hM
 obtain ⟨m0, m1, m2, m3, m4, m5, m6⟩ := hM
 unfold k75_l1b
 by_cases e8 : t42_ < (r7_.length : Int)
 ·rw [if_pos e8] at h
  obtain ⟨e9, h⟩ := ckS h
  obtain ⟨e10, h⟩ := ckS h
  by_cases e11 : (t5_1.getD ((r7_.getD t42_.toNat default).toNat) default) < 0
  ·rw [if_pos e11] at h
   obtain ⟨e12, h⟩ := ckS h
   obtain ⟨e13, h⟩ := ckS h
   obtain ⟨e14, h⟩ := ckS h
   cases h
   simp (maxDischargeDepth := 9) only [↓xpre, xpost, xlst, xcore, yset, ↓reduceIte, Nat.reduceEqDiff, Nat.reduceLT, Nat.reduceLeDiff, Nat.reduceAdd, m0, m1, m2, m3, m4, m5, m6, e8, e9.1, e9.2, e10.1, e10.2, e11, e12.1, e12.2, e13.1, e13.2, e14, s_meFrom_l1_M, sxN] <;> (repeat' apply And.intro) <;> first | rfl | exact ⟨_, rfl⟩ | exact ⟨_, _, rfl⟩ | simp [lst, cat2_nil]
  ·rw [if_neg e11] at h
   cases h
   simp (maxDischargeDepth := 9) only [↓xpre, xpost, xlst, xcore, yset, ↓reduceIte, Nat.reduceEqDiff, Nat.reduceLT, m0, m1, m2, m3, m4, m5, m6, e8, e9.1, e9.2, e10.1, e10.2, e11, s_meFrom_l1_M, sxN] <;> (repeat' apply And.intro) <;> first | rfl | exact ⟨_, rfl⟩ | exact ⟨_, _, rfl⟩ | simp [lst, cat2_nil]
 ·rw [if_neg e8] at h
  cases h
  simp (maxDischargeDepth := 9) only [↓xpre, xpost, yset, ↓reduceIte, Nat.reduceEqDiff, Nat.reduceLT, m0, m1, m2, m3, m5, m6, e8, s_meFrom_l1_M, s_meFrom_l1_X, sxE] <;> (repeat' apply And.intro) <;> first | rfl | exact ⟨_, rfl⟩ | exact ⟨_, _, rfl⟩ | simp [lst, cat2_nil]
def s_meFrom_l2_M (t0_Ends : List (List (Int × Int))) (t0_Ids t0_Inputs t5_ t7_ : List Int) (t8_ : Int) (s : St) : Prop := s.v 2 = D.box [D.sl 100 (lst (fun x => D.sl 102 (cat2 .i64 .i64 x)) t0_Ends), D.sl 3 (lst (D.int .i64) t0_Ids), D.sl 3 (lst (D.int .i64) t0_Inputs)] ∧ s.v 5 = D.own 3 (lst (D.int .i64) t5_) ∧ s.v 7 = D.own 3 (lst (D.int .i64) t7_) ∧ s.v 8 = D.int .i64 t8_
def s_meFrom_l2_X (t0_Ends : List (List (Int × Int))) (t0_Ids t0_Inputs : List Int) (r : (List Int)) (ex : Ex) (s : St) : Prop := ex = .exit 2 ∧ s.v 5 = D.own 3 (lst (D.int .i64) r)
theorem s_meFrom_l2_wp (t0_Ends : List (List (Int × Int))) (t0_Ids t0_Inputs : List Int) {v : (List Int) × (List Int) × Int} {s : St} {r : (List Int)} (h : s_meFrom_l2 t0_Ends t0_Ids t0_Inputs v = some r) (hM : s_meFrom_l2_M t0_Ends t0_Ids t0_Inputs v.1 v.2.1 v.2.2 s) : wpD Y.env k75_l2 (s_meFrom_l2_X t0_Ends t0_Ids t0_Inputs r) s := by
 unfold s_meFrom_l2 at h
 refine wd_itO (c := k75_l2b) (fun v => s_meFrom_l2_S t0_Ends t0_Ids t0_Inputs v.1 v.2.1 v.2.2) (fun v s => s_meFrom_l2_M t0_Ends t0_Ids t0_Inputs v.1 v.2.1 v.2.2 s) (s_meFrom_l2_X t0_Ends t0_Ids t0_Inputs) ?_ h hM
 clear h hM s v r
 intro v s o hM h
 obtain ⟨t5_, t7_, t8_⟩ := v
 dsimp only at h hM
 unfold s_meFrom_l2_S at h
 unfold s_meFrom_l2_M at hM
 obtain ⟨m0, m1, m2, m3⟩ := hM
 unfold k75_l2b
 by_cases e5 : t8_ < (t7_.length : Int)
 ·rw [if_pos e5] at h
  obtain ⟨e6, h⟩ := ckS h
  obtain ⟨r7_, hl7, h⟩ := bindS h
  try dsimp only at h
  have c7 := s_neNear_call t0_Ends t0_Ids t0_Inputs (t7_.getD t8_.toNat default) hl7
  obtain ⟨r9_, hl9, h⟩ := bindS h
  try dsimp only at h
  simp (maxDischargeDepth := 9) only [↓xpre, xpost, xlst, xcore, yset, ↓reduceIte, Nat.reduceEqDiff, Nat.reduceLT, Nat.reduceAdd, Nat.reduceBEq, m0, m2, m3, e5, e6.1, e6.2, c7]
  refine wd_mono (s_meFrom_l1_wp t0_Ends t0_Ids t0_Inputs t8_ r7_ hl9 ?_) ?_
  ·simp (maxDischargeDepth := 9) only [xpost, ↓reduceIte, Nat.reduceEqDiff, m0, m1, m2, m3, s_meFrom_l1_M] <;> (repeat' apply And.intro) <;> first | rfl | exact ⟨_, rfl⟩ | exact ⟨_, _, rfl⟩ | simp [lst, cat2_nil]
  ·intro ex9 s9 hX9
   unfold s_meFrom_l1_X at hX9
   obtain ⟨rfl, n9_0, n9_1, n9_2, n9_3⟩ := hX9
   cases h
   simp (maxDischargeDepth := 9) only [↓xpre, xpost, yset, ↓reduceIte, Nat.reduceEqDiff, Nat.reduceLT, n9_0, n9_1, n9_2, n9_3, s_meFrom_l2_M, sxN] <;> (repeat' apply And.intro) <;> first | rfl | exact ⟨_, rfl⟩ | exact ⟨_, _, rfl⟩ | simp [lst, cat2_nil]
 ·rw [if_neg e5] at h
  cases h
  simp (maxDischargeDepth := 9) only [↓xpre, xpost, xlst, xcore, yset, ↓reduceIte, Nat.reduceEqDiff, Nat.reduceLT, m1, m2, m3, e5, s_meFrom_l2_M, s_meFrom_l2_X, sxE] <;> (repeat' apply And.intro) <;> first | rfl | exact ⟨_, rfl⟩ | exact ⟨_, _, rfl⟩ | simp [lst, cat2_nil]
theorem s_meFrom_call (t0_Ends : List (List (Int × Int))) (t0_Ids t0_Inputs : List Int) (t1_ : Int) {r : (List Int)} (h : s_meFrom t0_Ends t0_Ids t0_Inputs t1_ = some r) : Y.call 75 [D.agg [D.sl 100 (lst (fun x => D.sl 102 (cat2 .i64 .i64 x)) t0_Ends), D.sl 3 (lst (D.int .i64) t0_Ids), D.sl 3 (lst (D.int .i64) t0_Inputs)], D.int .i64 t1_] [] = some (D.own 3 (lst (D.int .i64) r), []) := by
 refine c75 ?_ rfl
 unfold k75
 unfold s_meFrom at h
 obtain ⟨e1, h⟩ := ckS h
 obtain ⟨r3_, hl3, h⟩ := bindS h
 try dsimp only at h
 simp (maxDischargeDepth := 9) only [↓xpre, xpost, xlst, xcore, yset, ↓reduceIte, Nat.reduceEqDiff, Nat.reduceLT, Nat.reduceLeDiff, Nat.reduceAdd, e1.1, e1.2]
 refine wd_mono (s_meFrom_l0_wp t0_Ends t0_Ids t0_Inputs t1_ hl3 ?_) ?_
 ·simp (maxDischargeDepth := 9) only [xpost, xcore, ↓reduceIte, Nat.reduceEqDiff, Nat.reduceLT, s_meFrom_l0_M] <;> (repeat' apply And.intro) <;> first | rfl | exact ⟨_, rfl⟩ | exact ⟨_, _, rfl⟩ | simp [lst]
 ·intro ex3 s3 hX3
  unfold s_meFrom_l0_X at hX3
  obtain ⟨rfl, n3_0, n3_1, n3_2⟩ := hX3
  obtain ⟨e4, h⟩ := ckS h
  obtain ⟨r6_, hl6, h⟩ := bindS h
  try dsimp only at h
  simp (maxDischargeDepth := 9) only [↓xpre, xpost, xlst, xcore, yset, ↓reduceIte, Nat.reduceEqDiff, Nat.reduceLT, Nat.reduceLeDiff, Nat.reduceAdd, n3_0, n3_2, e4.1, e4.2]
  refine wd_mono (s_meFrom_l2_wp t0_Ends t0_Ids t0_Inputs hl6 ?_) ?_
  ·simp (maxDischargeDepth := 9) only [xpost, ↓reduceIte, Nat.reduceEqDiff, n3_1, n3_2, s_meFrom_l2_M] <;> (repeat' apply And.intro) <;> first | rfl | exact ⟨_, rfl⟩ | exact ⟨_, _, rfl⟩ | simp [lst, cat2_nil]
  ·intro ex6 s6 hX6
   unfold s_meFrom_l2_X at hX6
   obtain ⟨rfl, n6_0⟩ := hX6
   cases h
   simp (maxDischargeDepth := 9) only [↓xpre, xpost, xlst, xcore, ↓reduceIte, Nat.reduceEqDiff, Nat.reduceLT, n6_0] <;> (repeat' apply And.intro) <;> first | rfl | exact ⟨_, rfl⟩ | exact ⟨_, _, rfl⟩ | simp [lst, cat2_nil]

noncomputable def s_meConnected (n_Ends : List (List (Int × Int))) (n_Ids n_Inputs : List Int) : Option (Bool) :=
 (s_meFrom n_Ends n_Ids n_Inputs (0 : Int)).bind fun r1_ =>
 ck (r1_.length < 1099511627776) <|
 some (allIn r1_ (0 : Int) (40 : Int))
/-- spec.meConnected -/
def k35 : SC :=
 .seq
 (.ops [
 ⟨some 1, .box 31 (.tmp 0), 0, none⟩,
 ⟨some 2, .assign (.const (.bool false)), 4, none⟩])
 (.seq
 (.ops [
 ⟨some 3, .load 31 (.tmp 1), 31, none⟩,
 ⟨some 4, .call ⟨(.value (.func 75)), #[(.tmp 3), (.const (.int .i64 0))], #[31, 3]⟩, 23, none⟩,
 ⟨some 5, .call ⟨(.value (.func 72)), #[(.tmp 4), (.const (.int .i64 0)), (.const (.int .i64 40))], #[23, 3, 3]⟩, 4, none⟩,
 ⟨some 2, .assign (.tmp 5), 4, none⟩])
 .ret)
theorem slim35 : Try.f35.body.map (slim lends) = some k35 := by kernel_rfl
theorem ok35 : fnOk Try.f35 1 = true := by kernel_rfl
theorem c35 {a l : List D} {r : D × List D} (h : wpD Y.env k35 (fin tys l.length [ResultVar.tmp 2] r) (entry a l)) (ha : a.length = 1) : Y.call 35 a l = some r :=
 call_slim (Y := Y) rfl Try.func35 (ha ▸ ok35) slim35 h
theorem s_meConnected_call (n_Ends : List (List (Int × Int))) (n_Ids n_Inputs : List Int) {r : Bool} (h : s_meConnected n_Ends n_Ids n_Inputs = some r) : Y.call 35 [D.agg [D.sl 100 (lst (fun x => D.sl 102 (cat2 .i64 .i64 x)) n_Ends), D.sl 3 (lst (D.int .i64) n_Ids), D.sl 3 (lst (D.int .i64) n_Inputs)]] [] = some (D.bool r, []) := by
 refine c35 ?_ rfl
 unfold k35
 unfold s_meConnected at h
 obtain ⟨r1_, hl1, h⟩ := bindS h
 try dsimp only at h
 have c1 := s_meFrom_call n_Ends n_Ids n_Inputs (0 : Int) hl1
 obtain ⟨e2, h⟩ := ckS h
 have c3 := s_l1All_cl r1_ (0 : Int) (40 : Int) e2
 cases h
 simp (maxDischargeDepth := 9) only [↓xpre, xpost, xlst, xcore, yset, ↓reduceIte, Nat.reduceEqDiff, Nat.reduceLT, Nat.reduceAdd, c1, c3] <;> (repeat' apply And.intro) <;> first | rfl | exact ⟨_, rfl⟩ | exact ⟨_, _, rfl⟩ | simp [lst, cat2_nil]

noncomputable def s_RefutesSize (n_Ends : List (List (Int × Int))) (n_Ids n_Inputs : List Int) (b_Ends : List (List (Int × Int))) (b_Ids b_Inputs m_ : List Int) : Option (Bool × Bool) :=
 ck (ShortE n_Ends) <|
 ck (n_Ids.length < 1099511627776) <|
 ck (n_Inputs.length < 1099511627776) <|
 if (isNet n_Ends n_Ids n_Inputs) = true then
  ck (ShortE b_Ends) <|
  ck (b_Ids.length < 1099511627776) <|
  ck (b_Inputs.length < 1099511627776) <|
  if (isNet b_Ends b_Ids b_Inputs) = true then
   (s_IsCovering b_Ends b_Ids b_Inputs n_Ends n_Ids n_Inputs m_).bind fun r11_ =>
   if r11_.2 = true then
    if r11_.1 = true then
     (s_meConnected b_Ends b_Ids b_Inputs).bind fun r14_ =>
     if r14_ = true then
      some ((decide ((n_Ends.length : Int) < (b_Ends.length : Int))), true)
     else
      some (false, true)
    else
     some (false, true)
   else
    some (false, true)
  else
   some (false, false)
 else
  some (false, false)
/-- spec.RefutesSize -/
def k9 : SC :=
 .seq
 (.ops [
 ⟨some 3, .box 31 (.tmp 0), 0, none⟩,
 ⟨some 4, .box 31 (.tmp 1), 0, none⟩,
 ⟨some 6, .assign (.const (.bool false)), 4, none⟩,
 ⟨some 7, .assign (.const (.bool false)), 4, none⟩])
 (.seq
 (.seq
 (.ops [
 ⟨some 10, .load 31 (.tmp 3), 31, none⟩,
 ⟨some 11, .call ⟨(.value (.func 33)), #[(.tmp 10)], #[31]⟩, 4, none⟩,
 ⟨some 12, .unOp .not 4 (.tmp 11), 4, none⟩,
 ⟨some 13, .move (.tmp 12), 4, none⟩,
 ⟨some 14, .load 31 (.tmp 4), 31, (some (some 13, false))⟩,
 ⟨some 15, .call ⟨(.value (.func 33)), #[(.tmp 14)], #[31]⟩, 4, (some (some 13, false))⟩,
 ⟨some 16, .unOp .not 4 (.tmp 15), 4, (some (some 13, false))⟩,
 ⟨some 17, .pick (.tmp 13) (.const (.bool true)) (.tmp 16), 4, none⟩])
 (.cond (.tmp 17)
 (.seq
 (.ops [
 ⟨some 6, .assign (.const (.bool false)), 4, none⟩,
 ⟨some 7, .assign (.const (.bool false)), 4, none⟩])
 .ret)
 .skip))
 (.seq
 (.ops [
 ⟨some 19, .load 31 (.tmp 4), 31, none⟩,
 ⟨some 20, .load 31 (.tmp 3), 31, none⟩,
 ⟨some 21, .move (.tmp 2), 23, none⟩,
 ⟨some 22, .call ⟨(.value (.func 34)), #[(.tmp 19), (.tmp 20), (.tmp 21)], #[31, 31, 23]⟩, 27, none⟩,
 ⟨some 18, .move (.tmp 22), 27, none⟩,
 ⟨some 23, .extract (.tmp 18) 0, 4, none⟩,
 ⟨some 24, .extract (.tmp 18) 1, 4, none⟩,
 ⟨some 8, .assign (.tmp 23), 4, none⟩,
 ⟨some 9, .assign (.tmp 24), 4, none⟩])
 (.seq
 (.ops [
 ⟨some 25, .move (.tmp 9), 4, none⟩,
 ⟨some 26, .move (.tmp 25), 4, none⟩,
 ⟨some 27, .move (.tmp 8), 4, (some (some 26, true))⟩,
 ⟨some 28, .pick (.tmp 26) (.tmp 27) (.const (.bool false)), 4, none⟩,
 ⟨some 29, .move (.tmp 28), 4, none⟩,
 ⟨some 30, .load 31 (.tmp 4), 31, (some (some 29, true))⟩,
 ⟨some 31, .call ⟨(.value (.func 35)), #[(.tmp 30)], #[31]⟩, 4, (some (some 29, true))⟩,
 ⟨some 32, .pick (.tmp 29) (.tmp 31) (.const (.bool false)), 4, none⟩,
 ⟨some 33, .move (.tmp 32), 4, none⟩,
 ⟨some 34, .fieldAddr 31 (.tmp 4) 0, 0, (some (some 33, true))⟩,
 ⟨some 35, .load 29 (.tmp 34), 29, (some (some 33, true))⟩,
 ⟨some 36, .call ⟨(.builtin .len), #[(.tmp 35)], #[29]⟩, 3, (some (some 33, true))⟩,
 ⟨some 37, .fieldAddr 31 (.tmp 3) 0, 0, (some (some 33, true))⟩,
 ⟨some 38, .load 29 (.tmp 37), 29, (some (some 33, true))⟩,
 ⟨some 39, .call ⟨(.builtin .len), #[(.tmp 38)], #[29]⟩, 3, (some (some 33, true))⟩,
 ⟨some 40, .binOp .gtr 3 (.tmp 36) (.tmp 39) 3, 4, (some (some 33, true))⟩,
 ⟨some 41, .pick (.tmp 33) (.tmp 40) (.const (.bool false)), 4, none⟩,
 ⟨some 6, .assign (.tmp 41), 4, none⟩,
 ⟨some 7, .assign (.const (.bool true)), 4, none⟩])
 .ret)))
theorem slim9 : Try.f9.body.map (slim lends) = some k9 := by kernel_rfl
theorem ok9 : fnOk Try.f9 3 = true := by kernel_rfl
theorem c9 {a l : List D} {r : D × List D} (h : wpD Y.env k9 (fin tys l.length [ResultVar.tmp 6, ResultVar.tmp 7] r) (entry a l)) (ha : a.length = 3) : Y.call 9 a l = some r :=
 call_slim (Y := Y) rfl Try.func9 (ha ▸ ok9) slim9 h
theorem s_RefutesSize_call (n_Ends : List (List (Int × Int))) (n_Ids n_Inputs : List Int) (b_Ends : List (List (Int × Int))) (b_Ids b_Inputs m_ : List Int) {r : Bool × Bool} (h : s_RefutesSize n_Ends n_Ids n_Inputs b_Ends b_Ids b_Inputs m_ = some r) : Y.call 9 [D.agg [D.sl 100 (lst (fun x => D.sl 102 (cat2 .i64 .i64 x)) n_Ends), D.sl 3 (lst (D.int .i64) n_Ids), D.sl 3 (lst (D.int .i64) n_Inputs)], D.agg [D.sl 100 (lst (fun x => D.sl 102 (cat2 .i64 .i64 x)) b_Ends), D.sl 3 (lst (D.int .i64) b_Ids), D.sl 3 (lst (D.int .i64) b_Inputs)], D.sl 3 (lst (D.int .i64) m_)] [] = some (D.tup [D.bool r.1, D.bool r.2], []) := by
 refine c9 ?_ rfl
 unfold k9
 unfold s_RefutesSize at h
 obtain ⟨e1, h⟩ := ckS h
 obtain ⟨e2, h⟩ := ckS h
 obtain ⟨e3, h⟩ := ckS h
 have c4 := s_neGood_cl n_Ends n_Ids n_Inputs e1 e2 e3
 by_cases e5 : (isNet n_Ends n_Ids n_Inputs) = true
 ·rw [if_pos e5] at h
  obtain ⟨e6, h⟩ := ckS h
  obtain ⟨e7, h⟩ := ckS h
  obtain ⟨e8, h⟩ := ckS h
  have c9 := s_neGood_cl b_Ends b_Ids b_Inputs e6 e7 e8
  by_cases e10 : (isNet b_Ends b_Ids b_Inputs) = true
  ·rw [if_pos e10] at h
   obtain ⟨r11_, hl11, h⟩ := bindS h
   try dsimp only at h
   have c11 := s_IsCovering_call b_Ends b_Ids b_Inputs n_Ends n_Ids n_Inputs m_ hl11
   by_cases e12 : r11_.2 = true
   ·rw [if_pos e12] at h
    by_cases e13 : r11_.1 = true
    ·rw [if_pos e13] at h
     obtain ⟨r14_, hl14, h⟩ := bindS h
     try dsimp only at h
     have c14 := s_meConnected_call b_Ends b_Ids b_Inputs hl14
     by_cases e15 : r14_ = true
     ·rw [if_pos e15] at h
      cases h
      simp (maxDischargeDepth := 9) only [↓xpre, xpost, xlst, xcore, yset, ↓reduceIte, Nat.reduceEqDiff, Nat.reduceLT, Nat.reduceAdd, c4, e5, c9, e10, c11, e12, e13, c14, e15] <;> (repeat' apply And.intro) <;> first | rfl | exact ⟨_, rfl⟩ | exact ⟨_, _, rfl⟩ | simp [lst, cat2_nil]
     ·rw [if_neg e15] at h
      have e15f : r14_ = false := Bool.eq_false_iff.mpr e15
      cases h
      simp (maxDischargeDepth := 9) only [↓xpre, xpost, xcore, yset, ↓reduceIte, Nat.reduceEqDiff, Nat.reduceLT, Nat.reduceAdd, c4, e5, c9, e10, c11, e12, e13, c14, e15f] <;> (repeat' apply And.intro) <;> first | rfl | exact ⟨_, rfl⟩ | exact ⟨_, _, rfl⟩ | simp [lst, cat2_nil]
    ·rw [if_neg e13] at h
     have e13f : r11_.1 = false := Bool.eq_false_iff.mpr e13
     cases h
     simp (maxDischargeDepth := 9) only [↓xpre, xpost, xcore, yset, ↓reduceIte, Nat.reduceEqDiff, Nat.reduceLT, Nat.reduceAdd, c4, e5, c9, e10, c11, e12, e13f] <;> (repeat' apply And.intro) <;> first | rfl | exact ⟨_, rfl⟩ | exact ⟨_, _, rfl⟩ | simp [lst, cat2_nil]
   ·rw [if_neg e12] at h
    have e12f : r11_.2 = false := Bool.eq_false_iff.mpr e12
    cases h
    simp (maxDischargeDepth := 9) only [↓xpre, xpost, xcore, yset, ↓reduceIte, Nat.reduceEqDiff, Nat.reduceLT, Nat.reduceAdd, c4, e5, c9, e10, c11, e12f] <;> (repeat' apply And.intro) <;> first | rfl | exact ⟨_, rfl⟩ | exact ⟨_, _, rfl⟩ | simp [lst, cat2_nil]
  ·rw [if_neg e10] at h
   have e10f : (isNet b_Ends b_Ids b_Inputs) = false := Bool.eq_false_iff.mpr e10
   cases h
   simp (maxDischargeDepth := 9) only [↓xpre, xpost, xcore, yset, ↓reduceIte, Nat.reduceEqDiff, Nat.reduceLT, Nat.reduceAdd, c4, e5, c9, e10f] <;> (repeat' apply And.intro) <;> first | rfl | exact ⟨_, rfl⟩ | exact ⟨_, _, rfl⟩ | simp [lst, cat2_nil]
 ·rw [if_neg e5] at h
  have e5f : (isNet n_Ends n_Ids n_Inputs) = false := Bool.eq_false_iff.mpr e5
  cases h
  simp (maxDischargeDepth := 9) only [↓xpre, xpost, xcore, yset, ↓reduceIte, Nat.reduceEqDiff, Nat.reduceLT, Nat.reduceAdd, c4, e5f] <;> (repeat' apply And.intro) <;> first | rfl | exact ⟨_, rfl⟩ | exact ⟨_, _, rfl⟩ | simp [lst, cat2_nil]


end Go.Proofs.Ytipfckompmhljaa
