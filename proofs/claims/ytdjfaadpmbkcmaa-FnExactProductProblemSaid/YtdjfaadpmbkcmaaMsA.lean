/- The product of two problems, lifted. Conditions: none. -/
import Derived.Test.YtdjfaadpmbkcmaaL6
import Derived.Test.YtdjfaadpmbkcmaaIsP
import Derived.Test.YtdjfaadpmbkcmaaHas
import Derived.Test.YtdjfaadpmbkcmaaSrt
namespace Go.Proofs.Ytdjfaadpmbkcmaa
open Go Dv
set_option linter.unusedSimpArgs false
set_option linter.unusedVariables false
set_option maxRecDepth 100000
set_option maxHeartbeats 4000000

noncomputable def i_areProblems (p_Labels : Int) (p_Degree : Int) (p_Nodes : List (List Int)) (p_Edges : List (List Int)) (q_Labels : Int) (q_Degree : Int) (q_Nodes : List (List Int)) (q_Edges : List (List Int)) : Option (Bool) :=
 ck (Short p_Nodes) <|
 ck (Short p_Edges) <|
 if (isProb p_Labels p_Degree p_Nodes p_Edges) = true then
  ck (Short q_Nodes) <|
  ck (Short q_Edges) <|
  if (isProb q_Labels q_Degree q_Nodes q_Edges) = true then
   some (decide (p_Degree = q_Degree))
  else
   some false
 else
  some false
/-- impl.areProblems -/
def k31 : SC :=
 .seq
 (.ops [
 ⟨(some 2), (.box 26 (.tmp 0)), 0, none⟩,
 ⟨(some 3), (.box 26 (.tmp 1)), 0, none⟩,
 ⟨(some 4), (.assign (.const (.bool false))), 4, none⟩])
 (.seq
 (.ops [
 ⟨(some 5), (.load 26 (.tmp 2)), 26, none⟩,
 ⟨(some 6), (.call ⟨(.value (.func 44)), #[(.tmp 5)], #[26]⟩), 4, none⟩,
 ⟨(some 7), (.move (.tmp 6)), 4, none⟩,
 ⟨(some 8), (.load 26 (.tmp 3)), 26, (some (some 7, true))⟩,
 ⟨(some 9), (.call ⟨(.value (.func 44)), #[(.tmp 8)], #[26]⟩), 4, (some (some 7, true))⟩,
 ⟨(some 10), (.pick (.tmp 7) (.tmp 9) (.const (.bool false))), 4, none⟩,
 ⟨(some 11), (.move (.tmp 10)), 4, none⟩,
 ⟨(some 12), (.fieldAddr 26 (.tmp 2) 1), 0, (some (some 11, true))⟩,
 ⟨(some 13), (.load 3 (.tmp 12)), 3, (some (some 11, true))⟩,
 ⟨(some 14), (.fieldAddr 26 (.tmp 3) 1), 0, (some (some 11, true))⟩,
 ⟨(some 15), (.load 3 (.tmp 14)), 3, (some (some 11, true))⟩,
 ⟨(some 16), (.binOp .eql 3 (.tmp 13) (.tmp 15) 3), 4, (some (some 11, true))⟩,
 ⟨(some 17), (.pick (.tmp 11) (.tmp 16) (.const (.bool false))), 4, none⟩,
 ⟨(some 4), (.assign (.tmp 17)), 4, none⟩])
 .ret)
theorem slim31 : Try.f31.body.map (slim lends) = some k31 := by kernel_rfl
theorem ok31 : fnOk Try.f31 2 = true := by kernel_rfl
theorem c31 {a l : List D} {r : D × List D} (h : wpD Y.env k31 (fin tys l.length [ResultVar.tmp 4] r) (entry a l)) (ha : a.length = 2) : Y.call 31 a l = some r :=
 call_slim (Y := Y) rfl Try.func31 (ha ▸ ok31) slim31 h
theorem i_areProblems_call (p_Labels : Int) (p_Degree : Int) (p_Nodes : List (List Int)) (p_Edges : List (List Int)) (q_Labels : Int) (q_Degree : Int) (q_Nodes : List (List Int)) (q_Edges : List (List Int)) {r : Bool} (h : i_areProblems p_Labels p_Degree p_Nodes p_Edges q_Labels q_Degree q_Nodes q_Edges = some r) : Y.call 31 [D.agg [D.int .i64 p_Labels, D.int .i64 p_Degree, D.sl 33 (lst (fun x => D.sl 3 (lst (D.int .i64) x)) p_Nodes), D.sl 33 (lst (fun x => D.sl 3 (lst (D.int .i64) x)) p_Edges)], D.agg [D.int .i64 q_Labels, D.int .i64 q_Degree, D.sl 33 (lst (fun x => D.sl 3 (lst (D.int .i64) x)) q_Nodes), D.sl 33 (lst (fun x => D.sl 3 (lst (D.int .i64) x)) q_Edges)]] [] = some (D.bool r, []) := by
 refine c31 ?_ rfl
 unfold k31
 unfold i_areProblems at h
 obtain ⟨e1, h⟩ := ckS h
 obtain ⟨e2, h⟩ := ckS h
 have c3 := i_IsProblem_cl p_Labels p_Degree p_Nodes p_Edges e1 e2
 by_cases e4 : (isProb p_Labels p_Degree p_Nodes p_Edges) = true
 ·rw [if_pos e4] at h
  obtain ⟨e5, h⟩ := ckS h
  obtain ⟨e6, h⟩ := ckS h
  have c7 := i_IsProblem_cl q_Labels q_Degree q_Nodes q_Edges e5 e6
  by_cases e8 : (isProb q_Labels q_Degree q_Nodes q_Edges) = true
  ·rw [if_pos e8] at h
   obtain rfl := Option.some.inj h
   simp (maxDischargeDepth := 9) only [↓xpre, xpost, xlst, xc2, xcore, yset, rg0, ↓reduceIte, Nat.reduceEqDiff, Nat.reduceLT, Nat.reduceLeDiff, Nat.reduceAdd, Nat.reduceMul, Nat.reduceMod, Nat.reduceSub, Nat.reduceBEq, Int.reduceLE, Int.reduceLT, Int.reduceEq, Int.reduceSub, Int.reduceAdd, Int.reduceToNat, Int.reduceNeg, e1, e2, c3, e4, e5, e6, c7, e8] <;> (repeat' apply And.intro) <;> first | rfl | exact ⟨_, rfl⟩ | simp [lst, cat2_nil]
  ·rw [if_neg e8] at h
   have e8f : (isProb q_Labels q_Degree q_Nodes q_Edges) = false := Bool.eq_false_iff.mpr e8
   obtain rfl := Option.some.inj h
   simp (maxDischargeDepth := 9) only [↓xpre, xpost, xlst, xc2, xcore, yset, rg0, ↓reduceIte, Nat.reduceEqDiff, Nat.reduceLT, Nat.reduceLeDiff, Nat.reduceAdd, Nat.reduceMul, Nat.reduceMod, Nat.reduceSub, Nat.reduceBEq, Int.reduceLE, Int.reduceLT, Int.reduceEq, Int.reduceSub, Int.reduceAdd, Int.reduceToNat, Int.reduceNeg, e1, e2, c3, e4, e5, e6, c7, e8f] <;> (repeat' apply And.intro) <;> first | rfl | exact ⟨_, rfl⟩ | simp [lst, cat2_nil]
 ·rw [if_neg e4] at h
  have e4f : (isProb p_Labels p_Degree p_Nodes p_Edges) = false := Bool.eq_false_iff.mpr e4
  obtain rfl := Option.some.inj h
  simp (maxDischargeDepth := 9) only [↓xpre, xpost, xlst, xc2, xcore, yset, rg0, ↓reduceIte, Nat.reduceEqDiff, Nat.reduceLT, Nat.reduceLeDiff, Nat.reduceAdd, Nat.reduceMul, Nat.reduceMod, Nat.reduceSub, Nat.reduceBEq, Int.reduceLE, Int.reduceLT, Int.reduceEq, Int.reduceSub, Int.reduceAdd, Int.reduceToNat, Int.reduceNeg, e1, e2, c3, e4f] <;> (repeat' apply And.intro) <;> first | rfl | exact ⟨_, rfl⟩ | simp [lst, cat2_nil]

theorem g_slices_Clone_Sint_int_cl (xs : List Int) (h : xs.length < 1099511627776) : Y.call 84 [.sl 3 (lst (D.int .i64) xs)] [] = some (.own 3 (lst (D.int .i64) xs), []) := by
 refine clone_84 (lst (D.int .i64) xs) (by rw [lst_length]; exact h) (lst_solid _ _ (fun x => rfl)) (lst_hasObj _ _ (fun x => by first | exact hoI .. | exact hoSl .. | exact hoB .. | exact hoS ..)) ?_
 simp (maxDischargeDepth := 9) only [↓xpre, xpost, xlst, xc2, xcore, yset, rg0, ↓reduceIte, Nat.reduceEqDiff, Nat.reduceLT, Nat.reduceLeDiff, Nat.reduceAdd, Nat.reduceMul, Nat.reduceMod, Nat.reduceSub, Nat.reduceBEq, Int.reduceLE, Int.reduceLT, Int.reduceEq, Int.reduceSub, Int.reduceAdd, Int.reduceToNat, Int.reduceNeg, Option.isSome_some]

noncomputable def i_multisets_l0_S (labels : Int) (size : Int) (out : List (List Int)) (t13_ : Int) (t17_ : Int) (next1 : List (List Int)) (a : Int) : Option (((List (List Int)) × Int) ⊕ ((List (List Int)))) :=
 if a < labels then
  ck (t17_.toNat < out.length) <|
  ck ((out.getD t17_.toNat default).length < 1099511627776) <|
  ck ((out.getD t17_.toNat default).length + 1 < 1099511627776) <|
  ck (next1.length + 1 < 1099511627776) <|
  some (Sum.inl ((next1 ++ [((out.getD t17_.toNat default) ++ [a])]), IntKind.i64.wrap (a + 1)))
 else
  some (Sum.inr next1)
noncomputable def i_multisets_l0 (labels : Int) (size : Int) (out : List (List Int)) (t13_ : Int) (t17_ : Int) (v : (List (List Int)) × Int) : Option ((List (List Int))) := itO (fun v => i_multisets_l0_S labels size out t13_ t17_ v.1 v.2) v
noncomputable def i_multisets_l1_S (labels : Int) (size : Int) (out : List (List Int)) (t13_ : Int) (next : List (List Int)) (t17_ : Int) : Option (((List (List Int)) × Int) ⊕ ((List (List Int)))) :=
 if t17_ < (out.length : Int) then
  ck (0 ≤ t17_ ∧ t17_.toNat < out.length) <|
  if 0 < ((out.getD t17_.toNat default).length : Int) then
   ck (0 ≤ IntKind.i64.wrap (((out.getD t17_.toNat default).length : Int) - 1) ∧ (IntKind.i64.wrap (((out.getD t17_.toNat default).length : Int) - 1)).toNat < (out.getD t17_.toNat default).length) <|
   (i_multisets_l0 labels size out t13_ t17_ (next, ((out.getD t17_.toNat default).getD ((IntKind.i64.wrap (((out.getD t17_.toNat default).length : Int) - 1)).toNat) default))).bind fun r7_ =>
   some (Sum.inl (r7_, IntKind.i64.wrap (t17_ + 1)))
  else
   (i_multisets_l0 labels size out t13_ t17_ (next, 0)).bind fun r6_ =>
   some (Sum.inl (r6_, IntKind.i64.wrap (t17_ + 1)))
 else
  some (Sum.inr next)
noncomputable def i_multisets_l1 (labels : Int) (size : Int) (out : List (List Int)) (t13_ : Int) (v : (List (List Int)) × Int) : Option ((List (List Int))) := itO (fun v => i_multisets_l1_S labels size out t13_ v.1 v.2) v
noncomputable def i_multisets_l2_S (labels : Int) (size : Int) (out : List (List Int)) (t13_ : Int) : Option (((List (List Int)) × Int) ⊕ ((List (List Int)))) :=
 if t13_ < size then
  (i_multisets_l1 labels size out t13_ ([], 0)).bind fun r3_ =>
  some (Sum.inl (r3_, IntKind.i64.wrap (t13_ + 1)))
 else
  some (Sum.inr out)
noncomputable def i_multisets_l2 (labels : Int) (size : Int) (v : (List (List Int)) × Int) : Option ((List (List Int))) := itO (fun v => i_multisets_l2_S labels size v.1 v.2) v
noncomputable def i_multisets (labels : Int) (size : Int) : Option ((List (List Int))) :=
 (i_multisets_l2 labels size ([[]], 0)).bind fun r2_ =>
 some r2_
/-- impl.multisets -/
def k63_l0b : SC :=
 .seq
 (.seq
 (.ops [
 ⟨(some 31), (.move (.tmp 10)), 3, none⟩,
 ⟨(some 32), (.move (.tmp 0)), 3, none⟩,
 ⟨(some 33), (.binOp .lss 3 (.tmp 31) (.tmp 32) 3), 4, none⟩])
 (.cond (.tmp 33)
 .skip
 (.exit 4)))
 (.seq
 (.block 5
 (.ops [
 ⟨(some 36), (.move (.tmp 6)), 22, none⟩,
 ⟨(some 37), (.move (.tmp 8)), 33, none⟩,
 ⟨(some 38), (.call ⟨(.value (.func 84)), #[(.tmp 37)], #[33]⟩), 33, none⟩,
 ⟨(some 39), (.move (.tmp 10)), 3, none⟩,
 ⟨(some 40), (.buildSlice 33 1 #[(0, (.tmp 39))]), 33, none⟩,
 ⟨(some 41), (.call ⟨(.builtin .append), #[(.tmp 38), (.tmp 40)], #[33, 33]⟩), 33, none⟩,
 ⟨(some 42), (.buildSlice 22 1 #[(0, (.tmp 41))]), 22, none⟩,
 ⟨(some 43), (.call ⟨(.builtin .append), #[(.tmp 36), (.tmp 42)], #[22, 22]⟩), 22, none⟩,
 ⟨(some 6), (.assign (.tmp 43)), 22, none⟩]))
 (.ops [
 ⟨(some 34), (.move (.tmp 10)), 3, none⟩,
 ⟨(some 35), (.binOp .add 3 (.tmp 34) (.const (.int .i64 1)) 3), 3, none⟩,
 ⟨(some 10), (.assign (.tmp 35)), 3, none⟩]))
def k63_l0 : SC := .loop k63_l0b
def k63_l1b : SC :=
 .seq
 (.ops [
 ⟨(some 18), (.binOp .lss 3 (.tmp 17) (.tmp 16) 3), 0, none⟩])
 (.seq
 (.cond (.tmp 18)
 .skip
 (.exit 2))
 (.seq
 (.block 3
 (.seq
 (.ops [
 ⟨(some 19), (.indexAddr 22 (.tmp 15) (.tmp 17)), 0, none⟩,
 ⟨(some 20), (.load 33 (.tmp 19)), 33, none⟩,
 ⟨(some 8), (.assign (.tmp 20)), 33, none⟩])
 (.seq
 (.ops [
 ⟨(some 9), (.assign (.const (.int .i64 0))), 3, none⟩])
 (.seq
 (.seq
 (.ops [
 ⟨(some 21), (.move (.tmp 8)), 33, none⟩,
 ⟨(some 22), (.call ⟨(.builtin .len), #[(.tmp 21)], #[33]⟩), 3, none⟩,
 ⟨(some 23), (.binOp .gtr 3 (.tmp 22) (.const (.int .i64 0)) 3), 4, none⟩])
 (.cond (.tmp 23)
 (.ops [
 ⟨(some 24), (.move (.tmp 8)), 33, none⟩,
 ⟨(some 25), (.move (.tmp 8)), 33, none⟩,
 ⟨(some 26), (.call ⟨(.builtin .len), #[(.tmp 25)], #[33]⟩), 3, none⟩,
 ⟨(some 27), (.binOp .sub 3 (.tmp 26) (.const (.int .i64 1)) 3), 3, none⟩,
 ⟨(some 28), (.indexAddr 33 (.tmp 24) (.tmp 27)), 0, none⟩,
 ⟨(some 29), (.load 3 (.tmp 28)), 3, none⟩,
 ⟨(some 9), (.assign (.tmp 29)), 3, none⟩])
 .skip))
 (.seq
 (.ops [
 ⟨(some 30), (.move (.tmp 9)), 3, none⟩,
 ⟨(some 10), (.assign (.tmp 30)), 3, none⟩])
 (.block 4
 k63_l0))))))
 (.ops [
 ⟨(some 44), (.binOp .add 3 (.tmp 17) (.const (.int .i64 1)) 3), 3, none⟩,
 ⟨(some 17), (.move (.tmp 44)), 3, none⟩])))
def k63_l1 : SC := .loop k63_l1b
def k63_l2b : SC :=
 .seq
 (.ops [
 ⟨(some 14), (.binOp .lss 3 (.tmp 13) (.tmp 12) 3), 4, none⟩])
 (.seq
 (.cond (.tmp 14)
 .skip
 (.exit 0))
 (.seq
 (.block 1
 (.seq
 (.ops [
 ⟨(some 6), (.assign (.const (.slice none 0 0))), 22, none⟩])
 (.seq
 (.seq
 (.ops [
 ⟨(some 15), (.move (.tmp 5)), 22, none⟩,
 ⟨(some 16), (.call ⟨(.builtin .len), #[(.tmp 15)], #[22]⟩), 3, none⟩,
 ⟨(some 17), (.move (.const (.int .i64 0))), 3, none⟩])
 (.block 2
 k63_l1))
 (.ops [
 ⟨(some 45), (.move (.tmp 6)), 22, none⟩,
 ⟨(some 5), (.assign (.tmp 45)), 22, none⟩]))))
 (.ops [
 ⟨(some 46), (.binOp .add 3 (.tmp 13) (.const (.int .i64 1)) 3), 3, none⟩,
 ⟨(some 13), (.move (.tmp 46)), 3, none⟩])))
def k63_l2 : SC := .loop k63_l2b
def k63 : SC :=
 .seq
 (.ops [
 ⟨(some 4), (.assign (.const (.slice none 0 0))), 22, none⟩])
 (.seq
 (.ops [
 ⟨(some 11), (.buildSlice 22 1 #[(0, (.const (.slice none 0 0)))]), 22, none⟩,
 ⟨(some 5), (.assign (.tmp 11)), 22, none⟩])
 (.seq
 (.seq
 (.ops [
 ⟨(some 12), (.move (.tmp 1)), 3, none⟩,
 ⟨(some 13), (.move (.const (.int .i64 0))), 3, none⟩])
 (.block 0
 k63_l2))
 (.seq
 (.ops [
 ⟨(some 47), (.move (.tmp 5)), 22, none⟩,
 ⟨(some 4), (.assign (.tmp 47)), 22, none⟩])
 .ret)))
theorem slim63 : Try.f63.body.map (slim lends) = some k63 := by kernel_rfl
theorem ok63 : fnOk Try.f63 2 = true := by kernel_rfl
theorem c63 {a l : List D} {r : D × List D} (h : wpD Y.env k63 (fin tys l.length [ResultVar.tmp 4] r) (entry a l)) (ha : a.length = 2) : Y.call 63 a l = some r :=
 call_slim (Y := Y) rfl Try.func63 (ha ▸ ok63) slim63 h
def i_multisets_l0_M (labels : Int) (size : Int) (out : List (List Int)) (t13_ : Int) (t17_ : Int) (next1 : List (List Int)) (a : Int) (s : St) : Prop := s.v 0 = D.int .i64 labels ∧ s.v 5 = D.own 33 (lst (fun x => D.own 3 (lst (D.int .i64) x)) out) ∧ s.v 6 = D.own 33 (lst (fun x => D.own 3 (lst (D.int .i64) x)) next1) ∧ s.v 8 = D.vw [5, t17_.toNat] (s.k 5) (s.m 5) ∧ s.v 10 = D.int .i64 a ∧ s.v 12 = D.int .i64 size ∧ s.v 13 = D.int .i64 t13_ ∧ (∃ w_, s.v 15 = D.vw [5] (s.k 5) w_) ∧ s.v 16 = D.int .i64 (out.length : Int) ∧ s.v 17 = D.int .i64 t17_
def i_multisets_l0_X (labels : Int) (size : Int) (out : List (List Int)) (t13_ : Int) (t17_ : Int) (r : (List (List Int))) (ex : Ex) (s : St) : Prop := ex = .exit 4 ∧ s.v 0 = D.int .i64 labels ∧ s.v 5 = D.own 33 (lst (fun x => D.own 3 (lst (D.int .i64) x)) out) ∧ s.v 6 = D.own 33 (lst (fun x => D.own 3 (lst (D.int .i64) x)) r) ∧ s.v 12 = D.int .i64 size ∧ s.v 13 = D.int .i64 t13_ ∧ (∃ w_, s.v 15 = D.vw [5] (s.k 5) w_) ∧ s.v 16 = D.int .i64 (out.length : Int) ∧ s.v 17 = D.int .i64 t17_
theorem i_multisets_l0_wp (labels : Int) (size : Int) (out : List (List Int)) (t13_ : Int) (t17_ : Int) {v : (List (List Int)) × Int} {s : St} {r : (List (List Int))} (h : i_multisets_l0 labels size out t13_ t17_ v = some r) (hM : i_multisets_l0_M labels size out t13_ t17_ v.1 v.2 s) : wpD Y.env k63_l0 (i_multisets_l0_X labels size out t13_ t17_ r) s := by
 unfold i_multisets_l0 at h
 refine wd_itO (c := k63_l0b) (fun v => i_multisets_l0_S labels size out t13_ t17_ v.1 v.2) (fun v s => i_multisets_l0_M labels size out t13_ t17_ v.1 v.2 s) (i_multisets_l0_X labels size out t13_ t17_) ?_ h hM
 clear h hM s v r
 intro v s o hM h
 obtain ⟨next1, a⟩ := v
 dsimp only at h hM
 unfold i_multisets_l0_S at h
 unfold i_multisets_l0_M at hM
 obtain ⟨m0, m1, m2, m3, m4, m5, m6, ⟨w7_, m7⟩, m8, m9⟩ := hM
 unfold k63_l0b
 by_cases e6 : a < labels
 ·rw [if_pos e6] at h
  obtain ⟨e7, h⟩ := ckS h
  obtain ⟨e8, h⟩ := ckS h
  have c9 := g_slices_Clone_Sint_int_cl (out.getD t17_.toNat default) e8
  obtain ⟨e10, h⟩ := ckS h
  obtain ⟨e11, h⟩ := ckS h
  obtain rfl := Option.some.inj h
  simp (maxDischargeDepth := 9) only [↓xpre, xpost, xlst, xc2, xcore, yset, rg0, ↓reduceIte, Nat.reduceEqDiff, Nat.reduceLT, Nat.reduceLeDiff, Nat.reduceAdd, Nat.reduceMul, Nat.reduceMod, Nat.reduceSub, Nat.reduceBEq, Int.reduceLE, Int.reduceLT, Int.reduceEq, Int.reduceSub, Int.reduceAdd, Int.reduceToNat, Int.reduceNeg, m0, m1, m2, m3, m4, m5, m6, m7, m8, m9, e6, e7, e8, c9, e10, e11, i_multisets_l0_M, i_multisets_l0_X, sxN, sxE, sxR] <;> (repeat' apply And.intro) <;> first | rfl | exact ⟨_, rfl⟩ | simp [lst, cat2_nil]
 ·rw [if_neg e6] at h
  obtain rfl := Option.some.inj h
  simp (maxDischargeDepth := 9) only [↓xpre, xpost, xlst, xc2, xcore, yset, rg0, ↓reduceIte, Nat.reduceEqDiff, Nat.reduceLT, Nat.reduceLeDiff, Nat.reduceAdd, Nat.reduceMul, Nat.reduceMod, Nat.reduceSub, Nat.reduceBEq, Int.reduceLE, Int.reduceLT, Int.reduceEq, Int.reduceSub, Int.reduceAdd, Int.reduceToNat, Int.reduceNeg, m0, m1, m2, m3, m4, m5, m6, m7, m8, m9, e6, i_multisets_l0_M, i_multisets_l0_X, sxN, sxE, sxR] <;> (repeat' apply And.intro) <;> first | rfl | exact ⟨_, rfl⟩ | simp [lst, cat2_nil]
def i_multisets_l1_M (labels : Int) (size : Int) (out : List (List Int)) (t13_ : Int) (next : List (List Int)) (t17_ : Int) (s : St) : Prop := s.v 0 = D.int .i64 labels ∧ s.v 5 = D.own 33 (lst (fun x => D.own 3 (lst (D.int .i64) x)) out) ∧ s.v 6 = D.own 33 (lst (fun x => D.own 3 (lst (D.int .i64) x)) next) ∧ s.v 12 = D.int .i64 size ∧ s.v 13 = D.int .i64 t13_ ∧ (∃ w_, s.v 15 = D.vw [5] (s.k 5) w_) ∧ s.v 16 = D.int .i64 (out.length : Int) ∧ s.v 17 = D.int .i64 t17_
def i_multisets_l1_X (labels : Int) (size : Int) (out : List (List Int)) (t13_ : Int) (r : (List (List Int))) (ex : Ex) (s : St) : Prop := ex = .exit 2 ∧ s.v 0 = D.int .i64 labels ∧ s.v 6 = D.own 33 (lst (fun x => D.own 3 (lst (D.int .i64) x)) r) ∧ s.v 12 = D.int .i64 size ∧ s.v 13 = D.int .i64 t13_
theorem i_multisets_l1_wp (labels : Int) (size : Int) (out : List (List Int)) (t13_ : Int) {v : (List (List Int)) × Int} {s : St} {r : (List (List Int))} (h : i_multisets_l1 labels size out t13_ v = some r) (hM : i_multisets_l1_M labels size out t13_ v.1 v.2 s) : wpD Y.env k63_l1 (i_multisets_l1_X labels size out t13_ r) s := by
 unfold i_multisets_l1 at h
 refine wd_itO (c := k63_l1b) (fun v => i_multisets_l1_S labels size out t13_ v.1 v.2) (fun v s => i_multisets_l1_M labels size out t13_ v.1 v.2 s) (i_multisets_l1_X labels size out t13_) ?_ h hM
 clear h hM s v r
 intro v s o hM h
 obtain ⟨next, t17_⟩ := v
 dsimp only at h hM
 unfold i_multisets_l1_S at h
 unfold i_multisets_l1_M at hM
 obtain ⟨m0, m1, m2, m3, m4, ⟨w5_, m5⟩, m6, m7⟩ := hM
 unfold k63_l1b
 by_cases e2 : t17_ < (out.length : Int)
 ·rw [if_pos e2] at h
  obtain ⟨e3, h⟩ := ckS h
  by_cases e4 : 0 < ((out.getD t17_.toNat default).length : Int)
  ·rw [if_pos e4] at h
   obtain ⟨e5, h⟩ := ckS h
   obtain ⟨r7_, hl7, h⟩ := bindS h
   try dsimp only at h
   simp (maxDischargeDepth := 9) only [↓xpre, xpost, xlst, xc2, xcore, yset, rg0, ↓reduceIte, Nat.reduceEqDiff, Nat.reduceLT, Nat.reduceLeDiff, Nat.reduceAdd, Nat.reduceMul, Nat.reduceMod, Nat.reduceSub, Nat.reduceBEq, Int.reduceLE, Int.reduceLT, Int.reduceEq, Int.reduceSub, Int.reduceAdd, Int.reduceToNat, Int.reduceNeg, m0, m1, m2, m3, m4, m5, m6, m7, e2, e3.1, e3.2, e4, e5.1, e5.2]
   refine wd_mono (i_multisets_l0_wp labels size out t13_ t17_ hl7 ?_) ?_
   ·simp (maxDischargeDepth := 9) only [↓xpre, xpost, xlst, xc2, xcore, yset, rg0, ↓reduceIte, Nat.reduceEqDiff, Nat.reduceLT, Nat.reduceLeDiff, Nat.reduceAdd, Nat.reduceMul, Nat.reduceMod, Nat.reduceSub, Nat.reduceBEq, Int.reduceLE, Int.reduceLT, Int.reduceEq, Int.reduceSub, Int.reduceAdd, Int.reduceToNat, Int.reduceNeg, m0, m1, m2, m3, m4, m5, m6, m7, e2, e3.1, e3.2, e4, e5.1, e5.2, i_multisets_l0_M] <;> (repeat' apply And.intro) <;> first | rfl | exact ⟨_, rfl⟩ | simp [lst, cat2_nil]
   ·intro ex7 s7 hX7
    unfold i_multisets_l0_X at hX7
    obtain ⟨rfl, n7_0, n7_1, n7_2, n7_3, n7_4, ⟨w5_, n7_5⟩, n7_6, n7_7⟩ := hX7
    obtain rfl := Option.some.inj h
    simp (maxDischargeDepth := 9) only [↓xpre, xpost, xlst, xc2, xcore, yset, rg0, ↓reduceIte, Nat.reduceEqDiff, Nat.reduceLT, Nat.reduceLeDiff, Nat.reduceAdd, Nat.reduceMul, Nat.reduceMod, Nat.reduceSub, Nat.reduceBEq, Int.reduceLE, Int.reduceLT, Int.reduceEq, Int.reduceSub, Int.reduceAdd, Int.reduceToNat, Int.reduceNeg, e2, e3.1, e3.2, e4, e5.1, e5.2, n7_0, n7_1, n7_2, n7_3, n7_4, n7_5, n7_6, n7_7, i_multisets_l1_M, i_multisets_l1_X, sxN, sxE, sxR] <;> (repeat' apply And.intro) <;> first | rfl | exact ⟨_, rfl⟩ | simp [lst, cat2_nil]
  ·rw [if_neg e4] at h
   obtain ⟨r6_, hl6, h⟩ := bindS h
   try dsimp only at h
   simp (maxDischargeDepth := 9) only [↓xpre, xpost, xlst, xc2, xcore, yset, rg0, ↓reduceIte, Nat.reduceEqDiff, Nat.reduceLT, Nat.reduceLeDiff, Nat.reduceAdd, Nat.reduceMul, Nat.reduceMod, Nat.reduceSub, Nat.reduceBEq, Int.reduceLE, Int.reduceLT, Int.reduceEq, Int.reduceSub, Int.reduceAdd, Int.reduceToNat, Int.reduceNeg, m0, m1, m2, m3, m4, m5, m6, m7, e2, e3.1, e3.2, e4]
   refine wd_mono (i_multisets_l0_wp labels size out t13_ t17_ hl6 ?_) ?_
   ·simp (maxDischargeDepth := 9) only [↓xpre, xpost, xlst, xc2, xcore, yset, rg0, ↓reduceIte, Nat.reduceEqDiff, Nat.reduceLT, Nat.reduceLeDiff, Nat.reduceAdd, Nat.reduceMul, Nat.reduceMod, Nat.reduceSub, Nat.reduceBEq, Int.reduceLE, Int.reduceLT, Int.reduceEq, Int.reduceSub, Int.reduceAdd, Int.reduceToNat, Int.reduceNeg, m0, m1, m2, m3, m4, m5, m6, m7, e2, e3.1, e3.2, e4, i_multisets_l0_M] <;> (repeat' apply And.intro) <;> first | rfl | exact ⟨_, rfl⟩ | simp [lst, cat2_nil]
   ·intro ex6 s6 hX6
    unfold i_multisets_l0_X at hX6
    obtain ⟨rfl, n6_0, n6_1, n6_2, n6_3, n6_4, ⟨w5_, n6_5⟩, n6_6, n6_7⟩ := hX6
    obtain rfl := Option.some.inj h
    simp (maxDischargeDepth := 9) only [↓xpre, xpost, xlst, xc2, xcore, yset, rg0, ↓reduceIte, Nat.reduceEqDiff, Nat.reduceLT, Nat.reduceLeDiff, Nat.reduceAdd, Nat.reduceMul, Nat.reduceMod, Nat.reduceSub, Nat.reduceBEq, Int.reduceLE, Int.reduceLT, Int.reduceEq, Int.reduceSub, Int.reduceAdd, Int.reduceToNat, Int.reduceNeg, e2, e3.1, e3.2, e4, n6_0, n6_1, n6_2, n6_3, n6_4, n6_5, n6_6, n6_7, i_multisets_l1_M, i_multisets_l1_X, sxN, sxE, sxR] <;> (repeat' apply And.intro) <;> first | rfl | exact ⟨_, rfl⟩ | simp [lst, cat2_nil]
 ·rw [if_neg e2] at h
  obtain rfl := Option.some.inj h
  simp (maxDischargeDepth := 9) only [↓xpre, xpost, xlst, xc2, xcore, yset, rg0, ↓reduceIte, Nat.reduceEqDiff, Nat.reduceLT, Nat.reduceLeDiff, Nat.reduceAdd, Nat.reduceMul, Nat.reduceMod, Nat.reduceSub, Nat.reduceBEq, Int.reduceLE, Int.reduceLT, Int.reduceEq, Int.reduceSub, Int.reduceAdd, Int.reduceToNat, Int.reduceNeg, m0, m1, m2, m3, m4, m5, m6, m7, e2, i_multisets_l1_M, i_multisets_l1_X, sxN, sxE, sxR] <;> (repeat' apply And.intro) <;> first | rfl | exact ⟨_, rfl⟩ | simp [lst, cat2_nil]
def i_multisets_l2_M (labels : Int) (size : Int) (out : List (List Int)) (t13_ : Int) (s : St) : Prop := s.v 0 = D.int .i64 labels ∧ s.v 5 = D.own 33 (lst (fun x => D.own 3 (lst (D.int .i64) x)) out) ∧ s.v 12 = D.int .i64 size ∧ s.v 13 = D.int .i64 t13_
def i_multisets_l2_X (labels : Int) (size : Int) (r : (List (List Int))) (ex : Ex) (s : St) : Prop := ex = .exit 0 ∧ s.v 5 = D.own 33 (lst (fun x => D.own 3 (lst (D.int .i64) x)) r)
theorem i_multisets_l2_wp (labels : Int) (size : Int) {v : (List (List Int)) × Int} {s : St} {r : (List (List Int))} (h : i_multisets_l2 labels size v = some r) (hM : i_multisets_l2_M labels size v.1 v.2 s) : wpD Y.env k63_l2 (i_multisets_l2_X labels size r) s := by
 unfold i_multisets_l2 at h
 refine wd_itO (c := k63_l2b) (fun v => i_multisets_l2_S labels size v.1 v.2) (fun v s => i_multisets_l2_M labels size v.1 v.2 s) (i_multisets_l2_X labels size) ?_ h hM
 clear h hM s v r
 intro v s o hM h
 obtain ⟨out, t13_⟩ := v
 dsimp only at h hM
 unfold i_multisets_l2_S at h
 unfold i_multisets_l2_M at hM
 obtain ⟨m0, m1, m2, m3⟩ := hM
 unfold k63_l2b
 by_cases e1 : t13_ < size
 ·rw [if_pos e1] at h
  obtain ⟨r3_, hl3, h⟩ := bindS h
  try dsimp only at h
  simp (maxDischargeDepth := 9) only [↓xpre, xpost, xlst, xc2, xcore, yset, rg0, ↓reduceIte, Nat.reduceEqDiff, Nat.reduceLT, Nat.reduceLeDiff, Nat.reduceAdd, Nat.reduceMul, Nat.reduceMod, Nat.reduceSub, Nat.reduceBEq, Int.reduceLE, Int.reduceLT, Int.reduceEq, Int.reduceSub, Int.reduceAdd, Int.reduceToNat, Int.reduceNeg, m0, m1, m2, m3, e1]
  refine wd_mono (i_multisets_l1_wp labels size out t13_ hl3 ?_) ?_
  ·simp (maxDischargeDepth := 9) only [↓xpre, xpost, xlst, xc2, xcore, yset, rg0, ↓reduceIte, Nat.reduceEqDiff, Nat.reduceLT, Nat.reduceLeDiff, Nat.reduceAdd, Nat.reduceMul, Nat.reduceMod, Nat.reduceSub, Nat.reduceBEq, Int.reduceLE, Int.reduceLT, Int.reduceEq, Int.reduceSub, Int.reduceAdd, Int.reduceToNat, Int.reduceNeg, m0, m1, m2, m3, e1, i_multisets_l1_M] <;> (repeat' apply And.intro) <;> first | rfl | exact ⟨_, rfl⟩ | simp [lst, cat2_nil]
  ·intro ex3 s3 hX3
   unfold i_multisets_l1_X at hX3
   obtain ⟨rfl, n3_0, n3_1, n3_2, n3_3⟩ := hX3
   obtain rfl := Option.some.inj h
   simp (maxDischargeDepth := 9) only [↓xpre, xpost, xlst, xc2, xcore, yset, rg0, ↓reduceIte, Nat.reduceEqDiff, Nat.reduceLT, Nat.reduceLeDiff, Nat.reduceAdd, Nat.reduceMul, Nat.reduceMod, Nat.reduceSub, Nat.reduceBEq, Int.reduceLE, Int.reduceLT, Int.reduceEq, Int.reduceSub, Int.reduceAdd, Int.reduceToNat, Int.reduceNeg, e1, n3_0, n3_1, n3_2, n3_3, i_multisets_l2_M, i_multisets_l2_X, sxN, sxE, sxR] <;> (repeat' apply And.intro) <;> first | rfl | exact ⟨_, rfl⟩ | simp [lst, cat2_nil]
 ·rw [if_neg e1] at h
  obtain rfl := Option.some.inj h
  simp (maxDischargeDepth := 9) only [↓xpre, xpost, xlst, xc2, xcore, yset, rg0, ↓reduceIte, Nat.reduceEqDiff, Nat.reduceLT, Nat.reduceLeDiff, Nat.reduceAdd, Nat.reduceMul, Nat.reduceMod, Nat.reduceSub, Nat.reduceBEq, Int.reduceLE, Int.reduceLT, Int.reduceEq, Int.reduceSub, Int.reduceAdd, Int.reduceToNat, Int.reduceNeg, m0, m1, m2, m3, e1, i_multisets_l2_M, i_multisets_l2_X, sxN, sxE, sxR] <;> (repeat' apply And.intro) <;> first | rfl | exact ⟨_, rfl⟩ | simp [lst, cat2_nil]
theorem i_multisets_call (labels : Int) (size : Int) {r : (List (List Int))} (h : i_multisets labels size = some r) : Y.call 63 [D.int .i64 labels, D.int .i64 size] [] = some (D.own 33 (lst (fun x => D.own 3 (lst (D.int .i64) x)) r), []) := by
 refine c63 ?_ rfl
 unfold k63
 unfold i_multisets at h
 obtain ⟨r2_, hl2, h⟩ := bindS h
 try dsimp only at h
 simp (maxDischargeDepth := 9) only [↓xpre, xpost, xlst, xc2, xcore, yset, rg0, ↓reduceIte, Nat.reduceEqDiff, Nat.reduceLT, Nat.reduceLeDiff, Nat.reduceAdd, Nat.reduceMul, Nat.reduceMod, Nat.reduceSub, Nat.reduceBEq, Int.reduceLE, Int.reduceLT, Int.reduceEq, Int.reduceSub, Int.reduceAdd, Int.reduceToNat, Int.reduceNeg]
 refine wd_mono (i_multisets_l2_wp labels size hl2 ?_) ?_
 ·simp (maxDischargeDepth := 9) only [↓xpre, xpost, xlst, xc2, xcore, yset, rg0, ↓reduceIte, Nat.reduceEqDiff, Nat.reduceLT, Nat.reduceLeDiff, Nat.reduceAdd, Nat.reduceMul, Nat.reduceMod, Nat.reduceSub, Nat.reduceBEq, Int.reduceLE, Int.reduceLT, Int.reduceEq, Int.reduceSub, Int.reduceAdd, Int.reduceToNat, Int.reduceNeg, i_multisets_l2_M] <;> (repeat' apply And.intro) <;> first | rfl | exact ⟨_, rfl⟩ | simp [lst, cat2_nil]
 ·intro ex2 s2 hX2
  unfold i_multisets_l2_X at hX2
  obtain ⟨rfl, n2_0⟩ := hX2
  obtain rfl := Option.some.inj h
  simp (maxDischargeDepth := 9) only [↓xpre, xpost, xlst, xc2, xcore, yset, rg0, ↓reduceIte, Nat.reduceEqDiff, Nat.reduceLT, Nat.reduceLeDiff, Nat.reduceAdd, Nat.reduceMul, Nat.reduceMod, Nat.reduceSub, Nat.reduceBEq, Int.reduceLE, Int.reduceLT, Int.reduceEq, Int.reduceSub, Int.reduceAdd, Int.reduceToNat, Int.reduceNeg, n2_0] <;> (repeat' apply And.intro) <;> first | rfl | exact ⟨_, rfl⟩ | simp [lst, cat2_nil]

noncomputable def g_slices_IndexFunc_SSint_Sint_l0_S (s_ : List (List Int)) (f : (List Int) → Option Bool) (t8_ : Int) : Option ((Int) ⊕ (Int ⊕ Unit)) :=
 if t8_ < (s_.length : Int) then
  ck (0 ≤ t8_ ∧ t8_.toNat < s_.length) <|
  (f (s_.getD t8_.toNat default)).bind fun r3_ =>
  if r3_ = true then
   some (Sum.inr (Sum.inl t8_))
  else
   some (Sum.inl (IntKind.i64.wrap (t8_ + 1)))
 else
  some (Sum.inr (Sum.inr ()))
noncomputable def g_slices_IndexFunc_SSint_Sint_l0 (s_ : List (List Int)) (f : (List Int) → Option Bool) (v : Int) : Option (Int ⊕ Unit) := itO (fun v => g_slices_IndexFunc_SSint_Sint_l0_S s_ f v) v
noncomputable def g_slices_IndexFunc_SSint_Sint (s_ : List (List Int)) (f : (List Int) → Option Bool) : Option (Int) :=
 (g_slices_IndexFunc_SSint_Sint_l0 s_ f 0).bind fun r2_ =>
 match r2_ with
 | .inl q2_ =>
  some q2_
 | .inr q2_ =>
  some (-1)
/-- slices.IndexFunc[[][]int,[]int] -/
def k83_l0b : SC :=
 .seq
 (.ops [
 ⟨(some 9), (.binOp .lss 3 (.tmp 8) (.tmp 7) 3), 0, none⟩])
 (.seq
 (.cond (.tmp 9)
 .skip
 (.exit 0))
 (.seq
 (.block 1
 (.seq
 (.ops [
 ⟨(some 10), (.move (.tmp 8)), 3, none⟩,
 ⟨(some 5), (.assign (.tmp 10)), 3, none⟩])
 (.seq
 (.ops [
 ⟨(some 11), (.move (.tmp 1)), 48, none⟩,
 ⟨(some 12), (.move (.tmp 0)), 22, none⟩,
 ⟨(some 13), (.move (.tmp 5)), 3, none⟩,
 ⟨(some 14), (.indexAddr 22 (.tmp 12) (.tmp 13)), 0, none⟩,
 ⟨(some 15), (.load 33 (.tmp 14)), 33, none⟩,
 ⟨(some 16), (.call ⟨(.value (.tmp 11)), #[(.tmp 15)], #[33]⟩), 4, none⟩])
 (.cond (.tmp 16)
 (.seq
 (.ops [
 ⟨(some 17), (.move (.tmp 5)), 3, none⟩,
 ⟨(some 4), (.assign (.tmp 17)), 3, none⟩])
 .ret)
 .skip))))
 (.ops [
 ⟨(some 18), (.binOp .add 3 (.tmp 8) (.const (.int .i64 1)) 3), 3, none⟩,
 ⟨(some 8), (.move (.tmp 18)), 3, none⟩])))
def k83_l0 : SC := .loop k83_l0b
def k83 : SC :=
 .seq
 (.ops [
 ⟨(some 4), (.assign (.const (.int .i64 0))), 3, none⟩])
 (.seq
 (.seq
 (.ops [
 ⟨(some 6), (.move (.tmp 0)), 22, none⟩,
 ⟨(some 7), (.call ⟨(.builtin .len), #[(.tmp 6)], #[22]⟩), 3, none⟩,
 ⟨(some 8), (.move (.const (.int .i64 0))), 3, none⟩])
 (.block 0
 k83_l0))
 (.seq
 (.ops [
 ⟨(some 4), (.assign (.const (.int .i64 (-1)))), 3, none⟩])
 .ret))
theorem slim83 : Try.f83.body.map (slim lends) = some k83 := by kernel_rfl
theorem ok83 : fnOk Try.f83 2 = true := by kernel_rfl
theorem c83 {a l : List D} {r : D × List D} (h : wpD Y.env k83 (fin tys l.length [ResultVar.tmp 4] r) (entry a l)) (ha : a.length = 2) : Y.call 83 a l = some r :=
 call_slim (Y := Y) rfl Try.func83 (ha ▸ ok83) slim83 h
def g_slices_IndexFunc_SSint_Sint_l0_M (s_ : List (List Int)) (f : (List Int) → Option Bool) (f_f : FuncId) (f_c : List D) (t8_ : Int) (s : St) : Prop := s.v 0 = D.sl 33 (lst (fun x => D.sl 3 (lst (D.int .i64) x)) s_) ∧ s.v 1 = D.clo f_f f_c ∧ s.v 7 = D.int .i64 (s_.length : Int) ∧ s.v 8 = D.int .i64 t8_
def g_slices_IndexFunc_SSint_Sint_l0_X (s_ : List (List Int)) (f : (List Int) → Option Bool) (f_f : FuncId) (f_c : List D) (r : Int ⊕ Unit) (ex : Ex) (s : St) : Prop := match r with
 | .inl q => ex = .ret ∧ s.v 4 = D.int .i64 q
 | .inr q => ex = .exit 0
theorem g_slices_IndexFunc_SSint_Sint_l0_wp (s_ : List (List Int)) (f : (List Int) → Option Bool) (f_f : FuncId) (f_c : List D) (f_h : ∀ (a0 : List Int) (r : Bool), f a0 = some r → Y.call f_f (D.sl 3 (lst (D.int .i64) a0) :: f_c) [] = some (D.bool r, [])) (f_l : lends f_f = false) {v : Int} {s : St} {r : Int ⊕ Unit} (h : g_slices_IndexFunc_SSint_Sint_l0 s_ f v = some r) (hM : g_slices_IndexFunc_SSint_Sint_l0_M s_ f f_f f_c v s) : wpD Y.env k83_l0 (g_slices_IndexFunc_SSint_Sint_l0_X s_ f f_f f_c r) s := by
 unfold g_slices_IndexFunc_SSint_Sint_l0 at h
 refine wd_itO (c := k83_l0b) (fun v => g_slices_IndexFunc_SSint_Sint_l0_S s_ f v) (fun v s => g_slices_IndexFunc_SSint_Sint_l0_M s_ f f_f f_c v s) (g_slices_IndexFunc_SSint_Sint_l0_X s_ f f_f f_c) ?_ h hM
 clear h hM s v r
 intro t8_ s o hM h
 unfold g_slices_IndexFunc_SSint_Sint_l0_S at h
 unfold g_slices_IndexFunc_SSint_Sint_l0_M at hM
 obtain ⟨m0, m1, m2, m3⟩ := hM
 unfold k83_l0b
 by_cases e1 : t8_ < (s_.length : Int)
 ·rw [if_pos e1] at h
  obtain ⟨e2, h⟩ := ckS h
  obtain ⟨r3_, hl3, h⟩ := bindS h
  try dsimp only at h
  have c3 := f_h _ _ hl3
  by_cases e4 : r3_ = true
  ·rw [if_pos e4] at h
   obtain rfl := Option.some.inj h
   simp (maxDischargeDepth := 9) only [↓xpre, xpost, xlst, xc2, xcore, yset, rg0, ↓reduceIte, Nat.reduceEqDiff, Nat.reduceLT, Nat.reduceLeDiff, Nat.reduceAdd, Nat.reduceMul, Nat.reduceMod, Nat.reduceSub, Nat.reduceBEq, Int.reduceLE, Int.reduceLT, Int.reduceEq, Int.reduceSub, Int.reduceAdd, Int.reduceToNat, Int.reduceNeg, m0, m1, m2, m3, f_l, e1, e2.1, e2.2, c3, e4, g_slices_IndexFunc_SSint_Sint_l0_M, g_slices_IndexFunc_SSint_Sint_l0_X, sxN, sxE, sxR] <;> (repeat' apply And.intro) <;> first | rfl | exact ⟨_, rfl⟩ | simp [lst, cat2_nil]
  ·rw [if_neg e4] at h
   have e4f : r3_ = false := Bool.eq_false_iff.mpr e4
   obtain rfl := Option.some.inj h
   simp (maxDischargeDepth := 9) only [↓xpre, xpost, xlst, xc2, xcore, yset, rg0, ↓reduceIte, Nat.reduceEqDiff, Nat.reduceLT, Nat.reduceLeDiff, Nat.reduceAdd, Nat.reduceMul, Nat.reduceMod, Nat.reduceSub, Nat.reduceBEq, Int.reduceLE, Int.reduceLT, Int.reduceEq, Int.reduceSub, Int.reduceAdd, Int.reduceToNat, Int.reduceNeg, m0, m1, m2, m3, f_l, e1, e2.1, e2.2, c3, e4f, g_slices_IndexFunc_SSint_Sint_l0_M, g_slices_IndexFunc_SSint_Sint_l0_X, sxN, sxE, sxR] <;> (repeat' apply And.intro) <;> first | rfl | exact ⟨_, rfl⟩ | simp [lst, cat2_nil]
 ·rw [if_neg e1] at h
  obtain rfl := Option.some.inj h
  simp (maxDischargeDepth := 9) only [↓xpre, xpost, xlst, xc2, xcore, yset, rg0, ↓reduceIte, Nat.reduceEqDiff, Nat.reduceLT, Nat.reduceLeDiff, Nat.reduceAdd, Nat.reduceMul, Nat.reduceMod, Nat.reduceSub, Nat.reduceBEq, Int.reduceLE, Int.reduceLT, Int.reduceEq, Int.reduceSub, Int.reduceAdd, Int.reduceToNat, Int.reduceNeg, m0, m1, m2, m3, f_l, e1, g_slices_IndexFunc_SSint_Sint_l0_M, g_slices_IndexFunc_SSint_Sint_l0_X, sxN, sxE, sxR] <;> (repeat' apply And.intro) <;> first | rfl | exact ⟨_, rfl⟩ | simp [lst, cat2_nil]
theorem g_slices_IndexFunc_SSint_Sint_call (s_ : List (List Int)) (f : (List Int) → Option Bool) (f_f : FuncId) (f_c : List D) (f_h : ∀ (a0 : List Int) (r : Bool), f a0 = some r → Y.call f_f (D.sl 3 (lst (D.int .i64) a0) :: f_c) [] = some (D.bool r, [])) (f_l : lends f_f = false) {r : Int} (h : g_slices_IndexFunc_SSint_Sint s_ f = some r) : Y.call 83 [D.sl 33 (lst (fun x => D.sl 3 (lst (D.int .i64) x)) s_), D.clo f_f f_c] [] = some (D.int .i64 r, []) := by
 refine c83 ?_ rfl
 unfold k83
 unfold g_slices_IndexFunc_SSint_Sint at h
 obtain ⟨r2_, hl2, h⟩ := bindS h
 try dsimp only at h
 simp (maxDischargeDepth := 9) only [↓xpre, xpost, xlst, xc2, xcore, yset, rg0, ↓reduceIte, Nat.reduceEqDiff, Nat.reduceLT, Nat.reduceLeDiff, Nat.reduceAdd, Nat.reduceMul, Nat.reduceMod, Nat.reduceSub, Nat.reduceBEq, Int.reduceLE, Int.reduceLT, Int.reduceEq, Int.reduceSub, Int.reduceAdd, Int.reduceToNat, Int.reduceNeg, f_l]
 refine wd_mono (g_slices_IndexFunc_SSint_Sint_l0_wp s_ f f_f f_c f_h f_l hl2 ?_) ?_
 ·simp (maxDischargeDepth := 9) only [↓xpre, xpost, xlst, xc2, xcore, yset, rg0, ↓reduceIte, Nat.reduceEqDiff, Nat.reduceLT, Nat.reduceLeDiff, Nat.reduceAdd, Nat.reduceMul, Nat.reduceMod, Nat.reduceSub, Nat.reduceBEq, Int.reduceLE, Int.reduceLT, Int.reduceEq, Int.reduceSub, Int.reduceAdd, Int.reduceToNat, Int.reduceNeg, f_l, g_slices_IndexFunc_SSint_Sint_l0_M] <;> (repeat' apply And.intro) <;> first | rfl | exact ⟨_, rfl⟩ | simp [lst, cat2_nil]
 ·intro ex2 s2 hX2
  rcases r2_ with q2_ | q2_
  ·unfold g_slices_IndexFunc_SSint_Sint_l0_X at hX2
   dsimp only at hX2 h
   obtain ⟨rfl, n2_0⟩ := hX2
   obtain rfl := Option.some.inj h
   simp (maxDischargeDepth := 9) only [↓xpre, xpost, xlst, xc2, xcore, yset, rg0, ↓reduceIte, Nat.reduceEqDiff, Nat.reduceLT, Nat.reduceLeDiff, Nat.reduceAdd, Nat.reduceMul, Nat.reduceMod, Nat.reduceSub, Nat.reduceBEq, Int.reduceLE, Int.reduceLT, Int.reduceEq, Int.reduceSub, Int.reduceAdd, Int.reduceToNat, Int.reduceNeg, f_l, n2_0] <;> (repeat' apply And.intro) <;> first | rfl | exact ⟨_, rfl⟩ | simp [lst, cat2_nil]
  ·unfold g_slices_IndexFunc_SSint_Sint_l0_X at hX2
   dsimp only at hX2 h
   obtain rfl := hX2
   obtain rfl := Option.some.inj h
   simp (maxDischargeDepth := 9) only [↓xpre, xpost, xlst, xc2, xcore, yset, rg0, ↓reduceIte, Nat.reduceEqDiff, Nat.reduceLT, Nat.reduceLeDiff, Nat.reduceAdd, Nat.reduceMul, Nat.reduceMod, Nat.reduceSub, Nat.reduceBEq, Int.reduceLE, Int.reduceLT, Int.reduceEq, Int.reduceSub, Int.reduceAdd, Int.reduceToNat, Int.reduceNeg, f_l] <;> (repeat' apply And.intro) <;> first | rfl | exact ⟨_, rfl⟩ | simp [lst, cat2_nil]

noncomputable def g_slices_DeleteFunc_SSint_Sint_l0_S (del : (List Int) → Option Bool) (i : Int) (j : Int) (t100000_ : List (Option (List Int))) : Option ((Int × Int × (List (Option (List Int)))) ⊕ (Int × (List (Option (List Int))))) :=
 if j < (t100000_.length : Int) then
  ck (0 ≤ j ∧ j.toNat < t100000_.length) <|
  ck ((t100000_.getD j.toNat default).isSome = true) <|
  (del ((t100000_.getD j.toNat default).getD default)).bind fun r6_ =>
  if r6_ = true then
   some (Sum.inl (i, IntKind.i64.wrap (j + 1), t100000_))
  else
   ck (0 ≤ i ∧ i.toNat < t100000_.length) <|
   some (Sum.inl (IntKind.i64.wrap (i + 1), IntKind.i64.wrap (j + 1), ((t100000_.set j.toNat none).set i.toNat (some ((t100000_.getD j.toNat default).getD default)))))
 else
  some (Sum.inr (i, t100000_))
noncomputable def g_slices_DeleteFunc_SSint_Sint_l0 (del : (List Int) → Option Bool) (v : Int × Int × (List (Option (List Int)))) : Option (Int × (List (Option (List Int)))) := itO (fun v => g_slices_DeleteFunc_SSint_Sint_l0_S del v.1 v.2.1 v.2.2) v
noncomputable def g_slices_DeleteFunc_SSint_Sint (s_ : List (List Int)) (del : (List Int) → Option Bool) : Option ((List (List Int))) :=
 (g_slices_IndexFunc_SSint_Sint s_ del).bind fun r1_ =>
 if r1_ = (-1) then
  some s_
 else
  (g_slices_DeleteFunc_SSint_Sint_l0 del (r1_, IntKind.i64.wrap (r1_ + 1), (s_.map some))).bind fun r4_ =>
  ck (0 ≤ r4_.1) <|
  ck (r4_.1.toNat ≤ r4_.2.length) <|
  ck (r4_.1.toNat + (r4_.2.length - r4_.1.toNat) ≤ r4_.2.length) <|
  ck (r4_.1.toNat ≤ (spl r4_.2 r4_.1.toNat ((List.replicate (r4_.2.length - r4_.1.toNat) ([] : List Int)).map some)).length) <|
  ck ((((spl r4_.2 r4_.1.toNat ((List.replicate (r4_.2.length - r4_.1.toNat) ([] : List Int)).map some)).take r4_.1.toNat).all Option.isSome) = true) <|
  some (((spl r4_.2 r4_.1.toNat ((List.replicate (r4_.2.length - r4_.1.toNat) ([] : List Int)).map some)).take r4_.1.toNat).map fun o => o.getD default)
/-- slices.DeleteFunc[[][]int,[]int] -/
def k62_l0b : SC :=
 .seq
 (.seq
 (.ops [
 ⟨(some 16), (.move (.tmp 6)), 3, none⟩,
 ⟨(some 17), (.move (.tmp 0)), 22, none⟩,
 ⟨(some 18), (.call ⟨(.builtin .len), #[(.tmp 17)], #[22]⟩), 3, none⟩,
 ⟨(some 19), (.binOp .lss 3 (.tmp 16) (.tmp 18) 3), 4, none⟩])
 (.cond (.tmp 19)
 .skip
 (.exit 0)))
 (.seq
 (.block 1
 (.seq
 (.ops [
 ⟨(some 22), (.move (.tmp 0)), 22, none⟩,
 ⟨(some 23), (.move (.tmp 6)), 3, none⟩,
 ⟨(some 24), (.indexAddr 22 (.tmp 22) (.tmp 23)), 0, none⟩,
 ⟨(some 25), (.load 33 (.tmp 24)), 33, none⟩,
 ⟨(some 7), (.assign (.tmp 25)), 33, none⟩])
 (.seq
 (.ops [
 ⟨(some 26), (.move (.tmp 1)), 48, none⟩,
 ⟨(some 27), (.move (.tmp 7)), 33, none⟩,
 ⟨(some 28), (.call ⟨(.value (.tmp 26)), #[(.tmp 27)], #[33]⟩), 4, none⟩,
 ⟨(some 29), (.unOp .not 4 (.tmp 28)), 4, none⟩])
 (.cond (.tmp 29)
 (.seq
 (.ops [
 ⟨(some 30), (.move (.tmp 0)), 22, none⟩,
 ⟨(some 31), (.move (.tmp 5)), 3, none⟩,
 ⟨(some 32), (.move (.tmp 7)), 33, none⟩,
 ⟨(some 33), (.indexAddr 22 (.tmp 30) (.tmp 31)), 0, none⟩,
 ⟨none, (.store 33 (.tmp 33) (.tmp 32)), 900007, none⟩])
 (.ops [
 ⟨(some 34), (.move (.tmp 5)), 3, none⟩,
 ⟨(some 35), (.binOp .add 3 (.tmp 34) (.const (.int .i64 1)) 3), 3, none⟩,
 ⟨(some 5), (.assign (.tmp 35)), 3, none⟩]))
 .skip))))
 (.ops [
 ⟨(some 20), (.move (.tmp 6)), 3, none⟩,
 ⟨(some 21), (.binOp .add 3 (.tmp 20) (.const (.int .i64 1)) 3), 3, none⟩,
 ⟨(some 6), (.assign (.tmp 21)), 3, none⟩]))
def k62_l0 : SC := .loop k62_l0b
def k62 : SC :=
 .seq
 (.ops [
 ⟨(some 4), (.assign (.const (.slice none 0 0))), 22, none⟩])
 (.seq
 (.ops [
 ⟨(some 8), (.move (.tmp 0)), 22, none⟩,
 ⟨(some 9), (.move (.tmp 1)), 48, none⟩,
 ⟨(some 10), (.call ⟨(.value (.func 83)), #[(.tmp 8), (.tmp 9)], #[22, 48]⟩), 3, none⟩,
 ⟨(some 5), (.assign (.tmp 10)), 3, none⟩])
 (.seq
 (.seq
 (.ops [
 ⟨(some 11), (.move (.tmp 5)), 3, none⟩,
 ⟨(some 12), (.binOp .eql 3 (.tmp 11) (.const (.int .i64 (-1))) 3), 4, none⟩])
 (.cond (.tmp 12)
 (.seq
 (.ops [
 ⟨(some 13), (.move (.tmp 0)), 22, none⟩,
 ⟨(some 4), (.assign (.tmp 13)), 22, none⟩])
 .ret)
 .skip))
 (.seq
 (.seq
 (.ops [
 ⟨(some 14), (.move (.tmp 5)), 3, none⟩,
 ⟨(some 15), (.binOp .add 3 (.tmp 14) (.const (.int .i64 1)) 3), 3, none⟩,
 ⟨(some 6), (.assign (.tmp 15)), 3, none⟩])
 (.block 0
 k62_l0))
 (.seq
 (.ops [
 ⟨(some 36), (.move (.tmp 0)), 22, none⟩,
 ⟨(some 37), (.move (.tmp 5)), 3, none⟩,
 ⟨(some 38), (.slice 22 (.tmp 36) (some (.tmp 37)) none none), 900001, none⟩,
 ⟨none, (.call ⟨(.builtin .clear), #[(.tmp 38)], #[22]⟩), 0, none⟩])
 (.seq
 (.ops [
 ⟨(some 39), (.move (.tmp 0)), 22, none⟩,
 ⟨(some 40), (.move (.tmp 5)), 3, none⟩,
 ⟨(some 41), (.slice 22 (.tmp 39) none (some (.tmp 40)) none), 900002, none⟩,
 ⟨(some 4), (.assign (.tmp 41)), 22, none⟩])
 .ret)))))
theorem slim62 : Try.f62.body.map (slim lends) = some k62 := by kernel_rfl
theorem ok62 : fnOk Try.f62 2 = true := by kernel_rfl
theorem c62 {a l : List D} {r : D × List D} (h : wpD Y.env k62 (fin tys l.length [ResultVar.tmp 4] r) (entry a l)) (ha : a.length = 2) : Y.call 62 a l = some r :=
 call_slim (Y := Y) rfl Try.func62 (ha ▸ ok62) slim62 h
def g_slices_DeleteFunc_SSint_Sint_l0_M (del : (List Int) → Option Bool) (del_f : FuncId) (del_c : List D) (i : Int) (j : Int) (t100000_ : List (Option (List Int))) (s : St) : Prop := (∃ w_, s.v 0 = D.vw [100000] (s.k 100000) w_) ∧ s.v 1 = D.clo del_f del_c ∧ s.v 5 = D.int .i64 i ∧ s.v 6 = D.int .i64 j ∧ s.v 100000 = D.own 33 (lst (optD (fun x => D.own 3 (lst (D.int .i64) x))) t100000_)
def g_slices_DeleteFunc_SSint_Sint_l0_X (del : (List Int) → Option Bool) (del_f : FuncId) (del_c : List D) (r : Int × (List (Option (List Int)))) (ex : Ex) (s : St) : Prop := ex = .exit 0 ∧ (∃ w_, s.v 0 = D.vw [100000] (s.k 100000) w_) ∧ s.v 5 = D.int .i64 r.1 ∧ s.v 100000 = D.own 33 (lst (optD (fun x => D.own 3 (lst (D.int .i64) x))) r.2)
theorem g_slices_DeleteFunc_SSint_Sint_l0_wp (del : (List Int) → Option Bool) (del_f : FuncId) (del_c : List D) (del_h : ∀ (a0 : List Int) (r : Bool), del a0 = some r → Y.call del_f (D.sl 3 (lst (D.int .i64) a0) :: del_c) [] = some (D.bool r, [])) (del_l : lends del_f = false) {v : Int × Int × (List (Option (List Int)))} {s : St} {r : Int × (List (Option (List Int)))} (h : g_slices_DeleteFunc_SSint_Sint_l0 del v = some r) (hM : g_slices_DeleteFunc_SSint_Sint_l0_M del del_f del_c v.1 v.2.1 v.2.2 s) : wpD Y.env k62_l0 (g_slices_DeleteFunc_SSint_Sint_l0_X del del_f del_c r) s := by
 unfold g_slices_DeleteFunc_SSint_Sint_l0 at h
 refine wd_itO (c := k62_l0b) (fun v => g_slices_DeleteFunc_SSint_Sint_l0_S del v.1 v.2.1 v.2.2) (fun v s => g_slices_DeleteFunc_SSint_Sint_l0_M del del_f del_c v.1 v.2.1 v.2.2 s) (g_slices_DeleteFunc_SSint_Sint_l0_X del del_f del_c) ?_ h hM
 clear h hM s v r
 intro v s o hM h
 obtain ⟨i, j, t100000_⟩ := v
 dsimp only at h hM
 unfold g_slices_DeleteFunc_SSint_Sint_l0_S at h
 unfold g_slices_DeleteFunc_SSint_Sint_l0_M at hM
 obtain ⟨⟨w0_, m0⟩, m1, m2, m3, m4⟩ := hM
 unfold k62_l0b
 by_cases e3 : j < (t100000_.length : Int)
 ·rw [if_pos e3] at h
  obtain ⟨e4, h⟩ := ckS h
  obtain ⟨e5, h⟩ := ckS h
  obtain ⟨r6_, hl6, h⟩ := bindS h
  try dsimp only at h
  have c6 := del_h _ _ hl6
  by_cases e7 : r6_ = true
  ·rw [if_pos e7] at h
   obtain rfl := Option.some.inj h
   simp (maxDischargeDepth := 9) only [↓xpre, xpost, xlst, xc2, xcore, yset, rg0, ↓reduceIte, Nat.reduceEqDiff, Nat.reduceLT, Nat.reduceLeDiff, Nat.reduceAdd, Nat.reduceMul, Nat.reduceMod, Nat.reduceSub, Nat.reduceBEq, Int.reduceLE, Int.reduceLT, Int.reduceEq, Int.reduceSub, Int.reduceAdd, Int.reduceToNat, Int.reduceNeg, m0, m1, m2, m3, m4, del_l, e3, e4.1, e4.2, e5, c6, e7, g_slices_DeleteFunc_SSint_Sint_l0_M, g_slices_DeleteFunc_SSint_Sint_l0_X, sxN, sxE, sxR] <;> (repeat' apply And.intro) <;> first | rfl | exact ⟨_, rfl⟩ | simp [lst, cat2_nil]
  ·rw [if_neg e7] at h
   have e7f : r6_ = false := Bool.eq_false_iff.mpr e7
   obtain ⟨e8, h⟩ := ckS h
   obtain rfl := Option.some.inj h
   simp (maxDischargeDepth := 9) only [↓xpre, xpost, xlst, xc2, xcore, yset, rg0, ↓reduceIte, Nat.reduceEqDiff, Nat.reduceLT, Nat.reduceLeDiff, Nat.reduceAdd, Nat.reduceMul, Nat.reduceMod, Nat.reduceSub, Nat.reduceBEq, Int.reduceLE, Int.reduceLT, Int.reduceEq, Int.reduceSub, Int.reduceAdd, Int.reduceToNat, Int.reduceNeg, m0, m1, m2, m3, m4, del_l, e3, e4.1, e4.2, e5, c6, e7f, e8.1, e8.2, g_slices_DeleteFunc_SSint_Sint_l0_M, g_slices_DeleteFunc_SSint_Sint_l0_X, sxN, sxE, sxR] <;> (repeat' apply And.intro) <;> first | rfl | exact ⟨_, rfl⟩ | simp [lst, cat2_nil]
 ·rw [if_neg e3] at h
  obtain rfl := Option.some.inj h
  simp (maxDischargeDepth := 9) only [↓xpre, xpost, xlst, xc2, xcore, yset, rg0, ↓reduceIte, Nat.reduceEqDiff, Nat.reduceLT, Nat.reduceLeDiff, Nat.reduceAdd, Nat.reduceMul, Nat.reduceMod, Nat.reduceSub, Nat.reduceBEq, Int.reduceLE, Int.reduceLT, Int.reduceEq, Int.reduceSub, Int.reduceAdd, Int.reduceToNat, Int.reduceNeg, m0, m1, m2, m3, m4, del_l, e3, g_slices_DeleteFunc_SSint_Sint_l0_M, g_slices_DeleteFunc_SSint_Sint_l0_X, sxN, sxE, sxR] <;> (repeat' apply And.intro) <;> first | rfl | exact ⟨_, rfl⟩ | simp [lst, cat2_nil]
theorem g_slices_DeleteFunc_SSint_Sint_call (s_ : List (List Int)) (del : (List Int) → Option Bool) (del_f : FuncId) (del_c : List D) (del_h : ∀ (a0 : List Int) (r : Bool), del a0 = some r → Y.call del_f (D.sl 3 (lst (D.int .i64) a0) :: del_c) [] = some (D.bool r, [])) (del_l : lends del_f = false) {r : (List (List Int))} (h : g_slices_DeleteFunc_SSint_Sint s_ del = some r) : Y.call 62 [D.vw [100000] 0 0, D.clo del_f del_c] [D.own 33 (lst (fun x => D.own 3 (lst (D.int .i64) x)) s_)] = some (D.own 33 (lst (fun x => D.own 3 (lst (D.int .i64) x)) r), [D.undef]) := by
 refine c62 ?_ rfl
 unfold k62
 unfold g_slices_DeleteFunc_SSint_Sint at h
 obtain ⟨r1_, hl1, h⟩ := bindS h
 try dsimp only at h
 have c1 := g_slices_IndexFunc_SSint_Sint_call s_ del del_f del_c del_h del_l hl1
 by_cases e2 : r1_ = (-1)
 ·rw [if_pos e2] at h
  obtain rfl := Option.some.inj h
  simp (maxDischargeDepth := 9) only [↓xpre, xpost, xlst, xc2, xcore, yset, rg0, ↓reduceIte, Nat.reduceEqDiff, Nat.reduceLT, Nat.reduceLeDiff, Nat.reduceAdd, Nat.reduceMul, Nat.reduceMod, Nat.reduceSub, Nat.reduceBEq, Int.reduceLE, Int.reduceLT, Int.reduceEq, Int.reduceSub, Int.reduceAdd, Int.reduceToNat, Int.reduceNeg, del_l, c1, decide_eq_true e2] <;> (repeat' apply And.intro) <;> first | rfl | exact ⟨_, rfl⟩ | simp [lst, cat2_nil]
 ·rw [if_neg e2] at h
  obtain ⟨r4_, hl4, h⟩ := bindS h
  try dsimp only at h
  simp (maxDischargeDepth := 9) only [↓xpre, xpost, xlst, xc2, xcore, yset, rg0, ↓reduceIte, Nat.reduceEqDiff, Nat.reduceLT, Nat.reduceLeDiff, Nat.reduceAdd, Nat.reduceMul, Nat.reduceMod, Nat.reduceSub, Nat.reduceBEq, Int.reduceLE, Int.reduceLT, Int.reduceEq, Int.reduceSub, Int.reduceAdd, Int.reduceToNat, Int.reduceNeg, del_l, c1, e2]
  refine wd_mono (g_slices_DeleteFunc_SSint_Sint_l0_wp del del_f del_c del_h del_l hl4 ?_) ?_
  ·simp (maxDischargeDepth := 9) only [↓xpre, xpost, xlst, xc2, xcore, yset, rg0, ↓reduceIte, Nat.reduceEqDiff, Nat.reduceLT, Nat.reduceLeDiff, Nat.reduceAdd, Nat.reduceMul, Nat.reduceMod, Nat.reduceSub, Nat.reduceBEq, Int.reduceLE, Int.reduceLT, Int.reduceEq, Int.reduceSub, Int.reduceAdd, Int.reduceToNat, Int.reduceNeg, del_l, c1, e2, g_slices_DeleteFunc_SSint_Sint_l0_M] <;> (repeat' apply And.intro) <;> first | rfl | exact ⟨_, rfl⟩ | simp [lst, cat2_nil]
  ·intro ex4 s4 hX4
   unfold g_slices_DeleteFunc_SSint_Sint_l0_X at hX4
   obtain ⟨rfl, ⟨w0_, n4_0⟩, n4_1, n4_2⟩ := hX4
   obtain ⟨e5, h⟩ := ckS h
   obtain ⟨e6, h⟩ := ckS h
   obtain ⟨e7, h⟩ := ckS h
   obtain ⟨e8, h⟩ := ckS h
   obtain ⟨e9, h⟩ := ckS h
   obtain rfl := Option.some.inj h
   simp (maxDischargeDepth := 9) only [↓xpre, xpost, xlst, xc2, xcore, yset, rg0, ↓reduceIte, Nat.reduceEqDiff, Nat.reduceLT, Nat.reduceLeDiff, Nat.reduceAdd, Nat.reduceMul, Nat.reduceMod, Nat.reduceSub, Nat.reduceBEq, Int.reduceLE, Int.reduceLT, Int.reduceEq, Int.reduceSub, Int.reduceAdd, Int.reduceToNat, Int.reduceNeg, del_l, c1, e2, n4_0, n4_1, n4_2, e5, e6, e7, e8, e9] <;> (repeat' apply And.intro) <;> first | rfl | exact ⟨_, rfl⟩ | simp [lst, cat2_nil]

noncomputable def i_allowedBy_1 (c_ : List Int) (c0_ : (List Int) → Option Bool) : Option (Bool) :=
 (c0_ c_).bind fun r1_ =>
 some (!r1_)
/-- impl.allowedBy$1 -/
def k64 : SC :=
 .seq
 (.ops [
 ⟨(some 3), (.assign (.const (.bool false))), 4, none⟩])
 (.seq
 (.ops [
 ⟨(some 4), (.load 48 (.tmp 1)), 48, none⟩,
 ⟨(some 5), (.move (.tmp 0)), 33, none⟩,
 ⟨(some 6), (.call ⟨(.value (.tmp 4)), #[(.tmp 5)], #[33]⟩), 4, none⟩,
 ⟨(some 7), (.unOp .not 4 (.tmp 6)), 4, none⟩,
 ⟨(some 3), (.assign (.tmp 7)), 4, none⟩])
 .ret)
theorem slim64 : Try.f64.body.map (slim lends) = some k64 := by kernel_rfl
theorem ok64 : fnOk Try.f64 2 = true := by kernel_rfl
theorem c64 {a l : List D} {r : D × List D} (h : wpD Y.env k64 (fin tys l.length [ResultVar.tmp 3] r) (entry a l)) (ha : a.length = 2) : Y.call 64 a l = some r :=
 call_slim (Y := Y) rfl Try.func64 (ha ▸ ok64) slim64 h
theorem i_allowedBy_1_call (c_ : List Int) (c0_ : (List Int) → Option Bool) (c0__f : FuncId) (c0__c : List D) (c0__h : ∀ (a0 : List Int) (r : Bool), c0_ a0 = some r → Y.call c0__f (D.sl 3 (lst (D.int .i64) a0) :: c0__c) [] = some (D.bool r, [])) (c0__l : lends c0__f = false) {r : Bool} (h : i_allowedBy_1 c_ c0_ = some r) : Y.call 64 [D.sl 3 (lst (D.int .i64) c_), D.cptr [D.clo c0__f c0__c]] [] = some (D.bool r, []) := by
 refine c64 ?_ rfl
 unfold k64
 unfold i_allowedBy_1 at h
 obtain ⟨r1_, hl1, h⟩ := bindS h
 try dsimp only at h
 have c1 := c0__h _ _ hl1
 obtain rfl := Option.some.inj h
 simp (maxDischargeDepth := 9) only [↓xpre, xpost, xlst, xc2, xcore, yset, rg0, ↓reduceIte, Nat.reduceEqDiff, Nat.reduceLT, Nat.reduceLeDiff, Nat.reduceAdd, Nat.reduceMul, Nat.reduceMod, Nat.reduceSub, Nat.reduceBEq, Int.reduceLE, Int.reduceLT, Int.reduceEq, Int.reduceSub, Int.reduceAdd, Int.reduceToNat, Int.reduceNeg, c0__l, c1] <;> (repeat' apply And.intro) <;> first | rfl | exact ⟨_, rfl⟩ | simp [lst, cat2_nil]

noncomputable def i_allowedBy (labels : Int) (size : Int) (good : (List Int) → Option Bool) : Option ((List (List Int))) :=
 (i_multisets labels size).bind fun r1_ =>
 (g_slices_DeleteFunc_SSint_Sint r1_ (fun a0 => i_allowedBy_1 a0 good)).bind fun r2_ =>
 some r2_
/-- impl.allowedBy -/
def k32 : SC :=
 .seq
 (.ops [
 ⟨(some 5), (.box 48 (.tmp 2)), 0, none⟩,
 ⟨(some 6), (.assign (.const (.slice none 0 0))), 22, none⟩])
 (.seq
 (.ops [
 ⟨(some 7), (.move (.tmp 0)), 3, none⟩,
 ⟨(some 8), (.move (.tmp 1)), 3, none⟩,
 ⟨(some 9), (.call ⟨(.value (.func 63)), #[(.tmp 7), (.tmp 8)], #[3, 3]⟩), 22, none⟩,
 ⟨(some 10), (.makeFunc (Fn.func 64) #[] #[(.tmp 5)]), 48, none⟩,
 ⟨(some 11), (.call ⟨(.value (.func 62)), #[(.tmp 9), (.tmp 10)], #[22, 48]⟩), 22, none⟩,
 ⟨(some 6), (.assign (.tmp 11)), 22, none⟩])
 .ret)
theorem slim32 : Try.f32.body.map (slim lends) = some k32 := by kernel_rfl
theorem ok32 : fnOk Try.f32 3 = true := by kernel_rfl
theorem c32 {a l : List D} {r : D × List D} (h : wpD Y.env k32 (fin tys l.length [ResultVar.tmp 6] r) (entry a l)) (ha : a.length = 3) : Y.call 32 a l = some r :=
 call_slim (Y := Y) rfl Try.func32 (ha ▸ ok32) slim32 h
theorem i_allowedBy_call (labels : Int) (size : Int) (good : (List Int) → Option Bool) (good_f : FuncId) (good_c : List D) (good_h : ∀ (a0 : List Int) (r : Bool), good a0 = some r → Y.call good_f (D.sl 3 (lst (D.int .i64) a0) :: good_c) [] = some (D.bool r, [])) (good_l : lends good_f = false) {r : (List (List Int))} (h : i_allowedBy labels size good = some r) : Y.call 32 [D.int .i64 labels, D.int .i64 size, D.clo good_f good_c] [] = some (D.own 33 (lst (fun x => D.own 3 (lst (D.int .i64) x)) r), []) := by
 refine c32 ?_ rfl
 unfold k32
 unfold i_allowedBy at h
 obtain ⟨r1_, hl1, h⟩ := bindS h
 try dsimp only at h
 have c1 := i_multisets_call labels size hl1
 obtain ⟨r2_, hl2, h⟩ := bindS h
 try dsimp only at h
 have c2 := g_slices_DeleteFunc_SSint_Sint_call r1_ (fun a0 => i_allowedBy_1 a0 good) 64 [D.cptr [D.clo good_f good_c]] (fun a0 _ hh => i_allowedBy_1_call a0 good good_f good_c good_h good_l hh) le64 hl2
 obtain rfl := Option.some.inj h
 simp (maxDischargeDepth := 9) only [↓xpre, xpost, xlst, xc2, xcore, yset, rg0, ↓reduceIte, Nat.reduceEqDiff, Nat.reduceLT, Nat.reduceLeDiff, Nat.reduceAdd, Nat.reduceMul, Nat.reduceMod, Nat.reduceSub, Nat.reduceBEq, Int.reduceLE, Int.reduceLT, Int.reduceEq, Int.reduceSub, Int.reduceAdd, Int.reduceToNat, Int.reduceNeg, good_l, c1, c2] <;> (repeat' apply And.intro) <;> first | rfl | exact ⟨_, rfl⟩ | simp [lst, cat2_nil]

noncomputable def i_parts_l0_S (labels : List Int) (k : Int) (first : List Int) (second : List Int) (t10_ : Int) : Option (((List Int) × (List Int) × Int) ⊕ ((List Int) × (List Int))) :=
 if t10_ < (labels.length : Int) then
  ck (0 ≤ t10_ ∧ t10_.toNat < labels.length) <|
  ck (¬ k = 0) <|
  ck (first.length + 1 < 1099511627776) <|
  ck (second.length + 1 < 1099511627776) <|
  some (Sum.inl ((first ++ [IntKind.i64.wrap ((labels.getD t10_.toNat default).tdiv k)]), (second ++ [((labels.getD t10_.toNat default).tmod k)]), IntKind.i64.wrap (t10_ + 1)))
 else
  some (Sum.inr (first, second))
noncomputable def i_parts_l0 (labels : List Int) (k : Int) (v : (List Int) × (List Int) × Int) : Option ((List Int) × (List Int)) := itO (fun v => i_parts_l0_S labels k v.1 v.2.1 v.2.2) v
noncomputable def i_parts (labels : List Int) (k : Int) : Option ((List Int) × (List Int)) :=
 (i_parts_l0 labels k ([], [], 0)).bind fun r2_ =>
 some (r2_.1, r2_.2)
/-- impl.parts -/
def k34_l0b : SC :=
 .seq
 (.ops [
 ⟨(some 11), (.binOp .lss 3 (.tmp 10) (.tmp 9) 3), 0, none⟩])
 (.seq
 (.cond (.tmp 11)
 .skip
 (.exit 0))
 (.seq
 (.block 1
 (.seq
 (.ops [
 ⟨(some 12), (.indexAddr 33 (.tmp 8) (.tmp 10)), 0, none⟩,
 ⟨(some 13), (.load 3 (.tmp 12)), 3, none⟩,
 ⟨(some 7), (.assign (.tmp 13)), 3, none⟩])
 (.draws [
 (⟨[14, 4, 4], [14, 15, 16, 17, 18, 17, 17, 19, 14, 18, 4, 18, 20, 21, 22, 23, 24, 23, 23, 25, 20, 24, 5, 24, 4, 19, 19, 5, 25, 25], [14]⟩, ⟨(some 14), (.move (.tmp 4)), 33, none⟩),
 (⟨[15, 7, 7], [14, 15, 16, 17, 18, 17, 17, 19, 14, 18, 4, 18, 20, 21, 22, 23, 24, 23, 23, 25, 20, 24, 5, 24, 4, 19, 19, 5, 25, 25], [15]⟩, ⟨(some 15), (.move (.tmp 7)), 3, none⟩),
 (⟨[16, 1, 1], [14, 15, 16, 17, 18, 17, 17, 19, 14, 18, 4, 18, 20, 21, 22, 23, 24, 23, 23, 25, 20, 24, 5, 24, 4, 19, 19, 5, 25, 25], [16]⟩, ⟨(some 16), (.move (.tmp 1)), 3, none⟩),
 (⟨[17, 15, 16, 7, 1], [14, 15, 16, 17, 18, 17, 17, 19, 14, 18, 4, 18, 20, 21, 22, 23, 24, 23, 23, 25, 20, 24, 5, 24, 4, 19, 19, 5, 25, 25], [17]⟩, ⟨(some 17), (.binOp .quo 3 (.tmp 15) (.tmp 16) 3), 3, none⟩),
 (⟨[18, 17, 17], [14, 15, 16, 17, 18, 17, 17, 19, 14, 18, 4, 18, 20, 21, 22, 23, 24, 23, 23, 25, 20, 24, 5, 24, 4, 19, 19, 5, 25, 25], [18, 17, 17]⟩, ⟨(some 18), (.buildSlice 33 1 #[(0, (.tmp 17))]), 33, none⟩),
 (⟨[19, 14, 18, 4, 18], [14, 15, 16, 17, 18, 17, 17, 19, 14, 18, 4, 18, 20, 21, 22, 23, 24, 23, 23, 25, 20, 24, 5, 24, 4, 19, 19, 5, 25, 25], [19, 14, 18, 4, 18]⟩, ⟨(some 19), (.call ⟨(.builtin .append), #[(.tmp 14), (.tmp 18)], #[33, 33]⟩), 33, none⟩),
 (⟨[20, 5, 5], [14, 15, 16, 17, 18, 17, 17, 19, 14, 18, 4, 18, 20, 21, 22, 23, 24, 23, 23, 25, 20, 24, 5, 24, 4, 19, 19, 5, 25, 25], [20]⟩, ⟨(some 20), (.move (.tmp 5)), 33, none⟩),
 (⟨[21, 7, 7], [14, 15, 16, 17, 18, 17, 17, 19, 14, 18, 4, 18, 20, 21, 22, 23, 24, 23, 23, 25, 20, 24, 5, 24, 4, 19, 19, 5, 25, 25], [21]⟩, ⟨(some 21), (.move (.tmp 7)), 3, none⟩),
 (⟨[22, 1, 1], [14, 15, 16, 17, 18, 17, 17, 19, 14, 18, 4, 18, 20, 21, 22, 23, 24, 23, 23, 25, 20, 24, 5, 24, 4, 19, 19, 5, 25, 25], [22]⟩, ⟨(some 22), (.move (.tmp 1)), 3, none⟩),
 (⟨[23, 21, 22, 7, 1], [14, 15, 16, 17, 18, 17, 17, 19, 14, 18, 4, 18, 20, 21, 22, 23, 24, 23, 23, 25, 20, 24, 5, 24, 4, 19, 19, 5, 25, 25], [23]⟩, ⟨(some 23), (.binOp .rem 3 (.tmp 21) (.tmp 22) 3), 3, none⟩),
 (⟨[24, 23, 23], [14, 15, 16, 17, 18, 17, 17, 19, 14, 18, 4, 18, 20, 21, 22, 23, 24, 23, 23, 25, 20, 24, 5, 24, 4, 19, 19, 5, 25, 25], [24, 23, 23]⟩, ⟨(some 24), (.buildSlice 33 1 #[(0, (.tmp 23))]), 33, none⟩),
 (⟨[25, 20, 24, 5, 24], [14, 15, 16, 17, 18, 17, 17, 19, 14, 18, 4, 18, 20, 21, 22, 23, 24, 23, 23, 25, 20, 24, 5, 24, 4, 19, 19, 5, 25, 25], [25, 20, 24, 5, 24]⟩, ⟨(some 25), (.call ⟨(.builtin .append), #[(.tmp 20), (.tmp 24)], #[33, 33]⟩), 33, none⟩),
 (⟨[4, 19, 19], [14, 15, 16, 17, 18, 17, 17, 19, 14, 18, 4, 18, 20, 21, 22, 23, 24, 23, 23, 25, 20, 24, 5, 24, 4, 19, 19, 5, 25, 25], [4, 19, 19]⟩, ⟨(some 4), (.assign (.tmp 19)), 33, none⟩),
 (⟨[5, 25, 25], [14, 15, 16, 17, 18, 17, 17, 19, 14, 18, 4, 18, 20, 21, 22, 23, 24, 23, 23, 25, 20, 24, 5, 24, 4, 19, 19, 5, 25, 25], [5, 25, 25]⟩, ⟨(some 5), (.assign (.tmp 25)), 33, none⟩)])))
 (.ops [
 ⟨(some 26), (.binOp .add 3 (.tmp 10) (.const (.int .i64 1)) 3), 3, none⟩,
 ⟨(some 10), (.move (.tmp 26)), 3, none⟩])))
def k34_l0 : SC := .loop k34_l0b
def k34 : SC :=
 .seq
 (.ops [
 ⟨(some 4), (.assign (.const (.slice none 0 0))), 33, none⟩,
 ⟨(some 5), (.assign (.const (.slice none 0 0))), 33, none⟩])
 (.seq
 (.seq
 (.ops [
 ⟨(some 8), (.move (.tmp 0)), 33, none⟩,
 ⟨(some 9), (.call ⟨(.builtin .len), #[(.tmp 8)], #[33]⟩), 3, none⟩,
 ⟨(some 10), (.move (.const (.int .i64 0))), 3, none⟩])
 (.block 0
 k34_l0))
 (.seq
 (.ops [
 ⟨(some 27), (.move (.tmp 4)), 33, none⟩,
 ⟨(some 28), (.move (.tmp 5)), 33, none⟩,
 ⟨(some 4), (.assign (.tmp 27)), 33, none⟩,
 ⟨(some 5), (.assign (.tmp 28)), 33, none⟩])
 .ret))
theorem slim34 : Try.f34.body.map (slim lends) = some k34 := by kernel_rfl
theorem ok34 : fnOk Try.f34 2 = true := by kernel_rfl
theorem c34 {a l : List D} {r : D × List D} (h : wpD Y.env k34 (fin tys l.length [ResultVar.tmp 4, ResultVar.tmp 5] r) (entry a l)) (ha : a.length = 2) : Y.call 34 a l = some r :=
 call_slim (Y := Y) rfl Try.func34 (ha ▸ ok34) slim34 h
def i_parts_l0_M (labels : List Int) (k : Int) (first : List Int) (second : List Int) (t10_ : Int) (s : St) : Prop := s.v 1 = D.int .i64 k ∧ s.v 4 = D.own 3 (lst (D.int .i64) first) ∧ s.v 5 = D.own 3 (lst (D.int .i64) second) ∧ s.v 8 = D.sl 3 (lst (D.int .i64) labels) ∧ s.v 9 = D.int .i64 (labels.length : Int) ∧ s.v 10 = D.int .i64 t10_
def i_parts_l0_X (labels : List Int) (k : Int) (r : (List Int) × (List Int)) (ex : Ex) (s : St) : Prop := ex = .exit 0 ∧ s.v 4 = D.own 3 (lst (D.int .i64) r.1) ∧ s.v 5 = D.own 3 (lst (D.int .i64) r.2)
theorem i_parts_l0_wp (labels : List Int) (k : Int) {v : (List Int) × (List Int) × Int} {s : St} {r : (List Int) × (List Int)} (h : i_parts_l0 labels k v = some r) (hM : i_parts_l0_M labels k v.1 v.2.1 v.2.2 s) : wpD Y.env k34_l0 (i_parts_l0_X labels k r) s := by
 unfold i_parts_l0 at h
 refine wd_itO (c := k34_l0b) (fun v => i_parts_l0_S labels k v.1 v.2.1 v.2.2) (fun v s => i_parts_l0_M labels k v.1 v.2.1 v.2.2 s) (i_parts_l0_X labels k) ?_ h hM
 clear h hM s v r
 intro v s o hM h
 obtain ⟨first, second, t10_⟩ := v
 dsimp only at h hM
 unfold i_parts_l0_S at h
 unfold i_parts_l0_M at hM
 obtain ⟨m0, m1, m2, m3, m4, m5⟩ := hM
 unfold k34_l0b
 by_cases e1 : t10_ < (labels.length : Int)
 ·rw [if_pos e1] at h
  obtain ⟨e2, h⟩ := ckS h
  obtain ⟨e3, h⟩ := ckS h
  obtain ⟨e4, h⟩ := ckS h
  obtain ⟨e5, h⟩ := ckS h
  obtain rfl := Option.some.inj h
  simp (maxDischargeDepth := 9) only [↓xpre, xpost, xlst, xc2, xcore, yset, rg0, ↓reduceIte, Nat.reduceEqDiff, Nat.reduceLT, Nat.reduceLeDiff, Nat.reduceAdd, Nat.reduceMul, Nat.reduceMod, Nat.reduceSub, Nat.reduceBEq, Int.reduceLE, Int.reduceLT, Int.reduceEq, Int.reduceSub, Int.reduceAdd, Int.reduceToNat, Int.reduceNeg, m0, m1, m2, m3, m4, m5, e1, e2.1, e2.2, e3, e4, e5, i_parts_l0_M, i_parts_l0_X, sxN, sxE, sxR] <;> (repeat' apply And.intro) <;> first | rfl | exact ⟨_, rfl⟩ | simp [lst, cat2_nil]
 ·rw [if_neg e1] at h
  obtain rfl := Option.some.inj h
  simp (maxDischargeDepth := 9) only [↓xpre, xpost, xlst, xc2, xcore, yset, rg0, ↓reduceIte, Nat.reduceEqDiff, Nat.reduceLT, Nat.reduceLeDiff, Nat.reduceAdd, Nat.reduceMul, Nat.reduceMod, Nat.reduceSub, Nat.reduceBEq, Int.reduceLE, Int.reduceLT, Int.reduceEq, Int.reduceSub, Int.reduceAdd, Int.reduceToNat, Int.reduceNeg, m0, m1, m2, m3, m4, m5, e1, i_parts_l0_M, i_parts_l0_X, sxN, sxE, sxR] <;> (repeat' apply And.intro) <;> first | rfl | exact ⟨_, rfl⟩ | simp [lst, cat2_nil]
theorem i_parts_call (labels : List Int) (k : Int) {r : (List Int) × (List Int)} (h : i_parts labels k = some r) : Y.call 34 [D.sl 3 (lst (D.int .i64) labels), D.int .i64 k] [] = some (D.tup [D.own 3 (lst (D.int .i64) r.1), D.own 3 (lst (D.int .i64) r.2)], []) := by
 refine c34 ?_ rfl
 unfold k34
 unfold i_parts at h
 obtain ⟨r2_, hl2, h⟩ := bindS h
 try dsimp only at h
 simp (maxDischargeDepth := 9) only [↓xpre, xpost, xlst, xc2, xcore, yset, rg0, ↓reduceIte, Nat.reduceEqDiff, Nat.reduceLT, Nat.reduceLeDiff, Nat.reduceAdd, Nat.reduceMul, Nat.reduceMod, Nat.reduceSub, Nat.reduceBEq, Int.reduceLE, Int.reduceLT, Int.reduceEq, Int.reduceSub, Int.reduceAdd, Int.reduceToNat, Int.reduceNeg]
 refine wd_mono (i_parts_l0_wp labels k hl2 ?_) ?_
 ·simp (maxDischargeDepth := 9) only [↓xpre, xpost, xlst, xc2, xcore, yset, rg0, ↓reduceIte, Nat.reduceEqDiff, Nat.reduceLT, Nat.reduceLeDiff, Nat.reduceAdd, Nat.reduceMul, Nat.reduceMod, Nat.reduceSub, Nat.reduceBEq, Int.reduceLE, Int.reduceLT, Int.reduceEq, Int.reduceSub, Int.reduceAdd, Int.reduceToNat, Int.reduceNeg, i_parts_l0_M] <;> (repeat' apply And.intro) <;> first | rfl | exact ⟨_, rfl⟩ | simp [lst, cat2_nil]
 ·intro ex2 s2 hX2
  unfold i_parts_l0_X at hX2
  obtain ⟨rfl, n2_0, n2_1⟩ := hX2
  obtain rfl := Option.some.inj h
  simp (maxDischargeDepth := 9) only [↓xpre, xpost, xlst, xc2, xcore, yset, rg0, ↓reduceIte, Nat.reduceEqDiff, Nat.reduceLT, Nat.reduceLeDiff, Nat.reduceAdd, Nat.reduceMul, Nat.reduceMod, Nat.reduceSub, Nat.reduceBEq, Int.reduceLE, Int.reduceLT, Int.reduceEq, Int.reduceSub, Int.reduceAdd, Int.reduceToNat, Int.reduceNeg, n2_0, n2_1] <;> (repeat' apply And.intro) <;> first | rfl | exact ⟨_, rfl⟩ | simp [lst, cat2_nil]

noncomputable def i_Problem_node (p_Labels : Int) (p_Degree : Int) (p_Nodes : List (List Int)) (p_Edges : List (List Int)) (labels : List Int) : Option (Bool) :=
 ck (Short p_Nodes) <|
 ck (labels.length < 1099511627776) <|
 ck (incL p_Nodes = true) <|
 some (p_Nodes.contains (sortI labels))
/-- impl.Problem).node -/
def k35 : SC :=
 .seq
 (.ops [
 ⟨(some 2), (.box 26 (.tmp 0)), 0, none⟩,
 ⟨(some 4), (.assign (.const (.bool false))), 4, none⟩])
 (.seq
 (.ops [
 ⟨(some 5), (.fieldAddr 26 (.tmp 2) 2), 0, none⟩,
 ⟨(some 6), (.load 22 (.tmp 5)), 22, none⟩,
 ⟨(some 7), (.move (.tmp 1)), 33, none⟩,
 ⟨(some 8), (.call ⟨(.value (.func 65)), #[(.tmp 6), (.tmp 7)], #[22, 33]⟩), 4, none⟩,
 ⟨(some 4), (.assign (.tmp 8)), 4, none⟩])
 .ret)
theorem slim35 : Try.f35.body.map (slim lends) = some k35 := by kernel_rfl
theorem ok35 : fnOk Try.f35 2 = true := by kernel_rfl
theorem c35 {a l : List D} {r : D × List D} (h : wpD Y.env k35 (fin tys l.length [ResultVar.tmp 4] r) (entry a l)) (ha : a.length = 2) : Y.call 35 a l = some r :=
 call_slim (Y := Y) rfl Try.func35 (ha ▸ ok35) slim35 h
theorem i_Problem_node_call (p_Labels : Int) (p_Degree : Int) (p_Nodes : List (List Int)) (p_Edges : List (List Int)) (labels : List Int) {r : Bool} (h : i_Problem_node p_Labels p_Degree p_Nodes p_Edges labels = some r) : Y.call 35 [D.agg [D.int .i64 p_Labels, D.int .i64 p_Degree, D.sl 33 (lst (fun x => D.sl 3 (lst (D.int .i64) x)) p_Nodes), D.sl 33 (lst (fun x => D.sl 3 (lst (D.int .i64) x)) p_Edges)], D.sl 3 (lst (D.int .i64) labels)] [] = some (D.bool r, []) := by
 refine c35 ?_ rfl
 unfold k35
 unfold i_Problem_node at h
 obtain ⟨e1, h⟩ := ckS h
 obtain ⟨e2, h⟩ := ckS h
 obtain ⟨e3, h⟩ := ckS h
 have c4 := i_hasConfiguration_cl p_Nodes labels e1 e2 e3
 obtain rfl := Option.some.inj h
 simp (maxDischargeDepth := 9) only [↓xpre, xpost, xlst, xc2, xcore, yset, rg0, ↓reduceIte, Nat.reduceEqDiff, Nat.reduceLT, Nat.reduceLeDiff, Nat.reduceAdd, Nat.reduceMul, Nat.reduceMod, Nat.reduceSub, Nat.reduceBEq, Int.reduceLE, Int.reduceLT, Int.reduceEq, Int.reduceSub, Int.reduceAdd, Int.reduceToNat, Int.reduceNeg, e1, e2, e3, c4] <;> (repeat' apply And.intro) <;> first | rfl | exact ⟨_, rfl⟩ | simp [lst, cat2_nil]

noncomputable def i_ProductProblem_1 (c_ : List Int) (c0__0 : Int) (c0__1 : Int) (c0__2 : List (List Int)) (c0__3 : List (List Int)) (c1__0 : Int) (c1__1 : Int) (c1__2 : List (List Int)) (c1__3 : List (List Int)) : Option (Bool) :=
 (i_parts c_ c0__0).bind fun r1_ =>
 (i_Problem_node c1__0 c1__1 c1__2 c1__3 r1_.1).bind fun r2_ =>
 if r2_ = true then
  (i_Problem_node c0__0 c0__1 c0__2 c0__3 r1_.2).bind fun r4_ =>
  some r4_
 else
  some false
/-- impl.ProductProblem$1 -/
def k33 : SC :=
 .seq
 (.ops [
 ⟨(some 4), (.assign (.const (.bool false))), 4, none⟩])
 (.seq
 (.ops [
 ⟨(some 8), (.move (.tmp 0)), 33, none⟩,
 ⟨(some 9), (.fieldAddr 26 (.tmp 1) 0), 0, none⟩,
 ⟨(some 10), (.load 3 (.tmp 9)), 3, none⟩,
 ⟨(some 11), (.call ⟨(.value (.func 34)), #[(.tmp 8), (.tmp 10)], #[33, 3]⟩), 45, none⟩,
 ⟨(some 7), (.move (.tmp 11)), 45, none⟩,
 ⟨(some 12), (.extract (.tmp 7) 0), 33, none⟩,
 ⟨(some 13), (.extract (.tmp 7) 1), 33, none⟩,
 ⟨(some 5), (.assign (.tmp 12)), 33, none⟩,
 ⟨(some 6), (.assign (.tmp 13)), 33, none⟩])
 (.seq
 (.ops [
 ⟨(some 14), (.load 26 (.tmp 2)), 26, none⟩,
 ⟨(some 15), (.move (.tmp 5)), 33, none⟩,
 ⟨(some 16), (.call ⟨(.value (.func 35)), #[(.tmp 14), (.tmp 15)], #[26, 33]⟩), 4, none⟩,
 ⟨(some 17), (.move (.tmp 16)), 4, none⟩,
 ⟨(some 18), (.load 26 (.tmp 1)), 26, (some (some 17, true))⟩,
 ⟨(some 19), (.move (.tmp 6)), 33, (some (some 17, true))⟩,
 ⟨(some 20), (.call ⟨(.value (.func 35)), #[(.tmp 18), (.tmp 19)], #[26, 33]⟩), 4, (some (some 17, true))⟩,
 ⟨(some 21), (.pick (.tmp 17) (.tmp 20) (.const (.bool false))), 4, none⟩,
 ⟨(some 4), (.assign (.tmp 21)), 4, none⟩])
 .ret))
theorem slim33 : Try.f33.body.map (slim lends) = some k33 := by kernel_rfl
theorem ok33 : fnOk Try.f33 3 = true := by kernel_rfl
theorem c33 {a l : List D} {r : D × List D} (h : wpD Y.env k33 (fin tys l.length [ResultVar.tmp 4] r) (entry a l)) (ha : a.length = 3) : Y.call 33 a l = some r :=
 call_slim (Y := Y) rfl Try.func33 (ha ▸ ok33) slim33 h
theorem i_ProductProblem_1_call (c_ : List Int) (c0__0 : Int) (c0__1 : Int) (c0__2 : List (List Int)) (c0__3 : List (List Int)) (c1__0 : Int) (c1__1 : Int) (c1__2 : List (List Int)) (c1__3 : List (List Int)) {r : Bool} (h : i_ProductProblem_1 c_ c0__0 c0__1 c0__2 c0__3 c1__0 c1__1 c1__2 c1__3 = some r) : Y.call 33 [D.sl 3 (lst (D.int .i64) c_), D.cptr [D.int .i64 c0__0, D.int .i64 c0__1, D.sl 33 (lst (fun x => D.sl 3 (lst (D.int .i64) x)) c0__2), D.sl 33 (lst (fun x => D.sl 3 (lst (D.int .i64) x)) c0__3)], D.cptr [D.int .i64 c1__0, D.int .i64 c1__1, D.sl 33 (lst (fun x => D.sl 3 (lst (D.int .i64) x)) c1__2), D.sl 33 (lst (fun x => D.sl 3 (lst (D.int .i64) x)) c1__3)]] [] = some (D.bool r, []) := by
 refine c33 ?_ rfl
 unfold k33
 unfold i_ProductProblem_1 at h
 obtain ⟨r1_, hl1, h⟩ := bindS h
 try dsimp only at h
 have c1 := i_parts_call c_ c0__0 hl1
 obtain ⟨r2_, hl2, h⟩ := bindS h
 try dsimp only at h
 have c2 := i_Problem_node_call c1__0 c1__1 c1__2 c1__3 r1_.1 hl2
 by_cases e3 : r2_ = true
 ·rw [if_pos e3] at h
  obtain ⟨r4_, hl4, h⟩ := bindS h
  try dsimp only at h
  have c4 := i_Problem_node_call c0__0 c0__1 c0__2 c0__3 r1_.2 hl4
  obtain rfl := Option.some.inj h
  simp (maxDischargeDepth := 9) only [↓xpre, xpost, xlst, xc2, xcore, yset, rg0, ↓reduceIte, Nat.reduceEqDiff, Nat.reduceLT, Nat.reduceLeDiff, Nat.reduceAdd, Nat.reduceMul, Nat.reduceMod, Nat.reduceSub, Nat.reduceBEq, Int.reduceLE, Int.reduceLT, Int.reduceEq, Int.reduceSub, Int.reduceAdd, Int.reduceToNat, Int.reduceNeg, c1, c2, e3, c4] <;> (repeat' apply And.intro) <;> first | rfl | exact ⟨_, rfl⟩ | simp [lst, cat2_nil]
 ·rw [if_neg e3] at h
  have e3f : r2_ = false := Bool.eq_false_iff.mpr e3
  obtain rfl := Option.some.inj h
  simp (maxDischargeDepth := 9) only [↓xpre, xpost, xlst, xc2, xcore, yset, rg0, ↓reduceIte, Nat.reduceEqDiff, Nat.reduceLT, Nat.reduceLeDiff, Nat.reduceAdd, Nat.reduceMul, Nat.reduceMod, Nat.reduceSub, Nat.reduceBEq, Int.reduceLE, Int.reduceLT, Int.reduceEq, Int.reduceSub, Int.reduceAdd, Int.reduceToNat, Int.reduceNeg, c1, c2, e3f] <;> (repeat' apply And.intro) <;> first | rfl | exact ⟨_, rfl⟩ | simp [lst, cat2_nil]

noncomputable def i_Problem_edge (p_Labels : Int) (p_Degree : Int) (p_Nodes : List (List Int)) (p_Edges : List (List Int)) (a : Int) (b : Int) : Option (Bool) :=
 ck (Short p_Edges) <|
 ck ([a, b].length < 1099511627776) <|
 ck (incL p_Edges = true) <|
 some (p_Edges.contains (sortI [a, b]))
/-- impl.Problem).edge -/
def k37 : SC :=
 .seq
 (.ops [
 ⟨(some 3), (.box 26 (.tmp 0)), 0, none⟩,
 ⟨(some 6), (.assign (.const (.bool false))), 4, none⟩])
 (.seq
 (.ops [
 ⟨(some 7), (.fieldAddr 26 (.tmp 3) 3), 0, none⟩,
 ⟨(some 8), (.load 22 (.tmp 7)), 22, none⟩,
 ⟨(some 9), (.move (.tmp 1)), 3, none⟩,
 ⟨(some 10), (.move (.tmp 2)), 3, none⟩,
 ⟨(some 11), (.buildSlice 33 2 #[(0, (.tmp 9)), (1, (.tmp 10))]), 33, none⟩,
 ⟨(some 12), (.call ⟨(.value (.func 65)), #[(.tmp 8), (.tmp 11)], #[22, 33]⟩), 4, none⟩,
 ⟨(some 6), (.assign (.tmp 12)), 4, none⟩])
 .ret)
theorem slim37 : Try.f37.body.map (slim lends) = some k37 := by kernel_rfl
theorem ok37 : fnOk Try.f37 3 = true := by kernel_rfl
theorem c37 {a l : List D} {r : D × List D} (h : wpD Y.env k37 (fin tys l.length [ResultVar.tmp 6] r) (entry a l)) (ha : a.length = 3) : Y.call 37 a l = some r :=
 call_slim (Y := Y) rfl Try.func37 (ha ▸ ok37) slim37 h
theorem i_Problem_edge_call (p_Labels : Int) (p_Degree : Int) (p_Nodes : List (List Int)) (p_Edges : List (List Int)) (a : Int) (b : Int) {r : Bool} (h : i_Problem_edge p_Labels p_Degree p_Nodes p_Edges a b = some r) : Y.call 37 [D.agg [D.int .i64 p_Labels, D.int .i64 p_Degree, D.sl 33 (lst (fun x => D.sl 3 (lst (D.int .i64) x)) p_Nodes), D.sl 33 (lst (fun x => D.sl 3 (lst (D.int .i64) x)) p_Edges)], D.int .i64 a, D.int .i64 b] [] = some (D.bool r, []) := by
 refine c37 ?_ rfl
 unfold k37
 unfold i_Problem_edge at h
 obtain ⟨e1, h⟩ := ckS h
 obtain ⟨e2, h⟩ := ckS h
 obtain ⟨e3, h⟩ := ckS h
 have c4 := i_hasConfiguration_cl p_Edges [a, b] e1 e2 e3
 simp only [lst_cons, lst_nil, cat_cons, cat_nil, List.append_nil, List.cons_append, List.nil_append] at c4
 obtain rfl := Option.some.inj h
 simp (maxDischargeDepth := 9) only [↓xpre, xpost, xlst, xc2, xcore, yset, rg0, ↓reduceIte, Nat.reduceEqDiff, Nat.reduceLT, Nat.reduceLeDiff, Nat.reduceAdd, Nat.reduceMul, Nat.reduceMod, Nat.reduceSub, Nat.reduceBEq, Int.reduceLE, Int.reduceLT, Int.reduceEq, Int.reduceSub, Int.reduceAdd, Int.reduceToNat, Int.reduceNeg, e1, e2, e3, c4] <;> (repeat' apply And.intro) <;> first | rfl | exact ⟨_, rfl⟩ | simp [lst, cat2_nil]

noncomputable def i_ProductProblem_2 (c_ : List Int) (c0__0 : Int) (c0__1 : Int) (c0__2 : List (List Int)) (c0__3 : List (List Int)) (c1__0 : Int) (c1__1 : Int) (c1__2 : List (List Int)) (c1__3 : List (List Int)) : Option (Bool) :=
 (i_parts c_ c0__0).bind fun r1_ =>
 ck (0 < r1_.1.length) <|
 ck (1 < r1_.1.length) <|
 (i_Problem_edge c1__0 c1__1 c1__2 c1__3 (r1_.1.getD 0 default) (r1_.1.getD 1 default)).bind fun r4_ =>
 if r4_ = true then
  ck (0 < r1_.2.length) <|
  ck (1 < r1_.2.length) <|
  (i_Problem_edge c0__0 c0__1 c0__2 c0__3 (r1_.2.getD 0 default) (r1_.2.getD 1 default)).bind fun r8_ =>
  some r8_
 else
  some false
/-- impl.ProductProblem$2 -/
def k36 : SC :=
 .seq
 (.ops [
 ⟨(some 4), (.assign (.const (.bool false))), 4, none⟩])
 (.seq
 (.ops [
 ⟨(some 8), (.move (.tmp 0)), 33, none⟩,
 ⟨(some 9), (.fieldAddr 26 (.tmp 1) 0), 0, none⟩,
 ⟨(some 10), (.load 3 (.tmp 9)), 3, none⟩,
 ⟨(some 11), (.call ⟨(.value (.func 34)), #[(.tmp 8), (.tmp 10)], #[33, 3]⟩), 45, none⟩,
 ⟨(some 7), (.move (.tmp 11)), 45, none⟩,
 ⟨(some 12), (.extract (.tmp 7) 0), 33, none⟩,
 ⟨(some 13), (.extract (.tmp 7) 1), 33, none⟩,
 ⟨(some 5), (.assign (.tmp 12)), 33, none⟩,
 ⟨(some 6), (.assign (.tmp 13)), 33, none⟩])
 (.seq
 (.draws [
 (⟨[14, 2, 2], [14, 15, 16, 17, 18, 19, 20, 21, 22, 21, 23, 24, 25, 26, 27, 28, 29, 30, 31, 4, 31, 31], [14]⟩, ⟨(some 14), (.load 26 (.tmp 2)), 26, none⟩),
 (⟨[15, 5, 5], [14, 15, 16, 17, 18, 19, 20, 21, 22, 21, 23, 24, 25, 26, 27, 28, 29, 30, 31, 4, 31, 31], [15]⟩, ⟨(some 15), (.move (.tmp 5)), 33, none⟩),
 (⟨[16, 15, 5], [14, 15, 16, 17, 18, 19, 20, 21, 22, 21, 23, 24, 25, 26, 27, 28, 29, 30, 31, 4, 31, 31], [16]⟩, ⟨(some 16), (.indexAddr 33 (.tmp 15) (.const (.int .i64 0))), 0, none⟩),
 (⟨[17, 16, 5], [14, 15, 16, 17, 18, 19, 20, 21, 22, 21, 23, 24, 25, 26, 27, 28, 29, 30, 31, 4, 31, 31], [17]⟩, ⟨(some 17), (.load 3 (.tmp 16)), 3, none⟩),
 (⟨[18, 5, 5], [14, 15, 16, 17, 18, 19, 20, 21, 22, 21, 23, 24, 25, 26, 27, 28, 29, 30, 31, 4, 31, 31], [18]⟩, ⟨(some 18), (.move (.tmp 5)), 33, none⟩),
 (⟨[19, 18, 5], [14, 15, 16, 17, 18, 19, 20, 21, 22, 21, 23, 24, 25, 26, 27, 28, 29, 30, 31, 4, 31, 31], [19]⟩, ⟨(some 19), (.indexAddr 33 (.tmp 18) (.const (.int .i64 1))), 0, none⟩),
 (⟨[20, 19, 5], [14, 15, 16, 17, 18, 19, 20, 21, 22, 21, 23, 24, 25, 26, 27, 28, 29, 30, 31, 4, 31, 31], [20]⟩, ⟨(some 20), (.load 3 (.tmp 19)), 3, none⟩),
 (⟨[21, 14, 17, 20, 2, 5, 5], [14, 15, 16, 17, 18, 19, 20, 21, 22, 21, 23, 24, 25, 26, 27, 28, 29, 30, 31, 4, 31, 31], [21]⟩, ⟨(some 21), (.call ⟨(.value (.func 37)), #[(.tmp 14), (.tmp 17), (.tmp 20)], #[26, 3, 3]⟩), 4, none⟩),
 (⟨[22, 21, 21], [14, 15, 16, 17, 18, 19, 20, 21, 22, 21, 23, 24, 25, 26, 27, 28, 29, 30, 31, 4, 31, 31], [22, 21]⟩, ⟨(some 22), (.move (.tmp 21)), 4, none⟩),
 (⟨[23, 1, 1, 22], [14, 15, 16, 17, 18, 19, 20, 21, 22, 21, 23, 24, 25, 26, 27, 28, 29, 30, 31, 4, 31, 31], [23]⟩, ⟨(some 23), (.load 26 (.tmp 1)), 26, (some (some 22, true))⟩),
 (⟨[24, 6, 6, 22], [14, 15, 16, 17, 18, 19, 20, 21, 22, 21, 23, 24, 25, 26, 27, 28, 29, 30, 31, 4, 31, 31], [24]⟩, ⟨(some 24), (.move (.tmp 6)), 33, (some (some 22, true))⟩),
 (⟨[25, 24, 6, 22], [14, 15, 16, 17, 18, 19, 20, 21, 22, 21, 23, 24, 25, 26, 27, 28, 29, 30, 31, 4, 31, 31], [25]⟩, ⟨(some 25), (.indexAddr 33 (.tmp 24) (.const (.int .i64 0))), 0, (some (some 22, true))⟩),
 (⟨[26, 25, 6, 22], [14, 15, 16, 17, 18, 19, 20, 21, 22, 21, 23, 24, 25, 26, 27, 28, 29, 30, 31, 4, 31, 31], [26]⟩, ⟨(some 26), (.load 3 (.tmp 25)), 3, (some (some 22, true))⟩),
 (⟨[27, 6, 6, 22], [14, 15, 16, 17, 18, 19, 20, 21, 22, 21, 23, 24, 25, 26, 27, 28, 29, 30, 31, 4, 31, 31], [27]⟩, ⟨(some 27), (.move (.tmp 6)), 33, (some (some 22, true))⟩),
 (⟨[28, 27, 6, 22], [14, 15, 16, 17, 18, 19, 20, 21, 22, 21, 23, 24, 25, 26, 27, 28, 29, 30, 31, 4, 31, 31], [28]⟩, ⟨(some 28), (.indexAddr 33 (.tmp 27) (.const (.int .i64 1))), 0, (some (some 22, true))⟩),
 (⟨[29, 28, 6, 22], [14, 15, 16, 17, 18, 19, 20, 21, 22, 21, 23, 24, 25, 26, 27, 28, 29, 30, 31, 4, 31, 31], [29]⟩, ⟨(some 29), (.load 3 (.tmp 28)), 3, (some (some 22, true))⟩),
 (⟨[30, 23, 26, 29, 1, 6, 6, 22], [14, 15, 16, 17, 18, 19, 20, 21, 22, 21, 23, 24, 25, 26, 27, 28, 29, 30, 31, 4, 31, 31], [30]⟩, ⟨(some 30), (.call ⟨(.value (.func 37)), #[(.tmp 23), (.tmp 26), (.tmp 29)], #[26, 3, 3]⟩), 4, (some (some 22, true))⟩),
 (⟨[31, 22, 30, 21, 30], [14, 15, 16, 17, 18, 19, 20, 21, 22, 21, 23, 24, 25, 26, 27, 28, 29, 30, 31, 4, 31, 31], [31]⟩, ⟨(some 31), (.pick (.tmp 22) (.tmp 30) (.const (.bool false))), 4, none⟩),
 (⟨[4, 31, 31], [14, 15, 16, 17, 18, 19, 20, 21, 22, 21, 23, 24, 25, 26, 27, 28, 29, 30, 31, 4, 31, 31], [4, 31, 31]⟩, ⟨(some 4), (.assign (.tmp 31)), 4, none⟩)])
 .ret))
theorem slim36 : Try.f36.body.map (slim lends) = some k36 := by kernel_rfl
theorem ok36 : fnOk Try.f36 3 = true := by kernel_rfl
theorem c36 {a l : List D} {r : D × List D} (h : wpD Y.env k36 (fin tys l.length [ResultVar.tmp 4] r) (entry a l)) (ha : a.length = 3) : Y.call 36 a l = some r :=
 call_slim (Y := Y) rfl Try.func36 (ha ▸ ok36) slim36 h
theorem i_ProductProblem_2_call (c_ : List Int) (c0__0 : Int) (c0__1 : Int) (c0__2 : List (List Int)) (c0__3 : List (List Int)) (c1__0 : Int) (c1__1 : Int) (c1__2 : List (List Int)) (c1__3 : List (List Int)) {r : Bool} (h : i_ProductProblem_2 c_ c0__0 c0__1 c0__2 c0__3 c1__0 c1__1 c1__2 c1__3 = some r) : Y.call 36 [D.sl 3 (lst (D.int .i64) c_), D.cptr [D.int .i64 c0__0, D.int .i64 c0__1, D.sl 33 (lst (fun x => D.sl 3 (lst (D.int .i64) x)) c0__2), D.sl 33 (lst (fun x => D.sl 3 (lst (D.int .i64) x)) c0__3)], D.cptr [D.int .i64 c1__0, D.int .i64 c1__1, D.sl 33 (lst (fun x => D.sl 3 (lst (D.int .i64) x)) c1__2), D.sl 33 (lst (fun x => D.sl 3 (lst (D.int .i64) x)) c1__3)]] [] = some (D.bool r, []) := by
 refine c36 ?_ rfl
 unfold k36
 unfold i_ProductProblem_2 at h
 obtain ⟨r1_, hl1, h⟩ := bindS h
 try dsimp only at h
 have c1 := i_parts_call c_ c0__0 hl1
 obtain ⟨e2, h⟩ := ckS h
 obtain ⟨e3, h⟩ := ckS h
 obtain ⟨r4_, hl4, h⟩ := bindS h
 try dsimp only at h
 have c4 := i_Problem_edge_call c1__0 c1__1 c1__2 c1__3 (r1_.1.getD 0 default) (r1_.1.getD 1 default) hl4
 by_cases e5 : r4_ = true
 ·rw [if_pos e5] at h
  obtain ⟨e6, h⟩ := ckS h
  obtain ⟨e7, h⟩ := ckS h
  obtain ⟨r8_, hl8, h⟩ := bindS h
  try dsimp only at h
  have c8 := i_Problem_edge_call c0__0 c0__1 c0__2 c0__3 (r1_.2.getD 0 default) (r1_.2.getD 1 default) hl8
  obtain rfl := Option.some.inj h
  simp (maxDischargeDepth := 9) only [↓xpre, xpost, xlst, xc2, xcore, yset, rg0, ↓reduceIte, Nat.reduceEqDiff, Nat.reduceLT, Nat.reduceLeDiff, Nat.reduceAdd, Nat.reduceMul, Nat.reduceMod, Nat.reduceSub, Nat.reduceBEq, Int.reduceLE, Int.reduceLT, Int.reduceEq, Int.reduceSub, Int.reduceAdd, Int.reduceToNat, Int.reduceNeg, c1, e2, e3, c4, e5, e6, e7, c8] <;> (repeat' apply And.intro) <;> first | rfl | exact ⟨_, rfl⟩ | simp [lst, cat2_nil]
 ·rw [if_neg e5] at h
  have e5f : r4_ = false := Bool.eq_false_iff.mpr e5
  obtain rfl := Option.some.inj h
  simp (maxDischargeDepth := 9) only [↓xpre, xpost, xlst, xc2, xcore, yset, rg0, ↓reduceIte, Nat.reduceEqDiff, Nat.reduceLT, Nat.reduceLeDiff, Nat.reduceAdd, Nat.reduceMul, Nat.reduceMod, Nat.reduceSub, Nat.reduceBEq, Int.reduceLE, Int.reduceLT, Int.reduceEq, Int.reduceSub, Int.reduceAdd, Int.reduceToNat, Int.reduceNeg, c1, e2, e3, c4, e5f] <;> (repeat' apply And.intro) <;> first | rfl | exact ⟨_, rfl⟩ | simp [lst, cat2_nil]

noncomputable def i_ProductProblem (p_Labels : Int) (p_Degree : Int) (p_Nodes : List (List Int)) (p_Edges : List (List Int)) (q_Labels : Int) (q_Degree : Int) (q_Nodes : List (List Int)) (q_Edges : List (List Int)) : Option (Int × Int × (List (List Int)) × (List (List Int)) × Bool) :=
 (i_areProblems p_Labels p_Degree p_Nodes p_Edges q_Labels q_Degree q_Nodes q_Edges).bind fun r1_ =>
 if r1_ = true then
  if 8 < (IntKind.i64.wrap (p_Labels * q_Labels)) then
   some (0, 0, [], [], false)
  else
   (i_allowedBy (IntKind.i64.wrap (p_Labels * q_Labels)) p_Degree (fun a0 => i_ProductProblem_1 a0 q_Labels q_Degree q_Nodes q_Edges p_Labels p_Degree p_Nodes p_Edges)).bind fun r4_ =>
   (i_allowedBy (IntKind.i64.wrap (p_Labels * q_Labels)) (2 : Int) (fun a0 => i_ProductProblem_2 a0 q_Labels q_Degree q_Nodes q_Edges p_Labels p_Degree p_Nodes p_Edges)).bind fun r5_ =>
   some (IntKind.i64.wrap (p_Labels * q_Labels), p_Degree, r4_, r5_, true)
 else
  some (0, 0, [], [], false)
/-- impl.ProductProblem -/
def k11 : SC :=
 .seq
 (.ops [
 ⟨(some 2), (.box 26 (.tmp 0)), 900003, none⟩,
 ⟨(some 3), (.box 26 (.tmp 1)), 900003, none⟩,
 ⟨(some 4), (.alloc 26), 0, none⟩,
 ⟨(some 5), (.assign (.const (.bool false))), 4, none⟩])
 (.seq
 (.seq
 (.ops [
 ⟨(some 7), (.load 26 (.tmp 2)), 26, none⟩,
 ⟨(some 8), (.load 26 (.tmp 3)), 26, none⟩,
 ⟨(some 9), (.call ⟨(.value (.func 31)), #[(.tmp 7), (.tmp 8)], #[26, 26]⟩), 4, none⟩,
 ⟨(some 10), (.unOp .not 4 (.tmp 9)), 4, none⟩,
 ⟨(some 11), (.move (.tmp 10)), 4, none⟩,
 ⟨(some 12), (.fieldAddr 26 (.tmp 2) 0), 0, (some (some 11, false))⟩,
 ⟨(some 13), (.load 3 (.tmp 12)), 3, (some (some 11, false))⟩,
 ⟨(some 14), (.fieldAddr 26 (.tmp 3) 0), 0, (some (some 11, false))⟩,
 ⟨(some 15), (.load 3 (.tmp 14)), 3, (some (some 11, false))⟩,
 ⟨(some 16), (.binOp .mul 3 (.tmp 13) (.tmp 15) 3), 3, (some (some 11, false))⟩,
 ⟨(some 17), (.binOp .gtr 3 (.tmp 16) (.const (.int .i64 8)) 3), 4, (some (some 11, false))⟩,
 ⟨(some 18), (.pick (.tmp 11) (.const (.bool true)) (.tmp 17)), 4, none⟩])
 (.cond (.tmp 18)
 (.seq
 (.ops [
 ⟨(some 19), (.build 26 #[]), 26, none⟩,
 ⟨none, (.store 26 (.tmp 4) (.tmp 19)), 0, none⟩,
 ⟨(some 5), (.assign (.const (.bool false))), 4, none⟩])
 .ret)
 .skip))
 (.seq
 (.ops [
 ⟨(some 20), (.fieldAddr 26 (.tmp 2) 0), 0, none⟩,
 ⟨(some 21), (.load 3 (.tmp 20)), 3, none⟩,
 ⟨(some 22), (.fieldAddr 26 (.tmp 3) 0), 0, none⟩,
 ⟨(some 23), (.load 3 (.tmp 22)), 3, none⟩,
 ⟨(some 24), (.binOp .mul 3 (.tmp 21) (.tmp 23) 3), 3, none⟩,
 ⟨(some 6), (.assign (.tmp 24)), 3, none⟩])
 (.seq
 (.draws [
 (⟨[25, 6, 6], [25, 26, 27, 28, 29, 30, 31, 32, 33, 34, 35, 36, 25, 27, 32, 35, 6, 2, 32, 35, 4, 36, 4, 36, 5], [25]⟩, ⟨(some 25), (.move (.tmp 6)), 3, none⟩),
 (⟨[26, 2, 2], [25, 26, 27, 28, 29, 30, 31, 32, 33, 34, 35, 36, 25, 27, 32, 35, 6, 2, 32, 35, 4, 36, 4, 36, 5], [26]⟩, ⟨(some 26), (.fieldAddr 26 (.tmp 2) 1), 0, none⟩),
 (⟨[27, 26, 2], [25, 26, 27, 28, 29, 30, 31, 32, 33, 34, 35, 36, 25, 27, 32, 35, 6, 2, 32, 35, 4, 36, 4, 36, 5], [27]⟩, ⟨(some 27), (.load 3 (.tmp 26)), 3, none⟩),
 (⟨[28, 6, 6], [25, 26, 27, 28, 29, 30, 31, 32, 33, 34, 35, 36, 25, 27, 32, 35, 6, 2, 32, 35, 4, 36, 4, 36, 5], [28]⟩, ⟨(some 28), (.move (.tmp 6)), 3, none⟩),
 (⟨[29, 2, 2], [25, 26, 27, 28, 29, 30, 31, 32, 33, 34, 35, 36, 25, 27, 32, 35, 6, 2, 32, 35, 4, 36, 4, 36, 5], [29]⟩, ⟨(some 29), (.fieldAddr 26 (.tmp 2) 1), 0, none⟩),
 (⟨[30, 29, 2], [25, 26, 27, 28, 29, 30, 31, 32, 33, 34, 35, 36, 25, 27, 32, 35, 6, 2, 32, 35, 4, 36, 4, 36, 5], [30]⟩, ⟨(some 30), (.load 3 (.tmp 29)), 3, none⟩),
 (⟨[31, 3, 2, 3, 2], [25, 26, 27, 28, 29, 30, 31, 32, 33, 34, 35, 36, 25, 27, 32, 35, 6, 2, 32, 35, 4, 36, 4, 36, 5], [31]⟩, ⟨(some 31), (.makeFunc (Fn.func 33) #[] #[(.tmp 3), (.tmp 2)]), 48, none⟩),
 (⟨[32, 28, 30, 31, 6, 2, 31], [25, 26, 27, 28, 29, 30, 31, 32, 33, 34, 35, 36, 25, 27, 32, 35, 6, 2, 32, 35, 4, 36, 4, 36, 5], [32]⟩, ⟨(some 32), (.call ⟨(.value (.func 32)), #[(.tmp 28), (.tmp 30), (.tmp 31)], #[3, 3, 48]⟩), 22, none⟩),
 (⟨[33, 6, 6], [25, 26, 27, 28, 29, 30, 31, 32, 33, 34, 35, 36, 25, 27, 32, 35, 6, 2, 32, 35, 4, 36, 4, 36, 5], [33]⟩, ⟨(some 33), (.move (.tmp 6)), 3, none⟩),
 (⟨[34, 3, 2, 3, 2], [25, 26, 27, 28, 29, 30, 31, 32, 33, 34, 35, 36, 25, 27, 32, 35, 6, 2, 32, 35, 4, 36, 4, 36, 5], [34]⟩, ⟨(some 34), (.makeFunc (Fn.func 36) #[] #[(.tmp 3), (.tmp 2)]), 48, none⟩),
 (⟨[35, 33, 34, 6, 34], [25, 26, 27, 28, 29, 30, 31, 32, 33, 34, 35, 36, 25, 27, 32, 35, 6, 2, 32, 35, 4, 36, 4, 36, 5], [35]⟩, ⟨(some 35), (.call ⟨(.value (.func 32)), #[(.tmp 33), (.const (.int .i64 2)), (.tmp 34)], #[3, 3, 48]⟩), 22, none⟩),
 (⟨[36, 25, 27, 32, 35, 6, 2, 32, 35], [25, 26, 27, 28, 29, 30, 31, 32, 33, 34, 35, 36, 25, 27, 32, 35, 6, 2, 32, 35, 4, 36, 4, 36, 5], [36, 25, 27, 32, 35, 6, 2, 32, 35]⟩, ⟨(some 36), (.build 26 #[(0, (.tmp 25)), (1, (.tmp 27)), (2, (.tmp 32)), (3, (.tmp 35))]), 26, none⟩),
 (⟨[4, 36, 4, 36], [25, 26, 27, 28, 29, 30, 31, 32, 33, 34, 35, 36, 25, 27, 32, 35, 6, 2, 32, 35, 4, 36, 4, 36, 5], [4, 36, 4, 36]⟩, ⟨none, (.store 26 (.tmp 4) (.tmp 36)), 0, none⟩),
 (⟨[5], [25, 26, 27, 28, 29, 30, 31, 32, 33, 34, 35, 36, 25, 27, 32, 35, 6, 2, 32, 35, 4, 36, 4, 36, 5], [5]⟩, ⟨(some 5), (.assign (.const (.bool true))), 4, none⟩)])
 .ret)))
theorem slim11 : Try.f11.body.map (slim lends) = some k11 := by kernel_rfl
theorem ok11 : fnOk Try.f11 2 = true := by kernel_rfl
theorem c11 {a l : List D} {r : D × List D} (h : wpD Y.env k11 (fin tys l.length [ResultVar.cell 4 26, ResultVar.tmp 5] r) (entry a l)) (ha : a.length = 2) : Y.call 11 a l = some r :=
 call_slim (Y := Y) rfl Try.func11 (ha ▸ ok11) slim11 h
theorem i_ProductProblem_call (p_Labels : Int) (p_Degree : Int) (p_Nodes : List (List Int)) (p_Edges : List (List Int)) (q_Labels : Int) (q_Degree : Int) (q_Nodes : List (List Int)) (q_Edges : List (List Int)) {r : Int × Int × (List (List Int)) × (List (List Int)) × Bool} (h : i_ProductProblem p_Labels p_Degree p_Nodes p_Edges q_Labels q_Degree q_Nodes q_Edges = some r) : Y.call 11 [D.agg [D.int .i64 p_Labels, D.int .i64 p_Degree, D.sl 33 (lst (fun x => D.sl 3 (lst (D.int .i64) x)) p_Nodes), D.sl 33 (lst (fun x => D.sl 3 (lst (D.int .i64) x)) p_Edges)], D.agg [D.int .i64 q_Labels, D.int .i64 q_Degree, D.sl 33 (lst (fun x => D.sl 3 (lst (D.int .i64) x)) q_Nodes), D.sl 33 (lst (fun x => D.sl 3 (lst (D.int .i64) x)) q_Edges)]] [] = some (D.tup [D.agg [D.int .i64 r.1, D.int .i64 r.2.1, D.own 33 (lst (fun x => D.own 3 (lst (D.int .i64) x)) r.2.2.1), D.own 33 (lst (fun x => D.own 3 (lst (D.int .i64) x)) r.2.2.2.1)], D.bool r.2.2.2.2], []) := by
 refine c11 ?_ rfl
 unfold k11
 unfold i_ProductProblem at h
 obtain ⟨r1_, hl1, h⟩ := bindS h
 try dsimp only at h
 have c1 := i_areProblems_call p_Labels p_Degree p_Nodes p_Edges q_Labels q_Degree q_Nodes q_Edges hl1
 by_cases e2 : r1_ = true
 ·rw [if_pos e2] at h
  by_cases e3 : 8 < (IntKind.i64.wrap (p_Labels * q_Labels))
  ·rw [if_pos e3] at h
   obtain rfl := Option.some.inj h
   simp (maxDischargeDepth := 9) only [↓xpre, xpost, xlst, xc2, xcore, yset, rg0, ↓reduceIte, Nat.reduceEqDiff, Nat.reduceLT, Nat.reduceLeDiff, Nat.reduceAdd, Nat.reduceMul, Nat.reduceMod, Nat.reduceSub, Nat.reduceBEq, Int.reduceLE, Int.reduceLT, Int.reduceEq, Int.reduceSub, Int.reduceAdd, Int.reduceToNat, Int.reduceNeg, c1, e2, e3] <;> (repeat' apply And.intro) <;> first | rfl | exact ⟨_, rfl⟩ | simp [lst, cat2_nil]
  ·rw [if_neg e3] at h
   obtain ⟨r4_, hl4, h⟩ := bindS h
   try dsimp only at h
   have c4 := i_allowedBy_call (IntKind.i64.wrap (p_Labels * q_Labels)) p_Degree (fun a0 => i_ProductProblem_1 a0 q_Labels q_Degree q_Nodes q_Edges p_Labels p_Degree p_Nodes p_Edges) 33 [D.cptr [D.int .i64 q_Labels, D.int .i64 q_Degree, D.sl 33 (lst (fun x => D.sl 3 (lst (D.int .i64) x)) q_Nodes), D.sl 33 (lst (fun x => D.sl 3 (lst (D.int .i64) x)) q_Edges)], D.cptr [D.int .i64 p_Labels, D.int .i64 p_Degree, D.sl 33 (lst (fun x => D.sl 3 (lst (D.int .i64) x)) p_Nodes), D.sl 33 (lst (fun x => D.sl 3 (lst (D.int .i64) x)) p_Edges)]] (fun a0 _ hh => i_ProductProblem_1_call a0 q_Labels q_Degree q_Nodes q_Edges p_Labels p_Degree p_Nodes p_Edges hh) le33 hl4
   obtain ⟨r5_, hl5, h⟩ := bindS h
   try dsimp only at h
   have c5 := i_allowedBy_call (IntKind.i64.wrap (p_Labels * q_Labels)) (2 : Int) (fun a0 => i_ProductProblem_2 a0 q_Labels q_Degree q_Nodes q_Edges p_Labels p_Degree p_Nodes p_Edges) 36 [D.cptr [D.int .i64 q_Labels, D.int .i64 q_Degree, D.sl 33 (lst (fun x => D.sl 3 (lst (D.int .i64) x)) q_Nodes), D.sl 33 (lst (fun x => D.sl 3 (lst (D.int .i64) x)) q_Edges)], D.cptr [D.int .i64 p_Labels, D.int .i64 p_Degree, D.sl 33 (lst (fun x => D.sl 3 (lst (D.int .i64) x)) p_Nodes), D.sl 33 (lst (fun x => D.sl 3 (lst (D.int .i64) x)) p_Edges)]] (fun a0 _ hh => i_ProductProblem_2_call a0 q_Labels q_Degree q_Nodes q_Edges p_Labels p_Degree p_Nodes p_Edges hh) le36 hl5
   obtain rfl := Option.some.inj h
   simp (maxDischargeDepth := 9) only [↓xpre, xpost, xlst, xc2, xcore, yset, rg0, ↓reduceIte, Nat.reduceEqDiff, Nat.reduceLT, Nat.reduceLeDiff, Nat.reduceAdd, Nat.reduceMul, Nat.reduceMod, Nat.reduceSub, Nat.reduceBEq, Int.reduceLE, Int.reduceLT, Int.reduceEq, Int.reduceSub, Int.reduceAdd, Int.reduceToNat, Int.reduceNeg, c1, e2, e3, c4, c5] <;> (repeat' apply And.intro) <;> first | rfl | exact ⟨_, rfl⟩ | simp [lst, cat2_nil]
 ·rw [if_neg e2] at h
  have e2f : r1_ = false := Bool.eq_false_iff.mpr e2
  obtain rfl := Option.some.inj h
  simp (maxDischargeDepth := 9) only [↓xpre, xpost, xlst, xc2, xcore, yset, rg0, ↓reduceIte, Nat.reduceEqDiff, Nat.reduceLT, Nat.reduceLeDiff, Nat.reduceAdd, Nat.reduceMul, Nat.reduceMod, Nat.reduceSub, Nat.reduceBEq, Int.reduceLE, Int.reduceLT, Int.reduceEq, Int.reduceSub, Int.reduceAdd, Int.reduceToNat, Int.reduceNeg, c1, e2f] <;> (repeat' apply And.intro) <;> first | rfl | exact ⟨_, rfl⟩ | simp [lst, cat2_nil]

noncomputable def s_reTwo (p_Labels : Int) (p_Degree : Int) (p_Nodes : List (List Int)) (p_Edges : List (List Int)) (q_Labels : Int) (q_Degree : Int) (q_Nodes : List (List Int)) (q_Edges : List (List Int)) : Option (Bool) :=
 ck (Short p_Nodes) <|
 ck (Short p_Edges) <|
 if (isProb p_Labels p_Degree p_Nodes p_Edges) = true then
  ck (Short q_Nodes) <|
  ck (Short q_Edges) <|
  if (isProb q_Labels q_Degree q_Nodes q_Edges) = true then
   some (decide (p_Degree = q_Degree))
  else
   some false
 else
  some false
/-- spec.reTwo -/
def k28 : SC :=
 .seq
 (.ops [
 ⟨(some 2), (.box 26 (.tmp 0)), 0, none⟩,
 ⟨(some 3), (.box 26 (.tmp 1)), 0, none⟩,
 ⟨(some 4), (.assign (.const (.bool false))), 4, none⟩])
 (.seq
 (.ops [
 ⟨(some 5), (.load 26 (.tmp 2)), 26, none⟩,
 ⟨(some 6), (.call ⟨(.value (.func 41)), #[(.tmp 5)], #[26]⟩), 4, none⟩,
 ⟨(some 7), (.move (.tmp 6)), 4, none⟩,
 ⟨(some 8), (.load 26 (.tmp 3)), 26, (some (some 7, true))⟩,
 ⟨(some 9), (.call ⟨(.value (.func 41)), #[(.tmp 8)], #[26]⟩), 4, (some (some 7, true))⟩,
 ⟨(some 10), (.pick (.tmp 7) (.tmp 9) (.const (.bool false))), 4, none⟩,
 ⟨(some 11), (.move (.tmp 10)), 4, none⟩,
 ⟨(some 12), (.fieldAddr 26 (.tmp 2) 1), 0, (some (some 11, true))⟩,
 ⟨(some 13), (.load 3 (.tmp 12)), 3, (some (some 11, true))⟩,
 ⟨(some 14), (.fieldAddr 26 (.tmp 3) 1), 0, (some (some 11, true))⟩,
 ⟨(some 15), (.load 3 (.tmp 14)), 3, (some (some 11, true))⟩,
 ⟨(some 16), (.binOp .eql 3 (.tmp 13) (.tmp 15) 3), 4, (some (some 11, true))⟩,
 ⟨(some 17), (.pick (.tmp 11) (.tmp 16) (.const (.bool false))), 4, none⟩,
 ⟨(some 4), (.assign (.tmp 17)), 4, none⟩])
 .ret)
theorem slim28 : Try.f28.body.map (slim lends) = some k28 := by kernel_rfl
theorem ok28 : fnOk Try.f28 2 = true := by kernel_rfl
theorem c28 {a l : List D} {r : D × List D} (h : wpD Y.env k28 (fin tys l.length [ResultVar.tmp 4] r) (entry a l)) (ha : a.length = 2) : Y.call 28 a l = some r :=
 call_slim (Y := Y) rfl Try.func28 (ha ▸ ok28) slim28 h
theorem s_reTwo_call (p_Labels : Int) (p_Degree : Int) (p_Nodes : List (List Int)) (p_Edges : List (List Int)) (q_Labels : Int) (q_Degree : Int) (q_Nodes : List (List Int)) (q_Edges : List (List Int)) {r : Bool} (h : s_reTwo p_Labels p_Degree p_Nodes p_Edges q_Labels q_Degree q_Nodes q_Edges = some r) : Y.call 28 [D.agg [D.int .i64 p_Labels, D.int .i64 p_Degree, D.sl 33 (lst (fun x => D.sl 3 (lst (D.int .i64) x)) p_Nodes), D.sl 33 (lst (fun x => D.sl 3 (lst (D.int .i64) x)) p_Edges)], D.agg [D.int .i64 q_Labels, D.int .i64 q_Degree, D.sl 33 (lst (fun x => D.sl 3 (lst (D.int .i64) x)) q_Nodes), D.sl 33 (lst (fun x => D.sl 3 (lst (D.int .i64) x)) q_Edges)]] [] = some (D.bool r, []) := by
 refine c28 ?_ rfl
 unfold k28
 unfold s_reTwo at h
 obtain ⟨e1, h⟩ := ckS h
 obtain ⟨e2, h⟩ := ckS h
 have c3 := s_prGood_cl p_Labels p_Degree p_Nodes p_Edges e1 e2
 by_cases e4 : (isProb p_Labels p_Degree p_Nodes p_Edges) = true
 ·rw [if_pos e4] at h
  obtain ⟨e5, h⟩ := ckS h
  obtain ⟨e6, h⟩ := ckS h
  have c7 := s_prGood_cl q_Labels q_Degree q_Nodes q_Edges e5 e6
  by_cases e8 : (isProb q_Labels q_Degree q_Nodes q_Edges) = true
  ·rw [if_pos e8] at h
   obtain rfl := Option.some.inj h
   simp (maxDischargeDepth := 9) only [↓xpre, xpost, xlst, xc2, xcore, yset, rg0, ↓reduceIte, Nat.reduceEqDiff, Nat.reduceLT, Nat.reduceLeDiff, Nat.reduceAdd, Nat.reduceMul, Nat.reduceMod, Nat.reduceSub, Nat.reduceBEq, Int.reduceLE, Int.reduceLT, Int.reduceEq, Int.reduceSub, Int.reduceAdd, Int.reduceToNat, Int.reduceNeg, e1, e2, c3, e4, e5, e6, c7, e8] <;> (repeat' apply And.intro) <;> first | rfl | exact ⟨_, rfl⟩ | simp [lst, cat2_nil]
  ·rw [if_neg e8] at h
   have e8f : (isProb q_Labels q_Degree q_Nodes q_Edges) = false := Bool.eq_false_iff.mpr e8
   obtain rfl := Option.some.inj h
   simp (maxDischargeDepth := 9) only [↓xpre, xpost, xlst, xc2, xcore, yset, rg0, ↓reduceIte, Nat.reduceEqDiff, Nat.reduceLT, Nat.reduceLeDiff, Nat.reduceAdd, Nat.reduceMul, Nat.reduceMod, Nat.reduceSub, Nat.reduceBEq, Int.reduceLE, Int.reduceLT, Int.reduceEq, Int.reduceSub, Int.reduceAdd, Int.reduceToNat, Int.reduceNeg, e1, e2, c3, e4, e5, e6, c7, e8f] <;> (repeat' apply And.intro) <;> first | rfl | exact ⟨_, rfl⟩ | simp [lst, cat2_nil]
 ·rw [if_neg e4] at h
  have e4f : (isProb p_Labels p_Degree p_Nodes p_Edges) = false := Bool.eq_false_iff.mpr e4
  obtain rfl := Option.some.inj h
  simp (maxDischargeDepth := 9) only [↓xpre, xpost, xlst, xc2, xcore, yset, rg0, ↓reduceIte, Nat.reduceEqDiff, Nat.reduceLT, Nat.reduceLeDiff, Nat.reduceAdd, Nat.reduceMul, Nat.reduceMod, Nat.reduceSub, Nat.reduceBEq, Int.reduceLE, Int.reduceLT, Int.reduceEq, Int.reduceSub, Int.reduceAdd, Int.reduceToNat, Int.reduceNeg, e1, e2, c3, e4f] <;> (repeat' apply And.intro) <;> first | rfl | exact ⟨_, rfl⟩ | simp [lst, cat2_nil]

noncomputable def s_reChoices_l0_S (labels : Int) (size : Int) (out : List (List Int)) (k : Int) (t20_ : Int) (next1 : List (List Int)) (a : Int) : Option (((List (List Int)) × Int) ⊕ ((List (List Int)))) :=
 if a < labels then
  (s_l1Own (out.getD t20_.toNat default)).bind fun r7_ =>
  ck (r7_.length + 1 < 1099511627776) <|
  ck (next1.length + 1 < 1099511627776) <|
  some (Sum.inl ((next1 ++ [(r7_ ++ [a])]), IntKind.i64.wrap (a + 1)))
 else
  some (Sum.inr next1)
noncomputable def s_reChoices_l0 (labels : Int) (size : Int) (out : List (List Int)) (k : Int) (t20_ : Int) (v : (List (List Int)) × Int) : Option ((List (List Int))) := itO (fun v => s_reChoices_l0_S labels size out k t20_ v.1 v.2) v
noncomputable def s_reChoices_l0_v1_S (labels : Int) (size : Int) (out : List (List Int)) (k : Int) (t20_ : Int) (next1 : List (List Int)) (a : Int) : Option (((List (List Int)) × Int) ⊕ ((List (List Int)))) :=
 if a < labels then
  (s_l1Own (out.getD t20_.toNat default)).bind fun r6_ =>
  ck (r6_.length + 1 < 1099511627776) <|
  ck (next1.length + 1 < 1099511627776) <|
  some (Sum.inl ((next1 ++ [(r6_ ++ [a])]), IntKind.i64.wrap (a + 1)))
 else
  some (Sum.inr next1)
noncomputable def s_reChoices_l0_v1 (labels : Int) (size : Int) (out : List (List Int)) (k : Int) (t20_ : Int) (v : (List (List Int)) × Int) : Option ((List (List Int))) := itO (fun v => s_reChoices_l0_v1_S labels size out k t20_ v.1 v.2) v
noncomputable def s_reChoices_l1_S (labels : Int) (size : Int) (out : List (List Int)) (k : Int) (next : List (List Int)) (t20_ : Int) : Option (((List (List Int)) × Int) ⊕ ((List (List Int)))) :=
 if t20_ < (out.length : Int) then
  ck (0 ≤ t20_ ∧ t20_.toNat < out.length) <|
  if 0 < k then
   ck (0 ≤ IntKind.i64.wrap (k - 1) ∧ (IntKind.i64.wrap (k - 1)).toNat < (out.getD t20_.toNat default).length) <|
   (s_reChoices_l0 labels size out k t20_ (next, ((out.getD t20_.toNat default).getD ((IntKind.i64.wrap (k - 1)).toNat) default))).bind fun r7_ =>
   some (Sum.inl (r7_, IntKind.i64.wrap (t20_ + 1)))
  else
   (s_reChoices_l0_v1 labels size out k t20_ (next, 0)).bind fun r6_ =>
   some (Sum.inl (r6_, IntKind.i64.wrap (t20_ + 1)))
 else
  some (Sum.inr next)
noncomputable def s_reChoices_l1 (labels : Int) (size : Int) (out : List (List Int)) (k : Int) (v : (List (List Int)) × Int) : Option ((List (List Int))) := itO (fun v => s_reChoices_l1_S labels size out k v.1 v.2) v
noncomputable def s_reChoices_l2_S (labels : Int) (size : Int) (out : List (List Int)) (k : Int) : Option (((List (List Int)) × Int) ⊕ ((List (List Int)))) :=
 if k < size then
  (s_reChoices_l1 labels size out k ([], 0)).bind fun r3_ =>
  some (Sum.inl (r3_, IntKind.i64.wrap (k + 1)))
 else
  some (Sum.inr out)
noncomputable def s_reChoices_l2 (labels : Int) (size : Int) (v : (List (List Int)) × Int) : Option ((List (List Int))) := itO (fun v => s_reChoices_l2_S labels size v.1 v.2) v
noncomputable def s_reChoices (labels : Int) (size : Int) : Option ((List (List Int))) :=
 (s_reChoices_l2 labels size ([[]], 0)).bind fun r2_ =>
 some r2_
/-- spec.reChoices -/
def k58_l0b : SC :=
 .seq
 (.seq
 (.ops [
 ⟨(some 32), (.move (.tmp 11)), 3, none⟩,
 ⟨(some 33), (.move (.tmp 0)), 3, none⟩,
 ⟨(some 34), (.binOp .lss 3 (.tmp 32) (.tmp 33) 3), 4, none⟩])
 (.cond (.tmp 34)
 .skip
 (.exit 4)))
 (.seq
 (.block 5
 (.ops [
 ⟨(some 37), (.move (.tmp 7)), 22, none⟩,
 ⟨(some 38), (.move (.tmp 9)), 33, none⟩,
 ⟨(some 39), (.call ⟨(.value (.func 78)), #[(.tmp 38)], #[33]⟩), 33, none⟩,
 ⟨(some 40), (.move (.tmp 11)), 3, none⟩,
 ⟨(some 41), (.buildSlice 33 1 #[(0, (.tmp 40))]), 33, none⟩,
 ⟨(some 42), (.call ⟨(.builtin .append), #[(.tmp 39), (.tmp 41)], #[33, 33]⟩), 33, none⟩,
 ⟨(some 43), (.buildSlice 22 1 #[(0, (.tmp 42))]), 900004, none⟩,
 ⟨(some 44), (.call ⟨(.builtin .append), #[(.tmp 37), (.tmp 43)], #[22, 22]⟩), 22, none⟩,
 ⟨(some 7), (.assign (.tmp 44)), 22, none⟩]))
 (.ops [
 ⟨(some 35), (.move (.tmp 11)), 3, none⟩,
 ⟨(some 36), (.binOp .add 3 (.tmp 35) (.const (.int .i64 1)) 3), 3, none⟩,
 ⟨(some 11), (.assign (.tmp 36)), 3, none⟩]))
def k58_l0 : SC := .loop k58_l0b
def k58_l1b : SC :=
 .seq
 (.ops [
 ⟨(some 21), (.binOp .lss 3 (.tmp 20) (.tmp 19) 3), 0, none⟩])
 (.seq
 (.cond (.tmp 21)
 .skip
 (.exit 2))
 (.seq
 (.block 3
 (.seq
 (.ops [
 ⟨(some 22), (.indexAddr 22 (.tmp 18) (.tmp 20)), 0, none⟩,
 ⟨(some 23), (.load 33 (.tmp 22)), 33, none⟩,
 ⟨(some 9), (.assign (.tmp 23)), 33, none⟩])
 (.seq
 (.ops [
 ⟨(some 10), (.assign (.const (.int .i64 0))), 3, none⟩])
 (.seq
 (.seq
 (.ops [
 ⟨(some 24), (.move (.tmp 6)), 3, none⟩,
 ⟨(some 25), (.binOp .gtr 3 (.tmp 24) (.const (.int .i64 0)) 3), 4, none⟩])
 (.cond (.tmp 25)
 (.ops [
 ⟨(some 26), (.move (.tmp 9)), 33, none⟩,
 ⟨(some 27), (.move (.tmp 6)), 3, none⟩,
 ⟨(some 28), (.binOp .sub 3 (.tmp 27) (.const (.int .i64 1)) 3), 3, none⟩,
 ⟨(some 29), (.indexAddr 33 (.tmp 26) (.tmp 28)), 0, none⟩,
 ⟨(some 30), (.load 3 (.tmp 29)), 3, none⟩,
 ⟨(some 10), (.assign (.tmp 30)), 3, none⟩])
 .skip))
 (.seq
 (.ops [
 ⟨(some 31), (.move (.tmp 10)), 3, none⟩,
 ⟨(some 11), (.assign (.tmp 31)), 3, none⟩])
 (.block 4
 k58_l0))))))
 (.ops [
 ⟨(some 45), (.binOp .add 3 (.tmp 20) (.const (.int .i64 1)) 3), 3, none⟩,
 ⟨(some 20), (.move (.tmp 45)), 3, none⟩])))
def k58_l1 : SC := .loop k58_l1b
def k58_l2b : SC :=
 .seq
 (.seq
 (.ops [
 ⟨(some 13), (.move (.tmp 6)), 3, none⟩,
 ⟨(some 14), (.move (.tmp 1)), 3, none⟩,
 ⟨(some 15), (.binOp .lss 3 (.tmp 13) (.tmp 14) 3), 4, none⟩])
 (.cond (.tmp 15)
 .skip
 (.exit 0)))
 (.seq
 (.block 1
 (.seq
 (.ops [
 ⟨(some 7), (.assign (.const (.slice none 0 0))), 22, none⟩])
 (.seq
 (.seq
 (.ops [
 ⟨(some 18), (.move (.tmp 5)), 22, none⟩,
 ⟨(some 19), (.call ⟨(.builtin .len), #[(.tmp 18)], #[22]⟩), 3, none⟩,
 ⟨(some 20), (.move (.const (.int .i64 0))), 3, none⟩])
 (.block 2
 k58_l1))
 (.ops [
 ⟨(some 46), (.move (.tmp 7)), 22, none⟩,
 ⟨(some 5), (.assign (.tmp 46)), 22, none⟩]))))
 (.ops [
 ⟨(some 16), (.move (.tmp 6)), 3, none⟩,
 ⟨(some 17), (.binOp .add 3 (.tmp 16) (.const (.int .i64 1)) 3), 3, none⟩,
 ⟨(some 6), (.assign (.tmp 17)), 3, none⟩]))
def k58_l2 : SC := .loop k58_l2b
def k58 : SC :=
 .seq
 (.ops [
 ⟨(some 4), (.assign (.const (.slice none 0 0))), 22, none⟩])
 (.seq
 (.ops [
 ⟨(some 12), (.buildSlice 22 1 #[(0, (.const (.slice none 0 0)))]), 900004, none⟩,
 ⟨(some 5), (.assign (.tmp 12)), 22, none⟩])
 (.seq
 (.seq
 (.ops [
 ⟨(some 6), (.assign (.const (.int .i64 0))), 3, none⟩])
 (.block 0
 k58_l2))
 (.seq
 (.ops [
 ⟨(some 47), (.move (.tmp 5)), 22, none⟩,
 ⟨(some 4), (.assign (.tmp 47)), 22, none⟩])
 .ret)))
theorem slim58 : Try.f58.body.map (slim lends) = some k58 := by kernel_rfl
theorem ok58 : fnOk Try.f58 2 = true := by kernel_rfl
theorem c58 {a l : List D} {r : D × List D} (h : wpD Y.env k58 (fin tys l.length [ResultVar.tmp 4] r) (entry a l)) (ha : a.length = 2) : Y.call 58 a l = some r :=
 call_slim (Y := Y) rfl Try.func58 (ha ▸ ok58) slim58 h
def s_reChoices_l0_M (labels : Int) (size : Int) (out : List (List Int)) (k : Int) (t20_ : Int) (next1 : List (List Int)) (a : Int) (s : St) : Prop := s.v 0 = D.int .i64 labels ∧ s.v 1 = D.int .i64 size ∧ s.v 5 = D.own 33 (lst (fun x => D.sl 3 (lst (D.int .i64) x)) out) ∧ s.v 6 = D.int .i64 k ∧ s.v 7 = D.own 33 (lst (fun x => D.sl 3 (lst (D.int .i64) x)) next1) ∧ s.v 9 = D.sl 3 (lst (D.int .i64) (out.getD t20_.toNat default)) ∧ s.v 11 = D.int .i64 a ∧ (∃ w_, s.v 18 = D.vw [5] (s.k 5) w_) ∧ s.v 19 = D.int .i64 (out.length : Int) ∧ s.v 20 = D.int .i64 t20_
def s_reChoices_l0_X (labels : Int) (size : Int) (out : List (List Int)) (k : Int) (t20_ : Int) (r : (List (List Int))) (ex : Ex) (s : St) : Prop := ex = .exit 4 ∧ s.v 0 = D.int .i64 labels ∧ s.v 1 = D.int .i64 size ∧ s.v 5 = D.own 33 (lst (fun x => D.sl 3 (lst (D.int .i64) x)) out) ∧ s.v 6 = D.int .i64 k ∧ s.v 7 = D.own 33 (lst (fun x => D.sl 3 (lst (D.int .i64) x)) r) ∧ (∃ w_, s.v 18 = D.vw [5] (s.k 5) w_) ∧ s.v 19 = D.int .i64 (out.length : Int) ∧ s.v 20 = D.int .i64 t20_
theorem s_reChoices_l0_wp (labels : Int) (size : Int) (out : List (List Int)) (k : Int) (t20_ : Int) {v : (List (List Int)) × Int} {s : St} {r : (List (List Int))} (h : s_reChoices_l0 labels size out k t20_ v = some r) (hM : s_reChoices_l0_M labels size out k t20_ v.1 v.2 s) : wpD Y.env k58_l0 (s_reChoices_l0_X labels size out k t20_ r) s := by
 unfold s_reChoices_l0 at h
 refine wd_itO (c := k58_l0b) (fun v => s_reChoices_l0_S labels size out k t20_ v.1 v.2) (fun v s => s_reChoices_l0_M labels size out k t20_ v.1 v.2 s) (s_reChoices_l0_X labels size out k t20_) ?_ h hM
 clear h hM s v r
 intro v s o hM h
 obtain ⟨next1, a⟩ := v
 dsimp only at h hM
 unfold s_reChoices_l0_S at h
 unfold s_reChoices_l0_M at hM
 obtain ⟨m0, m1, m2, m3, m4, m5, m6, ⟨w7_, m7⟩, m8, m9⟩ := hM
 unfold k58_l0b
 by_cases e6 : a < labels
 ·rw [if_pos e6] at h
  obtain ⟨r7_, hl7, h⟩ := bindS h
  try dsimp only at h
  have c7 := s_l1Own_call (out.getD t20_.toNat default) hl7
  obtain ⟨e8, h⟩ := ckS h
  obtain ⟨e9, h⟩ := ckS h
  obtain rfl := Option.some.inj h
  simp (maxDischargeDepth := 9) only [↓xpre, xpost, xlst, xc2, xcore, yset, rg0, ↓reduceIte, Nat.reduceEqDiff, Nat.reduceLT, Nat.reduceLeDiff, Nat.reduceAdd, Nat.reduceMul, Nat.reduceMod, Nat.reduceSub, Nat.reduceBEq, Int.reduceLE, Int.reduceLT, Int.reduceEq, Int.reduceSub, Int.reduceAdd, Int.reduceToNat, Int.reduceNeg, m0, m1, m2, m3, m4, m5, m6, m7, m8, m9, e6, c7, e8, e9, s_reChoices_l0_M, s_reChoices_l0_X, sxN, sxE, sxR] <;> (repeat' apply And.intro) <;> first | rfl | exact ⟨_, rfl⟩ | simp [lst, cat2_nil]
 ·rw [if_neg e6] at h
  obtain rfl := Option.some.inj h
  simp (maxDischargeDepth := 9) only [↓xpre, xpost, xlst, xc2, xcore, yset, rg0, ↓reduceIte, Nat.reduceEqDiff, Nat.reduceLT, Nat.reduceLeDiff, Nat.reduceAdd, Nat.reduceMul, Nat.reduceMod, Nat.reduceSub, Nat.reduceBEq, Int.reduceLE, Int.reduceLT, Int.reduceEq, Int.reduceSub, Int.reduceAdd, Int.reduceToNat, Int.reduceNeg, m0, m1, m2, m3, m4, m5, m6, m7, m8, m9, e6, s_reChoices_l0_M, s_reChoices_l0_X, sxN, sxE, sxR] <;> (repeat' apply And.intro) <;> first | rfl | exact ⟨_, rfl⟩ | simp [lst, cat2_nil]
def s_reChoices_l0_v1_M (labels : Int) (size : Int) (out : List (List Int)) (k : Int) (t20_ : Int) (next1 : List (List Int)) (a : Int) (s : St) : Prop := s.v 0 = D.int .i64 labels ∧ s.v 1 = D.int .i64 size ∧ s.v 5 = D.own 33 (lst (fun x => D.sl 3 (lst (D.int .i64) x)) out) ∧ s.v 6 = D.int .i64 k ∧ s.v 7 = D.own 33 (lst (fun x => D.sl 3 (lst (D.int .i64) x)) next1) ∧ s.v 9 = D.sl 3 (lst (D.int .i64) (out.getD t20_.toNat default)) ∧ s.v 11 = D.int .i64 a ∧ (∃ w_, s.v 18 = D.vw [5] (s.k 5) w_) ∧ s.v 19 = D.int .i64 (out.length : Int) ∧ s.v 20 = D.int .i64 t20_
def s_reChoices_l0_v1_X (labels : Int) (size : Int) (out : List (List Int)) (k : Int) (t20_ : Int) (r : (List (List Int))) (ex : Ex) (s : St) : Prop := ex = .exit 4 ∧ s.v 0 = D.int .i64 labels ∧ s.v 1 = D.int .i64 size ∧ s.v 5 = D.own 33 (lst (fun x => D.sl 3 (lst (D.int .i64) x)) out) ∧ s.v 6 = D.int .i64 k ∧ s.v 7 = D.own 33 (lst (fun x => D.sl 3 (lst (D.int .i64) x)) r) ∧ (∃ w_, s.v 18 = D.vw [5] (s.k 5) w_) ∧ s.v 19 = D.int .i64 (out.length : Int) ∧ s.v 20 = D.int .i64 t20_
theorem s_reChoices_l0_v1_wp (labels : Int) (size : Int) (out : List (List Int)) (k : Int) (t20_ : Int) {v : (List (List Int)) × Int} {s : St} {r : (List (List Int))} (h : s_reChoices_l0_v1 labels size out k t20_ v = some r) (hM : s_reChoices_l0_v1_M labels size out k t20_ v.1 v.2 s) : wpD Y.env k58_l0 (s_reChoices_l0_v1_X labels size out k t20_ r) s := by
 unfold s_reChoices_l0_v1 at h
 refine wd_itO (c := k58_l0b) (fun v => s_reChoices_l0_v1_S labels size out k t20_ v.1 v.2) (fun v s => s_reChoices_l0_v1_M labels size out k t20_ v.1 v.2 s) (s_reChoices_l0_v1_X labels size out k t20_) ?_ h hM
 clear h hM s v r
 intro v s o hM h
 obtain ⟨next1, a⟩ := v
 dsimp only at h hM
 unfold s_reChoices_l0_v1_S at h
 unfold s_reChoices_l0_v1_M at hM
 obtain ⟨m0, m1, m2, m3, m4, m5, m6, ⟨w7_, m7⟩, m8, m9⟩ := hM
 unfold k58_l0b
 by_cases e5 : a < labels
 ·rw [if_pos e5] at h
  obtain ⟨r6_, hl6, h⟩ := bindS h
  try dsimp only at h
  have c6 := s_l1Own_call (out.getD t20_.toNat default) hl6
  obtain ⟨e7, h⟩ := ckS h
  obtain ⟨e8, h⟩ := ckS h
  obtain rfl := Option.some.inj h
  simp (maxDischargeDepth := 9) only [↓xpre, xpost, xlst, xc2, xcore, yset, rg0, ↓reduceIte, Nat.reduceEqDiff, Nat.reduceLT, Nat.reduceLeDiff, Nat.reduceAdd, Nat.reduceMul, Nat.reduceMod, Nat.reduceSub, Nat.reduceBEq, Int.reduceLE, Int.reduceLT, Int.reduceEq, Int.reduceSub, Int.reduceAdd, Int.reduceToNat, Int.reduceNeg, m0, m1, m2, m3, m4, m5, m6, m7, m8, m9, e5, c6, e7, e8, s_reChoices_l0_v1_M, s_reChoices_l0_v1_X, sxN, sxE, sxR] <;> (repeat' apply And.intro) <;> first | rfl | exact ⟨_, rfl⟩ | simp [lst, cat2_nil]
 ·rw [if_neg e5] at h
  obtain rfl := Option.some.inj h
  simp (maxDischargeDepth := 9) only [↓xpre, xpost, xlst, xc2, xcore, yset, rg0, ↓reduceIte, Nat.reduceEqDiff, Nat.reduceLT, Nat.reduceLeDiff, Nat.reduceAdd, Nat.reduceMul, Nat.reduceMod, Nat.reduceSub, Nat.reduceBEq, Int.reduceLE, Int.reduceLT, Int.reduceEq, Int.reduceSub, Int.reduceAdd, Int.reduceToNat, Int.reduceNeg, m0, m1, m2, m3, m4, m5, m6, m7, m8, m9, e5, s_reChoices_l0_v1_M, s_reChoices_l0_v1_X, sxN, sxE, sxR] <;> (repeat' apply And.intro) <;> first | rfl | exact ⟨_, rfl⟩ | simp [lst, cat2_nil]
def s_reChoices_l1_M (labels : Int) (size : Int) (out : List (List Int)) (k : Int) (next : List (List Int)) (t20_ : Int) (s : St) : Prop := s.v 0 = D.int .i64 labels ∧ s.v 1 = D.int .i64 size ∧ s.v 5 = D.own 33 (lst (fun x => D.sl 3 (lst (D.int .i64) x)) out) ∧ s.v 6 = D.int .i64 k ∧ s.v 7 = D.own 33 (lst (fun x => D.sl 3 (lst (D.int .i64) x)) next) ∧ (∃ w_, s.v 18 = D.vw [5] (s.k 5) w_) ∧ s.v 19 = D.int .i64 (out.length : Int) ∧ s.v 20 = D.int .i64 t20_
def s_reChoices_l1_X (labels : Int) (size : Int) (out : List (List Int)) (k : Int) (r : (List (List Int))) (ex : Ex) (s : St) : Prop := ex = .exit 2 ∧ s.v 0 = D.int .i64 labels ∧ s.v 1 = D.int .i64 size ∧ s.v 6 = D.int .i64 k ∧ s.v 7 = D.own 33 (lst (fun x => D.sl 3 (lst (D.int .i64) x)) r)
theorem s_reChoices_l1_wp (labels : Int) (size : Int) (out : List (List Int)) (k : Int) {v : (List (List Int)) × Int} {s : St} {r : (List (List Int))} (h : s_reChoices_l1 labels size out k v = some r) (hM : s_reChoices_l1_M labels size out k v.1 v.2 s) : wpD Y.env k58_l1 (s_reChoices_l1_X labels size out k r) s := by
 unfold s_reChoices_l1 at h
 refine wd_itO (c := k58_l1b) (fun v => s_reChoices_l1_S labels size out k v.1 v.2) (fun v s => s_reChoices_l1_M labels size out k v.1 v.2 s) (s_reChoices_l1_X labels size out k) ?_ h hM
 clear h hM s v r
 intro v s o hM h
 obtain ⟨next, t20_⟩ := v
 dsimp only at h hM
 unfold s_reChoices_l1_S at h
 unfold s_reChoices_l1_M at hM
 obtain ⟨m0, m1, m2, m3, m4, ⟨w5_, m5⟩, m6, m7⟩ := hM
 unfold k58_l1b
 by_cases e2 : t20_ < (out.length : Int)
 ·rw [if_pos e2] at h
  obtain ⟨e3, h⟩ := ckS h
  by_cases e4 : 0 < k
  ·rw [if_pos e4] at h
   obtain ⟨e5, h⟩ := ckS h
   obtain ⟨r7_, hl7, h⟩ := bindS h
   try dsimp only at h
   simp (maxDischargeDepth := 9) only [↓xpre, xpost, xlst, xc2, xcore, yset, rg0, ↓reduceIte, Nat.reduceEqDiff, Nat.reduceLT, Nat.reduceLeDiff, Nat.reduceAdd, Nat.reduceMul, Nat.reduceMod, Nat.reduceSub, Nat.reduceBEq, Int.reduceLE, Int.reduceLT, Int.reduceEq, Int.reduceSub, Int.reduceAdd, Int.reduceToNat, Int.reduceNeg, m0, m1, m2, m3, m4, m5, m6, m7, e2, e3.1, e3.2, e4, e5.1, e5.2]
   refine wd_mono (s_reChoices_l0_wp labels size out k t20_ hl7 ?_) ?_
   ·simp (maxDischargeDepth := 9) only [↓xpre, xpost, xlst, xc2, xcore, yset, rg0, ↓reduceIte, Nat.reduceEqDiff, Nat.reduceLT, Nat.reduceLeDiff, Nat.reduceAdd, Nat.reduceMul, Nat.reduceMod, Nat.reduceSub, Nat.reduceBEq, Int.reduceLE, Int.reduceLT, Int.reduceEq, Int.reduceSub, Int.reduceAdd, Int.reduceToNat, Int.reduceNeg, m0, m1, m2, m3, m4, m5, m6, m7, e2, e3.1, e3.2, e4, e5.1, e5.2, s_reChoices_l0_M] <;> (repeat' apply And.intro) <;> first | rfl | exact ⟨_, rfl⟩ | simp [lst, cat2_nil]
   ·intro ex7 s7 hX7
    unfold s_reChoices_l0_X at hX7
    obtain ⟨rfl, n7_0, n7_1, n7_2, n7_3, n7_4, ⟨w5_, n7_5⟩, n7_6, n7_7⟩ := hX7
    obtain rfl := Option.some.inj h
    simp (maxDischargeDepth := 9) only [↓xpre, xpost, xlst, xc2, xcore, yset, rg0, ↓reduceIte, Nat.reduceEqDiff, Nat.reduceLT, Nat.reduceLeDiff, Nat.reduceAdd, Nat.reduceMul, Nat.reduceMod, Nat.reduceSub, Nat.reduceBEq, Int.reduceLE, Int.reduceLT, Int.reduceEq, Int.reduceSub, Int.reduceAdd, Int.reduceToNat, Int.reduceNeg, e2, e3.1, e3.2, e4, e5.1, e5.2, n7_0, n7_1, n7_2, n7_3, n7_4, n7_5, n7_6, n7_7, s_reChoices_l1_M, s_reChoices_l1_X, sxN, sxE, sxR] <;> (repeat' apply And.intro) <;> first | rfl | exact ⟨_, rfl⟩ | simp [lst, cat2_nil]
  ·rw [if_neg e4] at h
   obtain ⟨r6_, hl6, h⟩ := bindS h
   try dsimp only at h
   simp (maxDischargeDepth := 9) only [↓xpre, xpost, xlst, xc2, xcore, yset, rg0, ↓reduceIte, Nat.reduceEqDiff, Nat.reduceLT, Nat.reduceLeDiff, Nat.reduceAdd, Nat.reduceMul, Nat.reduceMod, Nat.reduceSub, Nat.reduceBEq, Int.reduceLE, Int.reduceLT, Int.reduceEq, Int.reduceSub, Int.reduceAdd, Int.reduceToNat, Int.reduceNeg, m0, m1, m2, m3, m4, m5, m6, m7, e2, e3.1, e3.2, e4]
   refine wd_mono (s_reChoices_l0_v1_wp labels size out k t20_ hl6 ?_) ?_
   ·simp (maxDischargeDepth := 9) only [↓xpre, xpost, xlst, xc2, xcore, yset, rg0, ↓reduceIte, Nat.reduceEqDiff, Nat.reduceLT, Nat.reduceLeDiff, Nat.reduceAdd, Nat.reduceMul, Nat.reduceMod, Nat.reduceSub, Nat.reduceBEq, Int.reduceLE, Int.reduceLT, Int.reduceEq, Int.reduceSub, Int.reduceAdd, Int.reduceToNat, Int.reduceNeg, m0, m1, m2, m3, m4, m5, m6, m7, e2, e3.1, e3.2, e4, s_reChoices_l0_v1_M] <;> (repeat' apply And.intro) <;> first | rfl | exact ⟨_, rfl⟩ | simp [lst, cat2_nil]
   ·intro ex6 s6 hX6
    unfold s_reChoices_l0_v1_X at hX6
    obtain ⟨rfl, n6_0, n6_1, n6_2, n6_3, n6_4, ⟨w5_, n6_5⟩, n6_6, n6_7⟩ := hX6
    obtain rfl := Option.some.inj h
    simp (maxDischargeDepth := 9) only [↓xpre, xpost, xlst, xc2, xcore, yset, rg0, ↓reduceIte, Nat.reduceEqDiff, Nat.reduceLT, Nat.reduceLeDiff, Nat.reduceAdd, Nat.reduceMul, Nat.reduceMod, Nat.reduceSub, Nat.reduceBEq, Int.reduceLE, Int.reduceLT, Int.reduceEq, Int.reduceSub, Int.reduceAdd, Int.reduceToNat, Int.reduceNeg, e2, e3.1, e3.2, e4, n6_0, n6_1, n6_2, n6_3, n6_4, n6_5, n6_6, n6_7, s_reChoices_l1_M, s_reChoices_l1_X, sxN, sxE, sxR] <;> (repeat' apply And.intro) <;> first | rfl | exact ⟨_, rfl⟩ | simp [lst, cat2_nil]
 ·rw [if_neg e2] at h
  obtain rfl := Option.some.inj h
  simp (maxDischargeDepth := 9) only [↓xpre, xpost, xlst, xc2, xcore, yset, rg0, ↓reduceIte, Nat.reduceEqDiff, Nat.reduceLT, Nat.reduceLeDiff, Nat.reduceAdd, Nat.reduceMul, Nat.reduceMod, Nat.reduceSub, Nat.reduceBEq, Int.reduceLE, Int.reduceLT, Int.reduceEq, Int.reduceSub, Int.reduceAdd, Int.reduceToNat, Int.reduceNeg, m0, m1, m2, m3, m4, m5, m6, m7, e2, s_reChoices_l1_M, s_reChoices_l1_X, sxN, sxE, sxR] <;> (repeat' apply And.intro) <;> first | rfl | exact ⟨_, rfl⟩ | simp [lst, cat2_nil]
def s_reChoices_l2_M (labels : Int) (size : Int) (out : List (List Int)) (k : Int) (s : St) : Prop := s.v 0 = D.int .i64 labels ∧ s.v 1 = D.int .i64 size ∧ s.v 5 = D.own 33 (lst (fun x => D.sl 3 (lst (D.int .i64) x)) out) ∧ s.v 6 = D.int .i64 k
def s_reChoices_l2_X (labels : Int) (size : Int) (r : (List (List Int))) (ex : Ex) (s : St) : Prop := ex = .exit 0 ∧ s.v 5 = D.own 33 (lst (fun x => D.sl 3 (lst (D.int .i64) x)) r)
theorem s_reChoices_l2_wp (labels : Int) (size : Int) {v : (List (List Int)) × Int} {s : St} {r : (List (List Int))} (h : s_reChoices_l2 labels size v = some r) (hM : s_reChoices_l2_M labels size v.1 v.2 s) : wpD Y.env k58_l2 (s_reChoices_l2_X labels size r) s := by
 unfold s_reChoices_l2 at h
 refine wd_itO (c := k58_l2b) (fun v => s_reChoices_l2_S labels size v.1 v.2) (fun v s => s_reChoices_l2_M labels size v.1 v.2 s) (s_reChoices_l2_X labels size) ?_ h hM
 clear h hM s v r
 intro v s o hM h
 obtain ⟨out, k⟩ := v
 dsimp only at h hM
 unfold s_reChoices_l2_S at h
 unfold s_reChoices_l2_M at hM
 obtain ⟨m0, m1, m2, m3⟩ := hM
 unfold k58_l2b
 by_cases e1 : k < size
 ·rw [if_pos e1] at h
  obtain ⟨r3_, hl3, h⟩ := bindS h
  try dsimp only at h
  simp (maxDischargeDepth := 9) only [↓xpre, xpost, xlst, xc2, xcore, yset, rg0, ↓reduceIte, Nat.reduceEqDiff, Nat.reduceLT, Nat.reduceLeDiff, Nat.reduceAdd, Nat.reduceMul, Nat.reduceMod, Nat.reduceSub, Nat.reduceBEq, Int.reduceLE, Int.reduceLT, Int.reduceEq, Int.reduceSub, Int.reduceAdd, Int.reduceToNat, Int.reduceNeg, m0, m1, m2, m3, e1]
  refine wd_mono (s_reChoices_l1_wp labels size out k hl3 ?_) ?_
  ·simp (maxDischargeDepth := 9) only [↓xpre, xpost, xlst, xc2, xcore, yset, rg0, ↓reduceIte, Nat.reduceEqDiff, Nat.reduceLT, Nat.reduceLeDiff, Nat.reduceAdd, Nat.reduceMul, Nat.reduceMod, Nat.reduceSub, Nat.reduceBEq, Int.reduceLE, Int.reduceLT, Int.reduceEq, Int.reduceSub, Int.reduceAdd, Int.reduceToNat, Int.reduceNeg, m0, m1, m2, m3, e1, s_reChoices_l1_M] <;> (repeat' apply And.intro) <;> first | rfl | exact ⟨_, rfl⟩ | simp [lst, cat2_nil]
  ·intro ex3 s3 hX3
   unfold s_reChoices_l1_X at hX3
   obtain ⟨rfl, n3_0, n3_1, n3_2, n3_3⟩ := hX3
   obtain rfl := Option.some.inj h
   simp (maxDischargeDepth := 9) only [↓xpre, xpost, xlst, xc2, xcore, yset, rg0, ↓reduceIte, Nat.reduceEqDiff, Nat.reduceLT, Nat.reduceLeDiff, Nat.reduceAdd, Nat.reduceMul, Nat.reduceMod, Nat.reduceSub, Nat.reduceBEq, Int.reduceLE, Int.reduceLT, Int.reduceEq, Int.reduceSub, Int.reduceAdd, Int.reduceToNat, Int.reduceNeg, e1, n3_0, n3_1, n3_2, n3_3, s_reChoices_l2_M, s_reChoices_l2_X, sxN, sxE, sxR] <;> (repeat' apply And.intro) <;> first | rfl | exact ⟨_, rfl⟩ | simp [lst, cat2_nil]
 ·rw [if_neg e1] at h
  obtain rfl := Option.some.inj h
  simp (maxDischargeDepth := 9) only [↓xpre, xpost, xlst, xc2, xcore, yset, rg0, ↓reduceIte, Nat.reduceEqDiff, Nat.reduceLT, Nat.reduceLeDiff, Nat.reduceAdd, Nat.reduceMul, Nat.reduceMod, Nat.reduceSub, Nat.reduceBEq, Int.reduceLE, Int.reduceLT, Int.reduceEq, Int.reduceSub, Int.reduceAdd, Int.reduceToNat, Int.reduceNeg, m0, m1, m2, m3, e1, s_reChoices_l2_M, s_reChoices_l2_X, sxN, sxE, sxR] <;> (repeat' apply And.intro) <;> first | rfl | exact ⟨_, rfl⟩ | simp [lst, cat2_nil]
theorem s_reChoices_call (labels : Int) (size : Int) {r : (List (List Int))} (h : s_reChoices labels size = some r) : Y.call 58 [D.int .i64 labels, D.int .i64 size] [] = some (D.own 33 (lst (fun x => D.sl 3 (lst (D.int .i64) x)) r), []) := by
 refine c58 ?_ rfl
 unfold k58
 unfold s_reChoices at h
 obtain ⟨r2_, hl2, h⟩ := bindS h
 try dsimp only at h
 simp (maxDischargeDepth := 9) only [↓xpre, xpost, xlst, xc2, xcore, yset, rg0, ↓reduceIte, Nat.reduceEqDiff, Nat.reduceLT, Nat.reduceLeDiff, Nat.reduceAdd, Nat.reduceMul, Nat.reduceMod, Nat.reduceSub, Nat.reduceBEq, Int.reduceLE, Int.reduceLT, Int.reduceEq, Int.reduceSub, Int.reduceAdd, Int.reduceToNat, Int.reduceNeg]
 refine wd_mono (s_reChoices_l2_wp labels size hl2 ?_) ?_
 ·simp (maxDischargeDepth := 9) only [↓xpre, xpost, xlst, xc2, xcore, yset, rg0, ↓reduceIte, Nat.reduceEqDiff, Nat.reduceLT, Nat.reduceLeDiff, Nat.reduceAdd, Nat.reduceMul, Nat.reduceMod, Nat.reduceSub, Nat.reduceBEq, Int.reduceLE, Int.reduceLT, Int.reduceEq, Int.reduceSub, Int.reduceAdd, Int.reduceToNat, Int.reduceNeg, s_reChoices_l2_M] <;> (repeat' apply And.intro) <;> first | rfl | exact ⟨_, rfl⟩ | simp [lst, cat2_nil]
 ·intro ex2 s2 hX2
  unfold s_reChoices_l2_X at hX2
  obtain ⟨rfl, n2_0⟩ := hX2
  obtain rfl := Option.some.inj h
  simp (maxDischargeDepth := 9) only [↓xpre, xpost, xlst, xc2, xcore, yset, rg0, ↓reduceIte, Nat.reduceEqDiff, Nat.reduceLT, Nat.reduceLeDiff, Nat.reduceAdd, Nat.reduceMul, Nat.reduceMod, Nat.reduceSub, Nat.reduceBEq, Int.reduceLE, Int.reduceLT, Int.reduceEq, Int.reduceSub, Int.reduceAdd, Int.reduceToNat, Int.reduceNeg, n2_0] <;> (repeat' apply And.intro) <;> first | rfl | exact ⟨_, rfl⟩ | simp [lst, cat2_nil]

noncomputable def s_reHalves_l0_S (x_ : List Int) (k : Int) (a : List Int) (b : List Int) (t12_ : Int) : Option (((List Int) × (List Int) × Int) ⊕ ((List Int) × (List Int))) :=
 if t12_ < (x_.length : Int) then
  ck (0 ≤ t12_ ∧ t12_.toNat < x_.length) <|
  ck (¬ k = 0) <|
  ck (a.length + 1 < 1099511627776) <|
  ck (b.length + 1 < 1099511627776) <|
  some (Sum.inl ((a ++ [IntKind.i64.wrap ((x_.getD t12_.toNat default).tdiv k)]), (b ++ [((x_.getD t12_.toNat default).tmod k)]), IntKind.i64.wrap (t12_ + 1)))
 else
  some (Sum.inr (a, b))
noncomputable def s_reHalves_l0 (x_ : List Int) (k : Int) (v : (List Int) × (List Int) × Int) : Option ((List Int) × (List Int)) := itO (fun v => s_reHalves_l0_S x_ k v.1 v.2.1 v.2.2) v
noncomputable def s_reHalves (x_ : List Int) (k : Int) : Option ((List Int) × (List Int)) :=
 (s_reHalves_l0 x_ k ([], [], 0)).bind fun r2_ =>
 some (r2_.1, r2_.2)
/-- spec.reHalves -/
def k59_l0b : SC :=
 .seq
 (.ops [
 ⟨(some 13), (.binOp .lss 3 (.tmp 12) (.tmp 11) 3), 0, none⟩])
 (.seq
 (.cond (.tmp 13)
 .skip
 (.exit 0))
 (.seq
 (.block 1
 (.seq
 (.ops [
 ⟨(some 14), (.indexAddr 33 (.tmp 10) (.tmp 12)), 0, none⟩,
 ⟨(some 15), (.load 3 (.tmp 14)), 3, none⟩,
 ⟨(some 9), (.assign (.tmp 15)), 3, none⟩])
 (.seq
 (.ops [
 ⟨(some 16), (.move (.tmp 6)), 33, none⟩,
 ⟨(some 17), (.move (.tmp 9)), 3, none⟩,
 ⟨(some 18), (.move (.tmp 1)), 3, none⟩,
 ⟨(some 19), (.binOp .quo 3 (.tmp 17) (.tmp 18) 3), 3, none⟩,
 ⟨(some 20), (.buildSlice 33 1 #[(0, (.tmp 19))]), 33, none⟩,
 ⟨(some 21), (.call ⟨(.builtin .append), #[(.tmp 16), (.tmp 20)], #[33, 33]⟩), 33, none⟩,
 ⟨(some 6), (.assign (.tmp 21)), 33, none⟩])
 (.ops [
 ⟨(some 22), (.move (.tmp 7)), 33, none⟩,
 ⟨(some 23), (.move (.tmp 9)), 3, none⟩,
 ⟨(some 24), (.move (.tmp 1)), 3, none⟩,
 ⟨(some 25), (.binOp .rem 3 (.tmp 23) (.tmp 24) 3), 3, none⟩,
 ⟨(some 26), (.buildSlice 33 1 #[(0, (.tmp 25))]), 33, none⟩,
 ⟨(some 27), (.call ⟨(.builtin .append), #[(.tmp 22), (.tmp 26)], #[33, 33]⟩), 33, none⟩,
 ⟨(some 7), (.assign (.tmp 27)), 33, none⟩]))))
 (.ops [
 ⟨(some 28), (.binOp .add 3 (.tmp 12) (.const (.int .i64 1)) 3), 3, none⟩,
 ⟨(some 12), (.move (.tmp 28)), 3, none⟩])))
def k59_l0 : SC := .loop k59_l0b
def k59 : SC :=
 .seq
 (.ops [
 ⟨(some 4), (.assign (.const (.slice none 0 0))), 33, none⟩,
 ⟨(some 5), (.assign (.const (.slice none 0 0))), 33, none⟩])
 (.seq
 (.ops [
 ⟨(some 6), (.assign (.const (.slice none 0 0))), 33, none⟩,
 ⟨(some 7), (.assign (.const (.slice none 0 0))), 33, none⟩])
 (.seq
 (.seq
 (.ops [
 ⟨(some 10), (.move (.tmp 0)), 33, none⟩,
 ⟨(some 11), (.call ⟨(.builtin .len), #[(.tmp 10)], #[33]⟩), 3, none⟩,
 ⟨(some 12), (.move (.const (.int .i64 0))), 3, none⟩])
 (.block 0
 k59_l0))
 (.seq
 (.ops [
 ⟨(some 29), (.move (.tmp 6)), 33, none⟩,
 ⟨(some 30), (.move (.tmp 7)), 33, none⟩,
 ⟨(some 4), (.assign (.tmp 29)), 33, none⟩,
 ⟨(some 5), (.assign (.tmp 30)), 33, none⟩])
 .ret)))
theorem slim59 : Try.f59.body.map (slim lends) = some k59 := by kernel_rfl
theorem ok59 : fnOk Try.f59 2 = true := by kernel_rfl
theorem c59 {a l : List D} {r : D × List D} (h : wpD Y.env k59 (fin tys l.length [ResultVar.tmp 4, ResultVar.tmp 5] r) (entry a l)) (ha : a.length = 2) : Y.call 59 a l = some r :=
 call_slim (Y := Y) rfl Try.func59 (ha ▸ ok59) slim59 h
def s_reHalves_l0_M (x_ : List Int) (k : Int) (a : List Int) (b : List Int) (t12_ : Int) (s : St) : Prop := s.v 1 = D.int .i64 k ∧ s.v 6 = D.own 3 (lst (D.int .i64) a) ∧ s.v 7 = D.own 3 (lst (D.int .i64) b) ∧ s.v 10 = D.sl 3 (lst (D.int .i64) x_) ∧ s.v 11 = D.int .i64 (x_.length : Int) ∧ s.v 12 = D.int .i64 t12_
def s_reHalves_l0_X (x_ : List Int) (k : Int) (r : (List Int) × (List Int)) (ex : Ex) (s : St) : Prop := ex = .exit 0 ∧ s.v 6 = D.own 3 (lst (D.int .i64) r.1) ∧ s.v 7 = D.own 3 (lst (D.int .i64) r.2)
theorem s_reHalves_l0_wp (x_ : List Int) (k : Int) {v : (List Int) × (List Int) × Int} {s : St} {r : (List Int) × (List Int)} (h : s_reHalves_l0 x_ k v = some r) (hM : s_reHalves_l0_M x_ k v.1 v.2.1 v.2.2 s) : wpD Y.env k59_l0 (s_reHalves_l0_X x_ k r) s := by
 unfold s_reHalves_l0 at h
 refine wd_itO (c := k59_l0b) (fun v => s_reHalves_l0_S x_ k v.1 v.2.1 v.2.2) (fun v s => s_reHalves_l0_M x_ k v.1 v.2.1 v.2.2 s) (s_reHalves_l0_X x_ k) ?_ h hM
 clear h hM s v r
 intro v s o hM h
 obtain ⟨a, b, t12_⟩ := v
 dsimp only at h hM
 unfold s_reHalves_l0_S at h
 unfold s_reHalves_l0_M at hM
 obtain ⟨m0, m1, m2, m3, m4, m5⟩ := hM
 unfold k59_l0b
 by_cases e1 : t12_ < (x_.length : Int)
 ·rw [if_pos e1] at h
  obtain ⟨e2, h⟩ := ckS h
  obtain ⟨e3, h⟩ := ckS h
  obtain ⟨e4, h⟩ := ckS h
  obtain ⟨e5, h⟩ := ckS h
  obtain rfl := Option.some.inj h
  simp (maxDischargeDepth := 9) only [↓xpre, xpost, xlst, xc2, xcore, yset, rg0, ↓reduceIte, Nat.reduceEqDiff, Nat.reduceLT, Nat.reduceLeDiff, Nat.reduceAdd, Nat.reduceMul, Nat.reduceMod, Nat.reduceSub, Nat.reduceBEq, Int.reduceLE, Int.reduceLT, Int.reduceEq, Int.reduceSub, Int.reduceAdd, Int.reduceToNat, Int.reduceNeg, m0, m1, m2, m3, m4, m5, e1, e2.1, e2.2, e3, e4, e5, s_reHalves_l0_M, s_reHalves_l0_X, sxN, sxE, sxR] <;> (repeat' apply And.intro) <;> first | rfl | exact ⟨_, rfl⟩ | simp [lst, cat2_nil]
 ·rw [if_neg e1] at h
  obtain rfl := Option.some.inj h
  simp (maxDischargeDepth := 9) only [↓xpre, xpost, xlst, xc2, xcore, yset, rg0, ↓reduceIte, Nat.reduceEqDiff, Nat.reduceLT, Nat.reduceLeDiff, Nat.reduceAdd, Nat.reduceMul, Nat.reduceMod, Nat.reduceSub, Nat.reduceBEq, Int.reduceLE, Int.reduceLT, Int.reduceEq, Int.reduceSub, Int.reduceAdd, Int.reduceToNat, Int.reduceNeg, m0, m1, m2, m3, m4, m5, e1, s_reHalves_l0_M, s_reHalves_l0_X, sxN, sxE, sxR] <;> (repeat' apply And.intro) <;> first | rfl | exact ⟨_, rfl⟩ | simp [lst, cat2_nil]
theorem s_reHalves_call (x_ : List Int) (k : Int) {r : (List Int) × (List Int)} (h : s_reHalves x_ k = some r) : Y.call 59 [D.sl 3 (lst (D.int .i64) x_), D.int .i64 k] [] = some (D.tup [D.own 3 (lst (D.int .i64) r.1), D.own 3 (lst (D.int .i64) r.2)], []) := by
 refine c59 ?_ rfl
 unfold k59
 unfold s_reHalves at h
 obtain ⟨r2_, hl2, h⟩ := bindS h
 try dsimp only at h
 simp (maxDischargeDepth := 9) only [↓xpre, xpost, xlst, xc2, xcore, yset, rg0, ↓reduceIte, Nat.reduceEqDiff, Nat.reduceLT, Nat.reduceLeDiff, Nat.reduceAdd, Nat.reduceMul, Nat.reduceMod, Nat.reduceSub, Nat.reduceBEq, Int.reduceLE, Int.reduceLT, Int.reduceEq, Int.reduceSub, Int.reduceAdd, Int.reduceToNat, Int.reduceNeg]
 refine wd_mono (s_reHalves_l0_wp x_ k hl2 ?_) ?_
 ·simp (maxDischargeDepth := 9) only [↓xpre, xpost, xlst, xc2, xcore, yset, rg0, ↓reduceIte, Nat.reduceEqDiff, Nat.reduceLT, Nat.reduceLeDiff, Nat.reduceAdd, Nat.reduceMul, Nat.reduceMod, Nat.reduceSub, Nat.reduceBEq, Int.reduceLE, Int.reduceLT, Int.reduceEq, Int.reduceSub, Int.reduceAdd, Int.reduceToNat, Int.reduceNeg, s_reHalves_l0_M] <;> (repeat' apply And.intro) <;> first | rfl | exact ⟨_, rfl⟩ | simp [lst, cat2_nil]
 ·intro ex2 s2 hX2
  unfold s_reHalves_l0_X at hX2
  obtain ⟨rfl, n2_0, n2_1⟩ := hX2
  obtain rfl := Option.some.inj h
  simp (maxDischargeDepth := 9) only [↓xpre, xpost, xlst, xc2, xcore, yset, rg0, ↓reduceIte, Nat.reduceEqDiff, Nat.reduceLT, Nat.reduceLeDiff, Nat.reduceAdd, Nat.reduceMul, Nat.reduceMod, Nat.reduceSub, Nat.reduceBEq, Int.reduceLE, Int.reduceLT, Int.reduceEq, Int.reduceSub, Int.reduceAdd, Int.reduceToNat, Int.reduceNeg, n2_0, n2_1] <;> (repeat' apply And.intro) <;> first | rfl | exact ⟨_, rfl⟩ | simp [lst, cat2_nil]

noncomputable def s_reProduct_l0_S (l : List (List Int)) (m_ : List (List Int)) (k : Int) (r1_ : (List (List Int))) (out : List (List Int)) (t20_ : Int) : Option (((List (List Int)) × Int) ⊕ ((List (List Int)))) :=
 if t20_ < (r1_.length : Int) then
  ck (0 ≤ t20_ ∧ t20_.toNat < r1_.length) <|
  (s_reHalves (r1_.getD t20_.toNat default) k).bind fun r4_ =>
  ck (r4_.1.length < 1099511627776) <|
  ck (l.length < 1099511627776) <|
  ck ((sortI r4_.1).length < 1099511627776) <|
  if (l.contains (sortI r4_.1)) = true then
   ck (r4_.2.length < 1099511627776) <|
   ck (m_.length < 1099511627776) <|
   ck ((sortI r4_.2).length < 1099511627776) <|
   if (m_.contains (sortI r4_.2)) = true then
    ck (out.length + 1 < 1099511627776) <|
    some (Sum.inl ((out ++ [(r1_.getD t20_.toNat default)]), IntKind.i64.wrap (t20_ + 1)))
   else
    some (Sum.inl (out, IntKind.i64.wrap (t20_ + 1)))
  else
   some (Sum.inl (out, IntKind.i64.wrap (t20_ + 1)))
 else
  some (Sum.inr out)
noncomputable def s_reProduct_l0 (l : List (List Int)) (m_ : List (List Int)) (k : Int) (r1_ : (List (List Int))) (v : (List (List Int)) × Int) : Option ((List (List Int))) := itO (fun v => s_reProduct_l0_S l m_ k r1_ v.1 v.2) v
noncomputable def s_reProduct (l : List (List Int)) (m_ : List (List Int)) (labels : Int) (size : Int) (k : Int) : Option ((List (List Int))) :=
 (s_reChoices labels size).bind fun r1_ =>
 (s_reProduct_l0 l m_ k r1_ ([], 0)).bind fun r3_ =>
 some r3_
/-- spec.reProduct -/
def k29_l0b : SC :=
 .seq
 (.ops [
 ⟨(some 21), (.binOp .lss 3 (.tmp 20) (.tmp 19) 3), 0, none⟩])
 (.seq
 (.cond (.tmp 21)
 .skip
 (.exit 0))
 (.seq
 (.block 1
 (.seq
 (.ops [
 ⟨(some 22), (.indexAddr 22 (.tmp 18) (.tmp 20)), 0, none⟩,
 ⟨(some 23), (.load 33 (.tmp 22)), 33, none⟩,
 ⟨(some 13), (.assign (.tmp 23)), 33, none⟩])
 (.seq
 (.ops [
 ⟨(some 25), (.move (.tmp 13)), 33, none⟩,
 ⟨(some 26), (.move (.tmp 4)), 3, none⟩,
 ⟨(some 27), (.call ⟨(.value (.func 59)), #[(.tmp 25), (.tmp 26)], #[33, 3]⟩), 45, none⟩,
 ⟨(some 24), (.move (.tmp 27)), 45, none⟩,
 ⟨(some 28), (.extract (.tmp 24) 0), 33, none⟩,
 ⟨(some 29), (.extract (.tmp 24) 1), 33, none⟩,
 ⟨(some 14), (.assign (.tmp 28)), 33, none⟩,
 ⟨(some 15), (.assign (.tmp 29)), 33, none⟩])
 (.seq
 (.ops [
 ⟨(some 30), (.move (.tmp 0)), 22, none⟩,
 ⟨(some 31), (.move (.tmp 14)), 33, none⟩,
 ⟨(some 32), (.call ⟨(.value (.func 61)), #[(.tmp 31)], #[33]⟩), 33, none⟩,
 ⟨(some 33), (.call ⟨(.value (.func 60)), #[(.tmp 30), (.tmp 32)], #[22, 33]⟩), 4, none⟩,
 ⟨(some 34), (.move (.tmp 33)), 4, none⟩,
 ⟨(some 35), (.move (.tmp 1)), 22, (some (some 34, true))⟩,
 ⟨(some 36), (.move (.tmp 15)), 33, (some (some 34, true))⟩,
 ⟨(some 37), (.call ⟨(.value (.func 61)), #[(.tmp 36)], #[33]⟩), 33, (some (some 34, true))⟩,
 ⟨(some 38), (.call ⟨(.value (.func 60)), #[(.tmp 35), (.tmp 37)], #[22, 33]⟩), 4, (some (some 34, true))⟩,
 ⟨(some 39), (.pick (.tmp 34) (.tmp 38) (.const (.bool false))), 4, none⟩])
 (.cond (.tmp 39)
 (.ops [
 ⟨(some 40), (.move (.tmp 11)), 22, none⟩,
 ⟨(some 41), (.move (.tmp 13)), 33, none⟩,
 ⟨(some 42), (.buildSlice 22 1 #[(0, (.tmp 41))]), 22, none⟩,
 ⟨(some 43), (.call ⟨(.builtin .append), #[(.tmp 40), (.tmp 42)], #[22, 22]⟩), 22, none⟩,
 ⟨(some 11), (.assign (.tmp 43)), 22, none⟩])
 .skip)))))
 (.ops [
 ⟨(some 44), (.binOp .add 3 (.tmp 20) (.const (.int .i64 1)) 3), 3, none⟩,
 ⟨(some 20), (.move (.tmp 44)), 3, none⟩])))
def k29_l0 : SC := .loop k29_l0b
def k29 : SC :=
 .seq
 (.ops [
 ⟨(some 10), (.assign (.const (.slice none 0 0))), 22, none⟩])
 (.seq
 (.ops [
 ⟨(some 11), (.assign (.const (.slice none 0 0))), 22, none⟩])
 (.seq
 (.seq
 (.ops [
 ⟨(some 16), (.move (.tmp 2)), 3, none⟩,
 ⟨(some 17), (.move (.tmp 3)), 3, none⟩,
 ⟨(some 18), (.call ⟨(.value (.func 58)), #[(.tmp 16), (.tmp 17)], #[3, 3]⟩), 22, none⟩,
 ⟨(some 19), (.call ⟨(.builtin .len), #[(.tmp 18)], #[22]⟩), 3, none⟩,
 ⟨(some 20), (.move (.const (.int .i64 0))), 3, none⟩])
 (.block 0
 k29_l0))
 (.seq
 (.ops [
 ⟨(some 45), (.move (.tmp 11)), 22, none⟩,
 ⟨(some 10), (.assign (.tmp 45)), 22, none⟩])
 .ret)))
theorem slim29 : Try.f29.body.map (slim lends) = some k29 := by kernel_rfl
theorem ok29 : fnOk Try.f29 5 = true := by kernel_rfl
theorem c29 {a l : List D} {r : D × List D} (h : wpD Y.env k29 (fin tys l.length [ResultVar.tmp 10] r) (entry a l)) (ha : a.length = 5) : Y.call 29 a l = some r :=
 call_slim (Y := Y) rfl Try.func29 (ha ▸ ok29) slim29 h
def s_reProduct_l0_M (l : List (List Int)) (m_ : List (List Int)) (k : Int) (r1_ : (List (List Int))) (out : List (List Int)) (t20_ : Int) (s : St) : Prop := s.v 0 = D.sl 33 (lst (fun x => D.sl 3 (lst (D.int .i64) x)) l) ∧ s.v 1 = D.sl 33 (lst (fun x => D.sl 3 (lst (D.int .i64) x)) m_) ∧ s.v 4 = D.int .i64 k ∧ s.v 11 = D.own 33 (lst (fun x => D.sl 3 (lst (D.int .i64) x)) out) ∧ s.v 18 = D.own 33 (lst (fun x => D.sl 3 (lst (D.int .i64) x)) r1_) ∧ s.v 19 = D.int .i64 (r1_.length : Int) ∧ s.v 20 = D.int .i64 t20_
def s_reProduct_l0_X (l : List (List Int)) (m_ : List (List Int)) (k : Int) (r1_ : (List (List Int))) (r : (List (List Int))) (ex : Ex) (s : St) : Prop := ex = .exit 0 ∧ s.v 11 = D.own 33 (lst (fun x => D.sl 3 (lst (D.int .i64) x)) r)
theorem s_reProduct_l0_wp (l : List (List Int)) (m_ : List (List Int)) (k : Int) (r1_ : (List (List Int))) {v : (List (List Int)) × Int} {s : St} {r : (List (List Int))} (h : s_reProduct_l0 l m_ k r1_ v = some r) (hM : s_reProduct_l0_M l m_ k r1_ v.1 v.2 s) : wpD Y.env k29_l0 (s_reProduct_l0_X l m_ k r1_ r) s := by
 unfold s_reProduct_l0 at h
 refine wd_itO (c := k29_l0b) (fun v => s_reProduct_l0_S l m_ k r1_ v.1 v.2) (fun v s => s_reProduct_l0_M l m_ k r1_ v.1 v.2 s) (s_reProduct_l0_X l m_ k r1_) ?_ h hM
 clear h hM s v r
 intro v s o hM h
 obtain ⟨out, t20_⟩ := v
 dsimp only at h hM
 unfold s_reProduct_l0_S at h
 unfold s_reProduct_l0_M at hM
 obtain ⟨m0, m1, m2, m3, m4, m5, m6⟩ := hM
 unfold k29_l0b
 by_cases e2 : t20_ < (r1_.length : Int)
 ·rw [if_pos e2] at h
  obtain ⟨e3, h⟩ := ckS h
  obtain ⟨r4_, hl4, h⟩ := bindS h
  try dsimp only at h
  have c4 := s_reHalves_call (r1_.getD t20_.toNat default) k hl4
  obtain ⟨e5, h⟩ := ckS h
  have c6 := s_prSorted_cl r4_.1 e5
  obtain ⟨e7, h⟩ := ckS h
  obtain ⟨e8, h⟩ := ckS h
  have c9 := s_prHas_cl l (sortI r4_.1) e7 e8
  by_cases e10 : (l.contains (sortI r4_.1)) = true
  ·rw [if_pos e10] at h
   obtain ⟨e11, h⟩ := ckS h
   have c12 := s_prSorted_cl r4_.2 e11
   obtain ⟨e13, h⟩ := ckS h
   obtain ⟨e14, h⟩ := ckS h
   have c15 := s_prHas_cl m_ (sortI r4_.2) e13 e14
   by_cases e16 : (m_.contains (sortI r4_.2)) = true
   ·rw [if_pos e16] at h
    obtain ⟨e17, h⟩ := ckS h
    obtain rfl := Option.some.inj h
    simp (maxDischargeDepth := 9) only [↓xpre, xpost, xlst, xc2, xcore, yset, rg0, ↓reduceIte, Nat.reduceEqDiff, Nat.reduceLT, Nat.reduceLeDiff, Nat.reduceAdd, Nat.reduceMul, Nat.reduceMod, Nat.reduceSub, Nat.reduceBEq, Int.reduceLE, Int.reduceLT, Int.reduceEq, Int.reduceSub, Int.reduceAdd, Int.reduceToNat, Int.reduceNeg, m0, m1, m2, m3, m4, m5, m6, e2, e3.1, e3.2, c4, e5, c6, e7, e8, c9, e10, e11, c12, e13, e14, c15, e16, e17, s_reProduct_l0_M, s_reProduct_l0_X, sxN, sxE, sxR] <;> (repeat' apply And.intro) <;> first | rfl | exact ⟨_, rfl⟩ | simp [lst, cat2_nil]
   ·rw [if_neg e16] at h
    have e16f : (m_.contains (sortI r4_.2)) = false := Bool.eq_false_iff.mpr e16
    obtain rfl := Option.some.inj h
    simp (maxDischargeDepth := 9) only [↓xpre, xpost, xlst, xc2, xcore, yset, rg0, ↓reduceIte, Nat.reduceEqDiff, Nat.reduceLT, Nat.reduceLeDiff, Nat.reduceAdd, Nat.reduceMul, Nat.reduceMod, Nat.reduceSub, Nat.reduceBEq, Int.reduceLE, Int.reduceLT, Int.reduceEq, Int.reduceSub, Int.reduceAdd, Int.reduceToNat, Int.reduceNeg, m0, m1, m2, m3, m4, m5, m6, e2, e3.1, e3.2, c4, e5, c6, e7, e8, c9, e10, e11, c12, e13, e14, c15, e16f, s_reProduct_l0_M, s_reProduct_l0_X, sxN, sxE, sxR] <;> (repeat' apply And.intro) <;> first | rfl | exact ⟨_, rfl⟩ | simp [lst, cat2_nil]
  ·rw [if_neg e10] at h
   have e10f : (l.contains (sortI r4_.1)) = false := Bool.eq_false_iff.mpr e10
   obtain rfl := Option.some.inj h
   simp (maxDischargeDepth := 9) only [↓xpre, xpost, xlst, xc2, xcore, yset, rg0, ↓reduceIte, Nat.reduceEqDiff, Nat.reduceLT, Nat.reduceLeDiff, Nat.reduceAdd, Nat.reduceMul, Nat.reduceMod, Nat.reduceSub, Nat.reduceBEq, Int.reduceLE, Int.reduceLT, Int.reduceEq, Int.reduceSub, Int.reduceAdd, Int.reduceToNat, Int.reduceNeg, m0, m1, m2, m3, m4, m5, m6, e2, e3.1, e3.2, c4, e5, c6, e7, e8, c9, e10f, s_reProduct_l0_M, s_reProduct_l0_X, sxN, sxE, sxR] <;> (repeat' apply And.intro) <;> first | rfl | exact ⟨_, rfl⟩ | simp [lst, cat2_nil]
 ·rw [if_neg e2] at h
  obtain rfl := Option.some.inj h
  simp (maxDischargeDepth := 9) only [↓xpre, xpost, xlst, xc2, xcore, yset, rg0, ↓reduceIte, Nat.reduceEqDiff, Nat.reduceLT, Nat.reduceLeDiff, Nat.reduceAdd, Nat.reduceMul, Nat.reduceMod, Nat.reduceSub, Nat.reduceBEq, Int.reduceLE, Int.reduceLT, Int.reduceEq, Int.reduceSub, Int.reduceAdd, Int.reduceToNat, Int.reduceNeg, m0, m1, m2, m3, m4, m5, m6, e2, s_reProduct_l0_M, s_reProduct_l0_X, sxN, sxE, sxR] <;> (repeat' apply And.intro) <;> first | rfl | exact ⟨_, rfl⟩ | simp [lst, cat2_nil]
theorem s_reProduct_call (l : List (List Int)) (m_ : List (List Int)) (labels : Int) (size : Int) (k : Int) {r : (List (List Int))} (h : s_reProduct l m_ labels size k = some r) : Y.call 29 [D.sl 33 (lst (fun x => D.sl 3 (lst (D.int .i64) x)) l), D.sl 33 (lst (fun x => D.sl 3 (lst (D.int .i64) x)) m_), D.int .i64 labels, D.int .i64 size, D.int .i64 k] [] = some (D.own 33 (lst (fun x => D.sl 3 (lst (D.int .i64) x)) r), []) := by
 refine c29 ?_ rfl
 unfold k29
 unfold s_reProduct at h
 obtain ⟨r1_, hl1, h⟩ := bindS h
 try dsimp only at h
 have c1 := s_reChoices_call labels size hl1
 obtain ⟨r3_, hl3, h⟩ := bindS h
 try dsimp only at h
 simp (maxDischargeDepth := 9) only [↓xpre, xpost, xlst, xc2, xcore, yset, rg0, ↓reduceIte, Nat.reduceEqDiff, Nat.reduceLT, Nat.reduceLeDiff, Nat.reduceAdd, Nat.reduceMul, Nat.reduceMod, Nat.reduceSub, Nat.reduceBEq, Int.reduceLE, Int.reduceLT, Int.reduceEq, Int.reduceSub, Int.reduceAdd, Int.reduceToNat, Int.reduceNeg, c1]
 refine wd_mono (s_reProduct_l0_wp l m_ k r1_ hl3 ?_) ?_
 ·simp (maxDischargeDepth := 9) only [↓xpre, xpost, xlst, xc2, xcore, yset, rg0, ↓reduceIte, Nat.reduceEqDiff, Nat.reduceLT, Nat.reduceLeDiff, Nat.reduceAdd, Nat.reduceMul, Nat.reduceMod, Nat.reduceSub, Nat.reduceBEq, Int.reduceLE, Int.reduceLT, Int.reduceEq, Int.reduceSub, Int.reduceAdd, Int.reduceToNat, Int.reduceNeg, c1, s_reProduct_l0_M] <;> (repeat' apply And.intro) <;> first | rfl | exact ⟨_, rfl⟩ | simp [lst, cat2_nil]
 ·intro ex3 s3 hX3
  unfold s_reProduct_l0_X at hX3
  obtain ⟨rfl, n3_0⟩ := hX3
  obtain rfl := Option.some.inj h
  simp (maxDischargeDepth := 9) only [↓xpre, xpost, xlst, xc2, xcore, yset, rg0, ↓reduceIte, Nat.reduceEqDiff, Nat.reduceLT, Nat.reduceLeDiff, Nat.reduceAdd, Nat.reduceMul, Nat.reduceMod, Nat.reduceSub, Nat.reduceBEq, Int.reduceLE, Int.reduceLT, Int.reduceEq, Int.reduceSub, Int.reduceAdd, Int.reduceToNat, Int.reduceNeg, c1, n3_0] <;> (repeat' apply And.intro) <;> first | rfl | exact ⟨_, rfl⟩ | simp [lst, cat2_nil]

noncomputable def s_ProductProblem (p_Labels : Int) (p_Degree : Int) (p_Nodes : List (List Int)) (p_Edges : List (List Int)) (q_Labels : Int) (q_Degree : Int) (q_Nodes : List (List Int)) (q_Edges : List (List Int)) : Option (Int × Int × (List (List Int)) × (List (List Int)) × Bool) :=
 (s_reTwo p_Labels p_Degree p_Nodes p_Edges q_Labels q_Degree q_Nodes q_Edges).bind fun r1_ =>
 if r1_ = true then
  if 8 < (IntKind.i64.wrap (p_Labels * q_Labels)) then
   some (0, 0, [], [], false)
  else
   (s_reProduct p_Nodes q_Nodes (IntKind.i64.wrap (p_Labels * q_Labels)) p_Degree q_Labels).bind fun r4_ =>
   (s_reProduct p_Edges q_Edges (IntKind.i64.wrap (p_Labels * q_Labels)) (2 : Int) q_Labels).bind fun r5_ =>
   some (IntKind.i64.wrap (p_Labels * q_Labels), p_Degree, r4_, r5_, true)
 else
  some (0, 0, [], [], false)
/-- spec.ProductProblem -/
def k9 : SC :=
 .seq
 (.ops [
 ⟨(some 2), (.box 26 (.tmp 0)), 0, none⟩,
 ⟨(some 3), (.box 26 (.tmp 1)), 0, none⟩,
 ⟨(some 4), (.alloc 26), 0, none⟩,
 ⟨(some 5), (.assign (.const (.bool false))), 4, none⟩])
 (.seq
 (.seq
 (.ops [
 ⟨(some 7), (.load 26 (.tmp 2)), 26, none⟩,
 ⟨(some 8), (.load 26 (.tmp 3)), 26, none⟩,
 ⟨(some 9), (.call ⟨(.value (.func 28)), #[(.tmp 7), (.tmp 8)], #[26, 26]⟩), 4, none⟩,
 ⟨(some 10), (.unOp .not 4 (.tmp 9)), 4, none⟩,
 ⟨(some 11), (.move (.tmp 10)), 4, none⟩,
 ⟨(some 12), (.fieldAddr 26 (.tmp 2) 0), 0, (some (some 11, false))⟩,
 ⟨(some 13), (.load 3 (.tmp 12)), 3, (some (some 11, false))⟩,
 ⟨(some 14), (.fieldAddr 26 (.tmp 3) 0), 0, (some (some 11, false))⟩,
 ⟨(some 15), (.load 3 (.tmp 14)), 3, (some (some 11, false))⟩,
 ⟨(some 16), (.binOp .mul 3 (.tmp 13) (.tmp 15) 3), 3, (some (some 11, false))⟩,
 ⟨(some 17), (.binOp .gtr 3 (.tmp 16) (.const (.int .i64 8)) 3), 4, (some (some 11, false))⟩,
 ⟨(some 18), (.pick (.tmp 11) (.const (.bool true)) (.tmp 17)), 4, none⟩])
 (.cond (.tmp 18)
 (.seq
 (.ops [
 ⟨(some 19), (.build 26 #[]), 26, none⟩,
 ⟨none, (.store 26 (.tmp 4) (.tmp 19)), 0, none⟩,
 ⟨(some 5), (.assign (.const (.bool false))), 4, none⟩])
 .ret)
 .skip))
 (.seq
 (.ops [
 ⟨(some 20), (.fieldAddr 26 (.tmp 2) 0), 0, none⟩,
 ⟨(some 21), (.load 3 (.tmp 20)), 3, none⟩,
 ⟨(some 22), (.fieldAddr 26 (.tmp 3) 0), 0, none⟩,
 ⟨(some 23), (.load 3 (.tmp 22)), 3, none⟩,
 ⟨(some 24), (.binOp .mul 3 (.tmp 21) (.tmp 23) 3), 3, none⟩,
 ⟨(some 6), (.assign (.tmp 24)), 3, none⟩])
 (.seq
 (.draws [
 (⟨[25, 6, 6], [25, 26, 27, 28, 29, 30, 31, 32, 33, 34, 35, 36, 37, 38, 39, 40, 41, 42, 43, 44, 45, 46, 25, 27, 37, 45, 6, 2, 37, 45, 4, 46, 4, 46, 5], [25]⟩, ⟨(some 25), (.move (.tmp 6)), 3, none⟩),
 (⟨[26, 2, 2], [25, 26, 27, 28, 29, 30, 31, 32, 33, 34, 35, 36, 37, 38, 39, 40, 41, 42, 43, 44, 45, 46, 25, 27, 37, 45, 6, 2, 37, 45, 4, 46, 4, 46, 5], [26]⟩, ⟨(some 26), (.fieldAddr 26 (.tmp 2) 1), 0, none⟩),
 (⟨[27, 26, 2], [25, 26, 27, 28, 29, 30, 31, 32, 33, 34, 35, 36, 37, 38, 39, 40, 41, 42, 43, 44, 45, 46, 25, 27, 37, 45, 6, 2, 37, 45, 4, 46, 4, 46, 5], [27]⟩, ⟨(some 27), (.load 3 (.tmp 26)), 3, none⟩),
 (⟨[28, 2, 2], [25, 26, 27, 28, 29, 30, 31, 32, 33, 34, 35, 36, 37, 38, 39, 40, 41, 42, 43, 44, 45, 46, 25, 27, 37, 45, 6, 2, 37, 45, 4, 46, 4, 46, 5], [28]⟩, ⟨(some 28), (.fieldAddr 26 (.tmp 2) 2), 0, none⟩),
 (⟨[29, 28, 2], [25, 26, 27, 28, 29, 30, 31, 32, 33, 34, 35, 36, 37, 38, 39, 40, 41, 42, 43, 44, 45, 46, 25, 27, 37, 45, 6, 2, 37, 45, 4, 46, 4, 46, 5], [29]⟩, ⟨(some 29), (.load 22 (.tmp 28)), 22, none⟩),
 (⟨[30, 3, 3], [25, 26, 27, 28, 29, 30, 31, 32, 33, 34, 35, 36, 37, 38, 39, 40, 41, 42, 43, 44, 45, 46, 25, 27, 37, 45, 6, 2, 37, 45, 4, 46, 4, 46, 5], [30]⟩, ⟨(some 30), (.fieldAddr 26 (.tmp 3) 2), 0, none⟩),
 (⟨[31, 30, 3], [25, 26, 27, 28, 29, 30, 31, 32, 33, 34, 35, 36, 37, 38, 39, 40, 41, 42, 43, 44, 45, 46, 25, 27, 37, 45, 6, 2, 37, 45, 4, 46, 4, 46, 5], [31]⟩, ⟨(some 31), (.load 22 (.tmp 30)), 22, none⟩),
 (⟨[32, 6, 6], [25, 26, 27, 28, 29, 30, 31, 32, 33, 34, 35, 36, 37, 38, 39, 40, 41, 42, 43, 44, 45, 46, 25, 27, 37, 45, 6, 2, 37, 45, 4, 46, 4, 46, 5], [32]⟩, ⟨(some 32), (.move (.tmp 6)), 3, none⟩),
 (⟨[33, 2, 2], [25, 26, 27, 28, 29, 30, 31, 32, 33, 34, 35, 36, 37, 38, 39, 40, 41, 42, 43, 44, 45, 46, 25, 27, 37, 45, 6, 2, 37, 45, 4, 46, 4, 46, 5], [33]⟩, ⟨(some 33), (.fieldAddr 26 (.tmp 2) 1), 0, none⟩),
 (⟨[34, 33, 2], [25, 26, 27, 28, 29, 30, 31, 32, 33, 34, 35, 36, 37, 38, 39, 40, 41, 42, 43, 44, 45, 46, 25, 27, 37, 45, 6, 2, 37, 45, 4, 46, 4, 46, 5], [34]⟩, ⟨(some 34), (.load 3 (.tmp 33)), 3, none⟩),
 (⟨[35, 3, 3], [25, 26, 27, 28, 29, 30, 31, 32, 33, 34, 35, 36, 37, 38, 39, 40, 41, 42, 43, 44, 45, 46, 25, 27, 37, 45, 6, 2, 37, 45, 4, 46, 4, 46, 5], [35]⟩, ⟨(some 35), (.fieldAddr 26 (.tmp 3) 0), 0, none⟩),
 (⟨[36, 35, 3], [25, 26, 27, 28, 29, 30, 31, 32, 33, 34, 35, 36, 37, 38, 39, 40, 41, 42, 43, 44, 45, 46, 25, 27, 37, 45, 6, 2, 37, 45, 4, 46, 4, 46, 5], [36]⟩, ⟨(some 36), (.load 3 (.tmp 35)), 3, none⟩),
 (⟨[37, 29, 31, 32, 34, 36, 2, 3, 6, 2, 3], [25, 26, 27, 28, 29, 30, 31, 32, 33, 34, 35, 36, 37, 38, 39, 40, 41, 42, 43, 44, 45, 46, 25, 27, 37, 45, 6, 2, 37, 45, 4, 46, 4, 46, 5], [37]⟩, ⟨(some 37), (.call ⟨(.value (.func 29)), #[(.tmp 29), (.tmp 31), (.tmp 32), (.tmp 34), (.tmp 36)], #[22, 22, 3, 3, 3]⟩), 22, none⟩),
 (⟨[38, 2, 2], [25, 26, 27, 28, 29, 30, 31, 32, 33, 34, 35, 36, 37, 38, 39, 40, 41, 42, 43, 44, 45, 46, 25, 27, 37, 45, 6, 2, 37, 45, 4, 46, 4, 46, 5], [38]⟩, ⟨(some 38), (.fieldAddr 26 (.tmp 2) 3), 0, none⟩),
 (⟨[39, 38, 2], [25, 26, 27, 28, 29, 30, 31, 32, 33, 34, 35, 36, 37, 38, 39, 40, 41, 42, 43, 44, 45, 46, 25, 27, 37, 45, 6, 2, 37, 45, 4, 46, 4, 46, 5], [39]⟩, ⟨(some 39), (.load 22 (.tmp 38)), 22, none⟩),
 (⟨[40, 3, 3], [25, 26, 27, 28, 29, 30, 31, 32, 33, 34, 35, 36, 37, 38, 39, 40, 41, 42, 43, 44, 45, 46, 25, 27, 37, 45, 6, 2, 37, 45, 4, 46, 4, 46, 5], [40]⟩, ⟨(some 40), (.fieldAddr 26 (.tmp 3) 3), 0, none⟩),
 (⟨[41, 40, 3], [25, 26, 27, 28, 29, 30, 31, 32, 33, 34, 35, 36, 37, 38, 39, 40, 41, 42, 43, 44, 45, 46, 25, 27, 37, 45, 6, 2, 37, 45, 4, 46, 4, 46, 5], [41]⟩, ⟨(some 41), (.load 22 (.tmp 40)), 22, none⟩),
 (⟨[42, 6, 6], [25, 26, 27, 28, 29, 30, 31, 32, 33, 34, 35, 36, 37, 38, 39, 40, 41, 42, 43, 44, 45, 46, 25, 27, 37, 45, 6, 2, 37, 45, 4, 46, 4, 46, 5], [42]⟩, ⟨(some 42), (.move (.tmp 6)), 3, none⟩),
 (⟨[43, 3, 3], [25, 26, 27, 28, 29, 30, 31, 32, 33, 34, 35, 36, 37, 38, 39, 40, 41, 42, 43, 44, 45, 46, 25, 27, 37, 45, 6, 2, 37, 45, 4, 46, 4, 46, 5], [43]⟩, ⟨(some 43), (.fieldAddr 26 (.tmp 3) 0), 0, none⟩),
 (⟨[44, 43, 3], [25, 26, 27, 28, 29, 30, 31, 32, 33, 34, 35, 36, 37, 38, 39, 40, 41, 42, 43, 44, 45, 46, 25, 27, 37, 45, 6, 2, 37, 45, 4, 46, 4, 46, 5], [44]⟩, ⟨(some 44), (.load 3 (.tmp 43)), 3, none⟩),
 (⟨[45, 39, 41, 42, 44, 2, 3, 6, 3], [25, 26, 27, 28, 29, 30, 31, 32, 33, 34, 35, 36, 37, 38, 39, 40, 41, 42, 43, 44, 45, 46, 25, 27, 37, 45, 6, 2, 37, 45, 4, 46, 4, 46, 5], [45]⟩, ⟨(some 45), (.call ⟨(.value (.func 29)), #[(.tmp 39), (.tmp 41), (.tmp 42), (.const (.int .i64 2)), (.tmp 44)], #[22, 22, 3, 3, 3]⟩), 22, none⟩),
 (⟨[46, 25, 27, 37, 45, 6, 2, 37, 45], [25, 26, 27, 28, 29, 30, 31, 32, 33, 34, 35, 36, 37, 38, 39, 40, 41, 42, 43, 44, 45, 46, 25, 27, 37, 45, 6, 2, 37, 45, 4, 46, 4, 46, 5], [46, 25, 27, 37, 45, 6, 2, 37, 45]⟩, ⟨(some 46), (.build 26 #[(0, (.tmp 25)), (1, (.tmp 27)), (2, (.tmp 37)), (3, (.tmp 45))]), 26, none⟩),
 (⟨[4, 46, 4, 46], [25, 26, 27, 28, 29, 30, 31, 32, 33, 34, 35, 36, 37, 38, 39, 40, 41, 42, 43, 44, 45, 46, 25, 27, 37, 45, 6, 2, 37, 45, 4, 46, 4, 46, 5], [4, 46, 4, 46]⟩, ⟨none, (.store 26 (.tmp 4) (.tmp 46)), 0, none⟩),
 (⟨[5], [25, 26, 27, 28, 29, 30, 31, 32, 33, 34, 35, 36, 37, 38, 39, 40, 41, 42, 43, 44, 45, 46, 25, 27, 37, 45, 6, 2, 37, 45, 4, 46, 4, 46, 5], [5]⟩, ⟨(some 5), (.assign (.const (.bool true))), 4, none⟩)])
 .ret)))
theorem slim9 : Try.f9.body.map (slim lends) = some k9 := by kernel_rfl
theorem ok9 : fnOk Try.f9 2 = true := by kernel_rfl
theorem c9 {a l : List D} {r : D × List D} (h : wpD Y.env k9 (fin tys l.length [ResultVar.cell 4 26, ResultVar.tmp 5] r) (entry a l)) (ha : a.length = 2) : Y.call 9 a l = some r :=
 call_slim (Y := Y) rfl Try.func9 (ha ▸ ok9) slim9 h
theorem s_ProductProblem_call (p_Labels : Int) (p_Degree : Int) (p_Nodes : List (List Int)) (p_Edges : List (List Int)) (q_Labels : Int) (q_Degree : Int) (q_Nodes : List (List Int)) (q_Edges : List (List Int)) {r : Int × Int × (List (List Int)) × (List (List Int)) × Bool} (h : s_ProductProblem p_Labels p_Degree p_Nodes p_Edges q_Labels q_Degree q_Nodes q_Edges = some r) : Y.call 9 [D.agg [D.int .i64 p_Labels, D.int .i64 p_Degree, D.sl 33 (lst (fun x => D.sl 3 (lst (D.int .i64) x)) p_Nodes), D.sl 33 (lst (fun x => D.sl 3 (lst (D.int .i64) x)) p_Edges)], D.agg [D.int .i64 q_Labels, D.int .i64 q_Degree, D.sl 33 (lst (fun x => D.sl 3 (lst (D.int .i64) x)) q_Nodes), D.sl 33 (lst (fun x => D.sl 3 (lst (D.int .i64) x)) q_Edges)]] [] = some (D.tup [D.agg [D.int .i64 r.1, D.int .i64 r.2.1, D.own 33 (lst (fun x => D.sl 3 (lst (D.int .i64) x)) r.2.2.1), D.own 33 (lst (fun x => D.sl 3 (lst (D.int .i64) x)) r.2.2.2.1)], D.bool r.2.2.2.2], []) := by
 refine c9 ?_ rfl
 unfold k9
 unfold s_ProductProblem at h
 obtain ⟨r1_, hl1, h⟩ := bindS h
 try dsimp only at h
 have c1 := s_reTwo_call p_Labels p_Degree p_Nodes p_Edges q_Labels q_Degree q_Nodes q_Edges hl1
 by_cases e2 : r1_ = true
 ·rw [if_pos e2] at h
  by_cases e3 : 8 < (IntKind.i64.wrap (p_Labels * q_Labels))
  ·rw [if_pos e3] at h
   obtain rfl := Option.some.inj h
   simp (maxDischargeDepth := 9) only [↓xpre, xpost, xlst, xc2, xcore, yset, rg0, ↓reduceIte, Nat.reduceEqDiff, Nat.reduceLT, Nat.reduceLeDiff, Nat.reduceAdd, Nat.reduceMul, Nat.reduceMod, Nat.reduceSub, Nat.reduceBEq, Int.reduceLE, Int.reduceLT, Int.reduceEq, Int.reduceSub, Int.reduceAdd, Int.reduceToNat, Int.reduceNeg, c1, e2, e3] <;> (repeat' apply And.intro) <;> first | rfl | exact ⟨_, rfl⟩ | simp [lst, cat2_nil]
  ·rw [if_neg e3] at h
   obtain ⟨r4_, hl4, h⟩ := bindS h
   try dsimp only at h
   have c4 := s_reProduct_call p_Nodes q_Nodes (IntKind.i64.wrap (p_Labels * q_Labels)) p_Degree q_Labels hl4
   obtain ⟨r5_, hl5, h⟩ := bindS h
   try dsimp only at h
   have c5 := s_reProduct_call p_Edges q_Edges (IntKind.i64.wrap (p_Labels * q_Labels)) (2 : Int) q_Labels hl5
   obtain rfl := Option.some.inj h
   simp (maxDischargeDepth := 9) only [↓xpre, xpost, xlst, xc2, xcore, yset, rg0, ↓reduceIte, Nat.reduceEqDiff, Nat.reduceLT, Nat.reduceLeDiff, Nat.reduceAdd, Nat.reduceMul, Nat.reduceMod, Nat.reduceSub, Nat.reduceBEq, Int.reduceLE, Int.reduceLT, Int.reduceEq, Int.reduceSub, Int.reduceAdd, Int.reduceToNat, Int.reduceNeg, c1, e2, e3, c4, c5] <;> (repeat' apply And.intro) <;> first | rfl | exact ⟨_, rfl⟩ | simp [lst, cat2_nil]
 ·rw [if_neg e2] at h
  have e2f : r1_ = false := Bool.eq_false_iff.mpr e2
  obtain rfl := Option.some.inj h
  simp (maxDischargeDepth := 9) only [↓xpre, xpost, xlst, xc2, xcore, yset, rg0, ↓reduceIte, Nat.reduceEqDiff, Nat.reduceLT, Nat.reduceLeDiff, Nat.reduceAdd, Nat.reduceMul, Nat.reduceMod, Nat.reduceSub, Nat.reduceBEq, Int.reduceLE, Int.reduceLT, Int.reduceEq, Int.reduceSub, Int.reduceAdd, Int.reduceToNat, Int.reduceNeg, c1, e2f] <;> (repeat' apply And.intro) <;> first | rfl | exact ⟨_, rfl⟩ | simp [lst, cat2_nil]


end Go.Proofs.Ytdjfaadpmbkcmaa
