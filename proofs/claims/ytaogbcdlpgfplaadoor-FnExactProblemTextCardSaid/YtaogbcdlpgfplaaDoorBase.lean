/- Copies, comparisons, sizes and marks of numbers in lists, as plain functions. Conditions: the lists are short. -/
import Derived.Test.YtaogbcdlpgfplaaDoorL6
import Derived.Test.YtaogbcdlpgfplaaDoorDt
namespace Go.Proofs.YtaogbcdlpgfplaaDoor
open Go Dv
set_option linter.unusedSimpArgs false
set_option linter.unusedVariables false
set_option maxRecDepth 100000
set_option maxHeartbeats 4000000

/-- Lists whose lists are short. -/
def Short (l : List (List Int)) : Prop := l.length < 1099511627776 ∧ ∀ x ∈ l, x.length < 1099511627776
theorem Short.nil : Short [] := ⟨by decide, fun _ h => by cases h⟩
theorem Short.at {l : List (List Int)} (h : Short l) (i : Nat) (hi : i < l.length) : l[i].length < 1099511627776 := h.2 _ (List.getElem_mem hi)
instance (l : List (List Int)) : Decidable (Short l) := by unfold Short; infer_instance
theorem set_mid {α : Type} [Inhabited α] (xs : List α) (i : Nat) (h : i < xs.length) (z : α) : (xs.take i ++ List.replicate (xs.length - i) z).set i xs[i] = xs.take (i + 1) ++ List.replicate (xs.length - (i + 1)) z := by
 have e : xs.length - i = (xs.length - (i + 1)) + 1 := by omega
 rw [e, List.replicate_succ, List.set_append_right _ _ (by simp; omega), List.take_succ_eq_append_getElem h]
 have : i - (xs.take i).length = 0 := by simp; omega
 rw [this, List.set_cons_zero, List.append_assoc]; rfl
noncomputable def l_toIntS_l0_S (a : List Int) (out : List Int) (i : Int) : Option (((List Int) × Int) ⊕ ((List Int))) :=
 if i < (a.length : Int) then
  ck (0 ≤ i ∧ i.toNat < a.length) <|
  ck (0 ≤ i ∧ i.toNat < out.length) <|
  some (Sum.inl ((out.set i.toNat (a.getD i.toNat default)), IntKind.i64.wrap (i + 1)))
 else
  some (Sum.inr out)
noncomputable def l_toIntS_l0 (a : List Int) (v : (List Int) × Int) : Option ((List Int)) := itO (fun v => l_toIntS_l0_S a v.1 v.2) v
noncomputable def l_toIntS (a : List Int) : Option ((List Int)) :=
 ck (0 ≤ (a.length : Int) ∧ (a.length : Int) < 1099511627776) <|
 (l_toIntS_l0 a ((List.replicate a.length 0), 0)).bind fun r1000_ =>
 some r1000_
/-- laws.toIntS -/
def k67_l0b : SC :=
 .seq
 (.seq
 (.ops [
 ⟨(some 8), (.move (.tmp 4)), 3, none⟩,
 ⟨(some 9), (.move (.tmp 0)), 70, none⟩,
 ⟨(some 10), (.call ⟨(.builtin .len), #[(.tmp 9)], #[70]⟩), 3, none⟩,
 ⟨(some 11), (.binOp .lss 3 (.tmp 8) (.tmp 10) 3), 4, none⟩])
 (.cond (.tmp 11)
 .skip
 (.exit 0)))
 (.seq
 (.block 1
 (.ops [
 ⟨(some 14), (.move (.tmp 3)), 70, none⟩,
 ⟨(some 15), (.move (.tmp 4)), 3, none⟩,
 ⟨(some 16), (.move (.tmp 0)), 70, none⟩,
 ⟨(some 17), (.move (.tmp 4)), 3, none⟩,
 ⟨(some 18), (.indexAddr 70 (.tmp 16) (.tmp 17)), 0, none⟩,
 ⟨(some 19), (.load 3 (.tmp 18)), 3, none⟩,
 ⟨(some 20), (.indexAddr 70 (.tmp 14) (.tmp 15)), 0, none⟩,
 ⟨none, (.store 3 (.tmp 20) (.tmp 19)), 0, none⟩]))
 (.ops [
 ⟨(some 12), (.move (.tmp 4)), 3, none⟩,
 ⟨(some 13), (.binOp .add 3 (.tmp 12) (.const (.int .i64 1)) 3), 3, none⟩,
 ⟨(some 4), (.assign (.tmp 13)), 3, none⟩]))
def k67_l0 : SC := .loop k67_l0b
def k67 : SC :=
 .seq
 (.ops [
 ⟨(some 2), (.assign (.const (.slice none 0 0))), 70, none⟩])
 (.seq
 (.ops [
 ⟨(some 5), (.move (.tmp 0)), 70, none⟩,
 ⟨(some 6), (.call ⟨(.builtin .len), #[(.tmp 5)], #[70]⟩), 3, none⟩,
 ⟨(some 7), (.makeSlice 70 (.tmp 6) (.tmp 6)), 70, none⟩,
 ⟨(some 3), (.assign (.tmp 7)), 70, none⟩])
 (.seq
 (.seq
 (.ops [
 ⟨(some 4), (.assign (.const (.int .i64 0))), 3, none⟩])
 (.block 0
 k67_l0))
 (.seq
 (.ops [
 ⟨(some 21), (.move (.tmp 3)), 70, none⟩,
 ⟨(some 2), (.assign (.tmp 21)), 70, none⟩])
 .ret)))
theorem slim67 : Tryd.f67.body.map (slim lends) = some k67 := by kernel_rfl
theorem ok67 : fnOk Tryd.f67 1 = true := by kernel_rfl
theorem c67 {a l : List D} {r : D × List D} (h : wpD Y.env k67 (fin tys l.length [ResultVar.tmp 2] r) (entry a l)) (ha : a.length = 1) : Y.call 67 a l = some r :=
 call_slim (Y := Y) rfl Tryd.func67 (ha ▸ ok67) slim67 h
def l_toIntS_l0_M (a : List Int) (out : List Int) (i : Int) (s : St) : Prop := s.v 0 = D.sl 3 (lst (D.int .i64) a) ∧ s.v 3 = D.own 3 (lst (D.int .i64) out) ∧ s.v 4 = D.int .i64 i
def l_toIntS_l0_X (a : List Int) (r : (List Int)) (ex : Ex) (s : St) : Prop := ex = .exit 0 ∧ s.v 3 = D.own 3 (lst (D.int .i64) r)
theorem l_toIntS_l0_wp (a : List Int) {v : (List Int) × Int} {s : St} {r : (List Int)} (h : l_toIntS_l0 a v = some r) (hM : l_toIntS_l0_M a v.1 v.2 s) : wpD Y.env k67_l0 (l_toIntS_l0_X a r) s := by
 unfold l_toIntS_l0 at h
 refine wd_itO (c := k67_l0b) (fun v => l_toIntS_l0_S a v.1 v.2) (fun v s => l_toIntS_l0_M a v.1 v.2 s) (l_toIntS_l0_X a) ?_ h hM
 clear h hM s v r
 intro v s o hM h
 obtain ⟨out, i⟩ := v
 dsimp only at h hM
 unfold l_toIntS_l0_S at h
 unfold l_toIntS_l0_M at hM
 obtain ⟨m0, m1, m2⟩ := hM
 unfold k67_l0b
 by_cases e2 : i < (a.length : Int)
 ·rw [if_pos e2] at h
  obtain ⟨e3, h⟩ := ckS h
  obtain ⟨e4, h⟩ := ckS h
  obtain rfl := Option.some.inj h
  simp (maxDischargeDepth := 9) only [↓xpre, xpost, xlst, xc2, xcore, yset, rg0, ↓reduceIte, Nat.reduceEqDiff, Nat.reduceLT, Nat.reduceLeDiff, Nat.reduceAdd, Nat.reduceMul, Nat.reduceMod, Nat.reduceDiv, Nat.reducePow, Nat.reduceSub, Nat.reduceBEq, Int.reduceLE, Int.reduceLT, Int.reduceEq, Int.reduceSub, Int.reduceAdd, Int.reduceToNat, Int.reduceNeg, m0, m1, m2, e2, e3.1, e3.2, e4.1, e4.2, l_toIntS_l0_M, l_toIntS_l0_X, sxN, sxE, sxR] <;> (repeat' apply And.intro) <;> first | rfl | exact ⟨_, rfl⟩ | exact ⟨_, _, rfl⟩ | simp [lst, cat2_nil]
 ·rw [if_neg e2] at h
  obtain rfl := Option.some.inj h
  simp (maxDischargeDepth := 9) only [↓xpre, xpost, xlst, xc2, xcore, yset, rg0, ↓reduceIte, Nat.reduceEqDiff, Nat.reduceLT, Nat.reduceLeDiff, Nat.reduceAdd, Nat.reduceMul, Nat.reduceMod, Nat.reduceDiv, Nat.reducePow, Nat.reduceSub, Nat.reduceBEq, Int.reduceLE, Int.reduceLT, Int.reduceEq, Int.reduceSub, Int.reduceAdd, Int.reduceToNat, Int.reduceNeg, m0, m1, m2, e2, l_toIntS_l0_M, l_toIntS_l0_X, sxN, sxE, sxR] <;> (repeat' apply And.intro) <;> first | rfl | exact ⟨_, rfl⟩ | exact ⟨_, _, rfl⟩ | simp [lst, cat2_nil]
theorem l_toIntS_call (a : List Int) {r : (List Int)} (h : l_toIntS a = some r) : Y.call 67 [D.sl 3 (lst (D.int .i64) a)] [] = some (D.own 3 (lst (D.int .i64) r), []) := by
 refine c67 ?_ rfl
 unfold k67
 unfold l_toIntS at h
 obtain ⟨e1, h⟩ := ckS h
 obtain ⟨r1000_, hl3, h⟩ := bindS h
 try dsimp only at h
 simp (maxDischargeDepth := 9) only [↓xpre, xpost, xlst, xc2, xcore, yset, rg0, ↓reduceIte, Nat.reduceEqDiff, Nat.reduceLT, Nat.reduceLeDiff, Nat.reduceAdd, Nat.reduceMul, Nat.reduceMod, Nat.reduceDiv, Nat.reducePow, Nat.reduceSub, Nat.reduceBEq, Int.reduceLE, Int.reduceLT, Int.reduceEq, Int.reduceSub, Int.reduceAdd, Int.reduceToNat, Int.reduceNeg, e1.1, e1.2]
 refine wd_mono (l_toIntS_l0_wp a hl3 ?_) ?_
 ·simp (maxDischargeDepth := 9) only [↓xpre, xpost, xlst, xc2, xcore, yset, rg0, ↓reduceIte, Nat.reduceEqDiff, Nat.reduceLT, Nat.reduceLeDiff, Nat.reduceAdd, Nat.reduceMul, Nat.reduceMod, Nat.reduceDiv, Nat.reducePow, Nat.reduceSub, Nat.reduceBEq, Int.reduceLE, Int.reduceLT, Int.reduceEq, Int.reduceSub, Int.reduceAdd, Int.reduceToNat, Int.reduceNeg, e1.1, e1.2, l_toIntS_l0_M] <;> (repeat' apply And.intro) <;> first | rfl | exact ⟨_, rfl⟩ | exact ⟨_, _, rfl⟩ | simp [lst, cat2_nil]
 ·intro ex3 s3 hX3
  unfold l_toIntS_l0_X at hX3
  obtain ⟨rfl, n3_0⟩ := hX3
  obtain rfl := Option.some.inj h
  simp (maxDischargeDepth := 9) only [↓xpre, xpost, xlst, xc2, xcore, yset, rg0, ↓reduceIte, Nat.reduceEqDiff, Nat.reduceLT, Nat.reduceLeDiff, Nat.reduceAdd, Nat.reduceMul, Nat.reduceMod, Nat.reduceDiv, Nat.reducePow, Nat.reduceSub, Nat.reduceBEq, Int.reduceLE, Int.reduceLT, Int.reduceEq, Int.reduceSub, Int.reduceAdd, Int.reduceToNat, Int.reduceNeg, e1.1, e1.2, n3_0] <;> (repeat' apply And.intro) <;> first | rfl | exact ⟨_, rfl⟩ | exact ⟨_, _, rfl⟩ | simp [lst, cat2_nil]

theorem l_toIntS_eq (a : List Int) (h : a.length < 1099511627776) : l_toIntS a = some a := by
 have key := itO_for (fun v => l_toIntS_l0_S a v.1 v.2) (fun i => (a.take i ++ List.replicate (a.length - i) 0, (i : Int))) a.length a ?_ ?_
 ·unfold l_toIntS l_toIntS_l0
  rw [ckT (by omega)]
  simp only [List.take_zero, List.nil_append, Nat.sub_zero, Int.natCast_zero] at key
  rw [key]; rfl
 ·intro i hi
  simp only [l_toIntS_l0_S]
  rw [if_pos (lt_nat hi), ckT (ix_nat hi), ckT (ix_nat (by simp; omega)), getD_nat _ _ hi, Int.toNat_natCast, set_mid a i hi 0, wrS i (by omega)]
 ·simp only [l_toIntS_l0_S]
  rw [if_neg (not_lt_nat _)]; simp
theorem l_toIntS_cl (a : List Int) (h0 : a.length < 1099511627776) : Y.call 67 [D.sl 3 (lst (D.int .i64) a)] [] = some (D.own 3 (lst (D.int .i64) a), []) := l_toIntS_call a (l_toIntS_eq a h0)
noncomputable def l_toIntSS_l0_S (a : List (List Int)) (out : List (List Int)) (i : Int) : Option (((List (List Int)) × Int) ⊕ ((List (List Int)))) :=
 if i < (a.length : Int) then
  ck (0 ≤ i ∧ i.toNat < a.length) <|
  ck ((a.getD i.toNat default).length < 1099511627776) <|
  ck (0 ≤ i ∧ i.toNat < out.length) <|
  some (Sum.inl ((out.set i.toNat (a.getD i.toNat default)), IntKind.i64.wrap (i + 1)))
 else
  some (Sum.inr out)
noncomputable def l_toIntSS_l0 (a : List (List Int)) (v : (List (List Int)) × Int) : Option ((List (List Int))) := itO (fun v => l_toIntSS_l0_S a v.1 v.2) v
noncomputable def l_toIntSS (a : List (List Int)) : Option ((List (List Int))) :=
 ck (0 ≤ (a.length : Int) ∧ (a.length : Int) < 1099511627776) <|
 (l_toIntSS_l0 a ((List.replicate a.length ([] : List Int)), 0)).bind fun r1000_ =>
 some r1000_
/-- laws.toIntSS -/
def k42_l0b : SC :=
 .seq
 (.seq
 (.ops [
 ⟨(some 8), (.move (.tmp 4)), 3, none⟩,
 ⟨(some 9), (.move (.tmp 0)), 34, none⟩,
 ⟨(some 10), (.call ⟨(.builtin .len), #[(.tmp 9)], #[34]⟩), 3, none⟩,
 ⟨(some 11), (.binOp .lss 3 (.tmp 8) (.tmp 10) 3), 4, none⟩])
 (.cond (.tmp 11)
 .skip
 (.exit 0)))
 (.seq
 (.block 1
 (.ops [
 ⟨(some 14), (.move (.tmp 3)), 34, none⟩,
 ⟨(some 15), (.move (.tmp 4)), 3, none⟩,
 ⟨(some 16), (.move (.tmp 0)), 34, none⟩,
 ⟨(some 17), (.move (.tmp 4)), 3, none⟩,
 ⟨(some 18), (.indexAddr 34 (.tmp 16) (.tmp 17)), 0, none⟩,
 ⟨(some 19), (.load 70 (.tmp 18)), 70, none⟩,
 ⟨(some 20), (.call ⟨(.value (.func 67)), #[(.tmp 19)], #[70]⟩), 70, none⟩,
 ⟨(some 21), (.indexAddr 34 (.tmp 14) (.tmp 15)), 0, none⟩,
 ⟨none, (.store 70 (.tmp 21) (.tmp 20)), 0, none⟩]))
 (.ops [
 ⟨(some 12), (.move (.tmp 4)), 3, none⟩,
 ⟨(some 13), (.binOp .add 3 (.tmp 12) (.const (.int .i64 1)) 3), 3, none⟩,
 ⟨(some 4), (.assign (.tmp 13)), 3, none⟩]))
def k42_l0 : SC := .loop k42_l0b
def k42 : SC :=
 .seq
 (.ops [
 ⟨(some 2), (.assign (.const (.slice none 0 0))), 34, none⟩])
 (.seq
 (.ops [
 ⟨(some 5), (.move (.tmp 0)), 34, none⟩,
 ⟨(some 6), (.call ⟨(.builtin .len), #[(.tmp 5)], #[34]⟩), 3, none⟩,
 ⟨(some 7), (.makeSlice 34 (.tmp 6) (.tmp 6)), 34, none⟩,
 ⟨(some 3), (.assign (.tmp 7)), 34, none⟩])
 (.seq
 (.seq
 (.ops [
 ⟨(some 4), (.assign (.const (.int .i64 0))), 3, none⟩])
 (.block 0
 k42_l0))
 (.seq
 (.ops [
 ⟨(some 22), (.move (.tmp 3)), 34, none⟩,
 ⟨(some 2), (.assign (.tmp 22)), 34, none⟩])
 .ret)))
theorem slim42 : Tryd.f42.body.map (slim lends) = some k42 := by kernel_rfl
theorem ok42 : fnOk Tryd.f42 1 = true := by kernel_rfl
theorem c42 {a l : List D} {r : D × List D} (h : wpD Y.env k42 (fin tys l.length [ResultVar.tmp 2] r) (entry a l)) (ha : a.length = 1) : Y.call 42 a l = some r :=
 call_slim (Y := Y) rfl Tryd.func42 (ha ▸ ok42) slim42 h
def l_toIntSS_l0_M (a : List (List Int)) (out : List (List Int)) (i : Int) (s : St) : Prop := s.v 0 = D.sl 70 (lst (fun x => D.sl 3 (lst (D.int .i64) x)) a) ∧ s.v 3 = D.own 70 (lst (fun x => D.own 3 (lst (D.int .i64) x)) out) ∧ s.v 4 = D.int .i64 i
def l_toIntSS_l0_X (a : List (List Int)) (r : (List (List Int))) (ex : Ex) (s : St) : Prop := ex = .exit 0 ∧ s.v 3 = D.own 70 (lst (fun x => D.own 3 (lst (D.int .i64) x)) r)
theorem l_toIntSS_l0_wp (a : List (List Int)) {v : (List (List Int)) × Int} {s : St} {r : (List (List Int))} (h : l_toIntSS_l0 a v = some r) (hM : l_toIntSS_l0_M a v.1 v.2 s) : wpD Y.env k42_l0 (l_toIntSS_l0_X a r) s := by
 unfold l_toIntSS_l0 at h
 refine wd_itO (c := k42_l0b) (fun v => l_toIntSS_l0_S a v.1 v.2) (fun v s => l_toIntSS_l0_M a v.1 v.2 s) (l_toIntSS_l0_X a) ?_ h hM
 clear h hM s v r
 intro v s o hM h
 obtain ⟨out, i⟩ := v
 dsimp only at h hM
 unfold l_toIntSS_l0_S at h
 unfold l_toIntSS_l0_M at hM
 obtain ⟨m0, m1, m2⟩ := hM
 unfold k42_l0b
 by_cases e2 : i < (a.length : Int)
 ·rw [if_pos e2] at h
  obtain ⟨e3, h⟩ := ckS h
  obtain ⟨e4, h⟩ := ckS h
  have c5 := l_toIntS_cl (a.getD i.toNat default) e4
  obtain ⟨e6, h⟩ := ckS h
  obtain rfl := Option.some.inj h
  simp (maxDischargeDepth := 9) only [↓xpre, xpost, xlst, xc2, xcore, yset, rg0, ↓reduceIte, Nat.reduceEqDiff, Nat.reduceLT, Nat.reduceLeDiff, Nat.reduceAdd, Nat.reduceMul, Nat.reduceMod, Nat.reduceDiv, Nat.reducePow, Nat.reduceSub, Nat.reduceBEq, Int.reduceLE, Int.reduceLT, Int.reduceEq, Int.reduceSub, Int.reduceAdd, Int.reduceToNat, Int.reduceNeg, m0, m1, m2, e2, e3.1, e3.2, e4, c5, e6.1, e6.2, l_toIntSS_l0_M, l_toIntSS_l0_X, sxN, sxE, sxR] <;> (repeat' apply And.intro) <;> first | rfl | exact ⟨_, rfl⟩ | exact ⟨_, _, rfl⟩ | simp [lst, cat2_nil]
 ·rw [if_neg e2] at h
  obtain rfl := Option.some.inj h
  simp (maxDischargeDepth := 9) only [↓xpre, xpost, xlst, xc2, xcore, yset, rg0, ↓reduceIte, Nat.reduceEqDiff, Nat.reduceLT, Nat.reduceLeDiff, Nat.reduceAdd, Nat.reduceMul, Nat.reduceMod, Nat.reduceDiv, Nat.reducePow, Nat.reduceSub, Nat.reduceBEq, Int.reduceLE, Int.reduceLT, Int.reduceEq, Int.reduceSub, Int.reduceAdd, Int.reduceToNat, Int.reduceNeg, m0, m1, m2, e2, l_toIntSS_l0_M, l_toIntSS_l0_X, sxN, sxE, sxR] <;> (repeat' apply And.intro) <;> first | rfl | exact ⟨_, rfl⟩ | exact ⟨_, _, rfl⟩ | simp [lst, cat2_nil]
theorem l_toIntSS_call (a : List (List Int)) {r : (List (List Int))} (h : l_toIntSS a = some r) : Y.call 42 [D.sl 70 (lst (fun x => D.sl 3 (lst (D.int .i64) x)) a)] [] = some (D.own 70 (lst (fun x => D.own 3 (lst (D.int .i64) x)) r), []) := by
 refine c42 ?_ rfl
 unfold k42
 unfold l_toIntSS at h
 obtain ⟨e1, h⟩ := ckS h
 obtain ⟨r1000_, hl3, h⟩ := bindS h
 try dsimp only at h
 simp (maxDischargeDepth := 9) only [↓xpre, xpost, xlst, xc2, xcore, yset, rg0, ↓reduceIte, Nat.reduceEqDiff, Nat.reduceLT, Nat.reduceLeDiff, Nat.reduceAdd, Nat.reduceMul, Nat.reduceMod, Nat.reduceDiv, Nat.reducePow, Nat.reduceSub, Nat.reduceBEq, Int.reduceLE, Int.reduceLT, Int.reduceEq, Int.reduceSub, Int.reduceAdd, Int.reduceToNat, Int.reduceNeg, e1.1, e1.2]
 refine wd_mono (l_toIntSS_l0_wp a hl3 ?_) ?_
 ·simp (maxDischargeDepth := 9) only [↓xpre, xpost, xlst, xc2, xcore, yset, rg0, ↓reduceIte, Nat.reduceEqDiff, Nat.reduceLT, Nat.reduceLeDiff, Nat.reduceAdd, Nat.reduceMul, Nat.reduceMod, Nat.reduceDiv, Nat.reducePow, Nat.reduceSub, Nat.reduceBEq, Int.reduceLE, Int.reduceLT, Int.reduceEq, Int.reduceSub, Int.reduceAdd, Int.reduceToNat, Int.reduceNeg, e1.1, e1.2, l_toIntSS_l0_M] <;> (repeat' apply And.intro) <;> first | rfl | exact ⟨_, rfl⟩ | exact ⟨_, _, rfl⟩ | simp [lst, cat2_nil]
 ·intro ex3 s3 hX3
  unfold l_toIntSS_l0_X at hX3
  obtain ⟨rfl, n3_0⟩ := hX3
  obtain rfl := Option.some.inj h
  simp (maxDischargeDepth := 9) only [↓xpre, xpost, xlst, xc2, xcore, yset, rg0, ↓reduceIte, Nat.reduceEqDiff, Nat.reduceLT, Nat.reduceLeDiff, Nat.reduceAdd, Nat.reduceMul, Nat.reduceMod, Nat.reduceDiv, Nat.reducePow, Nat.reduceSub, Nat.reduceBEq, Int.reduceLE, Int.reduceLT, Int.reduceEq, Int.reduceSub, Int.reduceAdd, Int.reduceToNat, Int.reduceNeg, e1.1, e1.2, n3_0] <;> (repeat' apply And.intro) <;> first | rfl | exact ⟨_, rfl⟩ | exact ⟨_, _, rfl⟩ | simp [lst, cat2_nil]

theorem l_toIntSS_eq (a : List (List Int)) (h : Short a) : l_toIntSS a = some a := by
 have h1 := h.1
 have key := itO_for (fun v => l_toIntSS_l0_S a v.1 v.2) (fun i => (a.take i ++ List.replicate (a.length - i) [], (i : Int))) a.length a ?_ ?_
 ·unfold l_toIntSS l_toIntSS_l0
  rw [ckT (by omega)]
  simp only [List.take_zero, List.nil_append, Nat.sub_zero, Int.natCast_zero] at key
  rw [key]; rfl
 ·intro i hi
  simp only [l_toIntSS_l0_S]
  rw [if_pos (lt_nat hi), ckT (ix_nat hi), ckT (by rw [getD_nat _ _ hi]; exact h.at i hi), ckT (ix_nat (by simp; omega)), getD_nat _ _ hi, Int.toNat_natCast, set_mid a i hi [], wrS i (by omega)]
 ·simp only [l_toIntSS_l0_S]
  rw [if_neg (not_lt_nat _)]; simp
theorem l_toIntSS_cl (a : List (List Int)) (h0 : Short a) : Y.call 42 [D.sl 70 (lst (fun x => D.sl 3 (lst (D.int .i64) x)) a)] [] = some (D.own 70 (lst (fun x => D.own 3 (lst (D.int .i64) x)) a), []) := l_toIntSS_call a (l_toIntSS_eq a h0)
noncomputable def l_eqIntS_l0_S (a : List Int) (b : List Int) (i : Int) : Option ((Int) ⊕ (Unit ⊕ Unit)) :=
 if i < (a.length : Int) then
  ck (0 ≤ i ∧ i.toNat < a.length) <|
  ck (0 ≤ i ∧ i.toNat < b.length) <|
  if (a.getD i.toNat default) = (b.getD i.toNat default) then
   some (Sum.inl (IntKind.i64.wrap (i + 1)))
  else
   some (Sum.inr (Sum.inl ()))
 else
  some (Sum.inr (Sum.inr ()))
noncomputable def l_eqIntS_l0 (a : List Int) (b : List Int) (v : Int) : Option (Unit ⊕ Unit) := itO (fun v => l_eqIntS_l0_S a b v) v
noncomputable def l_eqIntS (a : List Int) (b : List Int) : Option (Bool) :=
 if (a.length : Int) = (b.length : Int) then
  (l_eqIntS_l0 a b 0).bind fun r1000_ =>
  match r1000_ with
  | .inl q1000_ =>
   some false
  | .inr q1000_ =>
   some true
 else
  some false
/-- laws.eqIntS -/
def k70_l0b : SC :=
 .seq
 (.seq
 (.ops [
 ⟨(some 11), (.move (.tmp 5)), 3, none⟩,
 ⟨(some 12), (.move (.tmp 0)), 70, none⟩,
 ⟨(some 13), (.call ⟨(.builtin .len), #[(.tmp 12)], #[70]⟩), 3, none⟩,
 ⟨(some 14), (.binOp .lss 3 (.tmp 11) (.tmp 13) 3), 4, none⟩])
 (.cond (.tmp 14)
 .skip
 (.exit 0)))
 (.seq
 (.block 1
 (.seq
 (.draws [
 (⟨[17, 0, 0], [17, 18, 19, 20, 21, 22, 23, 24, 25], [17]⟩, ⟨(some 17), (.move (.tmp 0)), 70, none⟩),
 (⟨[18, 5, 5], [17, 18, 19, 20, 21, 22, 23, 24, 25], [18]⟩, ⟨(some 18), (.move (.tmp 5)), 3, none⟩),
 (⟨[19, 17, 18, 0, 5], [17, 18, 19, 20, 21, 22, 23, 24, 25], [19]⟩, ⟨(some 19), (.indexAddr 70 (.tmp 17) (.tmp 18)), 0, none⟩),
 (⟨[20, 19, 0], [17, 18, 19, 20, 21, 22, 23, 24, 25], [20]⟩, ⟨(some 20), (.load 3 (.tmp 19)), 3, none⟩),
 (⟨[21, 1, 1], [17, 18, 19, 20, 21, 22, 23, 24, 25], [21]⟩, ⟨(some 21), (.move (.tmp 1)), 70, none⟩),
 (⟨[22, 5, 5], [17, 18, 19, 20, 21, 22, 23, 24, 25], [22]⟩, ⟨(some 22), (.move (.tmp 5)), 3, none⟩),
 (⟨[23, 21, 22, 1, 5], [17, 18, 19, 20, 21, 22, 23, 24, 25], [23]⟩, ⟨(some 23), (.indexAddr 70 (.tmp 21) (.tmp 22)), 0, none⟩),
 (⟨[24, 23, 1], [17, 18, 19, 20, 21, 22, 23, 24, 25], [24]⟩, ⟨(some 24), (.load 3 (.tmp 23)), 3, none⟩),
 (⟨[25, 20, 24, 0, 1], [17, 18, 19, 20, 21, 22, 23, 24, 25], [25]⟩, ⟨(some 25), (.binOp .neq 3 (.tmp 20) (.tmp 24) 3), 4, none⟩)])
 (.cond (.tmp 25)
 (.seq
 (.ops [
 ⟨(some 4), (.assign (.const (.bool false))), 4, none⟩])
 .ret)
 .skip)))
 (.ops [
 ⟨(some 15), (.move (.tmp 5)), 3, none⟩,
 ⟨(some 16), (.binOp .add 3 (.tmp 15) (.const (.int .i64 1)) 3), 3, none⟩,
 ⟨(some 5), (.assign (.tmp 16)), 3, none⟩]))
def k70_l0 : SC := .loop k70_l0b
def k70 : SC :=
 .seq
 (.ops [
 ⟨(some 4), (.assign (.const (.bool false))), 4, none⟩])
 (.seq
 (.seq
 (.ops [
 ⟨(some 6), (.move (.tmp 0)), 70, none⟩,
 ⟨(some 7), (.call ⟨(.builtin .len), #[(.tmp 6)], #[70]⟩), 3, none⟩,
 ⟨(some 8), (.move (.tmp 1)), 70, none⟩,
 ⟨(some 9), (.call ⟨(.builtin .len), #[(.tmp 8)], #[70]⟩), 3, none⟩,
 ⟨(some 10), (.binOp .neq 3 (.tmp 7) (.tmp 9) 3), 4, none⟩])
 (.cond (.tmp 10)
 (.seq
 (.ops [
 ⟨(some 4), (.assign (.const (.bool false))), 4, none⟩])
 .ret)
 .skip))
 (.seq
 (.seq
 (.ops [
 ⟨(some 5), (.assign (.const (.int .i64 0))), 3, none⟩])
 (.block 0
 k70_l0))
 (.seq
 (.ops [
 ⟨(some 4), (.assign (.const (.bool true))), 4, none⟩])
 .ret)))
theorem slim70 : Tryd.f70.body.map (slim lends) = some k70 := by kernel_rfl
theorem ok70 : fnOk Tryd.f70 2 = true := by kernel_rfl
theorem c70 {a l : List D} {r : D × List D} (h : wpD Y.env k70 (fin tys l.length [ResultVar.tmp 4] r) (entry a l)) (ha : a.length = 2) : Y.call 70 a l = some r :=
 call_slim (Y := Y) rfl Tryd.func70 (ha ▸ ok70) slim70 h
def l_eqIntS_l0_M (a : List Int) (b : List Int) (i : Int) (s : St) : Prop := s.v 0 = D.sl 3 (lst (D.int .i64) a) ∧ s.v 1 = D.sl 3 (lst (D.int .i64) b) ∧ s.v 5 = D.int .i64 i
def l_eqIntS_l0_X (a : List Int) (b : List Int) (r : Unit ⊕ Unit) (ex : Ex) (s : St) : Prop := match r with
 | .inl q => ex = .ret ∧ s.v 4 = D.bool false
 | .inr q => ex = .exit 0
theorem l_eqIntS_l0_wp (a : List Int) (b : List Int) {v : Int} {s : St} {r : Unit ⊕ Unit} (h : l_eqIntS_l0 a b v = some r) (hM : l_eqIntS_l0_M a b v s) : wpD Y.env k70_l0 (l_eqIntS_l0_X a b r) s := by
 unfold l_eqIntS_l0 at h
 refine wd_itO (c := k70_l0b) (fun v => l_eqIntS_l0_S a b v) (fun v s => l_eqIntS_l0_M a b v s) (l_eqIntS_l0_X a b) ?_ h hM
 clear h hM s v r
 intro i s o hM h
 unfold l_eqIntS_l0_S at h
 unfold l_eqIntS_l0_M at hM
 obtain ⟨m0, m1, m2⟩ := hM
 unfold k70_l0b
 by_cases e2 : i < (a.length : Int)
 ·rw [if_pos e2] at h
  obtain ⟨e3, h⟩ := ckS h
  obtain ⟨e4, h⟩ := ckS h
  by_cases e5 : (a.getD i.toNat default) = (b.getD i.toNat default)
  ·rw [if_pos e5] at h
   obtain rfl := Option.some.inj h
   simp (maxDischargeDepth := 9) only [↓xpre, xpost, xlst, xc2, xcore, yset, rg0, ↓reduceIte, Nat.reduceEqDiff, Nat.reduceLT, Nat.reduceLeDiff, Nat.reduceAdd, Nat.reduceMul, Nat.reduceMod, Nat.reduceDiv, Nat.reducePow, Nat.reduceSub, Nat.reduceBEq, Int.reduceLE, Int.reduceLT, Int.reduceEq, Int.reduceSub, Int.reduceAdd, Int.reduceToNat, Int.reduceNeg, m0, m1, m2, e2, e3.1, e3.2, e4.1, e4.2, decide_eq_true e5, l_eqIntS_l0_M, l_eqIntS_l0_X, sxN, sxE, sxR] <;> (repeat' apply And.intro) <;> first | rfl | exact ⟨_, rfl⟩ | exact ⟨_, _, rfl⟩ | simp [lst, cat2_nil]
  ·rw [if_neg e5] at h
   obtain rfl := Option.some.inj h
   simp (maxDischargeDepth := 9) only [↓xpre, xpost, xlst, xc2, xcore, yset, rg0, ↓reduceIte, Nat.reduceEqDiff, Nat.reduceLT, Nat.reduceLeDiff, Nat.reduceAdd, Nat.reduceMul, Nat.reduceMod, Nat.reduceDiv, Nat.reducePow, Nat.reduceSub, Nat.reduceBEq, Int.reduceLE, Int.reduceLT, Int.reduceEq, Int.reduceSub, Int.reduceAdd, Int.reduceToNat, Int.reduceNeg, m0, m1, m2, e2, e3.1, e3.2, e4.1, e4.2, e5, l_eqIntS_l0_M, l_eqIntS_l0_X, sxN, sxE, sxR] <;> (repeat' apply And.intro) <;> first | rfl | exact ⟨_, rfl⟩ | exact ⟨_, _, rfl⟩ | simp [lst, cat2_nil]
 ·rw [if_neg e2] at h
  obtain rfl := Option.some.inj h
  simp (maxDischargeDepth := 9) only [↓xpre, xpost, xlst, xc2, xcore, yset, rg0, ↓reduceIte, Nat.reduceEqDiff, Nat.reduceLT, Nat.reduceLeDiff, Nat.reduceAdd, Nat.reduceMul, Nat.reduceMod, Nat.reduceDiv, Nat.reducePow, Nat.reduceSub, Nat.reduceBEq, Int.reduceLE, Int.reduceLT, Int.reduceEq, Int.reduceSub, Int.reduceAdd, Int.reduceToNat, Int.reduceNeg, m0, m1, m2, e2, l_eqIntS_l0_M, l_eqIntS_l0_X, sxN, sxE, sxR] <;> (repeat' apply And.intro) <;> first | rfl | exact ⟨_, rfl⟩ | exact ⟨_, _, rfl⟩ | simp [lst, cat2_nil]
theorem l_eqIntS_call (a : List Int) (b : List Int) {r : Bool} (h : l_eqIntS a b = some r) : Y.call 70 [D.sl 3 (lst (D.int .i64) a), D.sl 3 (lst (D.int .i64) b)] [] = some (D.bool r, []) := by
 refine c70 ?_ rfl
 unfold k70
 unfold l_eqIntS at h
 by_cases e1 : (a.length : Int) = (b.length : Int)
 ·rw [if_pos e1] at h
  obtain ⟨r1000_, hl3, h⟩ := bindS h
  try dsimp only at h
  simp (maxDischargeDepth := 9) only [↓xpre, xpost, xlst, xc2, xcore, yset, rg0, ↓reduceIte, Nat.reduceEqDiff, Nat.reduceLT, Nat.reduceLeDiff, Nat.reduceAdd, Nat.reduceMul, Nat.reduceMod, Nat.reduceDiv, Nat.reducePow, Nat.reduceSub, Nat.reduceBEq, Int.reduceLE, Int.reduceLT, Int.reduceEq, Int.reduceSub, Int.reduceAdd, Int.reduceToNat, Int.reduceNeg, decide_eq_true e1]
  refine wd_mono (l_eqIntS_l0_wp a b hl3 ?_) ?_
  ·simp (maxDischargeDepth := 9) only [↓xpre, xpost, xlst, xc2, xcore, yset, rg0, ↓reduceIte, Nat.reduceEqDiff, Nat.reduceLT, Nat.reduceLeDiff, Nat.reduceAdd, Nat.reduceMul, Nat.reduceMod, Nat.reduceDiv, Nat.reducePow, Nat.reduceSub, Nat.reduceBEq, Int.reduceLE, Int.reduceLT, Int.reduceEq, Int.reduceSub, Int.reduceAdd, Int.reduceToNat, Int.reduceNeg, decide_eq_true e1, l_eqIntS_l0_M] <;> (repeat' apply And.intro) <;> first | rfl | exact ⟨_, rfl⟩ | exact ⟨_, _, rfl⟩ | simp [lst, cat2_nil]
  ·intro ex3 s3 hX3
   rcases r1000_ with q1000_ | q1000_
   ·unfold l_eqIntS_l0_X at hX3
    dsimp only at hX3 h
    obtain ⟨rfl, n3_0⟩ := hX3
    obtain rfl := Option.some.inj h
    simp (maxDischargeDepth := 9) only [↓xpre, xpost, xlst, xc2, xcore, yset, rg0, ↓reduceIte, Nat.reduceEqDiff, Nat.reduceLT, Nat.reduceLeDiff, Nat.reduceAdd, Nat.reduceMul, Nat.reduceMod, Nat.reduceDiv, Nat.reducePow, Nat.reduceSub, Nat.reduceBEq, Int.reduceLE, Int.reduceLT, Int.reduceEq, Int.reduceSub, Int.reduceAdd, Int.reduceToNat, Int.reduceNeg, decide_eq_true e1, n3_0] <;> (repeat' apply And.intro) <;> first | rfl | exact ⟨_, rfl⟩ | exact ⟨_, _, rfl⟩ | simp [lst, cat2_nil]
   ·unfold l_eqIntS_l0_X at hX3
    dsimp only at hX3 h
    obtain rfl := hX3
    obtain rfl := Option.some.inj h
    simp (maxDischargeDepth := 9) only [↓xpre, xpost, xlst, xc2, xcore, yset, rg0, ↓reduceIte, Nat.reduceEqDiff, Nat.reduceLT, Nat.reduceLeDiff, Nat.reduceAdd, Nat.reduceMul, Nat.reduceMod, Nat.reduceDiv, Nat.reducePow, Nat.reduceSub, Nat.reduceBEq, Int.reduceLE, Int.reduceLT, Int.reduceEq, Int.reduceSub, Int.reduceAdd, Int.reduceToNat, Int.reduceNeg, decide_eq_true e1] <;> (repeat' apply And.intro) <;> first | rfl | exact ⟨_, rfl⟩ | exact ⟨_, _, rfl⟩ | simp [lst, cat2_nil]
 ·rw [if_neg e1] at h
  obtain rfl := Option.some.inj h
  simp (maxDischargeDepth := 9) only [↓xpre, xpost, xlst, xc2, xcore, yset, rg0, ↓reduceIte, Nat.reduceEqDiff, Nat.reduceLT, Nat.reduceLeDiff, Nat.reduceAdd, Nat.reduceMul, Nat.reduceMod, Nat.reduceDiv, Nat.reducePow, Nat.reduceSub, Nat.reduceBEq, Int.reduceLE, Int.reduceLT, Int.reduceEq, Int.reduceSub, Int.reduceAdd, Int.reduceToNat, Int.reduceNeg, e1] <;> (repeat' apply And.intro) <;> first | rfl | exact ⟨_, rfl⟩ | exact ⟨_, _, rfl⟩ | simp [lst, cat2_nil]

theorem l_eqIntS_eq (a b : List Int) (ha : a.length < 1099511627776) : l_eqIntS a b = some (decide (a = b)) := by
 unfold l_eqIntS l_eqIntS_l0
 by_cases hl : a.length = b.length
 ·rw [if_pos (by omega)]
  have key := itO_all (fun v => l_eqIntS_l0_S a b v) (fun i => (i : Int)) a.length (fun i => decide (a.getD i default = b.getD i default)) (.inl ()) (.inr ()) ?_ ?_
  ·simp only [Int.natCast_zero] at key
   rw [key, all_same a b hl]
   by_cases he : a = b <;> simp [he]
  ·intro i hi
   simp only [l_eqIntS_l0_S]
   rw [if_pos (lt_nat hi), ckT (ix_nat hi), ckT (ix_nat (by omega)), Int.toNat_natCast, wrS i (by omega)] <;> simp only [decide_eq_true_eq]
  ·simp only [l_eqIntS_l0_S]
   rw [if_neg (not_lt_nat _)]
 ·rw [if_neg (by omega)]
  have : ¬ a = b := fun e => hl (by rw [e])
  simp [this]
theorem l_eqIntS_cl (a : List Int) (b : List Int) (h0 : a.length < 1099511627776) : Y.call 70 [D.sl 3 (lst (D.int .i64) a), D.sl 3 (lst (D.int .i64) b)] [] = some (D.bool (decide (a = b)), []) := l_eqIntS_call a b (l_eqIntS_eq a b h0)
noncomputable def l_eqIntSS_l0_S (a : List (List Int)) (b : List (List Int)) (i : Int) : Option ((Int) ⊕ (Unit ⊕ Unit)) :=
 if i < (a.length : Int) then
  ck (0 ≤ i ∧ i.toNat < a.length) <|
  ck (0 ≤ i ∧ i.toNat < b.length) <|
  ck ((a.getD i.toNat default).length < 1099511627776) <|
  if (decide ((a.getD i.toNat default) = (b.getD i.toNat default))) = true then
   some (Sum.inl (IntKind.i64.wrap (i + 1)))
  else
   some (Sum.inr (Sum.inl ()))
 else
  some (Sum.inr (Sum.inr ()))
noncomputable def l_eqIntSS_l0 (a : List (List Int)) (b : List (List Int)) (v : Int) : Option (Unit ⊕ Unit) := itO (fun v => l_eqIntSS_l0_S a b v) v
noncomputable def l_eqIntSS (a : List (List Int)) (b : List (List Int)) : Option (Bool) :=
 if (a.length : Int) = (b.length : Int) then
  (l_eqIntSS_l0 a b 0).bind fun r1000_ =>
  match r1000_ with
  | .inl q1000_ =>
   some false
  | .inr q1000_ =>
   some true
 else
  some false
/-- laws.eqIntSS -/
def k45_l0b : SC :=
 .seq
 (.seq
 (.ops [
 ⟨(some 11), (.move (.tmp 5)), 3, none⟩,
 ⟨(some 12), (.move (.tmp 0)), 34, none⟩,
 ⟨(some 13), (.call ⟨(.builtin .len), #[(.tmp 12)], #[34]⟩), 3, none⟩,
 ⟨(some 14), (.binOp .lss 3 (.tmp 11) (.tmp 13) 3), 4, none⟩])
 (.cond (.tmp 14)
 .skip
 (.exit 0)))
 (.seq
 (.block 1
 (.seq
 (.draws [
 (⟨[17, 0, 0], [17, 18, 19, 20, 21, 22, 23, 24, 25, 26], [17]⟩, ⟨(some 17), (.move (.tmp 0)), 34, none⟩),
 (⟨[18, 5, 5], [17, 18, 19, 20, 21, 22, 23, 24, 25, 26], [18]⟩, ⟨(some 18), (.move (.tmp 5)), 3, none⟩),
 (⟨[19, 17, 18, 0, 5], [17, 18, 19, 20, 21, 22, 23, 24, 25, 26], [19]⟩, ⟨(some 19), (.indexAddr 34 (.tmp 17) (.tmp 18)), 0, none⟩),
 (⟨[20, 19, 0], [17, 18, 19, 20, 21, 22, 23, 24, 25, 26], [20]⟩, ⟨(some 20), (.load 70 (.tmp 19)), 70, none⟩),
 (⟨[21, 1, 1], [17, 18, 19, 20, 21, 22, 23, 24, 25, 26], [21]⟩, ⟨(some 21), (.move (.tmp 1)), 34, none⟩),
 (⟨[22, 5, 5], [17, 18, 19, 20, 21, 22, 23, 24, 25, 26], [22]⟩, ⟨(some 22), (.move (.tmp 5)), 3, none⟩),
 (⟨[23, 21, 22, 1, 5], [17, 18, 19, 20, 21, 22, 23, 24, 25, 26], [23]⟩, ⟨(some 23), (.indexAddr 34 (.tmp 21) (.tmp 22)), 0, none⟩),
 (⟨[24, 23, 1], [17, 18, 19, 20, 21, 22, 23, 24, 25, 26], [24]⟩, ⟨(some 24), (.load 70 (.tmp 23)), 70, none⟩),
 (⟨[25, 20, 24, 0, 1], [17, 18, 19, 20, 21, 22, 23, 24, 25, 26], [25]⟩, ⟨(some 25), (.call ⟨(.value (.func 70)), #[(.tmp 20), (.tmp 24)], #[70, 70]⟩), 4, none⟩),
 (⟨[26, 25, 25], [17, 18, 19, 20, 21, 22, 23, 24, 25, 26], [26]⟩, ⟨(some 26), (.unOp .not 4 (.tmp 25)), 4, none⟩)])
 (.cond (.tmp 26)
 (.seq
 (.ops [
 ⟨(some 4), (.assign (.const (.bool false))), 4, none⟩])
 .ret)
 .skip)))
 (.ops [
 ⟨(some 15), (.move (.tmp 5)), 3, none⟩,
 ⟨(some 16), (.binOp .add 3 (.tmp 15) (.const (.int .i64 1)) 3), 3, none⟩,
 ⟨(some 5), (.assign (.tmp 16)), 3, none⟩]))
def k45_l0 : SC := .loop k45_l0b
def k45 : SC :=
 .seq
 (.ops [
 ⟨(some 4), (.assign (.const (.bool false))), 4, none⟩])
 (.seq
 (.seq
 (.ops [
 ⟨(some 6), (.move (.tmp 0)), 34, none⟩,
 ⟨(some 7), (.call ⟨(.builtin .len), #[(.tmp 6)], #[34]⟩), 3, none⟩,
 ⟨(some 8), (.move (.tmp 1)), 34, none⟩,
 ⟨(some 9), (.call ⟨(.builtin .len), #[(.tmp 8)], #[34]⟩), 3, none⟩,
 ⟨(some 10), (.binOp .neq 3 (.tmp 7) (.tmp 9) 3), 4, none⟩])
 (.cond (.tmp 10)
 (.seq
 (.ops [
 ⟨(some 4), (.assign (.const (.bool false))), 4, none⟩])
 .ret)
 .skip))
 (.seq
 (.seq
 (.ops [
 ⟨(some 5), (.assign (.const (.int .i64 0))), 3, none⟩])
 (.block 0
 k45_l0))
 (.seq
 (.ops [
 ⟨(some 4), (.assign (.const (.bool true))), 4, none⟩])
 .ret)))
theorem slim45 : Tryd.f45.body.map (slim lends) = some k45 := by kernel_rfl
theorem ok45 : fnOk Tryd.f45 2 = true := by kernel_rfl
theorem c45 {a l : List D} {r : D × List D} (h : wpD Y.env k45 (fin tys l.length [ResultVar.tmp 4] r) (entry a l)) (ha : a.length = 2) : Y.call 45 a l = some r :=
 call_slim (Y := Y) rfl Tryd.func45 (ha ▸ ok45) slim45 h
def l_eqIntSS_l0_M (a : List (List Int)) (b : List (List Int)) (i : Int) (s : St) : Prop := s.v 0 = D.sl 70 (lst (fun x => D.sl 3 (lst (D.int .i64) x)) a) ∧ s.v 1 = D.sl 70 (lst (fun x => D.sl 3 (lst (D.int .i64) x)) b) ∧ s.v 5 = D.int .i64 i
def l_eqIntSS_l0_X (a : List (List Int)) (b : List (List Int)) (r : Unit ⊕ Unit) (ex : Ex) (s : St) : Prop := match r with
 | .inl q => ex = .ret ∧ s.v 4 = D.bool false
 | .inr q => ex = .exit 0
theorem l_eqIntSS_l0_wp (a : List (List Int)) (b : List (List Int)) {v : Int} {s : St} {r : Unit ⊕ Unit} (h : l_eqIntSS_l0 a b v = some r) (hM : l_eqIntSS_l0_M a b v s) : wpD Y.env k45_l0 (l_eqIntSS_l0_X a b r) s := by
 unfold l_eqIntSS_l0 at h
 refine wd_itO (c := k45_l0b) (fun v => l_eqIntSS_l0_S a b v) (fun v s => l_eqIntSS_l0_M a b v s) (l_eqIntSS_l0_X a b) ?_ h hM
 clear h hM s v r
 intro i s o hM h
 unfold l_eqIntSS_l0_S at h
 unfold l_eqIntSS_l0_M at hM
 obtain ⟨m0, m1, m2⟩ := hM
 unfold k45_l0b
 by_cases e2 : i < (a.length : Int)
 ·rw [if_pos e2] at h
  obtain ⟨e3, h⟩ := ckS h
  obtain ⟨e4, h⟩ := ckS h
  obtain ⟨e5, h⟩ := ckS h
  have c6 := l_eqIntS_cl (a.getD i.toNat default) (b.getD i.toNat default) e5
  by_cases e7 : (decide ((a.getD i.toNat default) = (b.getD i.toNat default))) = true
  ·rw [if_pos e7] at h
   obtain rfl := Option.some.inj h
   simp (maxDischargeDepth := 9) only [↓xpre, xpost, xlst, xc2, xcore, yset, rg0, ↓reduceIte, Nat.reduceEqDiff, Nat.reduceLT, Nat.reduceLeDiff, Nat.reduceAdd, Nat.reduceMul, Nat.reduceMod, Nat.reduceDiv, Nat.reducePow, Nat.reduceSub, Nat.reduceBEq, Int.reduceLE, Int.reduceLT, Int.reduceEq, Int.reduceSub, Int.reduceAdd, Int.reduceToNat, Int.reduceNeg, m0, m1, m2, e2, e3.1, e3.2, e4.1, e4.2, e5, c6, e7, l_eqIntSS_l0_M, l_eqIntSS_l0_X, sxN, sxE, sxR] <;> (repeat' apply And.intro) <;> first | rfl | exact ⟨_, rfl⟩ | exact ⟨_, _, rfl⟩ | simp [lst, cat2_nil]
  ·rw [if_neg e7] at h
   have e7f : (decide ((a.getD i.toNat default) = (b.getD i.toNat default))) = false := Bool.eq_false_iff.mpr e7
   obtain rfl := Option.some.inj h
   simp (maxDischargeDepth := 9) only [↓xpre, xpost, xlst, xc2, xcore, yset, rg0, ↓reduceIte, Nat.reduceEqDiff, Nat.reduceLT, Nat.reduceLeDiff, Nat.reduceAdd, Nat.reduceMul, Nat.reduceMod, Nat.reduceDiv, Nat.reducePow, Nat.reduceSub, Nat.reduceBEq, Int.reduceLE, Int.reduceLT, Int.reduceEq, Int.reduceSub, Int.reduceAdd, Int.reduceToNat, Int.reduceNeg, m0, m1, m2, e2, e3.1, e3.2, e4.1, e4.2, e5, c6, e7f, l_eqIntSS_l0_M, l_eqIntSS_l0_X, sxN, sxE, sxR] <;> (repeat' apply And.intro) <;> first | rfl | exact ⟨_, rfl⟩ | exact ⟨_, _, rfl⟩ | simp [lst, cat2_nil]
 ·rw [if_neg e2] at h
  obtain rfl := Option.some.inj h
  simp (maxDischargeDepth := 9) only [↓xpre, xpost, xlst, xc2, xcore, yset, rg0, ↓reduceIte, Nat.reduceEqDiff, Nat.reduceLT, Nat.reduceLeDiff, Nat.reduceAdd, Nat.reduceMul, Nat.reduceMod, Nat.reduceDiv, Nat.reducePow, Nat.reduceSub, Nat.reduceBEq, Int.reduceLE, Int.reduceLT, Int.reduceEq, Int.reduceSub, Int.reduceAdd, Int.reduceToNat, Int.reduceNeg, m0, m1, m2, e2, l_eqIntSS_l0_M, l_eqIntSS_l0_X, sxN, sxE, sxR] <;> (repeat' apply And.intro) <;> first | rfl | exact ⟨_, rfl⟩ | exact ⟨_, _, rfl⟩ | simp [lst, cat2_nil]
theorem l_eqIntSS_call (a : List (List Int)) (b : List (List Int)) {r : Bool} (h : l_eqIntSS a b = some r) : Y.call 45 [D.sl 70 (lst (fun x => D.sl 3 (lst (D.int .i64) x)) a), D.sl 70 (lst (fun x => D.sl 3 (lst (D.int .i64) x)) b)] [] = some (D.bool r, []) := by
 refine c45 ?_ rfl
 unfold k45
 unfold l_eqIntSS at h
 by_cases e1 : (a.length : Int) = (b.length : Int)
 ·rw [if_pos e1] at h
  obtain ⟨r1000_, hl3, h⟩ := bindS h
  try dsimp only at h
  simp (maxDischargeDepth := 9) only [↓xpre, xpost, xlst, xc2, xcore, yset, rg0, ↓reduceIte, Nat.reduceEqDiff, Nat.reduceLT, Nat.reduceLeDiff, Nat.reduceAdd, Nat.reduceMul, Nat.reduceMod, Nat.reduceDiv, Nat.reducePow, Nat.reduceSub, Nat.reduceBEq, Int.reduceLE, Int.reduceLT, Int.reduceEq, Int.reduceSub, Int.reduceAdd, Int.reduceToNat, Int.reduceNeg, decide_eq_true e1]
  refine wd_mono (l_eqIntSS_l0_wp a b hl3 ?_) ?_
  ·simp (maxDischargeDepth := 9) only [↓xpre, xpost, xlst, xc2, xcore, yset, rg0, ↓reduceIte, Nat.reduceEqDiff, Nat.reduceLT, Nat.reduceLeDiff, Nat.reduceAdd, Nat.reduceMul, Nat.reduceMod, Nat.reduceDiv, Nat.reducePow, Nat.reduceSub, Nat.reduceBEq, Int.reduceLE, Int.reduceLT, Int.reduceEq, Int.reduceSub, Int.reduceAdd, Int.reduceToNat, Int.reduceNeg, decide_eq_true e1, l_eqIntSS_l0_M] <;> (repeat' apply And.intro) <;> first | rfl | exact ⟨_, rfl⟩ | exact ⟨_, _, rfl⟩ | simp [lst, cat2_nil]
  ·intro ex3 s3 hX3
   rcases r1000_ with q1000_ | q1000_
   ·unfold l_eqIntSS_l0_X at hX3
    dsimp only at hX3 h
    obtain ⟨rfl, n3_0⟩ := hX3
    obtain rfl := Option.some.inj h
    simp (maxDischargeDepth := 9) only [↓xpre, xpost, xlst, xc2, xcore, yset, rg0, ↓reduceIte, Nat.reduceEqDiff, Nat.reduceLT, Nat.reduceLeDiff, Nat.reduceAdd, Nat.reduceMul, Nat.reduceMod, Nat.reduceDiv, Nat.reducePow, Nat.reduceSub, Nat.reduceBEq, Int.reduceLE, Int.reduceLT, Int.reduceEq, Int.reduceSub, Int.reduceAdd, Int.reduceToNat, Int.reduceNeg, decide_eq_true e1, n3_0] <;> (repeat' apply And.intro) <;> first | rfl | exact ⟨_, rfl⟩ | exact ⟨_, _, rfl⟩ | simp [lst, cat2_nil]
   ·unfold l_eqIntSS_l0_X at hX3
    dsimp only at hX3 h
    obtain rfl := hX3
    obtain rfl := Option.some.inj h
    simp (maxDischargeDepth := 9) only [↓xpre, xpost, xlst, xc2, xcore, yset, rg0, ↓reduceIte, Nat.reduceEqDiff, Nat.reduceLT, Nat.reduceLeDiff, Nat.reduceAdd, Nat.reduceMul, Nat.reduceMod, Nat.reduceDiv, Nat.reducePow, Nat.reduceSub, Nat.reduceBEq, Int.reduceLE, Int.reduceLT, Int.reduceEq, Int.reduceSub, Int.reduceAdd, Int.reduceToNat, Int.reduceNeg, decide_eq_true e1] <;> (repeat' apply And.intro) <;> first | rfl | exact ⟨_, rfl⟩ | exact ⟨_, _, rfl⟩ | simp [lst, cat2_nil]
 ·rw [if_neg e1] at h
  obtain rfl := Option.some.inj h
  simp (maxDischargeDepth := 9) only [↓xpre, xpost, xlst, xc2, xcore, yset, rg0, ↓reduceIte, Nat.reduceEqDiff, Nat.reduceLT, Nat.reduceLeDiff, Nat.reduceAdd, Nat.reduceMul, Nat.reduceMod, Nat.reduceDiv, Nat.reducePow, Nat.reduceSub, Nat.reduceBEq, Int.reduceLE, Int.reduceLT, Int.reduceEq, Int.reduceSub, Int.reduceAdd, Int.reduceToNat, Int.reduceNeg, e1] <;> (repeat' apply And.intro) <;> first | rfl | exact ⟨_, rfl⟩ | exact ⟨_, _, rfl⟩ | simp [lst, cat2_nil]

theorem l_eqIntSS_eq (a b : List (List Int)) (ha : Short a) : l_eqIntSS a b = some (decide (a = b)) := by
 have h1 := ha.1
 unfold l_eqIntSS l_eqIntSS_l0
 by_cases hl : a.length = b.length
 ·rw [if_pos (by omega)]
  have key := itO_all (fun v => l_eqIntSS_l0_S a b v) (fun i => (i : Int)) a.length (fun i => decide (a.getD i default = b.getD i default)) (.inl ()) (.inr ()) ?_ ?_
  ·simp only [Int.natCast_zero] at key
   rw [key, all_same a b hl]
   by_cases he : a = b <;> simp [he]
  ·intro i hi
   simp only [l_eqIntSS_l0_S]
   rw [if_pos (lt_nat hi), ckT (ix_nat hi), ckT (ix_nat (by omega)), ckT (by rw [getD_nat _ _ hi]; exact ha.at i hi), Int.toNat_natCast, wrS i (by omega)] <;> simp only [decide_eq_true_eq]
  ·simp only [l_eqIntSS_l0_S]
   rw [if_neg (not_lt_nat _)]
 ·rw [if_neg (by omega)]
  have : ¬ a = b := fun e => hl (by rw [e])
  simp [this]
theorem l_eqIntSS_cl (a : List (List Int)) (b : List (List Int)) (h0 : Short a) : Y.call 45 [D.sl 70 (lst (fun x => D.sl 3 (lst (D.int .i64) x)) a), D.sl 70 (lst (fun x => D.sl 3 (lst (D.int .i64) x)) b)] [] = some (D.bool (decide (a = b)), []) := l_eqIntSS_call a b (l_eqIntSS_eq a b h0)
/-- What is left of a number, or -1. -/
def szN (left n : Int) : Int := if left - n < 0 then -1 else left - n
theorem szN_cases (left n : Int) : szN left n = -1 ∨ (szN left n = left - n ∧ 0 ≤ left - n) := by unfold szN; split <;> omega
def tot (l : List (List Int)) : Int := (l.map fun xs => (xs.length : Int)).sum
theorem tot_nil : tot [] = 0 := rfl
theorem tot_cons (x : List Int) (l : List (List Int)) : tot (x :: l) = x.length + tot l := rfl
theorem tot_nonneg (l : List (List Int)) : 0 ≤ tot l := by
 induction l with
 | nil => rw [tot_nil]; omega
 | cons x l ih => rw [tot_cons]; omega
theorem tot_mem {l : List (List Int)} {x : List Int} (h : x ∈ l) : (x.length : Int) ≤ tot l := by
 induction l with
 | nil => cases h
 | cons y l ih =>
  rw [tot_cons]
  have := tot_nonneg l
  rcases List.mem_cons.1 h with rfl | h
  ·omega
  ·have := ih h; omega
theorem tot_short {l : List (List Int)} (h : l.length + tot l < 1099511627776) : Short l := by
 have := tot_nonneg l
 exact ⟨by omega, fun x hx => by have := tot_mem hx; omega⟩
noncomputable def l_szIntS (a : List Int) (left : Int) : Option (Int) :=
 if (IntKind.i64.wrap (left - (a.length : Int))) < 0 then
  some (-1)
 else
  some (IntKind.i64.wrap (left - (a.length : Int)))
/-- laws.szIntS -/
def k64 : SC :=
 .seq
 (.ops [
 ⟨(some 4), (.assign (.const (.int .i64 0))), 3, none⟩])
 (.seq
 (.ops [
 ⟨(some 5), (.move (.tmp 1)), 3, none⟩,
 ⟨(some 6), (.move (.tmp 0)), 70, none⟩,
 ⟨(some 7), (.call ⟨(.builtin .len), #[(.tmp 6)], #[70]⟩), 3, none⟩,
 ⟨(some 8), (.binOp .sub 3 (.tmp 5) (.tmp 7) 3), 3, none⟩,
 ⟨(some 1), (.assign (.tmp 8)), 3, none⟩])
 (.seq
 (.seq
 (.ops [
 ⟨(some 9), (.move (.tmp 1)), 3, none⟩,
 ⟨(some 10), (.binOp .lss 3 (.tmp 9) (.const (.int .i64 0)) 3), 4, none⟩])
 (.cond (.tmp 10)
 (.seq
 (.ops [
 ⟨(some 4), (.assign (.const (.int .i64 (-1)))), 3, none⟩])
 .ret)
 .skip))
 (.seq
 (.ops [
 ⟨(some 11), (.move (.tmp 1)), 3, none⟩,
 ⟨(some 4), (.assign (.tmp 11)), 3, none⟩])
 .ret)))
theorem slim64 : Tryd.f64.body.map (slim lends) = some k64 := by kernel_rfl
theorem ok64 : fnOk Tryd.f64 2 = true := by kernel_rfl
theorem c64 {a l : List D} {r : D × List D} (h : wpD Y.env k64 (fin tys l.length [ResultVar.tmp 4] r) (entry a l)) (ha : a.length = 2) : Y.call 64 a l = some r :=
 call_slim (Y := Y) rfl Tryd.func64 (ha ▸ ok64) slim64 h
theorem l_szIntS_call (a : List Int) (left : Int) {r : Int} (h : l_szIntS a left = some r) : Y.call 64 [D.sl 3 (lst (D.int .i64) a), D.int .i64 left] [] = some (D.int .i64 r, []) := by
 refine c64 ?_ rfl
 unfold k64
 unfold l_szIntS at h
 by_cases e1 : (IntKind.i64.wrap (left - (a.length : Int))) < 0
 ·rw [if_pos e1] at h
  obtain rfl := Option.some.inj h
  simp (maxDischargeDepth := 9) only [↓xpre, xpost, xlst, xc2, xcore, yset, rg0, ↓reduceIte, Nat.reduceEqDiff, Nat.reduceLT, Nat.reduceLeDiff, Nat.reduceAdd, Nat.reduceMul, Nat.reduceMod, Nat.reduceDiv, Nat.reducePow, Nat.reduceSub, Nat.reduceBEq, Int.reduceLE, Int.reduceLT, Int.reduceEq, Int.reduceSub, Int.reduceAdd, Int.reduceToNat, Int.reduceNeg, e1] <;> (repeat' apply And.intro) <;> first | rfl | exact ⟨_, rfl⟩ | exact ⟨_, _, rfl⟩ | simp [lst, cat2_nil]
 ·rw [if_neg e1] at h
  obtain rfl := Option.some.inj h
  simp (maxDischargeDepth := 9) only [↓xpre, xpost, xlst, xc2, xcore, yset, rg0, ↓reduceIte, Nat.reduceEqDiff, Nat.reduceLT, Nat.reduceLeDiff, Nat.reduceAdd, Nat.reduceMul, Nat.reduceMod, Nat.reduceDiv, Nat.reducePow, Nat.reduceSub, Nat.reduceBEq, Int.reduceLE, Int.reduceLT, Int.reduceEq, Int.reduceSub, Int.reduceAdd, Int.reduceToNat, Int.reduceNeg, e1] <;> (repeat' apply And.intro) <;> first | rfl | exact ⟨_, rfl⟩ | exact ⟨_, _, rfl⟩ | simp [lst, cat2_nil]

theorem l_szIntS_eq (a : List Int) (left : Int) (ha : a.length < 9223372036854775808) (hl : 0 ≤ left ∧ left ≤ 1048576) : l_szIntS a left = some (szN left a.length) := by
 unfold l_szIntS szN
 rw [wr64 _ (by omega)]
 split <;> rfl
theorem l_szIntS_cl (a : List Int) (left : Int) (h0 : a.length < 9223372036854775808) (h1 : 0 ≤ left ∧ left ≤ 1048576) : Y.call 64 [D.sl 3 (lst (D.int .i64) a), D.int .i64 left] [] = some (D.int .i64 (szN left a.length), []) := l_szIntS_call a left (l_szIntS_eq a left h0 h1)
noncomputable def l_szIntSS_l0_S (a : List (List Int)) (left1 : Int) (i : Int) : Option ((Int × Int) ⊕ (Unit ⊕ Int)) :=
 if i < (a.length : Int) then
  ck (0 ≤ i ∧ i.toNat < a.length) <|
  ck ((a.getD i.toNat default).length < 9223372036854775808) <|
  ck (0 ≤ left1 ∧ left1 ≤ 1048576) <|
  if (szN left1 (a.getD i.toNat default).length) < 0 then
   some (Sum.inr (Sum.inl ()))
  else
   some (Sum.inl ((szN left1 (a.getD i.toNat default).length), IntKind.i64.wrap (i + 1)))
 else
  some (Sum.inr (Sum.inr left1))
noncomputable def l_szIntSS_l0 (a : List (List Int)) (v : Int × Int) : Option (Unit ⊕ Int) := itO (fun v => l_szIntSS_l0_S a v.1 v.2) v
noncomputable def l_szIntSS (a : List (List Int)) (left : Int) : Option (Int) :=
 if (IntKind.i64.wrap (left - (a.length : Int))) < 0 then
  some (-1)
 else
  (l_szIntSS_l0 a (IntKind.i64.wrap (left - (a.length : Int)), 0)).bind fun r1000_ =>
  match r1000_ with
  | .inl q1000_ =>
   some (-1)
  | .inr q1000_ =>
   some q1000_
/-- laws.szIntSS -/
def k39_l0b : SC :=
 .seq
 (.seq
 (.ops [
 ⟨(some 12), (.move (.tmp 5)), 3, none⟩,
 ⟨(some 13), (.move (.tmp 0)), 34, none⟩,
 ⟨(some 14), (.call ⟨(.builtin .len), #[(.tmp 13)], #[34]⟩), 3, none⟩,
 ⟨(some 15), (.binOp .lss 3 (.tmp 12) (.tmp 14) 3), 4, none⟩])
 (.cond (.tmp 15)
 .skip
 (.exit 0)))
 (.seq
 (.block 1
 (.seq
 (.ops [
 ⟨(some 18), (.move (.tmp 0)), 34, none⟩,
 ⟨(some 19), (.move (.tmp 5)), 3, none⟩,
 ⟨(some 20), (.indexAddr 34 (.tmp 18) (.tmp 19)), 0, none⟩,
 ⟨(some 21), (.load 70 (.tmp 20)), 70, none⟩,
 ⟨(some 22), (.move (.tmp 1)), 3, none⟩,
 ⟨(some 23), (.call ⟨(.value (.func 64)), #[(.tmp 21), (.tmp 22)], #[70, 3]⟩), 3, none⟩,
 ⟨(some 1), (.assign (.tmp 23)), 3, none⟩])
 (.seq
 (.ops [
 ⟨(some 24), (.move (.tmp 1)), 3, none⟩,
 ⟨(some 25), (.binOp .lss 3 (.tmp 24) (.const (.int .i64 0)) 3), 4, none⟩])
 (.cond (.tmp 25)
 (.seq
 (.ops [
 ⟨(some 4), (.assign (.const (.int .i64 (-1)))), 3, none⟩])
 .ret)
 .skip))))
 (.ops [
 ⟨(some 16), (.move (.tmp 5)), 3, none⟩,
 ⟨(some 17), (.binOp .add 3 (.tmp 16) (.const (.int .i64 1)) 3), 3, none⟩,
 ⟨(some 5), (.assign (.tmp 17)), 3, none⟩]))
def k39_l0 : SC := .loop k39_l0b
def k39 : SC :=
 .seq
 (.ops [
 ⟨(some 4), (.assign (.const (.int .i64 0))), 3, none⟩])
 (.seq
 (.ops [
 ⟨(some 6), (.move (.tmp 1)), 3, none⟩,
 ⟨(some 7), (.move (.tmp 0)), 34, none⟩,
 ⟨(some 8), (.call ⟨(.builtin .len), #[(.tmp 7)], #[34]⟩), 3, none⟩,
 ⟨(some 9), (.binOp .sub 3 (.tmp 6) (.tmp 8) 3), 3, none⟩,
 ⟨(some 1), (.assign (.tmp 9)), 3, none⟩])
 (.seq
 (.seq
 (.ops [
 ⟨(some 10), (.move (.tmp 1)), 3, none⟩,
 ⟨(some 11), (.binOp .lss 3 (.tmp 10) (.const (.int .i64 0)) 3), 4, none⟩])
 (.cond (.tmp 11)
 (.seq
 (.ops [
 ⟨(some 4), (.assign (.const (.int .i64 (-1)))), 3, none⟩])
 .ret)
 .skip))
 (.seq
 (.seq
 (.ops [
 ⟨(some 5), (.assign (.const (.int .i64 0))), 3, none⟩])
 (.block 0
 k39_l0))
 (.seq
 (.ops [
 ⟨(some 26), (.move (.tmp 1)), 3, none⟩,
 ⟨(some 4), (.assign (.tmp 26)), 3, none⟩])
 .ret))))
theorem slim39 : Tryd.f39.body.map (slim lends) = some k39 := by kernel_rfl
theorem ok39 : fnOk Tryd.f39 2 = true := by kernel_rfl
theorem c39 {a l : List D} {r : D × List D} (h : wpD Y.env k39 (fin tys l.length [ResultVar.tmp 4] r) (entry a l)) (ha : a.length = 2) : Y.call 39 a l = some r :=
 call_slim (Y := Y) rfl Tryd.func39 (ha ▸ ok39) slim39 h
def l_szIntSS_l0_M (a : List (List Int)) (left1 : Int) (i : Int) (s : St) : Prop := s.v 0 = D.sl 70 (lst (fun x => D.sl 3 (lst (D.int .i64) x)) a) ∧ s.v 1 = D.int .i64 left1 ∧ s.v 5 = D.int .i64 i
def l_szIntSS_l0_X (a : List (List Int)) (r : Unit ⊕ Int) (ex : Ex) (s : St) : Prop := match r with
 | .inl q => ex = .ret ∧ s.v 4 = D.int .i64 (-1)
 | .inr q => ex = .exit 0 ∧ s.v 1 = D.int .i64 q
theorem l_szIntSS_l0_wp (a : List (List Int)) {v : Int × Int} {s : St} {r : Unit ⊕ Int} (h : l_szIntSS_l0 a v = some r) (hM : l_szIntSS_l0_M a v.1 v.2 s) : wpD Y.env k39_l0 (l_szIntSS_l0_X a r) s := by
 unfold l_szIntSS_l0 at h
 refine wd_itO (c := k39_l0b) (fun v => l_szIntSS_l0_S a v.1 v.2) (fun v s => l_szIntSS_l0_M a v.1 v.2 s) (l_szIntSS_l0_X a) ?_ h hM
 clear h hM s v r
 intro v s o hM h
 obtain ⟨left1, i⟩ := v
 dsimp only at h hM
 unfold l_szIntSS_l0_S at h
 unfold l_szIntSS_l0_M at hM
 obtain ⟨m0, m1, m2⟩ := hM
 unfold k39_l0b
 by_cases e2 : i < (a.length : Int)
 ·rw [if_pos e2] at h
  obtain ⟨e3, h⟩ := ckS h
  obtain ⟨e4, h⟩ := ckS h
  obtain ⟨e5, h⟩ := ckS h
  have c6 := l_szIntS_cl (a.getD i.toNat default) left1 e4 e5
  by_cases e7 : (szN left1 (a.getD i.toNat default).length) < 0
  ·rw [if_pos e7] at h
   obtain rfl := Option.some.inj h
   simp (maxDischargeDepth := 9) only [↓xpre, xpost, xlst, xc2, xcore, yset, rg0, ↓reduceIte, Nat.reduceEqDiff, Nat.reduceLT, Nat.reduceLeDiff, Nat.reduceAdd, Nat.reduceMul, Nat.reduceMod, Nat.reduceDiv, Nat.reducePow, Nat.reduceSub, Nat.reduceBEq, Int.reduceLE, Int.reduceLT, Int.reduceEq, Int.reduceSub, Int.reduceAdd, Int.reduceToNat, Int.reduceNeg, m0, m1, m2, e2, e3.1, e3.2, e4, e5.1, e5.2, c6, e7, l_szIntSS_l0_M, l_szIntSS_l0_X, sxN, sxE, sxR] <;> (repeat' apply And.intro) <;> first | rfl | exact ⟨_, rfl⟩ | exact ⟨_, _, rfl⟩ | simp [lst, cat2_nil]
  ·rw [if_neg e7] at h
   obtain rfl := Option.some.inj h
   simp (maxDischargeDepth := 9) only [↓xpre, xpost, xlst, xc2, xcore, yset, rg0, ↓reduceIte, Nat.reduceEqDiff, Nat.reduceLT, Nat.reduceLeDiff, Nat.reduceAdd, Nat.reduceMul, Nat.reduceMod, Nat.reduceDiv, Nat.reducePow, Nat.reduceSub, Nat.reduceBEq, Int.reduceLE, Int.reduceLT, Int.reduceEq, Int.reduceSub, Int.reduceAdd, Int.reduceToNat, Int.reduceNeg, m0, m1, m2, e2, e3.1, e3.2, e4, e5.1, e5.2, c6, e7, l_szIntSS_l0_M, l_szIntSS_l0_X, sxN, sxE, sxR] <;> (repeat' apply And.intro) <;> first | rfl | exact ⟨_, rfl⟩ | exact ⟨_, _, rfl⟩ | simp [lst, cat2_nil]
 ·rw [if_neg e2] at h
  obtain rfl := Option.some.inj h
  simp (maxDischargeDepth := 9) only [↓xpre, xpost, xlst, xc2, xcore, yset, rg0, ↓reduceIte, Nat.reduceEqDiff, Nat.reduceLT, Nat.reduceLeDiff, Nat.reduceAdd, Nat.reduceMul, Nat.reduceMod, Nat.reduceDiv, Nat.reducePow, Nat.reduceSub, Nat.reduceBEq, Int.reduceLE, Int.reduceLT, Int.reduceEq, Int.reduceSub, Int.reduceAdd, Int.reduceToNat, Int.reduceNeg, m0, m1, m2, e2, l_szIntSS_l0_M, l_szIntSS_l0_X, sxN, sxE, sxR] <;> (repeat' apply And.intro) <;> first | rfl | exact ⟨_, rfl⟩ | exact ⟨_, _, rfl⟩ | simp [lst, cat2_nil]
theorem l_szIntSS_call (a : List (List Int)) (left : Int) {r : Int} (h : l_szIntSS a left = some r) : Y.call 39 [D.sl 70 (lst (fun x => D.sl 3 (lst (D.int .i64) x)) a), D.int .i64 left] [] = some (D.int .i64 r, []) := by
 refine c39 ?_ rfl
 unfold k39
 unfold l_szIntSS at h
 by_cases e1 : (IntKind.i64.wrap (left - (a.length : Int))) < 0
 ·rw [if_pos e1] at h
  obtain rfl := Option.some.inj h
  simp (maxDischargeDepth := 9) only [↓xpre, xpost, xlst, xc2, xcore, yset, rg0, ↓reduceIte, Nat.reduceEqDiff, Nat.reduceLT, Nat.reduceLeDiff, Nat.reduceAdd, Nat.reduceMul, Nat.reduceMod, Nat.reduceDiv, Nat.reducePow, Nat.reduceSub, Nat.reduceBEq, Int.reduceLE, Int.reduceLT, Int.reduceEq, Int.reduceSub, Int.reduceAdd, Int.reduceToNat, Int.reduceNeg, e1] <;> (repeat' apply And.intro) <;> first | rfl | exact ⟨_, rfl⟩ | exact ⟨_, _, rfl⟩ | simp [lst, cat2_nil]
 ·rw [if_neg e1] at h
  obtain ⟨r1000_, hl3, h⟩ := bindS h
  try dsimp only at h
  simp (maxDischargeDepth := 9) only [↓xpre, xpost, xlst, xc2, xcore, yset, rg0, ↓reduceIte, Nat.reduceEqDiff, Nat.reduceLT, Nat.reduceLeDiff, Nat.reduceAdd, Nat.reduceMul, Nat.reduceMod, Nat.reduceDiv, Nat.reducePow, Nat.reduceSub, Nat.reduceBEq, Int.reduceLE, Int.reduceLT, Int.reduceEq, Int.reduceSub, Int.reduceAdd, Int.reduceToNat, Int.reduceNeg, e1]
  refine wd_mono (l_szIntSS_l0_wp a hl3 ?_) ?_
  ·simp (maxDischargeDepth := 9) only [↓xpre, xpost, xlst, xc2, xcore, yset, rg0, ↓reduceIte, Nat.reduceEqDiff, Nat.reduceLT, Nat.reduceLeDiff, Nat.reduceAdd, Nat.reduceMul, Nat.reduceMod, Nat.reduceDiv, Nat.reducePow, Nat.reduceSub, Nat.reduceBEq, Int.reduceLE, Int.reduceLT, Int.reduceEq, Int.reduceSub, Int.reduceAdd, Int.reduceToNat, Int.reduceNeg, e1, l_szIntSS_l0_M] <;> (repeat' apply And.intro) <;> first | rfl | exact ⟨_, rfl⟩ | exact ⟨_, _, rfl⟩ | simp [lst, cat2_nil]
  ·intro ex3 s3 hX3
   rcases r1000_ with q1000_ | q1000_
   ·unfold l_szIntSS_l0_X at hX3
    dsimp only at hX3 h
    obtain ⟨rfl, n3_0⟩ := hX3
    obtain rfl := Option.some.inj h
    simp (maxDischargeDepth := 9) only [↓xpre, xpost, xlst, xc2, xcore, yset, rg0, ↓reduceIte, Nat.reduceEqDiff, Nat.reduceLT, Nat.reduceLeDiff, Nat.reduceAdd, Nat.reduceMul, Nat.reduceMod, Nat.reduceDiv, Nat.reducePow, Nat.reduceSub, Nat.reduceBEq, Int.reduceLE, Int.reduceLT, Int.reduceEq, Int.reduceSub, Int.reduceAdd, Int.reduceToNat, Int.reduceNeg, e1, n3_0] <;> (repeat' apply And.intro) <;> first | rfl | exact ⟨_, rfl⟩ | exact ⟨_, _, rfl⟩ | simp [lst, cat2_nil]
   ·unfold l_szIntSS_l0_X at hX3
    dsimp only at hX3 h
    obtain ⟨rfl, n3_0⟩ := hX3
    obtain rfl := Option.some.inj h
    simp (maxDischargeDepth := 9) only [↓xpre, xpost, xlst, xc2, xcore, yset, rg0, ↓reduceIte, Nat.reduceEqDiff, Nat.reduceLT, Nat.reduceLeDiff, Nat.reduceAdd, Nat.reduceMul, Nat.reduceMod, Nat.reduceDiv, Nat.reducePow, Nat.reduceSub, Nat.reduceBEq, Int.reduceLE, Int.reduceLT, Int.reduceEq, Int.reduceSub, Int.reduceAdd, Int.reduceToNat, Int.reduceNeg, e1, n3_0] <;> (repeat' apply And.intro) <;> first | rfl | exact ⟨_, rfl⟩ | exact ⟨_, _, rfl⟩ | simp [lst, cat2_nil]

/-- What is left of a number behind lists. -/
def szL : Int → List (List Int) → Int
 | left, [] => left
 | left, x :: l => if left - x.length < 0 then -1 else szL (left - x.length) l
theorem szL_eq (l : List (List Int)) : ∀ (left : Int), 0 ≤ left → szL left l = szN left (tot l) := by
 induction l with
 | nil => intro left h; unfold szL szN; rw [tot_nil, if_neg (by omega)]; omega
 | cons x l ih =>
  intro left h
  have := tot_nonneg l
  unfold szL
  by_cases hq : left - x.length < 0
  ·rw [if_pos hq]; unfold szN; rw [tot_cons, if_pos (by omega)]
  ·rw [if_neg hq, ih _ (by omega)]
   unfold szN
   rw [tot_cons]
   by_cases hr : left - x.length - tot l < 0
   ·rw [if_pos hr, if_pos (by omega)]
   ·rw [if_neg hr, if_neg (by omega)]; omega
theorem l_szIntSS_l0_eq (a : List (List Int)) (ha : a.length < 4611686018427387904) (hx : ∀ x ∈ a, x.length < 9223372036854775808) : ∀ (n i : Nat) (left : Int), n = a.length - i → i ≤ a.length → 0 ≤ left ∧ left ≤ 1048576 →
  l_szIntSS_l0 a (left, (i : Int)) = some (if szL left (a.drop i) = -1 then .inl () else .inr (szL left (a.drop i))) := by
 intro n
 induction n with
 | zero =>
  intro i left hn hi hl
  have e : i = a.length := by omega
  subst e
  unfold l_szIntSS_l0
  rw [itO_inr (r := Sum.inr left)]
  ·rw [List.drop_length]; unfold szL; rw [if_neg (by omega)]
  ·simp only [l_szIntSS_l0_S]; rw [if_neg (not_lt_nat _)]
 | succ n ih =>
  intro i left hn hi hl
  have hlt : i < a.length := by omega
  have hm : a[i] ∈ a := List.getElem_mem hlt
  have hxm := hx _ hm
  have step : l_szIntSS_l0_S a left i = if szN left a[i].length < 0 then some (Sum.inr (Sum.inl ())) else some (Sum.inl (szN left a[i].length, ((i + 1 : Nat) : Int))) := by
   unfold l_szIntSS_l0_S
   rw [if_pos (lt_nat hlt), ckT (ix_nat hlt), ckT (by rw [getD_nat _ _ hlt]; exact hxm), ckT hl, getD_nat _ _ hlt, wrS i (by omega)]
  rw [List.drop_eq_getElem_cons hlt]
  unfold szL
  by_cases hq : left - (a[i].length : Int) < 0
  ·rw [if_pos hq]
   unfold l_szIntSS_l0
   rw [itO_inr (r := Sum.inl ())]
   ·rfl
   ·rw [step]; unfold szN; rw [if_pos hq]; rfl
  ·rw [if_neg hq]
   have e2 : szN left a[i].length = left - a[i].length := by unfold szN; rw [if_neg hq]
   have := ih (i + 1) (left - a[i].length) (by omega) (by omega) (by omega)
   unfold l_szIntSS_l0 at this ⊢
   rw [itO_inl (s' := (left - (a[i].length : Int), ((i + 1 : Nat) : Int))), this]
   ·rw [step, e2, if_neg hq]
theorem l_szIntSS_eq0 (a : List (List Int)) (left : Int) (ha : a.length < 9223372036854775808) (hx : ∀ x ∈ a, x.length < 9223372036854775808) (hl : 0 ≤ left ∧ left ≤ 1048576) : l_szIntSS a left = some (szN left (a.length + tot a)) := by
 have ht := tot_nonneg a
 unfold l_szIntSS
 rw [wr64 _ (by omega)]
 by_cases hq : left - (a.length : Int) < 0
 ·rw [if_pos hq]; unfold szN; rw [if_pos (by omega)]
 ·rw [if_neg hq]
  have h0 := l_szIntSS_l0_eq a (by omega) hx a.length 0 (left - a.length) (by omega) (by omega) (by omega)
  simp only [Int.natCast_zero, List.drop_zero] at h0
  rw [h0, Option.bind_some, szL_eq _ _ (by omega)]
  have e : szN (left - a.length) (tot a) = szN left (a.length + tot a) := by unfold szN; rw [show left - ↑a.length - tot a = left - (↑a.length + tot a) by omega]
  rw [e]
  by_cases h1 : szN left (a.length + tot a) = -1
  ·rw [if_pos h1, h1]
  ·rw [if_neg h1]
theorem app_lt {α : Type} (a b : List α) (x : α) : (a.length : Int) < ((a ++ x :: b).length : Int) := by rw [List.length_append, List.length_cons]; omega
theorem app_ix {α : Type} (a b : List α) (x : α) : 0 ≤ (a.length : Int) ∧ (a.length : Int).toNat < (a ++ x :: b).length := by rw [List.length_append, List.length_cons]; omega
theorem app_not {α : Type} (a : List α) : ¬ (a.length : Int) < ((a ++ []).length : Int) := by rw [List.append_nil]; omega
/-- Lists that a machine can hold. -/
def Wide (l : List (List Int)) : Prop := l.length < 9223372036854775808 ∧ ∀ x ∈ l, x.length < 9223372036854775808
instance (l : List (List Int)) : Decidable (Wide l) := by unfold Wide; infer_instance
theorem l_szIntSS_eq (a : List (List Int)) (left : Int) (hw : Wide a) (hl : 0 ≤ left ∧ left ≤ 1048576) : l_szIntSS a left = some (szN left (a.length + tot a)) := l_szIntSS_eq0 a left hw.1 hw.2 hl
theorem l_szIntSS_cl (a : List (List Int)) (left : Int) (h0 : Wide a) (h1 : 0 ≤ left ∧ left ≤ 1048576) : Y.call 39 [D.sl 70 (lst (fun x => D.sl 3 (lst (D.int .i64) x)) a), D.int .i64 left] [] = some (D.int .i64 (szN left (a.length + tot a)), []) := l_szIntSS_call a left (l_szIntSS_eq a left h0 h1)
end Go.Proofs.YtaogbcdlpgfplaaDoor
