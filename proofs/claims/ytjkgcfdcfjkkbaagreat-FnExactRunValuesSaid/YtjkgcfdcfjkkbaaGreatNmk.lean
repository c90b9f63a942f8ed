/- Networks marked, and marks held, as plain functions. Conditions: the lists are short. -/
import Derived.Test.YtjkgcfdcfjkkbaaGreatL6
import Derived.Test.YtjkgcfdcfjkkbaaGreatNis
namespace Go.Proofs.YtjkgcfdcfjkkbaaGreat
open Go Dv
set_option linter.unusedSimpArgs false
set_option linter.unusedVariables false
set_option maxRecDepth 100000
set_option maxHeartbeats 4000000

/-- Pairs of numbers from k on. -/
def prs (k : Int) (n : Nat) : List (Int × Int) := (List.range n).map fun (i : Nat) => (k + 2 * (i : Int), k + 2 * (i : Int) + 1)
theorem prs_len (k : Int) (n : Nat) : (prs k n).length = n := by simp [prs]
theorem prs_succ (k : Int) (n : Nat) : prs k (n + 1) = prs k n ++ [(k + 2 * (n : Int), k + 2 * (n : Int) + 1)] := by simp [prs, List.range_succ]
theorem set_at {α : Type} (A xs : List α) (i : Nat) (v : α) (hA : A.length = i) (h : i < xs.length) : (A ++ xs.drop i).set i v = (A ++ [v]) ++ xs.drop (i + 1) := by
 rw [List.set_append_right _ _ (by omega), hA, Nat.sub_self, List.drop_eq_getElem_cons h, List.set_cons_zero, List.append_assoc]; rfl
theorem fstD_set (t : List (Int × Int)) (i : Nat) (p : Int × Int) (h : i < t.length) : fstD (t.set i p) i = p.1 := by
 unfold fstD
 simp [List.getD_eq_getElem?_getD, h]
noncomputable def l_markEndS_l0_S (k : Int) (k1 : Int) (i : Int) (t100000_ : List (Int × Int)) : Option ((Int × Int × (List (Int × Int))) ⊕ (Int × (List (Int × Int)))) :=
 if i < (t100000_.length : Int) then
  ck (0 ≤ i ∧ i.toNat < t100000_.length) <|
  ck (0 ≤ i ∧ i.toNat < (t100000_.set i.toNat (k1, (sndD t100000_ i.toNat))).length) <|
  some (Sum.inl (IntKind.i64.wrap ((IntKind.i64.wrap (k1 + 1)) + 1), IntKind.i64.wrap (i + 1), ((t100000_.set i.toNat (k1, (sndD t100000_ i.toNat))).set i.toNat ((fstD (t100000_.set i.toNat (k1, (sndD t100000_ i.toNat))) i.toNat), IntKind.i64.wrap (k1 + 1)))))
 else
  some (Sum.inr (k1, t100000_))
noncomputable def l_markEndS_l0 (k : Int) (v : Int × Int × (List (Int × Int))) : Option (Int × (List (Int × Int))) := itO (fun v => l_markEndS_l0_S k v.1 v.2.1 v.2.2) v
noncomputable def l_markEndS (a : List (Int × Int)) (k : Int) : Option (Int × (List (Int × Int))) :=
 (l_markEndS_l0 k (k, 0, a)).bind fun r2_ =>
 some (r2_.1, r2_.2)
/-- laws.markEndS -/
def k69_l0b : SC :=
 .seq
 (.seq
 (.ops [
 ⟨(some 6), (.move (.tmp 5)), 3, none⟩,
 ⟨(some 7), (.move (.tmp 0)), 62, none⟩,
 ⟨(some 8), (.call ⟨(.builtin .len), #[(.tmp 7)], #[62]⟩), 3, none⟩,
 ⟨(some 9), (.binOp .lss 3 (.tmp 6) (.tmp 8) 3), 4, none⟩])
 (.cond (.tmp 9)
 .skip
 (.exit 0)))
 (.seq
 (.block 1
 (.seq
 (.ops [
 ⟨(some 12), (.move (.tmp 0)), 62, none⟩,
 ⟨(some 13), (.move (.tmp 5)), 3, none⟩,
 ⟨(some 14), (.move (.tmp 1)), 3, none⟩,
 ⟨(some 15), (.indexAddr 62 (.tmp 12) (.tmp 13)), 0, none⟩,
 ⟨(some 16), (.fieldAddr 85 (.tmp 15) 0), 0, none⟩,
 ⟨none, (.store 3 (.tmp 16) (.tmp 14)), 0, none⟩])
 (.seq
 (.ops [
 ⟨(some 17), (.move (.tmp 1)), 3, none⟩,
 ⟨(some 18), (.binOp .add 3 (.tmp 17) (.const (.int .i64 1)) 3), 3, none⟩,
 ⟨(some 1), (.assign (.tmp 18)), 3, none⟩])
 (.seq
 (.ops [
 ⟨(some 19), (.move (.tmp 0)), 62, none⟩,
 ⟨(some 20), (.move (.tmp 5)), 3, none⟩,
 ⟨(some 21), (.move (.tmp 1)), 3, none⟩,
 ⟨(some 22), (.indexAddr 62 (.tmp 19) (.tmp 20)), 0, none⟩,
 ⟨(some 23), (.fieldAddr 85 (.tmp 22) 1), 0, none⟩,
 ⟨none, (.store 3 (.tmp 23) (.tmp 21)), 0, none⟩])
 (.ops [
 ⟨(some 24), (.move (.tmp 1)), 3, none⟩,
 ⟨(some 25), (.binOp .add 3 (.tmp 24) (.const (.int .i64 1)) 3), 3, none⟩,
 ⟨(some 1), (.assign (.tmp 25)), 3, none⟩])))))
 (.ops [
 ⟨(some 10), (.move (.tmp 5)), 3, none⟩,
 ⟨(some 11), (.binOp .add 3 (.tmp 10) (.const (.int .i64 1)) 3), 3, none⟩,
 ⟨(some 5), (.assign (.tmp 11)), 3, none⟩]))
def k69_l0 : SC := .loop k69_l0b
def k69 : SC :=
 .seq
 (.ops [
 ⟨(some 4), (.assign (.const (.int .i64 0))), 3, none⟩])
 (.seq
 (.seq
 (.ops [
 ⟨(some 5), (.assign (.const (.int .i64 0))), 3, none⟩])
 (.block 0
 k69_l0))
 (.seq
 (.ops [
 ⟨(some 26), (.move (.tmp 1)), 3, none⟩,
 ⟨(some 4), (.assign (.tmp 26)), 3, none⟩])
 .ret))
theorem slim69 : Tryz.f69.body.map (slim lends) = some k69 := by kernel_rfl
theorem ok69 : fnOk Tryz.f69 2 = true := by kernel_rfl
theorem c69 {a l : List D} {r : D × List D} (h : wpD Y.env k69 (fin tys l.length [ResultVar.tmp 4] r) (entry a l)) (ha : a.length = 2) : Y.call 69 a l = some r :=
 call_slim (Y := Y) rfl Tryz.func69 (ha ▸ ok69) slim69 h
def l_markEndS_l0_M (k : Int) (k1 : Int) (i : Int) (t100000_ : List (Int × Int)) (s : St) : Prop := (∃ w_, s.v 0 = D.vw [100000] (s.k 100000) w_) ∧ s.v 1 = D.int .i64 k1 ∧ s.v 5 = D.int .i64 i ∧ s.v 100000 = D.own 85 (cat2 .i64 .i64 t100000_)
def l_markEndS_l0_X (k : Int) (r : Int × (List (Int × Int))) (ex : Ex) (s : St) : Prop := ex = .exit 0 ∧ s.v 1 = D.int .i64 r.1 ∧ s.v 100000 = D.own 85 (cat2 .i64 .i64 r.2)
theorem l_markEndS_l0_wp (k : Int) {v : Int × Int × (List (Int × Int))} {s : St} {r : Int × (List (Int × Int))} (h : l_markEndS_l0 k v = some r) (hM : l_markEndS_l0_M k v.1 v.2.1 v.2.2 s) : wpD Y.env k69_l0 (l_markEndS_l0_X k r) s := by
 unfold l_markEndS_l0 at h
 refine wd_itO (c := k69_l0b) (fun v => l_markEndS_l0_S k v.1 v.2.1 v.2.2) (fun v s => l_markEndS_l0_M k v.1 v.2.1 v.2.2 s) (l_markEndS_l0_X k) ?_ h hM
 clear h hM s v r
 intro v s o hM h
 obtain ⟨k1, i, t100000_⟩ := v
 dsimp only at h hM
 unfold l_markEndS_l0_S at h
 unfold l_markEndS_l0_M at hM
 obtain ⟨⟨w0_, m0⟩, m1, m2, m3⟩ := hM
 unfold k69_l0b
 by_cases e1 : i < (t100000_.length : Int)
 ·rw [if_pos e1] at h
  obtain ⟨e2, h⟩ := ckS h
  obtain ⟨e3, h⟩ := ckS h
  obtain rfl := Option.some.inj h
  simp (maxDischargeDepth := 9) only [↓xpre, xpost, xlst, xc2, xcore, yset, rg0, ↓reduceIte, Nat.reduceEqDiff, Nat.reduceLT, Nat.reduceLeDiff, Nat.reduceAdd, Nat.reduceMul, Nat.reduceMod, Nat.reduceSub, Nat.reduceBEq, Int.reduceLE, Int.reduceLT, Int.reduceEq, Int.reduceSub, Int.reduceAdd, Int.reduceToNat, Int.reduceNeg, m0, m1, m2, m3, e1, e2.1, e2.2, e3.1, e3.2, l_markEndS_l0_M, l_markEndS_l0_X, sxN, sxE, sxR] <;> (repeat' apply And.intro) <;> first | rfl | exact ⟨_, rfl⟩ | simp [lst, cat2_nil]
 ·rw [if_neg e1] at h
  obtain rfl := Option.some.inj h
  simp (maxDischargeDepth := 9) only [↓xpre, xpost, xlst, xc2, xcore, yset, rg0, ↓reduceIte, Nat.reduceEqDiff, Nat.reduceLT, Nat.reduceLeDiff, Nat.reduceAdd, Nat.reduceMul, Nat.reduceMod, Nat.reduceSub, Nat.reduceBEq, Int.reduceLE, Int.reduceLT, Int.reduceEq, Int.reduceSub, Int.reduceAdd, Int.reduceToNat, Int.reduceNeg, m0, m1, m2, m3, e1, l_markEndS_l0_M, l_markEndS_l0_X, sxN, sxE, sxR] <;> (repeat' apply And.intro) <;> first | rfl | exact ⟨_, rfl⟩ | simp [lst, cat2_nil]
theorem l_markEndS_call (a : List (Int × Int)) (k : Int) {r : Int × (List (Int × Int))} (h : l_markEndS a k = some r) : Y.call 69 [D.vw [100000] 0 0, D.int .i64 k] [D.own 85 (cat2 .i64 .i64 a)] = some (D.int .i64 r.1, [D.own 85 (cat2 .i64 .i64 r.2)]) := by
 refine c69 ?_ rfl
 unfold k69
 unfold l_markEndS at h
 obtain ⟨r2_, hl2, h⟩ := bindS h
 try dsimp only at h
 simp (maxDischargeDepth := 9) only [↓xpre, xpost, xlst, xc2, xcore, yset, rg0, ↓reduceIte, Nat.reduceEqDiff, Nat.reduceLT, Nat.reduceLeDiff, Nat.reduceAdd, Nat.reduceMul, Nat.reduceMod, Nat.reduceSub, Nat.reduceBEq, Int.reduceLE, Int.reduceLT, Int.reduceEq, Int.reduceSub, Int.reduceAdd, Int.reduceToNat, Int.reduceNeg]
 refine wd_mono (l_markEndS_l0_wp k hl2 ?_) ?_
 ·simp (maxDischargeDepth := 9) only [↓xpre, xpost, xlst, xc2, xcore, yset, rg0, ↓reduceIte, Nat.reduceEqDiff, Nat.reduceLT, Nat.reduceLeDiff, Nat.reduceAdd, Nat.reduceMul, Nat.reduceMod, Nat.reduceSub, Nat.reduceBEq, Int.reduceLE, Int.reduceLT, Int.reduceEq, Int.reduceSub, Int.reduceAdd, Int.reduceToNat, Int.reduceNeg, l_markEndS_l0_M] <;> (repeat' apply And.intro) <;> first | rfl | exact ⟨_, rfl⟩ | simp [lst, cat2_nil]
 ·intro ex2 s2 hX2
  unfold l_markEndS_l0_X at hX2
  obtain ⟨rfl, n2_0, n2_1⟩ := hX2
  obtain rfl := Option.some.inj h
  simp (maxDischargeDepth := 9) only [↓xpre, xpost, xlst, xc2, xcore, yset, rg0, ↓reduceIte, Nat.reduceEqDiff, Nat.reduceLT, Nat.reduceLeDiff, Nat.reduceAdd, Nat.reduceMul, Nat.reduceMod, Nat.reduceSub, Nat.reduceBEq, Int.reduceLE, Int.reduceLT, Int.reduceEq, Int.reduceSub, Int.reduceAdd, Int.reduceToNat, Int.reduceNeg, n2_0, n2_1] <;> (repeat' apply And.intro) <;> first | rfl | exact ⟨_, rfl⟩ | simp [lst, cat2_nil]

theorem l_markEndS_eq (a : List (Int × Int)) (k : Int) (ha : a.length < 549755813888) (hk : 0 ≤ k ∧ k + 2 * (a.length : Int) < 1099511627776) : l_markEndS a k = some (k + 2 * (a.length : Int), prs k a.length) := by
 have key := itO_for (fun v => l_markEndS_l0_S k v.1 v.2.1 v.2.2) (fun i => (k + 2 * (i : Int), (i : Int), prs k i ++ a.drop i)) a.length (k + 2 * (a.length : Int), prs k a.length) ?_ ?_
 ·unfold l_markEndS l_markEndS_l0
  have e0 : prs k 0 = [] := rfl
  simp only [Int.natCast_zero, Int.mul_zero, Int.add_zero, List.drop_zero, e0, List.nil_append] at key
  rw [key]; rfl
 ·intro i hi
  simp only [l_markEndS_l0_S]
  have el : (prs k i ++ a.drop i).length = a.length := by simp [prs_len]; omega
  rw [el, if_pos (lt_nat hi), ckT (ix_nat hi), Int.toNat_natCast, ckT (by rw [List.length_set, el]; omega), fstD_set _ _ _ (by rw [el]; exact hi), List.set_set, wrS i (by omega), wr64 (k + 2 * (i : Int) + 1) (by omega), wr64 (k + 2 * (i : Int) + 1 + 1) (by omega), set_at _ _ _ _ (prs_len k i) hi, ← prs_succ]
  rw [show k + 2 * (i : Int) + 1 + 1 = k + 2 * ((i + 1 : Nat) : Int) by omega]
 ·simp only [l_markEndS_l0_S]
  have el : (prs k a.length ++ a.drop a.length).length = a.length := by simp [prs_len]
  rw [el, if_neg (not_lt_nat _)]; simp
theorem l_markEndS_cl (a : List (Int × Int)) (k : Int) (h0 : a.length < 549755813888) (h1 : 0 ≤ k ∧ k + 2 * (a.length : Int) < 1099511627776) : Y.call 69 [D.vw [100000] 0 0, D.int .i64 k] [D.own 85 (cat2 .i64 .i64 a)] = some (D.int .i64 (k + 2 * (a.length : Int)), [D.own 85 (cat2 .i64 .i64 (prs k a.length))]) := l_markEndS_call a k (l_markEndS_eq a k h0 h1)
noncomputable def l_markEndSS_l0_S (k : Int) (k1 : Int) (i : Int) (t100000_ : List (List (Int × Int))) : Option ((Int × Int × (List (List (Int × Int)))) ⊕ (Int × (List (List (Int × Int))))) :=
 if i < (t100000_.length : Int) then
  ck (0 ≤ i ∧ i.toNat < t100000_.length) <|
  ck ((t100000_.getD i.toNat default).length < 549755813888) <|
  ck (0 ≤ k1 ∧ k1 + 2 * ((t100000_.getD i.toNat default).length : Int) < 1099511627776) <|
  some (Sum.inl ((k1 + 2 * ((t100000_.getD i.toNat default).length : Int)), IntKind.i64.wrap (i + 1), (t100000_.set i.toNat (prs k1 (t100000_.getD i.toNat default).length))))
 else
  some (Sum.inr (k1, t100000_))
noncomputable def l_markEndSS_l0 (k : Int) (v : Int × Int × (List (List (Int × Int)))) : Option (Int × (List (List (Int × Int)))) := itO (fun v => l_markEndSS_l0_S k v.1 v.2.1 v.2.2) v
noncomputable def l_markEndSS (a : List (List (Int × Int))) (k : Int) : Option (Int × (List (List (Int × Int)))) :=
 (l_markEndSS_l0 k (k, 0, a)).bind fun r2_ =>
 some (r2_.1, r2_.2)
/-- laws.markEndSS -/
def k43_l0b : SC :=
 .seq
 (.seq
 (.ops [
 ⟨(some 6), (.move (.tmp 5)), 3, none⟩,
 ⟨(some 7), (.move (.tmp 0)), 35, none⟩,
 ⟨(some 8), (.call ⟨(.builtin .len), #[(.tmp 7)], #[35]⟩), 3, none⟩,
 ⟨(some 9), (.binOp .lss 3 (.tmp 6) (.tmp 8) 3), 4, none⟩])
 (.cond (.tmp 9)
 .skip
 (.exit 0)))
 (.seq
 (.block 1
 (.ops [
 ⟨(some 12), (.move (.tmp 0)), 35, none⟩,
 ⟨(some 13), (.move (.tmp 5)), 3, none⟩,
 ⟨(some 14), (.indexAddr 35 (.tmp 12) (.tmp 13)), 0, none⟩,
 ⟨(some 15), (.load 62 (.tmp 14)), 62, none⟩,
 ⟨(some 16), (.move (.tmp 1)), 3, none⟩,
 ⟨(some 17), (.call ⟨(.value (.func 69)), #[(.tmp 15), (.tmp 16)], #[62, 3]⟩), 3, none⟩,
 ⟨(some 1), (.assign (.tmp 17)), 3, none⟩]))
 (.ops [
 ⟨(some 10), (.move (.tmp 5)), 3, none⟩,
 ⟨(some 11), (.binOp .add 3 (.tmp 10) (.const (.int .i64 1)) 3), 3, none⟩,
 ⟨(some 5), (.assign (.tmp 11)), 3, none⟩]))
def k43_l0 : SC := .loop k43_l0b
def k43 : SC :=
 .seq
 (.ops [
 ⟨(some 4), (.assign (.const (.int .i64 0))), 3, none⟩])
 (.seq
 (.seq
 (.ops [
 ⟨(some 5), (.assign (.const (.int .i64 0))), 3, none⟩])
 (.block 0
 k43_l0))
 (.seq
 (.ops [
 ⟨(some 18), (.move (.tmp 1)), 3, none⟩,
 ⟨(some 4), (.assign (.tmp 18)), 3, none⟩])
 .ret))
theorem slim43 : Tryz.f43.body.map (slim lends) = some k43 := by kernel_rfl
theorem ok43 : fnOk Tryz.f43 2 = true := by kernel_rfl
theorem c43 {a l : List D} {r : D × List D} (h : wpD Y.env k43 (fin tys l.length [ResultVar.tmp 4] r) (entry a l)) (ha : a.length = 2) : Y.call 43 a l = some r :=
 call_slim (Y := Y) rfl Tryz.func43 (ha ▸ ok43) slim43 h
def l_markEndSS_l0_M (k : Int) (k1 : Int) (i : Int) (t100000_ : List (List (Int × Int))) (s : St) : Prop := (∃ w_, s.v 0 = D.vw [100000] (s.k 100000) w_) ∧ s.v 1 = D.int .i64 k1 ∧ s.v 5 = D.int .i64 i ∧ s.v 100000 = D.own 62 (lst (fun x => D.own 85 (cat2 .i64 .i64 x)) t100000_)
def l_markEndSS_l0_X (k : Int) (r : Int × (List (List (Int × Int)))) (ex : Ex) (s : St) : Prop := ex = .exit 0 ∧ s.v 1 = D.int .i64 r.1 ∧ s.v 100000 = D.own 62 (lst (fun x => D.own 85 (cat2 .i64 .i64 x)) r.2)
theorem l_markEndSS_l0_wp (k : Int) {v : Int × Int × (List (List (Int × Int)))} {s : St} {r : Int × (List (List (Int × Int)))} (h : l_markEndSS_l0 k v = some r) (hM : l_markEndSS_l0_M k v.1 v.2.1 v.2.2 s) : wpD Y.env k43_l0 (l_markEndSS_l0_X k r) s := by
 unfold l_markEndSS_l0 at h
 refine wd_itO (c := k43_l0b) (fun v => l_markEndSS_l0_S k v.1 v.2.1 v.2.2) (fun v s => l_markEndSS_l0_M k v.1 v.2.1 v.2.2 s) (l_markEndSS_l0_X k) ?_ h hM
 clear h hM s v r
 intro v s o hM h
 obtain ⟨k1, i, t100000_⟩ := v
 dsimp only at h hM
 unfold l_markEndSS_l0_S at h
 unfold l_markEndSS_l0_M at hM
 obtain ⟨⟨w0_, m0⟩, m1, m2, m3⟩ := hM
 unfold k43_l0b
 by_cases e1 : i < (t100000_.length : Int)
 ·rw [if_pos e1] at h
  obtain ⟨e2, h⟩ := ckS h
  obtain ⟨e3, h⟩ := ckS h
  obtain ⟨e4, h⟩ := ckS h
  have c5 := l_markEndS_cl (t100000_.getD i.toNat default) k1 e3 e4
  obtain rfl := Option.some.inj h
  simp (maxDischargeDepth := 9) only [↓xpre, xpost, xlst, xc2, xcore, yset, rg0, ↓reduceIte, Nat.reduceEqDiff, Nat.reduceLT, Nat.reduceLeDiff, Nat.reduceAdd, Nat.reduceMul, Nat.reduceMod, Nat.reduceSub, Nat.reduceBEq, Int.reduceLE, Int.reduceLT, Int.reduceEq, Int.reduceSub, Int.reduceAdd, Int.reduceToNat, Int.reduceNeg, m0, m1, m2, m3, e1, e2.1, e2.2, e3, e4.1, e4.2, c5, l_markEndSS_l0_M, l_markEndSS_l0_X, sxN, sxE, sxR] <;> (repeat' apply And.intro) <;> first | rfl | exact ⟨_, rfl⟩ | simp [lst, cat2_nil]
 ·rw [if_neg e1] at h
  obtain rfl := Option.some.inj h
  simp (maxDischargeDepth := 9) only [↓xpre, xpost, xlst, xc2, xcore, yset, rg0, ↓reduceIte, Nat.reduceEqDiff, Nat.reduceLT, Nat.reduceLeDiff, Nat.reduceAdd, Nat.reduceMul, Nat.reduceMod, Nat.reduceSub, Nat.reduceBEq, Int.reduceLE, Int.reduceLT, Int.reduceEq, Int.reduceSub, Int.reduceAdd, Int.reduceToNat, Int.reduceNeg, m0, m1, m2, m3, e1, l_markEndSS_l0_M, l_markEndSS_l0_X, sxN, sxE, sxR] <;> (repeat' apply And.intro) <;> first | rfl | exact ⟨_, rfl⟩ | simp [lst, cat2_nil]
theorem l_markEndSS_call (a : List (List (Int × Int))) (k : Int) {r : Int × (List (List (Int × Int)))} (h : l_markEndSS a k = some r) : Y.call 43 [D.vw [100000] 0 0, D.int .i64 k] [D.own 62 (lst (fun x => D.own 85 (cat2 .i64 .i64 x)) a)] = some (D.int .i64 r.1, [D.own 62 (lst (fun x => D.own 85 (cat2 .i64 .i64 x)) r.2)]) := by
 refine c43 ?_ rfl
 unfold k43
 unfold l_markEndSS at h
 obtain ⟨r2_, hl2, h⟩ := bindS h
 try dsimp only at h
 simp (maxDischargeDepth := 9) only [↓xpre, xpost, xlst, xc2, xcore, yset, rg0, ↓reduceIte, Nat.reduceEqDiff, Nat.reduceLT, Nat.reduceLeDiff, Nat.reduceAdd, Nat.reduceMul, Nat.reduceMod, Nat.reduceSub, Nat.reduceBEq, Int.reduceLE, Int.reduceLT, Int.reduceEq, Int.reduceSub, Int.reduceAdd, Int.reduceToNat, Int.reduceNeg]
 refine wd_mono (l_markEndSS_l0_wp k hl2 ?_) ?_
 ·simp (maxDischargeDepth := 9) only [↓xpre, xpost, xlst, xc2, xcore, yset, rg0, ↓reduceIte, Nat.reduceEqDiff, Nat.reduceLT, Nat.reduceLeDiff, Nat.reduceAdd, Nat.reduceMul, Nat.reduceMod, Nat.reduceSub, Nat.reduceBEq, Int.reduceLE, Int.reduceLT, Int.reduceEq, Int.reduceSub, Int.reduceAdd, Int.reduceToNat, Int.reduceNeg, l_markEndSS_l0_M] <;> (repeat' apply And.intro) <;> first | rfl | exact ⟨_, rfl⟩ | simp [lst, cat2_nil]
 ·intro ex2 s2 hX2
  unfold l_markEndSS_l0_X at hX2
  obtain ⟨rfl, n2_0, n2_1⟩ := hX2
  obtain rfl := Option.some.inj h
  simp (maxDischargeDepth := 9) only [↓xpre, xpost, xlst, xc2, xcore, yset, rg0, ↓reduceIte, Nat.reduceEqDiff, Nat.reduceLT, Nat.reduceLeDiff, Nat.reduceAdd, Nat.reduceMul, Nat.reduceMod, Nat.reduceSub, Nat.reduceBEq, Int.reduceLE, Int.reduceLT, Int.reduceEq, Int.reduceSub, Int.reduceAdd, Int.reduceToNat, Int.reduceNeg, n2_0, n2_1] <;> (repeat' apply And.intro) <;> first | rfl | exact ⟨_, rfl⟩ | simp [lst, cat2_nil]

def marksE : Int → List (List (Int × Int)) → List (List (Int × Int))
 | _, [] => []
 | k, x :: l => prs k x.length :: marksE (k + 2 * (x.length : Int)) l
theorem fE_cons (x : List (Int × Int)) (l : List (List (Int × Int))) : tot (fE (x :: l)) = x.length + tot (fE l) := by
 rw [show fE (x :: l) = x.map Prod.fst :: fE l from rfl, tot_cons, List.length_map]
theorem l_markEndSS_l0_eq (kk : Int) : ∀ (b a : List (List (Int × Int))) (k : Int), ShortE b → a.length + b.length < 1099511627776 → 0 ≤ k → k + 2 * tot (fE b) < 1099511627776 →
  l_markEndSS_l0 kk (k, (a.length : Int), a ++ b) = some (k + 2 * tot (fE b), a ++ marksE k b) := by
 intro b
 induction b with
 | nil =>
  intro a k hb hab hk hkt
  unfold l_markEndSS_l0
  rw [itO_inr (r := (k, a ++ []))]
  ·rw [show tot (fE []) = 0 from rfl, Int.mul_zero, Int.add_zero]; rfl
  ·simp only [l_markEndSS_l0_S]; rw [if_neg (app_not _)]
 | cons x b ih =>
  intro a k hb hab hk hkt
  rw [fE_cons] at hkt
  simp only [List.length_cons] at hab
  have hx : x.length < 549755813888 := hb.2 x (List.mem_cons_self ..)
  have ht := tot_nonneg (fE b)
  have := ih (a ++ [prs k x.length]) (k + 2 * (x.length : Int)) ⟨by omega, fun y hy => hb.2 y (List.mem_cons_of_mem _ hy)⟩ (by simp; omega) (by omega) (by omega)
  unfold l_markEndSS_l0 at this ⊢
  have eg : (a ++ x :: b).getD (a.length : Int).toNat default = x := by rw [Int.toNat_natCast]; exact getD_app_right a (x :: b) a.length rfl (by simp)
  rw [itO_inl (s' := (k + 2 * (x.length : Int), ((a ++ [prs k x.length]).length : Int), (a ++ [prs k x.length]) ++ b)), this]
  ·rw [fE_cons, show k + 2 * (x.length : Int) + 2 * tot (fE b) = k + 2 * (x.length + tot (fE b)) by omega]
   simp [marksE]
  ·simp only [l_markEndSS_l0_S]
   rw [if_pos (app_lt ..), ckT (app_ix ..), ckT (by rw [eg]; exact hx), ckT (by rw [eg]; omega), eg, wrS _ (by omega), Int.toNat_natCast, List.set_append_right _ _ (Nat.le_refl _), Nat.sub_self, List.set_cons_zero]
   simp
theorem l_markEndSS_eq (a : List (List (Int × Int))) (k : Int) (ha : ShortE a) (hk : 0 ≤ k ∧ k + 2 * tot (fE a) < 1099511627776) : l_markEndSS a k = some (k + 2 * tot (fE a), marksE k a) := by
 unfold l_markEndSS
 have := l_markEndSS_l0_eq k a [] k ha (by have := ha.1; simp; omega) hk.1 hk.2
 simp only [List.length_nil, List.nil_append, Int.natCast_zero] at this
 rw [this]; rfl
theorem l_markEndSS_cl (a : List (List (Int × Int))) (k : Int) (h0 : ShortE a) (h1 : 0 ≤ k ∧ k + 2 * tot (fE a) < 1099511627776) : Y.call 43 [D.vw [100000] 0 0, D.int .i64 k] [D.own 62 (lst (fun x => D.own 85 (cat2 .i64 .i64 x)) a)] = some (D.int .i64 (k + 2 * tot (fE a)), [D.own 62 (lst (fun x => D.own 85 (cat2 .i64 .i64 x)) (marksE k a))]) := l_markEndSS_call a k (l_markEndSS_eq a k h0 h1)
noncomputable def l_markNetwork (a_Ends : List (List (Int × Int))) (a_Ids : List Int) (a_Inputs : List Int) (k : Int) : Option (Int × (List (List (Int × Int))) × (List Int) × (List Int)) :=
 ck (ShortE a_Ends) <|
 ck (0 ≤ k ∧ k + 2 * tot (fE a_Ends) < 1099511627776) <|
 ck (a_Ids.length < 1099511627776) <|
 ck (0 ≤ (k + 2 * tot (fE a_Ends)) ∧ (k + 2 * tot (fE a_Ends)) < 1099511627776) <|
 ck (a_Inputs.length < 1099511627776) <|
 ck (0 ≤ ((k + 2 * tot (fE a_Ends)) + a_Ids.length) ∧ ((k + 2 * tot (fE a_Ends)) + a_Ids.length) < 1099511627776) <|
 some ((((k + 2 * tot (fE a_Ends)) + a_Ids.length) + a_Inputs.length), (marksE k a_Ends), (upto (k + 2 * tot (fE a_Ends)) a_Ids.length), (upto ((k + 2 * tot (fE a_Ends)) + a_Ids.length) a_Inputs.length))
/-- laws.markNetwork -/
def k16 : SC :=
 .seq
 (.ops [
 ⟨(some 2), (.box 37 (.tmp 0)), 0, none⟩,
 ⟨(some 4), (.assign (.const (.int .i64 0))), 3, none⟩])
 (.seq
 (.ops [
 ⟨(some 5), (.fieldAddr 37 (.tmp 2) 0), 0, none⟩,
 ⟨(some 6), (.load 35 (.tmp 5)), 35, none⟩,
 ⟨(some 7), (.move (.tmp 1)), 3, none⟩,
 ⟨(some 8), (.call ⟨(.value (.func 43)), #[(.tmp 6), (.tmp 7)], #[35, 3]⟩), 3, none⟩,
 ⟨(some 1), (.assign (.tmp 8)), 3, none⟩])
 (.seq
 (.ops [
 ⟨(some 9), (.fieldAddr 37 (.tmp 2) 1), 0, none⟩,
 ⟨(some 10), (.load 26 (.tmp 9)), 26, none⟩,
 ⟨(some 11), (.move (.tmp 1)), 3, none⟩,
 ⟨(some 12), (.call ⟨(.value (.func 27)), #[(.tmp 10), (.tmp 11)], #[26, 3]⟩), 3, none⟩,
 ⟨(some 1), (.assign (.tmp 12)), 3, none⟩])
 (.seq
 (.ops [
 ⟨(some 13), (.fieldAddr 37 (.tmp 2) 2), 0, none⟩,
 ⟨(some 14), (.load 26 (.tmp 13)), 26, none⟩,
 ⟨(some 15), (.move (.tmp 1)), 3, none⟩,
 ⟨(some 16), (.call ⟨(.value (.func 27)), #[(.tmp 14), (.tmp 15)], #[26, 3]⟩), 3, none⟩,
 ⟨(some 1), (.assign (.tmp 16)), 3, none⟩])
 (.seq
 (.ops [
 ⟨(some 17), (.move (.tmp 1)), 3, none⟩,
 ⟨(some 4), (.assign (.tmp 17)), 3, none⟩])
 .ret))))
theorem slim16 : Tryz.f16.body.map (slim lends) = some k16 := by kernel_rfl
theorem ok16 : fnOk Tryz.f16 2 = true := by kernel_rfl
theorem c16 {a l : List D} {r : D × List D} (h : wpD Y.env k16 (fin tys l.length [ResultVar.tmp 4] r) (entry a l)) (ha : a.length = 2) : Y.call 16 a l = some r :=
 call_slim (Y := Y) rfl Tryz.func16 (ha ▸ ok16) slim16 h
theorem l_markNetwork_call (a_Ends : List (List (Int × Int))) (a_Ids : List Int) (a_Inputs : List Int) (k : Int) {r : Int × (List (List (Int × Int))) × (List Int) × (List Int)} (h : l_markNetwork a_Ends a_Ids a_Inputs k = some r) : Y.call 16 [D.agg [D.vw [100000] 0 0, D.vw [100001] 0 0, D.vw [100002] 0 0], D.int .i64 k] [D.own 62 (lst (fun x => D.own 85 (cat2 .i64 .i64 x)) a_Ends), D.own 3 (lst (D.int .i64) a_Ids), D.own 3 (lst (D.int .i64) a_Inputs)] = some (D.int .i64 r.1, [D.own 62 (lst (fun x => D.own 85 (cat2 .i64 .i64 x)) r.2.1), D.own 3 (lst (D.int .i64) r.2.2.1), D.own 3 (lst (D.int .i64) r.2.2.2)]) := by
 refine c16 ?_ rfl
 unfold k16
 unfold l_markNetwork at h
 obtain ⟨e1, h⟩ := ckS h
 obtain ⟨e2, h⟩ := ckS h
 have c3 := l_markEndSS_cl a_Ends k e1 e2
 obtain ⟨e4, h⟩ := ckS h
 obtain ⟨e5, h⟩ := ckS h
 have c6 := l_markIntS_cl a_Ids (k + 2 * tot (fE a_Ends)) e4 e5
 obtain ⟨e7, h⟩ := ckS h
 obtain ⟨e8, h⟩ := ckS h
 have c9 := l_markIntS_cl a_Inputs ((k + 2 * tot (fE a_Ends)) + a_Ids.length) e7 e8
 obtain rfl := Option.some.inj h
 simp (maxDischargeDepth := 9) only [↓xpre, xpost, xlst, xc2, xcore, yset, rg0, ↓reduceIte, Nat.reduceEqDiff, Nat.reduceLT, Nat.reduceLeDiff, Nat.reduceAdd, Nat.reduceMul, Nat.reduceMod, Nat.reduceSub, Nat.reduceBEq, Int.reduceLE, Int.reduceLT, Int.reduceEq, Int.reduceSub, Int.reduceAdd, Int.reduceToNat, Int.reduceNeg, e1, e2.1, e2.2, c3, e4, e5.1, e5.2, c6, e7, e8.1, e8.2, c9] <;> (repeat' apply And.intro) <;> first | rfl | exact ⟨_, rfl⟩ | simp [lst, cat2_nil]

theorem l_markNetwork_eq (a : List (List (Int × Int))) (b c : List Int) (k : Int) (ha : ShortE a) (hb : b.length < 1099511627776) (hc : c.length < 1099511627776) (hk : 0 ≤ k ∧ k + 2 * tot (fE a) + b.length + c.length < 1099511627776) :
  l_markNetwork a b c k = some (k + 2 * tot (fE a) + b.length + c.length, marksE k a, upto (k + 2 * tot (fE a)) b.length, upto (k + 2 * tot (fE a) + b.length) c.length) := by
 have ht := tot_nonneg (fE a)
 unfold l_markNetwork
 rw [ckT ha, ckT (by omega), ckT hb, ckT (by omega), ckT hc, ckT (by omega)]
theorem l_markNetwork_cl (a_Ends : List (List (Int × Int))) (a_Ids : List Int) (a_Inputs : List Int) (k : Int) (h0 : ShortE a_Ends) (h1 : a_Ids.length < 1099511627776) (h2 : a_Inputs.length < 1099511627776) (h3 : 0 ≤ k ∧ k + 2 * tot (fE a_Ends) + a_Ids.length + a_Inputs.length < 1099511627776) : Y.call 16 [D.agg [D.vw [100000] 0 0, D.vw [100001] 0 0, D.vw [100002] 0 0], D.int .i64 k] [D.own 62 (lst (fun x => D.own 85 (cat2 .i64 .i64 x)) a_Ends), D.own 3 (lst (D.int .i64) a_Ids), D.own 3 (lst (D.int .i64) a_Inputs)] = some (D.int .i64 (k + 2 * tot (fE a_Ends) + a_Ids.length + a_Inputs.length), [D.own 62 (lst (fun x => D.own 85 (cat2 .i64 .i64 x)) (marksE k a_Ends)), D.own 3 (lst (D.int .i64) (upto (k + 2 * tot (fE a_Ends)) a_Ids.length)), D.own 3 (lst (D.int .i64) (upto (k + 2 * tot (fE a_Ends) + a_Ids.length) a_Inputs.length))]) := l_markNetwork_call a_Ends a_Ids a_Inputs k (l_markNetwork_eq a_Ends a_Ids a_Inputs k h0 h1 h2 h3)

end Go.Proofs.YtjkgcfdcfjkkbaaGreat
