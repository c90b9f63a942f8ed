/- Value programs marked, and marks held, as plain functions. Conditions: the lists are short. -/
import Derived.Test.YtaogbcdlpgfplaaDoorL6
import Derived.Test.YtaogbcdlpgfplaaDoorVot
namespace Go.Proofs.YtaogbcdlpgfplaaDoor
open Go Dv
set_option linter.unusedSimpArgs false
set_option linter.unusedVariables false
set_option maxRecDepth 100000
set_option maxHeartbeats 4000000

/-- Pairs of numbers from k on. -/
def prs (k : Int) (n : Nat) : List (Int × Int) := (List.range n).map fun (i : Nat) => (k + 2 * (i : Int), k + 2 * (i : Int) + 1)
theorem prs_len (k : Int) (n : Nat) : (prs k n).length = n := by simp [prs]
theorem prs_succ (k : Int) (n : Nat) : prs k (n + 1) = prs k n ++ [(k + 2 * (n : Int), k + 2 * (n : Int) + 1)] := by simp [prs, List.range_succ]
theorem set_at {α : Type} (A xs : List α) (i : Nat) (v : α) (hA : A.length = i) (h : i < xs.length) : (A ++ xs.drop i).set i v = (A ++ [v]) ++ xs.drop (i + 1) := by
 rw [List.set_append_right _ _ (by omega), hA, Nat.sub_self, List.drop_eq_getElem_cons h, List.set_cons_zero, List.append_assoc]; rfl
theorem fstD_set (t : List (Int × Int)) (i : Nat) (p : Int × Int) (h : i < t.length) : fstD (t.set i p) i = p.1 := by
 unfold fstD
 simp [List.getD_eq_getElem?_getD, h]
theorem fst_prs (k : Int) (n i : Nat) (h : i < n) : fstD (prs k n) i = k + 2 * (i : Int) := by
 unfold fstD
 rw [getD_get _ _ (by rw [prs_len]; exact h)]; simp [prs]
theorem snd_prs (k : Int) (n i : Nat) (h : i < n) : sndD (prs k n) i = k + 2 * (i : Int) + 1 := by
 unfold sndD
 rw [getD_get _ _ (by rw [prs_len]; exact h)]; simp [prs]
noncomputable def l_markValueOpS_l0_S (k : Int) (k1 : Int) (i : Int) (t100000_ : List (Int × Int)) : Option ((Int × Int × (List (Int × Int))) ⊕ (Int × (List (Int × Int)))) :=
 if i < (t100000_.length : Int) then
  ck (0 ≤ i ∧ i.toNat < t100000_.length) <|
  ck (0 ≤ i ∧ i.toNat < (t100000_.set i.toNat (k1, (sndD t100000_ i.toNat))).length) <|
  some (Sum.inl (IntKind.i64.wrap ((IntKind.i64.wrap (k1 + 1)) + 1), IntKind.i64.wrap (i + 1), ((t100000_.set i.toNat (k1, (sndD t100000_ i.toNat))).set i.toNat ((fstD (t100000_.set i.toNat (k1, (sndD t100000_ i.toNat))) i.toNat), IntKind.i64.wrap (k1 + 1)))))
 else
  some (Sum.inr (k1, t100000_))
noncomputable def l_markValueOpS_l0 (k : Int) (v : Int × Int × (List (Int × Int))) : Option (Int × (List (Int × Int))) := itO (fun v => l_markValueOpS_l0_S k v.1 v.2.1 v.2.2) v
noncomputable def l_markValueOpS (a : List (Int × Int)) (k : Int) : Option (Int × (List (Int × Int))) :=
 (l_markValueOpS_l0 k (k, 0, a)).bind fun r1000_ =>
 some (r1000_.1, r1000_.2)
/-- laws.markValueOpS -/
def k14_l0b : SC :=
 .seq
 (.seq
 (.ops [
 ⟨(some 6), (.move (.tmp 5)), 3, none⟩,
 ⟨(some 7), (.move (.tmp 0)), 26, none⟩,
 ⟨(some 8), (.call ⟨(.builtin .len), #[(.tmp 7)], #[26]⟩), 3, none⟩,
 ⟨(some 9), (.binOp .lss 3 (.tmp 6) (.tmp 8) 3), 4, none⟩])
 (.cond (.tmp 9)
 .skip
 (.exit 0)))
 (.seq
 (.block 1
 (.seq
 (.ops [
 ⟨(some 12), (.move (.tmp 0)), 26, none⟩,
 ⟨(some 13), (.move (.tmp 5)), 3, none⟩,
 ⟨(some 14), (.move (.tmp 1)), 3, none⟩,
 ⟨(some 15), (.indexAddr 26 (.tmp 12) (.tmp 13)), 0, none⟩,
 ⟨(some 16), (.fieldAddr 49 (.tmp 15) 0), 0, none⟩,
 ⟨none, (.store 3 (.tmp 16) (.tmp 14)), 0, none⟩])
 (.seq
 (.ops [
 ⟨(some 17), (.move (.tmp 1)), 3, none⟩,
 ⟨(some 18), (.binOp .add 3 (.tmp 17) (.const (.int .i64 1)) 3), 3, none⟩,
 ⟨(some 1), (.assign (.tmp 18)), 3, none⟩])
 (.seq
 (.ops [
 ⟨(some 19), (.move (.tmp 0)), 26, none⟩,
 ⟨(some 20), (.move (.tmp 5)), 3, none⟩,
 ⟨(some 21), (.move (.tmp 1)), 3, none⟩,
 ⟨(some 22), (.indexAddr 26 (.tmp 19) (.tmp 20)), 0, none⟩,
 ⟨(some 23), (.fieldAddr 49 (.tmp 22) 1), 0, none⟩,
 ⟨none, (.store 3 (.tmp 23) (.tmp 21)), 0, none⟩])
 (.ops [
 ⟨(some 24), (.move (.tmp 1)), 3, none⟩,
 ⟨(some 25), (.binOp .add 3 (.tmp 24) (.const (.int .i64 1)) 3), 3, none⟩,
 ⟨(some 1), (.assign (.tmp 25)), 3, none⟩])))))
 (.ops [
 ⟨(some 10), (.move (.tmp 5)), 3, none⟩,
 ⟨(some 11), (.binOp .add 3 (.tmp 10) (.const (.int .i64 1)) 3), 3, none⟩,
 ⟨(some 5), (.assign (.tmp 11)), 3, none⟩]))
def k14_l0 : SC := .loop k14_l0b
def k14 : SC :=
 .seq
 (.ops [
 ⟨(some 4), (.assign (.const (.int .i64 0))), 3, none⟩])
 (.seq
 (.seq
 (.ops [
 ⟨(some 5), (.assign (.const (.int .i64 0))), 3, none⟩])
 (.block 0
 k14_l0))
 (.seq
 (.ops [
 ⟨(some 26), (.move (.tmp 1)), 3, none⟩,
 ⟨(some 4), (.assign (.tmp 26)), 3, none⟩])
 .ret))
theorem slim14 : Tryd.f14.body.map (slim lends) = some k14 := by kernel_rfl
theorem ok14 : fnOk Tryd.f14 2 = true := by kernel_rfl
theorem c14 {a l : List D} {r : D × List D} (h : wpD Y.env k14 (fin tys l.length [ResultVar.tmp 4] r) (entry a l)) (ha : a.length = 2) : Y.call 14 a l = some r :=
 call_slim (Y := Y) rfl Tryd.func14 (ha ▸ ok14) slim14 h
def l_markValueOpS_l0_M (k : Int) (k1 : Int) (i : Int) (t100000_ : List (Int × Int)) (s : St) : Prop := (∃ w_, s.v 0 = D.vw [100000] (s.k 100000) w_) ∧ s.v 1 = D.int .i64 k1 ∧ s.v 5 = D.int .i64 i ∧ s.v 100000 = D.own 49 (cat2 .i64 .i64 t100000_)
def l_markValueOpS_l0_X (k : Int) (r : Int × (List (Int × Int))) (ex : Ex) (s : St) : Prop := ex = .exit 0 ∧ s.v 1 = D.int .i64 r.1 ∧ s.v 100000 = D.own 49 (cat2 .i64 .i64 r.2)
theorem l_markValueOpS_l0_wp (k : Int) {v : Int × Int × (List (Int × Int))} {s : St} {r : Int × (List (Int × Int))} (h : l_markValueOpS_l0 k v = some r) (hM : l_markValueOpS_l0_M k v.1 v.2.1 v.2.2 s) : wpD Y.env k14_l0 (l_markValueOpS_l0_X k r) s := by
 unfold l_markValueOpS_l0 at h
 refine wd_itO (c := k14_l0b) (fun v => l_markValueOpS_l0_S k v.1 v.2.1 v.2.2) (fun v s => l_markValueOpS_l0_M k v.1 v.2.1 v.2.2 s) (l_markValueOpS_l0_X k) ?_ h hM
 clear h hM s v r
 intro v s o hM h
 obtain ⟨k1, i, t100000_⟩ := v
 dsimp only at h hM
 unfold l_markValueOpS_l0_S at h
 unfold l_markValueOpS_l0_M at hM
 obtain ⟨⟨w0_, m0⟩, m1, m2, m3⟩ := hM
 unfold k14_l0b
 by_cases e1 : i < (t100000_.length : Int)
 ·rw [if_pos e1] at h
  obtain ⟨e2, h⟩ := ckS h
  obtain ⟨e3, h⟩ := ckS h
  obtain rfl := Option.some.inj h
  simp (maxDischargeDepth := 9) only [↓xpre, xpost, xlst, xc2, xcore, yset, rg0, ↓reduceIte, Nat.reduceEqDiff, Nat.reduceLT, Nat.reduceLeDiff, Nat.reduceAdd, Nat.reduceMul, Nat.reduceMod, Nat.reduceDiv, Nat.reducePow, Nat.reduceSub, Nat.reduceBEq, Int.reduceLE, Int.reduceLT, Int.reduceEq, Int.reduceSub, Int.reduceAdd, Int.reduceToNat, Int.reduceNeg, m0, m1, m2, m3, e1, e2.1, e2.2, e3.1, e3.2, l_markValueOpS_l0_M, l_markValueOpS_l0_X, sxN, sxE, sxR] <;> (repeat' apply And.intro) <;> first | rfl | exact ⟨_, rfl⟩ | exact ⟨_, _, rfl⟩ | simp [lst, cat2_nil]
 ·rw [if_neg e1] at h
  obtain rfl := Option.some.inj h
  simp (maxDischargeDepth := 9) only [↓xpre, xpost, xlst, xc2, xcore, yset, rg0, ↓reduceIte, Nat.reduceEqDiff, Nat.reduceLT, Nat.reduceLeDiff, Nat.reduceAdd, Nat.reduceMul, Nat.reduceMod, Nat.reduceDiv, Nat.reducePow, Nat.reduceSub, Nat.reduceBEq, Int.reduceLE, Int.reduceLT, Int.reduceEq, Int.reduceSub, Int.reduceAdd, Int.reduceToNat, Int.reduceNeg, m0, m1, m2, m3, e1, l_markValueOpS_l0_M, l_markValueOpS_l0_X, sxN, sxE, sxR] <;> (repeat' apply And.intro) <;> first | rfl | exact ⟨_, rfl⟩ | exact ⟨_, _, rfl⟩ | simp [lst, cat2_nil]
theorem l_markValueOpS_call (a : List (Int × Int)) (k : Int) {r : Int × (List (Int × Int))} (h : l_markValueOpS a k = some r) : Y.call 14 [D.vw [100000] 0 0, D.int .i64 k] [D.own 49 (cat2 .i64 .i64 a)] = some (D.int .i64 r.1, [D.own 49 (cat2 .i64 .i64 r.2)]) := by
 refine c14 ?_ rfl
 unfold k14
 unfold l_markValueOpS at h
 obtain ⟨r1000_, hl2, h⟩ := bindS h
 try dsimp only at h
 simp (maxDischargeDepth := 9) only [↓xpre, xpost, xlst, xc2, xcore, yset, rg0, ↓reduceIte, Nat.reduceEqDiff, Nat.reduceLT, Nat.reduceLeDiff, Nat.reduceAdd, Nat.reduceMul, Nat.reduceMod, Nat.reduceDiv, Nat.reducePow, Nat.reduceSub, Nat.reduceBEq, Int.reduceLE, Int.reduceLT, Int.reduceEq, Int.reduceSub, Int.reduceAdd, Int.reduceToNat, Int.reduceNeg]
 refine wd_mono (l_markValueOpS_l0_wp k hl2 ?_) ?_
 ·simp (maxDischargeDepth := 9) only [↓xpre, xpost, xlst, xc2, xcore, yset, rg0, ↓reduceIte, Nat.reduceEqDiff, Nat.reduceLT, Nat.reduceLeDiff, Nat.reduceAdd, Nat.reduceMul, Nat.reduceMod, Nat.reduceDiv, Nat.reducePow, Nat.reduceSub, Nat.reduceBEq, Int.reduceLE, Int.reduceLT, Int.reduceEq, Int.reduceSub, Int.reduceAdd, Int.reduceToNat, Int.reduceNeg, l_markValueOpS_l0_M] <;> (repeat' apply And.intro) <;> first | rfl | exact ⟨_, rfl⟩ | exact ⟨_, _, rfl⟩ | simp [lst, cat2_nil]
 ·intro ex2 s2 hX2
  unfold l_markValueOpS_l0_X at hX2
  obtain ⟨rfl, n2_0, n2_1⟩ := hX2
  obtain rfl := Option.some.inj h
  simp (maxDischargeDepth := 9) only [↓xpre, xpost, xlst, xc2, xcore, yset, rg0, ↓reduceIte, Nat.reduceEqDiff, Nat.reduceLT, Nat.reduceLeDiff, Nat.reduceAdd, Nat.reduceMul, Nat.reduceMod, Nat.reduceDiv, Nat.reducePow, Nat.reduceSub, Nat.reduceBEq, Int.reduceLE, Int.reduceLT, Int.reduceEq, Int.reduceSub, Int.reduceAdd, Int.reduceToNat, Int.reduceNeg, n2_0, n2_1] <;> (repeat' apply And.intro) <;> first | rfl | exact ⟨_, rfl⟩ | exact ⟨_, _, rfl⟩ | simp [lst, cat2_nil]

noncomputable def l_heldValueOpS_l0_S (a : List (Int × Int)) (k1 : Int) (i : Int) : Option ((Int × Int) ⊕ (Unit ⊕ Int)) :=
 if i < (a.length : Int) then
  ck (0 ≤ i ∧ i.toNat < a.length) <|
  if (fstD a i.toNat) = k1 then
   if (sndD a i.toNat) = (IntKind.i64.wrap (k1 + 1)) then
    some (Sum.inl (IntKind.i64.wrap ((IntKind.i64.wrap (k1 + 1)) + 1), IntKind.i64.wrap (i + 1)))
   else
    some (Sum.inr (Sum.inl ()))
  else
   some (Sum.inr (Sum.inl ()))
 else
  some (Sum.inr (Sum.inr k1))
noncomputable def l_heldValueOpS_l0 (a : List (Int × Int)) (v : Int × Int) : Option (Unit ⊕ Int) := itO (fun v => l_heldValueOpS_l0_S a v.1 v.2) v
noncomputable def l_heldValueOpS (a : List (Int × Int)) (k : Int) : Option (Int) :=
 (l_heldValueOpS_l0 a (k, 0)).bind fun r1000_ =>
 match r1000_ with
 | .inl q1000_ =>
  some (-1)
 | .inr q1000_ =>
  some q1000_
/-- laws.heldValueOpS -/
def k15_l0b : SC :=
 .seq
 (.seq
 (.ops [
 ⟨(some 6), (.move (.tmp 5)), 3, none⟩,
 ⟨(some 7), (.move (.tmp 0)), 26, none⟩,
 ⟨(some 8), (.call ⟨(.builtin .len), #[(.tmp 7)], #[26]⟩), 3, none⟩,
 ⟨(some 9), (.binOp .lss 3 (.tmp 6) (.tmp 8) 3), 4, none⟩])
 (.cond (.tmp 9)
 .skip
 (.exit 0)))
 (.seq
 (.block 1
 (.seq
 (.seq
 (.ops [
 ⟨(some 12), (.move (.tmp 0)), 26, none⟩,
 ⟨(some 13), (.move (.tmp 5)), 3, none⟩,
 ⟨(some 14), (.indexAddr 26 (.tmp 12) (.tmp 13)), 0, none⟩,
 ⟨(some 15), (.fieldAddr 49 (.tmp 14) 0), 0, none⟩,
 ⟨(some 16), (.load 3 (.tmp 15)), 3, none⟩,
 ⟨(some 17), (.move (.tmp 1)), 3, none⟩,
 ⟨(some 18), (.binOp .neq 3 (.tmp 16) (.tmp 17) 3), 4, none⟩])
 (.cond (.tmp 18)
 (.seq
 (.ops [
 ⟨(some 4), (.assign (.const (.int .i64 (-1)))), 3, none⟩])
 .ret)
 .skip))
 (.seq
 (.ops [
 ⟨(some 19), (.move (.tmp 1)), 3, none⟩,
 ⟨(some 20), (.binOp .add 3 (.tmp 19) (.const (.int .i64 1)) 3), 3, none⟩,
 ⟨(some 1), (.assign (.tmp 20)), 3, none⟩])
 (.seq
 (.seq
 (.ops [
 ⟨(some 21), (.move (.tmp 0)), 26, none⟩,
 ⟨(some 22), (.move (.tmp 5)), 3, none⟩,
 ⟨(some 23), (.indexAddr 26 (.tmp 21) (.tmp 22)), 0, none⟩,
 ⟨(some 24), (.fieldAddr 49 (.tmp 23) 1), 0, none⟩,
 ⟨(some 25), (.load 3 (.tmp 24)), 3, none⟩,
 ⟨(some 26), (.move (.tmp 1)), 3, none⟩,
 ⟨(some 27), (.binOp .neq 3 (.tmp 25) (.tmp 26) 3), 4, none⟩])
 (.cond (.tmp 27)
 (.seq
 (.ops [
 ⟨(some 4), (.assign (.const (.int .i64 (-1)))), 3, none⟩])
 .ret)
 .skip))
 (.ops [
 ⟨(some 28), (.move (.tmp 1)), 3, none⟩,
 ⟨(some 29), (.binOp .add 3 (.tmp 28) (.const (.int .i64 1)) 3), 3, none⟩,
 ⟨(some 1), (.assign (.tmp 29)), 3, none⟩])))))
 (.ops [
 ⟨(some 10), (.move (.tmp 5)), 3, none⟩,
 ⟨(some 11), (.binOp .add 3 (.tmp 10) (.const (.int .i64 1)) 3), 3, none⟩,
 ⟨(some 5), (.assign (.tmp 11)), 3, none⟩]))
def k15_l0 : SC := .loop k15_l0b
def k15 : SC :=
 .seq
 (.ops [
 ⟨(some 4), (.assign (.const (.int .i64 0))), 3, none⟩])
 (.seq
 (.seq
 (.ops [
 ⟨(some 5), (.assign (.const (.int .i64 0))), 3, none⟩])
 (.block 0
 k15_l0))
 (.seq
 (.ops [
 ⟨(some 30), (.move (.tmp 1)), 3, none⟩,
 ⟨(some 4), (.assign (.tmp 30)), 3, none⟩])
 .ret))
theorem slim15 : Tryd.f15.body.map (slim lends) = some k15 := by kernel_rfl
theorem ok15 : fnOk Tryd.f15 2 = true := by kernel_rfl
theorem c15 {a l : List D} {r : D × List D} (h : wpD Y.env k15 (fin tys l.length [ResultVar.tmp 4] r) (entry a l)) (ha : a.length = 2) : Y.call 15 a l = some r :=
 call_slim (Y := Y) rfl Tryd.func15 (ha ▸ ok15) slim15 h
def l_heldValueOpS_l0_M (a : List (Int × Int)) (k1 : Int) (i : Int) (s : St) : Prop := s.v 0 = D.sl 49 (cat2 .i64 .i64 a) ∧ s.v 1 = D.int .i64 k1 ∧ s.v 5 = D.int .i64 i
def l_heldValueOpS_l0_X (a : List (Int × Int)) (r : Unit ⊕ Int) (ex : Ex) (s : St) : Prop := match r with
 | .inl q => ex = .ret ∧ s.v 4 = D.int .i64 (-1)
 | .inr q => ex = .exit 0 ∧ s.v 1 = D.int .i64 q
theorem l_heldValueOpS_l0_wp (a : List (Int × Int)) {v : Int × Int} {s : St} {r : Unit ⊕ Int} (h : l_heldValueOpS_l0 a v = some r) (hM : l_heldValueOpS_l0_M a v.1 v.2 s) : wpD Y.env k15_l0 (l_heldValueOpS_l0_X a r) s := by
 unfold l_heldValueOpS_l0 at h
 refine wd_itO (c := k15_l0b) (fun v => l_heldValueOpS_l0_S a v.1 v.2) (fun v s => l_heldValueOpS_l0_M a v.1 v.2 s) (l_heldValueOpS_l0_X a) ?_ h hM
 clear h hM s v r
 intro v s o hM h
 obtain ⟨k1, i⟩ := v
 dsimp only at h hM
 unfold l_heldValueOpS_l0_S at h
 unfold l_heldValueOpS_l0_M at hM
 obtain ⟨m0, m1, m2⟩ := hM
 unfold k15_l0b
 by_cases e1 : i < (a.length : Int)
 ·rw [if_pos e1] at h
  obtain ⟨e2, h⟩ := ckS h
  by_cases e3 : (fstD a i.toNat) = k1
  ·rw [if_pos e3] at h
   by_cases e4 : (sndD a i.toNat) = (IntKind.i64.wrap (k1 + 1))
   ·rw [if_pos e4] at h
    obtain rfl := Option.some.inj h
    simp (maxDischargeDepth := 9) only [↓xpre, xpost, xlst, xc2, xcore, yset, rg0, ↓reduceIte, Nat.reduceEqDiff, Nat.reduceLT, Nat.reduceLeDiff, Nat.reduceAdd, Nat.reduceMul, Nat.reduceMod, Nat.reduceDiv, Nat.reducePow, Nat.reduceSub, Nat.reduceBEq, Int.reduceLE, Int.reduceLT, Int.reduceEq, Int.reduceSub, Int.reduceAdd, Int.reduceToNat, Int.reduceNeg, m0, m1, m2, e1, e2.1, e2.2, decide_eq_true e3, decide_eq_true e4, l_heldValueOpS_l0_M, l_heldValueOpS_l0_X, sxN, sxE, sxR] <;> (repeat' apply And.intro) <;> first | rfl | exact ⟨_, rfl⟩ | exact ⟨_, _, rfl⟩ | simp [lst, cat2_nil]
   ·rw [if_neg e4] at h
    obtain rfl := Option.some.inj h
    simp (maxDischargeDepth := 9) only [↓xpre, xpost, xlst, xc2, xcore, yset, rg0, ↓reduceIte, Nat.reduceEqDiff, Nat.reduceLT, Nat.reduceLeDiff, Nat.reduceAdd, Nat.reduceMul, Nat.reduceMod, Nat.reduceDiv, Nat.reducePow, Nat.reduceSub, Nat.reduceBEq, Int.reduceLE, Int.reduceLT, Int.reduceEq, Int.reduceSub, Int.reduceAdd, Int.reduceToNat, Int.reduceNeg, m0, m1, m2, e1, e2.1, e2.2, decide_eq_true e3, e4, l_heldValueOpS_l0_M, l_heldValueOpS_l0_X, sxN, sxE, sxR] <;> (repeat' apply And.intro) <;> first | rfl | exact ⟨_, rfl⟩ | exact ⟨_, _, rfl⟩ | simp [lst, cat2_nil]
  ·rw [if_neg e3] at h
   obtain rfl := Option.some.inj h
   simp (maxDischargeDepth := 9) only [↓xpre, xpost, xlst, xc2, xcore, yset, rg0, ↓reduceIte, Nat.reduceEqDiff, Nat.reduceLT, Nat.reduceLeDiff, Nat.reduceAdd, Nat.reduceMul, Nat.reduceMod, Nat.reduceDiv, Nat.reducePow, Nat.reduceSub, Nat.reduceBEq, Int.reduceLE, Int.reduceLT, Int.reduceEq, Int.reduceSub, Int.reduceAdd, Int.reduceToNat, Int.reduceNeg, m0, m1, m2, e1, e2.1, e2.2, e3, l_heldValueOpS_l0_M, l_heldValueOpS_l0_X, sxN, sxE, sxR] <;> (repeat' apply And.intro) <;> first | rfl | exact ⟨_, rfl⟩ | exact ⟨_, _, rfl⟩ | simp [lst, cat2_nil]
 ·rw [if_neg e1] at h
  obtain rfl := Option.some.inj h
  simp (maxDischargeDepth := 9) only [↓xpre, xpost, xlst, xc2, xcore, yset, rg0, ↓reduceIte, Nat.reduceEqDiff, Nat.reduceLT, Nat.reduceLeDiff, Nat.reduceAdd, Nat.reduceMul, Nat.reduceMod, Nat.reduceDiv, Nat.reducePow, Nat.reduceSub, Nat.reduceBEq, Int.reduceLE, Int.reduceLT, Int.reduceEq, Int.reduceSub, Int.reduceAdd, Int.reduceToNat, Int.reduceNeg, m0, m1, m2, e1, l_heldValueOpS_l0_M, l_heldValueOpS_l0_X, sxN, sxE, sxR] <;> (repeat' apply And.intro) <;> first | rfl | exact ⟨_, rfl⟩ | exact ⟨_, _, rfl⟩ | simp [lst, cat2_nil]
theorem l_heldValueOpS_call (a : List (Int × Int)) (k : Int) {r : Int} (h : l_heldValueOpS a k = some r) : Y.call 15 [D.sl 49 (cat2 .i64 .i64 a), D.int .i64 k] [] = some (D.int .i64 r, []) := by
 refine c15 ?_ rfl
 unfold k15
 unfold l_heldValueOpS at h
 obtain ⟨r1000_, hl2, h⟩ := bindS h
 try dsimp only at h
 simp (maxDischargeDepth := 9) only [↓xpre, xpost, xlst, xc2, xcore, yset, rg0, ↓reduceIte, Nat.reduceEqDiff, Nat.reduceLT, Nat.reduceLeDiff, Nat.reduceAdd, Nat.reduceMul, Nat.reduceMod, Nat.reduceDiv, Nat.reducePow, Nat.reduceSub, Nat.reduceBEq, Int.reduceLE, Int.reduceLT, Int.reduceEq, Int.reduceSub, Int.reduceAdd, Int.reduceToNat, Int.reduceNeg]
 refine wd_mono (l_heldValueOpS_l0_wp a hl2 ?_) ?_
 ·simp (maxDischargeDepth := 9) only [↓xpre, xpost, xlst, xc2, xcore, yset, rg0, ↓reduceIte, Nat.reduceEqDiff, Nat.reduceLT, Nat.reduceLeDiff, Nat.reduceAdd, Nat.reduceMul, Nat.reduceMod, Nat.reduceDiv, Nat.reducePow, Nat.reduceSub, Nat.reduceBEq, Int.reduceLE, Int.reduceLT, Int.reduceEq, Int.reduceSub, Int.reduceAdd, Int.reduceToNat, Int.reduceNeg, l_heldValueOpS_l0_M] <;> (repeat' apply And.intro) <;> first | rfl | exact ⟨_, rfl⟩ | exact ⟨_, _, rfl⟩ | simp [lst, cat2_nil]
 ·intro ex2 s2 hX2
  rcases r1000_ with q1000_ | q1000_
  ·unfold l_heldValueOpS_l0_X at hX2
   dsimp only at hX2 h
   obtain ⟨rfl, n2_0⟩ := hX2
   obtain rfl := Option.some.inj h
   simp (maxDischargeDepth := 9) only [↓xpre, xpost, xlst, xc2, xcore, yset, rg0, ↓reduceIte, Nat.reduceEqDiff, Nat.reduceLT, Nat.reduceLeDiff, Nat.reduceAdd, Nat.reduceMul, Nat.reduceMod, Nat.reduceDiv, Nat.reducePow, Nat.reduceSub, Nat.reduceBEq, Int.reduceLE, Int.reduceLT, Int.reduceEq, Int.reduceSub, Int.reduceAdd, Int.reduceToNat, Int.reduceNeg, n2_0] <;> (repeat' apply And.intro) <;> first | rfl | exact ⟨_, rfl⟩ | exact ⟨_, _, rfl⟩ | simp [lst, cat2_nil]
  ·unfold l_heldValueOpS_l0_X at hX2
   dsimp only at hX2 h
   obtain ⟨rfl, n2_0⟩ := hX2
   obtain rfl := Option.some.inj h
   simp (maxDischargeDepth := 9) only [↓xpre, xpost, xlst, xc2, xcore, yset, rg0, ↓reduceIte, Nat.reduceEqDiff, Nat.reduceLT, Nat.reduceLeDiff, Nat.reduceAdd, Nat.reduceMul, Nat.reduceMod, Nat.reduceDiv, Nat.reducePow, Nat.reduceSub, Nat.reduceBEq, Int.reduceLE, Int.reduceLT, Int.reduceEq, Int.reduceSub, Int.reduceAdd, Int.reduceToNat, Int.reduceNeg, n2_0] <;> (repeat' apply And.intro) <;> first | rfl | exact ⟨_, rfl⟩ | exact ⟨_, _, rfl⟩ | simp [lst, cat2_nil]

theorem l_markValueOpS_eq (a : List (Int × Int)) (k : Int) (ha : a.length < 549755813888) (hk : 0 ≤ k ∧ k + 2 * (a.length : Int) < 1099511627776) : l_markValueOpS a k = some (k + 2 * (a.length : Int), prs k a.length) := by
 have key := itO_for (fun v => l_markValueOpS_l0_S k v.1 v.2.1 v.2.2) (fun i => (k + 2 * (i : Int), (i : Int), prs k i ++ a.drop i)) a.length (k + 2 * (a.length : Int), prs k a.length) ?_ ?_
 ·unfold l_markValueOpS l_markValueOpS_l0
  have e0 : prs k 0 = [] := rfl
  simp only [Int.natCast_zero, Int.mul_zero, Int.add_zero, List.drop_zero, e0, List.nil_append] at key
  rw [key]; rfl
 ·intro i hi
  simp only [l_markValueOpS_l0_S]
  have el : (prs k i ++ a.drop i).length = a.length := by simp [prs_len]; omega
  rw [el, if_pos (lt_nat hi), ckT (ix_nat hi), Int.toNat_natCast, ckT (by rw [List.length_set, el]; omega), fstD_set _ _ _ (by rw [el]; exact hi), List.set_set, wrS i (by omega), wr64 (k + 2 * (i : Int) + 1) (by omega), wr64 (k + 2 * (i : Int) + 1 + 1) (by omega), set_at _ _ _ _ (prs_len k i) hi, ← prs_succ]
  rw [show k + 2 * (i : Int) + 1 + 1 = k + 2 * ((i + 1 : Nat) : Int) by omega]
 ·simp only [l_markValueOpS_l0_S]
  have el : (prs k a.length ++ a.drop a.length).length = a.length := by simp [prs_len]
  rw [el, if_neg (not_lt_nat _)]; simp
theorem l_heldValueOpS_eq (n : Nat) (k : Int) (hn : n < 549755813888) (hk : 0 ≤ k ∧ k + 2 * (n : Int) < 1099511627776) : l_heldValueOpS (prs k n) k = some (k + 2 * (n : Int)) := by
 have key := itO_for (fun v => l_heldValueOpS_l0_S (prs k n) v.1 v.2) (fun i => (k + 2 * (i : Int), (i : Int))) n (.inr (k + 2 * (n : Int))) ?_ ?_
 ·unfold l_heldValueOpS l_heldValueOpS_l0
  simp only [Int.natCast_zero, Int.mul_zero, Int.add_zero] at key
  rw [key]; rfl
 ·intro i hi
  simp only [l_heldValueOpS_l0_S]
  rw [prs_len, if_pos (lt_nat hi), ckT (ix_nat hi), Int.toNat_natCast, fst_prs k n i hi, snd_prs k n i hi, if_pos rfl, wr64 (k + 2 * (i : Int) + 1) (by omega), if_pos rfl, wrS i (by omega), wr64 _ (by omega)]
  rw [show k + 2 * (i : Int) + 1 + 1 = k + 2 * ((i + 1 : Nat) : Int) by omega]
 ·simp only [l_heldValueOpS_l0_S]
  rw [prs_len, if_neg (not_lt_nat _)]

end Go.Proofs.YtaogbcdlpgfplaaDoor
