/- Copies, comparisons, sizes and marks of numbers in lists, as plain functions. Conditions: the lists are short. -/
import Derived.Test.YtipfckompmhljaaL6
import Derived.Test.YtipfckompmhljaaDt
namespace Go.Proofs.Ytipfckompmhljaa
open Go Dv
set_option linter.unusedSimpArgs false
set_option linter.unusedVariables false
set_option maxRecDepth 100000
set_option maxHeartbeats 4000000

/-- Lists whose lists are short. -/
def Short (l : List (List Int)) : Prop := l.length < 1099511627776 ∧ ∀ x ∈ l, x.length < 1099511627776
theorem Short.nil : Short [] := ⟨by decide, fun _ h => by cases h⟩
theorem Short.at {l : List (List Int)} (h : Short l) (i : Nat) (hi : i < l.length) : l[i].length < 1099511627776 := h.2 _ (List.getElem_mem hi)
instance (l : List (List Int)) : Decidable (Short l) := by unfold Short; infer_instance
theorem set_mid {α : Type} [Inhabited α] (xs : List α) (i : Nat) (h : i < xs.length) (z : α) : (xs.take i ++ List.replicate (xs.length - i) z).set i xs[i] = xs.take (i + 1) ++ List.replicate (xs.length - (i + 1)) z := by
 have e : xs.length - i = (xs.length - (i + 1)) + 1 := by omega
 rw [e, List.replicate_succ, List.set_append_right _ _ (by simp; omega), List.take_succ_eq_append_getElem h]
 have : i - (xs.take i).length = 0 := by simp; omega
 rw [this, List.set_cons_zero, List.append_assoc]; rfl
noncomputable def l_toIntS_l0_S (a out : List Int) (i : Int) : Option (((List Int) × Int) ⊕ ((List Int))) :=
 if i < (a.length : Int) then
  ck (0 ≤ i ∧ i.toNat < a.length) <|
  ck (0 ≤ i ∧ i.toNat < out.length) <|
  some (Sum.inl ((out.set i.toNat (a.getD i.toNat default)), IntKind.i64.wrap (i + 1)))
 else
  some (Sum.inr out)
noncomputable def l_toIntS_l0 (a : List Int) (v : (List Int) × Int) : Option ((List Int)) := itO (fun v => l_toIntS_l0_S a v.1 v.2) v
noncomputable def l_toIntS (a : List Int) : Option ((List Int)) :=
 ck (0 ≤ (a.length : Int) ∧ (a.length : Int) < 1099511627776) <|
 (l_toIntS_l0 a ((List.replicate a.length 0), 0)).bind fun r3_ =>
 some r3_
/-- laws.toIntS -/
def k11_l0b : SC :=
 .seq
 (.seq
 (.ops [
 ⟨some 8, .move (.tmp 4), 3, none⟩,
 ⟨some 9, .move (.tmp 0), 23, none⟩,
 ⟨some 10, .call ⟨(.builtin .len), #[(.tmp 9)], #[23]⟩, 3, none⟩,
 ⟨some 11, .binOp .lss 3 (.tmp 8) (.tmp 10) 3, 4, none⟩])
 (.cond (.tmp 11)
 .skip
 (.exit 0)))
 (.seq
 (.block 1
 (.ops [
 ⟨some 14, .move (.tmp 3), 23, none⟩,
 ⟨some 15, .move (.tmp 4), 3, none⟩,
 ⟨some 16, .move (.tmp 0), 23, none⟩,
 ⟨some 17, .move (.tmp 4), 3, none⟩,
 ⟨some 18, .indexAddr 23 (.tmp 16) (.tmp 17), 0, none⟩,
 ⟨some 19, .load 3 (.tmp 18), 3, none⟩,
 ⟨some 20, .indexAddr 23 (.tmp 14) (.tmp 15), 0, none⟩,
 ⟨none, .store 3 (.tmp 20) (.tmp 19), 0, none⟩]))
 (.ops [
 ⟨some 12, .move (.tmp 4), 3, none⟩,
 ⟨some 13, .binOp .add 3 (.tmp 12) (.const (.int .i64 1)) 3, 3, none⟩,
 ⟨some 4, .assign (.tmp 13), 3, none⟩]))
def k11_l0 : SC := .loop k11_l0b
def k11 : SC :=
 .seq
 (.ops [
 ⟨some 2, .assign (.const (.slice none 0 0)), 23, none⟩])
 (.seq
 (.ops [
 ⟨some 5, .move (.tmp 0), 23, none⟩,
 ⟨some 6, .call ⟨(.builtin .len), #[(.tmp 5)], #[23]⟩, 3, none⟩,
 ⟨some 7, .makeSlice 23 (.tmp 6) (.tmp 6), 23, none⟩,
 ⟨some 3, .assign (.tmp 7), 23, none⟩])
 (.seq
 (.seq
 (.ops [
 ⟨some 4, .assign (.const (.int .i64 0)), 3, none⟩])
 (.block 0
 k11_l0))
 (.seq
 (.ops [
 ⟨some 21, .move (.tmp 3), 23, none⟩,
 ⟨some 2, .assign (.tmp 21), 23, none⟩])
 .ret)))
theorem slim11 : Try.f11.body.map (slim lends) = some k11 := by kernel_rfl
theorem ok11 : fnOk Try.f11 1 = true := by kernel_rfl
theorem c11 {a l : List D} {r : D × List D} (h : wpD Y.env k11 (fin tys l.length [ResultVar.tmp 2] r) (entry a l)) (ha : a.length = 1) : Y.call 11 a l = some r :=
 call_slim (Y := Y) rfl Try.func11 (ha ▸ ok11) slim11 h
def l_toIntS_l0_M (a out : List Int) (i : Int) (s : St) : Prop := s.v 0 = D.sl 3 (lst (D.int .i64) a) ∧ s.v 3 = D.own 3 (lst (D.int .i64) out) ∧ s.v 4 = D.int .i64 i
def l_toIntS_l0_X (a : List Int) (r : (List Int)) (ex : Ex) (s : St) : Prop := ex = .exit 0 ∧ s.v 3 = D.own 3 (lst (D.int .i64) r)
theorem l_toIntS_l0_wp (a : List Int) {v : (List Int) × Int} {s : St} {r : (List Int)} (h : l_toIntS_l0 a v = some r) (hM : l_toIntS_l0_M a v.1 v.2 s) : wpD Y.env k11_l0 (l_toIntS_l0_X a r) s := by
 unfold l_toIntS_l0 at h
 refine wd_itO (c := k11_l0b) (fun v => l_toIntS_l0_S a v.1 v.2) (fun v s => l_toIntS_l0_M a v.1 v.2 s) (l_toIntS_l0_X a) ?_ h hM
 clear h hM s v r
 intro v s o hM h
 obtain ⟨out, i⟩ := v
 dsimp only at h hM
 unfold l_toIntS_l0_S at h
 unfold l_toIntS_l0_M at hM
 obtain ⟨m0, m1, m2⟩ := hM
 unfold k11_l0b
 by_cases e2 : i < (a.length : Int)
 ·rw [if_pos e2] at h
  obtain ⟨e3, h⟩ := ckS h
  obtain ⟨e4, h⟩ := ckS h
  cases h
  simp (maxDischargeDepth := 9) only [↓xpre, xpost, xlst, xcore, yset, ↓reduceIte, Nat.reduceEqDiff, Nat.reduceLT, m0, m1, m2, e2, e3.1, e3.2, e4.2, l_toIntS_l0_M, sxN] <;> (repeat' apply And.intro) <;> first | rfl | exact ⟨_, rfl⟩ | exact ⟨_, _, rfl⟩ | simp [lst, cat2_nil]
 ·rw [if_neg e2] at h
  cases h
  simp (maxDischargeDepth := 9) only [↓xpre, xpost, xlst, yset, ↓reduceIte, Nat.reduceEqDiff, Nat.reduceLT, m0, m1, m2, e2, l_toIntS_l0_M, l_toIntS_l0_X, sxE] <;> (repeat' apply And.intro) <;> first | rfl | exact ⟨_, rfl⟩ | exact ⟨_, _, rfl⟩ | simp [lst, cat2_nil]
theorem l_toIntS_call (a : List Int) {r : (List Int)} (h : l_toIntS a = some r) : Y.call 11 [D.sl 3 (lst (D.int .i64) a)] [] = some (D.own 3 (lst (D.int .i64) r), []) := by
 refine c11 ?_ rfl
 unfold k11
 unfold l_toIntS at h
 obtain ⟨e1, h⟩ := ckS h
 obtain ⟨r3_, hl3, h⟩ := bindS h
 try dsimp only at h
 simp (maxDischargeDepth := 9) only [↓xpre, xpost, xlst, xcore, yset, ↓reduceIte, Nat.reduceEqDiff, Nat.reduceLT, Nat.reduceLeDiff, e1.1, e1.2]
 refine wd_mono (l_toIntS_l0_wp a hl3 ?_) ?_
 ·simp (maxDischargeDepth := 9) only [xpost, xcore, ↓reduceIte, Nat.reduceEqDiff, Nat.reduceLT, l_toIntS_l0_M] <;> (repeat' apply And.intro) <;> first | rfl | exact ⟨_, rfl⟩ | exact ⟨_, _, rfl⟩ | simp [lst, cat2_nil]
 ·intro ex3 s3 hX3
  unfold l_toIntS_l0_X at hX3
  obtain ⟨rfl, n3_0⟩ := hX3
  cases h
  simp (maxDischargeDepth := 9) only [↓xpre, xpost, xlst, xcore, ↓reduceIte, Nat.reduceEqDiff, Nat.reduceLT, n3_0] <;> (repeat' apply And.intro) <;> first | rfl | exact ⟨_, rfl⟩ | exact ⟨_, _, rfl⟩ | simp [lst, cat2_nil]

theorem l_toIntS_eq (a : List Int) (h : a.length < 1099511627776) : l_toIntS a = some a := by
 have key := itO_for (fun v => l_toIntS_l0_S a v.1 v.2) (fun i => (a.take i ++ List.replicate (a.length - i) 0, (i : Int))) a.length a ?_ ?_
 ·unfold l_toIntS l_toIntS_l0
  rw [ckT (by omega)]
  simp only [List.take_zero, List.nil_append, Nat.sub_zero, Int.natCast_zero] at key
  rw [key]; rfl
 ·intro i hi
  simp only [l_toIntS_l0_S]
  rw [if_pos (lt_nat hi), ckT (ix_nat hi), ckT (ix_nat (by simp; omega)), getD_nat _ _ hi, Int.toNat_natCast, set_mid a i hi 0, wrS i (by omega)]
 ·simp only [l_toIntS_l0_S]
  rw [if_neg (not_lt_nat _)]; simp
theorem l_toIntS_cl (a : List Int) (h0 : a.length < 1099511627776) : Y.call 11 [D.sl 3 (lst (D.int .i64) a)] [] = some (D.own 3 (lst (D.int .i64) a), []) := l_toIntS_call a (l_toIntS_eq a h0)
noncomputable def l_eqIntS_l0_S (a b : List Int) (i : Int) : Option ((Int) ⊕ (Unit ⊕ Unit)) :=
 if i < (a.length : Int) then
  ck (0 ≤ i ∧ i.toNat < a.length) <|
  ck (0 ≤ i ∧ i.toNat < b.length) <|
  if (a.getD i.toNat default) = (b.getD i.toNat default) then
   some (Sum.inl (IntKind.i64.wrap (i + 1)))
  else
   some (Sum.inr (Sum.inl ()))
 else
  some (Sum.inr (Sum.inr ()))
noncomputable def l_eqIntS_l0 (a b : List Int) (v : Int) : Option (Unit ⊕ Unit) := itO (fun v => l_eqIntS_l0_S a b v) v
noncomputable def l_eqIntS (a b : List Int) : Option (Bool) :=
 if (a.length : Int) = (b.length : Int) then
  (l_eqIntS_l0 a b 0).bind fun r3_ =>
  match r3_ with
  | .inl q3_ =>
   some false
  | .inr q3_ =>
   some true
 else
  some false
/-- laws.eqIntS -/
def k14_l0b : SC :=
 .seq
 (.seq
 (.ops [
 ⟨some 11, .move (.tmp 5), 3, none⟩,
 ⟨some 12, .move (.tmp 0), 23, none⟩,
 ⟨some 13, .call ⟨(.builtin .len), #[(.tmp 12)], #[23]⟩, 3, none⟩,
 ⟨some 14, .binOp .lss 3 (.tmp 11) (.tmp 13) 3, 4, none⟩])
 (.cond (.tmp 14)
 .skip
 (.exit 0)))
 (.seq
 (.block 1
 (.seq
 (.draws [
 (⟨[17, 0, 0], [17, 18, 19, 20, 21, 22, 23, 24, 25], [17]⟩, ⟨some 17, .move (.tmp 0), 23, none⟩),
 (⟨[18, 5, 5], [17, 18, 19, 20, 21, 22, 23, 24, 25], [18]⟩, ⟨some 18, .move (.tmp 5), 3, none⟩),
 (⟨[19, 17, 18, 0, 5], [17, 18, 19, 20, 21, 22, 23, 24, 25], [19]⟩, ⟨some 19, .indexAddr 23 (.tmp 17) (.tmp 18), 0, none⟩),
 (⟨[20, 19, 0], [17, 18, 19, 20, 21, 22, 23, 24, 25], [20]⟩, ⟨some 20, .load 3 (.tmp 19), 3, none⟩),
 (⟨[21, 1, 1], [17, 18, 19, 20, 21, 22, 23, 24, 25], [21]⟩, ⟨some 21, .move (.tmp 1), 23, none⟩),
 (⟨[22, 5, 5], [17, 18, 19, 20, 21, 22, 23, 24, 25], [22]⟩, ⟨some 22, .move (.tmp 5), 3, none⟩),
 (⟨[23, 21, 22, 1, 5], [17, 18, 19, 20, 21, 22, 23, 24, 25], [23]⟩, ⟨some 23, .indexAddr 23 (.tmp 21) (.tmp 22), 0, none⟩),
 (⟨[24, 23, 1], [17, 18, 19, 20, 21, 22, 23, 24, 25], [24]⟩, ⟨some 24, .load 3 (.tmp 23), 3, none⟩),
 (⟨[25, 20, 24, 0, 1], [17, 18, 19, 20, 21, 22, 23, 24, 25], [25]⟩, ⟨some 25, .binOp .neq 3 (.tmp 20) (.tmp 24) 3, 4, none⟩)])
 (.cond (.tmp 25)
 (.seq
 (.ops [
 ⟨some 4, .assign (.const (.bool false)), 4, none⟩])
 .ret)
 .skip)))
 (.ops [
 ⟨some 15, .move (.tmp 5), 3, none⟩,
 ⟨some 16, .binOp .add 3 (.tmp 15) (.const (.int .i64 1)) 3, 3, none⟩,
 ⟨some 5, .assign (.tmp 16), 3, none⟩]))
def k14_l0 : SC := .loop k14_l0b
def k14 : SC :=
 .seq
 (.ops [
 ⟨some 4, .assign (.const (.bool false)), 4, none⟩])
 (.seq
 (.seq
 (.ops [
 ⟨some 6, .move (.tmp 0), 23, none⟩,
 ⟨some 7, .call ⟨(.builtin .len), #[(.tmp 6)], #[23]⟩, 3, none⟩,
 ⟨some 8, .move (.tmp 1), 23, none⟩,
 ⟨some 9, .call ⟨(.builtin .len), #[(.tmp 8)], #[23]⟩, 3, none⟩,
 ⟨some 10, .binOp .neq 3 (.tmp 7) (.tmp 9) 3, 4, none⟩])
 (.cond (.tmp 10)
 (.seq
 (.ops [
 ⟨some 4, .assign (.const (.bool false)), 4, none⟩])
 .ret)
 .skip))
 (.seq
 (.seq
 (.ops [
 ⟨some 5, .assign (.const (.int .i64 0)), 3, none⟩])
 (.block 0
 k14_l0))
 (.seq
 (.ops [
 ⟨some 4, .assign (.const (.bool true)), 4, none⟩])
 .ret)))
theorem slim14 : Try.f14.body.map (slim lends) = some k14 := by kernel_rfl
theorem ok14 : fnOk Try.f14 2 = true := by kernel_rfl
theorem c14 {a l : List D} {r : D × List D} (h : wpD Y.env k14 (fin tys l.length [ResultVar.tmp 4] r) (entry a l)) (ha : a.length = 2) : Y.call 14 a l = some r :=
 call_slim (Y := Y) rfl Try.func14 (ha ▸ ok14) slim14 h
def l_eqIntS_l0_M (a b : List Int) (i : Int) (s : St) : Prop := s.v 0 = D.sl 3 (lst (D.int .i64) a) ∧ s.v 1 = D.sl 3 (lst (D.int .i64) b) ∧ s.v 5 = D.int .i64 i
def l_eqIntS_l0_X (a b : List Int) (r : Unit ⊕ Unit) (ex : Ex) (s : St) : Prop := match r with
 | .inl q => ex = .ret ∧ s.v 4 = D.bool false
 | .inr q => ex = .exit 0
theorem l_eqIntS_l0_wp (a b : List Int) {v : Int} {s : St} {r : Unit ⊕ Unit} (h : l_eqIntS_l0 a b v = some r) (hM : l_eqIntS_l0_M a b v s) : wpD Y.env k14_l0 (l_eqIntS_l0_X a b r) s := by
 unfold l_eqIntS_l0 at h
 refine wd_itO (c := k14_l0b) (fun v => l_eqIntS_l0_S a b v) (fun v s => l_eqIntS_l0_M a b v s) (l_eqIntS_l0_X a b) ?_ h hM
 clear h hM s v r
 intro i s o hM h
 unfold l_eqIntS_l0_S at h
 unfold l_eqIntS_l0_M at hM
 obtain ⟨m0, m1, m2⟩ := hM
 unfold k14_l0b
 by_cases e2 : i < (a.length : Int)
 ·rw [if_pos e2] at h
  obtain ⟨e3, h⟩ := ckS h
  obtain ⟨e4, h⟩ := ckS h
  by_cases e5 : (a.getD i.toNat default) = (b.getD i.toNat default)
  ·rw [if_pos e5] at h
   cases h
   simp (maxDischargeDepth := 9) only [↓xpre, xpost, xlst, xcore, yset, ↓reduceIte, Nat.reduceEqDiff, Nat.reduceLT, m0, m1, m2, e2, e3.1, e3.2, e4.2, decide_eq_true e5, l_eqIntS_l0_M, sxN] <;> (repeat' apply And.intro) <;> first | rfl | exact ⟨_, rfl⟩ | exact ⟨_, _, rfl⟩ | simp [lst, cat2_nil]
  ·rw [if_neg e5] at h
   cases h
   simp (maxDischargeDepth := 9) only [↓xpre, xpost, xlst, xcore, yset, ↓reduceIte, Nat.reduceEqDiff, Nat.reduceLT, m0, m1, m2, e2, e3.1, e3.2, e4.2, e5, l_eqIntS_l0_M, l_eqIntS_l0_X, sxR] <;> (repeat' apply And.intro) <;> first | rfl | exact ⟨_, rfl⟩ | exact ⟨_, _, rfl⟩ | simp [lst, cat2_nil]
 ·rw [if_neg e2] at h
  cases h
  simp (maxDischargeDepth := 9) only [↓xpre, xpost, xlst, yset, ↓reduceIte, Nat.reduceEqDiff, Nat.reduceLT, m0, m2, e2, l_eqIntS_l0_M, l_eqIntS_l0_X, sxE] <;> (repeat' apply And.intro) <;> first | rfl | exact ⟨_, rfl⟩ | exact ⟨_, _, rfl⟩ | simp [lst, cat2_nil]
theorem l_eqIntS_call (a b : List Int) {r : Bool} (h : l_eqIntS a b = some r) : Y.call 14 [D.sl 3 (lst (D.int .i64) a), D.sl 3 (lst (D.int .i64) b)] [] = some (D.bool r, []) := by
 refine c14 ?_ rfl
 unfold k14
 unfold l_eqIntS at h
 by_cases e1 : (a.length : Int) = (b.length : Int)
 ·rw [if_pos e1] at h
  obtain ⟨r3_, hl3, h⟩ := bindS h
  try dsimp only at h
  simp (maxDischargeDepth := 9) only [↓xpre, xpost, xlst, xcore, yset, ↓reduceIte, Nat.reduceEqDiff, Nat.reduceLT, decide_eq_true e1]
  refine wd_mono (l_eqIntS_l0_wp a b hl3 ?_) ?_
  ·simp (maxDischargeDepth := 9) only [xpost, xcore, ↓reduceIte, Nat.reduceEqDiff, Nat.reduceLT, l_eqIntS_l0_M] <;> (repeat' apply And.intro) <;> first | rfl | exact ⟨_, rfl⟩ | exact ⟨_, _, rfl⟩ | simp [lst, cat2_nil]
  ·intro ex3 s3 hX3
   rcases r3_ with q3_ | q3_
   ·unfold l_eqIntS_l0_X at hX3
    dsimp only at hX3 h
    obtain ⟨rfl, n3_0⟩ := hX3
    cases h
    simp (maxDischargeDepth := 9) only [↓xpre, xpost, xcore, ↓reduceIte, n3_0] <;> (repeat' apply And.intro) <;> first | rfl | exact ⟨_, rfl⟩ | exact ⟨_, _, rfl⟩ | simp [lst, cat2_nil]
   ·unfold l_eqIntS_l0_X at hX3
    dsimp only at hX3 h
    obtain rfl := hX3
    cases h
    simp (maxDischargeDepth := 9) only [↓xpre, xpost, xcore, yset, ↓reduceIte, Nat.reduceEqDiff, Nat.reduceLT] <;> (repeat' apply And.intro) <;> first | rfl | exact ⟨_, rfl⟩ | exact ⟨_, _, rfl⟩ | simp [lst, cat2_nil]
 ·rw [if_neg e1] at h
  cases h
  simp (maxDischargeDepth := 9) only [↓xpre, xpost, xlst, xcore, yset, ↓reduceIte, Nat.reduceEqDiff, Nat.reduceLT, e1] <;> (repeat' apply And.intro) <;> first | rfl | exact ⟨_, rfl⟩ | exact ⟨_, _, rfl⟩ | simp [lst, cat2_nil]

theorem l_eqIntS_eq (a b : List Int) (ha : a.length < 1099511627776) : l_eqIntS a b = some (decide (a = b)) := by
 unfold l_eqIntS l_eqIntS_l0
 by_cases hl : a.length = b.length
 ·rw [if_pos (by omega)]
  have key := itO_all (fun v => l_eqIntS_l0_S a b v) (fun i => (i : Int)) a.length (fun i => decide (a.getD i default = b.getD i default)) (.inl ()) (.inr ()) ?_ ?_
  ·simp only [Int.natCast_zero] at key
   rw [key, all_same a b hl]
   by_cases he : a = b <;> simp [he]
  ·intro i hi
   simp only [l_eqIntS_l0_S]
   rw [if_pos (lt_nat hi), ckT (ix_nat hi), ckT (ix_nat (by omega)), Int.toNat_natCast, wrS i (by omega)] <;> simp only [decide_eq_true_eq]
  ·simp only [l_eqIntS_l0_S]
   rw [if_neg (not_lt_nat _)]
 ·rw [if_neg (by omega)]
  have : ¬ a = b := fun e => hl (by rw [e])
  simp [this]
theorem l_eqIntS_cl (a b : List Int) (h0 : a.length < 1099511627776) : Y.call 14 [D.sl 3 (lst (D.int .i64) a), D.sl 3 (lst (D.int .i64) b)] [] = some (D.bool (decide (a = b)), []) := l_eqIntS_call a b (l_eqIntS_eq a b h0)
/-- What is left of a number, or -1. -/
def szN (left n : Int) : Int := if left - n < 0 then -1 else left - n
theorem szN_cases (left n : Int) : szN left n = -1 ∨ (szN left n = left - n ∧ 0 ≤ left - n) := by unfold szN; split <;> omega
def tot (l : List (List Int)) : Int := (l.map fun xs => (xs.length : Int)).sum
theorem tot_nil : tot [] = 0 := rfl
theorem tot_cons (x : List Int) (l : List (List Int)) : tot (x :: l) = x.length + tot l := rfl
theorem tot_nonneg (l : List (List Int)) : 0 ≤ tot l := by
 induction l with
 | nil => rw [tot_nil]; omega
 | cons x l ih => rw [tot_cons]; omega
theorem tot_mem {l : List (List Int)} {x : List Int} (h : x ∈ l) : (x.length : Int) ≤ tot l := by
 induction l with
 | nil => cases h
 | cons y l ih =>
  rw [tot_cons]
  have := tot_nonneg l
  rcases List.mem_cons.1 h with rfl | h
  ·omega
  ·have := ih h; omega
noncomputable def l_szIntS (a : List Int) (left : Int) : Option (Int) :=
 if (IntKind.i64.wrap (left - (a.length : Int))) < 0 then
  some (-1)
 else
  some (IntKind.i64.wrap (left - (a.length : Int)))
/-- laws.szIntS -/
def k32 : SC :=
 .seq
 (.ops [
 ⟨some 4, .assign (.const (.int .i64 0)), 3, none⟩])
 (.seq
 (.ops [
 ⟨some 5, .move (.tmp 1), 3, none⟩,
 ⟨some 6, .move (.tmp 0), 23, none⟩,
 ⟨some 7, .call ⟨(.builtin .len), #[(.tmp 6)], #[23]⟩, 3, none⟩,
 ⟨some 8, .binOp .sub 3 (.tmp 5) (.tmp 7) 3, 3, none⟩,
 ⟨some 1, .assign (.tmp 8), 3, none⟩])
 (.seq
 (.seq
 (.ops [
 ⟨some 9, .move (.tmp 1), 3, none⟩,
 ⟨some 10, .binOp .lss 3 (.tmp 9) (.const (.int .i64 0)) 3, 4, none⟩])
 (.cond (.tmp 10)
 (.seq
 (.ops [
 ⟨some 4, .assign (.const (.int .i64 (-1))), 3, none⟩])
 .ret)
 .skip))
 (.seq
 (.ops [
 ⟨some 11, .move (.tmp 1), 3, none⟩,
 ⟨some 4, .assign (.tmp 11), 3, none⟩])
 .ret)))
theorem slim32 : Try.f32.body.map (slim lends) = some k32 := by kernel_rfl
theorem ok32 : fnOk Try.f32 2 = true := by kernel_rfl
theorem c32 {a l : List D} {r : D × List D} (h : wpD Y.env k32 (fin tys l.length [ResultVar.tmp 4] r) (entry a l)) (ha : a.length = 2) : Y.call 32 a l = some r :=
 call_slim (Y := Y) rfl Try.func32 (ha ▸ ok32) slim32 h
theorem l_szIntS_call (a : List Int) (left : Int) {r : Int} (h : l_szIntS a left = some r) : Y.call 32 [D.sl 3 (lst (D.int .i64) a), D.int .i64 left] [] = some (D.int .i64 r, []) := by
 refine c32 ?_ rfl
 unfold k32
 unfold l_szIntS at h
 by_cases e1 : (IntKind.i64.wrap (left - (a.length : Int))) < 0
 ·rw [if_pos e1] at h
  cases h
  simp (maxDischargeDepth := 9) only [↓xpre, xpost, xlst, xcore, yset, ↓reduceIte, Nat.reduceEqDiff, Nat.reduceLT, Int.reduceNeg, e1] <;> (repeat' apply And.intro) <;> first | rfl | exact ⟨_, rfl⟩ | exact ⟨_, _, rfl⟩ | simp [lst, cat2_nil]
 ·rw [if_neg e1] at h
  cases h
  simp (maxDischargeDepth := 9) only [↓xpre, xpost, xlst, xcore, yset, ↓reduceIte, Nat.reduceEqDiff, Nat.reduceLT, Int.reduceNeg, e1] <;> (repeat' apply And.intro) <;> first | rfl | exact ⟨_, rfl⟩ | exact ⟨_, _, rfl⟩ | simp [lst, cat2_nil]

theorem l_szIntS_eq (a : List Int) (left : Int) (ha : a.length < 9223372036854775808) (hl : 0 ≤ left ∧ left ≤ 1048576) : l_szIntS a left = some (szN left a.length) := by
 unfold l_szIntS szN
 rw [wr64 _ (by omega)]
 split <;> rfl
theorem l_szIntS_cl (a : List Int) (left : Int) (h0 : a.length < 9223372036854775808) (h1 : 0 ≤ left ∧ left ≤ 1048576) : Y.call 32 [D.sl 3 (lst (D.int .i64) a), D.int .i64 left] [] = some (D.int .i64 (szN left a.length), []) := l_szIntS_call a left (l_szIntS_eq a left h0 h1)
/-- What is left of a number behind lists. -/
def szL : Int → List (List Int) → Int
 | left, [] => left
 | left, x :: l => if left - x.length < 0 then -1 else szL (left - x.length) l
theorem szL_eq (l : List (List Int)) : ∀ (left : Int), 0 ≤ left → szL left l = szN left (tot l) := by
 induction l with
 | nil => intro left h; unfold szL szN; rw [tot_nil, if_neg (by omega)]; omega
 | cons x l ih =>
  intro left h
  have := tot_nonneg l
  unfold szL
  by_cases hq : left - x.length < 0
  ·rw [if_pos hq]; unfold szN; rw [tot_cons, if_pos (by omega)]
  ·rw [if_neg hq, ih _ (by omega)]
   unfold szN
   rw [tot_cons]
   by_cases hr : left - x.length - tot l < 0
   ·rw [if_pos hr, if_pos (by omega)]
   ·rw [if_neg hr, if_neg (by omega)]; omega
/-- Lists that a machine can hold. -/
def Wide (l : List (List Int)) : Prop := l.length < 9223372036854775808 ∧ ∀ x ∈ l, x.length < 9223372036854775808
instance (l : List (List Int)) : Decidable (Wide l) := by unfold Wide; infer_instance
/-- Numbers from k on. -/
def upto (k : Int) (n : Nat) : List Int := (List.range n).map fun (i : Nat) => k + i
/-- laws.markIntS -/
def k18_l0b : SC :=
 .seq
 (.seq
 (.ops [
 ⟨some 6, .move (.tmp 5), 3, none⟩,
 ⟨some 7, .move (.tmp 0), 23, none⟩,
 ⟨some 8, .call ⟨(.builtin .len), #[(.tmp 7)], #[23]⟩, 3, none⟩,
 ⟨some 9, .binOp .lss 3 (.tmp 6) (.tmp 8) 3, 4, none⟩])
 (.cond (.tmp 9)
 .skip
 (.exit 0)))
 (.seq
 (.block 1
 (.seq
 (.ops [
 ⟨some 12, .move (.tmp 0), 23, none⟩,
 ⟨some 13, .move (.tmp 5), 3, none⟩,
 ⟨some 14, .move (.tmp 1), 3, none⟩,
 ⟨some 15, .indexAddr 23 (.tmp 12) (.tmp 13), 0, none⟩,
 ⟨none, .store 3 (.tmp 15) (.tmp 14), 0, none⟩])
 (.ops [
 ⟨some 16, .move (.tmp 1), 3, none⟩,
 ⟨some 17, .binOp .add 3 (.tmp 16) (.const (.int .i64 1)) 3, 3, none⟩,
 ⟨some 1, .assign (.tmp 17), 3, none⟩])))
 (.ops [
 ⟨some 10, .move (.tmp 5), 3, none⟩,
 ⟨some 11, .binOp .add 3 (.tmp 10) (.const (.int .i64 1)) 3, 3, none⟩,
 ⟨some 5, .assign (.tmp 11), 3, none⟩]))
def k18_l0 : SC := .loop k18_l0b
def k18 : SC :=
 .seq
 (.ops [
 ⟨some 4, .assign (.const (.int .i64 0)), 3, none⟩])
 (.seq
 (.seq
 (.ops [
 ⟨some 5, .assign (.const (.int .i64 0)), 3, none⟩])
 (.block 0
 k18_l0))
 (.seq
 (.ops [
 ⟨some 18, .move (.tmp 1), 3, none⟩,
 ⟨some 4, .assign (.tmp 18), 3, none⟩])
 .ret))
theorem slim18 : Try.f18.body.map (slim lends) = some k18 := by kernel_rfl
theorem ok18 : fnOk Try.f18 2 = true := by kernel_rfl
theorem c18 {a l : List D} {r : D × List D} (h : wpD Y.env k18 (fin tys l.length [ResultVar.tmp 4] r) (entry a l)) (ha : a.length = 2) : Y.call 18 a l = some r :=
 call_slim (Y := Y) rfl Try.func18 (ha ▸ ok18) slim18 h
def marks : Int → List (List Int) → List (List Int)
 | _, [] => []
 | k, x :: l => upto k x.length :: marks (k + x.length) l
/-- Whether numbers go on from k: where they end, or -1. -/
def held : Int → List Int → Int
 | k, [] => k
 | k, x :: l => if x = k then held (k + 1) l else -1
end Go.Proofs.Ytipfckompmhljaa
