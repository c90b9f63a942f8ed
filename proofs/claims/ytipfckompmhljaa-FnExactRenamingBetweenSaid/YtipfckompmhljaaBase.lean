/- Copies, comparisons, sizes and marks of numbers in lists, as plain functions. Conditions: the lists are short. -/
import Derived.Test.YtipfckompmhljaaL6
import Derived.Test.YtipfckompmhljaaDt
namespace Go.Proofs.Ytipfckompmhljaa
open Go Dv
set_option linter.unusedSimpArgs false
set_option linter.unusedVariables false
set_option maxRecDepth 100000
set_option maxHeartbeats 4000000

/-- Lists whose lists are short. -/
def Short (l : List (List Int)) : Prop := l.length < 1099511627776 ∧ ∀ x ∈ l, x.length < 1099511627776
theorem Short.nil : Short [] := ⟨by decide, fun _ h => by cases h⟩
theorem Short.at {l : List (List Int)} (h : Short l) (i : Nat) (hi : i < l.length) : l[i].length < 1099511627776 := h.2 _ (List.getElem_mem hi)
instance (l : List (List Int)) : Decidable (Short l) := by unfold Short; infer_instance
theorem set_mid {α : Type} [Inhabited α] (xs : List α) (i : Nat) (h : i < xs.length) (z : α) : (xs.take i ++ List.replicate (xs.length - i) z).set i xs[i] = xs.take (i + 1) ++ List.replicate (xs.length - (i + 1)) z := by
 have e : xs.length - i = (xs.length - (i + 1)) + 1 := by omega
 rw [e, List.replicate_succ, List.set_append_right _ _ (by simp; omega), List.take_succ_eq_append_getElem h]
 have : i - (xs.take i).length = 0 := by simp; omega
 rw [this, List.set_cons_zero, List.append_assoc]; rfl
noncomputable def l_toIntS_l0_S (a out : List Int) (i : Int) : Option (((List Int) × Int) ⊕ ((List Int))) :=
 if i < (a.length : Int) then
  ck (0 ≤ i ∧ i.toNat < a.length) <|
  ck (0 ≤ i ∧ i.toNat < out.length) <|
  some (Sum.inl ((out.set i.toNat (a.getD i.toNat default)), IntKind.i64.wrap (i + 1)))
 else
  some (Sum.inr out)
noncomputable def l_toIntS_l0 (a : List Int) (v : (List Int) × Int) : Option ((List Int)) := itO (fun v => l_toIntS_l0_S a v.1 v.2) v
noncomputable def l_toIntS (a : List Int) : Option ((List Int)) :=
 ck (0 ≤ (a.length : Int) ∧ (a.length : Int) < 1099511627776) <|
 (l_toIntS_l0 a ((List.replicate a.length 0), 0)).bind fun r3_ =>
 some r3_
/-- laws.toIntS -/
def k11_l0b : SC :=
 .seq
 (.seq
 (.ops [
 ⟨some 8, .move (.tmp 4), 3, none⟩,
 ⟨some 9, .move (.tmp 0), 23, none⟩,
 ⟨some 10, .call ⟨(.builtin .len), #[(.tmp 9)], #[23]⟩, 3, none⟩,
 ⟨some 11, .binOp .lss 3 (.tmp 8) (.tmp 10) 3, 4, none⟩])
 (.cond (.tmp 11)
 .skip
 (.exit 0)))
 (.seq
 (.block 1
 (.ops [
 ⟨some 14, .move (.tmp 3), 23, none⟩,
 ⟨some 15, .move (.tmp 4), 3, none⟩,
 ⟨some 16, .move (.tmp 0), 23, none⟩,
 ⟨some 17, .move (.tmp 4), 3, none⟩,
 ⟨some 18, .indexAddr 23 (.tmp 16) (.tmp 17), 0, none⟩,
 ⟨some 19, .load 3 (.tmp 18), 3, none⟩,
 ⟨some 20, .indexAddr 23 (.tmp 14) (.tmp 15), 0, none⟩,
 ⟨none, .store 3 (.tmp 20) (.tmp 19), 0, none⟩]))
 (.ops [
 ⟨some 12, .move (.tmp 4), 3, none⟩,
 ⟨some 13, .binOp .add 3 (.tmp 12) (.const (.int .i64 1)) 3, 3, none⟩,
 ⟨some 4, .assign (.tmp 13), 3, none⟩]))
def k11_l0 : SC := .loop k11_l0b
def k11 : SC :=
 .seq
 (.ops [
 ⟨some 2, .assign (.const (.slice none 0 0)), 23, none⟩])
 (.seq
 (.ops [
 ⟨some 5, .move (.tmp 0), 23, none⟩,
 ⟨some 6, .call ⟨(.builtin .len), #[(.tmp 5)], #[23]⟩, 3, none⟩,
 ⟨some 7, .makeSlice 23 (.tmp 6) (.tmp 6), 23, none⟩,
 ⟨some 3, .assign (.tmp 7), 23, none⟩])
 (.seq
 (.seq
 (.ops [
 ⟨some 4, .assign (.const (.int .i64 0)), 3, none⟩])
 (.block 0
 k11_l0))
 (.seq
 (.ops [
 ⟨some 21, .move (.tmp 3), 23, none⟩,
 ⟨some 2, .assign (.tmp 21), 23, none⟩])
 .ret)))
theorem slim11 : Try.f11.body.map (slim lends) = some k11 := by kernel_rfl
theorem ok11 : fnOk Try.f11 1 = true := by kernel_rfl
theorem c11 {a l : List D} {r : D × List D} (h : wpD Y.env k11 (fin tys l.length [ResultVar.tmp 2] r) (entry a l)) (ha : a.length = 1) : Y.call 11 a l = some r :=
 call_slim (Y := Y) rfl Try.func11 (ha ▸ ok11) slim11 h
def l_toIntS_l0_M (a out : List Int) (i : Int) (s : St) : Prop := s.v 0 = D.sl 3 (lst (D.int .i64) a) ∧ s.v 3 = D.own 3 (lst (D.int .i64) out) ∧ s.v 4 = D.int .i64 i
def l_toIntS_l0_X (a : List Int) (r : (List Int)) (ex : Ex) (s : St) : Prop := ex = .exit 0 ∧ s.v 3 = D.own 3 (lst (D.int .i64) r)
theorem l_toIntS_l0_wp (a : List Int) {v : (List Int) × Int} {s : St} {r : (List Int)} (h : l_toIntS_l0 a v = some r) (hM : l_toIntS_l0_M a v.1 v.2 s) : wpD Y.env k11_l0 (l_toIntS_l0_X a r) s := by
 unfold l_toIntS_l0 at h
 refine wd_itO (c := k11_l0b) (fun v => l_toIntS_l0_S a v.1 v.2) (fun v s => l_toIntS_l0_M a v.1 v.2 s) (l_toIntS_l0_X a) ?_ h hM
 clear h hM s v r
 intro v s o hM h
 obtain ⟨out, i⟩ := v
 dsimp only at h hM
 unfold l_toIntS_l0_S at h
 unfold l_toIntS_l0_M at hM
 obtain ⟨m0, m1, m2⟩ := hM
 unfold k11_l0b
 by_cases e2 : i < (a.length : Int)
 ·rw [if_pos e2] at h
  obtain ⟨e3, h⟩ := ckS h
  obtain ⟨e4, h⟩ := ckS h
  cases h
  simp (maxDischargeDepth := 9) only [↓xpre, xpost, xlst, xcore, yset, ↓reduceIte, Nat.reduceEqDiff, Nat.reduceLT, m0, m1, m2, e2, e3.1, e3.2, e4.2, l_toIntS_l0_M, sxN]
 ·rw [if_neg e2] at h
  cases h
  simp (maxDischargeDepth := 9) only [↓xpre, xpost, xlst, yset, ↓reduceIte, Nat.reduceEqDiff, Nat.reduceLT, m0, m1, m2, e2, l_toIntS_l0_M, l_toIntS_l0_X, sxE]
theorem l_toIntS_call (a : List Int) {r : (List Int)} (h : l_toIntS a = some r) : Y.call 11 [D.sl 3 (lst (D.int .i64) a)] [] = some (D.own 3 (lst (D.int .i64) r), []) := by
 refine c11 ?_ rfl
 unfold k11
 unfold l_toIntS at h
 obtain ⟨e1, h⟩ := ckS h
 obtain ⟨r3_, hl3, h⟩ := bindS h
 try dsimp only at h
 simp (maxDischargeDepth := 9) only [↓xpre, xpost, xlst, xcore, yset, ↓reduceIte, Nat.reduceEqDiff, Nat.reduceLT, Nat.reduceLeDiff, e1.1, e1.2]
 refine wd_mono (l_toIntS_l0_wp a hl3 ?_) ?_
 ·simp (maxDischargeDepth := 9) only [xpost, xcore, ↓reduceIte, Nat.reduceEqDiff, Nat.reduceLT, l_toIntS_l0_M]
 ·intro ex3 s3 hX3
  unfold l_toIntS_l0_X at hX3
  obtain ⟨rfl, n3_0⟩ := hX3
  cases h
  simp (maxDischargeDepth := 9) only [↓xpre, xpost, xlst, xcore, ↓reduceIte, Nat.reduceEqDiff, Nat.reduceLT, n3_0]

theorem l_toIntS_eq (a : List Int) (h : a.length < 1099511627776) : l_toIntS a = some a := by
 have key := itO_for (fun v => l_toIntS_l0_S a v.1 v.2) (fun i => (a.take i ++ List.replicate (a.length - i) 0, (i : Int))) a.length a ?_ ?_
 ·unfold l_toIntS l_toIntS_l0
  rw [ckT (by omega)]
  simp only [List.take_zero, List.nil_append, Nat.sub_zero, Int.natCast_zero] at key
  rw [key]; rfl
 ·intro i hi
  simp only [l_toIntS_l0_S]
  rw [if_pos (lt_nat hi), ckT (ix_nat hi), ckT (ix_nat (by simp; omega)), getD_nat _ _ hi, Int.toNat_natCast, set_mid a i hi 0, wrS i (by omega)]
 ·simp only [l_toIntS_l0_S]
  rw [if_neg (not_lt_nat _)]; simp
theorem l_toIntS_cl (a : List Int) (h0 : a.length < 1099511627776) : Y.call 11 [D.sl 3 (lst (D.int .i64) a)] [] = some (D.own 3 (lst (D.int .i64) a), []) := l_toIntS_call a (l_toIntS_eq a h0)
noncomputable def l_toIntSS_l0_S (a out : List (List Int)) (i : Int) : Option (((List (List Int)) × Int) ⊕ ((List (List Int)))) :=
 if i < (a.length : Int) then
  ck (0 ≤ i ∧ i.toNat < a.length) <|
  ck ((a.getD i.toNat default).length < 1099511627776) <|
  ck (0 ≤ i ∧ i.toNat < out.length) <|
  some (Sum.inl ((out.set i.toNat (a.getD i.toNat default)), IntKind.i64.wrap (i + 1)))
 else
  some (Sum.inr out)
noncomputable def l_toIntSS_l0 (a : List (List Int)) (v : (List (List Int)) × Int) : Option ((List (List Int))) := itO (fun v => l_toIntSS_l0_S a v.1 v.2) v
noncomputable def l_toIntSS (a : List (List Int)) : Option ((List (List Int))) :=
 ck (0 ≤ (a.length : Int) ∧ (a.length : Int) < 1099511627776) <|
 (l_toIntSS_l0 a ((List.replicate a.length []), 0)).bind fun r3_ =>
 some r3_
/-- laws.toIntSS -/
def k59_l0b : SC :=
 .seq
 (.seq
 (.ops [
 ⟨some 8, .move (.tmp 4), 3, none⟩,
 ⟨some 9, .move (.tmp 0), 44, none⟩,
 ⟨some 10, .call ⟨(.builtin .len), #[(.tmp 9)], #[44]⟩, 3, none⟩,
 ⟨some 11, .binOp .lss 3 (.tmp 8) (.tmp 10) 3, 4, none⟩])
 (.cond (.tmp 11)
 .skip
 (.exit 0)))
 (.seq
 (.block 1
 (.ops [
 ⟨some 14, .move (.tmp 3), 44, none⟩,
 ⟨some 15, .move (.tmp 4), 3, none⟩,
 ⟨some 16, .move (.tmp 0), 44, none⟩,
 ⟨some 17, .move (.tmp 4), 3, none⟩,
 ⟨some 18, .indexAddr 44 (.tmp 16) (.tmp 17), 0, none⟩,
 ⟨some 19, .load 23 (.tmp 18), 23, none⟩,
 ⟨some 20, .call ⟨(.value (.func 11)), #[(.tmp 19)], #[23]⟩, 23, none⟩,
 ⟨some 21, .indexAddr 44 (.tmp 14) (.tmp 15), 0, none⟩,
 ⟨none, .store 23 (.tmp 21) (.tmp 20), 0, none⟩]))
 (.ops [
 ⟨some 12, .move (.tmp 4), 3, none⟩,
 ⟨some 13, .binOp .add 3 (.tmp 12) (.const (.int .i64 1)) 3, 3, none⟩,
 ⟨some 4, .assign (.tmp 13), 3, none⟩]))
def k59_l0 : SC := .loop k59_l0b
def k59 : SC :=
 .seq
 (.ops [
 ⟨some 2, .assign (.const (.slice none 0 0)), 44, none⟩])
 (.seq
 (.ops [
 ⟨some 5, .move (.tmp 0), 44, none⟩,
 ⟨some 6, .call ⟨(.builtin .len), #[(.tmp 5)], #[44]⟩, 3, none⟩,
 ⟨some 7, .makeSlice 44 (.tmp 6) (.tmp 6), 44, none⟩,
 ⟨some 3, .assign (.tmp 7), 44, none⟩])
 (.seq
 (.seq
 (.ops [
 ⟨some 4, .assign (.const (.int .i64 0)), 3, none⟩])
 (.block 0
 k59_l0))
 (.seq
 (.ops [
 ⟨some 22, .move (.tmp 3), 44, none⟩,
 ⟨some 2, .assign (.tmp 22), 44, none⟩])
 .ret)))
theorem slim59 : Try.f59.body.map (slim lends) = some k59 := by kernel_rfl
theorem ok59 : fnOk Try.f59 1 = true := by kernel_rfl
theorem c59 {a l : List D} {r : D × List D} (h : wpD Y.env k59 (fin tys l.length [ResultVar.tmp 2] r) (entry a l)) (ha : a.length = 1) : Y.call 59 a l = some r :=
 call_slim (Y := Y) rfl Try.func59 (ha ▸ ok59) slim59 h
def l_toIntSS_l0_M (a out : List (List Int)) (i : Int) (s : St) : Prop := s.v 0 = D.sl 23 (lst (fun x => D.sl 3 (lst (D.int .i64) x)) a) ∧ s.v 3 = D.own 23 (lst (fun x => D.own 3 (lst (D.int .i64) x)) out) ∧ s.v 4 = D.int .i64 i
def l_toIntSS_l0_X (a : List (List Int)) (r : (List (List Int))) (ex : Ex) (s : St) : Prop := ex = .exit 0 ∧ s.v 3 = D.own 23 (lst (fun x => D.own 3 (lst (D.int .i64) x)) r)
theorem l_toIntSS_l0_wp (a : List (List Int)) {v : (List (List Int)) × Int} {s : St} {r : (List (List Int))} (h : l_toIntSS_l0 a v = some r) (hM : l_toIntSS_l0_M a v.1 v.2 s) : wpD Y.env k59_l0 (l_toIntSS_l0_X a r) s := by
 unfold l_toIntSS_l0 at h
 refine wd_itO (c := k59_l0b) (fun v => l_toIntSS_l0_S a v.1 v.2) (fun v s => l_toIntSS_l0_M a v.1 v.2 s) (l_toIntSS_l0_X a) ?_ h hM
 clear h hM s v r
 intro v s o hM h
 obtain ⟨out, i⟩ := v
 dsimp only at h hM
 unfold l_toIntSS_l0_S at h
 unfold l_toIntSS_l0_M at hM
 obtain ⟨m0, m1, m2⟩ := hM
 unfold k59_l0b
 by_cases e2 : i < (a.length : Int)
 ·rw [if_pos e2] at h
  obtain ⟨e3, h⟩ := ckS h
  obtain ⟨e4, h⟩ := ckS h
  have c5 := l_toIntS_cl (a.getD i.toNat default) e4
  obtain ⟨e6, h⟩ := ckS h
  cases h
  simp (maxDischargeDepth := 9) only [↓xpre, xpost, xlst, xc2, xcore, yset, ↓reduceIte, Nat.reduceEqDiff, Nat.reduceLT, Nat.reduceAdd, m0, m1, m2, e2, e3.1, e3.2, c5, e6.2, l_toIntSS_l0_M, sxN]
 ·rw [if_neg e2] at h
  cases h
  simp (maxDischargeDepth := 9) only [↓xpre, xpost, xlst, yset, ↓reduceIte, Nat.reduceEqDiff, Nat.reduceLT, m0, m1, m2, e2, l_toIntSS_l0_M, l_toIntSS_l0_X, sxE]
theorem l_toIntSS_call (a : List (List Int)) {r : (List (List Int))} (h : l_toIntSS a = some r) : Y.call 59 [D.sl 23 (lst (fun x => D.sl 3 (lst (D.int .i64) x)) a)] [] = some (D.own 23 (lst (fun x => D.own 3 (lst (D.int .i64) x)) r), []) := by
 refine c59 ?_ rfl
 unfold k59
 unfold l_toIntSS at h
 obtain ⟨e1, h⟩ := ckS h
 obtain ⟨r3_, hl3, h⟩ := bindS h
 try dsimp only at h
 simp (maxDischargeDepth := 9) only [↓xpre, xpost, xlst, xcore, yset, ↓reduceIte, Nat.reduceEqDiff, Nat.reduceLT, Nat.reduceLeDiff, e1.1, e1.2]
 refine wd_mono (l_toIntSS_l0_wp a hl3 ?_) ?_
 ·simp (maxDischargeDepth := 9) only [xpost, xcore, ↓reduceIte, Nat.reduceEqDiff, Nat.reduceLT, l_toIntSS_l0_M]
 ·intro ex3 s3 hX3
  unfold l_toIntSS_l0_X at hX3
  obtain ⟨rfl, n3_0⟩ := hX3
  cases h
  simp (maxDischargeDepth := 9) only [↓xpre, xpost, xlst, xcore, ↓reduceIte, Nat.reduceEqDiff, Nat.reduceLT, n3_0]

theorem l_toIntSS_eq (a : List (List Int)) (h : Short a) : l_toIntSS a = some a := by
 have h1 := h.1
 have key := itO_for (fun v => l_toIntSS_l0_S a v.1 v.2) (fun i => (a.take i ++ List.replicate (a.length - i) [], (i : Int))) a.length a ?_ ?_
 ·unfold l_toIntSS l_toIntSS_l0
  rw [ckT (by omega)]
  simp only [List.take_zero, List.nil_append, Nat.sub_zero, Int.natCast_zero] at key
  rw [key]; rfl
 ·intro i hi
  simp only [l_toIntSS_l0_S]
  rw [if_pos (lt_nat hi), ckT (ix_nat hi), ckT (by rw [getD_nat _ _ hi]; exact h.at i hi), ckT (ix_nat (by simp; omega)), getD_nat _ _ hi, Int.toNat_natCast, set_mid a i hi [], wrS i (by omega)]
 ·simp only [l_toIntSS_l0_S]
  rw [if_neg (not_lt_nat _)]; simp
theorem l_toIntSS_cl (a : List (List Int)) (h0 : Short a) : Y.call 59 [D.sl 23 (lst (fun x => D.sl 3 (lst (D.int .i64) x)) a)] [] = some (D.own 23 (lst (fun x => D.own 3 (lst (D.int .i64) x)) a), []) := l_toIntSS_call a (l_toIntSS_eq a h0)
noncomputable def l_eqIntS_l0_S (a b : List Int) (i : Int) : Option ((Int) ⊕ (Unit ⊕ Unit)) :=
 if i < (a.length : Int) then
  ck (0 ≤ i ∧ i.toNat < a.length) <|
  ck (0 ≤ i ∧ i.toNat < b.length) <|
  if (a.getD i.toNat default) = (b.getD i.toNat default) then
   some (Sum.inl (IntKind.i64.wrap (i + 1)))
  else
   some (Sum.inr (Sum.inl ()))
 else
  some (Sum.inr (Sum.inr ()))
noncomputable def l_eqIntS_l0 (a b : List Int) (v : Int) : Option (Unit ⊕ Unit) := itO (fun v => l_eqIntS_l0_S a b v) v
noncomputable def l_eqIntS (a b : List Int) : Option (Bool) :=
 if (a.length : Int) = (b.length : Int) then
  (l_eqIntS_l0 a b 0).bind fun r3_ =>
  match r3_ with
  | .inl q3_ =>
   some false
  | .inr q3_ =>
   some true
 else
  some false
/-- laws.eqIntS -/
def k14_l0b : SC :=
 .seq
 (.seq
 (.ops [
 ⟨some 11, .move (.tmp 5), 3, none⟩,
 ⟨some 12, .move (.tmp 0), 23, none⟩,
 ⟨some 13, .call ⟨(.builtin .len), #[(.tmp 12)], #[23]⟩, 3, none⟩,
 ⟨some 14, .binOp .lss 3 (.tmp 11) (.tmp 13) 3, 4, none⟩])
 (.cond (.tmp 14)
 .skip
 (.exit 0)))
 (.seq
 (.block 1
 (.seq
 (.draws [
 (⟨[17, 0, 0], [17, 18, 19, 20, 21, 22, 23, 24, 25], [17]⟩, ⟨some 17, .move (.tmp 0), 23, none⟩),
 (⟨[18, 5, 5], [17, 18, 19, 20, 21, 22, 23, 24, 25], [18]⟩, ⟨some 18, .move (.tmp 5), 3, none⟩),
 (⟨[19, 17, 18, 0, 5], [17, 18, 19, 20, 21, 22, 23, 24, 25], [19]⟩, ⟨some 19, .indexAddr 23 (.tmp 17) (.tmp 18), 0, none⟩),
 (⟨[20, 19, 0], [17, 18, 19, 20, 21, 22, 23, 24, 25], [20]⟩, ⟨some 20, .load 3 (.tmp 19), 3, none⟩),
 (⟨[21, 1, 1], [17, 18, 19, 20, 21, 22, 23, 24, 25], [21]⟩, ⟨some 21, .move (.tmp 1), 23, none⟩),
 (⟨[22, 5, 5], [17, 18, 19, 20, 21, 22, 23, 24, 25], [22]⟩, ⟨some 22, .move (.tmp 5), 3, none⟩),
 (⟨[23, 21, 22, 1, 5], [17, 18, 19, 20, 21, 22, 23, 24, 25], [23]⟩, ⟨some 23, .indexAddr 23 (.tmp 21) (.tmp 22), 0, none⟩),
 (⟨[24, 23, 1], [17, 18, 19, 20, 21, 22, 23, 24, 25], [24]⟩, ⟨some 24, .load 3 (.tmp 23), 3, none⟩),
 (⟨[25, 20, 24, 0, 1], [17, 18, 19, 20, 21, 22, 23, 24, 25], [25]⟩, ⟨some 25, .binOp .neq 3 (.tmp 20) (.tmp 24) 3, 4, none⟩)])
 (.cond (.tmp 25)
 (.seq
 (.ops [
 ⟨some 4, .assign (.const (.bool false)), 4, none⟩])
 .ret)
 .skip)))
 (.ops [
 ⟨some 15, .move (.tmp 5), 3, none⟩,
 ⟨some 16, .binOp .add 3 (.tmp 15) (.const (.int .i64 1)) 3, 3, none⟩,
 ⟨some 5, .assign (.tmp 16), 3, none⟩]))
def k14_l0 : SC := .loop k14_l0b
def k14 : SC :=
 .seq
 (.ops [
 ⟨some 4, .assign (.const (.bool false)), 4, none⟩])
 (.seq
 (.seq
 (.ops [
 ⟨some 6, .move (.tmp 0), 23, none⟩,
 ⟨some 7, .call ⟨(.builtin .len), #[(.tmp 6)], #[23]⟩, 3, none⟩,
 ⟨some 8, .move (.tmp 1), 23, none⟩,
 ⟨some 9, .call ⟨(.builtin .len), #[(.tmp 8)], #[23]⟩, 3, none⟩,
 ⟨some 10, .binOp .neq 3 (.tmp 7) (.tmp 9) 3, 4, none⟩])
 (.cond (.tmp 10)
 (.seq
 (.ops [
 ⟨some 4, .assign (.const (.bool false)), 4, none⟩])
 .ret)
 .skip))
 (.seq
 (.seq
 (.ops [
 ⟨some 5, .assign (.const (.int .i64 0)), 3, none⟩])
 (.block 0
 k14_l0))
 (.seq
 (.ops [
 ⟨some 4, .assign (.const (.bool true)), 4, none⟩])
 .ret)))
theorem slim14 : Try.f14.body.map (slim lends) = some k14 := by kernel_rfl
theorem ok14 : fnOk Try.f14 2 = true := by kernel_rfl
theorem c14 {a l : List D} {r : D × List D} (h : wpD Y.env k14 (fin tys l.length [ResultVar.tmp 4] r) (entry a l)) (ha : a.length = 2) : Y.call 14 a l = some r :=
 call_slim (Y := Y) rfl Try.func14 (ha ▸ ok14) slim14 h
def l_eqIntS_l0_M (a b : List Int) (i : Int) (s : St) : Prop := s.v 0 = D.sl 3 (lst (D.int .i64) a) ∧ s.v 1 = D.sl 3 (lst (D.int .i64) b) ∧ s.v 5 = D.int .i64 i
def l_eqIntS_l0_X (a b : List Int) (r : Unit ⊕ Unit) (ex : Ex) (s : St) : Prop := match r with
 | .inl q => ex = .ret ∧ s.v 4 = D.bool false
 | .inr q => ex = .exit 0
theorem l_eqIntS_l0_wp (a b : List Int) {v : Int} {s : St} {r : Unit ⊕ Unit} (h : l_eqIntS_l0 a b v = some r) (hM : l_eqIntS_l0_M a b v s) : wpD Y.env k14_l0 (l_eqIntS_l0_X a b r) s := by
 unfold l_eqIntS_l0 at h
 refine wd_itO (c := k14_l0b) (fun v => l_eqIntS_l0_S a b v) (fun v s => l_eqIntS_l0_M a b v s) (l_eqIntS_l0_X a b) ?_ h hM
 clear h hM s v r
 intro i s o hM h
 unfold l_eqIntS_l0_S at h
 unfold l_eqIntS_l0_M at hM
 obtain ⟨m0, m1, m2⟩ := hM
 unfold k14_l0b
 by_cases e2 : i < (a.length : Int)
 ·rw [if_pos e2] at h
  obtain ⟨e3, h⟩ := ckS h
  obtain ⟨e4, h⟩ := ckS h
  by_cases e5 : (a.getD i.toNat default) = (b.getD i.toNat default)
  ·rw [if_pos e5] at h
   cases h
   simp (maxDischargeDepth := 9) only [↓xpre, xpost, xlst, xcore, yset, ↓reduceIte, Nat.reduceEqDiff, Nat.reduceLT, m0, m1, m2, e2, e3.1, e3.2, e4.2, decide_eq_true e5, l_eqIntS_l0_M, sxN]
  ·rw [if_neg e5] at h
   cases h
   simp (maxDischargeDepth := 9) only [↓xpre, xpost, xlst, xcore, yset, ↓reduceIte, Nat.reduceEqDiff, Nat.reduceLT, m0, m1, m2, e2, e3.1, e3.2, e4.2, e5, l_eqIntS_l0_M, l_eqIntS_l0_X, sxR]
 ·rw [if_neg e2] at h
  cases h
  simp (maxDischargeDepth := 9) only [↓xpre, xpost, xlst, yset, ↓reduceIte, Nat.reduceEqDiff, Nat.reduceLT, m0, m2, e2, l_eqIntS_l0_M, l_eqIntS_l0_X, sxE]
theorem l_eqIntS_call (a b : List Int) {r : Bool} (h : l_eqIntS a b = some r) : Y.call 14 [D.sl 3 (lst (D.int .i64) a), D.sl 3 (lst (D.int .i64) b)] [] = some (D.bool r, []) := by
 refine c14 ?_ rfl
 unfold k14
 unfold l_eqIntS at h
 by_cases e1 : (a.length : Int) = (b.length : Int)
 ·rw [if_pos e1] at h
  obtain ⟨r3_, hl3, h⟩ := bindS h
  try dsimp only at h
  simp (maxDischargeDepth := 9) only [↓xpre, xpost, xlst, xcore, yset, ↓reduceIte, Nat.reduceEqDiff, Nat.reduceLT, decide_eq_true e1]
  refine wd_mono (l_eqIntS_l0_wp a b hl3 ?_) ?_
  ·simp (maxDischargeDepth := 9) only [xpost, xcore, ↓reduceIte, Nat.reduceEqDiff, Nat.reduceLT, l_eqIntS_l0_M]
  ·intro ex3 s3 hX3
   rcases r3_ with q3_ | q3_
   ·unfold l_eqIntS_l0_X at hX3
    dsimp only at hX3 h
    obtain ⟨rfl, n3_0⟩ := hX3
    cases h
    simp (maxDischargeDepth := 9) only [↓xpre, xpost, xcore, ↓reduceIte, n3_0]
   ·unfold l_eqIntS_l0_X at hX3
    dsimp only at hX3 h
    obtain rfl := hX3
    cases h
    simp (maxDischargeDepth := 9) only [↓xpre, xpost, xcore, yset, ↓reduceIte, Nat.reduceEqDiff, Nat.reduceLT]
 ·rw [if_neg e1] at h
  cases h
  simp (maxDischargeDepth := 9) only [↓xpre, xpost, xlst, xcore, yset, ↓reduceIte, Nat.reduceEqDiff, Nat.reduceLT, e1]

theorem l_eqIntS_eq (a b : List Int) (ha : a.length < 1099511627776) : l_eqIntS a b = some (decide (a = b)) := by
 unfold l_eqIntS l_eqIntS_l0
 by_cases hl : a.length = b.length
 ·rw [if_pos (by omega)]
  have key := itO_all (fun v => l_eqIntS_l0_S a b v) (fun i => (i : Int)) a.length (fun i => decide (a.getD i default = b.getD i default)) (.inl ()) (.inr ()) ?_ ?_
  ·simp only [Int.natCast_zero] at key
   rw [key, all_same a b hl]
   by_cases he : a = b <;> simp [he]
  ·intro i hi
   simp only [l_eqIntS_l0_S]
   rw [if_pos (lt_nat hi), ckT (ix_nat hi), ckT (ix_nat (by omega)), Int.toNat_natCast, wrS i (by omega)] <;> simp only [decide_eq_true_eq]
  ·simp only [l_eqIntS_l0_S]
   rw [if_neg (not_lt_nat _)]
 ·rw [if_neg (by omega)]
  have : ¬ a = b := fun e => hl (by rw [e])
  simp [this]
theorem l_eqIntS_cl (a b : List Int) (h0 : a.length < 1099511627776) : Y.call 14 [D.sl 3 (lst (D.int .i64) a), D.sl 3 (lst (D.int .i64) b)] [] = some (D.bool (decide (a = b)), []) := l_eqIntS_call a b (l_eqIntS_eq a b h0)
noncomputable def l_eqIntSS_l0_S (a b : List (List Int)) (i : Int) : Option ((Int) ⊕ (Unit ⊕ Unit)) :=
 if i < (a.length : Int) then
  ck (0 ≤ i ∧ i.toNat < a.length) <|
  ck (0 ≤ i ∧ i.toNat < b.length) <|
  ck ((a.getD i.toNat default).length < 1099511627776) <|
  if (decide ((a.getD i.toNat default) = (b.getD i.toNat default))) = true then
   some (Sum.inl (IntKind.i64.wrap (i + 1)))
  else
   some (Sum.inr (Sum.inl ()))
 else
  some (Sum.inr (Sum.inr ()))
noncomputable def l_eqIntSS_l0 (a b : List (List Int)) (v : Int) : Option (Unit ⊕ Unit) := itO (fun v => l_eqIntSS_l0_S a b v) v
noncomputable def l_eqIntSS (a b : List (List Int)) : Option (Bool) :=
 if (a.length : Int) = (b.length : Int) then
  (l_eqIntSS_l0 a b 0).bind fun r3_ =>
  match r3_ with
  | .inl q3_ =>
   some false
  | .inr q3_ =>
   some true
 else
  some false
/-- laws.eqIntSS -/
def k62_l0b : SC :=
 .seq
 (.seq
 (.ops [
 ⟨some 11, .move (.tmp 5), 3, none⟩,
 ⟨some 12, .move (.tmp 0), 44, none⟩,
 ⟨some 13, .call ⟨(.builtin .len), #[(.tmp 12)], #[44]⟩, 3, none⟩,
 ⟨some 14, .binOp .lss 3 (.tmp 11) (.tmp 13) 3, 4, none⟩])
 (.cond (.tmp 14)
 .skip
 (.exit 0)))
 (.seq
 (.block 1
 (.seq
 (.draws [
 (⟨[17, 0, 0], [17, 18, 19, 20, 21, 22, 23, 24, 25, 26], [17]⟩, ⟨some 17, .move (.tmp 0), 44, none⟩),
 (⟨[18, 5, 5], [17, 18, 19, 20, 21, 22, 23, 24, 25, 26], [18]⟩, ⟨some 18, .move (.tmp 5), 3, none⟩),
 (⟨[19, 17, 18, 0, 5], [17, 18, 19, 20, 21, 22, 23, 24, 25, 26], [19]⟩, ⟨some 19, .indexAddr 44 (.tmp 17) (.tmp 18), 0, none⟩),
 (⟨[20, 19, 0], [17, 18, 19, 20, 21, 22, 23, 24, 25, 26], [20]⟩, ⟨some 20, .load 23 (.tmp 19), 23, none⟩),
 (⟨[21, 1, 1], [17, 18, 19, 20, 21, 22, 23, 24, 25, 26], [21]⟩, ⟨some 21, .move (.tmp 1), 44, none⟩),
 (⟨[22, 5, 5], [17, 18, 19, 20, 21, 22, 23, 24, 25, 26], [22]⟩, ⟨some 22, .move (.tmp 5), 3, none⟩),
 (⟨[23, 21, 22, 1, 5], [17, 18, 19, 20, 21, 22, 23, 24, 25, 26], [23]⟩, ⟨some 23, .indexAddr 44 (.tmp 21) (.tmp 22), 0, none⟩),
 (⟨[24, 23, 1], [17, 18, 19, 20, 21, 22, 23, 24, 25, 26], [24]⟩, ⟨some 24, .load 23 (.tmp 23), 23, none⟩),
 (⟨[25, 20, 24, 0, 1], [17, 18, 19, 20, 21, 22, 23, 24, 25, 26], [25]⟩, ⟨some 25, .call ⟨(.value (.func 14)), #[(.tmp 20), (.tmp 24)], #[23, 23]⟩, 4, none⟩),
 (⟨[26, 25, 25], [17, 18, 19, 20, 21, 22, 23, 24, 25, 26], [26]⟩, ⟨some 26, .unOp .not 4 (.tmp 25), 4, none⟩)])
 (.cond (.tmp 26)
 (.seq
 (.ops [
 ⟨some 4, .assign (.const (.bool false)), 4, none⟩])
 .ret)
 .skip)))
 (.ops [
 ⟨some 15, .move (.tmp 5), 3, none⟩,
 ⟨some 16, .binOp .add 3 (.tmp 15) (.const (.int .i64 1)) 3, 3, none⟩,
 ⟨some 5, .assign (.tmp 16), 3, none⟩]))
def k62_l0 : SC := .loop k62_l0b
def k62 : SC :=
 .seq
 (.ops [
 ⟨some 4, .assign (.const (.bool false)), 4, none⟩])
 (.seq
 (.seq
 (.ops [
 ⟨some 6, .move (.tmp 0), 44, none⟩,
 ⟨some 7, .call ⟨(.builtin .len), #[(.tmp 6)], #[44]⟩, 3, none⟩,
 ⟨some 8, .move (.tmp 1), 44, none⟩,
 ⟨some 9, .call ⟨(.builtin .len), #[(.tmp 8)], #[44]⟩, 3, none⟩,
 ⟨some 10, .binOp .neq 3 (.tmp 7) (.tmp 9) 3, 4, none⟩])
 (.cond (.tmp 10)
 (.seq
 (.ops [
 ⟨some 4, .assign (.const (.bool false)), 4, none⟩])
 .ret)
 .skip))
 (.seq
 (.seq
 (.ops [
 ⟨some 5, .assign (.const (.int .i64 0)), 3, none⟩])
 (.block 0
 k62_l0))
 (.seq
 (.ops [
 ⟨some 4, .assign (.const (.bool true)), 4, none⟩])
 .ret)))
theorem slim62 : Try.f62.body.map (slim lends) = some k62 := by kernel_rfl
theorem ok62 : fnOk Try.f62 2 = true := by kernel_rfl
theorem c62 {a l : List D} {r : D × List D} (h : wpD Y.env k62 (fin tys l.length [ResultVar.tmp 4] r) (entry a l)) (ha : a.length = 2) : Y.call 62 a l = some r :=
 call_slim (Y := Y) rfl Try.func62 (ha ▸ ok62) slim62 h
def l_eqIntSS_l0_M (a b : List (List Int)) (i : Int) (s : St) : Prop := s.v 0 = D.sl 23 (lst (fun x => D.sl 3 (lst (D.int .i64) x)) a) ∧ s.v 1 = D.sl 23 (lst (fun x => D.sl 3 (lst (D.int .i64) x)) b) ∧ s.v 5 = D.int .i64 i
def l_eqIntSS_l0_X (a b : List (List Int)) (r : Unit ⊕ Unit) (ex : Ex) (s : St) : Prop := match r with
 | .inl q => ex = .ret ∧ s.v 4 = D.bool false
 | .inr q => ex = .exit 0
theorem l_eqIntSS_l0_wp (a b : List (List Int)) {v : Int} {s : St} {r : Unit ⊕ Unit} (h : l_eqIntSS_l0 a b v = some r) (hM : l_eqIntSS_l0_M a b v s) : wpD Y.env k62_l0 (l_eqIntSS_l0_X a b r) s := by
 unfold l_eqIntSS_l0 at h
 refine wd_itO (c := k62_l0b) (fun v => l_eqIntSS_l0_S a b v) (fun v s => l_eqIntSS_l0_M a b v s) (l_eqIntSS_l0_X a b) ?_ h hM
 clear h hM s v r
 intro i s o hM h
 unfold l_eqIntSS_l0_S at h
 unfold l_eqIntSS_l0_M at hM
 obtain ⟨m0, m1, m2⟩ := hM
 unfold k62_l0b
 by_cases e2 : i < (a.length : Int)
 ·rw [if_pos e2] at h
  obtain ⟨e3, h⟩ := ckS h
  obtain ⟨e4, h⟩ := ckS h
  obtain ⟨e5, h⟩ := ckS h
  have c6 := l_eqIntS_cl (a.getD i.toNat default) (b.getD i.toNat default) e5
  by_cases e7 : (decide ((a.getD i.toNat default) = (b.getD i.toNat default))) = true
  ·rw [if_pos e7] at h
   cases h
   simp (maxDischargeDepth := 9) only [↓xpre, xpost, xlst, xc2, xcore, yset, ↓reduceIte, Nat.reduceEqDiff, Nat.reduceLT, Nat.reduceAdd, m0, m1, m2, e2, e3.1, e3.2, e4.2, c6, e7, l_eqIntSS_l0_M, sxN]
  ·rw [if_neg e7] at h
   have e7f : (decide ((a.getD i.toNat default) = (b.getD i.toNat default))) = false := Bool.eq_false_iff.mpr e7
   cases h
   simp (maxDischargeDepth := 9) only [↓xpre, xpost, xlst, xc2, xcore, yset, ↓reduceIte, Nat.reduceEqDiff, Nat.reduceLT, Nat.reduceAdd, m0, m1, m2, e2, e3.1, e3.2, e4.2, c6, e7f, l_eqIntSS_l0_M, l_eqIntSS_l0_X, sxR]
 ·rw [if_neg e2] at h
  cases h
  simp (maxDischargeDepth := 9) only [↓xpre, xpost, xlst, yset, ↓reduceIte, Nat.reduceEqDiff, Nat.reduceLT, m0, m2, e2, l_eqIntSS_l0_M, l_eqIntSS_l0_X, sxE]
theorem l_eqIntSS_call (a b : List (List Int)) {r : Bool} (h : l_eqIntSS a b = some r) : Y.call 62 [D.sl 23 (lst (fun x => D.sl 3 (lst (D.int .i64) x)) a), D.sl 23 (lst (fun x => D.sl 3 (lst (D.int .i64) x)) b)] [] = some (D.bool r, []) := by
 refine c62 ?_ rfl
 unfold k62
 unfold l_eqIntSS at h
 by_cases e1 : (a.length : Int) = (b.length : Int)
 ·rw [if_pos e1] at h
  obtain ⟨r3_, hl3, h⟩ := bindS h
  try dsimp only at h
  simp (maxDischargeDepth := 9) only [↓xpre, xpost, xlst, xcore, yset, ↓reduceIte, Nat.reduceEqDiff, Nat.reduceLT, decide_eq_true e1]
  refine wd_mono (l_eqIntSS_l0_wp a b hl3 ?_) ?_
  ·simp (maxDischargeDepth := 9) only [xpost, xcore, ↓reduceIte, Nat.reduceEqDiff, Nat.reduceLT, l_eqIntSS_l0_M]
  ·intro ex3 s3 hX3
   rcases r3_ with q3_ | q3_
   ·unfold l_eqIntSS_l0_X at hX3
    dsimp only at hX3 h
    obtain ⟨rfl, n3_0⟩ := hX3
    cases h
    simp (maxDischargeDepth := 9) only [↓xpre, xpost, xcore, ↓reduceIte, n3_0]
   ·unfold l_eqIntSS_l0_X at hX3
    dsimp only at hX3 h
    obtain rfl := hX3
    cases h
    simp (maxDischargeDepth := 9) only [↓xpre, xpost, xcore, yset, ↓reduceIte, Nat.reduceEqDiff, Nat.reduceLT]
 ·rw [if_neg e1] at h
  cases h
  simp (maxDischargeDepth := 9) only [↓xpre, xpost, xlst, xcore, yset, ↓reduceIte, Nat.reduceEqDiff, Nat.reduceLT, e1]

theorem l_eqIntSS_eq (a b : List (List Int)) (ha : Short a) : l_eqIntSS a b = some (decide (a = b)) := by
 have h1 := ha.1
 unfold l_eqIntSS l_eqIntSS_l0
 by_cases hl : a.length = b.length
 ·rw [if_pos (by omega)]
  have key := itO_all (fun v => l_eqIntSS_l0_S a b v) (fun i => (i : Int)) a.length (fun i => decide (a.getD i default = b.getD i default)) (.inl ()) (.inr ()) ?_ ?_
  ·simp only [Int.natCast_zero] at key
   rw [key, all_same a b hl]
   by_cases he : a = b <;> simp [he]
  ·intro i hi
   simp only [l_eqIntSS_l0_S]
   rw [if_pos (lt_nat hi), ckT (ix_nat hi), ckT (ix_nat (by omega)), ckT (by rw [getD_nat _ _ hi]; exact ha.at i hi), Int.toNat_natCast, wrS i (by omega)] <;> simp only [decide_eq_true_eq]
  ·simp only [l_eqIntSS_l0_S]
   rw [if_neg (not_lt_nat _)]
 ·rw [if_neg (by omega)]
  have : ¬ a = b := fun e => hl (by rw [e])
  simp [this]
theorem l_eqIntSS_cl (a b : List (List Int)) (h0 : Short a) : Y.call 62 [D.sl 23 (lst (fun x => D.sl 3 (lst (D.int .i64) x)) a), D.sl 23 (lst (fun x => D.sl 3 (lst (D.int .i64) x)) b)] [] = some (D.bool (decide (a = b)), []) := l_eqIntSS_call a b (l_eqIntSS_eq a b h0)
/-- What is left of a number, or -1. -/
def szN (left n : Int) : Int := if left - n < 0 then -1 else left - n
theorem szN_cases (left n : Int) : szN left n = -1 ∨ (szN left n = left - n ∧ 0 ≤ left - n) := by unfold szN; split <;> omega
def tot (l : List (List Int)) : Int := (l.map fun xs => (xs.length : Int)).sum
theorem tot_nil : tot [] = 0 := rfl
theorem tot_cons (x : List Int) (l : List (List Int)) : tot (x :: l) = x.length + tot l := rfl
theorem tot_nonneg (l : List (List Int)) : 0 ≤ tot l := by
 induction l with
 | nil => rw [tot_nil]; omega
 | cons x l ih => rw [tot_cons]; omega
theorem tot_mem {l : List (List Int)} {x : List Int} (h : x ∈ l) : (x.length : Int) ≤ tot l := by
 induction l with
 | nil => cases h
 | cons y l ih =>
  rw [tot_cons]
  have := tot_nonneg l
  rcases List.mem_cons.1 h with rfl | h
  ·omega
  ·have := ih h; omega
theorem tot_short {l : List (List Int)} (h : l.length + tot l < 1099511627776) : Short l := by
 have := tot_nonneg l
 exact ⟨by omega, fun x hx => by have := tot_mem hx; omega⟩
noncomputable def l_szIntS (a : List Int) (left : Int) : Option (Int) :=
 if (IntKind.i64.wrap (left - (a.length : Int))) < 0 then
  some (-1)
 else
  some (IntKind.i64.wrap (left - (a.length : Int)))
/-- laws.szIntS -/
def k32 : SC :=
 .seq
 (.ops [
 ⟨some 4, .assign (.const (.int .i64 0)), 3, none⟩])
 (.seq
 (.ops [
 ⟨some 5, .move (.tmp 1), 3, none⟩,
 ⟨some 6, .move (.tmp 0), 23, none⟩,
 ⟨some 7, .call ⟨(.builtin .len), #[(.tmp 6)], #[23]⟩, 3, none⟩,
 ⟨some 8, .binOp .sub 3 (.tmp 5) (.tmp 7) 3, 3, none⟩,
 ⟨some 1, .assign (.tmp 8), 3, none⟩])
 (.seq
 (.seq
 (.ops [
 ⟨some 9, .move (.tmp 1), 3, none⟩,
 ⟨some 10, .binOp .lss 3 (.tmp 9) (.const (.int .i64 0)) 3, 4, none⟩])
 (.cond (.tmp 10)
 (.seq
 (.ops [
 ⟨some 4, .assign (.const (.int .i64 (-1))), 3, none⟩])
 .ret)
 .skip))
 (.seq
 (.ops [
 ⟨some 11, .move (.tmp 1), 3, none⟩,
 ⟨some 4, .assign (.tmp 11), 3, none⟩])
 .ret)))
theorem slim32 : Try.f32.body.map (slim lends) = some k32 := by kernel_rfl
theorem ok32 : fnOk Try.f32 2 = true := by kernel_rfl
theorem c32 {a l : List D} {r : D × List D} (h : wpD Y.env k32 (fin tys l.length [ResultVar.tmp 4] r) (entry a l)) (ha : a.length = 2) : Y.call 32 a l = some r :=
 call_slim (Y := Y) rfl Try.func32 (ha ▸ ok32) slim32 h
theorem l_szIntS_call (a : List Int) (left : Int) {r : Int} (h : l_szIntS a left = some r) : Y.call 32 [D.sl 3 (lst (D.int .i64) a), D.int .i64 left] [] = some (D.int .i64 r, []) := by
 refine c32 ?_ rfl
 unfold k32
 unfold l_szIntS at h
 by_cases e1 : (IntKind.i64.wrap (left - (a.length : Int))) < 0
 ·rw [if_pos e1] at h
  cases h
  simp (maxDischargeDepth := 9) only [↓xpre, xpost, xlst, xcore, yset, ↓reduceIte, Nat.reduceEqDiff, Nat.reduceLT, Int.reduceNeg, e1]
 ·rw [if_neg e1] at h
  cases h
  simp (maxDischargeDepth := 9) only [↓xpre, xpost, xlst, xcore, yset, ↓reduceIte, Nat.reduceEqDiff, Nat.reduceLT, Int.reduceNeg, e1]

theorem l_szIntS_eq (a : List Int) (left : Int) (ha : a.length < 9223372036854775808) (hl : 0 ≤ left ∧ left ≤ 1048576) : l_szIntS a left = some (szN left a.length) := by
 unfold l_szIntS szN
 rw [wr64 _ (by omega)]
 split <;> rfl
theorem l_szIntS_cl (a : List Int) (left : Int) (h0 : a.length < 9223372036854775808) (h1 : 0 ≤ left ∧ left ≤ 1048576) : Y.call 32 [D.sl 3 (lst (D.int .i64) a), D.int .i64 left] [] = some (D.int .i64 (szN left a.length), []) := l_szIntS_call a left (l_szIntS_eq a left h0 h1)
noncomputable def l_szIntSS_l0_S (a : List (List Int)) (left1 i : Int) : Option ((Int × Int) ⊕ (Unit ⊕ Int)) :=
 if i < (a.length : Int) then
  ck (0 ≤ i ∧ i.toNat < a.length) <|
  ck ((a.getD i.toNat default).length < 9223372036854775808) <|
  ck (0 ≤ left1 ∧ left1 ≤ 1048576) <|
  if (szN left1 (a.getD i.toNat default).length) < 0 then
   some (Sum.inr (Sum.inl ()))
  else
   some (Sum.inl ((szN left1 (a.getD i.toNat default).length), IntKind.i64.wrap (i + 1)))
 else
  some (Sum.inr (Sum.inr left1))
noncomputable def l_szIntSS_l0 (a : List (List Int)) (v : Int × Int) : Option (Unit ⊕ Int) := itO (fun v => l_szIntSS_l0_S a v.1 v.2) v
noncomputable def l_szIntSS (a : List (List Int)) (left : Int) : Option (Int) :=
 if (IntKind.i64.wrap (left - (a.length : Int))) < 0 then
  some (-1)
 else
  (l_szIntSS_l0 a (IntKind.i64.wrap (left - (a.length : Int)), 0)).bind fun r3_ =>
  match r3_ with
  | .inl q3_ =>
   some (-1)
  | .inr q3_ =>
   some q3_
/-- laws.szIntSS -/
def k56_l0b : SC :=
 .seq
 (.seq
 (.ops [
 ⟨some 12, .move (.tmp 5), 3, none⟩,
 ⟨some 13, .move (.tmp 0), 44, none⟩,
 ⟨some 14, .call ⟨(.builtin .len), #[(.tmp 13)], #[44]⟩, 3, none⟩,
 ⟨some 15, .binOp .lss 3 (.tmp 12) (.tmp 14) 3, 4, none⟩])
 (.cond (.tmp 15)
 .skip
 (.exit 0)))
 (.seq
 (.block 1
 (.seq
 (.ops [
 ⟨some 18, .move (.tmp 0), 44, none⟩,
 ⟨some 19, .move (.tmp 5), 3, none⟩,
 ⟨some 20, .indexAddr 44 (.tmp 18) (.tmp 19), 0, none⟩,
 ⟨some 21, .load 23 (.tmp 20), 23, none⟩,
 ⟨some 22, .move (.tmp 1), 3, none⟩,
 ⟨some 23, .call ⟨(.value (.func 32)), #[(.tmp 21), (.tmp 22)], #[23, 3]⟩, 3, none⟩,
 ⟨some 1, .assign (.tmp 23), 3, none⟩])
 (.seq
 (.ops [
 ⟨some 24, .move (.tmp 1), 3, none⟩,
 ⟨some 25, .binOp .lss 3 (.tmp 24) (.const (.int .i64 0)) 3, 4, none⟩])
 (.cond (.tmp 25)
 (.seq
 (.ops [
 ⟨some 4, .assign (.const (.int .i64 (-1))), 3, none⟩])
 .ret)
 .skip))))
 (.ops [
 ⟨some 16, .move (.tmp 5), 3, none⟩,
 ⟨some 17, .binOp .add 3 (.tmp 16) (.const (.int .i64 1)) 3, 3, none⟩,
 ⟨some 5, .assign (.tmp 17), 3, none⟩]))
def k56_l0 : SC := .loop k56_l0b
def k56 : SC :=
 .seq
 (.ops [
 ⟨some 4, .assign (.const (.int .i64 0)), 3, none⟩])
 (.seq
 (.ops [
 ⟨some 6, .move (.tmp 1), 3, none⟩,
 ⟨some 7, .move (.tmp 0), 44, none⟩,
 ⟨some 8, .call ⟨(.builtin .len), #[(.tmp 7)], #[44]⟩, 3, none⟩,
 ⟨some 9, .binOp .sub 3 (.tmp 6) (.tmp 8) 3, 3, none⟩,
 ⟨some 1, .assign (.tmp 9), 3, none⟩])
 (.seq
 (.seq
 (.ops [
 ⟨some 10, .move (.tmp 1), 3, none⟩,
 ⟨some 11, .binOp .lss 3 (.tmp 10) (.const (.int .i64 0)) 3, 4, none⟩])
 (.cond (.tmp 11)
 (.seq
 (.ops [
 ⟨some 4, .assign (.const (.int .i64 (-1))), 3, none⟩])
 .ret)
 .skip))
 (.seq
 (.seq
 (.ops [
 ⟨some 5, .assign (.const (.int .i64 0)), 3, none⟩])
 (.block 0
 k56_l0))
 (.seq
 (.ops [
 ⟨some 26, .move (.tmp 1), 3, none⟩,
 ⟨some 4, .assign (.tmp 26), 3, none⟩])
 .ret))))
theorem slim56 : Try.f56.body.map (slim lends) = some k56 := by kernel_rfl
theorem ok56 : fnOk Try.f56 2 = true := by kernel_rfl
theorem c56 {a l : List D} {r : D × List D} (h : wpD Y.env k56 (fin tys l.length [ResultVar.tmp 4] r) (entry a l)) (ha : a.length = 2) : Y.call 56 a l = some r :=
 call_slim (Y := Y) rfl Try.func56 (ha ▸ ok56) slim56 h
def l_szIntSS_l0_M (a : List (List Int)) (left1 i : Int) (s : St) : Prop := s.v 0 = D.sl 23 (lst (fun x => D.sl 3 (lst (D.int .i64) x)) a) ∧ s.v 1 = D.int .i64 left1 ∧ s.v 5 = D.int .i64 i
def l_szIntSS_l0_X (a : List (List Int)) (r : Unit ⊕ Int) (ex : Ex) (s : St) : Prop := match r with
 | .inl q => ex = .ret ∧ s.v 4 = D.int .i64 (-1)
 | .inr q => ex = .exit 0 ∧ s.v 1 = D.int .i64 q
theorem l_szIntSS_l0_wp (a : List (List Int)) {v : Int × Int} {s : St} {r : Unit ⊕ Int} (h : l_szIntSS_l0 a v = some r) (hM : l_szIntSS_l0_M a v.1 v.2 s) : wpD Y.env k56_l0 (l_szIntSS_l0_X a r) s := by
 unfold l_szIntSS_l0 at h
 refine wd_itO (c := k56_l0b) (fun v => l_szIntSS_l0_S a v.1 v.2) (fun v s => l_szIntSS_l0_M a v.1 v.2 s) (l_szIntSS_l0_X a) ?_ h hM
 clear h hM s v r
 intro v s o hM h
 obtain ⟨left1, i⟩ := v
 dsimp only at h hM
 unfold l_szIntSS_l0_S at h
 unfold l_szIntSS_l0_M at hM
 obtain ⟨m0, m1, m2⟩ := hM
 unfold k56_l0b
 by_cases e2 : i < (a.length : Int)
 ·rw [if_pos e2] at h
  obtain ⟨e3, h⟩ := ckS h
  obtain ⟨e4, h⟩ := ckS h
  obtain ⟨e5, h⟩ := ckS h
  have c6 := l_szIntS_cl (a.getD i.toNat default) left1 e4 e5
  by_cases e7 : (szN left1 (a.getD i.toNat default).length) < 0
  ·rw [if_pos e7] at h
   cases h
   simp (maxDischargeDepth := 9) only [↓xpre, xpost, xlst, xc2, xcore, yset, ↓reduceIte, Nat.reduceEqDiff, Nat.reduceLT, Nat.reduceAdd, Int.reduceNeg, m0, m1, m2, e2, e3.1, e3.2, c6, e7, l_szIntSS_l0_M, l_szIntSS_l0_X, sxR]
  ·rw [if_neg e7] at h
   cases h
   simp (maxDischargeDepth := 9) only [↓xpre, xpost, xlst, xc2, xcore, yset, ↓reduceIte, Nat.reduceEqDiff, Nat.reduceLT, Nat.reduceAdd, Int.reduceNeg, m0, m1, m2, e2, e3.1, e3.2, c6, e7, l_szIntSS_l0_M, sxN]
 ·rw [if_neg e2] at h
  cases h
  simp (maxDischargeDepth := 9) only [↓xpre, xpost, xlst, yset, ↓reduceIte, Nat.reduceEqDiff, Nat.reduceLT, Int.reduceNeg, m0, m1, m2, e2, l_szIntSS_l0_M, l_szIntSS_l0_X, sxE]
theorem l_szIntSS_call (a : List (List Int)) (left : Int) {r : Int} (h : l_szIntSS a left = some r) : Y.call 56 [D.sl 23 (lst (fun x => D.sl 3 (lst (D.int .i64) x)) a), D.int .i64 left] [] = some (D.int .i64 r, []) := by
 refine c56 ?_ rfl
 unfold k56
 unfold l_szIntSS at h
 by_cases e1 : (IntKind.i64.wrap (left - (a.length : Int))) < 0
 ·rw [if_pos e1] at h
  cases h
  simp (maxDischargeDepth := 9) only [↓xpre, xpost, xlst, xcore, yset, ↓reduceIte, Nat.reduceEqDiff, Nat.reduceLT, Int.reduceNeg, e1]
 ·rw [if_neg e1] at h
  obtain ⟨r3_, hl3, h⟩ := bindS h
  try dsimp only at h
  simp (maxDischargeDepth := 9) only [↓xpre, xpost, xlst, xcore, yset, ↓reduceIte, Nat.reduceEqDiff, Nat.reduceLT, Int.reduceNeg, e1]
  refine wd_mono (l_szIntSS_l0_wp a hl3 ?_) ?_
  ·simp (maxDischargeDepth := 9) only [xpost, xcore, ↓reduceIte, Nat.reduceEqDiff, Nat.reduceLT, l_szIntSS_l0_M]
  ·intro ex3 s3 hX3
   rcases r3_ with q3_ | q3_
   ·unfold l_szIntSS_l0_X at hX3
    dsimp only at hX3 h
    obtain ⟨rfl, n3_0⟩ := hX3
    cases h
    simp (maxDischargeDepth := 9) only [↓xpre, xpost, xcore, ↓reduceIte, Int.reduceNeg, n3_0]
   ·unfold l_szIntSS_l0_X at hX3
    dsimp only at hX3 h
    obtain ⟨rfl, n3_0⟩ := hX3
    cases h
    simp (maxDischargeDepth := 9) only [↓xpre, xpost, xcore, ↓reduceIte, Nat.reduceEqDiff, Nat.reduceLT, n3_0]

/-- What is left of a number behind lists. -/
def szL : Int → List (List Int) → Int
 | left, [] => left
 | left, x :: l => if left - x.length < 0 then -1 else szL (left - x.length) l
theorem szL_eq (l : List (List Int)) : ∀ (left : Int), 0 ≤ left → szL left l = szN left (tot l) := by
 induction l with
 | nil => intro left h; unfold szL szN; rw [tot_nil, if_neg (by omega)]; omega
 | cons x l ih =>
  intro left h
  have := tot_nonneg l
  unfold szL
  by_cases hq : left - x.length < 0
  ·rw [if_pos hq]; unfold szN; rw [tot_cons, if_pos (by omega)]
  ·rw [if_neg hq, ih _ (by omega)]
   unfold szN
   rw [tot_cons]
   by_cases hr : left - x.length - tot l < 0
   ·rw [if_pos hr, if_pos (by omega)]
   ·rw [if_neg hr, if_neg (by omega)]; omega
theorem l_szIntSS_l0_eq (a : List (List Int)) (ha : a.length < 4611686018427387904) (hx : ∀ x ∈ a, x.length < 9223372036854775808) : ∀ (n i : Nat) (left : Int), n = a.length - i → i ≤ a.length → 0 ≤ left ∧ left ≤ 1048576 →
  l_szIntSS_l0 a (left, (i : Int)) = some (if szL left (a.drop i) = -1 then .inl () else .inr (szL left (a.drop i))) := by
 intro n
 induction n with
 | zero =>
  intro i left hn hi hl
  have e : i = a.length := by omega
  subst e
  unfold l_szIntSS_l0
  rw [itO_inr (r := Sum.inr left)]
  ·rw [List.drop_length]; unfold szL; rw [if_neg (by omega)]
  ·simp only [l_szIntSS_l0_S]; rw [if_neg (not_lt_nat _)]
 | succ n ih =>
  intro i left hn hi hl
  have hlt : i < a.length := by omega
  have hm : a[i] ∈ a := List.getElem_mem hlt
  have hxm := hx _ hm
  have step : l_szIntSS_l0_S a left i = if szN left a[i].length < 0 then some (Sum.inr (Sum.inl ())) else some (Sum.inl (szN left a[i].length, ((i + 1 : Nat) : Int))) := by
   unfold l_szIntSS_l0_S
   rw [if_pos (lt_nat hlt), ckT (ix_nat hlt), ckT (by rw [getD_nat _ _ hlt]; exact hxm), ckT hl, getD_nat _ _ hlt, wrS i (by omega)]
  rw [List.drop_eq_getElem_cons hlt]
  unfold szL
  by_cases hq : left - (a[i].length : Int) < 0
  ·rw [if_pos hq]
   unfold l_szIntSS_l0
   rw [itO_inr (r := Sum.inl ())]
   ·rfl
   ·rw [step]; unfold szN; rw [if_pos hq]; rfl
  ·rw [if_neg hq]
   have e2 : szN left a[i].length = left - a[i].length := by unfold szN; rw [if_neg hq]
   have := ih (i + 1) (left - a[i].length) (by omega) (by omega) (by omega)
   unfold l_szIntSS_l0 at this ⊢
   rw [itO_inl (s' := (left - (a[i].length : Int), ((i + 1 : Nat) : Int))), this]
   ·rw [step, e2, if_neg hq]
theorem l_szIntSS_eq0 (a : List (List Int)) (left : Int) (ha : a.length < 9223372036854775808) (hx : ∀ x ∈ a, x.length < 9223372036854775808) (hl : 0 ≤ left ∧ left ≤ 1048576) : l_szIntSS a left = some (szN left (a.length + tot a)) := by
 have ht := tot_nonneg a
 unfold l_szIntSS
 rw [wr64 _ (by omega)]
 by_cases hq : left - (a.length : Int) < 0
 ·rw [if_pos hq]; unfold szN; rw [if_pos (by omega)]
 ·rw [if_neg hq]
  have h0 := l_szIntSS_l0_eq a (by omega) hx a.length 0 (left - a.length) (by omega) (by omega) (by omega)
  simp only [Int.natCast_zero, List.drop_zero] at h0
  rw [h0, Option.bind_some, szL_eq _ _ (by omega)]
  have e : szN (left - a.length) (tot a) = szN left (a.length + tot a) := by unfold szN; rw [show left - ↑a.length - tot a = left - (↑a.length + tot a) by omega]
  rw [e]
  by_cases h1 : szN left (a.length + tot a) = -1
  ·rw [if_pos h1, h1]
  ·rw [if_neg h1]
theorem app_lt {α : Type} (a b : List α) (x : α) : (a.length : Int) < ((a ++ x :: b).length : Int) := by rw [List.length_append, List.length_cons]; omega
theorem app_ix {α : Type} (a b : List α) (x : α) : 0 ≤ (a.length : Int) ∧ (a.length : Int).toNat < (a ++ x :: b).length := by rw [List.length_append, List.length_cons]; omega
theorem app_not {α : Type} (a : List α) : ¬ (a.length : Int) < ((a ++ []).length : Int) := by rw [List.append_nil]; omega
/-- Lists that a machine can hold. -/
def Wide (l : List (List Int)) : Prop := l.length < 9223372036854775808 ∧ ∀ x ∈ l, x.length < 9223372036854775808
instance (l : List (List Int)) : Decidable (Wide l) := by unfold Wide; infer_instance
theorem l_szIntSS_eq (a : List (List Int)) (left : Int) (hw : Wide a) (hl : 0 ≤ left ∧ left ≤ 1048576) : l_szIntSS a left = some (szN left (a.length + tot a)) := l_szIntSS_eq0 a left hw.1 hw.2 hl
theorem l_szIntSS_cl (a : List (List Int)) (left : Int) (h0 : Wide a) (h1 : 0 ≤ left ∧ left ≤ 1048576) : Y.call 56 [D.sl 23 (lst (fun x => D.sl 3 (lst (D.int .i64) x)) a), D.int .i64 left] [] = some (D.int .i64 (szN left (a.length + tot a)), []) := l_szIntSS_call a left (l_szIntSS_eq a left h0 h1)
/-- Numbers from k on. -/
def upto (k : Int) (n : Nat) : List Int := (List.range n).map fun (i : Nat) => k + i
theorem upto_len (k : Int) (n : Nat) : (upto k n).length = n := by simp [upto]
theorem set_upto (xs : List Int) (k : Int) (i : Nat) (h : i < xs.length) : (upto k i ++ xs.drop i).set i (k + i) = upto k (i + 1) ++ xs.drop (i + 1) := by
 rw [List.set_append_right _ _ (by simp [upto_len]), upto_len, Nat.sub_self, List.drop_eq_getElem_cons h, List.set_cons_zero]
 simp [upto, List.range_succ]
noncomputable def l_markIntS_l0_S (k k1 i : Int) (t100000_ : List Int) : Option ((Int × Int × (List Int)) ⊕ (Int × (List Int))) :=
 if i < (t100000_.length : Int) then
  ck (0 ≤ i ∧ i.toNat < t100000_.length) <|
  some (Sum.inl (IntKind.i64.wrap (k1 + 1), IntKind.i64.wrap (i + 1), (t100000_.set i.toNat k1)))
 else
  some (Sum.inr (k1, t100000_))
noncomputable def l_markIntS_l0 (k : Int) (v : Int × Int × (List Int)) : Option (Int × (List Int)) := itO (fun v => l_markIntS_l0_S k v.1 v.2.1 v.2.2) v
noncomputable def l_markIntS (a : List Int) (k : Int) : Option (Int × (List Int)) :=
 (l_markIntS_l0 k (k, 0, a)).bind fun r2_ =>
 some (r2_.1, r2_.2)
/-- laws.markIntS -/
def k18_l0b : SC :=
 .seq
 (.seq
 (.ops [
 ⟨some 6, .move (.tmp 5), 3, none⟩,
 ⟨some 7, .move (.tmp 0), 23, none⟩,
 ⟨some 8, .call ⟨(.builtin .len), #[(.tmp 7)], #[23]⟩, 3, none⟩,
 ⟨some 9, .binOp .lss 3 (.tmp 6) (.tmp 8) 3, 4, none⟩])
 (.cond (.tmp 9)
 .skip
 (.exit 0)))
 (.seq
 (.block 1
 (.seq
 (.ops [
 ⟨some 12, .move (.tmp 0), 23, none⟩,
 ⟨some 13, .move (.tmp 5), 3, none⟩,
 ⟨some 14, .move (.tmp 1), 3, none⟩,
 ⟨some 15, .indexAddr 23 (.tmp 12) (.tmp 13), 0, none⟩,
 ⟨none, .store 3 (.tmp 15) (.tmp 14), 0, none⟩])
 (.ops [
 ⟨some 16, .move (.tmp 1), 3, none⟩,
 ⟨some 17, .binOp .add 3 (.tmp 16) (.const (.int .i64 1)) 3, 3, none⟩,
 ⟨some 1, .assign (.tmp 17), 3, none⟩])))
 (.ops [
 ⟨some 10, .move (.tmp 5), 3, none⟩,
 ⟨some 11, .binOp .add 3 (.tmp 10) (.const (.int .i64 1)) 3, 3, none⟩,
 ⟨some 5, .assign (.tmp 11), 3, none⟩]))
def k18_l0 : SC := .loop k18_l0b
def k18 : SC :=
 .seq
 (.ops [
 ⟨some 4, .assign (.const (.int .i64 0)), 3, none⟩])
 (.seq
 (.seq
 (.ops [
 ⟨some 5, .assign (.const (.int .i64 0)), 3, none⟩])
 (.block 0
 k18_l0))
 (.seq
 (.ops [
 ⟨some 18, .move (.tmp 1), 3, none⟩,
 ⟨some 4, .assign (.tmp 18), 3, none⟩])
 .ret))
theorem slim18 : Try.f18.body.map (slim lends) = some k18 := by kernel_rfl
theorem ok18 : fnOk Try.f18 2 = true := by kernel_rfl
theorem c18 {a l : List D} {r : D × List D} (h : wpD Y.env k18 (fin tys l.length [ResultVar.tmp 4] r) (entry a l)) (ha : a.length = 2) : Y.call 18 a l = some r :=
 call_slim (Y := Y) rfl Try.func18 (ha ▸ ok18) slim18 h
def l_markIntS_l0_M (k k1 i : Int) (t100000_ : List Int) (s : St) : Prop := (∃ w_, s.v 0 = D.vw [100000] (s.k 100000) w_) ∧ s.v 1 = D.int .i64 k1 ∧ s.v 5 = D.int .i64 i ∧ s.v 100000 = D.own 3 (lst (D.int .i64) t100000_)
def l_markIntS_l0_X (k : Int) (r : Int × (List Int)) (ex : Ex) (s : St) : Prop := ex = .exit 0 ∧ s.v 1 = D.int .i64 r.1 ∧ s.v 100000 = D.own 3 (lst (D.int .i64) r.2)
theorem l_markIntS_l0_wp (k : Int) {v : Int × Int × (List Int)} {s : St} {r : Int × (List Int)} (h : l_markIntS_l0 k v = some r) (hM : l_markIntS_l0_M k v.1 v.2.1 v.2.2 s) : wpD Y.env k18_l0 (l_markIntS_l0_X k r) s := by
 unfold l_markIntS_l0 at h
 refine wd_itO (c := k18_l0b) (fun v => l_markIntS_l0_S k v.1 v.2.1 v.2.2) (fun v s => l_markIntS_l0_M k v.1 v.2.1 v.2.2 s) (l_markIntS_l0_X k) ?_ h hM
 clear h hM s v r
 intro v s o hM h
 obtain ⟨k1, i, t100000_⟩ := v
 dsimp only at h hM
 unfold l_markIntS_l0_S at h
 unfold l_markIntS_l0_M at hM
 obtain ⟨⟨w0_, m0⟩, m1, m2, m3⟩ := hM
 unfold k18_l0b
 by_cases e1 : i < (t100000_.length : Int)
 ·rw [if_pos e1] at h
  obtain ⟨e2, h⟩ := ckS h
  cases h
  simp (maxDischargeDepth := 9) only [↓xpre, xpost, xlst, xcore, yset, ↓reduceIte, Nat.reduceEqDiff, Nat.reduceLT, m0, m1, m2, m3, e1, e2.1, e2.2, l_markIntS_l0_M, sxN] <;> (repeat' apply And.intro) <;> first | rfl | exact ⟨_, rfl⟩ | exact ⟨_, _, rfl⟩ | simp [lst, cat2_nil]
 ·rw [if_neg e1] at h
  cases h
  simp (maxDischargeDepth := 9) only [↓xpre, xpost, xlst, xcore, yset, ↓reduceIte, Nat.reduceEqDiff, Nat.reduceLT, m0, m1, m2, m3, e1, l_markIntS_l0_M, l_markIntS_l0_X, sxE]
theorem l_markIntS_call (a : List Int) (k : Int) {r : Int × (List Int)} (h : l_markIntS a k = some r) : Y.call 18 [D.vw [100000] 0 0, D.int .i64 k] [D.own 3 (lst (D.int .i64) a)] = some (D.int .i64 r.1, [D.own 3 (lst (D.int .i64) r.2)]) := by
 refine c18 ?_ rfl
 unfold k18
 unfold l_markIntS at h
 obtain ⟨r2_, hl2, h⟩ := bindS h
 try dsimp only at h
 simp (maxDischargeDepth := 9) only [↓xpre, xpost, xcore, yset, ↓reduceIte, Nat.reduceEqDiff, Nat.reduceLT, Nat.reduceAdd]
 refine wd_mono (l_markIntS_l0_wp k hl2 ?_) ?_
 ·simp (maxDischargeDepth := 9) only [xpost, xcore, ↓reduceIte, Nat.reduceEqDiff, Nat.reduceLT, Nat.reduceSub, l_markIntS_l0_M] <;> (repeat' apply And.intro) <;> first | rfl | exact ⟨_, rfl⟩ | exact ⟨_, _, rfl⟩ | simp [lst, cat2_nil]
 ·intro ex2 s2 hX2
  unfold l_markIntS_l0_X at hX2
  obtain ⟨rfl, n2_0, n2_1⟩ := hX2
  cases h
  simp (maxDischargeDepth := 9) only [↓xpre, xpost, xlst, xcore, ↓reduceIte, Nat.reduceEqDiff, Nat.reduceLT, n2_0, n2_1]

theorem l_markIntS_eq (a : List Int) (k : Int) (ha : a.length < 1099511627776) (hk : 0 ≤ k ∧ k < 1099511627776) : l_markIntS a k = some (k + a.length, upto k a.length) := by
 have key := itO_for (fun v => l_markIntS_l0_S k v.1 v.2.1 v.2.2) (fun i => (k + i, (i : Int), upto k i ++ a.drop i)) a.length (k + a.length, upto k a.length) ?_ ?_
 ·unfold l_markIntS l_markIntS_l0
  have e0 : upto k 0 = [] := rfl
  simp only [Int.natCast_zero, Int.add_zero, List.drop_zero, e0, List.nil_append] at key
  rw [key]; rfl
 ·intro i hi
  simp only [l_markIntS_l0_S]
  have el : (upto k i ++ a.drop i).length = a.length := by simp [upto_len]; omega
  rw [el, if_pos (lt_nat hi), ckT (ix_nat hi), Int.toNat_natCast, set_upto a k i hi, wrS i (by omega), wr64 _ (by omega)]
  rw [show k + (i : Int) + 1 = k + ((i + 1 : Nat) : Int) by omega]
 ·simp only [l_markIntS_l0_S]
  have el : (upto k a.length ++ a.drop a.length).length = a.length := by simp [upto_len]
  rw [el, if_neg (not_lt_nat _)]; simp
theorem l_markIntS_cl (a : List Int) (k : Int) (h0 : a.length < 1099511627776) (h1 : 0 ≤ k ∧ k < 1099511627776) : Y.call 18 [D.vw [100000] 0 0, D.int .i64 k] [D.own 3 (lst (D.int .i64) a)] = some (D.int .i64 (k + a.length), [D.own 3 (lst (D.int .i64) (upto k a.length))]) := l_markIntS_call a k (l_markIntS_eq a k h0 h1)
def marks : Int → List (List Int) → List (List Int)
 | _, [] => []
 | k, x :: l => upto k x.length :: marks (k + x.length) l
noncomputable def l_markIntSS_l0_S (k k1 i : Int) (t100000_ : List (List Int)) : Option ((Int × Int × (List (List Int))) ⊕ (Int × (List (List Int)))) :=
 if i < (t100000_.length : Int) then
  ck (0 ≤ i ∧ i.toNat < t100000_.length) <|
  ck ((t100000_.getD i.toNat default).length < 1099511627776) <|
  ck (0 ≤ k1 ∧ k1 < 1099511627776) <|
  some (Sum.inl ((k1 + (t100000_.getD i.toNat default).length), IntKind.i64.wrap (i + 1), (t100000_.set i.toNat (upto k1 (t100000_.getD i.toNat default).length))))
 else
  some (Sum.inr (k1, t100000_))
noncomputable def l_markIntSS_l0 (k : Int) (v : Int × Int × (List (List Int))) : Option (Int × (List (List Int))) := itO (fun v => l_markIntSS_l0_S k v.1 v.2.1 v.2.2) v
noncomputable def l_markIntSS (a : List (List Int)) (k : Int) : Option (Int × (List (List Int))) :=
 (l_markIntSS_l0 k (k, 0, a)).bind fun r2_ =>
 some (r2_.1, r2_.2)
/-- laws.markIntSS -/
def k63_l0b : SC :=
 .seq
 (.seq
 (.ops [
 ⟨some 6, .move (.tmp 5), 3, none⟩,
 ⟨some 7, .move (.tmp 0), 44, none⟩,
 ⟨some 8, .call ⟨(.builtin .len), #[(.tmp 7)], #[44]⟩, 3, none⟩,
 ⟨some 9, .binOp .lss 3 (.tmp 6) (.tmp 8) 3, 4, none⟩])
 (.cond (.tmp 9)
 .skip
 (.exit 0)))
 (.seq
 (.block 1
 (.ops [
 ⟨some 12, .move (.tmp 0), 44, none⟩,
 ⟨some 13, .move (.tmp 5), 3, none⟩,
 ⟨some 14, .indexAddr 44 (.tmp 12) (.tmp 13), 0, none⟩,
 ⟨some 15, .load 23 (.tmp 14), 23, none⟩,
 ⟨some 16, .move (.tmp 1), 3, none⟩,
 ⟨some 17, .call ⟨(.value (.func 18)), #[(.tmp 15), (.tmp 16)], #[23, 3]⟩, 3, none⟩,
 ⟨some 1, .assign (.tmp 17), 3, none⟩]))
 (.ops [
 ⟨some 10, .move (.tmp 5), 3, none⟩,
 ⟨some 11, .binOp .add 3 (.tmp 10) (.const (.int .i64 1)) 3, 3, none⟩,
 ⟨some 5, .assign (.tmp 11), 3, none⟩]))
def k63_l0 : SC := .loop k63_l0b
def k63 : SC :=
 .seq
 (.ops [
 ⟨some 4, .assign (.const (.int .i64 0)), 3, none⟩])
 (.seq
 (.seq
 (.ops [
 ⟨some 5, .assign (.const (.int .i64 0)), 3, none⟩])
 (.block 0
 k63_l0))
 (.seq
 (.ops [
 ⟨some 18, .move (.tmp 1), 3, none⟩,
 ⟨some 4, .assign (.tmp 18), 3, none⟩])
 .ret))
theorem slim63 : Try.f63.body.map (slim lends) = some k63 := by kernel_rfl
theorem ok63 : fnOk Try.f63 2 = true := by kernel_rfl
theorem c63 {a l : List D} {r : D × List D} (h : wpD Y.env k63 (fin tys l.length [ResultVar.tmp 4] r) (entry a l)) (ha : a.length = 2) : Y.call 63 a l = some r :=
 call_slim (Y := Y) rfl Try.func63 (ha ▸ ok63) slim63 h
def l_markIntSS_l0_M (k k1 i : Int) (t100000_ : List (List Int)) (s : St) : Prop := (∃ w_, s.v 0 = D.vw [100000] (s.k 100000) w_) ∧ s.v 1 = D.int .i64 k1 ∧ s.v 5 = D.int .i64 i ∧ s.v 100000 = D.own 23 (lst (fun x => D.own 3 (lst (D.int .i64) x)) t100000_)
def l_markIntSS_l0_X (k : Int) (r : Int × (List (List Int))) (ex : Ex) (s : St) : Prop := ex = .exit 0 ∧ s.v 1 = D.int .i64 r.1 ∧ s.v 100000 = D.own 23 (lst (fun x => D.own 3 (lst (D.int .i64) x)) r.2)
theorem l_markIntSS_l0_wp (k : Int) {v : Int × Int × (List (List Int))} {s : St} {r : Int × (List (List Int))} (h : l_markIntSS_l0 k v = some r) (hM : l_markIntSS_l0_M k v.1 v.2.1 v.2.2 s) : wpD Y.env k63_l0 (l_markIntSS_l0_X k r) s := by
 unfold l_markIntSS_l0 at h
 refine wd_itO (c := k63_l0b) (fun v => l_markIntSS_l0_S k v.1 v.2.1 v.2.2) (fun v s => l_markIntSS_l0_M k v.1 v.2.1 v.2.2 s) (l_markIntSS_l0_X k) ?_ h hM
 clear h hM s v r
 intro v s o hM h
 obtain ⟨k1, i, t100000_⟩ := v
 dsimp only at h hM
 unfold l_markIntSS_l0_S at h
 unfold l_markIntSS_l0_M at hM
 obtain ⟨⟨w0_, m0⟩, m1, m2, m3⟩ := hM
 unfold k63_l0b
 by_cases e1 : i < (t100000_.length : Int)
 ·rw [if_pos e1] at h
  obtain ⟨e2, h⟩ := ckS h
  obtain ⟨e3, h⟩ := ckS h
  obtain ⟨e4, h⟩ := ckS h
  have c5 := l_markIntS_cl (t100000_.getD i.toNat default) k1 e3 e4
  cases h
  simp (maxDischargeDepth := 9) only [↓xpre, xpost, xlst, xc2, xcore, yset, ↓reduceIte, Nat.reduceEqDiff, Nat.reduceLT, Nat.reduceAdd, m0, m1, m2, m3, e1, e2.1, e2.2, c5, l_markIntSS_l0_M, sxN] <;> (repeat' apply And.intro) <;> first | rfl | exact ⟨_, rfl⟩ | exact ⟨_, _, rfl⟩ | simp [lst, cat2_nil]
 ·rw [if_neg e1] at h
  cases h
  simp (maxDischargeDepth := 9) only [↓xpre, xpost, xlst, xcore, yset, ↓reduceIte, Nat.reduceEqDiff, Nat.reduceLT, m0, m1, m2, m3, e1, l_markIntSS_l0_M, l_markIntSS_l0_X, sxE]
theorem l_markIntSS_call (a : List (List Int)) (k : Int) {r : Int × (List (List Int))} (h : l_markIntSS a k = some r) : Y.call 63 [D.vw [100000] 0 0, D.int .i64 k] [D.own 23 (lst (fun x => D.own 3 (lst (D.int .i64) x)) a)] = some (D.int .i64 r.1, [D.own 23 (lst (fun x => D.own 3 (lst (D.int .i64) x)) r.2)]) := by
 refine c63 ?_ rfl
 unfold k63
 unfold l_markIntSS at h
 obtain ⟨r2_, hl2, h⟩ := bindS h
 try dsimp only at h
 simp (maxDischargeDepth := 9) only [↓xpre, xpost, xcore, yset, ↓reduceIte, Nat.reduceEqDiff, Nat.reduceLT, Nat.reduceAdd]
 refine wd_mono (l_markIntSS_l0_wp k hl2 ?_) ?_
 ·simp (maxDischargeDepth := 9) only [xpost, xcore, ↓reduceIte, Nat.reduceEqDiff, Nat.reduceLT, Nat.reduceSub, l_markIntSS_l0_M] <;> (repeat' apply And.intro) <;> first | rfl | exact ⟨_, rfl⟩ | exact ⟨_, _, rfl⟩ | simp [lst, cat2_nil]
 ·intro ex2 s2 hX2
  unfold l_markIntSS_l0_X at hX2
  obtain ⟨rfl, n2_0, n2_1⟩ := hX2
  cases h
  simp (maxDischargeDepth := 9) only [↓xpre, xpost, xlst, xcore, ↓reduceIte, Nat.reduceEqDiff, Nat.reduceLT, n2_0, n2_1]

theorem l_markIntSS_l0_eq (kk : Int) : ∀ (b a : List (List Int)) (k : Int), Short b → a.length + b.length < 1099511627776 → 0 ≤ k → k + tot b < 1099511627776 →
  l_markIntSS_l0 kk (k, (a.length : Int), a ++ b) = some (k + tot b, a ++ marks k b) := by
 intro b
 induction b with
 | nil =>
  intro a k hb hab hk hkt
  unfold l_markIntSS_l0
  rw [itO_inr (r := (k, a ++ []))]
  ·rw [tot_nil, Int.add_zero]; rfl
  ·simp only [l_markIntSS_l0_S]; rw [if_neg (app_not _)]
 | cons x b ih =>
  intro a k hb hab hk hkt
  rw [tot_cons] at hkt
  simp only [List.length_cons] at hab
  have hx : x.length < 1099511627776 := hb.2 x (List.mem_cons_self ..)
  have ht := tot_nonneg b
  have := ih (a ++ [upto k x.length]) (k + x.length) ⟨by omega, fun y hy => hb.2 y (List.mem_cons_of_mem _ hy)⟩ (by simp; omega) (by omega) (by omega)
  unfold l_markIntSS_l0 at this ⊢
  have eg : (a ++ x :: b).getD (a.length : Int).toNat default = x := by rw [Int.toNat_natCast]; exact getD_app_right a (x :: b) a.length rfl (by simp)
  rw [itO_inl (s' := (k + x.length, ((a ++ [upto k x.length]).length : Int), (a ++ [upto k x.length]) ++ b)), this]
  ·rw [tot_cons, show k + (x.length : Int) + tot b = k + (x.length + tot b) by omega]
   simp [marks]
  ·simp only [l_markIntSS_l0_S]
   rw [if_pos (app_lt ..), ckT (app_ix ..), ckT (by rw [eg]; exact hx), ckT ⟨hk, by omega⟩, eg, wrS _ (by omega), Int.toNat_natCast, List.set_append_right _ _ (Nat.le_refl _), Nat.sub_self, List.set_cons_zero]
   simp
theorem l_markIntSS_eq (a : List (List Int)) (k : Int) (ha : Short a) (hk : 0 ≤ k ∧ k + tot a < 1099511627776) : l_markIntSS a k = some (k + tot a, marks k a) := by
 unfold l_markIntSS
 have := l_markIntSS_l0_eq k a [] k ha (by have := ha.1; simp; omega) hk.1 hk.2
 simp only [List.length_nil, List.nil_append, Int.natCast_zero] at this
 rw [this]; rfl
theorem l_markIntSS_cl (a : List (List Int)) (k : Int) (h0 : Short a) (h1 : 0 ≤ k ∧ k + tot a < 1099511627776) : Y.call 63 [D.vw [100000] 0 0, D.int .i64 k] [D.own 23 (lst (fun x => D.own 3 (lst (D.int .i64) x)) a)] = some (D.int .i64 (k + tot a), [D.own 23 (lst (fun x => D.own 3 (lst (D.int .i64) x)) (marks k a))]) := l_markIntSS_call a k (l_markIntSS_eq a k h0 h1)
/-- Whether numbers go on from k: where they end, or -1. -/
def held : Int → List Int → Int
 | k, [] => k
 | k, x :: l => if x = k then held (k + 1) l else -1
noncomputable def l_heldIntS_l0_S (a : List Int) (k1 i : Int) : Option ((Int × Int) ⊕ (Unit ⊕ Int)) :=
 if i < (a.length : Int) then
  ck (0 ≤ i ∧ i.toNat < a.length) <|
  if (a.getD i.toNat default) = k1 then
   some (Sum.inl (IntKind.i64.wrap (k1 + 1), IntKind.i64.wrap (i + 1)))
  else
   some (Sum.inr (Sum.inl ()))
 else
  some (Sum.inr (Sum.inr k1))
noncomputable def l_heldIntS_l0 (a : List Int) (v : Int × Int) : Option (Unit ⊕ Int) := itO (fun v => l_heldIntS_l0_S a v.1 v.2) v
noncomputable def l_heldIntS (a : List Int) (k : Int) : Option (Int) :=
 (l_heldIntS_l0 a (k, 0)).bind fun r2_ =>
 match r2_ with
 | .inl q2_ =>
  some (-1)
 | .inr q2_ =>
  some q2_
/-- laws.heldIntS -/
def k20_l0b : SC :=
 .seq
 (.seq
 (.ops [
 ⟨some 6, .move (.tmp 5), 3, none⟩,
 ⟨some 7, .move (.tmp 0), 23, none⟩,
 ⟨some 8, .call ⟨(.builtin .len), #[(.tmp 7)], #[23]⟩, 3, none⟩,
 ⟨some 9, .binOp .lss 3 (.tmp 6) (.tmp 8) 3, 4, none⟩])
 (.cond (.tmp 9)
 .skip
 (.exit 0)))
 (.seq
 (.block 1
 (.seq
 (.seq
 (.ops [
 ⟨some 12, .move (.tmp 0), 23, none⟩,
 ⟨some 13, .move (.tmp 5), 3, none⟩,
 ⟨some 14, .indexAddr 23 (.tmp 12) (.tmp 13), 0, none⟩,
 ⟨some 15, .load 3 (.tmp 14), 3, none⟩,
 ⟨some 16, .move (.tmp 1), 3, none⟩,
 ⟨some 17, .binOp .neq 3 (.tmp 15) (.tmp 16) 3, 4, none⟩])
 (.cond (.tmp 17)
 (.seq
 (.ops [
 ⟨some 4, .assign (.const (.int .i64 (-1))), 3, none⟩])
 .ret)
 .skip))
 (.ops [
 ⟨some 18, .move (.tmp 1), 3, none⟩,
 ⟨some 19, .binOp .add 3 (.tmp 18) (.const (.int .i64 1)) 3, 3, none⟩,
 ⟨some 1, .assign (.tmp 19), 3, none⟩])))
 (.ops [
 ⟨some 10, .move (.tmp 5), 3, none⟩,
 ⟨some 11, .binOp .add 3 (.tmp 10) (.const (.int .i64 1)) 3, 3, none⟩,
 ⟨some 5, .assign (.tmp 11), 3, none⟩]))
def k20_l0 : SC := .loop k20_l0b
def k20 : SC :=
 .seq
 (.ops [
 ⟨some 4, .assign (.const (.int .i64 0)), 3, none⟩])
 (.seq
 (.seq
 (.ops [
 ⟨some 5, .assign (.const (.int .i64 0)), 3, none⟩])
 (.block 0
 k20_l0))
 (.seq
 (.ops [
 ⟨some 20, .move (.tmp 1), 3, none⟩,
 ⟨some 4, .assign (.tmp 20), 3, none⟩])
 .ret))
theorem slim20 : Try.f20.body.map (slim lends) = some k20 := by kernel_rfl
theorem ok20 : fnOk Try.f20 2 = true := by kernel_rfl
theorem c20 {a l : List D} {r : D × List D} (h : wpD Y.env k20 (fin tys l.length [ResultVar.tmp 4] r) (entry a l)) (ha : a.length = 2) : Y.call 20 a l = some r :=
 call_slim (Y := Y) rfl Try.func20 (ha ▸ ok20) slim20 h
def l_heldIntS_l0_M (a : List Int) (k1 i : Int) (s : St) : Prop := s.v 0 = D.sl 3 (lst (D.int .i64) a) ∧ s.v 1 = D.int .i64 k1 ∧ s.v 5 = D.int .i64 i
def l_heldIntS_l0_X (a : List Int) (r : Unit ⊕ Int) (ex : Ex) (s : St) : Prop := match r with
 | .inl q => ex = .ret ∧ s.v 4 = D.int .i64 (-1)
 | .inr q => ex = .exit 0 ∧ s.v 1 = D.int .i64 q
theorem l_heldIntS_l0_wp (a : List Int) {v : Int × Int} {s : St} {r : Unit ⊕ Int} (h : l_heldIntS_l0 a v = some r) (hM : l_heldIntS_l0_M a v.1 v.2 s) : wpD Y.env k20_l0 (l_heldIntS_l0_X a r) s := by
 unfold l_heldIntS_l0 at h
 refine wd_itO (c := k20_l0b) (fun v => l_heldIntS_l0_S a v.1 v.2) (fun v s => l_heldIntS_l0_M a v.1 v.2 s) (l_heldIntS_l0_X a) ?_ h hM
 clear h hM s v r
 intro v s o hM h
 obtain ⟨k1, i⟩ := v
 dsimp only at h hM
 unfold l_heldIntS_l0_S at h
 unfold l_heldIntS_l0_M at hM
 obtain ⟨m0, m1, m2⟩ := hM
 unfold k20_l0b
 by_cases e1 : i < (a.length : Int)
 ·rw [if_pos e1] at h
  obtain ⟨e2, h⟩ := ckS h
  by_cases e3 : (a.getD i.toNat default) = k1
  ·rw [if_pos e3] at h
   cases h
   simp (maxDischargeDepth := 9) only [↓xpre, xpost, xlst, xcore, yset, ↓reduceIte, Nat.reduceEqDiff, Nat.reduceLT, Int.reduceNeg, m0, m1, m2, e1, e2.1, e2.2, decide_eq_true e3, l_heldIntS_l0_M, sxN]
  ·rw [if_neg e3] at h
   cases h
   simp (maxDischargeDepth := 9) only [↓xpre, xpost, xlst, xcore, yset, ↓reduceIte, Nat.reduceEqDiff, Nat.reduceLT, Int.reduceNeg, m0, m1, m2, e1, e2.1, e2.2, e3, l_heldIntS_l0_M, l_heldIntS_l0_X, sxR]
 ·rw [if_neg e1] at h
  cases h
  simp (maxDischargeDepth := 9) only [↓xpre, xpost, xlst, yset, ↓reduceIte, Nat.reduceEqDiff, Nat.reduceLT, Int.reduceNeg, m0, m1, m2, e1, l_heldIntS_l0_M, l_heldIntS_l0_X, sxE]
theorem l_heldIntS_call (a : List Int) (k : Int) {r : Int} (h : l_heldIntS a k = some r) : Y.call 20 [D.sl 3 (lst (D.int .i64) a), D.int .i64 k] [] = some (D.int .i64 r, []) := by
 refine c20 ?_ rfl
 unfold k20
 unfold l_heldIntS at h
 obtain ⟨r2_, hl2, h⟩ := bindS h
 try dsimp only at h
 simp (maxDischargeDepth := 9) only [↓xpre, xpost, xcore, yset, ↓reduceIte, Nat.reduceEqDiff, Nat.reduceLT]
 refine wd_mono (l_heldIntS_l0_wp a hl2 ?_) ?_
 ·simp (maxDischargeDepth := 9) only [xpost, xcore, ↓reduceIte, Nat.reduceEqDiff, Nat.reduceLT, l_heldIntS_l0_M]
 ·intro ex2 s2 hX2
  rcases r2_ with q2_ | q2_
  ·unfold l_heldIntS_l0_X at hX2
   dsimp only at hX2 h
   obtain ⟨rfl, n2_0⟩ := hX2
   cases h
   simp (maxDischargeDepth := 9) only [↓xpre, xpost, xcore, ↓reduceIte, Int.reduceNeg, n2_0]
  ·unfold l_heldIntS_l0_X at hX2
   dsimp only at hX2 h
   obtain ⟨rfl, n2_0⟩ := hX2
   cases h
   simp (maxDischargeDepth := 9) only [↓xpre, xpost, xcore, ↓reduceIte, Nat.reduceEqDiff, Nat.reduceLT, n2_0]

theorem l_heldIntS_l0_eq : ∀ (b a : List Int) (k : Int), a.length + b.length < 1099511627776 → 0 ≤ k → k + b.length < 1099511627776 →
  l_heldIntS_l0 (a ++ b) (k, (a.length : Int)) = some (if held k b = -1 then .inl () else .inr (held k b)) := by
 intro b
 induction b with
 | nil =>
  intro a k hab hk hkt
  unfold l_heldIntS_l0
  rw [itO_inr (r := Sum.inr k)]
  ·unfold held; rw [if_neg (by omega)]
  ·simp only [l_heldIntS_l0_S]; rw [if_neg (app_not _)]
 | cons x b ih =>
  intro a k hab hk hkt
  simp only [List.length_cons] at hab hkt
  have eg : (a ++ x :: b).getD (a.length : Int).toNat default = x := by rw [Int.toNat_natCast]; exact getD_app_right a (x :: b) a.length rfl (by simp)
  unfold held
  by_cases hq : x = k
  ·rw [if_pos hq]
   have := ih (a ++ [x]) (k + 1) (by simp; omega) (by omega) (by omega)
   unfold l_heldIntS_l0 at this ⊢
   rw [itO_inl (s' := (k + 1, ((a ++ [x]).length : Int)))]
   ·rw [show a ++ x :: b = a ++ [x] ++ b by simp]; exact this
   ·simp only [l_heldIntS_l0_S]
    rw [if_pos (app_lt ..), ckT (app_ix ..), eg, if_pos hq, wrS _ (by omega), wr64 _ (by omega)]; simp
  ·rw [if_neg hq]
   unfold l_heldIntS_l0
   rw [itO_inr (r := Sum.inl ())]
   ·rfl
   ·simp only [l_heldIntS_l0_S]
    rw [if_pos (app_lt ..), ckT (app_ix ..), eg, if_neg hq]
theorem l_heldIntS_eq (a : List Int) (k : Int) (ha : a.length < 1099511627776) (hk : 0 ≤ k ∧ k + a.length < 1099511627776) : l_heldIntS a k = some (held k a) := by
 unfold l_heldIntS
 have := l_heldIntS_l0_eq a [] k (by simpa using ha) hk.1 hk.2
 simp only [List.length_nil, List.nil_append, Int.natCast_zero] at this
 rw [this, Option.bind_some]
 by_cases h : held k a = -1
 ·rw [if_pos h, h]
 ·rw [if_neg h]
theorem l_heldIntS_cl (a : List Int) (k : Int) (h0 : a.length < 1099511627776) (h1 : 0 ≤ k ∧ k + a.length < 1099511627776) : Y.call 20 [D.sl 3 (lst (D.int .i64) a), D.int .i64 k] [] = some (D.int .i64 (held k a), []) := l_heldIntS_call a k (l_heldIntS_eq a k h0 h1)
theorem held_upto (n : Nat) : ∀ k, held k (upto k n) = k + n := by
 induction n with
 | zero => intro k; simp [upto, held]
 | succ n ih =>
  intro k
  have e : upto k (n + 1) = k :: upto (k + 1) n := by
   simp only [upto, List.range_succ_eq_map, List.map_cons, List.map_map]
   congr 1
   ·simp
   ·apply List.map_congr_left; intro i _; simp; omega
  rw [e, held, if_pos rfl, ih]; omega

end Go.Proofs.Ytipfckompmhljaa
