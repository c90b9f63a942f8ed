/- Networks copied, compared, measured; when lists are a network, as plain functions. Conditions: the lists are short. -/
import Derived.Test.YtipfckompmhljaaL6
import Derived.Test.YtipfckompmhljaaHas
import Derived.Test.YtipfckompmhljaaCon
namespace Go.Proofs.Ytipfckompmhljaa
open Go Dv
set_option linter.unusedSimpArgs false
set_option linter.unusedVariables false
set_option maxRecDepth 100000
set_option maxHeartbeats 4000000

/-- Lists of pairs that are short. -/
def ShortE (l : List (List (Int × Int))) : Prop := l.length < 1099511627776 ∧ ∀ x ∈ l, x.length < 549755813888
instance (l : List (List (Int × Int))) : Decidable (ShortE l) := by unfold ShortE; infer_instance
theorem ShortE.at {l : List (List (Int × Int))} (h : ShortE l) (i : Nat) (hi : i < l.length) : l[i].length < 549755813888 := h.2 _ (List.getElem_mem hi)
theorem ShortE.getD {l : List (List (Int × Int))} (h : ShortE l) (i : Nat) : (l.getD i default).length < 549755813888 := by
 by_cases hi : i < l.length
 ·rw [getD_get _ _ hi]; exact h.at i hi
 ·rw [List.getD_eq_getElem?_getD, List.getElem?_eq_none (by omega)]; decide
theorem pairD {a : List (Int × Int)} {i : Nat} (h : i < a.length) : (fstD a i, sndD a i) = a[i] := by
 unfold fstD sndD
 rw [getD_get _ _ h]
noncomputable def l_toEnd (a_Node a_Port : Int) : Option (Int × Int) :=
 some (a_Node, a_Port)
/-- laws.toEnd -/
def k125 : SC :=
 .seq
 (.ops [
 ⟨some 1, .box 141 (.tmp 0), 0, none⟩,
 ⟨some 2, .alloc 102, 0, none⟩])
 (.seq
 (.ops [
 ⟨some 3, .alloc 102, 0, none⟩])
 (.seq
 (.ops [
 ⟨some 4, .fieldAddr 141 (.tmp 1) 0, 0, none⟩,
 ⟨some 5, .load 3 (.tmp 4), 3, none⟩,
 ⟨some 6, .fieldAddr 102 (.tmp 3) 0, 0, none⟩,
 ⟨none, .store 3 (.tmp 6) (.tmp 5), 0, none⟩])
 (.seq
 (.ops [
 ⟨some 7, .fieldAddr 141 (.tmp 1) 1, 0, none⟩,
 ⟨some 8, .load 3 (.tmp 7), 3, none⟩,
 ⟨some 9, .fieldAddr 102 (.tmp 3) 1, 0, none⟩,
 ⟨none, .store 3 (.tmp 9) (.tmp 8), 0, none⟩])
 (.seq
 (.ops [
 ⟨some 10, .load 102 (.tmp 3), 102, none⟩,
 ⟨none, .store 102 (.tmp 2) (.tmp 10), 0, none⟩])
 .ret))))
theorem slim125 : Try.f125.body.map (slim lends) = some k125 := by kernel_rfl
theorem ok125 : fnOk Try.f125 1 = true := by kernel_rfl
theorem c125 {a l : List D} {r : D × List D} (h : wpD Y.env k125 (fin tys l.length [ResultVar.cell 2 102] r) (entry a l)) (ha : a.length = 1) : Y.call 125 a l = some r :=
 call_slim (Y := Y) rfl Try.func125 (ha ▸ ok125) slim125 h
theorem l_toEnd_call (a_Node a_Port : Int) {r : Int × Int} (h : l_toEnd a_Node a_Port = some r) : Y.call 125 [D.agg [D.int .i64 a_Node, D.int .i64 a_Port]] [] = some (D.agg [D.int .i64 r.1, D.int .i64 r.2], []) := by
 refine c125 ?_ rfl
 unfold k125
 unfold l_toEnd at h
 cases h
 simp (maxDischargeDepth := 9) only [↓xpre, xpost, xcore, yset, ↓reduceIte, Nat.reduceEqDiff, Nat.reduceLT, Nat.reduceAdd] <;> (repeat' apply And.intro) <;> first | rfl | exact ⟨_, rfl⟩ | exact ⟨_, _, rfl⟩ | simp [lst, cat2_nil]

noncomputable def l_toEndS_l0_S (a : List (Int × Int)) (out : List (Int × Int)) (i : Int) : Option (((List (Int × Int)) × Int) ⊕ ((List (Int × Int)))) :=
 if i < (a.length : Int) then
  ck (0 ≤ i ∧ i.toNat < a.length) <|
  (l_toEnd (fstD a i.toNat) (sndD a i.toNat)).bind fun r4_ =>
  ck (0 ≤ i ∧ i.toNat < out.length) <|
  some (Sum.inl ((out.set i.toNat (r4_.1, r4_.2)), IntKind.i64.wrap (i + 1)))
 else
  some (Sum.inr out)
noncomputable def l_toEndS_l0 (a : List (Int × Int)) (v : (List (Int × Int)) × Int) : Option ((List (Int × Int))) := itO (fun v => l_toEndS_l0_S a v.1 v.2) v
noncomputable def l_toEndS (a : List (Int × Int)) : Option ((List (Int × Int))) :=
 ck (0 ≤ (a.length : Int) ∧ (a.length : Int) < 1099511627776) <|
 (l_toEndS_l0 a ((List.replicate a.length (0, 0)), 0)).bind fun r3_ =>
 some r3_
/-- laws.toEndS -/
def k76_l0b : SC :=
 .seq
 (.seq
 (.ops [
 ⟨some 8, .move (.tmp 4), 3, none⟩,
 ⟨some 9, .move (.tmp 0), 97, none⟩,
 ⟨some 10, .call ⟨(.builtin .len), #[(.tmp 9)], #[97]⟩, 3, none⟩,
 ⟨some 11, .binOp .lss 3 (.tmp 8) (.tmp 10) 3, 4, none⟩])
 (.cond (.tmp 11)
 .skip
 (.exit 0)))
 (.seq
 (.block 1
 (.ops [
 ⟨some 14, .move (.tmp 3), 100, none⟩,
 ⟨some 15, .move (.tmp 4), 3, none⟩,
 ⟨some 16, .move (.tmp 0), 97, none⟩,
 ⟨some 17, .move (.tmp 4), 3, none⟩,
 ⟨some 18, .indexAddr 97 (.tmp 16) (.tmp 17), 0, none⟩,
 ⟨some 19, .load 141 (.tmp 18), 141, none⟩,
 ⟨some 20, .call ⟨(.value (.func 125)), #[(.tmp 19)], #[141]⟩, 102, none⟩,
 ⟨some 21, .indexAddr 100 (.tmp 14) (.tmp 15), 0, none⟩,
 ⟨none, .store 102 (.tmp 21) (.tmp 20), 0, none⟩]))
 (.ops [
 ⟨some 12, .move (.tmp 4), 3, none⟩,
 ⟨some 13, .binOp .add 3 (.tmp 12) (.const (.int .i64 1)) 3, 3, none⟩,
 ⟨some 4, .assign (.tmp 13), 3, none⟩]))
def k76_l0 : SC := .loop k76_l0b
def k76 : SC :=
 .seq
 (.ops [
 ⟨some 2, .assign (.const (.slice none 0 0)), 100, none⟩])
 (.seq
 (.ops [
 ⟨some 5, .move (.tmp 0), 97, none⟩,
 ⟨some 6, .call ⟨(.builtin .len), #[(.tmp 5)], #[97]⟩, 3, none⟩,
 ⟨some 7, .makeSlice 100 (.tmp 6) (.tmp 6), 100, none⟩,
 ⟨some 3, .assign (.tmp 7), 100, none⟩])
 (.seq
 (.seq
 (.ops [
 ⟨some 4, .assign (.const (.int .i64 0)), 3, none⟩])
 (.block 0
 k76_l0))
 (.seq
 (.ops [
 ⟨some 22, .move (.tmp 3), 100, none⟩,
 ⟨some 2, .assign (.tmp 22), 100, none⟩])
 .ret)))
theorem slim76 : Try.f76.body.map (slim lends) = some k76 := by kernel_rfl
theorem ok76 : fnOk Try.f76 1 = true := by kernel_rfl
theorem c76 {a l : List D} {r : D × List D} (h : wpD Y.env k76 (fin tys l.length [ResultVar.tmp 2] r) (entry a l)) (ha : a.length = 1) : Y.call 76 a l = some r :=
 call_slim (Y := Y) rfl Try.func76 (ha ▸ ok76) slim76 h
def l_toEndS_l0_M (a : List (Int × Int)) (out : List (Int × Int)) (i : Int) (s : St) : Prop := s.v 0 = D.sl 141 (cat2 .i64 .i64 a) ∧ s.v 3 = D.own 102 (cat2 .i64 .i64 out) ∧ s.v 4 = D.int .i64 i
def l_toEndS_l0_X (a : List (Int × Int)) (r : (List (Int × Int))) (ex : Ex) (s : St) : Prop := ex = .exit 0 ∧ s.v 3 = D.own 102 (cat2 .i64 .i64 r)
theorem l_toEndS_l0_wp (a : List (Int × Int)) {v : (List (Int × Int)) × Int} {s : St} {r : (List (Int × Int))} (h : l_toEndS_l0 a v = some r) (hM : l_toEndS_l0_M a v.1 v.2 s) : wpD Y.env k76_l0 (l_toEndS_l0_X a r) s := by
 unfold l_toEndS_l0 at h
 refine wd_itO (c := k76_l0b) (fun v => l_toEndS_l0_S a v.1 v.2) (fun v s => l_toEndS_l0_M a v.1 v.2 s) (l_toEndS_l0_X a) ?_ h hM
 clear h hM s v r
 intro v s o hM h
 obtain ⟨out, i⟩ := v
 dsimp only at h hM
 unfold l_toEndS_l0_S at h
 unfold l_toEndS_l0_M at hM
 obtain ⟨m0, m1, m2⟩ := hM
 unfold k76_l0b
 by_cases e2 : i < (a.length : Int)
 ·rw [if_pos e2] at h
  obtain ⟨e3, h⟩ := ckS h
  obtain ⟨r4_, hl4, h⟩ := bindS h
  try dsimp only at h
  have c4 := l_toEnd_call (fstD a i.toNat) (sndD a i.toNat) hl4
  obtain ⟨e5, h⟩ := ckS h
  cases h
  simp (maxDischargeDepth := 9) only [↓xpre, xpost, xc2, xcore, yset, ↓reduceIte, Nat.reduceEqDiff, Nat.reduceLT, Nat.reduceAdd, m0, m1, m2, e2, e3.1, e3.2, c4, e5.2, l_toEndS_l0_M, sxN] <;> (repeat' apply And.intro) <;> first | rfl | exact ⟨_, rfl⟩ | exact ⟨_, _, rfl⟩ | simp [lst, cat2_nil]
 ·rw [if_neg e2] at h
  cases h
  simp (maxDischargeDepth := 9) only [↓xpre, xpost, xc2, yset, ↓reduceIte, Nat.reduceEqDiff, Nat.reduceLT, m0, m1, m2, e2, l_toEndS_l0_M, l_toEndS_l0_X, sxE] <;> (repeat' apply And.intro) <;> first | rfl | exact ⟨_, rfl⟩ | exact ⟨_, _, rfl⟩ | simp [lst, cat2_nil]
theorem l_toEndS_call (a : List (Int × Int)) {r : (List (Int × Int))} (h : l_toEndS a = some r) : Y.call 76 [D.sl 141 (cat2 .i64 .i64 a)] [] = some (D.own 102 (cat2 .i64 .i64 r), []) := by
 refine c76 ?_ rfl
 unfold k76
 unfold l_toEndS at h
 obtain ⟨e1, h⟩ := ckS h
 obtain ⟨r3_, hl3, h⟩ := bindS h
 try dsimp only at h
 simp (maxDischargeDepth := 9) only [↓xpre, xpost, xc2, xcore, yset, ↓reduceIte, Nat.reduceEqDiff, Nat.reduceLT, Nat.reduceLeDiff, e1.1, e1.2]
 refine wd_mono (l_toEndS_l0_wp a hl3 ?_) ?_
 ·simp (maxDischargeDepth := 9) only [xpost, xcore, ↓reduceIte, Nat.reduceEqDiff, Nat.reduceLT, l_toEndS_l0_M] <;> (repeat' apply And.intro) <;> first | rfl | exact ⟨_, rfl⟩ | exact ⟨_, _, rfl⟩ | simp [lst, cat2_nil]
 ·intro ex3 s3 hX3
  unfold l_toEndS_l0_X at hX3
  obtain ⟨rfl, n3_0⟩ := hX3
  cases h
  simp (maxDischargeDepth := 9) only [↓xpre, xpost, xc2, xcore, ↓reduceIte, Nat.reduceEqDiff, Nat.reduceLT, n3_0] <;> (repeat' apply And.intro) <;> first | rfl | exact ⟨_, rfl⟩ | exact ⟨_, _, rfl⟩ | simp [lst, cat2_nil]

theorem l_toEndS_eq (a : List (Int × Int)) (h : a.length < 549755813888) : l_toEndS a = some a := by
 have key := itO_for (fun v => l_toEndS_l0_S a v.1 v.2) (fun i => (a.take i ++ List.replicate (a.length - i) (0, 0), (i : Int))) a.length a ?_ ?_
 ·unfold l_toEndS l_toEndS_l0
  rw [ckT (by omega)]
  simp only [List.take_zero, List.nil_append, Nat.sub_zero, Int.natCast_zero] at key
  rw [key]; rfl
 ·intro i hi
  simp only [l_toEndS_l0_S, l_toEnd, Int.toNat_natCast]
  rw [if_pos (lt_nat hi), ckT (by omega), Option.bind_some, ckT (by simp; omega), pairD hi, set_mid a i hi (0, 0), wrS i (by omega)]
 ·simp only [l_toEndS_l0_S]
  rw [if_neg (not_lt_nat _)]; simp
theorem l_toEndS_cl (a : List (Int × Int)) (h0 : a.length < 549755813888) : Y.call 76 [D.sl 141 (cat2 .i64 .i64 a)] [] = some (D.own 102 (cat2 .i64 .i64 a), []) := l_toEndS_call a (l_toEndS_eq a h0)
noncomputable def l_toEndSS_l0_S (a : List (List (Int × Int))) (out : List (List (Int × Int))) (i : Int) : Option (((List (List (Int × Int))) × Int) ⊕ ((List (List (Int × Int))))) :=
 if i < (a.length : Int) then
  ck (0 ≤ i ∧ i.toNat < a.length) <|
  ck ((a.getD i.toNat default).length < 549755813888) <|
  ck (0 ≤ i ∧ i.toNat < out.length) <|
  some (Sum.inl ((out.set i.toNat (a.getD i.toNat default)), IntKind.i64.wrap (i + 1)))
 else
  some (Sum.inr out)
noncomputable def l_toEndSS_l0 (a : List (List (Int × Int))) (v : (List (List (Int × Int))) × Int) : Option ((List (List (Int × Int)))) := itO (fun v => l_toEndSS_l0_S a v.1 v.2) v
noncomputable def l_toEndSS (a : List (List (Int × Int))) : Option ((List (List (Int × Int)))) :=
 ck (0 ≤ (a.length : Int) ∧ (a.length : Int) < 1099511627776) <|
 (l_toEndSS_l0 a ((List.replicate a.length []), 0)).bind fun r3_ =>
 some r3_
/-- laws.toEndSS -/
def k36_l0b : SC :=
 .seq
 (.seq
 (.ops [
 ⟨some 8, .move (.tmp 4), 3, none⟩,
 ⟨some 9, .move (.tmp 0), 22, none⟩,
 ⟨some 10, .call ⟨(.builtin .len), #[(.tmp 9)], #[22]⟩, 3, none⟩,
 ⟨some 11, .binOp .lss 3 (.tmp 8) (.tmp 10) 3, 4, none⟩])
 (.cond (.tmp 11)
 .skip
 (.exit 0)))
 (.seq
 (.block 1
 (.ops [
 ⟨some 14, .move (.tmp 3), 29, none⟩,
 ⟨some 15, .move (.tmp 4), 3, none⟩,
 ⟨some 16, .move (.tmp 0), 22, none⟩,
 ⟨some 17, .move (.tmp 4), 3, none⟩,
 ⟨some 18, .indexAddr 22 (.tmp 16) (.tmp 17), 0, none⟩,
 ⟨some 19, .load 97 (.tmp 18), 97, none⟩,
 ⟨some 20, .call ⟨(.value (.func 76)), #[(.tmp 19)], #[97]⟩, 100, none⟩,
 ⟨some 21, .indexAddr 29 (.tmp 14) (.tmp 15), 0, none⟩,
 ⟨none, .store 100 (.tmp 21) (.tmp 20), 0, none⟩]))
 (.ops [
 ⟨some 12, .move (.tmp 4), 3, none⟩,
 ⟨some 13, .binOp .add 3 (.tmp 12) (.const (.int .i64 1)) 3, 3, none⟩,
 ⟨some 4, .assign (.tmp 13), 3, none⟩]))
def k36_l0 : SC := .loop k36_l0b
def k36 : SC :=
 .seq
 (.ops [
 ⟨some 2, .assign (.const (.slice none 0 0)), 29, none⟩])
 (.seq
 (.ops [
 ⟨some 5, .move (.tmp 0), 22, none⟩,
 ⟨some 6, .call ⟨(.builtin .len), #[(.tmp 5)], #[22]⟩, 3, none⟩,
 ⟨some 7, .makeSlice 29 (.tmp 6) (.tmp 6), 29, none⟩,
 ⟨some 3, .assign (.tmp 7), 29, none⟩])
 (.seq
 (.seq
 (.ops [
 ⟨some 4, .assign (.const (.int .i64 0)), 3, none⟩])
 (.block 0
 k36_l0))
 (.seq
 (.ops [
 ⟨some 22, .move (.tmp 3), 29, none⟩,
 ⟨some 2, .assign (.tmp 22), 29, none⟩])
 .ret)))
theorem slim36 : Try.f36.body.map (slim lends) = some k36 := by kernel_rfl
theorem ok36 : fnOk Try.f36 1 = true := by kernel_rfl
theorem c36 {a l : List D} {r : D × List D} (h : wpD Y.env k36 (fin tys l.length [ResultVar.tmp 2] r) (entry a l)) (ha : a.length = 1) : Y.call 36 a l = some r :=
 call_slim (Y := Y) rfl Try.func36 (ha ▸ ok36) slim36 h
def l_toEndSS_l0_M (a : List (List (Int × Int))) (out : List (List (Int × Int))) (i : Int) (s : St) : Prop := s.v 0 = D.sl 97 (lst (fun x => D.sl 141 (cat2 .i64 .i64 x)) a) ∧ s.v 3 = D.own 100 (lst (fun x => D.own 102 (cat2 .i64 .i64 x)) out) ∧ s.v 4 = D.int .i64 i
def l_toEndSS_l0_X (a : List (List (Int × Int))) (r : (List (List (Int × Int)))) (ex : Ex) (s : St) : Prop := ex = .exit 0 ∧ s.v 3 = D.own 100 (lst (fun x => D.own 102 (cat2 .i64 .i64 x)) r)
theorem l_toEndSS_l0_wp (a : List (List (Int × Int))) {v : (List (List (Int × Int))) × Int} {s : St} {r : (List (List (Int × Int)))} (h : l_toEndSS_l0 a v = some r) (hM : l_toEndSS_l0_M a v.1 v.2 s) : wpD Y.env k36_l0 (l_toEndSS_l0_X a r) s := by
 unfold l_toEndSS_l0 at h
 refine wd_itO (c := k36_l0b) (fun v => l_toEndSS_l0_S a v.1 v.2) (fun v s => l_toEndSS_l0_M a v.1 v.2 s) (l_toEndSS_l0_X a) ?_ h hM
 clear h hM s v r
 intro v s o hM h
 obtain ⟨out, i⟩ := v
 dsimp only at h hM
 unfold l_toEndSS_l0_S at h
 unfold l_toEndSS_l0_M at hM
 obtain ⟨m0, m1, m2⟩ := hM
 unfold k36_l0b
 by_cases e2 : i < (a.length : Int)
 ·rw [if_pos e2] at h
  obtain ⟨e3, h⟩ := ckS h
  obtain ⟨e4, h⟩ := ckS h
  have c5 := l_toEndS_cl (a.getD i.toNat default) e4
  obtain ⟨e6, h⟩ := ckS h
  cases h
  simp (maxDischargeDepth := 9) only [↓xpre, xpost, xlst, xc2, xcore, yset, ↓reduceIte, Nat.reduceEqDiff, Nat.reduceLT, Nat.reduceAdd, m0, m1, m2, e2, e3.1, e3.2, c5, e6.2, l_toEndSS_l0_M, sxN] <;> (repeat' apply And.intro) <;> first | rfl | exact ⟨_, rfl⟩ | exact ⟨_, _, rfl⟩ | simp [lst, cat2_nil]
 ·rw [if_neg e2] at h
  cases h
  simp (maxDischargeDepth := 9) only [↓xpre, xpost, xlst, yset, ↓reduceIte, Nat.reduceEqDiff, Nat.reduceLT, m0, m1, m2, e2, l_toEndSS_l0_M, l_toEndSS_l0_X, sxE] <;> (repeat' apply And.intro) <;> first | rfl | exact ⟨_, rfl⟩ | exact ⟨_, _, rfl⟩ | simp [lst, cat2_nil]
theorem l_toEndSS_call (a : List (List (Int × Int))) {r : (List (List (Int × Int)))} (h : l_toEndSS a = some r) : Y.call 36 [D.sl 97 (lst (fun x => D.sl 141 (cat2 .i64 .i64 x)) a)] [] = some (D.own 100 (lst (fun x => D.own 102 (cat2 .i64 .i64 x)) r), []) := by
 refine c36 ?_ rfl
 unfold k36
 unfold l_toEndSS at h
 obtain ⟨e1, h⟩ := ckS h
 obtain ⟨r3_, hl3, h⟩ := bindS h
 try dsimp only at h
 simp (maxDischargeDepth := 9) only [↓xpre, xpost, xlst, xcore, yset, ↓reduceIte, Nat.reduceEqDiff, Nat.reduceLT, Nat.reduceLeDiff, e1.1, e1.2]
 refine wd_mono (l_toEndSS_l0_wp a hl3 ?_) ?_
 ·simp (maxDischargeDepth := 9) only [xpost, xcore, ↓reduceIte, Nat.reduceEqDiff, Nat.reduceLT, l_toEndSS_l0_M] <;> (repeat' apply And.intro) <;> first | rfl | exact ⟨_, rfl⟩ | exact ⟨_, _, rfl⟩ | simp [lst, cat2_nil]
 ·intro ex3 s3 hX3
  unfold l_toEndSS_l0_X at hX3
  obtain ⟨rfl, n3_0⟩ := hX3
  cases h
  simp (maxDischargeDepth := 9) only [↓xpre, xpost, xlst, xc2, xcore, ↓reduceIte, Nat.reduceEqDiff, Nat.reduceLT, n3_0] <;> (repeat' apply And.intro) <;> first | rfl | exact ⟨_, rfl⟩ | exact ⟨_, _, rfl⟩ | simp [lst, cat2_nil]

theorem l_toEndSS_eq (a : List (List (Int × Int))) (h : ShortE a) : l_toEndSS a = some a := by
 have h1 := h.1
 have key := itO_for (fun v => l_toEndSS_l0_S a v.1 v.2) (fun i => (a.take i ++ List.replicate (a.length - i) [], (i : Int))) a.length a ?_ ?_
 ·unfold l_toEndSS l_toEndSS_l0
  rw [ckT (by omega)]
  simp only [List.take_zero, List.nil_append, Nat.sub_zero, Int.natCast_zero] at key
  rw [key]; rfl
 ·intro i hi
  simp only [l_toEndSS_l0_S]
  rw [if_pos (lt_nat hi), ckT (ix_nat hi), ckT (by rw [getD_nat _ _ hi]; exact h.at i hi), ckT (ix_nat (by simp; omega)), getD_nat _ _ hi, Int.toNat_natCast, set_mid a i hi [], wrS i (by omega)]
 ·simp only [l_toEndSS_l0_S]
  rw [if_neg (not_lt_nat _)]; simp
theorem l_toEndSS_cl (a : List (List (Int × Int))) (h0 : ShortE a) : Y.call 36 [D.sl 97 (lst (fun x => D.sl 141 (cat2 .i64 .i64 x)) a)] [] = some (D.own 100 (lst (fun x => D.own 102 (cat2 .i64 .i64 x)) a), []) := l_toEndSS_call a (l_toEndSS_eq a h0)
noncomputable def l_toNetwork (a_Ends : List (List (Int × Int))) (a_Ids a_Inputs : List Int) : Option ((List (List (Int × Int))) × (List Int) × (List Int)) :=
 ck (ShortE a_Ends) <|
 ck (a_Ids.length < 1099511627776) <|
 ck (a_Inputs.length < 1099511627776) <|
 some (a_Ends, a_Ids, a_Inputs)
/-- laws.toNetwork -/
def k10 : SC :=
 .seq
 (.ops [
 ⟨some 1, .box 25 (.tmp 0), 0, none⟩,
 ⟨some 2, .alloc 31, 0, none⟩])
 (.seq
 (.ops [
 ⟨some 3, .alloc 31, 0, none⟩])
 (.seq
 (.ops [
 ⟨some 4, .fieldAddr 25 (.tmp 1) 0, 0, none⟩,
 ⟨some 5, .load 22 (.tmp 4), 22, none⟩,
 ⟨some 6, .call ⟨(.value (.func 36)), #[(.tmp 5)], #[22]⟩, 29, none⟩,
 ⟨some 7, .fieldAddr 31 (.tmp 3) 0, 0, none⟩,
 ⟨none, .store 29 (.tmp 7) (.tmp 6), 0, none⟩])
 (.seq
 (.ops [
 ⟨some 8, .fieldAddr 25 (.tmp 1) 1, 0, none⟩,
 ⟨some 9, .load 23 (.tmp 8), 23, none⟩,
 ⟨some 10, .call ⟨(.value (.func 11)), #[(.tmp 9)], #[23]⟩, 23, none⟩,
 ⟨some 11, .fieldAddr 31 (.tmp 3) 1, 0, none⟩,
 ⟨none, .store 23 (.tmp 11) (.tmp 10), 0, none⟩])
 (.seq
 (.ops [
 ⟨some 12, .fieldAddr 25 (.tmp 1) 2, 0, none⟩,
 ⟨some 13, .load 23 (.tmp 12), 23, none⟩,
 ⟨some 14, .call ⟨(.value (.func 11)), #[(.tmp 13)], #[23]⟩, 23, none⟩,
 ⟨some 15, .fieldAddr 31 (.tmp 3) 2, 0, none⟩,
 ⟨none, .store 23 (.tmp 15) (.tmp 14), 0, none⟩])
 (.seq
 (.ops [
 ⟨some 16, .load 31 (.tmp 3), 31, none⟩,
 ⟨none, .store 31 (.tmp 2) (.tmp 16), 0, none⟩])
 .ret)))))
theorem slim10 : Try.f10.body.map (slim lends) = some k10 := by kernel_rfl
theorem ok10 : fnOk Try.f10 1 = true := by kernel_rfl
theorem c10 {a l : List D} {r : D × List D} (h : wpD Y.env k10 (fin tys l.length [ResultVar.cell 2 31] r) (entry a l)) (ha : a.length = 1) : Y.call 10 a l = some r :=
 call_slim (Y := Y) rfl Try.func10 (ha ▸ ok10) slim10 h
theorem l_toNetwork_call (a_Ends : List (List (Int × Int))) (a_Ids a_Inputs : List Int) {r : (List (List (Int × Int))) × (List Int) × (List Int)} (h : l_toNetwork a_Ends a_Ids a_Inputs = some r) : Y.call 10 [D.agg [D.sl 97 (lst (fun x => D.sl 141 (cat2 .i64 .i64 x)) a_Ends), D.sl 3 (lst (D.int .i64) a_Ids), D.sl 3 (lst (D.int .i64) a_Inputs)]] [] = some (D.agg [D.own 100 (lst (fun x => D.own 102 (cat2 .i64 .i64 x)) r.1), D.own 3 (lst (D.int .i64) r.2.1), D.own 3 (lst (D.int .i64) r.2.2)], []) := by
 refine c10 ?_ rfl
 unfold k10
 unfold l_toNetwork at h
 obtain ⟨e1, h⟩ := ckS h
 have c2 := l_toEndSS_cl a_Ends e1
 obtain ⟨e3, h⟩ := ckS h
 have c4 := l_toIntS_cl a_Ids e3
 obtain ⟨e5, h⟩ := ckS h
 have c6 := l_toIntS_cl a_Inputs e5
 cases h
 simp (maxDischargeDepth := 9) only [↓xpre, xpost, xlst, xc2, xcore, yset, ↓reduceIte, Nat.reduceEqDiff, Nat.reduceLT, Nat.reduceAdd, c2, c4, c6] <;> (repeat' apply And.intro) <;> first | rfl | exact ⟨_, rfl⟩ | exact ⟨_, _, rfl⟩ | simp [lst, cat2_nil]

theorem l_toNetwork_eq (a : List (List (Int × Int))) (b c : List Int) (h : ShortE a) (hb : b.length < 1099511627776) (hc : c.length < 1099511627776) : l_toNetwork a b c = some (a, b, c) := by
 unfold l_toNetwork
 rw [ckT h, ckT hb, ckT hc]
theorem l_toNetwork_cl (a_Ends : List (List (Int × Int))) (a_Ids a_Inputs : List Int) (h0 : ShortE a_Ends) (h1 : a_Ids.length < 1099511627776) (h2 : a_Inputs.length < 1099511627776) : Y.call 10 [D.agg [D.sl 97 (lst (fun x => D.sl 141 (cat2 .i64 .i64 x)) a_Ends), D.sl 3 (lst (D.int .i64) a_Ids), D.sl 3 (lst (D.int .i64) a_Inputs)]] [] = some (D.agg [D.own 100 (lst (fun x => D.own 102 (cat2 .i64 .i64 x)) a_Ends), D.own 3 (lst (D.int .i64) a_Ids), D.own 3 (lst (D.int .i64) a_Inputs)], []) := l_toNetwork_call a_Ends a_Ids a_Inputs (l_toNetwork_eq a_Ends a_Ids a_Inputs h0 h1 h2)
noncomputable def l_eqEnd (a_Node a_Port b_Node b_Port : Int) : Option (Bool) :=
 if a_Node = b_Node then
  if a_Port = b_Port then
   some true
  else
   some false
 else
  some false
/-- laws.eqEnd -/
def k134 : SC :=
 .seq
 (.ops [
 ⟨some 2, .box 102 (.tmp 0), 0, none⟩,
 ⟨some 3, .box 102 (.tmp 1), 0, none⟩,
 ⟨some 4, .assign (.const (.bool false)), 4, none⟩])
 (.seq
 (.seq
 (.ops [
 ⟨some 5, .fieldAddr 102 (.tmp 2) 0, 0, none⟩,
 ⟨some 6, .load 3 (.tmp 5), 3, none⟩,
 ⟨some 7, .fieldAddr 102 (.tmp 3) 0, 0, none⟩,
 ⟨some 8, .load 3 (.tmp 7), 3, none⟩,
 ⟨some 9, .binOp .neq 3 (.tmp 6) (.tmp 8) 3, 4, none⟩])
 (.cond (.tmp 9)
 (.seq
 (.ops [
 ⟨some 4, .assign (.const (.bool false)), 4, none⟩])
 .ret)
 .skip))
 (.seq
 (.seq
 (.ops [
 ⟨some 10, .fieldAddr 102 (.tmp 2) 1, 0, none⟩,
 ⟨some 11, .load 3 (.tmp 10), 3, none⟩,
 ⟨some 12, .fieldAddr 102 (.tmp 3) 1, 0, none⟩,
 ⟨some 13, .load 3 (.tmp 12), 3, none⟩,
 ⟨some 14, .binOp .neq 3 (.tmp 11) (.tmp 13) 3, 4, none⟩])
 (.cond (.tmp 14)
 (.seq
 (.ops [
 ⟨some 4, .assign (.const (.bool false)), 4, none⟩])
 .ret)
 .skip))
 (.seq
 (.ops [
 ⟨some 4, .assign (.const (.bool true)), 4, none⟩])
 .ret)))
theorem slim134 : Try.f134.body.map (slim lends) = some k134 := by kernel_rfl
theorem ok134 : fnOk Try.f134 2 = true := by kernel_rfl
theorem c134 {a l : List D} {r : D × List D} (h : wpD Y.env k134 (fin tys l.length [ResultVar.tmp 4] r) (entry a l)) (ha : a.length = 2) : Y.call 134 a l = some r :=
 call_slim (Y := Y) rfl Try.func134 (ha ▸ ok134) slim134 h
theorem l_eqEnd_call (a_Node a_Port b_Node b_Port : Int) {r : Bool} (h : l_eqEnd a_Node a_Port b_Node b_Port = some r) : Y.call 134 [D.agg [D.int .i64 a_Node, D.int .i64 a_Port], D.agg [D.int .i64 b_Node, D.int .i64 b_Port]] [] = some (D.bool r, []) := by
 refine c134 ?_ rfl
 unfold k134
 unfold l_eqEnd at h
 by_cases e1 : a_Node = b_Node
 ·rw [if_pos e1] at h
  by_cases e2 : a_Port = b_Port
  ·rw [if_pos e2] at h
   cases h
   simp (maxDischargeDepth := 9) only [↓xpre, xpost, xcore, yset, ↓reduceIte, Nat.reduceEqDiff, Nat.reduceLT, Nat.reduceAdd, decide_eq_true e1, decide_eq_true e2] <;> (repeat' apply And.intro) <;> first | rfl | exact ⟨_, rfl⟩ | exact ⟨_, _, rfl⟩ | simp [lst, cat2_nil]
  ·rw [if_neg e2] at h
   cases h
   simp (maxDischargeDepth := 9) only [↓xpre, xpost, xcore, yset, ↓reduceIte, Nat.reduceEqDiff, Nat.reduceLT, Nat.reduceAdd, decide_eq_true e1, e2] <;> (repeat' apply And.intro) <;> first | rfl | exact ⟨_, rfl⟩ | exact ⟨_, _, rfl⟩ | simp [lst, cat2_nil]
 ·rw [if_neg e1] at h
  cases h
  simp (maxDischargeDepth := 9) only [↓xpre, xpost, xcore, yset, ↓reduceIte, Nat.reduceEqDiff, Nat.reduceLT, Nat.reduceAdd, e1] <;> (repeat' apply And.intro) <;> first | rfl | exact ⟨_, rfl⟩ | exact ⟨_, _, rfl⟩ | simp [lst, cat2_nil]

noncomputable def l_eqEndS_l0_S (a : List (Int × Int)) (b : List (Int × Int)) (i : Int) : Option ((Int) ⊕ (Unit ⊕ Unit)) :=
 if i < (a.length : Int) then
  ck (0 ≤ i ∧ i.toNat < a.length) <|
  ck (0 ≤ i ∧ i.toNat < b.length) <|
  (l_eqEnd (fstD a i.toNat) (sndD a i.toNat) (fstD b i.toNat) (sndD b i.toNat)).bind fun r5_ =>
  if r5_ = true then
   some (Sum.inl (IntKind.i64.wrap (i + 1)))
  else
   some (Sum.inr (Sum.inl ()))
 else
  some (Sum.inr (Sum.inr ()))
noncomputable def l_eqEndS_l0 (a : List (Int × Int)) (b : List (Int × Int)) (v : Int) : Option (Unit ⊕ Unit) := itO (fun v => l_eqEndS_l0_S a b v) v
noncomputable def l_eqEndS (a : List (Int × Int)) (b : List (Int × Int)) : Option (Bool) :=
 if (a.length : Int) = (b.length : Int) then
  (l_eqEndS_l0 a b 0).bind fun r3_ =>
  match r3_ with
  | .inl q3_ =>
   some false
  | .inr q3_ =>
   some true
 else
  some false
/-- laws.eqEndS -/
def k87_l0b : SC :=
 .seq
 (.seq
 (.ops [
 ⟨some 11, .move (.tmp 5), 3, none⟩,
 ⟨some 12, .move (.tmp 0), 100, none⟩,
 ⟨some 13, .call ⟨(.builtin .len), #[(.tmp 12)], #[100]⟩, 3, none⟩,
 ⟨some 14, .binOp .lss 3 (.tmp 11) (.tmp 13) 3, 4, none⟩])
 (.cond (.tmp 14)
 .skip
 (.exit 0)))
 (.seq
 (.block 1
 (.seq
 (.draws [
 (⟨[17, 0, 0], [17, 18, 19, 20, 21, 22, 23, 24, 25, 26], [17]⟩, ⟨some 17, .move (.tmp 0), 100, none⟩),
 (⟨[18, 5, 5], [17, 18, 19, 20, 21, 22, 23, 24, 25, 26], [18]⟩, ⟨some 18, .move (.tmp 5), 3, none⟩),
 (⟨[19, 17, 18, 0, 5], [17, 18, 19, 20, 21, 22, 23, 24, 25, 26], [19]⟩, ⟨some 19, .indexAddr 100 (.tmp 17) (.tmp 18), 0, none⟩),
 (⟨[20, 19, 0], [17, 18, 19, 20, 21, 22, 23, 24, 25, 26], [20]⟩, ⟨some 20, .load 102 (.tmp 19), 102, none⟩),
 (⟨[21, 1, 1], [17, 18, 19, 20, 21, 22, 23, 24, 25, 26], [21]⟩, ⟨some 21, .move (.tmp 1), 100, none⟩),
 (⟨[22, 5, 5], [17, 18, 19, 20, 21, 22, 23, 24, 25, 26], [22]⟩, ⟨some 22, .move (.tmp 5), 3, none⟩),
 (⟨[23, 21, 22, 1, 5], [17, 18, 19, 20, 21, 22, 23, 24, 25, 26], [23]⟩, ⟨some 23, .indexAddr 100 (.tmp 21) (.tmp 22), 0, none⟩),
 (⟨[24, 23, 1], [17, 18, 19, 20, 21, 22, 23, 24, 25, 26], [24]⟩, ⟨some 24, .load 102 (.tmp 23), 102, none⟩),
 (⟨[25, 20, 24, 0, 1], [17, 18, 19, 20, 21, 22, 23, 24, 25, 26], [25]⟩, ⟨some 25, .call ⟨(.value (.func 134)), #[(.tmp 20), (.tmp 24)], #[102, 102]⟩, 4, none⟩),
 (⟨[26, 25, 25], [17, 18, 19, 20, 21, 22, 23, 24, 25, 26], [26]⟩, ⟨some 26, .unOp .not 4 (.tmp 25), 4, none⟩)])
 (.cond (.tmp 26)
 (.seq
 (.ops [
 ⟨some 4, .assign (.const (.bool false)), 4, none⟩])
 .ret)
 .skip)))
 (.ops [
 ⟨some 15, .move (.tmp 5), 3, none⟩,
 ⟨some 16, .binOp .add 3 (.tmp 15) (.const (.int .i64 1)) 3, 3, none⟩,
 ⟨some 5, .assign (.tmp 16), 3, none⟩]))
def k87_l0 : SC := .loop k87_l0b
def k87 : SC :=
 .seq
 (.ops [
 ⟨some 4, .assign (.const (.bool false)), 4, none⟩])
 (.seq
 (.seq
 (.ops [
 ⟨some 6, .move (.tmp 0), 100, none⟩,
 ⟨some 7, .call ⟨(.builtin .len), #[(.tmp 6)], #[100]⟩, 3, none⟩,
 ⟨some 8, .move (.tmp 1), 100, none⟩,
 ⟨some 9, .call ⟨(.builtin .len), #[(.tmp 8)], #[100]⟩, 3, none⟩,
 ⟨some 10, .binOp .neq 3 (.tmp 7) (.tmp 9) 3, 4, none⟩])
 (.cond (.tmp 10)
 (.seq
 (.ops [
 ⟨some 4, .assign (.const (.bool false)), 4, none⟩])
 .ret)
 .skip))
 (.seq
 (.seq
 (.ops [
 ⟨some 5, .assign (.const (.int .i64 0)), 3, none⟩])
 (.block 0
 k87_l0))
 (.seq
 (.ops [
 ⟨some 4, .assign (.const (.bool true)), 4, none⟩])
 .ret)))
theorem slim87 : Try.f87.body.map (slim lends) = some k87 := by kernel_rfl
theorem ok87 : fnOk Try.f87 2 = true := by kernel_rfl
theorem c87 {a l : List D} {r : D × List D} (h : wpD Y.env k87 (fin tys l.length [ResultVar.tmp 4] r) (entry a l)) (ha : a.length = 2) : Y.call 87 a l = some r :=
 call_slim (Y := Y) rfl Try.func87 (ha ▸ ok87) slim87 h
def l_eqEndS_l0_M (a : List (Int × Int)) (b : List (Int × Int)) (i : Int) (s : St) : Prop := s.v 0 = D.sl 102 (cat2 .i64 .i64 a) ∧ s.v 1 = D.sl 102 (cat2 .i64 .i64 b) ∧ s.v 5 = D.int .i64 i
def l_eqEndS_l0_X (a : List (Int × Int)) (b : List (Int × Int)) (r : Unit ⊕ Unit) (ex : Ex) (s : St) : Prop := match r with
 | .inl q => ex = .ret ∧ s.v 4 = D.bool false
 | .inr q => ex = .exit 0
theorem l_eqEndS_l0_wp (a : List (Int × Int)) (b : List (Int × Int)) {v : Int} {s : St} {r : Unit ⊕ Unit} (h : l_eqEndS_l0 a b v = some r) (hM : l_eqEndS_l0_M a b v s) : wpD Y.env k87_l0 (l_eqEndS_l0_X a b r) s := by
 unfold l_eqEndS_l0 at h
 refine wd_itO (c := k87_l0b) (fun v => l_eqEndS_l0_S a b v) (fun v s => l_eqEndS_l0_M a b v s) (l_eqEndS_l0_X a b) ?_ h hM
 clear h hM s v r
 intro i s o hM h
 unfold l_eqEndS_l0_S at h
 unfold l_eqEndS_l0_M at hM
 obtain ⟨m0, m1, m2⟩ := hM
 unfold k87_l0b
 by_cases e2 : i < (a.length : Int)
 ·rw [if_pos e2] at h
  obtain ⟨e3, h⟩ := ckS h
  obtain ⟨e4, h⟩ := ckS h
  obtain ⟨r5_, hl5, h⟩ := bindS h
  try dsimp only at h
  have c5 := l_eqEnd_call (fstD a i.toNat) (sndD a i.toNat) (fstD b i.toNat) (sndD b i.toNat) hl5
  by_cases e6 : r5_ = true
  ·rw [if_pos e6] at h
   cases h
   simp (maxDischargeDepth := 9) only [↓xpre, xpost, xc2, xcore, yset, ↓reduceIte, Nat.reduceEqDiff, Nat.reduceLT, Nat.reduceAdd, m0, m1, m2, e2, e3.1, e3.2, e4.2, c5, e6, l_eqEndS_l0_M, sxN] <;> (repeat' apply And.intro) <;> first | rfl | exact ⟨_, rfl⟩ | exact ⟨_, _, rfl⟩ | simp [lst, cat2_nil]
  ·rw [if_neg e6] at h
   have e6f : r5_ = false := Bool.eq_false_iff.mpr e6
   cases h
   simp (maxDischargeDepth := 9) only [↓xpre, xpost, xc2, xcore, yset, ↓reduceIte, Nat.reduceEqDiff, Nat.reduceLT, Nat.reduceAdd, m0, m1, m2, e2, e3.1, e3.2, e4.2, c5, e6f, l_eqEndS_l0_M, l_eqEndS_l0_X, sxR] <;> (repeat' apply And.intro) <;> first | rfl | exact ⟨_, rfl⟩ | exact ⟨_, _, rfl⟩ | simp [lst, cat2_nil]
 ·rw [if_neg e2] at h
  cases h
  simp (maxDischargeDepth := 9) only [↓xpre, xpost, xc2, yset, ↓reduceIte, Nat.reduceEqDiff, Nat.reduceLT, m0, m2, e2, l_eqEndS_l0_M, l_eqEndS_l0_X, sxE] <;> (repeat' apply And.intro) <;> first | rfl | exact ⟨_, rfl⟩ | exact ⟨_, _, rfl⟩ | simp [lst, cat2_nil]
theorem l_eqEndS_call (a : List (Int × Int)) (b : List (Int × Int)) {r : Bool} (h : l_eqEndS a b = some r) : Y.call 87 [D.sl 102 (cat2 .i64 .i64 a), D.sl 102 (cat2 .i64 .i64 b)] [] = some (D.bool r, []) := by
 refine c87 ?_ rfl
 unfold k87
 unfold l_eqEndS at h
 by_cases e1 : (a.length : Int) = (b.length : Int)
 ·rw [if_pos e1] at h
  obtain ⟨r3_, hl3, h⟩ := bindS h
  try dsimp only at h
  simp (maxDischargeDepth := 9) only [↓xpre, xpost, xc2, xcore, yset, ↓reduceIte, Nat.reduceEqDiff, Nat.reduceLT, decide_eq_true e1]
  refine wd_mono (l_eqEndS_l0_wp a b hl3 ?_) ?_
  ·simp (maxDischargeDepth := 9) only [xpost, xcore, ↓reduceIte, Nat.reduceEqDiff, Nat.reduceLT, l_eqEndS_l0_M] <;> (repeat' apply And.intro) <;> first | rfl | exact ⟨_, rfl⟩ | exact ⟨_, _, rfl⟩ | simp [lst, cat2_nil]
  ·intro ex3 s3 hX3
   rcases r3_ with q3_ | q3_
   ·unfold l_eqEndS_l0_X at hX3
    dsimp only at hX3 h
    obtain ⟨rfl, n3_0⟩ := hX3
    cases h
    simp (maxDischargeDepth := 9) only [↓xpre, xpost, xcore, ↓reduceIte, n3_0] <;> (repeat' apply And.intro) <;> first | rfl | exact ⟨_, rfl⟩ | exact ⟨_, _, rfl⟩ | simp [lst, cat2_nil]
   ·unfold l_eqEndS_l0_X at hX3
    dsimp only at hX3 h
    obtain rfl := hX3
    cases h
    simp (maxDischargeDepth := 9) only [↓xpre, xpost, xcore, yset, ↓reduceIte, Nat.reduceEqDiff, Nat.reduceLT] <;> (repeat' apply And.intro) <;> first | rfl | exact ⟨_, rfl⟩ | exact ⟨_, _, rfl⟩ | simp [lst, cat2_nil]
 ·rw [if_neg e1] at h
  cases h
  simp (maxDischargeDepth := 9) only [↓xpre, xpost, xc2, xcore, yset, ↓reduceIte, Nat.reduceEqDiff, Nat.reduceLT, e1] <;> (repeat' apply And.intro) <;> first | rfl | exact ⟨_, rfl⟩ | exact ⟨_, _, rfl⟩ | simp [lst, cat2_nil]

theorem l_eqEnd_eq (a b c d : Int) : l_eqEnd a b c d = some (decide ((a, b) = (c, d))) := by
 unfold l_eqEnd
 by_cases h1 : a = c <;> by_cases h2 : b = d <;> simp [h1, h2]
theorem l_eqEndS_eq (a b : List (Int × Int)) (ha : a.length < 549755813888) : l_eqEndS a b = some (decide (a = b)) := by
 unfold l_eqEndS l_eqEndS_l0
 by_cases hl : a.length = b.length
 ·rw [if_pos (by omega)]
  have key := itO_all (fun v => l_eqEndS_l0_S a b v) (fun i => (i : Int)) a.length (fun i => decide (a.getD i default = b.getD i default)) (.inl ()) (.inr ()) ?_ ?_
  ·simp only [Int.natCast_zero] at key
   rw [key, all_same a b hl]
   by_cases he : a = b <;> simp [he]
  ·intro i hi
   simp only [l_eqEndS_l0_S, Int.toNat_natCast]
   rw [if_pos (lt_nat hi), ckT (by omega), ckT (by omega), l_eqEnd_eq, Option.bind_some, wrS i (by omega)]
   rfl
  ·simp only [l_eqEndS_l0_S]
   rw [if_neg (not_lt_nat _)]
 ·rw [if_neg (by omega)]
  have : ¬ a = b := fun e => hl (by rw [e])
  simp [this]
theorem l_eqEndS_cl (a : List (Int × Int)) (b : List (Int × Int)) (h0 : a.length < 549755813888) : Y.call 87 [D.sl 102 (cat2 .i64 .i64 a), D.sl 102 (cat2 .i64 .i64 b)] [] = some (D.bool (decide (a = b)), []) := l_eqEndS_call a b (l_eqEndS_eq a b h0)
noncomputable def l_eqEndSS_l0_S (a : List (List (Int × Int))) (b : List (List (Int × Int))) (i : Int) : Option ((Int) ⊕ (Unit ⊕ Unit)) :=
 if i < (a.length : Int) then
  ck (0 ≤ i ∧ i.toNat < a.length) <|
  ck (0 ≤ i ∧ i.toNat < b.length) <|
  ck ((a.getD i.toNat default).length < 549755813888) <|
  if (decide ((a.getD i.toNat default) = (b.getD i.toNat default))) = true then
   some (Sum.inl (IntKind.i64.wrap (i + 1)))
  else
   some (Sum.inr (Sum.inl ()))
 else
  some (Sum.inr (Sum.inr ()))
noncomputable def l_eqEndSS_l0 (a : List (List (Int × Int))) (b : List (List (Int × Int))) (v : Int) : Option (Unit ⊕ Unit) := itO (fun v => l_eqEndSS_l0_S a b v) v
noncomputable def l_eqEndSS (a : List (List (Int × Int))) (b : List (List (Int × Int))) : Option (Bool) :=
 if (a.length : Int) = (b.length : Int) then
  (l_eqEndSS_l0 a b 0).bind fun r3_ =>
  match r3_ with
  | .inl q3_ =>
   some false
  | .inr q3_ =>
   some true
 else
  some false
/-- laws.eqEndSS -/
def k41_l0b : SC :=
 .seq
 (.seq
 (.ops [
 ⟨some 11, .move (.tmp 5), 3, none⟩,
 ⟨some 12, .move (.tmp 0), 29, none⟩,
 ⟨some 13, .call ⟨(.builtin .len), #[(.tmp 12)], #[29]⟩, 3, none⟩,
 ⟨some 14, .binOp .lss 3 (.tmp 11) (.tmp 13) 3, 4, none⟩])
 (.cond (.tmp 14)
 .skip
 (.exit 0)))
 (.seq
 (.block 1
 (.seq
 (.draws [
 (⟨[17, 0, 0], [17, 18, 19, 20, 21, 22, 23, 24, 25, 26], [17]⟩, ⟨some 17, .move (.tmp 0), 29, none⟩),
 (⟨[18, 5, 5], [17, 18, 19, 20, 21, 22, 23, 24, 25, 26], [18]⟩, ⟨some 18, .move (.tmp 5), 3, none⟩),
 (⟨[19, 17, 18, 0, 5], [17, 18, 19, 20, 21, 22, 23, 24, 25, 26], [19]⟩, ⟨some 19, .indexAddr 29 (.tmp 17) (.tmp 18), 0, none⟩),
 (⟨[20, 19, 0], [17, 18, 19, 20, 21, 22, 23, 24, 25, 26], [20]⟩, ⟨some 20, .load 100 (.tmp 19), 100, none⟩),
 (⟨[21, 1, 1], [17, 18, 19, 20, 21, 22, 23, 24, 25, 26], [21]⟩, ⟨some 21, .move (.tmp 1), 29, none⟩),
 (⟨[22, 5, 5], [17, 18, 19, 20, 21, 22, 23, 24, 25, 26], [22]⟩, ⟨some 22, .move (.tmp 5), 3, none⟩),
 (⟨[23, 21, 22, 1, 5], [17, 18, 19, 20, 21, 22, 23, 24, 25, 26], [23]⟩, ⟨some 23, .indexAddr 29 (.tmp 21) (.tmp 22), 0, none⟩),
 (⟨[24, 23, 1], [17, 18, 19, 20, 21, 22, 23, 24, 25, 26], [24]⟩, ⟨some 24, .load 100 (.tmp 23), 100, none⟩),
 (⟨[25, 20, 24, 0, 1], [17, 18, 19, 20, 21, 22, 23, 24, 25, 26], [25]⟩, ⟨some 25, .call ⟨(.value (.func 87)), #[(.tmp 20), (.tmp 24)], #[100, 100]⟩, 4, none⟩),
 (⟨[26, 25, 25], [17, 18, 19, 20, 21, 22, 23, 24, 25, 26], [26]⟩, ⟨some 26, .unOp .not 4 (.tmp 25), 4, none⟩)])
 (.cond (.tmp 26)
 (.seq
 (.ops [
 ⟨some 4, .assign (.const (.bool false)), 4, none⟩])
 .ret)
 .skip)))
 (.ops [
 ⟨some 15, .move (.tmp 5), 3, none⟩,
 ⟨some 16, .binOp .add 3 (.tmp 15) (.const (.int .i64 1)) 3, 3, none⟩,
 ⟨some 5, .assign (.tmp 16), 3, none⟩]))
def k41_l0 : SC := .loop k41_l0b
def k41 : SC :=
 .seq
 (.ops [
 ⟨some 4, .assign (.const (.bool false)), 4, none⟩])
 (.seq
 (.seq
 (.ops [
 ⟨some 6, .move (.tmp 0), 29, none⟩,
 ⟨some 7, .call ⟨(.builtin .len), #[(.tmp 6)], #[29]⟩, 3, none⟩,
 ⟨some 8, .move (.tmp 1), 29, none⟩,
 ⟨some 9, .call ⟨(.builtin .len), #[(.tmp 8)], #[29]⟩, 3, none⟩,
 ⟨some 10, .binOp .neq 3 (.tmp 7) (.tmp 9) 3, 4, none⟩])
 (.cond (.tmp 10)
 (.seq
 (.ops [
 ⟨some 4, .assign (.const (.bool false)), 4, none⟩])
 .ret)
 .skip))
 (.seq
 (.seq
 (.ops [
 ⟨some 5, .assign (.const (.int .i64 0)), 3, none⟩])
 (.block 0
 k41_l0))
 (.seq
 (.ops [
 ⟨some 4, .assign (.const (.bool true)), 4, none⟩])
 .ret)))
theorem slim41 : Try.f41.body.map (slim lends) = some k41 := by kernel_rfl
theorem ok41 : fnOk Try.f41 2 = true := by kernel_rfl
theorem c41 {a l : List D} {r : D × List D} (h : wpD Y.env k41 (fin tys l.length [ResultVar.tmp 4] r) (entry a l)) (ha : a.length = 2) : Y.call 41 a l = some r :=
 call_slim (Y := Y) rfl Try.func41 (ha ▸ ok41) slim41 h
def l_eqEndSS_l0_M (a : List (List (Int × Int))) (b : List (List (Int × Int))) (i : Int) (s : St) : Prop := s.v 0 = D.sl 100 (lst (fun x => D.sl 102 (cat2 .i64 .i64 x)) a) ∧ s.v 1 = D.sl 100 (lst (fun x => D.sl 102 (cat2 .i64 .i64 x)) b) ∧ s.v 5 = D.int .i64 i
def l_eqEndSS_l0_X (a : List (List (Int × Int))) (b : List (List (Int × Int))) (r : Unit ⊕ Unit) (ex : Ex) (s : St) : Prop := match r with
 | .inl q => ex = .ret ∧ s.v 4 = D.bool false
 | .inr q => ex = .exit 0
theorem l_eqEndSS_l0_wp (a : List (List (Int × Int))) (b : List (List (Int × Int))) {v : Int} {s : St} {r : Unit ⊕ Unit} (h : l_eqEndSS_l0 a b v = some r) (hM : l_eqEndSS_l0_M a b v s) : wpD Y.env k41_l0 (l_eqEndSS_l0_X a b r) s := by
 unfold l_eqEndSS_l0 at h
 refine wd_itO (c := k41_l0b) (fun v => l_eqEndSS_l0_S a b v) (fun v s => l_eqEndSS_l0_M a b v s) (l_eqEndSS_l0_X a b) ?_ h hM
 clear h hM s v r
 intro i s o hM h
 unfold l_eqEndSS_l0_S at h
 unfold l_eqEndSS_l0_M at hM
 obtain ⟨m0, m1, m2⟩ := hM
 unfold k41_l0b
 by_cases e2 : i < (a.length : Int)
 ·rw [if_pos e2] at h
  obtain ⟨e3, h⟩ := ckS h
  obtain ⟨e4, h⟩ := ckS h
  obtain ⟨e5, h⟩ := ckS h
  have c6 := l_eqEndS_cl (a.getD i.toNat default) (b.getD i.toNat default) e5
  by_cases e7 : (decide ((a.getD i.toNat default) = (b.getD i.toNat default))) = true
  ·rw [if_pos e7] at h
   cases h
   simp (maxDischargeDepth := 9) only [↓xpre, xpost, xlst, xcore, yset, ↓reduceIte, Nat.reduceEqDiff, Nat.reduceLT, Nat.reduceAdd, m0, m1, m2, e2, e3.1, e3.2, e4.2, c6, e7, l_eqEndSS_l0_M, sxN] <;> (repeat' apply And.intro) <;> first | rfl | exact ⟨_, rfl⟩ | exact ⟨_, _, rfl⟩ | simp [lst, cat2_nil]
  ·rw [if_neg e7] at h
   have e7f : (decide ((a.getD i.toNat default) = (b.getD i.toNat default))) = false := Bool.eq_false_iff.mpr e7
   cases h
   simp (maxDischargeDepth := 9) only [↓xpre, xpost, xlst, xcore, yset, ↓reduceIte, Nat.reduceEqDiff, Nat.reduceLT, Nat.reduceAdd, m0, m1, m2, e2, e3.1, e3.2, e4.2, c6, e7f, l_eqEndSS_l0_M, l_eqEndSS_l0_X, sxR] <;> (repeat' apply And.intro) <;> first | rfl | exact ⟨_, rfl⟩ | exact ⟨_, _, rfl⟩ | simp [lst, cat2_nil]
 ·rw [if_neg e2] at h
  cases h
  simp (maxDischargeDepth := 9) only [↓xpre, xpost, xlst, yset, ↓reduceIte, Nat.reduceEqDiff, Nat.reduceLT, m0, m2, e2, l_eqEndSS_l0_M, l_eqEndSS_l0_X, sxE] <;> (repeat' apply And.intro) <;> first | rfl | exact ⟨_, rfl⟩ | exact ⟨_, _, rfl⟩ | simp [lst, cat2_nil]
theorem l_eqEndSS_call (a : List (List (Int × Int))) (b : List (List (Int × Int))) {r : Bool} (h : l_eqEndSS a b = some r) : Y.call 41 [D.sl 100 (lst (fun x => D.sl 102 (cat2 .i64 .i64 x)) a), D.sl 100 (lst (fun x => D.sl 102 (cat2 .i64 .i64 x)) b)] [] = some (D.bool r, []) := by
 refine c41 ?_ rfl
 unfold k41
 unfold l_eqEndSS at h
 by_cases e1 : (a.length : Int) = (b.length : Int)
 ·rw [if_pos e1] at h
  obtain ⟨r3_, hl3, h⟩ := bindS h
  try dsimp only at h
  simp (maxDischargeDepth := 9) only [↓xpre, xpost, xlst, xcore, yset, ↓reduceIte, Nat.reduceEqDiff, Nat.reduceLT, decide_eq_true e1]
  refine wd_mono (l_eqEndSS_l0_wp a b hl3 ?_) ?_
  ·simp (maxDischargeDepth := 9) only [xpost, xcore, ↓reduceIte, Nat.reduceEqDiff, Nat.reduceLT, l_eqEndSS_l0_M] <;> (repeat' apply And.intro) <;> first | rfl | exact ⟨_, rfl⟩ | exact ⟨_, _, rfl⟩ | simp [lst, cat2_nil]
  ·intro ex3 s3 hX3
   rcases r3_ with q3_ | q3_
   ·unfold l_eqEndSS_l0_X at hX3
    dsimp only at hX3 h
    obtain ⟨rfl, n3_0⟩ := hX3
    cases h
    simp (maxDischargeDepth := 9) only [↓xpre, xpost, xcore, ↓reduceIte, n3_0] <;> (repeat' apply And.intro) <;> first | rfl | exact ⟨_, rfl⟩ | exact ⟨_, _, rfl⟩ | simp [lst, cat2_nil]
   ·unfold l_eqEndSS_l0_X at hX3
    dsimp only at hX3 h
    obtain rfl := hX3
    cases h
    simp (maxDischargeDepth := 9) only [↓xpre, xpost, xcore, yset, ↓reduceIte, Nat.reduceEqDiff, Nat.reduceLT] <;> (repeat' apply And.intro) <;> first | rfl | exact ⟨_, rfl⟩ | exact ⟨_, _, rfl⟩ | simp [lst, cat2_nil]
 ·rw [if_neg e1] at h
  cases h
  simp (maxDischargeDepth := 9) only [↓xpre, xpost, xlst, xcore, yset, ↓reduceIte, Nat.reduceEqDiff, Nat.reduceLT, e1] <;> (repeat' apply And.intro) <;> first | rfl | exact ⟨_, rfl⟩ | exact ⟨_, _, rfl⟩ | simp [lst, cat2_nil]

theorem l_eqEndSS_eq (a b : List (List (Int × Int))) (ha : ShortE a) : l_eqEndSS a b = some (decide (a = b)) := by
 have h1 := ha.1
 unfold l_eqEndSS l_eqEndSS_l0
 by_cases hl : a.length = b.length
 ·rw [if_pos (by omega)]
  have key := itO_all (fun v => l_eqEndSS_l0_S a b v) (fun i => (i : Int)) a.length (fun i => decide (a.getD i default = b.getD i default)) (.inl ()) (.inr ()) ?_ ?_
  ·simp only [Int.natCast_zero] at key
   rw [key, all_same a b hl]
   by_cases he : a = b <;> simp [he]
  ·intro i hi
   simp only [l_eqEndSS_l0_S]
   rw [if_pos (lt_nat hi), ckT (ix_nat hi), ckT (ix_nat (by omega)), ckT (by rw [getD_nat _ _ hi]; exact ha.at i hi), Int.toNat_natCast, wrS i (by omega)] <;> simp only [decide_eq_true_eq]
  ·simp only [l_eqEndSS_l0_S]
   rw [if_neg (not_lt_nat _)]
 ·rw [if_neg (by omega)]
  have : ¬ a = b := fun e => hl (by rw [e])
  simp [this]
theorem l_eqEndSS_cl (a : List (List (Int × Int))) (b : List (List (Int × Int))) (h0 : ShortE a) : Y.call 41 [D.sl 100 (lst (fun x => D.sl 102 (cat2 .i64 .i64 x)) a), D.sl 100 (lst (fun x => D.sl 102 (cat2 .i64 .i64 x)) b)] [] = some (D.bool (decide (a = b)), []) := l_eqEndSS_call a b (l_eqEndSS_eq a b h0)
noncomputable def l_eqNetwork (a_Ends : List (List (Int × Int))) (a_Ids a_Inputs : List Int) (b_Ends : List (List (Int × Int))) (b_Ids b_Inputs : List Int) : Option (Bool) :=
 ck (ShortE a_Ends) <|
 if (decide (a_Ends = b_Ends)) = true then
  ck (a_Ids.length < 1099511627776) <|
  if (decide (a_Ids = b_Ids)) = true then
   ck (a_Inputs.length < 1099511627776) <|
   if (decide (a_Inputs = b_Inputs)) = true then
    some true
   else
    some false
  else
   some false
 else
  some false
/-- laws.eqNetwork -/
def k13 : SC :=
 .seq
 (.ops [
 ⟨some 2, .box 31 (.tmp 0), 0, none⟩,
 ⟨some 3, .box 31 (.tmp 1), 0, none⟩,
 ⟨some 4, .assign (.const (.bool false)), 4, none⟩])
 (.seq
 (.seq
 (.ops [
 ⟨some 5, .fieldAddr 31 (.tmp 2) 0, 0, none⟩,
 ⟨some 6, .load 29 (.tmp 5), 29, none⟩,
 ⟨some 7, .fieldAddr 31 (.tmp 3) 0, 0, none⟩,
 ⟨some 8, .load 29 (.tmp 7), 29, none⟩,
 ⟨some 9, .call ⟨(.value (.func 41)), #[(.tmp 6), (.tmp 8)], #[29, 29]⟩, 4, none⟩,
 ⟨some 10, .unOp .not 4 (.tmp 9), 4, none⟩])
 (.cond (.tmp 10)
 (.seq
 (.ops [
 ⟨some 4, .assign (.const (.bool false)), 4, none⟩])
 .ret)
 .skip))
 (.seq
 (.seq
 (.ops [
 ⟨some 11, .fieldAddr 31 (.tmp 2) 1, 0, none⟩,
 ⟨some 12, .load 23 (.tmp 11), 23, none⟩,
 ⟨some 13, .fieldAddr 31 (.tmp 3) 1, 0, none⟩,
 ⟨some 14, .load 23 (.tmp 13), 23, none⟩,
 ⟨some 15, .call ⟨(.value (.func 14)), #[(.tmp 12), (.tmp 14)], #[23, 23]⟩, 4, none⟩,
 ⟨some 16, .unOp .not 4 (.tmp 15), 4, none⟩])
 (.cond (.tmp 16)
 (.seq
 (.ops [
 ⟨some 4, .assign (.const (.bool false)), 4, none⟩])
 .ret)
 .skip))
 (.seq
 (.seq
 (.ops [
 ⟨some 17, .fieldAddr 31 (.tmp 2) 2, 0, none⟩,
 ⟨some 18, .load 23 (.tmp 17), 23, none⟩,
 ⟨some 19, .fieldAddr 31 (.tmp 3) 2, 0, none⟩,
 ⟨some 20, .load 23 (.tmp 19), 23, none⟩,
 ⟨some 21, .call ⟨(.value (.func 14)), #[(.tmp 18), (.tmp 20)], #[23, 23]⟩, 4, none⟩,
 ⟨some 22, .unOp .not 4 (.tmp 21), 4, none⟩])
 (.cond (.tmp 22)
 (.seq
 (.ops [
 ⟨some 4, .assign (.const (.bool false)), 4, none⟩])
 .ret)
 .skip))
 (.seq
 (.ops [
 ⟨some 4, .assign (.const (.bool true)), 4, none⟩])
 .ret))))
theorem slim13 : Try.f13.body.map (slim lends) = some k13 := by kernel_rfl
theorem ok13 : fnOk Try.f13 2 = true := by kernel_rfl
theorem c13 {a l : List D} {r : D × List D} (h : wpD Y.env k13 (fin tys l.length [ResultVar.tmp 4] r) (entry a l)) (ha : a.length = 2) : Y.call 13 a l = some r :=
 call_slim (Y := Y) rfl Try.func13 (ha ▸ ok13) slim13 h
theorem l_eqNetwork_call (a_Ends : List (List (Int × Int))) (a_Ids a_Inputs : List Int) (b_Ends : List (List (Int × Int))) (b_Ids b_Inputs : List Int) {r : Bool} (h : l_eqNetwork a_Ends a_Ids a_Inputs b_Ends b_Ids b_Inputs = some r) : Y.call 13 [D.agg [D.sl 100 (lst (fun x => D.sl 102 (cat2 .i64 .i64 x)) a_Ends), D.sl 3 (lst (D.int .i64) a_Ids), D.sl 3 (lst (D.int .i64) a_Inputs)], D.agg [D.sl 100 (lst (fun x => D.sl 102 (cat2 .i64 .i64 x)) b_Ends), D.sl 3 (lst (D.int .i64) b_Ids), D.sl 3 (lst (D.int .i64) b_Inputs)]] [] = some (D.bool r, []) := by
 refine c13 ?_ rfl
 unfold k13
 unfold l_eqNetwork at h
 obtain ⟨e1, h⟩ := ckS h
 have c2 := l_eqEndSS_cl a_Ends b_Ends e1
 by_cases e3 : (decide (a_Ends = b_Ends)) = true
 ·rw [if_pos e3] at h
  obtain ⟨e4, h⟩ := ckS h
  have c5 := l_eqIntS_cl a_Ids b_Ids e4
  by_cases e6 : (decide (a_Ids = b_Ids)) = true
  ·rw [if_pos e6] at h
   obtain ⟨e7, h⟩ := ckS h
   have c8 := l_eqIntS_cl a_Inputs b_Inputs e7
   by_cases e9 : (decide (a_Inputs = b_Inputs)) = true
   ·rw [if_pos e9] at h
    cases h
    simp (maxDischargeDepth := 9) only [↓xpre, xpost, xcore, yset, ↓reduceIte, Nat.reduceEqDiff, Nat.reduceLT, Nat.reduceAdd, c2, e3, c5, e6, c8, e9] <;> (repeat' apply And.intro) <;> first | rfl | exact ⟨_, rfl⟩ | exact ⟨_, _, rfl⟩ | simp [lst, cat2_nil]
   ·rw [if_neg e9] at h
    have e9f : (decide (a_Inputs = b_Inputs)) = false := Bool.eq_false_iff.mpr e9
    cases h
    simp (maxDischargeDepth := 9) only [↓xpre, xpost, xcore, yset, ↓reduceIte, Nat.reduceEqDiff, Nat.reduceLT, Nat.reduceAdd, c2, e3, c5, e6, c8, e9f] <;> (repeat' apply And.intro) <;> first | rfl | exact ⟨_, rfl⟩ | exact ⟨_, _, rfl⟩ | simp [lst, cat2_nil]
  ·rw [if_neg e6] at h
   have e6f : (decide (a_Ids = b_Ids)) = false := Bool.eq_false_iff.mpr e6
   cases h
   simp (maxDischargeDepth := 9) only [↓xpre, xpost, xcore, yset, ↓reduceIte, Nat.reduceEqDiff, Nat.reduceLT, Nat.reduceAdd, c2, e3, c5, e6f] <;> (repeat' apply And.intro) <;> first | rfl | exact ⟨_, rfl⟩ | exact ⟨_, _, rfl⟩ | simp [lst, cat2_nil]
 ·rw [if_neg e3] at h
  have e3f : (decide (a_Ends = b_Ends)) = false := Bool.eq_false_iff.mpr e3
  cases h
  simp (maxDischargeDepth := 9) only [↓xpre, xpost, xcore, yset, ↓reduceIte, Nat.reduceEqDiff, Nat.reduceLT, Nat.reduceAdd, c2, e3f] <;> (repeat' apply And.intro) <;> first | rfl | exact ⟨_, rfl⟩ | exact ⟨_, _, rfl⟩ | simp [lst, cat2_nil]

def sameN (a : List (List (Int × Int))) (b c : List Int) (a' : List (List (Int × Int))) (b' c' : List Int) : Bool := decide (a = a' ∧ b = b' ∧ c = c')
theorem sameN_refl (a : List (List (Int × Int))) (b c : List Int) : sameN a b c a b c = true := by simp [sameN]
theorem l_eqNetwork_eq (a : List (List (Int × Int))) (b c : List Int) (a' : List (List (Int × Int))) (b' c' : List Int) (h : ShortE a) (hb : b.length < 1099511627776) (hc : c.length < 1099511627776) : l_eqNetwork a b c a' b' c' = some (sameN a b c a' b' c') := by
 unfold l_eqNetwork sameN
 rw [ckT h, ckT hb, ckT hc]
 by_cases h1 : a = a' <;> by_cases h2 : b = b' <;> by_cases h3 : c = c' <;> simp [h1, h2, h3]
theorem l_eqNetwork_cl (a_Ends : List (List (Int × Int))) (a_Ids a_Inputs : List Int) (b_Ends : List (List (Int × Int))) (b_Ids b_Inputs : List Int) (h0 : ShortE a_Ends) (h1 : a_Ids.length < 1099511627776) (h2 : a_Inputs.length < 1099511627776) : Y.call 13 [D.agg [D.sl 100 (lst (fun x => D.sl 102 (cat2 .i64 .i64 x)) a_Ends), D.sl 3 (lst (D.int .i64) a_Ids), D.sl 3 (lst (D.int .i64) a_Inputs)], D.agg [D.sl 100 (lst (fun x => D.sl 102 (cat2 .i64 .i64 x)) b_Ends), D.sl 3 (lst (D.int .i64) b_Ids), D.sl 3 (lst (D.int .i64) b_Inputs)]] [] = some (D.bool (sameN a_Ends a_Ids a_Inputs b_Ends b_Ids b_Inputs), []) := l_eqNetwork_call a_Ends a_Ids a_Inputs b_Ends b_Ids b_Inputs (l_eqNetwork_eq a_Ends a_Ids a_Inputs b_Ends b_Ids b_Inputs h0 h1 h2)
noncomputable def l_szEndS (a : List (Int × Int)) (left : Int) : Option (Int) :=
 if (IntKind.i64.wrap (left - (a.length : Int))) < 0 then
  some (-1)
 else
  some (IntKind.i64.wrap (left - (a.length : Int)))
/-- laws.szEndS -/
def k70 : SC :=
 .seq
 (.ops [
 ⟨some 4, .assign (.const (.int .i64 0)), 3, none⟩])
 (.seq
 (.ops [
 ⟨some 5, .move (.tmp 1), 3, none⟩,
 ⟨some 6, .move (.tmp 0), 97, none⟩,
 ⟨some 7, .call ⟨(.builtin .len), #[(.tmp 6)], #[97]⟩, 3, none⟩,
 ⟨some 8, .binOp .sub 3 (.tmp 5) (.tmp 7) 3, 3, none⟩,
 ⟨some 1, .assign (.tmp 8), 3, none⟩])
 (.seq
 (.seq
 (.ops [
 ⟨some 9, .move (.tmp 1), 3, none⟩,
 ⟨some 10, .binOp .lss 3 (.tmp 9) (.const (.int .i64 0)) 3, 4, none⟩])
 (.cond (.tmp 10)
 (.seq
 (.ops [
 ⟨some 4, .assign (.const (.int .i64 (-1))), 3, none⟩])
 .ret)
 .skip))
 (.seq
 (.ops [
 ⟨some 11, .move (.tmp 1), 3, none⟩,
 ⟨some 4, .assign (.tmp 11), 3, none⟩])
 .ret)))
theorem slim70 : Try.f70.body.map (slim lends) = some k70 := by kernel_rfl
theorem ok70 : fnOk Try.f70 2 = true := by kernel_rfl
theorem c70 {a l : List D} {r : D × List D} (h : wpD Y.env k70 (fin tys l.length [ResultVar.tmp 4] r) (entry a l)) (ha : a.length = 2) : Y.call 70 a l = some r :=
 call_slim (Y := Y) rfl Try.func70 (ha ▸ ok70) slim70 h
theorem l_szEndS_call (a : List (Int × Int)) (left : Int) {r : Int} (h : l_szEndS a left = some r) : Y.call 70 [D.sl 141 (cat2 .i64 .i64 a), D.int .i64 left] [] = some (D.int .i64 r, []) := by
 refine c70 ?_ rfl
 unfold k70
 unfold l_szEndS at h
 by_cases e1 : (IntKind.i64.wrap (left - (a.length : Int))) < 0
 ·rw [if_pos e1] at h
  cases h
  simp (maxDischargeDepth := 9) only [↓xpre, xpost, xc2, xcore, yset, ↓reduceIte, Nat.reduceEqDiff, Nat.reduceLT, Int.reduceNeg, e1] <;> (repeat' apply And.intro) <;> first | rfl | exact ⟨_, rfl⟩ | exact ⟨_, _, rfl⟩ | simp [lst, cat2_nil]
 ·rw [if_neg e1] at h
  cases h
  simp (maxDischargeDepth := 9) only [↓xpre, xpost, xc2, xcore, yset, ↓reduceIte, Nat.reduceEqDiff, Nat.reduceLT, Int.reduceNeg, e1] <;> (repeat' apply And.intro) <;> first | rfl | exact ⟨_, rfl⟩ | exact ⟨_, _, rfl⟩ | simp [lst, cat2_nil]

theorem l_szEndS_eq (a : List (Int × Int)) (left : Int) (ha : a.length < 9223372036854775808) (hl : 0 ≤ left ∧ left ≤ 1048576) : l_szEndS a left = some (szN left a.length) := by
 unfold l_szEndS szN
 rw [wr64 _ (by omega)]
 split <;> rfl
theorem l_szEndS_cl (a : List (Int × Int)) (left : Int) (h0 : a.length < 9223372036854775808) (h1 : 0 ≤ left ∧ left ≤ 1048576) : Y.call 70 [D.sl 141 (cat2 .i64 .i64 a), D.int .i64 left] [] = some (D.int .i64 (szN left a.length), []) := l_szEndS_call a left (l_szEndS_eq a left h0 h1)
noncomputable def l_szEndSS_l0_S (a : List (List (Int × Int))) (left1 i : Int) : Option ((Int × Int) ⊕ (Unit ⊕ Int)) :=
 if i < (a.length : Int) then
  ck (0 ≤ i ∧ i.toNat < a.length) <|
  ck ((a.getD i.toNat default).length < 9223372036854775808) <|
  ck (0 ≤ left1 ∧ left1 ≤ 1048576) <|
  if (szN left1 (a.getD i.toNat default).length) < 0 then
   some (Sum.inr (Sum.inl ()))
  else
   some (Sum.inl ((szN left1 (a.getD i.toNat default).length), IntKind.i64.wrap (i + 1)))
 else
  some (Sum.inr (Sum.inr left1))
noncomputable def l_szEndSS_l0 (a : List (List (Int × Int))) (v : Int × Int) : Option (Unit ⊕ Int) := itO (fun v => l_szEndSS_l0_S a v.1 v.2) v
noncomputable def l_szEndSS (a : List (List (Int × Int))) (left : Int) : Option (Int) :=
 if (IntKind.i64.wrap (left - (a.length : Int))) < 0 then
  some (-1)
 else
  (l_szEndSS_l0 a (IntKind.i64.wrap (left - (a.length : Int)), 0)).bind fun r3_ =>
  match r3_ with
  | .inl q3_ =>
   some (-1)
  | .inr q3_ =>
   some q3_
/-- laws.szEndSS -/
def k31_l0b : SC :=
 .seq
 (.seq
 (.ops [
 ⟨some 12, .move (.tmp 5), 3, none⟩,
 ⟨some 13, .move (.tmp 0), 22, none⟩,
 ⟨some 14, .call ⟨(.builtin .len), #[(.tmp 13)], #[22]⟩, 3, none⟩,
 ⟨some 15, .binOp .lss 3 (.tmp 12) (.tmp 14) 3, 4, none⟩])
 (.cond (.tmp 15)
 .skip
 (.exit 0)))
 (.seq
 (.block 1
 (.seq
 (.ops [
 ⟨some 18, .move (.tmp 0), 22, none⟩,
 ⟨some 19, .move (.tmp 5), 3, none⟩,
 ⟨some 20, .indexAddr 22 (.tmp 18) (.tmp 19), 0, none⟩,
 ⟨some 21, .load 97 (.tmp 20), 97, none⟩,
 ⟨some 22, .move (.tmp 1), 3, none⟩,
 ⟨some 23, .call ⟨(.value (.func 70)), #[(.tmp 21), (.tmp 22)], #[97, 3]⟩, 3, none⟩,
 ⟨some 1, .assign (.tmp 23), 3, none⟩])
 (.seq
 (.ops [
 ⟨some 24, .move (.tmp 1), 3, none⟩,
 ⟨some 25, .binOp .lss 3 (.tmp 24) (.const (.int .i64 0)) 3, 4, none⟩])
 (.cond (.tmp 25)
 (.seq
 (.ops [
 ⟨some 4, .assign (.const (.int .i64 (-1))), 3, none⟩])
 .ret)
 .skip))))
 (.ops [
 ⟨some 16, .move (.tmp 5), 3, none⟩,
 ⟨some 17, .binOp .add 3 (.tmp 16) (.const (.int .i64 1)) 3, 3, none⟩,
 ⟨some 5, .assign (.tmp 17), 3, none⟩]))
def k31_l0 : SC := .loop k31_l0b
def k31 : SC :=
 .seq
 (.ops [
 ⟨some 4, .assign (.const (.int .i64 0)), 3, none⟩])
 (.seq
 (.ops [
 ⟨some 6, .move (.tmp 1), 3, none⟩,
 ⟨some 7, .move (.tmp 0), 22, none⟩,
 ⟨some 8, .call ⟨(.builtin .len), #[(.tmp 7)], #[22]⟩, 3, none⟩,
 ⟨some 9, .binOp .sub 3 (.tmp 6) (.tmp 8) 3, 3, none⟩,
 ⟨some 1, .assign (.tmp 9), 3, none⟩])
 (.seq
 (.seq
 (.ops [
 ⟨some 10, .move (.tmp 1), 3, none⟩,
 ⟨some 11, .binOp .lss 3 (.tmp 10) (.const (.int .i64 0)) 3, 4, none⟩])
 (.cond (.tmp 11)
 (.seq
 (.ops [
 ⟨some 4, .assign (.const (.int .i64 (-1))), 3, none⟩])
 .ret)
 .skip))
 (.seq
 (.seq
 (.ops [
 ⟨some 5, .assign (.const (.int .i64 0)), 3, none⟩])
 (.block 0
 k31_l0))
 (.seq
 (.ops [
 ⟨some 26, .move (.tmp 1), 3, none⟩,
 ⟨some 4, .assign (.tmp 26), 3, none⟩])
 .ret))))
theorem slim31 : Try.f31.body.map (slim lends) = some k31 := by kernel_rfl
theorem ok31 : fnOk Try.f31 2 = true := by kernel_rfl
theorem c31 {a l : List D} {r : D × List D} (h : wpD Y.env k31 (fin tys l.length [ResultVar.tmp 4] r) (entry a l)) (ha : a.length = 2) : Y.call 31 a l = some r :=
 call_slim (Y := Y) rfl Try.func31 (ha ▸ ok31) slim31 h
def l_szEndSS_l0_M (a : List (List (Int × Int))) (left1 i : Int) (s : St) : Prop := s.v 0 = D.sl 97 (lst (fun x => D.sl 141 (cat2 .i64 .i64 x)) a) ∧ s.v 1 = D.int .i64 left1 ∧ s.v 5 = D.int .i64 i
def l_szEndSS_l0_X (a : List (List (Int × Int))) (r : Unit ⊕ Int) (ex : Ex) (s : St) : Prop := match r with
 | .inl q => ex = .ret ∧ s.v 4 = D.int .i64 (-1)
 | .inr q => ex = .exit 0 ∧ s.v 1 = D.int .i64 q
theorem l_szEndSS_l0_wp (a : List (List (Int × Int))) {v : Int × Int} {s : St} {r : Unit ⊕ Int} (h : l_szEndSS_l0 a v = some r) (hM : l_szEndSS_l0_M a v.1 v.2 s) : wpD Y.env k31_l0 (l_szEndSS_l0_X a r) s := by
 unfold l_szEndSS_l0 at h
 refine wd_itO (c := k31_l0b) (fun v => l_szEndSS_l0_S a v.1 v.2) (fun v s => l_szEndSS_l0_M a v.1 v.2 s) (l_szEndSS_l0_X a) ?_ h hM
 clear h hM s v r
 intro v s o hM h
 obtain ⟨left1, i⟩ := v
 dsimp only at h hM
 unfold l_szEndSS_l0_S at h
 unfold l_szEndSS_l0_M at hM
 obtain ⟨m0, m1, m2⟩ := hM
 unfold k31_l0b
 by_cases e2 : i < (a.length : Int)
 ·rw [if_pos e2] at h
  obtain ⟨e3, h⟩ := ckS h
  obtain ⟨e4, h⟩ := ckS h
  obtain ⟨e5, h⟩ := ckS h
  have c6 := l_szEndS_cl (a.getD i.toNat default) left1 e4 e5
  by_cases e7 : (szN left1 (a.getD i.toNat default).length) < 0
  ·rw [if_pos e7] at h
   cases h
   simp (maxDischargeDepth := 9) only [↓xpre, xpost, xlst, xcore, yset, ↓reduceIte, Nat.reduceEqDiff, Nat.reduceLT, Nat.reduceAdd, Int.reduceNeg, m0, m1, m2, e2, e3.1, e3.2, c6, e7, l_szEndSS_l0_M, l_szEndSS_l0_X, sxR] <;> (repeat' apply And.intro) <;> first | rfl | exact ⟨_, rfl⟩ | exact ⟨_, _, rfl⟩ | simp [lst, cat2_nil]
  ·rw [if_neg e7] at h
   cases h
   simp (maxDischargeDepth := 9) only [↓xpre, xpost, xlst, xcore, yset, ↓reduceIte, Nat.reduceEqDiff, Nat.reduceLT, Nat.reduceAdd, Int.reduceNeg, m0, m1, m2, e2, e3.1, e3.2, c6, e7, l_szEndSS_l0_M, sxN] <;> (repeat' apply And.intro) <;> first | rfl | exact ⟨_, rfl⟩ | exact ⟨_, _, rfl⟩ | simp [lst, cat2_nil]
 ·rw [if_neg e2] at h
  cases h
  simp (maxDischargeDepth := 9) only [↓xpre, xpost, xlst, yset, ↓reduceIte, Nat.reduceEqDiff, Nat.reduceLT, Int.reduceNeg, m0, m1, m2, e2, l_szEndSS_l0_M, l_szEndSS_l0_X, sxE] <;> (repeat' apply And.intro) <;> first | rfl | exact ⟨_, rfl⟩ | exact ⟨_, _, rfl⟩ | simp [lst, cat2_nil]
theorem l_szEndSS_call (a : List (List (Int × Int))) (left : Int) {r : Int} (h : l_szEndSS a left = some r) : Y.call 31 [D.sl 97 (lst (fun x => D.sl 141 (cat2 .i64 .i64 x)) a), D.int .i64 left] [] = some (D.int .i64 r, []) := by
 refine c31 ?_ rfl
 unfold k31
 unfold l_szEndSS at h
 by_cases e1 : (IntKind.i64.wrap (left - (a.length : Int))) < 0
 ·rw [if_pos e1] at h
  cases h
  simp (maxDischargeDepth := 9) only [↓xpre, xpost, xlst, xcore, yset, ↓reduceIte, Nat.reduceEqDiff, Nat.reduceLT, Int.reduceNeg, e1] <;> (repeat' apply And.intro) <;> first | rfl | exact ⟨_, rfl⟩ | exact ⟨_, _, rfl⟩ | simp [lst, cat2_nil]
 ·rw [if_neg e1] at h
  obtain ⟨r3_, hl3, h⟩ := bindS h
  try dsimp only at h
  simp (maxDischargeDepth := 9) only [↓xpre, xpost, xlst, xcore, yset, ↓reduceIte, Nat.reduceEqDiff, Nat.reduceLT, Int.reduceNeg, e1]
  refine wd_mono (l_szEndSS_l0_wp a hl3 ?_) ?_
  ·simp (maxDischargeDepth := 9) only [xpost, xcore, ↓reduceIte, Nat.reduceEqDiff, Nat.reduceLT, l_szEndSS_l0_M] <;> (repeat' apply And.intro) <;> first | rfl | exact ⟨_, rfl⟩ | exact ⟨_, _, rfl⟩ | simp [lst, cat2_nil]
  ·intro ex3 s3 hX3
   rcases r3_ with q3_ | q3_
   ·unfold l_szEndSS_l0_X at hX3
    dsimp only at hX3 h
    obtain ⟨rfl, n3_0⟩ := hX3
    cases h
    simp (maxDischargeDepth := 9) only [↓xpre, xpost, xcore, ↓reduceIte, Int.reduceNeg, n3_0] <;> (repeat' apply And.intro) <;> first | rfl | exact ⟨_, rfl⟩ | exact ⟨_, _, rfl⟩ | simp [lst, cat2_nil]
   ·unfold l_szEndSS_l0_X at hX3
    dsimp only at hX3 h
    obtain ⟨rfl, n3_0⟩ := hX3
    cases h
    simp (maxDischargeDepth := 9) only [↓xpre, xpost, xcore, ↓reduceIte, Nat.reduceEqDiff, Nat.reduceLT, n3_0] <;> (repeat' apply And.intro) <;> first | rfl | exact ⟨_, rfl⟩ | exact ⟨_, _, rfl⟩ | simp [lst, cat2_nil]

/-- The first parts alone. -/
def fE (l : List (List (Int × Int))) : List (List Int) := l.map fun x => x.map Prod.fst
theorem l_szEndSS_l0_eq (a : List (List (Int × Int))) (ha : a.length < 4611686018427387904) (hx : ∀ x ∈ a, x.length < 9223372036854775808) : ∀ (n i : Nat) (left : Int), n = a.length - i → i ≤ a.length → 0 ≤ left ∧ left ≤ 1048576 →
  l_szEndSS_l0 a (left, (i : Int)) = some (if szL left (fE (a.drop i)) = -1 then .inl () else .inr (szL left (fE (a.drop i)))) := by
 intro n
 induction n with
 | zero =>
  intro i left hn hi hl
  have e : i = a.length := by omega
  subst e
  unfold l_szEndSS_l0
  rw [itO_inr (r := Sum.inr left)]
  ·rw [List.drop_length, show fE [] = [] from rfl]; unfold szL; rw [if_neg (by omega)]
  ·simp only [l_szEndSS_l0_S]; rw [if_neg (not_lt_nat _)]
 | succ n ih =>
  intro i left hn hi hl
  have hlt : i < a.length := by omega
  have hm : a[i] ∈ a := List.getElem_mem hlt
  have hxm := hx _ hm
  have step : l_szEndSS_l0_S a left i = if szN left a[i].length < 0 then some (Sum.inr (Sum.inl ())) else some (Sum.inl (szN left a[i].length, ((i + 1 : Nat) : Int))) := by
   unfold l_szEndSS_l0_S
   rw [if_pos (lt_nat hlt), ckT (ix_nat hlt), ckT (by rw [getD_nat _ _ hlt]; exact hxm), ckT hl, getD_nat _ _ hlt, wrS i (by omega)]
  rw [List.drop_eq_getElem_cons hlt, show fE (a[i] :: a.drop (i + 1)) = a[i].map Prod.fst :: fE (a.drop (i + 1)) from rfl]
  unfold szL
  rw [List.length_map]
  by_cases hq : left - (a[i].length : Int) < 0
  ·rw [if_pos hq]
   unfold l_szEndSS_l0
   rw [itO_inr (r := Sum.inl ())]
   ·rfl
   ·rw [step]; unfold szN; rw [if_pos hq]; rfl
  ·rw [if_neg hq]
   have e2 : szN left a[i].length = left - a[i].length := by unfold szN; rw [if_neg hq]
   have := ih (i + 1) (left - a[i].length) (by omega) (by omega) (by omega)
   unfold l_szEndSS_l0 at this ⊢
   rw [itO_inl (s' := (left - (a[i].length : Int), ((i + 1 : Nat) : Int))), this]
   ·rw [step, e2, if_neg hq]
/-- Lists that a machine can hold. -/
def WideE (l : List (List (Int × Int))) : Prop := l.length < 9223372036854775808 ∧ ∀ x ∈ l, x.length < 9223372036854775808
instance (l : List (List (Int × Int))) : Decidable (WideE l) := by unfold WideE; infer_instance
theorem l_szEndSS_eq (a : List (List (Int × Int))) (left : Int) (hw : WideE a) (hl : 0 ≤ left ∧ left ≤ 1048576) : l_szEndSS a left = some (szN left (a.length + tot (fE a))) := by
 have ht := tot_nonneg (fE a)
 have ha := hw.1
 unfold l_szEndSS
 rw [wr64 _ (by omega)]
 by_cases hq : left - (a.length : Int) < 0
 ·rw [if_pos hq]; unfold szN; rw [if_pos (by omega)]
 ·rw [if_neg hq]
  have h0 := l_szEndSS_l0_eq a (by omega) hw.2 a.length 0 (left - a.length) (by omega) (by omega) (by omega)
  simp only [Int.natCast_zero, List.drop_zero] at h0
  rw [h0, Option.bind_some, szL_eq _ _ (by omega)]
  have e : szN (left - a.length) (tot (fE a)) = szN left (a.length + tot (fE a)) := by unfold szN; rw [show left - ↑a.length - tot (fE a) = left - (↑a.length + tot (fE a)) by omega]
  rw [e]
  by_cases h1 : szN left (a.length + tot (fE a)) = -1
  ·rw [if_pos h1, h1]
  ·rw [if_neg h1]
theorem l_szEndSS_cl (a : List (List (Int × Int))) (left : Int) (h0 : WideE a) (h1 : 0 ≤ left ∧ left ≤ 1048576) : Y.call 31 [D.sl 97 (lst (fun x => D.sl 141 (cat2 .i64 .i64 x)) a), D.int .i64 left] [] = some (D.int .i64 (szN left (a.length + tot (fE a))), []) := l_szEndSS_call a left (l_szEndSS_eq a left h0 h1)
noncomputable def l_szNetwork (a_Ends : List (List (Int × Int))) (a_Ids a_Inputs : List Int) (left : Int) : Option (Int) :=
 ck (WideE a_Ends) <|
 ck (0 ≤ left ∧ left ≤ 1048576) <|
 if (szN left (a_Ends.length + tot (fE a_Ends))) < 0 then
  some (-1)
 else
  ck (a_Ids.length < 9223372036854775808) <|
  ck (0 ≤ (szN left (a_Ends.length + tot (fE a_Ends))) ∧ (szN left (a_Ends.length + tot (fE a_Ends))) ≤ 1048576) <|
  if (szN (szN left (a_Ends.length + tot (fE a_Ends))) a_Ids.length) < 0 then
   some (-1)
  else
   ck (a_Inputs.length < 9223372036854775808) <|
   ck (0 ≤ (szN (szN left (a_Ends.length + tot (fE a_Ends))) a_Ids.length) ∧ (szN (szN left (a_Ends.length + tot (fE a_Ends))) a_Ids.length) ≤ 1048576) <|
   if (szN (szN (szN left (a_Ends.length + tot (fE a_Ends))) a_Ids.length) a_Inputs.length) < 0 then
    some (-1)
   else
    some (szN (szN (szN left (a_Ends.length + tot (fE a_Ends))) a_Ids.length) a_Inputs.length)
/-- laws.szNetwork -/
def k8 : SC :=
 .seq
 (.ops [
 ⟨some 2, .box 25 (.tmp 0), 0, none⟩,
 ⟨some 4, .assign (.const (.int .i64 0)), 3, none⟩])
 (.seq
 (.ops [
 ⟨some 5, .fieldAddr 25 (.tmp 2) 0, 0, none⟩,
 ⟨some 6, .load 22 (.tmp 5), 22, none⟩,
 ⟨some 7, .move (.tmp 1), 3, none⟩,
 ⟨some 8, .call ⟨(.value (.func 31)), #[(.tmp 6), (.tmp 7)], #[22, 3]⟩, 3, none⟩,
 ⟨some 1, .assign (.tmp 8), 3, none⟩])
 (.seq
 (.seq
 (.ops [
 ⟨some 9, .move (.tmp 1), 3, none⟩,
 ⟨some 10, .binOp .lss 3 (.tmp 9) (.const (.int .i64 0)) 3, 4, none⟩])
 (.cond (.tmp 10)
 (.seq
 (.ops [
 ⟨some 4, .assign (.const (.int .i64 (-1))), 3, none⟩])
 .ret)
 .skip))
 (.seq
 (.ops [
 ⟨some 11, .fieldAddr 25 (.tmp 2) 1, 0, none⟩,
 ⟨some 12, .load 23 (.tmp 11), 23, none⟩,
 ⟨some 13, .move (.tmp 1), 3, none⟩,
 ⟨some 14, .call ⟨(.value (.func 32)), #[(.tmp 12), (.tmp 13)], #[23, 3]⟩, 3, none⟩,
 ⟨some 1, .assign (.tmp 14), 3, none⟩])
 (.seq
 (.seq
 (.ops [
 ⟨some 15, .move (.tmp 1), 3, none⟩,
 ⟨some 16, .binOp .lss 3 (.tmp 15) (.const (.int .i64 0)) 3, 4, none⟩])
 (.cond (.tmp 16)
 (.seq
 (.ops [
 ⟨some 4, .assign (.const (.int .i64 (-1))), 3, none⟩])
 .ret)
 .skip))
 (.seq
 (.ops [
 ⟨some 17, .fieldAddr 25 (.tmp 2) 2, 0, none⟩,
 ⟨some 18, .load 23 (.tmp 17), 23, none⟩,
 ⟨some 19, .move (.tmp 1), 3, none⟩,
 ⟨some 20, .call ⟨(.value (.func 32)), #[(.tmp 18), (.tmp 19)], #[23, 3]⟩, 3, none⟩,
 ⟨some 1, .assign (.tmp 20), 3, none⟩])
 (.seq
 (.seq
 (.ops [
 ⟨some 21, .move (.tmp 1), 3, none⟩,
 ⟨some 22, .binOp .lss 3 (.tmp 21) (.const (.int .i64 0)) 3, 4, none⟩])
 (.cond (.tmp 22)
 (.seq
 (.ops [
 ⟨some 4, .assign (.const (.int .i64 (-1))), 3, none⟩])
 .ret)
 .skip))
 (.seq
 (.ops [
 ⟨some 23, .move (.tmp 1), 3, none⟩,
 ⟨some 4, .assign (.tmp 23), 3, none⟩])
 .ret)))))))
theorem slim8 : Try.f8.body.map (slim lends) = some k8 := by kernel_rfl
theorem ok8 : fnOk Try.f8 2 = true := by kernel_rfl
theorem c8 {a l : List D} {r : D × List D} (h : wpD Y.env k8 (fin tys l.length [ResultVar.tmp 4] r) (entry a l)) (ha : a.length = 2) : Y.call 8 a l = some r :=
 call_slim (Y := Y) rfl Try.func8 (ha ▸ ok8) slim8 h
theorem l_szNetwork_call (a_Ends : List (List (Int × Int))) (a_Ids a_Inputs : List Int) (left : Int) {r : Int} (h : l_szNetwork a_Ends a_Ids a_Inputs left = some r) : Y.call 8 [D.agg [D.sl 97 (lst (fun x => D.sl 141 (cat2 .i64 .i64 x)) a_Ends), D.sl 3 (lst (D.int .i64) a_Ids), D.sl 3 (lst (D.int .i64) a_Inputs)], D.int .i64 left] [] = some (D.int .i64 r, []) := by
 refine c8 ?_ rfl
 unfold k8
 unfold l_szNetwork at h
 obtain ⟨e1, h⟩ := ckS h
 obtain ⟨e2, h⟩ := ckS h
 have c3 := l_szEndSS_cl a_Ends left e1 e2
 by_cases e4 : (szN left (a_Ends.length + tot (fE a_Ends))) < 0
 ·rw [if_pos e4] at h
  cases h
  simp (maxDischargeDepth := 9) only [↓xpre, xpost, xcore, yset, ↓reduceIte, Nat.reduceEqDiff, Nat.reduceLT, Nat.reduceAdd, Int.reduceNeg, c3, e4] <;> (repeat' apply And.intro) <;> first | rfl | exact ⟨_, rfl⟩ | exact ⟨_, _, rfl⟩ | simp [lst, cat2_nil]
 ·rw [if_neg e4] at h
  obtain ⟨e5, h⟩ := ckS h
  obtain ⟨e6, h⟩ := ckS h
  have c7 := l_szIntS_cl a_Ids (szN left (a_Ends.length + tot (fE a_Ends))) e5 e6
  by_cases e8 : (szN (szN left (a_Ends.length + tot (fE a_Ends))) a_Ids.length) < 0
  ·rw [if_pos e8] at h
   cases h
   simp (maxDischargeDepth := 9) only [↓xpre, xpost, xcore, yset, ↓reduceIte, Nat.reduceEqDiff, Nat.reduceLT, Nat.reduceAdd, Int.reduceNeg, c3, e4, c7, e8] <;> (repeat' apply And.intro) <;> first | rfl | exact ⟨_, rfl⟩ | exact ⟨_, _, rfl⟩ | simp [lst, cat2_nil]
  ·rw [if_neg e8] at h
   obtain ⟨e9, h⟩ := ckS h
   obtain ⟨e10, h⟩ := ckS h
   have c11 := l_szIntS_cl a_Inputs (szN (szN left (a_Ends.length + tot (fE a_Ends))) a_Ids.length) e9 e10
   by_cases e12 : (szN (szN (szN left (a_Ends.length + tot (fE a_Ends))) a_Ids.length) a_Inputs.length) < 0
   ·rw [if_pos e12] at h
    cases h
    simp (maxDischargeDepth := 9) only [↓xpre, xpost, xcore, yset, ↓reduceIte, Nat.reduceEqDiff, Nat.reduceLT, Nat.reduceAdd, Int.reduceNeg, c3, e4, c7, e8, c11, e12] <;> (repeat' apply And.intro) <;> first | rfl | exact ⟨_, rfl⟩ | exact ⟨_, _, rfl⟩ | simp [lst, cat2_nil]
   ·rw [if_neg e12] at h
    cases h
    simp (maxDischargeDepth := 9) only [↓xpre, xpost, xcore, yset, ↓reduceIte, Nat.reduceEqDiff, Nat.reduceLT, Nat.reduceAdd, Int.reduceNeg, c3, e4, c7, e8, c11, e12] <;> (repeat' apply And.intro) <;> first | rfl | exact ⟨_, rfl⟩ | exact ⟨_, _, rfl⟩ | simp [lst, cat2_nil]

def szW (left : Int) (a : List (List (Int × Int))) (b c : List Int) : Int :=
 if szN left (a.length + tot (fE a)) < 0 then -1 else if szN (szN left (a.length + tot (fE a))) b.length < 0 then -1 else szN (szN (szN left (a.length + tot (fE a))) b.length) c.length
theorem l_szNetwork_eq (a : List (List (Int × Int))) (b c : List Int) (left : Int) (ha : WideE a) (hb : b.length < 9223372036854775808) (hc : c.length < 9223372036854775808) (hl : 0 ≤ left ∧ left ≤ 1048576) : l_szNetwork a b c left = some (szW left a b c) := by
 have ht := tot_nonneg (fE a)
 unfold l_szNetwork szW
 rw [ckT ha, ckT hl]
 by_cases h1 : szN left (a.length + tot (fE a)) < 0
 ·rw [if_pos h1, if_pos h1]
 ·rw [if_neg h1, if_neg h1]
  have b1 : 0 ≤ szN left (a.length + tot (fE a)) ∧ szN left (a.length + tot (fE a)) ≤ 1048576 := by
   rcases szN_cases left (a.length + tot (fE a)) with c | ⟨c, c'⟩ <;> omega
  rw [ckT hb, ckT b1]
  by_cases h2 : szN (szN left (a.length + tot (fE a))) b.length < 0
  ·rw [if_pos h2, if_pos h2]
  ·rw [if_neg h2, if_neg h2]
   have b2 : 0 ≤ szN (szN left (a.length + tot (fE a))) b.length ∧ szN (szN left (a.length + tot (fE a))) b.length ≤ 1048576 := by
    rcases szN_cases (szN left (a.length + tot (fE a))) b.length with c | ⟨c, c'⟩ <;> omega
   rw [ckT hc, ckT b2]
   by_cases h3 : szN (szN (szN left (a.length + tot (fE a))) b.length) c.length < 0
   ·rw [if_pos h3]
    rcases szN_cases (szN (szN left (a.length + tot (fE a))) b.length) c.length with d | ⟨d, d'⟩
    ·rw [d]
    ·omega
   ·rw [if_neg h3]
theorem l_szNetwork_cl (a_Ends : List (List (Int × Int))) (a_Ids a_Inputs : List Int) (left : Int) (h0 : WideE a_Ends) (h1 : a_Ids.length < 9223372036854775808) (h2 : a_Inputs.length < 9223372036854775808) (h3 : 0 ≤ left ∧ left ≤ 1048576) : Y.call 8 [D.agg [D.sl 97 (lst (fun x => D.sl 141 (cat2 .i64 .i64 x)) a_Ends), D.sl 3 (lst (D.int .i64) a_Ids), D.sl 3 (lst (D.int .i64) a_Inputs)], D.int .i64 left] [] = some (D.int .i64 (szW left a_Ends a_Ids a_Inputs), []) := l_szNetwork_call a_Ends a_Ids a_Inputs left (l_szNetwork_eq a_Ends a_Ids a_Inputs left h0 h1 h2 h3)
theorem szW_fit {a : List (List (Int × Int))} {b c : List Int} {left : Int} (hl : left ≤ 1048576) (h : ¬ szW left a b c < 0) : a.length + tot (fE a) + b.length + c.length ≤ 1048576 ∧ ShortE a ∧ szW left a b c ≤ left := by
 have ht := tot_nonneg (fE a)
 have key : (a.length : Int) + tot (fE a) + b.length + c.length ≤ 1048576 ∧ szW left a b c ≤ left := by
  unfold szW at h ⊢
  rcases szN_cases left (a.length + tot (fE a)) with d | ⟨d, d'⟩
  ·rw [d] at h; simp at h
  ·rw [d, if_neg (by omega)] at h
   rw [d, if_neg (by omega)]
   rcases szN_cases (left - (a.length + tot (fE a))) b.length with e | ⟨e, e'⟩
   ·rw [e] at h; simp at h
   ·rw [e, if_neg (by omega)] at h
    rw [e, if_neg (by omega)]
    rcases szN_cases (left - (a.length + tot (fE a)) - b.length) c.length with g | ⟨g, g'⟩
    ·rw [g] at h; simp at h
    ·rw [g]; omega
 refine ⟨key.1, ⟨by omega, fun x hx => ?_⟩, key.2⟩
 have : x.map Prod.fst ∈ fE a := List.mem_map.2 ⟨x, hx, rfl⟩
 have := tot_mem this
 rw [List.length_map] at this
 omega
theorem wideE_of {l : List (List (Int × Int))} (h : Pairss l) : WideE l := ⟨Nat.lt_of_le_of_lt h.1 (by decide), fun x hx => Nat.lt_of_le_of_lt (h.2 x hx).1 (by decide)⟩

end Go.Proofs.Ytipfckompmhljaa
