/- Value programs copied, compared, measured, marked, as plain functions. Conditions: the lists are short. -/
import Derived.Test.YtjkgcfdcfjkkbaaGreatL6
import Derived.Test.YtjkgcfdcfjkkbaaGreatNmk
namespace Go.Proofs.YtjkgcfdcfjkkbaaGreat
open Go Dv
set_option linter.unusedSimpArgs false
set_option linter.unusedVariables false
set_option maxRecDepth 100000
set_option maxHeartbeats 4000000

noncomputable def l_toValueOp (a_Kind : Int) (a_Value : Int) : Option (Int × Int) :=
 some (a_Kind, a_Value)
/-- laws.toValueOp -/
def k48 : SC :=
 .seq
 (.ops [
 ⟨(some 1), (.box 75 (.tmp 0)), 0, none⟩,
 ⟨(some 2), (.alloc 73), 0, none⟩])
 (.seq
 (.ops [
 ⟨(some 3), (.alloc 73), 0, none⟩])
 (.seq
 (.ops [
 ⟨(some 4), (.fieldAddr 75 (.tmp 1) 0), 0, none⟩,
 ⟨(some 5), (.load 3 (.tmp 4)), 3, none⟩,
 ⟨(some 6), (.fieldAddr 73 (.tmp 3) 0), 0, none⟩,
 ⟨none, (.store 3 (.tmp 6) (.tmp 5)), 0, none⟩])
 (.seq
 (.ops [
 ⟨(some 7), (.fieldAddr 75 (.tmp 1) 1), 0, none⟩,
 ⟨(some 8), (.load 3 (.tmp 7)), 3, none⟩,
 ⟨(some 9), (.fieldAddr 73 (.tmp 3) 1), 0, none⟩,
 ⟨none, (.store 3 (.tmp 9) (.tmp 8)), 0, none⟩])
 (.seq
 (.ops [
 ⟨(some 10), (.load 73 (.tmp 3)), 73, none⟩,
 ⟨none, (.store 73 (.tmp 2) (.tmp 10)), 0, none⟩])
 .ret))))
theorem slim48 : Tryz.f48.body.map (slim lends) = some k48 := by kernel_rfl
theorem ok48 : fnOk Tryz.f48 1 = true := by kernel_rfl
theorem c48 {a l : List D} {r : D × List D} (h : wpD Y.env k48 (fin tys l.length [ResultVar.cell 2 73] r) (entry a l)) (ha : a.length = 1) : Y.call 48 a l = some r :=
 call_slim (Y := Y) rfl Tryz.func48 (ha ▸ ok48) slim48 h
theorem l_toValueOp_call (a_Kind : Int) (a_Value : Int) {r : Int × Int} (h : l_toValueOp a_Kind a_Value = some r) : Y.call 48 [D.agg [D.int .i64 a_Kind, D.int .i64 a_Value]] [] = some (D.agg [D.int .i64 r.1, D.int .i64 r.2], []) := by
 refine c48 ?_ rfl
 unfold k48
 unfold l_toValueOp at h
 obtain rfl := Option.some.inj h
 simp (maxDischargeDepth := 9) only [↓xpre, xpost, xcore, yset, ↓reduceIte, Nat.reduceEqDiff, Nat.reduceLT, Nat.reduceAdd]

noncomputable def l_toValueOpS_l0_S (a : List (Int × Int)) (out : List (Int × Int)) (i : Int) : Option (((List (Int × Int)) × Int) ⊕ ((List (Int × Int)))) :=
 if i < (a.length : Int) then
  ck (0 ≤ i ∧ i.toNat < a.length) <|
  (l_toValueOp (fstD a i.toNat) (sndD a i.toNat)).bind fun r4_ =>
  ck (0 ≤ i ∧ i.toNat < out.length) <|
  some (Sum.inl ((out.set i.toNat (r4_.1, r4_.2)), IntKind.i64.wrap (i + 1)))
 else
  some (Sum.inr out)
noncomputable def l_toValueOpS_l0 (a : List (Int × Int)) (v : (List (Int × Int)) × Int) : Option ((List (Int × Int))) := itO (fun v => l_toValueOpS_l0_S a v.1 v.2) v
noncomputable def l_toValueOpS (a : List (Int × Int)) : Option ((List (Int × Int))) :=
 ck (0 ≤ (a.length : Int) ∧ (a.length : Int) < 1099511627776) <|
 (l_toValueOpS_l0 a ((List.replicate a.length (0, 0)), 0)).bind fun r3_ =>
 some r3_
/-- laws.toValueOpS -/
def k21_l0b : SC :=
 .seq
 (.seq
 (.ops [
 ⟨(some 8), (.move (.tmp 4)), 3, none⟩,
 ⟨(some 9), (.move (.tmp 0)), 46, none⟩,
 ⟨(some 10), (.call ⟨(.builtin .len), #[(.tmp 9)], #[46]⟩), 3, none⟩,
 ⟨(some 11), (.binOp .lss 3 (.tmp 8) (.tmp 10) 3), 4, none⟩])
 (.cond (.tmp 11)
 .skip
 (.exit 0)))
 (.seq
 (.block 1
 (.ops [
 ⟨(some 14), (.move (.tmp 3)), 49, none⟩,
 ⟨(some 15), (.move (.tmp 4)), 3, none⟩,
 ⟨(some 16), (.move (.tmp 0)), 46, none⟩,
 ⟨(some 17), (.move (.tmp 4)), 3, none⟩,
 ⟨(some 18), (.indexAddr 46 (.tmp 16) (.tmp 17)), 0, none⟩,
 ⟨(some 19), (.load 75 (.tmp 18)), 75, none⟩,
 ⟨(some 20), (.call ⟨(.value (.func 48)), #[(.tmp 19)], #[75]⟩), 73, none⟩,
 ⟨(some 21), (.indexAddr 49 (.tmp 14) (.tmp 15)), 0, none⟩,
 ⟨none, (.store 73 (.tmp 21) (.tmp 20)), 0, none⟩]))
 (.ops [
 ⟨(some 12), (.move (.tmp 4)), 3, none⟩,
 ⟨(some 13), (.binOp .add 3 (.tmp 12) (.const (.int .i64 1)) 3), 3, none⟩,
 ⟨(some 4), (.assign (.tmp 13)), 3, none⟩]))
def k21_l0 : SC := .loop k21_l0b
def k21 : SC :=
 .seq
 (.ops [
 ⟨(some 2), (.assign (.const (.slice none 0 0))), 49, none⟩])
 (.seq
 (.ops [
 ⟨(some 5), (.move (.tmp 0)), 46, none⟩,
 ⟨(some 6), (.call ⟨(.builtin .len), #[(.tmp 5)], #[46]⟩), 3, none⟩,
 ⟨(some 7), (.makeSlice 49 (.tmp 6) (.tmp 6)), 49, none⟩,
 ⟨(some 3), (.assign (.tmp 7)), 49, none⟩])
 (.seq
 (.seq
 (.ops [
 ⟨(some 4), (.assign (.const (.int .i64 0))), 3, none⟩])
 (.block 0
 k21_l0))
 (.seq
 (.ops [
 ⟨(some 22), (.move (.tmp 3)), 49, none⟩,
 ⟨(some 2), (.assign (.tmp 22)), 49, none⟩])
 .ret)))
theorem slim21 : Tryz.f21.body.map (slim lends) = some k21 := by kernel_rfl
theorem ok21 : fnOk Tryz.f21 1 = true := by kernel_rfl
theorem c21 {a l : List D} {r : D × List D} (h : wpD Y.env k21 (fin tys l.length [ResultVar.tmp 2] r) (entry a l)) (ha : a.length = 1) : Y.call 21 a l = some r :=
 call_slim (Y := Y) rfl Tryz.func21 (ha ▸ ok21) slim21 h
def l_toValueOpS_l0_M (a : List (Int × Int)) (out : List (Int × Int)) (i : Int) (s : St) : Prop := s.v 0 = D.sl 75 (cat2 .i64 .i64 a) ∧ s.v 3 = D.own 73 (cat2 .i64 .i64 out) ∧ s.v 4 = D.int .i64 i
def l_toValueOpS_l0_X (a : List (Int × Int)) (r : (List (Int × Int))) (ex : Ex) (s : St) : Prop := ex = .exit 0 ∧ s.v 3 = D.own 73 (cat2 .i64 .i64 r)
theorem l_toValueOpS_l0_wp (a : List (Int × Int)) {v : (List (Int × Int)) × Int} {s : St} {r : (List (Int × Int))} (h : l_toValueOpS_l0 a v = some r) (hM : l_toValueOpS_l0_M a v.1 v.2 s) : wpD Y.env k21_l0 (l_toValueOpS_l0_X a r) s := by
 unfold l_toValueOpS_l0 at h
 refine wd_itO (c := k21_l0b) (fun v => l_toValueOpS_l0_S a v.1 v.2) (fun v s => l_toValueOpS_l0_M a v.1 v.2 s) (l_toValueOpS_l0_X a) ?_ h hM
 clear h hM s v r
 intro v s o hM h
 obtain ⟨out, i⟩ := v
 dsimp only at h hM
 unfold l_toValueOpS_l0_S at h
 unfold l_toValueOpS_l0_M at hM
 obtain ⟨m0, m1, m2⟩ := hM
 unfold k21_l0b
 by_cases e2 : i < (a.length : Int)
 ·rw [if_pos e2] at h
  obtain ⟨e3, h⟩ := ckS h
  obtain ⟨r4_, hl4, h⟩ := bindS h
  try dsimp only at h
  have c4 := l_toValueOp_call (fstD a i.toNat) (sndD a i.toNat) hl4
  obtain ⟨e5, h⟩ := ckS h
  obtain rfl := Option.some.inj h
  simp (maxDischargeDepth := 9) only [↓xpre, xpost, xc2, xcore, yset, ↓reduceIte, Nat.reduceEqDiff, Nat.reduceAdd, m0, m1, m2, e2, e3.1, e3.2, c4, e5.2, l_toValueOpS_l0_M, sxN]
 ·rw [if_neg e2] at h
  obtain rfl := Option.some.inj h
  simp (maxDischargeDepth := 9) only [↓xpre, xpost, xc2, yset, ↓reduceIte, Nat.reduceEqDiff, m0, m1, m2, e2, l_toValueOpS_l0_M, l_toValueOpS_l0_X, sxE]
theorem l_toValueOpS_call (a : List (Int × Int)) {r : (List (Int × Int))} (h : l_toValueOpS a = some r) : Y.call 21 [D.sl 75 (cat2 .i64 .i64 a)] [] = some (D.own 73 (cat2 .i64 .i64 r), []) := by
 refine c21 ?_ rfl
 unfold k21
 unfold l_toValueOpS at h
 obtain ⟨e1, h⟩ := ckS h
 obtain ⟨r3_, hl3, h⟩ := bindS h
 try dsimp only at h
 simp (maxDischargeDepth := 9) only [↓xpre, xpost, xc2, xcore, yset, ↓reduceIte, Nat.reduceEqDiff, Nat.reduceLT, e1.1, e1.2]
 refine wd_mono (l_toValueOpS_l0_wp a hl3 ?_) ?_
 ·simp (maxDischargeDepth := 9) only [xpost, xcore, ↓reduceIte, Nat.reduceEqDiff, Nat.reduceLT, l_toValueOpS_l0_M]
 ·intro ex3 s3 hX3
  unfold l_toValueOpS_l0_X at hX3
  obtain ⟨rfl, n3_0⟩ := hX3
  obtain rfl := Option.some.inj h
  simp (maxDischargeDepth := 9) only [↓xpre, xpost, xc2, xcore, ↓reduceIte, Nat.reduceEqDiff, n3_0]

theorem l_toValueOpS_eq (a : List (Int × Int)) (h : a.length < 549755813888) : l_toValueOpS a = some a := by
 have key := itO_for (fun v => l_toValueOpS_l0_S a v.1 v.2) (fun i => (a.take i ++ List.replicate (a.length - i) (0, 0), (i : Int))) a.length a ?_ ?_
 ·unfold l_toValueOpS l_toValueOpS_l0
  rw [ckT (by omega)]
  simp only [List.take_zero, List.nil_append, Nat.sub_zero, Int.natCast_zero] at key
  rw [key]; rfl
 ·intro i hi
  simp only [l_toValueOpS_l0_S, l_toValueOp, Int.toNat_natCast]
  rw [if_pos (lt_nat hi), ckT (by omega), Option.bind_some, ckT (by simp; omega), pairD hi, set_mid a i hi (0, 0), wrS i (by omega)]
 ·simp only [l_toValueOpS_l0_S]
  rw [if_neg (not_lt_nat _)]; simp
theorem l_toValueOpS_cl (a : List (Int × Int)) (h0 : a.length < 549755813888) : Y.call 21 [D.sl 75 (cat2 .i64 .i64 a)] [] = some (D.own 73 (cat2 .i64 .i64 a), []) := l_toValueOpS_call a (l_toValueOpS_eq a h0)
noncomputable def l_eqValueOp (a_Kind : Int) (a_Value : Int) (b_Kind : Int) (b_Value : Int) : Option (Bool) :=
 if a_Kind = b_Kind then
  if a_Value = b_Value then
   some true
  else
   some false
 else
  some false
/-- laws.eqValueOp -/
def k53 : SC :=
 .seq
 (.ops [
 ⟨(some 2), (.box 73 (.tmp 0)), 0, none⟩,
 ⟨(some 3), (.box 73 (.tmp 1)), 0, none⟩,
 ⟨(some 4), (.assign (.const (.bool false))), 4, none⟩])
 (.seq
 (.seq
 (.ops [
 ⟨(some 5), (.fieldAddr 73 (.tmp 2) 0), 0, none⟩,
 ⟨(some 6), (.load 3 (.tmp 5)), 3, none⟩,
 ⟨(some 7), (.fieldAddr 73 (.tmp 3) 0), 0, none⟩,
 ⟨(some 8), (.load 3 (.tmp 7)), 3, none⟩,
 ⟨(some 9), (.binOp .neq 3 (.tmp 6) (.tmp 8) 3), 4, none⟩])
 (.cond (.tmp 9)
 (.seq
 (.ops [
 ⟨(some 4), (.assign (.const (.bool false))), 4, none⟩])
 .ret)
 .skip))
 (.seq
 (.seq
 (.ops [
 ⟨(some 10), (.fieldAddr 73 (.tmp 2) 1), 0, none⟩,
 ⟨(some 11), (.load 3 (.tmp 10)), 3, none⟩,
 ⟨(some 12), (.fieldAddr 73 (.tmp 3) 1), 0, none⟩,
 ⟨(some 13), (.load 3 (.tmp 12)), 3, none⟩,
 ⟨(some 14), (.binOp .neq 3 (.tmp 11) (.tmp 13) 3), 4, none⟩])
 (.cond (.tmp 14)
 (.seq
 (.ops [
 ⟨(some 4), (.assign (.const (.bool false))), 4, none⟩])
 .ret)
 .skip))
 (.seq
 (.ops [
 ⟨(some 4), (.assign (.const (.bool true))), 4, none⟩])
 .ret)))
theorem slim53 : Tryz.f53.body.map (slim lends) = some k53 := by kernel_rfl
theorem ok53 : fnOk Tryz.f53 2 = true := by kernel_rfl
theorem c53 {a l : List D} {r : D × List D} (h : wpD Y.env k53 (fin tys l.length [ResultVar.tmp 4] r) (entry a l)) (ha : a.length = 2) : Y.call 53 a l = some r :=
 call_slim (Y := Y) rfl Tryz.func53 (ha ▸ ok53) slim53 h
theorem l_eqValueOp_call (a_Kind : Int) (a_Value : Int) (b_Kind : Int) (b_Value : Int) {r : Bool} (h : l_eqValueOp a_Kind a_Value b_Kind b_Value = some r) : Y.call 53 [D.agg [D.int .i64 a_Kind, D.int .i64 a_Value], D.agg [D.int .i64 b_Kind, D.int .i64 b_Value]] [] = some (D.bool r, []) := by
 refine c53 ?_ rfl
 unfold k53
 unfold l_eqValueOp at h
 by_cases e1 : a_Kind = b_Kind
 ·rw [if_pos e1] at h
  by_cases e2 : a_Value = b_Value
  ·rw [if_pos e2] at h
   obtain rfl := Option.some.inj h
   simp (maxDischargeDepth := 9) only [↓xpre, xpost, xcore, yset, ↓reduceIte, Nat.reduceEqDiff, Nat.reduceLT, Nat.reduceAdd, decide_eq_true e1, decide_eq_true e2]
  ·rw [if_neg e2] at h
   obtain rfl := Option.some.inj h
   simp (maxDischargeDepth := 9) only [↓xpre, xpost, xcore, yset, ↓reduceIte, Nat.reduceEqDiff, Nat.reduceLT, Nat.reduceAdd, decide_eq_true e1, e2]
 ·rw [if_neg e1] at h
  obtain rfl := Option.some.inj h
  simp (maxDischargeDepth := 9) only [↓xpre, xpost, xcore, yset, ↓reduceIte, Nat.reduceEqDiff, Nat.reduceLT, Nat.reduceAdd, e1]

noncomputable def l_eqValueOpS_l0_S (a : List (Int × Int)) (b : List (Int × Int)) (i : Int) : Option ((Int) ⊕ (Unit ⊕ Unit)) :=
 if i < (a.length : Int) then
  ck (0 ≤ i ∧ i.toNat < a.length) <|
  ck (0 ≤ i ∧ i.toNat < b.length) <|
  (l_eqValueOp (fstD a i.toNat) (sndD a i.toNat) (fstD b i.toNat) (sndD b i.toNat)).bind fun r5_ =>
  if r5_ = true then
   some (Sum.inl (IntKind.i64.wrap (i + 1)))
  else
   some (Sum.inr (Sum.inl ()))
 else
  some (Sum.inr (Sum.inr ()))
noncomputable def l_eqValueOpS_l0 (a : List (Int × Int)) (b : List (Int × Int)) (v : Int) : Option (Unit ⊕ Unit) := itO (fun v => l_eqValueOpS_l0_S a b v) v
noncomputable def l_eqValueOpS (a : List (Int × Int)) (b : List (Int × Int)) : Option (Bool) :=
 if (a.length : Int) = (b.length : Int) then
  (l_eqValueOpS_l0 a b 0).bind fun r3_ =>
  match r3_ with
  | .inl q3_ =>
   some false
  | .inr q3_ =>
   some true
 else
  some false
/-- laws.eqValueOpS -/
def k24_l0b : SC :=
 .seq
 (.seq
 (.ops [
 ⟨(some 11), (.move (.tmp 5)), 3, none⟩,
 ⟨(some 12), (.move (.tmp 0)), 49, none⟩,
 ⟨(some 13), (.call ⟨(.builtin .len), #[(.tmp 12)], #[49]⟩), 3, none⟩,
 ⟨(some 14), (.binOp .lss 3 (.tmp 11) (.tmp 13) 3), 4, none⟩])
 (.cond (.tmp 14)
 .skip
 (.exit 0)))
 (.seq
 (.block 1
 (.seq
 (.draws [
 (⟨[17, 0, 0], [17, 18, 19, 20, 21, 22, 23, 24, 25, 26], [17]⟩, ⟨(some 17), (.move (.tmp 0)), 49, none⟩),
 (⟨[18, 5, 5], [17, 18, 19, 20, 21, 22, 23, 24, 25, 26], [18]⟩, ⟨(some 18), (.move (.tmp 5)), 3, none⟩),
 (⟨[19, 17, 18, 0, 5], [17, 18, 19, 20, 21, 22, 23, 24, 25, 26], [19]⟩, ⟨(some 19), (.indexAddr 49 (.tmp 17) (.tmp 18)), 0, none⟩),
 (⟨[20, 19, 0], [17, 18, 19, 20, 21, 22, 23, 24, 25, 26], [20]⟩, ⟨(some 20), (.load 73 (.tmp 19)), 73, none⟩),
 (⟨[21, 1, 1], [17, 18, 19, 20, 21, 22, 23, 24, 25, 26], [21]⟩, ⟨(some 21), (.move (.tmp 1)), 49, none⟩),
 (⟨[22, 5, 5], [17, 18, 19, 20, 21, 22, 23, 24, 25, 26], [22]⟩, ⟨(some 22), (.move (.tmp 5)), 3, none⟩),
 (⟨[23, 21, 22, 1, 5], [17, 18, 19, 20, 21, 22, 23, 24, 25, 26], [23]⟩, ⟨(some 23), (.indexAddr 49 (.tmp 21) (.tmp 22)), 0, none⟩),
 (⟨[24, 23, 1], [17, 18, 19, 20, 21, 22, 23, 24, 25, 26], [24]⟩, ⟨(some 24), (.load 73 (.tmp 23)), 73, none⟩),
 (⟨[25, 20, 24, 0, 1], [17, 18, 19, 20, 21, 22, 23, 24, 25, 26], [25]⟩, ⟨(some 25), (.call ⟨(.value (.func 53)), #[(.tmp 20), (.tmp 24)], #[73, 73]⟩), 4, none⟩),
 (⟨[26, 25, 25], [17, 18, 19, 20, 21, 22, 23, 24, 25, 26], [26]⟩, ⟨(some 26), (.unOp .not 4 (.tmp 25)), 4, none⟩)])
 (.cond (.tmp 26)
 (.seq
 (.ops [
 ⟨(some 4), (.assign (.const (.bool false))), 4, none⟩])
 .ret)
 .skip)))
 (.ops [
 ⟨(some 15), (.move (.tmp 5)), 3, none⟩,
 ⟨(some 16), (.binOp .add 3 (.tmp 15) (.const (.int .i64 1)) 3), 3, none⟩,
 ⟨(some 5), (.assign (.tmp 16)), 3, none⟩]))
def k24_l0 : SC := .loop k24_l0b
def k24 : SC :=
 .seq
 (.ops [
 ⟨(some 4), (.assign (.const (.bool false))), 4, none⟩])
 (.seq
 (.seq
 (.ops [
 ⟨(some 6), (.move (.tmp 0)), 49, none⟩,
 ⟨(some 7), (.call ⟨(.builtin .len), #[(.tmp 6)], #[49]⟩), 3, none⟩,
 ⟨(some 8), (.move (.tmp 1)), 49, none⟩,
 ⟨(some 9), (.call ⟨(.builtin .len), #[(.tmp 8)], #[49]⟩), 3, none⟩,
 ⟨(some 10), (.binOp .neq 3 (.tmp 7) (.tmp 9) 3), 4, none⟩])
 (.cond (.tmp 10)
 (.seq
 (.ops [
 ⟨(some 4), (.assign (.const (.bool false))), 4, none⟩])
 .ret)
 .skip))
 (.seq
 (.seq
 (.ops [
 ⟨(some 5), (.assign (.const (.int .i64 0))), 3, none⟩])
 (.block 0
 k24_l0))
 (.seq
 (.ops [
 ⟨(some 4), (.assign (.const (.bool true))), 4, none⟩])
 .ret)))
theorem slim24 : Tryz.f24.body.map (slim lends) = some k24 := by kernel_rfl
theorem ok24 : fnOk Tryz.f24 2 = true := by kernel_rfl
theorem c24 {a l : List D} {r : D × List D} (h : wpD Y.env k24 (fin tys l.length [ResultVar.tmp 4] r) (entry a l)) (ha : a.length = 2) : Y.call 24 a l = some r :=
 call_slim (Y := Y) rfl Tryz.func24 (ha ▸ ok24) slim24 h
def l_eqValueOpS_l0_M (a : List (Int × Int)) (b : List (Int × Int)) (i : Int) (s : St) : Prop := s.v 0 = D.sl 73 (cat2 .i64 .i64 a) ∧ s.v 1 = D.sl 73 (cat2 .i64 .i64 b) ∧ s.v 5 = D.int .i64 i
def l_eqValueOpS_l0_X (a : List (Int × Int)) (b : List (Int × Int)) (r : Unit ⊕ Unit) (ex : Ex) (s : St) : Prop := match r with
 | .inl q => ex = .ret ∧ s.v 4 = D.bool false
 | .inr q => ex = .exit 0
theorem l_eqValueOpS_l0_wp (a : List (Int × Int)) (b : List (Int × Int)) {v : Int} {s : St} {r : Unit ⊕ Unit} (h : l_eqValueOpS_l0 a b v = some r) (hM : l_eqValueOpS_l0_M a b v s) : wpD Y.env k24_l0 (l_eqValueOpS_l0_X a b r) s := by
 unfold l_eqValueOpS_l0 at h
 refine wd_itO (c := k24_l0b) (fun v => l_eqValueOpS_l0_S a b v) (fun v s => l_eqValueOpS_l0_M a b v s) (l_eqValueOpS_l0_X a b) ?_ h hM
 clear h hM s v r
 intro i s o hM h
 unfold l_eqValueOpS_l0_S at h
 unfold l_eqValueOpS_l0_M at hM
 obtain ⟨m0, m1, m2⟩ := hM
 unfold k24_l0b
 by_cases e2 : i < (a.length : Int)
 ·rw [if_pos e2] at h
  obtain ⟨e3, h⟩ := ckS h
  obtain ⟨e4, h⟩ := ckS h
  obtain ⟨r5_, hl5, h⟩ := bindS h
  try dsimp only at h
  have c5 := l_eqValueOp_call (fstD a i.toNat) (sndD a i.toNat) (fstD b i.toNat) (sndD b i.toNat) hl5
  by_cases e6 : r5_ = true
  ·rw [if_pos e6] at h
   obtain rfl := Option.some.inj h
   simp (maxDischargeDepth := 9) only [↓xpre, xpost, xc2, xcore, yset, ↓reduceIte, Nat.reduceEqDiff, Nat.reduceAdd, m0, m1, m2, e2, e3.1, e3.2, e4.2, c5, e6, l_eqValueOpS_l0_M, sxN]
  ·rw [if_neg e6] at h
   have e6f : r5_ = false := Bool.eq_false_iff.mpr e6
   obtain rfl := Option.some.inj h
   simp (maxDischargeDepth := 9) only [↓xpre, xpost, xc2, xcore, yset, ↓reduceIte, Nat.reduceEqDiff, Nat.reduceAdd, m0, m1, m2, e2, e3.1, e3.2, e4.2, c5, e6f, l_eqValueOpS_l0_M, l_eqValueOpS_l0_X, sxR]
 ·rw [if_neg e2] at h
  obtain rfl := Option.some.inj h
  simp (maxDischargeDepth := 9) only [↓xpre, xpost, xc2, yset, ↓reduceIte, Nat.reduceEqDiff, m0, m2, e2, l_eqValueOpS_l0_M, l_eqValueOpS_l0_X, sxE]
theorem l_eqValueOpS_call (a : List (Int × Int)) (b : List (Int × Int)) {r : Bool} (h : l_eqValueOpS a b = some r) : Y.call 24 [D.sl 73 (cat2 .i64 .i64 a), D.sl 73 (cat2 .i64 .i64 b)] [] = some (D.bool r, []) := by
 refine c24 ?_ rfl
 unfold k24
 unfold l_eqValueOpS at h
 by_cases e1 : (a.length : Int) = (b.length : Int)
 ·rw [if_pos e1] at h
  obtain ⟨r3_, hl3, h⟩ := bindS h
  try dsimp only at h
  simp (maxDischargeDepth := 9) only [↓xpre, xpost, xc2, xcore, yset, ↓reduceIte, Nat.reduceEqDiff, Nat.reduceLT, decide_eq_true e1]
  refine wd_mono (l_eqValueOpS_l0_wp a b hl3 ?_) ?_
  ·simp (maxDischargeDepth := 9) only [xpost, xcore, ↓reduceIte, Nat.reduceEqDiff, Nat.reduceLT, l_eqValueOpS_l0_M]
  ·intro ex3 s3 hX3
   rcases r3_ with q3_ | q3_
   ·unfold l_eqValueOpS_l0_X at hX3
    dsimp only at hX3 h
    obtain ⟨rfl, n3_0⟩ := hX3
    obtain rfl := Option.some.inj h
    simp (maxDischargeDepth := 9) only [↓xpre, xpost, xcore, ↓reduceIte, n3_0]
   ·unfold l_eqValueOpS_l0_X at hX3
    dsimp only at hX3 h
    obtain rfl := hX3
    obtain rfl := Option.some.inj h
    simp (maxDischargeDepth := 9) only [↓xpre, xpost, xcore, yset, ↓reduceIte, Nat.reduceEqDiff]
 ·rw [if_neg e1] at h
  obtain rfl := Option.some.inj h
  simp (maxDischargeDepth := 9) only [↓xpre, xpost, xc2, xcore, yset, ↓reduceIte, Nat.reduceEqDiff, Nat.reduceLT, e1]

theorem l_eqValueOp_eq (a b c d : Int) : l_eqValueOp a b c d = some (decide ((a, b) = (c, d))) := by
 unfold l_eqValueOp
 by_cases h1 : a = c <;> by_cases h2 : b = d <;> simp [h1, h2]
theorem l_eqValueOpS_eq (a b : List (Int × Int)) (ha : a.length < 549755813888) : l_eqValueOpS a b = some (decide (a = b)) := by
 unfold l_eqValueOpS l_eqValueOpS_l0
 by_cases hl : a.length = b.length
 ·rw [if_pos (by omega)]
  have key := itO_all (fun v => l_eqValueOpS_l0_S a b v) (fun i => (i : Int)) a.length (fun i => decide (a.getD i default = b.getD i default)) (.inl ()) (.inr ()) ?_ ?_
  ·simp only [Int.natCast_zero] at key
   rw [key, all_same a b hl]
   by_cases he : a = b <;> simp [he]
  ·intro i hi
   simp only [l_eqValueOpS_l0_S, Int.toNat_natCast]
   rw [if_pos (lt_nat hi), ckT (by omega), ckT (by omega), l_eqValueOp_eq, Option.bind_some, wrS i (by omega)]
   rfl
  ·simp only [l_eqValueOpS_l0_S]
   rw [if_neg (not_lt_nat _)]
 ·rw [if_neg (by omega)]
  have : ¬ a = b := fun e => hl (by rw [e])
  simp [this]
theorem l_eqValueOpS_cl (a : List (Int × Int)) (b : List (Int × Int)) (h0 : a.length < 549755813888) : Y.call 24 [D.sl 73 (cat2 .i64 .i64 a), D.sl 73 (cat2 .i64 .i64 b)] [] = some (D.bool (decide (a = b)), []) := l_eqValueOpS_call a b (l_eqValueOpS_eq a b h0)
noncomputable def l_szValueOpS (a : List (Int × Int)) (left : Int) : Option (Int) :=
 if (IntKind.i64.wrap (left - (a.length : Int))) < 0 then
  some (-1)
 else
  some (IntKind.i64.wrap (left - (a.length : Int)))
/-- laws.szValueOpS -/
def k19 : SC :=
 .seq
 (.ops [
 ⟨(some 4), (.assign (.const (.int .i64 0))), 3, none⟩])
 (.seq
 (.ops [
 ⟨(some 5), (.move (.tmp 1)), 3, none⟩,
 ⟨(some 6), (.move (.tmp 0)), 46, none⟩,
 ⟨(some 7), (.call ⟨(.builtin .len), #[(.tmp 6)], #[46]⟩), 3, none⟩,
 ⟨(some 8), (.binOp .sub 3 (.tmp 5) (.tmp 7) 3), 3, none⟩,
 ⟨(some 1), (.assign (.tmp 8)), 3, none⟩])
 (.seq
 (.seq
 (.ops [
 ⟨(some 9), (.move (.tmp 1)), 3, none⟩,
 ⟨(some 10), (.binOp .lss 3 (.tmp 9) (.const (.int .i64 0)) 3), 4, none⟩])
 (.cond (.tmp 10)
 (.seq
 (.ops [
 ⟨(some 4), (.assign (.const (.int .i64 (-1)))), 3, none⟩])
 .ret)
 .skip))
 (.seq
 (.ops [
 ⟨(some 11), (.move (.tmp 1)), 3, none⟩,
 ⟨(some 4), (.assign (.tmp 11)), 3, none⟩])
 .ret)))
theorem slim19 : Tryz.f19.body.map (slim lends) = some k19 := by kernel_rfl
theorem ok19 : fnOk Tryz.f19 2 = true := by kernel_rfl
theorem c19 {a l : List D} {r : D × List D} (h : wpD Y.env k19 (fin tys l.length [ResultVar.tmp 4] r) (entry a l)) (ha : a.length = 2) : Y.call 19 a l = some r :=
 call_slim (Y := Y) rfl Tryz.func19 (ha ▸ ok19) slim19 h
theorem l_szValueOpS_call (a : List (Int × Int)) (left : Int) {r : Int} (h : l_szValueOpS a left = some r) : Y.call 19 [D.sl 75 (cat2 .i64 .i64 a), D.int .i64 left] [] = some (D.int .i64 r, []) := by
 refine c19 ?_ rfl
 unfold k19
 unfold l_szValueOpS at h
 by_cases e1 : (IntKind.i64.wrap (left - (a.length : Int))) < 0
 ·rw [if_pos e1] at h
  obtain rfl := Option.some.inj h
  simp (maxDischargeDepth := 9) only [↓xpre, xpost, xc2, xcore, yset, ↓reduceIte, Nat.reduceEqDiff, Nat.reduceLT, Int.reduceNeg, e1]
 ·rw [if_neg e1] at h
  obtain rfl := Option.some.inj h
  simp (maxDischargeDepth := 9) only [↓xpre, xpost, xc2, xcore, yset, ↓reduceIte, Nat.reduceEqDiff, Nat.reduceLT, Int.reduceNeg, e1]

theorem l_szValueOpS_eq (a : List (Int × Int)) (left : Int) (ha : a.length < 9223372036854775808) (hl : 0 ≤ left ∧ left ≤ 1048576) : l_szValueOpS a left = some (szN left a.length) := by
 unfold l_szValueOpS szN
 rw [wr64 _ (by omega)]
 split <;> rfl
theorem l_szValueOpS_cl (a : List (Int × Int)) (left : Int) (h0 : a.length < 9223372036854775808) (h1 : 0 ≤ left ∧ left ≤ 1048576) : Y.call 19 [D.sl 75 (cat2 .i64 .i64 a), D.int .i64 left] [] = some (D.int .i64 (szN left a.length), []) := l_szValueOpS_call a left (l_szValueOpS_eq a left h0 h1)
noncomputable def l_markValueOpS_l0_S (k : Int) (k1 : Int) (i : Int) (t100000_ : List (Int × Int)) : Option ((Int × Int × (List (Int × Int))) ⊕ (Int × (List (Int × Int)))) :=
 if i < (t100000_.length : Int) then
  ck (0 ≤ i ∧ i.toNat < t100000_.length) <|
  ck (0 ≤ i ∧ i.toNat < (t100000_.set i.toNat (k1, (sndD t100000_ i.toNat))).length) <|
  some (Sum.inl (IntKind.i64.wrap ((IntKind.i64.wrap (k1 + 1)) + 1), IntKind.i64.wrap (i + 1), ((t100000_.set i.toNat (k1, (sndD t100000_ i.toNat))).set i.toNat ((fstD (t100000_.set i.toNat (k1, (sndD t100000_ i.toNat))) i.toNat), IntKind.i64.wrap (k1 + 1)))))
 else
  some (Sum.inr (k1, t100000_))
noncomputable def l_markValueOpS_l0 (k : Int) (v : Int × Int × (List (Int × Int))) : Option (Int × (List (Int × Int))) := itO (fun v => l_markValueOpS_l0_S k v.1 v.2.1 v.2.2) v
noncomputable def l_markValueOpS (a : List (Int × Int)) (k : Int) : Option (Int × (List (Int × Int))) :=
 (l_markValueOpS_l0 k (k, 0, a)).bind fun r2_ =>
 some (r2_.1, r2_.2)
/-- laws.markValueOpS -/
def k26_l0b : SC :=
 .seq
 (.seq
 (.ops [
 ⟨(some 6), (.move (.tmp 5)), 3, none⟩,
 ⟨(some 7), (.move (.tmp 0)), 49, none⟩,
 ⟨(some 8), (.call ⟨(.builtin .len), #[(.tmp 7)], #[49]⟩), 3, none⟩,
 ⟨(some 9), (.binOp .lss 3 (.tmp 6) (.tmp 8) 3), 4, none⟩])
 (.cond (.tmp 9)
 .skip
 (.exit 0)))
 (.seq
 (.block 1
 (.seq
 (.ops [
 ⟨(some 12), (.move (.tmp 0)), 49, none⟩,
 ⟨(some 13), (.move (.tmp 5)), 3, none⟩,
 ⟨(some 14), (.move (.tmp 1)), 3, none⟩,
 ⟨(some 15), (.indexAddr 49 (.tmp 12) (.tmp 13)), 0, none⟩,
 ⟨(some 16), (.fieldAddr 73 (.tmp 15) 0), 0, none⟩,
 ⟨none, (.store 3 (.tmp 16) (.tmp 14)), 0, none⟩])
 (.seq
 (.ops [
 ⟨(some 17), (.move (.tmp 1)), 3, none⟩,
 ⟨(some 18), (.binOp .add 3 (.tmp 17) (.const (.int .i64 1)) 3), 3, none⟩,
 ⟨(some 1), (.assign (.tmp 18)), 3, none⟩])
 (.seq
 (.ops [
 ⟨(some 19), (.move (.tmp 0)), 49, none⟩,
 ⟨(some 20), (.move (.tmp 5)), 3, none⟩,
 ⟨(some 21), (.move (.tmp 1)), 3, none⟩,
 ⟨(some 22), (.indexAddr 49 (.tmp 19) (.tmp 20)), 0, none⟩,
 ⟨(some 23), (.fieldAddr 73 (.tmp 22) 1), 0, none⟩,
 ⟨none, (.store 3 (.tmp 23) (.tmp 21)), 0, none⟩])
 (.ops [
 ⟨(some 24), (.move (.tmp 1)), 3, none⟩,
 ⟨(some 25), (.binOp .add 3 (.tmp 24) (.const (.int .i64 1)) 3), 3, none⟩,
 ⟨(some 1), (.assign (.tmp 25)), 3, none⟩])))))
 (.ops [
 ⟨(some 10), (.move (.tmp 5)), 3, none⟩,
 ⟨(some 11), (.binOp .add 3 (.tmp 10) (.const (.int .i64 1)) 3), 3, none⟩,
 ⟨(some 5), (.assign (.tmp 11)), 3, none⟩]))
def k26_l0 : SC := .loop k26_l0b
def k26 : SC :=
 .seq
 (.ops [
 ⟨(some 4), (.assign (.const (.int .i64 0))), 3, none⟩])
 (.seq
 (.seq
 (.ops [
 ⟨(some 5), (.assign (.const (.int .i64 0))), 3, none⟩])
 (.block 0
 k26_l0))
 (.seq
 (.ops [
 ⟨(some 26), (.move (.tmp 1)), 3, none⟩,
 ⟨(some 4), (.assign (.tmp 26)), 3, none⟩])
 .ret))
theorem slim26 : Tryz.f26.body.map (slim lends) = some k26 := by kernel_rfl
theorem ok26 : fnOk Tryz.f26 2 = true := by kernel_rfl
theorem c26 {a l : List D} {r : D × List D} (h : wpD Y.env k26 (fin tys l.length [ResultVar.tmp 4] r) (entry a l)) (ha : a.length = 2) : Y.call 26 a l = some r :=
 call_slim (Y := Y) rfl Tryz.func26 (ha ▸ ok26) slim26 h
def l_markValueOpS_l0_M (k : Int) (k1 : Int) (i : Int) (t100000_ : List (Int × Int)) (s : St) : Prop := (∃ w_, s.v 0 = D.vw [100000] (s.k 100000) w_) ∧ s.v 1 = D.int .i64 k1 ∧ s.v 5 = D.int .i64 i ∧ s.v 100000 = D.own 73 (cat2 .i64 .i64 t100000_)
def l_markValueOpS_l0_X (k : Int) (r : Int × (List (Int × Int))) (ex : Ex) (s : St) : Prop := ex = .exit 0 ∧ s.v 1 = D.int .i64 r.1 ∧ s.v 100000 = D.own 73 (cat2 .i64 .i64 r.2)
theorem l_markValueOpS_l0_wp (k : Int) {v : Int × Int × (List (Int × Int))} {s : St} {r : Int × (List (Int × Int))} (h : l_markValueOpS_l0 k v = some r) (hM : l_markValueOpS_l0_M k v.1 v.2.1 v.2.2 s) : wpD Y.env k26_l0 (l_markValueOpS_l0_X k r) s := by
 unfold l_markValueOpS_l0 at h
 refine wd_itO (c := k26_l0b) (fun v => l_markValueOpS_l0_S k v.1 v.2.1 v.2.2) (fun v s => l_markValueOpS_l0_M k v.1 v.2.1 v.2.2 s) (l_markValueOpS_l0_X k) ?_ h hM
 clear h hM s v r
 intro v s o hM h
 obtain ⟨k1, i, t100000_⟩ := v
 dsimp only at h hM
 unfold l_markValueOpS_l0_S at h
 unfold l_markValueOpS_l0_M at hM
 obtain ⟨⟨w0_, m0⟩, m1, m2, m3⟩ := hM
 unfold k26_l0b
 by_cases e1 : i < (t100000_.length : Int)
 ·rw [if_pos e1] at h
  obtain ⟨e2, h⟩ := ckS h
  obtain ⟨e3, h⟩ := ckS h
  obtain rfl := Option.some.inj h
  simp (maxDischargeDepth := 9) only [↓xpre, xpost, xc2, xcore, yset, ↓reduceIte, Nat.reduceEqDiff, Nat.reduceLT, m0, m1, m2, m3, e1, e2.1, e2.2, l_markValueOpS_l0_M, sxN] <;> (repeat' apply And.intro) <;> first | rfl | exact ⟨_, rfl⟩ | simp [lst, cat2_nil]
 ·rw [if_neg e1] at h
  obtain rfl := Option.some.inj h
  simp (maxDischargeDepth := 9) only [↓xpre, xpost, xc2, xcore, yset, ↓reduceIte, Nat.reduceEqDiff, m0, m1, m2, m3, e1, l_markValueOpS_l0_M, l_markValueOpS_l0_X, sxE]
theorem l_markValueOpS_call (a : List (Int × Int)) (k : Int) {r : Int × (List (Int × Int))} (h : l_markValueOpS a k = some r) : Y.call 26 [D.vw [100000] 0 0, D.int .i64 k] [D.own 73 (cat2 .i64 .i64 a)] = some (D.int .i64 r.1, [D.own 73 (cat2 .i64 .i64 r.2)]) := by
 refine c26 ?_ rfl
 unfold k26
 unfold l_markValueOpS at h
 obtain ⟨r2_, hl2, h⟩ := bindS h
 try dsimp only at h
 simp (maxDischargeDepth := 9) only [↓xpre, xpost, xcore, yset, ↓reduceIte, Nat.reduceEqDiff, Nat.reduceAdd]
 refine wd_mono (l_markValueOpS_l0_wp k hl2 ?_) ?_
 ·simp (maxDischargeDepth := 9) only [xpost, xcore, ↓reduceIte, Nat.reduceEqDiff, Nat.reduceLT, Nat.reduceSub, l_markValueOpS_l0_M] <;> (repeat' apply And.intro) <;> first | rfl | exact ⟨_, rfl⟩ | simp [lst, cat2_nil]
 ·intro ex2 s2 hX2
  unfold l_markValueOpS_l0_X at hX2
  obtain ⟨rfl, n2_0, n2_1⟩ := hX2
  obtain rfl := Option.some.inj h
  simp (maxDischargeDepth := 9) only [↓xpre, xpost, xc2, xcore, ↓reduceIte, Nat.reduceEqDiff, n2_0, n2_1]

theorem l_markValueOpS_eq (a : List (Int × Int)) (k : Int) (ha : a.length < 549755813888) (hk : 0 ≤ k ∧ k + 2 * (a.length : Int) < 1099511627776) : l_markValueOpS a k = some (k + 2 * (a.length : Int), prs k a.length) := by
 have key := itO_for (fun v => l_markValueOpS_l0_S k v.1 v.2.1 v.2.2) (fun i => (k + 2 * (i : Int), (i : Int), prs k i ++ a.drop i)) a.length (k + 2 * (a.length : Int), prs k a.length) ?_ ?_
 ·unfold l_markValueOpS l_markValueOpS_l0
  have e0 : prs k 0 = [] := rfl
  simp only [Int.natCast_zero, Int.mul_zero, Int.add_zero, List.drop_zero, e0, List.nil_append] at key
  rw [key]; rfl
 ·intro i hi
  simp only [l_markValueOpS_l0_S]
  have el : (prs k i ++ a.drop i).length = a.length := by simp [prs_len]; omega
  rw [el, if_pos (lt_nat hi), ckT (ix_nat hi), Int.toNat_natCast, ckT (by rw [List.length_set, el]; omega), fstD_set _ _ _ (by rw [el]; exact hi), List.set_set, wrS i (by omega), wr64 (k + 2 * (i : Int) + 1) (by omega), wr64 (k + 2 * (i : Int) + 1 + 1) (by omega), set_at _ _ _ _ (prs_len k i) hi, ← prs_succ]
  rw [show k + 2 * (i : Int) + 1 + 1 = k + 2 * ((i + 1 : Nat) : Int) by omega]
 ·simp only [l_markValueOpS_l0_S]
  have el : (prs k a.length ++ a.drop a.length).length = a.length := by simp [prs_len]
  rw [el, if_neg (not_lt_nat _)]; simp
theorem l_markValueOpS_cl (a : List (Int × Int)) (k : Int) (h0 : a.length < 549755813888) (h1 : 0 ≤ k ∧ k + 2 * (a.length : Int) < 1099511627776) : Y.call 26 [D.vw [100000] 0 0, D.int .i64 k] [D.own 73 (cat2 .i64 .i64 a)] = some (D.int .i64 (k + 2 * (a.length : Int)), [D.own 73 (cat2 .i64 .i64 (prs k a.length))]) := l_markValueOpS_call a k (l_markValueOpS_eq a k h0 h1)

end Go.Proofs.YtjkgcfdcfjkkbaaGreat
