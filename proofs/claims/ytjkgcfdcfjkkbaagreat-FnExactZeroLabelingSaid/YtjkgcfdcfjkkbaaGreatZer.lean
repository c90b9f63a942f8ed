/- Bad pairs of configurations, as plain functions; the first configuration without one; laws. Conditions: none. -/
import Derived.Test.YtjkgcfdcfjkkbaaGreatL6
import Derived.Test.YtjkgcfdcfjkkbaaGreatEdg
import Derived.Test.YtjkgcfdcfjkkbaaGreatFst
namespace Go.Proofs.YtjkgcfdcfjkkbaaGreat
open Go Dv
set_option linter.unusedSimpArgs false
set_option linter.unusedVariables false
set_option maxRecDepth 100000
set_option maxHeartbeats 4000000

/-- The first place in y that does not go with x's place i. -/
def badAt (es : List (List Int)) (x y : List Int) (i : Nat) : Option Nat := firstIx y.length fun j => !hasE es (x.getD i default) (y.getD j default)
/-- The first bad pair of places. -/
def badOf (es : List (List Int)) (x y : List Int) : Option (Nat × Nat) := (firstIx x.length fun i => (badAt es x y i).isSome).map fun i => (i, (badAt es x y i).getD 0)
noncomputable def i_badPair_l0_S (p_Labels : Int) (p_Degree : Int) (p_Nodes : List (List Int)) (p_Edges : List (List Int)) (x_ : List Int) (y : List Int) (t14_ : Int) (t20_ : Int) : Option ((Int) ⊕ (((List Int)) ⊕ Unit)) :=
  if t20_ < (y.length : Int) then
    ck (0 ≤ t20_ ∧ t20_.toNat < y.length) <|
    ck (Short p_Edges) <|
    ck (incL p_Edges = true) <|
    if (hasE p_Edges (x_.getD t14_.toNat default) (y.getD t20_.toNat default)) = true then
      some (Sum.inl (IntKind.i64.wrap (t20_ + 1)))
    else
      some (Sum.inr (Sum.inl [(x_.getD t14_.toNat default), (y.getD t20_.toNat default)]))
  else
    some (Sum.inr (Sum.inr ()))
noncomputable def i_badPair_l0 (p_Labels : Int) (p_Degree : Int) (p_Nodes : List (List Int)) (p_Edges : List (List Int)) (x_ : List Int) (y : List Int) (t14_ : Int) (v : Int) : Option (((List Int)) ⊕ Unit) := itO (fun v => i_badPair_l0_S p_Labels p_Degree p_Nodes p_Edges x_ y t14_ v) v
noncomputable def i_badPair_l1_S (p_Labels : Int) (p_Degree : Int) (p_Nodes : List (List Int)) (p_Edges : List (List Int)) (x_ : List Int) (y : List Int) (t14_ : Int) : Option ((Int) ⊕ (((List Int)) ⊕ Unit)) :=
  if t14_ < (x_.length : Int) then
    ck (0 ≤ t14_ ∧ t14_.toNat < x_.length) <|
    (i_badPair_l0 p_Labels p_Degree p_Nodes p_Edges x_ y t14_ 0).bind fun r4_ =>
    match r4_ with
    | .inl q4_ =>
      some (Sum.inr (Sum.inl q4_))
    | .inr q4_ =>
      some (Sum.inl (IntKind.i64.wrap (t14_ + 1)))
  else
    some (Sum.inr (Sum.inr ()))
noncomputable def i_badPair_l1 (p_Labels : Int) (p_Degree : Int) (p_Nodes : List (List Int)) (p_Edges : List (List Int)) (x_ : List Int) (y : List Int) (v : Int) : Option (((List Int)) ⊕ Unit) := itO (fun v => i_badPair_l1_S p_Labels p_Degree p_Nodes p_Edges x_ y v) v
noncomputable def i_badPair (p_Labels : Int) (p_Degree : Int) (p_Nodes : List (List Int)) (p_Edges : List (List Int)) (x_ : List Int) (y : List Int) : Option ((List Int) × Bool) :=
  (i_badPair_l1 p_Labels p_Degree p_Nodes p_Edges x_ y 0).bind fun r2_ =>
  match r2_ with
  | .inl q2_ =>
    some (q2_, true)
  | .inr q2_ =>
    some ([], false)
/-- impl.badPair -/
def k83_l0b : SC :=
 .seq
 (.ops [
 ⟨(some 21), (.binOp .lss 3 (.tmp 20) (.tmp 19) 3), 0, none⟩])
 (.seq
 (.cond (.tmp 21)
 .skip
 (.exit 2))
 (.seq
 (.block 3
 (.seq
 (.ops [
 ⟨(some 22), (.indexAddr 26 (.tmp 18) (.tmp 20)), 0, none⟩,
 ⟨(some 23), (.load 3 (.tmp 22)), 3, none⟩,
 ⟨(some 11), (.assign (.tmp 23)), 3, none⟩])
 (.seq
 (.ops [
 ⟨(some 24), (.load 33 (.tmp 3)), 33, none⟩,
 ⟨(some 25), (.move (.tmp 9)), 3, none⟩,
 ⟨(some 26), (.move (.tmp 11)), 3, none⟩,
 ⟨(some 27), (.call ⟨(.value (.func 102)), #[(.tmp 24), (.tmp 25), (.tmp 26)], #[33, 3, 3]⟩), 4, none⟩,
 ⟨(some 28), (.unOp .not 4 (.tmp 27)), 4, none⟩])
 (.cond (.tmp 28)
 (.seq
 (.ops [
 ⟨(some 29), (.move (.tmp 9)), 3, none⟩,
 ⟨(some 30), (.move (.tmp 11)), 3, none⟩,
 ⟨(some 31), (.buildSlice 26 2 #[(0, (.tmp 29)), (1, (.tmp 30))]), 26, none⟩,
 ⟨(some 6), (.assign (.tmp 31)), 26, none⟩,
 ⟨(some 7), (.assign (.const (.bool true))), 4, none⟩])
 .ret)
 .skip))))
 (.ops [
 ⟨(some 32), (.binOp .add 3 (.tmp 20) (.const (.int .i64 1)) 3), 3, none⟩,
 ⟨(some 20), (.move (.tmp 32)), 3, none⟩])))
def k83_l0 : SC := .loop k83_l0b
def k83_l1b : SC :=
 .seq
 (.ops [
 ⟨(some 15), (.binOp .lss 3 (.tmp 14) (.tmp 13) 3), 0, none⟩])
 (.seq
 (.cond (.tmp 15)
 .skip
 (.exit 0))
 (.seq
 (.block 1
 (.seq
 (.ops [
 ⟨(some 16), (.indexAddr 26 (.tmp 12) (.tmp 14)), 0, none⟩,
 ⟨(some 17), (.load 3 (.tmp 16)), 3, none⟩,
 ⟨(some 9), (.assign (.tmp 17)), 3, none⟩])
 (.seq
 (.ops [
 ⟨(some 18), (.move (.tmp 2)), 26, none⟩,
 ⟨(some 19), (.call ⟨(.builtin .len), #[(.tmp 18)], #[26]⟩), 3, none⟩,
 ⟨(some 20), (.move (.const (.int .i64 0))), 3, none⟩])
 (.block 2
 k83_l0))))
 (.ops [
 ⟨(some 33), (.binOp .add 3 (.tmp 14) (.const (.int .i64 1)) 3), 3, none⟩,
 ⟨(some 14), (.move (.tmp 33)), 3, none⟩])))
def k83_l1 : SC := .loop k83_l1b
def k83 : SC :=
 .seq
 (.ops [
 ⟨(some 3), (.box 33 (.tmp 0)), 0, none⟩,
 ⟨(some 6), (.assign (.const (.slice none 0 0))), 26, none⟩,
 ⟨(some 7), (.assign (.const (.bool false))), 4, none⟩])
 (.seq
 (.seq
 (.ops [
 ⟨(some 12), (.move (.tmp 1)), 26, none⟩,
 ⟨(some 13), (.call ⟨(.builtin .len), #[(.tmp 12)], #[26]⟩), 3, none⟩,
 ⟨(some 14), (.move (.const (.int .i64 0))), 3, none⟩])
 (.block 0
 k83_l1))
 (.seq
 (.ops [
 ⟨(some 6), (.assign (.const (.slice none 0 0))), 26, none⟩,
 ⟨(some 7), (.assign (.const (.bool false))), 4, none⟩])
 .ret))
theorem slim83 : Tryz.f83.body.map (slim lends) = some k83 := by kernel_rfl
theorem ok83 : fnOk Tryz.f83 3 = true := by kernel_rfl
theorem c83 {a l : List D} {r : D × List D} (h : wpD Y.env k83 (fin tys l.length [ResultVar.tmp 6, ResultVar.tmp 7] r) (entry a l)) (ha : a.length = 3) : Y.call 83 a l = some r :=
  call_slim (Y := Y) rfl Tryz.func83 (ha ▸ ok83) slim83 h
def i_badPair_l0_M (p_Labels : Int) (p_Degree : Int) (p_Nodes : List (List Int)) (p_Edges : List (List Int)) (x_ : List Int) (y : List Int) (t14_ : Int) (t20_ : Int) (s : St) : Prop := s.v 2 = D.sl 3 (lst (D.int .i64) y) ∧ s.v 3 = D.box [D.int .i64 p_Labels, D.int .i64 p_Degree, D.sl 26 (lst (fun x => D.sl 3 (lst (D.int .i64) x)) p_Nodes), D.sl 26 (lst (fun x => D.sl 3 (lst (D.int .i64) x)) p_Edges)] ∧ s.v 9 = D.int .i64 (x_.getD t14_.toNat default) ∧ s.v 12 = D.sl 3 (lst (D.int .i64) x_) ∧ s.v 13 = D.int .i64 (x_.length : Int) ∧ s.v 14 = D.int .i64 t14_ ∧ s.v 18 = D.sl 3 (lst (D.int .i64) y) ∧ s.v 19 = D.int .i64 (y.length : Int) ∧ s.v 20 = D.int .i64 t20_
def i_badPair_l0_X (p_Labels : Int) (p_Degree : Int) (p_Nodes : List (List Int)) (p_Edges : List (List Int)) (x_ : List Int) (y : List Int) (t14_ : Int) (r : ((List Int)) ⊕ Unit) (ex : Ex) (s : St) : Prop := match r with
  | .inl q => ex = .ret ∧ s.v 6 = D.own 3 (lst (D.int .i64) q) ∧ s.v 7 = D.bool true
  | .inr q => ex = .exit 2 ∧ s.v 2 = D.sl 3 (lst (D.int .i64) y) ∧ s.v 3 = D.box [D.int .i64 p_Labels, D.int .i64 p_Degree, D.sl 26 (lst (fun x => D.sl 3 (lst (D.int .i64) x)) p_Nodes), D.sl 26 (lst (fun x => D.sl 3 (lst (D.int .i64) x)) p_Edges)] ∧ s.v 12 = D.sl 3 (lst (D.int .i64) x_) ∧ s.v 13 = D.int .i64 (x_.length : Int) ∧ s.v 14 = D.int .i64 t14_
theorem i_badPair_l0_wp (p_Labels : Int) (p_Degree : Int) (p_Nodes : List (List Int)) (p_Edges : List (List Int)) (x_ : List Int) (y : List Int) (t14_ : Int) {v : Int} {s : St} {r : ((List Int)) ⊕ Unit} (h : i_badPair_l0 p_Labels p_Degree p_Nodes p_Edges x_ y t14_ v = some r) (hM : i_badPair_l0_M p_Labels p_Degree p_Nodes p_Edges x_ y t14_ v s) : wpD Y.env k83_l0 (i_badPair_l0_X p_Labels p_Degree p_Nodes p_Edges x_ y t14_ r) s := by
  unfold i_badPair_l0 at h
  refine wd_itO (c := k83_l0b) (fun v => i_badPair_l0_S p_Labels p_Degree p_Nodes p_Edges x_ y t14_ v) (fun v s => i_badPair_l0_M p_Labels p_Degree p_Nodes p_Edges x_ y t14_ v s) (i_badPair_l0_X p_Labels p_Degree p_Nodes p_Edges x_ y t14_) ?_ h hM
  clear h hM s v r
  intro t20_ s o hM h
  unfold i_badPair_l0_S at h
  unfold i_badPair_l0_M at hM
  obtain ⟨m0, m1, m2, m3, m4, m5, m6, m7, m8⟩ := hM
  unfold k83_l0b
  by_cases e3 : t20_ < (y.length : Int)
  · rw [if_pos e3] at h
    obtain ⟨e4, h⟩ := ckS h
    obtain ⟨e5, h⟩ := ckS h
    obtain ⟨e6, h⟩ := ckS h
    have c7 := i_Problem_edge_cl p_Labels p_Degree p_Nodes p_Edges (x_.getD t14_.toNat default) (y.getD t20_.toNat default) e5 e6
    by_cases e8 : (hasE p_Edges (x_.getD t14_.toNat default) (y.getD t20_.toNat default)) = true
    · rw [if_pos e8] at h
      obtain rfl := Option.some.inj h
      simp (maxDischargeDepth := 9) only [↓xpre, xpost, xlst, xcore, yset, ↓reduceIte, Nat.reduceEqDiff, Nat.reduceAdd, m0, m1, m2, m3, m4, m5, m6, m7, m8, e3, e4.1, e4.2, c7, e8, i_badPair_l0_M, sxN] <;> (repeat' apply And.intro) <;> first | rfl | exact ⟨_, rfl⟩ | simp [lst, cat2_nil]
    · rw [if_neg e8] at h
      have e8f : (hasE p_Edges (x_.getD t14_.toNat default) (y.getD t20_.toNat default)) = false := Bool.eq_false_iff.mpr e8
      obtain rfl := Option.some.inj h
      simp (maxDischargeDepth := 9) only [↓xpre, xpost, xlst, xcore, yset, ↓reduceIte, Nat.reduceEqDiff, Nat.reduceLeDiff, Nat.reduceAdd, m1, m2, m6, m7, m8, e3, e4.1, e4.2, c7, e8f, i_badPair_l0_M, i_badPair_l0_X, sxR] <;> (repeat' apply And.intro) <;> first | rfl | exact ⟨_, rfl⟩ | simp [lst, cat2_nil]
  · rw [if_neg e3] at h
    obtain rfl := Option.some.inj h
    simp (maxDischargeDepth := 9) only [↓xpre, xpost, yset, ↓reduceIte, Nat.reduceEqDiff, m0, m1, m3, m4, m5, m7, m8, e3, i_badPair_l0_M, i_badPair_l0_X, sxE] <;> (repeat' apply And.intro) <;> first | rfl | exact ⟨_, rfl⟩ | simp [lst, cat2_nil]
def i_badPair_l1_M (p_Labels : Int) (p_Degree : Int) (p_Nodes : List (List Int)) (p_Edges : List (List Int)) (x_ : List Int) (y : List Int) (t14_ : Int) (s : St) : Prop := s.v 2 = D.sl 3 (lst (D.int .i64) y) ∧ s.v 3 = D.box [D.int .i64 p_Labels, D.int .i64 p_Degree, D.sl 26 (lst (fun x => D.sl 3 (lst (D.int .i64) x)) p_Nodes), D.sl 26 (lst (fun x => D.sl 3 (lst (D.int .i64) x)) p_Edges)] ∧ s.v 12 = D.sl 3 (lst (D.int .i64) x_) ∧ s.v 13 = D.int .i64 (x_.length : Int) ∧ s.v 14 = D.int .i64 t14_
def i_badPair_l1_X (p_Labels : Int) (p_Degree : Int) (p_Nodes : List (List Int)) (p_Edges : List (List Int)) (x_ : List Int) (y : List Int) (r : ((List Int)) ⊕ Unit) (ex : Ex) (s : St) : Prop := match r with
  | .inl q => ex = .ret ∧ s.v 6 = D.own 3 (lst (D.int .i64) q) ∧ s.v 7 = D.bool true
  | .inr q => ex = .exit 0
theorem i_badPair_l1_wp (p_Labels : Int) (p_Degree : Int) (p_Nodes : List (List Int)) (p_Edges : List (List Int)) (x_ : List Int) (y : List Int) {v : Int} {s : St} {r : ((List Int)) ⊕ Unit} (h : i_badPair_l1 p_Labels p_Degree p_Nodes p_Edges x_ y v = some r) (hM : i_badPair_l1_M p_Labels p_Degree p_Nodes p_Edges x_ y v s) : wpD Y.env k83_l1 (i_badPair_l1_X p_Labels p_Degree p_Nodes p_Edges x_ y r) s := by
  unfold i_badPair_l1 at h
  refine wd_itO (c := k83_l1b) (fun v => i_badPair_l1_S p_Labels p_Degree p_Nodes p_Edges x_ y v) (fun v s => i_badPair_l1_M p_Labels p_Degree p_Nodes p_Edges x_ y v s) (i_badPair_l1_X p_Labels p_Degree p_Nodes p_Edges x_ y) ?_ h hM
  clear h hM s v r
  intro t14_ s o hM h
  unfold i_badPair_l1_S at h
  unfold i_badPair_l1_M at hM
  obtain ⟨m0, m1, m2, m3, m4⟩ := hM
  unfold k83_l1b
  by_cases e1 : t14_ < (x_.length : Int)
  · rw [if_pos e1] at h
    obtain ⟨e2, h⟩ := ckS h
    obtain ⟨r4_, hl4, h⟩ := bindS h
    try dsimp only at h
    simp (maxDischargeDepth := 9) only [↓xpre, xpost, xlst, xcore, yset, ↓reduceIte, Nat.reduceEqDiff, m0, m2, m3, m4, e1, e2.1, e2.2]
    refine wd_mono (i_badPair_l0_wp p_Labels p_Degree p_Nodes p_Edges x_ y t14_ hl4 ?_) ?_
    · simp (maxDischargeDepth := 9) only [xpost, ↓reduceIte, Nat.reduceEqDiff, m0, m1, m2, m3, m4, i_badPair_l0_M] <;> (repeat' apply And.intro) <;> first | rfl | exact ⟨_, rfl⟩ | simp [lst, cat2_nil]
    · intro ex4 s4 hX4
      rcases r4_ with q4_ | q4_
      · unfold i_badPair_l0_X at hX4
        dsimp only at hX4 h
        obtain ⟨rfl, n4_0, n4_1⟩ := hX4
        obtain rfl := Option.some.inj h
        simp (maxDischargeDepth := 9) only [↓xpre, xpost, n4_0, n4_1, i_badPair_l1_M, i_badPair_l1_X, sxR] <;> (repeat' apply And.intro) <;> first | rfl | exact ⟨_, rfl⟩ | simp [lst, cat2_nil]
      · unfold i_badPair_l0_X at hX4
        dsimp only at hX4 h
        obtain ⟨rfl, n4_0, n4_1, n4_2, n4_3, n4_4⟩ := hX4
        obtain rfl := Option.some.inj h
        simp (maxDischargeDepth := 9) only [↓xpre, xpost, yset, ↓reduceIte, Nat.reduceEqDiff, n4_0, n4_1, n4_2, n4_3, n4_4, i_badPair_l1_M, sxN] <;> (repeat' apply And.intro) <;> first | rfl | exact ⟨_, rfl⟩ | simp [lst, cat2_nil]
  · rw [if_neg e1] at h
    obtain rfl := Option.some.inj h
    simp (maxDischargeDepth := 9) only [↓xpre, xpost, yset, ↓reduceIte, m3, m4, e1, i_badPair_l1_M, i_badPair_l1_X, sxE] <;> (repeat' apply And.intro) <;> first | rfl | exact ⟨_, rfl⟩ | simp [lst, cat2_nil]
theorem i_badPair_call (p_Labels : Int) (p_Degree : Int) (p_Nodes : List (List Int)) (p_Edges : List (List Int)) (x_ : List Int) (y : List Int) {r : (List Int) × Bool} (h : i_badPair p_Labels p_Degree p_Nodes p_Edges x_ y = some r) : Y.call 83 [D.agg [D.int .i64 p_Labels, D.int .i64 p_Degree, D.sl 26 (lst (fun x => D.sl 3 (lst (D.int .i64) x)) p_Nodes), D.sl 26 (lst (fun x => D.sl 3 (lst (D.int .i64) x)) p_Edges)], D.sl 3 (lst (D.int .i64) x_), D.sl 3 (lst (D.int .i64) y)] [] = some (D.tup [D.own 3 (lst (D.int .i64) r.1), D.bool r.2], []) := by
  refine c83 ?_ rfl
  unfold k83
  unfold i_badPair at h
  obtain ⟨r2_, hl2, h⟩ := bindS h
  try dsimp only at h
  simp (maxDischargeDepth := 9) only [↓xpre, xpost, xlst, xcore, yset, ↓reduceIte, Nat.reduceEqDiff, Nat.reduceLT]
  refine wd_mono (i_badPair_l1_wp p_Labels p_Degree p_Nodes p_Edges x_ y hl2 ?_) ?_
  · simp (maxDischargeDepth := 9) only [xpost, xcore, ↓reduceIte, Nat.reduceEqDiff, Nat.reduceLT, i_badPair_l1_M] <;> (repeat' apply And.intro) <;> first | rfl | exact ⟨_, rfl⟩ | simp [lst, cat2_nil]
  · intro ex2 s2 hX2
    rcases r2_ with q2_ | q2_
    · unfold i_badPair_l1_X at hX2
      dsimp only at hX2 h
      obtain ⟨rfl, n2_0, n2_1⟩ := hX2
      obtain rfl := Option.some.inj h
      simp (maxDischargeDepth := 9) only [↓xpre, xpost, xlst, xcore, ↓reduceIte, Nat.reduceEqDiff, n2_0, n2_1] <;> (repeat' apply And.intro) <;> first | rfl | exact ⟨_, rfl⟩ | simp [lst, cat2_nil]
    · unfold i_badPair_l1_X at hX2
      dsimp only at hX2 h
      obtain rfl := hX2
      obtain rfl := Option.some.inj h
      simp (maxDischargeDepth := 9) only [↓xpre, xpost, xcore, yset, ↓reduceIte, Nat.reduceEqDiff] <;> (repeat' apply And.intro) <;> first | rfl | exact ⟨_, rfl⟩ | simp [lst, cat2_nil]

noncomputable def s_zeBad_l0_S (p_Labels : Int) (p_Degree : Int) (p_Nodes : List (List Int)) (p_Edges : List (List Int)) (x_ : List Int) (y : List Int) (t15_ : Int) (t22_ : Int) : Option ((Int) ⊕ (Int ⊕ Unit)) :=
  if t22_ < (y.length : Int) then
    ck (0 ≤ t22_ ∧ t22_.toNat < y.length) <|
    ck (Short p_Edges) <|
    if (hasE p_Edges (x_.getD t15_.toNat default) (y.getD t22_.toNat default)) = true then
      some (Sum.inl (IntKind.i64.wrap (t22_ + 1)))
    else
      some (Sum.inr (Sum.inl t22_))
  else
    some (Sum.inr (Sum.inr ()))
noncomputable def s_zeBad_l0 (p_Labels : Int) (p_Degree : Int) (p_Nodes : List (List Int)) (p_Edges : List (List Int)) (x_ : List Int) (y : List Int) (t15_ : Int) (v : Int) : Option (Int ⊕ Unit) := itO (fun v => s_zeBad_l0_S p_Labels p_Degree p_Nodes p_Edges x_ y t15_ v) v
noncomputable def s_zeBad_l1_S (p_Labels : Int) (p_Degree : Int) (p_Nodes : List (List Int)) (p_Edges : List (List Int)) (x_ : List Int) (y : List Int) (t15_ : Int) : Option ((Int) ⊕ ((Int × Int) ⊕ Unit)) :=
  if t15_ < (x_.length : Int) then
    ck (0 ≤ t15_ ∧ t15_.toNat < x_.length) <|
    (s_zeBad_l0 p_Labels p_Degree p_Nodes p_Edges x_ y t15_ 0).bind fun r4_ =>
    match r4_ with
    | .inl q4_ =>
      some (Sum.inr (Sum.inl (t15_, q4_)))
    | .inr q4_ =>
      some (Sum.inl (IntKind.i64.wrap (t15_ + 1)))
  else
    some (Sum.inr (Sum.inr ()))
noncomputable def s_zeBad_l1 (p_Labels : Int) (p_Degree : Int) (p_Nodes : List (List Int)) (p_Edges : List (List Int)) (x_ : List Int) (y : List Int) (v : Int) : Option ((Int × Int) ⊕ Unit) := itO (fun v => s_zeBad_l1_S p_Labels p_Degree p_Nodes p_Edges x_ y v) v
noncomputable def s_zeBad (p_Labels : Int) (p_Degree : Int) (p_Nodes : List (List Int)) (p_Edges : List (List Int)) (x_ : List Int) (y : List Int) : Option (Int × Int × Bool) :=
  (s_zeBad_l1 p_Labels p_Degree p_Nodes p_Edges x_ y 0).bind fun r2_ =>
  match r2_ with
  | .inl q2_ =>
    some (q2_.1, q2_.2, true)
  | .inr q2_ =>
    some (0, 0, false)
/-- spec.zeBad -/
def k99_l0b : SC :=
 .seq
 (.ops [
 ⟨(some 23), (.binOp .lss 3 (.tmp 22) (.tmp 21) 3), 0, none⟩])
 (.seq
 (.cond (.tmp 23)
 .skip
 (.exit 2))
 (.seq
 (.block 3
 (.seq
 (.ops [
 ⟨(some 24), (.move (.tmp 22)), 3, none⟩,
 ⟨(some 25), (.indexAddr 26 (.tmp 20) (.tmp 22)), 0, none⟩,
 ⟨(some 26), (.load 3 (.tmp 25)), 3, none⟩,
 ⟨(some 11), (.assign (.tmp 24)), 3, none⟩,
 ⟨(some 12), (.assign (.tmp 26)), 3, none⟩])
 (.seq
 (.ops [
 ⟨(some 27), (.load 33 (.tmp 3)), 33, none⟩,
 ⟨(some 28), (.move (.tmp 10)), 3, none⟩,
 ⟨(some 29), (.move (.tmp 12)), 3, none⟩,
 ⟨(some 30), (.call ⟨(.value (.func 117)), #[(.tmp 27), (.tmp 28), (.tmp 29)], #[33, 3, 3]⟩), 4, none⟩,
 ⟨(some 31), (.unOp .not 4 (.tmp 30)), 4, none⟩])
 (.cond (.tmp 31)
 (.seq
 (.ops [
 ⟨(some 32), (.move (.tmp 9)), 3, none⟩,
 ⟨(some 33), (.move (.tmp 11)), 3, none⟩,
 ⟨(some 6), (.assign (.tmp 32)), 3, none⟩,
 ⟨(some 7), (.assign (.tmp 33)), 3, none⟩,
 ⟨(some 8), (.assign (.const (.bool true))), 4, none⟩])
 .ret)
 .skip))))
 (.ops [
 ⟨(some 34), (.binOp .add 3 (.tmp 22) (.const (.int .i64 1)) 3), 3, none⟩,
 ⟨(some 22), (.move (.tmp 34)), 3, none⟩])))
def k99_l0 : SC := .loop k99_l0b
def k99_l1b : SC :=
 .seq
 (.ops [
 ⟨(some 16), (.binOp .lss 3 (.tmp 15) (.tmp 14) 3), 0, none⟩])
 (.seq
 (.cond (.tmp 16)
 .skip
 (.exit 0))
 (.seq
 (.block 1
 (.seq
 (.ops [
 ⟨(some 17), (.move (.tmp 15)), 3, none⟩,
 ⟨(some 18), (.indexAddr 26 (.tmp 13) (.tmp 15)), 0, none⟩,
 ⟨(some 19), (.load 3 (.tmp 18)), 3, none⟩,
 ⟨(some 9), (.assign (.tmp 17)), 3, none⟩,
 ⟨(some 10), (.assign (.tmp 19)), 3, none⟩])
 (.seq
 (.ops [
 ⟨(some 20), (.move (.tmp 2)), 26, none⟩,
 ⟨(some 21), (.call ⟨(.builtin .len), #[(.tmp 20)], #[26]⟩), 3, none⟩,
 ⟨(some 22), (.move (.const (.int .i64 0))), 3, none⟩])
 (.block 2
 k99_l0))))
 (.ops [
 ⟨(some 35), (.binOp .add 3 (.tmp 15) (.const (.int .i64 1)) 3), 3, none⟩,
 ⟨(some 15), (.move (.tmp 35)), 3, none⟩])))
def k99_l1 : SC := .loop k99_l1b
def k99 : SC :=
 .seq
 (.ops [
 ⟨(some 3), (.box 33 (.tmp 0)), 0, none⟩,
 ⟨(some 6), (.assign (.const (.int .i64 0))), 3, none⟩,
 ⟨(some 7), (.assign (.const (.int .i64 0))), 3, none⟩,
 ⟨(some 8), (.assign (.const (.bool false))), 4, none⟩])
 (.seq
 (.seq
 (.ops [
 ⟨(some 13), (.move (.tmp 1)), 26, none⟩,
 ⟨(some 14), (.call ⟨(.builtin .len), #[(.tmp 13)], #[26]⟩), 3, none⟩,
 ⟨(some 15), (.move (.const (.int .i64 0))), 3, none⟩])
 (.block 0
 k99_l1))
 (.seq
 (.ops [
 ⟨(some 6), (.assign (.const (.int .i64 0))), 3, none⟩,
 ⟨(some 7), (.assign (.const (.int .i64 0))), 3, none⟩,
 ⟨(some 8), (.assign (.const (.bool false))), 4, none⟩])
 .ret))
theorem slim99 : Tryz.f99.body.map (slim lends) = some k99 := by kernel_rfl
theorem ok99 : fnOk Tryz.f99 3 = true := by kernel_rfl
theorem c99 {a l : List D} {r : D × List D} (h : wpD Y.env k99 (fin tys l.length [ResultVar.tmp 6, ResultVar.tmp 7, ResultVar.tmp 8] r) (entry a l)) (ha : a.length = 3) : Y.call 99 a l = some r :=
  call_slim (Y := Y) rfl Tryz.func99 (ha ▸ ok99) slim99 h
def s_zeBad_l0_M (p_Labels : Int) (p_Degree : Int) (p_Nodes : List (List Int)) (p_Edges : List (List Int)) (x_ : List Int) (y : List Int) (t15_ : Int) (t22_ : Int) (s : St) : Prop := s.v 2 = D.sl 3 (lst (D.int .i64) y) ∧ s.v 3 = D.box [D.int .i64 p_Labels, D.int .i64 p_Degree, D.sl 26 (lst (fun x => D.sl 3 (lst (D.int .i64) x)) p_Nodes), D.sl 26 (lst (fun x => D.sl 3 (lst (D.int .i64) x)) p_Edges)] ∧ s.v 9 = D.int .i64 t15_ ∧ s.v 10 = D.int .i64 (x_.getD t15_.toNat default) ∧ s.v 13 = D.sl 3 (lst (D.int .i64) x_) ∧ s.v 14 = D.int .i64 (x_.length : Int) ∧ s.v 15 = D.int .i64 t15_ ∧ s.v 20 = D.sl 3 (lst (D.int .i64) y) ∧ s.v 21 = D.int .i64 (y.length : Int) ∧ s.v 22 = D.int .i64 t22_
def s_zeBad_l0_X (p_Labels : Int) (p_Degree : Int) (p_Nodes : List (List Int)) (p_Edges : List (List Int)) (x_ : List Int) (y : List Int) (t15_ : Int) (r : Int ⊕ Unit) (ex : Ex) (s : St) : Prop := match r with
  | .inl q => ex = .ret ∧ s.v 6 = D.int .i64 t15_ ∧ s.v 7 = D.int .i64 q ∧ s.v 8 = D.bool true
  | .inr q => ex = .exit 2 ∧ s.v 2 = D.sl 3 (lst (D.int .i64) y) ∧ s.v 3 = D.box [D.int .i64 p_Labels, D.int .i64 p_Degree, D.sl 26 (lst (fun x => D.sl 3 (lst (D.int .i64) x)) p_Nodes), D.sl 26 (lst (fun x => D.sl 3 (lst (D.int .i64) x)) p_Edges)] ∧ s.v 13 = D.sl 3 (lst (D.int .i64) x_) ∧ s.v 14 = D.int .i64 (x_.length : Int) ∧ s.v 15 = D.int .i64 t15_
theorem s_zeBad_l0_wp (p_Labels : Int) (p_Degree : Int) (p_Nodes : List (List Int)) (p_Edges : List (List Int)) (x_ : List Int) (y : List Int) (t15_ : Int) {v : Int} {s : St} {r : Int ⊕ Unit} (h : s_zeBad_l0 p_Labels p_Degree p_Nodes p_Edges x_ y t15_ v = some r) (hM : s_zeBad_l0_M p_Labels p_Degree p_Nodes p_Edges x_ y t15_ v s) : wpD Y.env k99_l0 (s_zeBad_l0_X p_Labels p_Degree p_Nodes p_Edges x_ y t15_ r) s := by
  unfold s_zeBad_l0 at h
  refine wd_itO (c := k99_l0b) (fun v => s_zeBad_l0_S p_Labels p_Degree p_Nodes p_Edges x_ y t15_ v) (fun v s => s_zeBad_l0_M p_Labels p_Degree p_Nodes p_Edges x_ y t15_ v s) (s_zeBad_l0_X p_Labels p_Degree p_Nodes p_Edges x_ y t15_) ?_ h hM
  clear h hM s v r
  intro t22_ s o hM h
  unfold s_zeBad_l0_S at h
  unfold s_zeBad_l0_M at hM
  obtain ⟨m0, m1, m2, m3, m4, m5, m6, m7, m8, m9⟩ := hM
  unfold k99_l0b
  by_cases e3 : t22_ < (y.length : Int)
  · rw [if_pos e3] at h
    obtain ⟨e4, h⟩ := ckS h
    obtain ⟨e5, h⟩ := ckS h
    have c6 := s_prEdge_cl p_Labels p_Degree p_Nodes p_Edges (x_.getD t15_.toNat default) (y.getD t22_.toNat default) e5
    by_cases e7 : (hasE p_Edges (x_.getD t15_.toNat default) (y.getD t22_.toNat default)) = true
    · rw [if_pos e7] at h
      obtain rfl := Option.some.inj h
      simp (maxDischargeDepth := 9) only [↓xpre, xpost, xlst, xcore, yset, ↓reduceIte, Nat.reduceEqDiff, Nat.reduceAdd, m0, m1, m2, m3, m4, m5, m6, m7, m8, m9, e3, e4.1, e4.2, c6, e7, s_zeBad_l0_M, sxN] <;> (repeat' apply And.intro) <;> first | rfl | exact ⟨_, rfl⟩ | simp [lst, cat2_nil]
    · rw [if_neg e7] at h
      have e7f : (hasE p_Edges (x_.getD t15_.toNat default) (y.getD t22_.toNat default)) = false := Bool.eq_false_iff.mpr e7
      obtain rfl := Option.some.inj h
      simp (maxDischargeDepth := 9) only [↓xpre, xpost, xlst, xcore, yset, ↓reduceIte, Nat.reduceEqDiff, Nat.reduceAdd, m1, m2, m3, m7, m8, m9, e3, e4.1, e4.2, c6, e7f, s_zeBad_l0_M, s_zeBad_l0_X, sxR] <;> (repeat' apply And.intro) <;> first | rfl | exact ⟨_, rfl⟩ | simp [lst, cat2_nil]
  · rw [if_neg e3] at h
    obtain rfl := Option.some.inj h
    simp (maxDischargeDepth := 9) only [↓xpre, xpost, yset, ↓reduceIte, Nat.reduceEqDiff, m0, m1, m4, m5, m6, m8, m9, e3, s_zeBad_l0_M, s_zeBad_l0_X, sxE] <;> (repeat' apply And.intro) <;> first | rfl | exact ⟨_, rfl⟩ | simp [lst, cat2_nil]
def s_zeBad_l1_M (p_Labels : Int) (p_Degree : Int) (p_Nodes : List (List Int)) (p_Edges : List (List Int)) (x_ : List Int) (y : List Int) (t15_ : Int) (s : St) : Prop := s.v 2 = D.sl 3 (lst (D.int .i64) y) ∧ s.v 3 = D.box [D.int .i64 p_Labels, D.int .i64 p_Degree, D.sl 26 (lst (fun x => D.sl 3 (lst (D.int .i64) x)) p_Nodes), D.sl 26 (lst (fun x => D.sl 3 (lst (D.int .i64) x)) p_Edges)] ∧ s.v 13 = D.sl 3 (lst (D.int .i64) x_) ∧ s.v 14 = D.int .i64 (x_.length : Int) ∧ s.v 15 = D.int .i64 t15_
def s_zeBad_l1_X (p_Labels : Int) (p_Degree : Int) (p_Nodes : List (List Int)) (p_Edges : List (List Int)) (x_ : List Int) (y : List Int) (r : (Int × Int) ⊕ Unit) (ex : Ex) (s : St) : Prop := match r with
  | .inl q => ex = .ret ∧ s.v 6 = D.int .i64 q.1 ∧ s.v 7 = D.int .i64 q.2 ∧ s.v 8 = D.bool true
  | .inr q => ex = .exit 0
theorem s_zeBad_l1_wp (p_Labels : Int) (p_Degree : Int) (p_Nodes : List (List Int)) (p_Edges : List (List Int)) (x_ : List Int) (y : List Int) {v : Int} {s : St} {r : (Int × Int) ⊕ Unit} (h : s_zeBad_l1 p_Labels p_Degree p_Nodes p_Edges x_ y v = some r) (hM : s_zeBad_l1_M p_Labels p_Degree p_Nodes p_Edges x_ y v s) : wpD Y.env k99_l1 (s_zeBad_l1_X p_Labels p_Degree p_Nodes p_Edges x_ y r) s := by
  unfold s_zeBad_l1 at h
  refine wd_itO (c := k99_l1b) (fun v => s_zeBad_l1_S p_Labels p_Degree p_Nodes p_Edges x_ y v) (fun v s => s_zeBad_l1_M p_Labels p_Degree p_Nodes p_Edges x_ y v s) (s_zeBad_l1_X p_Labels p_Degree p_Nodes p_Edges x_ y) ?_ h hM
  clear h hM s v r
  intro t15_ s o hM h
  unfold s_zeBad_l1_S at h
  unfold s_zeBad_l1_M at hM
  obtain ⟨m0, m1, m2, m3, m4⟩ := hM
  unfold k99_l1b
  by_cases e1 : t15_ < (x_.length : Int)
  · rw [if_pos e1] at h
    obtain ⟨e2, h⟩ := ckS h
    obtain ⟨r4_, hl4, h⟩ := bindS h
    try dsimp only at h
    simp (maxDischargeDepth := 9) only [↓xpre, xpost, xlst, xcore, yset, ↓reduceIte, Nat.reduceEqDiff, m0, m2, m3, m4, e1, e2.1, e2.2]
    refine wd_mono (s_zeBad_l0_wp p_Labels p_Degree p_Nodes p_Edges x_ y t15_ hl4 ?_) ?_
    · simp (maxDischargeDepth := 9) only [xpost, ↓reduceIte, Nat.reduceEqDiff, m0, m1, m2, m3, m4, s_zeBad_l0_M] <;> (repeat' apply And.intro) <;> first | rfl | exact ⟨_, rfl⟩ | simp [lst, cat2_nil]
    · intro ex4 s4 hX4
      rcases r4_ with q4_ | q4_
      · unfold s_zeBad_l0_X at hX4
        dsimp only at hX4 h
        obtain ⟨rfl, n4_0, n4_1, n4_2⟩ := hX4
        obtain rfl := Option.some.inj h
        simp (maxDischargeDepth := 9) only [↓xpre, xpost, n4_0, n4_1, n4_2, s_zeBad_l1_M, s_zeBad_l1_X, sxR] <;> (repeat' apply And.intro) <;> first | rfl | exact ⟨_, rfl⟩ | simp [lst, cat2_nil]
      · unfold s_zeBad_l0_X at hX4
        dsimp only at hX4 h
        obtain ⟨rfl, n4_0, n4_1, n4_2, n4_3, n4_4⟩ := hX4
        obtain rfl := Option.some.inj h
        simp (maxDischargeDepth := 9) only [↓xpre, xpost, yset, ↓reduceIte, Nat.reduceEqDiff, n4_0, n4_1, n4_2, n4_3, n4_4, s_zeBad_l1_M, sxN] <;> (repeat' apply And.intro) <;> first | rfl | exact ⟨_, rfl⟩ | simp [lst, cat2_nil]
  · rw [if_neg e1] at h
    obtain rfl := Option.some.inj h
    simp (maxDischargeDepth := 9) only [↓xpre, xpost, yset, ↓reduceIte, m3, m4, e1, s_zeBad_l1_M, s_zeBad_l1_X, sxE] <;> (repeat' apply And.intro) <;> first | rfl | exact ⟨_, rfl⟩ | simp [lst, cat2_nil]
theorem s_zeBad_call (p_Labels : Int) (p_Degree : Int) (p_Nodes : List (List Int)) (p_Edges : List (List Int)) (x_ : List Int) (y : List Int) {r : Int × Int × Bool} (h : s_zeBad p_Labels p_Degree p_Nodes p_Edges x_ y = some r) : Y.call 99 [D.agg [D.int .i64 p_Labels, D.int .i64 p_Degree, D.sl 26 (lst (fun x => D.sl 3 (lst (D.int .i64) x)) p_Nodes), D.sl 26 (lst (fun x => D.sl 3 (lst (D.int .i64) x)) p_Edges)], D.sl 3 (lst (D.int .i64) x_), D.sl 3 (lst (D.int .i64) y)] [] = some (D.tup [D.int .i64 r.1, D.int .i64 r.2.1, D.bool r.2.2], []) := by
  refine c99 ?_ rfl
  unfold k99
  unfold s_zeBad at h
  obtain ⟨r2_, hl2, h⟩ := bindS h
  try dsimp only at h
  simp (maxDischargeDepth := 9) only [↓xpre, xpost, xlst, xcore, yset, ↓reduceIte, Nat.reduceEqDiff, Nat.reduceLT]
  refine wd_mono (s_zeBad_l1_wp p_Labels p_Degree p_Nodes p_Edges x_ y hl2 ?_) ?_
  · simp (maxDischargeDepth := 9) only [xpost, xcore, ↓reduceIte, Nat.reduceEqDiff, Nat.reduceLT, s_zeBad_l1_M] <;> (repeat' apply And.intro) <;> first | rfl | exact ⟨_, rfl⟩ | simp [lst, cat2_nil]
  · intro ex2 s2 hX2
    rcases r2_ with q2_ | q2_
    · unfold s_zeBad_l1_X at hX2
      dsimp only at hX2 h
      obtain ⟨rfl, n2_0, n2_1, n2_2⟩ := hX2
      obtain rfl := Option.some.inj h
      simp (maxDischargeDepth := 9) only [↓xpre, xpost, xcore, ↓reduceIte, n2_0, n2_1, n2_2] <;> (repeat' apply And.intro) <;> first | rfl | exact ⟨_, rfl⟩ | simp [lst, cat2_nil]
    · unfold s_zeBad_l1_X at hX2
      dsimp only at hX2 h
      obtain rfl := hX2
      obtain rfl := Option.some.inj h
      simp (maxDischargeDepth := 9) only [↓xpre, xpost, xcore, yset, ↓reduceIte, Nat.reduceEqDiff] <;> (repeat' apply And.intro) <;> first | rfl | exact ⟨_, rfl⟩ | simp [lst, cat2_nil]

theorem i_badPair_eq (l d : Int) (ns es : List (List Int)) (x y : List Int) (h1 : Short es) (h2 : incL es = true) (hx : x.length < 1099511627776) (hy : y.length < 1099511627776) :
    i_badPair l d ns es x y = some (match badOf es x y with | some q => ([x.getD q.1 default, y.getD q.2 default], true) | none => ([], false)) := by
  have inner : ∀ i : Nat, i < x.length → i_badPair_l0 l d ns es x y (i : Int) 0 = some (match badAt es x y i with | some j => .inl [x.getD i default, y.getD j default] | none => .inr ()) := by
    intro i hi
    unfold i_badPair_l0 badAt
    refine itO_find (fun v => i_badPair_l0_S l d ns es x y (i : Int) v) (fun j => (j : Int)) y.length (fun j => !hasE es (x.getD i default) (y.getD j default)) (fun j => .inl [x.getD i default, y.getD j default]) (.inr ()) ?_ ?_
    · intro j hj
      simp only [i_badPair_l0_S]
      rw [if_pos (lt_nat hj), ckT (ix_nat hj), ckT h1, ckT h2, wrS j (by omega), Int.toNat_natCast, Int.toNat_natCast]
      cases hasE es (x.getD i default) (y.getD j default) <;> simp
    · simp only [i_badPair_l0_S]
      rw [if_neg (not_lt_nat _)]
  have outer : i_badPair_l1 l d ns es x y 0 = some (match firstIx x.length (fun i => (badAt es x y i).isSome) with | some i => .inl [x.getD i default, y.getD ((badAt es x y i).getD 0) default] | none => .inr ()) := by
    unfold i_badPair_l1
    refine itO_find (fun v => i_badPair_l1_S l d ns es x y v) (fun j => (j : Int)) x.length (fun i => (badAt es x y i).isSome) (fun i => .inl [x.getD i default, y.getD ((badAt es x y i).getD 0) default]) (.inr ()) ?_ ?_
    · intro i hi
      simp only [i_badPair_l1_S]
      rw [if_pos (lt_nat hi), ckT (ix_nat hi), inner i hi, Option.bind_some, wrS i (by omega)]
      cases badAt es x y i <;> simp
    · simp only [i_badPair_l1_S]
      rw [if_neg (not_lt_nat _)]
  unfold i_badPair badOf
  rw [outer, Option.bind_some]
  cases firstIx x.length (fun i => (badAt es x y i).isSome) <;> rfl
theorem s_zeBad_eq (l d : Int) (ns es : List (List Int)) (x y : List Int) (h1 : Short es) (hx : x.length < 1099511627776) (hy : y.length < 1099511627776) :
    s_zeBad l d ns es x y = some (match badOf es x y with | some q => ((q.1 : Int), (q.2 : Int), true) | none => (0, 0, false)) := by
  have inner : ∀ i : Nat, i < x.length → s_zeBad_l0 l d ns es x y (i : Int) 0 = some (match badAt es x y i with | some j => .inl (j : Int) | none => .inr ()) := by
    intro i hi
    unfold s_zeBad_l0 badAt
    refine itO_find (fun v => s_zeBad_l0_S l d ns es x y (i : Int) v) (fun j => (j : Int)) y.length (fun j => !hasE es (x.getD i default) (y.getD j default)) (fun j => .inl (j : Int)) (.inr ()) ?_ ?_
    · intro j hj
      simp only [s_zeBad_l0_S]
      rw [if_pos (lt_nat hj), ckT (ix_nat hj), ckT h1, wrS j (by omega), Int.toNat_natCast, Int.toNat_natCast]
      cases hasE es (x.getD i default) (y.getD j default) <;> simp
    · simp only [s_zeBad_l0_S]
      rw [if_neg (not_lt_nat _)]
  have outer : s_zeBad_l1 l d ns es x y 0 = some (match firstIx x.length (fun i => (badAt es x y i).isSome) with | some i => .inl ((i : Int), (((badAt es x y i).getD 0 : Nat) : Int)) | none => .inr ()) := by
    unfold s_zeBad_l1
    refine itO_find (fun v => s_zeBad_l1_S l d ns es x y v) (fun j => (j : Int)) x.length (fun i => (badAt es x y i).isSome) (fun i => .inl ((i : Int), (((badAt es x y i).getD 0 : Nat) : Int))) (.inr ()) ?_ ?_
    · intro i hi
      simp only [s_zeBad_l1_S]
      rw [if_pos (lt_nat hi), ckT (ix_nat hi), inner i hi, Option.bind_some, wrS i (by omega)]
      cases badAt es x y i <;> simp
    · simp only [s_zeBad_l1_S]
      rw [if_neg (not_lt_nat _)]
  unfold s_zeBad badOf
  rw [outer, Option.bind_some]
  cases firstIx x.length (fun i => (badAt es x y i).isSome) <;> rfl
noncomputable def i_isGoodPair (p_Labels : Int) (p_Degree : Int) (p_Nodes : List (List Int)) (p_Edges : List (List Int)) (x_ : List Int) (y : List Int) : Option (Bool) :=
  (i_badPair p_Labels p_Degree p_Nodes p_Edges x_ y).bind fun r1_ =>
  some (!r1_.2)
/-- impl.isGoodPair -/
def k63 : SC :=
 .seq
 (.ops [
 ⟨(some 3), (.box 33 (.tmp 0)), 0, none⟩,
 ⟨(some 6), (.assign (.const (.bool false))), 4, none⟩])
 (.seq
 (.ops [
 ⟨(some 10), (.load 33 (.tmp 3)), 33, none⟩,
 ⟨(some 11), (.move (.tmp 1)), 26, none⟩,
 ⟨(some 12), (.move (.tmp 2)), 26, none⟩,
 ⟨(some 13), (.call ⟨(.value (.func 83)), #[(.tmp 10), (.tmp 11), (.tmp 12)], #[33, 26, 26]⟩), 57, none⟩,
 ⟨(some 9), (.move (.tmp 13)), 57, none⟩,
 ⟨(some 14), (.extract (.tmp 9) 0), 26, none⟩,
 ⟨(some 15), (.extract (.tmp 9) 1), 4, none⟩,
 ⟨(some 7), (.assign (.tmp 14)), 26, none⟩,
 ⟨(some 8), (.assign (.tmp 15)), 4, none⟩])
 (.seq
 (.ops [
 ⟨(some 16), (.move (.tmp 8)), 4, none⟩,
 ⟨(some 17), (.unOp .not 4 (.tmp 16)), 4, none⟩,
 ⟨(some 6), (.assign (.tmp 17)), 4, none⟩])
 .ret))
theorem slim63 : Tryz.f63.body.map (slim lends) = some k63 := by kernel_rfl
theorem ok63 : fnOk Tryz.f63 3 = true := by kernel_rfl
theorem c63 {a l : List D} {r : D × List D} (h : wpD Y.env k63 (fin tys l.length [ResultVar.tmp 6] r) (entry a l)) (ha : a.length = 3) : Y.call 63 a l = some r :=
  call_slim (Y := Y) rfl Tryz.func63 (ha ▸ ok63) slim63 h
theorem i_isGoodPair_call (p_Labels : Int) (p_Degree : Int) (p_Nodes : List (List Int)) (p_Edges : List (List Int)) (x_ : List Int) (y : List Int) {r : Bool} (h : i_isGoodPair p_Labels p_Degree p_Nodes p_Edges x_ y = some r) : Y.call 63 [D.agg [D.int .i64 p_Labels, D.int .i64 p_Degree, D.sl 26 (lst (fun x => D.sl 3 (lst (D.int .i64) x)) p_Nodes), D.sl 26 (lst (fun x => D.sl 3 (lst (D.int .i64) x)) p_Edges)], D.sl 3 (lst (D.int .i64) x_), D.sl 3 (lst (D.int .i64) y)] [] = some (D.bool r, []) := by
  refine c63 ?_ rfl
  unfold k63
  unfold i_isGoodPair at h
  obtain ⟨r1_, hl1, h⟩ := bindS h
  try dsimp only at h
  have c1 := i_badPair_call p_Labels p_Degree p_Nodes p_Edges x_ y hl1
  obtain rfl := Option.some.inj h
  simp (maxDischargeDepth := 9) only [↓xpre, xpost, xlst, xcore, yset, ↓reduceIte, Nat.reduceEqDiff, Nat.reduceLT, Nat.reduceAdd, c1] <;> (repeat' apply And.intro) <;> first | rfl | exact ⟨_, rfl⟩ | simp [lst, cat2_nil]

theorem g_slices_Clone_Sint_int_cl (xs : List Int) (h : xs.length < 1099511627776) : Y.call 51 [.sl 3 (lst (D.int .i64) xs)] [] = some (.own 3 (lst (D.int .i64) xs), []) := by
  refine clone_51 (lst (D.int .i64) xs) (by rw [lst_length]; exact h) (lst_solid _ _ (fun x => rfl)) (lst_hasObj _ _ (fun x => by first | exact hoI .. | exact hoSl .. | exact hoB .. | exact hoS ..)) ?_
  simp (maxDischargeDepth := 9) only [xpost, xlst, xcore]

noncomputable def i_ZeroConfiguration_l0_S (p_Labels : Int) (p_Degree : Int) (p_Nodes : List (List Int)) (p_Edges : List (List Int)) (t12_ : Int) : Option ((Int) ⊕ (((List Int)) ⊕ Unit)) :=
  if t12_ < (p_Nodes.length : Int) then
    ck (0 ≤ t12_ ∧ t12_.toNat < p_Nodes.length) <|
    (i_isGoodPair p_Labels p_Degree p_Nodes p_Edges (p_Nodes.getD t12_.toNat default) (p_Nodes.getD t12_.toNat default)).bind fun r7_ =>
    if r7_ = true then
      ck ((p_Nodes.getD t12_.toNat default).length < 1099511627776) <|
      some (Sum.inr (Sum.inl (p_Nodes.getD t12_.toNat default)))
    else
      some (Sum.inl (IntKind.i64.wrap (t12_ + 1)))
  else
    some (Sum.inr (Sum.inr ()))
noncomputable def i_ZeroConfiguration_l0 (p_Labels : Int) (p_Degree : Int) (p_Nodes : List (List Int)) (p_Edges : List (List Int)) (v : Int) : Option (((List Int)) ⊕ Unit) := itO (fun v => i_ZeroConfiguration_l0_S p_Labels p_Degree p_Nodes p_Edges v) v
noncomputable def i_ZeroConfiguration (p_Labels : Int) (p_Degree : Int) (p_Nodes : List (List Int)) (p_Edges : List (List Int)) : Option ((List Int) × Bool) :=
  ck (Short p_Nodes) <|
  ck (Short p_Edges) <|
  if (isProb p_Labels p_Degree p_Nodes p_Edges) = true then
    (i_ZeroConfiguration_l0 p_Labels p_Degree p_Nodes p_Edges 0).bind fun r6_ =>
    match r6_ with
    | .inl q6_ =>
      some (q6_, true)
    | .inr q6_ =>
      some ([], false)
  else
    some ([], false)
/-- impl.ZeroConfiguration -/
def k39_l0b : SC :=
 .seq
 (.ops [
 ⟨(some 13), (.binOp .lss 3 (.tmp 12) (.tmp 11) 3), 0, none⟩])
 (.seq
 (.cond (.tmp 13)
 .skip
 (.exit 0))
 (.seq
 (.block 1
 (.seq
 (.ops [
 ⟨(some 14), (.indexAddr 22 (.tmp 10) (.tmp 12)), 0, none⟩,
 ⟨(some 15), (.load 26 (.tmp 14)), 26, none⟩,
 ⟨(some 5), (.assign (.tmp 15)), 26, none⟩])
 (.seq
 (.ops [
 ⟨(some 16), (.load 33 (.tmp 1)), 33, none⟩,
 ⟨(some 17), (.move (.tmp 5)), 26, none⟩,
 ⟨(some 18), (.move (.tmp 5)), 26, none⟩,
 ⟨(some 19), (.call ⟨(.value (.func 63)), #[(.tmp 16), (.tmp 17), (.tmp 18)], #[33, 26, 26]⟩), 4, none⟩])
 (.cond (.tmp 19)
 (.seq
 (.ops [
 ⟨(some 20), (.move (.tmp 5)), 26, none⟩,
 ⟨(some 21), (.call ⟨(.value (.func 51)), #[(.tmp 20)], #[26]⟩), 26, none⟩,
 ⟨(some 2), (.assign (.tmp 21)), 26, none⟩,
 ⟨(some 3), (.assign (.const (.bool true))), 4, none⟩])
 .ret)
 .skip))))
 (.ops [
 ⟨(some 22), (.binOp .add 3 (.tmp 12) (.const (.int .i64 1)) 3), 3, none⟩,
 ⟨(some 12), (.move (.tmp 22)), 3, none⟩])))
def k39_l0 : SC := .loop k39_l0b
def k39 : SC :=
 .seq
 (.ops [
 ⟨(some 1), (.box 33 (.tmp 0)), 0, none⟩,
 ⟨(some 2), (.assign (.const (.slice none 0 0))), 26, none⟩,
 ⟨(some 3), (.assign (.const (.bool false))), 4, none⟩])
 (.seq
 (.seq
 (.ops [
 ⟨(some 6), (.load 33 (.tmp 1)), 33, none⟩,
 ⟨(some 7), (.call ⟨(.value (.func 62)), #[(.tmp 6)], #[33]⟩), 4, none⟩,
 ⟨(some 8), (.unOp .not 4 (.tmp 7)), 4, none⟩])
 (.cond (.tmp 8)
 (.seq
 (.ops [
 ⟨(some 2), (.assign (.const (.slice none 0 0))), 26, none⟩,
 ⟨(some 3), (.assign (.const (.bool false))), 4, none⟩])
 .ret)
 .skip))
 (.seq
 (.seq
 (.ops [
 ⟨(some 9), (.fieldAddr 33 (.tmp 1) 2), 0, none⟩,
 ⟨(some 10), (.load 22 (.tmp 9)), 22, none⟩,
 ⟨(some 11), (.call ⟨(.builtin .len), #[(.tmp 10)], #[22]⟩), 3, none⟩,
 ⟨(some 12), (.move (.const (.int .i64 0))), 3, none⟩])
 (.block 0
 k39_l0))
 (.seq
 (.ops [
 ⟨(some 2), (.assign (.const (.slice none 0 0))), 26, none⟩,
 ⟨(some 3), (.assign (.const (.bool false))), 4, none⟩])
 .ret)))
theorem slim39 : Tryz.f39.body.map (slim lends) = some k39 := by kernel_rfl
theorem ok39 : fnOk Tryz.f39 1 = true := by kernel_rfl
theorem c39 {a l : List D} {r : D × List D} (h : wpD Y.env k39 (fin tys l.length [ResultVar.tmp 2, ResultVar.tmp 3] r) (entry a l)) (ha : a.length = 1) : Y.call 39 a l = some r :=
  call_slim (Y := Y) rfl Tryz.func39 (ha ▸ ok39) slim39 h
def i_ZeroConfiguration_l0_M (p_Labels : Int) (p_Degree : Int) (p_Nodes : List (List Int)) (p_Edges : List (List Int)) (t12_ : Int) (s : St) : Prop := s.v 1 = D.box [D.int .i64 p_Labels, D.int .i64 p_Degree, D.sl 26 (lst (fun x => D.sl 3 (lst (D.int .i64) x)) p_Nodes), D.sl 26 (lst (fun x => D.sl 3 (lst (D.int .i64) x)) p_Edges)] ∧ s.v 10 = D.sl 26 (lst (fun x => D.sl 3 (lst (D.int .i64) x)) p_Nodes) ∧ s.v 11 = D.int .i64 (p_Nodes.length : Int) ∧ s.v 12 = D.int .i64 t12_
def i_ZeroConfiguration_l0_X (p_Labels : Int) (p_Degree : Int) (p_Nodes : List (List Int)) (p_Edges : List (List Int)) (r : ((List Int)) ⊕ Unit) (ex : Ex) (s : St) : Prop := match r with
  | .inl q => ex = .ret ∧ s.v 2 = D.own 3 (lst (D.int .i64) q) ∧ s.v 3 = D.bool true
  | .inr q => ex = .exit 0
theorem i_ZeroConfiguration_l0_wp (p_Labels : Int) (p_Degree : Int) (p_Nodes : List (List Int)) (p_Edges : List (List Int)) {v : Int} {s : St} {r : ((List Int)) ⊕ Unit} (h : i_ZeroConfiguration_l0 p_Labels p_Degree p_Nodes p_Edges v = some r) (hM : i_ZeroConfiguration_l0_M p_Labels p_Degree p_Nodes p_Edges v s) : wpD Y.env k39_l0 (i_ZeroConfiguration_l0_X p_Labels p_Degree p_Nodes p_Edges r) s := by
  unfold i_ZeroConfiguration_l0 at h
  refine wd_itO (c := k39_l0b) (fun v => i_ZeroConfiguration_l0_S p_Labels p_Degree p_Nodes p_Edges v) (fun v s => i_ZeroConfiguration_l0_M p_Labels p_Degree p_Nodes p_Edges v s) (i_ZeroConfiguration_l0_X p_Labels p_Degree p_Nodes p_Edges) ?_ h hM
  clear h hM s v r
  intro t12_ s o hM h
  unfold i_ZeroConfiguration_l0_S at h
  unfold i_ZeroConfiguration_l0_M at hM
  obtain ⟨m0, m1, m2, m3⟩ := hM
  unfold k39_l0b
  by_cases e5 : t12_ < (p_Nodes.length : Int)
  · rw [if_pos e5] at h
    obtain ⟨e6, h⟩ := ckS h
    obtain ⟨r7_, hl7, h⟩ := bindS h
    try dsimp only at h
    have c7 := i_isGoodPair_call p_Labels p_Degree p_Nodes p_Edges (p_Nodes.getD t12_.toNat default) (p_Nodes.getD t12_.toNat default) hl7
    by_cases e8 : r7_ = true
    · rw [if_pos e8] at h
      obtain ⟨e9, h⟩ := ckS h
      have c10 := g_slices_Clone_Sint_int_cl (p_Nodes.getD t12_.toNat default) e9
      obtain rfl := Option.some.inj h
      simp (maxDischargeDepth := 9) only [↓xpre, xpost, xlst, xcore, yset, ↓reduceIte, Nat.reduceEqDiff, Nat.reduceAdd, m0, m1, m2, m3, e5, e6.1, e6.2, c7, e8, c10, i_ZeroConfiguration_l0_M, i_ZeroConfiguration_l0_X, sxR] <;> (repeat' apply And.intro) <;> first | rfl | exact ⟨_, rfl⟩ | simp [lst, cat2_nil]
    · rw [if_neg e8] at h
      have e8f : r7_ = false := Bool.eq_false_iff.mpr e8
      obtain rfl := Option.some.inj h
      simp (maxDischargeDepth := 9) only [↓xpre, xpost, xlst, xcore, yset, ↓reduceIte, Nat.reduceEqDiff, Nat.reduceAdd, m0, m1, m2, m3, e5, e6.1, e6.2, c7, e8f, i_ZeroConfiguration_l0_M, sxN] <;> (repeat' apply And.intro) <;> first | rfl | exact ⟨_, rfl⟩ | simp [lst, cat2_nil]
  · rw [if_neg e5] at h
    obtain rfl := Option.some.inj h
    simp (maxDischargeDepth := 9) only [↓xpre, xpost, yset, ↓reduceIte, m2, m3, e5, i_ZeroConfiguration_l0_M, i_ZeroConfiguration_l0_X, sxE] <;> (repeat' apply And.intro) <;> first | rfl | exact ⟨_, rfl⟩ | simp [lst, cat2_nil]
theorem i_ZeroConfiguration_call (p_Labels : Int) (p_Degree : Int) (p_Nodes : List (List Int)) (p_Edges : List (List Int)) {r : (List Int) × Bool} (h : i_ZeroConfiguration p_Labels p_Degree p_Nodes p_Edges = some r) : Y.call 39 [D.agg [D.int .i64 p_Labels, D.int .i64 p_Degree, D.sl 26 (lst (fun x => D.sl 3 (lst (D.int .i64) x)) p_Nodes), D.sl 26 (lst (fun x => D.sl 3 (lst (D.int .i64) x)) p_Edges)]] [] = some (D.tup [D.own 3 (lst (D.int .i64) r.1), D.bool r.2], []) := by
  refine c39 ?_ rfl
  unfold k39
  unfold i_ZeroConfiguration at h
  obtain ⟨e1, h⟩ := ckS h
  obtain ⟨e2, h⟩ := ckS h
  have c3 := i_IsProblem_cl p_Labels p_Degree p_Nodes p_Edges e1 e2
  by_cases e4 : (isProb p_Labels p_Degree p_Nodes p_Edges) = true
  · rw [if_pos e4] at h
    obtain ⟨r6_, hl6, h⟩ := bindS h
    try dsimp only at h
    simp (maxDischargeDepth := 9) only [↓xpre, xpost, xlst, xcore, yset, ↓reduceIte, Nat.reduceEqDiff, Nat.reduceLT, Nat.reduceAdd, c3, e4]
    refine wd_mono (i_ZeroConfiguration_l0_wp p_Labels p_Degree p_Nodes p_Edges hl6 ?_) ?_
    · simp (maxDischargeDepth := 9) only [xpost, ↓reduceIte, Nat.reduceEqDiff, i_ZeroConfiguration_l0_M] <;> (repeat' apply And.intro) <;> first | rfl | exact ⟨_, rfl⟩ | simp [lst, cat2_nil]
    · intro ex6 s6 hX6
      rcases r6_ with q6_ | q6_
      · unfold i_ZeroConfiguration_l0_X at hX6
        dsimp only at hX6 h
        obtain ⟨rfl, n6_0, n6_1⟩ := hX6
        obtain rfl := Option.some.inj h
        simp (maxDischargeDepth := 9) only [↓xpre, xpost, xlst, xcore, ↓reduceIte, Nat.reduceEqDiff, n6_0, n6_1] <;> (repeat' apply And.intro) <;> first | rfl | exact ⟨_, rfl⟩ | simp [lst, cat2_nil]
      · unfold i_ZeroConfiguration_l0_X at hX6
        dsimp only at hX6 h
        obtain rfl := hX6
        obtain rfl := Option.some.inj h
        simp (maxDischargeDepth := 9) only [↓xpre, xpost, xcore, yset, ↓reduceIte, Nat.reduceEqDiff] <;> (repeat' apply And.intro) <;> first | rfl | exact ⟨_, rfl⟩ | simp [lst, cat2_nil]
  · rw [if_neg e4] at h
    have e4f : (isProb p_Labels p_Degree p_Nodes p_Edges) = false := Bool.eq_false_iff.mpr e4
    obtain rfl := Option.some.inj h
    simp (maxDischargeDepth := 9) only [↓xpre, xpost, xcore, yset, ↓reduceIte, Nat.reduceEqDiff, Nat.reduceLT, Nat.reduceAdd, c3, e4f] <;> (repeat' apply And.intro) <;> first | rfl | exact ⟨_, rfl⟩ | simp [lst, cat2_nil]

noncomputable def s_zePairs (p_Labels : Int) (p_Degree : Int) (p_Nodes : List (List Int)) (p_Edges : List (List Int)) (x_ : List Int) (y : List Int) : Option (Bool) :=
  (s_zeBad p_Labels p_Degree p_Nodes p_Edges x_ y).bind fun r1_ =>
  some (!r1_.2.2)
/-- spec.zePairs -/
def k79 : SC :=
 .seq
 (.ops [
 ⟨(some 3), (.box 33 (.tmp 0)), 0, none⟩,
 ⟨(some 6), (.assign (.const (.bool false))), 4, none⟩])
 (.seq
 (.ops [
 ⟨(some 11), (.load 33 (.tmp 3)), 33, none⟩,
 ⟨(some 12), (.move (.tmp 1)), 26, none⟩,
 ⟨(some 13), (.move (.tmp 2)), 26, none⟩,
 ⟨(some 14), (.call ⟨(.value (.func 99)), #[(.tmp 11), (.tmp 12), (.tmp 13)], #[33, 26, 26]⟩), 118, none⟩,
 ⟨(some 10), (.move (.tmp 14)), 118, none⟩,
 ⟨(some 15), (.extract (.tmp 10) 0), 3, none⟩,
 ⟨(some 16), (.extract (.tmp 10) 1), 3, none⟩,
 ⟨(some 17), (.extract (.tmp 10) 2), 4, none⟩,
 ⟨(some 7), (.assign (.tmp 15)), 3, none⟩,
 ⟨(some 8), (.assign (.tmp 16)), 3, none⟩,
 ⟨(some 9), (.assign (.tmp 17)), 4, none⟩])
 (.seq
 (.ops [
 ⟨(some 18), (.move (.tmp 9)), 4, none⟩,
 ⟨(some 19), (.unOp .not 4 (.tmp 18)), 4, none⟩,
 ⟨(some 6), (.assign (.tmp 19)), 4, none⟩])
 .ret))
theorem slim79 : Tryz.f79.body.map (slim lends) = some k79 := by kernel_rfl
theorem ok79 : fnOk Tryz.f79 3 = true := by kernel_rfl
theorem c79 {a l : List D} {r : D × List D} (h : wpD Y.env k79 (fin tys l.length [ResultVar.tmp 6] r) (entry a l)) (ha : a.length = 3) : Y.call 79 a l = some r :=
  call_slim (Y := Y) rfl Tryz.func79 (ha ▸ ok79) slim79 h
theorem s_zePairs_call (p_Labels : Int) (p_Degree : Int) (p_Nodes : List (List Int)) (p_Edges : List (List Int)) (x_ : List Int) (y : List Int) {r : Bool} (h : s_zePairs p_Labels p_Degree p_Nodes p_Edges x_ y = some r) : Y.call 79 [D.agg [D.int .i64 p_Labels, D.int .i64 p_Degree, D.sl 26 (lst (fun x => D.sl 3 (lst (D.int .i64) x)) p_Nodes), D.sl 26 (lst (fun x => D.sl 3 (lst (D.int .i64) x)) p_Edges)], D.sl 3 (lst (D.int .i64) x_), D.sl 3 (lst (D.int .i64) y)] [] = some (D.bool r, []) := by
  refine c79 ?_ rfl
  unfold k79
  unfold s_zePairs at h
  obtain ⟨r1_, hl1, h⟩ := bindS h
  try dsimp only at h
  have c1 := s_zeBad_call p_Labels p_Degree p_Nodes p_Edges x_ y hl1
  obtain rfl := Option.some.inj h
  simp (maxDischargeDepth := 9) only [↓xpre, xpost, xcore, yset, ↓reduceIte, Nat.reduceEqDiff, Nat.reduceLT, Nat.reduceAdd, c1] <;> (repeat' apply And.intro) <;> first | rfl | exact ⟨_, rfl⟩ | simp [lst, cat2_nil]

noncomputable def s_zeGood_l0_S (p_Labels : Int) (p_Degree : Int) (p_Nodes : List (List Int)) (p_Edges : List (List Int)) (t9_ : Int) : Option ((Int) ⊕ (((List Int)) ⊕ Unit)) :=
  if t9_ < (p_Nodes.length : Int) then
    ck (0 ≤ t9_ ∧ t9_.toNat < p_Nodes.length) <|
    (s_zePairs p_Labels p_Degree p_Nodes p_Edges (p_Nodes.getD t9_.toNat default) (p_Nodes.getD t9_.toNat default)).bind fun r3_ =>
    if r3_ = true then
      (s_l1Own (p_Nodes.getD t9_.toNat default)).bind fun r5_ =>
      some (Sum.inr (Sum.inl r5_))
    else
      some (Sum.inl (IntKind.i64.wrap (t9_ + 1)))
  else
    some (Sum.inr (Sum.inr ()))
noncomputable def s_zeGood_l0 (p_Labels : Int) (p_Degree : Int) (p_Nodes : List (List Int)) (p_Edges : List (List Int)) (v : Int) : Option (((List Int)) ⊕ Unit) := itO (fun v => s_zeGood_l0_S p_Labels p_Degree p_Nodes p_Edges v) v
noncomputable def s_zeGood (p_Labels : Int) (p_Degree : Int) (p_Nodes : List (List Int)) (p_Edges : List (List Int)) : Option ((List Int) × Bool) :=
  (s_zeGood_l0 p_Labels p_Degree p_Nodes p_Edges 0).bind fun r2_ =>
  match r2_ with
  | .inl q2_ =>
    some (q2_, true)
  | .inr q2_ =>
    some ([], false)
/-- spec.zeGood -/
def k58_l0b : SC :=
 .seq
 (.ops [
 ⟨(some 10), (.binOp .lss 3 (.tmp 9) (.tmp 8) 3), 0, none⟩])
 (.seq
 (.cond (.tmp 10)
 .skip
 (.exit 0))
 (.seq
 (.block 1
 (.seq
 (.ops [
 ⟨(some 11), (.indexAddr 22 (.tmp 7) (.tmp 9)), 0, none⟩,
 ⟨(some 12), (.load 26 (.tmp 11)), 26, none⟩,
 ⟨(some 5), (.assign (.tmp 12)), 26, none⟩])
 (.seq
 (.ops [
 ⟨(some 13), (.load 33 (.tmp 1)), 33, none⟩,
 ⟨(some 14), (.move (.tmp 5)), 26, none⟩,
 ⟨(some 15), (.move (.tmp 5)), 26, none⟩,
 ⟨(some 16), (.call ⟨(.value (.func 79)), #[(.tmp 13), (.tmp 14), (.tmp 15)], #[33, 26, 26]⟩), 4, none⟩])
 (.cond (.tmp 16)
 (.seq
 (.ops [
 ⟨(some 17), (.move (.tmp 5)), 26, none⟩,
 ⟨(some 18), (.call ⟨(.value (.func 46)), #[(.tmp 17)], #[26]⟩), 26, none⟩,
 ⟨(some 2), (.assign (.tmp 18)), 26, none⟩,
 ⟨(some 3), (.assign (.const (.bool true))), 4, none⟩])
 .ret)
 .skip))))
 (.ops [
 ⟨(some 19), (.binOp .add 3 (.tmp 9) (.const (.int .i64 1)) 3), 3, none⟩,
 ⟨(some 9), (.move (.tmp 19)), 3, none⟩])))
def k58_l0 : SC := .loop k58_l0b
def k58 : SC :=
 .seq
 (.ops [
 ⟨(some 1), (.box 33 (.tmp 0)), 0, none⟩,
 ⟨(some 2), (.assign (.const (.slice none 0 0))), 26, none⟩,
 ⟨(some 3), (.assign (.const (.bool false))), 4, none⟩])
 (.seq
 (.seq
 (.ops [
 ⟨(some 6), (.fieldAddr 33 (.tmp 1) 2), 0, none⟩,
 ⟨(some 7), (.load 22 (.tmp 6)), 22, none⟩,
 ⟨(some 8), (.call ⟨(.builtin .len), #[(.tmp 7)], #[22]⟩), 3, none⟩,
 ⟨(some 9), (.move (.const (.int .i64 0))), 3, none⟩])
 (.block 0
 k58_l0))
 (.seq
 (.ops [
 ⟨(some 2), (.assign (.const (.slice none 0 0))), 26, none⟩,
 ⟨(some 3), (.assign (.const (.bool false))), 4, none⟩])
 .ret))
theorem slim58 : Tryz.f58.body.map (slim lends) = some k58 := by kernel_rfl
theorem ok58 : fnOk Tryz.f58 1 = true := by kernel_rfl
theorem c58 {a l : List D} {r : D × List D} (h : wpD Y.env k58 (fin tys l.length [ResultVar.tmp 2, ResultVar.tmp 3] r) (entry a l)) (ha : a.length = 1) : Y.call 58 a l = some r :=
  call_slim (Y := Y) rfl Tryz.func58 (ha ▸ ok58) slim58 h
def s_zeGood_l0_M (p_Labels : Int) (p_Degree : Int) (p_Nodes : List (List Int)) (p_Edges : List (List Int)) (t9_ : Int) (s : St) : Prop := s.v 1 = D.box [D.int .i64 p_Labels, D.int .i64 p_Degree, D.sl 26 (lst (fun x => D.sl 3 (lst (D.int .i64) x)) p_Nodes), D.sl 26 (lst (fun x => D.sl 3 (lst (D.int .i64) x)) p_Edges)] ∧ s.v 7 = D.sl 26 (lst (fun x => D.sl 3 (lst (D.int .i64) x)) p_Nodes) ∧ s.v 8 = D.int .i64 (p_Nodes.length : Int) ∧ s.v 9 = D.int .i64 t9_
def s_zeGood_l0_X (p_Labels : Int) (p_Degree : Int) (p_Nodes : List (List Int)) (p_Edges : List (List Int)) (r : ((List Int)) ⊕ Unit) (ex : Ex) (s : St) : Prop := match r with
  | .inl q => ex = .ret ∧ s.v 2 = D.own 3 (lst (D.int .i64) q) ∧ s.v 3 = D.bool true
  | .inr q => ex = .exit 0
theorem s_zeGood_l0_wp (p_Labels : Int) (p_Degree : Int) (p_Nodes : List (List Int)) (p_Edges : List (List Int)) {v : Int} {s : St} {r : ((List Int)) ⊕ Unit} (h : s_zeGood_l0 p_Labels p_Degree p_Nodes p_Edges v = some r) (hM : s_zeGood_l0_M p_Labels p_Degree p_Nodes p_Edges v s) : wpD Y.env k58_l0 (s_zeGood_l0_X p_Labels p_Degree p_Nodes p_Edges r) s := by
  unfold s_zeGood_l0 at h
  refine wd_itO (c := k58_l0b) (fun v => s_zeGood_l0_S p_Labels p_Degree p_Nodes p_Edges v) (fun v s => s_zeGood_l0_M p_Labels p_Degree p_Nodes p_Edges v s) (s_zeGood_l0_X p_Labels p_Degree p_Nodes p_Edges) ?_ h hM
  clear h hM s v r
  intro t9_ s o hM h
  unfold s_zeGood_l0_S at h
  unfold s_zeGood_l0_M at hM
  obtain ⟨m0, m1, m2, m3⟩ := hM
  unfold k58_l0b
  by_cases e1 : t9_ < (p_Nodes.length : Int)
  · rw [if_pos e1] at h
    obtain ⟨e2, h⟩ := ckS h
    obtain ⟨r3_, hl3, h⟩ := bindS h
    try dsimp only at h
    have c3 := s_zePairs_call p_Labels p_Degree p_Nodes p_Edges (p_Nodes.getD t9_.toNat default) (p_Nodes.getD t9_.toNat default) hl3
    by_cases e4 : r3_ = true
    · rw [if_pos e4] at h
      obtain ⟨r5_, hl5, h⟩ := bindS h
      try dsimp only at h
      have c5 := s_l1Own_call (p_Nodes.getD t9_.toNat default) hl5
      obtain rfl := Option.some.inj h
      simp (maxDischargeDepth := 9) only [↓xpre, xpost, xlst, xcore, yset, ↓reduceIte, Nat.reduceEqDiff, Nat.reduceAdd, m0, m1, m2, m3, e1, e2.1, e2.2, c3, e4, c5, s_zeGood_l0_M, s_zeGood_l0_X, sxR] <;> (repeat' apply And.intro) <;> first | rfl | exact ⟨_, rfl⟩ | simp [lst, cat2_nil]
    · rw [if_neg e4] at h
      have e4f : r3_ = false := Bool.eq_false_iff.mpr e4
      obtain rfl := Option.some.inj h
      simp (maxDischargeDepth := 9) only [↓xpre, xpost, xlst, xcore, yset, ↓reduceIte, Nat.reduceEqDiff, Nat.reduceAdd, m0, m1, m2, m3, e1, e2.1, e2.2, c3, e4f, s_zeGood_l0_M, sxN] <;> (repeat' apply And.intro) <;> first | rfl | exact ⟨_, rfl⟩ | simp [lst, cat2_nil]
  · rw [if_neg e1] at h
    obtain rfl := Option.some.inj h
    simp (maxDischargeDepth := 9) only [↓xpre, xpost, yset, ↓reduceIte, m2, m3, e1, s_zeGood_l0_M, s_zeGood_l0_X, sxE] <;> (repeat' apply And.intro) <;> first | rfl | exact ⟨_, rfl⟩ | simp [lst, cat2_nil]
theorem s_zeGood_call (p_Labels : Int) (p_Degree : Int) (p_Nodes : List (List Int)) (p_Edges : List (List Int)) {r : (List Int) × Bool} (h : s_zeGood p_Labels p_Degree p_Nodes p_Edges = some r) : Y.call 58 [D.agg [D.int .i64 p_Labels, D.int .i64 p_Degree, D.sl 26 (lst (fun x => D.sl 3 (lst (D.int .i64) x)) p_Nodes), D.sl 26 (lst (fun x => D.sl 3 (lst (D.int .i64) x)) p_Edges)]] [] = some (D.tup [D.own 3 (lst (D.int .i64) r.1), D.bool r.2], []) := by
  refine c58 ?_ rfl
  unfold k58
  unfold s_zeGood at h
  obtain ⟨r2_, hl2, h⟩ := bindS h
  try dsimp only at h
  simp (maxDischargeDepth := 9) only [↓xpre, xpost, xlst, xcore, yset, ↓reduceIte, Nat.reduceEqDiff, Nat.reduceLT, Nat.reduceAdd]
  refine wd_mono (s_zeGood_l0_wp p_Labels p_Degree p_Nodes p_Edges hl2 ?_) ?_
  · simp (maxDischargeDepth := 9) only [xpost, ↓reduceIte, Nat.reduceEqDiff, s_zeGood_l0_M] <;> (repeat' apply And.intro) <;> first | rfl | exact ⟨_, rfl⟩ | simp [lst, cat2_nil]
  · intro ex2 s2 hX2
    rcases r2_ with q2_ | q2_
    · unfold s_zeGood_l0_X at hX2
      dsimp only at hX2 h
      obtain ⟨rfl, n2_0, n2_1⟩ := hX2
      obtain rfl := Option.some.inj h
      simp (maxDischargeDepth := 9) only [↓xpre, xpost, xlst, xcore, ↓reduceIte, Nat.reduceEqDiff, n2_0, n2_1] <;> (repeat' apply And.intro) <;> first | rfl | exact ⟨_, rfl⟩ | simp [lst, cat2_nil]
    · unfold s_zeGood_l0_X at hX2
      dsimp only at hX2 h
      obtain rfl := hX2
      obtain rfl := Option.some.inj h
      simp (maxDischargeDepth := 9) only [↓xpre, xpost, xcore, yset, ↓reduceIte, Nat.reduceEqDiff] <;> (repeat' apply And.intro) <;> first | rfl | exact ⟨_, rfl⟩ | simp [lst, cat2_nil]

noncomputable def s_ZeroConfiguration (p_Labels : Int) (p_Degree : Int) (p_Nodes : List (List Int)) (p_Edges : List (List Int)) : Option ((List Int) × Bool) :=
  ck (Short p_Nodes) <|
  ck (Short p_Edges) <|
  if (isProb p_Labels p_Degree p_Nodes p_Edges) = true then
    (s_zeGood p_Labels p_Degree p_Nodes p_Edges).bind fun r5_ =>
    some (r5_.1, r5_.2)
  else
    some ([], false)
/-- spec.ZeroConfiguration -/
def k34 : SC :=
 .seq
 (.ops [
 ⟨(some 1), (.box 33 (.tmp 0)), 0, none⟩,
 ⟨(some 2), (.assign (.const (.slice none 0 0))), 26, none⟩,
 ⟨(some 3), (.assign (.const (.bool false))), 4, none⟩])
 (.seq
 (.seq
 (.ops [
 ⟨(some 4), (.load 33 (.tmp 1)), 33, none⟩,
 ⟨(some 5), (.call ⟨(.value (.func 57)), #[(.tmp 4)], #[33]⟩), 4, none⟩,
 ⟨(some 6), (.unOp .not 4 (.tmp 5)), 4, none⟩])
 (.cond (.tmp 6)
 (.seq
 (.ops [
 ⟨(some 2), (.assign (.const (.slice none 0 0))), 26, none⟩,
 ⟨(some 3), (.assign (.const (.bool false))), 4, none⟩])
 .ret)
 .skip))
 (.seq
 (.ops [
 ⟨(some 7), (.load 33 (.tmp 1)), 33, none⟩,
 ⟨(some 8), (.call ⟨(.value (.func 58)), #[(.tmp 7)], #[33]⟩), 57, none⟩,
 ⟨(some 9), (.extract (.tmp 8) 0), 26, none⟩,
 ⟨(some 10), (.extract (.tmp 8) 1), 4, none⟩,
 ⟨(some 2), (.assign (.tmp 9)), 26, none⟩,
 ⟨(some 3), (.assign (.tmp 10)), 4, none⟩])
 .ret))
theorem slim34 : Tryz.f34.body.map (slim lends) = some k34 := by kernel_rfl
theorem ok34 : fnOk Tryz.f34 1 = true := by kernel_rfl
theorem c34 {a l : List D} {r : D × List D} (h : wpD Y.env k34 (fin tys l.length [ResultVar.tmp 2, ResultVar.tmp 3] r) (entry a l)) (ha : a.length = 1) : Y.call 34 a l = some r :=
  call_slim (Y := Y) rfl Tryz.func34 (ha ▸ ok34) slim34 h
theorem s_ZeroConfiguration_call (p_Labels : Int) (p_Degree : Int) (p_Nodes : List (List Int)) (p_Edges : List (List Int)) {r : (List Int) × Bool} (h : s_ZeroConfiguration p_Labels p_Degree p_Nodes p_Edges = some r) : Y.call 34 [D.agg [D.int .i64 p_Labels, D.int .i64 p_Degree, D.sl 26 (lst (fun x => D.sl 3 (lst (D.int .i64) x)) p_Nodes), D.sl 26 (lst (fun x => D.sl 3 (lst (D.int .i64) x)) p_Edges)]] [] = some (D.tup [D.own 3 (lst (D.int .i64) r.1), D.bool r.2], []) := by
  refine c34 ?_ rfl
  unfold k34
  unfold s_ZeroConfiguration at h
  obtain ⟨e1, h⟩ := ckS h
  obtain ⟨e2, h⟩ := ckS h
  have c3 := s_prGood_cl p_Labels p_Degree p_Nodes p_Edges e1 e2
  by_cases e4 : (isProb p_Labels p_Degree p_Nodes p_Edges) = true
  · rw [if_pos e4] at h
    obtain ⟨r5_, hl5, h⟩ := bindS h
    try dsimp only at h
    have c5 := s_zeGood_call p_Labels p_Degree p_Nodes p_Edges hl5
    obtain rfl := Option.some.inj h
    simp (maxDischargeDepth := 9) only [↓xpre, xpost, xlst, xcore, yset, ↓reduceIte, Nat.reduceEqDiff, Nat.reduceLT, Nat.reduceAdd, c3, e4, c5] <;> (repeat' apply And.intro) <;> first | rfl | exact ⟨_, rfl⟩ | simp [lst, cat2_nil]
  · rw [if_neg e4] at h
    have e4f : (isProb p_Labels p_Degree p_Nodes p_Edges) = false := Bool.eq_false_iff.mpr e4
    obtain rfl := Option.some.inj h
    simp (maxDischargeDepth := 9) only [↓xpre, xpost, xcore, yset, ↓reduceIte, Nat.reduceEqDiff, Nat.reduceLT, Nat.reduceAdd, c3, e4f] <;> (repeat' apply And.intro) <;> first | rfl | exact ⟨_, rfl⟩ | simp [lst, cat2_nil]

theorem zero_both (a d : Int) (ns es : List (List Int)) (hn : Short ns) (he : Short es) : ∃ r ok, s_ZeroConfiguration a d ns es = some (r, ok) ∧ i_ZeroConfiguration a d ns es = some (r, ok) ∧ r.length ≤ 4 ∧ (ok = true → (r.length : Int) = d ∧ 1 ≤ r.length) := by
  unfold s_ZeroConfiguration i_ZeroConfiguration
  rw [ckT hn, ckT he, ckT hn, ckT he]
  by_cases h : isProb a d ns es = true
  · rw [if_pos h, if_pos h]
    obtain ⟨_, hd, c1, c2⟩ := isProb_cut h
    have hi := confs_inc c2
    have hl := hn.1
    have k1 : i_ZeroConfiguration_l0 a d ns es 0 = some (match firstIx ns.length (fun i => (badOf es (ns.getD i default) (ns.getD i default)).isNone) with | some i => .inl (ns.getD i default) | none => .inr ()) := by
      unfold i_ZeroConfiguration_l0
      refine itO_find (fun v => i_ZeroConfiguration_l0_S a d ns es v) (fun j => (j : Int)) ns.length (fun i => (badOf es (ns.getD i default) (ns.getD i default)).isNone) (fun i => .inl (ns.getD i default)) (.inr ()) ?_ ?_
      · intro i hi'
        simp only [i_ZeroConfiguration_l0_S, i_isGoodPair]
        rw [if_pos (lt_nat hi'), ckT (ix_nat hi'), Int.toNat_natCast, i_badPair_eq a d ns es _ _ he hi (hn.getD i) (hn.getD i), Option.bind_some, Option.bind_some, ckT (hn.getD i), wrS i (by omega)]
        cases badOf es (ns.getD i default) (ns.getD i default) <;> simp
      · simp only [i_ZeroConfiguration_l0_S]
        rw [if_neg (not_lt_nat _)]
    have k2 : s_zeGood_l0 a d ns es 0 = some (match firstIx ns.length (fun i => (badOf es (ns.getD i default) (ns.getD i default)).isNone) with | some i => .inl (ns.getD i default) | none => .inr ()) := by
      unfold s_zeGood_l0
      refine itO_find (fun v => s_zeGood_l0_S a d ns es v) (fun j => (j : Int)) ns.length (fun i => (badOf es (ns.getD i default) (ns.getD i default)).isNone) (fun i => .inl (ns.getD i default)) (.inr ()) ?_ ?_
      · intro i hi'
        have hx := hn.getD i
        simp only [s_zeGood_l0_S, s_zePairs, s_l1Own]
        rw [if_pos (lt_nat hi'), ckT (ix_nat hi'), Int.toNat_natCast, s_zeBad_eq a d ns es _ _ he hx hx, Option.bind_some, Option.bind_some, ckT (by omega), Option.bind_some, wrS i (by omega)]
        cases badOf es (ns.getD i default) (ns.getD i default) <;> simp
      · simp only [s_zeGood_l0_S]
        rw [if_neg (not_lt_nat _)]
    unfold s_zeGood
    rw [k1, k2]
    cases hq : firstIx ns.length (fun i => (badOf es (ns.getD i default) (ns.getD i default)).isNone) with
    | none => exact ⟨_, _, rfl, rfl, by simp, fun h => by cases h⟩
    | some i =>
      have := (confs_at c1 (mem_getD.2 ⟨i, (firstIx_lt hq).1, rfl⟩)).1
      refine ⟨_, _, rfl, rfl, ?_, fun _ => ⟨this, ?_⟩⟩
      · show (ns.getD i default).length ≤ 4
        omega
      · show 1 ≤ (ns.getD i default).length
        omega
  · rw [if_neg h, if_neg h]
    exact ⟨_, _, rfl, rfl, by simp, fun h => by cases h⟩

end Go.Proofs.YtjkgcfdcfjkkbaaGreat
