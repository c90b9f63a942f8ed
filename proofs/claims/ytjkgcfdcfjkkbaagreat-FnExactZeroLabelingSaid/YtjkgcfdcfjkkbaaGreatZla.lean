/- Labelings without rounds, lifted. Conditions: none. -/
import Derived.Test.YtjkgcfdcfjkkbaaGreatL6
import Derived.Test.YtjkgcfdcfjkkbaaGreatZer
import Derived.Test.YtjkgcfdcfjkkbaaGreatNis
import Derived.Test.YtjkgcfdcfjkkbaaGreatRep
import Derived.Test.YtjkgcfdcfjkkbaaGreatCon
namespace Go.Proofs.YtjkgcfdcfjkkbaaGreat
open Go Dv
set_option linter.unusedSimpArgs false
set_option linter.unusedVariables false
set_option maxRecDepth 100000
set_option maxHeartbeats 4000000

noncomputable def i_labelsFor (list : List Int) (ports : Int) : Option ((List Int)) :=
  if ports = (list.length : Int) then
    ck (list.length < 1099511627776) <|
    some list
  else
    ck (1 ≤ list.length) <|
    (g_slices_Repeat_Sint_int ((list.take 1).drop 0) ports).bind fun r3_ =>
    some r3_
/-- impl.labelsFor -/
def k41 : SC :=
 .seq
 (.ops [
 ⟨(some 4), (.assign (.const (.slice none 0 0))), 26, none⟩])
 (.seq
 (.seq
 (.ops [
 ⟨(some 5), (.move (.tmp 1)), 3, none⟩,
 ⟨(some 6), (.move (.tmp 0)), 26, none⟩,
 ⟨(some 7), (.call ⟨(.builtin .len), #[(.tmp 6)], #[26]⟩), 3, none⟩,
 ⟨(some 8), (.binOp .eql 3 (.tmp 5) (.tmp 7) 3), 4, none⟩])
 (.cond (.tmp 8)
 (.seq
 (.ops [
 ⟨(some 9), (.move (.tmp 0)), 26, none⟩,
 ⟨(some 10), (.call ⟨(.value (.func 51)), #[(.tmp 9)], #[26]⟩), 26, none⟩,
 ⟨(some 4), (.assign (.tmp 10)), 26, none⟩])
 .ret)
 .skip))
 (.seq
 (.ops [
 ⟨(some 11), (.move (.tmp 0)), 26, none⟩,
 ⟨(some 12), (.slice 26 (.tmp 11) none (some (.const (.int .i64 1))) none), 26, none⟩,
 ⟨(some 13), (.move (.tmp 1)), 3, none⟩,
 ⟨(some 14), (.call ⟨(.value (.func 67)), #[(.tmp 12), (.tmp 13)], #[26, 3]⟩), 26, none⟩,
 ⟨(some 4), (.assign (.tmp 14)), 26, none⟩])
 .ret))
theorem slim41 : Tryz.f41.body.map (slim lends) = some k41 := by kernel_rfl
theorem ok41 : fnOk Tryz.f41 2 = true := by kernel_rfl
theorem c41 {a l : List D} {r : D × List D} (h : wpD Y.env k41 (fin tys l.length [ResultVar.tmp 4] r) (entry a l)) (ha : a.length = 2) : Y.call 41 a l = some r :=
  call_slim (Y := Y) rfl Tryz.func41 (ha ▸ ok41) slim41 h
theorem i_labelsFor_call (list : List Int) (ports : Int) {r : (List Int)} (h : i_labelsFor list ports = some r) : Y.call 41 [D.sl 3 (lst (D.int .i64) list), D.int .i64 ports] [] = some (D.own 3 (lst (D.int .i64) r), []) := by
  refine c41 ?_ rfl
  unfold k41
  unfold i_labelsFor at h
  by_cases e1 : ports = (list.length : Int)
  · rw [if_pos e1] at h
    obtain ⟨e2, h⟩ := ckS h
    have c3 := g_slices_Clone_Sint_int_cl list e2
    obtain rfl := Option.some.inj h
    simp (maxDischargeDepth := 9) only [↓xpre, xpost, xlst, xcore, yset, ↓reduceIte, Nat.reduceEqDiff, Nat.reduceLT, Nat.reduceAdd, decide_eq_true e1, c3] <;> (repeat' apply And.intro) <;> first | rfl | exact ⟨_, rfl⟩ | simp [lst, cat2_nil]
  · rw [if_neg e1] at h
    obtain ⟨e2, h⟩ := ckS h
    obtain ⟨r3_, hl3, h⟩ := bindS h
    try dsimp only at h
    have c3 := g_slices_Repeat_Sint_int_call ((list.take 1).drop 0) ports hl3
    obtain rfl := Option.some.inj h
    simp (maxDischargeDepth := 9) only [↓xpre, xpost, xlst, xcore, yset, ↓reduceIte, Nat.reduceEqDiff, Nat.reduceLT, Nat.reduceAdd, Int.reduceLE, Int.reduceToNat, e1, e2, c3] <;> (repeat' apply And.intro) <;> first | rfl | exact ⟨_, rfl⟩ | simp [lst, cat2_nil]

noncomputable def i_ZeroLabeling_l0_S (n_Ends : List (List (Int × Int))) (r1_ : (List Int) × Bool) (out : List (List Int)) (t26_ : Int) : Option (((List (List Int)) × Int) ⊕ ((List (List Int)))) :=
  if t26_ < (n_Ends.length : Int) then
    ck (0 ≤ t26_ ∧ t26_.toNat < n_Ends.length) <|
    (i_labelsFor r1_.1 ((n_Ends.getD t26_.toNat default).length : Int)).bind fun r10_ =>
    ck (out.length + 1 < 1099511627776) <|
    some (Sum.inl ((out ++ [r10_]), IntKind.i64.wrap (t26_ + 1)))
  else
    some (Sum.inr out)
noncomputable def i_ZeroLabeling_l0 (n_Ends : List (List (Int × Int))) (r1_ : (List Int) × Bool) (v : (List (List Int)) × Int) : Option ((List (List Int))) := itO (fun v => i_ZeroLabeling_l0_S n_Ends r1_ v.1 v.2) v
noncomputable def i_ZeroLabeling (p_Labels : Int) (p_Degree : Int) (p_Nodes : List (List Int)) (p_Edges : List (List Int)) (n_Ends : List (List (Int × Int))) (n_Ids : List Int) (n_Inputs : List Int) : Option ((List (List Int)) × Bool) :=
  (i_ZeroConfiguration p_Labels p_Degree p_Nodes p_Edges).bind fun r1_ =>
  if r1_.2 = true then
    ck (ShortE n_Ends) <|
    ck (n_Ids.length < 1099511627776) <|
    ck (n_Inputs.length < 1099511627776) <|
    if (isNet n_Ends n_Ids n_Inputs) = true then
      (i_ZeroLabeling_l0 n_Ends r1_ ([], 0)).bind fun r9_ =>
      some (r9_, true)
    else
      some ([], false)
  else
    some ([], false)
/-- impl.ZeroLabeling -/
def k11_l0b : SC :=
 .seq
 (.ops [
 ⟨(some 27), (.binOp .lss 3 (.tmp 26) (.tmp 25) 3), 0, none⟩])
 (.seq
 (.cond (.tmp 27)
 .skip
 (.exit 0))
 (.seq
 (.block 1
 (.seq
 (.ops [
 ⟨(some 28), (.indexAddr 35 (.tmp 24) (.tmp 26)), 0, none⟩,
 ⟨(some 29), (.load 62 (.tmp 28)), 62, none⟩,
 ⟨(some 10), (.assign (.tmp 29)), 62, none⟩])
 (.ops [
 ⟨(some 30), (.move (.tmp 8)), 22, none⟩,
 ⟨(some 31), (.move (.tmp 6)), 26, none⟩,
 ⟨(some 32), (.move (.tmp 10)), 62, none⟩,
 ⟨(some 33), (.call ⟨(.builtin .len), #[(.tmp 32)], #[62]⟩), 3, none⟩,
 ⟨(some 34), (.call ⟨(.value (.func 41)), #[(.tmp 31), (.tmp 33)], #[26, 3]⟩), 26, none⟩,
 ⟨(some 35), (.buildSlice 22 1 #[(0, (.tmp 34))]), 22, none⟩,
 ⟨(some 36), (.call ⟨(.builtin .append), #[(.tmp 30), (.tmp 35)], #[22, 22]⟩), 22, none⟩,
 ⟨(some 8), (.assign (.tmp 36)), 22, none⟩])))
 (.ops [
 ⟨(some 37), (.binOp .add 3 (.tmp 26) (.const (.int .i64 1)) 3), 3, none⟩,
 ⟨(some 26), (.move (.tmp 37)), 3, none⟩])))
def k11_l0 : SC := .loop k11_l0b
def k11 : SC :=
 .seq
 (.ops [
 ⟨(some 2), (.box 33 (.tmp 0)), 0, none⟩,
 ⟨(some 3), (.box 37 (.tmp 1)), 0, none⟩,
 ⟨(some 4), (.assign (.const (.slice none 0 0))), 22, none⟩,
 ⟨(some 5), (.assign (.const (.bool false))), 4, none⟩])
 (.seq
 (.ops [
 ⟨(some 12), (.load 33 (.tmp 2)), 33, none⟩,
 ⟨(some 13), (.call ⟨(.value (.func 39)), #[(.tmp 12)], #[33]⟩), 57, none⟩,
 ⟨(some 11), (.move (.tmp 13)), 57, none⟩,
 ⟨(some 14), (.extract (.tmp 11) 0), 26, none⟩,
 ⟨(some 15), (.extract (.tmp 11) 1), 4, none⟩,
 ⟨(some 6), (.assign (.tmp 14)), 26, none⟩,
 ⟨(some 7), (.assign (.tmp 15)), 4, none⟩])
 (.seq
 (.seq
 (.ops [
 ⟨(some 16), (.move (.tmp 7)), 4, none⟩,
 ⟨(some 17), (.unOp .not 4 (.tmp 16)), 4, none⟩,
 ⟨(some 18), (.move (.tmp 17)), 4, none⟩,
 ⟨(some 19), (.load 37 (.tmp 3)), 37, (some (some 18, false))⟩,
 ⟨(some 20), (.call ⟨(.value (.func 40)), #[(.tmp 19)], #[37]⟩), 4, (some (some 18, false))⟩,
 ⟨(some 21), (.unOp .not 4 (.tmp 20)), 4, (some (some 18, false))⟩,
 ⟨(some 22), (.pick (.tmp 18) (.const (.bool true)) (.tmp 21)), 4, none⟩])
 (.cond (.tmp 22)
 (.seq
 (.ops [
 ⟨(some 4), (.assign (.const (.slice none 0 0))), 22, none⟩,
 ⟨(some 5), (.assign (.const (.bool false))), 4, none⟩])
 .ret)
 .skip))
 (.seq
 (.ops [
 ⟨(some 8), (.assign (.const (.slice none 0 0))), 22, none⟩])
 (.seq
 (.seq
 (.ops [
 ⟨(some 23), (.fieldAddr 37 (.tmp 3) 0), 0, none⟩,
 ⟨(some 24), (.load 35 (.tmp 23)), 35, none⟩,
 ⟨(some 25), (.call ⟨(.builtin .len), #[(.tmp 24)], #[35]⟩), 3, none⟩,
 ⟨(some 26), (.move (.const (.int .i64 0))), 3, none⟩])
 (.block 0
 k11_l0))
 (.seq
 (.ops [
 ⟨(some 38), (.move (.tmp 8)), 22, none⟩,
 ⟨(some 4), (.assign (.tmp 38)), 22, none⟩,
 ⟨(some 5), (.assign (.const (.bool true))), 4, none⟩])
 .ret)))))
theorem slim11 : Tryz.f11.body.map (slim lends) = some k11 := by kernel_rfl
theorem ok11 : fnOk Tryz.f11 2 = true := by kernel_rfl
theorem c11 {a l : List D} {r : D × List D} (h : wpD Y.env k11 (fin tys l.length [ResultVar.tmp 4, ResultVar.tmp 5] r) (entry a l)) (ha : a.length = 2) : Y.call 11 a l = some r :=
  call_slim (Y := Y) rfl Tryz.func11 (ha ▸ ok11) slim11 h
def i_ZeroLabeling_l0_M (n_Ends : List (List (Int × Int))) (r1_ : (List Int) × Bool) (out : List (List Int)) (t26_ : Int) (s : St) : Prop := s.v 6 = D.own 3 (lst (D.int .i64) r1_.1) ∧ s.v 8 = D.own 26 (lst (fun x => D.own 3 (lst (D.int .i64) x)) out) ∧ s.v 24 = D.sl 62 (lst (fun x => D.sl 85 (cat2 .i64 .i64 x)) n_Ends) ∧ s.v 25 = D.int .i64 (n_Ends.length : Int) ∧ s.v 26 = D.int .i64 t26_
def i_ZeroLabeling_l0_X (n_Ends : List (List (Int × Int))) (r1_ : (List Int) × Bool) (r : (List (List Int))) (ex : Ex) (s : St) : Prop := ex = .exit 0 ∧ s.v 8 = D.own 26 (lst (fun x => D.own 3 (lst (D.int .i64) x)) r)
theorem i_ZeroLabeling_l0_wp (n_Ends : List (List (Int × Int))) (r1_ : (List Int) × Bool) {v : (List (List Int)) × Int} {s : St} {r : (List (List Int))} (h : i_ZeroLabeling_l0 n_Ends r1_ v = some r) (hM : i_ZeroLabeling_l0_M n_Ends r1_ v.1 v.2 s) : wpD Y.env k11_l0 (i_ZeroLabeling_l0_X n_Ends r1_ r) s := by
  unfold i_ZeroLabeling_l0 at h
  refine wd_itO (c := k11_l0b) (fun v => i_ZeroLabeling_l0_S n_Ends r1_ v.1 v.2) (fun v s => i_ZeroLabeling_l0_M n_Ends r1_ v.1 v.2 s) (i_ZeroLabeling_l0_X n_Ends r1_) ?_ h hM
  clear h hM s v r
  intro v s o hM h
  obtain ⟨out, t26_⟩ := v
  dsimp only at h hM
  unfold i_ZeroLabeling_l0_S at h
  unfold i_ZeroLabeling_l0_M at hM
  obtain ⟨m0, m1, m2, m3, m4⟩ := hM
  unfold k11_l0b
  by_cases e8 : t26_ < (n_Ends.length : Int)
  · rw [if_pos e8] at h
    obtain ⟨e9, h⟩ := ckS h
    obtain ⟨r10_, hl10, h⟩ := bindS h
    try dsimp only at h
    have c10 := i_labelsFor_call r1_.1 ((n_Ends.getD t26_.toNat default).length : Int) hl10
    obtain ⟨e11, h⟩ := ckS h
    obtain rfl := Option.some.inj h
    simp (maxDischargeDepth := 9) only [↓xpre, xpost, xlst, xc2, xcore, yset, ↓reduceIte, Nat.reduceEqDiff, Nat.reduceLeDiff, Nat.reduceAdd, m0, m1, m2, m3, m4, e8, e9.1, e9.2, c10, e11, i_ZeroLabeling_l0_M, sxN] <;> (repeat' apply And.intro) <;> first | rfl | exact ⟨_, rfl⟩ | simp [lst, cat2_nil]
  · rw [if_neg e8] at h
    obtain rfl := Option.some.inj h
    simp (maxDischargeDepth := 9) only [↓xpre, xpost, yset, ↓reduceIte, Nat.reduceEqDiff, m1, m3, m4, e8, i_ZeroLabeling_l0_M, i_ZeroLabeling_l0_X, sxE] <;> (repeat' apply And.intro) <;> first | rfl | exact ⟨_, rfl⟩ | simp [lst, cat2_nil]
theorem i_ZeroLabeling_call (p_Labels : Int) (p_Degree : Int) (p_Nodes : List (List Int)) (p_Edges : List (List Int)) (n_Ends : List (List (Int × Int))) (n_Ids : List Int) (n_Inputs : List Int) {r : (List (List Int)) × Bool} (h : i_ZeroLabeling p_Labels p_Degree p_Nodes p_Edges n_Ends n_Ids n_Inputs = some r) : Y.call 11 [D.agg [D.int .i64 p_Labels, D.int .i64 p_Degree, D.sl 26 (lst (fun x => D.sl 3 (lst (D.int .i64) x)) p_Nodes), D.sl 26 (lst (fun x => D.sl 3 (lst (D.int .i64) x)) p_Edges)], D.agg [D.sl 62 (lst (fun x => D.sl 85 (cat2 .i64 .i64 x)) n_Ends), D.sl 3 (lst (D.int .i64) n_Ids), D.sl 3 (lst (D.int .i64) n_Inputs)]] [] = some (D.tup [D.own 26 (lst (fun x => D.own 3 (lst (D.int .i64) x)) r.1), D.bool r.2], []) := by
  refine c11 ?_ rfl
  unfold k11
  unfold i_ZeroLabeling at h
  obtain ⟨r1_, hl1, h⟩ := bindS h
  try dsimp only at h
  have c1 := i_ZeroConfiguration_call p_Labels p_Degree p_Nodes p_Edges hl1
  by_cases e2 : r1_.2 = true
  · rw [if_pos e2] at h
    obtain ⟨e3, h⟩ := ckS h
    obtain ⟨e4, h⟩ := ckS h
    obtain ⟨e5, h⟩ := ckS h
    have c6 := i_IsNetwork_cl n_Ends n_Ids n_Inputs e3 e4 e5
    by_cases e7 : (isNet n_Ends n_Ids n_Inputs) = true
    · rw [if_pos e7] at h
      obtain ⟨r9_, hl9, h⟩ := bindS h
      try dsimp only at h
      simp (maxDischargeDepth := 9) only [↓xpre, xpost, xlst, xcore, yset, ↓reduceIte, Nat.reduceEqDiff, Nat.reduceLT, Nat.reduceAdd, c1, e2, c6, e7]
      refine wd_mono (i_ZeroLabeling_l0_wp n_Ends r1_ hl9 ?_) ?_
      · simp (maxDischargeDepth := 9) only [xpost, ↓reduceIte, Nat.reduceEqDiff, i_ZeroLabeling_l0_M] <;> (repeat' apply And.intro) <;> first | rfl | exact ⟨_, rfl⟩ | simp [lst, cat2_nil]
      · intro ex9 s9 hX9
        unfold i_ZeroLabeling_l0_X at hX9
        obtain ⟨rfl, n9_0⟩ := hX9
        obtain rfl := Option.some.inj h
        simp (maxDischargeDepth := 9) only [↓xpre, xpost, xlst, xcore, yset, ↓reduceIte, Nat.reduceEqDiff, n9_0] <;> (repeat' apply And.intro) <;> first | rfl | exact ⟨_, rfl⟩ | simp [lst, cat2_nil]
    · rw [if_neg e7] at h
      have e7f : (isNet n_Ends n_Ids n_Inputs) = false := Bool.eq_false_iff.mpr e7
      obtain rfl := Option.some.inj h
      simp (maxDischargeDepth := 9) only [↓xpre, xpost, xlst, xcore, yset, ↓reduceIte, Nat.reduceEqDiff, Nat.reduceLT, Nat.reduceAdd, c1, e2, c6, e7f] <;> (repeat' apply And.intro) <;> first | rfl | exact ⟨_, rfl⟩ | simp [lst, cat2_nil]
  · rw [if_neg e2] at h
    have e2f : r1_.2 = false := Bool.eq_false_iff.mpr e2
    obtain rfl := Option.some.inj h
    simp (maxDischargeDepth := 9) only [↓xpre, xpost, xlst, xcore, yset, ↓reduceIte, Nat.reduceEqDiff, Nat.reduceLT, Nat.reduceAdd, c1, e2f] <;> (repeat' apply And.intro) <;> first | rfl | exact ⟨_, rfl⟩ | simp [lst, cat2_nil]

noncomputable def s_zeRow_l0_S (x_ : List Int) (ports : Int) (row : List Int) (t19_ : Int) : Option (((List Int) × Int) ⊕ ((List Int))) :=
  if t19_ < ((List.replicate ports.toNat 0).length : Int) then
    ck (0 < x_.length) <|
    ck (0 ≤ t19_ ∧ t19_.toNat < row.length) <|
    some (Sum.inl ((row.set t19_.toNat (x_.getD 0 default)), IntKind.i64.wrap (t19_ + 1)))
  else
    some (Sum.inr row)
noncomputable def s_zeRow_l0 (x_ : List Int) (ports : Int) (v : (List Int) × Int) : Option ((List Int)) := itO (fun v => s_zeRow_l0_S x_ ports v.1 v.2) v
noncomputable def s_zeRow (p_Labels : Int) (p_Degree : Int) (p_Nodes : List (List Int)) (p_Edges : List (List Int)) (x_ : List Int) (ports : Int) : Option ((List Int)) :=
  if ports = p_Degree then
    (s_l1Own x_).bind fun r2_ =>
    some r2_
  else
    ck (0 ≤ ports ∧ ports < 1099511627776) <|
    (s_zeRow_l0 x_ ports ((List.replicate ports.toNat 0), 0)).bind fun r4_ =>
    some r4_
/-- spec.zeRow -/
def k36_l0b : SC :=
 .seq
 (.ops [
 ⟨(some 20), (.binOp .lss 3 (.tmp 19) (.tmp 18) 3), 0, none⟩])
 (.seq
 (.cond (.tmp 20)
 .skip
 (.exit 0))
 (.seq
 (.block 1
 (.seq
 (.ops [
 ⟨(some 21), (.move (.tmp 19)), 3, none⟩,
 ⟨(some 8), (.assign (.tmp 21)), 3, none⟩])
 (.ops [
 ⟨(some 22), (.move (.tmp 7)), 26, none⟩,
 ⟨(some 23), (.move (.tmp 8)), 3, none⟩,
 ⟨(some 24), (.move (.tmp 1)), 26, none⟩,
 ⟨(some 25), (.indexAddr 26 (.tmp 24) (.const (.int .i64 0))), 0, none⟩,
 ⟨(some 26), (.load 3 (.tmp 25)), 3, none⟩,
 ⟨(some 27), (.indexAddr 26 (.tmp 22) (.tmp 23)), 0, none⟩,
 ⟨none, (.store 3 (.tmp 27) (.tmp 26)), 0, none⟩])))
 (.ops [
 ⟨(some 28), (.binOp .add 3 (.tmp 19) (.const (.int .i64 1)) 3), 3, none⟩,
 ⟨(some 19), (.move (.tmp 28)), 3, none⟩])))
def k36_l0 : SC := .loop k36_l0b
def k36 : SC :=
 .seq
 (.ops [
 ⟨(some 3), (.box 33 (.tmp 0)), 0, none⟩,
 ⟨(some 6), (.assign (.const (.slice none 0 0))), 26, none⟩])
 (.seq
 (.seq
 (.ops [
 ⟨(some 9), (.move (.tmp 2)), 3, none⟩,
 ⟨(some 10), (.fieldAddr 33 (.tmp 3) 1), 0, none⟩,
 ⟨(some 11), (.load 3 (.tmp 10)), 3, none⟩,
 ⟨(some 12), (.binOp .eql 3 (.tmp 9) (.tmp 11) 3), 4, none⟩])
 (.cond (.tmp 12)
 (.seq
 (.ops [
 ⟨(some 13), (.move (.tmp 1)), 26, none⟩,
 ⟨(some 14), (.call ⟨(.value (.func 46)), #[(.tmp 13)], #[26]⟩), 26, none⟩,
 ⟨(some 6), (.assign (.tmp 14)), 26, none⟩])
 .ret)
 .skip))
 (.seq
 (.ops [
 ⟨(some 15), (.move (.tmp 2)), 3, none⟩,
 ⟨(some 16), (.makeSlice 26 (.tmp 15) (.tmp 15)), 26, none⟩,
 ⟨(some 7), (.assign (.tmp 16)), 26, none⟩])
 (.seq
 (.seq
 (.ops [
 ⟨(some 17), (.move (.tmp 7)), 26, none⟩,
 ⟨(some 18), (.call ⟨(.builtin .len), #[(.tmp 17)], #[26]⟩), 3, none⟩,
 ⟨(some 19), (.move (.const (.int .i64 0))), 3, none⟩])
 (.block 0
 k36_l0))
 (.seq
 (.ops [
 ⟨(some 29), (.move (.tmp 7)), 26, none⟩,
 ⟨(some 6), (.assign (.tmp 29)), 26, none⟩])
 .ret))))
theorem slim36 : Tryz.f36.body.map (slim lends) = some k36 := by kernel_rfl
theorem ok36 : fnOk Tryz.f36 3 = true := by kernel_rfl
theorem c36 {a l : List D} {r : D × List D} (h : wpD Y.env k36 (fin tys l.length [ResultVar.tmp 6] r) (entry a l)) (ha : a.length = 3) : Y.call 36 a l = some r :=
  call_slim (Y := Y) rfl Tryz.func36 (ha ▸ ok36) slim36 h
def s_zeRow_l0_M (x_ : List Int) (ports : Int) (row : List Int) (t19_ : Int) (s : St) : Prop := s.v 1 = D.sl 3 (lst (D.int .i64) x_) ∧ s.v 7 = D.own 3 (lst (D.int .i64) row) ∧ s.v 18 = D.int .i64 ((List.replicate ports.toNat 0).length : Int) ∧ s.v 19 = D.int .i64 t19_
def s_zeRow_l0_X (x_ : List Int) (ports : Int) (r : (List Int)) (ex : Ex) (s : St) : Prop := ex = .exit 0 ∧ s.v 7 = D.own 3 (lst (D.int .i64) r)
theorem s_zeRow_l0_wp (x_ : List Int) (ports : Int) {v : (List Int) × Int} {s : St} {r : (List Int)} (h : s_zeRow_l0 x_ ports v = some r) (hM : s_zeRow_l0_M x_ ports v.1 v.2 s) : wpD Y.env k36_l0 (s_zeRow_l0_X x_ ports r) s := by
  unfold s_zeRow_l0 at h
  refine wd_itO (c := k36_l0b) (fun v => s_zeRow_l0_S x_ ports v.1 v.2) (fun v s => s_zeRow_l0_M x_ ports v.1 v.2 s) (s_zeRow_l0_X x_ ports) ?_ h hM
  clear h hM s v r
  intro v s o hM h
  obtain ⟨row, t19_⟩ := v
  dsimp only at h hM
  unfold s_zeRow_l0_S at h
  unfold s_zeRow_l0_M at hM
  obtain ⟨m0, m1, m2, m3⟩ := hM
  unfold k36_l0b
  by_cases e3 : t19_ < ((List.replicate ports.toNat 0).length : Int)
  · rw [if_pos e3] at h
    obtain ⟨e4, h⟩ := ckS h
    obtain ⟨e5, h⟩ := ckS h
    obtain rfl := Option.some.inj h
    simp (maxDischargeDepth := 9) only [↓xpre, xpost, xlst, xcore, yset, ↓reduceIte, Nat.reduceEqDiff, m0, m1, m2, m3, e3, e4, e5.1, e5.2, s_zeRow_l0_M, sxN] <;> (repeat' apply And.intro) <;> first | rfl | exact ⟨_, rfl⟩ | simp [lst, cat2_nil]
  · rw [if_neg e3] at h
    obtain rfl := Option.some.inj h
    simp (maxDischargeDepth := 9) only [↓xpre, xpost, yset, ↓reduceIte, Nat.reduceEqDiff, m1, m2, m3, e3, s_zeRow_l0_M, s_zeRow_l0_X, sxE] <;> (repeat' apply And.intro) <;> first | rfl | exact ⟨_, rfl⟩ | simp [lst, cat2_nil]
theorem s_zeRow_call (p_Labels : Int) (p_Degree : Int) (p_Nodes : List (List Int)) (p_Edges : List (List Int)) (x_ : List Int) (ports : Int) {r : (List Int)} (h : s_zeRow p_Labels p_Degree p_Nodes p_Edges x_ ports = some r) : Y.call 36 [D.agg [D.int .i64 p_Labels, D.int .i64 p_Degree, D.sl 26 (lst (fun x => D.sl 3 (lst (D.int .i64) x)) p_Nodes), D.sl 26 (lst (fun x => D.sl 3 (lst (D.int .i64) x)) p_Edges)], D.sl 3 (lst (D.int .i64) x_), D.int .i64 ports] [] = some (D.own 3 (lst (D.int .i64) r), []) := by
  refine c36 ?_ rfl
  unfold k36
  unfold s_zeRow at h
  by_cases e1 : ports = p_Degree
  · rw [if_pos e1] at h
    obtain ⟨r2_, hl2, h⟩ := bindS h
    try dsimp only at h
    have c2 := s_l1Own_call x_ hl2
    obtain rfl := Option.some.inj h
    simp (maxDischargeDepth := 9) only [↓xpre, xpost, xlst, xcore, yset, ↓reduceIte, Nat.reduceEqDiff, Nat.reduceLT, Nat.reduceAdd, decide_eq_true e1, c2] <;> (repeat' apply And.intro) <;> first | rfl | exact ⟨_, rfl⟩ | simp [lst, cat2_nil]
  · rw [if_neg e1] at h
    obtain ⟨e2, h⟩ := ckS h
    obtain ⟨r4_, hl4, h⟩ := bindS h
    try dsimp only at h
    simp (maxDischargeDepth := 9) only [↓xpre, xpost, xlst, xcore, yset, ↓reduceIte, Nat.reduceEqDiff, Nat.reduceLT, Nat.reduceAdd, e1, e2.1, e2.2]
    refine wd_mono (s_zeRow_l0_wp x_ ports hl4 ?_) ?_
    · simp (maxDischargeDepth := 9) only [xpost, xcore, ↓reduceIte, Nat.reduceEqDiff, Nat.reduceLT, s_zeRow_l0_M] <;> (repeat' apply And.intro) <;> first | rfl | exact ⟨_, rfl⟩ | simp [lst]
    · intro ex4 s4 hX4
      unfold s_zeRow_l0_X at hX4
      obtain ⟨rfl, n4_0⟩ := hX4
      obtain rfl := Option.some.inj h
      simp (maxDischargeDepth := 9) only [↓xpre, xpost, xlst, xcore, ↓reduceIte, Nat.reduceEqDiff, n4_0] <;> (repeat' apply And.intro) <;> first | rfl | exact ⟨_, rfl⟩ | simp [lst, cat2_nil]

noncomputable def s_ZeroLabeling_l0_S (p_Labels : Int) (p_Degree : Int) (p_Nodes : List (List Int)) (p_Edges : List (List Int)) (n_Ends : List (List (Int × Int))) (r1_ : (List Int) × Bool) (out : List (List Int)) (t26_ : Int) : Option (((List (List Int)) × Int) ⊕ ((List (List Int)))) :=
  if t26_ < (n_Ends.length : Int) then
    ck (0 ≤ t26_ ∧ t26_.toNat < n_Ends.length) <|
    (s_zeRow p_Labels p_Degree p_Nodes p_Edges r1_.1 ((n_Ends.getD t26_.toNat default).length : Int)).bind fun r10_ =>
    ck (out.length + 1 < 1099511627776) <|
    some (Sum.inl ((out ++ [r10_]), IntKind.i64.wrap (t26_ + 1)))
  else
    some (Sum.inr out)
noncomputable def s_ZeroLabeling_l0 (p_Labels : Int) (p_Degree : Int) (p_Nodes : List (List Int)) (p_Edges : List (List Int)) (n_Ends : List (List (Int × Int))) (r1_ : (List Int) × Bool) (v : (List (List Int)) × Int) : Option ((List (List Int))) := itO (fun v => s_ZeroLabeling_l0_S p_Labels p_Degree p_Nodes p_Edges n_Ends r1_ v.1 v.2) v
noncomputable def s_ZeroLabeling (p_Labels : Int) (p_Degree : Int) (p_Nodes : List (List Int)) (p_Edges : List (List Int)) (n_Ends : List (List (Int × Int))) (n_Ids : List Int) (n_Inputs : List Int) : Option ((List (List Int)) × Bool) :=
  (s_ZeroConfiguration p_Labels p_Degree p_Nodes p_Edges).bind fun r1_ =>
  if r1_.2 = true then
    ck (ShortE n_Ends) <|
    ck (n_Ids.length < 1099511627776) <|
    ck (n_Inputs.length < 1099511627776) <|
    if (isNet n_Ends n_Ids n_Inputs) = true then
      (s_ZeroLabeling_l0 p_Labels p_Degree p_Nodes p_Edges n_Ends r1_ ([], 0)).bind fun r9_ =>
      some (r9_, true)
    else
      some ([], false)
  else
    some ([], false)
/-- spec.ZeroLabeling -/
def k8_l0b : SC :=
 .seq
 (.ops [
 ⟨(some 27), (.binOp .lss 3 (.tmp 26) (.tmp 25) 3), 0, none⟩])
 (.seq
 (.cond (.tmp 27)
 .skip
 (.exit 0))
 (.seq
 (.block 1
 (.seq
 (.ops [
 ⟨(some 28), (.indexAddr 35 (.tmp 24) (.tmp 26)), 0, none⟩,
 ⟨(some 29), (.load 62 (.tmp 28)), 62, none⟩,
 ⟨(some 10), (.assign (.tmp 29)), 62, none⟩])
 (.ops [
 ⟨(some 30), (.move (.tmp 8)), 22, none⟩,
 ⟨(some 31), (.load 33 (.tmp 2)), 33, none⟩,
 ⟨(some 32), (.move (.tmp 6)), 26, none⟩,
 ⟨(some 33), (.move (.tmp 10)), 62, none⟩,
 ⟨(some 34), (.call ⟨(.builtin .len), #[(.tmp 33)], #[62]⟩), 3, none⟩,
 ⟨(some 35), (.call ⟨(.value (.func 36)), #[(.tmp 31), (.tmp 32), (.tmp 34)], #[33, 26, 3]⟩), 26, none⟩,
 ⟨(some 36), (.buildSlice 22 1 #[(0, (.tmp 35))]), 22, none⟩,
 ⟨(some 37), (.call ⟨(.builtin .append), #[(.tmp 30), (.tmp 36)], #[22, 22]⟩), 22, none⟩,
 ⟨(some 8), (.assign (.tmp 37)), 22, none⟩])))
 (.ops [
 ⟨(some 38), (.binOp .add 3 (.tmp 26) (.const (.int .i64 1)) 3), 3, none⟩,
 ⟨(some 26), (.move (.tmp 38)), 3, none⟩])))
def k8_l0 : SC := .loop k8_l0b
def k8 : SC :=
 .seq
 (.ops [
 ⟨(some 2), (.box 33 (.tmp 0)), 0, none⟩,
 ⟨(some 3), (.box 37 (.tmp 1)), 0, none⟩,
 ⟨(some 4), (.assign (.const (.slice none 0 0))), 22, none⟩,
 ⟨(some 5), (.assign (.const (.bool false))), 4, none⟩])
 (.seq
 (.ops [
 ⟨(some 12), (.load 33 (.tmp 2)), 33, none⟩,
 ⟨(some 13), (.call ⟨(.value (.func 34)), #[(.tmp 12)], #[33]⟩), 57, none⟩,
 ⟨(some 11), (.move (.tmp 13)), 57, none⟩,
 ⟨(some 14), (.extract (.tmp 11) 0), 26, none⟩,
 ⟨(some 15), (.extract (.tmp 11) 1), 4, none⟩,
 ⟨(some 6), (.assign (.tmp 14)), 26, none⟩,
 ⟨(some 7), (.assign (.tmp 15)), 4, none⟩])
 (.seq
 (.seq
 (.ops [
 ⟨(some 16), (.move (.tmp 7)), 4, none⟩,
 ⟨(some 17), (.unOp .not 4 (.tmp 16)), 4, none⟩,
 ⟨(some 18), (.move (.tmp 17)), 4, none⟩,
 ⟨(some 19), (.load 37 (.tmp 3)), 37, (some (some 18, false))⟩,
 ⟨(some 20), (.call ⟨(.value (.func 35)), #[(.tmp 19)], #[37]⟩), 4, (some (some 18, false))⟩,
 ⟨(some 21), (.unOp .not 4 (.tmp 20)), 4, (some (some 18, false))⟩,
 ⟨(some 22), (.pick (.tmp 18) (.const (.bool true)) (.tmp 21)), 4, none⟩])
 (.cond (.tmp 22)
 (.seq
 (.ops [
 ⟨(some 4), (.assign (.const (.slice none 0 0))), 22, none⟩,
 ⟨(some 5), (.assign (.const (.bool false))), 4, none⟩])
 .ret)
 .skip))
 (.seq
 (.ops [
 ⟨(some 8), (.assign (.const (.slice none 0 0))), 22, none⟩])
 (.seq
 (.seq
 (.ops [
 ⟨(some 23), (.fieldAddr 37 (.tmp 3) 0), 0, none⟩,
 ⟨(some 24), (.load 35 (.tmp 23)), 35, none⟩,
 ⟨(some 25), (.call ⟨(.builtin .len), #[(.tmp 24)], #[35]⟩), 3, none⟩,
 ⟨(some 26), (.move (.const (.int .i64 0))), 3, none⟩])
 (.block 0
 k8_l0))
 (.seq
 (.ops [
 ⟨(some 39), (.move (.tmp 8)), 22, none⟩,
 ⟨(some 4), (.assign (.tmp 39)), 22, none⟩,
 ⟨(some 5), (.assign (.const (.bool true))), 4, none⟩])
 .ret)))))
theorem slim8 : Tryz.f8.body.map (slim lends) = some k8 := by kernel_rfl
theorem ok8 : fnOk Tryz.f8 2 = true := by kernel_rfl
theorem c8 {a l : List D} {r : D × List D} (h : wpD Y.env k8 (fin tys l.length [ResultVar.tmp 4, ResultVar.tmp 5] r) (entry a l)) (ha : a.length = 2) : Y.call 8 a l = some r :=
  call_slim (Y := Y) rfl Tryz.func8 (ha ▸ ok8) slim8 h
def s_ZeroLabeling_l0_M (p_Labels : Int) (p_Degree : Int) (p_Nodes : List (List Int)) (p_Edges : List (List Int)) (n_Ends : List (List (Int × Int))) (r1_ : (List Int) × Bool) (out : List (List Int)) (t26_ : Int) (s : St) : Prop := s.v 2 = D.box [D.int .i64 p_Labels, D.int .i64 p_Degree, D.sl 26 (lst (fun x => D.sl 3 (lst (D.int .i64) x)) p_Nodes), D.sl 26 (lst (fun x => D.sl 3 (lst (D.int .i64) x)) p_Edges)] ∧ s.v 6 = D.own 3 (lst (D.int .i64) r1_.1) ∧ s.v 8 = D.own 26 (lst (fun x => D.own 3 (lst (D.int .i64) x)) out) ∧ s.v 24 = D.sl 62 (lst (fun x => D.sl 85 (cat2 .i64 .i64 x)) n_Ends) ∧ s.v 25 = D.int .i64 (n_Ends.length : Int) ∧ s.v 26 = D.int .i64 t26_
def s_ZeroLabeling_l0_X (p_Labels : Int) (p_Degree : Int) (p_Nodes : List (List Int)) (p_Edges : List (List Int)) (n_Ends : List (List (Int × Int))) (r1_ : (List Int) × Bool) (r : (List (List Int))) (ex : Ex) (s : St) : Prop := ex = .exit 0 ∧ s.v 8 = D.own 26 (lst (fun x => D.own 3 (lst (D.int .i64) x)) r)
theorem s_ZeroLabeling_l0_wp (p_Labels : Int) (p_Degree : Int) (p_Nodes : List (List Int)) (p_Edges : List (List Int)) (n_Ends : List (List (Int × Int))) (r1_ : (List Int) × Bool) {v : (List (List Int)) × Int} {s : St} {r : (List (List Int))} (h : s_ZeroLabeling_l0 p_Labels p_Degree p_Nodes p_Edges n_Ends r1_ v = some r) (hM : s_ZeroLabeling_l0_M p_Labels p_Degree p_Nodes p_Edges n_Ends r1_ v.1 v.2 s) : wpD Y.env k8_l0 (s_ZeroLabeling_l0_X p_Labels p_Degree p_Nodes p_Edges n_Ends r1_ r) s := by
  unfold s_ZeroLabeling_l0 at h
  refine wd_itO (c := k8_l0b) (fun v => s_ZeroLabeling_l0_S p_Labels p_Degree p_Nodes p_Edges n_Ends r1_ v.1 v.2) (fun v s => s_ZeroLabeling_l0_M p_Labels p_Degree p_Nodes p_Edges n_Ends r1_ v.1 v.2 s) (s_ZeroLabeling_l0_X p_Labels p_Degree p_Nodes p_Edges n_Ends r1_) ?_ h hM
  clear h hM s v r
  intro v s o hM h
  obtain ⟨out, t26_⟩ := v
  dsimp only at h hM
  unfold s_ZeroLabeling_l0_S at h
  unfold s_ZeroLabeling_l0_M at hM
  obtain ⟨m0, m1, m2, m3, m4, m5⟩ := hM
  unfold k8_l0b
  by_cases e8 : t26_ < (n_Ends.length : Int)
  · rw [if_pos e8] at h
    obtain ⟨e9, h⟩ := ckS h
    obtain ⟨r10_, hl10, h⟩ := bindS h
    try dsimp only at h
    have c10 := s_zeRow_call p_Labels p_Degree p_Nodes p_Edges r1_.1 ((n_Ends.getD t26_.toNat default).length : Int) hl10
    obtain ⟨e11, h⟩ := ckS h
    obtain rfl := Option.some.inj h
    simp (maxDischargeDepth := 9) only [↓xpre, xpost, xlst, xc2, xcore, yset, ↓reduceIte, Nat.reduceEqDiff, Nat.reduceLeDiff, Nat.reduceAdd, m0, m1, m2, m3, m4, m5, e8, e9.1, e9.2, c10, e11, s_ZeroLabeling_l0_M, sxN] <;> (repeat' apply And.intro) <;> first | rfl | exact ⟨_, rfl⟩ | simp [lst, cat2_nil]
  · rw [if_neg e8] at h
    obtain rfl := Option.some.inj h
    simp (maxDischargeDepth := 9) only [↓xpre, xpost, yset, ↓reduceIte, Nat.reduceEqDiff, m2, m4, m5, e8, s_ZeroLabeling_l0_M, s_ZeroLabeling_l0_X, sxE] <;> (repeat' apply And.intro) <;> first | rfl | exact ⟨_, rfl⟩ | simp [lst, cat2_nil]
theorem s_ZeroLabeling_call (p_Labels : Int) (p_Degree : Int) (p_Nodes : List (List Int)) (p_Edges : List (List Int)) (n_Ends : List (List (Int × Int))) (n_Ids : List Int) (n_Inputs : List Int) {r : (List (List Int)) × Bool} (h : s_ZeroLabeling p_Labels p_Degree p_Nodes p_Edges n_Ends n_Ids n_Inputs = some r) : Y.call 8 [D.agg [D.int .i64 p_Labels, D.int .i64 p_Degree, D.sl 26 (lst (fun x => D.sl 3 (lst (D.int .i64) x)) p_Nodes), D.sl 26 (lst (fun x => D.sl 3 (lst (D.int .i64) x)) p_Edges)], D.agg [D.sl 62 (lst (fun x => D.sl 85 (cat2 .i64 .i64 x)) n_Ends), D.sl 3 (lst (D.int .i64) n_Ids), D.sl 3 (lst (D.int .i64) n_Inputs)]] [] = some (D.tup [D.own 26 (lst (fun x => D.own 3 (lst (D.int .i64) x)) r.1), D.bool r.2], []) := by
  refine c8 ?_ rfl
  unfold k8
  unfold s_ZeroLabeling at h
  obtain ⟨r1_, hl1, h⟩ := bindS h
  try dsimp only at h
  have c1 := s_ZeroConfiguration_call p_Labels p_Degree p_Nodes p_Edges hl1
  by_cases e2 : r1_.2 = true
  · rw [if_pos e2] at h
    obtain ⟨e3, h⟩ := ckS h
    obtain ⟨e4, h⟩ := ckS h
    obtain ⟨e5, h⟩ := ckS h
    have c6 := s_neGood_cl n_Ends n_Ids n_Inputs e3 e4 e5
    by_cases e7 : (isNet n_Ends n_Ids n_Inputs) = true
    · rw [if_pos e7] at h
      obtain ⟨r9_, hl9, h⟩ := bindS h
      try dsimp only at h
      simp (maxDischargeDepth := 9) only [↓xpre, xpost, xlst, xcore, yset, ↓reduceIte, Nat.reduceEqDiff, Nat.reduceLT, Nat.reduceAdd, c1, e2, c6, e7]
      refine wd_mono (s_ZeroLabeling_l0_wp p_Labels p_Degree p_Nodes p_Edges n_Ends r1_ hl9 ?_) ?_
      · simp (maxDischargeDepth := 9) only [xpost, ↓reduceIte, Nat.reduceEqDiff, s_ZeroLabeling_l0_M] <;> (repeat' apply And.intro) <;> first | rfl | exact ⟨_, rfl⟩ | simp [lst, cat2_nil]
      · intro ex9 s9 hX9
        unfold s_ZeroLabeling_l0_X at hX9
        obtain ⟨rfl, n9_0⟩ := hX9
        obtain rfl := Option.some.inj h
        simp (maxDischargeDepth := 9) only [↓xpre, xpost, xlst, xcore, yset, ↓reduceIte, Nat.reduceEqDiff, n9_0] <;> (repeat' apply And.intro) <;> first | rfl | exact ⟨_, rfl⟩ | simp [lst, cat2_nil]
    · rw [if_neg e7] at h
      have e7f : (isNet n_Ends n_Ids n_Inputs) = false := Bool.eq_false_iff.mpr e7
      obtain rfl := Option.some.inj h
      simp (maxDischargeDepth := 9) only [↓xpre, xpost, xlst, xcore, yset, ↓reduceIte, Nat.reduceEqDiff, Nat.reduceLT, Nat.reduceAdd, c1, e2, c6, e7f] <;> (repeat' apply And.intro) <;> first | rfl | exact ⟨_, rfl⟩ | simp [lst, cat2_nil]
  · rw [if_neg e2] at h
    have e2f : r1_.2 = false := Bool.eq_false_iff.mpr e2
    obtain rfl := Option.some.inj h
    simp (maxDischargeDepth := 9) only [↓xpre, xpost, xlst, xcore, yset, ↓reduceIte, Nat.reduceEqDiff, Nat.reduceLT, Nat.reduceAdd, c1, e2f] <;> (repeat' apply And.intro) <;> first | rfl | exact ⟨_, rfl⟩ | simp [lst, cat2_nil]


end Go.Proofs.YtjkgcfdcfjkkbaaGreat
