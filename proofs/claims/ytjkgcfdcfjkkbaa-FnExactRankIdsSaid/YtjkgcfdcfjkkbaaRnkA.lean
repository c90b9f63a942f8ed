/- Ranks of identifiers, lifted. Conditions: none. -/
import Derived.Test.YtjkgcfdcfjkkbaaL6
import Derived.Test.YtjkgcfdcfjkkbaaNmk
import Derived.Test.YtjkgcfdcfjkkbaaCon
namespace Go.Proofs.Ytjkgcfdcfjkkbaa
open Go Dv
set_option linter.unusedSimpArgs false
set_option linter.unusedVariables false
set_option maxRecDepth 100000
set_option maxHeartbeats 4000000

theorem g_slices_Clone_Sloop_example_g01084_impl_End_loop_example_g01084_impl_End_cl (xs : List (Int × Int)) (h : xs.length * 2 < 1099511627776) : Y.call 84 [.sl 95 (cat2 .i64 .i64 xs)] [] = some (.own 95 (cat2 .i64 .i64 xs), []) := by
  refine clone_84 (cat2 .i64 .i64 xs) (by rw [cat2_length]; exact h) (cat2_solid ..) (cat2_hasObj ..) ?_
  simp (maxDischargeDepth := 9) only [↓xpre, xpost, xlst, xc2, xcore, yset, rg0, ↓reduceIte, Nat.reduceEqDiff, Nat.reduceLT, Nat.reduceLeDiff, Nat.reduceAdd, Nat.reduceMul, Nat.reduceMod, Nat.reduceSub, Nat.reduceBEq, Int.reduceLE, Int.reduceLT, Int.reduceEq, Int.reduceSub, Int.reduceAdd, Int.reduceToNat, Int.reduceNeg, Option.isSome_some]

noncomputable def i_copyNetwork_l0_S (n_Ends : List (List (Int × Int))) (n_Ids : List Int) (n_Inputs : List Int) (out_0 : List (List (Int × Int))) (t20_ : Int) : Option (((List (List (Int × Int))) × Int) ⊕ ((List (List (Int × Int))))) :=
  if t20_ < (n_Ends.length : Int) then
    ck (0 ≤ t20_ ∧ t20_.toNat < n_Ends.length) <|
    ck ((n_Ends.getD t20_.toNat default).length * 2 < 1099511627776) <|
    ck (0 ≤ t20_ ∧ t20_.toNat < out_0.length) <|
    some (Sum.inl ((out_0.set t20_.toNat (n_Ends.getD t20_.toNat default)), IntKind.i64.wrap (t20_ + 1)))
  else
    some (Sum.inr out_0)
noncomputable def i_copyNetwork_l0 (n_Ends : List (List (Int × Int))) (n_Ids : List Int) (n_Inputs : List Int) (v : (List (List (Int × Int))) × Int) : Option ((List (List (Int × Int)))) := itO (fun v => i_copyNetwork_l0_S n_Ends n_Ids n_Inputs v.1 v.2) v
noncomputable def i_copyNetwork (n_Ends : List (List (Int × Int))) (n_Ids : List Int) (n_Inputs : List Int) : Option ((List (List (Int × Int))) × (List Int) × (List Int)) :=
  ck (0 ≤ (n_Ends.length : Int) ∧ (n_Ends.length : Int) < 1099511627776) <|
  ck (n_Ids.length < 1099511627776) <|
  ck (n_Inputs.length < 1099511627776) <|
  (i_copyNetwork_l0 n_Ends n_Ids n_Inputs ((List.replicate n_Ends.length []), 0)).bind fun r7_ =>
  some (r7_, n_Ids, n_Inputs)
/-- impl.copyNetwork -/
def k45_l0b : SC :=
 .seq
 (.ops [
 ⟨(some 21), (.binOp .lss 3 (.tmp 20) (.tmp 19) 3), 0, none⟩])
 (.seq
 (.cond (.tmp 21)
 .skip
 (.exit 0))
 (.seq
 (.block 1
 (.seq
 (.ops [
 ⟨(some 22), (.move (.tmp 20)), 3, none⟩,
 ⟨(some 23), (.indexAddr 27 (.tmp 18) (.tmp 20)), 0, none⟩,
 ⟨(some 24), (.load 93 (.tmp 23)), 93, none⟩,
 ⟨(some 4), (.assign (.tmp 22)), 3, none⟩,
 ⟨(some 5), (.assign (.tmp 24)), 93, none⟩])
 (.draws [
 (⟨[25, 3, 3], [25, 26, 27, 28, 29, 30, 30, 29, 3, 29], [25]⟩, ⟨(some 25), (.fieldAddr 29 (.tmp 3) 0), 0, none⟩),
 (⟨[26, 25, 3], [25, 26, 27, 28, 29, 30, 30, 29, 3, 29], [26]⟩, ⟨(some 26), (.load 27 (.tmp 25)), 27, none⟩),
 (⟨[27, 4, 4], [25, 26, 27, 28, 29, 30, 30, 29, 3, 29], [27]⟩, ⟨(some 27), (.move (.tmp 4)), 3, none⟩),
 (⟨[28, 5, 5], [25, 26, 27, 28, 29, 30, 30, 29, 3, 29], [28]⟩, ⟨(some 28), (.move (.tmp 5)), 93, none⟩),
 (⟨[29, 28, 5], [25, 26, 27, 28, 29, 30, 30, 29, 3, 29], [29]⟩, ⟨(some 29), (.call ⟨(.value (.func 84)), #[(.tmp 28)], #[93]⟩), 93, none⟩),
 (⟨[30, 26, 27, 3, 4], [25, 26, 27, 28, 29, 30, 30, 29, 3, 29], [30]⟩, ⟨(some 30), (.indexAddr 27 (.tmp 26) (.tmp 27)), 0, none⟩),
 (⟨[30, 29, 3, 29], [25, 26, 27, 28, 29, 30, 30, 29, 3, 29], [30, 29, 3, 29]⟩, ⟨none, (.store 93 (.tmp 30) (.tmp 29)), 0, none⟩)])))
 (.ops [
 ⟨(some 31), (.binOp .add 3 (.tmp 20) (.const (.int .i64 1)) 3), 3, none⟩,
 ⟨(some 20), (.move (.tmp 31)), 3, none⟩])))
def k45_l0 : SC := .loop k45_l0b
def k45 : SC :=
 .seq
 (.ops [
 ⟨(some 1), (.box 29 (.tmp 0)), 0, none⟩,
 ⟨(some 2), (.alloc 29), 0, none⟩])
 (.seq
 (.draws [
 (⟨[6, 1, 1], [6, 7, 8, 9, 10, 11, 12, 13, 14, 15, 16, 9, 12, 15, 9, 12, 15, 3, 3, 16, 3, 16], [6]⟩, ⟨(some 6), (.fieldAddr 29 (.tmp 1) 0), 0, none⟩),
 (⟨[7, 6, 1], [6, 7, 8, 9, 10, 11, 12, 13, 14, 15, 16, 9, 12, 15, 9, 12, 15, 3, 3, 16, 3, 16], [7]⟩, ⟨(some 7), (.load 27 (.tmp 6)), 27, none⟩),
 (⟨[8, 7, 1], [6, 7, 8, 9, 10, 11, 12, 13, 14, 15, 16, 9, 12, 15, 9, 12, 15, 3, 3, 16, 3, 16], [8]⟩, ⟨(some 8), (.call ⟨(.builtin .len), #[(.tmp 7)], #[27]⟩), 3, none⟩),
 (⟨[9, 8, 8, 8, 8], [6, 7, 8, 9, 10, 11, 12, 13, 14, 15, 16, 9, 12, 15, 9, 12, 15, 3, 3, 16, 3, 16], [9]⟩, ⟨(some 9), (.makeSlice 27 (.tmp 8) (.tmp 8)), 27, none⟩),
 (⟨[10, 1, 1], [6, 7, 8, 9, 10, 11, 12, 13, 14, 15, 16, 9, 12, 15, 9, 12, 15, 3, 3, 16, 3, 16], [10]⟩, ⟨(some 10), (.fieldAddr 29 (.tmp 1) 1), 0, none⟩),
 (⟨[11, 10, 1], [6, 7, 8, 9, 10, 11, 12, 13, 14, 15, 16, 9, 12, 15, 9, 12, 15, 3, 3, 16, 3, 16], [11]⟩, ⟨(some 11), (.load 23 (.tmp 10)), 23, none⟩),
 (⟨[12, 11, 1], [6, 7, 8, 9, 10, 11, 12, 13, 14, 15, 16, 9, 12, 15, 9, 12, 15, 3, 3, 16, 3, 16], [12]⟩, ⟨(some 12), (.call ⟨(.value (.func 83)), #[(.tmp 11)], #[23]⟩), 23, none⟩),
 (⟨[13, 1, 1], [6, 7, 8, 9, 10, 11, 12, 13, 14, 15, 16, 9, 12, 15, 9, 12, 15, 3, 3, 16, 3, 16], [13]⟩, ⟨(some 13), (.fieldAddr 29 (.tmp 1) 2), 0, none⟩),
 (⟨[14, 13, 1], [6, 7, 8, 9, 10, 11, 12, 13, 14, 15, 16, 9, 12, 15, 9, 12, 15, 3, 3, 16, 3, 16], [14]⟩, ⟨(some 14), (.load 23 (.tmp 13)), 23, none⟩),
 (⟨[15, 14, 1], [6, 7, 8, 9, 10, 11, 12, 13, 14, 15, 16, 9, 12, 15, 9, 12, 15, 3, 3, 16, 3, 16], [15]⟩, ⟨(some 15), (.call ⟨(.value (.func 83)), #[(.tmp 14)], #[23]⟩), 23, none⟩),
 (⟨[16, 9, 12, 15, 9, 12, 15], [6, 7, 8, 9, 10, 11, 12, 13, 14, 15, 16, 9, 12, 15, 9, 12, 15, 3, 3, 16, 3, 16], [16, 9, 12, 15, 9, 12, 15]⟩, ⟨(some 16), (.build 29 #[(0, (.tmp 9)), (1, (.tmp 12)), (2, (.tmp 15))]), 29, none⟩),
 (⟨[3], [6, 7, 8, 9, 10, 11, 12, 13, 14, 15, 16, 9, 12, 15, 9, 12, 15, 3, 3, 16, 3, 16], [3]⟩, ⟨(some 3), (.alloc 29), 0, none⟩),
 (⟨[3, 16, 3, 16], [6, 7, 8, 9, 10, 11, 12, 13, 14, 15, 16, 9, 12, 15, 9, 12, 15, 3, 3, 16, 3, 16], [3, 16, 3, 16]⟩, ⟨none, (.store 29 (.tmp 3) (.tmp 16)), 0, none⟩)])
 (.seq
 (.seq
 (.ops [
 ⟨(some 17), (.fieldAddr 29 (.tmp 1) 0), 0, none⟩,
 ⟨(some 18), (.load 27 (.tmp 17)), 27, none⟩,
 ⟨(some 19), (.call ⟨(.builtin .len), #[(.tmp 18)], #[27]⟩), 3, none⟩,
 ⟨(some 20), (.move (.const (.int .i64 0))), 3, none⟩])
 (.block 0
 k45_l0))
 (.seq
 (.ops [
 ⟨(some 32), (.load 29 (.tmp 3)), 29, none⟩,
 ⟨none, (.store 29 (.tmp 2) (.tmp 32)), 0, none⟩])
 .ret)))
theorem slim45 : Try.f45.body.map (slim lends) = some k45 := by kernel_rfl
theorem ok45 : fnOk Try.f45 1 = true := by kernel_rfl
theorem c45 {a l : List D} {r : D × List D} (h : wpD Y.env k45 (fin tys l.length [ResultVar.cell 2 29] r) (entry a l)) (ha : a.length = 1) : Y.call 45 a l = some r :=
  call_slim (Y := Y) rfl Try.func45 (ha ▸ ok45) slim45 h
def i_copyNetwork_l0_M (n_Ends : List (List (Int × Int))) (n_Ids : List Int) (n_Inputs : List Int) (out_0 : List (List (Int × Int))) (t20_ : Int) (s : St) : Prop := s.v 2 = D.box [D.own 93 [], D.own 3 [], D.own 3 []] ∧ s.v 3 = D.box [D.own 93 (lst (fun x => D.own 95 (cat2 .i64 .i64 x)) out_0), D.own 3 (lst (D.int .i64) n_Ids), D.own 3 (lst (D.int .i64) n_Inputs)] ∧ s.v 18 = D.sl 93 (lst (fun x => D.sl 95 (cat2 .i64 .i64 x)) n_Ends) ∧ s.v 19 = D.int .i64 (n_Ends.length : Int) ∧ s.v 20 = D.int .i64 t20_
def i_copyNetwork_l0_X (n_Ends : List (List (Int × Int))) (n_Ids : List Int) (n_Inputs : List Int) (r : (List (List (Int × Int)))) (ex : Ex) (s : St) : Prop := ex = .exit 0 ∧ s.v 2 = D.box [D.own 93 [], D.own 3 [], D.own 3 []] ∧ s.v 3 = D.box [D.own 93 (lst (fun x => D.own 95 (cat2 .i64 .i64 x)) r), D.own 3 (lst (D.int .i64) n_Ids), D.own 3 (lst (D.int .i64) n_Inputs)]
theorem i_copyNetwork_l0_wp (n_Ends : List (List (Int × Int))) (n_Ids : List Int) (n_Inputs : List Int) {v : (List (List (Int × Int))) × Int} {s : St} {r : (List (List (Int × Int)))} (h : i_copyNetwork_l0 n_Ends n_Ids n_Inputs v = some r) (hM : i_copyNetwork_l0_M n_Ends n_Ids n_Inputs v.1 v.2 s) : wpD Y.env k45_l0 (i_copyNetwork_l0_X n_Ends n_Ids n_Inputs r) s := by
  unfold i_copyNetwork_l0 at h
  refine wd_itO (c := k45_l0b) (fun v => i_copyNetwork_l0_S n_Ends n_Ids n_Inputs v.1 v.2) (fun v s => i_copyNetwork_l0_M n_Ends n_Ids n_Inputs v.1 v.2 s) (i_copyNetwork_l0_X n_Ends n_Ids n_Inputs) ?_ h hM
  clear h hM s v r
  intro v s o hM h
  obtain ⟨out_0, t20_⟩ := v
  dsimp only at h hM
  unfold i_copyNetwork_l0_S at h
  unfold i_copyNetwork_l0_M at hM
  obtain ⟨m0, m1, m2, m3, m4⟩ := hM
  unfold k45_l0b
  by_cases e6 : t20_ < (n_Ends.length : Int)
  · rw [if_pos e6] at h
    obtain ⟨e7, h⟩ := ckS h
    obtain ⟨e8, h⟩ := ckS h
    have c9 := g_slices_Clone_Sloop_example_g01084_impl_End_loop_example_g01084_impl_End_cl (n_Ends.getD t20_.toNat default) e8
    obtain ⟨e10, h⟩ := ckS h
    obtain rfl := Option.some.inj h
    simp (maxDischargeDepth := 9) only [↓xpre, xpost, xlst, xc2, xcore, yset, rg0, ↓reduceIte, Nat.reduceEqDiff, Nat.reduceLT, Nat.reduceLeDiff, Nat.reduceAdd, Nat.reduceMul, Nat.reduceMod, Nat.reduceSub, Nat.reduceBEq, Int.reduceLE, Int.reduceLT, Int.reduceEq, Int.reduceSub, Int.reduceAdd, Int.reduceToNat, Int.reduceNeg, m0, m1, m2, m3, m4, e6, e7.1, e7.2, e8, c9, e10.1, e10.2, i_copyNetwork_l0_M, i_copyNetwork_l0_X, sxN, sxE, sxR] <;> (repeat' apply And.intro) <;> first | rfl | exact ⟨_, rfl⟩ | simp [lst, cat2_nil]
  · rw [if_neg e6] at h
    obtain rfl := Option.some.inj h
    simp (maxDischargeDepth := 9) only [↓xpre, xpost, xlst, xc2, xcore, yset, rg0, ↓reduceIte, Nat.reduceEqDiff, Nat.reduceLT, Nat.reduceLeDiff, Nat.reduceAdd, Nat.reduceMul, Nat.reduceMod, Nat.reduceSub, Nat.reduceBEq, Int.reduceLE, Int.reduceLT, Int.reduceEq, Int.reduceSub, Int.reduceAdd, Int.reduceToNat, Int.reduceNeg, m0, m1, m2, m3, m4, e6, i_copyNetwork_l0_M, i_copyNetwork_l0_X, sxN, sxE, sxR] <;> (repeat' apply And.intro) <;> first | rfl | exact ⟨_, rfl⟩ | simp [lst, cat2_nil]
theorem i_copyNetwork_call (n_Ends : List (List (Int × Int))) (n_Ids : List Int) (n_Inputs : List Int) {r : (List (List (Int × Int))) × (List Int) × (List Int)} (h : i_copyNetwork n_Ends n_Ids n_Inputs = some r) : Y.call 45 [D.agg [D.sl 93 (lst (fun x => D.sl 95 (cat2 .i64 .i64 x)) n_Ends), D.sl 3 (lst (D.int .i64) n_Ids), D.sl 3 (lst (D.int .i64) n_Inputs)]] [] = some (D.agg [D.own 93 (lst (fun x => D.own 95 (cat2 .i64 .i64 x)) r.1), D.own 3 (lst (D.int .i64) r.2.1), D.own 3 (lst (D.int .i64) r.2.2)], []) := by
  refine c45 ?_ rfl
  unfold k45
  unfold i_copyNetwork at h
  obtain ⟨e1, h⟩ := ckS h
  obtain ⟨e2, h⟩ := ckS h
  have c3 := g_slices_Clone_Sint_int_cl n_Ids e2
  obtain ⟨e4, h⟩ := ckS h
  have c5 := g_slices_Clone_Sint_int_cl n_Inputs e4
  obtain ⟨r7_, hl7, h⟩ := bindS h
  try dsimp only at h
  simp (maxDischargeDepth := 9) only [↓xpre, xpost, xlst, xc2, xcore, yset, rg0, ↓reduceIte, Nat.reduceEqDiff, Nat.reduceLT, Nat.reduceLeDiff, Nat.reduceAdd, Nat.reduceMul, Nat.reduceMod, Nat.reduceSub, Nat.reduceBEq, Int.reduceLE, Int.reduceLT, Int.reduceEq, Int.reduceSub, Int.reduceAdd, Int.reduceToNat, Int.reduceNeg, e1.1, e1.2, e2, c3, e4, c5]
  refine wd_mono (i_copyNetwork_l0_wp n_Ends n_Ids n_Inputs hl7 ?_) ?_
  · simp (maxDischargeDepth := 9) only [↓xpre, xpost, xlst, xc2, xcore, yset, rg0, ↓reduceIte, Nat.reduceEqDiff, Nat.reduceLT, Nat.reduceLeDiff, Nat.reduceAdd, Nat.reduceMul, Nat.reduceMod, Nat.reduceSub, Nat.reduceBEq, Int.reduceLE, Int.reduceLT, Int.reduceEq, Int.reduceSub, Int.reduceAdd, Int.reduceToNat, Int.reduceNeg, e1.1, e1.2, e2, c3, e4, c5, i_copyNetwork_l0_M] <;> (repeat' apply And.intro) <;> first | rfl | exact ⟨_, rfl⟩ | simp [lst, cat2_nil]
  · intro ex7 s7 hX7
    unfold i_copyNetwork_l0_X at hX7
    obtain ⟨rfl, n7_0, n7_1⟩ := hX7
    obtain rfl := Option.some.inj h
    simp (maxDischargeDepth := 9) only [↓xpre, xpost, xlst, xc2, xcore, yset, rg0, ↓reduceIte, Nat.reduceEqDiff, Nat.reduceLT, Nat.reduceLeDiff, Nat.reduceAdd, Nat.reduceMul, Nat.reduceMod, Nat.reduceSub, Nat.reduceBEq, Int.reduceLE, Int.reduceLT, Int.reduceEq, Int.reduceSub, Int.reduceAdd, Int.reduceToNat, Int.reduceNeg, e1.1, e1.2, e2, c3, e4, c5, n7_0, n7_1] <;> (repeat' apply And.intro) <;> first | rfl | exact ⟨_, rfl⟩ | simp [lst, cat2_nil]

noncomputable def i_RankIds_l0_S (n_Ids : List Int) (r7_ : (List Int)) (r10_ : (List (List (Int × Int))) × (List Int) × (List Int)) (out_1 : List Int) (t27_ : Int) : Option (((List Int) × Int) ⊕ ((List Int))) :=
  if t27_ < (n_Ids.length : Int) then
    ck (0 ≤ t27_ ∧ t27_.toNat < n_Ids.length) <|
    (g_slices_Index_Sint_int (sortM r7_) (n_Ids.getD t27_.toNat default)).bind fun r13_ =>
    ck (0 ≤ t27_ ∧ t27_.toNat < out_1.length) <|
    some (Sum.inl ((out_1.set t27_.toNat (IntKind.i64.wrap (r13_ + 1))), IntKind.i64.wrap (t27_ + 1)))
  else
    some (Sum.inr out_1)
noncomputable def i_RankIds_l0 (n_Ids : List Int) (r7_ : (List Int)) (r10_ : (List (List (Int × Int))) × (List Int) × (List Int)) (v : (List Int) × Int) : Option ((List Int)) := itO (fun v => i_RankIds_l0_S n_Ids r7_ r10_ v.1 v.2) v
noncomputable def i_RankIds (n_Ends : List (List (Int × Int))) (n_Ids : List Int) (n_Inputs : List Int) : Option ((List (List (Int × Int))) × (List Int) × (List Int) × Bool) :=
  ck (ShortE n_Ends) <|
  ck (n_Ids.length < 1099511627776) <|
  ck (n_Inputs.length < 1099511627776) <|
  if (isNet n_Ends n_Ids n_Inputs) = true then
    if (n_Ids.length : Int) = 0 then
      some ([], [], [], false)
    else
      (g_slices_Values_Sint_int n_Ids).bind fun r7_ =>
      ck (r7_.length < 1099511627776) <|
      (i_copyNetwork n_Ends n_Ids n_Inputs).bind fun r10_ =>
      (i_RankIds_l0 n_Ids r7_ r10_ (r10_.2.1, 0)).bind fun r12_ =>
      some (r10_.1, r12_, r10_.2.2, true)
  else
    some ([], [], [], false)
/-- impl.RankIds -/
def k11_l0b : SC :=
 .seq
 (.ops [
 ⟨(some 28), (.binOp .lss 3 (.tmp 27) (.tmp 26) 3), 0, none⟩])
 (.seq
 (.cond (.tmp 28)
 .skip
 (.exit 0))
 (.seq
 (.block 1
 (.seq
 (.ops [
 ⟨(some 29), (.move (.tmp 27)), 3, none⟩,
 ⟨(some 30), (.indexAddr 23 (.tmp 25) (.tmp 27)), 0, none⟩,
 ⟨(some 31), (.load 3 (.tmp 30)), 3, none⟩,
 ⟨(some 6), (.assign (.tmp 29)), 3, none⟩,
 ⟨(some 7), (.assign (.tmp 31)), 3, none⟩])
 (.draws [
 (⟨[32, 5, 5], [32, 33, 34, 35, 36, 37, 38, 39, 39, 38, 5, 38], [32]⟩, ⟨(some 32), (.fieldAddr 29 (.tmp 5) 1), 0, none⟩),
 (⟨[33, 32, 5], [32, 33, 34, 35, 36, 37, 38, 39, 39, 38, 5, 38], [33]⟩, ⟨(some 33), (.load 23 (.tmp 32)), 23, none⟩),
 (⟨[34, 6, 6], [32, 33, 34, 35, 36, 37, 38, 39, 39, 38, 5, 38], [34]⟩, ⟨(some 34), (.move (.tmp 6)), 3, none⟩),
 (⟨[35, 4, 4], [32, 33, 34, 35, 36, 37, 38, 39, 39, 38, 5, 38], [35]⟩, ⟨(some 35), (.move (.tmp 4)), 23, none⟩),
 (⟨[36, 7, 7], [32, 33, 34, 35, 36, 37, 38, 39, 39, 38, 5, 38], [36]⟩, ⟨(some 36), (.move (.tmp 7)), 3, none⟩),
 (⟨[37, 35, 36, 4, 7], [32, 33, 34, 35, 36, 37, 38, 39, 39, 38, 5, 38], [37]⟩, ⟨(some 37), (.call ⟨(.value (.func 46)), #[(.tmp 35), (.tmp 36)], #[23, 3]⟩), 3, none⟩),
 (⟨[38, 37, 37], [32, 33, 34, 35, 36, 37, 38, 39, 39, 38, 5, 38], [38]⟩, ⟨(some 38), (.binOp .add 3 (.tmp 37) (.const (.int .i64 1)) 3), 3, none⟩),
 (⟨[39, 33, 34, 5, 6], [32, 33, 34, 35, 36, 37, 38, 39, 39, 38, 5, 38], [39]⟩, ⟨(some 39), (.indexAddr 23 (.tmp 33) (.tmp 34)), 0, none⟩),
 (⟨[39, 38, 5, 38], [32, 33, 34, 35, 36, 37, 38, 39, 39, 38, 5, 38], [39, 38, 5, 38]⟩, ⟨none, (.store 3 (.tmp 39) (.tmp 38)), 0, none⟩)])))
 (.ops [
 ⟨(some 40), (.binOp .add 3 (.tmp 27) (.const (.int .i64 1)) 3), 3, none⟩,
 ⟨(some 27), (.move (.tmp 40)), 3, none⟩])))
def k11_l0 : SC := .loop k11_l0b
def k11 : SC :=
 .seq
 (.ops [
 ⟨(some 1), (.box 29 (.tmp 0)), 0, none⟩,
 ⟨(some 2), (.alloc 29), 0, none⟩,
 ⟨(some 3), (.assign (.const (.bool false))), 4, none⟩])
 (.seq
 (.seq
 (.ops [
 ⟨(some 8), (.load 29 (.tmp 1)), 29, none⟩,
 ⟨(some 9), (.call ⟨(.value (.func 42)), #[(.tmp 8)], #[29]⟩), 4, none⟩,
 ⟨(some 10), (.unOp .not 4 (.tmp 9)), 4, none⟩,
 ⟨(some 11), (.move (.tmp 10)), 4, none⟩,
 ⟨(some 12), (.fieldAddr 29 (.tmp 1) 1), 0, (some (some 11, false))⟩,
 ⟨(some 13), (.load 23 (.tmp 12)), 23, (some (some 11, false))⟩,
 ⟨(some 14), (.call ⟨(.builtin .len), #[(.tmp 13)], #[23]⟩), 3, (some (some 11, false))⟩,
 ⟨(some 15), (.binOp .eql 3 (.tmp 14) (.const (.int .i64 0)) 3), 4, (some (some 11, false))⟩,
 ⟨(some 16), (.pick (.tmp 11) (.const (.bool true)) (.tmp 15)), 4, none⟩])
 (.cond (.tmp 16)
 (.seq
 (.ops [
 ⟨(some 17), (.build 29 #[]), 29, none⟩,
 ⟨none, (.store 29 (.tmp 2) (.tmp 17)), 0, none⟩,
 ⟨(some 3), (.assign (.const (.bool false))), 4, none⟩])
 .ret)
 .skip))
 (.seq
 (.ops [
 ⟨(some 18), (.fieldAddr 29 (.tmp 1) 1), 0, none⟩,
 ⟨(some 19), (.load 23 (.tmp 18)), 23, none⟩,
 ⟨(some 20), (.call ⟨(.value (.func 44)), #[(.tmp 19)], #[23]⟩), 72, none⟩,
 ⟨(some 21), (.call ⟨(.value (.func 43)), #[(.tmp 20)], #[72]⟩), 23, none⟩,
 ⟨(some 4), (.assign (.tmp 21)), 23, none⟩])
 (.seq
 (.ops [
 ⟨(some 22), (.load 29 (.tmp 1)), 29, none⟩,
 ⟨(some 23), (.call ⟨(.value (.func 45)), #[(.tmp 22)], #[29]⟩), 29, none⟩,
 ⟨(some 5), (.alloc 29), 0, none⟩,
 ⟨none, (.store 29 (.tmp 5) (.tmp 23)), 0, none⟩])
 (.seq
 (.seq
 (.ops [
 ⟨(some 24), (.fieldAddr 29 (.tmp 1) 1), 0, none⟩,
 ⟨(some 25), (.load 23 (.tmp 24)), 23, none⟩,
 ⟨(some 26), (.call ⟨(.builtin .len), #[(.tmp 25)], #[23]⟩), 3, none⟩,
 ⟨(some 27), (.move (.const (.int .i64 0))), 3, none⟩])
 (.block 0
 k11_l0))
 (.seq
 (.ops [
 ⟨(some 41), (.load 29 (.tmp 5)), 29, none⟩,
 ⟨none, (.store 29 (.tmp 2) (.tmp 41)), 0, none⟩,
 ⟨(some 3), (.assign (.const (.bool true))), 4, none⟩])
 .ret)))))
theorem slim11 : Try.f11.body.map (slim lends) = some k11 := by kernel_rfl
theorem ok11 : fnOk Try.f11 1 = true := by kernel_rfl
theorem c11 {a l : List D} {r : D × List D} (h : wpD Y.env k11 (fin tys l.length [ResultVar.cell 2 29, ResultVar.tmp 3] r) (entry a l)) (ha : a.length = 1) : Y.call 11 a l = some r :=
  call_slim (Y := Y) rfl Try.func11 (ha ▸ ok11) slim11 h
def i_RankIds_l0_M (n_Ids : List Int) (r7_ : (List Int)) (r10_ : (List (List (Int × Int))) × (List Int) × (List Int)) (out_1 : List Int) (t27_ : Int) (s : St) : Prop := s.v 2 = D.box [D.own 93 [], D.own 3 [], D.own 3 []] ∧ s.v 4 = D.own 3 (lst (D.int .i64) (sortM r7_)) ∧ s.v 5 = D.box [D.own 93 (lst (fun x => D.own 95 (cat2 .i64 .i64 x)) r10_.1), D.own 3 (lst (D.int .i64) out_1), D.own 3 (lst (D.int .i64) r10_.2.2)] ∧ s.v 25 = D.sl 3 (lst (D.int .i64) n_Ids) ∧ s.v 26 = D.int .i64 (n_Ids.length : Int) ∧ s.v 27 = D.int .i64 t27_
def i_RankIds_l0_X (n_Ids : List Int) (r7_ : (List Int)) (r10_ : (List (List (Int × Int))) × (List Int) × (List Int)) (r : (List Int)) (ex : Ex) (s : St) : Prop := ex = .exit 0 ∧ s.v 2 = D.box [D.own 93 [], D.own 3 [], D.own 3 []] ∧ s.v 5 = D.box [D.own 93 (lst (fun x => D.own 95 (cat2 .i64 .i64 x)) r10_.1), D.own 3 (lst (D.int .i64) r), D.own 3 (lst (D.int .i64) r10_.2.2)]
theorem i_RankIds_l0_wp (n_Ids : List Int) (r7_ : (List Int)) (r10_ : (List (List (Int × Int))) × (List Int) × (List Int)) {v : (List Int) × Int} {s : St} {r : (List Int)} (h : i_RankIds_l0 n_Ids r7_ r10_ v = some r) (hM : i_RankIds_l0_M n_Ids r7_ r10_ v.1 v.2 s) : wpD Y.env k11_l0 (i_RankIds_l0_X n_Ids r7_ r10_ r) s := by
  unfold i_RankIds_l0 at h
  refine wd_itO (c := k11_l0b) (fun v => i_RankIds_l0_S n_Ids r7_ r10_ v.1 v.2) (fun v s => i_RankIds_l0_M n_Ids r7_ r10_ v.1 v.2 s) (i_RankIds_l0_X n_Ids r7_ r10_) ?_ h hM
  clear h hM s v r
  intro v s o hM h
  obtain ⟨out_1, t27_⟩ := v
  dsimp only at h hM
  unfold i_RankIds_l0_S at h
  unfold i_RankIds_l0_M at hM
  obtain ⟨m0, m1, m2, m3, m4, m5⟩ := hM
  unfold k11_l0b
  by_cases e11 : t27_ < (n_Ids.length : Int)
  · rw [if_pos e11] at h
    obtain ⟨e12, h⟩ := ckS h
    obtain ⟨r13_, hl13, h⟩ := bindS h
    try dsimp only at h
    have c13 := g_slices_Index_Sint_int_call (sortM r7_) (n_Ids.getD t27_.toNat default) hl13
    obtain ⟨e14, h⟩ := ckS h
    obtain rfl := Option.some.inj h
    simp (maxDischargeDepth := 9) only [↓xpre, xpost, xlst, xc2, xcore, yset, rg0, ↓reduceIte, Nat.reduceEqDiff, Nat.reduceLT, Nat.reduceLeDiff, Nat.reduceAdd, Nat.reduceMul, Nat.reduceMod, Nat.reduceSub, Nat.reduceBEq, Int.reduceLE, Int.reduceLT, Int.reduceEq, Int.reduceSub, Int.reduceAdd, Int.reduceToNat, Int.reduceNeg, m0, m1, m2, m3, m4, m5, e11, e12.1, e12.2, c13, e14.1, e14.2, i_RankIds_l0_M, i_RankIds_l0_X, sxN, sxE, sxR] <;> (repeat' apply And.intro) <;> first | rfl | exact ⟨_, rfl⟩ | simp [lst, cat2_nil]
  · rw [if_neg e11] at h
    obtain rfl := Option.some.inj h
    simp (maxDischargeDepth := 9) only [↓xpre, xpost, xlst, xc2, xcore, yset, rg0, ↓reduceIte, Nat.reduceEqDiff, Nat.reduceLT, Nat.reduceLeDiff, Nat.reduceAdd, Nat.reduceMul, Nat.reduceMod, Nat.reduceSub, Nat.reduceBEq, Int.reduceLE, Int.reduceLT, Int.reduceEq, Int.reduceSub, Int.reduceAdd, Int.reduceToNat, Int.reduceNeg, m0, m1, m2, m3, m4, m5, e11, i_RankIds_l0_M, i_RankIds_l0_X, sxN, sxE, sxR] <;> (repeat' apply And.intro) <;> first | rfl | exact ⟨_, rfl⟩ | simp [lst, cat2_nil]
theorem i_RankIds_call (n_Ends : List (List (Int × Int))) (n_Ids : List Int) (n_Inputs : List Int) {r : (List (List (Int × Int))) × (List Int) × (List Int) × Bool} (h : i_RankIds n_Ends n_Ids n_Inputs = some r) : Y.call 11 [D.agg [D.sl 93 (lst (fun x => D.sl 95 (cat2 .i64 .i64 x)) n_Ends), D.sl 3 (lst (D.int .i64) n_Ids), D.sl 3 (lst (D.int .i64) n_Inputs)]] [] = some (D.tup [D.agg [D.own 93 (lst (fun x => D.own 95 (cat2 .i64 .i64 x)) r.1), D.own 3 (lst (D.int .i64) r.2.1), D.own 3 (lst (D.int .i64) r.2.2.1)], D.bool r.2.2.2], []) := by
  refine c11 ?_ rfl
  unfold k11
  unfold i_RankIds at h
  obtain ⟨e1, h⟩ := ckS h
  obtain ⟨e2, h⟩ := ckS h
  obtain ⟨e3, h⟩ := ckS h
  have c4 := i_IsNetwork_cl n_Ends n_Ids n_Inputs e1 e2 e3
  by_cases e5 : (isNet n_Ends n_Ids n_Inputs) = true
  · rw [if_pos e5] at h
    by_cases e6 : (n_Ids.length : Int) = 0
    · rw [if_pos e6] at h
      obtain rfl := Option.some.inj h
      simp (maxDischargeDepth := 9) only [↓xpre, xpost, xlst, xc2, xcore, yset, rg0, ↓reduceIte, Nat.reduceEqDiff, Nat.reduceLT, Nat.reduceLeDiff, Nat.reduceAdd, Nat.reduceMul, Nat.reduceMod, Nat.reduceSub, Nat.reduceBEq, Int.reduceLE, Int.reduceLT, Int.reduceEq, Int.reduceSub, Int.reduceAdd, Int.reduceToNat, Int.reduceNeg, e1, e2, e3, c4, e5, decide_eq_true e6] <;> (repeat' apply And.intro) <;> first | rfl | exact ⟨_, rfl⟩ | simp [lst, cat2_nil]
    · rw [if_neg e6] at h
      obtain ⟨r7_, hl7, h⟩ := bindS h
      try dsimp only at h
      have c7 := g_slices_Values_Sint_int_call n_Ids hl7
      obtain ⟨e8, h⟩ := ckS h
      have c9 := sorted_43 r7_ e8
      obtain ⟨r10_, hl10, h⟩ := bindS h
      try dsimp only at h
      have c10 := i_copyNetwork_call n_Ends n_Ids n_Inputs hl10
      obtain ⟨r12_, hl12, h⟩ := bindS h
      try dsimp only at h
      simp (maxDischargeDepth := 9) only [↓xpre, xpost, xlst, xc2, xcore, yset, rg0, ↓reduceIte, Nat.reduceEqDiff, Nat.reduceLT, Nat.reduceLeDiff, Nat.reduceAdd, Nat.reduceMul, Nat.reduceMod, Nat.reduceSub, Nat.reduceBEq, Int.reduceLE, Int.reduceLT, Int.reduceEq, Int.reduceSub, Int.reduceAdd, Int.reduceToNat, Int.reduceNeg, e1, e2, e3, c4, e5, e6, c7, e8, c9, c10]
      refine wd_mono (i_RankIds_l0_wp n_Ids r7_ r10_ hl12 ?_) ?_
      · simp (maxDischargeDepth := 9) only [↓xpre, xpost, xlst, xc2, xcore, yset, rg0, ↓reduceIte, Nat.reduceEqDiff, Nat.reduceLT, Nat.reduceLeDiff, Nat.reduceAdd, Nat.reduceMul, Nat.reduceMod, Nat.reduceSub, Nat.reduceBEq, Int.reduceLE, Int.reduceLT, Int.reduceEq, Int.reduceSub, Int.reduceAdd, Int.reduceToNat, Int.reduceNeg, e1, e2, e3, c4, e5, e6, c7, e8, c9, c10, i_RankIds_l0_M] <;> (repeat' apply And.intro) <;> first | rfl | exact ⟨_, rfl⟩ | simp [lst, cat2_nil]
      · intro ex12 s12 hX12
        unfold i_RankIds_l0_X at hX12
        obtain ⟨rfl, n12_0, n12_1⟩ := hX12
        obtain rfl := Option.some.inj h
        simp (maxDischargeDepth := 9) only [↓xpre, xpost, xlst, xc2, xcore, yset, rg0, ↓reduceIte, Nat.reduceEqDiff, Nat.reduceLT, Nat.reduceLeDiff, Nat.reduceAdd, Nat.reduceMul, Nat.reduceMod, Nat.reduceSub, Nat.reduceBEq, Int.reduceLE, Int.reduceLT, Int.reduceEq, Int.reduceSub, Int.reduceAdd, Int.reduceToNat, Int.reduceNeg, e1, e2, e3, c4, e5, e6, c7, e8, c9, c10, n12_0, n12_1] <;> (repeat' apply And.intro) <;> first | rfl | exact ⟨_, rfl⟩ | simp [lst, cat2_nil]
  · rw [if_neg e5] at h
    have e5f : (isNet n_Ends n_Ids n_Inputs) = false := Bool.eq_false_iff.mpr e5
    obtain rfl := Option.some.inj h
    simp (maxDischargeDepth := 9) only [↓xpre, xpost, xlst, xc2, xcore, yset, rg0, ↓reduceIte, Nat.reduceEqDiff, Nat.reduceLT, Nat.reduceLeDiff, Nat.reduceAdd, Nat.reduceMul, Nat.reduceMod, Nat.reduceSub, Nat.reduceBEq, Int.reduceLE, Int.reduceLT, Int.reduceEq, Int.reduceSub, Int.reduceAdd, Int.reduceToNat, Int.reduceNeg, e1, e2, e3, c4, e5f] <;> (repeat' apply And.intro) <;> first | rfl | exact ⟨_, rfl⟩ | simp [lst, cat2_nil]

noncomputable def s_neOwn_l0_S (n_Ends : List (List (Int × Int))) (r1_ : (List Int)) (r2_ : (List Int)) (out_0 : List (List (Int × Int))) (t16_ : Int) : Option (((List (List (Int × Int))) × Int) ⊕ ((List (List (Int × Int))))) :=
  if t16_ < (n_Ends.length : Int) then
    ck (0 ≤ t16_ ∧ t16_.toNat < n_Ends.length) <|
    ck (0 + (n_Ends.getD t16_.toNat default).length * 2 < 1099511627776) <|
    ck (out_0.length + 1 < 1099511627776) <|
    some (Sum.inl ((out_0 ++ [(n_Ends.getD t16_.toNat default)]), IntKind.i64.wrap (t16_ + 1)))
  else
    some (Sum.inr out_0)
noncomputable def s_neOwn_l0 (n_Ends : List (List (Int × Int))) (r1_ : (List Int)) (r2_ : (List Int)) (v : (List (List (Int × Int))) × Int) : Option ((List (List (Int × Int)))) := itO (fun v => s_neOwn_l0_S n_Ends r1_ r2_ v.1 v.2) v
noncomputable def s_neOwn (n_Ends : List (List (Int × Int))) (n_Ids : List Int) (n_Inputs : List Int) : Option ((List (List (Int × Int))) × (List Int) × (List Int)) :=
  (s_l1Own n_Ids).bind fun r1_ =>
  (s_l1Own n_Inputs).bind fun r2_ =>
  (s_neOwn_l0 n_Ends r1_ r2_ ([], 0)).bind fun r4_ =>
  some (r4_, r1_, r2_)
/-- spec.neOwn -/
def k40_l0b : SC :=
 .seq
 (.ops [
 ⟨(some 17), (.binOp .lss 3 (.tmp 16) (.tmp 15) 3), 0, none⟩])
 (.seq
 (.cond (.tmp 17)
 .skip
 (.exit 0))
 (.seq
 (.block 1
 (.seq
 (.ops [
 ⟨(some 18), (.indexAddr 27 (.tmp 14) (.tmp 16)), 0, none⟩,
 ⟨(some 19), (.load 93 (.tmp 18)), 93, none⟩,
 ⟨(some 5), (.assign (.tmp 19)), 93, none⟩])
 (.draws [
 (⟨[20, 3, 3], [20, 21, 22, 23, 24, 22, 23, 22, 5, 25, 24, 24, 26, 21, 25, 3, 25, 27, 27, 26, 3, 26], [20]⟩, ⟨(some 20), (.fieldAddr 29 (.tmp 3) 0), 0, none⟩),
 (⟨[21, 20, 3], [20, 21, 22, 23, 24, 22, 23, 22, 5, 25, 24, 24, 26, 21, 25, 3, 25, 27, 27, 26, 3, 26], [21]⟩, ⟨(some 21), (.load 27 (.tmp 20)), 27, none⟩),
 (⟨[22], [20, 21, 22, 23, 24, 22, 23, 22, 5, 25, 24, 24, 26, 21, 25, 3, 25, 27, 27, 26, 3, 26], [22]⟩, ⟨(some 22), (.buildSlice 93 0 #[]), 93, none⟩),
 (⟨[23, 5, 5], [20, 21, 22, 23, 24, 22, 23, 22, 5, 25, 24, 24, 26, 21, 25, 3, 25, 27, 27, 26, 3, 26], [23]⟩, ⟨(some 23), (.move (.tmp 5)), 93, none⟩),
 (⟨[24, 22, 23, 22, 5], [20, 21, 22, 23, 24, 22, 23, 22, 5, 25, 24, 24, 26, 21, 25, 3, 25, 27, 27, 26, 3, 26], [24, 22, 23, 22, 5]⟩, ⟨(some 24), (.call ⟨(.builtin .append), #[(.tmp 22), (.tmp 23)], #[93, 93]⟩), 93, none⟩),
 (⟨[25, 24, 24], [20, 21, 22, 23, 24, 22, 23, 22, 5, 25, 24, 24, 26, 21, 25, 3, 25, 27, 27, 26, 3, 26], [25, 24, 24]⟩, ⟨(some 25), (.buildSlice 27 1 #[(0, (.tmp 24))]), 27, none⟩),
 (⟨[26, 21, 25, 3, 25], [20, 21, 22, 23, 24, 22, 23, 22, 5, 25, 24, 24, 26, 21, 25, 3, 25, 27, 27, 26, 3, 26], [26, 21, 25, 3, 25]⟩, ⟨(some 26), (.call ⟨(.builtin .append), #[(.tmp 21), (.tmp 25)], #[27, 27]⟩), 27, none⟩),
 (⟨[27, 3, 3], [20, 21, 22, 23, 24, 22, 23, 22, 5, 25, 24, 24, 26, 21, 25, 3, 25, 27, 27, 26, 3, 26], [27]⟩, ⟨(some 27), (.fieldAddr 29 (.tmp 3) 0), 0, none⟩),
 (⟨[27, 26, 3, 26], [20, 21, 22, 23, 24, 22, 23, 22, 5, 25, 24, 24, 26, 21, 25, 3, 25, 27, 27, 26, 3, 26], [27, 26, 3, 26]⟩, ⟨none, (.store 27 (.tmp 27) (.tmp 26)), 0, none⟩)])))
 (.ops [
 ⟨(some 28), (.binOp .add 3 (.tmp 16) (.const (.int .i64 1)) 3), 3, none⟩,
 ⟨(some 16), (.move (.tmp 28)), 3, none⟩])))
def k40_l0 : SC := .loop k40_l0b
def k40 : SC :=
 .seq
 (.ops [
 ⟨(some 1), (.box 29 (.tmp 0)), 0, none⟩,
 ⟨(some 2), (.alloc 29), 0, none⟩])
 (.seq
 (.draws [
 (⟨[6, 1, 1], [6, 7, 8, 9, 10, 11, 12, 8, 11, 8, 11, 3, 3, 12, 3, 12], [6]⟩, ⟨(some 6), (.fieldAddr 29 (.tmp 1) 1), 0, none⟩),
 (⟨[7, 6, 1], [6, 7, 8, 9, 10, 11, 12, 8, 11, 8, 11, 3, 3, 12, 3, 12], [7]⟩, ⟨(some 7), (.load 23 (.tmp 6)), 23, none⟩),
 (⟨[8, 7, 1], [6, 7, 8, 9, 10, 11, 12, 8, 11, 8, 11, 3, 3, 12, 3, 12], [8]⟩, ⟨(some 8), (.call ⟨(.value (.func 70)), #[(.tmp 7)], #[23]⟩), 23, none⟩),
 (⟨[9, 1, 1], [6, 7, 8, 9, 10, 11, 12, 8, 11, 8, 11, 3, 3, 12, 3, 12], [9]⟩, ⟨(some 9), (.fieldAddr 29 (.tmp 1) 2), 0, none⟩),
 (⟨[10, 9, 1], [6, 7, 8, 9, 10, 11, 12, 8, 11, 8, 11, 3, 3, 12, 3, 12], [10]⟩, ⟨(some 10), (.load 23 (.tmp 9)), 23, none⟩),
 (⟨[11, 10, 1], [6, 7, 8, 9, 10, 11, 12, 8, 11, 8, 11, 3, 3, 12, 3, 12], [11]⟩, ⟨(some 11), (.call ⟨(.value (.func 70)), #[(.tmp 10)], #[23]⟩), 23, none⟩),
 (⟨[12, 8, 11, 8, 11], [6, 7, 8, 9, 10, 11, 12, 8, 11, 8, 11, 3, 3, 12, 3, 12], [12, 8, 11, 8, 11]⟩, ⟨(some 12), (.build 29 #[(1, (.tmp 8)), (2, (.tmp 11))]), 29, none⟩),
 (⟨[3], [6, 7, 8, 9, 10, 11, 12, 8, 11, 8, 11, 3, 3, 12, 3, 12], [3]⟩, ⟨(some 3), (.alloc 29), 0, none⟩),
 (⟨[3, 12, 3, 12], [6, 7, 8, 9, 10, 11, 12, 8, 11, 8, 11, 3, 3, 12, 3, 12], [3, 12, 3, 12]⟩, ⟨none, (.store 29 (.tmp 3) (.tmp 12)), 0, none⟩)])
 (.seq
 (.seq
 (.ops [
 ⟨(some 13), (.fieldAddr 29 (.tmp 1) 0), 0, none⟩,
 ⟨(some 14), (.load 27 (.tmp 13)), 27, none⟩,
 ⟨(some 15), (.call ⟨(.builtin .len), #[(.tmp 14)], #[27]⟩), 3, none⟩,
 ⟨(some 16), (.move (.const (.int .i64 0))), 3, none⟩])
 (.block 0
 k40_l0))
 (.seq
 (.ops [
 ⟨(some 29), (.load 29 (.tmp 3)), 29, none⟩,
 ⟨none, (.store 29 (.tmp 2) (.tmp 29)), 0, none⟩])
 .ret)))
theorem slim40 : Try.f40.body.map (slim lends) = some k40 := by kernel_rfl
theorem ok40 : fnOk Try.f40 1 = true := by kernel_rfl
theorem c40 {a l : List D} {r : D × List D} (h : wpD Y.env k40 (fin tys l.length [ResultVar.cell 2 29] r) (entry a l)) (ha : a.length = 1) : Y.call 40 a l = some r :=
  call_slim (Y := Y) rfl Try.func40 (ha ▸ ok40) slim40 h
def s_neOwn_l0_M (n_Ends : List (List (Int × Int))) (r1_ : (List Int)) (r2_ : (List Int)) (out_0 : List (List (Int × Int))) (t16_ : Int) (s : St) : Prop := s.v 2 = D.box [D.own 93 [], D.own 3 [], D.own 3 []] ∧ s.v 3 = D.box [D.own 93 (lst (fun x => D.own 95 (cat2 .i64 .i64 x)) out_0), D.own 3 (lst (D.int .i64) r1_), D.own 3 (lst (D.int .i64) r2_)] ∧ s.v 14 = D.sl 93 (lst (fun x => D.sl 95 (cat2 .i64 .i64 x)) n_Ends) ∧ s.v 15 = D.int .i64 (n_Ends.length : Int) ∧ s.v 16 = D.int .i64 t16_
def s_neOwn_l0_X (n_Ends : List (List (Int × Int))) (r1_ : (List Int)) (r2_ : (List Int)) (r : (List (List (Int × Int)))) (ex : Ex) (s : St) : Prop := ex = .exit 0 ∧ s.v 2 = D.box [D.own 93 [], D.own 3 [], D.own 3 []] ∧ s.v 3 = D.box [D.own 93 (lst (fun x => D.own 95 (cat2 .i64 .i64 x)) r), D.own 3 (lst (D.int .i64) r1_), D.own 3 (lst (D.int .i64) r2_)]
theorem s_neOwn_l0_wp (n_Ends : List (List (Int × Int))) (r1_ : (List Int)) (r2_ : (List Int)) {v : (List (List (Int × Int))) × Int} {s : St} {r : (List (List (Int × Int)))} (h : s_neOwn_l0 n_Ends r1_ r2_ v = some r) (hM : s_neOwn_l0_M n_Ends r1_ r2_ v.1 v.2 s) : wpD Y.env k40_l0 (s_neOwn_l0_X n_Ends r1_ r2_ r) s := by
  unfold s_neOwn_l0 at h
  refine wd_itO (c := k40_l0b) (fun v => s_neOwn_l0_S n_Ends r1_ r2_ v.1 v.2) (fun v s => s_neOwn_l0_M n_Ends r1_ r2_ v.1 v.2 s) (s_neOwn_l0_X n_Ends r1_ r2_) ?_ h hM
  clear h hM s v r
  intro v s o hM h
  obtain ⟨out_0, t16_⟩ := v
  dsimp only at h hM
  unfold s_neOwn_l0_S at h
  unfold s_neOwn_l0_M at hM
  obtain ⟨m0, m1, m2, m3, m4⟩ := hM
  unfold k40_l0b
  by_cases e3 : t16_ < (n_Ends.length : Int)
  · rw [if_pos e3] at h
    obtain ⟨e4, h⟩ := ckS h
    obtain ⟨e5, h⟩ := ckS h
    obtain ⟨e6, h⟩ := ckS h
    obtain rfl := Option.some.inj h
    simp (maxDischargeDepth := 9) only [↓xpre, xpost, xlst, xc2, xcore, yset, rg0, ↓reduceIte, Nat.reduceEqDiff, Nat.reduceLT, Nat.reduceLeDiff, Nat.reduceAdd, Nat.reduceMul, Nat.reduceMod, Nat.reduceSub, Nat.reduceBEq, Int.reduceLE, Int.reduceLT, Int.reduceEq, Int.reduceSub, Int.reduceAdd, Int.reduceToNat, Int.reduceNeg, m0, m1, m2, m3, m4, e3, e4.1, e4.2, e5, e6, s_neOwn_l0_M, s_neOwn_l0_X, sxN, sxE, sxR] <;> (repeat' apply And.intro) <;> first | rfl | exact ⟨_, rfl⟩ | simp [lst, cat2_nil]
  · rw [if_neg e3] at h
    obtain rfl := Option.some.inj h
    simp (maxDischargeDepth := 9) only [↓xpre, xpost, xlst, xc2, xcore, yset, rg0, ↓reduceIte, Nat.reduceEqDiff, Nat.reduceLT, Nat.reduceLeDiff, Nat.reduceAdd, Nat.reduceMul, Nat.reduceMod, Nat.reduceSub, Nat.reduceBEq, Int.reduceLE, Int.reduceLT, Int.reduceEq, Int.reduceSub, Int.reduceAdd, Int.reduceToNat, Int.reduceNeg, m0, m1, m2, m3, m4, e3, s_neOwn_l0_M, s_neOwn_l0_X, sxN, sxE, sxR] <;> (repeat' apply And.intro) <;> first | rfl | exact ⟨_, rfl⟩ | simp [lst, cat2_nil]
theorem s_neOwn_call (n_Ends : List (List (Int × Int))) (n_Ids : List Int) (n_Inputs : List Int) {r : (List (List (Int × Int))) × (List Int) × (List Int)} (h : s_neOwn n_Ends n_Ids n_Inputs = some r) : Y.call 40 [D.agg [D.sl 93 (lst (fun x => D.sl 95 (cat2 .i64 .i64 x)) n_Ends), D.sl 3 (lst (D.int .i64) n_Ids), D.sl 3 (lst (D.int .i64) n_Inputs)]] [] = some (D.agg [D.own 93 (lst (fun x => D.own 95 (cat2 .i64 .i64 x)) r.1), D.own 3 (lst (D.int .i64) r.2.1), D.own 3 (lst (D.int .i64) r.2.2)], []) := by
  refine c40 ?_ rfl
  unfold k40
  unfold s_neOwn at h
  obtain ⟨r1_, hl1, h⟩ := bindS h
  try dsimp only at h
  have c1 := s_l1Own_call n_Ids hl1
  obtain ⟨r2_, hl2, h⟩ := bindS h
  try dsimp only at h
  have c2 := s_l1Own_call n_Inputs hl2
  obtain ⟨r4_, hl4, h⟩ := bindS h
  try dsimp only at h
  simp (maxDischargeDepth := 9) only [↓xpre, xpost, xlst, xc2, xcore, yset, rg0, ↓reduceIte, Nat.reduceEqDiff, Nat.reduceLT, Nat.reduceLeDiff, Nat.reduceAdd, Nat.reduceMul, Nat.reduceMod, Nat.reduceSub, Nat.reduceBEq, Int.reduceLE, Int.reduceLT, Int.reduceEq, Int.reduceSub, Int.reduceAdd, Int.reduceToNat, Int.reduceNeg, c1, c2]
  refine wd_mono (s_neOwn_l0_wp n_Ends r1_ r2_ hl4 ?_) ?_
  · simp (maxDischargeDepth := 9) only [↓xpre, xpost, xlst, xc2, xcore, yset, rg0, ↓reduceIte, Nat.reduceEqDiff, Nat.reduceLT, Nat.reduceLeDiff, Nat.reduceAdd, Nat.reduceMul, Nat.reduceMod, Nat.reduceSub, Nat.reduceBEq, Int.reduceLE, Int.reduceLT, Int.reduceEq, Int.reduceSub, Int.reduceAdd, Int.reduceToNat, Int.reduceNeg, c1, c2, s_neOwn_l0_M] <;> (repeat' apply And.intro) <;> first | rfl | exact ⟨_, rfl⟩ | simp [lst, cat2_nil]
  · intro ex4 s4 hX4
    unfold s_neOwn_l0_X at hX4
    obtain ⟨rfl, n4_0, n4_1⟩ := hX4
    obtain rfl := Option.some.inj h
    simp (maxDischargeDepth := 9) only [↓xpre, xpost, xlst, xc2, xcore, yset, rg0, ↓reduceIte, Nat.reduceEqDiff, Nat.reduceLT, Nat.reduceLeDiff, Nat.reduceAdd, Nat.reduceMul, Nat.reduceMod, Nat.reduceSub, Nat.reduceBEq, Int.reduceLE, Int.reduceLT, Int.reduceEq, Int.reduceSub, Int.reduceAdd, Int.reduceToNat, Int.reduceNeg, c1, c2, n4_0, n4_1] <;> (repeat' apply And.intro) <;> first | rfl | exact ⟨_, rfl⟩ | simp [lst, cat2_nil]

noncomputable def s_RankIds_l0_S (n_Ends : List (List (Int × Int))) (n_Ids : List Int) (n_Inputs : List Int) (r7_ : (List (List (Int × Int))) × (List Int) × (List Int)) (out_1 : List Int) (t25_ : Int) (rank : Int) (t33_ : Int) : Option ((Int × Int) ⊕ (Int)) :=
  if t33_ < (n_Ids.length : Int) then
    ck (0 ≤ t33_ ∧ t33_.toNat < n_Ids.length) <|
    if (n_Ids.getD t33_.toNat default) < (n_Ids.getD t25_.toNat default) then
      some (Sum.inl (IntKind.i64.wrap (rank + 1), IntKind.i64.wrap (t33_ + 1)))
    else
      some (Sum.inl (rank, IntKind.i64.wrap (t33_ + 1)))
  else
    some (Sum.inr rank)
noncomputable def s_RankIds_l0 (n_Ends : List (List (Int × Int))) (n_Ids : List Int) (n_Inputs : List Int) (r7_ : (List (List (Int × Int))) × (List Int) × (List Int)) (out_1 : List Int) (t25_ : Int) (v : Int × Int) : Option (Int) := itO (fun v => s_RankIds_l0_S n_Ends n_Ids n_Inputs r7_ out_1 t25_ v.1 v.2) v
noncomputable def s_RankIds_l1_S (n_Ends : List (List (Int × Int))) (n_Ids : List Int) (n_Inputs : List Int) (r7_ : (List (List (Int × Int))) × (List Int) × (List Int)) (out_1 : List Int) (t25_ : Int) : Option (((List Int) × Int) ⊕ ((List Int))) :=
  if t25_ < (n_Ids.length : Int) then
    ck (0 ≤ t25_ ∧ t25_.toNat < n_Ids.length) <|
    (s_RankIds_l0 n_Ends n_Ids n_Inputs r7_ out_1 t25_ (1, 0)).bind fun r11_ =>
    ck (0 ≤ t25_ ∧ t25_.toNat < out_1.length) <|
    some (Sum.inl ((out_1.set t25_.toNat r11_), IntKind.i64.wrap (t25_ + 1)))
  else
    some (Sum.inr out_1)
noncomputable def s_RankIds_l1 (n_Ends : List (List (Int × Int))) (n_Ids : List Int) (n_Inputs : List Int) (r7_ : (List (List (Int × Int))) × (List Int) × (List Int)) (v : (List Int) × Int) : Option ((List Int)) := itO (fun v => s_RankIds_l1_S n_Ends n_Ids n_Inputs r7_ v.1 v.2) v
noncomputable def s_RankIds (n_Ends : List (List (Int × Int))) (n_Ids : List Int) (n_Inputs : List Int) : Option ((List (List (Int × Int))) × (List Int) × (List Int) × Bool) :=
  ck (ShortE n_Ends) <|
  ck (n_Ids.length < 1099511627776) <|
  ck (n_Inputs.length < 1099511627776) <|
  if (isNet n_Ends n_Ids n_Inputs) = true then
    if (n_Ids.length : Int) = 0 then
      some ([], [], [], false)
    else
      (s_neOwn n_Ends n_Ids n_Inputs).bind fun r7_ =>
      (s_RankIds_l1 n_Ends n_Ids n_Inputs r7_ (r7_.2.1, 0)).bind fun r9_ =>
      some (r7_.1, r9_, r7_.2.2, true)
  else
    some ([], [], [], false)
/-- spec.RankIds -/
def k9_l0b : SC :=
 .seq
 (.ops [
 ⟨(some 34), (.binOp .lss 3 (.tmp 33) (.tmp 32) 3), 0, none⟩])
 (.seq
 (.cond (.tmp 34)
 .skip
 (.exit 2))
 (.seq
 (.block 3
 (.seq
 (.ops [
 ⟨(some 35), (.indexAddr 23 (.tmp 31) (.tmp 33)), 0, none⟩,
 ⟨(some 36), (.load 3 (.tmp 35)), 3, none⟩,
 ⟨(some 9), (.assign (.tmp 36)), 3, none⟩])
 (.seq
 (.ops [
 ⟨(some 37), (.move (.tmp 9)), 3, none⟩,
 ⟨(some 38), (.move (.tmp 6)), 3, none⟩,
 ⟨(some 39), (.binOp .lss 3 (.tmp 37) (.tmp 38) 3), 4, none⟩])
 (.cond (.tmp 39)
 (.ops [
 ⟨(some 40), (.move (.tmp 7)), 3, none⟩,
 ⟨(some 41), (.binOp .add 3 (.tmp 40) (.const (.int .i64 1)) 3), 3, none⟩,
 ⟨(some 7), (.assign (.tmp 41)), 3, none⟩])
 .skip))))
 (.ops [
 ⟨(some 42), (.binOp .add 3 (.tmp 33) (.const (.int .i64 1)) 3), 3, none⟩,
 ⟨(some 33), (.move (.tmp 42)), 3, none⟩])))
def k9_l0 : SC := .loop k9_l0b
def k9_l1b : SC :=
 .seq
 (.ops [
 ⟨(some 26), (.binOp .lss 3 (.tmp 25) (.tmp 24) 3), 0, none⟩])
 (.seq
 (.cond (.tmp 26)
 .skip
 (.exit 0))
 (.seq
 (.block 1
 (.seq
 (.ops [
 ⟨(some 27), (.move (.tmp 25)), 3, none⟩,
 ⟨(some 28), (.indexAddr 23 (.tmp 23) (.tmp 25)), 0, none⟩,
 ⟨(some 29), (.load 3 (.tmp 28)), 3, none⟩,
 ⟨(some 5), (.assign (.tmp 27)), 3, none⟩,
 ⟨(some 6), (.assign (.tmp 29)), 3, none⟩])
 (.seq
 (.ops [
 ⟨(some 7), (.assign (.const (.int .i64 1))), 3, none⟩])
 (.seq
 (.seq
 (.ops [
 ⟨(some 30), (.fieldAddr 29 (.tmp 1) 1), 0, none⟩,
 ⟨(some 31), (.load 23 (.tmp 30)), 23, none⟩,
 ⟨(some 32), (.call ⟨(.builtin .len), #[(.tmp 31)], #[23]⟩), 3, none⟩,
 ⟨(some 33), (.move (.const (.int .i64 0))), 3, none⟩])
 (.block 2
 k9_l0))
 (.ops [
 ⟨(some 43), (.fieldAddr 29 (.tmp 4) 1), 0, none⟩,
 ⟨(some 44), (.load 23 (.tmp 43)), 23, none⟩,
 ⟨(some 45), (.move (.tmp 5)), 3, none⟩,
 ⟨(some 46), (.move (.tmp 7)), 3, none⟩,
 ⟨(some 47), (.indexAddr 23 (.tmp 44) (.tmp 45)), 0, none⟩,
 ⟨none, (.store 3 (.tmp 47) (.tmp 46)), 0, none⟩])))))
 (.ops [
 ⟨(some 48), (.binOp .add 3 (.tmp 25) (.const (.int .i64 1)) 3), 3, none⟩,
 ⟨(some 25), (.move (.tmp 48)), 3, none⟩])))
def k9_l1 : SC := .loop k9_l1b
def k9 : SC :=
 .seq
 (.ops [
 ⟨(some 1), (.box 29 (.tmp 0)), 0, none⟩,
 ⟨(some 2), (.alloc 29), 0, none⟩,
 ⟨(some 3), (.assign (.const (.bool false))), 4, none⟩])
 (.seq
 (.seq
 (.ops [
 ⟨(some 10), (.load 29 (.tmp 1)), 29, none⟩,
 ⟨(some 11), (.call ⟨(.value (.func 39)), #[(.tmp 10)], #[29]⟩), 4, none⟩,
 ⟨(some 12), (.unOp .not 4 (.tmp 11)), 4, none⟩,
 ⟨(some 13), (.move (.tmp 12)), 4, none⟩,
 ⟨(some 14), (.fieldAddr 29 (.tmp 1) 1), 0, (some (some 13, false))⟩,
 ⟨(some 15), (.load 23 (.tmp 14)), 23, (some (some 13, false))⟩,
 ⟨(some 16), (.call ⟨(.builtin .len), #[(.tmp 15)], #[23]⟩), 3, (some (some 13, false))⟩,
 ⟨(some 17), (.binOp .eql 3 (.tmp 16) (.const (.int .i64 0)) 3), 4, (some (some 13, false))⟩,
 ⟨(some 18), (.pick (.tmp 13) (.const (.bool true)) (.tmp 17)), 4, none⟩])
 (.cond (.tmp 18)
 (.seq
 (.ops [
 ⟨(some 19), (.build 29 #[]), 29, none⟩,
 ⟨none, (.store 29 (.tmp 2) (.tmp 19)), 0, none⟩,
 ⟨(some 3), (.assign (.const (.bool false))), 4, none⟩])
 .ret)
 .skip))
 (.seq
 (.ops [
 ⟨(some 20), (.load 29 (.tmp 1)), 29, none⟩,
 ⟨(some 21), (.call ⟨(.value (.func 40)), #[(.tmp 20)], #[29]⟩), 29, none⟩,
 ⟨(some 4), (.alloc 29), 0, none⟩,
 ⟨none, (.store 29 (.tmp 4) (.tmp 21)), 0, none⟩])
 (.seq
 (.seq
 (.ops [
 ⟨(some 22), (.fieldAddr 29 (.tmp 1) 1), 0, none⟩,
 ⟨(some 23), (.load 23 (.tmp 22)), 23, none⟩,
 ⟨(some 24), (.call ⟨(.builtin .len), #[(.tmp 23)], #[23]⟩), 3, none⟩,
 ⟨(some 25), (.move (.const (.int .i64 0))), 3, none⟩])
 (.block 0
 k9_l1))
 (.seq
 (.ops [
 ⟨(some 49), (.load 29 (.tmp 4)), 29, none⟩,
 ⟨none, (.store 29 (.tmp 2) (.tmp 49)), 0, none⟩,
 ⟨(some 3), (.assign (.const (.bool true))), 4, none⟩])
 .ret))))
theorem slim9 : Try.f9.body.map (slim lends) = some k9 := by kernel_rfl
theorem ok9 : fnOk Try.f9 1 = true := by kernel_rfl
theorem c9 {a l : List D} {r : D × List D} (h : wpD Y.env k9 (fin tys l.length [ResultVar.cell 2 29, ResultVar.tmp 3] r) (entry a l)) (ha : a.length = 1) : Y.call 9 a l = some r :=
  call_slim (Y := Y) rfl Try.func9 (ha ▸ ok9) slim9 h
def s_RankIds_l0_M (n_Ends : List (List (Int × Int))) (n_Ids : List Int) (n_Inputs : List Int) (r7_ : (List (List (Int × Int))) × (List Int) × (List Int)) (out_1 : List Int) (t25_ : Int) (rank : Int) (t33_ : Int) (s : St) : Prop := s.v 1 = D.box [D.sl 93 (lst (fun x => D.sl 95 (cat2 .i64 .i64 x)) n_Ends), D.sl 3 (lst (D.int .i64) n_Ids), D.sl 3 (lst (D.int .i64) n_Inputs)] ∧ s.v 2 = D.box [D.own 93 [], D.own 3 [], D.own 3 []] ∧ s.v 4 = D.box [D.own 93 (lst (fun x => D.own 95 (cat2 .i64 .i64 x)) r7_.1), D.own 3 (lst (D.int .i64) out_1), D.own 3 (lst (D.int .i64) r7_.2.2)] ∧ s.v 5 = D.int .i64 t25_ ∧ s.v 6 = D.int .i64 (n_Ids.getD t25_.toNat default) ∧ s.v 7 = D.int .i64 rank ∧ s.v 23 = D.sl 3 (lst (D.int .i64) n_Ids) ∧ s.v 24 = D.int .i64 (n_Ids.length : Int) ∧ s.v 25 = D.int .i64 t25_ ∧ s.v 31 = D.sl 3 (lst (D.int .i64) n_Ids) ∧ s.v 32 = D.int .i64 (n_Ids.length : Int) ∧ s.v 33 = D.int .i64 t33_
def s_RankIds_l0_X (n_Ends : List (List (Int × Int))) (n_Ids : List Int) (n_Inputs : List Int) (r7_ : (List (List (Int × Int))) × (List Int) × (List Int)) (out_1 : List Int) (t25_ : Int) (r : Int) (ex : Ex) (s : St) : Prop := ex = .exit 2 ∧ s.v 1 = D.box [D.sl 93 (lst (fun x => D.sl 95 (cat2 .i64 .i64 x)) n_Ends), D.sl 3 (lst (D.int .i64) n_Ids), D.sl 3 (lst (D.int .i64) n_Inputs)] ∧ s.v 2 = D.box [D.own 93 [], D.own 3 [], D.own 3 []] ∧ s.v 4 = D.box [D.own 93 (lst (fun x => D.own 95 (cat2 .i64 .i64 x)) r7_.1), D.own 3 (lst (D.int .i64) out_1), D.own 3 (lst (D.int .i64) r7_.2.2)] ∧ s.v 5 = D.int .i64 t25_ ∧ s.v 7 = D.int .i64 r ∧ s.v 23 = D.sl 3 (lst (D.int .i64) n_Ids) ∧ s.v 24 = D.int .i64 (n_Ids.length : Int) ∧ s.v 25 = D.int .i64 t25_
theorem s_RankIds_l0_wp (n_Ends : List (List (Int × Int))) (n_Ids : List Int) (n_Inputs : List Int) (r7_ : (List (List (Int × Int))) × (List Int) × (List Int)) (out_1 : List Int) (t25_ : Int) {v : Int × Int} {s : St} {r : Int} (h : s_RankIds_l0 n_Ends n_Ids n_Inputs r7_ out_1 t25_ v = some r) (hM : s_RankIds_l0_M n_Ends n_Ids n_Inputs r7_ out_1 t25_ v.1 v.2 s) : wpD Y.env k9_l0 (s_RankIds_l0_X n_Ends n_Ids n_Inputs r7_ out_1 t25_ r) s := by
  unfold s_RankIds_l0 at h
  refine wd_itO (c := k9_l0b) (fun v => s_RankIds_l0_S n_Ends n_Ids n_Inputs r7_ out_1 t25_ v.1 v.2) (fun v s => s_RankIds_l0_M n_Ends n_Ids n_Inputs r7_ out_1 t25_ v.1 v.2 s) (s_RankIds_l0_X n_Ends n_Ids n_Inputs r7_ out_1 t25_) ?_ h hM
  clear h hM s v r
  intro v s o hM h
  obtain ⟨rank, t33_⟩ := v
  dsimp only at h hM
  unfold s_RankIds_l0_S at h
  unfold s_RankIds_l0_M at hM
  obtain ⟨m0, m1, m2, m3, m4, m5, m6, m7, m8, m9, m10, m11⟩ := hM
  unfold k9_l0b
  by_cases e10 : t33_ < (n_Ids.length : Int)
  · rw [if_pos e10] at h
    obtain ⟨e11, h⟩ := ckS h
    by_cases e12 : (n_Ids.getD t33_.toNat default) < (n_Ids.getD t25_.toNat default)
    · rw [if_pos e12] at h
      obtain rfl := Option.some.inj h
      simp (maxDischargeDepth := 9) only [↓xpre, xpost, xlst, xc2, xcore, yset, rg0, ↓reduceIte, Nat.reduceEqDiff, Nat.reduceLT, Nat.reduceLeDiff, Nat.reduceAdd, Nat.reduceMul, Nat.reduceMod, Nat.reduceSub, Nat.reduceBEq, Int.reduceLE, Int.reduceLT, Int.reduceEq, Int.reduceSub, Int.reduceAdd, Int.reduceToNat, Int.reduceNeg, m0, m1, m2, m3, m4, m5, m6, m7, m8, m9, m10, m11, e10, e11.1, e11.2, e12, s_RankIds_l0_M, s_RankIds_l0_X, sxN, sxE, sxR] <;> (repeat' apply And.intro) <;> first | rfl | exact ⟨_, rfl⟩ | simp [lst, cat2_nil]
    · rw [if_neg e12] at h
      obtain rfl := Option.some.inj h
      simp (maxDischargeDepth := 9) only [↓xpre, xpost, xlst, xc2, xcore, yset, rg0, ↓reduceIte, Nat.reduceEqDiff, Nat.reduceLT, Nat.reduceLeDiff, Nat.reduceAdd, Nat.reduceMul, Nat.reduceMod, Nat.reduceSub, Nat.reduceBEq, Int.reduceLE, Int.reduceLT, Int.reduceEq, Int.reduceSub, Int.reduceAdd, Int.reduceToNat, Int.reduceNeg, m0, m1, m2, m3, m4, m5, m6, m7, m8, m9, m10, m11, e10, e11.1, e11.2, e12, s_RankIds_l0_M, s_RankIds_l0_X, sxN, sxE, sxR] <;> (repeat' apply And.intro) <;> first | rfl | exact ⟨_, rfl⟩ | simp [lst, cat2_nil]
  · rw [if_neg e10] at h
    obtain rfl := Option.some.inj h
    simp (maxDischargeDepth := 9) only [↓xpre, xpost, xlst, xc2, xcore, yset, rg0, ↓reduceIte, Nat.reduceEqDiff, Nat.reduceLT, Nat.reduceLeDiff, Nat.reduceAdd, Nat.reduceMul, Nat.reduceMod, Nat.reduceSub, Nat.reduceBEq, Int.reduceLE, Int.reduceLT, Int.reduceEq, Int.reduceSub, Int.reduceAdd, Int.reduceToNat, Int.reduceNeg, m0, m1, m2, m3, m4, m5, m6, m7, m8, m9, m10, m11, e10, s_RankIds_l0_M, s_RankIds_l0_X, sxN, sxE, sxR] <;> (repeat' apply And.intro) <;> first | rfl | exact ⟨_, rfl⟩ | simp [lst, cat2_nil]
def s_RankIds_l1_M (n_Ends : List (List (Int × Int))) (n_Ids : List Int) (n_Inputs : List Int) (r7_ : (List (List (Int × Int))) × (List Int) × (List Int)) (out_1 : List Int) (t25_ : Int) (s : St) : Prop := s.v 1 = D.box [D.sl 93 (lst (fun x => D.sl 95 (cat2 .i64 .i64 x)) n_Ends), D.sl 3 (lst (D.int .i64) n_Ids), D.sl 3 (lst (D.int .i64) n_Inputs)] ∧ s.v 2 = D.box [D.own 93 [], D.own 3 [], D.own 3 []] ∧ s.v 4 = D.box [D.own 93 (lst (fun x => D.own 95 (cat2 .i64 .i64 x)) r7_.1), D.own 3 (lst (D.int .i64) out_1), D.own 3 (lst (D.int .i64) r7_.2.2)] ∧ s.v 23 = D.sl 3 (lst (D.int .i64) n_Ids) ∧ s.v 24 = D.int .i64 (n_Ids.length : Int) ∧ s.v 25 = D.int .i64 t25_
def s_RankIds_l1_X (n_Ends : List (List (Int × Int))) (n_Ids : List Int) (n_Inputs : List Int) (r7_ : (List (List (Int × Int))) × (List Int) × (List Int)) (r : (List Int)) (ex : Ex) (s : St) : Prop := ex = .exit 0 ∧ s.v 2 = D.box [D.own 93 [], D.own 3 [], D.own 3 []] ∧ s.v 4 = D.box [D.own 93 (lst (fun x => D.own 95 (cat2 .i64 .i64 x)) r7_.1), D.own 3 (lst (D.int .i64) r), D.own 3 (lst (D.int .i64) r7_.2.2)]
theorem s_RankIds_l1_wp (n_Ends : List (List (Int × Int))) (n_Ids : List Int) (n_Inputs : List Int) (r7_ : (List (List (Int × Int))) × (List Int) × (List Int)) {v : (List Int) × Int} {s : St} {r : (List Int)} (h : s_RankIds_l1 n_Ends n_Ids n_Inputs r7_ v = some r) (hM : s_RankIds_l1_M n_Ends n_Ids n_Inputs r7_ v.1 v.2 s) : wpD Y.env k9_l1 (s_RankIds_l1_X n_Ends n_Ids n_Inputs r7_ r) s := by
  unfold s_RankIds_l1 at h
  refine wd_itO (c := k9_l1b) (fun v => s_RankIds_l1_S n_Ends n_Ids n_Inputs r7_ v.1 v.2) (fun v s => s_RankIds_l1_M n_Ends n_Ids n_Inputs r7_ v.1 v.2 s) (s_RankIds_l1_X n_Ends n_Ids n_Inputs r7_) ?_ h hM
  clear h hM s v r
  intro v s o hM h
  obtain ⟨out_1, t25_⟩ := v
  dsimp only at h hM
  unfold s_RankIds_l1_S at h
  unfold s_RankIds_l1_M at hM
  obtain ⟨m0, m1, m2, m3, m4, m5⟩ := hM
  unfold k9_l1b
  by_cases e8 : t25_ < (n_Ids.length : Int)
  · rw [if_pos e8] at h
    obtain ⟨e9, h⟩ := ckS h
    obtain ⟨r11_, hl11, h⟩ := bindS h
    try dsimp only at h
    simp (maxDischargeDepth := 9) only [↓xpre, xpost, xlst, xc2, xcore, yset, rg0, ↓reduceIte, Nat.reduceEqDiff, Nat.reduceLT, Nat.reduceLeDiff, Nat.reduceAdd, Nat.reduceMul, Nat.reduceMod, Nat.reduceSub, Nat.reduceBEq, Int.reduceLE, Int.reduceLT, Int.reduceEq, Int.reduceSub, Int.reduceAdd, Int.reduceToNat, Int.reduceNeg, m0, m1, m2, m3, m4, m5, e8, e9.1, e9.2]
    refine wd_mono (s_RankIds_l0_wp n_Ends n_Ids n_Inputs r7_ out_1 t25_ hl11 ?_) ?_
    · simp (maxDischargeDepth := 9) only [↓xpre, xpost, xlst, xc2, xcore, yset, rg0, ↓reduceIte, Nat.reduceEqDiff, Nat.reduceLT, Nat.reduceLeDiff, Nat.reduceAdd, Nat.reduceMul, Nat.reduceMod, Nat.reduceSub, Nat.reduceBEq, Int.reduceLE, Int.reduceLT, Int.reduceEq, Int.reduceSub, Int.reduceAdd, Int.reduceToNat, Int.reduceNeg, m0, m1, m2, m3, m4, m5, e8, e9.1, e9.2, s_RankIds_l0_M] <;> (repeat' apply And.intro) <;> first | rfl | exact ⟨_, rfl⟩ | simp [lst, cat2_nil]
    · intro ex11 s11 hX11
      unfold s_RankIds_l0_X at hX11
      obtain ⟨rfl, n11_0, n11_1, n11_2, n11_3, n11_4, n11_5, n11_6, n11_7⟩ := hX11
      obtain ⟨e12, h⟩ := ckS h
      obtain rfl := Option.some.inj h
      simp (maxDischargeDepth := 9) only [↓xpre, xpost, xlst, xc2, xcore, yset, rg0, ↓reduceIte, Nat.reduceEqDiff, Nat.reduceLT, Nat.reduceLeDiff, Nat.reduceAdd, Nat.reduceMul, Nat.reduceMod, Nat.reduceSub, Nat.reduceBEq, Int.reduceLE, Int.reduceLT, Int.reduceEq, Int.reduceSub, Int.reduceAdd, Int.reduceToNat, Int.reduceNeg, e8, e9.1, e9.2, n11_0, n11_1, n11_2, n11_3, n11_4, n11_5, n11_6, n11_7, e12.1, e12.2, s_RankIds_l1_M, s_RankIds_l1_X, sxN, sxE, sxR] <;> (repeat' apply And.intro) <;> first | rfl | exact ⟨_, rfl⟩ | simp [lst, cat2_nil]
  · rw [if_neg e8] at h
    obtain rfl := Option.some.inj h
    simp (maxDischargeDepth := 9) only [↓xpre, xpost, xlst, xc2, xcore, yset, rg0, ↓reduceIte, Nat.reduceEqDiff, Nat.reduceLT, Nat.reduceLeDiff, Nat.reduceAdd, Nat.reduceMul, Nat.reduceMod, Nat.reduceSub, Nat.reduceBEq, Int.reduceLE, Int.reduceLT, Int.reduceEq, Int.reduceSub, Int.reduceAdd, Int.reduceToNat, Int.reduceNeg, m0, m1, m2, m3, m4, m5, e8, s_RankIds_l1_M, s_RankIds_l1_X, sxN, sxE, sxR] <;> (repeat' apply And.intro) <;> first | rfl | exact ⟨_, rfl⟩ | simp [lst, cat2_nil]
theorem s_RankIds_call (n_Ends : List (List (Int × Int))) (n_Ids : List Int) (n_Inputs : List Int) {r : (List (List (Int × Int))) × (List Int) × (List Int) × Bool} (h : s_RankIds n_Ends n_Ids n_Inputs = some r) : Y.call 9 [D.agg [D.sl 93 (lst (fun x => D.sl 95 (cat2 .i64 .i64 x)) n_Ends), D.sl 3 (lst (D.int .i64) n_Ids), D.sl 3 (lst (D.int .i64) n_Inputs)]] [] = some (D.tup [D.agg [D.own 93 (lst (fun x => D.own 95 (cat2 .i64 .i64 x)) r.1), D.own 3 (lst (D.int .i64) r.2.1), D.own 3 (lst (D.int .i64) r.2.2.1)], D.bool r.2.2.2], []) := by
  refine c9 ?_ rfl
  unfold k9
  unfold s_RankIds at h
  obtain ⟨e1, h⟩ := ckS h
  obtain ⟨e2, h⟩ := ckS h
  obtain ⟨e3, h⟩ := ckS h
  have c4 := s_neGood_cl n_Ends n_Ids n_Inputs e1 e2 e3
  by_cases e5 : (isNet n_Ends n_Ids n_Inputs) = true
  · rw [if_pos e5] at h
    by_cases e6 : (n_Ids.length : Int) = 0
    · rw [if_pos e6] at h
      obtain rfl := Option.some.inj h
      simp (maxDischargeDepth := 9) only [↓xpre, xpost, xlst, xc2, xcore, yset, rg0, ↓reduceIte, Nat.reduceEqDiff, Nat.reduceLT, Nat.reduceLeDiff, Nat.reduceAdd, Nat.reduceMul, Nat.reduceMod, Nat.reduceSub, Nat.reduceBEq, Int.reduceLE, Int.reduceLT, Int.reduceEq, Int.reduceSub, Int.reduceAdd, Int.reduceToNat, Int.reduceNeg, e1, e2, e3, c4, e5, decide_eq_true e6] <;> (repeat' apply And.intro) <;> first | rfl | exact ⟨_, rfl⟩ | simp [lst, cat2_nil]
    · rw [if_neg e6] at h
      obtain ⟨r7_, hl7, h⟩ := bindS h
      try dsimp only at h
      have c7 := s_neOwn_call n_Ends n_Ids n_Inputs hl7
      obtain ⟨r9_, hl9, h⟩ := bindS h
      try dsimp only at h
      simp (maxDischargeDepth := 9) only [↓xpre, xpost, xlst, xc2, xcore, yset, rg0, ↓reduceIte, Nat.reduceEqDiff, Nat.reduceLT, Nat.reduceLeDiff, Nat.reduceAdd, Nat.reduceMul, Nat.reduceMod, Nat.reduceSub, Nat.reduceBEq, Int.reduceLE, Int.reduceLT, Int.reduceEq, Int.reduceSub, Int.reduceAdd, Int.reduceToNat, Int.reduceNeg, e1, e2, e3, c4, e5, e6, c7]
      refine wd_mono (s_RankIds_l1_wp n_Ends n_Ids n_Inputs r7_ hl9 ?_) ?_
      · simp (maxDischargeDepth := 9) only [↓xpre, xpost, xlst, xc2, xcore, yset, rg0, ↓reduceIte, Nat.reduceEqDiff, Nat.reduceLT, Nat.reduceLeDiff, Nat.reduceAdd, Nat.reduceMul, Nat.reduceMod, Nat.reduceSub, Nat.reduceBEq, Int.reduceLE, Int.reduceLT, Int.reduceEq, Int.reduceSub, Int.reduceAdd, Int.reduceToNat, Int.reduceNeg, e1, e2, e3, c4, e5, e6, c7, s_RankIds_l1_M] <;> (repeat' apply And.intro) <;> first | rfl | exact ⟨_, rfl⟩ | simp [lst, cat2_nil]
      · intro ex9 s9 hX9
        unfold s_RankIds_l1_X at hX9
        obtain ⟨rfl, n9_0, n9_1⟩ := hX9
        obtain rfl := Option.some.inj h
        simp (maxDischargeDepth := 9) only [↓xpre, xpost, xlst, xc2, xcore, yset, rg0, ↓reduceIte, Nat.reduceEqDiff, Nat.reduceLT, Nat.reduceLeDiff, Nat.reduceAdd, Nat.reduceMul, Nat.reduceMod, Nat.reduceSub, Nat.reduceBEq, Int.reduceLE, Int.reduceLT, Int.reduceEq, Int.reduceSub, Int.reduceAdd, Int.reduceToNat, Int.reduceNeg, e1, e2, e3, c4, e5, e6, c7, n9_0, n9_1] <;> (repeat' apply And.intro) <;> first | rfl | exact ⟨_, rfl⟩ | simp [lst, cat2_nil]
  · rw [if_neg e5] at h
    have e5f : (isNet n_Ends n_Ids n_Inputs) = false := Bool.eq_false_iff.mpr e5
    obtain rfl := Option.some.inj h
    simp (maxDischargeDepth := 9) only [↓xpre, xpost, xlst, xc2, xcore, yset, rg0, ↓reduceIte, Nat.reduceEqDiff, Nat.reduceLT, Nat.reduceLeDiff, Nat.reduceAdd, Nat.reduceMul, Nat.reduceMod, Nat.reduceSub, Nat.reduceBEq, Int.reduceLE, Int.reduceLT, Int.reduceEq, Int.reduceSub, Int.reduceAdd, Int.reduceToNat, Int.reduceNeg, e1, e2, e3, c4, e5f] <;> (repeat' apply And.intro) <;> first | rfl | exact ⟨_, rfl⟩ | simp [lst, cat2_nil]


end Go.Proofs.Ytjkgcfdcfjkkbaa
