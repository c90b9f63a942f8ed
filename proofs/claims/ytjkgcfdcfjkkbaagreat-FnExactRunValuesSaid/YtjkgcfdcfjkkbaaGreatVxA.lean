/- Runs, lifted. Conditions: none. -/
import Derived.Test.YtjkgcfdcfjkkbaaGreatL6
import Derived.Test.YtjkgcfdcfjkkbaaGreatVpA
namespace Go.Proofs.YtjkgcfdcfjkkbaaGreat
open Go Dv
set_option linter.unusedSimpArgs false
set_option linter.unusedVariables false
set_option maxRecDepth 100000
set_option maxHeartbeats 4000000

noncomputable def i_RunValues_l0_S (prog : List (Int × Int)) (n_Ends : List (List (Int × Int))) (n_Ids : List Int) (n_Inputs : List Int) (rounds : Int) (out : List (List Int)) (t26_ : Int) : Option (((List (List Int)) × Int) ⊕ ((List (List Int)))) :=
 if t26_ < rounds then
  ck (0 ≤ t26_ ∧ t26_.toNat < out.length) <|
  (i_stepValues prog n_Ends n_Ids n_Inputs (IntKind.i64.wrap (t26_ + 1)) (out.getD t26_.toNat default)).bind fun r9_ =>
  ck (out.length + 1 < 1099511627776) <|
  some (Sum.inl ((out ++ [r9_]), IntKind.i64.wrap (t26_ + 1)))
 else
  some (Sum.inr out)
noncomputable def i_RunValues_l0 (prog : List (Int × Int)) (n_Ends : List (List (Int × Int))) (n_Ids : List Int) (n_Inputs : List Int) (rounds : Int) (v : (List (List Int)) × Int) : Option ((List (List Int))) := itO (fun v => i_RunValues_l0_S prog n_Ends n_Ids n_Inputs rounds v.1 v.2) v
noncomputable def i_RunValues (prog : List (Int × Int)) (n_Ends : List (List (Int × Int))) (n_Ids : List Int) (n_Inputs : List Int) (start : List Int) (rounds : Int) : Option ((List (List Int)) × Bool) :=
 (i_valuesOk prog n_Ends n_Ids n_Inputs start).bind fun r1_ =>
 if r1_ = true then
  if (inR rounds (0 : Int) (40 : Int)) = true then
   ck (start.length < 1099511627776) <|
   (i_RunValues_l0 prog n_Ends n_Ids n_Inputs rounds ([start], 0)).bind fun r8_ =>
   some (r8_, true)
  else
   some ([], false)
 else
  some ([], false)
/-- impl.RunValues -/
def k23_l0b : SC :=
 .seq
 (.ops [
 ⟨(some 27), (.binOp .lss 3 (.tmp 26) (.tmp 25) 3), 4, none⟩])
 (.seq
 (.cond (.tmp 27)
 .skip
 (.exit 0))
 (.seq
 (.block 1
 (.seq
 (.ops [
 ⟨(some 28), (.move (.tmp 26)), 3, none⟩,
 ⟨(some 11), (.assign (.tmp 28)), 3, none⟩])
 (.draws [
 (⟨[29, 10, 10], [29, 30, 31, 32, 33, 34, 35, 36, 37, 38, 39, 38, 38, 40, 29, 39, 10, 39, 10, 40, 40], [29]⟩, ⟨(some 29), (.move (.tmp 10)), 22, none⟩),
 (⟨[30, 0, 0], [29, 30, 31, 32, 33, 34, 35, 36, 37, 38, 39, 38, 38, 40, 29, 39, 10, 39, 10, 40, 40], [30]⟩, ⟨(some 30), (.move (.tmp 0)), 49, none⟩),
 (⟨[31, 5, 5], [29, 30, 31, 32, 33, 34, 35, 36, 37, 38, 39, 38, 38, 40, 29, 39, 10, 39, 10, 40, 40], [31]⟩, ⟨(some 31), (.load 37 (.tmp 5)), 37, none⟩),
 (⟨[32, 11, 11], [29, 30, 31, 32, 33, 34, 35, 36, 37, 38, 39, 38, 38, 40, 29, 39, 10, 39, 10, 40, 40], [32]⟩, ⟨(some 32), (.move (.tmp 11)), 3, none⟩),
 (⟨[33, 32, 11], [29, 30, 31, 32, 33, 34, 35, 36, 37, 38, 39, 38, 38, 40, 29, 39, 10, 39, 10, 40, 40], [33]⟩, ⟨(some 33), (.binOp .add 3 (.tmp 32) (.const (.int .i64 1)) 3), 3, none⟩),
 (⟨[34, 10, 10], [29, 30, 31, 32, 33, 34, 35, 36, 37, 38, 39, 38, 38, 40, 29, 39, 10, 39, 10, 40, 40], [34]⟩, ⟨(some 34), (.move (.tmp 10)), 22, none⟩),
 (⟨[35, 11, 11], [29, 30, 31, 32, 33, 34, 35, 36, 37, 38, 39, 38, 38, 40, 29, 39, 10, 39, 10, 40, 40], [35]⟩, ⟨(some 35), (.move (.tmp 11)), 3, none⟩),
 (⟨[36, 34, 35, 10, 11], [29, 30, 31, 32, 33, 34, 35, 36, 37, 38, 39, 38, 38, 40, 29, 39, 10, 39, 10, 40, 40], [36]⟩, ⟨(some 36), (.indexAddr 22 (.tmp 34) (.tmp 35)), 0, none⟩),
 (⟨[37, 36, 10], [29, 30, 31, 32, 33, 34, 35, 36, 37, 38, 39, 38, 38, 40, 29, 39, 10, 39, 10, 40, 40], [37]⟩, ⟨(some 37), (.load 26 (.tmp 36)), 26, none⟩),
 (⟨[38, 30, 31, 33, 37, 0, 5, 33, 10], [29, 30, 31, 32, 33, 34, 35, 36, 37, 38, 39, 38, 38, 40, 29, 39, 10, 39, 10, 40, 40], [38]⟩, ⟨(some 38), (.call ⟨(.value (.func 52)), #[(.tmp 30), (.tmp 31), (.tmp 33), (.tmp 37)], #[49, 37, 3, 26]⟩), 26, none⟩),
 (⟨[39, 38, 38], [29, 30, 31, 32, 33, 34, 35, 36, 37, 38, 39, 38, 38, 40, 29, 39, 10, 39, 10, 40, 40], [39, 38, 38]⟩, ⟨(some 39), (.buildSlice 22 1 #[(0, (.tmp 38))]), 22, none⟩),
 (⟨[40, 29, 39, 10, 39], [29, 30, 31, 32, 33, 34, 35, 36, 37, 38, 39, 38, 38, 40, 29, 39, 10, 39, 10, 40, 40], [40, 29, 39, 10, 39]⟩, ⟨(some 40), (.call ⟨(.builtin .append), #[(.tmp 29), (.tmp 39)], #[22, 22]⟩), 22, none⟩),
 (⟨[10, 40, 40], [29, 30, 31, 32, 33, 34, 35, 36, 37, 38, 39, 38, 38, 40, 29, 39, 10, 39, 10, 40, 40], [10, 40, 40]⟩, ⟨(some 10), (.assign (.tmp 40)), 22, none⟩)])))
 (.ops [
 ⟨(some 41), (.binOp .add 3 (.tmp 26) (.const (.int .i64 1)) 3), 3, none⟩,
 ⟨(some 26), (.move (.tmp 41)), 3, none⟩])))
def k23_l0 : SC := .loop k23_l0b
def k23 : SC :=
 .seq
 (.ops [
 ⟨(some 5), (.box 37 (.tmp 1)), 0, none⟩,
 ⟨(some 8), (.assign (.const (.slice none 0 0))), 22, none⟩,
 ⟨(some 9), (.assign (.const (.bool false))), 4, none⟩])
 (.seq
 (.seq
 (.ops [
 ⟨(some 12), (.move (.tmp 0)), 49, none⟩,
 ⟨(some 13), (.load 37 (.tmp 5)), 37, none⟩,
 ⟨(some 14), (.move (.tmp 2)), 26, none⟩,
 ⟨(some 15), (.call ⟨(.value (.func 49)), #[(.tmp 12), (.tmp 13), (.tmp 14)], #[49, 37, 26]⟩), 4, none⟩,
 ⟨(some 16), (.unOp .not 4 (.tmp 15)), 4, none⟩,
 ⟨(some 17), (.move (.tmp 16)), 4, none⟩,
 ⟨(some 18), (.move (.tmp 3)), 3, (some (some 17, false))⟩,
 ⟨(some 19), (.call ⟨(.value (.func 50)), #[(.tmp 18), (.const (.int .i64 0)), (.const (.int .i64 40))], #[3, 3, 3]⟩), 4, (some (some 17, false))⟩,
 ⟨(some 20), (.unOp .not 4 (.tmp 19)), 4, (some (some 17, false))⟩,
 ⟨(some 21), (.pick (.tmp 17) (.const (.bool true)) (.tmp 20)), 4, none⟩])
 (.cond (.tmp 21)
 (.seq
 (.ops [
 ⟨(some 8), (.assign (.const (.slice none 0 0))), 22, none⟩,
 ⟨(some 9), (.assign (.const (.bool false))), 4, none⟩])
 .ret)
 .skip))
 (.seq
 (.ops [
 ⟨(some 22), (.move (.tmp 2)), 26, none⟩,
 ⟨(some 23), (.call ⟨(.value (.func 51)), #[(.tmp 22)], #[26]⟩), 26, none⟩,
 ⟨(some 24), (.buildSlice 22 1 #[(0, (.tmp 23))]), 22, none⟩,
 ⟨(some 10), (.assign (.tmp 24)), 22, none⟩])
 (.seq
 (.seq
 (.ops [
 ⟨(some 25), (.move (.tmp 3)), 3, none⟩,
 ⟨(some 26), (.move (.const (.int .i64 0))), 3, none⟩])
 (.block 0
 k23_l0))
 (.seq
 (.ops [
 ⟨(some 42), (.move (.tmp 10)), 22, none⟩,
 ⟨(some 8), (.assign (.tmp 42)), 22, none⟩,
 ⟨(some 9), (.assign (.const (.bool true))), 4, none⟩])
 .ret))))
theorem slim23 : Tryz.f23.body.map (slim lends) = some k23 := by kernel_rfl
theorem ok23 : fnOk Tryz.f23 4 = true := by kernel_rfl
theorem c23 {a l : List D} {r : D × List D} (h : wpD Y.env k23 (fin tys l.length [ResultVar.tmp 8, ResultVar.tmp 9] r) (entry a l)) (ha : a.length = 4) : Y.call 23 a l = some r :=
 call_slim (Y := Y) rfl Tryz.func23 (ha ▸ ok23) slim23 h
def i_RunValues_l0_M (prog : List (Int × Int)) (n_Ends : List (List (Int × Int))) (n_Ids : List Int) (n_Inputs : List Int) (rounds : Int) (out : List (List Int)) (t26_ : Int) (s : St) : Prop := s.v 0 = D.sl 73 (cat2 .i64 .i64 prog) ∧ s.v 5 = D.box [D.sl 62 (lst (fun x => D.sl 85 (cat2 .i64 .i64 x)) n_Ends), D.sl 3 (lst (D.int .i64) n_Ids), D.sl 3 (lst (D.int .i64) n_Inputs)] ∧ s.v 10 = D.own 26 (lst (fun x => D.own 3 (lst (D.int .i64) x)) out) ∧ s.v 25 = D.int .i64 rounds ∧ s.v 26 = D.int .i64 t26_
def i_RunValues_l0_X (prog : List (Int × Int)) (n_Ends : List (List (Int × Int))) (n_Ids : List Int) (n_Inputs : List Int) (rounds : Int) (r : (List (List Int))) (ex : Ex) (s : St) : Prop := ex = .exit 0 ∧ s.v 10 = D.own 26 (lst (fun x => D.own 3 (lst (D.int .i64) x)) r)
theorem i_RunValues_l0_wp (prog : List (Int × Int)) (n_Ends : List (List (Int × Int))) (n_Ids : List Int) (n_Inputs : List Int) (rounds : Int) {v : (List (List Int)) × Int} {s : St} {r : (List (List Int))} (h : i_RunValues_l0 prog n_Ends n_Ids n_Inputs rounds v = some r) (hM : i_RunValues_l0_M prog n_Ends n_Ids n_Inputs rounds v.1 v.2 s) : wpD Y.env k23_l0 (i_RunValues_l0_X prog n_Ends n_Ids n_Inputs rounds r) s := by
 unfold i_RunValues_l0 at h
 refine wd_itO (c := k23_l0b) (fun v => i_RunValues_l0_S prog n_Ends n_Ids n_Inputs rounds v.1 v.2) (fun v s => i_RunValues_l0_M prog n_Ends n_Ids n_Inputs rounds v.1 v.2 s) (i_RunValues_l0_X prog n_Ends n_Ids n_Inputs rounds) ?_ h hM
 clear h hM s v r
 intro v s o hM h
 obtain ⟨out, t26_⟩ := v
 dsimp only at h hM
 unfold i_RunValues_l0_S at h
 unfold i_RunValues_l0_M at hM
 obtain ⟨m0, m1, m2, m3, m4⟩ := hM
 unfold k23_l0b
 by_cases e7 : t26_ < rounds
 ·rw [if_pos e7] at h
  obtain ⟨e8, h⟩ := ckS h
  obtain ⟨r9_, hl9, h⟩ := bindS h
  try dsimp only at h
  have c9 := i_stepValues_call prog n_Ends n_Ids n_Inputs (IntKind.i64.wrap (t26_ + 1)) (out.getD t26_.toNat default) hl9
  obtain ⟨e10, h⟩ := ckS h
  obtain rfl := Option.some.inj h
  simp (maxDischargeDepth := 9) only [↓xpre, xpost, xlst, xcore, yset, ↓reduceIte, Nat.reduceEqDiff, Nat.reduceLeDiff, Nat.reduceAdd, Nat.reduceBEq, m0, m1, m2, m3, m4, e7, e8.1, e8.2, c9, e10, i_RunValues_l0_M, sxN]
 ·rw [if_neg e7] at h
  obtain rfl := Option.some.inj h
  simp (maxDischargeDepth := 9) only [↓xpre, xpost, yset, ↓reduceIte, Nat.reduceEqDiff, m2, m3, m4, e7, i_RunValues_l0_M, i_RunValues_l0_X, sxE]
theorem i_RunValues_call (prog : List (Int × Int)) (n_Ends : List (List (Int × Int))) (n_Ids : List Int) (n_Inputs : List Int) (start : List Int) (rounds : Int) {r : (List (List Int)) × Bool} (h : i_RunValues prog n_Ends n_Ids n_Inputs start rounds = some r) : Y.call 23 [D.sl 73 (cat2 .i64 .i64 prog), D.agg [D.sl 62 (lst (fun x => D.sl 85 (cat2 .i64 .i64 x)) n_Ends), D.sl 3 (lst (D.int .i64) n_Ids), D.sl 3 (lst (D.int .i64) n_Inputs)], D.sl 3 (lst (D.int .i64) start), D.int .i64 rounds] [] = some (D.tup [D.own 26 (lst (fun x => D.own 3 (lst (D.int .i64) x)) r.1), D.bool r.2], []) := by
 refine c23 ?_ rfl
 unfold k23
 unfold i_RunValues at h
 obtain ⟨r1_, hl1, h⟩ := bindS h
 try dsimp only at h
 have c1 := i_valuesOk_call prog n_Ends n_Ids n_Inputs start hl1
 by_cases e2 : r1_ = true
 ·rw [if_pos e2] at h
  have c3 := i_within_cl rounds (0 : Int) (40 : Int)
  by_cases e4 : (inR rounds (0 : Int) (40 : Int)) = true
  ·rw [if_pos e4] at h
   obtain ⟨e5, h⟩ := ckS h
   have c6 := g_slices_Clone_Sint_int_cl start e5
   obtain ⟨r8_, hl8, h⟩ := bindS h
   try dsimp only at h
   simp (maxDischargeDepth := 9) only [↓xpre, xpost, xlst, xcore, yset, ↓reduceIte, Nat.reduceEqDiff, Nat.reduceLT, Nat.reduceLeDiff, Nat.reduceAdd, c1, e2, c3, e4, c6]
   refine wd_mono (i_RunValues_l0_wp prog n_Ends n_Ids n_Inputs rounds hl8 ?_) ?_
   ·simp (maxDischargeDepth := 9) only [xpost, xcore, ↓reduceIte, Nat.reduceEqDiff, Nat.reduceLT, i_RunValues_l0_M] <;> (repeat' apply And.intro) <;> first | rfl | exact ⟨_, rfl⟩ | simp [lst, cat2_nil]
   ·intro ex8 s8 hX8
    unfold i_RunValues_l0_X at hX8
    obtain ⟨rfl, n8_0⟩ := hX8
    obtain rfl := Option.some.inj h
    simp (maxDischargeDepth := 9) only [↓xpre, xpost, xlst, xcore, yset, ↓reduceIte, Nat.reduceEqDiff, n8_0]
  ·rw [if_neg e4] at h
   have e4f : (inR rounds (0 : Int) (40 : Int)) = false := Bool.eq_false_iff.mpr e4
   obtain rfl := Option.some.inj h
   simp (maxDischargeDepth := 9) only [↓xpre, xpost, xcore, yset, ↓reduceIte, Nat.reduceEqDiff, Nat.reduceLT, Nat.reduceAdd, c1, e2, c3, e4f] <;> (repeat' apply And.intro) <;> first | rfl | exact ⟨_, rfl⟩ | simp [lst, cat2_nil]
 ·rw [if_neg e2] at h
  have e2f : r1_ = false := Bool.eq_false_iff.mpr e2
  obtain rfl := Option.some.inj h
  simp (maxDischargeDepth := 9) only [↓xpre, xpost, xcore, yset, ↓reduceIte, Nat.reduceEqDiff, Nat.reduceLT, Nat.reduceAdd, c1, e2f] <;> (repeat' apply And.intro) <;> first | rfl | exact ⟨_, rfl⟩ | simp [lst, cat2_nil]

noncomputable def s_RunValues_l0_S (prog : List (Int × Int)) (n_Ends : List (List (Int × Int))) (n_Ids : List Int) (n_Inputs : List Int) (rounds : Int) (out : List (List Int)) (k : Int) : Option (((List (List Int)) × Int) ⊕ ((List (List Int)))) :=
 if k ≤ rounds then
  ck (0 ≤ IntKind.i64.wrap (k - 1) ∧ (IntKind.i64.wrap (k - 1)).toNat < out.length) <|
  (s_vaStep prog n_Ends n_Ids n_Inputs k (out.getD ((IntKind.i64.wrap (k - 1)).toNat) default)).bind fun r8_ =>
  ck (out.length + 1 < 1099511627776) <|
  some (Sum.inl ((out ++ [r8_]), IntKind.i64.wrap (k + 1)))
 else
  some (Sum.inr out)
noncomputable def s_RunValues_l0 (prog : List (Int × Int)) (n_Ends : List (List (Int × Int))) (n_Ids : List Int) (n_Inputs : List Int) (rounds : Int) (v : (List (List Int)) × Int) : Option ((List (List Int))) := itO (fun v => s_RunValues_l0_S prog n_Ends n_Ids n_Inputs rounds v.1 v.2) v
noncomputable def s_RunValues (prog : List (Int × Int)) (n_Ends : List (List (Int × Int))) (n_Ids : List Int) (n_Inputs : List Int) (start : List Int) (rounds : Int) : Option ((List (List Int)) × Bool) :=
 (s_vaAsked prog n_Ends n_Ids n_Inputs start).bind fun r1_ =>
 if r1_ = true then
  if (inR rounds (0 : Int) (40 : Int)) = true then
   (s_l1Own start).bind fun r5_ =>
   (s_RunValues_l0 prog n_Ends n_Ids n_Inputs rounds ([r5_], 1)).bind fun r7_ =>
   some (r7_, true)
  else
   some ([], false)
 else
  some ([], false)
/-- spec.RunValues -/
def k20_l0b : SC :=
 .seq
 (.seq
 (.ops [
 ⟨(some 25), (.move (.tmp 11)), 3, none⟩,
 ⟨(some 26), (.move (.tmp 3)), 3, none⟩,
 ⟨(some 27), (.binOp .leq 3 (.tmp 25) (.tmp 26) 3), 4, none⟩])
 (.cond (.tmp 27)
 .skip
 (.exit 0)))
 (.seq
 (.block 1
 (.draws [
 (⟨[30, 10, 10], [30, 31, 32, 33, 34, 35, 36, 37, 38, 39, 40, 39, 39, 41, 30, 40, 10, 40, 10, 41, 41], [30]⟩, ⟨(some 30), (.move (.tmp 10)), 22, none⟩),
 (⟨[31, 0, 0], [30, 31, 32, 33, 34, 35, 36, 37, 38, 39, 40, 39, 39, 41, 30, 40, 10, 40, 10, 41, 41], [31]⟩, ⟨(some 31), (.move (.tmp 0)), 49, none⟩),
 (⟨[32, 5, 5], [30, 31, 32, 33, 34, 35, 36, 37, 38, 39, 40, 39, 39, 41, 30, 40, 10, 40, 10, 41, 41], [32]⟩, ⟨(some 32), (.load 37 (.tmp 5)), 37, none⟩),
 (⟨[33, 11, 11], [30, 31, 32, 33, 34, 35, 36, 37, 38, 39, 40, 39, 39, 41, 30, 40, 10, 40, 10, 41, 41], [33]⟩, ⟨(some 33), (.move (.tmp 11)), 3, none⟩),
 (⟨[34, 10, 10], [30, 31, 32, 33, 34, 35, 36, 37, 38, 39, 40, 39, 39, 41, 30, 40, 10, 40, 10, 41, 41], [34]⟩, ⟨(some 34), (.move (.tmp 10)), 22, none⟩),
 (⟨[35, 11, 11], [30, 31, 32, 33, 34, 35, 36, 37, 38, 39, 40, 39, 39, 41, 30, 40, 10, 40, 10, 41, 41], [35]⟩, ⟨(some 35), (.move (.tmp 11)), 3, none⟩),
 (⟨[36, 35, 11], [30, 31, 32, 33, 34, 35, 36, 37, 38, 39, 40, 39, 39, 41, 30, 40, 10, 40, 10, 41, 41], [36]⟩, ⟨(some 36), (.binOp .sub 3 (.tmp 35) (.const (.int .i64 1)) 3), 3, none⟩),
 (⟨[37, 34, 36, 10, 36], [30, 31, 32, 33, 34, 35, 36, 37, 38, 39, 40, 39, 39, 41, 30, 40, 10, 40, 10, 41, 41], [37]⟩, ⟨(some 37), (.indexAddr 22 (.tmp 34) (.tmp 36)), 0, none⟩),
 (⟨[38, 37, 10], [30, 31, 32, 33, 34, 35, 36, 37, 38, 39, 40, 39, 39, 41, 30, 40, 10, 40, 10, 41, 41], [38]⟩, ⟨(some 38), (.load 26 (.tmp 37)), 26, none⟩),
 (⟨[39, 31, 32, 33, 38, 0, 5, 11, 10], [30, 31, 32, 33, 34, 35, 36, 37, 38, 39, 40, 39, 39, 41, 30, 40, 10, 40, 10, 41, 41], [39]⟩, ⟨(some 39), (.call ⟨(.value (.func 47)), #[(.tmp 31), (.tmp 32), (.tmp 33), (.tmp 38)], #[49, 37, 3, 26]⟩), 26, none⟩),
 (⟨[40, 39, 39], [30, 31, 32, 33, 34, 35, 36, 37, 38, 39, 40, 39, 39, 41, 30, 40, 10, 40, 10, 41, 41], [40, 39, 39]⟩, ⟨(some 40), (.buildSlice 22 1 #[(0, (.tmp 39))]), 22, none⟩),
 (⟨[41, 30, 40, 10, 40], [30, 31, 32, 33, 34, 35, 36, 37, 38, 39, 40, 39, 39, 41, 30, 40, 10, 40, 10, 41, 41], [41, 30, 40, 10, 40]⟩, ⟨(some 41), (.call ⟨(.builtin .append), #[(.tmp 30), (.tmp 40)], #[22, 22]⟩), 22, none⟩),
 (⟨[10, 41, 41], [30, 31, 32, 33, 34, 35, 36, 37, 38, 39, 40, 39, 39, 41, 30, 40, 10, 40, 10, 41, 41], [10, 41, 41]⟩, ⟨(some 10), (.assign (.tmp 41)), 22, none⟩)]))
 (.ops [
 ⟨(some 28), (.move (.tmp 11)), 3, none⟩,
 ⟨(some 29), (.binOp .add 3 (.tmp 28) (.const (.int .i64 1)) 3), 3, none⟩,
 ⟨(some 11), (.assign (.tmp 29)), 3, none⟩]))
def k20_l0 : SC := .loop k20_l0b
def k20 : SC :=
 .seq
 (.ops [
 ⟨(some 5), (.box 37 (.tmp 1)), 0, none⟩,
 ⟨(some 8), (.assign (.const (.slice none 0 0))), 22, none⟩,
 ⟨(some 9), (.assign (.const (.bool false))), 4, none⟩])
 (.seq
 (.seq
 (.ops [
 ⟨(some 12), (.move (.tmp 0)), 49, none⟩,
 ⟨(some 13), (.load 37 (.tmp 5)), 37, none⟩,
 ⟨(some 14), (.move (.tmp 2)), 26, none⟩,
 ⟨(some 15), (.call ⟨(.value (.func 44)), #[(.tmp 12), (.tmp 13), (.tmp 14)], #[49, 37, 26]⟩), 4, none⟩,
 ⟨(some 16), (.unOp .not 4 (.tmp 15)), 4, none⟩,
 ⟨(some 17), (.move (.tmp 16)), 4, none⟩,
 ⟨(some 18), (.move (.tmp 3)), 3, (some (some 17, false))⟩,
 ⟨(some 19), (.call ⟨(.value (.func 45)), #[(.tmp 18), (.const (.int .i64 0)), (.const (.int .i64 40))], #[3, 3, 3]⟩), 4, (some (some 17, false))⟩,
 ⟨(some 20), (.unOp .not 4 (.tmp 19)), 4, (some (some 17, false))⟩,
 ⟨(some 21), (.pick (.tmp 17) (.const (.bool true)) (.tmp 20)), 4, none⟩])
 (.cond (.tmp 21)
 (.seq
 (.ops [
 ⟨(some 8), (.assign (.const (.slice none 0 0))), 22, none⟩,
 ⟨(some 9), (.assign (.const (.bool false))), 4, none⟩])
 .ret)
 .skip))
 (.seq
 (.ops [
 ⟨(some 22), (.move (.tmp 2)), 26, none⟩,
 ⟨(some 23), (.call ⟨(.value (.func 46)), #[(.tmp 22)], #[26]⟩), 26, none⟩,
 ⟨(some 24), (.buildSlice 22 1 #[(0, (.tmp 23))]), 22, none⟩,
 ⟨(some 10), (.assign (.tmp 24)), 22, none⟩])
 (.seq
 (.seq
 (.ops [
 ⟨(some 11), (.assign (.const (.int .i64 1))), 3, none⟩])
 (.block 0
 k20_l0))
 (.seq
 (.ops [
 ⟨(some 42), (.move (.tmp 10)), 22, none⟩,
 ⟨(some 8), (.assign (.tmp 42)), 22, none⟩,
 ⟨(some 9), (.assign (.const (.bool true))), 4, none⟩])
 .ret))))
theorem slim20 : Tryz.f20.body.map (slim lends) = some k20 := by kernel_rfl
theorem ok20 : fnOk Tryz.f20 4 = true := by kernel_rfl
theorem c20 {a l : List D} {r : D × List D} (h : wpD Y.env k20 (fin tys l.length [ResultVar.tmp 8, ResultVar.tmp 9] r) (entry a l)) (ha : a.length = 4) : Y.call 20 a l = some r :=
 call_slim (Y := Y) rfl Tryz.func20 (ha ▸ ok20) slim20 h
def s_RunValues_l0_M (prog : List (Int × Int)) (n_Ends : List (List (Int × Int))) (n_Ids : List Int) (n_Inputs : List Int) (rounds : Int) (out : List (List Int)) (k : Int) (s : St) : Prop := s.v 0 = D.sl 73 (cat2 .i64 .i64 prog) ∧ s.v 3 = D.int .i64 rounds ∧ s.v 5 = D.box [D.sl 62 (lst (fun x => D.sl 85 (cat2 .i64 .i64 x)) n_Ends), D.sl 3 (lst (D.int .i64) n_Ids), D.sl 3 (lst (D.int .i64) n_Inputs)] ∧ s.v 10 = D.own 26 (lst (fun x => D.own 3 (lst (D.int .i64) x)) out) ∧ s.v 11 = D.int .i64 k
def s_RunValues_l0_X (prog : List (Int × Int)) (n_Ends : List (List (Int × Int))) (n_Ids : List Int) (n_Inputs : List Int) (rounds : Int) (r : (List (List Int))) (ex : Ex) (s : St) : Prop := ex = .exit 0 ∧ s.v 10 = D.own 26 (lst (fun x => D.own 3 (lst (D.int .i64) x)) r)
theorem s_RunValues_l0_wp (prog : List (Int × Int)) (n_Ends : List (List (Int × Int))) (n_Ids : List Int) (n_Inputs : List Int) (rounds : Int) {v : (List (List Int)) × Int} {s : St} {r : (List (List Int))} (h : s_RunValues_l0 prog n_Ends n_Ids n_Inputs rounds v = some r) (hM : s_RunValues_l0_M prog n_Ends n_Ids n_Inputs rounds v.1 v.2 s) : wpD Y.env k20_l0 (s_RunValues_l0_X prog n_Ends n_Ids n_Inputs rounds r) s := by
 unfold s_RunValues_l0 at h
 refine wd_itO (c := k20_l0b) (fun v => s_RunValues_l0_S prog n_Ends n_Ids n_Inputs rounds v.1 v.2) (fun v s => s_RunValues_l0_M prog n_Ends n_Ids n_Inputs rounds v.1 v.2 s) (s_RunValues_l0_X prog n_Ends n_Ids n_Inputs rounds) ?_ h hM
 clear h hM s v r
 intro v s o hM h
 obtain ⟨out, k⟩ := v
 dsimp only at h hM
 unfold s_RunValues_l0_S at h
 unfold s_RunValues_l0_M at hM
 obtain ⟨m0, m1, m2, m3, m4⟩ := hM
 unfold k20_l0b
 by_cases e6 : k ≤ rounds
 ·rw [if_pos e6] at h
  obtain ⟨e7, h⟩ := ckS h
  obtain ⟨r8_, hl8, h⟩ := bindS h
  try dsimp only at h
  have c8 := s_vaStep_call prog n_Ends n_Ids n_Inputs k (out.getD ((IntKind.i64.wrap (k - 1)).toNat) default) hl8
  obtain ⟨e9, h⟩ := ckS h
  obtain rfl := Option.some.inj h
  simp (maxDischargeDepth := 9) only [↓xpre, xpost, xlst, xcore, yset, ↓reduceIte, Nat.reduceEqDiff, Nat.reduceLeDiff, Nat.reduceAdd, Nat.reduceBEq, m0, m1, m2, m3, m4, e6, e7.1, e7.2, c8, e9, s_RunValues_l0_M, sxN]
 ·rw [if_neg e6] at h
  obtain rfl := Option.some.inj h
  simp (maxDischargeDepth := 9) only [↓xpre, xpost, yset, ↓reduceIte, Nat.reduceEqDiff, m1, m3, m4, e6, s_RunValues_l0_M, s_RunValues_l0_X, sxE]
theorem s_RunValues_call (prog : List (Int × Int)) (n_Ends : List (List (Int × Int))) (n_Ids : List Int) (n_Inputs : List Int) (start : List Int) (rounds : Int) {r : (List (List Int)) × Bool} (h : s_RunValues prog n_Ends n_Ids n_Inputs start rounds = some r) : Y.call 20 [D.sl 73 (cat2 .i64 .i64 prog), D.agg [D.sl 62 (lst (fun x => D.sl 85 (cat2 .i64 .i64 x)) n_Ends), D.sl 3 (lst (D.int .i64) n_Ids), D.sl 3 (lst (D.int .i64) n_Inputs)], D.sl 3 (lst (D.int .i64) start), D.int .i64 rounds] [] = some (D.tup [D.own 26 (lst (fun x => D.own 3 (lst (D.int .i64) x)) r.1), D.bool r.2], []) := by
 refine c20 ?_ rfl
 unfold k20
 unfold s_RunValues at h
 obtain ⟨r1_, hl1, h⟩ := bindS h
 try dsimp only at h
 have c1 := s_vaAsked_call prog n_Ends n_Ids n_Inputs start hl1
 by_cases e2 : r1_ = true
 ·rw [if_pos e2] at h
  have c3 := s_l1In_cl rounds (0 : Int) (40 : Int)
  by_cases e4 : (inR rounds (0 : Int) (40 : Int)) = true
  ·rw [if_pos e4] at h
   obtain ⟨r5_, hl5, h⟩ := bindS h
   try dsimp only at h
   have c5 := s_l1Own_call start hl5
   obtain ⟨r7_, hl7, h⟩ := bindS h
   try dsimp only at h
   simp (maxDischargeDepth := 9) only [↓xpre, xpost, xlst, xcore, yset, ↓reduceIte, Nat.reduceEqDiff, Nat.reduceLT, Nat.reduceLeDiff, Nat.reduceAdd, c1, e2, c3, e4, c5]
   refine wd_mono (s_RunValues_l0_wp prog n_Ends n_Ids n_Inputs rounds hl7 ?_) ?_
   ·simp (maxDischargeDepth := 9) only [xpost, xcore, ↓reduceIte, Nat.reduceEqDiff, Nat.reduceLT, s_RunValues_l0_M] <;> (repeat' apply And.intro) <;> first | rfl | exact ⟨_, rfl⟩ | simp [lst, cat2_nil]
   ·intro ex7 s7 hX7
    unfold s_RunValues_l0_X at hX7
    obtain ⟨rfl, n7_0⟩ := hX7
    obtain rfl := Option.some.inj h
    simp (maxDischargeDepth := 9) only [↓xpre, xpost, xlst, xcore, yset, ↓reduceIte, Nat.reduceEqDiff, n7_0]
  ·rw [if_neg e4] at h
   have e4f : (inR rounds (0 : Int) (40 : Int)) = false := Bool.eq_false_iff.mpr e4
   obtain rfl := Option.some.inj h
   simp (maxDischargeDepth := 9) only [↓xpre, xpost, xcore, yset, ↓reduceIte, Nat.reduceEqDiff, Nat.reduceLT, Nat.reduceAdd, c1, e2, c3, e4f] <;> (repeat' apply And.intro) <;> first | rfl | exact ⟨_, rfl⟩ | simp [lst, cat2_nil]
 ·rw [if_neg e2] at h
  have e2f : r1_ = false := Bool.eq_false_iff.mpr e2
  obtain rfl := Option.some.inj h
  simp (maxDischargeDepth := 9) only [↓xpre, xpost, xcore, yset, ↓reduceIte, Nat.reduceEqDiff, Nat.reduceLT, Nat.reduceAdd, c1, e2f] <;> (repeat' apply And.intro) <;> first | rfl | exact ⟨_, rfl⟩ | simp [lst, cat2_nil]


end Go.Proofs.YtjkgcfdcfjkkbaaGreat
