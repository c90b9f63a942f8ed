/- Values after a run, lifted. Conditions: none. -/
import Derived.Test.YtjkgcfdcfjkkbaaGreatL6
import Derived.Test.YtjkgcfdcfjkkbaaGreatVpA
namespace Go.Proofs.YtjkgcfdcfjkkbaaGreat
open Go Dv
set_option linter.unusedSimpArgs false
set_option linter.unusedVariables false
set_option maxRecDepth 100000
set_option maxHeartbeats 4000000

noncomputable def i_ValuesAfter_l0_S (prog : List (Int × Int)) (n_Ends : List (List (Int × Int))) (n_Ids : List Int) (n_Inputs : List Int) (rounds : Int) (values : List Int) (t25_ : Int) : Option (((List Int) × Int) ⊕ ((List Int))) :=
 if t25_ < rounds then
  (i_stepValues prog n_Ends n_Ids n_Inputs (IntKind.i64.wrap (t25_ + 1)) values).bind fun r8_ =>
  some (Sum.inl (r8_, IntKind.i64.wrap (t25_ + 1)))
 else
  some (Sum.inr values)
noncomputable def i_ValuesAfter_l0 (prog : List (Int × Int)) (n_Ends : List (List (Int × Int))) (n_Ids : List Int) (n_Inputs : List Int) (rounds : Int) (v : (List Int) × Int) : Option ((List Int)) := itO (fun v => i_ValuesAfter_l0_S prog n_Ends n_Ids n_Inputs rounds v.1 v.2) v
noncomputable def i_ValuesAfter (prog : List (Int × Int)) (n_Ends : List (List (Int × Int))) (n_Ids : List Int) (n_Inputs : List Int) (start : List Int) (rounds : Int) : Option ((List Int) × Bool) :=
 (i_valuesOk prog n_Ends n_Ids n_Inputs start).bind fun r1_ =>
 if r1_ = true then
  if (inR rounds (0 : Int) (2000 : Int)) = true then
   ck (start.length < 1099511627776) <|
   (i_ValuesAfter_l0 prog n_Ends n_Ids n_Inputs rounds (start, 0)).bind fun r8_ =>
   some (r8_, true)
  else
   some ([], false)
 else
  some ([], false)
/-- impl.ValuesAfter -/
def k29_l0b : SC :=
 .seq
 (.ops [
 ⟨(some 26), (.binOp .lss 3 (.tmp 25) (.tmp 24) 3), 4, none⟩])
 (.seq
 (.cond (.tmp 26)
 .skip
 (.exit 0))
 (.seq
 (.block 1
 (.seq
 (.ops [
 ⟨(some 27), (.move (.tmp 25)), 3, none⟩,
 ⟨(some 11), (.assign (.tmp 27)), 3, none⟩])
 (.ops [
 ⟨(some 28), (.move (.tmp 0)), 49, none⟩,
 ⟨(some 29), (.load 37 (.tmp 5)), 37, none⟩,
 ⟨(some 30), (.move (.tmp 11)), 3, none⟩,
 ⟨(some 31), (.binOp .add 3 (.tmp 30) (.const (.int .i64 1)) 3), 3, none⟩,
 ⟨(some 32), (.move (.tmp 10)), 26, none⟩,
 ⟨(some 33), (.call ⟨(.value (.func 52)), #[(.tmp 28), (.tmp 29), (.tmp 31), (.tmp 32)], #[49, 37, 3, 26]⟩), 26, none⟩,
 ⟨(some 10), (.assign (.tmp 33)), 26, none⟩])))
 (.ops [
 ⟨(some 34), (.binOp .add 3 (.tmp 25) (.const (.int .i64 1)) 3), 3, none⟩,
 ⟨(some 25), (.move (.tmp 34)), 3, none⟩])))
def k29_l0 : SC := .loop k29_l0b
def k29 : SC :=
 .seq
 (.ops [
 ⟨(some 5), (.box 37 (.tmp 1)), 0, none⟩,
 ⟨(some 8), (.assign (.const (.slice none 0 0))), 26, none⟩,
 ⟨(some 9), (.assign (.const (.bool false))), 4, none⟩])
 (.seq
 (.seq
 (.ops [
 ⟨(some 12), (.move (.tmp 0)), 49, none⟩,
 ⟨(some 13), (.load 37 (.tmp 5)), 37, none⟩,
 ⟨(some 14), (.move (.tmp 2)), 26, none⟩,
 ⟨(some 15), (.call ⟨(.value (.func 49)), #[(.tmp 12), (.tmp 13), (.tmp 14)], #[49, 37, 26]⟩), 4, none⟩,
 ⟨(some 16), (.unOp .not 4 (.tmp 15)), 4, none⟩,
 ⟨(some 17), (.move (.tmp 16)), 4, none⟩,
 ⟨(some 18), (.move (.tmp 3)), 3, (some (some 17, false))⟩,
 ⟨(some 19), (.call ⟨(.value (.func 50)), #[(.tmp 18), (.const (.int .i64 0)), (.const (.int .i64 2000))], #[3, 3, 3]⟩), 4, (some (some 17, false))⟩,
 ⟨(some 20), (.unOp .not 4 (.tmp 19)), 4, (some (some 17, false))⟩,
 ⟨(some 21), (.pick (.tmp 17) (.const (.bool true)) (.tmp 20)), 4, none⟩])
 (.cond (.tmp 21)
 (.seq
 (.ops [
 ⟨(some 8), (.assign (.const (.slice none 0 0))), 26, none⟩,
 ⟨(some 9), (.assign (.const (.bool false))), 4, none⟩])
 .ret)
 .skip))
 (.seq
 (.ops [
 ⟨(some 22), (.move (.tmp 2)), 26, none⟩,
 ⟨(some 23), (.call ⟨(.value (.func 51)), #[(.tmp 22)], #[26]⟩), 26, none⟩,
 ⟨(some 10), (.assign (.tmp 23)), 26, none⟩])
 (.seq
 (.seq
 (.ops [
 ⟨(some 24), (.move (.tmp 3)), 3, none⟩,
 ⟨(some 25), (.move (.const (.int .i64 0))), 3, none⟩])
 (.block 0
 k29_l0))
 (.seq
 (.ops [
 ⟨(some 35), (.move (.tmp 10)), 26, none⟩,
 ⟨(some 8), (.assign (.tmp 35)), 26, none⟩,
 ⟨(some 9), (.assign (.const (.bool true))), 4, none⟩])
 .ret))))
theorem slim29 : Tryz.f29.body.map (slim lends) = some k29 := by kernel_rfl
theorem ok29 : fnOk Tryz.f29 4 = true := by kernel_rfl
theorem c29 {a l : List D} {r : D × List D} (h : wpD Y.env k29 (fin tys l.length [ResultVar.tmp 8, ResultVar.tmp 9] r) (entry a l)) (ha : a.length = 4) : Y.call 29 a l = some r :=
 call_slim (Y := Y) rfl Tryz.func29 (ha ▸ ok29) slim29 h
def i_ValuesAfter_l0_M (prog : List (Int × Int)) (n_Ends : List (List (Int × Int))) (n_Ids : List Int) (n_Inputs : List Int) (rounds : Int) (values : List Int) (t25_ : Int) (s : St) : Prop := s.v 0 = D.sl 73 (cat2 .i64 .i64 prog) ∧ s.v 5 = D.box [D.sl 62 (lst (fun x => D.sl 85 (cat2 .i64 .i64 x)) n_Ends), D.sl 3 (lst (D.int .i64) n_Ids), D.sl 3 (lst (D.int .i64) n_Inputs)] ∧ s.v 10 = D.own 3 (lst (D.int .i64) values) ∧ s.v 24 = D.int .i64 rounds ∧ s.v 25 = D.int .i64 t25_
def i_ValuesAfter_l0_X (prog : List (Int × Int)) (n_Ends : List (List (Int × Int))) (n_Ids : List Int) (n_Inputs : List Int) (rounds : Int) (r : (List Int)) (ex : Ex) (s : St) : Prop := ex = .exit 0 ∧ s.v 10 = D.own 3 (lst (D.int .i64) r)
theorem i_ValuesAfter_l0_wp (prog : List (Int × Int)) (n_Ends : List (List (Int × Int))) (n_Ids : List Int) (n_Inputs : List Int) (rounds : Int) {v : (List Int) × Int} {s : St} {r : (List Int)} (h : i_ValuesAfter_l0 prog n_Ends n_Ids n_Inputs rounds v = some r) (hM : i_ValuesAfter_l0_M prog n_Ends n_Ids n_Inputs rounds v.1 v.2 s) : wpD Y.env k29_l0 (i_ValuesAfter_l0_X prog n_Ends n_Ids n_Inputs rounds r) s := by
 unfold i_ValuesAfter_l0 at h
 refine wd_itO (c := k29_l0b) (fun v => i_ValuesAfter_l0_S prog n_Ends n_Ids n_Inputs rounds v.1 v.2) (fun v s => i_ValuesAfter_l0_M prog n_Ends n_Ids n_Inputs rounds v.1 v.2 s) (i_ValuesAfter_l0_X prog n_Ends n_Ids n_Inputs rounds) ?_ h hM
 clear h hM s v r
 intro v s o hM h
 obtain ⟨values, t25_⟩ := v
 dsimp only at h hM
 unfold i_ValuesAfter_l0_S at h
 unfold i_ValuesAfter_l0_M at hM
 obtain ⟨m0, m1, m2, m3, m4⟩ := hM
 unfold k29_l0b
 by_cases e7 : t25_ < rounds
 ·rw [if_pos e7] at h
  obtain ⟨r8_, hl8, h⟩ := bindS h
  try dsimp only at h
  have c8 := i_stepValues_call prog n_Ends n_Ids n_Inputs (IntKind.i64.wrap (t25_ + 1)) values hl8
  obtain rfl := Option.some.inj h
  simp (maxDischargeDepth := 9) only [↓xpre, xpost, xlst, xcore, yset, ↓reduceIte, Nat.reduceEqDiff, Nat.reduceAdd, m0, m1, m2, m3, m4, e7, c8, i_ValuesAfter_l0_M, sxN]
 ·rw [if_neg e7] at h
  obtain rfl := Option.some.inj h
  simp (maxDischargeDepth := 9) only [↓xpre, xpost, yset, ↓reduceIte, Nat.reduceEqDiff, m2, m3, m4, e7, i_ValuesAfter_l0_M, i_ValuesAfter_l0_X, sxE]
theorem i_ValuesAfter_call (prog : List (Int × Int)) (n_Ends : List (List (Int × Int))) (n_Ids : List Int) (n_Inputs : List Int) (start : List Int) (rounds : Int) {r : (List Int) × Bool} (h : i_ValuesAfter prog n_Ends n_Ids n_Inputs start rounds = some r) : Y.call 29 [D.sl 73 (cat2 .i64 .i64 prog), D.agg [D.sl 62 (lst (fun x => D.sl 85 (cat2 .i64 .i64 x)) n_Ends), D.sl 3 (lst (D.int .i64) n_Ids), D.sl 3 (lst (D.int .i64) n_Inputs)], D.sl 3 (lst (D.int .i64) start), D.int .i64 rounds] [] = some (D.tup [D.own 3 (lst (D.int .i64) r.1), D.bool r.2], []) := by
 refine c29 ?_ rfl
 unfold k29
 unfold i_ValuesAfter at h
 obtain ⟨r1_, hl1, h⟩ := bindS h
 try dsimp only at h
 have c1 := i_valuesOk_call prog n_Ends n_Ids n_Inputs start hl1
 by_cases e2 : r1_ = true
 ·rw [if_pos e2] at h
  have c3 := i_within_cl rounds (0 : Int) (2000 : Int)
  by_cases e4 : (inR rounds (0 : Int) (2000 : Int)) = true
  ·rw [if_pos e4] at h
   obtain ⟨e5, h⟩ := ckS h
   have c6 := g_slices_Clone_Sint_int_cl start e5
   obtain ⟨r8_, hl8, h⟩ := bindS h
   try dsimp only at h
   simp (maxDischargeDepth := 9) only [↓xpre, xpost, xlst, xcore, yset, ↓reduceIte, Nat.reduceEqDiff, Nat.reduceLT, Nat.reduceAdd, c1, e2, c3, e4, c6]
   refine wd_mono (i_ValuesAfter_l0_wp prog n_Ends n_Ids n_Inputs rounds hl8 ?_) ?_
   ·simp (maxDischargeDepth := 9) only [xpost, xcore, ↓reduceIte, Nat.reduceEqDiff, Nat.reduceLT, i_ValuesAfter_l0_M]
   ·intro ex8 s8 hX8
    unfold i_ValuesAfter_l0_X at hX8
    obtain ⟨rfl, n8_0⟩ := hX8
    obtain rfl := Option.some.inj h
    simp (maxDischargeDepth := 9) only [↓xpre, xpost, xlst, xcore, yset, ↓reduceIte, Nat.reduceEqDiff, n8_0]
  ·rw [if_neg e4] at h
   have e4f : (inR rounds (0 : Int) (2000 : Int)) = false := Bool.eq_false_iff.mpr e4
   obtain rfl := Option.some.inj h
   simp (maxDischargeDepth := 9) only [↓xpre, xpost, xcore, yset, ↓reduceIte, Nat.reduceEqDiff, Nat.reduceLT, Nat.reduceAdd, c1, e2, c3, e4f] <;> (repeat' apply And.intro) <;> first | rfl | exact ⟨_, rfl⟩ | simp [lst, cat2_nil]
 ·rw [if_neg e2] at h
  have e2f : r1_ = false := Bool.eq_false_iff.mpr e2
  obtain rfl := Option.some.inj h
  simp (maxDischargeDepth := 9) only [↓xpre, xpost, xcore, yset, ↓reduceIte, Nat.reduceEqDiff, Nat.reduceLT, Nat.reduceAdd, c1, e2f] <;> (repeat' apply And.intro) <;> first | rfl | exact ⟨_, rfl⟩ | simp [lst, cat2_nil]

noncomputable def s_maLong (rounds : Int) : Option (Bool) :=
 some (inR rounds (0 : Int) (2000 : Int))
/-- spec.maLong -/
def k54 : SC :=
 .seq
 (.ops [
 ⟨(some 2), (.assign (.const (.bool false))), 4, none⟩])
 (.seq
 (.ops [
 ⟨(some 3), (.move (.tmp 0)), 3, none⟩,
 ⟨(some 4), (.call ⟨(.value (.func 45)), #[(.tmp 3), (.const (.int .i64 0)), (.const (.int .i64 2000))], #[3, 3, 3]⟩), 4, none⟩,
 ⟨(some 2), (.assign (.tmp 4)), 4, none⟩])
 .ret)
theorem slim54 : Tryz.f54.body.map (slim lends) = some k54 := by kernel_rfl
theorem ok54 : fnOk Tryz.f54 1 = true := by kernel_rfl
theorem c54 {a l : List D} {r : D × List D} (h : wpD Y.env k54 (fin tys l.length [ResultVar.tmp 2] r) (entry a l)) (ha : a.length = 1) : Y.call 54 a l = some r :=
 call_slim (Y := Y) rfl Tryz.func54 (ha ▸ ok54) slim54 h
theorem s_maLong_call (rounds : Int) {r : Bool} (h : s_maLong rounds = some r) : Y.call 54 [D.int .i64 rounds] [] = some (D.bool r, []) := by
 refine c54 ?_ rfl
 unfold k54
 unfold s_maLong at h
 have c1 := s_l1In_cl rounds (0 : Int) (2000 : Int)
 obtain rfl := Option.some.inj h
 simp (maxDischargeDepth := 9) only [↓xpre, xpost, xcore, yset, ↓reduceIte, Nat.reduceEqDiff, Nat.reduceLT, Nat.reduceAdd, c1]

noncomputable def s_vaAfter_l0_S (prog : List (Int × Int)) (n_Ends : List (List (Int × Int))) (n_Ids : List Int) (n_Inputs : List Int) (rounds : Int) (out : List Int) (k : Int) : Option (((List Int) × Int) ⊕ ((List Int))) :=
 if k ≤ rounds then
  (s_vaStep prog n_Ends n_Ids n_Inputs k out).bind fun r3_ =>
  some (Sum.inl (r3_, IntKind.i64.wrap (k + 1)))
 else
  some (Sum.inr out)
noncomputable def s_vaAfter_l0 (prog : List (Int × Int)) (n_Ends : List (List (Int × Int))) (n_Ids : List Int) (n_Inputs : List Int) (rounds : Int) (v : (List Int) × Int) : Option ((List Int)) := itO (fun v => s_vaAfter_l0_S prog n_Ends n_Ids n_Inputs rounds v.1 v.2) v
noncomputable def s_vaAfter (prog : List (Int × Int)) (n_Ends : List (List (Int × Int))) (n_Ids : List Int) (n_Inputs : List Int) (start : List Int) (rounds : Int) : Option ((List Int)) :=
 (s_l1Own start).bind fun r1_ =>
 (s_vaAfter_l0 prog n_Ends n_Ids n_Inputs rounds (r1_, 1)).bind fun r3_ =>
 some r3_
/-- spec.vaAfter -/
def k55_l0b : SC :=
 .seq
 (.seq
 (.ops [
 ⟨(some 13), (.move (.tmp 10)), 3, none⟩,
 ⟨(some 14), (.move (.tmp 3)), 3, none⟩,
 ⟨(some 15), (.binOp .leq 3 (.tmp 13) (.tmp 14) 3), 4, none⟩])
 (.cond (.tmp 15)
 .skip
 (.exit 0)))
 (.seq
 (.block 1
 (.ops [
 ⟨(some 18), (.move (.tmp 0)), 49, none⟩,
 ⟨(some 19), (.load 37 (.tmp 5)), 37, none⟩,
 ⟨(some 20), (.move (.tmp 10)), 3, none⟩,
 ⟨(some 21), (.move (.tmp 9)), 26, none⟩,
 ⟨(some 22), (.call ⟨(.value (.func 47)), #[(.tmp 18), (.tmp 19), (.tmp 20), (.tmp 21)], #[49, 37, 3, 26]⟩), 26, none⟩,
 ⟨(some 9), (.assign (.tmp 22)), 26, none⟩]))
 (.ops [
 ⟨(some 16), (.move (.tmp 10)), 3, none⟩,
 ⟨(some 17), (.binOp .add 3 (.tmp 16) (.const (.int .i64 1)) 3), 3, none⟩,
 ⟨(some 10), (.assign (.tmp 17)), 3, none⟩]))
def k55_l0 : SC := .loop k55_l0b
def k55 : SC :=
 .seq
 (.ops [
 ⟨(some 5), (.box 37 (.tmp 1)), 0, none⟩,
 ⟨(some 8), (.assign (.const (.slice none 0 0))), 26, none⟩])
 (.seq
 (.ops [
 ⟨(some 11), (.move (.tmp 2)), 26, none⟩,
 ⟨(some 12), (.call ⟨(.value (.func 46)), #[(.tmp 11)], #[26]⟩), 26, none⟩,
 ⟨(some 9), (.assign (.tmp 12)), 26, none⟩])
 (.seq
 (.seq
 (.ops [
 ⟨(some 10), (.assign (.const (.int .i64 1))), 3, none⟩])
 (.block 0
 k55_l0))
 (.seq
 (.ops [
 ⟨(some 23), (.move (.tmp 9)), 26, none⟩,
 ⟨(some 8), (.assign (.tmp 23)), 26, none⟩])
 .ret)))
theorem slim55 : Tryz.f55.body.map (slim lends) = some k55 := by kernel_rfl
theorem ok55 : fnOk Tryz.f55 4 = true := by kernel_rfl
theorem c55 {a l : List D} {r : D × List D} (h : wpD Y.env k55 (fin tys l.length [ResultVar.tmp 8] r) (entry a l)) (ha : a.length = 4) : Y.call 55 a l = some r :=
 call_slim (Y := Y) rfl Tryz.func55 (ha ▸ ok55) slim55 h
def s_vaAfter_l0_M (prog : List (Int × Int)) (n_Ends : List (List (Int × Int))) (n_Ids : List Int) (n_Inputs : List Int) (rounds : Int) (out : List Int) (k : Int) (s : St) : Prop := s.v 0 = D.sl 73 (cat2 .i64 .i64 prog) ∧ s.v 3 = D.int .i64 rounds ∧ s.v 5 = D.box [D.sl 62 (lst (fun x => D.sl 85 (cat2 .i64 .i64 x)) n_Ends), D.sl 3 (lst (D.int .i64) n_Ids), D.sl 3 (lst (D.int .i64) n_Inputs)] ∧ s.v 9 = D.own 3 (lst (D.int .i64) out) ∧ s.v 10 = D.int .i64 k
def s_vaAfter_l0_X (prog : List (Int × Int)) (n_Ends : List (List (Int × Int))) (n_Ids : List Int) (n_Inputs : List Int) (rounds : Int) (r : (List Int)) (ex : Ex) (s : St) : Prop := ex = .exit 0 ∧ s.v 9 = D.own 3 (lst (D.int .i64) r)
theorem s_vaAfter_l0_wp (prog : List (Int × Int)) (n_Ends : List (List (Int × Int))) (n_Ids : List Int) (n_Inputs : List Int) (rounds : Int) {v : (List Int) × Int} {s : St} {r : (List Int)} (h : s_vaAfter_l0 prog n_Ends n_Ids n_Inputs rounds v = some r) (hM : s_vaAfter_l0_M prog n_Ends n_Ids n_Inputs rounds v.1 v.2 s) : wpD Y.env k55_l0 (s_vaAfter_l0_X prog n_Ends n_Ids n_Inputs rounds r) s := by
 unfold s_vaAfter_l0 at h
 refine wd_itO (c := k55_l0b) (fun v => s_vaAfter_l0_S prog n_Ends n_Ids n_Inputs rounds v.1 v.2) (fun v s => s_vaAfter_l0_M prog n_Ends n_Ids n_Inputs rounds v.1 v.2 s) (s_vaAfter_l0_X prog n_Ends n_Ids n_Inputs rounds) ?_ h hM
 clear h hM s v r
 intro v s o hM h
 obtain ⟨out, k⟩ := v
 dsimp only at h hM
 unfold s_vaAfter_l0_S at h
 unfold s_vaAfter_l0_M at hM
 obtain ⟨m0, m1, m2, m3, m4⟩ := hM
 unfold k55_l0b
 by_cases e2 : k ≤ rounds
 ·rw [if_pos e2] at h
  obtain ⟨r3_, hl3, h⟩ := bindS h
  try dsimp only at h
  have c3 := s_vaStep_call prog n_Ends n_Ids n_Inputs k out hl3
  obtain rfl := Option.some.inj h
  simp (maxDischargeDepth := 9) only [↓xpre, xpost, xlst, xcore, yset, ↓reduceIte, Nat.reduceEqDiff, Nat.reduceAdd, m0, m1, m2, m3, m4, e2, c3, s_vaAfter_l0_M, sxN]
 ·rw [if_neg e2] at h
  obtain rfl := Option.some.inj h
  simp (maxDischargeDepth := 9) only [↓xpre, xpost, yset, ↓reduceIte, Nat.reduceEqDiff, m1, m3, m4, e2, s_vaAfter_l0_M, s_vaAfter_l0_X, sxE]
theorem s_vaAfter_call (prog : List (Int × Int)) (n_Ends : List (List (Int × Int))) (n_Ids : List Int) (n_Inputs : List Int) (start : List Int) (rounds : Int) {r : (List Int)} (h : s_vaAfter prog n_Ends n_Ids n_Inputs start rounds = some r) : Y.call 55 [D.sl 73 (cat2 .i64 .i64 prog), D.agg [D.sl 62 (lst (fun x => D.sl 85 (cat2 .i64 .i64 x)) n_Ends), D.sl 3 (lst (D.int .i64) n_Ids), D.sl 3 (lst (D.int .i64) n_Inputs)], D.sl 3 (lst (D.int .i64) start), D.int .i64 rounds] [] = some (D.own 3 (lst (D.int .i64) r), []) := by
 refine c55 ?_ rfl
 unfold k55
 unfold s_vaAfter at h
 obtain ⟨r1_, hl1, h⟩ := bindS h
 try dsimp only at h
 have c1 := s_l1Own_call start hl1
 obtain ⟨r3_, hl3, h⟩ := bindS h
 try dsimp only at h
 simp (maxDischargeDepth := 9) only [↓xpre, xpost, xlst, xcore, yset, ↓reduceIte, Nat.reduceEqDiff, Nat.reduceLT, Nat.reduceAdd, c1]
 refine wd_mono (s_vaAfter_l0_wp prog n_Ends n_Ids n_Inputs rounds hl3 ?_) ?_
 ·simp (maxDischargeDepth := 9) only [xpost, xcore, ↓reduceIte, Nat.reduceEqDiff, Nat.reduceLT, s_vaAfter_l0_M]
 ·intro ex3 s3 hX3
  unfold s_vaAfter_l0_X at hX3
  obtain ⟨rfl, n3_0⟩ := hX3
  obtain rfl := Option.some.inj h
  simp (maxDischargeDepth := 9) only [↓xpre, xpost, xlst, xcore, ↓reduceIte, Nat.reduceEqDiff, n3_0]

noncomputable def s_ValuesAfter (prog : List (Int × Int)) (n_Ends : List (List (Int × Int))) (n_Ids : List Int) (n_Inputs : List Int) (start : List Int) (rounds : Int) : Option ((List Int) × Bool) :=
 (s_vaAsked prog n_Ends n_Ids n_Inputs start).bind fun r1_ =>
 if r1_ = true then
  (s_maLong rounds).bind fun r3_ =>
  if r3_ = true then
   (s_vaAfter prog n_Ends n_Ids n_Inputs start rounds).bind fun r5_ =>
   some (r5_, true)
  else
   some ([], false)
 else
  some ([], false)
/-- spec.ValuesAfter -/
def k28 : SC :=
 .seq
 (.ops [
 ⟨(some 5), (.box 37 (.tmp 1)), 0, none⟩,
 ⟨(some 8), (.assign (.const (.slice none 0 0))), 26, none⟩,
 ⟨(some 9), (.assign (.const (.bool false))), 4, none⟩])
 (.seq
 (.seq
 (.ops [
 ⟨(some 10), (.move (.tmp 0)), 49, none⟩,
 ⟨(some 11), (.load 37 (.tmp 5)), 37, none⟩,
 ⟨(some 12), (.move (.tmp 2)), 26, none⟩,
 ⟨(some 13), (.call ⟨(.value (.func 44)), #[(.tmp 10), (.tmp 11), (.tmp 12)], #[49, 37, 26]⟩), 4, none⟩,
 ⟨(some 14), (.unOp .not 4 (.tmp 13)), 4, none⟩,
 ⟨(some 15), (.move (.tmp 14)), 4, none⟩,
 ⟨(some 16), (.move (.tmp 3)), 3, (some (some 15, false))⟩,
 ⟨(some 17), (.call ⟨(.value (.func 54)), #[(.tmp 16)], #[3]⟩), 4, (some (some 15, false))⟩,
 ⟨(some 18), (.unOp .not 4 (.tmp 17)), 4, (some (some 15, false))⟩,
 ⟨(some 19), (.pick (.tmp 15) (.const (.bool true)) (.tmp 18)), 4, none⟩])
 (.cond (.tmp 19)
 (.seq
 (.ops [
 ⟨(some 8), (.assign (.const (.slice none 0 0))), 26, none⟩,
 ⟨(some 9), (.assign (.const (.bool false))), 4, none⟩])
 .ret)
 .skip))
 (.seq
 (.ops [
 ⟨(some 20), (.move (.tmp 0)), 49, none⟩,
 ⟨(some 21), (.load 37 (.tmp 5)), 37, none⟩,
 ⟨(some 22), (.move (.tmp 2)), 26, none⟩,
 ⟨(some 23), (.move (.tmp 3)), 3, none⟩,
 ⟨(some 24), (.call ⟨(.value (.func 55)), #[(.tmp 20), (.tmp 21), (.tmp 22), (.tmp 23)], #[49, 37, 26, 3]⟩), 26, none⟩,
 ⟨(some 8), (.assign (.tmp 24)), 26, none⟩,
 ⟨(some 9), (.assign (.const (.bool true))), 4, none⟩])
 .ret))
theorem slim28 : Tryz.f28.body.map (slim lends) = some k28 := by kernel_rfl
theorem ok28 : fnOk Tryz.f28 4 = true := by kernel_rfl
theorem c28 {a l : List D} {r : D × List D} (h : wpD Y.env k28 (fin tys l.length [ResultVar.tmp 8, ResultVar.tmp 9] r) (entry a l)) (ha : a.length = 4) : Y.call 28 a l = some r :=
 call_slim (Y := Y) rfl Tryz.func28 (ha ▸ ok28) slim28 h
theorem s_ValuesAfter_call (prog : List (Int × Int)) (n_Ends : List (List (Int × Int))) (n_Ids : List Int) (n_Inputs : List Int) (start : List Int) (rounds : Int) {r : (List Int) × Bool} (h : s_ValuesAfter prog n_Ends n_Ids n_Inputs start rounds = some r) : Y.call 28 [D.sl 73 (cat2 .i64 .i64 prog), D.agg [D.sl 62 (lst (fun x => D.sl 85 (cat2 .i64 .i64 x)) n_Ends), D.sl 3 (lst (D.int .i64) n_Ids), D.sl 3 (lst (D.int .i64) n_Inputs)], D.sl 3 (lst (D.int .i64) start), D.int .i64 rounds] [] = some (D.tup [D.own 3 (lst (D.int .i64) r.1), D.bool r.2], []) := by
 refine c28 ?_ rfl
 unfold k28
 unfold s_ValuesAfter at h
 obtain ⟨r1_, hl1, h⟩ := bindS h
 try dsimp only at h
 have c1 := s_vaAsked_call prog n_Ends n_Ids n_Inputs start hl1
 by_cases e2 : r1_ = true
 ·rw [if_pos e2] at h
  obtain ⟨r3_, hl3, h⟩ := bindS h
  try dsimp only at h
  have c3 := s_maLong_call rounds hl3
  by_cases e4 : r3_ = true
  ·rw [if_pos e4] at h
   obtain ⟨r5_, hl5, h⟩ := bindS h
   try dsimp only at h
   have c5 := s_vaAfter_call prog n_Ends n_Ids n_Inputs start rounds hl5
   obtain rfl := Option.some.inj h
   simp (maxDischargeDepth := 9) only [↓xpre, xpost, xlst, xcore, yset, ↓reduceIte, Nat.reduceEqDiff, Nat.reduceLT, Nat.reduceAdd, c1, e2, c3, e4, c5]
  ·rw [if_neg e4] at h
   have e4f : r3_ = false := Bool.eq_false_iff.mpr e4
   obtain rfl := Option.some.inj h
   simp (maxDischargeDepth := 9) only [↓xpre, xpost, xcore, yset, ↓reduceIte, Nat.reduceEqDiff, Nat.reduceLT, Nat.reduceAdd, c1, e2, c3, e4f] <;> (repeat' apply And.intro) <;> first | rfl | exact ⟨_, rfl⟩ | simp [lst, cat2_nil]
 ·rw [if_neg e2] at h
  have e2f : r1_ = false := Bool.eq_false_iff.mpr e2
  obtain rfl := Option.some.inj h
  simp (maxDischargeDepth := 9) only [↓xpre, xpost, xcore, yset, ↓reduceIte, Nat.reduceEqDiff, Nat.reduceLT, Nat.reduceAdd, c1, e2f] <;> (repeat' apply And.intro) <;> first | rfl | exact ⟨_, rfl⟩ | simp [lst, cat2_nil]


end Go.Proofs.YtjkgcfdcfjkkbaaGreat
