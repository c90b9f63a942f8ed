/- Whether outputs meet a task, lifted. Conditions: none. -/
import Derived.Test.YtjkgcfdcfjkkbaaL6
import Derived.Test.YtjkgcfdcfjkkbaaNis
import Derived.Test.YtjkgcfdcfjkkbaaCon
namespace Go.Proofs.Ytjkgcfdcfjkkbaa
open Go Dv
set_option linter.unusedSimpArgs false
set_option linter.unusedVariables false
set_option maxRecDepth 100000
set_option maxHeartbeats 4000000

noncomputable def i_isTask (task : Int) : Option (Bool) :=
 some (inR task (1 : Int) (3 : Int))
/-- impl.isTask -/
def k58 : SC :=
 .seq
 (.ops [
 ⟨(some 2), (.assign (.const (.bool false))), 4, none⟩])
 (.seq
 (.ops [
 ⟨(some 3), (.move (.tmp 0)), 3, none⟩,
 ⟨(some 4), (.call ⟨(.value (.func 66)), #[(.tmp 3), (.const (.int .i64 1)), (.const (.int .i64 3))], #[3, 3, 3]⟩), 4, none⟩,
 ⟨(some 2), (.assign (.tmp 4)), 4, none⟩])
 .ret)
theorem slim58 : Try.f58.body.map (slim lends) = some k58 := by kernel_rfl
theorem ok58 : fnOk Try.f58 1 = true := by kernel_rfl
theorem c58 {a l : List D} {r : D × List D} (h : wpD Y.env k58 (fin tys l.length [ResultVar.tmp 2] r) (entry a l)) (ha : a.length = 1) : Y.call 58 a l = some r :=
 call_slim (Y := Y) rfl Try.func58 (ha ▸ ok58) slim58 h
theorem i_isTask_call (task : Int) {r : Bool} (h : i_isTask task = some r) : Y.call 58 [D.int .i64 task] [] = some (D.bool r, []) := by
 refine c58 ?_ rfl
 unfold k58
 unfold i_isTask at h
 have c1 := i_within_cl task (1 : Int) (3 : Int)
 obtain rfl := Option.some.inj h
 simp (maxDischargeDepth := 9) only [↓xpre, xpost, xlst, xc2, xcore, yset, rg0, ↓reduceIte, Nat.reduceEqDiff, Nat.reduceLT, Nat.reduceLeDiff, Nat.reduceAdd, Nat.reduceMul, Nat.reduceMod, Nat.reduceSub, Nat.reduceBEq, Int.reduceLE, Int.reduceLT, Int.reduceEq, Int.reduceSub, Int.reduceAdd, Int.reduceToNat, Int.reduceNeg, c1] <;> (repeat' apply And.intro) <;> first | rfl | exact ⟨_, rfl⟩ | simp [lst, cat2_nil]

noncomputable def i_outputsOk (n_Ends : List (List (Int × Int))) (n_Ids : List Int) (n_Inputs : List Int) (outputs : List Int) : Option (Bool) :=
 if (outputs.length : Int) = (n_Ends.length : Int) then
  ck (outputs.length < 1099511627776) <|
  some (allIn outputs (0 : Int) (99 : Int))
 else
  some false
/-- impl.outputsOk -/
def k59 : SC :=
 .seq
 (.ops [
 ⟨(some 2), (.box 29 (.tmp 0)), 0, none⟩,
 ⟨(some 4), (.assign (.const (.bool false))), 4, none⟩])
 (.seq
 (.ops [
 ⟨(some 5), (.move (.tmp 1)), 23, none⟩,
 ⟨(some 6), (.call ⟨(.builtin .len), #[(.tmp 5)], #[23]⟩), 3, none⟩,
 ⟨(some 7), (.fieldAddr 29 (.tmp 2) 0), 0, none⟩,
 ⟨(some 8), (.load 27 (.tmp 7)), 27, none⟩,
 ⟨(some 9), (.call ⟨(.builtin .len), #[(.tmp 8)], #[27]⟩), 3, none⟩,
 ⟨(some 10), (.binOp .eql 3 (.tmp 6) (.tmp 9) 3), 4, none⟩,
 ⟨(some 11), (.move (.tmp 10)), 4, none⟩,
 ⟨(some 12), (.move (.tmp 1)), 23, (some (some 11, true))⟩,
 ⟨(some 13), (.call ⟨(.value (.func 95)), #[(.tmp 12), (.const (.int .i64 0)), (.const (.int .i64 99))], #[23, 3, 3]⟩), 4, (some (some 11, true))⟩,
 ⟨(some 14), (.pick (.tmp 11) (.tmp 13) (.const (.bool false))), 4, none⟩,
 ⟨(some 4), (.assign (.tmp 14)), 4, none⟩])
 .ret)
theorem slim59 : Try.f59.body.map (slim lends) = some k59 := by kernel_rfl
theorem ok59 : fnOk Try.f59 2 = true := by kernel_rfl
theorem c59 {a l : List D} {r : D × List D} (h : wpD Y.env k59 (fin tys l.length [ResultVar.tmp 4] r) (entry a l)) (ha : a.length = 2) : Y.call 59 a l = some r :=
 call_slim (Y := Y) rfl Try.func59 (ha ▸ ok59) slim59 h
theorem i_outputsOk_call (n_Ends : List (List (Int × Int))) (n_Ids : List Int) (n_Inputs : List Int) (outputs : List Int) {r : Bool} (h : i_outputsOk n_Ends n_Ids n_Inputs outputs = some r) : Y.call 59 [D.agg [D.sl 93 (lst (fun x => D.sl 95 (cat2 .i64 .i64 x)) n_Ends), D.sl 3 (lst (D.int .i64) n_Ids), D.sl 3 (lst (D.int .i64) n_Inputs)], D.sl 3 (lst (D.int .i64) outputs)] [] = some (D.bool r, []) := by
 refine c59 ?_ rfl
 unfold k59
 unfold i_outputsOk at h
 by_cases e1 : (outputs.length : Int) = (n_Ends.length : Int)
 ·rw [if_pos e1] at h
  obtain ⟨e2, h⟩ := ckS h
  have c3 := i_allWithin_cl outputs (0 : Int) (99 : Int) e2
  obtain rfl := Option.some.inj h
  simp (maxDischargeDepth := 9) only [↓xpre, xpost, xlst, xc2, xcore, yset, rg0, ↓reduceIte, Nat.reduceEqDiff, Nat.reduceLT, Nat.reduceLeDiff, Nat.reduceAdd, Nat.reduceMul, Nat.reduceMod, Nat.reduceSub, Nat.reduceBEq, Int.reduceLE, Int.reduceLT, Int.reduceEq, Int.reduceSub, Int.reduceAdd, Int.reduceToNat, Int.reduceNeg, decide_eq_true e1, e2, c3] <;> (repeat' apply And.intro) <;> first | rfl | exact ⟨_, rfl⟩ | simp [lst, cat2_nil]
 ·rw [if_neg e1] at h
  obtain rfl := Option.some.inj h
  simp (maxDischargeDepth := 9) only [↓xpre, xpost, xlst, xc2, xcore, yset, rg0, ↓reduceIte, Nat.reduceEqDiff, Nat.reduceLT, Nat.reduceLeDiff, Nat.reduceAdd, Nat.reduceMul, Nat.reduceMod, Nat.reduceSub, Nat.reduceBEq, Int.reduceLE, Int.reduceLT, Int.reduceEq, Int.reduceSub, Int.reduceAdd, Int.reduceToNat, Int.reduceNeg, e1] <;> (repeat' apply And.intro) <;> first | rfl | exact ⟨_, rfl⟩ | simp [lst, cat2_nil]

noncomputable def i_Network_edges_l0_S (n_Ends : List (List (Int × Int))) (t11_ : Int) (out1 : List (Int × Int × Int × Int)) (t18_ : Int) : Option (((List (Int × Int × Int × Int)) × Int) ⊕ ((List (Int × Int × Int × Int)))) :=
 if t18_ < ((n_Ends.getD t11_.toNat default).length : Int) then
  ck (0 ≤ t18_ ∧ t18_.toNat < (n_Ends.getD t11_.toNat default).length) <|
  if t11_ < (fstD (n_Ends.getD t11_.toNat default) t18_.toNat) then
   ck (out1.length * 4 + 4 < 1099511627776) <|
   some (Sum.inl ((out1 ++ [(t11_, t18_, (fstD (n_Ends.getD t11_.toNat default) t18_.toNat), (sndD (n_Ends.getD t11_.toNat default) t18_.toNat))]), IntKind.i64.wrap (t18_ + 1)))
  else
   if t11_ = (fstD (n_Ends.getD t11_.toNat default) t18_.toNat) then
    if t18_ ≤ (sndD (n_Ends.getD t11_.toNat default) t18_.toNat) then
     ck (out1.length * 4 + 4 < 1099511627776) <|
     some (Sum.inl ((out1 ++ [(t11_, t18_, (fstD (n_Ends.getD t11_.toNat default) t18_.toNat), (sndD (n_Ends.getD t11_.toNat default) t18_.toNat))]), IntKind.i64.wrap (t18_ + 1)))
    else
     some (Sum.inl (out1, IntKind.i64.wrap (t18_ + 1)))
   else
    some (Sum.inl (out1, IntKind.i64.wrap (t18_ + 1)))
 else
  some (Sum.inr out1)
noncomputable def i_Network_edges_l0 (n_Ends : List (List (Int × Int))) (t11_ : Int) (v : (List (Int × Int × Int × Int)) × Int) : Option ((List (Int × Int × Int × Int))) := itO (fun v => i_Network_edges_l0_S n_Ends t11_ v.1 v.2) v
noncomputable def i_Network_edges_l1_S (n_Ends : List (List (Int × Int))) (out : List (Int × Int × Int × Int)) (t11_ : Int) : Option (((List (Int × Int × Int × Int)) × Int) ⊕ ((List (Int × Int × Int × Int)))) :=
 if t11_ < (n_Ends.length : Int) then
  ck (0 ≤ t11_ ∧ t11_.toNat < n_Ends.length) <|
  (i_Network_edges_l0 n_Ends t11_ (out, 0)).bind fun r4_ =>
  some (Sum.inl (r4_, IntKind.i64.wrap (t11_ + 1)))
 else
  some (Sum.inr out)
noncomputable def i_Network_edges_l1 (n_Ends : List (List (Int × Int))) (v : (List (Int × Int × Int × Int)) × Int) : Option ((List (Int × Int × Int × Int))) := itO (fun v => i_Network_edges_l1_S n_Ends v.1 v.2) v
noncomputable def i_Network_edges (n_Ends : List (List (Int × Int))) (n_Ids : List Int) (n_Inputs : List Int) : Option ((List (Int × Int × Int × Int))) :=
 (i_Network_edges_l1 n_Ends ([], 0)).bind fun r2_ =>
 some r2_
/-- impl.Network).edges -/
def k101_l0b : SC :=
 .seq
 (.ops [
 ⟨(some 19), (.binOp .lss 3 (.tmp 18) (.tmp 17) 3), 0, none⟩])
 (.seq
 (.cond (.tmp 19)
 .skip
 (.exit 2))
 (.seq
 (.block 3
 (.seq
 (.ops [
 ⟨(some 20), (.move (.tmp 18)), 3, none⟩,
 ⟨(some 21), (.indexAddr 93 (.tmp 16) (.tmp 18)), 0, none⟩,
 ⟨(some 22), (.load 95 (.tmp 21)), 95, none⟩,
 ⟨(some 7), (.alloc 95), 0, none⟩,
 ⟨(some 6), (.assign (.tmp 20)), 3, none⟩,
 ⟨none, (.store 95 (.tmp 7) (.tmp 22)), 0, none⟩])
 (.seq
 (.ops [
 ⟨(some 23), (.move (.tmp 4)), 3, none⟩,
 ⟨(some 24), (.fieldAddr 95 (.tmp 7) 0), 0, none⟩,
 ⟨(some 25), (.load 3 (.tmp 24)), 3, none⟩,
 ⟨(some 26), (.binOp .lss 3 (.tmp 23) (.tmp 25) 3), 4, none⟩,
 ⟨(some 27), (.move (.tmp 26)), 4, none⟩,
 ⟨(some 28), (.move (.tmp 4)), 3, (some (some 27, false))⟩,
 ⟨(some 29), (.fieldAddr 95 (.tmp 7) 0), 0, (some (some 27, false))⟩,
 ⟨(some 30), (.load 3 (.tmp 29)), 3, (some (some 27, false))⟩,
 ⟨(some 31), (.binOp .eql 3 (.tmp 28) (.tmp 30) 3), 4, (some (some 27, false))⟩,
 ⟨(some 32), (.move (.tmp 31)), 4, (some (some 27, false))⟩,
 ⟨(some 33), (.move (.tmp 6)), 3, (some (some 32, true))⟩,
 ⟨(some 34), (.fieldAddr 95 (.tmp 7) 1), 0, (some (some 32, true))⟩,
 ⟨(some 35), (.load 3 (.tmp 34)), 3, (some (some 32, true))⟩,
 ⟨(some 36), (.binOp .leq 3 (.tmp 33) (.tmp 35) 3), 4, (some (some 32, true))⟩,
 ⟨(some 37), (.pick (.tmp 32) (.tmp 36) (.const (.bool false))), 4, (some (some 27, false))⟩,
 ⟨(some 38), (.pick (.tmp 27) (.const (.bool true)) (.tmp 37)), 4, none⟩])
 (.cond (.tmp 38)
 (.ops [
 ⟨(some 39), (.move (.tmp 3)), 113, none⟩,
 ⟨(some 40), (.move (.tmp 4)), 3, none⟩,
 ⟨(some 41), (.move (.tmp 6)), 3, none⟩,
 ⟨(some 42), (.fieldAddr 95 (.tmp 7) 0), 0, none⟩,
 ⟨(some 43), (.load 3 (.tmp 42)), 3, none⟩,
 ⟨(some 44), (.fieldAddr 95 (.tmp 7) 1), 0, none⟩,
 ⟨(some 45), (.load 3 (.tmp 44)), 3, none⟩,
 ⟨(some 46), (.build 115 #[(0, (.tmp 40)), (1, (.tmp 41)), (2, (.tmp 43)), (3, (.tmp 45))]), 115, none⟩,
 ⟨(some 47), (.buildSlice 113 1 #[(0, (.tmp 46))]), 113, none⟩,
 ⟨(some 48), (.call ⟨(.builtin .append), #[(.tmp 39), (.tmp 47)], #[113, 113]⟩), 113, none⟩,
 ⟨(some 3), (.assign (.tmp 48)), 113, none⟩])
 .skip))))
 (.ops [
 ⟨(some 49), (.binOp .add 3 (.tmp 18) (.const (.int .i64 1)) 3), 3, none⟩,
 ⟨(some 18), (.move (.tmp 49)), 3, none⟩])))
def k101_l0 : SC := .loop k101_l0b
def k101_l1b : SC :=
 .seq
 (.ops [
 ⟨(some 12), (.binOp .lss 3 (.tmp 11) (.tmp 10) 3), 0, none⟩])
 (.seq
 (.cond (.tmp 12)
 .skip
 (.exit 0))
 (.seq
 (.block 1
 (.seq
 (.ops [
 ⟨(some 13), (.move (.tmp 11)), 3, none⟩,
 ⟨(some 14), (.indexAddr 27 (.tmp 9) (.tmp 11)), 0, none⟩,
 ⟨(some 15), (.load 93 (.tmp 14)), 93, none⟩,
 ⟨(some 4), (.assign (.tmp 13)), 3, none⟩,
 ⟨(some 5), (.assign (.tmp 15)), 93, none⟩])
 (.seq
 (.ops [
 ⟨(some 16), (.move (.tmp 5)), 93, none⟩,
 ⟨(some 17), (.call ⟨(.builtin .len), #[(.tmp 16)], #[93]⟩), 3, none⟩,
 ⟨(some 18), (.move (.const (.int .i64 0))), 3, none⟩])
 (.block 2
 k101_l0))))
 (.ops [
 ⟨(some 50), (.binOp .add 3 (.tmp 11) (.const (.int .i64 1)) 3), 3, none⟩,
 ⟨(some 11), (.move (.tmp 50)), 3, none⟩])))
def k101_l1 : SC := .loop k101_l1b
def k101 : SC :=
 .seq
 (.ops [
 ⟨(some 1), (.box 29 (.tmp 0)), 0, none⟩,
 ⟨(some 2), (.assign (.const (.slice none 0 0))), 113, none⟩])
 (.seq
 (.ops [
 ⟨(some 3), (.assign (.const (.slice none 0 0))), 113, none⟩])
 (.seq
 (.seq
 (.ops [
 ⟨(some 8), (.fieldAddr 29 (.tmp 1) 0), 0, none⟩,
 ⟨(some 9), (.load 27 (.tmp 8)), 27, none⟩,
 ⟨(some 10), (.call ⟨(.builtin .len), #[(.tmp 9)], #[27]⟩), 3, none⟩,
 ⟨(some 11), (.move (.const (.int .i64 0))), 3, none⟩])
 (.block 0
 k101_l1))
 (.seq
 (.ops [
 ⟨(some 51), (.move (.tmp 3)), 113, none⟩,
 ⟨(some 2), (.assign (.tmp 51)), 113, none⟩])
 .ret)))
theorem slim101 : Try.f101.body.map (slim lends) = some k101 := by kernel_rfl
theorem ok101 : fnOk Try.f101 1 = true := by kernel_rfl
theorem c101 {a l : List D} {r : D × List D} (h : wpD Y.env k101 (fin tys l.length [ResultVar.tmp 2] r) (entry a l)) (ha : a.length = 1) : Y.call 101 a l = some r :=
 call_slim (Y := Y) rfl Try.func101 (ha ▸ ok101) slim101 h
def i_Network_edges_l0_M (n_Ends : List (List (Int × Int))) (t11_ : Int) (out1 : List (Int × Int × Int × Int)) (t18_ : Int) (s : St) : Prop := s.v 3 = D.own 115 (cat4 out1) ∧ s.v 4 = D.int .i64 t11_ ∧ s.v 9 = D.sl 93 (lst (fun x => D.sl 95 (cat2 .i64 .i64 x)) n_Ends) ∧ s.v 10 = D.int .i64 (n_Ends.length : Int) ∧ s.v 11 = D.int .i64 t11_ ∧ s.v 16 = D.sl 95 (cat2 .i64 .i64 (n_Ends.getD t11_.toNat default)) ∧ s.v 17 = D.int .i64 ((n_Ends.getD t11_.toNat default).length : Int) ∧ s.v 18 = D.int .i64 t18_
def i_Network_edges_l0_X (n_Ends : List (List (Int × Int))) (t11_ : Int) (r : (List (Int × Int × Int × Int))) (ex : Ex) (s : St) : Prop := ex = .exit 2 ∧ s.v 3 = D.own 115 (cat4 r) ∧ s.v 9 = D.sl 93 (lst (fun x => D.sl 95 (cat2 .i64 .i64 x)) n_Ends) ∧ s.v 10 = D.int .i64 (n_Ends.length : Int) ∧ s.v 11 = D.int .i64 t11_
theorem i_Network_edges_l0_wp (n_Ends : List (List (Int × Int))) (t11_ : Int) {v : (List (Int × Int × Int × Int)) × Int} {s : St} {r : (List (Int × Int × Int × Int))} (h : i_Network_edges_l0 n_Ends t11_ v = some r) (hM : i_Network_edges_l0_M n_Ends t11_ v.1 v.2 s) : wpD Y.env k101_l0 (i_Network_edges_l0_X n_Ends t11_ r) s := by
 unfold i_Network_edges_l0 at h
 refine wd_itO (c := k101_l0b) (fun v => i_Network_edges_l0_S n_Ends t11_ v.1 v.2) (fun v s => i_Network_edges_l0_M n_Ends t11_ v.1 v.2 s) (i_Network_edges_l0_X n_Ends t11_) ?_ h hM
 clear h hM s v r
 intro v s o hM h
 obtain ⟨out1, t18_⟩ := v
 dsimp only at h hM
 unfold i_Network_edges_l0_S at h
 unfold i_Network_edges_l0_M at hM
 obtain ⟨m0, m1, m2, m3, m4, m5, m6, m7⟩ := hM
 unfold k101_l0b
 by_cases e3 : t18_ < ((n_Ends.getD t11_.toNat default).length : Int)
 ·rw [if_pos e3] at h
  obtain ⟨e4, h⟩ := ckS h
  by_cases e5 : t11_ < (fstD (n_Ends.getD t11_.toNat default) t18_.toNat)
  ·rw [if_pos e5] at h
   obtain ⟨e6, h⟩ := ckS h
   obtain rfl := Option.some.inj h
   simp (maxDischargeDepth := 9) only [↓xpre, xpost, xlst, xc2, xcore, yset, rg0, ↓reduceIte, Nat.reduceEqDiff, Nat.reduceLT, Nat.reduceLeDiff, Nat.reduceAdd, Nat.reduceMul, Nat.reduceMod, Nat.reduceSub, Nat.reduceBEq, Int.reduceLE, Int.reduceLT, Int.reduceEq, Int.reduceSub, Int.reduceAdd, Int.reduceToNat, Int.reduceNeg, m0, m1, m2, m3, m4, m5, m6, m7, e3, e4.1, e4.2, e5, e6, i_Network_edges_l0_M, i_Network_edges_l0_X, sxN, sxE, sxR] <;> (repeat' apply And.intro) <;> first | rfl | exact ⟨_, rfl⟩ | simp [lst, cat2_nil]
  ·rw [if_neg e5] at h
   by_cases e6 : t11_ = (fstD (n_Ends.getD t11_.toNat default) t18_.toNat)
   ·rw [if_pos e6] at h
    by_cases e7 : t18_ ≤ (sndD (n_Ends.getD t11_.toNat default) t18_.toNat)
    ·rw [if_pos e7] at h
     obtain ⟨e8, h⟩ := ckS h
     obtain rfl := Option.some.inj h
     simp (maxDischargeDepth := 9) only [↓xpre, xpost, xlst, xc2, xcore, yset, rg0, ↓reduceIte, Nat.reduceEqDiff, Nat.reduceLT, Nat.reduceLeDiff, Nat.reduceAdd, Nat.reduceMul, Nat.reduceMod, Nat.reduceSub, Nat.reduceBEq, Int.reduceLE, Int.reduceLT, Int.reduceEq, Int.reduceSub, Int.reduceAdd, Int.reduceToNat, Int.reduceNeg, m0, m1, m2, m3, m4, m5, m6, m7, e3, e4.1, e4.2, e5, decide_eq_true e6, e7, e8, i_Network_edges_l0_M, i_Network_edges_l0_X, sxN, sxE, sxR] <;> (repeat' apply And.intro) <;> first | rfl | exact ⟨_, rfl⟩ | simp [lst, cat2_nil]
    ·rw [if_neg e7] at h
     obtain rfl := Option.some.inj h
     simp (maxDischargeDepth := 9) only [↓xpre, xpost, xlst, xc2, xcore, yset, rg0, ↓reduceIte, Nat.reduceEqDiff, Nat.reduceLT, Nat.reduceLeDiff, Nat.reduceAdd, Nat.reduceMul, Nat.reduceMod, Nat.reduceSub, Nat.reduceBEq, Int.reduceLE, Int.reduceLT, Int.reduceEq, Int.reduceSub, Int.reduceAdd, Int.reduceToNat, Int.reduceNeg, m0, m1, m2, m3, m4, m5, m6, m7, e3, e4.1, e4.2, e5, decide_eq_true e6, e7, i_Network_edges_l0_M, i_Network_edges_l0_X, sxN, sxE, sxR] <;> (repeat' apply And.intro) <;> first | rfl | exact ⟨_, rfl⟩ | simp [lst, cat2_nil]
   ·rw [if_neg e6] at h
    obtain rfl := Option.some.inj h
    simp (maxDischargeDepth := 9) only [↓xpre, xpost, xlst, xc2, xcore, yset, rg0, ↓reduceIte, Nat.reduceEqDiff, Nat.reduceLT, Nat.reduceLeDiff, Nat.reduceAdd, Nat.reduceMul, Nat.reduceMod, Nat.reduceSub, Nat.reduceBEq, Int.reduceLE, Int.reduceLT, Int.reduceEq, Int.reduceSub, Int.reduceAdd, Int.reduceToNat, Int.reduceNeg, m0, m1, m2, m3, m4, m5, m6, m7, e3, e4.1, e4.2, e5, e6, i_Network_edges_l0_M, i_Network_edges_l0_X, sxN, sxE, sxR] <;> (repeat' apply And.intro) <;> first | rfl | exact ⟨_, rfl⟩ | simp [lst, cat2_nil]
 ·rw [if_neg e3] at h
  obtain rfl := Option.some.inj h
  simp (maxDischargeDepth := 9) only [↓xpre, xpost, xlst, xc2, xcore, yset, rg0, ↓reduceIte, Nat.reduceEqDiff, Nat.reduceLT, Nat.reduceLeDiff, Nat.reduceAdd, Nat.reduceMul, Nat.reduceMod, Nat.reduceSub, Nat.reduceBEq, Int.reduceLE, Int.reduceLT, Int.reduceEq, Int.reduceSub, Int.reduceAdd, Int.reduceToNat, Int.reduceNeg, m0, m1, m2, m3, m4, m5, m6, m7, e3, i_Network_edges_l0_M, i_Network_edges_l0_X, sxN, sxE, sxR] <;> (repeat' apply And.intro) <;> first | rfl | exact ⟨_, rfl⟩ | simp [lst, cat2_nil]
def i_Network_edges_l1_M (n_Ends : List (List (Int × Int))) (out : List (Int × Int × Int × Int)) (t11_ : Int) (s : St) : Prop := s.v 3 = D.own 115 (cat4 out) ∧ s.v 9 = D.sl 93 (lst (fun x => D.sl 95 (cat2 .i64 .i64 x)) n_Ends) ∧ s.v 10 = D.int .i64 (n_Ends.length : Int) ∧ s.v 11 = D.int .i64 t11_
def i_Network_edges_l1_X (n_Ends : List (List (Int × Int))) (r : (List (Int × Int × Int × Int))) (ex : Ex) (s : St) : Prop := ex = .exit 0 ∧ s.v 3 = D.own 115 (cat4 r)
theorem i_Network_edges_l1_wp (n_Ends : List (List (Int × Int))) {v : (List (Int × Int × Int × Int)) × Int} {s : St} {r : (List (Int × Int × Int × Int))} (h : i_Network_edges_l1 n_Ends v = some r) (hM : i_Network_edges_l1_M n_Ends v.1 v.2 s) : wpD Y.env k101_l1 (i_Network_edges_l1_X n_Ends r) s := by
 unfold i_Network_edges_l1 at h
 refine wd_itO (c := k101_l1b) (fun v => i_Network_edges_l1_S n_Ends v.1 v.2) (fun v s => i_Network_edges_l1_M n_Ends v.1 v.2 s) (i_Network_edges_l1_X n_Ends) ?_ h hM
 clear h hM s v r
 intro v s o hM h
 obtain ⟨out, t11_⟩ := v
 dsimp only at h hM
 unfold i_Network_edges_l1_S at h
 unfold i_Network_edges_l1_M at hM
 obtain ⟨m0, m1, m2, m3⟩ := hM
 unfold k101_l1b
 by_cases e1 : t11_ < (n_Ends.length : Int)
 ·rw [if_pos e1] at h
  obtain ⟨e2, h⟩ := ckS h
  obtain ⟨r4_, hl4, h⟩ := bindS h
  try dsimp only at h
  simp (maxDischargeDepth := 9) only [↓xpre, xpost, xlst, xc2, xcore, yset, rg0, ↓reduceIte, Nat.reduceEqDiff, Nat.reduceLT, Nat.reduceLeDiff, Nat.reduceAdd, Nat.reduceMul, Nat.reduceMod, Nat.reduceSub, Nat.reduceBEq, Int.reduceLE, Int.reduceLT, Int.reduceEq, Int.reduceSub, Int.reduceAdd, Int.reduceToNat, Int.reduceNeg, m0, m1, m2, m3, e1, e2.1, e2.2]
  refine wd_mono (i_Network_edges_l0_wp n_Ends t11_ hl4 ?_) ?_
  ·simp (maxDischargeDepth := 9) only [↓xpre, xpost, xlst, xc2, xcore, yset, rg0, ↓reduceIte, Nat.reduceEqDiff, Nat.reduceLT, Nat.reduceLeDiff, Nat.reduceAdd, Nat.reduceMul, Nat.reduceMod, Nat.reduceSub, Nat.reduceBEq, Int.reduceLE, Int.reduceLT, Int.reduceEq, Int.reduceSub, Int.reduceAdd, Int.reduceToNat, Int.reduceNeg, m0, m1, m2, m3, e1, e2.1, e2.2, i_Network_edges_l0_M] <;> (repeat' apply And.intro) <;> first | rfl | exact ⟨_, rfl⟩ | simp [lst, cat2_nil]
  ·intro ex4 s4 hX4
   unfold i_Network_edges_l0_X at hX4
   obtain ⟨rfl, n4_0, n4_1, n4_2, n4_3⟩ := hX4
   obtain rfl := Option.some.inj h
   simp (maxDischargeDepth := 9) only [↓xpre, xpost, xlst, xc2, xcore, yset, rg0, ↓reduceIte, Nat.reduceEqDiff, Nat.reduceLT, Nat.reduceLeDiff, Nat.reduceAdd, Nat.reduceMul, Nat.reduceMod, Nat.reduceSub, Nat.reduceBEq, Int.reduceLE, Int.reduceLT, Int.reduceEq, Int.reduceSub, Int.reduceAdd, Int.reduceToNat, Int.reduceNeg, e1, e2.1, e2.2, n4_0, n4_1, n4_2, n4_3, i_Network_edges_l1_M, i_Network_edges_l1_X, sxN, sxE, sxR] <;> (repeat' apply And.intro) <;> first | rfl | exact ⟨_, rfl⟩ | simp [lst, cat2_nil]
 ·rw [if_neg e1] at h
  obtain rfl := Option.some.inj h
  simp (maxDischargeDepth := 9) only [↓xpre, xpost, xlst, xc2, xcore, yset, rg0, ↓reduceIte, Nat.reduceEqDiff, Nat.reduceLT, Nat.reduceLeDiff, Nat.reduceAdd, Nat.reduceMul, Nat.reduceMod, Nat.reduceSub, Nat.reduceBEq, Int.reduceLE, Int.reduceLT, Int.reduceEq, Int.reduceSub, Int.reduceAdd, Int.reduceToNat, Int.reduceNeg, m0, m1, m2, m3, e1, i_Network_edges_l1_M, i_Network_edges_l1_X, sxN, sxE, sxR] <;> (repeat' apply And.intro) <;> first | rfl | exact ⟨_, rfl⟩ | simp [lst, cat2_nil]
theorem i_Network_edges_call (n_Ends : List (List (Int × Int))) (n_Ids : List Int) (n_Inputs : List Int) {r : (List (Int × Int × Int × Int))} (h : i_Network_edges n_Ends n_Ids n_Inputs = some r) : Y.call 101 [D.agg [D.sl 93 (lst (fun x => D.sl 95 (cat2 .i64 .i64 x)) n_Ends), D.sl 3 (lst (D.int .i64) n_Ids), D.sl 3 (lst (D.int .i64) n_Inputs)]] [] = some (D.own 115 (cat4 r), []) := by
 refine c101 ?_ rfl
 unfold k101
 unfold i_Network_edges at h
 obtain ⟨r2_, hl2, h⟩ := bindS h
 try dsimp only at h
 simp (maxDischargeDepth := 9) only [↓xpre, xpost, xlst, xc2, xcore, yset, rg0, ↓reduceIte, Nat.reduceEqDiff, Nat.reduceLT, Nat.reduceLeDiff, Nat.reduceAdd, Nat.reduceMul, Nat.reduceMod, Nat.reduceSub, Nat.reduceBEq, Int.reduceLE, Int.reduceLT, Int.reduceEq, Int.reduceSub, Int.reduceAdd, Int.reduceToNat, Int.reduceNeg]
 refine wd_mono (i_Network_edges_l1_wp n_Ends hl2 ?_) ?_
 ·simp (maxDischargeDepth := 9) only [↓xpre, xpost, xlst, xc2, xcore, yset, rg0, ↓reduceIte, Nat.reduceEqDiff, Nat.reduceLT, Nat.reduceLeDiff, Nat.reduceAdd, Nat.reduceMul, Nat.reduceMod, Nat.reduceSub, Nat.reduceBEq, Int.reduceLE, Int.reduceLT, Int.reduceEq, Int.reduceSub, Int.reduceAdd, Int.reduceToNat, Int.reduceNeg, i_Network_edges_l1_M] <;> (repeat' apply And.intro) <;> first | rfl | exact ⟨_, rfl⟩ | simp [lst, cat2_nil]
 ·intro ex2 s2 hX2
  unfold i_Network_edges_l1_X at hX2
  obtain ⟨rfl, n2_0⟩ := hX2
  obtain rfl := Option.some.inj h
  simp (maxDischargeDepth := 9) only [↓xpre, xpost, xlst, xc2, xcore, yset, rg0, ↓reduceIte, Nat.reduceEqDiff, Nat.reduceLT, Nat.reduceLeDiff, Nat.reduceAdd, Nat.reduceMul, Nat.reduceMod, Nat.reduceSub, Nat.reduceBEq, Int.reduceLE, Int.reduceLT, Int.reduceEq, Int.reduceSub, Int.reduceAdd, Int.reduceToNat, Int.reduceNeg, n2_0] <;> (repeat' apply And.intro) <;> first | rfl | exact ⟨_, rfl⟩ | simp [lst, cat2_nil]

noncomputable def g_slices_IndexFunc_Sloop_example_g01084_impl_edge_loop_example_g01084_impl_edge_l0_S (s_ : List (Int × Int × Int × Int)) (f : Int → Int → Int → Int → Option Bool) (t8_ : Int) : Option ((Int) ⊕ (Int ⊕ Unit)) :=
 if t8_ < (s_.length : Int) then
  ck (0 ≤ t8_ ∧ t8_.toNat < s_.length) <|
  (f (q4a s_ t8_.toNat) (q4b s_ t8_.toNat) (q4c s_ t8_.toNat) (q4d s_ t8_.toNat)).bind fun r3_ =>
  if r3_ = true then
   some (Sum.inr (Sum.inl t8_))
  else
   some (Sum.inl (IntKind.i64.wrap (t8_ + 1)))
 else
  some (Sum.inr (Sum.inr ()))
noncomputable def g_slices_IndexFunc_Sloop_example_g01084_impl_edge_loop_example_g01084_impl_edge_l0 (s_ : List (Int × Int × Int × Int)) (f : Int → Int → Int → Int → Option Bool) (v : Int) : Option (Int ⊕ Unit) := itO (fun v => g_slices_IndexFunc_Sloop_example_g01084_impl_edge_loop_example_g01084_impl_edge_l0_S s_ f v) v
noncomputable def g_slices_IndexFunc_Sloop_example_g01084_impl_edge_loop_example_g01084_impl_edge (s_ : List (Int × Int × Int × Int)) (f : Int → Int → Int → Int → Option Bool) : Option (Int) :=
 (g_slices_IndexFunc_Sloop_example_g01084_impl_edge_loop_example_g01084_impl_edge_l0 s_ f 0).bind fun r2_ =>
 match r2_ with
 | .inl q2_ =>
  some q2_
 | .inr q2_ =>
  some (-1)
/-- impl.edge] -/
def k130_l0b : SC :=
 .seq
 (.ops [
 ⟨(some 9), (.binOp .lss 3 (.tmp 8) (.tmp 7) 3), 0, none⟩])
 (.seq
 (.cond (.tmp 9)
 .skip
 (.exit 0))
 (.seq
 (.block 1
 (.seq
 (.ops [
 ⟨(some 10), (.move (.tmp 8)), 3, none⟩,
 ⟨(some 5), (.assign (.tmp 10)), 3, none⟩])
 (.seq
 (.ops [
 ⟨(some 11), (.move (.tmp 1)), 117, none⟩,
 ⟨(some 12), (.move (.tmp 0)), 113, none⟩,
 ⟨(some 13), (.move (.tmp 5)), 3, none⟩,
 ⟨(some 14), (.indexAddr 113 (.tmp 12) (.tmp 13)), 0, none⟩,
 ⟨(some 15), (.load 115 (.tmp 14)), 115, none⟩,
 ⟨(some 16), (.call ⟨(.value (.tmp 11)), #[(.tmp 15)], #[115]⟩), 4, none⟩])
 (.cond (.tmp 16)
 (.seq
 (.ops [
 ⟨(some 17), (.move (.tmp 5)), 3, none⟩,
 ⟨(some 4), (.assign (.tmp 17)), 3, none⟩])
 .ret)
 .skip))))
 (.ops [
 ⟨(some 18), (.binOp .add 3 (.tmp 8) (.const (.int .i64 1)) 3), 3, none⟩,
 ⟨(some 8), (.move (.tmp 18)), 3, none⟩])))
def k130_l0 : SC := .loop k130_l0b
def k130 : SC :=
 .seq
 (.ops [
 ⟨(some 4), (.assign (.const (.int .i64 0))), 3, none⟩])
 (.seq
 (.seq
 (.ops [
 ⟨(some 6), (.move (.tmp 0)), 113, none⟩,
 ⟨(some 7), (.call ⟨(.builtin .len), #[(.tmp 6)], #[113]⟩), 3, none⟩,
 ⟨(some 8), (.move (.const (.int .i64 0))), 3, none⟩])
 (.block 0
 k130_l0))
 (.seq
 (.ops [
 ⟨(some 4), (.assign (.const (.int .i64 (-1)))), 3, none⟩])
 .ret))
theorem slim130 : Try.f130.body.map (slim lends) = some k130 := by kernel_rfl
theorem ok130 : fnOk Try.f130 2 = true := by kernel_rfl
theorem c130 {a l : List D} {r : D × List D} (h : wpD Y.env k130 (fin tys l.length [ResultVar.tmp 4] r) (entry a l)) (ha : a.length = 2) : Y.call 130 a l = some r :=
 call_slim (Y := Y) rfl Try.func130 (ha ▸ ok130) slim130 h
def g_slices_IndexFunc_Sloop_example_g01084_impl_edge_loop_example_g01084_impl_edge_l0_M (s_ : List (Int × Int × Int × Int)) (f : Int → Int → Int → Int → Option Bool) (f_f : FuncId) (f_c : List D) (t8_ : Int) (s : St) : Prop := s.v 0 = D.sl 115 (cat4 s_) ∧ s.v 1 = D.clo f_f f_c ∧ s.v 7 = D.int .i64 (s_.length : Int) ∧ s.v 8 = D.int .i64 t8_
def g_slices_IndexFunc_Sloop_example_g01084_impl_edge_loop_example_g01084_impl_edge_l0_X (s_ : List (Int × Int × Int × Int)) (f : Int → Int → Int → Int → Option Bool) (f_f : FuncId) (f_c : List D) (r : Int ⊕ Unit) (ex : Ex) (s : St) : Prop := match r with
 | .inl q => ex = .ret ∧ s.v 4 = D.int .i64 q
 | .inr q => ex = .exit 0
theorem g_slices_IndexFunc_Sloop_example_g01084_impl_edge_loop_example_g01084_impl_edge_l0_wp (s_ : List (Int × Int × Int × Int)) (f : Int → Int → Int → Int → Option Bool) (f_f : FuncId) (f_c : List D) (f_h : ∀ (a0_0 : Int) (a0_1 : Int) (a0_2 : Int) (a0_3 : Int) (r : Bool), f a0_0 a0_1 a0_2 a0_3 = some r → Y.call f_f (D.agg [D.int .i64 a0_0, D.int .i64 a0_1, D.int .i64 a0_2, D.int .i64 a0_3] :: f_c) [] = some (D.bool r, [])) (f_l : lends f_f = false) {v : Int} {s : St} {r : Int ⊕ Unit} (h : g_slices_IndexFunc_Sloop_example_g01084_impl_edge_loop_example_g01084_impl_edge_l0 s_ f v = some r) (hM : g_slices_IndexFunc_Sloop_example_g01084_impl_edge_loop_example_g01084_impl_edge_l0_M s_ f f_f f_c v s) : wpD Y.env k130_l0 (g_slices_IndexFunc_Sloop_example_g01084_impl_edge_loop_example_g01084_impl_edge_l0_X s_ f f_f f_c r) s := by
 unfold g_slices_IndexFunc_Sloop_example_g01084_impl_edge_loop_example_g01084_impl_edge_l0 at h
 refine wd_itO (c := k130_l0b) (fun v => g_slices_IndexFunc_Sloop_example_g01084_impl_edge_loop_example_g01084_impl_edge_l0_S s_ f v) (fun v s => g_slices_IndexFunc_Sloop_example_g01084_impl_edge_loop_example_g01084_impl_edge_l0_M s_ f f_f f_c v s) (g_slices_IndexFunc_Sloop_example_g01084_impl_edge_loop_example_g01084_impl_edge_l0_X s_ f f_f f_c) ?_ h hM
 clear h hM s v r
 intro t8_ s o hM h
 unfold g_slices_IndexFunc_Sloop_example_g01084_impl_edge_loop_example_g01084_impl_edge_l0_S at h
 unfold g_slices_IndexFunc_Sloop_example_g01084_impl_edge_loop_example_g01084_impl_edge_l0_M at hM
 obtain ⟨m0, m1, m2, m3⟩ := hM
 unfold k130_l0b
 by_cases e1 : t8_ < (s_.length : Int)
 ·rw [if_pos e1] at h
  obtain ⟨e2, h⟩ := ckS h
  obtain ⟨r3_, hl3, h⟩ := bindS h
  try dsimp only at h
  have c3 := f_h _ _ _ _ _ hl3
  by_cases e4 : r3_ = true
  ·rw [if_pos e4] at h
   obtain rfl := Option.some.inj h
   simp (maxDischargeDepth := 9) only [↓xpre, xpost, xlst, xc2, xcore, yset, rg0, ↓reduceIte, Nat.reduceEqDiff, Nat.reduceLT, Nat.reduceLeDiff, Nat.reduceAdd, Nat.reduceMul, Nat.reduceMod, Nat.reduceSub, Nat.reduceBEq, Int.reduceLE, Int.reduceLT, Int.reduceEq, Int.reduceSub, Int.reduceAdd, Int.reduceToNat, Int.reduceNeg, m0, m1, m2, m3, f_l, e1, e2.1, e2.2, c3, e4, g_slices_IndexFunc_Sloop_example_g01084_impl_edge_loop_example_g01084_impl_edge_l0_M, g_slices_IndexFunc_Sloop_example_g01084_impl_edge_loop_example_g01084_impl_edge_l0_X, sxN, sxE, sxR] <;> (repeat' apply And.intro) <;> first | rfl | exact ⟨_, rfl⟩ | simp [lst, cat2_nil]
  ·rw [if_neg e4] at h
   have e4f : r3_ = false := Bool.eq_false_iff.mpr e4
   obtain rfl := Option.some.inj h
   simp (maxDischargeDepth := 9) only [↓xpre, xpost, xlst, xc2, xcore, yset, rg0, ↓reduceIte, Nat.reduceEqDiff, Nat.reduceLT, Nat.reduceLeDiff, Nat.reduceAdd, Nat.reduceMul, Nat.reduceMod, Nat.reduceSub, Nat.reduceBEq, Int.reduceLE, Int.reduceLT, Int.reduceEq, Int.reduceSub, Int.reduceAdd, Int.reduceToNat, Int.reduceNeg, m0, m1, m2, m3, f_l, e1, e2.1, e2.2, c3, e4f, g_slices_IndexFunc_Sloop_example_g01084_impl_edge_loop_example_g01084_impl_edge_l0_M, g_slices_IndexFunc_Sloop_example_g01084_impl_edge_loop_example_g01084_impl_edge_l0_X, sxN, sxE, sxR] <;> (repeat' apply And.intro) <;> first | rfl | exact ⟨_, rfl⟩ | simp [lst, cat2_nil]
 ·rw [if_neg e1] at h
  obtain rfl := Option.some.inj h
  simp (maxDischargeDepth := 9) only [↓xpre, xpost, xlst, xc2, xcore, yset, rg0, ↓reduceIte, Nat.reduceEqDiff, Nat.reduceLT, Nat.reduceLeDiff, Nat.reduceAdd, Nat.reduceMul, Nat.reduceMod, Nat.reduceSub, Nat.reduceBEq, Int.reduceLE, Int.reduceLT, Int.reduceEq, Int.reduceSub, Int.reduceAdd, Int.reduceToNat, Int.reduceNeg, m0, m1, m2, m3, f_l, e1, g_slices_IndexFunc_Sloop_example_g01084_impl_edge_loop_example_g01084_impl_edge_l0_M, g_slices_IndexFunc_Sloop_example_g01084_impl_edge_loop_example_g01084_impl_edge_l0_X, sxN, sxE, sxR] <;> (repeat' apply And.intro) <;> first | rfl | exact ⟨_, rfl⟩ | simp [lst, cat2_nil]
theorem g_slices_IndexFunc_Sloop_example_g01084_impl_edge_loop_example_g01084_impl_edge_call (s_ : List (Int × Int × Int × Int)) (f : Int → Int → Int → Int → Option Bool) (f_f : FuncId) (f_c : List D) (f_h : ∀ (a0_0 : Int) (a0_1 : Int) (a0_2 : Int) (a0_3 : Int) (r : Bool), f a0_0 a0_1 a0_2 a0_3 = some r → Y.call f_f (D.agg [D.int .i64 a0_0, D.int .i64 a0_1, D.int .i64 a0_2, D.int .i64 a0_3] :: f_c) [] = some (D.bool r, [])) (f_l : lends f_f = false) {r : Int} (h : g_slices_IndexFunc_Sloop_example_g01084_impl_edge_loop_example_g01084_impl_edge s_ f = some r) : Y.call 130 [D.sl 115 (cat4 s_), D.clo f_f f_c] [] = some (D.int .i64 r, []) := by
 refine c130 ?_ rfl
 unfold k130
 unfold g_slices_IndexFunc_Sloop_example_g01084_impl_edge_loop_example_g01084_impl_edge at h
 obtain ⟨r2_, hl2, h⟩ := bindS h
 try dsimp only at h
 simp (maxDischargeDepth := 9) only [↓xpre, xpost, xlst, xc2, xcore, yset, rg0, ↓reduceIte, Nat.reduceEqDiff, Nat.reduceLT, Nat.reduceLeDiff, Nat.reduceAdd, Nat.reduceMul, Nat.reduceMod, Nat.reduceSub, Nat.reduceBEq, Int.reduceLE, Int.reduceLT, Int.reduceEq, Int.reduceSub, Int.reduceAdd, Int.reduceToNat, Int.reduceNeg, f_l]
 refine wd_mono (g_slices_IndexFunc_Sloop_example_g01084_impl_edge_loop_example_g01084_impl_edge_l0_wp s_ f f_f f_c f_h f_l hl2 ?_) ?_
 ·simp (maxDischargeDepth := 9) only [↓xpre, xpost, xlst, xc2, xcore, yset, rg0, ↓reduceIte, Nat.reduceEqDiff, Nat.reduceLT, Nat.reduceLeDiff, Nat.reduceAdd, Nat.reduceMul, Nat.reduceMod, Nat.reduceSub, Nat.reduceBEq, Int.reduceLE, Int.reduceLT, Int.reduceEq, Int.reduceSub, Int.reduceAdd, Int.reduceToNat, Int.reduceNeg, f_l, g_slices_IndexFunc_Sloop_example_g01084_impl_edge_loop_example_g01084_impl_edge_l0_M] <;> (repeat' apply And.intro) <;> first | rfl | exact ⟨_, rfl⟩ | simp [lst, cat2_nil]
 ·intro ex2 s2 hX2
  rcases r2_ with q2_ | q2_
  ·unfold g_slices_IndexFunc_Sloop_example_g01084_impl_edge_loop_example_g01084_impl_edge_l0_X at hX2
   dsimp only at hX2 h
   obtain ⟨rfl, n2_0⟩ := hX2
   obtain rfl := Option.some.inj h
   simp (maxDischargeDepth := 9) only [↓xpre, xpost, xlst, xc2, xcore, yset, rg0, ↓reduceIte, Nat.reduceEqDiff, Nat.reduceLT, Nat.reduceLeDiff, Nat.reduceAdd, Nat.reduceMul, Nat.reduceMod, Nat.reduceSub, Nat.reduceBEq, Int.reduceLE, Int.reduceLT, Int.reduceEq, Int.reduceSub, Int.reduceAdd, Int.reduceToNat, Int.reduceNeg, f_l, n2_0] <;> (repeat' apply And.intro) <;> first | rfl | exact ⟨_, rfl⟩ | simp [lst, cat2_nil]
  ·unfold g_slices_IndexFunc_Sloop_example_g01084_impl_edge_loop_example_g01084_impl_edge_l0_X at hX2
   dsimp only at hX2 h
   obtain rfl := hX2
   obtain rfl := Option.some.inj h
   simp (maxDischargeDepth := 9) only [↓xpre, xpost, xlst, xc2, xcore, yset, rg0, ↓reduceIte, Nat.reduceEqDiff, Nat.reduceLT, Nat.reduceLeDiff, Nat.reduceAdd, Nat.reduceMul, Nat.reduceMod, Nat.reduceSub, Nat.reduceBEq, Int.reduceLE, Int.reduceLT, Int.reduceEq, Int.reduceSub, Int.reduceAdd, Int.reduceToNat, Int.reduceNeg, f_l] <;> (repeat' apply And.intro) <;> first | rfl | exact ⟨_, rfl⟩ | simp [lst, cat2_nil]

noncomputable def g_slices_ContainsFunc_Sloop_example_g01084_impl_edge_loop_example_g01084_impl_edge (s_ : List (Int × Int × Int × Int)) (f : Int → Int → Int → Int → Option Bool) : Option (Bool) :=
 (g_slices_IndexFunc_Sloop_example_g01084_impl_edge_loop_example_g01084_impl_edge s_ f).bind fun r1_ =>
 some (decide (0 ≤ r1_))
/-- impl.edge] -/
def k100 : SC :=
 .seq
 (.ops [
 ⟨(some 4), (.assign (.const (.bool false))), 4, none⟩])
 (.seq
 (.ops [
 ⟨(some 5), (.move (.tmp 0)), 113, none⟩,
 ⟨(some 6), (.move (.tmp 1)), 117, none⟩,
 ⟨(some 7), (.call ⟨(.value (.func 130)), #[(.tmp 5), (.tmp 6)], #[113, 117]⟩), 3, none⟩,
 ⟨(some 8), (.binOp .geq 3 (.tmp 7) (.const (.int .i64 0)) 3), 4, none⟩,
 ⟨(some 4), (.assign (.tmp 8)), 4, none⟩])
 .ret)
theorem slim100 : Try.f100.body.map (slim lends) = some k100 := by kernel_rfl
theorem ok100 : fnOk Try.f100 2 = true := by kernel_rfl
theorem c100 {a l : List D} {r : D × List D} (h : wpD Y.env k100 (fin tys l.length [ResultVar.tmp 4] r) (entry a l)) (ha : a.length = 2) : Y.call 100 a l = some r :=
 call_slim (Y := Y) rfl Try.func100 (ha ▸ ok100) slim100 h
theorem g_slices_ContainsFunc_Sloop_example_g01084_impl_edge_loop_example_g01084_impl_edge_call (s_ : List (Int × Int × Int × Int)) (f : Int → Int → Int → Int → Option Bool) (f_f : FuncId) (f_c : List D) (f_h : ∀ (a0_0 : Int) (a0_1 : Int) (a0_2 : Int) (a0_3 : Int) (r : Bool), f a0_0 a0_1 a0_2 a0_3 = some r → Y.call f_f (D.agg [D.int .i64 a0_0, D.int .i64 a0_1, D.int .i64 a0_2, D.int .i64 a0_3] :: f_c) [] = some (D.bool r, [])) (f_l : lends f_f = false) {r : Bool} (h : g_slices_ContainsFunc_Sloop_example_g01084_impl_edge_loop_example_g01084_impl_edge s_ f = some r) : Y.call 100 [D.sl 115 (cat4 s_), D.clo f_f f_c] [] = some (D.bool r, []) := by
 refine c100 ?_ rfl
 unfold k100
 unfold g_slices_ContainsFunc_Sloop_example_g01084_impl_edge_loop_example_g01084_impl_edge at h
 obtain ⟨r1_, hl1, h⟩ := bindS h
 try dsimp only at h
 have c1 := g_slices_IndexFunc_Sloop_example_g01084_impl_edge_loop_example_g01084_impl_edge_call s_ f f_f f_c f_h f_l hl1
 obtain rfl := Option.some.inj h
 simp (maxDischargeDepth := 9) only [↓xpre, xpost, xlst, xc2, xcore, yset, rg0, ↓reduceIte, Nat.reduceEqDiff, Nat.reduceLT, Nat.reduceLeDiff, Nat.reduceAdd, Nat.reduceMul, Nat.reduceMod, Nat.reduceSub, Nat.reduceBEq, Int.reduceLE, Int.reduceLT, Int.reduceEq, Int.reduceSub, Int.reduceAdd, Int.reduceToNat, Int.reduceNeg, f_l, c1] <;> (repeat' apply And.intro) <;> first | rfl | exact ⟨_, rfl⟩ | simp [lst, cat2_nil]

noncomputable def i_meets_1 (e_v : Int) (e_i : Int) (e_w : Int) (e_j : Int) (c0_ : List Int) : Option (Bool) :=
 ck (0 ≤ e_v ∧ e_v.toNat < c0_.length) <|
 ck (0 ≤ e_w ∧ e_w.toNat < c0_.length) <|
 some (decide ((c0_.getD e_v.toNat default) = (c0_.getD e_w.toNat default)))
/-- impl.meets$1 -/
def k102 : SC :=
 .seq
 (.ops [
 ⟨(some 2), (.box 115 (.tmp 0)), 0, none⟩,
 ⟨(some 3), (.assign (.const (.bool false))), 4, none⟩])
 (.seq
 (.draws [
 (⟨[4, 1, 1], [4, 5, 6, 7, 8, 9, 10, 11, 12, 13, 14, 3, 14, 14], [4]⟩, ⟨(some 4), (.load 23 (.tmp 1)), 23, none⟩),
 (⟨[5, 2, 2], [4, 5, 6, 7, 8, 9, 10, 11, 12, 13, 14, 3, 14, 14], [5]⟩, ⟨(some 5), (.fieldAddr 115 (.tmp 2) 0), 0, none⟩),
 (⟨[6, 5, 2], [4, 5, 6, 7, 8, 9, 10, 11, 12, 13, 14, 3, 14, 14], [6]⟩, ⟨(some 6), (.load 3 (.tmp 5)), 3, none⟩),
 (⟨[7, 4, 6, 1, 2], [4, 5, 6, 7, 8, 9, 10, 11, 12, 13, 14, 3, 14, 14], [7]⟩, ⟨(some 7), (.indexAddr 23 (.tmp 4) (.tmp 6)), 0, none⟩),
 (⟨[8, 7, 1], [4, 5, 6, 7, 8, 9, 10, 11, 12, 13, 14, 3, 14, 14], [8]⟩, ⟨(some 8), (.load 3 (.tmp 7)), 3, none⟩),
 (⟨[9, 1, 1], [4, 5, 6, 7, 8, 9, 10, 11, 12, 13, 14, 3, 14, 14], [9]⟩, ⟨(some 9), (.load 23 (.tmp 1)), 23, none⟩),
 (⟨[10, 2, 2], [4, 5, 6, 7, 8, 9, 10, 11, 12, 13, 14, 3, 14, 14], [10]⟩, ⟨(some 10), (.fieldAddr 115 (.tmp 2) 2), 0, none⟩),
 (⟨[11, 10, 2], [4, 5, 6, 7, 8, 9, 10, 11, 12, 13, 14, 3, 14, 14], [11]⟩, ⟨(some 11), (.load 3 (.tmp 10)), 3, none⟩),
 (⟨[12, 9, 11, 1, 2], [4, 5, 6, 7, 8, 9, 10, 11, 12, 13, 14, 3, 14, 14], [12]⟩, ⟨(some 12), (.indexAddr 23 (.tmp 9) (.tmp 11)), 0, none⟩),
 (⟨[13, 12, 1], [4, 5, 6, 7, 8, 9, 10, 11, 12, 13, 14, 3, 14, 14], [13]⟩, ⟨(some 13), (.load 3 (.tmp 12)), 3, none⟩),
 (⟨[14, 8, 13, 1, 1], [4, 5, 6, 7, 8, 9, 10, 11, 12, 13, 14, 3, 14, 14], [14]⟩, ⟨(some 14), (.binOp .eql 3 (.tmp 8) (.tmp 13) 3), 4, none⟩),
 (⟨[3, 14, 14], [4, 5, 6, 7, 8, 9, 10, 11, 12, 13, 14, 3, 14, 14], [3, 14, 14]⟩, ⟨(some 3), (.assign (.tmp 14)), 4, none⟩)])
 .ret)
theorem slim102 : Try.f102.body.map (slim lends) = some k102 := by kernel_rfl
theorem ok102 : fnOk Try.f102 2 = true := by kernel_rfl
theorem c102 {a l : List D} {r : D × List D} (h : wpD Y.env k102 (fin tys l.length [ResultVar.tmp 3] r) (entry a l)) (ha : a.length = 2) : Y.call 102 a l = some r :=
 call_slim (Y := Y) rfl Try.func102 (ha ▸ ok102) slim102 h
theorem i_meets_1_call (e_v : Int) (e_i : Int) (e_w : Int) (e_j : Int) (c0_ : List Int) {r : Bool} (h : i_meets_1 e_v e_i e_w e_j c0_ = some r) : Y.call 102 [D.agg [D.int .i64 e_v, D.int .i64 e_i, D.int .i64 e_w, D.int .i64 e_j], D.cptr [D.sl 3 (lst (D.int .i64) c0_)]] [] = some (D.bool r, []) := by
 refine c102 ?_ rfl
 unfold k102
 unfold i_meets_1 at h
 obtain ⟨e1, h⟩ := ckS h
 obtain ⟨e2, h⟩ := ckS h
 obtain rfl := Option.some.inj h
 simp (maxDischargeDepth := 9) only [↓xpre, xpost, xlst, xc2, xcore, yset, rg0, ↓reduceIte, Nat.reduceEqDiff, Nat.reduceLT, Nat.reduceLeDiff, Nat.reduceAdd, Nat.reduceMul, Nat.reduceMod, Nat.reduceSub, Nat.reduceBEq, Int.reduceLE, Int.reduceLT, Int.reduceEq, Int.reduceSub, Int.reduceAdd, Int.reduceToNat, Int.reduceNeg, e1.1, e1.2, e2.1, e2.2] <;> (repeat' apply And.intro) <;> first | rfl | exact ⟨_, rfl⟩ | simp [lst, cat2_nil]

noncomputable def g_slices_Compact_Sint_int_l0_S (s_ : List Int) (k : Int) (k1 : Int) (k2 : Int) (t100000_ : List Int) : Option ((Int × Int × (List Int)) ⊕ (Int × (List Int))) :=
 if k2 < (((s_.length - k.toNat) : Nat) : Int) then
  ck (0 ≤ k2 ∧ k2.toNat < (s_.length - k.toNat)) <|
  ck (k.toNat + (s_.length - k.toNat) ≤ t100000_.length) <|
  ck (k.toNat + k2.toNat < t100000_.length) <|
  ck (0 ≤ IntKind.i64.wrap (k2 - 1) ∧ (IntKind.i64.wrap (k2 - 1)).toNat < (s_.length - k.toNat)) <|
  ck (k.toNat + (IntKind.i64.wrap (k2 - 1)).toNat < t100000_.length) <|
  if (t100000_.getD (k.toNat + k2.toNat) default) = (t100000_.getD (k.toNat + (IntKind.i64.wrap (k2 - 1)).toNat) default) then
   some (Sum.inl (k1, IntKind.i64.wrap (k2 + 1), t100000_))
  else
   ck (0 ≤ k1 ∧ k1.toNat < t100000_.length) <|
   some (Sum.inl (IntKind.i64.wrap (k1 + 1), IntKind.i64.wrap (k2 + 1), (t100000_.set k1.toNat (t100000_.getD (k.toNat + k2.toNat) default))))
 else
  some (Sum.inr (k1, t100000_))
noncomputable def g_slices_Compact_Sint_int_l0 (s_ : List Int) (k : Int) (v : Int × Int × (List Int)) : Option (Int × (List Int)) := itO (fun v => g_slices_Compact_Sint_int_l0_S s_ k v.1 v.2.1 v.2.2) v
noncomputable def g_slices_Compact_Sint_int_l1_S (s_ : List Int) (k : Int) : Option ((Int) ⊕ (((List Int)) ⊕ Unit)) :=
 if k < (s_.length : Int) then
  ck (0 ≤ k ∧ k.toNat < s_.length) <|
  ck (0 ≤ IntKind.i64.wrap (k - 1) ∧ (IntKind.i64.wrap (k - 1)).toNat < s_.length) <|
  if (s_.getD k.toNat default) = (s_.getD ((IntKind.i64.wrap (k - 1)).toNat) default) then
   ck (0 ≤ k) <|
   ck (k.toNat ≤ s_.length) <|
   (g_slices_Compact_Sint_int_l0 s_ k (k, 1, s_)).bind fun r9_ =>
   ck (0 ≤ r9_.1) <|
   ck (r9_.1.toNat ≤ r9_.2.length) <|
   ck (r9_.1.toNat + (r9_.2.length - r9_.1.toNat) ≤ r9_.2.length) <|
   ck (r9_.1.toNat ≤ (spl r9_.2 r9_.1.toNat (List.replicate (r9_.2.length - r9_.1.toNat) 0)).length) <|
   some (Sum.inr (Sum.inl ((spl r9_.2 r9_.1.toNat (List.replicate (r9_.2.length - r9_.1.toNat) 0)).take r9_.1.toNat)))
  else
   some (Sum.inl (IntKind.i64.wrap (k + 1)))
 else
  some (Sum.inr (Sum.inr ()))
noncomputable def g_slices_Compact_Sint_int_l1 (s_ : List Int) (v : Int) : Option (((List Int)) ⊕ Unit) := itO (fun v => g_slices_Compact_Sint_int_l1_S s_ v) v
noncomputable def g_slices_Compact_Sint_int (s_ : List Int) : Option ((List Int)) :=
 if (s_.length : Int) < 2 then
  some s_
 else
  (g_slices_Compact_Sint_int_l1 s_ 1).bind fun r3_ =>
  match r3_ with
  | .inl q3_ =>
   some q3_
  | .inr q3_ =>
   some s_
/-- slices.Compact[[]int,int] -/
def k103_l0b : SC :=
 .seq
 (.seq
 (.ops [
 ⟨(some 29), (.move (.tmp 5)), 3, none⟩,
 ⟨(some 30), (.move (.tmp 4)), 23, none⟩,
 ⟨(some 31), (.call ⟨(.builtin .len), #[(.tmp 30)], #[23]⟩), 3, none⟩,
 ⟨(some 32), (.binOp .lss 3 (.tmp 29) (.tmp 31) 3), 4, none⟩])
 (.cond (.tmp 32)
 .skip
 (.exit 2)))
 (.seq
 (.block 3
 (.seq
 (.draws [
 (⟨[35, 4, 4], [35, 36, 37, 38, 39, 40, 41, 42, 43, 44], [35]⟩, ⟨(some 35), (.move (.tmp 4)), 23, none⟩),
 (⟨[36, 5, 5], [35, 36, 37, 38, 39, 40, 41, 42, 43, 44], [36]⟩, ⟨(some 36), (.move (.tmp 5)), 3, none⟩),
 (⟨[37, 35, 36, 4, 5], [35, 36, 37, 38, 39, 40, 41, 42, 43, 44], [37]⟩, ⟨(some 37), (.indexAddr 23 (.tmp 35) (.tmp 36)), 0, none⟩),
 (⟨[38, 37, 4], [35, 36, 37, 38, 39, 40, 41, 42, 43, 44], [38]⟩, ⟨(some 38), (.load 3 (.tmp 37)), 3, none⟩),
 (⟨[39, 4, 4], [35, 36, 37, 38, 39, 40, 41, 42, 43, 44], [39]⟩, ⟨(some 39), (.move (.tmp 4)), 23, none⟩),
 (⟨[40, 5, 5], [35, 36, 37, 38, 39, 40, 41, 42, 43, 44], [40]⟩, ⟨(some 40), (.move (.tmp 5)), 3, none⟩),
 (⟨[41, 40, 5], [35, 36, 37, 38, 39, 40, 41, 42, 43, 44], [41]⟩, ⟨(some 41), (.binOp .sub 3 (.tmp 40) (.const (.int .i64 1)) 3), 3, none⟩),
 (⟨[42, 39, 41, 4, 41], [35, 36, 37, 38, 39, 40, 41, 42, 43, 44], [42]⟩, ⟨(some 42), (.indexAddr 23 (.tmp 39) (.tmp 41)), 0, none⟩),
 (⟨[43, 42, 4], [35, 36, 37, 38, 39, 40, 41, 42, 43, 44], [43]⟩, ⟨(some 43), (.load 3 (.tmp 42)), 3, none⟩),
 (⟨[44, 38, 43, 4, 4], [35, 36, 37, 38, 39, 40, 41, 42, 43, 44], [44]⟩, ⟨(some 44), (.binOp .neq 3 (.tmp 38) (.tmp 43) 3), 4, none⟩)])
 (.cond (.tmp 44)
 (.seq
 (.ops [
 ⟨(some 45), (.move (.tmp 0)), 23, none⟩,
 ⟨(some 46), (.move (.tmp 3)), 3, none⟩,
 ⟨(some 47), (.move (.tmp 4)), 23, none⟩,
 ⟨(some 48), (.move (.tmp 5)), 3, none⟩,
 ⟨(some 49), (.indexAddr 23 (.tmp 47) (.tmp 48)), 0, none⟩,
 ⟨(some 50), (.load 3 (.tmp 49)), 3, none⟩,
 ⟨(some 51), (.indexAddr 23 (.tmp 45) (.tmp 46)), 0, none⟩,
 ⟨none, (.store 3 (.tmp 51) (.tmp 50)), 0, none⟩])
 (.ops [
 ⟨(some 52), (.move (.tmp 3)), 3, none⟩,
 ⟨(some 53), (.binOp .add 3 (.tmp 52) (.const (.int .i64 1)) 3), 3, none⟩,
 ⟨(some 3), (.assign (.tmp 53)), 3, none⟩]))
 .skip)))
 (.ops [
 ⟨(some 33), (.move (.tmp 5)), 3, none⟩,
 ⟨(some 34), (.binOp .add 3 (.tmp 33) (.const (.int .i64 1)) 3), 3, none⟩,
 ⟨(some 5), (.assign (.tmp 34)), 3, none⟩]))
def k103_l0 : SC := .loop k103_l0b
def k103_l1b : SC :=
 .seq
 (.seq
 (.ops [
 ⟨(some 10), (.move (.tmp 3)), 3, none⟩,
 ⟨(some 11), (.move (.tmp 0)), 23, none⟩,
 ⟨(some 12), (.call ⟨(.builtin .len), #[(.tmp 11)], #[23]⟩), 3, none⟩,
 ⟨(some 13), (.binOp .lss 3 (.tmp 10) (.tmp 12) 3), 4, none⟩])
 (.cond (.tmp 13)
 .skip
 (.exit 0)))
 (.seq
 (.block 1
 (.seq
 (.draws [
 (⟨[16, 0, 0], [16, 17, 18, 19, 20, 21, 22, 23, 24, 25], [16]⟩, ⟨(some 16), (.move (.tmp 0)), 23, none⟩),
 (⟨[17, 3, 3], [16, 17, 18, 19, 20, 21, 22, 23, 24, 25], [17]⟩, ⟨(some 17), (.move (.tmp 3)), 3, none⟩),
 (⟨[18, 16, 17, 0, 3], [16, 17, 18, 19, 20, 21, 22, 23, 24, 25], [18]⟩, ⟨(some 18), (.indexAddr 23 (.tmp 16) (.tmp 17)), 0, none⟩),
 (⟨[19, 18, 0], [16, 17, 18, 19, 20, 21, 22, 23, 24, 25], [19]⟩, ⟨(some 19), (.load 3 (.tmp 18)), 3, none⟩),
 (⟨[20, 0, 0], [16, 17, 18, 19, 20, 21, 22, 23, 24, 25], [20]⟩, ⟨(some 20), (.move (.tmp 0)), 23, none⟩),
 (⟨[21, 3, 3], [16, 17, 18, 19, 20, 21, 22, 23, 24, 25], [21]⟩, ⟨(some 21), (.move (.tmp 3)), 3, none⟩),
 (⟨[22, 21, 3], [16, 17, 18, 19, 20, 21, 22, 23, 24, 25], [22]⟩, ⟨(some 22), (.binOp .sub 3 (.tmp 21) (.const (.int .i64 1)) 3), 3, none⟩),
 (⟨[23, 20, 22, 0, 22], [16, 17, 18, 19, 20, 21, 22, 23, 24, 25], [23]⟩, ⟨(some 23), (.indexAddr 23 (.tmp 20) (.tmp 22)), 0, none⟩),
 (⟨[24, 23, 0], [16, 17, 18, 19, 20, 21, 22, 23, 24, 25], [24]⟩, ⟨(some 24), (.load 3 (.tmp 23)), 3, none⟩),
 (⟨[25, 19, 24, 0, 0], [16, 17, 18, 19, 20, 21, 22, 23, 24, 25], [25]⟩, ⟨(some 25), (.binOp .eql 3 (.tmp 19) (.tmp 24) 3), 4, none⟩)])
 (.cond (.tmp 25)
 (.seq
 (.ops [
 ⟨(some 26), (.move (.tmp 0)), 23, none⟩,
 ⟨(some 27), (.move (.tmp 3)), 3, none⟩,
 ⟨(some 28), (.slice 23 (.tmp 26) (some (.tmp 27)) none none), 900001, none⟩,
 ⟨(some 4), (.assign (.tmp 28)), 23, none⟩])
 (.seq
 (.seq
 (.ops [
 ⟨(some 5), (.assign (.const (.int .i64 1))), 3, none⟩])
 (.block 2
 k103_l0))
 (.seq
 (.ops [
 ⟨(some 54), (.move (.tmp 0)), 23, none⟩,
 ⟨(some 55), (.move (.tmp 3)), 3, none⟩,
 ⟨(some 56), (.slice 23 (.tmp 54) (some (.tmp 55)) none none), 900001, none⟩,
 ⟨none, (.call ⟨(.builtin .clear), #[(.tmp 56)], #[23]⟩), 0, none⟩])
 (.seq
 (.ops [
 ⟨(some 57), (.move (.tmp 0)), 23, none⟩,
 ⟨(some 58), (.move (.tmp 3)), 3, none⟩,
 ⟨(some 59), (.slice 23 (.tmp 57) none (some (.tmp 58)) none), 900002, none⟩,
 ⟨(some 2), (.assign (.tmp 59)), 23, none⟩])
 .ret))))
 .skip)))
 (.ops [
 ⟨(some 14), (.move (.tmp 3)), 3, none⟩,
 ⟨(some 15), (.binOp .add 3 (.tmp 14) (.const (.int .i64 1)) 3), 3, none⟩,
 ⟨(some 3), (.assign (.tmp 15)), 3, none⟩]))
def k103_l1 : SC := .loop k103_l1b
def k103 : SC :=
 .seq
 (.ops [
 ⟨(some 2), (.assign (.const (.slice none 0 0))), 23, none⟩])
 (.seq
 (.seq
 (.ops [
 ⟨(some 6), (.move (.tmp 0)), 23, none⟩,
 ⟨(some 7), (.call ⟨(.builtin .len), #[(.tmp 6)], #[23]⟩), 3, none⟩,
 ⟨(some 8), (.binOp .lss 3 (.tmp 7) (.const (.int .i64 2)) 3), 4, none⟩])
 (.cond (.tmp 8)
 (.seq
 (.ops [
 ⟨(some 9), (.move (.tmp 0)), 23, none⟩,
 ⟨(some 2), (.assign (.tmp 9)), 23, none⟩])
 .ret)
 .skip))
 (.seq
 (.seq
 (.ops [
 ⟨(some 3), (.assign (.const (.int .i64 1))), 3, none⟩])
 (.block 0
 k103_l1))
 (.seq
 (.ops [
 ⟨(some 60), (.move (.tmp 0)), 23, none⟩,
 ⟨(some 2), (.assign (.tmp 60)), 23, none⟩])
 .ret)))
theorem slim103 : Try.f103.body.map (slim lends) = some k103 := by kernel_rfl
theorem ok103 : fnOk Try.f103 1 = true := by kernel_rfl
theorem c103 {a l : List D} {r : D × List D} (h : wpD Y.env k103 (fin tys l.length [ResultVar.tmp 2] r) (entry a l)) (ha : a.length = 1) : Y.call 103 a l = some r :=
 call_slim (Y := Y) rfl Try.func103 (ha ▸ ok103) slim103 h
def g_slices_Compact_Sint_int_l0_M (s_ : List Int) (k : Int) (k1 : Int) (k2 : Int) (t100000_ : List Int) (s : St) : Prop := (∃ w_, s.v 0 = D.vw [100000] (s.k 100000) w_) ∧ s.v 3 = D.int .i64 k1 ∧ (∃ w_, s.v 4 = D.vs 3 [100000] (s.k 100000) w_ k.toNat (s_.length - k.toNat)) ∧ s.v 5 = D.int .i64 k2 ∧ s.v 100000 = D.own 3 (lst (D.int .i64) t100000_)
def g_slices_Compact_Sint_int_l0_X (s_ : List Int) (k : Int) (r : Int × (List Int)) (ex : Ex) (s : St) : Prop := ex = .exit 2 ∧ (∃ w_, s.v 0 = D.vw [100000] (s.k 100000) w_) ∧ s.v 3 = D.int .i64 r.1 ∧ s.v 100000 = D.own 3 (lst (D.int .i64) r.2)
theorem g_slices_Compact_Sint_int_l0_wp (s_ : List Int) (k : Int) {v : Int × Int × (List Int)} {s : St} {r : Int × (List Int)} (h : g_slices_Compact_Sint_int_l0 s_ k v = some r) (hM : g_slices_Compact_Sint_int_l0_M s_ k v.1 v.2.1 v.2.2 s) : wpD Y.env k103_l0 (g_slices_Compact_Sint_int_l0_X s_ k r) s := by
 unfold g_slices_Compact_Sint_int_l0 at h
 refine wd_itO (c := k103_l0b) (fun v => g_slices_Compact_Sint_int_l0_S s_ k v.1 v.2.1 v.2.2) (fun v s => g_slices_Compact_Sint_int_l0_M s_ k v.1 v.2.1 v.2.2 s) (g_slices_Compact_Sint_int_l0_X s_ k) ?_ h hM
 clear h hM s v r
 intro v s o hM h
 obtain ⟨k1, k2, t100000_⟩ := v
 dsimp only at h hM
 unfold g_slices_Compact_Sint_int_l0_S at h
 unfold g_slices_Compact_Sint_int_l0_M at hM
 obtain ⟨⟨w0_, m0⟩, m1, ⟨w2_, m2⟩, m3, m4⟩ := hM
 unfold k103_l0b
 by_cases e8 : k2 < (((s_.length - k.toNat) : Nat) : Int)
 ·rw [if_pos e8] at h
  obtain ⟨e9, h⟩ := ckS h
  obtain ⟨e10, h⟩ := ckS h
  obtain ⟨e11, h⟩ := ckS h
  obtain ⟨e12, h⟩ := ckS h
  obtain ⟨e13, h⟩ := ckS h
  by_cases e14 : (t100000_.getD (k.toNat + k2.toNat) default) = (t100000_.getD (k.toNat + (IntKind.i64.wrap (k2 - 1)).toNat) default)
  ·rw [if_pos e14] at h
   obtain rfl := Option.some.inj h
   simp (maxDischargeDepth := 9) only [↓xpre, xpost, xlst, xc2, xcore, yset, rg0, ↓reduceIte, Nat.reduceEqDiff, Nat.reduceLT, Nat.reduceLeDiff, Nat.reduceAdd, Nat.reduceMul, Nat.reduceMod, Nat.reduceSub, Nat.reduceBEq, Int.reduceLE, Int.reduceLT, Int.reduceEq, Int.reduceSub, Int.reduceAdd, Int.reduceToNat, Int.reduceNeg, m0, m1, m2, m3, m4, e8, e9.1, e9.2, e10, e11, e12.1, e12.2, e13, decide_eq_true e14, g_slices_Compact_Sint_int_l0_M, g_slices_Compact_Sint_int_l0_X, sxN, sxE, sxR] <;> (repeat' apply And.intro) <;> first | rfl | exact ⟨_, rfl⟩ | simp [lst, cat2_nil]
  ·rw [if_neg e14] at h
   obtain ⟨e15, h⟩ := ckS h
   obtain rfl := Option.some.inj h
   simp (maxDischargeDepth := 9) only [↓xpre, xpost, xlst, xc2, xcore, yset, rg0, ↓reduceIte, Nat.reduceEqDiff, Nat.reduceLT, Nat.reduceLeDiff, Nat.reduceAdd, Nat.reduceMul, Nat.reduceMod, Nat.reduceSub, Nat.reduceBEq, Int.reduceLE, Int.reduceLT, Int.reduceEq, Int.reduceSub, Int.reduceAdd, Int.reduceToNat, Int.reduceNeg, m0, m1, m2, m3, m4, e8, e9.1, e9.2, e10, e11, e12.1, e12.2, e13, e14, e15.1, e15.2, g_slices_Compact_Sint_int_l0_M, g_slices_Compact_Sint_int_l0_X, sxN, sxE, sxR] <;> (repeat' apply And.intro) <;> first | rfl | exact ⟨_, rfl⟩ | simp [lst, cat2_nil]
 ·rw [if_neg e8] at h
  obtain rfl := Option.some.inj h
  simp (maxDischargeDepth := 9) only [↓xpre, xpost, xlst, xc2, xcore, yset, rg0, ↓reduceIte, Nat.reduceEqDiff, Nat.reduceLT, Nat.reduceLeDiff, Nat.reduceAdd, Nat.reduceMul, Nat.reduceMod, Nat.reduceSub, Nat.reduceBEq, Int.reduceLE, Int.reduceLT, Int.reduceEq, Int.reduceSub, Int.reduceAdd, Int.reduceToNat, Int.reduceNeg, m0, m1, m2, m3, m4, e8, g_slices_Compact_Sint_int_l0_M, g_slices_Compact_Sint_int_l0_X, sxN, sxE, sxR] <;> (repeat' apply And.intro) <;> first | rfl | exact ⟨_, rfl⟩ | simp [lst, cat2_nil]
def g_slices_Compact_Sint_int_l1_M (s_ : List Int) (k : Int) (s : St) : Prop := (∃ w_, s.v 0 = D.vw [100000] (s.k 100000) w_) ∧ s.v 3 = D.int .i64 k ∧ s.v 100000 = D.own 3 (lst (D.int .i64) s_)
def g_slices_Compact_Sint_int_l1_X (s_ : List Int) (r : ((List Int)) ⊕ Unit) (ex : Ex) (s : St) : Prop := match r with
 | .inl q => ex = .ret ∧ s.v 2 = D.own 3 (lst (D.int .i64) q) ∧ s.v 100000 = D.undef
 | .inr q => ex = .exit 0 ∧ (∃ w_, s.v 0 = D.vw [100000] (s.k 100000) w_) ∧ s.v 100000 = D.own 3 (lst (D.int .i64) s_)
theorem g_slices_Compact_Sint_int_l1_wp (s_ : List Int) {v : Int} {s : St} {r : ((List Int)) ⊕ Unit} (h : g_slices_Compact_Sint_int_l1 s_ v = some r) (hM : g_slices_Compact_Sint_int_l1_M s_ v s) : wpD Y.env k103_l1 (g_slices_Compact_Sint_int_l1_X s_ r) s := by
 unfold g_slices_Compact_Sint_int_l1 at h
 refine wd_itO (c := k103_l1b) (fun v => g_slices_Compact_Sint_int_l1_S s_ v) (fun v s => g_slices_Compact_Sint_int_l1_M s_ v s) (g_slices_Compact_Sint_int_l1_X s_) ?_ h hM
 clear h hM s v r
 intro k s o hM h
 unfold g_slices_Compact_Sint_int_l1_S at h
 unfold g_slices_Compact_Sint_int_l1_M at hM
 obtain ⟨⟨w0_, m0⟩, m1, m2⟩ := hM
 unfold k103_l1b
 by_cases e2 : k < (s_.length : Int)
 ·rw [if_pos e2] at h
  obtain ⟨e3, h⟩ := ckS h
  obtain ⟨e4, h⟩ := ckS h
  by_cases e5 : (s_.getD k.toNat default) = (s_.getD ((IntKind.i64.wrap (k - 1)).toNat) default)
  ·rw [if_pos e5] at h
   obtain ⟨e6, h⟩ := ckS h
   obtain ⟨e7, h⟩ := ckS h
   obtain ⟨r9_, hl9, h⟩ := bindS h
   try dsimp only at h
   simp (maxDischargeDepth := 9) only [↓xpre, xpost, xlst, xc2, xcore, yset, rg0, ↓reduceIte, Nat.reduceEqDiff, Nat.reduceLT, Nat.reduceLeDiff, Nat.reduceAdd, Nat.reduceMul, Nat.reduceMod, Nat.reduceSub, Nat.reduceBEq, Int.reduceLE, Int.reduceLT, Int.reduceEq, Int.reduceSub, Int.reduceAdd, Int.reduceToNat, Int.reduceNeg, m0, m1, m2, e2, e3.1, e3.2, e4.1, e4.2, decide_eq_true e5, e6, e7]
   refine wd_mono (g_slices_Compact_Sint_int_l0_wp s_ k hl9 ?_) ?_
   ·simp (maxDischargeDepth := 9) only [↓xpre, xpost, xlst, xc2, xcore, yset, rg0, ↓reduceIte, Nat.reduceEqDiff, Nat.reduceLT, Nat.reduceLeDiff, Nat.reduceAdd, Nat.reduceMul, Nat.reduceMod, Nat.reduceSub, Nat.reduceBEq, Int.reduceLE, Int.reduceLT, Int.reduceEq, Int.reduceSub, Int.reduceAdd, Int.reduceToNat, Int.reduceNeg, m0, m1, m2, e2, e3.1, e3.2, e4.1, e4.2, decide_eq_true e5, e6, e7, g_slices_Compact_Sint_int_l0_M] <;> (repeat' apply And.intro) <;> first | rfl | exact ⟨_, rfl⟩ | simp [lst, cat2_nil]
   ·intro ex9 s9 hX9
    unfold g_slices_Compact_Sint_int_l0_X at hX9
    obtain ⟨rfl, ⟨w0_, n9_0⟩, n9_1, n9_2⟩ := hX9
    obtain ⟨e10, h⟩ := ckS h
    obtain ⟨e11, h⟩ := ckS h
    obtain ⟨e12, h⟩ := ckS h
    obtain ⟨e13, h⟩ := ckS h
    obtain rfl := Option.some.inj h
    simp (maxDischargeDepth := 9) only [↓xpre, xpost, xlst, xc2, xcore, yset, rg0, ↓reduceIte, Nat.reduceEqDiff, Nat.reduceLT, Nat.reduceLeDiff, Nat.reduceAdd, Nat.reduceMul, Nat.reduceMod, Nat.reduceSub, Nat.reduceBEq, Int.reduceLE, Int.reduceLT, Int.reduceEq, Int.reduceSub, Int.reduceAdd, Int.reduceToNat, Int.reduceNeg, e2, e3.1, e3.2, e4.1, e4.2, decide_eq_true e5, e6, e7, n9_0, n9_1, n9_2, e10, e11, e12, e13, g_slices_Compact_Sint_int_l1_M, g_slices_Compact_Sint_int_l1_X, sxN, sxE, sxR] <;> (repeat' apply And.intro) <;> first | rfl | exact ⟨_, rfl⟩ | simp [lst, cat2_nil]
  ·rw [if_neg e5] at h
   obtain rfl := Option.some.inj h
   simp (maxDischargeDepth := 9) only [↓xpre, xpost, xlst, xc2, xcore, yset, rg0, ↓reduceIte, Nat.reduceEqDiff, Nat.reduceLT, Nat.reduceLeDiff, Nat.reduceAdd, Nat.reduceMul, Nat.reduceMod, Nat.reduceSub, Nat.reduceBEq, Int.reduceLE, Int.reduceLT, Int.reduceEq, Int.reduceSub, Int.reduceAdd, Int.reduceToNat, Int.reduceNeg, m0, m1, m2, e2, e3.1, e3.2, e4.1, e4.2, e5, g_slices_Compact_Sint_int_l1_M, g_slices_Compact_Sint_int_l1_X, sxN, sxE, sxR] <;> (repeat' apply And.intro) <;> first | rfl | exact ⟨_, rfl⟩ | simp [lst, cat2_nil]
 ·rw [if_neg e2] at h
  obtain rfl := Option.some.inj h
  simp (maxDischargeDepth := 9) only [↓xpre, xpost, xlst, xc2, xcore, yset, rg0, ↓reduceIte, Nat.reduceEqDiff, Nat.reduceLT, Nat.reduceLeDiff, Nat.reduceAdd, Nat.reduceMul, Nat.reduceMod, Nat.reduceSub, Nat.reduceBEq, Int.reduceLE, Int.reduceLT, Int.reduceEq, Int.reduceSub, Int.reduceAdd, Int.reduceToNat, Int.reduceNeg, m0, m1, m2, e2, g_slices_Compact_Sint_int_l1_M, g_slices_Compact_Sint_int_l1_X, sxN, sxE, sxR] <;> (repeat' apply And.intro) <;> first | rfl | exact ⟨_, rfl⟩ | simp [lst, cat2_nil]
theorem g_slices_Compact_Sint_int_call (s_ : List Int) {r : (List Int)} (h : g_slices_Compact_Sint_int s_ = some r) : Y.call 103 [D.vw [100000] 0 0] [D.own 3 (lst (D.int .i64) s_)] = some (D.own 3 (lst (D.int .i64) r), [D.undef]) := by
 refine c103 ?_ rfl
 unfold k103
 unfold g_slices_Compact_Sint_int at h
 by_cases e1 : (s_.length : Int) < 2
 ·rw [if_pos e1] at h
  obtain rfl := Option.some.inj h
  simp (maxDischargeDepth := 9) only [↓xpre, xpost, xlst, xc2, xcore, yset, rg0, ↓reduceIte, Nat.reduceEqDiff, Nat.reduceLT, Nat.reduceLeDiff, Nat.reduceAdd, Nat.reduceMul, Nat.reduceMod, Nat.reduceSub, Nat.reduceBEq, Int.reduceLE, Int.reduceLT, Int.reduceEq, Int.reduceSub, Int.reduceAdd, Int.reduceToNat, Int.reduceNeg, e1] <;> (repeat' apply And.intro) <;> first | rfl | exact ⟨_, rfl⟩ | simp [lst, cat2_nil]
 ·rw [if_neg e1] at h
  obtain ⟨r3_, hl3, h⟩ := bindS h
  try dsimp only at h
  simp (maxDischargeDepth := 9) only [↓xpre, xpost, xlst, xc2, xcore, yset, rg0, ↓reduceIte, Nat.reduceEqDiff, Nat.reduceLT, Nat.reduceLeDiff, Nat.reduceAdd, Nat.reduceMul, Nat.reduceMod, Nat.reduceSub, Nat.reduceBEq, Int.reduceLE, Int.reduceLT, Int.reduceEq, Int.reduceSub, Int.reduceAdd, Int.reduceToNat, Int.reduceNeg, e1]
  refine wd_mono (g_slices_Compact_Sint_int_l1_wp s_ hl3 ?_) ?_
  ·simp (maxDischargeDepth := 9) only [↓xpre, xpost, xlst, xc2, xcore, yset, rg0, ↓reduceIte, Nat.reduceEqDiff, Nat.reduceLT, Nat.reduceLeDiff, Nat.reduceAdd, Nat.reduceMul, Nat.reduceMod, Nat.reduceSub, Nat.reduceBEq, Int.reduceLE, Int.reduceLT, Int.reduceEq, Int.reduceSub, Int.reduceAdd, Int.reduceToNat, Int.reduceNeg, e1, g_slices_Compact_Sint_int_l1_M] <;> (repeat' apply And.intro) <;> first | rfl | exact ⟨_, rfl⟩ | simp [lst, cat2_nil]
  ·intro ex3 s3 hX3
   rcases r3_ with q3_ | q3_
   ·unfold g_slices_Compact_Sint_int_l1_X at hX3
    dsimp only at hX3 h
    obtain ⟨rfl, n3_0, n3_1⟩ := hX3
    obtain rfl := Option.some.inj h
    simp (maxDischargeDepth := 9) only [↓xpre, xpost, xlst, xc2, xcore, yset, rg0, ↓reduceIte, Nat.reduceEqDiff, Nat.reduceLT, Nat.reduceLeDiff, Nat.reduceAdd, Nat.reduceMul, Nat.reduceMod, Nat.reduceSub, Nat.reduceBEq, Int.reduceLE, Int.reduceLT, Int.reduceEq, Int.reduceSub, Int.reduceAdd, Int.reduceToNat, Int.reduceNeg, e1, n3_0, n3_1] <;> (repeat' apply And.intro) <;> first | rfl | exact ⟨_, rfl⟩ | simp [lst, cat2_nil]
   ·unfold g_slices_Compact_Sint_int_l1_X at hX3
    dsimp only at hX3 h
    obtain ⟨rfl, ⟨w0_, n3_0⟩, n3_1⟩ := hX3
    obtain rfl := Option.some.inj h
    simp (maxDischargeDepth := 9) only [↓xpre, xpost, xlst, xc2, xcore, yset, rg0, ↓reduceIte, Nat.reduceEqDiff, Nat.reduceLT, Nat.reduceLeDiff, Nat.reduceAdd, Nat.reduceMul, Nat.reduceMod, Nat.reduceSub, Nat.reduceBEq, Int.reduceLE, Int.reduceLT, Int.reduceEq, Int.reduceSub, Int.reduceAdd, Int.reduceToNat, Int.reduceNeg, e1, n3_0, n3_1] <;> (repeat' apply And.intro) <;> first | rfl | exact ⟨_, rfl⟩ | simp [lst, cat2_nil]

noncomputable def i_meets (n_Ends : List (List (Int × Int))) (n_Ids : List Int) (n_Inputs : List Int) (task : Int) (outputs : List Int) : Option (Bool) :=
 if task = 1 then
  (g_slices_Values_Sint_int outputs).bind fun r2_ =>
  ck (r2_.length < 1099511627776) <|
  ck (0 ≤ IntKind.i64.wrap (((sortM r2_).length : Int) - 1) ∧ (IntKind.i64.wrap (((sortM r2_).length : Int) - 1)).toNat < (sortM r2_).length) <|
  if ((sortM r2_).getD ((IntKind.i64.wrap (((sortM r2_).length : Int) - 1)).toNat) default) = 1 then
   if (IntKind.i64.wrap (((sortM r2_).length : Int) - 1)) = 0 then
    ck (0 < (sortM r2_).length) <|
    some (decide (0 ≤ ((sortM r2_).getD 0 default)))
   else
    ck (0 ≤ IntKind.i64.wrap ((IntKind.i64.wrap (((sortM r2_).length : Int) - 1)) - 1) ∧ (IntKind.i64.wrap ((IntKind.i64.wrap (((sortM r2_).length : Int) - 1)) - 1)).toNat < (sortM r2_).length) <|
    if ((sortM r2_).getD ((IntKind.i64.wrap ((IntKind.i64.wrap (((sortM r2_).length : Int) - 1)) - 1)).toNat) default) = 0 then
     ck (0 < (sortM r2_).length) <|
     some (decide (0 ≤ ((sortM r2_).getD 0 default)))
    else
     some false
  else
   some false
 else
  if task = 2 then
   (i_Network_edges n_Ends n_Ids n_Inputs).bind fun r3_ =>
   (g_slices_ContainsFunc_Sloop_example_g01084_impl_edge_loop_example_g01084_impl_edge r3_ (fun a0_0 a0_1 a0_2 a0_3 => i_meets_1 a0_0 a0_1 a0_2 a0_3 outputs)).bind fun r4_ =>
   some (!r4_)
  else
   (g_slices_Values_Sint_int outputs).bind fun r3_ =>
   ck (r3_.length < 1099511627776) <|
   (g_slices_Compact_Sint_int (sortM r3_)).bind fun r6_ =>
   some (decide ((r6_.length : Int) = (outputs.length : Int)))
/-- impl.meets -/
def k60 : SC :=
 .seq
 (.ops [
 ⟨(some 3), (.box 29 (.tmp 0)), 0, none⟩,
 ⟨(some 5), (.box 23 (.tmp 2)), 0, none⟩,
 ⟨(some 6), (.assign (.const (.bool false))), 4, none⟩])
 (.seq
 (.seq
 (.ops [
 ⟨(some 10), (.move (.tmp 1)), 3, none⟩])
 (.block 0
 (.seq
 (.ops [
 ⟨(some 12), (.binOp .eql 3 (.tmp 10) (.const (.int .i64 1)) 3), 4, none⟩,
 ⟨(some 11), (.assign (.tmp 12)), 4, none⟩])
 (.cond (.tmp 11)
 (.seq
 (.ops [
 ⟨(some 13), (.load 23 (.tmp 5)), 23, none⟩,
 ⟨(some 14), (.call ⟨(.value (.func 44)), #[(.tmp 13)], #[23]⟩), 72, none⟩,
 ⟨(some 15), (.call ⟨(.value (.func 43)), #[(.tmp 14)], #[72]⟩), 23, none⟩,
 ⟨(some 7), (.assign (.tmp 15)), 23, none⟩])
 (.seq
 (.ops [
 ⟨(some 16), (.move (.tmp 7)), 23, none⟩,
 ⟨(some 17), (.call ⟨(.builtin .len), #[(.tmp 16)], #[23]⟩), 3, none⟩,
 ⟨(some 18), (.binOp .sub 3 (.tmp 17) (.const (.int .i64 1)) 3), 3, none⟩,
 ⟨(some 8), (.assign (.tmp 18)), 3, none⟩])
 (.seq
 (.ops [
 ⟨(some 19), (.move (.tmp 7)), 23, none⟩,
 ⟨(some 20), (.move (.tmp 8)), 3, none⟩,
 ⟨(some 21), (.indexAddr 23 (.tmp 19) (.tmp 20)), 0, none⟩,
 ⟨(some 22), (.load 3 (.tmp 21)), 3, none⟩,
 ⟨(some 23), (.binOp .eql 3 (.tmp 22) (.const (.int .i64 1)) 3), 4, none⟩,
 ⟨(some 24), (.move (.tmp 23)), 4, none⟩,
 ⟨(some 25), (.move (.tmp 8)), 3, (some (some 24, true))⟩,
 ⟨(some 26), (.binOp .eql 3 (.tmp 25) (.const (.int .i64 0)) 3), 4, (some (some 24, true))⟩,
 ⟨(some 27), (.move (.tmp 26)), 4, (some (some 24, true))⟩,
 ⟨(some 28), (.move (.tmp 7)), 23, (some (some 27, false))⟩,
 ⟨(some 29), (.move (.tmp 8)), 3, (some (some 27, false))⟩,
 ⟨(some 30), (.binOp .sub 3 (.tmp 29) (.const (.int .i64 1)) 3), 3, (some (some 27, false))⟩,
 ⟨(some 31), (.indexAddr 23 (.tmp 28) (.tmp 30)), 0, (some (some 27, false))⟩,
 ⟨(some 32), (.load 3 (.tmp 31)), 3, (some (some 27, false))⟩,
 ⟨(some 33), (.binOp .eql 3 (.tmp 32) (.const (.int .i64 0)) 3), 4, (some (some 27, false))⟩,
 ⟨(some 34), (.pick (.tmp 27) (.const (.bool true)) (.tmp 33)), 4, (some (some 24, true))⟩,
 ⟨(some 35), (.pick (.tmp 24) (.tmp 34) (.const (.bool false))), 4, none⟩,
 ⟨(some 36), (.move (.tmp 35)), 4, none⟩,
 ⟨(some 37), (.move (.tmp 7)), 23, (some (some 36, true))⟩,
 ⟨(some 38), (.indexAddr 23 (.tmp 37) (.const (.int .i64 0))), 0, (some (some 36, true))⟩,
 ⟨(some 39), (.load 3 (.tmp 38)), 3, (some (some 36, true))⟩,
 ⟨(some 40), (.binOp .geq 3 (.tmp 39) (.const (.int .i64 0)) 3), 4, (some (some 36, true))⟩,
 ⟨(some 41), (.pick (.tmp 36) (.tmp 40) (.const (.bool false))), 4, none⟩,
 ⟨(some 6), (.assign (.tmp 41)), 4, none⟩])
 .ret)))
 (.seq
 (.ops [
 ⟨(some 43), (.binOp .eql 3 (.tmp 10) (.const (.int .i64 2)) 3), 4, none⟩,
 ⟨(some 42), (.assign (.tmp 43)), 4, none⟩])
 (.cond (.tmp 42)
 (.seq
 (.ops [
 ⟨(some 44), (.load 29 (.tmp 3)), 29, none⟩,
 ⟨(some 45), (.call ⟨(.value (.func 101)), #[(.tmp 44)], #[29]⟩), 113, none⟩,
 ⟨(some 46), (.makeFunc (Fn.func 102) #[] #[(.tmp 5)]), 117, none⟩,
 ⟨(some 47), (.call ⟨(.value (.func 100)), #[(.tmp 45), (.tmp 46)], #[113, 117]⟩), 4, none⟩,
 ⟨(some 48), (.unOp .not 4 (.tmp 47)), 4, none⟩,
 ⟨(some 6), (.assign (.tmp 48)), 4, none⟩])
 .ret)
 .skip))))))
 (.seq
 (.ops [
 ⟨(some 49), (.load 23 (.tmp 5)), 23, none⟩,
 ⟨(some 50), (.call ⟨(.value (.func 44)), #[(.tmp 49)], #[23]⟩), 72, none⟩,
 ⟨(some 51), (.call ⟨(.value (.func 43)), #[(.tmp 50)], #[72]⟩), 23, none⟩,
 ⟨(some 9), (.assign (.tmp 51)), 23, none⟩])
 (.seq
 (.draws [
 (⟨[52, 9, 9], [52, 53, 52, 9, 54, 55, 56, 57, 6, 57, 57], [52]⟩, ⟨(some 52), (.move (.tmp 9)), 23, none⟩),
 (⟨[53, 52, 9], [52, 53, 52, 9, 54, 55, 56, 57, 6, 57, 57], [53, 52, 9]⟩, ⟨(some 53), (.call ⟨(.value (.func 103)), #[(.tmp 52)], #[23]⟩), 23, none⟩),
 (⟨[54, 53, 53], [52, 53, 52, 9, 54, 55, 56, 57, 6, 57, 57], [54]⟩, ⟨(some 54), (.call ⟨(.builtin .len), #[(.tmp 53)], #[23]⟩), 3, none⟩),
 (⟨[55, 5, 5], [52, 53, 52, 9, 54, 55, 56, 57, 6, 57, 57], [55]⟩, ⟨(some 55), (.load 23 (.tmp 5)), 23, none⟩),
 (⟨[56, 55, 5], [52, 53, 52, 9, 54, 55, 56, 57, 6, 57, 57], [56]⟩, ⟨(some 56), (.call ⟨(.builtin .len), #[(.tmp 55)], #[23]⟩), 3, none⟩),
 (⟨[57, 54, 56, 54, 56], [52, 53, 52, 9, 54, 55, 56, 57, 6, 57, 57], [57]⟩, ⟨(some 57), (.binOp .eql 3 (.tmp 54) (.tmp 56) 3), 4, none⟩),
 (⟨[6, 57, 57], [52, 53, 52, 9, 54, 55, 56, 57, 6, 57, 57], [6, 57, 57]⟩, ⟨(some 6), (.assign (.tmp 57)), 4, none⟩)])
 .ret)))
theorem slim60 : Try.f60.body.map (slim lends) = some k60 := by kernel_rfl
theorem ok60 : fnOk Try.f60 3 = true := by kernel_rfl
theorem c60 {a l : List D} {r : D × List D} (h : wpD Y.env k60 (fin tys l.length [ResultVar.tmp 6] r) (entry a l)) (ha : a.length = 3) : Y.call 60 a l = some r :=
 call_slim (Y := Y) rfl Try.func60 (ha ▸ ok60) slim60 h
theorem i_meets_call (n_Ends : List (List (Int × Int))) (n_Ids : List Int) (n_Inputs : List Int) (task : Int) (outputs : List Int) {r : Bool} (h : i_meets n_Ends n_Ids n_Inputs task outputs = some r) : Y.call 60 [D.agg [D.sl 93 (lst (fun x => D.sl 95 (cat2 .i64 .i64 x)) n_Ends), D.sl 3 (lst (D.int .i64) n_Ids), D.sl 3 (lst (D.int .i64) n_Inputs)], D.int .i64 task, D.sl 3 (lst (D.int .i64) outputs)] [] = some (D.bool r, []) := by
 refine c60 ?_ rfl
 unfold k60
 unfold i_meets at h
 by_cases e1 : task = 1
 ·rw [if_pos e1] at h
  obtain ⟨r2_, hl2, h⟩ := bindS h
  try dsimp only at h
  have c2 := g_slices_Values_Sint_int_call outputs hl2
  obtain ⟨e3, h⟩ := ckS h
  have c4 := sorted_43 r2_ e3
  obtain ⟨e5, h⟩ := ckS h
  by_cases e6 : ((sortM r2_).getD ((IntKind.i64.wrap (((sortM r2_).length : Int) - 1)).toNat) default) = 1
  ·rw [if_pos e6] at h
   by_cases e7 : (IntKind.i64.wrap (((sortM r2_).length : Int) - 1)) = 0
   ·rw [if_pos e7] at h
    obtain ⟨e8, h⟩ := ckS h
    obtain rfl := Option.some.inj h
    simp (maxDischargeDepth := 9) only [↓xpre, xpost, xlst, xc2, xcore, yset, rg0, ↓reduceIte, Nat.reduceEqDiff, Nat.reduceLT, Nat.reduceLeDiff, Nat.reduceAdd, Nat.reduceMul, Nat.reduceMod, Nat.reduceSub, Nat.reduceBEq, Int.reduceLE, Int.reduceLT, Int.reduceEq, Int.reduceSub, Int.reduceAdd, Int.reduceToNat, Int.reduceNeg, decide_eq_true e1, c2, e3, c4, e5.1, e5.2, decide_eq_true e6, decide_eq_true e7, e8] <;> (repeat' apply And.intro) <;> first | rfl | exact ⟨_, rfl⟩ | simp [lst, cat2_nil]
   ·rw [if_neg e7] at h
    obtain ⟨e8, h⟩ := ckS h
    by_cases e9 : ((sortM r2_).getD ((IntKind.i64.wrap ((IntKind.i64.wrap (((sortM r2_).length : Int) - 1)) - 1)).toNat) default) = 0
    ·rw [if_pos e9] at h
     obtain ⟨e10, h⟩ := ckS h
     obtain rfl := Option.some.inj h
     simp (maxDischargeDepth := 9) only [↓xpre, xpost, xlst, xc2, xcore, yset, rg0, ↓reduceIte, Nat.reduceEqDiff, Nat.reduceLT, Nat.reduceLeDiff, Nat.reduceAdd, Nat.reduceMul, Nat.reduceMod, Nat.reduceSub, Nat.reduceBEq, Int.reduceLE, Int.reduceLT, Int.reduceEq, Int.reduceSub, Int.reduceAdd, Int.reduceToNat, Int.reduceNeg, decide_eq_true e1, c2, e3, c4, e5.1, e5.2, decide_eq_true e6, e7, e8.1, e8.2, decide_eq_true e9, e10] <;> (repeat' apply And.intro) <;> first | rfl | exact ⟨_, rfl⟩ | simp [lst, cat2_nil]
    ·rw [if_neg e9] at h
     obtain rfl := Option.some.inj h
     simp (maxDischargeDepth := 9) only [↓xpre, xpost, xlst, xc2, xcore, yset, rg0, ↓reduceIte, Nat.reduceEqDiff, Nat.reduceLT, Nat.reduceLeDiff, Nat.reduceAdd, Nat.reduceMul, Nat.reduceMod, Nat.reduceSub, Nat.reduceBEq, Int.reduceLE, Int.reduceLT, Int.reduceEq, Int.reduceSub, Int.reduceAdd, Int.reduceToNat, Int.reduceNeg, decide_eq_true e1, c2, e3, c4, e5.1, e5.2, decide_eq_true e6, e7, e8.1, e8.2, e9] <;> (repeat' apply And.intro) <;> first | rfl | exact ⟨_, rfl⟩ | simp [lst, cat2_nil]
  ·rw [if_neg e6] at h
   obtain rfl := Option.some.inj h
   simp (maxDischargeDepth := 9) only [↓xpre, xpost, xlst, xc2, xcore, yset, rg0, ↓reduceIte, Nat.reduceEqDiff, Nat.reduceLT, Nat.reduceLeDiff, Nat.reduceAdd, Nat.reduceMul, Nat.reduceMod, Nat.reduceSub, Nat.reduceBEq, Int.reduceLE, Int.reduceLT, Int.reduceEq, Int.reduceSub, Int.reduceAdd, Int.reduceToNat, Int.reduceNeg, decide_eq_true e1, c2, e3, c4, e5.1, e5.2, e6] <;> (repeat' apply And.intro) <;> first | rfl | exact ⟨_, rfl⟩ | simp [lst, cat2_nil]
 ·rw [if_neg e1] at h
  by_cases e2 : task = 2
  ·rw [if_pos e2] at h
   obtain ⟨r3_, hl3, h⟩ := bindS h
   try dsimp only at h
   have c3 := i_Network_edges_call n_Ends n_Ids n_Inputs hl3
   obtain ⟨r4_, hl4, h⟩ := bindS h
   try dsimp only at h
   have c4 := g_slices_ContainsFunc_Sloop_example_g01084_impl_edge_loop_example_g01084_impl_edge_call r3_ (fun a0_0 a0_1 a0_2 a0_3 => i_meets_1 a0_0 a0_1 a0_2 a0_3 outputs) 102 [D.cptr [D.sl 3 (lst (D.int .i64) outputs)]] (fun a0_0 a0_1 a0_2 a0_3 _ hh => i_meets_1_call a0_0 a0_1 a0_2 a0_3 outputs hh) le102 hl4
   obtain rfl := Option.some.inj h
   simp (maxDischargeDepth := 9) only [↓xpre, xpost, xlst, xc2, xcore, yset, rg0, ↓reduceIte, Nat.reduceEqDiff, Nat.reduceLT, Nat.reduceLeDiff, Nat.reduceAdd, Nat.reduceMul, Nat.reduceMod, Nat.reduceSub, Nat.reduceBEq, Int.reduceLE, Int.reduceLT, Int.reduceEq, Int.reduceSub, Int.reduceAdd, Int.reduceToNat, Int.reduceNeg, e1, decide_eq_true e2, c3, c4] <;> (repeat' apply And.intro) <;> first | rfl | exact ⟨_, rfl⟩ | simp [lst, cat2_nil]
  ·rw [if_neg e2] at h
   obtain ⟨r3_, hl3, h⟩ := bindS h
   try dsimp only at h
   have c3 := g_slices_Values_Sint_int_call outputs hl3
   obtain ⟨e4, h⟩ := ckS h
   have c5 := sorted_43 r3_ e4
   obtain ⟨r6_, hl6, h⟩ := bindS h
   try dsimp only at h
   have c6 := g_slices_Compact_Sint_int_call (sortM r3_) hl6
   obtain rfl := Option.some.inj h
   simp (maxDischargeDepth := 9) only [↓xpre, xpost, xlst, xc2, xcore, yset, rg0, ↓reduceIte, Nat.reduceEqDiff, Nat.reduceLT, Nat.reduceLeDiff, Nat.reduceAdd, Nat.reduceMul, Nat.reduceMod, Nat.reduceSub, Nat.reduceBEq, Int.reduceLE, Int.reduceLT, Int.reduceEq, Int.reduceSub, Int.reduceAdd, Int.reduceToNat, Int.reduceNeg, e1, e2, c3, e4, c5, c6] <;> (repeat' apply And.intro) <;> first | rfl | exact ⟨_, rfl⟩ | simp [lst, cat2_nil]

noncomputable def i_MeetsTask (n_Ends : List (List (Int × Int))) (n_Ids : List Int) (n_Inputs : List Int) (task : Int) (outputs : List Int) : Option (Bool × Bool) :=
 ck (ShortE n_Ends) <|
 ck (n_Ids.length < 1099511627776) <|
 ck (n_Inputs.length < 1099511627776) <|
 if (isNet n_Ends n_Ids n_Inputs) = true then
  (i_isTask task).bind fun r6_ =>
  if r6_ = true then
   (i_outputsOk n_Ends n_Ids n_Inputs outputs).bind fun r8_ =>
   if r8_ = true then
    (i_meets n_Ends n_Ids n_Inputs task outputs).bind fun r10_ =>
    some (r10_, true)
   else
    some (false, false)
  else
   some (false, false)
 else
  some (false, false)
/-- impl.MeetsTask -/
def k25 : SC :=
 .seq
 (.ops [
 ⟨(some 3), (.box 29 (.tmp 0)), 0, none⟩,
 ⟨(some 6), (.assign (.const (.bool false))), 4, none⟩,
 ⟨(some 7), (.assign (.const (.bool false))), 4, none⟩])
 (.seq
 (.seq
 (.ops [
 ⟨(some 8), (.load 29 (.tmp 3)), 29, none⟩,
 ⟨(some 9), (.call ⟨(.value (.func 42)), #[(.tmp 8)], #[29]⟩), 4, none⟩,
 ⟨(some 10), (.unOp .not 4 (.tmp 9)), 4, none⟩,
 ⟨(some 11), (.move (.tmp 10)), 4, none⟩,
 ⟨(some 12), (.move (.tmp 1)), 3, (some (some 11, false))⟩,
 ⟨(some 13), (.call ⟨(.value (.func 58)), #[(.tmp 12)], #[3]⟩), 4, (some (some 11, false))⟩,
 ⟨(some 14), (.unOp .not 4 (.tmp 13)), 4, (some (some 11, false))⟩,
 ⟨(some 15), (.pick (.tmp 11) (.const (.bool true)) (.tmp 14)), 4, none⟩,
 ⟨(some 16), (.move (.tmp 15)), 4, none⟩,
 ⟨(some 17), (.load 29 (.tmp 3)), 29, (some (some 16, false))⟩,
 ⟨(some 18), (.move (.tmp 2)), 23, (some (some 16, false))⟩,
 ⟨(some 19), (.call ⟨(.value (.func 59)), #[(.tmp 17), (.tmp 18)], #[29, 23]⟩), 4, (some (some 16, false))⟩,
 ⟨(some 20), (.unOp .not 4 (.tmp 19)), 4, (some (some 16, false))⟩,
 ⟨(some 21), (.pick (.tmp 16) (.const (.bool true)) (.tmp 20)), 4, none⟩])
 (.cond (.tmp 21)
 (.seq
 (.ops [
 ⟨(some 6), (.assign (.const (.bool false))), 4, none⟩,
 ⟨(some 7), (.assign (.const (.bool false))), 4, none⟩])
 .ret)
 .skip))
 (.seq
 (.ops [
 ⟨(some 22), (.load 29 (.tmp 3)), 29, none⟩,
 ⟨(some 23), (.move (.tmp 1)), 3, none⟩,
 ⟨(some 24), (.move (.tmp 2)), 23, none⟩,
 ⟨(some 25), (.call ⟨(.value (.func 60)), #[(.tmp 22), (.tmp 23), (.tmp 24)], #[29, 3, 23]⟩), 4, none⟩,
 ⟨(some 6), (.assign (.tmp 25)), 4, none⟩,
 ⟨(some 7), (.assign (.const (.bool true))), 4, none⟩])
 .ret))
theorem slim25 : Try.f25.body.map (slim lends) = some k25 := by kernel_rfl
theorem ok25 : fnOk Try.f25 3 = true := by kernel_rfl
theorem c25 {a l : List D} {r : D × List D} (h : wpD Y.env k25 (fin tys l.length [ResultVar.tmp 6, ResultVar.tmp 7] r) (entry a l)) (ha : a.length = 3) : Y.call 25 a l = some r :=
 call_slim (Y := Y) rfl Try.func25 (ha ▸ ok25) slim25 h
theorem i_MeetsTask_call (n_Ends : List (List (Int × Int))) (n_Ids : List Int) (n_Inputs : List Int) (task : Int) (outputs : List Int) {r : Bool × Bool} (h : i_MeetsTask n_Ends n_Ids n_Inputs task outputs = some r) : Y.call 25 [D.agg [D.sl 93 (lst (fun x => D.sl 95 (cat2 .i64 .i64 x)) n_Ends), D.sl 3 (lst (D.int .i64) n_Ids), D.sl 3 (lst (D.int .i64) n_Inputs)], D.int .i64 task, D.sl 3 (lst (D.int .i64) outputs)] [] = some (D.tup [D.bool r.1, D.bool r.2], []) := by
 refine c25 ?_ rfl
 unfold k25
 unfold i_MeetsTask at h
 obtain ⟨e1, h⟩ := ckS h
 obtain ⟨e2, h⟩ := ckS h
 obtain ⟨e3, h⟩ := ckS h
 have c4 := i_IsNetwork_cl n_Ends n_Ids n_Inputs e1 e2 e3
 by_cases e5 : (isNet n_Ends n_Ids n_Inputs) = true
 ·rw [if_pos e5] at h
  obtain ⟨r6_, hl6, h⟩ := bindS h
  try dsimp only at h
  have c6 := i_isTask_call task hl6
  by_cases e7 : r6_ = true
  ·rw [if_pos e7] at h
   obtain ⟨r8_, hl8, h⟩ := bindS h
   try dsimp only at h
   have c8 := i_outputsOk_call n_Ends n_Ids n_Inputs outputs hl8
   by_cases e9 : r8_ = true
   ·rw [if_pos e9] at h
    obtain ⟨r10_, hl10, h⟩ := bindS h
    try dsimp only at h
    have c10 := i_meets_call n_Ends n_Ids n_Inputs task outputs hl10
    obtain rfl := Option.some.inj h
    simp (maxDischargeDepth := 9) only [↓xpre, xpost, xlst, xc2, xcore, yset, rg0, ↓reduceIte, Nat.reduceEqDiff, Nat.reduceLT, Nat.reduceLeDiff, Nat.reduceAdd, Nat.reduceMul, Nat.reduceMod, Nat.reduceSub, Nat.reduceBEq, Int.reduceLE, Int.reduceLT, Int.reduceEq, Int.reduceSub, Int.reduceAdd, Int.reduceToNat, Int.reduceNeg, e1, e2, e3, c4, e5, c6, e7, c8, e9, c10] <;> (repeat' apply And.intro) <;> first | rfl | exact ⟨_, rfl⟩ | simp [lst, cat2_nil]
   ·rw [if_neg e9] at h
    have e9f : r8_ = false := Bool.eq_false_iff.mpr e9
    obtain rfl := Option.some.inj h
    simp (maxDischargeDepth := 9) only [↓xpre, xpost, xlst, xc2, xcore, yset, rg0, ↓reduceIte, Nat.reduceEqDiff, Nat.reduceLT, Nat.reduceLeDiff, Nat.reduceAdd, Nat.reduceMul, Nat.reduceMod, Nat.reduceSub, Nat.reduceBEq, Int.reduceLE, Int.reduceLT, Int.reduceEq, Int.reduceSub, Int.reduceAdd, Int.reduceToNat, Int.reduceNeg, e1, e2, e3, c4, e5, c6, e7, c8, e9f] <;> (repeat' apply And.intro) <;> first | rfl | exact ⟨_, rfl⟩ | simp [lst, cat2_nil]
  ·rw [if_neg e7] at h
   have e7f : r6_ = false := Bool.eq_false_iff.mpr e7
   obtain rfl := Option.some.inj h
   simp (maxDischargeDepth := 9) only [↓xpre, xpost, xlst, xc2, xcore, yset, rg0, ↓reduceIte, Nat.reduceEqDiff, Nat.reduceLT, Nat.reduceLeDiff, Nat.reduceAdd, Nat.reduceMul, Nat.reduceMod, Nat.reduceSub, Nat.reduceBEq, Int.reduceLE, Int.reduceLT, Int.reduceEq, Int.reduceSub, Int.reduceAdd, Int.reduceToNat, Int.reduceNeg, e1, e2, e3, c4, e5, c6, e7f] <;> (repeat' apply And.intro) <;> first | rfl | exact ⟨_, rfl⟩ | simp [lst, cat2_nil]
 ·rw [if_neg e5] at h
  have e5f : (isNet n_Ends n_Ids n_Inputs) = false := Bool.eq_false_iff.mpr e5
  obtain rfl := Option.some.inj h
  simp (maxDischargeDepth := 9) only [↓xpre, xpost, xlst, xc2, xcore, yset, rg0, ↓reduceIte, Nat.reduceEqDiff, Nat.reduceLT, Nat.reduceLeDiff, Nat.reduceAdd, Nat.reduceMul, Nat.reduceMod, Nat.reduceSub, Nat.reduceBEq, Int.reduceLE, Int.reduceLT, Int.reduceEq, Int.reduceSub, Int.reduceAdd, Int.reduceToNat, Int.reduceNeg, e1, e2, e3, c4, e5f] <;> (repeat' apply And.intro) <;> first | rfl | exact ⟨_, rfl⟩ | simp [lst, cat2_nil]

noncomputable def s_taOuts (n_Ends : List (List (Int × Int))) (n_Ids : List Int) (n_Inputs : List Int) (outputs : List Int) : Option (Bool) :=
 ck (ShortE n_Ends) <|
 ck (n_Ids.length < 1099511627776) <|
 ck (n_Inputs.length < 1099511627776) <|
 if (isNet n_Ends n_Ids n_Inputs) = true then
  if (outputs.length : Int) = (n_Ends.length : Int) then
   ck (outputs.length < 1099511627776) <|
   some (allIn outputs (0 : Int) (99 : Int))
  else
   some false
 else
  some false
/-- spec.taOuts -/
def k55 : SC :=
 .seq
 (.ops [
 ⟨(some 2), (.box 29 (.tmp 0)), 0, none⟩,
 ⟨(some 4), (.assign (.const (.bool false))), 4, none⟩])
 (.seq
 (.ops [
 ⟨(some 5), (.load 29 (.tmp 2)), 29, none⟩,
 ⟨(some 6), (.call ⟨(.value (.func 39)), #[(.tmp 5)], #[29]⟩), 4, none⟩,
 ⟨(some 7), (.move (.tmp 6)), 4, none⟩,
 ⟨(some 8), (.move (.tmp 1)), 23, (some (some 7, true))⟩,
 ⟨(some 9), (.call ⟨(.builtin .len), #[(.tmp 8)], #[23]⟩), 3, (some (some 7, true))⟩,
 ⟨(some 10), (.fieldAddr 29 (.tmp 2) 0), 0, (some (some 7, true))⟩,
 ⟨(some 11), (.load 27 (.tmp 10)), 27, (some (some 7, true))⟩,
 ⟨(some 12), (.call ⟨(.builtin .len), #[(.tmp 11)], #[27]⟩), 3, (some (some 7, true))⟩,
 ⟨(some 13), (.binOp .eql 3 (.tmp 9) (.tmp 12) 3), 4, (some (some 7, true))⟩,
 ⟨(some 14), (.pick (.tmp 7) (.tmp 13) (.const (.bool false))), 4, none⟩,
 ⟨(some 15), (.move (.tmp 14)), 4, none⟩,
 ⟨(some 16), (.move (.tmp 1)), 23, (some (some 15, true))⟩,
 ⟨(some 17), (.call ⟨(.value (.func 75)), #[(.tmp 16), (.const (.int .i64 0)), (.const (.int .i64 99))], #[23, 3, 3]⟩), 4, (some (some 15, true))⟩,
 ⟨(some 18), (.pick (.tmp 15) (.tmp 17) (.const (.bool false))), 4, none⟩,
 ⟨(some 4), (.assign (.tmp 18)), 4, none⟩])
 .ret)
theorem slim55 : Try.f55.body.map (slim lends) = some k55 := by kernel_rfl
theorem ok55 : fnOk Try.f55 2 = true := by kernel_rfl
theorem c55 {a l : List D} {r : D × List D} (h : wpD Y.env k55 (fin tys l.length [ResultVar.tmp 4] r) (entry a l)) (ha : a.length = 2) : Y.call 55 a l = some r :=
 call_slim (Y := Y) rfl Try.func55 (ha ▸ ok55) slim55 h
theorem s_taOuts_call (n_Ends : List (List (Int × Int))) (n_Ids : List Int) (n_Inputs : List Int) (outputs : List Int) {r : Bool} (h : s_taOuts n_Ends n_Ids n_Inputs outputs = some r) : Y.call 55 [D.agg [D.sl 93 (lst (fun x => D.sl 95 (cat2 .i64 .i64 x)) n_Ends), D.sl 3 (lst (D.int .i64) n_Ids), D.sl 3 (lst (D.int .i64) n_Inputs)], D.sl 3 (lst (D.int .i64) outputs)] [] = some (D.bool r, []) := by
 refine c55 ?_ rfl
 unfold k55
 unfold s_taOuts at h
 obtain ⟨e1, h⟩ := ckS h
 obtain ⟨e2, h⟩ := ckS h
 obtain ⟨e3, h⟩ := ckS h
 have c4 := s_neGood_cl n_Ends n_Ids n_Inputs e1 e2 e3
 by_cases e5 : (isNet n_Ends n_Ids n_Inputs) = true
 ·rw [if_pos e5] at h
  by_cases e6 : (outputs.length : Int) = (n_Ends.length : Int)
  ·rw [if_pos e6] at h
   obtain ⟨e7, h⟩ := ckS h
   have c8 := s_l1All_cl outputs (0 : Int) (99 : Int) e7
   obtain rfl := Option.some.inj h
   simp (maxDischargeDepth := 9) only [↓xpre, xpost, xlst, xc2, xcore, yset, rg0, ↓reduceIte, Nat.reduceEqDiff, Nat.reduceLT, Nat.reduceLeDiff, Nat.reduceAdd, Nat.reduceMul, Nat.reduceMod, Nat.reduceSub, Nat.reduceBEq, Int.reduceLE, Int.reduceLT, Int.reduceEq, Int.reduceSub, Int.reduceAdd, Int.reduceToNat, Int.reduceNeg, e1, e2, e3, c4, e5, decide_eq_true e6, e7, c8] <;> (repeat' apply And.intro) <;> first | rfl | exact ⟨_, rfl⟩ | simp [lst, cat2_nil]
  ·rw [if_neg e6] at h
   obtain rfl := Option.some.inj h
   simp (maxDischargeDepth := 9) only [↓xpre, xpost, xlst, xc2, xcore, yset, rg0, ↓reduceIte, Nat.reduceEqDiff, Nat.reduceLT, Nat.reduceLeDiff, Nat.reduceAdd, Nat.reduceMul, Nat.reduceMod, Nat.reduceSub, Nat.reduceBEq, Int.reduceLE, Int.reduceLT, Int.reduceEq, Int.reduceSub, Int.reduceAdd, Int.reduceToNat, Int.reduceNeg, e1, e2, e3, c4, e5, e6] <;> (repeat' apply And.intro) <;> first | rfl | exact ⟨_, rfl⟩ | simp [lst, cat2_nil]
 ·rw [if_neg e5] at h
  have e5f : (isNet n_Ends n_Ids n_Inputs) = false := Bool.eq_false_iff.mpr e5
  obtain rfl := Option.some.inj h
  simp (maxDischargeDepth := 9) only [↓xpre, xpost, xlst, xc2, xcore, yset, rg0, ↓reduceIte, Nat.reduceEqDiff, Nat.reduceLT, Nat.reduceLeDiff, Nat.reduceAdd, Nat.reduceMul, Nat.reduceMod, Nat.reduceSub, Nat.reduceBEq, Int.reduceLE, Int.reduceLT, Int.reduceEq, Int.reduceSub, Int.reduceAdd, Int.reduceToNat, Int.reduceNeg, e1, e2, e3, c4, e5f] <;> (repeat' apply And.intro) <;> first | rfl | exact ⟨_, rfl⟩ | simp [lst, cat2_nil]

noncomputable def s_imTask (task : Int) : Option (Bool) :=
 some (inR task (1 : Int) (3 : Int))
/-- spec.imTask -/
def k56 : SC :=
 .seq
 (.ops [
 ⟨(some 2), (.assign (.const (.bool false))), 4, none⟩])
 (.seq
 (.ops [
 ⟨(some 3), (.move (.tmp 0)), 3, none⟩,
 ⟨(some 4), (.call ⟨(.value (.func 62)), #[(.tmp 3), (.const (.int .i64 1)), (.const (.int .i64 3))], #[3, 3, 3]⟩), 4, none⟩,
 ⟨(some 2), (.assign (.tmp 4)), 4, none⟩])
 .ret)
theorem slim56 : Try.f56.body.map (slim lends) = some k56 := by kernel_rfl
theorem ok56 : fnOk Try.f56 1 = true := by kernel_rfl
theorem c56 {a l : List D} {r : D × List D} (h : wpD Y.env k56 (fin tys l.length [ResultVar.tmp 2] r) (entry a l)) (ha : a.length = 1) : Y.call 56 a l = some r :=
 call_slim (Y := Y) rfl Try.func56 (ha ▸ ok56) slim56 h
theorem s_imTask_call (task : Int) {r : Bool} (h : s_imTask task = some r) : Y.call 56 [D.int .i64 task] [] = some (D.bool r, []) := by
 refine c56 ?_ rfl
 unfold k56
 unfold s_imTask at h
 have c1 := s_l1In_cl task (1 : Int) (3 : Int)
 obtain rfl := Option.some.inj h
 simp (maxDischargeDepth := 9) only [↓xpre, xpost, xlst, xc2, xcore, yset, rg0, ↓reduceIte, Nat.reduceEqDiff, Nat.reduceLT, Nat.reduceLeDiff, Nat.reduceAdd, Nat.reduceMul, Nat.reduceMod, Nat.reduceSub, Nat.reduceBEq, Int.reduceLE, Int.reduceLT, Int.reduceEq, Int.reduceSub, Int.reduceAdd, Int.reduceToNat, Int.reduceNeg, c1] <;> (repeat' apply And.intro) <;> first | rfl | exact ⟨_, rfl⟩ | simp [lst, cat2_nil]

noncomputable def s_neNear_l0_S (n_Ends : List (List (Int × Int))) (v_ : Int) (out : List Int) (t14_ : Int) : Option (((List Int) × Int) ⊕ ((List Int))) :=
 if t14_ < ((n_Ends.getD v_.toNat default).length : Int) then
  ck (0 ≤ t14_ ∧ t14_.toNat < (n_Ends.getD v_.toNat default).length) <|
  ck (out.length + 1 < 1099511627776) <|
  some (Sum.inl ((out ++ [(fstD (n_Ends.getD v_.toNat default) t14_.toNat)]), IntKind.i64.wrap (t14_ + 1)))
 else
  some (Sum.inr out)
noncomputable def s_neNear_l0 (n_Ends : List (List (Int × Int))) (v_ : Int) (v : (List Int) × Int) : Option ((List Int)) := itO (fun v => s_neNear_l0_S n_Ends v_ v.1 v.2) v
noncomputable def s_neNear (n_Ends : List (List (Int × Int))) (n_Ids : List Int) (n_Inputs : List Int) (v_ : Int) : Option ((List Int)) :=
 ck (0 ≤ v_ ∧ v_.toNat < n_Ends.length) <|
 (s_neNear_l0 n_Ends v_ ([], 0)).bind fun r3_ =>
 some r3_
/-- spec.neNear -/
def k107_l0b : SC :=
 .seq
 (.ops [
 ⟨(some 15), (.binOp .lss 3 (.tmp 14) (.tmp 13) 3), 0, none⟩])
 (.seq
 (.cond (.tmp 15)
 .skip
 (.exit 0))
 (.seq
 (.block 1
 (.seq
 (.ops [
 ⟨(some 16), (.indexAddr 93 (.tmp 12) (.tmp 14)), 0, none⟩,
 ⟨(some 17), (.load 95 (.tmp 16)), 95, none⟩,
 ⟨(some 7), (.alloc 95), 0, none⟩,
 ⟨none, (.store 95 (.tmp 7) (.tmp 17)), 0, none⟩])
 (.ops [
 ⟨(some 18), (.move (.tmp 5)), 23, none⟩,
 ⟨(some 19), (.fieldAddr 95 (.tmp 7) 0), 0, none⟩,
 ⟨(some 20), (.load 3 (.tmp 19)), 3, none⟩,
 ⟨(some 21), (.buildSlice 23 1 #[(0, (.tmp 20))]), 23, none⟩,
 ⟨(some 22), (.call ⟨(.builtin .append), #[(.tmp 18), (.tmp 21)], #[23, 23]⟩), 23, none⟩,
 ⟨(some 5), (.assign (.tmp 22)), 23, none⟩])))
 (.ops [
 ⟨(some 23), (.binOp .add 3 (.tmp 14) (.const (.int .i64 1)) 3), 3, none⟩,
 ⟨(some 14), (.move (.tmp 23)), 3, none⟩])))
def k107_l0 : SC := .loop k107_l0b
def k107 : SC :=
 .seq
 (.ops [
 ⟨(some 2), (.box 29 (.tmp 0)), 0, none⟩,
 ⟨(some 4), (.assign (.const (.slice none 0 0))), 23, none⟩])
 (.seq
 (.ops [
 ⟨(some 5), (.assign (.const (.slice none 0 0))), 23, none⟩])
 (.seq
 (.seq
 (.ops [
 ⟨(some 8), (.fieldAddr 29 (.tmp 2) 0), 0, none⟩,
 ⟨(some 9), (.load 27 (.tmp 8)), 27, none⟩,
 ⟨(some 10), (.move (.tmp 1)), 3, none⟩,
 ⟨(some 11), (.indexAddr 27 (.tmp 9) (.tmp 10)), 0, none⟩,
 ⟨(some 12), (.load 93 (.tmp 11)), 93, none⟩,
 ⟨(some 13), (.call ⟨(.builtin .len), #[(.tmp 12)], #[93]⟩), 3, none⟩,
 ⟨(some 14), (.move (.const (.int .i64 0))), 3, none⟩])
 (.block 0
 k107_l0))
 (.seq
 (.ops [
 ⟨(some 24), (.move (.tmp 5)), 23, none⟩,
 ⟨(some 4), (.assign (.tmp 24)), 23, none⟩])
 .ret)))
theorem slim107 : Try.f107.body.map (slim lends) = some k107 := by kernel_rfl
theorem ok107 : fnOk Try.f107 2 = true := by kernel_rfl
theorem c107 {a l : List D} {r : D × List D} (h : wpD Y.env k107 (fin tys l.length [ResultVar.tmp 4] r) (entry a l)) (ha : a.length = 2) : Y.call 107 a l = some r :=
 call_slim (Y := Y) rfl Try.func107 (ha ▸ ok107) slim107 h
def s_neNear_l0_M (n_Ends : List (List (Int × Int))) (v_ : Int) (out : List Int) (t14_ : Int) (s : St) : Prop := s.v 5 = D.own 3 (lst (D.int .i64) out) ∧ s.v 12 = D.sl 95 (cat2 .i64 .i64 (n_Ends.getD v_.toNat default)) ∧ s.v 13 = D.int .i64 ((n_Ends.getD v_.toNat default).length : Int) ∧ s.v 14 = D.int .i64 t14_
def s_neNear_l0_X (n_Ends : List (List (Int × Int))) (v_ : Int) (r : (List Int)) (ex : Ex) (s : St) : Prop := ex = .exit 0 ∧ s.v 5 = D.own 3 (lst (D.int .i64) r)
theorem s_neNear_l0_wp (n_Ends : List (List (Int × Int))) (v_ : Int) {v : (List Int) × Int} {s : St} {r : (List Int)} (h : s_neNear_l0 n_Ends v_ v = some r) (hM : s_neNear_l0_M n_Ends v_ v.1 v.2 s) : wpD Y.env k107_l0 (s_neNear_l0_X n_Ends v_ r) s := by
 unfold s_neNear_l0 at h
 refine wd_itO (c := k107_l0b) (fun v => s_neNear_l0_S n_Ends v_ v.1 v.2) (fun v s => s_neNear_l0_M n_Ends v_ v.1 v.2 s) (s_neNear_l0_X n_Ends v_) ?_ h hM
 clear h hM s v r
 intro v s o hM h
 obtain ⟨out, t14_⟩ := v
 dsimp only at h hM
 unfold s_neNear_l0_S at h
 unfold s_neNear_l0_M at hM
 obtain ⟨m0, m1, m2, m3⟩ := hM
 unfold k107_l0b
 by_cases e2 : t14_ < ((n_Ends.getD v_.toNat default).length : Int)
 ·rw [if_pos e2] at h
  obtain ⟨e3, h⟩ := ckS h
  obtain ⟨e4, h⟩ := ckS h
  obtain rfl := Option.some.inj h
  simp (maxDischargeDepth := 9) only [↓xpre, xpost, xlst, xc2, xcore, yset, rg0, ↓reduceIte, Nat.reduceEqDiff, Nat.reduceLT, Nat.reduceLeDiff, Nat.reduceAdd, Nat.reduceMul, Nat.reduceMod, Nat.reduceSub, Nat.reduceBEq, Int.reduceLE, Int.reduceLT, Int.reduceEq, Int.reduceSub, Int.reduceAdd, Int.reduceToNat, Int.reduceNeg, m0, m1, m2, m3, e2, e3.1, e3.2, e4, s_neNear_l0_M, s_neNear_l0_X, sxN, sxE, sxR] <;> (repeat' apply And.intro) <;> first | rfl | exact ⟨_, rfl⟩ | simp [lst, cat2_nil]
 ·rw [if_neg e2] at h
  obtain rfl := Option.some.inj h
  simp (maxDischargeDepth := 9) only [↓xpre, xpost, xlst, xc2, xcore, yset, rg0, ↓reduceIte, Nat.reduceEqDiff, Nat.reduceLT, Nat.reduceLeDiff, Nat.reduceAdd, Nat.reduceMul, Nat.reduceMod, Nat.reduceSub, Nat.reduceBEq, Int.reduceLE, Int.reduceLT, Int.reduceEq, Int.reduceSub, Int.reduceAdd, Int.reduceToNat, Int.reduceNeg, m0, m1, m2, m3, e2, s_neNear_l0_M, s_neNear_l0_X, sxN, sxE, sxR] <;> (repeat' apply And.intro) <;> first | rfl | exact ⟨_, rfl⟩ | simp [lst, cat2_nil]
theorem s_neNear_call (n_Ends : List (List (Int × Int))) (n_Ids : List Int) (n_Inputs : List Int) (v_ : Int) {r : (List Int)} (h : s_neNear n_Ends n_Ids n_Inputs v_ = some r) : Y.call 107 [D.agg [D.sl 93 (lst (fun x => D.sl 95 (cat2 .i64 .i64 x)) n_Ends), D.sl 3 (lst (D.int .i64) n_Ids), D.sl 3 (lst (D.int .i64) n_Inputs)], D.int .i64 v_] [] = some (D.own 3 (lst (D.int .i64) r), []) := by
 refine c107 ?_ rfl
 unfold k107
 unfold s_neNear at h
 obtain ⟨e1, h⟩ := ckS h
 obtain ⟨r3_, hl3, h⟩ := bindS h
 try dsimp only at h
 simp (maxDischargeDepth := 9) only [↓xpre, xpost, xlst, xc2, xcore, yset, rg0, ↓reduceIte, Nat.reduceEqDiff, Nat.reduceLT, Nat.reduceLeDiff, Nat.reduceAdd, Nat.reduceMul, Nat.reduceMod, Nat.reduceSub, Nat.reduceBEq, Int.reduceLE, Int.reduceLT, Int.reduceEq, Int.reduceSub, Int.reduceAdd, Int.reduceToNat, Int.reduceNeg, e1.1, e1.2]
 refine wd_mono (s_neNear_l0_wp n_Ends v_ hl3 ?_) ?_
 ·simp (maxDischargeDepth := 9) only [↓xpre, xpost, xlst, xc2, xcore, yset, rg0, ↓reduceIte, Nat.reduceEqDiff, Nat.reduceLT, Nat.reduceLeDiff, Nat.reduceAdd, Nat.reduceMul, Nat.reduceMod, Nat.reduceSub, Nat.reduceBEq, Int.reduceLE, Int.reduceLT, Int.reduceEq, Int.reduceSub, Int.reduceAdd, Int.reduceToNat, Int.reduceNeg, e1.1, e1.2, s_neNear_l0_M] <;> (repeat' apply And.intro) <;> first | rfl | exact ⟨_, rfl⟩ | simp [lst, cat2_nil]
 ·intro ex3 s3 hX3
  unfold s_neNear_l0_X at hX3
  obtain ⟨rfl, n3_0⟩ := hX3
  obtain rfl := Option.some.inj h
  simp (maxDischargeDepth := 9) only [↓xpre, xpost, xlst, xc2, xcore, yset, rg0, ↓reduceIte, Nat.reduceEqDiff, Nat.reduceLT, Nat.reduceLeDiff, Nat.reduceAdd, Nat.reduceMul, Nat.reduceMod, Nat.reduceSub, Nat.reduceBEq, Int.reduceLE, Int.reduceLT, Int.reduceEq, Int.reduceSub, Int.reduceAdd, Int.reduceToNat, Int.reduceNeg, e1.1, e1.2, n3_0] <;> (repeat' apply And.intro) <;> first | rfl | exact ⟨_, rfl⟩ | simp [lst, cat2_nil]

noncomputable def s_imEdge_l0_S (n_Ends : List (List (Int × Int))) (n_Ids : List Int) (n_Inputs : List Int) (l : List Int) (t13_ : Int) (r2_ : (List Int)) (v_ : Int) : Option ((Int) ⊕ (Int ⊕ Unit)) :=
 if v_ < (n_Ends.length : Int) then
  ck (r2_.length < 1099511627776) <|
  if (r2_.contains v_) = true then
   ck (0 ≤ t13_ ∧ t13_.toNat < l.length) <|
   ck (0 ≤ v_ ∧ v_.toNat < l.length) <|
   if (l.getD t13_.toNat default) = (l.getD v_.toNat default) then
    some (Sum.inr (Sum.inl v_))
   else
    some (Sum.inl (IntKind.i64.wrap (v_ + 1)))
  else
   some (Sum.inl (IntKind.i64.wrap (v_ + 1)))
 else
  some (Sum.inr (Sum.inr ()))
noncomputable def s_imEdge_l0 (n_Ends : List (List (Int × Int))) (n_Ids : List Int) (n_Inputs : List Int) (l : List Int) (t13_ : Int) (r2_ : (List Int)) (v : Int) : Option (Int ⊕ Unit) := itO (fun v => s_imEdge_l0_S n_Ends n_Ids n_Inputs l t13_ r2_ v) v
noncomputable def s_imEdge_l1_S (n_Ends : List (List (Int × Int))) (n_Ids : List Int) (n_Inputs : List Int) (l : List Int) (t13_ : Int) : Option ((Int) ⊕ ((Int × Int) ⊕ Unit)) :=
 if t13_ < (n_Ends.length : Int) then
  (s_neNear n_Ends n_Ids n_Inputs t13_).bind fun r2_ =>
  (s_imEdge_l0 n_Ends n_Ids n_Inputs l t13_ r2_ t13_).bind fun r4_ =>
  match r4_ with
  | .inl q4_ =>
   some (Sum.inr (Sum.inl (t13_, q4_)))
  | .inr q4_ =>
   some (Sum.inl (IntKind.i64.wrap (t13_ + 1)))
 else
  some (Sum.inr (Sum.inr ()))
noncomputable def s_imEdge_l1 (n_Ends : List (List (Int × Int))) (n_Ids : List Int) (n_Inputs : List Int) (l : List Int) (v : Int) : Option ((Int × Int) ⊕ Unit) := itO (fun v => s_imEdge_l1_S n_Ends n_Ids n_Inputs l v) v
noncomputable def s_imEdge (n_Ends : List (List (Int × Int))) (n_Ids : List Int) (n_Inputs : List Int) (l : List Int) : Option (Int × Int × Bool) :=
 (s_imEdge_l1 n_Ends n_Ids n_Inputs l 0).bind fun r2_ =>
 match r2_ with
 | .inl q2_ =>
  some (q2_.1, q2_.2, true)
 | .inr q2_ =>
  some (0, 0, false)
/-- spec.imEdge -/
def k98_l0b : SC :=
 .seq
 (.seq
 (.ops [
 ⟨(some 20), (.move (.tmp 9)), 3, none⟩,
 ⟨(some 21), (.fieldAddr 29 (.tmp 2) 0), 0, none⟩,
 ⟨(some 22), (.load 27 (.tmp 21)), 27, none⟩,
 ⟨(some 23), (.call ⟨(.builtin .len), #[(.tmp 22)], #[27]⟩), 3, none⟩,
 ⟨(some 24), (.binOp .lss 3 (.tmp 20) (.tmp 23) 3), 4, none⟩])
 (.cond (.tmp 24)
 .skip
 (.exit 2)))
 (.seq
 (.block 3
 (.seq
 (.draws [
 (⟨[27, 8, 8], [27, 28, 29, 30, 29, 31, 32, 33, 34, 35, 36, 37, 38, 39, 40], [27]⟩, ⟨(some 27), (.move (.tmp 8)), 23, none⟩),
 (⟨[28, 9, 9], [27, 28, 29, 30, 29, 31, 32, 33, 34, 35, 36, 37, 38, 39, 40], [28]⟩, ⟨(some 28), (.move (.tmp 9)), 3, none⟩),
 (⟨[29, 27, 28, 8, 9], [27, 28, 29, 30, 29, 31, 32, 33, 34, 35, 36, 37, 38, 39, 40], [29]⟩, ⟨(some 29), (.call ⟨(.value (.func 111)), #[(.tmp 27), (.tmp 28)], #[23, 3]⟩), 4, none⟩),
 (⟨[30, 29, 29], [27, 28, 29, 30, 29, 31, 32, 33, 34, 35, 36, 37, 38, 39, 40], [30, 29]⟩, ⟨(some 30), (.move (.tmp 29)), 4, none⟩),
 (⟨[31, 1, 1, 30], [27, 28, 29, 30, 29, 31, 32, 33, 34, 35, 36, 37, 38, 39, 40], [31]⟩, ⟨(some 31), (.move (.tmp 1)), 23, (some (some 30, true))⟩),
 (⟨[32, 7, 7, 30], [27, 28, 29, 30, 29, 31, 32, 33, 34, 35, 36, 37, 38, 39, 40], [32]⟩, ⟨(some 32), (.move (.tmp 7)), 3, (some (some 30, true))⟩),
 (⟨[33, 31, 32, 1, 7, 30], [27, 28, 29, 30, 29, 31, 32, 33, 34, 35, 36, 37, 38, 39, 40], [33]⟩, ⟨(some 33), (.indexAddr 23 (.tmp 31) (.tmp 32)), 0, (some (some 30, true))⟩),
 (⟨[34, 33, 1, 30], [27, 28, 29, 30, 29, 31, 32, 33, 34, 35, 36, 37, 38, 39, 40], [34]⟩, ⟨(some 34), (.load 3 (.tmp 33)), 3, (some (some 30, true))⟩),
 (⟨[35, 1, 1, 30], [27, 28, 29, 30, 29, 31, 32, 33, 34, 35, 36, 37, 38, 39, 40], [35]⟩, ⟨(some 35), (.move (.tmp 1)), 23, (some (some 30, true))⟩),
 (⟨[36, 9, 9, 30], [27, 28, 29, 30, 29, 31, 32, 33, 34, 35, 36, 37, 38, 39, 40], [36]⟩, ⟨(some 36), (.move (.tmp 9)), 3, (some (some 30, true))⟩),
 (⟨[37, 35, 36, 1, 9, 30], [27, 28, 29, 30, 29, 31, 32, 33, 34, 35, 36, 37, 38, 39, 40], [37]⟩, ⟨(some 37), (.indexAddr 23 (.tmp 35) (.tmp 36)), 0, (some (some 30, true))⟩),
 (⟨[38, 37, 1, 30], [27, 28, 29, 30, 29, 31, 32, 33, 34, 35, 36, 37, 38, 39, 40], [38]⟩, ⟨(some 38), (.load 3 (.tmp 37)), 3, (some (some 30, true))⟩),
 (⟨[39, 34, 38, 1, 1, 30], [27, 28, 29, 30, 29, 31, 32, 33, 34, 35, 36, 37, 38, 39, 40], [39]⟩, ⟨(some 39), (.binOp .eql 3 (.tmp 34) (.tmp 38) 3), 4, (some (some 30, true))⟩),
 (⟨[40, 30, 39, 29, 39], [27, 28, 29, 30, 29, 31, 32, 33, 34, 35, 36, 37, 38, 39, 40], [40]⟩, ⟨(some 40), (.pick (.tmp 30) (.tmp 39) (.const (.bool false))), 4, none⟩)])
 (.cond (.tmp 40)
 (.seq
 (.ops [
 ⟨(some 41), (.move (.tmp 7)), 3, none⟩,
 ⟨(some 42), (.move (.tmp 9)), 3, none⟩,
 ⟨(some 4), (.assign (.tmp 41)), 3, none⟩,
 ⟨(some 5), (.assign (.tmp 42)), 3, none⟩,
 ⟨(some 6), (.assign (.const (.bool true))), 4, none⟩])
 .ret)
 .skip)))
 (.ops [
 ⟨(some 25), (.move (.tmp 9)), 3, none⟩,
 ⟨(some 26), (.binOp .add 3 (.tmp 25) (.const (.int .i64 1)) 3), 3, none⟩,
 ⟨(some 9), (.assign (.tmp 26)), 3, none⟩]))
def k98_l0 : SC := .loop k98_l0b
def k98_l1b : SC :=
 .seq
 (.ops [
 ⟨(some 14), (.binOp .lss 3 (.tmp 13) (.tmp 12) 3), 0, none⟩])
 (.seq
 (.cond (.tmp 14)
 .skip
 (.exit 0))
 (.seq
 (.block 1
 (.seq
 (.ops [
 ⟨(some 15), (.move (.tmp 13)), 3, none⟩,
 ⟨(some 7), (.assign (.tmp 15)), 3, none⟩])
 (.seq
 (.ops [
 ⟨(some 16), (.load 29 (.tmp 2)), 29, none⟩,
 ⟨(some 17), (.move (.tmp 7)), 3, none⟩,
 ⟨(some 18), (.call ⟨(.value (.func 107)), #[(.tmp 16), (.tmp 17)], #[29, 3]⟩), 23, none⟩,
 ⟨(some 8), (.assign (.tmp 18)), 23, none⟩])
 (.seq
 (.ops [
 ⟨(some 19), (.move (.tmp 7)), 3, none⟩,
 ⟨(some 9), (.assign (.tmp 19)), 3, none⟩])
 (.block 2
 k98_l0)))))
 (.ops [
 ⟨(some 43), (.binOp .add 3 (.tmp 13) (.const (.int .i64 1)) 3), 3, none⟩,
 ⟨(some 13), (.move (.tmp 43)), 3, none⟩])))
def k98_l1 : SC := .loop k98_l1b
def k98 : SC :=
 .seq
 (.ops [
 ⟨(some 2), (.box 29 (.tmp 0)), 0, none⟩,
 ⟨(some 4), (.assign (.const (.int .i64 0))), 3, none⟩,
 ⟨(some 5), (.assign (.const (.int .i64 0))), 3, none⟩,
 ⟨(some 6), (.assign (.const (.bool false))), 4, none⟩])
 (.seq
 (.seq
 (.ops [
 ⟨(some 10), (.fieldAddr 29 (.tmp 2) 0), 0, none⟩,
 ⟨(some 11), (.load 27 (.tmp 10)), 27, none⟩,
 ⟨(some 12), (.call ⟨(.builtin .len), #[(.tmp 11)], #[27]⟩), 3, none⟩,
 ⟨(some 13), (.move (.const (.int .i64 0))), 3, none⟩])
 (.block 0
 k98_l1))
 (.seq
 (.ops [
 ⟨(some 4), (.assign (.const (.int .i64 0))), 3, none⟩,
 ⟨(some 5), (.assign (.const (.int .i64 0))), 3, none⟩,
 ⟨(some 6), (.assign (.const (.bool false))), 4, none⟩])
 .ret))
theorem slim98 : Try.f98.body.map (slim lends) = some k98 := by kernel_rfl
theorem ok98 : fnOk Try.f98 2 = true := by kernel_rfl
theorem c98 {a l : List D} {r : D × List D} (h : wpD Y.env k98 (fin tys l.length [ResultVar.tmp 4, ResultVar.tmp 5, ResultVar.tmp 6] r) (entry a l)) (ha : a.length = 2) : Y.call 98 a l = some r :=
 call_slim (Y := Y) rfl Try.func98 (ha ▸ ok98) slim98 h
def s_imEdge_l0_M (n_Ends : List (List (Int × Int))) (n_Ids : List Int) (n_Inputs : List Int) (l : List Int) (t13_ : Int) (r2_ : (List Int)) (v_ : Int) (s : St) : Prop := s.v 1 = D.sl 3 (lst (D.int .i64) l) ∧ s.v 2 = D.box [D.sl 93 (lst (fun x => D.sl 95 (cat2 .i64 .i64 x)) n_Ends), D.sl 3 (lst (D.int .i64) n_Ids), D.sl 3 (lst (D.int .i64) n_Inputs)] ∧ s.v 7 = D.int .i64 t13_ ∧ s.v 8 = D.own 3 (lst (D.int .i64) r2_) ∧ s.v 9 = D.int .i64 v_ ∧ s.v 12 = D.int .i64 (n_Ends.length : Int) ∧ s.v 13 = D.int .i64 t13_
def s_imEdge_l0_X (n_Ends : List (List (Int × Int))) (n_Ids : List Int) (n_Inputs : List Int) (l : List Int) (t13_ : Int) (r2_ : (List Int)) (r : Int ⊕ Unit) (ex : Ex) (s : St) : Prop := match r with
 | .inl q => ex = .ret ∧ s.v 4 = D.int .i64 t13_ ∧ s.v 5 = D.int .i64 q ∧ s.v 6 = D.bool true
 | .inr q => ex = .exit 2 ∧ s.v 1 = D.sl 3 (lst (D.int .i64) l) ∧ s.v 2 = D.box [D.sl 93 (lst (fun x => D.sl 95 (cat2 .i64 .i64 x)) n_Ends), D.sl 3 (lst (D.int .i64) n_Ids), D.sl 3 (lst (D.int .i64) n_Inputs)] ∧ s.v 12 = D.int .i64 (n_Ends.length : Int) ∧ s.v 13 = D.int .i64 t13_
theorem s_imEdge_l0_wp (n_Ends : List (List (Int × Int))) (n_Ids : List Int) (n_Inputs : List Int) (l : List Int) (t13_ : Int) (r2_ : (List Int)) {v : Int} {s : St} {r : Int ⊕ Unit} (h : s_imEdge_l0 n_Ends n_Ids n_Inputs l t13_ r2_ v = some r) (hM : s_imEdge_l0_M n_Ends n_Ids n_Inputs l t13_ r2_ v s) : wpD Y.env k98_l0 (s_imEdge_l0_X n_Ends n_Ids n_Inputs l t13_ r2_ r) s := by
 unfold s_imEdge_l0 at h
 refine wd_itO (c := k98_l0b) (fun v => s_imEdge_l0_S n_Ends n_Ids n_Inputs l t13_ r2_ v) (fun v s => s_imEdge_l0_M n_Ends n_Ids n_Inputs l t13_ r2_ v s) (s_imEdge_l0_X n_Ends n_Ids n_Inputs l t13_ r2_) ?_ h hM
 clear h hM s v r
 intro v_ s o hM h
 unfold s_imEdge_l0_S at h
 unfold s_imEdge_l0_M at hM
 obtain ⟨m0, m1, m2, m3, m4, m5, m6⟩ := hM
 unfold k98_l0b
 by_cases e3 : v_ < (n_Ends.length : Int)
 ·rw [if_pos e3] at h
  obtain ⟨e4, h⟩ := ckS h
  have c5 := s_l1Has_cl r2_ v_ e4
  by_cases e6 : (r2_.contains v_) = true
  ·rw [if_pos e6] at h
   obtain ⟨e7, h⟩ := ckS h
   obtain ⟨e8, h⟩ := ckS h
   by_cases e9 : (l.getD t13_.toNat default) = (l.getD v_.toNat default)
   ·rw [if_pos e9] at h
    obtain rfl := Option.some.inj h
    simp (maxDischargeDepth := 9) only [↓xpre, xpost, xlst, xc2, xcore, yset, rg0, ↓reduceIte, Nat.reduceEqDiff, Nat.reduceLT, Nat.reduceLeDiff, Nat.reduceAdd, Nat.reduceMul, Nat.reduceMod, Nat.reduceSub, Nat.reduceBEq, Int.reduceLE, Int.reduceLT, Int.reduceEq, Int.reduceSub, Int.reduceAdd, Int.reduceToNat, Int.reduceNeg, m0, m1, m2, m3, m4, m5, m6, e3, e4, c5, e6, e7.1, e7.2, e8.1, e8.2, decide_eq_true e9, s_imEdge_l0_M, s_imEdge_l0_X, sxN, sxE, sxR] <;> (repeat' apply And.intro) <;> first | rfl | exact ⟨_, rfl⟩ | simp [lst, cat2_nil]
   ·rw [if_neg e9] at h
    obtain rfl := Option.some.inj h
    simp (maxDischargeDepth := 9) only [↓xpre, xpost, xlst, xc2, xcore, yset, rg0, ↓reduceIte, Nat.reduceEqDiff, Nat.reduceLT, Nat.reduceLeDiff, Nat.reduceAdd, Nat.reduceMul, Nat.reduceMod, Nat.reduceSub, Nat.reduceBEq, Int.reduceLE, Int.reduceLT, Int.reduceEq, Int.reduceSub, Int.reduceAdd, Int.reduceToNat, Int.reduceNeg, m0, m1, m2, m3, m4, m5, m6, e3, e4, c5, e6, e7.1, e7.2, e8.1, e8.2, e9, s_imEdge_l0_M, s_imEdge_l0_X, sxN, sxE, sxR] <;> (repeat' apply And.intro) <;> first | rfl | exact ⟨_, rfl⟩ | simp [lst, cat2_nil]
  ·rw [if_neg e6] at h
   have e6f : (r2_.contains v_) = false := Bool.eq_false_iff.mpr e6
   obtain rfl := Option.some.inj h
   simp (maxDischargeDepth := 9) only [↓xpre, xpost, xlst, xc2, xcore, yset, rg0, ↓reduceIte, Nat.reduceEqDiff, Nat.reduceLT, Nat.reduceLeDiff, Nat.reduceAdd, Nat.reduceMul, Nat.reduceMod, Nat.reduceSub, Nat.reduceBEq, Int.reduceLE, Int.reduceLT, Int.reduceEq, Int.reduceSub, Int.reduceAdd, Int.reduceToNat, Int.reduceNeg, m0, m1, m2, m3, m4, m5, m6, e3, e4, c5, e6f, s_imEdge_l0_M, s_imEdge_l0_X, sxN, sxE, sxR] <;> (repeat' apply And.intro) <;> first | rfl | exact ⟨_, rfl⟩ | simp [lst, cat2_nil]
 ·rw [if_neg e3] at h
  obtain rfl := Option.some.inj h
  simp (maxDischargeDepth := 9) only [↓xpre, xpost, xlst, xc2, xcore, yset, rg0, ↓reduceIte, Nat.reduceEqDiff, Nat.reduceLT, Nat.reduceLeDiff, Nat.reduceAdd, Nat.reduceMul, Nat.reduceMod, Nat.reduceSub, Nat.reduceBEq, Int.reduceLE, Int.reduceLT, Int.reduceEq, Int.reduceSub, Int.reduceAdd, Int.reduceToNat, Int.reduceNeg, m0, m1, m2, m3, m4, m5, m6, e3, s_imEdge_l0_M, s_imEdge_l0_X, sxN, sxE, sxR] <;> (repeat' apply And.intro) <;> first | rfl | exact ⟨_, rfl⟩ | simp [lst, cat2_nil]
def s_imEdge_l1_M (n_Ends : List (List (Int × Int))) (n_Ids : List Int) (n_Inputs : List Int) (l : List Int) (t13_ : Int) (s : St) : Prop := s.v 1 = D.sl 3 (lst (D.int .i64) l) ∧ s.v 2 = D.box [D.sl 93 (lst (fun x => D.sl 95 (cat2 .i64 .i64 x)) n_Ends), D.sl 3 (lst (D.int .i64) n_Ids), D.sl 3 (lst (D.int .i64) n_Inputs)] ∧ s.v 12 = D.int .i64 (n_Ends.length : Int) ∧ s.v 13 = D.int .i64 t13_
def s_imEdge_l1_X (n_Ends : List (List (Int × Int))) (n_Ids : List Int) (n_Inputs : List Int) (l : List Int) (r : (Int × Int) ⊕ Unit) (ex : Ex) (s : St) : Prop := match r with
 | .inl q => ex = .ret ∧ s.v 4 = D.int .i64 q.1 ∧ s.v 5 = D.int .i64 q.2 ∧ s.v 6 = D.bool true
 | .inr q => ex = .exit 0
theorem s_imEdge_l1_wp (n_Ends : List (List (Int × Int))) (n_Ids : List Int) (n_Inputs : List Int) (l : List Int) {v : Int} {s : St} {r : (Int × Int) ⊕ Unit} (h : s_imEdge_l1 n_Ends n_Ids n_Inputs l v = some r) (hM : s_imEdge_l1_M n_Ends n_Ids n_Inputs l v s) : wpD Y.env k98_l1 (s_imEdge_l1_X n_Ends n_Ids n_Inputs l r) s := by
 unfold s_imEdge_l1 at h
 refine wd_itO (c := k98_l1b) (fun v => s_imEdge_l1_S n_Ends n_Ids n_Inputs l v) (fun v s => s_imEdge_l1_M n_Ends n_Ids n_Inputs l v s) (s_imEdge_l1_X n_Ends n_Ids n_Inputs l) ?_ h hM
 clear h hM s v r
 intro t13_ s o hM h
 unfold s_imEdge_l1_S at h
 unfold s_imEdge_l1_M at hM
 obtain ⟨m0, m1, m2, m3⟩ := hM
 unfold k98_l1b
 by_cases e1 : t13_ < (n_Ends.length : Int)
 ·rw [if_pos e1] at h
  obtain ⟨r2_, hl2, h⟩ := bindS h
  try dsimp only at h
  have c2 := s_neNear_call n_Ends n_Ids n_Inputs t13_ hl2
  obtain ⟨r4_, hl4, h⟩ := bindS h
  try dsimp only at h
  simp (maxDischargeDepth := 9) only [↓xpre, xpost, xlst, xc2, xcore, yset, rg0, ↓reduceIte, Nat.reduceEqDiff, Nat.reduceLT, Nat.reduceLeDiff, Nat.reduceAdd, Nat.reduceMul, Nat.reduceMod, Nat.reduceSub, Nat.reduceBEq, Int.reduceLE, Int.reduceLT, Int.reduceEq, Int.reduceSub, Int.reduceAdd, Int.reduceToNat, Int.reduceNeg, m0, m1, m2, m3, e1, c2]
  refine wd_mono (s_imEdge_l0_wp n_Ends n_Ids n_Inputs l t13_ r2_ hl4 ?_) ?_
  ·simp (maxDischargeDepth := 9) only [↓xpre, xpost, xlst, xc2, xcore, yset, rg0, ↓reduceIte, Nat.reduceEqDiff, Nat.reduceLT, Nat.reduceLeDiff, Nat.reduceAdd, Nat.reduceMul, Nat.reduceMod, Nat.reduceSub, Nat.reduceBEq, Int.reduceLE, Int.reduceLT, Int.reduceEq, Int.reduceSub, Int.reduceAdd, Int.reduceToNat, Int.reduceNeg, m0, m1, m2, m3, e1, c2, s_imEdge_l0_M] <;> (repeat' apply And.intro) <;> first | rfl | exact ⟨_, rfl⟩ | simp [lst, cat2_nil]
  ·intro ex4 s4 hX4
   rcases r4_ with q4_ | q4_
   ·unfold s_imEdge_l0_X at hX4
    dsimp only at hX4 h
    obtain ⟨rfl, n4_0, n4_1, n4_2⟩ := hX4
    obtain rfl := Option.some.inj h
    simp (maxDischargeDepth := 9) only [↓xpre, xpost, xlst, xc2, xcore, yset, rg0, ↓reduceIte, Nat.reduceEqDiff, Nat.reduceLT, Nat.reduceLeDiff, Nat.reduceAdd, Nat.reduceMul, Nat.reduceMod, Nat.reduceSub, Nat.reduceBEq, Int.reduceLE, Int.reduceLT, Int.reduceEq, Int.reduceSub, Int.reduceAdd, Int.reduceToNat, Int.reduceNeg, e1, c2, n4_0, n4_1, n4_2, s_imEdge_l1_M, s_imEdge_l1_X, sxN, sxE, sxR] <;> (repeat' apply And.intro) <;> first | rfl | exact ⟨_, rfl⟩ | simp [lst, cat2_nil]
   ·unfold s_imEdge_l0_X at hX4
    dsimp only at hX4 h
    obtain ⟨rfl, n4_0, n4_1, n4_2, n4_3⟩ := hX4
    obtain rfl := Option.some.inj h
    simp (maxDischargeDepth := 9) only [↓xpre, xpost, xlst, xc2, xcore, yset, rg0, ↓reduceIte, Nat.reduceEqDiff, Nat.reduceLT, Nat.reduceLeDiff, Nat.reduceAdd, Nat.reduceMul, Nat.reduceMod, Nat.reduceSub, Nat.reduceBEq, Int.reduceLE, Int.reduceLT, Int.reduceEq, Int.reduceSub, Int.reduceAdd, Int.reduceToNat, Int.reduceNeg, e1, c2, n4_0, n4_1, n4_2, n4_3, s_imEdge_l1_M, s_imEdge_l1_X, sxN, sxE, sxR] <;> (repeat' apply And.intro) <;> first | rfl | exact ⟨_, rfl⟩ | simp [lst, cat2_nil]
 ·rw [if_neg e1] at h
  obtain rfl := Option.some.inj h
  simp (maxDischargeDepth := 9) only [↓xpre, xpost, xlst, xc2, xcore, yset, rg0, ↓reduceIte, Nat.reduceEqDiff, Nat.reduceLT, Nat.reduceLeDiff, Nat.reduceAdd, Nat.reduceMul, Nat.reduceMod, Nat.reduceSub, Nat.reduceBEq, Int.reduceLE, Int.reduceLT, Int.reduceEq, Int.reduceSub, Int.reduceAdd, Int.reduceToNat, Int.reduceNeg, m0, m1, m2, m3, e1, s_imEdge_l1_M, s_imEdge_l1_X, sxN, sxE, sxR] <;> (repeat' apply And.intro) <;> first | rfl | exact ⟨_, rfl⟩ | simp [lst, cat2_nil]
theorem s_imEdge_call (n_Ends : List (List (Int × Int))) (n_Ids : List Int) (n_Inputs : List Int) (l : List Int) {r : Int × Int × Bool} (h : s_imEdge n_Ends n_Ids n_Inputs l = some r) : Y.call 98 [D.agg [D.sl 93 (lst (fun x => D.sl 95 (cat2 .i64 .i64 x)) n_Ends), D.sl 3 (lst (D.int .i64) n_Ids), D.sl 3 (lst (D.int .i64) n_Inputs)], D.sl 3 (lst (D.int .i64) l)] [] = some (D.tup [D.int .i64 r.1, D.int .i64 r.2.1, D.bool r.2.2], []) := by
 refine c98 ?_ rfl
 unfold k98
 unfold s_imEdge at h
 obtain ⟨r2_, hl2, h⟩ := bindS h
 try dsimp only at h
 simp (maxDischargeDepth := 9) only [↓xpre, xpost, xlst, xc2, xcore, yset, rg0, ↓reduceIte, Nat.reduceEqDiff, Nat.reduceLT, Nat.reduceLeDiff, Nat.reduceAdd, Nat.reduceMul, Nat.reduceMod, Nat.reduceSub, Nat.reduceBEq, Int.reduceLE, Int.reduceLT, Int.reduceEq, Int.reduceSub, Int.reduceAdd, Int.reduceToNat, Int.reduceNeg]
 refine wd_mono (s_imEdge_l1_wp n_Ends n_Ids n_Inputs l hl2 ?_) ?_
 ·simp (maxDischargeDepth := 9) only [↓xpre, xpost, xlst, xc2, xcore, yset, rg0, ↓reduceIte, Nat.reduceEqDiff, Nat.reduceLT, Nat.reduceLeDiff, Nat.reduceAdd, Nat.reduceMul, Nat.reduceMod, Nat.reduceSub, Nat.reduceBEq, Int.reduceLE, Int.reduceLT, Int.reduceEq, Int.reduceSub, Int.reduceAdd, Int.reduceToNat, Int.reduceNeg, s_imEdge_l1_M] <;> (repeat' apply And.intro) <;> first | rfl | exact ⟨_, rfl⟩ | simp [lst, cat2_nil]
 ·intro ex2 s2 hX2
  rcases r2_ with q2_ | q2_
  ·unfold s_imEdge_l1_X at hX2
   dsimp only at hX2 h
   obtain ⟨rfl, n2_0, n2_1, n2_2⟩ := hX2
   obtain rfl := Option.some.inj h
   simp (maxDischargeDepth := 9) only [↓xpre, xpost, xlst, xc2, xcore, yset, rg0, ↓reduceIte, Nat.reduceEqDiff, Nat.reduceLT, Nat.reduceLeDiff, Nat.reduceAdd, Nat.reduceMul, Nat.reduceMod, Nat.reduceSub, Nat.reduceBEq, Int.reduceLE, Int.reduceLT, Int.reduceEq, Int.reduceSub, Int.reduceAdd, Int.reduceToNat, Int.reduceNeg, n2_0, n2_1, n2_2] <;> (repeat' apply And.intro) <;> first | rfl | exact ⟨_, rfl⟩ | simp [lst, cat2_nil]
  ·unfold s_imEdge_l1_X at hX2
   dsimp only at hX2 h
   obtain rfl := hX2
   obtain rfl := Option.some.inj h
   simp (maxDischargeDepth := 9) only [↓xpre, xpost, xlst, xc2, xcore, yset, rg0, ↓reduceIte, Nat.reduceEqDiff, Nat.reduceLT, Nat.reduceLeDiff, Nat.reduceAdd, Nat.reduceMul, Nat.reduceMod, Nat.reduceSub, Nat.reduceBEq, Int.reduceLE, Int.reduceLT, Int.reduceEq, Int.reduceSub, Int.reduceAdd, Int.reduceToNat, Int.reduceNeg] <;> (repeat' apply And.intro) <;> first | rfl | exact ⟨_, rfl⟩ | simp [lst, cat2_nil]

noncomputable def s_imPair_l0_S (l : List Int) (t9_ : Int) (v_ : Int) : Option ((Int) ⊕ (Int ⊕ Unit)) :=
 if v_ < (l.length : Int) then
  ck (0 ≤ t9_ ∧ t9_.toNat < l.length) <|
  ck (0 ≤ v_ ∧ v_.toNat < l.length) <|
  if (l.getD t9_.toNat default) = (l.getD v_.toNat default) then
   some (Sum.inr (Sum.inl v_))
  else
   some (Sum.inl (IntKind.i64.wrap (v_ + 1)))
 else
  some (Sum.inr (Sum.inr ()))
noncomputable def s_imPair_l0 (l : List Int) (t9_ : Int) (v : Int) : Option (Int ⊕ Unit) := itO (fun v => s_imPair_l0_S l t9_ v) v
noncomputable def s_imPair_l1_S (l : List Int) (t9_ : Int) : Option ((Int) ⊕ ((Int × Int) ⊕ Unit)) :=
 if t9_ < (l.length : Int) then
  (s_imPair_l0 l t9_ (IntKind.i64.wrap (t9_ + 1))).bind fun r3_ =>
  match r3_ with
  | .inl q3_ =>
   some (Sum.inr (Sum.inl (t9_, q3_)))
  | .inr q3_ =>
   some (Sum.inl (IntKind.i64.wrap (t9_ + 1)))
 else
  some (Sum.inr (Sum.inr ()))
noncomputable def s_imPair_l1 (l : List Int) (v : Int) : Option ((Int × Int) ⊕ Unit) := itO (fun v => s_imPair_l1_S l v) v
noncomputable def s_imPair (l : List Int) : Option (Int × Int × Bool) :=
 (s_imPair_l1 l 0).bind fun r2_ =>
 match r2_ with
 | .inl q2_ =>
  some (q2_.1, q2_.2, true)
 | .inr q2_ =>
  some (0, 0, false)
/-- spec.imPair -/
def k99_l0b : SC :=
 .seq
 (.seq
 (.ops [
 ⟨(some 14), (.move (.tmp 6)), 3, none⟩,
 ⟨(some 15), (.move (.tmp 0)), 23, none⟩,
 ⟨(some 16), (.call ⟨(.builtin .len), #[(.tmp 15)], #[23]⟩), 3, none⟩,
 ⟨(some 17), (.binOp .lss 3 (.tmp 14) (.tmp 16) 3), 4, none⟩])
 (.cond (.tmp 17)
 .skip
 (.exit 2)))
 (.seq
 (.block 3
 (.seq
 (.draws [
 (⟨[20, 0, 0], [20, 21, 22, 23, 24, 25, 26, 27, 28], [20]⟩, ⟨(some 20), (.move (.tmp 0)), 23, none⟩),
 (⟨[21, 5, 5], [20, 21, 22, 23, 24, 25, 26, 27, 28], [21]⟩, ⟨(some 21), (.move (.tmp 5)), 3, none⟩),
 (⟨[22, 20, 21, 0, 5], [20, 21, 22, 23, 24, 25, 26, 27, 28], [22]⟩, ⟨(some 22), (.indexAddr 23 (.tmp 20) (.tmp 21)), 0, none⟩),
 (⟨[23, 22, 0], [20, 21, 22, 23, 24, 25, 26, 27, 28], [23]⟩, ⟨(some 23), (.load 3 (.tmp 22)), 3, none⟩),
 (⟨[24, 0, 0], [20, 21, 22, 23, 24, 25, 26, 27, 28], [24]⟩, ⟨(some 24), (.move (.tmp 0)), 23, none⟩),
 (⟨[25, 6, 6], [20, 21, 22, 23, 24, 25, 26, 27, 28], [25]⟩, ⟨(some 25), (.move (.tmp 6)), 3, none⟩),
 (⟨[26, 24, 25, 0, 6], [20, 21, 22, 23, 24, 25, 26, 27, 28], [26]⟩, ⟨(some 26), (.indexAddr 23 (.tmp 24) (.tmp 25)), 0, none⟩),
 (⟨[27, 26, 0], [20, 21, 22, 23, 24, 25, 26, 27, 28], [27]⟩, ⟨(some 27), (.load 3 (.tmp 26)), 3, none⟩),
 (⟨[28, 23, 27, 0, 0], [20, 21, 22, 23, 24, 25, 26, 27, 28], [28]⟩, ⟨(some 28), (.binOp .eql 3 (.tmp 23) (.tmp 27) 3), 4, none⟩)])
 (.cond (.tmp 28)
 (.seq
 (.ops [
 ⟨(some 29), (.move (.tmp 5)), 3, none⟩,
 ⟨(some 30), (.move (.tmp 6)), 3, none⟩,
 ⟨(some 2), (.assign (.tmp 29)), 3, none⟩,
 ⟨(some 3), (.assign (.tmp 30)), 3, none⟩,
 ⟨(some 4), (.assign (.const (.bool true))), 4, none⟩])
 .ret)
 .skip)))
 (.ops [
 ⟨(some 18), (.move (.tmp 6)), 3, none⟩,
 ⟨(some 19), (.binOp .add 3 (.tmp 18) (.const (.int .i64 1)) 3), 3, none⟩,
 ⟨(some 6), (.assign (.tmp 19)), 3, none⟩]))
def k99_l0 : SC := .loop k99_l0b
def k99_l1b : SC :=
 .seq
 (.ops [
 ⟨(some 10), (.binOp .lss 3 (.tmp 9) (.tmp 8) 3), 0, none⟩])
 (.seq
 (.cond (.tmp 10)
 .skip
 (.exit 0))
 (.seq
 (.block 1
 (.seq
 (.ops [
 ⟨(some 11), (.move (.tmp 9)), 3, none⟩,
 ⟨(some 5), (.assign (.tmp 11)), 3, none⟩])
 (.seq
 (.ops [
 ⟨(some 12), (.move (.tmp 5)), 3, none⟩,
 ⟨(some 13), (.binOp .add 3 (.tmp 12) (.const (.int .i64 1)) 3), 3, none⟩,
 ⟨(some 6), (.assign (.tmp 13)), 3, none⟩])
 (.block 2
 k99_l0))))
 (.ops [
 ⟨(some 31), (.binOp .add 3 (.tmp 9) (.const (.int .i64 1)) 3), 3, none⟩,
 ⟨(some 9), (.move (.tmp 31)), 3, none⟩])))
def k99_l1 : SC := .loop k99_l1b
def k99 : SC :=
 .seq
 (.ops [
 ⟨(some 2), (.assign (.const (.int .i64 0))), 3, none⟩,
 ⟨(some 3), (.assign (.const (.int .i64 0))), 3, none⟩,
 ⟨(some 4), (.assign (.const (.bool false))), 4, none⟩])
 (.seq
 (.seq
 (.ops [
 ⟨(some 7), (.move (.tmp 0)), 23, none⟩,
 ⟨(some 8), (.call ⟨(.builtin .len), #[(.tmp 7)], #[23]⟩), 3, none⟩,
 ⟨(some 9), (.move (.const (.int .i64 0))), 3, none⟩])
 (.block 0
 k99_l1))
 (.seq
 (.ops [
 ⟨(some 2), (.assign (.const (.int .i64 0))), 3, none⟩,
 ⟨(some 3), (.assign (.const (.int .i64 0))), 3, none⟩,
 ⟨(some 4), (.assign (.const (.bool false))), 4, none⟩])
 .ret))
theorem slim99 : Try.f99.body.map (slim lends) = some k99 := by kernel_rfl
theorem ok99 : fnOk Try.f99 1 = true := by kernel_rfl
theorem c99 {a l : List D} {r : D × List D} (h : wpD Y.env k99 (fin tys l.length [ResultVar.tmp 2, ResultVar.tmp 3, ResultVar.tmp 4] r) (entry a l)) (ha : a.length = 1) : Y.call 99 a l = some r :=
 call_slim (Y := Y) rfl Try.func99 (ha ▸ ok99) slim99 h
def s_imPair_l0_M (l : List Int) (t9_ : Int) (v_ : Int) (s : St) : Prop := s.v 0 = D.sl 3 (lst (D.int .i64) l) ∧ s.v 5 = D.int .i64 t9_ ∧ s.v 6 = D.int .i64 v_ ∧ s.v 8 = D.int .i64 (l.length : Int) ∧ s.v 9 = D.int .i64 t9_
def s_imPair_l0_X (l : List Int) (t9_ : Int) (r : Int ⊕ Unit) (ex : Ex) (s : St) : Prop := match r with
 | .inl q => ex = .ret ∧ s.v 2 = D.int .i64 t9_ ∧ s.v 3 = D.int .i64 q ∧ s.v 4 = D.bool true
 | .inr q => ex = .exit 2 ∧ s.v 0 = D.sl 3 (lst (D.int .i64) l) ∧ s.v 8 = D.int .i64 (l.length : Int) ∧ s.v 9 = D.int .i64 t9_
theorem s_imPair_l0_wp (l : List Int) (t9_ : Int) {v : Int} {s : St} {r : Int ⊕ Unit} (h : s_imPair_l0 l t9_ v = some r) (hM : s_imPair_l0_M l t9_ v s) : wpD Y.env k99_l0 (s_imPair_l0_X l t9_ r) s := by
 unfold s_imPair_l0 at h
 refine wd_itO (c := k99_l0b) (fun v => s_imPair_l0_S l t9_ v) (fun v s => s_imPair_l0_M l t9_ v s) (s_imPair_l0_X l t9_) ?_ h hM
 clear h hM s v r
 intro v_ s o hM h
 unfold s_imPair_l0_S at h
 unfold s_imPair_l0_M at hM
 obtain ⟨m0, m1, m2, m3, m4⟩ := hM
 unfold k99_l0b
 by_cases e2 : v_ < (l.length : Int)
 ·rw [if_pos e2] at h
  obtain ⟨e3, h⟩ := ckS h
  obtain ⟨e4, h⟩ := ckS h
  by_cases e5 : (l.getD t9_.toNat default) = (l.getD v_.toNat default)
  ·rw [if_pos e5] at h
   obtain rfl := Option.some.inj h
   simp (maxDischargeDepth := 9) only [↓xpre, xpost, xlst, xc2, xcore, yset, rg0, ↓reduceIte, Nat.reduceEqDiff, Nat.reduceLT, Nat.reduceLeDiff, Nat.reduceAdd, Nat.reduceMul, Nat.reduceMod, Nat.reduceSub, Nat.reduceBEq, Int.reduceLE, Int.reduceLT, Int.reduceEq, Int.reduceSub, Int.reduceAdd, Int.reduceToNat, Int.reduceNeg, m0, m1, m2, m3, m4, e2, e3.1, e3.2, e4.1, e4.2, decide_eq_true e5, s_imPair_l0_M, s_imPair_l0_X, sxN, sxE, sxR] <;> (repeat' apply And.intro) <;> first | rfl | exact ⟨_, rfl⟩ | simp [lst, cat2_nil]
  ·rw [if_neg e5] at h
   obtain rfl := Option.some.inj h
   simp (maxDischargeDepth := 9) only [↓xpre, xpost, xlst, xc2, xcore, yset, rg0, ↓reduceIte, Nat.reduceEqDiff, Nat.reduceLT, Nat.reduceLeDiff, Nat.reduceAdd, Nat.reduceMul, Nat.reduceMod, Nat.reduceSub, Nat.reduceBEq, Int.reduceLE, Int.reduceLT, Int.reduceEq, Int.reduceSub, Int.reduceAdd, Int.reduceToNat, Int.reduceNeg, m0, m1, m2, m3, m4, e2, e3.1, e3.2, e4.1, e4.2, e5, s_imPair_l0_M, s_imPair_l0_X, sxN, sxE, sxR] <;> (repeat' apply And.intro) <;> first | rfl | exact ⟨_, rfl⟩ | simp [lst, cat2_nil]
 ·rw [if_neg e2] at h
  obtain rfl := Option.some.inj h
  simp (maxDischargeDepth := 9) only [↓xpre, xpost, xlst, xc2, xcore, yset, rg0, ↓reduceIte, Nat.reduceEqDiff, Nat.reduceLT, Nat.reduceLeDiff, Nat.reduceAdd, Nat.reduceMul, Nat.reduceMod, Nat.reduceSub, Nat.reduceBEq, Int.reduceLE, Int.reduceLT, Int.reduceEq, Int.reduceSub, Int.reduceAdd, Int.reduceToNat, Int.reduceNeg, m0, m1, m2, m3, m4, e2, s_imPair_l0_M, s_imPair_l0_X, sxN, sxE, sxR] <;> (repeat' apply And.intro) <;> first | rfl | exact ⟨_, rfl⟩ | simp [lst, cat2_nil]
def s_imPair_l1_M (l : List Int) (t9_ : Int) (s : St) : Prop := s.v 0 = D.sl 3 (lst (D.int .i64) l) ∧ s.v 8 = D.int .i64 (l.length : Int) ∧ s.v 9 = D.int .i64 t9_
def s_imPair_l1_X (l : List Int) (r : (Int × Int) ⊕ Unit) (ex : Ex) (s : St) : Prop := match r with
 | .inl q => ex = .ret ∧ s.v 2 = D.int .i64 q.1 ∧ s.v 3 = D.int .i64 q.2 ∧ s.v 4 = D.bool true
 | .inr q => ex = .exit 0
theorem s_imPair_l1_wp (l : List Int) {v : Int} {s : St} {r : (Int × Int) ⊕ Unit} (h : s_imPair_l1 l v = some r) (hM : s_imPair_l1_M l v s) : wpD Y.env k99_l1 (s_imPair_l1_X l r) s := by
 unfold s_imPair_l1 at h
 refine wd_itO (c := k99_l1b) (fun v => s_imPair_l1_S l v) (fun v s => s_imPair_l1_M l v s) (s_imPair_l1_X l) ?_ h hM
 clear h hM s v r
 intro t9_ s o hM h
 unfold s_imPair_l1_S at h
 unfold s_imPair_l1_M at hM
 obtain ⟨m0, m1, m2⟩ := hM
 unfold k99_l1b
 by_cases e1 : t9_ < (l.length : Int)
 ·rw [if_pos e1] at h
  obtain ⟨r3_, hl3, h⟩ := bindS h
  try dsimp only at h
  simp (maxDischargeDepth := 9) only [↓xpre, xpost, xlst, xc2, xcore, yset, rg0, ↓reduceIte, Nat.reduceEqDiff, Nat.reduceLT, Nat.reduceLeDiff, Nat.reduceAdd, Nat.reduceMul, Nat.reduceMod, Nat.reduceSub, Nat.reduceBEq, Int.reduceLE, Int.reduceLT, Int.reduceEq, Int.reduceSub, Int.reduceAdd, Int.reduceToNat, Int.reduceNeg, m0, m1, m2, e1]
  refine wd_mono (s_imPair_l0_wp l t9_ hl3 ?_) ?_
  ·simp (maxDischargeDepth := 9) only [↓xpre, xpost, xlst, xc2, xcore, yset, rg0, ↓reduceIte, Nat.reduceEqDiff, Nat.reduceLT, Nat.reduceLeDiff, Nat.reduceAdd, Nat.reduceMul, Nat.reduceMod, Nat.reduceSub, Nat.reduceBEq, Int.reduceLE, Int.reduceLT, Int.reduceEq, Int.reduceSub, Int.reduceAdd, Int.reduceToNat, Int.reduceNeg, m0, m1, m2, e1, s_imPair_l0_M] <;> (repeat' apply And.intro) <;> first | rfl | exact ⟨_, rfl⟩ | simp [lst, cat2_nil]
  ·intro ex3 s3 hX3
   rcases r3_ with q3_ | q3_
   ·unfold s_imPair_l0_X at hX3
    dsimp only at hX3 h
    obtain ⟨rfl, n3_0, n3_1, n3_2⟩ := hX3
    obtain rfl := Option.some.inj h
    simp (maxDischargeDepth := 9) only [↓xpre, xpost, xlst, xc2, xcore, yset, rg0, ↓reduceIte, Nat.reduceEqDiff, Nat.reduceLT, Nat.reduceLeDiff, Nat.reduceAdd, Nat.reduceMul, Nat.reduceMod, Nat.reduceSub, Nat.reduceBEq, Int.reduceLE, Int.reduceLT, Int.reduceEq, Int.reduceSub, Int.reduceAdd, Int.reduceToNat, Int.reduceNeg, e1, n3_0, n3_1, n3_2, s_imPair_l1_M, s_imPair_l1_X, sxN, sxE, sxR] <;> (repeat' apply And.intro) <;> first | rfl | exact ⟨_, rfl⟩ | simp [lst, cat2_nil]
   ·unfold s_imPair_l0_X at hX3
    dsimp only at hX3 h
    obtain ⟨rfl, n3_0, n3_1, n3_2⟩ := hX3
    obtain rfl := Option.some.inj h
    simp (maxDischargeDepth := 9) only [↓xpre, xpost, xlst, xc2, xcore, yset, rg0, ↓reduceIte, Nat.reduceEqDiff, Nat.reduceLT, Nat.reduceLeDiff, Nat.reduceAdd, Nat.reduceMul, Nat.reduceMod, Nat.reduceSub, Nat.reduceBEq, Int.reduceLE, Int.reduceLT, Int.reduceEq, Int.reduceSub, Int.reduceAdd, Int.reduceToNat, Int.reduceNeg, e1, n3_0, n3_1, n3_2, s_imPair_l1_M, s_imPair_l1_X, sxN, sxE, sxR] <;> (repeat' apply And.intro) <;> first | rfl | exact ⟨_, rfl⟩ | simp [lst, cat2_nil]
 ·rw [if_neg e1] at h
  obtain rfl := Option.some.inj h
  simp (maxDischargeDepth := 9) only [↓xpre, xpost, xlst, xc2, xcore, yset, rg0, ↓reduceIte, Nat.reduceEqDiff, Nat.reduceLT, Nat.reduceLeDiff, Nat.reduceAdd, Nat.reduceMul, Nat.reduceMod, Nat.reduceSub, Nat.reduceBEq, Int.reduceLE, Int.reduceLT, Int.reduceEq, Int.reduceSub, Int.reduceAdd, Int.reduceToNat, Int.reduceNeg, m0, m1, m2, e1, s_imPair_l1_M, s_imPair_l1_X, sxN, sxE, sxR] <;> (repeat' apply And.intro) <;> first | rfl | exact ⟨_, rfl⟩ | simp [lst, cat2_nil]
theorem s_imPair_call (l : List Int) {r : Int × Int × Bool} (h : s_imPair l = some r) : Y.call 99 [D.sl 3 (lst (D.int .i64) l)] [] = some (D.tup [D.int .i64 r.1, D.int .i64 r.2.1, D.bool r.2.2], []) := by
 refine c99 ?_ rfl
 unfold k99
 unfold s_imPair at h
 obtain ⟨r2_, hl2, h⟩ := bindS h
 try dsimp only at h
 simp (maxDischargeDepth := 9) only [↓xpre, xpost, xlst, xc2, xcore, yset, rg0, ↓reduceIte, Nat.reduceEqDiff, Nat.reduceLT, Nat.reduceLeDiff, Nat.reduceAdd, Nat.reduceMul, Nat.reduceMod, Nat.reduceSub, Nat.reduceBEq, Int.reduceLE, Int.reduceLT, Int.reduceEq, Int.reduceSub, Int.reduceAdd, Int.reduceToNat, Int.reduceNeg]
 refine wd_mono (s_imPair_l1_wp l hl2 ?_) ?_
 ·simp (maxDischargeDepth := 9) only [↓xpre, xpost, xlst, xc2, xcore, yset, rg0, ↓reduceIte, Nat.reduceEqDiff, Nat.reduceLT, Nat.reduceLeDiff, Nat.reduceAdd, Nat.reduceMul, Nat.reduceMod, Nat.reduceSub, Nat.reduceBEq, Int.reduceLE, Int.reduceLT, Int.reduceEq, Int.reduceSub, Int.reduceAdd, Int.reduceToNat, Int.reduceNeg, s_imPair_l1_M] <;> (repeat' apply And.intro) <;> first | rfl | exact ⟨_, rfl⟩ | simp [lst, cat2_nil]
 ·intro ex2 s2 hX2
  rcases r2_ with q2_ | q2_
  ·unfold s_imPair_l1_X at hX2
   dsimp only at hX2 h
   obtain ⟨rfl, n2_0, n2_1, n2_2⟩ := hX2
   obtain rfl := Option.some.inj h
   simp (maxDischargeDepth := 9) only [↓xpre, xpost, xlst, xc2, xcore, yset, rg0, ↓reduceIte, Nat.reduceEqDiff, Nat.reduceLT, Nat.reduceLeDiff, Nat.reduceAdd, Nat.reduceMul, Nat.reduceMod, Nat.reduceSub, Nat.reduceBEq, Int.reduceLE, Int.reduceLT, Int.reduceEq, Int.reduceSub, Int.reduceAdd, Int.reduceToNat, Int.reduceNeg, n2_0, n2_1, n2_2] <;> (repeat' apply And.intro) <;> first | rfl | exact ⟨_, rfl⟩ | simp [lst, cat2_nil]
  ·unfold s_imPair_l1_X at hX2
   dsimp only at hX2 h
   obtain rfl := hX2
   obtain rfl := Option.some.inj h
   simp (maxDischargeDepth := 9) only [↓xpre, xpost, xlst, xc2, xcore, yset, rg0, ↓reduceIte, Nat.reduceEqDiff, Nat.reduceLT, Nat.reduceLeDiff, Nat.reduceAdd, Nat.reduceMul, Nat.reduceMod, Nat.reduceSub, Nat.reduceBEq, Int.reduceLE, Int.reduceLT, Int.reduceEq, Int.reduceSub, Int.reduceAdd, Int.reduceToNat, Int.reduceNeg] <;> (repeat' apply And.intro) <;> first | rfl | exact ⟨_, rfl⟩ | simp [lst, cat2_nil]

noncomputable def s_imMeets_l0_S (outputs : List Int) (sum : Int) (t21_ : Int) : Option ((Int × Int) ⊕ (Int)) :=
 if t21_ < (outputs.length : Int) then
  ck (0 ≤ t21_ ∧ t21_.toNat < outputs.length) <|
  some (Sum.inl (IntKind.i64.wrap (sum + (outputs.getD t21_.toNat default)), IntKind.i64.wrap (t21_ + 1)))
 else
  some (Sum.inr sum)
noncomputable def s_imMeets_l0 (outputs : List Int) (v : Int × Int) : Option (Int) := itO (fun v => s_imMeets_l0_S outputs v.1 v.2) v
noncomputable def s_imMeets (n_Ends : List (List (Int × Int))) (n_Ids : List Int) (n_Inputs : List Int) (task : Int) (outputs : List Int) : Option (Bool) :=
 if task = 1 then
  (s_imMeets_l0 outputs (0, 0)).bind fun r3_ =>
  ck (outputs.length < 1099511627776) <|
  if (allIn outputs (0 : Int) (1 : Int)) = true then
   some (decide (r3_ = 1))
  else
   some false
 else
  if task = 2 then
   (s_imEdge n_Ends n_Ids n_Inputs outputs).bind fun r3_ =>
   some (!r3_.2.2)
  else
   (s_imPair outputs).bind fun r3_ =>
   some (!r3_.2.2)
/-- spec.imMeets -/
def k57_l0b : SC :=
 .seq
 (.ops [
 ⟨(some 22), (.binOp .lss 3 (.tmp 21) (.tmp 20) 3), 0, none⟩])
 (.seq
 (.cond (.tmp 22)
 .skip
 (.exit 1))
 (.seq
 (.block 2
 (.seq
 (.ops [
 ⟨(some 23), (.indexAddr 23 (.tmp 19) (.tmp 21)), 0, none⟩,
 ⟨(some 24), (.load 3 (.tmp 23)), 3, none⟩,
 ⟨(some 9), (.assign (.tmp 24)), 3, none⟩])
 (.ops [
 ⟨(some 25), (.move (.tmp 7)), 3, none⟩,
 ⟨(some 26), (.move (.tmp 9)), 3, none⟩,
 ⟨(some 27), (.binOp .add 3 (.tmp 25) (.tmp 26) 3), 3, none⟩,
 ⟨(some 7), (.assign (.tmp 27)), 3, none⟩])))
 (.ops [
 ⟨(some 28), (.binOp .add 3 (.tmp 21) (.const (.int .i64 1)) 3), 3, none⟩,
 ⟨(some 21), (.move (.tmp 28)), 3, none⟩])))
def k57_l0 : SC := .loop k57_l0b
def k57 : SC :=
 .seq
 (.ops [
 ⟨(some 3), (.box 29 (.tmp 0)), 0, none⟩,
 ⟨(some 6), (.assign (.const (.bool false))), 4, none⟩])
 (.seq
 (.seq
 (.ops [
 ⟨(some 16), (.move (.tmp 1)), 3, none⟩])
 (.block 0
 (.seq
 (.ops [
 ⟨(some 18), (.binOp .eql 3 (.tmp 16) (.const (.int .i64 1)) 3), 4, none⟩,
 ⟨(some 17), (.assign (.tmp 18)), 4, none⟩])
 (.cond (.tmp 17)
 (.seq
 (.ops [
 ⟨(some 7), (.assign (.const (.int .i64 0))), 3, none⟩])
 (.seq
 (.seq
 (.ops [
 ⟨(some 19), (.move (.tmp 2)), 23, none⟩,
 ⟨(some 20), (.call ⟨(.builtin .len), #[(.tmp 19)], #[23]⟩), 3, none⟩,
 ⟨(some 21), (.move (.const (.int .i64 0))), 3, none⟩])
 (.block 1
 k57_l0))
 (.seq
 (.ops [
 ⟨(some 29), (.move (.tmp 2)), 23, none⟩,
 ⟨(some 30), (.call ⟨(.value (.func 75)), #[(.tmp 29), (.const (.int .i64 0)), (.const (.int .i64 1))], #[23, 3, 3]⟩), 4, none⟩,
 ⟨(some 31), (.move (.tmp 30)), 4, none⟩,
 ⟨(some 32), (.move (.tmp 7)), 3, (some (some 31, true))⟩,
 ⟨(some 33), (.binOp .eql 3 (.tmp 32) (.const (.int .i64 1)) 3), 4, (some (some 31, true))⟩,
 ⟨(some 34), (.pick (.tmp 31) (.tmp 33) (.const (.bool false))), 4, none⟩,
 ⟨(some 6), (.assign (.tmp 34)), 4, none⟩])
 .ret)))
 (.seq
 (.ops [
 ⟨(some 36), (.binOp .eql 3 (.tmp 16) (.const (.int .i64 2)) 3), 4, none⟩,
 ⟨(some 35), (.assign (.tmp 36)), 4, none⟩])
 (.cond (.tmp 35)
 (.seq
 (.ops [
 ⟨(some 38), (.load 29 (.tmp 3)), 29, none⟩,
 ⟨(some 39), (.move (.tmp 2)), 23, none⟩,
 ⟨(some 40), (.call ⟨(.value (.func 98)), #[(.tmp 38), (.tmp 39)], #[29, 23]⟩), 109, none⟩,
 ⟨(some 37), (.move (.tmp 40)), 109, none⟩,
 ⟨(some 41), (.extract (.tmp 37) 0), 3, none⟩,
 ⟨(some 42), (.extract (.tmp 37) 1), 3, none⟩,
 ⟨(some 43), (.extract (.tmp 37) 2), 4, none⟩,
 ⟨(some 10), (.assign (.tmp 41)), 3, none⟩,
 ⟨(some 11), (.assign (.tmp 42)), 3, none⟩,
 ⟨(some 12), (.assign (.tmp 43)), 4, none⟩])
 (.seq
 (.ops [
 ⟨(some 44), (.move (.tmp 12)), 4, none⟩,
 ⟨(some 45), (.unOp .not 4 (.tmp 44)), 4, none⟩,
 ⟨(some 6), (.assign (.tmp 45)), 4, none⟩])
 .ret))
 .skip))))))
 (.seq
 (.ops [
 ⟨(some 47), (.move (.tmp 2)), 23, none⟩,
 ⟨(some 48), (.call ⟨(.value (.func 99)), #[(.tmp 47)], #[23]⟩), 109, none⟩,
 ⟨(some 46), (.move (.tmp 48)), 109, none⟩,
 ⟨(some 49), (.extract (.tmp 46) 0), 3, none⟩,
 ⟨(some 50), (.extract (.tmp 46) 1), 3, none⟩,
 ⟨(some 51), (.extract (.tmp 46) 2), 4, none⟩,
 ⟨(some 13), (.assign (.tmp 49)), 3, none⟩,
 ⟨(some 14), (.assign (.tmp 50)), 3, none⟩,
 ⟨(some 15), (.assign (.tmp 51)), 4, none⟩])
 (.seq
 (.ops [
 ⟨(some 52), (.move (.tmp 15)), 4, none⟩,
 ⟨(some 53), (.unOp .not 4 (.tmp 52)), 4, none⟩,
 ⟨(some 6), (.assign (.tmp 53)), 4, none⟩])
 .ret)))
theorem slim57 : Try.f57.body.map (slim lends) = some k57 := by kernel_rfl
theorem ok57 : fnOk Try.f57 3 = true := by kernel_rfl
theorem c57 {a l : List D} {r : D × List D} (h : wpD Y.env k57 (fin tys l.length [ResultVar.tmp 6] r) (entry a l)) (ha : a.length = 3) : Y.call 57 a l = some r :=
 call_slim (Y := Y) rfl Try.func57 (ha ▸ ok57) slim57 h
def s_imMeets_l0_M (outputs : List Int) (sum : Int) (t21_ : Int) (s : St) : Prop := s.v 2 = D.sl 3 (lst (D.int .i64) outputs) ∧ s.v 7 = D.int .i64 sum ∧ s.v 19 = D.sl 3 (lst (D.int .i64) outputs) ∧ s.v 20 = D.int .i64 (outputs.length : Int) ∧ s.v 21 = D.int .i64 t21_
def s_imMeets_l0_X (outputs : List Int) (r : Int) (ex : Ex) (s : St) : Prop := ex = .exit 1 ∧ s.v 2 = D.sl 3 (lst (D.int .i64) outputs) ∧ s.v 7 = D.int .i64 r
theorem s_imMeets_l0_wp (outputs : List Int) {v : Int × Int} {s : St} {r : Int} (h : s_imMeets_l0 outputs v = some r) (hM : s_imMeets_l0_M outputs v.1 v.2 s) : wpD Y.env k57_l0 (s_imMeets_l0_X outputs r) s := by
 unfold s_imMeets_l0 at h
 refine wd_itO (c := k57_l0b) (fun v => s_imMeets_l0_S outputs v.1 v.2) (fun v s => s_imMeets_l0_M outputs v.1 v.2 s) (s_imMeets_l0_X outputs) ?_ h hM
 clear h hM s v r
 intro v s o hM h
 obtain ⟨sum, t21_⟩ := v
 dsimp only at h hM
 unfold s_imMeets_l0_S at h
 unfold s_imMeets_l0_M at hM
 obtain ⟨m0, m1, m2, m3, m4⟩ := hM
 unfold k57_l0b
 by_cases e2 : t21_ < (outputs.length : Int)
 ·rw [if_pos e2] at h
  obtain ⟨e3, h⟩ := ckS h
  obtain rfl := Option.some.inj h
  simp (maxDischargeDepth := 9) only [↓xpre, xpost, xlst, xc2, xcore, yset, rg0, ↓reduceIte, Nat.reduceEqDiff, Nat.reduceLT, Nat.reduceLeDiff, Nat.reduceAdd, Nat.reduceMul, Nat.reduceMod, Nat.reduceSub, Nat.reduceBEq, Int.reduceLE, Int.reduceLT, Int.reduceEq, Int.reduceSub, Int.reduceAdd, Int.reduceToNat, Int.reduceNeg, m0, m1, m2, m3, m4, e2, e3.1, e3.2, s_imMeets_l0_M, s_imMeets_l0_X, sxN, sxE, sxR] <;> (repeat' apply And.intro) <;> first | rfl | exact ⟨_, rfl⟩ | simp [lst, cat2_nil]
 ·rw [if_neg e2] at h
  obtain rfl := Option.some.inj h
  simp (maxDischargeDepth := 9) only [↓xpre, xpost, xlst, xc2, xcore, yset, rg0, ↓reduceIte, Nat.reduceEqDiff, Nat.reduceLT, Nat.reduceLeDiff, Nat.reduceAdd, Nat.reduceMul, Nat.reduceMod, Nat.reduceSub, Nat.reduceBEq, Int.reduceLE, Int.reduceLT, Int.reduceEq, Int.reduceSub, Int.reduceAdd, Int.reduceToNat, Int.reduceNeg, m0, m1, m2, m3, m4, e2, s_imMeets_l0_M, s_imMeets_l0_X, sxN, sxE, sxR] <;> (repeat' apply And.intro) <;> first | rfl | exact ⟨_, rfl⟩ | simp [lst, cat2_nil]
theorem s_imMeets_call (n_Ends : List (List (Int × Int))) (n_Ids : List Int) (n_Inputs : List Int) (task : Int) (outputs : List Int) {r : Bool} (h : s_imMeets n_Ends n_Ids n_Inputs task outputs = some r) : Y.call 57 [D.agg [D.sl 93 (lst (fun x => D.sl 95 (cat2 .i64 .i64 x)) n_Ends), D.sl 3 (lst (D.int .i64) n_Ids), D.sl 3 (lst (D.int .i64) n_Inputs)], D.int .i64 task, D.sl 3 (lst (D.int .i64) outputs)] [] = some (D.bool r, []) := by
 refine c57 ?_ rfl
 unfold k57
 unfold s_imMeets at h
 by_cases e1 : task = 1
 ·rw [if_pos e1] at h
  obtain ⟨r3_, hl3, h⟩ := bindS h
  try dsimp only at h
  simp (maxDischargeDepth := 9) only [↓xpre, xpost, xlst, xc2, xcore, yset, rg0, ↓reduceIte, Nat.reduceEqDiff, Nat.reduceLT, Nat.reduceLeDiff, Nat.reduceAdd, Nat.reduceMul, Nat.reduceMod, Nat.reduceSub, Nat.reduceBEq, Int.reduceLE, Int.reduceLT, Int.reduceEq, Int.reduceSub, Int.reduceAdd, Int.reduceToNat, Int.reduceNeg, decide_eq_true e1]
  refine wd_mono (s_imMeets_l0_wp outputs hl3 ?_) ?_
  ·simp (maxDischargeDepth := 9) only [↓xpre, xpost, xlst, xc2, xcore, yset, rg0, ↓reduceIte, Nat.reduceEqDiff, Nat.reduceLT, Nat.reduceLeDiff, Nat.reduceAdd, Nat.reduceMul, Nat.reduceMod, Nat.reduceSub, Nat.reduceBEq, Int.reduceLE, Int.reduceLT, Int.reduceEq, Int.reduceSub, Int.reduceAdd, Int.reduceToNat, Int.reduceNeg, decide_eq_true e1, s_imMeets_l0_M] <;> (repeat' apply And.intro) <;> first | rfl | exact ⟨_, rfl⟩ | simp [lst, cat2_nil]
  ·intro ex3 s3 hX3
   unfold s_imMeets_l0_X at hX3
   obtain ⟨rfl, n3_0, n3_1⟩ := hX3
   obtain ⟨e4, h⟩ := ckS h
   have c5 := s_l1All_cl outputs (0 : Int) (1 : Int) e4
   by_cases e6 : (allIn outputs (0 : Int) (1 : Int)) = true
   ·rw [if_pos e6] at h
    obtain rfl := Option.some.inj h
    simp (maxDischargeDepth := 9) only [↓xpre, xpost, xlst, xc2, xcore, yset, rg0, ↓reduceIte, Nat.reduceEqDiff, Nat.reduceLT, Nat.reduceLeDiff, Nat.reduceAdd, Nat.reduceMul, Nat.reduceMod, Nat.reduceSub, Nat.reduceBEq, Int.reduceLE, Int.reduceLT, Int.reduceEq, Int.reduceSub, Int.reduceAdd, Int.reduceToNat, Int.reduceNeg, decide_eq_true e1, n3_0, n3_1, e4, c5, e6] <;> (repeat' apply And.intro) <;> first | rfl | exact ⟨_, rfl⟩ | simp [lst, cat2_nil]
   ·rw [if_neg e6] at h
    have e6f : (allIn outputs (0 : Int) (1 : Int)) = false := Bool.eq_false_iff.mpr e6
    obtain rfl := Option.some.inj h
    simp (maxDischargeDepth := 9) only [↓xpre, xpost, xlst, xc2, xcore, yset, rg0, ↓reduceIte, Nat.reduceEqDiff, Nat.reduceLT, Nat.reduceLeDiff, Nat.reduceAdd, Nat.reduceMul, Nat.reduceMod, Nat.reduceSub, Nat.reduceBEq, Int.reduceLE, Int.reduceLT, Int.reduceEq, Int.reduceSub, Int.reduceAdd, Int.reduceToNat, Int.reduceNeg, decide_eq_true e1, n3_0, n3_1, e4, c5, e6f] <;> (repeat' apply And.intro) <;> first | rfl | exact ⟨_, rfl⟩ | simp [lst, cat2_nil]
 ·rw [if_neg e1] at h
  by_cases e2 : task = 2
  ·rw [if_pos e2] at h
   obtain ⟨r3_, hl3, h⟩ := bindS h
   try dsimp only at h
   have c3 := s_imEdge_call n_Ends n_Ids n_Inputs outputs hl3
   obtain rfl := Option.some.inj h
   simp (maxDischargeDepth := 9) only [↓xpre, xpost, xlst, xc2, xcore, yset, rg0, ↓reduceIte, Nat.reduceEqDiff, Nat.reduceLT, Nat.reduceLeDiff, Nat.reduceAdd, Nat.reduceMul, Nat.reduceMod, Nat.reduceSub, Nat.reduceBEq, Int.reduceLE, Int.reduceLT, Int.reduceEq, Int.reduceSub, Int.reduceAdd, Int.reduceToNat, Int.reduceNeg, e1, decide_eq_true e2, c3] <;> (repeat' apply And.intro) <;> first | rfl | exact ⟨_, rfl⟩ | simp [lst, cat2_nil]
  ·rw [if_neg e2] at h
   obtain ⟨r3_, hl3, h⟩ := bindS h
   try dsimp only at h
   have c3 := s_imPair_call outputs hl3
   obtain rfl := Option.some.inj h
   simp (maxDischargeDepth := 9) only [↓xpre, xpost, xlst, xc2, xcore, yset, rg0, ↓reduceIte, Nat.reduceEqDiff, Nat.reduceLT, Nat.reduceLeDiff, Nat.reduceAdd, Nat.reduceMul, Nat.reduceMod, Nat.reduceSub, Nat.reduceBEq, Int.reduceLE, Int.reduceLT, Int.reduceEq, Int.reduceSub, Int.reduceAdd, Int.reduceToNat, Int.reduceNeg, e1, e2, c3] <;> (repeat' apply And.intro) <;> first | rfl | exact ⟨_, rfl⟩ | simp [lst, cat2_nil]

noncomputable def s_MeetsTask (n_Ends : List (List (Int × Int))) (n_Ids : List Int) (n_Inputs : List Int) (task : Int) (outputs : List Int) : Option (Bool × Bool) :=
 (s_taOuts n_Ends n_Ids n_Inputs outputs).bind fun r1_ =>
 if r1_ = true then
  (s_imTask task).bind fun r3_ =>
  if r3_ = true then
   (s_imMeets n_Ends n_Ids n_Inputs task outputs).bind fun r5_ =>
   some (r5_, true)
  else
   some (false, false)
 else
  some (false, false)
/-- spec.MeetsTask -/
def k23 : SC :=
 .seq
 (.ops [
 ⟨(some 3), (.box 29 (.tmp 0)), 0, none⟩,
 ⟨(some 6), (.assign (.const (.bool false))), 4, none⟩,
 ⟨(some 7), (.assign (.const (.bool false))), 4, none⟩])
 (.seq
 (.seq
 (.ops [
 ⟨(some 8), (.load 29 (.tmp 3)), 29, none⟩,
 ⟨(some 9), (.move (.tmp 2)), 23, none⟩,
 ⟨(some 10), (.call ⟨(.value (.func 55)), #[(.tmp 8), (.tmp 9)], #[29, 23]⟩), 4, none⟩,
 ⟨(some 11), (.unOp .not 4 (.tmp 10)), 4, none⟩,
 ⟨(some 12), (.move (.tmp 11)), 4, none⟩,
 ⟨(some 13), (.move (.tmp 1)), 3, (some (some 12, false))⟩,
 ⟨(some 14), (.call ⟨(.value (.func 56)), #[(.tmp 13)], #[3]⟩), 4, (some (some 12, false))⟩,
 ⟨(some 15), (.unOp .not 4 (.tmp 14)), 4, (some (some 12, false))⟩,
 ⟨(some 16), (.pick (.tmp 12) (.const (.bool true)) (.tmp 15)), 4, none⟩])
 (.cond (.tmp 16)
 (.seq
 (.ops [
 ⟨(some 6), (.assign (.const (.bool false))), 4, none⟩,
 ⟨(some 7), (.assign (.const (.bool false))), 4, none⟩])
 .ret)
 .skip))
 (.seq
 (.ops [
 ⟨(some 17), (.load 29 (.tmp 3)), 29, none⟩,
 ⟨(some 18), (.move (.tmp 1)), 3, none⟩,
 ⟨(some 19), (.move (.tmp 2)), 23, none⟩,
 ⟨(some 20), (.call ⟨(.value (.func 57)), #[(.tmp 17), (.tmp 18), (.tmp 19)], #[29, 3, 23]⟩), 4, none⟩,
 ⟨(some 6), (.assign (.tmp 20)), 4, none⟩,
 ⟨(some 7), (.assign (.const (.bool true))), 4, none⟩])
 .ret))
theorem slim23 : Try.f23.body.map (slim lends) = some k23 := by kernel_rfl
theorem ok23 : fnOk Try.f23 3 = true := by kernel_rfl
theorem c23 {a l : List D} {r : D × List D} (h : wpD Y.env k23 (fin tys l.length [ResultVar.tmp 6, ResultVar.tmp 7] r) (entry a l)) (ha : a.length = 3) : Y.call 23 a l = some r :=
 call_slim (Y := Y) rfl Try.func23 (ha ▸ ok23) slim23 h
theorem s_MeetsTask_call (n_Ends : List (List (Int × Int))) (n_Ids : List Int) (n_Inputs : List Int) (task : Int) (outputs : List Int) {r : Bool × Bool} (h : s_MeetsTask n_Ends n_Ids n_Inputs task outputs = some r) : Y.call 23 [D.agg [D.sl 93 (lst (fun x => D.sl 95 (cat2 .i64 .i64 x)) n_Ends), D.sl 3 (lst (D.int .i64) n_Ids), D.sl 3 (lst (D.int .i64) n_Inputs)], D.int .i64 task, D.sl 3 (lst (D.int .i64) outputs)] [] = some (D.tup [D.bool r.1, D.bool r.2], []) := by
 refine c23 ?_ rfl
 unfold k23
 unfold s_MeetsTask at h
 obtain ⟨r1_, hl1, h⟩ := bindS h
 try dsimp only at h
 have c1 := s_taOuts_call n_Ends n_Ids n_Inputs outputs hl1
 by_cases e2 : r1_ = true
 ·rw [if_pos e2] at h
  obtain ⟨r3_, hl3, h⟩ := bindS h
  try dsimp only at h
  have c3 := s_imTask_call task hl3
  by_cases e4 : r3_ = true
  ·rw [if_pos e4] at h
   obtain ⟨r5_, hl5, h⟩ := bindS h
   try dsimp only at h
   have c5 := s_imMeets_call n_Ends n_Ids n_Inputs task outputs hl5
   obtain rfl := Option.some.inj h
   simp (maxDischargeDepth := 9) only [↓xpre, xpost, xlst, xc2, xcore, yset, rg0, ↓reduceIte, Nat.reduceEqDiff, Nat.reduceLT, Nat.reduceLeDiff, Nat.reduceAdd, Nat.reduceMul, Nat.reduceMod, Nat.reduceSub, Nat.reduceBEq, Int.reduceLE, Int.reduceLT, Int.reduceEq, Int.reduceSub, Int.reduceAdd, Int.reduceToNat, Int.reduceNeg, c1, e2, c3, e4, c5] <;> (repeat' apply And.intro) <;> first | rfl | exact ⟨_, rfl⟩ | simp [lst, cat2_nil]
  ·rw [if_neg e4] at h
   have e4f : r3_ = false := Bool.eq_false_iff.mpr e4
   obtain rfl := Option.some.inj h
   simp (maxDischargeDepth := 9) only [↓xpre, xpost, xlst, xc2, xcore, yset, rg0, ↓reduceIte, Nat.reduceEqDiff, Nat.reduceLT, Nat.reduceLeDiff, Nat.reduceAdd, Nat.reduceMul, Nat.reduceMod, Nat.reduceSub, Nat.reduceBEq, Int.reduceLE, Int.reduceLT, Int.reduceEq, Int.reduceSub, Int.reduceAdd, Int.reduceToNat, Int.reduceNeg, c1, e2, c3, e4f] <;> (repeat' apply And.intro) <;> first | rfl | exact ⟨_, rfl⟩ | simp [lst, cat2_nil]
 ·rw [if_neg e2] at h
  have e2f : r1_ = false := Bool.eq_false_iff.mpr e2
  obtain rfl := Option.some.inj h
  simp (maxDischargeDepth := 9) only [↓xpre, xpost, xlst, xc2, xcore, yset, rg0, ↓reduceIte, Nat.reduceEqDiff, Nat.reduceLT, Nat.reduceLeDiff, Nat.reduceAdd, Nat.reduceMul, Nat.reduceMod, Nat.reduceSub, Nat.reduceBEq, Int.reduceLE, Int.reduceLT, Int.reduceEq, Int.reduceSub, Int.reduceAdd, Int.reduceToNat, Int.reduceNeg, c1, e2f] <;> (repeat' apply And.intro) <;> first | rfl | exact ⟨_, rfl⟩ | simp [lst, cat2_nil]


end Go.Proofs.Ytjkgcfdcfjkkbaa
