/- Membership of a number, as a plain function. Conditions: the list is short. -/
import Derived.Test.YtjkgcfdcfjkkbaaL6
import Derived.Test.YtjkgcfdcfjkkbaaIsP
namespace Go.Proofs.Ytjkgcfdcfjkkbaa
open Go Dv
set_option linter.unusedSimpArgs false
set_option linter.unusedVariables false
set_option maxRecDepth 100000
set_option maxHeartbeats 4000000

noncomputable def s_l1Has_l0_S (l : List Int) (n_ : Int) (t9_ : Int) : Option ((Int) ⊕ (Unit ⊕ Unit)) :=
 if t9_ < (l.length : Int) then
  ck (0 ≤ t9_ ∧ t9_.toNat < l.length) <|
  if (l.getD t9_.toNat default) = n_ then
   some (Sum.inr (Sum.inl ()))
  else
   some (Sum.inl (IntKind.i64.wrap (t9_ + 1)))
 else
  some (Sum.inr (Sum.inr ()))
noncomputable def s_l1Has_l0 (l : List Int) (n_ : Int) (v : Int) : Option (Unit ⊕ Unit) := itO (fun v => s_l1Has_l0_S l n_ v) v
noncomputable def s_l1Has (l : List Int) (n_ : Int) : Option (Bool) :=
 (s_l1Has_l0 l n_ 0).bind fun r2_ =>
 match r2_ with
 | .inl q2_ =>
  some true
 | .inr q2_ =>
  some false
/-- spec.l1Has -/
def k111_l0b : SC :=
 .seq
 (.ops [
 ⟨(some 10), (.binOp .lss 3 (.tmp 9) (.tmp 8) 3), 0, none⟩])
 (.seq
 (.cond (.tmp 10)
 .skip
 (.exit 0))
 (.seq
 (.block 1
 (.seq
 (.ops [
 ⟨(some 11), (.indexAddr 23 (.tmp 7) (.tmp 9)), 0, none⟩,
 ⟨(some 12), (.load 3 (.tmp 11)), 3, none⟩,
 ⟨(some 6), (.assign (.tmp 12)), 3, none⟩])
 (.seq
 (.ops [
 ⟨(some 13), (.move (.tmp 6)), 3, none⟩,
 ⟨(some 14), (.move (.tmp 1)), 3, none⟩,
 ⟨(some 15), (.binOp .eql 3 (.tmp 13) (.tmp 14) 3), 4, none⟩])
 (.cond (.tmp 15)
 (.seq
 (.ops [
 ⟨(some 4), (.assign (.const (.bool true))), 4, none⟩])
 .ret)
 .skip))))
 (.ops [
 ⟨(some 16), (.binOp .add 3 (.tmp 9) (.const (.int .i64 1)) 3), 3, none⟩,
 ⟨(some 9), (.move (.tmp 16)), 3, none⟩])))
def k111_l0 : SC := .loop k111_l0b
def k111 : SC :=
 .seq
 (.ops [
 ⟨(some 4), (.assign (.const (.bool false))), 4, none⟩])
 (.seq
 (.seq
 (.ops [
 ⟨(some 7), (.move (.tmp 0)), 23, none⟩,
 ⟨(some 8), (.call ⟨(.builtin .len), #[(.tmp 7)], #[23]⟩), 3, none⟩,
 ⟨(some 9), (.move (.const (.int .i64 0))), 3, none⟩])
 (.block 0
 k111_l0))
 (.seq
 (.ops [
 ⟨(some 4), (.assign (.const (.bool false))), 4, none⟩])
 .ret))
theorem slim111 : Try.f111.body.map (slim lends) = some k111 := by kernel_rfl
theorem ok111 : fnOk Try.f111 2 = true := by kernel_rfl
theorem c111 {a l : List D} {r : D × List D} (h : wpD Y.env k111 (fin tys l.length [ResultVar.tmp 4] r) (entry a l)) (ha : a.length = 2) : Y.call 111 a l = some r :=
 call_slim (Y := Y) rfl Try.func111 (ha ▸ ok111) slim111 h
def s_l1Has_l0_M (l : List Int) (n_ : Int) (t9_ : Int) (s : St) : Prop := s.v 1 = D.int .i64 n_ ∧ s.v 7 = D.sl 3 (lst (D.int .i64) l) ∧ s.v 8 = D.int .i64 (l.length : Int) ∧ s.v 9 = D.int .i64 t9_
def s_l1Has_l0_X (l : List Int) (n_ : Int) (r : Unit ⊕ Unit) (ex : Ex) (s : St) : Prop := match r with
 | .inl q => ex = .ret ∧ s.v 4 = D.bool true
 | .inr q => ex = .exit 0
theorem s_l1Has_l0_wp (l : List Int) (n_ : Int) {v : Int} {s : St} {r : Unit ⊕ Unit} (h : s_l1Has_l0 l n_ v = some r) (hM : s_l1Has_l0_M l n_ v s) : wpD Y.env k111_l0 (s_l1Has_l0_X l n_ r) s := by
 unfold s_l1Has_l0 at h
 refine wd_itO (c := k111_l0b) (fun v => s_l1Has_l0_S l n_ v) (fun v s => s_l1Has_l0_M l n_ v s) (s_l1Has_l0_X l n_) ?_ h hM
 clear h hM s v r
 intro t9_ s o hM h
 unfold s_l1Has_l0_S at h
 unfold s_l1Has_l0_M at hM
 obtain ⟨m0, m1, m2, m3⟩ := hM
 unfold k111_l0b
 by_cases e1 : t9_ < (l.length : Int)
 ·rw [if_pos e1] at h
  obtain ⟨e2, h⟩ := ckS h
  by_cases e3 : (l.getD t9_.toNat default) = n_
  ·rw [if_pos e3] at h
   obtain rfl := Option.some.inj h
   simp (maxDischargeDepth := 9) only [↓xpre, xpost, xlst, xc2, xcore, yset, rg0, ↓reduceIte, Nat.reduceEqDiff, Nat.reduceLT, Nat.reduceLeDiff, Nat.reduceAdd, Nat.reduceMul, Nat.reduceMod, Nat.reduceSub, Nat.reduceBEq, Int.reduceLE, Int.reduceLT, Int.reduceEq, Int.reduceSub, Int.reduceAdd, Int.reduceToNat, Int.reduceNeg, m0, m1, m2, m3, e1, e2.1, e2.2, decide_eq_true e3, s_l1Has_l0_M, s_l1Has_l0_X, sxN, sxE, sxR] <;> (repeat' apply And.intro) <;> first | rfl | exact ⟨_, rfl⟩ | simp [lst, cat2_nil]
  ·rw [if_neg e3] at h
   obtain rfl := Option.some.inj h
   simp (maxDischargeDepth := 9) only [↓xpre, xpost, xlst, xc2, xcore, yset, rg0, ↓reduceIte, Nat.reduceEqDiff, Nat.reduceLT, Nat.reduceLeDiff, Nat.reduceAdd, Nat.reduceMul, Nat.reduceMod, Nat.reduceSub, Nat.reduceBEq, Int.reduceLE, Int.reduceLT, Int.reduceEq, Int.reduceSub, Int.reduceAdd, Int.reduceToNat, Int.reduceNeg, m0, m1, m2, m3, e1, e2.1, e2.2, e3, s_l1Has_l0_M, s_l1Has_l0_X, sxN, sxE, sxR] <;> (repeat' apply And.intro) <;> first | rfl | exact ⟨_, rfl⟩ | simp [lst, cat2_nil]
 ·rw [if_neg e1] at h
  obtain rfl := Option.some.inj h
  simp (maxDischargeDepth := 9) only [↓xpre, xpost, xlst, xc2, xcore, yset, rg0, ↓reduceIte, Nat.reduceEqDiff, Nat.reduceLT, Nat.reduceLeDiff, Nat.reduceAdd, Nat.reduceMul, Nat.reduceMod, Nat.reduceSub, Nat.reduceBEq, Int.reduceLE, Int.reduceLT, Int.reduceEq, Int.reduceSub, Int.reduceAdd, Int.reduceToNat, Int.reduceNeg, m0, m1, m2, m3, e1, s_l1Has_l0_M, s_l1Has_l0_X, sxN, sxE, sxR] <;> (repeat' apply And.intro) <;> first | rfl | exact ⟨_, rfl⟩ | simp [lst, cat2_nil]
theorem s_l1Has_call (l : List Int) (n_ : Int) {r : Bool} (h : s_l1Has l n_ = some r) : Y.call 111 [D.sl 3 (lst (D.int .i64) l), D.int .i64 n_] [] = some (D.bool r, []) := by
 refine c111 ?_ rfl
 unfold k111
 unfold s_l1Has at h
 obtain ⟨r2_, hl2, h⟩ := bindS h
 try dsimp only at h
 simp (maxDischargeDepth := 9) only [↓xpre, xpost, xlst, xc2, xcore, yset, rg0, ↓reduceIte, Nat.reduceEqDiff, Nat.reduceLT, Nat.reduceLeDiff, Nat.reduceAdd, Nat.reduceMul, Nat.reduceMod, Nat.reduceSub, Nat.reduceBEq, Int.reduceLE, Int.reduceLT, Int.reduceEq, Int.reduceSub, Int.reduceAdd, Int.reduceToNat, Int.reduceNeg]
 refine wd_mono (s_l1Has_l0_wp l n_ hl2 ?_) ?_
 ·simp (maxDischargeDepth := 9) only [↓xpre, xpost, xlst, xc2, xcore, yset, rg0, ↓reduceIte, Nat.reduceEqDiff, Nat.reduceLT, Nat.reduceLeDiff, Nat.reduceAdd, Nat.reduceMul, Nat.reduceMod, Nat.reduceSub, Nat.reduceBEq, Int.reduceLE, Int.reduceLT, Int.reduceEq, Int.reduceSub, Int.reduceAdd, Int.reduceToNat, Int.reduceNeg, s_l1Has_l0_M] <;> (repeat' apply And.intro) <;> first | rfl | exact ⟨_, rfl⟩ | simp [lst, cat2_nil]
 ·intro ex2 s2 hX2
  rcases r2_ with q2_ | q2_
  ·unfold s_l1Has_l0_X at hX2
   dsimp only at hX2 h
   obtain ⟨rfl, n2_0⟩ := hX2
   obtain rfl := Option.some.inj h
   simp (maxDischargeDepth := 9) only [↓xpre, xpost, xlst, xc2, xcore, yset, rg0, ↓reduceIte, Nat.reduceEqDiff, Nat.reduceLT, Nat.reduceLeDiff, Nat.reduceAdd, Nat.reduceMul, Nat.reduceMod, Nat.reduceSub, Nat.reduceBEq, Int.reduceLE, Int.reduceLT, Int.reduceEq, Int.reduceSub, Int.reduceAdd, Int.reduceToNat, Int.reduceNeg, n2_0] <;> (repeat' apply And.intro) <;> first | rfl | exact ⟨_, rfl⟩ | simp [lst, cat2_nil]
  ·unfold s_l1Has_l0_X at hX2
   dsimp only at hX2 h
   obtain rfl := hX2
   obtain rfl := Option.some.inj h
   simp (maxDischargeDepth := 9) only [↓xpre, xpost, xlst, xc2, xcore, yset, rg0, ↓reduceIte, Nat.reduceEqDiff, Nat.reduceLT, Nat.reduceLeDiff, Nat.reduceAdd, Nat.reduceMul, Nat.reduceMod, Nat.reduceSub, Nat.reduceBEq, Int.reduceLE, Int.reduceLT, Int.reduceEq, Int.reduceSub, Int.reduceAdd, Int.reduceToNat, Int.reduceNeg] <;> (repeat' apply And.intro) <;> first | rfl | exact ⟨_, rfl⟩ | simp [lst, cat2_nil]

theorem s_l1Has_eq (l : List Int) (n : Int) (h : l.length < 1099511627776) : s_l1Has l n = some (l.contains n) := by
 unfold s_l1Has s_l1Has_l0
 have key := itO_all (fun v => s_l1Has_l0_S l n v) (fun i => (i : Int)) l.length (fun i => !decide (l.getD i default = n)) (.inl ()) (.inr ()) ?_ ?_
 ·simp only [Int.natCast_zero] at key
  rw [key, all_getD (fun x => !decide (x = n))]
  have e : l.all (fun x => !decide (x = n)) = !l.contains n := by
   rw [List.all_eq_not_any_not, List.contains_eq_any_beq]
   congr 2
   funext x
   rw [Bool.not_not, Bool.eq_iff_iff, decide_eq_true_eq, beq_iff_eq]
   exact eq_comm
  rw [e]
  cases l.contains n <;> rfl
 ·intro i hi
  simp only [s_l1Has_l0_S]
  rw [if_pos (lt_nat hi), ckT (ix_nat hi), Int.toNat_natCast, wrS i (by omega)]
  by_cases hq : l.getD i default = n
  ·rw [if_pos hq, decide_eq_true hq]; rfl
  ·rw [if_neg hq, decide_eq_false hq]; rfl
 ·simp only [s_l1Has_l0_S]; rw [if_neg (not_lt_nat _)]
theorem s_l1Has_cl (l : List Int) (n_ : Int) (h0 : l.length < 1099511627776) : Y.call 111 [D.sl 3 (lst (D.int .i64) l), D.int .i64 n_] [] = some (D.bool (l.contains n_), []) := s_l1Has_call l n_ (s_l1Has_eq l n_ h0)
end Go.Proofs.Ytjkgcfdcfjkkbaa
