/- Membership of a number, as a plain function. Conditions: the list is short. -/
import Derived.Test.YtipfckompmhljaaL6
import Derived.Test.YtipfckompmhljaaIsP
namespace Go.Proofs.Ytipfckompmhljaa
open Go Dv
set_option linter.unusedSimpArgs false
set_option linter.unusedVariables false
set_option maxRecDepth 100000
set_option maxHeartbeats 4000000

noncomputable def s_l1Has_l0_S (l : List Int) (n_ t9_ : Int) : Option ((Int) ⊕ (Unit ⊕ Unit)) :=
 if t9_ < (l.length : Int) then
  ck (0 ≤ t9_ ∧ t9_.toNat < l.length) <|
  if (l.getD t9_.toNat default) = n_ then
   some (Sum.inr (Sum.inl ()))
  else
   some (Sum.inl (IntKind.i64.wrap (t9_ + 1)))
 else
  some (Sum.inr (Sum.inr ()))
noncomputable def s_l1Has_l0 (l : List Int) (n_ v : Int) : Option (Unit ⊕ Unit) := itO (fun v => s_l1Has_l0_S l n_ v) v
noncomputable def s_l1Has (l : List Int) (n_ : Int) : Option (Bool) :=
 (s_l1Has_l0 l n_ 0).bind fun r2_ =>
 match r2_ with
 | .inl q2_ =>
  some true
 | .inr q2_ =>
  some false
/-- spec.l1Has -/
def k92_l0b : SC :=
 .seq
 (.ops [
 ⟨some 10, .binOp .lss 3 (.tmp 9) (.tmp 8) 3, 0, none⟩])
 (.seq
 (.cond (.tmp 10)
 .skip
 (.exit 0))
 (.seq
 (.block 1
 (.seq
 (.ops [
 ⟨some 11, .indexAddr 23 (.tmp 7) (.tmp 9), 0, none⟩,
 ⟨some 12, .load 3 (.tmp 11), 3, none⟩,
 ⟨some 6, .assign (.tmp 12), 3, none⟩])
 (.seq
 (.ops [
 ⟨some 13, .move (.tmp 6), 3, none⟩,
 ⟨some 14, .move (.tmp 1), 3, none⟩,
 ⟨some 15, .binOp .eql 3 (.tmp 13) (.tmp 14) 3, 4, none⟩])
 (.cond (.tmp 15)
 (.seq
 (.ops [
 ⟨some 4, .assign (.const (.bool true)), 4, none⟩])
 .ret)
 .skip))))
 (.ops [
 ⟨some 16, .binOp .add 3 (.tmp 9) (.const (.int .i64 1)) 3, 3, none⟩,
 ⟨some 9, .move (.tmp 16), 3, none⟩])))
def k92_l0 : SC := .loop k92_l0b
def k92 : SC :=
 .seq
 (.ops [
 ⟨some 4, .assign (.const (.bool false)), 4, none⟩])
 (.seq
 (.seq
 (.ops [
 ⟨some 7, .move (.tmp 0), 23, none⟩,
 ⟨some 8, .call ⟨(.builtin .len), #[(.tmp 7)], #[23]⟩, 3, none⟩,
 ⟨some 9, .move (.const (.int .i64 0)), 3, none⟩])
 (.block 0
 k92_l0))
 (.seq
 (.ops [
 ⟨some 4, .assign (.const (.bool false)), 4, none⟩])
 .ret))
theorem slim92 : Try.f92.body.map (slim lends) = some k92 := by kernel_rfl
theorem ok92 : fnOk Try.f92 2 = true := by kernel_rfl
theorem c92 {a l : List D} {r : D × List D} (h : wpD Y.env k92 (fin tys l.length [ResultVar.tmp 4] r) (entry a l)) (ha : a.length = 2) : Y.call 92 a l = some r :=
 call_slim (Y := Y) rfl Try.func92 (ha ▸ ok92) slim92 h
def s_l1Has_l0_M (l : List Int) (n_ t9_ : Int) (s : St) : Prop := s.v 1 = D.int .i64 n_ ∧ s.v 7 = D.sl 3 (lst (D.int .i64) l) ∧ s.v 8 = D.int .i64 (l.length : Int) ∧ s.v 9 = D.int .i64 t9_
def s_l1Has_l0_X (l : List Int) (n_ : Int) (r : Unit ⊕ Unit) (ex : Ex) (s : St) : Prop := match r with
 | .inl q => ex = .ret ∧ s.v 4 = D.bool true
 | .inr q => ex = .exit 0
theorem s_l1Has_l0_wp (l : List Int) (n_ : Int) {v : Int} {s : St} {r : Unit ⊕ Unit} (h : s_l1Has_l0 l n_ v = some r) (hM : s_l1Has_l0_M l n_ v s) : wpD Y.env k92_l0 (s_l1Has_l0_X l n_ r) s := by
 unfold s_l1Has_l0 at h
 refine wd_itO (c := k92_l0b) (fun v => s_l1Has_l0_S l n_ v) (fun v s => s_l1Has_l0_M l n_ v s) (s_l1Has_l0_X l n_) ?_ h hM
 clear h hM s v r
 intro t9_ s o hM h
 unfold s_l1Has_l0_S at h
 unfold s_l1Has_l0_M at hM
 obtain ⟨m0, m1, m2, m3⟩ := hM
 unfold k92_l0b
 by_cases e1 : t9_ < (l.length : Int)
 ·rw [if_pos e1] at h
  obtain ⟨e2, h⟩ := ckS h
  by_cases e3 : (l.getD t9_.toNat default) = n_
  ·rw [if_pos e3] at h
   cases h
   simp (maxDischargeDepth := 9) only [↓xpre, xpost, xlst, xcore, yset, ↓reduceIte, Nat.reduceEqDiff, Nat.reduceLT, m0, m1, m2, m3, e1, e2.1, e2.2, decide_eq_true e3, s_l1Has_l0_M, s_l1Has_l0_X, sxR]
  ·rw [if_neg e3] at h
   cases h
   simp (maxDischargeDepth := 9) only [↓xpre, xpost, xlst, xcore, yset, ↓reduceIte, Nat.reduceEqDiff, Nat.reduceLT, m0, m1, m2, m3, e1, e2.1, e2.2, e3, s_l1Has_l0_M, sxN]
 ·rw [if_neg e1] at h
  cases h
  simp (maxDischargeDepth := 9) only [↓xpre, xpost, yset, ↓reduceIte, Nat.reduceLT, m2, m3, e1, s_l1Has_l0_M, s_l1Has_l0_X, sxE]
theorem s_l1Has_call (l : List Int) (n_ : Int) {r : Bool} (h : s_l1Has l n_ = some r) : Y.call 92 [D.sl 3 (lst (D.int .i64) l), D.int .i64 n_] [] = some (D.bool r, []) := by
 refine c92 ?_ rfl
 unfold k92
 unfold s_l1Has at h
 obtain ⟨r2_, hl2, h⟩ := bindS h
 try dsimp only at h
 simp (maxDischargeDepth := 9) only [↓xpre, xpost, xlst, xcore, yset, ↓reduceIte, Nat.reduceEqDiff, Nat.reduceLT]
 refine wd_mono (s_l1Has_l0_wp l n_ hl2 ?_) ?_
 ·simp (maxDischargeDepth := 9) only [xpost, xcore, ↓reduceIte, Nat.reduceEqDiff, Nat.reduceLT, s_l1Has_l0_M]
 ·intro ex2 s2 hX2
  rcases r2_ with q2_ | q2_
  ·unfold s_l1Has_l0_X at hX2
   dsimp only at hX2 h
   obtain ⟨rfl, n2_0⟩ := hX2
   cases h
   simp (maxDischargeDepth := 9) only [↓xpre, xpost, xcore, ↓reduceIte, n2_0]
  ·unfold s_l1Has_l0_X at hX2
   dsimp only at hX2 h
   obtain rfl := hX2
   cases h
   simp (maxDischargeDepth := 9) only [↓xpre, xpost, xcore, yset, ↓reduceIte, Nat.reduceEqDiff, Nat.reduceLT]

theorem s_l1Has_eq (l : List Int) (n : Int) (h : l.length < 1099511627776) : s_l1Has l n = some (l.contains n) := by
 unfold s_l1Has s_l1Has_l0
 have key := itO_all (fun v => s_l1Has_l0_S l n v) (fun i => (i : Int)) l.length (fun i => !decide (l.getD i default = n)) (.inl ()) (.inr ()) ?_ ?_
 ·simp only [Int.natCast_zero] at key
  rw [key, all_getD (fun x => !decide (x = n))]
  have e : l.all (fun x => !decide (x = n)) = !l.contains n := by
   rw [List.all_eq_not_any_not, List.contains_eq_any_beq]
   congr 2
   funext x
   rw [Bool.not_not, Bool.eq_iff_iff, decide_eq_true_eq, beq_iff_eq]
   exact eq_comm
  rw [e]
  cases l.contains n <;> rfl
 ·intro i hi
  simp only [s_l1Has_l0_S]
  rw [if_pos (lt_nat hi), ckT (ix_nat hi), Int.toNat_natCast, wrS i (by omega)]
  by_cases hq : l.getD i default = n
  ·rw [if_pos hq, decide_eq_true hq]; rfl
  ·rw [if_neg hq, decide_eq_false hq]; rfl
 ·simp only [s_l1Has_l0_S]; rw [if_neg (not_lt_nat _)]
theorem s_l1Has_cl (l : List Int) (n_ : Int) (h0 : l.length < 1099511627776) : Y.call 92 [D.sl 3 (lst (D.int .i64) l), D.int .i64 n_] [] = some (D.bool (l.contains n_), []) := s_l1Has_call l n_ (s_l1Has_eq l n_ h0)
noncomputable def gIx_l0_S (s_ : List Int) (v_ t8_ : Int) : Option ((Int) ⊕ (Int ⊕ Unit)) :=
 if t8_ < (s_.length : Int) then
  ck (0 ≤ t8_ ∧ t8_.toNat < s_.length) <|
  if v_ = (s_.getD t8_.toNat default) then
   some (Sum.inr (Sum.inl t8_))
  else
   some (Sum.inl (IntKind.i64.wrap (t8_ + 1)))
 else
  some (Sum.inr (Sum.inr ()))
noncomputable def gIx_l0 (s_ : List Int) (v_ v : Int) : Option (Int ⊕ Unit) := itO (fun v => gIx_l0_S s_ v_ v) v
noncomputable def gIx (s_ : List Int) (v_ : Int) : Option (Int) :=
 (gIx_l0 s_ v_ 0).bind fun r2_ =>
 match r2_ with
 | .inl q2_ =>
  some q2_
 | .inr q2_ =>
  some (-1)
/-- slices.Index[[]int,int] -/
def k129_l0b : SC :=
 .seq
 (.ops [
 ⟨some 9, .binOp .lss 3 (.tmp 8) (.tmp 7) 3, 0, none⟩])
 (.seq
 (.cond (.tmp 9)
 .skip
 (.exit 0))
 (.seq
 (.block 1
 (.seq
 (.ops [
 ⟨some 10, .move (.tmp 8), 3, none⟩,
 ⟨some 5, .assign (.tmp 10), 3, none⟩])
 (.seq
 (.ops [
 ⟨some 11, .move (.tmp 1), 3, none⟩,
 ⟨some 12, .move (.tmp 0), 23, none⟩,
 ⟨some 13, .move (.tmp 5), 3, none⟩,
 ⟨some 14, .indexAddr 23 (.tmp 12) (.tmp 13), 0, none⟩,
 ⟨some 15, .load 3 (.tmp 14), 3, none⟩,
 ⟨some 16, .binOp .eql 3 (.tmp 11) (.tmp 15) 3, 4, none⟩])
 (.cond (.tmp 16)
 (.seq
 (.ops [
 ⟨some 17, .move (.tmp 5), 3, none⟩,
 ⟨some 4, .assign (.tmp 17), 3, none⟩])
 .ret)
 .skip))))
 (.ops [
 ⟨some 18, .binOp .add 3 (.tmp 8) (.const (.int .i64 1)) 3, 3, none⟩,
 ⟨some 8, .move (.tmp 18), 3, none⟩])))
def k129_l0 : SC := .loop k129_l0b
def k129 : SC :=
 .seq
 (.ops [
 ⟨some 4, .assign (.const (.int .i64 0)), 3, none⟩])
 (.seq
 (.seq
 (.ops [
 ⟨some 6, .move (.tmp 0), 23, none⟩,
 ⟨some 7, .call ⟨(.builtin .len), #[(.tmp 6)], #[23]⟩, 3, none⟩,
 ⟨some 8, .move (.const (.int .i64 0)), 3, none⟩])
 (.block 0
 k129_l0))
 (.seq
 (.ops [
 ⟨some 4, .assign (.const (.int .i64 (-1))), 3, none⟩])
 .ret))
theorem slim129 : Try.f129.body.map (slim lends) = some k129 := by kernel_rfl
theorem ok129 : fnOk Try.f129 2 = true := by kernel_rfl
theorem c129 {a l : List D} {r : D × List D} (h : wpD Y.env k129 (fin tys l.length [ResultVar.tmp 4] r) (entry a l)) (ha : a.length = 2) : Y.call 129 a l = some r :=
 call_slim (Y := Y) rfl Try.func129 (ha ▸ ok129) slim129 h
def gIx_l0_M (s_ : List Int) (v_ t8_ : Int) (s : St) : Prop := s.v 0 = D.sl 3 (lst (D.int .i64) s_) ∧ s.v 1 = D.int .i64 v_ ∧ s.v 7 = D.int .i64 (s_.length : Int) ∧ s.v 8 = D.int .i64 t8_
def gIx_l0_X (s_ : List Int) (v_ : Int) (r : Int ⊕ Unit) (ex : Ex) (s : St) : Prop := match r with
 | .inl q => ex = .ret ∧ s.v 4 = D.int .i64 q
 | .inr q => ex = .exit 0
theorem gIx_l0_wp (s_ : List Int) (v_ : Int) {v : Int} {s : St} {r : Int ⊕ Unit} (h : gIx_l0 s_ v_ v = some r) (hM : gIx_l0_M s_ v_ v s) : wpD Y.env k129_l0 (gIx_l0_X s_ v_ r) s := by
 unfold gIx_l0 at h
 refine wd_itO (c := k129_l0b) (fun v => gIx_l0_S s_ v_ v) (fun v s => gIx_l0_M s_ v_ v s) (gIx_l0_X s_ v_) ?_ h hM
 clear h hM s v r
 intro t8_ s o hM h
 unfold gIx_l0_S at h
 unfold gIx_l0_M at hM
 obtain ⟨m0, m1, m2, m3⟩ := hM
 unfold k129_l0b
 by_cases e1 : t8_ < (s_.length : Int)
 ·rw [if_pos e1] at h
  obtain ⟨e2, h⟩ := ckS h
  by_cases e3 : v_ = (s_.getD t8_.toNat default)
  ·rw [if_pos e3] at h
   cases h
   simp (maxDischargeDepth := 9) only [↓xpre, xpost, xlst, xcore, yset, ↓reduceIte, Nat.reduceEqDiff, Nat.reduceLT, m0, m1, m2, m3, e1, e2.1, e2.2, decide_eq_true e3, gIx_l0_M, gIx_l0_X, sxR]
  ·rw [if_neg e3] at h
   cases h
   simp (maxDischargeDepth := 9) only [↓xpre, xpost, xlst, xcore, yset, ↓reduceIte, Nat.reduceEqDiff, Nat.reduceLT, m0, m1, m2, m3, e1, e2.1, e2.2, e3, gIx_l0_M, sxN]
 ·rw [if_neg e1] at h
  cases h
  simp (maxDischargeDepth := 9) only [↓xpre, xpost, yset, ↓reduceIte, Nat.reduceLT, m2, m3, e1, gIx_l0_M, gIx_l0_X, sxE]
theorem gIx_call (s_ : List Int) (v_ : Int) {r : Int} (h : gIx s_ v_ = some r) : Y.call 129 [D.sl 3 (lst (D.int .i64) s_), D.int .i64 v_] [] = some (D.int .i64 r, []) := by
 refine c129 ?_ rfl
 unfold k129
 unfold gIx at h
 obtain ⟨r2_, hl2, h⟩ := bindS h
 try dsimp only at h
 simp (maxDischargeDepth := 9) only [↓xpre, xpost, xlst, xcore, yset, ↓reduceIte, Nat.reduceEqDiff, Nat.reduceLT, Int.reduceNeg]
 refine wd_mono (gIx_l0_wp s_ v_ hl2 ?_) ?_
 ·simp (maxDischargeDepth := 9) only [xpost, xcore, ↓reduceIte, Nat.reduceEqDiff, Nat.reduceLT, gIx_l0_M]
 ·intro ex2 s2 hX2
  rcases r2_ with q2_ | q2_
  ·unfold gIx_l0_X at hX2
   dsimp only at hX2 h
   obtain ⟨rfl, n2_0⟩ := hX2
   cases h
   simp (maxDischargeDepth := 9) only [↓xpre, xpost, xcore, ↓reduceIte, n2_0]
  ·unfold gIx_l0_X at hX2
   dsimp only at hX2 h
   obtain rfl := hX2
   cases h
   simp (maxDischargeDepth := 9) only [↓xpre, xpost, xcore, yset, ↓reduceIte, Nat.reduceEqDiff, Nat.reduceLT, Int.reduceNeg]

noncomputable def g_slices_Contains_Sint_int (s_ : List Int) (v_ : Int) : Option (Bool) :=
 (gIx s_ v_).bind fun r1_ =>
 some (decide (0 ≤ r1_))
/-- slices.Contains[[]int,int] -/
def k81 : SC :=
 .seq
 (.ops [
 ⟨some 4, .assign (.const (.bool false)), 4, none⟩])
 (.seq
 (.ops [
 ⟨some 5, .move (.tmp 0), 23, none⟩,
 ⟨some 6, .move (.tmp 1), 3, none⟩,
 ⟨some 7, .call ⟨(.value (.func 129)), #[(.tmp 5), (.tmp 6)], #[23, 3]⟩, 3, none⟩,
 ⟨some 8, .binOp .geq 3 (.tmp 7) (.const (.int .i64 0)) 3, 4, none⟩,
 ⟨some 4, .assign (.tmp 8), 4, none⟩])
 .ret)
theorem slim81 : Try.f81.body.map (slim lends) = some k81 := by kernel_rfl
theorem ok81 : fnOk Try.f81 2 = true := by kernel_rfl
theorem c81 {a l : List D} {r : D × List D} (h : wpD Y.env k81 (fin tys l.length [ResultVar.tmp 4] r) (entry a l)) (ha : a.length = 2) : Y.call 81 a l = some r :=
 call_slim (Y := Y) rfl Try.func81 (ha ▸ ok81) slim81 h
theorem g_slices_Contains_Sint_int_call (s_ : List Int) (v_ : Int) {r : Bool} (h : g_slices_Contains_Sint_int s_ v_ = some r) : Y.call 81 [D.sl 3 (lst (D.int .i64) s_), D.int .i64 v_] [] = some (D.bool r, []) := by
 refine c81 ?_ rfl
 unfold k81
 unfold g_slices_Contains_Sint_int at h
 obtain ⟨r1_, hl1, h⟩ := bindS h
 try dsimp only at h
 have c1 := gIx_call s_ v_ hl1
 cases h
 simp (maxDischargeDepth := 9) only [↓xpre, xpost, xc2, xcore, yset, ↓reduceIte, Nat.reduceEqDiff, Nat.reduceLT, Nat.reduceAdd, c1]

theorem index_eq (l : List Int) (n : Int) (h : l.length < 1099511627776) : ∃ r, gIx l n = some r ∧ (0 ≤ r ↔ l.contains n = true) := by
 unfold gIx gIx_l0
 by_cases ha : ∀ i, i < l.length → (!decide (n = l.getD i default)) = true
 ·have key := itO_for (fun v => gIx_l0_S l n v) (fun i => (i : Int)) l.length (.inr ()) ?_ ?_
  ·simp only [Int.natCast_zero] at key
   rw [key]
   refine ⟨-1, rfl, by simp, fun hc => ?_⟩
   obtain ⟨i, hi, he⟩ := List.getElem_of_mem (List.contains_iff_mem.1 hc)
   have := ha i hi
   rw [getD_get _ _ hi, he] at this; simp at this
  ·intro i hi
   simp only [gIx_l0_S]
   have e := ha i hi
   rw [if_pos (lt_nat hi), ckT (ix_nat hi), Int.toNat_natCast, if_neg (by simpa using e), wrS i (by omega)]
  ·simp only [gIx_l0_S]; rw [if_neg (not_lt_nat _)]
 ·obtain ⟨m, h1, h2, h3⟩ := first_fail (P := fun i => !decide (n = l.getD i default)) ha
  have h2' : n = l.getD m default := by simpa using h2
  have key := itO_for (fun v => gIx_l0_S l n v) (fun i => (i : Int)) m (.inl (m : Int)) ?_ ?_
  ·simp only [Int.natCast_zero] at key
   rw [key]
   refine ⟨(m : Int), rfl, fun _ => ?_, fun _ => by omega⟩
   rw [h2', getD_get _ _ h1]
   exact List.contains_iff_mem.2 (List.getElem_mem h1)
  ·intro i hi
   simp only [gIx_l0_S]
   have e := h3 i hi
   rw [if_pos (lt_nat (by omega)), ckT (ix_nat (by omega)), Int.toNat_natCast, if_neg (by simpa using e), wrS i (by omega)]
  ·simp only [gIx_l0_S]
   rw [if_pos (lt_nat h1), ckT (ix_nat h1), Int.toNat_natCast, if_pos h2']
theorem g_slices_Contains_Sint_int_eq (l : List Int) (n : Int) (h : l.length < 1099511627776) : g_slices_Contains_Sint_int l n = some (l.contains n) := by
 obtain ⟨r, h1, h2⟩ := index_eq l n h
 unfold g_slices_Contains_Sint_int
 rw [h1, Option.bind_some]
 congr 1
 rw [Bool.eq_iff_iff]; simpa using h2
theorem g_slices_Contains_Sint_int_cl (s_ : List Int) (v_ : Int) (h0 : s_.length < 1099511627776) : Y.call 81 [D.sl 3 (lst (D.int .i64) s_), D.int .i64 v_] [] = some (D.bool (s_.contains v_), []) := g_slices_Contains_Sint_int_call s_ v_ (g_slices_Contains_Sint_int_eq s_ v_ h0)

end Go.Proofs.Ytipfckompmhljaa
