/- The least and the greatest of a list, lifted. Conditions: none. -/
import Derived.Test.YtjkgcfdcfjkkbaaGreatL6
import Derived.Test.YtjkgcfdcfjkkbaaGreatDt
namespace Go.Proofs.YtjkgcfdcfjkkbaaGreat
open Go Dv
set_option linter.unusedSimpArgs false
set_option linter.unusedVariables false
set_option maxRecDepth 100000
set_option maxHeartbeats 4000000

noncomputable def g_slices_Min_Sint_int_l0_S (x_ : List Int) (m_ : Int) (i : Int) : Option ((Int × Int) ⊕ (Int)) :=
 if i < (x_.length : Int) then
  ck (0 ≤ i ∧ i.toNat < x_.length) <|
  some (Sum.inl ((leastI m_ (x_.getD i.toNat default)), IntKind.i64.wrap (i + 1)))
 else
  some (Sum.inr m_)
noncomputable def g_slices_Min_Sint_int_l0 (x_ : List Int) (v : Int × Int) : Option (Int) := itO (fun v => g_slices_Min_Sint_int_l0_S x_ v.1 v.2) v
noncomputable def g_slices_Min_Sint_int (x_ : List Int) : Option (Int) :=
 if (x_.length : Int) < 1 then
  none
 else
  ck (0 < x_.length) <|
  (g_slices_Min_Sint_int_l0 x_ ((x_.getD 0 default), 1)).bind fun r4_ =>
  some r4_
/-- slices.Min[[]int,int] -/
def k132_l0b : SC :=
 .seq
 (.seq
 (.ops [
 ⟨(some 12), (.move (.tmp 4)), 3, none⟩,
 ⟨(some 13), (.move (.tmp 0)), 26, none⟩,
 ⟨(some 14), (.call ⟨(.builtin .len), #[(.tmp 13)], #[26]⟩), 3, none⟩,
 ⟨(some 15), (.binOp .lss 3 (.tmp 12) (.tmp 14) 3), 4, none⟩])
 (.cond (.tmp 15)
 .skip
 (.exit 0)))
 (.seq
 (.block 1
 (.ops [
 ⟨(some 18), (.move (.tmp 3)), 3, none⟩,
 ⟨(some 19), (.move (.tmp 0)), 26, none⟩,
 ⟨(some 20), (.move (.tmp 4)), 3, none⟩,
 ⟨(some 21), (.indexAddr 26 (.tmp 19) (.tmp 20)), 0, none⟩,
 ⟨(some 22), (.load 3 (.tmp 21)), 3, none⟩,
 ⟨(some 23), (.call ⟨(.builtin .min), #[(.tmp 18), (.tmp 22)], #[3, 3]⟩), 3, none⟩,
 ⟨(some 3), (.assign (.tmp 23)), 3, none⟩]))
 (.ops [
 ⟨(some 16), (.move (.tmp 4)), 3, none⟩,
 ⟨(some 17), (.binOp .add 3 (.tmp 16) (.const (.int .i64 1)) 3), 3, none⟩,
 ⟨(some 4), (.assign (.tmp 17)), 3, none⟩]))
def k132_l0 : SC := .loop k132_l0b
def k132 : SC :=
 .seq
 (.ops [
 ⟨(some 2), (.assign (.const (.int .i64 0))), 3, none⟩])
 (.seq
 (.seq
 (.ops [
 ⟨(some 5), (.move (.tmp 0)), 26, none⟩,
 ⟨(some 6), (.call ⟨(.builtin .len), #[(.tmp 5)], #[26]⟩), 3, none⟩,
 ⟨(some 7), (.binOp .lss 3 (.tmp 6) (.const (.int .i64 1)) 3), 4, none⟩])
 (.cond (.tmp 7)
 (.ops [
 ⟨(some 8), (.makeInterface 9 (.const (.string { data := #[115, 108, 105, 99, 101, 115, 46, 77, 105, 110, 58, 32, 101, 109, 112, 116, 121, 32, 108, 105, 115, 116] }))), 20, none⟩,
 ⟨none, (.panic (.tmp 8)), 0, none⟩])
 .skip))
 (.seq
 (.ops [
 ⟨(some 9), (.move (.tmp 0)), 26, none⟩,
 ⟨(some 10), (.indexAddr 26 (.tmp 9) (.const (.int .i64 0))), 0, none⟩,
 ⟨(some 11), (.load 3 (.tmp 10)), 3, none⟩,
 ⟨(some 3), (.assign (.tmp 11)), 3, none⟩])
 (.seq
 (.seq
 (.ops [
 ⟨(some 4), (.assign (.const (.int .i64 1))), 3, none⟩])
 (.block 0
 k132_l0))
 (.seq
 (.ops [
 ⟨(some 24), (.move (.tmp 3)), 3, none⟩,
 ⟨(some 2), (.assign (.tmp 24)), 3, none⟩])
 .ret))))
theorem slim132 : Tryz.f132.body.map (slim lends) = some k132 := by kernel_rfl
theorem ok132 : fnOk Tryz.f132 1 = true := by kernel_rfl
theorem c132 {a l : List D} {r : D × List D} (h : wpD Y.env k132 (fin tys l.length [ResultVar.tmp 2] r) (entry a l)) (ha : a.length = 1) : Y.call 132 a l = some r :=
 call_slim (Y := Y) rfl Tryz.func132 (ha ▸ ok132) slim132 h
def g_slices_Min_Sint_int_l0_M (x_ : List Int) (m_ : Int) (i : Int) (s : St) : Prop := s.v 0 = D.sl 3 (lst (D.int .i64) x_) ∧ s.v 3 = D.int .i64 m_ ∧ s.v 4 = D.int .i64 i
def g_slices_Min_Sint_int_l0_X (x_ : List Int) (r : Int) (ex : Ex) (s : St) : Prop := ex = .exit 0 ∧ s.v 3 = D.int .i64 r
theorem g_slices_Min_Sint_int_l0_wp (x_ : List Int) {v : Int × Int} {s : St} {r : Int} (h : g_slices_Min_Sint_int_l0 x_ v = some r) (hM : g_slices_Min_Sint_int_l0_M x_ v.1 v.2 s) : wpD Y.env k132_l0 (g_slices_Min_Sint_int_l0_X x_ r) s := by
 unfold g_slices_Min_Sint_int_l0 at h
 refine wd_itO (c := k132_l0b) (fun v => g_slices_Min_Sint_int_l0_S x_ v.1 v.2) (fun v s => g_slices_Min_Sint_int_l0_M x_ v.1 v.2 s) (g_slices_Min_Sint_int_l0_X x_) ?_ h hM
 clear h hM s v r
 intro v s o hM h
 obtain ⟨m_, i⟩ := v
 dsimp only at h hM
 unfold g_slices_Min_Sint_int_l0_S at h
 unfold g_slices_Min_Sint_int_l0_M at hM
 obtain ⟨m0, m1, m2⟩ := hM
 unfold k132_l0b
 by_cases e3 : i < (x_.length : Int)
 ·rw [if_pos e3] at h
  obtain ⟨e4, h⟩ := ckS h
  obtain rfl := Option.some.inj h
  simp (maxDischargeDepth := 9) only [↓xpre, xpost, xlst, xcore, yset, ↓reduceIte, Nat.reduceEqDiff, m0, m1, m2, e3, e4.1, e4.2, g_slices_Min_Sint_int_l0_M, sxN]
 ·rw [if_neg e3] at h
  obtain rfl := Option.some.inj h
  simp (maxDischargeDepth := 9) only [↓xpre, xpost, xlst, yset, ↓reduceIte, Nat.reduceEqDiff, m0, m1, m2, e3, g_slices_Min_Sint_int_l0_M, g_slices_Min_Sint_int_l0_X, sxE]
theorem g_slices_Min_Sint_int_call (x_ : List Int) {r : Int} (h : g_slices_Min_Sint_int x_ = some r) : Y.call 132 [D.sl 3 (lst (D.int .i64) x_)] [] = some (D.int .i64 r, []) := by
 refine c132 ?_ rfl
 unfold k132
 unfold g_slices_Min_Sint_int at h
 by_cases e1 : (x_.length : Int) < 1
 ·rw [if_pos e1] at h
  cases h
 ·rw [if_neg e1] at h
  obtain ⟨e2, h⟩ := ckS h
  obtain ⟨r4_, hl4, h⟩ := bindS h
  try dsimp only at h
  simp (maxDischargeDepth := 9) only [↓xpre, xpost, xlst, xcore, yset, ↓reduceIte, Nat.reduceEqDiff, Nat.reduceLT, e1, e2]
  refine wd_mono (g_slices_Min_Sint_int_l0_wp x_ hl4 ?_) ?_
  ·simp (maxDischargeDepth := 9) only [xpost, xcore, ↓reduceIte, Nat.reduceEqDiff, Nat.reduceLT, g_slices_Min_Sint_int_l0_M]
  ·intro ex4 s4 hX4
   unfold g_slices_Min_Sint_int_l0_X at hX4
   obtain ⟨rfl, n4_0⟩ := hX4
   obtain rfl := Option.some.inj h
   simp (maxDischargeDepth := 9) only [↓xpre, xpost, xcore, ↓reduceIte, Nat.reduceEqDiff, n4_0]

noncomputable def g_slices_Max_Sint_int_l0_S (x_ : List Int) (m_ : Int) (i : Int) : Option ((Int × Int) ⊕ (Int)) :=
 if i < (x_.length : Int) then
  ck (0 ≤ i ∧ i.toNat < x_.length) <|
  some (Sum.inl ((mostI m_ (x_.getD i.toNat default)), IntKind.i64.wrap (i + 1)))
 else
  some (Sum.inr m_)
noncomputable def g_slices_Max_Sint_int_l0 (x_ : List Int) (v : Int × Int) : Option (Int) := itO (fun v => g_slices_Max_Sint_int_l0_S x_ v.1 v.2) v
noncomputable def g_slices_Max_Sint_int (x_ : List Int) : Option (Int) :=
 if (x_.length : Int) < 1 then
  none
 else
  ck (0 < x_.length) <|
  (g_slices_Max_Sint_int_l0 x_ ((x_.getD 0 default), 1)).bind fun r4_ =>
  some r4_
/-- slices.Max[[]int,int] -/
def k133_l0b : SC :=
 .seq
 (.seq
 (.ops [
 ⟨(some 12), (.move (.tmp 4)), 3, none⟩,
 ⟨(some 13), (.move (.tmp 0)), 26, none⟩,
 ⟨(some 14), (.call ⟨(.builtin .len), #[(.tmp 13)], #[26]⟩), 3, none⟩,
 ⟨(some 15), (.binOp .lss 3 (.tmp 12) (.tmp 14) 3), 4, none⟩])
 (.cond (.tmp 15)
 .skip
 (.exit 0)))
 (.seq
 (.block 1
 (.ops [
 ⟨(some 18), (.move (.tmp 3)), 3, none⟩,
 ⟨(some 19), (.move (.tmp 0)), 26, none⟩,
 ⟨(some 20), (.move (.tmp 4)), 3, none⟩,
 ⟨(some 21), (.indexAddr 26 (.tmp 19) (.tmp 20)), 0, none⟩,
 ⟨(some 22), (.load 3 (.tmp 21)), 3, none⟩,
 ⟨(some 23), (.call ⟨(.builtin .max), #[(.tmp 18), (.tmp 22)], #[3, 3]⟩), 3, none⟩,
 ⟨(some 3), (.assign (.tmp 23)), 3, none⟩]))
 (.ops [
 ⟨(some 16), (.move (.tmp 4)), 3, none⟩,
 ⟨(some 17), (.binOp .add 3 (.tmp 16) (.const (.int .i64 1)) 3), 3, none⟩,
 ⟨(some 4), (.assign (.tmp 17)), 3, none⟩]))
def k133_l0 : SC := .loop k133_l0b
def k133 : SC :=
 .seq
 (.ops [
 ⟨(some 2), (.assign (.const (.int .i64 0))), 3, none⟩])
 (.seq
 (.seq
 (.ops [
 ⟨(some 5), (.move (.tmp 0)), 26, none⟩,
 ⟨(some 6), (.call ⟨(.builtin .len), #[(.tmp 5)], #[26]⟩), 3, none⟩,
 ⟨(some 7), (.binOp .lss 3 (.tmp 6) (.const (.int .i64 1)) 3), 4, none⟩])
 (.cond (.tmp 7)
 (.ops [
 ⟨(some 8), (.makeInterface 9 (.const (.string { data := #[115, 108, 105, 99, 101, 115, 46, 77, 97, 120, 58, 32, 101, 109, 112, 116, 121, 32, 108, 105, 115, 116] }))), 20, none⟩,
 ⟨none, (.panic (.tmp 8)), 0, none⟩])
 .skip))
 (.seq
 (.ops [
 ⟨(some 9), (.move (.tmp 0)), 26, none⟩,
 ⟨(some 10), (.indexAddr 26 (.tmp 9) (.const (.int .i64 0))), 0, none⟩,
 ⟨(some 11), (.load 3 (.tmp 10)), 3, none⟩,
 ⟨(some 3), (.assign (.tmp 11)), 3, none⟩])
 (.seq
 (.seq
 (.ops [
 ⟨(some 4), (.assign (.const (.int .i64 1))), 3, none⟩])
 (.block 0
 k133_l0))
 (.seq
 (.ops [
 ⟨(some 24), (.move (.tmp 3)), 3, none⟩,
 ⟨(some 2), (.assign (.tmp 24)), 3, none⟩])
 .ret))))
theorem slim133 : Tryz.f133.body.map (slim lends) = some k133 := by kernel_rfl
theorem ok133 : fnOk Tryz.f133 1 = true := by kernel_rfl
theorem c133 {a l : List D} {r : D × List D} (h : wpD Y.env k133 (fin tys l.length [ResultVar.tmp 2] r) (entry a l)) (ha : a.length = 1) : Y.call 133 a l = some r :=
 call_slim (Y := Y) rfl Tryz.func133 (ha ▸ ok133) slim133 h
def g_slices_Max_Sint_int_l0_M (x_ : List Int) (m_ : Int) (i : Int) (s : St) : Prop := s.v 0 = D.sl 3 (lst (D.int .i64) x_) ∧ s.v 3 = D.int .i64 m_ ∧ s.v 4 = D.int .i64 i
def g_slices_Max_Sint_int_l0_X (x_ : List Int) (r : Int) (ex : Ex) (s : St) : Prop := ex = .exit 0 ∧ s.v 3 = D.int .i64 r
theorem g_slices_Max_Sint_int_l0_wp (x_ : List Int) {v : Int × Int} {s : St} {r : Int} (h : g_slices_Max_Sint_int_l0 x_ v = some r) (hM : g_slices_Max_Sint_int_l0_M x_ v.1 v.2 s) : wpD Y.env k133_l0 (g_slices_Max_Sint_int_l0_X x_ r) s := by
 unfold g_slices_Max_Sint_int_l0 at h
 refine wd_itO (c := k133_l0b) (fun v => g_slices_Max_Sint_int_l0_S x_ v.1 v.2) (fun v s => g_slices_Max_Sint_int_l0_M x_ v.1 v.2 s) (g_slices_Max_Sint_int_l0_X x_) ?_ h hM
 clear h hM s v r
 intro v s o hM h
 obtain ⟨m_, i⟩ := v
 dsimp only at h hM
 unfold g_slices_Max_Sint_int_l0_S at h
 unfold g_slices_Max_Sint_int_l0_M at hM
 obtain ⟨m0, m1, m2⟩ := hM
 unfold k133_l0b
 by_cases e3 : i < (x_.length : Int)
 ·rw [if_pos e3] at h
  obtain ⟨e4, h⟩ := ckS h
  obtain rfl := Option.some.inj h
  simp (maxDischargeDepth := 9) only [↓xpre, xpost, xlst, xcore, yset, ↓reduceIte, Nat.reduceEqDiff, m0, m1, m2, e3, e4.1, e4.2, g_slices_Max_Sint_int_l0_M, sxN]
 ·rw [if_neg e3] at h
  obtain rfl := Option.some.inj h
  simp (maxDischargeDepth := 9) only [↓xpre, xpost, xlst, yset, ↓reduceIte, Nat.reduceEqDiff, m0, m1, m2, e3, g_slices_Max_Sint_int_l0_M, g_slices_Max_Sint_int_l0_X, sxE]
theorem g_slices_Max_Sint_int_call (x_ : List Int) {r : Int} (h : g_slices_Max_Sint_int x_ = some r) : Y.call 133 [D.sl 3 (lst (D.int .i64) x_)] [] = some (D.int .i64 r, []) := by
 refine c133 ?_ rfl
 unfold k133
 unfold g_slices_Max_Sint_int at h
 by_cases e1 : (x_.length : Int) < 1
 ·rw [if_pos e1] at h
  cases h
 ·rw [if_neg e1] at h
  obtain ⟨e2, h⟩ := ckS h
  obtain ⟨r4_, hl4, h⟩ := bindS h
  try dsimp only at h
  simp (maxDischargeDepth := 9) only [↓xpre, xpost, xlst, xcore, yset, ↓reduceIte, Nat.reduceEqDiff, Nat.reduceLT, e1, e2]
  refine wd_mono (g_slices_Max_Sint_int_l0_wp x_ hl4 ?_) ?_
  ·simp (maxDischargeDepth := 9) only [xpost, xcore, ↓reduceIte, Nat.reduceEqDiff, Nat.reduceLT, g_slices_Max_Sint_int_l0_M]
  ·intro ex4 s4 hX4
   unfold g_slices_Max_Sint_int_l0_X at hX4
   obtain ⟨rfl, n4_0⟩ := hX4
   obtain rfl := Option.some.inj h
   simp (maxDischargeDepth := 9) only [↓xpre, xpost, xcore, ↓reduceIte, Nat.reduceEqDiff, n4_0]


end Go.Proofs.YtjkgcfdcfjkkbaaGreat
