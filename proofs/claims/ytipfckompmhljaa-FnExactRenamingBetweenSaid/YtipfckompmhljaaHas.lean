/- Configurations looked up by halving and one by one, as membership. Conditions: the lists are short and increasing. -/
import Derived.Test.YtipfckompmhljaaL6
import Derived.Test.YtipfckompmhljaaSrt
namespace Go.Proofs.Ytipfckompmhljaa
open Go Dv
set_option linter.unusedSimpArgs false
set_option linter.unusedVariables false
set_option maxRecDepth 100000
set_option maxHeartbeats 4000000

theorem wrU (n : Int) (h : 0 ≤ n ∧ n < 18446744073709551616) : IntKind.u64.wrap n = n := by
 unfold IntKind.wrap
 simp only [IntKind.signed, IntKind.bits]
 simp
 omega
theorem insR_perm (x : Int) : ∀ r, (insR x r).Perm (x :: r) := by
 intro r
 induction r with
 | nil => exact List.Perm.refl _
 | cons y r ih =>
  unfold insR
  split
  ·exact ((List.perm_cons y).2 ih).trans (List.Perm.swap x y r)
  ·exact List.Perm.refl _
theorem insR_pair (x : Int) : ∀ r, r.Pairwise (fun a b => b ≤ a) → (insR x r).Pairwise (fun a b => b ≤ a) := by
 intro r
 induction r with
 | nil => intro _; simp [insR]
 | cons y r ih =>
  intro h
  obtain ⟨h1, h2⟩ := List.pairwise_cons.1 h
  unfold insR
  split
  ·rename_i hxy
   refine List.pairwise_cons.2 ⟨fun z hz => ?_, ih h2⟩
   rcases List.mem_cons.1 ((insR_perm x r).mem_iff.1 hz) with rfl | hz
   ·omega
   ·exact h1 z hz
  ·rename_i hxy
   refine List.pairwise_cons.2 ⟨fun z hz => ?_, h⟩
   rcases List.mem_cons.1 hz with rfl | hz
   ·omega
   ·have := h1 z hz; omega
theorem foldR_perm : ∀ (l r : List Int), (l.foldl (fun r x => insR x r) r).Perm (l ++ r) := by
 intro l
 induction l with
 | nil => intro r; exact List.Perm.refl _
 | cons x l ih =>
  intro r
  simp only [List.foldl_cons]
  exact (ih _).trans (((List.Perm.refl l).append (insR_perm x r)).trans List.perm_middle)
theorem foldR_pair : ∀ (l r : List Int), r.Pairwise (fun a b => b ≤ a) → (l.foldl (fun r x => insR x r) r).Pairwise (fun a b => b ≤ a) := by
 intro l
 induction l with
 | nil => intro r h; exact h
 | cons x l ih => intro r h; exact ih _ (insR_pair x r h)
theorem sortI_perm (l : List Int) : (sortI l).Perm l := by
 unfold sortI
 have := foldR_perm l []
 rw [List.append_nil] at this
 exact (List.reverse_perm _).trans this
theorem sortI_pair (l : List Int) : (sortI l).Pairwise (fun a b => a ≤ b) := by
 unfold sortI
 exact List.pairwise_reverse.2 (foldR_pair l [] List.Pairwise.nil)
theorem sortM_eq (l : List Int) : sortM l = sortI l := by
 refine List.Perm.eq_of_pairwise (le := fun a b : Int => a ≤ b) (fun a b _ _ h1 h2 => Int.le_antisymm h1 h2) ?_ (sortI_pair l) ((List.mergeSort_perm _ _).trans (sortI_perm l).symm)
 have := List.pairwise_mergeSort (le := fun x y : Int => decide (x ≤ y)) (fun a b c h1 h2 => by simp only [decide_eq_true_eq] at *; omega) (fun a b => by simp only [Bool.or_eq_true, decide_eq_true_eq]; omega) l
 unfold sortM
 exact this.imp (fun h => by simpa using h)
theorem sortI_len (l : List Int) : (sortI l).length = l.length := (sortI_perm l).length_eq
theorem cmpL_refl : ∀ a : List Int, cmpL a a = 0 := by
 intro a
 induction a with
 | nil => rfl
 | cons x a ih => unfold cmpL; rw [if_pos rfl, ih]
theorem cmpL_eq : ∀ (a b : List Int), cmpL a b = 0 → a = b := by
 intro a
 induction a with
 | nil => intro b h; cases b with
  | nil => rfl
  | cons y b => simp [cmpL] at h
 | cons x a ih => intro b h; cases b with
  | nil => simp [cmpL] at h
  | cons y b =>
   unfold cmpL at h
   split at h
   ·rename_i e; rw [e, ih b h]
   ·split at h <;> simp at h
theorem cmpL_trans : ∀ (a b c : List Int), cmpL a b < 0 → cmpL b c < 0 → cmpL a c < 0 := by
 intro a
 induction a with
 | nil => intro b c h1 h2; cases c with
  | nil => cases b with
   | nil => simp [cmpL] at h1
   | cons y b => simp [cmpL] at h2
  | cons z c => simp [cmpL]
 | cons x a ih => intro b c h1 h2; cases b with
  | nil => simp [cmpL] at h1
  | cons y b => cases c with
   | nil => simp [cmpL] at h2
   | cons z c =>
    unfold cmpL at h1 h2 ⊢
    by_cases e1 : x = y
    ·subst e1
     rw [if_pos rfl] at h1
     by_cases e2 : x = z
     ·subst e2
      rw [if_pos rfl] at h2 ⊢
      exact ih b c h1 h2
     ·rw [if_neg e2] at h2 ⊢; exact h2
    ·rw [if_neg e1] at h1
     have l1 : x < y := by
      by_cases hl : x < y
      ·exact hl
      ·rw [if_neg hl] at h1; omega
     by_cases e2 : y = z
     ·subst e2
      rw [if_neg e1, if_pos l1]; decide
     ·rw [if_neg e2] at h2
      have l2 : y < z := by
       by_cases hl : y < z
       ·exact hl
       ·rw [if_neg hl] at h2; omega
      rw [if_neg (by omega), if_pos (by omega)]; decide
/-- The lists strictly increase. -/
def incL (l : List (List Int)) : Bool := (List.range l.length).all fun i => decide (i = 0) || decide (cmpL (l.getD (i - 1) default) (l.getD i default) < 0)
theorem incL_lt {l : List (List Int)} (h : incL l = true) : ∀ (d i : Nat), i + d + 1 < l.length → cmpL (l.getD i default) (l.getD (i + d + 1) default) < 0 := by
 have step : ∀ i, i + 1 < l.length → cmpL (l.getD i default) (l.getD (i + 1) default) < 0 := fun i hi => by
  have := range_all.1 h (i + 1) hi
  simpa using this
 intro d
 induction d with
 | zero => intro i hi; exact step i hi
 | succ d ih =>
  intro i hi
  exact cmpL_trans _ _ _ (ih i (by omega)) (step (i + d + 1) (by omega))
theorem incL_lt' {l : List (List Int)} (h : incL l = true) {i j : Nat} (hij : i < j) (hj : j < l.length) : cmpL (l.getD i default) (l.getD j default) < 0 := by
 have := incL_lt h (j - i - 1) i (by omega)
 rwa [show i + (j - i - 1) + 1 = j by omega] at this
theorem confs_inc {l : List (List Int)} {s n : Int} (h : confs l s n = true) : incL l = true := by
 refine range_all.2 fun i hi => ?_
 have := range_all.1 h i hi
 unfold confAt at this
 rw [Bool.and_eq_true] at this
 exact this.2
theorem mem_getD {l : List (List Int)} {x : List Int} : x ∈ l ↔ ∃ k, k < l.length ∧ l.getD k default = x := by
 constructor
 ·intro h
  obtain ⟨k, hk, e⟩ := List.getElem_of_mem h
  exact ⟨k, hk, by rw [List.getD_eq_getElem?_getD, List.getElem?_eq_getElem hk]; exact e⟩
 ·rintro ⟨k, hk, rfl⟩
  rw [List.getD_eq_getElem?_getD, List.getElem?_eq_getElem hk]; exact List.getElem_mem hk
noncomputable def g_slices_Values_Sint_int (s_ : List Int) : Option ((List Int)) :=
 some s_
/-- slices.Values[[]int,int] -/
def k161 : SC :=
 .seq
 (.ops [
 ⟨some 1, .box 23 (.tmp 0), 0, none⟩,
 ⟨some 2, .assign (.const .nilFunc), 172, none⟩])
 (.seq
 (.ops [
 ⟨some 3, .makeFunc (Fn.func 178) #[] #[(.tmp 1)], 171, none⟩,
 ⟨some 2, .assign (.tmp 3), 172, none⟩])
 .ret)
theorem slim161 : Try.f161.body.map (slim lends) = some k161 := by kernel_rfl
theorem ok161 : fnOk Try.f161 1 = true := by kernel_rfl
theorem c161 {a l : List D} {r : D × List D} (h : wpD Y.env k161 (fin tys l.length [ResultVar.tmp 2] r) (entry a l)) (ha : a.length = 1) : Y.call 161 a l = some r :=
 call_slim (Y := Y) rfl Try.func161 (ha ▸ ok161) slim161 h
theorem g_slices_Values_Sint_int_call (s_ : List Int) {r : (List Int)} (h : g_slices_Values_Sint_int s_ = some r) : Y.call 161 [D.sl 3 (lst (D.int .i64) s_)] [] = some (D.clo 178 [D.cptr [D.sl 3 (lst (D.int .i64) r)]], []) := by
 refine c161 ?_ rfl
 unfold k161
 unfold g_slices_Values_Sint_int at h
 cases h
 simp (maxDischargeDepth := 9) only [↓xpre, xpost, xcore, yset, ↓reduceIte, Nat.reduceEqDiff, Nat.reduceLT]

noncomputable def gBS_l0_S (x_ : List (List Int)) (target : List Int) (cmp : (List Int) → (List Int) → Option Int) (i j : Int) : Option ((Int × Int) ⊕ (Int)) :=
 if i < j then
  ck (0 ≤ IntKind.i64.wrap ((IntKind.u64.wrap (IntKind.i64.wrap (i + j))).fdiv (2 ^ (min 1 (IntKind.u64.bits)))) ∧ (IntKind.i64.wrap ((IntKind.u64.wrap (IntKind.i64.wrap (i + j))).fdiv (2 ^ (min 1 (IntKind.u64.bits))))).toNat < x_.length) <|
  (cmp (x_.getD ((IntKind.i64.wrap ((IntKind.u64.wrap (IntKind.i64.wrap (i + j))).fdiv (2 ^ (min 1 (IntKind.u64.bits))))).toNat) default) target).bind fun r3_ =>
  if r3_ < 0 then
   some (Sum.inl (IntKind.i64.wrap ((IntKind.i64.wrap ((IntKind.u64.wrap (IntKind.i64.wrap (i + j))).fdiv (2 ^ (min 1 (IntKind.u64.bits))))) + 1), j))
  else
   some (Sum.inl (i, IntKind.i64.wrap ((IntKind.u64.wrap (IntKind.i64.wrap (i + j))).fdiv (2 ^ (min 1 (IntKind.u64.bits))))))
 else
  some (Sum.inr i)
noncomputable def gBS_l0 (x_ : List (List Int)) (target : List Int) (cmp : (List Int) → (List Int) → Option Int) (v : Int × Int) : Option (Int) := itO (fun v => gBS_l0_S x_ target cmp v.1 v.2) v
noncomputable def gBS (x_ : List (List Int)) (target : List Int) (cmp : (List Int) → (List Int) → Option Int) : Option (Int × Bool) :=
 (gBS_l0 x_ target cmp (0, (x_.length : Int))).bind fun r2_ =>
 if r2_ < (x_.length : Int) then
  ck (0 ≤ r2_ ∧ r2_.toNat < x_.length) <|
  (cmp (x_.getD r2_.toNat default) target).bind fun r5_ =>
  some (r2_, (decide (r5_ = 0)))
 else
  some (r2_, false)
/-- slices.BinarySearchFunc[[][]int,[]int,[]int] -/
def k159_l0b : SC :=
 .seq
 (.seq
 (.ops [
 ⟨some 15, .move (.tmp 9), 3, none⟩,
 ⟨some 16, .move (.tmp 10), 3, none⟩,
 ⟨some 17, .binOp .lss 3 (.tmp 15) (.tmp 16) 3, 4, none⟩])
 (.cond (.tmp 17)
 .skip
 (.exit 0)))
 (.block 1
 (.seq
 (.ops [
 ⟨some 18, .move (.tmp 9), 3, none⟩,
 ⟨some 19, .move (.tmp 10), 3, none⟩,
 ⟨some 20, .binOp .add 3 (.tmp 18) (.tmp 19) 3, 3, none⟩,
 ⟨some 21, .convert 3 129 (.tmp 20), 129, none⟩,
 ⟨some 22, .binOp .shr 129 (.tmp 21) (.const (.int .u64 1)) 129, 129, none⟩,
 ⟨some 23, .convert 129 3 (.tmp 22), 3, none⟩,
 ⟨some 11, .assign (.tmp 23), 3, none⟩])
 (.seq
 (.ops [
 ⟨some 24, .move (.tmp 2), 150, none⟩,
 ⟨some 25, .move (.tmp 0), 44, none⟩,
 ⟨some 26, .move (.tmp 11), 3, none⟩,
 ⟨some 27, .indexAddr 44 (.tmp 25) (.tmp 26), 0, none⟩,
 ⟨some 28, .load 23 (.tmp 27), 23, none⟩,
 ⟨some 29, .move (.tmp 1), 23, none⟩,
 ⟨some 30, .call ⟨(.value (.tmp 24)), #[(.tmp 28), (.tmp 29)], #[23, 23]⟩, 3, none⟩,
 ⟨some 31, .binOp .lss 3 (.tmp 30) (.const (.int .i64 0)) 3, 4, none⟩])
 (.cond (.tmp 31)
 (.ops [
 ⟨some 32, .move (.tmp 11), 3, none⟩,
 ⟨some 33, .binOp .add 3 (.tmp 32) (.const (.int .i64 1)) 3, 3, none⟩,
 ⟨some 9, .assign (.tmp 33), 3, none⟩])
 (.ops [
 ⟨some 34, .move (.tmp 11), 3, none⟩,
 ⟨some 10, .assign (.tmp 34), 3, none⟩])))))
def k159_l0 : SC := .loop k159_l0b
def k159 : SC :=
 .seq
 (.ops [
 ⟨some 6, .assign (.const (.int .i64 0)), 3, none⟩,
 ⟨some 7, .assign (.const (.bool false)), 4, none⟩])
 (.seq
 (.ops [
 ⟨some 12, .move (.tmp 0), 44, none⟩,
 ⟨some 13, .call ⟨(.builtin .len), #[(.tmp 12)], #[44]⟩, 3, none⟩,
 ⟨some 8, .assign (.tmp 13), 3, none⟩])
 (.seq
 (.ops [
 ⟨some 14, .move (.tmp 8), 3, none⟩,
 ⟨some 9, .assign (.const (.int .i64 0)), 3, none⟩,
 ⟨some 10, .assign (.tmp 14), 3, none⟩])
 (.seq
 (.block 0
 k159_l0)
 (.seq
 (.ops [
 ⟨some 35, .move (.tmp 9), 3, none⟩,
 ⟨some 36, .move (.tmp 9), 3, none⟩,
 ⟨some 37, .move (.tmp 8), 3, none⟩,
 ⟨some 38, .binOp .lss 3 (.tmp 36) (.tmp 37) 3, 4, none⟩,
 ⟨some 39, .move (.tmp 38), 4, none⟩,
 ⟨some 40, .move (.tmp 2), 150, (some (some 39, true))⟩,
 ⟨some 41, .move (.tmp 0), 44, (some (some 39, true))⟩,
 ⟨some 42, .move (.tmp 9), 3, (some (some 39, true))⟩,
 ⟨some 43, .indexAddr 44 (.tmp 41) (.tmp 42), 0, (some (some 39, true))⟩,
 ⟨some 44, .load 23 (.tmp 43), 23, (some (some 39, true))⟩,
 ⟨some 45, .move (.tmp 1), 23, (some (some 39, true))⟩,
 ⟨some 46, .call ⟨(.value (.tmp 40)), #[(.tmp 44), (.tmp 45)], #[23, 23]⟩, 3, (some (some 39, true))⟩,
 ⟨some 47, .binOp .eql 3 (.tmp 46) (.const (.int .i64 0)) 3, 4, (some (some 39, true))⟩,
 ⟨some 48, .pick (.tmp 39) (.tmp 47) (.const (.bool false)), 4, none⟩,
 ⟨some 6, .assign (.tmp 35), 3, none⟩,
 ⟨some 7, .assign (.tmp 48), 4, none⟩])
 .ret))))
theorem slim159 : Try.f159.body.map (slim lends) = some k159 := by kernel_rfl
theorem ok159 : fnOk Try.f159 3 = true := by kernel_rfl
theorem c159 {a l : List D} {r : D × List D} (h : wpD Y.env k159 (fin tys l.length [ResultVar.tmp 6, ResultVar.tmp 7] r) (entry a l)) (ha : a.length = 3) : Y.call 159 a l = some r :=
 call_slim (Y := Y) rfl Try.func159 (ha ▸ ok159) slim159 h
def gBS_l0_M (x_ : List (List Int)) (target : List Int) (cmp : (List Int) → (List Int) → Option Int) (cmp_f : FuncId) (cmp_c : List D) (i j : Int) (s : St) : Prop := s.v 0 = D.sl 23 (lst (fun x => D.sl 3 (lst (D.int .i64) x)) x_) ∧ s.v 1 = D.sl 3 (lst (D.int .i64) target) ∧ s.v 2 = D.clo cmp_f cmp_c ∧ s.v 8 = D.int .i64 (x_.length : Int) ∧ s.v 9 = D.int .i64 i ∧ s.v 10 = D.int .i64 j
def gBS_l0_X (x_ : List (List Int)) (target : List Int) (cmp : (List Int) → (List Int) → Option Int) (cmp_f : FuncId) (cmp_c : List D) (r : Int) (ex : Ex) (s : St) : Prop := ex = .exit 0 ∧ s.v 0 = D.sl 23 (lst (fun x => D.sl 3 (lst (D.int .i64) x)) x_) ∧ s.v 1 = D.sl 3 (lst (D.int .i64) target) ∧ s.v 2 = D.clo cmp_f cmp_c ∧ s.v 8 = D.int .i64 (x_.length : Int) ∧ s.v 9 = D.int .i64 r
theorem gBS_l0_wp (x_ : List (List Int)) (target : List Int) (cmp : (List Int) → (List Int) → Option Int) (cmp_f : FuncId) (cmp_c : List D) (cmp_h : ∀ (a0 a1 : List Int) (r : Int), cmp a0 a1 = some r → Y.call cmp_f (D.sl 3 (lst (D.int .i64) a0) :: D.sl 3 (lst (D.int .i64) a1) :: cmp_c) [] = some (D.int .i64 r, [])) (cmp_l : lends cmp_f = false) {v : Int × Int} {s : St} {r : Int} (h : gBS_l0 x_ target cmp v = some r) (hM : gBS_l0_M x_ target cmp cmp_f cmp_c v.1 v.2 s) : wpD Y.env k159_l0 (gBS_l0_X x_ target cmp cmp_f cmp_c r) s := by
 unfold gBS_l0 at h
 refine wd_itO (c := k159_l0b) (fun v => gBS_l0_S x_ target cmp v.1 v.2) (fun v s => gBS_l0_M x_ target cmp cmp_f cmp_c v.1 v.2 s) (gBS_l0_X x_ target cmp cmp_f cmp_c) ?_ h hM
 clear h hM s v r
 intro v s o hM h
 obtain ⟨i, j⟩ := v
 dsimp only at h hM
 unfold gBS_l0_S at h
 unfold gBS_l0_M at hM
 obtain ⟨m0, m1, m2, m3, m4, m5⟩ := hM
 unfold k159_l0b
 by_cases e1 : i < j
 ·rw [if_pos e1] at h
  obtain ⟨e2, h⟩ := ckS h
  obtain ⟨r3_, hl3, h⟩ := bindS h
  try dsimp only at h
  have c3 := cmp_h _ _ _ hl3
  by_cases e4 : r3_ < 0
  ·rw [if_pos e4] at h
   cases h
   simp (maxDischargeDepth := 9) only [↓xpre, xpost, xlst, xc2, xcore, yset, ↓reduceIte, Nat.reduceEqDiff, Nat.reduceLT, Nat.reduceAdd, Int.reduceLT, Int.reduceToNat, m0, m1, m2, m3, m4, m5, cmp_l, e1, e2.1, e2.2, c3, e4, gBS_l0_M, sxN]
  ·rw [if_neg e4] at h
   cases h
   simp (maxDischargeDepth := 9) only [↓xpre, xpost, xlst, xc2, xcore, yset, ↓reduceIte, Nat.reduceEqDiff, Nat.reduceLT, Nat.reduceAdd, Int.reduceLT, Int.reduceToNat, m0, m1, m2, m3, m4, m5, cmp_l, e1, e2.1, e2.2, c3, e4, gBS_l0_M, sxN]
 ·rw [if_neg e1] at h
  cases h
  simp (maxDischargeDepth := 9) only [↓xpre, xpost, yset, ↓reduceIte, Nat.reduceEqDiff, Nat.reduceLT, m0, m1, m2, m3, m4, m5, e1, gBS_l0_M, gBS_l0_X, sxE]
theorem gBS_call (x_ : List (List Int)) (target : List Int) (cmp : (List Int) → (List Int) → Option Int) (cmp_f : FuncId) (cmp_c : List D) (cmp_h : ∀ (a0 a1 : List Int) (r : Int), cmp a0 a1 = some r → Y.call cmp_f (D.sl 3 (lst (D.int .i64) a0) :: D.sl 3 (lst (D.int .i64) a1) :: cmp_c) [] = some (D.int .i64 r, [])) (cmp_l : lends cmp_f = false) {r : Int × Bool} (h : gBS x_ target cmp = some r) : Y.call 159 [D.sl 23 (lst (fun x => D.sl 3 (lst (D.int .i64) x)) x_), D.sl 3 (lst (D.int .i64) target), D.clo cmp_f cmp_c] [] = some (D.tup [D.int .i64 r.1, D.bool r.2], []) := by
 refine c159 ?_ rfl
 unfold k159
 unfold gBS at h
 obtain ⟨r2_, hl2, h⟩ := bindS h
 try dsimp only at h
 simp (maxDischargeDepth := 9) only [↓xpre, xpost, xlst, xcore, yset, ↓reduceIte, Nat.reduceEqDiff, Nat.reduceLT]
 refine wd_mono (gBS_l0_wp x_ target cmp cmp_f cmp_c cmp_h cmp_l hl2 ?_) ?_
 ·simp (maxDischargeDepth := 9) only [xpost, xcore, ↓reduceIte, Nat.reduceEqDiff, Nat.reduceLT, gBS_l0_M]
 ·intro ex2 s2 hX2
  unfold gBS_l0_X at hX2
  obtain ⟨rfl, n2_0, n2_1, n2_2, n2_3, n2_4⟩ := hX2
  by_cases e3 : r2_ < (x_.length : Int)
  ·rw [if_pos e3] at h
   obtain ⟨e4, h⟩ := ckS h
   obtain ⟨r5_, hl5, h⟩ := bindS h
   try dsimp only at h
   have c5 := cmp_h _ _ _ hl5
   cases h
   simp (maxDischargeDepth := 9) only [↓xpre, xpost, xlst, xc2, xcore, yset, ↓reduceIte, Nat.reduceEqDiff, Nat.reduceLT, Nat.reduceAdd, cmp_l, n2_0, n2_1, n2_2, n2_3, n2_4, e3, e4.1, e4.2, c5]
  ·rw [if_neg e3] at h
   cases h
   simp (maxDischargeDepth := 9) only [↓xpre, xpost, xcore, yset, ↓reduceIte, Nat.reduceEqDiff, Nat.reduceLT, n2_3, n2_4, e3]

noncomputable def i_hasConfiguration (list : List (List Int)) (labels : List Int) : Option (Bool) :=
 (g_slices_Values_Sint_int labels).bind fun r1_ =>
 ck (r1_.length < 1099511627776) <|
 (gBS list (sortM r1_) (fun a0 a1 => gCp a0 a1)).bind fun r4_ =>
 some r4_.2
/-- impl.hasConfiguration -/
def k144 : SC :=
 .seq
 (.ops [
 ⟨some 4, .assign (.const (.bool false)), 4, none⟩])
 (.seq
 (.ops [
 ⟨some 8, .move (.tmp 0), 44, none⟩,
 ⟨some 9, .move (.tmp 1), 23, none⟩,
 ⟨some 10, .call ⟨(.value (.func 161)), #[(.tmp 9)], #[23]⟩, 172, none⟩,
 ⟨some 11, .call ⟨(.value (.func 160)), #[(.tmp 10)], #[172]⟩, 23, none⟩,
 ⟨some 12, .call ⟨(.value (.func 159)), #[(.tmp 8), (.tmp 11), (.func 143)], #[44, 23, 150]⟩, 168, none⟩,
 ⟨some 7, .move (.tmp 12), 168, none⟩,
 ⟨some 13, .extract (.tmp 7) 0, 3, none⟩,
 ⟨some 14, .extract (.tmp 7) 1, 4, none⟩,
 ⟨some 5, .assign (.tmp 13), 3, none⟩,
 ⟨some 6, .assign (.tmp 14), 4, none⟩])
 (.seq
 (.ops [
 ⟨some 15, .move (.tmp 6), 4, none⟩,
 ⟨some 4, .assign (.tmp 15), 4, none⟩])
 .ret))
theorem slim144 : Try.f144.body.map (slim lends) = some k144 := by kernel_rfl
theorem ok144 : fnOk Try.f144 2 = true := by kernel_rfl
theorem c144 {a l : List D} {r : D × List D} (h : wpD Y.env k144 (fin tys l.length [ResultVar.tmp 4] r) (entry a l)) (ha : a.length = 2) : Y.call 144 a l = some r :=
 call_slim (Y := Y) rfl Try.func144 (ha ▸ ok144) slim144 h
theorem i_hasConfiguration_call (list : List (List Int)) (labels : List Int) {r : Bool} (h : i_hasConfiguration list labels = some r) : Y.call 144 [D.sl 23 (lst (fun x => D.sl 3 (lst (D.int .i64) x)) list), D.sl 3 (lst (D.int .i64) labels)] [] = some (D.bool r, []) := by
 refine c144 ?_ rfl
 unfold k144
 unfold i_hasConfiguration at h
 obtain ⟨r1_, hl1, h⟩ := bindS h
 try dsimp only at h
 have c1 := g_slices_Values_Sint_int_call labels hl1
 obtain ⟨e2, h⟩ := ckS h
 have c3 := sorted_160 r1_ e2
 obtain ⟨r4_, hl4, h⟩ := bindS h
 try dsimp only at h
 have c4 := gBS_call list (sortM r1_) (fun a0 a1 => gCp a0 a1) 143 [] (fun a0 a1 _ hh => gCp_call a0 a1 hh) le143 hl4
 cases h
 simp (maxDischargeDepth := 9) only [↓xpre, xpost, xlst, xc2, xcore, yset, ↓reduceIte, Nat.reduceEqDiff, Nat.reduceLT, Nat.reduceAdd, c1, c3, c4]

theorem search_eq (l : List (List Int)) (x : List Int) (f : List Int → List Int → Option Int) (hl : l.length < 1099511627776) (hf : ∀ i, i < l.length → f (l.getD i default) x = some (cmpL (l.getD i default) x)) (h : incL l = true) :
  ∃ r, gBS l x f = some (r, l.contains x) := by
 have key := itO_inv (fun v => gBS_l0_S l x f v.1 v.2)
  (fun m v => ∃ i j : Nat, v = ((i : Int), (j : Int)) ∧ i ≤ j ∧ j ≤ l.length ∧ m = j - i ∧ (∀ k, k < i → cmpL (l.getD k default) x < 0) ∧ (∀ k, j ≤ k → k < l.length → ¬ cmpL (l.getD k default) x < 0))
  (fun r => ∃ i : Nat, r = (i : Int) ∧ i ≤ l.length ∧ (∀ k, k < i → cmpL (l.getD k default) x < 0) ∧ (∀ k, i ≤ k → k < l.length → ¬ cmpL (l.getD k default) x < 0)) ?_ l.length (0, (l.length : Int)) ⟨0, l.length, rfl, Nat.zero_le _, Nat.le_refl _, by omega, fun k hk => by omega, fun k h1 h2 => by omega⟩
 ·obtain ⟨r, h1, i, rfl, hi, h2, h3⟩ := key
  unfold gBS gBS_l0
  rw [h1, Option.bind_some]
  by_cases hlt : i < l.length
  ·rw [if_pos (by omega), ckT (by omega), Int.toNat_natCast, hf i hlt, Option.bind_some]
   refine ⟨(i : Int), ?_⟩
   congr 2
   rw [Bool.eq_iff_iff, decide_eq_true_eq, List.contains_iff_mem, mem_getD]
   constructor
   ·intro e; exact ⟨i, hlt, cmpL_eq _ _ e⟩
   ·rintro ⟨k, hk, rfl⟩
    have k1 : ¬ k < i := fun hki => by have := h2 k hki; rw [cmpL_refl] at this; omega
    have k2 : ¬ i < k := fun hik => h3 i (Nat.le_refl _) hlt (incL_lt' h hik hk)
    have : k = i := by omega
    subst this
    exact cmpL_refl _
  ·rw [if_neg (by omega)]
   refine ⟨(i : Int), ?_⟩
   congr 2
   symm
   rw [Bool.eq_false_iff]
   intro hc
   obtain ⟨k, hk, rfl⟩ := mem_getD.1 (List.contains_iff_mem.1 hc)
   have := h2 k (by omega)
   rw [cmpL_refl] at this
   omega
 ·rintro m v ⟨i, j, rfl, hij, hj, rfl, h2, h3⟩
  simp only [gBS_l0_S]
  by_cases hlt : i < j
  ·have e1 : (2 : Int) ^ (min 1 (IntKind.u64.bits)) = 2 := by decide
   have e2 : (((i : Int) + (j : Int)).fdiv 2) = (((i + j) / 2 : Nat) : Int) := by
    rw [Int.fdiv_eq_ediv_of_nonneg _ (by omega)]; omega
   rw [if_pos (by omega), wr64 ((i : Int) + j) (by omega), wrU _ (by omega), e1, e2, wr64 _ (by omega), ckT (by omega), Int.toNat_natCast, hf _ (by omega), Option.bind_some]
   left
   by_cases hc : cmpL (l.getD ((i + j) / 2) default) x < 0
   ·rw [if_pos hc, wr64 _ (by omega)]
    refine ⟨_, j - ((i + j) / 2 + 1), rfl, by omega, (i + j) / 2 + 1, j, rfl, by omega, hj, rfl, fun k hk => ?_, h3⟩
    by_cases e : k = (i + j) / 2
    ·rw [e]; exact hc
    ·exact cmpL_trans _ _ _ (incL_lt' h (by omega : k < (i + j) / 2) (by omega)) hc
   ·rw [if_neg hc]
    refine ⟨_, (i + j) / 2 - i, rfl, by omega, i, (i + j) / 2, rfl, by omega, by omega, rfl, h2, fun k hk1 hk2 hck => ?_⟩
    by_cases e : k = (i + j) / 2
    ·rw [e] at hck; exact hc hck
    ·exact hc (cmpL_trans _ _ _ (incL_lt' h (by omega : (i + j) / 2 < k) hk2) hck)
  ·rw [if_neg (by omega)]
   right
   have : i = j := by omega
   subst this
   exact ⟨_, rfl, i, rfl, hj, h2, h3⟩
theorem i_hasConfiguration_eq (l : List (List Int)) (x : List Int) (hl : Short l) (hx : x.length < 1099511627776) (h : incL l = true) : i_hasConfiguration l x = some (l.contains (sortI x)) := by
 unfold i_hasConfiguration g_slices_Values_Sint_int
 rw [Option.bind_some, ckT hx, sortM_eq]
 obtain ⟨r, e⟩ := search_eq l (sortI x) (fun a0 a1 => gCp a0 a1) hl.1 (fun i hi => gCp_eq _ _ (hl.getD i) (by rw [sortI_len]; exact hx)) h
 rw [e]; rfl
theorem i_hasConfiguration_cl (list : List (List Int)) (labels : List Int) (h0 : Short list) (h1 : labels.length < 1099511627776) (h2 : incL list = true) : Y.call 144 [D.sl 23 (lst (fun x => D.sl 3 (lst (D.int .i64) x)) list), D.sl 3 (lst (D.int .i64) labels)] [] = some (D.bool (list.contains (sortI labels)), []) := i_hasConfiguration_call list labels (i_hasConfiguration_eq list labels h0 h1 h2)
noncomputable def s_l1Same_l0_S (a b : List Int) (t13_ : Int) : Option ((Int) ⊕ (Unit ⊕ Unit)) :=
 if t13_ < (a.length : Int) then
  ck (0 ≤ t13_ ∧ t13_.toNat < a.length) <|
  ck (0 ≤ t13_ ∧ t13_.toNat < b.length) <|
  if (a.getD t13_.toNat default) = (b.getD t13_.toNat default) then
   some (Sum.inl (IntKind.i64.wrap (t13_ + 1)))
  else
   some (Sum.inr (Sum.inl ()))
 else
  some (Sum.inr (Sum.inr ()))
noncomputable def s_l1Same_l0 (a b : List Int) (v : Int) : Option (Unit ⊕ Unit) := itO (fun v => s_l1Same_l0_S a b v) v
noncomputable def s_l1Same (a b : List Int) : Option (Bool) :=
 if (a.length : Int) = (b.length : Int) then
  (s_l1Same_l0 a b 0).bind fun r3_ =>
  match r3_ with
  | .inl q3_ =>
   some false
  | .inr q3_ =>
   some true
 else
  some false
/-- spec.l1Same -/
def k110_l0b : SC :=
 .seq
 (.ops [
 ⟨some 14, .binOp .lss 3 (.tmp 13) (.tmp 12) 3, 0, none⟩])
 (.seq
 (.cond (.tmp 14)
 .skip
 (.exit 0))
 (.seq
 (.block 1
 (.seq
 (.ops [
 ⟨some 15, .move (.tmp 13), 3, none⟩,
 ⟨some 5, .assign (.tmp 15), 3, none⟩])
 (.seq
 (.draws [
 (⟨[16, 0, 0], [16, 17, 18, 19, 20, 21, 22, 23, 24], [16]⟩, ⟨some 16, .move (.tmp 0), 23, none⟩),
 (⟨[17, 5, 5], [16, 17, 18, 19, 20, 21, 22, 23, 24], [17]⟩, ⟨some 17, .move (.tmp 5), 3, none⟩),
 (⟨[18, 16, 17, 0, 5], [16, 17, 18, 19, 20, 21, 22, 23, 24], [18]⟩, ⟨some 18, .indexAddr 23 (.tmp 16) (.tmp 17), 0, none⟩),
 (⟨[19, 18, 0], [16, 17, 18, 19, 20, 21, 22, 23, 24], [19]⟩, ⟨some 19, .load 3 (.tmp 18), 3, none⟩),
 (⟨[20, 1, 1], [16, 17, 18, 19, 20, 21, 22, 23, 24], [20]⟩, ⟨some 20, .move (.tmp 1), 23, none⟩),
 (⟨[21, 5, 5], [16, 17, 18, 19, 20, 21, 22, 23, 24], [21]⟩, ⟨some 21, .move (.tmp 5), 3, none⟩),
 (⟨[22, 20, 21, 1, 5], [16, 17, 18, 19, 20, 21, 22, 23, 24], [22]⟩, ⟨some 22, .indexAddr 23 (.tmp 20) (.tmp 21), 0, none⟩),
 (⟨[23, 22, 1], [16, 17, 18, 19, 20, 21, 22, 23, 24], [23]⟩, ⟨some 23, .load 3 (.tmp 22), 3, none⟩),
 (⟨[24, 19, 23, 0, 1], [16, 17, 18, 19, 20, 21, 22, 23, 24], [24]⟩, ⟨some 24, .binOp .neq 3 (.tmp 19) (.tmp 23) 3, 4, none⟩)])
 (.cond (.tmp 24)
 (.seq
 (.ops [
 ⟨some 4, .assign (.const (.bool false)), 4, none⟩])
 .ret)
 .skip))))
 (.ops [
 ⟨some 25, .binOp .add 3 (.tmp 13) (.const (.int .i64 1)) 3, 3, none⟩,
 ⟨some 13, .move (.tmp 25), 3, none⟩])))
def k110_l0 : SC := .loop k110_l0b
def k110 : SC :=
 .seq
 (.ops [
 ⟨some 4, .assign (.const (.bool false)), 4, none⟩])
 (.seq
 (.seq
 (.ops [
 ⟨some 6, .move (.tmp 0), 23, none⟩,
 ⟨some 7, .call ⟨(.builtin .len), #[(.tmp 6)], #[23]⟩, 3, none⟩,
 ⟨some 8, .move (.tmp 1), 23, none⟩,
 ⟨some 9, .call ⟨(.builtin .len), #[(.tmp 8)], #[23]⟩, 3, none⟩,
 ⟨some 10, .binOp .neq 3 (.tmp 7) (.tmp 9) 3, 4, none⟩])
 (.cond (.tmp 10)
 (.seq
 (.ops [
 ⟨some 4, .assign (.const (.bool false)), 4, none⟩])
 .ret)
 .skip))
 (.seq
 (.seq
 (.ops [
 ⟨some 11, .move (.tmp 0), 23, none⟩,
 ⟨some 12, .call ⟨(.builtin .len), #[(.tmp 11)], #[23]⟩, 3, none⟩,
 ⟨some 13, .move (.const (.int .i64 0)), 3, none⟩])
 (.block 0
 k110_l0))
 (.seq
 (.ops [
 ⟨some 4, .assign (.const (.bool true)), 4, none⟩])
 .ret)))
theorem slim110 : Try.f110.body.map (slim lends) = some k110 := by kernel_rfl
theorem ok110 : fnOk Try.f110 2 = true := by kernel_rfl
theorem c110 {a l : List D} {r : D × List D} (h : wpD Y.env k110 (fin tys l.length [ResultVar.tmp 4] r) (entry a l)) (ha : a.length = 2) : Y.call 110 a l = some r :=
 call_slim (Y := Y) rfl Try.func110 (ha ▸ ok110) slim110 h
def s_l1Same_l0_M (a b : List Int) (t13_ : Int) (s : St) : Prop := s.v 0 = D.sl 3 (lst (D.int .i64) a) ∧ s.v 1 = D.sl 3 (lst (D.int .i64) b) ∧ s.v 12 = D.int .i64 (a.length : Int) ∧ s.v 13 = D.int .i64 t13_
def s_l1Same_l0_X (a b : List Int) (r : Unit ⊕ Unit) (ex : Ex) (s : St) : Prop := match r with
 | .inl q => ex = .ret ∧ s.v 4 = D.bool false
 | .inr q => ex = .exit 0
theorem s_l1Same_l0_wp (a b : List Int) {v : Int} {s : St} {r : Unit ⊕ Unit} (h : s_l1Same_l0 a b v = some r) (hM : s_l1Same_l0_M a b v s) : wpD Y.env k110_l0 (s_l1Same_l0_X a b r) s := by
 unfold s_l1Same_l0 at h
 refine wd_itO (c := k110_l0b) (fun v => s_l1Same_l0_S a b v) (fun v s => s_l1Same_l0_M a b v s) (s_l1Same_l0_X a b) ?_ h hM
 clear h hM s v r
 intro t13_ s o hM h
 unfold s_l1Same_l0_S at h
 unfold s_l1Same_l0_M at hM
 obtain ⟨m0, m1, m2, m3⟩ := hM
 unfold k110_l0b
 by_cases e2 : t13_ < (a.length : Int)
 ·rw [if_pos e2] at h
  obtain ⟨e3, h⟩ := ckS h
  obtain ⟨e4, h⟩ := ckS h
  by_cases e5 : (a.getD t13_.toNat default) = (b.getD t13_.toNat default)
  ·rw [if_pos e5] at h
   cases h
   simp (maxDischargeDepth := 9) only [↓xpre, xpost, xlst, xcore, yset, ↓reduceIte, Nat.reduceEqDiff, Nat.reduceLT, m0, m1, m2, m3, e2, e3.1, e3.2, e4.2, decide_eq_true e5, s_l1Same_l0_M, sxN]
  ·rw [if_neg e5] at h
   cases h
   simp (maxDischargeDepth := 9) only [↓xpre, xpost, xlst, xcore, yset, ↓reduceIte, Nat.reduceEqDiff, Nat.reduceLT, m0, m1, m2, m3, e2, e3.1, e3.2, e4.2, e5, s_l1Same_l0_M, s_l1Same_l0_X, sxR]
 ·rw [if_neg e2] at h
  cases h
  simp (maxDischargeDepth := 9) only [↓xpre, xpost, yset, ↓reduceIte, Nat.reduceLT, m2, m3, e2, s_l1Same_l0_M, s_l1Same_l0_X, sxE]
theorem s_l1Same_call (a b : List Int) {r : Bool} (h : s_l1Same a b = some r) : Y.call 110 [D.sl 3 (lst (D.int .i64) a), D.sl 3 (lst (D.int .i64) b)] [] = some (D.bool r, []) := by
 refine c110 ?_ rfl
 unfold k110
 unfold s_l1Same at h
 by_cases e1 : (a.length : Int) = (b.length : Int)
 ·rw [if_pos e1] at h
  obtain ⟨r3_, hl3, h⟩ := bindS h
  try dsimp only at h
  simp (maxDischargeDepth := 9) only [↓xpre, xpost, xlst, xcore, yset, ↓reduceIte, Nat.reduceEqDiff, Nat.reduceLT, decide_eq_true e1]
  refine wd_mono (s_l1Same_l0_wp a b hl3 ?_) ?_
  ·simp (maxDischargeDepth := 9) only [xpost, xcore, ↓reduceIte, Nat.reduceEqDiff, Nat.reduceLT, s_l1Same_l0_M]
  ·intro ex3 s3 hX3
   rcases r3_ with q3_ | q3_
   ·unfold s_l1Same_l0_X at hX3
    dsimp only at hX3 h
    obtain ⟨rfl, n3_0⟩ := hX3
    cases h
    simp (maxDischargeDepth := 9) only [↓xpre, xpost, xcore, ↓reduceIte, n3_0]
   ·unfold s_l1Same_l0_X at hX3
    dsimp only at hX3 h
    obtain rfl := hX3
    cases h
    simp (maxDischargeDepth := 9) only [↓xpre, xpost, xcore, yset, ↓reduceIte, Nat.reduceEqDiff, Nat.reduceLT]
 ·rw [if_neg e1] at h
  cases h
  simp (maxDischargeDepth := 9) only [↓xpre, xpost, xlst, xcore, yset, ↓reduceIte, Nat.reduceEqDiff, Nat.reduceLT, e1]

noncomputable def s_prHas_l0_S (l : List (List Int)) (x_ : List Int) (t9_ : Int) : Option ((Int) ⊕ (Unit ⊕ Unit)) :=
 if t9_ < (l.length : Int) then
  ck (0 ≤ t9_ ∧ t9_.toNat < l.length) <|
  (s_l1Same x_ (l.getD t9_.toNat default)).bind fun r3_ =>
  if r3_ = true then
   some (Sum.inr (Sum.inl ()))
  else
   some (Sum.inl (IntKind.i64.wrap (t9_ + 1)))
 else
  some (Sum.inr (Sum.inr ()))
noncomputable def s_prHas_l0 (l : List (List Int)) (x_ : List Int) (v : Int) : Option (Unit ⊕ Unit) := itO (fun v => s_prHas_l0_S l x_ v) v
noncomputable def s_prHas (l : List (List Int)) (x_ : List Int) : Option (Bool) :=
 (s_prHas_l0 l x_ 0).bind fun r2_ =>
 match r2_ with
 | .inl q2_ =>
  some true
 | .inr q2_ =>
  some false
/-- spec.prHas -/
def k139_l0b : SC :=
 .seq
 (.ops [
 ⟨some 10, .binOp .lss 3 (.tmp 9) (.tmp 8) 3, 0, none⟩])
 (.seq
 (.cond (.tmp 10)
 .skip
 (.exit 0))
 (.seq
 (.block 1
 (.seq
 (.ops [
 ⟨some 11, .indexAddr 44 (.tmp 7) (.tmp 9), 0, none⟩,
 ⟨some 12, .load 23 (.tmp 11), 23, none⟩,
 ⟨some 6, .assign (.tmp 12), 23, none⟩])
 (.seq
 (.ops [
 ⟨some 13, .move (.tmp 1), 23, none⟩,
 ⟨some 14, .move (.tmp 6), 23, none⟩,
 ⟨some 15, .call ⟨(.value (.func 110)), #[(.tmp 13), (.tmp 14)], #[23, 23]⟩, 4, none⟩])
 (.cond (.tmp 15)
 (.seq
 (.ops [
 ⟨some 4, .assign (.const (.bool true)), 4, none⟩])
 .ret)
 .skip))))
 (.ops [
 ⟨some 16, .binOp .add 3 (.tmp 9) (.const (.int .i64 1)) 3, 3, none⟩,
 ⟨some 9, .move (.tmp 16), 3, none⟩])))
def k139_l0 : SC := .loop k139_l0b
def k139 : SC :=
 .seq
 (.ops [
 ⟨some 4, .assign (.const (.bool false)), 4, none⟩])
 (.seq
 (.seq
 (.ops [
 ⟨some 7, .move (.tmp 0), 44, none⟩,
 ⟨some 8, .call ⟨(.builtin .len), #[(.tmp 7)], #[44]⟩, 3, none⟩,
 ⟨some 9, .move (.const (.int .i64 0)), 3, none⟩])
 (.block 0
 k139_l0))
 (.seq
 (.ops [
 ⟨some 4, .assign (.const (.bool false)), 4, none⟩])
 .ret))
theorem slim139 : Try.f139.body.map (slim lends) = some k139 := by kernel_rfl
theorem ok139 : fnOk Try.f139 2 = true := by kernel_rfl
theorem c139 {a l : List D} {r : D × List D} (h : wpD Y.env k139 (fin tys l.length [ResultVar.tmp 4] r) (entry a l)) (ha : a.length = 2) : Y.call 139 a l = some r :=
 call_slim (Y := Y) rfl Try.func139 (ha ▸ ok139) slim139 h
def s_prHas_l0_M (l : List (List Int)) (x_ : List Int) (t9_ : Int) (s : St) : Prop := s.v 1 = D.sl 3 (lst (D.int .i64) x_) ∧ s.v 7 = D.sl 23 (lst (fun x => D.sl 3 (lst (D.int .i64) x)) l) ∧ s.v 8 = D.int .i64 (l.length : Int) ∧ s.v 9 = D.int .i64 t9_
def s_prHas_l0_X (l : List (List Int)) (x_ : List Int) (r : Unit ⊕ Unit) (ex : Ex) (s : St) : Prop := match r with
 | .inl q => ex = .ret ∧ s.v 4 = D.bool true
 | .inr q => ex = .exit 0
theorem s_prHas_l0_wp (l : List (List Int)) (x_ : List Int) {v : Int} {s : St} {r : Unit ⊕ Unit} (h : s_prHas_l0 l x_ v = some r) (hM : s_prHas_l0_M l x_ v s) : wpD Y.env k139_l0 (s_prHas_l0_X l x_ r) s := by
 unfold s_prHas_l0 at h
 refine wd_itO (c := k139_l0b) (fun v => s_prHas_l0_S l x_ v) (fun v s => s_prHas_l0_M l x_ v s) (s_prHas_l0_X l x_) ?_ h hM
 clear h hM s v r
 intro t9_ s o hM h
 unfold s_prHas_l0_S at h
 unfold s_prHas_l0_M at hM
 obtain ⟨m0, m1, m2, m3⟩ := hM
 unfold k139_l0b
 by_cases e1 : t9_ < (l.length : Int)
 ·rw [if_pos e1] at h
  obtain ⟨e2, h⟩ := ckS h
  obtain ⟨r3_, hl3, h⟩ := bindS h
  try dsimp only at h
  have c3 := s_l1Same_call x_ (l.getD t9_.toNat default) hl3
  by_cases e4 : r3_ = true
  ·rw [if_pos e4] at h
   cases h
   simp (maxDischargeDepth := 9) only [↓xpre, xpost, xlst, xc2, xcore, yset, ↓reduceIte, Nat.reduceEqDiff, Nat.reduceLT, Nat.reduceAdd, m0, m1, m2, m3, e1, e2.1, e2.2, c3, e4, s_prHas_l0_M, s_prHas_l0_X, sxR]
  ·rw [if_neg e4] at h
   have e4f : r3_ = false := Bool.eq_false_iff.mpr e4
   cases h
   simp (maxDischargeDepth := 9) only [↓xpre, xpost, xlst, xc2, xcore, yset, ↓reduceIte, Nat.reduceEqDiff, Nat.reduceLT, Nat.reduceAdd, m0, m1, m2, m3, e1, e2.1, e2.2, c3, e4f, s_prHas_l0_M, sxN]
 ·rw [if_neg e1] at h
  cases h
  simp (maxDischargeDepth := 9) only [↓xpre, xpost, yset, ↓reduceIte, Nat.reduceLT, m2, m3, e1, s_prHas_l0_M, s_prHas_l0_X, sxE]
theorem s_prHas_call (l : List (List Int)) (x_ : List Int) {r : Bool} (h : s_prHas l x_ = some r) : Y.call 139 [D.sl 23 (lst (fun x => D.sl 3 (lst (D.int .i64) x)) l), D.sl 3 (lst (D.int .i64) x_)] [] = some (D.bool r, []) := by
 refine c139 ?_ rfl
 unfold k139
 unfold s_prHas at h
 obtain ⟨r2_, hl2, h⟩ := bindS h
 try dsimp only at h
 simp (maxDischargeDepth := 9) only [↓xpre, xpost, xlst, xcore, yset, ↓reduceIte, Nat.reduceEqDiff, Nat.reduceLT]
 refine wd_mono (s_prHas_l0_wp l x_ hl2 ?_) ?_
 ·simp (maxDischargeDepth := 9) only [xpost, xcore, ↓reduceIte, Nat.reduceEqDiff, Nat.reduceLT, s_prHas_l0_M]
 ·intro ex2 s2 hX2
  rcases r2_ with q2_ | q2_
  ·unfold s_prHas_l0_X at hX2
   dsimp only at hX2 h
   obtain ⟨rfl, n2_0⟩ := hX2
   cases h
   simp (maxDischargeDepth := 9) only [↓xpre, xpost, xcore, ↓reduceIte, n2_0]
  ·unfold s_prHas_l0_X at hX2
   dsimp only at hX2 h
   obtain rfl := hX2
   cases h
   simp (maxDischargeDepth := 9) only [↓xpre, xpost, xcore, yset, ↓reduceIte, Nat.reduceEqDiff, Nat.reduceLT]

theorem l1Same_eq (a b : List Int) (ha : a.length < 1099511627776) : s_l1Same a b = some (decide (a = b)) := by
 unfold s_l1Same s_l1Same_l0
 by_cases hl : a.length = b.length
 ·rw [if_pos (by omega)]
  have key := itO_all (fun v => s_l1Same_l0_S a b v) (fun i => (i : Int)) a.length (fun i => decide (a.getD i default = b.getD i default)) (.inl ()) (.inr ()) ?_ ?_
  ·simp only [Int.natCast_zero] at key
   rw [key, all_same a b hl]
   by_cases he : a = b <;> simp [he]
  ·intro i hi
   simp only [s_l1Same_l0_S]
   rw [if_pos (lt_nat hi), ckT (ix_nat hi), ckT (ix_nat (by omega)), Int.toNat_natCast, wrS i (by omega)] <;> simp only [decide_eq_true_eq]
  ·simp only [s_l1Same_l0_S]
   rw [if_neg (not_lt_nat _)]
 ·rw [if_neg (by omega)]
  have : ¬ a = b := fun e => hl (by rw [e])
  simp [this]
theorem s_prHas_eq (l : List (List Int)) (x : List Int) (hl : l.length < 1099511627776) (hx : x.length < 1099511627776) : s_prHas l x = some (l.contains x) := by
 unfold s_prHas s_prHas_l0
 have key := itO_all (fun v => s_prHas_l0_S l x v) (fun i => (i : Int)) l.length (fun i => !decide (x = l.getD i default)) (.inl ()) (.inr ()) ?_ ?_
 ·simp only [Int.natCast_zero] at key
  rw [key, Option.bind_some]
  rw [all_getD (fun y => !decide (x = y)) l]
  by_cases hm : x ∈ l
  ·have : l.all (fun y => !decide (x = y)) = false := by
    rw [Bool.eq_false_iff]; intro hc
    have := List.all_eq_true.1 hc x hm
    simp at this
   rw [this, if_neg (by decide)]
   simp [hm]
  ·have : l.all (fun y => !decide (x = y)) = true := by
    refine List.all_eq_true.2 fun y hy => ?_
    have : ¬ x = y := fun e => hm (e ▸ hy)
    simp [this]
   rw [this, if_pos rfl]
   simp [hm]
 ·intro i hi
  simp only [s_prHas_l0_S]
  rw [if_pos (lt_nat hi), ckT (ix_nat hi), Int.toNat_natCast, l1Same_eq _ _ hx, Option.bind_some, wrS i (by omega)]
  by_cases e : x = l.getD i default <;> simp [e]
 ·simp only [s_prHas_l0_S]
  rw [if_neg (not_lt_nat _)]
theorem s_prHas_cl (l : List (List Int)) (x_ : List Int) (h0 : l.length < 1099511627776) (h1 : x_.length < 1099511627776) : Y.call 139 [D.sl 23 (lst (fun x => D.sl 3 (lst (D.int .i64) x)) l), D.sl 3 (lst (D.int .i64) x_)] [] = some (D.bool (l.contains x_), []) := s_prHas_call l x_ (s_prHas_eq l x_ h0 h1)

end Go.Proofs.Ytipfckompmhljaa
