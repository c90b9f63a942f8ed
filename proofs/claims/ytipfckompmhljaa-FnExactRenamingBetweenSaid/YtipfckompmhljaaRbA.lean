/- Renamings between problems: lifted. Conditions: none. -/
import Derived.Test.YtipfckompmhljaaL6
import Derived.Test.YtipfckompmhljaaIsP
import Derived.Test.YtipfckompmhljaaHas
import Derived.Test.YtipfckompmhljaaSrt
import Derived.Test.YtipfckompmhljaaCon
namespace Go.Proofs.Ytipfckompmhljaa
open Go Dv
set_option linter.unusedSimpArgs false
set_option linter.unusedVariables false
set_option maxRecDepth 100000
set_option maxHeartbeats 4000000

noncomputable def i_renamer_mapped_l0_S (r_0 r_1 : Int) (r_2 r_3 : List (List Int)) (r_4 r_5 : Int) (r_6 r_7 : List (List Int)) (r_8 : List Int) (from_ to : List (List Int)) (t21_ : Int) (image : List Int) (t35_ : Int) : Option (((List Int) × Int) ⊕ ((List Int))) :=
 if t35_ < ((from_.getD t21_.toNat default).length : Int) then
  ck (0 ≤ t35_ ∧ t35_.toNat < (from_.getD t21_.toNat default).length) <|
  ck (0 ≤ ((from_.getD t21_.toNat default).getD t35_.toNat default) ∧ ((from_.getD t21_.toNat default).getD t35_.toNat default).toNat < r_8.length) <|
  ck (image.length + 1 < 1099511627776) <|
  some (Sum.inl ((image ++ [(r_8.getD (((from_.getD t21_.toNat default).getD t35_.toNat default).toNat) default)]), IntKind.i64.wrap (t35_ + 1)))
 else
  some (Sum.inr image)
noncomputable def i_renamer_mapped_l0 (r_0 r_1 : Int) (r_2 r_3 : List (List Int)) (r_4 r_5 : Int) (r_6 r_7 : List (List Int)) (r_8 : List Int) (from_ to : List (List Int)) (t21_ : Int) (v : (List Int) × Int) : Option ((List Int)) := itO (fun v => i_renamer_mapped_l0_S r_0 r_1 r_2 r_3 r_4 r_5 r_6 r_7 r_8 from_ to t21_ v.1 v.2) v
noncomputable def i_renamer_mapped_l1_S (r_0 r_1 : Int) (r_2 r_3 : List (List Int)) (r_4 r_5 : Int) (r_6 r_7 : List (List Int)) (r_8 : List Int) (from_ to : List (List Int)) (t21_ : Int) : Option ((Int) ⊕ (Unit ⊕ Unit)) :=
 if t21_ < (from_.length : Int) then
  ck (0 ≤ t21_ ∧ t21_.toNat < from_.length) <|
  ck (0 ≤ IntKind.i64.wrap (((from_.getD t21_.toNat default).length : Int) - 1) ∧ (IntKind.i64.wrap (((from_.getD t21_.toNat default).length : Int) - 1)).toNat < (from_.getD t21_.toNat default).length) <|
  if ((from_.getD t21_.toNat default).getD ((IntKind.i64.wrap (((from_.getD t21_.toNat default).length : Int) - 1)).toNat) default) = (IntKind.i64.wrap ((r_8.length : Int) - 1)) then
   (i_renamer_mapped_l0 r_0 r_1 r_2 r_3 r_4 r_5 r_6 r_7 r_8 from_ to t21_ ([], 0)).bind fun r6_ =>
   ck (Short to) <|
   ck (r6_.length < 1099511627776) <|
   ck (incL to = true) <|
   if (to.contains (sortI r6_)) = true then
    some (Sum.inl (IntKind.i64.wrap (t21_ + 1)))
   else
    some (Sum.inr (Sum.inl ()))
  else
   some (Sum.inl (IntKind.i64.wrap (t21_ + 1)))
 else
  some (Sum.inr (Sum.inr ()))
noncomputable def i_renamer_mapped_l1 (r_0 r_1 : Int) (r_2 r_3 : List (List Int)) (r_4 r_5 : Int) (r_6 r_7 : List (List Int)) (r_8 : List Int) (from_ to : List (List Int)) (v : Int) : Option (Unit ⊕ Unit) := itO (fun v => i_renamer_mapped_l1_S r_0 r_1 r_2 r_3 r_4 r_5 r_6 r_7 r_8 from_ to v) v
noncomputable def i_renamer_mapped (r_0 r_1 : Int) (r_2 r_3 : List (List Int)) (r_4 r_5 : Int) (r_6 r_7 : List (List Int)) (r_8 : List Int) (from_ to : List (List Int)) : Option (Bool) :=
 (i_renamer_mapped_l1 r_0 r_1 r_2 r_3 r_4 r_5 r_6 r_7 r_8 from_ to 0).bind fun r2_ =>
 match r2_ with
 | .inl q2_ =>
  some false
 | .inr q2_ =>
  some true
/-- impl.renamer).mapped -/
def k114_l0b : SC :=
 .seq
 (.ops [
 ⟨some 36, .binOp .lss 3 (.tmp 35) (.tmp 34) 3, 0, none⟩])
 (.seq
 (.cond (.tmp 36)
 .skip
 (.exit 2))
 (.seq
 (.block 3
 (.seq
 (.ops [
 ⟨some 37, .indexAddr 23 (.tmp 33) (.tmp 35), 0, none⟩,
 ⟨some 38, .load 3 (.tmp 37), 3, none⟩,
 ⟨some 12, .assign (.tmp 38), 3, none⟩])
 (.ops [
 ⟨some 39, .move (.tmp 10), 23, none⟩,
 ⟨some 40, .move (.tmp 0), 87, none⟩,
 ⟨some 41, .nilCheck (.tmp 40), 0, none⟩,
 ⟨some 42, .fieldAddr 89 (.tmp 41) 2, 0, none⟩,
 ⟨some 43, .load 23 (.tmp 42), 23, none⟩,
 ⟨some 44, .move (.tmp 12), 3, none⟩,
 ⟨some 45, .indexAddr 23 (.tmp 43) (.tmp 44), 0, none⟩,
 ⟨some 46, .load 3 (.tmp 45), 3, none⟩,
 ⟨some 47, .buildSlice 23 1 #[(0, (.tmp 46))], 23, none⟩,
 ⟨some 48, .call ⟨(.builtin .append), #[(.tmp 39), (.tmp 47)], #[23, 23]⟩, 23, none⟩,
 ⟨some 10, .assign (.tmp 48), 23, none⟩])))
 (.ops [
 ⟨some 49, .binOp .add 3 (.tmp 35) (.const (.int .i64 1)) 3, 3, none⟩,
 ⟨some 35, .move (.tmp 49), 3, none⟩])))
def k114_l0 : SC := .loop k114_l0b
def k114_l1b : SC :=
 .seq
 (.ops [
 ⟨some 22, .binOp .lss 3 (.tmp 21) (.tmp 20) 3, 0, none⟩])
 (.seq
 (.cond (.tmp 22)
 .skip
 (.exit 0))
 (.seq
 (.block 1
 (.seq
 (.ops [
 ⟨some 23, .indexAddr 44 (.tmp 19) (.tmp 21), 0, none⟩,
 ⟨some 24, .load 23 (.tmp 23), 23, none⟩,
 ⟨some 9, .assign (.tmp 24), 23, none⟩])
 (.seq
 (.seq
 (.ops [
 ⟨some 25, .move (.tmp 9), 23, none⟩,
 ⟨some 26, .move (.tmp 9), 23, none⟩,
 ⟨some 27, .call ⟨(.builtin .len), #[(.tmp 26)], #[23]⟩, 3, none⟩,
 ⟨some 28, .binOp .sub 3 (.tmp 27) (.const (.int .i64 1)) 3, 3, none⟩,
 ⟨some 29, .indexAddr 23 (.tmp 25) (.tmp 28), 0, none⟩,
 ⟨some 30, .load 3 (.tmp 29), 3, none⟩,
 ⟨some 31, .move (.tmp 7), 3, none⟩,
 ⟨some 32, .binOp .neq 3 (.tmp 30) (.tmp 31) 3, 4, none⟩])
 (.cond (.tmp 32)
 (.exit 1)
 .skip))
 (.seq
 (.ops [
 ⟨some 10, .assign (.const (.slice none 0 0)), 23, none⟩])
 (.seq
 (.seq
 (.ops [
 ⟨some 33, .move (.tmp 9), 23, none⟩,
 ⟨some 34, .call ⟨(.builtin .len), #[(.tmp 33)], #[23]⟩, 3, none⟩,
 ⟨some 35, .move (.const (.int .i64 0)), 3, none⟩])
 (.block 2
 k114_l0))
 (.seq
 (.ops [
 ⟨some 50, .move (.tmp 2), 44, none⟩,
 ⟨some 51, .move (.tmp 10), 23, none⟩,
 ⟨some 52, .call ⟨(.value (.func 144)), #[(.tmp 50), (.tmp 51)], #[44, 23]⟩, 4, none⟩,
 ⟨some 53, .unOp .not 4 (.tmp 52), 4, none⟩])
 (.cond (.tmp 53)
 (.seq
 (.ops [
 ⟨some 6, .assign (.const (.bool false)), 4, none⟩])
 .ret)
 .skip)))))))
 (.ops [
 ⟨some 54, .binOp .add 3 (.tmp 21) (.const (.int .i64 1)) 3, 3, none⟩,
 ⟨some 21, .move (.tmp 54), 3, none⟩])))
def k114_l1 : SC := .loop k114_l1b
def k114 : SC :=
 .seq
 (.ops [
 ⟨some 6, .assign (.const (.bool false)), 4, none⟩])
 (.seq
 (.ops [
 ⟨some 13, .move (.tmp 0), 87, none⟩,
 ⟨some 14, .nilCheck (.tmp 13), 0, none⟩,
 ⟨some 15, .fieldAddr 89 (.tmp 14) 2, 0, none⟩,
 ⟨some 16, .load 23 (.tmp 15), 23, none⟩,
 ⟨some 17, .call ⟨(.builtin .len), #[(.tmp 16)], #[23]⟩, 3, none⟩,
 ⟨some 18, .binOp .sub 3 (.tmp 17) (.const (.int .i64 1)) 3, 3, none⟩,
 ⟨some 7, .assign (.tmp 18), 3, none⟩])
 (.seq
 (.seq
 (.ops [
 ⟨some 19, .move (.tmp 1), 44, none⟩,
 ⟨some 20, .call ⟨(.builtin .len), #[(.tmp 19)], #[44]⟩, 3, none⟩,
 ⟨some 21, .move (.const (.int .i64 0)), 3, none⟩])
 (.block 0
 k114_l1))
 (.seq
 (.ops [
 ⟨some 6, .assign (.const (.bool true)), 4, none⟩])
 .ret)))
theorem slim114 : Try.f114.body.map (slim lends) = some k114 := by kernel_rfl
theorem ok114 : fnOk Try.f114 3 = true := by kernel_rfl
theorem c114 {a l : List D} {r : D × List D} (h : wpD Y.env k114 (fin tys l.length [ResultVar.tmp 6] r) (entry a l)) (ha : a.length = 3) : Y.call 114 a l = some r :=
 call_slim (Y := Y) rfl Try.func114 (ha ▸ ok114) slim114 h
def i_renamer_mapped_l0_M (r_0 r_1 : Int) (r_2 r_3 : List (List Int)) (r_4 r_5 : Int) (r_6 r_7 : List (List Int)) (r_8 : List Int) (from_ to : List (List Int)) (t21_ : Int) (image : List Int) (t35_ : Int) (s : St) : Prop := s.v 0 = D.cptr [D.int .i64 r_0, D.int .i64 r_1, D.sl 23 (lst (fun x => D.sl 3 (lst (D.int .i64) x)) r_2), D.sl 23 (lst (fun x => D.sl 3 (lst (D.int .i64) x)) r_3), D.int .i64 r_4, D.int .i64 r_5, D.sl 23 (lst (fun x => D.sl 3 (lst (D.int .i64) x)) r_6), D.sl 23 (lst (fun x => D.sl 3 (lst (D.int .i64) x)) r_7), D.sl 3 (lst (D.int .i64) r_8)] ∧ s.v 2 = D.sl 23 (lst (fun x => D.sl 3 (lst (D.int .i64) x)) to) ∧ s.v 7 = D.int .i64 (IntKind.i64.wrap ((r_8.length : Int) - 1)) ∧ s.v 10 = D.own 3 (lst (D.int .i64) image) ∧ s.v 19 = D.sl 23 (lst (fun x => D.sl 3 (lst (D.int .i64) x)) from_) ∧ s.v 20 = D.int .i64 (from_.length : Int) ∧ s.v 21 = D.int .i64 t21_ ∧ s.v 33 = D.sl 3 (lst (D.int .i64) (from_.getD t21_.toNat default)) ∧ s.v 34 = D.int .i64 ((from_.getD t21_.toNat default).length : Int) ∧ s.v 35 = D.int .i64 t35_
def i_renamer_mapped_l0_X (r_0 r_1 : Int) (r_2 r_3 : List (List Int)) (r_4 r_5 : Int) (r_6 r_7 : List (List Int)) (r_8 : List Int) (from_ to : List (List Int)) (t21_ : Int) (r : (List Int)) (ex : Ex) (s : St) : Prop := ex = .exit 2 ∧ s.v 0 = D.cptr [D.int .i64 r_0, D.int .i64 r_1, D.sl 23 (lst (fun x => D.sl 3 (lst (D.int .i64) x)) r_2), D.sl 23 (lst (fun x => D.sl 3 (lst (D.int .i64) x)) r_3), D.int .i64 r_4, D.int .i64 r_5, D.sl 23 (lst (fun x => D.sl 3 (lst (D.int .i64) x)) r_6), D.sl 23 (lst (fun x => D.sl 3 (lst (D.int .i64) x)) r_7), D.sl 3 (lst (D.int .i64) r_8)] ∧ s.v 2 = D.sl 23 (lst (fun x => D.sl 3 (lst (D.int .i64) x)) to) ∧ s.v 7 = D.int .i64 (IntKind.i64.wrap ((r_8.length : Int) - 1)) ∧ s.v 10 = D.own 3 (lst (D.int .i64) r) ∧ s.v 19 = D.sl 23 (lst (fun x => D.sl 3 (lst (D.int .i64) x)) from_) ∧ s.v 20 = D.int .i64 (from_.length : Int) ∧ s.v 21 = D.int .i64 t21_
theorem i_renamer_mapped_l0_wp (r_0 r_1 : Int) (r_2 r_3 : List (List Int)) (r_4 r_5 : Int) (r_6 r_7 : List (List Int)) (r_8 : List Int) (from_ to : List (List Int)) (t21_ : Int) {v : (List Int) × Int} {s : St} {r : (List Int)} (h : i_renamer_mapped_l0 r_0 r_1 r_2 r_3 r_4 r_5 r_6 r_7 r_8 from_ to t21_ v = some r) (hM : i_renamer_mapped_l0_M r_0 r_1 r_2 r_3 r_4 r_5 r_6 r_7 r_8 from_ to t21_ v.1 v.2 s) : wpD Y.env k114_l0 (i_renamer_mapped_l0_X r_0 r_1 r_2 r_3 r_4 r_5 r_6 r_7 r_8 from_ to t21_ r) s := by
 unfold i_renamer_mapped_l0 at h
 refine wd_itO (c := k114_l0b) (fun v => i_renamer_mapped_l0_S r_0 r_1 r_2 r_3 r_4 r_5 r_6 r_7 r_8 from_ to t21_ v.1 v.2) (fun v s => i_renamer_mapped_l0_M r_0 r_1 r_2 r_3 r_4 r_5 r_6 r_7 r_8 from_ to t21_ v.1 v.2 s) (i_renamer_mapped_l0_X r_0 r_1 r_2 r_3 r_4 r_5 r_6 r_7 r_8 from_ to t21_) ?_ h hM
 clear h hM s v r
 intro v s o hM h
 obtain ⟨image, t35_⟩ := v
 dsimp only at h hM
 unfold i_renamer_mapped_l0_S at h
 unfold i_renamer_mapped_l0_M at hM
 obtain ⟨m0, m1, m2, m3, m4, m5, m6, m7, m8, m9⟩ := hM
 unfold k114_l0b
 by_cases e5 : t35_ < ((from_.getD t21_.toNat default).length : Int)
 ·rw [if_pos e5] at h
  obtain ⟨e6, h⟩ := ckS h
  obtain ⟨e7, h⟩ := ckS h
  obtain ⟨e8, h⟩ := ckS h
  cases h
  simp (maxDischargeDepth := 9) only [↓xpre, xpost, xlst, xc2, xcore, yset, ↓reduceIte, Nat.reduceEqDiff, Nat.reduceLT, Nat.reduceLeDiff, Nat.reduceAdd, m0, m1, m2, m3, m4, m5, m6, m7, m8, m9, e5, e6.1, e6.2, e7.1, e7.2, e8, i_renamer_mapped_l0_M, sxN]
 ·rw [if_neg e5] at h
  cases h
  simp (maxDischargeDepth := 9) only [↓xpre, xpost, yset, ↓reduceIte, Nat.reduceEqDiff, Nat.reduceLT, m0, m1, m2, m3, m4, m5, m6, m8, m9, e5, i_renamer_mapped_l0_M, i_renamer_mapped_l0_X, sxE]
def i_renamer_mapped_l1_M (r_0 r_1 : Int) (r_2 r_3 : List (List Int)) (r_4 r_5 : Int) (r_6 r_7 : List (List Int)) (r_8 : List Int) (from_ to : List (List Int)) (t21_ : Int) (s : St) : Prop := s.v 0 = D.cptr [D.int .i64 r_0, D.int .i64 r_1, D.sl 23 (lst (fun x => D.sl 3 (lst (D.int .i64) x)) r_2), D.sl 23 (lst (fun x => D.sl 3 (lst (D.int .i64) x)) r_3), D.int .i64 r_4, D.int .i64 r_5, D.sl 23 (lst (fun x => D.sl 3 (lst (D.int .i64) x)) r_6), D.sl 23 (lst (fun x => D.sl 3 (lst (D.int .i64) x)) r_7), D.sl 3 (lst (D.int .i64) r_8)] ∧ s.v 2 = D.sl 23 (lst (fun x => D.sl 3 (lst (D.int .i64) x)) to) ∧ s.v 7 = D.int .i64 (IntKind.i64.wrap ((r_8.length : Int) - 1)) ∧ s.v 19 = D.sl 23 (lst (fun x => D.sl 3 (lst (D.int .i64) x)) from_) ∧ s.v 20 = D.int .i64 (from_.length : Int) ∧ s.v 21 = D.int .i64 t21_
def i_renamer_mapped_l1_X (r_0 r_1 : Int) (r_2 r_3 : List (List Int)) (r_4 r_5 : Int) (r_6 r_7 : List (List Int)) (r_8 : List Int) (from_ to : List (List Int)) (r : Unit ⊕ Unit) (ex : Ex) (s : St) : Prop := match r with
 | .inl q => ex = .ret ∧ s.v 6 = D.bool false
 | .inr q => ex = .exit 0
theorem i_renamer_mapped_l1_wp (r_0 r_1 : Int) (r_2 r_3 : List (List Int)) (r_4 r_5 : Int) (r_6 r_7 : List (List Int)) (r_8 : List Int) (from_ to : List (List Int)) {v : Int} {s : St} {r : Unit ⊕ Unit} (h : i_renamer_mapped_l1 r_0 r_1 r_2 r_3 r_4 r_5 r_6 r_7 r_8 from_ to v = some r) (hM : i_renamer_mapped_l1_M r_0 r_1 r_2 r_3 r_4 r_5 r_6 r_7 r_8 from_ to v s) : wpD Y.env k114_l1 (i_renamer_mapped_l1_X r_0 r_1 r_2 r_3 r_4 r_5 r_6 r_7 r_8 from_ to r) s := by
 unfold i_renamer_mapped_l1 at h
 refine wd_itO (c := k114_l1b) (fun v => i_renamer_mapped_l1_S r_0 r_1 r_2 r_3 r_4 r_5 r_6 r_7 r_8 from_ to v) (fun v s => i_renamer_mapped_l1_M r_0 r_1 r_2 r_3 r_4 r_5 r_6 r_7 r_8 from_ to v s) (i_renamer_mapped_l1_X r_0 r_1 r_2 r_3 r_4 r_5 r_6 r_7 r_8 from_ to) ?_ h hM
 clear h hM s v r
 intro t21_ s o hM h
 unfold i_renamer_mapped_l1_S at h
 unfold i_renamer_mapped_l1_M at hM
 obtain ⟨m0, m1, m2, m3, m4, m5⟩ := hM
 unfold k114_l1b
 by_cases e1 : t21_ < (from_.length : Int)
 ·rw [if_pos e1] at h
  obtain ⟨e2, h⟩ := ckS h
  obtain ⟨e3, h⟩ := ckS h
  by_cases e4 : ((from_.getD t21_.toNat default).getD ((IntKind.i64.wrap (((from_.getD t21_.toNat default).length : Int) - 1)).toNat) default) = (IntKind.i64.wrap ((r_8.length : Int) - 1))
  ·rw [if_pos e4] at h
   obtain ⟨r6_, hl6, h⟩ := bindS h
   try dsimp only at h
   simp (maxDischargeDepth := 9) only [↓xpre, xpost, xlst, xcore, yset, ↓reduceIte, Nat.reduceEqDiff, Nat.reduceLT, m2, m3, m4, m5, e1, e2.1, e2.2, e3.1, e3.2, decide_eq_true e4]
   refine wd_mono (i_renamer_mapped_l0_wp r_0 r_1 r_2 r_3 r_4 r_5 r_6 r_7 r_8 from_ to t21_ hl6 ?_) ?_
   ·simp (maxDischargeDepth := 9) only [xpost, ↓reduceIte, Nat.reduceEqDiff, m0, m1, m2, m3, m4, m5, i_renamer_mapped_l0_M] <;> (repeat' apply And.intro) <;> first | rfl | exact ⟨_, rfl⟩ | exact ⟨_, _, rfl⟩ | simp [lst, cat2_nil]
   ·intro ex6 s6 hX6
    unfold i_renamer_mapped_l0_X at hX6
    obtain ⟨rfl, n6_0, n6_1, n6_2, n6_3, n6_4, n6_5, n6_6⟩ := hX6
    obtain ⟨e7, h⟩ := ckS h
    obtain ⟨e8, h⟩ := ckS h
    obtain ⟨e9, h⟩ := ckS h
    have c10 := i_hasConfiguration_cl to r6_ e7 e8 e9
    by_cases e11 : (to.contains (sortI r6_)) = true
    ·rw [if_pos e11] at h
     cases h
     simp (maxDischargeDepth := 9) only [↓xpre, xpost, xlst, xc2, xcore, yset, ↓reduceIte, Nat.reduceEqDiff, Nat.reduceLT, Nat.reduceAdd, n6_0, n6_1, n6_2, n6_3, n6_4, n6_5, n6_6, c10, e11, i_renamer_mapped_l1_M, sxN]
    ·rw [if_neg e11] at h
     have e11f : (to.contains (sortI r6_)) = false := Bool.eq_false_iff.mpr e11
     cases h
     simp (maxDischargeDepth := 9) only [↓xpre, xpost, xlst, xc2, xcore, yset, ↓reduceIte, Nat.reduceEqDiff, Nat.reduceLT, Nat.reduceAdd, n6_1, n6_3, c10, e11f, i_renamer_mapped_l1_M, i_renamer_mapped_l1_X, sxR]
  ·rw [if_neg e4] at h
   cases h
   simp (maxDischargeDepth := 9) only [↓xpre, xpost, xlst, xcore, yset, ↓reduceIte, Nat.reduceEqDiff, Nat.reduceLT, m0, m1, m2, m3, m4, m5, e1, e2.1, e2.2, e3.1, e3.2, e4, i_renamer_mapped_l1_M, sxN]
 ·rw [if_neg e1] at h
  cases h
  simp (maxDischargeDepth := 9) only [↓xpre, xpost, yset, ↓reduceIte, Nat.reduceLT, m4, m5, e1, i_renamer_mapped_l1_M, i_renamer_mapped_l1_X, sxE]
theorem i_renamer_mapped_call (r_0 r_1 : Int) (r_2 r_3 : List (List Int)) (r_4 r_5 : Int) (r_6 r_7 : List (List Int)) (r_8 : List Int) (from_ to : List (List Int)) {r : Bool} (h : i_renamer_mapped r_0 r_1 r_2 r_3 r_4 r_5 r_6 r_7 r_8 from_ to = some r) : Y.call 114 [D.cptr [D.int .i64 r_0, D.int .i64 r_1, D.sl 23 (lst (fun x => D.sl 3 (lst (D.int .i64) x)) r_2), D.sl 23 (lst (fun x => D.sl 3 (lst (D.int .i64) x)) r_3), D.int .i64 r_4, D.int .i64 r_5, D.sl 23 (lst (fun x => D.sl 3 (lst (D.int .i64) x)) r_6), D.sl 23 (lst (fun x => D.sl 3 (lst (D.int .i64) x)) r_7), D.sl 3 (lst (D.int .i64) r_8)], D.sl 23 (lst (fun x => D.sl 3 (lst (D.int .i64) x)) from_), D.sl 23 (lst (fun x => D.sl 3 (lst (D.int .i64) x)) to)] [] = some (D.bool r, []) := by
 refine c114 ?_ rfl
 unfold k114
 unfold i_renamer_mapped at h
 obtain ⟨r2_, hl2, h⟩ := bindS h
 try dsimp only at h
 simp (maxDischargeDepth := 9) only [↓xpre, xpost, xlst, xc2, xcore, yset, ↓reduceIte, Nat.reduceEqDiff, Nat.reduceLT]
 refine wd_mono (i_renamer_mapped_l1_wp r_0 r_1 r_2 r_3 r_4 r_5 r_6 r_7 r_8 from_ to hl2 ?_) ?_
 ·simp (maxDischargeDepth := 9) only [xpost, xcore, ↓reduceIte, Nat.reduceEqDiff, Nat.reduceLT, i_renamer_mapped_l1_M]
 ·intro ex2 s2 hX2
  rcases r2_ with q2_ | q2_
  ·unfold i_renamer_mapped_l1_X at hX2
   dsimp only at hX2 h
   obtain ⟨rfl, n2_0⟩ := hX2
   cases h
   simp (maxDischargeDepth := 9) only [↓xpre, xpost, xcore, ↓reduceIte, n2_0]
  ·unfold i_renamer_mapped_l1_X at hX2
   dsimp only at hX2 h
   obtain rfl := hX2
   cases h
   simp (maxDischargeDepth := 9) only [↓xpre, xpost, xcore, yset, ↓reduceIte, Nat.reduceEqDiff, Nat.reduceLT]

noncomputable def i_renamer_search_l0_S (rec_ : Int → Int → (List (List Int)) → (List (List Int)) → Int → Int → (List (List Int)) → (List (List Int)) → (List Int) → Option (Bool × Int × Int × (List (List Int)) × (List (List Int)) × Int × Int × (List (List Int)) × (List (List Int)) × (List Int))) (t0_0 t20_ t100000_0 t100000_1 : Int) (t100000_2 t100000_3 : List (List Int)) (t100000_4 t100000_5 : Int) (t100000_6 t100000_7 : List (List Int)) (t100000_8 : List Int) : Option ((Int × Int × Int × (List (List Int)) × (List (List Int)) × Int × Int × (List (List Int)) × (List (List Int)) × (List Int)) ⊕ ((Int × Int × (List (List Int)) × (List (List Int)) × Int × Int × (List (List Int)) × (List (List Int)) × (List Int)) ⊕ (Int × Int × (List (List Int)) × (List (List Int)) × Int × Int × (List (List Int)) × (List (List Int)) × (List Int)))) :=
 if t20_ < t0_0 then
  ck (t100000_8.length < 1099511627776) <|
  if (t100000_8.contains t20_) = true then
   some (Sum.inl (IntKind.i64.wrap (t20_ + 1), t100000_0, t100000_1, t100000_2, t100000_3, t100000_4, t100000_5, t100000_6, t100000_7, t100000_8))
  else
   ck (t100000_8.length + 1 < 1099511627776) <|
   (i_renamer_mapped t100000_0 t100000_1 t100000_2 t100000_3 t100000_4 t100000_5 t100000_6 t100000_7 (t100000_8 ++ [t20_]) t100000_2 t100000_6).bind fun r7_ =>
   if r7_ = true then
    (i_renamer_mapped t100000_0 t100000_1 t100000_2 t100000_3 t100000_4 t100000_5 t100000_6 t100000_7 (t100000_8 ++ [t20_]) t100000_3 t100000_7).bind fun r9_ =>
    if r9_ = true then
     (rec_ t100000_0 t100000_1 t100000_2 t100000_3 t100000_4 t100000_5 t100000_6 t100000_7 (t100000_8 ++ [t20_])).bind fun r11_ =>
     if r11_.1 = true then
      some (Sum.inr (Sum.inl (r11_.2.1, r11_.2.2.1, r11_.2.2.2.1, r11_.2.2.2.2.1, r11_.2.2.2.2.2.1, r11_.2.2.2.2.2.2.1, r11_.2.2.2.2.2.2.2.1, r11_.2.2.2.2.2.2.2.2.1, r11_.2.2.2.2.2.2.2.2.2)))
     else
      ck (0 ≤ IntKind.i64.wrap ((r11_.2.2.2.2.2.2.2.2.2.length : Int) - 1)) <|
      ck ((IntKind.i64.wrap ((r11_.2.2.2.2.2.2.2.2.2.length : Int) - 1)).toNat ≤ r11_.2.2.2.2.2.2.2.2.2.length) <|
      some (Sum.inl (IntKind.i64.wrap (t20_ + 1), r11_.2.1, r11_.2.2.1, r11_.2.2.2.1, r11_.2.2.2.2.1, r11_.2.2.2.2.2.1, r11_.2.2.2.2.2.2.1, r11_.2.2.2.2.2.2.2.1, r11_.2.2.2.2.2.2.2.2.1, (r11_.2.2.2.2.2.2.2.2.2.take ((IntKind.i64.wrap ((r11_.2.2.2.2.2.2.2.2.2.length : Int) - 1)).toNat))))
    else
     ck (0 ≤ IntKind.i64.wrap (((t100000_8 ++ [t20_]).length : Int) - 1)) <|
     ck ((IntKind.i64.wrap (((t100000_8 ++ [t20_]).length : Int) - 1)).toNat ≤ (t100000_8 ++ [t20_]).length) <|
     some (Sum.inl (IntKind.i64.wrap (t20_ + 1), t100000_0, t100000_1, t100000_2, t100000_3, t100000_4, t100000_5, t100000_6, t100000_7, ((t100000_8 ++ [t20_]).take ((IntKind.i64.wrap (((t100000_8 ++ [t20_]).length : Int) - 1)).toNat))))
   else
    ck (0 ≤ IntKind.i64.wrap (((t100000_8 ++ [t20_]).length : Int) - 1)) <|
    ck ((IntKind.i64.wrap (((t100000_8 ++ [t20_]).length : Int) - 1)).toNat ≤ (t100000_8 ++ [t20_]).length) <|
    some (Sum.inl (IntKind.i64.wrap (t20_ + 1), t100000_0, t100000_1, t100000_2, t100000_3, t100000_4, t100000_5, t100000_6, t100000_7, ((t100000_8 ++ [t20_]).take ((IntKind.i64.wrap (((t100000_8 ++ [t20_]).length : Int) - 1)).toNat))))
 else
  some (Sum.inr (Sum.inr (t100000_0, t100000_1, t100000_2, t100000_3, t100000_4, t100000_5, t100000_6, t100000_7, t100000_8)))
noncomputable def i_renamer_search_l0 (rec_ : Int → Int → (List (List Int)) → (List (List Int)) → Int → Int → (List (List Int)) → (List (List Int)) → (List Int) → Option (Bool × Int × Int × (List (List Int)) × (List (List Int)) × Int × Int × (List (List Int)) × (List (List Int)) × (List Int))) (t0_0 : Int) (v : Int × Int × Int × (List (List Int)) × (List (List Int)) × Int × Int × (List (List Int)) × (List (List Int)) × (List Int)) : Option ((Int × Int × (List (List Int)) × (List (List Int)) × Int × Int × (List (List Int)) × (List (List Int)) × (List Int)) ⊕ (Int × Int × (List (List Int)) × (List (List Int)) × Int × Int × (List (List Int)) × (List (List Int)) × (List Int))) := itO (fun v => i_renamer_search_l0_S rec_ t0_0 v.1 v.2.1 v.2.2.1 v.2.2.2.1 v.2.2.2.2.1 v.2.2.2.2.2.1 v.2.2.2.2.2.2.1 v.2.2.2.2.2.2.2.1 v.2.2.2.2.2.2.2.2.1 v.2.2.2.2.2.2.2.2.2) v
noncomputable def i_renamer_search_R (rec_ : Int → Int → (List (List Int)) → (List (List Int)) → Int → Int → (List (List Int)) → (List (List Int)) → (List Int) → Option (Bool × Int × Int × (List (List Int)) × (List (List Int)) × Int × Int × (List (List Int)) × (List (List Int)) × (List Int))) (t0_0 t0_1 : Int) (t0_2 t0_3 : List (List Int)) (t0_4 t0_5 : Int) (t0_6 t0_7 : List (List Int)) (t0_8 : List Int) : Option (Bool × Int × Int × (List (List Int)) × (List (List Int)) × Int × Int × (List (List Int)) × (List (List Int)) × (List Int)) :=
 if (t0_8.length : Int) = t0_0 then
  some (true, t0_0, t0_1, t0_2, t0_3, t0_4, t0_5, t0_6, t0_7, t0_8)
 else
  (i_renamer_search_l0 rec_ t0_0 (0, t0_0, t0_1, t0_2, t0_3, t0_4, t0_5, t0_6, t0_7, t0_8)).bind fun r3_ =>
  match r3_ with
  | .inl q3_ =>
   some (true, q3_.1, q3_.2.1, q3_.2.2.1, q3_.2.2.2.1, q3_.2.2.2.2.1, q3_.2.2.2.2.2.1, q3_.2.2.2.2.2.2.1, q3_.2.2.2.2.2.2.2.1, q3_.2.2.2.2.2.2.2.2)
  | .inr q3_ =>
   some (false, q3_.1, q3_.2.1, q3_.2.2.1, q3_.2.2.2.1, q3_.2.2.2.2.1, q3_.2.2.2.2.2.1, q3_.2.2.2.2.2.2.1, q3_.2.2.2.2.2.2.2.1, q3_.2.2.2.2.2.2.2.2)
/-- So many calls deep at most. -/
noncomputable def i_renamer_search_N : Nat → Int → Int → (List (List Int)) → (List (List Int)) → Int → Int → (List (List Int)) → (List (List Int)) → (List Int) → Option (Bool × Int × Int × (List (List Int)) × (List (List Int)) × Int × Int × (List (List Int)) × (List (List Int)) × (List Int))
 | 0 => fun _ _ _ _ _ _ _ _ _ => none
 | n + 1 => fun t0_0 t0_1 t0_2 t0_3 t0_4 t0_5 t0_6 t0_7 t0_8 => i_renamer_search_R (i_renamer_search_N n) t0_0 t0_1 t0_2 t0_3 t0_4 t0_5 t0_6 t0_7 t0_8
noncomputable def i_renamer_search (t0_0 t0_1 : Int) (t0_2 t0_3 : List (List Int)) (t0_4 t0_5 : Int) (t0_6 t0_7 : List (List Int)) (t0_8 : List Int) : Option (Bool × Int × Int × (List (List Int)) × (List (List Int)) × Int × Int × (List (List Int)) × (List (List Int)) × (List Int)) := i_renamer_search_N 1000000 t0_0 t0_1 t0_2 t0_3 t0_4 t0_5 t0_6 t0_7 t0_8
/-- impl.renamer).search -/
def k61_l0b : SC :=
 .seq
 (.ops [
 ⟨some 21, .binOp .lss 3 (.tmp 20) (.tmp 19) 3, 4, none⟩])
 (.seq
 (.cond (.tmp 21)
 .skip
 (.exit 0))
 (.seq
 (.block 1
 (.seq
 (.ops [
 ⟨some 22, .move (.tmp 20), 3, none⟩,
 ⟨some 3, .assign (.tmp 22), 3, none⟩])
 (.seq
 (.seq
 (.ops [
 ⟨some 23, .move (.tmp 0), 87, none⟩,
 ⟨some 24, .nilCheck (.tmp 23), 0, none⟩,
 ⟨some 25, .fieldAddr 89 (.tmp 24) 2, 0, none⟩,
 ⟨some 26, .load 23 (.tmp 25), 23, none⟩,
 ⟨some 27, .move (.tmp 3), 3, none⟩,
 ⟨some 28, .call ⟨(.value (.func 81)), #[(.tmp 26), (.tmp 27)], #[23, 3]⟩, 4, none⟩])
 (.cond (.tmp 28)
 (.exit 1)
 .skip))
 (.seq
 (.ops [
 ⟨some 29, .move (.tmp 0), 87, none⟩,
 ⟨some 30, .move (.tmp 0), 87, none⟩,
 ⟨some 31, .nilCheck (.tmp 30), 0, none⟩,
 ⟨some 32, .fieldAddr 89 (.tmp 31) 2, 0, none⟩,
 ⟨some 33, .load 23 (.tmp 32), 23, none⟩,
 ⟨some 34, .move (.tmp 3), 3, none⟩,
 ⟨some 35, .buildSlice 23 1 #[(0, (.tmp 34))], 23, none⟩,
 ⟨some 36, .call ⟨(.builtin .append), #[(.tmp 33), (.tmp 35)], #[23, 23]⟩, 23, none⟩,
 ⟨some 37, .nilCheck (.tmp 29), 0, none⟩,
 ⟨some 38, .fieldAddr 89 (.tmp 37) 2, 0, none⟩,
 ⟨none, .store 23 (.tmp 38) (.tmp 36), 0, none⟩])
 (.seq
 (.seq
 (.draws [
 (⟨[39, 0, 0], [39, 40, 41, 42, 43, 44, 45, 46, 47, 48, 49, 50, 51, 50, 52, 53, 54, 55, 56, 57, 58, 59, 60, 61, 62, 63, 64, 65, 66, 100000, 100001, 100002, 100003, 100004, 100005, 100006, 100007, 67, 66, 0, 65, 68], [39]⟩, ⟨some 39, .move (.tmp 0), 87, none⟩),
 (⟨[40, 0, 0], [39, 40, 41, 42, 43, 44, 45, 46, 47, 48, 49, 50, 51, 50, 52, 53, 54, 55, 56, 57, 58, 59, 60, 61, 62, 63, 64, 65, 66, 100000, 100001, 100002, 100003, 100004, 100005, 100006, 100007, 67, 66, 0, 65, 68], [40]⟩, ⟨some 40, .move (.tmp 0), 87, none⟩),
 (⟨[100000, 100001, 100002, 100003, 100004, 100005, 100006, 100007, 41, 40, 0], [39, 40, 41, 42, 43, 44, 45, 46, 47, 48, 49, 50, 51, 50, 52, 53, 54, 55, 56, 57, 58, 59, 60, 61, 62, 63, 64, 65, 66, 100000, 100001, 100002, 100003, 100004, 100005, 100006, 100007, 67, 66, 0, 65, 68], [41]⟩, ⟨some 41, .nilCheck (.tmp 40), 0, none⟩),
 (⟨[100000, 100001, 100002, 100003, 100004, 100005, 100006, 100007, 42, 41, 0], [39, 40, 41, 42, 43, 44, 45, 46, 47, 48, 49, 50, 51, 50, 52, 53, 54, 55, 56, 57, 58, 59, 60, 61, 62, 63, 64, 65, 66, 100000, 100001, 100002, 100003, 100004, 100005, 100006, 100007, 67, 66, 0, 65, 68], [42]⟩, ⟨some 42, .fieldAddr 89 (.tmp 41) 0, 0, none⟩),
 (⟨[100000, 100001, 100002, 100003, 100004, 100005, 100006, 100007, 43, 42, 0], [39, 40, 41, 42, 43, 44, 45, 46, 47, 48, 49, 50, 51, 50, 52, 53, 54, 55, 56, 57, 58, 59, 60, 61, 62, 63, 64, 65, 66, 100000, 100001, 100002, 100003, 100004, 100005, 100006, 100007, 67, 66, 0, 65, 68], [43]⟩, ⟨some 43, .fieldAddr 50 (.tmp 42) 2, 0, none⟩),
 (⟨[100000, 100001, 100002, 100003, 100004, 100005, 100006, 100007, 44, 43, 0], [39, 40, 41, 42, 43, 44, 45, 46, 47, 48, 49, 50, 51, 50, 52, 53, 54, 55, 56, 57, 58, 59, 60, 61, 62, 63, 64, 65, 66, 100000, 100001, 100002, 100003, 100004, 100005, 100006, 100007, 67, 66, 0, 65, 68], [44]⟩, ⟨some 44, .load 44 (.tmp 43), 44, none⟩),
 (⟨[45, 0, 0], [39, 40, 41, 42, 43, 44, 45, 46, 47, 48, 49, 50, 51, 50, 52, 53, 54, 55, 56, 57, 58, 59, 60, 61, 62, 63, 64, 65, 66, 100000, 100001, 100002, 100003, 100004, 100005, 100006, 100007, 67, 66, 0, 65, 68], [45]⟩, ⟨some 45, .move (.tmp 0), 87, none⟩),
 (⟨[100000, 100001, 100002, 100003, 100004, 100005, 100006, 100007, 46, 45, 0], [39, 40, 41, 42, 43, 44, 45, 46, 47, 48, 49, 50, 51, 50, 52, 53, 54, 55, 56, 57, 58, 59, 60, 61, 62, 63, 64, 65, 66, 100000, 100001, 100002, 100003, 100004, 100005, 100006, 100007, 67, 66, 0, 65, 68], [46]⟩, ⟨some 46, .nilCheck (.tmp 45), 0, none⟩),
 (⟨[100000, 100001, 100002, 100003, 100004, 100005, 100006, 100007, 47, 46, 0], [39, 40, 41, 42, 43, 44, 45, 46, 47, 48, 49, 50, 51, 50, 52, 53, 54, 55, 56, 57, 58, 59, 60, 61, 62, 63, 64, 65, 66, 100000, 100001, 100002, 100003, 100004, 100005, 100006, 100007, 67, 66, 0, 65, 68], [47]⟩, ⟨some 47, .fieldAddr 89 (.tmp 46) 1, 0, none⟩),
 (⟨[100000, 100001, 100002, 100003, 100004, 100005, 100006, 100007, 48, 47, 0], [39, 40, 41, 42, 43, 44, 45, 46, 47, 48, 49, 50, 51, 50, 52, 53, 54, 55, 56, 57, 58, 59, 60, 61, 62, 63, 64, 65, 66, 100000, 100001, 100002, 100003, 100004, 100005, 100006, 100007, 67, 66, 0, 65, 68], [48]⟩, ⟨some 48, .fieldAddr 50 (.tmp 47) 2, 0, none⟩),
 (⟨[100000, 100001, 100002, 100003, 100004, 100005, 100006, 100007, 49, 48, 0], [39, 40, 41, 42, 43, 44, 45, 46, 47, 48, 49, 50, 51, 50, 52, 53, 54, 55, 56, 57, 58, 59, 60, 61, 62, 63, 64, 65, 66, 100000, 100001, 100002, 100003, 100004, 100005, 100006, 100007, 67, 66, 0, 65, 68], [49]⟩, ⟨some 49, .load 44 (.tmp 48), 44, none⟩),
 (⟨[100000, 100001, 100002, 100003, 100004, 100005, 100006, 100007, 50, 39, 44, 49, 0, 0, 0], [39, 40, 41, 42, 43, 44, 45, 46, 47, 48, 49, 50, 51, 50, 52, 53, 54, 55, 56, 57, 58, 59, 60, 61, 62, 63, 64, 65, 66, 100000, 100001, 100002, 100003, 100004, 100005, 100006, 100007, 67, 66, 0, 65, 68], [50]⟩, ⟨some 50, .call ⟨(.value (.func 114)), #[(.tmp 39), (.tmp 44), (.tmp 49)], #[87, 44, 44]⟩, 4, none⟩),
 (⟨[51, 50, 50], [39, 40, 41, 42, 43, 44, 45, 46, 47, 48, 49, 50, 51, 50, 52, 53, 54, 55, 56, 57, 58, 59, 60, 61, 62, 63, 64, 65, 66, 100000, 100001, 100002, 100003, 100004, 100005, 100006, 100007, 67, 66, 0, 65, 68], [51, 50]⟩, ⟨some 51, .move (.tmp 50), 4, none⟩),
 (⟨[52, 0, 0, 51], [39, 40, 41, 42, 43, 44, 45, 46, 47, 48, 49, 50, 51, 50, 52, 53, 54, 55, 56, 57, 58, 59, 60, 61, 62, 63, 64, 65, 66, 100000, 100001, 100002, 100003, 100004, 100005, 100006, 100007, 67, 66, 0, 65, 68], [52]⟩, ⟨some 52, .move (.tmp 0), 87, (some (some 51, true))⟩),
 (⟨[53, 0, 0, 51], [39, 40, 41, 42, 43, 44, 45, 46, 47, 48, 49, 50, 51, 50, 52, 53, 54, 55, 56, 57, 58, 59, 60, 61, 62, 63, 64, 65, 66, 100000, 100001, 100002, 100003, 100004, 100005, 100006, 100007, 67, 66, 0, 65, 68], [53]⟩, ⟨some 53, .move (.tmp 0), 87, (some (some 51, true))⟩),
 (⟨[100000, 100001, 100002, 100003, 100004, 100005, 100006, 100007, 54, 53, 0, 51], [39, 40, 41, 42, 43, 44, 45, 46, 47, 48, 49, 50, 51, 50, 52, 53, 54, 55, 56, 57, 58, 59, 60, 61, 62, 63, 64, 65, 66, 100000, 100001, 100002, 100003, 100004, 100005, 100006, 100007, 67, 66, 0, 65, 68], [54]⟩, ⟨some 54, .nilCheck (.tmp 53), 0, (some (some 51, true))⟩),
 (⟨[100000, 100001, 100002, 100003, 100004, 100005, 100006, 100007, 55, 54, 0, 51], [39, 40, 41, 42, 43, 44, 45, 46, 47, 48, 49, 50, 51, 50, 52, 53, 54, 55, 56, 57, 58, 59, 60, 61, 62, 63, 64, 65, 66, 100000, 100001, 100002, 100003, 100004, 100005, 100006, 100007, 67, 66, 0, 65, 68], [55]⟩, ⟨some 55, .fieldAddr 89 (.tmp 54) 0, 0, (some (some 51, true))⟩),
 (⟨[100000, 100001, 100002, 100003, 100004, 100005, 100006, 100007, 56, 55, 0, 51], [39, 40, 41, 42, 43, 44, 45, 46, 47, 48, 49, 50, 51, 50, 52, 53, 54, 55, 56, 57, 58, 59, 60, 61, 62, 63, 64, 65, 66, 100000, 100001, 100002, 100003, 100004, 100005, 100006, 100007, 67, 66, 0, 65, 68], [56]⟩, ⟨some 56, .fieldAddr 50 (.tmp 55) 3, 0, (some (some 51, true))⟩),
 (⟨[100000, 100001, 100002, 100003, 100004, 100005, 100006, 100007, 57, 56, 0, 51], [39, 40, 41, 42, 43, 44, 45, 46, 47, 48, 49, 50, 51, 50, 52, 53, 54, 55, 56, 57, 58, 59, 60, 61, 62, 63, 64, 65, 66, 100000, 100001, 100002, 100003, 100004, 100005, 100006, 100007, 67, 66, 0, 65, 68], [57]⟩, ⟨some 57, .load 44 (.tmp 56), 44, (some (some 51, true))⟩),
 (⟨[58, 0, 0, 51], [39, 40, 41, 42, 43, 44, 45, 46, 47, 48, 49, 50, 51, 50, 52, 53, 54, 55, 56, 57, 58, 59, 60, 61, 62, 63, 64, 65, 66, 100000, 100001, 100002, 100003, 100004, 100005, 100006, 100007, 67, 66, 0, 65, 68], [58]⟩, ⟨some 58, .move (.tmp 0), 87, (some (some 51, true))⟩),
 (⟨[100000, 100001, 100002, 100003, 100004, 100005, 100006, 100007, 59, 58, 0, 51], [39, 40, 41, 42, 43, 44, 45, 46, 47, 48, 49, 50, 51, 50, 52, 53, 54, 55, 56, 57, 58, 59, 60, 61, 62, 63, 64, 65, 66, 100000, 100001, 100002, 100003, 100004, 100005, 100006, 100007, 67, 66, 0, 65, 68], [59]⟩, ⟨some 59, .nilCheck (.tmp 58), 0, (some (some 51, true))⟩),
 (⟨[100000, 100001, 100002, 100003, 100004, 100005, 100006, 100007, 60, 59, 0, 51], [39, 40, 41, 42, 43, 44, 45, 46, 47, 48, 49, 50, 51, 50, 52, 53, 54, 55, 56, 57, 58, 59, 60, 61, 62, 63, 64, 65, 66, 100000, 100001, 100002, 100003, 100004, 100005, 100006, 100007, 67, 66, 0, 65, 68], [60]⟩, ⟨some 60, .fieldAddr 89 (.tmp 59) 1, 0, (some (some 51, true))⟩),
 (⟨[100000, 100001, 100002, 100003, 100004, 100005, 100006, 100007, 61, 60, 0, 51], [39, 40, 41, 42, 43, 44, 45, 46, 47, 48, 49, 50, 51, 50, 52, 53, 54, 55, 56, 57, 58, 59, 60, 61, 62, 63, 64, 65, 66, 100000, 100001, 100002, 100003, 100004, 100005, 100006, 100007, 67, 66, 0, 65, 68], [61]⟩, ⟨some 61, .fieldAddr 50 (.tmp 60) 3, 0, (some (some 51, true))⟩),
 (⟨[100000, 100001, 100002, 100003, 100004, 100005, 100006, 100007, 62, 61, 0, 51], [39, 40, 41, 42, 43, 44, 45, 46, 47, 48, 49, 50, 51, 50, 52, 53, 54, 55, 56, 57, 58, 59, 60, 61, 62, 63, 64, 65, 66, 100000, 100001, 100002, 100003, 100004, 100005, 100006, 100007, 67, 66, 0, 65, 68], [62]⟩, ⟨some 62, .load 44 (.tmp 61), 44, (some (some 51, true))⟩),
 (⟨[100000, 100001, 100002, 100003, 100004, 100005, 100006, 100007, 63, 52, 57, 62, 0, 0, 0, 51], [39, 40, 41, 42, 43, 44, 45, 46, 47, 48, 49, 50, 51, 50, 52, 53, 54, 55, 56, 57, 58, 59, 60, 61, 62, 63, 64, 65, 66, 100000, 100001, 100002, 100003, 100004, 100005, 100006, 100007, 67, 66, 0, 65, 68], [63]⟩, ⟨some 63, .call ⟨(.value (.func 114)), #[(.tmp 52), (.tmp 57), (.tmp 62)], #[87, 44, 44]⟩, 4, (some (some 51, true))⟩),
 (⟨[64, 51, 63, 50, 63], [39, 40, 41, 42, 43, 44, 45, 46, 47, 48, 49, 50, 51, 50, 52, 53, 54, 55, 56, 57, 58, 59, 60, 61, 62, 63, 64, 65, 66, 100000, 100001, 100002, 100003, 100004, 100005, 100006, 100007, 67, 66, 0, 65, 68], [64]⟩, ⟨some 64, .pick (.tmp 51) (.tmp 63) (.const (.bool false)), 4, none⟩),
 (⟨[65, 64, 64], [39, 40, 41, 42, 43, 44, 45, 46, 47, 48, 49, 50, 51, 50, 52, 53, 54, 55, 56, 57, 58, 59, 60, 61, 62, 63, 64, 65, 66, 100000, 100001, 100002, 100003, 100004, 100005, 100006, 100007, 67, 66, 0, 65, 68], [65]⟩, ⟨some 65, .move (.tmp 64), 4, none⟩),
 (⟨[66, 0, 0, 65], [39, 40, 41, 42, 43, 44, 45, 46, 47, 48, 49, 50, 51, 50, 52, 53, 54, 55, 56, 57, 58, 59, 60, 61, 62, 63, 64, 65, 66, 100000, 100001, 100002, 100003, 100004, 100005, 100006, 100007, 67, 66, 0, 65, 68], [66]⟩, ⟨some 66, .move (.tmp 0), 87, (some (some 65, true))⟩),
 (⟨[100000, 100001, 100002, 100003, 100004, 100005, 100006, 100007, 67, 66, 0, 65], [39, 40, 41, 42, 43, 44, 45, 46, 47, 48, 49, 50, 51, 50, 52, 53, 54, 55, 56, 57, 58, 59, 60, 61, 62, 63, 64, 65, 66, 100000, 100001, 100002, 100003, 100004, 100005, 100006, 100007, 67, 66, 0, 65, 68], [100000, 100001, 100002, 100003, 100004, 100005, 100006, 100007, 67, 66, 0, 65]⟩, ⟨some 67, .call ⟨(.value (.func 61)), #[(.tmp 66)], #[87]⟩, 4, (some (some 65, true))⟩),
 (⟨[68, 65, 67, 64, 67], [39, 40, 41, 42, 43, 44, 45, 46, 47, 48, 49, 50, 51, 50, 52, 53, 54, 55, 56, 57, 58, 59, 60, 61, 62, 63, 64, 65, 66, 100000, 100001, 100002, 100003, 100004, 100005, 100006, 100007, 67, 66, 0, 65, 68], [68]⟩, ⟨some 68, .pick (.tmp 65) (.tmp 67) (.const (.bool false)), 4, none⟩)])
 (.cond (.tmp 68)
 (.seq
 (.ops [
 ⟨some 2, .assign (.const (.bool true)), 4, none⟩])
 .ret)
 .skip))
 (.draws [
 (⟨[69, 0, 0], [69, 70, 71, 72, 73, 74, 75, 76, 77, 78, 79, 100000, 100001, 100002, 100003, 100004, 100005, 100006, 100007, 80, 73, 79, 81, 82, 100000, 100001, 100002, 100003, 100004, 100005, 100006, 100007, 82, 80, 0, 0], [69]⟩, ⟨some 69, .move (.tmp 0), 87, none⟩),
 (⟨[70, 0, 0], [69, 70, 71, 72, 73, 74, 75, 76, 77, 78, 79, 100000, 100001, 100002, 100003, 100004, 100005, 100006, 100007, 80, 73, 79, 81, 82, 100000, 100001, 100002, 100003, 100004, 100005, 100006, 100007, 82, 80, 0, 0], [70]⟩, ⟨some 70, .move (.tmp 0), 87, none⟩),
 (⟨[100000, 100001, 100002, 100003, 100004, 100005, 100006, 100007, 71, 70, 0], [69, 70, 71, 72, 73, 74, 75, 76, 77, 78, 79, 100000, 100001, 100002, 100003, 100004, 100005, 100006, 100007, 80, 73, 79, 81, 82, 100000, 100001, 100002, 100003, 100004, 100005, 100006, 100007, 82, 80, 0, 0], [71]⟩, ⟨some 71, .nilCheck (.tmp 70), 0, none⟩),
 (⟨[100000, 100001, 100002, 100003, 100004, 100005, 100006, 100007, 72, 71, 0], [69, 70, 71, 72, 73, 74, 75, 76, 77, 78, 79, 100000, 100001, 100002, 100003, 100004, 100005, 100006, 100007, 80, 73, 79, 81, 82, 100000, 100001, 100002, 100003, 100004, 100005, 100006, 100007, 82, 80, 0, 0], [72]⟩, ⟨some 72, .fieldAddr 89 (.tmp 71) 2, 0, none⟩),
 (⟨[100000, 100001, 100002, 100003, 100004, 100005, 100006, 100007, 73, 72, 0], [69, 70, 71, 72, 73, 74, 75, 76, 77, 78, 79, 100000, 100001, 100002, 100003, 100004, 100005, 100006, 100007, 80, 73, 79, 81, 82, 100000, 100001, 100002, 100003, 100004, 100005, 100006, 100007, 82, 80, 0, 0], [73]⟩, ⟨some 73, .load 23 (.tmp 72), 23, none⟩),
 (⟨[74, 0, 0], [69, 70, 71, 72, 73, 74, 75, 76, 77, 78, 79, 100000, 100001, 100002, 100003, 100004, 100005, 100006, 100007, 80, 73, 79, 81, 82, 100000, 100001, 100002, 100003, 100004, 100005, 100006, 100007, 82, 80, 0, 0], [74]⟩, ⟨some 74, .move (.tmp 0), 87, none⟩),
 (⟨[100000, 100001, 100002, 100003, 100004, 100005, 100006, 100007, 75, 74, 0], [69, 70, 71, 72, 73, 74, 75, 76, 77, 78, 79, 100000, 100001, 100002, 100003, 100004, 100005, 100006, 100007, 80, 73, 79, 81, 82, 100000, 100001, 100002, 100003, 100004, 100005, 100006, 100007, 82, 80, 0, 0], [75]⟩, ⟨some 75, .nilCheck (.tmp 74), 0, none⟩),
 (⟨[100000, 100001, 100002, 100003, 100004, 100005, 100006, 100007, 76, 75, 0], [69, 70, 71, 72, 73, 74, 75, 76, 77, 78, 79, 100000, 100001, 100002, 100003, 100004, 100005, 100006, 100007, 80, 73, 79, 81, 82, 100000, 100001, 100002, 100003, 100004, 100005, 100006, 100007, 82, 80, 0, 0], [76]⟩, ⟨some 76, .fieldAddr 89 (.tmp 75) 2, 0, none⟩),
 (⟨[100000, 100001, 100002, 100003, 100004, 100005, 100006, 100007, 77, 76, 0], [69, 70, 71, 72, 73, 74, 75, 76, 77, 78, 79, 100000, 100001, 100002, 100003, 100004, 100005, 100006, 100007, 80, 73, 79, 81, 82, 100000, 100001, 100002, 100003, 100004, 100005, 100006, 100007, 82, 80, 0, 0], [77]⟩, ⟨some 77, .load 23 (.tmp 76), 23, none⟩),
 (⟨[100000, 100001, 100002, 100003, 100004, 100005, 100006, 100007, 78, 77, 0], [69, 70, 71, 72, 73, 74, 75, 76, 77, 78, 79, 100000, 100001, 100002, 100003, 100004, 100005, 100006, 100007, 80, 73, 79, 81, 82, 100000, 100001, 100002, 100003, 100004, 100005, 100006, 100007, 82, 80, 0, 0], [78]⟩, ⟨some 78, .call ⟨(.builtin .len), #[(.tmp 77)], #[23]⟩, 3, none⟩),
 (⟨[79, 78, 78], [69, 70, 71, 72, 73, 74, 75, 76, 77, 78, 79, 100000, 100001, 100002, 100003, 100004, 100005, 100006, 100007, 80, 73, 79, 81, 82, 100000, 100001, 100002, 100003, 100004, 100005, 100006, 100007, 82, 80, 0, 0], [79]⟩, ⟨some 79, .binOp .sub 3 (.tmp 78) (.const (.int .i64 1)) 3, 3, none⟩),
 (⟨[100000, 100001, 100002, 100003, 100004, 100005, 100006, 100007, 80, 73, 79, 0, 79], [69, 70, 71, 72, 73, 74, 75, 76, 77, 78, 79, 100000, 100001, 100002, 100003, 100004, 100005, 100006, 100007, 80, 73, 79, 81, 82, 100000, 100001, 100002, 100003, 100004, 100005, 100006, 100007, 82, 80, 0, 0], [100000, 100001, 100002, 100003, 100004, 100005, 100006, 100007, 80, 73, 79]⟩, ⟨some 80, .slice 23 (.tmp 73) none (some (.tmp 79)) none, 900002, none⟩),
 (⟨[100000, 100001, 100002, 100003, 100004, 100005, 100006, 100007, 81, 69, 0], [69, 70, 71, 72, 73, 74, 75, 76, 77, 78, 79, 100000, 100001, 100002, 100003, 100004, 100005, 100006, 100007, 80, 73, 79, 81, 82, 100000, 100001, 100002, 100003, 100004, 100005, 100006, 100007, 82, 80, 0, 0], [81]⟩, ⟨some 81, .nilCheck (.tmp 69), 0, none⟩),
 (⟨[100000, 100001, 100002, 100003, 100004, 100005, 100006, 100007, 82, 81, 0], [69, 70, 71, 72, 73, 74, 75, 76, 77, 78, 79, 100000, 100001, 100002, 100003, 100004, 100005, 100006, 100007, 80, 73, 79, 81, 82, 100000, 100001, 100002, 100003, 100004, 100005, 100006, 100007, 82, 80, 0, 0], [82]⟩, ⟨some 82, .fieldAddr 89 (.tmp 81) 2, 0, none⟩),
 (⟨[100000, 100001, 100002, 100003, 100004, 100005, 100006, 100007, 82, 80, 0, 0], [69, 70, 71, 72, 73, 74, 75, 76, 77, 78, 79, 100000, 100001, 100002, 100003, 100004, 100005, 100006, 100007, 80, 73, 79, 81, 82, 100000, 100001, 100002, 100003, 100004, 100005, 100006, 100007, 82, 80, 0, 0], [100000, 100001, 100002, 100003, 100004, 100005, 100006, 100007, 82, 80, 0, 0]⟩, ⟨none, .store 23 (.tmp 82) (.tmp 80), 0, none⟩)]))))))
 (.ops [
 ⟨some 83, .binOp .add 3 (.tmp 20) (.const (.int .i64 1)) 3, 3, none⟩,
 ⟨some 20, .move (.tmp 83), 3, none⟩])))
def k61_l0 : SC := .loop k61_l0b
def k61 : SC :=
 .seq
 (.ops [
 ⟨some 2, .assign (.const (.bool false)), 4, none⟩])
 (.seq
 (.seq
 (.draws [
 (⟨[4, 0, 0], [4, 5, 6, 7, 8, 9, 10, 11, 12, 13, 14], [4]⟩, ⟨some 4, .move (.tmp 0), 87, none⟩),
 (⟨[5, 4, 0], [4, 5, 6, 7, 8, 9, 10, 11, 12, 13, 14], [5]⟩, ⟨some 5, .nilCheck (.tmp 4), 0, none⟩),
 (⟨[6, 5, 0], [4, 5, 6, 7, 8, 9, 10, 11, 12, 13, 14], [6]⟩, ⟨some 6, .fieldAddr 89 (.tmp 5) 2, 0, none⟩),
 (⟨[7, 6, 0], [4, 5, 6, 7, 8, 9, 10, 11, 12, 13, 14], [7]⟩, ⟨some 7, .load 23 (.tmp 6), 23, none⟩),
 (⟨[8, 7, 0], [4, 5, 6, 7, 8, 9, 10, 11, 12, 13, 14], [8]⟩, ⟨some 8, .call ⟨(.builtin .len), #[(.tmp 7)], #[23]⟩, 3, none⟩),
 (⟨[9, 0, 0], [4, 5, 6, 7, 8, 9, 10, 11, 12, 13, 14], [9]⟩, ⟨some 9, .move (.tmp 0), 87, none⟩),
 (⟨[10, 9, 0], [4, 5, 6, 7, 8, 9, 10, 11, 12, 13, 14], [10]⟩, ⟨some 10, .nilCheck (.tmp 9), 0, none⟩),
 (⟨[11, 10, 0], [4, 5, 6, 7, 8, 9, 10, 11, 12, 13, 14], [11]⟩, ⟨some 11, .fieldAddr 89 (.tmp 10) 0, 0, none⟩),
 (⟨[12, 11, 0], [4, 5, 6, 7, 8, 9, 10, 11, 12, 13, 14], [12]⟩, ⟨some 12, .fieldAddr 50 (.tmp 11) 0, 0, none⟩),
 (⟨[13, 12, 0], [4, 5, 6, 7, 8, 9, 10, 11, 12, 13, 14], [13]⟩, ⟨some 13, .load 3 (.tmp 12), 3, none⟩),
 (⟨[14, 8, 13, 8, 0], [4, 5, 6, 7, 8, 9, 10, 11, 12, 13, 14], [14]⟩, ⟨some 14, .binOp .eql 3 (.tmp 8) (.tmp 13) 3, 4, none⟩)])
 (.cond (.tmp 14)
 (.seq
 (.ops [
 ⟨some 2, .assign (.const (.bool true)), 4, none⟩])
 .ret)
 .skip))
 (.seq
 (.seq
 (.ops [
 ⟨some 15, .move (.tmp 0), 87, none⟩,
 ⟨some 16, .nilCheck (.tmp 15), 0, none⟩,
 ⟨some 17, .fieldAddr 89 (.tmp 16) 0, 0, none⟩,
 ⟨some 18, .fieldAddr 50 (.tmp 17) 0, 0, none⟩,
 ⟨some 19, .load 3 (.tmp 18), 3, none⟩,
 ⟨some 20, .move (.const (.int .i64 0)), 3, none⟩])
 (.block 0
 k61_l0))
 (.seq
 (.ops [
 ⟨some 2, .assign (.const (.bool false)), 4, none⟩])
 .ret)))
theorem slim61 : Try.f61.body.map (slim lends) = some k61 := by kernel_rfl
theorem ok61 : fnOk Try.f61 1 = true := by kernel_rfl
theorem c61 {a l : List D} {r : D × List D} (h : wpD Y.env k61 (fin tys l.length [ResultVar.tmp 2] r) (entry a l)) (ha : a.length = 1) : Y.call 61 a l = some r :=
 call_slim (Y := Y) rfl Try.func61 (ha ▸ ok61) slim61 h
def i_renamer_search_l0_M (rec_ : Int → Int → (List (List Int)) → (List (List Int)) → Int → Int → (List (List Int)) → (List (List Int)) → (List Int) → Option (Bool × Int × Int × (List (List Int)) × (List (List Int)) × Int × Int × (List (List Int)) × (List (List Int)) × (List Int))) (t0_0 t20_ t100000_0 t100000_1 : Int) (t100000_2 t100000_3 : List (List Int)) (t100000_4 t100000_5 : Int) (t100000_6 t100000_7 : List (List Int)) (t100000_8 : List Int) (s : St) : Prop := (∃ w_, s.v 0 = D.vw [100000] (s.k 100000) w_) ∧ s.v 19 = D.int .i64 t0_0 ∧ s.v 20 = D.int .i64 t20_ ∧ s.v 100000 = D.box [D.int .i64 t100000_0, D.int .i64 t100000_1, D.sl 23 (lst (fun x => D.sl 3 (lst (D.int .i64) x)) t100000_2), D.sl 23 (lst (fun x => D.sl 3 (lst (D.int .i64) x)) t100000_3), D.int .i64 t100000_4, D.int .i64 t100000_5, D.sl 23 (lst (fun x => D.sl 3 (lst (D.int .i64) x)) t100000_6), D.sl 23 (lst (fun x => D.sl 3 (lst (D.int .i64) x)) t100000_7), D.own 3 (lst (D.int .i64) t100000_8)]
def i_renamer_search_l0_X (rec_ : Int → Int → (List (List Int)) → (List (List Int)) → Int → Int → (List (List Int)) → (List (List Int)) → (List Int) → Option (Bool × Int × Int × (List (List Int)) × (List (List Int)) × Int × Int × (List (List Int)) × (List (List Int)) × (List Int))) (t0_0 : Int) (r : (Int × Int × (List (List Int)) × (List (List Int)) × Int × Int × (List (List Int)) × (List (List Int)) × (List Int)) ⊕ (Int × Int × (List (List Int)) × (List (List Int)) × Int × Int × (List (List Int)) × (List (List Int)) × (List Int))) (ex : Ex) (s : St) : Prop := match r with
 | .inl q => ex = .ret ∧ s.v 2 = D.bool true ∧ s.v 100000 = D.box [D.int .i64 q.1, D.int .i64 q.2.1, D.sl 23 (lst (fun x => D.sl 3 (lst (D.int .i64) x)) q.2.2.1), D.sl 23 (lst (fun x => D.sl 3 (lst (D.int .i64) x)) q.2.2.2.1), D.int .i64 q.2.2.2.2.1, D.int .i64 q.2.2.2.2.2.1, D.sl 23 (lst (fun x => D.sl 3 (lst (D.int .i64) x)) q.2.2.2.2.2.2.1), D.sl 23 (lst (fun x => D.sl 3 (lst (D.int .i64) x)) q.2.2.2.2.2.2.2.1), D.own 3 (lst (D.int .i64) q.2.2.2.2.2.2.2.2)]
 | .inr q => ex = .exit 0 ∧ s.v 100000 = D.box [D.int .i64 q.1, D.int .i64 q.2.1, D.sl 23 (lst (fun x => D.sl 3 (lst (D.int .i64) x)) q.2.2.1), D.sl 23 (lst (fun x => D.sl 3 (lst (D.int .i64) x)) q.2.2.2.1), D.int .i64 q.2.2.2.2.1, D.int .i64 q.2.2.2.2.2.1, D.sl 23 (lst (fun x => D.sl 3 (lst (D.int .i64) x)) q.2.2.2.2.2.2.1), D.sl 23 (lst (fun x => D.sl 3 (lst (D.int .i64) x)) q.2.2.2.2.2.2.2.1), D.own 3 (lst (D.int .i64) q.2.2.2.2.2.2.2.2)]
theorem i_renamer_search_l0_wp (rec_ : Int → Int → (List (List Int)) → (List (List Int)) → Int → Int → (List (List Int)) → (List (List Int)) → (List Int) → Option (Bool × Int × Int × (List (List Int)) × (List (List Int)) × Int × Int × (List (List Int)) × (List (List Int)) × (List Int))) (t0_0 : Int) (rec_h : ∀ (t0_0 t0_1 : Int) (t0_2 t0_3 : List (List Int)) (t0_4 t0_5 : Int) (t0_6 t0_7 : List (List Int)) (t0_8 : List Int) (r : Bool × Int × Int × (List (List Int)) × (List (List Int)) × Int × Int × (List (List Int)) × (List (List Int)) × (List Int)), rec_ t0_0 t0_1 t0_2 t0_3 t0_4 t0_5 t0_6 t0_7 t0_8 = some r → Y.call 61 [D.vw [100000] 0 0] [D.box [D.int .i64 t0_0, D.int .i64 t0_1, D.sl 23 (lst (fun x => D.sl 3 (lst (D.int .i64) x)) t0_2), D.sl 23 (lst (fun x => D.sl 3 (lst (D.int .i64) x)) t0_3), D.int .i64 t0_4, D.int .i64 t0_5, D.sl 23 (lst (fun x => D.sl 3 (lst (D.int .i64) x)) t0_6), D.sl 23 (lst (fun x => D.sl 3 (lst (D.int .i64) x)) t0_7), D.own 3 (lst (D.int .i64) t0_8)]] = some (D.bool r.1, [D.box [D.int .i64 r.2.1, D.int .i64 r.2.2.1, D.sl 23 (lst (fun x => D.sl 3 (lst (D.int .i64) x)) r.2.2.2.1), D.sl 23 (lst (fun x => D.sl 3 (lst (D.int .i64) x)) r.2.2.2.2.1), D.int .i64 r.2.2.2.2.2.1, D.int .i64 r.2.2.2.2.2.2.1, D.sl 23 (lst (fun x => D.sl 3 (lst (D.int .i64) x)) r.2.2.2.2.2.2.2.1), D.sl 23 (lst (fun x => D.sl 3 (lst (D.int .i64) x)) r.2.2.2.2.2.2.2.2.1), D.own 3 (lst (D.int .i64) r.2.2.2.2.2.2.2.2.2)]])) {v : Int × Int × Int × (List (List Int)) × (List (List Int)) × Int × Int × (List (List Int)) × (List (List Int)) × (List Int)} {s : St} {r : (Int × Int × (List (List Int)) × (List (List Int)) × Int × Int × (List (List Int)) × (List (List Int)) × (List Int)) ⊕ (Int × Int × (List (List Int)) × (List (List Int)) × Int × Int × (List (List Int)) × (List (List Int)) × (List Int))} (h : i_renamer_search_l0 rec_ t0_0 v = some r) (hM : i_renamer_search_l0_M rec_ t0_0 v.1 v.2.1 v.2.2.1 v.2.2.2.1 v.2.2.2.2.1 v.2.2.2.2.2.1 v.2.2.2.2.2.2.1 v.2.2.2.2.2.2.2.1 v.2.2.2.2.2.2.2.2.1 v.2.2.2.2.2.2.2.2.2 s) : wpD Y.env k61_l0 (i_renamer_search_l0_X rec_ t0_0 r) s := by
 unfold i_renamer_search_l0 at h
 refine wd_itO (c := k61_l0b) (fun v => i_renamer_search_l0_S rec_ t0_0 v.1 v.2.1 v.2.2.1 v.2.2.2.1 v.2.2.2.2.1 v.2.2.2.2.2.1 v.2.2.2.2.2.2.1 v.2.2.2.2.2.2.2.1 v.2.2.2.2.2.2.2.2.1 v.2.2.2.2.2.2.2.2.2) (fun v s => i_renamer_search_l0_M rec_ t0_0 v.1 v.2.1 v.2.2.1 v.2.2.2.1 v.2.2.2.2.1 v.2.2.2.2.2.1 v.2.2.2.2.2.2.1 v.2.2.2.2.2.2.2.1 v.2.2.2.2.2.2.2.2.1 v.2.2.2.2.2.2.2.2.2 s) (i_renamer_search_l0_X rec_ t0_0) ?_ h hM
 clear h hM s v r
 intro v s o hM h
 obtain ⟨t20_, t100000_0, t100000_1, t100000_2, t100000_3, t100000_4, t100000_5, t100000_6, t100000_7, t100000_8⟩ := v
 dsimp only at h hM
 unfold i_renamer_search_l0_S at h
 unfold i_renamer_search_l0_M at hM
 obtain ⟨⟨w0_, m0⟩, m1, m2, m3⟩ := hM
 unfold k61_l0b
 by_cases e2 : t20_ < t0_0
 ·rw [if_pos e2] at h
  obtain ⟨e3, h⟩ := ckS h
  have c4 := g_slices_Contains_Sint_int_cl t100000_8 t20_ e3
  by_cases e5 : (t100000_8.contains t20_) = true
  ·rw [if_pos e5] at h
   cases h
   simp (maxDischargeDepth := 9) only [↓xpre, xpost, xlst, xc2, xcore, yset, ↓reduceIte, Nat.reduceEqDiff, Nat.reduceLT, Nat.reduceAdd, m0, m1, m2, m3, e2, c4, e5, i_renamer_search_l0_M, sxN] <;> (repeat' apply And.intro) <;> first | rfl | exact ⟨_, rfl⟩ | exact ⟨_, _, rfl⟩ | simp [lst, cat2_nil]
  ·rw [if_neg e5] at h
   have e5f : (t100000_8.contains t20_) = false := Bool.eq_false_iff.mpr e5
   obtain ⟨e6, h⟩ := ckS h
   obtain ⟨r7_, hl7, h⟩ := bindS h
   try dsimp only at h
   have c7 := i_renamer_mapped_call t100000_0 t100000_1 t100000_2 t100000_3 t100000_4 t100000_5 t100000_6 t100000_7 (t100000_8 ++ [t20_]) t100000_2 t100000_6 hl7
   by_cases e8 : r7_ = true
   ·rw [if_pos e8] at h
    obtain ⟨r9_, hl9, h⟩ := bindS h
    try dsimp only at h
    have c9 := i_renamer_mapped_call t100000_0 t100000_1 t100000_2 t100000_3 t100000_4 t100000_5 t100000_6 t100000_7 (t100000_8 ++ [t20_]) t100000_3 t100000_7 hl9
    by_cases e10 : r9_ = true
    ·rw [if_pos e10] at h
     obtain ⟨r11_, hl11, h⟩ := bindS h
     try dsimp only at h
     have c11 := rec_h _ _ _ _ _ _ _ _ _ _ hl11
     by_cases e12 : r11_.1 = true
     ·rw [if_pos e12] at h
      cases h
      simp (maxDischargeDepth := 9) only [↓xpre, xpost, xlst, xc2, xcore, yset, ↓reduceIte, Nat.reduceEqDiff, Nat.reduceLT, Nat.reduceLeDiff, Nat.reduceAdd, Nat.reduceBEq, m0, m1, m2, m3, e2, c4, e5f, e6, c7, e8, c9, e10, c11, e12, i_renamer_search_l0_M, i_renamer_search_l0_X, sxR]
     ·rw [if_neg e12] at h
      have e12f : r11_.1 = false := Bool.eq_false_iff.mpr e12
      obtain ⟨e13, h⟩ := ckS h
      obtain ⟨e14, h⟩ := ckS h
      cases h
      simp (maxDischargeDepth := 9) only [↓xpre, xpost, xlst, xc2, xcore, yset, ↓reduceIte, Nat.reduceEqDiff, Nat.reduceLT, Nat.reduceLeDiff, Nat.reduceAdd, Nat.reduceBEq, m0, m1, m2, m3, e2, c4, e5f, e6, c7, e8, c9, e10, c11, e12f, e13, e14, i_renamer_search_l0_M, sxN] <;> (repeat' apply And.intro) <;> first | rfl | exact ⟨_, rfl⟩ | exact ⟨_, _, rfl⟩ | simp [lst, cat2_nil]
    ·rw [if_neg e10] at h
     have e10f : r9_ = false := Bool.eq_false_iff.mpr e10
     obtain ⟨e11, h⟩ := ckS h
     obtain ⟨e12, h⟩ := ckS h
     cases h
     simp (maxDischargeDepth := 9) only [↓xpre, xpost, xlst, xc2, xcore, yset, ↓reduceIte, Nat.reduceEqDiff, Nat.reduceLT, Nat.reduceLeDiff, Nat.reduceAdd, Nat.reduceBEq, m0, m1, m2, m3, e2, c4, e5f, e6, c7, e8, c9, e10f, e11, e12, i_renamer_search_l0_M, sxN] <;> (repeat' apply And.intro) <;> first | rfl | exact ⟨_, rfl⟩ | exact ⟨_, _, rfl⟩ | simp [lst, cat2_nil]
   ·rw [if_neg e8] at h
    have e8f : r7_ = false := Bool.eq_false_iff.mpr e8
    obtain ⟨e9, h⟩ := ckS h
    obtain ⟨e10, h⟩ := ckS h
    cases h
    simp (maxDischargeDepth := 9) only [↓xpre, xpost, xlst, xc2, xcore, yset, ↓reduceIte, Nat.reduceEqDiff, Nat.reduceLT, Nat.reduceLeDiff, Nat.reduceAdd, Nat.reduceBEq, m0, m1, m2, m3, e2, c4, e5f, e6, c7, e8f, e9, e10, i_renamer_search_l0_M, sxN] <;> (repeat' apply And.intro) <;> first | rfl | exact ⟨_, rfl⟩ | exact ⟨_, _, rfl⟩ | simp [lst, cat2_nil]
 ·rw [if_neg e2] at h
  cases h
  simp (maxDischargeDepth := 9) only [↓xpre, xpost, yset, ↓reduceIte, Nat.reduceEqDiff, Nat.reduceLT, m1, m2, m3, e2, i_renamer_search_l0_M, i_renamer_search_l0_X, sxE]
theorem i_renamer_search_R_call (rec_ : Int → Int → (List (List Int)) → (List (List Int)) → Int → Int → (List (List Int)) → (List (List Int)) → (List Int) → Option (Bool × Int × Int × (List (List Int)) × (List (List Int)) × Int × Int × (List (List Int)) × (List (List Int)) × (List Int))) (t0_0 t0_1 : Int) (t0_2 t0_3 : List (List Int)) (t0_4 t0_5 : Int) (t0_6 t0_7 : List (List Int)) (t0_8 : List Int) (rec_h : ∀ (t0_0 t0_1 : Int) (t0_2 t0_3 : List (List Int)) (t0_4 t0_5 : Int) (t0_6 t0_7 : List (List Int)) (t0_8 : List Int) (r : Bool × Int × Int × (List (List Int)) × (List (List Int)) × Int × Int × (List (List Int)) × (List (List Int)) × (List Int)), rec_ t0_0 t0_1 t0_2 t0_3 t0_4 t0_5 t0_6 t0_7 t0_8 = some r → Y.call 61 [D.vw [100000] 0 0] [D.box [D.int .i64 t0_0, D.int .i64 t0_1, D.sl 23 (lst (fun x => D.sl 3 (lst (D.int .i64) x)) t0_2), D.sl 23 (lst (fun x => D.sl 3 (lst (D.int .i64) x)) t0_3), D.int .i64 t0_4, D.int .i64 t0_5, D.sl 23 (lst (fun x => D.sl 3 (lst (D.int .i64) x)) t0_6), D.sl 23 (lst (fun x => D.sl 3 (lst (D.int .i64) x)) t0_7), D.own 3 (lst (D.int .i64) t0_8)]] = some (D.bool r.1, [D.box [D.int .i64 r.2.1, D.int .i64 r.2.2.1, D.sl 23 (lst (fun x => D.sl 3 (lst (D.int .i64) x)) r.2.2.2.1), D.sl 23 (lst (fun x => D.sl 3 (lst (D.int .i64) x)) r.2.2.2.2.1), D.int .i64 r.2.2.2.2.2.1, D.int .i64 r.2.2.2.2.2.2.1, D.sl 23 (lst (fun x => D.sl 3 (lst (D.int .i64) x)) r.2.2.2.2.2.2.2.1), D.sl 23 (lst (fun x => D.sl 3 (lst (D.int .i64) x)) r.2.2.2.2.2.2.2.2.1), D.own 3 (lst (D.int .i64) r.2.2.2.2.2.2.2.2.2)]])) {r : Bool × Int × Int × (List (List Int)) × (List (List Int)) × Int × Int × (List (List Int)) × (List (List Int)) × (List Int)} (h : i_renamer_search_R rec_ t0_0 t0_1 t0_2 t0_3 t0_4 t0_5 t0_6 t0_7 t0_8 = some r) : Y.call 61 [D.vw [100000] 0 0] [D.box [D.int .i64 t0_0, D.int .i64 t0_1, D.sl 23 (lst (fun x => D.sl 3 (lst (D.int .i64) x)) t0_2), D.sl 23 (lst (fun x => D.sl 3 (lst (D.int .i64) x)) t0_3), D.int .i64 t0_4, D.int .i64 t0_5, D.sl 23 (lst (fun x => D.sl 3 (lst (D.int .i64) x)) t0_6), D.sl 23 (lst (fun x => D.sl 3 (lst (D.int .i64) x)) t0_7), D.own 3 (lst (D.int .i64) t0_8)]] = some (D.bool r.1, [D.box [D.int .i64 r.2.1, D.int .i64 r.2.2.1, D.sl 23 (lst (fun x => D.sl 3 (lst (D.int .i64) x)) r.2.2.2.1), D.sl 23 (lst (fun x => D.sl 3 (lst (D.int .i64) x)) r.2.2.2.2.1), D.int .i64 r.2.2.2.2.2.1, D.int .i64 r.2.2.2.2.2.2.1, D.sl 23 (lst (fun x => D.sl 3 (lst (D.int .i64) x)) r.2.2.2.2.2.2.2.1), D.sl 23 (lst (fun x => D.sl 3 (lst (D.int .i64) x)) r.2.2.2.2.2.2.2.2.1), D.own 3 (lst (D.int .i64) r.2.2.2.2.2.2.2.2.2)]]) := by
 refine c61 ?_ rfl
 unfold k61
 unfold i_renamer_search_R at h
 by_cases e1 : (t0_8.length : Int) = t0_0
 ·rw [if_pos e1] at h
  cases h
  simp (maxDischargeDepth := 9) only [↓xpre, xpost, xlst, xc2, xcore, yset, ↓reduceIte, Nat.reduceEqDiff, Nat.reduceLT, Nat.reduceAdd, Nat.reduceSub, Nat.reduceBEq, decide_eq_true e1]
 ·rw [if_neg e1] at h
  obtain ⟨r3_, hl3, h⟩ := bindS h
  try dsimp only at h
  simp (maxDischargeDepth := 9) only [↓xpre, xpost, xlst, xc2, xcore, yset, ↓reduceIte, Nat.reduceEqDiff, Nat.reduceLT, Nat.reduceAdd, Nat.reduceSub, Nat.reduceBEq, e1]
  refine wd_mono (i_renamer_search_l0_wp rec_ t0_0 rec_h hl3 ?_) ?_
  ·simp (maxDischargeDepth := 9) only [xpost, xcore, ↓reduceIte, Nat.reduceEqDiff, Nat.reduceLT, Nat.reduceSub, i_renamer_search_l0_M] <;> (repeat' apply And.intro) <;> first | rfl | exact ⟨_, rfl⟩ | exact ⟨_, _, rfl⟩ | simp [lst, cat2_nil]
  ·intro ex3 s3 hX3
   rcases r3_ with q3_ | q3_
   ·unfold i_renamer_search_l0_X at hX3
    dsimp only at hX3 h
    obtain ⟨rfl, n3_0, n3_1⟩ := hX3
    cases h
    simp (maxDischargeDepth := 9) only [↓xpre, xpost, xlst, xcore, ↓reduceIte, n3_0, n3_1]
   ·unfold i_renamer_search_l0_X at hX3
    dsimp only at hX3 h
    obtain ⟨rfl, n3_0⟩ := hX3
    cases h
    simp (maxDischargeDepth := 9) only [↓xpre, xpost, xlst, xcore, yset, ↓reduceIte, Nat.reduceEqDiff, Nat.reduceLT, n3_0]
theorem i_renamer_search_N_call (n : Nat) : ∀ (t0_0 t0_1 : Int) (t0_2 t0_3 : List (List Int)) (t0_4 t0_5 : Int) (t0_6 t0_7 : List (List Int)) (t0_8 : List Int) (r : Bool × Int × Int × (List (List Int)) × (List (List Int)) × Int × Int × (List (List Int)) × (List (List Int)) × (List Int)), i_renamer_search_N n t0_0 t0_1 t0_2 t0_3 t0_4 t0_5 t0_6 t0_7 t0_8 = some r → Y.call 61 [D.vw [100000] 0 0] [D.box [D.int .i64 t0_0, D.int .i64 t0_1, D.sl 23 (lst (fun x => D.sl 3 (lst (D.int .i64) x)) t0_2), D.sl 23 (lst (fun x => D.sl 3 (lst (D.int .i64) x)) t0_3), D.int .i64 t0_4, D.int .i64 t0_5, D.sl 23 (lst (fun x => D.sl 3 (lst (D.int .i64) x)) t0_6), D.sl 23 (lst (fun x => D.sl 3 (lst (D.int .i64) x)) t0_7), D.own 3 (lst (D.int .i64) t0_8)]] = some (D.bool r.1, [D.box [D.int .i64 r.2.1, D.int .i64 r.2.2.1, D.sl 23 (lst (fun x => D.sl 3 (lst (D.int .i64) x)) r.2.2.2.1), D.sl 23 (lst (fun x => D.sl 3 (lst (D.int .i64) x)) r.2.2.2.2.1), D.int .i64 r.2.2.2.2.2.1, D.int .i64 r.2.2.2.2.2.2.1, D.sl 23 (lst (fun x => D.sl 3 (lst (D.int .i64) x)) r.2.2.2.2.2.2.2.1), D.sl 23 (lst (fun x => D.sl 3 (lst (D.int .i64) x)) r.2.2.2.2.2.2.2.2.1), D.own 3 (lst (D.int .i64) r.2.2.2.2.2.2.2.2.2)]]) := by
 induction n with
 | zero => intro t0_0 t0_1 t0_2 t0_3 t0_4 t0_5 t0_6 t0_7 t0_8 r h; exact absurd h (by rw [i_renamer_search_N]; exact fun e => by cases e)
 | succ n ih => intro t0_0 t0_1 t0_2 t0_3 t0_4 t0_5 t0_6 t0_7 t0_8 r h; rw [i_renamer_search_N] at h; exact i_renamer_search_R_call (i_renamer_search_N n) t0_0 t0_1 t0_2 t0_3 t0_4 t0_5 t0_6 t0_7 t0_8 ih h
theorem i_renamer_search_call (t0_0 t0_1 : Int) (t0_2 t0_3 : List (List Int)) (t0_4 t0_5 : Int) (t0_6 t0_7 : List (List Int)) (t0_8 : List Int) {r : Bool × Int × Int × (List (List Int)) × (List (List Int)) × Int × Int × (List (List Int)) × (List (List Int)) × (List Int)} (h : i_renamer_search t0_0 t0_1 t0_2 t0_3 t0_4 t0_5 t0_6 t0_7 t0_8 = some r) : Y.call 61 [D.vw [100000] 0 0] [D.box [D.int .i64 t0_0, D.int .i64 t0_1, D.sl 23 (lst (fun x => D.sl 3 (lst (D.int .i64) x)) t0_2), D.sl 23 (lst (fun x => D.sl 3 (lst (D.int .i64) x)) t0_3), D.int .i64 t0_4, D.int .i64 t0_5, D.sl 23 (lst (fun x => D.sl 3 (lst (D.int .i64) x)) t0_6), D.sl 23 (lst (fun x => D.sl 3 (lst (D.int .i64) x)) t0_7), D.own 3 (lst (D.int .i64) t0_8)]] = some (D.bool r.1, [D.box [D.int .i64 r.2.1, D.int .i64 r.2.2.1, D.sl 23 (lst (fun x => D.sl 3 (lst (D.int .i64) x)) r.2.2.2.1), D.sl 23 (lst (fun x => D.sl 3 (lst (D.int .i64) x)) r.2.2.2.2.1), D.int .i64 r.2.2.2.2.2.1, D.int .i64 r.2.2.2.2.2.2.1, D.sl 23 (lst (fun x => D.sl 3 (lst (D.int .i64) x)) r.2.2.2.2.2.2.2.1), D.sl 23 (lst (fun x => D.sl 3 (lst (D.int .i64) x)) r.2.2.2.2.2.2.2.2.1), D.own 3 (lst (D.int .i64) r.2.2.2.2.2.2.2.2.2)]]) := i_renamer_search_N_call 1000000 t0_0 t0_1 t0_2 t0_3 t0_4 t0_5 t0_6 t0_7 t0_8 r h

noncomputable def i_RenamingBetween (pL pD : Int) (pN pE : List (List Int)) (qL qD : Int) (qN qE : List (List Int)) : Option ((List Int) × Bool) :=
 ck (Short pN) <|
 ck (Short pE) <|
 if (isProb pL pD pN pE) = true then
  ck (Short qN) <|
  ck (Short qE) <|
  if (isProb qL qD qN qE) = true then
   if pL = qL then
    if pD = qD then
     if (pN.length : Int) = (qN.length : Int) then
      if (pE.length : Int) = (qE.length : Int) then
       (i_renamer_search pL pD pN pE qL qD qN qE []).bind fun r13_ =>
       if r13_.1 = true then
        some (r13_.2.2.2.2.2.2.2.2.2, true)
       else
        some ([], false)
      else
       some ([], false)
     else
      some ([], false)
    else
     some ([], false)
   else
    some ([], false)
  else
   some ([], false)
 else
  some ([], false)
/-- impl.RenamingBetween -/
def k26 : SC :=
 .seq
 (.ops [
 ⟨some 2, .box 50 (.tmp 0), 0, none⟩,
 ⟨some 3, .box 50 (.tmp 1), 0, none⟩,
 ⟨some 4, .assign (.const (.slice none 0 0)), 23, none⟩,
 ⟨some 5, .assign (.const (.bool false)), 4, none⟩])
 (.seq
 (.seq
 (.ops [
 ⟨some 7, .load 50 (.tmp 2), 50, none⟩,
 ⟨some 8, .call ⟨(.value (.func 60)), #[(.tmp 7)], #[50]⟩, 4, none⟩,
 ⟨some 9, .unOp .not 4 (.tmp 8), 4, none⟩,
 ⟨some 10, .move (.tmp 9), 4, none⟩,
 ⟨some 11, .load 50 (.tmp 3), 50, (some (some 10, false))⟩,
 ⟨some 12, .call ⟨(.value (.func 60)), #[(.tmp 11)], #[50]⟩, 4, (some (some 10, false))⟩,
 ⟨some 13, .unOp .not 4 (.tmp 12), 4, (some (some 10, false))⟩,
 ⟨some 14, .pick (.tmp 10) (.const (.bool true)) (.tmp 13), 4, none⟩,
 ⟨some 15, .move (.tmp 14), 4, none⟩,
 ⟨some 16, .fieldAddr 50 (.tmp 2) 0, 0, (some (some 15, false))⟩,
 ⟨some 17, .load 3 (.tmp 16), 3, (some (some 15, false))⟩,
 ⟨some 18, .fieldAddr 50 (.tmp 3) 0, 0, (some (some 15, false))⟩,
 ⟨some 19, .load 3 (.tmp 18), 3, (some (some 15, false))⟩,
 ⟨some 20, .binOp .neq 3 (.tmp 17) (.tmp 19) 3, 4, (some (some 15, false))⟩,
 ⟨some 21, .pick (.tmp 15) (.const (.bool true)) (.tmp 20), 4, none⟩,
 ⟨some 22, .move (.tmp 21), 4, none⟩,
 ⟨some 23, .fieldAddr 50 (.tmp 2) 1, 0, (some (some 22, false))⟩,
 ⟨some 24, .load 3 (.tmp 23), 3, (some (some 22, false))⟩,
 ⟨some 25, .fieldAddr 50 (.tmp 3) 1, 0, (some (some 22, false))⟩,
 ⟨some 26, .load 3 (.tmp 25), 3, (some (some 22, false))⟩,
 ⟨some 27, .binOp .neq 3 (.tmp 24) (.tmp 26) 3, 4, (some (some 22, false))⟩,
 ⟨some 28, .pick (.tmp 22) (.const (.bool true)) (.tmp 27), 4, none⟩])
 (.cond (.tmp 28)
 (.seq
 (.ops [
 ⟨some 4, .assign (.const (.slice none 0 0)), 23, none⟩,
 ⟨some 5, .assign (.const (.bool false)), 4, none⟩])
 .ret)
 .skip))
 (.seq
 (.seq
 (.ops [
 ⟨some 29, .fieldAddr 50 (.tmp 2) 2, 0, none⟩,
 ⟨some 30, .load 44 (.tmp 29), 44, none⟩,
 ⟨some 31, .call ⟨(.builtin .len), #[(.tmp 30)], #[44]⟩, 3, none⟩,
 ⟨some 32, .fieldAddr 50 (.tmp 3) 2, 0, none⟩,
 ⟨some 33, .load 44 (.tmp 32), 44, none⟩,
 ⟨some 34, .call ⟨(.builtin .len), #[(.tmp 33)], #[44]⟩, 3, none⟩,
 ⟨some 35, .binOp .neq 3 (.tmp 31) (.tmp 34) 3, 4, none⟩,
 ⟨some 36, .move (.tmp 35), 4, none⟩,
 ⟨some 37, .fieldAddr 50 (.tmp 2) 3, 0, (some (some 36, false))⟩,
 ⟨some 38, .load 44 (.tmp 37), 44, (some (some 36, false))⟩,
 ⟨some 39, .call ⟨(.builtin .len), #[(.tmp 38)], #[44]⟩, 3, (some (some 36, false))⟩,
 ⟨some 40, .fieldAddr 50 (.tmp 3) 3, 0, (some (some 36, false))⟩,
 ⟨some 41, .load 44 (.tmp 40), 44, (some (some 36, false))⟩,
 ⟨some 42, .call ⟨(.builtin .len), #[(.tmp 41)], #[44]⟩, 3, (some (some 36, false))⟩,
 ⟨some 43, .binOp .neq 3 (.tmp 39) (.tmp 42) 3, 4, (some (some 36, false))⟩,
 ⟨some 44, .pick (.tmp 36) (.const (.bool true)) (.tmp 43), 4, none⟩])
 (.cond (.tmp 44)
 (.seq
 (.ops [
 ⟨some 4, .assign (.const (.slice none 0 0)), 23, none⟩,
 ⟨some 5, .assign (.const (.bool false)), 4, none⟩])
 .ret)
 .skip))
 (.seq
 (.ops [
 ⟨some 45, .load 50 (.tmp 2), 50, none⟩,
 ⟨some 46, .load 50 (.tmp 3), 50, none⟩,
 ⟨some 47, .build 89 #[(0, (.tmp 45)), (1, (.tmp 46))], 89, none⟩,
 ⟨some 48, .box 89 (.tmp 47), 87, none⟩,
 ⟨some 6, .assign (.tmp 48), 87, none⟩])
 (.seq
 (.seq
 (.ops [
 ⟨some 49, .move (.tmp 6), 87, none⟩,
 ⟨some 50, .call ⟨(.value (.func 61)), #[(.tmp 49)], #[87]⟩, 4, none⟩,
 ⟨some 51, .unOp .not 4 (.tmp 50), 4, none⟩])
 (.cond (.tmp 51)
 (.seq
 (.ops [
 ⟨some 4, .assign (.const (.slice none 0 0)), 23, none⟩,
 ⟨some 5, .assign (.const (.bool false)), 4, none⟩])
 .ret)
 .skip))
 (.seq
 (.ops [
 ⟨some 52, .move (.tmp 6), 87, none⟩,
 ⟨some 53, .nilCheck (.tmp 52), 0, none⟩,
 ⟨some 54, .fieldAddr 89 (.tmp 53) 2, 0, none⟩,
 ⟨some 55, .load 23 (.tmp 54), 23, none⟩,
 ⟨some 4, .assign (.tmp 55), 23, none⟩,
 ⟨some 5, .assign (.const (.bool true)), 4, none⟩])
 .ret)))))
theorem slim26 : Try.f26.body.map (slim lends) = some k26 := by kernel_rfl
theorem ok26 : fnOk Try.f26 2 = true := by kernel_rfl
theorem c26 {a l : List D} {r : D × List D} (h : wpD Y.env k26 (fin tys l.length [ResultVar.tmp 4, ResultVar.tmp 5] r) (entry a l)) (ha : a.length = 2) : Y.call 26 a l = some r :=
 call_slim (Y := Y) rfl Try.func26 (ha ▸ ok26) slim26 h
theorem i_RenamingBetween_call (pL pD : Int) (pN pE : List (List Int)) (qL qD : Int) (qN qE : List (List Int)) {r : (List Int) × Bool} (h : i_RenamingBetween pL pD pN pE qL qD qN qE = some r) : Y.call 26 [D.agg [D.int .i64 pL, D.int .i64 pD, D.sl 23 (lst (fun x => D.sl 3 (lst (D.int .i64) x)) pN), D.sl 23 (lst (fun x => D.sl 3 (lst (D.int .i64) x)) pE)], D.agg [D.int .i64 qL, D.int .i64 qD, D.sl 23 (lst (fun x => D.sl 3 (lst (D.int .i64) x)) qN), D.sl 23 (lst (fun x => D.sl 3 (lst (D.int .i64) x)) qE)]] [] = some (D.tup [D.own 3 (lst (D.int .i64) r.1), D.bool r.2], []) := by
 refine c26 ?_ rfl
 unfold k26
 unfold i_RenamingBetween at h
 obtain ⟨e1, h⟩ := ckS h
 obtain ⟨e2, h⟩ := ckS h
 have c3 := i_IsProblem_cl pL pD pN pE e1 e2
 by_cases e4 : (isProb pL pD pN pE) = true
 ·rw [if_pos e4] at h
  obtain ⟨e5, h⟩ := ckS h
  obtain ⟨e6, h⟩ := ckS h
  have c7 := i_IsProblem_cl qL qD qN qE e5 e6
  by_cases e8 : (isProb qL qD qN qE) = true
  ·rw [if_pos e8] at h
   by_cases e9 : pL = qL
   ·rw [if_pos e9] at h
    by_cases e10 : pD = qD
    ·rw [if_pos e10] at h
     by_cases e11 : (pN.length : Int) = (qN.length : Int)
     ·rw [if_pos e11] at h
      by_cases e12 : (pE.length : Int) = (qE.length : Int)
      ·rw [if_pos e12] at h
       obtain ⟨r13_, hl13, h⟩ := bindS h
       try dsimp only at h
       have c13 := i_renamer_search_call pL pD pN pE qL qD qN qE [] hl13
       simp only [lst_nil] at c13
       by_cases e14 : r13_.1 = true
       ·rw [if_pos e14] at h
        cases h
        simp (maxDischargeDepth := 9) only [↓xpre, xpost, xlst, xc2, xcore, yset, ↓reduceIte, Nat.reduceEqDiff, Nat.reduceLT, Nat.reduceLeDiff, Nat.reduceAdd, c3, e4, c7, e8, decide_eq_true e9, decide_eq_true e10, decide_eq_true e11, decide_eq_true e12, c13, e14]
       ·rw [if_neg e14] at h
        have e14f : r13_.1 = false := Bool.eq_false_iff.mpr e14
        cases h
        simp (maxDischargeDepth := 9) only [↓xpre, xpost, xlst, xc2, xcore, yset, ↓reduceIte, Nat.reduceEqDiff, Nat.reduceLT, Nat.reduceLeDiff, Nat.reduceAdd, c3, e4, c7, e8, decide_eq_true e9, decide_eq_true e10, decide_eq_true e11, decide_eq_true e12, c13, e14f] <;> (repeat' apply And.intro) <;> first | rfl | exact ⟨_, rfl⟩ | exact ⟨_, _, rfl⟩ | simp [lst, cat2_nil]
      ·rw [if_neg e12] at h
       cases h
       simp (maxDischargeDepth := 9) only [↓xpre, xpost, xlst, xc2, xcore, yset, ↓reduceIte, Nat.reduceEqDiff, Nat.reduceLT, Nat.reduceAdd, c3, e4, c7, e8, decide_eq_true e9, decide_eq_true e10, decide_eq_true e11, e12] <;> (repeat' apply And.intro) <;> first | rfl | exact ⟨_, rfl⟩ | exact ⟨_, _, rfl⟩ | simp [lst, cat2_nil]
     ·rw [if_neg e11] at h
      cases h
      simp (maxDischargeDepth := 9) only [↓xpre, xpost, xlst, xc2, xcore, yset, ↓reduceIte, Nat.reduceEqDiff, Nat.reduceLT, Nat.reduceAdd, c3, e4, c7, e8, decide_eq_true e9, decide_eq_true e10, e11] <;> (repeat' apply And.intro) <;> first | rfl | exact ⟨_, rfl⟩ | exact ⟨_, _, rfl⟩ | simp [lst, cat2_nil]
    ·rw [if_neg e10] at h
     cases h
     simp (maxDischargeDepth := 9) only [↓xpre, xpost, xc2, xcore, yset, ↓reduceIte, Nat.reduceEqDiff, Nat.reduceLT, Nat.reduceAdd, c3, e4, c7, e8, decide_eq_true e9, e10] <;> (repeat' apply And.intro) <;> first | rfl | exact ⟨_, rfl⟩ | exact ⟨_, _, rfl⟩ | simp [lst, cat2_nil]
   ·rw [if_neg e9] at h
    cases h
    simp (maxDischargeDepth := 9) only [↓xpre, xpost, xc2, xcore, yset, ↓reduceIte, Nat.reduceEqDiff, Nat.reduceLT, Nat.reduceAdd, c3, e4, c7, e8, e9] <;> (repeat' apply And.intro) <;> first | rfl | exact ⟨_, rfl⟩ | exact ⟨_, _, rfl⟩ | simp [lst, cat2_nil]
  ·rw [if_neg e8] at h
   have e8f : (isProb qL qD qN qE) = false := Bool.eq_false_iff.mpr e8
   cases h
   simp (maxDischargeDepth := 9) only [↓xpre, xpost, xc2, xcore, yset, ↓reduceIte, Nat.reduceEqDiff, Nat.reduceLT, Nat.reduceAdd, c3, e4, c7, e8f] <;> (repeat' apply And.intro) <;> first | rfl | exact ⟨_, rfl⟩ | exact ⟨_, _, rfl⟩ | simp [lst, cat2_nil]
 ·rw [if_neg e4] at h
  have e4f : (isProb pL pD pN pE) = false := Bool.eq_false_iff.mpr e4
  cases h
  simp (maxDischargeDepth := 9) only [↓xpre, xpost, xc2, xcore, yset, ↓reduceIte, Nat.reduceEqDiff, Nat.reduceLT, Nat.reduceAdd, c3, e4f] <;> (repeat' apply And.intro) <;> first | rfl | exact ⟨_, rfl⟩ | exact ⟨_, _, rfl⟩ | simp [lst, cat2_nil]

noncomputable def s_prCount_l0_S (l : List (List Int)) (a : Int) (out : List Int) (t14_ n_ t20_ : Int) : Option ((Int × Int) ⊕ (Int)) :=
 if t20_ < ((l.getD t14_.toNat default).length : Int) then
  ck (0 ≤ t20_ ∧ t20_.toNat < (l.getD t14_.toNat default).length) <|
  if a = ((l.getD t14_.toNat default).getD t20_.toNat default) then
   some (Sum.inl (IntKind.i64.wrap (n_ + 1), IntKind.i64.wrap (t20_ + 1)))
  else
   some (Sum.inl (n_, IntKind.i64.wrap (t20_ + 1)))
 else
  some (Sum.inr n_)
noncomputable def s_prCount_l0 (l : List (List Int)) (a : Int) (out : List Int) (t14_ : Int) (v : Int × Int) : Option (Int) := itO (fun v => s_prCount_l0_S l a out t14_ v.1 v.2) v
noncomputable def s_prCount_l1_S (l : List (List Int)) (a : Int) (out : List Int) (t14_ : Int) : Option (((List Int) × Int) ⊕ ((List Int))) :=
 if t14_ < (l.length : Int) then
  ck (0 ≤ t14_ ∧ t14_.toNat < l.length) <|
  (s_prCount_l0 l a out t14_ (0, 0)).bind fun r4_ =>
  ck (0 ≤ r4_ ∧ r4_.toNat < out.length) <|
  some (Sum.inl ((out.set r4_.toNat (IntKind.i64.wrap ((out.getD r4_.toNat default) + 1))), IntKind.i64.wrap (t14_ + 1)))
 else
  some (Sum.inr out)
noncomputable def s_prCount_l1 (l : List (List Int)) (a : Int) (v : (List Int) × Int) : Option ((List Int)) := itO (fun v => s_prCount_l1_S l a v.1 v.2) v
noncomputable def s_prCount (l : List (List Int)) (a : Int) : Option ((List Int)) :=
 (s_prCount_l1 l a ([0, 0, 0, 0, 0], 0)).bind fun r2_ =>
 some r2_
/-- spec.prCount -/
def k111_l0b : SC :=
 .seq
 (.ops [
 ⟨some 21, .binOp .lss 3 (.tmp 20) (.tmp 19) 3, 0, none⟩])
 (.seq
 (.cond (.tmp 21)
 .skip
 (.exit 2))
 (.seq
 (.block 3
 (.seq
 (.ops [
 ⟨some 22, .indexAddr 23 (.tmp 18) (.tmp 20), 0, none⟩,
 ⟨some 23, .load 3 (.tmp 22), 3, none⟩,
 ⟨some 10, .assign (.tmp 23), 3, none⟩])
 (.seq
 (.ops [
 ⟨some 24, .move (.tmp 1), 3, none⟩,
 ⟨some 25, .move (.tmp 10), 3, none⟩,
 ⟨some 26, .binOp .eql 3 (.tmp 24) (.tmp 25) 3, 4, none⟩])
 (.cond (.tmp 26)
 (.ops [
 ⟨some 27, .move (.tmp 8), 3, none⟩,
 ⟨some 28, .binOp .add 3 (.tmp 27) (.const (.int .i64 1)) 3, 3, none⟩,
 ⟨some 8, .assign (.tmp 28), 3, none⟩])
 .skip))))
 (.ops [
 ⟨some 29, .binOp .add 3 (.tmp 20) (.const (.int .i64 1)) 3, 3, none⟩,
 ⟨some 20, .move (.tmp 29), 3, none⟩])))
def k111_l0 : SC := .loop k111_l0b
def k111_l1b : SC :=
 .seq
 (.ops [
 ⟨some 15, .binOp .lss 3 (.tmp 14) (.tmp 13) 3, 0, none⟩])
 (.seq
 (.cond (.tmp 15)
 .skip
 (.exit 0))
 (.seq
 (.block 1
 (.seq
 (.ops [
 ⟨some 16, .indexAddr 44 (.tmp 12) (.tmp 14), 0, none⟩,
 ⟨some 17, .load 23 (.tmp 16), 23, none⟩,
 ⟨some 7, .assign (.tmp 17), 23, none⟩])
 (.seq
 (.ops [
 ⟨some 8, .assign (.const (.int .i64 0)), 3, none⟩])
 (.seq
 (.seq
 (.ops [
 ⟨some 18, .move (.tmp 7), 23, none⟩,
 ⟨some 19, .call ⟨(.builtin .len), #[(.tmp 18)], #[23]⟩, 3, none⟩,
 ⟨some 20, .move (.const (.int .i64 0)), 3, none⟩])
 (.block 2
 k111_l0))
 (.ops [
 ⟨some 30, .move (.tmp 5), 23, none⟩,
 ⟨some 31, .move (.tmp 8), 3, none⟩,
 ⟨some 32, .indexAddr 23 (.tmp 30) (.tmp 31), 0, none⟩,
 ⟨some 33, .load 3 (.tmp 32), 3, none⟩,
 ⟨some 34, .binOp .add 3 (.tmp 33) (.const (.int .i64 1)) 3, 3, none⟩,
 ⟨some 35, .indexAddr 23 (.tmp 30) (.tmp 31), 0, none⟩,
 ⟨none, .store 3 (.tmp 35) (.tmp 34), 0, none⟩])))))
 (.ops [
 ⟨some 36, .binOp .add 3 (.tmp 14) (.const (.int .i64 1)) 3, 3, none⟩,
 ⟨some 14, .move (.tmp 36), 3, none⟩])))
def k111_l1 : SC := .loop k111_l1b
def k111 : SC :=
 .seq
 (.ops [
 ⟨some 4, .assign (.const (.slice none 0 0)), 23, none⟩])
 (.seq
 (.ops [
 ⟨some 11, .makeSlice 23 (.const (.int .i64 5)) (.const (.int .i64 5)), 23, none⟩,
 ⟨some 5, .assign (.tmp 11), 23, none⟩])
 (.seq
 (.seq
 (.ops [
 ⟨some 12, .move (.tmp 0), 44, none⟩,
 ⟨some 13, .call ⟨(.builtin .len), #[(.tmp 12)], #[44]⟩, 3, none⟩,
 ⟨some 14, .move (.const (.int .i64 0)), 3, none⟩])
 (.block 0
 k111_l1))
 (.seq
 (.ops [
 ⟨some 37, .move (.tmp 5), 23, none⟩,
 ⟨some 4, .assign (.tmp 37), 23, none⟩])
 .ret)))
theorem slim111 : Try.f111.body.map (slim lends) = some k111 := by kernel_rfl
theorem ok111 : fnOk Try.f111 2 = true := by kernel_rfl
theorem c111 {a l : List D} {r : D × List D} (h : wpD Y.env k111 (fin tys l.length [ResultVar.tmp 4] r) (entry a l)) (ha : a.length = 2) : Y.call 111 a l = some r :=
 call_slim (Y := Y) rfl Try.func111 (ha ▸ ok111) slim111 h
def s_prCount_l0_M (l : List (List Int)) (a : Int) (out : List Int) (t14_ n_ t20_ : Int) (s : St) : Prop := s.v 1 = D.int .i64 a ∧ s.v 5 = D.own 3 (lst (D.int .i64) out) ∧ s.v 8 = D.int .i64 n_ ∧ s.v 12 = D.sl 23 (lst (fun x => D.sl 3 (lst (D.int .i64) x)) l) ∧ s.v 13 = D.int .i64 (l.length : Int) ∧ s.v 14 = D.int .i64 t14_ ∧ s.v 18 = D.sl 3 (lst (D.int .i64) (l.getD t14_.toNat default)) ∧ s.v 19 = D.int .i64 ((l.getD t14_.toNat default).length : Int) ∧ s.v 20 = D.int .i64 t20_
def s_prCount_l0_X (l : List (List Int)) (a : Int) (out : List Int) (t14_ r : Int) (ex : Ex) (s : St) : Prop := ex = .exit 2 ∧ s.v 1 = D.int .i64 a ∧ s.v 5 = D.own 3 (lst (D.int .i64) out) ∧ s.v 8 = D.int .i64 r ∧ s.v 12 = D.sl 23 (lst (fun x => D.sl 3 (lst (D.int .i64) x)) l) ∧ s.v 13 = D.int .i64 (l.length : Int) ∧ s.v 14 = D.int .i64 t14_
theorem s_prCount_l0_wp (l : List (List Int)) (a : Int) (out : List Int) (t14_ : Int) {v : Int × Int} {s : St} {r : Int} (h : s_prCount_l0 l a out t14_ v = some r) (hM : s_prCount_l0_M l a out t14_ v.1 v.2 s) : wpD Y.env k111_l0 (s_prCount_l0_X l a out t14_ r) s := by
 unfold s_prCount_l0 at h
 refine wd_itO (c := k111_l0b) (fun v => s_prCount_l0_S l a out t14_ v.1 v.2) (fun v s => s_prCount_l0_M l a out t14_ v.1 v.2 s) (s_prCount_l0_X l a out t14_) ?_ h hM
 clear h hM s v r
 intro v s o hM h
 obtain ⟨n_, t20_⟩ := v
 dsimp only at h hM
 unfold s_prCount_l0_S at h
 unfold s_prCount_l0_M at hM
 obtain ⟨m0, m1, m2, m3, m4, m5, m6, m7, m8⟩ := hM
 unfold k111_l0b
 by_cases e3 : t20_ < ((l.getD t14_.toNat default).length : Int)
 ·rw [if_pos e3] at h
  obtain ⟨e4, h⟩ := ckS h
  by_cases e5 : a = ((l.getD t14_.toNat default).getD t20_.toNat default)
  ·rw [if_pos e5] at h
   cases h
   simp (maxDischargeDepth := 9) only [↓xpre, xpost, xlst, xcore, yset, ↓reduceIte, Nat.reduceEqDiff, Nat.reduceLT, m0, m1, m2, m3, m4, m5, m6, m7, m8, e3, e4.1, e4.2, decide_eq_true e5, s_prCount_l0_M, sxN]
  ·rw [if_neg e5] at h
   cases h
   simp (maxDischargeDepth := 9) only [↓xpre, xpost, xlst, xcore, yset, ↓reduceIte, Nat.reduceEqDiff, Nat.reduceLT, m0, m1, m2, m3, m4, m5, m6, m7, m8, e3, e4.1, e4.2, e5, s_prCount_l0_M, sxN]
 ·rw [if_neg e3] at h
  cases h
  simp (maxDischargeDepth := 9) only [↓xpre, xpost, yset, ↓reduceIte, Nat.reduceEqDiff, Nat.reduceLT, m0, m1, m2, m3, m4, m5, m7, m8, e3, s_prCount_l0_M, s_prCount_l0_X, sxE]
def s_prCount_l1_M (l : List (List Int)) (a : Int) (out : List Int) (t14_ : Int) (s : St) : Prop := s.v 1 = D.int .i64 a ∧ s.v 5 = D.own 3 (lst (D.int .i64) out) ∧ s.v 12 = D.sl 23 (lst (fun x => D.sl 3 (lst (D.int .i64) x)) l) ∧ s.v 13 = D.int .i64 (l.length : Int) ∧ s.v 14 = D.int .i64 t14_
def s_prCount_l1_X (l : List (List Int)) (a : Int) (r : (List Int)) (ex : Ex) (s : St) : Prop := ex = .exit 0 ∧ s.v 5 = D.own 3 (lst (D.int .i64) r)
theorem s_prCount_l1_wp (l : List (List Int)) (a : Int) {v : (List Int) × Int} {s : St} {r : (List Int)} (h : s_prCount_l1 l a v = some r) (hM : s_prCount_l1_M l a v.1 v.2 s) : wpD Y.env k111_l1 (s_prCount_l1_X l a r) s := by
 unfold s_prCount_l1 at h
 refine wd_itO (c := k111_l1b) (fun v => s_prCount_l1_S l a v.1 v.2) (fun v s => s_prCount_l1_M l a v.1 v.2 s) (s_prCount_l1_X l a) ?_ h hM
 clear h hM s v r
 intro v s o hM h
 obtain ⟨out, t14_⟩ := v
 dsimp only at h hM
 unfold s_prCount_l1_S at h
 unfold s_prCount_l1_M at hM
 obtain ⟨m0, m1, m2, m3, m4⟩ := hM
 unfold k111_l1b
 by_cases e1 : t14_ < (l.length : Int)
 ·rw [if_pos e1] at h
  obtain ⟨e2, h⟩ := ckS h
  obtain ⟨r4_, hl4, h⟩ := bindS h
  try dsimp only at h
  simp (maxDischargeDepth := 9) only [↓xpre, xpost, xlst, xcore, yset, ↓reduceIte, Nat.reduceEqDiff, Nat.reduceLT, m2, m3, m4, e1, e2.1, e2.2]
  refine wd_mono (s_prCount_l0_wp l a out t14_ hl4 ?_) ?_
  ·simp (maxDischargeDepth := 9) only [xpost, ↓reduceIte, Nat.reduceEqDiff, m0, m1, m2, m3, m4, s_prCount_l0_M]
  ·intro ex4 s4 hX4
   unfold s_prCount_l0_X at hX4
   obtain ⟨rfl, n4_0, n4_1, n4_2, n4_3, n4_4, n4_5⟩ := hX4
   obtain ⟨e5, h⟩ := ckS h
   cases h
   simp (maxDischargeDepth := 9) only [↓xpre, xpost, xlst, xcore, yset, ↓reduceIte, Nat.reduceEqDiff, Nat.reduceLT, n4_0, n4_1, n4_2, n4_3, n4_4, n4_5, e5.1, e5.2, s_prCount_l1_M, sxN]
 ·rw [if_neg e1] at h
  cases h
  simp (maxDischargeDepth := 9) only [↓xpre, xpost, yset, ↓reduceIte, Nat.reduceEqDiff, Nat.reduceLT, m1, m3, m4, e1, s_prCount_l1_M, s_prCount_l1_X, sxE]
theorem s_prCount_call (l : List (List Int)) (a : Int) {r : (List Int)} (h : s_prCount l a = some r) : Y.call 111 [D.sl 23 (lst (fun x => D.sl 3 (lst (D.int .i64) x)) l), D.int .i64 a] [] = some (D.own 3 (lst (D.int .i64) r), []) := by
 refine c111 ?_ rfl
 unfold k111
 unfold s_prCount at h
 obtain ⟨r2_, hl2, h⟩ := bindS h
 try dsimp only at h
 simp (maxDischargeDepth := 9) only [↓xpre, xpost, xlst, xcore, yset, ↓reduceIte, Nat.reduceEqDiff, Nat.reduceLT, Nat.reduceLeDiff, Int.reduceLE, Int.reduceLT, Int.reduceToNat]
 refine wd_mono (s_prCount_l1_wp l a hl2 ?_) ?_
 ·simp (maxDischargeDepth := 9) only [xpost, xcore, ↓reduceIte, Nat.reduceEqDiff, Nat.reduceLT, s_prCount_l1_M] <;> (repeat' apply And.intro) <;> first | rfl | exact ⟨_, rfl⟩ | exact ⟨_, _, rfl⟩ | simp [lst, cat2_nil]
 ·intro ex2 s2 hX2
  unfold s_prCount_l1_X at hX2
  obtain ⟨rfl, n2_0⟩ := hX2
  cases h
  simp (maxDischargeDepth := 9) only [↓xpre, xpost, xlst, xcore, ↓reduceIte, Nat.reduceEqDiff, Nat.reduceLT, n2_0]

noncomputable def s_coThrough_l0_S (l at_ out : List Int) (t10_ : Int) : Option (((List Int) × Int) ⊕ ((List Int))) :=
 if t10_ < (at_.length : Int) then
  ck (0 ≤ t10_ ∧ t10_.toNat < at_.length) <|
  ck (0 ≤ (at_.getD t10_.toNat default) ∧ (at_.getD t10_.toNat default).toNat < l.length) <|
  ck (out.length + 1 < 1099511627776) <|
  some (Sum.inl ((out ++ [(l.getD ((at_.getD t10_.toNat default).toNat) default)]), IntKind.i64.wrap (t10_ + 1)))
 else
  some (Sum.inr out)
noncomputable def s_coThrough_l0 (l at_ : List Int) (v : (List Int) × Int) : Option ((List Int)) := itO (fun v => s_coThrough_l0_S l at_ v.1 v.2) v
noncomputable def s_coThrough (l at_ : List Int) : Option ((List Int)) :=
 (s_coThrough_l0 l at_ ([], 0)).bind fun r2_ =>
 some r2_
/-- spec.coThrough -/
def k141_l0b : SC :=
 .seq
 (.ops [
 ⟨some 11, .binOp .lss 3 (.tmp 10) (.tmp 9) 3, 0, none⟩])
 (.seq
 (.cond (.tmp 11)
 .skip
 (.exit 0))
 (.seq
 (.block 1
 (.seq
 (.ops [
 ⟨some 12, .indexAddr 23 (.tmp 8) (.tmp 10), 0, none⟩,
 ⟨some 13, .load 3 (.tmp 12), 3, none⟩,
 ⟨some 7, .assign (.tmp 13), 3, none⟩])
 (.ops [
 ⟨some 14, .move (.tmp 5), 23, none⟩,
 ⟨some 15, .move (.tmp 0), 23, none⟩,
 ⟨some 16, .move (.tmp 7), 3, none⟩,
 ⟨some 17, .indexAddr 23 (.tmp 15) (.tmp 16), 0, none⟩,
 ⟨some 18, .load 3 (.tmp 17), 3, none⟩,
 ⟨some 19, .buildSlice 23 1 #[(0, (.tmp 18))], 23, none⟩,
 ⟨some 20, .call ⟨(.builtin .append), #[(.tmp 14), (.tmp 19)], #[23, 23]⟩, 23, none⟩,
 ⟨some 5, .assign (.tmp 20), 23, none⟩])))
 (.ops [
 ⟨some 21, .binOp .add 3 (.tmp 10) (.const (.int .i64 1)) 3, 3, none⟩,
 ⟨some 10, .move (.tmp 21), 3, none⟩])))
def k141_l0 : SC := .loop k141_l0b
def k141 : SC :=
 .seq
 (.ops [
 ⟨some 4, .assign (.const (.slice none 0 0)), 23, none⟩])
 (.seq
 (.ops [
 ⟨some 5, .assign (.const (.slice none 0 0)), 23, none⟩])
 (.seq
 (.seq
 (.ops [
 ⟨some 8, .move (.tmp 1), 23, none⟩,
 ⟨some 9, .call ⟨(.builtin .len), #[(.tmp 8)], #[23]⟩, 3, none⟩,
 ⟨some 10, .move (.const (.int .i64 0)), 3, none⟩])
 (.block 0
 k141_l0))
 (.seq
 (.ops [
 ⟨some 22, .move (.tmp 5), 23, none⟩,
 ⟨some 4, .assign (.tmp 22), 23, none⟩])
 .ret)))
theorem slim141 : Try.f141.body.map (slim lends) = some k141 := by kernel_rfl
theorem ok141 : fnOk Try.f141 2 = true := by kernel_rfl
theorem c141 {a l : List D} {r : D × List D} (h : wpD Y.env k141 (fin tys l.length [ResultVar.tmp 4] r) (entry a l)) (ha : a.length = 2) : Y.call 141 a l = some r :=
 call_slim (Y := Y) rfl Try.func141 (ha ▸ ok141) slim141 h
def s_coThrough_l0_M (l at_ out : List Int) (t10_ : Int) (s : St) : Prop := s.v 0 = D.sl 3 (lst (D.int .i64) l) ∧ s.v 5 = D.own 3 (lst (D.int .i64) out) ∧ s.v 8 = D.sl 3 (lst (D.int .i64) at_) ∧ s.v 9 = D.int .i64 (at_.length : Int) ∧ s.v 10 = D.int .i64 t10_
def s_coThrough_l0_X (l at_ : List Int) (r : (List Int)) (ex : Ex) (s : St) : Prop := ex = .exit 0 ∧ s.v 5 = D.own 3 (lst (D.int .i64) r)
theorem s_coThrough_l0_wp (l at_ : List Int) {v : (List Int) × Int} {s : St} {r : (List Int)} (h : s_coThrough_l0 l at_ v = some r) (hM : s_coThrough_l0_M l at_ v.1 v.2 s) : wpD Y.env k141_l0 (s_coThrough_l0_X l at_ r) s := by
 unfold s_coThrough_l0 at h
 refine wd_itO (c := k141_l0b) (fun v => s_coThrough_l0_S l at_ v.1 v.2) (fun v s => s_coThrough_l0_M l at_ v.1 v.2 s) (s_coThrough_l0_X l at_) ?_ h hM
 clear h hM s v r
 intro v s o hM h
 obtain ⟨out, t10_⟩ := v
 dsimp only at h hM
 unfold s_coThrough_l0_S at h
 unfold s_coThrough_l0_M at hM
 obtain ⟨m0, m1, m2, m3, m4⟩ := hM
 unfold k141_l0b
 by_cases e1 : t10_ < (at_.length : Int)
 ·rw [if_pos e1] at h
  obtain ⟨e2, h⟩ := ckS h
  obtain ⟨e3, h⟩ := ckS h
  obtain ⟨e4, h⟩ := ckS h
  cases h
  simp (maxDischargeDepth := 9) only [↓xpre, xpost, xlst, xcore, yset, ↓reduceIte, Nat.reduceEqDiff, Nat.reduceLT, Nat.reduceLeDiff, Nat.reduceAdd, m0, m1, m2, m3, m4, e1, e2.1, e2.2, e3.1, e3.2, e4, s_coThrough_l0_M, sxN]
 ·rw [if_neg e1] at h
  cases h
  simp (maxDischargeDepth := 9) only [↓xpre, xpost, yset, ↓reduceIte, Nat.reduceEqDiff, Nat.reduceLT, m1, m3, m4, e1, s_coThrough_l0_M, s_coThrough_l0_X, sxE]
theorem s_coThrough_call (l at_ : List Int) {r : (List Int)} (h : s_coThrough l at_ = some r) : Y.call 141 [D.sl 3 (lst (D.int .i64) l), D.sl 3 (lst (D.int .i64) at_)] [] = some (D.own 3 (lst (D.int .i64) r), []) := by
 refine c141 ?_ rfl
 unfold k141
 unfold s_coThrough at h
 obtain ⟨r2_, hl2, h⟩ := bindS h
 try dsimp only at h
 simp (maxDischargeDepth := 9) only [↓xpre, xpost, xlst, xcore, yset, ↓reduceIte, Nat.reduceEqDiff, Nat.reduceLT]
 refine wd_mono (s_coThrough_l0_wp l at_ hl2 ?_) ?_
 ·simp (maxDischargeDepth := 9) only [xpost, xcore, ↓reduceIte, Nat.reduceEqDiff, Nat.reduceLT, s_coThrough_l0_M] <;> (repeat' apply And.intro) <;> first | rfl | exact ⟨_, rfl⟩ | exact ⟨_, _, rfl⟩ | simp [lst, cat2_nil]
 ·intro ex2 s2 hX2
  unfold s_coThrough_l0_X at hX2
  obtain ⟨rfl, n2_0⟩ := hX2
  cases h
  simp (maxDischargeDepth := 9) only [↓xpre, xpost, xlst, xcore, ↓reduceIte, Nat.reduceEqDiff, Nat.reduceLT, n2_0]

noncomputable def s_prKept_l0_S (l m_ : List (List Int)) (perm : List Int) (t15_ : Int) : Option ((Int) ⊕ (Unit ⊕ Unit)) :=
 if t15_ < (l.length : Int) then
  ck (0 ≤ t15_ ∧ t15_.toNat < l.length) <|
  ck (0 ≤ IntKind.i64.wrap (((l.getD t15_.toNat default).length : Int) - 1) ∧ (IntKind.i64.wrap (((l.getD t15_.toNat default).length : Int) - 1)).toNat < (l.getD t15_.toNat default).length) <|
  if ((l.getD t15_.toNat default).getD ((IntKind.i64.wrap (((l.getD t15_.toNat default).length : Int) - 1)).toNat) default) = (IntKind.i64.wrap ((perm.length : Int) - 1)) then
   (s_coThrough perm (l.getD t15_.toNat default)).bind fun r5_ =>
   ck (r5_.length < 1099511627776) <|
   ck (m_.length < 1099511627776) <|
   ck ((sortI r5_).length < 1099511627776) <|
   if (m_.contains (sortI r5_)) = true then
    some (Sum.inl (IntKind.i64.wrap (t15_ + 1)))
   else
    some (Sum.inr (Sum.inl ()))
  else
   some (Sum.inl (IntKind.i64.wrap (t15_ + 1)))
 else
  some (Sum.inr (Sum.inr ()))
noncomputable def s_prKept_l0 (l m_ : List (List Int)) (perm : List Int) (v : Int) : Option (Unit ⊕ Unit) := itO (fun v => s_prKept_l0_S l m_ perm v) v
noncomputable def s_prKept (l m_ : List (List Int)) (perm : List Int) : Option (Bool) :=
 (s_prKept_l0 l m_ perm 0).bind fun r2_ =>
 match r2_ with
 | .inl q2_ =>
  some false
 | .inr q2_ =>
  some true
/-- spec.prKept -/
def k112_l0b : SC :=
 .seq
 (.ops [
 ⟨some 16, .binOp .lss 3 (.tmp 15) (.tmp 14) 3, 0, none⟩])
 (.seq
 (.cond (.tmp 16)
 .skip
 (.exit 0))
 (.seq
 (.block 1
 (.seq
 (.ops [
 ⟨some 17, .indexAddr 44 (.tmp 13) (.tmp 15), 0, none⟩,
 ⟨some 18, .load 23 (.tmp 17), 23, none⟩,
 ⟨some 9, .assign (.tmp 18), 23, none⟩])
 (.seq
 (.ops [
 ⟨some 19, .move (.tmp 9), 23, none⟩,
 ⟨some 20, .move (.tmp 9), 23, none⟩,
 ⟨some 21, .call ⟨(.builtin .len), #[(.tmp 20)], #[23]⟩, 3, none⟩,
 ⟨some 22, .binOp .sub 3 (.tmp 21) (.const (.int .i64 1)) 3, 3, none⟩,
 ⟨some 23, .indexAddr 23 (.tmp 19) (.tmp 22), 0, none⟩,
 ⟨some 24, .load 3 (.tmp 23), 3, none⟩,
 ⟨some 25, .move (.tmp 7), 3, none⟩,
 ⟨some 26, .binOp .eql 3 (.tmp 24) (.tmp 25) 3, 4, none⟩,
 ⟨some 27, .move (.tmp 26), 4, none⟩,
 ⟨some 28, .move (.tmp 1), 44, (some (some 27, true))⟩,
 ⟨some 29, .move (.tmp 2), 23, (some (some 27, true))⟩,
 ⟨some 30, .move (.tmp 9), 23, (some (some 27, true))⟩,
 ⟨some 31, .call ⟨(.value (.func 141)), #[(.tmp 29), (.tmp 30)], #[23, 23]⟩, 23, (some (some 27, true))⟩,
 ⟨some 32, .call ⟨(.value (.func 140)), #[(.tmp 31)], #[23]⟩, 23, (some (some 27, true))⟩,
 ⟨some 33, .call ⟨(.value (.func 139)), #[(.tmp 28), (.tmp 32)], #[44, 23]⟩, 4, (some (some 27, true))⟩,
 ⟨some 34, .unOp .not 4 (.tmp 33), 4, (some (some 27, true))⟩,
 ⟨some 35, .pick (.tmp 27) (.tmp 34) (.const (.bool false)), 4, none⟩])
 (.cond (.tmp 35)
 (.seq
 (.ops [
 ⟨some 6, .assign (.const (.bool false)), 4, none⟩])
 .ret)
 .skip))))
 (.ops [
 ⟨some 36, .binOp .add 3 (.tmp 15) (.const (.int .i64 1)) 3, 3, none⟩,
 ⟨some 15, .move (.tmp 36), 3, none⟩])))
def k112_l0 : SC := .loop k112_l0b
def k112 : SC :=
 .seq
 (.ops [
 ⟨some 6, .assign (.const (.bool false)), 4, none⟩])
 (.seq
 (.ops [
 ⟨some 10, .move (.tmp 2), 23, none⟩,
 ⟨some 11, .call ⟨(.builtin .len), #[(.tmp 10)], #[23]⟩, 3, none⟩,
 ⟨some 12, .binOp .sub 3 (.tmp 11) (.const (.int .i64 1)) 3, 3, none⟩,
 ⟨some 7, .assign (.tmp 12), 3, none⟩])
 (.seq
 (.seq
 (.ops [
 ⟨some 13, .move (.tmp 0), 44, none⟩,
 ⟨some 14, .call ⟨(.builtin .len), #[(.tmp 13)], #[44]⟩, 3, none⟩,
 ⟨some 15, .move (.const (.int .i64 0)), 3, none⟩])
 (.block 0
 k112_l0))
 (.seq
 (.ops [
 ⟨some 6, .assign (.const (.bool true)), 4, none⟩])
 .ret)))
theorem slim112 : Try.f112.body.map (slim lends) = some k112 := by kernel_rfl
theorem ok112 : fnOk Try.f112 3 = true := by kernel_rfl
theorem c112 {a l : List D} {r : D × List D} (h : wpD Y.env k112 (fin tys l.length [ResultVar.tmp 6] r) (entry a l)) (ha : a.length = 3) : Y.call 112 a l = some r :=
 call_slim (Y := Y) rfl Try.func112 (ha ▸ ok112) slim112 h
def s_prKept_l0_M (l m_ : List (List Int)) (perm : List Int) (t15_ : Int) (s : St) : Prop := s.v 1 = D.sl 23 (lst (fun x => D.sl 3 (lst (D.int .i64) x)) m_) ∧ s.v 2 = D.sl 3 (lst (D.int .i64) perm) ∧ s.v 7 = D.int .i64 (IntKind.i64.wrap ((perm.length : Int) - 1)) ∧ s.v 13 = D.sl 23 (lst (fun x => D.sl 3 (lst (D.int .i64) x)) l) ∧ s.v 14 = D.int .i64 (l.length : Int) ∧ s.v 15 = D.int .i64 t15_
def s_prKept_l0_X (l m_ : List (List Int)) (perm : List Int) (r : Unit ⊕ Unit) (ex : Ex) (s : St) : Prop := match r with
 | .inl q => ex = .ret ∧ s.v 6 = D.bool false
 | .inr q => ex = .exit 0
theorem s_prKept_l0_wp (l m_ : List (List Int)) (perm : List Int) {v : Int} {s : St} {r : Unit ⊕ Unit} (h : s_prKept_l0 l m_ perm v = some r) (hM : s_prKept_l0_M l m_ perm v s) : wpD Y.env k112_l0 (s_prKept_l0_X l m_ perm r) s := by
 unfold s_prKept_l0 at h
 refine wd_itO (c := k112_l0b) (fun v => s_prKept_l0_S l m_ perm v) (fun v s => s_prKept_l0_M l m_ perm v s) (s_prKept_l0_X l m_ perm) ?_ h hM
 clear h hM s v r
 intro t15_ s o hM h
 unfold s_prKept_l0_S at h
 unfold s_prKept_l0_M at hM
 obtain ⟨m0, m1, m2, m3, m4, m5⟩ := hM
 unfold k112_l0b
 by_cases e1 : t15_ < (l.length : Int)
 ·rw [if_pos e1] at h
  obtain ⟨e2, h⟩ := ckS h
  obtain ⟨e3, h⟩ := ckS h
  by_cases e4 : ((l.getD t15_.toNat default).getD ((IntKind.i64.wrap (((l.getD t15_.toNat default).length : Int) - 1)).toNat) default) = (IntKind.i64.wrap ((perm.length : Int) - 1))
  ·rw [if_pos e4] at h
   obtain ⟨r5_, hl5, h⟩ := bindS h
   try dsimp only at h
   have c5 := s_coThrough_call perm (l.getD t15_.toNat default) hl5
   obtain ⟨e6, h⟩ := ckS h
   have c7 := sPS_cl r5_ e6
   obtain ⟨e8, h⟩ := ckS h
   obtain ⟨e9, h⟩ := ckS h
   have c10 := s_prHas_cl m_ (sortI r5_) e8 e9
   by_cases e11 : (m_.contains (sortI r5_)) = true
   ·rw [if_pos e11] at h
    cases h
    simp (maxDischargeDepth := 9) only [↓xpre, xpost, xlst, xc2, xcore, yset, ↓reduceIte, Nat.reduceEqDiff, Nat.reduceLT, Nat.reduceAdd, m0, m1, m2, m3, m4, m5, e1, e2.1, e2.2, e3.1, e3.2, decide_eq_true e4, c5, c7, c10, e11, s_prKept_l0_M, sxN]
   ·rw [if_neg e11] at h
    have e11f : (m_.contains (sortI r5_)) = false := Bool.eq_false_iff.mpr e11
    cases h
    simp (maxDischargeDepth := 9) only [↓xpre, xpost, xlst, xc2, xcore, yset, ↓reduceIte, Nat.reduceEqDiff, Nat.reduceLT, Nat.reduceAdd, m0, m1, m2, m3, m4, m5, e1, e2.1, e2.2, e3.1, e3.2, decide_eq_true e4, c5, c7, c10, e11f, s_prKept_l0_M, s_prKept_l0_X, sxR]
  ·rw [if_neg e4] at h
   cases h
   simp (maxDischargeDepth := 9) only [↓xpre, xpost, xlst, xcore, yset, ↓reduceIte, Nat.reduceEqDiff, Nat.reduceLT, m0, m1, m2, m3, m4, m5, e1, e2.1, e2.2, e3.1, e3.2, e4, s_prKept_l0_M, sxN]
 ·rw [if_neg e1] at h
  cases h
  simp (maxDischargeDepth := 9) only [↓xpre, xpost, yset, ↓reduceIte, Nat.reduceLT, m4, m5, e1, s_prKept_l0_M, s_prKept_l0_X, sxE]
theorem s_prKept_call (l m_ : List (List Int)) (perm : List Int) {r : Bool} (h : s_prKept l m_ perm = some r) : Y.call 112 [D.sl 23 (lst (fun x => D.sl 3 (lst (D.int .i64) x)) l), D.sl 23 (lst (fun x => D.sl 3 (lst (D.int .i64) x)) m_), D.sl 3 (lst (D.int .i64) perm)] [] = some (D.bool r, []) := by
 refine c112 ?_ rfl
 unfold k112
 unfold s_prKept at h
 obtain ⟨r2_, hl2, h⟩ := bindS h
 try dsimp only at h
 simp (maxDischargeDepth := 9) only [↓xpre, xpost, xlst, xcore, yset, ↓reduceIte, Nat.reduceEqDiff, Nat.reduceLT]
 refine wd_mono (s_prKept_l0_wp l m_ perm hl2 ?_) ?_
 ·simp (maxDischargeDepth := 9) only [xpost, xcore, ↓reduceIte, Nat.reduceEqDiff, Nat.reduceLT, s_prKept_l0_M]
 ·intro ex2 s2 hX2
  rcases r2_ with q2_ | q2_
  ·unfold s_prKept_l0_X at hX2
   dsimp only at hX2 h
   obtain ⟨rfl, n2_0⟩ := hX2
   cases h
   simp (maxDischargeDepth := 9) only [↓xpre, xpost, xcore, ↓reduceIte, n2_0]
  ·unfold s_prKept_l0_X at hX2
   dsimp only at hX2 h
   obtain rfl := hX2
   cases h
   simp (maxDischargeDepth := 9) only [↓xpre, xpost, xcore, yset, ↓reduceIte, Nat.reduceEqDiff, Nat.reduceLT]

noncomputable def s_prFinder_grow_l0_S (rec_ : Int → Int → (List (List Int)) → (List (List Int)) → Int → Int → (List (List Int)) → (List (List Int)) → (List Int) → Option (((List Int) × Bool) ⊕ ((List Int) × Bool))) (t0_p t0_q : Int) (t0_2 t0_3 : List (List Int)) (t0_4 t0_5 : Int) (t0_6 t0_7 : List (List Int)) (t1_ : List Int) (t7_ : Int) : Option ((Int) ⊕ (((List Int)) ⊕ (((List Int)) ⊕ Unit))) :=
 if t7_ < t0_4 then
  ck (t1_.length < 1099511627776) <|
  if (t1_.contains t7_) = true then
   some (Sum.inl (IntKind.i64.wrap (t7_ + 1)))
  else
   (s_prCount t0_2 (t1_.length : Int)).bind fun r6_ =>
   (s_prCount t0_6 t7_).bind fun r7_ =>
   (s_l1Same r6_ r7_).bind fun r8_ =>
   if r8_ = true then
    (s_prCount t0_3 (t1_.length : Int)).bind fun r10_ =>
    (s_prCount t0_7 t7_).bind fun r11_ =>
    (s_l1Same r10_ r11_).bind fun r12_ =>
    if r12_ = true then
     (s_l1Own t1_).bind fun r14_ =>
     ck (r14_.length + 1 < 1099511627776) <|
     (s_prKept t0_3 t0_7 (r14_ ++ [t7_])).bind fun r16_ =>
     if r16_ = true then
      (s_prKept t0_2 t0_6 (r14_ ++ [t7_])).bind fun r18_ =>
      if r18_ = true then
       (rec_ t0_p t0_q t0_2 t0_3 t0_4 t0_5 t0_6 t0_7 (r14_ ++ [t7_])).bind fun r20_ =>
       match r20_ with
       | .inl q20_ =>
        if q20_.2 = true then
         some (Sum.inr (Sum.inl q20_.1))
        else
         some (Sum.inl (IntKind.i64.wrap (t7_ + 1)))
       | .inr q20_ =>
        if q20_.2 = true then
         some (Sum.inr (Sum.inr (Sum.inl q20_.1)))
        else
         some (Sum.inl (IntKind.i64.wrap (t7_ + 1)))
      else
       some (Sum.inl (IntKind.i64.wrap (t7_ + 1)))
     else
      some (Sum.inl (IntKind.i64.wrap (t7_ + 1)))
    else
     some (Sum.inl (IntKind.i64.wrap (t7_ + 1)))
   else
    some (Sum.inl (IntKind.i64.wrap (t7_ + 1)))
 else
  some (Sum.inr (Sum.inr (Sum.inr ())))
noncomputable def s_prFinder_grow_l0 (rec_ : Int → Int → (List (List Int)) → (List (List Int)) → Int → Int → (List (List Int)) → (List (List Int)) → (List Int) → Option (((List Int) × Bool) ⊕ ((List Int) × Bool))) (t0_p t0_q : Int) (t0_2 t0_3 : List (List Int)) (t0_4 t0_5 : Int) (t0_6 t0_7 : List (List Int)) (t1_ : List Int) (v : Int) : Option (((List Int)) ⊕ (((List Int)) ⊕ Unit)) := itO (fun v => s_prFinder_grow_l0_S rec_ t0_p t0_q t0_2 t0_3 t0_4 t0_5 t0_6 t0_7 t1_ v) v
noncomputable def s_prFinder_grow_R (rec_ : Int → Int → (List (List Int)) → (List (List Int)) → Int → Int → (List (List Int)) → (List (List Int)) → (List Int) → Option (((List Int) × Bool) ⊕ ((List Int) × Bool))) (t0_p t0_q : Int) (t0_2 t0_3 : List (List Int)) (t0_4 t0_5 : Int) (t0_6 t0_7 : List (List Int)) (t1_ : List Int) : Option (((List Int) × Bool) ⊕ ((List Int) × Bool)) :=
 if (t1_.length : Int) = t0_p then
  some (Sum.inl (t1_, true))
 else
  (s_prFinder_grow_l0 rec_ t0_p t0_q t0_2 t0_3 t0_4 t0_5 t0_6 t0_7 t1_ 0).bind fun r3_ =>
  match r3_ with
  | .inl q3_ =>
   some (Sum.inl (q3_, true))
  | .inr (.inl q3_) =>
   some (Sum.inr (q3_, true))
  | .inr (.inr q3_) =>
   some (Sum.inr ([], false))
/-- So many calls deep at most. -/
noncomputable def s_prFinder_grow_N : Nat → Int → Int → (List (List Int)) → (List (List Int)) → Int → Int → (List (List Int)) → (List (List Int)) → (List Int) → Option (((List Int) × Bool) ⊕ ((List Int) × Bool))
 | 0 => fun _ _ _ _ _ _ _ _ _ => none
 | n + 1 => fun t0_p t0_q t0_2 t0_3 t0_4 t0_5 t0_6 t0_7 t1_ => s_prFinder_grow_R (s_prFinder_grow_N n) t0_p t0_q t0_2 t0_3 t0_4 t0_5 t0_6 t0_7 t1_
noncomputable def s_prFinder_grow (t0_p t0_q : Int) (t0_2 t0_3 : List (List Int)) (t0_4 t0_5 : Int) (t0_6 t0_7 : List (List Int)) (t1_ : List Int) : Option (((List Int) × Bool) ⊕ ((List Int) × Bool)) := s_prFinder_grow_N 1000000 t0_p t0_q t0_2 t0_3 t0_4 t0_5 t0_6 t0_7 t1_
/-- spec.prFinder).grow -/
def k58_l0b : SC :=
 .seq
 (.seq
 (.ops [
 ⟨some 19, .move (.tmp 7), 3, none⟩,
 ⟨some 20, .fieldAddr 84 (.tmp 2) 1, 0, none⟩,
 ⟨some 21, .fieldAddr 50 (.tmp 20) 0, 0, none⟩,
 ⟨some 22, .load 3 (.tmp 21), 3, none⟩,
 ⟨some 23, .binOp .lss 3 (.tmp 19) (.tmp 22) 3, 4, none⟩])
 (.cond (.tmp 23)
 .skip
 (.exit 0)))
 (.seq
 (.block 1
 (.seq
 (.seq
 (.draws [
 (⟨[26, 1, 1], [26, 27, 28, 29, 28, 30, 31, 32, 33, 34, 35, 36, 37, 38, 39, 40, 41, 42, 43, 44, 45, 46, 47, 48, 49, 50, 51, 52, 53, 54, 55, 56], [26]⟩, ⟨some 26, .move (.tmp 1), 23, none⟩),
 (⟨[27, 7, 7], [26, 27, 28, 29, 28, 30, 31, 32, 33, 34, 35, 36, 37, 38, 39, 40, 41, 42, 43, 44, 45, 46, 47, 48, 49, 50, 51, 52, 53, 54, 55, 56], [27]⟩, ⟨some 27, .move (.tmp 7), 3, none⟩),
 (⟨[28, 26, 27, 1, 7], [26, 27, 28, 29, 28, 30, 31, 32, 33, 34, 35, 36, 37, 38, 39, 40, 41, 42, 43, 44, 45, 46, 47, 48, 49, 50, 51, 52, 53, 54, 55, 56], [28]⟩, ⟨some 28, .call ⟨(.value (.func 92)), #[(.tmp 26), (.tmp 27)], #[23, 3]⟩, 4, none⟩),
 (⟨[29, 28, 28], [26, 27, 28, 29, 28, 30, 31, 32, 33, 34, 35, 36, 37, 38, 39, 40, 41, 42, 43, 44, 45, 46, 47, 48, 49, 50, 51, 52, 53, 54, 55, 56], [29, 28]⟩, ⟨some 29, .move (.tmp 28), 4, none⟩),
 (⟨[30, 2, 2, 29], [26, 27, 28, 29, 28, 30, 31, 32, 33, 34, 35, 36, 37, 38, 39, 40, 41, 42, 43, 44, 45, 46, 47, 48, 49, 50, 51, 52, 53, 54, 55, 56], [30]⟩, ⟨some 30, .fieldAddr 84 (.tmp 2) 0, 0, (some (some 29, false))⟩),
 (⟨[31, 30, 2, 29], [26, 27, 28, 29, 28, 30, 31, 32, 33, 34, 35, 36, 37, 38, 39, 40, 41, 42, 43, 44, 45, 46, 47, 48, 49, 50, 51, 52, 53, 54, 55, 56], [31]⟩, ⟨some 31, .fieldAddr 50 (.tmp 30) 2, 0, (some (some 29, false))⟩),
 (⟨[32, 31, 2, 29], [26, 27, 28, 29, 28, 30, 31, 32, 33, 34, 35, 36, 37, 38, 39, 40, 41, 42, 43, 44, 45, 46, 47, 48, 49, 50, 51, 52, 53, 54, 55, 56], [32]⟩, ⟨some 32, .load 44 (.tmp 31), 44, (some (some 29, false))⟩),
 (⟨[33, 6, 6, 29], [26, 27, 28, 29, 28, 30, 31, 32, 33, 34, 35, 36, 37, 38, 39, 40, 41, 42, 43, 44, 45, 46, 47, 48, 49, 50, 51, 52, 53, 54, 55, 56], [33]⟩, ⟨some 33, .move (.tmp 6), 3, (some (some 29, false))⟩),
 (⟨[34, 32, 33, 2, 6, 29], [26, 27, 28, 29, 28, 30, 31, 32, 33, 34, 35, 36, 37, 38, 39, 40, 41, 42, 43, 44, 45, 46, 47, 48, 49, 50, 51, 52, 53, 54, 55, 56], [34]⟩, ⟨some 34, .call ⟨(.value (.func 111)), #[(.tmp 32), (.tmp 33)], #[44, 3]⟩, 23, (some (some 29, false))⟩),
 (⟨[35, 2, 2, 29], [26, 27, 28, 29, 28, 30, 31, 32, 33, 34, 35, 36, 37, 38, 39, 40, 41, 42, 43, 44, 45, 46, 47, 48, 49, 50, 51, 52, 53, 54, 55, 56], [35]⟩, ⟨some 35, .fieldAddr 84 (.tmp 2) 1, 0, (some (some 29, false))⟩),
 (⟨[36, 35, 2, 29], [26, 27, 28, 29, 28, 30, 31, 32, 33, 34, 35, 36, 37, 38, 39, 40, 41, 42, 43, 44, 45, 46, 47, 48, 49, 50, 51, 52, 53, 54, 55, 56], [36]⟩, ⟨some 36, .fieldAddr 50 (.tmp 35) 2, 0, (some (some 29, false))⟩),
 (⟨[37, 36, 2, 29], [26, 27, 28, 29, 28, 30, 31, 32, 33, 34, 35, 36, 37, 38, 39, 40, 41, 42, 43, 44, 45, 46, 47, 48, 49, 50, 51, 52, 53, 54, 55, 56], [37]⟩, ⟨some 37, .load 44 (.tmp 36), 44, (some (some 29, false))⟩),
 (⟨[38, 7, 7, 29], [26, 27, 28, 29, 28, 30, 31, 32, 33, 34, 35, 36, 37, 38, 39, 40, 41, 42, 43, 44, 45, 46, 47, 48, 49, 50, 51, 52, 53, 54, 55, 56], [38]⟩, ⟨some 38, .move (.tmp 7), 3, (some (some 29, false))⟩),
 (⟨[39, 37, 38, 2, 7, 29], [26, 27, 28, 29, 28, 30, 31, 32, 33, 34, 35, 36, 37, 38, 39, 40, 41, 42, 43, 44, 45, 46, 47, 48, 49, 50, 51, 52, 53, 54, 55, 56], [39]⟩, ⟨some 39, .call ⟨(.value (.func 111)), #[(.tmp 37), (.tmp 38)], #[44, 3]⟩, 23, (some (some 29, false))⟩),
 (⟨[40, 34, 39, 34, 39, 29], [26, 27, 28, 29, 28, 30, 31, 32, 33, 34, 35, 36, 37, 38, 39, 40, 41, 42, 43, 44, 45, 46, 47, 48, 49, 50, 51, 52, 53, 54, 55, 56], [40]⟩, ⟨some 40, .call ⟨(.value (.func 110)), #[(.tmp 34), (.tmp 39)], #[23, 23]⟩, 4, (some (some 29, false))⟩),
 (⟨[41, 40, 40, 29], [26, 27, 28, 29, 28, 30, 31, 32, 33, 34, 35, 36, 37, 38, 39, 40, 41, 42, 43, 44, 45, 46, 47, 48, 49, 50, 51, 52, 53, 54, 55, 56], [41]⟩, ⟨some 41, .unOp .not 4 (.tmp 40), 4, (some (some 29, false))⟩),
 (⟨[42, 29, 41, 28, 41], [26, 27, 28, 29, 28, 30, 31, 32, 33, 34, 35, 36, 37, 38, 39, 40, 41, 42, 43, 44, 45, 46, 47, 48, 49, 50, 51, 52, 53, 54, 55, 56], [42]⟩, ⟨some 42, .pick (.tmp 29) (.const (.bool true)) (.tmp 41), 4, none⟩),
 (⟨[43, 42, 42], [26, 27, 28, 29, 28, 30, 31, 32, 33, 34, 35, 36, 37, 38, 39, 40, 41, 42, 43, 44, 45, 46, 47, 48, 49, 50, 51, 52, 53, 54, 55, 56], [43]⟩, ⟨some 43, .move (.tmp 42), 4, none⟩),
 (⟨[44, 2, 2, 43], [26, 27, 28, 29, 28, 30, 31, 32, 33, 34, 35, 36, 37, 38, 39, 40, 41, 42, 43, 44, 45, 46, 47, 48, 49, 50, 51, 52, 53, 54, 55, 56], [44]⟩, ⟨some 44, .fieldAddr 84 (.tmp 2) 0, 0, (some (some 43, false))⟩),
 (⟨[45, 44, 2, 43], [26, 27, 28, 29, 28, 30, 31, 32, 33, 34, 35, 36, 37, 38, 39, 40, 41, 42, 43, 44, 45, 46, 47, 48, 49, 50, 51, 52, 53, 54, 55, 56], [45]⟩, ⟨some 45, .fieldAddr 50 (.tmp 44) 3, 0, (some (some 43, false))⟩),
 (⟨[46, 45, 2, 43], [26, 27, 28, 29, 28, 30, 31, 32, 33, 34, 35, 36, 37, 38, 39, 40, 41, 42, 43, 44, 45, 46, 47, 48, 49, 50, 51, 52, 53, 54, 55, 56], [46]⟩, ⟨some 46, .load 44 (.tmp 45), 44, (some (some 43, false))⟩),
 (⟨[47, 6, 6, 43], [26, 27, 28, 29, 28, 30, 31, 32, 33, 34, 35, 36, 37, 38, 39, 40, 41, 42, 43, 44, 45, 46, 47, 48, 49, 50, 51, 52, 53, 54, 55, 56], [47]⟩, ⟨some 47, .move (.tmp 6), 3, (some (some 43, false))⟩),
 (⟨[48, 46, 47, 2, 6, 43], [26, 27, 28, 29, 28, 30, 31, 32, 33, 34, 35, 36, 37, 38, 39, 40, 41, 42, 43, 44, 45, 46, 47, 48, 49, 50, 51, 52, 53, 54, 55, 56], [48]⟩, ⟨some 48, .call ⟨(.value (.func 111)), #[(.tmp 46), (.tmp 47)], #[44, 3]⟩, 23, (some (some 43, false))⟩),
 (⟨[49, 2, 2, 43], [26, 27, 28, 29, 28, 30, 31, 32, 33, 34, 35, 36, 37, 38, 39, 40, 41, 42, 43, 44, 45, 46, 47, 48, 49, 50, 51, 52, 53, 54, 55, 56], [49]⟩, ⟨some 49, .fieldAddr 84 (.tmp 2) 1, 0, (some (some 43, false))⟩),
 (⟨[50, 49, 2, 43], [26, 27, 28, 29, 28, 30, 31, 32, 33, 34, 35, 36, 37, 38, 39, 40, 41, 42, 43, 44, 45, 46, 47, 48, 49, 50, 51, 52, 53, 54, 55, 56], [50]⟩, ⟨some 50, .fieldAddr 50 (.tmp 49) 3, 0, (some (some 43, false))⟩),
 (⟨[51, 50, 2, 43], [26, 27, 28, 29, 28, 30, 31, 32, 33, 34, 35, 36, 37, 38, 39, 40, 41, 42, 43, 44, 45, 46, 47, 48, 49, 50, 51, 52, 53, 54, 55, 56], [51]⟩, ⟨some 51, .load 44 (.tmp 50), 44, (some (some 43, false))⟩),
 (⟨[52, 7, 7, 43], [26, 27, 28, 29, 28, 30, 31, 32, 33, 34, 35, 36, 37, 38, 39, 40, 41, 42, 43, 44, 45, 46, 47, 48, 49, 50, 51, 52, 53, 54, 55, 56], [52]⟩, ⟨some 52, .move (.tmp 7), 3, (some (some 43, false))⟩),
 (⟨[53, 51, 52, 2, 7, 43], [26, 27, 28, 29, 28, 30, 31, 32, 33, 34, 35, 36, 37, 38, 39, 40, 41, 42, 43, 44, 45, 46, 47, 48, 49, 50, 51, 52, 53, 54, 55, 56], [53]⟩, ⟨some 53, .call ⟨(.value (.func 111)), #[(.tmp 51), (.tmp 52)], #[44, 3]⟩, 23, (some (some 43, false))⟩),
 (⟨[54, 48, 53, 48, 53, 43], [26, 27, 28, 29, 28, 30, 31, 32, 33, 34, 35, 36, 37, 38, 39, 40, 41, 42, 43, 44, 45, 46, 47, 48, 49, 50, 51, 52, 53, 54, 55, 56], [54]⟩, ⟨some 54, .call ⟨(.value (.func 110)), #[(.tmp 48), (.tmp 53)], #[23, 23]⟩, 4, (some (some 43, false))⟩),
 (⟨[55, 54, 54, 43], [26, 27, 28, 29, 28, 30, 31, 32, 33, 34, 35, 36, 37, 38, 39, 40, 41, 42, 43, 44, 45, 46, 47, 48, 49, 50, 51, 52, 53, 54, 55, 56], [55]⟩, ⟨some 55, .unOp .not 4 (.tmp 54), 4, (some (some 43, false))⟩),
 (⟨[56, 43, 55, 42, 55], [26, 27, 28, 29, 28, 30, 31, 32, 33, 34, 35, 36, 37, 38, 39, 40, 41, 42, 43, 44, 45, 46, 47, 48, 49, 50, 51, 52, 53, 54, 55, 56], [56]⟩, ⟨some 56, .pick (.tmp 43) (.const (.bool true)) (.tmp 55), 4, none⟩)])
 (.cond (.tmp 56)
 (.exit 1)
 .skip))
 (.seq
 (.ops [
 ⟨some 57, .move (.tmp 1), 23, none⟩,
 ⟨some 58, .call ⟨(.value (.func 88)), #[(.tmp 57)], #[23]⟩, 23, none⟩,
 ⟨some 59, .move (.tmp 7), 3, none⟩,
 ⟨some 60, .buildSlice 23 1 #[(0, (.tmp 59))], 23, none⟩,
 ⟨some 61, .call ⟨(.builtin .append), #[(.tmp 58), (.tmp 60)], #[23, 23]⟩, 23, none⟩,
 ⟨some 8, .assign (.tmp 61), 23, none⟩])
 (.seq
 (.seq
 (.ops [
 ⟨some 62, .fieldAddr 84 (.tmp 2) 0, 0, none⟩,
 ⟨some 63, .fieldAddr 50 (.tmp 62) 3, 0, none⟩,
 ⟨some 64, .load 44 (.tmp 63), 44, none⟩,
 ⟨some 65, .fieldAddr 84 (.tmp 2) 1, 0, none⟩,
 ⟨some 66, .fieldAddr 50 (.tmp 65) 3, 0, none⟩,
 ⟨some 67, .load 44 (.tmp 66), 44, none⟩,
 ⟨some 68, .move (.tmp 8), 23, none⟩,
 ⟨some 69, .call ⟨(.value (.func 112)), #[(.tmp 64), (.tmp 67), (.tmp 68)], #[44, 44, 23]⟩, 4, none⟩,
 ⟨some 70, .unOp .not 4 (.tmp 69), 4, none⟩,
 ⟨some 71, .move (.tmp 70), 4, none⟩,
 ⟨some 72, .fieldAddr 84 (.tmp 2) 0, 0, (some (some 71, false))⟩,
 ⟨some 73, .fieldAddr 50 (.tmp 72) 2, 0, (some (some 71, false))⟩,
 ⟨some 74, .load 44 (.tmp 73), 44, (some (some 71, false))⟩,
 ⟨some 75, .fieldAddr 84 (.tmp 2) 1, 0, (some (some 71, false))⟩,
 ⟨some 76, .fieldAddr 50 (.tmp 75) 2, 0, (some (some 71, false))⟩,
 ⟨some 77, .load 44 (.tmp 76), 44, (some (some 71, false))⟩,
 ⟨some 78, .move (.tmp 8), 23, (some (some 71, false))⟩,
 ⟨some 79, .call ⟨(.value (.func 112)), #[(.tmp 74), (.tmp 77), (.tmp 78)], #[44, 44, 23]⟩, 4, (some (some 71, false))⟩,
 ⟨some 80, .unOp .not 4 (.tmp 79), 4, (some (some 71, false))⟩,
 ⟨some 81, .pick (.tmp 71) (.const (.bool true)) (.tmp 80), 4, none⟩])
 (.cond (.tmp 81)
 (.exit 1)
 .skip))
 (.seq
 (.ops [
 ⟨some 83, .load 84 (.tmp 2), 84, none⟩,
 ⟨some 84, .move (.tmp 8), 23, none⟩,
 ⟨some 85, .call ⟨(.value (.func 58)), #[(.tmp 83), (.tmp 84)], #[84, 23]⟩, 48, none⟩,
 ⟨some 82, .move (.tmp 85), 48, none⟩,
 ⟨some 86, .extract (.tmp 82) 0, 23, none⟩,
 ⟨some 87, .extract (.tmp 82) 1, 4, none⟩,
 ⟨some 9, .assign (.tmp 86), 23, none⟩,
 ⟨some 10, .assign (.tmp 87), 4, none⟩])
 (.seq
 (.ops [
 ⟨some 88, .move (.tmp 10), 4, none⟩])
 (.cond (.tmp 88)
 (.seq
 (.ops [
 ⟨some 89, .move (.tmp 9), 23, none⟩,
 ⟨some 4, .assign (.tmp 89), 23, none⟩,
 ⟨some 5, .assign (.const (.bool true)), 4, none⟩])
 .ret)
 .skip)))))))
 (.ops [
 ⟨some 24, .move (.tmp 7), 3, none⟩,
 ⟨some 25, .binOp .add 3 (.tmp 24) (.const (.int .i64 1)) 3, 3, none⟩,
 ⟨some 7, .assign (.tmp 25), 3, none⟩]))
def k58_l0 : SC := .loop k58_l0b
def k58 : SC :=
 .seq
 (.ops [
 ⟨some 2, .box 84 (.tmp 0), 0, none⟩,
 ⟨some 4, .assign (.const (.slice none 0 0)), 23, none⟩,
 ⟨some 5, .assign (.const (.bool false)), 4, none⟩])
 (.seq
 (.ops [
 ⟨some 11, .move (.tmp 1), 23, none⟩,
 ⟨some 12, .call ⟨(.builtin .len), #[(.tmp 11)], #[23]⟩, 3, none⟩,
 ⟨some 6, .assign (.tmp 12), 3, none⟩])
 (.seq
 (.seq
 (.ops [
 ⟨some 13, .move (.tmp 6), 3, none⟩,
 ⟨some 14, .fieldAddr 84 (.tmp 2) 0, 0, none⟩,
 ⟨some 15, .fieldAddr 50 (.tmp 14) 0, 0, none⟩,
 ⟨some 16, .load 3 (.tmp 15), 3, none⟩,
 ⟨some 17, .binOp .eql 3 (.tmp 13) (.tmp 16) 3, 4, none⟩])
 (.cond (.tmp 17)
 (.seq
 (.ops [
 ⟨some 18, .move (.tmp 1), 23, none⟩,
 ⟨some 4, .assign (.tmp 18), 23, none⟩,
 ⟨some 5, .assign (.const (.bool true)), 4, none⟩])
 .ret)
 .skip))
 (.seq
 (.seq
 (.ops [
 ⟨some 7, .assign (.const (.int .i64 0)), 3, none⟩])
 (.block 0
 k58_l0))
 (.seq
 (.ops [
 ⟨some 4, .assign (.const (.slice none 0 0)), 23, none⟩,
 ⟨some 5, .assign (.const (.bool false)), 4, none⟩])
 .ret))))
theorem slim58 : Try.f58.body.map (slim lends) = some k58 := by kernel_rfl
theorem ok58 : fnOk Try.f58 2 = true := by kernel_rfl
theorem c58 {a l : List D} {r : D × List D} (h : wpD Y.env k58 (fin tys l.length [ResultVar.tmp 4, ResultVar.tmp 5] r) (entry a l)) (ha : a.length = 2) : Y.call 58 a l = some r :=
 call_slim (Y := Y) rfl Try.func58 (ha ▸ ok58) slim58 h
def s_prFinder_grow_l0_M (rec_ : Int → Int → (List (List Int)) → (List (List Int)) → Int → Int → (List (List Int)) → (List (List Int)) → (List Int) → Option (((List Int) × Bool) ⊕ ((List Int) × Bool))) (t0_p t0_q : Int) (t0_2 t0_3 : List (List Int)) (t0_4 t0_5 : Int) (t0_6 t0_7 : List (List Int)) (t1_ : List Int) (t7_ : Int) (s : St) : Prop := s.v 1 = D.sl 3 (lst (D.int .i64) t1_) ∧ s.v 2 = D.box [D.int .i64 t0_p, D.int .i64 t0_q, D.sl 23 (lst (fun x => D.sl 3 (lst (D.int .i64) x)) t0_2), D.sl 23 (lst (fun x => D.sl 3 (lst (D.int .i64) x)) t0_3), D.int .i64 t0_4, D.int .i64 t0_5, D.sl 23 (lst (fun x => D.sl 3 (lst (D.int .i64) x)) t0_6), D.sl 23 (lst (fun x => D.sl 3 (lst (D.int .i64) x)) t0_7)] ∧ s.v 6 = D.int .i64 (t1_.length : Int) ∧ s.v 7 = D.int .i64 t7_
def s_prFinder_grow_l0_X (rec_ : Int → Int → (List (List Int)) → (List (List Int)) → Int → Int → (List (List Int)) → (List (List Int)) → (List Int) → Option (((List Int) × Bool) ⊕ ((List Int) × Bool))) (t0_p t0_q : Int) (t0_2 t0_3 : List (List Int)) (t0_4 t0_5 : Int) (t0_6 t0_7 : List (List Int)) (t1_ : List Int) (r : ((List Int)) ⊕ (((List Int)) ⊕ Unit)) (ex : Ex) (s : St) : Prop := match r with
 | .inl q => ex = .ret ∧ s.v 4 = D.sl 3 (lst (D.int .i64) q) ∧ s.v 5 = D.bool true
 | .inr (.inl q) => ex = .ret ∧ s.v 4 = D.own 3 (lst (D.int .i64) q) ∧ s.v 5 = D.bool true
 | .inr (.inr q) => ex = .exit 0
theorem s_prFinder_grow_l0_wp (rec_ : Int → Int → (List (List Int)) → (List (List Int)) → Int → Int → (List (List Int)) → (List (List Int)) → (List Int) → Option (((List Int) × Bool) ⊕ ((List Int) × Bool))) (t0_p t0_q : Int) (t0_2 t0_3 : List (List Int)) (t0_4 t0_5 : Int) (t0_6 t0_7 : List (List Int)) (t1_ : List Int) (rec_h : ∀ (t0_p t0_q : Int) (t0_2 t0_3 : List (List Int)) (t0_4 t0_5 : Int) (t0_6 t0_7 : List (List Int)) (t1_ : List Int) (r : ((List Int) × Bool) ⊕ ((List Int) × Bool)), rec_ t0_p t0_q t0_2 t0_3 t0_4 t0_5 t0_6 t0_7 t1_ = some r → Y.call 58 [D.agg [D.int .i64 t0_p, D.int .i64 t0_q, D.sl 23 (lst (fun x => D.sl 3 (lst (D.int .i64) x)) t0_2), D.sl 23 (lst (fun x => D.sl 3 (lst (D.int .i64) x)) t0_3), D.int .i64 t0_4, D.int .i64 t0_5, D.sl 23 (lst (fun x => D.sl 3 (lst (D.int .i64) x)) t0_6), D.sl 23 (lst (fun x => D.sl 3 (lst (D.int .i64) x)) t0_7)], D.sl 3 (lst (D.int .i64) t1_)] [] = some (match (generalizing := false) r with | .inl q => (D.tup [D.sl 3 (lst (D.int .i64) q.1), D.bool q.2], []) | .inr q => (D.tup [D.own 3 (lst (D.int .i64) q.1), D.bool q.2], []))) {v : Int} {s : St} {r : ((List Int)) ⊕ (((List Int)) ⊕ Unit)} (h : s_prFinder_grow_l0 rec_ t0_p t0_q t0_2 t0_3 t0_4 t0_5 t0_6 t0_7 t1_ v = some r) (hM : s_prFinder_grow_l0_M rec_ t0_p t0_q t0_2 t0_3 t0_4 t0_5 t0_6 t0_7 t1_ v s) : wpD Y.env k58_l0 (s_prFinder_grow_l0_X rec_ t0_p t0_q t0_2 t0_3 t0_4 t0_5 t0_6 t0_7 t1_ r) s := by
 unfold s_prFinder_grow_l0 at h
 refine wd_itO (c := k58_l0b) (fun v => s_prFinder_grow_l0_S rec_ t0_p t0_q t0_2 t0_3 t0_4 t0_5 t0_6 t0_7 t1_ v) (fun v s => s_prFinder_grow_l0_M rec_ t0_p t0_q t0_2 t0_3 t0_4 t0_5 t0_6 t0_7 t1_ v s) (s_prFinder_grow_l0_X rec_ t0_p t0_q t0_2 t0_3 t0_4 t0_5 t0_6 t0_7 t1_) ?_ h hM
 clear h hM s v r
 intro t7_ s o hM h
 unfold s_prFinder_grow_l0_S at h
 unfold s_prFinder_grow_l0_M at hM
 obtain ⟨m0, m1, m2, m3⟩ := hM
 unfold k58_l0b
 by_cases e2 : t7_ < t0_4
 ·rw [if_pos e2] at h
  obtain ⟨e3, h⟩ := ckS h
  have c4 := s_l1Has_cl t1_ t7_ e3
  by_cases e5 : (t1_.contains t7_) = true
  ·rw [if_pos e5] at h
   cases h
   simp (maxDischargeDepth := 9) only [↓xpre, xpost, xc2, xcore, yset, ↓reduceIte, Nat.reduceEqDiff, Nat.reduceLT, Nat.reduceAdd, m0, m1, m2, m3, e2, c4, e5, s_prFinder_grow_l0_M, sxN]
  ·rw [if_neg e5] at h
   have e5f : (t1_.contains t7_) = false := Bool.eq_false_iff.mpr e5
   obtain ⟨r6_, hl6, h⟩ := bindS h
   try dsimp only at h
   have c6 := s_prCount_call t0_2 (t1_.length : Int) hl6
   obtain ⟨r7_, hl7, h⟩ := bindS h
   try dsimp only at h
   have c7 := s_prCount_call t0_6 t7_ hl7
   obtain ⟨r8_, hl8, h⟩ := bindS h
   try dsimp only at h
   have c8 := s_l1Same_call r6_ r7_ hl8
   by_cases e9 : r8_ = true
   ·rw [if_pos e9] at h
    obtain ⟨r10_, hl10, h⟩ := bindS h
    try dsimp only at h
    have c10 := s_prCount_call t0_3 (t1_.length : Int) hl10
    obtain ⟨r11_, hl11, h⟩ := bindS h
    try dsimp only at h
    have c11 := s_prCount_call t0_7 t7_ hl11
    obtain ⟨r12_, hl12, h⟩ := bindS h
    try dsimp only at h
    have c12 := s_l1Same_call r10_ r11_ hl12
    by_cases e13 : r12_ = true
    ·rw [if_pos e13] at h
     obtain ⟨r14_, hl14, h⟩ := bindS h
     try dsimp only at h
     have c14 := s_l1Own_call t1_ hl14
     obtain ⟨e15, h⟩ := ckS h
     obtain ⟨r16_, hl16, h⟩ := bindS h
     try dsimp only at h
     have c16 := s_prKept_call t0_3 t0_7 (r14_ ++ [t7_]) hl16
     by_cases e17 : r16_ = true
     ·rw [if_pos e17] at h
      obtain ⟨r18_, hl18, h⟩ := bindS h
      try dsimp only at h
      have c18 := s_prKept_call t0_2 t0_6 (r14_ ++ [t7_]) hl18
      by_cases e19 : r18_ = true
      ·rw [if_pos e19] at h
       obtain ⟨r20_, hl20, h⟩ := bindS h
       try dsimp only at h
       have c20 := rec_h _ _ _ _ _ _ _ _ _ _ hl20
       rcases r20_ with q20_ | q20_
       ·dsimp only at h c20
        by_cases e21 : (!q20_.1.isEmpty) = true
        ·skip
         by_cases e22 : q20_.2 = true
         ·rw [if_pos e22] at h
          cases h
          simp (maxDischargeDepth := 9) only [↓xpre, xpost, xlst, xc2, xcore, yset, ↓reduceIte, Nat.reduceEqDiff, Nat.reduceLT, Nat.reduceLeDiff, Nat.reduceAdd, Nat.reduceBEq, m0, m1, m2, m3, e2, c4, e5f, c6, c7, c8, e9, c10, c11, c12, e13, c14, e15, c16, e17, c18, e19, c20, e21, e22, s_prFinder_grow_l0_M, s_prFinder_grow_l0_X, sxR]
         ·rw [if_neg e22] at h
          have e22f : q20_.2 = false := Bool.eq_false_iff.mpr e22
          cases h
          simp (maxDischargeDepth := 9) only [↓xpre, xpost, xlst, xc2, xcore, yset, ↓reduceIte, Nat.reduceEqDiff, Nat.reduceLT, Nat.reduceLeDiff, Nat.reduceAdd, Nat.reduceBEq, m0, m1, m2, m3, e2, c4, e5f, c6, c7, c8, e9, c10, c11, c12, e13, c14, e15, c16, e17, c18, e19, c20, e21, e22f, s_prFinder_grow_l0_M, sxN]
        ·skip
         have e21f : (!q20_.1.isEmpty) = false := Bool.eq_false_iff.mpr e21
         by_cases e22 : q20_.2 = true
         ·rw [if_pos e22] at h
          cases h
          simp (maxDischargeDepth := 9) only [↓xpre, xpost, xlst, xc2, xcore, yset, ↓reduceIte, Nat.reduceEqDiff, Nat.reduceLT, Nat.reduceLeDiff, Nat.reduceAdd, Nat.reduceBEq, m0, m1, m2, m3, e2, c4, e5f, c6, c7, c8, e9, c10, c11, c12, e13, c14, e15, c16, e17, c18, e19, c20, e21f, e22, s_prFinder_grow_l0_M, s_prFinder_grow_l0_X, sxR]
         ·rw [if_neg e22] at h
          have e22f : q20_.2 = false := Bool.eq_false_iff.mpr e22
          cases h
          simp (maxDischargeDepth := 9) only [↓xpre, xpost, xlst, xc2, xcore, yset, ↓reduceIte, Nat.reduceEqDiff, Nat.reduceLT, Nat.reduceLeDiff, Nat.reduceAdd, Nat.reduceBEq, m0, m1, m2, m3, e2, c4, e5f, c6, c7, c8, e9, c10, c11, c12, e13, c14, e15, c16, e17, c18, e19, c20, e21f, e22f, s_prFinder_grow_l0_M, sxN]
       ·dsimp only at h c20
        by_cases e23 : q20_.2 = true
        ·rw [if_pos e23] at h
         cases h
         simp (maxDischargeDepth := 9) only [↓xpre, xpost, xlst, xc2, xcore, yset, ↓reduceIte, Nat.reduceEqDiff, Nat.reduceLT, Nat.reduceLeDiff, Nat.reduceAdd, Nat.reduceBEq, m0, m1, m2, m3, e2, c4, e5f, c6, c7, c8, e9, c10, c11, c12, e13, c14, e15, c16, e17, c18, e19, c20, e23, s_prFinder_grow_l0_M, s_prFinder_grow_l0_X, sxR]
        ·rw [if_neg e23] at h
         have e23f : q20_.2 = false := Bool.eq_false_iff.mpr e23
         cases h
         simp (maxDischargeDepth := 9) only [↓xpre, xpost, xlst, xc2, xcore, yset, ↓reduceIte, Nat.reduceEqDiff, Nat.reduceLT, Nat.reduceLeDiff, Nat.reduceAdd, Nat.reduceBEq, m0, m1, m2, m3, e2, c4, e5f, c6, c7, c8, e9, c10, c11, c12, e13, c14, e15, c16, e17, c18, e19, c20, e23f, s_prFinder_grow_l0_M, sxN]
      ·rw [if_neg e19] at h
       have e19f : r18_ = false := Bool.eq_false_iff.mpr e19
       cases h
       simp (maxDischargeDepth := 9) only [↓xpre, xpost, xlst, xc2, xcore, yset, ↓reduceIte, Nat.reduceEqDiff, Nat.reduceLT, Nat.reduceLeDiff, Nat.reduceAdd, Nat.reduceBEq, m0, m1, m2, m3, e2, c4, e5f, c6, c7, c8, e9, c10, c11, c12, e13, c14, e15, c16, e17, c18, e19f, s_prFinder_grow_l0_M, sxN]
     ·rw [if_neg e17] at h
      have e17f : r16_ = false := Bool.eq_false_iff.mpr e17
      cases h
      simp (maxDischargeDepth := 9) only [↓xpre, xpost, xlst, xc2, xcore, yset, ↓reduceIte, Nat.reduceEqDiff, Nat.reduceLT, Nat.reduceLeDiff, Nat.reduceAdd, Nat.reduceBEq, m0, m1, m2, m3, e2, c4, e5f, c6, c7, c8, e9, c10, c11, c12, e13, c14, e15, c16, e17f, s_prFinder_grow_l0_M, sxN]
    ·rw [if_neg e13] at h
     have e13f : r12_ = false := Bool.eq_false_iff.mpr e13
     cases h
     simp (maxDischargeDepth := 9) only [↓xpre, xpost, xlst, xc2, xcore, yset, ↓reduceIte, Nat.reduceEqDiff, Nat.reduceLT, Nat.reduceAdd, Nat.reduceBEq, m0, m1, m2, m3, e2, c4, e5f, c6, c7, c8, e9, c10, c11, c12, e13f, s_prFinder_grow_l0_M, sxN]
   ·rw [if_neg e9] at h
    have e9f : r8_ = false := Bool.eq_false_iff.mpr e9
    cases h
    simp (maxDischargeDepth := 9) only [↓xpre, xpost, xlst, xc2, xcore, yset, ↓reduceIte, Nat.reduceEqDiff, Nat.reduceLT, Nat.reduceAdd, Nat.reduceBEq, m0, m1, m2, m3, e2, c4, e5f, c6, c7, c8, e9f, s_prFinder_grow_l0_M, sxN]
 ·rw [if_neg e2] at h
  cases h
  simp (maxDischargeDepth := 9) only [↓xpre, xpost, xc2, xcore, yset, ↓reduceIte, Nat.reduceEqDiff, Nat.reduceLT, m1, m3, e2, s_prFinder_grow_l0_M, s_prFinder_grow_l0_X, sxE]
theorem s_prFinder_grow_R_call (rec_ : Int → Int → (List (List Int)) → (List (List Int)) → Int → Int → (List (List Int)) → (List (List Int)) → (List Int) → Option (((List Int) × Bool) ⊕ ((List Int) × Bool))) (t0_p t0_q : Int) (t0_2 t0_3 : List (List Int)) (t0_4 t0_5 : Int) (t0_6 t0_7 : List (List Int)) (t1_ : List Int) (rec_h : ∀ (t0_p t0_q : Int) (t0_2 t0_3 : List (List Int)) (t0_4 t0_5 : Int) (t0_6 t0_7 : List (List Int)) (t1_ : List Int) (r : ((List Int) × Bool) ⊕ ((List Int) × Bool)), rec_ t0_p t0_q t0_2 t0_3 t0_4 t0_5 t0_6 t0_7 t1_ = some r → Y.call 58 [D.agg [D.int .i64 t0_p, D.int .i64 t0_q, D.sl 23 (lst (fun x => D.sl 3 (lst (D.int .i64) x)) t0_2), D.sl 23 (lst (fun x => D.sl 3 (lst (D.int .i64) x)) t0_3), D.int .i64 t0_4, D.int .i64 t0_5, D.sl 23 (lst (fun x => D.sl 3 (lst (D.int .i64) x)) t0_6), D.sl 23 (lst (fun x => D.sl 3 (lst (D.int .i64) x)) t0_7)], D.sl 3 (lst (D.int .i64) t1_)] [] = some (match (generalizing := false) r with | .inl q => (D.tup [D.sl 3 (lst (D.int .i64) q.1), D.bool q.2], []) | .inr q => (D.tup [D.own 3 (lst (D.int .i64) q.1), D.bool q.2], []))) {r : ((List Int) × Bool) ⊕ ((List Int) × Bool)} (h : s_prFinder_grow_R rec_ t0_p t0_q t0_2 t0_3 t0_4 t0_5 t0_6 t0_7 t1_ = some r) : Y.call 58 [D.agg [D.int .i64 t0_p, D.int .i64 t0_q, D.sl 23 (lst (fun x => D.sl 3 (lst (D.int .i64) x)) t0_2), D.sl 23 (lst (fun x => D.sl 3 (lst (D.int .i64) x)) t0_3), D.int .i64 t0_4, D.int .i64 t0_5, D.sl 23 (lst (fun x => D.sl 3 (lst (D.int .i64) x)) t0_6), D.sl 23 (lst (fun x => D.sl 3 (lst (D.int .i64) x)) t0_7)], D.sl 3 (lst (D.int .i64) t1_)] [] = some (match (generalizing := false) r with | .inl q => (D.tup [D.sl 3 (lst (D.int .i64) q.1), D.bool q.2], []) | .inr q => (D.tup [D.own 3 (lst (D.int .i64) q.1), D.bool q.2], [])) := by
 refine c58 ?_ rfl
 unfold k58
 unfold s_prFinder_grow_R at h
 by_cases e1 : (t1_.length : Int) = t0_p
 ·rw [if_pos e1] at h
  cases h
  simp (maxDischargeDepth := 9) only [↓xpre, xpost, xlst, xc2, xcore, yset, ↓reduceIte, Nat.reduceEqDiff, Nat.reduceLT, Nat.reduceAdd, decide_eq_true e1]
 ·rw [if_neg e1] at h
  obtain ⟨r3_, hl3, h⟩ := bindS h
  try dsimp only at h
  simp (maxDischargeDepth := 9) only [↓xpre, xpost, xlst, xc2, xcore, yset, ↓reduceIte, Nat.reduceEqDiff, Nat.reduceLT, Nat.reduceAdd, e1]
  refine wd_mono (s_prFinder_grow_l0_wp rec_ t0_p t0_q t0_2 t0_3 t0_4 t0_5 t0_6 t0_7 t1_ rec_h hl3 ?_) ?_
  ·simp (maxDischargeDepth := 9) only [xpost, xcore, ↓reduceIte, Nat.reduceEqDiff, Nat.reduceLT, s_prFinder_grow_l0_M]
  ·intro ex3 s3 hX3
   rcases r3_ with (q3_ | q3_ | q3_)
   ·unfold s_prFinder_grow_l0_X at hX3
    dsimp only at hX3 h
    obtain ⟨rfl, n3_0, n3_1⟩ := hX3
    cases h
    simp (maxDischargeDepth := 9) only [↓xpre, xpost, xcore, ↓reduceIte, n3_0, n3_1]
   ·unfold s_prFinder_grow_l0_X at hX3
    dsimp only at hX3 h
    obtain ⟨rfl, n3_0, n3_1⟩ := hX3
    cases h
    simp (maxDischargeDepth := 9) only [↓xpre, xpost, xlst, xcore, ↓reduceIte, Nat.reduceEqDiff, n3_0, n3_1]
   ·unfold s_prFinder_grow_l0_X at hX3
    dsimp only at hX3 h
    obtain rfl := hX3
    cases h
    simp (maxDischargeDepth := 9) only [↓xpre, xpost, xcore, yset, ↓reduceIte, Nat.reduceEqDiff, Nat.reduceLT] <;> (repeat' apply And.intro) <;> first | rfl | exact ⟨_, rfl⟩ | exact ⟨_, _, rfl⟩ | simp [lst, cat2_nil]
theorem s_prFinder_grow_N_call (n : Nat) : ∀ (t0_p t0_q : Int) (t0_2 t0_3 : List (List Int)) (t0_4 t0_5 : Int) (t0_6 t0_7 : List (List Int)) (t1_ : List Int) (r : ((List Int) × Bool) ⊕ ((List Int) × Bool)), s_prFinder_grow_N n t0_p t0_q t0_2 t0_3 t0_4 t0_5 t0_6 t0_7 t1_ = some r → Y.call 58 [D.agg [D.int .i64 t0_p, D.int .i64 t0_q, D.sl 23 (lst (fun x => D.sl 3 (lst (D.int .i64) x)) t0_2), D.sl 23 (lst (fun x => D.sl 3 (lst (D.int .i64) x)) t0_3), D.int .i64 t0_4, D.int .i64 t0_5, D.sl 23 (lst (fun x => D.sl 3 (lst (D.int .i64) x)) t0_6), D.sl 23 (lst (fun x => D.sl 3 (lst (D.int .i64) x)) t0_7)], D.sl 3 (lst (D.int .i64) t1_)] [] = some (match (generalizing := false) r with | .inl q => (D.tup [D.sl 3 (lst (D.int .i64) q.1), D.bool q.2], []) | .inr q => (D.tup [D.own 3 (lst (D.int .i64) q.1), D.bool q.2], [])) := by
 induction n with
 | zero => intro t0_p t0_q t0_2 t0_3 t0_4 t0_5 t0_6 t0_7 t1_ r h; exact absurd h (by rw [s_prFinder_grow_N]; exact fun e => by cases e)
 | succ n ih => intro t0_p t0_q t0_2 t0_3 t0_4 t0_5 t0_6 t0_7 t1_ r h; rw [s_prFinder_grow_N] at h; exact s_prFinder_grow_R_call (s_prFinder_grow_N n) t0_p t0_q t0_2 t0_3 t0_4 t0_5 t0_6 t0_7 t1_ ih h
theorem s_prFinder_grow_call (t0_p t0_q : Int) (t0_2 t0_3 : List (List Int)) (t0_4 t0_5 : Int) (t0_6 t0_7 : List (List Int)) (t1_ : List Int) {r : ((List Int) × Bool) ⊕ ((List Int) × Bool)} (h : s_prFinder_grow t0_p t0_q t0_2 t0_3 t0_4 t0_5 t0_6 t0_7 t1_ = some r) : Y.call 58 [D.agg [D.int .i64 t0_p, D.int .i64 t0_q, D.sl 23 (lst (fun x => D.sl 3 (lst (D.int .i64) x)) t0_2), D.sl 23 (lst (fun x => D.sl 3 (lst (D.int .i64) x)) t0_3), D.int .i64 t0_4, D.int .i64 t0_5, D.sl 23 (lst (fun x => D.sl 3 (lst (D.int .i64) x)) t0_6), D.sl 23 (lst (fun x => D.sl 3 (lst (D.int .i64) x)) t0_7)], D.sl 3 (lst (D.int .i64) t1_)] [] = some (match (generalizing := false) r with | .inl q => (D.tup [D.sl 3 (lst (D.int .i64) q.1), D.bool q.2], []) | .inr q => (D.tup [D.own 3 (lst (D.int .i64) q.1), D.bool q.2], [])) := s_prFinder_grow_N_call 1000000 t0_p t0_q t0_2 t0_3 t0_4 t0_5 t0_6 t0_7 t1_ r h

noncomputable def s_RenamingBetween (pL pD : Int) (pN pE : List (List Int)) (qL qD : Int) (qN qE : List (List Int)) : Option (((List Int) × Bool) ⊕ ((List Int) × Bool)) :=
 ck (Short pN) <|
 ck (Short pE) <|
 if (isProb pL pD pN pE) = true then
  ck (Short qN) <|
  ck (Short qE) <|
  if (isProb qL qD qN qE) = true then
   if pL = qL then
    if pD = qD then
     if (pN.length : Int) = (qN.length : Int) then
      if (pE.length : Int) = (qE.length : Int) then
       (s_prFinder_grow pL pD pN pE qL qD qN qE []).bind fun r13_ =>
       match r13_ with
       | .inl q13_ =>
        some (Sum.inl (q13_.1, q13_.2))
       | .inr q13_ =>
        some (Sum.inr (q13_.1, q13_.2))
      else
       some (Sum.inr ([], false))
     else
      some (Sum.inr ([], false))
    else
     some (Sum.inr ([], false))
   else
    some (Sum.inr ([], false))
  else
   some (Sum.inr ([], false))
 else
  some (Sum.inr ([], false))
/-- spec.RenamingBetween -/
def k24 : SC :=
 .seq
 (.ops [
 ⟨some 2, .box 50 (.tmp 0), 0, none⟩,
 ⟨some 3, .box 50 (.tmp 1), 0, none⟩,
 ⟨some 4, .assign (.const (.slice none 0 0)), 23, none⟩,
 ⟨some 5, .assign (.const (.bool false)), 4, none⟩])
 (.seq
 (.seq
 (.ops [
 ⟨some 6, .load 50 (.tmp 2), 50, none⟩,
 ⟨some 7, .call ⟨(.value (.func 57)), #[(.tmp 6)], #[50]⟩, 4, none⟩,
 ⟨some 8, .unOp .not 4 (.tmp 7), 4, none⟩,
 ⟨some 9, .move (.tmp 8), 4, none⟩,
 ⟨some 10, .load 50 (.tmp 3), 50, (some (some 9, false))⟩,
 ⟨some 11, .call ⟨(.value (.func 57)), #[(.tmp 10)], #[50]⟩, 4, (some (some 9, false))⟩,
 ⟨some 12, .unOp .not 4 (.tmp 11), 4, (some (some 9, false))⟩,
 ⟨some 13, .pick (.tmp 9) (.const (.bool true)) (.tmp 12), 4, none⟩,
 ⟨some 14, .move (.tmp 13), 4, none⟩,
 ⟨some 15, .fieldAddr 50 (.tmp 2) 0, 0, (some (some 14, false))⟩,
 ⟨some 16, .load 3 (.tmp 15), 3, (some (some 14, false))⟩,
 ⟨some 17, .fieldAddr 50 (.tmp 3) 0, 0, (some (some 14, false))⟩,
 ⟨some 18, .load 3 (.tmp 17), 3, (some (some 14, false))⟩,
 ⟨some 19, .binOp .neq 3 (.tmp 16) (.tmp 18) 3, 4, (some (some 14, false))⟩,
 ⟨some 20, .pick (.tmp 14) (.const (.bool true)) (.tmp 19), 4, none⟩,
 ⟨some 21, .move (.tmp 20), 4, none⟩,
 ⟨some 22, .fieldAddr 50 (.tmp 2) 1, 0, (some (some 21, false))⟩,
 ⟨some 23, .load 3 (.tmp 22), 3, (some (some 21, false))⟩,
 ⟨some 24, .fieldAddr 50 (.tmp 3) 1, 0, (some (some 21, false))⟩,
 ⟨some 25, .load 3 (.tmp 24), 3, (some (some 21, false))⟩,
 ⟨some 26, .binOp .neq 3 (.tmp 23) (.tmp 25) 3, 4, (some (some 21, false))⟩,
 ⟨some 27, .pick (.tmp 21) (.const (.bool true)) (.tmp 26), 4, none⟩,
 ⟨some 28, .move (.tmp 27), 4, none⟩,
 ⟨some 29, .fieldAddr 50 (.tmp 2) 2, 0, (some (some 28, false))⟩,
 ⟨some 30, .load 44 (.tmp 29), 44, (some (some 28, false))⟩,
 ⟨some 31, .call ⟨(.builtin .len), #[(.tmp 30)], #[44]⟩, 3, (some (some 28, false))⟩,
 ⟨some 32, .fieldAddr 50 (.tmp 3) 2, 0, (some (some 28, false))⟩,
 ⟨some 33, .load 44 (.tmp 32), 44, (some (some 28, false))⟩,
 ⟨some 34, .call ⟨(.builtin .len), #[(.tmp 33)], #[44]⟩, 3, (some (some 28, false))⟩,
 ⟨some 35, .binOp .neq 3 (.tmp 31) (.tmp 34) 3, 4, (some (some 28, false))⟩,
 ⟨some 36, .pick (.tmp 28) (.const (.bool true)) (.tmp 35), 4, none⟩,
 ⟨some 37, .move (.tmp 36), 4, none⟩,
 ⟨some 38, .fieldAddr 50 (.tmp 2) 3, 0, (some (some 37, false))⟩,
 ⟨some 39, .load 44 (.tmp 38), 44, (some (some 37, false))⟩,
 ⟨some 40, .call ⟨(.builtin .len), #[(.tmp 39)], #[44]⟩, 3, (some (some 37, false))⟩,
 ⟨some 41, .fieldAddr 50 (.tmp 3) 3, 0, (some (some 37, false))⟩,
 ⟨some 42, .load 44 (.tmp 41), 44, (some (some 37, false))⟩,
 ⟨some 43, .call ⟨(.builtin .len), #[(.tmp 42)], #[44]⟩, 3, (some (some 37, false))⟩,
 ⟨some 44, .binOp .neq 3 (.tmp 40) (.tmp 43) 3, 4, (some (some 37, false))⟩,
 ⟨some 45, .pick (.tmp 37) (.const (.bool true)) (.tmp 44), 4, none⟩])
 (.cond (.tmp 45)
 (.seq
 (.ops [
 ⟨some 4, .assign (.const (.slice none 0 0)), 23, none⟩,
 ⟨some 5, .assign (.const (.bool false)), 4, none⟩])
 .ret)
 .skip))
 (.seq
 (.ops [
 ⟨some 46, .load 50 (.tmp 2), 50, none⟩,
 ⟨some 47, .load 50 (.tmp 3), 50, none⟩,
 ⟨some 48, .build 84 #[(0, (.tmp 46)), (1, (.tmp 47))], 84, none⟩,
 ⟨some 49, .call ⟨(.value (.func 58)), #[(.tmp 48), (.const (.slice none 0 0))], #[84, 23]⟩, 48, none⟩,
 ⟨some 50, .extract (.tmp 49) 0, 23, none⟩,
 ⟨some 51, .extract (.tmp 49) 1, 4, none⟩,
 ⟨some 4, .assign (.tmp 50), 23, none⟩,
 ⟨some 5, .assign (.tmp 51), 4, none⟩])
 .ret))
theorem slim24 : Try.f24.body.map (slim lends) = some k24 := by kernel_rfl
theorem ok24 : fnOk Try.f24 2 = true := by kernel_rfl
theorem c24 {a l : List D} {r : D × List D} (h : wpD Y.env k24 (fin tys l.length [ResultVar.tmp 4, ResultVar.tmp 5] r) (entry a l)) (ha : a.length = 2) : Y.call 24 a l = some r :=
 call_slim (Y := Y) rfl Try.func24 (ha ▸ ok24) slim24 h
theorem s_RenamingBetween_call (pL pD : Int) (pN pE : List (List Int)) (qL qD : Int) (qN qE : List (List Int)) {r : ((List Int) × Bool) ⊕ ((List Int) × Bool)} (h : s_RenamingBetween pL pD pN pE qL qD qN qE = some r) : Y.call 24 [D.agg [D.int .i64 pL, D.int .i64 pD, D.sl 23 (lst (fun x => D.sl 3 (lst (D.int .i64) x)) pN), D.sl 23 (lst (fun x => D.sl 3 (lst (D.int .i64) x)) pE)], D.agg [D.int .i64 qL, D.int .i64 qD, D.sl 23 (lst (fun x => D.sl 3 (lst (D.int .i64) x)) qN), D.sl 23 (lst (fun x => D.sl 3 (lst (D.int .i64) x)) qE)]] [] = some (match (generalizing := false) r with | .inl q => (D.tup [D.sl 3 (lst (D.int .i64) q.1), D.bool q.2], []) | .inr q => (D.tup [D.own 3 (lst (D.int .i64) q.1), D.bool q.2], [])) := by
 refine c24 ?_ rfl
 unfold k24
 unfold s_RenamingBetween at h
 obtain ⟨e1, h⟩ := ckS h
 obtain ⟨e2, h⟩ := ckS h
 have c3 := s_prGood_cl pL pD pN pE e1 e2
 by_cases e4 : (isProb pL pD pN pE) = true
 ·rw [if_pos e4] at h
  obtain ⟨e5, h⟩ := ckS h
  obtain ⟨e6, h⟩ := ckS h
  have c7 := s_prGood_cl qL qD qN qE e5 e6
  by_cases e8 : (isProb qL qD qN qE) = true
  ·rw [if_pos e8] at h
   by_cases e9 : pL = qL
   ·rw [if_pos e9] at h
    by_cases e10 : pD = qD
    ·rw [if_pos e10] at h
     by_cases e11 : (pN.length : Int) = (qN.length : Int)
     ·rw [if_pos e11] at h
      by_cases e12 : (pE.length : Int) = (qE.length : Int)
      ·rw [if_pos e12] at h
       obtain ⟨r13_, hl13, h⟩ := bindS h
       try dsimp only at h
       have c13 := s_prFinder_grow_call pL pD pN pE qL qD qN qE [] hl13
       rcases r13_ with q13_ | q13_
       ·dsimp only at h c13
        simp only [lst_nil] at c13
        by_cases e14 : (!q13_.1.isEmpty) = true
        ·skip
         cases h
         simp (maxDischargeDepth := 9) only [↓xpre, xpost, xlst, xc2, xcore, yset, ↓reduceIte, Nat.reduceEqDiff, Nat.reduceLT, Nat.reduceLeDiff, Nat.reduceAdd, c3, e4, c7, e8, decide_eq_true e9, decide_eq_true e10, decide_eq_true e11, decide_eq_true e12, c13, e14]
        ·skip
         have e14f : (!q13_.1.isEmpty) = false := Bool.eq_false_iff.mpr e14
         cases h
         simp (maxDischargeDepth := 9) only [↓xpre, xpost, xlst, xc2, xcore, yset, ↓reduceIte, Nat.reduceEqDiff, Nat.reduceLT, Nat.reduceLeDiff, Nat.reduceAdd, c3, e4, c7, e8, decide_eq_true e9, decide_eq_true e10, decide_eq_true e11, decide_eq_true e12, c13, e14f]
       ·dsimp only at h c13
        simp only [lst_nil] at c13
        cases h
        simp (maxDischargeDepth := 9) only [↓xpre, xpost, xlst, xc2, xcore, yset, ↓reduceIte, Nat.reduceEqDiff, Nat.reduceLT, Nat.reduceLeDiff, Nat.reduceAdd, c3, e4, c7, e8, decide_eq_true e9, decide_eq_true e10, decide_eq_true e11, decide_eq_true e12, c13]
      ·rw [if_neg e12] at h
       cases h
       simp (maxDischargeDepth := 9) only [↓xpre, xpost, xlst, xc2, xcore, yset, ↓reduceIte, Nat.reduceEqDiff, Nat.reduceLT, Nat.reduceAdd, c3, e4, c7, e8, decide_eq_true e9, decide_eq_true e10, decide_eq_true e11, e12] <;> (repeat' apply And.intro) <;> first | rfl | exact ⟨_, rfl⟩ | exact ⟨_, _, rfl⟩ | simp [lst, cat2_nil]
     ·rw [if_neg e11] at h
      cases h
      simp (maxDischargeDepth := 9) only [↓xpre, xpost, xlst, xc2, xcore, yset, ↓reduceIte, Nat.reduceEqDiff, Nat.reduceLT, Nat.reduceAdd, c3, e4, c7, e8, decide_eq_true e9, decide_eq_true e10, e11] <;> (repeat' apply And.intro) <;> first | rfl | exact ⟨_, rfl⟩ | exact ⟨_, _, rfl⟩ | simp [lst, cat2_nil]
    ·rw [if_neg e10] at h
     cases h
     simp (maxDischargeDepth := 9) only [↓xpre, xpost, xc2, xcore, yset, ↓reduceIte, Nat.reduceEqDiff, Nat.reduceLT, Nat.reduceAdd, c3, e4, c7, e8, decide_eq_true e9, e10] <;> (repeat' apply And.intro) <;> first | rfl | exact ⟨_, rfl⟩ | exact ⟨_, _, rfl⟩ | simp [lst, cat2_nil]
   ·rw [if_neg e9] at h
    cases h
    simp (maxDischargeDepth := 9) only [↓xpre, xpost, xc2, xcore, yset, ↓reduceIte, Nat.reduceEqDiff, Nat.reduceLT, Nat.reduceAdd, c3, e4, c7, e8, e9] <;> (repeat' apply And.intro) <;> first | rfl | exact ⟨_, rfl⟩ | exact ⟨_, _, rfl⟩ | simp [lst, cat2_nil]
  ·rw [if_neg e8] at h
   have e8f : (isProb qL qD qN qE) = false := Bool.eq_false_iff.mpr e8
   cases h
   simp (maxDischargeDepth := 9) only [↓xpre, xpost, xc2, xcore, yset, ↓reduceIte, Nat.reduceEqDiff, Nat.reduceLT, Nat.reduceAdd, c3, e4, c7, e8f] <;> (repeat' apply And.intro) <;> first | rfl | exact ⟨_, rfl⟩ | exact ⟨_, _, rfl⟩ | simp [lst, cat2_nil]
 ·rw [if_neg e4] at h
  have e4f : (isProb pL pD pN pE) = false := Bool.eq_false_iff.mpr e4
  cases h
  simp (maxDischargeDepth := 9) only [↓xpre, xpost, xc2, xcore, yset, ↓reduceIte, Nat.reduceEqDiff, Nat.reduceLT, Nat.reduceAdd, c3, e4f] <;> (repeat' apply And.intro) <;> first | rfl | exact ⟨_, rfl⟩ | exact ⟨_, _, rfl⟩ | simp [lst, cat2_nil]


end Go.Proofs.Ytipfckompmhljaa
