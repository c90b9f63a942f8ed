/- When lists are a network, as plain functions. Conditions: the lists are short. -/
import Derived.Test.YtipfckompmhljaaL6
import Derived.Test.YtipfckompmhljaaNet
namespace Go.Proofs.Ytipfckompmhljaa
open Go Dv
set_option linter.unusedSimpArgs false
set_option linter.unusedVariables false
set_option maxRecDepth 100000
set_option maxHeartbeats 4000000

noncomputable def i_increasing_l0_S (list : List Int) (low high t11_ : Int) : Option ((Int) ⊕ (Unit ⊕ Unit)) :=
 if t11_ < (list.length : Int) then
  ck (0 ≤ t11_ ∧ t11_.toNat < list.length) <|
  if (inR (list.getD t11_.toNat default) low high) = true then
   if 0 < t11_ then
    ck (0 ≤ IntKind.i64.wrap (t11_ - 1) ∧ (IntKind.i64.wrap (t11_ - 1)).toNat < list.length) <|
    if (list.getD t11_.toNat default) ≤ (list.getD ((IntKind.i64.wrap (t11_ - 1)).toNat) default) then
     some (Sum.inr (Sum.inl ()))
    else
     some (Sum.inl (IntKind.i64.wrap (t11_ + 1)))
   else
    some (Sum.inl (IntKind.i64.wrap (t11_ + 1)))
  else
   some (Sum.inr (Sum.inl ()))
 else
  some (Sum.inr (Sum.inr ()))
noncomputable def i_increasing_l0 (list : List Int) (low high v : Int) : Option (Unit ⊕ Unit) := itO (fun v => i_increasing_l0_S list low high v) v
noncomputable def i_increasing (list : List Int) (low high : Int) : Option (Bool) :=
 (i_increasing_l0 list low high 0).bind fun r2_ =>
 match r2_ with
 | .inl q2_ =>
  some false
 | .inr q2_ =>
  some true
/-- impl.increasing -/
def k128_l0b : SC :=
 .seq
 (.ops [
 ⟨some 12, .binOp .lss 3 (.tmp 11) (.tmp 10) 3, 0, none⟩])
 (.seq
 (.cond (.tmp 12)
 .skip
 (.exit 0))
 (.seq
 (.block 1
 (.seq
 (.ops [
 ⟨some 13, .move (.tmp 11), 3, none⟩,
 ⟨some 14, .indexAddr 23 (.tmp 9) (.tmp 11), 0, none⟩,
 ⟨some 15, .load 3 (.tmp 14), 3, none⟩,
 ⟨some 7, .assign (.tmp 13), 3, none⟩,
 ⟨some 8, .assign (.tmp 15), 3, none⟩])
 (.seq
 (.ops [
 ⟨some 16, .move (.tmp 8), 3, none⟩,
 ⟨some 17, .move (.tmp 1), 3, none⟩,
 ⟨some 18, .move (.tmp 2), 3, none⟩,
 ⟨some 19, .call ⟨(.value (.func 77)), #[(.tmp 16), (.tmp 17), (.tmp 18)], #[3, 3, 3]⟩, 4, none⟩,
 ⟨some 20, .unOp .not 4 (.tmp 19), 4, none⟩,
 ⟨some 21, .move (.tmp 20), 4, none⟩,
 ⟨some 22, .move (.tmp 7), 3, (some (some 21, false))⟩,
 ⟨some 23, .binOp .gtr 3 (.tmp 22) (.const (.int .i64 0)) 3, 4, (some (some 21, false))⟩,
 ⟨some 24, .move (.tmp 23), 4, (some (some 21, false))⟩,
 ⟨some 25, .move (.tmp 0), 23, (some (some 24, true))⟩,
 ⟨some 26, .move (.tmp 7), 3, (some (some 24, true))⟩,
 ⟨some 27, .binOp .sub 3 (.tmp 26) (.const (.int .i64 1)) 3, 3, (some (some 24, true))⟩,
 ⟨some 28, .indexAddr 23 (.tmp 25) (.tmp 27), 0, (some (some 24, true))⟩,
 ⟨some 29, .load 3 (.tmp 28), 3, (some (some 24, true))⟩,
 ⟨some 30, .move (.tmp 8), 3, (some (some 24, true))⟩,
 ⟨some 31, .binOp .geq 3 (.tmp 29) (.tmp 30) 3, 4, (some (some 24, true))⟩,
 ⟨some 32, .pick (.tmp 24) (.tmp 31) (.const (.bool false)), 4, (some (some 21, false))⟩,
 ⟨some 33, .pick (.tmp 21) (.const (.bool true)) (.tmp 32), 4, none⟩])
 (.cond (.tmp 33)
 (.seq
 (.ops [
 ⟨some 6, .assign (.const (.bool false)), 4, none⟩])
 .ret)
 .skip))))
 (.ops [
 ⟨some 34, .binOp .add 3 (.tmp 11) (.const (.int .i64 1)) 3, 3, none⟩,
 ⟨some 11, .move (.tmp 34), 3, none⟩])))
def k128_l0 : SC := .loop k128_l0b
def k128 : SC :=
 .seq
 (.ops [
 ⟨some 6, .assign (.const (.bool false)), 4, none⟩])
 (.seq
 (.seq
 (.ops [
 ⟨some 9, .move (.tmp 0), 23, none⟩,
 ⟨some 10, .call ⟨(.builtin .len), #[(.tmp 9)], #[23]⟩, 3, none⟩,
 ⟨some 11, .move (.const (.int .i64 0)), 3, none⟩])
 (.block 0
 k128_l0))
 (.seq
 (.ops [
 ⟨some 6, .assign (.const (.bool true)), 4, none⟩])
 .ret))
theorem slim128 : Try.f128.body.map (slim lends) = some k128 := by kernel_rfl
theorem ok128 : fnOk Try.f128 3 = true := by kernel_rfl
theorem c128 {a l : List D} {r : D × List D} (h : wpD Y.env k128 (fin tys l.length [ResultVar.tmp 6] r) (entry a l)) (ha : a.length = 3) : Y.call 128 a l = some r :=
 call_slim (Y := Y) rfl Try.func128 (ha ▸ ok128) slim128 h
def i_increasing_l0_M (list : List Int) (low high t11_ : Int) (s : St) : Prop := s.v 0 = D.sl 3 (lst (D.int .i64) list) ∧ s.v 1 = D.int .i64 low ∧ s.v 2 = D.int .i64 high ∧ s.v 9 = D.sl 3 (lst (D.int .i64) list) ∧ s.v 10 = D.int .i64 (list.length : Int) ∧ s.v 11 = D.int .i64 t11_
def i_increasing_l0_X (list : List Int) (low high : Int) (r : Unit ⊕ Unit) (ex : Ex) (s : St) : Prop := match r with
 | .inl q => ex = .ret ∧ s.v 6 = D.bool false
 | .inr q => ex = .exit 0
theorem i_increasing_l0_wp (list : List Int) (low high : Int) {v : Int} {s : St} {r : Unit ⊕ Unit} (h : i_increasing_l0 list low high v = some r) (hM : i_increasing_l0_M list low high v s) : wpD Y.env k128_l0 (i_increasing_l0_X list low high r) s := by
 unfold i_increasing_l0 at h
 refine wd_itO (c := k128_l0b) (fun v => i_increasing_l0_S list low high v) (fun v s => i_increasing_l0_M list low high v s) (i_increasing_l0_X list low high) ?_ h hM
 clear h hM s v r
 intro t11_ s o hM h
 unfold i_increasing_l0_S at h
 unfold i_increasing_l0_M at hM
 obtain ⟨m0, m1, m2, m3, m4, m5⟩ := hM
 unfold k128_l0b
 by_cases e1 : t11_ < (list.length : Int)
 ·rw [if_pos e1] at h
  obtain ⟨e2, h⟩ := ckS h
  have c3 := i_within_cl (list.getD t11_.toNat default) low high
  by_cases e4 : (inR (list.getD t11_.toNat default) low high) = true
  ·rw [if_pos e4] at h
   by_cases e5 : 0 < t11_
   ·rw [if_pos e5] at h
    obtain ⟨e6, h⟩ := ckS h
    by_cases e7 : (list.getD t11_.toNat default) ≤ (list.getD ((IntKind.i64.wrap (t11_ - 1)).toNat) default)
    ·rw [if_pos e7] at h
     cases h
     simp (maxDischargeDepth := 9) only [↓xpre, xpost, xlst, xcore, yset, ↓reduceIte, Nat.reduceEqDiff, Nat.reduceLT, Nat.reduceAdd, m0, m1, m2, m3, m4, m5, e1, e2.1, e2.2, c3, e4, e5, e6.1, e6.2, e7, i_increasing_l0_M, i_increasing_l0_X, sxR] <;> (repeat' apply And.intro) <;> first | rfl | exact ⟨_, rfl⟩ | exact ⟨_, _, rfl⟩ | simp [lst, cat2_nil]
    ·rw [if_neg e7] at h
     cases h
     simp (maxDischargeDepth := 9) only [↓xpre, xpost, xlst, xcore, yset, ↓reduceIte, Nat.reduceEqDiff, Nat.reduceLT, Nat.reduceAdd, m0, m1, m2, m3, m4, m5, e1, e2.1, e2.2, c3, e4, e5, e6.1, e6.2, e7, i_increasing_l0_M, sxN] <;> (repeat' apply And.intro) <;> first | rfl | exact ⟨_, rfl⟩ | exact ⟨_, _, rfl⟩ | simp [lst, cat2_nil]
   ·rw [if_neg e5] at h
    cases h
    simp (maxDischargeDepth := 9) only [↓xpre, xpost, xlst, xcore, yset, ↓reduceIte, Nat.reduceEqDiff, Nat.reduceLT, Nat.reduceAdd, m0, m1, m2, m3, m4, m5, e1, e2.1, e2.2, c3, e4, e5, i_increasing_l0_M, sxN] <;> (repeat' apply And.intro) <;> first | rfl | exact ⟨_, rfl⟩ | exact ⟨_, _, rfl⟩ | simp [lst, cat2_nil]
  ·rw [if_neg e4] at h
   have e4f : (inR (list.getD t11_.toNat default) low high) = false := Bool.eq_false_iff.mpr e4
   cases h
   simp (maxDischargeDepth := 9) only [↓xpre, xpost, xlst, xcore, yset, ↓reduceIte, Nat.reduceEqDiff, Nat.reduceLT, Nat.reduceAdd, m1, m2, m3, m4, m5, e1, e2.1, e2.2, c3, e4f, i_increasing_l0_M, i_increasing_l0_X, sxR] <;> (repeat' apply And.intro) <;> first | rfl | exact ⟨_, rfl⟩ | exact ⟨_, _, rfl⟩ | simp [lst, cat2_nil]
 ·rw [if_neg e1] at h
  cases h
  simp (maxDischargeDepth := 9) only [↓xpre, xpost, yset, ↓reduceIte, Nat.reduceLT, m4, m5, e1, i_increasing_l0_M, i_increasing_l0_X, sxE] <;> (repeat' apply And.intro) <;> first | rfl | exact ⟨_, rfl⟩ | exact ⟨_, _, rfl⟩ | simp [lst, cat2_nil]
theorem i_increasing_call (list : List Int) (low high : Int) {r : Bool} (h : i_increasing list low high = some r) : Y.call 128 [D.sl 3 (lst (D.int .i64) list), D.int .i64 low, D.int .i64 high] [] = some (D.bool r, []) := by
 refine c128 ?_ rfl
 unfold k128
 unfold i_increasing at h
 obtain ⟨r2_, hl2, h⟩ := bindS h
 try dsimp only at h
 simp (maxDischargeDepth := 9) only [↓xpre, xpost, xlst, xcore, yset, ↓reduceIte, Nat.reduceEqDiff, Nat.reduceLT]
 refine wd_mono (i_increasing_l0_wp list low high hl2 ?_) ?_
 ·simp (maxDischargeDepth := 9) only [xpost, xcore, ↓reduceIte, Nat.reduceEqDiff, Nat.reduceLT, i_increasing_l0_M] <;> (repeat' apply And.intro) <;> first | rfl | exact ⟨_, rfl⟩ | exact ⟨_, _, rfl⟩ | simp [lst, cat2_nil]
 ·intro ex2 s2 hX2
  rcases r2_ with q2_ | q2_
  ·unfold i_increasing_l0_X at hX2
   dsimp only at hX2 h
   obtain ⟨rfl, n2_0⟩ := hX2
   cases h
   simp (maxDischargeDepth := 9) only [↓xpre, xpost, xcore, ↓reduceIte, n2_0] <;> (repeat' apply And.intro) <;> first | rfl | exact ⟨_, rfl⟩ | exact ⟨_, _, rfl⟩ | simp [lst, cat2_nil]
  ·unfold i_increasing_l0_X at hX2
   dsimp only at hX2 h
   obtain rfl := hX2
   cases h
   simp (maxDischargeDepth := 9) only [↓xpre, xpost, xcore, yset, ↓reduceIte, Nat.reduceEqDiff, Nat.reduceLT] <;> (repeat' apply And.intro) <;> first | rfl | exact ⟨_, rfl⟩ | exact ⟨_, _, rfl⟩ | simp [lst, cat2_nil]

/-- Numbers of a range that increase. -/
def incrB (l : List Int) (lo hi : Int) : Bool := (List.range l.length).all fun i => inR (l.getD i default) lo hi && (decide (i = 0) || decide (l.getD (i - 1) default < l.getD i default))
theorem i_increasing_eq (l : List Int) (lo hi : Int) (h : l.length < 1099511627776) : i_increasing l lo hi = some (incrB l lo hi) := by
 have key := itO_all (fun v => i_increasing_l0_S l lo hi v) (fun i => (i : Int)) l.length (fun i => inR (l.getD i default) lo hi && (decide (i = 0) || decide (l.getD (i - 1) default < l.getD i default))) (.inl ()) (.inr ()) ?_ ?_
 ·rw [Int.natCast_zero] at key
  unfold i_increasing i_increasing_l0 incrB
  rw [key]
  cases (List.range l.length).all fun i => inR (l.getD i default) lo hi && (decide (i = 0) || decide (l.getD (i - 1) default < l.getD i default)) <;> rfl
 ·intro i hi'
  simp only [i_increasing_l0_S, Int.toNat_natCast]
  rw [if_pos (lt_nat hi'), ckT (by omega), wrS i (by omega)]
  cases hr : inR (l.getD i default) lo hi with
  | false => simp
  | true =>
   by_cases h0 : i = 0
   ·subst h0
    rw [if_pos rfl, if_neg (by omega)]
    simp
   ·rw [if_pos rfl, if_pos (by omega), wr64 _ (by omega), ckT (by omega), show ((i : Int) - 1).toNat = i - 1 by omega, decide_eq_false h0]
    by_cases hlt : l.getD (i - 1) default < l.getD i default
    ·rw [if_neg (by omega), decide_eq_true hlt]; rfl
    ·rw [if_pos (by omega), decide_eq_false hlt]; rfl
 ·simp only [i_increasing_l0_S]
  rw [if_neg (not_lt_nat _)]
theorem i_increasing_cl (list : List Int) (low high : Int) (h0 : list.length < 1099511627776) : Y.call 128 [D.sl 3 (lst (D.int .i64) list), D.int .i64 low, D.int .i64 high] [] = some (D.bool (incrB list low high), []) := i_increasing_call list low high (i_increasing_eq list low high h0)
theorem incrB_pair {l : List Int} {lo hi : Int} (h : incrB l lo hi = true) : l.Pairwise (fun a b => a < b) ∧ ∀ x ∈ l, inR x lo hi = true := by
 have h0 := range_all.1 h
 have step : ∀ i, i + 1 < l.length → l.getD i default < l.getD (i + 1) default := fun i hi => by
  have := h0 (i + 1) hi
  rw [Bool.and_eq_true] at this
  simpa using this.2
 have far : ∀ (d i : Nat), i + d + 1 < l.length → l.getD i default < l.getD (i + d + 1) default := by
  intro d
  induction d with
  | zero => intro i hi; exact step i hi
  | succ d ih =>
   intro i hi
   have h1 := ih i (by omega)
   have h2 := step (i + d + 1) (by omega)
   rw [show i + (d + 1) + 1 = i + d + 1 + 1 by omega]
   omega
 refine ⟨List.pairwise_iff_getElem.2 fun i j hi hj hij => ?_, fun x hx => ?_⟩
 ·have := far (j - i - 1) i (by omega)
  rw [show i + (j - i - 1) + 1 = j by omega, getD_get _ _ hi, getD_get _ _ hj] at this
  exact this
 ·obtain ⟨i, hi, rfl⟩ := List.getElem_of_mem hx
  have := h0 i hi
  rw [Bool.and_eq_true, getD_get _ _ hi] at this
  exact this.1
theorem incrB_of {l : List Int} {lo hi : Int} (h1 : l.Pairwise (fun a b => a < b)) (h2 : ∀ x ∈ l, inR x lo hi = true) : incrB l lo hi = true := by
 refine range_all.2 fun i hi => ?_
 rw [Bool.and_eq_true]
 refine ⟨by rw [getD_get _ _ hi]; exact h2 _ (List.getElem_mem hi), ?_⟩
 by_cases h0 : i = 0
 ·rw [decide_eq_true h0]; rfl
 ·have := List.pairwise_iff_getElem.1 h1 (i - 1) i (by omega) hi (by omega)
  rw [Bool.or_eq_true]
  right
  rw [decide_eq_true_eq, getD_get _ _ hi, getD_get _ _ (by omega : i - 1 < l.length)]
  exact this
/-- Identifiers of some nodes. -/
def idsB (ids : List Int) (n : Int) : Bool := decide (ids.length = 0) || (decide ((ids.length : Int) = n) && (decide ids.Nodup && allIn ids 1 999999))
theorem incrB_sort (ids : List Int) (lo hi : Int) : incrB (sortI ids) lo hi = (decide ids.Nodup && allIn ids lo hi) := by
 rw [Bool.eq_iff_iff, Bool.and_eq_true, decide_eq_true_eq]
 have hp := sortI_perm ids
 unfold allIn
 rw [List.all_eq_true]
 constructor
 ·intro h
  obtain ⟨h1, h2⟩ := incrB_pair h
  refine ⟨hp.nodup_iff.1 (h1.imp fun h => by omega), fun x hx => h2 x (hp.mem_iff.2 hx)⟩
 ·rintro ⟨h1, h2⟩
  refine incrB_of ?_ fun x hx => h2 x (hp.mem_iff.1 hx)
  have hn : (sortI ids).Pairwise (fun a b => a ≠ b) := hp.nodup_iff.2 h1
  exact ((sortI_pair ids).and hn).imp fun h => by omega
theorem g_slices_Clone_Sint_int_cl (xs : List Int) (h : xs.length < 1099511627776) : Y.call 126 [.sl 3 (lst (D.int .i64) xs)] [] = some (.own 3 (lst (D.int .i64) xs), []) := by
 refine clone_126 (lst (D.int .i64) xs) (by rw [lst_length]; exact h) (lst_solid _ _ (fun x => rfl)) (lst_hasObj _ _ (fun x => by first | exact hoI .. | exact hoSl .. | exact hoB .. | exact hoS ..)) ?_
 simp (maxDischargeDepth := 9) only [xpost, xlst, xcore]

noncomputable def i_idsOk (ids : List Int) (nodes : Int) : Option (Bool) :=
 if (ids.length : Int) = 0 then
  some true
 else
  ck (ids.length < 1099511627776) <|
  ck (ids.length < 4611686018427387904) <|
  if (ids.length : Int) = nodes then
   ck ((sortM ids).length < 1099511627776) <|
   some (incrB (sortM ids) (1 : Int) (999999 : Int))
  else
   some false
/-- impl.idsOk -/
def k78 : SC :=
 .seq
 (.ops [
 ⟨some 4, .assign (.const (.bool false)), 4, none⟩])
 (.seq
 (.seq
 (.ops [
 ⟨some 6, .move (.tmp 0), 23, none⟩,
 ⟨some 7, .call ⟨(.builtin .len), #[(.tmp 6)], #[23]⟩, 3, none⟩,
 ⟨some 8, .binOp .eql 3 (.tmp 7) (.const (.int .i64 0)) 3, 4, none⟩])
 (.cond (.tmp 8)
 (.seq
 (.ops [
 ⟨some 4, .assign (.const (.bool true)), 4, none⟩])
 .ret)
 .skip))
 (.seq
 (.ops [
 ⟨some 9, .move (.tmp 0), 23, none⟩,
 ⟨some 10, .call ⟨(.value (.func 126)), #[(.tmp 9)], #[23]⟩, 23, none⟩,
 ⟨some 5, .assign (.tmp 10), 23, none⟩])
 (.seq
 (.ops [
 ⟨some 11, .move (.tmp 5), 23, none⟩,
 ⟨some 12, .call ⟨(.value (.func 127)), #[(.tmp 11)], #[23]⟩, 0, none⟩])
 (.seq
 (.ops [
 ⟨some 13, .move (.tmp 0), 23, none⟩,
 ⟨some 14, .call ⟨(.builtin .len), #[(.tmp 13)], #[23]⟩, 3, none⟩,
 ⟨some 15, .move (.tmp 1), 3, none⟩,
 ⟨some 16, .binOp .eql 3 (.tmp 14) (.tmp 15) 3, 4, none⟩,
 ⟨some 17, .move (.tmp 16), 4, none⟩,
 ⟨some 18, .move (.tmp 5), 23, (some (some 17, true))⟩,
 ⟨some 19, .call ⟨(.value (.func 128)), #[(.tmp 18), (.const (.int .i64 1)), (.const (.int .i64 999999))], #[23, 3, 3]⟩, 4, (some (some 17, true))⟩,
 ⟨some 20, .pick (.tmp 17) (.tmp 19) (.const (.bool false)), 4, none⟩,
 ⟨some 4, .assign (.tmp 20), 4, none⟩])
 .ret))))
theorem slim78 : Try.f78.body.map (slim lends) = some k78 := by kernel_rfl
theorem ok78 : fnOk Try.f78 2 = true := by kernel_rfl
theorem c78 {a l : List D} {r : D × List D} (h : wpD Y.env k78 (fin tys l.length [ResultVar.tmp 4] r) (entry a l)) (ha : a.length = 2) : Y.call 78 a l = some r :=
 call_slim (Y := Y) rfl Try.func78 (ha ▸ ok78) slim78 h
theorem i_idsOk_call (ids : List Int) (nodes : Int) {r : Bool} (h : i_idsOk ids nodes = some r) : Y.call 78 [D.sl 3 (lst (D.int .i64) ids), D.int .i64 nodes] [] = some (D.bool r, []) := by
 refine c78 ?_ rfl
 unfold k78
 unfold i_idsOk at h
 by_cases e1 : (ids.length : Int) = 0
 ·rw [if_pos e1] at h
  cases h
  simp (maxDischargeDepth := 9) only [↓xpre, xpost, xlst, xcore, yset, ↓reduceIte, Nat.reduceEqDiff, Nat.reduceLT, decide_eq_true e1] <;> (repeat' apply And.intro) <;> first | rfl | exact ⟨_, rfl⟩ | exact ⟨_, _, rfl⟩ | simp [lst, cat2_nil]
 ·rw [if_neg e1] at h
  obtain ⟨e2, h⟩ := ckS h
  have c3 := g_slices_Clone_Sint_int_cl ids e2
  obtain ⟨e4, h⟩ := ckS h
  have c5 := sort_127 ids e4
  by_cases e6 : (ids.length : Int) = nodes
  ·rw [if_pos e6] at h
   obtain ⟨e7, h⟩ := ckS h
   have c8 := i_increasing_cl (sortM ids) (1 : Int) (999999 : Int) e7
   cases h
   simp (maxDischargeDepth := 9) only [↓xpre, xpost, xlst, xcore, yset, ↓reduceIte, Nat.reduceEqDiff, Nat.reduceLT, Nat.reduceAdd, e1, c3, c5, decide_eq_true e6, c8] <;> (repeat' apply And.intro) <;> first | rfl | exact ⟨_, rfl⟩ | exact ⟨_, _, rfl⟩ | simp [lst, cat2_nil]
  ·rw [if_neg e6] at h
   cases h
   simp (maxDischargeDepth := 9) only [↓xpre, xpost, xlst, xcore, yset, ↓reduceIte, Nat.reduceEqDiff, Nat.reduceLT, Nat.reduceAdd, e1, c3, c5, e6] <;> (repeat' apply And.intro) <;> first | rfl | exact ⟨_, rfl⟩ | exact ⟨_, _, rfl⟩ | simp [lst, cat2_nil]

noncomputable def s_neIds_l0_S (ids : List Int) (nodes t9_ : Int) : Option ((Int) ⊕ (Unit ⊕ Unit)) :=
 if t9_ < (ids.length : Int) then
  ck (0 ≤ t9_ ∧ t9_.toNat < ids.length) <|
  if (inR (ids.getD t9_.toNat default) (1 : Int) (999999 : Int)) = true then
   ck (0 ≤ t9_) <|
   ck (t9_.toNat ≤ ids.length) <|
   ck (((ids.take t9_.toNat).drop 0).length < 1099511627776) <|
   if (((ids.take t9_.toNat).drop 0).contains (ids.getD t9_.toNat default)) = true then
    some (Sum.inr (Sum.inl ()))
   else
    some (Sum.inl (IntKind.i64.wrap (t9_ + 1)))
  else
   some (Sum.inr (Sum.inl ()))
 else
  some (Sum.inr (Sum.inr ()))
noncomputable def s_neIds_l0 (ids : List Int) (nodes v : Int) : Option (Unit ⊕ Unit) := itO (fun v => s_neIds_l0_S ids nodes v) v
noncomputable def s_neIds (ids : List Int) (nodes : Int) : Option (Bool) :=
 (s_neIds_l0 ids nodes 0).bind fun r2_ =>
 match r2_ with
 | .inl q2_ =>
  some false
 | .inr q2_ =>
  if (ids.length : Int) = 0 then
   some true
  else
   some (decide ((ids.length : Int) = nodes))
/-- spec.neIds -/
def k71_l0b : SC :=
 .seq
 (.ops [
 ⟨some 10, .binOp .lss 3 (.tmp 9) (.tmp 8) 3, 0, none⟩])
 (.seq
 (.cond (.tmp 10)
 .skip
 (.exit 0))
 (.seq
 (.block 1
 (.seq
 (.ops [
 ⟨some 11, .move (.tmp 9), 3, none⟩,
 ⟨some 12, .indexAddr 23 (.tmp 7) (.tmp 9), 0, none⟩,
 ⟨some 13, .load 3 (.tmp 12), 3, none⟩,
 ⟨some 5, .assign (.tmp 11), 3, none⟩,
 ⟨some 6, .assign (.tmp 13), 3, none⟩])
 (.seq
 (.ops [
 ⟨some 14, .move (.tmp 6), 3, none⟩,
 ⟨some 15, .call ⟨(.value (.func 43)), #[(.tmp 14), (.const (.int .i64 1)), (.const (.int .i64 999999))], #[3, 3, 3]⟩, 4, none⟩,
 ⟨some 16, .unOp .not 4 (.tmp 15), 4, none⟩,
 ⟨some 17, .move (.tmp 16), 4, none⟩,
 ⟨some 18, .move (.tmp 0), 23, (some (some 17, false))⟩,
 ⟨some 19, .move (.tmp 5), 3, (some (some 17, false))⟩,
 ⟨some 20, .slice 23 (.tmp 18) none (some (.tmp 19)) none, 900001, (some (some 17, false))⟩,
 ⟨some 21, .move (.tmp 6), 3, (some (some 17, false))⟩,
 ⟨some 22, .call ⟨(.value (.func 92)), #[(.tmp 20), (.tmp 21)], #[23, 3]⟩, 4, (some (some 17, false))⟩,
 ⟨some 23, .pick (.tmp 17) (.const (.bool true)) (.tmp 22), 4, none⟩])
 (.cond (.tmp 23)
 (.seq
 (.ops [
 ⟨some 4, .assign (.const (.bool false)), 4, none⟩])
 .ret)
 .skip))))
 (.ops [
 ⟨some 24, .binOp .add 3 (.tmp 9) (.const (.int .i64 1)) 3, 3, none⟩,
 ⟨some 9, .move (.tmp 24), 3, none⟩])))
def k71_l0 : SC := .loop k71_l0b
def k71 : SC :=
 .seq
 (.ops [
 ⟨some 4, .assign (.const (.bool false)), 4, none⟩])
 (.seq
 (.seq
 (.ops [
 ⟨some 7, .move (.tmp 0), 23, none⟩,
 ⟨some 8, .call ⟨(.builtin .len), #[(.tmp 7)], #[23]⟩, 3, none⟩,
 ⟨some 9, .move (.const (.int .i64 0)), 3, none⟩])
 (.block 0
 k71_l0))
 (.seq
 (.ops [
 ⟨some 25, .move (.tmp 0), 23, none⟩,
 ⟨some 26, .call ⟨(.builtin .len), #[(.tmp 25)], #[23]⟩, 3, none⟩,
 ⟨some 27, .binOp .eql 3 (.tmp 26) (.const (.int .i64 0)) 3, 4, none⟩,
 ⟨some 28, .move (.tmp 27), 4, none⟩,
 ⟨some 29, .move (.tmp 0), 23, (some (some 28, false))⟩,
 ⟨some 30, .call ⟨(.builtin .len), #[(.tmp 29)], #[23]⟩, 3, (some (some 28, false))⟩,
 ⟨some 31, .move (.tmp 1), 3, (some (some 28, false))⟩,
 ⟨some 32, .binOp .eql 3 (.tmp 30) (.tmp 31) 3, 4, (some (some 28, false))⟩,
 ⟨some 33, .pick (.tmp 28) (.const (.bool true)) (.tmp 32), 4, none⟩,
 ⟨some 4, .assign (.tmp 33), 4, none⟩])
 .ret))
theorem slim71 : Try.f71.body.map (slim lends) = some k71 := by kernel_rfl
theorem ok71 : fnOk Try.f71 2 = true := by kernel_rfl
theorem c71 {a l : List D} {r : D × List D} (h : wpD Y.env k71 (fin tys l.length [ResultVar.tmp 4] r) (entry a l)) (ha : a.length = 2) : Y.call 71 a l = some r :=
 call_slim (Y := Y) rfl Try.func71 (ha ▸ ok71) slim71 h
def s_neIds_l0_M (ids : List Int) (nodes t9_ : Int) (s : St) : Prop := s.v 0 = D.sl 3 (lst (D.int .i64) ids) ∧ s.v 1 = D.int .i64 nodes ∧ s.v 7 = D.sl 3 (lst (D.int .i64) ids) ∧ s.v 8 = D.int .i64 (ids.length : Int) ∧ s.v 9 = D.int .i64 t9_
def s_neIds_l0_X (ids : List Int) (nodes : Int) (r : Unit ⊕ Unit) (ex : Ex) (s : St) : Prop := match r with
 | .inl q => ex = .ret ∧ s.v 4 = D.bool false
 | .inr q => ex = .exit 0 ∧ s.v 0 = D.sl 3 (lst (D.int .i64) ids) ∧ s.v 1 = D.int .i64 nodes
theorem s_neIds_l0_wp (ids : List Int) (nodes : Int) {v : Int} {s : St} {r : Unit ⊕ Unit} (h : s_neIds_l0 ids nodes v = some r) (hM : s_neIds_l0_M ids nodes v s) : wpD Y.env k71_l0 (s_neIds_l0_X ids nodes r) s := by
 unfold s_neIds_l0 at h
 refine wd_itO (c := k71_l0b) (fun v => s_neIds_l0_S ids nodes v) (fun v s => s_neIds_l0_M ids nodes v s) (s_neIds_l0_X ids nodes) ?_ h hM
 clear h hM s v r
 intro t9_ s o hM h
 unfold s_neIds_l0_S at h
 unfold s_neIds_l0_M at hM
 obtain ⟨m0, m1, m2, m3, m4⟩ := hM
 unfold k71_l0b
 by_cases e1 : t9_ < (ids.length : Int)
 ·rw [if_pos e1] at h
  obtain ⟨e2, h⟩ := ckS h
  have c3 := s_l1In_cl (ids.getD t9_.toNat default) (1 : Int) (999999 : Int)
  by_cases e4 : (inR (ids.getD t9_.toNat default) (1 : Int) (999999 : Int)) = true
  ·rw [if_pos e4] at h
   obtain ⟨e5, h⟩ := ckS h
   obtain ⟨e6, h⟩ := ckS h
   obtain ⟨e7, h⟩ := ckS h
   have c8 := s_l1Has_cl ((ids.take t9_.toNat).drop 0) (ids.getD t9_.toNat default) e7
   by_cases e9 : (((ids.take t9_.toNat).drop 0).contains (ids.getD t9_.toNat default)) = true
   ·rw [if_pos e9] at h
    cases h
    simp (maxDischargeDepth := 9) only [↓xpre, xpost, xlst, xcore, yset, ↓reduceIte, Nat.reduceEqDiff, Nat.reduceLT, Nat.reduceAdd, m0, m2, m3, m4, e1, e2.1, e2.2, c3, e4, e6, c8, e9, s_neIds_l0_M, s_neIds_l0_X, sxR] <;> (repeat' apply And.intro) <;> first | rfl | exact ⟨_, rfl⟩ | exact ⟨_, _, rfl⟩ | simp [lst, cat2_nil]
   ·rw [if_neg e9] at h
    have e9f : (((ids.take t9_.toNat).drop 0).contains (ids.getD t9_.toNat default)) = false := Bool.eq_false_iff.mpr e9
    cases h
    simp (maxDischargeDepth := 9) only [↓xpre, xpost, xlst, xcore, yset, ↓reduceIte, Nat.reduceEqDiff, Nat.reduceLT, Nat.reduceAdd, m0, m1, m2, m3, m4, e1, e2.1, e2.2, c3, e4, e6, c8, e9f, s_neIds_l0_M, sxN] <;> (repeat' apply And.intro) <;> first | rfl | exact ⟨_, rfl⟩ | exact ⟨_, _, rfl⟩ | simp [lst, cat2_nil]
  ·rw [if_neg e4] at h
   have e4f : (inR (ids.getD t9_.toNat default) (1 : Int) (999999 : Int)) = false := Bool.eq_false_iff.mpr e4
   cases h
   simp (maxDischargeDepth := 9) only [↓xpre, xpost, xlst, xcore, yset, ↓reduceIte, Nat.reduceEqDiff, Nat.reduceLT, Nat.reduceAdd, m2, m3, m4, e1, e2.1, e2.2, c3, e4f, s_neIds_l0_M, s_neIds_l0_X, sxR] <;> (repeat' apply And.intro) <;> first | rfl | exact ⟨_, rfl⟩ | exact ⟨_, _, rfl⟩ | simp [lst, cat2_nil]
 ·rw [if_neg e1] at h
  cases h
  simp (maxDischargeDepth := 9) only [↓xpre, xpost, yset, ↓reduceIte, Nat.reduceEqDiff, Nat.reduceLT, m0, m1, m3, m4, e1, s_neIds_l0_M, s_neIds_l0_X, sxE] <;> (repeat' apply And.intro) <;> first | rfl | exact ⟨_, rfl⟩ | exact ⟨_, _, rfl⟩ | simp [lst, cat2_nil]
theorem s_neIds_call (ids : List Int) (nodes : Int) {r : Bool} (h : s_neIds ids nodes = some r) : Y.call 71 [D.sl 3 (lst (D.int .i64) ids), D.int .i64 nodes] [] = some (D.bool r, []) := by
 refine c71 ?_ rfl
 unfold k71
 unfold s_neIds at h
 obtain ⟨r2_, hl2, h⟩ := bindS h
 try dsimp only at h
 simp (maxDischargeDepth := 9) only [↓xpre, xpost, xlst, xcore, yset, ↓reduceIte, Nat.reduceEqDiff, Nat.reduceLT]
 refine wd_mono (s_neIds_l0_wp ids nodes hl2 ?_) ?_
 ·simp (maxDischargeDepth := 9) only [xpost, xcore, ↓reduceIte, Nat.reduceEqDiff, Nat.reduceLT, s_neIds_l0_M] <;> (repeat' apply And.intro) <;> first | rfl | exact ⟨_, rfl⟩ | exact ⟨_, _, rfl⟩ | simp [lst, cat2_nil]
 ·intro ex2 s2 hX2
  rcases r2_ with q2_ | q2_
  ·unfold s_neIds_l0_X at hX2
   dsimp only at hX2 h
   obtain ⟨rfl, n2_0⟩ := hX2
   cases h
   simp (maxDischargeDepth := 9) only [↓xpre, xpost, xcore, ↓reduceIte, n2_0] <;> (repeat' apply And.intro) <;> first | rfl | exact ⟨_, rfl⟩ | exact ⟨_, _, rfl⟩ | simp [lst, cat2_nil]
  ·unfold s_neIds_l0_X at hX2
   dsimp only at hX2 h
   obtain ⟨rfl, n2_0, n2_1⟩ := hX2
   by_cases e3 : (ids.length : Int) = 0
   ·rw [if_pos e3] at h
    cases h
    simp (maxDischargeDepth := 9) only [↓xpre, xpost, xlst, xcore, yset, ↓reduceIte, Nat.reduceEqDiff, Nat.reduceLT, n2_0, decide_eq_true e3] <;> (repeat' apply And.intro) <;> first | rfl | exact ⟨_, rfl⟩ | exact ⟨_, _, rfl⟩ | simp [lst, cat2_nil]
   ·rw [if_neg e3] at h
    cases h
    simp (maxDischargeDepth := 9) only [↓xpre, xpost, xlst, xcore, yset, ↓reduceIte, Nat.reduceEqDiff, Nat.reduceLT, n2_0, n2_1, e3] <;> (repeat' apply And.intro) <;> first | rfl | exact ⟨_, rfl⟩ | exact ⟨_, _, rfl⟩ | simp [lst, cat2_nil]

theorem i_idsOk_eq (ids : List Int) (n : Int) (h : ids.length < 1099511627776) : i_idsOk ids n = some (idsB ids n) := by
 unfold i_idsOk idsB
 by_cases h0 : ids.length = 0
 ·rw [if_pos (by omega), decide_eq_true h0]; rfl
 ·rw [if_neg (by omega), ckT h, ckT (by omega), decide_eq_false h0, Bool.false_or]
  by_cases h1 : (ids.length : Int) = n
  ·rw [if_pos h1, sortM_eq, ckT (by rw [sortI_len]; exact h), incrB_sort, decide_eq_true h1]; rfl
  ·rw [if_neg h1, decide_eq_false h1]; rfl
theorem nodup_all (ids : List Int) : (List.range ids.length).all (fun i => inR (ids.getD i default) 1 999999 && !(ids.take i).contains (ids.getD i default)) = (decide ids.Nodup && allIn ids 1 999999) := by
 rw [Bool.eq_iff_iff, range_all, Bool.and_eq_true, decide_eq_true_eq]
 unfold allIn
 rw [List.all_eq_true]
 constructor
 ·intro h
  refine ⟨List.pairwise_iff_getElem.2 fun i j hi hj hij he => ?_, fun x hx => ?_⟩
  ·have := h j hj
   rw [Bool.and_eq_true, Bool.not_eq_true', ← Bool.not_eq_true, List.contains_iff_mem, getD_get _ _ hj] at this
   refine this.2 ?_
   rw [← he]
   exact List.mem_take_iff_getElem.2 ⟨i, by omega, rfl⟩
  ·obtain ⟨i, hi, rfl⟩ := List.getElem_of_mem hx
   have := h i hi
   rw [Bool.and_eq_true, getD_get _ _ hi] at this
   exact this.1
 ·rintro ⟨h1, h2⟩ i hi
  rw [Bool.and_eq_true, Bool.not_eq_true', ← Bool.not_eq_true, List.contains_iff_mem, getD_get _ _ hi]
  refine ⟨h2 _ (List.getElem_mem hi), fun hm => ?_⟩
  obtain ⟨j, hj, he⟩ := List.mem_take_iff_getElem.1 hm
  exact List.pairwise_iff_getElem.1 h1 j i (by omega) hi (by omega) he
theorem s_neIds_eq (ids : List Int) (n : Int) (h : ids.length < 1099511627776) : s_neIds ids n = some (idsB ids n) := by
 have key := itO_all (fun v => s_neIds_l0_S ids n v) (fun i => (i : Int)) ids.length (fun i => inR (ids.getD i default) 1 999999 && !(ids.take i).contains (ids.getD i default)) (.inl ()) (.inr ()) ?_ ?_
 ·rw [Int.natCast_zero, nodup_all] at key
  unfold s_neIds s_neIds_l0 idsB
  rw [key, Option.bind_some]
  by_cases h0 : ids.length = 0
  ·have : ids = [] := List.eq_nil_of_length_eq_zero h0
   subst this
   simp [allIn]
  ·rw [decide_eq_false h0, Bool.false_or]
   cases decide ids.Nodup && allIn ids 1 999999 with
   | false => rw [Bool.and_false]; rfl
   | true => rw [Bool.and_true, if_pos rfl]; simp only; rw [if_neg (by omega)]
 ·intro i hi
  simp only [s_neIds_l0_S, Int.toNat_natCast, List.drop_zero]
  rw [if_pos (lt_nat hi), ckT (by omega), ckT (by omega), ckT (by omega), ckT (by rw [List.length_take]; omega), wrS i (by omega)]
  cases inR (ids.getD i default) 1 999999 <;> cases (ids.take i).contains (ids.getD i default) <;> rfl
 ·simp only [s_neIds_l0_S]
  rw [if_neg (not_lt_nat _)]
theorem i_idsOk_cl (ids : List Int) (nodes : Int) (h0 : ids.length < 1099511627776) : Y.call 78 [D.sl 3 (lst (D.int .i64) ids), D.int .i64 nodes] [] = some (D.bool (idsB ids nodes), []) := i_idsOk_call ids nodes (i_idsOk_eq ids nodes h0)
theorem s_neIds_cl (ids : List Int) (nodes : Int) (h0 : ids.length < 1099511627776) : Y.call 71 [D.sl 3 (lst (D.int .i64) ids), D.int .i64 nodes] [] = some (D.bool (idsB ids nodes), []) := s_neIds_call ids nodes (s_neIds_eq ids nodes h0)
noncomputable def i_inputsOk (inputs : List Int) (nodes : Int) : Option (Bool) :=
 if (inputs.length : Int) = nodes then
  ck (inputs.length < 1099511627776) <|
  some (allIn inputs (0 : Int) (9 : Int))
 else
  some false
/-- impl.inputsOk -/
def k79 : SC :=
 .seq
 (.ops [
 ⟨some 4, .assign (.const (.bool false)), 4, none⟩])
 (.seq
 (.ops [
 ⟨some 5, .move (.tmp 0), 23, none⟩,
 ⟨some 6, .call ⟨(.builtin .len), #[(.tmp 5)], #[23]⟩, 3, none⟩,
 ⟨some 7, .move (.tmp 1), 3, none⟩,
 ⟨some 8, .binOp .eql 3 (.tmp 6) (.tmp 7) 3, 4, none⟩,
 ⟨some 9, .move (.tmp 8), 4, none⟩,
 ⟨some 10, .move (.tmp 0), 23, (some (some 9, true))⟩,
 ⟨some 11, .call ⟨(.value (.func 83)), #[(.tmp 10), (.const (.int .i64 0)), (.const (.int .i64 9))], #[23, 3, 3]⟩, 4, (some (some 9, true))⟩,
 ⟨some 12, .pick (.tmp 9) (.tmp 11) (.const (.bool false)), 4, none⟩,
 ⟨some 4, .assign (.tmp 12), 4, none⟩])
 .ret)
theorem slim79 : Try.f79.body.map (slim lends) = some k79 := by kernel_rfl
theorem ok79 : fnOk Try.f79 2 = true := by kernel_rfl
theorem c79 {a l : List D} {r : D × List D} (h : wpD Y.env k79 (fin tys l.length [ResultVar.tmp 4] r) (entry a l)) (ha : a.length = 2) : Y.call 79 a l = some r :=
 call_slim (Y := Y) rfl Try.func79 (ha ▸ ok79) slim79 h
theorem i_inputsOk_call (inputs : List Int) (nodes : Int) {r : Bool} (h : i_inputsOk inputs nodes = some r) : Y.call 79 [D.sl 3 (lst (D.int .i64) inputs), D.int .i64 nodes] [] = some (D.bool r, []) := by
 refine c79 ?_ rfl
 unfold k79
 unfold i_inputsOk at h
 by_cases e1 : (inputs.length : Int) = nodes
 ·rw [if_pos e1] at h
  obtain ⟨e2, h⟩ := ckS h
  have c3 := i_allWithin_cl inputs (0 : Int) (9 : Int) e2
  cases h
  simp (maxDischargeDepth := 9) only [↓xpre, xpost, xlst, xcore, yset, ↓reduceIte, Nat.reduceEqDiff, Nat.reduceLT, Nat.reduceAdd, decide_eq_true e1, c3] <;> (repeat' apply And.intro) <;> first | rfl | exact ⟨_, rfl⟩ | exact ⟨_, _, rfl⟩ | simp [lst, cat2_nil]
 ·rw [if_neg e1] at h
  cases h
  simp (maxDischargeDepth := 9) only [↓xpre, xpost, xlst, xcore, yset, ↓reduceIte, Nat.reduceEqDiff, Nat.reduceLT, e1] <;> (repeat' apply And.intro) <;> first | rfl | exact ⟨_, rfl⟩ | exact ⟨_, _, rfl⟩ | simp [lst, cat2_nil]

noncomputable def i_Network_hasNode (n_Ends : List (List (Int × Int))) (n_Ids n_Inputs : List Int) (v_ : Int) : Option (Bool) :=
 some (inR v_ (0 : Int) (IntKind.i64.wrap ((n_Ends.length : Int) - 1)))
/-- impl.Network).hasNode -/
def k94 : SC :=
 .seq
 (.ops [
 ⟨some 2, .box 31 (.tmp 0), 0, none⟩,
 ⟨some 4, .assign (.const (.bool false)), 4, none⟩])
 (.seq
 (.ops [
 ⟨some 5, .move (.tmp 1), 3, none⟩,
 ⟨some 6, .fieldAddr 31 (.tmp 2) 0, 0, none⟩,
 ⟨some 7, .load 29 (.tmp 6), 29, none⟩,
 ⟨some 8, .call ⟨(.builtin .len), #[(.tmp 7)], #[29]⟩, 3, none⟩,
 ⟨some 9, .binOp .sub 3 (.tmp 8) (.const (.int .i64 1)) 3, 3, none⟩,
 ⟨some 10, .call ⟨(.value (.func 77)), #[(.tmp 5), (.const (.int .i64 0)), (.tmp 9)], #[3, 3, 3]⟩, 4, none⟩,
 ⟨some 4, .assign (.tmp 10), 4, none⟩])
 .ret)
theorem slim94 : Try.f94.body.map (slim lends) = some k94 := by kernel_rfl
theorem ok94 : fnOk Try.f94 2 = true := by kernel_rfl
theorem c94 {a l : List D} {r : D × List D} (h : wpD Y.env k94 (fin tys l.length [ResultVar.tmp 4] r) (entry a l)) (ha : a.length = 2) : Y.call 94 a l = some r :=
 call_slim (Y := Y) rfl Try.func94 (ha ▸ ok94) slim94 h
theorem i_Network_hasNode_call (n_Ends : List (List (Int × Int))) (n_Ids n_Inputs : List Int) (v_ : Int) {r : Bool} (h : i_Network_hasNode n_Ends n_Ids n_Inputs v_ = some r) : Y.call 94 [D.agg [D.sl 100 (lst (fun x => D.sl 102 (cat2 .i64 .i64 x)) n_Ends), D.sl 3 (lst (D.int .i64) n_Ids), D.sl 3 (lst (D.int .i64) n_Inputs)], D.int .i64 v_] [] = some (D.bool r, []) := by
 refine c94 ?_ rfl
 unfold k94
 unfold i_Network_hasNode at h
 have c1 := i_within_cl v_ (0 : Int) (IntKind.i64.wrap ((n_Ends.length : Int) - 1))
 cases h
 simp (maxDischargeDepth := 9) only [↓xpre, xpost, xlst, xcore, yset, ↓reduceIte, Nat.reduceEqDiff, Nat.reduceLT, Nat.reduceAdd, c1] <;> (repeat' apply And.intro) <;> first | rfl | exact ⟨_, rfl⟩ | exact ⟨_, _, rfl⟩ | simp [lst, cat2_nil]

noncomputable def i_Network_hasPort (n_Ends : List (List (Int × Int))) (n_Ids n_Inputs : List Int) (v_ i : Int) : Option (Bool) :=
 (i_Network_hasNode n_Ends n_Ids n_Inputs v_).bind fun r1_ =>
 if r1_ = true then
  ck (0 ≤ v_ ∧ v_.toNat < n_Ends.length) <|
  some (inR i (0 : Int) (IntKind.i64.wrap (((n_Ends.getD v_.toNat default).length : Int) - 1)))
 else
  some false
/-- impl.Network).hasPort -/
def k80 : SC :=
 .seq
 (.ops [
 ⟨some 3, .box 31 (.tmp 0), 0, none⟩,
 ⟨some 6, .assign (.const (.bool false)), 4, none⟩])
 (.seq
 (.ops [
 ⟨some 7, .load 31 (.tmp 3), 31, none⟩,
 ⟨some 8, .move (.tmp 1), 3, none⟩,
 ⟨some 9, .call ⟨(.value (.func 94)), #[(.tmp 7), (.tmp 8)], #[31, 3]⟩, 4, none⟩,
 ⟨some 10, .move (.tmp 9), 4, none⟩,
 ⟨some 11, .move (.tmp 2), 3, (some (some 10, true))⟩,
 ⟨some 12, .fieldAddr 31 (.tmp 3) 0, 0, (some (some 10, true))⟩,
 ⟨some 13, .load 29 (.tmp 12), 29, (some (some 10, true))⟩,
 ⟨some 14, .move (.tmp 1), 3, (some (some 10, true))⟩,
 ⟨some 15, .indexAddr 29 (.tmp 13) (.tmp 14), 0, (some (some 10, true))⟩,
 ⟨some 16, .load 100 (.tmp 15), 100, (some (some 10, true))⟩,
 ⟨some 17, .call ⟨(.builtin .len), #[(.tmp 16)], #[100]⟩, 3, (some (some 10, true))⟩,
 ⟨some 18, .binOp .sub 3 (.tmp 17) (.const (.int .i64 1)) 3, 3, (some (some 10, true))⟩,
 ⟨some 19, .call ⟨(.value (.func 77)), #[(.tmp 11), (.const (.int .i64 0)), (.tmp 18)], #[3, 3, 3]⟩, 4, (some (some 10, true))⟩,
 ⟨some 20, .pick (.tmp 10) (.tmp 19) (.const (.bool false)), 4, none⟩,
 ⟨some 6, .assign (.tmp 20), 4, none⟩])
 .ret)
theorem slim80 : Try.f80.body.map (slim lends) = some k80 := by kernel_rfl
theorem ok80 : fnOk Try.f80 3 = true := by kernel_rfl
theorem c80 {a l : List D} {r : D × List D} (h : wpD Y.env k80 (fin tys l.length [ResultVar.tmp 6] r) (entry a l)) (ha : a.length = 3) : Y.call 80 a l = some r :=
 call_slim (Y := Y) rfl Try.func80 (ha ▸ ok80) slim80 h
theorem i_Network_hasPort_call (n_Ends : List (List (Int × Int))) (n_Ids n_Inputs : List Int) (v_ i : Int) {r : Bool} (h : i_Network_hasPort n_Ends n_Ids n_Inputs v_ i = some r) : Y.call 80 [D.agg [D.sl 100 (lst (fun x => D.sl 102 (cat2 .i64 .i64 x)) n_Ends), D.sl 3 (lst (D.int .i64) n_Ids), D.sl 3 (lst (D.int .i64) n_Inputs)], D.int .i64 v_, D.int .i64 i] [] = some (D.bool r, []) := by
 refine c80 ?_ rfl
 unfold k80
 unfold i_Network_hasPort at h
 obtain ⟨r1_, hl1, h⟩ := bindS h
 try dsimp only at h
 have c1 := i_Network_hasNode_call n_Ends n_Ids n_Inputs v_ hl1
 by_cases e2 : r1_ = true
 ·rw [if_pos e2] at h
  obtain ⟨e3, h⟩ := ckS h
  have c4 := i_within_cl i (0 : Int) (IntKind.i64.wrap (((n_Ends.getD v_.toNat default).length : Int) - 1))
  cases h
  simp (maxDischargeDepth := 9) only [↓xpre, xpost, xlst, xc2, xcore, yset, ↓reduceIte, Nat.reduceEqDiff, Nat.reduceLT, Nat.reduceAdd, c1, e2, e3.1, e3.2, c4] <;> (repeat' apply And.intro) <;> first | rfl | exact ⟨_, rfl⟩ | exact ⟨_, _, rfl⟩ | simp [lst, cat2_nil]
 ·rw [if_neg e2] at h
  have e2f : r1_ = false := Bool.eq_false_iff.mpr e2
  cases h
  simp (maxDischargeDepth := 9) only [↓xpre, xpost, xcore, yset, ↓reduceIte, Nat.reduceEqDiff, Nat.reduceLT, Nat.reduceAdd, c1, e2f] <;> (repeat' apply And.intro) <;> first | rfl | exact ⟨_, rfl⟩ | exact ⟨_, _, rfl⟩ | simp [lst, cat2_nil]

noncomputable def i_IsNetwork_l0_S (t0_Ends : List (List (Int × Int))) (t0_Ids t0_Inputs : List Int) (t33_ t43_ : Int) : Option ((Int) ⊕ (Unit ⊕ Unit)) :=
 if t43_ < ((t0_Ends.getD t33_.toNat default).length : Int) then
  ck (0 ≤ t43_ ∧ t43_.toNat < (t0_Ends.getD t33_.toNat default).length) <|
  (i_Network_hasPort t0_Ends t0_Ids t0_Inputs (fstD (t0_Ends.getD t33_.toNat default) t43_.toNat) (sndD (t0_Ends.getD t33_.toNat default) t43_.toNat)).bind fun r13_ =>
  if r13_ = true then
   ck (0 ≤ (fstD (t0_Ends.getD t33_.toNat default) t43_.toNat) ∧ (fstD (t0_Ends.getD t33_.toNat default) t43_.toNat).toNat < t0_Ends.length) <|
   ck (0 ≤ (sndD (t0_Ends.getD t33_.toNat default) t43_.toNat) ∧ (sndD (t0_Ends.getD t33_.toNat default) t43_.toNat).toNat < (t0_Ends.getD ((fstD (t0_Ends.getD t33_.toNat default) t43_.toNat).toNat) default).length) <|
   if (((fstD (t0_Ends.getD ((fstD (t0_Ends.getD t33_.toNat default) t43_.toNat).toNat) default) ((sndD (t0_Ends.getD t33_.toNat default) t43_.toNat).toNat)) == t33_) && ((sndD (t0_Ends.getD ((fstD (t0_Ends.getD t33_.toNat default) t43_.toNat).toNat) default) ((sndD (t0_Ends.getD t33_.toNat default) t43_.toNat).toNat)) == t43_)) = true then
    some (Sum.inl (IntKind.i64.wrap (t43_ + 1)))
   else
    some (Sum.inr (Sum.inl ()))
  else
   some (Sum.inr (Sum.inl ()))
 else
  some (Sum.inr (Sum.inr ()))
noncomputable def i_IsNetwork_l0 (t0_Ends : List (List (Int × Int))) (t0_Ids t0_Inputs : List Int) (t33_ v : Int) : Option (Unit ⊕ Unit) := itO (fun v => i_IsNetwork_l0_S t0_Ends t0_Ids t0_Inputs t33_ v) v
noncomputable def i_IsNetwork_l1_S (t0_Ends : List (List (Int × Int))) (t0_Ids t0_Inputs : List Int) (t33_ : Int) : Option ((Int) ⊕ (Unit ⊕ Unit)) :=
 if t33_ < (t0_Ends.length : Int) then
  ck (0 ≤ t33_ ∧ t33_.toNat < t0_Ends.length) <|
  if 6 < ((t0_Ends.getD t33_.toNat default).length : Int) then
   some (Sum.inr (Sum.inl ()))
  else
   (i_IsNetwork_l0 t0_Ends t0_Ids t0_Inputs t33_ 0).bind fun r12_ =>
   match r12_ with
   | .inl q12_ =>
    some (Sum.inr (Sum.inl ()))
   | .inr q12_ =>
    some (Sum.inl (IntKind.i64.wrap (t33_ + 1)))
 else
  some (Sum.inr (Sum.inr ()))
noncomputable def i_IsNetwork_l1 (t0_Ends : List (List (Int × Int))) (t0_Ids t0_Inputs : List Int) (v : Int) : Option (Unit ⊕ Unit) := itO (fun v => i_IsNetwork_l1_S t0_Ends t0_Ids t0_Inputs v) v
noncomputable def i_IsNetwork (t0_Ends : List (List (Int × Int))) (t0_Ids t0_Inputs : List Int) : Option (Bool) :=
 if (inR (t0_Ends.length : Int) (1 : Int) (40 : Int)) = true then
  ck (t0_Ids.length < 1099511627776) <|
  if (idsB t0_Ids (t0_Ends.length : Int)) = true then
   (i_inputsOk t0_Inputs (t0_Ends.length : Int)).bind fun r6_ =>
   if r6_ = true then
    (i_IsNetwork_l1 t0_Ends t0_Ids t0_Inputs 0).bind fun r9_ =>
    match r9_ with
    | .inl q9_ =>
     some false
    | .inr q9_ =>
     some true
   else
    some false
  else
   some false
 else
  some false
/-- impl.IsNetwork -/
def k37_l0b : SC :=
 .seq
 (.ops [
 ⟨some 44, .binOp .lss 3 (.tmp 43) (.tmp 42) 3, 0, none⟩])
 (.seq
 (.cond (.tmp 44)
 .skip
 (.exit 2))
 (.seq
 (.block 3
 (.seq
 (.ops [
 ⟨some 45, .move (.tmp 43), 3, none⟩,
 ⟨some 46, .indexAddr 100 (.tmp 41) (.tmp 43), 0, none⟩,
 ⟨some 47, .load 102 (.tmp 46), 102, none⟩,
 ⟨some 6, .alloc 102, 0, none⟩,
 ⟨some 5, .assign (.tmp 45), 3, none⟩,
 ⟨none, .store 102 (.tmp 6) (.tmp 47), 0, none⟩])
 (.seq
 (.draws [
 (⟨[48, 1, 1], [48, 49, 50, 51, 52, 53, 54, 55, 56, 57, 58, 59, 60, 61, 62, 63, 64, 65, 66, 67, 68, 66, 67, 3, 5, 69, 70], [48]⟩, ⟨some 48, .load 31 (.tmp 1), 31, none⟩),
 (⟨[49, 6, 6], [48, 49, 50, 51, 52, 53, 54, 55, 56, 57, 58, 59, 60, 61, 62, 63, 64, 65, 66, 67, 68, 66, 67, 3, 5, 69, 70], [49]⟩, ⟨some 49, .fieldAddr 102 (.tmp 6) 0, 0, none⟩),
 (⟨[50, 49, 6], [48, 49, 50, 51, 52, 53, 54, 55, 56, 57, 58, 59, 60, 61, 62, 63, 64, 65, 66, 67, 68, 66, 67, 3, 5, 69, 70], [50]⟩, ⟨some 50, .load 3 (.tmp 49), 3, none⟩),
 (⟨[51, 6, 6], [48, 49, 50, 51, 52, 53, 54, 55, 56, 57, 58, 59, 60, 61, 62, 63, 64, 65, 66, 67, 68, 66, 67, 3, 5, 69, 70], [51]⟩, ⟨some 51, .fieldAddr 102 (.tmp 6) 1, 0, none⟩),
 (⟨[52, 51, 6], [48, 49, 50, 51, 52, 53, 54, 55, 56, 57, 58, 59, 60, 61, 62, 63, 64, 65, 66, 67, 68, 66, 67, 3, 5, 69, 70], [52]⟩, ⟨some 52, .load 3 (.tmp 51), 3, none⟩),
 (⟨[53, 48, 50, 52, 1, 6, 6], [48, 49, 50, 51, 52, 53, 54, 55, 56, 57, 58, 59, 60, 61, 62, 63, 64, 65, 66, 67, 68, 66, 67, 3, 5, 69, 70], [53]⟩, ⟨some 53, .call ⟨(.value (.func 80)), #[(.tmp 48), (.tmp 50), (.tmp 52)], #[31, 3, 3]⟩, 4, none⟩),
 (⟨[54, 53, 53], [48, 49, 50, 51, 52, 53, 54, 55, 56, 57, 58, 59, 60, 61, 62, 63, 64, 65, 66, 67, 68, 66, 67, 3, 5, 69, 70], [54]⟩, ⟨some 54, .unOp .not 4 (.tmp 53), 4, none⟩),
 (⟨[55, 54, 54], [48, 49, 50, 51, 52, 53, 54, 55, 56, 57, 58, 59, 60, 61, 62, 63, 64, 65, 66, 67, 68, 66, 67, 3, 5, 69, 70], [55]⟩, ⟨some 55, .move (.tmp 54), 4, none⟩),
 (⟨[56, 1, 1, 55], [48, 49, 50, 51, 52, 53, 54, 55, 56, 57, 58, 59, 60, 61, 62, 63, 64, 65, 66, 67, 68, 66, 67, 3, 5, 69, 70], [56]⟩, ⟨some 56, .fieldAddr 31 (.tmp 1) 0, 0, (some (some 55, false))⟩),
 (⟨[57, 56, 1, 55], [48, 49, 50, 51, 52, 53, 54, 55, 56, 57, 58, 59, 60, 61, 62, 63, 64, 65, 66, 67, 68, 66, 67, 3, 5, 69, 70], [57]⟩, ⟨some 57, .load 29 (.tmp 56), 29, (some (some 55, false))⟩),
 (⟨[58, 6, 6, 55], [48, 49, 50, 51, 52, 53, 54, 55, 56, 57, 58, 59, 60, 61, 62, 63, 64, 65, 66, 67, 68, 66, 67, 3, 5, 69, 70], [58]⟩, ⟨some 58, .fieldAddr 102 (.tmp 6) 0, 0, (some (some 55, false))⟩),
 (⟨[59, 58, 6, 55], [48, 49, 50, 51, 52, 53, 54, 55, 56, 57, 58, 59, 60, 61, 62, 63, 64, 65, 66, 67, 68, 66, 67, 3, 5, 69, 70], [59]⟩, ⟨some 59, .load 3 (.tmp 58), 3, (some (some 55, false))⟩),
 (⟨[60, 57, 59, 1, 6, 55], [48, 49, 50, 51, 52, 53, 54, 55, 56, 57, 58, 59, 60, 61, 62, 63, 64, 65, 66, 67, 68, 66, 67, 3, 5, 69, 70], [60]⟩, ⟨some 60, .indexAddr 29 (.tmp 57) (.tmp 59), 0, (some (some 55, false))⟩),
 (⟨[61, 60, 1, 55], [48, 49, 50, 51, 52, 53, 54, 55, 56, 57, 58, 59, 60, 61, 62, 63, 64, 65, 66, 67, 68, 66, 67, 3, 5, 69, 70], [61]⟩, ⟨some 61, .load 100 (.tmp 60), 100, (some (some 55, false))⟩),
 (⟨[62, 6, 6, 55], [48, 49, 50, 51, 52, 53, 54, 55, 56, 57, 58, 59, 60, 61, 62, 63, 64, 65, 66, 67, 68, 66, 67, 3, 5, 69, 70], [62]⟩, ⟨some 62, .fieldAddr 102 (.tmp 6) 1, 0, (some (some 55, false))⟩),
 (⟨[63, 62, 6, 55], [48, 49, 50, 51, 52, 53, 54, 55, 56, 57, 58, 59, 60, 61, 62, 63, 64, 65, 66, 67, 68, 66, 67, 3, 5, 69, 70], [63]⟩, ⟨some 63, .load 3 (.tmp 62), 3, (some (some 55, false))⟩),
 (⟨[64, 61, 63, 1, 6, 55], [48, 49, 50, 51, 52, 53, 54, 55, 56, 57, 58, 59, 60, 61, 62, 63, 64, 65, 66, 67, 68, 66, 67, 3, 5, 69, 70], [64]⟩, ⟨some 64, .indexAddr 100 (.tmp 61) (.tmp 63), 0, (some (some 55, false))⟩),
 (⟨[65, 64, 1, 55], [48, 49, 50, 51, 52, 53, 54, 55, 56, 57, 58, 59, 60, 61, 62, 63, 64, 65, 66, 67, 68, 66, 67, 3, 5, 69, 70], [65]⟩, ⟨some 65, .load 102 (.tmp 64), 102, (some (some 55, false))⟩),
 (⟨[66, 3, 3, 55], [48, 49, 50, 51, 52, 53, 54, 55, 56, 57, 58, 59, 60, 61, 62, 63, 64, 65, 66, 67, 68, 66, 67, 3, 5, 69, 70], [66]⟩, ⟨some 66, .move (.tmp 3), 3, (some (some 55, false))⟩),
 (⟨[67, 5, 5, 55], [48, 49, 50, 51, 52, 53, 54, 55, 56, 57, 58, 59, 60, 61, 62, 63, 64, 65, 66, 67, 68, 66, 67, 3, 5, 69, 70], [67]⟩, ⟨some 67, .move (.tmp 5), 3, (some (some 55, false))⟩),
 (⟨[68, 66, 67, 3, 5, 55], [48, 49, 50, 51, 52, 53, 54, 55, 56, 57, 58, 59, 60, 61, 62, 63, 64, 65, 66, 67, 68, 66, 67, 3, 5, 69, 70], [68, 66, 67, 3, 5]⟩, ⟨some 68, .build 102 #[(0, (.tmp 66)), (1, (.tmp 67))], 102, (some (some 55, false))⟩),
 (⟨[69, 65, 68, 1, 68, 55], [48, 49, 50, 51, 52, 53, 54, 55, 56, 57, 58, 59, 60, 61, 62, 63, 64, 65, 66, 67, 68, 66, 67, 3, 5, 69, 70], [69]⟩, ⟨some 69, .binOp .neq 102 (.tmp 65) (.tmp 68) 102, 4, (some (some 55, false))⟩),
 (⟨[70, 55, 69, 54, 69], [48, 49, 50, 51, 52, 53, 54, 55, 56, 57, 58, 59, 60, 61, 62, 63, 64, 65, 66, 67, 68, 66, 67, 3, 5, 69, 70], [70]⟩, ⟨some 70, .pick (.tmp 55) (.const (.bool true)) (.tmp 69), 4, none⟩)])
 (.cond (.tmp 70)
 (.seq
 (.ops [
 ⟨some 2, .assign (.const (.bool false)), 4, none⟩])
 .ret)
 .skip))))
 (.ops [
 ⟨some 71, .binOp .add 3 (.tmp 43) (.const (.int .i64 1)) 3, 3, none⟩,
 ⟨some 43, .move (.tmp 71), 3, none⟩])))
def k37_l0 : SC := .loop k37_l0b
def k37_l1b : SC :=
 .seq
 (.ops [
 ⟨some 34, .binOp .lss 3 (.tmp 33) (.tmp 32) 3, 0, none⟩])
 (.seq
 (.cond (.tmp 34)
 .skip
 (.exit 0))
 (.seq
 (.block 1
 (.seq
 (.ops [
 ⟨some 35, .move (.tmp 33), 3, none⟩,
 ⟨some 36, .indexAddr 29 (.tmp 31) (.tmp 33), 0, none⟩,
 ⟨some 37, .load 100 (.tmp 36), 100, none⟩,
 ⟨some 3, .assign (.tmp 35), 3, none⟩,
 ⟨some 4, .assign (.tmp 37), 100, none⟩])
 (.seq
 (.seq
 (.ops [
 ⟨some 38, .move (.tmp 4), 100, none⟩,
 ⟨some 39, .call ⟨(.builtin .len), #[(.tmp 38)], #[100]⟩, 3, none⟩,
 ⟨some 40, .binOp .gtr 3 (.tmp 39) (.const (.int .i64 6)) 3, 4, none⟩])
 (.cond (.tmp 40)
 (.seq
 (.ops [
 ⟨some 2, .assign (.const (.bool false)), 4, none⟩])
 .ret)
 .skip))
 (.seq
 (.ops [
 ⟨some 41, .move (.tmp 4), 100, none⟩,
 ⟨some 42, .call ⟨(.builtin .len), #[(.tmp 41)], #[100]⟩, 3, none⟩,
 ⟨some 43, .move (.const (.int .i64 0)), 3, none⟩])
 (.block 2
 k37_l0)))))
 (.ops [
 ⟨some 72, .binOp .add 3 (.tmp 33) (.const (.int .i64 1)) 3, 3, none⟩,
 ⟨some 33, .move (.tmp 72), 3, none⟩])))
def k37_l1 : SC := .loop k37_l1b
def k37 : SC :=
 .seq
 (.ops [
 ⟨some 1, .box 31 (.tmp 0), 0, none⟩,
 ⟨some 2, .assign (.const (.bool false)), 4, none⟩])
 (.seq
 (.seq
 (.ops [
 ⟨some 7, .fieldAddr 31 (.tmp 1) 0, 0, none⟩,
 ⟨some 8, .load 29 (.tmp 7), 29, none⟩,
 ⟨some 9, .call ⟨(.builtin .len), #[(.tmp 8)], #[29]⟩, 3, none⟩,
 ⟨some 10, .call ⟨(.value (.func 77)), #[(.tmp 9), (.const (.int .i64 1)), (.const (.int .i64 40))], #[3, 3, 3]⟩, 4, none⟩,
 ⟨some 11, .unOp .not 4 (.tmp 10), 4, none⟩,
 ⟨some 12, .move (.tmp 11), 4, none⟩,
 ⟨some 13, .fieldAddr 31 (.tmp 1) 1, 0, (some (some 12, false))⟩,
 ⟨some 14, .load 23 (.tmp 13), 23, (some (some 12, false))⟩,
 ⟨some 15, .fieldAddr 31 (.tmp 1) 0, 0, (some (some 12, false))⟩,
 ⟨some 16, .load 29 (.tmp 15), 29, (some (some 12, false))⟩,
 ⟨some 17, .call ⟨(.builtin .len), #[(.tmp 16)], #[29]⟩, 3, (some (some 12, false))⟩,
 ⟨some 18, .call ⟨(.value (.func 78)), #[(.tmp 14), (.tmp 17)], #[23, 3]⟩, 4, (some (some 12, false))⟩,
 ⟨some 19, .unOp .not 4 (.tmp 18), 4, (some (some 12, false))⟩,
 ⟨some 20, .pick (.tmp 12) (.const (.bool true)) (.tmp 19), 4, none⟩,
 ⟨some 21, .move (.tmp 20), 4, none⟩,
 ⟨some 22, .fieldAddr 31 (.tmp 1) 2, 0, (some (some 21, false))⟩,
 ⟨some 23, .load 23 (.tmp 22), 23, (some (some 21, false))⟩,
 ⟨some 24, .fieldAddr 31 (.tmp 1) 0, 0, (some (some 21, false))⟩,
 ⟨some 25, .load 29 (.tmp 24), 29, (some (some 21, false))⟩,
 ⟨some 26, .call ⟨(.builtin .len), #[(.tmp 25)], #[29]⟩, 3, (some (some 21, false))⟩,
 ⟨some 27, .call ⟨(.value (.func 79)), #[(.tmp 23), (.tmp 26)], #[23, 3]⟩, 4, (some (some 21, false))⟩,
 ⟨some 28, .unOp .not 4 (.tmp 27), 4, (some (some 21, false))⟩,
 ⟨some 29, .pick (.tmp 21) (.const (.bool true)) (.tmp 28), 4, none⟩])
 (.cond (.tmp 29)
 (.seq
 (.ops [
 ⟨some 2, .assign (.const (.bool false)), 4, none⟩])
 .ret)
 .skip))
 (.seq
 (.seq
 (.ops [
 ⟨some 30, .fieldAddr 31 (.tmp 1) 0, 0, none⟩,
 ⟨some 31, .load 29 (.tmp 30), 29, none⟩,
 ⟨some 32, .call ⟨(.builtin .len), #[(.tmp 31)], #[29]⟩, 3, none⟩,
 ⟨some 33, .move (.const (.int .i64 0)), 3, none⟩])
 (.block 0
 k37_l1))
 (.seq
 (.ops [
 ⟨some 2, .assign (.const (.bool true)), 4, none⟩])
 .ret)))
theorem slim37 : Try.f37.body.map (slim lends) = some k37 := by kernel_rfl
theorem ok37 : fnOk Try.f37 1 = true := by kernel_rfl
theorem c37 {a l : List D} {r : D × List D} (h : wpD Y.env k37 (fin tys l.length [ResultVar.tmp 2] r) (entry a l)) (ha : a.length = 1) : Y.call 37 a l = some r :=
 call_slim (Y := Y) rfl Try.func37 (ha ▸ ok37) slim37 h
def i_IsNetwork_l0_M (t0_Ends : List (List (Int × Int))) (t0_Ids t0_Inputs : List Int) (t33_ t43_ : Int) (s : St) : Prop := s.v 1 = D.box [D.sl 100 (lst (fun x => D.sl 102 (cat2 .i64 .i64 x)) t0_Ends), D.sl 3 (lst (D.int .i64) t0_Ids), D.sl 3 (lst (D.int .i64) t0_Inputs)] ∧ s.v 3 = D.int .i64 t33_ ∧ s.v 31 = D.sl 100 (lst (fun x => D.sl 102 (cat2 .i64 .i64 x)) t0_Ends) ∧ s.v 32 = D.int .i64 (t0_Ends.length : Int) ∧ s.v 33 = D.int .i64 t33_ ∧ s.v 41 = D.sl 102 (cat2 .i64 .i64 (t0_Ends.getD t33_.toNat default)) ∧ s.v 42 = D.int .i64 ((t0_Ends.getD t33_.toNat default).length : Int) ∧ s.v 43 = D.int .i64 t43_
def i_IsNetwork_l0_X (t0_Ends : List (List (Int × Int))) (t0_Ids t0_Inputs : List Int) (t33_ : Int) (r : Unit ⊕ Unit) (ex : Ex) (s : St) : Prop := match r with
 | .inl q => ex = .ret ∧ s.v 2 = D.bool false
 | .inr q => ex = .exit 2 ∧ s.v 1 = D.box [D.sl 100 (lst (fun x => D.sl 102 (cat2 .i64 .i64 x)) t0_Ends), D.sl 3 (lst (D.int .i64) t0_Ids), D.sl 3 (lst (D.int .i64) t0_Inputs)] ∧ s.v 31 = D.sl 100 (lst (fun x => D.sl 102 (cat2 .i64 .i64 x)) t0_Ends) ∧ s.v 32 = D.int .i64 (t0_Ends.length : Int) ∧ s.v 33 = D.int .i64 t33_
theorem i_IsNetwork_l0_wp (t0_Ends : List (List (Int × Int))) (t0_Ids t0_Inputs : List Int) (t33_ : Int) {v : Int} {s : St} {r : Unit ⊕ Unit} (h : i_IsNetwork_l0 t0_Ends t0_Ids t0_Inputs t33_ v = some r) (hM : i_IsNetwork_l0_M t0_Ends t0_Ids t0_Inputs t33_ v s) : wpD Y.env k37_l0 (i_IsNetwork_l0_X t0_Ends t0_Ids t0_Inputs t33_ r) s := by
 unfold i_IsNetwork_l0 at h
 refine wd_itO (c := k37_l0b) (fun v => i_IsNetwork_l0_S t0_Ends t0_Ids t0_Inputs t33_ v) (fun v s => i_IsNetwork_l0_M t0_Ends t0_Ids t0_Inputs t33_ v s) (i_IsNetwork_l0_X t0_Ends t0_Ids t0_Inputs t33_) ?_ h hM
 clear h hM s v r
 intro t43_ s o hM h
 unfold i_IsNetwork_l0_S at h
 unfold i_IsNetwork_l0_M at hM
 obtain ⟨m0, m1, m2, m3, m4, m5, m6, m7⟩ := hM
 unfold k37_l0b
 by_cases e11 : t43_ < ((t0_Ends.getD t33_.toNat default).length : Int)
 ·rw [if_pos e11] at h
  obtain ⟨e12, h⟩ := ckS h
  obtain ⟨r13_, hl13, h⟩ := bindS h
  try dsimp only at h
  have c13 := i_Network_hasPort_call t0_Ends t0_Ids t0_Inputs (fstD (t0_Ends.getD t33_.toNat default) t43_.toNat) (sndD (t0_Ends.getD t33_.toNat default) t43_.toNat) hl13
  by_cases e14 : r13_ = true
  ·rw [if_pos e14] at h
   obtain ⟨e15, h⟩ := ckS h
   obtain ⟨e16, h⟩ := ckS h
   by_cases e17 : (((fstD (t0_Ends.getD ((fstD (t0_Ends.getD t33_.toNat default) t43_.toNat).toNat) default) ((sndD (t0_Ends.getD t33_.toNat default) t43_.toNat).toNat)) == t33_) && ((sndD (t0_Ends.getD ((fstD (t0_Ends.getD t33_.toNat default) t43_.toNat).toNat) default) ((sndD (t0_Ends.getD t33_.toNat default) t43_.toNat).toNat)) == t43_)) = true
   ·rw [if_pos e17] at h
    cases h
    simp (maxDischargeDepth := 9) only [↓xpre, xpost, xlst, xc2, xcore, yset, ↓reduceIte, Nat.reduceEqDiff, Nat.reduceLT, Nat.reduceLeDiff, Nat.reduceAdd, Nat.reduceBEq, m0, m1, m2, m3, m4, m5, m6, m7, e11, e12.1, e12.2, c13, e14, e15.1, e15.2, e16.1, e16.2, e17, i_IsNetwork_l0_M, sxN] <;> (repeat' apply And.intro) <;> first | rfl | exact ⟨_, rfl⟩ | exact ⟨_, _, rfl⟩ | simp [lst, cat2_nil]
   ·rw [if_neg e17] at h
    have e17f : (((fstD (t0_Ends.getD ((fstD (t0_Ends.getD t33_.toNat default) t43_.toNat).toNat) default) ((sndD (t0_Ends.getD t33_.toNat default) t43_.toNat).toNat)) == t33_) && ((sndD (t0_Ends.getD ((fstD (t0_Ends.getD t33_.toNat default) t43_.toNat).toNat) default) ((sndD (t0_Ends.getD t33_.toNat default) t43_.toNat).toNat)) == t43_)) = false := Bool.eq_false_iff.mpr e17
    cases h
    simp (maxDischargeDepth := 9) only [↓xpre, xpost, xlst, xc2, xcore, yset, ↓reduceIte, Nat.reduceEqDiff, Nat.reduceLT, Nat.reduceLeDiff, Nat.reduceAdd, Nat.reduceBEq, m0, m1, m5, m6, m7, e11, e12.1, e12.2, c13, e14, e15.1, e15.2, e16.1, e16.2, e17f, i_IsNetwork_l0_M, i_IsNetwork_l0_X, sxR] <;> (repeat' apply And.intro) <;> first | rfl | exact ⟨_, rfl⟩ | exact ⟨_, _, rfl⟩ | simp [lst, cat2_nil]
  ·rw [if_neg e14] at h
   have e14f : r13_ = false := Bool.eq_false_iff.mpr e14
   cases h
   simp (maxDischargeDepth := 9) only [↓xpre, xpost, xc2, xcore, yset, ↓reduceIte, Nat.reduceEqDiff, Nat.reduceLT, Nat.reduceAdd, Nat.reduceBEq, m0, m1, m5, m6, m7, e11, e12.1, e12.2, c13, e14f, i_IsNetwork_l0_M, i_IsNetwork_l0_X, sxR] <;> (repeat' apply And.intro) <;> first | rfl | exact ⟨_, rfl⟩ | exact ⟨_, _, rfl⟩ | simp [lst, cat2_nil]
 ·rw [if_neg e11] at h
  cases h
  simp (maxDischargeDepth := 9) only [↓xpre, xpost, yset, ↓reduceIte, Nat.reduceEqDiff, Nat.reduceLT, m0, m2, m3, m4, m6, m7, e11, i_IsNetwork_l0_M, i_IsNetwork_l0_X, sxE] <;> (repeat' apply And.intro) <;> first | rfl | exact ⟨_, rfl⟩ | exact ⟨_, _, rfl⟩ | simp [lst, cat2_nil]
def i_IsNetwork_l1_M (t0_Ends : List (List (Int × Int))) (t0_Ids t0_Inputs : List Int) (t33_ : Int) (s : St) : Prop := s.v 1 = D.box [D.sl 100 (lst (fun x => D.sl 102 (cat2 .i64 .i64 x)) t0_Ends), D.sl 3 (lst (D.int .i64) t0_Ids), D.sl 3 (lst (D.int .i64) t0_Inputs)] ∧ s.v 31 = D.sl 100 (lst (fun x => D.sl 102 (cat2 .i64 .i64 x)) t0_Ends) ∧ s.v 32 = D.int .i64 (t0_Ends.length : Int) ∧ s.v 33 = D.int .i64 t33_
def i_IsNetwork_l1_X (t0_Ends : List (List (Int × Int))) (t0_Ids t0_Inputs : List Int) (r : Unit ⊕ Unit) (ex : Ex) (s : St) : Prop := match r with
 | .inl q => ex = .ret ∧ s.v 2 = D.bool false
 | .inr q => ex = .exit 0
theorem i_IsNetwork_l1_wp (t0_Ends : List (List (Int × Int))) (t0_Ids t0_Inputs : List Int) {v : Int} {s : St} {r : Unit ⊕ Unit} (h : i_IsNetwork_l1 t0_Ends t0_Ids t0_Inputs v = some r) (hM : i_IsNetwork_l1_M t0_Ends t0_Ids t0_Inputs v s) : wpD Y.env k37_l1 (i_IsNetwork_l1_X t0_Ends t0_Ids t0_Inputs r) s := by
 unfold i_IsNetwork_l1 at h
 refine wd_itO (c := k37_l1b) (fun v => i_IsNetwork_l1_S t0_Ends t0_Ids t0_Inputs v) (fun v s => i_IsNetwork_l1_M t0_Ends t0_Ids t0_Inputs v s) (i_IsNetwork_l1_X t0_Ends t0_Ids t0_Inputs) ?_ h hM
 clear h hM s v r
 intro t33_ s o hM h
 unfold i_IsNetwork_l1_S at h
 unfold i_IsNetwork_l1_M at hM
 obtain ⟨m0, m1, m2, m3⟩ := hM
 unfold k37_l1b
 by_cases e8 : t33_ < (t0_Ends.length : Int)
 ·rw [if_pos e8] at h
  obtain ⟨e9, h⟩ := ckS h
  by_cases e10 : 6 < ((t0_Ends.getD t33_.toNat default).length : Int)
  ·rw [if_pos e10] at h
   cases h
   simp (maxDischargeDepth := 9) only [↓xpre, xpost, xlst, xc2, xcore, yset, ↓reduceIte, Nat.reduceEqDiff, Nat.reduceLT, m1, m2, m3, e8, e9.1, e9.2, e10, i_IsNetwork_l1_M, i_IsNetwork_l1_X, sxR] <;> (repeat' apply And.intro) <;> first | rfl | exact ⟨_, rfl⟩ | exact ⟨_, _, rfl⟩ | simp [lst, cat2_nil]
  ·rw [if_neg e10] at h
   obtain ⟨r12_, hl12, h⟩ := bindS h
   try dsimp only at h
   simp (maxDischargeDepth := 9) only [↓xpre, xpost, xlst, xc2, xcore, yset, ↓reduceIte, Nat.reduceEqDiff, Nat.reduceLT, m1, m2, m3, e8, e9.1, e9.2, e10]
   refine wd_mono (i_IsNetwork_l0_wp t0_Ends t0_Ids t0_Inputs t33_ hl12 ?_) ?_
   ·simp (maxDischargeDepth := 9) only [xpost, ↓reduceIte, Nat.reduceEqDiff, m0, m1, m2, m3, i_IsNetwork_l0_M] <;> (repeat' apply And.intro) <;> first | rfl | exact ⟨_, rfl⟩ | exact ⟨_, _, rfl⟩ | simp [lst, cat2_nil]
   ·intro ex12 s12 hX12
    rcases r12_ with q12_ | q12_
    ·unfold i_IsNetwork_l0_X at hX12
     dsimp only at hX12 h
     obtain ⟨rfl, n12_0⟩ := hX12
     cases h
     simp (maxDischargeDepth := 9) only [↓xpre, xpost, n12_0, i_IsNetwork_l1_M, i_IsNetwork_l1_X, sxR] <;> (repeat' apply And.intro) <;> first | rfl | exact ⟨_, rfl⟩ | exact ⟨_, _, rfl⟩ | simp [lst, cat2_nil]
    ·unfold i_IsNetwork_l0_X at hX12
     dsimp only at hX12 h
     obtain ⟨rfl, n12_0, n12_1, n12_2, n12_3⟩ := hX12
     cases h
     simp (maxDischargeDepth := 9) only [↓xpre, xpost, yset, ↓reduceIte, Nat.reduceEqDiff, Nat.reduceLT, n12_0, n12_1, n12_2, n12_3, i_IsNetwork_l1_M, sxN] <;> (repeat' apply And.intro) <;> first | rfl | exact ⟨_, rfl⟩ | exact ⟨_, _, rfl⟩ | simp [lst, cat2_nil]
 ·rw [if_neg e8] at h
  cases h
  simp (maxDischargeDepth := 9) only [↓xpre, xpost, yset, ↓reduceIte, Nat.reduceLT, m2, m3, e8, i_IsNetwork_l1_M, i_IsNetwork_l1_X, sxE] <;> (repeat' apply And.intro) <;> first | rfl | exact ⟨_, rfl⟩ | exact ⟨_, _, rfl⟩ | simp [lst, cat2_nil]
theorem i_IsNetwork_call (t0_Ends : List (List (Int × Int))) (t0_Ids t0_Inputs : List Int) {r : Bool} (h : i_IsNetwork t0_Ends t0_Ids t0_Inputs = some r) : Y.call 37 [D.agg [D.sl 100 (lst (fun x => D.sl 102 (cat2 .i64 .i64 x)) t0_Ends), D.sl 3 (lst (D.int .i64) t0_Ids), D.sl 3 (lst (D.int .i64) t0_Inputs)]] [] = some (D.bool r, []) := by
 refine c37 ?_ rfl
 unfold k37
 unfold i_IsNetwork at h
 have c1 := i_within_cl (t0_Ends.length : Int) (1 : Int) (40 : Int)
 by_cases e2 : (inR (t0_Ends.length : Int) (1 : Int) (40 : Int)) = true
 ·rw [if_pos e2] at h
  obtain ⟨e3, h⟩ := ckS h
  have c4 := i_idsOk_cl t0_Ids (t0_Ends.length : Int) e3
  by_cases e5 : (idsB t0_Ids (t0_Ends.length : Int)) = true
  ·rw [if_pos e5] at h
   obtain ⟨r6_, hl6, h⟩ := bindS h
   try dsimp only at h
   have c6 := i_inputsOk_call t0_Inputs (t0_Ends.length : Int) hl6
   by_cases e7 : r6_ = true
   ·rw [if_pos e7] at h
    obtain ⟨r9_, hl9, h⟩ := bindS h
    try dsimp only at h
    simp (maxDischargeDepth := 9) only [↓xpre, xpost, xlst, xcore, yset, ↓reduceIte, Nat.reduceEqDiff, Nat.reduceLT, Nat.reduceAdd, c1, e2, c4, e5, c6, e7]
    refine wd_mono (i_IsNetwork_l1_wp t0_Ends t0_Ids t0_Inputs hl9 ?_) ?_
    ·simp (maxDischargeDepth := 9) only [xpost, ↓reduceIte, Nat.reduceEqDiff, i_IsNetwork_l1_M] <;> (repeat' apply And.intro) <;> first | rfl | exact ⟨_, rfl⟩ | exact ⟨_, _, rfl⟩ | simp [lst, cat2_nil]
    ·intro ex9 s9 hX9
     rcases r9_ with q9_ | q9_
     ·unfold i_IsNetwork_l1_X at hX9
      dsimp only at hX9 h
      obtain ⟨rfl, n9_0⟩ := hX9
      cases h
      simp (maxDischargeDepth := 9) only [↓xpre, xpost, xcore, ↓reduceIte, n9_0] <;> (repeat' apply And.intro) <;> first | rfl | exact ⟨_, rfl⟩ | exact ⟨_, _, rfl⟩ | simp [lst, cat2_nil]
     ·unfold i_IsNetwork_l1_X at hX9
      dsimp only at hX9 h
      obtain rfl := hX9
      cases h
      simp (maxDischargeDepth := 9) only [↓xpre, xpost, xcore, yset, ↓reduceIte, Nat.reduceEqDiff, Nat.reduceLT] <;> (repeat' apply And.intro) <;> first | rfl | exact ⟨_, rfl⟩ | exact ⟨_, _, rfl⟩ | simp [lst, cat2_nil]
   ·rw [if_neg e7] at h
    have e7f : r6_ = false := Bool.eq_false_iff.mpr e7
    cases h
    simp (maxDischargeDepth := 9) only [↓xpre, xpost, xlst, xcore, yset, ↓reduceIte, Nat.reduceEqDiff, Nat.reduceLT, Nat.reduceAdd, c1, e2, c4, e5, c6, e7f] <;> (repeat' apply And.intro) <;> first | rfl | exact ⟨_, rfl⟩ | exact ⟨_, _, rfl⟩ | simp [lst, cat2_nil]
  ·rw [if_neg e5] at h
   have e5f : (idsB t0_Ids (t0_Ends.length : Int)) = false := Bool.eq_false_iff.mpr e5
   cases h
   simp (maxDischargeDepth := 9) only [↓xpre, xpost, xlst, xcore, yset, ↓reduceIte, Nat.reduceEqDiff, Nat.reduceLT, Nat.reduceAdd, c1, e2, c4, e5f] <;> (repeat' apply And.intro) <;> first | rfl | exact ⟨_, rfl⟩ | exact ⟨_, _, rfl⟩ | simp [lst, cat2_nil]
 ·rw [if_neg e2] at h
  have e2f : (inR (t0_Ends.length : Int) (1 : Int) (40 : Int)) = false := Bool.eq_false_iff.mpr e2
  cases h
  simp (maxDischargeDepth := 9) only [↓xpre, xpost, xlst, xcore, yset, ↓reduceIte, Nat.reduceEqDiff, Nat.reduceLT, Nat.reduceAdd, c1, e2f] <;> (repeat' apply And.intro) <;> first | rfl | exact ⟨_, rfl⟩ | exact ⟨_, _, rfl⟩ | simp [lst, cat2_nil]

noncomputable def s_neGood_l0_S (t0_Ends : List (List (Int × Int))) (t0_Ids t0_Inputs : List Int) (t39_ t49_ : Int) : Option ((Int) ⊕ (Unit ⊕ Unit)) :=
 if t49_ < ((t0_Ends.getD t39_.toNat default).length : Int) then
  ck (0 ≤ t49_ ∧ t49_.toNat < (t0_Ends.getD t39_.toNat default).length) <|
  if (inR (fstD (t0_Ends.getD t39_.toNat default) t49_.toNat) (0 : Int) (IntKind.i64.wrap ((t0_Ends.length : Int) - 1))) = true then
   ck (0 ≤ (fstD (t0_Ends.getD t39_.toNat default) t49_.toNat) ∧ (fstD (t0_Ends.getD t39_.toNat default) t49_.toNat).toNat < t0_Ends.length) <|
   if (inR (sndD (t0_Ends.getD t39_.toNat default) t49_.toNat) (0 : Int) (IntKind.i64.wrap (((t0_Ends.getD ((fstD (t0_Ends.getD t39_.toNat default) t49_.toNat).toNat) default).length : Int) - 1))) = true then
    ck (0 ≤ (sndD (t0_Ends.getD t39_.toNat default) t49_.toNat) ∧ (sndD (t0_Ends.getD t39_.toNat default) t49_.toNat).toNat < (t0_Ends.getD ((fstD (t0_Ends.getD t39_.toNat default) t49_.toNat).toNat) default).length) <|
    if (((fstD (t0_Ends.getD ((fstD (t0_Ends.getD t39_.toNat default) t49_.toNat).toNat) default) ((sndD (t0_Ends.getD t39_.toNat default) t49_.toNat).toNat)) == t39_) && ((sndD (t0_Ends.getD ((fstD (t0_Ends.getD t39_.toNat default) t49_.toNat).toNat) default) ((sndD (t0_Ends.getD t39_.toNat default) t49_.toNat).toNat)) == t49_)) = true then
     some (Sum.inl (IntKind.i64.wrap (t49_ + 1)))
    else
     some (Sum.inr (Sum.inl ()))
   else
    some (Sum.inr (Sum.inl ()))
  else
   some (Sum.inr (Sum.inl ()))
 else
  some (Sum.inr (Sum.inr ()))
noncomputable def s_neGood_l0 (t0_Ends : List (List (Int × Int))) (t0_Ids t0_Inputs : List Int) (t39_ v : Int) : Option (Unit ⊕ Unit) := itO (fun v => s_neGood_l0_S t0_Ends t0_Ids t0_Inputs t39_ v) v
noncomputable def s_neGood_l1_S (t0_Ends : List (List (Int × Int))) (t0_Ids t0_Inputs : List Int) (t39_ : Int) : Option ((Int) ⊕ (Unit ⊕ Unit)) :=
 if t39_ < (t0_Ends.length : Int) then
  ck (0 ≤ t39_ ∧ t39_.toNat < t0_Ends.length) <|
  if 6 < ((t0_Ends.getD t39_.toNat default).length : Int) then
   some (Sum.inr (Sum.inl ()))
  else
   (s_neGood_l0 t0_Ends t0_Ids t0_Inputs t39_ 0).bind fun r14_ =>
   match r14_ with
   | .inl q14_ =>
    some (Sum.inr (Sum.inl ()))
   | .inr q14_ =>
    some (Sum.inl (IntKind.i64.wrap (t39_ + 1)))
 else
  some (Sum.inr (Sum.inr ()))
noncomputable def s_neGood_l1 (t0_Ends : List (List (Int × Int))) (t0_Ids t0_Inputs : List Int) (v : Int) : Option (Unit ⊕ Unit) := itO (fun v => s_neGood_l1_S t0_Ends t0_Ids t0_Inputs v) v
noncomputable def s_neGood (t0_Ends : List (List (Int × Int))) (t0_Ids t0_Inputs : List Int) : Option (Bool) :=
 if (inR (t0_Ends.length : Int) (1 : Int) (40 : Int)) = true then
  ck (t0_Ids.length < 1099511627776) <|
  if (idsB t0_Ids (t0_Ends.length : Int)) = true then
   if (t0_Inputs.length : Int) = (t0_Ends.length : Int) then
    ck (t0_Inputs.length < 1099511627776) <|
    if (allIn t0_Inputs (0 : Int) (9 : Int)) = true then
     (s_neGood_l1 t0_Ends t0_Ids t0_Inputs 0).bind fun r11_ =>
     match r11_ with
     | .inl q11_ =>
      some false
     | .inr q11_ =>
      some true
    else
     some false
   else
    some false
  else
   some false
 else
  some false
/-- spec.neGood -/
def k33_l0b : SC :=
 .seq
 (.ops [
 ⟨some 50, .binOp .lss 3 (.tmp 49) (.tmp 48) 3, 0, none⟩])
 (.seq
 (.cond (.tmp 50)
 .skip
 (.exit 2))
 (.seq
 (.block 3
 (.seq
 (.ops [
 ⟨some 51, .move (.tmp 49), 3, none⟩,
 ⟨some 52, .indexAddr 100 (.tmp 47) (.tmp 49), 0, none⟩,
 ⟨some 53, .load 102 (.tmp 52), 102, none⟩,
 ⟨some 6, .alloc 102, 0, none⟩,
 ⟨some 5, .assign (.tmp 51), 3, none⟩,
 ⟨none, .store 102 (.tmp 6) (.tmp 53), 0, none⟩])
 (.seq
 (.draws [
 (⟨[54, 6, 6], [54, 55, 56, 57, 58, 59, 60, 61, 62, 63, 64, 65, 66, 67, 68, 69, 70, 71, 72, 73, 74, 75, 76, 77, 78, 79, 80, 81, 82, 83, 84, 85, 86, 87, 88, 89, 87, 88, 3, 5, 90, 91], [54]⟩, ⟨some 54, .fieldAddr 102 (.tmp 6) 0, 0, none⟩),
 (⟨[55, 54, 6], [54, 55, 56, 57, 58, 59, 60, 61, 62, 63, 64, 65, 66, 67, 68, 69, 70, 71, 72, 73, 74, 75, 76, 77, 78, 79, 80, 81, 82, 83, 84, 85, 86, 87, 88, 89, 87, 88, 3, 5, 90, 91], [55]⟩, ⟨some 55, .load 3 (.tmp 54), 3, none⟩),
 (⟨[56, 1, 1], [54, 55, 56, 57, 58, 59, 60, 61, 62, 63, 64, 65, 66, 67, 68, 69, 70, 71, 72, 73, 74, 75, 76, 77, 78, 79, 80, 81, 82, 83, 84, 85, 86, 87, 88, 89, 87, 88, 3, 5, 90, 91], [56]⟩, ⟨some 56, .fieldAddr 31 (.tmp 1) 0, 0, none⟩),
 (⟨[57, 56, 1], [54, 55, 56, 57, 58, 59, 60, 61, 62, 63, 64, 65, 66, 67, 68, 69, 70, 71, 72, 73, 74, 75, 76, 77, 78, 79, 80, 81, 82, 83, 84, 85, 86, 87, 88, 89, 87, 88, 3, 5, 90, 91], [57]⟩, ⟨some 57, .load 29 (.tmp 56), 29, none⟩),
 (⟨[58, 57, 1], [54, 55, 56, 57, 58, 59, 60, 61, 62, 63, 64, 65, 66, 67, 68, 69, 70, 71, 72, 73, 74, 75, 76, 77, 78, 79, 80, 81, 82, 83, 84, 85, 86, 87, 88, 89, 87, 88, 3, 5, 90, 91], [58]⟩, ⟨some 58, .call ⟨(.builtin .len), #[(.tmp 57)], #[29]⟩, 3, none⟩),
 (⟨[59, 58, 58], [54, 55, 56, 57, 58, 59, 60, 61, 62, 63, 64, 65, 66, 67, 68, 69, 70, 71, 72, 73, 74, 75, 76, 77, 78, 79, 80, 81, 82, 83, 84, 85, 86, 87, 88, 89, 87, 88, 3, 5, 90, 91], [59]⟩, ⟨some 59, .binOp .sub 3 (.tmp 58) (.const (.int .i64 1)) 3, 3, none⟩),
 (⟨[60, 55, 59, 6, 59], [54, 55, 56, 57, 58, 59, 60, 61, 62, 63, 64, 65, 66, 67, 68, 69, 70, 71, 72, 73, 74, 75, 76, 77, 78, 79, 80, 81, 82, 83, 84, 85, 86, 87, 88, 89, 87, 88, 3, 5, 90, 91], [60]⟩, ⟨some 60, .call ⟨(.value (.func 43)), #[(.tmp 55), (.const (.int .i64 0)), (.tmp 59)], #[3, 3, 3]⟩, 4, none⟩),
 (⟨[61, 60, 60], [54, 55, 56, 57, 58, 59, 60, 61, 62, 63, 64, 65, 66, 67, 68, 69, 70, 71, 72, 73, 74, 75, 76, 77, 78, 79, 80, 81, 82, 83, 84, 85, 86, 87, 88, 89, 87, 88, 3, 5, 90, 91], [61]⟩, ⟨some 61, .unOp .not 4 (.tmp 60), 4, none⟩),
 (⟨[62, 61, 61], [54, 55, 56, 57, 58, 59, 60, 61, 62, 63, 64, 65, 66, 67, 68, 69, 70, 71, 72, 73, 74, 75, 76, 77, 78, 79, 80, 81, 82, 83, 84, 85, 86, 87, 88, 89, 87, 88, 3, 5, 90, 91], [62]⟩, ⟨some 62, .move (.tmp 61), 4, none⟩),
 (⟨[63, 6, 6, 62], [54, 55, 56, 57, 58, 59, 60, 61, 62, 63, 64, 65, 66, 67, 68, 69, 70, 71, 72, 73, 74, 75, 76, 77, 78, 79, 80, 81, 82, 83, 84, 85, 86, 87, 88, 89, 87, 88, 3, 5, 90, 91], [63]⟩, ⟨some 63, .fieldAddr 102 (.tmp 6) 1, 0, (some (some 62, false))⟩),
 (⟨[64, 63, 6, 62], [54, 55, 56, 57, 58, 59, 60, 61, 62, 63, 64, 65, 66, 67, 68, 69, 70, 71, 72, 73, 74, 75, 76, 77, 78, 79, 80, 81, 82, 83, 84, 85, 86, 87, 88, 89, 87, 88, 3, 5, 90, 91], [64]⟩, ⟨some 64, .load 3 (.tmp 63), 3, (some (some 62, false))⟩),
 (⟨[65, 1, 1, 62], [54, 55, 56, 57, 58, 59, 60, 61, 62, 63, 64, 65, 66, 67, 68, 69, 70, 71, 72, 73, 74, 75, 76, 77, 78, 79, 80, 81, 82, 83, 84, 85, 86, 87, 88, 89, 87, 88, 3, 5, 90, 91], [65]⟩, ⟨some 65, .fieldAddr 31 (.tmp 1) 0, 0, (some (some 62, false))⟩),
 (⟨[66, 65, 1, 62], [54, 55, 56, 57, 58, 59, 60, 61, 62, 63, 64, 65, 66, 67, 68, 69, 70, 71, 72, 73, 74, 75, 76, 77, 78, 79, 80, 81, 82, 83, 84, 85, 86, 87, 88, 89, 87, 88, 3, 5, 90, 91], [66]⟩, ⟨some 66, .load 29 (.tmp 65), 29, (some (some 62, false))⟩),
 (⟨[67, 6, 6, 62], [54, 55, 56, 57, 58, 59, 60, 61, 62, 63, 64, 65, 66, 67, 68, 69, 70, 71, 72, 73, 74, 75, 76, 77, 78, 79, 80, 81, 82, 83, 84, 85, 86, 87, 88, 89, 87, 88, 3, 5, 90, 91], [67]⟩, ⟨some 67, .fieldAddr 102 (.tmp 6) 0, 0, (some (some 62, false))⟩),
 (⟨[68, 67, 6, 62], [54, 55, 56, 57, 58, 59, 60, 61, 62, 63, 64, 65, 66, 67, 68, 69, 70, 71, 72, 73, 74, 75, 76, 77, 78, 79, 80, 81, 82, 83, 84, 85, 86, 87, 88, 89, 87, 88, 3, 5, 90, 91], [68]⟩, ⟨some 68, .load 3 (.tmp 67), 3, (some (some 62, false))⟩),
 (⟨[69, 66, 68, 1, 6, 62], [54, 55, 56, 57, 58, 59, 60, 61, 62, 63, 64, 65, 66, 67, 68, 69, 70, 71, 72, 73, 74, 75, 76, 77, 78, 79, 80, 81, 82, 83, 84, 85, 86, 87, 88, 89, 87, 88, 3, 5, 90, 91], [69]⟩, ⟨some 69, .indexAddr 29 (.tmp 66) (.tmp 68), 0, (some (some 62, false))⟩),
 (⟨[70, 69, 1, 62], [54, 55, 56, 57, 58, 59, 60, 61, 62, 63, 64, 65, 66, 67, 68, 69, 70, 71, 72, 73, 74, 75, 76, 77, 78, 79, 80, 81, 82, 83, 84, 85, 86, 87, 88, 89, 87, 88, 3, 5, 90, 91], [70]⟩, ⟨some 70, .load 100 (.tmp 69), 100, (some (some 62, false))⟩),
 (⟨[71, 70, 1, 62], [54, 55, 56, 57, 58, 59, 60, 61, 62, 63, 64, 65, 66, 67, 68, 69, 70, 71, 72, 73, 74, 75, 76, 77, 78, 79, 80, 81, 82, 83, 84, 85, 86, 87, 88, 89, 87, 88, 3, 5, 90, 91], [71]⟩, ⟨some 71, .call ⟨(.builtin .len), #[(.tmp 70)], #[100]⟩, 3, (some (some 62, false))⟩),
 (⟨[72, 71, 71, 62], [54, 55, 56, 57, 58, 59, 60, 61, 62, 63, 64, 65, 66, 67, 68, 69, 70, 71, 72, 73, 74, 75, 76, 77, 78, 79, 80, 81, 82, 83, 84, 85, 86, 87, 88, 89, 87, 88, 3, 5, 90, 91], [72]⟩, ⟨some 72, .binOp .sub 3 (.tmp 71) (.const (.int .i64 1)) 3, 3, (some (some 62, false))⟩),
 (⟨[73, 64, 72, 6, 72, 62], [54, 55, 56, 57, 58, 59, 60, 61, 62, 63, 64, 65, 66, 67, 68, 69, 70, 71, 72, 73, 74, 75, 76, 77, 78, 79, 80, 81, 82, 83, 84, 85, 86, 87, 88, 89, 87, 88, 3, 5, 90, 91], [73]⟩, ⟨some 73, .call ⟨(.value (.func 43)), #[(.tmp 64), (.const (.int .i64 0)), (.tmp 72)], #[3, 3, 3]⟩, 4, (some (some 62, false))⟩),
 (⟨[74, 73, 73, 62], [54, 55, 56, 57, 58, 59, 60, 61, 62, 63, 64, 65, 66, 67, 68, 69, 70, 71, 72, 73, 74, 75, 76, 77, 78, 79, 80, 81, 82, 83, 84, 85, 86, 87, 88, 89, 87, 88, 3, 5, 90, 91], [74]⟩, ⟨some 74, .unOp .not 4 (.tmp 73), 4, (some (some 62, false))⟩),
 (⟨[75, 62, 74, 61, 74], [54, 55, 56, 57, 58, 59, 60, 61, 62, 63, 64, 65, 66, 67, 68, 69, 70, 71, 72, 73, 74, 75, 76, 77, 78, 79, 80, 81, 82, 83, 84, 85, 86, 87, 88, 89, 87, 88, 3, 5, 90, 91], [75]⟩, ⟨some 75, .pick (.tmp 62) (.const (.bool true)) (.tmp 74), 4, none⟩),
 (⟨[76, 75, 75], [54, 55, 56, 57, 58, 59, 60, 61, 62, 63, 64, 65, 66, 67, 68, 69, 70, 71, 72, 73, 74, 75, 76, 77, 78, 79, 80, 81, 82, 83, 84, 85, 86, 87, 88, 89, 87, 88, 3, 5, 90, 91], [76]⟩, ⟨some 76, .move (.tmp 75), 4, none⟩),
 (⟨[77, 1, 1, 76], [54, 55, 56, 57, 58, 59, 60, 61, 62, 63, 64, 65, 66, 67, 68, 69, 70, 71, 72, 73, 74, 75, 76, 77, 78, 79, 80, 81, 82, 83, 84, 85, 86, 87, 88, 89, 87, 88, 3, 5, 90, 91], [77]⟩, ⟨some 77, .fieldAddr 31 (.tmp 1) 0, 0, (some (some 76, false))⟩),
 (⟨[78, 77, 1, 76], [54, 55, 56, 57, 58, 59, 60, 61, 62, 63, 64, 65, 66, 67, 68, 69, 70, 71, 72, 73, 74, 75, 76, 77, 78, 79, 80, 81, 82, 83, 84, 85, 86, 87, 88, 89, 87, 88, 3, 5, 90, 91], [78]⟩, ⟨some 78, .load 29 (.tmp 77), 29, (some (some 76, false))⟩),
 (⟨[79, 6, 6, 76], [54, 55, 56, 57, 58, 59, 60, 61, 62, 63, 64, 65, 66, 67, 68, 69, 70, 71, 72, 73, 74, 75, 76, 77, 78, 79, 80, 81, 82, 83, 84, 85, 86, 87, 88, 89, 87, 88, 3, 5, 90, 91], [79]⟩, ⟨some 79, .fieldAddr 102 (.tmp 6) 0, 0, (some (some 76, false))⟩),
 (⟨[80, 79, 6, 76], [54, 55, 56, 57, 58, 59, 60, 61, 62, 63, 64, 65, 66, 67, 68, 69, 70, 71, 72, 73, 74, 75, 76, 77, 78, 79, 80, 81, 82, 83, 84, 85, 86, 87, 88, 89, 87, 88, 3, 5, 90, 91], [80]⟩, ⟨some 80, .load 3 (.tmp 79), 3, (some (some 76, false))⟩),
 (⟨[81, 78, 80, 1, 6, 76], [54, 55, 56, 57, 58, 59, 60, 61, 62, 63, 64, 65, 66, 67, 68, 69, 70, 71, 72, 73, 74, 75, 76, 77, 78, 79, 80, 81, 82, 83, 84, 85, 86, 87, 88, 89, 87, 88, 3, 5, 90, 91], [81]⟩, ⟨some 81, .indexAddr 29 (.tmp 78) (.tmp 80), 0, (some (some 76, false))⟩),
 (⟨[82, 81, 1, 76], [54, 55, 56, 57, 58, 59, 60, 61, 62, 63, 64, 65, 66, 67, 68, 69, 70, 71, 72, 73, 74, 75, 76, 77, 78, 79, 80, 81, 82, 83, 84, 85, 86, 87, 88, 89, 87, 88, 3, 5, 90, 91], [82]⟩, ⟨some 82, .load 100 (.tmp 81), 100, (some (some 76, false))⟩),
 (⟨[83, 6, 6, 76], [54, 55, 56, 57, 58, 59, 60, 61, 62, 63, 64, 65, 66, 67, 68, 69, 70, 71, 72, 73, 74, 75, 76, 77, 78, 79, 80, 81, 82, 83, 84, 85, 86, 87, 88, 89, 87, 88, 3, 5, 90, 91], [83]⟩, ⟨some 83, .fieldAddr 102 (.tmp 6) 1, 0, (some (some 76, false))⟩),
 (⟨[84, 83, 6, 76], [54, 55, 56, 57, 58, 59, 60, 61, 62, 63, 64, 65, 66, 67, 68, 69, 70, 71, 72, 73, 74, 75, 76, 77, 78, 79, 80, 81, 82, 83, 84, 85, 86, 87, 88, 89, 87, 88, 3, 5, 90, 91], [84]⟩, ⟨some 84, .load 3 (.tmp 83), 3, (some (some 76, false))⟩),
 (⟨[85, 82, 84, 1, 6, 76], [54, 55, 56, 57, 58, 59, 60, 61, 62, 63, 64, 65, 66, 67, 68, 69, 70, 71, 72, 73, 74, 75, 76, 77, 78, 79, 80, 81, 82, 83, 84, 85, 86, 87, 88, 89, 87, 88, 3, 5, 90, 91], [85]⟩, ⟨some 85, .indexAddr 100 (.tmp 82) (.tmp 84), 0, (some (some 76, false))⟩),
 (⟨[86, 85, 1, 76], [54, 55, 56, 57, 58, 59, 60, 61, 62, 63, 64, 65, 66, 67, 68, 69, 70, 71, 72, 73, 74, 75, 76, 77, 78, 79, 80, 81, 82, 83, 84, 85, 86, 87, 88, 89, 87, 88, 3, 5, 90, 91], [86]⟩, ⟨some 86, .load 102 (.tmp 85), 102, (some (some 76, false))⟩),
 (⟨[87, 3, 3, 76], [54, 55, 56, 57, 58, 59, 60, 61, 62, 63, 64, 65, 66, 67, 68, 69, 70, 71, 72, 73, 74, 75, 76, 77, 78, 79, 80, 81, 82, 83, 84, 85, 86, 87, 88, 89, 87, 88, 3, 5, 90, 91], [87]⟩, ⟨some 87, .move (.tmp 3), 3, (some (some 76, false))⟩),
 (⟨[88, 5, 5, 76], [54, 55, 56, 57, 58, 59, 60, 61, 62, 63, 64, 65, 66, 67, 68, 69, 70, 71, 72, 73, 74, 75, 76, 77, 78, 79, 80, 81, 82, 83, 84, 85, 86, 87, 88, 89, 87, 88, 3, 5, 90, 91], [88]⟩, ⟨some 88, .move (.tmp 5), 3, (some (some 76, false))⟩),
 (⟨[89, 87, 88, 3, 5, 76], [54, 55, 56, 57, 58, 59, 60, 61, 62, 63, 64, 65, 66, 67, 68, 69, 70, 71, 72, 73, 74, 75, 76, 77, 78, 79, 80, 81, 82, 83, 84, 85, 86, 87, 88, 89, 87, 88, 3, 5, 90, 91], [89, 87, 88, 3, 5]⟩, ⟨some 89, .build 102 #[(0, (.tmp 87)), (1, (.tmp 88))], 102, (some (some 76, false))⟩),
 (⟨[90, 86, 89, 1, 89, 76], [54, 55, 56, 57, 58, 59, 60, 61, 62, 63, 64, 65, 66, 67, 68, 69, 70, 71, 72, 73, 74, 75, 76, 77, 78, 79, 80, 81, 82, 83, 84, 85, 86, 87, 88, 89, 87, 88, 3, 5, 90, 91], [90]⟩, ⟨some 90, .binOp .neq 102 (.tmp 86) (.tmp 89) 102, 4, (some (some 76, false))⟩),
 (⟨[91, 76, 90, 75, 90], [54, 55, 56, 57, 58, 59, 60, 61, 62, 63, 64, 65, 66, 67, 68, 69, 70, 71, 72, 73, 74, 75, 76, 77, 78, 79, 80, 81, 82, 83, 84, 85, 86, 87, 88, 89, 87, 88, 3, 5, 90, 91], [91]⟩, ⟨some 91, .pick (.tmp 76) (.const (.bool true)) (.tmp 90), 4, none⟩)])
 (.cond (.tmp 91)
 (.seq
 (.ops [
 ⟨some 2, .assign (.const (.bool false)), 4, none⟩])
 .ret)
 .skip))))
 (.ops [
 ⟨some 92, .binOp .add 3 (.tmp 49) (.const (.int .i64 1)) 3, 3, none⟩,
 ⟨some 49, .move (.tmp 92), 3, none⟩])))
def k33_l0 : SC := .loop k33_l0b
def k33_l1b : SC :=
 .seq
 (.ops [
 ⟨some 40, .binOp .lss 3 (.tmp 39) (.tmp 38) 3, 0, none⟩])
 (.seq
 (.cond (.tmp 40)
 .skip
 (.exit 0))
 (.seq
 (.block 1
 (.seq
 (.ops [
 ⟨some 41, .move (.tmp 39), 3, none⟩,
 ⟨some 42, .indexAddr 29 (.tmp 37) (.tmp 39), 0, none⟩,
 ⟨some 43, .load 100 (.tmp 42), 100, none⟩,
 ⟨some 3, .assign (.tmp 41), 3, none⟩,
 ⟨some 4, .assign (.tmp 43), 100, none⟩])
 (.seq
 (.seq
 (.ops [
 ⟨some 44, .move (.tmp 4), 100, none⟩,
 ⟨some 45, .call ⟨(.builtin .len), #[(.tmp 44)], #[100]⟩, 3, none⟩,
 ⟨some 46, .binOp .gtr 3 (.tmp 45) (.const (.int .i64 6)) 3, 4, none⟩])
 (.cond (.tmp 46)
 (.seq
 (.ops [
 ⟨some 2, .assign (.const (.bool false)), 4, none⟩])
 .ret)
 .skip))
 (.seq
 (.ops [
 ⟨some 47, .move (.tmp 4), 100, none⟩,
 ⟨some 48, .call ⟨(.builtin .len), #[(.tmp 47)], #[100]⟩, 3, none⟩,
 ⟨some 49, .move (.const (.int .i64 0)), 3, none⟩])
 (.block 2
 k33_l0)))))
 (.ops [
 ⟨some 93, .binOp .add 3 (.tmp 39) (.const (.int .i64 1)) 3, 3, none⟩,
 ⟨some 39, .move (.tmp 93), 3, none⟩])))
def k33_l1 : SC := .loop k33_l1b
def k33 : SC :=
 .seq
 (.ops [
 ⟨some 1, .box 31 (.tmp 0), 0, none⟩,
 ⟨some 2, .assign (.const (.bool false)), 4, none⟩])
 (.seq
 (.seq
 (.ops [
 ⟨some 7, .fieldAddr 31 (.tmp 1) 0, 0, none⟩,
 ⟨some 8, .load 29 (.tmp 7), 29, none⟩,
 ⟨some 9, .call ⟨(.builtin .len), #[(.tmp 8)], #[29]⟩, 3, none⟩,
 ⟨some 10, .call ⟨(.value (.func 43)), #[(.tmp 9), (.const (.int .i64 1)), (.const (.int .i64 40))], #[3, 3, 3]⟩, 4, none⟩,
 ⟨some 11, .unOp .not 4 (.tmp 10), 4, none⟩,
 ⟨some 12, .move (.tmp 11), 4, none⟩,
 ⟨some 13, .fieldAddr 31 (.tmp 1) 1, 0, (some (some 12, false))⟩,
 ⟨some 14, .load 23 (.tmp 13), 23, (some (some 12, false))⟩,
 ⟨some 15, .fieldAddr 31 (.tmp 1) 0, 0, (some (some 12, false))⟩,
 ⟨some 16, .load 29 (.tmp 15), 29, (some (some 12, false))⟩,
 ⟨some 17, .call ⟨(.builtin .len), #[(.tmp 16)], #[29]⟩, 3, (some (some 12, false))⟩,
 ⟨some 18, .call ⟨(.value (.func 71)), #[(.tmp 14), (.tmp 17)], #[23, 3]⟩, 4, (some (some 12, false))⟩,
 ⟨some 19, .unOp .not 4 (.tmp 18), 4, (some (some 12, false))⟩,
 ⟨some 20, .pick (.tmp 12) (.const (.bool true)) (.tmp 19), 4, none⟩,
 ⟨some 21, .move (.tmp 20), 4, none⟩,
 ⟨some 22, .fieldAddr 31 (.tmp 1) 2, 0, (some (some 21, false))⟩,
 ⟨some 23, .load 23 (.tmp 22), 23, (some (some 21, false))⟩,
 ⟨some 24, .call ⟨(.builtin .len), #[(.tmp 23)], #[23]⟩, 3, (some (some 21, false))⟩,
 ⟨some 25, .fieldAddr 31 (.tmp 1) 0, 0, (some (some 21, false))⟩,
 ⟨some 26, .load 29 (.tmp 25), 29, (some (some 21, false))⟩,
 ⟨some 27, .call ⟨(.builtin .len), #[(.tmp 26)], #[29]⟩, 3, (some (some 21, false))⟩,
 ⟨some 28, .binOp .neq 3 (.tmp 24) (.tmp 27) 3, 4, (some (some 21, false))⟩,
 ⟨some 29, .pick (.tmp 21) (.const (.bool true)) (.tmp 28), 4, none⟩,
 ⟨some 30, .move (.tmp 29), 4, none⟩,
 ⟨some 31, .fieldAddr 31 (.tmp 1) 2, 0, (some (some 30, false))⟩,
 ⟨some 32, .load 23 (.tmp 31), 23, (some (some 30, false))⟩,
 ⟨some 33, .call ⟨(.value (.func 72)), #[(.tmp 32), (.const (.int .i64 0)), (.const (.int .i64 9))], #[23, 3, 3]⟩, 4, (some (some 30, false))⟩,
 ⟨some 34, .unOp .not 4 (.tmp 33), 4, (some (some 30, false))⟩,
 ⟨some 35, .pick (.tmp 30) (.const (.bool true)) (.tmp 34), 4, none⟩])
 (.cond (.tmp 35)
 (.seq
 (.ops [
 ⟨some 2, .assign (.const (.bool false)), 4, none⟩])
 .ret)
 .skip))
 (.seq
 (.seq
 (.ops [
 ⟨some 36, .fieldAddr 31 (.tmp 1) 0, 0, none⟩,
 ⟨some 37, .load 29 (.tmp 36), 29, none⟩,
 ⟨some 38, .call ⟨(.builtin .len), #[(.tmp 37)], #[29]⟩, 3, none⟩,
 ⟨some 39, .move (.const (.int .i64 0)), 3, none⟩])
 (.block 0
 k33_l1))
 (.seq
 (.ops [
 ⟨some 2, .assign (.const (.bool true)), 4, none⟩])
 .ret)))
theorem slim33 : Try.f33.body.map (slim lends) = some k33 := by kernel_rfl
theorem ok33 : fnOk Try.f33 1 = true := by kernel_rfl
theorem c33 {a l : List D} {r : D × List D} (h : wpD Y.env k33 (fin tys l.length [ResultVar.tmp 2] r) (entry a l)) (ha : a.length = 1) : Y.call 33 a l = some r :=
 call_slim (Y := Y) rfl Try.func33 (ha ▸ ok33) slim33 h
def s_neGood_l0_M (t0_Ends : List (List (Int × Int))) (t0_Ids t0_Inputs : List Int) (t39_ t49_ : Int) (s : St) : Prop := s.v 1 = D.box [D.sl 100 (lst (fun x => D.sl 102 (cat2 .i64 .i64 x)) t0_Ends), D.sl 3 (lst (D.int .i64) t0_Ids), D.sl 3 (lst (D.int .i64) t0_Inputs)] ∧ s.v 3 = D.int .i64 t39_ ∧ s.v 37 = D.sl 100 (lst (fun x => D.sl 102 (cat2 .i64 .i64 x)) t0_Ends) ∧ s.v 38 = D.int .i64 (t0_Ends.length : Int) ∧ s.v 39 = D.int .i64 t39_ ∧ s.v 47 = D.sl 102 (cat2 .i64 .i64 (t0_Ends.getD t39_.toNat default)) ∧ s.v 48 = D.int .i64 ((t0_Ends.getD t39_.toNat default).length : Int) ∧ s.v 49 = D.int .i64 t49_
def s_neGood_l0_X (t0_Ends : List (List (Int × Int))) (t0_Ids t0_Inputs : List Int) (t39_ : Int) (r : Unit ⊕ Unit) (ex : Ex) (s : St) : Prop := match r with
 | .inl q => ex = .ret ∧ s.v 2 = D.bool false
 | .inr q => ex = .exit 2 ∧ s.v 1 = D.box [D.sl 100 (lst (fun x => D.sl 102 (cat2 .i64 .i64 x)) t0_Ends), D.sl 3 (lst (D.int .i64) t0_Ids), D.sl 3 (lst (D.int .i64) t0_Inputs)] ∧ s.v 37 = D.sl 100 (lst (fun x => D.sl 102 (cat2 .i64 .i64 x)) t0_Ends) ∧ s.v 38 = D.int .i64 (t0_Ends.length : Int) ∧ s.v 39 = D.int .i64 t39_
theorem s_neGood_l0_wp (t0_Ends : List (List (Int × Int))) (t0_Ids t0_Inputs : List Int) (t39_ : Int) {v : Int} {s : St} {r : Unit ⊕ Unit} (h : s_neGood_l0 t0_Ends t0_Ids t0_Inputs t39_ v = some r) (hM : s_neGood_l0_M t0_Ends t0_Ids t0_Inputs t39_ v s) : wpD Y.env k33_l0 (s_neGood_l0_X t0_Ends t0_Ids t0_Inputs t39_ r) s := by
 unfold s_neGood_l0 at h
 refine wd_itO (c := k33_l0b) (fun v => s_neGood_l0_S t0_Ends t0_Ids t0_Inputs t39_ v) (fun v s => s_neGood_l0_M t0_Ends t0_Ids t0_Inputs t39_ v s) (s_neGood_l0_X t0_Ends t0_Ids t0_Inputs t39_) ?_ h hM
 clear h hM s v r
 intro t49_ s o hM h
 unfold s_neGood_l0_S at h
 unfold s_neGood_l0_M at hM
 obtain ⟨m0, m1, m2, m3, m4, m5, m6, m7⟩ := hM
 unfold k33_l0b
 by_cases e13 : t49_ < ((t0_Ends.getD t39_.toNat default).length : Int)
 ·rw [if_pos e13] at h
  obtain ⟨e14, h⟩ := ckS h
  have c15 := s_l1In_cl (fstD (t0_Ends.getD t39_.toNat default) t49_.toNat) (0 : Int) (IntKind.i64.wrap ((t0_Ends.length : Int) - 1))
  by_cases e16 : (inR (fstD (t0_Ends.getD t39_.toNat default) t49_.toNat) (0 : Int) (IntKind.i64.wrap ((t0_Ends.length : Int) - 1))) = true
  ·rw [if_pos e16] at h
   obtain ⟨e17, h⟩ := ckS h
   have c18 := s_l1In_cl (sndD (t0_Ends.getD t39_.toNat default) t49_.toNat) (0 : Int) (IntKind.i64.wrap (((t0_Ends.getD ((fstD (t0_Ends.getD t39_.toNat default) t49_.toNat).toNat) default).length : Int) - 1))
   by_cases e19 : (inR (sndD (t0_Ends.getD t39_.toNat default) t49_.toNat) (0 : Int) (IntKind.i64.wrap (((t0_Ends.getD ((fstD (t0_Ends.getD t39_.toNat default) t49_.toNat).toNat) default).length : Int) - 1))) = true
   ·rw [if_pos e19] at h
    obtain ⟨e20, h⟩ := ckS h
    by_cases e21 : (((fstD (t0_Ends.getD ((fstD (t0_Ends.getD t39_.toNat default) t49_.toNat).toNat) default) ((sndD (t0_Ends.getD t39_.toNat default) t49_.toNat).toNat)) == t39_) && ((sndD (t0_Ends.getD ((fstD (t0_Ends.getD t39_.toNat default) t49_.toNat).toNat) default) ((sndD (t0_Ends.getD t39_.toNat default) t49_.toNat).toNat)) == t49_)) = true
    ·rw [if_pos e21] at h
     cases h
     simp (maxDischargeDepth := 9) only [↓xpre, xpost, xlst, xc2, xcore, yset, ↓reduceIte, Nat.reduceEqDiff, Nat.reduceLT, Nat.reduceLeDiff, Nat.reduceAdd, Nat.reduceBEq, m0, m1, m2, m3, m4, m5, m6, m7, e13, e14.1, e14.2, c15, e16, e17.1, e17.2, c18, e19, e20.1, e20.2, e21, s_neGood_l0_M, sxN] <;> (repeat' apply And.intro) <;> first | rfl | exact ⟨_, rfl⟩ | exact ⟨_, _, rfl⟩ | simp [lst, cat2_nil]
    ·rw [if_neg e21] at h
     have e21f : (((fstD (t0_Ends.getD ((fstD (t0_Ends.getD t39_.toNat default) t49_.toNat).toNat) default) ((sndD (t0_Ends.getD t39_.toNat default) t49_.toNat).toNat)) == t39_) && ((sndD (t0_Ends.getD ((fstD (t0_Ends.getD t39_.toNat default) t49_.toNat).toNat) default) ((sndD (t0_Ends.getD t39_.toNat default) t49_.toNat).toNat)) == t49_)) = false := Bool.eq_false_iff.mpr e21
     cases h
     simp (maxDischargeDepth := 9) only [↓xpre, xpost, xlst, xc2, xcore, yset, ↓reduceIte, Nat.reduceEqDiff, Nat.reduceLT, Nat.reduceLeDiff, Nat.reduceAdd, Nat.reduceBEq, m0, m1, m5, m6, m7, e13, e14.1, e14.2, c15, e16, e17.1, e17.2, c18, e19, e20.1, e20.2, e21f, s_neGood_l0_M, s_neGood_l0_X, sxR] <;> (repeat' apply And.intro) <;> first | rfl | exact ⟨_, rfl⟩ | exact ⟨_, _, rfl⟩ | simp [lst, cat2_nil]
   ·rw [if_neg e19] at h
    have e19f : (inR (sndD (t0_Ends.getD t39_.toNat default) t49_.toNat) (0 : Int) (IntKind.i64.wrap (((t0_Ends.getD ((fstD (t0_Ends.getD t39_.toNat default) t49_.toNat).toNat) default).length : Int) - 1))) = false := Bool.eq_false_iff.mpr e19
    cases h
    simp (maxDischargeDepth := 9) only [↓xpre, xpost, xlst, xc2, xcore, yset, ↓reduceIte, Nat.reduceEqDiff, Nat.reduceLT, Nat.reduceAdd, Nat.reduceBEq, m0, m1, m5, m6, m7, e13, e14.1, e14.2, c15, e16, e17.1, e17.2, c18, e19f, s_neGood_l0_M, s_neGood_l0_X, sxR] <;> (repeat' apply And.intro) <;> first | rfl | exact ⟨_, rfl⟩ | exact ⟨_, _, rfl⟩ | simp [lst, cat2_nil]
  ·rw [if_neg e16] at h
   have e16f : (inR (fstD (t0_Ends.getD t39_.toNat default) t49_.toNat) (0 : Int) (IntKind.i64.wrap ((t0_Ends.length : Int) - 1))) = false := Bool.eq_false_iff.mpr e16
   cases h
   simp (maxDischargeDepth := 9) only [↓xpre, xpost, xlst, xc2, xcore, yset, ↓reduceIte, Nat.reduceEqDiff, Nat.reduceLT, Nat.reduceAdd, Nat.reduceBEq, m0, m1, m5, m6, m7, e13, e14.1, e14.2, c15, e16f, s_neGood_l0_M, s_neGood_l0_X, sxR] <;> (repeat' apply And.intro) <;> first | rfl | exact ⟨_, rfl⟩ | exact ⟨_, _, rfl⟩ | simp [lst, cat2_nil]
 ·rw [if_neg e13] at h
  cases h
  simp (maxDischargeDepth := 9) only [↓xpre, xpost, yset, ↓reduceIte, Nat.reduceEqDiff, Nat.reduceLT, m0, m2, m3, m4, m6, m7, e13, s_neGood_l0_M, s_neGood_l0_X, sxE] <;> (repeat' apply And.intro) <;> first | rfl | exact ⟨_, rfl⟩ | exact ⟨_, _, rfl⟩ | simp [lst, cat2_nil]
def s_neGood_l1_M (t0_Ends : List (List (Int × Int))) (t0_Ids t0_Inputs : List Int) (t39_ : Int) (s : St) : Prop := s.v 1 = D.box [D.sl 100 (lst (fun x => D.sl 102 (cat2 .i64 .i64 x)) t0_Ends), D.sl 3 (lst (D.int .i64) t0_Ids), D.sl 3 (lst (D.int .i64) t0_Inputs)] ∧ s.v 37 = D.sl 100 (lst (fun x => D.sl 102 (cat2 .i64 .i64 x)) t0_Ends) ∧ s.v 38 = D.int .i64 (t0_Ends.length : Int) ∧ s.v 39 = D.int .i64 t39_
def s_neGood_l1_X (t0_Ends : List (List (Int × Int))) (t0_Ids t0_Inputs : List Int) (r : Unit ⊕ Unit) (ex : Ex) (s : St) : Prop := match r with
 | .inl q => ex = .ret ∧ s.v 2 = D.bool false
 | .inr q => ex = .exit 0
theorem s_neGood_l1_wp (t0_Ends : List (List (Int × Int))) (t0_Ids t0_Inputs : List Int) {v : Int} {s : St} {r : Unit ⊕ Unit} (h : s_neGood_l1 t0_Ends t0_Ids t0_Inputs v = some r) (hM : s_neGood_l1_M t0_Ends t0_Ids t0_Inputs v s) : wpD Y.env k33_l1 (s_neGood_l1_X t0_Ends t0_Ids t0_Inputs r) s := by
 unfold s_neGood_l1 at h
 refine wd_itO (c := k33_l1b) (fun v => s_neGood_l1_S t0_Ends t0_Ids t0_Inputs v) (fun v s => s_neGood_l1_M t0_Ends t0_Ids t0_Inputs v s) (s_neGood_l1_X t0_Ends t0_Ids t0_Inputs) ?_ h hM
 clear h hM s v r
 intro t39_ s o hM h
 unfold s_neGood_l1_S at h
 unfold s_neGood_l1_M at hM
 obtain ⟨m0, m1, m2, m3⟩ := hM
 unfold k33_l1b
 by_cases e10 : t39_ < (t0_Ends.length : Int)
 ·rw [if_pos e10] at h
  obtain ⟨e11, h⟩ := ckS h
  by_cases e12 : 6 < ((t0_Ends.getD t39_.toNat default).length : Int)
  ·rw [if_pos e12] at h
   cases h
   simp (maxDischargeDepth := 9) only [↓xpre, xpost, xlst, xc2, xcore, yset, ↓reduceIte, Nat.reduceEqDiff, Nat.reduceLT, m1, m2, m3, e10, e11.1, e11.2, e12, s_neGood_l1_M, s_neGood_l1_X, sxR] <;> (repeat' apply And.intro) <;> first | rfl | exact ⟨_, rfl⟩ | exact ⟨_, _, rfl⟩ | simp [lst, cat2_nil]
  ·rw [if_neg e12] at h
   obtain ⟨r14_, hl14, h⟩ := bindS h
   try dsimp only at h
   simp (maxDischargeDepth := 9) only [↓xpre, xpost, xlst, xc2, xcore, yset, ↓reduceIte, Nat.reduceEqDiff, Nat.reduceLT, m1, m2, m3, e10, e11.1, e11.2, e12]
   refine wd_mono (s_neGood_l0_wp t0_Ends t0_Ids t0_Inputs t39_ hl14 ?_) ?_
   ·simp (maxDischargeDepth := 9) only [xpost, ↓reduceIte, Nat.reduceEqDiff, m0, m1, m2, m3, s_neGood_l0_M] <;> (repeat' apply And.intro) <;> first | rfl | exact ⟨_, rfl⟩ | exact ⟨_, _, rfl⟩ | simp [lst, cat2_nil]
   ·intro ex14 s14 hX14
    rcases r14_ with q14_ | q14_
    ·unfold s_neGood_l0_X at hX14
     dsimp only at hX14 h
     obtain ⟨rfl, n14_0⟩ := hX14
     cases h
     simp (maxDischargeDepth := 9) only [↓xpre, xpost, n14_0, s_neGood_l1_M, s_neGood_l1_X, sxR] <;> (repeat' apply And.intro) <;> first | rfl | exact ⟨_, rfl⟩ | exact ⟨_, _, rfl⟩ | simp [lst, cat2_nil]
    ·unfold s_neGood_l0_X at hX14
     dsimp only at hX14 h
     obtain ⟨rfl, n14_0, n14_1, n14_2, n14_3⟩ := hX14
     cases h
     simp (maxDischargeDepth := 9) only [↓xpre, xpost, yset, ↓reduceIte, Nat.reduceEqDiff, Nat.reduceLT, n14_0, n14_1, n14_2, n14_3, s_neGood_l1_M, sxN] <;> (repeat' apply And.intro) <;> first | rfl | exact ⟨_, rfl⟩ | exact ⟨_, _, rfl⟩ | simp [lst, cat2_nil]
 ·rw [if_neg e10] at h
  cases h
  simp (maxDischargeDepth := 9) only [↓xpre, xpost, yset, ↓reduceIte, Nat.reduceLT, m2, m3, e10, s_neGood_l1_M, s_neGood_l1_X, sxE] <;> (repeat' apply And.intro) <;> first | rfl | exact ⟨_, rfl⟩ | exact ⟨_, _, rfl⟩ | simp [lst, cat2_nil]
theorem s_neGood_call (t0_Ends : List (List (Int × Int))) (t0_Ids t0_Inputs : List Int) {r : Bool} (h : s_neGood t0_Ends t0_Ids t0_Inputs = some r) : Y.call 33 [D.agg [D.sl 100 (lst (fun x => D.sl 102 (cat2 .i64 .i64 x)) t0_Ends), D.sl 3 (lst (D.int .i64) t0_Ids), D.sl 3 (lst (D.int .i64) t0_Inputs)]] [] = some (D.bool r, []) := by
 refine c33 ?_ rfl
 unfold k33
 unfold s_neGood at h
 have c1 := s_l1In_cl (t0_Ends.length : Int) (1 : Int) (40 : Int)
 by_cases e2 : (inR (t0_Ends.length : Int) (1 : Int) (40 : Int)) = true
 ·rw [if_pos e2] at h
  obtain ⟨e3, h⟩ := ckS h
  have c4 := s_neIds_cl t0_Ids (t0_Ends.length : Int) e3
  by_cases e5 : (idsB t0_Ids (t0_Ends.length : Int)) = true
  ·rw [if_pos e5] at h
   by_cases e6 : (t0_Inputs.length : Int) = (t0_Ends.length : Int)
   ·rw [if_pos e6] at h
    obtain ⟨e7, h⟩ := ckS h
    have c8 := s_l1All_cl t0_Inputs (0 : Int) (9 : Int) e7
    by_cases e9 : (allIn t0_Inputs (0 : Int) (9 : Int)) = true
    ·rw [if_pos e9] at h
     obtain ⟨r11_, hl11, h⟩ := bindS h
     try dsimp only at h
     simp (maxDischargeDepth := 9) only [↓xpre, xpost, xlst, xcore, yset, ↓reduceIte, Nat.reduceEqDiff, Nat.reduceLT, Nat.reduceAdd, c1, e2, c4, e5, decide_eq_true e6, c8, e9]
     refine wd_mono (s_neGood_l1_wp t0_Ends t0_Ids t0_Inputs hl11 ?_) ?_
     ·simp (maxDischargeDepth := 9) only [xpost, ↓reduceIte, Nat.reduceEqDiff, s_neGood_l1_M] <;> (repeat' apply And.intro) <;> first | rfl | exact ⟨_, rfl⟩ | exact ⟨_, _, rfl⟩ | simp [lst, cat2_nil]
     ·intro ex11 s11 hX11
      rcases r11_ with q11_ | q11_
      ·unfold s_neGood_l1_X at hX11
       dsimp only at hX11 h
       obtain ⟨rfl, n11_0⟩ := hX11
       cases h
       simp (maxDischargeDepth := 9) only [↓xpre, xpost, xcore, ↓reduceIte, n11_0] <;> (repeat' apply And.intro) <;> first | rfl | exact ⟨_, rfl⟩ | exact ⟨_, _, rfl⟩ | simp [lst, cat2_nil]
      ·unfold s_neGood_l1_X at hX11
       dsimp only at hX11 h
       obtain rfl := hX11
       cases h
       simp (maxDischargeDepth := 9) only [↓xpre, xpost, xcore, yset, ↓reduceIte, Nat.reduceEqDiff, Nat.reduceLT] <;> (repeat' apply And.intro) <;> first | rfl | exact ⟨_, rfl⟩ | exact ⟨_, _, rfl⟩ | simp [lst, cat2_nil]
    ·rw [if_neg e9] at h
     have e9f : (allIn t0_Inputs (0 : Int) (9 : Int)) = false := Bool.eq_false_iff.mpr e9
     cases h
     simp (maxDischargeDepth := 9) only [↓xpre, xpost, xlst, xcore, yset, ↓reduceIte, Nat.reduceEqDiff, Nat.reduceLT, Nat.reduceAdd, c1, e2, c4, e5, decide_eq_true e6, c8, e9f] <;> (repeat' apply And.intro) <;> first | rfl | exact ⟨_, rfl⟩ | exact ⟨_, _, rfl⟩ | simp [lst, cat2_nil]
   ·rw [if_neg e6] at h
    cases h
    simp (maxDischargeDepth := 9) only [↓xpre, xpost, xlst, xcore, yset, ↓reduceIte, Nat.reduceEqDiff, Nat.reduceLT, Nat.reduceAdd, c1, e2, c4, e5, e6] <;> (repeat' apply And.intro) <;> first | rfl | exact ⟨_, rfl⟩ | exact ⟨_, _, rfl⟩ | simp [lst, cat2_nil]
  ·rw [if_neg e5] at h
   have e5f : (idsB t0_Ids (t0_Ends.length : Int)) = false := Bool.eq_false_iff.mpr e5
   cases h
   simp (maxDischargeDepth := 9) only [↓xpre, xpost, xlst, xcore, yset, ↓reduceIte, Nat.reduceEqDiff, Nat.reduceLT, Nat.reduceAdd, c1, e2, c4, e5f] <;> (repeat' apply And.intro) <;> first | rfl | exact ⟨_, rfl⟩ | exact ⟨_, _, rfl⟩ | simp [lst, cat2_nil]
 ·rw [if_neg e2] at h
  have e2f : (inR (t0_Ends.length : Int) (1 : Int) (40 : Int)) = false := Bool.eq_false_iff.mpr e2
  cases h
  simp (maxDischargeDepth := 9) only [↓xpre, xpost, xlst, xcore, yset, ↓reduceIte, Nat.reduceEqDiff, Nat.reduceLT, Nat.reduceAdd, c1, e2f] <;> (repeat' apply And.intro) <;> first | rfl | exact ⟨_, rfl⟩ | exact ⟨_, _, rfl⟩ | simp [lst, cat2_nil]

/-- A port's end is a port whose end it is. -/
def portB (es : List (List (Int × Int))) (v i : Nat) : Bool :=
 inR (fstD (es.getD v default) i) 0 ((es.length : Int) - 1) &&
 (inR (sndD (es.getD v default) i) 0 (((es.getD (fstD (es.getD v default) i).toNat default).length : Int) - 1) &&
 ((fstD (es.getD (fstD (es.getD v default) i).toNat default) (sndD (es.getD v default) i).toNat == (v : Int)) && (sndD (es.getD (fstD (es.getD v default) i).toNat default) (sndD (es.getD v default) i).toNat == (i : Int))))
theorem portB_def (es : List (List (Int × Int))) (v i : Nat) : portB es v i = (inR (fstD (es.getD v default) i) 0 ((es.length : Int) - 1) &&
 (inR (sndD (es.getD v default) i) 0 (((es.getD (fstD (es.getD v default) i).toNat default).length : Int) - 1) &&
 ((fstD (es.getD (fstD (es.getD v default) i).toNat default) (sndD (es.getD v default) i).toNat == (v : Int)) && (sndD (es.getD (fstD (es.getD v default) i).toNat default) (sndD (es.getD v default) i).toNat == (i : Int))))) := rfl
def nodeB (es : List (List (Int × Int))) (v : Nat) : Bool := decide ((es.getD v default).length ≤ 6) && (List.range (es.getD v default).length).all (portB es v)
theorem nodeB_def (es : List (List (Int × Int))) (v : Nat) : nodeB es v = (decide ((es.getD v default).length ≤ 6) && (List.range (es.getD v default).length).all (portB es v)) := rfl
/-- The lists are a network. -/
def isNet (es : List (List (Int × Int))) (ids ins : List Int) : Bool :=
 inR es.length 1 40 && (idsB ids es.length && (decide ((ins.length : Int) = es.length) && (allIn ins 0 9 && (List.range es.length).all (nodeB es))))
theorem i_net_l0 (es : List (List (Int × Int))) (ids ins : List Int) (h : ShortE es) (v : Nat) : i_IsNetwork_l0 es ids ins (v : Int) 0 = some (if (List.range (es.getD v default).length).all (portB es v) = true then .inr () else .inl ()) := by
 have h1 := h.1
 have h2 := h.getD v
 unfold i_IsNetwork_l0
 refine itO_all (fun x => i_IsNetwork_l0_S es ids ins (v : Int) x) (fun i => (i : Int)) (es.getD v default).length (portB es v) (.inl ()) (.inr ()) ?_ ?_
 ·intro i hi
  have h3 := h.getD (fstD (es.getD v default) i).toNat
  simp only [i_IsNetwork_l0_S, i_Network_hasPort, i_Network_hasNode, Int.toNat_natCast]
  rw [portB_def, if_pos (lt_nat hi), ckT (by omega), Option.bind_some, wr64 _ (by omega), wr64 _ (by omega), wrS i (by omega)]
  cases r1 : inR (fstD (es.getD v default) i) 0 ((es.length : Int) - 1) with
  | false => simp
  | true =>
   have r1' := inR_iff.1 r1
   rw [if_pos rfl, ckT (by omega), Option.bind_some]
   cases r2 : inR (sndD (es.getD v default) i) 0 (((es.getD (fstD (es.getD v default) i).toNat default).length : Int) - 1) with
   | false => simp
   | true =>
    have r2' := inR_iff.1 r2
    rw [if_pos rfl, ckT (by omega), ckT (by omega), Bool.true_and, Bool.true_and]
 ·simp only [i_IsNetwork_l0_S, Int.toNat_natCast]
  rw [if_neg (not_lt_nat _)]
theorem s_net_l0 (es : List (List (Int × Int))) (ids ins : List Int) (h : ShortE es) (v : Nat) : s_neGood_l0 es ids ins (v : Int) 0 = some (if (List.range (es.getD v default).length).all (portB es v) = true then .inr () else .inl ()) := by
 have h1 := h.1
 have h2 := h.getD v
 unfold s_neGood_l0
 refine itO_all (fun x => s_neGood_l0_S es ids ins (v : Int) x) (fun i => (i : Int)) (es.getD v default).length (portB es v) (.inl ()) (.inr ()) ?_ ?_
 ·intro i hi
  have h3 := h.getD (fstD (es.getD v default) i).toNat
  simp only [s_neGood_l0_S, Int.toNat_natCast]
  rw [portB_def, if_pos (lt_nat hi), ckT (by omega), wr64 _ (by omega), wr64 _ (by omega), wrS i (by omega)]
  cases r1 : inR (fstD (es.getD v default) i) 0 ((es.length : Int) - 1) with
  | false => simp
  | true =>
   have r1' := inR_iff.1 r1
   rw [if_pos rfl, ckT (by omega)]
   cases r2 : inR (sndD (es.getD v default) i) 0 (((es.getD (fstD (es.getD v default) i).toNat default).length : Int) - 1) with
   | false => simp
   | true =>
    have r2' := inR_iff.1 r2
    rw [if_pos rfl, ckT (by omega), Bool.true_and, Bool.true_and]
 ·simp only [s_neGood_l0_S, Int.toNat_natCast]
  rw [if_neg (not_lt_nat _)]
theorem i_net_l1 (es : List (List (Int × Int))) (ids ins : List Int) (h : ShortE es) : i_IsNetwork_l1 es ids ins 0 = some (if (List.range es.length).all (nodeB es) = true then .inr () else .inl ()) := by
 have h1 := h.1
 unfold i_IsNetwork_l1
 refine itO_all (fun x => i_IsNetwork_l1_S es ids ins x) (fun i => (i : Int)) es.length (nodeB es) (.inl ()) (.inr ()) ?_ ?_
 ·intro v hv
  simp only [i_IsNetwork_l1_S, Int.toNat_natCast]
  rw [nodeB_def, if_pos (lt_nat hv), ckT (by omega), i_net_l0 es ids ins h v, Option.bind_some, wrS v (by omega)]
  by_cases h6 : (es.getD v default).length ≤ 6
  ·rw [if_neg (by omega), decide_eq_true h6, Bool.true_and]
   cases (List.range (es.getD v default).length).all (portB es v) <;> rfl
  ·rw [if_pos (by omega), decide_eq_false h6]; rfl
 ·simp only [i_IsNetwork_l1_S]
  rw [if_neg (not_lt_nat _)]
theorem s_net_l1 (es : List (List (Int × Int))) (ids ins : List Int) (h : ShortE es) : s_neGood_l1 es ids ins 0 = some (if (List.range es.length).all (nodeB es) = true then .inr () else .inl ()) := by
 have h1 := h.1
 unfold s_neGood_l1
 refine itO_all (fun x => s_neGood_l1_S es ids ins x) (fun i => (i : Int)) es.length (nodeB es) (.inl ()) (.inr ()) ?_ ?_
 ·intro v hv
  simp only [s_neGood_l1_S, Int.toNat_natCast]
  rw [nodeB_def, if_pos (lt_nat hv), ckT (by omega), s_net_l0 es ids ins h v, Option.bind_some, wrS v (by omega)]
  by_cases h6 : (es.getD v default).length ≤ 6
  ·rw [if_neg (by omega), decide_eq_true h6, Bool.true_and]
   cases (List.range (es.getD v default).length).all (portB es v) <;> rfl
  ·rw [if_pos (by omega), decide_eq_false h6]; rfl
 ·simp only [s_neGood_l1_S]
  rw [if_neg (not_lt_nat _)]
theorem i_IsNetwork_eq (es : List (List (Int × Int))) (ids ins : List Int) (h : ShortE es) (h2 : ids.length < 1099511627776) (h3 : ins.length < 1099511627776) : i_IsNetwork es ids ins = some (isNet es ids ins) := by
 unfold i_IsNetwork isNet
 rw [ckT h2, i_net_l1 es ids ins h]
 unfold i_inputsOk
 rw [ckT h3]
 cases inR es.length 1 40 with
 | false => rfl
 | true =>
  cases idsB ids es.length with
  | false => rfl
  | true =>
   by_cases hl : (ins.length : Int) = es.length
   ·rw [if_pos hl, decide_eq_true hl]
    cases allIn ins 0 9 with
    | false => rfl
    | true => cases (List.range es.length).all (nodeB es) <;> rfl
   ·rw [if_neg hl, decide_eq_false hl]; rfl
theorem s_neGood_eq (es : List (List (Int × Int))) (ids ins : List Int) (h : ShortE es) (h2 : ids.length < 1099511627776) (h3 : ins.length < 1099511627776) : s_neGood es ids ins = some (isNet es ids ins) := by
 unfold s_neGood isNet
 rw [ckT h2, ckT h3, s_net_l1 es ids ins h]
 cases inR es.length 1 40 with
 | false => rfl
 | true =>
  cases idsB ids es.length with
  | false => rfl
  | true =>
   by_cases hl : (ins.length : Int) = es.length
   ·rw [if_pos hl, decide_eq_true hl]
    cases allIn ins 0 9 with
    | false => rfl
    | true => cases (List.range es.length).all (nodeB es) <;> rfl
   ·rw [if_neg hl, decide_eq_false hl]; rfl
theorem i_IsNetwork_cl (t0_Ends : List (List (Int × Int))) (t0_Ids t0_Inputs : List Int) (h0 : ShortE t0_Ends) (h1 : t0_Ids.length < 1099511627776) (h2 : t0_Inputs.length < 1099511627776) : Y.call 37 [D.agg [D.sl 100 (lst (fun x => D.sl 102 (cat2 .i64 .i64 x)) t0_Ends), D.sl 3 (lst (D.int .i64) t0_Ids), D.sl 3 (lst (D.int .i64) t0_Inputs)]] [] = some (D.bool (isNet t0_Ends t0_Ids t0_Inputs), []) := i_IsNetwork_call t0_Ends t0_Ids t0_Inputs (i_IsNetwork_eq t0_Ends t0_Ids t0_Inputs h0 h1 h2)
theorem s_neGood_cl (t0_Ends : List (List (Int × Int))) (t0_Ids t0_Inputs : List Int) (h0 : ShortE t0_Ends) (h1 : t0_Ids.length < 1099511627776) (h2 : t0_Inputs.length < 1099511627776) : Y.call 33 [D.agg [D.sl 100 (lst (fun x => D.sl 102 (cat2 .i64 .i64 x)) t0_Ends), D.sl 3 (lst (D.int .i64) t0_Ids), D.sl 3 (lst (D.int .i64) t0_Inputs)]] [] = some (D.bool (isNet t0_Ends t0_Ids t0_Inputs), []) := s_neGood_call t0_Ends t0_Ids t0_Inputs (s_neGood_eq t0_Ends t0_Ids t0_Inputs h0 h1 h2)

end Go.Proofs.Ytipfckompmhljaa
