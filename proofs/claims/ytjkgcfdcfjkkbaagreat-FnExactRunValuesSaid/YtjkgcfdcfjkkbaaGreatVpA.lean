/- Value programs, lifted. Conditions: none. -/
import Derived.Test.YtjkgcfdcfjkkbaaGreatL6
import Derived.Test.YtjkgcfdcfjkkbaaGreatNis
import Derived.Test.YtjkgcfdcfjkkbaaGreatCon
import Derived.Test.YtjkgcfdcfjkkbaaGreatMnx
namespace Go.Proofs.YtjkgcfdcfjkkbaaGreat
open Go Dv
set_option linter.unusedSimpArgs false
set_option linter.unusedVariables false
set_option maxRecDepth 100000
set_option maxHeartbeats 4000000

noncomputable def i_ValueOp_needs (o_Kind : Int) (o_Value : Int) : Option (Int) :=
 if o_Kind ≤ 10 then
  some 0
 else
  if o_Kind ≤ 12 then
   some 1
  else
   if o_Kind ≤ 18 then
    some 2
   else
    some 3
/-- impl.ValueOp).needs -/
def k94 : SC :=
 .seq
 (.ops [
 ⟨(some 1), (.box 73 (.tmp 0)), 0, none⟩,
 ⟨(some 2), (.assign (.const (.int .i64 0))), 3, none⟩])
 (.seq
 (.block 0
 (.seq
 (.ops [
 ⟨(some 4), (.fieldAddr 73 (.tmp 1) 0), 0, none⟩,
 ⟨(some 5), (.load 3 (.tmp 4)), 3, none⟩,
 ⟨(some 6), (.binOp .leq 3 (.tmp 5) (.const (.int .i64 10)) 3), 4, none⟩,
 ⟨(some 3), (.assign (.tmp 6)), 4, none⟩])
 (.cond (.tmp 3)
 (.seq
 (.ops [
 ⟨(some 2), (.assign (.const (.int .i64 0))), 3, none⟩])
 .ret)
 (.seq
 (.ops [
 ⟨(some 8), (.fieldAddr 73 (.tmp 1) 0), 0, none⟩,
 ⟨(some 9), (.load 3 (.tmp 8)), 3, none⟩,
 ⟨(some 10), (.binOp .leq 3 (.tmp 9) (.const (.int .i64 12)) 3), 4, none⟩,
 ⟨(some 7), (.assign (.tmp 10)), 4, none⟩])
 (.cond (.tmp 7)
 (.seq
 (.ops [
 ⟨(some 2), (.assign (.const (.int .i64 1))), 3, none⟩])
 .ret)
 (.seq
 (.ops [
 ⟨(some 12), (.fieldAddr 73 (.tmp 1) 0), 0, none⟩,
 ⟨(some 13), (.load 3 (.tmp 12)), 3, none⟩,
 ⟨(some 14), (.binOp .leq 3 (.tmp 13) (.const (.int .i64 18)) 3), 4, none⟩,
 ⟨(some 11), (.assign (.tmp 14)), 4, none⟩])
 (.cond (.tmp 11)
 (.seq
 (.ops [
 ⟨(some 2), (.assign (.const (.int .i64 2))), 3, none⟩])
 .ret)
 .skip)))))))
 (.seq
 (.ops [
 ⟨(some 2), (.assign (.const (.int .i64 3))), 3, none⟩])
 .ret))
theorem slim94 : Tryz.f94.body.map (slim lends) = some k94 := by kernel_rfl
theorem ok94 : fnOk Tryz.f94 1 = true := by kernel_rfl
theorem c94 {a l : List D} {r : D × List D} (h : wpD Y.env k94 (fin tys l.length [ResultVar.tmp 2] r) (entry a l)) (ha : a.length = 1) : Y.call 94 a l = some r :=
 call_slim (Y := Y) rfl Tryz.func94 (ha ▸ ok94) slim94 h
theorem i_ValueOp_needs_call (o_Kind : Int) (o_Value : Int) {r : Int} (h : i_ValueOp_needs o_Kind o_Value = some r) : Y.call 94 [D.agg [D.int .i64 o_Kind, D.int .i64 o_Value]] [] = some (D.int .i64 r, []) := by
 refine c94 ?_ rfl
 unfold k94
 unfold i_ValueOp_needs at h
 by_cases e1 : o_Kind ≤ 10
 ·rw [if_pos e1] at h
  obtain rfl := Option.some.inj h
  simp (maxDischargeDepth := 9) only [↓xpre, xpost, xcore, yset, ↓reduceIte, Nat.reduceEqDiff, Nat.reduceLT, Nat.reduceAdd, e1]
 ·rw [if_neg e1] at h
  by_cases e2 : o_Kind ≤ 12
  ·rw [if_pos e2] at h
   obtain rfl := Option.some.inj h
   simp (maxDischargeDepth := 9) only [↓xpre, xpost, xcore, yset, ↓reduceIte, Nat.reduceEqDiff, Nat.reduceLT, Nat.reduceAdd, e1, e2]
  ·rw [if_neg e2] at h
   by_cases e3 : o_Kind ≤ 18
   ·rw [if_pos e3] at h
    obtain rfl := Option.some.inj h
    simp (maxDischargeDepth := 9) only [↓xpre, xpost, xcore, yset, ↓reduceIte, Nat.reduceEqDiff, Nat.reduceLT, Nat.reduceAdd, e1, e2, e3]
   ·rw [if_neg e3] at h
    obtain rfl := Option.some.inj h
    simp (maxDischargeDepth := 9) only [↓xpre, xpost, xcore, yset, ↓reduceIte, Nat.reduceEqDiff, Nat.reduceLT, Nat.reduceAdd, e1, e2, e3]

noncomputable def i_surroundings_countIf_l0_S (s_near : List Int) (good : Int → Option Bool) (n_ : Int) (t11_ : Int) : Option ((Int × Int) ⊕ (Int)) :=
 if t11_ < (s_near.length : Int) then
  ck (0 ≤ t11_ ∧ t11_.toNat < s_near.length) <|
  (good (s_near.getD t11_.toNat default)).bind fun r3_ =>
  if r3_ = true then
   some (Sum.inl (IntKind.i64.wrap (n_ + 1), IntKind.i64.wrap (t11_ + 1)))
  else
   some (Sum.inl (n_, IntKind.i64.wrap (t11_ + 1)))
 else
  some (Sum.inr n_)
noncomputable def i_surroundings_countIf_l0 (s_near : List Int) (good : Int → Option Bool) (v : Int × Int) : Option (Int) := itO (fun v => i_surroundings_countIf_l0_S s_near good v.1 v.2) v
noncomputable def i_surroundings_countIf (s_own : Int) (s_id : Int) (s_input : Int) (s_round : Int) (s_near : List Int) (good : Int → Option Bool) : Option (Int) :=
 (i_surroundings_countIf_l0 s_near good (0, 0)).bind fun r2_ =>
 some r2_
/-- impl.surroundings).countIf -/
def k111_l0b : SC :=
 .seq
 (.ops [
 ⟨(some 12), (.binOp .lss 3 (.tmp 11) (.tmp 10) 3), 0, none⟩])
 (.seq
 (.cond (.tmp 12)
 .skip
 (.exit 0))
 (.seq
 (.block 1
 (.seq
 (.ops [
 ⟨(some 13), (.indexAddr 26 (.tmp 9) (.tmp 11)), 0, none⟩,
 ⟨(some 14), (.load 3 (.tmp 13)), 3, none⟩,
 ⟨(some 7), (.assign (.tmp 14)), 3, none⟩])
 (.seq
 (.ops [
 ⟨(some 15), (.move (.tmp 1)), 77, none⟩,
 ⟨(some 16), (.move (.tmp 7)), 3, none⟩,
 ⟨(some 17), (.call ⟨(.value (.tmp 15)), #[(.tmp 16)], #[3]⟩), 4, none⟩])
 (.cond (.tmp 17)
 (.ops [
 ⟨(some 18), (.move (.tmp 5)), 3, none⟩,
 ⟨(some 19), (.binOp .add 3 (.tmp 18) (.const (.int .i64 1)) 3), 3, none⟩,
 ⟨(some 5), (.assign (.tmp 19)), 3, none⟩])
 .skip))))
 (.ops [
 ⟨(some 20), (.binOp .add 3 (.tmp 11) (.const (.int .i64 1)) 3), 3, none⟩,
 ⟨(some 11), (.move (.tmp 20)), 3, none⟩])))
def k111_l0 : SC := .loop k111_l0b
def k111 : SC :=
 .seq
 (.ops [
 ⟨(some 2), (.box 99 (.tmp 0)), 0, none⟩,
 ⟨(some 4), (.assign (.const (.int .i64 0))), 3, none⟩])
 (.seq
 (.ops [
 ⟨(some 5), (.assign (.const (.int .i64 0))), 3, none⟩])
 (.seq
 (.seq
 (.ops [
 ⟨(some 8), (.fieldAddr 99 (.tmp 2) 4), 0, none⟩,
 ⟨(some 9), (.load 26 (.tmp 8)), 26, none⟩,
 ⟨(some 10), (.call ⟨(.builtin .len), #[(.tmp 9)], #[26]⟩), 3, none⟩,
 ⟨(some 11), (.move (.const (.int .i64 0))), 3, none⟩])
 (.block 0
 k111_l0))
 (.seq
 (.ops [
 ⟨(some 21), (.move (.tmp 5)), 3, none⟩,
 ⟨(some 4), (.assign (.tmp 21)), 3, none⟩])
 .ret)))
theorem slim111 : Tryz.f111.body.map (slim lends) = some k111 := by kernel_rfl
theorem ok111 : fnOk Tryz.f111 2 = true := by kernel_rfl
theorem c111 {a l : List D} {r : D × List D} (h : wpD Y.env k111 (fin tys l.length [ResultVar.tmp 4] r) (entry a l)) (ha : a.length = 2) : Y.call 111 a l = some r :=
 call_slim (Y := Y) rfl Tryz.func111 (ha ▸ ok111) slim111 h
def i_surroundings_countIf_l0_M (s_near : List Int) (good : Int → Option Bool) (good_f : FuncId) (good_c : List D) (n_ : Int) (t11_ : Int) (s : St) : Prop := s.v 1 = D.clo good_f good_c ∧ s.v 5 = D.int .i64 n_ ∧ s.v 9 = D.sl 3 (lst (D.int .i64) s_near) ∧ s.v 10 = D.int .i64 (s_near.length : Int) ∧ s.v 11 = D.int .i64 t11_
def i_surroundings_countIf_l0_X (s_near : List Int) (good : Int → Option Bool) (good_f : FuncId) (good_c : List D) (r : Int) (ex : Ex) (s : St) : Prop := ex = .exit 0 ∧ s.v 5 = D.int .i64 r
theorem i_surroundings_countIf_l0_wp (s_near : List Int) (good : Int → Option Bool) (good_f : FuncId) (good_c : List D) (good_h : ∀ (a0 : Int) (r : Bool), good a0 = some r → Y.call good_f (D.int .i64 a0 :: good_c) [] = some (D.bool r, [])) (good_l : lends good_f = false) {v : Int × Int} {s : St} {r : Int} (h : i_surroundings_countIf_l0 s_near good v = some r) (hM : i_surroundings_countIf_l0_M s_near good good_f good_c v.1 v.2 s) : wpD Y.env k111_l0 (i_surroundings_countIf_l0_X s_near good good_f good_c r) s := by
 unfold i_surroundings_countIf_l0 at h
 refine wd_itO (c := k111_l0b) (fun v => i_surroundings_countIf_l0_S s_near good v.1 v.2) (fun v s => i_surroundings_countIf_l0_M s_near good good_f good_c v.1 v.2 s) (i_surroundings_countIf_l0_X s_near good good_f good_c) ?_ h hM
 clear h hM s v r
 intro v s o hM h
 obtain ⟨n_, t11_⟩ := v
 dsimp only at h hM
 unfold i_surroundings_countIf_l0_S at h
 unfold i_surroundings_countIf_l0_M at hM
 obtain ⟨m0, m1, m2, m3, m4⟩ := hM
 unfold k111_l0b
 by_cases e1 : t11_ < (s_near.length : Int)
 ·rw [if_pos e1] at h
  obtain ⟨e2, h⟩ := ckS h
  obtain ⟨r3_, hl3, h⟩ := bindS h
  try dsimp only at h
  have c3 := good_h _ _ hl3
  by_cases e4 : r3_ = true
  ·rw [if_pos e4] at h
   obtain rfl := Option.some.inj h
   simp (maxDischargeDepth := 9) only [↓xpre, xpost, xlst, xcore, yset, ↓reduceIte, Nat.reduceEqDiff, Nat.reduceAdd, m0, m1, m2, m3, m4, good_l, e1, e2.1, e2.2, c3, e4, i_surroundings_countIf_l0_M, sxN]
  ·rw [if_neg e4] at h
   have e4f : r3_ = false := Bool.eq_false_iff.mpr e4
   obtain rfl := Option.some.inj h
   simp (maxDischargeDepth := 9) only [↓xpre, xpost, xlst, xcore, yset, ↓reduceIte, Nat.reduceEqDiff, Nat.reduceAdd, m0, m1, m2, m3, m4, good_l, e1, e2.1, e2.2, c3, e4f, i_surroundings_countIf_l0_M, sxN]
 ·rw [if_neg e1] at h
  obtain rfl := Option.some.inj h
  simp (maxDischargeDepth := 9) only [↓xpre, xpost, yset, ↓reduceIte, Nat.reduceEqDiff, m1, m3, m4, e1, i_surroundings_countIf_l0_M, i_surroundings_countIf_l0_X, sxE]
theorem i_surroundings_countIf_call (s_own : Int) (s_id : Int) (s_input : Int) (s_round : Int) (s_near : List Int) (good : Int → Option Bool) (good_f : FuncId) (good_c : List D) (good_h : ∀ (a0 : Int) (r : Bool), good a0 = some r → Y.call good_f (D.int .i64 a0 :: good_c) [] = some (D.bool r, [])) (good_l : lends good_f = false) {r : Int} (h : i_surroundings_countIf s_own s_id s_input s_round s_near good = some r) : Y.call 111 [D.agg [D.int .i64 s_own, D.int .i64 s_id, D.int .i64 s_input, D.int .i64 s_round, D.sl 3 (lst (D.int .i64) s_near)], D.clo good_f good_c] [] = some (D.int .i64 r, []) := by
 refine c111 ?_ rfl
 unfold k111
 unfold i_surroundings_countIf at h
 obtain ⟨r2_, hl2, h⟩ := bindS h
 try dsimp only at h
 simp (maxDischargeDepth := 9) only [↓xpre, xpost, xlst, xcore, yset, ↓reduceIte, Nat.reduceEqDiff, Nat.reduceLT, Nat.reduceAdd]
 refine wd_mono (i_surroundings_countIf_l0_wp s_near good good_f good_c good_h good_l hl2 ?_) ?_
 ·simp (maxDischargeDepth := 9) only [xpost, xcore, ↓reduceIte, Nat.reduceEqDiff, Nat.reduceLT, i_surroundings_countIf_l0_M]
 ·intro ex2 s2 hX2
  unfold i_surroundings_countIf_l0_X at hX2
  obtain ⟨rfl, n2_0⟩ := hX2
  obtain rfl := Option.some.inj h
  simp (maxDischargeDepth := 9) only [↓xpre, xpost, xcore, ↓reduceIte, Nat.reduceEqDiff, n2_0]

noncomputable def i_surroundings_result_1 (x_ : Int) (c0_ : List Int) : Option (Bool) :=
 ck (0 < c0_.length) <|
 some (decide (x_ = (c0_.getD 0 default)))
/-- impl.surroundings).result$1 -/
def k112 : SC :=
 .seq
 (.ops [
 ⟨(some 3), (.assign (.const (.bool false))), 4, none⟩])
 (.seq
 (.ops [
 ⟨(some 4), (.move (.tmp 0)), 3, none⟩,
 ⟨(some 5), (.load 26 (.tmp 1)), 26, none⟩,
 ⟨(some 6), (.indexAddr 26 (.tmp 5) (.const (.int .i64 0))), 0, none⟩,
 ⟨(some 7), (.load 3 (.tmp 6)), 3, none⟩,
 ⟨(some 8), (.binOp .eql 3 (.tmp 4) (.tmp 7) 3), 4, none⟩,
 ⟨(some 3), (.assign (.tmp 8)), 4, none⟩])
 .ret)
theorem slim112 : Tryz.f112.body.map (slim lends) = some k112 := by kernel_rfl
theorem ok112 : fnOk Tryz.f112 2 = true := by kernel_rfl
theorem c112 {a l : List D} {r : D × List D} (h : wpD Y.env k112 (fin tys l.length [ResultVar.tmp 3] r) (entry a l)) (ha : a.length = 2) : Y.call 112 a l = some r :=
 call_slim (Y := Y) rfl Tryz.func112 (ha ▸ ok112) slim112 h
theorem i_surroundings_result_1_call (x_ : Int) (c0_ : List Int) {r : Bool} (h : i_surroundings_result_1 x_ c0_ = some r) : Y.call 112 [D.int .i64 x_, D.cptr [D.sl 3 (lst (D.int .i64) c0_)]] [] = some (D.bool r, []) := by
 refine c112 ?_ rfl
 unfold k112
 unfold i_surroundings_result_1 at h
 obtain ⟨e1, h⟩ := ckS h
 obtain rfl := Option.some.inj h
 simp (maxDischargeDepth := 9) only [↓xpre, xpost, xlst, xcore, yset, ↓reduceIte, Nat.reduceEqDiff, Nat.reduceLT, e1]

noncomputable def i_surroundings_result_2 (x_ : Int) (c0_ : List Int) : Option (Bool) :=
 ck (0 < c0_.length) <|
 some (decide (x_ < (c0_.getD 0 default)))
/-- impl.surroundings).result$2 -/
def k113 : SC :=
 .seq
 (.ops [
 ⟨(some 3), (.assign (.const (.bool false))), 4, none⟩])
 (.seq
 (.ops [
 ⟨(some 4), (.move (.tmp 0)), 3, none⟩,
 ⟨(some 5), (.load 26 (.tmp 1)), 26, none⟩,
 ⟨(some 6), (.indexAddr 26 (.tmp 5) (.const (.int .i64 0))), 0, none⟩,
 ⟨(some 7), (.load 3 (.tmp 6)), 3, none⟩,
 ⟨(some 8), (.binOp .lss 3 (.tmp 4) (.tmp 7) 3), 4, none⟩,
 ⟨(some 3), (.assign (.tmp 8)), 4, none⟩])
 .ret)
theorem slim113 : Tryz.f113.body.map (slim lends) = some k113 := by kernel_rfl
theorem ok113 : fnOk Tryz.f113 2 = true := by kernel_rfl
theorem c113 {a l : List D} {r : D × List D} (h : wpD Y.env k113 (fin tys l.length [ResultVar.tmp 3] r) (entry a l)) (ha : a.length = 2) : Y.call 113 a l = some r :=
 call_slim (Y := Y) rfl Tryz.func113 (ha ▸ ok113) slim113 h
theorem i_surroundings_result_2_call (x_ : Int) (c0_ : List Int) {r : Bool} (h : i_surroundings_result_2 x_ c0_ = some r) : Y.call 113 [D.int .i64 x_, D.cptr [D.sl 3 (lst (D.int .i64) c0_)]] [] = some (D.bool r, []) := by
 refine c113 ?_ rfl
 unfold k113
 unfold i_surroundings_result_2 at h
 obtain ⟨e1, h⟩ := ckS h
 obtain rfl := Option.some.inj h
 simp (maxDischargeDepth := 9) only [↓xpre, xpost, xlst, xcore, yset, ↓reduceIte, Nat.reduceEqDiff, Nat.reduceLT, e1]

noncomputable def i_oneIf (b : Bool) : Option (Int) :=
 if b = true then
  some 1
 else
  some 0
/-- impl.oneIf -/
def k114 : SC :=
 .seq
 (.ops [
 ⟨(some 2), (.assign (.const (.int .i64 0))), 3, none⟩])
 (.seq
 (.seq
 (.ops [
 ⟨(some 3), (.move (.tmp 0)), 4, none⟩])
 (.cond (.tmp 3)
 (.seq
 (.ops [
 ⟨(some 2), (.assign (.const (.int .i64 1))), 3, none⟩])
 .ret)
 .skip))
 (.seq
 (.ops [
 ⟨(some 2), (.assign (.const (.int .i64 0))), 3, none⟩])
 .ret))
theorem slim114 : Tryz.f114.body.map (slim lends) = some k114 := by kernel_rfl
theorem ok114 : fnOk Tryz.f114 1 = true := by kernel_rfl
theorem c114 {a l : List D} {r : D × List D} (h : wpD Y.env k114 (fin tys l.length [ResultVar.tmp 2] r) (entry a l)) (ha : a.length = 1) : Y.call 114 a l = some r :=
 call_slim (Y := Y) rfl Tryz.func114 (ha ▸ ok114) slim114 h
theorem i_oneIf_call (b : Bool) {r : Int} (h : i_oneIf b = some r) : Y.call 114 [D.bool b] [] = some (D.int .i64 r, []) := by
 refine c114 ?_ rfl
 unfold k114
 unfold i_oneIf at h
 by_cases e1 : b = true
 ·rw [if_pos e1] at h
  obtain rfl := Option.some.inj h
  simp (maxDischargeDepth := 9) only [↓xpre, xpost, xcore, yset, ↓reduceIte, Nat.reduceEqDiff, Nat.reduceLT, e1]
 ·rw [if_neg e1] at h
  have e1f : b = false := Bool.eq_false_iff.mpr e1
  obtain rfl := Option.some.inj h
  simp (maxDischargeDepth := 9) only [↓xpre, xpost, xcore, yset, ↓reduceIte, Nat.reduceEqDiff, Nat.reduceLT, e1f]

noncomputable def i_surroundings_extreme (s_own : Int) (s_id : Int) (s_input : Int) (s_round : Int) (s_near : List Int) (f : (List Int) → Option Int) : Option (Int) :=
 if (s_near.length : Int) = 0 then
  some s_own
 else
  (f s_near).bind fun r2_ =>
  some r2_
/-- impl.surroundings).extreme -/
def k131 : SC :=
 .seq
 (.ops [
 ⟨(some 2), (.box 99 (.tmp 0)), 0, none⟩,
 ⟨(some 4), (.assign (.const (.int .i64 0))), 3, none⟩])
 (.seq
 (.seq
 (.ops [
 ⟨(some 5), (.fieldAddr 99 (.tmp 2) 4), 0, none⟩,
 ⟨(some 6), (.load 26 (.tmp 5)), 26, none⟩,
 ⟨(some 7), (.call ⟨(.builtin .len), #[(.tmp 6)], #[26]⟩), 3, none⟩,
 ⟨(some 8), (.binOp .eql 3 (.tmp 7) (.const (.int .i64 0)) 3), 4, none⟩])
 (.cond (.tmp 8)
 (.seq
 (.ops [
 ⟨(some 9), (.fieldAddr 99 (.tmp 2) 0), 0, none⟩,
 ⟨(some 10), (.load 3 (.tmp 9)), 3, none⟩,
 ⟨(some 4), (.assign (.tmp 10)), 3, none⟩])
 .ret)
 .skip))
 (.seq
 (.ops [
 ⟨(some 11), (.move (.tmp 1)), 143, none⟩,
 ⟨(some 12), (.fieldAddr 99 (.tmp 2) 4), 0, none⟩,
 ⟨(some 13), (.load 26 (.tmp 12)), 26, none⟩,
 ⟨(some 14), (.call ⟨(.value (.tmp 11)), #[(.tmp 13)], #[26]⟩), 3, none⟩,
 ⟨(some 4), (.assign (.tmp 14)), 3, none⟩])
 .ret))
theorem slim131 : Tryz.f131.body.map (slim lends) = some k131 := by kernel_rfl
theorem ok131 : fnOk Tryz.f131 2 = true := by kernel_rfl
theorem c131 {a l : List D} {r : D × List D} (h : wpD Y.env k131 (fin tys l.length [ResultVar.tmp 4] r) (entry a l)) (ha : a.length = 2) : Y.call 131 a l = some r :=
 call_slim (Y := Y) rfl Tryz.func131 (ha ▸ ok131) slim131 h
theorem i_surroundings_extreme_call (s_own : Int) (s_id : Int) (s_input : Int) (s_round : Int) (s_near : List Int) (f : (List Int) → Option Int) (f_f : FuncId) (f_c : List D) (f_h : ∀ (a0 : List Int) (r : Int), f a0 = some r → Y.call f_f (D.sl 3 (lst (D.int .i64) a0) :: f_c) [] = some (D.int .i64 r, [])) (f_l : lends f_f = false) {r : Int} (h : i_surroundings_extreme s_own s_id s_input s_round s_near f = some r) : Y.call 131 [D.agg [D.int .i64 s_own, D.int .i64 s_id, D.int .i64 s_input, D.int .i64 s_round, D.sl 3 (lst (D.int .i64) s_near)], D.clo f_f f_c] [] = some (D.int .i64 r, []) := by
 refine c131 ?_ rfl
 unfold k131
 unfold i_surroundings_extreme at h
 by_cases e1 : (s_near.length : Int) = 0
 ·rw [if_pos e1] at h
  obtain rfl := Option.some.inj h
  simp (maxDischargeDepth := 9) only [↓xpre, xpost, xlst, xcore, yset, ↓reduceIte, Nat.reduceEqDiff, Nat.reduceLT, Nat.reduceAdd, decide_eq_true e1]
 ·rw [if_neg e1] at h
  obtain ⟨r2_, hl2, h⟩ := bindS h
  try dsimp only at h
  have c2 := f_h _ _ hl2
  obtain rfl := Option.some.inj h
  simp (maxDischargeDepth := 9) only [↓xpre, xpost, xlst, xcore, yset, ↓reduceIte, Nat.reduceEqDiff, Nat.reduceLT, Nat.reduceAdd, f_l, e1, c2]

noncomputable def i_surroundings_free_l0_S (s_own : Int) (s_id : Int) (s_input : Int) (s_round : Int) (s_near : List Int) (n_ : Int) : Option ((Int) ⊕ (Int)) :=
 ck (s_near.length < 1099511627776) <|
 if (s_near.contains n_) = true then
  some (Sum.inl (IntKind.i64.wrap (n_ + 1)))
 else
  some (Sum.inr n_)
noncomputable def i_surroundings_free_l0 (s_own : Int) (s_id : Int) (s_input : Int) (s_round : Int) (s_near : List Int) (v : Int) : Option (Int) := itO (fun v => i_surroundings_free_l0_S s_own s_id s_input s_round s_near v) v
noncomputable def i_surroundings_free (s_own : Int) (s_id : Int) (s_input : Int) (s_round : Int) (s_near : List Int) : Option (Int) :=
 (i_surroundings_free_l0 s_own s_id s_input s_round s_near 0).bind fun r4_ =>
 some r4_
/-- impl.surroundings).free -/
def k134_l0b : SC :=
 .seq
 (.seq
 (.ops [
 ⟨(some 4), (.fieldAddr 99 (.tmp 1) 4), 0, none⟩,
 ⟨(some 5), (.load 26 (.tmp 4)), 26, none⟩,
 ⟨(some 6), (.move (.tmp 3)), 3, none⟩,
 ⟨(some 7), (.call ⟨(.value (.func 145)), #[(.tmp 5), (.tmp 6)], #[26, 3]⟩), 4, none⟩])
 (.cond (.tmp 7)
 .skip
 (.exit 0)))
 (.block 1
 (.ops [
 ⟨(some 8), (.move (.tmp 3)), 3, none⟩,
 ⟨(some 9), (.binOp .add 3 (.tmp 8) (.const (.int .i64 1)) 3), 3, none⟩,
 ⟨(some 3), (.assign (.tmp 9)), 3, none⟩]))
def k134_l0 : SC := .loop k134_l0b
def k134 : SC :=
 .seq
 (.ops [
 ⟨(some 1), (.box 99 (.tmp 0)), 0, none⟩,
 ⟨(some 2), (.assign (.const (.int .i64 0))), 3, none⟩])
 (.seq
 (.ops [
 ⟨(some 3), (.assign (.const (.int .i64 0))), 3, none⟩])
 (.seq
 (.block 0
 k134_l0)
 (.seq
 (.ops [
 ⟨(some 10), (.move (.tmp 3)), 3, none⟩,
 ⟨(some 2), (.assign (.tmp 10)), 3, none⟩])
 .ret)))
theorem slim134 : Tryz.f134.body.map (slim lends) = some k134 := by kernel_rfl
theorem ok134 : fnOk Tryz.f134 1 = true := by kernel_rfl
theorem c134 {a l : List D} {r : D × List D} (h : wpD Y.env k134 (fin tys l.length [ResultVar.tmp 2] r) (entry a l)) (ha : a.length = 1) : Y.call 134 a l = some r :=
 call_slim (Y := Y) rfl Tryz.func134 (ha ▸ ok134) slim134 h
def i_surroundings_free_l0_M (s_own : Int) (s_id : Int) (s_input : Int) (s_round : Int) (s_near : List Int) (n_ : Int) (s : St) : Prop := s.v 1 = D.box [D.int .i64 s_own, D.int .i64 s_id, D.int .i64 s_input, D.int .i64 s_round, D.sl 3 (lst (D.int .i64) s_near)] ∧ s.v 3 = D.int .i64 n_
def i_surroundings_free_l0_X (s_own : Int) (s_id : Int) (s_input : Int) (s_round : Int) (s_near : List Int) (r : Int) (ex : Ex) (s : St) : Prop := ex = .exit 0 ∧ s.v 3 = D.int .i64 r
theorem i_surroundings_free_l0_wp (s_own : Int) (s_id : Int) (s_input : Int) (s_round : Int) (s_near : List Int) {v : Int} {s : St} {r : Int} (h : i_surroundings_free_l0 s_own s_id s_input s_round s_near v = some r) (hM : i_surroundings_free_l0_M s_own s_id s_input s_round s_near v s) : wpD Y.env k134_l0 (i_surroundings_free_l0_X s_own s_id s_input s_round s_near r) s := by
 unfold i_surroundings_free_l0 at h
 refine wd_itO (c := k134_l0b) (fun v => i_surroundings_free_l0_S s_own s_id s_input s_round s_near v) (fun v s => i_surroundings_free_l0_M s_own s_id s_input s_round s_near v s) (i_surroundings_free_l0_X s_own s_id s_input s_round s_near) ?_ h hM
 clear h hM s v r
 intro n_ s o hM h
 unfold i_surroundings_free_l0_S at h
 unfold i_surroundings_free_l0_M at hM
 obtain ⟨m0, m1⟩ := hM
 unfold k134_l0b
 obtain ⟨e1, h⟩ := ckS h
 have c2 := g_slices_Contains_Sint_int_cl s_near n_ e1
 by_cases e3 : (s_near.contains n_) = true
 ·rw [if_pos e3] at h
  obtain rfl := Option.some.inj h
  simp (maxDischargeDepth := 9) only [↓xpre, xpost, xcore, yset, ↓reduceIte, Nat.reduceEqDiff, Nat.reduceLT, Nat.reduceAdd, m0, m1, c2, e3, i_surroundings_free_l0_M, sxN]
 ·rw [if_neg e3] at h
  have e3f : (s_near.contains n_) = false := Bool.eq_false_iff.mpr e3
  obtain rfl := Option.some.inj h
  simp (maxDischargeDepth := 9) only [↓xpre, xpost, xcore, yset, ↓reduceIte, Nat.reduceEqDiff, Nat.reduceLT, Nat.reduceAdd, m0, m1, c2, e3f, i_surroundings_free_l0_M, i_surroundings_free_l0_X, sxE]
theorem i_surroundings_free_call (s_own : Int) (s_id : Int) (s_input : Int) (s_round : Int) (s_near : List Int) {r : Int} (h : i_surroundings_free s_own s_id s_input s_round s_near = some r) : Y.call 134 [D.agg [D.int .i64 s_own, D.int .i64 s_id, D.int .i64 s_input, D.int .i64 s_round, D.sl 3 (lst (D.int .i64) s_near)]] [] = some (D.int .i64 r, []) := by
 refine c134 ?_ rfl
 unfold k134
 unfold i_surroundings_free at h
 obtain ⟨r4_, hl4, h⟩ := bindS h
 try dsimp only at h
 simp (maxDischargeDepth := 9) only [↓xpre, xpost, xcore, yset, ↓reduceIte, Nat.reduceEqDiff, Nat.reduceLT]
 refine wd_mono (i_surroundings_free_l0_wp s_own s_id s_input s_round s_near hl4 ?_) ?_
 ·simp (maxDischargeDepth := 9) only [xpost, ↓reduceIte, Nat.reduceEqDiff, i_surroundings_free_l0_M]
 ·intro ex4 s4 hX4
  unfold i_surroundings_free_l0_X at hX4
  obtain ⟨rfl, n4_0⟩ := hX4
  obtain rfl := Option.some.inj h
  simp (maxDischargeDepth := 9) only [↓xpre, xpost, xcore, ↓reduceIte, Nat.reduceEqDiff, n4_0]

noncomputable def i_surroundings_leaf_l0_S (s_near : List Int) (sum : Int) (t44_ : Int) : Option ((Int × Int) ⊕ (Int)) :=
 if t44_ < (s_near.length : Int) then
  ck (0 ≤ t44_ ∧ t44_.toNat < s_near.length) <|
  some (Sum.inl (IntKind.i64.wrap (sum + (s_near.getD t44_.toNat default)), IntKind.i64.wrap (t44_ + 1)))
 else
  some (Sum.inr sum)
noncomputable def i_surroundings_leaf_l0 (s_near : List Int) (v : Int × Int) : Option (Int) := itO (fun v => i_surroundings_leaf_l0_S s_near v.1 v.2) v
noncomputable def i_surroundings_leaf (s_own : Int) (s_id : Int) (s_input : Int) (s_round : Int) (s_near : List Int) (o_Kind : Int) (o_Value : Int) : Option (Int) :=
 if o_Kind = 2 then
  some s_own
 else
  if o_Kind = 3 then
   some s_id
  else
   if o_Kind = 4 then
    some (s_near.length : Int)
   else
    if o_Kind = 5 then
     some s_input
    else
     if o_Kind = 6 then
      some s_round
     else
      if o_Kind = 7 then
       (i_surroundings_extreme s_own s_id s_input s_round s_near (fun a0 => g_slices_Min_Sint_int a0)).bind fun r7_ =>
       some r7_
      else
       if o_Kind = 8 then
        (i_surroundings_extreme s_own s_id s_input s_round s_near (fun a0 => g_slices_Max_Sint_int a0)).bind fun r8_ =>
        some r8_
       else
        if o_Kind = 9 then
         (i_surroundings_leaf_l0 s_near (0, 0)).bind fun r10_ =>
         some r10_
        else
         if o_Kind = 10 then
          (i_surroundings_free s_own s_id s_input s_round s_near).bind fun r10_ =>
          some r10_
         else
          some o_Value
/-- impl.surroundings).leaf -/
def k115_l0b : SC :=
 .seq
 (.ops [
 ⟨(some 45), (.binOp .lss 3 (.tmp 44) (.tmp 43) 3), 0, none⟩])
 (.seq
 (.cond (.tmp 45)
 .skip
 (.exit 1))
 (.seq
 (.block 2
 (.seq
 (.ops [
 ⟨(some 46), (.indexAddr 26 (.tmp 42) (.tmp 44)), 0, none⟩,
 ⟨(some 47), (.load 3 (.tmp 46)), 3, none⟩,
 ⟨(some 7), (.assign (.tmp 47)), 3, none⟩])
 (.ops [
 ⟨(some 48), (.move (.tmp 5)), 3, none⟩,
 ⟨(some 49), (.move (.tmp 7)), 3, none⟩,
 ⟨(some 50), (.binOp .add 3 (.tmp 48) (.tmp 49) 3), 3, none⟩,
 ⟨(some 5), (.assign (.tmp 50)), 3, none⟩])))
 (.ops [
 ⟨(some 51), (.binOp .add 3 (.tmp 44) (.const (.int .i64 1)) 3), 3, none⟩,
 ⟨(some 44), (.move (.tmp 51)), 3, none⟩])))
def k115_l0 : SC := .loop k115_l0b
def k115 : SC :=
 .seq
 (.ops [
 ⟨(some 2), (.box 99 (.tmp 0)), 0, none⟩,
 ⟨(some 3), (.box 73 (.tmp 1)), 0, none⟩,
 ⟨(some 4), (.assign (.const (.int .i64 0))), 3, none⟩])
 (.seq
 (.seq
 (.ops [
 ⟨(some 8), (.fieldAddr 73 (.tmp 3) 0), 0, none⟩,
 ⟨(some 9), (.load 3 (.tmp 8)), 3, none⟩])
 (.block 0
 (.seq
 (.ops [
 ⟨(some 11), (.binOp .eql 3 (.tmp 9) (.const (.int .i64 2)) 3), 4, none⟩,
 ⟨(some 10), (.assign (.tmp 11)), 4, none⟩])
 (.cond (.tmp 10)
 (.seq
 (.ops [
 ⟨(some 12), (.fieldAddr 99 (.tmp 2) 0), 0, none⟩,
 ⟨(some 13), (.load 3 (.tmp 12)), 3, none⟩,
 ⟨(some 4), (.assign (.tmp 13)), 3, none⟩])
 .ret)
 (.seq
 (.ops [
 ⟨(some 15), (.binOp .eql 3 (.tmp 9) (.const (.int .i64 3)) 3), 4, none⟩,
 ⟨(some 14), (.assign (.tmp 15)), 4, none⟩])
 (.cond (.tmp 14)
 (.seq
 (.ops [
 ⟨(some 16), (.fieldAddr 99 (.tmp 2) 1), 0, none⟩,
 ⟨(some 17), (.load 3 (.tmp 16)), 3, none⟩,
 ⟨(some 4), (.assign (.tmp 17)), 3, none⟩])
 .ret)
 (.seq
 (.ops [
 ⟨(some 19), (.binOp .eql 3 (.tmp 9) (.const (.int .i64 4)) 3), 4, none⟩,
 ⟨(some 18), (.assign (.tmp 19)), 4, none⟩])
 (.cond (.tmp 18)
 (.seq
 (.ops [
 ⟨(some 20), (.fieldAddr 99 (.tmp 2) 4), 0, none⟩,
 ⟨(some 21), (.load 26 (.tmp 20)), 26, none⟩,
 ⟨(some 22), (.call ⟨(.builtin .len), #[(.tmp 21)], #[26]⟩), 3, none⟩,
 ⟨(some 4), (.assign (.tmp 22)), 3, none⟩])
 .ret)
 (.seq
 (.ops [
 ⟨(some 24), (.binOp .eql 3 (.tmp 9) (.const (.int .i64 5)) 3), 4, none⟩,
 ⟨(some 23), (.assign (.tmp 24)), 4, none⟩])
 (.cond (.tmp 23)
 (.seq
 (.ops [
 ⟨(some 25), (.fieldAddr 99 (.tmp 2) 2), 0, none⟩,
 ⟨(some 26), (.load 3 (.tmp 25)), 3, none⟩,
 ⟨(some 4), (.assign (.tmp 26)), 3, none⟩])
 .ret)
 (.seq
 (.ops [
 ⟨(some 28), (.binOp .eql 3 (.tmp 9) (.const (.int .i64 6)) 3), 4, none⟩,
 ⟨(some 27), (.assign (.tmp 28)), 4, none⟩])
 (.cond (.tmp 27)
 (.seq
 (.ops [
 ⟨(some 29), (.fieldAddr 99 (.tmp 2) 3), 0, none⟩,
 ⟨(some 30), (.load 3 (.tmp 29)), 3, none⟩,
 ⟨(some 4), (.assign (.tmp 30)), 3, none⟩])
 .ret)
 (.seq
 (.ops [
 ⟨(some 32), (.binOp .eql 3 (.tmp 9) (.const (.int .i64 7)) 3), 4, none⟩,
 ⟨(some 31), (.assign (.tmp 32)), 4, none⟩])
 (.cond (.tmp 31)
 (.seq
 (.ops [
 ⟨(some 33), (.load 99 (.tmp 2)), 99, none⟩,
 ⟨(some 34), (.call ⟨(.value (.func 131)), #[(.tmp 33), (.func 132)], #[99, 143]⟩), 3, none⟩,
 ⟨(some 4), (.assign (.tmp 34)), 3, none⟩])
 .ret)
 (.seq
 (.ops [
 ⟨(some 36), (.binOp .eql 3 (.tmp 9) (.const (.int .i64 8)) 3), 4, none⟩,
 ⟨(some 35), (.assign (.tmp 36)), 4, none⟩])
 (.cond (.tmp 35)
 (.seq
 (.ops [
 ⟨(some 37), (.load 99 (.tmp 2)), 99, none⟩,
 ⟨(some 38), (.call ⟨(.value (.func 131)), #[(.tmp 37), (.func 133)], #[99, 143]⟩), 3, none⟩,
 ⟨(some 4), (.assign (.tmp 38)), 3, none⟩])
 .ret)
 (.seq
 (.ops [
 ⟨(some 40), (.binOp .eql 3 (.tmp 9) (.const (.int .i64 9)) 3), 4, none⟩,
 ⟨(some 39), (.assign (.tmp 40)), 4, none⟩])
 (.cond (.tmp 39)
 (.seq
 (.ops [
 ⟨(some 5), (.assign (.const (.int .i64 0))), 3, none⟩])
 (.seq
 (.seq
 (.ops [
 ⟨(some 41), (.fieldAddr 99 (.tmp 2) 4), 0, none⟩,
 ⟨(some 42), (.load 26 (.tmp 41)), 26, none⟩,
 ⟨(some 43), (.call ⟨(.builtin .len), #[(.tmp 42)], #[26]⟩), 3, none⟩,
 ⟨(some 44), (.move (.const (.int .i64 0))), 3, none⟩])
 (.block 1
 k115_l0))
 (.seq
 (.ops [
 ⟨(some 52), (.move (.tmp 5)), 3, none⟩,
 ⟨(some 4), (.assign (.tmp 52)), 3, none⟩])
 .ret)))
 (.seq
 (.ops [
 ⟨(some 54), (.binOp .eql 3 (.tmp 9) (.const (.int .i64 10)) 3), 4, none⟩,
 ⟨(some 53), (.assign (.tmp 54)), 4, none⟩])
 (.cond (.tmp 53)
 (.seq
 (.ops [
 ⟨(some 55), (.load 99 (.tmp 2)), 99, none⟩,
 ⟨(some 56), (.call ⟨(.value (.func 134)), #[(.tmp 55)], #[99]⟩), 3, none⟩,
 ⟨(some 4), (.assign (.tmp 56)), 3, none⟩])
 .ret)
 .skip))))))))))))))))))))
 (.seq
 (.ops [
 ⟨(some 57), (.fieldAddr 73 (.tmp 3) 1), 0, none⟩,
 ⟨(some 58), (.load 3 (.tmp 57)), 3, none⟩,
 ⟨(some 4), (.assign (.tmp 58)), 3, none⟩])
 .ret))
theorem slim115 : Tryz.f115.body.map (slim lends) = some k115 := by kernel_rfl
theorem ok115 : fnOk Tryz.f115 2 = true := by kernel_rfl
theorem c115 {a l : List D} {r : D × List D} (h : wpD Y.env k115 (fin tys l.length [ResultVar.tmp 4] r) (entry a l)) (ha : a.length = 2) : Y.call 115 a l = some r :=
 call_slim (Y := Y) rfl Tryz.func115 (ha ▸ ok115) slim115 h
def i_surroundings_leaf_l0_M (s_near : List Int) (sum : Int) (t44_ : Int) (s : St) : Prop := s.v 5 = D.int .i64 sum ∧ s.v 42 = D.sl 3 (lst (D.int .i64) s_near) ∧ s.v 43 = D.int .i64 (s_near.length : Int) ∧ s.v 44 = D.int .i64 t44_
def i_surroundings_leaf_l0_X (s_near : List Int) (r : Int) (ex : Ex) (s : St) : Prop := ex = .exit 1 ∧ s.v 5 = D.int .i64 r
theorem i_surroundings_leaf_l0_wp (s_near : List Int) {v : Int × Int} {s : St} {r : Int} (h : i_surroundings_leaf_l0 s_near v = some r) (hM : i_surroundings_leaf_l0_M s_near v.1 v.2 s) : wpD Y.env k115_l0 (i_surroundings_leaf_l0_X s_near r) s := by
 unfold i_surroundings_leaf_l0 at h
 refine wd_itO (c := k115_l0b) (fun v => i_surroundings_leaf_l0_S s_near v.1 v.2) (fun v s => i_surroundings_leaf_l0_M s_near v.1 v.2 s) (i_surroundings_leaf_l0_X s_near) ?_ h hM
 clear h hM s v r
 intro v s o hM h
 obtain ⟨sum, t44_⟩ := v
 dsimp only at h hM
 unfold i_surroundings_leaf_l0_S at h
 unfold i_surroundings_leaf_l0_M at hM
 obtain ⟨m0, m1, m2, m3⟩ := hM
 unfold k115_l0b
 by_cases e9 : t44_ < (s_near.length : Int)
 ·rw [if_pos e9] at h
  obtain ⟨e10, h⟩ := ckS h
  obtain rfl := Option.some.inj h
  simp (maxDischargeDepth := 9) only [↓xpre, xpost, xlst, xcore, yset, ↓reduceIte, Nat.reduceEqDiff, m0, m1, m2, m3, e9, e10.1, e10.2, i_surroundings_leaf_l0_M, sxN]
 ·rw [if_neg e9] at h
  obtain rfl := Option.some.inj h
  simp (maxDischargeDepth := 9) only [↓xpre, xpost, yset, ↓reduceIte, Nat.reduceEqDiff, m0, m2, m3, e9, i_surroundings_leaf_l0_M, i_surroundings_leaf_l0_X, sxE]
theorem i_surroundings_leaf_call (s_own : Int) (s_id : Int) (s_input : Int) (s_round : Int) (s_near : List Int) (o_Kind : Int) (o_Value : Int) {r : Int} (h : i_surroundings_leaf s_own s_id s_input s_round s_near o_Kind o_Value = some r) : Y.call 115 [D.agg [D.int .i64 s_own, D.int .i64 s_id, D.int .i64 s_input, D.int .i64 s_round, D.sl 3 (lst (D.int .i64) s_near)], D.agg [D.int .i64 o_Kind, D.int .i64 o_Value]] [] = some (D.int .i64 r, []) := by
 refine c115 ?_ rfl
 unfold k115
 unfold i_surroundings_leaf at h
 by_cases e1 : o_Kind = 2
 ·rw [if_pos e1] at h
  obtain rfl := Option.some.inj h
  simp (maxDischargeDepth := 9) only [↓xpre, xpost, xcore, yset, ↓reduceIte, Nat.reduceEqDiff, Nat.reduceLT, Nat.reduceAdd, decide_eq_true e1]
 ·rw [if_neg e1] at h
  by_cases e2 : o_Kind = 3
  ·rw [if_pos e2] at h
   obtain rfl := Option.some.inj h
   simp (maxDischargeDepth := 9) only [↓xpre, xpost, xcore, yset, ↓reduceIte, Nat.reduceEqDiff, Nat.reduceLT, Nat.reduceAdd, e1, decide_eq_true e2]
  ·rw [if_neg e2] at h
   by_cases e3 : o_Kind = 4
   ·rw [if_pos e3] at h
    obtain rfl := Option.some.inj h
    simp (maxDischargeDepth := 9) only [↓xpre, xpost, xlst, xcore, yset, ↓reduceIte, Nat.reduceEqDiff, Nat.reduceLT, Nat.reduceAdd, e1, e2, decide_eq_true e3]
   ·rw [if_neg e3] at h
    by_cases e4 : o_Kind = 5
    ·rw [if_pos e4] at h
     obtain rfl := Option.some.inj h
     simp (maxDischargeDepth := 9) only [↓xpre, xpost, xcore, yset, ↓reduceIte, Nat.reduceEqDiff, Nat.reduceLT, Nat.reduceAdd, e1, e2, e3, decide_eq_true e4]
    ·rw [if_neg e4] at h
     by_cases e5 : o_Kind = 6
     ·rw [if_pos e5] at h
      obtain rfl := Option.some.inj h
      simp (maxDischargeDepth := 9) only [↓xpre, xpost, xcore, yset, ↓reduceIte, Nat.reduceEqDiff, Nat.reduceLT, Nat.reduceAdd, e1, e2, e3, e4, decide_eq_true e5]
     ·rw [if_neg e5] at h
      by_cases e6 : o_Kind = 7
      ·rw [if_pos e6] at h
       obtain ⟨r7_, hl7, h⟩ := bindS h
       try dsimp only at h
       have c7 := i_surroundings_extreme_call s_own s_id s_input s_round s_near (fun a0 => g_slices_Min_Sint_int a0) 132 [] (fun a0 _ hh => g_slices_Min_Sint_int_call a0 hh) le132 hl7
       obtain rfl := Option.some.inj h
       simp (maxDischargeDepth := 9) only [↓xpre, xpost, xcore, yset, ↓reduceIte, Nat.reduceEqDiff, Nat.reduceLT, Nat.reduceAdd, e1, e2, e3, e4, e5, decide_eq_true e6, c7]
      ·rw [if_neg e6] at h
       by_cases e7 : o_Kind = 8
       ·rw [if_pos e7] at h
        obtain ⟨r8_, hl8, h⟩ := bindS h
        try dsimp only at h
        have c8 := i_surroundings_extreme_call s_own s_id s_input s_round s_near (fun a0 => g_slices_Max_Sint_int a0) 133 [] (fun a0 _ hh => g_slices_Max_Sint_int_call a0 hh) le133 hl8
        obtain rfl := Option.some.inj h
        simp (maxDischargeDepth := 9) only [↓xpre, xpost, xcore, yset, ↓reduceIte, Nat.reduceEqDiff, Nat.reduceLT, Nat.reduceAdd, e1, e2, e3, e4, e5, e6, decide_eq_true e7, c8]
       ·rw [if_neg e7] at h
        by_cases e8 : o_Kind = 9
        ·rw [if_pos e8] at h
         obtain ⟨r10_, hl10, h⟩ := bindS h
         try dsimp only at h
         simp (maxDischargeDepth := 9) only [↓xpre, xpost, xlst, xcore, yset, ↓reduceIte, Nat.reduceEqDiff, Nat.reduceLT, Nat.reduceAdd, e1, e2, e3, e4, e5, e6, e7, decide_eq_true e8]
         refine wd_mono (i_surroundings_leaf_l0_wp s_near hl10 ?_) ?_
         ·simp (maxDischargeDepth := 9) only [xpost, ↓reduceIte, Nat.reduceEqDiff, i_surroundings_leaf_l0_M]
         ·intro ex10 s10 hX10
          unfold i_surroundings_leaf_l0_X at hX10
          obtain ⟨rfl, n10_0⟩ := hX10
          obtain rfl := Option.some.inj h
          simp (maxDischargeDepth := 9) only [↓xpre, xpost, xcore, ↓reduceIte, Nat.reduceEqDiff, n10_0]
        ·rw [if_neg e8] at h
         by_cases e9 : o_Kind = 10
         ·rw [if_pos e9] at h
          obtain ⟨r10_, hl10, h⟩ := bindS h
          try dsimp only at h
          have c10 := i_surroundings_free_call s_own s_id s_input s_round s_near hl10
          obtain rfl := Option.some.inj h
          simp (maxDischargeDepth := 9) only [↓xpre, xpost, xcore, yset, ↓reduceIte, Nat.reduceEqDiff, Nat.reduceLT, Nat.reduceAdd, e1, e2, e3, e4, e5, e6, e7, e8, decide_eq_true e9, c10]
         ·rw [if_neg e9] at h
          obtain rfl := Option.some.inj h
          simp (maxDischargeDepth := 9) only [↓xpre, xpost, xcore, yset, ↓reduceIte, Nat.reduceEqDiff, Nat.reduceLT, Nat.reduceAdd, e1, e2, e3, e4, e5, e6, e7, e8, e9]

noncomputable def i_surroundings_result (t0_own : Int) (t0_id : Int) (t0_input : Int) (t0_round : Int) (t0_near : List Int) (t1_Kind : Int) (t1_Value : Int) (t2_ : List Int) : Option (Int) :=
 if t1_Kind = 11 then
  (i_surroundings_countIf t0_own t0_id t0_input t0_round t0_near (fun a0 => i_surroundings_result_1 a0 t2_)).bind fun r2_ =>
  some r2_
 else
  if t1_Kind = 12 then
   (i_surroundings_countIf t0_own t0_id t0_input t0_round t0_near (fun a0 => i_surroundings_result_2 a0 t2_)).bind fun r3_ =>
   some r3_
  else
   if t1_Kind = 13 then
    ck (0 < t2_.length) <|
    ck (1 < t2_.length) <|
    some (IntKind.i64.wrap ((t2_.getD 0 default) + (t2_.getD 1 default)))
   else
    if t1_Kind = 14 then
     ck (0 < t2_.length) <|
     ck (1 < t2_.length) <|
     some (IntKind.i64.wrap ((t2_.getD 0 default) - (t2_.getD 1 default)))
    else
     if t1_Kind = 15 then
      ck (0 < t2_.length) <|
      ck (1 < t2_.length) <|
      some (leastI (t2_.getD 0 default) (t2_.getD 1 default))
     else
      if t1_Kind = 16 then
       ck (0 < t2_.length) <|
       ck (1 < t2_.length) <|
       some (mostI (t2_.getD 0 default) (t2_.getD 1 default))
      else
       if t1_Kind = 17 then
        ck (0 < t2_.length) <|
        ck (1 < t2_.length) <|
        (i_oneIf (decide ((t2_.getD 0 default) < (t2_.getD 1 default)))).bind fun r10_ =>
        some r10_
       else
        if t1_Kind = 18 then
         ck (0 < t2_.length) <|
         ck (1 < t2_.length) <|
         (i_oneIf (decide ((t2_.getD 0 default) = (t2_.getD 1 default)))).bind fun r11_ =>
         some r11_
        else
         if t1_Kind = 19 then
          ck (0 < t2_.length) <|
          if 0 < (t2_.getD 0 default) then
           ck (1 < t2_.length) <|
           some (t2_.getD 1 default)
          else
           ck (2 < t2_.length) <|
           some (t2_.getD 2 default)
         else
          (i_surroundings_leaf t0_own t0_id t0_input t0_round t0_near t1_Kind t1_Value).bind fun r10_ =>
          some r10_
/-- impl.surroundings).result -/
def k97 : SC :=
 .seq
 (.ops [
 ⟨(some 3), (.box 99 (.tmp 0)), 0, none⟩,
 ⟨(some 4), (.box 73 (.tmp 1)), 0, none⟩,
 ⟨(some 5), (.box 26 (.tmp 2)), 0, none⟩,
 ⟨(some 6), (.assign (.const (.int .i64 0))), 3, none⟩])
 (.seq
 (.seq
 (.ops [
 ⟨(some 7), (.fieldAddr 73 (.tmp 4) 0), 0, none⟩,
 ⟨(some 8), (.load 3 (.tmp 7)), 3, none⟩])
 (.block 0
 (.seq
 (.ops [
 ⟨(some 10), (.binOp .eql 3 (.tmp 8) (.const (.int .i64 11)) 3), 4, none⟩,
 ⟨(some 9), (.assign (.tmp 10)), 4, none⟩])
 (.cond (.tmp 9)
 (.seq
 (.ops [
 ⟨(some 11), (.load 99 (.tmp 3)), 99, none⟩,
 ⟨(some 12), (.makeFunc (Fn.func 112) #[] #[(.tmp 5)]), 77, none⟩,
 ⟨(some 13), (.call ⟨(.value (.func 111)), #[(.tmp 11), (.tmp 12)], #[99, 77]⟩), 3, none⟩,
 ⟨(some 6), (.assign (.tmp 13)), 3, none⟩])
 .ret)
 (.seq
 (.ops [
 ⟨(some 15), (.binOp .eql 3 (.tmp 8) (.const (.int .i64 12)) 3), 4, none⟩,
 ⟨(some 14), (.assign (.tmp 15)), 4, none⟩])
 (.cond (.tmp 14)
 (.seq
 (.ops [
 ⟨(some 16), (.load 99 (.tmp 3)), 99, none⟩,
 ⟨(some 17), (.makeFunc (Fn.func 113) #[] #[(.tmp 5)]), 77, none⟩,
 ⟨(some 18), (.call ⟨(.value (.func 111)), #[(.tmp 16), (.tmp 17)], #[99, 77]⟩), 3, none⟩,
 ⟨(some 6), (.assign (.tmp 18)), 3, none⟩])
 .ret)
 (.seq
 (.ops [
 ⟨(some 20), (.binOp .eql 3 (.tmp 8) (.const (.int .i64 13)) 3), 4, none⟩,
 ⟨(some 19), (.assign (.tmp 20)), 4, none⟩])
 (.cond (.tmp 19)
 (.seq
 (.draws [
 (⟨[21, 5, 5], [21, 22, 23, 24, 25, 26, 27, 6, 27], [21]⟩, ⟨(some 21), (.load 26 (.tmp 5)), 26, none⟩),
 (⟨[22, 21, 5], [21, 22, 23, 24, 25, 26, 27, 6, 27], [22]⟩, ⟨(some 22), (.indexAddr 26 (.tmp 21) (.const (.int .i64 0))), 0, none⟩),
 (⟨[23, 22, 5], [21, 22, 23, 24, 25, 26, 27, 6, 27], [23]⟩, ⟨(some 23), (.load 3 (.tmp 22)), 3, none⟩),
 (⟨[24, 5, 5], [21, 22, 23, 24, 25, 26, 27, 6, 27], [24]⟩, ⟨(some 24), (.load 26 (.tmp 5)), 26, none⟩),
 (⟨[25, 24, 5], [21, 22, 23, 24, 25, 26, 27, 6, 27], [25]⟩, ⟨(some 25), (.indexAddr 26 (.tmp 24) (.const (.int .i64 1))), 0, none⟩),
 (⟨[26, 25, 5], [21, 22, 23, 24, 25, 26, 27, 6, 27], [26]⟩, ⟨(some 26), (.load 3 (.tmp 25)), 3, none⟩),
 (⟨[27, 23, 26, 5, 5], [21, 22, 23, 24, 25, 26, 27, 6, 27], [27]⟩, ⟨(some 27), (.binOp .add 3 (.tmp 23) (.tmp 26) 3), 3, none⟩),
 (⟨[6, 27, 27], [21, 22, 23, 24, 25, 26, 27, 6, 27], [6, 27]⟩, ⟨(some 6), (.assign (.tmp 27)), 3, none⟩)])
 .ret)
 (.seq
 (.ops [
 ⟨(some 29), (.binOp .eql 3 (.tmp 8) (.const (.int .i64 14)) 3), 4, none⟩,
 ⟨(some 28), (.assign (.tmp 29)), 4, none⟩])
 (.cond (.tmp 28)
 (.seq
 (.draws [
 (⟨[30, 5, 5], [30, 31, 32, 33, 34, 35, 36, 6, 36], [30]⟩, ⟨(some 30), (.load 26 (.tmp 5)), 26, none⟩),
 (⟨[31, 30, 5], [30, 31, 32, 33, 34, 35, 36, 6, 36], [31]⟩, ⟨(some 31), (.indexAddr 26 (.tmp 30) (.const (.int .i64 0))), 0, none⟩),
 (⟨[32, 31, 5], [30, 31, 32, 33, 34, 35, 36, 6, 36], [32]⟩, ⟨(some 32), (.load 3 (.tmp 31)), 3, none⟩),
 (⟨[33, 5, 5], [30, 31, 32, 33, 34, 35, 36, 6, 36], [33]⟩, ⟨(some 33), (.load 26 (.tmp 5)), 26, none⟩),
 (⟨[34, 33, 5], [30, 31, 32, 33, 34, 35, 36, 6, 36], [34]⟩, ⟨(some 34), (.indexAddr 26 (.tmp 33) (.const (.int .i64 1))), 0, none⟩),
 (⟨[35, 34, 5], [30, 31, 32, 33, 34, 35, 36, 6, 36], [35]⟩, ⟨(some 35), (.load 3 (.tmp 34)), 3, none⟩),
 (⟨[36, 32, 35, 5, 5], [30, 31, 32, 33, 34, 35, 36, 6, 36], [36]⟩, ⟨(some 36), (.binOp .sub 3 (.tmp 32) (.tmp 35) 3), 3, none⟩),
 (⟨[6, 36, 36], [30, 31, 32, 33, 34, 35, 36, 6, 36], [6, 36]⟩, ⟨(some 6), (.assign (.tmp 36)), 3, none⟩)])
 .ret)
 (.seq
 (.ops [
 ⟨(some 38), (.binOp .eql 3 (.tmp 8) (.const (.int .i64 15)) 3), 4, none⟩,
 ⟨(some 37), (.assign (.tmp 38)), 4, none⟩])
 (.cond (.tmp 37)
 (.seq
 (.draws [
 (⟨[39, 5, 5], [39, 40, 41, 42, 43, 44, 45, 41, 44, 5, 5, 6, 45], [39]⟩, ⟨(some 39), (.load 26 (.tmp 5)), 26, none⟩),
 (⟨[40, 39, 5], [39, 40, 41, 42, 43, 44, 45, 41, 44, 5, 5, 6, 45], [40]⟩, ⟨(some 40), (.indexAddr 26 (.tmp 39) (.const (.int .i64 0))), 0, none⟩),
 (⟨[41, 40, 5], [39, 40, 41, 42, 43, 44, 45, 41, 44, 5, 5, 6, 45], [41]⟩, ⟨(some 41), (.load 3 (.tmp 40)), 3, none⟩),
 (⟨[42, 5, 5], [39, 40, 41, 42, 43, 44, 45, 41, 44, 5, 5, 6, 45], [42]⟩, ⟨(some 42), (.load 26 (.tmp 5)), 26, none⟩),
 (⟨[43, 42, 5], [39, 40, 41, 42, 43, 44, 45, 41, 44, 5, 5, 6, 45], [43]⟩, ⟨(some 43), (.indexAddr 26 (.tmp 42) (.const (.int .i64 1))), 0, none⟩),
 (⟨[44, 43, 5], [39, 40, 41, 42, 43, 44, 45, 41, 44, 5, 5, 6, 45], [44]⟩, ⟨(some 44), (.load 3 (.tmp 43)), 3, none⟩),
 (⟨[45, 41, 44, 5, 5], [39, 40, 41, 42, 43, 44, 45, 41, 44, 5, 5, 6, 45], [45, 41, 44, 5, 5]⟩, ⟨(some 45), (.call ⟨(.builtin .min), #[(.tmp 41), (.tmp 44)], #[3, 3]⟩), 3, none⟩),
 (⟨[6, 45, 45], [39, 40, 41, 42, 43, 44, 45, 41, 44, 5, 5, 6, 45], [6, 45]⟩, ⟨(some 6), (.assign (.tmp 45)), 3, none⟩)])
 .ret)
 (.seq
 (.ops [
 ⟨(some 47), (.binOp .eql 3 (.tmp 8) (.const (.int .i64 16)) 3), 4, none⟩,
 ⟨(some 46), (.assign (.tmp 47)), 4, none⟩])
 (.cond (.tmp 46)
 (.seq
 (.draws [
 (⟨[48, 5, 5], [48, 49, 50, 51, 52, 53, 54, 50, 53, 5, 5, 6, 54], [48]⟩, ⟨(some 48), (.load 26 (.tmp 5)), 26, none⟩),
 (⟨[49, 48, 5], [48, 49, 50, 51, 52, 53, 54, 50, 53, 5, 5, 6, 54], [49]⟩, ⟨(some 49), (.indexAddr 26 (.tmp 48) (.const (.int .i64 0))), 0, none⟩),
 (⟨[50, 49, 5], [48, 49, 50, 51, 52, 53, 54, 50, 53, 5, 5, 6, 54], [50]⟩, ⟨(some 50), (.load 3 (.tmp 49)), 3, none⟩),
 (⟨[51, 5, 5], [48, 49, 50, 51, 52, 53, 54, 50, 53, 5, 5, 6, 54], [51]⟩, ⟨(some 51), (.load 26 (.tmp 5)), 26, none⟩),
 (⟨[52, 51, 5], [48, 49, 50, 51, 52, 53, 54, 50, 53, 5, 5, 6, 54], [52]⟩, ⟨(some 52), (.indexAddr 26 (.tmp 51) (.const (.int .i64 1))), 0, none⟩),
 (⟨[53, 52, 5], [48, 49, 50, 51, 52, 53, 54, 50, 53, 5, 5, 6, 54], [53]⟩, ⟨(some 53), (.load 3 (.tmp 52)), 3, none⟩),
 (⟨[54, 50, 53, 5, 5], [48, 49, 50, 51, 52, 53, 54, 50, 53, 5, 5, 6, 54], [54, 50, 53, 5, 5]⟩, ⟨(some 54), (.call ⟨(.builtin .max), #[(.tmp 50), (.tmp 53)], #[3, 3]⟩), 3, none⟩),
 (⟨[6, 54, 54], [48, 49, 50, 51, 52, 53, 54, 50, 53, 5, 5, 6, 54], [6, 54]⟩, ⟨(some 6), (.assign (.tmp 54)), 3, none⟩)])
 .ret)
 (.seq
 (.ops [
 ⟨(some 56), (.binOp .eql 3 (.tmp 8) (.const (.int .i64 17)) 3), 4, none⟩,
 ⟨(some 55), (.assign (.tmp 56)), 4, none⟩])
 (.cond (.tmp 55)
 (.seq
 (.draws [
 (⟨[57, 5, 5], [57, 58, 59, 60, 61, 62, 63, 64, 6, 64], [57]⟩, ⟨(some 57), (.load 26 (.tmp 5)), 26, none⟩),
 (⟨[58, 57, 5], [57, 58, 59, 60, 61, 62, 63, 64, 6, 64], [58]⟩, ⟨(some 58), (.indexAddr 26 (.tmp 57) (.const (.int .i64 0))), 0, none⟩),
 (⟨[59, 58, 5], [57, 58, 59, 60, 61, 62, 63, 64, 6, 64], [59]⟩, ⟨(some 59), (.load 3 (.tmp 58)), 3, none⟩),
 (⟨[60, 5, 5], [57, 58, 59, 60, 61, 62, 63, 64, 6, 64], [60]⟩, ⟨(some 60), (.load 26 (.tmp 5)), 26, none⟩),
 (⟨[61, 60, 5], [57, 58, 59, 60, 61, 62, 63, 64, 6, 64], [61]⟩, ⟨(some 61), (.indexAddr 26 (.tmp 60) (.const (.int .i64 1))), 0, none⟩),
 (⟨[62, 61, 5], [57, 58, 59, 60, 61, 62, 63, 64, 6, 64], [62]⟩, ⟨(some 62), (.load 3 (.tmp 61)), 3, none⟩),
 (⟨[63, 59, 62, 5, 5], [57, 58, 59, 60, 61, 62, 63, 64, 6, 64], [63]⟩, ⟨(some 63), (.binOp .lss 3 (.tmp 59) (.tmp 62) 3), 4, none⟩),
 (⟨[64, 63, 63], [57, 58, 59, 60, 61, 62, 63, 64, 6, 64], [64]⟩, ⟨(some 64), (.call ⟨(.value (.func 114)), #[(.tmp 63)], #[4]⟩), 3, none⟩),
 (⟨[6, 64, 64], [57, 58, 59, 60, 61, 62, 63, 64, 6, 64], [6, 64]⟩, ⟨(some 6), (.assign (.tmp 64)), 3, none⟩)])
 .ret)
 (.seq
 (.ops [
 ⟨(some 66), (.binOp .eql 3 (.tmp 8) (.const (.int .i64 18)) 3), 4, none⟩,
 ⟨(some 65), (.assign (.tmp 66)), 4, none⟩])
 (.cond (.tmp 65)
 (.seq
 (.draws [
 (⟨[67, 5, 5], [67, 68, 69, 70, 71, 72, 73, 74, 6, 74], [67]⟩, ⟨(some 67), (.load 26 (.tmp 5)), 26, none⟩),
 (⟨[68, 67, 5], [67, 68, 69, 70, 71, 72, 73, 74, 6, 74], [68]⟩, ⟨(some 68), (.indexAddr 26 (.tmp 67) (.const (.int .i64 0))), 0, none⟩),
 (⟨[69, 68, 5], [67, 68, 69, 70, 71, 72, 73, 74, 6, 74], [69]⟩, ⟨(some 69), (.load 3 (.tmp 68)), 3, none⟩),
 (⟨[70, 5, 5], [67, 68, 69, 70, 71, 72, 73, 74, 6, 74], [70]⟩, ⟨(some 70), (.load 26 (.tmp 5)), 26, none⟩),
 (⟨[71, 70, 5], [67, 68, 69, 70, 71, 72, 73, 74, 6, 74], [71]⟩, ⟨(some 71), (.indexAddr 26 (.tmp 70) (.const (.int .i64 1))), 0, none⟩),
 (⟨[72, 71, 5], [67, 68, 69, 70, 71, 72, 73, 74, 6, 74], [72]⟩, ⟨(some 72), (.load 3 (.tmp 71)), 3, none⟩),
 (⟨[73, 69, 72, 5, 5], [67, 68, 69, 70, 71, 72, 73, 74, 6, 74], [73]⟩, ⟨(some 73), (.binOp .eql 3 (.tmp 69) (.tmp 72) 3), 4, none⟩),
 (⟨[74, 73, 73], [67, 68, 69, 70, 71, 72, 73, 74, 6, 74], [74]⟩, ⟨(some 74), (.call ⟨(.value (.func 114)), #[(.tmp 73)], #[4]⟩), 3, none⟩),
 (⟨[6, 74, 74], [67, 68, 69, 70, 71, 72, 73, 74, 6, 74], [6, 74]⟩, ⟨(some 6), (.assign (.tmp 74)), 3, none⟩)])
 .ret)
 (.seq
 (.ops [
 ⟨(some 76), (.binOp .eql 3 (.tmp 8) (.const (.int .i64 19)) 3), 4, none⟩,
 ⟨(some 75), (.assign (.tmp 76)), 4, none⟩])
 (.cond (.tmp 75)
 (.seq
 (.seq
 (.ops [
 ⟨(some 77), (.load 26 (.tmp 5)), 26, none⟩,
 ⟨(some 78), (.indexAddr 26 (.tmp 77) (.const (.int .i64 0))), 0, none⟩,
 ⟨(some 79), (.load 3 (.tmp 78)), 3, none⟩,
 ⟨(some 80), (.binOp .gtr 3 (.tmp 79) (.const (.int .i64 0)) 3), 4, none⟩])
 (.cond (.tmp 80)
 (.seq
 (.ops [
 ⟨(some 81), (.load 26 (.tmp 5)), 26, none⟩,
 ⟨(some 82), (.indexAddr 26 (.tmp 81) (.const (.int .i64 1))), 0, none⟩,
 ⟨(some 83), (.load 3 (.tmp 82)), 3, none⟩,
 ⟨(some 6), (.assign (.tmp 83)), 3, none⟩])
 .ret)
 .skip))
 (.seq
 (.ops [
 ⟨(some 84), (.load 26 (.tmp 5)), 26, none⟩,
 ⟨(some 85), (.indexAddr 26 (.tmp 84) (.const (.int .i64 2))), 0, none⟩,
 ⟨(some 86), (.load 3 (.tmp 85)), 3, none⟩,
 ⟨(some 6), (.assign (.tmp 86)), 3, none⟩])
 .ret))
 .skip))))))))))))))))))))
 (.seq
 (.ops [
 ⟨(some 87), (.load 99 (.tmp 3)), 99, none⟩,
 ⟨(some 88), (.load 73 (.tmp 4)), 73, none⟩,
 ⟨(some 89), (.call ⟨(.value (.func 115)), #[(.tmp 87), (.tmp 88)], #[99, 73]⟩), 3, none⟩,
 ⟨(some 6), (.assign (.tmp 89)), 3, none⟩])
 .ret))
theorem slim97 : Tryz.f97.body.map (slim lends) = some k97 := by kernel_rfl
theorem ok97 : fnOk Tryz.f97 3 = true := by kernel_rfl
theorem c97 {a l : List D} {r : D × List D} (h : wpD Y.env k97 (fin tys l.length [ResultVar.tmp 6] r) (entry a l)) (ha : a.length = 3) : Y.call 97 a l = some r :=
 call_slim (Y := Y) rfl Tryz.func97 (ha ▸ ok97) slim97 h
theorem i_surroundings_result_call (t0_own : Int) (t0_id : Int) (t0_input : Int) (t0_round : Int) (t0_near : List Int) (t1_Kind : Int) (t1_Value : Int) (t2_ : List Int) {r : Int} (h : i_surroundings_result t0_own t0_id t0_input t0_round t0_near t1_Kind t1_Value t2_ = some r) : Y.call 97 [D.agg [D.int .i64 t0_own, D.int .i64 t0_id, D.int .i64 t0_input, D.int .i64 t0_round, D.sl 3 (lst (D.int .i64) t0_near)], D.agg [D.int .i64 t1_Kind, D.int .i64 t1_Value], D.sl 3 (lst (D.int .i64) t2_)] [] = some (D.int .i64 r, []) := by
 refine c97 ?_ rfl
 unfold k97
 unfold i_surroundings_result at h
 by_cases e1 : t1_Kind = 11
 ·rw [if_pos e1] at h
  obtain ⟨r2_, hl2, h⟩ := bindS h
  try dsimp only at h
  have c2 := i_surroundings_countIf_call t0_own t0_id t0_input t0_round t0_near (fun a0 => i_surroundings_result_1 a0 t2_) 112 [D.cptr [D.sl 3 (lst (D.int .i64) t2_)]] (fun a0 _ hh => i_surroundings_result_1_call a0 t2_ hh) le112 hl2
  obtain rfl := Option.some.inj h
  simp (maxDischargeDepth := 9) only [↓xpre, xpost, xcore, yset, ↓reduceIte, Nat.reduceEqDiff, Nat.reduceLT, Nat.reduceAdd, decide_eq_true e1, c2]
 ·rw [if_neg e1] at h
  by_cases e2 : t1_Kind = 12
  ·rw [if_pos e2] at h
   obtain ⟨r3_, hl3, h⟩ := bindS h
   try dsimp only at h
   have c3 := i_surroundings_countIf_call t0_own t0_id t0_input t0_round t0_near (fun a0 => i_surroundings_result_2 a0 t2_) 113 [D.cptr [D.sl 3 (lst (D.int .i64) t2_)]] (fun a0 _ hh => i_surroundings_result_2_call a0 t2_ hh) le113 hl3
   obtain rfl := Option.some.inj h
   simp (maxDischargeDepth := 9) only [↓xpre, xpost, xcore, yset, ↓reduceIte, Nat.reduceEqDiff, Nat.reduceLT, Nat.reduceAdd, e1, decide_eq_true e2, c3]
  ·rw [if_neg e2] at h
   by_cases e3 : t1_Kind = 13
   ·rw [if_pos e3] at h
    obtain ⟨e4, h⟩ := ckS h
    obtain ⟨e5, h⟩ := ckS h
    obtain rfl := Option.some.inj h
    simp (maxDischargeDepth := 9) only [↓xpre, xpost, xlst, xcore, yset, ↓reduceIte, Nat.reduceEqDiff, Nat.reduceLT, Nat.reduceAdd, Int.reduceLE, Int.reduceToNat, e1, e2, decide_eq_true e3, e4, e5]
   ·rw [if_neg e3] at h
    by_cases e4 : t1_Kind = 14
    ·rw [if_pos e4] at h
     obtain ⟨e5, h⟩ := ckS h
     obtain ⟨e6, h⟩ := ckS h
     obtain rfl := Option.some.inj h
     simp (maxDischargeDepth := 9) only [↓xpre, xpost, xlst, xcore, yset, ↓reduceIte, Nat.reduceEqDiff, Nat.reduceLT, Nat.reduceAdd, Int.reduceLE, Int.reduceToNat, e1, e2, e3, decide_eq_true e4, e5, e6]
    ·rw [if_neg e4] at h
     by_cases e5 : t1_Kind = 15
     ·rw [if_pos e5] at h
      obtain ⟨e6, h⟩ := ckS h
      obtain ⟨e7, h⟩ := ckS h
      obtain rfl := Option.some.inj h
      simp (maxDischargeDepth := 9) only [↓xpre, xpost, xlst, xcore, yset, ↓reduceIte, Nat.reduceEqDiff, Nat.reduceLT, Nat.reduceAdd, Int.reduceLE, Int.reduceToNat, e1, e2, e3, e4, decide_eq_true e5, e6, e7]
     ·rw [if_neg e5] at h
      by_cases e6 : t1_Kind = 16
      ·rw [if_pos e6] at h
       obtain ⟨e7, h⟩ := ckS h
       obtain ⟨e8, h⟩ := ckS h
       obtain rfl := Option.some.inj h
       simp (maxDischargeDepth := 9) only [↓xpre, xpost, xlst, xcore, yset, ↓reduceIte, Nat.reduceEqDiff, Nat.reduceLT, Nat.reduceAdd, Int.reduceLE, Int.reduceToNat, e1, e2, e3, e4, e5, decide_eq_true e6, e7, e8]
      ·rw [if_neg e6] at h
       by_cases e7 : t1_Kind = 17
       ·rw [if_pos e7] at h
        obtain ⟨e8, h⟩ := ckS h
        obtain ⟨e9, h⟩ := ckS h
        obtain ⟨r10_, hl10, h⟩ := bindS h
        try dsimp only at h
        have c10 := i_oneIf_call (decide ((t2_.getD 0 default) < (t2_.getD 1 default))) hl10
        obtain rfl := Option.some.inj h
        simp (maxDischargeDepth := 9) only [↓xpre, xpost, xlst, xcore, yset, ↓reduceIte, Nat.reduceEqDiff, Nat.reduceLT, Nat.reduceAdd, Int.reduceLE, Int.reduceToNat, e1, e2, e3, e4, e5, e6, decide_eq_true e7, e8, e9, c10]
       ·rw [if_neg e7] at h
        by_cases e8 : t1_Kind = 18
        ·rw [if_pos e8] at h
         obtain ⟨e9, h⟩ := ckS h
         obtain ⟨e10, h⟩ := ckS h
         obtain ⟨r11_, hl11, h⟩ := bindS h
         try dsimp only at h
         have c11 := i_oneIf_call (decide ((t2_.getD 0 default) = (t2_.getD 1 default))) hl11
         obtain rfl := Option.some.inj h
         simp (maxDischargeDepth := 9) only [↓xpre, xpost, xlst, xcore, yset, ↓reduceIte, Nat.reduceEqDiff, Nat.reduceLT, Nat.reduceAdd, Int.reduceLE, Int.reduceToNat, e1, e2, e3, e4, e5, e6, e7, decide_eq_true e8, e9, e10, c11]
        ·rw [if_neg e8] at h
         by_cases e9 : t1_Kind = 19
         ·rw [if_pos e9] at h
          obtain ⟨e10, h⟩ := ckS h
          by_cases e11 : 0 < (t2_.getD 0 default)
          ·rw [if_pos e11] at h
           obtain ⟨e12, h⟩ := ckS h
           obtain rfl := Option.some.inj h
           simp (maxDischargeDepth := 9) only [↓xpre, xpost, xlst, xcore, yset, ↓reduceIte, Nat.reduceEqDiff, Nat.reduceLT, Nat.reduceAdd, Int.reduceLE, Int.reduceToNat, e1, e2, e3, e4, e5, e6, e7, e8, decide_eq_true e9, e10, e11, e12]
          ·rw [if_neg e11] at h
           obtain ⟨e12, h⟩ := ckS h
           obtain rfl := Option.some.inj h
           simp (maxDischargeDepth := 9) only [↓xpre, xpost, xlst, xcore, yset, ↓reduceIte, Nat.reduceEqDiff, Nat.reduceLT, Nat.reduceAdd, Int.reduceLE, Int.reduceToNat, e1, e2, e3, e4, e5, e6, e7, e8, decide_eq_true e9, e10, e11, e12]
         ·rw [if_neg e9] at h
          obtain ⟨r10_, hl10, h⟩ := bindS h
          try dsimp only at h
          have c10 := i_surroundings_leaf_call t0_own t0_id t0_input t0_round t0_near t1_Kind t1_Value hl10
          obtain rfl := Option.some.inj h
          simp (maxDischargeDepth := 9) only [↓xpre, xpost, xcore, yset, ↓reduceIte, Nat.reduceEqDiff, Nat.reduceLT, Nat.reduceAdd, e1, e2, e3, e4, e5, e6, e7, e8, e9, c10]

noncomputable def i_surroundings_eval_l0_S (s_own : Int) (s_id : Int) (s_input : Int) (s_round : Int) (s_near : List Int) (prog : List (Int × Int)) (stack : List Int) (t12_ : Int) : Option (((List Int) × Int) ⊕ ((List Int))) :=
 if t12_ < (prog.length : Int) then
  ck (0 ≤ t12_ ∧ t12_.toNat < prog.length) <|
  (i_ValueOp_needs (fstD prog t12_.toNat) (sndD prog t12_.toNat)).bind fun r3_ =>
  ck (0 ≤ IntKind.i64.wrap ((stack.length : Int) - r3_)) <|
  ck ((IntKind.i64.wrap ((stack.length : Int) - r3_)).toNat ≤ stack.length) <|
  (i_surroundings_result s_own s_id s_input s_round s_near (fstD prog t12_.toNat) (sndD prog t12_.toNat) ((stack.drop ((IntKind.i64.wrap ((stack.length : Int) - r3_)).toNat)).take (stack.length - (IntKind.i64.wrap ((stack.length : Int) - r3_)).toNat))).bind fun r6_ =>
  ck ((stack.take ((IntKind.i64.wrap ((stack.length : Int) - r3_)).toNat)).length + 1 < 1099511627776) <|
  some (Sum.inl (((stack.take ((IntKind.i64.wrap ((stack.length : Int) - r3_)).toNat)) ++ [(leastI (mostI r6_ (-1000000)) 1000000)]), IntKind.i64.wrap (t12_ + 1)))
 else
  some (Sum.inr stack)
noncomputable def i_surroundings_eval_l0 (s_own : Int) (s_id : Int) (s_input : Int) (s_round : Int) (s_near : List Int) (prog : List (Int × Int)) (v : (List Int) × Int) : Option ((List Int)) := itO (fun v => i_surroundings_eval_l0_S s_own s_id s_input s_round s_near prog v.1 v.2) v
noncomputable def i_surroundings_eval (s_own : Int) (s_id : Int) (s_input : Int) (s_round : Int) (s_near : List Int) (prog : List (Int × Int)) : Option (Int) :=
 (i_surroundings_eval_l0 s_own s_id s_input s_round s_near prog ([], 0)).bind fun r2_ =>
 ck (0 < r2_.length) <|
 some (r2_.getD 0 default)
/-- impl.surroundings).eval -/
def k77_l0b : SC :=
 .seq
 (.ops [
 ⟨(some 13), (.binOp .lss 3 (.tmp 12) (.tmp 11) 3), 0, none⟩])
 (.seq
 (.cond (.tmp 13)
 .skip
 (.exit 0))
 (.seq
 (.block 1
 (.seq
 (.ops [
 ⟨(some 14), (.indexAddr 49 (.tmp 10) (.tmp 12)), 0, none⟩,
 ⟨(some 15), (.load 73 (.tmp 14)), 73, none⟩,
 ⟨(some 7), (.alloc 73), 0, none⟩,
 ⟨none, (.store 73 (.tmp 7) (.tmp 15)), 0, none⟩])
 (.seq
 (.ops [
 ⟨(some 16), (.move (.tmp 5)), 26, none⟩,
 ⟨(some 17), (.call ⟨(.builtin .len), #[(.tmp 16)], #[26]⟩), 3, none⟩,
 ⟨(some 18), (.load 73 (.tmp 7)), 73, none⟩,
 ⟨(some 19), (.call ⟨(.value (.func 94)), #[(.tmp 18)], #[73]⟩), 3, none⟩,
 ⟨(some 20), (.binOp .sub 3 (.tmp 17) (.tmp 19) 3), 3, none⟩,
 ⟨(some 8), (.assign (.tmp 20)), 3, none⟩])
 (.seq
 (.draws [
 (⟨[21, 2, 2], [21, 22, 23, 24, 25, 26, 9, 26], [21]⟩, ⟨(some 21), (.load 99 (.tmp 2)), 99, none⟩),
 (⟨[22, 7, 7], [21, 22, 23, 24, 25, 26, 9, 26], [22]⟩, ⟨(some 22), (.load 73 (.tmp 7)), 73, none⟩),
 (⟨[23, 5, 5], [21, 22, 23, 24, 25, 26, 9, 26], [23]⟩, ⟨(some 23), (.move (.tmp 5)), 26, none⟩),
 (⟨[24, 8, 8], [21, 22, 23, 24, 25, 26, 9, 26], [24]⟩, ⟨(some 24), (.move (.tmp 8)), 3, none⟩),
 (⟨[25, 23, 24, 5, 8], [21, 22, 23, 24, 25, 26, 9, 26], [25]⟩, ⟨(some 25), (.slice 26 (.tmp 23) (some (.tmp 24)) none none), 26, none⟩),
 (⟨[26, 21, 22, 25, 2, 7, 5], [21, 22, 23, 24, 25, 26, 9, 26], [26]⟩, ⟨(some 26), (.call ⟨(.value (.func 97)), #[(.tmp 21), (.tmp 22), (.tmp 25)], #[99, 73, 26]⟩), 3, none⟩),
 (⟨[9, 26, 26], [21, 22, 23, 24, 25, 26, 9, 26], [9, 26]⟩, ⟨(some 9), (.assign (.tmp 26)), 3, none⟩)])
 (.ops [
 ⟨(some 27), (.move (.tmp 5)), 26, none⟩,
 ⟨(some 28), (.move (.tmp 8)), 3, none⟩,
 ⟨(some 29), (.slice 26 (.tmp 27) none (some (.tmp 28)) none), 900002, none⟩,
 ⟨(some 30), (.move (.tmp 9)), 3, none⟩,
 ⟨(some 31), (.call ⟨(.builtin .max), #[(.tmp 30), (.const (.int .i64 (-1000000)))], #[3, 3]⟩), 3, none⟩,
 ⟨(some 32), (.call ⟨(.builtin .min), #[(.tmp 31), (.const (.int .i64 1000000))], #[3, 3]⟩), 3, none⟩,
 ⟨(some 33), (.buildSlice 26 1 #[(0, (.tmp 32))]), 26, none⟩,
 ⟨(some 34), (.call ⟨(.builtin .append), #[(.tmp 29), (.tmp 33)], #[26, 26]⟩), 26, none⟩,
 ⟨(some 5), (.assign (.tmp 34)), 26, none⟩])))))
 (.ops [
 ⟨(some 35), (.binOp .add 3 (.tmp 12) (.const (.int .i64 1)) 3), 3, none⟩,
 ⟨(some 12), (.move (.tmp 35)), 3, none⟩])))
def k77_l0 : SC := .loop k77_l0b
def k77 : SC :=
 .seq
 (.ops [
 ⟨(some 2), (.box 99 (.tmp 0)), 0, none⟩,
 ⟨(some 4), (.assign (.const (.int .i64 0))), 3, none⟩])
 (.seq
 (.ops [
 ⟨(some 5), (.assign (.const (.slice none 0 0))), 26, none⟩])
 (.seq
 (.seq
 (.ops [
 ⟨(some 10), (.move (.tmp 1)), 49, none⟩,
 ⟨(some 11), (.call ⟨(.builtin .len), #[(.tmp 10)], #[49]⟩), 3, none⟩,
 ⟨(some 12), (.move (.const (.int .i64 0))), 3, none⟩])
 (.block 0
 k77_l0))
 (.seq
 (.ops [
 ⟨(some 36), (.move (.tmp 5)), 26, none⟩,
 ⟨(some 37), (.indexAddr 26 (.tmp 36) (.const (.int .i64 0))), 0, none⟩,
 ⟨(some 38), (.load 3 (.tmp 37)), 3, none⟩,
 ⟨(some 4), (.assign (.tmp 38)), 3, none⟩])
 .ret)))
theorem slim77 : Tryz.f77.body.map (slim lends) = some k77 := by kernel_rfl
theorem ok77 : fnOk Tryz.f77 2 = true := by kernel_rfl
theorem c77 {a l : List D} {r : D × List D} (h : wpD Y.env k77 (fin tys l.length [ResultVar.tmp 4] r) (entry a l)) (ha : a.length = 2) : Y.call 77 a l = some r :=
 call_slim (Y := Y) rfl Tryz.func77 (ha ▸ ok77) slim77 h
def i_surroundings_eval_l0_M (s_own : Int) (s_id : Int) (s_input : Int) (s_round : Int) (s_near : List Int) (prog : List (Int × Int)) (stack : List Int) (t12_ : Int) (s : St) : Prop := s.v 2 = D.box [D.int .i64 s_own, D.int .i64 s_id, D.int .i64 s_input, D.int .i64 s_round, D.sl 3 (lst (D.int .i64) s_near)] ∧ s.v 5 = D.own 3 (lst (D.int .i64) stack) ∧ s.v 10 = D.sl 73 (cat2 .i64 .i64 prog) ∧ s.v 11 = D.int .i64 (prog.length : Int) ∧ s.v 12 = D.int .i64 t12_
def i_surroundings_eval_l0_X (s_own : Int) (s_id : Int) (s_input : Int) (s_round : Int) (s_near : List Int) (prog : List (Int × Int)) (r : (List Int)) (ex : Ex) (s : St) : Prop := ex = .exit 0 ∧ s.v 5 = D.own 3 (lst (D.int .i64) r)
theorem i_surroundings_eval_l0_wp (s_own : Int) (s_id : Int) (s_input : Int) (s_round : Int) (s_near : List Int) (prog : List (Int × Int)) {v : (List Int) × Int} {s : St} {r : (List Int)} (h : i_surroundings_eval_l0 s_own s_id s_input s_round s_near prog v = some r) (hM : i_surroundings_eval_l0_M s_own s_id s_input s_round s_near prog v.1 v.2 s) : wpD Y.env k77_l0 (i_surroundings_eval_l0_X s_own s_id s_input s_round s_near prog r) s := by
 unfold i_surroundings_eval_l0 at h
 refine wd_itO (c := k77_l0b) (fun v => i_surroundings_eval_l0_S s_own s_id s_input s_round s_near prog v.1 v.2) (fun v s => i_surroundings_eval_l0_M s_own s_id s_input s_round s_near prog v.1 v.2 s) (i_surroundings_eval_l0_X s_own s_id s_input s_round s_near prog) ?_ h hM
 clear h hM s v r
 intro v s o hM h
 obtain ⟨stack, t12_⟩ := v
 dsimp only at h hM
 unfold i_surroundings_eval_l0_S at h
 unfold i_surroundings_eval_l0_M at hM
 obtain ⟨m0, m1, m2, m3, m4⟩ := hM
 unfold k77_l0b
 by_cases e1 : t12_ < (prog.length : Int)
 ·rw [if_pos e1] at h
  obtain ⟨e2, h⟩ := ckS h
  obtain ⟨r3_, hl3, h⟩ := bindS h
  try dsimp only at h
  have c3 := i_ValueOp_needs_call (fstD prog t12_.toNat) (sndD prog t12_.toNat) hl3
  obtain ⟨e4, h⟩ := ckS h
  obtain ⟨e5, h⟩ := ckS h
  obtain ⟨r6_, hl6, h⟩ := bindS h
  try dsimp only at h
  have c6 := i_surroundings_result_call s_own s_id s_input s_round s_near (fstD prog t12_.toNat) (sndD prog t12_.toNat) ((stack.drop ((IntKind.i64.wrap ((stack.length : Int) - r3_)).toNat)).take (stack.length - (IntKind.i64.wrap ((stack.length : Int) - r3_)).toNat)) hl6
  obtain ⟨e7, h⟩ := ckS h
  obtain rfl := Option.some.inj h
  simp (maxDischargeDepth := 9) only [↓xpre, xpost, xlst, xc2, xcore, yset, ↓reduceIte, Nat.reduceEqDiff, Nat.reduceLeDiff, Nat.reduceAdd, Nat.reduceBEq, Int.reduceNeg, m0, m1, m2, m3, m4, e1, e2.1, e2.2, c3, e4, e5, c6, e7, i_surroundings_eval_l0_M, sxN]
 ·rw [if_neg e1] at h
  obtain rfl := Option.some.inj h
  simp (maxDischargeDepth := 9) only [↓xpre, xpost, yset, ↓reduceIte, Nat.reduceEqDiff, Int.reduceNeg, m1, m3, m4, e1, i_surroundings_eval_l0_M, i_surroundings_eval_l0_X, sxE]
theorem i_surroundings_eval_call (s_own : Int) (s_id : Int) (s_input : Int) (s_round : Int) (s_near : List Int) (prog : List (Int × Int)) {r : Int} (h : i_surroundings_eval s_own s_id s_input s_round s_near prog = some r) : Y.call 77 [D.agg [D.int .i64 s_own, D.int .i64 s_id, D.int .i64 s_input, D.int .i64 s_round, D.sl 3 (lst (D.int .i64) s_near)], D.sl 73 (cat2 .i64 .i64 prog)] [] = some (D.int .i64 r, []) := by
 refine c77 ?_ rfl
 unfold k77
 unfold i_surroundings_eval at h
 obtain ⟨r2_, hl2, h⟩ := bindS h
 try dsimp only at h
 simp (maxDischargeDepth := 9) only [↓xpre, xpost, xc2, xcore, yset, ↓reduceIte, Nat.reduceEqDiff, Nat.reduceLT]
 refine wd_mono (i_surroundings_eval_l0_wp s_own s_id s_input s_round s_near prog hl2 ?_) ?_
 ·simp (maxDischargeDepth := 9) only [xpost, ↓reduceIte, Nat.reduceEqDiff, i_surroundings_eval_l0_M] <;> (repeat' apply And.intro) <;> first | rfl | exact ⟨_, rfl⟩ | simp [lst, cat2_nil]
 ·intro ex2 s2 hX2
  unfold i_surroundings_eval_l0_X at hX2
  obtain ⟨rfl, n2_0⟩ := hX2
  obtain ⟨e3, h⟩ := ckS h
  obtain rfl := Option.some.inj h
  simp (maxDischargeDepth := 9) only [↓xpre, xpost, xlst, xcore, yset, ↓reduceIte, Nat.reduceEqDiff, n2_0, e3]

noncomputable def i_stepValues_l0_S (t0_ : List (Int × Int)) (t1_Ends : List (List (Int × Int))) (t1_Ids : List Int) (t1_Inputs : List Int) (t2_ : Int) (t3_ : List Int) (t9_ : List Int) (t18_ : Int) (t12_4 : List Int) (t46_ : Int) : Option (((List Int) × Int) ⊕ ((List Int))) :=
 if t46_ < ((t1_Ends.getD t18_.toNat default).length : Int) then
  ck (0 ≤ t46_ ∧ t46_.toNat < (t1_Ends.getD t18_.toNat default).length) <|
  ck (0 ≤ (fstD (t1_Ends.getD t18_.toNat default) t46_.toNat) ∧ (fstD (t1_Ends.getD t18_.toNat default) t46_.toNat).toNat < t3_.length) <|
  ck (t12_4.length + 1 < 1099511627776) <|
  some (Sum.inl ((t12_4 ++ [(t3_.getD ((fstD (t1_Ends.getD t18_.toNat default) t46_.toNat).toNat) default)]), IntKind.i64.wrap (t46_ + 1)))
 else
  some (Sum.inr t12_4)
noncomputable def i_stepValues_l0 (t0_ : List (Int × Int)) (t1_Ends : List (List (Int × Int))) (t1_Ids : List Int) (t1_Inputs : List Int) (t2_ : Int) (t3_ : List Int) (t9_ : List Int) (t18_ : Int) (v : (List Int) × Int) : Option ((List Int)) := itO (fun v => i_stepValues_l0_S t0_ t1_Ends t1_Ids t1_Inputs t2_ t3_ t9_ t18_ v.1 v.2) v
noncomputable def i_stepValues_l0_v1_S (t0_ : List (Int × Int)) (t1_Ends : List (List (Int × Int))) (t1_Ids : List Int) (t1_Inputs : List Int) (t2_ : Int) (t3_ : List Int) (t9_ : List Int) (t18_ : Int) (t12_4 : List Int) (t46_ : Int) : Option (((List Int) × Int) ⊕ ((List Int))) :=
 if t46_ < ((t1_Ends.getD t18_.toNat default).length : Int) then
  ck (0 ≤ t46_ ∧ t46_.toNat < (t1_Ends.getD t18_.toNat default).length) <|
  ck (0 ≤ (fstD (t1_Ends.getD t18_.toNat default) t46_.toNat) ∧ (fstD (t1_Ends.getD t18_.toNat default) t46_.toNat).toNat < t3_.length) <|
  ck (t12_4.length + 1 < 1099511627776) <|
  some (Sum.inl ((t12_4 ++ [(t3_.getD ((fstD (t1_Ends.getD t18_.toNat default) t46_.toNat).toNat) default)]), IntKind.i64.wrap (t46_ + 1)))
 else
  some (Sum.inr t12_4)
noncomputable def i_stepValues_l0_v1 (t0_ : List (Int × Int)) (t1_Ends : List (List (Int × Int))) (t1_Ids : List Int) (t1_Inputs : List Int) (t2_ : Int) (t3_ : List Int) (t9_ : List Int) (t18_ : Int) (v : (List Int) × Int) : Option ((List Int)) := itO (fun v => i_stepValues_l0_v1_S t0_ t1_Ends t1_Ids t1_Inputs t2_ t3_ t9_ t18_ v.1 v.2) v
noncomputable def i_stepValues_l1_S (t0_ : List (Int × Int)) (t1_Ends : List (List (Int × Int))) (t1_Ids : List Int) (t1_Inputs : List Int) (t2_ : Int) (t3_ : List Int) (t9_ : List Int) (t18_ : Int) : Option (((List Int) × Int) ⊕ ((List Int))) :=
 if t18_ < (t1_Ends.length : Int) then
  ck (0 ≤ t18_ ∧ t18_.toNat < t1_Ends.length) <|
  ck (0 ≤ t18_ ∧ t18_.toNat < t3_.length) <|
  ck (0 ≤ t18_ ∧ t18_.toNat < t1_Inputs.length) <|
  if 0 < (t1_Ids.length : Int) then
   ck (0 ≤ t18_ ∧ t18_.toNat < t1_Ids.length) <|
   (i_stepValues_l0 t0_ t1_Ends t1_Ids t1_Inputs t2_ t3_ t9_ t18_ ([], 0)).bind fun r8_ =>
   (i_surroundings_eval (t3_.getD t18_.toNat default) (t1_Ids.getD t18_.toNat default) (t1_Inputs.getD t18_.toNat default) t2_ r8_ t0_).bind fun r9_ =>
   ck (t9_.length + 1 < 1099511627776) <|
   some (Sum.inl ((t9_ ++ [r9_]), IntKind.i64.wrap (t18_ + 1)))
  else
   (i_stepValues_l0_v1 t0_ t1_Ends t1_Ids t1_Inputs t2_ t3_ t9_ t18_ ([], 0)).bind fun r7_ =>
   (i_surroundings_eval (t3_.getD t18_.toNat default) (0 : Int) (t1_Inputs.getD t18_.toNat default) t2_ r7_ t0_).bind fun r8_ =>
   ck (t9_.length + 1 < 1099511627776) <|
   some (Sum.inl ((t9_ ++ [r8_]), IntKind.i64.wrap (t18_ + 1)))
 else
  some (Sum.inr t9_)
noncomputable def i_stepValues_l1 (t0_ : List (Int × Int)) (t1_Ends : List (List (Int × Int))) (t1_Ids : List Int) (t1_Inputs : List Int) (t2_ : Int) (t3_ : List Int) (v : (List Int) × Int) : Option ((List Int)) := itO (fun v => i_stepValues_l1_S t0_ t1_Ends t1_Ids t1_Inputs t2_ t3_ v.1 v.2) v
noncomputable def i_stepValues (t0_ : List (Int × Int)) (t1_Ends : List (List (Int × Int))) (t1_Ids : List Int) (t1_Inputs : List Int) (t2_ : Int) (t3_ : List Int) : Option ((List Int)) :=
 (i_stepValues_l1 t0_ t1_Ends t1_Ids t1_Inputs t2_ t3_ ([], 0)).bind fun r2_ =>
 some r2_
/-- impl.stepValues -/
def k52_l0b : SC :=
 .seq
 (.ops [
 ⟨(some 47), (.binOp .lss 3 (.tmp 46) (.tmp 45) 3), 0, none⟩])
 (.seq
 (.cond (.tmp 47)
 .skip
 (.exit 2))
 (.seq
 (.block 3
 (.seq
 (.ops [
 ⟨(some 48), (.indexAddr 62 (.tmp 44) (.tmp 46)), 0, none⟩,
 ⟨(some 49), (.load 85 (.tmp 48)), 85, none⟩,
 ⟨(some 14), (.alloc 85), 0, none⟩,
 ⟨none, (.store 85 (.tmp 14) (.tmp 49)), 0, none⟩])
 (.draws [
 (⟨[50, 12, 12], [50, 51, 52, 53, 54, 55, 56, 57, 56, 3, 58, 51, 57, 12, 57, 59, 59, 58, 12, 58], [50]⟩, ⟨(some 50), (.fieldAddr 99 (.tmp 12) 4), 0, none⟩),
 (⟨[51, 50, 12], [50, 51, 52, 53, 54, 55, 56, 57, 56, 3, 58, 51, 57, 12, 57, 59, 59, 58, 12, 58], [51]⟩, ⟨(some 51), (.load 26 (.tmp 50)), 26, none⟩),
 (⟨[52, 3, 3], [50, 51, 52, 53, 54, 55, 56, 57, 56, 3, 58, 51, 57, 12, 57, 59, 59, 58, 12, 58], [52]⟩, ⟨(some 52), (.move (.tmp 3)), 26, none⟩),
 (⟨[53, 14, 14], [50, 51, 52, 53, 54, 55, 56, 57, 56, 3, 58, 51, 57, 12, 57, 59, 59, 58, 12, 58], [53]⟩, ⟨(some 53), (.fieldAddr 85 (.tmp 14) 0), 0, none⟩),
 (⟨[54, 53, 14], [50, 51, 52, 53, 54, 55, 56, 57, 56, 3, 58, 51, 57, 12, 57, 59, 59, 58, 12, 58], [54]⟩, ⟨(some 54), (.load 3 (.tmp 53)), 3, none⟩),
 (⟨[55, 52, 54, 3, 14], [50, 51, 52, 53, 54, 55, 56, 57, 56, 3, 58, 51, 57, 12, 57, 59, 59, 58, 12, 58], [55]⟩, ⟨(some 55), (.indexAddr 26 (.tmp 52) (.tmp 54)), 0, none⟩),
 (⟨[56, 55, 3], [50, 51, 52, 53, 54, 55, 56, 57, 56, 3, 58, 51, 57, 12, 57, 59, 59, 58, 12, 58], [56]⟩, ⟨(some 56), (.load 3 (.tmp 55)), 3, none⟩),
 (⟨[57, 56, 3], [50, 51, 52, 53, 54, 55, 56, 57, 56, 3, 58, 51, 57, 12, 57, 59, 59, 58, 12, 58], [57, 56, 3]⟩, ⟨(some 57), (.buildSlice 26 1 #[(0, (.tmp 56))]), 26, none⟩),
 (⟨[58, 51, 57, 12, 57], [50, 51, 52, 53, 54, 55, 56, 57, 56, 3, 58, 51, 57, 12, 57, 59, 59, 58, 12, 58], [58, 51, 57, 12, 57]⟩, ⟨(some 58), (.call ⟨(.builtin .append), #[(.tmp 51), (.tmp 57)], #[26, 26]⟩), 26, none⟩),
 (⟨[59, 12, 12], [50, 51, 52, 53, 54, 55, 56, 57, 56, 3, 58, 51, 57, 12, 57, 59, 59, 58, 12, 58], [59]⟩, ⟨(some 59), (.fieldAddr 99 (.tmp 12) 4), 0, none⟩),
 (⟨[59, 58, 12, 58], [50, 51, 52, 53, 54, 55, 56, 57, 56, 3, 58, 51, 57, 12, 57, 59, 59, 58, 12, 58], [59, 58, 12, 58]⟩, ⟨none, (.store 26 (.tmp 59) (.tmp 58)), 0, none⟩)])))
 (.ops [
 ⟨(some 60), (.binOp .add 3 (.tmp 46) (.const (.int .i64 1)) 3), 3, none⟩,
 ⟨(some 46), (.move (.tmp 60)), 3, none⟩])))
def k52_l0 : SC := .loop k52_l0b
def k52_l1b : SC :=
 .seq
 (.ops [
 ⟨(some 19), (.binOp .lss 3 (.tmp 18) (.tmp 17) 3), 0, none⟩])
 (.seq
 (.cond (.tmp 19)
 .skip
 (.exit 0))
 (.seq
 (.block 1
 (.seq
 (.ops [
 ⟨(some 20), (.move (.tmp 18)), 3, none⟩,
 ⟨(some 21), (.indexAddr 35 (.tmp 16) (.tmp 18)), 0, none⟩,
 ⟨(some 22), (.load 62 (.tmp 21)), 62, none⟩,
 ⟨(some 10), (.assign (.tmp 20)), 3, none⟩,
 ⟨(some 11), (.assign (.tmp 22)), 62, none⟩])
 (.seq
 (.draws [
 (⟨[23, 3, 3], [23, 24, 25, 26, 27, 28, 29, 30, 31, 32, 33, 26, 31, 32, 3, 5, 2, 12, 12, 33, 12, 33], [23]⟩, ⟨(some 23), (.move (.tmp 3)), 26, none⟩),
 (⟨[24, 10, 10], [23, 24, 25, 26, 27, 28, 29, 30, 31, 32, 33, 26, 31, 32, 3, 5, 2, 12, 12, 33, 12, 33], [24]⟩, ⟨(some 24), (.move (.tmp 10)), 3, none⟩),
 (⟨[25, 23, 24, 3, 10], [23, 24, 25, 26, 27, 28, 29, 30, 31, 32, 33, 26, 31, 32, 3, 5, 2, 12, 12, 33, 12, 33], [25]⟩, ⟨(some 25), (.indexAddr 26 (.tmp 23) (.tmp 24)), 0, none⟩),
 (⟨[26, 25, 3], [23, 24, 25, 26, 27, 28, 29, 30, 31, 32, 33, 26, 31, 32, 3, 5, 2, 12, 12, 33, 12, 33], [26]⟩, ⟨(some 26), (.load 3 (.tmp 25)), 3, none⟩),
 (⟨[27, 5, 5], [23, 24, 25, 26, 27, 28, 29, 30, 31, 32, 33, 26, 31, 32, 3, 5, 2, 12, 12, 33, 12, 33], [27]⟩, ⟨(some 27), (.fieldAddr 37 (.tmp 5) 2), 0, none⟩),
 (⟨[28, 27, 5], [23, 24, 25, 26, 27, 28, 29, 30, 31, 32, 33, 26, 31, 32, 3, 5, 2, 12, 12, 33, 12, 33], [28]⟩, ⟨(some 28), (.load 26 (.tmp 27)), 26, none⟩),
 (⟨[29, 10, 10], [23, 24, 25, 26, 27, 28, 29, 30, 31, 32, 33, 26, 31, 32, 3, 5, 2, 12, 12, 33, 12, 33], [29]⟩, ⟨(some 29), (.move (.tmp 10)), 3, none⟩),
 (⟨[30, 28, 29, 5, 10], [23, 24, 25, 26, 27, 28, 29, 30, 31, 32, 33, 26, 31, 32, 3, 5, 2, 12, 12, 33, 12, 33], [30]⟩, ⟨(some 30), (.indexAddr 26 (.tmp 28) (.tmp 29)), 0, none⟩),
 (⟨[31, 30, 5], [23, 24, 25, 26, 27, 28, 29, 30, 31, 32, 33, 26, 31, 32, 3, 5, 2, 12, 12, 33, 12, 33], [31]⟩, ⟨(some 31), (.load 3 (.tmp 30)), 3, none⟩),
 (⟨[32, 2, 2], [23, 24, 25, 26, 27, 28, 29, 30, 31, 32, 33, 26, 31, 32, 3, 5, 2, 12, 12, 33, 12, 33], [32]⟩, ⟨(some 32), (.move (.tmp 2)), 3, none⟩),
 (⟨[33, 26, 31, 32, 3, 5, 2], [23, 24, 25, 26, 27, 28, 29, 30, 31, 32, 33, 26, 31, 32, 3, 5, 2, 12, 12, 33, 12, 33], [33, 26, 31, 32, 3, 5, 2]⟩, ⟨(some 33), (.build 99 #[(0, (.tmp 26)), (2, (.tmp 31)), (3, (.tmp 32))]), 99, none⟩),
 (⟨[12], [23, 24, 25, 26, 27, 28, 29, 30, 31, 32, 33, 26, 31, 32, 3, 5, 2, 12, 12, 33, 12, 33], [12]⟩, ⟨(some 12), (.alloc 99), 0, none⟩),
 (⟨[12, 33, 12, 33], [23, 24, 25, 26, 27, 28, 29, 30, 31, 32, 33, 26, 31, 32, 3, 5, 2, 12, 12, 33, 12, 33], [12, 33, 12, 33]⟩, ⟨none, (.store 99 (.tmp 12) (.tmp 33)), 0, none⟩)])
 (.seq
 (.seq
 (.ops [
 ⟨(some 34), (.fieldAddr 37 (.tmp 5) 1), 0, none⟩,
 ⟨(some 35), (.load 26 (.tmp 34)), 26, none⟩,
 ⟨(some 36), (.call ⟨(.builtin .len), #[(.tmp 35)], #[26]⟩), 3, none⟩,
 ⟨(some 37), (.binOp .gtr 3 (.tmp 36) (.const (.int .i64 0)) 3), 4, none⟩])
 (.cond (.tmp 37)
 (.ops [
 ⟨(some 38), (.fieldAddr 37 (.tmp 5) 1), 0, none⟩,
 ⟨(some 39), (.load 26 (.tmp 38)), 26, none⟩,
 ⟨(some 40), (.move (.tmp 10)), 3, none⟩,
 ⟨(some 41), (.indexAddr 26 (.tmp 39) (.tmp 40)), 0, none⟩,
 ⟨(some 42), (.load 3 (.tmp 41)), 3, none⟩,
 ⟨(some 43), (.fieldAddr 99 (.tmp 12) 1), 0, none⟩,
 ⟨none, (.store 3 (.tmp 43) (.tmp 42)), 0, none⟩])
 .skip))
 (.seq
 (.seq
 (.ops [
 ⟨(some 44), (.move (.tmp 11)), 62, none⟩,
 ⟨(some 45), (.call ⟨(.builtin .len), #[(.tmp 44)], #[62]⟩), 3, none⟩,
 ⟨(some 46), (.move (.const (.int .i64 0))), 3, none⟩])
 (.block 2
 k52_l0))
 (.ops [
 ⟨(some 61), (.move (.tmp 9)), 26, none⟩,
 ⟨(some 62), (.load 99 (.tmp 12)), 99, none⟩,
 ⟨(some 63), (.move (.tmp 0)), 49, none⟩,
 ⟨(some 64), (.call ⟨(.value (.func 77)), #[(.tmp 62), (.tmp 63)], #[99, 49]⟩), 3, none⟩,
 ⟨(some 65), (.buildSlice 26 1 #[(0, (.tmp 64))]), 26, none⟩,
 ⟨(some 66), (.call ⟨(.builtin .append), #[(.tmp 61), (.tmp 65)], #[26, 26]⟩), 26, none⟩,
 ⟨(some 9), (.assign (.tmp 66)), 26, none⟩]))))))
 (.ops [
 ⟨(some 67), (.binOp .add 3 (.tmp 18) (.const (.int .i64 1)) 3), 3, none⟩,
 ⟨(some 18), (.move (.tmp 67)), 3, none⟩])))
def k52_l1 : SC := .loop k52_l1b
def k52 : SC :=
 .seq
 (.ops [
 ⟨(some 5), (.box 37 (.tmp 1)), 0, none⟩,
 ⟨(some 8), (.assign (.const (.slice none 0 0))), 26, none⟩])
 (.seq
 (.ops [
 ⟨(some 9), (.assign (.const (.slice none 0 0))), 26, none⟩])
 (.seq
 (.seq
 (.ops [
 ⟨(some 15), (.fieldAddr 37 (.tmp 5) 0), 0, none⟩,
 ⟨(some 16), (.load 35 (.tmp 15)), 35, none⟩,
 ⟨(some 17), (.call ⟨(.builtin .len), #[(.tmp 16)], #[35]⟩), 3, none⟩,
 ⟨(some 18), (.move (.const (.int .i64 0))), 3, none⟩])
 (.block 0
 k52_l1))
 (.seq
 (.ops [
 ⟨(some 68), (.move (.tmp 9)), 26, none⟩,
 ⟨(some 8), (.assign (.tmp 68)), 26, none⟩])
 .ret)))
theorem slim52 : Tryz.f52.body.map (slim lends) = some k52 := by kernel_rfl
theorem ok52 : fnOk Tryz.f52 4 = true := by kernel_rfl
theorem c52 {a l : List D} {r : D × List D} (h : wpD Y.env k52 (fin tys l.length [ResultVar.tmp 8] r) (entry a l)) (ha : a.length = 4) : Y.call 52 a l = some r :=
 call_slim (Y := Y) rfl Tryz.func52 (ha ▸ ok52) slim52 h
def i_stepValues_l0_M (t0_ : List (Int × Int)) (t1_Ends : List (List (Int × Int))) (t1_Ids : List Int) (t1_Inputs : List Int) (t2_ : Int) (t3_ : List Int) (t9_ : List Int) (t18_ : Int) (t12_4 : List Int) (t46_ : Int) (s : St) : Prop := s.v 0 = D.sl 73 (cat2 .i64 .i64 t0_) ∧ s.v 2 = D.int .i64 t2_ ∧ s.v 3 = D.sl 3 (lst (D.int .i64) t3_) ∧ s.v 5 = D.box [D.sl 62 (lst (fun x => D.sl 85 (cat2 .i64 .i64 x)) t1_Ends), D.sl 3 (lst (D.int .i64) t1_Ids), D.sl 3 (lst (D.int .i64) t1_Inputs)] ∧ s.v 9 = D.own 3 (lst (D.int .i64) t9_) ∧ s.v 12 = D.box [D.int .i64 (t3_.getD t18_.toNat default), D.int .i64 (t1_Ids.getD t18_.toNat default), D.int .i64 (t1_Inputs.getD t18_.toNat default), D.int .i64 t2_, D.own 3 (lst (D.int .i64) t12_4)] ∧ s.v 16 = D.sl 62 (lst (fun x => D.sl 85 (cat2 .i64 .i64 x)) t1_Ends) ∧ s.v 17 = D.int .i64 (t1_Ends.length : Int) ∧ s.v 18 = D.int .i64 t18_ ∧ s.v 44 = D.sl 85 (cat2 .i64 .i64 (t1_Ends.getD t18_.toNat default)) ∧ s.v 45 = D.int .i64 ((t1_Ends.getD t18_.toNat default).length : Int) ∧ s.v 46 = D.int .i64 t46_
def i_stepValues_l0_X (t0_ : List (Int × Int)) (t1_Ends : List (List (Int × Int))) (t1_Ids : List Int) (t1_Inputs : List Int) (t2_ : Int) (t3_ : List Int) (t9_ : List Int) (t18_ : Int) (r : (List Int)) (ex : Ex) (s : St) : Prop := ex = .exit 2 ∧ s.v 0 = D.sl 73 (cat2 .i64 .i64 t0_) ∧ s.v 2 = D.int .i64 t2_ ∧ s.v 3 = D.sl 3 (lst (D.int .i64) t3_) ∧ s.v 5 = D.box [D.sl 62 (lst (fun x => D.sl 85 (cat2 .i64 .i64 x)) t1_Ends), D.sl 3 (lst (D.int .i64) t1_Ids), D.sl 3 (lst (D.int .i64) t1_Inputs)] ∧ s.v 9 = D.own 3 (lst (D.int .i64) t9_) ∧ s.v 12 = D.box [D.int .i64 (t3_.getD t18_.toNat default), D.int .i64 (t1_Ids.getD t18_.toNat default), D.int .i64 (t1_Inputs.getD t18_.toNat default), D.int .i64 t2_, D.own 3 (lst (D.int .i64) r)] ∧ s.v 16 = D.sl 62 (lst (fun x => D.sl 85 (cat2 .i64 .i64 x)) t1_Ends) ∧ s.v 17 = D.int .i64 (t1_Ends.length : Int) ∧ s.v 18 = D.int .i64 t18_
theorem i_stepValues_l0_wp (t0_ : List (Int × Int)) (t1_Ends : List (List (Int × Int))) (t1_Ids : List Int) (t1_Inputs : List Int) (t2_ : Int) (t3_ : List Int) (t9_ : List Int) (t18_ : Int) {v : (List Int) × Int} {s : St} {r : (List Int)} (h : i_stepValues_l0 t0_ t1_Ends t1_Ids t1_Inputs t2_ t3_ t9_ t18_ v = some r) (hM : i_stepValues_l0_M t0_ t1_Ends t1_Ids t1_Inputs t2_ t3_ t9_ t18_ v.1 v.2 s) : wpD Y.env k52_l0 (i_stepValues_l0_X t0_ t1_Ends t1_Ids t1_Inputs t2_ t3_ t9_ t18_ r) s := by
 unfold i_stepValues_l0 at h
 refine wd_itO (c := k52_l0b) (fun v => i_stepValues_l0_S t0_ t1_Ends t1_Ids t1_Inputs t2_ t3_ t9_ t18_ v.1 v.2) (fun v s => i_stepValues_l0_M t0_ t1_Ends t1_Ids t1_Inputs t2_ t3_ t9_ t18_ v.1 v.2 s) (i_stepValues_l0_X t0_ t1_Ends t1_Ids t1_Inputs t2_ t3_ t9_ t18_) ?_ h hM
 clear h hM s v r
 intro v s o hM h
 obtain ⟨t12_4, t46_⟩ := v
 dsimp only at h hM
 unfold i_stepValues_l0_S at h
 unfold i_stepValues_l0_M at hM
 obtain ⟨m0, m1, m2, m3, m4, m5, m6, m7, m8, m9, m10, m11⟩ := hM
 unfold k52_l0b
 by_cases e7 : t46_ < ((t1_Ends.getD t18_.toNat default).length : Int)
 ·rw [if_pos e7] at h
  obtain ⟨e8, h⟩ := ckS h
  obtain ⟨e9, h⟩ := ckS h
  obtain ⟨e10, h⟩ := ckS h
  obtain rfl := Option.some.inj h
  simp (maxDischargeDepth := 9) only [↓xpre, xpost, xlst, xc2, xcore, yset, ↓reduceIte, Nat.reduceEqDiff, Nat.reduceLT, Nat.reduceLeDiff, Nat.reduceAdd, Nat.reduceBEq, m0, m1, m2, m3, m4, m5, m6, m7, m8, m9, m10, m11, e7, e8.1, e8.2, e9.1, e9.2, e10, i_stepValues_l0_M, sxN]
 ·rw [if_neg e7] at h
  obtain rfl := Option.some.inj h
  simp (maxDischargeDepth := 9) only [↓xpre, xpost, yset, ↓reduceIte, Nat.reduceEqDiff, m0, m1, m2, m3, m4, m5, m6, m7, m8, m10, m11, e7, i_stepValues_l0_M, i_stepValues_l0_X, sxE]
def i_stepValues_l0_v1_M (t0_ : List (Int × Int)) (t1_Ends : List (List (Int × Int))) (t1_Ids : List Int) (t1_Inputs : List Int) (t2_ : Int) (t3_ : List Int) (t9_ : List Int) (t18_ : Int) (t12_4 : List Int) (t46_ : Int) (s : St) : Prop := s.v 0 = D.sl 73 (cat2 .i64 .i64 t0_) ∧ s.v 2 = D.int .i64 t2_ ∧ s.v 3 = D.sl 3 (lst (D.int .i64) t3_) ∧ s.v 5 = D.box [D.sl 62 (lst (fun x => D.sl 85 (cat2 .i64 .i64 x)) t1_Ends), D.sl 3 (lst (D.int .i64) t1_Ids), D.sl 3 (lst (D.int .i64) t1_Inputs)] ∧ s.v 9 = D.own 3 (lst (D.int .i64) t9_) ∧ s.v 12 = D.box [D.int .i64 (t3_.getD t18_.toNat default), D.int .i64 0, D.int .i64 (t1_Inputs.getD t18_.toNat default), D.int .i64 t2_, D.own 3 (lst (D.int .i64) t12_4)] ∧ s.v 16 = D.sl 62 (lst (fun x => D.sl 85 (cat2 .i64 .i64 x)) t1_Ends) ∧ s.v 17 = D.int .i64 (t1_Ends.length : Int) ∧ s.v 18 = D.int .i64 t18_ ∧ s.v 44 = D.sl 85 (cat2 .i64 .i64 (t1_Ends.getD t18_.toNat default)) ∧ s.v 45 = D.int .i64 ((t1_Ends.getD t18_.toNat default).length : Int) ∧ s.v 46 = D.int .i64 t46_
def i_stepValues_l0_v1_X (t0_ : List (Int × Int)) (t1_Ends : List (List (Int × Int))) (t1_Ids : List Int) (t1_Inputs : List Int) (t2_ : Int) (t3_ : List Int) (t9_ : List Int) (t18_ : Int) (r : (List Int)) (ex : Ex) (s : St) : Prop := ex = .exit 2 ∧ s.v 0 = D.sl 73 (cat2 .i64 .i64 t0_) ∧ s.v 2 = D.int .i64 t2_ ∧ s.v 3 = D.sl 3 (lst (D.int .i64) t3_) ∧ s.v 5 = D.box [D.sl 62 (lst (fun x => D.sl 85 (cat2 .i64 .i64 x)) t1_Ends), D.sl 3 (lst (D.int .i64) t1_Ids), D.sl 3 (lst (D.int .i64) t1_Inputs)] ∧ s.v 9 = D.own 3 (lst (D.int .i64) t9_) ∧ s.v 12 = D.box [D.int .i64 (t3_.getD t18_.toNat default), D.int .i64 0, D.int .i64 (t1_Inputs.getD t18_.toNat default), D.int .i64 t2_, D.own 3 (lst (D.int .i64) r)] ∧ s.v 16 = D.sl 62 (lst (fun x => D.sl 85 (cat2 .i64 .i64 x)) t1_Ends) ∧ s.v 17 = D.int .i64 (t1_Ends.length : Int) ∧ s.v 18 = D.int .i64 t18_
theorem i_stepValues_l0_v1_wp (t0_ : List (Int × Int)) (t1_Ends : List (List (Int × Int))) (t1_Ids : List Int) (t1_Inputs : List Int) (t2_ : Int) (t3_ : List Int) (t9_ : List Int) (t18_ : Int) {v : (List Int) × Int} {s : St} {r : (List Int)} (h : i_stepValues_l0_v1 t0_ t1_Ends t1_Ids t1_Inputs t2_ t3_ t9_ t18_ v = some r) (hM : i_stepValues_l0_v1_M t0_ t1_Ends t1_Ids t1_Inputs t2_ t3_ t9_ t18_ v.1 v.2 s) : wpD Y.env k52_l0 (i_stepValues_l0_v1_X t0_ t1_Ends t1_Ids t1_Inputs t2_ t3_ t9_ t18_ r) s := by
 unfold i_stepValues_l0_v1 at h
 refine wd_itO (c := k52_l0b) (fun v => i_stepValues_l0_v1_S t0_ t1_Ends t1_Ids t1_Inputs t2_ t3_ t9_ t18_ v.1 v.2) (fun v s => i_stepValues_l0_v1_M t0_ t1_Ends t1_Ids t1_Inputs t2_ t3_ t9_ t18_ v.1 v.2 s) (i_stepValues_l0_v1_X t0_ t1_Ends t1_Ids t1_Inputs t2_ t3_ t9_ t18_) ?_ h hM
 clear h hM s v r
 intro v s o hM h
 obtain ⟨t12_4, t46_⟩ := v
 dsimp only at h hM
 unfold i_stepValues_l0_v1_S at h
 unfold i_stepValues_l0_v1_M at hM
 obtain ⟨m0, m1, m2, m3, m4, m5, m6, m7, m8, m9, m10, m11⟩ := hM
 unfold k52_l0b
 by_cases e6 : t46_ < ((t1_Ends.getD t18_.toNat default).length : Int)
 ·rw [if_pos e6] at h
  obtain ⟨e7, h⟩ := ckS h
  obtain ⟨e8, h⟩ := ckS h
  obtain ⟨e9, h⟩ := ckS h
  obtain rfl := Option.some.inj h
  simp (maxDischargeDepth := 9) only [↓xpre, xpost, xlst, xc2, xcore, yset, ↓reduceIte, Nat.reduceEqDiff, Nat.reduceLT, Nat.reduceLeDiff, Nat.reduceAdd, Nat.reduceBEq, m0, m1, m2, m3, m4, m5, m6, m7, m8, m9, m10, m11, e6, e7.1, e7.2, e8.1, e8.2, e9, i_stepValues_l0_v1_M, sxN]
 ·rw [if_neg e6] at h
  obtain rfl := Option.some.inj h
  simp (maxDischargeDepth := 9) only [↓xpre, xpost, yset, ↓reduceIte, Nat.reduceEqDiff, m0, m1, m2, m3, m4, m5, m6, m7, m8, m10, m11, e6, i_stepValues_l0_v1_M, i_stepValues_l0_v1_X, sxE]
def i_stepValues_l1_M (t0_ : List (Int × Int)) (t1_Ends : List (List (Int × Int))) (t1_Ids : List Int) (t1_Inputs : List Int) (t2_ : Int) (t3_ : List Int) (t9_ : List Int) (t18_ : Int) (s : St) : Prop := s.v 0 = D.sl 73 (cat2 .i64 .i64 t0_) ∧ s.v 2 = D.int .i64 t2_ ∧ s.v 3 = D.sl 3 (lst (D.int .i64) t3_) ∧ s.v 5 = D.box [D.sl 62 (lst (fun x => D.sl 85 (cat2 .i64 .i64 x)) t1_Ends), D.sl 3 (lst (D.int .i64) t1_Ids), D.sl 3 (lst (D.int .i64) t1_Inputs)] ∧ s.v 9 = D.own 3 (lst (D.int .i64) t9_) ∧ s.v 16 = D.sl 62 (lst (fun x => D.sl 85 (cat2 .i64 .i64 x)) t1_Ends) ∧ s.v 17 = D.int .i64 (t1_Ends.length : Int) ∧ s.v 18 = D.int .i64 t18_
def i_stepValues_l1_X (t0_ : List (Int × Int)) (t1_Ends : List (List (Int × Int))) (t1_Ids : List Int) (t1_Inputs : List Int) (t2_ : Int) (t3_ : List Int) (r : (List Int)) (ex : Ex) (s : St) : Prop := ex = .exit 0 ∧ s.v 9 = D.own 3 (lst (D.int .i64) r)
theorem i_stepValues_l1_wp (t0_ : List (Int × Int)) (t1_Ends : List (List (Int × Int))) (t1_Ids : List Int) (t1_Inputs : List Int) (t2_ : Int) (t3_ : List Int) {v : (List Int) × Int} {s : St} {r : (List Int)} (h : i_stepValues_l1 t0_ t1_Ends t1_Ids t1_Inputs t2_ t3_ v = some r) (hM : i_stepValues_l1_M t0_ t1_Ends t1_Ids t1_Inputs t2_ t3_ v.1 v.2 s) : wpD Y.env k52_l1 (i_stepValues_l1_X t0_ t1_Ends t1_Ids t1_Inputs t2_ t3_ r) s := by
 unfold i_stepValues_l1 at h
 refine wd_itO (c := k52_l1b) (fun v => i_stepValues_l1_S t0_ t1_Ends t1_Ids t1_Inputs t2_ t3_ v.1 v.2) (fun v s => i_stepValues_l1_M t0_ t1_Ends t1_Ids t1_Inputs t2_ t3_ v.1 v.2 s) (i_stepValues_l1_X t0_ t1_Ends t1_Ids t1_Inputs t2_ t3_) ?_ h hM
 clear h hM s v r
 intro v s o hM h
 obtain ⟨t9_, t18_⟩ := v
 dsimp only at h hM
 unfold i_stepValues_l1_S at h
 unfold i_stepValues_l1_M at hM
 obtain ⟨m0, m1, m2, m3, m4, m5, m6, m7⟩ := hM
 unfold k52_l1b
 by_cases e1 : t18_ < (t1_Ends.length : Int)
 ·rw [if_pos e1] at h
  obtain ⟨e2, h⟩ := ckS h
  obtain ⟨e3, h⟩ := ckS h
  obtain ⟨e4, h⟩ := ckS h
  by_cases e5 : 0 < (t1_Ids.length : Int)
  ·rw [if_pos e5] at h
   obtain ⟨e6, h⟩ := ckS h
   obtain ⟨r8_, hl8, h⟩ := bindS h
   try dsimp only at h
   simp (maxDischargeDepth := 9) only [↓xpre, xpost, xlst, xc2, xcore, yset, ↓reduceIte, Nat.reduceEqDiff, Nat.reduceLT, Nat.reduceLeDiff, Nat.reduceAdd, Nat.reduceBEq, m1, m2, m3, m5, m6, m7, e1, e2.1, e2.2, e3.2, e4.2, e5, e6.2]
   refine wd_mono (i_stepValues_l0_wp t0_ t1_Ends t1_Ids t1_Inputs t2_ t3_ t9_ t18_ hl8 ?_) ?_
   ·simp (maxDischargeDepth := 9) only [xpost, ↓reduceIte, Nat.reduceEqDiff, m0, m1, m2, m3, m4, m5, m6, m7, i_stepValues_l0_M] <;> (repeat' apply And.intro) <;> first | rfl | exact ⟨_, rfl⟩ | simp [lst, cat2_nil]
   ·intro ex8 s8 hX8
    unfold i_stepValues_l0_X at hX8
    obtain ⟨rfl, n8_0, n8_1, n8_2, n8_3, n8_4, n8_5, n8_6, n8_7, n8_8⟩ := hX8
    obtain ⟨r9_, hl9, h⟩ := bindS h
    try dsimp only at h
    have c9 := i_surroundings_eval_call (t3_.getD t18_.toNat default) (t1_Ids.getD t18_.toNat default) (t1_Inputs.getD t18_.toNat default) t2_ r8_ t0_ hl9
    obtain ⟨e10, h⟩ := ckS h
    obtain rfl := Option.some.inj h
    simp (maxDischargeDepth := 9) only [↓xpre, xpost, xlst, xcore, yset, ↓reduceIte, Nat.reduceEqDiff, Nat.reduceLeDiff, Nat.reduceAdd, n8_0, n8_1, n8_2, n8_3, n8_4, n8_5, n8_6, n8_7, n8_8, c9, e10, i_stepValues_l1_M, sxN]
  ·rw [if_neg e5] at h
   obtain ⟨r7_, hl7, h⟩ := bindS h
   try dsimp only at h
   simp (maxDischargeDepth := 9) only [↓xpre, xpost, xlst, xc2, xcore, yset, ↓reduceIte, Nat.reduceEqDiff, Nat.reduceLT, Nat.reduceLeDiff, Nat.reduceAdd, Nat.reduceBEq, m1, m2, m3, m5, m6, m7, e1, e2.1, e2.2, e3.2, e4.2, e5]
   refine wd_mono (i_stepValues_l0_v1_wp t0_ t1_Ends t1_Ids t1_Inputs t2_ t3_ t9_ t18_ hl7 ?_) ?_
   ·simp (maxDischargeDepth := 9) only [xpost, ↓reduceIte, Nat.reduceEqDiff, m0, m1, m2, m3, m4, m5, m6, m7, i_stepValues_l0_v1_M] <;> (repeat' apply And.intro) <;> first | rfl | exact ⟨_, rfl⟩ | simp [lst, cat2_nil]
   ·intro ex7 s7 hX7
    unfold i_stepValues_l0_v1_X at hX7
    obtain ⟨rfl, n7_0, n7_1, n7_2, n7_3, n7_4, n7_5, n7_6, n7_7, n7_8⟩ := hX7
    obtain ⟨r8_, hl8, h⟩ := bindS h
    try dsimp only at h
    have c8 := i_surroundings_eval_call (t3_.getD t18_.toNat default) (0 : Int) (t1_Inputs.getD t18_.toNat default) t2_ r7_ t0_ hl8
    obtain ⟨e9, h⟩ := ckS h
    obtain rfl := Option.some.inj h
    simp (maxDischargeDepth := 9) only [↓xpre, xpost, xlst, xcore, yset, ↓reduceIte, Nat.reduceEqDiff, Nat.reduceLeDiff, Nat.reduceAdd, n7_0, n7_1, n7_2, n7_3, n7_4, n7_5, n7_6, n7_7, n7_8, c8, e9, i_stepValues_l1_M, sxN]
 ·rw [if_neg e1] at h
  obtain rfl := Option.some.inj h
  simp (maxDischargeDepth := 9) only [↓xpre, xpost, yset, ↓reduceIte, Nat.reduceEqDiff, m4, m6, m7, e1, i_stepValues_l1_M, i_stepValues_l1_X, sxE]
theorem i_stepValues_call (t0_ : List (Int × Int)) (t1_Ends : List (List (Int × Int))) (t1_Ids : List Int) (t1_Inputs : List Int) (t2_ : Int) (t3_ : List Int) {r : (List Int)} (h : i_stepValues t0_ t1_Ends t1_Ids t1_Inputs t2_ t3_ = some r) : Y.call 52 [D.sl 73 (cat2 .i64 .i64 t0_), D.agg [D.sl 62 (lst (fun x => D.sl 85 (cat2 .i64 .i64 x)) t1_Ends), D.sl 3 (lst (D.int .i64) t1_Ids), D.sl 3 (lst (D.int .i64) t1_Inputs)], D.int .i64 t2_, D.sl 3 (lst (D.int .i64) t3_)] [] = some (D.own 3 (lst (D.int .i64) r), []) := by
 refine c52 ?_ rfl
 unfold k52
 unfold i_stepValues at h
 obtain ⟨r2_, hl2, h⟩ := bindS h
 try dsimp only at h
 simp (maxDischargeDepth := 9) only [↓xpre, xpost, xlst, xcore, yset, ↓reduceIte, Nat.reduceEqDiff, Nat.reduceLT, Nat.reduceAdd]
 refine wd_mono (i_stepValues_l1_wp t0_ t1_Ends t1_Ids t1_Inputs t2_ t3_ hl2 ?_) ?_
 ·simp (maxDischargeDepth := 9) only [xpost, xcore, ↓reduceIte, Nat.reduceEqDiff, Nat.reduceLT, i_stepValues_l1_M] <;> (repeat' apply And.intro) <;> first | rfl | exact ⟨_, rfl⟩ | simp [lst, cat2_nil]
 ·intro ex2 s2 hX2
  unfold i_stepValues_l1_X at hX2
  obtain ⟨rfl, n2_0⟩ := hX2
  obtain rfl := Option.some.inj h
  simp (maxDischargeDepth := 9) only [↓xpre, xpost, xlst, xcore, ↓reduceIte, Nat.reduceEqDiff, n2_0]

noncomputable def i_IsValueProgram_l0_S (prog : List (Int × Int)) (height : Int) (t13_ : Int) : Option ((Int × Int) ⊕ (Unit ⊕ Int)) :=
 if t13_ < (prog.length : Int) then
  ck (0 ≤ t13_ ∧ t13_.toNat < prog.length) <|
  if (fstD prog t13_.toNat) = 1 then
   if (inR (fstD prog t13_.toNat) (1 : Int) (19 : Int)) = true then
    if (inR (sndD prog t13_.toNat) (0 : Int) (1000000 : Int)) = true then
     (i_ValueOp_needs (fstD prog t13_.toNat) (sndD prog t13_.toNat)).bind fun r10_ =>
     if height < r10_ then
      some (Sum.inr (Sum.inl ()))
     else
      some (Sum.inl (IntKind.i64.wrap (height + (IntKind.i64.wrap (1 - r10_))), IntKind.i64.wrap (t13_ + 1)))
    else
     some (Sum.inr (Sum.inl ()))
   else
    some (Sum.inr (Sum.inl ()))
  else
   if (inR (fstD prog t13_.toNat) (1 : Int) (19 : Int)) = true then
    if (inR (sndD prog t13_.toNat) (0 : Int) (0 : Int)) = true then
     (i_ValueOp_needs (fstD prog t13_.toNat) (sndD prog t13_.toNat)).bind fun r10_ =>
     if height < r10_ then
      some (Sum.inr (Sum.inl ()))
     else
      some (Sum.inl (IntKind.i64.wrap (height + (IntKind.i64.wrap (1 - r10_))), IntKind.i64.wrap (t13_ + 1)))
    else
     some (Sum.inr (Sum.inl ()))
   else
    some (Sum.inr (Sum.inl ()))
 else
  some (Sum.inr (Sum.inr height))
noncomputable def i_IsValueProgram_l0 (prog : List (Int × Int)) (v : Int × Int) : Option (Unit ⊕ Int) := itO (fun v => i_IsValueProgram_l0_S prog v.1 v.2) v
noncomputable def i_IsValueProgram (prog : List (Int × Int)) : Option (Bool) :=
 if (inR (prog.length : Int) (1 : Int) (40 : Int)) = true then
  (i_IsValueProgram_l0 prog (0, 0)).bind fun r4_ =>
  match r4_ with
  | .inl q4_ =>
   some false
  | .inr q4_ =>
   some (decide (q4_ = 1))
 else
  some false
/-- impl.IsValueProgram -/
def k75_l0b : SC :=
 .seq
 (.ops [
 ⟨(some 14), (.binOp .lss 3 (.tmp 13) (.tmp 12) 3), 0, none⟩])
 (.seq
 (.cond (.tmp 14)
 .skip
 (.exit 0))
 (.seq
 (.block 1
 (.seq
 (.ops [
 ⟨(some 15), (.indexAddr 49 (.tmp 11) (.tmp 13)), 0, none⟩,
 ⟨(some 16), (.load 73 (.tmp 15)), 73, none⟩,
 ⟨(some 5), (.alloc 73), 0, none⟩,
 ⟨none, (.store 73 (.tmp 5) (.tmp 16)), 0, none⟩])
 (.seq
 (.ops [
 ⟨(some 6), (.assign (.const (.int .i64 0))), 3, none⟩])
 (.seq
 (.seq
 (.ops [
 ⟨(some 17), (.fieldAddr 73 (.tmp 5) 0), 0, none⟩,
 ⟨(some 18), (.load 3 (.tmp 17)), 3, none⟩,
 ⟨(some 19), (.binOp .eql 3 (.tmp 18) (.const (.int .i64 1)) 3), 4, none⟩])
 (.cond (.tmp 19)
 (.ops [
 ⟨(some 6), (.assign (.const (.int .i64 1000000))), 3, none⟩])
 .skip))
 (.seq
 (.seq
 (.ops [
 ⟨(some 20), (.fieldAddr 73 (.tmp 5) 0), 0, none⟩,
 ⟨(some 21), (.load 3 (.tmp 20)), 3, none⟩,
 ⟨(some 22), (.call ⟨(.value (.func 50)), #[(.tmp 21), (.const (.int .i64 1)), (.const (.int .i64 19))], #[3, 3, 3]⟩), 4, none⟩,
 ⟨(some 23), (.unOp .not 4 (.tmp 22)), 4, none⟩,
 ⟨(some 24), (.move (.tmp 23)), 4, none⟩,
 ⟨(some 25), (.fieldAddr 73 (.tmp 5) 1), 0, (some (some 24, false))⟩,
 ⟨(some 26), (.load 3 (.tmp 25)), 3, (some (some 24, false))⟩,
 ⟨(some 27), (.move (.tmp 6)), 3, (some (some 24, false))⟩,
 ⟨(some 28), (.call ⟨(.value (.func 50)), #[(.tmp 26), (.const (.int .i64 0)), (.tmp 27)], #[3, 3, 3]⟩), 4, (some (some 24, false))⟩,
 ⟨(some 29), (.unOp .not 4 (.tmp 28)), 4, (some (some 24, false))⟩,
 ⟨(some 30), (.pick (.tmp 24) (.const (.bool true)) (.tmp 29)), 4, none⟩,
 ⟨(some 31), (.move (.tmp 30)), 4, none⟩,
 ⟨(some 32), (.move (.tmp 3)), 3, (some (some 31, false))⟩,
 ⟨(some 33), (.load 73 (.tmp 5)), 73, (some (some 31, false))⟩,
 ⟨(some 34), (.call ⟨(.value (.func 94)), #[(.tmp 33)], #[73]⟩), 3, (some (some 31, false))⟩,
 ⟨(some 35), (.binOp .lss 3 (.tmp 32) (.tmp 34) 3), 4, (some (some 31, false))⟩,
 ⟨(some 36), (.pick (.tmp 31) (.const (.bool true)) (.tmp 35)), 4, none⟩])
 (.cond (.tmp 36)
 (.seq
 (.ops [
 ⟨(some 2), (.assign (.const (.bool false))), 4, none⟩])
 .ret)
 .skip))
 (.ops [
 ⟨(some 37), (.move (.tmp 3)), 3, none⟩,
 ⟨(some 38), (.load 73 (.tmp 5)), 73, none⟩,
 ⟨(some 39), (.call ⟨(.value (.func 94)), #[(.tmp 38)], #[73]⟩), 3, none⟩,
 ⟨(some 40), (.binOp .sub 3 (.const (.int .i64 1)) (.tmp 39) 3), 3, none⟩,
 ⟨(some 41), (.binOp .add 3 (.tmp 37) (.tmp 40) 3), 3, none⟩,
 ⟨(some 3), (.assign (.tmp 41)), 3, none⟩]))))))
 (.ops [
 ⟨(some 42), (.binOp .add 3 (.tmp 13) (.const (.int .i64 1)) 3), 3, none⟩,
 ⟨(some 13), (.move (.tmp 42)), 3, none⟩])))
def k75_l0 : SC := .loop k75_l0b
def k75 : SC :=
 .seq
 (.ops [
 ⟨(some 2), (.assign (.const (.bool false))), 4, none⟩])
 (.seq
 (.seq
 (.ops [
 ⟨(some 7), (.move (.tmp 0)), 49, none⟩,
 ⟨(some 8), (.call ⟨(.builtin .len), #[(.tmp 7)], #[49]⟩), 3, none⟩,
 ⟨(some 9), (.call ⟨(.value (.func 50)), #[(.tmp 8), (.const (.int .i64 1)), (.const (.int .i64 40))], #[3, 3, 3]⟩), 4, none⟩,
 ⟨(some 10), (.unOp .not 4 (.tmp 9)), 4, none⟩])
 (.cond (.tmp 10)
 (.seq
 (.ops [
 ⟨(some 2), (.assign (.const (.bool false))), 4, none⟩])
 .ret)
 .skip))
 (.seq
 (.ops [
 ⟨(some 3), (.assign (.const (.int .i64 0))), 3, none⟩])
 (.seq
 (.seq
 (.ops [
 ⟨(some 11), (.move (.tmp 0)), 49, none⟩,
 ⟨(some 12), (.call ⟨(.builtin .len), #[(.tmp 11)], #[49]⟩), 3, none⟩,
 ⟨(some 13), (.move (.const (.int .i64 0))), 3, none⟩])
 (.block 0
 k75_l0))
 (.seq
 (.ops [
 ⟨(some 43), (.move (.tmp 3)), 3, none⟩,
 ⟨(some 44), (.binOp .eql 3 (.tmp 43) (.const (.int .i64 1)) 3), 4, none⟩,
 ⟨(some 2), (.assign (.tmp 44)), 4, none⟩])
 .ret))))
theorem slim75 : Tryz.f75.body.map (slim lends) = some k75 := by kernel_rfl
theorem ok75 : fnOk Tryz.f75 1 = true := by kernel_rfl
theorem c75 {a l : List D} {r : D × List D} (h : wpD Y.env k75 (fin tys l.length [ResultVar.tmp 2] r) (entry a l)) (ha : a.length = 1) : Y.call 75 a l = some r :=
 call_slim (Y := Y) rfl Tryz.func75 (ha ▸ ok75) slim75 h
def i_IsValueProgram_l0_M (prog : List (Int × Int)) (height : Int) (t13_ : Int) (s : St) : Prop := s.v 3 = D.int .i64 height ∧ s.v 11 = D.sl 73 (cat2 .i64 .i64 prog) ∧ s.v 12 = D.int .i64 (prog.length : Int) ∧ s.v 13 = D.int .i64 t13_
def i_IsValueProgram_l0_X (prog : List (Int × Int)) (r : Unit ⊕ Int) (ex : Ex) (s : St) : Prop := match r with
 | .inl q => ex = .ret ∧ s.v 2 = D.bool false
 | .inr q => ex = .exit 0 ∧ s.v 3 = D.int .i64 q
theorem i_IsValueProgram_l0_wp (prog : List (Int × Int)) {v : Int × Int} {s : St} {r : Unit ⊕ Int} (h : i_IsValueProgram_l0 prog v = some r) (hM : i_IsValueProgram_l0_M prog v.1 v.2 s) : wpD Y.env k75_l0 (i_IsValueProgram_l0_X prog r) s := by
 unfold i_IsValueProgram_l0 at h
 refine wd_itO (c := k75_l0b) (fun v => i_IsValueProgram_l0_S prog v.1 v.2) (fun v s => i_IsValueProgram_l0_M prog v.1 v.2 s) (i_IsValueProgram_l0_X prog) ?_ h hM
 clear h hM s v r
 intro v s o hM h
 obtain ⟨height, t13_⟩ := v
 dsimp only at h hM
 unfold i_IsValueProgram_l0_S at h
 unfold i_IsValueProgram_l0_M at hM
 obtain ⟨m0, m1, m2, m3⟩ := hM
 unfold k75_l0b
 by_cases e3 : t13_ < (prog.length : Int)
 ·rw [if_pos e3] at h
  obtain ⟨e4, h⟩ := ckS h
  by_cases e5 : (fstD prog t13_.toNat) = 1
  ·rw [if_pos e5] at h
   have c6 := i_within_cl (fstD prog t13_.toNat) (1 : Int) (19 : Int)
   by_cases e7 : (inR (fstD prog t13_.toNat) (1 : Int) (19 : Int)) = true
   ·rw [if_pos e7] at h
    have c8 := i_within_cl (sndD prog t13_.toNat) (0 : Int) (1000000 : Int)
    by_cases e9 : (inR (sndD prog t13_.toNat) (0 : Int) (1000000 : Int)) = true
    ·rw [if_pos e9] at h
     obtain ⟨r10_, hl10, h⟩ := bindS h
     try dsimp only at h
     have c10 := i_ValueOp_needs_call (fstD prog t13_.toNat) (sndD prog t13_.toNat) hl10
     by_cases e11 : height < r10_
     ·rw [if_pos e11] at h
      obtain rfl := Option.some.inj h
      simp (maxDischargeDepth := 9) only [↓xpre, xpost, xc2, xcore, yset, ↓reduceIte, Nat.reduceEqDiff, Nat.reduceLT, Nat.reduceAdd, m0, m1, m2, m3, e3, e4.1, e4.2, decide_eq_true e5, c6, e7, c8, e9, c10, e11, i_IsValueProgram_l0_M, i_IsValueProgram_l0_X, sxR]
     ·rw [if_neg e11] at h
      obtain rfl := Option.some.inj h
      simp (maxDischargeDepth := 9) only [↓xpre, xpost, xc2, xcore, yset, ↓reduceIte, Nat.reduceEqDiff, Nat.reduceLT, Nat.reduceAdd, m0, m1, m2, m3, e3, e4.1, e4.2, decide_eq_true e5, c6, e7, c8, e9, c10, e11, i_IsValueProgram_l0_M, sxN]
    ·rw [if_neg e9] at h
     have e9f : (inR (sndD prog t13_.toNat) (0 : Int) (1000000 : Int)) = false := Bool.eq_false_iff.mpr e9
     obtain rfl := Option.some.inj h
     simp (maxDischargeDepth := 9) only [↓xpre, xpost, xc2, xcore, yset, ↓reduceIte, Nat.reduceEqDiff, Nat.reduceLT, Nat.reduceAdd, m1, m2, m3, e3, e4.1, e4.2, decide_eq_true e5, c6, e7, c8, e9f, i_IsValueProgram_l0_M, i_IsValueProgram_l0_X, sxR]
   ·rw [if_neg e7] at h
    have e7f : (inR (fstD prog t13_.toNat) (1 : Int) (19 : Int)) = false := Bool.eq_false_iff.mpr e7
    obtain rfl := Option.some.inj h
    simp (maxDischargeDepth := 9) only [↓xpre, xpost, xc2, xcore, yset, ↓reduceIte, Nat.reduceEqDiff, Nat.reduceLT, Nat.reduceAdd, m1, m2, m3, e3, e4.1, e4.2, decide_eq_true e5, c6, e7f, i_IsValueProgram_l0_M, i_IsValueProgram_l0_X, sxR]
  ·rw [if_neg e5] at h
   have c6 := i_within_cl (fstD prog t13_.toNat) (1 : Int) (19 : Int)
   by_cases e7 : (inR (fstD prog t13_.toNat) (1 : Int) (19 : Int)) = true
   ·rw [if_pos e7] at h
    have c8 := i_within_cl (sndD prog t13_.toNat) (0 : Int) (0 : Int)
    by_cases e9 : (inR (sndD prog t13_.toNat) (0 : Int) (0 : Int)) = true
    ·rw [if_pos e9] at h
     obtain ⟨r10_, hl10, h⟩ := bindS h
     try dsimp only at h
     have c10 := i_ValueOp_needs_call (fstD prog t13_.toNat) (sndD prog t13_.toNat) hl10
     by_cases e11 : height < r10_
     ·rw [if_pos e11] at h
      obtain rfl := Option.some.inj h
      simp (maxDischargeDepth := 9) only [↓xpre, xpost, xc2, xcore, yset, ↓reduceIte, Nat.reduceEqDiff, Nat.reduceLT, Nat.reduceAdd, m0, m1, m2, m3, e3, e4.1, e4.2, e5, c6, e7, c8, e9, c10, e11, i_IsValueProgram_l0_M, i_IsValueProgram_l0_X, sxR]
     ·rw [if_neg e11] at h
      obtain rfl := Option.some.inj h
      simp (maxDischargeDepth := 9) only [↓xpre, xpost, xc2, xcore, yset, ↓reduceIte, Nat.reduceEqDiff, Nat.reduceLT, Nat.reduceAdd, m0, m1, m2, m3, e3, e4.1, e4.2, e5, c6, e7, c8, e9, c10, e11, i_IsValueProgram_l0_M, sxN]
    ·rw [if_neg e9] at h
     have e9f : (inR (sndD prog t13_.toNat) (0 : Int) (0 : Int)) = false := Bool.eq_false_iff.mpr e9
     obtain rfl := Option.some.inj h
     simp (maxDischargeDepth := 9) only [↓xpre, xpost, xc2, xcore, yset, ↓reduceIte, Nat.reduceEqDiff, Nat.reduceLT, Nat.reduceAdd, m1, m2, m3, e3, e4.1, e4.2, e5, c6, e7, c8, e9f, i_IsValueProgram_l0_M, i_IsValueProgram_l0_X, sxR]
   ·rw [if_neg e7] at h
    have e7f : (inR (fstD prog t13_.toNat) (1 : Int) (19 : Int)) = false := Bool.eq_false_iff.mpr e7
    obtain rfl := Option.some.inj h
    simp (maxDischargeDepth := 9) only [↓xpre, xpost, xc2, xcore, yset, ↓reduceIte, Nat.reduceEqDiff, Nat.reduceLT, Nat.reduceAdd, m1, m2, m3, e3, e4.1, e4.2, e5, c6, e7f, i_IsValueProgram_l0_M, i_IsValueProgram_l0_X, sxR]
 ·rw [if_neg e3] at h
  obtain rfl := Option.some.inj h
  simp (maxDischargeDepth := 9) only [↓xpre, xpost, yset, ↓reduceIte, Nat.reduceEqDiff, m0, m2, m3, e3, i_IsValueProgram_l0_M, i_IsValueProgram_l0_X, sxE]
theorem i_IsValueProgram_call (prog : List (Int × Int)) {r : Bool} (h : i_IsValueProgram prog = some r) : Y.call 75 [D.sl 73 (cat2 .i64 .i64 prog)] [] = some (D.bool r, []) := by
 refine c75 ?_ rfl
 unfold k75
 unfold i_IsValueProgram at h
 have c1 := i_within_cl (prog.length : Int) (1 : Int) (40 : Int)
 by_cases e2 : (inR (prog.length : Int) (1 : Int) (40 : Int)) = true
 ·rw [if_pos e2] at h
  obtain ⟨r4_, hl4, h⟩ := bindS h
  try dsimp only at h
  simp (maxDischargeDepth := 9) only [↓xpre, xpost, xc2, xcore, yset, ↓reduceIte, Nat.reduceEqDiff, Nat.reduceLT, Nat.reduceAdd, c1, e2]
  refine wd_mono (i_IsValueProgram_l0_wp prog hl4 ?_) ?_
  ·simp (maxDischargeDepth := 9) only [xpost, ↓reduceIte, Nat.reduceEqDiff, i_IsValueProgram_l0_M]
  ·intro ex4 s4 hX4
   rcases r4_ with q4_ | q4_
   ·unfold i_IsValueProgram_l0_X at hX4
    dsimp only at hX4 h
    obtain ⟨rfl, n4_0⟩ := hX4
    obtain rfl := Option.some.inj h
    simp (maxDischargeDepth := 9) only [↓xpre, xpost, xcore, ↓reduceIte, n4_0]
   ·unfold i_IsValueProgram_l0_X at hX4
    dsimp only at hX4 h
    obtain ⟨rfl, n4_0⟩ := hX4
    obtain rfl := Option.some.inj h
    simp (maxDischargeDepth := 9) only [↓xpre, xpost, xcore, yset, ↓reduceIte, Nat.reduceEqDiff, n4_0]
 ·rw [if_neg e2] at h
  have e2f : (inR (prog.length : Int) (1 : Int) (40 : Int)) = false := Bool.eq_false_iff.mpr e2
  obtain rfl := Option.some.inj h
  simp (maxDischargeDepth := 9) only [↓xpre, xpost, xc2, xcore, yset, ↓reduceIte, Nat.reduceEqDiff, Nat.reduceLT, Nat.reduceAdd, c1, e2f]

noncomputable def i_valuesOk (prog : List (Int × Int)) (n_Ends : List (List (Int × Int))) (n_Ids : List Int) (n_Inputs : List Int) (values : List Int) : Option (Bool) :=
 (i_IsValueProgram prog).bind fun r1_ =>
 if r1_ = true then
  ck (ShortE n_Ends) <|
  ck (n_Ids.length < 1099511627776) <|
  ck (n_Inputs.length < 1099511627776) <|
  if (isNet n_Ends n_Ids n_Inputs) = true then
   if (values.length : Int) = (n_Ends.length : Int) then
    ck (values.length < 1099511627776) <|
    some (allIn values (-1000000 : Int) (1000000 : Int))
   else
    some false
  else
   some false
 else
  some false
/-- impl.valuesOk -/
def k49 : SC :=
 .seq
 (.ops [
 ⟨(some 4), (.box 37 (.tmp 1)), 0, none⟩,
 ⟨(some 6), (.assign (.const (.bool false))), 4, none⟩])
 (.seq
 (.ops [
 ⟨(some 7), (.move (.tmp 0)), 49, none⟩,
 ⟨(some 8), (.call ⟨(.value (.func 75)), #[(.tmp 7)], #[49]⟩), 4, none⟩,
 ⟨(some 9), (.move (.tmp 8)), 4, none⟩,
 ⟨(some 10), (.load 37 (.tmp 4)), 37, (some (some 9, true))⟩,
 ⟨(some 11), (.call ⟨(.value (.func 40)), #[(.tmp 10)], #[37]⟩), 4, (some (some 9, true))⟩,
 ⟨(some 12), (.pick (.tmp 9) (.tmp 11) (.const (.bool false))), 4, none⟩,
 ⟨(some 13), (.move (.tmp 12)), 4, none⟩,
 ⟨(some 14), (.move (.tmp 2)), 26, (some (some 13, true))⟩,
 ⟨(some 15), (.call ⟨(.builtin .len), #[(.tmp 14)], #[26]⟩), 3, (some (some 13, true))⟩,
 ⟨(some 16), (.fieldAddr 37 (.tmp 4) 0), 0, (some (some 13, true))⟩,
 ⟨(some 17), (.load 35 (.tmp 16)), 35, (some (some 13, true))⟩,
 ⟨(some 18), (.call ⟨(.builtin .len), #[(.tmp 17)], #[35]⟩), 3, (some (some 13, true))⟩,
 ⟨(some 19), (.binOp .eql 3 (.tmp 15) (.tmp 18) 3), 4, (some (some 13, true))⟩,
 ⟨(some 20), (.pick (.tmp 13) (.tmp 19) (.const (.bool false))), 4, none⟩,
 ⟨(some 21), (.move (.tmp 20)), 4, none⟩,
 ⟨(some 22), (.move (.tmp 2)), 26, (some (some 21, true))⟩,
 ⟨(some 23), (.call ⟨(.value (.func 76)), #[(.tmp 22), (.const (.int .i64 (-1000000))), (.const (.int .i64 1000000))], #[26, 3, 3]⟩), 4, (some (some 21, true))⟩,
 ⟨(some 24), (.pick (.tmp 21) (.tmp 23) (.const (.bool false))), 4, none⟩,
 ⟨(some 6), (.assign (.tmp 24)), 4, none⟩])
 .ret)
theorem slim49 : Tryz.f49.body.map (slim lends) = some k49 := by kernel_rfl
theorem ok49 : fnOk Tryz.f49 3 = true := by kernel_rfl
theorem c49 {a l : List D} {r : D × List D} (h : wpD Y.env k49 (fin tys l.length [ResultVar.tmp 6] r) (entry a l)) (ha : a.length = 3) : Y.call 49 a l = some r :=
 call_slim (Y := Y) rfl Tryz.func49 (ha ▸ ok49) slim49 h
theorem i_valuesOk_call (prog : List (Int × Int)) (n_Ends : List (List (Int × Int))) (n_Ids : List Int) (n_Inputs : List Int) (values : List Int) {r : Bool} (h : i_valuesOk prog n_Ends n_Ids n_Inputs values = some r) : Y.call 49 [D.sl 73 (cat2 .i64 .i64 prog), D.agg [D.sl 62 (lst (fun x => D.sl 85 (cat2 .i64 .i64 x)) n_Ends), D.sl 3 (lst (D.int .i64) n_Ids), D.sl 3 (lst (D.int .i64) n_Inputs)], D.sl 3 (lst (D.int .i64) values)] [] = some (D.bool r, []) := by
 refine c49 ?_ rfl
 unfold k49
 unfold i_valuesOk at h
 obtain ⟨r1_, hl1, h⟩ := bindS h
 try dsimp only at h
 have c1 := i_IsValueProgram_call prog hl1
 by_cases e2 : r1_ = true
 ·rw [if_pos e2] at h
  obtain ⟨e3, h⟩ := ckS h
  obtain ⟨e4, h⟩ := ckS h
  obtain ⟨e5, h⟩ := ckS h
  have c6 := i_IsNetwork_cl n_Ends n_Ids n_Inputs e3 e4 e5
  by_cases e7 : (isNet n_Ends n_Ids n_Inputs) = true
  ·rw [if_pos e7] at h
   by_cases e8 : (values.length : Int) = (n_Ends.length : Int)
   ·rw [if_pos e8] at h
    obtain ⟨e9, h⟩ := ckS h
    have c10 := i_allWithin_cl values (-1000000 : Int) (1000000 : Int) e9
    obtain rfl := Option.some.inj h
    simp (maxDischargeDepth := 9) only [↓xpre, xpost, xlst, xcore, yset, ↓reduceIte, Nat.reduceEqDiff, Nat.reduceLT, Nat.reduceAdd, Int.reduceNeg, c1, e2, c6, e7, decide_eq_true e8, c10]
   ·rw [if_neg e8] at h
    obtain rfl := Option.some.inj h
    simp (maxDischargeDepth := 9) only [↓xpre, xpost, xlst, xcore, yset, ↓reduceIte, Nat.reduceEqDiff, Nat.reduceLT, Nat.reduceAdd, Int.reduceNeg, c1, e2, c6, e7, e8]
  ·rw [if_neg e7] at h
   have e7f : (isNet n_Ends n_Ids n_Inputs) = false := Bool.eq_false_iff.mpr e7
   obtain rfl := Option.some.inj h
   simp (maxDischargeDepth := 9) only [↓xpre, xpost, xcore, yset, ↓reduceIte, Nat.reduceEqDiff, Nat.reduceLT, Nat.reduceAdd, Int.reduceNeg, c1, e2, c6, e7f]
 ·rw [if_neg e2] at h
  have e2f : r1_ = false := Bool.eq_false_iff.mpr e2
  obtain rfl := Option.some.inj h
  simp (maxDischargeDepth := 9) only [↓xpre, xpost, xcore, yset, ↓reduceIte, Nat.reduceEqDiff, Nat.reduceLT, Nat.reduceAdd, Int.reduceNeg, c1, e2f]

noncomputable def s_neNear_l0_S (n_Ends : List (List (Int × Int))) (v_ : Int) (out : List Int) (t14_ : Int) : Option (((List Int) × Int) ⊕ ((List Int))) :=
 if t14_ < ((n_Ends.getD v_.toNat default).length : Int) then
  ck (0 ≤ t14_ ∧ t14_.toNat < (n_Ends.getD v_.toNat default).length) <|
  ck (out.length + 1 < 1099511627776) <|
  some (Sum.inl ((out ++ [(fstD (n_Ends.getD v_.toNat default) t14_.toNat)]), IntKind.i64.wrap (t14_ + 1)))
 else
  some (Sum.inr out)
noncomputable def s_neNear_l0 (n_Ends : List (List (Int × Int))) (v_ : Int) (v : (List Int) × Int) : Option ((List Int)) := itO (fun v => s_neNear_l0_S n_Ends v_ v.1 v.2) v
noncomputable def s_neNear (n_Ends : List (List (Int × Int))) (n_Ids : List Int) (n_Inputs : List Int) (v_ : Int) : Option ((List Int)) :=
 ck (0 ≤ v_ ∧ v_.toNat < n_Ends.length) <|
 (s_neNear_l0 n_Ends v_ ([], 0)).bind fun r3_ =>
 some r3_
/-- spec.neNear -/
def k73_l0b : SC :=
 .seq
 (.ops [
 ⟨(some 15), (.binOp .lss 3 (.tmp 14) (.tmp 13) 3), 0, none⟩])
 (.seq
 (.cond (.tmp 15)
 .skip
 (.exit 0))
 (.seq
 (.block 1
 (.seq
 (.ops [
 ⟨(some 16), (.indexAddr 62 (.tmp 12) (.tmp 14)), 0, none⟩,
 ⟨(some 17), (.load 85 (.tmp 16)), 85, none⟩,
 ⟨(some 7), (.alloc 85), 0, none⟩,
 ⟨none, (.store 85 (.tmp 7) (.tmp 17)), 0, none⟩])
 (.ops [
 ⟨(some 18), (.move (.tmp 5)), 26, none⟩,
 ⟨(some 19), (.fieldAddr 85 (.tmp 7) 0), 0, none⟩,
 ⟨(some 20), (.load 3 (.tmp 19)), 3, none⟩,
 ⟨(some 21), (.buildSlice 26 1 #[(0, (.tmp 20))]), 26, none⟩,
 ⟨(some 22), (.call ⟨(.builtin .append), #[(.tmp 18), (.tmp 21)], #[26, 26]⟩), 26, none⟩,
 ⟨(some 5), (.assign (.tmp 22)), 26, none⟩])))
 (.ops [
 ⟨(some 23), (.binOp .add 3 (.tmp 14) (.const (.int .i64 1)) 3), 3, none⟩,
 ⟨(some 14), (.move (.tmp 23)), 3, none⟩])))
def k73_l0 : SC := .loop k73_l0b
def k73 : SC :=
 .seq
 (.ops [
 ⟨(some 2), (.box 37 (.tmp 0)), 0, none⟩,
 ⟨(some 4), (.assign (.const (.slice none 0 0))), 26, none⟩])
 (.seq
 (.ops [
 ⟨(some 5), (.assign (.const (.slice none 0 0))), 26, none⟩])
 (.seq
 (.seq
 (.ops [
 ⟨(some 8), (.fieldAddr 37 (.tmp 2) 0), 0, none⟩,
 ⟨(some 9), (.load 35 (.tmp 8)), 35, none⟩,
 ⟨(some 10), (.move (.tmp 1)), 3, none⟩,
 ⟨(some 11), (.indexAddr 35 (.tmp 9) (.tmp 10)), 0, none⟩,
 ⟨(some 12), (.load 62 (.tmp 11)), 62, none⟩,
 ⟨(some 13), (.call ⟨(.builtin .len), #[(.tmp 12)], #[62]⟩), 3, none⟩,
 ⟨(some 14), (.move (.const (.int .i64 0))), 3, none⟩])
 (.block 0
 k73_l0))
 (.seq
 (.ops [
 ⟨(some 24), (.move (.tmp 5)), 26, none⟩,
 ⟨(some 4), (.assign (.tmp 24)), 26, none⟩])
 .ret)))
theorem slim73 : Tryz.f73.body.map (slim lends) = some k73 := by kernel_rfl
theorem ok73 : fnOk Tryz.f73 2 = true := by kernel_rfl
theorem c73 {a l : List D} {r : D × List D} (h : wpD Y.env k73 (fin tys l.length [ResultVar.tmp 4] r) (entry a l)) (ha : a.length = 2) : Y.call 73 a l = some r :=
 call_slim (Y := Y) rfl Tryz.func73 (ha ▸ ok73) slim73 h
def s_neNear_l0_M (n_Ends : List (List (Int × Int))) (v_ : Int) (out : List Int) (t14_ : Int) (s : St) : Prop := s.v 5 = D.own 3 (lst (D.int .i64) out) ∧ s.v 12 = D.sl 85 (cat2 .i64 .i64 (n_Ends.getD v_.toNat default)) ∧ s.v 13 = D.int .i64 ((n_Ends.getD v_.toNat default).length : Int) ∧ s.v 14 = D.int .i64 t14_
def s_neNear_l0_X (n_Ends : List (List (Int × Int))) (v_ : Int) (r : (List Int)) (ex : Ex) (s : St) : Prop := ex = .exit 0 ∧ s.v 5 = D.own 3 (lst (D.int .i64) r)
theorem s_neNear_l0_wp (n_Ends : List (List (Int × Int))) (v_ : Int) {v : (List Int) × Int} {s : St} {r : (List Int)} (h : s_neNear_l0 n_Ends v_ v = some r) (hM : s_neNear_l0_M n_Ends v_ v.1 v.2 s) : wpD Y.env k73_l0 (s_neNear_l0_X n_Ends v_ r) s := by
 unfold s_neNear_l0 at h
 refine wd_itO (c := k73_l0b) (fun v => s_neNear_l0_S n_Ends v_ v.1 v.2) (fun v s => s_neNear_l0_M n_Ends v_ v.1 v.2 s) (s_neNear_l0_X n_Ends v_) ?_ h hM
 clear h hM s v r
 intro v s o hM h
 obtain ⟨out, t14_⟩ := v
 dsimp only at h hM
 unfold s_neNear_l0_S at h
 unfold s_neNear_l0_M at hM
 obtain ⟨m0, m1, m2, m3⟩ := hM
 unfold k73_l0b
 by_cases e2 : t14_ < ((n_Ends.getD v_.toNat default).length : Int)
 ·rw [if_pos e2] at h
  obtain ⟨e3, h⟩ := ckS h
  obtain ⟨e4, h⟩ := ckS h
  obtain rfl := Option.some.inj h
  simp (maxDischargeDepth := 9) only [↓xpre, xpost, xlst, xc2, xcore, yset, ↓reduceIte, Nat.reduceEqDiff, Nat.reduceLT, Nat.reduceLeDiff, Nat.reduceAdd, m0, m1, m2, m3, e2, e3.1, e3.2, e4, s_neNear_l0_M, sxN]
 ·rw [if_neg e2] at h
  obtain rfl := Option.some.inj h
  simp (maxDischargeDepth := 9) only [↓xpre, xpost, yset, ↓reduceIte, Nat.reduceEqDiff, m0, m2, m3, e2, s_neNear_l0_M, s_neNear_l0_X, sxE]
theorem s_neNear_call (n_Ends : List (List (Int × Int))) (n_Ids : List Int) (n_Inputs : List Int) (v_ : Int) {r : (List Int)} (h : s_neNear n_Ends n_Ids n_Inputs v_ = some r) : Y.call 73 [D.agg [D.sl 62 (lst (fun x => D.sl 85 (cat2 .i64 .i64 x)) n_Ends), D.sl 3 (lst (D.int .i64) n_Ids), D.sl 3 (lst (D.int .i64) n_Inputs)], D.int .i64 v_] [] = some (D.own 3 (lst (D.int .i64) r), []) := by
 refine c73 ?_ rfl
 unfold k73
 unfold s_neNear at h
 obtain ⟨e1, h⟩ := ckS h
 obtain ⟨r3_, hl3, h⟩ := bindS h
 try dsimp only at h
 simp (maxDischargeDepth := 9) only [↓xpre, xpost, xlst, xc2, xcore, yset, ↓reduceIte, Nat.reduceEqDiff, Nat.reduceLT, Nat.reduceAdd, e1.1, e1.2]
 refine wd_mono (s_neNear_l0_wp n_Ends v_ hl3 ?_) ?_
 ·simp (maxDischargeDepth := 9) only [xpost, ↓reduceIte, Nat.reduceEqDiff, s_neNear_l0_M] <;> (repeat' apply And.intro) <;> first | rfl | exact ⟨_, rfl⟩ | simp [lst, cat2_nil]
 ·intro ex3 s3 hX3
  unfold s_neNear_l0_X at hX3
  obtain ⟨rfl, n3_0⟩ := hX3
  obtain rfl := Option.some.inj h
  simp (maxDischargeDepth := 9) only [↓xpre, xpost, xlst, xcore, ↓reduceIte, Nat.reduceEqDiff, n3_0]

noncomputable def s_coThrough_l0_S (l : List Int) (at_ : List Int) (out : List Int) (t10_ : Int) : Option (((List Int) × Int) ⊕ ((List Int))) :=
 if t10_ < (at_.length : Int) then
  ck (0 ≤ t10_ ∧ t10_.toNat < at_.length) <|
  ck (0 ≤ (at_.getD t10_.toNat default) ∧ (at_.getD t10_.toNat default).toNat < l.length) <|
  ck (out.length + 1 < 1099511627776) <|
  some (Sum.inl ((out ++ [(l.getD ((at_.getD t10_.toNat default).toNat) default)]), IntKind.i64.wrap (t10_ + 1)))
 else
  some (Sum.inr out)
noncomputable def s_coThrough_l0 (l : List Int) (at_ : List Int) (v : (List Int) × Int) : Option ((List Int)) := itO (fun v => s_coThrough_l0_S l at_ v.1 v.2) v
noncomputable def s_coThrough (l : List Int) (at_ : List Int) : Option ((List Int)) :=
 (s_coThrough_l0 l at_ ([], 0)).bind fun r2_ =>
 some r2_
/-- spec.coThrough -/
def k72_l0b : SC :=
 .seq
 (.ops [
 ⟨(some 11), (.binOp .lss 3 (.tmp 10) (.tmp 9) 3), 0, none⟩])
 (.seq
 (.cond (.tmp 11)
 .skip
 (.exit 0))
 (.seq
 (.block 1
 (.seq
 (.ops [
 ⟨(some 12), (.indexAddr 26 (.tmp 8) (.tmp 10)), 0, none⟩,
 ⟨(some 13), (.load 3 (.tmp 12)), 3, none⟩,
 ⟨(some 7), (.assign (.tmp 13)), 3, none⟩])
 (.ops [
 ⟨(some 14), (.move (.tmp 5)), 26, none⟩,
 ⟨(some 15), (.move (.tmp 0)), 26, none⟩,
 ⟨(some 16), (.move (.tmp 7)), 3, none⟩,
 ⟨(some 17), (.indexAddr 26 (.tmp 15) (.tmp 16)), 0, none⟩,
 ⟨(some 18), (.load 3 (.tmp 17)), 3, none⟩,
 ⟨(some 19), (.buildSlice 26 1 #[(0, (.tmp 18))]), 26, none⟩,
 ⟨(some 20), (.call ⟨(.builtin .append), #[(.tmp 14), (.tmp 19)], #[26, 26]⟩), 26, none⟩,
 ⟨(some 5), (.assign (.tmp 20)), 26, none⟩])))
 (.ops [
 ⟨(some 21), (.binOp .add 3 (.tmp 10) (.const (.int .i64 1)) 3), 3, none⟩,
 ⟨(some 10), (.move (.tmp 21)), 3, none⟩])))
def k72_l0 : SC := .loop k72_l0b
def k72 : SC :=
 .seq
 (.ops [
 ⟨(some 4), (.assign (.const (.slice none 0 0))), 26, none⟩])
 (.seq
 (.ops [
 ⟨(some 5), (.assign (.const (.slice none 0 0))), 26, none⟩])
 (.seq
 (.seq
 (.ops [
 ⟨(some 8), (.move (.tmp 1)), 26, none⟩,
 ⟨(some 9), (.call ⟨(.builtin .len), #[(.tmp 8)], #[26]⟩), 3, none⟩,
 ⟨(some 10), (.move (.const (.int .i64 0))), 3, none⟩])
 (.block 0
 k72_l0))
 (.seq
 (.ops [
 ⟨(some 22), (.move (.tmp 5)), 26, none⟩,
 ⟨(some 4), (.assign (.tmp 22)), 26, none⟩])
 .ret)))
theorem slim72 : Tryz.f72.body.map (slim lends) = some k72 := by kernel_rfl
theorem ok72 : fnOk Tryz.f72 2 = true := by kernel_rfl
theorem c72 {a l : List D} {r : D × List D} (h : wpD Y.env k72 (fin tys l.length [ResultVar.tmp 4] r) (entry a l)) (ha : a.length = 2) : Y.call 72 a l = some r :=
 call_slim (Y := Y) rfl Tryz.func72 (ha ▸ ok72) slim72 h
def s_coThrough_l0_M (l : List Int) (at_ : List Int) (out : List Int) (t10_ : Int) (s : St) : Prop := s.v 0 = D.sl 3 (lst (D.int .i64) l) ∧ s.v 5 = D.own 3 (lst (D.int .i64) out) ∧ s.v 8 = D.sl 3 (lst (D.int .i64) at_) ∧ s.v 9 = D.int .i64 (at_.length : Int) ∧ s.v 10 = D.int .i64 t10_
def s_coThrough_l0_X (l : List Int) (at_ : List Int) (r : (List Int)) (ex : Ex) (s : St) : Prop := ex = .exit 0 ∧ s.v 5 = D.own 3 (lst (D.int .i64) r)
theorem s_coThrough_l0_wp (l : List Int) (at_ : List Int) {v : (List Int) × Int} {s : St} {r : (List Int)} (h : s_coThrough_l0 l at_ v = some r) (hM : s_coThrough_l0_M l at_ v.1 v.2 s) : wpD Y.env k72_l0 (s_coThrough_l0_X l at_ r) s := by
 unfold s_coThrough_l0 at h
 refine wd_itO (c := k72_l0b) (fun v => s_coThrough_l0_S l at_ v.1 v.2) (fun v s => s_coThrough_l0_M l at_ v.1 v.2 s) (s_coThrough_l0_X l at_) ?_ h hM
 clear h hM s v r
 intro v s o hM h
 obtain ⟨out, t10_⟩ := v
 dsimp only at h hM
 unfold s_coThrough_l0_S at h
 unfold s_coThrough_l0_M at hM
 obtain ⟨m0, m1, m2, m3, m4⟩ := hM
 unfold k72_l0b
 by_cases e1 : t10_ < (at_.length : Int)
 ·rw [if_pos e1] at h
  obtain ⟨e2, h⟩ := ckS h
  obtain ⟨e3, h⟩ := ckS h
  obtain ⟨e4, h⟩ := ckS h
  obtain rfl := Option.some.inj h
  simp (maxDischargeDepth := 9) only [↓xpre, xpost, xlst, xcore, yset, ↓reduceIte, Nat.reduceEqDiff, Nat.reduceLeDiff, Nat.reduceAdd, m0, m1, m2, m3, m4, e1, e2.1, e2.2, e3.1, e3.2, e4, s_coThrough_l0_M, sxN]
 ·rw [if_neg e1] at h
  obtain rfl := Option.some.inj h
  simp (maxDischargeDepth := 9) only [↓xpre, xpost, yset, ↓reduceIte, Nat.reduceEqDiff, m1, m3, m4, e1, s_coThrough_l0_M, s_coThrough_l0_X, sxE]
theorem s_coThrough_call (l : List Int) (at_ : List Int) {r : (List Int)} (h : s_coThrough l at_ = some r) : Y.call 72 [D.sl 3 (lst (D.int .i64) l), D.sl 3 (lst (D.int .i64) at_)] [] = some (D.own 3 (lst (D.int .i64) r), []) := by
 refine c72 ?_ rfl
 unfold k72
 unfold s_coThrough at h
 obtain ⟨r2_, hl2, h⟩ := bindS h
 try dsimp only at h
 simp (maxDischargeDepth := 9) only [↓xpre, xpost, xlst, xcore, yset, ↓reduceIte, Nat.reduceEqDiff, Nat.reduceLT]
 refine wd_mono (s_coThrough_l0_wp l at_ hl2 ?_) ?_
 ·simp (maxDischargeDepth := 9) only [xpost, xcore, ↓reduceIte, Nat.reduceEqDiff, Nat.reduceLT, s_coThrough_l0_M] <;> (repeat' apply And.intro) <;> first | rfl | exact ⟨_, rfl⟩ | simp [lst, cat2_nil]
 ·intro ex2 s2 hX2
  unfold s_coThrough_l0_X at hX2
  obtain ⟨rfl, n2_0⟩ := hX2
  obtain rfl := Option.some.inj h
  simp (maxDischargeDepth := 9) only [↓xpre, xpost, xlst, xcore, ↓reduceIte, Nat.reduceEqDiff, n2_0]

noncomputable def s_vaNeeds (kind : Int) : Option (Int) :=
 if kind = 19 then
  some 3
 else
  if 13 ≤ kind then
   some 2
  else
   if 11 ≤ kind then
    some 1
   else
    some 0
/-- spec.vaNeeds -/
def k89 : SC :=
 .seq
 (.ops [
 ⟨(some 2), (.assign (.const (.int .i64 0))), 3, none⟩])
 (.seq
 (.block 0
 (.seq
 (.ops [
 ⟨(some 4), (.move (.tmp 0)), 3, none⟩,
 ⟨(some 5), (.binOp .eql 3 (.tmp 4) (.const (.int .i64 19)) 3), 4, none⟩,
 ⟨(some 3), (.assign (.tmp 5)), 4, none⟩])
 (.cond (.tmp 3)
 (.seq
 (.ops [
 ⟨(some 2), (.assign (.const (.int .i64 3))), 3, none⟩])
 .ret)
 (.seq
 (.ops [
 ⟨(some 7), (.move (.tmp 0)), 3, none⟩,
 ⟨(some 8), (.binOp .geq 3 (.tmp 7) (.const (.int .i64 13)) 3), 4, none⟩,
 ⟨(some 6), (.assign (.tmp 8)), 4, none⟩])
 (.cond (.tmp 6)
 (.seq
 (.ops [
 ⟨(some 2), (.assign (.const (.int .i64 2))), 3, none⟩])
 .ret)
 (.seq
 (.ops [
 ⟨(some 10), (.move (.tmp 0)), 3, none⟩,
 ⟨(some 11), (.binOp .geq 3 (.tmp 10) (.const (.int .i64 11)) 3), 4, none⟩,
 ⟨(some 9), (.assign (.tmp 11)), 4, none⟩])
 (.cond (.tmp 9)
 (.seq
 (.ops [
 ⟨(some 2), (.assign (.const (.int .i64 1))), 3, none⟩])
 .ret)
 .skip)))))))
 (.seq
 (.ops [
 ⟨(some 2), (.assign (.const (.int .i64 0))), 3, none⟩])
 .ret))
theorem slim89 : Tryz.f89.body.map (slim lends) = some k89 := by kernel_rfl
theorem ok89 : fnOk Tryz.f89 1 = true := by kernel_rfl
theorem c89 {a l : List D} {r : D × List D} (h : wpD Y.env k89 (fin tys l.length [ResultVar.tmp 2] r) (entry a l)) (ha : a.length = 1) : Y.call 89 a l = some r :=
 call_slim (Y := Y) rfl Tryz.func89 (ha ▸ ok89) slim89 h
theorem s_vaNeeds_call (kind : Int) {r : Int} (h : s_vaNeeds kind = some r) : Y.call 89 [D.int .i64 kind] [] = some (D.int .i64 r, []) := by
 refine c89 ?_ rfl
 unfold k89
 unfold s_vaNeeds at h
 by_cases e1 : kind = 19
 ·rw [if_pos e1] at h
  obtain rfl := Option.some.inj h
  simp (maxDischargeDepth := 9) only [↓xpre, xpost, xcore, yset, ↓reduceIte, Nat.reduceEqDiff, Nat.reduceLT, decide_eq_true e1]
 ·rw [if_neg e1] at h
  by_cases e2 : 13 ≤ kind
  ·rw [if_pos e2] at h
   obtain rfl := Option.some.inj h
   simp (maxDischargeDepth := 9) only [↓xpre, xpost, xcore, yset, ↓reduceIte, Nat.reduceEqDiff, Nat.reduceLT, e1, e2]
  ·rw [if_neg e2] at h
   by_cases e3 : 11 ≤ kind
   ·rw [if_pos e3] at h
    obtain rfl := Option.some.inj h
    simp (maxDischargeDepth := 9) only [↓xpre, xpost, xcore, yset, ↓reduceIte, Nat.reduceEqDiff, Nat.reduceLT, e1, e2, e3]
   ·rw [if_neg e3] at h
    obtain rfl := Option.some.inj h
    simp (maxDischargeDepth := 9) only [↓xpre, xpost, xcore, yset, ↓reduceIte, Nat.reduceEqDiff, Nat.reduceLT, e1, e2, e3]

noncomputable def s_vaNode_vaLook_l0_S (t0_own : Int) (t0_id : Int) (t0_input : Int) (t0_round : Int) (t0_near : List Int) (t1_Kind : Int) (t1_Value : Int) (t5_ : Int) (t6_ : Int) (t7_ : Int) (t18_ : Int) : Option ((Int × Int × Int × Int) ⊕ (Int × Int × Int)) :=
 if t18_ < (t0_near.length : Int) then
  ck (0 ≤ t18_ ∧ t18_.toNat < t0_near.length) <|
  if t18_ = 0 then
   some (Sum.inl ((t0_near.getD t18_.toNat default), (t0_near.getD t18_.toNat default), IntKind.i64.wrap (t7_ + (t0_near.getD t18_.toNat default)), IntKind.i64.wrap (t18_ + 1)))
  else
   if (t0_near.getD t18_.toNat default) < t5_ then
    if t6_ < (t0_near.getD t18_.toNat default) then
     some (Sum.inl ((t0_near.getD t18_.toNat default), (t0_near.getD t18_.toNat default), IntKind.i64.wrap (t7_ + (t0_near.getD t18_.toNat default)), IntKind.i64.wrap (t18_ + 1)))
    else
     some (Sum.inl ((t0_near.getD t18_.toNat default), t6_, IntKind.i64.wrap (t7_ + (t0_near.getD t18_.toNat default)), IntKind.i64.wrap (t18_ + 1)))
   else
    if t6_ < (t0_near.getD t18_.toNat default) then
     some (Sum.inl (t5_, (t0_near.getD t18_.toNat default), IntKind.i64.wrap (t7_ + (t0_near.getD t18_.toNat default)), IntKind.i64.wrap (t18_ + 1)))
    else
     some (Sum.inl (t5_, t6_, IntKind.i64.wrap (t7_ + (t0_near.getD t18_.toNat default)), IntKind.i64.wrap (t18_ + 1)))
 else
  some (Sum.inr (t5_, t6_, t7_))
noncomputable def s_vaNode_vaLook_l0 (t0_own : Int) (t0_id : Int) (t0_input : Int) (t0_round : Int) (t0_near : List Int) (t1_Kind : Int) (t1_Value : Int) (v : Int × Int × Int × Int) : Option (Int × Int × Int) := itO (fun v => s_vaNode_vaLook_l0_S t0_own t0_id t0_input t0_round t0_near t1_Kind t1_Value v.1 v.2.1 v.2.2.1 v.2.2.2) v
noncomputable def s_vaNode_vaLook_l1_S (t0_own : Int) (t0_id : Int) (t0_input : Int) (t0_round : Int) (t0_near : List Int) (t10_ : Int) : Option ((Int) ⊕ (Int)) :=
 ck (t0_near.length < 1099511627776) <|
 if (t0_near.contains t10_) = true then
  some (Sum.inl (IntKind.i64.wrap (t10_ + 1)))
 else
  some (Sum.inr t10_)
noncomputable def s_vaNode_vaLook_l1 (t0_own : Int) (t0_id : Int) (t0_input : Int) (t0_round : Int) (t0_near : List Int) (v : Int) : Option (Int) := itO (fun v => s_vaNode_vaLook_l1_S t0_own t0_id t0_input t0_round t0_near v) v
noncomputable def s_vaNode_vaLook (t0_own : Int) (t0_id : Int) (t0_input : Int) (t0_round : Int) (t0_near : List Int) (t1_Kind : Int) (t1_Value : Int) : Option (Int) :=
 (s_vaNode_vaLook_l0 t0_own t0_id t0_input t0_round t0_near t1_Kind t1_Value (t0_own, t0_own, 0, 0)).bind fun r2_ =>
 if t1_Kind = 1 then
  some t1_Value
 else
  if t1_Kind = 2 then
   some t0_own
  else
   if t1_Kind = 3 then
    some t0_id
   else
    if t1_Kind = 4 then
     some (t0_near.length : Int)
    else
     if t1_Kind = 5 then
      some t0_input
     else
      if t1_Kind = 6 then
       some t0_round
      else
       if t1_Kind = 7 then
        some r2_.1
       else
        if t1_Kind = 8 then
         some r2_.2.1
        else
         if t1_Kind = 9 then
          some r2_.2.2
         else
          (s_vaNode_vaLook_l1 t0_own t0_id t0_input t0_round t0_near 0).bind fun r15_ =>
          some r15_
/-- spec.vaNode).vaLook -/
def k90_l0b : SC :=
 .seq
 (.ops [
 ⟨(some 19), (.binOp .lss 3 (.tmp 18) (.tmp 17) 3), 0, none⟩])
 (.seq
 (.cond (.tmp 19)
 .skip
 (.exit 0))
 (.seq
 (.block 1
 (.seq
 (.ops [
 ⟨(some 20), (.move (.tmp 18)), 3, none⟩,
 ⟨(some 21), (.indexAddr 26 (.tmp 16) (.tmp 18)), 0, none⟩,
 ⟨(some 22), (.load 3 (.tmp 21)), 3, none⟩,
 ⟨(some 8), (.assign (.tmp 20)), 3, none⟩,
 ⟨(some 9), (.assign (.tmp 22)), 3, none⟩])
 (.seq
 (.seq
 (.ops [
 ⟨(some 23), (.move (.tmp 8)), 3, none⟩,
 ⟨(some 24), (.binOp .eql 3 (.tmp 23) (.const (.int .i64 0)) 3), 4, none⟩,
 ⟨(some 25), (.move (.tmp 24)), 4, none⟩,
 ⟨(some 26), (.move (.tmp 9)), 3, (some (some 25, false))⟩,
 ⟨(some 27), (.move (.tmp 5)), 3, (some (some 25, false))⟩,
 ⟨(some 28), (.binOp .lss 3 (.tmp 26) (.tmp 27) 3), 4, (some (some 25, false))⟩,
 ⟨(some 29), (.pick (.tmp 25) (.const (.bool true)) (.tmp 28)), 4, none⟩])
 (.cond (.tmp 29)
 (.ops [
 ⟨(some 30), (.move (.tmp 9)), 3, none⟩,
 ⟨(some 5), (.assign (.tmp 30)), 3, none⟩])
 .skip))
 (.seq
 (.seq
 (.ops [
 ⟨(some 31), (.move (.tmp 8)), 3, none⟩,
 ⟨(some 32), (.binOp .eql 3 (.tmp 31) (.const (.int .i64 0)) 3), 4, none⟩,
 ⟨(some 33), (.move (.tmp 32)), 4, none⟩,
 ⟨(some 34), (.move (.tmp 9)), 3, (some (some 33, false))⟩,
 ⟨(some 35), (.move (.tmp 6)), 3, (some (some 33, false))⟩,
 ⟨(some 36), (.binOp .gtr 3 (.tmp 34) (.tmp 35) 3), 4, (some (some 33, false))⟩,
 ⟨(some 37), (.pick (.tmp 33) (.const (.bool true)) (.tmp 36)), 4, none⟩])
 (.cond (.tmp 37)
 (.ops [
 ⟨(some 38), (.move (.tmp 9)), 3, none⟩,
 ⟨(some 6), (.assign (.tmp 38)), 3, none⟩])
 .skip))
 (.ops [
 ⟨(some 39), (.move (.tmp 7)), 3, none⟩,
 ⟨(some 40), (.move (.tmp 9)), 3, none⟩,
 ⟨(some 41), (.binOp .add 3 (.tmp 39) (.tmp 40) 3), 3, none⟩,
 ⟨(some 7), (.assign (.tmp 41)), 3, none⟩])))))
 (.ops [
 ⟨(some 42), (.binOp .add 3 (.tmp 18) (.const (.int .i64 1)) 3), 3, none⟩,
 ⟨(some 18), (.move (.tmp 42)), 3, none⟩])))
def k90_l0 : SC := .loop k90_l0b
def k90_l1b : SC :=
 .seq
 (.seq
 (.ops [
 ⟨(some 79), (.fieldAddr 96 (.tmp 2) 4), 0, none⟩,
 ⟨(some 80), (.load 26 (.tmp 79)), 26, none⟩,
 ⟨(some 81), (.move (.tmp 10)), 3, none⟩,
 ⟨(some 82), (.call ⟨(.value (.func 80)), #[(.tmp 80), (.tmp 81)], #[26, 3]⟩), 4, none⟩])
 (.cond (.tmp 82)
 .skip
 (.exit 3)))
 (.block 4
 (.ops [
 ⟨(some 83), (.move (.tmp 10)), 3, none⟩,
 ⟨(some 84), (.binOp .add 3 (.tmp 83) (.const (.int .i64 1)) 3), 3, none⟩,
 ⟨(some 10), (.assign (.tmp 84)), 3, none⟩]))
def k90_l1 : SC := .loop k90_l1b
def k90 : SC :=
 .seq
 (.ops [
 ⟨(some 2), (.box 96 (.tmp 0)), 0, none⟩,
 ⟨(some 3), (.box 73 (.tmp 1)), 0, none⟩,
 ⟨(some 4), (.assign (.const (.int .i64 0))), 3, none⟩])
 (.seq
 (.draws [
 (⟨[11, 2, 2], [11, 12, 13, 14, 5, 12, 6, 14, 7], [11]⟩, ⟨(some 11), (.fieldAddr 96 (.tmp 2) 0), 0, none⟩),
 (⟨[12, 11, 2], [11, 12, 13, 14, 5, 12, 6, 14, 7], [12]⟩, ⟨(some 12), (.load 3 (.tmp 11)), 3, none⟩),
 (⟨[13, 2, 2], [11, 12, 13, 14, 5, 12, 6, 14, 7], [13]⟩, ⟨(some 13), (.fieldAddr 96 (.tmp 2) 0), 0, none⟩),
 (⟨[14, 13, 2], [11, 12, 13, 14, 5, 12, 6, 14, 7], [14]⟩, ⟨(some 14), (.load 3 (.tmp 13)), 3, none⟩),
 (⟨[5, 12, 2], [11, 12, 13, 14, 5, 12, 6, 14, 7], [5, 12]⟩, ⟨(some 5), (.assign (.tmp 12)), 3, none⟩),
 (⟨[6, 14, 2], [11, 12, 13, 14, 5, 12, 6, 14, 7], [6, 14]⟩, ⟨(some 6), (.assign (.tmp 14)), 3, none⟩),
 (⟨[7], [11, 12, 13, 14, 5, 12, 6, 14, 7], [7]⟩, ⟨(some 7), (.assign (.const (.int .i64 0))), 3, none⟩)])
 (.seq
 (.seq
 (.ops [
 ⟨(some 15), (.fieldAddr 96 (.tmp 2) 4), 0, none⟩,
 ⟨(some 16), (.load 26 (.tmp 15)), 26, none⟩,
 ⟨(some 17), (.call ⟨(.builtin .len), #[(.tmp 16)], #[26]⟩), 3, none⟩,
 ⟨(some 18), (.move (.const (.int .i64 0))), 3, none⟩])
 (.block 0
 k90_l0))
 (.seq
 (.seq
 (.ops [
 ⟨(some 43), (.fieldAddr 73 (.tmp 3) 0), 0, none⟩,
 ⟨(some 44), (.load 3 (.tmp 43)), 3, none⟩])
 (.block 2
 (.seq
 (.ops [
 ⟨(some 46), (.binOp .eql 3 (.tmp 44) (.const (.int .i64 1)) 3), 4, none⟩,
 ⟨(some 45), (.assign (.tmp 46)), 4, none⟩])
 (.cond (.tmp 45)
 (.seq
 (.ops [
 ⟨(some 47), (.fieldAddr 73 (.tmp 3) 1), 0, none⟩,
 ⟨(some 48), (.load 3 (.tmp 47)), 3, none⟩,
 ⟨(some 4), (.assign (.tmp 48)), 3, none⟩])
 .ret)
 (.seq
 (.ops [
 ⟨(some 50), (.binOp .eql 3 (.tmp 44) (.const (.int .i64 2)) 3), 4, none⟩,
 ⟨(some 49), (.assign (.tmp 50)), 4, none⟩])
 (.cond (.tmp 49)
 (.seq
 (.ops [
 ⟨(some 51), (.fieldAddr 96 (.tmp 2) 0), 0, none⟩,
 ⟨(some 52), (.load 3 (.tmp 51)), 3, none⟩,
 ⟨(some 4), (.assign (.tmp 52)), 3, none⟩])
 .ret)
 (.seq
 (.ops [
 ⟨(some 54), (.binOp .eql 3 (.tmp 44) (.const (.int .i64 3)) 3), 4, none⟩,
 ⟨(some 53), (.assign (.tmp 54)), 4, none⟩])
 (.cond (.tmp 53)
 (.seq
 (.ops [
 ⟨(some 55), (.fieldAddr 96 (.tmp 2) 1), 0, none⟩,
 ⟨(some 56), (.load 3 (.tmp 55)), 3, none⟩,
 ⟨(some 4), (.assign (.tmp 56)), 3, none⟩])
 .ret)
 (.seq
 (.ops [
 ⟨(some 58), (.binOp .eql 3 (.tmp 44) (.const (.int .i64 4)) 3), 4, none⟩,
 ⟨(some 57), (.assign (.tmp 58)), 4, none⟩])
 (.cond (.tmp 57)
 (.seq
 (.ops [
 ⟨(some 59), (.fieldAddr 96 (.tmp 2) 4), 0, none⟩,
 ⟨(some 60), (.load 26 (.tmp 59)), 26, none⟩,
 ⟨(some 61), (.call ⟨(.builtin .len), #[(.tmp 60)], #[26]⟩), 3, none⟩,
 ⟨(some 4), (.assign (.tmp 61)), 3, none⟩])
 .ret)
 (.seq
 (.ops [
 ⟨(some 63), (.binOp .eql 3 (.tmp 44) (.const (.int .i64 5)) 3), 4, none⟩,
 ⟨(some 62), (.assign (.tmp 63)), 4, none⟩])
 (.cond (.tmp 62)
 (.seq
 (.ops [
 ⟨(some 64), (.fieldAddr 96 (.tmp 2) 2), 0, none⟩,
 ⟨(some 65), (.load 3 (.tmp 64)), 3, none⟩,
 ⟨(some 4), (.assign (.tmp 65)), 3, none⟩])
 .ret)
 (.seq
 (.ops [
 ⟨(some 67), (.binOp .eql 3 (.tmp 44) (.const (.int .i64 6)) 3), 4, none⟩,
 ⟨(some 66), (.assign (.tmp 67)), 4, none⟩])
 (.cond (.tmp 66)
 (.seq
 (.ops [
 ⟨(some 68), (.fieldAddr 96 (.tmp 2) 3), 0, none⟩,
 ⟨(some 69), (.load 3 (.tmp 68)), 3, none⟩,
 ⟨(some 4), (.assign (.tmp 69)), 3, none⟩])
 .ret)
 (.seq
 (.ops [
 ⟨(some 71), (.binOp .eql 3 (.tmp 44) (.const (.int .i64 7)) 3), 4, none⟩,
 ⟨(some 70), (.assign (.tmp 71)), 4, none⟩])
 (.cond (.tmp 70)
 (.seq
 (.ops [
 ⟨(some 72), (.move (.tmp 5)), 3, none⟩,
 ⟨(some 4), (.assign (.tmp 72)), 3, none⟩])
 .ret)
 (.seq
 (.ops [
 ⟨(some 74), (.binOp .eql 3 (.tmp 44) (.const (.int .i64 8)) 3), 4, none⟩,
 ⟨(some 73), (.assign (.tmp 74)), 4, none⟩])
 (.cond (.tmp 73)
 (.seq
 (.ops [
 ⟨(some 75), (.move (.tmp 6)), 3, none⟩,
 ⟨(some 4), (.assign (.tmp 75)), 3, none⟩])
 .ret)
 (.seq
 (.ops [
 ⟨(some 77), (.binOp .eql 3 (.tmp 44) (.const (.int .i64 9)) 3), 4, none⟩,
 ⟨(some 76), (.assign (.tmp 77)), 4, none⟩])
 (.cond (.tmp 76)
 (.seq
 (.ops [
 ⟨(some 78), (.move (.tmp 7)), 3, none⟩,
 ⟨(some 4), (.assign (.tmp 78)), 3, none⟩])
 .ret)
 .skip))))))))))))))))))))
 (.seq
 (.ops [
 ⟨(some 10), (.assign (.const (.int .i64 0))), 3, none⟩])
 (.seq
 (.block 3
 k90_l1)
 (.seq
 (.ops [
 ⟨(some 85), (.move (.tmp 10)), 3, none⟩,
 ⟨(some 4), (.assign (.tmp 85)), 3, none⟩])
 .ret))))))
theorem slim90 : Tryz.f90.body.map (slim lends) = some k90 := by kernel_rfl
theorem ok90 : fnOk Tryz.f90 2 = true := by kernel_rfl
theorem c90 {a l : List D} {r : D × List D} (h : wpD Y.env k90 (fin tys l.length [ResultVar.tmp 4] r) (entry a l)) (ha : a.length = 2) : Y.call 90 a l = some r :=
 call_slim (Y := Y) rfl Tryz.func90 (ha ▸ ok90) slim90 h
def s_vaNode_vaLook_l0_M (t0_own : Int) (t0_id : Int) (t0_input : Int) (t0_round : Int) (t0_near : List Int) (t1_Kind : Int) (t1_Value : Int) (t5_ : Int) (t6_ : Int) (t7_ : Int) (t18_ : Int) (s : St) : Prop := s.v 2 = D.box [D.int .i64 t0_own, D.int .i64 t0_id, D.int .i64 t0_input, D.int .i64 t0_round, D.sl 3 (lst (D.int .i64) t0_near)] ∧ s.v 3 = D.box [D.int .i64 t1_Kind, D.int .i64 t1_Value] ∧ s.v 5 = D.int .i64 t5_ ∧ s.v 6 = D.int .i64 t6_ ∧ s.v 7 = D.int .i64 t7_ ∧ s.v 16 = D.sl 3 (lst (D.int .i64) t0_near) ∧ s.v 17 = D.int .i64 (t0_near.length : Int) ∧ s.v 18 = D.int .i64 t18_
def s_vaNode_vaLook_l0_X (t0_own : Int) (t0_id : Int) (t0_input : Int) (t0_round : Int) (t0_near : List Int) (t1_Kind : Int) (t1_Value : Int) (r : Int × Int × Int) (ex : Ex) (s : St) : Prop := ex = .exit 0 ∧ s.v 2 = D.box [D.int .i64 t0_own, D.int .i64 t0_id, D.int .i64 t0_input, D.int .i64 t0_round, D.sl 3 (lst (D.int .i64) t0_near)] ∧ s.v 3 = D.box [D.int .i64 t1_Kind, D.int .i64 t1_Value] ∧ s.v 5 = D.int .i64 r.1 ∧ s.v 6 = D.int .i64 r.2.1 ∧ s.v 7 = D.int .i64 r.2.2
theorem s_vaNode_vaLook_l0_wp (t0_own : Int) (t0_id : Int) (t0_input : Int) (t0_round : Int) (t0_near : List Int) (t1_Kind : Int) (t1_Value : Int) {v : Int × Int × Int × Int} {s : St} {r : Int × Int × Int} (h : s_vaNode_vaLook_l0 t0_own t0_id t0_input t0_round t0_near t1_Kind t1_Value v = some r) (hM : s_vaNode_vaLook_l0_M t0_own t0_id t0_input t0_round t0_near t1_Kind t1_Value v.1 v.2.1 v.2.2.1 v.2.2.2 s) : wpD Y.env k90_l0 (s_vaNode_vaLook_l0_X t0_own t0_id t0_input t0_round t0_near t1_Kind t1_Value r) s := by
 unfold s_vaNode_vaLook_l0 at h
 refine wd_itO (c := k90_l0b) (fun v => s_vaNode_vaLook_l0_S t0_own t0_id t0_input t0_round t0_near t1_Kind t1_Value v.1 v.2.1 v.2.2.1 v.2.2.2) (fun v s => s_vaNode_vaLook_l0_M t0_own t0_id t0_input t0_round t0_near t1_Kind t1_Value v.1 v.2.1 v.2.2.1 v.2.2.2 s) (s_vaNode_vaLook_l0_X t0_own t0_id t0_input t0_round t0_near t1_Kind t1_Value) ?_ h hM
 clear h hM s v r
 intro v s o hM h
 obtain ⟨t5_, t6_, t7_, t18_⟩ := v
 dsimp only at h hM
 unfold s_vaNode_vaLook_l0_S at h
 unfold s_vaNode_vaLook_l0_M at hM
 obtain ⟨m0, m1, m2, m3, m4, m5, m6, m7⟩ := hM
 unfold k90_l0b
 by_cases e1 : t18_ < (t0_near.length : Int)
 ·rw [if_pos e1] at h
  obtain ⟨e2, h⟩ := ckS h
  by_cases e3 : t18_ = 0
  ·rw [if_pos e3] at h
   obtain rfl := Option.some.inj h
   simp (maxDischargeDepth := 9) only [↓xpre, xpost, xlst, xcore, yset, ↓reduceIte, Nat.reduceEqDiff, m0, m1, m4, m5, m6, m7, e1, e2.1, e2.2, decide_eq_true e3, s_vaNode_vaLook_l0_M, sxN]
  ·rw [if_neg e3] at h
   by_cases e4 : (t0_near.getD t18_.toNat default) < t5_
   ·rw [if_pos e4] at h
    by_cases e5 : t6_ < (t0_near.getD t18_.toNat default)
    ·rw [if_pos e5] at h
     obtain rfl := Option.some.inj h
     simp (maxDischargeDepth := 9) only [↓xpre, xpost, xlst, xcore, yset, ↓reduceIte, Nat.reduceEqDiff, m0, m1, m2, m3, m4, m5, m6, m7, e1, e2.1, e2.2, e3, e4, e5, s_vaNode_vaLook_l0_M, sxN]
    ·rw [if_neg e5] at h
     obtain rfl := Option.some.inj h
     simp (maxDischargeDepth := 9) only [↓xpre, xpost, xlst, xcore, yset, ↓reduceIte, Nat.reduceEqDiff, m0, m1, m2, m3, m4, m5, m6, m7, e1, e2.1, e2.2, e3, e4, e5, s_vaNode_vaLook_l0_M, sxN]
   ·rw [if_neg e4] at h
    by_cases e5 : t6_ < (t0_near.getD t18_.toNat default)
    ·rw [if_pos e5] at h
     obtain rfl := Option.some.inj h
     simp (maxDischargeDepth := 9) only [↓xpre, xpost, xlst, xcore, yset, ↓reduceIte, Nat.reduceEqDiff, m0, m1, m2, m3, m4, m5, m6, m7, e1, e2.1, e2.2, e3, e4, e5, s_vaNode_vaLook_l0_M, sxN]
    ·rw [if_neg e5] at h
     obtain rfl := Option.some.inj h
     simp (maxDischargeDepth := 9) only [↓xpre, xpost, xlst, xcore, yset, ↓reduceIte, Nat.reduceEqDiff, m0, m1, m2, m3, m4, m5, m6, m7, e1, e2.1, e2.2, e3, e4, e5, s_vaNode_vaLook_l0_M, sxN]
 ·rw [if_neg e1] at h
  obtain rfl := Option.some.inj h
  simp (maxDischargeDepth := 9) only [↓xpre, xpost, yset, ↓reduceIte, Nat.reduceEqDiff, m0, m1, m2, m3, m4, m6, m7, e1, s_vaNode_vaLook_l0_M, s_vaNode_vaLook_l0_X, sxE]
def s_vaNode_vaLook_l1_M (t0_own : Int) (t0_id : Int) (t0_input : Int) (t0_round : Int) (t0_near : List Int) (t10_ : Int) (s : St) : Prop := s.v 2 = D.box [D.int .i64 t0_own, D.int .i64 t0_id, D.int .i64 t0_input, D.int .i64 t0_round, D.sl 3 (lst (D.int .i64) t0_near)] ∧ s.v 10 = D.int .i64 t10_
def s_vaNode_vaLook_l1_X (t0_own : Int) (t0_id : Int) (t0_input : Int) (t0_round : Int) (t0_near : List Int) (r : Int) (ex : Ex) (s : St) : Prop := ex = .exit 3 ∧ s.v 10 = D.int .i64 r
theorem s_vaNode_vaLook_l1_wp (t0_own : Int) (t0_id : Int) (t0_input : Int) (t0_round : Int) (t0_near : List Int) {v : Int} {s : St} {r : Int} (h : s_vaNode_vaLook_l1 t0_own t0_id t0_input t0_round t0_near v = some r) (hM : s_vaNode_vaLook_l1_M t0_own t0_id t0_input t0_round t0_near v s) : wpD Y.env k90_l1 (s_vaNode_vaLook_l1_X t0_own t0_id t0_input t0_round t0_near r) s := by
 unfold s_vaNode_vaLook_l1 at h
 refine wd_itO (c := k90_l1b) (fun v => s_vaNode_vaLook_l1_S t0_own t0_id t0_input t0_round t0_near v) (fun v s => s_vaNode_vaLook_l1_M t0_own t0_id t0_input t0_round t0_near v s) (s_vaNode_vaLook_l1_X t0_own t0_id t0_input t0_round t0_near) ?_ h hM
 clear h hM s v r
 intro t10_ s o hM h
 unfold s_vaNode_vaLook_l1_S at h
 unfold s_vaNode_vaLook_l1_M at hM
 obtain ⟨m0, m1⟩ := hM
 unfold k90_l1b
 obtain ⟨e12, h⟩ := ckS h
 have c13 := s_l1Has_cl t0_near t10_ e12
 by_cases e14 : (t0_near.contains t10_) = true
 ·rw [if_pos e14] at h
  obtain rfl := Option.some.inj h
  simp (maxDischargeDepth := 9) only [↓xpre, xpost, xcore, yset, ↓reduceIte, Nat.reduceEqDiff, Nat.reduceLT, Nat.reduceAdd, m0, m1, c13, e14, s_vaNode_vaLook_l1_M, sxN]
 ·rw [if_neg e14] at h
  have e14f : (t0_near.contains t10_) = false := Bool.eq_false_iff.mpr e14
  obtain rfl := Option.some.inj h
  simp (maxDischargeDepth := 9) only [↓xpre, xpost, xcore, yset, ↓reduceIte, Nat.reduceEqDiff, Nat.reduceLT, Nat.reduceAdd, m0, m1, c13, e14f, s_vaNode_vaLook_l1_M, s_vaNode_vaLook_l1_X, sxE]
theorem s_vaNode_vaLook_call (t0_own : Int) (t0_id : Int) (t0_input : Int) (t0_round : Int) (t0_near : List Int) (t1_Kind : Int) (t1_Value : Int) {r : Int} (h : s_vaNode_vaLook t0_own t0_id t0_input t0_round t0_near t1_Kind t1_Value = some r) : Y.call 90 [D.agg [D.int .i64 t0_own, D.int .i64 t0_id, D.int .i64 t0_input, D.int .i64 t0_round, D.sl 3 (lst (D.int .i64) t0_near)], D.agg [D.int .i64 t1_Kind, D.int .i64 t1_Value]] [] = some (D.int .i64 r, []) := by
 refine c90 ?_ rfl
 unfold k90
 unfold s_vaNode_vaLook at h
 obtain ⟨r2_, hl2, h⟩ := bindS h
 try dsimp only at h
 simp (maxDischargeDepth := 9) only [↓xpre, xpost, xlst, xcore, yset, ↓reduceIte, Nat.reduceEqDiff, Nat.reduceLT, Nat.reduceAdd, Nat.reduceBEq]
 refine wd_mono (s_vaNode_vaLook_l0_wp t0_own t0_id t0_input t0_round t0_near t1_Kind t1_Value hl2 ?_) ?_
 ·simp (maxDischargeDepth := 9) only [xpost, ↓reduceIte, Nat.reduceEqDiff, s_vaNode_vaLook_l0_M]
 ·intro ex2 s2 hX2
  unfold s_vaNode_vaLook_l0_X at hX2
  obtain ⟨rfl, n2_0, n2_1, n2_2, n2_3, n2_4⟩ := hX2
  by_cases e3 : t1_Kind = 1
  ·rw [if_pos e3] at h
   obtain rfl := Option.some.inj h
   simp (maxDischargeDepth := 9) only [↓xpre, xpost, xcore, yset, ↓reduceIte, Nat.reduceEqDiff, Nat.reduceLT, n2_1, decide_eq_true e3]
  ·rw [if_neg e3] at h
   by_cases e4 : t1_Kind = 2
   ·rw [if_pos e4] at h
    obtain rfl := Option.some.inj h
    simp (maxDischargeDepth := 9) only [↓xpre, xpost, xcore, yset, ↓reduceIte, Nat.reduceEqDiff, Nat.reduceLT, n2_0, n2_1, e3, decide_eq_true e4]
   ·rw [if_neg e4] at h
    by_cases e5 : t1_Kind = 3
    ·rw [if_pos e5] at h
     obtain rfl := Option.some.inj h
     simp (maxDischargeDepth := 9) only [↓xpre, xpost, xcore, yset, ↓reduceIte, Nat.reduceEqDiff, Nat.reduceLT, n2_0, n2_1, e3, e4, decide_eq_true e5]
    ·rw [if_neg e5] at h
     by_cases e6 : t1_Kind = 4
     ·rw [if_pos e6] at h
      obtain rfl := Option.some.inj h
      simp (maxDischargeDepth := 9) only [↓xpre, xpost, xlst, xcore, yset, ↓reduceIte, Nat.reduceEqDiff, Nat.reduceLT, n2_0, n2_1, e3, e4, e5, decide_eq_true e6]
     ·rw [if_neg e6] at h
      by_cases e7 : t1_Kind = 5
      ·rw [if_pos e7] at h
       obtain rfl := Option.some.inj h
       simp (maxDischargeDepth := 9) only [↓xpre, xpost, xcore, yset, ↓reduceIte, Nat.reduceEqDiff, Nat.reduceLT, n2_0, n2_1, e3, e4, e5, e6, decide_eq_true e7]
      ·rw [if_neg e7] at h
       by_cases e8 : t1_Kind = 6
       ·rw [if_pos e8] at h
        obtain rfl := Option.some.inj h
        simp (maxDischargeDepth := 9) only [↓xpre, xpost, xcore, yset, ↓reduceIte, Nat.reduceEqDiff, Nat.reduceLT, n2_0, n2_1, e3, e4, e5, e6, e7, decide_eq_true e8]
       ·rw [if_neg e8] at h
        by_cases e9 : t1_Kind = 7
        ·rw [if_pos e9] at h
         obtain rfl := Option.some.inj h
         simp (maxDischargeDepth := 9) only [↓xpre, xpost, xcore, yset, ↓reduceIte, Nat.reduceEqDiff, Nat.reduceLT, n2_1, n2_2, e3, e4, e5, e6, e7, e8, decide_eq_true e9]
        ·rw [if_neg e9] at h
         by_cases e10 : t1_Kind = 8
         ·rw [if_pos e10] at h
          obtain rfl := Option.some.inj h
          simp (maxDischargeDepth := 9) only [↓xpre, xpost, xcore, yset, ↓reduceIte, Nat.reduceEqDiff, Nat.reduceLT, n2_1, n2_3, e3, e4, e5, e6, e7, e8, e9, decide_eq_true e10]
         ·rw [if_neg e10] at h
          by_cases e11 : t1_Kind = 9
          ·rw [if_pos e11] at h
           obtain rfl := Option.some.inj h
           simp (maxDischargeDepth := 9) only [↓xpre, xpost, xcore, yset, ↓reduceIte, Nat.reduceEqDiff, Nat.reduceLT, n2_1, n2_4, e3, e4, e5, e6, e7, e8, e9, e10, decide_eq_true e11]
          ·rw [if_neg e11] at h
           obtain ⟨r15_, hl15, h⟩ := bindS h
           try dsimp only at h
           simp (maxDischargeDepth := 9) only [↓xpre, xpost, xcore, yset, ↓reduceIte, Nat.reduceEqDiff, Nat.reduceLT, n2_1, e3, e4, e5, e6, e7, e8, e9, e10, e11]
           refine wd_mono (s_vaNode_vaLook_l1_wp t0_own t0_id t0_input t0_round t0_near hl15 ?_) ?_
           ·simp (maxDischargeDepth := 9) only [xpost, ↓reduceIte, Nat.reduceEqDiff, n2_0, s_vaNode_vaLook_l1_M]
           ·intro ex15 s15 hX15
            unfold s_vaNode_vaLook_l1_X at hX15
            obtain ⟨rfl, n15_0⟩ := hX15
            obtain rfl := Option.some.inj h
            simp (maxDischargeDepth := 9) only [↓xpre, xpost, xcore, ↓reduceIte, Nat.reduceEqDiff, n15_0]

noncomputable def s_l1Least (a : Int) (b : Int) : Option (Int) :=
 if a < b then
  some a
 else
  some b
/-- spec.l1Least -/
def k107 : SC :=
 .seq
 (.ops [
 ⟨(some 4), (.assign (.const (.int .i64 0))), 3, none⟩])
 (.seq
 (.seq
 (.ops [
 ⟨(some 5), (.move (.tmp 0)), 3, none⟩,
 ⟨(some 6), (.move (.tmp 1)), 3, none⟩,
 ⟨(some 7), (.binOp .lss 3 (.tmp 5) (.tmp 6) 3), 4, none⟩])
 (.cond (.tmp 7)
 (.seq
 (.ops [
 ⟨(some 8), (.move (.tmp 0)), 3, none⟩,
 ⟨(some 4), (.assign (.tmp 8)), 3, none⟩])
 .ret)
 .skip))
 (.seq
 (.ops [
 ⟨(some 9), (.move (.tmp 1)), 3, none⟩,
 ⟨(some 4), (.assign (.tmp 9)), 3, none⟩])
 .ret))
theorem slim107 : Tryz.f107.body.map (slim lends) = some k107 := by kernel_rfl
theorem ok107 : fnOk Tryz.f107 2 = true := by kernel_rfl
theorem c107 {a l : List D} {r : D × List D} (h : wpD Y.env k107 (fin tys l.length [ResultVar.tmp 4] r) (entry a l)) (ha : a.length = 2) : Y.call 107 a l = some r :=
 call_slim (Y := Y) rfl Tryz.func107 (ha ▸ ok107) slim107 h
theorem s_l1Least_call (a : Int) (b : Int) {r : Int} (h : s_l1Least a b = some r) : Y.call 107 [D.int .i64 a, D.int .i64 b] [] = some (D.int .i64 r, []) := by
 refine c107 ?_ rfl
 unfold k107
 unfold s_l1Least at h
 by_cases e1 : a < b
 ·rw [if_pos e1] at h
  obtain rfl := Option.some.inj h
  simp (maxDischargeDepth := 9) only [↓xpre, xpost, xcore, yset, ↓reduceIte, Nat.reduceEqDiff, Nat.reduceLT, e1]
 ·rw [if_neg e1] at h
  obtain rfl := Option.some.inj h
  simp (maxDischargeDepth := 9) only [↓xpre, xpost, xcore, yset, ↓reduceIte, Nat.reduceEqDiff, Nat.reduceLT, e1]

noncomputable def s_l1Most (a : Int) (b : Int) : Option (Int) :=
 if b < a then
  some a
 else
  some b
/-- spec.l1Most -/
def k108 : SC :=
 .seq
 (.ops [
 ⟨(some 4), (.assign (.const (.int .i64 0))), 3, none⟩])
 (.seq
 (.seq
 (.ops [
 ⟨(some 5), (.move (.tmp 0)), 3, none⟩,
 ⟨(some 6), (.move (.tmp 1)), 3, none⟩,
 ⟨(some 7), (.binOp .gtr 3 (.tmp 5) (.tmp 6) 3), 4, none⟩])
 (.cond (.tmp 7)
 (.seq
 (.ops [
 ⟨(some 8), (.move (.tmp 0)), 3, none⟩,
 ⟨(some 4), (.assign (.tmp 8)), 3, none⟩])
 .ret)
 .skip))
 (.seq
 (.ops [
 ⟨(some 9), (.move (.tmp 1)), 3, none⟩,
 ⟨(some 4), (.assign (.tmp 9)), 3, none⟩])
 .ret))
theorem slim108 : Tryz.f108.body.map (slim lends) = some k108 := by kernel_rfl
theorem ok108 : fnOk Tryz.f108 2 = true := by kernel_rfl
theorem c108 {a l : List D} {r : D × List D} (h : wpD Y.env k108 (fin tys l.length [ResultVar.tmp 4] r) (entry a l)) (ha : a.length = 2) : Y.call 108 a l = some r :=
 call_slim (Y := Y) rfl Tryz.func108 (ha ▸ ok108) slim108 h
theorem s_l1Most_call (a : Int) (b : Int) {r : Int} (h : s_l1Most a b = some r) : Y.call 108 [D.int .i64 a, D.int .i64 b] [] = some (D.int .i64 r, []) := by
 refine c108 ?_ rfl
 unfold k108
 unfold s_l1Most at h
 by_cases e1 : b < a
 ·rw [if_pos e1] at h
  obtain rfl := Option.some.inj h
  simp (maxDischargeDepth := 9) only [↓xpre, xpost, xcore, yset, ↓reduceIte, Nat.reduceEqDiff, Nat.reduceLT, e1]
 ·rw [if_neg e1] at h
  obtain rfl := Option.some.inj h
  simp (maxDischargeDepth := 9) only [↓xpre, xpost, xcore, yset, ↓reduceIte, Nat.reduceEqDiff, Nat.reduceLT, e1]

noncomputable def s_vaClip (x_ : Int) : Option (Int) :=
 (s_l1Least x_ (1000000 : Int)).bind fun r1_ =>
 (s_l1Most (-1000000 : Int) r1_).bind fun r2_ =>
 some r2_
/-- spec.vaClip -/
def k93 : SC :=
 .seq
 (.ops [
 ⟨(some 2), (.assign (.const (.int .i64 0))), 3, none⟩])
 (.seq
 (.ops [
 ⟨(some 3), (.move (.tmp 0)), 3, none⟩,
 ⟨(some 4), (.call ⟨(.value (.func 107)), #[(.tmp 3), (.const (.int .i64 1000000))], #[3, 3]⟩), 3, none⟩,
 ⟨(some 5), (.call ⟨(.value (.func 108)), #[(.const (.int .i64 (-1000000))), (.tmp 4)], #[3, 3]⟩), 3, none⟩,
 ⟨(some 2), (.assign (.tmp 5)), 3, none⟩])
 .ret)
theorem slim93 : Tryz.f93.body.map (slim lends) = some k93 := by kernel_rfl
theorem ok93 : fnOk Tryz.f93 1 = true := by kernel_rfl
theorem c93 {a l : List D} {r : D × List D} (h : wpD Y.env k93 (fin tys l.length [ResultVar.tmp 2] r) (entry a l)) (ha : a.length = 1) : Y.call 93 a l = some r :=
 call_slim (Y := Y) rfl Tryz.func93 (ha ▸ ok93) slim93 h
theorem s_vaClip_call (x_ : Int) {r : Int} (h : s_vaClip x_ = some r) : Y.call 93 [D.int .i64 x_] [] = some (D.int .i64 r, []) := by
 refine c93 ?_ rfl
 unfold k93
 unfold s_vaClip at h
 obtain ⟨r1_, hl1, h⟩ := bindS h
 try dsimp only at h
 have c1 := s_l1Least_call x_ (1000000 : Int) hl1
 obtain ⟨r2_, hl2, h⟩ := bindS h
 try dsimp only at h
 have c2 := s_l1Most_call (-1000000 : Int) r1_ hl2
 obtain rfl := Option.some.inj h
 simp (maxDischargeDepth := 9) only [↓xpre, xpost, xcore, yset, ↓reduceIte, Nat.reduceEqDiff, Nat.reduceLT, Nat.reduceAdd, Int.reduceNeg, c1, c2]

noncomputable def s_vaNode_vaCount_l0_S (x_near : List Int) (low : Int) (high : Int) (n_ : Int) (t13_ : Int) : Option ((Int × Int) ⊕ (Int)) :=
 if t13_ < (x_near.length : Int) then
  ck (0 ≤ t13_ ∧ t13_.toNat < x_near.length) <|
  if low ≤ (x_near.getD t13_.toNat default) then
   if (x_near.getD t13_.toNat default) < high then
    some (Sum.inl (IntKind.i64.wrap (n_ + 1), IntKind.i64.wrap (t13_ + 1)))
   else
    some (Sum.inl (n_, IntKind.i64.wrap (t13_ + 1)))
  else
   some (Sum.inl (n_, IntKind.i64.wrap (t13_ + 1)))
 else
  some (Sum.inr n_)
noncomputable def s_vaNode_vaCount_l0 (x_near : List Int) (low : Int) (high : Int) (v : Int × Int) : Option (Int) := itO (fun v => s_vaNode_vaCount_l0_S x_near low high v.1 v.2) v
noncomputable def s_vaNode_vaCount (x_own : Int) (x_id : Int) (x_input : Int) (x_round : Int) (x_near : List Int) (low : Int) (high : Int) : Option (Int) :=
 (s_vaNode_vaCount_l0 x_near low high (0, 0)).bind fun r2_ =>
 some r2_
/-- spec.vaNode).vaCount -/
def k91_l0b : SC :=
 .seq
 (.ops [
 ⟨(some 14), (.binOp .lss 3 (.tmp 13) (.tmp 12) 3), 0, none⟩])
 (.seq
 (.cond (.tmp 14)
 .skip
 (.exit 0))
 (.seq
 (.block 1
 (.seq
 (.ops [
 ⟨(some 15), (.indexAddr 26 (.tmp 11) (.tmp 13)), 0, none⟩,
 ⟨(some 16), (.load 3 (.tmp 15)), 3, none⟩,
 ⟨(some 9), (.assign (.tmp 16)), 3, none⟩])
 (.seq
 (.ops [
 ⟨(some 17), (.move (.tmp 9)), 3, none⟩,
 ⟨(some 18), (.move (.tmp 1)), 3, none⟩,
 ⟨(some 19), (.binOp .geq 3 (.tmp 17) (.tmp 18) 3), 4, none⟩,
 ⟨(some 20), (.move (.tmp 19)), 4, none⟩,
 ⟨(some 21), (.move (.tmp 9)), 3, (some (some 20, true))⟩,
 ⟨(some 22), (.move (.tmp 2)), 3, (some (some 20, true))⟩,
 ⟨(some 23), (.binOp .lss 3 (.tmp 21) (.tmp 22) 3), 4, (some (some 20, true))⟩,
 ⟨(some 24), (.pick (.tmp 20) (.tmp 23) (.const (.bool false))), 4, none⟩])
 (.cond (.tmp 24)
 (.ops [
 ⟨(some 25), (.move (.tmp 7)), 3, none⟩,
 ⟨(some 26), (.binOp .add 3 (.tmp 25) (.const (.int .i64 1)) 3), 3, none⟩,
 ⟨(some 7), (.assign (.tmp 26)), 3, none⟩])
 .skip))))
 (.ops [
 ⟨(some 27), (.binOp .add 3 (.tmp 13) (.const (.int .i64 1)) 3), 3, none⟩,
 ⟨(some 13), (.move (.tmp 27)), 3, none⟩])))
def k91_l0 : SC := .loop k91_l0b
def k91 : SC :=
 .seq
 (.ops [
 ⟨(some 3), (.box 96 (.tmp 0)), 0, none⟩,
 ⟨(some 6), (.assign (.const (.int .i64 0))), 3, none⟩])
 (.seq
 (.ops [
 ⟨(some 7), (.assign (.const (.int .i64 0))), 3, none⟩])
 (.seq
 (.seq
 (.ops [
 ⟨(some 10), (.fieldAddr 96 (.tmp 3) 4), 0, none⟩,
 ⟨(some 11), (.load 26 (.tmp 10)), 26, none⟩,
 ⟨(some 12), (.call ⟨(.builtin .len), #[(.tmp 11)], #[26]⟩), 3, none⟩,
 ⟨(some 13), (.move (.const (.int .i64 0))), 3, none⟩])
 (.block 0
 k91_l0))
 (.seq
 (.ops [
 ⟨(some 28), (.move (.tmp 7)), 3, none⟩,
 ⟨(some 6), (.assign (.tmp 28)), 3, none⟩])
 .ret)))
theorem slim91 : Tryz.f91.body.map (slim lends) = some k91 := by kernel_rfl
theorem ok91 : fnOk Tryz.f91 3 = true := by kernel_rfl
theorem c91 {a l : List D} {r : D × List D} (h : wpD Y.env k91 (fin tys l.length [ResultVar.tmp 6] r) (entry a l)) (ha : a.length = 3) : Y.call 91 a l = some r :=
 call_slim (Y := Y) rfl Tryz.func91 (ha ▸ ok91) slim91 h
def s_vaNode_vaCount_l0_M (x_near : List Int) (low : Int) (high : Int) (n_ : Int) (t13_ : Int) (s : St) : Prop := s.v 1 = D.int .i64 low ∧ s.v 2 = D.int .i64 high ∧ s.v 7 = D.int .i64 n_ ∧ s.v 11 = D.sl 3 (lst (D.int .i64) x_near) ∧ s.v 12 = D.int .i64 (x_near.length : Int) ∧ s.v 13 = D.int .i64 t13_
def s_vaNode_vaCount_l0_X (x_near : List Int) (low : Int) (high : Int) (r : Int) (ex : Ex) (s : St) : Prop := ex = .exit 0 ∧ s.v 7 = D.int .i64 r
theorem s_vaNode_vaCount_l0_wp (x_near : List Int) (low : Int) (high : Int) {v : Int × Int} {s : St} {r : Int} (h : s_vaNode_vaCount_l0 x_near low high v = some r) (hM : s_vaNode_vaCount_l0_M x_near low high v.1 v.2 s) : wpD Y.env k91_l0 (s_vaNode_vaCount_l0_X x_near low high r) s := by
 unfold s_vaNode_vaCount_l0 at h
 refine wd_itO (c := k91_l0b) (fun v => s_vaNode_vaCount_l0_S x_near low high v.1 v.2) (fun v s => s_vaNode_vaCount_l0_M x_near low high v.1 v.2 s) (s_vaNode_vaCount_l0_X x_near low high) ?_ h hM
 clear h hM s v r
 intro v s o hM h
 obtain ⟨n_, t13_⟩ := v
 dsimp only at h hM
 unfold s_vaNode_vaCount_l0_S at h
 unfold s_vaNode_vaCount_l0_M at hM
 obtain ⟨m0, m1, m2, m3, m4, m5⟩ := hM
 unfold k91_l0b
 by_cases e1 : t13_ < (x_near.length : Int)
 ·rw [if_pos e1] at h
  obtain ⟨e2, h⟩ := ckS h
  by_cases e3 : low ≤ (x_near.getD t13_.toNat default)
  ·rw [if_pos e3] at h
   by_cases e4 : (x_near.getD t13_.toNat default) < high
   ·rw [if_pos e4] at h
    obtain rfl := Option.some.inj h
    simp (maxDischargeDepth := 9) only [↓xpre, xpost, xlst, xcore, yset, ↓reduceIte, Nat.reduceEqDiff, m0, m1, m2, m3, m4, m5, e1, e2.1, e2.2, e3, e4, s_vaNode_vaCount_l0_M, sxN]
   ·rw [if_neg e4] at h
    obtain rfl := Option.some.inj h
    simp (maxDischargeDepth := 9) only [↓xpre, xpost, xlst, xcore, yset, ↓reduceIte, Nat.reduceEqDiff, m0, m1, m2, m3, m4, m5, e1, e2.1, e2.2, e3, e4, s_vaNode_vaCount_l0_M, sxN]
  ·rw [if_neg e3] at h
   obtain rfl := Option.some.inj h
   simp (maxDischargeDepth := 9) only [↓xpre, xpost, xlst, xcore, yset, ↓reduceIte, Nat.reduceEqDiff, m0, m1, m2, m3, m4, m5, e1, e2.1, e2.2, e3, s_vaNode_vaCount_l0_M, sxN]
 ·rw [if_neg e1] at h
  obtain rfl := Option.some.inj h
  simp (maxDischargeDepth := 9) only [↓xpre, xpost, yset, ↓reduceIte, Nat.reduceEqDiff, m2, m4, m5, e1, s_vaNode_vaCount_l0_M, s_vaNode_vaCount_l0_X, sxE]
theorem s_vaNode_vaCount_call (x_own : Int) (x_id : Int) (x_input : Int) (x_round : Int) (x_near : List Int) (low : Int) (high : Int) {r : Int} (h : s_vaNode_vaCount x_own x_id x_input x_round x_near low high = some r) : Y.call 91 [D.agg [D.int .i64 x_own, D.int .i64 x_id, D.int .i64 x_input, D.int .i64 x_round, D.sl 3 (lst (D.int .i64) x_near)], D.int .i64 low, D.int .i64 high] [] = some (D.int .i64 r, []) := by
 refine c91 ?_ rfl
 unfold k91
 unfold s_vaNode_vaCount at h
 obtain ⟨r2_, hl2, h⟩ := bindS h
 try dsimp only at h
 simp (maxDischargeDepth := 9) only [↓xpre, xpost, xlst, xcore, yset, ↓reduceIte, Nat.reduceEqDiff, Nat.reduceLT, Nat.reduceAdd]
 refine wd_mono (s_vaNode_vaCount_l0_wp x_near low high hl2 ?_) ?_
 ·simp (maxDischargeDepth := 9) only [xpost, xcore, ↓reduceIte, Nat.reduceEqDiff, Nat.reduceLT, s_vaNode_vaCount_l0_M]
 ·intro ex2 s2 hX2
  unfold s_vaNode_vaCount_l0_X at hX2
  obtain ⟨rfl, n2_0⟩ := hX2
  obtain rfl := Option.some.inj h
  simp (maxDischargeDepth := 9) only [↓xpre, xpost, xcore, ↓reduceIte, Nat.reduceEqDiff, n2_0]

noncomputable def s_vaIs (is : Bool) : Option (Int) :=
 if is = true then
  some 1
 else
  some 0
/-- spec.vaIs -/
def k109 : SC :=
 .seq
 (.ops [
 ⟨(some 2), (.assign (.const (.int .i64 0))), 3, none⟩])
 (.seq
 (.seq
 (.ops [
 ⟨(some 3), (.move (.tmp 0)), 4, none⟩])
 (.cond (.tmp 3)
 (.seq
 (.ops [
 ⟨(some 2), (.assign (.const (.int .i64 1))), 3, none⟩])
 .ret)
 .skip))
 (.seq
 (.ops [
 ⟨(some 2), (.assign (.const (.int .i64 0))), 3, none⟩])
 .ret))
theorem slim109 : Tryz.f109.body.map (slim lends) = some k109 := by kernel_rfl
theorem ok109 : fnOk Tryz.f109 1 = true := by kernel_rfl
theorem c109 {a l : List D} {r : D × List D} (h : wpD Y.env k109 (fin tys l.length [ResultVar.tmp 2] r) (entry a l)) (ha : a.length = 1) : Y.call 109 a l = some r :=
 call_slim (Y := Y) rfl Tryz.func109 (ha ▸ ok109) slim109 h
theorem s_vaIs_call (is : Bool) {r : Int} (h : s_vaIs is = some r) : Y.call 109 [D.bool is] [] = some (D.int .i64 r, []) := by
 refine c109 ?_ rfl
 unfold k109
 unfold s_vaIs at h
 by_cases e1 : is = true
 ·rw [if_pos e1] at h
  obtain rfl := Option.some.inj h
  simp (maxDischargeDepth := 9) only [↓xpre, xpost, xcore, yset, ↓reduceIte, Nat.reduceEqDiff, Nat.reduceLT, e1]
 ·rw [if_neg e1] at h
  have e1f : is = false := Bool.eq_false_iff.mpr e1
  obtain rfl := Option.some.inj h
  simp (maxDischargeDepth := 9) only [↓xpre, xpost, xcore, yset, ↓reduceIte, Nat.reduceEqDiff, Nat.reduceLT, e1f]

noncomputable def s_vaTwo (kind : Int) (a : Int) (b : Int) : Option (Int) :=
 if kind = 13 then
  some (IntKind.i64.wrap (a + b))
 else
  if kind = 14 then
   some (IntKind.i64.wrap (a - b))
  else
   if kind = 15 then
    (s_l1Least a b).bind fun r4_ =>
    some r4_
   else
    if kind = 16 then
     (s_l1Most a b).bind fun r5_ =>
     some r5_
    else
     if kind = 17 then
      (s_vaIs (decide (a < b))).bind fun r6_ =>
      some r6_
     else
      (s_vaIs (decide (a = b))).bind fun r6_ =>
      some r6_
/-- spec.vaTwo -/
def k92 : SC :=
 .seq
 (.ops [
 ⟨(some 6), (.assign (.const (.int .i64 0))), 3, none⟩])
 (.seq
 (.seq
 (.ops [
 ⟨(some 7), (.move (.tmp 0)), 3, none⟩])
 (.block 0
 (.seq
 (.ops [
 ⟨(some 9), (.binOp .eql 3 (.tmp 7) (.const (.int .i64 13)) 3), 4, none⟩,
 ⟨(some 8), (.assign (.tmp 9)), 4, none⟩])
 (.cond (.tmp 8)
 (.seq
 (.ops [
 ⟨(some 10), (.move (.tmp 1)), 3, none⟩,
 ⟨(some 11), (.move (.tmp 2)), 3, none⟩,
 ⟨(some 12), (.binOp .add 3 (.tmp 10) (.tmp 11) 3), 3, none⟩,
 ⟨(some 6), (.assign (.tmp 12)), 3, none⟩])
 .ret)
 (.seq
 (.ops [
 ⟨(some 14), (.binOp .eql 3 (.tmp 7) (.const (.int .i64 14)) 3), 4, none⟩,
 ⟨(some 13), (.assign (.tmp 14)), 4, none⟩])
 (.cond (.tmp 13)
 (.seq
 (.ops [
 ⟨(some 15), (.move (.tmp 1)), 3, none⟩,
 ⟨(some 16), (.move (.tmp 2)), 3, none⟩,
 ⟨(some 17), (.binOp .sub 3 (.tmp 15) (.tmp 16) 3), 3, none⟩,
 ⟨(some 6), (.assign (.tmp 17)), 3, none⟩])
 .ret)
 (.seq
 (.ops [
 ⟨(some 19), (.binOp .eql 3 (.tmp 7) (.const (.int .i64 15)) 3), 4, none⟩,
 ⟨(some 18), (.assign (.tmp 19)), 4, none⟩])
 (.cond (.tmp 18)
 (.seq
 (.ops [
 ⟨(some 20), (.move (.tmp 1)), 3, none⟩,
 ⟨(some 21), (.move (.tmp 2)), 3, none⟩,
 ⟨(some 22), (.call ⟨(.value (.func 107)), #[(.tmp 20), (.tmp 21)], #[3, 3]⟩), 3, none⟩,
 ⟨(some 6), (.assign (.tmp 22)), 3, none⟩])
 .ret)
 (.seq
 (.ops [
 ⟨(some 24), (.binOp .eql 3 (.tmp 7) (.const (.int .i64 16)) 3), 4, none⟩,
 ⟨(some 23), (.assign (.tmp 24)), 4, none⟩])
 (.cond (.tmp 23)
 (.seq
 (.ops [
 ⟨(some 25), (.move (.tmp 1)), 3, none⟩,
 ⟨(some 26), (.move (.tmp 2)), 3, none⟩,
 ⟨(some 27), (.call ⟨(.value (.func 108)), #[(.tmp 25), (.tmp 26)], #[3, 3]⟩), 3, none⟩,
 ⟨(some 6), (.assign (.tmp 27)), 3, none⟩])
 .ret)
 (.seq
 (.ops [
 ⟨(some 29), (.binOp .eql 3 (.tmp 7) (.const (.int .i64 17)) 3), 4, none⟩,
 ⟨(some 28), (.assign (.tmp 29)), 4, none⟩])
 (.cond (.tmp 28)
 (.seq
 (.ops [
 ⟨(some 30), (.move (.tmp 1)), 3, none⟩,
 ⟨(some 31), (.move (.tmp 2)), 3, none⟩,
 ⟨(some 32), (.binOp .lss 3 (.tmp 30) (.tmp 31) 3), 4, none⟩,
 ⟨(some 33), (.call ⟨(.value (.func 109)), #[(.tmp 32)], #[4]⟩), 3, none⟩,
 ⟨(some 6), (.assign (.tmp 33)), 3, none⟩])
 .ret)
 .skip))))))))))))
 (.seq
 (.ops [
 ⟨(some 34), (.move (.tmp 1)), 3, none⟩,
 ⟨(some 35), (.move (.tmp 2)), 3, none⟩,
 ⟨(some 36), (.binOp .eql 3 (.tmp 34) (.tmp 35) 3), 4, none⟩,
 ⟨(some 37), (.call ⟨(.value (.func 109)), #[(.tmp 36)], #[4]⟩), 3, none⟩,
 ⟨(some 6), (.assign (.tmp 37)), 3, none⟩])
 .ret))
theorem slim92 : Tryz.f92.body.map (slim lends) = some k92 := by kernel_rfl
theorem ok92 : fnOk Tryz.f92 3 = true := by kernel_rfl
theorem c92 {a l : List D} {r : D × List D} (h : wpD Y.env k92 (fin tys l.length [ResultVar.tmp 6] r) (entry a l)) (ha : a.length = 3) : Y.call 92 a l = some r :=
 call_slim (Y := Y) rfl Tryz.func92 (ha ▸ ok92) slim92 h
theorem s_vaTwo_call (kind : Int) (a : Int) (b : Int) {r : Int} (h : s_vaTwo kind a b = some r) : Y.call 92 [D.int .i64 kind, D.int .i64 a, D.int .i64 b] [] = some (D.int .i64 r, []) := by
 refine c92 ?_ rfl
 unfold k92
 unfold s_vaTwo at h
 by_cases e1 : kind = 13
 ·rw [if_pos e1] at h
  obtain rfl := Option.some.inj h
  simp (maxDischargeDepth := 9) only [↓xpre, xpost, xcore, yset, ↓reduceIte, Nat.reduceEqDiff, Nat.reduceLT, decide_eq_true e1]
 ·rw [if_neg e1] at h
  by_cases e2 : kind = 14
  ·rw [if_pos e2] at h
   obtain rfl := Option.some.inj h
   simp (maxDischargeDepth := 9) only [↓xpre, xpost, xcore, yset, ↓reduceIte, Nat.reduceEqDiff, Nat.reduceLT, e1, decide_eq_true e2]
  ·rw [if_neg e2] at h
   by_cases e3 : kind = 15
   ·rw [if_pos e3] at h
    obtain ⟨r4_, hl4, h⟩ := bindS h
    try dsimp only at h
    have c4 := s_l1Least_call a b hl4
    obtain rfl := Option.some.inj h
    simp (maxDischargeDepth := 9) only [↓xpre, xpost, xcore, yset, ↓reduceIte, Nat.reduceEqDiff, Nat.reduceLT, Nat.reduceAdd, e1, e2, decide_eq_true e3, c4]
   ·rw [if_neg e3] at h
    by_cases e4 : kind = 16
    ·rw [if_pos e4] at h
     obtain ⟨r5_, hl5, h⟩ := bindS h
     try dsimp only at h
     have c5 := s_l1Most_call a b hl5
     obtain rfl := Option.some.inj h
     simp (maxDischargeDepth := 9) only [↓xpre, xpost, xcore, yset, ↓reduceIte, Nat.reduceEqDiff, Nat.reduceLT, Nat.reduceAdd, e1, e2, e3, decide_eq_true e4, c5]
    ·rw [if_neg e4] at h
     by_cases e5 : kind = 17
     ·rw [if_pos e5] at h
      obtain ⟨r6_, hl6, h⟩ := bindS h
      try dsimp only at h
      have c6 := s_vaIs_call (decide (a < b)) hl6
      obtain rfl := Option.some.inj h
      simp (maxDischargeDepth := 9) only [↓xpre, xpost, xcore, yset, ↓reduceIte, Nat.reduceEqDiff, Nat.reduceLT, Nat.reduceAdd, e1, e2, e3, e4, decide_eq_true e5, c6]
     ·rw [if_neg e5] at h
      obtain ⟨r6_, hl6, h⟩ := bindS h
      try dsimp only at h
      have c6 := s_vaIs_call (decide (a = b)) hl6
      obtain rfl := Option.some.inj h
      simp (maxDischargeDepth := 9) only [↓xpre, xpost, xcore, yset, ↓reduceIte, Nat.reduceEqDiff, Nat.reduceLT, Nat.reduceAdd, e1, e2, e3, e4, e5, c6]

noncomputable def s_vaEval_l0_S (t0_ : List (Int × Int)) (t1_own : Int) (t1_id : Int) (t1_input : Int) (t1_round : Int) (t1_near : List Int) (t5_ : List Int) (t13_ : Int) : Option (((List Int) × Int) ⊕ ((List Int))) :=
 if t13_ < (t0_.length : Int) then
  ck (0 ≤ t13_ ∧ t13_.toNat < t0_.length) <|
  (s_vaNeeds (fstD t0_ t13_.toNat)).bind fun r3_ =>
  ck (0 ≤ IntKind.i64.wrap ((t5_.length : Int) - r3_)) <|
  ck ((IntKind.i64.wrap ((t5_.length : Int) - r3_)).toNat ≤ t5_.length) <|
  (s_l1Own ((t5_.drop ((IntKind.i64.wrap ((t5_.length : Int) - r3_)).toNat)).take (t5_.length - (IntKind.i64.wrap ((t5_.length : Int) - r3_)).toNat))).bind fun r6_ =>
  if (r6_.length : Int) = 0 then
   (s_vaNode_vaLook t1_own t1_id t1_input t1_round t1_near (fstD t0_ t13_.toNat) (sndD t0_ t13_.toNat)).bind fun r8_ =>
   (s_vaClip r8_).bind fun r9_ =>
   ck ((t5_.take ((IntKind.i64.wrap ((t5_.length : Int) - r3_)).toNat)).length + 1 < 1099511627776) <|
   some (Sum.inl (((t5_.take ((IntKind.i64.wrap ((t5_.length : Int) - r3_)).toNat)) ++ [r9_]), IntKind.i64.wrap (t13_ + 1)))
  else
   if (fstD t0_ t13_.toNat) = 11 then
    ck (0 < r6_.length) <|
    (s_vaNode_vaCount t1_own t1_id t1_input t1_round t1_near (r6_.getD 0 default) (IntKind.i64.wrap ((r6_.getD 0 default) + 1))).bind fun r10_ =>
    (s_vaClip r10_).bind fun r11_ =>
    ck ((t5_.take ((IntKind.i64.wrap ((t5_.length : Int) - r3_)).toNat)).length + 1 < 1099511627776) <|
    some (Sum.inl (((t5_.take ((IntKind.i64.wrap ((t5_.length : Int) - r3_)).toNat)) ++ [r11_]), IntKind.i64.wrap (t13_ + 1)))
   else
    if (fstD t0_ t13_.toNat) = 12 then
     ck (0 < r6_.length) <|
     (s_vaNode_vaCount t1_own t1_id t1_input t1_round t1_near (-1000000 : Int) (r6_.getD 0 default)).bind fun r11_ =>
     (s_vaClip r11_).bind fun r12_ =>
     ck ((t5_.take ((IntKind.i64.wrap ((t5_.length : Int) - r3_)).toNat)).length + 1 < 1099511627776) <|
     some (Sum.inl (((t5_.take ((IntKind.i64.wrap ((t5_.length : Int) - r3_)).toNat)) ++ [r12_]), IntKind.i64.wrap (t13_ + 1)))
    else
     if (r6_.length : Int) = 2 then
      ck (0 < r6_.length) <|
      ck (1 < r6_.length) <|
      (s_vaTwo (fstD t0_ t13_.toNat) (r6_.getD 0 default) (r6_.getD 1 default)).bind fun r13_ =>
      (s_vaClip r13_).bind fun r14_ =>
      ck ((t5_.take ((IntKind.i64.wrap ((t5_.length : Int) - r3_)).toNat)).length + 1 < 1099511627776) <|
      some (Sum.inl (((t5_.take ((IntKind.i64.wrap ((t5_.length : Int) - r3_)).toNat)) ++ [r14_]), IntKind.i64.wrap (t13_ + 1)))
     else
      ck (0 < r6_.length) <|
      if 0 < (r6_.getD 0 default) then
       ck (1 < r6_.length) <|
       (s_vaClip (r6_.getD 1 default)).bind fun r14_ =>
       ck ((t5_.take ((IntKind.i64.wrap ((t5_.length : Int) - r3_)).toNat)).length + 1 < 1099511627776) <|
       some (Sum.inl (((t5_.take ((IntKind.i64.wrap ((t5_.length : Int) - r3_)).toNat)) ++ [r14_]), IntKind.i64.wrap (t13_ + 1)))
      else
       ck (2 < r6_.length) <|
       (s_vaClip (r6_.getD 2 default)).bind fun r14_ =>
       ck ((t5_.take ((IntKind.i64.wrap ((t5_.length : Int) - r3_)).toNat)).length + 1 < 1099511627776) <|
       some (Sum.inl (((t5_.take ((IntKind.i64.wrap ((t5_.length : Int) - r3_)).toNat)) ++ [r14_]), IntKind.i64.wrap (t13_ + 1)))
 else
  some (Sum.inr t5_)
noncomputable def s_vaEval_l0 (t0_ : List (Int × Int)) (t1_own : Int) (t1_id : Int) (t1_input : Int) (t1_round : Int) (t1_near : List Int) (v : (List Int) × Int) : Option ((List Int)) := itO (fun v => s_vaEval_l0_S t0_ t1_own t1_id t1_input t1_round t1_near v.1 v.2) v
noncomputable def s_vaEval (t0_ : List (Int × Int)) (t1_own : Int) (t1_id : Int) (t1_input : Int) (t1_round : Int) (t1_near : List Int) : Option (Int) :=
 (s_vaEval_l0 t0_ t1_own t1_id t1_input t1_round t1_near ([], 0)).bind fun r2_ =>
 ck (0 < r2_.length) <|
 some (r2_.getD 0 default)
/-- spec.vaEval -/
def k74_l0b : SC :=
 .seq
 (.ops [
 ⟨(some 14), (.binOp .lss 3 (.tmp 13) (.tmp 12) 3), 0, none⟩])
 (.seq
 (.cond (.tmp 14)
 .skip
 (.exit 0))
 (.seq
 (.block 1
 (.seq
 (.ops [
 ⟨(some 15), (.indexAddr 49 (.tmp 11) (.tmp 13)), 0, none⟩,
 ⟨(some 16), (.load 73 (.tmp 15)), 73, none⟩,
 ⟨(some 7), (.alloc 73), 0, none⟩,
 ⟨none, (.store 73 (.tmp 7) (.tmp 16)), 0, none⟩])
 (.seq
 (.ops [
 ⟨(some 17), (.move (.tmp 5)), 26, none⟩,
 ⟨(some 18), (.call ⟨(.builtin .len), #[(.tmp 17)], #[26]⟩), 3, none⟩,
 ⟨(some 19), (.fieldAddr 73 (.tmp 7) 0), 0, none⟩,
 ⟨(some 20), (.load 3 (.tmp 19)), 3, none⟩,
 ⟨(some 21), (.call ⟨(.value (.func 89)), #[(.tmp 20)], #[3]⟩), 3, none⟩,
 ⟨(some 22), (.binOp .sub 3 (.tmp 18) (.tmp 21) 3), 3, none⟩,
 ⟨(some 8), (.assign (.tmp 22)), 3, none⟩])
 (.seq
 (.ops [
 ⟨(some 23), (.move (.tmp 5)), 26, none⟩,
 ⟨(some 24), (.move (.tmp 8)), 3, none⟩,
 ⟨(some 25), (.slice 26 (.tmp 23) (some (.tmp 24)) none none), 900001, none⟩,
 ⟨(some 26), (.call ⟨(.value (.func 46)), #[(.tmp 25)], #[26]⟩), 26, none⟩,
 ⟨(some 9), (.assign (.tmp 26)), 26, none⟩])
 (.seq
 (.ops [
 ⟨(some 10), (.assign (.const (.int .i64 0))), 3, none⟩])
 (.seq
 (.block 2
 (.seq
 (.ops [
 ⟨(some 31), (.move (.tmp 9)), 26, none⟩,
 ⟨(some 32), (.call ⟨(.builtin .len), #[(.tmp 31)], #[26]⟩), 3, none⟩,
 ⟨(some 33), (.binOp .eql 3 (.tmp 32) (.const (.int .i64 0)) 3), 4, none⟩,
 ⟨(some 30), (.assign (.tmp 33)), 4, none⟩])
 (.cond (.tmp 30)
 (.ops [
 ⟨(some 34), (.load 96 (.tmp 3)), 96, none⟩,
 ⟨(some 35), (.load 73 (.tmp 7)), 73, none⟩,
 ⟨(some 36), (.call ⟨(.value (.func 90)), #[(.tmp 34), (.tmp 35)], #[96, 73]⟩), 3, none⟩,
 ⟨(some 10), (.assign (.tmp 36)), 3, none⟩])
 (.seq
 (.ops [
 ⟨(some 38), (.fieldAddr 73 (.tmp 7) 0), 0, none⟩,
 ⟨(some 39), (.load 3 (.tmp 38)), 3, none⟩,
 ⟨(some 40), (.binOp .eql 3 (.tmp 39) (.const (.int .i64 11)) 3), 4, none⟩,
 ⟨(some 37), (.assign (.tmp 40)), 4, none⟩])
 (.cond (.tmp 37)
 (.draws [
 (⟨[41, 3, 3], [41, 42, 43, 44, 45, 46, 47, 48, 49, 10, 49], [41]⟩, ⟨(some 41), (.load 96 (.tmp 3)), 96, none⟩),
 (⟨[42, 9, 9], [41, 42, 43, 44, 45, 46, 47, 48, 49, 10, 49], [42]⟩, ⟨(some 42), (.move (.tmp 9)), 26, none⟩),
 (⟨[43, 42, 9], [41, 42, 43, 44, 45, 46, 47, 48, 49, 10, 49], [43]⟩, ⟨(some 43), (.indexAddr 26 (.tmp 42) (.const (.int .i64 0))), 0, none⟩),
 (⟨[44, 43, 9], [41, 42, 43, 44, 45, 46, 47, 48, 49, 10, 49], [44]⟩, ⟨(some 44), (.load 3 (.tmp 43)), 3, none⟩),
 (⟨[45, 9, 9], [41, 42, 43, 44, 45, 46, 47, 48, 49, 10, 49], [45]⟩, ⟨(some 45), (.move (.tmp 9)), 26, none⟩),
 (⟨[46, 45, 9], [41, 42, 43, 44, 45, 46, 47, 48, 49, 10, 49], [46]⟩, ⟨(some 46), (.indexAddr 26 (.tmp 45) (.const (.int .i64 0))), 0, none⟩),
 (⟨[47, 46, 9], [41, 42, 43, 44, 45, 46, 47, 48, 49, 10, 49], [47]⟩, ⟨(some 47), (.load 3 (.tmp 46)), 3, none⟩),
 (⟨[48, 47, 9], [41, 42, 43, 44, 45, 46, 47, 48, 49, 10, 49], [48]⟩, ⟨(some 48), (.binOp .add 3 (.tmp 47) (.const (.int .i64 1)) 3), 3, none⟩),
 (⟨[49, 41, 44, 48, 3, 9, 48], [41, 42, 43, 44, 45, 46, 47, 48, 49, 10, 49], [49]⟩, ⟨(some 49), (.call ⟨(.value (.func 91)), #[(.tmp 41), (.tmp 44), (.tmp 48)], #[96, 3, 3]⟩), 3, none⟩),
 (⟨[10, 49, 49], [41, 42, 43, 44, 45, 46, 47, 48, 49, 10, 49], [10, 49]⟩, ⟨(some 10), (.assign (.tmp 49)), 3, none⟩)])
 (.seq
 (.ops [
 ⟨(some 51), (.fieldAddr 73 (.tmp 7) 0), 0, none⟩,
 ⟨(some 52), (.load 3 (.tmp 51)), 3, none⟩,
 ⟨(some 53), (.binOp .eql 3 (.tmp 52) (.const (.int .i64 12)) 3), 4, none⟩,
 ⟨(some 50), (.assign (.tmp 53)), 4, none⟩])
 (.cond (.tmp 50)
 (.draws [
 (⟨[54, 3, 3], [54, 55, 56, 57, 58, 10, 58], [54]⟩, ⟨(some 54), (.load 96 (.tmp 3)), 96, none⟩),
 (⟨[55, 9, 9], [54, 55, 56, 57, 58, 10, 58], [55]⟩, ⟨(some 55), (.move (.tmp 9)), 26, none⟩),
 (⟨[56, 55, 9], [54, 55, 56, 57, 58, 10, 58], [56]⟩, ⟨(some 56), (.indexAddr 26 (.tmp 55) (.const (.int .i64 0))), 0, none⟩),
 (⟨[57, 56, 9], [54, 55, 56, 57, 58, 10, 58], [57]⟩, ⟨(some 57), (.load 3 (.tmp 56)), 3, none⟩),
 (⟨[58, 54, 57, 3, 9], [54, 55, 56, 57, 58, 10, 58], [58]⟩, ⟨(some 58), (.call ⟨(.value (.func 91)), #[(.tmp 54), (.const (.int .i64 (-1000000))), (.tmp 57)], #[96, 3, 3]⟩), 3, none⟩),
 (⟨[10, 58, 58], [54, 55, 56, 57, 58, 10, 58], [10, 58]⟩, ⟨(some 10), (.assign (.tmp 58)), 3, none⟩)])
 (.seq
 (.ops [
 ⟨(some 60), (.move (.tmp 9)), 26, none⟩,
 ⟨(some 61), (.call ⟨(.builtin .len), #[(.tmp 60)], #[26]⟩), 3, none⟩,
 ⟨(some 62), (.binOp .eql 3 (.tmp 61) (.const (.int .i64 2)) 3), 4, none⟩,
 ⟨(some 59), (.assign (.tmp 62)), 4, none⟩])
 (.cond (.tmp 59)
 (.draws [
 (⟨[63, 7, 7], [63, 64, 65, 66, 67, 68, 69, 70, 71, 10, 71], [63]⟩, ⟨(some 63), (.fieldAddr 73 (.tmp 7) 0), 0, none⟩),
 (⟨[64, 63, 7], [63, 64, 65, 66, 67, 68, 69, 70, 71, 10, 71], [64]⟩, ⟨(some 64), (.load 3 (.tmp 63)), 3, none⟩),
 (⟨[65, 9, 9], [63, 64, 65, 66, 67, 68, 69, 70, 71, 10, 71], [65]⟩, ⟨(some 65), (.move (.tmp 9)), 26, none⟩),
 (⟨[66, 65, 9], [63, 64, 65, 66, 67, 68, 69, 70, 71, 10, 71], [66]⟩, ⟨(some 66), (.indexAddr 26 (.tmp 65) (.const (.int .i64 0))), 0, none⟩),
 (⟨[67, 66, 9], [63, 64, 65, 66, 67, 68, 69, 70, 71, 10, 71], [67]⟩, ⟨(some 67), (.load 3 (.tmp 66)), 3, none⟩),
 (⟨[68, 9, 9], [63, 64, 65, 66, 67, 68, 69, 70, 71, 10, 71], [68]⟩, ⟨(some 68), (.move (.tmp 9)), 26, none⟩),
 (⟨[69, 68, 9], [63, 64, 65, 66, 67, 68, 69, 70, 71, 10, 71], [69]⟩, ⟨(some 69), (.indexAddr 26 (.tmp 68) (.const (.int .i64 1))), 0, none⟩),
 (⟨[70, 69, 9], [63, 64, 65, 66, 67, 68, 69, 70, 71, 10, 71], [70]⟩, ⟨(some 70), (.load 3 (.tmp 69)), 3, none⟩),
 (⟨[71, 64, 67, 70, 7, 9, 9], [63, 64, 65, 66, 67, 68, 69, 70, 71, 10, 71], [71]⟩, ⟨(some 71), (.call ⟨(.value (.func 92)), #[(.tmp 64), (.tmp 67), (.tmp 70)], #[3, 3, 3]⟩), 3, none⟩),
 (⟨[10, 71, 71], [63, 64, 65, 66, 67, 68, 69, 70, 71, 10, 71], [10, 71]⟩, ⟨(some 10), (.assign (.tmp 71)), 3, none⟩)])
 (.seq
 (.ops [
 ⟨(some 73), (.move (.tmp 9)), 26, none⟩,
 ⟨(some 74), (.indexAddr 26 (.tmp 73) (.const (.int .i64 0))), 0, none⟩,
 ⟨(some 75), (.load 3 (.tmp 74)), 3, none⟩,
 ⟨(some 76), (.binOp .gtr 3 (.tmp 75) (.const (.int .i64 0)) 3), 4, none⟩,
 ⟨(some 72), (.assign (.tmp 76)), 4, none⟩])
 (.cond (.tmp 72)
 (.ops [
 ⟨(some 77), (.move (.tmp 9)), 26, none⟩,
 ⟨(some 78), (.indexAddr 26 (.tmp 77) (.const (.int .i64 1))), 0, none⟩,
 ⟨(some 79), (.load 3 (.tmp 78)), 3, none⟩,
 ⟨(some 10), (.assign (.tmp 79)), 3, none⟩])
 (.ops [
 ⟨(some 27), (.move (.tmp 9)), 26, none⟩,
 ⟨(some 28), (.indexAddr 26 (.tmp 27) (.const (.int .i64 2))), 0, none⟩,
 ⟨(some 29), (.load 3 (.tmp 28)), 3, none⟩,
 ⟨(some 10), (.assign (.tmp 29)), 3, none⟩]))))))))))))
 (.draws [
 (⟨[80, 5, 5], [80, 81, 82, 80, 81, 5, 8, 83, 84, 85, 84, 84, 86, 82, 85, 5, 85, 5, 86, 86], [80]⟩, ⟨(some 80), (.move (.tmp 5)), 26, none⟩),
 (⟨[81, 8, 8], [80, 81, 82, 80, 81, 5, 8, 83, 84, 85, 84, 84, 86, 82, 85, 5, 85, 5, 86, 86], [81]⟩, ⟨(some 81), (.move (.tmp 8)), 3, none⟩),
 (⟨[82, 80, 81, 5, 8], [80, 81, 82, 80, 81, 5, 8, 83, 84, 85, 84, 84, 86, 82, 85, 5, 85, 5, 86, 86], [82, 80, 81, 5, 8]⟩, ⟨(some 82), (.slice 26 (.tmp 80) none (some (.tmp 81)) none), 900002, none⟩),
 (⟨[83, 10, 10], [80, 81, 82, 80, 81, 5, 8, 83, 84, 85, 84, 84, 86, 82, 85, 5, 85, 5, 86, 86], [83]⟩, ⟨(some 83), (.move (.tmp 10)), 3, none⟩),
 (⟨[84, 83, 10], [80, 81, 82, 80, 81, 5, 8, 83, 84, 85, 84, 84, 86, 82, 85, 5, 85, 5, 86, 86], [84]⟩, ⟨(some 84), (.call ⟨(.value (.func 93)), #[(.tmp 83)], #[3]⟩), 3, none⟩),
 (⟨[85, 84, 84], [80, 81, 82, 80, 81, 5, 8, 83, 84, 85, 84, 84, 86, 82, 85, 5, 85, 5, 86, 86], [85, 84, 84]⟩, ⟨(some 85), (.buildSlice 26 1 #[(0, (.tmp 84))]), 26, none⟩),
 (⟨[86, 82, 85, 5, 85], [80, 81, 82, 80, 81, 5, 8, 83, 84, 85, 84, 84, 86, 82, 85, 5, 85, 5, 86, 86], [86, 82, 85, 5, 85]⟩, ⟨(some 86), (.call ⟨(.builtin .append), #[(.tmp 82), (.tmp 85)], #[26, 26]⟩), 26, none⟩),
 (⟨[5, 86, 86], [80, 81, 82, 80, 81, 5, 8, 83, 84, 85, 84, 84, 86, 82, 85, 5, 85, 5, 86, 86], [5, 86, 86]⟩, ⟨(some 5), (.assign (.tmp 86)), 26, none⟩)])))))))
 (.ops [
 ⟨(some 87), (.binOp .add 3 (.tmp 13) (.const (.int .i64 1)) 3), 3, none⟩,
 ⟨(some 13), (.move (.tmp 87)), 3, none⟩])))
def k74_l0 : SC := .loop k74_l0b
def k74 : SC :=
 .seq
 (.ops [
 ⟨(some 3), (.box 96 (.tmp 1)), 0, none⟩,
 ⟨(some 4), (.assign (.const (.int .i64 0))), 3, none⟩])
 (.seq
 (.ops [
 ⟨(some 5), (.assign (.const (.slice none 0 0))), 26, none⟩])
 (.seq
 (.seq
 (.ops [
 ⟨(some 11), (.move (.tmp 0)), 49, none⟩,
 ⟨(some 12), (.call ⟨(.builtin .len), #[(.tmp 11)], #[49]⟩), 3, none⟩,
 ⟨(some 13), (.move (.const (.int .i64 0))), 3, none⟩])
 (.block 0
 k74_l0))
 (.seq
 (.ops [
 ⟨(some 88), (.move (.tmp 5)), 26, none⟩,
 ⟨(some 89), (.indexAddr 26 (.tmp 88) (.const (.int .i64 0))), 0, none⟩,
 ⟨(some 90), (.load 3 (.tmp 89)), 3, none⟩,
 ⟨(some 4), (.assign (.tmp 90)), 3, none⟩])
 .ret)))
theorem slim74 : Tryz.f74.body.map (slim lends) = some k74 := by kernel_rfl
theorem ok74 : fnOk Tryz.f74 2 = true := by kernel_rfl
theorem c74 {a l : List D} {r : D × List D} (h : wpD Y.env k74 (fin tys l.length [ResultVar.tmp 4] r) (entry a l)) (ha : a.length = 2) : Y.call 74 a l = some r :=
 call_slim (Y := Y) rfl Tryz.func74 (ha ▸ ok74) slim74 h
def s_vaEval_l0_M (t0_ : List (Int × Int)) (t1_own : Int) (t1_id : Int) (t1_input : Int) (t1_round : Int) (t1_near : List Int) (t5_ : List Int) (t13_ : Int) (s : St) : Prop := s.v 3 = D.box [D.int .i64 t1_own, D.int .i64 t1_id, D.int .i64 t1_input, D.int .i64 t1_round, D.sl 3 (lst (D.int .i64) t1_near)] ∧ s.v 5 = D.own 3 (lst (D.int .i64) t5_) ∧ s.v 11 = D.sl 73 (cat2 .i64 .i64 t0_) ∧ s.v 12 = D.int .i64 (t0_.length : Int) ∧ s.v 13 = D.int .i64 t13_
def s_vaEval_l0_X (t0_ : List (Int × Int)) (t1_own : Int) (t1_id : Int) (t1_input : Int) (t1_round : Int) (t1_near : List Int) (r : (List Int)) (ex : Ex) (s : St) : Prop := ex = .exit 0 ∧ s.v 5 = D.own 3 (lst (D.int .i64) r)
theorem s_vaEval_l0_wp (t0_ : List (Int × Int)) (t1_own : Int) (t1_id : Int) (t1_input : Int) (t1_round : Int) (t1_near : List Int) {v : (List Int) × Int} {s : St} {r : (List Int)} (h : s_vaEval_l0 t0_ t1_own t1_id t1_input t1_round t1_near v = some r) (hM : s_vaEval_l0_M t0_ t1_own t1_id t1_input t1_round t1_near v.1 v.2 s) : wpD Y.env k74_l0 (s_vaEval_l0_X t0_ t1_own t1_id t1_input t1_round t1_near r) s := by
 unfold s_vaEval_l0 at h
 refine wd_itO (c := k74_l0b) (fun v => s_vaEval_l0_S t0_ t1_own t1_id t1_input t1_round t1_near v.1 v.2) (fun v s => s_vaEval_l0_M t0_ t1_own t1_id t1_input t1_round t1_near v.1 v.2 s) (s_vaEval_l0_X t0_ t1_own t1_id t1_input t1_round t1_near) ?_ h hM
 clear h hM s v r
 intro v s o hM h
 obtain ⟨t5_, t13_⟩ := v
 dsimp only at h hM
 unfold s_vaEval_l0_S at h
 unfold s_vaEval_l0_M at hM
 obtain ⟨m0, m1, m2, m3, m4⟩ := hM
 unfold k74_l0b
 by_cases e1 : t13_ < (t0_.length : Int)
 ·rw [if_pos e1] at h
  obtain ⟨e2, h⟩ := ckS h
  obtain ⟨r3_, hl3, h⟩ := bindS h
  try dsimp only at h
  have c3 := s_vaNeeds_call (fstD t0_ t13_.toNat) hl3
  obtain ⟨e4, h⟩ := ckS h
  obtain ⟨e5, h⟩ := ckS h
  obtain ⟨r6_, hl6, h⟩ := bindS h
  try dsimp only at h
  have c6 := s_l1Own_call ((t5_.drop ((IntKind.i64.wrap ((t5_.length : Int) - r3_)).toNat)).take (t5_.length - (IntKind.i64.wrap ((t5_.length : Int) - r3_)).toNat)) hl6
  by_cases e7 : (r6_.length : Int) = 0
  ·rw [if_pos e7] at h
   obtain ⟨r8_, hl8, h⟩ := bindS h
   try dsimp only at h
   have c8 := s_vaNode_vaLook_call t1_own t1_id t1_input t1_round t1_near (fstD t0_ t13_.toNat) (sndD t0_ t13_.toNat) hl8
   obtain ⟨r9_, hl9, h⟩ := bindS h
   try dsimp only at h
   have c9 := s_vaClip_call r8_ hl9
   obtain ⟨e10, h⟩ := ckS h
   obtain rfl := Option.some.inj h
   simp (maxDischargeDepth := 9) only [↓xpre, xpost, xlst, xc2, xcore, yset, ↓reduceIte, Nat.reduceEqDiff, Nat.reduceLT, Nat.reduceLeDiff, Nat.reduceAdd, Nat.reduceBEq, Int.reduceNeg, m0, m1, m2, m3, m4, e1, e2.1, e2.2, c3, e4, e5, c6, decide_eq_true e7, c8, c9, e10, s_vaEval_l0_M, sxN]
  ·rw [if_neg e7] at h
   by_cases e8 : (fstD t0_ t13_.toNat) = 11
   ·rw [if_pos e8] at h
    obtain ⟨e9, h⟩ := ckS h
    obtain ⟨r10_, hl10, h⟩ := bindS h
    try dsimp only at h
    have c10 := s_vaNode_vaCount_call t1_own t1_id t1_input t1_round t1_near (r6_.getD 0 default) (IntKind.i64.wrap ((r6_.getD 0 default) + 1)) hl10
    obtain ⟨r11_, hl11, h⟩ := bindS h
    try dsimp only at h
    have c11 := s_vaClip_call r10_ hl11
    obtain ⟨e12, h⟩ := ckS h
    obtain rfl := Option.some.inj h
    simp (maxDischargeDepth := 9) only [↓xpre, xpost, xlst, xc2, xcore, yset, ↓reduceIte, Nat.reduceEqDiff, Nat.reduceLT, Nat.reduceLeDiff, Nat.reduceAdd, Nat.reduceBEq, Int.reduceNeg, m0, m1, m2, m3, m4, e1, e2.1, e2.2, c3, e4, e5, c6, e7, decide_eq_true e8, e9, c10, c11, e12, s_vaEval_l0_M, sxN]
   ·rw [if_neg e8] at h
    by_cases e9 : (fstD t0_ t13_.toNat) = 12
    ·rw [if_pos e9] at h
     obtain ⟨e10, h⟩ := ckS h
     obtain ⟨r11_, hl11, h⟩ := bindS h
     try dsimp only at h
     have c11 := s_vaNode_vaCount_call t1_own t1_id t1_input t1_round t1_near (-1000000 : Int) (r6_.getD 0 default) hl11
     obtain ⟨r12_, hl12, h⟩ := bindS h
     try dsimp only at h
     have c12 := s_vaClip_call r11_ hl12
     obtain ⟨e13, h⟩ := ckS h
     obtain rfl := Option.some.inj h
     simp (maxDischargeDepth := 9) only [↓xpre, xpost, xlst, xc2, xcore, yset, ↓reduceIte, Nat.reduceEqDiff, Nat.reduceLT, Nat.reduceLeDiff, Nat.reduceAdd, Nat.reduceBEq, Int.reduceNeg, m0, m1, m2, m3, m4, e1, e2.1, e2.2, c3, e4, e5, c6, e7, e8, decide_eq_true e9, e10, c11, c12, e13, s_vaEval_l0_M, sxN]
    ·rw [if_neg e9] at h
     by_cases e10 : (r6_.length : Int) = 2
     ·rw [if_pos e10] at h
      obtain ⟨e11, h⟩ := ckS h
      obtain ⟨e12, h⟩ := ckS h
      obtain ⟨r13_, hl13, h⟩ := bindS h
      try dsimp only at h
      have c13 := s_vaTwo_call (fstD t0_ t13_.toNat) (r6_.getD 0 default) (r6_.getD 1 default) hl13
      obtain ⟨r14_, hl14, h⟩ := bindS h
      try dsimp only at h
      have c14 := s_vaClip_call r13_ hl14
      obtain ⟨e15, h⟩ := ckS h
      obtain rfl := Option.some.inj h
      simp (maxDischargeDepth := 9) only [↓xpre, xpost, xlst, xc2, xcore, yset, ↓reduceIte, Nat.reduceEqDiff, Nat.reduceLT, Nat.reduceLeDiff, Nat.reduceAdd, Nat.reduceBEq, Int.reduceLE, Int.reduceToNat, Int.reduceNeg, m0, m1, m2, m3, m4, e1, e2.1, e2.2, c3, e4, e5, c6, e7, e8, e9, decide_eq_true e10, e11, e12, c13, c14, e15, s_vaEval_l0_M, sxN]
     ·rw [if_neg e10] at h
      obtain ⟨e11, h⟩ := ckS h
      by_cases e12 : 0 < (r6_.getD 0 default)
      ·rw [if_pos e12] at h
       obtain ⟨e13, h⟩ := ckS h
       obtain ⟨r14_, hl14, h⟩ := bindS h
       try dsimp only at h
       have c14 := s_vaClip_call (r6_.getD 1 default) hl14
       obtain ⟨e15, h⟩ := ckS h
       obtain rfl := Option.some.inj h
       simp (maxDischargeDepth := 9) only [↓xpre, xpost, xlst, xc2, xcore, yset, ↓reduceIte, Nat.reduceEqDiff, Nat.reduceLT, Nat.reduceLeDiff, Nat.reduceAdd, Nat.reduceBEq, Int.reduceLE, Int.reduceToNat, Int.reduceNeg, m0, m1, m2, m3, m4, e1, e2.1, e2.2, c3, e4, e5, c6, e7, e8, e9, e10, e11, e12, e13, c14, e15, s_vaEval_l0_M, sxN]
      ·rw [if_neg e12] at h
       obtain ⟨e13, h⟩ := ckS h
       obtain ⟨r14_, hl14, h⟩ := bindS h
       try dsimp only at h
       have c14 := s_vaClip_call (r6_.getD 2 default) hl14
       obtain ⟨e15, h⟩ := ckS h
       obtain rfl := Option.some.inj h
       simp (maxDischargeDepth := 9) only [↓xpre, xpost, xlst, xc2, xcore, yset, ↓reduceIte, Nat.reduceEqDiff, Nat.reduceLT, Nat.reduceLeDiff, Nat.reduceAdd, Nat.reduceBEq, Int.reduceLE, Int.reduceToNat, Int.reduceNeg, m0, m1, m2, m3, m4, e1, e2.1, e2.2, c3, e4, e5, c6, e7, e8, e9, e10, e11, e12, e13, c14, e15, s_vaEval_l0_M, sxN]
 ·rw [if_neg e1] at h
  obtain rfl := Option.some.inj h
  simp (maxDischargeDepth := 9) only [↓xpre, xpost, yset, ↓reduceIte, Nat.reduceEqDiff, Int.reduceNeg, m1, m3, m4, e1, s_vaEval_l0_M, s_vaEval_l0_X, sxE]
theorem s_vaEval_call (t0_ : List (Int × Int)) (t1_own : Int) (t1_id : Int) (t1_input : Int) (t1_round : Int) (t1_near : List Int) {r : Int} (h : s_vaEval t0_ t1_own t1_id t1_input t1_round t1_near = some r) : Y.call 74 [D.sl 73 (cat2 .i64 .i64 t0_), D.agg [D.int .i64 t1_own, D.int .i64 t1_id, D.int .i64 t1_input, D.int .i64 t1_round, D.sl 3 (lst (D.int .i64) t1_near)]] [] = some (D.int .i64 r, []) := by
 refine c74 ?_ rfl
 unfold k74
 unfold s_vaEval at h
 obtain ⟨r2_, hl2, h⟩ := bindS h
 try dsimp only at h
 simp (maxDischargeDepth := 9) only [↓xpre, xpost, xc2, xcore, yset, ↓reduceIte, Nat.reduceEqDiff, Nat.reduceLT]
 refine wd_mono (s_vaEval_l0_wp t0_ t1_own t1_id t1_input t1_round t1_near hl2 ?_) ?_
 ·simp (maxDischargeDepth := 9) only [xpost, ↓reduceIte, Nat.reduceEqDiff, s_vaEval_l0_M] <;> (repeat' apply And.intro) <;> first | rfl | exact ⟨_, rfl⟩ | simp [lst, cat2_nil]
 ·intro ex2 s2 hX2
  unfold s_vaEval_l0_X at hX2
  obtain ⟨rfl, n2_0⟩ := hX2
  obtain ⟨e3, h⟩ := ckS h
  obtain rfl := Option.some.inj h
  simp (maxDischargeDepth := 9) only [↓xpre, xpost, xlst, xcore, yset, ↓reduceIte, Nat.reduceEqDiff, n2_0, e3]

noncomputable def s_vaStep_l0_S (prog : List (Int × Int)) (n_Ends : List (List (Int × Int))) (n_Ids : List Int) (n_Inputs : List Int) (round : Int) (values : List Int) (out : List Int) (t15_ : Int) : Option (((List Int) × Int) ⊕ ((List Int))) :=
 if t15_ < (n_Ends.length : Int) then
  ck (0 ≤ t15_ ∧ t15_.toNat < values.length) <|
  ck (0 ≤ t15_ ∧ t15_.toNat < n_Inputs.length) <|
  (s_neNear n_Ends n_Ids n_Inputs t15_).bind fun r4_ =>
  (s_coThrough values r4_).bind fun r5_ =>
  if 0 < (n_Ids.length : Int) then
   ck (0 ≤ t15_ ∧ t15_.toNat < n_Ids.length) <|
   (s_vaEval prog (values.getD t15_.toNat default) (n_Ids.getD t15_.toNat default) (n_Inputs.getD t15_.toNat default) round r5_).bind fun r8_ =>
   ck (out.length + 1 < 1099511627776) <|
   some (Sum.inl ((out ++ [r8_]), IntKind.i64.wrap (t15_ + 1)))
  else
   (s_vaEval prog (values.getD t15_.toNat default) (0 : Int) (n_Inputs.getD t15_.toNat default) round r5_).bind fun r7_ =>
   ck (out.length + 1 < 1099511627776) <|
   some (Sum.inl ((out ++ [r7_]), IntKind.i64.wrap (t15_ + 1)))
 else
  some (Sum.inr out)
noncomputable def s_vaStep_l0 (prog : List (Int × Int)) (n_Ends : List (List (Int × Int))) (n_Ids : List Int) (n_Inputs : List Int) (round : Int) (values : List Int) (v : (List Int) × Int) : Option ((List Int)) := itO (fun v => s_vaStep_l0_S prog n_Ends n_Ids n_Inputs round values v.1 v.2) v
noncomputable def s_vaStep (prog : List (Int × Int)) (n_Ends : List (List (Int × Int))) (n_Ids : List Int) (n_Inputs : List Int) (round : Int) (values : List Int) : Option ((List Int)) :=
 (s_vaStep_l0 prog n_Ends n_Ids n_Inputs round values ([], 0)).bind fun r2_ =>
 some r2_
/-- spec.vaStep -/
def k47_l0b : SC :=
 .seq
 (.ops [
 ⟨(some 16), (.binOp .lss 3 (.tmp 15) (.tmp 14) 3), 0, none⟩])
 (.seq
 (.cond (.tmp 16)
 .skip
 (.exit 0))
 (.seq
 (.block 1
 (.seq
 (.ops [
 ⟨(some 17), (.move (.tmp 15)), 3, none⟩,
 ⟨(some 10), (.assign (.tmp 17)), 3, none⟩])
 (.seq
 (.draws [
 (⟨[18, 3, 3], [18, 19, 20, 21, 22, 23, 24, 25, 26, 27, 28, 29, 30, 31, 32, 33, 21, 26, 27, 32, 3, 5, 2, 32, 11, 11, 33, 11, 33], [18]⟩, ⟨(some 18), (.move (.tmp 3)), 26, none⟩),
 (⟨[19, 10, 10], [18, 19, 20, 21, 22, 23, 24, 25, 26, 27, 28, 29, 30, 31, 32, 33, 21, 26, 27, 32, 3, 5, 2, 32, 11, 11, 33, 11, 33], [19]⟩, ⟨(some 19), (.move (.tmp 10)), 3, none⟩),
 (⟨[20, 18, 19, 3, 10], [18, 19, 20, 21, 22, 23, 24, 25, 26, 27, 28, 29, 30, 31, 32, 33, 21, 26, 27, 32, 3, 5, 2, 32, 11, 11, 33, 11, 33], [20]⟩, ⟨(some 20), (.indexAddr 26 (.tmp 18) (.tmp 19)), 0, none⟩),
 (⟨[21, 20, 3], [18, 19, 20, 21, 22, 23, 24, 25, 26, 27, 28, 29, 30, 31, 32, 33, 21, 26, 27, 32, 3, 5, 2, 32, 11, 11, 33, 11, 33], [21]⟩, ⟨(some 21), (.load 3 (.tmp 20)), 3, none⟩),
 (⟨[22, 5, 5], [18, 19, 20, 21, 22, 23, 24, 25, 26, 27, 28, 29, 30, 31, 32, 33, 21, 26, 27, 32, 3, 5, 2, 32, 11, 11, 33, 11, 33], [22]⟩, ⟨(some 22), (.fieldAddr 37 (.tmp 5) 2), 0, none⟩),
 (⟨[23, 22, 5], [18, 19, 20, 21, 22, 23, 24, 25, 26, 27, 28, 29, 30, 31, 32, 33, 21, 26, 27, 32, 3, 5, 2, 32, 11, 11, 33, 11, 33], [23]⟩, ⟨(some 23), (.load 26 (.tmp 22)), 26, none⟩),
 (⟨[24, 10, 10], [18, 19, 20, 21, 22, 23, 24, 25, 26, 27, 28, 29, 30, 31, 32, 33, 21, 26, 27, 32, 3, 5, 2, 32, 11, 11, 33, 11, 33], [24]⟩, ⟨(some 24), (.move (.tmp 10)), 3, none⟩),
 (⟨[25, 23, 24, 5, 10], [18, 19, 20, 21, 22, 23, 24, 25, 26, 27, 28, 29, 30, 31, 32, 33, 21, 26, 27, 32, 3, 5, 2, 32, 11, 11, 33, 11, 33], [25]⟩, ⟨(some 25), (.indexAddr 26 (.tmp 23) (.tmp 24)), 0, none⟩),
 (⟨[26, 25, 5], [18, 19, 20, 21, 22, 23, 24, 25, 26, 27, 28, 29, 30, 31, 32, 33, 21, 26, 27, 32, 3, 5, 2, 32, 11, 11, 33, 11, 33], [26]⟩, ⟨(some 26), (.load 3 (.tmp 25)), 3, none⟩),
 (⟨[27, 2, 2], [18, 19, 20, 21, 22, 23, 24, 25, 26, 27, 28, 29, 30, 31, 32, 33, 21, 26, 27, 32, 3, 5, 2, 32, 11, 11, 33, 11, 33], [27]⟩, ⟨(some 27), (.move (.tmp 2)), 3, none⟩),
 (⟨[28, 3, 3], [18, 19, 20, 21, 22, 23, 24, 25, 26, 27, 28, 29, 30, 31, 32, 33, 21, 26, 27, 32, 3, 5, 2, 32, 11, 11, 33, 11, 33], [28]⟩, ⟨(some 28), (.move (.tmp 3)), 26, none⟩),
 (⟨[29, 5, 5], [18, 19, 20, 21, 22, 23, 24, 25, 26, 27, 28, 29, 30, 31, 32, 33, 21, 26, 27, 32, 3, 5, 2, 32, 11, 11, 33, 11, 33], [29]⟩, ⟨(some 29), (.load 37 (.tmp 5)), 37, none⟩),
 (⟨[30, 10, 10], [18, 19, 20, 21, 22, 23, 24, 25, 26, 27, 28, 29, 30, 31, 32, 33, 21, 26, 27, 32, 3, 5, 2, 32, 11, 11, 33, 11, 33], [30]⟩, ⟨(some 30), (.move (.tmp 10)), 3, none⟩),
 (⟨[31, 29, 30, 5, 10], [18, 19, 20, 21, 22, 23, 24, 25, 26, 27, 28, 29, 30, 31, 32, 33, 21, 26, 27, 32, 3, 5, 2, 32, 11, 11, 33, 11, 33], [31]⟩, ⟨(some 31), (.call ⟨(.value (.func 73)), #[(.tmp 29), (.tmp 30)], #[37, 3]⟩), 26, none⟩),
 (⟨[32, 28, 31, 3, 31], [18, 19, 20, 21, 22, 23, 24, 25, 26, 27, 28, 29, 30, 31, 32, 33, 21, 26, 27, 32, 3, 5, 2, 32, 11, 11, 33, 11, 33], [32]⟩, ⟨(some 32), (.call ⟨(.value (.func 72)), #[(.tmp 28), (.tmp 31)], #[26, 26]⟩), 26, none⟩),
 (⟨[33, 21, 26, 27, 32, 3, 5, 2, 32], [18, 19, 20, 21, 22, 23, 24, 25, 26, 27, 28, 29, 30, 31, 32, 33, 21, 26, 27, 32, 3, 5, 2, 32, 11, 11, 33, 11, 33], [33, 21, 26, 27, 32, 3, 5, 2, 32]⟩, ⟨(some 33), (.build 96 #[(0, (.tmp 21)), (2, (.tmp 26)), (3, (.tmp 27)), (4, (.tmp 32))]), 96, none⟩),
 (⟨[11], [18, 19, 20, 21, 22, 23, 24, 25, 26, 27, 28, 29, 30, 31, 32, 33, 21, 26, 27, 32, 3, 5, 2, 32, 11, 11, 33, 11, 33], [11]⟩, ⟨(some 11), (.alloc 96), 0, none⟩),
 (⟨[11, 33, 11, 33], [18, 19, 20, 21, 22, 23, 24, 25, 26, 27, 28, 29, 30, 31, 32, 33, 21, 26, 27, 32, 3, 5, 2, 32, 11, 11, 33, 11, 33], [11, 33, 11, 33]⟩, ⟨none, (.store 96 (.tmp 11) (.tmp 33)), 0, none⟩)])
 (.seq
 (.seq
 (.ops [
 ⟨(some 34), (.fieldAddr 37 (.tmp 5) 1), 0, none⟩,
 ⟨(some 35), (.load 26 (.tmp 34)), 26, none⟩,
 ⟨(some 36), (.call ⟨(.builtin .len), #[(.tmp 35)], #[26]⟩), 3, none⟩,
 ⟨(some 37), (.binOp .gtr 3 (.tmp 36) (.const (.int .i64 0)) 3), 4, none⟩])
 (.cond (.tmp 37)
 (.ops [
 ⟨(some 38), (.fieldAddr 37 (.tmp 5) 1), 0, none⟩,
 ⟨(some 39), (.load 26 (.tmp 38)), 26, none⟩,
 ⟨(some 40), (.move (.tmp 10)), 3, none⟩,
 ⟨(some 41), (.indexAddr 26 (.tmp 39) (.tmp 40)), 0, none⟩,
 ⟨(some 42), (.load 3 (.tmp 41)), 3, none⟩,
 ⟨(some 43), (.fieldAddr 96 (.tmp 11) 1), 0, none⟩,
 ⟨none, (.store 3 (.tmp 43) (.tmp 42)), 0, none⟩])
 .skip))
 (.ops [
 ⟨(some 44), (.move (.tmp 9)), 26, none⟩,
 ⟨(some 45), (.move (.tmp 0)), 49, none⟩,
 ⟨(some 46), (.load 96 (.tmp 11)), 96, none⟩,
 ⟨(some 47), (.call ⟨(.value (.func 74)), #[(.tmp 45), (.tmp 46)], #[49, 96]⟩), 3, none⟩,
 ⟨(some 48), (.buildSlice 26 1 #[(0, (.tmp 47))]), 26, none⟩,
 ⟨(some 49), (.call ⟨(.builtin .append), #[(.tmp 44), (.tmp 48)], #[26, 26]⟩), 26, none⟩,
 ⟨(some 9), (.assign (.tmp 49)), 26, none⟩])))))
 (.ops [
 ⟨(some 50), (.binOp .add 3 (.tmp 15) (.const (.int .i64 1)) 3), 3, none⟩,
 ⟨(some 15), (.move (.tmp 50)), 3, none⟩])))
def k47_l0 : SC := .loop k47_l0b
def k47 : SC :=
 .seq
 (.ops [
 ⟨(some 5), (.box 37 (.tmp 1)), 0, none⟩,
 ⟨(some 8), (.assign (.const (.slice none 0 0))), 26, none⟩])
 (.seq
 (.ops [
 ⟨(some 9), (.assign (.const (.slice none 0 0))), 26, none⟩])
 (.seq
 (.seq
 (.ops [
 ⟨(some 12), (.fieldAddr 37 (.tmp 5) 0), 0, none⟩,
 ⟨(some 13), (.load 35 (.tmp 12)), 35, none⟩,
 ⟨(some 14), (.call ⟨(.builtin .len), #[(.tmp 13)], #[35]⟩), 3, none⟩,
 ⟨(some 15), (.move (.const (.int .i64 0))), 3, none⟩])
 (.block 0
 k47_l0))
 (.seq
 (.ops [
 ⟨(some 51), (.move (.tmp 9)), 26, none⟩,
 ⟨(some 8), (.assign (.tmp 51)), 26, none⟩])
 .ret)))
theorem slim47 : Tryz.f47.body.map (slim lends) = some k47 := by kernel_rfl
theorem ok47 : fnOk Tryz.f47 4 = true := by kernel_rfl
theorem c47 {a l : List D} {r : D × List D} (h : wpD Y.env k47 (fin tys l.length [ResultVar.tmp 8] r) (entry a l)) (ha : a.length = 4) : Y.call 47 a l = some r :=
 call_slim (Y := Y) rfl Tryz.func47 (ha ▸ ok47) slim47 h
def s_vaStep_l0_M (prog : List (Int × Int)) (n_Ends : List (List (Int × Int))) (n_Ids : List Int) (n_Inputs : List Int) (round : Int) (values : List Int) (out : List Int) (t15_ : Int) (s : St) : Prop := s.v 0 = D.sl 73 (cat2 .i64 .i64 prog) ∧ s.v 2 = D.int .i64 round ∧ s.v 3 = D.sl 3 (lst (D.int .i64) values) ∧ s.v 5 = D.box [D.sl 62 (lst (fun x => D.sl 85 (cat2 .i64 .i64 x)) n_Ends), D.sl 3 (lst (D.int .i64) n_Ids), D.sl 3 (lst (D.int .i64) n_Inputs)] ∧ s.v 9 = D.own 3 (lst (D.int .i64) out) ∧ s.v 14 = D.int .i64 (n_Ends.length : Int) ∧ s.v 15 = D.int .i64 t15_
def s_vaStep_l0_X (prog : List (Int × Int)) (n_Ends : List (List (Int × Int))) (n_Ids : List Int) (n_Inputs : List Int) (round : Int) (values : List Int) (r : (List Int)) (ex : Ex) (s : St) : Prop := ex = .exit 0 ∧ s.v 9 = D.own 3 (lst (D.int .i64) r)
theorem s_vaStep_l0_wp (prog : List (Int × Int)) (n_Ends : List (List (Int × Int))) (n_Ids : List Int) (n_Inputs : List Int) (round : Int) (values : List Int) {v : (List Int) × Int} {s : St} {r : (List Int)} (h : s_vaStep_l0 prog n_Ends n_Ids n_Inputs round values v = some r) (hM : s_vaStep_l0_M prog n_Ends n_Ids n_Inputs round values v.1 v.2 s) : wpD Y.env k47_l0 (s_vaStep_l0_X prog n_Ends n_Ids n_Inputs round values r) s := by
 unfold s_vaStep_l0 at h
 refine wd_itO (c := k47_l0b) (fun v => s_vaStep_l0_S prog n_Ends n_Ids n_Inputs round values v.1 v.2) (fun v s => s_vaStep_l0_M prog n_Ends n_Ids n_Inputs round values v.1 v.2 s) (s_vaStep_l0_X prog n_Ends n_Ids n_Inputs round values) ?_ h hM
 clear h hM s v r
 intro v s o hM h
 obtain ⟨out, t15_⟩ := v
 dsimp only at h hM
 unfold s_vaStep_l0_S at h
 unfold s_vaStep_l0_M at hM
 obtain ⟨m0, m1, m2, m3, m4, m5, m6⟩ := hM
 unfold k47_l0b
 by_cases e1 : t15_ < (n_Ends.length : Int)
 ·rw [if_pos e1] at h
  obtain ⟨e2, h⟩ := ckS h
  obtain ⟨e3, h⟩ := ckS h
  obtain ⟨r4_, hl4, h⟩ := bindS h
  try dsimp only at h
  have c4 := s_neNear_call n_Ends n_Ids n_Inputs t15_ hl4
  obtain ⟨r5_, hl5, h⟩ := bindS h
  try dsimp only at h
  have c5 := s_coThrough_call values r4_ hl5
  by_cases e6 : 0 < (n_Ids.length : Int)
  ·rw [if_pos e6] at h
   obtain ⟨e7, h⟩ := ckS h
   obtain ⟨r8_, hl8, h⟩ := bindS h
   try dsimp only at h
   have c8 := s_vaEval_call prog (values.getD t15_.toNat default) (n_Ids.getD t15_.toNat default) (n_Inputs.getD t15_.toNat default) round r5_ hl8
   obtain ⟨e9, h⟩ := ckS h
   obtain rfl := Option.some.inj h
   simp (maxDischargeDepth := 9) only [↓xpre, xpost, xlst, xcore, yset, ↓reduceIte, Nat.reduceEqDiff, Nat.reduceLT, Nat.reduceLeDiff, Nat.reduceAdd, Nat.reduceBEq, m0, m1, m2, m3, m4, m5, m6, e1, e2.1, e2.2, e3.2, c4, c5, e6, e7.2, c8, e9, s_vaStep_l0_M, sxN]
  ·rw [if_neg e6] at h
   obtain ⟨r7_, hl7, h⟩ := bindS h
   try dsimp only at h
   have c7 := s_vaEval_call prog (values.getD t15_.toNat default) (0 : Int) (n_Inputs.getD t15_.toNat default) round r5_ hl7
   obtain ⟨e8, h⟩ := ckS h
   obtain rfl := Option.some.inj h
   simp (maxDischargeDepth := 9) only [↓xpre, xpost, xlst, xcore, yset, ↓reduceIte, Nat.reduceEqDiff, Nat.reduceLT, Nat.reduceLeDiff, Nat.reduceAdd, Nat.reduceBEq, m0, m1, m2, m3, m4, m5, m6, e1, e2.1, e2.2, e3.2, c4, c5, e6, c7, e8, s_vaStep_l0_M, sxN]
 ·rw [if_neg e1] at h
  obtain rfl := Option.some.inj h
  simp (maxDischargeDepth := 9) only [↓xpre, xpost, yset, ↓reduceIte, Nat.reduceEqDiff, m4, m5, m6, e1, s_vaStep_l0_M, s_vaStep_l0_X, sxE]
theorem s_vaStep_call (prog : List (Int × Int)) (n_Ends : List (List (Int × Int))) (n_Ids : List Int) (n_Inputs : List Int) (round : Int) (values : List Int) {r : (List Int)} (h : s_vaStep prog n_Ends n_Ids n_Inputs round values = some r) : Y.call 47 [D.sl 73 (cat2 .i64 .i64 prog), D.agg [D.sl 62 (lst (fun x => D.sl 85 (cat2 .i64 .i64 x)) n_Ends), D.sl 3 (lst (D.int .i64) n_Ids), D.sl 3 (lst (D.int .i64) n_Inputs)], D.int .i64 round, D.sl 3 (lst (D.int .i64) values)] [] = some (D.own 3 (lst (D.int .i64) r), []) := by
 refine c47 ?_ rfl
 unfold k47
 unfold s_vaStep at h
 obtain ⟨r2_, hl2, h⟩ := bindS h
 try dsimp only at h
 simp (maxDischargeDepth := 9) only [↓xpre, xpost, xlst, xcore, yset, ↓reduceIte, Nat.reduceEqDiff, Nat.reduceLT, Nat.reduceAdd]
 refine wd_mono (s_vaStep_l0_wp prog n_Ends n_Ids n_Inputs round values hl2 ?_) ?_
 ·simp (maxDischargeDepth := 9) only [xpost, xcore, ↓reduceIte, Nat.reduceEqDiff, Nat.reduceLT, s_vaStep_l0_M] <;> (repeat' apply And.intro) <;> first | rfl | exact ⟨_, rfl⟩ | simp [lst, cat2_nil]
 ·intro ex2 s2 hX2
  unfold s_vaStep_l0_X at hX2
  obtain ⟨rfl, n2_0⟩ := hX2
  obtain rfl := Option.some.inj h
  simp (maxDischargeDepth := 9) only [↓xpre, xpost, xlst, xcore, ↓reduceIte, Nat.reduceEqDiff, n2_0]

noncomputable def s_vaGood_l0_S (prog : List (Int × Int)) (depth : Int) (t12_ : Int) : Option ((Int × Int) ⊕ (Unit ⊕ Int)) :=
 if t12_ < (prog.length : Int) then
  ck (0 ≤ t12_ ∧ t12_.toNat < prog.length) <|
  if (inR (fstD prog t12_.toNat) (1 : Int) (19 : Int)) = true then
   if (inR (sndD prog t12_.toNat) (0 : Int) (1000000 : Int)) = true then
    if (fstD prog t12_.toNat) = 1 then
     (s_vaNeeds (fstD prog t12_.toNat)).bind fun r10_ =>
     if depth < r10_ then
      some (Sum.inr (Sum.inl ()))
     else
      some (Sum.inl (IntKind.i64.wrap (depth + (IntKind.i64.wrap (1 - r10_))), IntKind.i64.wrap (t12_ + 1)))
    else
     if (sndD prog t12_.toNat) = 0 then
      (s_vaNeeds (fstD prog t12_.toNat)).bind fun r11_ =>
      if depth < r11_ then
       some (Sum.inr (Sum.inl ()))
      else
       some (Sum.inl (IntKind.i64.wrap (depth + (IntKind.i64.wrap (1 - r11_))), IntKind.i64.wrap (t12_ + 1)))
     else
      some (Sum.inr (Sum.inl ()))
   else
    some (Sum.inr (Sum.inl ()))
  else
   some (Sum.inr (Sum.inl ()))
 else
  some (Sum.inr (Sum.inr depth))
noncomputable def s_vaGood_l0 (prog : List (Int × Int)) (v : Int × Int) : Option (Unit ⊕ Int) := itO (fun v => s_vaGood_l0_S prog v.1 v.2) v
noncomputable def s_vaGood (prog : List (Int × Int)) : Option (Bool) :=
 if (inR (prog.length : Int) (1 : Int) (40 : Int)) = true then
  (s_vaGood_l0 prog (0, 0)).bind fun r4_ =>
  match r4_ with
  | .inl q4_ =>
   some false
  | .inr q4_ =>
   some (decide (q4_ = 1))
 else
  some false
/-- spec.vaGood -/
def k70_l0b : SC :=
 .seq
 (.ops [
 ⟨(some 13), (.binOp .lss 3 (.tmp 12) (.tmp 11) 3), 0, none⟩])
 (.seq
 (.cond (.tmp 13)
 .skip
 (.exit 0))
 (.seq
 (.block 1
 (.seq
 (.ops [
 ⟨(some 14), (.indexAddr 49 (.tmp 10) (.tmp 12)), 0, none⟩,
 ⟨(some 15), (.load 73 (.tmp 14)), 73, none⟩,
 ⟨(some 5), (.alloc 73), 0, none⟩,
 ⟨none, (.store 73 (.tmp 5) (.tmp 15)), 0, none⟩])
 (.seq
 (.seq
 (.ops [
 ⟨(some 16), (.fieldAddr 73 (.tmp 5) 0), 0, none⟩,
 ⟨(some 17), (.load 3 (.tmp 16)), 3, none⟩,
 ⟨(some 18), (.call ⟨(.value (.func 45)), #[(.tmp 17), (.const (.int .i64 1)), (.const (.int .i64 19))], #[3, 3, 3]⟩), 4, none⟩,
 ⟨(some 19), (.unOp .not 4 (.tmp 18)), 4, none⟩,
 ⟨(some 20), (.move (.tmp 19)), 4, none⟩,
 ⟨(some 21), (.fieldAddr 73 (.tmp 5) 1), 0, (some (some 20, false))⟩,
 ⟨(some 22), (.load 3 (.tmp 21)), 3, (some (some 20, false))⟩,
 ⟨(some 23), (.call ⟨(.value (.func 45)), #[(.tmp 22), (.const (.int .i64 0)), (.const (.int .i64 1000000))], #[3, 3, 3]⟩), 4, (some (some 20, false))⟩,
 ⟨(some 24), (.unOp .not 4 (.tmp 23)), 4, (some (some 20, false))⟩,
 ⟨(some 25), (.pick (.tmp 20) (.const (.bool true)) (.tmp 24)), 4, none⟩,
 ⟨(some 26), (.move (.tmp 25)), 4, none⟩,
 ⟨(some 27), (.fieldAddr 73 (.tmp 5) 0), 0, (some (some 26, false))⟩,
 ⟨(some 28), (.load 3 (.tmp 27)), 3, (some (some 26, false))⟩,
 ⟨(some 29), (.binOp .neq 3 (.tmp 28) (.const (.int .i64 1)) 3), 4, (some (some 26, false))⟩,
 ⟨(some 30), (.move (.tmp 29)), 4, (some (some 26, false))⟩,
 ⟨(some 31), (.fieldAddr 73 (.tmp 5) 1), 0, (some (some 30, true))⟩,
 ⟨(some 32), (.load 3 (.tmp 31)), 3, (some (some 30, true))⟩,
 ⟨(some 33), (.binOp .neq 3 (.tmp 32) (.const (.int .i64 0)) 3), 4, (some (some 30, true))⟩,
 ⟨(some 34), (.pick (.tmp 30) (.tmp 33) (.const (.bool false))), 4, (some (some 26, false))⟩,
 ⟨(some 35), (.pick (.tmp 26) (.const (.bool true)) (.tmp 34)), 4, none⟩,
 ⟨(some 36), (.move (.tmp 35)), 4, none⟩,
 ⟨(some 37), (.move (.tmp 3)), 3, (some (some 36, false))⟩,
 ⟨(some 38), (.fieldAddr 73 (.tmp 5) 0), 0, (some (some 36, false))⟩,
 ⟨(some 39), (.load 3 (.tmp 38)), 3, (some (some 36, false))⟩,
 ⟨(some 40), (.call ⟨(.value (.func 89)), #[(.tmp 39)], #[3]⟩), 3, (some (some 36, false))⟩,
 ⟨(some 41), (.binOp .lss 3 (.tmp 37) (.tmp 40) 3), 4, (some (some 36, false))⟩,
 ⟨(some 42), (.pick (.tmp 36) (.const (.bool true)) (.tmp 41)), 4, none⟩])
 (.cond (.tmp 42)
 (.seq
 (.ops [
 ⟨(some 2), (.assign (.const (.bool false))), 4, none⟩])
 .ret)
 .skip))
 (.ops [
 ⟨(some 43), (.move (.tmp 3)), 3, none⟩,
 ⟨(some 44), (.fieldAddr 73 (.tmp 5) 0), 0, none⟩,
 ⟨(some 45), (.load 3 (.tmp 44)), 3, none⟩,
 ⟨(some 46), (.call ⟨(.value (.func 89)), #[(.tmp 45)], #[3]⟩), 3, none⟩,
 ⟨(some 47), (.binOp .sub 3 (.const (.int .i64 1)) (.tmp 46) 3), 3, none⟩,
 ⟨(some 48), (.binOp .add 3 (.tmp 43) (.tmp 47) 3), 3, none⟩,
 ⟨(some 3), (.assign (.tmp 48)), 3, none⟩]))))
 (.ops [
 ⟨(some 49), (.binOp .add 3 (.tmp 12) (.const (.int .i64 1)) 3), 3, none⟩,
 ⟨(some 12), (.move (.tmp 49)), 3, none⟩])))
def k70_l0 : SC := .loop k70_l0b
def k70 : SC :=
 .seq
 (.ops [
 ⟨(some 2), (.assign (.const (.bool false))), 4, none⟩])
 (.seq
 (.seq
 (.ops [
 ⟨(some 6), (.move (.tmp 0)), 49, none⟩,
 ⟨(some 7), (.call ⟨(.builtin .len), #[(.tmp 6)], #[49]⟩), 3, none⟩,
 ⟨(some 8), (.call ⟨(.value (.func 45)), #[(.tmp 7), (.const (.int .i64 1)), (.const (.int .i64 40))], #[3, 3, 3]⟩), 4, none⟩,
 ⟨(some 9), (.unOp .not 4 (.tmp 8)), 4, none⟩])
 (.cond (.tmp 9)
 (.seq
 (.ops [
 ⟨(some 2), (.assign (.const (.bool false))), 4, none⟩])
 .ret)
 .skip))
 (.seq
 (.ops [
 ⟨(some 3), (.assign (.const (.int .i64 0))), 3, none⟩])
 (.seq
 (.seq
 (.ops [
 ⟨(some 10), (.move (.tmp 0)), 49, none⟩,
 ⟨(some 11), (.call ⟨(.builtin .len), #[(.tmp 10)], #[49]⟩), 3, none⟩,
 ⟨(some 12), (.move (.const (.int .i64 0))), 3, none⟩])
 (.block 0
 k70_l0))
 (.seq
 (.ops [
 ⟨(some 50), (.move (.tmp 3)), 3, none⟩,
 ⟨(some 51), (.binOp .eql 3 (.tmp 50) (.const (.int .i64 1)) 3), 4, none⟩,
 ⟨(some 2), (.assign (.tmp 51)), 4, none⟩])
 .ret))))
theorem slim70 : Tryz.f70.body.map (slim lends) = some k70 := by kernel_rfl
theorem ok70 : fnOk Tryz.f70 1 = true := by kernel_rfl
theorem c70 {a l : List D} {r : D × List D} (h : wpD Y.env k70 (fin tys l.length [ResultVar.tmp 2] r) (entry a l)) (ha : a.length = 1) : Y.call 70 a l = some r :=
 call_slim (Y := Y) rfl Tryz.func70 (ha ▸ ok70) slim70 h
def s_vaGood_l0_M (prog : List (Int × Int)) (depth : Int) (t12_ : Int) (s : St) : Prop := s.v 3 = D.int .i64 depth ∧ s.v 10 = D.sl 73 (cat2 .i64 .i64 prog) ∧ s.v 11 = D.int .i64 (prog.length : Int) ∧ s.v 12 = D.int .i64 t12_
def s_vaGood_l0_X (prog : List (Int × Int)) (r : Unit ⊕ Int) (ex : Ex) (s : St) : Prop := match r with
 | .inl q => ex = .ret ∧ s.v 2 = D.bool false
 | .inr q => ex = .exit 0 ∧ s.v 3 = D.int .i64 q
theorem s_vaGood_l0_wp (prog : List (Int × Int)) {v : Int × Int} {s : St} {r : Unit ⊕ Int} (h : s_vaGood_l0 prog v = some r) (hM : s_vaGood_l0_M prog v.1 v.2 s) : wpD Y.env k70_l0 (s_vaGood_l0_X prog r) s := by
 unfold s_vaGood_l0 at h
 refine wd_itO (c := k70_l0b) (fun v => s_vaGood_l0_S prog v.1 v.2) (fun v s => s_vaGood_l0_M prog v.1 v.2 s) (s_vaGood_l0_X prog) ?_ h hM
 clear h hM s v r
 intro v s o hM h
 obtain ⟨depth, t12_⟩ := v
 dsimp only at h hM
 unfold s_vaGood_l0_S at h
 unfold s_vaGood_l0_M at hM
 obtain ⟨m0, m1, m2, m3⟩ := hM
 unfold k70_l0b
 by_cases e3 : t12_ < (prog.length : Int)
 ·rw [if_pos e3] at h
  obtain ⟨e4, h⟩ := ckS h
  have c5 := s_l1In_cl (fstD prog t12_.toNat) (1 : Int) (19 : Int)
  by_cases e6 : (inR (fstD prog t12_.toNat) (1 : Int) (19 : Int)) = true
  ·rw [if_pos e6] at h
   have c7 := s_l1In_cl (sndD prog t12_.toNat) (0 : Int) (1000000 : Int)
   by_cases e8 : (inR (sndD prog t12_.toNat) (0 : Int) (1000000 : Int)) = true
   ·rw [if_pos e8] at h
    by_cases e9 : (fstD prog t12_.toNat) = 1
    ·rw [if_pos e9] at h
     obtain ⟨r10_, hl10, h⟩ := bindS h
     try dsimp only at h
     have c10 := s_vaNeeds_call (fstD prog t12_.toNat) hl10
     by_cases e11 : depth < r10_
     ·rw [if_pos e11] at h
      obtain rfl := Option.some.inj h
      simp (maxDischargeDepth := 9) only [↓xpre, xpost, xc2, xcore, yset, ↓reduceIte, Nat.reduceEqDiff, Nat.reduceLT, Nat.reduceAdd, m0, m1, m2, m3, e3, e4.1, e4.2, c5, e6, c7, e8, decide_eq_true e9, c10, e11, s_vaGood_l0_M, s_vaGood_l0_X, sxR]
     ·rw [if_neg e11] at h
      obtain rfl := Option.some.inj h
      simp (maxDischargeDepth := 9) only [↓xpre, xpost, xc2, xcore, yset, ↓reduceIte, Nat.reduceEqDiff, Nat.reduceLT, Nat.reduceAdd, m0, m1, m2, m3, e3, e4.1, e4.2, c5, e6, c7, e8, decide_eq_true e9, c10, e11, s_vaGood_l0_M, sxN]
    ·rw [if_neg e9] at h
     by_cases e10 : (sndD prog t12_.toNat) = 0
     ·rw [if_pos e10] at h
      obtain ⟨r11_, hl11, h⟩ := bindS h
      try dsimp only at h
      have c11 := s_vaNeeds_call (fstD prog t12_.toNat) hl11
      by_cases e12 : depth < r11_
      ·rw [if_pos e12] at h
       obtain rfl := Option.some.inj h
       simp (maxDischargeDepth := 9) only [↓xpre, xpost, xc2, xcore, yset, ↓reduceIte, Nat.reduceEqDiff, Nat.reduceLT, Nat.reduceAdd, m0, m1, m2, m3, e3, e4.1, e4.2, c5, e6, c7, e8, e9, decide_eq_true e10, c11, e12, s_vaGood_l0_M, s_vaGood_l0_X, sxR]
      ·rw [if_neg e12] at h
       obtain rfl := Option.some.inj h
       simp (maxDischargeDepth := 9) only [↓xpre, xpost, xc2, xcore, yset, ↓reduceIte, Nat.reduceEqDiff, Nat.reduceLT, Nat.reduceAdd, m0, m1, m2, m3, e3, e4.1, e4.2, c5, e6, c7, e8, e9, decide_eq_true e10, c11, e12, s_vaGood_l0_M, sxN]
     ·rw [if_neg e10] at h
      obtain rfl := Option.some.inj h
      simp (maxDischargeDepth := 9) only [↓xpre, xpost, xc2, xcore, yset, ↓reduceIte, Nat.reduceEqDiff, Nat.reduceLT, Nat.reduceAdd, m1, m2, m3, e3, e4.1, e4.2, c5, e6, c7, e8, e9, e10, s_vaGood_l0_M, s_vaGood_l0_X, sxR]
   ·rw [if_neg e8] at h
    have e8f : (inR (sndD prog t12_.toNat) (0 : Int) (1000000 : Int)) = false := Bool.eq_false_iff.mpr e8
    obtain rfl := Option.some.inj h
    simp (maxDischargeDepth := 9) only [↓xpre, xpost, xc2, xcore, yset, ↓reduceIte, Nat.reduceEqDiff, Nat.reduceLT, Nat.reduceAdd, m1, m2, m3, e3, e4.1, e4.2, c5, e6, c7, e8f, s_vaGood_l0_M, s_vaGood_l0_X, sxR]
  ·rw [if_neg e6] at h
   have e6f : (inR (fstD prog t12_.toNat) (1 : Int) (19 : Int)) = false := Bool.eq_false_iff.mpr e6
   obtain rfl := Option.some.inj h
   simp (maxDischargeDepth := 9) only [↓xpre, xpost, xc2, xcore, yset, ↓reduceIte, Nat.reduceEqDiff, Nat.reduceLT, Nat.reduceAdd, m1, m2, m3, e3, e4.1, e4.2, c5, e6f, s_vaGood_l0_M, s_vaGood_l0_X, sxR]
 ·rw [if_neg e3] at h
  obtain rfl := Option.some.inj h
  simp (maxDischargeDepth := 9) only [↓xpre, xpost, yset, ↓reduceIte, Nat.reduceEqDiff, m0, m2, m3, e3, s_vaGood_l0_M, s_vaGood_l0_X, sxE]
theorem s_vaGood_call (prog : List (Int × Int)) {r : Bool} (h : s_vaGood prog = some r) : Y.call 70 [D.sl 73 (cat2 .i64 .i64 prog)] [] = some (D.bool r, []) := by
 refine c70 ?_ rfl
 unfold k70
 unfold s_vaGood at h
 have c1 := s_l1In_cl (prog.length : Int) (1 : Int) (40 : Int)
 by_cases e2 : (inR (prog.length : Int) (1 : Int) (40 : Int)) = true
 ·rw [if_pos e2] at h
  obtain ⟨r4_, hl4, h⟩ := bindS h
  try dsimp only at h
  simp (maxDischargeDepth := 9) only [↓xpre, xpost, xc2, xcore, yset, ↓reduceIte, Nat.reduceEqDiff, Nat.reduceLT, Nat.reduceAdd, c1, e2]
  refine wd_mono (s_vaGood_l0_wp prog hl4 ?_) ?_
  ·simp (maxDischargeDepth := 9) only [xpost, ↓reduceIte, Nat.reduceEqDiff, s_vaGood_l0_M]
  ·intro ex4 s4 hX4
   rcases r4_ with q4_ | q4_
   ·unfold s_vaGood_l0_X at hX4
    dsimp only at hX4 h
    obtain ⟨rfl, n4_0⟩ := hX4
    obtain rfl := Option.some.inj h
    simp (maxDischargeDepth := 9) only [↓xpre, xpost, xcore, ↓reduceIte, n4_0]
   ·unfold s_vaGood_l0_X at hX4
    dsimp only at hX4 h
    obtain ⟨rfl, n4_0⟩ := hX4
    obtain rfl := Option.some.inj h
    simp (maxDischargeDepth := 9) only [↓xpre, xpost, xcore, yset, ↓reduceIte, Nat.reduceEqDiff, n4_0]
 ·rw [if_neg e2] at h
  have e2f : (inR (prog.length : Int) (1 : Int) (40 : Int)) = false := Bool.eq_false_iff.mpr e2
  obtain rfl := Option.some.inj h
  simp (maxDischargeDepth := 9) only [↓xpre, xpost, xc2, xcore, yset, ↓reduceIte, Nat.reduceEqDiff, Nat.reduceLT, Nat.reduceAdd, c1, e2f]

noncomputable def s_vaValues (l : List Int) : Option (Bool) :=
 ck (l.length < 1099511627776) <|
 some (allIn l (-1000000 : Int) (1000000 : Int))
/-- spec.vaValues -/
def k71 : SC :=
 .seq
 (.ops [
 ⟨(some 2), (.assign (.const (.bool false))), 4, none⟩])
 (.seq
 (.ops [
 ⟨(some 3), (.move (.tmp 0)), 26, none⟩,
 ⟨(some 4), (.call ⟨(.value (.func 60)), #[(.tmp 3), (.const (.int .i64 (-1000000))), (.const (.int .i64 1000000))], #[26, 3, 3]⟩), 4, none⟩,
 ⟨(some 2), (.assign (.tmp 4)), 4, none⟩])
 .ret)
theorem slim71 : Tryz.f71.body.map (slim lends) = some k71 := by kernel_rfl
theorem ok71 : fnOk Tryz.f71 1 = true := by kernel_rfl
theorem c71 {a l : List D} {r : D × List D} (h : wpD Y.env k71 (fin tys l.length [ResultVar.tmp 2] r) (entry a l)) (ha : a.length = 1) : Y.call 71 a l = some r :=
 call_slim (Y := Y) rfl Tryz.func71 (ha ▸ ok71) slim71 h
theorem s_vaValues_call (l : List Int) {r : Bool} (h : s_vaValues l = some r) : Y.call 71 [D.sl 3 (lst (D.int .i64) l)] [] = some (D.bool r, []) := by
 refine c71 ?_ rfl
 unfold k71
 unfold s_vaValues at h
 obtain ⟨e1, h⟩ := ckS h
 have c2 := s_l1All_cl l (-1000000 : Int) (1000000 : Int) e1
 obtain rfl := Option.some.inj h
 simp (maxDischargeDepth := 9) only [↓xpre, xpost, xcore, yset, ↓reduceIte, Nat.reduceEqDiff, Nat.reduceLT, Nat.reduceAdd, Int.reduceNeg, c2]

noncomputable def s_vaAsked (prog : List (Int × Int)) (n_Ends : List (List (Int × Int))) (n_Ids : List Int) (n_Inputs : List Int) (values : List Int) : Option (Bool) :=
 (s_vaGood prog).bind fun r1_ =>
 if r1_ = true then
  ck (ShortE n_Ends) <|
  ck (n_Ids.length < 1099511627776) <|
  ck (n_Inputs.length < 1099511627776) <|
  if (isNet n_Ends n_Ids n_Inputs) = true then
   if (values.length : Int) = (n_Ends.length : Int) then
    (s_vaValues values).bind fun r9_ =>
    some r9_
   else
    some false
  else
   some false
 else
  some false
/-- spec.vaAsked -/
def k44 : SC :=
 .seq
 (.ops [
 ⟨(some 4), (.box 37 (.tmp 1)), 0, none⟩,
 ⟨(some 6), (.assign (.const (.bool false))), 4, none⟩])
 (.seq
 (.ops [
 ⟨(some 7), (.move (.tmp 0)), 49, none⟩,
 ⟨(some 8), (.call ⟨(.value (.func 70)), #[(.tmp 7)], #[49]⟩), 4, none⟩,
 ⟨(some 9), (.move (.tmp 8)), 4, none⟩,
 ⟨(some 10), (.load 37 (.tmp 4)), 37, (some (some 9, true))⟩,
 ⟨(some 11), (.call ⟨(.value (.func 35)), #[(.tmp 10)], #[37]⟩), 4, (some (some 9, true))⟩,
 ⟨(some 12), (.pick (.tmp 9) (.tmp 11) (.const (.bool false))), 4, none⟩,
 ⟨(some 13), (.move (.tmp 12)), 4, none⟩,
 ⟨(some 14), (.move (.tmp 2)), 26, (some (some 13, true))⟩,
 ⟨(some 15), (.call ⟨(.builtin .len), #[(.tmp 14)], #[26]⟩), 3, (some (some 13, true))⟩,
 ⟨(some 16), (.fieldAddr 37 (.tmp 4) 0), 0, (some (some 13, true))⟩,
 ⟨(some 17), (.load 35 (.tmp 16)), 35, (some (some 13, true))⟩,
 ⟨(some 18), (.call ⟨(.builtin .len), #[(.tmp 17)], #[35]⟩), 3, (some (some 13, true))⟩,
 ⟨(some 19), (.binOp .eql 3 (.tmp 15) (.tmp 18) 3), 4, (some (some 13, true))⟩,
 ⟨(some 20), (.pick (.tmp 13) (.tmp 19) (.const (.bool false))), 4, none⟩,
 ⟨(some 21), (.move (.tmp 20)), 4, none⟩,
 ⟨(some 22), (.move (.tmp 2)), 26, (some (some 21, true))⟩,
 ⟨(some 23), (.call ⟨(.value (.func 71)), #[(.tmp 22)], #[26]⟩), 4, (some (some 21, true))⟩,
 ⟨(some 24), (.pick (.tmp 21) (.tmp 23) (.const (.bool false))), 4, none⟩,
 ⟨(some 6), (.assign (.tmp 24)), 4, none⟩])
 .ret)
theorem slim44 : Tryz.f44.body.map (slim lends) = some k44 := by kernel_rfl
theorem ok44 : fnOk Tryz.f44 3 = true := by kernel_rfl
theorem c44 {a l : List D} {r : D × List D} (h : wpD Y.env k44 (fin tys l.length [ResultVar.tmp 6] r) (entry a l)) (ha : a.length = 3) : Y.call 44 a l = some r :=
 call_slim (Y := Y) rfl Tryz.func44 (ha ▸ ok44) slim44 h
theorem s_vaAsked_call (prog : List (Int × Int)) (n_Ends : List (List (Int × Int))) (n_Ids : List Int) (n_Inputs : List Int) (values : List Int) {r : Bool} (h : s_vaAsked prog n_Ends n_Ids n_Inputs values = some r) : Y.call 44 [D.sl 73 (cat2 .i64 .i64 prog), D.agg [D.sl 62 (lst (fun x => D.sl 85 (cat2 .i64 .i64 x)) n_Ends), D.sl 3 (lst (D.int .i64) n_Ids), D.sl 3 (lst (D.int .i64) n_Inputs)], D.sl 3 (lst (D.int .i64) values)] [] = some (D.bool r, []) := by
 refine c44 ?_ rfl
 unfold k44
 unfold s_vaAsked at h
 obtain ⟨r1_, hl1, h⟩ := bindS h
 try dsimp only at h
 have c1 := s_vaGood_call prog hl1
 by_cases e2 : r1_ = true
 ·rw [if_pos e2] at h
  obtain ⟨e3, h⟩ := ckS h
  obtain ⟨e4, h⟩ := ckS h
  obtain ⟨e5, h⟩ := ckS h
  have c6 := s_neGood_cl n_Ends n_Ids n_Inputs e3 e4 e5
  by_cases e7 : (isNet n_Ends n_Ids n_Inputs) = true
  ·rw [if_pos e7] at h
   by_cases e8 : (values.length : Int) = (n_Ends.length : Int)
   ·rw [if_pos e8] at h
    obtain ⟨r9_, hl9, h⟩ := bindS h
    try dsimp only at h
    have c9 := s_vaValues_call values hl9
    obtain rfl := Option.some.inj h
    simp (maxDischargeDepth := 9) only [↓xpre, xpost, xlst, xcore, yset, ↓reduceIte, Nat.reduceEqDiff, Nat.reduceLT, Nat.reduceAdd, c1, e2, c6, e7, decide_eq_true e8, c9]
   ·rw [if_neg e8] at h
    obtain rfl := Option.some.inj h
    simp (maxDischargeDepth := 9) only [↓xpre, xpost, xlst, xcore, yset, ↓reduceIte, Nat.reduceEqDiff, Nat.reduceLT, Nat.reduceAdd, c1, e2, c6, e7, e8]
  ·rw [if_neg e7] at h
   have e7f : (isNet n_Ends n_Ids n_Inputs) = false := Bool.eq_false_iff.mpr e7
   obtain rfl := Option.some.inj h
   simp (maxDischargeDepth := 9) only [↓xpre, xpost, xcore, yset, ↓reduceIte, Nat.reduceEqDiff, Nat.reduceLT, Nat.reduceAdd, c1, e2, c6, e7f]
 ·rw [if_neg e2] at h
  have e2f : r1_ = false := Bool.eq_false_iff.mpr e2
  obtain rfl := Option.some.inj h
  simp (maxDischargeDepth := 9) only [↓xpre, xpost, xcore, yset, ↓reduceIte, Nat.reduceEqDiff, Nat.reduceLT, Nat.reduceAdd, c1, e2f]


end Go.Proofs.YtjkgcfdcfjkkbaaGreat
