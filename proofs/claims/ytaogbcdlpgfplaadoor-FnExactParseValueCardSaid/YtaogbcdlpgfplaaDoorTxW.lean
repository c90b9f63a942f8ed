/- Texts of value programs read, lifted. Conditions: none. -/
import Derived.Test.YtaogbcdlpgfplaaDoorL6
import Derived.Test.YtaogbcdlpgfplaaDoorTxB
namespace Go.Proofs.YtaogbcdlpgfplaaDoor
open Go Dv
set_option linter.unusedSimpArgs false
set_option linter.unusedVariables false
set_option maxRecDepth 100000
set_option maxHeartbeats 4000000

noncomputable def g_slices_Index_Sstring_string_l0_S (s_ : List ByteArray) (v_ : ByteArray) (t8_ : Int) : Option ((Int) ⊕ (Int ⊕ Unit)) :=
 if t8_ < (s_.length : Int) then
  ck (0 ≤ t8_ ∧ t8_.toNat < s_.length) <|
  if (v_.toList == (s_.getD t8_.toNat default).toList) = true then
   some (Sum.inr (Sum.inl t8_))
  else
   some (Sum.inl (IntKind.i64.wrap (t8_ + 1)))
 else
  some (Sum.inr (Sum.inr ()))
noncomputable def g_slices_Index_Sstring_string_l0 (s_ : List ByteArray) (v_ : ByteArray) (v : Int) : Option (Int ⊕ Unit) := itO (fun v => g_slices_Index_Sstring_string_l0_S s_ v_ v) v
noncomputable def g_slices_Index_Sstring_string (s_ : List ByteArray) (v_ : ByteArray) : Option (Int) :=
 (g_slices_Index_Sstring_string_l0 s_ v_ 0).bind fun r1000_ =>
 match r1000_ with
 | .inl q1000_ =>
  some q1000_
 | .inr q1000_ =>
  some (-1)
/-- slices.Index[[]string,string] -/
def k37_l0b : SC :=
 .seq
 (.ops [
 ⟨(some 9), (.binOp .lss 3 (.tmp 8) (.tmp 7) 3), 0, none⟩])
 (.seq
 (.cond (.tmp 9)
 .skip
 (.exit 0))
 (.seq
 (.block 1
 (.seq
 (.ops [
 ⟨(some 10), (.move (.tmp 8)), 3, none⟩,
 ⟨(some 5), (.assign (.tmp 10)), 3, none⟩])
 (.seq
 (.ops [
 ⟨(some 11), (.move (.tmp 1)), 9, none⟩,
 ⟨(some 12), (.move (.tmp 0)), 52, none⟩,
 ⟨(some 13), (.move (.tmp 5)), 3, none⟩,
 ⟨(some 14), (.indexAddr 52 (.tmp 12) (.tmp 13)), 0, none⟩,
 ⟨(some 15), (.load 9 (.tmp 14)), 9, none⟩,
 ⟨(some 16), (.binOp .eql 9 (.tmp 11) (.tmp 15) 9), 4, none⟩])
 (.cond (.tmp 16)
 (.seq
 (.ops [
 ⟨(some 17), (.move (.tmp 5)), 3, none⟩,
 ⟨(some 4), (.assign (.tmp 17)), 3, none⟩])
 .ret)
 .skip))))
 (.ops [
 ⟨(some 18), (.binOp .add 3 (.tmp 8) (.const (.int .i64 1)) 3), 3, none⟩,
 ⟨(some 8), (.move (.tmp 18)), 3, none⟩])))
def k37_l0 : SC := .loop k37_l0b
def k37 : SC :=
 .seq
 (.ops [
 ⟨(some 4), (.assign (.const (.int .i64 0))), 3, none⟩])
 (.seq
 (.seq
 (.ops [
 ⟨(some 6), (.move (.tmp 0)), 52, none⟩,
 ⟨(some 7), (.call ⟨(.builtin .len), #[(.tmp 6)], #[52]⟩), 3, none⟩,
 ⟨(some 8), (.move (.const (.int .i64 0))), 3, none⟩])
 (.block 0
 k37_l0))
 (.seq
 (.ops [
 ⟨(some 4), (.assign (.const (.int .i64 (-1)))), 3, none⟩])
 .ret))
theorem slim37 : Tryd.f37.body.map (slim lends) = some k37 := by kernel_rfl
theorem ok37 : fnOk Tryd.f37 2 = true := by kernel_rfl
theorem c37 {a l : List D} {r : D × List D} (h : wpD Y.env k37 (fin tys l.length [ResultVar.tmp 4] r) (entry a l)) (ha : a.length = 2) : Y.call 37 a l = some r :=
 call_slim (Y := Y) rfl Tryd.func37 (ha ▸ ok37) slim37 h
def g_slices_Index_Sstring_string_l0_M (s_ : List ByteArray) (v_ : ByteArray) (t8_ : Int) (s : St) : Prop := s.v 0 = D.sl 9 (lst D.str s_) ∧ s.v 1 = D.str v_ ∧ s.v 7 = D.int .i64 (s_.length : Int) ∧ s.v 8 = D.int .i64 t8_
def g_slices_Index_Sstring_string_l0_X (s_ : List ByteArray) (v_ : ByteArray) (r : Int ⊕ Unit) (ex : Ex) (s : St) : Prop := match r with
 | .inl q => ex = .ret ∧ s.v 4 = D.int .i64 q
 | .inr q => ex = .exit 0
theorem g_slices_Index_Sstring_string_l0_wp (s_ : List ByteArray) (v_ : ByteArray) {v : Int} {s : St} {r : Int ⊕ Unit} (h : g_slices_Index_Sstring_string_l0 s_ v_ v = some r) (hM : g_slices_Index_Sstring_string_l0_M s_ v_ v s) : wpD Y.env k37_l0 (g_slices_Index_Sstring_string_l0_X s_ v_ r) s := by
 unfold g_slices_Index_Sstring_string_l0 at h
 refine wd_itO (c := k37_l0b) (fun v => g_slices_Index_Sstring_string_l0_S s_ v_ v) (fun v s => g_slices_Index_Sstring_string_l0_M s_ v_ v s) (g_slices_Index_Sstring_string_l0_X s_ v_) ?_ h hM
 clear h hM s v r
 intro t8_ s o hM h
 unfold g_slices_Index_Sstring_string_l0_S at h
 unfold g_slices_Index_Sstring_string_l0_M at hM
 obtain ⟨m0, m1, m2, m3⟩ := hM
 unfold k37_l0b
 by_cases e1 : t8_ < (s_.length : Int)
 ·rw [if_pos e1] at h
  obtain ⟨e2, h⟩ := ckS h
  by_cases e3 : (v_.toList == (s_.getD t8_.toNat default).toList) = true
  ·rw [if_pos e3] at h
   obtain rfl := Option.some.inj h
   simp (maxDischargeDepth := 9) only [↓xpre, xpost, xlst, xc2, xcore, yset, rg0, ↓reduceIte, Nat.reduceEqDiff, Nat.reduceLT, Nat.reduceLeDiff, Nat.reduceAdd, Nat.reduceMul, Nat.reduceMod, Nat.reduceDiv, Nat.reducePow, Nat.reduceSub, Nat.reduceBEq, Int.reduceLE, Int.reduceLT, Int.reduceEq, Int.reduceSub, Int.reduceAdd, Int.reduceToNat, Int.reduceNeg, m0, m1, m2, m3, e1, e2.1, e2.2, e3, g_slices_Index_Sstring_string_l0_M, g_slices_Index_Sstring_string_l0_X, sxN, sxE, sxR] <;> (repeat' apply And.intro) <;> first | rfl | exact ⟨_, rfl⟩ | exact ⟨_, _, rfl⟩ | simp [lst, cat2_nil]
  ·rw [if_neg e3] at h
   have e3f : (v_.toList == (s_.getD t8_.toNat default).toList) = false := Bool.eq_false_iff.mpr e3
   obtain rfl := Option.some.inj h
   simp (maxDischargeDepth := 9) only [↓xpre, xpost, xlst, xc2, xcore, yset, rg0, ↓reduceIte, Nat.reduceEqDiff, Nat.reduceLT, Nat.reduceLeDiff, Nat.reduceAdd, Nat.reduceMul, Nat.reduceMod, Nat.reduceDiv, Nat.reducePow, Nat.reduceSub, Nat.reduceBEq, Int.reduceLE, Int.reduceLT, Int.reduceEq, Int.reduceSub, Int.reduceAdd, Int.reduceToNat, Int.reduceNeg, m0, m1, m2, m3, e1, e2.1, e2.2, e3f, g_slices_Index_Sstring_string_l0_M, g_slices_Index_Sstring_string_l0_X, sxN, sxE, sxR] <;> (repeat' apply And.intro) <;> first | rfl | exact ⟨_, rfl⟩ | exact ⟨_, _, rfl⟩ | simp [lst, cat2_nil]
 ·rw [if_neg e1] at h
  obtain rfl := Option.some.inj h
  simp (maxDischargeDepth := 9) only [↓xpre, xpost, xlst, xc2, xcore, yset, rg0, ↓reduceIte, Nat.reduceEqDiff, Nat.reduceLT, Nat.reduceLeDiff, Nat.reduceAdd, Nat.reduceMul, Nat.reduceMod, Nat.reduceDiv, Nat.reducePow, Nat.reduceSub, Nat.reduceBEq, Int.reduceLE, Int.reduceLT, Int.reduceEq, Int.reduceSub, Int.reduceAdd, Int.reduceToNat, Int.reduceNeg, m0, m1, m2, m3, e1, g_slices_Index_Sstring_string_l0_M, g_slices_Index_Sstring_string_l0_X, sxN, sxE, sxR] <;> (repeat' apply And.intro) <;> first | rfl | exact ⟨_, rfl⟩ | exact ⟨_, _, rfl⟩ | simp [lst, cat2_nil]
theorem g_slices_Index_Sstring_string_call (s_ : List ByteArray) (v_ : ByteArray) {r : Int} (h : g_slices_Index_Sstring_string s_ v_ = some r) : Y.call 37 [D.sl 9 (lst D.str s_), D.str v_] [] = some (D.int .i64 r, []) := by
 refine c37 ?_ rfl
 unfold k37
 unfold g_slices_Index_Sstring_string at h
 obtain ⟨r1000_, hl2, h⟩ := bindS h
 try dsimp only at h
 simp (maxDischargeDepth := 9) only [↓xpre, xpost, xlst, xc2, xcore, yset, rg0, ↓reduceIte, Nat.reduceEqDiff, Nat.reduceLT, Nat.reduceLeDiff, Nat.reduceAdd, Nat.reduceMul, Nat.reduceMod, Nat.reduceDiv, Nat.reducePow, Nat.reduceSub, Nat.reduceBEq, Int.reduceLE, Int.reduceLT, Int.reduceEq, Int.reduceSub, Int.reduceAdd, Int.reduceToNat, Int.reduceNeg]
 refine wd_mono (g_slices_Index_Sstring_string_l0_wp s_ v_ hl2 ?_) ?_
 ·simp (maxDischargeDepth := 9) only [↓xpre, xpost, xlst, xc2, xcore, yset, rg0, ↓reduceIte, Nat.reduceEqDiff, Nat.reduceLT, Nat.reduceLeDiff, Nat.reduceAdd, Nat.reduceMul, Nat.reduceMod, Nat.reduceDiv, Nat.reducePow, Nat.reduceSub, Nat.reduceBEq, Int.reduceLE, Int.reduceLT, Int.reduceEq, Int.reduceSub, Int.reduceAdd, Int.reduceToNat, Int.reduceNeg, g_slices_Index_Sstring_string_l0_M] <;> (repeat' apply And.intro) <;> first | rfl | exact ⟨_, rfl⟩ | exact ⟨_, _, rfl⟩ | simp [lst, cat2_nil]
 ·intro ex2 s2 hX2
  rcases r1000_ with q1000_ | q1000_
  ·unfold g_slices_Index_Sstring_string_l0_X at hX2
   dsimp only at hX2 h
   obtain ⟨rfl, n2_0⟩ := hX2
   obtain rfl := Option.some.inj h
   simp (maxDischargeDepth := 9) only [↓xpre, xpost, xlst, xc2, xcore, yset, rg0, ↓reduceIte, Nat.reduceEqDiff, Nat.reduceLT, Nat.reduceLeDiff, Nat.reduceAdd, Nat.reduceMul, Nat.reduceMod, Nat.reduceDiv, Nat.reducePow, Nat.reduceSub, Nat.reduceBEq, Int.reduceLE, Int.reduceLT, Int.reduceEq, Int.reduceSub, Int.reduceAdd, Int.reduceToNat, Int.reduceNeg, n2_0] <;> (repeat' apply And.intro) <;> first | rfl | exact ⟨_, rfl⟩ | exact ⟨_, _, rfl⟩ | simp [lst, cat2_nil]
  ·unfold g_slices_Index_Sstring_string_l0_X at hX2
   dsimp only at hX2 h
   obtain rfl := hX2
   obtain rfl := Option.some.inj h
   simp (maxDischargeDepth := 9) only [↓xpre, xpost, xlst, xc2, xcore, yset, rg0, ↓reduceIte, Nat.reduceEqDiff, Nat.reduceLT, Nat.reduceLeDiff, Nat.reduceAdd, Nat.reduceMul, Nat.reduceMod, Nat.reduceDiv, Nat.reducePow, Nat.reduceSub, Nat.reduceBEq, Int.reduceLE, Int.reduceLT, Int.reduceEq, Int.reduceSub, Int.reduceAdd, Int.reduceToNat, Int.reduceNeg] <;> (repeat' apply And.intro) <;> first | rfl | exact ⟨_, rfl⟩ | exact ⟨_, _, rfl⟩ | simp [lst, cat2_nil]

noncomputable def i_ParseValue_l0_S (s_ : ByteArray) (prog : List (Int × Int)) (t13_ : Int) : Option (((List (Int × Int)) × Int) ⊕ (Unit ⊕ ((List (Int × Int))))) :=
 if t13_ < ((splitS s_ ({ data := #[32] } : ByteArray)).length : Int) then
  ck (0 ≤ t13_ ∧ t13_.toNat < (splitS s_ ({ data := #[32] } : ByteArray)).length) <|
  (i_valueWords).bind fun r17_ =>
  (g_slices_Index_Sstring_string r17_ ((splitS s_ ({ data := #[32] } : ByteArray)).getD t13_.toNat default)).bind fun r19_ =>
  if (IntKind.i64.wrap (2 + r19_)) < 2 then
   (atoiF ((splitS s_ ({ data := #[32] } : ByteArray)).getD t13_.toNat default)).bind fun r27_ =>
   match r27_ with
   | .inl q27_ =>
    ck (-9223372036854775808 ≤ q27_ ∧ q27_ ≤ 9223372036854775807) <|
    if ((itoaB q27_).toList == ((splitS s_ ({ data := #[32] } : ByteArray)).getD t13_.toNat default).toList) = true then
     ck (prog.length * 2 + 2 < 1099511627776) <|
     some (Sum.inl ((prog ++ [(1, q27_)]), IntKind.i64.wrap (t13_ + 1)))
    else
     some (Sum.inr (Sum.inl ()))
   | .inr q27_ =>
    some (Sum.inr (Sum.inl ()))
  else
   ck (prog.length * 2 + 2 < 1099511627776) <|
   some (Sum.inl ((prog ++ [(IntKind.i64.wrap (2 + r19_), 0)]), IntKind.i64.wrap (t13_ + 1)))
 else
  some (Sum.inr (Sum.inr prog))
noncomputable def i_ParseValue_l0 (s_ : ByteArray) (v : (List (Int × Int)) × Int) : Option (Unit ⊕ ((List (Int × Int)))) := itO (fun v => i_ParseValue_l0_S s_ v.1 v.2) v
noncomputable def i_ParseValue (s_ : ByteArray) : Option ((List (Int × Int)) × Bool) :=
 ck (s_.size < 4294967281 ∧ 1 ≤ ({ data := #[32] } : ByteArray).size) <|
 (i_ParseValue_l0 s_ ([], 0)).bind fun r1000_ =>
 match r1000_ with
 | .inl q1000_ =>
  some ([], false)
 | .inr q1000_ =>
  (i_IsValueProgram q1000_).bind fun r46_ =>
  if r46_ = true then
   some (q1000_, true)
  else
   some ([], false)
/-- impl.ParseValue -/
def k13_l0b : SC :=
 .seq
 (.ops [
 ⟨(some 14), (.binOp .lss 3 (.tmp 13) (.tmp 12) 3), 0, none⟩])
 (.seq
 (.cond (.tmp 14)
 .skip
 (.exit 0))
 (.seq
 (.block 1
 (.seq
 (.ops [
 ⟨(some 15), (.indexAddr 52 (.tmp 11) (.tmp 13)), 0, none⟩,
 ⟨(some 16), (.load 9 (.tmp 15)), 9, none⟩,
 ⟨(some 6), (.assign (.tmp 16)), 9, none⟩])
 (.seq
 (.ops [
 ⟨(some 17), (.call ⟨(.value (.func 30)), #[], #[]⟩), 52, none⟩,
 ⟨(some 18), (.move (.tmp 6)), 9, none⟩,
 ⟨(some 19), (.call ⟨(.value (.func 37)), #[(.tmp 17), (.tmp 18)], #[52, 9]⟩), 3, none⟩,
 ⟨(some 20), (.binOp .add 3 (.const (.int .i64 2)) (.tmp 19) 3), 3, none⟩,
 ⟨(some 21), (.build 49 #[(0, (.tmp 20))]), 49, none⟩,
 ⟨(some 7), (.alloc 49), 0, none⟩,
 ⟨none, (.store 49 (.tmp 7) (.tmp 21)), 0, none⟩])
 (.seq
 (.seq
 (.ops [
 ⟨(some 22), (.fieldAddr 49 (.tmp 7) 0), 0, none⟩,
 ⟨(some 23), (.load 3 (.tmp 22)), 3, none⟩,
 ⟨(some 24), (.binOp .lss 3 (.tmp 23) (.const (.int .i64 2)) 3), 4, none⟩])
 (.cond (.tmp 24)
 (.seq
 (.ops [
 ⟨(some 26), (.move (.tmp 6)), 9, none⟩,
 ⟨(some 27), (.call ⟨(.value (.func 38)), #[(.tmp 26)], #[9]⟩), 63, none⟩,
 ⟨(some 25), (.move (.tmp 27)), 63, none⟩,
 ⟨(some 28), (.extract (.tmp 25) 0), 3, none⟩,
 ⟨(some 29), (.extract (.tmp 25) 1), 62, none⟩,
 ⟨(some 8), (.assign (.tmp 28)), 3, none⟩,
 ⟨(some 9), (.assign (.tmp 29)), 62, none⟩])
 (.seq
 (.seq
 (.ops [
 ⟨(some 30), (.move (.tmp 9)), 62, none⟩,
 ⟨(some 31), (.binOp .neq 62 (.tmp 30) (.const .nilIface) 62), 4, none⟩,
 ⟨(some 32), (.move (.tmp 31)), 4, none⟩,
 ⟨(some 33), (.move (.tmp 8)), 3, (some (some 32, false))⟩,
 ⟨(some 34), (.call ⟨(.value (.func 29)), #[(.tmp 33)], #[3]⟩), 9, (some (some 32, false))⟩,
 ⟨(some 35), (.move (.tmp 6)), 9, (some (some 32, false))⟩,
 ⟨(some 36), (.binOp .neq 9 (.tmp 34) (.tmp 35) 9), 4, (some (some 32, false))⟩,
 ⟨(some 37), (.pick (.tmp 32) (.const (.bool true)) (.tmp 36)), 4, none⟩])
 (.cond (.tmp 37)
 (.seq
 (.ops [
 ⟨(some 2), (.assign (.const (.slice none 0 0))), 26, none⟩,
 ⟨(some 3), (.assign (.const (.bool false))), 4, none⟩])
 .ret)
 .skip))
 (.ops [
 ⟨(some 38), (.move (.tmp 8)), 3, none⟩,
 ⟨(some 39), (.build 49 #[(0, (.const (.int .i64 1))), (1, (.tmp 38))]), 49, none⟩,
 ⟨none, (.store 49 (.tmp 7) (.tmp 39)), 0, none⟩])))
 .skip))
 (.ops [
 ⟨(some 40), (.move (.tmp 4)), 26, none⟩,
 ⟨(some 41), (.load 49 (.tmp 7)), 49, none⟩,
 ⟨(some 42), (.buildSlice 26 1 #[(0, (.tmp 41))]), 26, none⟩,
 ⟨(some 43), (.call ⟨(.builtin .append), #[(.tmp 40), (.tmp 42)], #[26, 26]⟩), 26, none⟩,
 ⟨(some 4), (.assign (.tmp 43)), 26, none⟩])))))
 (.ops [
 ⟨(some 44), (.binOp .add 3 (.tmp 13) (.const (.int .i64 1)) 3), 3, none⟩,
 ⟨(some 13), (.move (.tmp 44)), 3, none⟩])))
def k13_l0 : SC := .loop k13_l0b
def k13 : SC :=
 .seq
 (.ops [
 ⟨(some 2), (.assign (.const (.slice none 0 0))), 26, none⟩,
 ⟨(some 3), (.assign (.const (.bool false))), 4, none⟩])
 (.seq
 (.ops [
 ⟨(some 4), (.assign (.const (.slice none 0 0))), 26, none⟩])
 (.seq
 (.seq
 (.ops [
 ⟨(some 10), (.move (.tmp 0)), 9, none⟩,
 ⟨(some 11), (.call ⟨(.value (.func 36)), #[(.tmp 10), (.const (.string { data := #[32] }))], #[9, 9]⟩), 52, none⟩,
 ⟨(some 12), (.call ⟨(.builtin .len), #[(.tmp 11)], #[52]⟩), 3, none⟩,
 ⟨(some 13), (.move (.const (.int .i64 0))), 3, none⟩])
 (.block 0
 k13_l0))
 (.seq
 (.seq
 (.ops [
 ⟨(some 45), (.move (.tmp 4)), 26, none⟩,
 ⟨(some 46), (.call ⟨(.value (.func 28)), #[(.tmp 45)], #[26]⟩), 4, none⟩,
 ⟨(some 47), (.unOp .not 4 (.tmp 46)), 4, none⟩])
 (.cond (.tmp 47)
 (.seq
 (.ops [
 ⟨(some 2), (.assign (.const (.slice none 0 0))), 26, none⟩,
 ⟨(some 3), (.assign (.const (.bool false))), 4, none⟩])
 .ret)
 .skip))
 (.seq
 (.ops [
 ⟨(some 48), (.move (.tmp 4)), 26, none⟩,
 ⟨(some 2), (.assign (.tmp 48)), 26, none⟩,
 ⟨(some 3), (.assign (.const (.bool true))), 4, none⟩])
 .ret))))
theorem slim13 : Tryd.f13.body.map (slim lends) = some k13 := by kernel_rfl
theorem ok13 : fnOk Tryd.f13 1 = true := by kernel_rfl
theorem c13 {a l : List D} {r : D × List D} (h : wpD Y.env k13 (fin tys l.length [ResultVar.tmp 2, ResultVar.tmp 3] r) (entry a l)) (ha : a.length = 1) : Y.call 13 a l = some r :=
 call_slim (Y := Y) rfl Tryd.func13 (ha ▸ ok13) slim13 h
def i_ParseValue_l0_M (s_ : ByteArray) (prog : List (Int × Int)) (t13_ : Int) (s : St) : Prop := s.v 4 = D.own 49 (cat2 .i64 .i64 prog) ∧ s.v 11 = D.own 9 (lst D.str (splitS s_ ({ data := #[32] } : ByteArray))) ∧ s.v 12 = D.int .i64 ((splitS s_ ({ data := #[32] } : ByteArray)).length : Int) ∧ s.v 13 = D.int .i64 t13_
def i_ParseValue_l0_X (s_ : ByteArray) (r : Unit ⊕ ((List (Int × Int)))) (ex : Ex) (s : St) : Prop := match r with
 | .inl q => ex = .ret ∧ s.v 2 = D.own 49 [] ∧ s.v 3 = D.bool false
 | .inr q => ex = .exit 0 ∧ s.v 4 = D.own 49 (cat2 .i64 .i64 q)
theorem i_ParseValue_l0_wp (s_ : ByteArray) {v : (List (Int × Int)) × Int} {s : St} {r : Unit ⊕ ((List (Int × Int)))} (h : i_ParseValue_l0 s_ v = some r) (hM : i_ParseValue_l0_M s_ v.1 v.2 s) : wpD Y.env k13_l0 (i_ParseValue_l0_X s_ r) s := by
 unfold i_ParseValue_l0 at h
 refine wd_itO (c := k13_l0b) (fun v => i_ParseValue_l0_S s_ v.1 v.2) (fun v s => i_ParseValue_l0_M s_ v.1 v.2 s) (i_ParseValue_l0_X s_) ?_ h hM
 clear h hM s v r
 intro v s o hM h
 obtain ⟨prog, t13_⟩ := v
 dsimp only at h hM
 unfold i_ParseValue_l0_S at h
 unfold i_ParseValue_l0_M at hM
 obtain ⟨m0, m1, m2, m3⟩ := hM
 unfold k13_l0b
 by_cases e3 : t13_ < ((splitS s_ ({ data := #[32] } : ByteArray)).length : Int)
 ·rw [if_pos e3] at h
  obtain ⟨e4, h⟩ := ckS h
  obtain ⟨r17_, hl5, h⟩ := bindS h
  try dsimp only at h
  have c5 := i_valueWords_call hl5
  obtain ⟨r19_, hl6, h⟩ := bindS h
  try dsimp only at h
  have c6 := g_slices_Index_Sstring_string_call r17_ ((splitS s_ ({ data := #[32] } : ByteArray)).getD t13_.toNat default) hl6
  by_cases e7 : (IntKind.i64.wrap (2 + r19_)) < 2
  ·rw [if_pos e7] at h
   obtain ⟨r27_, hl8, h⟩ := bindS h
   try dsimp only at h
   have c8 := atoi_38 ((splitS s_ ({ data := #[32] } : ByteArray)).getD t13_.toNat default) hl8
   rcases r27_ with q27_ | q27_
   ·dsimp only at h c8
    obtain ⟨e9, h⟩ := ckS h
    have c10 := itoa_29 q27_ e9
    by_cases e11 : ((itoaB q27_).toList == ((splitS s_ ({ data := #[32] } : ByteArray)).getD t13_.toNat default).toList) = true
    ·rw [if_pos e11] at h
     obtain ⟨e12, h⟩ := ckS h
     obtain rfl := Option.some.inj h
     simp (maxDischargeDepth := 9) only [↓xpre, xpost, xlst, xc2, xcore, yset, rg0, ↓reduceIte, Nat.reduceEqDiff, Nat.reduceLT, Nat.reduceLeDiff, Nat.reduceAdd, Nat.reduceMul, Nat.reduceMod, Nat.reduceDiv, Nat.reducePow, Nat.reduceSub, Nat.reduceBEq, Int.reduceLE, Int.reduceLT, Int.reduceEq, Int.reduceSub, Int.reduceAdd, Int.reduceToNat, Int.reduceNeg, m0, m1, m2, m3, e3, e4.1, e4.2, c5, c6, e7, c8, e9.1, e9.2, c10, e11, e12, i_ParseValue_l0_M, i_ParseValue_l0_X, sxN, sxE, sxR] <;> (repeat' apply And.intro) <;> first | rfl | exact ⟨_, rfl⟩ | exact ⟨_, _, rfl⟩ | simp [lst, cat2_nil]
    ·rw [if_neg e11] at h
     have e11f : ((itoaB q27_).toList == ((splitS s_ ({ data := #[32] } : ByteArray)).getD t13_.toNat default).toList) = false := Bool.eq_false_iff.mpr e11
     obtain rfl := Option.some.inj h
     simp (maxDischargeDepth := 9) only [↓xpre, xpost, xlst, xc2, xcore, yset, rg0, ↓reduceIte, Nat.reduceEqDiff, Nat.reduceLT, Nat.reduceLeDiff, Nat.reduceAdd, Nat.reduceMul, Nat.reduceMod, Nat.reduceDiv, Nat.reducePow, Nat.reduceSub, Nat.reduceBEq, Int.reduceLE, Int.reduceLT, Int.reduceEq, Int.reduceSub, Int.reduceAdd, Int.reduceToNat, Int.reduceNeg, m0, m1, m2, m3, e3, e4.1, e4.2, c5, c6, e7, c8, e9.1, e9.2, c10, e11f, i_ParseValue_l0_M, i_ParseValue_l0_X, sxN, sxE, sxR] <;> (repeat' apply And.intro) <;> first | rfl | exact ⟨_, rfl⟩ | exact ⟨_, _, rfl⟩ | simp [lst, cat2_nil]
   ·dsimp only at h c8
    obtain rfl := Option.some.inj h
    simp (maxDischargeDepth := 9) only [↓xpre, xpost, xlst, xc2, xcore, yset, rg0, ↓reduceIte, Nat.reduceEqDiff, Nat.reduceLT, Nat.reduceLeDiff, Nat.reduceAdd, Nat.reduceMul, Nat.reduceMod, Nat.reduceDiv, Nat.reducePow, Nat.reduceSub, Nat.reduceBEq, Int.reduceLE, Int.reduceLT, Int.reduceEq, Int.reduceSub, Int.reduceAdd, Int.reduceToNat, Int.reduceNeg, m0, m1, m2, m3, e3, e4.1, e4.2, c5, c6, e7, c8, i_ParseValue_l0_M, i_ParseValue_l0_X, sxN, sxE, sxR] <;> (repeat' apply And.intro) <;> first | rfl | exact ⟨_, rfl⟩ | exact ⟨_, _, rfl⟩ | simp [lst, cat2_nil]
  ·rw [if_neg e7] at h
   obtain ⟨e8, h⟩ := ckS h
   obtain rfl := Option.some.inj h
   simp (maxDischargeDepth := 9) only [↓xpre, xpost, xlst, xc2, xcore, yset, rg0, ↓reduceIte, Nat.reduceEqDiff, Nat.reduceLT, Nat.reduceLeDiff, Nat.reduceAdd, Nat.reduceMul, Nat.reduceMod, Nat.reduceDiv, Nat.reducePow, Nat.reduceSub, Nat.reduceBEq, Int.reduceLE, Int.reduceLT, Int.reduceEq, Int.reduceSub, Int.reduceAdd, Int.reduceToNat, Int.reduceNeg, m0, m1, m2, m3, e3, e4.1, e4.2, c5, c6, e7, e8, i_ParseValue_l0_M, i_ParseValue_l0_X, sxN, sxE, sxR] <;> (repeat' apply And.intro) <;> first | rfl | exact ⟨_, rfl⟩ | exact ⟨_, _, rfl⟩ | simp [lst, cat2_nil]
 ·rw [if_neg e3] at h
  obtain rfl := Option.some.inj h
  simp (maxDischargeDepth := 9) only [↓xpre, xpost, xlst, xc2, xcore, yset, rg0, ↓reduceIte, Nat.reduceEqDiff, Nat.reduceLT, Nat.reduceLeDiff, Nat.reduceAdd, Nat.reduceMul, Nat.reduceMod, Nat.reduceDiv, Nat.reducePow, Nat.reduceSub, Nat.reduceBEq, Int.reduceLE, Int.reduceLT, Int.reduceEq, Int.reduceSub, Int.reduceAdd, Int.reduceToNat, Int.reduceNeg, m0, m1, m2, m3, e3, i_ParseValue_l0_M, i_ParseValue_l0_X, sxN, sxE, sxR] <;> (repeat' apply And.intro) <;> first | rfl | exact ⟨_, rfl⟩ | exact ⟨_, _, rfl⟩ | simp [lst, cat2_nil]
theorem i_ParseValue_call (s_ : ByteArray) {r : (List (Int × Int)) × Bool} (h : i_ParseValue s_ = some r) : Y.call 13 [D.str s_] [] = some (D.tup [D.own 49 (cat2 .i64 .i64 r.1), D.bool r.2], []) := by
 refine c13 ?_ rfl
 unfold k13
 unfold i_ParseValue at h
 obtain ⟨e1, h⟩ := ckS h
 have c2 := split_36 s_ ({ data := #[32] } : ByteArray) e1
 obtain ⟨r1000_, hl4, h⟩ := bindS h
 try dsimp only at h
 simp (maxDischargeDepth := 9) only [↓xpre, xpost, xlst, xc2, xcore, yset, rg0, ↓reduceIte, Nat.reduceEqDiff, Nat.reduceLT, Nat.reduceLeDiff, Nat.reduceAdd, Nat.reduceMul, Nat.reduceMod, Nat.reduceDiv, Nat.reducePow, Nat.reduceSub, Nat.reduceBEq, Int.reduceLE, Int.reduceLT, Int.reduceEq, Int.reduceSub, Int.reduceAdd, Int.reduceToNat, Int.reduceNeg, e1.1, e1.2, c2]
 refine wd_mono (i_ParseValue_l0_wp s_ hl4 ?_) ?_
 ·simp (maxDischargeDepth := 9) only [↓xpre, xpost, xlst, xc2, xcore, yset, rg0, ↓reduceIte, Nat.reduceEqDiff, Nat.reduceLT, Nat.reduceLeDiff, Nat.reduceAdd, Nat.reduceMul, Nat.reduceMod, Nat.reduceDiv, Nat.reducePow, Nat.reduceSub, Nat.reduceBEq, Int.reduceLE, Int.reduceLT, Int.reduceEq, Int.reduceSub, Int.reduceAdd, Int.reduceToNat, Int.reduceNeg, e1.1, e1.2, c2, i_ParseValue_l0_M] <;> (repeat' apply And.intro) <;> first | rfl | exact ⟨_, rfl⟩ | exact ⟨_, _, rfl⟩ | simp [lst, cat2_nil]
 ·intro ex4 s4 hX4
  rcases r1000_ with q1000_ | q1000_
  ·unfold i_ParseValue_l0_X at hX4
   dsimp only at hX4 h
   obtain ⟨rfl, n4_0, n4_1⟩ := hX4
   obtain rfl := Option.some.inj h
   simp (maxDischargeDepth := 9) only [↓xpre, xpost, xlst, xc2, xcore, yset, rg0, ↓reduceIte, Nat.reduceEqDiff, Nat.reduceLT, Nat.reduceLeDiff, Nat.reduceAdd, Nat.reduceMul, Nat.reduceMod, Nat.reduceDiv, Nat.reducePow, Nat.reduceSub, Nat.reduceBEq, Int.reduceLE, Int.reduceLT, Int.reduceEq, Int.reduceSub, Int.reduceAdd, Int.reduceToNat, Int.reduceNeg, e1.1, e1.2, c2, n4_0, n4_1] <;> (repeat' apply And.intro) <;> first | rfl | exact ⟨_, rfl⟩ | exact ⟨_, _, rfl⟩ | simp [lst, cat2_nil]
  ·unfold i_ParseValue_l0_X at hX4
   dsimp only at hX4 h
   obtain ⟨rfl, n4_0⟩ := hX4
   obtain ⟨r46_, hl5, h⟩ := bindS h
   try dsimp only at h
   have c5 := i_IsValueProgram_call q1000_ hl5
   by_cases e6 : r46_ = true
   ·rw [if_pos e6] at h
    obtain rfl := Option.some.inj h
    simp (maxDischargeDepth := 9) only [↓xpre, xpost, xlst, xc2, xcore, yset, rg0, ↓reduceIte, Nat.reduceEqDiff, Nat.reduceLT, Nat.reduceLeDiff, Nat.reduceAdd, Nat.reduceMul, Nat.reduceMod, Nat.reduceDiv, Nat.reducePow, Nat.reduceSub, Nat.reduceBEq, Int.reduceLE, Int.reduceLT, Int.reduceEq, Int.reduceSub, Int.reduceAdd, Int.reduceToNat, Int.reduceNeg, e1.1, e1.2, c2, n4_0, c5, e6] <;> (repeat' apply And.intro) <;> first | rfl | exact ⟨_, rfl⟩ | exact ⟨_, _, rfl⟩ | simp [lst, cat2_nil]
   ·rw [if_neg e6] at h
    have e6f : r46_ = false := Bool.eq_false_iff.mpr e6
    obtain rfl := Option.some.inj h
    simp (maxDischargeDepth := 9) only [↓xpre, xpost, xlst, xc2, xcore, yset, rg0, ↓reduceIte, Nat.reduceEqDiff, Nat.reduceLT, Nat.reduceLeDiff, Nat.reduceAdd, Nat.reduceMul, Nat.reduceMod, Nat.reduceDiv, Nat.reducePow, Nat.reduceSub, Nat.reduceBEq, Int.reduceLE, Int.reduceLT, Int.reduceEq, Int.reduceSub, Int.reduceAdd, Int.reduceToNat, Int.reduceNeg, e1.1, e1.2, c2, n4_0, c5, e6f] <;> (repeat' apply And.intro) <;> first | rfl | exact ⟨_, rfl⟩ | exact ⟨_, _, rfl⟩ | simp [lst, cat2_nil]

noncomputable def s_vaNumber (s_ : ByteArray) : Option (Int) :=
 if (s_.toList == ({ data := #[49, 48, 48, 48, 48, 48, 48] } : ByteArray).toList) = true then
  some 1000000
 else
  (s_l1Read s_).bind fun r6_ =>
  some r6_
/-- spec.vaNumber -/
def k34 : SC :=
 .seq
 (.ops [
 ⟨(some 2), (.assign (.const (.int .i64 0))), 3, none⟩])
 (.seq
 (.seq
 (.ops [
 ⟨(some 3), (.move (.tmp 0)), 9, none⟩,
 ⟨(some 4), (.binOp .eql 9 (.tmp 3) (.const (.string { data := #[49, 48, 48, 48, 48, 48, 48] })) 9), 4, none⟩])
 (.cond (.tmp 4)
 (.seq
 (.ops [
 ⟨(some 2), (.assign (.const (.int .i64 1000000))), 3, none⟩])
 .ret)
 .skip))
 (.seq
 (.ops [
 ⟨(some 5), (.move (.tmp 0)), 9, none⟩,
 ⟨(some 6), (.call ⟨(.value (.func 60)), #[(.tmp 5)], #[9]⟩), 3, none⟩,
 ⟨(some 2), (.assign (.tmp 6)), 3, none⟩])
 .ret))
theorem slim34 : Tryd.f34.body.map (slim lends) = some k34 := by kernel_rfl
theorem ok34 : fnOk Tryd.f34 1 = true := by kernel_rfl
theorem c34 {a l : List D} {r : D × List D} (h : wpD Y.env k34 (fin tys l.length [ResultVar.tmp 2] r) (entry a l)) (ha : a.length = 1) : Y.call 34 a l = some r :=
 call_slim (Y := Y) rfl Tryd.func34 (ha ▸ ok34) slim34 h
theorem s_vaNumber_call (s_ : ByteArray) {r : Int} (h : s_vaNumber s_ = some r) : Y.call 34 [D.str s_] [] = some (D.int .i64 r, []) := by
 refine c34 ?_ rfl
 unfold k34
 unfold s_vaNumber at h
 by_cases e1 : (s_.toList == ({ data := #[49, 48, 48, 48, 48, 48, 48] } : ByteArray).toList) = true
 ·rw [if_pos e1] at h
  obtain rfl := Option.some.inj h
  simp (maxDischargeDepth := 9) only [↓xpre, xpost, xlst, xc2, xcore, yset, rg0, ↓reduceIte, Nat.reduceEqDiff, Nat.reduceLT, Nat.reduceLeDiff, Nat.reduceAdd, Nat.reduceMul, Nat.reduceMod, Nat.reduceDiv, Nat.reducePow, Nat.reduceSub, Nat.reduceBEq, Int.reduceLE, Int.reduceLT, Int.reduceEq, Int.reduceSub, Int.reduceAdd, Int.reduceToNat, Int.reduceNeg, e1] <;> (repeat' apply And.intro) <;> first | rfl | exact ⟨_, rfl⟩ | exact ⟨_, _, rfl⟩ | simp [lst, cat2_nil]
 ·rw [if_neg e1] at h
  have e1f : (s_.toList == ({ data := #[49, 48, 48, 48, 48, 48, 48] } : ByteArray).toList) = false := Bool.eq_false_iff.mpr e1
  obtain ⟨r6_, hl2, h⟩ := bindS h
  try dsimp only at h
  have c2 := s_l1Read_call s_ hl2
  obtain rfl := Option.some.inj h
  simp (maxDischargeDepth := 9) only [↓xpre, xpost, xlst, xc2, xcore, yset, rg0, ↓reduceIte, Nat.reduceEqDiff, Nat.reduceLT, Nat.reduceLeDiff, Nat.reduceAdd, Nat.reduceMul, Nat.reduceMod, Nat.reduceDiv, Nat.reducePow, Nat.reduceSub, Nat.reduceBEq, Int.reduceLE, Int.reduceLT, Int.reduceEq, Int.reduceSub, Int.reduceAdd, Int.reduceToNat, Int.reduceNeg, e1f, c2] <;> (repeat' apply And.intro) <;> first | rfl | exact ⟨_, rfl⟩ | exact ⟨_, _, rfl⟩ | simp [lst, cat2_nil]

noncomputable def s_ParseValue_l0_S (s_ : ByteArray) (r11_ : (List ByteArray)) (out : List (Int × Int)) (t13_ : Int) (r20_ : (List ByteArray)) (x_0 : Int) (x_1 : Int) (t22_ : Int) : Option ((Int × Int × Int) ⊕ (Int × Int)) :=
 if t22_ < (r20_.length : Int) then
  ck (0 ≤ t22_ ∧ t22_.toNat < r20_.length) <|
  if ((r20_.getD t22_.toNat default).toList == ({ data := #[] } : ByteArray).toList) = true then
   some (Sum.inl (x_0, x_1, IntKind.i64.wrap (t22_ + 1)))
  else
   if ((r20_.getD t22_.toNat default).toList == (r11_.getD t13_.toNat default).toList) = true then
    some (Sum.inl (t22_, 0, IntKind.i64.wrap (t22_ + 1)))
   else
    some (Sum.inl (x_0, x_1, IntKind.i64.wrap (t22_ + 1)))
 else
  some (Sum.inr (x_0, x_1))
noncomputable def s_ParseValue_l0 (s_ : ByteArray) (r11_ : (List ByteArray)) (out : List (Int × Int)) (t13_ : Int) (r20_ : (List ByteArray)) (v : Int × Int × Int) : Option (Int × Int) := itO (fun v => s_ParseValue_l0_S s_ r11_ out t13_ r20_ v.1 v.2.1 v.2.2) v
noncomputable def s_ParseValue_l1_S (s_ : ByteArray) (r11_ : (List ByteArray)) (out : List (Int × Int)) (t13_ : Int) : Option (((List (Int × Int)) × Int) ⊕ ((List (Int × Int)))) :=
 if t13_ < (r11_.length : Int) then
  ck (0 ≤ t13_ ∧ t13_.toNat < r11_.length) <|
  (s_vaNumber (r11_.getD t13_.toNat default)).bind fun r18_ =>
  (s_vaWords).bind fun r20_ =>
  (s_ParseValue_l0 s_ r11_ out t13_ r20_ (1, r18_, 0)).bind fun r1000_ =>
  ck (out.length * 2 + 2 < 1099511627776) <|
  some (Sum.inl ((out ++ [(r1000_.1, r1000_.2)]), IntKind.i64.wrap (t13_ + 1)))
 else
  some (Sum.inr out)
noncomputable def s_ParseValue_l1 (s_ : ByteArray) (r11_ : (List ByteArray)) (v : (List (Int × Int)) × Int) : Option ((List (Int × Int))) := itO (fun v => s_ParseValue_l1_S s_ r11_ v.1 v.2) v
noncomputable def s_ParseValue (s_ : ByteArray) : Option ((List (Int × Int)) × Bool) :=
 (s_l1Split s_ (32 : Int)).bind fun r11_ =>
 (s_ParseValue_l1 s_ r11_ ([], 0)).bind fun r1001_ =>
 (s_vaGood r1001_).bind fun r43_ =>
 if r43_ = true then
  (s_vaText r1001_).bind fun r47_ =>
  if (r47_.toList == s_.toList) = true then
   some (r1001_, true)
  else
   some ([], false)
 else
  some ([], false)
/-- spec.ParseValue -/
def k12_l0b : SC :=
 .seq
 (.ops [
 ⟨(some 23), (.binOp .lss 3 (.tmp 22) (.tmp 21) 3), 0, none⟩])
 (.seq
 (.cond (.tmp 23)
 .skip
 (.exit 2))
 (.seq
 (.block 3
 (.seq
 (.ops [
 ⟨(some 24), (.move (.tmp 22)), 3, none⟩,
 ⟨(some 25), (.indexAddr 52 (.tmp 20) (.tmp 22)), 0, none⟩,
 ⟨(some 26), (.load 9 (.tmp 25)), 9, none⟩,
 ⟨(some 8), (.assign (.tmp 24)), 3, none⟩,
 ⟨(some 9), (.assign (.tmp 26)), 9, none⟩])
 (.seq
 (.ops [
 ⟨(some 27), (.move (.tmp 9)), 9, none⟩,
 ⟨(some 28), (.binOp .neq 9 (.tmp 27) (.const (.string { data := #[] })) 9), 4, none⟩,
 ⟨(some 29), (.move (.tmp 28)), 4, none⟩,
 ⟨(some 30), (.move (.tmp 9)), 9, (some (some 29, true))⟩,
 ⟨(some 31), (.move (.tmp 6)), 9, (some (some 29, true))⟩,
 ⟨(some 32), (.binOp .eql 9 (.tmp 30) (.tmp 31) 9), 4, (some (some 29, true))⟩,
 ⟨(some 33), (.pick (.tmp 29) (.tmp 32) (.const (.bool false))), 4, none⟩])
 (.cond (.tmp 33)
 (.ops [
 ⟨(some 34), (.move (.tmp 8)), 3, none⟩,
 ⟨(some 35), (.build 49 #[(0, (.tmp 34))]), 49, none⟩,
 ⟨none, (.store 49 (.tmp 7) (.tmp 35)), 0, none⟩])
 .skip))))
 (.ops [
 ⟨(some 36), (.binOp .add 3 (.tmp 22) (.const (.int .i64 1)) 3), 3, none⟩,
 ⟨(some 22), (.move (.tmp 36)), 3, none⟩])))
def k12_l0 : SC := .loop k12_l0b
def k12_l1b : SC :=
 .seq
 (.ops [
 ⟨(some 14), (.binOp .lss 3 (.tmp 13) (.tmp 12) 3), 0, none⟩])
 (.seq
 (.cond (.tmp 14)
 .skip
 (.exit 0))
 (.seq
 (.block 1
 (.seq
 (.ops [
 ⟨(some 15), (.indexAddr 52 (.tmp 11) (.tmp 13)), 0, none⟩,
 ⟨(some 16), (.load 9 (.tmp 15)), 9, none⟩,
 ⟨(some 6), (.assign (.tmp 16)), 9, none⟩])
 (.seq
 (.ops [
 ⟨(some 17), (.move (.tmp 6)), 9, none⟩,
 ⟨(some 18), (.call ⟨(.value (.func 34)), #[(.tmp 17)], #[9]⟩), 3, none⟩,
 ⟨(some 19), (.build 49 #[(0, (.const (.int .i64 1))), (1, (.tmp 18))]), 49, none⟩,
 ⟨(some 7), (.alloc 49), 0, none⟩,
 ⟨none, (.store 49 (.tmp 7) (.tmp 19)), 0, none⟩])
 (.seq
 (.seq
 (.ops [
 ⟨(some 20), (.call ⟨(.value (.func 35)), #[], #[]⟩), 52, none⟩,
 ⟨(some 21), (.call ⟨(.builtin .len), #[(.tmp 20)], #[52]⟩), 3, none⟩,
 ⟨(some 22), (.move (.const (.int .i64 0))), 3, none⟩])
 (.block 2
 k12_l0))
 (.ops [
 ⟨(some 37), (.move (.tmp 4)), 26, none⟩,
 ⟨(some 38), (.load 49 (.tmp 7)), 49, none⟩,
 ⟨(some 39), (.buildSlice 26 1 #[(0, (.tmp 38))]), 26, none⟩,
 ⟨(some 40), (.call ⟨(.builtin .append), #[(.tmp 37), (.tmp 39)], #[26, 26]⟩), 26, none⟩,
 ⟨(some 4), (.assign (.tmp 40)), 26, none⟩])))))
 (.ops [
 ⟨(some 41), (.binOp .add 3 (.tmp 13) (.const (.int .i64 1)) 3), 3, none⟩,
 ⟨(some 13), (.move (.tmp 41)), 3, none⟩])))
def k12_l1 : SC := .loop k12_l1b
def k12 : SC :=
 .seq
 (.ops [
 ⟨(some 2), (.assign (.const (.slice none 0 0))), 26, none⟩,
 ⟨(some 3), (.assign (.const (.bool false))), 4, none⟩])
 (.seq
 (.ops [
 ⟨(some 4), (.assign (.const (.slice none 0 0))), 26, none⟩])
 (.seq
 (.seq
 (.ops [
 ⟨(some 10), (.move (.tmp 0)), 9, none⟩,
 ⟨(some 11), (.call ⟨(.value (.func 33)), #[(.tmp 10), (.const (.int .u8 32))], #[9, 5]⟩), 52, none⟩,
 ⟨(some 12), (.call ⟨(.builtin .len), #[(.tmp 11)], #[52]⟩), 3, none⟩,
 ⟨(some 13), (.move (.const (.int .i64 0))), 3, none⟩])
 (.block 0
 k12_l1))
 (.seq
 (.seq
 (.ops [
 ⟨(some 42), (.move (.tmp 4)), 26, none⟩,
 ⟨(some 43), (.call ⟨(.value (.func 25)), #[(.tmp 42)], #[26]⟩), 4, none⟩,
 ⟨(some 44), (.unOp .not 4 (.tmp 43)), 4, none⟩,
 ⟨(some 45), (.move (.tmp 44)), 4, none⟩,
 ⟨(some 46), (.move (.tmp 4)), 26, (some (some 45, false))⟩,
 ⟨(some 47), (.call ⟨(.value (.func 26)), #[(.tmp 46)], #[26]⟩), 9, (some (some 45, false))⟩,
 ⟨(some 48), (.move (.tmp 0)), 9, (some (some 45, false))⟩,
 ⟨(some 49), (.binOp .neq 9 (.tmp 47) (.tmp 48) 9), 4, (some (some 45, false))⟩,
 ⟨(some 50), (.pick (.tmp 45) (.const (.bool true)) (.tmp 49)), 4, none⟩])
 (.cond (.tmp 50)
 (.seq
 (.ops [
 ⟨(some 2), (.assign (.const (.slice none 0 0))), 26, none⟩,
 ⟨(some 3), (.assign (.const (.bool false))), 4, none⟩])
 .ret)
 .skip))
 (.seq
 (.ops [
 ⟨(some 51), (.move (.tmp 4)), 26, none⟩,
 ⟨(some 2), (.assign (.tmp 51)), 26, none⟩,
 ⟨(some 3), (.assign (.const (.bool true))), 4, none⟩])
 .ret))))
theorem slim12 : Tryd.f12.body.map (slim lends) = some k12 := by kernel_rfl
theorem ok12 : fnOk Tryd.f12 1 = true := by kernel_rfl
theorem c12 {a l : List D} {r : D × List D} (h : wpD Y.env k12 (fin tys l.length [ResultVar.tmp 2, ResultVar.tmp 3] r) (entry a l)) (ha : a.length = 1) : Y.call 12 a l = some r :=
 call_slim (Y := Y) rfl Tryd.func12 (ha ▸ ok12) slim12 h
def s_ParseValue_l0_M (s_ : ByteArray) (r11_ : (List ByteArray)) (out : List (Int × Int)) (t13_ : Int) (r20_ : (List ByteArray)) (x_0 : Int) (x_1 : Int) (t22_ : Int) (s : St) : Prop := s.v 0 = D.str s_ ∧ s.v 4 = D.own 49 (cat2 .i64 .i64 out) ∧ s.v 6 = D.str (r11_.getD t13_.toNat default) ∧ s.v 7 = D.box [D.int .i64 x_0, D.int .i64 x_1] ∧ s.v 11 = D.own 9 (lst D.str r11_) ∧ s.v 12 = D.int .i64 (r11_.length : Int) ∧ s.v 13 = D.int .i64 t13_ ∧ s.v 20 = D.own 9 (lst D.str r20_) ∧ s.v 21 = D.int .i64 (r20_.length : Int) ∧ s.v 22 = D.int .i64 t22_
def s_ParseValue_l0_X (s_ : ByteArray) (r11_ : (List ByteArray)) (out : List (Int × Int)) (t13_ : Int) (r20_ : (List ByteArray)) (r : Int × Int) (ex : Ex) (s : St) : Prop := ex = .exit 2 ∧ s.v 0 = D.str s_ ∧ s.v 4 = D.own 49 (cat2 .i64 .i64 out) ∧ s.v 7 = D.box [D.int .i64 r.1, D.int .i64 r.2] ∧ s.v 11 = D.own 9 (lst D.str r11_) ∧ s.v 12 = D.int .i64 (r11_.length : Int) ∧ s.v 13 = D.int .i64 t13_
theorem s_ParseValue_l0_wp (s_ : ByteArray) (r11_ : (List ByteArray)) (out : List (Int × Int)) (t13_ : Int) (r20_ : (List ByteArray)) {v : Int × Int × Int} {s : St} {r : Int × Int} (h : s_ParseValue_l0 s_ r11_ out t13_ r20_ v = some r) (hM : s_ParseValue_l0_M s_ r11_ out t13_ r20_ v.1 v.2.1 v.2.2 s) : wpD Y.env k12_l0 (s_ParseValue_l0_X s_ r11_ out t13_ r20_ r) s := by
 unfold s_ParseValue_l0 at h
 refine wd_itO (c := k12_l0b) (fun v => s_ParseValue_l0_S s_ r11_ out t13_ r20_ v.1 v.2.1 v.2.2) (fun v s => s_ParseValue_l0_M s_ r11_ out t13_ r20_ v.1 v.2.1 v.2.2 s) (s_ParseValue_l0_X s_ r11_ out t13_ r20_) ?_ h hM
 clear h hM s v r
 intro v s o hM h
 obtain ⟨x_0, x_1, t22_⟩ := v
 dsimp only at h hM
 unfold s_ParseValue_l0_S at h
 unfold s_ParseValue_l0_M at hM
 obtain ⟨m0, m1, m2, m3, m4, m5, m6, m7, m8, m9⟩ := hM
 unfold k12_l0b
 by_cases e6 : t22_ < (r20_.length : Int)
 ·rw [if_pos e6] at h
  obtain ⟨e7, h⟩ := ckS h
  by_cases e8 : ((r20_.getD t22_.toNat default).toList == ({ data := #[] } : ByteArray).toList) = true
  ·rw [if_pos e8] at h
   obtain rfl := Option.some.inj h
   simp (maxDischargeDepth := 9) only [↓xpre, xpost, xlst, xc2, xcore, yset, rg0, ↓reduceIte, Nat.reduceEqDiff, Nat.reduceLT, Nat.reduceLeDiff, Nat.reduceAdd, Nat.reduceMul, Nat.reduceMod, Nat.reduceDiv, Nat.reducePow, Nat.reduceSub, Nat.reduceBEq, Int.reduceLE, Int.reduceLT, Int.reduceEq, Int.reduceSub, Int.reduceAdd, Int.reduceToNat, Int.reduceNeg, m0, m1, m2, m3, m4, m5, m6, m7, m8, m9, e6, e7.1, e7.2, e8, s_ParseValue_l0_M, s_ParseValue_l0_X, sxN, sxE, sxR] <;> (repeat' apply And.intro) <;> first | rfl | exact ⟨_, rfl⟩ | exact ⟨_, _, rfl⟩ | simp [lst, cat2_nil]
  ·rw [if_neg e8] at h
   have e8f : ((r20_.getD t22_.toNat default).toList == ({ data := #[] } : ByteArray).toList) = false := Bool.eq_false_iff.mpr e8
   by_cases e9 : ((r20_.getD t22_.toNat default).toList == (r11_.getD t13_.toNat default).toList) = true
   ·rw [if_pos e9] at h
    obtain rfl := Option.some.inj h
    simp (maxDischargeDepth := 9) only [↓xpre, xpost, xlst, xc2, xcore, yset, rg0, ↓reduceIte, Nat.reduceEqDiff, Nat.reduceLT, Nat.reduceLeDiff, Nat.reduceAdd, Nat.reduceMul, Nat.reduceMod, Nat.reduceDiv, Nat.reducePow, Nat.reduceSub, Nat.reduceBEq, Int.reduceLE, Int.reduceLT, Int.reduceEq, Int.reduceSub, Int.reduceAdd, Int.reduceToNat, Int.reduceNeg, m0, m1, m2, m3, m4, m5, m6, m7, m8, m9, e6, e7.1, e7.2, e8f, e9, s_ParseValue_l0_M, s_ParseValue_l0_X, sxN, sxE, sxR] <;> (repeat' apply And.intro) <;> first | rfl | exact ⟨_, rfl⟩ | exact ⟨_, _, rfl⟩ | simp [lst, cat2_nil]
   ·rw [if_neg e9] at h
    have e9f : ((r20_.getD t22_.toNat default).toList == (r11_.getD t13_.toNat default).toList) = false := Bool.eq_false_iff.mpr e9
    obtain rfl := Option.some.inj h
    simp (maxDischargeDepth := 9) only [↓xpre, xpost, xlst, xc2, xcore, yset, rg0, ↓reduceIte, Nat.reduceEqDiff, Nat.reduceLT, Nat.reduceLeDiff, Nat.reduceAdd, Nat.reduceMul, Nat.reduceMod, Nat.reduceDiv, Nat.reducePow, Nat.reduceSub, Nat.reduceBEq, Int.reduceLE, Int.reduceLT, Int.reduceEq, Int.reduceSub, Int.reduceAdd, Int.reduceToNat, Int.reduceNeg, m0, m1, m2, m3, m4, m5, m6, m7, m8, m9, e6, e7.1, e7.2, e8f, e9f, s_ParseValue_l0_M, s_ParseValue_l0_X, sxN, sxE, sxR] <;> (repeat' apply And.intro) <;> first | rfl | exact ⟨_, rfl⟩ | exact ⟨_, _, rfl⟩ | simp [lst, cat2_nil]
 ·rw [if_neg e6] at h
  obtain rfl := Option.some.inj h
  simp (maxDischargeDepth := 9) only [↓xpre, xpost, xlst, xc2, xcore, yset, rg0, ↓reduceIte, Nat.reduceEqDiff, Nat.reduceLT, Nat.reduceLeDiff, Nat.reduceAdd, Nat.reduceMul, Nat.reduceMod, Nat.reduceDiv, Nat.reducePow, Nat.reduceSub, Nat.reduceBEq, Int.reduceLE, Int.reduceLT, Int.reduceEq, Int.reduceSub, Int.reduceAdd, Int.reduceToNat, Int.reduceNeg, m0, m1, m2, m3, m4, m5, m6, m7, m8, m9, e6, s_ParseValue_l0_M, s_ParseValue_l0_X, sxN, sxE, sxR] <;> (repeat' apply And.intro) <;> first | rfl | exact ⟨_, rfl⟩ | exact ⟨_, _, rfl⟩ | simp [lst, cat2_nil]
def s_ParseValue_l1_M (s_ : ByteArray) (r11_ : (List ByteArray)) (out : List (Int × Int)) (t13_ : Int) (s : St) : Prop := s.v 0 = D.str s_ ∧ s.v 4 = D.own 49 (cat2 .i64 .i64 out) ∧ s.v 11 = D.own 9 (lst D.str r11_) ∧ s.v 12 = D.int .i64 (r11_.length : Int) ∧ s.v 13 = D.int .i64 t13_
def s_ParseValue_l1_X (s_ : ByteArray) (r11_ : (List ByteArray)) (r : (List (Int × Int))) (ex : Ex) (s : St) : Prop := ex = .exit 0 ∧ s.v 0 = D.str s_ ∧ s.v 4 = D.own 49 (cat2 .i64 .i64 r)
theorem s_ParseValue_l1_wp (s_ : ByteArray) (r11_ : (List ByteArray)) {v : (List (Int × Int)) × Int} {s : St} {r : (List (Int × Int))} (h : s_ParseValue_l1 s_ r11_ v = some r) (hM : s_ParseValue_l1_M s_ r11_ v.1 v.2 s) : wpD Y.env k12_l1 (s_ParseValue_l1_X s_ r11_ r) s := by
 unfold s_ParseValue_l1 at h
 refine wd_itO (c := k12_l1b) (fun v => s_ParseValue_l1_S s_ r11_ v.1 v.2) (fun v s => s_ParseValue_l1_M s_ r11_ v.1 v.2 s) (s_ParseValue_l1_X s_ r11_) ?_ h hM
 clear h hM s v r
 intro v s o hM h
 obtain ⟨out, t13_⟩ := v
 dsimp only at h hM
 unfold s_ParseValue_l1_S at h
 unfold s_ParseValue_l1_M at hM
 obtain ⟨m0, m1, m2, m3, m4⟩ := hM
 unfold k12_l1b
 by_cases e2 : t13_ < (r11_.length : Int)
 ·rw [if_pos e2] at h
  obtain ⟨e3, h⟩ := ckS h
  obtain ⟨r18_, hl4, h⟩ := bindS h
  try dsimp only at h
  have c4 := s_vaNumber_call (r11_.getD t13_.toNat default) hl4
  obtain ⟨r20_, hl5, h⟩ := bindS h
  try dsimp only at h
  have c5 := s_vaWords_call hl5
  obtain ⟨r1000_, hl7, h⟩ := bindS h
  try dsimp only at h
  simp (maxDischargeDepth := 9) only [↓xpre, xpost, xlst, xc2, xcore, yset, rg0, ↓reduceIte, Nat.reduceEqDiff, Nat.reduceLT, Nat.reduceLeDiff, Nat.reduceAdd, Nat.reduceMul, Nat.reduceMod, Nat.reduceDiv, Nat.reducePow, Nat.reduceSub, Nat.reduceBEq, Int.reduceLE, Int.reduceLT, Int.reduceEq, Int.reduceSub, Int.reduceAdd, Int.reduceToNat, Int.reduceNeg, m0, m1, m2, m3, m4, e2, e3.1, e3.2, c4, c5]
  refine wd_mono (s_ParseValue_l0_wp s_ r11_ out t13_ r20_ hl7 ?_) ?_
  ·simp (maxDischargeDepth := 9) only [↓xpre, xpost, xlst, xc2, xcore, yset, rg0, ↓reduceIte, Nat.reduceEqDiff, Nat.reduceLT, Nat.reduceLeDiff, Nat.reduceAdd, Nat.reduceMul, Nat.reduceMod, Nat.reduceDiv, Nat.reducePow, Nat.reduceSub, Nat.reduceBEq, Int.reduceLE, Int.reduceLT, Int.reduceEq, Int.reduceSub, Int.reduceAdd, Int.reduceToNat, Int.reduceNeg, m0, m1, m2, m3, m4, e2, e3.1, e3.2, c4, c5, s_ParseValue_l0_M] <;> (repeat' apply And.intro) <;> first | rfl | exact ⟨_, rfl⟩ | exact ⟨_, _, rfl⟩ | simp [lst, cat2_nil]
  ·intro ex7 s7 hX7
   unfold s_ParseValue_l0_X at hX7
   obtain ⟨rfl, n7_0, n7_1, n7_2, n7_3, n7_4, n7_5⟩ := hX7
   obtain ⟨e8, h⟩ := ckS h
   obtain rfl := Option.some.inj h
   simp (maxDischargeDepth := 9) only [↓xpre, xpost, xlst, xc2, xcore, yset, rg0, ↓reduceIte, Nat.reduceEqDiff, Nat.reduceLT, Nat.reduceLeDiff, Nat.reduceAdd, Nat.reduceMul, Nat.reduceMod, Nat.reduceDiv, Nat.reducePow, Nat.reduceSub, Nat.reduceBEq, Int.reduceLE, Int.reduceLT, Int.reduceEq, Int.reduceSub, Int.reduceAdd, Int.reduceToNat, Int.reduceNeg, e2, e3.1, e3.2, c4, c5, n7_0, n7_1, n7_2, n7_3, n7_4, n7_5, e8, s_ParseValue_l1_M, s_ParseValue_l1_X, sxN, sxE, sxR] <;> (repeat' apply And.intro) <;> first | rfl | exact ⟨_, rfl⟩ | exact ⟨_, _, rfl⟩ | simp [lst, cat2_nil]
 ·rw [if_neg e2] at h
  obtain rfl := Option.some.inj h
  simp (maxDischargeDepth := 9) only [↓xpre, xpost, xlst, xc2, xcore, yset, rg0, ↓reduceIte, Nat.reduceEqDiff, Nat.reduceLT, Nat.reduceLeDiff, Nat.reduceAdd, Nat.reduceMul, Nat.reduceMod, Nat.reduceDiv, Nat.reducePow, Nat.reduceSub, Nat.reduceBEq, Int.reduceLE, Int.reduceLT, Int.reduceEq, Int.reduceSub, Int.reduceAdd, Int.reduceToNat, Int.reduceNeg, m0, m1, m2, m3, m4, e2, s_ParseValue_l1_M, s_ParseValue_l1_X, sxN, sxE, sxR] <;> (repeat' apply And.intro) <;> first | rfl | exact ⟨_, rfl⟩ | exact ⟨_, _, rfl⟩ | simp [lst, cat2_nil]
theorem s_ParseValue_call (s_ : ByteArray) {r : (List (Int × Int)) × Bool} (h : s_ParseValue s_ = some r) : Y.call 12 [D.str s_] [] = some (D.tup [D.own 49 (cat2 .i64 .i64 r.1), D.bool r.2], []) := by
 refine c12 ?_ rfl
 unfold k12
 unfold s_ParseValue at h
 obtain ⟨r11_, hl1, h⟩ := bindS h
 try dsimp only at h
 have c1 := s_l1Split_call s_ (32 : Int) hl1
 obtain ⟨r1001_, hl3, h⟩ := bindS h
 try dsimp only at h
 simp (maxDischargeDepth := 9) only [↓xpre, xpost, xlst, xc2, xcore, yset, rg0, ↓reduceIte, Nat.reduceEqDiff, Nat.reduceLT, Nat.reduceLeDiff, Nat.reduceAdd, Nat.reduceMul, Nat.reduceMod, Nat.reduceDiv, Nat.reducePow, Nat.reduceSub, Nat.reduceBEq, Int.reduceLE, Int.reduceLT, Int.reduceEq, Int.reduceSub, Int.reduceAdd, Int.reduceToNat, Int.reduceNeg, c1]
 refine wd_mono (s_ParseValue_l1_wp s_ r11_ hl3 ?_) ?_
 ·simp (maxDischargeDepth := 9) only [↓xpre, xpost, xlst, xc2, xcore, yset, rg0, ↓reduceIte, Nat.reduceEqDiff, Nat.reduceLT, Nat.reduceLeDiff, Nat.reduceAdd, Nat.reduceMul, Nat.reduceMod, Nat.reduceDiv, Nat.reducePow, Nat.reduceSub, Nat.reduceBEq, Int.reduceLE, Int.reduceLT, Int.reduceEq, Int.reduceSub, Int.reduceAdd, Int.reduceToNat, Int.reduceNeg, c1, s_ParseValue_l1_M] <;> (repeat' apply And.intro) <;> first | rfl | exact ⟨_, rfl⟩ | exact ⟨_, _, rfl⟩ | simp [lst, cat2_nil]
 ·intro ex3 s3 hX3
  unfold s_ParseValue_l1_X at hX3
  obtain ⟨rfl, n3_0, n3_1⟩ := hX3
  obtain ⟨r43_, hl4, h⟩ := bindS h
  try dsimp only at h
  have c4 := s_vaGood_call r1001_ hl4
  by_cases e5 : r43_ = true
  ·rw [if_pos e5] at h
   obtain ⟨r47_, hl6, h⟩ := bindS h
   try dsimp only at h
   have c6 := s_vaText_call r1001_ hl6
   by_cases e7 : (r47_.toList == s_.toList) = true
   ·rw [if_pos e7] at h
    obtain rfl := Option.some.inj h
    simp (maxDischargeDepth := 9) only [↓xpre, xpost, xlst, xc2, xcore, yset, rg0, ↓reduceIte, Nat.reduceEqDiff, Nat.reduceLT, Nat.reduceLeDiff, Nat.reduceAdd, Nat.reduceMul, Nat.reduceMod, Nat.reduceDiv, Nat.reducePow, Nat.reduceSub, Nat.reduceBEq, Int.reduceLE, Int.reduceLT, Int.reduceEq, Int.reduceSub, Int.reduceAdd, Int.reduceToNat, Int.reduceNeg, c1, n3_0, n3_1, c4, e5, c6, e7] <;> (repeat' apply And.intro) <;> first | rfl | exact ⟨_, rfl⟩ | exact ⟨_, _, rfl⟩ | simp [lst, cat2_nil]
   ·rw [if_neg e7] at h
    have e7f : (r47_.toList == s_.toList) = false := Bool.eq_false_iff.mpr e7
    obtain rfl := Option.some.inj h
    simp (maxDischargeDepth := 9) only [↓xpre, xpost, xlst, xc2, xcore, yset, rg0, ↓reduceIte, Nat.reduceEqDiff, Nat.reduceLT, Nat.reduceLeDiff, Nat.reduceAdd, Nat.reduceMul, Nat.reduceMod, Nat.reduceDiv, Nat.reducePow, Nat.reduceSub, Nat.reduceBEq, Int.reduceLE, Int.reduceLT, Int.reduceEq, Int.reduceSub, Int.reduceAdd, Int.reduceToNat, Int.reduceNeg, c1, n3_0, n3_1, c4, e5, c6, e7f] <;> (repeat' apply And.intro) <;> first | rfl | exact ⟨_, rfl⟩ | exact ⟨_, _, rfl⟩ | simp [lst, cat2_nil]
  ·rw [if_neg e5] at h
   have e5f : r43_ = false := Bool.eq_false_iff.mpr e5
   obtain rfl := Option.some.inj h
   simp (maxDischargeDepth := 9) only [↓xpre, xpost, xlst, xc2, xcore, yset, rg0, ↓reduceIte, Nat.reduceEqDiff, Nat.reduceLT, Nat.reduceLeDiff, Nat.reduceAdd, Nat.reduceMul, Nat.reduceMod, Nat.reduceDiv, Nat.reducePow, Nat.reduceSub, Nat.reduceBEq, Int.reduceLE, Int.reduceLT, Int.reduceEq, Int.reduceSub, Int.reduceAdd, Int.reduceToNat, Int.reduceNeg, c1, n3_0, n3_1, c4, e5f] <;> (repeat' apply And.intro) <;> first | rfl | exact ⟨_, rfl⟩ | exact ⟨_, _, rfl⟩ | simp [lst, cat2_nil]


end Go.Proofs.YtaogbcdlpgfplaaDoor
