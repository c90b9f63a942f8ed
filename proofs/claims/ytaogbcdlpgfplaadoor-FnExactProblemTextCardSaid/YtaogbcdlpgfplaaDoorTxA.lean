/- Texts of problems, lifted. Conditions: none. -/
import Derived.Test.YtaogbcdlpgfplaaDoorL6
import Derived.Test.YtaogbcdlpgfplaaDoorIsP
import Derived.Test.YtaogbcdlpgfplaaDoorPB
namespace Go.Proofs.YtaogbcdlpgfplaaDoor
open Go Dv
set_option linter.unusedSimpArgs false
set_option linter.unusedVariables false
set_option maxRecDepth 100000
set_option maxHeartbeats 4000000

noncomputable def i_wordsLine_l0_S (numbers : List Int) (word1 : ByteArray) (t9_ : Int) : Option ((ByteArray × Int) ⊕ (ByteArray)) :=
 if t9_ < (numbers.length : Int) then
  ck (0 ≤ t9_ ∧ t9_.toNat < numbers.length) <|
  if (numbers.getD t9_.toNat default) = (-1) then
   ck (word1.size + ({ data := #[32, 42] } : ByteArray).size < 1099511627776) <|
   some (Sum.inl ((word1 ++ ({ data := #[32, 42] } : ByteArray)), IntKind.i64.wrap (t9_ + 1)))
  else
   ck (-9223372036854775808 ≤ (numbers.getD t9_.toNat default) ∧ (numbers.getD t9_.toNat default) ≤ 9223372036854775807) <|
   ck (({ data := #[32] } : ByteArray).size + (itoaB (numbers.getD t9_.toNat default)).size < 1099511627776) <|
   ck (word1.size + (({ data := #[32] } : ByteArray) ++ (itoaB (numbers.getD t9_.toNat default))).size < 1099511627776) <|
   some (Sum.inl ((word1 ++ (({ data := #[32] } : ByteArray) ++ (itoaB (numbers.getD t9_.toNat default)))), IntKind.i64.wrap (t9_ + 1)))
 else
  some (Sum.inr word1)
noncomputable def i_wordsLine_l0 (numbers : List Int) (v : ByteArray × Int) : Option (ByteArray) := itO (fun v => i_wordsLine_l0_S numbers v.1 v.2) v
noncomputable def i_wordsLine (word : ByteArray) (numbers : List Int) : Option (ByteArray) :=
 (i_wordsLine_l0 numbers (word, 0)).bind fun r1000_ =>
 some r1000_
/-- impl.wordsLine -/
def k69_l0b : SC :=
 .seq
 (.ops [
 ⟨(some 10), (.binOp .lss 3 (.tmp 9) (.tmp 8) 3), 0, none⟩])
 (.seq
 (.cond (.tmp 10)
 .skip
 (.exit 0))
 (.seq
 (.block 1
 (.seq
 (.ops [
 ⟨(some 11), (.indexAddr 70 (.tmp 7) (.tmp 9)), 0, none⟩,
 ⟨(some 12), (.load 3 (.tmp 11)), 3, none⟩,
 ⟨(some 6), (.assign (.tmp 12)), 3, none⟩])
 (.seq
 (.ops [
 ⟨(some 13), (.move (.tmp 6)), 3, none⟩,
 ⟨(some 14), (.binOp .eql 3 (.tmp 13) (.const (.int .i64 (-1))) 3), 4, none⟩])
 (.cond (.tmp 14)
 (.ops [
 ⟨(some 15), (.move (.tmp 0)), 9, none⟩,
 ⟨(some 16), (.binOp .add 9 (.tmp 15) (.const (.string { data := #[32, 42] })) 9), 9, none⟩,
 ⟨(some 0), (.assign (.tmp 16)), 9, none⟩])
 (.ops [
 ⟨(some 17), (.move (.tmp 0)), 9, none⟩,
 ⟨(some 18), (.move (.tmp 6)), 3, none⟩,
 ⟨(some 19), (.call ⟨(.value (.func 29)), #[(.tmp 18)], #[3]⟩), 9, none⟩,
 ⟨(some 20), (.binOp .add 9 (.const (.string { data := #[32] })) (.tmp 19) 9), 9, none⟩,
 ⟨(some 21), (.binOp .add 9 (.tmp 17) (.tmp 20) 9), 9, none⟩,
 ⟨(some 0), (.assign (.tmp 21)), 9, none⟩])))))
 (.ops [
 ⟨(some 22), (.binOp .add 3 (.tmp 9) (.const (.int .i64 1)) 3), 3, none⟩,
 ⟨(some 9), (.move (.tmp 22)), 3, none⟩])))
def k69_l0 : SC := .loop k69_l0b
def k69 : SC :=
 .seq
 (.ops [
 ⟨(some 4), (.assign (.const (.string { data := #[] }))), 9, none⟩])
 (.seq
 (.seq
 (.ops [
 ⟨(some 7), (.move (.tmp 1)), 70, none⟩,
 ⟨(some 8), (.call ⟨(.builtin .len), #[(.tmp 7)], #[70]⟩), 3, none⟩,
 ⟨(some 9), (.move (.const (.int .i64 0))), 3, none⟩])
 (.block 0
 k69_l0))
 (.seq
 (.ops [
 ⟨(some 23), (.move (.tmp 0)), 9, none⟩,
 ⟨(some 4), (.assign (.tmp 23)), 9, none⟩])
 .ret))
theorem slim69 : Tryd.f69.body.map (slim lends) = some k69 := by kernel_rfl
theorem ok69 : fnOk Tryd.f69 2 = true := by kernel_rfl
theorem c69 {a l : List D} {r : D × List D} (h : wpD Y.env k69 (fin tys l.length [ResultVar.tmp 4] r) (entry a l)) (ha : a.length = 2) : Y.call 69 a l = some r :=
 call_slim (Y := Y) rfl Tryd.func69 (ha ▸ ok69) slim69 h
def i_wordsLine_l0_M (numbers : List Int) (word1 : ByteArray) (t9_ : Int) (s : St) : Prop := s.v 0 = D.str word1 ∧ s.v 7 = D.sl 3 (lst (D.int .i64) numbers) ∧ s.v 8 = D.int .i64 (numbers.length : Int) ∧ s.v 9 = D.int .i64 t9_
def i_wordsLine_l0_X (numbers : List Int) (r : ByteArray) (ex : Ex) (s : St) : Prop := ex = .exit 0 ∧ s.v 0 = D.str r
theorem i_wordsLine_l0_wp (numbers : List Int) {v : ByteArray × Int} {s : St} {r : ByteArray} (h : i_wordsLine_l0 numbers v = some r) (hM : i_wordsLine_l0_M numbers v.1 v.2 s) : wpD Y.env k69_l0 (i_wordsLine_l0_X numbers r) s := by
 unfold i_wordsLine_l0 at h
 refine wd_itO (c := k69_l0b) (fun v => i_wordsLine_l0_S numbers v.1 v.2) (fun v s => i_wordsLine_l0_M numbers v.1 v.2 s) (i_wordsLine_l0_X numbers) ?_ h hM
 clear h hM s v r
 intro v s o hM h
 obtain ⟨word1, t9_⟩ := v
 dsimp only at h hM
 unfold i_wordsLine_l0_S at h
 unfold i_wordsLine_l0_M at hM
 obtain ⟨m0, m1, m2, m3⟩ := hM
 unfold k69_l0b
 by_cases e1 : t9_ < (numbers.length : Int)
 ·rw [if_pos e1] at h
  obtain ⟨e2, h⟩ := ckS h
  by_cases e3 : (numbers.getD t9_.toNat default) = (-1)
  ·rw [if_pos e3] at h
   obtain ⟨e4, h⟩ := ckS h
   obtain rfl := Option.some.inj h
   simp (maxDischargeDepth := 9) only [↓xpre, xpost, xlst, xc2, xcore, yset, rg0, ↓reduceIte, Nat.reduceEqDiff, Nat.reduceLT, Nat.reduceLeDiff, Nat.reduceAdd, Nat.reduceMul, Nat.reduceMod, Nat.reduceDiv, Nat.reducePow, Nat.reduceSub, Nat.reduceBEq, Int.reduceLE, Int.reduceLT, Int.reduceEq, Int.reduceSub, Int.reduceAdd, Int.reduceToNat, Int.reduceNeg, m0, m1, m2, m3, e1, e2.1, e2.2, decide_eq_true e3, e4, i_wordsLine_l0_M, i_wordsLine_l0_X, sxN, sxE, sxR] <;> (repeat' apply And.intro) <;> first | rfl | exact ⟨_, rfl⟩ | exact ⟨_, _, rfl⟩ | simp [lst, cat2_nil]
  ·rw [if_neg e3] at h
   obtain ⟨e4, h⟩ := ckS h
   have c5 := itoa_29 (numbers.getD t9_.toNat default) e4
   obtain ⟨e6, h⟩ := ckS h
   obtain ⟨e7, h⟩ := ckS h
   obtain rfl := Option.some.inj h
   simp (maxDischargeDepth := 9) only [↓xpre, xpost, xlst, xc2, xcore, yset, rg0, ↓reduceIte, Nat.reduceEqDiff, Nat.reduceLT, Nat.reduceLeDiff, Nat.reduceAdd, Nat.reduceMul, Nat.reduceMod, Nat.reduceDiv, Nat.reducePow, Nat.reduceSub, Nat.reduceBEq, Int.reduceLE, Int.reduceLT, Int.reduceEq, Int.reduceSub, Int.reduceAdd, Int.reduceToNat, Int.reduceNeg, m0, m1, m2, m3, e1, e2.1, e2.2, e3, e4.1, e4.2, c5, e6, e7, i_wordsLine_l0_M, i_wordsLine_l0_X, sxN, sxE, sxR] <;> (repeat' apply And.intro) <;> first | rfl | exact ⟨_, rfl⟩ | exact ⟨_, _, rfl⟩ | simp [lst, cat2_nil]
 ·rw [if_neg e1] at h
  obtain rfl := Option.some.inj h
  simp (maxDischargeDepth := 9) only [↓xpre, xpost, xlst, xc2, xcore, yset, rg0, ↓reduceIte, Nat.reduceEqDiff, Nat.reduceLT, Nat.reduceLeDiff, Nat.reduceAdd, Nat.reduceMul, Nat.reduceMod, Nat.reduceDiv, Nat.reducePow, Nat.reduceSub, Nat.reduceBEq, Int.reduceLE, Int.reduceLT, Int.reduceEq, Int.reduceSub, Int.reduceAdd, Int.reduceToNat, Int.reduceNeg, m0, m1, m2, m3, e1, i_wordsLine_l0_M, i_wordsLine_l0_X, sxN, sxE, sxR] <;> (repeat' apply And.intro) <;> first | rfl | exact ⟨_, rfl⟩ | exact ⟨_, _, rfl⟩ | simp [lst, cat2_nil]
theorem i_wordsLine_call (word : ByteArray) (numbers : List Int) {r : ByteArray} (h : i_wordsLine word numbers = some r) : Y.call 69 [D.str word, D.sl 3 (lst (D.int .i64) numbers)] [] = some (D.str r, []) := by
 refine c69 ?_ rfl
 unfold k69
 unfold i_wordsLine at h
 obtain ⟨r1000_, hl2, h⟩ := bindS h
 try dsimp only at h
 simp (maxDischargeDepth := 9) only [↓xpre, xpost, xlst, xc2, xcore, yset, rg0, ↓reduceIte, Nat.reduceEqDiff, Nat.reduceLT, Nat.reduceLeDiff, Nat.reduceAdd, Nat.reduceMul, Nat.reduceMod, Nat.reduceDiv, Nat.reducePow, Nat.reduceSub, Nat.reduceBEq, Int.reduceLE, Int.reduceLT, Int.reduceEq, Int.reduceSub, Int.reduceAdd, Int.reduceToNat, Int.reduceNeg]
 refine wd_mono (i_wordsLine_l0_wp numbers hl2 ?_) ?_
 ·simp (maxDischargeDepth := 9) only [↓xpre, xpost, xlst, xc2, xcore, yset, rg0, ↓reduceIte, Nat.reduceEqDiff, Nat.reduceLT, Nat.reduceLeDiff, Nat.reduceAdd, Nat.reduceMul, Nat.reduceMod, Nat.reduceDiv, Nat.reducePow, Nat.reduceSub, Nat.reduceBEq, Int.reduceLE, Int.reduceLT, Int.reduceEq, Int.reduceSub, Int.reduceAdd, Int.reduceToNat, Int.reduceNeg, i_wordsLine_l0_M] <;> (repeat' apply And.intro) <;> first | rfl | exact ⟨_, rfl⟩ | exact ⟨_, _, rfl⟩ | simp [lst, cat2_nil]
 ·intro ex2 s2 hX2
  unfold i_wordsLine_l0_X at hX2
  obtain ⟨rfl, n2_0⟩ := hX2
  obtain rfl := Option.some.inj h
  simp (maxDischargeDepth := 9) only [↓xpre, xpost, xlst, xc2, xcore, yset, rg0, ↓reduceIte, Nat.reduceEqDiff, Nat.reduceLT, Nat.reduceLeDiff, Nat.reduceAdd, Nat.reduceMul, Nat.reduceMod, Nat.reduceDiv, Nat.reducePow, Nat.reduceSub, Nat.reduceBEq, Int.reduceLE, Int.reduceLT, Int.reduceEq, Int.reduceSub, Int.reduceAdd, Int.reduceToNat, Int.reduceNeg, n2_0] <;> (repeat' apply And.intro) <;> first | rfl | exact ⟨_, rfl⟩ | exact ⟨_, _, rfl⟩ | simp [lst, cat2_nil]

noncomputable def i_problemText_l0_S (p_Labels : Int) (p_Degree : Int) (p_Nodes : List (List Int)) (p_Edges : List (List Int)) (lines : List ByteArray) (t18_ : Int) : Option (((List ByteArray) × Int) ⊕ ((List ByteArray))) :=
 if t18_ < (p_Nodes.length : Int) then
  ck (0 ≤ t18_ ∧ t18_.toNat < p_Nodes.length) <|
  (i_wordsLine ({ data := #[110, 111, 100, 101] } : ByteArray) (p_Nodes.getD t18_.toNat default)).bind fun r24_ =>
  ck (lines.length + 1 < 1099511627776) <|
  some (Sum.inl ((lines ++ [r24_]), IntKind.i64.wrap (t18_ + 1)))
 else
  some (Sum.inr lines)
noncomputable def i_problemText_l0 (p_Labels : Int) (p_Degree : Int) (p_Nodes : List (List Int)) (p_Edges : List (List Int)) (v : (List ByteArray) × Int) : Option ((List ByteArray)) := itO (fun v => i_problemText_l0_S p_Labels p_Degree p_Nodes p_Edges v.1 v.2) v
noncomputable def i_problemText_l1_S (p_Edges : List (List Int)) (lines : List ByteArray) (t31_ : Int) : Option (((List ByteArray) × Int) ⊕ ((List ByteArray))) :=
 if t31_ < (p_Edges.length : Int) then
  ck (0 ≤ t31_ ∧ t31_.toNat < p_Edges.length) <|
  (i_wordsLine ({ data := #[101, 100, 103, 101] } : ByteArray) (p_Edges.getD t31_.toNat default)).bind fun r37_ =>
  ck (lines.length + 1 < 1099511627776) <|
  some (Sum.inl ((lines ++ [r37_]), IntKind.i64.wrap (t31_ + 1)))
 else
  some (Sum.inr lines)
noncomputable def i_problemText_l1 (p_Edges : List (List Int)) (v : (List ByteArray) × Int) : Option ((List ByteArray)) := itO (fun v => i_problemText_l1_S p_Edges v.1 v.2) v
noncomputable def i_problemText (p_Labels : Int) (p_Degree : Int) (p_Nodes : List (List Int)) (p_Edges : List (List Int)) : Option (ByteArray) :=
 (i_wordsLine ({ data := #[112, 114, 111, 98, 108, 101, 109] } : ByteArray) [p_Labels, p_Degree]).bind fun r13_ =>
 (i_problemText_l0 p_Labels p_Degree p_Nodes p_Edges ([r13_], 0)).bind fun r1000_ =>
 (i_problemText_l1 p_Edges (r1000_, 0)).bind fun r1001_ =>
 ck (r1001_.length < 1099511627776 ∧ (joinB r1001_ ({ data := #[10] } : ByteArray)).size < 1099511627776) <|
 ck ((joinB r1001_ ({ data := #[10] } : ByteArray)).size + ({ data := #[10] } : ByteArray).size < 1099511627776) <|
 some ((joinB r1001_ ({ data := #[10] } : ByteArray)) ++ ({ data := #[10] } : ByteArray))
/-- impl.problemText -/
def k44_l0b : SC :=
 .seq
 (.ops [
 ⟨(some 19), (.binOp .lss 3 (.tmp 18) (.tmp 17) 3), 0, none⟩])
 (.seq
 (.cond (.tmp 19)
 .skip
 (.exit 0))
 (.seq
 (.block 1
 (.seq
 (.ops [
 ⟨(some 20), (.indexAddr 34 (.tmp 16) (.tmp 18)), 0, none⟩,
 ⟨(some 21), (.load 70 (.tmp 20)), 70, none⟩,
 ⟨(some 5), (.assign (.tmp 21)), 70, none⟩])
 (.ops [
 ⟨(some 22), (.move (.tmp 3)), 52, none⟩,
 ⟨(some 23), (.move (.tmp 5)), 70, none⟩,
 ⟨(some 24), (.call ⟨(.value (.func 69)), #[(.const (.string { data := #[110, 111, 100, 101] })), (.tmp 23)], #[9, 70]⟩), 9, none⟩,
 ⟨(some 25), (.buildSlice 52 1 #[(0, (.tmp 24))]), 52, none⟩,
 ⟨(some 26), (.call ⟨(.builtin .append), #[(.tmp 22), (.tmp 25)], #[52, 52]⟩), 52, none⟩,
 ⟨(some 3), (.assign (.tmp 26)), 52, none⟩])))
 (.ops [
 ⟨(some 27), (.binOp .add 3 (.tmp 18) (.const (.int .i64 1)) 3), 3, none⟩,
 ⟨(some 18), (.move (.tmp 27)), 3, none⟩])))
def k44_l0 : SC := .loop k44_l0b
def k44_l1b : SC :=
 .seq
 (.ops [
 ⟨(some 32), (.binOp .lss 3 (.tmp 31) (.tmp 30) 3), 0, none⟩])
 (.seq
 (.cond (.tmp 32)
 .skip
 (.exit 2))
 (.seq
 (.block 3
 (.seq
 (.ops [
 ⟨(some 33), (.indexAddr 34 (.tmp 29) (.tmp 31)), 0, none⟩,
 ⟨(some 34), (.load 70 (.tmp 33)), 70, none⟩,
 ⟨(some 7), (.assign (.tmp 34)), 70, none⟩])
 (.ops [
 ⟨(some 35), (.move (.tmp 3)), 52, none⟩,
 ⟨(some 36), (.move (.tmp 7)), 70, none⟩,
 ⟨(some 37), (.call ⟨(.value (.func 69)), #[(.const (.string { data := #[101, 100, 103, 101] })), (.tmp 36)], #[9, 70]⟩), 9, none⟩,
 ⟨(some 38), (.buildSlice 52 1 #[(0, (.tmp 37))]), 52, none⟩,
 ⟨(some 39), (.call ⟨(.builtin .append), #[(.tmp 35), (.tmp 38)], #[52, 52]⟩), 52, none⟩,
 ⟨(some 3), (.assign (.tmp 39)), 52, none⟩])))
 (.ops [
 ⟨(some 40), (.binOp .add 3 (.tmp 31) (.const (.int .i64 1)) 3), 3, none⟩,
 ⟨(some 31), (.move (.tmp 40)), 3, none⟩])))
def k44_l1 : SC := .loop k44_l1b
def k44 : SC :=
 .seq
 (.ops [
 ⟨(some 1), (.box 39 (.tmp 0)), 0, none⟩,
 ⟨(some 2), (.assign (.const (.string { data := #[] }))), 9, none⟩])
 (.seq
 (.ops [
 ⟨(some 8), (.fieldAddr 39 (.tmp 1) 0), 0, none⟩,
 ⟨(some 9), (.load 3 (.tmp 8)), 3, none⟩,
 ⟨(some 10), (.fieldAddr 39 (.tmp 1) 1), 0, none⟩,
 ⟨(some 11), (.load 3 (.tmp 10)), 3, none⟩,
 ⟨(some 12), (.buildSlice 70 2 #[(0, (.tmp 9)), (1, (.tmp 11))]), 70, none⟩,
 ⟨(some 13), (.call ⟨(.value (.func 69)), #[(.const (.string { data := #[112, 114, 111, 98, 108, 101, 109] })), (.tmp 12)], #[9, 70]⟩), 9, none⟩,
 ⟨(some 14), (.buildSlice 52 1 #[(0, (.tmp 13))]), 52, none⟩,
 ⟨(some 3), (.assign (.tmp 14)), 52, none⟩])
 (.seq
 (.seq
 (.ops [
 ⟨(some 15), (.fieldAddr 39 (.tmp 1) 2), 0, none⟩,
 ⟨(some 16), (.load 34 (.tmp 15)), 34, none⟩,
 ⟨(some 17), (.call ⟨(.builtin .len), #[(.tmp 16)], #[34]⟩), 3, none⟩,
 ⟨(some 18), (.move (.const (.int .i64 0))), 3, none⟩])
 (.block 0
 k44_l0))
 (.seq
 (.seq
 (.ops [
 ⟨(some 28), (.fieldAddr 39 (.tmp 1) 3), 0, none⟩,
 ⟨(some 29), (.load 34 (.tmp 28)), 34, none⟩,
 ⟨(some 30), (.call ⟨(.builtin .len), #[(.tmp 29)], #[34]⟩), 3, none⟩,
 ⟨(some 31), (.move (.const (.int .i64 0))), 3, none⟩])
 (.block 2
 k44_l1))
 (.seq
 (.ops [
 ⟨(some 41), (.move (.tmp 3)), 52, none⟩,
 ⟨(some 42), (.call ⟨(.value (.func 31)), #[(.tmp 41), (.const (.string { data := #[10] }))], #[52, 9]⟩), 9, none⟩,
 ⟨(some 43), (.binOp .add 9 (.tmp 42) (.const (.string { data := #[10] })) 9), 9, none⟩,
 ⟨(some 2), (.assign (.tmp 43)), 9, none⟩])
 .ret))))
theorem slim44 : Tryd.f44.body.map (slim lends) = some k44 := by kernel_rfl
theorem ok44 : fnOk Tryd.f44 1 = true := by kernel_rfl
theorem c44 {a l : List D} {r : D × List D} (h : wpD Y.env k44 (fin tys l.length [ResultVar.tmp 2] r) (entry a l)) (ha : a.length = 1) : Y.call 44 a l = some r :=
 call_slim (Y := Y) rfl Tryd.func44 (ha ▸ ok44) slim44 h
def i_problemText_l0_M (p_Labels : Int) (p_Degree : Int) (p_Nodes : List (List Int)) (p_Edges : List (List Int)) (lines : List ByteArray) (t18_ : Int) (s : St) : Prop := s.v 1 = D.box [D.int .i64 p_Labels, D.int .i64 p_Degree, D.sl 70 (lst (fun x => D.sl 3 (lst (D.int .i64) x)) p_Nodes), D.sl 70 (lst (fun x => D.sl 3 (lst (D.int .i64) x)) p_Edges)] ∧ s.v 3 = D.own 9 (lst D.str lines) ∧ s.v 16 = D.sl 70 (lst (fun x => D.sl 3 (lst (D.int .i64) x)) p_Nodes) ∧ s.v 17 = D.int .i64 (p_Nodes.length : Int) ∧ s.v 18 = D.int .i64 t18_
def i_problemText_l0_X (p_Labels : Int) (p_Degree : Int) (p_Nodes : List (List Int)) (p_Edges : List (List Int)) (r : (List ByteArray)) (ex : Ex) (s : St) : Prop := ex = .exit 0 ∧ s.v 1 = D.box [D.int .i64 p_Labels, D.int .i64 p_Degree, D.sl 70 (lst (fun x => D.sl 3 (lst (D.int .i64) x)) p_Nodes), D.sl 70 (lst (fun x => D.sl 3 (lst (D.int .i64) x)) p_Edges)] ∧ s.v 3 = D.own 9 (lst D.str r)
theorem i_problemText_l0_wp (p_Labels : Int) (p_Degree : Int) (p_Nodes : List (List Int)) (p_Edges : List (List Int)) {v : (List ByteArray) × Int} {s : St} {r : (List ByteArray)} (h : i_problemText_l0 p_Labels p_Degree p_Nodes p_Edges v = some r) (hM : i_problemText_l0_M p_Labels p_Degree p_Nodes p_Edges v.1 v.2 s) : wpD Y.env k44_l0 (i_problemText_l0_X p_Labels p_Degree p_Nodes p_Edges r) s := by
 unfold i_problemText_l0 at h
 refine wd_itO (c := k44_l0b) (fun v => i_problemText_l0_S p_Labels p_Degree p_Nodes p_Edges v.1 v.2) (fun v s => i_problemText_l0_M p_Labels p_Degree p_Nodes p_Edges v.1 v.2 s) (i_problemText_l0_X p_Labels p_Degree p_Nodes p_Edges) ?_ h hM
 clear h hM s v r
 intro v s o hM h
 obtain ⟨lines, t18_⟩ := v
 dsimp only at h hM
 unfold i_problemText_l0_S at h
 unfold i_problemText_l0_M at hM
 obtain ⟨m0, m1, m2, m3, m4⟩ := hM
 unfold k44_l0b
 by_cases e2 : t18_ < (p_Nodes.length : Int)
 ·rw [if_pos e2] at h
  obtain ⟨e3, h⟩ := ckS h
  obtain ⟨r24_, hl4, h⟩ := bindS h
  try dsimp only at h
  have c4 := i_wordsLine_call ({ data := #[110, 111, 100, 101] } : ByteArray) (p_Nodes.getD t18_.toNat default) hl4
  obtain ⟨e5, h⟩ := ckS h
  obtain rfl := Option.some.inj h
  simp (maxDischargeDepth := 9) only [↓xpre, xpost, xlst, xc2, xcore, yset, rg0, ↓reduceIte, Nat.reduceEqDiff, Nat.reduceLT, Nat.reduceLeDiff, Nat.reduceAdd, Nat.reduceMul, Nat.reduceMod, Nat.reduceDiv, Nat.reducePow, Nat.reduceSub, Nat.reduceBEq, Int.reduceLE, Int.reduceLT, Int.reduceEq, Int.reduceSub, Int.reduceAdd, Int.reduceToNat, Int.reduceNeg, m0, m1, m2, m3, m4, e2, e3.1, e3.2, c4, e5, i_problemText_l0_M, i_problemText_l0_X, sxN, sxE, sxR] <;> (repeat' apply And.intro) <;> first | rfl | exact ⟨_, rfl⟩ | exact ⟨_, _, rfl⟩ | simp [lst, cat2_nil]
 ·rw [if_neg e2] at h
  obtain rfl := Option.some.inj h
  simp (maxDischargeDepth := 9) only [↓xpre, xpost, xlst, xc2, xcore, yset, rg0, ↓reduceIte, Nat.reduceEqDiff, Nat.reduceLT, Nat.reduceLeDiff, Nat.reduceAdd, Nat.reduceMul, Nat.reduceMod, Nat.reduceDiv, Nat.reducePow, Nat.reduceSub, Nat.reduceBEq, Int.reduceLE, Int.reduceLT, Int.reduceEq, Int.reduceSub, Int.reduceAdd, Int.reduceToNat, Int.reduceNeg, m0, m1, m2, m3, m4, e2, i_problemText_l0_M, i_problemText_l0_X, sxN, sxE, sxR] <;> (repeat' apply And.intro) <;> first | rfl | exact ⟨_, rfl⟩ | exact ⟨_, _, rfl⟩ | simp [lst, cat2_nil]
def i_problemText_l1_M (p_Edges : List (List Int)) (lines : List ByteArray) (t31_ : Int) (s : St) : Prop := s.v 3 = D.own 9 (lst D.str lines) ∧ s.v 29 = D.sl 70 (lst (fun x => D.sl 3 (lst (D.int .i64) x)) p_Edges) ∧ s.v 30 = D.int .i64 (p_Edges.length : Int) ∧ s.v 31 = D.int .i64 t31_
def i_problemText_l1_X (p_Edges : List (List Int)) (r : (List ByteArray)) (ex : Ex) (s : St) : Prop := ex = .exit 2 ∧ s.v 3 = D.own 9 (lst D.str r)
theorem i_problemText_l1_wp (p_Edges : List (List Int)) {v : (List ByteArray) × Int} {s : St} {r : (List ByteArray)} (h : i_problemText_l1 p_Edges v = some r) (hM : i_problemText_l1_M p_Edges v.1 v.2 s) : wpD Y.env k44_l1 (i_problemText_l1_X p_Edges r) s := by
 unfold i_problemText_l1 at h
 refine wd_itO (c := k44_l1b) (fun v => i_problemText_l1_S p_Edges v.1 v.2) (fun v s => i_problemText_l1_M p_Edges v.1 v.2 s) (i_problemText_l1_X p_Edges) ?_ h hM
 clear h hM s v r
 intro v s o hM h
 obtain ⟨lines, t31_⟩ := v
 dsimp only at h hM
 unfold i_problemText_l1_S at h
 unfold i_problemText_l1_M at hM
 obtain ⟨m0, m1, m2, m3⟩ := hM
 unfold k44_l1b
 by_cases e4 : t31_ < (p_Edges.length : Int)
 ·rw [if_pos e4] at h
  obtain ⟨e5, h⟩ := ckS h
  obtain ⟨r37_, hl6, h⟩ := bindS h
  try dsimp only at h
  have c6 := i_wordsLine_call ({ data := #[101, 100, 103, 101] } : ByteArray) (p_Edges.getD t31_.toNat default) hl6
  obtain ⟨e7, h⟩ := ckS h
  obtain rfl := Option.some.inj h
  simp (maxDischargeDepth := 9) only [↓xpre, xpost, xlst, xc2, xcore, yset, rg0, ↓reduceIte, Nat.reduceEqDiff, Nat.reduceLT, Nat.reduceLeDiff, Nat.reduceAdd, Nat.reduceMul, Nat.reduceMod, Nat.reduceDiv, Nat.reducePow, Nat.reduceSub, Nat.reduceBEq, Int.reduceLE, Int.reduceLT, Int.reduceEq, Int.reduceSub, Int.reduceAdd, Int.reduceToNat, Int.reduceNeg, m0, m1, m2, m3, e4, e5.1, e5.2, c6, e7, i_problemText_l1_M, i_problemText_l1_X, sxN, sxE, sxR] <;> (repeat' apply And.intro) <;> first | rfl | exact ⟨_, rfl⟩ | exact ⟨_, _, rfl⟩ | simp [lst, cat2_nil]
 ·rw [if_neg e4] at h
  obtain rfl := Option.some.inj h
  simp (maxDischargeDepth := 9) only [↓xpre, xpost, xlst, xc2, xcore, yset, rg0, ↓reduceIte, Nat.reduceEqDiff, Nat.reduceLT, Nat.reduceLeDiff, Nat.reduceAdd, Nat.reduceMul, Nat.reduceMod, Nat.reduceDiv, Nat.reducePow, Nat.reduceSub, Nat.reduceBEq, Int.reduceLE, Int.reduceLT, Int.reduceEq, Int.reduceSub, Int.reduceAdd, Int.reduceToNat, Int.reduceNeg, m0, m1, m2, m3, e4, i_problemText_l1_M, i_problemText_l1_X, sxN, sxE, sxR] <;> (repeat' apply And.intro) <;> first | rfl | exact ⟨_, rfl⟩ | exact ⟨_, _, rfl⟩ | simp [lst, cat2_nil]
theorem i_problemText_call (p_Labels : Int) (p_Degree : Int) (p_Nodes : List (List Int)) (p_Edges : List (List Int)) {r : ByteArray} (h : i_problemText p_Labels p_Degree p_Nodes p_Edges = some r) : Y.call 44 [D.agg [D.int .i64 p_Labels, D.int .i64 p_Degree, D.sl 70 (lst (fun x => D.sl 3 (lst (D.int .i64) x)) p_Nodes), D.sl 70 (lst (fun x => D.sl 3 (lst (D.int .i64) x)) p_Edges)]] [] = some (D.str r, []) := by
 refine c44 ?_ rfl
 unfold k44
 unfold i_problemText at h
 obtain ⟨r13_, hl1, h⟩ := bindS h
 try dsimp only at h
 have c1 := i_wordsLine_call ({ data := #[112, 114, 111, 98, 108, 101, 109] } : ByteArray) [p_Labels, p_Degree] hl1
 simp only [lst_cons, lst_nil, cat_cons, cat_nil, List.append_nil, List.cons_append, List.nil_append] at c1
 obtain ⟨r1000_, hl3, h⟩ := bindS h
 try dsimp only at h
 simp (maxDischargeDepth := 9) only [↓xpre, xpost, xlst, xc2, xcore, yset, rg0, ↓reduceIte, Nat.reduceEqDiff, Nat.reduceLT, Nat.reduceLeDiff, Nat.reduceAdd, Nat.reduceMul, Nat.reduceMod, Nat.reduceDiv, Nat.reducePow, Nat.reduceSub, Nat.reduceBEq, Int.reduceLE, Int.reduceLT, Int.reduceEq, Int.reduceSub, Int.reduceAdd, Int.reduceToNat, Int.reduceNeg, c1]
 refine wd_mono (i_problemText_l0_wp p_Labels p_Degree p_Nodes p_Edges hl3 ?_) ?_
 ·simp (maxDischargeDepth := 9) only [↓xpre, xpost, xlst, xc2, xcore, yset, rg0, ↓reduceIte, Nat.reduceEqDiff, Nat.reduceLT, Nat.reduceLeDiff, Nat.reduceAdd, Nat.reduceMul, Nat.reduceMod, Nat.reduceDiv, Nat.reducePow, Nat.reduceSub, Nat.reduceBEq, Int.reduceLE, Int.reduceLT, Int.reduceEq, Int.reduceSub, Int.reduceAdd, Int.reduceToNat, Int.reduceNeg, c1, i_problemText_l0_M] <;> (repeat' apply And.intro) <;> first | rfl | exact ⟨_, rfl⟩ | exact ⟨_, _, rfl⟩ | simp [lst, cat2_nil]
 ·intro ex3 s3 hX3
  unfold i_problemText_l0_X at hX3
  obtain ⟨rfl, n3_0, n3_1⟩ := hX3
  obtain ⟨r1001_, hl5, h⟩ := bindS h
  try dsimp only at h
  simp (maxDischargeDepth := 9) only [↓xpre, xpost, xlst, xc2, xcore, yset, rg0, ↓reduceIte, Nat.reduceEqDiff, Nat.reduceLT, Nat.reduceLeDiff, Nat.reduceAdd, Nat.reduceMul, Nat.reduceMod, Nat.reduceDiv, Nat.reducePow, Nat.reduceSub, Nat.reduceBEq, Int.reduceLE, Int.reduceLT, Int.reduceEq, Int.reduceSub, Int.reduceAdd, Int.reduceToNat, Int.reduceNeg, c1, n3_0, n3_1]
  refine wd_mono (i_problemText_l1_wp p_Edges hl5 ?_) ?_
  ·simp (maxDischargeDepth := 9) only [↓xpre, xpost, xlst, xc2, xcore, yset, rg0, ↓reduceIte, Nat.reduceEqDiff, Nat.reduceLT, Nat.reduceLeDiff, Nat.reduceAdd, Nat.reduceMul, Nat.reduceMod, Nat.reduceDiv, Nat.reducePow, Nat.reduceSub, Nat.reduceBEq, Int.reduceLE, Int.reduceLT, Int.reduceEq, Int.reduceSub, Int.reduceAdd, Int.reduceToNat, Int.reduceNeg, c1, n3_0, n3_1, i_problemText_l1_M] <;> (repeat' apply And.intro) <;> first | rfl | exact ⟨_, rfl⟩ | exact ⟨_, _, rfl⟩ | simp [lst, cat2_nil]
  ·intro ex5 s5 hX5
   unfold i_problemText_l1_X at hX5
   obtain ⟨rfl, n5_0⟩ := hX5
   obtain ⟨e6, h⟩ := ckS h
   have c7 := join_31 r1001_ ({ data := #[10] } : ByteArray) e6
   obtain ⟨e8, h⟩ := ckS h
   obtain rfl := Option.some.inj h
   simp (maxDischargeDepth := 9) only [↓xpre, xpost, xlst, xc2, xcore, yset, rg0, ↓reduceIte, Nat.reduceEqDiff, Nat.reduceLT, Nat.reduceLeDiff, Nat.reduceAdd, Nat.reduceMul, Nat.reduceMod, Nat.reduceDiv, Nat.reducePow, Nat.reduceSub, Nat.reduceBEq, Int.reduceLE, Int.reduceLT, Int.reduceEq, Int.reduceSub, Int.reduceAdd, Int.reduceToNat, Int.reduceNeg, c1, n5_0, e6.1, e6.2, c7, e8] <;> (repeat' apply And.intro) <;> first | rfl | exact ⟨_, rfl⟩ | exact ⟨_, _, rfl⟩ | simp [lst, cat2_nil]

noncomputable def i_ProblemText (p_Labels : Int) (p_Degree : Int) (p_Nodes : List (List Int)) (p_Edges : List (List Int)) : Option (ByteArray × Bool) :=
 ck (Short p_Nodes) <|
 ck (Short p_Edges) <|
 if (isProb p_Labels p_Degree p_Nodes p_Edges) = true then
  (i_problemText p_Labels p_Degree p_Nodes p_Edges).bind fun r8_ =>
  some (r8_, true)
 else
  some (({ data := #[] } : ByteArray), false)
/-- impl.ProblemText -/
def k19 : SC :=
 .seq
 (.ops [
 ⟨(some 1), (.box 39 (.tmp 0)), 0, none⟩,
 ⟨(some 2), (.assign (.const (.string { data := #[] }))), 9, none⟩,
 ⟨(some 3), (.assign (.const (.bool false))), 4, none⟩])
 (.seq
 (.seq
 (.ops [
 ⟨(some 4), (.load 39 (.tmp 1)), 39, none⟩,
 ⟨(some 5), (.call ⟨(.value (.func 43)), #[(.tmp 4)], #[39]⟩), 4, none⟩,
 ⟨(some 6), (.unOp .not 4 (.tmp 5)), 4, none⟩])
 (.cond (.tmp 6)
 (.seq
 (.ops [
 ⟨(some 2), (.assign (.const (.string { data := #[] }))), 9, none⟩,
 ⟨(some 3), (.assign (.const (.bool false))), 4, none⟩])
 .ret)
 .skip))
 (.seq
 (.ops [
 ⟨(some 7), (.load 39 (.tmp 1)), 39, none⟩,
 ⟨(some 8), (.call ⟨(.value (.func 44)), #[(.tmp 7)], #[39]⟩), 9, none⟩,
 ⟨(some 2), (.assign (.tmp 8)), 9, none⟩,
 ⟨(some 3), (.assign (.const (.bool true))), 4, none⟩])
 .ret))
theorem slim19 : Tryd.f19.body.map (slim lends) = some k19 := by kernel_rfl
theorem ok19 : fnOk Tryd.f19 1 = true := by kernel_rfl
theorem c19 {a l : List D} {r : D × List D} (h : wpD Y.env k19 (fin tys l.length [ResultVar.tmp 2, ResultVar.tmp 3] r) (entry a l)) (ha : a.length = 1) : Y.call 19 a l = some r :=
 call_slim (Y := Y) rfl Tryd.func19 (ha ▸ ok19) slim19 h
theorem i_ProblemText_call (p_Labels : Int) (p_Degree : Int) (p_Nodes : List (List Int)) (p_Edges : List (List Int)) {r : ByteArray × Bool} (h : i_ProblemText p_Labels p_Degree p_Nodes p_Edges = some r) : Y.call 19 [D.agg [D.int .i64 p_Labels, D.int .i64 p_Degree, D.sl 70 (lst (fun x => D.sl 3 (lst (D.int .i64) x)) p_Nodes), D.sl 70 (lst (fun x => D.sl 3 (lst (D.int .i64) x)) p_Edges)]] [] = some (D.tup [D.str r.1, D.bool r.2], []) := by
 refine c19 ?_ rfl
 unfold k19
 unfold i_ProblemText at h
 obtain ⟨e1, h⟩ := ckS h
 obtain ⟨e2, h⟩ := ckS h
 have c3 := i_IsProblem_cl p_Labels p_Degree p_Nodes p_Edges e1 e2
 by_cases e4 : (isProb p_Labels p_Degree p_Nodes p_Edges) = true
 ·rw [if_pos e4] at h
  obtain ⟨r8_, hl5, h⟩ := bindS h
  try dsimp only at h
  have c5 := i_problemText_call p_Labels p_Degree p_Nodes p_Edges hl5
  obtain rfl := Option.some.inj h
  simp (maxDischargeDepth := 9) only [↓xpre, xpost, xlst, xc2, xcore, yset, rg0, ↓reduceIte, Nat.reduceEqDiff, Nat.reduceLT, Nat.reduceLeDiff, Nat.reduceAdd, Nat.reduceMul, Nat.reduceMod, Nat.reduceDiv, Nat.reducePow, Nat.reduceSub, Nat.reduceBEq, Int.reduceLE, Int.reduceLT, Int.reduceEq, Int.reduceSub, Int.reduceAdd, Int.reduceToNat, Int.reduceNeg, e1, e2, c3, e4, c5] <;> (repeat' apply And.intro) <;> first | rfl | exact ⟨_, rfl⟩ | exact ⟨_, _, rfl⟩ | simp [lst, cat2_nil]
 ·rw [if_neg e4] at h
  have e4f : (isProb p_Labels p_Degree p_Nodes p_Edges) = false := Bool.eq_false_iff.mpr e4
  obtain rfl := Option.some.inj h
  simp (maxDischargeDepth := 9) only [↓xpre, xpost, xlst, xc2, xcore, yset, rg0, ↓reduceIte, Nat.reduceEqDiff, Nat.reduceLT, Nat.reduceLeDiff, Nat.reduceAdd, Nat.reduceMul, Nat.reduceMod, Nat.reduceDiv, Nat.reducePow, Nat.reduceSub, Nat.reduceBEq, Int.reduceLE, Int.reduceLT, Int.reduceEq, Int.reduceSub, Int.reduceAdd, Int.reduceToNat, Int.reduceNeg, e1, e2, c3, e4f] <;> (repeat' apply And.intro) <;> first | rfl | exact ⟨_, rfl⟩ | exact ⟨_, _, rfl⟩ | simp [lst, cat2_nil]

noncomputable def s_l1Num_R (rec_ : Int → Option ByteArray) (n_ : Int) : Option (ByteArray) :=
 if n_ < 10 then
  some (oneB (IntKind.u8.wrap (IntKind.i64.wrap (48 + n_))))
 else
  (rec_ (IntKind.i64.wrap (n_.tdiv 10))).bind fun r12_ =>
  ck (r12_.size + (oneB (IntKind.u8.wrap (IntKind.i64.wrap (48 + (n_.tmod 10))))).size < 1099511627776) <|
  some (r12_ ++ (oneB (IntKind.u8.wrap (IntKind.i64.wrap (48 + (n_.tmod 10))))))
/-- So many calls deep at most. -/
noncomputable def s_l1Num_N : Nat → Int → Option ByteArray
 | 0 => fun _ => none
 | n + 1 => fun n_ => s_l1Num_R (s_l1Num_N n) n_
noncomputable def s_l1Num (n_ : Int) : Option (ByteArray) := s_l1Num_N 1000000 n_
/-- spec.l1Num -/
def k53 : SC :=
 .seq
 (.ops [
 ⟨(some 2), (.assign (.const (.string { data := #[] }))), 9, none⟩])
 (.seq
 (.seq
 (.ops [
 ⟨(some 3), (.move (.tmp 0)), 3, none⟩,
 ⟨(some 4), (.binOp .lss 3 (.tmp 3) (.const (.int .i64 10)) 3), 4, none⟩])
 (.cond (.tmp 4)
 (.seq
 (.ops [
 ⟨(some 5), (.move (.tmp 0)), 3, none⟩,
 ⟨(some 6), (.binOp .add 3 (.const (.int .i64 48)) (.tmp 5) 3), 3, none⟩,
 ⟨(some 7), (.convert 3 5 (.tmp 6)), 5, none⟩,
 ⟨(some 8), (.buildSlice 79 1 #[(0, (.tmp 7))]), 79, none⟩,
 ⟨(some 9), (.convert 79 9 (.tmp 8)), 9, none⟩,
 ⟨(some 2), (.assign (.tmp 9)), 9, none⟩])
 .ret)
 .skip))
 (.seq
 (.draws [
 (⟨[10, 0, 0], [10, 11, 12, 13, 14, 15, 16, 17, 16, 16, 18, 19, 2, 19, 19], [10]⟩, ⟨(some 10), (.move (.tmp 0)), 3, none⟩),
 (⟨[11, 10, 0], [10, 11, 12, 13, 14, 15, 16, 17, 16, 16, 18, 19, 2, 19, 19], [11]⟩, ⟨(some 11), (.binOp .quo 3 (.tmp 10) (.const (.int .i64 10)) 3), 3, none⟩),
 (⟨[12, 11, 11], [10, 11, 12, 13, 14, 15, 16, 17, 16, 16, 18, 19, 2, 19, 19], [12]⟩, ⟨(some 12), (.call ⟨(.value (.func 53)), #[(.tmp 11)], #[3]⟩), 9, none⟩),
 (⟨[13, 0, 0], [10, 11, 12, 13, 14, 15, 16, 17, 16, 16, 18, 19, 2, 19, 19], [13]⟩, ⟨(some 13), (.move (.tmp 0)), 3, none⟩),
 (⟨[14, 13, 0], [10, 11, 12, 13, 14, 15, 16, 17, 16, 16, 18, 19, 2, 19, 19], [14]⟩, ⟨(some 14), (.binOp .rem 3 (.tmp 13) (.const (.int .i64 10)) 3), 3, none⟩),
 (⟨[15, 14, 14], [10, 11, 12, 13, 14, 15, 16, 17, 16, 16, 18, 19, 2, 19, 19], [15]⟩, ⟨(some 15), (.binOp .add 3 (.const (.int .i64 48)) (.tmp 14) 3), 3, none⟩),
 (⟨[16, 15, 15], [10, 11, 12, 13, 14, 15, 16, 17, 16, 16, 18, 19, 2, 19, 19], [16]⟩, ⟨(some 16), (.convert 3 5 (.tmp 15)), 5, none⟩),
 (⟨[17, 16, 16], [10, 11, 12, 13, 14, 15, 16, 17, 16, 16, 18, 19, 2, 19, 19], [17, 16, 16]⟩, ⟨(some 17), (.buildSlice 79 1 #[(0, (.tmp 16))]), 79, none⟩),
 (⟨[18, 17, 17], [10, 11, 12, 13, 14, 15, 16, 17, 16, 16, 18, 19, 2, 19, 19], [18]⟩, ⟨(some 18), (.convert 79 9 (.tmp 17)), 9, none⟩),
 (⟨[19, 12, 18, 12, 18], [10, 11, 12, 13, 14, 15, 16, 17, 16, 16, 18, 19, 2, 19, 19], [19]⟩, ⟨(some 19), (.binOp .add 9 (.tmp 12) (.tmp 18) 9), 9, none⟩),
 (⟨[2, 19, 19], [10, 11, 12, 13, 14, 15, 16, 17, 16, 16, 18, 19, 2, 19, 19], [2, 19, 19]⟩, ⟨(some 2), (.assign (.tmp 19)), 9, none⟩)])
 .ret))
theorem slim53 : Tryd.f53.body.map (slim lends) = some k53 := by kernel_rfl
theorem ok53 : fnOk Tryd.f53 1 = true := by kernel_rfl
theorem c53 {a l : List D} {r : D × List D} (h : wpD Y.env k53 (fin tys l.length [ResultVar.tmp 2] r) (entry a l)) (ha : a.length = 1) : Y.call 53 a l = some r :=
 call_slim (Y := Y) rfl Tryd.func53 (ha ▸ ok53) slim53 h
theorem s_l1Num_R_call (rec_ : Int → Option ByteArray) (n_ : Int) (rec_h : ∀ (n_ : Int) (r : ByteArray), rec_ n_ = some r → Y.call 53 [D.int .i64 n_] [] = some (D.str r, [])) {r : ByteArray} (h : s_l1Num_R rec_ n_ = some r) : Y.call 53 [D.int .i64 n_] [] = some (D.str r, []) := by
 refine c53 ?_ rfl
 unfold k53
 unfold s_l1Num_R at h
 by_cases e1 : n_ < 10
 ·rw [if_pos e1] at h
  obtain rfl := Option.some.inj h
  simp (maxDischargeDepth := 9) only [↓xpre, xpost, xlst, xc2, xcore, yset, rg0, ↓reduceIte, Nat.reduceEqDiff, Nat.reduceLT, Nat.reduceLeDiff, Nat.reduceAdd, Nat.reduceMul, Nat.reduceMod, Nat.reduceDiv, Nat.reducePow, Nat.reduceSub, Nat.reduceBEq, Int.reduceLE, Int.reduceLT, Int.reduceEq, Int.reduceSub, Int.reduceAdd, Int.reduceToNat, Int.reduceNeg, e1] <;> (repeat' apply And.intro) <;> first | rfl | exact ⟨_, rfl⟩ | exact ⟨_, _, rfl⟩ | simp [lst, cat2_nil]
 ·rw [if_neg e1] at h
  obtain ⟨r12_, hl2, h⟩ := bindS h
  try dsimp only at h
  have c2 := rec_h _ _ hl2
  obtain ⟨e3, h⟩ := ckS h
  obtain rfl := Option.some.inj h
  simp (maxDischargeDepth := 9) only [↓xpre, xpost, xlst, xc2, xcore, yset, rg0, ↓reduceIte, Nat.reduceEqDiff, Nat.reduceLT, Nat.reduceLeDiff, Nat.reduceAdd, Nat.reduceMul, Nat.reduceMod, Nat.reduceDiv, Nat.reducePow, Nat.reduceSub, Nat.reduceBEq, Int.reduceLE, Int.reduceLT, Int.reduceEq, Int.reduceSub, Int.reduceAdd, Int.reduceToNat, Int.reduceNeg, e1, c2, e3] <;> (repeat' apply And.intro) <;> first | rfl | exact ⟨_, rfl⟩ | exact ⟨_, _, rfl⟩ | simp [lst, cat2_nil]
theorem s_l1Num_N_call (n : Nat) : ∀ (n_ : Int) (r : ByteArray), s_l1Num_N n n_ = some r → Y.call 53 [D.int .i64 n_] [] = some (D.str r, []) := by
 induction n with
 | zero => intro n_ r h; exact absurd h (by rw [s_l1Num_N]; exact fun e => by cases e)
 | succ n ih => intro n_ r h; rw [s_l1Num_N] at h; exact s_l1Num_R_call (s_l1Num_N n) n_ ih h
theorem s_l1Num_call (n_ : Int) {r : ByteArray} (h : s_l1Num n_ = some r) : Y.call 53 [D.int .i64 n_] [] = some (D.str r, []) := s_l1Num_N_call 1000000 n_ r h

noncomputable def s_maLine_l0_S (l : List Int) (word1 : ByteArray) (t9_ : Int) : Option ((ByteArray × Int) ⊕ (ByteArray)) :=
 if t9_ < (l.length : Int) then
  ck (0 ≤ t9_ ∧ t9_.toNat < l.length) <|
  if (l.getD t9_.toNat default) < 0 then
   ck (word1.size + ({ data := #[32, 42] } : ByteArray).size < 1099511627776) <|
   some (Sum.inl ((word1 ++ ({ data := #[32, 42] } : ByteArray)), IntKind.i64.wrap (t9_ + 1)))
  else
   (s_l1Num (l.getD t9_.toNat default)).bind fun r19_ =>
   ck (({ data := #[32] } : ByteArray).size + r19_.size < 1099511627776) <|
   ck (word1.size + (({ data := #[32] } : ByteArray) ++ r19_).size < 1099511627776) <|
   some (Sum.inl ((word1 ++ (({ data := #[32] } : ByteArray) ++ r19_)), IntKind.i64.wrap (t9_ + 1)))
 else
  some (Sum.inr word1)
noncomputable def s_maLine_l0 (l : List Int) (v : ByteArray × Int) : Option (ByteArray) := itO (fun v => s_maLine_l0_S l v.1 v.2) v
noncomputable def s_maLine (word : ByteArray) (l : List Int) : Option (ByteArray) :=
 (s_maLine_l0 l (word, 0)).bind fun r1000_ =>
 some r1000_
/-- spec.maLine -/
def k66_l0b : SC :=
 .seq
 (.ops [
 ⟨(some 10), (.binOp .lss 3 (.tmp 9) (.tmp 8) 3), 0, none⟩])
 (.seq
 (.cond (.tmp 10)
 .skip
 (.exit 0))
 (.seq
 (.block 1
 (.seq
 (.ops [
 ⟨(some 11), (.indexAddr 70 (.tmp 7) (.tmp 9)), 0, none⟩,
 ⟨(some 12), (.load 3 (.tmp 11)), 3, none⟩,
 ⟨(some 6), (.assign (.tmp 12)), 3, none⟩])
 (.seq
 (.ops [
 ⟨(some 13), (.move (.tmp 6)), 3, none⟩,
 ⟨(some 14), (.binOp .lss 3 (.tmp 13) (.const (.int .i64 0)) 3), 4, none⟩])
 (.cond (.tmp 14)
 (.ops [
 ⟨(some 15), (.move (.tmp 0)), 9, none⟩,
 ⟨(some 16), (.binOp .add 9 (.tmp 15) (.const (.string { data := #[32, 42] })) 9), 9, none⟩,
 ⟨(some 0), (.assign (.tmp 16)), 9, none⟩])
 (.ops [
 ⟨(some 17), (.move (.tmp 0)), 9, none⟩,
 ⟨(some 18), (.move (.tmp 6)), 3, none⟩,
 ⟨(some 19), (.call ⟨(.value (.func 53)), #[(.tmp 18)], #[3]⟩), 9, none⟩,
 ⟨(some 20), (.binOp .add 9 (.const (.string { data := #[32] })) (.tmp 19) 9), 9, none⟩,
 ⟨(some 21), (.binOp .add 9 (.tmp 17) (.tmp 20) 9), 9, none⟩,
 ⟨(some 0), (.assign (.tmp 21)), 9, none⟩])))))
 (.ops [
 ⟨(some 22), (.binOp .add 3 (.tmp 9) (.const (.int .i64 1)) 3), 3, none⟩,
 ⟨(some 9), (.move (.tmp 22)), 3, none⟩])))
def k66_l0 : SC := .loop k66_l0b
def k66 : SC :=
 .seq
 (.ops [
 ⟨(some 4), (.assign (.const (.string { data := #[] }))), 9, none⟩])
 (.seq
 (.seq
 (.ops [
 ⟨(some 7), (.move (.tmp 1)), 70, none⟩,
 ⟨(some 8), (.call ⟨(.builtin .len), #[(.tmp 7)], #[70]⟩), 3, none⟩,
 ⟨(some 9), (.move (.const (.int .i64 0))), 3, none⟩])
 (.block 0
 k66_l0))
 (.seq
 (.ops [
 ⟨(some 23), (.move (.tmp 0)), 9, none⟩,
 ⟨(some 4), (.assign (.tmp 23)), 9, none⟩])
 .ret))
theorem slim66 : Tryd.f66.body.map (slim lends) = some k66 := by kernel_rfl
theorem ok66 : fnOk Tryd.f66 2 = true := by kernel_rfl
theorem c66 {a l : List D} {r : D × List D} (h : wpD Y.env k66 (fin tys l.length [ResultVar.tmp 4] r) (entry a l)) (ha : a.length = 2) : Y.call 66 a l = some r :=
 call_slim (Y := Y) rfl Tryd.func66 (ha ▸ ok66) slim66 h
def s_maLine_l0_M (l : List Int) (word1 : ByteArray) (t9_ : Int) (s : St) : Prop := s.v 0 = D.str word1 ∧ s.v 7 = D.sl 3 (lst (D.int .i64) l) ∧ s.v 8 = D.int .i64 (l.length : Int) ∧ s.v 9 = D.int .i64 t9_
def s_maLine_l0_X (l : List Int) (r : ByteArray) (ex : Ex) (s : St) : Prop := ex = .exit 0 ∧ s.v 0 = D.str r
theorem s_maLine_l0_wp (l : List Int) {v : ByteArray × Int} {s : St} {r : ByteArray} (h : s_maLine_l0 l v = some r) (hM : s_maLine_l0_M l v.1 v.2 s) : wpD Y.env k66_l0 (s_maLine_l0_X l r) s := by
 unfold s_maLine_l0 at h
 refine wd_itO (c := k66_l0b) (fun v => s_maLine_l0_S l v.1 v.2) (fun v s => s_maLine_l0_M l v.1 v.2 s) (s_maLine_l0_X l) ?_ h hM
 clear h hM s v r
 intro v s o hM h
 obtain ⟨word1, t9_⟩ := v
 dsimp only at h hM
 unfold s_maLine_l0_S at h
 unfold s_maLine_l0_M at hM
 obtain ⟨m0, m1, m2, m3⟩ := hM
 unfold k66_l0b
 by_cases e1 : t9_ < (l.length : Int)
 ·rw [if_pos e1] at h
  obtain ⟨e2, h⟩ := ckS h
  by_cases e3 : (l.getD t9_.toNat default) < 0
  ·rw [if_pos e3] at h
   obtain ⟨e4, h⟩ := ckS h
   obtain rfl := Option.some.inj h
   simp (maxDischargeDepth := 9) only [↓xpre, xpost, xlst, xc2, xcore, yset, rg0, ↓reduceIte, Nat.reduceEqDiff, Nat.reduceLT, Nat.reduceLeDiff, Nat.reduceAdd, Nat.reduceMul, Nat.reduceMod, Nat.reduceDiv, Nat.reducePow, Nat.reduceSub, Nat.reduceBEq, Int.reduceLE, Int.reduceLT, Int.reduceEq, Int.reduceSub, Int.reduceAdd, Int.reduceToNat, Int.reduceNeg, m0, m1, m2, m3, e1, e2.1, e2.2, e3, e4, s_maLine_l0_M, s_maLine_l0_X, sxN, sxE, sxR] <;> (repeat' apply And.intro) <;> first | rfl | exact ⟨_, rfl⟩ | exact ⟨_, _, rfl⟩ | simp [lst, cat2_nil]
  ·rw [if_neg e3] at h
   obtain ⟨r19_, hl4, h⟩ := bindS h
   try dsimp only at h
   have c4 := s_l1Num_call (l.getD t9_.toNat default) hl4
   obtain ⟨e5, h⟩ := ckS h
   obtain ⟨e6, h⟩ := ckS h
   obtain rfl := Option.some.inj h
   simp (maxDischargeDepth := 9) only [↓xpre, xpost, xlst, xc2, xcore, yset, rg0, ↓reduceIte, Nat.reduceEqDiff, Nat.reduceLT, Nat.reduceLeDiff, Nat.reduceAdd, Nat.reduceMul, Nat.reduceMod, Nat.reduceDiv, Nat.reducePow, Nat.reduceSub, Nat.reduceBEq, Int.reduceLE, Int.reduceLT, Int.reduceEq, Int.reduceSub, Int.reduceAdd, Int.reduceToNat, Int.reduceNeg, m0, m1, m2, m3, e1, e2.1, e2.2, e3, c4, e5, e6, s_maLine_l0_M, s_maLine_l0_X, sxN, sxE, sxR] <;> (repeat' apply And.intro) <;> first | rfl | exact ⟨_, rfl⟩ | exact ⟨_, _, rfl⟩ | simp [lst, cat2_nil]
 ·rw [if_neg e1] at h
  obtain rfl := Option.some.inj h
  simp (maxDischargeDepth := 9) only [↓xpre, xpost, xlst, xc2, xcore, yset, rg0, ↓reduceIte, Nat.reduceEqDiff, Nat.reduceLT, Nat.reduceLeDiff, Nat.reduceAdd, Nat.reduceMul, Nat.reduceMod, Nat.reduceDiv, Nat.reducePow, Nat.reduceSub, Nat.reduceBEq, Int.reduceLE, Int.reduceLT, Int.reduceEq, Int.reduceSub, Int.reduceAdd, Int.reduceToNat, Int.reduceNeg, m0, m1, m2, m3, e1, s_maLine_l0_M, s_maLine_l0_X, sxN, sxE, sxR] <;> (repeat' apply And.intro) <;> first | rfl | exact ⟨_, rfl⟩ | exact ⟨_, _, rfl⟩ | simp [lst, cat2_nil]
theorem s_maLine_call (word : ByteArray) (l : List Int) {r : ByteArray} (h : s_maLine word l = some r) : Y.call 66 [D.str word, D.sl 3 (lst (D.int .i64) l)] [] = some (D.str r, []) := by
 refine c66 ?_ rfl
 unfold k66
 unfold s_maLine at h
 obtain ⟨r1000_, hl2, h⟩ := bindS h
 try dsimp only at h
 simp (maxDischargeDepth := 9) only [↓xpre, xpost, xlst, xc2, xcore, yset, rg0, ↓reduceIte, Nat.reduceEqDiff, Nat.reduceLT, Nat.reduceLeDiff, Nat.reduceAdd, Nat.reduceMul, Nat.reduceMod, Nat.reduceDiv, Nat.reducePow, Nat.reduceSub, Nat.reduceBEq, Int.reduceLE, Int.reduceLT, Int.reduceEq, Int.reduceSub, Int.reduceAdd, Int.reduceToNat, Int.reduceNeg]
 refine wd_mono (s_maLine_l0_wp l hl2 ?_) ?_
 ·simp (maxDischargeDepth := 9) only [↓xpre, xpost, xlst, xc2, xcore, yset, rg0, ↓reduceIte, Nat.reduceEqDiff, Nat.reduceLT, Nat.reduceLeDiff, Nat.reduceAdd, Nat.reduceMul, Nat.reduceMod, Nat.reduceDiv, Nat.reducePow, Nat.reduceSub, Nat.reduceBEq, Int.reduceLE, Int.reduceLT, Int.reduceEq, Int.reduceSub, Int.reduceAdd, Int.reduceToNat, Int.reduceNeg, s_maLine_l0_M] <;> (repeat' apply And.intro) <;> first | rfl | exact ⟨_, rfl⟩ | exact ⟨_, _, rfl⟩ | simp [lst, cat2_nil]
 ·intro ex2 s2 hX2
  unfold s_maLine_l0_X at hX2
  obtain ⟨rfl, n2_0⟩ := hX2
  obtain rfl := Option.some.inj h
  simp (maxDischargeDepth := 9) only [↓xpre, xpost, xlst, xc2, xcore, yset, rg0, ↓reduceIte, Nat.reduceEqDiff, Nat.reduceLT, Nat.reduceLeDiff, Nat.reduceAdd, Nat.reduceMul, Nat.reduceMod, Nat.reduceDiv, Nat.reducePow, Nat.reduceSub, Nat.reduceBEq, Int.reduceLE, Int.reduceLT, Int.reduceEq, Int.reduceSub, Int.reduceAdd, Int.reduceToNat, Int.reduceNeg, n2_0] <;> (repeat' apply And.intro) <;> first | rfl | exact ⟨_, rfl⟩ | exact ⟨_, _, rfl⟩ | simp [lst, cat2_nil]

noncomputable def s_prText_l0_S (p_Labels : Int) (p_Degree : Int) (p_Nodes : List (List Int)) (p_Edges : List (List Int)) (out : ByteArray) (t18_ : Int) : Option ((ByteArray × Int) ⊕ (ByteArray)) :=
 if t18_ < (p_Nodes.length : Int) then
  ck (0 ≤ t18_ ∧ t18_.toNat < p_Nodes.length) <|
  (s_maLine ({ data := #[110, 111, 100, 101] } : ByteArray) (p_Nodes.getD t18_.toNat default)).bind fun r24_ =>
  ck (r24_.size + ({ data := #[10] } : ByteArray).size < 1099511627776) <|
  ck (out.size + (r24_ ++ ({ data := #[10] } : ByteArray)).size < 1099511627776) <|
  some (Sum.inl ((out ++ (r24_ ++ ({ data := #[10] } : ByteArray))), IntKind.i64.wrap (t18_ + 1)))
 else
  some (Sum.inr out)
noncomputable def s_prText_l0 (p_Labels : Int) (p_Degree : Int) (p_Nodes : List (List Int)) (p_Edges : List (List Int)) (v : ByteArray × Int) : Option (ByteArray) := itO (fun v => s_prText_l0_S p_Labels p_Degree p_Nodes p_Edges v.1 v.2) v
noncomputable def s_prText_l1_S (p_Edges : List (List Int)) (out : ByteArray) (t31_ : Int) : Option ((ByteArray × Int) ⊕ (ByteArray)) :=
 if t31_ < (p_Edges.length : Int) then
  ck (0 ≤ t31_ ∧ t31_.toNat < p_Edges.length) <|
  (s_maLine ({ data := #[101, 100, 103, 101] } : ByteArray) (p_Edges.getD t31_.toNat default)).bind fun r37_ =>
  ck (r37_.size + ({ data := #[10] } : ByteArray).size < 1099511627776) <|
  ck (out.size + (r37_ ++ ({ data := #[10] } : ByteArray)).size < 1099511627776) <|
  some (Sum.inl ((out ++ (r37_ ++ ({ data := #[10] } : ByteArray))), IntKind.i64.wrap (t31_ + 1)))
 else
  some (Sum.inr out)
noncomputable def s_prText_l1 (p_Edges : List (List Int)) (v : ByteArray × Int) : Option (ByteArray) := itO (fun v => s_prText_l1_S p_Edges v.1 v.2) v
noncomputable def s_prText (p_Labels : Int) (p_Degree : Int) (p_Nodes : List (List Int)) (p_Edges : List (List Int)) : Option (ByteArray) :=
 (s_maLine ({ data := #[112, 114, 111, 98, 108, 101, 109] } : ByteArray) [p_Labels, p_Degree]).bind fun r13_ =>
 ck (r13_.size + ({ data := #[10] } : ByteArray).size < 1099511627776) <|
 (s_prText_l0 p_Labels p_Degree p_Nodes p_Edges ((r13_ ++ ({ data := #[10] } : ByteArray)), 0)).bind fun r1000_ =>
 (s_prText_l1 p_Edges (r1000_, 0)).bind fun r1001_ =>
 some r1001_
/-- spec.prText -/
def k41_l0b : SC :=
 .seq
 (.ops [
 ⟨(some 19), (.binOp .lss 3 (.tmp 18) (.tmp 17) 3), 0, none⟩])
 (.seq
 (.cond (.tmp 19)
 .skip
 (.exit 0))
 (.seq
 (.block 1
 (.seq
 (.ops [
 ⟨(some 20), (.indexAddr 34 (.tmp 16) (.tmp 18)), 0, none⟩,
 ⟨(some 21), (.load 70 (.tmp 20)), 70, none⟩,
 ⟨(some 5), (.assign (.tmp 21)), 70, none⟩])
 (.ops [
 ⟨(some 22), (.move (.tmp 3)), 9, none⟩,
 ⟨(some 23), (.move (.tmp 5)), 70, none⟩,
 ⟨(some 24), (.call ⟨(.value (.func 66)), #[(.const (.string { data := #[110, 111, 100, 101] })), (.tmp 23)], #[9, 70]⟩), 9, none⟩,
 ⟨(some 25), (.binOp .add 9 (.tmp 24) (.const (.string { data := #[10] })) 9), 9, none⟩,
 ⟨(some 26), (.binOp .add 9 (.tmp 22) (.tmp 25) 9), 9, none⟩,
 ⟨(some 3), (.assign (.tmp 26)), 9, none⟩])))
 (.ops [
 ⟨(some 27), (.binOp .add 3 (.tmp 18) (.const (.int .i64 1)) 3), 3, none⟩,
 ⟨(some 18), (.move (.tmp 27)), 3, none⟩])))
def k41_l0 : SC := .loop k41_l0b
def k41_l1b : SC :=
 .seq
 (.ops [
 ⟨(some 32), (.binOp .lss 3 (.tmp 31) (.tmp 30) 3), 0, none⟩])
 (.seq
 (.cond (.tmp 32)
 .skip
 (.exit 2))
 (.seq
 (.block 3
 (.seq
 (.ops [
 ⟨(some 33), (.indexAddr 34 (.tmp 29) (.tmp 31)), 0, none⟩,
 ⟨(some 34), (.load 70 (.tmp 33)), 70, none⟩,
 ⟨(some 7), (.assign (.tmp 34)), 70, none⟩])
 (.ops [
 ⟨(some 35), (.move (.tmp 3)), 9, none⟩,
 ⟨(some 36), (.move (.tmp 7)), 70, none⟩,
 ⟨(some 37), (.call ⟨(.value (.func 66)), #[(.const (.string { data := #[101, 100, 103, 101] })), (.tmp 36)], #[9, 70]⟩), 9, none⟩,
 ⟨(some 38), (.binOp .add 9 (.tmp 37) (.const (.string { data := #[10] })) 9), 9, none⟩,
 ⟨(some 39), (.binOp .add 9 (.tmp 35) (.tmp 38) 9), 9, none⟩,
 ⟨(some 3), (.assign (.tmp 39)), 9, none⟩])))
 (.ops [
 ⟨(some 40), (.binOp .add 3 (.tmp 31) (.const (.int .i64 1)) 3), 3, none⟩,
 ⟨(some 31), (.move (.tmp 40)), 3, none⟩])))
def k41_l1 : SC := .loop k41_l1b
def k41 : SC :=
 .seq
 (.ops [
 ⟨(some 1), (.box 39 (.tmp 0)), 0, none⟩,
 ⟨(some 2), (.assign (.const (.string { data := #[] }))), 9, none⟩])
 (.seq
 (.ops [
 ⟨(some 8), (.fieldAddr 39 (.tmp 1) 0), 0, none⟩,
 ⟨(some 9), (.load 3 (.tmp 8)), 3, none⟩,
 ⟨(some 10), (.fieldAddr 39 (.tmp 1) 1), 0, none⟩,
 ⟨(some 11), (.load 3 (.tmp 10)), 3, none⟩,
 ⟨(some 12), (.buildSlice 70 2 #[(0, (.tmp 9)), (1, (.tmp 11))]), 70, none⟩,
 ⟨(some 13), (.call ⟨(.value (.func 66)), #[(.const (.string { data := #[112, 114, 111, 98, 108, 101, 109] })), (.tmp 12)], #[9, 70]⟩), 9, none⟩,
 ⟨(some 14), (.binOp .add 9 (.tmp 13) (.const (.string { data := #[10] })) 9), 9, none⟩,
 ⟨(some 3), (.assign (.tmp 14)), 9, none⟩])
 (.seq
 (.seq
 (.ops [
 ⟨(some 15), (.fieldAddr 39 (.tmp 1) 2), 0, none⟩,
 ⟨(some 16), (.load 34 (.tmp 15)), 34, none⟩,
 ⟨(some 17), (.call ⟨(.builtin .len), #[(.tmp 16)], #[34]⟩), 3, none⟩,
 ⟨(some 18), (.move (.const (.int .i64 0))), 3, none⟩])
 (.block 0
 k41_l0))
 (.seq
 (.seq
 (.ops [
 ⟨(some 28), (.fieldAddr 39 (.tmp 1) 3), 0, none⟩,
 ⟨(some 29), (.load 34 (.tmp 28)), 34, none⟩,
 ⟨(some 30), (.call ⟨(.builtin .len), #[(.tmp 29)], #[34]⟩), 3, none⟩,
 ⟨(some 31), (.move (.const (.int .i64 0))), 3, none⟩])
 (.block 2
 k41_l1))
 (.seq
 (.ops [
 ⟨(some 41), (.move (.tmp 3)), 9, none⟩,
 ⟨(some 2), (.assign (.tmp 41)), 9, none⟩])
 .ret))))
theorem slim41 : Tryd.f41.body.map (slim lends) = some k41 := by kernel_rfl
theorem ok41 : fnOk Tryd.f41 1 = true := by kernel_rfl
theorem c41 {a l : List D} {r : D × List D} (h : wpD Y.env k41 (fin tys l.length [ResultVar.tmp 2] r) (entry a l)) (ha : a.length = 1) : Y.call 41 a l = some r :=
 call_slim (Y := Y) rfl Tryd.func41 (ha ▸ ok41) slim41 h
def s_prText_l0_M (p_Labels : Int) (p_Degree : Int) (p_Nodes : List (List Int)) (p_Edges : List (List Int)) (out : ByteArray) (t18_ : Int) (s : St) : Prop := s.v 1 = D.box [D.int .i64 p_Labels, D.int .i64 p_Degree, D.sl 70 (lst (fun x => D.sl 3 (lst (D.int .i64) x)) p_Nodes), D.sl 70 (lst (fun x => D.sl 3 (lst (D.int .i64) x)) p_Edges)] ∧ s.v 3 = D.str out ∧ s.v 16 = D.sl 70 (lst (fun x => D.sl 3 (lst (D.int .i64) x)) p_Nodes) ∧ s.v 17 = D.int .i64 (p_Nodes.length : Int) ∧ s.v 18 = D.int .i64 t18_
def s_prText_l0_X (p_Labels : Int) (p_Degree : Int) (p_Nodes : List (List Int)) (p_Edges : List (List Int)) (r : ByteArray) (ex : Ex) (s : St) : Prop := ex = .exit 0 ∧ s.v 1 = D.box [D.int .i64 p_Labels, D.int .i64 p_Degree, D.sl 70 (lst (fun x => D.sl 3 (lst (D.int .i64) x)) p_Nodes), D.sl 70 (lst (fun x => D.sl 3 (lst (D.int .i64) x)) p_Edges)] ∧ s.v 3 = D.str r
theorem s_prText_l0_wp (p_Labels : Int) (p_Degree : Int) (p_Nodes : List (List Int)) (p_Edges : List (List Int)) {v : ByteArray × Int} {s : St} {r : ByteArray} (h : s_prText_l0 p_Labels p_Degree p_Nodes p_Edges v = some r) (hM : s_prText_l0_M p_Labels p_Degree p_Nodes p_Edges v.1 v.2 s) : wpD Y.env k41_l0 (s_prText_l0_X p_Labels p_Degree p_Nodes p_Edges r) s := by
 unfold s_prText_l0 at h
 refine wd_itO (c := k41_l0b) (fun v => s_prText_l0_S p_Labels p_Degree p_Nodes p_Edges v.1 v.2) (fun v s => s_prText_l0_M p_Labels p_Degree p_Nodes p_Edges v.1 v.2 s) (s_prText_l0_X p_Labels p_Degree p_Nodes p_Edges) ?_ h hM
 clear h hM s v r
 intro v s o hM h
 obtain ⟨out, t18_⟩ := v
 dsimp only at h hM
 unfold s_prText_l0_S at h
 unfold s_prText_l0_M at hM
 obtain ⟨m0, m1, m2, m3, m4⟩ := hM
 unfold k41_l0b
 by_cases e3 : t18_ < (p_Nodes.length : Int)
 ·rw [if_pos e3] at h
  obtain ⟨e4, h⟩ := ckS h
  obtain ⟨r24_, hl5, h⟩ := bindS h
  try dsimp only at h
  have c5 := s_maLine_call ({ data := #[110, 111, 100, 101] } : ByteArray) (p_Nodes.getD t18_.toNat default) hl5
  obtain ⟨e6, h⟩ := ckS h
  obtain ⟨e7, h⟩ := ckS h
  obtain rfl := Option.some.inj h
  simp (maxDischargeDepth := 9) only [↓xpre, xpost, xlst, xc2, xcore, yset, rg0, ↓reduceIte, Nat.reduceEqDiff, Nat.reduceLT, Nat.reduceLeDiff, Nat.reduceAdd, Nat.reduceMul, Nat.reduceMod, Nat.reduceDiv, Nat.reducePow, Nat.reduceSub, Nat.reduceBEq, Int.reduceLE, Int.reduceLT, Int.reduceEq, Int.reduceSub, Int.reduceAdd, Int.reduceToNat, Int.reduceNeg, m0, m1, m2, m3, m4, e3, e4.1, e4.2, c5, e6, e7, s_prText_l0_M, s_prText_l0_X, sxN, sxE, sxR] <;> (repeat' apply And.intro) <;> first | rfl | exact ⟨_, rfl⟩ | exact ⟨_, _, rfl⟩ | simp [lst, cat2_nil]
 ·rw [if_neg e3] at h
  obtain rfl := Option.some.inj h
  simp (maxDischargeDepth := 9) only [↓xpre, xpost, xlst, xc2, xcore, yset, rg0, ↓reduceIte, Nat.reduceEqDiff, Nat.reduceLT, Nat.reduceLeDiff, Nat.reduceAdd, Nat.reduceMul, Nat.reduceMod, Nat.reduceDiv, Nat.reducePow, Nat.reduceSub, Nat.reduceBEq, Int.reduceLE, Int.reduceLT, Int.reduceEq, Int.reduceSub, Int.reduceAdd, Int.reduceToNat, Int.reduceNeg, m0, m1, m2, m3, m4, e3, s_prText_l0_M, s_prText_l0_X, sxN, sxE, sxR] <;> (repeat' apply And.intro) <;> first | rfl | exact ⟨_, rfl⟩ | exact ⟨_, _, rfl⟩ | simp [lst, cat2_nil]
def s_prText_l1_M (p_Edges : List (List Int)) (out : ByteArray) (t31_ : Int) (s : St) : Prop := s.v 3 = D.str out ∧ s.v 29 = D.sl 70 (lst (fun x => D.sl 3 (lst (D.int .i64) x)) p_Edges) ∧ s.v 30 = D.int .i64 (p_Edges.length : Int) ∧ s.v 31 = D.int .i64 t31_
def s_prText_l1_X (p_Edges : List (List Int)) (r : ByteArray) (ex : Ex) (s : St) : Prop := ex = .exit 2 ∧ s.v 3 = D.str r
theorem s_prText_l1_wp (p_Edges : List (List Int)) {v : ByteArray × Int} {s : St} {r : ByteArray} (h : s_prText_l1 p_Edges v = some r) (hM : s_prText_l1_M p_Edges v.1 v.2 s) : wpD Y.env k41_l1 (s_prText_l1_X p_Edges r) s := by
 unfold s_prText_l1 at h
 refine wd_itO (c := k41_l1b) (fun v => s_prText_l1_S p_Edges v.1 v.2) (fun v s => s_prText_l1_M p_Edges v.1 v.2 s) (s_prText_l1_X p_Edges) ?_ h hM
 clear h hM s v r
 intro v s o hM h
 obtain ⟨out, t31_⟩ := v
 dsimp only at h hM
 unfold s_prText_l1_S at h
 unfold s_prText_l1_M at hM
 obtain ⟨m0, m1, m2, m3⟩ := hM
 unfold k41_l1b
 by_cases e5 : t31_ < (p_Edges.length : Int)
 ·rw [if_pos e5] at h
  obtain ⟨e6, h⟩ := ckS h
  obtain ⟨r37_, hl7, h⟩ := bindS h
  try dsimp only at h
  have c7 := s_maLine_call ({ data := #[101, 100, 103, 101] } : ByteArray) (p_Edges.getD t31_.toNat default) hl7
  obtain ⟨e8, h⟩ := ckS h
  obtain ⟨e9, h⟩ := ckS h
  obtain rfl := Option.some.inj h
  simp (maxDischargeDepth := 9) only [↓xpre, xpost, xlst, xc2, xcore, yset, rg0, ↓reduceIte, Nat.reduceEqDiff, Nat.reduceLT, Nat.reduceLeDiff, Nat.reduceAdd, Nat.reduceMul, Nat.reduceMod, Nat.reduceDiv, Nat.reducePow, Nat.reduceSub, Nat.reduceBEq, Int.reduceLE, Int.reduceLT, Int.reduceEq, Int.reduceSub, Int.reduceAdd, Int.reduceToNat, Int.reduceNeg, m0, m1, m2, m3, e5, e6.1, e6.2, c7, e8, e9, s_prText_l1_M, s_prText_l1_X, sxN, sxE, sxR] <;> (repeat' apply And.intro) <;> first | rfl | exact ⟨_, rfl⟩ | exact ⟨_, _, rfl⟩ | simp [lst, cat2_nil]
 ·rw [if_neg e5] at h
  obtain rfl := Option.some.inj h
  simp (maxDischargeDepth := 9) only [↓xpre, xpost, xlst, xc2, xcore, yset, rg0, ↓reduceIte, Nat.reduceEqDiff, Nat.reduceLT, Nat.reduceLeDiff, Nat.reduceAdd, Nat.reduceMul, Nat.reduceMod, Nat.reduceDiv, Nat.reducePow, Nat.reduceSub, Nat.reduceBEq, Int.reduceLE, Int.reduceLT, Int.reduceEq, Int.reduceSub, Int.reduceAdd, Int.reduceToNat, Int.reduceNeg, m0, m1, m2, m3, e5, s_prText_l1_M, s_prText_l1_X, sxN, sxE, sxR] <;> (repeat' apply And.intro) <;> first | rfl | exact ⟨_, rfl⟩ | exact ⟨_, _, rfl⟩ | simp [lst, cat2_nil]
theorem s_prText_call (p_Labels : Int) (p_Degree : Int) (p_Nodes : List (List Int)) (p_Edges : List (List Int)) {r : ByteArray} (h : s_prText p_Labels p_Degree p_Nodes p_Edges = some r) : Y.call 41 [D.agg [D.int .i64 p_Labels, D.int .i64 p_Degree, D.sl 70 (lst (fun x => D.sl 3 (lst (D.int .i64) x)) p_Nodes), D.sl 70 (lst (fun x => D.sl 3 (lst (D.int .i64) x)) p_Edges)]] [] = some (D.str r, []) := by
 refine c41 ?_ rfl
 unfold k41
 unfold s_prText at h
 obtain ⟨r13_, hl1, h⟩ := bindS h
 try dsimp only at h
 have c1 := s_maLine_call ({ data := #[112, 114, 111, 98, 108, 101, 109] } : ByteArray) [p_Labels, p_Degree] hl1
 simp only [lst_cons, lst_nil, cat_cons, cat_nil, List.append_nil, List.cons_append, List.nil_append] at c1
 obtain ⟨e2, h⟩ := ckS h
 obtain ⟨r1000_, hl4, h⟩ := bindS h
 try dsimp only at h
 simp (maxDischargeDepth := 9) only [↓xpre, xpost, xlst, xc2, xcore, yset, rg0, ↓reduceIte, Nat.reduceEqDiff, Nat.reduceLT, Nat.reduceLeDiff, Nat.reduceAdd, Nat.reduceMul, Nat.reduceMod, Nat.reduceDiv, Nat.reducePow, Nat.reduceSub, Nat.reduceBEq, Int.reduceLE, Int.reduceLT, Int.reduceEq, Int.reduceSub, Int.reduceAdd, Int.reduceToNat, Int.reduceNeg, c1, e2]
 refine wd_mono (s_prText_l0_wp p_Labels p_Degree p_Nodes p_Edges hl4 ?_) ?_
 ·simp (maxDischargeDepth := 9) only [↓xpre, xpost, xlst, xc2, xcore, yset, rg0, ↓reduceIte, Nat.reduceEqDiff, Nat.reduceLT, Nat.reduceLeDiff, Nat.reduceAdd, Nat.reduceMul, Nat.reduceMod, Nat.reduceDiv, Nat.reducePow, Nat.reduceSub, Nat.reduceBEq, Int.reduceLE, Int.reduceLT, Int.reduceEq, Int.reduceSub, Int.reduceAdd, Int.reduceToNat, Int.reduceNeg, c1, e2, s_prText_l0_M] <;> (repeat' apply And.intro) <;> first | rfl | exact ⟨_, rfl⟩ | exact ⟨_, _, rfl⟩ | simp [lst, cat2_nil]
 ·intro ex4 s4 hX4
  unfold s_prText_l0_X at hX4
  obtain ⟨rfl, n4_0, n4_1⟩ := hX4
  obtain ⟨r1001_, hl6, h⟩ := bindS h
  try dsimp only at h
  simp (maxDischargeDepth := 9) only [↓xpre, xpost, xlst, xc2, xcore, yset, rg0, ↓reduceIte, Nat.reduceEqDiff, Nat.reduceLT, Nat.reduceLeDiff, Nat.reduceAdd, Nat.reduceMul, Nat.reduceMod, Nat.reduceDiv, Nat.reducePow, Nat.reduceSub, Nat.reduceBEq, Int.reduceLE, Int.reduceLT, Int.reduceEq, Int.reduceSub, Int.reduceAdd, Int.reduceToNat, Int.reduceNeg, c1, e2, n4_0, n4_1]
  refine wd_mono (s_prText_l1_wp p_Edges hl6 ?_) ?_
  ·simp (maxDischargeDepth := 9) only [↓xpre, xpost, xlst, xc2, xcore, yset, rg0, ↓reduceIte, Nat.reduceEqDiff, Nat.reduceLT, Nat.reduceLeDiff, Nat.reduceAdd, Nat.reduceMul, Nat.reduceMod, Nat.reduceDiv, Nat.reducePow, Nat.reduceSub, Nat.reduceBEq, Int.reduceLE, Int.reduceLT, Int.reduceEq, Int.reduceSub, Int.reduceAdd, Int.reduceToNat, Int.reduceNeg, c1, e2, n4_0, n4_1, s_prText_l1_M] <;> (repeat' apply And.intro) <;> first | rfl | exact ⟨_, rfl⟩ | exact ⟨_, _, rfl⟩ | simp [lst, cat2_nil]
  ·intro ex6 s6 hX6
   unfold s_prText_l1_X at hX6
   obtain ⟨rfl, n6_0⟩ := hX6
   obtain rfl := Option.some.inj h
   simp (maxDischargeDepth := 9) only [↓xpre, xpost, xlst, xc2, xcore, yset, rg0, ↓reduceIte, Nat.reduceEqDiff, Nat.reduceLT, Nat.reduceLeDiff, Nat.reduceAdd, Nat.reduceMul, Nat.reduceMod, Nat.reduceDiv, Nat.reducePow, Nat.reduceSub, Nat.reduceBEq, Int.reduceLE, Int.reduceLT, Int.reduceEq, Int.reduceSub, Int.reduceAdd, Int.reduceToNat, Int.reduceNeg, c1, e2, n6_0] <;> (repeat' apply And.intro) <;> first | rfl | exact ⟨_, rfl⟩ | exact ⟨_, _, rfl⟩ | simp [lst, cat2_nil]

noncomputable def s_ProblemText (p_Labels : Int) (p_Degree : Int) (p_Nodes : List (List Int)) (p_Edges : List (List Int)) : Option (ByteArray × Bool) :=
 ck (Short p_Nodes) <|
 ck (Short p_Edges) <|
 if (isProb p_Labels p_Degree p_Nodes p_Edges) = true then
  (s_prText p_Labels p_Degree p_Nodes p_Edges).bind fun r8_ =>
  some (r8_, true)
 else
  some (({ data := #[] } : ByteArray), false)
/-- spec.ProblemText -/
def k17 : SC :=
 .seq
 (.ops [
 ⟨(some 1), (.box 39 (.tmp 0)), 0, none⟩,
 ⟨(some 2), (.assign (.const (.string { data := #[] }))), 9, none⟩,
 ⟨(some 3), (.assign (.const (.bool false))), 4, none⟩])
 (.seq
 (.seq
 (.ops [
 ⟨(some 4), (.load 39 (.tmp 1)), 39, none⟩,
 ⟨(some 5), (.call ⟨(.value (.func 40)), #[(.tmp 4)], #[39]⟩), 4, none⟩,
 ⟨(some 6), (.unOp .not 4 (.tmp 5)), 4, none⟩])
 (.cond (.tmp 6)
 (.seq
 (.ops [
 ⟨(some 2), (.assign (.const (.string { data := #[] }))), 9, none⟩,
 ⟨(some 3), (.assign (.const (.bool false))), 4, none⟩])
 .ret)
 .skip))
 (.seq
 (.ops [
 ⟨(some 7), (.load 39 (.tmp 1)), 39, none⟩,
 ⟨(some 8), (.call ⟨(.value (.func 41)), #[(.tmp 7)], #[39]⟩), 9, none⟩,
 ⟨(some 2), (.assign (.tmp 8)), 9, none⟩,
 ⟨(some 3), (.assign (.const (.bool true))), 4, none⟩])
 .ret))
theorem slim17 : Tryd.f17.body.map (slim lends) = some k17 := by kernel_rfl
theorem ok17 : fnOk Tryd.f17 1 = true := by kernel_rfl
theorem c17 {a l : List D} {r : D × List D} (h : wpD Y.env k17 (fin tys l.length [ResultVar.tmp 2, ResultVar.tmp 3] r) (entry a l)) (ha : a.length = 1) : Y.call 17 a l = some r :=
 call_slim (Y := Y) rfl Tryd.func17 (ha ▸ ok17) slim17 h
theorem s_ProblemText_call (p_Labels : Int) (p_Degree : Int) (p_Nodes : List (List Int)) (p_Edges : List (List Int)) {r : ByteArray × Bool} (h : s_ProblemText p_Labels p_Degree p_Nodes p_Edges = some r) : Y.call 17 [D.agg [D.int .i64 p_Labels, D.int .i64 p_Degree, D.sl 70 (lst (fun x => D.sl 3 (lst (D.int .i64) x)) p_Nodes), D.sl 70 (lst (fun x => D.sl 3 (lst (D.int .i64) x)) p_Edges)]] [] = some (D.tup [D.str r.1, D.bool r.2], []) := by
 refine c17 ?_ rfl
 unfold k17
 unfold s_ProblemText at h
 obtain ⟨e1, h⟩ := ckS h
 obtain ⟨e2, h⟩ := ckS h
 have c3 := s_prGood_cl p_Labels p_Degree p_Nodes p_Edges e1 e2
 by_cases e4 : (isProb p_Labels p_Degree p_Nodes p_Edges) = true
 ·rw [if_pos e4] at h
  obtain ⟨r8_, hl5, h⟩ := bindS h
  try dsimp only at h
  have c5 := s_prText_call p_Labels p_Degree p_Nodes p_Edges hl5
  obtain rfl := Option.some.inj h
  simp (maxDischargeDepth := 9) only [↓xpre, xpost, xlst, xc2, xcore, yset, rg0, ↓reduceIte, Nat.reduceEqDiff, Nat.reduceLT, Nat.reduceLeDiff, Nat.reduceAdd, Nat.reduceMul, Nat.reduceMod, Nat.reduceDiv, Nat.reducePow, Nat.reduceSub, Nat.reduceBEq, Int.reduceLE, Int.reduceLT, Int.reduceEq, Int.reduceSub, Int.reduceAdd, Int.reduceToNat, Int.reduceNeg, e1, e2, c3, e4, c5] <;> (repeat' apply And.intro) <;> first | rfl | exact ⟨_, rfl⟩ | exact ⟨_, _, rfl⟩ | simp [lst, cat2_nil]
 ·rw [if_neg e4] at h
  have e4f : (isProb p_Labels p_Degree p_Nodes p_Edges) = false := Bool.eq_false_iff.mpr e4
  obtain rfl := Option.some.inj h
  simp (maxDischargeDepth := 9) only [↓xpre, xpost, xlst, xc2, xcore, yset, rg0, ↓reduceIte, Nat.reduceEqDiff, Nat.reduceLT, Nat.reduceLeDiff, Nat.reduceAdd, Nat.reduceMul, Nat.reduceMod, Nat.reduceDiv, Nat.reducePow, Nat.reduceSub, Nat.reduceBEq, Int.reduceLE, Int.reduceLT, Int.reduceEq, Int.reduceSub, Int.reduceAdd, Int.reduceToNat, Int.reduceNeg, e1, e2, c3, e4f] <;> (repeat' apply And.intro) <;> first | rfl | exact ⟨_, rfl⟩ | exact ⟨_, _, rfl⟩ | simp [lst, cat2_nil]


end Go.Proofs.YtaogbcdlpgfplaaDoor
