/- Refusals checked, lifted. Conditions: none. -/
import Derived.Test.YtjlphfbpaejicaaL6
import Derived.Test.YtjlphfbpaejicaaZer
import Derived.Test.YtjlphfbpaejicaaCon
namespace Go.Proofs.Ytjlphfbpaejicaa
open Go Dv
set_option linter.unusedSimpArgs false
set_option linter.unusedVariables false
set_option maxRecDepth 100000
set_option maxHeartbeats 4000000


theorem sz_fit {l : List (List Int)} {left : Int} (hl : left ≤ 1048576) (h : ¬ szN left (l.length + tot l) < 0) : Short l ∧ (l.length : Int) + tot l ≤ 1048576 ∧ szN left (l.length + tot l) ≤ left := by
  have t1 := tot_nonneg l
  rcases szN_cases left (l.length + tot l) with c | ⟨c, c'⟩
  · rw [c] at h; simp at h
  · exact ⟨tot_short (by omega), by omega, by omega⟩
/-- The two labels stand in x and y and do not go together. -/
def twoB (es : List (List Int)) (l x y : List Int) : Bool := decide (l.length = 2) && (x.contains (l.getD 0 default) && (y.contains (l.getD 1 default) && !hasE es (l.getD 0 default) (l.getD 1 default)))
noncomputable def s_zeTwo (p_Labels : Int) (p_Degree : Int) (p_Nodes : List (List Int)) (p_Edges : List (List Int)) (l : List Int) (x_ : List Int) (y : List Int) : Option (Bool) :=
  if (l.length : Int) = 2 then
    ck (0 < l.length) <|
    ck (x_.length < 1099511627776) <|
    if (x_.contains (l.getD 0 default)) = true then
      ck (1 < l.length) <|
      ck (y.length < 1099511627776) <|
      if (y.contains (l.getD 1 default)) = true then
        ck (Short p_Edges) <|
        some (!(hasE p_Edges (l.getD 0 default) (l.getD 1 default)))
      else
        some false
    else
      some false
  else
    some false
/-- spec.zeTwo -/
def k61 : SC :=
  .seq
    (.ops [
      ⟨(some 4), (Op.box 28 (Operand.tmp 0)), 0, none⟩,
      ⟨(some 8), (Op.assign (Operand.const (Value.bool false))), 4, none⟩])
    (.seq
      (.draws [
        (⟨[9, 1, 1], [9, 10, 11, 12, 13, 14, 15, 16, 17, 18, 19, 20, 21, 22, 23, 24, 25, 26, 27, 28, 29, 30, 31, 32, 33, 34, 35, 36, 8, 36, 36], [9]⟩, ⟨(some 9), (Op.move (Operand.tmp 1)), 32, none⟩),
        (⟨[10, 9, 1], [9, 10, 11, 12, 13, 14, 15, 16, 17, 18, 19, 20, 21, 22, 23, 24, 25, 26, 27, 28, 29, 30, 31, 32, 33, 34, 35, 36, 8, 36, 36], [10]⟩, ⟨(some 10), (Op.call { callee := (Callee.builtin Builtin.len), args := #[(Operand.tmp 9)], argTypes := #[32] }), 3, none⟩),
        (⟨[11, 10, 10], [9, 10, 11, 12, 13, 14, 15, 16, 17, 18, 19, 20, 21, 22, 23, 24, 25, 26, 27, 28, 29, 30, 31, 32, 33, 34, 35, 36, 8, 36, 36], [11]⟩, ⟨(some 11), (Op.binOp BinOp.eql 3 (Operand.tmp 10) (Operand.const (Value.int IntKind.i64 2)) 3), 4, none⟩),
        (⟨[12, 11, 11], [9, 10, 11, 12, 13, 14, 15, 16, 17, 18, 19, 20, 21, 22, 23, 24, 25, 26, 27, 28, 29, 30, 31, 32, 33, 34, 35, 36, 8, 36, 36], [12]⟩, ⟨(some 12), (Op.move (Operand.tmp 11)), 4, none⟩),
        (⟨[13, 2, 2, 12], [9, 10, 11, 12, 13, 14, 15, 16, 17, 18, 19, 20, 21, 22, 23, 24, 25, 26, 27, 28, 29, 30, 31, 32, 33, 34, 35, 36, 8, 36, 36], [13]⟩, ⟨(some 13), (Op.move (Operand.tmp 2)), 32, (some (some 12, true))⟩),
        (⟨[14, 1, 1, 12], [9, 10, 11, 12, 13, 14, 15, 16, 17, 18, 19, 20, 21, 22, 23, 24, 25, 26, 27, 28, 29, 30, 31, 32, 33, 34, 35, 36, 8, 36, 36], [14]⟩, ⟨(some 14), (Op.move (Operand.tmp 1)), 32, (some (some 12, true))⟩),
        (⟨[15, 14, 1, 12], [9, 10, 11, 12, 13, 14, 15, 16, 17, 18, 19, 20, 21, 22, 23, 24, 25, 26, 27, 28, 29, 30, 31, 32, 33, 34, 35, 36, 8, 36, 36], [15]⟩, ⟨(some 15), (Op.indexAddr 32 (Operand.tmp 14) (Operand.const (Value.int IntKind.i64 0))), 0, (some (some 12, true))⟩),
        (⟨[16, 15, 1, 12], [9, 10, 11, 12, 13, 14, 15, 16, 17, 18, 19, 20, 21, 22, 23, 24, 25, 26, 27, 28, 29, 30, 31, 32, 33, 34, 35, 36, 8, 36, 36], [16]⟩, ⟨(some 16), (Op.load 3 (Operand.tmp 15)), 3, (some (some 12, true))⟩),
        (⟨[17, 13, 16, 2, 1, 12], [9, 10, 11, 12, 13, 14, 15, 16, 17, 18, 19, 20, 21, 22, 23, 24, 25, 26, 27, 28, 29, 30, 31, 32, 33, 34, 35, 36, 8, 36, 36], [17]⟩, ⟨(some 17), (Op.call { callee := (Callee.value (Operand.func 88)), args := #[(Operand.tmp 13), (Operand.tmp 16)], argTypes := #[32, 3] }), 4, (some (some 12, true))⟩),
        (⟨[18, 12, 17, 11, 17], [9, 10, 11, 12, 13, 14, 15, 16, 17, 18, 19, 20, 21, 22, 23, 24, 25, 26, 27, 28, 29, 30, 31, 32, 33, 34, 35, 36, 8, 36, 36], [18]⟩, ⟨(some 18), (Op.pick (Operand.tmp 12) (Operand.tmp 17) (Operand.const (Value.bool false))), 4, none⟩),
        (⟨[19, 18, 18], [9, 10, 11, 12, 13, 14, 15, 16, 17, 18, 19, 20, 21, 22, 23, 24, 25, 26, 27, 28, 29, 30, 31, 32, 33, 34, 35, 36, 8, 36, 36], [19]⟩, ⟨(some 19), (Op.move (Operand.tmp 18)), 4, none⟩),
        (⟨[20, 3, 3, 19], [9, 10, 11, 12, 13, 14, 15, 16, 17, 18, 19, 20, 21, 22, 23, 24, 25, 26, 27, 28, 29, 30, 31, 32, 33, 34, 35, 36, 8, 36, 36], [20]⟩, ⟨(some 20), (Op.move (Operand.tmp 3)), 32, (some (some 19, true))⟩),
        (⟨[21, 1, 1, 19], [9, 10, 11, 12, 13, 14, 15, 16, 17, 18, 19, 20, 21, 22, 23, 24, 25, 26, 27, 28, 29, 30, 31, 32, 33, 34, 35, 36, 8, 36, 36], [21]⟩, ⟨(some 21), (Op.move (Operand.tmp 1)), 32, (some (some 19, true))⟩),
        (⟨[22, 21, 1, 19], [9, 10, 11, 12, 13, 14, 15, 16, 17, 18, 19, 20, 21, 22, 23, 24, 25, 26, 27, 28, 29, 30, 31, 32, 33, 34, 35, 36, 8, 36, 36], [22]⟩, ⟨(some 22), (Op.indexAddr 32 (Operand.tmp 21) (Operand.const (Value.int IntKind.i64 1))), 0, (some (some 19, true))⟩),
        (⟨[23, 22, 1, 19], [9, 10, 11, 12, 13, 14, 15, 16, 17, 18, 19, 20, 21, 22, 23, 24, 25, 26, 27, 28, 29, 30, 31, 32, 33, 34, 35, 36, 8, 36, 36], [23]⟩, ⟨(some 23), (Op.load 3 (Operand.tmp 22)), 3, (some (some 19, true))⟩),
        (⟨[24, 20, 23, 3, 1, 19], [9, 10, 11, 12, 13, 14, 15, 16, 17, 18, 19, 20, 21, 22, 23, 24, 25, 26, 27, 28, 29, 30, 31, 32, 33, 34, 35, 36, 8, 36, 36], [24]⟩, ⟨(some 24), (Op.call { callee := (Callee.value (Operand.func 88)), args := #[(Operand.tmp 20), (Operand.tmp 23)], argTypes := #[32, 3] }), 4, (some (some 19, true))⟩),
        (⟨[25, 19, 24, 18, 24], [9, 10, 11, 12, 13, 14, 15, 16, 17, 18, 19, 20, 21, 22, 23, 24, 25, 26, 27, 28, 29, 30, 31, 32, 33, 34, 35, 36, 8, 36, 36], [25]⟩, ⟨(some 25), (Op.pick (Operand.tmp 19) (Operand.tmp 24) (Operand.const (Value.bool false))), 4, none⟩),
        (⟨[26, 25, 25], [9, 10, 11, 12, 13, 14, 15, 16, 17, 18, 19, 20, 21, 22, 23, 24, 25, 26, 27, 28, 29, 30, 31, 32, 33, 34, 35, 36, 8, 36, 36], [26]⟩, ⟨(some 26), (Op.move (Operand.tmp 25)), 4, none⟩),
        (⟨[27, 4, 4, 26], [9, 10, 11, 12, 13, 14, 15, 16, 17, 18, 19, 20, 21, 22, 23, 24, 25, 26, 27, 28, 29, 30, 31, 32, 33, 34, 35, 36, 8, 36, 36], [27]⟩, ⟨(some 27), (Op.load 28 (Operand.tmp 4)), 28, (some (some 26, true))⟩),
        (⟨[28, 1, 1, 26], [9, 10, 11, 12, 13, 14, 15, 16, 17, 18, 19, 20, 21, 22, 23, 24, 25, 26, 27, 28, 29, 30, 31, 32, 33, 34, 35, 36, 8, 36, 36], [28]⟩, ⟨(some 28), (Op.move (Operand.tmp 1)), 32, (some (some 26, true))⟩),
        (⟨[29, 28, 1, 26], [9, 10, 11, 12, 13, 14, 15, 16, 17, 18, 19, 20, 21, 22, 23, 24, 25, 26, 27, 28, 29, 30, 31, 32, 33, 34, 35, 36, 8, 36, 36], [29]⟩, ⟨(some 29), (Op.indexAddr 32 (Operand.tmp 28) (Operand.const (Value.int IntKind.i64 0))), 0, (some (some 26, true))⟩),
        (⟨[30, 29, 1, 26], [9, 10, 11, 12, 13, 14, 15, 16, 17, 18, 19, 20, 21, 22, 23, 24, 25, 26, 27, 28, 29, 30, 31, 32, 33, 34, 35, 36, 8, 36, 36], [30]⟩, ⟨(some 30), (Op.load 3 (Operand.tmp 29)), 3, (some (some 26, true))⟩),
        (⟨[31, 1, 1, 26], [9, 10, 11, 12, 13, 14, 15, 16, 17, 18, 19, 20, 21, 22, 23, 24, 25, 26, 27, 28, 29, 30, 31, 32, 33, 34, 35, 36, 8, 36, 36], [31]⟩, ⟨(some 31), (Op.move (Operand.tmp 1)), 32, (some (some 26, true))⟩),
        (⟨[32, 31, 1, 26], [9, 10, 11, 12, 13, 14, 15, 16, 17, 18, 19, 20, 21, 22, 23, 24, 25, 26, 27, 28, 29, 30, 31, 32, 33, 34, 35, 36, 8, 36, 36], [32]⟩, ⟨(some 32), (Op.indexAddr 32 (Operand.tmp 31) (Operand.const (Value.int IntKind.i64 1))), 0, (some (some 26, true))⟩),
        (⟨[33, 32, 1, 26], [9, 10, 11, 12, 13, 14, 15, 16, 17, 18, 19, 20, 21, 22, 23, 24, 25, 26, 27, 28, 29, 30, 31, 32, 33, 34, 35, 36, 8, 36, 36], [33]⟩, ⟨(some 33), (Op.load 3 (Operand.tmp 32)), 3, (some (some 26, true))⟩),
        (⟨[34, 27, 30, 33, 4, 1, 1, 26], [9, 10, 11, 12, 13, 14, 15, 16, 17, 18, 19, 20, 21, 22, 23, 24, 25, 26, 27, 28, 29, 30, 31, 32, 33, 34, 35, 36, 8, 36, 36], [34]⟩, ⟨(some 34), (Op.call { callee := (Callee.value (Operand.func 57)), args := #[(Operand.tmp 27), (Operand.tmp 30), (Operand.tmp 33)], argTypes := #[28, 3, 3] }), 4, (some (some 26, true))⟩),
        (⟨[35, 34, 34, 26], [9, 10, 11, 12, 13, 14, 15, 16, 17, 18, 19, 20, 21, 22, 23, 24, 25, 26, 27, 28, 29, 30, 31, 32, 33, 34, 35, 36, 8, 36, 36], [35]⟩, ⟨(some 35), (Op.unOp UnOp.not 4 (Operand.tmp 34)), 4, (some (some 26, true))⟩),
        (⟨[36, 26, 35, 25, 35], [9, 10, 11, 12, 13, 14, 15, 16, 17, 18, 19, 20, 21, 22, 23, 24, 25, 26, 27, 28, 29, 30, 31, 32, 33, 34, 35, 36, 8, 36, 36], [36]⟩, ⟨(some 36), (Op.pick (Operand.tmp 26) (Operand.tmp 35) (Operand.const (Value.bool false))), 4, none⟩),
        (⟨[8, 36, 36], [9, 10, 11, 12, 13, 14, 15, 16, 17, 18, 19, 20, 21, 22, 23, 24, 25, 26, 27, 28, 29, 30, 31, 32, 33, 34, 35, 36, 8, 36, 36], [8, 36, 36]⟩, ⟨(some 8), (Op.assign (Operand.tmp 36)), 4, none⟩)])
      .ret)
theorem slim61 : Try.f61.body.map (slim lends) = some k61 := by kernel_rfl
theorem ok61 : fnOk Try.f61 4 = true := by kernel_rfl
theorem c61 {a l : List D} {r : D × List D} (h : wpD Y.env k61 (fin tys l.length [ResultVar.tmp 8] r) (entry a l)) (ha : a.length = 4) : Y.call 61 a l = some r :=
  call_slim (Y := Y) rfl Try.func61 (ha ▸ ok61) slim61 h
theorem s_zeTwo_call (p_Labels : Int) (p_Degree : Int) (p_Nodes : List (List Int)) (p_Edges : List (List Int)) (l : List Int) (x_ : List Int) (y : List Int) {r : Bool} (h : s_zeTwo p_Labels p_Degree p_Nodes p_Edges l x_ y = some r) : Y.call 61 [D.agg [D.int .i64 p_Labels, D.int .i64 p_Degree, D.sl 32 (lst (fun x => D.sl 3 (lst (D.int .i64) x)) p_Nodes), D.sl 32 (lst (fun x => D.sl 3 (lst (D.int .i64) x)) p_Edges)], D.sl 3 (lst (D.int .i64) l), D.sl 3 (lst (D.int .i64) x_), D.sl 3 (lst (D.int .i64) y)] [] = some (D.bool r, []) := by
  refine c61 ?_ rfl
  unfold k61
  unfold s_zeTwo at h
  by_cases e1 : (l.length : Int) = 2
  · rw [if_pos e1] at h
    obtain ⟨e2, h⟩ := ckS h
    obtain ⟨e3, h⟩ := ckS h
    have c4 := s_l1Has_cl x_ (l.getD 0 default) e3
    by_cases e5 : (x_.contains (l.getD 0 default)) = true
    · rw [if_pos e5] at h
      obtain ⟨e6, h⟩ := ckS h
      obtain ⟨e7, h⟩ := ckS h
      have c8 := s_l1Has_cl y (l.getD 1 default) e7
      by_cases e9 : (y.contains (l.getD 1 default)) = true
      · rw [if_pos e9] at h
        obtain ⟨e10, h⟩ := ckS h
        have c11 := s_prEdge_cl p_Labels p_Degree p_Nodes p_Edges (l.getD 0 default) (l.getD 1 default) e10
        obtain rfl := Option.some.inj h
        simp (maxDischargeDepth := 9) only [↓xpre, xpost, xlst, xcore, yset, rg0, ↓reduceIte, Nat.reduceEqDiff, Nat.reduceLT, Nat.reduceLeDiff, Nat.reduceAdd, Nat.reduceMul, Nat.reduceMod, Nat.reduceSub, Nat.reduceBEq, Int.reduceLE, Int.reduceLT, Int.reduceEq, Int.reduceSub, Int.reduceAdd, Int.reduceToNat, Int.reduceNeg, decide_eq_true e1, e2, e3, c4, e5, e6, e7, c8, e9, e10, c11] <;> (repeat' apply And.intro) <;> first | rfl | exact ⟨_, rfl⟩ | simp [lst]
      · rw [if_neg e9] at h
        have e9f : (y.contains (l.getD 1 default)) = false := Bool.eq_false_iff.mpr e9
        obtain rfl := Option.some.inj h
        simp (maxDischargeDepth := 9) only [↓xpre, xpost, xlst, xcore, yset, rg0, ↓reduceIte, Nat.reduceEqDiff, Nat.reduceLT, Nat.reduceLeDiff, Nat.reduceAdd, Nat.reduceMul, Nat.reduceMod, Nat.reduceSub, Nat.reduceBEq, Int.reduceLE, Int.reduceLT, Int.reduceEq, Int.reduceSub, Int.reduceAdd, Int.reduceToNat, Int.reduceNeg, decide_eq_true e1, e2, e3, c4, e5, e6, e7, c8, e9f] <;> (repeat' apply And.intro) <;> first | rfl | exact ⟨_, rfl⟩ | simp [lst]
    · rw [if_neg e5] at h
      have e5f : (x_.contains (l.getD 0 default)) = false := Bool.eq_false_iff.mpr e5
      obtain rfl := Option.some.inj h
      simp (maxDischargeDepth := 9) only [↓xpre, xpost, xlst, xcore, yset, rg0, ↓reduceIte, Nat.reduceEqDiff, Nat.reduceLT, Nat.reduceLeDiff, Nat.reduceAdd, Nat.reduceMul, Nat.reduceMod, Nat.reduceSub, Nat.reduceBEq, Int.reduceLE, Int.reduceLT, Int.reduceEq, Int.reduceSub, Int.reduceAdd, Int.reduceToNat, Int.reduceNeg, decide_eq_true e1, e2, e3, c4, e5f] <;> (repeat' apply And.intro) <;> first | rfl | exact ⟨_, rfl⟩ | simp [lst]
  · rw [if_neg e1] at h
    obtain rfl := Option.some.inj h
    simp (maxDischargeDepth := 9) only [↓xpre, xpost, xlst, xcore, yset, rg0, ↓reduceIte, Nat.reduceEqDiff, Nat.reduceLT, Nat.reduceLeDiff, Nat.reduceAdd, Nat.reduceMul, Nat.reduceMod, Nat.reduceSub, Nat.reduceBEq, Int.reduceLE, Int.reduceLT, Int.reduceEq, Int.reduceSub, Int.reduceAdd, Int.reduceToNat, Int.reduceNeg, e1] <;> (repeat' apply And.intro) <;> first | rfl | exact ⟨_, rfl⟩ | simp [lst]

theorem s_zeTwo_eq (a d : Int) (ns es : List (List Int)) (l x y : List Int) (he : Short es) (hx : x.length < 1099511627776) (hy : y.length < 1099511627776) : s_zeTwo a d ns es l x y = some (twoB es l x y) := by
  unfold s_zeTwo twoB
  by_cases h : l.length = 2
  · rw [if_pos (by omega), ckT (by omega), ckT hx]
    cases x.contains (l.getD 0 default) with
    | false => simp
    | true =>
      rw [if_pos rfl, ckT (by omega), ckT hy]
      cases y.contains (l.getD 1 default) with
      | false => simp
      | true => rw [if_pos rfl, ckT he]; simp [h]
  · rw [if_neg (by omega)]; simp [h]
theorem s_zeTwo_cl (p_Labels : Int) (p_Degree : Int) (p_Nodes : List (List Int)) (p_Edges : List (List Int)) (l : List Int) (x_ : List Int) (y : List Int) (h0 : Short p_Edges) (h1 : x_.length < 1099511627776) (h2 : y.length < 1099511627776) : Y.call 61 [D.agg [D.int .i64 p_Labels, D.int .i64 p_Degree, D.sl 32 (lst (fun x => D.sl 3 (lst (D.int .i64) x)) p_Nodes), D.sl 32 (lst (fun x => D.sl 3 (lst (D.int .i64) x)) p_Edges)], D.sl 3 (lst (D.int .i64) l), D.sl 3 (lst (D.int .i64) x_), D.sl 3 (lst (D.int .i64) y)] [] = some (D.bool (twoB p_Edges l x_ y), []) := s_zeTwo_call p_Labels p_Degree p_Nodes p_Edges l x_ y (s_zeTwo_eq p_Labels p_Degree p_Nodes p_Edges l x_ y h0 h1 h2)
noncomputable def i_isZeroRefusal_l0_S (p_Labels : Int) (p_Degree : Int) (p_Nodes : List (List Int)) (p_Edges : List (List Int)) (pairs : List (List Int)) (t15_ : Int) : Option ((Int) ⊕ (Unit ⊕ Unit)) :=
  if t15_ < (pairs.length : Int) then
    ck (0 ≤ t15_ ∧ t15_.toNat < pairs.length) <|
    if ((pairs.getD t15_.toNat default).length : Int) = 2 then
      ck (0 ≤ t15_ ∧ t15_.toNat < p_Nodes.length) <|
      ck (0 < (pairs.getD t15_.toNat default).length) <|
      ck ((p_Nodes.getD t15_.toNat default).length < 1099511627776) <|
      if ((p_Nodes.getD t15_.toNat default).contains ((pairs.getD t15_.toNat default).getD 0 default)) = true then
        ck (1 < (pairs.getD t15_.toNat default).length) <|
        if ((p_Nodes.getD t15_.toNat default).contains ((pairs.getD t15_.toNat default).getD 1 default)) = true then
          ck (Short p_Edges) <|
          ck (incL p_Edges = true) <|
          if (hasE p_Edges ((pairs.getD t15_.toNat default).getD 0 default) ((pairs.getD t15_.toNat default).getD 1 default)) = true then
            some (Sum.inr (Sum.inl ()))
          else
            some (Sum.inl (IntKind.i64.wrap (t15_ + 1)))
        else
          some (Sum.inr (Sum.inl ()))
      else
        some (Sum.inr (Sum.inl ()))
    else
      some (Sum.inr (Sum.inl ()))
  else
    some (Sum.inr (Sum.inr ()))
noncomputable def i_isZeroRefusal_l0 (p_Labels : Int) (p_Degree : Int) (p_Nodes : List (List Int)) (p_Edges : List (List Int)) (pairs : List (List Int)) (v : Int) : Option (Unit ⊕ Unit) := itO (fun v => i_isZeroRefusal_l0_S p_Labels p_Degree p_Nodes p_Edges pairs v) v
noncomputable def i_isZeroRefusal (p_Labels : Int) (p_Degree : Int) (p_Nodes : List (List Int)) (p_Edges : List (List Int)) (pairs : List (List Int)) : Option (Bool) :=
  if (pairs.length : Int) = (p_Nodes.length : Int) then
    (i_isZeroRefusal_l0 p_Labels p_Degree p_Nodes p_Edges pairs 0).bind fun r3_ =>
    match r3_ with
    | .inl q3_ =>
      some false
    | .inr q3_ =>
      some true
  else
    some false
/-- impl.isZeroRefusal -/
def k63_l0b : SC :=
  .seq
    (.ops [
      ⟨(some 16), (Op.binOp BinOp.lss 3 (Operand.tmp 15) (Operand.tmp 14) 3), 0, none⟩])
    (.seq
      (.cond (Operand.tmp 16)
        .skip
        (.exit 0))
      (.seq
        (.block 1
          (.seq
            (.ops [
              ⟨(some 17), (Op.move (Operand.tmp 15)), 3, none⟩,
              ⟨(some 18), (Op.indexAddr 22 (Operand.tmp 13) (Operand.tmp 15)), 0, none⟩,
              ⟨(some 19), (Op.load 32 (Operand.tmp 18)), 32, none⟩,
              ⟨(some 5), (Op.assign (Operand.tmp 17)), 3, none⟩,
              ⟨(some 6), (Op.assign (Operand.tmp 19)), 32, none⟩])
            (.seq
              (.draws [
                (⟨[20, 6, 6], [20, 21, 22, 23, 24, 25, 26, 27, 28, 29, 30, 31, 32, 33, 34, 35, 36, 37, 38, 39, 40, 41, 42, 43, 44, 45, 46, 47, 48, 49, 50, 51, 52, 53, 54, 55, 56], [20]⟩, ⟨(some 20), (Op.move (Operand.tmp 6)), 32, none⟩),
                (⟨[21, 20, 6], [20, 21, 22, 23, 24, 25, 26, 27, 28, 29, 30, 31, 32, 33, 34, 35, 36, 37, 38, 39, 40, 41, 42, 43, 44, 45, 46, 47, 48, 49, 50, 51, 52, 53, 54, 55, 56], [21]⟩, ⟨(some 21), (Op.call { callee := (Callee.builtin Builtin.len), args := #[(Operand.tmp 20)], argTypes := #[32] }), 3, none⟩),
                (⟨[22, 21, 21], [20, 21, 22, 23, 24, 25, 26, 27, 28, 29, 30, 31, 32, 33, 34, 35, 36, 37, 38, 39, 40, 41, 42, 43, 44, 45, 46, 47, 48, 49, 50, 51, 52, 53, 54, 55, 56], [22]⟩, ⟨(some 22), (Op.binOp BinOp.neq 3 (Operand.tmp 21) (Operand.const (Value.int IntKind.i64 2)) 3), 4, none⟩),
                (⟨[23, 22, 22], [20, 21, 22, 23, 24, 25, 26, 27, 28, 29, 30, 31, 32, 33, 34, 35, 36, 37, 38, 39, 40, 41, 42, 43, 44, 45, 46, 47, 48, 49, 50, 51, 52, 53, 54, 55, 56], [23]⟩, ⟨(some 23), (Op.move (Operand.tmp 22)), 4, none⟩),
                (⟨[24, 2, 2, 23], [20, 21, 22, 23, 24, 25, 26, 27, 28, 29, 30, 31, 32, 33, 34, 35, 36, 37, 38, 39, 40, 41, 42, 43, 44, 45, 46, 47, 48, 49, 50, 51, 52, 53, 54, 55, 56], [24]⟩, ⟨(some 24), (Op.fieldAddr 28 (Operand.tmp 2) 2), 0, (some (some 23, false))⟩),
                (⟨[25, 24, 2, 23], [20, 21, 22, 23, 24, 25, 26, 27, 28, 29, 30, 31, 32, 33, 34, 35, 36, 37, 38, 39, 40, 41, 42, 43, 44, 45, 46, 47, 48, 49, 50, 51, 52, 53, 54, 55, 56], [25]⟩, ⟨(some 25), (Op.load 22 (Operand.tmp 24)), 22, (some (some 23, false))⟩),
                (⟨[26, 5, 5, 23], [20, 21, 22, 23, 24, 25, 26, 27, 28, 29, 30, 31, 32, 33, 34, 35, 36, 37, 38, 39, 40, 41, 42, 43, 44, 45, 46, 47, 48, 49, 50, 51, 52, 53, 54, 55, 56], [26]⟩, ⟨(some 26), (Op.move (Operand.tmp 5)), 3, (some (some 23, false))⟩),
                (⟨[27, 25, 26, 2, 5, 23], [20, 21, 22, 23, 24, 25, 26, 27, 28, 29, 30, 31, 32, 33, 34, 35, 36, 37, 38, 39, 40, 41, 42, 43, 44, 45, 46, 47, 48, 49, 50, 51, 52, 53, 54, 55, 56], [27]⟩, ⟨(some 27), (Op.indexAddr 22 (Operand.tmp 25) (Operand.tmp 26)), 0, (some (some 23, false))⟩),
                (⟨[28, 27, 2, 23], [20, 21, 22, 23, 24, 25, 26, 27, 28, 29, 30, 31, 32, 33, 34, 35, 36, 37, 38, 39, 40, 41, 42, 43, 44, 45, 46, 47, 48, 49, 50, 51, 52, 53, 54, 55, 56], [28]⟩, ⟨(some 28), (Op.load 32 (Operand.tmp 27)), 32, (some (some 23, false))⟩),
                (⟨[29, 6, 6, 23], [20, 21, 22, 23, 24, 25, 26, 27, 28, 29, 30, 31, 32, 33, 34, 35, 36, 37, 38, 39, 40, 41, 42, 43, 44, 45, 46, 47, 48, 49, 50, 51, 52, 53, 54, 55, 56], [29]⟩, ⟨(some 29), (Op.move (Operand.tmp 6)), 32, (some (some 23, false))⟩),
                (⟨[30, 29, 6, 23], [20, 21, 22, 23, 24, 25, 26, 27, 28, 29, 30, 31, 32, 33, 34, 35, 36, 37, 38, 39, 40, 41, 42, 43, 44, 45, 46, 47, 48, 49, 50, 51, 52, 53, 54, 55, 56], [30]⟩, ⟨(some 30), (Op.indexAddr 32 (Operand.tmp 29) (Operand.const (Value.int IntKind.i64 0))), 0, (some (some 23, false))⟩),
                (⟨[31, 30, 6, 23], [20, 21, 22, 23, 24, 25, 26, 27, 28, 29, 30, 31, 32, 33, 34, 35, 36, 37, 38, 39, 40, 41, 42, 43, 44, 45, 46, 47, 48, 49, 50, 51, 52, 53, 54, 55, 56], [31]⟩, ⟨(some 31), (Op.load 3 (Operand.tmp 30)), 3, (some (some 23, false))⟩),
                (⟨[32, 28, 31, 2, 6, 23], [20, 21, 22, 23, 24, 25, 26, 27, 28, 29, 30, 31, 32, 33, 34, 35, 36, 37, 38, 39, 40, 41, 42, 43, 44, 45, 46, 47, 48, 49, 50, 51, 52, 53, 54, 55, 56], [32]⟩, ⟨(some 32), (Op.call { callee := (Callee.value (Operand.func 89)), args := #[(Operand.tmp 28), (Operand.tmp 31)], argTypes := #[32, 3] }), 4, (some (some 23, false))⟩),
                (⟨[33, 32, 32, 23], [20, 21, 22, 23, 24, 25, 26, 27, 28, 29, 30, 31, 32, 33, 34, 35, 36, 37, 38, 39, 40, 41, 42, 43, 44, 45, 46, 47, 48, 49, 50, 51, 52, 53, 54, 55, 56], [33]⟩, ⟨(some 33), (Op.unOp UnOp.not 4 (Operand.tmp 32)), 4, (some (some 23, false))⟩),
                (⟨[34, 23, 33, 22, 33], [20, 21, 22, 23, 24, 25, 26, 27, 28, 29, 30, 31, 32, 33, 34, 35, 36, 37, 38, 39, 40, 41, 42, 43, 44, 45, 46, 47, 48, 49, 50, 51, 52, 53, 54, 55, 56], [34]⟩, ⟨(some 34), (Op.pick (Operand.tmp 23) (Operand.const (Value.bool true)) (Operand.tmp 33)), 4, none⟩),
                (⟨[35, 34, 34], [20, 21, 22, 23, 24, 25, 26, 27, 28, 29, 30, 31, 32, 33, 34, 35, 36, 37, 38, 39, 40, 41, 42, 43, 44, 45, 46, 47, 48, 49, 50, 51, 52, 53, 54, 55, 56], [35]⟩, ⟨(some 35), (Op.move (Operand.tmp 34)), 4, none⟩),
                (⟨[36, 2, 2, 35], [20, 21, 22, 23, 24, 25, 26, 27, 28, 29, 30, 31, 32, 33, 34, 35, 36, 37, 38, 39, 40, 41, 42, 43, 44, 45, 46, 47, 48, 49, 50, 51, 52, 53, 54, 55, 56], [36]⟩, ⟨(some 36), (Op.fieldAddr 28 (Operand.tmp 2) 2), 0, (some (some 35, false))⟩),
                (⟨[37, 36, 2, 35], [20, 21, 22, 23, 24, 25, 26, 27, 28, 29, 30, 31, 32, 33, 34, 35, 36, 37, 38, 39, 40, 41, 42, 43, 44, 45, 46, 47, 48, 49, 50, 51, 52, 53, 54, 55, 56], [37]⟩, ⟨(some 37), (Op.load 22 (Operand.tmp 36)), 22, (some (some 35, false))⟩),
                (⟨[38, 5, 5, 35], [20, 21, 22, 23, 24, 25, 26, 27, 28, 29, 30, 31, 32, 33, 34, 35, 36, 37, 38, 39, 40, 41, 42, 43, 44, 45, 46, 47, 48, 49, 50, 51, 52, 53, 54, 55, 56], [38]⟩, ⟨(some 38), (Op.move (Operand.tmp 5)), 3, (some (some 35, false))⟩),
                (⟨[39, 37, 38, 2, 5, 35], [20, 21, 22, 23, 24, 25, 26, 27, 28, 29, 30, 31, 32, 33, 34, 35, 36, 37, 38, 39, 40, 41, 42, 43, 44, 45, 46, 47, 48, 49, 50, 51, 52, 53, 54, 55, 56], [39]⟩, ⟨(some 39), (Op.indexAddr 22 (Operand.tmp 37) (Operand.tmp 38)), 0, (some (some 35, false))⟩),
                (⟨[40, 39, 2, 35], [20, 21, 22, 23, 24, 25, 26, 27, 28, 29, 30, 31, 32, 33, 34, 35, 36, 37, 38, 39, 40, 41, 42, 43, 44, 45, 46, 47, 48, 49, 50, 51, 52, 53, 54, 55, 56], [40]⟩, ⟨(some 40), (Op.load 32 (Operand.tmp 39)), 32, (some (some 35, false))⟩),
                (⟨[41, 6, 6, 35], [20, 21, 22, 23, 24, 25, 26, 27, 28, 29, 30, 31, 32, 33, 34, 35, 36, 37, 38, 39, 40, 41, 42, 43, 44, 45, 46, 47, 48, 49, 50, 51, 52, 53, 54, 55, 56], [41]⟩, ⟨(some 41), (Op.move (Operand.tmp 6)), 32, (some (some 35, false))⟩),
                (⟨[42, 41, 6, 35], [20, 21, 22, 23, 24, 25, 26, 27, 28, 29, 30, 31, 32, 33, 34, 35, 36, 37, 38, 39, 40, 41, 42, 43, 44, 45, 46, 47, 48, 49, 50, 51, 52, 53, 54, 55, 56], [42]⟩, ⟨(some 42), (Op.indexAddr 32 (Operand.tmp 41) (Operand.const (Value.int IntKind.i64 1))), 0, (some (some 35, false))⟩),
                (⟨[43, 42, 6, 35], [20, 21, 22, 23, 24, 25, 26, 27, 28, 29, 30, 31, 32, 33, 34, 35, 36, 37, 38, 39, 40, 41, 42, 43, 44, 45, 46, 47, 48, 49, 50, 51, 52, 53, 54, 55, 56], [43]⟩, ⟨(some 43), (Op.load 3 (Operand.tmp 42)), 3, (some (some 35, false))⟩),
                (⟨[44, 40, 43, 2, 6, 35], [20, 21, 22, 23, 24, 25, 26, 27, 28, 29, 30, 31, 32, 33, 34, 35, 36, 37, 38, 39, 40, 41, 42, 43, 44, 45, 46, 47, 48, 49, 50, 51, 52, 53, 54, 55, 56], [44]⟩, ⟨(some 44), (Op.call { callee := (Callee.value (Operand.func 89)), args := #[(Operand.tmp 40), (Operand.tmp 43)], argTypes := #[32, 3] }), 4, (some (some 35, false))⟩),
                (⟨[45, 44, 44, 35], [20, 21, 22, 23, 24, 25, 26, 27, 28, 29, 30, 31, 32, 33, 34, 35, 36, 37, 38, 39, 40, 41, 42, 43, 44, 45, 46, 47, 48, 49, 50, 51, 52, 53, 54, 55, 56], [45]⟩, ⟨(some 45), (Op.unOp UnOp.not 4 (Operand.tmp 44)), 4, (some (some 35, false))⟩),
                (⟨[46, 35, 45, 34, 45], [20, 21, 22, 23, 24, 25, 26, 27, 28, 29, 30, 31, 32, 33, 34, 35, 36, 37, 38, 39, 40, 41, 42, 43, 44, 45, 46, 47, 48, 49, 50, 51, 52, 53, 54, 55, 56], [46]⟩, ⟨(some 46), (Op.pick (Operand.tmp 35) (Operand.const (Value.bool true)) (Operand.tmp 45)), 4, none⟩),
                (⟨[47, 46, 46], [20, 21, 22, 23, 24, 25, 26, 27, 28, 29, 30, 31, 32, 33, 34, 35, 36, 37, 38, 39, 40, 41, 42, 43, 44, 45, 46, 47, 48, 49, 50, 51, 52, 53, 54, 55, 56], [47]⟩, ⟨(some 47), (Op.move (Operand.tmp 46)), 4, none⟩),
                (⟨[48, 2, 2, 47], [20, 21, 22, 23, 24, 25, 26, 27, 28, 29, 30, 31, 32, 33, 34, 35, 36, 37, 38, 39, 40, 41, 42, 43, 44, 45, 46, 47, 48, 49, 50, 51, 52, 53, 54, 55, 56], [48]⟩, ⟨(some 48), (Op.load 28 (Operand.tmp 2)), 28, (some (some 47, false))⟩),
                (⟨[49, 6, 6, 47], [20, 21, 22, 23, 24, 25, 26, 27, 28, 29, 30, 31, 32, 33, 34, 35, 36, 37, 38, 39, 40, 41, 42, 43, 44, 45, 46, 47, 48, 49, 50, 51, 52, 53, 54, 55, 56], [49]⟩, ⟨(some 49), (Op.move (Operand.tmp 6)), 32, (some (some 47, false))⟩),
                (⟨[50, 49, 6, 47], [20, 21, 22, 23, 24, 25, 26, 27, 28, 29, 30, 31, 32, 33, 34, 35, 36, 37, 38, 39, 40, 41, 42, 43, 44, 45, 46, 47, 48, 49, 50, 51, 52, 53, 54, 55, 56], [50]⟩, ⟨(some 50), (Op.indexAddr 32 (Operand.tmp 49) (Operand.const (Value.int IntKind.i64 0))), 0, (some (some 47, false))⟩),
                (⟨[51, 50, 6, 47], [20, 21, 22, 23, 24, 25, 26, 27, 28, 29, 30, 31, 32, 33, 34, 35, 36, 37, 38, 39, 40, 41, 42, 43, 44, 45, 46, 47, 48, 49, 50, 51, 52, 53, 54, 55, 56], [51]⟩, ⟨(some 51), (Op.load 3 (Operand.tmp 50)), 3, (some (some 47, false))⟩),
                (⟨[52, 6, 6, 47], [20, 21, 22, 23, 24, 25, 26, 27, 28, 29, 30, 31, 32, 33, 34, 35, 36, 37, 38, 39, 40, 41, 42, 43, 44, 45, 46, 47, 48, 49, 50, 51, 52, 53, 54, 55, 56], [52]⟩, ⟨(some 52), (Op.move (Operand.tmp 6)), 32, (some (some 47, false))⟩),
                (⟨[53, 52, 6, 47], [20, 21, 22, 23, 24, 25, 26, 27, 28, 29, 30, 31, 32, 33, 34, 35, 36, 37, 38, 39, 40, 41, 42, 43, 44, 45, 46, 47, 48, 49, 50, 51, 52, 53, 54, 55, 56], [53]⟩, ⟨(some 53), (Op.indexAddr 32 (Operand.tmp 52) (Operand.const (Value.int IntKind.i64 1))), 0, (some (some 47, false))⟩),
                (⟨[54, 53, 6, 47], [20, 21, 22, 23, 24, 25, 26, 27, 28, 29, 30, 31, 32, 33, 34, 35, 36, 37, 38, 39, 40, 41, 42, 43, 44, 45, 46, 47, 48, 49, 50, 51, 52, 53, 54, 55, 56], [54]⟩, ⟨(some 54), (Op.load 3 (Operand.tmp 53)), 3, (some (some 47, false))⟩),
                (⟨[55, 48, 51, 54, 2, 6, 6, 47], [20, 21, 22, 23, 24, 25, 26, 27, 28, 29, 30, 31, 32, 33, 34, 35, 36, 37, 38, 39, 40, 41, 42, 43, 44, 45, 46, 47, 48, 49, 50, 51, 52, 53, 54, 55, 56], [55]⟩, ⟨(some 55), (Op.call { callee := (Callee.value (Operand.func 59)), args := #[(Operand.tmp 48), (Operand.tmp 51), (Operand.tmp 54)], argTypes := #[28, 3, 3] }), 4, (some (some 47, false))⟩),
                (⟨[56, 47, 55, 46, 55], [20, 21, 22, 23, 24, 25, 26, 27, 28, 29, 30, 31, 32, 33, 34, 35, 36, 37, 38, 39, 40, 41, 42, 43, 44, 45, 46, 47, 48, 49, 50, 51, 52, 53, 54, 55, 56], [56]⟩, ⟨(some 56), (Op.pick (Operand.tmp 47) (Operand.const (Value.bool true)) (Operand.tmp 55)), 4, none⟩)])
              (.cond (Operand.tmp 56)
                (.seq
                  (.ops [
                    ⟨(some 4), (Op.assign (Operand.const (Value.bool false))), 4, none⟩])
                  .ret)
                .skip))))
        (.ops [
          ⟨(some 57), (Op.binOp BinOp.add 3 (Operand.tmp 15) (Operand.const (Value.int IntKind.i64 1)) 3), 3, none⟩,
          ⟨(some 15), (Op.move (Operand.tmp 57)), 3, none⟩])))
def k63_l0 : SC := .loop k63_l0b
def k63 : SC :=
  .seq
    (.ops [
      ⟨(some 2), (Op.box 28 (Operand.tmp 0)), 0, none⟩,
      ⟨(some 4), (Op.assign (Operand.const (Value.bool false))), 4, none⟩])
    (.seq
      (.seq
        (.ops [
          ⟨(some 7), (Op.move (Operand.tmp 1)), 22, none⟩,
          ⟨(some 8), (Op.call { callee := (Callee.builtin Builtin.len), args := #[(Operand.tmp 7)], argTypes := #[22] }), 3, none⟩,
          ⟨(some 9), (Op.fieldAddr 28 (Operand.tmp 2) 2), 0, none⟩,
          ⟨(some 10), (Op.load 22 (Operand.tmp 9)), 22, none⟩,
          ⟨(some 11), (Op.call { callee := (Callee.builtin Builtin.len), args := #[(Operand.tmp 10)], argTypes := #[22] }), 3, none⟩,
          ⟨(some 12), (Op.binOp BinOp.neq 3 (Operand.tmp 8) (Operand.tmp 11) 3), 4, none⟩])
        (.cond (Operand.tmp 12)
          (.seq
            (.ops [
              ⟨(some 4), (Op.assign (Operand.const (Value.bool false))), 4, none⟩])
            .ret)
          .skip))
      (.seq
        (.seq
          (.ops [
            ⟨(some 13), (Op.move (Operand.tmp 1)), 22, none⟩,
            ⟨(some 14), (Op.call { callee := (Callee.builtin Builtin.len), args := #[(Operand.tmp 13)], argTypes := #[22] }), 3, none⟩,
            ⟨(some 15), (Op.move (Operand.const (Value.int IntKind.i64 0))), 3, none⟩])
          (.block 0
            k63_l0))
        (.seq
          (.ops [
            ⟨(some 4), (Op.assign (Operand.const (Value.bool true))), 4, none⟩])
          .ret)))
theorem slim63 : Try.f63.body.map (slim lends) = some k63 := by kernel_rfl
theorem ok63 : fnOk Try.f63 2 = true := by kernel_rfl
theorem c63 {a l : List D} {r : D × List D} (h : wpD Y.env k63 (fin tys l.length [ResultVar.tmp 4] r) (entry a l)) (ha : a.length = 2) : Y.call 63 a l = some r :=
  call_slim (Y := Y) rfl Try.func63 (ha ▸ ok63) slim63 h
def i_isZeroRefusal_l0_M (p_Labels : Int) (p_Degree : Int) (p_Nodes : List (List Int)) (p_Edges : List (List Int)) (pairs : List (List Int)) (t15_ : Int) (s : St) : Prop := s.v 2 = D.box [D.int .i64 p_Labels, D.int .i64 p_Degree, D.sl 32 (lst (fun x => D.sl 3 (lst (D.int .i64) x)) p_Nodes), D.sl 32 (lst (fun x => D.sl 3 (lst (D.int .i64) x)) p_Edges)] ∧ s.v 13 = D.sl 32 (lst (fun x => D.sl 3 (lst (D.int .i64) x)) pairs) ∧ s.v 14 = D.int .i64 (pairs.length : Int) ∧ s.v 15 = D.int .i64 t15_
def i_isZeroRefusal_l0_X (p_Labels : Int) (p_Degree : Int) (p_Nodes : List (List Int)) (p_Edges : List (List Int)) (pairs : List (List Int)) (r : Unit ⊕ Unit) (ex : Ex) (s : St) : Prop := match r with
  | .inl q => ex = .ret ∧ s.v 4 = D.bool false
  | .inr q => ex = .exit 0
theorem i_isZeroRefusal_l0_wp (p_Labels : Int) (p_Degree : Int) (p_Nodes : List (List Int)) (p_Edges : List (List Int)) (pairs : List (List Int)) {v : Int} {s : St} {r : Unit ⊕ Unit} (h : i_isZeroRefusal_l0 p_Labels p_Degree p_Nodes p_Edges pairs v = some r) (hM : i_isZeroRefusal_l0_M p_Labels p_Degree p_Nodes p_Edges pairs v s) : wpD Y.env k63_l0 (i_isZeroRefusal_l0_X p_Labels p_Degree p_Nodes p_Edges pairs r) s := by
  unfold i_isZeroRefusal_l0 at h
  refine wd_itO (c := k63_l0b) (fun v => i_isZeroRefusal_l0_S p_Labels p_Degree p_Nodes p_Edges pairs v) (fun v s => i_isZeroRefusal_l0_M p_Labels p_Degree p_Nodes p_Edges pairs v s) (i_isZeroRefusal_l0_X p_Labels p_Degree p_Nodes p_Edges pairs) ?_ h hM
  clear h hM s v r
  intro t15_ s o hM h
  unfold i_isZeroRefusal_l0_S at h
  unfold i_isZeroRefusal_l0_M at hM
  obtain ⟨m0, m1, m2, m3⟩ := hM
  unfold k63_l0b
  by_cases e2 : t15_ < (pairs.length : Int)
  · rw [if_pos e2] at h
    obtain ⟨e3, h⟩ := ckS h
    by_cases e4 : ((pairs.getD t15_.toNat default).length : Int) = 2
    · rw [if_pos e4] at h
      obtain ⟨e5, h⟩ := ckS h
      obtain ⟨e6, h⟩ := ckS h
      obtain ⟨e7, h⟩ := ckS h
      have c8 := g_slices_Contains_Sint_int_cl (p_Nodes.getD t15_.toNat default) ((pairs.getD t15_.toNat default).getD 0 default) e7
      by_cases e9 : ((p_Nodes.getD t15_.toNat default).contains ((pairs.getD t15_.toNat default).getD 0 default)) = true
      · rw [if_pos e9] at h
        obtain ⟨e10, h⟩ := ckS h
        have c11 := g_slices_Contains_Sint_int_cl (p_Nodes.getD t15_.toNat default) ((pairs.getD t15_.toNat default).getD 1 default) e7
        by_cases e12 : ((p_Nodes.getD t15_.toNat default).contains ((pairs.getD t15_.toNat default).getD 1 default)) = true
        · rw [if_pos e12] at h
          obtain ⟨e13, h⟩ := ckS h
          obtain ⟨e14, h⟩ := ckS h
          have c15 := i_Problem_edge_cl p_Labels p_Degree p_Nodes p_Edges ((pairs.getD t15_.toNat default).getD 0 default) ((pairs.getD t15_.toNat default).getD 1 default) e13 e14
          by_cases e16 : (hasE p_Edges ((pairs.getD t15_.toNat default).getD 0 default) ((pairs.getD t15_.toNat default).getD 1 default)) = true
          · rw [if_pos e16] at h
            obtain rfl := Option.some.inj h
            simp (maxDischargeDepth := 9) only [↓xpre, xpost, xlst, xcore, yset, rg0, ↓reduceIte, Nat.reduceEqDiff, Nat.reduceLT, Nat.reduceLeDiff, Nat.reduceAdd, Nat.reduceMul, Nat.reduceMod, Nat.reduceSub, Nat.reduceBEq, Int.reduceLE, Int.reduceLT, Int.reduceEq, Int.reduceSub, Int.reduceAdd, Int.reduceToNat, Int.reduceNeg, m0, m1, m2, m3, e2, e3.1, e3.2, decide_eq_true e4, e5.1, e5.2, e6, e7, c8, e9, e10, c11, e12, e13, e14, c15, e16, i_isZeroRefusal_l0_M, i_isZeroRefusal_l0_X, sxN, sxE, sxR] <;> (repeat' apply And.intro) <;> first | rfl | exact ⟨_, rfl⟩ | simp [lst]
          · rw [if_neg e16] at h
            have e16f : (hasE p_Edges ((pairs.getD t15_.toNat default).getD 0 default) ((pairs.getD t15_.toNat default).getD 1 default)) = false := Bool.eq_false_iff.mpr e16
            obtain rfl := Option.some.inj h
            simp (maxDischargeDepth := 9) only [↓xpre, xpost, xlst, xcore, yset, rg0, ↓reduceIte, Nat.reduceEqDiff, Nat.reduceLT, Nat.reduceLeDiff, Nat.reduceAdd, Nat.reduceMul, Nat.reduceMod, Nat.reduceSub, Nat.reduceBEq, Int.reduceLE, Int.reduceLT, Int.reduceEq, Int.reduceSub, Int.reduceAdd, Int.reduceToNat, Int.reduceNeg, m0, m1, m2, m3, e2, e3.1, e3.2, decide_eq_true e4, e5.1, e5.2, e6, e7, c8, e9, e10, c11, e12, e13, e14, c15, e16f, i_isZeroRefusal_l0_M, i_isZeroRefusal_l0_X, sxN, sxE, sxR] <;> (repeat' apply And.intro) <;> first | rfl | exact ⟨_, rfl⟩ | simp [lst]
        · rw [if_neg e12] at h
          have e12f : ((p_Nodes.getD t15_.toNat default).contains ((pairs.getD t15_.toNat default).getD 1 default)) = false := Bool.eq_false_iff.mpr e12
          obtain rfl := Option.some.inj h
          simp (maxDischargeDepth := 9) only [↓xpre, xpost, xlst, xcore, yset, rg0, ↓reduceIte, Nat.reduceEqDiff, Nat.reduceLT, Nat.reduceLeDiff, Nat.reduceAdd, Nat.reduceMul, Nat.reduceMod, Nat.reduceSub, Nat.reduceBEq, Int.reduceLE, Int.reduceLT, Int.reduceEq, Int.reduceSub, Int.reduceAdd, Int.reduceToNat, Int.reduceNeg, m0, m1, m2, m3, e2, e3.1, e3.2, decide_eq_true e4, e5.1, e5.2, e6, e7, c8, e9, e10, c11, e12f, i_isZeroRefusal_l0_M, i_isZeroRefusal_l0_X, sxN, sxE, sxR] <;> (repeat' apply And.intro) <;> first | rfl | exact ⟨_, rfl⟩ | simp [lst]
      · rw [if_neg e9] at h
        have e9f : ((p_Nodes.getD t15_.toNat default).contains ((pairs.getD t15_.toNat default).getD 0 default)) = false := Bool.eq_false_iff.mpr e9
        obtain rfl := Option.some.inj h
        simp (maxDischargeDepth := 9) only [↓xpre, xpost, xlst, xcore, yset, rg0, ↓reduceIte, Nat.reduceEqDiff, Nat.reduceLT, Nat.reduceLeDiff, Nat.reduceAdd, Nat.reduceMul, Nat.reduceMod, Nat.reduceSub, Nat.reduceBEq, Int.reduceLE, Int.reduceLT, Int.reduceEq, Int.reduceSub, Int.reduceAdd, Int.reduceToNat, Int.reduceNeg, m0, m1, m2, m3, e2, e3.1, e3.2, decide_eq_true e4, e5.1, e5.2, e6, e7, c8, e9f, i_isZeroRefusal_l0_M, i_isZeroRefusal_l0_X, sxN, sxE, sxR] <;> (repeat' apply And.intro) <;> first | rfl | exact ⟨_, rfl⟩ | simp [lst]
    · rw [if_neg e4] at h
      obtain rfl := Option.some.inj h
      simp (maxDischargeDepth := 9) only [↓xpre, xpost, xlst, xcore, yset, rg0, ↓reduceIte, Nat.reduceEqDiff, Nat.reduceLT, Nat.reduceLeDiff, Nat.reduceAdd, Nat.reduceMul, Nat.reduceMod, Nat.reduceSub, Nat.reduceBEq, Int.reduceLE, Int.reduceLT, Int.reduceEq, Int.reduceSub, Int.reduceAdd, Int.reduceToNat, Int.reduceNeg, m0, m1, m2, m3, e2, e3.1, e3.2, e4, i_isZeroRefusal_l0_M, i_isZeroRefusal_l0_X, sxN, sxE, sxR] <;> (repeat' apply And.intro) <;> first | rfl | exact ⟨_, rfl⟩ | simp [lst]
  · rw [if_neg e2] at h
    obtain rfl := Option.some.inj h
    simp (maxDischargeDepth := 9) only [↓xpre, xpost, xlst, xcore, yset, rg0, ↓reduceIte, Nat.reduceEqDiff, Nat.reduceLT, Nat.reduceLeDiff, Nat.reduceAdd, Nat.reduceMul, Nat.reduceMod, Nat.reduceSub, Nat.reduceBEq, Int.reduceLE, Int.reduceLT, Int.reduceEq, Int.reduceSub, Int.reduceAdd, Int.reduceToNat, Int.reduceNeg, m0, m1, m2, m3, e2, i_isZeroRefusal_l0_M, i_isZeroRefusal_l0_X, sxN, sxE, sxR] <;> (repeat' apply And.intro) <;> first | rfl | exact ⟨_, rfl⟩ | simp [lst]
theorem i_isZeroRefusal_call (p_Labels : Int) (p_Degree : Int) (p_Nodes : List (List Int)) (p_Edges : List (List Int)) (pairs : List (List Int)) {r : Bool} (h : i_isZeroRefusal p_Labels p_Degree p_Nodes p_Edges pairs = some r) : Y.call 63 [D.agg [D.int .i64 p_Labels, D.int .i64 p_Degree, D.sl 32 (lst (fun x => D.sl 3 (lst (D.int .i64) x)) p_Nodes), D.sl 32 (lst (fun x => D.sl 3 (lst (D.int .i64) x)) p_Edges)], D.sl 32 (lst (fun x => D.sl 3 (lst (D.int .i64) x)) pairs)] [] = some (D.bool r, []) := by
  refine c63 ?_ rfl
  unfold k63
  unfold i_isZeroRefusal at h
  by_cases e1 : (pairs.length : Int) = (p_Nodes.length : Int)
  · rw [if_pos e1] at h
    obtain ⟨r3_, hl3, h⟩ := bindS h
    try dsimp only at h
    simp (maxDischargeDepth := 9) only [↓xpre, xpost, xlst, xcore, yset, rg0, ↓reduceIte, Nat.reduceEqDiff, Nat.reduceLT, Nat.reduceLeDiff, Nat.reduceAdd, Nat.reduceMul, Nat.reduceMod, Nat.reduceSub, Nat.reduceBEq, Int.reduceLE, Int.reduceLT, Int.reduceEq, Int.reduceSub, Int.reduceAdd, Int.reduceToNat, Int.reduceNeg, decide_eq_true e1]
    refine wd_mono (i_isZeroRefusal_l0_wp p_Labels p_Degree p_Nodes p_Edges pairs hl3 ?_) ?_
    · simp (maxDischargeDepth := 9) only [↓xpre, xpost, xlst, xcore, yset, rg0, ↓reduceIte, Nat.reduceEqDiff, Nat.reduceLT, Nat.reduceLeDiff, Nat.reduceAdd, Nat.reduceMul, Nat.reduceMod, Nat.reduceSub, Nat.reduceBEq, Int.reduceLE, Int.reduceLT, Int.reduceEq, Int.reduceSub, Int.reduceAdd, Int.reduceToNat, Int.reduceNeg, decide_eq_true e1, i_isZeroRefusal_l0_M] <;> (repeat' apply And.intro) <;> first | rfl | exact ⟨_, rfl⟩ | simp [lst]
    · intro ex3 s3 hX3
      rcases r3_ with q3_ | q3_
      · unfold i_isZeroRefusal_l0_X at hX3
        dsimp only at hX3 h
        obtain ⟨rfl, n3_0⟩ := hX3
        obtain rfl := Option.some.inj h
        simp (maxDischargeDepth := 9) only [↓xpre, xpost, xlst, xcore, yset, rg0, ↓reduceIte, Nat.reduceEqDiff, Nat.reduceLT, Nat.reduceLeDiff, Nat.reduceAdd, Nat.reduceMul, Nat.reduceMod, Nat.reduceSub, Nat.reduceBEq, Int.reduceLE, Int.reduceLT, Int.reduceEq, Int.reduceSub, Int.reduceAdd, Int.reduceToNat, Int.reduceNeg, decide_eq_true e1, n3_0] <;> (repeat' apply And.intro) <;> first | rfl | exact ⟨_, rfl⟩ | simp [lst]
      · unfold i_isZeroRefusal_l0_X at hX3
        dsimp only at hX3 h
        obtain rfl := hX3
        obtain rfl := Option.some.inj h
        simp (maxDischargeDepth := 9) only [↓xpre, xpost, xlst, xcore, yset, rg0, ↓reduceIte, Nat.reduceEqDiff, Nat.reduceLT, Nat.reduceLeDiff, Nat.reduceAdd, Nat.reduceMul, Nat.reduceMod, Nat.reduceSub, Nat.reduceBEq, Int.reduceLE, Int.reduceLT, Int.reduceEq, Int.reduceSub, Int.reduceAdd, Int.reduceToNat, Int.reduceNeg, decide_eq_true e1] <;> (repeat' apply And.intro) <;> first | rfl | exact ⟨_, rfl⟩ | simp [lst]
  · rw [if_neg e1] at h
    obtain rfl := Option.some.inj h
    simp (maxDischargeDepth := 9) only [↓xpre, xpost, xlst, xcore, yset, rg0, ↓reduceIte, Nat.reduceEqDiff, Nat.reduceLT, Nat.reduceLeDiff, Nat.reduceAdd, Nat.reduceMul, Nat.reduceMod, Nat.reduceSub, Nat.reduceBEq, Int.reduceLE, Int.reduceLT, Int.reduceEq, Int.reduceSub, Int.reduceAdd, Int.reduceToNat, Int.reduceNeg, e1] <;> (repeat' apply And.intro) <;> first | rfl | exact ⟨_, rfl⟩ | simp [lst]

noncomputable def i_CheckZeroRefusal (p_Labels : Int) (p_Degree : Int) (p_Nodes : List (List Int)) (p_Edges : List (List Int)) (pairs : List (List Int)) : Option (Bool × Bool) :=
  ck (Short p_Nodes) <|
  ck (Short p_Edges) <|
  if (isProb p_Labels p_Degree p_Nodes p_Edges) = true then
    (i_isZeroRefusal p_Labels p_Degree p_Nodes p_Edges pairs).bind fun r5_ =>
    some (r5_, true)
  else
    some (false, false)
/-- impl.CheckZeroRefusal -/
def k29 : SC :=
  .seq
    (.ops [
      ⟨(some 2), (Op.box 28 (Operand.tmp 0)), 0, none⟩,
      ⟨(some 4), (Op.assign (Operand.const (Value.bool false))), 4, none⟩,
      ⟨(some 5), (Op.assign (Operand.const (Value.bool false))), 4, none⟩])
    (.seq
      (.seq
        (.ops [
          ⟨(some 6), (Op.load 28 (Operand.tmp 2)), 28, none⟩,
          ⟨(some 7), (Op.call { callee := (Callee.value (Operand.func 58)), args := #[(Operand.tmp 6)], argTypes := #[28] }), 4, none⟩,
          ⟨(some 8), (Op.unOp UnOp.not 4 (Operand.tmp 7)), 4, none⟩])
        (.cond (Operand.tmp 8)
          (.seq
            (.ops [
              ⟨(some 4), (Op.assign (Operand.const (Value.bool false))), 4, none⟩,
              ⟨(some 5), (Op.assign (Operand.const (Value.bool false))), 4, none⟩])
            .ret)
          .skip))
      (.seq
        (.ops [
          ⟨(some 9), (Op.load 28 (Operand.tmp 2)), 28, none⟩,
          ⟨(some 10), (Op.move (Operand.tmp 1)), 22, none⟩,
          ⟨(some 11), (Op.call { callee := (Callee.value (Operand.func 63)), args := #[(Operand.tmp 9), (Operand.tmp 10)], argTypes := #[28, 22] }), 4, none⟩,
          ⟨(some 4), (Op.assign (Operand.tmp 11)), 4, none⟩,
          ⟨(some 5), (Op.assign (Operand.const (Value.bool true))), 4, none⟩])
        .ret))
theorem slim29 : Try.f29.body.map (slim lends) = some k29 := by kernel_rfl
theorem ok29 : fnOk Try.f29 2 = true := by kernel_rfl
theorem c29 {a l : List D} {r : D × List D} (h : wpD Y.env k29 (fin tys l.length [ResultVar.tmp 4, ResultVar.tmp 5] r) (entry a l)) (ha : a.length = 2) : Y.call 29 a l = some r :=
  call_slim (Y := Y) rfl Try.func29 (ha ▸ ok29) slim29 h
theorem i_CheckZeroRefusal_call (p_Labels : Int) (p_Degree : Int) (p_Nodes : List (List Int)) (p_Edges : List (List Int)) (pairs : List (List Int)) {r : Bool × Bool} (h : i_CheckZeroRefusal p_Labels p_Degree p_Nodes p_Edges pairs = some r) : Y.call 29 [D.agg [D.int .i64 p_Labels, D.int .i64 p_Degree, D.sl 32 (lst (fun x => D.sl 3 (lst (D.int .i64) x)) p_Nodes), D.sl 32 (lst (fun x => D.sl 3 (lst (D.int .i64) x)) p_Edges)], D.sl 32 (lst (fun x => D.sl 3 (lst (D.int .i64) x)) pairs)] [] = some (D.tup [D.bool r.1, D.bool r.2], []) := by
  refine c29 ?_ rfl
  unfold k29
  unfold i_CheckZeroRefusal at h
  obtain ⟨e1, h⟩ := ckS h
  obtain ⟨e2, h⟩ := ckS h
  have c3 := i_IsProblem_cl p_Labels p_Degree p_Nodes p_Edges e1 e2
  by_cases e4 : (isProb p_Labels p_Degree p_Nodes p_Edges) = true
  · rw [if_pos e4] at h
    obtain ⟨r5_, hl5, h⟩ := bindS h
    try dsimp only at h
    have c5 := i_isZeroRefusal_call p_Labels p_Degree p_Nodes p_Edges pairs hl5
    obtain rfl := Option.some.inj h
    simp (maxDischargeDepth := 9) only [↓xpre, xpost, xlst, xcore, yset, rg0, ↓reduceIte, Nat.reduceEqDiff, Nat.reduceLT, Nat.reduceLeDiff, Nat.reduceAdd, Nat.reduceMul, Nat.reduceMod, Nat.reduceSub, Nat.reduceBEq, Int.reduceLE, Int.reduceLT, Int.reduceEq, Int.reduceSub, Int.reduceAdd, Int.reduceToNat, Int.reduceNeg, e1, e2, c3, e4, c5] <;> (repeat' apply And.intro) <;> first | rfl | exact ⟨_, rfl⟩ | simp [lst]
  · rw [if_neg e4] at h
    have e4f : (isProb p_Labels p_Degree p_Nodes p_Edges) = false := Bool.eq_false_iff.mpr e4
    obtain rfl := Option.some.inj h
    simp (maxDischargeDepth := 9) only [↓xpre, xpost, xlst, xcore, yset, rg0, ↓reduceIte, Nat.reduceEqDiff, Nat.reduceLT, Nat.reduceLeDiff, Nat.reduceAdd, Nat.reduceMul, Nat.reduceMod, Nat.reduceSub, Nat.reduceBEq, Int.reduceLE, Int.reduceLT, Int.reduceEq, Int.reduceSub, Int.reduceAdd, Int.reduceToNat, Int.reduceNeg, e1, e2, c3, e4f] <;> (repeat' apply And.intro) <;> first | rfl | exact ⟨_, rfl⟩ | simp [lst]

noncomputable def s_CheckZeroRefusal_l0_S (p_Labels : Int) (p_Degree : Int) (p_Nodes : List (List Int)) (p_Edges : List (List Int)) (pairs : List (List Int)) (t20_ : Int) : Option ((Int) ⊕ (Unit ⊕ Unit)) :=
  if t20_ < (p_Nodes.length : Int) then
    ck (0 ≤ t20_ ∧ t20_.toNat < p_Nodes.length) <|
    ck (0 ≤ t20_ ∧ t20_.toNat < pairs.length) <|
    ck (Short p_Edges) <|
    ck ((p_Nodes.getD t20_.toNat default).length < 1099511627776) <|
    if (twoB p_Edges (pairs.getD t20_.toNat default) (p_Nodes.getD t20_.toNat default) (p_Nodes.getD t20_.toNat default)) = true then
      some (Sum.inl (IntKind.i64.wrap (t20_ + 1)))
    else
      some (Sum.inr (Sum.inl ()))
  else
    some (Sum.inr (Sum.inr ()))
noncomputable def s_CheckZeroRefusal_l0 (p_Labels : Int) (p_Degree : Int) (p_Nodes : List (List Int)) (p_Edges : List (List Int)) (pairs : List (List Int)) (v : Int) : Option (Unit ⊕ Unit) := itO (fun v => s_CheckZeroRefusal_l0_S p_Labels p_Degree p_Nodes p_Edges pairs v) v
noncomputable def s_CheckZeroRefusal (p_Labels : Int) (p_Degree : Int) (p_Nodes : List (List Int)) (p_Edges : List (List Int)) (pairs : List (List Int)) : Option (Bool × Bool) :=
  ck (Short p_Nodes) <|
  ck (Short p_Edges) <|
  if (isProb p_Labels p_Degree p_Nodes p_Edges) = true then
    if (pairs.length : Int) = (p_Nodes.length : Int) then
      (s_CheckZeroRefusal_l0 p_Labels p_Degree p_Nodes p_Edges pairs 0).bind fun r7_ =>
      match r7_ with
      | .inl q7_ =>
        some (false, true)
      | .inr q7_ =>
        some (true, true)
    else
      some (false, true)
  else
    some (false, false)
/-- spec.CheckZeroRefusal -/
def k27_l0b : SC :=
  .seq
    (.ops [
      ⟨(some 21), (Op.binOp BinOp.lss 3 (Operand.tmp 20) (Operand.tmp 19) 3), 0, none⟩])
    (.seq
      (.cond (Operand.tmp 21)
        .skip
        (.exit 0))
      (.seq
        (.block 1
          (.seq
            (.ops [
              ⟨(some 22), (Op.move (Operand.tmp 20)), 3, none⟩,
              ⟨(some 23), (Op.indexAddr 22 (Operand.tmp 18) (Operand.tmp 20)), 0, none⟩,
              ⟨(some 24), (Op.load 32 (Operand.tmp 23)), 32, none⟩,
              ⟨(some 6), (Op.assign (Operand.tmp 22)), 3, none⟩,
              ⟨(some 7), (Op.assign (Operand.tmp 24)), 32, none⟩])
            (.seq
              (.draws [
                (⟨[25, 2, 2], [25, 26, 27, 28, 29, 30, 31, 32, 33], [25]⟩, ⟨(some 25), (Op.load 28 (Operand.tmp 2)), 28, none⟩),
                (⟨[26, 1, 1], [25, 26, 27, 28, 29, 30, 31, 32, 33], [26]⟩, ⟨(some 26), (Op.move (Operand.tmp 1)), 22, none⟩),
                (⟨[27, 6, 6], [25, 26, 27, 28, 29, 30, 31, 32, 33], [27]⟩, ⟨(some 27), (Op.move (Operand.tmp 6)), 3, none⟩),
                (⟨[28, 26, 27, 1, 6], [25, 26, 27, 28, 29, 30, 31, 32, 33], [28]⟩, ⟨(some 28), (Op.indexAddr 22 (Operand.tmp 26) (Operand.tmp 27)), 0, none⟩),
                (⟨[29, 28, 1], [25, 26, 27, 28, 29, 30, 31, 32, 33], [29]⟩, ⟨(some 29), (Op.load 32 (Operand.tmp 28)), 32, none⟩),
                (⟨[30, 7, 7], [25, 26, 27, 28, 29, 30, 31, 32, 33], [30]⟩, ⟨(some 30), (Op.move (Operand.tmp 7)), 32, none⟩),
                (⟨[31, 7, 7], [25, 26, 27, 28, 29, 30, 31, 32, 33], [31]⟩, ⟨(some 31), (Op.move (Operand.tmp 7)), 32, none⟩),
                (⟨[32, 25, 29, 30, 31, 2, 1, 7, 7], [25, 26, 27, 28, 29, 30, 31, 32, 33], [32]⟩, ⟨(some 32), (Op.call { callee := (Callee.value (Operand.func 61)), args := #[(Operand.tmp 25), (Operand.tmp 29), (Operand.tmp 30), (Operand.tmp 31)], argTypes := #[28, 32, 32, 32] }), 4, none⟩),
                (⟨[33, 32, 32], [25, 26, 27, 28, 29, 30, 31, 32, 33], [33]⟩, ⟨(some 33), (Op.unOp UnOp.not 4 (Operand.tmp 32)), 4, none⟩)])
              (.cond (Operand.tmp 33)
                (.seq
                  (.ops [
                    ⟨(some 4), (Op.assign (Operand.const (Value.bool false))), 4, none⟩,
                    ⟨(some 5), (Op.assign (Operand.const (Value.bool true))), 4, none⟩])
                  .ret)
                .skip))))
        (.ops [
          ⟨(some 34), (Op.binOp BinOp.add 3 (Operand.tmp 20) (Operand.const (Value.int IntKind.i64 1)) 3), 3, none⟩,
          ⟨(some 20), (Op.move (Operand.tmp 34)), 3, none⟩])))
def k27_l0 : SC := .loop k27_l0b
def k27 : SC :=
  .seq
    (.ops [
      ⟨(some 2), (Op.box 28 (Operand.tmp 0)), 0, none⟩,
      ⟨(some 4), (Op.assign (Operand.const (Value.bool false))), 4, none⟩,
      ⟨(some 5), (Op.assign (Operand.const (Value.bool false))), 4, none⟩])
    (.seq
      (.seq
        (.ops [
          ⟨(some 8), (Op.load 28 (Operand.tmp 2)), 28, none⟩,
          ⟨(some 9), (Op.call { callee := (Callee.value (Operand.func 56)), args := #[(Operand.tmp 8)], argTypes := #[28] }), 4, none⟩,
          ⟨(some 10), (Op.unOp UnOp.not 4 (Operand.tmp 9)), 4, none⟩])
        (.cond (Operand.tmp 10)
          (.seq
            (.ops [
              ⟨(some 4), (Op.assign (Operand.const (Value.bool false))), 4, none⟩,
              ⟨(some 5), (Op.assign (Operand.const (Value.bool false))), 4, none⟩])
            .ret)
          .skip))
      (.seq
        (.seq
          (.ops [
            ⟨(some 11), (Op.move (Operand.tmp 1)), 22, none⟩,
            ⟨(some 12), (Op.call { callee := (Callee.builtin Builtin.len), args := #[(Operand.tmp 11)], argTypes := #[22] }), 3, none⟩,
            ⟨(some 13), (Op.fieldAddr 28 (Operand.tmp 2) 2), 0, none⟩,
            ⟨(some 14), (Op.load 22 (Operand.tmp 13)), 22, none⟩,
            ⟨(some 15), (Op.call { callee := (Callee.builtin Builtin.len), args := #[(Operand.tmp 14)], argTypes := #[22] }), 3, none⟩,
            ⟨(some 16), (Op.binOp BinOp.neq 3 (Operand.tmp 12) (Operand.tmp 15) 3), 4, none⟩])
          (.cond (Operand.tmp 16)
            (.seq
              (.ops [
                ⟨(some 4), (Op.assign (Operand.const (Value.bool false))), 4, none⟩,
                ⟨(some 5), (Op.assign (Operand.const (Value.bool true))), 4, none⟩])
              .ret)
            .skip))
        (.seq
          (.seq
            (.ops [
              ⟨(some 17), (Op.fieldAddr 28 (Operand.tmp 2) 2), 0, none⟩,
              ⟨(some 18), (Op.load 22 (Operand.tmp 17)), 22, none⟩,
              ⟨(some 19), (Op.call { callee := (Callee.builtin Builtin.len), args := #[(Operand.tmp 18)], argTypes := #[22] }), 3, none⟩,
              ⟨(some 20), (Op.move (Operand.const (Value.int IntKind.i64 0))), 3, none⟩])
            (.block 0
              k27_l0))
          (.seq
            (.ops [
              ⟨(some 4), (Op.assign (Operand.const (Value.bool true))), 4, none⟩,
              ⟨(some 5), (Op.assign (Operand.const (Value.bool true))), 4, none⟩])
            .ret))))
theorem slim27 : Try.f27.body.map (slim lends) = some k27 := by kernel_rfl
theorem ok27 : fnOk Try.f27 2 = true := by kernel_rfl
theorem c27 {a l : List D} {r : D × List D} (h : wpD Y.env k27 (fin tys l.length [ResultVar.tmp 4, ResultVar.tmp 5] r) (entry a l)) (ha : a.length = 2) : Y.call 27 a l = some r :=
  call_slim (Y := Y) rfl Try.func27 (ha ▸ ok27) slim27 h
def s_CheckZeroRefusal_l0_M (p_Labels : Int) (p_Degree : Int) (p_Nodes : List (List Int)) (p_Edges : List (List Int)) (pairs : List (List Int)) (t20_ : Int) (s : St) : Prop := s.v 1 = D.sl 32 (lst (fun x => D.sl 3 (lst (D.int .i64) x)) pairs) ∧ s.v 2 = D.box [D.int .i64 p_Labels, D.int .i64 p_Degree, D.sl 32 (lst (fun x => D.sl 3 (lst (D.int .i64) x)) p_Nodes), D.sl 32 (lst (fun x => D.sl 3 (lst (D.int .i64) x)) p_Edges)] ∧ s.v 18 = D.sl 32 (lst (fun x => D.sl 3 (lst (D.int .i64) x)) p_Nodes) ∧ s.v 19 = D.int .i64 (p_Nodes.length : Int) ∧ s.v 20 = D.int .i64 t20_
def s_CheckZeroRefusal_l0_X (p_Labels : Int) (p_Degree : Int) (p_Nodes : List (List Int)) (p_Edges : List (List Int)) (pairs : List (List Int)) (r : Unit ⊕ Unit) (ex : Ex) (s : St) : Prop := match r with
  | .inl q => ex = .ret ∧ s.v 4 = D.bool false ∧ s.v 5 = D.bool true
  | .inr q => ex = .exit 0
theorem s_CheckZeroRefusal_l0_wp (p_Labels : Int) (p_Degree : Int) (p_Nodes : List (List Int)) (p_Edges : List (List Int)) (pairs : List (List Int)) {v : Int} {s : St} {r : Unit ⊕ Unit} (h : s_CheckZeroRefusal_l0 p_Labels p_Degree p_Nodes p_Edges pairs v = some r) (hM : s_CheckZeroRefusal_l0_M p_Labels p_Degree p_Nodes p_Edges pairs v s) : wpD Y.env k27_l0 (s_CheckZeroRefusal_l0_X p_Labels p_Degree p_Nodes p_Edges pairs r) s := by
  unfold s_CheckZeroRefusal_l0 at h
  refine wd_itO (c := k27_l0b) (fun v => s_CheckZeroRefusal_l0_S p_Labels p_Degree p_Nodes p_Edges pairs v) (fun v s => s_CheckZeroRefusal_l0_M p_Labels p_Degree p_Nodes p_Edges pairs v s) (s_CheckZeroRefusal_l0_X p_Labels p_Degree p_Nodes p_Edges pairs) ?_ h hM
  clear h hM s v r
  intro t20_ s o hM h
  unfold s_CheckZeroRefusal_l0_S at h
  unfold s_CheckZeroRefusal_l0_M at hM
  obtain ⟨m0, m1, m2, m3, m4⟩ := hM
  unfold k27_l0b
  by_cases e6 : t20_ < (p_Nodes.length : Int)
  · rw [if_pos e6] at h
    obtain ⟨e7, h⟩ := ckS h
    obtain ⟨e8, h⟩ := ckS h
    obtain ⟨e9, h⟩ := ckS h
    obtain ⟨e10, h⟩ := ckS h
    have c11 := s_zeTwo_cl p_Labels p_Degree p_Nodes p_Edges (pairs.getD t20_.toNat default) (p_Nodes.getD t20_.toNat default) (p_Nodes.getD t20_.toNat default) e9 e10 e10
    by_cases e12 : (twoB p_Edges (pairs.getD t20_.toNat default) (p_Nodes.getD t20_.toNat default) (p_Nodes.getD t20_.toNat default)) = true
    · rw [if_pos e12] at h
      obtain rfl := Option.some.inj h
      simp (maxDischargeDepth := 9) only [↓xpre, xpost, xlst, xcore, yset, rg0, ↓reduceIte, Nat.reduceEqDiff, Nat.reduceLT, Nat.reduceLeDiff, Nat.reduceAdd, Nat.reduceMul, Nat.reduceMod, Nat.reduceSub, Nat.reduceBEq, Int.reduceLE, Int.reduceLT, Int.reduceEq, Int.reduceSub, Int.reduceAdd, Int.reduceToNat, Int.reduceNeg, m0, m1, m2, m3, m4, e6, e7.1, e7.2, e8.1, e8.2, e9, e10, c11, e12, s_CheckZeroRefusal_l0_M, s_CheckZeroRefusal_l0_X, sxN, sxE, sxR] <;> (repeat' apply And.intro) <;> first | rfl | exact ⟨_, rfl⟩ | simp [lst]
    · rw [if_neg e12] at h
      have e12f : (twoB p_Edges (pairs.getD t20_.toNat default) (p_Nodes.getD t20_.toNat default) (p_Nodes.getD t20_.toNat default)) = false := Bool.eq_false_iff.mpr e12
      obtain rfl := Option.some.inj h
      simp (maxDischargeDepth := 9) only [↓xpre, xpost, xlst, xcore, yset, rg0, ↓reduceIte, Nat.reduceEqDiff, Nat.reduceLT, Nat.reduceLeDiff, Nat.reduceAdd, Nat.reduceMul, Nat.reduceMod, Nat.reduceSub, Nat.reduceBEq, Int.reduceLE, Int.reduceLT, Int.reduceEq, Int.reduceSub, Int.reduceAdd, Int.reduceToNat, Int.reduceNeg, m0, m1, m2, m3, m4, e6, e7.1, e7.2, e8.1, e8.2, e9, e10, c11, e12f, s_CheckZeroRefusal_l0_M, s_CheckZeroRefusal_l0_X, sxN, sxE, sxR] <;> (repeat' apply And.intro) <;> first | rfl | exact ⟨_, rfl⟩ | simp [lst]
  · rw [if_neg e6] at h
    obtain rfl := Option.some.inj h
    simp (maxDischargeDepth := 9) only [↓xpre, xpost, xlst, xcore, yset, rg0, ↓reduceIte, Nat.reduceEqDiff, Nat.reduceLT, Nat.reduceLeDiff, Nat.reduceAdd, Nat.reduceMul, Nat.reduceMod, Nat.reduceSub, Nat.reduceBEq, Int.reduceLE, Int.reduceLT, Int.reduceEq, Int.reduceSub, Int.reduceAdd, Int.reduceToNat, Int.reduceNeg, m0, m1, m2, m3, m4, e6, s_CheckZeroRefusal_l0_M, s_CheckZeroRefusal_l0_X, sxN, sxE, sxR] <;> (repeat' apply And.intro) <;> first | rfl | exact ⟨_, rfl⟩ | simp [lst]
theorem s_CheckZeroRefusal_call (p_Labels : Int) (p_Degree : Int) (p_Nodes : List (List Int)) (p_Edges : List (List Int)) (pairs : List (List Int)) {r : Bool × Bool} (h : s_CheckZeroRefusal p_Labels p_Degree p_Nodes p_Edges pairs = some r) : Y.call 27 [D.agg [D.int .i64 p_Labels, D.int .i64 p_Degree, D.sl 32 (lst (fun x => D.sl 3 (lst (D.int .i64) x)) p_Nodes), D.sl 32 (lst (fun x => D.sl 3 (lst (D.int .i64) x)) p_Edges)], D.sl 32 (lst (fun x => D.sl 3 (lst (D.int .i64) x)) pairs)] [] = some (D.tup [D.bool r.1, D.bool r.2], []) := by
  refine c27 ?_ rfl
  unfold k27
  unfold s_CheckZeroRefusal at h
  obtain ⟨e1, h⟩ := ckS h
  obtain ⟨e2, h⟩ := ckS h
  have c3 := s_prGood_cl p_Labels p_Degree p_Nodes p_Edges e1 e2
  by_cases e4 : (isProb p_Labels p_Degree p_Nodes p_Edges) = true
  · rw [if_pos e4] at h
    by_cases e5 : (pairs.length : Int) = (p_Nodes.length : Int)
    · rw [if_pos e5] at h
      obtain ⟨r7_, hl7, h⟩ := bindS h
      try dsimp only at h
      simp (maxDischargeDepth := 9) only [↓xpre, xpost, xlst, xcore, yset, rg0, ↓reduceIte, Nat.reduceEqDiff, Nat.reduceLT, Nat.reduceLeDiff, Nat.reduceAdd, Nat.reduceMul, Nat.reduceMod, Nat.reduceSub, Nat.reduceBEq, Int.reduceLE, Int.reduceLT, Int.reduceEq, Int.reduceSub, Int.reduceAdd, Int.reduceToNat, Int.reduceNeg, e1, e2, c3, e4, decide_eq_true e5]
      refine wd_mono (s_CheckZeroRefusal_l0_wp p_Labels p_Degree p_Nodes p_Edges pairs hl7 ?_) ?_
      · simp (maxDischargeDepth := 9) only [↓xpre, xpost, xlst, xcore, yset, rg0, ↓reduceIte, Nat.reduceEqDiff, Nat.reduceLT, Nat.reduceLeDiff, Nat.reduceAdd, Nat.reduceMul, Nat.reduceMod, Nat.reduceSub, Nat.reduceBEq, Int.reduceLE, Int.reduceLT, Int.reduceEq, Int.reduceSub, Int.reduceAdd, Int.reduceToNat, Int.reduceNeg, e1, e2, c3, e4, decide_eq_true e5, s_CheckZeroRefusal_l0_M] <;> (repeat' apply And.intro) <;> first | rfl | exact ⟨_, rfl⟩ | simp [lst]
      · intro ex7 s7 hX7
        rcases r7_ with q7_ | q7_
        · unfold s_CheckZeroRefusal_l0_X at hX7
          dsimp only at hX7 h
          obtain ⟨rfl, n7_0, n7_1⟩ := hX7
          obtain rfl := Option.some.inj h
          simp (maxDischargeDepth := 9) only [↓xpre, xpost, xlst, xcore, yset, rg0, ↓reduceIte, Nat.reduceEqDiff, Nat.reduceLT, Nat.reduceLeDiff, Nat.reduceAdd, Nat.reduceMul, Nat.reduceMod, Nat.reduceSub, Nat.reduceBEq, Int.reduceLE, Int.reduceLT, Int.reduceEq, Int.reduceSub, Int.reduceAdd, Int.reduceToNat, Int.reduceNeg, e1, e2, c3, e4, decide_eq_true e5, n7_0, n7_1] <;> (repeat' apply And.intro) <;> first | rfl | exact ⟨_, rfl⟩ | simp [lst]
        · unfold s_CheckZeroRefusal_l0_X at hX7
          dsimp only at hX7 h
          obtain rfl := hX7
          obtain rfl := Option.some.inj h
          simp (maxDischargeDepth := 9) only [↓xpre, xpost, xlst, xcore, yset, rg0, ↓reduceIte, Nat.reduceEqDiff, Nat.reduceLT, Nat.reduceLeDiff, Nat.reduceAdd, Nat.reduceMul, Nat.reduceMod, Nat.reduceSub, Nat.reduceBEq, Int.reduceLE, Int.reduceLT, Int.reduceEq, Int.reduceSub, Int.reduceAdd, Int.reduceToNat, Int.reduceNeg, e1, e2, c3, e4, decide_eq_true e5] <;> (repeat' apply And.intro) <;> first | rfl | exact ⟨_, rfl⟩ | simp [lst]
    · rw [if_neg e5] at h
      obtain rfl := Option.some.inj h
      simp (maxDischargeDepth := 9) only [↓xpre, xpost, xlst, xcore, yset, rg0, ↓reduceIte, Nat.reduceEqDiff, Nat.reduceLT, Nat.reduceLeDiff, Nat.reduceAdd, Nat.reduceMul, Nat.reduceMod, Nat.reduceSub, Nat.reduceBEq, Int.reduceLE, Int.reduceLT, Int.reduceEq, Int.reduceSub, Int.reduceAdd, Int.reduceToNat, Int.reduceNeg, e1, e2, c3, e4, e5] <;> (repeat' apply And.intro) <;> first | rfl | exact ⟨_, rfl⟩ | simp [lst]
  · rw [if_neg e4] at h
    have e4f : (isProb p_Labels p_Degree p_Nodes p_Edges) = false := Bool.eq_false_iff.mpr e4
    obtain rfl := Option.some.inj h
    simp (maxDischargeDepth := 9) only [↓xpre, xpost, xlst, xcore, yset, rg0, ↓reduceIte, Nat.reduceEqDiff, Nat.reduceLT, Nat.reduceLeDiff, Nat.reduceAdd, Nat.reduceMul, Nat.reduceMod, Nat.reduceSub, Nat.reduceBEq, Int.reduceLE, Int.reduceLT, Int.reduceEq, Int.reduceSub, Int.reduceAdd, Int.reduceToNat, Int.reduceNeg, e1, e2, c3, e4f] <;> (repeat' apply And.intro) <;> first | rfl | exact ⟨_, rfl⟩ | simp [lst]

end Go.Proofs.Ytjlphfbpaejicaa
