/- The labels of a set. Conditions: the set is small. -/
import Derived.Test.YthaimoghceamnaaSets
namespace Go.Proofs.Ythaimoghceamnaa
open Go Dv
set_option linter.unusedSimpArgs false
set_option linter.unusedVariables false
set_option maxRecDepth 100000

/-- spec.elHas -/
def k76 : SC :=
  .seq
    (.ops [
      ⟨(some 4), (Op.assign (Operand.const (Value.bool false))), 4, none⟩])
    (.seq
      (.ops [
        ⟨(some 5), (Op.move (Operand.tmp 0)), 3, none⟩,
        ⟨(some 6), (Op.move (Operand.tmp 1)), 3, none⟩,
        ⟨(some 7), (Op.binOp BinOp.shr 3 (Operand.tmp 5) (Operand.tmp 6) 3), 3, none⟩,
        ⟨(some 8), (Op.binOp BinOp.rem 3 (Operand.tmp 7) (Operand.const (Value.int IntKind.i64 2)) 3), 3, none⟩,
        ⟨(some 9), (Op.binOp BinOp.eql 3 (Operand.tmp 8) (Operand.const (Value.int IntKind.i64 1)) 3), 4, none⟩,
        ⟨(some 4), (Op.assign (Operand.tmp 9)), 4, none⟩])
      .ret)
theorem slim76 : Try.f76.body.map (slim lends) = some k76 := by kernel_rfl
theorem ok76 : fnOk Try.f76 2 = true := by kernel_rfl
theorem c76 {a l : List D} {r : D × List D} (h : wpD Y.env k76 (fin tys l.length [ResultVar.tmp 4] r) (entry a l)) (ha : a.length = 2) : Y.call 76 a l = some r :=
  call_slim (Y := Y) rfl Try.func76 (ha ▸ ok76) slim76 h

/-- spec.elLabels -/
def k51 : SC :=
  .seq
    (.ops [
      ⟨(some 2), (Op.assign (Operand.const (Value.slice none 0 0))), 25, none⟩])
    (.seq
      (.ops [
        ⟨(some 3), (Op.assign (Operand.const (Value.slice none 0 0))), 25, none⟩])
      (.seq
        (.seq
          (.ops [
            ⟨(some 4), (Op.assign (Operand.const (Value.int IntKind.i64 0))), 3, none⟩])
          (.block 0
            (.loop
              (.seq
                (.seq
                  (.ops [
                    ⟨(some 5), (Op.move (Operand.tmp 4)), 3, none⟩,
                    ⟨(some 6), (Op.binOp BinOp.lss 3 (Operand.tmp 5) (Operand.const (Value.int IntKind.i64 8)) 3), 4, none⟩])
                  (.cond (Operand.tmp 6)
                    .skip
                    (.exit 0)))
                (.seq
                  (.block 1
                    (.seq
                      (.ops [
                        ⟨(some 9), (Op.move (Operand.tmp 0)), 3, none⟩,
                        ⟨(some 10), (Op.move (Operand.tmp 4)), 3, none⟩,
                        ⟨(some 11), (Op.call { callee := (Callee.value (Operand.func 76)), args := #[(Operand.tmp 9), (Operand.tmp 10)], argTypes := #[3, 3] }), 4, none⟩])
                      (.cond (Operand.tmp 11)
                        (.ops [
                          ⟨(some 12), (Op.move (Operand.tmp 3)), 25, none⟩,
                          ⟨(some 13), (Op.move (Operand.tmp 4)), 3, none⟩,
                          ⟨(some 14), (Op.buildSlice 25 1 #[(0, (Operand.tmp 13))]), 25, none⟩,
                          ⟨(some 15), (Op.call { callee := (Callee.builtin Builtin.append), args := #[(Operand.tmp 12), (Operand.tmp 14)], argTypes := #[25, 25] }), 25, none⟩,
                          ⟨(some 3), (Op.assign (Operand.tmp 15)), 25, none⟩])
                        .skip)))
                  (.ops [
                    ⟨(some 7), (Op.move (Operand.tmp 4)), 3, none⟩,
                    ⟨(some 8), (Op.binOp BinOp.add 3 (Operand.tmp 7) (Operand.const (Value.int IntKind.i64 1)) 3), 3, none⟩,
                    ⟨(some 4), (Op.assign (Operand.tmp 8)), 3, none⟩]))))))
        (.seq
          (.ops [
            ⟨(some 16), (Op.move (Operand.tmp 3)), 25, none⟩,
            ⟨(some 2), (Op.assign (Operand.tmp 16)), 25, none⟩])
          .ret)))
theorem slim51 : Try.f51.body.map (slim lends) = some k51 := by kernel_rfl
theorem ok51 : fnOk Try.f51 1 = true := by kernel_rfl
theorem c51 {a l : List D} {r : D × List D} (h : wpD Y.env k51 (fin tys l.length [ResultVar.tmp 2] r) (entry a l)) (ha : a.length = 1) : Y.call 51 a l = some r :=
  call_slim (Y := Y) rfl Try.func51 (ha ▸ ok51) slim51 h

/-- impl.labelsIn -/
def k53 : SC :=
  .seq
    (.ops [
      ⟨(some 2), (Op.assign (Operand.const (Value.slice none 0 0))), 25, none⟩])
    (.seq
      (.ops [
        ⟨(some 3), (Op.assign (Operand.const (Value.slice none 0 0))), 25, none⟩])
      (.seq
        (.seq
          (.ops [
            ⟨(some 4), (Op.assign (Operand.const (Value.int IntKind.i64 0))), 3, none⟩])
          (.block 0
            (.loop
              (.seq
                (.seq
                  (.ops [
                    ⟨(some 5), (Op.move (Operand.tmp 0)), 3, none⟩,
                    ⟨(some 6), (Op.move (Operand.tmp 4)), 3, none⟩,
                    ⟨(some 7), (Op.binOp BinOp.shr 3 (Operand.tmp 5) (Operand.tmp 6) 3), 3, none⟩,
                    ⟨(some 8), (Op.binOp BinOp.neq 3 (Operand.tmp 7) (Operand.const (Value.int IntKind.i64 0)) 3), 4, none⟩])
                  (.cond (Operand.tmp 8)
                    .skip
                    (.exit 0)))
                (.seq
                  (.block 1
                    (.seq
                      (.ops [
                        ⟨(some 11), (Op.move (Operand.tmp 0)), 3, none⟩,
                        ⟨(some 12), (Op.move (Operand.tmp 4)), 3, none⟩,
                        ⟨(some 13), (Op.binOp BinOp.shr 3 (Operand.tmp 11) (Operand.tmp 12) 3), 3, none⟩,
                        ⟨(some 14), (Op.binOp BinOp.and 3 (Operand.tmp 13) (Operand.const (Value.int IntKind.i64 1)) 3), 3, none⟩,
                        ⟨(some 15), (Op.binOp BinOp.eql 3 (Operand.tmp 14) (Operand.const (Value.int IntKind.i64 1)) 3), 4, none⟩])
                      (.cond (Operand.tmp 15)
                        (.ops [
                          ⟨(some 16), (Op.move (Operand.tmp 3)), 25, none⟩,
                          ⟨(some 17), (Op.move (Operand.tmp 4)), 3, none⟩,
                          ⟨(some 18), (Op.buildSlice 25 1 #[(0, (Operand.tmp 17))]), 25, none⟩,
                          ⟨(some 19), (Op.call { callee := (Callee.builtin Builtin.append), args := #[(Operand.tmp 16), (Operand.tmp 18)], argTypes := #[25, 25] }), 25, none⟩,
                          ⟨(some 3), (Op.assign (Operand.tmp 19)), 25, none⟩])
                        .skip)))
                  (.ops [
                    ⟨(some 9), (Op.move (Operand.tmp 4)), 3, none⟩,
                    ⟨(some 10), (Op.binOp BinOp.add 3 (Operand.tmp 9) (Operand.const (Value.int IntKind.i64 1)) 3), 3, none⟩,
                    ⟨(some 4), (Op.assign (Operand.tmp 10)), 3, none⟩]))))))
        (.seq
          (.ops [
            ⟨(some 20), (Op.move (Operand.tmp 3)), 25, none⟩,
            ⟨(some 2), (Op.assign (Operand.tmp 20)), 25, none⟩])
          .ret)))
theorem slim53 : Try.f53.body.map (slim lends) = some k53 := by kernel_rfl
theorem ok53 : fnOk Try.f53 1 = true := by kernel_rfl
theorem c53 {a l : List D} {r : D × List D} (h : wpD Y.env k53 (fin tys l.length [ResultVar.tmp 2] r) (entry a l)) (ha : a.length = 1) : Y.call 53 a l = some r :=
  call_slim (Y := Y) rfl Try.func53 (ha ▸ ok53) slim53 h

/-- spec.LabelsOfSet -/
def k20 : SC :=
  .seq
    (.ops [
      ⟨(some 2), (Op.assign (Operand.const (Value.slice none 0 0))), 25, none⟩,
      ⟨(some 3), (Op.assign (Operand.const (Value.bool false))), 4, none⟩])
    (.seq
      (.seq
        (.ops [
          ⟨(some 4), (Op.move (Operand.tmp 0)), 3, none⟩,
          ⟨(some 5), (Op.call { callee := (Callee.value (Operand.func 50)), args := #[(Operand.tmp 4), (Operand.const (Value.int IntKind.i64 0)), (Operand.const (Value.int IntKind.i64 255))], argTypes := #[3, 3, 3] }), 4, none⟩,
          ⟨(some 6), (Op.unOp UnOp.not 4 (Operand.tmp 5)), 4, none⟩])
        (.cond (Operand.tmp 6)
          (.seq
            (.ops [
              ⟨(some 2), (Op.assign (Operand.const (Value.slice none 0 0))), 25, none⟩,
              ⟨(some 3), (Op.assign (Operand.const (Value.bool false))), 4, none⟩])
            .ret)
          .skip))
      (.seq
        (.ops [
          ⟨(some 7), (Op.move (Operand.tmp 0)), 3, none⟩,
          ⟨(some 8), (Op.call { callee := (Callee.value (Operand.func 51)), args := #[(Operand.tmp 7)], argTypes := #[3] }), 25, none⟩,
          ⟨(some 2), (Op.assign (Operand.tmp 8)), 25, none⟩,
          ⟨(some 3), (Op.assign (Operand.const (Value.bool true))), 4, none⟩])
        .ret))
theorem slim20 : Try.f20.body.map (slim lends) = some k20 := by kernel_rfl
theorem ok20 : fnOk Try.f20 1 = true := by kernel_rfl
theorem c20 {a l : List D} {r : D × List D} (h : wpD Y.env k20 (fin tys l.length [ResultVar.tmp 2, ResultVar.tmp 3] r) (entry a l)) (ha : a.length = 1) : Y.call 20 a l = some r :=
  call_slim (Y := Y) rfl Try.func20 (ha ▸ ok20) slim20 h

/-- impl.LabelsOfSet -/
def k21 : SC :=
  .seq
    (.ops [
      ⟨(some 2), (Op.assign (Operand.const (Value.slice none 0 0))), 25, none⟩,
      ⟨(some 3), (Op.assign (Operand.const (Value.bool false))), 4, none⟩])
    (.seq
      (.seq
        (.ops [
          ⟨(some 4), (Op.move (Operand.tmp 0)), 3, none⟩,
          ⟨(some 5), (Op.call { callee := (Callee.value (Operand.func 52)), args := #[(Operand.tmp 4), (Operand.const (Value.int IntKind.i64 0)), (Operand.const (Value.int IntKind.i64 255))], argTypes := #[3, 3, 3] }), 4, none⟩,
          ⟨(some 6), (Op.unOp UnOp.not 4 (Operand.tmp 5)), 4, none⟩])
        (.cond (Operand.tmp 6)
          (.seq
            (.ops [
              ⟨(some 2), (Op.assign (Operand.const (Value.slice none 0 0))), 25, none⟩,
              ⟨(some 3), (Op.assign (Operand.const (Value.bool false))), 4, none⟩])
            .ret)
          .skip))
      (.seq
        (.ops [
          ⟨(some 7), (Op.move (Operand.tmp 0)), 3, none⟩,
          ⟨(some 8), (Op.call { callee := (Callee.value (Operand.func 53)), args := #[(Operand.tmp 7)], argTypes := #[3] }), 25, none⟩,
          ⟨(some 2), (Op.assign (Operand.tmp 8)), 25, none⟩,
          ⟨(some 3), (Op.assign (Operand.const (Value.bool true))), 4, none⟩])
        .ret))
theorem slim21 : Try.f21.body.map (slim lends) = some k21 := by kernel_rfl
theorem ok21 : fnOk Try.f21 1 = true := by kernel_rfl
theorem c21 {a l : List D} {r : D × List D} (h : wpD Y.env k21 (fin tys l.length [ResultVar.tmp 2, ResultVar.tmp 3] r) (entry a l)) (ha : a.length = 1) : Y.call 21 a l = some r :=
  call_slim (Y := Y) rfl Try.func21 (ha ▸ ok21) slim21 h

def hasLab (set : Int) (a : Nat) : Bool := decide (set / 2 ^ a % 2 = 1)
theorem shr_small (set : Int) (a : Nat) (ha : a ≤ 64) : set.fdiv (2 ^ (min a IntKind.i64.bits)) = set / 2 ^ a := by
  have : min a IntKind.i64.bits = a := by show min a 64 = a; omega
  rw [this, Int.fdiv_eq_ediv_of_nonneg _ (Int.pow_nonneg (by decide))]
theorem div_nonneg' (set : Int) (a : Nat) (h : 0 ≤ set) : 0 ≤ set / 2 ^ a := Int.ediv_nonneg h (Int.pow_nonneg (by decide))
theorem elHas_eq (set : Int) (a : Nat) (h : 0 ≤ set) (ha : a ≤ 64) : Y.call 76 [.int .i64 set, .int .i64 a] [] = some (.bool (hasLab set a), []) := by
  refine c76 ?_ rfl
  unfold k76
  have e1 : ¬ (a : Int) < 0 := by omega
  have e2 : (set / 2 ^ a).tmod 2 = set / 2 ^ a % 2 := Int.tmod_eq_emod_of_nonneg (div_nonneg' set a h)
  simp only [↓xpre, xpost, yset, Option.bind_some, Option.map_some, Option.isSome_some, reduceIte, Nat.reduceEqDiff, Nat.reduceLT, Nat.reduceLeDiff, Nat.reduceAdd, Nat.reduceMul, Nat.reduceMod, Nat.reduceSub, List.contains_cons, List.contains_nil, Nat.reduceBEq, List.getD_cons_zero, List.getD_cons_succ, List.getD_nil, List.length_cons, List.length_nil, List.size_toArray, List.toList_toArray, List.zip_cons_cons, List.zip_nil_left, List.append_nil, List.nil_append, List.cons_append, List.map_cons, List.map_nil, List.replicate_succ, List.replicate_zero, List.set_cons_zero, List.set_cons_succ, List.all_cons, List.all_nil, List.getElem?_cons_zero, List.getElem?_cons_succ, List.getElem?_nil, List.range_zero, beq_self_eq_true, Int.reduceLE, Int.reduceLT, Int.reduceEq, Int.reduceSub, Int.reduceAdd, Int.reduceToNat, Int.reduceNeg, e1, shr_small set a ha, e2]
  simp [hasLab]
/-- The labels below a bound. -/
def labsTo (set : Int) (n : Nat) : List Int := ((List.range n).filter (hasLab set)).map fun (a : Nat) => (a : Int)
theorem labsTo_succ (set : Int) (n : Nat) : labsTo set (n + 1) = if hasLab set n then labsTo set n ++ [(n : Int)] else labsTo set n := by
  simp only [labsTo, List.range_succ, List.filter_append, List.map_append, List.filter_cons, List.filter_nil]
  split <;> simp
theorem labsTo_len (set : Int) (n : Nat) : (labsTo set n).length ≤ n := by
  simp only [labsTo, List.length_map]
  exact Nat.le_trans (List.length_filter_le _ _) (by simp)
theorem elLabels_eq (set : Int) (h : 0 ≤ set) : Y.call 51 [.int .i64 set] [] = some (.own 3 (ints (labsTo set 8)), []) := by
  refine c51 ?_ rfl
  unfold k51
  simp only [↓xpre, xpost, yset, Option.bind_some, Option.map_some, Option.isSome_some, reduceIte, Nat.reduceEqDiff, Nat.reduceLT, Nat.reduceLeDiff, Nat.reduceAdd, Nat.reduceMul, Nat.reduceMod, Nat.reduceSub, List.contains_cons, List.contains_nil, Nat.reduceBEq, List.getD_cons_zero, List.getD_cons_succ, List.getD_nil, List.length_cons, List.length_nil, List.size_toArray, List.toList_toArray, List.zip_cons_cons, List.zip_nil_left, List.append_nil, List.nil_append, List.cons_append, List.map_cons, List.map_nil, List.replicate_succ, List.replicate_zero, List.set_cons_zero, List.set_cons_succ, List.all_cons, List.all_nil, List.getElem?_cons_zero, List.getElem?_cons_succ, List.getElem?_nil, List.range_zero, beq_self_eq_true, Int.reduceLE, Int.reduceLT, Int.reduceEq, Int.reduceSub, Int.reduceAdd, Int.reduceToNat, Int.reduceNeg]
  refine wd_loop (fun n s => ∃ i : Nat, n = 8 - i ∧ i ≤ 8 ∧ s.v 0 = .int .i64 set ∧ s.v 3 = .own 3 (ints (labsTo set i)) ∧ s.v 4 = .int .i64 i) 8 ⟨0, by simp, by simp, ?_⟩ ?_
  · simp only [↓xpre, xpost, yset, Option.bind_some, Option.map_some, Option.isSome_some, reduceIte, Nat.reduceEqDiff, Nat.reduceLT, Nat.reduceLeDiff, Nat.reduceAdd, Nat.reduceMul, Nat.reduceMod, Nat.reduceSub, List.contains_cons, List.contains_nil, Nat.reduceBEq, List.getD_cons_zero, List.getD_cons_succ, List.getD_nil, List.length_cons, List.length_nil, List.size_toArray, List.toList_toArray, List.zip_cons_cons, List.zip_nil_left, List.append_nil, List.nil_append, List.cons_append, List.map_cons, List.map_nil, List.replicate_succ, List.replicate_zero, List.set_cons_zero, List.set_cons_succ, List.all_cons, List.all_nil, List.getElem?_cons_zero, List.getElem?_cons_succ, List.getElem?_nil, List.range_zero, beq_self_eq_true, Int.reduceLE, Int.reduceLT, Int.reduceEq, Int.reduceSub, Int.reduceAdd, Int.reduceToNat, Int.reduceNeg]
    simp [labsTo, ints]
  · rintro n s ⟨i, hn, hi, h0, h3, h4⟩
    by_cases hlt : i < 8
    · have e1 : (i : Int) < 8 := by omega
      have hl := labsTo_len set i
      have e2 : (labsTo set i).length + 1 < 1099511627776 := by omega
      cases hb : hasLab set i with
      | true =>
        simp only [↓xpre, xpost, yset, Option.bind_some, Option.map_some, Option.isSome_some, reduceIte, Nat.reduceEqDiff, Nat.reduceLT, Nat.reduceLeDiff, Nat.reduceAdd, Nat.reduceMul, Nat.reduceMod, Nat.reduceSub, List.contains_cons, List.contains_nil, Nat.reduceBEq, List.getD_cons_zero, List.getD_cons_succ, List.getD_nil, List.length_cons, List.length_nil, List.size_toArray, List.toList_toArray, List.zip_cons_cons, List.zip_nil_left, List.append_nil, List.nil_append, List.cons_append, List.map_cons, List.map_nil, List.replicate_succ, List.replicate_zero, List.set_cons_zero, List.set_cons_succ, List.all_cons, List.all_nil, List.getElem?_cons_zero, List.getElem?_cons_succ, List.getElem?_nil, List.range_zero, beq_self_eq_true, Int.reduceLE, Int.reduceLT, Int.reduceEq, Int.reduceSub, Int.reduceAdd, Int.reduceToNat, Int.reduceNeg, h0, h3, h4, e1, elHas_eq set i h (by omega), hb, e2, wr64 ((i : Int) + 1) (by omega)]
        refine ⟨_, ?_, i + 1, rfl, by omega, ?_, ?_⟩
        · omega
        · rw [labsTo_succ, hb, if_pos rfl, ints_snoc]
        · simp
      | false =>
        simp only [↓xpre, xpost, yset, Option.bind_some, Option.map_some, Option.isSome_some, reduceIte, Nat.reduceEqDiff, Nat.reduceLT, Nat.reduceLeDiff, Nat.reduceAdd, Nat.reduceMul, Nat.reduceMod, Nat.reduceSub, List.contains_cons, List.contains_nil, Nat.reduceBEq, List.getD_cons_zero, List.getD_cons_succ, List.getD_nil, List.length_cons, List.length_nil, List.size_toArray, List.toList_toArray, List.zip_cons_cons, List.zip_nil_left, List.append_nil, List.nil_append, List.cons_append, List.map_cons, List.map_nil, List.replicate_succ, List.replicate_zero, List.set_cons_zero, List.set_cons_succ, List.all_cons, List.all_nil, List.getElem?_cons_zero, List.getElem?_cons_succ, List.getElem?_nil, List.range_zero, beq_self_eq_true, Int.reduceLE, Int.reduceLT, Int.reduceEq, Int.reduceSub, Int.reduceAdd, Int.reduceToNat, Int.reduceNeg, h0, h3, h4, e1, elHas_eq set i h (by omega), hb, wr64 ((i : Int) + 1) (by omega)]
        refine ⟨_, ?_, i + 1, rfl, by omega, ?_, ?_⟩
        · omega
        · rw [labsTo_succ, hb]; simp
        · simp
    · have e1 : ¬ (i : Int) < 8 := by omega
      have e2 : i = 8 := by omega
      subst e2
      simp only [↓xpre, xpost, yset, Option.bind_some, Option.map_some, Option.isSome_some, reduceIte, Nat.reduceEqDiff, Nat.reduceLT, Nat.reduceLeDiff, Nat.reduceAdd, Nat.reduceMul, Nat.reduceMod, Nat.reduceSub, List.contains_cons, List.contains_nil, Nat.reduceBEq, List.getD_cons_zero, List.getD_cons_succ, List.getD_nil, List.length_cons, List.length_nil, List.size_toArray, List.toList_toArray, List.zip_cons_cons, List.zip_nil_left, List.append_nil, List.nil_append, List.cons_append, List.map_cons, List.map_nil, List.replicate_succ, List.replicate_zero, List.set_cons_zero, List.set_cons_succ, List.all_cons, List.all_nil, List.getElem?_cons_zero, List.getElem?_cons_succ, List.getElem?_nil, List.range_zero, beq_self_eq_true, Int.reduceLE, Int.reduceLT, Int.reduceEq, Int.reduceSub, Int.reduceAdd, Int.reduceToNat, Int.reduceNeg, h0, h3, h4, e1]
theorem and_one : ∀ x : Fin 256, bitsD .and .i64 (x.val : Int) 1 = (x.val : Int) % 2 := by decide +kernel
theorem and_one' (x : Int) (h : 0 ≤ x ∧ x ≤ 255) : bitsD .and .i64 x 1 = x % 2 := by
  have := and_one ⟨x.toNat, by omega⟩
  simp only at this
  rwa [show ((x.toNat : Nat) : Int) = x by omega] at this
theorem div_le' (set : Int) (a : Nat) (h : 0 ≤ set) : set / 2 ^ a ≤ set := by
  have : (1 : Int) ≤ 2 ^ a := by
    have := Nat.one_le_two_pow (n := a)
    exact_mod_cast this
  exact Int.ediv_le_self _ h
theorem div_zero_up (set : Int) (a b : Nat) (h : 0 ≤ set) (hab : a ≤ b) (hz : set / 2 ^ a = 0) : set / 2 ^ b = 0 := by
  have h1 := Int.mul_ediv_add_emod set (2 ^ a)
  rw [hz, Int.mul_zero, Int.zero_add] at h1
  have h2 := Int.emod_lt_of_pos set (b := 2 ^ a) (Int.pow_pos (by decide))
  exact Int.ediv_eq_zero_of_lt h (Int.lt_of_lt_of_le (h1 ▸ h2) (pow_mono hab))
theorem labs_end (set : Int) (i : Nat) (h : 0 ≤ set) (hi : i ≤ 8) (hz : set / 2 ^ i = 0) : labsTo set i = labsTo set 8 := by
  have key : ∀ k, i + k ≤ 8 → labsTo set (i + k) = labsTo set i := by
    intro k
    induction k with
    | zero => intro _; rfl
    | succ k ih =>
      intro hk
      have hf : hasLab set (i + k) = false := by
        simp only [hasLab, div_zero_up set i (i + k) h (by omega) hz]; decide
      rw [show i + (k + 1) = i + k + 1 by omega, labsTo_succ, hf]; simp only [Bool.false_eq_true, if_false]; exact ih (by omega)
  have := key (8 - i) (by omega)
  rw [show i + (8 - i) = 8 by omega] at this
  exact this.symm
theorem div_ne (set : Int) (i : Nat) (h : 0 ≤ set ∧ set ≤ 255) (hz : ¬ set / 2 ^ i = 0) : i < 8 := by
  apply Classical.byContradiction
  intro hc
  apply hz
  have e : set / 2 ^ 8 = 0 := Int.ediv_eq_zero_of_lt h.1 (by omega)
  exact div_zero_up set 8 i h.1 (by omega) e
theorem labelsIn_eq (set : Int) (h : 0 ≤ set ∧ set ≤ 255) : Y.call 53 [.int .i64 set] [] = some (.own 3 (ints (labsTo set 8)), []) := by
  refine c53 ?_ rfl
  unfold k53
  simp only [↓xpre, xpost, yset, Option.bind_some, Option.map_some, Option.isSome_some, reduceIte, Nat.reduceEqDiff, Nat.reduceLT, Nat.reduceLeDiff, Nat.reduceAdd, Nat.reduceMul, Nat.reduceMod, Nat.reduceSub, List.contains_cons, List.contains_nil, Nat.reduceBEq, List.getD_cons_zero, List.getD_cons_succ, List.getD_nil, List.length_cons, List.length_nil, List.size_toArray, List.toList_toArray, List.zip_cons_cons, List.zip_nil_left, List.append_nil, List.nil_append, List.cons_append, List.map_cons, List.map_nil, List.replicate_succ, List.replicate_zero, List.set_cons_zero, List.set_cons_succ, List.all_cons, List.all_nil, List.getElem?_cons_zero, List.getElem?_cons_succ, List.getElem?_nil, List.range_zero, beq_self_eq_true, Int.reduceLE, Int.reduceLT, Int.reduceEq, Int.reduceSub, Int.reduceAdd, Int.reduceToNat, Int.reduceNeg]
  refine wd_loop (fun n s => ∃ i : Nat, n = 8 - i ∧ i ≤ 8 ∧ s.v 0 = .int .i64 set ∧ s.v 3 = .own 3 (ints (labsTo set i)) ∧ s.v 4 = .int .i64 i) 8 ⟨0, by simp, by simp, ?_⟩ ?_
  · simp only [↓xpre, xpost, yset, Option.bind_some, Option.map_some, Option.isSome_some, reduceIte, Nat.reduceEqDiff, Nat.reduceLT, Nat.reduceLeDiff, Nat.reduceAdd, Nat.reduceMul, Nat.reduceMod, Nat.reduceSub, List.contains_cons, List.contains_nil, Nat.reduceBEq, List.getD_cons_zero, List.getD_cons_succ, List.getD_nil, List.length_cons, List.length_nil, List.size_toArray, List.toList_toArray, List.zip_cons_cons, List.zip_nil_left, List.append_nil, List.nil_append, List.cons_append, List.map_cons, List.map_nil, List.replicate_succ, List.replicate_zero, List.set_cons_zero, List.set_cons_succ, List.all_cons, List.all_nil, List.getElem?_cons_zero, List.getElem?_cons_succ, List.getElem?_nil, List.range_zero, beq_self_eq_true, Int.reduceLE, Int.reduceLT, Int.reduceEq, Int.reduceSub, Int.reduceAdd, Int.reduceToNat, Int.reduceNeg]
    simp [labsTo, ints]
  · rintro n s ⟨i, hn, hi, h0, h3, h4⟩
    have e0 : ¬ (i : Int) < 0 := by omega
    have es := shr_small set i (by omega)
    by_cases hz : set / 2 ^ i = 0
    · simp only [↓xpre, xpost, yset, Option.bind_some, Option.map_some, Option.isSome_some, reduceIte, Nat.reduceEqDiff, Nat.reduceLT, Nat.reduceLeDiff, Nat.reduceAdd, Nat.reduceMul, Nat.reduceMod, Nat.reduceSub, List.contains_cons, List.contains_nil, Nat.reduceBEq, List.getD_cons_zero, List.getD_cons_succ, List.getD_nil, List.length_cons, List.length_nil, List.size_toArray, List.toList_toArray, List.zip_cons_cons, List.zip_nil_left, List.append_nil, List.nil_append, List.cons_append, List.map_cons, List.map_nil, List.replicate_succ, List.replicate_zero, List.set_cons_zero, List.set_cons_succ, List.all_cons, List.all_nil, List.getElem?_cons_zero, List.getElem?_cons_succ, List.getElem?_nil, List.range_zero, beq_self_eq_true, Int.reduceLE, Int.reduceLT, Int.reduceEq, Int.reduceSub, Int.reduceAdd, Int.reduceToNat, Int.reduceNeg, h0, h3, h4, e0, es, hz]
      rw [labs_end set i h.1 hi hz]
    · have hlt := div_ne set i h hz
      have hl := labsTo_len set i
      have e2 : (labsTo set i).length + 1 < 1099511627776 := by omega
      have ea := and_one' (set / 2 ^ i) ⟨div_nonneg' set i h.1, Int.le_trans (div_le' set i h.1) h.2⟩
      by_cases hb : set / 2 ^ i % 2 = 1
      · simp only [↓xpre, xpost, yset, Option.bind_some, Option.map_some, Option.isSome_some, reduceIte, Nat.reduceEqDiff, Nat.reduceLT, Nat.reduceLeDiff, Nat.reduceAdd, Nat.reduceMul, Nat.reduceMod, Nat.reduceSub, List.contains_cons, List.contains_nil, Nat.reduceBEq, List.getD_cons_zero, List.getD_cons_succ, List.getD_nil, List.length_cons, List.length_nil, List.size_toArray, List.toList_toArray, List.zip_cons_cons, List.zip_nil_left, List.append_nil, List.nil_append, List.cons_append, List.map_cons, List.map_nil, List.replicate_succ, List.replicate_zero, List.set_cons_zero, List.set_cons_succ, List.all_cons, List.all_nil, List.getElem?_cons_zero, List.getElem?_cons_succ, List.getElem?_nil, List.range_zero, beq_self_eq_true, Int.reduceLE, Int.reduceLT, Int.reduceEq, Int.reduceSub, Int.reduceAdd, Int.reduceToNat, Int.reduceNeg, h0, h3, h4, e0, es, hz, ea, hb, e2, wr64 ((i : Int) + 1) (by omega)]
        refine ⟨_, ?_, i + 1, rfl, by omega, ?_, ?_⟩
        · omega
        · rw [labsTo_succ, hasLab]; simp only [hb, decide_true, if_true, ints_snoc]
        · simp
      · simp only [↓xpre, xpost, yset, Option.bind_some, Option.map_some, Option.isSome_some, reduceIte, Nat.reduceEqDiff, Nat.reduceLT, Nat.reduceLeDiff, Nat.reduceAdd, Nat.reduceMul, Nat.reduceMod, Nat.reduceSub, List.contains_cons, List.contains_nil, Nat.reduceBEq, List.getD_cons_zero, List.getD_cons_succ, List.getD_nil, List.length_cons, List.length_nil, List.size_toArray, List.toList_toArray, List.zip_cons_cons, List.zip_nil_left, List.append_nil, List.nil_append, List.cons_append, List.map_cons, List.map_nil, List.replicate_succ, List.replicate_zero, List.set_cons_zero, List.set_cons_succ, List.all_cons, List.all_nil, List.getElem?_cons_zero, List.getElem?_cons_succ, List.getElem?_nil, List.range_zero, beq_self_eq_true, Int.reduceLE, Int.reduceLT, Int.reduceEq, Int.reduceSub, Int.reduceAdd, Int.reduceToNat, Int.reduceNeg, h0, h3, h4, e0, es, hz, ea, hb, wr64 ((i : Int) + 1) (by omega)]
        refine ⟨_, ?_, i + 1, rfl, by omega, ?_, ?_⟩
        · omega
        · rw [labsTo_succ, hasLab]; simp only [hb, decide_false, Bool.false_eq_true, if_false]
        · simp
def labsB (set : Int) : Bool := decide (0 ≤ set) && decide (set ≤ 255)
def labsL (set : Int) : List Int := if labsB set then labsTo set 8 else []
theorem labsL_len (set : Int) : (labsL set).length ≤ 8 := by
  unfold labsL; split
  · exact labsTo_len _ _
  · simp
theorem labelsOfSetS_eq (set : Int) : Y.call 20 [.int .i64 set] [] = some (.tup [.own 3 (ints (labsL set)), .bool (labsB set)], []) := by
  refine c20 ?_ rfl
  unfold k20 labsL
  cases hb : labsB set with
  | true =>
    have h0 : 0 ≤ set := by simp [labsB] at hb; omega
    unfold labsB at hb
    simp only [↓xpre, xpost, yset, Option.bind_some, Option.map_some, Option.isSome_some, reduceIte, Nat.reduceEqDiff, Nat.reduceLT, Nat.reduceLeDiff, Nat.reduceAdd, Nat.reduceMul, Nat.reduceMod, Nat.reduceSub, List.contains_cons, List.contains_nil, Nat.reduceBEq, List.getD_cons_zero, List.getD_cons_succ, List.getD_nil, List.length_cons, List.length_nil, List.size_toArray, List.toList_toArray, List.zip_cons_cons, List.zip_nil_left, List.append_nil, List.nil_append, List.cons_append, List.map_cons, List.map_nil, List.replicate_succ, List.replicate_zero, List.set_cons_zero, List.set_cons_succ, List.all_cons, List.all_nil, List.getElem?_cons_zero, List.getElem?_cons_succ, List.getElem?_nil, List.range_zero, beq_self_eq_true, Int.reduceLE, Int.reduceLT, Int.reduceEq, Int.reduceSub, Int.reduceAdd, Int.reduceToNat, Int.reduceNeg, l1In_eq, hb, elLabels_eq set h0]
  | false =>
    unfold labsB at hb
    simp only [↓xpre, xpost, yset, Option.bind_some, Option.map_some, Option.isSome_some, reduceIte, Nat.reduceEqDiff, Nat.reduceLT, Nat.reduceLeDiff, Nat.reduceAdd, Nat.reduceMul, Nat.reduceMod, Nat.reduceSub, List.contains_cons, List.contains_nil, Nat.reduceBEq, List.getD_cons_zero, List.getD_cons_succ, List.getD_nil, List.length_cons, List.length_nil, List.size_toArray, List.toList_toArray, List.zip_cons_cons, List.zip_nil_left, List.append_nil, List.nil_append, List.cons_append, List.map_cons, List.map_nil, List.replicate_succ, List.replicate_zero, List.set_cons_zero, List.set_cons_succ, List.all_cons, List.all_nil, List.getElem?_cons_zero, List.getElem?_cons_succ, List.getElem?_nil, List.range_zero, beq_self_eq_true, Int.reduceLE, Int.reduceLT, Int.reduceEq, Int.reduceSub, Int.reduceAdd, Int.reduceToNat, Int.reduceNeg, l1In_eq, hb, ints_nil]
theorem labelsOfSetI_eq (set : Int) : Y.call 21 [.int .i64 set] [] = some (.tup [.own 3 (ints (labsL set)), .bool (labsB set)], []) := by
  refine c21 ?_ rfl
  unfold k21 labsL
  cases hb : labsB set with
  | true =>
    have h0 : 0 ≤ set ∧ set ≤ 255 := by simp [labsB] at hb; omega
    unfold labsB at hb
    simp only [↓xpre, xpost, yset, Option.bind_some, Option.map_some, Option.isSome_some, reduceIte, Nat.reduceEqDiff, Nat.reduceLT, Nat.reduceLeDiff, Nat.reduceAdd, Nat.reduceMul, Nat.reduceMod, Nat.reduceSub, List.contains_cons, List.contains_nil, Nat.reduceBEq, List.getD_cons_zero, List.getD_cons_succ, List.getD_nil, List.length_cons, List.length_nil, List.size_toArray, List.toList_toArray, List.zip_cons_cons, List.zip_nil_left, List.append_nil, List.nil_append, List.cons_append, List.map_cons, List.map_nil, List.replicate_succ, List.replicate_zero, List.set_cons_zero, List.set_cons_succ, List.all_cons, List.all_nil, List.getElem?_cons_zero, List.getElem?_cons_succ, List.getElem?_nil, List.range_zero, beq_self_eq_true, Int.reduceLE, Int.reduceLT, Int.reduceEq, Int.reduceSub, Int.reduceAdd, Int.reduceToNat, Int.reduceNeg, within_eq, hb, labelsIn_eq set h0]
  | false =>
    unfold labsB at hb
    simp only [↓xpre, xpost, yset, Option.bind_some, Option.map_some, Option.isSome_some, reduceIte, Nat.reduceEqDiff, Nat.reduceLT, Nat.reduceLeDiff, Nat.reduceAdd, Nat.reduceMul, Nat.reduceMod, Nat.reduceSub, List.contains_cons, List.contains_nil, Nat.reduceBEq, List.getD_cons_zero, List.getD_cons_succ, List.getD_nil, List.length_cons, List.length_nil, List.size_toArray, List.toList_toArray, List.zip_cons_cons, List.zip_nil_left, List.append_nil, List.nil_append, List.cons_append, List.map_cons, List.map_nil, List.replicate_succ, List.replicate_zero, List.set_cons_zero, List.set_cons_succ, List.all_cons, List.all_nil, List.getElem?_cons_zero, List.getElem?_cons_succ, List.getElem?_nil, List.range_zero, beq_self_eq_true, Int.reduceLE, Int.reduceLT, Int.reduceEq, Int.reduceSub, Int.reduceAdd, Int.reduceToNat, Int.reduceNeg, within_eq, hb, ints_nil]

end Go.Proofs.Ythaimoghceamnaa
