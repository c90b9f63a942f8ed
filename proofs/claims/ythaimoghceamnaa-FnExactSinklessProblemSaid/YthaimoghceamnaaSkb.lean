/- The problem without sinks, as a plain function, and its law. Conditions: none. -/
import Derived.Test.YthaimoghceamnaaL5
import Derived.Test.YthaimoghceamnaaSka
namespace Go.Proofs.Ythaimoghceamnaa
open Go Dv
set_option linter.unusedSimpArgs false
set_option linter.unusedVariables false
set_option maxRecDepth 100000
set_option maxHeartbeats 4000000

def skRow (d k : Nat) : List Int := (List.range d).map fun i => if k ≤ i then (1 : Int) else 0
def skUp (d j : Nat) : List (List Int) := ((List.range j).map fun i => skRow d (i + 1)).reverse
def skDn (d j : Nat) : List (List Int) := (List.range j).map fun i => List.replicate (d - i) (0 : Int) ++ List.replicate i (1 : Int)
theorem sk_same : ((List.range 5).all fun d => decide (skUp d d = skDn d d) && (List.range d).all fun j => aheadB (skUp d j) (skRow d (j + 1))) = true := by decide +kernel
theorem sk_inner (d k : Nat) (hd : d ≤ 4) (p : List (List Int)) : s_SinklessProblem_l0 d p k ([], 0) = some (skRow d k) := by
  unfold s_SinklessProblem_l0
  refine itO_for (fun v => s_SinklessProblem_l0_S d p k v.1 v.2) (fun i => ((List.range i).map (fun i => if k ≤ i then (1 : Int) else 0), (i : Int))) d (skRow d k) ?_ ?_
  · intro i hi
    simp only [s_SinklessProblem_l0_S, s_vaIs]
    rw [if_pos (by omega)]
    by_cases h : k ≤ i
    · have e : decide ((k : Int) ≤ (i : Int)) = true := decide_eq_true (by omega)
      rw [e, if_pos rfl, Option.bind_some, ckT (by simp; omega), wrS _ (by omega), List.range_succ, List.map_append]
      simp [h]
    · have e : decide ((k : Int) ≤ (i : Int)) = false := decide_eq_false (by omega)
      rw [e, if_neg (by decide), Option.bind_some, ckT (by simp; omega), wrS _ (by omega), List.range_succ, List.map_append]
      simp [h]
  · simp only [s_SinklessProblem_l0_S]
    rw [if_neg (by omega)]; rfl
theorem sk_facts (d : Nat) (hd : d ≤ 4) : skUp d d = skDn d d ∧ ∀ j, j < d → aheadB (skUp d j) (skRow d (j + 1)) = true := by
  have := List.all_eq_true.1 sk_same d (List.mem_range.2 (by omega))
  rw [Bool.and_eq_true, decide_eq_true_eq] at this
  exact ⟨this.1, fun j hj => List.all_eq_true.1 this.2 j (List.mem_range.2 hj)⟩
theorem sk_l1S (d : Nat) (hd : d ≤ 4) : s_SinklessProblem_l1 d ([], 1) = some (skDn d d) := by
  obtain ⟨h1, h2⟩ := sk_facts d hd
  unfold s_SinklessProblem_l1
  refine itO_for (fun v => s_SinklessProblem_l1_S d v.1 v.2) (fun i => (skUp d i, ((i + 1 : Nat) : Int))) d (skDn d d) ?_ ?_
  · intro i hi
    simp only [s_SinklessProblem_l1_S]
    rw [if_pos (by omega), sk_inner d (i + 1) hd, Option.bind_some, ckT (by simp [skUp]; omega), ckT (h2 i hi), wrS _ (by omega)]
    simp [skUp, List.range_succ]
  · simp only [s_SinklessProblem_l1_S]
    rw [if_neg (by omega), h1]
noncomputable def i_SinklessProblem_l0_S (d : Int) (p_2 : List (List Int)) (zeros : Int) : Option (((List (List Int)) × Int) ⊕ ((List (List Int)))) :=
  if 0 < zeros then
    (g_slices_Repeat_Sint_int [0] zeros).bind fun r4_ =>
    (g_slices_Repeat_Sint_int [1] (IntKind.i64.wrap (d - zeros))).bind fun r5_ =>
    ck (r4_.length + r5_.length < 1099511627776) <|
    ck (p_2.length + 1 < 1099511627776) <|
    some (Sum.inl ((p_2 ++ [(r4_ ++ r5_)]), IntKind.i64.wrap (zeros - 1)))
  else
    some (Sum.inr p_2)
noncomputable def i_SinklessProblem_l0 (d : Int) (v : (List (List Int)) × Int) : Option ((List (List Int))) := itO (fun v => i_SinklessProblem_l0_S d v.1 v.2) v
noncomputable def i_SinklessProblem (d : Int) : Option (Int × Int × (List (List Int)) × (List (List Int)) × Bool) :=
  (i_isArity d).bind fun r1_ =>
  if r1_ = true then
    (i_SinklessProblem_l0 d ([], d)).bind fun r4_ =>
    (i_madeProblem (2 : Int) d r4_ [[0, 1]]).bind fun r5_ =>
    match r5_ with
    | .inl q5_ =>
      some (q5_.1, q5_.2.1, q5_.2.2.1, q5_.2.2.2.1, q5_.2.2.2.2)
    | .inr q5_ =>
      some (q5_.1, q5_.2.1, q5_.2.2.1, q5_.2.2.2.1, q5_.2.2.2.2.1)
  else
    some (0, 0, [], [], false)
/-- impl.SinklessProblem -/
def k40_l0b : SC :=
  .seq
    (.seq
      (.ops [
        ⟨(some 15), (Op.move (Operand.tmp 5)), 3, none⟩,
        ⟨(some 16), (Op.binOp BinOp.gtr 3 (Operand.tmp 15) (Operand.const (Value.int IntKind.i64 0)) 3), 4, none⟩])
      (.cond (Operand.tmp 16)
        .skip
        (.exit 0)))
    (.seq
      (.block 1
        (.draws [
          (⟨[19, 4, 4], [19, 20, 21, 22, 23, 24, 25, 26, 27, 28, 29, 23, 28, 23, 28, 30, 29, 29, 31, 20, 30, 4, 30, 32, 32, 31, 4, 31], [19]⟩, ⟨(some 19), (Op.fieldAddr 39 (Operand.tmp 4) 2), 0, none⟩),
          (⟨[20, 19, 4], [19, 20, 21, 22, 23, 24, 25, 26, 27, 28, 29, 23, 28, 23, 28, 30, 29, 29, 31, 20, 30, 4, 30, 32, 32, 31, 4, 31], [20]⟩, ⟨(some 20), (Op.load 34 (Operand.tmp 19)), 34, none⟩),
          (⟨[21], [19, 20, 21, 22, 23, 24, 25, 26, 27, 28, 29, 23, 28, 23, 28, 30, 29, 29, 31, 20, 30, 4, 30, 32, 32, 31, 4, 31], [21]⟩, ⟨(some 21), (Op.buildSlice 25 1 #[(0, (Operand.const (Value.int IntKind.i64 0)))]), 25, none⟩),
          (⟨[22, 5, 5], [19, 20, 21, 22, 23, 24, 25, 26, 27, 28, 29, 23, 28, 23, 28, 30, 29, 29, 31, 20, 30, 4, 30, 32, 32, 31, 4, 31], [22]⟩, ⟨(some 22), (Op.move (Operand.tmp 5)), 3, none⟩),
          (⟨[23, 21, 22, 21, 5], [19, 20, 21, 22, 23, 24, 25, 26, 27, 28, 29, 23, 28, 23, 28, 30, 29, 29, 31, 20, 30, 4, 30, 32, 32, 31, 4, 31], [23]⟩, ⟨(some 23), (Op.call { callee := (Callee.value (Operand.func 67)), args := #[(Operand.tmp 21), (Operand.tmp 22)], argTypes := #[25, 3] }), 25, none⟩),
          (⟨[24], [19, 20, 21, 22, 23, 24, 25, 26, 27, 28, 29, 23, 28, 23, 28, 30, 29, 29, 31, 20, 30, 4, 30, 32, 32, 31, 4, 31], [24]⟩, ⟨(some 24), (Op.buildSlice 25 1 #[(0, (Operand.const (Value.int IntKind.i64 1)))]), 25, none⟩),
          (⟨[25, 0, 0], [19, 20, 21, 22, 23, 24, 25, 26, 27, 28, 29, 23, 28, 23, 28, 30, 29, 29, 31, 20, 30, 4, 30, 32, 32, 31, 4, 31], [25]⟩, ⟨(some 25), (Op.move (Operand.tmp 0)), 3, none⟩),
          (⟨[26, 5, 5], [19, 20, 21, 22, 23, 24, 25, 26, 27, 28, 29, 23, 28, 23, 28, 30, 29, 29, 31, 20, 30, 4, 30, 32, 32, 31, 4, 31], [26]⟩, ⟨(some 26), (Op.move (Operand.tmp 5)), 3, none⟩),
          (⟨[27, 25, 26, 0, 5], [19, 20, 21, 22, 23, 24, 25, 26, 27, 28, 29, 23, 28, 23, 28, 30, 29, 29, 31, 20, 30, 4, 30, 32, 32, 31, 4, 31], [27]⟩, ⟨(some 27), (Op.binOp BinOp.sub 3 (Operand.tmp 25) (Operand.tmp 26) 3), 3, none⟩),
          (⟨[28, 24, 27, 24, 27], [19, 20, 21, 22, 23, 24, 25, 26, 27, 28, 29, 23, 28, 23, 28, 30, 29, 29, 31, 20, 30, 4, 30, 32, 32, 31, 4, 31], [28]⟩, ⟨(some 28), (Op.call { callee := (Callee.value (Operand.func 67)), args := #[(Operand.tmp 24), (Operand.tmp 27)], argTypes := #[25, 3] }), 25, none⟩),
          (⟨[29, 23, 28, 23, 28], [19, 20, 21, 22, 23, 24, 25, 26, 27, 28, 29, 23, 28, 23, 28, 30, 29, 29, 31, 20, 30, 4, 30, 32, 32, 31, 4, 31], [29, 23, 28, 23, 28]⟩, ⟨(some 29), (Op.call { callee := (Callee.builtin Builtin.append), args := #[(Operand.tmp 23), (Operand.tmp 28)], argTypes := #[25, 25] }), 25, none⟩),
          (⟨[30, 29, 29], [19, 20, 21, 22, 23, 24, 25, 26, 27, 28, 29, 23, 28, 23, 28, 30, 29, 29, 31, 20, 30, 4, 30, 32, 32, 31, 4, 31], [30, 29, 29]⟩, ⟨(some 30), (Op.buildSlice 34 1 #[(0, (Operand.tmp 29))]), 34, none⟩),
          (⟨[31, 20, 30, 4, 30], [19, 20, 21, 22, 23, 24, 25, 26, 27, 28, 29, 23, 28, 23, 28, 30, 29, 29, 31, 20, 30, 4, 30, 32, 32, 31, 4, 31], [31, 20, 30, 4, 30]⟩, ⟨(some 31), (Op.call { callee := (Callee.builtin Builtin.append), args := #[(Operand.tmp 20), (Operand.tmp 30)], argTypes := #[34, 34] }), 34, none⟩),
          (⟨[32, 4, 4], [19, 20, 21, 22, 23, 24, 25, 26, 27, 28, 29, 23, 28, 23, 28, 30, 29, 29, 31, 20, 30, 4, 30, 32, 32, 31, 4, 31], [32]⟩, ⟨(some 32), (Op.fieldAddr 39 (Operand.tmp 4) 2), 0, none⟩),
          (⟨[32, 31, 4, 31], [19, 20, 21, 22, 23, 24, 25, 26, 27, 28, 29, 23, 28, 23, 28, 30, 29, 29, 31, 20, 30, 4, 30, 32, 32, 31, 4, 31], [32, 31, 4, 31]⟩, ⟨none, (Op.store 34 (Operand.tmp 32) (Operand.tmp 31)), 0, none⟩)]))
      (.ops [
        ⟨(some 17), (Op.move (Operand.tmp 5)), 3, none⟩,
        ⟨(some 18), (Op.binOp BinOp.sub 3 (Operand.tmp 17) (Operand.const (Value.int IntKind.i64 1)) 3), 3, none⟩,
        ⟨(some 5), (Op.assign (Operand.tmp 18)), 3, none⟩]))
def k40_l0 : SC := .loop k40_l0b
def k40 : SC :=
  .seq
    (.ops [
      ⟨(some 2), (Op.alloc 39), 0, none⟩,
      ⟨(some 3), (Op.assign (Operand.const (Value.bool false))), 4, none⟩])
    (.seq
      (.seq
        (.ops [
          ⟨(some 6), (Op.move (Operand.tmp 0)), 3, none⟩,
          ⟨(some 7), (Op.call { callee := (Callee.value (Operand.func 60)), args := #[(Operand.tmp 6)], argTypes := #[3] }), 4, none⟩,
          ⟨(some 8), (Op.unOp UnOp.not 4 (Operand.tmp 7)), 4, none⟩])
        (.cond (Operand.tmp 8)
          (.seq
            (.ops [
              ⟨(some 9), (Op.build 39 #[]), 39, none⟩,
              ⟨none, (Op.store 39 (Operand.tmp 2) (Operand.tmp 9)), 0, none⟩,
              ⟨(some 3), (Op.assign (Operand.const (Value.bool false))), 4, none⟩])
            .ret)
          .skip))
      (.seq
        (.ops [
          ⟨(some 10), (Op.move (Operand.tmp 0)), 3, none⟩,
          ⟨(some 11), (Op.buildSlice 25 2 #[(0, (Operand.const (Value.int IntKind.i64 0))), (1, (Operand.const (Value.int IntKind.i64 1)))]), 25, none⟩,
          ⟨(some 12), (Op.buildSlice 34 1 #[(0, (Operand.tmp 11))]), 34, none⟩,
          ⟨(some 13), (Op.build 39 #[(0, (Operand.const (Value.int IntKind.i64 2))), (1, (Operand.tmp 10)), (3, (Operand.tmp 12))]), 39, none⟩,
          ⟨(some 4), (Op.alloc 39), 0, none⟩,
          ⟨none, (Op.store 39 (Operand.tmp 4) (Operand.tmp 13)), 0, none⟩])
        (.seq
          (.seq
            (.ops [
              ⟨(some 14), (Op.move (Operand.tmp 0)), 3, none⟩,
              ⟨(some 5), (Op.assign (Operand.tmp 14)), 3, none⟩])
            (.block 0
              k40_l0))
          (.seq
            (.ops [
              ⟨(some 33), (Op.load 39 (Operand.tmp 4)), 39, none⟩,
              ⟨(some 34), (Op.call { callee := (Callee.value (Operand.func 61)), args := #[(Operand.tmp 33)], argTypes := #[39] }), 43, none⟩,
              ⟨(some 35), (Op.extract (Operand.tmp 34) 0), 39, none⟩,
              ⟨(some 36), (Op.extract (Operand.tmp 34) 1), 4, none⟩,
              ⟨none, (Op.store 39 (Operand.tmp 2) (Operand.tmp 35)), 0, none⟩,
              ⟨(some 3), (Op.assign (Operand.tmp 36)), 4, none⟩])
            .ret))))
theorem slim40 : Try.f40.body.map (slim lends) = some k40 := by kernel_rfl
theorem ok40 : fnOk Try.f40 1 = true := by kernel_rfl
theorem c40 {a l : List D} {r : D × List D} (h : wpD Y.env k40 (fin tys l.length [ResultVar.cell 2 39, ResultVar.tmp 3] r) (entry a l)) (ha : a.length = 1) : Y.call 40 a l = some r :=
  call_slim (Y := Y) rfl Try.func40 (ha ▸ ok40) slim40 h
def i_SinklessProblem_l0_M (d : Int) (p_2 : List (List Int)) (zeros : Int) (s : St) : Prop := s.v 0 = D.int .i64 d ∧ s.v 2 = D.box [D.int .i64 0, D.int .i64 0, D.own 25 [], D.own 25 []] ∧ s.v 4 = D.box [D.int .i64 2, D.int .i64 d, D.own 25 (lst (fun x => D.own 3 (lst (D.int .i64) x)) p_2), D.own 25 [D.own 3 [D.int .i64 0, D.int .i64 1]]] ∧ s.v 5 = D.int .i64 zeros
def i_SinklessProblem_l0_X (d : Int) (r : (List (List Int))) (ex : Ex) (s : St) : Prop := ex = .exit 0 ∧ s.v 2 = D.box [D.int .i64 0, D.int .i64 0, D.own 25 [], D.own 25 []] ∧ s.v 4 = D.box [D.int .i64 2, D.int .i64 d, D.own 25 (lst (fun x => D.own 3 (lst (D.int .i64) x)) r), D.own 25 [D.own 3 [D.int .i64 0, D.int .i64 1]]]
theorem i_SinklessProblem_l0_wp (d : Int) {v : (List (List Int)) × Int} {s : St} {r : (List (List Int))} (h : i_SinklessProblem_l0 d v = some r) (hM : i_SinklessProblem_l0_M d v.1 v.2 s) : wpD Y.env k40_l0 (i_SinklessProblem_l0_X d r) s := by
  unfold i_SinklessProblem_l0 at h
  refine wd_itO (c := k40_l0b) (fun v => i_SinklessProblem_l0_S d v.1 v.2) (fun v s => i_SinklessProblem_l0_M d v.1 v.2 s) (i_SinklessProblem_l0_X d) ?_ h hM
  clear h hM s v r
  intro v s o hM h
  obtain ⟨p_2, zeros⟩ := v
  dsimp only at h hM
  unfold i_SinklessProblem_l0_S at h
  unfold i_SinklessProblem_l0_M at hM
  obtain ⟨m0, m1, m2, m3⟩ := hM
  unfold k40_l0b
  by_cases e3 : 0 < zeros
  · rw [if_pos e3] at h
    obtain ⟨r4_, hl4, h⟩ := bindS h
    try dsimp only at h
    have c4 := g_slices_Repeat_Sint_int_call [0] zeros hl4
    simp only [lst_cons, lst_nil, cat_cons, cat_nil, List.append_nil, List.cons_append, List.nil_append] at c4
    obtain ⟨r5_, hl5, h⟩ := bindS h
    try dsimp only at h
    have c5 := g_slices_Repeat_Sint_int_call [1] (IntKind.i64.wrap (d - zeros)) hl5
    simp only [lst_cons, lst_nil, cat_cons, cat_nil, List.append_nil, List.cons_append, List.nil_append] at c5
    obtain ⟨e6, h⟩ := ckS h
    obtain ⟨e7, h⟩ := ckS h
    obtain rfl := Option.some.inj h
    simp (maxDischargeDepth := 9) only [↓xpre, xpost, xlst, xcore, yset, rg0, ↓reduceIte, Nat.reduceEqDiff, Nat.reduceLT, Nat.reduceLeDiff, Nat.reduceAdd, Nat.reduceMul, Nat.reduceMod, Nat.reduceSub, Nat.reduceBEq, Int.reduceLE, Int.reduceLT, Int.reduceEq, Int.reduceSub, Int.reduceAdd, Int.reduceToNat, Int.reduceNeg, m0, m1, m2, m3, e3, c4, c5, e6, e7, i_SinklessProblem_l0_M, i_SinklessProblem_l0_X, sxN, sxE, sxR] <;> (repeat' apply And.intro) <;> first | rfl | exact ⟨_, rfl⟩ | simp [lst]
  · rw [if_neg e3] at h
    obtain rfl := Option.some.inj h
    simp (maxDischargeDepth := 9) only [↓xpre, xpost, xlst, xcore, yset, rg0, ↓reduceIte, Nat.reduceEqDiff, Nat.reduceLT, Nat.reduceLeDiff, Nat.reduceAdd, Nat.reduceMul, Nat.reduceMod, Nat.reduceSub, Nat.reduceBEq, Int.reduceLE, Int.reduceLT, Int.reduceEq, Int.reduceSub, Int.reduceAdd, Int.reduceToNat, Int.reduceNeg, m0, m1, m2, m3, e3, i_SinklessProblem_l0_M, i_SinklessProblem_l0_X, sxN, sxE, sxR] <;> (repeat' apply And.intro) <;> first | rfl | exact ⟨_, rfl⟩ | simp [lst]
theorem i_SinklessProblem_call (d : Int) {r : Int × Int × (List (List Int)) × (List (List Int)) × Bool} (h : i_SinklessProblem d = some r) : Y.call 40 [D.int .i64 d] [] = some (D.tup [D.agg [D.int .i64 r.1, D.int .i64 r.2.1, D.own 25 (lst (fun x => D.own 3 (lst (D.int .i64) x)) r.2.2.1), D.own 25 (lst (fun x => D.own 3 (lst (D.int .i64) x)) r.2.2.2.1)], D.bool r.2.2.2.2], []) := by
  refine c40 ?_ rfl
  unfold k40
  unfold i_SinklessProblem at h
  obtain ⟨r1_, hl1, h⟩ := bindS h
  try dsimp only at h
  have c1 := i_isArity_call d hl1
  by_cases e2 : r1_ = true
  · rw [if_pos e2] at h
    obtain ⟨r4_, hl4, h⟩ := bindS h
    try dsimp only at h
    simp (maxDischargeDepth := 9) only [↓xpre, xpost, xlst, xcore, yset, rg0, ↓reduceIte, Nat.reduceEqDiff, Nat.reduceLT, Nat.reduceLeDiff, Nat.reduceAdd, Nat.reduceMul, Nat.reduceMod, Nat.reduceSub, Nat.reduceBEq, Int.reduceLE, Int.reduceLT, Int.reduceEq, Int.reduceSub, Int.reduceAdd, Int.reduceToNat, Int.reduceNeg, c1, e2]
    refine wd_mono (i_SinklessProblem_l0_wp d hl4 ?_) ?_
    · simp (maxDischargeDepth := 9) only [↓xpre, xpost, xlst, xcore, yset, rg0, ↓reduceIte, Nat.reduceEqDiff, Nat.reduceLT, Nat.reduceLeDiff, Nat.reduceAdd, Nat.reduceMul, Nat.reduceMod, Nat.reduceSub, Nat.reduceBEq, Int.reduceLE, Int.reduceLT, Int.reduceEq, Int.reduceSub, Int.reduceAdd, Int.reduceToNat, Int.reduceNeg, c1, e2, i_SinklessProblem_l0_M] <;> (repeat' apply And.intro) <;> first | rfl | exact ⟨_, rfl⟩ | simp [lst]
    · intro ex4 s4 hX4
      unfold i_SinklessProblem_l0_X at hX4
      obtain ⟨rfl, n4_0, n4_1⟩ := hX4
      obtain ⟨r5_, hl5, h⟩ := bindS h
      try dsimp only at h
      have c5 := i_madeProblem_call (2 : Int) d r4_ [[0, 1]] hl5
      rcases r5_ with q5_ | q5_
      · dsimp only at h c5
        simp only [lst_cons, lst_nil, cat_cons, cat_nil, List.append_nil, List.cons_append, List.nil_append] at c5
        obtain rfl := Option.some.inj h
        simp (maxDischargeDepth := 9) only [↓xpre, xpost, xlst, xcore, yset, rg0, ↓reduceIte, Nat.reduceEqDiff, Nat.reduceLT, Nat.reduceLeDiff, Nat.reduceAdd, Nat.reduceMul, Nat.reduceMod, Nat.reduceSub, Nat.reduceBEq, Int.reduceLE, Int.reduceLT, Int.reduceEq, Int.reduceSub, Int.reduceAdd, Int.reduceToNat, Int.reduceNeg, c1, e2, n4_0, n4_1, c5] <;> (repeat' apply And.intro) <;> first | rfl | exact ⟨_, rfl⟩ | simp [lst]
      · dsimp only at h c5
        simp only [lst_cons, lst_nil, cat_cons, cat_nil, List.append_nil, List.cons_append, List.nil_append] at c5
        obtain rfl := Option.some.inj h
        simp (maxDischargeDepth := 9) only [↓xpre, xpost, xlst, xcore, yset, rg0, ↓reduceIte, Nat.reduceEqDiff, Nat.reduceLT, Nat.reduceLeDiff, Nat.reduceAdd, Nat.reduceMul, Nat.reduceMod, Nat.reduceSub, Nat.reduceBEq, Int.reduceLE, Int.reduceLT, Int.reduceEq, Int.reduceSub, Int.reduceAdd, Int.reduceToNat, Int.reduceNeg, c1, e2, n4_0, n4_1, c5] <;> (repeat' apply And.intro) <;> first | rfl | exact ⟨_, rfl⟩ | simp [lst]
  · rw [if_neg e2] at h
    have e2f : r1_ = false := Bool.eq_false_iff.mpr e2
    obtain rfl := Option.some.inj h
    simp (maxDischargeDepth := 9) only [↓xpre, xpost, xlst, xcore, yset, rg0, ↓reduceIte, Nat.reduceEqDiff, Nat.reduceLT, Nat.reduceLeDiff, Nat.reduceAdd, Nat.reduceMul, Nat.reduceMod, Nat.reduceSub, Nat.reduceBEq, Int.reduceLE, Int.reduceLT, Int.reduceEq, Int.reduceSub, Int.reduceAdd, Int.reduceToNat, Int.reduceNeg, c1, e2f] <;> (repeat' apply And.intro) <;> first | rfl | exact ⟨_, rfl⟩ | simp [lst]

theorem sk_l0I (d : Nat) (hd : d ≤ 4) : i_SinklessProblem_l0 d ([], (d : Int)) = some (skDn d d) := by
  unfold i_SinklessProblem_l0
  refine itO_for (fun v => i_SinklessProblem_l0_S d v.1 v.2) (fun i => (skDn d i, (d : Int) - i)) d (skDn d d) ?_ ?_
  · intro i hi
    have e1 : ((d : Int) - i).toNat = d - i := by omega
    have e2 : ((d : Int) - (d - i)).toNat = i := by omega
    simp only [i_SinklessProblem_l0_S]
    rw [if_pos (by omega), repI_one _ _ (by omega), Option.bind_some, wr64 ((d : Int) - (d - i)) (by omega), repI_one _ _ (by omega), Option.bind_some, ckT (by simp; omega), ckT (by simp [skDn]; omega), wr64 _ (by omega), e1, e2]
    have e3 : (d : Int) - (i : Int) - 1 = (d : Int) - ((i + 1 : Nat) : Int) := by omega
    rw [e3]
    simp [skDn, List.range_succ]
  · simp only [i_SinklessProblem_l0_S]
    rw [if_neg (by omega)]
def skOk (d : Nat) : Bool := decide (Short (skDn d d)) && (isProb 2 d (skDn d d) [[0, 1]] && decide (tot (skDn d d) ≤ 500))
theorem skOk_all : ((List.range 5).all fun d => (d == 0) || skOk d) = true := by decide +kernel
theorem sinkless_both (d : Int) : ∃ L K N E ok, Short N ∧ Short E ∧ (0 ≤ tot N ∧ 0 ≤ tot E ∧ tot N + tot E ≤ 1000) ∧ s_SinklessProblem d = some (L, K, N, E, ok) ∧ i_SinklessProblem d = some (L, K, N, E, ok) := by
  unfold s_SinklessProblem i_SinklessProblem
  rw [i_isArity_eq, Option.bind_some]
  by_cases h : inR d 1 4 = true
  · rw [if_pos h, if_pos h]
    have hd := inR_iff.1 h
    obtain ⟨d, rfl⟩ := Int.eq_ofNat_of_zero_le (by omega : 0 ≤ d)
    rw [sk_l1S d (by omega), sk_l0I d (by omega), Option.bind_some, Option.bind_some]
    have hc := List.all_eq_true.1 skOk_all d (List.mem_range.2 (by omega))
    have z1 : (d == 0) = false := by simp; omega
    simp only [z1, Bool.false_or] at hc
    unfold skOk at hc
    simp only [Bool.and_eq_true, decide_eq_true_eq] at hc
    obtain ⟨c1, c3, c4⟩ := hc
    have c2 : Short [[(0 : Int), 1]] := by decide
    refine ⟨_, _, _, _, _, c1, c2, ⟨tot_nonneg _, tot_nonneg _, ?_⟩, rfl, ?_⟩
    · have : tot [[(0 : Int), 1]] ≤ 500 := by decide
      omega
    · rw [made_eq c1 c2 c3]; rfl
  · rw [if_neg h, if_neg h]
    exact ⟨0, 0, [], [], false, Short.nil, Short.nil, by decide, rfl, rfl⟩
noncomputable def l_FnExactSinklessProblem (aD : Int) : Option (Bool) :=
  (s_SinklessProblem aD).bind fun r1_ =>
  (i_SinklessProblem aD).bind fun r2_ =>
  ck (Short r2_.2.2.1) <|
  ck (Short r2_.2.2.2.1) <|
  if (sameP r2_.1 r2_.2.1 r2_.2.2.1 r2_.2.2.2.1 r1_.1 r1_.2.1 r1_.2.2.1 r1_.2.2.2.1) = true then
    if r2_.2.2.2.2 = true then
      if r1_.2.2.2.2 = true then
        ck (0 ≤ (1 : Int) ∧ (1 : Int) + tot r2_.2.2.1 + tot r2_.2.2.2.1 < 1099511627776) <|
        (l_heldProblem r2_.1 r2_.2.1 (marks (1 : Int) r2_.2.2.1) (marks ((1 : Int) + tot r2_.2.2.1) r2_.2.2.2.1) (1 : Int)).bind fun r11_ =>
        if r11_ < 0 then
          some false
        else
          if r11_ = ((1 : Int) + tot r2_.2.2.1 + tot r2_.2.2.2.1) then
            some true
          else
            some false
      else
        some false
    else
      if r1_.2.2.2.2 = true then
        some false
      else
        ck (0 ≤ (1 : Int) ∧ (1 : Int) + tot r2_.2.2.1 + tot r2_.2.2.2.1 < 1099511627776) <|
        (l_heldProblem r2_.1 r2_.2.1 (marks (1 : Int) r2_.2.2.1) (marks ((1 : Int) + tot r2_.2.2.1) r2_.2.2.2.1) (1 : Int)).bind fun r11_ =>
        if r11_ < 0 then
          some false
        else
          if r11_ = ((1 : Int) + tot r2_.2.2.1 + tot r2_.2.2.2.1) then
            some true
          else
            some false
  else
    some false
/-- laws.FnExactSinklessProblem -/
def k11 : SC :=
  .seq
    (.ops [
      ⟨(some 2), (Op.assign (Operand.const (Value.bool false))), 4, none⟩])
    (.seq
      (.ops [
        ⟨(some 12), (Op.move (Operand.tmp 0)), 3, none⟩,
        ⟨(some 13), (Op.call { callee := (Callee.value (Operand.func 39)), args := #[(Operand.tmp 12)], argTypes := #[3] }), 43, none⟩,
        ⟨(some 11), (Op.move (Operand.tmp 13)), 43, none⟩,
        ⟨(some 14), (Op.extract (Operand.tmp 11) 0), 39, none⟩,
        ⟨(some 15), (Op.extract (Operand.tmp 11) 1), 4, none⟩,
        ⟨(some 3), (Op.alloc 39), 0, none⟩,
        ⟨none, (Op.store 39 (Operand.tmp 3) (Operand.tmp 14)), 0, none⟩,
        ⟨(some 4), (Op.assign (Operand.tmp 15)), 4, none⟩])
      (.seq
        (.ops [
          ⟨(some 17), (Op.move (Operand.tmp 0)), 3, none⟩,
          ⟨(some 18), (Op.call { callee := (Callee.value (Operand.func 40)), args := #[(Operand.tmp 17)], argTypes := #[3] }), 43, none⟩,
          ⟨(some 16), (Op.move (Operand.tmp 18)), 43, none⟩,
          ⟨(some 19), (Op.extract (Operand.tmp 16) 0), 39, none⟩,
          ⟨(some 20), (Op.extract (Operand.tmp 16) 1), 4, none⟩,
          ⟨(some 5), (Op.alloc 39), 0, none⟩,
          ⟨none, (Op.store 39 (Operand.tmp 5) (Operand.tmp 19)), 0, none⟩,
          ⟨(some 6), (Op.assign (Operand.tmp 20)), 4, none⟩])
        (.seq
          (.seq
            (.ops [
              ⟨(some 21), (Op.load 39 (Operand.tmp 5)), 39, none⟩,
              ⟨(some 22), (Op.load 39 (Operand.tmp 3)), 39, none⟩,
              ⟨(some 23), (Op.call { callee := (Callee.value (Operand.func 28)), args := #[(Operand.tmp 21), (Operand.tmp 22)], argTypes := #[39, 39] }), 4, none⟩,
              ⟨(some 24), (Op.unOp UnOp.not 4 (Operand.tmp 23)), 4, none⟩,
              ⟨(some 25), (Op.move (Operand.tmp 24)), 4, none⟩,
              ⟨(some 26), (Op.move (Operand.tmp 6)), 4, (some (some 25, false))⟩,
              ⟨(some 27), (Op.move (Operand.tmp 4)), 4, (some (some 25, false))⟩,
              ⟨(some 28), (Op.binOp BinOp.neq 4 (Operand.tmp 26) (Operand.tmp 27) 4), 4, (some (some 25, false))⟩,
              ⟨(some 29), (Op.pick (Operand.tmp 25) (Operand.const (Value.bool true)) (Operand.tmp 28)), 4, none⟩])
            (.cond (Operand.tmp 29)
              (.seq
                (.ops [
                  ⟨(some 2), (Op.assign (Operand.const (Value.bool false))), 4, none⟩])
                .ret)
              .skip))
          (.seq
            (.ops [
              ⟨(some 7), (Op.assign (Operand.const (Value.int IntKind.i64 1))), 3, none⟩])
            (.seq
              (.ops [
                ⟨(some 30), (Op.load 39 (Operand.tmp 5)), 39, none⟩,
                ⟨(some 31), (Op.move (Operand.tmp 7)), 3, none⟩,
                ⟨(some 32), (Op.call { callee := (Callee.value (Operand.func 31)), args := #[(Operand.tmp 30), (Operand.tmp 31)], argTypes := #[39, 3] }), 3, none⟩,
                ⟨(some 7), (Op.assign (Operand.tmp 32)), 3, none⟩])
              (.seq
                (.ops [
                  ⟨(some 8), (Op.assign (Operand.const (Value.int IntKind.i64 1))), 3, none⟩])
                (.seq
                  (.ops [
                    ⟨(some 33), (Op.load 39 (Operand.tmp 5)), 39, none⟩,
                    ⟨(some 34), (Op.move (Operand.tmp 8)), 3, none⟩,
                    ⟨(some 35), (Op.call { callee := (Callee.value (Operand.func 32)), args := #[(Operand.tmp 33), (Operand.tmp 34)], argTypes := #[39, 3] }), 3, none⟩,
                    ⟨(some 8), (Op.assign (Operand.tmp 35)), 3, none⟩])
                  (.seq
                    (.seq
                      (.ops [
                        ⟨(some 36), (Op.move (Operand.tmp 8)), 3, none⟩,
                        ⟨(some 37), (Op.binOp BinOp.lss 3 (Operand.tmp 36) (Operand.const (Value.int IntKind.i64 0)) 3), 4, none⟩])
                      (.cond (Operand.tmp 37)
                        (.seq
                          (.ops [
                            ⟨(some 2), (Op.assign (Operand.const (Value.bool false))), 4, none⟩])
                          .ret)
                        .skip))
                    (.seq
                      (.seq
                        (.ops [
                          ⟨(some 38), (Op.move (Operand.tmp 8)), 3, none⟩,
                          ⟨(some 39), (Op.move (Operand.tmp 7)), 3, none⟩,
                          ⟨(some 40), (Op.binOp BinOp.neq 3 (Operand.tmp 38) (Operand.tmp 39) 3), 4, none⟩])
                        (.cond (Operand.tmp 40)
                          (.seq
                            (.ops [
                              ⟨(some 2), (Op.assign (Operand.const (Value.bool false))), 4, none⟩])
                            .ret)
                          .skip))
                      (.seq
                        (.ops [
                          ⟨(some 42), (Op.move (Operand.tmp 0)), 3, none⟩,
                          ⟨(some 43), (Op.call { callee := (Callee.value (Operand.func 40)), args := #[(Operand.tmp 42)], argTypes := #[3] }), 43, none⟩,
                          ⟨(some 41), (Op.move (Operand.tmp 43)), 43, none⟩,
                          ⟨(some 44), (Op.extract (Operand.tmp 41) 0), 39, none⟩,
                          ⟨(some 45), (Op.extract (Operand.tmp 41) 1), 4, none⟩,
                          ⟨(some 9), (Op.alloc 39), 0, none⟩,
                          ⟨none, (Op.store 39 (Operand.tmp 9) (Operand.tmp 44)), 0, none⟩,
                          ⟨(some 10), (Op.assign (Operand.tmp 45)), 4, none⟩])
                        (.seq
                          (.seq
                            (.ops [
                              ⟨(some 46), (Op.load 39 (Operand.tmp 9)), 39, none⟩,
                              ⟨(some 47), (Op.load 39 (Operand.tmp 3)), 39, none⟩,
                              ⟨(some 48), (Op.call { callee := (Callee.value (Operand.func 28)), args := #[(Operand.tmp 46), (Operand.tmp 47)], argTypes := #[39, 39] }), 4, none⟩,
                              ⟨(some 49), (Op.unOp UnOp.not 4 (Operand.tmp 48)), 4, none⟩,
                              ⟨(some 50), (Op.move (Operand.tmp 49)), 4, none⟩,
                              ⟨(some 51), (Op.move (Operand.tmp 10)), 4, (some (some 50, false))⟩,
                              ⟨(some 52), (Op.move (Operand.tmp 4)), 4, (some (some 50, false))⟩,
                              ⟨(some 53), (Op.binOp BinOp.neq 4 (Operand.tmp 51) (Operand.tmp 52) 4), 4, (some (some 50, false))⟩,
                              ⟨(some 54), (Op.pick (Operand.tmp 50) (Operand.const (Value.bool true)) (Operand.tmp 53)), 4, none⟩])
                            (.cond (Operand.tmp 54)
                              (.seq
                                (.ops [
                                  ⟨(some 2), (Op.assign (Operand.const (Value.bool false))), 4, none⟩])
                                .ret)
                              .skip))
                          (.seq
                            (.ops [
                              ⟨(some 8), (Op.assign (Operand.const (Value.int IntKind.i64 1))), 3, none⟩])
                            (.seq
                              (.ops [
                                ⟨(some 55), (Op.load 39 (Operand.tmp 5)), 39, none⟩,
                                ⟨(some 56), (Op.move (Operand.tmp 8)), 3, none⟩,
                                ⟨(some 57), (Op.call { callee := (Callee.value (Operand.func 32)), args := #[(Operand.tmp 55), (Operand.tmp 56)], argTypes := #[39, 3] }), 3, none⟩,
                                ⟨(some 8), (Op.assign (Operand.tmp 57)), 3, none⟩])
                              (.seq
                                (.seq
                                  (.ops [
                                    ⟨(some 58), (Op.move (Operand.tmp 8)), 3, none⟩,
                                    ⟨(some 59), (Op.binOp BinOp.lss 3 (Operand.tmp 58) (Operand.const (Value.int IntKind.i64 0)) 3), 4, none⟩])
                                  (.cond (Operand.tmp 59)
                                    (.seq
                                      (.ops [
                                        ⟨(some 2), (Op.assign (Operand.const (Value.bool false))), 4, none⟩])
                                      .ret)
                                    .skip))
                                (.seq
                                  (.seq
                                    (.ops [
                                      ⟨(some 60), (Op.move (Operand.tmp 8)), 3, none⟩,
                                      ⟨(some 61), (Op.move (Operand.tmp 7)), 3, none⟩,
                                      ⟨(some 62), (Op.binOp BinOp.neq 3 (Operand.tmp 60) (Operand.tmp 61) 3), 4, none⟩])
                                    (.cond (Operand.tmp 62)
                                      (.seq
                                        (.ops [
                                          ⟨(some 2), (Op.assign (Operand.const (Value.bool false))), 4, none⟩])
                                        .ret)
                                      .skip))
                                  (.seq
                                    (.ops [
                                      ⟨(some 2), (Op.assign (Operand.const (Value.bool true))), 4, none⟩])
                                    .ret))))))))))))))))
theorem slim11 : Try.f11.body.map (slim lends) = some k11 := by kernel_rfl
theorem ok11 : fnOk Try.f11 1 = true := by kernel_rfl
theorem c11 {a l : List D} {r : D × List D} (h : wpD Y.env k11 (fin tys l.length [ResultVar.tmp 2] r) (entry a l)) (ha : a.length = 1) : Y.call 11 a l = some r :=
  call_slim (Y := Y) rfl Try.func11 (ha ▸ ok11) slim11 h
theorem l_FnExactSinklessProblem_call (aD : Int) {r : Bool} (h : l_FnExactSinklessProblem aD = some r) : Y.call 11 [D.int .i64 aD] [] = some (D.bool r, []) := by
  refine c11 ?_ rfl
  unfold k11
  unfold l_FnExactSinklessProblem at h
  obtain ⟨r1_, hl1, h⟩ := bindS h
  try dsimp only at h
  have c1 := s_SinklessProblem_call aD hl1
  obtain ⟨r2_, hl2, h⟩ := bindS h
  try dsimp only at h
  have c2 := i_SinklessProblem_call aD hl2
  obtain ⟨e3, h⟩ := ckS h
  obtain ⟨e4, h⟩ := ckS h
  have c5 := l_eqProblem_cl r2_.1 r2_.2.1 r2_.2.2.1 r2_.2.2.2.1 r1_.1 r1_.2.1 r1_.2.2.1 r1_.2.2.2.1 e3 e4
  by_cases e6 : (sameP r2_.1 r2_.2.1 r2_.2.2.1 r2_.2.2.2.1 r1_.1 r1_.2.1 r1_.2.2.1 r1_.2.2.2.1) = true
  · rw [if_pos e6] at h
    by_cases e7 : r2_.2.2.2.2 = true
    · rw [if_pos e7] at h
      by_cases e8 : r1_.2.2.2.2 = true
      · rw [if_pos e8] at h
        obtain ⟨e9, h⟩ := ckS h
        have c10 := l_markProblem_cl r2_.1 r2_.2.1 r2_.2.2.1 r2_.2.2.2.1 (1 : Int) e3 e4 e9
        obtain ⟨r11_, hl11, h⟩ := bindS h
        try dsimp only at h
        have c11 := l_heldProblem_call r2_.1 r2_.2.1 (marks (1 : Int) r2_.2.2.1) (marks ((1 : Int) + tot r2_.2.2.1) r2_.2.2.2.1) (1 : Int) hl11
        by_cases e12 : r11_ < 0
        · rw [if_pos e12] at h
          obtain rfl := Option.some.inj h
          simp (maxDischargeDepth := 9) only [↓xpre, xpost, xlst, xcore, yset, rg0, ↓reduceIte, Nat.reduceEqDiff, Nat.reduceLT, Nat.reduceLeDiff, Nat.reduceAdd, Nat.reduceMul, Nat.reduceMod, Nat.reduceSub, Nat.reduceBEq, Int.reduceLE, Int.reduceLT, Int.reduceEq, Int.reduceSub, Int.reduceAdd, Int.reduceToNat, Int.reduceNeg, c1, c2, e3, e4, c5, e6, e7, e8, e9.1, e9.2, c10, c11, e12] <;> (repeat' apply And.intro) <;> first | rfl | exact ⟨_, rfl⟩ | simp [lst]
        · rw [if_neg e12] at h
          by_cases e13 : r11_ = ((1 : Int) + tot r2_.2.2.1 + tot r2_.2.2.2.1)
          · rw [if_pos e13] at h
            have c14 := l_eqProblem_cl r2_.1 r2_.2.1 r2_.2.2.1 r2_.2.2.2.1 r1_.1 r1_.2.1 r1_.2.2.1 r1_.2.2.2.1 e3 e4
            obtain rfl := Option.some.inj h
            simp (maxDischargeDepth := 9) only [↓xpre, xpost, xlst, xcore, yset, rg0, ↓reduceIte, Nat.reduceEqDiff, Nat.reduceLT, Nat.reduceLeDiff, Nat.reduceAdd, Nat.reduceMul, Nat.reduceMod, Nat.reduceSub, Nat.reduceBEq, Int.reduceLE, Int.reduceLT, Int.reduceEq, Int.reduceSub, Int.reduceAdd, Int.reduceToNat, Int.reduceNeg, c1, c2, e3, e4, c5, e6, e7, e8, e9.1, e9.2, c10, c11, e12, decide_eq_true e13, c14] <;> (repeat' apply And.intro) <;> first | rfl | exact ⟨_, rfl⟩ | simp [lst]
          · rw [if_neg e13] at h
            obtain rfl := Option.some.inj h
            simp (maxDischargeDepth := 9) only [↓xpre, xpost, xlst, xcore, yset, rg0, ↓reduceIte, Nat.reduceEqDiff, Nat.reduceLT, Nat.reduceLeDiff, Nat.reduceAdd, Nat.reduceMul, Nat.reduceMod, Nat.reduceSub, Nat.reduceBEq, Int.reduceLE, Int.reduceLT, Int.reduceEq, Int.reduceSub, Int.reduceAdd, Int.reduceToNat, Int.reduceNeg, c1, c2, e3, e4, c5, e6, e7, e8, e9.1, e9.2, c10, c11, e12, e13] <;> (repeat' apply And.intro) <;> first | rfl | exact ⟨_, rfl⟩ | simp [lst]
      · rw [if_neg e8] at h
        have e8f : r1_.2.2.2.2 = false := Bool.eq_false_iff.mpr e8
        obtain rfl := Option.some.inj h
        simp (maxDischargeDepth := 9) only [↓xpre, xpost, xlst, xcore, yset, rg0, ↓reduceIte, Nat.reduceEqDiff, Nat.reduceLT, Nat.reduceLeDiff, Nat.reduceAdd, Nat.reduceMul, Nat.reduceMod, Nat.reduceSub, Nat.reduceBEq, Int.reduceLE, Int.reduceLT, Int.reduceEq, Int.reduceSub, Int.reduceAdd, Int.reduceToNat, Int.reduceNeg, c1, c2, e3, e4, c5, e6, e7, e8f] <;> (repeat' apply And.intro) <;> first | rfl | exact ⟨_, rfl⟩ | simp [lst]
    · rw [if_neg e7] at h
      have e7f : r2_.2.2.2.2 = false := Bool.eq_false_iff.mpr e7
      by_cases e8 : r1_.2.2.2.2 = true
      · rw [if_pos e8] at h
        obtain rfl := Option.some.inj h
        simp (maxDischargeDepth := 9) only [↓xpre, xpost, xlst, xcore, yset, rg0, ↓reduceIte, Nat.reduceEqDiff, Nat.reduceLT, Nat.reduceLeDiff, Nat.reduceAdd, Nat.reduceMul, Nat.reduceMod, Nat.reduceSub, Nat.reduceBEq, Int.reduceLE, Int.reduceLT, Int.reduceEq, Int.reduceSub, Int.reduceAdd, Int.reduceToNat, Int.reduceNeg, c1, c2, e3, e4, c5, e6, e7f, e8] <;> (repeat' apply And.intro) <;> first | rfl | exact ⟨_, rfl⟩ | simp [lst]
      · rw [if_neg e8] at h
        have e8f : r1_.2.2.2.2 = false := Bool.eq_false_iff.mpr e8
        obtain ⟨e9, h⟩ := ckS h
        have c10 := l_markProblem_cl r2_.1 r2_.2.1 r2_.2.2.1 r2_.2.2.2.1 (1 : Int) e3 e4 e9
        obtain ⟨r11_, hl11, h⟩ := bindS h
        try dsimp only at h
        have c11 := l_heldProblem_call r2_.1 r2_.2.1 (marks (1 : Int) r2_.2.2.1) (marks ((1 : Int) + tot r2_.2.2.1) r2_.2.2.2.1) (1 : Int) hl11
        by_cases e12 : r11_ < 0
        · rw [if_pos e12] at h
          obtain rfl := Option.some.inj h
          simp (maxDischargeDepth := 9) only [↓xpre, xpost, xlst, xcore, yset, rg0, ↓reduceIte, Nat.reduceEqDiff, Nat.reduceLT, Nat.reduceLeDiff, Nat.reduceAdd, Nat.reduceMul, Nat.reduceMod, Nat.reduceSub, Nat.reduceBEq, Int.reduceLE, Int.reduceLT, Int.reduceEq, Int.reduceSub, Int.reduceAdd, Int.reduceToNat, Int.reduceNeg, c1, c2, e3, e4, c5, e6, e7f, e8f, e9.1, e9.2, c10, c11, e12] <;> (repeat' apply And.intro) <;> first | rfl | exact ⟨_, rfl⟩ | simp [lst]
        · rw [if_neg e12] at h
          by_cases e13 : r11_ = ((1 : Int) + tot r2_.2.2.1 + tot r2_.2.2.2.1)
          · rw [if_pos e13] at h
            have c14 := l_eqProblem_cl r2_.1 r2_.2.1 r2_.2.2.1 r2_.2.2.2.1 r1_.1 r1_.2.1 r1_.2.2.1 r1_.2.2.2.1 e3 e4
            obtain rfl := Option.some.inj h
            simp (maxDischargeDepth := 9) only [↓xpre, xpost, xlst, xcore, yset, rg0, ↓reduceIte, Nat.reduceEqDiff, Nat.reduceLT, Nat.reduceLeDiff, Nat.reduceAdd, Nat.reduceMul, Nat.reduceMod, Nat.reduceSub, Nat.reduceBEq, Int.reduceLE, Int.reduceLT, Int.reduceEq, Int.reduceSub, Int.reduceAdd, Int.reduceToNat, Int.reduceNeg, c1, c2, e3, e4, c5, e6, e7f, e8f, e9.1, e9.2, c10, c11, e12, decide_eq_true e13, c14] <;> (repeat' apply And.intro) <;> first | rfl | exact ⟨_, rfl⟩ | simp [lst]
          · rw [if_neg e13] at h
            obtain rfl := Option.some.inj h
            simp (maxDischargeDepth := 9) only [↓xpre, xpost, xlst, xcore, yset, rg0, ↓reduceIte, Nat.reduceEqDiff, Nat.reduceLT, Nat.reduceLeDiff, Nat.reduceAdd, Nat.reduceMul, Nat.reduceMod, Nat.reduceSub, Nat.reduceBEq, Int.reduceLE, Int.reduceLT, Int.reduceEq, Int.reduceSub, Int.reduceAdd, Int.reduceToNat, Int.reduceNeg, c1, c2, e3, e4, c5, e6, e7f, e8f, e9.1, e9.2, c10, c11, e12, e13] <;> (repeat' apply And.intro) <;> first | rfl | exact ⟨_, rfl⟩ | simp [lst]
  · rw [if_neg e6] at h
    have e6f : (sameP r2_.1 r2_.2.1 r2_.2.2.1 r2_.2.2.2.1 r1_.1 r1_.2.1 r1_.2.2.1 r1_.2.2.2.1) = false := Bool.eq_false_iff.mpr e6
    obtain rfl := Option.some.inj h
    simp (maxDischargeDepth := 9) only [↓xpre, xpost, xlst, xcore, yset, rg0, ↓reduceIte, Nat.reduceEqDiff, Nat.reduceLT, Nat.reduceLeDiff, Nat.reduceAdd, Nat.reduceMul, Nat.reduceMod, Nat.reduceSub, Nat.reduceBEq, Int.reduceLE, Int.reduceLT, Int.reduceEq, Int.reduceSub, Int.reduceAdd, Int.reduceToNat, Int.reduceNeg, c1, c2, e3, e4, c5, e6f] <;> (repeat' apply And.intro) <;> first | rfl | exact ⟨_, rfl⟩ | simp [lst]

theorem sinkless_law (d : Int) : l_FnExactSinklessProblem d = some true := by
  obtain ⟨L, K, N, E, ok, hN, hE, ⟨t1, t2, t3⟩, hS, hI⟩ := sinkless_both d
  have hh := l_heldProblem_eq L K N E 1 hN hE (by omega)
  have g4 : (0 : Int) ≤ 1 ∧ 1 + tot N + tot E < 1099511627776 := by omega
  have g5 : ¬ 1 + tot N + tot E < 0 := by omega
  unfold l_FnExactSinklessProblem
  simp only [hS, hI, Option.bind_some, ckT hN, ckT hE, sameP_refl, if_true, ckT g4, hh, if_neg g5]
  cases ok <;> rfl
theorem sinkless_all (ds : List D) (h : Args tys [3] ds) : Y.call 11 ds [] = some (.bool true, []) := by
  rcases ds with _ | ⟨d, _ | ⟨_, _⟩⟩
  · cases h
  · obtain ⟨n, rfl, _⟩ := argInt ty3 h.1
    exact l_FnExactSinklessProblem_call n (sinkless_law n)
  · exact h.2.elim

end Go.Proofs.Ythaimoghceamnaa
