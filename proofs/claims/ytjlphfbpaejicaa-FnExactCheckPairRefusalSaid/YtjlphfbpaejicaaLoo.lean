/- Edges looked up, the labels with a loop, as plain functions; the law. Conditions: none. -/
import Derived.Test.YtjlphfbpaejicaaL6
import Derived.Test.YtjlphfbpaejicaaBth
namespace Go.Proofs.Ytjlphfbpaejicaa
open Go Dv
set_option linter.unusedSimpArgs false
set_option linter.unusedVariables false
set_option maxRecDepth 100000
set_option maxHeartbeats 4000000

/-- An edge is allowed. -/
def hasE (es : List (List Int)) (a b : Int) : Bool := es.contains (if b < a then [b, a] else [a, b])
noncomputable def i_Problem_edge (p_Labels : Int) (p_Degree : Int) (p_Nodes : List (List Int)) (p_Edges : List (List Int)) (a : Int) (b : Int) : Option (Bool) :=
  ck (Short p_Edges) <|
  ck ([a, b].length < 1099511627776) <|
  ck (incL p_Edges = true) <|
  some (p_Edges.contains (sortI [a, b]))
/-- impl.Problem).edge -/
def k59 : SC :=
  .seq
    (.ops [
      ⟨(some 3), (Op.box 28 (Operand.tmp 0)), 0, none⟩,
      ⟨(some 6), (Op.assign (Operand.const (Value.bool false))), 4, none⟩])
    (.seq
      (.ops [
        ⟨(some 7), (Op.fieldAddr 28 (Operand.tmp 3) 3), 0, none⟩,
        ⟨(some 8), (Op.load 22 (Operand.tmp 7)), 22, none⟩,
        ⟨(some 9), (Op.move (Operand.tmp 1)), 3, none⟩,
        ⟨(some 10), (Op.move (Operand.tmp 2)), 3, none⟩,
        ⟨(some 11), (Op.buildSlice 32 2 #[(0, (Operand.tmp 9)), (1, (Operand.tmp 10))]), 32, none⟩,
        ⟨(some 12), (Op.call { callee := (Callee.value (Operand.func 81)), args := #[(Operand.tmp 8), (Operand.tmp 11)], argTypes := #[22, 32] }), 4, none⟩,
        ⟨(some 6), (Op.assign (Operand.tmp 12)), 4, none⟩])
      .ret)
theorem slim59 : Try.f59.body.map (slim lends) = some k59 := by kernel_rfl
theorem ok59 : fnOk Try.f59 3 = true := by kernel_rfl
theorem c59 {a l : List D} {r : D × List D} (h : wpD Y.env k59 (fin tys l.length [ResultVar.tmp 6] r) (entry a l)) (ha : a.length = 3) : Y.call 59 a l = some r :=
  call_slim (Y := Y) rfl Try.func59 (ha ▸ ok59) slim59 h
theorem i_Problem_edge_call (p_Labels : Int) (p_Degree : Int) (p_Nodes : List (List Int)) (p_Edges : List (List Int)) (a : Int) (b : Int) {r : Bool} (h : i_Problem_edge p_Labels p_Degree p_Nodes p_Edges a b = some r) : Y.call 59 [D.agg [D.int .i64 p_Labels, D.int .i64 p_Degree, D.sl 32 (lst (fun x => D.sl 3 (lst (D.int .i64) x)) p_Nodes), D.sl 32 (lst (fun x => D.sl 3 (lst (D.int .i64) x)) p_Edges)], D.int .i64 a, D.int .i64 b] [] = some (D.bool r, []) := by
  refine c59 ?_ rfl
  unfold k59
  unfold i_Problem_edge at h
  obtain ⟨e1, h⟩ := ckS h
  obtain ⟨e2, h⟩ := ckS h
  obtain ⟨e3, h⟩ := ckS h
  have c4 := i_hasConfiguration_cl p_Edges [a, b] e1 e2 e3
  simp only [lst_cons, lst_nil, cat_cons, cat_nil, List.append_nil, List.cons_append, List.nil_append] at c4
  obtain rfl := Option.some.inj h
  simp (maxDischargeDepth := 9) only [↓xpre, xpost, xlst, xcore, yset, rg0, ↓reduceIte, Nat.reduceEqDiff, Nat.reduceLT, Nat.reduceLeDiff, Nat.reduceAdd, Nat.reduceMul, Nat.reduceMod, Nat.reduceSub, Nat.reduceBEq, Int.reduceLE, Int.reduceLT, Int.reduceEq, Int.reduceSub, Int.reduceAdd, Int.reduceToNat, Int.reduceNeg, e1, e2, e3, c4] <;> (repeat' apply And.intro) <;> first | rfl | exact ⟨_, rfl⟩ | simp [lst]

noncomputable def s_l1Least (a : Int) (b : Int) : Option (Int) :=
  if a < b then
    some a
  else
    some b
/-- spec.l1Least -/
def k84 : SC :=
  .seq
    (.ops [
      ⟨(some 4), (Op.assign (Operand.const (Value.int IntKind.i64 0))), 3, none⟩])
    (.seq
      (.seq
        (.ops [
          ⟨(some 5), (Op.move (Operand.tmp 0)), 3, none⟩,
          ⟨(some 6), (Op.move (Operand.tmp 1)), 3, none⟩,
          ⟨(some 7), (Op.binOp BinOp.lss 3 (Operand.tmp 5) (Operand.tmp 6) 3), 4, none⟩])
        (.cond (Operand.tmp 7)
          (.seq
            (.ops [
              ⟨(some 8), (Op.move (Operand.tmp 0)), 3, none⟩,
              ⟨(some 4), (Op.assign (Operand.tmp 8)), 3, none⟩])
            .ret)
          .skip))
      (.seq
        (.ops [
          ⟨(some 9), (Op.move (Operand.tmp 1)), 3, none⟩,
          ⟨(some 4), (Op.assign (Operand.tmp 9)), 3, none⟩])
        .ret))
theorem slim84 : Try.f84.body.map (slim lends) = some k84 := by kernel_rfl
theorem ok84 : fnOk Try.f84 2 = true := by kernel_rfl
theorem c84 {a l : List D} {r : D × List D} (h : wpD Y.env k84 (fin tys l.length [ResultVar.tmp 4] r) (entry a l)) (ha : a.length = 2) : Y.call 84 a l = some r :=
  call_slim (Y := Y) rfl Try.func84 (ha ▸ ok84) slim84 h
theorem s_l1Least_call (a : Int) (b : Int) {r : Int} (h : s_l1Least a b = some r) : Y.call 84 [D.int .i64 a, D.int .i64 b] [] = some (D.int .i64 r, []) := by
  refine c84 ?_ rfl
  unfold k84
  unfold s_l1Least at h
  by_cases e1 : a < b
  · rw [if_pos e1] at h
    obtain rfl := Option.some.inj h
    simp (maxDischargeDepth := 9) only [↓xpre, xpost, xlst, xcore, yset, rg0, ↓reduceIte, Nat.reduceEqDiff, Nat.reduceLT, Nat.reduceLeDiff, Nat.reduceAdd, Nat.reduceMul, Nat.reduceMod, Nat.reduceSub, Nat.reduceBEq, Int.reduceLE, Int.reduceLT, Int.reduceEq, Int.reduceSub, Int.reduceAdd, Int.reduceToNat, Int.reduceNeg, e1] <;> (repeat' apply And.intro) <;> first | rfl | exact ⟨_, rfl⟩ | simp [lst]
  · rw [if_neg e1] at h
    obtain rfl := Option.some.inj h
    simp (maxDischargeDepth := 9) only [↓xpre, xpost, xlst, xcore, yset, rg0, ↓reduceIte, Nat.reduceEqDiff, Nat.reduceLT, Nat.reduceLeDiff, Nat.reduceAdd, Nat.reduceMul, Nat.reduceMod, Nat.reduceSub, Nat.reduceBEq, Int.reduceLE, Int.reduceLT, Int.reduceEq, Int.reduceSub, Int.reduceAdd, Int.reduceToNat, Int.reduceNeg, e1] <;> (repeat' apply And.intro) <;> first | rfl | exact ⟨_, rfl⟩ | simp [lst]

noncomputable def s_l1Most (a : Int) (b : Int) : Option (Int) :=
  if b < a then
    some a
  else
    some b
/-- spec.l1Most -/
def k85 : SC :=
  .seq
    (.ops [
      ⟨(some 4), (Op.assign (Operand.const (Value.int IntKind.i64 0))), 3, none⟩])
    (.seq
      (.seq
        (.ops [
          ⟨(some 5), (Op.move (Operand.tmp 0)), 3, none⟩,
          ⟨(some 6), (Op.move (Operand.tmp 1)), 3, none⟩,
          ⟨(some 7), (Op.binOp BinOp.gtr 3 (Operand.tmp 5) (Operand.tmp 6) 3), 4, none⟩])
        (.cond (Operand.tmp 7)
          (.seq
            (.ops [
              ⟨(some 8), (Op.move (Operand.tmp 0)), 3, none⟩,
              ⟨(some 4), (Op.assign (Operand.tmp 8)), 3, none⟩])
            .ret)
          .skip))
      (.seq
        (.ops [
          ⟨(some 9), (Op.move (Operand.tmp 1)), 3, none⟩,
          ⟨(some 4), (Op.assign (Operand.tmp 9)), 3, none⟩])
        .ret))
theorem slim85 : Try.f85.body.map (slim lends) = some k85 := by kernel_rfl
theorem ok85 : fnOk Try.f85 2 = true := by kernel_rfl
theorem c85 {a l : List D} {r : D × List D} (h : wpD Y.env k85 (fin tys l.length [ResultVar.tmp 4] r) (entry a l)) (ha : a.length = 2) : Y.call 85 a l = some r :=
  call_slim (Y := Y) rfl Try.func85 (ha ▸ ok85) slim85 h
theorem s_l1Most_call (a : Int) (b : Int) {r : Int} (h : s_l1Most a b = some r) : Y.call 85 [D.int .i64 a, D.int .i64 b] [] = some (D.int .i64 r, []) := by
  refine c85 ?_ rfl
  unfold k85
  unfold s_l1Most at h
  by_cases e1 : b < a
  · rw [if_pos e1] at h
    obtain rfl := Option.some.inj h
    simp (maxDischargeDepth := 9) only [↓xpre, xpost, xlst, xcore, yset, rg0, ↓reduceIte, Nat.reduceEqDiff, Nat.reduceLT, Nat.reduceLeDiff, Nat.reduceAdd, Nat.reduceMul, Nat.reduceMod, Nat.reduceSub, Nat.reduceBEq, Int.reduceLE, Int.reduceLT, Int.reduceEq, Int.reduceSub, Int.reduceAdd, Int.reduceToNat, Int.reduceNeg, e1] <;> (repeat' apply And.intro) <;> first | rfl | exact ⟨_, rfl⟩ | simp [lst]
  · rw [if_neg e1] at h
    obtain rfl := Option.some.inj h
    simp (maxDischargeDepth := 9) only [↓xpre, xpost, xlst, xcore, yset, rg0, ↓reduceIte, Nat.reduceEqDiff, Nat.reduceLT, Nat.reduceLeDiff, Nat.reduceAdd, Nat.reduceMul, Nat.reduceMod, Nat.reduceSub, Nat.reduceBEq, Int.reduceLE, Int.reduceLT, Int.reduceEq, Int.reduceSub, Int.reduceAdd, Int.reduceToNat, Int.reduceNeg, e1] <;> (repeat' apply And.intro) <;> first | rfl | exact ⟨_, rfl⟩ | simp [lst]

noncomputable def s_prEdge (p_Labels : Int) (p_Degree : Int) (p_Nodes : List (List Int)) (p_Edges : List (List Int)) (a : Int) (b : Int) : Option (Bool) :=
  (s_l1Least a b).bind fun r1_ =>
  (s_l1Most a b).bind fun r2_ =>
  ck (p_Edges.length < 1099511627776) <|
  ck ([r1_, r2_].length < 1099511627776) <|
  some (p_Edges.contains [r1_, r2_])
/-- spec.prEdge -/
def k57 : SC :=
  .seq
    (.ops [
      ⟨(some 3), (Op.box 28 (Operand.tmp 0)), 0, none⟩,
      ⟨(some 6), (Op.assign (Operand.const (Value.bool false))), 4, none⟩])
    (.seq
      (.draws [
        (⟨[7, 3, 3], [7, 8, 9, 10, 11, 12, 13, 14, 15, 11, 14, 11, 14, 16, 6, 16, 16], [7]⟩, ⟨(some 7), (Op.fieldAddr 28 (Operand.tmp 3) 3), 0, none⟩),
        (⟨[8, 7, 3], [7, 8, 9, 10, 11, 12, 13, 14, 15, 11, 14, 11, 14, 16, 6, 16, 16], [8]⟩, ⟨(some 8), (Op.load 22 (Operand.tmp 7)), 22, none⟩),
        (⟨[9, 1, 1], [7, 8, 9, 10, 11, 12, 13, 14, 15, 11, 14, 11, 14, 16, 6, 16, 16], [9]⟩, ⟨(some 9), (Op.move (Operand.tmp 1)), 3, none⟩),
        (⟨[10, 2, 2], [7, 8, 9, 10, 11, 12, 13, 14, 15, 11, 14, 11, 14, 16, 6, 16, 16], [10]⟩, ⟨(some 10), (Op.move (Operand.tmp 2)), 3, none⟩),
        (⟨[11, 9, 10, 1, 2], [7, 8, 9, 10, 11, 12, 13, 14, 15, 11, 14, 11, 14, 16, 6, 16, 16], [11]⟩, ⟨(some 11), (Op.call { callee := (Callee.value (Operand.func 84)), args := #[(Operand.tmp 9), (Operand.tmp 10)], argTypes := #[3, 3] }), 3, none⟩),
        (⟨[12, 1, 1], [7, 8, 9, 10, 11, 12, 13, 14, 15, 11, 14, 11, 14, 16, 6, 16, 16], [12]⟩, ⟨(some 12), (Op.move (Operand.tmp 1)), 3, none⟩),
        (⟨[13, 2, 2], [7, 8, 9, 10, 11, 12, 13, 14, 15, 11, 14, 11, 14, 16, 6, 16, 16], [13]⟩, ⟨(some 13), (Op.move (Operand.tmp 2)), 3, none⟩),
        (⟨[14, 12, 13, 1, 2], [7, 8, 9, 10, 11, 12, 13, 14, 15, 11, 14, 11, 14, 16, 6, 16, 16], [14]⟩, ⟨(some 14), (Op.call { callee := (Callee.value (Operand.func 85)), args := #[(Operand.tmp 12), (Operand.tmp 13)], argTypes := #[3, 3] }), 3, none⟩),
        (⟨[15, 11, 14, 11, 14], [7, 8, 9, 10, 11, 12, 13, 14, 15, 11, 14, 11, 14, 16, 6, 16, 16], [15, 11, 14, 11, 14]⟩, ⟨(some 15), (Op.buildSlice 32 2 #[(0, (Operand.tmp 11)), (1, (Operand.tmp 14))]), 32, none⟩),
        (⟨[16, 8, 15, 3, 15], [7, 8, 9, 10, 11, 12, 13, 14, 15, 11, 14, 11, 14, 16, 6, 16, 16], [16]⟩, ⟨(some 16), (Op.call { callee := (Callee.value (Operand.func 80)), args := #[(Operand.tmp 8), (Operand.tmp 15)], argTypes := #[22, 32] }), 4, none⟩),
        (⟨[6, 16, 16], [7, 8, 9, 10, 11, 12, 13, 14, 15, 11, 14, 11, 14, 16, 6, 16, 16], [6, 16, 16]⟩, ⟨(some 6), (Op.assign (Operand.tmp 16)), 4, none⟩)])
      .ret)
theorem slim57 : Try.f57.body.map (slim lends) = some k57 := by kernel_rfl
theorem ok57 : fnOk Try.f57 3 = true := by kernel_rfl
theorem c57 {a l : List D} {r : D × List D} (h : wpD Y.env k57 (fin tys l.length [ResultVar.tmp 6] r) (entry a l)) (ha : a.length = 3) : Y.call 57 a l = some r :=
  call_slim (Y := Y) rfl Try.func57 (ha ▸ ok57) slim57 h
theorem s_prEdge_call (p_Labels : Int) (p_Degree : Int) (p_Nodes : List (List Int)) (p_Edges : List (List Int)) (a : Int) (b : Int) {r : Bool} (h : s_prEdge p_Labels p_Degree p_Nodes p_Edges a b = some r) : Y.call 57 [D.agg [D.int .i64 p_Labels, D.int .i64 p_Degree, D.sl 32 (lst (fun x => D.sl 3 (lst (D.int .i64) x)) p_Nodes), D.sl 32 (lst (fun x => D.sl 3 (lst (D.int .i64) x)) p_Edges)], D.int .i64 a, D.int .i64 b] [] = some (D.bool r, []) := by
  refine c57 ?_ rfl
  unfold k57
  unfold s_prEdge at h
  obtain ⟨r1_, hl1, h⟩ := bindS h
  try dsimp only at h
  have c1 := s_l1Least_call a b hl1
  obtain ⟨r2_, hl2, h⟩ := bindS h
  try dsimp only at h
  have c2 := s_l1Most_call a b hl2
  obtain ⟨e3, h⟩ := ckS h
  obtain ⟨e4, h⟩ := ckS h
  have c5 := s_prHas_cl p_Edges [r1_, r2_] e3 e4
  simp only [lst_cons, lst_nil, cat_cons, cat_nil, List.append_nil, List.cons_append, List.nil_append] at c5
  obtain rfl := Option.some.inj h
  simp (maxDischargeDepth := 9) only [↓xpre, xpost, xlst, xcore, yset, rg0, ↓reduceIte, Nat.reduceEqDiff, Nat.reduceLT, Nat.reduceLeDiff, Nat.reduceAdd, Nat.reduceMul, Nat.reduceMod, Nat.reduceSub, Nat.reduceBEq, Int.reduceLE, Int.reduceLT, Int.reduceEq, Int.reduceSub, Int.reduceAdd, Int.reduceToNat, Int.reduceNeg, c1, c2, e3, e4, c5] <;> (repeat' apply And.intro) <;> first | rfl | exact ⟨_, rfl⟩ | simp [lst]

theorem i_Problem_edge_eq (l d : Int) (ns es : List (List Int)) (a b : Int) (h1 : Short es) (h2 : incL es = true) : i_Problem_edge l d ns es a b = some (hasE es a b) := by
  unfold i_Problem_edge hasE
  rw [ckT h1, ckT (by simp), ckT h2, sortI_two]
theorem s_prEdge_eq (l d : Int) (ns es : List (List Int)) (a b : Int) (h1 : Short es) : s_prEdge l d ns es a b = some (hasE es a b) := by
  unfold s_prEdge s_l1Least s_l1Most hasE
  by_cases q1 : a < b
  · rw [if_pos q1, if_neg (by omega), if_neg (by omega), Option.bind_some, Option.bind_some, ckT h1.1, ckT (by simp)]
  · by_cases q2 : b < a
    · rw [if_neg q1, if_pos q2, if_pos q2, Option.bind_some, Option.bind_some, ckT h1.1, ckT (by simp)]
    · have : a = b := by omega
      subst this
      rw [if_neg q1, if_neg q1, Option.bind_some, Option.bind_some, ckT h1.1, ckT (by simp)]
theorem i_Problem_edge_cl (p_Labels : Int) (p_Degree : Int) (p_Nodes : List (List Int)) (p_Edges : List (List Int)) (a : Int) (b : Int) (h0 : Short p_Edges) (h1 : incL p_Edges = true) : Y.call 59 [D.agg [D.int .i64 p_Labels, D.int .i64 p_Degree, D.sl 32 (lst (fun x => D.sl 3 (lst (D.int .i64) x)) p_Nodes), D.sl 32 (lst (fun x => D.sl 3 (lst (D.int .i64) x)) p_Edges)], D.int .i64 a, D.int .i64 b] [] = some (D.bool (hasE p_Edges a b), []) := i_Problem_edge_call p_Labels p_Degree p_Nodes p_Edges a b (i_Problem_edge_eq p_Labels p_Degree p_Nodes p_Edges a b h0 h1)
theorem s_prEdge_cl (p_Labels : Int) (p_Degree : Int) (p_Nodes : List (List Int)) (p_Edges : List (List Int)) (a : Int) (b : Int) (h0 : Short p_Edges) : Y.call 57 [D.agg [D.int .i64 p_Labels, D.int .i64 p_Degree, D.sl 32 (lst (fun x => D.sl 3 (lst (D.int .i64) x)) p_Nodes), D.sl 32 (lst (fun x => D.sl 3 (lst (D.int .i64) x)) p_Edges)], D.int .i64 a, D.int .i64 b] [] = some (D.bool (hasE p_Edges a b), []) := s_prEdge_call p_Labels p_Degree p_Nodes p_Edges a b (s_prEdge_eq p_Labels p_Degree p_Nodes p_Edges a b h0)
/-- spec.LoopLabels -/
def k20_l0b : SC :=
  .seq
    (.seq
      (.ops [
        ⟨(some 9), (Op.move (Operand.tmp 5)), 3, none⟩,
        ⟨(some 10), (Op.fieldAddr 28 (Operand.tmp 1) 0), 0, none⟩,
        ⟨(some 11), (Op.load 3 (Operand.tmp 10)), 3, none⟩,
        ⟨(some 12), (Op.binOp BinOp.lss 3 (Operand.tmp 9) (Operand.tmp 11) 3), 4, none⟩])
      (.cond (Operand.tmp 12)
        .skip
        (.exit 0)))
    (.seq
      (.block 1
        (.seq
          (.ops [
            ⟨(some 15), (Op.load 28 (Operand.tmp 1)), 28, none⟩,
            ⟨(some 16), (Op.move (Operand.tmp 5)), 3, none⟩,
            ⟨(some 17), (Op.move (Operand.tmp 5)), 3, none⟩,
            ⟨(some 18), (Op.call { callee := (Callee.value (Operand.func 57)), args := #[(Operand.tmp 15), (Operand.tmp 16), (Operand.tmp 17)], argTypes := #[28, 3, 3] }), 4, none⟩])
          (.cond (Operand.tmp 18)
            (.ops [
              ⟨(some 19), (Op.move (Operand.tmp 4)), 32, none⟩,
              ⟨(some 20), (Op.move (Operand.tmp 5)), 3, none⟩,
              ⟨(some 21), (Op.buildSlice 32 1 #[(0, (Operand.tmp 20))]), 32, none⟩,
              ⟨(some 22), (Op.call { callee := (Callee.builtin Builtin.append), args := #[(Operand.tmp 19), (Operand.tmp 21)], argTypes := #[32, 32] }), 32, none⟩,
              ⟨(some 4), (Op.assign (Operand.tmp 22)), 32, none⟩])
            .skip)))
      (.ops [
        ⟨(some 13), (Op.move (Operand.tmp 5)), 3, none⟩,
        ⟨(some 14), (Op.binOp BinOp.add 3 (Operand.tmp 13) (Operand.const (Value.int IntKind.i64 1)) 3), 3, none⟩,
        ⟨(some 5), (Op.assign (Operand.tmp 14)), 3, none⟩]))
def k20_l0 : SC := .loop k20_l0b
def k20 : SC :=
  .seq
    (.ops [
      ⟨(some 1), (Op.box 28 (Operand.tmp 0)), 0, none⟩,
      ⟨(some 2), (Op.assign (Operand.const (Value.slice none 0 0))), 32, none⟩,
      ⟨(some 3), (Op.assign (Operand.const (Value.bool false))), 4, none⟩])
    (.seq
      (.seq
        (.ops [
          ⟨(some 6), (Op.load 28 (Operand.tmp 1)), 28, none⟩,
          ⟨(some 7), (Op.call { callee := (Callee.value (Operand.func 56)), args := #[(Operand.tmp 6)], argTypes := #[28] }), 4, none⟩,
          ⟨(some 8), (Op.unOp UnOp.not 4 (Operand.tmp 7)), 4, none⟩])
        (.cond (Operand.tmp 8)
          (.seq
            (.ops [
              ⟨(some 2), (Op.assign (Operand.const (Value.slice none 0 0))), 32, none⟩,
              ⟨(some 3), (Op.assign (Operand.const (Value.bool false))), 4, none⟩])
            .ret)
          .skip))
      (.seq
        (.ops [
          ⟨(some 4), (Op.assign (Operand.const (Value.slice none 0 0))), 32, none⟩])
        (.seq
          (.seq
            (.ops [
              ⟨(some 5), (Op.assign (Operand.const (Value.int IntKind.i64 0))), 3, none⟩])
            (.block 0
              k20_l0))
          (.seq
            (.ops [
              ⟨(some 23), (Op.move (Operand.tmp 4)), 32, none⟩,
              ⟨(some 2), (Op.assign (Operand.tmp 23)), 32, none⟩,
              ⟨(some 3), (Op.assign (Operand.const (Value.bool true))), 4, none⟩])
            .ret))))
theorem slim20 : Try.f20.body.map (slim lends) = some k20 := by kernel_rfl
theorem ok20 : fnOk Try.f20 1 = true := by kernel_rfl
theorem c20 {a l : List D} {r : D × List D} (h : wpD Y.env k20 (fin tys l.length [ResultVar.tmp 2, ResultVar.tmp 3] r) (entry a l)) (ha : a.length = 1) : Y.call 20 a l = some r :=
  call_slim (Y := Y) rfl Try.func20 (ha ▸ ok20) slim20 h
/-- laws.FnExactLoopLabels -/
def k4 : SC :=
  .seq
    (.ops [
      ⟨(some 1), (Op.box 24 (Operand.tmp 0)), 0, none⟩,
      ⟨(some 2), (Op.assign (Operand.const (Value.bool false))), 4, none⟩])
    (.seq
      (.ops [
        ⟨(some 3), (Op.assign (Operand.const (Value.int IntKind.i64 1048576))), 3, none⟩])
      (.seq
        (.ops [
          ⟨(some 14), (Op.load 24 (Operand.tmp 1)), 24, none⟩,
          ⟨(some 15), (Op.move (Operand.tmp 3)), 3, none⟩,
          ⟨(some 16), (Op.call { callee := (Callee.value (Operand.func 15)), args := #[(Operand.tmp 14), (Operand.tmp 15)], argTypes := #[24, 3] }), 3, none⟩,
          ⟨(some 3), (Op.assign (Operand.tmp 16)), 3, none⟩])
        (.seq
          (.seq
            (.ops [
              ⟨(some 17), (Op.move (Operand.tmp 3)), 3, none⟩,
              ⟨(some 18), (Op.binOp BinOp.lss 3 (Operand.tmp 17) (Operand.const (Value.int IntKind.i64 0)) 3), 4, none⟩])
            (.cond (Operand.tmp 18)
              (.seq
                (.ops [
                  ⟨(some 2), (Op.assign (Operand.const (Value.bool true))), 4, none⟩])
                .ret)
              .skip))
          (.seq
            (.ops [
              ⟨(some 20), (Op.load 24 (Operand.tmp 1)), 24, none⟩,
              ⟨(some 21), (Op.call { callee := (Callee.value (Operand.func 17)), args := #[(Operand.tmp 20)], argTypes := #[24] }), 28, none⟩,
              ⟨(some 22), (Op.call { callee := (Callee.value (Operand.func 20)), args := #[(Operand.tmp 21)], argTypes := #[28] }), 33, none⟩,
              ⟨(some 19), (Op.move (Operand.tmp 22)), 33, none⟩,
              ⟨(some 23), (Op.extract (Operand.tmp 19) 0), 32, none⟩,
              ⟨(some 24), (Op.extract (Operand.tmp 19) 1), 4, none⟩,
              ⟨(some 4), (Op.assign (Operand.tmp 23)), 32, none⟩,
              ⟨(some 5), (Op.assign (Operand.tmp 24)), 4, none⟩])
            (.seq
              (.ops [
                ⟨(some 25), (Op.load 24 (Operand.tmp 1)), 24, none⟩,
                ⟨(some 26), (Op.call { callee := (Callee.value (Operand.func 17)), args := #[(Operand.tmp 25)], argTypes := #[24] }), 28, none⟩,
                ⟨(some 6), (Op.alloc 28), 0, none⟩,
                ⟨none, (Op.store 28 (Operand.tmp 6) (Operand.tmp 26)), 0, none⟩])
              (.seq
                (.ops [
                  ⟨(some 28), (Op.load 28 (Operand.tmp 6)), 28, none⟩,
                  ⟨(some 29), (Op.call { callee := (Callee.value (Operand.func 21)), args := #[(Operand.tmp 28)], argTypes := #[28] }), 33, none⟩,
                  ⟨(some 27), (Op.move (Operand.tmp 29)), 33, none⟩,
                  ⟨(some 30), (Op.extract (Operand.tmp 27) 0), 32, none⟩,
                  ⟨(some 31), (Op.extract (Operand.tmp 27) 1), 4, none⟩,
                  ⟨(some 7), (Op.assign (Operand.tmp 30)), 32, none⟩,
                  ⟨(some 8), (Op.assign (Operand.tmp 31)), 4, none⟩])
                (.seq
                  (.seq
                    (.ops [
                      ⟨(some 32), (Op.move (Operand.tmp 7)), 32, none⟩,
                      ⟨(some 33), (Op.move (Operand.tmp 4)), 32, none⟩,
                      ⟨(some 34), (Op.call { callee := (Callee.value (Operand.func 22)), args := #[(Operand.tmp 32), (Operand.tmp 33)], argTypes := #[32, 32] }), 4, none⟩,
                      ⟨(some 35), (Op.unOp UnOp.not 4 (Operand.tmp 34)), 4, none⟩,
                      ⟨(some 36), (Op.move (Operand.tmp 35)), 4, none⟩,
                      ⟨(some 37), (Op.move (Operand.tmp 8)), 4, (some (some 36, false))⟩,
                      ⟨(some 38), (Op.move (Operand.tmp 5)), 4, (some (some 36, false))⟩,
                      ⟨(some 39), (Op.binOp BinOp.neq 4 (Operand.tmp 37) (Operand.tmp 38) 4), 4, (some (some 36, false))⟩,
                      ⟨(some 40), (Op.pick (Operand.tmp 36) (Operand.const (Value.bool true)) (Operand.tmp 39)), 4, none⟩])
                    (.cond (Operand.tmp 40)
                      (.seq
                        (.ops [
                          ⟨(some 2), (Op.assign (Operand.const (Value.bool false))), 4, none⟩])
                        .ret)
                      .skip))
                  (.seq
                    (.seq
                      (.draws [
                        (⟨[41, 6, 6], [41, 42, 43, 44, 45], [41]⟩, ⟨(some 41), (Op.load 28 (Operand.tmp 6)), 28, none⟩),
                        (⟨[42, 1, 1], [41, 42, 43, 44, 45], [42]⟩, ⟨(some 42), (Op.load 24 (Operand.tmp 1)), 24, none⟩),
                        (⟨[43, 42, 1], [41, 42, 43, 44, 45], [43]⟩, ⟨(some 43), (Op.call { callee := (Callee.value (Operand.func 17)), args := #[(Operand.tmp 42)], argTypes := #[24] }), 28, none⟩),
                        (⟨[44, 41, 43, 6, 43], [41, 42, 43, 44, 45], [44]⟩, ⟨(some 44), (Op.call { callee := (Callee.value (Operand.func 19)), args := #[(Operand.tmp 41), (Operand.tmp 43)], argTypes := #[28, 28] }), 4, none⟩),
                        (⟨[45, 44, 44], [41, 42, 43, 44, 45], [45]⟩, ⟨(some 45), (Op.unOp UnOp.not 4 (Operand.tmp 44)), 4, none⟩)])
                      (.cond (Operand.tmp 45)
                        (.seq
                          (.ops [
                            ⟨(some 2), (Op.assign (Operand.const (Value.bool false))), 4, none⟩])
                          .ret)
                        .skip))
                    (.seq
                      (.ops [
                        ⟨(some 9), (Op.assign (Operand.const (Value.int IntKind.i64 1))), 3, none⟩])
                      (.seq
                        (.ops [
                          ⟨(some 46), (Op.load 28 (Operand.tmp 6)), 28, none⟩,
                          ⟨(some 47), (Op.move (Operand.tmp 9)), 3, none⟩,
                          ⟨(some 48), (Op.call { callee := (Callee.value (Operand.func 23)), args := #[(Operand.tmp 46), (Operand.tmp 47)], argTypes := #[28, 3] }), 3, none⟩,
                          ⟨(some 9), (Op.assign (Operand.tmp 48)), 3, none⟩])
                        (.seq
                          (.seq
                            (.ops [
                              ⟨(some 49), (Op.move (Operand.tmp 9)), 3, none⟩,
                              ⟨(some 50), (Op.binOp BinOp.lss 3 (Operand.tmp 49) (Operand.const (Value.int IntKind.i64 0)) 3), 4, none⟩,
                              ⟨(some 51), (Op.move (Operand.tmp 50)), 4, none⟩,
                              ⟨(some 52), (Op.move (Operand.tmp 7)), 32, (some (some 51, false))⟩,
                              ⟨(some 53), (Op.move (Operand.tmp 4)), 32, (some (some 51, false))⟩,
                              ⟨(some 54), (Op.call { callee := (Callee.value (Operand.func 22)), args := #[(Operand.tmp 52), (Operand.tmp 53)], argTypes := #[32, 32] }), 4, (some (some 51, false))⟩,
                              ⟨(some 55), (Op.unOp UnOp.not 4 (Operand.tmp 54)), 4, (some (some 51, false))⟩,
                              ⟨(some 56), (Op.pick (Operand.tmp 51) (Operand.const (Value.bool true)) (Operand.tmp 55)), 4, none⟩,
                              ⟨(some 57), (Op.move (Operand.tmp 56)), 4, none⟩,
                              ⟨(some 58), (Op.move (Operand.tmp 8)), 4, (some (some 57, false))⟩,
                              ⟨(some 59), (Op.move (Operand.tmp 5)), 4, (some (some 57, false))⟩,
                              ⟨(some 60), (Op.binOp BinOp.neq 4 (Operand.tmp 58) (Operand.tmp 59) 4), 4, (some (some 57, false))⟩,
                              ⟨(some 61), (Op.pick (Operand.tmp 57) (Operand.const (Value.bool true)) (Operand.tmp 60)), 4, none⟩])
                            (.cond (Operand.tmp 61)
                              (.seq
                                (.ops [
                                  ⟨(some 2), (Op.assign (Operand.const (Value.bool false))), 4, none⟩])
                                .ret)
                              .skip))
                          (.seq
                            (.ops [
                              ⟨(some 10), (Op.assign (Operand.const (Value.int IntKind.i64 1))), 3, none⟩])
                            (.seq
                              (.ops [
                                ⟨(some 62), (Op.move (Operand.tmp 7)), 32, none⟩,
                                ⟨(some 63), (Op.move (Operand.tmp 10)), 3, none⟩,
                                ⟨(some 64), (Op.call { callee := (Callee.value (Operand.func 24)), args := #[(Operand.tmp 62), (Operand.tmp 63)], argTypes := #[32, 3] }), 3, none⟩,
                                ⟨(some 10), (Op.assign (Operand.tmp 64)), 3, none⟩])
                              (.seq
                                (.ops [
                                  ⟨(some 11), (Op.assign (Operand.const (Value.int IntKind.i64 1))), 3, none⟩])
                                (.seq
                                  (.ops [
                                    ⟨(some 65), (Op.move (Operand.tmp 7)), 32, none⟩,
                                    ⟨(some 66), (Op.move (Operand.tmp 11)), 3, none⟩,
                                    ⟨(some 67), (Op.call { callee := (Callee.value (Operand.func 25)), args := #[(Operand.tmp 65), (Operand.tmp 66)], argTypes := #[32, 3] }), 3, none⟩,
                                    ⟨(some 11), (Op.assign (Operand.tmp 67)), 3, none⟩])
                                  (.seq
                                    (.seq
                                      (.ops [
                                        ⟨(some 68), (Op.move (Operand.tmp 11)), 3, none⟩,
                                        ⟨(some 69), (Op.binOp BinOp.lss 3 (Operand.tmp 68) (Operand.const (Value.int IntKind.i64 0)) 3), 4, none⟩])
                                      (.cond (Operand.tmp 69)
                                        (.seq
                                          (.ops [
                                            ⟨(some 2), (Op.assign (Operand.const (Value.bool false))), 4, none⟩])
                                          .ret)
                                        .skip))
                                    (.seq
                                      (.seq
                                        (.ops [
                                          ⟨(some 70), (Op.move (Operand.tmp 11)), 3, none⟩,
                                          ⟨(some 71), (Op.move (Operand.tmp 10)), 3, none⟩,
                                          ⟨(some 72), (Op.binOp BinOp.neq 3 (Operand.tmp 70) (Operand.tmp 71) 3), 4, none⟩])
                                        (.cond (Operand.tmp 72)
                                          (.seq
                                            (.ops [
                                              ⟨(some 2), (Op.assign (Operand.const (Value.bool false))), 4, none⟩])
                                            .ret)
                                          .skip))
                                      (.seq
                                        (.ops [
                                          ⟨(some 74), (Op.load 24 (Operand.tmp 1)), 24, none⟩,
                                          ⟨(some 75), (Op.call { callee := (Callee.value (Operand.func 17)), args := #[(Operand.tmp 74)], argTypes := #[24] }), 28, none⟩,
                                          ⟨(some 76), (Op.call { callee := (Callee.value (Operand.func 21)), args := #[(Operand.tmp 75)], argTypes := #[28] }), 33, none⟩,
                                          ⟨(some 73), (Op.move (Operand.tmp 76)), 33, none⟩,
                                          ⟨(some 77), (Op.extract (Operand.tmp 73) 0), 32, none⟩,
                                          ⟨(some 78), (Op.extract (Operand.tmp 73) 1), 4, none⟩,
                                          ⟨(some 12), (Op.assign (Operand.tmp 77)), 32, none⟩,
                                          ⟨(some 13), (Op.assign (Operand.tmp 78)), 4, none⟩])
                                        (.seq
                                          (.seq
                                            (.ops [
                                              ⟨(some 79), (Op.move (Operand.tmp 12)), 32, none⟩,
                                              ⟨(some 80), (Op.move (Operand.tmp 4)), 32, none⟩,
                                              ⟨(some 81), (Op.call { callee := (Callee.value (Operand.func 22)), args := #[(Operand.tmp 79), (Operand.tmp 80)], argTypes := #[32, 32] }), 4, none⟩,
                                              ⟨(some 82), (Op.unOp UnOp.not 4 (Operand.tmp 81)), 4, none⟩,
                                              ⟨(some 83), (Op.move (Operand.tmp 82)), 4, none⟩,
                                              ⟨(some 84), (Op.move (Operand.tmp 13)), 4, (some (some 83, false))⟩,
                                              ⟨(some 85), (Op.move (Operand.tmp 5)), 4, (some (some 83, false))⟩,
                                              ⟨(some 86), (Op.binOp BinOp.neq 4 (Operand.tmp 84) (Operand.tmp 85) 4), 4, (some (some 83, false))⟩,
                                              ⟨(some 87), (Op.pick (Operand.tmp 83) (Operand.const (Value.bool true)) (Operand.tmp 86)), 4, none⟩])
                                            (.cond (Operand.tmp 87)
                                              (.seq
                                                (.ops [
                                                  ⟨(some 2), (Op.assign (Operand.const (Value.bool false))), 4, none⟩])
                                                .ret)
                                              .skip))
                                          (.seq
                                            (.ops [
                                              ⟨(some 11), (Op.assign (Operand.const (Value.int IntKind.i64 1))), 3, none⟩])
                                            (.seq
                                              (.ops [
                                                ⟨(some 88), (Op.move (Operand.tmp 7)), 32, none⟩,
                                                ⟨(some 89), (Op.move (Operand.tmp 11)), 3, none⟩,
                                                ⟨(some 90), (Op.call { callee := (Callee.value (Operand.func 25)), args := #[(Operand.tmp 88), (Operand.tmp 89)], argTypes := #[32, 3] }), 3, none⟩,
                                                ⟨(some 11), (Op.assign (Operand.tmp 90)), 3, none⟩])
                                              (.seq
                                                (.seq
                                                  (.ops [
                                                    ⟨(some 91), (Op.move (Operand.tmp 11)), 3, none⟩,
                                                    ⟨(some 92), (Op.binOp BinOp.lss 3 (Operand.tmp 91) (Operand.const (Value.int IntKind.i64 0)) 3), 4, none⟩])
                                                  (.cond (Operand.tmp 92)
                                                    (.seq
                                                      (.ops [
                                                        ⟨(some 2), (Op.assign (Operand.const (Value.bool false))), 4, none⟩])
                                                      .ret)
                                                    .skip))
                                                (.seq
                                                  (.seq
                                                    (.ops [
                                                      ⟨(some 93), (Op.move (Operand.tmp 11)), 3, none⟩,
                                                      ⟨(some 94), (Op.move (Operand.tmp 10)), 3, none⟩,
                                                      ⟨(some 95), (Op.binOp BinOp.neq 3 (Operand.tmp 93) (Operand.tmp 94) 3), 4, none⟩])
                                                    (.cond (Operand.tmp 95)
                                                      (.seq
                                                        (.ops [
                                                          ⟨(some 2), (Op.assign (Operand.const (Value.bool false))), 4, none⟩])
                                                        .ret)
                                                      .skip))
                                                  (.seq
                                                    (.ops [
                                                      ⟨(some 2), (Op.assign (Operand.const (Value.bool true))), 4, none⟩])
                                                    .ret))))))))))))))))))))))))
theorem slim4 : Try.f4.body.map (slim lends) = some k4 := by kernel_rfl
theorem ok4 : fnOk Try.f4 1 = true := by kernel_rfl
theorem c4 {a l : List D} {r : D × List D} (h : wpD Y.env k4 (fin tys l.length [ResultVar.tmp 2] r) (entry a l)) (ha : a.length = 1) : Y.call 4 a l = some r :=
  call_slim (Y := Y) rfl Try.func4 (ha ▸ ok4) slim4 h
end Go.Proofs.Ytjlphfbpaejicaa
