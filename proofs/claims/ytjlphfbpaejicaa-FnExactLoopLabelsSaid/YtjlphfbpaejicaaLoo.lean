/- Edges looked up, the labels with a loop, as plain functions; the law. Conditions: none. -/
import Derived.Test.YtjlphfbpaejicaaL6
import Derived.Test.YtjlphfbpaejicaaBth
namespace Go.Proofs.Ytjlphfbpaejicaa
open Go Dv
set_option linter.unusedSimpArgs false
set_option linter.unusedVariables false
set_option maxRecDepth 100000
set_option maxHeartbeats 4000000

/-- An edge is allowed. -/
def hasE (es : List (List Int)) (a b : Int) : Bool := es.contains (if b < a then [b, a] else [a, b])
noncomputable def i_Problem_edge (p_Labels : Int) (p_Degree : Int) (p_Nodes : List (List Int)) (p_Edges : List (List Int)) (a : Int) (b : Int) : Option (Bool) :=
  ck (Short p_Edges) <|
  ck ([a, b].length < 1099511627776) <|
  ck (incL p_Edges = true) <|
  some (p_Edges.contains (sortI [a, b]))
/-- impl.Problem).edge -/
def k59 : SC :=
  .seq
    (.ops [
      ⟨(some 3), (Op.box 28 (Operand.tmp 0)), 0, none⟩,
      ⟨(some 6), (Op.assign (Operand.const (Value.bool false))), 4, none⟩])
    (.seq
      (.ops [
        ⟨(some 7), (Op.fieldAddr 28 (Operand.tmp 3) 3), 0, none⟩,
        ⟨(some 8), (Op.load 22 (Operand.tmp 7)), 22, none⟩,
        ⟨(some 9), (Op.move (Operand.tmp 1)), 3, none⟩,
        ⟨(some 10), (Op.move (Operand.tmp 2)), 3, none⟩,
        ⟨(some 11), (Op.buildSlice 32 2 #[(0, (Operand.tmp 9)), (1, (Operand.tmp 10))]), 32, none⟩,
        ⟨(some 12), (Op.call { callee := (Callee.value (Operand.func 81)), args := #[(Operand.tmp 8), (Operand.tmp 11)], argTypes := #[22, 32] }), 4, none⟩,
        ⟨(some 6), (Op.assign (Operand.tmp 12)), 4, none⟩])
      .ret)
theorem slim59 : Try.f59.body.map (slim lends) = some k59 := by kernel_rfl
theorem ok59 : fnOk Try.f59 3 = true := by kernel_rfl
theorem c59 {a l : List D} {r : D × List D} (h : wpD Y.env k59 (fin tys l.length [ResultVar.tmp 6] r) (entry a l)) (ha : a.length = 3) : Y.call 59 a l = some r :=
  call_slim (Y := Y) rfl Try.func59 (ha ▸ ok59) slim59 h
theorem i_Problem_edge_call (p_Labels : Int) (p_Degree : Int) (p_Nodes : List (List Int)) (p_Edges : List (List Int)) (a : Int) (b : Int) {r : Bool} (h : i_Problem_edge p_Labels p_Degree p_Nodes p_Edges a b = some r) : Y.call 59 [D.agg [D.int .i64 p_Labels, D.int .i64 p_Degree, D.sl 32 (lst (fun x => D.sl 3 (lst (D.int .i64) x)) p_Nodes), D.sl 32 (lst (fun x => D.sl 3 (lst (D.int .i64) x)) p_Edges)], D.int .i64 a, D.int .i64 b] [] = some (D.bool r, []) := by
  refine c59 ?_ rfl
  unfold k59
  unfold i_Problem_edge at h
  obtain ⟨e1, h⟩ := ckS h
  obtain ⟨e2, h⟩ := ckS h
  obtain ⟨e3, h⟩ := ckS h
  have c4 := i_hasConfiguration_cl p_Edges [a, b] e1 e2 e3
  simp only [lst_cons, lst_nil, cat_cons, cat_nil, List.append_nil, List.cons_append, List.nil_append] at c4
  obtain rfl := Option.some.inj h
  simp (maxDischargeDepth := 9) only [↓xpre, xpost, xlst, xcore, yset, rg0, ↓reduceIte, Nat.reduceEqDiff, Nat.reduceLT, Nat.reduceLeDiff, Nat.reduceAdd, Nat.reduceMul, Nat.reduceMod, Nat.reduceSub, Nat.reduceBEq, Int.reduceLE, Int.reduceLT, Int.reduceEq, Int.reduceSub, Int.reduceAdd, Int.reduceToNat, Int.reduceNeg, e1, e2, e3, c4] <;> (repeat' apply And.intro) <;> first | rfl | exact ⟨_, rfl⟩ | simp [lst]

noncomputable def s_l1Least (a : Int) (b : Int) : Option (Int) :=
  if a < b then
    some a
  else
    some b
/-- spec.l1Least -/
def k84 : SC :=
  .seq
    (.ops [
      ⟨(some 4), (Op.assign (Operand.const (Value.int IntKind.i64 0))), 3, none⟩])
    (.seq
      (.seq
        (.ops [
          ⟨(some 5), (Op.move (Operand.tmp 0)), 3, none⟩,
          ⟨(some 6), (Op.move (Operand.tmp 1)), 3, none⟩,
          ⟨(some 7), (Op.binOp BinOp.lss 3 (Operand.tmp 5) (Operand.tmp 6) 3), 4, none⟩])
        (.cond (Operand.tmp 7)
          (.seq
            (.ops [
              ⟨(some 8), (Op.move (Operand.tmp 0)), 3, none⟩,
              ⟨(some 4), (Op.assign (Operand.tmp 8)), 3, none⟩])
            .ret)
          .skip))
      (.seq
        (.ops [
          ⟨(some 9), (Op.move (Operand.tmp 1)), 3, none⟩,
          ⟨(some 4), (Op.assign (Operand.tmp 9)), 3, none⟩])
        .ret))
theorem slim84 : Try.f84.body.map (slim lends) = some k84 := by kernel_rfl
theorem ok84 : fnOk Try.f84 2 = true := by kernel_rfl
theorem c84 {a l : List D} {r : D × List D} (h : wpD Y.env k84 (fin tys l.length [ResultVar.tmp 4] r) (entry a l)) (ha : a.length = 2) : Y.call 84 a l = some r :=
  call_slim (Y := Y) rfl Try.func84 (ha ▸ ok84) slim84 h
theorem s_l1Least_call (a : Int) (b : Int) {r : Int} (h : s_l1Least a b = some r) : Y.call 84 [D.int .i64 a, D.int .i64 b] [] = some (D.int .i64 r, []) := by
  refine c84 ?_ rfl
  unfold k84
  unfold s_l1Least at h
  by_cases e1 : a < b
  · rw [if_pos e1] at h
    obtain rfl := Option.some.inj h
    simp (maxDischargeDepth := 9) only [↓xpre, xpost, xlst, xcore, yset, rg0, ↓reduceIte, Nat.reduceEqDiff, Nat.reduceLT, Nat.reduceLeDiff, Nat.reduceAdd, Nat.reduceMul, Nat.reduceMod, Nat.reduceSub, Nat.reduceBEq, Int.reduceLE, Int.reduceLT, Int.reduceEq, Int.reduceSub, Int.reduceAdd, Int.reduceToNat, Int.reduceNeg, e1] <;> (repeat' apply And.intro) <;> first | rfl | exact ⟨_, rfl⟩ | simp [lst]
  · rw [if_neg e1] at h
    obtain rfl := Option.some.inj h
    simp (maxDischargeDepth := 9) only [↓xpre, xpost, xlst, xcore, yset, rg0, ↓reduceIte, Nat.reduceEqDiff, Nat.reduceLT, Nat.reduceLeDiff, Nat.reduceAdd, Nat.reduceMul, Nat.reduceMod, Nat.reduceSub, Nat.reduceBEq, Int.reduceLE, Int.reduceLT, Int.reduceEq, Int.reduceSub, Int.reduceAdd, Int.reduceToNat, Int.reduceNeg, e1] <;> (repeat' apply And.intro) <;> first | rfl | exact ⟨_, rfl⟩ | simp [lst]

noncomputable def s_l1Most (a : Int) (b : Int) : Option (Int) :=
  if b < a then
    some a
  else
    some b
/-- spec.l1Most -/
def k85 : SC :=
  .seq
    (.ops [
      ⟨(some 4), (Op.assign (Operand.const (Value.int IntKind.i64 0))), 3, none⟩])
    (.seq
      (.seq
        (.ops [
          ⟨(some 5), (Op.move (Operand.tmp 0)), 3, none⟩,
          ⟨(some 6), (Op.move (Operand.tmp 1)), 3, none⟩,
          ⟨(some 7), (Op.binOp BinOp.gtr 3 (Operand.tmp 5) (Operand.tmp 6) 3), 4, none⟩])
        (.cond (Operand.tmp 7)
          (.seq
            (.ops [
              ⟨(some 8), (Op.move (Operand.tmp 0)), 3, none⟩,
              ⟨(some 4), (Op.assign (Operand.tmp 8)), 3, none⟩])
            .ret)
          .skip))
      (.seq
        (.ops [
          ⟨(some 9), (Op.move (Operand.tmp 1)), 3, none⟩,
          ⟨(some 4), (Op.assign (Operand.tmp 9)), 3, none⟩])
        .ret))
theorem slim85 : Try.f85.body.map (slim lends) = some k85 := by kernel_rfl
theorem ok85 : fnOk Try.f85 2 = true := by kernel_rfl
theorem c85 {a l : List D} {r : D × List D} (h : wpD Y.env k85 (fin tys l.length [ResultVar.tmp 4] r) (entry a l)) (ha : a.length = 2) : Y.call 85 a l = some r :=
  call_slim (Y := Y) rfl Try.func85 (ha ▸ ok85) slim85 h
theorem s_l1Most_call (a : Int) (b : Int) {r : Int} (h : s_l1Most a b = some r) : Y.call 85 [D.int .i64 a, D.int .i64 b] [] = some (D.int .i64 r, []) := by
  refine c85 ?_ rfl
  unfold k85
  unfold s_l1Most at h
  by_cases e1 : b < a
  · rw [if_pos e1] at h
    obtain rfl := Option.some.inj h
    simp (maxDischargeDepth := 9) only [↓xpre, xpost, xlst, xcore, yset, rg0, ↓reduceIte, Nat.reduceEqDiff, Nat.reduceLT, Nat.reduceLeDiff, Nat.reduceAdd, Nat.reduceMul, Nat.reduceMod, Nat.reduceSub, Nat.reduceBEq, Int.reduceLE, Int.reduceLT, Int.reduceEq, Int.reduceSub, Int.reduceAdd, Int.reduceToNat, Int.reduceNeg, e1] <;> (repeat' apply And.intro) <;> first | rfl | exact ⟨_, rfl⟩ | simp [lst]
  · rw [if_neg e1] at h
    obtain rfl := Option.some.inj h
    simp (maxDischargeDepth := 9) only [↓xpre, xpost, xlst, xcore, yset, rg0, ↓reduceIte, Nat.reduceEqDiff, Nat.reduceLT, Nat.reduceLeDiff, Nat.reduceAdd, Nat.reduceMul, Nat.reduceMod, Nat.reduceSub, Nat.reduceBEq, Int.reduceLE, Int.reduceLT, Int.reduceEq, Int.reduceSub, Int.reduceAdd, Int.reduceToNat, Int.reduceNeg, e1] <;> (repeat' apply And.intro) <;> first | rfl | exact ⟨_, rfl⟩ | simp [lst]

noncomputable def s_prEdge (p_Labels : Int) (p_Degree : Int) (p_Nodes : List (List Int)) (p_Edges : List (List Int)) (a : Int) (b : Int) : Option (Bool) :=
  (s_l1Least a b).bind fun r1_ =>
  (s_l1Most a b).bind fun r2_ =>
  ck (p_Edges.length < 1099511627776) <|
  ck ([r1_, r2_].length < 1099511627776) <|
  some (p_Edges.contains [r1_, r2_])
/-- spec.prEdge -/
def k57 : SC :=
  .seq
    (.ops [
      ⟨(some 3), (Op.box 28 (Operand.tmp 0)), 0, none⟩,
      ⟨(some 6), (Op.assign (Operand.const (Value.bool false))), 4, none⟩])
    (.seq
      (.draws [
        (⟨[7, 3, 3], [7, 8, 9, 10, 11, 12, 13, 14, 15, 11, 14, 11, 14, 16, 6, 16, 16], [7]⟩, ⟨(some 7), (Op.fieldAddr 28 (Operand.tmp 3) 3), 0, none⟩),
        (⟨[8, 7, 3], [7, 8, 9, 10, 11, 12, 13, 14, 15, 11, 14, 11, 14, 16, 6, 16, 16], [8]⟩, ⟨(some 8), (Op.load 22 (Operand.tmp 7)), 22, none⟩),
        (⟨[9, 1, 1], [7, 8, 9, 10, 11, 12, 13, 14, 15, 11, 14, 11, 14, 16, 6, 16, 16], [9]⟩, ⟨(some 9), (Op.move (Operand.tmp 1)), 3, none⟩),
        (⟨[10, 2, 2], [7, 8, 9, 10, 11, 12, 13, 14, 15, 11, 14, 11, 14, 16, 6, 16, 16], [10]⟩, ⟨(some 10), (Op.move (Operand.tmp 2)), 3, none⟩),
        (⟨[11, 9, 10, 1, 2], [7, 8, 9, 10, 11, 12, 13, 14, 15, 11, 14, 11, 14, 16, 6, 16, 16], [11]⟩, ⟨(some 11), (Op.call { callee := (Callee.value (Operand.func 84)), args := #[(Operand.tmp 9), (Operand.tmp 10)], argTypes := #[3, 3] }), 3, none⟩),
        (⟨[12, 1, 1], [7, 8, 9, 10, 11, 12, 13, 14, 15, 11, 14, 11, 14, 16, 6, 16, 16], [12]⟩, ⟨(some 12), (Op.move (Operand.tmp 1)), 3, none⟩),
        (⟨[13, 2, 2], [7, 8, 9, 10, 11, 12, 13, 14, 15, 11, 14, 11, 14, 16, 6, 16, 16], [13]⟩, ⟨(some 13), (Op.move (Operand.tmp 2)), 3, none⟩),
        (⟨[14, 12, 13, 1, 2], [7, 8, 9, 10, 11, 12, 13, 14, 15, 11, 14, 11, 14, 16, 6, 16, 16], [14]⟩, ⟨(some 14), (Op.call { callee := (Callee.value (Operand.func 85)), args := #[(Operand.tmp 12), (Operand.tmp 13)], argTypes := #[3, 3] }), 3, none⟩),
        (⟨[15, 11, 14, 11, 14], [7, 8, 9, 10, 11, 12, 13, 14, 15, 11, 14, 11, 14, 16, 6, 16, 16], [15, 11, 14, 11, 14]⟩, ⟨(some 15), (Op.buildSlice 32 2 #[(0, (Operand.tmp 11)), (1, (Operand.tmp 14))]), 32, none⟩),
        (⟨[16, 8, 15, 3, 15], [7, 8, 9, 10, 11, 12, 13, 14, 15, 11, 14, 11, 14, 16, 6, 16, 16], [16]⟩, ⟨(some 16), (Op.call { callee := (Callee.value (Operand.func 80)), args := #[(Operand.tmp 8), (Operand.tmp 15)], argTypes := #[22, 32] }), 4, none⟩),
        (⟨[6, 16, 16], [7, 8, 9, 10, 11, 12, 13, 14, 15, 11, 14, 11, 14, 16, 6, 16, 16], [6, 16, 16]⟩, ⟨(some 6), (Op.assign (Operand.tmp 16)), 4, none⟩)])
      .ret)
theorem slim57 : Try.f57.body.map (slim lends) = some k57 := by kernel_rfl
theorem ok57 : fnOk Try.f57 3 = true := by kernel_rfl
theorem c57 {a l : List D} {r : D × List D} (h : wpD Y.env k57 (fin tys l.length [ResultVar.tmp 6] r) (entry a l)) (ha : a.length = 3) : Y.call 57 a l = some r :=
  call_slim (Y := Y) rfl Try.func57 (ha ▸ ok57) slim57 h
theorem s_prEdge_call (p_Labels : Int) (p_Degree : Int) (p_Nodes : List (List Int)) (p_Edges : List (List Int)) (a : Int) (b : Int) {r : Bool} (h : s_prEdge p_Labels p_Degree p_Nodes p_Edges a b = some r) : Y.call 57 [D.agg [D.int .i64 p_Labels, D.int .i64 p_Degree, D.sl 32 (lst (fun x => D.sl 3 (lst (D.int .i64) x)) p_Nodes), D.sl 32 (lst (fun x => D.sl 3 (lst (D.int .i64) x)) p_Edges)], D.int .i64 a, D.int .i64 b] [] = some (D.bool r, []) := by
  refine c57 ?_ rfl
  unfold k57
  unfold s_prEdge at h
  obtain ⟨r1_, hl1, h⟩ := bindS h
  try dsimp only at h
  have c1 := s_l1Least_call a b hl1
  obtain ⟨r2_, hl2, h⟩ := bindS h
  try dsimp only at h
  have c2 := s_l1Most_call a b hl2
  obtain ⟨e3, h⟩ := ckS h
  obtain ⟨e4, h⟩ := ckS h
  have c5 := s_prHas_cl p_Edges [r1_, r2_] e3 e4
  simp only [lst_cons, lst_nil, cat_cons, cat_nil, List.append_nil, List.cons_append, List.nil_append] at c5
  obtain rfl := Option.some.inj h
  simp (maxDischargeDepth := 9) only [↓xpre, xpost, xlst, xcore, yset, rg0, ↓reduceIte, Nat.reduceEqDiff, Nat.reduceLT, Nat.reduceLeDiff, Nat.reduceAdd, Nat.reduceMul, Nat.reduceMod, Nat.reduceSub, Nat.reduceBEq, Int.reduceLE, Int.reduceLT, Int.reduceEq, Int.reduceSub, Int.reduceAdd, Int.reduceToNat, Int.reduceNeg, c1, c2, e3, e4, c5] <;> (repeat' apply And.intro) <;> first | rfl | exact ⟨_, rfl⟩ | simp [lst]

theorem i_Problem_edge_eq (l d : Int) (ns es : List (List Int)) (a b : Int) (h1 : Short es) (h2 : incL es = true) : i_Problem_edge l d ns es a b = some (hasE es a b) := by
  unfold i_Problem_edge hasE
  rw [ckT h1, ckT (by simp), ckT h2, sortI_two]
theorem s_prEdge_eq (l d : Int) (ns es : List (List Int)) (a b : Int) (h1 : Short es) : s_prEdge l d ns es a b = some (hasE es a b) := by
  unfold s_prEdge s_l1Least s_l1Most hasE
  by_cases q1 : a < b
  · rw [if_pos q1, if_neg (by omega), if_neg (by omega), Option.bind_some, Option.bind_some, ckT h1.1, ckT (by simp)]
  · by_cases q2 : b < a
    · rw [if_neg q1, if_pos q2, if_pos q2, Option.bind_some, Option.bind_some, ckT h1.1, ckT (by simp)]
    · have : a = b := by omega
      subst this
      rw [if_neg q1, if_neg q1, Option.bind_some, Option.bind_some, ckT h1.1, ckT (by simp)]
theorem i_Problem_edge_cl (p_Labels : Int) (p_Degree : Int) (p_Nodes : List (List Int)) (p_Edges : List (List Int)) (a : Int) (b : Int) (h0 : Short p_Edges) (h1 : incL p_Edges = true) : Y.call 59 [D.agg [D.int .i64 p_Labels, D.int .i64 p_Degree, D.sl 32 (lst (fun x => D.sl 3 (lst (D.int .i64) x)) p_Nodes), D.sl 32 (lst (fun x => D.sl 3 (lst (D.int .i64) x)) p_Edges)], D.int .i64 a, D.int .i64 b] [] = some (D.bool (hasE p_Edges a b), []) := i_Problem_edge_call p_Labels p_Degree p_Nodes p_Edges a b (i_Problem_edge_eq p_Labels p_Degree p_Nodes p_Edges a b h0 h1)
theorem s_prEdge_cl (p_Labels : Int) (p_Degree : Int) (p_Nodes : List (List Int)) (p_Edges : List (List Int)) (a : Int) (b : Int) (h0 : Short p_Edges) : Y.call 57 [D.agg [D.int .i64 p_Labels, D.int .i64 p_Degree, D.sl 32 (lst (fun x => D.sl 3 (lst (D.int .i64) x)) p_Nodes), D.sl 32 (lst (fun x => D.sl 3 (lst (D.int .i64) x)) p_Edges)], D.int .i64 a, D.int .i64 b] [] = some (D.bool (hasE p_Edges a b), []) := s_prEdge_call p_Labels p_Degree p_Nodes p_Edges a b (s_prEdge_eq p_Labels p_Degree p_Nodes p_Edges a b h0)
theorem itO_pick (f : List Int × Int → Option ((List Int × Int) ⊕ List Int)) (n : Nat) (p : Nat → Bool)
    (h : ∀ (i : Nat) (out : List Int), i < n → out.length ≤ i → f (out, (i : Int)) = some (.inl (if p i then out ++ [(i : Int)] else out, ((i + 1 : Nat) : Int))))
    (e : ∀ out, f (out, (n : Int)) = some (.inr out)) : itO f ([], 0) = some (((List.range n).filter p).map fun i : Nat => (i : Int)) := by
  refine itO_for f (fun i => (((List.range i).filter p).map fun i : Nat => (i : Int), (i : Int))) n _ ?_ (e _)
  intro i hi
  have hle : (((List.range i).filter p).map fun i : Nat => (i : Int)).length ≤ i := by
    rw [List.length_map]
    exact Nat.le_trans (List.length_filter_le _ _) (by simp)
  rw [h i _ hi hle, List.range_succ, List.filter_append, List.map_append]
  by_cases hp : p i = true
  · simp [hp]
  · simp [hp]
noncomputable def i_LoopLabels_l0_S (p_Labels : Int) (p_Degree : Int) (p_Nodes : List (List Int)) (p_Edges : List (List Int)) (out : List Int) (t11_ : Int) : Option (((List Int) × Int) ⊕ ((List Int))) :=
  if t11_ < p_Labels then
    ck (Short p_Edges) <|
    ck (incL p_Edges = true) <|
    if (hasE p_Edges t11_ t11_) = true then
      ck (out.length + 1 < 1099511627776) <|
      some (Sum.inl ((out ++ [t11_]), IntKind.i64.wrap (t11_ + 1)))
    else
      some (Sum.inl (out, IntKind.i64.wrap (t11_ + 1)))
  else
    some (Sum.inr out)
noncomputable def i_LoopLabels_l0 (p_Labels : Int) (p_Degree : Int) (p_Nodes : List (List Int)) (p_Edges : List (List Int)) (v : (List Int) × Int) : Option ((List Int)) := itO (fun v => i_LoopLabels_l0_S p_Labels p_Degree p_Nodes p_Edges v.1 v.2) v
noncomputable def i_LoopLabels (p_Labels : Int) (p_Degree : Int) (p_Nodes : List (List Int)) (p_Edges : List (List Int)) : Option ((List Int) × Bool) :=
  ck (Short p_Nodes) <|
  ck (Short p_Edges) <|
  if (isProb p_Labels p_Degree p_Nodes p_Edges) = true then
    (i_LoopLabels_l0 p_Labels p_Degree p_Nodes p_Edges ([], 0)).bind fun r6_ =>
    some (r6_, true)
  else
    some ([], false)
/-- impl.LoopLabels -/
def k21_l0b : SC :=
  .seq
    (.ops [
      ⟨(some 12), (Op.binOp BinOp.lss 3 (Operand.tmp 11) (Operand.tmp 10) 3), 4, none⟩])
    (.seq
      (.cond (Operand.tmp 12)
        .skip
        (.exit 0))
      (.seq
        (.block 1
          (.seq
            (.ops [
              ⟨(some 13), (Op.move (Operand.tmp 11)), 3, none⟩,
              ⟨(some 5), (Op.assign (Operand.tmp 13)), 3, none⟩])
            (.seq
              (.ops [
                ⟨(some 14), (Op.load 28 (Operand.tmp 1)), 28, none⟩,
                ⟨(some 15), (Op.move (Operand.tmp 5)), 3, none⟩,
                ⟨(some 16), (Op.move (Operand.tmp 5)), 3, none⟩,
                ⟨(some 17), (Op.call { callee := (Callee.value (Operand.func 59)), args := #[(Operand.tmp 14), (Operand.tmp 15), (Operand.tmp 16)], argTypes := #[28, 3, 3] }), 4, none⟩])
              (.cond (Operand.tmp 17)
                (.ops [
                  ⟨(some 18), (Op.move (Operand.tmp 4)), 32, none⟩,
                  ⟨(some 19), (Op.move (Operand.tmp 5)), 3, none⟩,
                  ⟨(some 20), (Op.buildSlice 32 1 #[(0, (Operand.tmp 19))]), 32, none⟩,
                  ⟨(some 21), (Op.call { callee := (Callee.builtin Builtin.append), args := #[(Operand.tmp 18), (Operand.tmp 20)], argTypes := #[32, 32] }), 32, none⟩,
                  ⟨(some 4), (Op.assign (Operand.tmp 21)), 32, none⟩])
                .skip))))
        (.ops [
          ⟨(some 22), (Op.binOp BinOp.add 3 (Operand.tmp 11) (Operand.const (Value.int IntKind.i64 1)) 3), 3, none⟩,
          ⟨(some 11), (Op.move (Operand.tmp 22)), 3, none⟩])))
def k21_l0 : SC := .loop k21_l0b
def k21 : SC :=
  .seq
    (.ops [
      ⟨(some 1), (Op.box 28 (Operand.tmp 0)), 0, none⟩,
      ⟨(some 2), (Op.assign (Operand.const (Value.slice none 0 0))), 32, none⟩,
      ⟨(some 3), (Op.assign (Operand.const (Value.bool false))), 4, none⟩])
    (.seq
      (.seq
        (.ops [
          ⟨(some 6), (Op.load 28 (Operand.tmp 1)), 28, none⟩,
          ⟨(some 7), (Op.call { callee := (Callee.value (Operand.func 58)), args := #[(Operand.tmp 6)], argTypes := #[28] }), 4, none⟩,
          ⟨(some 8), (Op.unOp UnOp.not 4 (Operand.tmp 7)), 4, none⟩])
        (.cond (Operand.tmp 8)
          (.seq
            (.ops [
              ⟨(some 2), (Op.assign (Operand.const (Value.slice none 0 0))), 32, none⟩,
              ⟨(some 3), (Op.assign (Operand.const (Value.bool false))), 4, none⟩])
            .ret)
          .skip))
      (.seq
        (.ops [
          ⟨(some 4), (Op.assign (Operand.const (Value.slice none 0 0))), 32, none⟩])
        (.seq
          (.seq
            (.ops [
              ⟨(some 9), (Op.fieldAddr 28 (Operand.tmp 1) 0), 0, none⟩,
              ⟨(some 10), (Op.load 3 (Operand.tmp 9)), 3, none⟩,
              ⟨(some 11), (Op.move (Operand.const (Value.int IntKind.i64 0))), 3, none⟩])
            (.block 0
              k21_l0))
          (.seq
            (.ops [
              ⟨(some 23), (Op.move (Operand.tmp 4)), 32, none⟩,
              ⟨(some 2), (Op.assign (Operand.tmp 23)), 32, none⟩,
              ⟨(some 3), (Op.assign (Operand.const (Value.bool true))), 4, none⟩])
            .ret))))
theorem slim21 : Try.f21.body.map (slim lends) = some k21 := by kernel_rfl
theorem ok21 : fnOk Try.f21 1 = true := by kernel_rfl
theorem c21 {a l : List D} {r : D × List D} (h : wpD Y.env k21 (fin tys l.length [ResultVar.tmp 2, ResultVar.tmp 3] r) (entry a l)) (ha : a.length = 1) : Y.call 21 a l = some r :=
  call_slim (Y := Y) rfl Try.func21 (ha ▸ ok21) slim21 h
def i_LoopLabels_l0_M (p_Labels : Int) (p_Degree : Int) (p_Nodes : List (List Int)) (p_Edges : List (List Int)) (out : List Int) (t11_ : Int) (s : St) : Prop := s.v 1 = D.box [D.int .i64 p_Labels, D.int .i64 p_Degree, D.sl 32 (lst (fun x => D.sl 3 (lst (D.int .i64) x)) p_Nodes), D.sl 32 (lst (fun x => D.sl 3 (lst (D.int .i64) x)) p_Edges)] ∧ s.v 4 = D.own 3 (lst (D.int .i64) out) ∧ s.v 10 = D.int .i64 p_Labels ∧ s.v 11 = D.int .i64 t11_
def i_LoopLabels_l0_X (p_Labels : Int) (p_Degree : Int) (p_Nodes : List (List Int)) (p_Edges : List (List Int)) (r : (List Int)) (ex : Ex) (s : St) : Prop := ex = .exit 0 ∧ s.v 4 = D.own 3 (lst (D.int .i64) r)
theorem i_LoopLabels_l0_wp (p_Labels : Int) (p_Degree : Int) (p_Nodes : List (List Int)) (p_Edges : List (List Int)) {v : (List Int) × Int} {s : St} {r : (List Int)} (h : i_LoopLabels_l0 p_Labels p_Degree p_Nodes p_Edges v = some r) (hM : i_LoopLabels_l0_M p_Labels p_Degree p_Nodes p_Edges v.1 v.2 s) : wpD Y.env k21_l0 (i_LoopLabels_l0_X p_Labels p_Degree p_Nodes p_Edges r) s := by
  unfold i_LoopLabels_l0 at h
  refine wd_itO (c := k21_l0b) (fun v => i_LoopLabels_l0_S p_Labels p_Degree p_Nodes p_Edges v.1 v.2) (fun v s => i_LoopLabels_l0_M p_Labels p_Degree p_Nodes p_Edges v.1 v.2 s) (i_LoopLabels_l0_X p_Labels p_Degree p_Nodes p_Edges) ?_ h hM
  clear h hM s v r
  intro v s o hM h
  obtain ⟨out, t11_⟩ := v
  dsimp only at h hM
  unfold i_LoopLabels_l0_S at h
  unfold i_LoopLabels_l0_M at hM
  obtain ⟨m0, m1, m2, m3⟩ := hM
  unfold k21_l0b
  by_cases e5 : t11_ < p_Labels
  · rw [if_pos e5] at h
    obtain ⟨e6, h⟩ := ckS h
    obtain ⟨e7, h⟩ := ckS h
    have c8 := i_Problem_edge_cl p_Labels p_Degree p_Nodes p_Edges t11_ t11_ e6 e7
    by_cases e9 : (hasE p_Edges t11_ t11_) = true
    · rw [if_pos e9] at h
      obtain ⟨e10, h⟩ := ckS h
      obtain rfl := Option.some.inj h
      simp (maxDischargeDepth := 9) only [↓xpre, xpost, xlst, xcore, yset, rg0, ↓reduceIte, Nat.reduceEqDiff, Nat.reduceLT, Nat.reduceLeDiff, Nat.reduceAdd, Nat.reduceMul, Nat.reduceMod, Nat.reduceSub, Nat.reduceBEq, Int.reduceLE, Int.reduceLT, Int.reduceEq, Int.reduceSub, Int.reduceAdd, Int.reduceToNat, Int.reduceNeg, m0, m1, m2, m3, e5, e6, e7, c8, e9, e10, i_LoopLabels_l0_M, i_LoopLabels_l0_X, sxN, sxE, sxR] <;> (repeat' apply And.intro) <;> first | rfl | exact ⟨_, rfl⟩ | simp [lst]
    · rw [if_neg e9] at h
      have e9f : (hasE p_Edges t11_ t11_) = false := Bool.eq_false_iff.mpr e9
      obtain rfl := Option.some.inj h
      simp (maxDischargeDepth := 9) only [↓xpre, xpost, xlst, xcore, yset, rg0, ↓reduceIte, Nat.reduceEqDiff, Nat.reduceLT, Nat.reduceLeDiff, Nat.reduceAdd, Nat.reduceMul, Nat.reduceMod, Nat.reduceSub, Nat.reduceBEq, Int.reduceLE, Int.reduceLT, Int.reduceEq, Int.reduceSub, Int.reduceAdd, Int.reduceToNat, Int.reduceNeg, m0, m1, m2, m3, e5, e6, e7, c8, e9f, i_LoopLabels_l0_M, i_LoopLabels_l0_X, sxN, sxE, sxR] <;> (repeat' apply And.intro) <;> first | rfl | exact ⟨_, rfl⟩ | simp [lst]
  · rw [if_neg e5] at h
    obtain rfl := Option.some.inj h
    simp (maxDischargeDepth := 9) only [↓xpre, xpost, xlst, xcore, yset, rg0, ↓reduceIte, Nat.reduceEqDiff, Nat.reduceLT, Nat.reduceLeDiff, Nat.reduceAdd, Nat.reduceMul, Nat.reduceMod, Nat.reduceSub, Nat.reduceBEq, Int.reduceLE, Int.reduceLT, Int.reduceEq, Int.reduceSub, Int.reduceAdd, Int.reduceToNat, Int.reduceNeg, m0, m1, m2, m3, e5, i_LoopLabels_l0_M, i_LoopLabels_l0_X, sxN, sxE, sxR] <;> (repeat' apply And.intro) <;> first | rfl | exact ⟨_, rfl⟩ | simp [lst]
theorem i_LoopLabels_call (p_Labels : Int) (p_Degree : Int) (p_Nodes : List (List Int)) (p_Edges : List (List Int)) {r : (List Int) × Bool} (h : i_LoopLabels p_Labels p_Degree p_Nodes p_Edges = some r) : Y.call 21 [D.agg [D.int .i64 p_Labels, D.int .i64 p_Degree, D.sl 32 (lst (fun x => D.sl 3 (lst (D.int .i64) x)) p_Nodes), D.sl 32 (lst (fun x => D.sl 3 (lst (D.int .i64) x)) p_Edges)]] [] = some (D.tup [D.own 3 (lst (D.int .i64) r.1), D.bool r.2], []) := by
  refine c21 ?_ rfl
  unfold k21
  unfold i_LoopLabels at h
  obtain ⟨e1, h⟩ := ckS h
  obtain ⟨e2, h⟩ := ckS h
  have c3 := i_IsProblem_cl p_Labels p_Degree p_Nodes p_Edges e1 e2
  by_cases e4 : (isProb p_Labels p_Degree p_Nodes p_Edges) = true
  · rw [if_pos e4] at h
    obtain ⟨r6_, hl6, h⟩ := bindS h
    try dsimp only at h
    simp (maxDischargeDepth := 9) only [↓xpre, xpost, xlst, xcore, yset, rg0, ↓reduceIte, Nat.reduceEqDiff, Nat.reduceLT, Nat.reduceLeDiff, Nat.reduceAdd, Nat.reduceMul, Nat.reduceMod, Nat.reduceSub, Nat.reduceBEq, Int.reduceLE, Int.reduceLT, Int.reduceEq, Int.reduceSub, Int.reduceAdd, Int.reduceToNat, Int.reduceNeg, e1, e2, c3, e4]
    refine wd_mono (i_LoopLabels_l0_wp p_Labels p_Degree p_Nodes p_Edges hl6 ?_) ?_
    · simp (maxDischargeDepth := 9) only [↓xpre, xpost, xlst, xcore, yset, rg0, ↓reduceIte, Nat.reduceEqDiff, Nat.reduceLT, Nat.reduceLeDiff, Nat.reduceAdd, Nat.reduceMul, Nat.reduceMod, Nat.reduceSub, Nat.reduceBEq, Int.reduceLE, Int.reduceLT, Int.reduceEq, Int.reduceSub, Int.reduceAdd, Int.reduceToNat, Int.reduceNeg, e1, e2, c3, e4, i_LoopLabels_l0_M] <;> (repeat' apply And.intro) <;> first | rfl | exact ⟨_, rfl⟩ | simp [lst]
    · intro ex6 s6 hX6
      unfold i_LoopLabels_l0_X at hX6
      obtain ⟨rfl, n6_0⟩ := hX6
      obtain rfl := Option.some.inj h
      simp (maxDischargeDepth := 9) only [↓xpre, xpost, xlst, xcore, yset, rg0, ↓reduceIte, Nat.reduceEqDiff, Nat.reduceLT, Nat.reduceLeDiff, Nat.reduceAdd, Nat.reduceMul, Nat.reduceMod, Nat.reduceSub, Nat.reduceBEq, Int.reduceLE, Int.reduceLT, Int.reduceEq, Int.reduceSub, Int.reduceAdd, Int.reduceToNat, Int.reduceNeg, e1, e2, c3, e4, n6_0] <;> (repeat' apply And.intro) <;> first | rfl | exact ⟨_, rfl⟩ | simp [lst]
  · rw [if_neg e4] at h
    have e4f : (isProb p_Labels p_Degree p_Nodes p_Edges) = false := Bool.eq_false_iff.mpr e4
    obtain rfl := Option.some.inj h
    simp (maxDischargeDepth := 9) only [↓xpre, xpost, xlst, xcore, yset, rg0, ↓reduceIte, Nat.reduceEqDiff, Nat.reduceLT, Nat.reduceLeDiff, Nat.reduceAdd, Nat.reduceMul, Nat.reduceMod, Nat.reduceSub, Nat.reduceBEq, Int.reduceLE, Int.reduceLT, Int.reduceEq, Int.reduceSub, Int.reduceAdd, Int.reduceToNat, Int.reduceNeg, e1, e2, c3, e4f] <;> (repeat' apply And.intro) <;> first | rfl | exact ⟨_, rfl⟩ | simp [lst]

noncomputable def s_LoopLabels_l0_S (p_Labels : Int) (p_Degree : Int) (p_Nodes : List (List Int)) (p_Edges : List (List Int)) (out : List Int) (a : Int) : Option (((List Int) × Int) ⊕ ((List Int))) :=
  if a < p_Labels then
    ck (Short p_Edges) <|
    if (hasE p_Edges a a) = true then
      ck (out.length + 1 < 1099511627776) <|
      some (Sum.inl ((out ++ [a]), IntKind.i64.wrap (a + 1)))
    else
      some (Sum.inl (out, IntKind.i64.wrap (a + 1)))
  else
    some (Sum.inr out)
noncomputable def s_LoopLabels_l0 (p_Labels : Int) (p_Degree : Int) (p_Nodes : List (List Int)) (p_Edges : List (List Int)) (v : (List Int) × Int) : Option ((List Int)) := itO (fun v => s_LoopLabels_l0_S p_Labels p_Degree p_Nodes p_Edges v.1 v.2) v
noncomputable def s_LoopLabels (p_Labels : Int) (p_Degree : Int) (p_Nodes : List (List Int)) (p_Edges : List (List Int)) : Option ((List Int) × Bool) :=
  ck (Short p_Nodes) <|
  ck (Short p_Edges) <|
  if (isProb p_Labels p_Degree p_Nodes p_Edges) = true then
    (s_LoopLabels_l0 p_Labels p_Degree p_Nodes p_Edges ([], 0)).bind fun r6_ =>
    some (r6_, true)
  else
    some ([], false)
/-- spec.LoopLabels -/
def k20_l0b : SC :=
  .seq
    (.seq
      (.ops [
        ⟨(some 9), (Op.move (Operand.tmp 5)), 3, none⟩,
        ⟨(some 10), (Op.fieldAddr 28 (Operand.tmp 1) 0), 0, none⟩,
        ⟨(some 11), (Op.load 3 (Operand.tmp 10)), 3, none⟩,
        ⟨(some 12), (Op.binOp BinOp.lss 3 (Operand.tmp 9) (Operand.tmp 11) 3), 4, none⟩])
      (.cond (Operand.tmp 12)
        .skip
        (.exit 0)))
    (.seq
      (.block 1
        (.seq
          (.ops [
            ⟨(some 15), (Op.load 28 (Operand.tmp 1)), 28, none⟩,
            ⟨(some 16), (Op.move (Operand.tmp 5)), 3, none⟩,
            ⟨(some 17), (Op.move (Operand.tmp 5)), 3, none⟩,
            ⟨(some 18), (Op.call { callee := (Callee.value (Operand.func 57)), args := #[(Operand.tmp 15), (Operand.tmp 16), (Operand.tmp 17)], argTypes := #[28, 3, 3] }), 4, none⟩])
          (.cond (Operand.tmp 18)
            (.ops [
              ⟨(some 19), (Op.move (Operand.tmp 4)), 32, none⟩,
              ⟨(some 20), (Op.move (Operand.tmp 5)), 3, none⟩,
              ⟨(some 21), (Op.buildSlice 32 1 #[(0, (Operand.tmp 20))]), 32, none⟩,
              ⟨(some 22), (Op.call { callee := (Callee.builtin Builtin.append), args := #[(Operand.tmp 19), (Operand.tmp 21)], argTypes := #[32, 32] }), 32, none⟩,
              ⟨(some 4), (Op.assign (Operand.tmp 22)), 32, none⟩])
            .skip)))
      (.ops [
        ⟨(some 13), (Op.move (Operand.tmp 5)), 3, none⟩,
        ⟨(some 14), (Op.binOp BinOp.add 3 (Operand.tmp 13) (Operand.const (Value.int IntKind.i64 1)) 3), 3, none⟩,
        ⟨(some 5), (Op.assign (Operand.tmp 14)), 3, none⟩]))
def k20_l0 : SC := .loop k20_l0b
def k20 : SC :=
  .seq
    (.ops [
      ⟨(some 1), (Op.box 28 (Operand.tmp 0)), 0, none⟩,
      ⟨(some 2), (Op.assign (Operand.const (Value.slice none 0 0))), 32, none⟩,
      ⟨(some 3), (Op.assign (Operand.const (Value.bool false))), 4, none⟩])
    (.seq
      (.seq
        (.ops [
          ⟨(some 6), (Op.load 28 (Operand.tmp 1)), 28, none⟩,
          ⟨(some 7), (Op.call { callee := (Callee.value (Operand.func 56)), args := #[(Operand.tmp 6)], argTypes := #[28] }), 4, none⟩,
          ⟨(some 8), (Op.unOp UnOp.not 4 (Operand.tmp 7)), 4, none⟩])
        (.cond (Operand.tmp 8)
          (.seq
            (.ops [
              ⟨(some 2), (Op.assign (Operand.const (Value.slice none 0 0))), 32, none⟩,
              ⟨(some 3), (Op.assign (Operand.const (Value.bool false))), 4, none⟩])
            .ret)
          .skip))
      (.seq
        (.ops [
          ⟨(some 4), (Op.assign (Operand.const (Value.slice none 0 0))), 32, none⟩])
        (.seq
          (.seq
            (.ops [
              ⟨(some 5), (Op.assign (Operand.const (Value.int IntKind.i64 0))), 3, none⟩])
            (.block 0
              k20_l0))
          (.seq
            (.ops [
              ⟨(some 23), (Op.move (Operand.tmp 4)), 32, none⟩,
              ⟨(some 2), (Op.assign (Operand.tmp 23)), 32, none⟩,
              ⟨(some 3), (Op.assign (Operand.const (Value.bool true))), 4, none⟩])
            .ret))))
theorem slim20 : Try.f20.body.map (slim lends) = some k20 := by kernel_rfl
theorem ok20 : fnOk Try.f20 1 = true := by kernel_rfl
theorem c20 {a l : List D} {r : D × List D} (h : wpD Y.env k20 (fin tys l.length [ResultVar.tmp 2, ResultVar.tmp 3] r) (entry a l)) (ha : a.length = 1) : Y.call 20 a l = some r :=
  call_slim (Y := Y) rfl Try.func20 (ha ▸ ok20) slim20 h
def s_LoopLabels_l0_M (p_Labels : Int) (p_Degree : Int) (p_Nodes : List (List Int)) (p_Edges : List (List Int)) (out : List Int) (a : Int) (s : St) : Prop := s.v 1 = D.box [D.int .i64 p_Labels, D.int .i64 p_Degree, D.sl 32 (lst (fun x => D.sl 3 (lst (D.int .i64) x)) p_Nodes), D.sl 32 (lst (fun x => D.sl 3 (lst (D.int .i64) x)) p_Edges)] ∧ s.v 4 = D.own 3 (lst (D.int .i64) out) ∧ s.v 5 = D.int .i64 a
def s_LoopLabels_l0_X (p_Labels : Int) (p_Degree : Int) (p_Nodes : List (List Int)) (p_Edges : List (List Int)) (r : (List Int)) (ex : Ex) (s : St) : Prop := ex = .exit 0 ∧ s.v 4 = D.own 3 (lst (D.int .i64) r)
theorem s_LoopLabels_l0_wp (p_Labels : Int) (p_Degree : Int) (p_Nodes : List (List Int)) (p_Edges : List (List Int)) {v : (List Int) × Int} {s : St} {r : (List Int)} (h : s_LoopLabels_l0 p_Labels p_Degree p_Nodes p_Edges v = some r) (hM : s_LoopLabels_l0_M p_Labels p_Degree p_Nodes p_Edges v.1 v.2 s) : wpD Y.env k20_l0 (s_LoopLabels_l0_X p_Labels p_Degree p_Nodes p_Edges r) s := by
  unfold s_LoopLabels_l0 at h
  refine wd_itO (c := k20_l0b) (fun v => s_LoopLabels_l0_S p_Labels p_Degree p_Nodes p_Edges v.1 v.2) (fun v s => s_LoopLabels_l0_M p_Labels p_Degree p_Nodes p_Edges v.1 v.2 s) (s_LoopLabels_l0_X p_Labels p_Degree p_Nodes p_Edges) ?_ h hM
  clear h hM s v r
  intro v s o hM h
  obtain ⟨out, a⟩ := v
  dsimp only at h hM
  unfold s_LoopLabels_l0_S at h
  unfold s_LoopLabels_l0_M at hM
  obtain ⟨m0, m1, m2⟩ := hM
  unfold k20_l0b
  by_cases e5 : a < p_Labels
  · rw [if_pos e5] at h
    obtain ⟨e6, h⟩ := ckS h
    have c7 := s_prEdge_cl p_Labels p_Degree p_Nodes p_Edges a a e6
    by_cases e8 : (hasE p_Edges a a) = true
    · rw [if_pos e8] at h
      obtain ⟨e9, h⟩ := ckS h
      obtain rfl := Option.some.inj h
      simp (maxDischargeDepth := 9) only [↓xpre, xpost, xlst, xcore, yset, rg0, ↓reduceIte, Nat.reduceEqDiff, Nat.reduceLT, Nat.reduceLeDiff, Nat.reduceAdd, Nat.reduceMul, Nat.reduceMod, Nat.reduceSub, Nat.reduceBEq, Int.reduceLE, Int.reduceLT, Int.reduceEq, Int.reduceSub, Int.reduceAdd, Int.reduceToNat, Int.reduceNeg, m0, m1, m2, e5, e6, c7, e8, e9, s_LoopLabels_l0_M, s_LoopLabels_l0_X, sxN, sxE, sxR] <;> (repeat' apply And.intro) <;> first | rfl | exact ⟨_, rfl⟩ | simp [lst]
    · rw [if_neg e8] at h
      have e8f : (hasE p_Edges a a) = false := Bool.eq_false_iff.mpr e8
      obtain rfl := Option.some.inj h
      simp (maxDischargeDepth := 9) only [↓xpre, xpost, xlst, xcore, yset, rg0, ↓reduceIte, Nat.reduceEqDiff, Nat.reduceLT, Nat.reduceLeDiff, Nat.reduceAdd, Nat.reduceMul, Nat.reduceMod, Nat.reduceSub, Nat.reduceBEq, Int.reduceLE, Int.reduceLT, Int.reduceEq, Int.reduceSub, Int.reduceAdd, Int.reduceToNat, Int.reduceNeg, m0, m1, m2, e5, e6, c7, e8f, s_LoopLabels_l0_M, s_LoopLabels_l0_X, sxN, sxE, sxR] <;> (repeat' apply And.intro) <;> first | rfl | exact ⟨_, rfl⟩ | simp [lst]
  · rw [if_neg e5] at h
    obtain rfl := Option.some.inj h
    simp (maxDischargeDepth := 9) only [↓xpre, xpost, xlst, xcore, yset, rg0, ↓reduceIte, Nat.reduceEqDiff, Nat.reduceLT, Nat.reduceLeDiff, Nat.reduceAdd, Nat.reduceMul, Nat.reduceMod, Nat.reduceSub, Nat.reduceBEq, Int.reduceLE, Int.reduceLT, Int.reduceEq, Int.reduceSub, Int.reduceAdd, Int.reduceToNat, Int.reduceNeg, m0, m1, m2, e5, s_LoopLabels_l0_M, s_LoopLabels_l0_X, sxN, sxE, sxR] <;> (repeat' apply And.intro) <;> first | rfl | exact ⟨_, rfl⟩ | simp [lst]
theorem s_LoopLabels_call (p_Labels : Int) (p_Degree : Int) (p_Nodes : List (List Int)) (p_Edges : List (List Int)) {r : (List Int) × Bool} (h : s_LoopLabels p_Labels p_Degree p_Nodes p_Edges = some r) : Y.call 20 [D.agg [D.int .i64 p_Labels, D.int .i64 p_Degree, D.sl 32 (lst (fun x => D.sl 3 (lst (D.int .i64) x)) p_Nodes), D.sl 32 (lst (fun x => D.sl 3 (lst (D.int .i64) x)) p_Edges)]] [] = some (D.tup [D.own 3 (lst (D.int .i64) r.1), D.bool r.2], []) := by
  refine c20 ?_ rfl
  unfold k20
  unfold s_LoopLabels at h
  obtain ⟨e1, h⟩ := ckS h
  obtain ⟨e2, h⟩ := ckS h
  have c3 := s_prGood_cl p_Labels p_Degree p_Nodes p_Edges e1 e2
  by_cases e4 : (isProb p_Labels p_Degree p_Nodes p_Edges) = true
  · rw [if_pos e4] at h
    obtain ⟨r6_, hl6, h⟩ := bindS h
    try dsimp only at h
    simp (maxDischargeDepth := 9) only [↓xpre, xpost, xlst, xcore, yset, rg0, ↓reduceIte, Nat.reduceEqDiff, Nat.reduceLT, Nat.reduceLeDiff, Nat.reduceAdd, Nat.reduceMul, Nat.reduceMod, Nat.reduceSub, Nat.reduceBEq, Int.reduceLE, Int.reduceLT, Int.reduceEq, Int.reduceSub, Int.reduceAdd, Int.reduceToNat, Int.reduceNeg, e1, e2, c3, e4]
    refine wd_mono (s_LoopLabels_l0_wp p_Labels p_Degree p_Nodes p_Edges hl6 ?_) ?_
    · simp (maxDischargeDepth := 9) only [↓xpre, xpost, xlst, xcore, yset, rg0, ↓reduceIte, Nat.reduceEqDiff, Nat.reduceLT, Nat.reduceLeDiff, Nat.reduceAdd, Nat.reduceMul, Nat.reduceMod, Nat.reduceSub, Nat.reduceBEq, Int.reduceLE, Int.reduceLT, Int.reduceEq, Int.reduceSub, Int.reduceAdd, Int.reduceToNat, Int.reduceNeg, e1, e2, c3, e4, s_LoopLabels_l0_M] <;> (repeat' apply And.intro) <;> first | rfl | exact ⟨_, rfl⟩ | simp [lst]
    · intro ex6 s6 hX6
      unfold s_LoopLabels_l0_X at hX6
      obtain ⟨rfl, n6_0⟩ := hX6
      obtain rfl := Option.some.inj h
      simp (maxDischargeDepth := 9) only [↓xpre, xpost, xlst, xcore, yset, rg0, ↓reduceIte, Nat.reduceEqDiff, Nat.reduceLT, Nat.reduceLeDiff, Nat.reduceAdd, Nat.reduceMul, Nat.reduceMod, Nat.reduceSub, Nat.reduceBEq, Int.reduceLE, Int.reduceLT, Int.reduceEq, Int.reduceSub, Int.reduceAdd, Int.reduceToNat, Int.reduceNeg, e1, e2, c3, e4, n6_0] <;> (repeat' apply And.intro) <;> first | rfl | exact ⟨_, rfl⟩ | simp [lst]
  · rw [if_neg e4] at h
    have e4f : (isProb p_Labels p_Degree p_Nodes p_Edges) = false := Bool.eq_false_iff.mpr e4
    obtain rfl := Option.some.inj h
    simp (maxDischargeDepth := 9) only [↓xpre, xpost, xlst, xcore, yset, rg0, ↓reduceIte, Nat.reduceEqDiff, Nat.reduceLT, Nat.reduceLeDiff, Nat.reduceAdd, Nat.reduceMul, Nat.reduceMod, Nat.reduceSub, Nat.reduceBEq, Int.reduceLE, Int.reduceLT, Int.reduceEq, Int.reduceSub, Int.reduceAdd, Int.reduceToNat, Int.reduceNeg, e1, e2, c3, e4f] <;> (repeat' apply And.intro) <;> first | rfl | exact ⟨_, rfl⟩ | simp [lst]

theorem loop_both (a d : Int) (ns es : List (List Int)) (hn : Short ns) (he : Short es) : ∃ r ok, s_LoopLabels a d ns es = some (r, ok) ∧ i_LoopLabels a d ns es = some (r, ok) ∧ r.length ≤ 8 := by
  unfold s_LoopLabels i_LoopLabels
  rw [ckT hn, ckT he, ckT hn, ckT he]
  by_cases h : isProb a d ns es = true
  · rw [if_pos h, if_pos h]
    obtain ⟨⟨ha, ha'⟩, _, _, c2⟩ := isProb_cut h
    have hi := confs_inc c2
    obtain ⟨a, rfl⟩ := Int.eq_ofNat_of_zero_le (by omega : 0 ≤ a)
    have k1 : i_LoopLabels_l0 a d ns es ([], 0) = some (((List.range a).filter fun i : Nat => hasE es i i).map fun i : Nat => (i : Int)) := by
      unfold i_LoopLabels_l0
      refine itO_pick (fun v => i_LoopLabels_l0_S a d ns es v.1 v.2) a (fun i : Nat => hasE es i i) ?_ ?_
      · intro i out hia ho
        simp only [i_LoopLabels_l0_S]
        rw [if_pos (by omega), ckT he, ckT hi, ckT (by omega), wrS i (by omega)]
        by_cases hp : hasE es i i = true <;> simp only [hp, if_true, Bool.false_eq_true, if_false]
      · intro out
        simp only [i_LoopLabels_l0_S]
        rw [if_neg (by omega)]
    have k2 : s_LoopLabels_l0 a d ns es ([], 0) = some (((List.range a).filter fun i : Nat => hasE es i i).map fun i : Nat => (i : Int)) := by
      unfold s_LoopLabels_l0
      refine itO_pick (fun v => s_LoopLabels_l0_S a d ns es v.1 v.2) a (fun i : Nat => hasE es i i) ?_ ?_
      · intro i out hia ho
        simp only [s_LoopLabels_l0_S]
        rw [if_pos (by omega), ckT he, ckT (by omega), wrS i (by omega)]
        by_cases hp : hasE es i i = true <;> simp only [hp, if_true, Bool.false_eq_true, if_false]
      · intro out
        simp only [s_LoopLabels_l0_S]
        rw [if_neg (by omega)]
    rw [k1, k2]
    refine ⟨_, _, rfl, rfl, ?_⟩
    rw [List.length_map]
    have := List.length_filter_le (fun i : Nat => hasE es i i) (List.range a)
    rw [List.length_range] at this
    omega
  · rw [if_neg h, if_neg h]
    exact ⟨_, _, rfl, rfl, by simp⟩
noncomputable def l_FnExactLoopLabels (t0_Labels : Int) (t0_Degree : Int) (t0_Nodes : List (List Int)) (t0_Edges : List (List Int)) : Option (Bool) :=
  ck (Wide t0_Nodes) <|
  ck (Wide t0_Edges) <|
  ck (0 ≤ (1048576 : Int) ∧ (1048576 : Int) ≤ 1048576) <|
  if (szP (1048576 : Int) t0_Nodes t0_Edges) < 0 then
    some true
  else
    ck (Short t0_Nodes) <|
    ck (Short t0_Edges) <|
    (s_LoopLabels t0_Labels t0_Degree t0_Nodes t0_Edges).bind fun r9_ =>
    (i_LoopLabels t0_Labels t0_Degree t0_Nodes t0_Edges).bind fun r11_ =>
    ck (r11_.1.length < 1099511627776) <|
    if (decide (r11_.1 = r9_.1)) = true then
      if r11_.2 = true then
        if r9_.2 = true then
          if (sameP t0_Labels t0_Degree t0_Nodes t0_Edges t0_Labels t0_Degree t0_Nodes t0_Edges) = true then
            ck (0 ≤ (1 : Int) ∧ (1 : Int) + tot t0_Nodes + tot t0_Edges < 1099511627776) <|
            if ((1 : Int) + tot t0_Nodes + tot t0_Edges) < 0 then
              some false
            else
              ck (0 ≤ (1 : Int) ∧ (1 : Int) < 1099511627776) <|
              ck ((upto (1 : Int) r11_.1.length).length < 1099511627776) <|
              ck (0 ≤ (1 : Int) ∧ (1 : Int) + (upto (1 : Int) r11_.1.length).length < 1099511627776) <|
              if (held (1 : Int) (upto (1 : Int) r11_.1.length)) < 0 then
                some false
              else
                if (held (1 : Int) (upto (1 : Int) r11_.1.length)) = ((1 : Int) + r11_.1.length) then
                  some true
                else
                  some false
          else
            some false
        else
          some false
      else
        if r9_.2 = true then
          some false
        else
          if (sameP t0_Labels t0_Degree t0_Nodes t0_Edges t0_Labels t0_Degree t0_Nodes t0_Edges) = true then
            ck (0 ≤ (1 : Int) ∧ (1 : Int) + tot t0_Nodes + tot t0_Edges < 1099511627776) <|
            if ((1 : Int) + tot t0_Nodes + tot t0_Edges) < 0 then
              some false
            else
              ck (0 ≤ (1 : Int) ∧ (1 : Int) < 1099511627776) <|
              ck ((upto (1 : Int) r11_.1.length).length < 1099511627776) <|
              ck (0 ≤ (1 : Int) ∧ (1 : Int) + (upto (1 : Int) r11_.1.length).length < 1099511627776) <|
              if (held (1 : Int) (upto (1 : Int) r11_.1.length)) < 0 then
                some false
              else
                if (held (1 : Int) (upto (1 : Int) r11_.1.length)) = ((1 : Int) + r11_.1.length) then
                  some true
                else
                  some false
          else
            some false
    else
      some false
/-- laws.FnExactLoopLabels -/
def k4 : SC :=
  .seq
    (.ops [
      ⟨(some 1), (Op.box 24 (Operand.tmp 0)), 0, none⟩,
      ⟨(some 2), (Op.assign (Operand.const (Value.bool false))), 4, none⟩])
    (.seq
      (.ops [
        ⟨(some 3), (Op.assign (Operand.const (Value.int IntKind.i64 1048576))), 3, none⟩])
      (.seq
        (.ops [
          ⟨(some 14), (Op.load 24 (Operand.tmp 1)), 24, none⟩,
          ⟨(some 15), (Op.move (Operand.tmp 3)), 3, none⟩,
          ⟨(some 16), (Op.call { callee := (Callee.value (Operand.func 15)), args := #[(Operand.tmp 14), (Operand.tmp 15)], argTypes := #[24, 3] }), 3, none⟩,
          ⟨(some 3), (Op.assign (Operand.tmp 16)), 3, none⟩])
        (.seq
          (.seq
            (.ops [
              ⟨(some 17), (Op.move (Operand.tmp 3)), 3, none⟩,
              ⟨(some 18), (Op.binOp BinOp.lss 3 (Operand.tmp 17) (Operand.const (Value.int IntKind.i64 0)) 3), 4, none⟩])
            (.cond (Operand.tmp 18)
              (.seq
                (.ops [
                  ⟨(some 2), (Op.assign (Operand.const (Value.bool true))), 4, none⟩])
                .ret)
              .skip))
          (.seq
            (.ops [
              ⟨(some 20), (Op.load 24 (Operand.tmp 1)), 24, none⟩,
              ⟨(some 21), (Op.call { callee := (Callee.value (Operand.func 17)), args := #[(Operand.tmp 20)], argTypes := #[24] }), 28, none⟩,
              ⟨(some 22), (Op.call { callee := (Callee.value (Operand.func 20)), args := #[(Operand.tmp 21)], argTypes := #[28] }), 33, none⟩,
              ⟨(some 19), (Op.move (Operand.tmp 22)), 33, none⟩,
              ⟨(some 23), (Op.extract (Operand.tmp 19) 0), 32, none⟩,
              ⟨(some 24), (Op.extract (Operand.tmp 19) 1), 4, none⟩,
              ⟨(some 4), (Op.assign (Operand.tmp 23)), 32, none⟩,
              ⟨(some 5), (Op.assign (Operand.tmp 24)), 4, none⟩])
            (.seq
              (.ops [
                ⟨(some 25), (Op.load 24 (Operand.tmp 1)), 24, none⟩,
                ⟨(some 26), (Op.call { callee := (Callee.value (Operand.func 17)), args := #[(Operand.tmp 25)], argTypes := #[24] }), 28, none⟩,
                ⟨(some 6), (Op.alloc 28), 0, none⟩,
                ⟨none, (Op.store 28 (Operand.tmp 6) (Operand.tmp 26)), 0, none⟩])
              (.seq
                (.ops [
                  ⟨(some 28), (Op.load 28 (Operand.tmp 6)), 28, none⟩,
                  ⟨(some 29), (Op.call { callee := (Callee.value (Operand.func 21)), args := #[(Operand.tmp 28)], argTypes := #[28] }), 33, none⟩,
                  ⟨(some 27), (Op.move (Operand.tmp 29)), 33, none⟩,
                  ⟨(some 30), (Op.extract (Operand.tmp 27) 0), 32, none⟩,
                  ⟨(some 31), (Op.extract (Operand.tmp 27) 1), 4, none⟩,
                  ⟨(some 7), (Op.assign (Operand.tmp 30)), 32, none⟩,
                  ⟨(some 8), (Op.assign (Operand.tmp 31)), 4, none⟩])
                (.seq
                  (.seq
                    (.ops [
                      ⟨(some 32), (Op.move (Operand.tmp 7)), 32, none⟩,
                      ⟨(some 33), (Op.move (Operand.tmp 4)), 32, none⟩,
                      ⟨(some 34), (Op.call { callee := (Callee.value (Operand.func 22)), args := #[(Operand.tmp 32), (Operand.tmp 33)], argTypes := #[32, 32] }), 4, none⟩,
                      ⟨(some 35), (Op.unOp UnOp.not 4 (Operand.tmp 34)), 4, none⟩,
                      ⟨(some 36), (Op.move (Operand.tmp 35)), 4, none⟩,
                      ⟨(some 37), (Op.move (Operand.tmp 8)), 4, (some (some 36, false))⟩,
                      ⟨(some 38), (Op.move (Operand.tmp 5)), 4, (some (some 36, false))⟩,
                      ⟨(some 39), (Op.binOp BinOp.neq 4 (Operand.tmp 37) (Operand.tmp 38) 4), 4, (some (some 36, false))⟩,
                      ⟨(some 40), (Op.pick (Operand.tmp 36) (Operand.const (Value.bool true)) (Operand.tmp 39)), 4, none⟩])
                    (.cond (Operand.tmp 40)
                      (.seq
                        (.ops [
                          ⟨(some 2), (Op.assign (Operand.const (Value.bool false))), 4, none⟩])
                        .ret)
                      .skip))
                  (.seq
                    (.seq
                      (.draws [
                        (⟨[41, 6, 6], [41, 42, 43, 44, 45], [41]⟩, ⟨(some 41), (Op.load 28 (Operand.tmp 6)), 28, none⟩),
                        (⟨[42, 1, 1], [41, 42, 43, 44, 45], [42]⟩, ⟨(some 42), (Op.load 24 (Operand.tmp 1)), 24, none⟩),
                        (⟨[43, 42, 1], [41, 42, 43, 44, 45], [43]⟩, ⟨(some 43), (Op.call { callee := (Callee.value (Operand.func 17)), args := #[(Operand.tmp 42)], argTypes := #[24] }), 28, none⟩),
                        (⟨[44, 41, 43, 6, 43], [41, 42, 43, 44, 45], [44]⟩, ⟨(some 44), (Op.call { callee := (Callee.value (Operand.func 19)), args := #[(Operand.tmp 41), (Operand.tmp 43)], argTypes := #[28, 28] }), 4, none⟩),
                        (⟨[45, 44, 44], [41, 42, 43, 44, 45], [45]⟩, ⟨(some 45), (Op.unOp UnOp.not 4 (Operand.tmp 44)), 4, none⟩)])
                      (.cond (Operand.tmp 45)
                        (.seq
                          (.ops [
                            ⟨(some 2), (Op.assign (Operand.const (Value.bool false))), 4, none⟩])
                          .ret)
                        .skip))
                    (.seq
                      (.ops [
                        ⟨(some 9), (Op.assign (Operand.const (Value.int IntKind.i64 1))), 3, none⟩])
                      (.seq
                        (.ops [
                          ⟨(some 46), (Op.load 28 (Operand.tmp 6)), 28, none⟩,
                          ⟨(some 47), (Op.move (Operand.tmp 9)), 3, none⟩,
                          ⟨(some 48), (Op.call { callee := (Callee.value (Operand.func 23)), args := #[(Operand.tmp 46), (Operand.tmp 47)], argTypes := #[28, 3] }), 3, none⟩,
                          ⟨(some 9), (Op.assign (Operand.tmp 48)), 3, none⟩])
                        (.seq
                          (.seq
                            (.ops [
                              ⟨(some 49), (Op.move (Operand.tmp 9)), 3, none⟩,
                              ⟨(some 50), (Op.binOp BinOp.lss 3 (Operand.tmp 49) (Operand.const (Value.int IntKind.i64 0)) 3), 4, none⟩,
                              ⟨(some 51), (Op.move (Operand.tmp 50)), 4, none⟩,
                              ⟨(some 52), (Op.move (Operand.tmp 7)), 32, (some (some 51, false))⟩,
                              ⟨(some 53), (Op.move (Operand.tmp 4)), 32, (some (some 51, false))⟩,
                              ⟨(some 54), (Op.call { callee := (Callee.value (Operand.func 22)), args := #[(Operand.tmp 52), (Operand.tmp 53)], argTypes := #[32, 32] }), 4, (some (some 51, false))⟩,
                              ⟨(some 55), (Op.unOp UnOp.not 4 (Operand.tmp 54)), 4, (some (some 51, false))⟩,
                              ⟨(some 56), (Op.pick (Operand.tmp 51) (Operand.const (Value.bool true)) (Operand.tmp 55)), 4, none⟩,
                              ⟨(some 57), (Op.move (Operand.tmp 56)), 4, none⟩,
                              ⟨(some 58), (Op.move (Operand.tmp 8)), 4, (some (some 57, false))⟩,
                              ⟨(some 59), (Op.move (Operand.tmp 5)), 4, (some (some 57, false))⟩,
                              ⟨(some 60), (Op.binOp BinOp.neq 4 (Operand.tmp 58) (Operand.tmp 59) 4), 4, (some (some 57, false))⟩,
                              ⟨(some 61), (Op.pick (Operand.tmp 57) (Operand.const (Value.bool true)) (Operand.tmp 60)), 4, none⟩])
                            (.cond (Operand.tmp 61)
                              (.seq
                                (.ops [
                                  ⟨(some 2), (Op.assign (Operand.const (Value.bool false))), 4, none⟩])
                                .ret)
                              .skip))
                          (.seq
                            (.ops [
                              ⟨(some 10), (Op.assign (Operand.const (Value.int IntKind.i64 1))), 3, none⟩])
                            (.seq
                              (.ops [
                                ⟨(some 62), (Op.move (Operand.tmp 7)), 32, none⟩,
                                ⟨(some 63), (Op.move (Operand.tmp 10)), 3, none⟩,
                                ⟨(some 64), (Op.call { callee := (Callee.value (Operand.func 24)), args := #[(Operand.tmp 62), (Operand.tmp 63)], argTypes := #[32, 3] }), 3, none⟩,
                                ⟨(some 10), (Op.assign (Operand.tmp 64)), 3, none⟩])
                              (.seq
                                (.ops [
                                  ⟨(some 11), (Op.assign (Operand.const (Value.int IntKind.i64 1))), 3, none⟩])
                                (.seq
                                  (.ops [
                                    ⟨(some 65), (Op.move (Operand.tmp 7)), 32, none⟩,
                                    ⟨(some 66), (Op.move (Operand.tmp 11)), 3, none⟩,
                                    ⟨(some 67), (Op.call { callee := (Callee.value (Operand.func 25)), args := #[(Operand.tmp 65), (Operand.tmp 66)], argTypes := #[32, 3] }), 3, none⟩,
                                    ⟨(some 11), (Op.assign (Operand.tmp 67)), 3, none⟩])
                                  (.seq
                                    (.seq
                                      (.ops [
                                        ⟨(some 68), (Op.move (Operand.tmp 11)), 3, none⟩,
                                        ⟨(some 69), (Op.binOp BinOp.lss 3 (Operand.tmp 68) (Operand.const (Value.int IntKind.i64 0)) 3), 4, none⟩])
                                      (.cond (Operand.tmp 69)
                                        (.seq
                                          (.ops [
                                            ⟨(some 2), (Op.assign (Operand.const (Value.bool false))), 4, none⟩])
                                          .ret)
                                        .skip))
                                    (.seq
                                      (.seq
                                        (.ops [
                                          ⟨(some 70), (Op.move (Operand.tmp 11)), 3, none⟩,
                                          ⟨(some 71), (Op.move (Operand.tmp 10)), 3, none⟩,
                                          ⟨(some 72), (Op.binOp BinOp.neq 3 (Operand.tmp 70) (Operand.tmp 71) 3), 4, none⟩])
                                        (.cond (Operand.tmp 72)
                                          (.seq
                                            (.ops [
                                              ⟨(some 2), (Op.assign (Operand.const (Value.bool false))), 4, none⟩])
                                            .ret)
                                          .skip))
                                      (.seq
                                        (.ops [
                                          ⟨(some 74), (Op.load 24 (Operand.tmp 1)), 24, none⟩,
                                          ⟨(some 75), (Op.call { callee := (Callee.value (Operand.func 17)), args := #[(Operand.tmp 74)], argTypes := #[24] }), 28, none⟩,
                                          ⟨(some 76), (Op.call { callee := (Callee.value (Operand.func 21)), args := #[(Operand.tmp 75)], argTypes := #[28] }), 33, none⟩,
                                          ⟨(some 73), (Op.move (Operand.tmp 76)), 33, none⟩,
                                          ⟨(some 77), (Op.extract (Operand.tmp 73) 0), 32, none⟩,
                                          ⟨(some 78), (Op.extract (Operand.tmp 73) 1), 4, none⟩,
                                          ⟨(some 12), (Op.assign (Operand.tmp 77)), 32, none⟩,
                                          ⟨(some 13), (Op.assign (Operand.tmp 78)), 4, none⟩])
                                        (.seq
                                          (.seq
                                            (.ops [
                                              ⟨(some 79), (Op.move (Operand.tmp 12)), 32, none⟩,
                                              ⟨(some 80), (Op.move (Operand.tmp 4)), 32, none⟩,
                                              ⟨(some 81), (Op.call { callee := (Callee.value (Operand.func 22)), args := #[(Operand.tmp 79), (Operand.tmp 80)], argTypes := #[32, 32] }), 4, none⟩,
                                              ⟨(some 82), (Op.unOp UnOp.not 4 (Operand.tmp 81)), 4, none⟩,
                                              ⟨(some 83), (Op.move (Operand.tmp 82)), 4, none⟩,
                                              ⟨(some 84), (Op.move (Operand.tmp 13)), 4, (some (some 83, false))⟩,
                                              ⟨(some 85), (Op.move (Operand.tmp 5)), 4, (some (some 83, false))⟩,
                                              ⟨(some 86), (Op.binOp BinOp.neq 4 (Operand.tmp 84) (Operand.tmp 85) 4), 4, (some (some 83, false))⟩,
                                              ⟨(some 87), (Op.pick (Operand.tmp 83) (Operand.const (Value.bool true)) (Operand.tmp 86)), 4, none⟩])
                                            (.cond (Operand.tmp 87)
                                              (.seq
                                                (.ops [
                                                  ⟨(some 2), (Op.assign (Operand.const (Value.bool false))), 4, none⟩])
                                                .ret)
                                              .skip))
                                          (.seq
                                            (.ops [
                                              ⟨(some 11), (Op.assign (Operand.const (Value.int IntKind.i64 1))), 3, none⟩])
                                            (.seq
                                              (.ops [
                                                ⟨(some 88), (Op.move (Operand.tmp 7)), 32, none⟩,
                                                ⟨(some 89), (Op.move (Operand.tmp 11)), 3, none⟩,
                                                ⟨(some 90), (Op.call { callee := (Callee.value (Operand.func 25)), args := #[(Operand.tmp 88), (Operand.tmp 89)], argTypes := #[32, 3] }), 3, none⟩,
                                                ⟨(some 11), (Op.assign (Operand.tmp 90)), 3, none⟩])
                                              (.seq
                                                (.seq
                                                  (.ops [
                                                    ⟨(some 91), (Op.move (Operand.tmp 11)), 3, none⟩,
                                                    ⟨(some 92), (Op.binOp BinOp.lss 3 (Operand.tmp 91) (Operand.const (Value.int IntKind.i64 0)) 3), 4, none⟩])
                                                  (.cond (Operand.tmp 92)
                                                    (.seq
                                                      (.ops [
                                                        ⟨(some 2), (Op.assign (Operand.const (Value.bool false))), 4, none⟩])
                                                      .ret)
                                                    .skip))
                                                (.seq
                                                  (.seq
                                                    (.ops [
                                                      ⟨(some 93), (Op.move (Operand.tmp 11)), 3, none⟩,
                                                      ⟨(some 94), (Op.move (Operand.tmp 10)), 3, none⟩,
                                                      ⟨(some 95), (Op.binOp BinOp.neq 3 (Operand.tmp 93) (Operand.tmp 94) 3), 4, none⟩])
                                                    (.cond (Operand.tmp 95)
                                                      (.seq
                                                        (.ops [
                                                          ⟨(some 2), (Op.assign (Operand.const (Value.bool false))), 4, none⟩])
                                                        .ret)
                                                      .skip))
                                                  (.seq
                                                    (.ops [
                                                      ⟨(some 2), (Op.assign (Operand.const (Value.bool true))), 4, none⟩])
                                                    .ret))))))))))))))))))))))))
theorem slim4 : Try.f4.body.map (slim lends) = some k4 := by kernel_rfl
theorem ok4 : fnOk Try.f4 1 = true := by kernel_rfl
theorem c4 {a l : List D} {r : D × List D} (h : wpD Y.env k4 (fin tys l.length [ResultVar.tmp 2] r) (entry a l)) (ha : a.length = 1) : Y.call 4 a l = some r :=
  call_slim (Y := Y) rfl Try.func4 (ha ▸ ok4) slim4 h
theorem l_FnExactLoopLabels_call (t0_Labels : Int) (t0_Degree : Int) (t0_Nodes : List (List Int)) (t0_Edges : List (List Int)) {r : Bool} (h : l_FnExactLoopLabels t0_Labels t0_Degree t0_Nodes t0_Edges = some r) : Y.call 4 [D.agg [D.int .i64 t0_Labels, D.int .i64 t0_Degree, D.sl 32 (lst (fun x => D.sl 3 (lst (D.int .i64) x)) t0_Nodes), D.sl 32 (lst (fun x => D.sl 3 (lst (D.int .i64) x)) t0_Edges)]] [] = some (D.bool r, []) := by
  refine c4 ?_ rfl
  unfold k4
  unfold l_FnExactLoopLabels at h
  obtain ⟨e1, h⟩ := ckS h
  obtain ⟨e2, h⟩ := ckS h
  obtain ⟨e3, h⟩ := ckS h
  have c4 := l_szProblem_cl t0_Labels t0_Degree t0_Nodes t0_Edges (1048576 : Int) e1 e2 e3
  by_cases e5 : (szP (1048576 : Int) t0_Nodes t0_Edges) < 0
  · rw [if_pos e5] at h
    obtain rfl := Option.some.inj h
    simp (maxDischargeDepth := 9) only [↓xpre, xpost, xlst, xcore, yset, rg0, ↓reduceIte, Nat.reduceEqDiff, Nat.reduceLT, Nat.reduceLeDiff, Nat.reduceAdd, Nat.reduceMul, Nat.reduceMod, Nat.reduceSub, Nat.reduceBEq, Int.reduceLE, Int.reduceLT, Int.reduceEq, Int.reduceSub, Int.reduceAdd, Int.reduceToNat, Int.reduceNeg, e1, e2, e3.1, e3.2, c4, e5] <;> (repeat' apply And.intro) <;> first | rfl | exact ⟨_, rfl⟩ | simp [lst]
  · rw [if_neg e5] at h
    obtain ⟨e6, h⟩ := ckS h
    obtain ⟨e7, h⟩ := ckS h
    have c8 := l_toProblem_cl t0_Labels t0_Degree t0_Nodes t0_Edges e6 e7
    obtain ⟨r9_, hl9, h⟩ := bindS h
    try dsimp only at h
    have c9 := s_LoopLabels_call t0_Labels t0_Degree t0_Nodes t0_Edges hl9
    have c10 := l_toProblem_cl t0_Labels t0_Degree t0_Nodes t0_Edges e6 e7
    obtain ⟨r11_, hl11, h⟩ := bindS h
    try dsimp only at h
    have c11 := i_LoopLabels_call t0_Labels t0_Degree t0_Nodes t0_Edges hl11
    obtain ⟨e12, h⟩ := ckS h
    have c13 := l_eqIntS_cl r11_.1 r9_.1 e12
    by_cases e14 : (decide (r11_.1 = r9_.1)) = true
    · rw [if_pos e14] at h
      by_cases e15 : r11_.2 = true
      · rw [if_pos e15] at h
        by_cases e16 : r9_.2 = true
        · rw [if_pos e16] at h
          have c17 := l_toProblem_cl t0_Labels t0_Degree t0_Nodes t0_Edges e6 e7
          have c18 := l_eqProblem_cl t0_Labels t0_Degree t0_Nodes t0_Edges t0_Labels t0_Degree t0_Nodes t0_Edges e6 e7
          by_cases e19 : (sameP t0_Labels t0_Degree t0_Nodes t0_Edges t0_Labels t0_Degree t0_Nodes t0_Edges) = true
          · rw [if_pos e19] at h
            obtain ⟨e20, h⟩ := ckS h
            have c21 := l_markProblem_cl t0_Labels t0_Degree t0_Nodes t0_Edges (1 : Int) e6 e7 e20
            by_cases e22 : ((1 : Int) + tot t0_Nodes + tot t0_Edges) < 0
            · rw [if_pos e22] at h
              obtain rfl := Option.some.inj h
              simp (maxDischargeDepth := 9) only [↓xpre, xpost, xlst, xcore, yset, rg0, ↓reduceIte, Nat.reduceEqDiff, Nat.reduceLT, Nat.reduceLeDiff, Nat.reduceAdd, Nat.reduceMul, Nat.reduceMod, Nat.reduceSub, Nat.reduceBEq, Int.reduceLE, Int.reduceLT, Int.reduceEq, Int.reduceSub, Int.reduceAdd, Int.reduceToNat, Int.reduceNeg, e1, e2, e3.1, e3.2, c4, e5, e6, e7, c8, c9, c10, c11, e12, c13, e14, e15, e16, c17, c18, e19, e20.1, e20.2, c21, e22] <;> (repeat' apply And.intro) <;> first | rfl | exact ⟨_, rfl⟩ | simp [lst]
            · rw [if_neg e22] at h
              have c23 := l_eqIntS_cl r11_.1 r9_.1 e12
              obtain ⟨e24, h⟩ := ckS h
              have c25 := l_markIntS_cl r11_.1 (1 : Int) e12 e24
              obtain ⟨e26, h⟩ := ckS h
              obtain ⟨e27, h⟩ := ckS h
              have c28 := l_heldIntS_cl (upto (1 : Int) r11_.1.length) (1 : Int) e26 e27
              by_cases e29 : (held (1 : Int) (upto (1 : Int) r11_.1.length)) < 0
              · rw [if_pos e29] at h
                obtain rfl := Option.some.inj h
                simp (maxDischargeDepth := 9) only [↓xpre, xpost, xlst, xcore, yset, rg0, ↓reduceIte, Nat.reduceEqDiff, Nat.reduceLT, Nat.reduceLeDiff, Nat.reduceAdd, Nat.reduceMul, Nat.reduceMod, Nat.reduceSub, Nat.reduceBEq, Int.reduceLE, Int.reduceLT, Int.reduceEq, Int.reduceSub, Int.reduceAdd, Int.reduceToNat, Int.reduceNeg, e1, e2, e3.1, e3.2, c4, e5, e6, e7, c8, c9, c10, c11, e12, c13, e14, e15, e16, c17, c18, e19, e20.1, e20.2, c21, e22, c23, e24.1, e24.2, c25, e26, e27.1, e27.2, c28, e29] <;> (repeat' apply And.intro) <;> first | rfl | exact ⟨_, rfl⟩ | simp [lst]
              · rw [if_neg e29] at h
                by_cases e30 : (held (1 : Int) (upto (1 : Int) r11_.1.length)) = ((1 : Int) + r11_.1.length)
                · rw [if_pos e30] at h
                  have c31 := l_toProblem_cl t0_Labels t0_Degree t0_Nodes t0_Edges e6 e7
                  have c32 := l_eqIntS_cl r11_.1 r9_.1 e12
                  have c33 := l_heldIntS_cl (upto (1 : Int) r11_.1.length) (1 : Int) e26 e27
                  obtain rfl := Option.some.inj h
                  simp (maxDischargeDepth := 9) only [↓xpre, xpost, xlst, xcore, yset, rg0, ↓reduceIte, Nat.reduceEqDiff, Nat.reduceLT, Nat.reduceLeDiff, Nat.reduceAdd, Nat.reduceMul, Nat.reduceMod, Nat.reduceSub, Nat.reduceBEq, Int.reduceLE, Int.reduceLT, Int.reduceEq, Int.reduceSub, Int.reduceAdd, Int.reduceToNat, Int.reduceNeg, e1, e2, e3.1, e3.2, c4, e5, e6, e7, c8, c9, c10, c11, e12, c13, e14, e15, e16, c17, c18, e19, e20.1, e20.2, c21, e22, c23, e24.1, e24.2, c25, e26, e27.1, e27.2, c28, e29, decide_eq_true e30, c31, c32, c33] <;> (repeat' apply And.intro) <;> first | rfl | exact ⟨_, rfl⟩ | simp [lst]
                · rw [if_neg e30] at h
                  obtain rfl := Option.some.inj h
                  simp (maxDischargeDepth := 9) only [↓xpre, xpost, xlst, xcore, yset, rg0, ↓reduceIte, Nat.reduceEqDiff, Nat.reduceLT, Nat.reduceLeDiff, Nat.reduceAdd, Nat.reduceMul, Nat.reduceMod, Nat.reduceSub, Nat.reduceBEq, Int.reduceLE, Int.reduceLT, Int.reduceEq, Int.reduceSub, Int.reduceAdd, Int.reduceToNat, Int.reduceNeg, e1, e2, e3.1, e3.2, c4, e5, e6, e7, c8, c9, c10, c11, e12, c13, e14, e15, e16, c17, c18, e19, e20.1, e20.2, c21, e22, c23, e24.1, e24.2, c25, e26, e27.1, e27.2, c28, e29, e30] <;> (repeat' apply And.intro) <;> first | rfl | exact ⟨_, rfl⟩ | simp [lst]
          · rw [if_neg e19] at h
            have e19f : (sameP t0_Labels t0_Degree t0_Nodes t0_Edges t0_Labels t0_Degree t0_Nodes t0_Edges) = false := Bool.eq_false_iff.mpr e19
            obtain rfl := Option.some.inj h
            simp (maxDischargeDepth := 9) only [↓xpre, xpost, xlst, xcore, yset, rg0, ↓reduceIte, Nat.reduceEqDiff, Nat.reduceLT, Nat.reduceLeDiff, Nat.reduceAdd, Nat.reduceMul, Nat.reduceMod, Nat.reduceSub, Nat.reduceBEq, Int.reduceLE, Int.reduceLT, Int.reduceEq, Int.reduceSub, Int.reduceAdd, Int.reduceToNat, Int.reduceNeg, e1, e2, e3.1, e3.2, c4, e5, e6, e7, c8, c9, c10, c11, e12, c13, e14, e15, e16, c17, c18, e19f] <;> (repeat' apply And.intro) <;> first | rfl | exact ⟨_, rfl⟩ | simp [lst]
        · rw [if_neg e16] at h
          have e16f : r9_.2 = false := Bool.eq_false_iff.mpr e16
          obtain rfl := Option.some.inj h
          simp (maxDischargeDepth := 9) only [↓xpre, xpost, xlst, xcore, yset, rg0, ↓reduceIte, Nat.reduceEqDiff, Nat.reduceLT, Nat.reduceLeDiff, Nat.reduceAdd, Nat.reduceMul, Nat.reduceMod, Nat.reduceSub, Nat.reduceBEq, Int.reduceLE, Int.reduceLT, Int.reduceEq, Int.reduceSub, Int.reduceAdd, Int.reduceToNat, Int.reduceNeg, e1, e2, e3.1, e3.2, c4, e5, e6, e7, c8, c9, c10, c11, e12, c13, e14, e15, e16f] <;> (repeat' apply And.intro) <;> first | rfl | exact ⟨_, rfl⟩ | simp [lst]
      · rw [if_neg e15] at h
        have e15f : r11_.2 = false := Bool.eq_false_iff.mpr e15
        by_cases e16 : r9_.2 = true
        · rw [if_pos e16] at h
          obtain rfl := Option.some.inj h
          simp (maxDischargeDepth := 9) only [↓xpre, xpost, xlst, xcore, yset, rg0, ↓reduceIte, Nat.reduceEqDiff, Nat.reduceLT, Nat.reduceLeDiff, Nat.reduceAdd, Nat.reduceMul, Nat.reduceMod, Nat.reduceSub, Nat.reduceBEq, Int.reduceLE, Int.reduceLT, Int.reduceEq, Int.reduceSub, Int.reduceAdd, Int.reduceToNat, Int.reduceNeg, e1, e2, e3.1, e3.2, c4, e5, e6, e7, c8, c9, c10, c11, e12, c13, e14, e15f, e16] <;> (repeat' apply And.intro) <;> first | rfl | exact ⟨_, rfl⟩ | simp [lst]
        · rw [if_neg e16] at h
          have e16f : r9_.2 = false := Bool.eq_false_iff.mpr e16
          have c17 := l_toProblem_cl t0_Labels t0_Degree t0_Nodes t0_Edges e6 e7
          have c18 := l_eqProblem_cl t0_Labels t0_Degree t0_Nodes t0_Edges t0_Labels t0_Degree t0_Nodes t0_Edges e6 e7
          by_cases e19 : (sameP t0_Labels t0_Degree t0_Nodes t0_Edges t0_Labels t0_Degree t0_Nodes t0_Edges) = true
          · rw [if_pos e19] at h
            obtain ⟨e20, h⟩ := ckS h
            have c21 := l_markProblem_cl t0_Labels t0_Degree t0_Nodes t0_Edges (1 : Int) e6 e7 e20
            by_cases e22 : ((1 : Int) + tot t0_Nodes + tot t0_Edges) < 0
            · rw [if_pos e22] at h
              obtain rfl := Option.some.inj h
              simp (maxDischargeDepth := 9) only [↓xpre, xpost, xlst, xcore, yset, rg0, ↓reduceIte, Nat.reduceEqDiff, Nat.reduceLT, Nat.reduceLeDiff, Nat.reduceAdd, Nat.reduceMul, Nat.reduceMod, Nat.reduceSub, Nat.reduceBEq, Int.reduceLE, Int.reduceLT, Int.reduceEq, Int.reduceSub, Int.reduceAdd, Int.reduceToNat, Int.reduceNeg, e1, e2, e3.1, e3.2, c4, e5, e6, e7, c8, c9, c10, c11, e12, c13, e14, e15f, e16f, c17, c18, e19, e20.1, e20.2, c21, e22] <;> (repeat' apply And.intro) <;> first | rfl | exact ⟨_, rfl⟩ | simp [lst]
            · rw [if_neg e22] at h
              have c23 := l_eqIntS_cl r11_.1 r9_.1 e12
              obtain ⟨e24, h⟩ := ckS h
              have c25 := l_markIntS_cl r11_.1 (1 : Int) e12 e24
              obtain ⟨e26, h⟩ := ckS h
              obtain ⟨e27, h⟩ := ckS h
              have c28 := l_heldIntS_cl (upto (1 : Int) r11_.1.length) (1 : Int) e26 e27
              by_cases e29 : (held (1 : Int) (upto (1 : Int) r11_.1.length)) < 0
              · rw [if_pos e29] at h
                obtain rfl := Option.some.inj h
                simp (maxDischargeDepth := 9) only [↓xpre, xpost, xlst, xcore, yset, rg0, ↓reduceIte, Nat.reduceEqDiff, Nat.reduceLT, Nat.reduceLeDiff, Nat.reduceAdd, Nat.reduceMul, Nat.reduceMod, Nat.reduceSub, Nat.reduceBEq, Int.reduceLE, Int.reduceLT, Int.reduceEq, Int.reduceSub, Int.reduceAdd, Int.reduceToNat, Int.reduceNeg, e1, e2, e3.1, e3.2, c4, e5, e6, e7, c8, c9, c10, c11, e12, c13, e14, e15f, e16f, c17, c18, e19, e20.1, e20.2, c21, e22, c23, e24.1, e24.2, c25, e26, e27.1, e27.2, c28, e29] <;> (repeat' apply And.intro) <;> first | rfl | exact ⟨_, rfl⟩ | simp [lst]
              · rw [if_neg e29] at h
                by_cases e30 : (held (1 : Int) (upto (1 : Int) r11_.1.length)) = ((1 : Int) + r11_.1.length)
                · rw [if_pos e30] at h
                  have c31 := l_toProblem_cl t0_Labels t0_Degree t0_Nodes t0_Edges e6 e7
                  have c32 := l_eqIntS_cl r11_.1 r9_.1 e12
                  have c33 := l_heldIntS_cl (upto (1 : Int) r11_.1.length) (1 : Int) e26 e27
                  obtain rfl := Option.some.inj h
                  simp (maxDischargeDepth := 9) only [↓xpre, xpost, xlst, xcore, yset, rg0, ↓reduceIte, Nat.reduceEqDiff, Nat.reduceLT, Nat.reduceLeDiff, Nat.reduceAdd, Nat.reduceMul, Nat.reduceMod, Nat.reduceSub, Nat.reduceBEq, Int.reduceLE, Int.reduceLT, Int.reduceEq, Int.reduceSub, Int.reduceAdd, Int.reduceToNat, Int.reduceNeg, e1, e2, e3.1, e3.2, c4, e5, e6, e7, c8, c9, c10, c11, e12, c13, e14, e15f, e16f, c17, c18, e19, e20.1, e20.2, c21, e22, c23, e24.1, e24.2, c25, e26, e27.1, e27.2, c28, e29, decide_eq_true e30, c31, c32, c33] <;> (repeat' apply And.intro) <;> first | rfl | exact ⟨_, rfl⟩ | simp [lst]
                · rw [if_neg e30] at h
                  obtain rfl := Option.some.inj h
                  simp (maxDischargeDepth := 9) only [↓xpre, xpost, xlst, xcore, yset, rg0, ↓reduceIte, Nat.reduceEqDiff, Nat.reduceLT, Nat.reduceLeDiff, Nat.reduceAdd, Nat.reduceMul, Nat.reduceMod, Nat.reduceSub, Nat.reduceBEq, Int.reduceLE, Int.reduceLT, Int.reduceEq, Int.reduceSub, Int.reduceAdd, Int.reduceToNat, Int.reduceNeg, e1, e2, e3.1, e3.2, c4, e5, e6, e7, c8, c9, c10, c11, e12, c13, e14, e15f, e16f, c17, c18, e19, e20.1, e20.2, c21, e22, c23, e24.1, e24.2, c25, e26, e27.1, e27.2, c28, e29, e30] <;> (repeat' apply And.intro) <;> first | rfl | exact ⟨_, rfl⟩ | simp [lst]
          · rw [if_neg e19] at h
            have e19f : (sameP t0_Labels t0_Degree t0_Nodes t0_Edges t0_Labels t0_Degree t0_Nodes t0_Edges) = false := Bool.eq_false_iff.mpr e19
            obtain rfl := Option.some.inj h
            simp (maxDischargeDepth := 9) only [↓xpre, xpost, xlst, xcore, yset, rg0, ↓reduceIte, Nat.reduceEqDiff, Nat.reduceLT, Nat.reduceLeDiff, Nat.reduceAdd, Nat.reduceMul, Nat.reduceMod, Nat.reduceSub, Nat.reduceBEq, Int.reduceLE, Int.reduceLT, Int.reduceEq, Int.reduceSub, Int.reduceAdd, Int.reduceToNat, Int.reduceNeg, e1, e2, e3.1, e3.2, c4, e5, e6, e7, c8, c9, c10, c11, e12, c13, e14, e15f, e16f, c17, c18, e19f] <;> (repeat' apply And.intro) <;> first | rfl | exact ⟨_, rfl⟩ | simp [lst]
    · rw [if_neg e14] at h
      have e14f : (decide (r11_.1 = r9_.1)) = false := Bool.eq_false_iff.mpr e14
      obtain rfl := Option.some.inj h
      simp (maxDischargeDepth := 9) only [↓xpre, xpost, xlst, xcore, yset, rg0, ↓reduceIte, Nat.reduceEqDiff, Nat.reduceLT, Nat.reduceLeDiff, Nat.reduceAdd, Nat.reduceMul, Nat.reduceMod, Nat.reduceSub, Nat.reduceBEq, Int.reduceLE, Int.reduceLT, Int.reduceEq, Int.reduceSub, Int.reduceAdd, Int.reduceToNat, Int.reduceNeg, e1, e2, e3.1, e3.2, c4, e5, e6, e7, c8, c9, c10, c11, e12, c13, e14f] <;> (repeat' apply And.intro) <;> first | rfl | exact ⟨_, rfl⟩ | simp [lst]

theorem loop_law (a d : Int) (ns es : List (List Int)) (hn : Wide ns) (he : Wide es) : l_FnExactLoopLabels a d ns es = some true := by
  unfold l_FnExactLoopLabels
  rw [ckT hn, ckT he, ckT (by omega)]
  by_cases q1 : szP 1048576 ns es < 0
  · rw [if_pos q1]
  · obtain ⟨f1, sn, se, f2⟩ := szP_fit (by omega) q1
    have t1 := tot_nonneg ns
    have t2 := tot_nonneg es
    obtain ⟨r, ok, hS, hI, hr⟩ := loop_both a d ns es sn se
    have g1 : (0 : Int) ≤ 1 ∧ 1 + tot ns + tot es < 1099511627776 := by omega
    have g2 : ¬ 1 + tot ns + tot es < 0 := by omega
    have g3 : r.length < 1099511627776 := by omega
    have g4 : (0 : Int) ≤ 1 ∧ (1 : Int) < 1099511627776 := by omega
    have g5 : (0 : Int) ≤ 1 ∧ (1 : Int) + (r.length : Int) < 1099511627776 := by omega
    have g6 : ¬ (1 : Int) + (r.length : Int) < 0 := by omega
    rw [if_neg q1, ckT sn, ckT se]
    simp only [hS, hI, Option.bind_some, ckT g3, decide_true, sameP_refl, if_true, ckT g1, if_neg g2, ckT g4, upto_len, ckT g5, held_upto, if_neg g6]
    cases ok <;> rfl
theorem loop_all (ds : List D) (h : Args tys [24] ds) : Y.call 4 ds [] = some (.bool true, []) := by
  rcases ds with _ | ⟨x, _ | ⟨_, _⟩⟩
  · cases h
  · obtain ⟨a, d, ns, es, rfl, _, _, hn, he⟩ := argProblem ty24 ty3 ty22 ty32 ty3 h.1
    exact l_FnExactLoopLabels_call a d ns es (loop_law a d ns es (wide_of hn) (wide_of he))
  · exact h.2.elim

end Go.Proofs.Ytjlphfbpaejicaa
