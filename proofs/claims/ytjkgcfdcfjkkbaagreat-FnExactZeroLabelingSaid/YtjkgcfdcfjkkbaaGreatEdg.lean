/- Edges looked up, as a plain function. Conditions: the lists are short and increasing. -/
import Derived.Test.YtjkgcfdcfjkkbaaGreatL6
import Derived.Test.YtjkgcfdcfjkkbaaGreatCut
namespace Go.Proofs.YtjkgcfdcfjkkbaaGreat
open Go Dv
set_option linter.unusedSimpArgs false
set_option linter.unusedVariables false
set_option maxRecDepth 100000
set_option maxHeartbeats 4000000

/-- An edge is allowed. -/
def hasE (es : List (List Int)) (a b : Int) : Bool := es.contains (if b < a then [b, a] else [a, b])
noncomputable def i_Problem_edge (p_Labels : Int) (p_Degree : Int) (p_Nodes : List (List Int)) (p_Edges : List (List Int)) (a : Int) (b : Int) : Option (Bool) :=
  ck (Short p_Edges) <|
  ck ([a, b].length < 1099511627776) <|
  ck (incL p_Edges = true) <|
  some (p_Edges.contains (sortI [a, b]))
/-- impl.Problem).edge -/
def k102 : SC :=
 .seq
 (.ops [
 ⟨(some 3), (.box 33 (.tmp 0)), 0, none⟩,
 ⟨(some 6), (.assign (.const (.bool false))), 4, none⟩])
 (.seq
 (.ops [
 ⟨(some 7), (.fieldAddr 33 (.tmp 3) 3), 0, none⟩,
 ⟨(some 8), (.load 22 (.tmp 7)), 22, none⟩,
 ⟨(some 9), (.move (.tmp 1)), 3, none⟩,
 ⟨(some 10), (.move (.tmp 2)), 3, none⟩,
 ⟨(some 11), (.buildSlice 26 2 #[(0, (.tmp 9)), (1, (.tmp 10))]), 26, none⟩,
 ⟨(some 12), (.call ⟨(.value (.func 120)), #[(.tmp 8), (.tmp 11)], #[22, 26]⟩), 4, none⟩,
 ⟨(some 6), (.assign (.tmp 12)), 4, none⟩])
 .ret)
theorem slim102 : Tryz.f102.body.map (slim lends) = some k102 := by kernel_rfl
theorem ok102 : fnOk Tryz.f102 3 = true := by kernel_rfl
theorem c102 {a l : List D} {r : D × List D} (h : wpD Y.env k102 (fin tys l.length [ResultVar.tmp 6] r) (entry a l)) (ha : a.length = 3) : Y.call 102 a l = some r :=
  call_slim (Y := Y) rfl Tryz.func102 (ha ▸ ok102) slim102 h
theorem i_Problem_edge_call (p_Labels : Int) (p_Degree : Int) (p_Nodes : List (List Int)) (p_Edges : List (List Int)) (a : Int) (b : Int) {r : Bool} (h : i_Problem_edge p_Labels p_Degree p_Nodes p_Edges a b = some r) : Y.call 102 [D.agg [D.int .i64 p_Labels, D.int .i64 p_Degree, D.sl 26 (lst (fun x => D.sl 3 (lst (D.int .i64) x)) p_Nodes), D.sl 26 (lst (fun x => D.sl 3 (lst (D.int .i64) x)) p_Edges)], D.int .i64 a, D.int .i64 b] [] = some (D.bool r, []) := by
  refine c102 ?_ rfl
  unfold k102
  unfold i_Problem_edge at h
  obtain ⟨e1, h⟩ := ckS h
  obtain ⟨e2, h⟩ := ckS h
  obtain ⟨e3, h⟩ := ckS h
  have c4 := i_hasConfiguration_cl p_Edges [a, b] e1 e2 e3
  simp only [lst_cons, lst_nil] at c4
  obtain rfl := Option.some.inj h
  simp (maxDischargeDepth := 9) only [↓xpre, xpost, xcore, yset, ↓reduceIte, Nat.reduceEqDiff, Nat.reduceLT, Nat.reduceLeDiff, Nat.reduceAdd, c4] <;> (repeat' apply And.intro) <;> first | rfl | exact ⟨_, rfl⟩ | simp [lst, cat2_nil]

noncomputable def s_l1Least (a : Int) (b : Int) : Option (Int) :=
  if a < b then
    some a
  else
    some b
/-- spec.l1Least -/
def k107 : SC :=
 .seq
 (.ops [
 ⟨(some 4), (.assign (.const (.int .i64 0))), 3, none⟩])
 (.seq
 (.seq
 (.ops [
 ⟨(some 5), (.move (.tmp 0)), 3, none⟩,
 ⟨(some 6), (.move (.tmp 1)), 3, none⟩,
 ⟨(some 7), (.binOp .lss 3 (.tmp 5) (.tmp 6) 3), 4, none⟩])
 (.cond (.tmp 7)
 (.seq
 (.ops [
 ⟨(some 8), (.move (.tmp 0)), 3, none⟩,
 ⟨(some 4), (.assign (.tmp 8)), 3, none⟩])
 .ret)
 .skip))
 (.seq
 (.ops [
 ⟨(some 9), (.move (.tmp 1)), 3, none⟩,
 ⟨(some 4), (.assign (.tmp 9)), 3, none⟩])
 .ret))
theorem slim107 : Tryz.f107.body.map (slim lends) = some k107 := by kernel_rfl
theorem ok107 : fnOk Tryz.f107 2 = true := by kernel_rfl
theorem c107 {a l : List D} {r : D × List D} (h : wpD Y.env k107 (fin tys l.length [ResultVar.tmp 4] r) (entry a l)) (ha : a.length = 2) : Y.call 107 a l = some r :=
  call_slim (Y := Y) rfl Tryz.func107 (ha ▸ ok107) slim107 h
theorem s_l1Least_call (a : Int) (b : Int) {r : Int} (h : s_l1Least a b = some r) : Y.call 107 [D.int .i64 a, D.int .i64 b] [] = some (D.int .i64 r, []) := by
  refine c107 ?_ rfl
  unfold k107
  unfold s_l1Least at h
  by_cases e1 : a < b
  · rw [if_pos e1] at h
    obtain rfl := Option.some.inj h
    simp (maxDischargeDepth := 9) only [↓xpre, xpost, xcore, yset, ↓reduceIte, Nat.reduceEqDiff, Nat.reduceLT, e1] <;> (repeat' apply And.intro) <;> first | rfl | exact ⟨_, rfl⟩ | simp [lst, cat2_nil]
  · rw [if_neg e1] at h
    obtain rfl := Option.some.inj h
    simp (maxDischargeDepth := 9) only [↓xpre, xpost, xcore, yset, ↓reduceIte, Nat.reduceEqDiff, Nat.reduceLT, e1] <;> (repeat' apply And.intro) <;> first | rfl | exact ⟨_, rfl⟩ | simp [lst, cat2_nil]

noncomputable def s_l1Most (a : Int) (b : Int) : Option (Int) :=
  if b < a then
    some a
  else
    some b
/-- spec.l1Most -/
def k108 : SC :=
 .seq
 (.ops [
 ⟨(some 4), (.assign (.const (.int .i64 0))), 3, none⟩])
 (.seq
 (.seq
 (.ops [
 ⟨(some 5), (.move (.tmp 0)), 3, none⟩,
 ⟨(some 6), (.move (.tmp 1)), 3, none⟩,
 ⟨(some 7), (.binOp .gtr 3 (.tmp 5) (.tmp 6) 3), 4, none⟩])
 (.cond (.tmp 7)
 (.seq
 (.ops [
 ⟨(some 8), (.move (.tmp 0)), 3, none⟩,
 ⟨(some 4), (.assign (.tmp 8)), 3, none⟩])
 .ret)
 .skip))
 (.seq
 (.ops [
 ⟨(some 9), (.move (.tmp 1)), 3, none⟩,
 ⟨(some 4), (.assign (.tmp 9)), 3, none⟩])
 .ret))
theorem slim108 : Tryz.f108.body.map (slim lends) = some k108 := by kernel_rfl
theorem ok108 : fnOk Tryz.f108 2 = true := by kernel_rfl
theorem c108 {a l : List D} {r : D × List D} (h : wpD Y.env k108 (fin tys l.length [ResultVar.tmp 4] r) (entry a l)) (ha : a.length = 2) : Y.call 108 a l = some r :=
  call_slim (Y := Y) rfl Tryz.func108 (ha ▸ ok108) slim108 h
theorem s_l1Most_call (a : Int) (b : Int) {r : Int} (h : s_l1Most a b = some r) : Y.call 108 [D.int .i64 a, D.int .i64 b] [] = some (D.int .i64 r, []) := by
  refine c108 ?_ rfl
  unfold k108
  unfold s_l1Most at h
  by_cases e1 : b < a
  · rw [if_pos e1] at h
    obtain rfl := Option.some.inj h
    simp (maxDischargeDepth := 9) only [↓xpre, xpost, xcore, yset, ↓reduceIte, Nat.reduceEqDiff, Nat.reduceLT, e1] <;> (repeat' apply And.intro) <;> first | rfl | exact ⟨_, rfl⟩ | simp [lst, cat2_nil]
  · rw [if_neg e1] at h
    obtain rfl := Option.some.inj h
    simp (maxDischargeDepth := 9) only [↓xpre, xpost, xcore, yset, ↓reduceIte, Nat.reduceEqDiff, Nat.reduceLT, e1] <;> (repeat' apply And.intro) <;> first | rfl | exact ⟨_, rfl⟩ | simp [lst, cat2_nil]

noncomputable def s_prEdge (p_Labels : Int) (p_Degree : Int) (p_Nodes : List (List Int)) (p_Edges : List (List Int)) (a : Int) (b : Int) : Option (Bool) :=
  (s_l1Least a b).bind fun r1_ =>
  (s_l1Most a b).bind fun r2_ =>
  ck (p_Edges.length < 1099511627776) <|
  ck ([r1_, r2_].length < 1099511627776) <|
  some (p_Edges.contains [r1_, r2_])
/-- spec.prEdge -/
def k117 : SC :=
 .seq
 (.ops [
 ⟨(some 3), (.box 33 (.tmp 0)), 0, none⟩,
 ⟨(some 6), (.assign (.const (.bool false))), 4, none⟩])
 (.seq
 (.draws [
 (⟨[7, 3, 3], [7, 8, 9, 10, 11, 12, 13, 14, 15, 11, 14, 11, 14, 16, 6, 16, 16], [7]⟩, ⟨(some 7), (.fieldAddr 33 (.tmp 3) 3), 0, none⟩),
 (⟨[8, 7, 3], [7, 8, 9, 10, 11, 12, 13, 14, 15, 11, 14, 11, 14, 16, 6, 16, 16], [8]⟩, ⟨(some 8), (.load 22 (.tmp 7)), 22, none⟩),
 (⟨[9, 1, 1], [7, 8, 9, 10, 11, 12, 13, 14, 15, 11, 14, 11, 14, 16, 6, 16, 16], [9]⟩, ⟨(some 9), (.move (.tmp 1)), 3, none⟩),
 (⟨[10, 2, 2], [7, 8, 9, 10, 11, 12, 13, 14, 15, 11, 14, 11, 14, 16, 6, 16, 16], [10]⟩, ⟨(some 10), (.move (.tmp 2)), 3, none⟩),
 (⟨[11, 9, 10, 1, 2], [7, 8, 9, 10, 11, 12, 13, 14, 15, 11, 14, 11, 14, 16, 6, 16, 16], [11]⟩, ⟨(some 11), (.call ⟨(.value (.func 107)), #[(.tmp 9), (.tmp 10)], #[3, 3]⟩), 3, none⟩),
 (⟨[12, 1, 1], [7, 8, 9, 10, 11, 12, 13, 14, 15, 11, 14, 11, 14, 16, 6, 16, 16], [12]⟩, ⟨(some 12), (.move (.tmp 1)), 3, none⟩),
 (⟨[13, 2, 2], [7, 8, 9, 10, 11, 12, 13, 14, 15, 11, 14, 11, 14, 16, 6, 16, 16], [13]⟩, ⟨(some 13), (.move (.tmp 2)), 3, none⟩),
 (⟨[14, 12, 13, 1, 2], [7, 8, 9, 10, 11, 12, 13, 14, 15, 11, 14, 11, 14, 16, 6, 16, 16], [14]⟩, ⟨(some 14), (.call ⟨(.value (.func 108)), #[(.tmp 12), (.tmp 13)], #[3, 3]⟩), 3, none⟩),
 (⟨[15, 11, 14, 11, 14], [7, 8, 9, 10, 11, 12, 13, 14, 15, 11, 14, 11, 14, 16, 6, 16, 16], [15, 11, 14, 11, 14]⟩, ⟨(some 15), (.buildSlice 26 2 #[(0, (.tmp 11)), (1, (.tmp 14))]), 26, none⟩),
 (⟨[16, 8, 15, 3, 15], [7, 8, 9, 10, 11, 12, 13, 14, 15, 11, 14, 11, 14, 16, 6, 16, 16], [16]⟩, ⟨(some 16), (.call ⟨(.value (.func 135)), #[(.tmp 8), (.tmp 15)], #[22, 26]⟩), 4, none⟩),
 (⟨[6, 16, 16], [7, 8, 9, 10, 11, 12, 13, 14, 15, 11, 14, 11, 14, 16, 6, 16, 16], [6, 16, 16]⟩, ⟨(some 6), (.assign (.tmp 16)), 4, none⟩)])
 .ret)
theorem slim117 : Tryz.f117.body.map (slim lends) = some k117 := by kernel_rfl
theorem ok117 : fnOk Tryz.f117 3 = true := by kernel_rfl
theorem c117 {a l : List D} {r : D × List D} (h : wpD Y.env k117 (fin tys l.length [ResultVar.tmp 6] r) (entry a l)) (ha : a.length = 3) : Y.call 117 a l = some r :=
  call_slim (Y := Y) rfl Tryz.func117 (ha ▸ ok117) slim117 h
theorem s_prEdge_call (p_Labels : Int) (p_Degree : Int) (p_Nodes : List (List Int)) (p_Edges : List (List Int)) (a : Int) (b : Int) {r : Bool} (h : s_prEdge p_Labels p_Degree p_Nodes p_Edges a b = some r) : Y.call 117 [D.agg [D.int .i64 p_Labels, D.int .i64 p_Degree, D.sl 26 (lst (fun x => D.sl 3 (lst (D.int .i64) x)) p_Nodes), D.sl 26 (lst (fun x => D.sl 3 (lst (D.int .i64) x)) p_Edges)], D.int .i64 a, D.int .i64 b] [] = some (D.bool r, []) := by
  refine c117 ?_ rfl
  unfold k117
  unfold s_prEdge at h
  obtain ⟨r1_, hl1, h⟩ := bindS h
  try dsimp only at h
  have c1 := s_l1Least_call a b hl1
  obtain ⟨r2_, hl2, h⟩ := bindS h
  try dsimp only at h
  have c2 := s_l1Most_call a b hl2
  obtain ⟨e3, h⟩ := ckS h
  obtain ⟨e4, h⟩ := ckS h
  have c5 := s_prHas_cl p_Edges [r1_, r2_] e3 e4
  simp only [lst_cons, lst_nil] at c5
  obtain rfl := Option.some.inj h
  simp (maxDischargeDepth := 9) only [↓xpre, xpost, xcore, yset, ↓reduceIte, Nat.reduceEqDiff, Nat.reduceLT, Nat.reduceLeDiff, Nat.reduceAdd, Nat.reduceBEq, c1, c2, c5] <;> (repeat' apply And.intro) <;> first | rfl | exact ⟨_, rfl⟩ | simp [lst, cat2_nil]

theorem i_Problem_edge_eq (l d : Int) (ns es : List (List Int)) (a b : Int) (h1 : Short es) (h2 : incL es = true) : i_Problem_edge l d ns es a b = some (hasE es a b) := by
  unfold i_Problem_edge hasE
  rw [ckT h1, ckT (by simp), ckT h2, sortI_two]
theorem s_prEdge_eq (l d : Int) (ns es : List (List Int)) (a b : Int) (h1 : Short es) : s_prEdge l d ns es a b = some (hasE es a b) := by
  unfold s_prEdge s_l1Least s_l1Most hasE
  by_cases q1 : a < b
  · rw [if_pos q1, if_neg (by omega), if_neg (by omega), Option.bind_some, Option.bind_some, ckT h1.1, ckT (by simp)]
  · by_cases q2 : b < a
    · rw [if_neg q1, if_pos q2, if_pos q2, Option.bind_some, Option.bind_some, ckT h1.1, ckT (by simp)]
    · have : a = b := by omega
      subst this
      rw [if_neg q1, if_neg q1, Option.bind_some, Option.bind_some, ckT h1.1, ckT (by simp)]
theorem i_Problem_edge_cl (p_Labels : Int) (p_Degree : Int) (p_Nodes : List (List Int)) (p_Edges : List (List Int)) (a : Int) (b : Int) (h0 : Short p_Edges) (h1 : incL p_Edges = true) : Y.call 102 [D.agg [D.int .i64 p_Labels, D.int .i64 p_Degree, D.sl 26 (lst (fun x => D.sl 3 (lst (D.int .i64) x)) p_Nodes), D.sl 26 (lst (fun x => D.sl 3 (lst (D.int .i64) x)) p_Edges)], D.int .i64 a, D.int .i64 b] [] = some (D.bool (hasE p_Edges a b), []) := i_Problem_edge_call p_Labels p_Degree p_Nodes p_Edges a b (i_Problem_edge_eq p_Labels p_Degree p_Nodes p_Edges a b h0 h1)
theorem s_prEdge_cl (p_Labels : Int) (p_Degree : Int) (p_Nodes : List (List Int)) (p_Edges : List (List Int)) (a : Int) (b : Int) (h0 : Short p_Edges) : Y.call 117 [D.agg [D.int .i64 p_Labels, D.int .i64 p_Degree, D.sl 26 (lst (fun x => D.sl 3 (lst (D.int .i64) x)) p_Nodes), D.sl 26 (lst (fun x => D.sl 3 (lst (D.int .i64) x)) p_Edges)], D.int .i64 a, D.int .i64 b] [] = some (D.bool (hasE p_Edges a b), []) := s_prEdge_call p_Labels p_Degree p_Nodes p_Edges a b (s_prEdge_eq p_Labels p_Degree p_Nodes p_Edges a b h0)

end Go.Proofs.YtjkgcfdcfjkkbaaGreat
