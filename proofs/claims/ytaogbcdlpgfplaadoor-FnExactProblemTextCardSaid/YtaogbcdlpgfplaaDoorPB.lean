/- Problems copied, compared, measured and marked, as plain functions. Conditions: the lists are short. -/
import Derived.Test.YtaogbcdlpgfplaaDoorL6
import Derived.Test.YtaogbcdlpgfplaaDoorBase
namespace Go.Proofs.YtaogbcdlpgfplaaDoor
open Go Dv
set_option linter.unusedSimpArgs false
set_option linter.unusedVariables false
set_option maxRecDepth 100000
set_option maxHeartbeats 4000000

noncomputable def l_toProblem (a_Labels : Int) (a_Degree : Int) (a_Nodes : List (List Int)) (a_Edges : List (List Int)) : Option (Int × Int × (List (List Int)) × (List (List Int))) :=
 ck (Short a_Nodes) <|
 ck (Short a_Edges) <|
 some (a_Labels, a_Degree, a_Nodes, a_Edges)
/-- laws.toProblem -/
def k18 : SC :=
 .seq
 (.ops [
 ⟨(some 1), (.box 36 (.tmp 0)), 0, none⟩,
 ⟨(some 2), (.alloc 39), 0, none⟩])
 (.seq
 (.ops [
 ⟨(some 3), (.alloc 39), 0, none⟩])
 (.seq
 (.ops [
 ⟨(some 4), (.fieldAddr 36 (.tmp 1) 0), 0, none⟩,
 ⟨(some 5), (.load 3 (.tmp 4)), 3, none⟩,
 ⟨(some 6), (.fieldAddr 39 (.tmp 3) 0), 0, none⟩,
 ⟨none, (.store 3 (.tmp 6) (.tmp 5)), 0, none⟩])
 (.seq
 (.ops [
 ⟨(some 7), (.fieldAddr 36 (.tmp 1) 1), 0, none⟩,
 ⟨(some 8), (.load 3 (.tmp 7)), 3, none⟩,
 ⟨(some 9), (.fieldAddr 39 (.tmp 3) 1), 0, none⟩,
 ⟨none, (.store 3 (.tmp 9) (.tmp 8)), 0, none⟩])
 (.seq
 (.ops [
 ⟨(some 10), (.fieldAddr 36 (.tmp 1) 2), 0, none⟩,
 ⟨(some 11), (.load 34 (.tmp 10)), 34, none⟩,
 ⟨(some 12), (.call ⟨(.value (.func 42)), #[(.tmp 11)], #[34]⟩), 34, none⟩,
 ⟨(some 13), (.fieldAddr 39 (.tmp 3) 2), 0, none⟩,
 ⟨none, (.store 34 (.tmp 13) (.tmp 12)), 0, none⟩])
 (.seq
 (.ops [
 ⟨(some 14), (.fieldAddr 36 (.tmp 1) 3), 0, none⟩,
 ⟨(some 15), (.load 34 (.tmp 14)), 34, none⟩,
 ⟨(some 16), (.call ⟨(.value (.func 42)), #[(.tmp 15)], #[34]⟩), 34, none⟩,
 ⟨(some 17), (.fieldAddr 39 (.tmp 3) 3), 0, none⟩,
 ⟨none, (.store 34 (.tmp 17) (.tmp 16)), 0, none⟩])
 (.seq
 (.ops [
 ⟨(some 18), (.load 39 (.tmp 3)), 39, none⟩,
 ⟨none, (.store 39 (.tmp 2) (.tmp 18)), 0, none⟩])
 .ret))))))
theorem slim18 : Tryd.f18.body.map (slim lends) = some k18 := by kernel_rfl
theorem ok18 : fnOk Tryd.f18 1 = true := by kernel_rfl
theorem c18 {a l : List D} {r : D × List D} (h : wpD Y.env k18 (fin tys l.length [ResultVar.cell 2 39] r) (entry a l)) (ha : a.length = 1) : Y.call 18 a l = some r :=
 call_slim (Y := Y) rfl Tryd.func18 (ha ▸ ok18) slim18 h
theorem l_toProblem_call (a_Labels : Int) (a_Degree : Int) (a_Nodes : List (List Int)) (a_Edges : List (List Int)) {r : Int × Int × (List (List Int)) × (List (List Int))} (h : l_toProblem a_Labels a_Degree a_Nodes a_Edges = some r) : Y.call 18 [D.agg [D.int .i64 a_Labels, D.int .i64 a_Degree, D.sl 70 (lst (fun x => D.sl 3 (lst (D.int .i64) x)) a_Nodes), D.sl 70 (lst (fun x => D.sl 3 (lst (D.int .i64) x)) a_Edges)]] [] = some (D.agg [D.int .i64 r.1, D.int .i64 r.2.1, D.own 70 (lst (fun x => D.own 3 (lst (D.int .i64) x)) r.2.2.1), D.own 70 (lst (fun x => D.own 3 (lst (D.int .i64) x)) r.2.2.2)], []) := by
 refine c18 ?_ rfl
 unfold k18
 unfold l_toProblem at h
 obtain ⟨e1, h⟩ := ckS h
 have c2 := l_toIntSS_cl a_Nodes e1
 obtain ⟨e3, h⟩ := ckS h
 have c4 := l_toIntSS_cl a_Edges e3
 obtain rfl := Option.some.inj h
 simp (maxDischargeDepth := 9) only [↓xpre, xpost, xlst, xc2, xcore, yset, rg0, ↓reduceIte, Nat.reduceEqDiff, Nat.reduceLT, Nat.reduceLeDiff, Nat.reduceAdd, Nat.reduceMul, Nat.reduceMod, Nat.reduceDiv, Nat.reducePow, Nat.reduceSub, Nat.reduceBEq, Int.reduceLE, Int.reduceLT, Int.reduceEq, Int.reduceSub, Int.reduceAdd, Int.reduceToNat, Int.reduceNeg, e1, c2, e3, c4] <;> (repeat' apply And.intro) <;> first | rfl | exact ⟨_, rfl⟩ | exact ⟨_, _, rfl⟩ | simp [lst, cat2_nil]

theorem l_toProblem_eq (a b : Int) (n e : List (List Int)) (hn : Short n) (he : Short e) : l_toProblem a b n e = some (a, b, n, e) := by
 unfold l_toProblem; rw [ckT hn, ckT he]
theorem l_toProblem_cl (a_Labels : Int) (a_Degree : Int) (a_Nodes : List (List Int)) (a_Edges : List (List Int)) (h0 : Short a_Nodes) (h1 : Short a_Edges) : Y.call 18 [D.agg [D.int .i64 a_Labels, D.int .i64 a_Degree, D.sl 70 (lst (fun x => D.sl 3 (lst (D.int .i64) x)) a_Nodes), D.sl 70 (lst (fun x => D.sl 3 (lst (D.int .i64) x)) a_Edges)]] [] = some (D.agg [D.int .i64 a_Labels, D.int .i64 a_Degree, D.own 70 (lst (fun x => D.own 3 (lst (D.int .i64) x)) a_Nodes), D.own 70 (lst (fun x => D.own 3 (lst (D.int .i64) x)) a_Edges)], []) := l_toProblem_call a_Labels a_Degree a_Nodes a_Edges (l_toProblem_eq a_Labels a_Degree a_Nodes a_Edges h0 h1)
noncomputable def l_eqProblem (a_Labels : Int) (a_Degree : Int) (a_Nodes : List (List Int)) (a_Edges : List (List Int)) (b_Labels : Int) (b_Degree : Int) (b_Nodes : List (List Int)) (b_Edges : List (List Int)) : Option (Bool) :=
 if a_Labels = b_Labels then
  if a_Degree = b_Degree then
   ck (Short a_Nodes) <|
   if (decide (a_Nodes = b_Nodes)) = true then
    ck (Short a_Edges) <|
    if (decide (a_Edges = b_Edges)) = true then
     some true
    else
     some false
   else
    some false
  else
   some false
 else
  some false
/-- laws.eqProblem -/
def k20 : SC :=
 .seq
 (.ops [
 ⟨(some 2), (.box 39 (.tmp 0)), 0, none⟩,
 ⟨(some 3), (.box 39 (.tmp 1)), 0, none⟩,
 ⟨(some 4), (.assign (.const (.bool false))), 4, none⟩])
 (.seq
 (.seq
 (.ops [
 ⟨(some 5), (.fieldAddr 39 (.tmp 2) 0), 0, none⟩,
 ⟨(some 6), (.load 3 (.tmp 5)), 3, none⟩,
 ⟨(some 7), (.fieldAddr 39 (.tmp 3) 0), 0, none⟩,
 ⟨(some 8), (.load 3 (.tmp 7)), 3, none⟩,
 ⟨(some 9), (.binOp .neq 3 (.tmp 6) (.tmp 8) 3), 4, none⟩])
 (.cond (.tmp 9)
 (.seq
 (.ops [
 ⟨(some 4), (.assign (.const (.bool false))), 4, none⟩])
 .ret)
 .skip))
 (.seq
 (.seq
 (.ops [
 ⟨(some 10), (.fieldAddr 39 (.tmp 2) 1), 0, none⟩,
 ⟨(some 11), (.load 3 (.tmp 10)), 3, none⟩,
 ⟨(some 12), (.fieldAddr 39 (.tmp 3) 1), 0, none⟩,
 ⟨(some 13), (.load 3 (.tmp 12)), 3, none⟩,
 ⟨(some 14), (.binOp .neq 3 (.tmp 11) (.tmp 13) 3), 4, none⟩])
 (.cond (.tmp 14)
 (.seq
 (.ops [
 ⟨(some 4), (.assign (.const (.bool false))), 4, none⟩])
 .ret)
 .skip))
 (.seq
 (.seq
 (.ops [
 ⟨(some 15), (.fieldAddr 39 (.tmp 2) 2), 0, none⟩,
 ⟨(some 16), (.load 34 (.tmp 15)), 34, none⟩,
 ⟨(some 17), (.fieldAddr 39 (.tmp 3) 2), 0, none⟩,
 ⟨(some 18), (.load 34 (.tmp 17)), 34, none⟩,
 ⟨(some 19), (.call ⟨(.value (.func 45)), #[(.tmp 16), (.tmp 18)], #[34, 34]⟩), 4, none⟩,
 ⟨(some 20), (.unOp .not 4 (.tmp 19)), 4, none⟩])
 (.cond (.tmp 20)
 (.seq
 (.ops [
 ⟨(some 4), (.assign (.const (.bool false))), 4, none⟩])
 .ret)
 .skip))
 (.seq
 (.seq
 (.ops [
 ⟨(some 21), (.fieldAddr 39 (.tmp 2) 3), 0, none⟩,
 ⟨(some 22), (.load 34 (.tmp 21)), 34, none⟩,
 ⟨(some 23), (.fieldAddr 39 (.tmp 3) 3), 0, none⟩,
 ⟨(some 24), (.load 34 (.tmp 23)), 34, none⟩,
 ⟨(some 25), (.call ⟨(.value (.func 45)), #[(.tmp 22), (.tmp 24)], #[34, 34]⟩), 4, none⟩,
 ⟨(some 26), (.unOp .not 4 (.tmp 25)), 4, none⟩])
 (.cond (.tmp 26)
 (.seq
 (.ops [
 ⟨(some 4), (.assign (.const (.bool false))), 4, none⟩])
 .ret)
 .skip))
 (.seq
 (.ops [
 ⟨(some 4), (.assign (.const (.bool true))), 4, none⟩])
 .ret)))))
theorem slim20 : Tryd.f20.body.map (slim lends) = some k20 := by kernel_rfl
theorem ok20 : fnOk Tryd.f20 2 = true := by kernel_rfl
theorem c20 {a l : List D} {r : D × List D} (h : wpD Y.env k20 (fin tys l.length [ResultVar.tmp 4] r) (entry a l)) (ha : a.length = 2) : Y.call 20 a l = some r :=
 call_slim (Y := Y) rfl Tryd.func20 (ha ▸ ok20) slim20 h
theorem l_eqProblem_call (a_Labels : Int) (a_Degree : Int) (a_Nodes : List (List Int)) (a_Edges : List (List Int)) (b_Labels : Int) (b_Degree : Int) (b_Nodes : List (List Int)) (b_Edges : List (List Int)) {r : Bool} (h : l_eqProblem a_Labels a_Degree a_Nodes a_Edges b_Labels b_Degree b_Nodes b_Edges = some r) : Y.call 20 [D.agg [D.int .i64 a_Labels, D.int .i64 a_Degree, D.sl 70 (lst (fun x => D.sl 3 (lst (D.int .i64) x)) a_Nodes), D.sl 70 (lst (fun x => D.sl 3 (lst (D.int .i64) x)) a_Edges)], D.agg [D.int .i64 b_Labels, D.int .i64 b_Degree, D.sl 70 (lst (fun x => D.sl 3 (lst (D.int .i64) x)) b_Nodes), D.sl 70 (lst (fun x => D.sl 3 (lst (D.int .i64) x)) b_Edges)]] [] = some (D.bool r, []) := by
 refine c20 ?_ rfl
 unfold k20
 unfold l_eqProblem at h
 by_cases e1 : a_Labels = b_Labels
 ·rw [if_pos e1] at h
  by_cases e2 : a_Degree = b_Degree
  ·rw [if_pos e2] at h
   obtain ⟨e3, h⟩ := ckS h
   have c4 := l_eqIntSS_cl a_Nodes b_Nodes e3
   by_cases e5 : (decide (a_Nodes = b_Nodes)) = true
   ·rw [if_pos e5] at h
    obtain ⟨e6, h⟩ := ckS h
    have c7 := l_eqIntSS_cl a_Edges b_Edges e6
    by_cases e8 : (decide (a_Edges = b_Edges)) = true
    ·rw [if_pos e8] at h
     obtain rfl := Option.some.inj h
     simp (maxDischargeDepth := 9) only [↓xpre, xpost, xlst, xc2, xcore, yset, rg0, ↓reduceIte, Nat.reduceEqDiff, Nat.reduceLT, Nat.reduceLeDiff, Nat.reduceAdd, Nat.reduceMul, Nat.reduceMod, Nat.reduceDiv, Nat.reducePow, Nat.reduceSub, Nat.reduceBEq, Int.reduceLE, Int.reduceLT, Int.reduceEq, Int.reduceSub, Int.reduceAdd, Int.reduceToNat, Int.reduceNeg, decide_eq_true e1, decide_eq_true e2, e3, c4, e5, e6, c7, e8] <;> (repeat' apply And.intro) <;> first | rfl | exact ⟨_, rfl⟩ | exact ⟨_, _, rfl⟩ | simp [lst, cat2_nil]
    ·rw [if_neg e8] at h
     have e8f : (decide (a_Edges = b_Edges)) = false := Bool.eq_false_iff.mpr e8
     obtain rfl := Option.some.inj h
     simp (maxDischargeDepth := 9) only [↓xpre, xpost, xlst, xc2, xcore, yset, rg0, ↓reduceIte, Nat.reduceEqDiff, Nat.reduceLT, Nat.reduceLeDiff, Nat.reduceAdd, Nat.reduceMul, Nat.reduceMod, Nat.reduceDiv, Nat.reducePow, Nat.reduceSub, Nat.reduceBEq, Int.reduceLE, Int.reduceLT, Int.reduceEq, Int.reduceSub, Int.reduceAdd, Int.reduceToNat, Int.reduceNeg, decide_eq_true e1, decide_eq_true e2, e3, c4, e5, e6, c7, e8f] <;> (repeat' apply And.intro) <;> first | rfl | exact ⟨_, rfl⟩ | exact ⟨_, _, rfl⟩ | simp [lst, cat2_nil]
   ·rw [if_neg e5] at h
    have e5f : (decide (a_Nodes = b_Nodes)) = false := Bool.eq_false_iff.mpr e5
    obtain rfl := Option.some.inj h
    simp (maxDischargeDepth := 9) only [↓xpre, xpost, xlst, xc2, xcore, yset, rg0, ↓reduceIte, Nat.reduceEqDiff, Nat.reduceLT, Nat.reduceLeDiff, Nat.reduceAdd, Nat.reduceMul, Nat.reduceMod, Nat.reduceDiv, Nat.reducePow, Nat.reduceSub, Nat.reduceBEq, Int.reduceLE, Int.reduceLT, Int.reduceEq, Int.reduceSub, Int.reduceAdd, Int.reduceToNat, Int.reduceNeg, decide_eq_true e1, decide_eq_true e2, e3, c4, e5f] <;> (repeat' apply And.intro) <;> first | rfl | exact ⟨_, rfl⟩ | exact ⟨_, _, rfl⟩ | simp [lst, cat2_nil]
  ·rw [if_neg e2] at h
   obtain rfl := Option.some.inj h
   simp (maxDischargeDepth := 9) only [↓xpre, xpost, xlst, xc2, xcore, yset, rg0, ↓reduceIte, Nat.reduceEqDiff, Nat.reduceLT, Nat.reduceLeDiff, Nat.reduceAdd, Nat.reduceMul, Nat.reduceMod, Nat.reduceDiv, Nat.reducePow, Nat.reduceSub, Nat.reduceBEq, Int.reduceLE, Int.reduceLT, Int.reduceEq, Int.reduceSub, Int.reduceAdd, Int.reduceToNat, Int.reduceNeg, decide_eq_true e1, e2] <;> (repeat' apply And.intro) <;> first | rfl | exact ⟨_, rfl⟩ | exact ⟨_, _, rfl⟩ | simp [lst, cat2_nil]
 ·rw [if_neg e1] at h
  obtain rfl := Option.some.inj h
  simp (maxDischargeDepth := 9) only [↓xpre, xpost, xlst, xc2, xcore, yset, rg0, ↓reduceIte, Nat.reduceEqDiff, Nat.reduceLT, Nat.reduceLeDiff, Nat.reduceAdd, Nat.reduceMul, Nat.reduceMod, Nat.reduceDiv, Nat.reducePow, Nat.reduceSub, Nat.reduceBEq, Int.reduceLE, Int.reduceLT, Int.reduceEq, Int.reduceSub, Int.reduceAdd, Int.reduceToNat, Int.reduceNeg, e1] <;> (repeat' apply And.intro) <;> first | rfl | exact ⟨_, rfl⟩ | exact ⟨_, _, rfl⟩ | simp [lst, cat2_nil]

def sameP (a b : Int) (n e : List (List Int)) (a' b' : Int) (n' e' : List (List Int)) : Bool := decide (a = a' ∧ b = b' ∧ n = n' ∧ e = e')
theorem sameP_refl (a b : Int) (n e : List (List Int)) : sameP a b n e a b n e = true := by simp [sameP]
theorem l_eqProblem_eq (a b : Int) (n e : List (List Int)) (a' b' : Int) (n' e' : List (List Int)) (hn : Short n) (he : Short e) : l_eqProblem a b n e a' b' n' e' = some (sameP a b n e a' b' n' e') := by
 unfold l_eqProblem sameP
 by_cases h1 : a = a' <;> by_cases h2 : b = b' <;> by_cases h3 : n = n' <;> by_cases h4 : e = e' <;> simp [h1, h2, h3, h4, ck] <;> (try subst h3) <;> (try subst h4) <;> simp_all
theorem l_eqProblem_cl (a_Labels : Int) (a_Degree : Int) (a_Nodes : List (List Int)) (a_Edges : List (List Int)) (b_Labels : Int) (b_Degree : Int) (b_Nodes : List (List Int)) (b_Edges : List (List Int)) (h0 : Short a_Nodes) (h1 : Short a_Edges) : Y.call 20 [D.agg [D.int .i64 a_Labels, D.int .i64 a_Degree, D.sl 70 (lst (fun x => D.sl 3 (lst (D.int .i64) x)) a_Nodes), D.sl 70 (lst (fun x => D.sl 3 (lst (D.int .i64) x)) a_Edges)], D.agg [D.int .i64 b_Labels, D.int .i64 b_Degree, D.sl 70 (lst (fun x => D.sl 3 (lst (D.int .i64) x)) b_Nodes), D.sl 70 (lst (fun x => D.sl 3 (lst (D.int .i64) x)) b_Edges)]] [] = some (D.bool (sameP a_Labels a_Degree a_Nodes a_Edges b_Labels b_Degree b_Nodes b_Edges), []) := l_eqProblem_call a_Labels a_Degree a_Nodes a_Edges b_Labels b_Degree b_Nodes b_Edges (l_eqProblem_eq a_Labels a_Degree a_Nodes a_Edges b_Labels b_Degree b_Nodes b_Edges h0 h1)
noncomputable def l_szProblem (a_Labels : Int) (a_Degree : Int) (a_Nodes : List (List Int)) (a_Edges : List (List Int)) (left : Int) : Option (Int) :=
 ck (Wide a_Nodes) <|
 ck (0 ≤ left ∧ left ≤ 1048576) <|
 if (szN left (a_Nodes.length + tot a_Nodes)) < 0 then
  some (-1)
 else
  ck (Wide a_Edges) <|
  ck (0 ≤ (szN left (a_Nodes.length + tot a_Nodes)) ∧ (szN left (a_Nodes.length + tot a_Nodes)) ≤ 1048576) <|
  if (szN (szN left (a_Nodes.length + tot a_Nodes)) (a_Edges.length + tot a_Edges)) < 0 then
   some (-1)
  else
   some (szN (szN left (a_Nodes.length + tot a_Nodes)) (a_Edges.length + tot a_Edges))
/-- laws.szProblem -/
def k16 : SC :=
 .seq
 (.ops [
 ⟨(some 2), (.box 36 (.tmp 0)), 0, none⟩,
 ⟨(some 4), (.assign (.const (.int .i64 0))), 3, none⟩])
 (.seq
 (.ops [
 ⟨(some 5), (.fieldAddr 36 (.tmp 2) 2), 0, none⟩,
 ⟨(some 6), (.load 34 (.tmp 5)), 34, none⟩,
 ⟨(some 7), (.move (.tmp 1)), 3, none⟩,
 ⟨(some 8), (.call ⟨(.value (.func 39)), #[(.tmp 6), (.tmp 7)], #[34, 3]⟩), 3, none⟩,
 ⟨(some 1), (.assign (.tmp 8)), 3, none⟩])
 (.seq
 (.seq
 (.ops [
 ⟨(some 9), (.move (.tmp 1)), 3, none⟩,
 ⟨(some 10), (.binOp .lss 3 (.tmp 9) (.const (.int .i64 0)) 3), 4, none⟩])
 (.cond (.tmp 10)
 (.seq
 (.ops [
 ⟨(some 4), (.assign (.const (.int .i64 (-1)))), 3, none⟩])
 .ret)
 .skip))
 (.seq
 (.ops [
 ⟨(some 11), (.fieldAddr 36 (.tmp 2) 3), 0, none⟩,
 ⟨(some 12), (.load 34 (.tmp 11)), 34, none⟩,
 ⟨(some 13), (.move (.tmp 1)), 3, none⟩,
 ⟨(some 14), (.call ⟨(.value (.func 39)), #[(.tmp 12), (.tmp 13)], #[34, 3]⟩), 3, none⟩,
 ⟨(some 1), (.assign (.tmp 14)), 3, none⟩])
 (.seq
 (.seq
 (.ops [
 ⟨(some 15), (.move (.tmp 1)), 3, none⟩,
 ⟨(some 16), (.binOp .lss 3 (.tmp 15) (.const (.int .i64 0)) 3), 4, none⟩])
 (.cond (.tmp 16)
 (.seq
 (.ops [
 ⟨(some 4), (.assign (.const (.int .i64 (-1)))), 3, none⟩])
 .ret)
 .skip))
 (.seq
 (.ops [
 ⟨(some 17), (.move (.tmp 1)), 3, none⟩,
 ⟨(some 4), (.assign (.tmp 17)), 3, none⟩])
 .ret)))))
theorem slim16 : Tryd.f16.body.map (slim lends) = some k16 := by kernel_rfl
theorem ok16 : fnOk Tryd.f16 2 = true := by kernel_rfl
theorem c16 {a l : List D} {r : D × List D} (h : wpD Y.env k16 (fin tys l.length [ResultVar.tmp 4] r) (entry a l)) (ha : a.length = 2) : Y.call 16 a l = some r :=
 call_slim (Y := Y) rfl Tryd.func16 (ha ▸ ok16) slim16 h
theorem l_szProblem_call (a_Labels : Int) (a_Degree : Int) (a_Nodes : List (List Int)) (a_Edges : List (List Int)) (left : Int) {r : Int} (h : l_szProblem a_Labels a_Degree a_Nodes a_Edges left = some r) : Y.call 16 [D.agg [D.int .i64 a_Labels, D.int .i64 a_Degree, D.sl 70 (lst (fun x => D.sl 3 (lst (D.int .i64) x)) a_Nodes), D.sl 70 (lst (fun x => D.sl 3 (lst (D.int .i64) x)) a_Edges)], D.int .i64 left] [] = some (D.int .i64 r, []) := by
 refine c16 ?_ rfl
 unfold k16
 unfold l_szProblem at h
 obtain ⟨e1, h⟩ := ckS h
 obtain ⟨e2, h⟩ := ckS h
 have c3 := l_szIntSS_cl a_Nodes left e1 e2
 by_cases e4 : (szN left (a_Nodes.length + tot a_Nodes)) < 0
 ·rw [if_pos e4] at h
  obtain rfl := Option.some.inj h
  simp (maxDischargeDepth := 9) only [↓xpre, xpost, xlst, xc2, xcore, yset, rg0, ↓reduceIte, Nat.reduceEqDiff, Nat.reduceLT, Nat.reduceLeDiff, Nat.reduceAdd, Nat.reduceMul, Nat.reduceMod, Nat.reduceDiv, Nat.reducePow, Nat.reduceSub, Nat.reduceBEq, Int.reduceLE, Int.reduceLT, Int.reduceEq, Int.reduceSub, Int.reduceAdd, Int.reduceToNat, Int.reduceNeg, e1, e2.1, e2.2, c3, e4] <;> (repeat' apply And.intro) <;> first | rfl | exact ⟨_, rfl⟩ | exact ⟨_, _, rfl⟩ | simp [lst, cat2_nil]
 ·rw [if_neg e4] at h
  obtain ⟨e5, h⟩ := ckS h
  obtain ⟨e6, h⟩ := ckS h
  have c7 := l_szIntSS_cl a_Edges (szN left (a_Nodes.length + tot a_Nodes)) e5 e6
  by_cases e8 : (szN (szN left (a_Nodes.length + tot a_Nodes)) (a_Edges.length + tot a_Edges)) < 0
  ·rw [if_pos e8] at h
   obtain rfl := Option.some.inj h
   simp (maxDischargeDepth := 9) only [↓xpre, xpost, xlst, xc2, xcore, yset, rg0, ↓reduceIte, Nat.reduceEqDiff, Nat.reduceLT, Nat.reduceLeDiff, Nat.reduceAdd, Nat.reduceMul, Nat.reduceMod, Nat.reduceDiv, Nat.reducePow, Nat.reduceSub, Nat.reduceBEq, Int.reduceLE, Int.reduceLT, Int.reduceEq, Int.reduceSub, Int.reduceAdd, Int.reduceToNat, Int.reduceNeg, e1, e2.1, e2.2, c3, e4, e5, e6.1, e6.2, c7, e8] <;> (repeat' apply And.intro) <;> first | rfl | exact ⟨_, rfl⟩ | exact ⟨_, _, rfl⟩ | simp [lst, cat2_nil]
  ·rw [if_neg e8] at h
   obtain rfl := Option.some.inj h
   simp (maxDischargeDepth := 9) only [↓xpre, xpost, xlst, xc2, xcore, yset, rg0, ↓reduceIte, Nat.reduceEqDiff, Nat.reduceLT, Nat.reduceLeDiff, Nat.reduceAdd, Nat.reduceMul, Nat.reduceMod, Nat.reduceDiv, Nat.reducePow, Nat.reduceSub, Nat.reduceBEq, Int.reduceLE, Int.reduceLT, Int.reduceEq, Int.reduceSub, Int.reduceAdd, Int.reduceToNat, Int.reduceNeg, e1, e2.1, e2.2, c3, e4, e5, e6.1, e6.2, c7, e8] <;> (repeat' apply And.intro) <;> first | rfl | exact ⟨_, rfl⟩ | exact ⟨_, _, rfl⟩ | simp [lst, cat2_nil]

def szP (left : Int) (ns es : List (List Int)) : Int := if szN left (ns.length + tot ns) < 0 then -1 else szN (szN left (ns.length + tot ns)) (es.length + tot es)
theorem l_szProblem_eq (a b : Int) (n e : List (List Int)) (left : Int) (hn : Wide n) (he : Wide e) (hl : 0 ≤ left ∧ left ≤ 1048576) : l_szProblem a b n e left = some (szP left n e) := by
 have h1 := tot_nonneg n
 unfold l_szProblem szP
 rw [ckT hn, ckT hl]
 rcases szN_cases left (n.length + tot n) with c | ⟨c, c'⟩
 ·rw [c]; rfl
 ·have hc : ¬ left - (n.length + tot n) < 0 := by omega
  have hd : 0 ≤ left - (n.length + tot n) ∧ left - (n.length + tot n) ≤ 1048576 := by omega
  rw [c]
  simp only [if_neg hc, ckT he, ckT hd]
  split
  ·rename_i h
   rcases szN_cases (left - (n.length + tot n)) (e.length + tot e) with d | ⟨d, d'⟩
   ·rw [d]
   ·omega
  ·rfl
theorem l_szProblem_cl (a_Labels : Int) (a_Degree : Int) (a_Nodes : List (List Int)) (a_Edges : List (List Int)) (left : Int) (h0 : Wide a_Nodes) (h1 : Wide a_Edges) (h2 : 0 ≤ left ∧ left ≤ 1048576) : Y.call 16 [D.agg [D.int .i64 a_Labels, D.int .i64 a_Degree, D.sl 70 (lst (fun x => D.sl 3 (lst (D.int .i64) x)) a_Nodes), D.sl 70 (lst (fun x => D.sl 3 (lst (D.int .i64) x)) a_Edges)], D.int .i64 left] [] = some (D.int .i64 (szP left a_Nodes a_Edges), []) := l_szProblem_call a_Labels a_Degree a_Nodes a_Edges left (l_szProblem_eq a_Labels a_Degree a_Nodes a_Edges left h0 h1 h2)
theorem szP_fit {ns es : List (List Int)} {left : Int} (hl : left ≤ 1048576) (h : ¬ szP left ns es < 0) : ns.length + tot ns + es.length + tot es ≤ 1048576 ∧ Short ns ∧ Short es ∧ szP left ns es ≤ left := by
 have t1 := tot_nonneg ns
 have t2 := tot_nonneg es
 have key : (ns.length : Int) + tot ns + es.length + tot es ≤ 1048576 ∧ szP left ns es ≤ left := by
  unfold szP at h ⊢
  rcases szN_cases left (ns.length + tot ns) with c | ⟨c, c'⟩
  ·rw [c] at h; simp at h
  ·rw [c, if_neg (by omega)] at h
   rw [c, if_neg (by omega)]
   rcases szN_cases (left - (ns.length + tot ns)) (es.length + tot es) with d | ⟨d, d'⟩
   ·rw [d] at h; simp at h
   ·omega
 exact ⟨key.1, tot_short (by omega), tot_short (by omega), key.2⟩
theorem wide_of {l : List (List Int)} (h : Numss l) : Wide l := ⟨Nat.lt_of_le_of_lt h.1 (by decide), fun x hx => Nat.lt_of_le_of_lt (h.2 x hx).1 (by decide)⟩

end Go.Proofs.YtaogbcdlpgfplaaDoor
