/- Problems copied, compared, measured and marked, as plain functions. Conditions: the lists are short. -/
import Derived.Test.YtipfckompmhljaaL6
import Derived.Test.YtipfckompmhljaaBase
namespace Go.Proofs.Ytipfckompmhljaa
open Go Dv
set_option linter.unusedSimpArgs false
set_option linter.unusedVariables false
set_option maxRecDepth 100000
set_option maxHeartbeats 4000000

noncomputable def l_toProblem (a_Labels a_Degree : Int) (a_Nodes a_Edges : List (List Int)) : Option (Int × Int × (List (List Int)) × (List (List Int))) :=
 ck (Short a_Nodes) <|
 ck (Short a_Edges) <|
 some (a_Labels, a_Degree, a_Nodes, a_Edges)
/-- laws.toProblem -/
def k25 : SC :=
 .seq
 (.ops [
 ⟨some 1, .box 46 (.tmp 0), 0, none⟩,
 ⟨some 2, .alloc 50, 0, none⟩])
 (.seq
 (.ops [
 ⟨some 3, .alloc 50, 0, none⟩])
 (.seq
 (.ops [
 ⟨some 4, .fieldAddr 46 (.tmp 1) 0, 0, none⟩,
 ⟨some 5, .load 3 (.tmp 4), 3, none⟩,
 ⟨some 6, .fieldAddr 50 (.tmp 3) 0, 0, none⟩,
 ⟨none, .store 3 (.tmp 6) (.tmp 5), 0, none⟩])
 (.seq
 (.ops [
 ⟨some 7, .fieldAddr 46 (.tmp 1) 1, 0, none⟩,
 ⟨some 8, .load 3 (.tmp 7), 3, none⟩,
 ⟨some 9, .fieldAddr 50 (.tmp 3) 1, 0, none⟩,
 ⟨none, .store 3 (.tmp 9) (.tmp 8), 0, none⟩])
 (.seq
 (.ops [
 ⟨some 10, .fieldAddr 46 (.tmp 1) 2, 0, none⟩,
 ⟨some 11, .load 44 (.tmp 10), 44, none⟩,
 ⟨some 12, .call ⟨(.value (.func 59)), #[(.tmp 11)], #[44]⟩, 44, none⟩,
 ⟨some 13, .fieldAddr 50 (.tmp 3) 2, 0, none⟩,
 ⟨none, .store 44 (.tmp 13) (.tmp 12), 0, none⟩])
 (.seq
 (.ops [
 ⟨some 14, .fieldAddr 46 (.tmp 1) 3, 0, none⟩,
 ⟨some 15, .load 44 (.tmp 14), 44, none⟩,
 ⟨some 16, .call ⟨(.value (.func 59)), #[(.tmp 15)], #[44]⟩, 44, none⟩,
 ⟨some 17, .fieldAddr 50 (.tmp 3) 3, 0, none⟩,
 ⟨none, .store 44 (.tmp 17) (.tmp 16), 0, none⟩])
 (.seq
 (.ops [
 ⟨some 18, .load 50 (.tmp 3), 50, none⟩,
 ⟨none, .store 50 (.tmp 2) (.tmp 18), 0, none⟩])
 .ret))))))
theorem slim25 : Try.f25.body.map (slim lends) = some k25 := by kernel_rfl
theorem ok25 : fnOk Try.f25 1 = true := by kernel_rfl
theorem c25 {a l : List D} {r : D × List D} (h : wpD Y.env k25 (fin tys l.length [ResultVar.cell 2 50] r) (entry a l)) (ha : a.length = 1) : Y.call 25 a l = some r :=
 call_slim (Y := Y) rfl Try.func25 (ha ▸ ok25) slim25 h
theorem l_toProblem_call (a_Labels a_Degree : Int) (a_Nodes a_Edges : List (List Int)) {r : Int × Int × (List (List Int)) × (List (List Int))} (h : l_toProblem a_Labels a_Degree a_Nodes a_Edges = some r) : Y.call 25 [D.agg [D.int .i64 a_Labels, D.int .i64 a_Degree, D.sl 23 (lst (fun x => D.sl 3 (lst (D.int .i64) x)) a_Nodes), D.sl 23 (lst (fun x => D.sl 3 (lst (D.int .i64) x)) a_Edges)]] [] = some (D.agg [D.int .i64 r.1, D.int .i64 r.2.1, D.own 23 (lst (fun x => D.own 3 (lst (D.int .i64) x)) r.2.2.1), D.own 23 (lst (fun x => D.own 3 (lst (D.int .i64) x)) r.2.2.2)], []) := by
 refine c25 ?_ rfl
 unfold k25
 unfold l_toProblem at h
 obtain ⟨e1, h⟩ := ckS h
 have c2 := l_toIntSS_cl a_Nodes e1
 obtain ⟨e3, h⟩ := ckS h
 have c4 := l_toIntSS_cl a_Edges e3
 cases h
 simp (maxDischargeDepth := 9) only [↓xpre, xpost, xlst, xc2, xcore, yset, ↓reduceIte, Nat.reduceEqDiff, Nat.reduceLT, Nat.reduceAdd, c2, c4]

theorem l_toProblem_eq (a b : Int) (n e : List (List Int)) (hn : Short n) (he : Short e) : l_toProblem a b n e = some (a, b, n, e) := by
 unfold l_toProblem; rw [ckT hn, ckT he]
theorem l_toProblem_cl (a_Labels a_Degree : Int) (a_Nodes a_Edges : List (List Int)) (h0 : Short a_Nodes) (h1 : Short a_Edges) : Y.call 25 [D.agg [D.int .i64 a_Labels, D.int .i64 a_Degree, D.sl 23 (lst (fun x => D.sl 3 (lst (D.int .i64) x)) a_Nodes), D.sl 23 (lst (fun x => D.sl 3 (lst (D.int .i64) x)) a_Edges)]] [] = some (D.agg [D.int .i64 a_Labels, D.int .i64 a_Degree, D.own 23 (lst (fun x => D.own 3 (lst (D.int .i64) x)) a_Nodes), D.own 23 (lst (fun x => D.own 3 (lst (D.int .i64) x)) a_Edges)], []) := l_toProblem_call a_Labels a_Degree a_Nodes a_Edges (l_toProblem_eq a_Labels a_Degree a_Nodes a_Edges h0 h1)
noncomputable def l_eqProblem (a_Labels a_Degree : Int) (a_Nodes a_Edges : List (List Int)) (b_Labels b_Degree : Int) (b_Nodes b_Edges : List (List Int)) : Option (Bool) :=
 if a_Labels = b_Labels then
  if a_Degree = b_Degree then
   ck (Short a_Nodes) <|
   if (decide (a_Nodes = b_Nodes)) = true then
    ck (Short a_Edges) <|
    if (decide (a_Edges = b_Edges)) = true then
     some true
    else
     some false
   else
    some false
  else
   some false
 else
  some false
/-- laws.eqProblem -/
def k27 : SC :=
 .seq
 (.ops [
 ⟨some 2, .box 50 (.tmp 0), 0, none⟩,
 ⟨some 3, .box 50 (.tmp 1), 0, none⟩,
 ⟨some 4, .assign (.const (.bool false)), 4, none⟩])
 (.seq
 (.seq
 (.ops [
 ⟨some 5, .fieldAddr 50 (.tmp 2) 0, 0, none⟩,
 ⟨some 6, .load 3 (.tmp 5), 3, none⟩,
 ⟨some 7, .fieldAddr 50 (.tmp 3) 0, 0, none⟩,
 ⟨some 8, .load 3 (.tmp 7), 3, none⟩,
 ⟨some 9, .binOp .neq 3 (.tmp 6) (.tmp 8) 3, 4, none⟩])
 (.cond (.tmp 9)
 (.seq
 (.ops [
 ⟨some 4, .assign (.const (.bool false)), 4, none⟩])
 .ret)
 .skip))
 (.seq
 (.seq
 (.ops [
 ⟨some 10, .fieldAddr 50 (.tmp 2) 1, 0, none⟩,
 ⟨some 11, .load 3 (.tmp 10), 3, none⟩,
 ⟨some 12, .fieldAddr 50 (.tmp 3) 1, 0, none⟩,
 ⟨some 13, .load 3 (.tmp 12), 3, none⟩,
 ⟨some 14, .binOp .neq 3 (.tmp 11) (.tmp 13) 3, 4, none⟩])
 (.cond (.tmp 14)
 (.seq
 (.ops [
 ⟨some 4, .assign (.const (.bool false)), 4, none⟩])
 .ret)
 .skip))
 (.seq
 (.seq
 (.ops [
 ⟨some 15, .fieldAddr 50 (.tmp 2) 2, 0, none⟩,
 ⟨some 16, .load 44 (.tmp 15), 44, none⟩,
 ⟨some 17, .fieldAddr 50 (.tmp 3) 2, 0, none⟩,
 ⟨some 18, .load 44 (.tmp 17), 44, none⟩,
 ⟨some 19, .call ⟨(.value (.func 62)), #[(.tmp 16), (.tmp 18)], #[44, 44]⟩, 4, none⟩,
 ⟨some 20, .unOp .not 4 (.tmp 19), 4, none⟩])
 (.cond (.tmp 20)
 (.seq
 (.ops [
 ⟨some 4, .assign (.const (.bool false)), 4, none⟩])
 .ret)
 .skip))
 (.seq
 (.seq
 (.ops [
 ⟨some 21, .fieldAddr 50 (.tmp 2) 3, 0, none⟩,
 ⟨some 22, .load 44 (.tmp 21), 44, none⟩,
 ⟨some 23, .fieldAddr 50 (.tmp 3) 3, 0, none⟩,
 ⟨some 24, .load 44 (.tmp 23), 44, none⟩,
 ⟨some 25, .call ⟨(.value (.func 62)), #[(.tmp 22), (.tmp 24)], #[44, 44]⟩, 4, none⟩,
 ⟨some 26, .unOp .not 4 (.tmp 25), 4, none⟩])
 (.cond (.tmp 26)
 (.seq
 (.ops [
 ⟨some 4, .assign (.const (.bool false)), 4, none⟩])
 .ret)
 .skip))
 (.seq
 (.ops [
 ⟨some 4, .assign (.const (.bool true)), 4, none⟩])
 .ret)))))
theorem slim27 : Try.f27.body.map (slim lends) = some k27 := by kernel_rfl
theorem ok27 : fnOk Try.f27 2 = true := by kernel_rfl
theorem c27 {a l : List D} {r : D × List D} (h : wpD Y.env k27 (fin tys l.length [ResultVar.tmp 4] r) (entry a l)) (ha : a.length = 2) : Y.call 27 a l = some r :=
 call_slim (Y := Y) rfl Try.func27 (ha ▸ ok27) slim27 h
theorem l_eqProblem_call (a_Labels a_Degree : Int) (a_Nodes a_Edges : List (List Int)) (b_Labels b_Degree : Int) (b_Nodes b_Edges : List (List Int)) {r : Bool} (h : l_eqProblem a_Labels a_Degree a_Nodes a_Edges b_Labels b_Degree b_Nodes b_Edges = some r) : Y.call 27 [D.agg [D.int .i64 a_Labels, D.int .i64 a_Degree, D.sl 23 (lst (fun x => D.sl 3 (lst (D.int .i64) x)) a_Nodes), D.sl 23 (lst (fun x => D.sl 3 (lst (D.int .i64) x)) a_Edges)], D.agg [D.int .i64 b_Labels, D.int .i64 b_Degree, D.sl 23 (lst (fun x => D.sl 3 (lst (D.int .i64) x)) b_Nodes), D.sl 23 (lst (fun x => D.sl 3 (lst (D.int .i64) x)) b_Edges)]] [] = some (D.bool r, []) := by
 refine c27 ?_ rfl
 unfold k27
 unfold l_eqProblem at h
 by_cases e1 : a_Labels = b_Labels
 ·rw [if_pos e1] at h
  by_cases e2 : a_Degree = b_Degree
  ·rw [if_pos e2] at h
   obtain ⟨e3, h⟩ := ckS h
   have c4 := l_eqIntSS_cl a_Nodes b_Nodes e3
   by_cases e5 : (decide (a_Nodes = b_Nodes)) = true
   ·rw [if_pos e5] at h
    obtain ⟨e6, h⟩ := ckS h
    have c7 := l_eqIntSS_cl a_Edges b_Edges e6
    by_cases e8 : (decide (a_Edges = b_Edges)) = true
    ·rw [if_pos e8] at h
     cases h
     simp (maxDischargeDepth := 9) only [↓xpre, xpost, xc2, xcore, yset, ↓reduceIte, Nat.reduceEqDiff, Nat.reduceLT, Nat.reduceAdd, decide_eq_true e1, decide_eq_true e2, c4, e5, c7, e8]
    ·rw [if_neg e8] at h
     have e8f : (decide (a_Edges = b_Edges)) = false := Bool.eq_false_iff.mpr e8
     cases h
     simp (maxDischargeDepth := 9) only [↓xpre, xpost, xc2, xcore, yset, ↓reduceIte, Nat.reduceEqDiff, Nat.reduceLT, Nat.reduceAdd, decide_eq_true e1, decide_eq_true e2, c4, e5, c7, e8f]
   ·rw [if_neg e5] at h
    have e5f : (decide (a_Nodes = b_Nodes)) = false := Bool.eq_false_iff.mpr e5
    cases h
    simp (maxDischargeDepth := 9) only [↓xpre, xpost, xc2, xcore, yset, ↓reduceIte, Nat.reduceEqDiff, Nat.reduceLT, Nat.reduceAdd, decide_eq_true e1, decide_eq_true e2, c4, e5f]
  ·rw [if_neg e2] at h
   cases h
   simp (maxDischargeDepth := 9) only [↓xpre, xpost, xcore, yset, ↓reduceIte, Nat.reduceEqDiff, Nat.reduceLT, Nat.reduceAdd, decide_eq_true e1, e2]
 ·rw [if_neg e1] at h
  cases h
  simp (maxDischargeDepth := 9) only [↓xpre, xpost, xcore, yset, ↓reduceIte, Nat.reduceEqDiff, Nat.reduceLT, Nat.reduceAdd, e1]

def sameP (a b : Int) (n e : List (List Int)) (a' b' : Int) (n' e' : List (List Int)) : Bool := decide (a = a' ∧ b = b' ∧ n = n' ∧ e = e')
theorem sameP_refl (a b : Int) (n e : List (List Int)) : sameP a b n e a b n e = true := by simp [sameP]
theorem l_eqProblem_eq (a b : Int) (n e : List (List Int)) (a' b' : Int) (n' e' : List (List Int)) (hn : Short n) (he : Short e) : l_eqProblem a b n e a' b' n' e' = some (sameP a b n e a' b' n' e') := by
 unfold l_eqProblem sameP
 by_cases h1 : a = a' <;> by_cases h2 : b = b' <;> by_cases h3 : n = n' <;> by_cases h4 : e = e' <;> simp [h1, h2, h3, h4, ck] <;> (try subst h3) <;> (try subst h4) <;> simp_all
theorem l_eqProblem_cl (a_Labels a_Degree : Int) (a_Nodes a_Edges : List (List Int)) (b_Labels b_Degree : Int) (b_Nodes b_Edges : List (List Int)) (h0 : Short a_Nodes) (h1 : Short a_Edges) : Y.call 27 [D.agg [D.int .i64 a_Labels, D.int .i64 a_Degree, D.sl 23 (lst (fun x => D.sl 3 (lst (D.int .i64) x)) a_Nodes), D.sl 23 (lst (fun x => D.sl 3 (lst (D.int .i64) x)) a_Edges)], D.agg [D.int .i64 b_Labels, D.int .i64 b_Degree, D.sl 23 (lst (fun x => D.sl 3 (lst (D.int .i64) x)) b_Nodes), D.sl 23 (lst (fun x => D.sl 3 (lst (D.int .i64) x)) b_Edges)]] [] = some (D.bool (sameP a_Labels a_Degree a_Nodes a_Edges b_Labels b_Degree b_Nodes b_Edges), []) := l_eqProblem_call a_Labels a_Degree a_Nodes a_Edges b_Labels b_Degree b_Nodes b_Edges (l_eqProblem_eq a_Labels a_Degree a_Nodes a_Edges b_Labels b_Degree b_Nodes b_Edges h0 h1)
noncomputable def l_szProblem (a_Labels a_Degree : Int) (a_Nodes a_Edges : List (List Int)) (left : Int) : Option (Int) :=
 ck (Wide a_Nodes) <|
 ck (0 ≤ left ∧ left ≤ 1048576) <|
 if (szN left (a_Nodes.length + tot a_Nodes)) < 0 then
  some (-1)
 else
  ck (Wide a_Edges) <|
  ck (0 ≤ (szN left (a_Nodes.length + tot a_Nodes)) ∧ (szN left (a_Nodes.length + tot a_Nodes)) ≤ 1048576) <|
  if (szN (szN left (a_Nodes.length + tot a_Nodes)) (a_Edges.length + tot a_Edges)) < 0 then
   some (-1)
  else
   some (szN (szN left (a_Nodes.length + tot a_Nodes)) (a_Edges.length + tot a_Edges))
/-- laws.szProblem -/
def k23 : SC :=
 .seq
 (.ops [
 ⟨some 2, .box 46 (.tmp 0), 0, none⟩,
 ⟨some 4, .assign (.const (.int .i64 0)), 3, none⟩])
 (.seq
 (.ops [
 ⟨some 5, .fieldAddr 46 (.tmp 2) 2, 0, none⟩,
 ⟨some 6, .load 44 (.tmp 5), 44, none⟩,
 ⟨some 7, .move (.tmp 1), 3, none⟩,
 ⟨some 8, .call ⟨(.value (.func 56)), #[(.tmp 6), (.tmp 7)], #[44, 3]⟩, 3, none⟩,
 ⟨some 1, .assign (.tmp 8), 3, none⟩])
 (.seq
 (.seq
 (.ops [
 ⟨some 9, .move (.tmp 1), 3, none⟩,
 ⟨some 10, .binOp .lss 3 (.tmp 9) (.const (.int .i64 0)) 3, 4, none⟩])
 (.cond (.tmp 10)
 (.seq
 (.ops [
 ⟨some 4, .assign (.const (.int .i64 (-1))), 3, none⟩])
 .ret)
 .skip))
 (.seq
 (.ops [
 ⟨some 11, .fieldAddr 46 (.tmp 2) 3, 0, none⟩,
 ⟨some 12, .load 44 (.tmp 11), 44, none⟩,
 ⟨some 13, .move (.tmp 1), 3, none⟩,
 ⟨some 14, .call ⟨(.value (.func 56)), #[(.tmp 12), (.tmp 13)], #[44, 3]⟩, 3, none⟩,
 ⟨some 1, .assign (.tmp 14), 3, none⟩])
 (.seq
 (.seq
 (.ops [
 ⟨some 15, .move (.tmp 1), 3, none⟩,
 ⟨some 16, .binOp .lss 3 (.tmp 15) (.const (.int .i64 0)) 3, 4, none⟩])
 (.cond (.tmp 16)
 (.seq
 (.ops [
 ⟨some 4, .assign (.const (.int .i64 (-1))), 3, none⟩])
 .ret)
 .skip))
 (.seq
 (.ops [
 ⟨some 17, .move (.tmp 1), 3, none⟩,
 ⟨some 4, .assign (.tmp 17), 3, none⟩])
 .ret)))))
theorem slim23 : Try.f23.body.map (slim lends) = some k23 := by kernel_rfl
theorem ok23 : fnOk Try.f23 2 = true := by kernel_rfl
theorem c23 {a l : List D} {r : D × List D} (h : wpD Y.env k23 (fin tys l.length [ResultVar.tmp 4] r) (entry a l)) (ha : a.length = 2) : Y.call 23 a l = some r :=
 call_slim (Y := Y) rfl Try.func23 (ha ▸ ok23) slim23 h
theorem l_szProblem_call (a_Labels a_Degree : Int) (a_Nodes a_Edges : List (List Int)) (left : Int) {r : Int} (h : l_szProblem a_Labels a_Degree a_Nodes a_Edges left = some r) : Y.call 23 [D.agg [D.int .i64 a_Labels, D.int .i64 a_Degree, D.sl 23 (lst (fun x => D.sl 3 (lst (D.int .i64) x)) a_Nodes), D.sl 23 (lst (fun x => D.sl 3 (lst (D.int .i64) x)) a_Edges)], D.int .i64 left] [] = some (D.int .i64 r, []) := by
 refine c23 ?_ rfl
 unfold k23
 unfold l_szProblem at h
 obtain ⟨e1, h⟩ := ckS h
 obtain ⟨e2, h⟩ := ckS h
 have c3 := l_szIntSS_cl a_Nodes left e1 e2
 by_cases e4 : (szN left (a_Nodes.length + tot a_Nodes)) < 0
 ·rw [if_pos e4] at h
  cases h
  simp (maxDischargeDepth := 9) only [↓xpre, xpost, xc2, xcore, yset, ↓reduceIte, Nat.reduceEqDiff, Nat.reduceLT, Nat.reduceAdd, Int.reduceNeg, c3, e4]
 ·rw [if_neg e4] at h
  obtain ⟨e5, h⟩ := ckS h
  obtain ⟨e6, h⟩ := ckS h
  have c7 := l_szIntSS_cl a_Edges (szN left (a_Nodes.length + tot a_Nodes)) e5 e6
  by_cases e8 : (szN (szN left (a_Nodes.length + tot a_Nodes)) (a_Edges.length + tot a_Edges)) < 0
  ·rw [if_pos e8] at h
   cases h
   simp (maxDischargeDepth := 9) only [↓xpre, xpost, xc2, xcore, yset, ↓reduceIte, Nat.reduceEqDiff, Nat.reduceLT, Nat.reduceAdd, Int.reduceNeg, c3, e4, c7, e8]
  ·rw [if_neg e8] at h
   cases h
   simp (maxDischargeDepth := 9) only [↓xpre, xpost, xc2, xcore, yset, ↓reduceIte, Nat.reduceEqDiff, Nat.reduceLT, Nat.reduceAdd, Int.reduceNeg, c3, e4, c7, e8]

def szP (left : Int) (ns es : List (List Int)) : Int := if szN left (ns.length + tot ns) < 0 then -1 else szN (szN left (ns.length + tot ns)) (es.length + tot es)
theorem l_szProblem_eq (a b : Int) (n e : List (List Int)) (left : Int) (hn : Wide n) (he : Wide e) (hl : 0 ≤ left ∧ left ≤ 1048576) : l_szProblem a b n e left = some (szP left n e) := by
 have h1 := tot_nonneg n
 unfold l_szProblem szP
 rw [ckT hn, ckT hl]
 rcases szN_cases left (n.length + tot n) with c | ⟨c, c'⟩
 ·rw [c]; rfl
 ·have hc : ¬ left - (n.length + tot n) < 0 := by omega
  have hd : 0 ≤ left - (n.length + tot n) ∧ left - (n.length + tot n) ≤ 1048576 := by omega
  rw [c]
  simp only [if_neg hc, ckT he, ckT hd]
  split
  ·rename_i h
   rcases szN_cases (left - (n.length + tot n)) (e.length + tot e) with d | ⟨d, d'⟩
   ·rw [d]
   ·omega
  ·rfl
theorem l_szProblem_cl (a_Labels a_Degree : Int) (a_Nodes a_Edges : List (List Int)) (left : Int) (h0 : Wide a_Nodes) (h1 : Wide a_Edges) (h2 : 0 ≤ left ∧ left ≤ 1048576) : Y.call 23 [D.agg [D.int .i64 a_Labels, D.int .i64 a_Degree, D.sl 23 (lst (fun x => D.sl 3 (lst (D.int .i64) x)) a_Nodes), D.sl 23 (lst (fun x => D.sl 3 (lst (D.int .i64) x)) a_Edges)], D.int .i64 left] [] = some (D.int .i64 (szP left a_Nodes a_Edges), []) := l_szProblem_call a_Labels a_Degree a_Nodes a_Edges left (l_szProblem_eq a_Labels a_Degree a_Nodes a_Edges left h0 h1 h2)
theorem szP_fit {ns es : List (List Int)} {left : Int} (hl : left ≤ 1048576) (h : ¬ szP left ns es < 0) : ns.length + tot ns + es.length + tot es ≤ 1048576 ∧ Short ns ∧ Short es ∧ szP left ns es ≤ left := by
 have t1 := tot_nonneg ns
 have t2 := tot_nonneg es
 have key : (ns.length : Int) + tot ns + es.length + tot es ≤ 1048576 ∧ szP left ns es ≤ left := by
  unfold szP at h ⊢
  rcases szN_cases left (ns.length + tot ns) with c | ⟨c, c'⟩
  ·rw [c] at h; simp at h
  ·rw [c, if_neg (by omega)] at h
   rw [c, if_neg (by omega)]
   rcases szN_cases (left - (ns.length + tot ns)) (es.length + tot es) with d | ⟨d, d'⟩
   ·rw [d] at h; simp at h
   ·omega
 exact ⟨key.1, tot_short (by omega), tot_short (by omega), key.2⟩
noncomputable def l_markProblem (a_Labels a_Degree : Int) (a_Nodes a_Edges : List (List Int)) (k : Int) : Option (Int × (List (List Int)) × (List (List Int))) :=
 ck (Short a_Nodes) <|
 ck (0 ≤ k ∧ k + tot a_Nodes < 1099511627776) <|
 ck (Short a_Edges) <|
 ck (0 ≤ (k + tot a_Nodes) ∧ (k + tot a_Nodes) + tot a_Edges < 1099511627776) <|
 some (((k + tot a_Nodes) + tot a_Edges), (marks k a_Nodes), (marks (k + tot a_Nodes) a_Edges))
/-- laws.markProblem -/
def k28 : SC :=
 .seq
 (.ops [
 ⟨some 2, .box 50 (.tmp 0), 0, none⟩,
 ⟨some 4, .assign (.const (.int .i64 0)), 3, none⟩])
 (.seq
 (.ops [
 ⟨some 5, .fieldAddr 50 (.tmp 2) 2, 0, none⟩,
 ⟨some 6, .load 44 (.tmp 5), 44, none⟩,
 ⟨some 7, .move (.tmp 1), 3, none⟩,
 ⟨some 8, .call ⟨(.value (.func 63)), #[(.tmp 6), (.tmp 7)], #[44, 3]⟩, 3, none⟩,
 ⟨some 1, .assign (.tmp 8), 3, none⟩])
 (.seq
 (.ops [
 ⟨some 9, .fieldAddr 50 (.tmp 2) 3, 0, none⟩,
 ⟨some 10, .load 44 (.tmp 9), 44, none⟩,
 ⟨some 11, .move (.tmp 1), 3, none⟩,
 ⟨some 12, .call ⟨(.value (.func 63)), #[(.tmp 10), (.tmp 11)], #[44, 3]⟩, 3, none⟩,
 ⟨some 1, .assign (.tmp 12), 3, none⟩])
 (.seq
 (.ops [
 ⟨some 13, .move (.tmp 1), 3, none⟩,
 ⟨some 4, .assign (.tmp 13), 3, none⟩])
 .ret)))
theorem slim28 : Try.f28.body.map (slim lends) = some k28 := by kernel_rfl
theorem ok28 : fnOk Try.f28 2 = true := by kernel_rfl
theorem c28 {a l : List D} {r : D × List D} (h : wpD Y.env k28 (fin tys l.length [ResultVar.tmp 4] r) (entry a l)) (ha : a.length = 2) : Y.call 28 a l = some r :=
 call_slim (Y := Y) rfl Try.func28 (ha ▸ ok28) slim28 h
theorem l_markProblem_call (a_Labels a_Degree : Int) (a_Nodes a_Edges : List (List Int)) (k : Int) {r : Int × (List (List Int)) × (List (List Int))} (h : l_markProblem a_Labels a_Degree a_Nodes a_Edges k = some r) : Y.call 28 [D.agg [D.int .i64 a_Labels, D.int .i64 a_Degree, D.vw [100000] 0 0, D.vw [100001] 0 0], D.int .i64 k] [D.own 23 (lst (fun x => D.own 3 (lst (D.int .i64) x)) a_Nodes), D.own 23 (lst (fun x => D.own 3 (lst (D.int .i64) x)) a_Edges)] = some (D.int .i64 r.1, [D.own 23 (lst (fun x => D.own 3 (lst (D.int .i64) x)) r.2.1), D.own 23 (lst (fun x => D.own 3 (lst (D.int .i64) x)) r.2.2)]) := by
 refine c28 ?_ rfl
 unfold k28
 unfold l_markProblem at h
 obtain ⟨e1, h⟩ := ckS h
 obtain ⟨e2, h⟩ := ckS h
 have c3 := l_markIntSS_cl a_Nodes k e1 e2
 obtain ⟨e4, h⟩ := ckS h
 obtain ⟨e5, h⟩ := ckS h
 have c6 := l_markIntSS_cl a_Edges (k + tot a_Nodes) e4 e5
 cases h
 simp (maxDischargeDepth := 9) only [↓xpre, xpost, xlst, xc2, xcore, yset, ↓reduceIte, Nat.reduceEqDiff, Nat.reduceLT, Nat.reduceAdd, Nat.reduceSub, c3, c6]

theorem l_markProblem_eq (a b : Int) (n e : List (List Int)) (k : Int) (hn : Short n) (he : Short e) (hk : 0 ≤ k ∧ k + tot n + tot e < 1099511627776) : l_markProblem a b n e k = some (k + tot n + tot e, marks k n, marks (k + tot n) e) := by
 have h1 := tot_nonneg n
 have h2 := tot_nonneg e
 unfold l_markProblem
 rw [ckT hn, ckT (by omega), ckT he, ckT (by omega)]
theorem l_markProblem_cl (a_Labels a_Degree : Int) (a_Nodes a_Edges : List (List Int)) (k : Int) (h0 : Short a_Nodes) (h1 : Short a_Edges) (h2 : 0 ≤ k ∧ k + tot a_Nodes + tot a_Edges < 1099511627776) : Y.call 28 [D.agg [D.int .i64 a_Labels, D.int .i64 a_Degree, D.vw [100000] 0 0, D.vw [100001] 0 0], D.int .i64 k] [D.own 23 (lst (fun x => D.own 3 (lst (D.int .i64) x)) a_Nodes), D.own 23 (lst (fun x => D.own 3 (lst (D.int .i64) x)) a_Edges)] = some (D.int .i64 (k + tot a_Nodes + tot a_Edges), [D.own 23 (lst (fun x => D.own 3 (lst (D.int .i64) x)) (marks k a_Nodes)), D.own 23 (lst (fun x => D.own 3 (lst (D.int .i64) x)) (marks (k + tot a_Nodes) a_Edges))]) := l_markProblem_call a_Labels a_Degree a_Nodes a_Edges k (l_markProblem_eq a_Labels a_Degree a_Nodes a_Edges k h0 h1 h2)
theorem wide_of {l : List (List Int)} (h : Numss l) : Wide l := ⟨Nat.lt_of_le_of_lt h.1 (by decide), fun x hx => Nat.lt_of_le_of_lt (h.2 x hx).1 (by decide)⟩

end Go.Proofs.Ytipfckompmhljaa
