/- Problems copied, compared, measured and marked, as plain functions. Conditions: the lists are short. -/
import Derived.Test.YtjlphfbpaejicaaL6
import Derived.Test.YtjlphfbpaejicaaBase
namespace Go.Proofs.Ytjlphfbpaejicaa
open Go Dv
set_option linter.unusedSimpArgs false
set_option linter.unusedVariables false
set_option maxRecDepth 100000
set_option maxHeartbeats 4000000

noncomputable def l_toProblem (a_Labels : Int) (a_Degree : Int) (a_Nodes : List (List Int)) (a_Edges : List (List Int)) : Option (Int × Int × (List (List Int)) × (List (List Int))) :=
  ck (Short a_Nodes) <|
  ck (Short a_Edges) <|
  some (a_Labels, a_Degree, a_Nodes, a_Edges)
/-- laws.toProblem -/
def k17 : SC :=
  .seq
    (.ops [
      ⟨(some 1), (Op.box 24 (Operand.tmp 0)), 0, none⟩,
      ⟨(some 2), (Op.alloc 28), 0, none⟩])
    (.seq
      (.ops [
        ⟨(some 3), (Op.alloc 28), 0, none⟩])
      (.seq
        (.ops [
          ⟨(some 4), (Op.fieldAddr 24 (Operand.tmp 1) 0), 0, none⟩,
          ⟨(some 5), (Op.load 3 (Operand.tmp 4)), 3, none⟩,
          ⟨(some 6), (Op.fieldAddr 28 (Operand.tmp 3) 0), 0, none⟩,
          ⟨none, (Op.store 3 (Operand.tmp 6) (Operand.tmp 5)), 0, none⟩])
        (.seq
          (.ops [
            ⟨(some 7), (Op.fieldAddr 24 (Operand.tmp 1) 1), 0, none⟩,
            ⟨(some 8), (Op.load 3 (Operand.tmp 7)), 3, none⟩,
            ⟨(some 9), (Op.fieldAddr 28 (Operand.tmp 3) 1), 0, none⟩,
            ⟨none, (Op.store 3 (Operand.tmp 9) (Operand.tmp 8)), 0, none⟩])
          (.seq
            (.ops [
              ⟨(some 10), (Op.fieldAddr 24 (Operand.tmp 1) 2), 0, none⟩,
              ⟨(some 11), (Op.load 22 (Operand.tmp 10)), 22, none⟩,
              ⟨(some 12), (Op.call { callee := (Callee.value (Operand.func 28)), args := #[(Operand.tmp 11)], argTypes := #[22] }), 22, none⟩,
              ⟨(some 13), (Op.fieldAddr 28 (Operand.tmp 3) 2), 0, none⟩,
              ⟨none, (Op.store 22 (Operand.tmp 13) (Operand.tmp 12)), 0, none⟩])
            (.seq
              (.ops [
                ⟨(some 14), (Op.fieldAddr 24 (Operand.tmp 1) 3), 0, none⟩,
                ⟨(some 15), (Op.load 22 (Operand.tmp 14)), 22, none⟩,
                ⟨(some 16), (Op.call { callee := (Callee.value (Operand.func 28)), args := #[(Operand.tmp 15)], argTypes := #[22] }), 22, none⟩,
                ⟨(some 17), (Op.fieldAddr 28 (Operand.tmp 3) 3), 0, none⟩,
                ⟨none, (Op.store 22 (Operand.tmp 17) (Operand.tmp 16)), 0, none⟩])
              (.seq
                (.ops [
                  ⟨(some 18), (Op.load 28 (Operand.tmp 3)), 28, none⟩,
                  ⟨none, (Op.store 28 (Operand.tmp 2) (Operand.tmp 18)), 0, none⟩])
                .ret))))))
theorem slim17 : Try.f17.body.map (slim lends) = some k17 := by kernel_rfl
theorem ok17 : fnOk Try.f17 1 = true := by kernel_rfl
theorem c17 {a l : List D} {r : D × List D} (h : wpD Y.env k17 (fin tys l.length [ResultVar.cell 2 28] r) (entry a l)) (ha : a.length = 1) : Y.call 17 a l = some r :=
  call_slim (Y := Y) rfl Try.func17 (ha ▸ ok17) slim17 h
theorem l_toProblem_call (a_Labels : Int) (a_Degree : Int) (a_Nodes : List (List Int)) (a_Edges : List (List Int)) {r : Int × Int × (List (List Int)) × (List (List Int))} (h : l_toProblem a_Labels a_Degree a_Nodes a_Edges = some r) : Y.call 17 [D.agg [D.int .i64 a_Labels, D.int .i64 a_Degree, D.sl 32 (lst (fun x => D.sl 3 (lst (D.int .i64) x)) a_Nodes), D.sl 32 (lst (fun x => D.sl 3 (lst (D.int .i64) x)) a_Edges)]] [] = some (D.agg [D.int .i64 r.1, D.int .i64 r.2.1, D.own 32 (lst (fun x => D.own 3 (lst (D.int .i64) x)) r.2.2.1), D.own 32 (lst (fun x => D.own 3 (lst (D.int .i64) x)) r.2.2.2)], []) := by
  refine c17 ?_ rfl
  unfold k17
  unfold l_toProblem at h
  obtain ⟨e1, h⟩ := ckS h
  have c2 := l_toIntSS_cl a_Nodes e1
  obtain ⟨e3, h⟩ := ckS h
  have c4 := l_toIntSS_cl a_Edges e3
  obtain rfl := Option.some.inj h
  simp (maxDischargeDepth := 9) only [↓xpre, xpost, xlst, xcore, yset, rg0, ↓reduceIte, Nat.reduceEqDiff, Nat.reduceLT, Nat.reduceLeDiff, Nat.reduceAdd, Nat.reduceMul, Nat.reduceMod, Nat.reduceSub, Nat.reduceBEq, Int.reduceLE, Int.reduceLT, Int.reduceEq, Int.reduceSub, Int.reduceAdd, Int.reduceToNat, Int.reduceNeg, e1, c2, e3, c4] <;> (repeat' apply And.intro) <;> first | rfl | exact ⟨_, rfl⟩ | simp [lst]

theorem l_toProblem_eq (a b : Int) (n e : List (List Int)) (hn : Short n) (he : Short e) : l_toProblem a b n e = some (a, b, n, e) := by
  unfold l_toProblem; rw [ckT hn, ckT he]
theorem l_toProblem_cl (a_Labels : Int) (a_Degree : Int) (a_Nodes : List (List Int)) (a_Edges : List (List Int)) (h0 : Short a_Nodes) (h1 : Short a_Edges) : Y.call 17 [D.agg [D.int .i64 a_Labels, D.int .i64 a_Degree, D.sl 32 (lst (fun x => D.sl 3 (lst (D.int .i64) x)) a_Nodes), D.sl 32 (lst (fun x => D.sl 3 (lst (D.int .i64) x)) a_Edges)]] [] = some (D.agg [D.int .i64 a_Labels, D.int .i64 a_Degree, D.own 32 (lst (fun x => D.own 3 (lst (D.int .i64) x)) a_Nodes), D.own 32 (lst (fun x => D.own 3 (lst (D.int .i64) x)) a_Edges)], []) := l_toProblem_call a_Labels a_Degree a_Nodes a_Edges (l_toProblem_eq a_Labels a_Degree a_Nodes a_Edges h0 h1)
noncomputable def l_eqProblem (a_Labels : Int) (a_Degree : Int) (a_Nodes : List (List Int)) (a_Edges : List (List Int)) (b_Labels : Int) (b_Degree : Int) (b_Nodes : List (List Int)) (b_Edges : List (List Int)) : Option (Bool) :=
  if a_Labels = b_Labels then
    if a_Degree = b_Degree then
      ck (Short a_Nodes) <|
      if (decide (a_Nodes = b_Nodes)) = true then
        ck (Short a_Edges) <|
        if (decide (a_Edges = b_Edges)) = true then
          some true
        else
          some false
      else
        some false
    else
      some false
  else
    some false
/-- laws.eqProblem -/
def k19 : SC :=
  .seq
    (.ops [
      ⟨(some 2), (Op.box 28 (Operand.tmp 0)), 0, none⟩,
      ⟨(some 3), (Op.box 28 (Operand.tmp 1)), 0, none⟩,
      ⟨(some 4), (Op.assign (Operand.const (Value.bool false))), 4, none⟩])
    (.seq
      (.seq
        (.ops [
          ⟨(some 5), (Op.fieldAddr 28 (Operand.tmp 2) 0), 0, none⟩,
          ⟨(some 6), (Op.load 3 (Operand.tmp 5)), 3, none⟩,
          ⟨(some 7), (Op.fieldAddr 28 (Operand.tmp 3) 0), 0, none⟩,
          ⟨(some 8), (Op.load 3 (Operand.tmp 7)), 3, none⟩,
          ⟨(some 9), (Op.binOp BinOp.neq 3 (Operand.tmp 6) (Operand.tmp 8) 3), 4, none⟩])
        (.cond (Operand.tmp 9)
          (.seq
            (.ops [
              ⟨(some 4), (Op.assign (Operand.const (Value.bool false))), 4, none⟩])
            .ret)
          .skip))
      (.seq
        (.seq
          (.ops [
            ⟨(some 10), (Op.fieldAddr 28 (Operand.tmp 2) 1), 0, none⟩,
            ⟨(some 11), (Op.load 3 (Operand.tmp 10)), 3, none⟩,
            ⟨(some 12), (Op.fieldAddr 28 (Operand.tmp 3) 1), 0, none⟩,
            ⟨(some 13), (Op.load 3 (Operand.tmp 12)), 3, none⟩,
            ⟨(some 14), (Op.binOp BinOp.neq 3 (Operand.tmp 11) (Operand.tmp 13) 3), 4, none⟩])
          (.cond (Operand.tmp 14)
            (.seq
              (.ops [
                ⟨(some 4), (Op.assign (Operand.const (Value.bool false))), 4, none⟩])
              .ret)
            .skip))
        (.seq
          (.seq
            (.ops [
              ⟨(some 15), (Op.fieldAddr 28 (Operand.tmp 2) 2), 0, none⟩,
              ⟨(some 16), (Op.load 22 (Operand.tmp 15)), 22, none⟩,
              ⟨(some 17), (Op.fieldAddr 28 (Operand.tmp 3) 2), 0, none⟩,
              ⟨(some 18), (Op.load 22 (Operand.tmp 17)), 22, none⟩,
              ⟨(some 19), (Op.call { callee := (Callee.value (Operand.func 30)), args := #[(Operand.tmp 16), (Operand.tmp 18)], argTypes := #[22, 22] }), 4, none⟩,
              ⟨(some 20), (Op.unOp UnOp.not 4 (Operand.tmp 19)), 4, none⟩])
            (.cond (Operand.tmp 20)
              (.seq
                (.ops [
                  ⟨(some 4), (Op.assign (Operand.const (Value.bool false))), 4, none⟩])
                .ret)
              .skip))
          (.seq
            (.seq
              (.ops [
                ⟨(some 21), (Op.fieldAddr 28 (Operand.tmp 2) 3), 0, none⟩,
                ⟨(some 22), (Op.load 22 (Operand.tmp 21)), 22, none⟩,
                ⟨(some 23), (Op.fieldAddr 28 (Operand.tmp 3) 3), 0, none⟩,
                ⟨(some 24), (Op.load 22 (Operand.tmp 23)), 22, none⟩,
                ⟨(some 25), (Op.call { callee := (Callee.value (Operand.func 30)), args := #[(Operand.tmp 22), (Operand.tmp 24)], argTypes := #[22, 22] }), 4, none⟩,
                ⟨(some 26), (Op.unOp UnOp.not 4 (Operand.tmp 25)), 4, none⟩])
              (.cond (Operand.tmp 26)
                (.seq
                  (.ops [
                    ⟨(some 4), (Op.assign (Operand.const (Value.bool false))), 4, none⟩])
                  .ret)
                .skip))
            (.seq
              (.ops [
                ⟨(some 4), (Op.assign (Operand.const (Value.bool true))), 4, none⟩])
              .ret)))))
theorem slim19 : Try.f19.body.map (slim lends) = some k19 := by kernel_rfl
theorem ok19 : fnOk Try.f19 2 = true := by kernel_rfl
theorem c19 {a l : List D} {r : D × List D} (h : wpD Y.env k19 (fin tys l.length [ResultVar.tmp 4] r) (entry a l)) (ha : a.length = 2) : Y.call 19 a l = some r :=
  call_slim (Y := Y) rfl Try.func19 (ha ▸ ok19) slim19 h
theorem l_eqProblem_call (a_Labels : Int) (a_Degree : Int) (a_Nodes : List (List Int)) (a_Edges : List (List Int)) (b_Labels : Int) (b_Degree : Int) (b_Nodes : List (List Int)) (b_Edges : List (List Int)) {r : Bool} (h : l_eqProblem a_Labels a_Degree a_Nodes a_Edges b_Labels b_Degree b_Nodes b_Edges = some r) : Y.call 19 [D.agg [D.int .i64 a_Labels, D.int .i64 a_Degree, D.sl 32 (lst (fun x => D.sl 3 (lst (D.int .i64) x)) a_Nodes), D.sl 32 (lst (fun x => D.sl 3 (lst (D.int .i64) x)) a_Edges)], D.agg [D.int .i64 b_Labels, D.int .i64 b_Degree, D.sl 32 (lst (fun x => D.sl 3 (lst (D.int .i64) x)) b_Nodes), D.sl 32 (lst (fun x => D.sl 3 (lst (D.int .i64) x)) b_Edges)]] [] = some (D.bool r, []) := by
  refine c19 ?_ rfl
  unfold k19
  unfold l_eqProblem at h
  by_cases e1 : a_Labels = b_Labels
  · rw [if_pos e1] at h
    by_cases e2 : a_Degree = b_Degree
    · rw [if_pos e2] at h
      obtain ⟨e3, h⟩ := ckS h
      have c4 := l_eqIntSS_cl a_Nodes b_Nodes e3
      by_cases e5 : (decide (a_Nodes = b_Nodes)) = true
      · rw [if_pos e5] at h
        obtain ⟨e6, h⟩ := ckS h
        have c7 := l_eqIntSS_cl a_Edges b_Edges e6
        by_cases e8 : (decide (a_Edges = b_Edges)) = true
        · rw [if_pos e8] at h
          obtain rfl := Option.some.inj h
          simp (maxDischargeDepth := 9) only [↓xpre, xpost, xlst, xcore, yset, rg0, ↓reduceIte, Nat.reduceEqDiff, Nat.reduceLT, Nat.reduceLeDiff, Nat.reduceAdd, Nat.reduceMul, Nat.reduceMod, Nat.reduceSub, Nat.reduceBEq, Int.reduceLE, Int.reduceLT, Int.reduceEq, Int.reduceSub, Int.reduceAdd, Int.reduceToNat, Int.reduceNeg, decide_eq_true e1, decide_eq_true e2, e3, c4, e5, e6, c7, e8] <;> (repeat' apply And.intro) <;> first | rfl | exact ⟨_, rfl⟩ | simp [lst]
        · rw [if_neg e8] at h
          have e8f : (decide (a_Edges = b_Edges)) = false := Bool.eq_false_iff.mpr e8
          obtain rfl := Option.some.inj h
          simp (maxDischargeDepth := 9) only [↓xpre, xpost, xlst, xcore, yset, rg0, ↓reduceIte, Nat.reduceEqDiff, Nat.reduceLT, Nat.reduceLeDiff, Nat.reduceAdd, Nat.reduceMul, Nat.reduceMod, Nat.reduceSub, Nat.reduceBEq, Int.reduceLE, Int.reduceLT, Int.reduceEq, Int.reduceSub, Int.reduceAdd, Int.reduceToNat, Int.reduceNeg, decide_eq_true e1, decide_eq_true e2, e3, c4, e5, e6, c7, e8f] <;> (repeat' apply And.intro) <;> first | rfl | exact ⟨_, rfl⟩ | simp [lst]
      · rw [if_neg e5] at h
        have e5f : (decide (a_Nodes = b_Nodes)) = false := Bool.eq_false_iff.mpr e5
        obtain rfl := Option.some.inj h
        simp (maxDischargeDepth := 9) only [↓xpre, xpost, xlst, xcore, yset, rg0, ↓reduceIte, Nat.reduceEqDiff, Nat.reduceLT, Nat.reduceLeDiff, Nat.reduceAdd, Nat.reduceMul, Nat.reduceMod, Nat.reduceSub, Nat.reduceBEq, Int.reduceLE, Int.reduceLT, Int.reduceEq, Int.reduceSub, Int.reduceAdd, Int.reduceToNat, Int.reduceNeg, decide_eq_true e1, decide_eq_true e2, e3, c4, e5f] <;> (repeat' apply And.intro) <;> first | rfl | exact ⟨_, rfl⟩ | simp [lst]
    · rw [if_neg e2] at h
      obtain rfl := Option.some.inj h
      simp (maxDischargeDepth := 9) only [↓xpre, xpost, xlst, xcore, yset, rg0, ↓reduceIte, Nat.reduceEqDiff, Nat.reduceLT, Nat.reduceLeDiff, Nat.reduceAdd, Nat.reduceMul, Nat.reduceMod, Nat.reduceSub, Nat.reduceBEq, Int.reduceLE, Int.reduceLT, Int.reduceEq, Int.reduceSub, Int.reduceAdd, Int.reduceToNat, Int.reduceNeg, decide_eq_true e1, e2] <;> (repeat' apply And.intro) <;> first | rfl | exact ⟨_, rfl⟩ | simp [lst]
  · rw [if_neg e1] at h
    obtain rfl := Option.some.inj h
    simp (maxDischargeDepth := 9) only [↓xpre, xpost, xlst, xcore, yset, rg0, ↓reduceIte, Nat.reduceEqDiff, Nat.reduceLT, Nat.reduceLeDiff, Nat.reduceAdd, Nat.reduceMul, Nat.reduceMod, Nat.reduceSub, Nat.reduceBEq, Int.reduceLE, Int.reduceLT, Int.reduceEq, Int.reduceSub, Int.reduceAdd, Int.reduceToNat, Int.reduceNeg, e1] <;> (repeat' apply And.intro) <;> first | rfl | exact ⟨_, rfl⟩ | simp [lst]

def sameP (a b : Int) (n e : List (List Int)) (a' b' : Int) (n' e' : List (List Int)) : Bool := decide (a = a' ∧ b = b' ∧ n = n' ∧ e = e')
theorem sameP_refl (a b : Int) (n e : List (List Int)) : sameP a b n e a b n e = true := by simp [sameP]
theorem l_eqProblem_eq (a b : Int) (n e : List (List Int)) (a' b' : Int) (n' e' : List (List Int)) (hn : Short n) (he : Short e) : l_eqProblem a b n e a' b' n' e' = some (sameP a b n e a' b' n' e') := by
  unfold l_eqProblem sameP
  by_cases h1 : a = a' <;> by_cases h2 : b = b' <;> by_cases h3 : n = n' <;> by_cases h4 : e = e' <;> simp [h1, h2, h3, h4, ck] <;> (try subst h3) <;> (try subst h4) <;> simp_all
theorem l_eqProblem_cl (a_Labels : Int) (a_Degree : Int) (a_Nodes : List (List Int)) (a_Edges : List (List Int)) (b_Labels : Int) (b_Degree : Int) (b_Nodes : List (List Int)) (b_Edges : List (List Int)) (h0 : Short a_Nodes) (h1 : Short a_Edges) : Y.call 19 [D.agg [D.int .i64 a_Labels, D.int .i64 a_Degree, D.sl 32 (lst (fun x => D.sl 3 (lst (D.int .i64) x)) a_Nodes), D.sl 32 (lst (fun x => D.sl 3 (lst (D.int .i64) x)) a_Edges)], D.agg [D.int .i64 b_Labels, D.int .i64 b_Degree, D.sl 32 (lst (fun x => D.sl 3 (lst (D.int .i64) x)) b_Nodes), D.sl 32 (lst (fun x => D.sl 3 (lst (D.int .i64) x)) b_Edges)]] [] = some (D.bool (sameP a_Labels a_Degree a_Nodes a_Edges b_Labels b_Degree b_Nodes b_Edges), []) := l_eqProblem_call a_Labels a_Degree a_Nodes a_Edges b_Labels b_Degree b_Nodes b_Edges (l_eqProblem_eq a_Labels a_Degree a_Nodes a_Edges b_Labels b_Degree b_Nodes b_Edges h0 h1)
noncomputable def l_szProblem (a_Labels : Int) (a_Degree : Int) (a_Nodes : List (List Int)) (a_Edges : List (List Int)) (left : Int) : Option (Int) :=
  ck (Wide a_Nodes) <|
  ck (0 ≤ left ∧ left ≤ 1048576) <|
  if (szN left (a_Nodes.length + tot a_Nodes)) < 0 then
    some (-1)
  else
    ck (Wide a_Edges) <|
    ck (0 ≤ (szN left (a_Nodes.length + tot a_Nodes)) ∧ (szN left (a_Nodes.length + tot a_Nodes)) ≤ 1048576) <|
    if (szN (szN left (a_Nodes.length + tot a_Nodes)) (a_Edges.length + tot a_Edges)) < 0 then
      some (-1)
    else
      some (szN (szN left (a_Nodes.length + tot a_Nodes)) (a_Edges.length + tot a_Edges))
/-- laws.szProblem -/
def k15 : SC :=
  .seq
    (.ops [
      ⟨(some 2), (Op.box 24 (Operand.tmp 0)), 0, none⟩,
      ⟨(some 4), (Op.assign (Operand.const (Value.int IntKind.i64 0))), 3, none⟩])
    (.seq
      (.ops [
        ⟨(some 5), (Op.fieldAddr 24 (Operand.tmp 2) 2), 0, none⟩,
        ⟨(some 6), (Op.load 22 (Operand.tmp 5)), 22, none⟩,
        ⟨(some 7), (Op.move (Operand.tmp 1)), 3, none⟩,
        ⟨(some 8), (Op.call { callee := (Callee.value (Operand.func 26)), args := #[(Operand.tmp 6), (Operand.tmp 7)], argTypes := #[22, 3] }), 3, none⟩,
        ⟨(some 1), (Op.assign (Operand.tmp 8)), 3, none⟩])
      (.seq
        (.seq
          (.ops [
            ⟨(some 9), (Op.move (Operand.tmp 1)), 3, none⟩,
            ⟨(some 10), (Op.binOp BinOp.lss 3 (Operand.tmp 9) (Operand.const (Value.int IntKind.i64 0)) 3), 4, none⟩])
          (.cond (Operand.tmp 10)
            (.seq
              (.ops [
                ⟨(some 4), (Op.assign (Operand.const (Value.int IntKind.i64 (-1)))), 3, none⟩])
              .ret)
            .skip))
        (.seq
          (.ops [
            ⟨(some 11), (Op.fieldAddr 24 (Operand.tmp 2) 3), 0, none⟩,
            ⟨(some 12), (Op.load 22 (Operand.tmp 11)), 22, none⟩,
            ⟨(some 13), (Op.move (Operand.tmp 1)), 3, none⟩,
            ⟨(some 14), (Op.call { callee := (Callee.value (Operand.func 26)), args := #[(Operand.tmp 12), (Operand.tmp 13)], argTypes := #[22, 3] }), 3, none⟩,
            ⟨(some 1), (Op.assign (Operand.tmp 14)), 3, none⟩])
          (.seq
            (.seq
              (.ops [
                ⟨(some 15), (Op.move (Operand.tmp 1)), 3, none⟩,
                ⟨(some 16), (Op.binOp BinOp.lss 3 (Operand.tmp 15) (Operand.const (Value.int IntKind.i64 0)) 3), 4, none⟩])
              (.cond (Operand.tmp 16)
                (.seq
                  (.ops [
                    ⟨(some 4), (Op.assign (Operand.const (Value.int IntKind.i64 (-1)))), 3, none⟩])
                  .ret)
                .skip))
            (.seq
              (.ops [
                ⟨(some 17), (Op.move (Operand.tmp 1)), 3, none⟩,
                ⟨(some 4), (Op.assign (Operand.tmp 17)), 3, none⟩])
              .ret)))))
theorem slim15 : Try.f15.body.map (slim lends) = some k15 := by kernel_rfl
theorem ok15 : fnOk Try.f15 2 = true := by kernel_rfl
theorem c15 {a l : List D} {r : D × List D} (h : wpD Y.env k15 (fin tys l.length [ResultVar.tmp 4] r) (entry a l)) (ha : a.length = 2) : Y.call 15 a l = some r :=
  call_slim (Y := Y) rfl Try.func15 (ha ▸ ok15) slim15 h
theorem l_szProblem_call (a_Labels : Int) (a_Degree : Int) (a_Nodes : List (List Int)) (a_Edges : List (List Int)) (left : Int) {r : Int} (h : l_szProblem a_Labels a_Degree a_Nodes a_Edges left = some r) : Y.call 15 [D.agg [D.int .i64 a_Labels, D.int .i64 a_Degree, D.sl 32 (lst (fun x => D.sl 3 (lst (D.int .i64) x)) a_Nodes), D.sl 32 (lst (fun x => D.sl 3 (lst (D.int .i64) x)) a_Edges)], D.int .i64 left] [] = some (D.int .i64 r, []) := by
  refine c15 ?_ rfl
  unfold k15
  unfold l_szProblem at h
  obtain ⟨e1, h⟩ := ckS h
  obtain ⟨e2, h⟩ := ckS h
  have c3 := l_szIntSS_cl a_Nodes left e1 e2
  by_cases e4 : (szN left (a_Nodes.length + tot a_Nodes)) < 0
  · rw [if_pos e4] at h
    obtain rfl := Option.some.inj h
    simp (maxDischargeDepth := 9) only [↓xpre, xpost, xlst, xcore, yset, rg0, ↓reduceIte, Nat.reduceEqDiff, Nat.reduceLT, Nat.reduceLeDiff, Nat.reduceAdd, Nat.reduceMul, Nat.reduceMod, Nat.reduceSub, Nat.reduceBEq, Int.reduceLE, Int.reduceLT, Int.reduceEq, Int.reduceSub, Int.reduceAdd, Int.reduceToNat, Int.reduceNeg, e1, e2.1, e2.2, c3, e4] <;> (repeat' apply And.intro) <;> first | rfl | exact ⟨_, rfl⟩ | simp [lst]
  · rw [if_neg e4] at h
    obtain ⟨e5, h⟩ := ckS h
    obtain ⟨e6, h⟩ := ckS h
    have c7 := l_szIntSS_cl a_Edges (szN left (a_Nodes.length + tot a_Nodes)) e5 e6
    by_cases e8 : (szN (szN left (a_Nodes.length + tot a_Nodes)) (a_Edges.length + tot a_Edges)) < 0
    · rw [if_pos e8] at h
      obtain rfl := Option.some.inj h
      simp (maxDischargeDepth := 9) only [↓xpre, xpost, xlst, xcore, yset, rg0, ↓reduceIte, Nat.reduceEqDiff, Nat.reduceLT, Nat.reduceLeDiff, Nat.reduceAdd, Nat.reduceMul, Nat.reduceMod, Nat.reduceSub, Nat.reduceBEq, Int.reduceLE, Int.reduceLT, Int.reduceEq, Int.reduceSub, Int.reduceAdd, Int.reduceToNat, Int.reduceNeg, e1, e2.1, e2.2, c3, e4, e5, e6.1, e6.2, c7, e8] <;> (repeat' apply And.intro) <;> first | rfl | exact ⟨_, rfl⟩ | simp [lst]
    · rw [if_neg e8] at h
      obtain rfl := Option.some.inj h
      simp (maxDischargeDepth := 9) only [↓xpre, xpost, xlst, xcore, yset, rg0, ↓reduceIte, Nat.reduceEqDiff, Nat.reduceLT, Nat.reduceLeDiff, Nat.reduceAdd, Nat.reduceMul, Nat.reduceMod, Nat.reduceSub, Nat.reduceBEq, Int.reduceLE, Int.reduceLT, Int.reduceEq, Int.reduceSub, Int.reduceAdd, Int.reduceToNat, Int.reduceNeg, e1, e2.1, e2.2, c3, e4, e5, e6.1, e6.2, c7, e8] <;> (repeat' apply And.intro) <;> first | rfl | exact ⟨_, rfl⟩ | simp [lst]

def szP (left : Int) (ns es : List (List Int)) : Int := if szN left (ns.length + tot ns) < 0 then -1 else szN (szN left (ns.length + tot ns)) (es.length + tot es)
theorem l_szProblem_eq (a b : Int) (n e : List (List Int)) (left : Int) (hn : Wide n) (he : Wide e) (hl : 0 ≤ left ∧ left ≤ 1048576) : l_szProblem a b n e left = some (szP left n e) := by
  have h1 := tot_nonneg n
  unfold l_szProblem szP
  rw [ckT hn, ckT hl]
  rcases szN_cases left (n.length + tot n) with c | ⟨c, c'⟩
  · rw [c]; rfl
  · have hc : ¬ left - (n.length + tot n) < 0 := by omega
    have hd : 0 ≤ left - (n.length + tot n) ∧ left - (n.length + tot n) ≤ 1048576 := by omega
    rw [c]
    simp only [if_neg hc, ckT he, ckT hd]
    split
    · rename_i h
      rcases szN_cases (left - (n.length + tot n)) (e.length + tot e) with d | ⟨d, d'⟩
      · rw [d]
      · omega
    · rfl
theorem l_szProblem_cl (a_Labels : Int) (a_Degree : Int) (a_Nodes : List (List Int)) (a_Edges : List (List Int)) (left : Int) (h0 : Wide a_Nodes) (h1 : Wide a_Edges) (h2 : 0 ≤ left ∧ left ≤ 1048576) : Y.call 15 [D.agg [D.int .i64 a_Labels, D.int .i64 a_Degree, D.sl 32 (lst (fun x => D.sl 3 (lst (D.int .i64) x)) a_Nodes), D.sl 32 (lst (fun x => D.sl 3 (lst (D.int .i64) x)) a_Edges)], D.int .i64 left] [] = some (D.int .i64 (szP left a_Nodes a_Edges), []) := l_szProblem_call a_Labels a_Degree a_Nodes a_Edges left (l_szProblem_eq a_Labels a_Degree a_Nodes a_Edges left h0 h1 h2)
theorem szP_fit {ns es : List (List Int)} {left : Int} (hl : left ≤ 1048576) (h : ¬ szP left ns es < 0) : ns.length + tot ns + es.length + tot es ≤ 1048576 ∧ Short ns ∧ Short es ∧ szP left ns es ≤ left := by
  have t1 := tot_nonneg ns
  have t2 := tot_nonneg es
  have key : (ns.length : Int) + tot ns + es.length + tot es ≤ 1048576 ∧ szP left ns es ≤ left := by
    unfold szP at h ⊢
    rcases szN_cases left (ns.length + tot ns) with c | ⟨c, c'⟩
    · rw [c] at h; simp at h
    · rw [c, if_neg (by omega)] at h
      rw [c, if_neg (by omega)]
      rcases szN_cases (left - (ns.length + tot ns)) (es.length + tot es) with d | ⟨d, d'⟩
      · rw [d] at h; simp at h
      · omega
  exact ⟨key.1, tot_short (by omega), tot_short (by omega), key.2⟩
noncomputable def l_markProblem (a_Labels : Int) (a_Degree : Int) (a_Nodes : List (List Int)) (a_Edges : List (List Int)) (k : Int) : Option (Int × (List (List Int)) × (List (List Int))) :=
  ck (Short a_Nodes) <|
  ck (0 ≤ k ∧ k + tot a_Nodes < 1099511627776) <|
  ck (Short a_Edges) <|
  ck (0 ≤ (k + tot a_Nodes) ∧ (k + tot a_Nodes) + tot a_Edges < 1099511627776) <|
  some (((k + tot a_Nodes) + tot a_Edges), (marks k a_Nodes), (marks (k + tot a_Nodes) a_Edges))
/-- laws.markProblem -/
def k23 : SC :=
  .seq
    (.ops [
      ⟨(some 2), (Op.box 28 (Operand.tmp 0)), 0, none⟩,
      ⟨(some 4), (Op.assign (Operand.const (Value.int IntKind.i64 0))), 3, none⟩])
    (.seq
      (.ops [
        ⟨(some 5), (Op.fieldAddr 28 (Operand.tmp 2) 2), 0, none⟩,
        ⟨(some 6), (Op.load 22 (Operand.tmp 5)), 22, none⟩,
        ⟨(some 7), (Op.move (Operand.tmp 1)), 3, none⟩,
        ⟨(some 8), (Op.call { callee := (Callee.value (Operand.func 42)), args := #[(Operand.tmp 6), (Operand.tmp 7)], argTypes := #[22, 3] }), 3, none⟩,
        ⟨(some 1), (Op.assign (Operand.tmp 8)), 3, none⟩])
      (.seq
        (.ops [
          ⟨(some 9), (Op.fieldAddr 28 (Operand.tmp 2) 3), 0, none⟩,
          ⟨(some 10), (Op.load 22 (Operand.tmp 9)), 22, none⟩,
          ⟨(some 11), (Op.move (Operand.tmp 1)), 3, none⟩,
          ⟨(some 12), (Op.call { callee := (Callee.value (Operand.func 42)), args := #[(Operand.tmp 10), (Operand.tmp 11)], argTypes := #[22, 3] }), 3, none⟩,
          ⟨(some 1), (Op.assign (Operand.tmp 12)), 3, none⟩])
        (.seq
          (.ops [
            ⟨(some 13), (Op.move (Operand.tmp 1)), 3, none⟩,
            ⟨(some 4), (Op.assign (Operand.tmp 13)), 3, none⟩])
          .ret)))
theorem slim23 : Try.f23.body.map (slim lends) = some k23 := by kernel_rfl
theorem ok23 : fnOk Try.f23 2 = true := by kernel_rfl
theorem c23 {a l : List D} {r : D × List D} (h : wpD Y.env k23 (fin tys l.length [ResultVar.tmp 4] r) (entry a l)) (ha : a.length = 2) : Y.call 23 a l = some r :=
  call_slim (Y := Y) rfl Try.func23 (ha ▸ ok23) slim23 h
theorem l_markProblem_call (a_Labels : Int) (a_Degree : Int) (a_Nodes : List (List Int)) (a_Edges : List (List Int)) (k : Int) {r : Int × (List (List Int)) × (List (List Int))} (h : l_markProblem a_Labels a_Degree a_Nodes a_Edges k = some r) : Y.call 23 [D.agg [D.int .i64 a_Labels, D.int .i64 a_Degree, D.vw [100000] 0 0, D.vw [100001] 0 0], D.int .i64 k] [D.own 32 (lst (fun x => D.own 3 (lst (D.int .i64) x)) a_Nodes), D.own 32 (lst (fun x => D.own 3 (lst (D.int .i64) x)) a_Edges)] = some (D.int .i64 r.1, [D.own 32 (lst (fun x => D.own 3 (lst (D.int .i64) x)) r.2.1), D.own 32 (lst (fun x => D.own 3 (lst (D.int .i64) x)) r.2.2)]) := by
  refine c23 ?_ rfl
  unfold k23
  unfold l_markProblem at h
  obtain ⟨e1, h⟩ := ckS h
  obtain ⟨e2, h⟩ := ckS h
  have c3 := l_markIntSS_cl a_Nodes k e1 e2
  obtain ⟨e4, h⟩ := ckS h
  obtain ⟨e5, h⟩ := ckS h
  have c6 := l_markIntSS_cl a_Edges (k + tot a_Nodes) e4 e5
  obtain rfl := Option.some.inj h
  simp (maxDischargeDepth := 9) only [↓xpre, xpost, xlst, xcore, yset, rg0, ↓reduceIte, Nat.reduceEqDiff, Nat.reduceLT, Nat.reduceLeDiff, Nat.reduceAdd, Nat.reduceMul, Nat.reduceMod, Nat.reduceSub, Nat.reduceBEq, Int.reduceLE, Int.reduceLT, Int.reduceEq, Int.reduceSub, Int.reduceAdd, Int.reduceToNat, Int.reduceNeg, e1, e2.1, e2.2, c3, e4, e5.1, e5.2, c6] <;> (repeat' apply And.intro) <;> first | rfl | exact ⟨_, rfl⟩ | simp [lst]

theorem l_markProblem_eq (a b : Int) (n e : List (List Int)) (k : Int) (hn : Short n) (he : Short e) (hk : 0 ≤ k ∧ k + tot n + tot e < 1099511627776) : l_markProblem a b n e k = some (k + tot n + tot e, marks k n, marks (k + tot n) e) := by
  have h1 := tot_nonneg n
  have h2 := tot_nonneg e
  unfold l_markProblem
  rw [ckT hn, ckT (by omega), ckT he, ckT (by omega)]
theorem l_markProblem_cl (a_Labels : Int) (a_Degree : Int) (a_Nodes : List (List Int)) (a_Edges : List (List Int)) (k : Int) (h0 : Short a_Nodes) (h1 : Short a_Edges) (h2 : 0 ≤ k ∧ k + tot a_Nodes + tot a_Edges < 1099511627776) : Y.call 23 [D.agg [D.int .i64 a_Labels, D.int .i64 a_Degree, D.vw [100000] 0 0, D.vw [100001] 0 0], D.int .i64 k] [D.own 32 (lst (fun x => D.own 3 (lst (D.int .i64) x)) a_Nodes), D.own 32 (lst (fun x => D.own 3 (lst (D.int .i64) x)) a_Edges)] = some (D.int .i64 (k + tot a_Nodes + tot a_Edges), [D.own 32 (lst (fun x => D.own 3 (lst (D.int .i64) x)) (marks k a_Nodes)), D.own 32 (lst (fun x => D.own 3 (lst (D.int .i64) x)) (marks (k + tot a_Nodes) a_Edges))]) := l_markProblem_call a_Labels a_Degree a_Nodes a_Edges k (l_markProblem_eq a_Labels a_Degree a_Nodes a_Edges k h0 h1 h2)
theorem wide_of {l : List (List Int)} (h : Numss l) : Wide l := ⟨Nat.lt_of_le_of_lt h.1 (by decide), fun x hx => Nat.lt_of_le_of_lt (h.2 x hx).1 (by decide)⟩

end Go.Proofs.Ytjlphfbpaejicaa
