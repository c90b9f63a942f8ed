/- Refusals checked: laws. Conditions: none. -/
import Derived.Test.YtjlphfbpaejicaaL6
import Derived.Test.YtjlphfbpaejicaaChk
namespace Go.Proofs.Ytjlphfbpaejicaa
open Go Dv
set_option linter.unusedSimpArgs false
set_option linter.unusedVariables false
set_option maxRecDepth 100000
set_option maxHeartbeats 4000000

noncomputable def l_FnExactCheckPairRefusal (aP_Labels : Int) (aP_Degree : Int) (aP_Nodes : List (List Int)) (aP_Edges : List (List Int)) (aQuads : List (List Int)) : Option (Bool) :=
  ck (Wide aP_Nodes) <|
  ck (Wide aP_Edges) <|
  ck (0 ≤ (1048576 : Int) ∧ (1048576 : Int) ≤ 1048576) <|
  if (szP (1048576 : Int) aP_Nodes aP_Edges) < 0 then
    some true
  else
    ck (Wide aQuads) <|
    ck (0 ≤ (szP (1048576 : Int) aP_Nodes aP_Edges) ∧ (szP (1048576 : Int) aP_Nodes aP_Edges) ≤ 1048576) <|
    if (szN (szP (1048576 : Int) aP_Nodes aP_Edges) (aQuads.length + tot aQuads)) < 0 then
      some true
    else
      ck (Short aP_Nodes) <|
      ck (Short aP_Edges) <|
      ck (Short aQuads) <|
      (s_CheckPairRefusal aP_Labels aP_Degree aP_Nodes aP_Edges aQuads).bind fun r15_ =>
      (i_CheckPairRefusal aP_Labels aP_Degree aP_Nodes aP_Edges aQuads).bind fun r18_ =>
      if r18_.1 = true then
        if r15_.1 = true then
          if r18_.2 = true then
            if r15_.2 = true then
              if (sameP aP_Labels aP_Degree aP_Nodes aP_Edges aP_Labels aP_Degree aP_Nodes aP_Edges) = true then
                if (decide (aQuads = aQuads)) = true then
                  some true
                else
                  some false
              else
                some false
            else
              some false
          else
            if r15_.2 = true then
              some false
            else
              if (sameP aP_Labels aP_Degree aP_Nodes aP_Edges aP_Labels aP_Degree aP_Nodes aP_Edges) = true then
                if (decide (aQuads = aQuads)) = true then
                  some true
                else
                  some false
              else
                some false
        else
          some false
      else
        if r15_.1 = true then
          some false
        else
          if r18_.2 = true then
            if r15_.2 = true then
              if (sameP aP_Labels aP_Degree aP_Nodes aP_Edges aP_Labels aP_Degree aP_Nodes aP_Edges) = true then
                if (decide (aQuads = aQuads)) = true then
                  some true
                else
                  some false
              else
                some false
            else
              some false
          else
            if r15_.2 = true then
              some false
            else
              if (sameP aP_Labels aP_Degree aP_Nodes aP_Edges aP_Labels aP_Degree aP_Nodes aP_Edges) = true then
                if (decide (aQuads = aQuads)) = true then
                  some true
                else
                  some false
              else
                some false
/-- laws.FnExactCheckPairRefusal -/
def k6 : SC :=
  .seq
    (.ops [
      ⟨(some 2), (Op.box 24 (Operand.tmp 0)), 0, none⟩,
      ⟨(some 4), (Op.assign (Operand.const (Value.bool false))), 4, none⟩])
    (.seq
      (.ops [
        ⟨(some 5), (Op.assign (Operand.const (Value.int IntKind.i64 1048576))), 3, none⟩])
      (.seq
        (.ops [
          ⟨(some 12), (Op.load 24 (Operand.tmp 2)), 24, none⟩,
          ⟨(some 13), (Op.move (Operand.tmp 5)), 3, none⟩,
          ⟨(some 14), (Op.call { callee := (Callee.value (Operand.func 15)), args := #[(Operand.tmp 12), (Operand.tmp 13)], argTypes := #[24, 3] }), 3, none⟩,
          ⟨(some 5), (Op.assign (Operand.tmp 14)), 3, none⟩])
        (.seq
          (.seq
            (.ops [
              ⟨(some 15), (Op.move (Operand.tmp 5)), 3, none⟩,
              ⟨(some 16), (Op.binOp BinOp.lss 3 (Operand.tmp 15) (Operand.const (Value.int IntKind.i64 0)) 3), 4, none⟩])
            (.cond (Operand.tmp 16)
              (.seq
                (.ops [
                  ⟨(some 4), (Op.assign (Operand.const (Value.bool true))), 4, none⟩])
                .ret)
              .skip))
          (.seq
            (.ops [
              ⟨(some 17), (Op.move (Operand.tmp 1)), 22, none⟩,
              ⟨(some 18), (Op.move (Operand.tmp 5)), 3, none⟩,
              ⟨(some 19), (Op.call { callee := (Callee.value (Operand.func 26)), args := #[(Operand.tmp 17), (Operand.tmp 18)], argTypes := #[22, 3] }), 3, none⟩,
              ⟨(some 5), (Op.assign (Operand.tmp 19)), 3, none⟩])
            (.seq
              (.seq
                (.ops [
                  ⟨(some 20), (Op.move (Operand.tmp 5)), 3, none⟩,
                  ⟨(some 21), (Op.binOp BinOp.lss 3 (Operand.tmp 20) (Operand.const (Value.int IntKind.i64 0)) 3), 4, none⟩])
                (.cond (Operand.tmp 21)
                  (.seq
                    (.ops [
                      ⟨(some 4), (Op.assign (Operand.const (Value.bool true))), 4, none⟩])
                    .ret)
                  .skip))
              (.seq
                (.ops [
                  ⟨(some 23), (Op.load 24 (Operand.tmp 2)), 24, none⟩,
                  ⟨(some 24), (Op.call { callee := (Callee.value (Operand.func 17)), args := #[(Operand.tmp 23)], argTypes := #[24] }), 28, none⟩,
                  ⟨(some 25), (Op.move (Operand.tmp 1)), 22, none⟩,
                  ⟨(some 26), (Op.call { callee := (Callee.value (Operand.func 28)), args := #[(Operand.tmp 25)], argTypes := #[22] }), 22, none⟩,
                  ⟨(some 27), (Op.call { callee := (Callee.value (Operand.func 31)), args := #[(Operand.tmp 24), (Operand.tmp 26)], argTypes := #[28, 22] }), 26, none⟩,
                  ⟨(some 22), (Op.move (Operand.tmp 27)), 26, none⟩,
                  ⟨(some 28), (Op.extract (Operand.tmp 22) 0), 4, none⟩,
                  ⟨(some 29), (Op.extract (Operand.tmp 22) 1), 4, none⟩,
                  ⟨(some 6), (Op.assign (Operand.tmp 28)), 4, none⟩,
                  ⟨(some 7), (Op.assign (Operand.tmp 29)), 4, none⟩])
                (.seq
                  (.ops [
                    ⟨(some 30), (Op.load 24 (Operand.tmp 2)), 24, none⟩,
                    ⟨(some 31), (Op.call { callee := (Callee.value (Operand.func 17)), args := #[(Operand.tmp 30)], argTypes := #[24] }), 28, none⟩,
                    ⟨(some 8), (Op.alloc 28), 0, none⟩,
                    ⟨none, (Op.store 28 (Operand.tmp 8) (Operand.tmp 31)), 0, none⟩])
                  (.seq
                    (.ops [
                      ⟨(some 32), (Op.move (Operand.tmp 1)), 22, none⟩,
                      ⟨(some 33), (Op.call { callee := (Callee.value (Operand.func 28)), args := #[(Operand.tmp 32)], argTypes := #[22] }), 22, none⟩,
                      ⟨(some 9), (Op.assign (Operand.tmp 33)), 22, none⟩])
                    (.seq
                      (.ops [
                        ⟨(some 35), (Op.load 28 (Operand.tmp 8)), 28, none⟩,
                        ⟨(some 36), (Op.move (Operand.tmp 9)), 22, none⟩,
                        ⟨(some 37), (Op.call { callee := (Callee.value (Operand.func 32)), args := #[(Operand.tmp 35), (Operand.tmp 36)], argTypes := #[28, 22] }), 26, none⟩,
                        ⟨(some 34), (Op.move (Operand.tmp 37)), 26, none⟩,
                        ⟨(some 38), (Op.extract (Operand.tmp 34) 0), 4, none⟩,
                        ⟨(some 39), (Op.extract (Operand.tmp 34) 1), 4, none⟩,
                        ⟨(some 10), (Op.assign (Operand.tmp 38)), 4, none⟩,
                        ⟨(some 11), (Op.assign (Operand.tmp 39)), 4, none⟩])
                      (.seq
                        (.seq
                          (.ops [
                            ⟨(some 40), (Op.move (Operand.tmp 10)), 4, none⟩,
                            ⟨(some 41), (Op.move (Operand.tmp 6)), 4, none⟩,
                            ⟨(some 42), (Op.binOp BinOp.neq 4 (Operand.tmp 40) (Operand.tmp 41) 4), 4, none⟩,
                            ⟨(some 43), (Op.move (Operand.tmp 42)), 4, none⟩,
                            ⟨(some 44), (Op.move (Operand.tmp 11)), 4, (some (some 43, false))⟩,
                            ⟨(some 45), (Op.move (Operand.tmp 7)), 4, (some (some 43, false))⟩,
                            ⟨(some 46), (Op.binOp BinOp.neq 4 (Operand.tmp 44) (Operand.tmp 45) 4), 4, (some (some 43, false))⟩,
                            ⟨(some 47), (Op.pick (Operand.tmp 43) (Operand.const (Value.bool true)) (Operand.tmp 46)), 4, none⟩])
                          (.cond (Operand.tmp 47)
                            (.seq
                              (.ops [
                                ⟨(some 4), (Op.assign (Operand.const (Value.bool false))), 4, none⟩])
                              .ret)
                            .skip))
                        (.seq
                          (.seq
                            (.draws [
                              (⟨[48, 8, 8], [48, 49, 50, 51, 52], [48]⟩, ⟨(some 48), (Op.load 28 (Operand.tmp 8)), 28, none⟩),
                              (⟨[49, 2, 2], [48, 49, 50, 51, 52], [49]⟩, ⟨(some 49), (Op.load 24 (Operand.tmp 2)), 24, none⟩),
                              (⟨[50, 49, 2], [48, 49, 50, 51, 52], [50]⟩, ⟨(some 50), (Op.call { callee := (Callee.value (Operand.func 17)), args := #[(Operand.tmp 49)], argTypes := #[24] }), 28, none⟩),
                              (⟨[51, 48, 50, 8, 50], [48, 49, 50, 51, 52], [51]⟩, ⟨(some 51), (Op.call { callee := (Callee.value (Operand.func 19)), args := #[(Operand.tmp 48), (Operand.tmp 50)], argTypes := #[28, 28] }), 4, none⟩),
                              (⟨[52, 51, 51], [48, 49, 50, 51, 52], [52]⟩, ⟨(some 52), (Op.unOp UnOp.not 4 (Operand.tmp 51)), 4, none⟩)])
                            (.cond (Operand.tmp 52)
                              (.seq
                                (.ops [
                                  ⟨(some 4), (Op.assign (Operand.const (Value.bool false))), 4, none⟩])
                                .ret)
                              .skip))
                          (.seq
                            (.seq
                              (.ops [
                                ⟨(some 53), (Op.move (Operand.tmp 9)), 22, none⟩,
                                ⟨(some 54), (Op.move (Operand.tmp 1)), 22, none⟩,
                                ⟨(some 55), (Op.call { callee := (Callee.value (Operand.func 28)), args := #[(Operand.tmp 54)], argTypes := #[22] }), 22, none⟩,
                                ⟨(some 56), (Op.call { callee := (Callee.value (Operand.func 30)), args := #[(Operand.tmp 53), (Operand.tmp 55)], argTypes := #[22, 22] }), 4, none⟩,
                                ⟨(some 57), (Op.unOp UnOp.not 4 (Operand.tmp 56)), 4, none⟩])
                              (.cond (Operand.tmp 57)
                                (.seq
                                  (.ops [
                                    ⟨(some 4), (Op.assign (Operand.const (Value.bool false))), 4, none⟩])
                                  .ret)
                                .skip))
                            (.seq
                              (.ops [
                                ⟨(some 4), (Op.assign (Operand.const (Value.bool true))), 4, none⟩])
                              .ret)))))))))))))
theorem slim6 : Try.f6.body.map (slim lends) = some k6 := by kernel_rfl
theorem ok6 : fnOk Try.f6 2 = true := by kernel_rfl
theorem c6 {a l : List D} {r : D × List D} (h : wpD Y.env k6 (fin tys l.length [ResultVar.tmp 4] r) (entry a l)) (ha : a.length = 2) : Y.call 6 a l = some r :=
  call_slim (Y := Y) rfl Try.func6 (ha ▸ ok6) slim6 h
theorem l_FnExactCheckPairRefusal_call (aP_Labels : Int) (aP_Degree : Int) (aP_Nodes : List (List Int)) (aP_Edges : List (List Int)) (aQuads : List (List Int)) {r : Bool} (h : l_FnExactCheckPairRefusal aP_Labels aP_Degree aP_Nodes aP_Edges aQuads = some r) : Y.call 6 [D.agg [D.int .i64 aP_Labels, D.int .i64 aP_Degree, D.sl 32 (lst (fun x => D.sl 3 (lst (D.int .i64) x)) aP_Nodes), D.sl 32 (lst (fun x => D.sl 3 (lst (D.int .i64) x)) aP_Edges)], D.sl 32 (lst (fun x => D.sl 3 (lst (D.int .i64) x)) aQuads)] [] = some (D.bool r, []) := by
  refine c6 ?_ rfl
  unfold k6
  unfold l_FnExactCheckPairRefusal at h
  obtain ⟨e1, h⟩ := ckS h
  obtain ⟨e2, h⟩ := ckS h
  obtain ⟨e3, h⟩ := ckS h
  have c4 := l_szProblem_cl aP_Labels aP_Degree aP_Nodes aP_Edges (1048576 : Int) e1 e2 e3
  by_cases e5 : (szP (1048576 : Int) aP_Nodes aP_Edges) < 0
  · rw [if_pos e5] at h
    obtain rfl := Option.some.inj h
    simp (maxDischargeDepth := 9) only [↓xpre, xpost, xlst, xcore, yset, rg0, ↓reduceIte, Nat.reduceEqDiff, Nat.reduceLT, Nat.reduceLeDiff, Nat.reduceAdd, Nat.reduceMul, Nat.reduceMod, Nat.reduceSub, Nat.reduceBEq, Int.reduceLE, Int.reduceLT, Int.reduceEq, Int.reduceSub, Int.reduceAdd, Int.reduceToNat, Int.reduceNeg, e1, e2, e3.1, e3.2, c4, e5] <;> (repeat' apply And.intro) <;> first | rfl | exact ⟨_, rfl⟩ | simp [lst]
  · rw [if_neg e5] at h
    obtain ⟨e6, h⟩ := ckS h
    obtain ⟨e7, h⟩ := ckS h
    have c8 := l_szIntSS_cl aQuads (szP (1048576 : Int) aP_Nodes aP_Edges) e6 e7
    by_cases e9 : (szN (szP (1048576 : Int) aP_Nodes aP_Edges) (aQuads.length + tot aQuads)) < 0
    · rw [if_pos e9] at h
      obtain rfl := Option.some.inj h
      simp (maxDischargeDepth := 9) only [↓xpre, xpost, xlst, xcore, yset, rg0, ↓reduceIte, Nat.reduceEqDiff, Nat.reduceLT, Nat.reduceLeDiff, Nat.reduceAdd, Nat.reduceMul, Nat.reduceMod, Nat.reduceSub, Nat.reduceBEq, Int.reduceLE, Int.reduceLT, Int.reduceEq, Int.reduceSub, Int.reduceAdd, Int.reduceToNat, Int.reduceNeg, e1, e2, e3.1, e3.2, c4, e5, e6, e7.1, e7.2, c8, e9] <;> (repeat' apply And.intro) <;> first | rfl | exact ⟨_, rfl⟩ | simp [lst]
    · rw [if_neg e9] at h
      obtain ⟨e10, h⟩ := ckS h
      obtain ⟨e11, h⟩ := ckS h
      have c12 := l_toProblem_cl aP_Labels aP_Degree aP_Nodes aP_Edges e10 e11
      obtain ⟨e13, h⟩ := ckS h
      have c14 := l_toIntSS_cl aQuads e13
      obtain ⟨r15_, hl15, h⟩ := bindS h
      try dsimp only at h
      have c15 := s_CheckPairRefusal_call aP_Labels aP_Degree aP_Nodes aP_Edges aQuads hl15
      have c16 := l_toProblem_cl aP_Labels aP_Degree aP_Nodes aP_Edges e10 e11
      have c17 := l_toIntSS_cl aQuads e13
      obtain ⟨r18_, hl18, h⟩ := bindS h
      try dsimp only at h
      have c18 := i_CheckPairRefusal_call aP_Labels aP_Degree aP_Nodes aP_Edges aQuads hl18
      by_cases e19 : r18_.1 = true
      · rw [if_pos e19] at h
        by_cases e20 : r15_.1 = true
        · rw [if_pos e20] at h
          by_cases e21 : r18_.2 = true
          · rw [if_pos e21] at h
            by_cases e22 : r15_.2 = true
            · rw [if_pos e22] at h
              have c23 := l_toProblem_cl aP_Labels aP_Degree aP_Nodes aP_Edges e10 e11
              have c24 := l_eqProblem_cl aP_Labels aP_Degree aP_Nodes aP_Edges aP_Labels aP_Degree aP_Nodes aP_Edges e10 e11
              by_cases e25 : (sameP aP_Labels aP_Degree aP_Nodes aP_Edges aP_Labels aP_Degree aP_Nodes aP_Edges) = true
              · rw [if_pos e25] at h
                have c26 := l_toIntSS_cl aQuads e13
                have c27 := l_eqIntSS_cl aQuads aQuads e13
                by_cases e28 : (decide (aQuads = aQuads)) = true
                · rw [if_pos e28] at h
                  obtain rfl := Option.some.inj h
                  simp (maxDischargeDepth := 9) only [↓xpre, xpost, xlst, xcore, yset, rg0, ↓reduceIte, Nat.reduceEqDiff, Nat.reduceLT, Nat.reduceLeDiff, Nat.reduceAdd, Nat.reduceMul, Nat.reduceMod, Nat.reduceSub, Nat.reduceBEq, Int.reduceLE, Int.reduceLT, Int.reduceEq, Int.reduceSub, Int.reduceAdd, Int.reduceToNat, Int.reduceNeg, e1, e2, e3.1, e3.2, c4, e5, e6, e7.1, e7.2, c8, e9, e10, e11, c12, e13, c14, c15, c16, c17, c18, e19, e20, e21, e22, c23, c24, e25, c26, c27, e28] <;> (repeat' apply And.intro) <;> first | rfl | exact ⟨_, rfl⟩ | simp [lst]
                · exact absurd (decide_eq_true rfl) e28
              · rw [if_neg e25] at h
                have e25f : (sameP aP_Labels aP_Degree aP_Nodes aP_Edges aP_Labels aP_Degree aP_Nodes aP_Edges) = false := Bool.eq_false_iff.mpr e25
                obtain rfl := Option.some.inj h
                simp (maxDischargeDepth := 9) only [↓xpre, xpost, xlst, xcore, yset, rg0, ↓reduceIte, Nat.reduceEqDiff, Nat.reduceLT, Nat.reduceLeDiff, Nat.reduceAdd, Nat.reduceMul, Nat.reduceMod, Nat.reduceSub, Nat.reduceBEq, Int.reduceLE, Int.reduceLT, Int.reduceEq, Int.reduceSub, Int.reduceAdd, Int.reduceToNat, Int.reduceNeg, e1, e2, e3.1, e3.2, c4, e5, e6, e7.1, e7.2, c8, e9, e10, e11, c12, e13, c14, c15, c16, c17, c18, e19, e20, e21, e22, c23, c24, e25f] <;> (repeat' apply And.intro) <;> first | rfl | exact ⟨_, rfl⟩ | simp [lst]
            · rw [if_neg e22] at h
              have e22f : r15_.2 = false := Bool.eq_false_iff.mpr e22
              obtain rfl := Option.some.inj h
              simp (maxDischargeDepth := 9) only [↓xpre, xpost, xlst, xcore, yset, rg0, ↓reduceIte, Nat.reduceEqDiff, Nat.reduceLT, Nat.reduceLeDiff, Nat.reduceAdd, Nat.reduceMul, Nat.reduceMod, Nat.reduceSub, Nat.reduceBEq, Int.reduceLE, Int.reduceLT, Int.reduceEq, Int.reduceSub, Int.reduceAdd, Int.reduceToNat, Int.reduceNeg, e1, e2, e3.1, e3.2, c4, e5, e6, e7.1, e7.2, c8, e9, e10, e11, c12, e13, c14, c15, c16, c17, c18, e19, e20, e21, e22f] <;> (repeat' apply And.intro) <;> first | rfl | exact ⟨_, rfl⟩ | simp [lst]
          · rw [if_neg e21] at h
            have e21f : r18_.2 = false := Bool.eq_false_iff.mpr e21
            by_cases e22 : r15_.2 = true
            · rw [if_pos e22] at h
              obtain rfl := Option.some.inj h
              simp (maxDischargeDepth := 9) only [↓xpre, xpost, xlst, xcore, yset, rg0, ↓reduceIte, Nat.reduceEqDiff, Nat.reduceLT, Nat.reduceLeDiff, Nat.reduceAdd, Nat.reduceMul, Nat.reduceMod, Nat.reduceSub, Nat.reduceBEq, Int.reduceLE, Int.reduceLT, Int.reduceEq, Int.reduceSub, Int.reduceAdd, Int.reduceToNat, Int.reduceNeg, e1, e2, e3.1, e3.2, c4, e5, e6, e7.1, e7.2, c8, e9, e10, e11, c12, e13, c14, c15, c16, c17, c18, e19, e20, e21f, e22] <;> (repeat' apply And.intro) <;> first | rfl | exact ⟨_, rfl⟩ | simp [lst]
            · rw [if_neg e22] at h
              have e22f : r15_.2 = false := Bool.eq_false_iff.mpr e22
              have c23 := l_toProblem_cl aP_Labels aP_Degree aP_Nodes aP_Edges e10 e11
              have c24 := l_eqProblem_cl aP_Labels aP_Degree aP_Nodes aP_Edges aP_Labels aP_Degree aP_Nodes aP_Edges e10 e11
              by_cases e25 : (sameP aP_Labels aP_Degree aP_Nodes aP_Edges aP_Labels aP_Degree aP_Nodes aP_Edges) = true
              · rw [if_pos e25] at h
                have c26 := l_toIntSS_cl aQuads e13
                have c27 := l_eqIntSS_cl aQuads aQuads e13
                by_cases e28 : (decide (aQuads = aQuads)) = true
                · rw [if_pos e28] at h
                  obtain rfl := Option.some.inj h
                  simp (maxDischargeDepth := 9) only [↓xpre, xpost, xlst, xcore, yset, rg0, ↓reduceIte, Nat.reduceEqDiff, Nat.reduceLT, Nat.reduceLeDiff, Nat.reduceAdd, Nat.reduceMul, Nat.reduceMod, Nat.reduceSub, Nat.reduceBEq, Int.reduceLE, Int.reduceLT, Int.reduceEq, Int.reduceSub, Int.reduceAdd, Int.reduceToNat, Int.reduceNeg, e1, e2, e3.1, e3.2, c4, e5, e6, e7.1, e7.2, c8, e9, e10, e11, c12, e13, c14, c15, c16, c17, c18, e19, e20, e21f, e22f, c23, c24, e25, c26, c27, e28] <;> (repeat' apply And.intro) <;> first | rfl | exact ⟨_, rfl⟩ | simp [lst]
                · exact absurd (decide_eq_true rfl) e28
              · rw [if_neg e25] at h
                have e25f : (sameP aP_Labels aP_Degree aP_Nodes aP_Edges aP_Labels aP_Degree aP_Nodes aP_Edges) = false := Bool.eq_false_iff.mpr e25
                obtain rfl := Option.some.inj h
                simp (maxDischargeDepth := 9) only [↓xpre, xpost, xlst, xcore, yset, rg0, ↓reduceIte, Nat.reduceEqDiff, Nat.reduceLT, Nat.reduceLeDiff, Nat.reduceAdd, Nat.reduceMul, Nat.reduceMod, Nat.reduceSub, Nat.reduceBEq, Int.reduceLE, Int.reduceLT, Int.reduceEq, Int.reduceSub, Int.reduceAdd, Int.reduceToNat, Int.reduceNeg, e1, e2, e3.1, e3.2, c4, e5, e6, e7.1, e7.2, c8, e9, e10, e11, c12, e13, c14, c15, c16, c17, c18, e19, e20, e21f, e22f, c23, c24, e25f] <;> (repeat' apply And.intro) <;> first | rfl | exact ⟨_, rfl⟩ | simp [lst]
        · rw [if_neg e20] at h
          have e20f : r15_.1 = false := Bool.eq_false_iff.mpr e20
          obtain rfl := Option.some.inj h
          simp (maxDischargeDepth := 9) only [↓xpre, xpost, xlst, xcore, yset, rg0, ↓reduceIte, Nat.reduceEqDiff, Nat.reduceLT, Nat.reduceLeDiff, Nat.reduceAdd, Nat.reduceMul, Nat.reduceMod, Nat.reduceSub, Nat.reduceBEq, Int.reduceLE, Int.reduceLT, Int.reduceEq, Int.reduceSub, Int.reduceAdd, Int.reduceToNat, Int.reduceNeg, e1, e2, e3.1, e3.2, c4, e5, e6, e7.1, e7.2, c8, e9, e10, e11, c12, e13, c14, c15, c16, c17, c18, e19, e20f] <;> (repeat' apply And.intro) <;> first | rfl | exact ⟨_, rfl⟩ | simp [lst]
      · rw [if_neg e19] at h
        have e19f : r18_.1 = false := Bool.eq_false_iff.mpr e19
        by_cases e20 : r15_.1 = true
        · rw [if_pos e20] at h
          obtain rfl := Option.some.inj h
          simp (maxDischargeDepth := 9) only [↓xpre, xpost, xlst, xcore, yset, rg0, ↓reduceIte, Nat.reduceEqDiff, Nat.reduceLT, Nat.reduceLeDiff, Nat.reduceAdd, Nat.reduceMul, Nat.reduceMod, Nat.reduceSub, Nat.reduceBEq, Int.reduceLE, Int.reduceLT, Int.reduceEq, Int.reduceSub, Int.reduceAdd, Int.reduceToNat, Int.reduceNeg, e1, e2, e3.1, e3.2, c4, e5, e6, e7.1, e7.2, c8, e9, e10, e11, c12, e13, c14, c15, c16, c17, c18, e19f, e20] <;> (repeat' apply And.intro) <;> first | rfl | exact ⟨_, rfl⟩ | simp [lst]
        · rw [if_neg e20] at h
          have e20f : r15_.1 = false := Bool.eq_false_iff.mpr e20
          by_cases e21 : r18_.2 = true
          · rw [if_pos e21] at h
            by_cases e22 : r15_.2 = true
            · rw [if_pos e22] at h
              have c23 := l_toProblem_cl aP_Labels aP_Degree aP_Nodes aP_Edges e10 e11
              have c24 := l_eqProblem_cl aP_Labels aP_Degree aP_Nodes aP_Edges aP_Labels aP_Degree aP_Nodes aP_Edges e10 e11
              by_cases e25 : (sameP aP_Labels aP_Degree aP_Nodes aP_Edges aP_Labels aP_Degree aP_Nodes aP_Edges) = true
              · rw [if_pos e25] at h
                have c26 := l_toIntSS_cl aQuads e13
                have c27 := l_eqIntSS_cl aQuads aQuads e13
                by_cases e28 : (decide (aQuads = aQuads)) = true
                · rw [if_pos e28] at h
                  obtain rfl := Option.some.inj h
                  simp (maxDischargeDepth := 9) only [↓xpre, xpost, xlst, xcore, yset, rg0, ↓reduceIte, Nat.reduceEqDiff, Nat.reduceLT, Nat.reduceLeDiff, Nat.reduceAdd, Nat.reduceMul, Nat.reduceMod, Nat.reduceSub, Nat.reduceBEq, Int.reduceLE, Int.reduceLT, Int.reduceEq, Int.reduceSub, Int.reduceAdd, Int.reduceToNat, Int.reduceNeg, e1, e2, e3.1, e3.2, c4, e5, e6, e7.1, e7.2, c8, e9, e10, e11, c12, e13, c14, c15, c16, c17, c18, e19f, e20f, e21, e22, c23, c24, e25, c26, c27, e28] <;> (repeat' apply And.intro) <;> first | rfl | exact ⟨_, rfl⟩ | simp [lst]
                · exact absurd (decide_eq_true rfl) e28
              · rw [if_neg e25] at h
                have e25f : (sameP aP_Labels aP_Degree aP_Nodes aP_Edges aP_Labels aP_Degree aP_Nodes aP_Edges) = false := Bool.eq_false_iff.mpr e25
                obtain rfl := Option.some.inj h
                simp (maxDischargeDepth := 9) only [↓xpre, xpost, xlst, xcore, yset, rg0, ↓reduceIte, Nat.reduceEqDiff, Nat.reduceLT, Nat.reduceLeDiff, Nat.reduceAdd, Nat.reduceMul, Nat.reduceMod, Nat.reduceSub, Nat.reduceBEq, Int.reduceLE, Int.reduceLT, Int.reduceEq, Int.reduceSub, Int.reduceAdd, Int.reduceToNat, Int.reduceNeg, e1, e2, e3.1, e3.2, c4, e5, e6, e7.1, e7.2, c8, e9, e10, e11, c12, e13, c14, c15, c16, c17, c18, e19f, e20f, e21, e22, c23, c24, e25f] <;> (repeat' apply And.intro) <;> first | rfl | exact ⟨_, rfl⟩ | simp [lst]
            · rw [if_neg e22] at h
              have e22f : r15_.2 = false := Bool.eq_false_iff.mpr e22
              obtain rfl := Option.some.inj h
              simp (maxDischargeDepth := 9) only [↓xpre, xpost, xlst, xcore, yset, rg0, ↓reduceIte, Nat.reduceEqDiff, Nat.reduceLT, Nat.reduceLeDiff, Nat.reduceAdd, Nat.reduceMul, Nat.reduceMod, Nat.reduceSub, Nat.reduceBEq, Int.reduceLE, Int.reduceLT, Int.reduceEq, Int.reduceSub, Int.reduceAdd, Int.reduceToNat, Int.reduceNeg, e1, e2, e3.1, e3.2, c4, e5, e6, e7.1, e7.2, c8, e9, e10, e11, c12, e13, c14, c15, c16, c17, c18, e19f, e20f, e21, e22f] <;> (repeat' apply And.intro) <;> first | rfl | exact ⟨_, rfl⟩ | simp [lst]
          · rw [if_neg e21] at h
            have e21f : r18_.2 = false := Bool.eq_false_iff.mpr e21
            by_cases e22 : r15_.2 = true
            · rw [if_pos e22] at h
              obtain rfl := Option.some.inj h
              simp (maxDischargeDepth := 9) only [↓xpre, xpost, xlst, xcore, yset, rg0, ↓reduceIte, Nat.reduceEqDiff, Nat.reduceLT, Nat.reduceLeDiff, Nat.reduceAdd, Nat.reduceMul, Nat.reduceMod, Nat.reduceSub, Nat.reduceBEq, Int.reduceLE, Int.reduceLT, Int.reduceEq, Int.reduceSub, Int.reduceAdd, Int.reduceToNat, Int.reduceNeg, e1, e2, e3.1, e3.2, c4, e5, e6, e7.1, e7.2, c8, e9, e10, e11, c12, e13, c14, c15, c16, c17, c18, e19f, e20f, e21f, e22] <;> (repeat' apply And.intro) <;> first | rfl | exact ⟨_, rfl⟩ | simp [lst]
            · rw [if_neg e22] at h
              have e22f : r15_.2 = false := Bool.eq_false_iff.mpr e22
              have c23 := l_toProblem_cl aP_Labels aP_Degree aP_Nodes aP_Edges e10 e11
              have c24 := l_eqProblem_cl aP_Labels aP_Degree aP_Nodes aP_Edges aP_Labels aP_Degree aP_Nodes aP_Edges e10 e11
              by_cases e25 : (sameP aP_Labels aP_Degree aP_Nodes aP_Edges aP_Labels aP_Degree aP_Nodes aP_Edges) = true
              · rw [if_pos e25] at h
                have c26 := l_toIntSS_cl aQuads e13
                have c27 := l_eqIntSS_cl aQuads aQuads e13
                by_cases e28 : (decide (aQuads = aQuads)) = true
                · rw [if_pos e28] at h
                  obtain rfl := Option.some.inj h
                  simp (maxDischargeDepth := 9) only [↓xpre, xpost, xlst, xcore, yset, rg0, ↓reduceIte, Nat.reduceEqDiff, Nat.reduceLT, Nat.reduceLeDiff, Nat.reduceAdd, Nat.reduceMul, Nat.reduceMod, Nat.reduceSub, Nat.reduceBEq, Int.reduceLE, Int.reduceLT, Int.reduceEq, Int.reduceSub, Int.reduceAdd, Int.reduceToNat, Int.reduceNeg, e1, e2, e3.1, e3.2, c4, e5, e6, e7.1, e7.2, c8, e9, e10, e11, c12, e13, c14, c15, c16, c17, c18, e19f, e20f, e21f, e22f, c23, c24, e25, c26, c27, e28] <;> (repeat' apply And.intro) <;> first | rfl | exact ⟨_, rfl⟩ | simp [lst]
                · exact absurd (decide_eq_true rfl) e28
              · rw [if_neg e25] at h
                have e25f : (sameP aP_Labels aP_Degree aP_Nodes aP_Edges aP_Labels aP_Degree aP_Nodes aP_Edges) = false := Bool.eq_false_iff.mpr e25
                obtain rfl := Option.some.inj h
                simp (maxDischargeDepth := 9) only [↓xpre, xpost, xlst, xcore, yset, rg0, ↓reduceIte, Nat.reduceEqDiff, Nat.reduceLT, Nat.reduceLeDiff, Nat.reduceAdd, Nat.reduceMul, Nat.reduceMod, Nat.reduceSub, Nat.reduceBEq, Int.reduceLE, Int.reduceLT, Int.reduceEq, Int.reduceSub, Int.reduceAdd, Int.reduceToNat, Int.reduceNeg, e1, e2, e3.1, e3.2, c4, e5, e6, e7.1, e7.2, c8, e9, e10, e11, c12, e13, c14, c15, c16, c17, c18, e19f, e20f, e21f, e22f, c23, c24, e25f] <;> (repeat' apply And.intro) <;> first | rfl | exact ⟨_, rfl⟩ | simp [lst]

theorem chkp_law (a d : Int) (ns es qs : List (List Int)) (hn : Wide ns) (he : Wide es) (hq : Wide qs) : l_FnExactCheckPairRefusal a d ns es qs = some true := by
  unfold l_FnExactCheckPairRefusal
  rw [ckT hn, ckT he, ckT (by omega)]
  by_cases q1 : szP 1048576 ns es < 0
  · rw [if_pos q1]
  · obtain ⟨f1, sn, se, f2⟩ := szP_fit (by omega) q1
    rw [if_neg q1, ckT hq, ckT (by omega)]
    by_cases q2 : szN (szP 1048576 ns es) (qs.length + tot qs) < 0
    · rw [if_pos q2]
    · obtain ⟨sq, _, _⟩ := sz_fit (by omega) q2
      obtain ⟨x, y, hS, hI⟩ := chkp_both a d ns es qs sn se sq
      rw [if_neg q2, ckT sn, ckT se, ckT sq]
      simp only [hS, hI, Option.bind_some, decide_true, sameP_refl, if_true]
      cases x <;> cases y <;> rfl
theorem chkp_all (ds : List D) (h : Args tys [24, 22] ds) : Y.call 6 ds [] = some (.bool true, []) := by
  rcases ds with _ | ⟨x, _ | ⟨y, _ | ⟨_, _⟩⟩⟩
  · cases h
  · exact h.2.elim
  · obtain ⟨a, d, ns, es, rfl, _, _, hn, he⟩ := argProblem ty24 ty3 ty22 ty32 ty3 h.1
    obtain ⟨qs, rfl, hq⟩ := argIntss ty22 ty32 ty3 h.2.1
    exact l_FnExactCheckPairRefusal_call a d ns es qs (chkp_law a d ns es qs (wide_of hn) (wide_of he) (wide_of hq))
  · exact h.2.2.elim

end Go.Proofs.Ytjlphfbpaejicaa
