/- Diagrams: laws. Conditions: none. -/
import Derived.Test.YtjlphfbpaejicaaL6
import Derived.Test.YtjlphfbpaejicaaDia
namespace Go.Proofs.Ytjlphfbpaejicaa
open Go Dv
set_option linter.unusedSimpArgs false
set_option linter.unusedVariables false
set_option maxRecDepth 100000
set_option maxHeartbeats 4000000

noncomputable def l_FnExactEdgeDiagram (t0_Labels : Int) (t0_Degree : Int) (t0_Nodes : List (List Int)) (t0_Edges : List (List Int)) : Option (Bool) :=
  ck (Wide t0_Nodes) <|
  ck (Wide t0_Edges) <|
  ck (0 ≤ (1048576 : Int) ∧ (1048576 : Int) ≤ 1048576) <|
  if (szP (1048576 : Int) t0_Nodes t0_Edges) < 0 then
    some true
  else
    ck (Short t0_Nodes) <|
    ck (Short t0_Edges) <|
    (s_EdgeDiagram t0_Labels t0_Degree t0_Nodes t0_Edges).bind fun r9_ =>
    (i_EdgeDiagram t0_Labels t0_Degree t0_Nodes t0_Edges).bind fun r11_ =>
    ck (Short r11_.1) <|
    if (decide (r11_.1 = r9_.1)) = true then
      if r11_.2 = true then
        if r9_.2 = true then
          if (sameP t0_Labels t0_Degree t0_Nodes t0_Edges t0_Labels t0_Degree t0_Nodes t0_Edges) = true then
            ck (0 ≤ (1 : Int) ∧ (1 : Int) + tot t0_Nodes + tot t0_Edges < 1099511627776) <|
            if ((1 : Int) + tot t0_Nodes + tot t0_Edges) < 0 then
              some false
            else
              ck (0 ≤ (1 : Int) ∧ (1 : Int) + tot r11_.1 < 1099511627776) <|
              (l_heldIntSS (marks (1 : Int) r11_.1) (1 : Int)).bind fun r26_ =>
              if r26_ < 0 then
                some false
              else
                if r26_ = ((1 : Int) + tot r11_.1) then
                  some true
                else
                  some false
          else
            some false
        else
          some false
      else
        if r9_.2 = true then
          some false
        else
          if (sameP t0_Labels t0_Degree t0_Nodes t0_Edges t0_Labels t0_Degree t0_Nodes t0_Edges) = true then
            ck (0 ≤ (1 : Int) ∧ (1 : Int) + tot t0_Nodes + tot t0_Edges < 1099511627776) <|
            if ((1 : Int) + tot t0_Nodes + tot t0_Edges) < 0 then
              some false
            else
              ck (0 ≤ (1 : Int) ∧ (1 : Int) + tot r11_.1 < 1099511627776) <|
              (l_heldIntSS (marks (1 : Int) r11_.1) (1 : Int)).bind fun r26_ =>
              if r26_ < 0 then
                some false
              else
                if r26_ = ((1 : Int) + tot r11_.1) then
                  some true
                else
                  some false
          else
            some false
    else
      some false
/-- laws.FnExactEdgeDiagram -/
def k10 : SC :=
  .seq
    (.ops [
      ⟨(some 1), (Op.box 24 (Operand.tmp 0)), 0, none⟩,
      ⟨(some 2), (Op.assign (Operand.const (Value.bool false))), 4, none⟩])
    (.seq
      (.ops [
        ⟨(some 3), (Op.assign (Operand.const (Value.int IntKind.i64 1048576))), 3, none⟩])
      (.seq
        (.ops [
          ⟨(some 14), (Op.load 24 (Operand.tmp 1)), 24, none⟩,
          ⟨(some 15), (Op.move (Operand.tmp 3)), 3, none⟩,
          ⟨(some 16), (Op.call { callee := (Callee.value (Operand.func 15)), args := #[(Operand.tmp 14), (Operand.tmp 15)], argTypes := #[24, 3] }), 3, none⟩,
          ⟨(some 3), (Op.assign (Operand.tmp 16)), 3, none⟩])
        (.seq
          (.seq
            (.ops [
              ⟨(some 17), (Op.move (Operand.tmp 3)), 3, none⟩,
              ⟨(some 18), (Op.binOp BinOp.lss 3 (Operand.tmp 17) (Operand.const (Value.int IntKind.i64 0)) 3), 4, none⟩])
            (.cond (Operand.tmp 18)
              (.seq
                (.ops [
                  ⟨(some 2), (Op.assign (Operand.const (Value.bool true))), 4, none⟩])
                .ret)
              .skip))
          (.seq
            (.ops [
              ⟨(some 20), (Op.load 24 (Operand.tmp 1)), 24, none⟩,
              ⟨(some 21), (Op.call { callee := (Callee.value (Operand.func 17)), args := #[(Operand.tmp 20)], argTypes := #[24] }), 28, none⟩,
              ⟨(some 22), (Op.call { callee := (Callee.value (Operand.func 40)), args := #[(Operand.tmp 21)], argTypes := #[28] }), 48, none⟩,
              ⟨(some 19), (Op.move (Operand.tmp 22)), 48, none⟩,
              ⟨(some 23), (Op.extract (Operand.tmp 19) 0), 22, none⟩,
              ⟨(some 24), (Op.extract (Operand.tmp 19) 1), 4, none⟩,
              ⟨(some 4), (Op.assign (Operand.tmp 23)), 22, none⟩,
              ⟨(some 5), (Op.assign (Operand.tmp 24)), 4, none⟩])
            (.seq
              (.ops [
                ⟨(some 25), (Op.load 24 (Operand.tmp 1)), 24, none⟩,
                ⟨(some 26), (Op.call { callee := (Callee.value (Operand.func 17)), args := #[(Operand.tmp 25)], argTypes := #[24] }), 28, none⟩,
                ⟨(some 6), (Op.alloc 28), 0, none⟩,
                ⟨none, (Op.store 28 (Operand.tmp 6) (Operand.tmp 26)), 0, none⟩])
              (.seq
                (.ops [
                  ⟨(some 28), (Op.load 28 (Operand.tmp 6)), 28, none⟩,
                  ⟨(some 29), (Op.call { callee := (Callee.value (Operand.func 41)), args := #[(Operand.tmp 28)], argTypes := #[28] }), 48, none⟩,
                  ⟨(some 27), (Op.move (Operand.tmp 29)), 48, none⟩,
                  ⟨(some 30), (Op.extract (Operand.tmp 27) 0), 22, none⟩,
                  ⟨(some 31), (Op.extract (Operand.tmp 27) 1), 4, none⟩,
                  ⟨(some 7), (Op.assign (Operand.tmp 30)), 22, none⟩,
                  ⟨(some 8), (Op.assign (Operand.tmp 31)), 4, none⟩])
                (.seq
                  (.seq
                    (.ops [
                      ⟨(some 32), (Op.move (Operand.tmp 7)), 22, none⟩,
                      ⟨(some 33), (Op.move (Operand.tmp 4)), 22, none⟩,
                      ⟨(some 34), (Op.call { callee := (Callee.value (Operand.func 30)), args := #[(Operand.tmp 32), (Operand.tmp 33)], argTypes := #[22, 22] }), 4, none⟩,
                      ⟨(some 35), (Op.unOp UnOp.not 4 (Operand.tmp 34)), 4, none⟩,
                      ⟨(some 36), (Op.move (Operand.tmp 35)), 4, none⟩,
                      ⟨(some 37), (Op.move (Operand.tmp 8)), 4, (some (some 36, false))⟩,
                      ⟨(some 38), (Op.move (Operand.tmp 5)), 4, (some (some 36, false))⟩,
                      ⟨(some 39), (Op.binOp BinOp.neq 4 (Operand.tmp 37) (Operand.tmp 38) 4), 4, (some (some 36, false))⟩,
                      ⟨(some 40), (Op.pick (Operand.tmp 36) (Operand.const (Value.bool true)) (Operand.tmp 39)), 4, none⟩])
                    (.cond (Operand.tmp 40)
                      (.seq
                        (.ops [
                          ⟨(some 2), (Op.assign (Operand.const (Value.bool false))), 4, none⟩])
                        .ret)
                      .skip))
                  (.seq
                    (.seq
                      (.draws [
                        (⟨[41, 6, 6], [41, 42, 43, 44, 45], [41]⟩, ⟨(some 41), (Op.load 28 (Operand.tmp 6)), 28, none⟩),
                        (⟨[42, 1, 1], [41, 42, 43, 44, 45], [42]⟩, ⟨(some 42), (Op.load 24 (Operand.tmp 1)), 24, none⟩),
                        (⟨[43, 42, 1], [41, 42, 43, 44, 45], [43]⟩, ⟨(some 43), (Op.call { callee := (Callee.value (Operand.func 17)), args := #[(Operand.tmp 42)], argTypes := #[24] }), 28, none⟩),
                        (⟨[44, 41, 43, 6, 43], [41, 42, 43, 44, 45], [44]⟩, ⟨(some 44), (Op.call { callee := (Callee.value (Operand.func 19)), args := #[(Operand.tmp 41), (Operand.tmp 43)], argTypes := #[28, 28] }), 4, none⟩),
                        (⟨[45, 44, 44], [41, 42, 43, 44, 45], [45]⟩, ⟨(some 45), (Op.unOp UnOp.not 4 (Operand.tmp 44)), 4, none⟩)])
                      (.cond (Operand.tmp 45)
                        (.seq
                          (.ops [
                            ⟨(some 2), (Op.assign (Operand.const (Value.bool false))), 4, none⟩])
                          .ret)
                        .skip))
                    (.seq
                      (.ops [
                        ⟨(some 9), (Op.assign (Operand.const (Value.int IntKind.i64 1))), 3, none⟩])
                      (.seq
                        (.ops [
                          ⟨(some 46), (Op.load 28 (Operand.tmp 6)), 28, none⟩,
                          ⟨(some 47), (Op.move (Operand.tmp 9)), 3, none⟩,
                          ⟨(some 48), (Op.call { callee := (Callee.value (Operand.func 23)), args := #[(Operand.tmp 46), (Operand.tmp 47)], argTypes := #[28, 3] }), 3, none⟩,
                          ⟨(some 9), (Op.assign (Operand.tmp 48)), 3, none⟩])
                        (.seq
                          (.seq
                            (.ops [
                              ⟨(some 49), (Op.move (Operand.tmp 9)), 3, none⟩,
                              ⟨(some 50), (Op.binOp BinOp.lss 3 (Operand.tmp 49) (Operand.const (Value.int IntKind.i64 0)) 3), 4, none⟩,
                              ⟨(some 51), (Op.move (Operand.tmp 50)), 4, none⟩,
                              ⟨(some 52), (Op.move (Operand.tmp 7)), 22, (some (some 51, false))⟩,
                              ⟨(some 53), (Op.move (Operand.tmp 4)), 22, (some (some 51, false))⟩,
                              ⟨(some 54), (Op.call { callee := (Callee.value (Operand.func 30)), args := #[(Operand.tmp 52), (Operand.tmp 53)], argTypes := #[22, 22] }), 4, (some (some 51, false))⟩,
                              ⟨(some 55), (Op.unOp UnOp.not 4 (Operand.tmp 54)), 4, (some (some 51, false))⟩,
                              ⟨(some 56), (Op.pick (Operand.tmp 51) (Operand.const (Value.bool true)) (Operand.tmp 55)), 4, none⟩,
                              ⟨(some 57), (Op.move (Operand.tmp 56)), 4, none⟩,
                              ⟨(some 58), (Op.move (Operand.tmp 8)), 4, (some (some 57, false))⟩,
                              ⟨(some 59), (Op.move (Operand.tmp 5)), 4, (some (some 57, false))⟩,
                              ⟨(some 60), (Op.binOp BinOp.neq 4 (Operand.tmp 58) (Operand.tmp 59) 4), 4, (some (some 57, false))⟩,
                              ⟨(some 61), (Op.pick (Operand.tmp 57) (Operand.const (Value.bool true)) (Operand.tmp 60)), 4, none⟩])
                            (.cond (Operand.tmp 61)
                              (.seq
                                (.ops [
                                  ⟨(some 2), (Op.assign (Operand.const (Value.bool false))), 4, none⟩])
                                .ret)
                              .skip))
                          (.seq
                            (.ops [
                              ⟨(some 10), (Op.assign (Operand.const (Value.int IntKind.i64 1))), 3, none⟩])
                            (.seq
                              (.ops [
                                ⟨(some 62), (Op.move (Operand.tmp 7)), 22, none⟩,
                                ⟨(some 63), (Op.move (Operand.tmp 10)), 3, none⟩,
                                ⟨(some 64), (Op.call { callee := (Callee.value (Operand.func 42)), args := #[(Operand.tmp 62), (Operand.tmp 63)], argTypes := #[22, 3] }), 3, none⟩,
                                ⟨(some 10), (Op.assign (Operand.tmp 64)), 3, none⟩])
                              (.seq
                                (.ops [
                                  ⟨(some 11), (Op.assign (Operand.const (Value.int IntKind.i64 1))), 3, none⟩])
                                (.seq
                                  (.ops [
                                    ⟨(some 65), (Op.move (Operand.tmp 7)), 22, none⟩,
                                    ⟨(some 66), (Op.move (Operand.tmp 11)), 3, none⟩,
                                    ⟨(some 67), (Op.call { callee := (Callee.value (Operand.func 43)), args := #[(Operand.tmp 65), (Operand.tmp 66)], argTypes := #[22, 3] }), 3, none⟩,
                                    ⟨(some 11), (Op.assign (Operand.tmp 67)), 3, none⟩])
                                  (.seq
                                    (.seq
                                      (.ops [
                                        ⟨(some 68), (Op.move (Operand.tmp 11)), 3, none⟩,
                                        ⟨(some 69), (Op.binOp BinOp.lss 3 (Operand.tmp 68) (Operand.const (Value.int IntKind.i64 0)) 3), 4, none⟩])
                                      (.cond (Operand.tmp 69)
                                        (.seq
                                          (.ops [
                                            ⟨(some 2), (Op.assign (Operand.const (Value.bool false))), 4, none⟩])
                                          .ret)
                                        .skip))
                                    (.seq
                                      (.seq
                                        (.ops [
                                          ⟨(some 70), (Op.move (Operand.tmp 11)), 3, none⟩,
                                          ⟨(some 71), (Op.move (Operand.tmp 10)), 3, none⟩,
                                          ⟨(some 72), (Op.binOp BinOp.neq 3 (Operand.tmp 70) (Operand.tmp 71) 3), 4, none⟩])
                                        (.cond (Operand.tmp 72)
                                          (.seq
                                            (.ops [
                                              ⟨(some 2), (Op.assign (Operand.const (Value.bool false))), 4, none⟩])
                                            .ret)
                                          .skip))
                                      (.seq
                                        (.ops [
                                          ⟨(some 74), (Op.load 24 (Operand.tmp 1)), 24, none⟩,
                                          ⟨(some 75), (Op.call { callee := (Callee.value (Operand.func 17)), args := #[(Operand.tmp 74)], argTypes := #[24] }), 28, none⟩,
                                          ⟨(some 76), (Op.call { callee := (Callee.value (Operand.func 41)), args := #[(Operand.tmp 75)], argTypes := #[28] }), 48, none⟩,
                                          ⟨(some 73), (Op.move (Operand.tmp 76)), 48, none⟩,
                                          ⟨(some 77), (Op.extract (Operand.tmp 73) 0), 22, none⟩,
                                          ⟨(some 78), (Op.extract (Operand.tmp 73) 1), 4, none⟩,
                                          ⟨(some 12), (Op.assign (Operand.tmp 77)), 22, none⟩,
                                          ⟨(some 13), (Op.assign (Operand.tmp 78)), 4, none⟩])
                                        (.seq
                                          (.seq
                                            (.ops [
                                              ⟨(some 79), (Op.move (Operand.tmp 12)), 22, none⟩,
                                              ⟨(some 80), (Op.move (Operand.tmp 4)), 22, none⟩,
                                              ⟨(some 81), (Op.call { callee := (Callee.value (Operand.func 30)), args := #[(Operand.tmp 79), (Operand.tmp 80)], argTypes := #[22, 22] }), 4, none⟩,
                                              ⟨(some 82), (Op.unOp UnOp.not 4 (Operand.tmp 81)), 4, none⟩,
                                              ⟨(some 83), (Op.move (Operand.tmp 82)), 4, none⟩,
                                              ⟨(some 84), (Op.move (Operand.tmp 13)), 4, (some (some 83, false))⟩,
                                              ⟨(some 85), (Op.move (Operand.tmp 5)), 4, (some (some 83, false))⟩,
                                              ⟨(some 86), (Op.binOp BinOp.neq 4 (Operand.tmp 84) (Operand.tmp 85) 4), 4, (some (some 83, false))⟩,
                                              ⟨(some 87), (Op.pick (Operand.tmp 83) (Operand.const (Value.bool true)) (Operand.tmp 86)), 4, none⟩])
                                            (.cond (Operand.tmp 87)
                                              (.seq
                                                (.ops [
                                                  ⟨(some 2), (Op.assign (Operand.const (Value.bool false))), 4, none⟩])
                                                .ret)
                                              .skip))
                                          (.seq
                                            (.ops [
                                              ⟨(some 11), (Op.assign (Operand.const (Value.int IntKind.i64 1))), 3, none⟩])
                                            (.seq
                                              (.ops [
                                                ⟨(some 88), (Op.move (Operand.tmp 7)), 22, none⟩,
                                                ⟨(some 89), (Op.move (Operand.tmp 11)), 3, none⟩,
                                                ⟨(some 90), (Op.call { callee := (Callee.value (Operand.func 43)), args := #[(Operand.tmp 88), (Operand.tmp 89)], argTypes := #[22, 3] }), 3, none⟩,
                                                ⟨(some 11), (Op.assign (Operand.tmp 90)), 3, none⟩])
                                              (.seq
                                                (.seq
                                                  (.ops [
                                                    ⟨(some 91), (Op.move (Operand.tmp 11)), 3, none⟩,
                                                    ⟨(some 92), (Op.binOp BinOp.lss 3 (Operand.tmp 91) (Operand.const (Value.int IntKind.i64 0)) 3), 4, none⟩])
                                                  (.cond (Operand.tmp 92)
                                                    (.seq
                                                      (.ops [
                                                        ⟨(some 2), (Op.assign (Operand.const (Value.bool false))), 4, none⟩])
                                                      .ret)
                                                    .skip))
                                                (.seq
                                                  (.seq
                                                    (.ops [
                                                      ⟨(some 93), (Op.move (Operand.tmp 11)), 3, none⟩,
                                                      ⟨(some 94), (Op.move (Operand.tmp 10)), 3, none⟩,
                                                      ⟨(some 95), (Op.binOp BinOp.neq 3 (Operand.tmp 93) (Operand.tmp 94) 3), 4, none⟩])
                                                    (.cond (Operand.tmp 95)
                                                      (.seq
                                                        (.ops [
                                                          ⟨(some 2), (Op.assign (Operand.const (Value.bool false))), 4, none⟩])
                                                        .ret)
                                                      .skip))
                                                  (.seq
                                                    (.ops [
                                                      ⟨(some 2), (Op.assign (Operand.const (Value.bool true))), 4, none⟩])
                                                    .ret))))))))))))))))))))))))
theorem slim10 : Try.f10.body.map (slim lends) = some k10 := by kernel_rfl
theorem ok10 : fnOk Try.f10 1 = true := by kernel_rfl
theorem c10 {a l : List D} {r : D × List D} (h : wpD Y.env k10 (fin tys l.length [ResultVar.tmp 2] r) (entry a l)) (ha : a.length = 1) : Y.call 10 a l = some r :=
  call_slim (Y := Y) rfl Try.func10 (ha ▸ ok10) slim10 h
theorem l_FnExactEdgeDiagram_call (t0_Labels : Int) (t0_Degree : Int) (t0_Nodes : List (List Int)) (t0_Edges : List (List Int)) {r : Bool} (h : l_FnExactEdgeDiagram t0_Labels t0_Degree t0_Nodes t0_Edges = some r) : Y.call 10 [D.agg [D.int .i64 t0_Labels, D.int .i64 t0_Degree, D.sl 32 (lst (fun x => D.sl 3 (lst (D.int .i64) x)) t0_Nodes), D.sl 32 (lst (fun x => D.sl 3 (lst (D.int .i64) x)) t0_Edges)]] [] = some (D.bool r, []) := by
  refine c10 ?_ rfl
  unfold k10
  unfold l_FnExactEdgeDiagram at h
  obtain ⟨e1, h⟩ := ckS h
  obtain ⟨e2, h⟩ := ckS h
  obtain ⟨e3, h⟩ := ckS h
  have c4 := l_szProblem_cl t0_Labels t0_Degree t0_Nodes t0_Edges (1048576 : Int) e1 e2 e3
  by_cases e5 : (szP (1048576 : Int) t0_Nodes t0_Edges) < 0
  · rw [if_pos e5] at h
    obtain rfl := Option.some.inj h
    simp (maxDischargeDepth := 9) only [↓xpre, xpost, xlst, xcore, yset, rg0, ↓reduceIte, Nat.reduceEqDiff, Nat.reduceLT, Nat.reduceLeDiff, Nat.reduceAdd, Nat.reduceMul, Nat.reduceMod, Nat.reduceSub, Nat.reduceBEq, Int.reduceLE, Int.reduceLT, Int.reduceEq, Int.reduceSub, Int.reduceAdd, Int.reduceToNat, Int.reduceNeg, e1, e2, e3.1, e3.2, c4, e5] <;> (repeat' apply And.intro) <;> first | rfl | exact ⟨_, rfl⟩ | simp [lst]
  · rw [if_neg e5] at h
    obtain ⟨e6, h⟩ := ckS h
    obtain ⟨e7, h⟩ := ckS h
    have c8 := l_toProblem_cl t0_Labels t0_Degree t0_Nodes t0_Edges e6 e7
    obtain ⟨r9_, hl9, h⟩ := bindS h
    try dsimp only at h
    have c9 := s_EdgeDiagram_call t0_Labels t0_Degree t0_Nodes t0_Edges hl9
    have c10 := l_toProblem_cl t0_Labels t0_Degree t0_Nodes t0_Edges e6 e7
    obtain ⟨r11_, hl11, h⟩ := bindS h
    try dsimp only at h
    have c11 := i_EdgeDiagram_call t0_Labels t0_Degree t0_Nodes t0_Edges hl11
    obtain ⟨e12, h⟩ := ckS h
    have c13 := l_eqIntSS_cl r11_.1 r9_.1 e12
    by_cases e14 : (decide (r11_.1 = r9_.1)) = true
    · rw [if_pos e14] at h
      by_cases e15 : r11_.2 = true
      · rw [if_pos e15] at h
        by_cases e16 : r9_.2 = true
        · rw [if_pos e16] at h
          have c17 := l_toProblem_cl t0_Labels t0_Degree t0_Nodes t0_Edges e6 e7
          have c18 := l_eqProblem_cl t0_Labels t0_Degree t0_Nodes t0_Edges t0_Labels t0_Degree t0_Nodes t0_Edges e6 e7
          by_cases e19 : (sameP t0_Labels t0_Degree t0_Nodes t0_Edges t0_Labels t0_Degree t0_Nodes t0_Edges) = true
          · rw [if_pos e19] at h
            obtain ⟨e20, h⟩ := ckS h
            have c21 := l_markProblem_cl t0_Labels t0_Degree t0_Nodes t0_Edges (1 : Int) e6 e7 e20
            by_cases e22 : ((1 : Int) + tot t0_Nodes + tot t0_Edges) < 0
            · rw [if_pos e22] at h
              obtain rfl := Option.some.inj h
              simp (maxDischargeDepth := 9) only [↓xpre, xpost, xlst, xcore, yset, rg0, ↓reduceIte, Nat.reduceEqDiff, Nat.reduceLT, Nat.reduceLeDiff, Nat.reduceAdd, Nat.reduceMul, Nat.reduceMod, Nat.reduceSub, Nat.reduceBEq, Int.reduceLE, Int.reduceLT, Int.reduceEq, Int.reduceSub, Int.reduceAdd, Int.reduceToNat, Int.reduceNeg, e1, e2, e3.1, e3.2, c4, e5, e6, e7, c8, c9, c10, c11, e12, c13, e14, e15, e16, c17, c18, e19, e20.1, e20.2, c21, e22] <;> (repeat' apply And.intro) <;> first | rfl | exact ⟨_, rfl⟩ | simp [lst]
            · rw [if_neg e22] at h
              have c23 := l_eqIntSS_cl r11_.1 r9_.1 e12
              obtain ⟨e24, h⟩ := ckS h
              have c25 := l_markIntSS_cl r11_.1 (1 : Int) e12 e24
              obtain ⟨r26_, hl26, h⟩ := bindS h
              try dsimp only at h
              have c26 := l_heldIntSS_call (marks (1 : Int) r11_.1) (1 : Int) hl26
              by_cases e27 : r26_ < 0
              · rw [if_pos e27] at h
                obtain rfl := Option.some.inj h
                simp (maxDischargeDepth := 9) only [↓xpre, xpost, xlst, xcore, yset, rg0, ↓reduceIte, Nat.reduceEqDiff, Nat.reduceLT, Nat.reduceLeDiff, Nat.reduceAdd, Nat.reduceMul, Nat.reduceMod, Nat.reduceSub, Nat.reduceBEq, Int.reduceLE, Int.reduceLT, Int.reduceEq, Int.reduceSub, Int.reduceAdd, Int.reduceToNat, Int.reduceNeg, e1, e2, e3.1, e3.2, c4, e5, e6, e7, c8, c9, c10, c11, e12, c13, e14, e15, e16, c17, c18, e19, e20.1, e20.2, c21, e22, c23, e24.1, e24.2, c25, c26, e27] <;> (repeat' apply And.intro) <;> first | rfl | exact ⟨_, rfl⟩ | simp [lst]
              · rw [if_neg e27] at h
                by_cases e28 : r26_ = ((1 : Int) + tot r11_.1)
                · rw [if_pos e28] at h
                  have c29 := l_toProblem_cl t0_Labels t0_Degree t0_Nodes t0_Edges e6 e7
                  have c30 := l_eqIntSS_cl r11_.1 r9_.1 e12
                  obtain rfl := Option.some.inj h
                  simp (maxDischargeDepth := 9) only [↓xpre, xpost, xlst, xcore, yset, rg0, ↓reduceIte, Nat.reduceEqDiff, Nat.reduceLT, Nat.reduceLeDiff, Nat.reduceAdd, Nat.reduceMul, Nat.reduceMod, Nat.reduceSub, Nat.reduceBEq, Int.reduceLE, Int.reduceLT, Int.reduceEq, Int.reduceSub, Int.reduceAdd, Int.reduceToNat, Int.reduceNeg, e1, e2, e3.1, e3.2, c4, e5, e6, e7, c8, c9, c10, c11, e12, c13, e14, e15, e16, c17, c18, e19, e20.1, e20.2, c21, e22, c23, e24.1, e24.2, c25, c26, e27, decide_eq_true e28, c29, c30] <;> (repeat' apply And.intro) <;> first | rfl | exact ⟨_, rfl⟩ | simp [lst]
                · rw [if_neg e28] at h
                  obtain rfl := Option.some.inj h
                  simp (maxDischargeDepth := 9) only [↓xpre, xpost, xlst, xcore, yset, rg0, ↓reduceIte, Nat.reduceEqDiff, Nat.reduceLT, Nat.reduceLeDiff, Nat.reduceAdd, Nat.reduceMul, Nat.reduceMod, Nat.reduceSub, Nat.reduceBEq, Int.reduceLE, Int.reduceLT, Int.reduceEq, Int.reduceSub, Int.reduceAdd, Int.reduceToNat, Int.reduceNeg, e1, e2, e3.1, e3.2, c4, e5, e6, e7, c8, c9, c10, c11, e12, c13, e14, e15, e16, c17, c18, e19, e20.1, e20.2, c21, e22, c23, e24.1, e24.2, c25, c26, e27, e28] <;> (repeat' apply And.intro) <;> first | rfl | exact ⟨_, rfl⟩ | simp [lst]
          · rw [if_neg e19] at h
            have e19f : (sameP t0_Labels t0_Degree t0_Nodes t0_Edges t0_Labels t0_Degree t0_Nodes t0_Edges) = false := Bool.eq_false_iff.mpr e19
            obtain rfl := Option.some.inj h
            simp (maxDischargeDepth := 9) only [↓xpre, xpost, xlst, xcore, yset, rg0, ↓reduceIte, Nat.reduceEqDiff, Nat.reduceLT, Nat.reduceLeDiff, Nat.reduceAdd, Nat.reduceMul, Nat.reduceMod, Nat.reduceSub, Nat.reduceBEq, Int.reduceLE, Int.reduceLT, Int.reduceEq, Int.reduceSub, Int.reduceAdd, Int.reduceToNat, Int.reduceNeg, e1, e2, e3.1, e3.2, c4, e5, e6, e7, c8, c9, c10, c11, e12, c13, e14, e15, e16, c17, c18, e19f] <;> (repeat' apply And.intro) <;> first | rfl | exact ⟨_, rfl⟩ | simp [lst]
        · rw [if_neg e16] at h
          have e16f : r9_.2 = false := Bool.eq_false_iff.mpr e16
          obtain rfl := Option.some.inj h
          simp (maxDischargeDepth := 9) only [↓xpre, xpost, xlst, xcore, yset, rg0, ↓reduceIte, Nat.reduceEqDiff, Nat.reduceLT, Nat.reduceLeDiff, Nat.reduceAdd, Nat.reduceMul, Nat.reduceMod, Nat.reduceSub, Nat.reduceBEq, Int.reduceLE, Int.reduceLT, Int.reduceEq, Int.reduceSub, Int.reduceAdd, Int.reduceToNat, Int.reduceNeg, e1, e2, e3.1, e3.2, c4, e5, e6, e7, c8, c9, c10, c11, e12, c13, e14, e15, e16f] <;> (repeat' apply And.intro) <;> first | rfl | exact ⟨_, rfl⟩ | simp [lst]
      · rw [if_neg e15] at h
        have e15f : r11_.2 = false := Bool.eq_false_iff.mpr e15
        by_cases e16 : r9_.2 = true
        · rw [if_pos e16] at h
          obtain rfl := Option.some.inj h
          simp (maxDischargeDepth := 9) only [↓xpre, xpost, xlst, xcore, yset, rg0, ↓reduceIte, Nat.reduceEqDiff, Nat.reduceLT, Nat.reduceLeDiff, Nat.reduceAdd, Nat.reduceMul, Nat.reduceMod, Nat.reduceSub, Nat.reduceBEq, Int.reduceLE, Int.reduceLT, Int.reduceEq, Int.reduceSub, Int.reduceAdd, Int.reduceToNat, Int.reduceNeg, e1, e2, e3.1, e3.2, c4, e5, e6, e7, c8, c9, c10, c11, e12, c13, e14, e15f, e16] <;> (repeat' apply And.intro) <;> first | rfl | exact ⟨_, rfl⟩ | simp [lst]
        · rw [if_neg e16] at h
          have e16f : r9_.2 = false := Bool.eq_false_iff.mpr e16
          have c17 := l_toProblem_cl t0_Labels t0_Degree t0_Nodes t0_Edges e6 e7
          have c18 := l_eqProblem_cl t0_Labels t0_Degree t0_Nodes t0_Edges t0_Labels t0_Degree t0_Nodes t0_Edges e6 e7
          by_cases e19 : (sameP t0_Labels t0_Degree t0_Nodes t0_Edges t0_Labels t0_Degree t0_Nodes t0_Edges) = true
          · rw [if_pos e19] at h
            obtain ⟨e20, h⟩ := ckS h
            have c21 := l_markProblem_cl t0_Labels t0_Degree t0_Nodes t0_Edges (1 : Int) e6 e7 e20
            by_cases e22 : ((1 : Int) + tot t0_Nodes + tot t0_Edges) < 0
            · rw [if_pos e22] at h
              obtain rfl := Option.some.inj h
              simp (maxDischargeDepth := 9) only [↓xpre, xpost, xlst, xcore, yset, rg0, ↓reduceIte, Nat.reduceEqDiff, Nat.reduceLT, Nat.reduceLeDiff, Nat.reduceAdd, Nat.reduceMul, Nat.reduceMod, Nat.reduceSub, Nat.reduceBEq, Int.reduceLE, Int.reduceLT, Int.reduceEq, Int.reduceSub, Int.reduceAdd, Int.reduceToNat, Int.reduceNeg, e1, e2, e3.1, e3.2, c4, e5, e6, e7, c8, c9, c10, c11, e12, c13, e14, e15f, e16f, c17, c18, e19, e20.1, e20.2, c21, e22] <;> (repeat' apply And.intro) <;> first | rfl | exact ⟨_, rfl⟩ | simp [lst]
            · rw [if_neg e22] at h
              have c23 := l_eqIntSS_cl r11_.1 r9_.1 e12
              obtain ⟨e24, h⟩ := ckS h
              have c25 := l_markIntSS_cl r11_.1 (1 : Int) e12 e24
              obtain ⟨r26_, hl26, h⟩ := bindS h
              try dsimp only at h
              have c26 := l_heldIntSS_call (marks (1 : Int) r11_.1) (1 : Int) hl26
              by_cases e27 : r26_ < 0
              · rw [if_pos e27] at h
                obtain rfl := Option.some.inj h
                simp (maxDischargeDepth := 9) only [↓xpre, xpost, xlst, xcore, yset, rg0, ↓reduceIte, Nat.reduceEqDiff, Nat.reduceLT, Nat.reduceLeDiff, Nat.reduceAdd, Nat.reduceMul, Nat.reduceMod, Nat.reduceSub, Nat.reduceBEq, Int.reduceLE, Int.reduceLT, Int.reduceEq, Int.reduceSub, Int.reduceAdd, Int.reduceToNat, Int.reduceNeg, e1, e2, e3.1, e3.2, c4, e5, e6, e7, c8, c9, c10, c11, e12, c13, e14, e15f, e16f, c17, c18, e19, e20.1, e20.2, c21, e22, c23, e24.1, e24.2, c25, c26, e27] <;> (repeat' apply And.intro) <;> first | rfl | exact ⟨_, rfl⟩ | simp [lst]
              · rw [if_neg e27] at h
                by_cases e28 : r26_ = ((1 : Int) + tot r11_.1)
                · rw [if_pos e28] at h
                  have c29 := l_toProblem_cl t0_Labels t0_Degree t0_Nodes t0_Edges e6 e7
                  have c30 := l_eqIntSS_cl r11_.1 r9_.1 e12
                  obtain rfl := Option.some.inj h
                  simp (maxDischargeDepth := 9) only [↓xpre, xpost, xlst, xcore, yset, rg0, ↓reduceIte, Nat.reduceEqDiff, Nat.reduceLT, Nat.reduceLeDiff, Nat.reduceAdd, Nat.reduceMul, Nat.reduceMod, Nat.reduceSub, Nat.reduceBEq, Int.reduceLE, Int.reduceLT, Int.reduceEq, Int.reduceSub, Int.reduceAdd, Int.reduceToNat, Int.reduceNeg, e1, e2, e3.1, e3.2, c4, e5, e6, e7, c8, c9, c10, c11, e12, c13, e14, e15f, e16f, c17, c18, e19, e20.1, e20.2, c21, e22, c23, e24.1, e24.2, c25, c26, e27, decide_eq_true e28, c29, c30] <;> (repeat' apply And.intro) <;> first | rfl | exact ⟨_, rfl⟩ | simp [lst]
                · rw [if_neg e28] at h
                  obtain rfl := Option.some.inj h
                  simp (maxDischargeDepth := 9) only [↓xpre, xpost, xlst, xcore, yset, rg0, ↓reduceIte, Nat.reduceEqDiff, Nat.reduceLT, Nat.reduceLeDiff, Nat.reduceAdd, Nat.reduceMul, Nat.reduceMod, Nat.reduceSub, Nat.reduceBEq, Int.reduceLE, Int.reduceLT, Int.reduceEq, Int.reduceSub, Int.reduceAdd, Int.reduceToNat, Int.reduceNeg, e1, e2, e3.1, e3.2, c4, e5, e6, e7, c8, c9, c10, c11, e12, c13, e14, e15f, e16f, c17, c18, e19, e20.1, e20.2, c21, e22, c23, e24.1, e24.2, c25, c26, e27, e28] <;> (repeat' apply And.intro) <;> first | rfl | exact ⟨_, rfl⟩ | simp [lst]
          · rw [if_neg e19] at h
            have e19f : (sameP t0_Labels t0_Degree t0_Nodes t0_Edges t0_Labels t0_Degree t0_Nodes t0_Edges) = false := Bool.eq_false_iff.mpr e19
            obtain rfl := Option.some.inj h
            simp (maxDischargeDepth := 9) only [↓xpre, xpost, xlst, xcore, yset, rg0, ↓reduceIte, Nat.reduceEqDiff, Nat.reduceLT, Nat.reduceLeDiff, Nat.reduceAdd, Nat.reduceMul, Nat.reduceMod, Nat.reduceSub, Nat.reduceBEq, Int.reduceLE, Int.reduceLT, Int.reduceEq, Int.reduceSub, Int.reduceAdd, Int.reduceToNat, Int.reduceNeg, e1, e2, e3.1, e3.2, c4, e5, e6, e7, c8, c9, c10, c11, e12, c13, e14, e15f, e16f, c17, c18, e19f] <;> (repeat' apply And.intro) <;> first | rfl | exact ⟨_, rfl⟩ | simp [lst]
    · rw [if_neg e14] at h
      have e14f : (decide (r11_.1 = r9_.1)) = false := Bool.eq_false_iff.mpr e14
      obtain rfl := Option.some.inj h
      simp (maxDischargeDepth := 9) only [↓xpre, xpost, xlst, xcore, yset, rg0, ↓reduceIte, Nat.reduceEqDiff, Nat.reduceLT, Nat.reduceLeDiff, Nat.reduceAdd, Nat.reduceMul, Nat.reduceMod, Nat.reduceSub, Nat.reduceBEq, Int.reduceLE, Int.reduceLT, Int.reduceEq, Int.reduceSub, Int.reduceAdd, Int.reduceToNat, Int.reduceNeg, e1, e2, e3.1, e3.2, c4, e5, e6, e7, c8, c9, c10, c11, e12, c13, e14f] <;> (repeat' apply And.intro) <;> first | rfl | exact ⟨_, rfl⟩ | simp [lst]

theorem diae_law (a d : Int) (ns es : List (List Int)) (hn : Wide ns) (he : Wide es) : l_FnExactEdgeDiagram a d ns es = some true := by
  unfold l_FnExactEdgeDiagram
  rw [ckT hn, ckT he, ckT (by omega)]
  by_cases q1 : szP 1048576 ns es < 0
  · rw [if_pos q1]
  · obtain ⟨f1, sn, se, f2⟩ := szP_fit (by omega) q1
    have t1 := tot_nonneg ns
    have t2 := tot_nonneg es
    obtain ⟨r, ok, hS, hI, hr, ht⟩ := diae_both a d ns es sn se (by omega)
    have t3 := tot_nonneg r
    have hh := l_heldIntSS_eq r 1 hr (by omega)
    have g1 : (0 : Int) ≤ 1 ∧ 1 + tot ns + tot es < 1099511627776 := by omega
    have g2 : ¬ 1 + tot ns + tot es < 0 := by omega
    have g4 : (0 : Int) ≤ 1 ∧ (1 : Int) + tot r < 1099511627776 := by omega
    have g5 : ¬ (1 : Int) + tot r < 0 := by omega
    rw [if_neg q1, ckT sn, ckT se]
    simp only [hS, hI, Option.bind_some, ckT hr, decide_true, sameP_refl, if_true, ckT g1, if_neg g2, ckT g4, hh, if_neg g5]
    cases ok <;> rfl
theorem diae_all (ds : List D) (h : Args tys [24] ds) : Y.call 10 ds [] = some (.bool true, []) := by
  rcases ds with _ | ⟨x, _ | ⟨_, _⟩⟩
  · cases h
  · obtain ⟨a, d, ns, es, rfl, _, _, hn, he⟩ := argProblem ty24 ty3 ty22 ty32 ty3 h.1
    exact l_FnExactEdgeDiagram_call a d ns es (diae_law a d ns es (wide_of hn) (wide_of he))
  · exact h.2.elim
end Go.Proofs.Ytjlphfbpaejicaa
