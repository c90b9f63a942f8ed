/- Partial labelings: the law, lifted. Conditions: none. -/
import Derived.Test.YtjkgcfdcfjkkbaaL6
import Derived.Test.YtjkgcfdcfjkkbaaIptA
namespace Go.Proofs.Ytjkgcfdcfjkkbaa
open Go Dv
set_option linter.unusedSimpArgs false
set_option linter.unusedVariables false
set_option maxRecDepth 100000
set_option maxHeartbeats 4000000

noncomputable def l_FnExactIsPartial (t0_Labels : Int) (t0_Degree : Int) (t0_Nodes : List (List Int)) (t0_Edges : List (List Int)) (t1_Ends : List (List (Int × Int))) (t1_Ids : List Int) (t1_Inputs : List Int) (t2_ : List (List Int)) : Option (Bool) :=
  ck (Wide t0_Nodes) <|
  ck (Wide t0_Edges) <|
  ck (0 ≤ (1048576 : Int) ∧ (1048576 : Int) ≤ 1048576) <|
  if (szP (1048576 : Int) t0_Nodes t0_Edges) < 0 then
    some true
  else
    ck (WideE t1_Ends) <|
    ck (t1_Ids.length < 9223372036854775808) <|
    ck (t1_Inputs.length < 9223372036854775808) <|
    ck (0 ≤ (szP (1048576 : Int) t0_Nodes t0_Edges) ∧ (szP (1048576 : Int) t0_Nodes t0_Edges) ≤ 1048576) <|
    if (szW (szP (1048576 : Int) t0_Nodes t0_Edges) t1_Ends t1_Ids t1_Inputs) < 0 then
      some true
    else
      ck (Wide t2_) <|
      ck (0 ≤ (szW (szP (1048576 : Int) t0_Nodes t0_Edges) t1_Ends t1_Ids t1_Inputs) ∧ (szW (szP (1048576 : Int) t0_Nodes t0_Edges) t1_Ends t1_Ids t1_Inputs) ≤ 1048576) <|
      if (szN (szW (szP (1048576 : Int) t0_Nodes t0_Edges) t1_Ends t1_Ids t1_Inputs) (t2_.length + tot t2_)) < 0 then
        some true
      else
        ck (Short t0_Nodes) <|
        ck (Short t0_Edges) <|
        ck (ShortE t1_Ends) <|
        ck (t1_Ids.length < 1099511627776) <|
        ck (t1_Inputs.length < 1099511627776) <|
        ck (Short t2_) <|
        (s_IsPartial t0_Labels t0_Degree t0_Nodes t0_Edges t1_Ends t1_Ids t1_Inputs t2_).bind fun r25_ =>
        (i_IsPartial t0_Labels t0_Degree t0_Nodes t0_Edges t1_Ends t1_Ids t1_Inputs t2_).bind fun r29_ =>
        if r29_.1 = true then
          if r25_.1 = true then
            if r29_.2 = true then
              if r25_.2 = true then
                if (sameP t0_Labels t0_Degree t0_Nodes t0_Edges t0_Labels t0_Degree t0_Nodes t0_Edges) = true then
                  if (sameN t1_Ends t1_Ids t1_Inputs t1_Ends t1_Ids t1_Inputs) = true then
                    if (decide (t2_ = t2_)) = true then
                      some true
                    else
                      some false
                  else
                    some false
                else
                  some false
              else
                some false
            else
              if r25_.2 = true then
                some false
              else
                if (sameP t0_Labels t0_Degree t0_Nodes t0_Edges t0_Labels t0_Degree t0_Nodes t0_Edges) = true then
                  if (sameN t1_Ends t1_Ids t1_Inputs t1_Ends t1_Ids t1_Inputs) = true then
                    if (decide (t2_ = t2_)) = true then
                      some true
                    else
                      some false
                  else
                    some false
                else
                  some false
          else
            some false
        else
          if r25_.1 = true then
            some false
          else
            if r29_.2 = true then
              if r25_.2 = true then
                if (sameP t0_Labels t0_Degree t0_Nodes t0_Edges t0_Labels t0_Degree t0_Nodes t0_Edges) = true then
                  if (sameN t1_Ends t1_Ids t1_Inputs t1_Ends t1_Ids t1_Inputs) = true then
                    if (decide (t2_ = t2_)) = true then
                      some true
                    else
                      some false
                  else
                    some false
                else
                  some false
              else
                some false
            else
              if r25_.2 = true then
                some false
              else
                if (sameP t0_Labels t0_Degree t0_Nodes t0_Edges t0_Labels t0_Degree t0_Nodes t0_Edges) = true then
                  if (sameN t1_Ends t1_Ids t1_Inputs t1_Ends t1_Ids t1_Inputs) = true then
                    if (decide (t2_ = t2_)) = true then
                      some true
                    else
                      some false
                  else
                    some false
                else
                  some false
/-- laws.FnExactIsPartial -/
def k4 : SC :=
 .seq
 (.ops [
 ⟨(some 3), (.box 38 (.tmp 0)), 0, none⟩,
 ⟨(some 4), (.box 25 (.tmp 1)), 0, none⟩,
 ⟨(some 6), (.assign (.const (.bool false))), 4, none⟩])
 (.seq
 (.ops [
 ⟨(some 7), (.assign (.const (.int .i64 1048576))), 3, none⟩])
 (.seq
 (.ops [
 ⟨(some 15), (.load 38 (.tmp 3)), 38, none⟩,
 ⟨(some 16), (.move (.tmp 7)), 3, none⟩,
 ⟨(some 17), (.call ⟨(.value (.func 15)), #[(.tmp 15), (.tmp 16)], #[38, 3]⟩), 3, none⟩,
 ⟨(some 7), (.assign (.tmp 17)), 3, none⟩])
 (.seq
 (.seq
 (.ops [
 ⟨(some 18), (.move (.tmp 7)), 3, none⟩,
 ⟨(some 19), (.binOp .lss 3 (.tmp 18) (.const (.int .i64 0)) 3), 4, none⟩])
 (.cond (.tmp 19)
 (.seq
 (.ops [
 ⟨(some 6), (.assign (.const (.bool true))), 4, none⟩])
 .ret)
 .skip))
 (.seq
 (.ops [
 ⟨(some 20), (.load 25 (.tmp 4)), 25, none⟩,
 ⟨(some 21), (.move (.tmp 7)), 3, none⟩,
 ⟨(some 22), (.call ⟨(.value (.func 8)), #[(.tmp 20), (.tmp 21)], #[25, 3]⟩), 3, none⟩,
 ⟨(some 7), (.assign (.tmp 22)), 3, none⟩])
 (.seq
 (.seq
 (.ops [
 ⟨(some 23), (.move (.tmp 7)), 3, none⟩,
 ⟨(some 24), (.binOp .lss 3 (.tmp 23) (.const (.int .i64 0)) 3), 4, none⟩])
 (.cond (.tmp 24)
 (.seq
 (.ops [
 ⟨(some 6), (.assign (.const (.bool true))), 4, none⟩])
 .ret)
 .skip))
 (.seq
 (.ops [
 ⟨(some 25), (.move (.tmp 2)), 36, none⟩,
 ⟨(some 26), (.move (.tmp 7)), 3, none⟩,
 ⟨(some 27), (.call ⟨(.value (.func 16)), #[(.tmp 25), (.tmp 26)], #[36, 3]⟩), 3, none⟩,
 ⟨(some 7), (.assign (.tmp 27)), 3, none⟩])
 (.seq
 (.seq
 (.ops [
 ⟨(some 28), (.move (.tmp 7)), 3, none⟩,
 ⟨(some 29), (.binOp .lss 3 (.tmp 28) (.const (.int .i64 0)) 3), 4, none⟩])
 (.cond (.tmp 29)
 (.seq
 (.ops [
 ⟨(some 6), (.assign (.const (.bool true))), 4, none⟩])
 .ret)
 .skip))
 (.seq
 (.draws [
 (⟨[31, 3, 3], [31, 32, 33, 34, 35, 36, 37, 30, 37, 38, 39, 8, 38, 37, 9, 39], [31]⟩, ⟨(some 31), (.load 38 (.tmp 3)), 38, none⟩),
 (⟨[32, 31, 3], [31, 32, 33, 34, 35, 36, 37, 30, 37, 38, 39, 8, 38, 37, 9, 39], [32]⟩, ⟨(some 32), (.call ⟨(.value (.func 18)), #[(.tmp 31)], #[38]⟩), 43, none⟩),
 (⟨[33, 4, 4], [31, 32, 33, 34, 35, 36, 37, 30, 37, 38, 39, 8, 38, 37, 9, 39], [33]⟩, ⟨(some 33), (.load 25 (.tmp 4)), 25, none⟩),
 (⟨[34, 33, 4], [31, 32, 33, 34, 35, 36, 37, 30, 37, 38, 39, 8, 38, 37, 9, 39], [34]⟩, ⟨(some 34), (.call ⟨(.value (.func 10)), #[(.tmp 33)], #[25]⟩), 29, none⟩),
 (⟨[35, 2, 2], [31, 32, 33, 34, 35, 36, 37, 30, 37, 38, 39, 8, 38, 37, 9, 39], [35]⟩, ⟨(some 35), (.move (.tmp 2)), 36, none⟩),
 (⟨[36, 35, 2], [31, 32, 33, 34, 35, 36, 37, 30, 37, 38, 39, 8, 38, 37, 9, 39], [36]⟩, ⟨(some 36), (.call ⟨(.value (.func 19)), #[(.tmp 35)], #[36]⟩), 36, none⟩),
 (⟨[37, 32, 34, 36, 32, 34, 36], [31, 32, 33, 34, 35, 36, 37, 30, 37, 38, 39, 8, 38, 37, 9, 39], [37]⟩, ⟨(some 37), (.call ⟨(.value (.func 17)), #[(.tmp 32), (.tmp 34), (.tmp 36)], #[43, 29, 36]⟩), 41, none⟩),
 (⟨[30, 37, 37], [31, 32, 33, 34, 35, 36, 37, 30, 37, 38, 39, 8, 38, 37, 9, 39], [30, 37]⟩, ⟨(some 30), (.move (.tmp 37)), 41, none⟩),
 (⟨[38, 30], [31, 32, 33, 34, 35, 36, 37, 30, 37, 38, 39, 8, 38, 37, 9, 39], [38]⟩, ⟨(some 38), (.extract (.tmp 30) 0), 4, none⟩),
 (⟨[39, 30], [31, 32, 33, 34, 35, 36, 37, 30, 37, 38, 39, 8, 38, 37, 9, 39], [39]⟩, ⟨(some 39), (.extract (.tmp 30) 1), 4, none⟩),
 (⟨[8, 38, 37], [31, 32, 33, 34, 35, 36, 37, 30, 37, 38, 39, 8, 38, 37, 9, 39], [8, 38, 37]⟩, ⟨(some 8), (.assign (.tmp 38)), 4, none⟩),
 (⟨[9, 39], [31, 32, 33, 34, 35, 36, 37, 30, 37, 38, 39, 8, 38, 37, 9, 39], [9, 39]⟩, ⟨(some 9), (.assign (.tmp 39)), 4, none⟩)])
 (.seq
 (.ops [
 ⟨(some 40), (.load 38 (.tmp 3)), 38, none⟩,
 ⟨(some 41), (.call ⟨(.value (.func 18)), #[(.tmp 40)], #[38]⟩), 43, none⟩,
 ⟨(some 10), (.alloc 43), 0, none⟩,
 ⟨none, (.store 43 (.tmp 10) (.tmp 41)), 0, none⟩])
 (.seq
 (.ops [
 ⟨(some 42), (.load 25 (.tmp 4)), 25, none⟩,
 ⟨(some 43), (.call ⟨(.value (.func 10)), #[(.tmp 42)], #[25]⟩), 29, none⟩,
 ⟨(some 11), (.alloc 29), 0, none⟩,
 ⟨none, (.store 29 (.tmp 11) (.tmp 43)), 0, none⟩])
 (.seq
 (.ops [
 ⟨(some 44), (.move (.tmp 2)), 36, none⟩,
 ⟨(some 45), (.call ⟨(.value (.func 19)), #[(.tmp 44)], #[36]⟩), 36, none⟩,
 ⟨(some 12), (.assign (.tmp 45)), 36, none⟩])
 (.seq
 (.ops [
 ⟨(some 47), (.load 43 (.tmp 10)), 43, none⟩,
 ⟨(some 48), (.load 29 (.tmp 11)), 29, none⟩,
 ⟨(some 49), (.move (.tmp 12)), 36, none⟩,
 ⟨(some 50), (.call ⟨(.value (.func 20)), #[(.tmp 47), (.tmp 48), (.tmp 49)], #[43, 29, 36]⟩), 41, none⟩,
 ⟨(some 46), (.move (.tmp 50)), 41, none⟩,
 ⟨(some 51), (.extract (.tmp 46) 0), 4, none⟩,
 ⟨(some 52), (.extract (.tmp 46) 1), 4, none⟩,
 ⟨(some 13), (.assign (.tmp 51)), 4, none⟩,
 ⟨(some 14), (.assign (.tmp 52)), 4, none⟩])
 (.seq
 (.seq
 (.ops [
 ⟨(some 53), (.move (.tmp 13)), 4, none⟩,
 ⟨(some 54), (.move (.tmp 8)), 4, none⟩,
 ⟨(some 55), (.binOp .neq 4 (.tmp 53) (.tmp 54) 4), 4, none⟩,
 ⟨(some 56), (.move (.tmp 55)), 4, none⟩,
 ⟨(some 57), (.move (.tmp 14)), 4, (some (some 56, false))⟩,
 ⟨(some 58), (.move (.tmp 9)), 4, (some (some 56, false))⟩,
 ⟨(some 59), (.binOp .neq 4 (.tmp 57) (.tmp 58) 4), 4, (some (some 56, false))⟩,
 ⟨(some 60), (.pick (.tmp 56) (.const (.bool true)) (.tmp 59)), 4, none⟩])
 (.cond (.tmp 60)
 (.seq
 (.ops [
 ⟨(some 6), (.assign (.const (.bool false))), 4, none⟩])
 .ret)
 .skip))
 (.seq
 (.seq
 (.draws [
 (⟨[61, 10, 10], [61, 62, 63, 64, 65], [61]⟩, ⟨(some 61), (.load 43 (.tmp 10)), 43, none⟩),
 (⟨[62, 3, 3], [61, 62, 63, 64, 65], [62]⟩, ⟨(some 62), (.load 38 (.tmp 3)), 38, none⟩),
 (⟨[63, 62, 3], [61, 62, 63, 64, 65], [63]⟩, ⟨(some 63), (.call ⟨(.value (.func 18)), #[(.tmp 62)], #[38]⟩), 43, none⟩),
 (⟨[64, 61, 63, 10, 63], [61, 62, 63, 64, 65], [64]⟩, ⟨(some 64), (.call ⟨(.value (.func 21)), #[(.tmp 61), (.tmp 63)], #[43, 43]⟩), 4, none⟩),
 (⟨[65, 64, 64], [61, 62, 63, 64, 65], [65]⟩, ⟨(some 65), (.unOp .not 4 (.tmp 64)), 4, none⟩)])
 (.cond (.tmp 65)
 (.seq
 (.ops [
 ⟨(some 6), (.assign (.const (.bool false))), 4, none⟩])
 .ret)
 .skip))
 (.seq
 (.seq
 (.draws [
 (⟨[66, 11, 11], [66, 67, 68, 69, 70], [66]⟩, ⟨(some 66), (.load 29 (.tmp 11)), 29, none⟩),
 (⟨[67, 4, 4], [66, 67, 68, 69, 70], [67]⟩, ⟨(some 67), (.load 25 (.tmp 4)), 25, none⟩),
 (⟨[68, 67, 4], [66, 67, 68, 69, 70], [68]⟩, ⟨(some 68), (.call ⟨(.value (.func 10)), #[(.tmp 67)], #[25]⟩), 29, none⟩),
 (⟨[69, 66, 68, 11, 68], [66, 67, 68, 69, 70], [69]⟩, ⟨(some 69), (.call ⟨(.value (.func 12)), #[(.tmp 66), (.tmp 68)], #[29, 29]⟩), 4, none⟩),
 (⟨[70, 69, 69], [66, 67, 68, 69, 70], [70]⟩, ⟨(some 70), (.unOp .not 4 (.tmp 69)), 4, none⟩)])
 (.cond (.tmp 70)
 (.seq
 (.ops [
 ⟨(some 6), (.assign (.const (.bool false))), 4, none⟩])
 .ret)
 .skip))
 (.seq
 (.seq
 (.ops [
 ⟨(some 71), (.move (.tmp 12)), 36, none⟩,
 ⟨(some 72), (.move (.tmp 2)), 36, none⟩,
 ⟨(some 73), (.call ⟨(.value (.func 19)), #[(.tmp 72)], #[36]⟩), 36, none⟩,
 ⟨(some 74), (.call ⟨(.value (.func 22)), #[(.tmp 71), (.tmp 73)], #[36, 36]⟩), 4, none⟩,
 ⟨(some 75), (.unOp .not 4 (.tmp 74)), 4, none⟩])
 (.cond (.tmp 75)
 (.seq
 (.ops [
 ⟨(some 6), (.assign (.const (.bool false))), 4, none⟩])
 .ret)
 .skip))
 (.seq
 (.ops [
 ⟨(some 6), (.assign (.const (.bool true))), 4, none⟩])
 .ret)))))))))))))))))
theorem slim4 : Try.f4.body.map (slim lends) = some k4 := by kernel_rfl
theorem ok4 : fnOk Try.f4 3 = true := by kernel_rfl
theorem c4 {a l : List D} {r : D × List D} (h : wpD Y.env k4 (fin tys l.length [ResultVar.tmp 6] r) (entry a l)) (ha : a.length = 3) : Y.call 4 a l = some r :=
  call_slim (Y := Y) rfl Try.func4 (ha ▸ ok4) slim4 h
theorem l_FnExactIsPartial_call (t0_Labels : Int) (t0_Degree : Int) (t0_Nodes : List (List Int)) (t0_Edges : List (List Int)) (t1_Ends : List (List (Int × Int))) (t1_Ids : List Int) (t1_Inputs : List Int) (t2_ : List (List Int)) {r : Bool} (h : l_FnExactIsPartial t0_Labels t0_Degree t0_Nodes t0_Edges t1_Ends t1_Ids t1_Inputs t2_ = some r) : Y.call 4 [D.agg [D.int .i64 t0_Labels, D.int .i64 t0_Degree, D.sl 23 (lst (fun x => D.sl 3 (lst (D.int .i64) x)) t0_Nodes), D.sl 23 (lst (fun x => D.sl 3 (lst (D.int .i64) x)) t0_Edges)], D.agg [D.sl 90 (lst (fun x => D.sl 128 (cat2 .i64 .i64 x)) t1_Ends), D.sl 3 (lst (D.int .i64) t1_Ids), D.sl 3 (lst (D.int .i64) t1_Inputs)], D.sl 23 (lst (fun x => D.sl 3 (lst (D.int .i64) x)) t2_)] [] = some (D.bool r, []) := by
  refine c4 ?_ rfl
  unfold k4
  unfold l_FnExactIsPartial at h
  obtain ⟨e1, h⟩ := ckS h
  obtain ⟨e2, h⟩ := ckS h
  obtain ⟨e3, h⟩ := ckS h
  have c4 := l_szProblem_cl t0_Labels t0_Degree t0_Nodes t0_Edges (1048576 : Int) e1 e2 e3
  by_cases e5 : (szP (1048576 : Int) t0_Nodes t0_Edges) < 0
  · rw [if_pos e5] at h
    obtain rfl := Option.some.inj h
    simp (maxDischargeDepth := 9) only [↓xpre, xpost, xcore, yset, ↓reduceIte, Nat.reduceEqDiff, Nat.reduceLT, Nat.reduceAdd, c4, e5] <;> (repeat' apply And.intro) <;> first | rfl | exact ⟨_, rfl⟩ | simp [lst, cat2_nil]
  · rw [if_neg e5] at h
    obtain ⟨e6, h⟩ := ckS h
    obtain ⟨e7, h⟩ := ckS h
    obtain ⟨e8, h⟩ := ckS h
    obtain ⟨e9, h⟩ := ckS h
    have c10 := l_szNetwork_cl t1_Ends t1_Ids t1_Inputs (szP (1048576 : Int) t0_Nodes t0_Edges) e6 e7 e8 e9
    by_cases e11 : (szW (szP (1048576 : Int) t0_Nodes t0_Edges) t1_Ends t1_Ids t1_Inputs) < 0
    · rw [if_pos e11] at h
      obtain rfl := Option.some.inj h
      simp (maxDischargeDepth := 9) only [↓xpre, xpost, xcore, yset, ↓reduceIte, Nat.reduceEqDiff, Nat.reduceLT, Nat.reduceAdd, c4, e5, c10, e11] <;> (repeat' apply And.intro) <;> first | rfl | exact ⟨_, rfl⟩ | simp [lst, cat2_nil]
    · rw [if_neg e11] at h
      obtain ⟨e12, h⟩ := ckS h
      obtain ⟨e13, h⟩ := ckS h
      have c14 := l_szIntSS_cl t2_ (szW (szP (1048576 : Int) t0_Nodes t0_Edges) t1_Ends t1_Ids t1_Inputs) e12 e13
      by_cases e15 : (szN (szW (szP (1048576 : Int) t0_Nodes t0_Edges) t1_Ends t1_Ids t1_Inputs) (t2_.length + tot t2_)) < 0
      · rw [if_pos e15] at h
        obtain rfl := Option.some.inj h
        simp (maxDischargeDepth := 9) only [↓xpre, xpost, xcore, yset, ↓reduceIte, Nat.reduceEqDiff, Nat.reduceLT, Nat.reduceAdd, c4, e5, c10, e11, c14, e15] <;> (repeat' apply And.intro) <;> first | rfl | exact ⟨_, rfl⟩ | simp [lst, cat2_nil]
      · rw [if_neg e15] at h
        obtain ⟨e16, h⟩ := ckS h
        obtain ⟨e17, h⟩ := ckS h
        have c18 := l_toProblem_cl t0_Labels t0_Degree t0_Nodes t0_Edges e16 e17
        obtain ⟨e19, h⟩ := ckS h
        obtain ⟨e20, h⟩ := ckS h
        obtain ⟨e21, h⟩ := ckS h
        have c22 := l_toNetwork_cl t1_Ends t1_Ids t1_Inputs e19 e20 e21
        obtain ⟨e23, h⟩ := ckS h
        have c24 := l_toIntSS_cl t2_ e23
        obtain ⟨r25_, hl25, h⟩ := bindS h
        try dsimp only at h
        have c25 := s_IsPartial_call t0_Labels t0_Degree t0_Nodes t0_Edges t1_Ends t1_Ids t1_Inputs t2_ hl25
        have c26 := l_toProblem_cl t0_Labels t0_Degree t0_Nodes t0_Edges e16 e17
        have c27 := l_toNetwork_cl t1_Ends t1_Ids t1_Inputs e19 e20 e21
        have c28 := l_toIntSS_cl t2_ e23
        obtain ⟨r29_, hl29, h⟩ := bindS h
        try dsimp only at h
        have c29 := i_IsPartial_call t0_Labels t0_Degree t0_Nodes t0_Edges t1_Ends t1_Ids t1_Inputs t2_ hl29
        by_cases e30 : r29_.1 = true
        · rw [if_pos e30] at h
          by_cases e31 : r25_.1 = true
          · rw [if_pos e31] at h
            by_cases e32 : r29_.2 = true
            · rw [if_pos e32] at h
              by_cases e33 : r25_.2 = true
              · rw [if_pos e33] at h
                have c34 := l_toProblem_cl t0_Labels t0_Degree t0_Nodes t0_Edges e16 e17
                have c35 := l_eqProblem_cl t0_Labels t0_Degree t0_Nodes t0_Edges t0_Labels t0_Degree t0_Nodes t0_Edges e16 e17
                by_cases e36 : (sameP t0_Labels t0_Degree t0_Nodes t0_Edges t0_Labels t0_Degree t0_Nodes t0_Edges) = true
                · rw [if_pos e36] at h
                  have c37 := l_toNetwork_cl t1_Ends t1_Ids t1_Inputs e19 e20 e21
                  have c38 := l_eqNetwork_cl t1_Ends t1_Ids t1_Inputs t1_Ends t1_Ids t1_Inputs e19 e20 e21
                  by_cases e39 : (sameN t1_Ends t1_Ids t1_Inputs t1_Ends t1_Ids t1_Inputs) = true
                  · rw [if_pos e39] at h
                    have c40 := l_toIntSS_cl t2_ e23
                    have c41 := l_eqIntSS_cl t2_ t2_ e23
                    by_cases e42 : (decide (t2_ = t2_)) = true
                    · rw [if_pos e42] at h
                      obtain rfl := Option.some.inj h
                      simp (maxDischargeDepth := 9) only [↓xpre, xpost, xlst, xc2, xcore, yset, ↓reduceIte, Nat.reduceEqDiff, Nat.reduceLT, Nat.reduceAdd, Nat.reduceBEq, c4, e5, c10, e11, c14, e15, c18, c22, c24, c25, c29, e30, e31, e32, e33, c35, e36, c38, e39, c41] <;> (repeat' apply And.intro) <;> first | rfl | exact ⟨_, rfl⟩ | simp [lst, cat2_nil]
                    · exact absurd (decide_eq_true rfl) e42
                  · rw [if_neg e39] at h
                    have e39f : (sameN t1_Ends t1_Ids t1_Inputs t1_Ends t1_Ids t1_Inputs) = false := Bool.eq_false_iff.mpr e39
                    obtain rfl := Option.some.inj h
                    simp (maxDischargeDepth := 9) only [↓xpre, xpost, xlst, xc2, xcore, yset, ↓reduceIte, Nat.reduceEqDiff, Nat.reduceLT, Nat.reduceAdd, Nat.reduceBEq, c4, e5, c10, e11, c14, e15, c18, c22, c24, c25, c29, e30, e31, e32, e33, c35, e36, c38, e39f] <;> (repeat' apply And.intro) <;> first | rfl | exact ⟨_, rfl⟩ | simp [lst, cat2_nil]
                · rw [if_neg e36] at h
                  have e36f : (sameP t0_Labels t0_Degree t0_Nodes t0_Edges t0_Labels t0_Degree t0_Nodes t0_Edges) = false := Bool.eq_false_iff.mpr e36
                  obtain rfl := Option.some.inj h
                  simp (maxDischargeDepth := 9) only [↓xpre, xpost, xlst, xc2, xcore, yset, ↓reduceIte, Nat.reduceEqDiff, Nat.reduceLT, Nat.reduceAdd, Nat.reduceBEq, c4, e5, c10, e11, c14, e15, c18, c22, c24, c25, c29, e30, e31, e32, e33, c35, e36f] <;> (repeat' apply And.intro) <;> first | rfl | exact ⟨_, rfl⟩ | simp [lst, cat2_nil]
              · rw [if_neg e33] at h
                have e33f : r25_.2 = false := Bool.eq_false_iff.mpr e33
                obtain rfl := Option.some.inj h
                simp (maxDischargeDepth := 9) only [↓xpre, xpost, xlst, xc2, xcore, yset, ↓reduceIte, Nat.reduceEqDiff, Nat.reduceLT, Nat.reduceAdd, Nat.reduceBEq, c4, e5, c10, e11, c14, e15, c18, c22, c24, c25, c29, e30, e31, e32, e33f] <;> (repeat' apply And.intro) <;> first | rfl | exact ⟨_, rfl⟩ | simp [lst, cat2_nil]
            · rw [if_neg e32] at h
              have e32f : r29_.2 = false := Bool.eq_false_iff.mpr e32
              by_cases e33 : r25_.2 = true
              · rw [if_pos e33] at h
                obtain rfl := Option.some.inj h
                simp (maxDischargeDepth := 9) only [↓xpre, xpost, xlst, xc2, xcore, yset, ↓reduceIte, Nat.reduceEqDiff, Nat.reduceLT, Nat.reduceAdd, Nat.reduceBEq, c4, e5, c10, e11, c14, e15, c18, c22, c24, c25, c29, e30, e31, e32f, e33] <;> (repeat' apply And.intro) <;> first | rfl | exact ⟨_, rfl⟩ | simp [lst, cat2_nil]
              · rw [if_neg e33] at h
                have e33f : r25_.2 = false := Bool.eq_false_iff.mpr e33
                have c34 := l_toProblem_cl t0_Labels t0_Degree t0_Nodes t0_Edges e16 e17
                have c35 := l_eqProblem_cl t0_Labels t0_Degree t0_Nodes t0_Edges t0_Labels t0_Degree t0_Nodes t0_Edges e16 e17
                by_cases e36 : (sameP t0_Labels t0_Degree t0_Nodes t0_Edges t0_Labels t0_Degree t0_Nodes t0_Edges) = true
                · rw [if_pos e36] at h
                  have c37 := l_toNetwork_cl t1_Ends t1_Ids t1_Inputs e19 e20 e21
                  have c38 := l_eqNetwork_cl t1_Ends t1_Ids t1_Inputs t1_Ends t1_Ids t1_Inputs e19 e20 e21
                  by_cases e39 : (sameN t1_Ends t1_Ids t1_Inputs t1_Ends t1_Ids t1_Inputs) = true
                  · rw [if_pos e39] at h
                    have c40 := l_toIntSS_cl t2_ e23
                    have c41 := l_eqIntSS_cl t2_ t2_ e23
                    by_cases e42 : (decide (t2_ = t2_)) = true
                    · rw [if_pos e42] at h
                      obtain rfl := Option.some.inj h
                      simp (maxDischargeDepth := 9) only [↓xpre, xpost, xlst, xc2, xcore, yset, ↓reduceIte, Nat.reduceEqDiff, Nat.reduceLT, Nat.reduceAdd, Nat.reduceBEq, c4, e5, c10, e11, c14, e15, c18, c22, c24, c25, c29, e30, e31, e32f, e33f, c35, e36, c38, e39, c41] <;> (repeat' apply And.intro) <;> first | rfl | exact ⟨_, rfl⟩ | simp [lst, cat2_nil]
                    · exact absurd (decide_eq_true rfl) e42
                  · rw [if_neg e39] at h
                    have e39f : (sameN t1_Ends t1_Ids t1_Inputs t1_Ends t1_Ids t1_Inputs) = false := Bool.eq_false_iff.mpr e39
                    obtain rfl := Option.some.inj h
                    simp (maxDischargeDepth := 9) only [↓xpre, xpost, xlst, xc2, xcore, yset, ↓reduceIte, Nat.reduceEqDiff, Nat.reduceLT, Nat.reduceAdd, Nat.reduceBEq, c4, e5, c10, e11, c14, e15, c18, c22, c24, c25, c29, e30, e31, e32f, e33f, c35, e36, c38, e39f] <;> (repeat' apply And.intro) <;> first | rfl | exact ⟨_, rfl⟩ | simp [lst, cat2_nil]
                · rw [if_neg e36] at h
                  have e36f : (sameP t0_Labels t0_Degree t0_Nodes t0_Edges t0_Labels t0_Degree t0_Nodes t0_Edges) = false := Bool.eq_false_iff.mpr e36
                  obtain rfl := Option.some.inj h
                  simp (maxDischargeDepth := 9) only [↓xpre, xpost, xlst, xc2, xcore, yset, ↓reduceIte, Nat.reduceEqDiff, Nat.reduceLT, Nat.reduceAdd, Nat.reduceBEq, c4, e5, c10, e11, c14, e15, c18, c22, c24, c25, c29, e30, e31, e32f, e33f, c35, e36f] <;> (repeat' apply And.intro) <;> first | rfl | exact ⟨_, rfl⟩ | simp [lst, cat2_nil]
          · rw [if_neg e31] at h
            have e31f : r25_.1 = false := Bool.eq_false_iff.mpr e31
            obtain rfl := Option.some.inj h
            simp (maxDischargeDepth := 9) only [↓xpre, xpost, xlst, xc2, xcore, yset, ↓reduceIte, Nat.reduceEqDiff, Nat.reduceLT, Nat.reduceAdd, Nat.reduceBEq, c4, e5, c10, e11, c14, e15, c18, c22, c24, c25, c29, e30, e31f] <;> (repeat' apply And.intro) <;> first | rfl | exact ⟨_, rfl⟩ | simp [lst, cat2_nil]
        · rw [if_neg e30] at h
          have e30f : r29_.1 = false := Bool.eq_false_iff.mpr e30
          by_cases e31 : r25_.1 = true
          · rw [if_pos e31] at h
            obtain rfl := Option.some.inj h
            simp (maxDischargeDepth := 9) only [↓xpre, xpost, xlst, xc2, xcore, yset, ↓reduceIte, Nat.reduceEqDiff, Nat.reduceLT, Nat.reduceAdd, Nat.reduceBEq, c4, e5, c10, e11, c14, e15, c18, c22, c24, c25, c29, e30f, e31] <;> (repeat' apply And.intro) <;> first | rfl | exact ⟨_, rfl⟩ | simp [lst, cat2_nil]
          · rw [if_neg e31] at h
            have e31f : r25_.1 = false := Bool.eq_false_iff.mpr e31
            by_cases e32 : r29_.2 = true
            · rw [if_pos e32] at h
              by_cases e33 : r25_.2 = true
              · rw [if_pos e33] at h
                have c34 := l_toProblem_cl t0_Labels t0_Degree t0_Nodes t0_Edges e16 e17
                have c35 := l_eqProblem_cl t0_Labels t0_Degree t0_Nodes t0_Edges t0_Labels t0_Degree t0_Nodes t0_Edges e16 e17
                by_cases e36 : (sameP t0_Labels t0_Degree t0_Nodes t0_Edges t0_Labels t0_Degree t0_Nodes t0_Edges) = true
                · rw [if_pos e36] at h
                  have c37 := l_toNetwork_cl t1_Ends t1_Ids t1_Inputs e19 e20 e21
                  have c38 := l_eqNetwork_cl t1_Ends t1_Ids t1_Inputs t1_Ends t1_Ids t1_Inputs e19 e20 e21
                  by_cases e39 : (sameN t1_Ends t1_Ids t1_Inputs t1_Ends t1_Ids t1_Inputs) = true
                  · rw [if_pos e39] at h
                    have c40 := l_toIntSS_cl t2_ e23
                    have c41 := l_eqIntSS_cl t2_ t2_ e23
                    by_cases e42 : (decide (t2_ = t2_)) = true
                    · rw [if_pos e42] at h
                      obtain rfl := Option.some.inj h
                      simp (maxDischargeDepth := 9) only [↓xpre, xpost, xlst, xc2, xcore, yset, ↓reduceIte, Nat.reduceEqDiff, Nat.reduceLT, Nat.reduceAdd, Nat.reduceBEq, c4, e5, c10, e11, c14, e15, c18, c22, c24, c25, c29, e30f, e31f, e32, e33, c35, e36, c38, e39, c41] <;> (repeat' apply And.intro) <;> first | rfl | exact ⟨_, rfl⟩ | simp [lst, cat2_nil]
                    · exact absurd (decide_eq_true rfl) e42
                  · rw [if_neg e39] at h
                    have e39f : (sameN t1_Ends t1_Ids t1_Inputs t1_Ends t1_Ids t1_Inputs) = false := Bool.eq_false_iff.mpr e39
                    obtain rfl := Option.some.inj h
                    simp (maxDischargeDepth := 9) only [↓xpre, xpost, xlst, xc2, xcore, yset, ↓reduceIte, Nat.reduceEqDiff, Nat.reduceLT, Nat.reduceAdd, Nat.reduceBEq, c4, e5, c10, e11, c14, e15, c18, c22, c24, c25, c29, e30f, e31f, e32, e33, c35, e36, c38, e39f] <;> (repeat' apply And.intro) <;> first | rfl | exact ⟨_, rfl⟩ | simp [lst, cat2_nil]
                · rw [if_neg e36] at h
                  have e36f : (sameP t0_Labels t0_Degree t0_Nodes t0_Edges t0_Labels t0_Degree t0_Nodes t0_Edges) = false := Bool.eq_false_iff.mpr e36
                  obtain rfl := Option.some.inj h
                  simp (maxDischargeDepth := 9) only [↓xpre, xpost, xlst, xc2, xcore, yset, ↓reduceIte, Nat.reduceEqDiff, Nat.reduceLT, Nat.reduceAdd, Nat.reduceBEq, c4, e5, c10, e11, c14, e15, c18, c22, c24, c25, c29, e30f, e31f, e32, e33, c35, e36f] <;> (repeat' apply And.intro) <;> first | rfl | exact ⟨_, rfl⟩ | simp [lst, cat2_nil]
              · rw [if_neg e33] at h
                have e33f : r25_.2 = false := Bool.eq_false_iff.mpr e33
                obtain rfl := Option.some.inj h
                simp (maxDischargeDepth := 9) only [↓xpre, xpost, xlst, xc2, xcore, yset, ↓reduceIte, Nat.reduceEqDiff, Nat.reduceLT, Nat.reduceAdd, Nat.reduceBEq, c4, e5, c10, e11, c14, e15, c18, c22, c24, c25, c29, e30f, e31f, e32, e33f] <;> (repeat' apply And.intro) <;> first | rfl | exact ⟨_, rfl⟩ | simp [lst, cat2_nil]
            · rw [if_neg e32] at h
              have e32f : r29_.2 = false := Bool.eq_false_iff.mpr e32
              by_cases e33 : r25_.2 = true
              · rw [if_pos e33] at h
                obtain rfl := Option.some.inj h
                simp (maxDischargeDepth := 9) only [↓xpre, xpost, xlst, xc2, xcore, yset, ↓reduceIte, Nat.reduceEqDiff, Nat.reduceLT, Nat.reduceAdd, Nat.reduceBEq, c4, e5, c10, e11, c14, e15, c18, c22, c24, c25, c29, e30f, e31f, e32f, e33] <;> (repeat' apply And.intro) <;> first | rfl | exact ⟨_, rfl⟩ | simp [lst, cat2_nil]
              · rw [if_neg e33] at h
                have e33f : r25_.2 = false := Bool.eq_false_iff.mpr e33
                have c34 := l_toProblem_cl t0_Labels t0_Degree t0_Nodes t0_Edges e16 e17
                have c35 := l_eqProblem_cl t0_Labels t0_Degree t0_Nodes t0_Edges t0_Labels t0_Degree t0_Nodes t0_Edges e16 e17
                by_cases e36 : (sameP t0_Labels t0_Degree t0_Nodes t0_Edges t0_Labels t0_Degree t0_Nodes t0_Edges) = true
                · rw [if_pos e36] at h
                  have c37 := l_toNetwork_cl t1_Ends t1_Ids t1_Inputs e19 e20 e21
                  have c38 := l_eqNetwork_cl t1_Ends t1_Ids t1_Inputs t1_Ends t1_Ids t1_Inputs e19 e20 e21
                  by_cases e39 : (sameN t1_Ends t1_Ids t1_Inputs t1_Ends t1_Ids t1_Inputs) = true
                  · rw [if_pos e39] at h
                    have c40 := l_toIntSS_cl t2_ e23
                    have c41 := l_eqIntSS_cl t2_ t2_ e23
                    by_cases e42 : (decide (t2_ = t2_)) = true
                    · rw [if_pos e42] at h
                      obtain rfl := Option.some.inj h
                      simp (maxDischargeDepth := 9) only [↓xpre, xpost, xlst, xc2, xcore, yset, ↓reduceIte, Nat.reduceEqDiff, Nat.reduceLT, Nat.reduceAdd, Nat.reduceBEq, c4, e5, c10, e11, c14, e15, c18, c22, c24, c25, c29, e30f, e31f, e32f, e33f, c35, e36, c38, e39, c41] <;> (repeat' apply And.intro) <;> first | rfl | exact ⟨_, rfl⟩ | simp [lst, cat2_nil]
                    · exact absurd (decide_eq_true rfl) e42
                  · rw [if_neg e39] at h
                    have e39f : (sameN t1_Ends t1_Ids t1_Inputs t1_Ends t1_Ids t1_Inputs) = false := Bool.eq_false_iff.mpr e39
                    obtain rfl := Option.some.inj h
                    simp (maxDischargeDepth := 9) only [↓xpre, xpost, xlst, xc2, xcore, yset, ↓reduceIte, Nat.reduceEqDiff, Nat.reduceLT, Nat.reduceAdd, Nat.reduceBEq, c4, e5, c10, e11, c14, e15, c18, c22, c24, c25, c29, e30f, e31f, e32f, e33f, c35, e36, c38, e39f] <;> (repeat' apply And.intro) <;> first | rfl | exact ⟨_, rfl⟩ | simp [lst, cat2_nil]
                · rw [if_neg e36] at h
                  have e36f : (sameP t0_Labels t0_Degree t0_Nodes t0_Edges t0_Labels t0_Degree t0_Nodes t0_Edges) = false := Bool.eq_false_iff.mpr e36
                  obtain rfl := Option.some.inj h
                  simp (maxDischargeDepth := 9) only [↓xpre, xpost, xlst, xc2, xcore, yset, ↓reduceIte, Nat.reduceEqDiff, Nat.reduceLT, Nat.reduceAdd, Nat.reduceBEq, c4, e5, c10, e11, c14, e15, c18, c22, c24, c25, c29, e30f, e31f, e32f, e33f, c35, e36f] <;> (repeat' apply And.intro) <;> first | rfl | exact ⟨_, rfl⟩ | simp [lst, cat2_nil]


end Go.Proofs.Ytjkgcfdcfjkkbaa
