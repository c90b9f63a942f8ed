/- The problem of colouring, as a plain function, and its law. Conditions: none. -/
import Derived.Test.YthaimoghceamnaaL5
import Derived.Test.YthaimoghceamnaaPM
namespace Go.Proofs.Ythaimoghceamnaa
open Go Dv
set_option linter.unusedSimpArgs false
set_option linter.unusedVariables false
set_option maxRecDepth 100000
set_option maxHeartbeats 4000000

theorem sort_same (a : Int) (n : Nat) (h : n ≤ 3) : sortI (a :: List.replicate n a) = a :: List.replicate n a := by
  have : n = 0 ∨ n = 1 ∨ n = 2 ∨ n = 3 := by omega
  rcases this with rfl | rfl | rfl | rfl <;> simp [sortI, insR, List.replicate_succ]
noncomputable def i_ColoringProblem_l0_S (d : Int) (k : Int) (p_2 : List (List Int)) (t22_ : Int) (r6_ : (List Int)) (p_31 : List (List Int)) (b : Int) : Option (((List (List Int)) × Int) ⊕ ((List (List Int)))) :=
  if b < k then
    ck (p_31.length + 1 < 1099511627776) <|
    some (Sum.inl ((p_31 ++ [[t22_, b]]), IntKind.i64.wrap (b + 1)))
  else
    some (Sum.inr p_31)
noncomputable def i_ColoringProblem_l0 (d : Int) (k : Int) (p_2 : List (List Int)) (t22_ : Int) (r6_ : (List Int)) (v : (List (List Int)) × Int) : Option ((List (List Int))) := itO (fun v => i_ColoringProblem_l0_S d k p_2 t22_ r6_ v.1 v.2) v
noncomputable def i_ColoringProblem_l1_S (d : Int) (k : Int) (p_2 : List (List Int)) (p_3 : List (List Int)) (t22_ : Int) : Option (((List (List Int)) × (List (List Int)) × Int) ⊕ ((List (List Int)) × (List (List Int)))) :=
  if t22_ < k then
    (i_oneAnd t22_ t22_ d).bind fun r6_ =>
    ck (p_2.length + 1 < 1099511627776) <|
    (i_ColoringProblem_l0 d k p_2 t22_ r6_ (p_3, IntKind.i64.wrap (t22_ + 1))).bind fun r9_ =>
    some (Sum.inl ((p_2 ++ [r6_]), r9_, IntKind.i64.wrap (t22_ + 1)))
  else
    some (Sum.inr (p_2, p_3))
noncomputable def i_ColoringProblem_l1 (d : Int) (k : Int) (v : (List (List Int)) × (List (List Int)) × Int) : Option ((List (List Int)) × (List (List Int))) := itO (fun v => i_ColoringProblem_l1_S d k v.1 v.2.1 v.2.2) v
noncomputable def i_ColoringProblem (d : Int) (k : Int) : Option (Int × Int × (List (List Int)) × (List (List Int)) × Bool) :=
  (i_isArity d).bind fun r1_ =>
  if r1_ = true then
    if (inR k (1 : Int) (8 : Int)) = true then
      (i_ColoringProblem_l1 d k ([], [], 0)).bind fun r6_ =>
      (i_madeProblem k d r6_.1 r6_.2).bind fun r7_ =>
      match r7_ with
      | .inl q7_ =>
        some (q7_.1, q7_.2.1, q7_.2.2.1, q7_.2.2.2.1, q7_.2.2.2.2)
      | .inr q7_ =>
        some (q7_.1, q7_.2.1, q7_.2.2.1, q7_.2.2.2.1, q7_.2.2.2.2.1)
    else
      some (0, 0, [], [], false)
  else
    some (0, 0, [], [], false)
/-- impl.ColoringProblem -/
def k38_l0b : SC :=
  .seq
    (.seq
      (.ops [
        ⟨(some 36), (Op.move (Operand.tmp 8)), 3, none⟩,
        ⟨(some 37), (Op.move (Operand.tmp 1)), 3, none⟩,
        ⟨(some 38), (Op.binOp BinOp.lss 3 (Operand.tmp 36) (Operand.tmp 37) 3), 4, none⟩])
      (.cond (Operand.tmp 38)
        .skip
        (.exit 2)))
    (.seq
      (.block 3
        (.ops [
          ⟨(some 41), (Op.fieldAddr 39 (Operand.tmp 6) 3), 0, none⟩,
          ⟨(some 42), (Op.load 34 (Operand.tmp 41)), 34, none⟩,
          ⟨(some 43), (Op.move (Operand.tmp 7)), 3, none⟩,
          ⟨(some 44), (Op.move (Operand.tmp 8)), 3, none⟩,
          ⟨(some 45), (Op.buildSlice 25 2 #[(0, (Operand.tmp 43)), (1, (Operand.tmp 44))]), 25, none⟩,
          ⟨(some 46), (Op.buildSlice 34 1 #[(0, (Operand.tmp 45))]), 34, none⟩,
          ⟨(some 47), (Op.call { callee := (Callee.builtin Builtin.append), args := #[(Operand.tmp 42), (Operand.tmp 46)], argTypes := #[34, 34] }), 34, none⟩,
          ⟨(some 48), (Op.fieldAddr 39 (Operand.tmp 6) 3), 0, none⟩,
          ⟨none, (Op.store 34 (Operand.tmp 48) (Operand.tmp 47)), 0, none⟩]))
      (.ops [
        ⟨(some 39), (Op.move (Operand.tmp 8)), 3, none⟩,
        ⟨(some 40), (Op.binOp BinOp.add 3 (Operand.tmp 39) (Operand.const (Value.int IntKind.i64 1)) 3), 3, none⟩,
        ⟨(some 8), (Op.assign (Operand.tmp 40)), 3, none⟩]))
def k38_l0 : SC := .loop k38_l0b
def k38_l1b : SC :=
  .seq
    (.ops [
      ⟨(some 23), (Op.binOp BinOp.lss 3 (Operand.tmp 22) (Operand.tmp 21) 3), 4, none⟩])
    (.seq
      (.cond (Operand.tmp 23)
        .skip
        (.exit 0))
      (.seq
        (.block 1
          (.seq
            (.ops [
              ⟨(some 24), (Op.move (Operand.tmp 22)), 3, none⟩,
              ⟨(some 7), (Op.assign (Operand.tmp 24)), 3, none⟩])
            (.seq
              (.draws [
                (⟨[25, 6, 6], [25, 26, 27, 28, 29, 30, 31, 30, 30, 32, 26, 31, 6, 31, 33, 33, 32, 6, 32], [25]⟩, ⟨(some 25), (Op.fieldAddr 39 (Operand.tmp 6) 2), 0, none⟩),
                (⟨[26, 25, 6], [25, 26, 27, 28, 29, 30, 31, 30, 30, 32, 26, 31, 6, 31, 33, 33, 32, 6, 32], [26]⟩, ⟨(some 26), (Op.load 34 (Operand.tmp 25)), 34, none⟩),
                (⟨[27, 7, 7], [25, 26, 27, 28, 29, 30, 31, 30, 30, 32, 26, 31, 6, 31, 33, 33, 32, 6, 32], [27]⟩, ⟨(some 27), (Op.move (Operand.tmp 7)), 3, none⟩),
                (⟨[28, 7, 7], [25, 26, 27, 28, 29, 30, 31, 30, 30, 32, 26, 31, 6, 31, 33, 33, 32, 6, 32], [28]⟩, ⟨(some 28), (Op.move (Operand.tmp 7)), 3, none⟩),
                (⟨[29, 0, 0], [25, 26, 27, 28, 29, 30, 31, 30, 30, 32, 26, 31, 6, 31, 33, 33, 32, 6, 32], [29]⟩, ⟨(some 29), (Op.move (Operand.tmp 0)), 3, none⟩),
                (⟨[30, 27, 28, 29, 7, 7, 0], [25, 26, 27, 28, 29, 30, 31, 30, 30, 32, 26, 31, 6, 31, 33, 33, 32, 6, 32], [30]⟩, ⟨(some 30), (Op.call { callee := (Callee.value (Operand.func 62)), args := #[(Operand.tmp 27), (Operand.tmp 28), (Operand.tmp 29)], argTypes := #[3, 3, 3] }), 25, none⟩),
                (⟨[31, 30, 30], [25, 26, 27, 28, 29, 30, 31, 30, 30, 32, 26, 31, 6, 31, 33, 33, 32, 6, 32], [31, 30, 30]⟩, ⟨(some 31), (Op.buildSlice 34 1 #[(0, (Operand.tmp 30))]), 34, none⟩),
                (⟨[32, 26, 31, 6, 31], [25, 26, 27, 28, 29, 30, 31, 30, 30, 32, 26, 31, 6, 31, 33, 33, 32, 6, 32], [32, 26, 31, 6, 31]⟩, ⟨(some 32), (Op.call { callee := (Callee.builtin Builtin.append), args := #[(Operand.tmp 26), (Operand.tmp 31)], argTypes := #[34, 34] }), 34, none⟩),
                (⟨[33, 6, 6], [25, 26, 27, 28, 29, 30, 31, 30, 30, 32, 26, 31, 6, 31, 33, 33, 32, 6, 32], [33]⟩, ⟨(some 33), (Op.fieldAddr 39 (Operand.tmp 6) 2), 0, none⟩),
                (⟨[33, 32, 6, 32], [25, 26, 27, 28, 29, 30, 31, 30, 30, 32, 26, 31, 6, 31, 33, 33, 32, 6, 32], [33, 32, 6, 32]⟩, ⟨none, (Op.store 34 (Operand.tmp 33) (Operand.tmp 32)), 0, none⟩)])
              (.seq
                (.ops [
                  ⟨(some 34), (Op.move (Operand.tmp 7)), 3, none⟩,
                  ⟨(some 35), (Op.binOp BinOp.add 3 (Operand.tmp 34) (Operand.const (Value.int IntKind.i64 1)) 3), 3, none⟩,
                  ⟨(some 8), (Op.assign (Operand.tmp 35)), 3, none⟩])
                (.block 2
                  k38_l0)))))
        (.ops [
          ⟨(some 49), (Op.binOp BinOp.add 3 (Operand.tmp 22) (Operand.const (Value.int IntKind.i64 1)) 3), 3, none⟩,
          ⟨(some 22), (Op.move (Operand.tmp 49)), 3, none⟩])))
def k38_l1 : SC := .loop k38_l1b
def k38 : SC :=
  .seq
    (.ops [
      ⟨(some 4), (Op.alloc 39), 0, none⟩,
      ⟨(some 5), (Op.assign (Operand.const (Value.bool false))), 4, none⟩])
    (.seq
      (.seq
        (.ops [
          ⟨(some 9), (Op.move (Operand.tmp 0)), 3, none⟩,
          ⟨(some 10), (Op.call { callee := (Callee.value (Operand.func 60)), args := #[(Operand.tmp 9)], argTypes := #[3] }), 4, none⟩,
          ⟨(some 11), (Op.unOp UnOp.not 4 (Operand.tmp 10)), 4, none⟩,
          ⟨(some 12), (Op.move (Operand.tmp 11)), 4, none⟩,
          ⟨(some 13), (Op.move (Operand.tmp 1)), 3, (some (some 12, false))⟩,
          ⟨(some 14), (Op.call { callee := (Callee.value (Operand.func 52)), args := #[(Operand.tmp 13), (Operand.const (Value.int IntKind.i64 1)), (Operand.const (Value.int IntKind.i64 8))], argTypes := #[3, 3, 3] }), 4, (some (some 12, false))⟩,
          ⟨(some 15), (Op.unOp UnOp.not 4 (Operand.tmp 14)), 4, (some (some 12, false))⟩,
          ⟨(some 16), (Op.pick (Operand.tmp 12) (Operand.const (Value.bool true)) (Operand.tmp 15)), 4, none⟩])
        (.cond (Operand.tmp 16)
          (.seq
            (.ops [
              ⟨(some 17), (Op.build 39 #[]), 39, none⟩,
              ⟨none, (Op.store 39 (Operand.tmp 4) (Operand.tmp 17)), 0, none⟩,
              ⟨(some 5), (Op.assign (Operand.const (Value.bool false))), 4, none⟩])
            .ret)
          .skip))
      (.seq
        (.ops [
          ⟨(some 18), (Op.move (Operand.tmp 1)), 3, none⟩,
          ⟨(some 19), (Op.move (Operand.tmp 0)), 3, none⟩,
          ⟨(some 20), (Op.build 39 #[(0, (Operand.tmp 18)), (1, (Operand.tmp 19))]), 39, none⟩,
          ⟨(some 6), (Op.alloc 39), 0, none⟩,
          ⟨none, (Op.store 39 (Operand.tmp 6) (Operand.tmp 20)), 0, none⟩])
        (.seq
          (.seq
            (.ops [
              ⟨(some 21), (Op.move (Operand.tmp 1)), 3, none⟩,
              ⟨(some 22), (Op.move (Operand.const (Value.int IntKind.i64 0))), 3, none⟩])
            (.block 0
              k38_l1))
          (.seq
            (.ops [
              ⟨(some 50), (Op.load 39 (Operand.tmp 6)), 39, none⟩,
              ⟨(some 51), (Op.call { callee := (Callee.value (Operand.func 61)), args := #[(Operand.tmp 50)], argTypes := #[39] }), 43, none⟩,
              ⟨(some 52), (Op.extract (Operand.tmp 51) 0), 39, none⟩,
              ⟨(some 53), (Op.extract (Operand.tmp 51) 1), 4, none⟩,
              ⟨none, (Op.store 39 (Operand.tmp 4) (Operand.tmp 52)), 0, none⟩,
              ⟨(some 5), (Op.assign (Operand.tmp 53)), 4, none⟩])
            .ret))))
theorem slim38 : Try.f38.body.map (slim lends) = some k38 := by kernel_rfl
theorem ok38 : fnOk Try.f38 2 = true := by kernel_rfl
theorem c38 {a l : List D} {r : D × List D} (h : wpD Y.env k38 (fin tys l.length [ResultVar.cell 4 39, ResultVar.tmp 5] r) (entry a l)) (ha : a.length = 2) : Y.call 38 a l = some r :=
  call_slim (Y := Y) rfl Try.func38 (ha ▸ ok38) slim38 h
def i_ColoringProblem_l0_M (d : Int) (k : Int) (p_2 : List (List Int)) (t22_ : Int) (r6_ : (List Int)) (p_31 : List (List Int)) (b : Int) (s : St) : Prop := s.v 0 = D.int .i64 d ∧ s.v 1 = D.int .i64 k ∧ s.v 4 = D.box [D.int .i64 0, D.int .i64 0, D.own 25 [], D.own 25 []] ∧ s.v 6 = D.box [D.int .i64 k, D.int .i64 d, D.own 25 (lst (fun x => D.own 3 (lst (D.int .i64) x)) (p_2 ++ [r6_])), D.own 25 (lst (fun x => D.own 3 (lst (D.int .i64) x)) p_31)] ∧ s.v 7 = D.int .i64 t22_ ∧ s.v 8 = D.int .i64 b ∧ s.v 21 = D.int .i64 k ∧ s.v 22 = D.int .i64 t22_
def i_ColoringProblem_l0_X (d : Int) (k : Int) (p_2 : List (List Int)) (t22_ : Int) (r6_ : (List Int)) (r : (List (List Int))) (ex : Ex) (s : St) : Prop := ex = .exit 2 ∧ s.v 0 = D.int .i64 d ∧ s.v 1 = D.int .i64 k ∧ s.v 4 = D.box [D.int .i64 0, D.int .i64 0, D.own 25 [], D.own 25 []] ∧ s.v 6 = D.box [D.int .i64 k, D.int .i64 d, D.own 25 (lst (fun x => D.own 3 (lst (D.int .i64) x)) (p_2 ++ [r6_])), D.own 25 (lst (fun x => D.own 3 (lst (D.int .i64) x)) r)] ∧ s.v 21 = D.int .i64 k ∧ s.v 22 = D.int .i64 t22_
theorem i_ColoringProblem_l0_wp (d : Int) (k : Int) (p_2 : List (List Int)) (t22_ : Int) (r6_ : (List Int)) {v : (List (List Int)) × Int} {s : St} {r : (List (List Int))} (h : i_ColoringProblem_l0 d k p_2 t22_ r6_ v = some r) (hM : i_ColoringProblem_l0_M d k p_2 t22_ r6_ v.1 v.2 s) : wpD Y.env k38_l0 (i_ColoringProblem_l0_X d k p_2 t22_ r6_ r) s := by
  unfold i_ColoringProblem_l0 at h
  refine wd_itO (c := k38_l0b) (fun v => i_ColoringProblem_l0_S d k p_2 t22_ r6_ v.1 v.2) (fun v s => i_ColoringProblem_l0_M d k p_2 t22_ r6_ v.1 v.2 s) (i_ColoringProblem_l0_X d k p_2 t22_ r6_) ?_ h hM
  clear h hM s v r
  intro v s o hM h
  obtain ⟨p_31, b⟩ := v
  dsimp only at h hM
  unfold i_ColoringProblem_l0_S at h
  unfold i_ColoringProblem_l0_M at hM
  obtain ⟨m0, m1, m2, m3, m4, m5, m6, m7⟩ := hM
  unfold k38_l0b
  by_cases e8 : b < k
  · rw [if_pos e8] at h
    obtain ⟨e9, h⟩ := ckS h
    obtain rfl := Option.some.inj h
    simp (maxDischargeDepth := 9) only [↓xpre, xpost, xlst, xcore, yset, rg0, ↓reduceIte, Nat.reduceEqDiff, Nat.reduceLT, Nat.reduceLeDiff, Nat.reduceAdd, Nat.reduceMul, Nat.reduceMod, Nat.reduceSub, Nat.reduceBEq, Int.reduceLE, Int.reduceLT, Int.reduceEq, Int.reduceSub, Int.reduceAdd, Int.reduceToNat, Int.reduceNeg, m0, m1, m2, m3, m4, m5, m6, m7, e8, e9, i_ColoringProblem_l0_M, i_ColoringProblem_l0_X, sxN, sxE, sxR] <;> (repeat' apply And.intro) <;> first | rfl | exact ⟨_, rfl⟩ | simp [lst]
  · rw [if_neg e8] at h
    obtain rfl := Option.some.inj h
    simp (maxDischargeDepth := 9) only [↓xpre, xpost, xlst, xcore, yset, rg0, ↓reduceIte, Nat.reduceEqDiff, Nat.reduceLT, Nat.reduceLeDiff, Nat.reduceAdd, Nat.reduceMul, Nat.reduceMod, Nat.reduceSub, Nat.reduceBEq, Int.reduceLE, Int.reduceLT, Int.reduceEq, Int.reduceSub, Int.reduceAdd, Int.reduceToNat, Int.reduceNeg, m0, m1, m2, m3, m4, m5, m6, m7, e8, i_ColoringProblem_l0_M, i_ColoringProblem_l0_X, sxN, sxE, sxR] <;> (repeat' apply And.intro) <;> first | rfl | exact ⟨_, rfl⟩ | simp [lst]
def i_ColoringProblem_l1_M (d : Int) (k : Int) (p_2 : List (List Int)) (p_3 : List (List Int)) (t22_ : Int) (s : St) : Prop := s.v 0 = D.int .i64 d ∧ s.v 1 = D.int .i64 k ∧ s.v 4 = D.box [D.int .i64 0, D.int .i64 0, D.own 25 [], D.own 25 []] ∧ s.v 6 = D.box [D.int .i64 k, D.int .i64 d, D.own 25 (lst (fun x => D.own 3 (lst (D.int .i64) x)) p_2), D.own 25 (lst (fun x => D.own 3 (lst (D.int .i64) x)) p_3)] ∧ s.v 21 = D.int .i64 k ∧ s.v 22 = D.int .i64 t22_
def i_ColoringProblem_l1_X (d : Int) (k : Int) (r : (List (List Int)) × (List (List Int))) (ex : Ex) (s : St) : Prop := ex = .exit 0 ∧ s.v 4 = D.box [D.int .i64 0, D.int .i64 0, D.own 25 [], D.own 25 []] ∧ s.v 6 = D.box [D.int .i64 k, D.int .i64 d, D.own 25 (lst (fun x => D.own 3 (lst (D.int .i64) x)) r.1), D.own 25 (lst (fun x => D.own 3 (lst (D.int .i64) x)) r.2)]
theorem i_ColoringProblem_l1_wp (d : Int) (k : Int) {v : (List (List Int)) × (List (List Int)) × Int} {s : St} {r : (List (List Int)) × (List (List Int))} (h : i_ColoringProblem_l1 d k v = some r) (hM : i_ColoringProblem_l1_M d k v.1 v.2.1 v.2.2 s) : wpD Y.env k38_l1 (i_ColoringProblem_l1_X d k r) s := by
  unfold i_ColoringProblem_l1 at h
  refine wd_itO (c := k38_l1b) (fun v => i_ColoringProblem_l1_S d k v.1 v.2.1 v.2.2) (fun v s => i_ColoringProblem_l1_M d k v.1 v.2.1 v.2.2 s) (i_ColoringProblem_l1_X d k) ?_ h hM
  clear h hM s v r
  intro v s o hM h
  obtain ⟨p_2, p_3, t22_⟩ := v
  dsimp only at h hM
  unfold i_ColoringProblem_l1_S at h
  unfold i_ColoringProblem_l1_M at hM
  obtain ⟨m0, m1, m2, m3, m4, m5⟩ := hM
  unfold k38_l1b
  by_cases e5 : t22_ < k
  · rw [if_pos e5] at h
    obtain ⟨r6_, hl6, h⟩ := bindS h
    try dsimp only at h
    have c6 := i_oneAnd_call t22_ t22_ d hl6
    obtain ⟨e7, h⟩ := ckS h
    obtain ⟨r9_, hl9, h⟩ := bindS h
    try dsimp only at h
    simp (maxDischargeDepth := 9) only [↓xpre, xpost, xlst, xcore, yset, rg0, ↓reduceIte, Nat.reduceEqDiff, Nat.reduceLT, Nat.reduceLeDiff, Nat.reduceAdd, Nat.reduceMul, Nat.reduceMod, Nat.reduceSub, Nat.reduceBEq, Int.reduceLE, Int.reduceLT, Int.reduceEq, Int.reduceSub, Int.reduceAdd, Int.reduceToNat, Int.reduceNeg, m0, m1, m2, m3, m4, m5, e5, c6, e7]
    refine wd_mono (i_ColoringProblem_l0_wp d k p_2 t22_ r6_ hl9 ?_) ?_
    · simp (maxDischargeDepth := 9) only [↓xpre, xpost, xlst, xcore, yset, rg0, ↓reduceIte, Nat.reduceEqDiff, Nat.reduceLT, Nat.reduceLeDiff, Nat.reduceAdd, Nat.reduceMul, Nat.reduceMod, Nat.reduceSub, Nat.reduceBEq, Int.reduceLE, Int.reduceLT, Int.reduceEq, Int.reduceSub, Int.reduceAdd, Int.reduceToNat, Int.reduceNeg, m0, m1, m2, m3, m4, m5, e5, c6, e7, i_ColoringProblem_l0_M] <;> (repeat' apply And.intro) <;> first | rfl | exact ⟨_, rfl⟩ | simp [lst]
    · intro ex9 s9 hX9
      unfold i_ColoringProblem_l0_X at hX9
      obtain ⟨rfl, n9_0, n9_1, n9_2, n9_3, n9_4, n9_5⟩ := hX9
      obtain rfl := Option.some.inj h
      simp (maxDischargeDepth := 9) only [↓xpre, xpost, xlst, xcore, yset, rg0, ↓reduceIte, Nat.reduceEqDiff, Nat.reduceLT, Nat.reduceLeDiff, Nat.reduceAdd, Nat.reduceMul, Nat.reduceMod, Nat.reduceSub, Nat.reduceBEq, Int.reduceLE, Int.reduceLT, Int.reduceEq, Int.reduceSub, Int.reduceAdd, Int.reduceToNat, Int.reduceNeg, e5, c6, e7, n9_0, n9_1, n9_2, n9_3, n9_4, n9_5, i_ColoringProblem_l1_M, i_ColoringProblem_l1_X, sxN, sxE, sxR] <;> (repeat' apply And.intro) <;> first | rfl | exact ⟨_, rfl⟩ | simp [lst]
  · rw [if_neg e5] at h
    obtain rfl := Option.some.inj h
    simp (maxDischargeDepth := 9) only [↓xpre, xpost, xlst, xcore, yset, rg0, ↓reduceIte, Nat.reduceEqDiff, Nat.reduceLT, Nat.reduceLeDiff, Nat.reduceAdd, Nat.reduceMul, Nat.reduceMod, Nat.reduceSub, Nat.reduceBEq, Int.reduceLE, Int.reduceLT, Int.reduceEq, Int.reduceSub, Int.reduceAdd, Int.reduceToNat, Int.reduceNeg, m0, m1, m2, m3, m4, m5, e5, i_ColoringProblem_l1_M, i_ColoringProblem_l1_X, sxN, sxE, sxR] <;> (repeat' apply And.intro) <;> first | rfl | exact ⟨_, rfl⟩ | simp [lst]
theorem i_ColoringProblem_call (d : Int) (k : Int) {r : Int × Int × (List (List Int)) × (List (List Int)) × Bool} (h : i_ColoringProblem d k = some r) : Y.call 38 [D.int .i64 d, D.int .i64 k] [] = some (D.tup [D.agg [D.int .i64 r.1, D.int .i64 r.2.1, D.own 25 (lst (fun x => D.own 3 (lst (D.int .i64) x)) r.2.2.1), D.own 25 (lst (fun x => D.own 3 (lst (D.int .i64) x)) r.2.2.2.1)], D.bool r.2.2.2.2], []) := by
  refine c38 ?_ rfl
  unfold k38
  unfold i_ColoringProblem at h
  obtain ⟨r1_, hl1, h⟩ := bindS h
  try dsimp only at h
  have c1 := i_isArity_call d hl1
  by_cases e2 : r1_ = true
  · rw [if_pos e2] at h
    have c3 := i_within_cl k (1 : Int) (8 : Int)
    by_cases e4 : (inR k (1 : Int) (8 : Int)) = true
    · rw [if_pos e4] at h
      obtain ⟨r6_, hl6, h⟩ := bindS h
      try dsimp only at h
      simp (maxDischargeDepth := 9) only [↓xpre, xpost, xlst, xcore, yset, rg0, ↓reduceIte, Nat.reduceEqDiff, Nat.reduceLT, Nat.reduceLeDiff, Nat.reduceAdd, Nat.reduceMul, Nat.reduceMod, Nat.reduceSub, Nat.reduceBEq, Int.reduceLE, Int.reduceLT, Int.reduceEq, Int.reduceSub, Int.reduceAdd, Int.reduceToNat, Int.reduceNeg, c1, e2, c3, e4]
      refine wd_mono (i_ColoringProblem_l1_wp d k hl6 ?_) ?_
      · simp (maxDischargeDepth := 9) only [↓xpre, xpost, xlst, xcore, yset, rg0, ↓reduceIte, Nat.reduceEqDiff, Nat.reduceLT, Nat.reduceLeDiff, Nat.reduceAdd, Nat.reduceMul, Nat.reduceMod, Nat.reduceSub, Nat.reduceBEq, Int.reduceLE, Int.reduceLT, Int.reduceEq, Int.reduceSub, Int.reduceAdd, Int.reduceToNat, Int.reduceNeg, c1, e2, c3, e4, i_ColoringProblem_l1_M] <;> (repeat' apply And.intro) <;> first | rfl | exact ⟨_, rfl⟩ | simp [lst]
      · intro ex6 s6 hX6
        unfold i_ColoringProblem_l1_X at hX6
        obtain ⟨rfl, n6_0, n6_1⟩ := hX6
        obtain ⟨r7_, hl7, h⟩ := bindS h
        try dsimp only at h
        have c7 := i_madeProblem_call k d r6_.1 r6_.2 hl7
        rcases r7_ with q7_ | q7_
        · dsimp only at h c7
          obtain rfl := Option.some.inj h
          simp (maxDischargeDepth := 9) only [↓xpre, xpost, xlst, xcore, yset, rg0, ↓reduceIte, Nat.reduceEqDiff, Nat.reduceLT, Nat.reduceLeDiff, Nat.reduceAdd, Nat.reduceMul, Nat.reduceMod, Nat.reduceSub, Nat.reduceBEq, Int.reduceLE, Int.reduceLT, Int.reduceEq, Int.reduceSub, Int.reduceAdd, Int.reduceToNat, Int.reduceNeg, c1, e2, c3, e4, n6_0, n6_1, c7] <;> (repeat' apply And.intro) <;> first | rfl | exact ⟨_, rfl⟩ | simp [lst]
        · dsimp only at h c7
          obtain rfl := Option.some.inj h
          simp (maxDischargeDepth := 9) only [↓xpre, xpost, xlst, xcore, yset, rg0, ↓reduceIte, Nat.reduceEqDiff, Nat.reduceLT, Nat.reduceLeDiff, Nat.reduceAdd, Nat.reduceMul, Nat.reduceMod, Nat.reduceSub, Nat.reduceBEq, Int.reduceLE, Int.reduceLT, Int.reduceEq, Int.reduceSub, Int.reduceAdd, Int.reduceToNat, Int.reduceNeg, c1, e2, c3, e4, n6_0, n6_1, c7] <;> (repeat' apply And.intro) <;> first | rfl | exact ⟨_, rfl⟩ | simp [lst]
    · rw [if_neg e4] at h
      have e4f : (inR k (1 : Int) (8 : Int)) = false := Bool.eq_false_iff.mpr e4
      obtain rfl := Option.some.inj h
      simp (maxDischargeDepth := 9) only [↓xpre, xpost, xlst, xcore, yset, rg0, ↓reduceIte, Nat.reduceEqDiff, Nat.reduceLT, Nat.reduceLeDiff, Nat.reduceAdd, Nat.reduceMul, Nat.reduceMod, Nat.reduceSub, Nat.reduceBEq, Int.reduceLE, Int.reduceLT, Int.reduceEq, Int.reduceSub, Int.reduceAdd, Int.reduceToNat, Int.reduceNeg, c1, e2, c3, e4f] <;> (repeat' apply And.intro) <;> first | rfl | exact ⟨_, rfl⟩ | simp [lst]
  · rw [if_neg e2] at h
    have e2f : r1_ = false := Bool.eq_false_iff.mpr e2
    obtain rfl := Option.some.inj h
    simp (maxDischargeDepth := 9) only [↓xpre, xpost, xlst, xcore, yset, rg0, ↓reduceIte, Nat.reduceEqDiff, Nat.reduceLT, Nat.reduceLeDiff, Nat.reduceAdd, Nat.reduceMul, Nat.reduceMod, Nat.reduceSub, Nat.reduceBEq, Int.reduceLE, Int.reduceLT, Int.reduceEq, Int.reduceSub, Int.reduceAdd, Int.reduceToNat, Int.reduceNeg, c1, e2f] <;> (repeat' apply And.intro) <;> first | rfl | exact ⟨_, rfl⟩ | simp [lst]

noncomputable def s_ColoringProblem_l0_S (d : Int) (k : Int) (p_2 : List (List Int)) (a : Int) (r6_ : (List Int)) (p_31 : List (List Int)) (b : Int) : Option (((List (List Int)) × Int) ⊕ ((List (List Int)))) :=
  if b < k then
    ck (p_31.length + 1 < 1099511627776) <|
    some (Sum.inl ((p_31 ++ [[a, b]]), IntKind.i64.wrap (b + 1)))
  else
    some (Sum.inr p_31)
noncomputable def s_ColoringProblem_l0 (d : Int) (k : Int) (p_2 : List (List Int)) (a : Int) (r6_ : (List Int)) (v : (List (List Int)) × Int) : Option ((List (List Int))) := itO (fun v => s_ColoringProblem_l0_S d k p_2 a r6_ v.1 v.2) v
noncomputable def s_ColoringProblem_l1_S (d : Int) (k : Int) (p_2 : List (List Int)) (p_3 : List (List Int)) (a : Int) : Option (((List (List Int)) × (List (List Int)) × Int) ⊕ ((List (List Int)) × (List (List Int)))) :=
  if a < k then
    (s_prRow d a a).bind fun r6_ =>
    ck (p_2.length + 1 < 1099511627776) <|
    (s_ColoringProblem_l0 d k p_2 a r6_ (p_3, IntKind.i64.wrap (a + 1))).bind fun r9_ =>
    some (Sum.inl ((p_2 ++ [r6_]), r9_, IntKind.i64.wrap (a + 1)))
  else
    some (Sum.inr (p_2, p_3))
noncomputable def s_ColoringProblem_l1 (d : Int) (k : Int) (v : (List (List Int)) × (List (List Int)) × Int) : Option ((List (List Int)) × (List (List Int))) := itO (fun v => s_ColoringProblem_l1_S d k v.1 v.2.1 v.2.2) v
noncomputable def s_ColoringProblem (d : Int) (k : Int) : Option (Int × Int × (List (List Int)) × (List (List Int)) × Bool) :=
  if (inR d (1 : Int) (4 : Int)) = true then
    if (inR k (1 : Int) (8 : Int)) = true then
      (s_ColoringProblem_l1 d k ([], [], 0)).bind fun r6_ =>
      some (k, d, r6_.1, r6_.2, true)
    else
      some (0, 0, [], [], false)
  else
    some (0, 0, [], [], false)
/-- spec.ColoringProblem -/
def k37_l0b : SC :=
  .seq
    (.seq
      (.ops [
        ⟨(some 37), (Op.move (Operand.tmp 8)), 3, none⟩,
        ⟨(some 38), (Op.move (Operand.tmp 1)), 3, none⟩,
        ⟨(some 39), (Op.binOp BinOp.lss 3 (Operand.tmp 37) (Operand.tmp 38) 3), 4, none⟩])
      (.cond (Operand.tmp 39)
        .skip
        (.exit 2)))
    (.seq
      (.block 3
        (.ops [
          ⟨(some 42), (Op.fieldAddr 39 (Operand.tmp 6) 3), 0, none⟩,
          ⟨(some 43), (Op.load 34 (Operand.tmp 42)), 34, none⟩,
          ⟨(some 44), (Op.move (Operand.tmp 7)), 3, none⟩,
          ⟨(some 45), (Op.move (Operand.tmp 8)), 3, none⟩,
          ⟨(some 46), (Op.buildSlice 25 2 #[(0, (Operand.tmp 44)), (1, (Operand.tmp 45))]), 25, none⟩,
          ⟨(some 47), (Op.buildSlice 34 1 #[(0, (Operand.tmp 46))]), 34, none⟩,
          ⟨(some 48), (Op.call { callee := (Callee.builtin Builtin.append), args := #[(Operand.tmp 43), (Operand.tmp 47)], argTypes := #[34, 34] }), 34, none⟩,
          ⟨(some 49), (Op.fieldAddr 39 (Operand.tmp 6) 3), 0, none⟩,
          ⟨none, (Op.store 34 (Operand.tmp 49) (Operand.tmp 48)), 0, none⟩]))
      (.ops [
        ⟨(some 40), (Op.move (Operand.tmp 8)), 3, none⟩,
        ⟨(some 41), (Op.binOp BinOp.add 3 (Operand.tmp 40) (Operand.const (Value.int IntKind.i64 1)) 3), 3, none⟩,
        ⟨(some 8), (Op.assign (Operand.tmp 41)), 3, none⟩]))
def k37_l0 : SC := .loop k37_l0b
def k37_l1b : SC :=
  .seq
    (.seq
      (.ops [
        ⟨(some 21), (Op.move (Operand.tmp 7)), 3, none⟩,
        ⟨(some 22), (Op.move (Operand.tmp 1)), 3, none⟩,
        ⟨(some 23), (Op.binOp BinOp.lss 3 (Operand.tmp 21) (Operand.tmp 22) 3), 4, none⟩])
      (.cond (Operand.tmp 23)
        .skip
        (.exit 0)))
    (.seq
      (.block 1
        (.seq
          (.draws [
            (⟨[26, 6, 6], [26, 27, 28, 29, 30, 31, 32, 31, 31, 33, 27, 32, 6, 32, 34, 34, 33, 6, 33], [26]⟩, ⟨(some 26), (Op.fieldAddr 39 (Operand.tmp 6) 2), 0, none⟩),
            (⟨[27, 26, 6], [26, 27, 28, 29, 30, 31, 32, 31, 31, 33, 27, 32, 6, 32, 34, 34, 33, 6, 33], [27]⟩, ⟨(some 27), (Op.load 34 (Operand.tmp 26)), 34, none⟩),
            (⟨[28, 0, 0], [26, 27, 28, 29, 30, 31, 32, 31, 31, 33, 27, 32, 6, 32, 34, 34, 33, 6, 33], [28]⟩, ⟨(some 28), (Op.move (Operand.tmp 0)), 3, none⟩),
            (⟨[29, 7, 7], [26, 27, 28, 29, 30, 31, 32, 31, 31, 33, 27, 32, 6, 32, 34, 34, 33, 6, 33], [29]⟩, ⟨(some 29), (Op.move (Operand.tmp 7)), 3, none⟩),
            (⟨[30, 7, 7], [26, 27, 28, 29, 30, 31, 32, 31, 31, 33, 27, 32, 6, 32, 34, 34, 33, 6, 33], [30]⟩, ⟨(some 30), (Op.move (Operand.tmp 7)), 3, none⟩),
            (⟨[31, 28, 29, 30, 0, 7, 7], [26, 27, 28, 29, 30, 31, 32, 31, 31, 33, 27, 32, 6, 32, 34, 34, 33, 6, 33], [31]⟩, ⟨(some 31), (Op.call { callee := (Callee.value (Operand.func 59)), args := #[(Operand.tmp 28), (Operand.tmp 29), (Operand.tmp 30)], argTypes := #[3, 3, 3] }), 25, none⟩),
            (⟨[32, 31, 31], [26, 27, 28, 29, 30, 31, 32, 31, 31, 33, 27, 32, 6, 32, 34, 34, 33, 6, 33], [32, 31, 31]⟩, ⟨(some 32), (Op.buildSlice 34 1 #[(0, (Operand.tmp 31))]), 34, none⟩),
            (⟨[33, 27, 32, 6, 32], [26, 27, 28, 29, 30, 31, 32, 31, 31, 33, 27, 32, 6, 32, 34, 34, 33, 6, 33], [33, 27, 32, 6, 32]⟩, ⟨(some 33), (Op.call { callee := (Callee.builtin Builtin.append), args := #[(Operand.tmp 27), (Operand.tmp 32)], argTypes := #[34, 34] }), 34, none⟩),
            (⟨[34, 6, 6], [26, 27, 28, 29, 30, 31, 32, 31, 31, 33, 27, 32, 6, 32, 34, 34, 33, 6, 33], [34]⟩, ⟨(some 34), (Op.fieldAddr 39 (Operand.tmp 6) 2), 0, none⟩),
            (⟨[34, 33, 6, 33], [26, 27, 28, 29, 30, 31, 32, 31, 31, 33, 27, 32, 6, 32, 34, 34, 33, 6, 33], [34, 33, 6, 33]⟩, ⟨none, (Op.store 34 (Operand.tmp 34) (Operand.tmp 33)), 0, none⟩)])
          (.seq
            (.ops [
              ⟨(some 35), (Op.move (Operand.tmp 7)), 3, none⟩,
              ⟨(some 36), (Op.binOp BinOp.add 3 (Operand.tmp 35) (Operand.const (Value.int IntKind.i64 1)) 3), 3, none⟩,
              ⟨(some 8), (Op.assign (Operand.tmp 36)), 3, none⟩])
            (.block 2
              k37_l0))))
      (.ops [
        ⟨(some 24), (Op.move (Operand.tmp 7)), 3, none⟩,
        ⟨(some 25), (Op.binOp BinOp.add 3 (Operand.tmp 24) (Operand.const (Value.int IntKind.i64 1)) 3), 3, none⟩,
        ⟨(some 7), (Op.assign (Operand.tmp 25)), 3, none⟩]))
def k37_l1 : SC := .loop k37_l1b
def k37 : SC :=
  .seq
    (.ops [
      ⟨(some 4), (Op.alloc 39), 0, none⟩,
      ⟨(some 5), (Op.assign (Operand.const (Value.bool false))), 4, none⟩])
    (.seq
      (.seq
        (.ops [
          ⟨(some 9), (Op.move (Operand.tmp 0)), 3, none⟩,
          ⟨(some 10), (Op.call { callee := (Callee.value (Operand.func 50)), args := #[(Operand.tmp 9), (Operand.const (Value.int IntKind.i64 1)), (Operand.const (Value.int IntKind.i64 4))], argTypes := #[3, 3, 3] }), 4, none⟩,
          ⟨(some 11), (Op.unOp UnOp.not 4 (Operand.tmp 10)), 4, none⟩,
          ⟨(some 12), (Op.move (Operand.tmp 11)), 4, none⟩,
          ⟨(some 13), (Op.move (Operand.tmp 1)), 3, (some (some 12, false))⟩,
          ⟨(some 14), (Op.call { callee := (Callee.value (Operand.func 50)), args := #[(Operand.tmp 13), (Operand.const (Value.int IntKind.i64 1)), (Operand.const (Value.int IntKind.i64 8))], argTypes := #[3, 3, 3] }), 4, (some (some 12, false))⟩,
          ⟨(some 15), (Op.unOp UnOp.not 4 (Operand.tmp 14)), 4, (some (some 12, false))⟩,
          ⟨(some 16), (Op.pick (Operand.tmp 12) (Operand.const (Value.bool true)) (Operand.tmp 15)), 4, none⟩])
        (.cond (Operand.tmp 16)
          (.seq
            (.ops [
              ⟨(some 17), (Op.build 39 #[]), 39, none⟩,
              ⟨none, (Op.store 39 (Operand.tmp 4) (Operand.tmp 17)), 0, none⟩,
              ⟨(some 5), (Op.assign (Operand.const (Value.bool false))), 4, none⟩])
            .ret)
          .skip))
      (.seq
        (.ops [
          ⟨(some 18), (Op.move (Operand.tmp 1)), 3, none⟩,
          ⟨(some 19), (Op.move (Operand.tmp 0)), 3, none⟩,
          ⟨(some 20), (Op.build 39 #[(0, (Operand.tmp 18)), (1, (Operand.tmp 19))]), 39, none⟩,
          ⟨(some 6), (Op.alloc 39), 0, none⟩,
          ⟨none, (Op.store 39 (Operand.tmp 6) (Operand.tmp 20)), 0, none⟩])
        (.seq
          (.seq
            (.ops [
              ⟨(some 7), (Op.assign (Operand.const (Value.int IntKind.i64 0))), 3, none⟩])
            (.block 0
              k37_l1))
          (.seq
            (.ops [
              ⟨(some 50), (Op.load 39 (Operand.tmp 6)), 39, none⟩,
              ⟨none, (Op.store 39 (Operand.tmp 4) (Operand.tmp 50)), 0, none⟩,
              ⟨(some 5), (Op.assign (Operand.const (Value.bool true))), 4, none⟩])
            .ret))))
theorem slim37 : Try.f37.body.map (slim lends) = some k37 := by kernel_rfl
theorem ok37 : fnOk Try.f37 2 = true := by kernel_rfl
theorem c37 {a l : List D} {r : D × List D} (h : wpD Y.env k37 (fin tys l.length [ResultVar.cell 4 39, ResultVar.tmp 5] r) (entry a l)) (ha : a.length = 2) : Y.call 37 a l = some r :=
  call_slim (Y := Y) rfl Try.func37 (ha ▸ ok37) slim37 h
def s_ColoringProblem_l0_M (d : Int) (k : Int) (p_2 : List (List Int)) (a : Int) (r6_ : (List Int)) (p_31 : List (List Int)) (b : Int) (s : St) : Prop := s.v 0 = D.int .i64 d ∧ s.v 1 = D.int .i64 k ∧ s.v 4 = D.box [D.int .i64 0, D.int .i64 0, D.own 25 [], D.own 25 []] ∧ s.v 6 = D.box [D.int .i64 k, D.int .i64 d, D.own 25 (lst (fun x => D.own 3 (lst (D.int .i64) x)) (p_2 ++ [r6_])), D.own 25 (lst (fun x => D.own 3 (lst (D.int .i64) x)) p_31)] ∧ s.v 7 = D.int .i64 a ∧ s.v 8 = D.int .i64 b
def s_ColoringProblem_l0_X (d : Int) (k : Int) (p_2 : List (List Int)) (a : Int) (r6_ : (List Int)) (r : (List (List Int))) (ex : Ex) (s : St) : Prop := ex = .exit 2 ∧ s.v 0 = D.int .i64 d ∧ s.v 1 = D.int .i64 k ∧ s.v 4 = D.box [D.int .i64 0, D.int .i64 0, D.own 25 [], D.own 25 []] ∧ s.v 6 = D.box [D.int .i64 k, D.int .i64 d, D.own 25 (lst (fun x => D.own 3 (lst (D.int .i64) x)) (p_2 ++ [r6_])), D.own 25 (lst (fun x => D.own 3 (lst (D.int .i64) x)) r)] ∧ s.v 7 = D.int .i64 a
theorem s_ColoringProblem_l0_wp (d : Int) (k : Int) (p_2 : List (List Int)) (a : Int) (r6_ : (List Int)) {v : (List (List Int)) × Int} {s : St} {r : (List (List Int))} (h : s_ColoringProblem_l0 d k p_2 a r6_ v = some r) (hM : s_ColoringProblem_l0_M d k p_2 a r6_ v.1 v.2 s) : wpD Y.env k37_l0 (s_ColoringProblem_l0_X d k p_2 a r6_ r) s := by
  unfold s_ColoringProblem_l0 at h
  refine wd_itO (c := k37_l0b) (fun v => s_ColoringProblem_l0_S d k p_2 a r6_ v.1 v.2) (fun v s => s_ColoringProblem_l0_M d k p_2 a r6_ v.1 v.2 s) (s_ColoringProblem_l0_X d k p_2 a r6_) ?_ h hM
  clear h hM s v r
  intro v s o hM h
  obtain ⟨p_31, b⟩ := v
  dsimp only at h hM
  unfold s_ColoringProblem_l0_S at h
  unfold s_ColoringProblem_l0_M at hM
  obtain ⟨m0, m1, m2, m3, m4, m5⟩ := hM
  unfold k37_l0b
  by_cases e8 : b < k
  · rw [if_pos e8] at h
    obtain ⟨e9, h⟩ := ckS h
    obtain rfl := Option.some.inj h
    simp (maxDischargeDepth := 9) only [↓xpre, xpost, xlst, xcore, yset, rg0, ↓reduceIte, Nat.reduceEqDiff, Nat.reduceLT, Nat.reduceLeDiff, Nat.reduceAdd, Nat.reduceMul, Nat.reduceMod, Nat.reduceSub, Nat.reduceBEq, Int.reduceLE, Int.reduceLT, Int.reduceEq, Int.reduceSub, Int.reduceAdd, Int.reduceToNat, Int.reduceNeg, m0, m1, m2, m3, m4, m5, e8, e9, s_ColoringProblem_l0_M, s_ColoringProblem_l0_X, sxN, sxE, sxR] <;> (repeat' apply And.intro) <;> first | rfl | exact ⟨_, rfl⟩ | simp [lst]
  · rw [if_neg e8] at h
    obtain rfl := Option.some.inj h
    simp (maxDischargeDepth := 9) only [↓xpre, xpost, xlst, xcore, yset, rg0, ↓reduceIte, Nat.reduceEqDiff, Nat.reduceLT, Nat.reduceLeDiff, Nat.reduceAdd, Nat.reduceMul, Nat.reduceMod, Nat.reduceSub, Nat.reduceBEq, Int.reduceLE, Int.reduceLT, Int.reduceEq, Int.reduceSub, Int.reduceAdd, Int.reduceToNat, Int.reduceNeg, m0, m1, m2, m3, m4, m5, e8, s_ColoringProblem_l0_M, s_ColoringProblem_l0_X, sxN, sxE, sxR] <;> (repeat' apply And.intro) <;> first | rfl | exact ⟨_, rfl⟩ | simp [lst]
def s_ColoringProblem_l1_M (d : Int) (k : Int) (p_2 : List (List Int)) (p_3 : List (List Int)) (a : Int) (s : St) : Prop := s.v 0 = D.int .i64 d ∧ s.v 1 = D.int .i64 k ∧ s.v 4 = D.box [D.int .i64 0, D.int .i64 0, D.own 25 [], D.own 25 []] ∧ s.v 6 = D.box [D.int .i64 k, D.int .i64 d, D.own 25 (lst (fun x => D.own 3 (lst (D.int .i64) x)) p_2), D.own 25 (lst (fun x => D.own 3 (lst (D.int .i64) x)) p_3)] ∧ s.v 7 = D.int .i64 a
def s_ColoringProblem_l1_X (d : Int) (k : Int) (r : (List (List Int)) × (List (List Int))) (ex : Ex) (s : St) : Prop := ex = .exit 0 ∧ s.v 4 = D.box [D.int .i64 0, D.int .i64 0, D.own 25 [], D.own 25 []] ∧ s.v 6 = D.box [D.int .i64 k, D.int .i64 d, D.own 25 (lst (fun x => D.own 3 (lst (D.int .i64) x)) r.1), D.own 25 (lst (fun x => D.own 3 (lst (D.int .i64) x)) r.2)]
theorem s_ColoringProblem_l1_wp (d : Int) (k : Int) {v : (List (List Int)) × (List (List Int)) × Int} {s : St} {r : (List (List Int)) × (List (List Int))} (h : s_ColoringProblem_l1 d k v = some r) (hM : s_ColoringProblem_l1_M d k v.1 v.2.1 v.2.2 s) : wpD Y.env k37_l1 (s_ColoringProblem_l1_X d k r) s := by
  unfold s_ColoringProblem_l1 at h
  refine wd_itO (c := k37_l1b) (fun v => s_ColoringProblem_l1_S d k v.1 v.2.1 v.2.2) (fun v s => s_ColoringProblem_l1_M d k v.1 v.2.1 v.2.2 s) (s_ColoringProblem_l1_X d k) ?_ h hM
  clear h hM s v r
  intro v s o hM h
  obtain ⟨p_2, p_3, a⟩ := v
  dsimp only at h hM
  unfold s_ColoringProblem_l1_S at h
  unfold s_ColoringProblem_l1_M at hM
  obtain ⟨m0, m1, m2, m3, m4⟩ := hM
  unfold k37_l1b
  by_cases e5 : a < k
  · rw [if_pos e5] at h
    obtain ⟨r6_, hl6, h⟩ := bindS h
    try dsimp only at h
    have c6 := s_prRow_call d a a hl6
    obtain ⟨e7, h⟩ := ckS h
    obtain ⟨r9_, hl9, h⟩ := bindS h
    try dsimp only at h
    simp (maxDischargeDepth := 9) only [↓xpre, xpost, xlst, xcore, yset, rg0, ↓reduceIte, Nat.reduceEqDiff, Nat.reduceLT, Nat.reduceLeDiff, Nat.reduceAdd, Nat.reduceMul, Nat.reduceMod, Nat.reduceSub, Nat.reduceBEq, Int.reduceLE, Int.reduceLT, Int.reduceEq, Int.reduceSub, Int.reduceAdd, Int.reduceToNat, Int.reduceNeg, m0, m1, m2, m3, m4, e5, c6, e7]
    refine wd_mono (s_ColoringProblem_l0_wp d k p_2 a r6_ hl9 ?_) ?_
    · simp (maxDischargeDepth := 9) only [↓xpre, xpost, xlst, xcore, yset, rg0, ↓reduceIte, Nat.reduceEqDiff, Nat.reduceLT, Nat.reduceLeDiff, Nat.reduceAdd, Nat.reduceMul, Nat.reduceMod, Nat.reduceSub, Nat.reduceBEq, Int.reduceLE, Int.reduceLT, Int.reduceEq, Int.reduceSub, Int.reduceAdd, Int.reduceToNat, Int.reduceNeg, m0, m1, m2, m3, m4, e5, c6, e7, s_ColoringProblem_l0_M] <;> (repeat' apply And.intro) <;> first | rfl | exact ⟨_, rfl⟩ | simp [lst]
    · intro ex9 s9 hX9
      unfold s_ColoringProblem_l0_X at hX9
      obtain ⟨rfl, n9_0, n9_1, n9_2, n9_3, n9_4⟩ := hX9
      obtain rfl := Option.some.inj h
      simp (maxDischargeDepth := 9) only [↓xpre, xpost, xlst, xcore, yset, rg0, ↓reduceIte, Nat.reduceEqDiff, Nat.reduceLT, Nat.reduceLeDiff, Nat.reduceAdd, Nat.reduceMul, Nat.reduceMod, Nat.reduceSub, Nat.reduceBEq, Int.reduceLE, Int.reduceLT, Int.reduceEq, Int.reduceSub, Int.reduceAdd, Int.reduceToNat, Int.reduceNeg, e5, c6, e7, n9_0, n9_1, n9_2, n9_3, n9_4, s_ColoringProblem_l1_M, s_ColoringProblem_l1_X, sxN, sxE, sxR] <;> (repeat' apply And.intro) <;> first | rfl | exact ⟨_, rfl⟩ | simp [lst]
  · rw [if_neg e5] at h
    obtain rfl := Option.some.inj h
    simp (maxDischargeDepth := 9) only [↓xpre, xpost, xlst, xcore, yset, rg0, ↓reduceIte, Nat.reduceEqDiff, Nat.reduceLT, Nat.reduceLeDiff, Nat.reduceAdd, Nat.reduceMul, Nat.reduceMod, Nat.reduceSub, Nat.reduceBEq, Int.reduceLE, Int.reduceLT, Int.reduceEq, Int.reduceSub, Int.reduceAdd, Int.reduceToNat, Int.reduceNeg, m0, m1, m2, m3, m4, e5, s_ColoringProblem_l1_M, s_ColoringProblem_l1_X, sxN, sxE, sxR] <;> (repeat' apply And.intro) <;> first | rfl | exact ⟨_, rfl⟩ | simp [lst]
theorem s_ColoringProblem_call (d : Int) (k : Int) {r : Int × Int × (List (List Int)) × (List (List Int)) × Bool} (h : s_ColoringProblem d k = some r) : Y.call 37 [D.int .i64 d, D.int .i64 k] [] = some (D.tup [D.agg [D.int .i64 r.1, D.int .i64 r.2.1, D.own 25 (lst (fun x => D.own 3 (lst (D.int .i64) x)) r.2.2.1), D.own 25 (lst (fun x => D.own 3 (lst (D.int .i64) x)) r.2.2.2.1)], D.bool r.2.2.2.2], []) := by
  refine c37 ?_ rfl
  unfold k37
  unfold s_ColoringProblem at h
  have c1 := s_l1In_cl d (1 : Int) (4 : Int)
  by_cases e2 : (inR d (1 : Int) (4 : Int)) = true
  · rw [if_pos e2] at h
    have c3 := s_l1In_cl k (1 : Int) (8 : Int)
    by_cases e4 : (inR k (1 : Int) (8 : Int)) = true
    · rw [if_pos e4] at h
      obtain ⟨r6_, hl6, h⟩ := bindS h
      try dsimp only at h
      simp (maxDischargeDepth := 9) only [↓xpre, xpost, xlst, xcore, yset, rg0, ↓reduceIte, Nat.reduceEqDiff, Nat.reduceLT, Nat.reduceLeDiff, Nat.reduceAdd, Nat.reduceMul, Nat.reduceMod, Nat.reduceSub, Nat.reduceBEq, Int.reduceLE, Int.reduceLT, Int.reduceEq, Int.reduceSub, Int.reduceAdd, Int.reduceToNat, Int.reduceNeg, c1, e2, c3, e4]
      refine wd_mono (s_ColoringProblem_l1_wp d k hl6 ?_) ?_
      · simp (maxDischargeDepth := 9) only [↓xpre, xpost, xlst, xcore, yset, rg0, ↓reduceIte, Nat.reduceEqDiff, Nat.reduceLT, Nat.reduceLeDiff, Nat.reduceAdd, Nat.reduceMul, Nat.reduceMod, Nat.reduceSub, Nat.reduceBEq, Int.reduceLE, Int.reduceLT, Int.reduceEq, Int.reduceSub, Int.reduceAdd, Int.reduceToNat, Int.reduceNeg, c1, e2, c3, e4, s_ColoringProblem_l1_M] <;> (repeat' apply And.intro) <;> first | rfl | exact ⟨_, rfl⟩ | simp [lst]
      · intro ex6 s6 hX6
        unfold s_ColoringProblem_l1_X at hX6
        obtain ⟨rfl, n6_0, n6_1⟩ := hX6
        obtain rfl := Option.some.inj h
        simp (maxDischargeDepth := 9) only [↓xpre, xpost, xlst, xcore, yset, rg0, ↓reduceIte, Nat.reduceEqDiff, Nat.reduceLT, Nat.reduceLeDiff, Nat.reduceAdd, Nat.reduceMul, Nat.reduceMod, Nat.reduceSub, Nat.reduceBEq, Int.reduceLE, Int.reduceLT, Int.reduceEq, Int.reduceSub, Int.reduceAdd, Int.reduceToNat, Int.reduceNeg, c1, e2, c3, e4, n6_0, n6_1] <;> (repeat' apply And.intro) <;> first | rfl | exact ⟨_, rfl⟩ | simp [lst]
    · rw [if_neg e4] at h
      have e4f : (inR k (1 : Int) (8 : Int)) = false := Bool.eq_false_iff.mpr e4
      obtain rfl := Option.some.inj h
      simp (maxDischargeDepth := 9) only [↓xpre, xpost, xlst, xcore, yset, rg0, ↓reduceIte, Nat.reduceEqDiff, Nat.reduceLT, Nat.reduceLeDiff, Nat.reduceAdd, Nat.reduceMul, Nat.reduceMod, Nat.reduceSub, Nat.reduceBEq, Int.reduceLE, Int.reduceLT, Int.reduceEq, Int.reduceSub, Int.reduceAdd, Int.reduceToNat, Int.reduceNeg, c1, e2, c3, e4f] <;> (repeat' apply And.intro) <;> first | rfl | exact ⟨_, rfl⟩ | simp [lst]
  · rw [if_neg e2] at h
    have e2f : (inR d (1 : Int) (4 : Int)) = false := Bool.eq_false_iff.mpr e2
    obtain rfl := Option.some.inj h
    simp (maxDischargeDepth := 9) only [↓xpre, xpost, xlst, xcore, yset, rg0, ↓reduceIte, Nat.reduceEqDiff, Nat.reduceLT, Nat.reduceLeDiff, Nat.reduceAdd, Nat.reduceMul, Nat.reduceMod, Nat.reduceSub, Nat.reduceBEq, Int.reduceLE, Int.reduceLT, Int.reduceEq, Int.reduceSub, Int.reduceAdd, Int.reduceToNat, Int.reduceNeg, c1, e2f] <;> (repeat' apply And.intro) <;> first | rfl | exact ⟨_, rfl⟩ | simp [lst]

def colRow (d a : Nat) : List Int := (a : Int) :: List.replicate (d - 1) (a : Int)
def colEdges (k n : Nat) : List (List Int) := (List.range n).flatMap fun a => (List.range (k - (a + 1))).map fun j => [(a : Int), ((a + 1 + j : Nat) : Int)]
theorem col_inner (f : List (List Int) × Int → Option ((List (List Int) × Int) ⊕ List (List Int))) (k a : Nat) (hk : k ≤ 8) (p : List (List Int))
    (hf : ∀ q (b : Int), f (q, b) = if b < (k : Int) then ck (q.length + 1 < 1099511627776) (some (Sum.inl (q ++ [[(a : Int), b]], IntKind.i64.wrap (b + 1)))) else some (Sum.inr q)) (hp : p.length ≤ 100) (ha : a < k) :
    itO f (p, ((a + 1 : Nat) : Int)) = some (p ++ (List.range (k - (a + 1))).map fun j => [(a : Int), ((a + 1 + j : Nat) : Int)]) := by
  have key := itO_for f (fun i => (p ++ (List.range i).map (fun j => [(a : Int), ((a + 1 + j : Nat) : Int)]), ((a + 1 + i : Nat) : Int))) (k - (a + 1)) (p ++ (List.range (k - (a + 1))).map fun j => [(a : Int), ((a + 1 + j : Nat) : Int)]) ?_ ?_
  · simpa using key
  · intro i hi
    rw [hf, if_pos (by omega), ckT (by simp; omega), wrS _ (by omega), List.range_succ, List.map_append, ← List.append_assoc]; rfl
  · rw [hf, if_neg (by omega)]
theorem colEdges_len (k n : Nat) (hk : k ≤ 8) (hn : n ≤ k) : (colEdges k n).length ≤ 8 * n := by
  unfold colEdges
  induction n with
  | zero => simp
  | succ n ih =>
    have := ih (by omega)
    rw [List.range_succ, List.flatMap_append, List.length_append]
    have e : (List.flatMap (fun a : Nat => (List.range (k - (a + 1))).map fun j => [(a : Int), ((a + 1 + j : Nat) : Int)]) [n]).length ≤ 8 := by
      simp only [List.flatMap_cons, List.flatMap_nil, List.append_nil, List.length_map, List.length_range]; omega
    omega
theorem col_outer (f : List (List Int) × List (List Int) × Int → Option ((List (List Int) × List (List Int) × Int) ⊕ (List (List Int) × List (List Int)))) (d k : Nat) (hk : k ≤ 8)
    (hf : ∀ p q (a : Nat), a ≤ k → p.length = a → q.length ≤ 64 → f (p, q, (a : Int)) = if a < k then some (Sum.inl (p ++ [colRow d a], q ++ (List.range (k - (a + 1))).map (fun j => [(a : Int), ((a + 1 + j : Nat) : Int)]), ((a + 1 : Nat) : Int))) else some (Sum.inr (p, q))) :
    itO f ([], [], 0) = some ((List.range k).map (colRow d), colEdges k k) := by
  have key := itO_for f (fun i => ((List.range i).map (colRow d), colEdges k i, (i : Int))) k ((List.range k).map (colRow d), colEdges k k) ?_ ?_
  · exact key
  · intro i hi
    have hl := colEdges_len k i hk (by omega)
    rw [hf _ _ i (by omega) (by simp) (by omega), if_pos hi]
    have e : colEdges k (i + 1) = colEdges k i ++ (List.range (k - (i + 1))).map (fun j => [(i : Int), ((i + 1 + j : Nat) : Int)]) := by
      unfold colEdges; rw [List.range_succ, List.flatMap_append]; simp
    rw [e, List.range_succ, List.map_append]; rfl
  · have hl := colEdges_len k k hk (Nat.le_refl _)
    rw [hf _ _ k (Nat.le_refl _) (by simp) (by omega), if_neg (by omega)]
theorem col_l1 (d k : Nat) (hd : 1 ≤ d ∧ d ≤ 4) (hk : k ≤ 8) : i_ColoringProblem_l1 d k ([], [], 0) = some ((List.range k).map (colRow d), colEdges k k) := by
  unfold i_ColoringProblem_l1
  refine col_outer _ d k hk fun p q a ha hp hq => ?_
  simp only [i_ColoringProblem_l1_S]
  by_cases h : a < k
  · rw [if_pos (by omega), if_pos h, oneAnd_eq _ _ _ (by omega), Option.bind_some, ckT (by omega), wrS a (by omega)]
    have := col_inner (fun v => i_ColoringProblem_l0_S d k p a ((a : Int) :: List.replicate ((d : Int) - 1).toNat a) v.1 v.2) k a hk q (fun q b => rfl) (by omega) h
    unfold i_ColoringProblem_l0
    rw [this, Option.bind_some]
    have e : ((d : Int) - 1).toNat = d - 1 := by omega
    rw [e]; rfl
  · rw [if_neg (by omega), if_neg h]
theorem colS_l1 (d k : Nat) (hd : 1 ≤ d ∧ d ≤ 4) (hk : k ≤ 8) : s_ColoringProblem_l1 d k ([], [], 0) = some ((List.range k).map (colRow d), colEdges k k) := by
  unfold s_ColoringProblem_l1
  refine col_outer _ d k hk fun p q a ha hp hq => ?_
  simp only [s_ColoringProblem_l1_S]
  by_cases h : a < k
  · rw [if_pos (by omega), if_pos h, prRow_eq _ _ _ (by omega), Option.bind_some, ckT (by omega), wrS a (by omega), sort_same _ _ (by omega)]
    have := col_inner (fun v => s_ColoringProblem_l0_S d k p a ((a : Int) :: List.replicate ((d : Int) - 1).toNat a) v.1 v.2) k a hk q (fun q b => rfl) (by omega) h
    unfold s_ColoringProblem_l0
    rw [this, Option.bind_some]
    have e : ((d : Int) - 1).toNat = d - 1 := by omega
    rw [e]; rfl
  · rw [if_neg (by omega), if_neg h]
def colOk (d k : Nat) : Bool := decide (Short ((List.range k).map (colRow d))) && (decide (Short (colEdges k k)) && (isProb k d ((List.range k).map (colRow d)) (colEdges k k) && decide (tot ((List.range k).map (colRow d)) + tot (colEdges k k) ≤ 1000)))
theorem colOk_all : ((List.range 5).all fun d => (List.range 9).all fun k => (d == 0) || ((k == 0) || colOk d k)) = true := by decide +kernel
theorem coloring_both (d k : Int) : ∃ L K N E ok, Short N ∧ Short E ∧ (0 ≤ tot N ∧ 0 ≤ tot E ∧ tot N + tot E ≤ 1000) ∧ s_ColoringProblem d k = some (L, K, N, E, ok) ∧ i_ColoringProblem d k = some (L, K, N, E, ok) := by
  unfold s_ColoringProblem i_ColoringProblem
  rw [i_isArity_eq, Option.bind_some]
  by_cases h : inR d 1 4 = true
  · rw [if_pos h, if_pos h]
    by_cases h2 : inR k 1 8 = true
    · rw [if_pos h2, if_pos h2]
      have hd := inR_iff.1 h
      have hk := inR_iff.1 h2
      obtain ⟨d, rfl⟩ := Int.eq_ofNat_of_zero_le (by omega : 0 ≤ d)
      obtain ⟨k, rfl⟩ := Int.eq_ofNat_of_zero_le (by omega : 0 ≤ k)
      rw [col_l1 d k (by omega) (by omega), colS_l1 d k (by omega) (by omega), Option.bind_some, Option.bind_some]
      have hc := List.all_eq_true.1 (List.all_eq_true.1 colOk_all d (List.mem_range.2 (by omega))) k (List.mem_range.2 (by omega))
      have z1 : (d == 0) = false := by simp; omega
      have z2 : (k == 0) = false := by simp; omega
      simp only [z1, z2, Bool.false_or] at hc
      unfold colOk at hc
      simp only [Bool.and_eq_true, decide_eq_true_eq] at hc
      obtain ⟨c1, c2, c3, c4⟩ := hc
      refine ⟨_, _, _, _, _, c1, c2, ⟨tot_nonneg _, tot_nonneg _, c4⟩, rfl, ?_⟩
      rw [made_eq c1 c2 c3]; rfl
    · rw [if_neg h2, if_neg h2]
      exact ⟨0, 0, [], [], false, Short.nil, Short.nil, by decide, rfl, rfl⟩
  · rw [if_neg h, if_neg h]
    exact ⟨0, 0, [], [], false, Short.nil, Short.nil, by decide, rfl, rfl⟩
noncomputable def l_FnExactColoringProblem (t0_ : Int) (t1_ : Int) : Option (Bool) :=
  (s_ColoringProblem t0_ t1_).bind fun r1_ =>
  (i_ColoringProblem t0_ t1_).bind fun r2_ =>
  ck (Short r2_.2.2.1) <|
  ck (Short r2_.2.2.2.1) <|
  if (sameP r2_.1 r2_.2.1 r2_.2.2.1 r2_.2.2.2.1 r1_.1 r1_.2.1 r1_.2.2.1 r1_.2.2.2.1) = true then
    if r2_.2.2.2.2 = true then
      if r1_.2.2.2.2 = true then
        ck (0 ≤ (1 : Int) ∧ (1 : Int) + tot r2_.2.2.1 + tot r2_.2.2.2.1 < 1099511627776) <|
        (l_heldProblem r2_.1 r2_.2.1 (marks (1 : Int) r2_.2.2.1) (marks ((1 : Int) + tot r2_.2.2.1) r2_.2.2.2.1) (1 : Int)).bind fun r11_ =>
        if r11_ < 0 then
          some false
        else
          if r11_ = ((1 : Int) + tot r2_.2.2.1 + tot r2_.2.2.2.1) then
            some true
          else
            some false
      else
        some false
    else
      if r1_.2.2.2.2 = true then
        some false
      else
        ck (0 ≤ (1 : Int) ∧ (1 : Int) + tot r2_.2.2.1 + tot r2_.2.2.2.1 < 1099511627776) <|
        (l_heldProblem r2_.1 r2_.2.1 (marks (1 : Int) r2_.2.2.1) (marks ((1 : Int) + tot r2_.2.2.1) r2_.2.2.2.1) (1 : Int)).bind fun r11_ =>
        if r11_ < 0 then
          some false
        else
          if r11_ = ((1 : Int) + tot r2_.2.2.1 + tot r2_.2.2.2.1) then
            some true
          else
            some false
  else
    some false
/-- laws.FnExactColoringProblem -/
def k10 : SC :=
  .seq
    (.ops [
      ⟨(some 4), (Op.assign (Operand.const (Value.bool false))), 4, none⟩])
    (.seq
      (.ops [
        ⟨(some 14), (Op.move (Operand.tmp 0)), 3, none⟩,
        ⟨(some 15), (Op.move (Operand.tmp 1)), 3, none⟩,
        ⟨(some 16), (Op.call { callee := (Callee.value (Operand.func 37)), args := #[(Operand.tmp 14), (Operand.tmp 15)], argTypes := #[3, 3] }), 43, none⟩,
        ⟨(some 13), (Op.move (Operand.tmp 16)), 43, none⟩,
        ⟨(some 17), (Op.extract (Operand.tmp 13) 0), 39, none⟩,
        ⟨(some 18), (Op.extract (Operand.tmp 13) 1), 4, none⟩,
        ⟨(some 5), (Op.alloc 39), 0, none⟩,
        ⟨none, (Op.store 39 (Operand.tmp 5) (Operand.tmp 17)), 0, none⟩,
        ⟨(some 6), (Op.assign (Operand.tmp 18)), 4, none⟩])
      (.seq
        (.ops [
          ⟨(some 20), (Op.move (Operand.tmp 0)), 3, none⟩,
          ⟨(some 21), (Op.move (Operand.tmp 1)), 3, none⟩,
          ⟨(some 22), (Op.call { callee := (Callee.value (Operand.func 38)), args := #[(Operand.tmp 20), (Operand.tmp 21)], argTypes := #[3, 3] }), 43, none⟩,
          ⟨(some 19), (Op.move (Operand.tmp 22)), 43, none⟩,
          ⟨(some 23), (Op.extract (Operand.tmp 19) 0), 39, none⟩,
          ⟨(some 24), (Op.extract (Operand.tmp 19) 1), 4, none⟩,
          ⟨(some 7), (Op.alloc 39), 0, none⟩,
          ⟨none, (Op.store 39 (Operand.tmp 7) (Operand.tmp 23)), 0, none⟩,
          ⟨(some 8), (Op.assign (Operand.tmp 24)), 4, none⟩])
        (.seq
          (.seq
            (.ops [
              ⟨(some 25), (Op.load 39 (Operand.tmp 7)), 39, none⟩,
              ⟨(some 26), (Op.load 39 (Operand.tmp 5)), 39, none⟩,
              ⟨(some 27), (Op.call { callee := (Callee.value (Operand.func 28)), args := #[(Operand.tmp 25), (Operand.tmp 26)], argTypes := #[39, 39] }), 4, none⟩,
              ⟨(some 28), (Op.unOp UnOp.not 4 (Operand.tmp 27)), 4, none⟩,
              ⟨(some 29), (Op.move (Operand.tmp 28)), 4, none⟩,
              ⟨(some 30), (Op.move (Operand.tmp 8)), 4, (some (some 29, false))⟩,
              ⟨(some 31), (Op.move (Operand.tmp 6)), 4, (some (some 29, false))⟩,
              ⟨(some 32), (Op.binOp BinOp.neq 4 (Operand.tmp 30) (Operand.tmp 31) 4), 4, (some (some 29, false))⟩,
              ⟨(some 33), (Op.pick (Operand.tmp 29) (Operand.const (Value.bool true)) (Operand.tmp 32)), 4, none⟩])
            (.cond (Operand.tmp 33)
              (.seq
                (.ops [
                  ⟨(some 4), (Op.assign (Operand.const (Value.bool false))), 4, none⟩])
                .ret)
              .skip))
          (.seq
            (.ops [
              ⟨(some 9), (Op.assign (Operand.const (Value.int IntKind.i64 1))), 3, none⟩])
            (.seq
              (.ops [
                ⟨(some 34), (Op.load 39 (Operand.tmp 7)), 39, none⟩,
                ⟨(some 35), (Op.move (Operand.tmp 9)), 3, none⟩,
                ⟨(some 36), (Op.call { callee := (Callee.value (Operand.func 31)), args := #[(Operand.tmp 34), (Operand.tmp 35)], argTypes := #[39, 3] }), 3, none⟩,
                ⟨(some 9), (Op.assign (Operand.tmp 36)), 3, none⟩])
              (.seq
                (.ops [
                  ⟨(some 10), (Op.assign (Operand.const (Value.int IntKind.i64 1))), 3, none⟩])
                (.seq
                  (.ops [
                    ⟨(some 37), (Op.load 39 (Operand.tmp 7)), 39, none⟩,
                    ⟨(some 38), (Op.move (Operand.tmp 10)), 3, none⟩,
                    ⟨(some 39), (Op.call { callee := (Callee.value (Operand.func 32)), args := #[(Operand.tmp 37), (Operand.tmp 38)], argTypes := #[39, 3] }), 3, none⟩,
                    ⟨(some 10), (Op.assign (Operand.tmp 39)), 3, none⟩])
                  (.seq
                    (.seq
                      (.ops [
                        ⟨(some 40), (Op.move (Operand.tmp 10)), 3, none⟩,
                        ⟨(some 41), (Op.binOp BinOp.lss 3 (Operand.tmp 40) (Operand.const (Value.int IntKind.i64 0)) 3), 4, none⟩])
                      (.cond (Operand.tmp 41)
                        (.seq
                          (.ops [
                            ⟨(some 4), (Op.assign (Operand.const (Value.bool false))), 4, none⟩])
                          .ret)
                        .skip))
                    (.seq
                      (.seq
                        (.ops [
                          ⟨(some 42), (Op.move (Operand.tmp 10)), 3, none⟩,
                          ⟨(some 43), (Op.move (Operand.tmp 9)), 3, none⟩,
                          ⟨(some 44), (Op.binOp BinOp.neq 3 (Operand.tmp 42) (Operand.tmp 43) 3), 4, none⟩])
                        (.cond (Operand.tmp 44)
                          (.seq
                            (.ops [
                              ⟨(some 4), (Op.assign (Operand.const (Value.bool false))), 4, none⟩])
                            .ret)
                          .skip))
                      (.seq
                        (.ops [
                          ⟨(some 46), (Op.move (Operand.tmp 0)), 3, none⟩,
                          ⟨(some 47), (Op.move (Operand.tmp 1)), 3, none⟩,
                          ⟨(some 48), (Op.call { callee := (Callee.value (Operand.func 38)), args := #[(Operand.tmp 46), (Operand.tmp 47)], argTypes := #[3, 3] }), 43, none⟩,
                          ⟨(some 45), (Op.move (Operand.tmp 48)), 43, none⟩,
                          ⟨(some 49), (Op.extract (Operand.tmp 45) 0), 39, none⟩,
                          ⟨(some 50), (Op.extract (Operand.tmp 45) 1), 4, none⟩,
                          ⟨(some 11), (Op.alloc 39), 0, none⟩,
                          ⟨none, (Op.store 39 (Operand.tmp 11) (Operand.tmp 49)), 0, none⟩,
                          ⟨(some 12), (Op.assign (Operand.tmp 50)), 4, none⟩])
                        (.seq
                          (.seq
                            (.ops [
                              ⟨(some 51), (Op.load 39 (Operand.tmp 11)), 39, none⟩,
                              ⟨(some 52), (Op.load 39 (Operand.tmp 5)), 39, none⟩,
                              ⟨(some 53), (Op.call { callee := (Callee.value (Operand.func 28)), args := #[(Operand.tmp 51), (Operand.tmp 52)], argTypes := #[39, 39] }), 4, none⟩,
                              ⟨(some 54), (Op.unOp UnOp.not 4 (Operand.tmp 53)), 4, none⟩,
                              ⟨(some 55), (Op.move (Operand.tmp 54)), 4, none⟩,
                              ⟨(some 56), (Op.move (Operand.tmp 12)), 4, (some (some 55, false))⟩,
                              ⟨(some 57), (Op.move (Operand.tmp 6)), 4, (some (some 55, false))⟩,
                              ⟨(some 58), (Op.binOp BinOp.neq 4 (Operand.tmp 56) (Operand.tmp 57) 4), 4, (some (some 55, false))⟩,
                              ⟨(some 59), (Op.pick (Operand.tmp 55) (Operand.const (Value.bool true)) (Operand.tmp 58)), 4, none⟩])
                            (.cond (Operand.tmp 59)
                              (.seq
                                (.ops [
                                  ⟨(some 4), (Op.assign (Operand.const (Value.bool false))), 4, none⟩])
                                .ret)
                              .skip))
                          (.seq
                            (.ops [
                              ⟨(some 10), (Op.assign (Operand.const (Value.int IntKind.i64 1))), 3, none⟩])
                            (.seq
                              (.ops [
                                ⟨(some 60), (Op.load 39 (Operand.tmp 7)), 39, none⟩,
                                ⟨(some 61), (Op.move (Operand.tmp 10)), 3, none⟩,
                                ⟨(some 62), (Op.call { callee := (Callee.value (Operand.func 32)), args := #[(Operand.tmp 60), (Operand.tmp 61)], argTypes := #[39, 3] }), 3, none⟩,
                                ⟨(some 10), (Op.assign (Operand.tmp 62)), 3, none⟩])
                              (.seq
                                (.seq
                                  (.ops [
                                    ⟨(some 63), (Op.move (Operand.tmp 10)), 3, none⟩,
                                    ⟨(some 64), (Op.binOp BinOp.lss 3 (Operand.tmp 63) (Operand.const (Value.int IntKind.i64 0)) 3), 4, none⟩])
                                  (.cond (Operand.tmp 64)
                                    (.seq
                                      (.ops [
                                        ⟨(some 4), (Op.assign (Operand.const (Value.bool false))), 4, none⟩])
                                      .ret)
                                    .skip))
                                (.seq
                                  (.seq
                                    (.ops [
                                      ⟨(some 65), (Op.move (Operand.tmp 10)), 3, none⟩,
                                      ⟨(some 66), (Op.move (Operand.tmp 9)), 3, none⟩,
                                      ⟨(some 67), (Op.binOp BinOp.neq 3 (Operand.tmp 65) (Operand.tmp 66) 3), 4, none⟩])
                                    (.cond (Operand.tmp 67)
                                      (.seq
                                        (.ops [
                                          ⟨(some 4), (Op.assign (Operand.const (Value.bool false))), 4, none⟩])
                                        .ret)
                                      .skip))
                                  (.seq
                                    (.ops [
                                      ⟨(some 4), (Op.assign (Operand.const (Value.bool true))), 4, none⟩])
                                    .ret))))))))))))))))
theorem slim10 : Try.f10.body.map (slim lends) = some k10 := by kernel_rfl
theorem ok10 : fnOk Try.f10 2 = true := by kernel_rfl
theorem c10 {a l : List D} {r : D × List D} (h : wpD Y.env k10 (fin tys l.length [ResultVar.tmp 4] r) (entry a l)) (ha : a.length = 2) : Y.call 10 a l = some r :=
  call_slim (Y := Y) rfl Try.func10 (ha ▸ ok10) slim10 h
theorem l_FnExactColoringProblem_call (t0_ : Int) (t1_ : Int) {r : Bool} (h : l_FnExactColoringProblem t0_ t1_ = some r) : Y.call 10 [D.int .i64 t0_, D.int .i64 t1_] [] = some (D.bool r, []) := by
  refine c10 ?_ rfl
  unfold k10
  unfold l_FnExactColoringProblem at h
  obtain ⟨r1_, hl1, h⟩ := bindS h
  try dsimp only at h
  have c1 := s_ColoringProblem_call t0_ t1_ hl1
  obtain ⟨r2_, hl2, h⟩ := bindS h
  try dsimp only at h
  have c2 := i_ColoringProblem_call t0_ t1_ hl2
  obtain ⟨e3, h⟩ := ckS h
  obtain ⟨e4, h⟩ := ckS h
  have c5 := l_eqProblem_cl r2_.1 r2_.2.1 r2_.2.2.1 r2_.2.2.2.1 r1_.1 r1_.2.1 r1_.2.2.1 r1_.2.2.2.1 e3 e4
  by_cases e6 : (sameP r2_.1 r2_.2.1 r2_.2.2.1 r2_.2.2.2.1 r1_.1 r1_.2.1 r1_.2.2.1 r1_.2.2.2.1) = true
  · rw [if_pos e6] at h
    by_cases e7 : r2_.2.2.2.2 = true
    · rw [if_pos e7] at h
      by_cases e8 : r1_.2.2.2.2 = true
      · rw [if_pos e8] at h
        obtain ⟨e9, h⟩ := ckS h
        have c10 := l_markProblem_cl r2_.1 r2_.2.1 r2_.2.2.1 r2_.2.2.2.1 (1 : Int) e3 e4 e9
        obtain ⟨r11_, hl11, h⟩ := bindS h
        try dsimp only at h
        have c11 := l_heldProblem_call r2_.1 r2_.2.1 (marks (1 : Int) r2_.2.2.1) (marks ((1 : Int) + tot r2_.2.2.1) r2_.2.2.2.1) (1 : Int) hl11
        by_cases e12 : r11_ < 0
        · rw [if_pos e12] at h
          obtain rfl := Option.some.inj h
          simp (maxDischargeDepth := 9) only [↓xpre, xpost, xlst, xcore, yset, rg0, ↓reduceIte, Nat.reduceEqDiff, Nat.reduceLT, Nat.reduceLeDiff, Nat.reduceAdd, Nat.reduceMul, Nat.reduceMod, Nat.reduceSub, Nat.reduceBEq, Int.reduceLE, Int.reduceLT, Int.reduceEq, Int.reduceSub, Int.reduceAdd, Int.reduceToNat, Int.reduceNeg, c1, c2, e3, e4, c5, e6, e7, e8, e9.1, e9.2, c10, c11, e12] <;> (repeat' apply And.intro) <;> first | rfl | exact ⟨_, rfl⟩ | simp [lst]
        · rw [if_neg e12] at h
          by_cases e13 : r11_ = ((1 : Int) + tot r2_.2.2.1 + tot r2_.2.2.2.1)
          · rw [if_pos e13] at h
            have c14 := l_eqProblem_cl r2_.1 r2_.2.1 r2_.2.2.1 r2_.2.2.2.1 r1_.1 r1_.2.1 r1_.2.2.1 r1_.2.2.2.1 e3 e4
            obtain rfl := Option.some.inj h
            simp (maxDischargeDepth := 9) only [↓xpre, xpost, xlst, xcore, yset, rg0, ↓reduceIte, Nat.reduceEqDiff, Nat.reduceLT, Nat.reduceLeDiff, Nat.reduceAdd, Nat.reduceMul, Nat.reduceMod, Nat.reduceSub, Nat.reduceBEq, Int.reduceLE, Int.reduceLT, Int.reduceEq, Int.reduceSub, Int.reduceAdd, Int.reduceToNat, Int.reduceNeg, c1, c2, e3, e4, c5, e6, e7, e8, e9.1, e9.2, c10, c11, e12, decide_eq_true e13, c14] <;> (repeat' apply And.intro) <;> first | rfl | exact ⟨_, rfl⟩ | simp [lst]
          · rw [if_neg e13] at h
            obtain rfl := Option.some.inj h
            simp (maxDischargeDepth := 9) only [↓xpre, xpost, xlst, xcore, yset, rg0, ↓reduceIte, Nat.reduceEqDiff, Nat.reduceLT, Nat.reduceLeDiff, Nat.reduceAdd, Nat.reduceMul, Nat.reduceMod, Nat.reduceSub, Nat.reduceBEq, Int.reduceLE, Int.reduceLT, Int.reduceEq, Int.reduceSub, Int.reduceAdd, Int.reduceToNat, Int.reduceNeg, c1, c2, e3, e4, c5, e6, e7, e8, e9.1, e9.2, c10, c11, e12, e13] <;> (repeat' apply And.intro) <;> first | rfl | exact ⟨_, rfl⟩ | simp [lst]
      · rw [if_neg e8] at h
        have e8f : r1_.2.2.2.2 = false := Bool.eq_false_iff.mpr e8
        obtain rfl := Option.some.inj h
        simp (maxDischargeDepth := 9) only [↓xpre, xpost, xlst, xcore, yset, rg0, ↓reduceIte, Nat.reduceEqDiff, Nat.reduceLT, Nat.reduceLeDiff, Nat.reduceAdd, Nat.reduceMul, Nat.reduceMod, Nat.reduceSub, Nat.reduceBEq, Int.reduceLE, Int.reduceLT, Int.reduceEq, Int.reduceSub, Int.reduceAdd, Int.reduceToNat, Int.reduceNeg, c1, c2, e3, e4, c5, e6, e7, e8f] <;> (repeat' apply And.intro) <;> first | rfl | exact ⟨_, rfl⟩ | simp [lst]
    · rw [if_neg e7] at h
      have e7f : r2_.2.2.2.2 = false := Bool.eq_false_iff.mpr e7
      by_cases e8 : r1_.2.2.2.2 = true
      · rw [if_pos e8] at h
        obtain rfl := Option.some.inj h
        simp (maxDischargeDepth := 9) only [↓xpre, xpost, xlst, xcore, yset, rg0, ↓reduceIte, Nat.reduceEqDiff, Nat.reduceLT, Nat.reduceLeDiff, Nat.reduceAdd, Nat.reduceMul, Nat.reduceMod, Nat.reduceSub, Nat.reduceBEq, Int.reduceLE, Int.reduceLT, Int.reduceEq, Int.reduceSub, Int.reduceAdd, Int.reduceToNat, Int.reduceNeg, c1, c2, e3, e4, c5, e6, e7f, e8] <;> (repeat' apply And.intro) <;> first | rfl | exact ⟨_, rfl⟩ | simp [lst]
      · rw [if_neg e8] at h
        have e8f : r1_.2.2.2.2 = false := Bool.eq_false_iff.mpr e8
        obtain ⟨e9, h⟩ := ckS h
        have c10 := l_markProblem_cl r2_.1 r2_.2.1 r2_.2.2.1 r2_.2.2.2.1 (1 : Int) e3 e4 e9
        obtain ⟨r11_, hl11, h⟩ := bindS h
        try dsimp only at h
        have c11 := l_heldProblem_call r2_.1 r2_.2.1 (marks (1 : Int) r2_.2.2.1) (marks ((1 : Int) + tot r2_.2.2.1) r2_.2.2.2.1) (1 : Int) hl11
        by_cases e12 : r11_ < 0
        · rw [if_pos e12] at h
          obtain rfl := Option.some.inj h
          simp (maxDischargeDepth := 9) only [↓xpre, xpost, xlst, xcore, yset, rg0, ↓reduceIte, Nat.reduceEqDiff, Nat.reduceLT, Nat.reduceLeDiff, Nat.reduceAdd, Nat.reduceMul, Nat.reduceMod, Nat.reduceSub, Nat.reduceBEq, Int.reduceLE, Int.reduceLT, Int.reduceEq, Int.reduceSub, Int.reduceAdd, Int.reduceToNat, Int.reduceNeg, c1, c2, e3, e4, c5, e6, e7f, e8f, e9.1, e9.2, c10, c11, e12] <;> (repeat' apply And.intro) <;> first | rfl | exact ⟨_, rfl⟩ | simp [lst]
        · rw [if_neg e12] at h
          by_cases e13 : r11_ = ((1 : Int) + tot r2_.2.2.1 + tot r2_.2.2.2.1)
          · rw [if_pos e13] at h
            have c14 := l_eqProblem_cl r2_.1 r2_.2.1 r2_.2.2.1 r2_.2.2.2.1 r1_.1 r1_.2.1 r1_.2.2.1 r1_.2.2.2.1 e3 e4
            obtain rfl := Option.some.inj h
            simp (maxDischargeDepth := 9) only [↓xpre, xpost, xlst, xcore, yset, rg0, ↓reduceIte, Nat.reduceEqDiff, Nat.reduceLT, Nat.reduceLeDiff, Nat.reduceAdd, Nat.reduceMul, Nat.reduceMod, Nat.reduceSub, Nat.reduceBEq, Int.reduceLE, Int.reduceLT, Int.reduceEq, Int.reduceSub, Int.reduceAdd, Int.reduceToNat, Int.reduceNeg, c1, c2, e3, e4, c5, e6, e7f, e8f, e9.1, e9.2, c10, c11, e12, decide_eq_true e13, c14] <;> (repeat' apply And.intro) <;> first | rfl | exact ⟨_, rfl⟩ | simp [lst]
          · rw [if_neg e13] at h
            obtain rfl := Option.some.inj h
            simp (maxDischargeDepth := 9) only [↓xpre, xpost, xlst, xcore, yset, rg0, ↓reduceIte, Nat.reduceEqDiff, Nat.reduceLT, Nat.reduceLeDiff, Nat.reduceAdd, Nat.reduceMul, Nat.reduceMod, Nat.reduceSub, Nat.reduceBEq, Int.reduceLE, Int.reduceLT, Int.reduceEq, Int.reduceSub, Int.reduceAdd, Int.reduceToNat, Int.reduceNeg, c1, c2, e3, e4, c5, e6, e7f, e8f, e9.1, e9.2, c10, c11, e12, e13] <;> (repeat' apply And.intro) <;> first | rfl | exact ⟨_, rfl⟩ | simp [lst]
  · rw [if_neg e6] at h
    have e6f : (sameP r2_.1 r2_.2.1 r2_.2.2.1 r2_.2.2.2.1 r1_.1 r1_.2.1 r1_.2.2.1 r1_.2.2.2.1) = false := Bool.eq_false_iff.mpr e6
    obtain rfl := Option.some.inj h
    simp (maxDischargeDepth := 9) only [↓xpre, xpost, xlst, xcore, yset, rg0, ↓reduceIte, Nat.reduceEqDiff, Nat.reduceLT, Nat.reduceLeDiff, Nat.reduceAdd, Nat.reduceMul, Nat.reduceMod, Nat.reduceSub, Nat.reduceBEq, Int.reduceLE, Int.reduceLT, Int.reduceEq, Int.reduceSub, Int.reduceAdd, Int.reduceToNat, Int.reduceNeg, c1, c2, e3, e4, c5, e6f] <;> (repeat' apply And.intro) <;> first | rfl | exact ⟨_, rfl⟩ | simp [lst]

theorem coloring_law (d k : Int) : l_FnExactColoringProblem d k = some true := by
  obtain ⟨L, K, N, E, ok, hN, hE, ⟨t1, t2, t3⟩, hS, hI⟩ := coloring_both d k
  have hh := l_heldProblem_eq L K N E 1 hN hE (by omega)
  have g4 : (0 : Int) ≤ 1 ∧ 1 + tot N + tot E < 1099511627776 := by omega
  have g5 : ¬ 1 + tot N + tot E < 0 := by omega
  unfold l_FnExactColoringProblem
  simp only [hS, hI, Option.bind_some, ckT hN, ckT hE, sameP_refl, if_true, ckT g4, hh, if_neg g5]
  cases ok <;> rfl
theorem coloring_all (ds : List D) (h : Args tys [3, 3] ds) : Y.call 10 ds [] = some (.bool true, []) := by
  rcases ds with _ | ⟨x, _ | ⟨y, _ | ⟨_, _⟩⟩⟩
  · cases h
  · exact h.2.elim
  · obtain ⟨n, rfl, _⟩ := argInt ty3 h.1
    obtain ⟨m, rfl, _⟩ := argInt ty3 h.2.1
    exact l_FnExactColoringProblem_call n m (coloring_law n m)
  · exact h.2.2.elim

end Go.Proofs.Ythaimoghceamnaa
