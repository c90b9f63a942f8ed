/- Problems that are made of a degree, as plain functions, and their laws. Conditions: none. -/
import Derived.Test.YthaimoghceamnaaL5
import Derived.Test.YthaimoghceamnaaSrt
namespace Go.Proofs.Ythaimoghceamnaa
open Go Dv
set_option linter.unusedSimpArgs false
set_option linter.unusedVariables false
set_option maxRecDepth 100000
set_option maxHeartbeats 4000000

noncomputable def i_isArity (d : Int) : Option (Bool) :=
  some (inR d (1 : Int) (4 : Int))
/-- impl.isArity -/
def k60 : SC :=
  .seq
    (.ops [
      ⟨(some 2), (Op.assign (Operand.const (Value.bool false))), 4, none⟩])
    (.seq
      (.ops [
        ⟨(some 3), (Op.move (Operand.tmp 0)), 3, none⟩,
        ⟨(some 4), (Op.call { callee := (Callee.value (Operand.func 52)), args := #[(Operand.tmp 3), (Operand.const (Value.int IntKind.i64 1)), (Operand.const (Value.int IntKind.i64 4))], argTypes := #[3, 3, 3] }), 4, none⟩,
        ⟨(some 2), (Op.assign (Operand.tmp 4)), 4, none⟩])
      .ret)
theorem slim60 : Try.f60.body.map (slim lends) = some k60 := by kernel_rfl
theorem ok60 : fnOk Try.f60 1 = true := by kernel_rfl
theorem c60 {a l : List D} {r : D × List D} (h : wpD Y.env k60 (fin tys l.length [ResultVar.tmp 2] r) (entry a l)) (ha : a.length = 1) : Y.call 60 a l = some r :=
  call_slim (Y := Y) rfl Try.func60 (ha ▸ ok60) slim60 h
theorem i_isArity_call (d : Int) {r : Bool} (h : i_isArity d = some r) : Y.call 60 [D.int .i64 d] [] = some (D.bool r, []) := by
  refine c60 ?_ rfl
  unfold k60
  unfold i_isArity at h
  have c1 := i_within_cl d (1 : Int) (4 : Int)
  obtain rfl := Option.some.inj h
  simp (maxDischargeDepth := 9) only [↓xpre, xpost, xlst, xcore, yset, rg0, ↓reduceIte, Nat.reduceEqDiff, Nat.reduceLT, Nat.reduceLeDiff, Nat.reduceAdd, Nat.reduceMul, Nat.reduceMod, Nat.reduceSub, Nat.reduceBEq, Int.reduceLE, Int.reduceLT, Int.reduceEq, Int.reduceSub, Int.reduceAdd, Int.reduceToNat, Int.reduceNeg, c1] <;> (repeat' apply And.intro) <;> first | rfl | exact ⟨_, rfl⟩ | simp [lst]

noncomputable def i_oneAnd (one : Int) (other : Int) (d : Int) : Option ((List Int)) :=
  (g_slices_Repeat_Sint_int [other] (IntKind.i64.wrap (d - 1))).bind fun r1_ =>
  ck (1 + r1_.length < 1099511627776) <|
  some (one :: r1_)
/-- impl.oneAnd -/
def k62 : SC :=
  .seq
    (.ops [
      ⟨(some 6), (Op.assign (Operand.const (Value.slice none 0 0))), 25, none⟩])
    (.seq
      (.ops [
        ⟨(some 7), (Op.move (Operand.tmp 0)), 3, none⟩,
        ⟨(some 8), (Op.buildSlice 25 1 #[(0, (Operand.tmp 7))]), 25, none⟩,
        ⟨(some 9), (Op.move (Operand.tmp 1)), 3, none⟩,
        ⟨(some 10), (Op.buildSlice 25 1 #[(0, (Operand.tmp 9))]), 25, none⟩,
        ⟨(some 11), (Op.move (Operand.tmp 2)), 3, none⟩,
        ⟨(some 12), (Op.binOp BinOp.sub 3 (Operand.tmp 11) (Operand.const (Value.int IntKind.i64 1)) 3), 3, none⟩,
        ⟨(some 13), (Op.call { callee := (Callee.value (Operand.func 67)), args := #[(Operand.tmp 10), (Operand.tmp 12)], argTypes := #[25, 3] }), 25, none⟩,
        ⟨(some 14), (Op.call { callee := (Callee.builtin Builtin.append), args := #[(Operand.tmp 8), (Operand.tmp 13)], argTypes := #[25, 25] }), 25, none⟩,
        ⟨(some 6), (Op.assign (Operand.tmp 14)), 25, none⟩])
      .ret)
theorem slim62 : Try.f62.body.map (slim lends) = some k62 := by kernel_rfl
theorem ok62 : fnOk Try.f62 3 = true := by kernel_rfl
theorem c62 {a l : List D} {r : D × List D} (h : wpD Y.env k62 (fin tys l.length [ResultVar.tmp 6] r) (entry a l)) (ha : a.length = 3) : Y.call 62 a l = some r :=
  call_slim (Y := Y) rfl Try.func62 (ha ▸ ok62) slim62 h
theorem i_oneAnd_call (one : Int) (other : Int) (d : Int) {r : (List Int)} (h : i_oneAnd one other d = some r) : Y.call 62 [D.int .i64 one, D.int .i64 other, D.int .i64 d] [] = some (D.own 3 (lst (D.int .i64) r), []) := by
  refine c62 ?_ rfl
  unfold k62
  unfold i_oneAnd at h
  obtain ⟨r1_, hl1, h⟩ := bindS h
  try dsimp only at h
  have c1 := g_slices_Repeat_Sint_int_call [other] (IntKind.i64.wrap (d - 1)) hl1
  simp only [lst_cons, lst_nil, cat_cons, cat_nil, List.append_nil, List.cons_append, List.nil_append] at c1
  obtain ⟨e2, h⟩ := ckS h
  obtain rfl := Option.some.inj h
  simp (maxDischargeDepth := 9) only [↓xpre, xpost, xlst, xcore, yset, rg0, ↓reduceIte, Nat.reduceEqDiff, Nat.reduceLT, Nat.reduceLeDiff, Nat.reduceAdd, Nat.reduceMul, Nat.reduceMod, Nat.reduceSub, Nat.reduceBEq, Int.reduceLE, Int.reduceLT, Int.reduceEq, Int.reduceSub, Int.reduceAdd, Int.reduceToNat, Int.reduceNeg, c1, e2] <;> (repeat' apply And.intro) <;> first | rfl | exact ⟨_, rfl⟩ | simp [lst]

noncomputable def s_prRow_l0_S (d : Int) (rest : Int) (out : List Int) : Option (((List Int)) ⊕ ((List Int))) :=
  if (out.length : Int) < d then
    ck (out.length + 1 < 1099511627776) <|
    some (Sum.inl (out ++ [rest]))
  else
    some (Sum.inr out)
noncomputable def s_prRow_l0 (d : Int) (rest : Int) (v : (List Int)) : Option ((List Int)) := itO (fun v => s_prRow_l0_S d rest v) v
noncomputable def s_prRow (d : Int) (first : Int) (rest : Int) : Option ((List Int)) :=
  (s_prRow_l0 d rest [first]).bind fun r2_ =>
  ck (r2_.length < 1099511627776) <|
  some (sortI r2_)
/-- spec.prRow -/
def k59_l0b : SC :=
  .seq
    (.seq
      (.ops [
        ⟨(some 10), (Op.move (Operand.tmp 7)), 25, none⟩,
        ⟨(some 11), (Op.call { callee := (Callee.builtin Builtin.len), args := #[(Operand.tmp 10)], argTypes := #[25] }), 3, none⟩,
        ⟨(some 12), (Op.move (Operand.tmp 0)), 3, none⟩,
        ⟨(some 13), (Op.binOp BinOp.lss 3 (Operand.tmp 11) (Operand.tmp 12) 3), 4, none⟩])
      (.cond (Operand.tmp 13)
        .skip
        (.exit 0)))
    (.block 1
      (.ops [
        ⟨(some 14), (Op.move (Operand.tmp 7)), 25, none⟩,
        ⟨(some 15), (Op.move (Operand.tmp 2)), 3, none⟩,
        ⟨(some 16), (Op.buildSlice 25 1 #[(0, (Operand.tmp 15))]), 25, none⟩,
        ⟨(some 17), (Op.call { callee := (Callee.builtin Builtin.append), args := #[(Operand.tmp 14), (Operand.tmp 16)], argTypes := #[25, 25] }), 25, none⟩,
        ⟨(some 7), (Op.assign (Operand.tmp 17)), 25, none⟩]))
def k59_l0 : SC := .loop k59_l0b
def k59 : SC :=
  .seq
    (.ops [
      ⟨(some 6), (Op.assign (Operand.const (Value.slice none 0 0))), 25, none⟩])
    (.seq
      (.ops [
        ⟨(some 8), (Op.move (Operand.tmp 1)), 3, none⟩,
        ⟨(some 9), (Op.buildSlice 25 1 #[(0, (Operand.tmp 8))]), 25, none⟩,
        ⟨(some 7), (Op.assign (Operand.tmp 9)), 25, none⟩])
      (.seq
        (.block 0
          k59_l0)
        (.seq
          (.ops [
            ⟨(some 18), (Op.move (Operand.tmp 7)), 25, none⟩,
            ⟨(some 19), (Op.call { callee := (Callee.value (Operand.func 82)), args := #[(Operand.tmp 18)], argTypes := #[25] }), 25, none⟩,
            ⟨(some 6), (Op.assign (Operand.tmp 19)), 25, none⟩])
          .ret)))
theorem slim59 : Try.f59.body.map (slim lends) = some k59 := by kernel_rfl
theorem ok59 : fnOk Try.f59 3 = true := by kernel_rfl
theorem c59 {a l : List D} {r : D × List D} (h : wpD Y.env k59 (fin tys l.length [ResultVar.tmp 6] r) (entry a l)) (ha : a.length = 3) : Y.call 59 a l = some r :=
  call_slim (Y := Y) rfl Try.func59 (ha ▸ ok59) slim59 h
def s_prRow_l0_M (d : Int) (rest : Int) (out : List Int) (s : St) : Prop := s.v 0 = D.int .i64 d ∧ s.v 2 = D.int .i64 rest ∧ s.v 7 = D.own 3 (lst (D.int .i64) out)
def s_prRow_l0_X (d : Int) (rest : Int) (r : (List Int)) (ex : Ex) (s : St) : Prop := ex = .exit 0 ∧ s.v 7 = D.own 3 (lst (D.int .i64) r)
theorem s_prRow_l0_wp (d : Int) (rest : Int) {v : (List Int)} {s : St} {r : (List Int)} (h : s_prRow_l0 d rest v = some r) (hM : s_prRow_l0_M d rest v s) : wpD Y.env k59_l0 (s_prRow_l0_X d rest r) s := by
  unfold s_prRow_l0 at h
  refine wd_itO (c := k59_l0b) (fun v => s_prRow_l0_S d rest v) (fun v s => s_prRow_l0_M d rest v s) (s_prRow_l0_X d rest) ?_ h hM
  clear h hM s v r
  intro out s o hM h
  unfold s_prRow_l0_S at h
  unfold s_prRow_l0_M at hM
  obtain ⟨m0, m1, m2⟩ := hM
  unfold k59_l0b
  by_cases e1 : (out.length : Int) < d
  · rw [if_pos e1] at h
    obtain ⟨e2, h⟩ := ckS h
    obtain rfl := Option.some.inj h
    simp (maxDischargeDepth := 9) only [↓xpre, xpost, xlst, xcore, yset, rg0, ↓reduceIte, Nat.reduceEqDiff, Nat.reduceLT, Nat.reduceLeDiff, Nat.reduceAdd, Nat.reduceMul, Nat.reduceMod, Nat.reduceSub, Nat.reduceBEq, Int.reduceLE, Int.reduceLT, Int.reduceEq, Int.reduceSub, Int.reduceAdd, Int.reduceToNat, Int.reduceNeg, m0, m1, m2, e1, e2, s_prRow_l0_M, s_prRow_l0_X, sxN, sxE, sxR] <;> (repeat' apply And.intro) <;> first | rfl | exact ⟨_, rfl⟩ | simp [lst]
  · rw [if_neg e1] at h
    obtain rfl := Option.some.inj h
    simp (maxDischargeDepth := 9) only [↓xpre, xpost, xlst, xcore, yset, rg0, ↓reduceIte, Nat.reduceEqDiff, Nat.reduceLT, Nat.reduceLeDiff, Nat.reduceAdd, Nat.reduceMul, Nat.reduceMod, Nat.reduceSub, Nat.reduceBEq, Int.reduceLE, Int.reduceLT, Int.reduceEq, Int.reduceSub, Int.reduceAdd, Int.reduceToNat, Int.reduceNeg, m0, m1, m2, e1, s_prRow_l0_M, s_prRow_l0_X, sxN, sxE, sxR] <;> (repeat' apply And.intro) <;> first | rfl | exact ⟨_, rfl⟩ | simp [lst]
theorem s_prRow_call (d : Int) (first : Int) (rest : Int) {r : (List Int)} (h : s_prRow d first rest = some r) : Y.call 59 [D.int .i64 d, D.int .i64 first, D.int .i64 rest] [] = some (D.own 3 (lst (D.int .i64) r), []) := by
  refine c59 ?_ rfl
  unfold k59
  unfold s_prRow at h
  obtain ⟨r2_, hl2, h⟩ := bindS h
  try dsimp only at h
  simp (maxDischargeDepth := 9) only [↓xpre, xpost, xlst, xcore, yset, rg0, ↓reduceIte, Nat.reduceEqDiff, Nat.reduceLT, Nat.reduceLeDiff, Nat.reduceAdd, Nat.reduceMul, Nat.reduceMod, Nat.reduceSub, Nat.reduceBEq, Int.reduceLE, Int.reduceLT, Int.reduceEq, Int.reduceSub, Int.reduceAdd, Int.reduceToNat, Int.reduceNeg]
  refine wd_mono (s_prRow_l0_wp d rest hl2 ?_) ?_
  · simp (maxDischargeDepth := 9) only [↓xpre, xpost, xlst, xcore, yset, rg0, ↓reduceIte, Nat.reduceEqDiff, Nat.reduceLT, Nat.reduceLeDiff, Nat.reduceAdd, Nat.reduceMul, Nat.reduceMod, Nat.reduceSub, Nat.reduceBEq, Int.reduceLE, Int.reduceLT, Int.reduceEq, Int.reduceSub, Int.reduceAdd, Int.reduceToNat, Int.reduceNeg, s_prRow_l0_M] <;> (repeat' apply And.intro) <;> first | rfl | exact ⟨_, rfl⟩ | simp [lst]
  · intro ex2 s2 hX2
    unfold s_prRow_l0_X at hX2
    obtain ⟨rfl, n2_0⟩ := hX2
    obtain ⟨e3, h⟩ := ckS h
    have c4 := s_prSorted_cl r2_ e3
    obtain rfl := Option.some.inj h
    simp (maxDischargeDepth := 9) only [↓xpre, xpost, xlst, xcore, yset, rg0, ↓reduceIte, Nat.reduceEqDiff, Nat.reduceLT, Nat.reduceLeDiff, Nat.reduceAdd, Nat.reduceMul, Nat.reduceMod, Nat.reduceSub, Nat.reduceBEq, Int.reduceLE, Int.reduceLT, Int.reduceEq, Int.reduceSub, Int.reduceAdd, Int.reduceToNat, Int.reduceNeg, n2_0, e3, c4] <;> (repeat' apply And.intro) <;> first | rfl | exact ⟨_, rfl⟩ | simp [lst]

noncomputable def i_madeProblem (p_Labels : Int) (p_Degree : Int) (p_Nodes : List (List Int)) (p_Edges : List (List Int)) : Option ((Int × Int × (List (List Int)) × (List (List Int)) × Bool) ⊕ (Int × Int × (List (List Int)) × (List (List Int)) × Bool × (List (List Int)) × (List (List Int)))) :=
  ck (Short p_Nodes) <|
  ck (Short p_Edges) <|
  if (isProb p_Labels p_Degree p_Nodes p_Edges) = true then
    some (Sum.inl (p_Labels, p_Degree, p_Nodes, p_Edges, true))
  else
    some (Sum.inr (0, 0, [], [], false, p_Nodes, p_Edges))
/-- impl.madeProblem -/
def k61 : SC :=
  .seq
    (.ops [
      ⟨(some 1), (Op.box 39 (Operand.tmp 0)), 0, none⟩,
      ⟨(some 2), (Op.alloc 39), 0, none⟩,
      ⟨(some 3), (Op.assign (Operand.const (Value.bool false))), 4, none⟩])
    (.seq
      (.seq
        (.ops [
          ⟨(some 4), (Op.load 39 (Operand.tmp 1)), 39, none⟩,
          ⟨(some 5), (Op.call { callee := (Callee.value (Operand.func 27)), args := #[(Operand.tmp 4)], argTypes := #[39] }), 4, none⟩,
          ⟨(some 6), (Op.unOp UnOp.not 4 (Operand.tmp 5)), 4, none⟩])
        (.cond (Operand.tmp 6)
          (.seq
            (.ops [
              ⟨(some 7), (Op.build 39 #[]), 39, none⟩,
              ⟨none, (Op.store 39 (Operand.tmp 2) (Operand.tmp 7)), 0, none⟩,
              ⟨(some 3), (Op.assign (Operand.const (Value.bool false))), 4, none⟩])
            .ret)
          .skip))
      (.seq
        (.ops [
          ⟨(some 8), (Op.load 39 (Operand.tmp 1)), 39, none⟩,
          ⟨none, (Op.store 39 (Operand.tmp 2) (Operand.tmp 8)), 0, none⟩,
          ⟨(some 3), (Op.assign (Operand.const (Value.bool true))), 4, none⟩])
        .ret))
theorem slim61 : Try.f61.body.map (slim lends) = some k61 := by kernel_rfl
theorem ok61 : fnOk Try.f61 1 = true := by kernel_rfl
theorem c61 {a l : List D} {r : D × List D} (h : wpD Y.env k61 (fin tys l.length [ResultVar.cell 2 39, ResultVar.tmp 3] r) (entry a l)) (ha : a.length = 1) : Y.call 61 a l = some r :=
  call_slim (Y := Y) rfl Try.func61 (ha ▸ ok61) slim61 h
theorem i_madeProblem_call (p_Labels : Int) (p_Degree : Int) (p_Nodes : List (List Int)) (p_Edges : List (List Int)) {r : (Int × Int × (List (List Int)) × (List (List Int)) × Bool) ⊕ (Int × Int × (List (List Int)) × (List (List Int)) × Bool × (List (List Int)) × (List (List Int)))} (h : i_madeProblem p_Labels p_Degree p_Nodes p_Edges = some r) : Y.call 61 [D.agg [D.int .i64 p_Labels, D.int .i64 p_Degree, D.vw [100000] 0 0, D.vw [100001] 0 0]] [D.own 25 (lst (fun x => D.own 3 (lst (D.int .i64) x)) p_Nodes), D.own 25 (lst (fun x => D.own 3 (lst (D.int .i64) x)) p_Edges)] = some (match r with | .inl q => (D.tup [D.agg [D.int .i64 q.1, D.int .i64 q.2.1, D.own 25 (lst (fun x => D.own 3 (lst (D.int .i64) x)) q.2.2.1), D.own 25 (lst (fun x => D.own 3 (lst (D.int .i64) x)) q.2.2.2.1)], D.bool q.2.2.2.2], [D.undef, D.undef]) | .inr q => (D.tup [D.agg [D.int .i64 q.1, D.int .i64 q.2.1, D.own 25 (lst (fun x => D.own 3 (lst (D.int .i64) x)) q.2.2.1), D.own 25 (lst (fun x => D.own 3 (lst (D.int .i64) x)) q.2.2.2.1)], D.bool q.2.2.2.2.1], [D.own 25 (lst (fun x => D.own 3 (lst (D.int .i64) x)) q.2.2.2.2.2.1), D.own 25 (lst (fun x => D.own 3 (lst (D.int .i64) x)) q.2.2.2.2.2.2)])) := by
  refine c61 ?_ rfl
  unfold k61
  unfold i_madeProblem at h
  obtain ⟨e1, h⟩ := ckS h
  obtain ⟨e2, h⟩ := ckS h
  have c3 := i_IsProblem_cl p_Labels p_Degree p_Nodes p_Edges e1 e2
  by_cases e4 : (isProb p_Labels p_Degree p_Nodes p_Edges) = true
  · rw [if_pos e4] at h
    obtain rfl := Option.some.inj h
    simp (maxDischargeDepth := 9) only [↓xpre, xpost, xlst, xcore, yset, rg0, ↓reduceIte, Nat.reduceEqDiff, Nat.reduceLT, Nat.reduceLeDiff, Nat.reduceAdd, Nat.reduceMul, Nat.reduceMod, Nat.reduceSub, Nat.reduceBEq, Int.reduceLE, Int.reduceLT, Int.reduceEq, Int.reduceSub, Int.reduceAdd, Int.reduceToNat, Int.reduceNeg, e1, e2, c3, e4] <;> (repeat' apply And.intro) <;> first | rfl | exact ⟨_, rfl⟩ | simp [lst]
  · rw [if_neg e4] at h
    have e4f : (isProb p_Labels p_Degree p_Nodes p_Edges) = false := Bool.eq_false_iff.mpr e4
    obtain rfl := Option.some.inj h
    simp (maxDischargeDepth := 9) only [↓xpre, xpost, xlst, xcore, yset, rg0, ↓reduceIte, Nat.reduceEqDiff, Nat.reduceLT, Nat.reduceLeDiff, Nat.reduceAdd, Nat.reduceMul, Nat.reduceMod, Nat.reduceSub, Nat.reduceBEq, Int.reduceLE, Int.reduceLT, Int.reduceEq, Int.reduceSub, Int.reduceAdd, Int.reduceToNat, Int.reduceNeg, e1, e2, c3, e4f] <;> (repeat' apply And.intro) <;> first | rfl | exact ⟨_, rfl⟩ | simp [lst]

theorem i_isArity_eq (d : Int) : i_isArity d = some (inR d 1 4) := by unfold i_isArity; rfl
theorem oneAnd_eq (a b d : Int) (h : 1 ≤ d ∧ d ≤ 4) : i_oneAnd a b d = some (a :: List.replicate (d - 1).toNat b) := by
  unfold i_oneAnd
  rw [wr64 _ (by omega), repI_one b (d - 1) (by omega), Option.bind_some, ckT (by rw [List.length_replicate]; omega)]
theorem prRow_eq (d a b : Int) (h : 1 ≤ d ∧ d ≤ 4) : s_prRow d a b = some (sortI (a :: List.replicate (d - 1).toNat b)) := by
  unfold s_prRow s_prRow_l0
  have key := itO_for (fun v => s_prRow_l0_S d b v) (fun i => a :: List.replicate i b) (d - 1).toNat (a :: List.replicate (d - 1).toNat b) ?_ ?_
  · simp only [List.replicate_zero] at key
    rw [key, Option.bind_some, ckT (by simp; omega)]
  · intro i hi
    simp only [s_prRow_l0_S]
    rw [if_pos (by simp; omega), ckT (by simp; omega)]
    simp [List.replicate_succ']
  · simp only [s_prRow_l0_S]
    rw [if_neg (by simp; omega)]
/-- Degrees of problems. -/
theorem deg_cases {d : Int} (h : inR d 1 4 = true) : d = 1 ∨ d = 2 ∨ d = 3 ∨ d = 4 := by
  have := inR_iff.1 h; omega
theorem made_eq {a b : Int} {n e : List (List Int)} (hn : Short n) (he : Short e) (h : isProb a b n e = true) : i_madeProblem a b n e = some (.inl (a, b, n, e, true)) := by
  unfold i_madeProblem
  rw [ckT hn, ckT he, if_pos h]
noncomputable def i_IndependentSetProblem (d : Int) : Option (Int × Int × (List (List Int)) × (List (List Int)) × Bool) :=
  (i_isArity d).bind fun r1_ =>
  if r1_ = true then
    (i_oneAnd (0 : Int) (0 : Int) d).bind fun r3_ =>
    (i_oneAnd (1 : Int) (2 : Int) d).bind fun r4_ =>
    (i_madeProblem (3 : Int) d [r3_, r4_] [[0, 1], [0, 2], [2, 2]]).bind fun r5_ =>
    match r5_ with
    | .inl q5_ =>
      some (q5_.1, q5_.2.1, q5_.2.2.1, q5_.2.2.2.1, q5_.2.2.2.2)
    | .inr q5_ =>
      some (q5_.1, q5_.2.1, q5_.2.2.1, q5_.2.2.2.1, q5_.2.2.2.2.1)
  else
    some (0, 0, [], [], false)
/-- impl.IndependentSetProblem -/
def k30 : SC :=
  .seq
    (.ops [
      ⟨(some 2), (Op.alloc 39), 0, none⟩,
      ⟨(some 3), (Op.assign (Operand.const (Value.bool false))), 4, none⟩])
    (.seq
      (.seq
        (.ops [
          ⟨(some 4), (Op.move (Operand.tmp 0)), 3, none⟩,
          ⟨(some 5), (Op.call { callee := (Callee.value (Operand.func 60)), args := #[(Operand.tmp 4)], argTypes := #[3] }), 4, none⟩,
          ⟨(some 6), (Op.unOp UnOp.not 4 (Operand.tmp 5)), 4, none⟩])
        (.cond (Operand.tmp 6)
          (.seq
            (.ops [
              ⟨(some 7), (Op.build 39 #[]), 39, none⟩,
              ⟨none, (Op.store 39 (Operand.tmp 2) (Operand.tmp 7)), 0, none⟩,
              ⟨(some 3), (Op.assign (Operand.const (Value.bool false))), 4, none⟩])
            .ret)
          .skip))
      (.seq
        (.ops [
          ⟨(some 8), (Op.move (Operand.tmp 0)), 3, none⟩,
          ⟨(some 9), (Op.move (Operand.tmp 0)), 3, none⟩,
          ⟨(some 10), (Op.call { callee := (Callee.value (Operand.func 62)), args := #[(Operand.const (Value.int IntKind.i64 0)), (Operand.const (Value.int IntKind.i64 0)), (Operand.tmp 9)], argTypes := #[3, 3, 3] }), 25, none⟩,
          ⟨(some 11), (Op.move (Operand.tmp 0)), 3, none⟩,
          ⟨(some 12), (Op.call { callee := (Callee.value (Operand.func 62)), args := #[(Operand.const (Value.int IntKind.i64 1)), (Operand.const (Value.int IntKind.i64 2)), (Operand.tmp 11)], argTypes := #[3, 3, 3] }), 25, none⟩,
          ⟨(some 13), (Op.buildSlice 34 2 #[(0, (Operand.tmp 10)), (1, (Operand.tmp 12))]), 34, none⟩,
          ⟨(some 14), (Op.buildSlice 25 2 #[(0, (Operand.const (Value.int IntKind.i64 0))), (1, (Operand.const (Value.int IntKind.i64 1)))]), 25, none⟩,
          ⟨(some 15), (Op.buildSlice 25 2 #[(0, (Operand.const (Value.int IntKind.i64 0))), (1, (Operand.const (Value.int IntKind.i64 2)))]), 25, none⟩,
          ⟨(some 16), (Op.buildSlice 25 2 #[(0, (Operand.const (Value.int IntKind.i64 2))), (1, (Operand.const (Value.int IntKind.i64 2)))]), 25, none⟩,
          ⟨(some 17), (Op.buildSlice 34 3 #[(0, (Operand.tmp 14)), (1, (Operand.tmp 15)), (2, (Operand.tmp 16))]), 34, none⟩,
          ⟨(some 18), (Op.build 39 #[(0, (Operand.const (Value.int IntKind.i64 3))), (1, (Operand.tmp 8)), (2, (Operand.tmp 13)), (3, (Operand.tmp 17))]), 39, none⟩,
          ⟨(some 19), (Op.call { callee := (Callee.value (Operand.func 61)), args := #[(Operand.tmp 18)], argTypes := #[39] }), 43, none⟩,
          ⟨(some 20), (Op.extract (Operand.tmp 19) 0), 39, none⟩,
          ⟨(some 21), (Op.extract (Operand.tmp 19) 1), 4, none⟩,
          ⟨none, (Op.store 39 (Operand.tmp 2) (Operand.tmp 20)), 0, none⟩,
          ⟨(some 3), (Op.assign (Operand.tmp 21)), 4, none⟩])
        .ret))
theorem slim30 : Try.f30.body.map (slim lends) = some k30 := by kernel_rfl
theorem ok30 : fnOk Try.f30 1 = true := by kernel_rfl
theorem c30 {a l : List D} {r : D × List D} (h : wpD Y.env k30 (fin tys l.length [ResultVar.cell 2 39, ResultVar.tmp 3] r) (entry a l)) (ha : a.length = 1) : Y.call 30 a l = some r :=
  call_slim (Y := Y) rfl Try.func30 (ha ▸ ok30) slim30 h
theorem i_IndependentSetProblem_call (d : Int) {r : Int × Int × (List (List Int)) × (List (List Int)) × Bool} (h : i_IndependentSetProblem d = some r) : Y.call 30 [D.int .i64 d] [] = some (D.tup [D.agg [D.int .i64 r.1, D.int .i64 r.2.1, D.own 25 (lst (fun x => D.own 3 (lst (D.int .i64) x)) r.2.2.1), D.own 25 (lst (fun x => D.own 3 (lst (D.int .i64) x)) r.2.2.2.1)], D.bool r.2.2.2.2], []) := by
  refine c30 ?_ rfl
  unfold k30
  unfold i_IndependentSetProblem at h
  obtain ⟨r1_, hl1, h⟩ := bindS h
  try dsimp only at h
  have c1 := i_isArity_call d hl1
  by_cases e2 : r1_ = true
  · rw [if_pos e2] at h
    obtain ⟨r3_, hl3, h⟩ := bindS h
    try dsimp only at h
    have c3 := i_oneAnd_call (0 : Int) (0 : Int) d hl3
    obtain ⟨r4_, hl4, h⟩ := bindS h
    try dsimp only at h
    have c4 := i_oneAnd_call (1 : Int) (2 : Int) d hl4
    obtain ⟨r5_, hl5, h⟩ := bindS h
    try dsimp only at h
    have c5 := i_madeProblem_call (3 : Int) d [r3_, r4_] [[0, 1], [0, 2], [2, 2]] hl5
    rcases r5_ with q5_ | q5_
    · dsimp only at h c5
      simp only [lst_cons, lst_nil, cat_cons, cat_nil, List.append_nil, List.cons_append, List.nil_append] at c5
      obtain rfl := Option.some.inj h
      simp (maxDischargeDepth := 9) only [↓xpre, xpost, xlst, xcore, yset, rg0, ↓reduceIte, Nat.reduceEqDiff, Nat.reduceLT, Nat.reduceLeDiff, Nat.reduceAdd, Nat.reduceMul, Nat.reduceMod, Nat.reduceSub, Nat.reduceBEq, Int.reduceLE, Int.reduceLT, Int.reduceEq, Int.reduceSub, Int.reduceAdd, Int.reduceToNat, Int.reduceNeg, c1, e2, c3, c4, c5] <;> (repeat' apply And.intro) <;> first | rfl | exact ⟨_, rfl⟩ | simp [lst]
    · dsimp only at h c5
      simp only [lst_cons, lst_nil, cat_cons, cat_nil, List.append_nil, List.cons_append, List.nil_append] at c5
      obtain rfl := Option.some.inj h
      simp (maxDischargeDepth := 9) only [↓xpre, xpost, xlst, xcore, yset, rg0, ↓reduceIte, Nat.reduceEqDiff, Nat.reduceLT, Nat.reduceLeDiff, Nat.reduceAdd, Nat.reduceMul, Nat.reduceMod, Nat.reduceSub, Nat.reduceBEq, Int.reduceLE, Int.reduceLT, Int.reduceEq, Int.reduceSub, Int.reduceAdd, Int.reduceToNat, Int.reduceNeg, c1, e2, c3, c4, c5] <;> (repeat' apply And.intro) <;> first | rfl | exact ⟨_, rfl⟩ | simp [lst]
  · rw [if_neg e2] at h
    have e2f : r1_ = false := Bool.eq_false_iff.mpr e2
    obtain rfl := Option.some.inj h
    simp (maxDischargeDepth := 9) only [↓xpre, xpost, xlst, xcore, yset, rg0, ↓reduceIte, Nat.reduceEqDiff, Nat.reduceLT, Nat.reduceLeDiff, Nat.reduceAdd, Nat.reduceMul, Nat.reduceMod, Nat.reduceSub, Nat.reduceBEq, Int.reduceLE, Int.reduceLT, Int.reduceEq, Int.reduceSub, Int.reduceAdd, Int.reduceToNat, Int.reduceNeg, c1, e2f] <;> (repeat' apply And.intro) <;> first | rfl | exact ⟨_, rfl⟩ | simp [lst]

noncomputable def s_IndependentSetProblem (d : Int) : Option (Int × Int × (List (List Int)) × (List (List Int)) × Bool) :=
  if (inR d (1 : Int) (4 : Int)) = true then
    (s_prRow d (0 : Int) (0 : Int)).bind fun r3_ =>
    (s_prRow d (1 : Int) (2 : Int)).bind fun r4_ =>
    some (3, d, [r3_, r4_], [[0, 1], [0, 2], [2, 2]], true)
  else
    some (0, 0, [], [], false)
/-- spec.IndependentSetProblem -/
def k29 : SC :=
  .seq
    (.ops [
      ⟨(some 2), (Op.alloc 39), 0, none⟩,
      ⟨(some 3), (Op.assign (Operand.const (Value.bool false))), 4, none⟩])
    (.seq
      (.seq
        (.ops [
          ⟨(some 4), (Op.move (Operand.tmp 0)), 3, none⟩,
          ⟨(some 5), (Op.call { callee := (Callee.value (Operand.func 50)), args := #[(Operand.tmp 4), (Operand.const (Value.int IntKind.i64 1)), (Operand.const (Value.int IntKind.i64 4))], argTypes := #[3, 3, 3] }), 4, none⟩,
          ⟨(some 6), (Op.unOp UnOp.not 4 (Operand.tmp 5)), 4, none⟩])
        (.cond (Operand.tmp 6)
          (.seq
            (.ops [
              ⟨(some 7), (Op.build 39 #[]), 39, none⟩,
              ⟨none, (Op.store 39 (Operand.tmp 2) (Operand.tmp 7)), 0, none⟩,
              ⟨(some 3), (Op.assign (Operand.const (Value.bool false))), 4, none⟩])
            .ret)
          .skip))
      (.seq
        (.ops [
          ⟨(some 8), (Op.move (Operand.tmp 0)), 3, none⟩,
          ⟨(some 9), (Op.move (Operand.tmp 0)), 3, none⟩,
          ⟨(some 10), (Op.call { callee := (Callee.value (Operand.func 59)), args := #[(Operand.tmp 9), (Operand.const (Value.int IntKind.i64 0)), (Operand.const (Value.int IntKind.i64 0))], argTypes := #[3, 3, 3] }), 25, none⟩,
          ⟨(some 11), (Op.move (Operand.tmp 0)), 3, none⟩,
          ⟨(some 12), (Op.call { callee := (Callee.value (Operand.func 59)), args := #[(Operand.tmp 11), (Operand.const (Value.int IntKind.i64 1)), (Operand.const (Value.int IntKind.i64 2))], argTypes := #[3, 3, 3] }), 25, none⟩,
          ⟨(some 13), (Op.buildSlice 34 2 #[(0, (Operand.tmp 10)), (1, (Operand.tmp 12))]), 34, none⟩,
          ⟨(some 14), (Op.buildSlice 25 2 #[(0, (Operand.const (Value.int IntKind.i64 0))), (1, (Operand.const (Value.int IntKind.i64 1)))]), 25, none⟩,
          ⟨(some 15), (Op.buildSlice 25 2 #[(0, (Operand.const (Value.int IntKind.i64 0))), (1, (Operand.const (Value.int IntKind.i64 2)))]), 25, none⟩,
          ⟨(some 16), (Op.buildSlice 25 2 #[(0, (Operand.const (Value.int IntKind.i64 2))), (1, (Operand.const (Value.int IntKind.i64 2)))]), 25, none⟩,
          ⟨(some 17), (Op.buildSlice 34 3 #[(0, (Operand.tmp 14)), (1, (Operand.tmp 15)), (2, (Operand.tmp 16))]), 34, none⟩,
          ⟨(some 18), (Op.build 39 #[(0, (Operand.const (Value.int IntKind.i64 3))), (1, (Operand.tmp 8)), (2, (Operand.tmp 13)), (3, (Operand.tmp 17))]), 39, none⟩,
          ⟨none, (Op.store 39 (Operand.tmp 2) (Operand.tmp 18)), 0, none⟩,
          ⟨(some 3), (Op.assign (Operand.const (Value.bool true))), 4, none⟩])
        .ret))
theorem slim29 : Try.f29.body.map (slim lends) = some k29 := by kernel_rfl
theorem ok29 : fnOk Try.f29 1 = true := by kernel_rfl
theorem c29 {a l : List D} {r : D × List D} (h : wpD Y.env k29 (fin tys l.length [ResultVar.cell 2 39, ResultVar.tmp 3] r) (entry a l)) (ha : a.length = 1) : Y.call 29 a l = some r :=
  call_slim (Y := Y) rfl Try.func29 (ha ▸ ok29) slim29 h
theorem s_IndependentSetProblem_call (d : Int) {r : Int × Int × (List (List Int)) × (List (List Int)) × Bool} (h : s_IndependentSetProblem d = some r) : Y.call 29 [D.int .i64 d] [] = some (D.tup [D.agg [D.int .i64 r.1, D.int .i64 r.2.1, D.own 25 (lst (fun x => D.own 3 (lst (D.int .i64) x)) r.2.2.1), D.own 25 (lst (fun x => D.own 3 (lst (D.int .i64) x)) r.2.2.2.1)], D.bool r.2.2.2.2], []) := by
  refine c29 ?_ rfl
  unfold k29
  unfold s_IndependentSetProblem at h
  have c1 := s_l1In_cl d (1 : Int) (4 : Int)
  by_cases e2 : (inR d (1 : Int) (4 : Int)) = true
  · rw [if_pos e2] at h
    obtain ⟨r3_, hl3, h⟩ := bindS h
    try dsimp only at h
    have c3 := s_prRow_call d (0 : Int) (0 : Int) hl3
    obtain ⟨r4_, hl4, h⟩ := bindS h
    try dsimp only at h
    have c4 := s_prRow_call d (1 : Int) (2 : Int) hl4
    obtain rfl := Option.some.inj h
    simp (maxDischargeDepth := 9) only [↓xpre, xpost, xlst, xcore, yset, rg0, ↓reduceIte, Nat.reduceEqDiff, Nat.reduceLT, Nat.reduceLeDiff, Nat.reduceAdd, Nat.reduceMul, Nat.reduceMod, Nat.reduceSub, Nat.reduceBEq, Int.reduceLE, Int.reduceLT, Int.reduceEq, Int.reduceSub, Int.reduceAdd, Int.reduceToNat, Int.reduceNeg, c1, e2, c3, c4] <;> (repeat' apply And.intro) <;> first | rfl | exact ⟨_, rfl⟩ | simp [lst]
  · rw [if_neg e2] at h
    have e2f : (inR d (1 : Int) (4 : Int)) = false := Bool.eq_false_iff.mpr e2
    obtain rfl := Option.some.inj h
    simp (maxDischargeDepth := 9) only [↓xpre, xpost, xlst, xcore, yset, rg0, ↓reduceIte, Nat.reduceEqDiff, Nat.reduceLT, Nat.reduceLeDiff, Nat.reduceAdd, Nat.reduceMul, Nat.reduceMod, Nat.reduceSub, Nat.reduceBEq, Int.reduceLE, Int.reduceLT, Int.reduceEq, Int.reduceSub, Int.reduceAdd, Int.reduceToNat, Int.reduceNeg, c1, e2f] <;> (repeat' apply And.intro) <;> first | rfl | exact ⟨_, rfl⟩ | simp [lst]

noncomputable def i_MaximalMatchingProblem (d : Int) : Option (Int × Int × (List (List Int)) × (List (List Int)) × Bool) :=
  (i_isArity d).bind fun r1_ =>
  if r1_ = true then
    (i_oneAnd (0 : Int) (1 : Int) d).bind fun r3_ =>
    (i_oneAnd (2 : Int) (2 : Int) d).bind fun r4_ =>
    (i_madeProblem (3 : Int) d [r3_, r4_] [[0, 0], [1, 1], [1, 2]]).bind fun r5_ =>
    match r5_ with
    | .inl q5_ =>
      some (q5_.1, q5_.2.1, q5_.2.2.1, q5_.2.2.2.1, q5_.2.2.2.2)
    | .inr q5_ =>
      some (q5_.1, q5_.2.1, q5_.2.2.1, q5_.2.2.2.1, q5_.2.2.2.2.1)
  else
    some (0, 0, [], [], false)
/-- impl.MaximalMatchingProblem -/
def k34 : SC :=
  .seq
    (.ops [
      ⟨(some 2), (Op.alloc 39), 0, none⟩,
      ⟨(some 3), (Op.assign (Operand.const (Value.bool false))), 4, none⟩])
    (.seq
      (.seq
        (.ops [
          ⟨(some 4), (Op.move (Operand.tmp 0)), 3, none⟩,
          ⟨(some 5), (Op.call { callee := (Callee.value (Operand.func 60)), args := #[(Operand.tmp 4)], argTypes := #[3] }), 4, none⟩,
          ⟨(some 6), (Op.unOp UnOp.not 4 (Operand.tmp 5)), 4, none⟩])
        (.cond (Operand.tmp 6)
          (.seq
            (.ops [
              ⟨(some 7), (Op.build 39 #[]), 39, none⟩,
              ⟨none, (Op.store 39 (Operand.tmp 2) (Operand.tmp 7)), 0, none⟩,
              ⟨(some 3), (Op.assign (Operand.const (Value.bool false))), 4, none⟩])
            .ret)
          .skip))
      (.seq
        (.ops [
          ⟨(some 8), (Op.move (Operand.tmp 0)), 3, none⟩,
          ⟨(some 9), (Op.move (Operand.tmp 0)), 3, none⟩,
          ⟨(some 10), (Op.call { callee := (Callee.value (Operand.func 62)), args := #[(Operand.const (Value.int IntKind.i64 0)), (Operand.const (Value.int IntKind.i64 1)), (Operand.tmp 9)], argTypes := #[3, 3, 3] }), 25, none⟩,
          ⟨(some 11), (Op.move (Operand.tmp 0)), 3, none⟩,
          ⟨(some 12), (Op.call { callee := (Callee.value (Operand.func 62)), args := #[(Operand.const (Value.int IntKind.i64 2)), (Operand.const (Value.int IntKind.i64 2)), (Operand.tmp 11)], argTypes := #[3, 3, 3] }), 25, none⟩,
          ⟨(some 13), (Op.buildSlice 34 2 #[(0, (Operand.tmp 10)), (1, (Operand.tmp 12))]), 34, none⟩,
          ⟨(some 14), (Op.buildSlice 25 2 #[(0, (Operand.const (Value.int IntKind.i64 0))), (1, (Operand.const (Value.int IntKind.i64 0)))]), 25, none⟩,
          ⟨(some 15), (Op.buildSlice 25 2 #[(0, (Operand.const (Value.int IntKind.i64 1))), (1, (Operand.const (Value.int IntKind.i64 1)))]), 25, none⟩,
          ⟨(some 16), (Op.buildSlice 25 2 #[(0, (Operand.const (Value.int IntKind.i64 1))), (1, (Operand.const (Value.int IntKind.i64 2)))]), 25, none⟩,
          ⟨(some 17), (Op.buildSlice 34 3 #[(0, (Operand.tmp 14)), (1, (Operand.tmp 15)), (2, (Operand.tmp 16))]), 34, none⟩,
          ⟨(some 18), (Op.build 39 #[(0, (Operand.const (Value.int IntKind.i64 3))), (1, (Operand.tmp 8)), (2, (Operand.tmp 13)), (3, (Operand.tmp 17))]), 39, none⟩,
          ⟨(some 19), (Op.call { callee := (Callee.value (Operand.func 61)), args := #[(Operand.tmp 18)], argTypes := #[39] }), 43, none⟩,
          ⟨(some 20), (Op.extract (Operand.tmp 19) 0), 39, none⟩,
          ⟨(some 21), (Op.extract (Operand.tmp 19) 1), 4, none⟩,
          ⟨none, (Op.store 39 (Operand.tmp 2) (Operand.tmp 20)), 0, none⟩,
          ⟨(some 3), (Op.assign (Operand.tmp 21)), 4, none⟩])
        .ret))
theorem slim34 : Try.f34.body.map (slim lends) = some k34 := by kernel_rfl
theorem ok34 : fnOk Try.f34 1 = true := by kernel_rfl
theorem c34 {a l : List D} {r : D × List D} (h : wpD Y.env k34 (fin tys l.length [ResultVar.cell 2 39, ResultVar.tmp 3] r) (entry a l)) (ha : a.length = 1) : Y.call 34 a l = some r :=
  call_slim (Y := Y) rfl Try.func34 (ha ▸ ok34) slim34 h
theorem i_MaximalMatchingProblem_call (d : Int) {r : Int × Int × (List (List Int)) × (List (List Int)) × Bool} (h : i_MaximalMatchingProblem d = some r) : Y.call 34 [D.int .i64 d] [] = some (D.tup [D.agg [D.int .i64 r.1, D.int .i64 r.2.1, D.own 25 (lst (fun x => D.own 3 (lst (D.int .i64) x)) r.2.2.1), D.own 25 (lst (fun x => D.own 3 (lst (D.int .i64) x)) r.2.2.2.1)], D.bool r.2.2.2.2], []) := by
  refine c34 ?_ rfl
  unfold k34
  unfold i_MaximalMatchingProblem at h
  obtain ⟨r1_, hl1, h⟩ := bindS h
  try dsimp only at h
  have c1 := i_isArity_call d hl1
  by_cases e2 : r1_ = true
  · rw [if_pos e2] at h
    obtain ⟨r3_, hl3, h⟩ := bindS h
    try dsimp only at h
    have c3 := i_oneAnd_call (0 : Int) (1 : Int) d hl3
    obtain ⟨r4_, hl4, h⟩ := bindS h
    try dsimp only at h
    have c4 := i_oneAnd_call (2 : Int) (2 : Int) d hl4
    obtain ⟨r5_, hl5, h⟩ := bindS h
    try dsimp only at h
    have c5 := i_madeProblem_call (3 : Int) d [r3_, r4_] [[0, 0], [1, 1], [1, 2]] hl5
    rcases r5_ with q5_ | q5_
    · dsimp only at h c5
      simp only [lst_cons, lst_nil, cat_cons, cat_nil, List.append_nil, List.cons_append, List.nil_append] at c5
      obtain rfl := Option.some.inj h
      simp (maxDischargeDepth := 9) only [↓xpre, xpost, xlst, xcore, yset, rg0, ↓reduceIte, Nat.reduceEqDiff, Nat.reduceLT, Nat.reduceLeDiff, Nat.reduceAdd, Nat.reduceMul, Nat.reduceMod, Nat.reduceSub, Nat.reduceBEq, Int.reduceLE, Int.reduceLT, Int.reduceEq, Int.reduceSub, Int.reduceAdd, Int.reduceToNat, Int.reduceNeg, c1, e2, c3, c4, c5] <;> (repeat' apply And.intro) <;> first | rfl | exact ⟨_, rfl⟩ | simp [lst]
    · dsimp only at h c5
      simp only [lst_cons, lst_nil, cat_cons, cat_nil, List.append_nil, List.cons_append, List.nil_append] at c5
      obtain rfl := Option.some.inj h
      simp (maxDischargeDepth := 9) only [↓xpre, xpost, xlst, xcore, yset, rg0, ↓reduceIte, Nat.reduceEqDiff, Nat.reduceLT, Nat.reduceLeDiff, Nat.reduceAdd, Nat.reduceMul, Nat.reduceMod, Nat.reduceSub, Nat.reduceBEq, Int.reduceLE, Int.reduceLT, Int.reduceEq, Int.reduceSub, Int.reduceAdd, Int.reduceToNat, Int.reduceNeg, c1, e2, c3, c4, c5] <;> (repeat' apply And.intro) <;> first | rfl | exact ⟨_, rfl⟩ | simp [lst]
  · rw [if_neg e2] at h
    have e2f : r1_ = false := Bool.eq_false_iff.mpr e2
    obtain rfl := Option.some.inj h
    simp (maxDischargeDepth := 9) only [↓xpre, xpost, xlst, xcore, yset, rg0, ↓reduceIte, Nat.reduceEqDiff, Nat.reduceLT, Nat.reduceLeDiff, Nat.reduceAdd, Nat.reduceMul, Nat.reduceMod, Nat.reduceSub, Nat.reduceBEq, Int.reduceLE, Int.reduceLT, Int.reduceEq, Int.reduceSub, Int.reduceAdd, Int.reduceToNat, Int.reduceNeg, c1, e2f] <;> (repeat' apply And.intro) <;> first | rfl | exact ⟨_, rfl⟩ | simp [lst]

noncomputable def s_MaximalMatchingProblem (d : Int) : Option (Int × Int × (List (List Int)) × (List (List Int)) × Bool) :=
  if (inR d (1 : Int) (4 : Int)) = true then
    (s_prRow d (0 : Int) (1 : Int)).bind fun r3_ =>
    (s_prRow d (2 : Int) (2 : Int)).bind fun r4_ =>
    some (3, d, [r3_, r4_], [[0, 0], [1, 1], [1, 2]], true)
  else
    some (0, 0, [], [], false)
/-- spec.MaximalMatchingProblem -/
def k33 : SC :=
  .seq
    (.ops [
      ⟨(some 2), (Op.alloc 39), 0, none⟩,
      ⟨(some 3), (Op.assign (Operand.const (Value.bool false))), 4, none⟩])
    (.seq
      (.seq
        (.ops [
          ⟨(some 4), (Op.move (Operand.tmp 0)), 3, none⟩,
          ⟨(some 5), (Op.call { callee := (Callee.value (Operand.func 50)), args := #[(Operand.tmp 4), (Operand.const (Value.int IntKind.i64 1)), (Operand.const (Value.int IntKind.i64 4))], argTypes := #[3, 3, 3] }), 4, none⟩,
          ⟨(some 6), (Op.unOp UnOp.not 4 (Operand.tmp 5)), 4, none⟩])
        (.cond (Operand.tmp 6)
          (.seq
            (.ops [
              ⟨(some 7), (Op.build 39 #[]), 39, none⟩,
              ⟨none, (Op.store 39 (Operand.tmp 2) (Operand.tmp 7)), 0, none⟩,
              ⟨(some 3), (Op.assign (Operand.const (Value.bool false))), 4, none⟩])
            .ret)
          .skip))
      (.seq
        (.ops [
          ⟨(some 8), (Op.move (Operand.tmp 0)), 3, none⟩,
          ⟨(some 9), (Op.move (Operand.tmp 0)), 3, none⟩,
          ⟨(some 10), (Op.call { callee := (Callee.value (Operand.func 59)), args := #[(Operand.tmp 9), (Operand.const (Value.int IntKind.i64 0)), (Operand.const (Value.int IntKind.i64 1))], argTypes := #[3, 3, 3] }), 25, none⟩,
          ⟨(some 11), (Op.move (Operand.tmp 0)), 3, none⟩,
          ⟨(some 12), (Op.call { callee := (Callee.value (Operand.func 59)), args := #[(Operand.tmp 11), (Operand.const (Value.int IntKind.i64 2)), (Operand.const (Value.int IntKind.i64 2))], argTypes := #[3, 3, 3] }), 25, none⟩,
          ⟨(some 13), (Op.buildSlice 34 2 #[(0, (Operand.tmp 10)), (1, (Operand.tmp 12))]), 34, none⟩,
          ⟨(some 14), (Op.buildSlice 25 2 #[(0, (Operand.const (Value.int IntKind.i64 0))), (1, (Operand.const (Value.int IntKind.i64 0)))]), 25, none⟩,
          ⟨(some 15), (Op.buildSlice 25 2 #[(0, (Operand.const (Value.int IntKind.i64 1))), (1, (Operand.const (Value.int IntKind.i64 1)))]), 25, none⟩,
          ⟨(some 16), (Op.buildSlice 25 2 #[(0, (Operand.const (Value.int IntKind.i64 1))), (1, (Operand.const (Value.int IntKind.i64 2)))]), 25, none⟩,
          ⟨(some 17), (Op.buildSlice 34 3 #[(0, (Operand.tmp 14)), (1, (Operand.tmp 15)), (2, (Operand.tmp 16))]), 34, none⟩,
          ⟨(some 18), (Op.build 39 #[(0, (Operand.const (Value.int IntKind.i64 3))), (1, (Operand.tmp 8)), (2, (Operand.tmp 13)), (3, (Operand.tmp 17))]), 39, none⟩,
          ⟨none, (Op.store 39 (Operand.tmp 2) (Operand.tmp 18)), 0, none⟩,
          ⟨(some 3), (Op.assign (Operand.const (Value.bool true))), 4, none⟩])
        .ret))
theorem slim33 : Try.f33.body.map (slim lends) = some k33 := by kernel_rfl
theorem ok33 : fnOk Try.f33 1 = true := by kernel_rfl
theorem c33 {a l : List D} {r : D × List D} (h : wpD Y.env k33 (fin tys l.length [ResultVar.cell 2 39, ResultVar.tmp 3] r) (entry a l)) (ha : a.length = 1) : Y.call 33 a l = some r :=
  call_slim (Y := Y) rfl Try.func33 (ha ▸ ok33) slim33 h
theorem s_MaximalMatchingProblem_call (d : Int) {r : Int × Int × (List (List Int)) × (List (List Int)) × Bool} (h : s_MaximalMatchingProblem d = some r) : Y.call 33 [D.int .i64 d] [] = some (D.tup [D.agg [D.int .i64 r.1, D.int .i64 r.2.1, D.own 25 (lst (fun x => D.own 3 (lst (D.int .i64) x)) r.2.2.1), D.own 25 (lst (fun x => D.own 3 (lst (D.int .i64) x)) r.2.2.2.1)], D.bool r.2.2.2.2], []) := by
  refine c33 ?_ rfl
  unfold k33
  unfold s_MaximalMatchingProblem at h
  have c1 := s_l1In_cl d (1 : Int) (4 : Int)
  by_cases e2 : (inR d (1 : Int) (4 : Int)) = true
  · rw [if_pos e2] at h
    obtain ⟨r3_, hl3, h⟩ := bindS h
    try dsimp only at h
    have c3 := s_prRow_call d (0 : Int) (1 : Int) hl3
    obtain ⟨r4_, hl4, h⟩ := bindS h
    try dsimp only at h
    have c4 := s_prRow_call d (2 : Int) (2 : Int) hl4
    obtain rfl := Option.some.inj h
    simp (maxDischargeDepth := 9) only [↓xpre, xpost, xlst, xcore, yset, rg0, ↓reduceIte, Nat.reduceEqDiff, Nat.reduceLT, Nat.reduceLeDiff, Nat.reduceAdd, Nat.reduceMul, Nat.reduceMod, Nat.reduceSub, Nat.reduceBEq, Int.reduceLE, Int.reduceLT, Int.reduceEq, Int.reduceSub, Int.reduceAdd, Int.reduceToNat, Int.reduceNeg, c1, e2, c3, c4] <;> (repeat' apply And.intro) <;> first | rfl | exact ⟨_, rfl⟩ | simp [lst]
  · rw [if_neg e2] at h
    have e2f : (inR d (1 : Int) (4 : Int)) = false := Bool.eq_false_iff.mpr e2
    obtain rfl := Option.some.inj h
    simp (maxDischargeDepth := 9) only [↓xpre, xpost, xlst, xcore, yset, rg0, ↓reduceIte, Nat.reduceEqDiff, Nat.reduceLT, Nat.reduceLeDiff, Nat.reduceAdd, Nat.reduceMul, Nat.reduceMod, Nat.reduceSub, Nat.reduceBEq, Int.reduceLE, Int.reduceLT, Int.reduceEq, Int.reduceSub, Int.reduceAdd, Int.reduceToNat, Int.reduceNeg, c1, e2f] <;> (repeat' apply And.intro) <;> first | rfl | exact ⟨_, rfl⟩ | simp [lst]

noncomputable def i_PerfectMatchingProblem (d : Int) : Option (Int × Int × (List (List Int)) × (List (List Int)) × Bool) :=
  (i_isArity d).bind fun r1_ =>
  if r1_ = true then
    (i_oneAnd (0 : Int) (1 : Int) d).bind fun r3_ =>
    (i_madeProblem (2 : Int) d [r3_] [[0, 0], [1, 1]]).bind fun r4_ =>
    match r4_ with
    | .inl q4_ =>
      some (q4_.1, q4_.2.1, q4_.2.2.1, q4_.2.2.2.1, q4_.2.2.2.2)
    | .inr q4_ =>
      some (q4_.1, q4_.2.1, q4_.2.2.1, q4_.2.2.2.1, q4_.2.2.2.2.1)
  else
    some (0, 0, [], [], false)
/-- impl.PerfectMatchingProblem -/
def k36 : SC :=
  .seq
    (.ops [
      ⟨(some 2), (Op.alloc 39), 0, none⟩,
      ⟨(some 3), (Op.assign (Operand.const (Value.bool false))), 4, none⟩])
    (.seq
      (.seq
        (.ops [
          ⟨(some 4), (Op.move (Operand.tmp 0)), 3, none⟩,
          ⟨(some 5), (Op.call { callee := (Callee.value (Operand.func 60)), args := #[(Operand.tmp 4)], argTypes := #[3] }), 4, none⟩,
          ⟨(some 6), (Op.unOp UnOp.not 4 (Operand.tmp 5)), 4, none⟩])
        (.cond (Operand.tmp 6)
          (.seq
            (.ops [
              ⟨(some 7), (Op.build 39 #[]), 39, none⟩,
              ⟨none, (Op.store 39 (Operand.tmp 2) (Operand.tmp 7)), 0, none⟩,
              ⟨(some 3), (Op.assign (Operand.const (Value.bool false))), 4, none⟩])
            .ret)
          .skip))
      (.seq
        (.ops [
          ⟨(some 8), (Op.move (Operand.tmp 0)), 3, none⟩,
          ⟨(some 9), (Op.move (Operand.tmp 0)), 3, none⟩,
          ⟨(some 10), (Op.call { callee := (Callee.value (Operand.func 62)), args := #[(Operand.const (Value.int IntKind.i64 0)), (Operand.const (Value.int IntKind.i64 1)), (Operand.tmp 9)], argTypes := #[3, 3, 3] }), 25, none⟩,
          ⟨(some 11), (Op.buildSlice 34 1 #[(0, (Operand.tmp 10))]), 34, none⟩,
          ⟨(some 12), (Op.buildSlice 25 2 #[(0, (Operand.const (Value.int IntKind.i64 0))), (1, (Operand.const (Value.int IntKind.i64 0)))]), 25, none⟩,
          ⟨(some 13), (Op.buildSlice 25 2 #[(0, (Operand.const (Value.int IntKind.i64 1))), (1, (Operand.const (Value.int IntKind.i64 1)))]), 25, none⟩,
          ⟨(some 14), (Op.buildSlice 34 2 #[(0, (Operand.tmp 12)), (1, (Operand.tmp 13))]), 34, none⟩,
          ⟨(some 15), (Op.build 39 #[(0, (Operand.const (Value.int IntKind.i64 2))), (1, (Operand.tmp 8)), (2, (Operand.tmp 11)), (3, (Operand.tmp 14))]), 39, none⟩,
          ⟨(some 16), (Op.call { callee := (Callee.value (Operand.func 61)), args := #[(Operand.tmp 15)], argTypes := #[39] }), 43, none⟩,
          ⟨(some 17), (Op.extract (Operand.tmp 16) 0), 39, none⟩,
          ⟨(some 18), (Op.extract (Operand.tmp 16) 1), 4, none⟩,
          ⟨none, (Op.store 39 (Operand.tmp 2) (Operand.tmp 17)), 0, none⟩,
          ⟨(some 3), (Op.assign (Operand.tmp 18)), 4, none⟩])
        .ret))
theorem slim36 : Try.f36.body.map (slim lends) = some k36 := by kernel_rfl
theorem ok36 : fnOk Try.f36 1 = true := by kernel_rfl
theorem c36 {a l : List D} {r : D × List D} (h : wpD Y.env k36 (fin tys l.length [ResultVar.cell 2 39, ResultVar.tmp 3] r) (entry a l)) (ha : a.length = 1) : Y.call 36 a l = some r :=
  call_slim (Y := Y) rfl Try.func36 (ha ▸ ok36) slim36 h
theorem i_PerfectMatchingProblem_call (d : Int) {r : Int × Int × (List (List Int)) × (List (List Int)) × Bool} (h : i_PerfectMatchingProblem d = some r) : Y.call 36 [D.int .i64 d] [] = some (D.tup [D.agg [D.int .i64 r.1, D.int .i64 r.2.1, D.own 25 (lst (fun x => D.own 3 (lst (D.int .i64) x)) r.2.2.1), D.own 25 (lst (fun x => D.own 3 (lst (D.int .i64) x)) r.2.2.2.1)], D.bool r.2.2.2.2], []) := by
  refine c36 ?_ rfl
  unfold k36
  unfold i_PerfectMatchingProblem at h
  obtain ⟨r1_, hl1, h⟩ := bindS h
  try dsimp only at h
  have c1 := i_isArity_call d hl1
  by_cases e2 : r1_ = true
  · rw [if_pos e2] at h
    obtain ⟨r3_, hl3, h⟩ := bindS h
    try dsimp only at h
    have c3 := i_oneAnd_call (0 : Int) (1 : Int) d hl3
    obtain ⟨r4_, hl4, h⟩ := bindS h
    try dsimp only at h
    have c4 := i_madeProblem_call (2 : Int) d [r3_] [[0, 0], [1, 1]] hl4
    rcases r4_ with q4_ | q4_
    · dsimp only at h c4
      simp only [lst_cons, lst_nil, cat_cons, cat_nil, List.append_nil, List.cons_append, List.nil_append] at c4
      obtain rfl := Option.some.inj h
      simp (maxDischargeDepth := 9) only [↓xpre, xpost, xlst, xcore, yset, rg0, ↓reduceIte, Nat.reduceEqDiff, Nat.reduceLT, Nat.reduceLeDiff, Nat.reduceAdd, Nat.reduceMul, Nat.reduceMod, Nat.reduceSub, Nat.reduceBEq, Int.reduceLE, Int.reduceLT, Int.reduceEq, Int.reduceSub, Int.reduceAdd, Int.reduceToNat, Int.reduceNeg, c1, e2, c3, c4] <;> (repeat' apply And.intro) <;> first | rfl | exact ⟨_, rfl⟩ | simp [lst]
    · dsimp only at h c4
      simp only [lst_cons, lst_nil, cat_cons, cat_nil, List.append_nil, List.cons_append, List.nil_append] at c4
      obtain rfl := Option.some.inj h
      simp (maxDischargeDepth := 9) only [↓xpre, xpost, xlst, xcore, yset, rg0, ↓reduceIte, Nat.reduceEqDiff, Nat.reduceLT, Nat.reduceLeDiff, Nat.reduceAdd, Nat.reduceMul, Nat.reduceMod, Nat.reduceSub, Nat.reduceBEq, Int.reduceLE, Int.reduceLT, Int.reduceEq, Int.reduceSub, Int.reduceAdd, Int.reduceToNat, Int.reduceNeg, c1, e2, c3, c4] <;> (repeat' apply And.intro) <;> first | rfl | exact ⟨_, rfl⟩ | simp [lst]
  · rw [if_neg e2] at h
    have e2f : r1_ = false := Bool.eq_false_iff.mpr e2
    obtain rfl := Option.some.inj h
    simp (maxDischargeDepth := 9) only [↓xpre, xpost, xlst, xcore, yset, rg0, ↓reduceIte, Nat.reduceEqDiff, Nat.reduceLT, Nat.reduceLeDiff, Nat.reduceAdd, Nat.reduceMul, Nat.reduceMod, Nat.reduceSub, Nat.reduceBEq, Int.reduceLE, Int.reduceLT, Int.reduceEq, Int.reduceSub, Int.reduceAdd, Int.reduceToNat, Int.reduceNeg, c1, e2f] <;> (repeat' apply And.intro) <;> first | rfl | exact ⟨_, rfl⟩ | simp [lst]

noncomputable def s_PerfectMatchingProblem (d : Int) : Option (Int × Int × (List (List Int)) × (List (List Int)) × Bool) :=
  if (inR d (1 : Int) (4 : Int)) = true then
    (s_prRow d (0 : Int) (1 : Int)).bind fun r3_ =>
    some (2, d, [r3_], [[0, 0], [1, 1]], true)
  else
    some (0, 0, [], [], false)
/-- spec.PerfectMatchingProblem -/
def k35 : SC :=
  .seq
    (.ops [
      ⟨(some 2), (Op.alloc 39), 0, none⟩,
      ⟨(some 3), (Op.assign (Operand.const (Value.bool false))), 4, none⟩])
    (.seq
      (.seq
        (.ops [
          ⟨(some 4), (Op.move (Operand.tmp 0)), 3, none⟩,
          ⟨(some 5), (Op.call { callee := (Callee.value (Operand.func 50)), args := #[(Operand.tmp 4), (Operand.const (Value.int IntKind.i64 1)), (Operand.const (Value.int IntKind.i64 4))], argTypes := #[3, 3, 3] }), 4, none⟩,
          ⟨(some 6), (Op.unOp UnOp.not 4 (Operand.tmp 5)), 4, none⟩])
        (.cond (Operand.tmp 6)
          (.seq
            (.ops [
              ⟨(some 7), (Op.build 39 #[]), 39, none⟩,
              ⟨none, (Op.store 39 (Operand.tmp 2) (Operand.tmp 7)), 0, none⟩,
              ⟨(some 3), (Op.assign (Operand.const (Value.bool false))), 4, none⟩])
            .ret)
          .skip))
      (.seq
        (.ops [
          ⟨(some 8), (Op.move (Operand.tmp 0)), 3, none⟩,
          ⟨(some 9), (Op.move (Operand.tmp 0)), 3, none⟩,
          ⟨(some 10), (Op.call { callee := (Callee.value (Operand.func 59)), args := #[(Operand.tmp 9), (Operand.const (Value.int IntKind.i64 0)), (Operand.const (Value.int IntKind.i64 1))], argTypes := #[3, 3, 3] }), 25, none⟩,
          ⟨(some 11), (Op.buildSlice 34 1 #[(0, (Operand.tmp 10))]), 34, none⟩,
          ⟨(some 12), (Op.buildSlice 25 2 #[(0, (Operand.const (Value.int IntKind.i64 0))), (1, (Operand.const (Value.int IntKind.i64 0)))]), 25, none⟩,
          ⟨(some 13), (Op.buildSlice 25 2 #[(0, (Operand.const (Value.int IntKind.i64 1))), (1, (Operand.const (Value.int IntKind.i64 1)))]), 25, none⟩,
          ⟨(some 14), (Op.buildSlice 34 2 #[(0, (Operand.tmp 12)), (1, (Operand.tmp 13))]), 34, none⟩,
          ⟨(some 15), (Op.build 39 #[(0, (Operand.const (Value.int IntKind.i64 2))), (1, (Operand.tmp 8)), (2, (Operand.tmp 11)), (3, (Operand.tmp 14))]), 39, none⟩,
          ⟨none, (Op.store 39 (Operand.tmp 2) (Operand.tmp 15)), 0, none⟩,
          ⟨(some 3), (Op.assign (Operand.const (Value.bool true))), 4, none⟩])
        .ret))
theorem slim35 : Try.f35.body.map (slim lends) = some k35 := by kernel_rfl
theorem ok35 : fnOk Try.f35 1 = true := by kernel_rfl
theorem c35 {a l : List D} {r : D × List D} (h : wpD Y.env k35 (fin tys l.length [ResultVar.cell 2 39, ResultVar.tmp 3] r) (entry a l)) (ha : a.length = 1) : Y.call 35 a l = some r :=
  call_slim (Y := Y) rfl Try.func35 (ha ▸ ok35) slim35 h
theorem s_PerfectMatchingProblem_call (d : Int) {r : Int × Int × (List (List Int)) × (List (List Int)) × Bool} (h : s_PerfectMatchingProblem d = some r) : Y.call 35 [D.int .i64 d] [] = some (D.tup [D.agg [D.int .i64 r.1, D.int .i64 r.2.1, D.own 25 (lst (fun x => D.own 3 (lst (D.int .i64) x)) r.2.2.1), D.own 25 (lst (fun x => D.own 3 (lst (D.int .i64) x)) r.2.2.2.1)], D.bool r.2.2.2.2], []) := by
  refine c35 ?_ rfl
  unfold k35
  unfold s_PerfectMatchingProblem at h
  have c1 := s_l1In_cl d (1 : Int) (4 : Int)
  by_cases e2 : (inR d (1 : Int) (4 : Int)) = true
  · rw [if_pos e2] at h
    obtain ⟨r3_, hl3, h⟩ := bindS h
    try dsimp only at h
    have c3 := s_prRow_call d (0 : Int) (1 : Int) hl3
    obtain rfl := Option.some.inj h
    simp (maxDischargeDepth := 9) only [↓xpre, xpost, xlst, xcore, yset, rg0, ↓reduceIte, Nat.reduceEqDiff, Nat.reduceLT, Nat.reduceLeDiff, Nat.reduceAdd, Nat.reduceMul, Nat.reduceMod, Nat.reduceSub, Nat.reduceBEq, Int.reduceLE, Int.reduceLT, Int.reduceEq, Int.reduceSub, Int.reduceAdd, Int.reduceToNat, Int.reduceNeg, c1, e2, c3] <;> (repeat' apply And.intro) <;> first | rfl | exact ⟨_, rfl⟩ | simp [lst]
  · rw [if_neg e2] at h
    have e2f : (inR d (1 : Int) (4 : Int)) = false := Bool.eq_false_iff.mpr e2
    obtain rfl := Option.some.inj h
    simp (maxDischargeDepth := 9) only [↓xpre, xpost, xlst, xcore, yset, rg0, ↓reduceIte, Nat.reduceEqDiff, Nat.reduceLT, Nat.reduceLeDiff, Nat.reduceAdd, Nat.reduceMul, Nat.reduceMod, Nat.reduceSub, Nat.reduceBEq, Int.reduceLE, Int.reduceLT, Int.reduceEq, Int.reduceSub, Int.reduceAdd, Int.reduceToNat, Int.reduceNeg, c1, e2f] <;> (repeat' apply And.intro) <;> first | rfl | exact ⟨_, rfl⟩ | simp [lst]

theorem IndependentSetProblem_both (d : Int) : ∃ L K N E ok, Short N ∧ Short E ∧ (0 ≤ tot N ∧ 0 ≤ tot E ∧ tot N + tot E ≤ 1000) ∧ s_IndependentSetProblem d = some (L, K, N, E, ok) ∧ i_IndependentSetProblem d = some (L, K, N, E, ok) := by
  unfold s_IndependentSetProblem i_IndependentSetProblem
  rw [i_isArity_eq, Option.bind_some]
  by_cases h : inR d 1 4 = true
  · have hd := inR_iff.1 h
    rw [if_pos h, if_pos h]
    simp only [prRow_eq _ _ _ hd, oneAnd_eq _ _ _ hd, Option.bind_some]
    rcases deg_cases h with rfl | rfl | rfl | rfl
    all_goals exact ⟨_, _, _, _, _, by decide, by decide, by decide, rfl, by rw [made_eq (by decide) (by decide) (by decide)]; rfl⟩
  · rw [if_neg h, if_neg h]
    exact ⟨0, 0, [], [], false, Short.nil, Short.nil, by decide, rfl, rfl⟩
theorem MaximalMatchingProblem_both (d : Int) : ∃ L K N E ok, Short N ∧ Short E ∧ (0 ≤ tot N ∧ 0 ≤ tot E ∧ tot N + tot E ≤ 1000) ∧ s_MaximalMatchingProblem d = some (L, K, N, E, ok) ∧ i_MaximalMatchingProblem d = some (L, K, N, E, ok) := by
  unfold s_MaximalMatchingProblem i_MaximalMatchingProblem
  rw [i_isArity_eq, Option.bind_some]
  by_cases h : inR d 1 4 = true
  · have hd := inR_iff.1 h
    rw [if_pos h, if_pos h]
    simp only [prRow_eq _ _ _ hd, oneAnd_eq _ _ _ hd, Option.bind_some]
    rcases deg_cases h with rfl | rfl | rfl | rfl
    all_goals exact ⟨_, _, _, _, _, by decide, by decide, by decide, rfl, by rw [made_eq (by decide) (by decide) (by decide)]; rfl⟩
  · rw [if_neg h, if_neg h]
    exact ⟨0, 0, [], [], false, Short.nil, Short.nil, by decide, rfl, rfl⟩
theorem PerfectMatchingProblem_both (d : Int) : ∃ L K N E ok, Short N ∧ Short E ∧ (0 ≤ tot N ∧ 0 ≤ tot E ∧ tot N + tot E ≤ 1000) ∧ s_PerfectMatchingProblem d = some (L, K, N, E, ok) ∧ i_PerfectMatchingProblem d = some (L, K, N, E, ok) := by
  unfold s_PerfectMatchingProblem i_PerfectMatchingProblem
  rw [i_isArity_eq, Option.bind_some]
  by_cases h : inR d 1 4 = true
  · have hd := inR_iff.1 h
    rw [if_pos h, if_pos h]
    simp only [prRow_eq _ _ _ hd, oneAnd_eq _ _ _ hd, Option.bind_some]
    rcases deg_cases h with rfl | rfl | rfl | rfl
    all_goals exact ⟨_, _, _, _, _, by decide, by decide, by decide, rfl, by rw [made_eq (by decide) (by decide) (by decide)]; rfl⟩
  · rw [if_neg h, if_neg h]
    exact ⟨0, 0, [], [], false, Short.nil, Short.nil, by decide, rfl, rfl⟩
noncomputable def l_FnExactIndependentSetProblem (aD : Int) : Option (Bool) :=
  (s_IndependentSetProblem aD).bind fun r1_ =>
  (i_IndependentSetProblem aD).bind fun r2_ =>
  ck (Short r2_.2.2.1) <|
  ck (Short r2_.2.2.2.1) <|
  if (sameP r2_.1 r2_.2.1 r2_.2.2.1 r2_.2.2.2.1 r1_.1 r1_.2.1 r1_.2.2.1 r1_.2.2.2.1) = true then
    if r2_.2.2.2.2 = true then
      if r1_.2.2.2.2 = true then
        ck (0 ≤ (1 : Int) ∧ (1 : Int) + tot r2_.2.2.1 + tot r2_.2.2.2.1 < 1099511627776) <|
        (l_heldProblem r2_.1 r2_.2.1 (marks (1 : Int) r2_.2.2.1) (marks ((1 : Int) + tot r2_.2.2.1) r2_.2.2.2.1) (1 : Int)).bind fun r11_ =>
        if r11_ < 0 then
          some false
        else
          if r11_ = ((1 : Int) + tot r2_.2.2.1 + tot r2_.2.2.2.1) then
            some true
          else
            some false
      else
        some false
    else
      if r1_.2.2.2.2 = true then
        some false
      else
        ck (0 ≤ (1 : Int) ∧ (1 : Int) + tot r2_.2.2.1 + tot r2_.2.2.2.1 < 1099511627776) <|
        (l_heldProblem r2_.1 r2_.2.1 (marks (1 : Int) r2_.2.2.1) (marks ((1 : Int) + tot r2_.2.2.1) r2_.2.2.2.1) (1 : Int)).bind fun r11_ =>
        if r11_ < 0 then
          some false
        else
          if r11_ = ((1 : Int) + tot r2_.2.2.1 + tot r2_.2.2.2.1) then
            some true
          else
            some false
  else
    some false
/-- laws.FnExactIndependentSetProblem -/
def k7 : SC :=
  .seq
    (.ops [
      ⟨(some 2), (Op.assign (Operand.const (Value.bool false))), 4, none⟩])
    (.seq
      (.ops [
        ⟨(some 12), (Op.move (Operand.tmp 0)), 3, none⟩,
        ⟨(some 13), (Op.call { callee := (Callee.value (Operand.func 29)), args := #[(Operand.tmp 12)], argTypes := #[3] }), 43, none⟩,
        ⟨(some 11), (Op.move (Operand.tmp 13)), 43, none⟩,
        ⟨(some 14), (Op.extract (Operand.tmp 11) 0), 39, none⟩,
        ⟨(some 15), (Op.extract (Operand.tmp 11) 1), 4, none⟩,
        ⟨(some 3), (Op.alloc 39), 0, none⟩,
        ⟨none, (Op.store 39 (Operand.tmp 3) (Operand.tmp 14)), 0, none⟩,
        ⟨(some 4), (Op.assign (Operand.tmp 15)), 4, none⟩])
      (.seq
        (.ops [
          ⟨(some 17), (Op.move (Operand.tmp 0)), 3, none⟩,
          ⟨(some 18), (Op.call { callee := (Callee.value (Operand.func 30)), args := #[(Operand.tmp 17)], argTypes := #[3] }), 43, none⟩,
          ⟨(some 16), (Op.move (Operand.tmp 18)), 43, none⟩,
          ⟨(some 19), (Op.extract (Operand.tmp 16) 0), 39, none⟩,
          ⟨(some 20), (Op.extract (Operand.tmp 16) 1), 4, none⟩,
          ⟨(some 5), (Op.alloc 39), 0, none⟩,
          ⟨none, (Op.store 39 (Operand.tmp 5) (Operand.tmp 19)), 0, none⟩,
          ⟨(some 6), (Op.assign (Operand.tmp 20)), 4, none⟩])
        (.seq
          (.seq
            (.ops [
              ⟨(some 21), (Op.load 39 (Operand.tmp 5)), 39, none⟩,
              ⟨(some 22), (Op.load 39 (Operand.tmp 3)), 39, none⟩,
              ⟨(some 23), (Op.call { callee := (Callee.value (Operand.func 28)), args := #[(Operand.tmp 21), (Operand.tmp 22)], argTypes := #[39, 39] }), 4, none⟩,
              ⟨(some 24), (Op.unOp UnOp.not 4 (Operand.tmp 23)), 4, none⟩,
              ⟨(some 25), (Op.move (Operand.tmp 24)), 4, none⟩,
              ⟨(some 26), (Op.move (Operand.tmp 6)), 4, (some (some 25, false))⟩,
              ⟨(some 27), (Op.move (Operand.tmp 4)), 4, (some (some 25, false))⟩,
              ⟨(some 28), (Op.binOp BinOp.neq 4 (Operand.tmp 26) (Operand.tmp 27) 4), 4, (some (some 25, false))⟩,
              ⟨(some 29), (Op.pick (Operand.tmp 25) (Operand.const (Value.bool true)) (Operand.tmp 28)), 4, none⟩])
            (.cond (Operand.tmp 29)
              (.seq
                (.ops [
                  ⟨(some 2), (Op.assign (Operand.const (Value.bool false))), 4, none⟩])
                .ret)
              .skip))
          (.seq
            (.ops [
              ⟨(some 7), (Op.assign (Operand.const (Value.int IntKind.i64 1))), 3, none⟩])
            (.seq
              (.ops [
                ⟨(some 30), (Op.load 39 (Operand.tmp 5)), 39, none⟩,
                ⟨(some 31), (Op.move (Operand.tmp 7)), 3, none⟩,
                ⟨(some 32), (Op.call { callee := (Callee.value (Operand.func 31)), args := #[(Operand.tmp 30), (Operand.tmp 31)], argTypes := #[39, 3] }), 3, none⟩,
                ⟨(some 7), (Op.assign (Operand.tmp 32)), 3, none⟩])
              (.seq
                (.ops [
                  ⟨(some 8), (Op.assign (Operand.const (Value.int IntKind.i64 1))), 3, none⟩])
                (.seq
                  (.ops [
                    ⟨(some 33), (Op.load 39 (Operand.tmp 5)), 39, none⟩,
                    ⟨(some 34), (Op.move (Operand.tmp 8)), 3, none⟩,
                    ⟨(some 35), (Op.call { callee := (Callee.value (Operand.func 32)), args := #[(Operand.tmp 33), (Operand.tmp 34)], argTypes := #[39, 3] }), 3, none⟩,
                    ⟨(some 8), (Op.assign (Operand.tmp 35)), 3, none⟩])
                  (.seq
                    (.seq
                      (.ops [
                        ⟨(some 36), (Op.move (Operand.tmp 8)), 3, none⟩,
                        ⟨(some 37), (Op.binOp BinOp.lss 3 (Operand.tmp 36) (Operand.const (Value.int IntKind.i64 0)) 3), 4, none⟩])
                      (.cond (Operand.tmp 37)
                        (.seq
                          (.ops [
                            ⟨(some 2), (Op.assign (Operand.const (Value.bool false))), 4, none⟩])
                          .ret)
                        .skip))
                    (.seq
                      (.seq
                        (.ops [
                          ⟨(some 38), (Op.move (Operand.tmp 8)), 3, none⟩,
                          ⟨(some 39), (Op.move (Operand.tmp 7)), 3, none⟩,
                          ⟨(some 40), (Op.binOp BinOp.neq 3 (Operand.tmp 38) (Operand.tmp 39) 3), 4, none⟩])
                        (.cond (Operand.tmp 40)
                          (.seq
                            (.ops [
                              ⟨(some 2), (Op.assign (Operand.const (Value.bool false))), 4, none⟩])
                            .ret)
                          .skip))
                      (.seq
                        (.ops [
                          ⟨(some 42), (Op.move (Operand.tmp 0)), 3, none⟩,
                          ⟨(some 43), (Op.call { callee := (Callee.value (Operand.func 30)), args := #[(Operand.tmp 42)], argTypes := #[3] }), 43, none⟩,
                          ⟨(some 41), (Op.move (Operand.tmp 43)), 43, none⟩,
                          ⟨(some 44), (Op.extract (Operand.tmp 41) 0), 39, none⟩,
                          ⟨(some 45), (Op.extract (Operand.tmp 41) 1), 4, none⟩,
                          ⟨(some 9), (Op.alloc 39), 0, none⟩,
                          ⟨none, (Op.store 39 (Operand.tmp 9) (Operand.tmp 44)), 0, none⟩,
                          ⟨(some 10), (Op.assign (Operand.tmp 45)), 4, none⟩])
                        (.seq
                          (.seq
                            (.ops [
                              ⟨(some 46), (Op.load 39 (Operand.tmp 9)), 39, none⟩,
                              ⟨(some 47), (Op.load 39 (Operand.tmp 3)), 39, none⟩,
                              ⟨(some 48), (Op.call { callee := (Callee.value (Operand.func 28)), args := #[(Operand.tmp 46), (Operand.tmp 47)], argTypes := #[39, 39] }), 4, none⟩,
                              ⟨(some 49), (Op.unOp UnOp.not 4 (Operand.tmp 48)), 4, none⟩,
                              ⟨(some 50), (Op.move (Operand.tmp 49)), 4, none⟩,
                              ⟨(some 51), (Op.move (Operand.tmp 10)), 4, (some (some 50, false))⟩,
                              ⟨(some 52), (Op.move (Operand.tmp 4)), 4, (some (some 50, false))⟩,
                              ⟨(some 53), (Op.binOp BinOp.neq 4 (Operand.tmp 51) (Operand.tmp 52) 4), 4, (some (some 50, false))⟩,
                              ⟨(some 54), (Op.pick (Operand.tmp 50) (Operand.const (Value.bool true)) (Operand.tmp 53)), 4, none⟩])
                            (.cond (Operand.tmp 54)
                              (.seq
                                (.ops [
                                  ⟨(some 2), (Op.assign (Operand.const (Value.bool false))), 4, none⟩])
                                .ret)
                              .skip))
                          (.seq
                            (.ops [
                              ⟨(some 8), (Op.assign (Operand.const (Value.int IntKind.i64 1))), 3, none⟩])
                            (.seq
                              (.ops [
                                ⟨(some 55), (Op.load 39 (Operand.tmp 5)), 39, none⟩,
                                ⟨(some 56), (Op.move (Operand.tmp 8)), 3, none⟩,
                                ⟨(some 57), (Op.call { callee := (Callee.value (Operand.func 32)), args := #[(Operand.tmp 55), (Operand.tmp 56)], argTypes := #[39, 3] }), 3, none⟩,
                                ⟨(some 8), (Op.assign (Operand.tmp 57)), 3, none⟩])
                              (.seq
                                (.seq
                                  (.ops [
                                    ⟨(some 58), (Op.move (Operand.tmp 8)), 3, none⟩,
                                    ⟨(some 59), (Op.binOp BinOp.lss 3 (Operand.tmp 58) (Operand.const (Value.int IntKind.i64 0)) 3), 4, none⟩])
                                  (.cond (Operand.tmp 59)
                                    (.seq
                                      (.ops [
                                        ⟨(some 2), (Op.assign (Operand.const (Value.bool false))), 4, none⟩])
                                      .ret)
                                    .skip))
                                (.seq
                                  (.seq
                                    (.ops [
                                      ⟨(some 60), (Op.move (Operand.tmp 8)), 3, none⟩,
                                      ⟨(some 61), (Op.move (Operand.tmp 7)), 3, none⟩,
                                      ⟨(some 62), (Op.binOp BinOp.neq 3 (Operand.tmp 60) (Operand.tmp 61) 3), 4, none⟩])
                                    (.cond (Operand.tmp 62)
                                      (.seq
                                        (.ops [
                                          ⟨(some 2), (Op.assign (Operand.const (Value.bool false))), 4, none⟩])
                                        .ret)
                                      .skip))
                                  (.seq
                                    (.ops [
                                      ⟨(some 2), (Op.assign (Operand.const (Value.bool true))), 4, none⟩])
                                    .ret))))))))))))))))
theorem slim7 : Try.f7.body.map (slim lends) = some k7 := by kernel_rfl
theorem ok7 : fnOk Try.f7 1 = true := by kernel_rfl
theorem c7 {a l : List D} {r : D × List D} (h : wpD Y.env k7 (fin tys l.length [ResultVar.tmp 2] r) (entry a l)) (ha : a.length = 1) : Y.call 7 a l = some r :=
  call_slim (Y := Y) rfl Try.func7 (ha ▸ ok7) slim7 h
theorem l_FnExactIndependentSetProblem_call (aD : Int) {r : Bool} (h : l_FnExactIndependentSetProblem aD = some r) : Y.call 7 [D.int .i64 aD] [] = some (D.bool r, []) := by
  refine c7 ?_ rfl
  unfold k7
  unfold l_FnExactIndependentSetProblem at h
  obtain ⟨r1_, hl1, h⟩ := bindS h
  try dsimp only at h
  have c1 := s_IndependentSetProblem_call aD hl1
  obtain ⟨r2_, hl2, h⟩ := bindS h
  try dsimp only at h
  have c2 := i_IndependentSetProblem_call aD hl2
  obtain ⟨e3, h⟩ := ckS h
  obtain ⟨e4, h⟩ := ckS h
  have c5 := l_eqProblem_cl r2_.1 r2_.2.1 r2_.2.2.1 r2_.2.2.2.1 r1_.1 r1_.2.1 r1_.2.2.1 r1_.2.2.2.1 e3 e4
  by_cases e6 : (sameP r2_.1 r2_.2.1 r2_.2.2.1 r2_.2.2.2.1 r1_.1 r1_.2.1 r1_.2.2.1 r1_.2.2.2.1) = true
  · rw [if_pos e6] at h
    by_cases e7 : r2_.2.2.2.2 = true
    · rw [if_pos e7] at h
      by_cases e8 : r1_.2.2.2.2 = true
      · rw [if_pos e8] at h
        obtain ⟨e9, h⟩ := ckS h
        have c10 := l_markProblem_cl r2_.1 r2_.2.1 r2_.2.2.1 r2_.2.2.2.1 (1 : Int) e3 e4 e9
        obtain ⟨r11_, hl11, h⟩ := bindS h
        try dsimp only at h
        have c11 := l_heldProblem_call r2_.1 r2_.2.1 (marks (1 : Int) r2_.2.2.1) (marks ((1 : Int) + tot r2_.2.2.1) r2_.2.2.2.1) (1 : Int) hl11
        by_cases e12 : r11_ < 0
        · rw [if_pos e12] at h
          obtain rfl := Option.some.inj h
          simp (maxDischargeDepth := 9) only [↓xpre, xpost, xlst, xcore, yset, rg0, ↓reduceIte, Nat.reduceEqDiff, Nat.reduceLT, Nat.reduceLeDiff, Nat.reduceAdd, Nat.reduceMul, Nat.reduceMod, Nat.reduceSub, Nat.reduceBEq, Int.reduceLE, Int.reduceLT, Int.reduceEq, Int.reduceSub, Int.reduceAdd, Int.reduceToNat, Int.reduceNeg, c1, c2, e3, e4, c5, e6, e7, e8, e9.1, e9.2, c10, c11, e12] <;> (repeat' apply And.intro) <;> first | rfl | exact ⟨_, rfl⟩ | simp [lst]
        · rw [if_neg e12] at h
          by_cases e13 : r11_ = ((1 : Int) + tot r2_.2.2.1 + tot r2_.2.2.2.1)
          · rw [if_pos e13] at h
            have c14 := l_eqProblem_cl r2_.1 r2_.2.1 r2_.2.2.1 r2_.2.2.2.1 r1_.1 r1_.2.1 r1_.2.2.1 r1_.2.2.2.1 e3 e4
            obtain rfl := Option.some.inj h
            simp (maxDischargeDepth := 9) only [↓xpre, xpost, xlst, xcore, yset, rg0, ↓reduceIte, Nat.reduceEqDiff, Nat.reduceLT, Nat.reduceLeDiff, Nat.reduceAdd, Nat.reduceMul, Nat.reduceMod, Nat.reduceSub, Nat.reduceBEq, Int.reduceLE, Int.reduceLT, Int.reduceEq, Int.reduceSub, Int.reduceAdd, Int.reduceToNat, Int.reduceNeg, c1, c2, e3, e4, c5, e6, e7, e8, e9.1, e9.2, c10, c11, e12, decide_eq_true e13, c14] <;> (repeat' apply And.intro) <;> first | rfl | exact ⟨_, rfl⟩ | simp [lst]
          · rw [if_neg e13] at h
            obtain rfl := Option.some.inj h
            simp (maxDischargeDepth := 9) only [↓xpre, xpost, xlst, xcore, yset, rg0, ↓reduceIte, Nat.reduceEqDiff, Nat.reduceLT, Nat.reduceLeDiff, Nat.reduceAdd, Nat.reduceMul, Nat.reduceMod, Nat.reduceSub, Nat.reduceBEq, Int.reduceLE, Int.reduceLT, Int.reduceEq, Int.reduceSub, Int.reduceAdd, Int.reduceToNat, Int.reduceNeg, c1, c2, e3, e4, c5, e6, e7, e8, e9.1, e9.2, c10, c11, e12, e13] <;> (repeat' apply And.intro) <;> first | rfl | exact ⟨_, rfl⟩ | simp [lst]
      · rw [if_neg e8] at h
        have e8f : r1_.2.2.2.2 = false := Bool.eq_false_iff.mpr e8
        obtain rfl := Option.some.inj h
        simp (maxDischargeDepth := 9) only [↓xpre, xpost, xlst, xcore, yset, rg0, ↓reduceIte, Nat.reduceEqDiff, Nat.reduceLT, Nat.reduceLeDiff, Nat.reduceAdd, Nat.reduceMul, Nat.reduceMod, Nat.reduceSub, Nat.reduceBEq, Int.reduceLE, Int.reduceLT, Int.reduceEq, Int.reduceSub, Int.reduceAdd, Int.reduceToNat, Int.reduceNeg, c1, c2, e3, e4, c5, e6, e7, e8f] <;> (repeat' apply And.intro) <;> first | rfl | exact ⟨_, rfl⟩ | simp [lst]
    · rw [if_neg e7] at h
      have e7f : r2_.2.2.2.2 = false := Bool.eq_false_iff.mpr e7
      by_cases e8 : r1_.2.2.2.2 = true
      · rw [if_pos e8] at h
        obtain rfl := Option.some.inj h
        simp (maxDischargeDepth := 9) only [↓xpre, xpost, xlst, xcore, yset, rg0, ↓reduceIte, Nat.reduceEqDiff, Nat.reduceLT, Nat.reduceLeDiff, Nat.reduceAdd, Nat.reduceMul, Nat.reduceMod, Nat.reduceSub, Nat.reduceBEq, Int.reduceLE, Int.reduceLT, Int.reduceEq, Int.reduceSub, Int.reduceAdd, Int.reduceToNat, Int.reduceNeg, c1, c2, e3, e4, c5, e6, e7f, e8] <;> (repeat' apply And.intro) <;> first | rfl | exact ⟨_, rfl⟩ | simp [lst]
      · rw [if_neg e8] at h
        have e8f : r1_.2.2.2.2 = false := Bool.eq_false_iff.mpr e8
        obtain ⟨e9, h⟩ := ckS h
        have c10 := l_markProblem_cl r2_.1 r2_.2.1 r2_.2.2.1 r2_.2.2.2.1 (1 : Int) e3 e4 e9
        obtain ⟨r11_, hl11, h⟩ := bindS h
        try dsimp only at h
        have c11 := l_heldProblem_call r2_.1 r2_.2.1 (marks (1 : Int) r2_.2.2.1) (marks ((1 : Int) + tot r2_.2.2.1) r2_.2.2.2.1) (1 : Int) hl11
        by_cases e12 : r11_ < 0
        · rw [if_pos e12] at h
          obtain rfl := Option.some.inj h
          simp (maxDischargeDepth := 9) only [↓xpre, xpost, xlst, xcore, yset, rg0, ↓reduceIte, Nat.reduceEqDiff, Nat.reduceLT, Nat.reduceLeDiff, Nat.reduceAdd, Nat.reduceMul, Nat.reduceMod, Nat.reduceSub, Nat.reduceBEq, Int.reduceLE, Int.reduceLT, Int.reduceEq, Int.reduceSub, Int.reduceAdd, Int.reduceToNat, Int.reduceNeg, c1, c2, e3, e4, c5, e6, e7f, e8f, e9.1, e9.2, c10, c11, e12] <;> (repeat' apply And.intro) <;> first | rfl | exact ⟨_, rfl⟩ | simp [lst]
        · rw [if_neg e12] at h
          by_cases e13 : r11_ = ((1 : Int) + tot r2_.2.2.1 + tot r2_.2.2.2.1)
          · rw [if_pos e13] at h
            have c14 := l_eqProblem_cl r2_.1 r2_.2.1 r2_.2.2.1 r2_.2.2.2.1 r1_.1 r1_.2.1 r1_.2.2.1 r1_.2.2.2.1 e3 e4
            obtain rfl := Option.some.inj h
            simp (maxDischargeDepth := 9) only [↓xpre, xpost, xlst, xcore, yset, rg0, ↓reduceIte, Nat.reduceEqDiff, Nat.reduceLT, Nat.reduceLeDiff, Nat.reduceAdd, Nat.reduceMul, Nat.reduceMod, Nat.reduceSub, Nat.reduceBEq, Int.reduceLE, Int.reduceLT, Int.reduceEq, Int.reduceSub, Int.reduceAdd, Int.reduceToNat, Int.reduceNeg, c1, c2, e3, e4, c5, e6, e7f, e8f, e9.1, e9.2, c10, c11, e12, decide_eq_true e13, c14] <;> (repeat' apply And.intro) <;> first | rfl | exact ⟨_, rfl⟩ | simp [lst]
          · rw [if_neg e13] at h
            obtain rfl := Option.some.inj h
            simp (maxDischargeDepth := 9) only [↓xpre, xpost, xlst, xcore, yset, rg0, ↓reduceIte, Nat.reduceEqDiff, Nat.reduceLT, Nat.reduceLeDiff, Nat.reduceAdd, Nat.reduceMul, Nat.reduceMod, Nat.reduceSub, Nat.reduceBEq, Int.reduceLE, Int.reduceLT, Int.reduceEq, Int.reduceSub, Int.reduceAdd, Int.reduceToNat, Int.reduceNeg, c1, c2, e3, e4, c5, e6, e7f, e8f, e9.1, e9.2, c10, c11, e12, e13] <;> (repeat' apply And.intro) <;> first | rfl | exact ⟨_, rfl⟩ | simp [lst]
  · rw [if_neg e6] at h
    have e6f : (sameP r2_.1 r2_.2.1 r2_.2.2.1 r2_.2.2.2.1 r1_.1 r1_.2.1 r1_.2.2.1 r1_.2.2.2.1) = false := Bool.eq_false_iff.mpr e6
    obtain rfl := Option.some.inj h
    simp (maxDischargeDepth := 9) only [↓xpre, xpost, xlst, xcore, yset, rg0, ↓reduceIte, Nat.reduceEqDiff, Nat.reduceLT, Nat.reduceLeDiff, Nat.reduceAdd, Nat.reduceMul, Nat.reduceMod, Nat.reduceSub, Nat.reduceBEq, Int.reduceLE, Int.reduceLT, Int.reduceEq, Int.reduceSub, Int.reduceAdd, Int.reduceToNat, Int.reduceNeg, c1, c2, e3, e4, c5, e6f] <;> (repeat' apply And.intro) <;> first | rfl | exact ⟨_, rfl⟩ | simp [lst]

noncomputable def l_FnExactMaximalMatchingProblem (aD : Int) : Option (Bool) :=
  (s_MaximalMatchingProblem aD).bind fun r1_ =>
  (i_MaximalMatchingProblem aD).bind fun r2_ =>
  ck (Short r2_.2.2.1) <|
  ck (Short r2_.2.2.2.1) <|
  if (sameP r2_.1 r2_.2.1 r2_.2.2.1 r2_.2.2.2.1 r1_.1 r1_.2.1 r1_.2.2.1 r1_.2.2.2.1) = true then
    if r2_.2.2.2.2 = true then
      if r1_.2.2.2.2 = true then
        ck (0 ≤ (1 : Int) ∧ (1 : Int) + tot r2_.2.2.1 + tot r2_.2.2.2.1 < 1099511627776) <|
        (l_heldProblem r2_.1 r2_.2.1 (marks (1 : Int) r2_.2.2.1) (marks ((1 : Int) + tot r2_.2.2.1) r2_.2.2.2.1) (1 : Int)).bind fun r11_ =>
        if r11_ < 0 then
          some false
        else
          if r11_ = ((1 : Int) + tot r2_.2.2.1 + tot r2_.2.2.2.1) then
            some true
          else
            some false
      else
        some false
    else
      if r1_.2.2.2.2 = true then
        some false
      else
        ck (0 ≤ (1 : Int) ∧ (1 : Int) + tot r2_.2.2.1 + tot r2_.2.2.2.1 < 1099511627776) <|
        (l_heldProblem r2_.1 r2_.2.1 (marks (1 : Int) r2_.2.2.1) (marks ((1 : Int) + tot r2_.2.2.1) r2_.2.2.2.1) (1 : Int)).bind fun r11_ =>
        if r11_ < 0 then
          some false
        else
          if r11_ = ((1 : Int) + tot r2_.2.2.1 + tot r2_.2.2.2.1) then
            some true
          else
            some false
  else
    some false
/-- laws.FnExactMaximalMatchingProblem -/
def k8 : SC :=
  .seq
    (.ops [
      ⟨(some 2), (Op.assign (Operand.const (Value.bool false))), 4, none⟩])
    (.seq
      (.ops [
        ⟨(some 12), (Op.move (Operand.tmp 0)), 3, none⟩,
        ⟨(some 13), (Op.call { callee := (Callee.value (Operand.func 33)), args := #[(Operand.tmp 12)], argTypes := #[3] }), 43, none⟩,
        ⟨(some 11), (Op.move (Operand.tmp 13)), 43, none⟩,
        ⟨(some 14), (Op.extract (Operand.tmp 11) 0), 39, none⟩,
        ⟨(some 15), (Op.extract (Operand.tmp 11) 1), 4, none⟩,
        ⟨(some 3), (Op.alloc 39), 0, none⟩,
        ⟨none, (Op.store 39 (Operand.tmp 3) (Operand.tmp 14)), 0, none⟩,
        ⟨(some 4), (Op.assign (Operand.tmp 15)), 4, none⟩])
      (.seq
        (.ops [
          ⟨(some 17), (Op.move (Operand.tmp 0)), 3, none⟩,
          ⟨(some 18), (Op.call { callee := (Callee.value (Operand.func 34)), args := #[(Operand.tmp 17)], argTypes := #[3] }), 43, none⟩,
          ⟨(some 16), (Op.move (Operand.tmp 18)), 43, none⟩,
          ⟨(some 19), (Op.extract (Operand.tmp 16) 0), 39, none⟩,
          ⟨(some 20), (Op.extract (Operand.tmp 16) 1), 4, none⟩,
          ⟨(some 5), (Op.alloc 39), 0, none⟩,
          ⟨none, (Op.store 39 (Operand.tmp 5) (Operand.tmp 19)), 0, none⟩,
          ⟨(some 6), (Op.assign (Operand.tmp 20)), 4, none⟩])
        (.seq
          (.seq
            (.ops [
              ⟨(some 21), (Op.load 39 (Operand.tmp 5)), 39, none⟩,
              ⟨(some 22), (Op.load 39 (Operand.tmp 3)), 39, none⟩,
              ⟨(some 23), (Op.call { callee := (Callee.value (Operand.func 28)), args := #[(Operand.tmp 21), (Operand.tmp 22)], argTypes := #[39, 39] }), 4, none⟩,
              ⟨(some 24), (Op.unOp UnOp.not 4 (Operand.tmp 23)), 4, none⟩,
              ⟨(some 25), (Op.move (Operand.tmp 24)), 4, none⟩,
              ⟨(some 26), (Op.move (Operand.tmp 6)), 4, (some (some 25, false))⟩,
              ⟨(some 27), (Op.move (Operand.tmp 4)), 4, (some (some 25, false))⟩,
              ⟨(some 28), (Op.binOp BinOp.neq 4 (Operand.tmp 26) (Operand.tmp 27) 4), 4, (some (some 25, false))⟩,
              ⟨(some 29), (Op.pick (Operand.tmp 25) (Operand.const (Value.bool true)) (Operand.tmp 28)), 4, none⟩])
            (.cond (Operand.tmp 29)
              (.seq
                (.ops [
                  ⟨(some 2), (Op.assign (Operand.const (Value.bool false))), 4, none⟩])
                .ret)
              .skip))
          (.seq
            (.ops [
              ⟨(some 7), (Op.assign (Operand.const (Value.int IntKind.i64 1))), 3, none⟩])
            (.seq
              (.ops [
                ⟨(some 30), (Op.load 39 (Operand.tmp 5)), 39, none⟩,
                ⟨(some 31), (Op.move (Operand.tmp 7)), 3, none⟩,
                ⟨(some 32), (Op.call { callee := (Callee.value (Operand.func 31)), args := #[(Operand.tmp 30), (Operand.tmp 31)], argTypes := #[39, 3] }), 3, none⟩,
                ⟨(some 7), (Op.assign (Operand.tmp 32)), 3, none⟩])
              (.seq
                (.ops [
                  ⟨(some 8), (Op.assign (Operand.const (Value.int IntKind.i64 1))), 3, none⟩])
                (.seq
                  (.ops [
                    ⟨(some 33), (Op.load 39 (Operand.tmp 5)), 39, none⟩,
                    ⟨(some 34), (Op.move (Operand.tmp 8)), 3, none⟩,
                    ⟨(some 35), (Op.call { callee := (Callee.value (Operand.func 32)), args := #[(Operand.tmp 33), (Operand.tmp 34)], argTypes := #[39, 3] }), 3, none⟩,
                    ⟨(some 8), (Op.assign (Operand.tmp 35)), 3, none⟩])
                  (.seq
                    (.seq
                      (.ops [
                        ⟨(some 36), (Op.move (Operand.tmp 8)), 3, none⟩,
                        ⟨(some 37), (Op.binOp BinOp.lss 3 (Operand.tmp 36) (Operand.const (Value.int IntKind.i64 0)) 3), 4, none⟩])
                      (.cond (Operand.tmp 37)
                        (.seq
                          (.ops [
                            ⟨(some 2), (Op.assign (Operand.const (Value.bool false))), 4, none⟩])
                          .ret)
                        .skip))
                    (.seq
                      (.seq
                        (.ops [
                          ⟨(some 38), (Op.move (Operand.tmp 8)), 3, none⟩,
                          ⟨(some 39), (Op.move (Operand.tmp 7)), 3, none⟩,
                          ⟨(some 40), (Op.binOp BinOp.neq 3 (Operand.tmp 38) (Operand.tmp 39) 3), 4, none⟩])
                        (.cond (Operand.tmp 40)
                          (.seq
                            (.ops [
                              ⟨(some 2), (Op.assign (Operand.const (Value.bool false))), 4, none⟩])
                            .ret)
                          .skip))
                      (.seq
                        (.ops [
                          ⟨(some 42), (Op.move (Operand.tmp 0)), 3, none⟩,
                          ⟨(some 43), (Op.call { callee := (Callee.value (Operand.func 34)), args := #[(Operand.tmp 42)], argTypes := #[3] }), 43, none⟩,
                          ⟨(some 41), (Op.move (Operand.tmp 43)), 43, none⟩,
                          ⟨(some 44), (Op.extract (Operand.tmp 41) 0), 39, none⟩,
                          ⟨(some 45), (Op.extract (Operand.tmp 41) 1), 4, none⟩,
                          ⟨(some 9), (Op.alloc 39), 0, none⟩,
                          ⟨none, (Op.store 39 (Operand.tmp 9) (Operand.tmp 44)), 0, none⟩,
                          ⟨(some 10), (Op.assign (Operand.tmp 45)), 4, none⟩])
                        (.seq
                          (.seq
                            (.ops [
                              ⟨(some 46), (Op.load 39 (Operand.tmp 9)), 39, none⟩,
                              ⟨(some 47), (Op.load 39 (Operand.tmp 3)), 39, none⟩,
                              ⟨(some 48), (Op.call { callee := (Callee.value (Operand.func 28)), args := #[(Operand.tmp 46), (Operand.tmp 47)], argTypes := #[39, 39] }), 4, none⟩,
                              ⟨(some 49), (Op.unOp UnOp.not 4 (Operand.tmp 48)), 4, none⟩,
                              ⟨(some 50), (Op.move (Operand.tmp 49)), 4, none⟩,
                              ⟨(some 51), (Op.move (Operand.tmp 10)), 4, (some (some 50, false))⟩,
                              ⟨(some 52), (Op.move (Operand.tmp 4)), 4, (some (some 50, false))⟩,
                              ⟨(some 53), (Op.binOp BinOp.neq 4 (Operand.tmp 51) (Operand.tmp 52) 4), 4, (some (some 50, false))⟩,
                              ⟨(some 54), (Op.pick (Operand.tmp 50) (Operand.const (Value.bool true)) (Operand.tmp 53)), 4, none⟩])
                            (.cond (Operand.tmp 54)
                              (.seq
                                (.ops [
                                  ⟨(some 2), (Op.assign (Operand.const (Value.bool false))), 4, none⟩])
                                .ret)
                              .skip))
                          (.seq
                            (.ops [
                              ⟨(some 8), (Op.assign (Operand.const (Value.int IntKind.i64 1))), 3, none⟩])
                            (.seq
                              (.ops [
                                ⟨(some 55), (Op.load 39 (Operand.tmp 5)), 39, none⟩,
                                ⟨(some 56), (Op.move (Operand.tmp 8)), 3, none⟩,
                                ⟨(some 57), (Op.call { callee := (Callee.value (Operand.func 32)), args := #[(Operand.tmp 55), (Operand.tmp 56)], argTypes := #[39, 3] }), 3, none⟩,
                                ⟨(some 8), (Op.assign (Operand.tmp 57)), 3, none⟩])
                              (.seq
                                (.seq
                                  (.ops [
                                    ⟨(some 58), (Op.move (Operand.tmp 8)), 3, none⟩,
                                    ⟨(some 59), (Op.binOp BinOp.lss 3 (Operand.tmp 58) (Operand.const (Value.int IntKind.i64 0)) 3), 4, none⟩])
                                  (.cond (Operand.tmp 59)
                                    (.seq
                                      (.ops [
                                        ⟨(some 2), (Op.assign (Operand.const (Value.bool false))), 4, none⟩])
                                      .ret)
                                    .skip))
                                (.seq
                                  (.seq
                                    (.ops [
                                      ⟨(some 60), (Op.move (Operand.tmp 8)), 3, none⟩,
                                      ⟨(some 61), (Op.move (Operand.tmp 7)), 3, none⟩,
                                      ⟨(some 62), (Op.binOp BinOp.neq 3 (Operand.tmp 60) (Operand.tmp 61) 3), 4, none⟩])
                                    (.cond (Operand.tmp 62)
                                      (.seq
                                        (.ops [
                                          ⟨(some 2), (Op.assign (Operand.const (Value.bool false))), 4, none⟩])
                                        .ret)
                                      .skip))
                                  (.seq
                                    (.ops [
                                      ⟨(some 2), (Op.assign (Operand.const (Value.bool true))), 4, none⟩])
                                    .ret))))))))))))))))
theorem slim8 : Try.f8.body.map (slim lends) = some k8 := by kernel_rfl
theorem ok8 : fnOk Try.f8 1 = true := by kernel_rfl
theorem c8 {a l : List D} {r : D × List D} (h : wpD Y.env k8 (fin tys l.length [ResultVar.tmp 2] r) (entry a l)) (ha : a.length = 1) : Y.call 8 a l = some r :=
  call_slim (Y := Y) rfl Try.func8 (ha ▸ ok8) slim8 h
theorem l_FnExactMaximalMatchingProblem_call (aD : Int) {r : Bool} (h : l_FnExactMaximalMatchingProblem aD = some r) : Y.call 8 [D.int .i64 aD] [] = some (D.bool r, []) := by
  refine c8 ?_ rfl
  unfold k8
  unfold l_FnExactMaximalMatchingProblem at h
  obtain ⟨r1_, hl1, h⟩ := bindS h
  try dsimp only at h
  have c1 := s_MaximalMatchingProblem_call aD hl1
  obtain ⟨r2_, hl2, h⟩ := bindS h
  try dsimp only at h
  have c2 := i_MaximalMatchingProblem_call aD hl2
  obtain ⟨e3, h⟩ := ckS h
  obtain ⟨e4, h⟩ := ckS h
  have c5 := l_eqProblem_cl r2_.1 r2_.2.1 r2_.2.2.1 r2_.2.2.2.1 r1_.1 r1_.2.1 r1_.2.2.1 r1_.2.2.2.1 e3 e4
  by_cases e6 : (sameP r2_.1 r2_.2.1 r2_.2.2.1 r2_.2.2.2.1 r1_.1 r1_.2.1 r1_.2.2.1 r1_.2.2.2.1) = true
  · rw [if_pos e6] at h
    by_cases e7 : r2_.2.2.2.2 = true
    · rw [if_pos e7] at h
      by_cases e8 : r1_.2.2.2.2 = true
      · rw [if_pos e8] at h
        obtain ⟨e9, h⟩ := ckS h
        have c10 := l_markProblem_cl r2_.1 r2_.2.1 r2_.2.2.1 r2_.2.2.2.1 (1 : Int) e3 e4 e9
        obtain ⟨r11_, hl11, h⟩ := bindS h
        try dsimp only at h
        have c11 := l_heldProblem_call r2_.1 r2_.2.1 (marks (1 : Int) r2_.2.2.1) (marks ((1 : Int) + tot r2_.2.2.1) r2_.2.2.2.1) (1 : Int) hl11
        by_cases e12 : r11_ < 0
        · rw [if_pos e12] at h
          obtain rfl := Option.some.inj h
          simp (maxDischargeDepth := 9) only [↓xpre, xpost, xlst, xcore, yset, rg0, ↓reduceIte, Nat.reduceEqDiff, Nat.reduceLT, Nat.reduceLeDiff, Nat.reduceAdd, Nat.reduceMul, Nat.reduceMod, Nat.reduceSub, Nat.reduceBEq, Int.reduceLE, Int.reduceLT, Int.reduceEq, Int.reduceSub, Int.reduceAdd, Int.reduceToNat, Int.reduceNeg, c1, c2, e3, e4, c5, e6, e7, e8, e9.1, e9.2, c10, c11, e12] <;> (repeat' apply And.intro) <;> first | rfl | exact ⟨_, rfl⟩ | simp [lst]
        · rw [if_neg e12] at h
          by_cases e13 : r11_ = ((1 : Int) + tot r2_.2.2.1 + tot r2_.2.2.2.1)
          · rw [if_pos e13] at h
            have c14 := l_eqProblem_cl r2_.1 r2_.2.1 r2_.2.2.1 r2_.2.2.2.1 r1_.1 r1_.2.1 r1_.2.2.1 r1_.2.2.2.1 e3 e4
            obtain rfl := Option.some.inj h
            simp (maxDischargeDepth := 9) only [↓xpre, xpost, xlst, xcore, yset, rg0, ↓reduceIte, Nat.reduceEqDiff, Nat.reduceLT, Nat.reduceLeDiff, Nat.reduceAdd, Nat.reduceMul, Nat.reduceMod, Nat.reduceSub, Nat.reduceBEq, Int.reduceLE, Int.reduceLT, Int.reduceEq, Int.reduceSub, Int.reduceAdd, Int.reduceToNat, Int.reduceNeg, c1, c2, e3, e4, c5, e6, e7, e8, e9.1, e9.2, c10, c11, e12, decide_eq_true e13, c14] <;> (repeat' apply And.intro) <;> first | rfl | exact ⟨_, rfl⟩ | simp [lst]
          · rw [if_neg e13] at h
            obtain rfl := Option.some.inj h
            simp (maxDischargeDepth := 9) only [↓xpre, xpost, xlst, xcore, yset, rg0, ↓reduceIte, Nat.reduceEqDiff, Nat.reduceLT, Nat.reduceLeDiff, Nat.reduceAdd, Nat.reduceMul, Nat.reduceMod, Nat.reduceSub, Nat.reduceBEq, Int.reduceLE, Int.reduceLT, Int.reduceEq, Int.reduceSub, Int.reduceAdd, Int.reduceToNat, Int.reduceNeg, c1, c2, e3, e4, c5, e6, e7, e8, e9.1, e9.2, c10, c11, e12, e13] <;> (repeat' apply And.intro) <;> first | rfl | exact ⟨_, rfl⟩ | simp [lst]
      · rw [if_neg e8] at h
        have e8f : r1_.2.2.2.2 = false := Bool.eq_false_iff.mpr e8
        obtain rfl := Option.some.inj h
        simp (maxDischargeDepth := 9) only [↓xpre, xpost, xlst, xcore, yset, rg0, ↓reduceIte, Nat.reduceEqDiff, Nat.reduceLT, Nat.reduceLeDiff, Nat.reduceAdd, Nat.reduceMul, Nat.reduceMod, Nat.reduceSub, Nat.reduceBEq, Int.reduceLE, Int.reduceLT, Int.reduceEq, Int.reduceSub, Int.reduceAdd, Int.reduceToNat, Int.reduceNeg, c1, c2, e3, e4, c5, e6, e7, e8f] <;> (repeat' apply And.intro) <;> first | rfl | exact ⟨_, rfl⟩ | simp [lst]
    · rw [if_neg e7] at h
      have e7f : r2_.2.2.2.2 = false := Bool.eq_false_iff.mpr e7
      by_cases e8 : r1_.2.2.2.2 = true
      · rw [if_pos e8] at h
        obtain rfl := Option.some.inj h
        simp (maxDischargeDepth := 9) only [↓xpre, xpost, xlst, xcore, yset, rg0, ↓reduceIte, Nat.reduceEqDiff, Nat.reduceLT, Nat.reduceLeDiff, Nat.reduceAdd, Nat.reduceMul, Nat.reduceMod, Nat.reduceSub, Nat.reduceBEq, Int.reduceLE, Int.reduceLT, Int.reduceEq, Int.reduceSub, Int.reduceAdd, Int.reduceToNat, Int.reduceNeg, c1, c2, e3, e4, c5, e6, e7f, e8] <;> (repeat' apply And.intro) <;> first | rfl | exact ⟨_, rfl⟩ | simp [lst]
      · rw [if_neg e8] at h
        have e8f : r1_.2.2.2.2 = false := Bool.eq_false_iff.mpr e8
        obtain ⟨e9, h⟩ := ckS h
        have c10 := l_markProblem_cl r2_.1 r2_.2.1 r2_.2.2.1 r2_.2.2.2.1 (1 : Int) e3 e4 e9
        obtain ⟨r11_, hl11, h⟩ := bindS h
        try dsimp only at h
        have c11 := l_heldProblem_call r2_.1 r2_.2.1 (marks (1 : Int) r2_.2.2.1) (marks ((1 : Int) + tot r2_.2.2.1) r2_.2.2.2.1) (1 : Int) hl11
        by_cases e12 : r11_ < 0
        · rw [if_pos e12] at h
          obtain rfl := Option.some.inj h
          simp (maxDischargeDepth := 9) only [↓xpre, xpost, xlst, xcore, yset, rg0, ↓reduceIte, Nat.reduceEqDiff, Nat.reduceLT, Nat.reduceLeDiff, Nat.reduceAdd, Nat.reduceMul, Nat.reduceMod, Nat.reduceSub, Nat.reduceBEq, Int.reduceLE, Int.reduceLT, Int.reduceEq, Int.reduceSub, Int.reduceAdd, Int.reduceToNat, Int.reduceNeg, c1, c2, e3, e4, c5, e6, e7f, e8f, e9.1, e9.2, c10, c11, e12] <;> (repeat' apply And.intro) <;> first | rfl | exact ⟨_, rfl⟩ | simp [lst]
        · rw [if_neg e12] at h
          by_cases e13 : r11_ = ((1 : Int) + tot r2_.2.2.1 + tot r2_.2.2.2.1)
          · rw [if_pos e13] at h
            have c14 := l_eqProblem_cl r2_.1 r2_.2.1 r2_.2.2.1 r2_.2.2.2.1 r1_.1 r1_.2.1 r1_.2.2.1 r1_.2.2.2.1 e3 e4
            obtain rfl := Option.some.inj h
            simp (maxDischargeDepth := 9) only [↓xpre, xpost, xlst, xcore, yset, rg0, ↓reduceIte, Nat.reduceEqDiff, Nat.reduceLT, Nat.reduceLeDiff, Nat.reduceAdd, Nat.reduceMul, Nat.reduceMod, Nat.reduceSub, Nat.reduceBEq, Int.reduceLE, Int.reduceLT, Int.reduceEq, Int.reduceSub, Int.reduceAdd, Int.reduceToNat, Int.reduceNeg, c1, c2, e3, e4, c5, e6, e7f, e8f, e9.1, e9.2, c10, c11, e12, decide_eq_true e13, c14] <;> (repeat' apply And.intro) <;> first | rfl | exact ⟨_, rfl⟩ | simp [lst]
          · rw [if_neg e13] at h
            obtain rfl := Option.some.inj h
            simp (maxDischargeDepth := 9) only [↓xpre, xpost, xlst, xcore, yset, rg0, ↓reduceIte, Nat.reduceEqDiff, Nat.reduceLT, Nat.reduceLeDiff, Nat.reduceAdd, Nat.reduceMul, Nat.reduceMod, Nat.reduceSub, Nat.reduceBEq, Int.reduceLE, Int.reduceLT, Int.reduceEq, Int.reduceSub, Int.reduceAdd, Int.reduceToNat, Int.reduceNeg, c1, c2, e3, e4, c5, e6, e7f, e8f, e9.1, e9.2, c10, c11, e12, e13] <;> (repeat' apply And.intro) <;> first | rfl | exact ⟨_, rfl⟩ | simp [lst]
  · rw [if_neg e6] at h
    have e6f : (sameP r2_.1 r2_.2.1 r2_.2.2.1 r2_.2.2.2.1 r1_.1 r1_.2.1 r1_.2.2.1 r1_.2.2.2.1) = false := Bool.eq_false_iff.mpr e6
    obtain rfl := Option.some.inj h
    simp (maxDischargeDepth := 9) only [↓xpre, xpost, xlst, xcore, yset, rg0, ↓reduceIte, Nat.reduceEqDiff, Nat.reduceLT, Nat.reduceLeDiff, Nat.reduceAdd, Nat.reduceMul, Nat.reduceMod, Nat.reduceSub, Nat.reduceBEq, Int.reduceLE, Int.reduceLT, Int.reduceEq, Int.reduceSub, Int.reduceAdd, Int.reduceToNat, Int.reduceNeg, c1, c2, e3, e4, c5, e6f] <;> (repeat' apply And.intro) <;> first | rfl | exact ⟨_, rfl⟩ | simp [lst]

noncomputable def l_FnExactPerfectMatchingProblem (aD : Int) : Option (Bool) :=
  (s_PerfectMatchingProblem aD).bind fun r1_ =>
  (i_PerfectMatchingProblem aD).bind fun r2_ =>
  ck (Short r2_.2.2.1) <|
  ck (Short r2_.2.2.2.1) <|
  if (sameP r2_.1 r2_.2.1 r2_.2.2.1 r2_.2.2.2.1 r1_.1 r1_.2.1 r1_.2.2.1 r1_.2.2.2.1) = true then
    if r2_.2.2.2.2 = true then
      if r1_.2.2.2.2 = true then
        ck (0 ≤ (1 : Int) ∧ (1 : Int) + tot r2_.2.2.1 + tot r2_.2.2.2.1 < 1099511627776) <|
        (l_heldProblem r2_.1 r2_.2.1 (marks (1 : Int) r2_.2.2.1) (marks ((1 : Int) + tot r2_.2.2.1) r2_.2.2.2.1) (1 : Int)).bind fun r11_ =>
        if r11_ < 0 then
          some false
        else
          if r11_ = ((1 : Int) + tot r2_.2.2.1 + tot r2_.2.2.2.1) then
            some true
          else
            some false
      else
        some false
    else
      if r1_.2.2.2.2 = true then
        some false
      else
        ck (0 ≤ (1 : Int) ∧ (1 : Int) + tot r2_.2.2.1 + tot r2_.2.2.2.1 < 1099511627776) <|
        (l_heldProblem r2_.1 r2_.2.1 (marks (1 : Int) r2_.2.2.1) (marks ((1 : Int) + tot r2_.2.2.1) r2_.2.2.2.1) (1 : Int)).bind fun r11_ =>
        if r11_ < 0 then
          some false
        else
          if r11_ = ((1 : Int) + tot r2_.2.2.1 + tot r2_.2.2.2.1) then
            some true
          else
            some false
  else
    some false
/-- laws.FnExactPerfectMatchingProblem -/
def k9 : SC :=
  .seq
    (.ops [
      ⟨(some 2), (Op.assign (Operand.const (Value.bool false))), 4, none⟩])
    (.seq
      (.ops [
        ⟨(some 12), (Op.move (Operand.tmp 0)), 3, none⟩,
        ⟨(some 13), (Op.call { callee := (Callee.value (Operand.func 35)), args := #[(Operand.tmp 12)], argTypes := #[3] }), 43, none⟩,
        ⟨(some 11), (Op.move (Operand.tmp 13)), 43, none⟩,
        ⟨(some 14), (Op.extract (Operand.tmp 11) 0), 39, none⟩,
        ⟨(some 15), (Op.extract (Operand.tmp 11) 1), 4, none⟩,
        ⟨(some 3), (Op.alloc 39), 0, none⟩,
        ⟨none, (Op.store 39 (Operand.tmp 3) (Operand.tmp 14)), 0, none⟩,
        ⟨(some 4), (Op.assign (Operand.tmp 15)), 4, none⟩])
      (.seq
        (.ops [
          ⟨(some 17), (Op.move (Operand.tmp 0)), 3, none⟩,
          ⟨(some 18), (Op.call { callee := (Callee.value (Operand.func 36)), args := #[(Operand.tmp 17)], argTypes := #[3] }), 43, none⟩,
          ⟨(some 16), (Op.move (Operand.tmp 18)), 43, none⟩,
          ⟨(some 19), (Op.extract (Operand.tmp 16) 0), 39, none⟩,
          ⟨(some 20), (Op.extract (Operand.tmp 16) 1), 4, none⟩,
          ⟨(some 5), (Op.alloc 39), 0, none⟩,
          ⟨none, (Op.store 39 (Operand.tmp 5) (Operand.tmp 19)), 0, none⟩,
          ⟨(some 6), (Op.assign (Operand.tmp 20)), 4, none⟩])
        (.seq
          (.seq
            (.ops [
              ⟨(some 21), (Op.load 39 (Operand.tmp 5)), 39, none⟩,
              ⟨(some 22), (Op.load 39 (Operand.tmp 3)), 39, none⟩,
              ⟨(some 23), (Op.call { callee := (Callee.value (Operand.func 28)), args := #[(Operand.tmp 21), (Operand.tmp 22)], argTypes := #[39, 39] }), 4, none⟩,
              ⟨(some 24), (Op.unOp UnOp.not 4 (Operand.tmp 23)), 4, none⟩,
              ⟨(some 25), (Op.move (Operand.tmp 24)), 4, none⟩,
              ⟨(some 26), (Op.move (Operand.tmp 6)), 4, (some (some 25, false))⟩,
              ⟨(some 27), (Op.move (Operand.tmp 4)), 4, (some (some 25, false))⟩,
              ⟨(some 28), (Op.binOp BinOp.neq 4 (Operand.tmp 26) (Operand.tmp 27) 4), 4, (some (some 25, false))⟩,
              ⟨(some 29), (Op.pick (Operand.tmp 25) (Operand.const (Value.bool true)) (Operand.tmp 28)), 4, none⟩])
            (.cond (Operand.tmp 29)
              (.seq
                (.ops [
                  ⟨(some 2), (Op.assign (Operand.const (Value.bool false))), 4, none⟩])
                .ret)
              .skip))
          (.seq
            (.ops [
              ⟨(some 7), (Op.assign (Operand.const (Value.int IntKind.i64 1))), 3, none⟩])
            (.seq
              (.ops [
                ⟨(some 30), (Op.load 39 (Operand.tmp 5)), 39, none⟩,
                ⟨(some 31), (Op.move (Operand.tmp 7)), 3, none⟩,
                ⟨(some 32), (Op.call { callee := (Callee.value (Operand.func 31)), args := #[(Operand.tmp 30), (Operand.tmp 31)], argTypes := #[39, 3] }), 3, none⟩,
                ⟨(some 7), (Op.assign (Operand.tmp 32)), 3, none⟩])
              (.seq
                (.ops [
                  ⟨(some 8), (Op.assign (Operand.const (Value.int IntKind.i64 1))), 3, none⟩])
                (.seq
                  (.ops [
                    ⟨(some 33), (Op.load 39 (Operand.tmp 5)), 39, none⟩,
                    ⟨(some 34), (Op.move (Operand.tmp 8)), 3, none⟩,
                    ⟨(some 35), (Op.call { callee := (Callee.value (Operand.func 32)), args := #[(Operand.tmp 33), (Operand.tmp 34)], argTypes := #[39, 3] }), 3, none⟩,
                    ⟨(some 8), (Op.assign (Operand.tmp 35)), 3, none⟩])
                  (.seq
                    (.seq
                      (.ops [
                        ⟨(some 36), (Op.move (Operand.tmp 8)), 3, none⟩,
                        ⟨(some 37), (Op.binOp BinOp.lss 3 (Operand.tmp 36) (Operand.const (Value.int IntKind.i64 0)) 3), 4, none⟩])
                      (.cond (Operand.tmp 37)
                        (.seq
                          (.ops [
                            ⟨(some 2), (Op.assign (Operand.const (Value.bool false))), 4, none⟩])
                          .ret)
                        .skip))
                    (.seq
                      (.seq
                        (.ops [
                          ⟨(some 38), (Op.move (Operand.tmp 8)), 3, none⟩,
                          ⟨(some 39), (Op.move (Operand.tmp 7)), 3, none⟩,
                          ⟨(some 40), (Op.binOp BinOp.neq 3 (Operand.tmp 38) (Operand.tmp 39) 3), 4, none⟩])
                        (.cond (Operand.tmp 40)
                          (.seq
                            (.ops [
                              ⟨(some 2), (Op.assign (Operand.const (Value.bool false))), 4, none⟩])
                            .ret)
                          .skip))
                      (.seq
                        (.ops [
                          ⟨(some 42), (Op.move (Operand.tmp 0)), 3, none⟩,
                          ⟨(some 43), (Op.call { callee := (Callee.value (Operand.func 36)), args := #[(Operand.tmp 42)], argTypes := #[3] }), 43, none⟩,
                          ⟨(some 41), (Op.move (Operand.tmp 43)), 43, none⟩,
                          ⟨(some 44), (Op.extract (Operand.tmp 41) 0), 39, none⟩,
                          ⟨(some 45), (Op.extract (Operand.tmp 41) 1), 4, none⟩,
                          ⟨(some 9), (Op.alloc 39), 0, none⟩,
                          ⟨none, (Op.store 39 (Operand.tmp 9) (Operand.tmp 44)), 0, none⟩,
                          ⟨(some 10), (Op.assign (Operand.tmp 45)), 4, none⟩])
                        (.seq
                          (.seq
                            (.ops [
                              ⟨(some 46), (Op.load 39 (Operand.tmp 9)), 39, none⟩,
                              ⟨(some 47), (Op.load 39 (Operand.tmp 3)), 39, none⟩,
                              ⟨(some 48), (Op.call { callee := (Callee.value (Operand.func 28)), args := #[(Operand.tmp 46), (Operand.tmp 47)], argTypes := #[39, 39] }), 4, none⟩,
                              ⟨(some 49), (Op.unOp UnOp.not 4 (Operand.tmp 48)), 4, none⟩,
                              ⟨(some 50), (Op.move (Operand.tmp 49)), 4, none⟩,
                              ⟨(some 51), (Op.move (Operand.tmp 10)), 4, (some (some 50, false))⟩,
                              ⟨(some 52), (Op.move (Operand.tmp 4)), 4, (some (some 50, false))⟩,
                              ⟨(some 53), (Op.binOp BinOp.neq 4 (Operand.tmp 51) (Operand.tmp 52) 4), 4, (some (some 50, false))⟩,
                              ⟨(some 54), (Op.pick (Operand.tmp 50) (Operand.const (Value.bool true)) (Operand.tmp 53)), 4, none⟩])
                            (.cond (Operand.tmp 54)
                              (.seq
                                (.ops [
                                  ⟨(some 2), (Op.assign (Operand.const (Value.bool false))), 4, none⟩])
                                .ret)
                              .skip))
                          (.seq
                            (.ops [
                              ⟨(some 8), (Op.assign (Operand.const (Value.int IntKind.i64 1))), 3, none⟩])
                            (.seq
                              (.ops [
                                ⟨(some 55), (Op.load 39 (Operand.tmp 5)), 39, none⟩,
                                ⟨(some 56), (Op.move (Operand.tmp 8)), 3, none⟩,
                                ⟨(some 57), (Op.call { callee := (Callee.value (Operand.func 32)), args := #[(Operand.tmp 55), (Operand.tmp 56)], argTypes := #[39, 3] }), 3, none⟩,
                                ⟨(some 8), (Op.assign (Operand.tmp 57)), 3, none⟩])
                              (.seq
                                (.seq
                                  (.ops [
                                    ⟨(some 58), (Op.move (Operand.tmp 8)), 3, none⟩,
                                    ⟨(some 59), (Op.binOp BinOp.lss 3 (Operand.tmp 58) (Operand.const (Value.int IntKind.i64 0)) 3), 4, none⟩])
                                  (.cond (Operand.tmp 59)
                                    (.seq
                                      (.ops [
                                        ⟨(some 2), (Op.assign (Operand.const (Value.bool false))), 4, none⟩])
                                      .ret)
                                    .skip))
                                (.seq
                                  (.seq
                                    (.ops [
                                      ⟨(some 60), (Op.move (Operand.tmp 8)), 3, none⟩,
                                      ⟨(some 61), (Op.move (Operand.tmp 7)), 3, none⟩,
                                      ⟨(some 62), (Op.binOp BinOp.neq 3 (Operand.tmp 60) (Operand.tmp 61) 3), 4, none⟩])
                                    (.cond (Operand.tmp 62)
                                      (.seq
                                        (.ops [
                                          ⟨(some 2), (Op.assign (Operand.const (Value.bool false))), 4, none⟩])
                                        .ret)
                                      .skip))
                                  (.seq
                                    (.ops [
                                      ⟨(some 2), (Op.assign (Operand.const (Value.bool true))), 4, none⟩])
                                    .ret))))))))))))))))
theorem slim9 : Try.f9.body.map (slim lends) = some k9 := by kernel_rfl
theorem ok9 : fnOk Try.f9 1 = true := by kernel_rfl
theorem c9 {a l : List D} {r : D × List D} (h : wpD Y.env k9 (fin tys l.length [ResultVar.tmp 2] r) (entry a l)) (ha : a.length = 1) : Y.call 9 a l = some r :=
  call_slim (Y := Y) rfl Try.func9 (ha ▸ ok9) slim9 h
theorem l_FnExactPerfectMatchingProblem_call (aD : Int) {r : Bool} (h : l_FnExactPerfectMatchingProblem aD = some r) : Y.call 9 [D.int .i64 aD] [] = some (D.bool r, []) := by
  refine c9 ?_ rfl
  unfold k9
  unfold l_FnExactPerfectMatchingProblem at h
  obtain ⟨r1_, hl1, h⟩ := bindS h
  try dsimp only at h
  have c1 := s_PerfectMatchingProblem_call aD hl1
  obtain ⟨r2_, hl2, h⟩ := bindS h
  try dsimp only at h
  have c2 := i_PerfectMatchingProblem_call aD hl2
  obtain ⟨e3, h⟩ := ckS h
  obtain ⟨e4, h⟩ := ckS h
  have c5 := l_eqProblem_cl r2_.1 r2_.2.1 r2_.2.2.1 r2_.2.2.2.1 r1_.1 r1_.2.1 r1_.2.2.1 r1_.2.2.2.1 e3 e4
  by_cases e6 : (sameP r2_.1 r2_.2.1 r2_.2.2.1 r2_.2.2.2.1 r1_.1 r1_.2.1 r1_.2.2.1 r1_.2.2.2.1) = true
  · rw [if_pos e6] at h
    by_cases e7 : r2_.2.2.2.2 = true
    · rw [if_pos e7] at h
      by_cases e8 : r1_.2.2.2.2 = true
      · rw [if_pos e8] at h
        obtain ⟨e9, h⟩ := ckS h
        have c10 := l_markProblem_cl r2_.1 r2_.2.1 r2_.2.2.1 r2_.2.2.2.1 (1 : Int) e3 e4 e9
        obtain ⟨r11_, hl11, h⟩ := bindS h
        try dsimp only at h
        have c11 := l_heldProblem_call r2_.1 r2_.2.1 (marks (1 : Int) r2_.2.2.1) (marks ((1 : Int) + tot r2_.2.2.1) r2_.2.2.2.1) (1 : Int) hl11
        by_cases e12 : r11_ < 0
        · rw [if_pos e12] at h
          obtain rfl := Option.some.inj h
          simp (maxDischargeDepth := 9) only [↓xpre, xpost, xlst, xcore, yset, rg0, ↓reduceIte, Nat.reduceEqDiff, Nat.reduceLT, Nat.reduceLeDiff, Nat.reduceAdd, Nat.reduceMul, Nat.reduceMod, Nat.reduceSub, Nat.reduceBEq, Int.reduceLE, Int.reduceLT, Int.reduceEq, Int.reduceSub, Int.reduceAdd, Int.reduceToNat, Int.reduceNeg, c1, c2, e3, e4, c5, e6, e7, e8, e9.1, e9.2, c10, c11, e12] <;> (repeat' apply And.intro) <;> first | rfl | exact ⟨_, rfl⟩ | simp [lst]
        · rw [if_neg e12] at h
          by_cases e13 : r11_ = ((1 : Int) + tot r2_.2.2.1 + tot r2_.2.2.2.1)
          · rw [if_pos e13] at h
            have c14 := l_eqProblem_cl r2_.1 r2_.2.1 r2_.2.2.1 r2_.2.2.2.1 r1_.1 r1_.2.1 r1_.2.2.1 r1_.2.2.2.1 e3 e4
            obtain rfl := Option.some.inj h
            simp (maxDischargeDepth := 9) only [↓xpre, xpost, xlst, xcore, yset, rg0, ↓reduceIte, Nat.reduceEqDiff, Nat.reduceLT, Nat.reduceLeDiff, Nat.reduceAdd, Nat.reduceMul, Nat.reduceMod, Nat.reduceSub, Nat.reduceBEq, Int.reduceLE, Int.reduceLT, Int.reduceEq, Int.reduceSub, Int.reduceAdd, Int.reduceToNat, Int.reduceNeg, c1, c2, e3, e4, c5, e6, e7, e8, e9.1, e9.2, c10, c11, e12, decide_eq_true e13, c14] <;> (repeat' apply And.intro) <;> first | rfl | exact ⟨_, rfl⟩ | simp [lst]
          · rw [if_neg e13] at h
            obtain rfl := Option.some.inj h
            simp (maxDischargeDepth := 9) only [↓xpre, xpost, xlst, xcore, yset, rg0, ↓reduceIte, Nat.reduceEqDiff, Nat.reduceLT, Nat.reduceLeDiff, Nat.reduceAdd, Nat.reduceMul, Nat.reduceMod, Nat.reduceSub, Nat.reduceBEq, Int.reduceLE, Int.reduceLT, Int.reduceEq, Int.reduceSub, Int.reduceAdd, Int.reduceToNat, Int.reduceNeg, c1, c2, e3, e4, c5, e6, e7, e8, e9.1, e9.2, c10, c11, e12, e13] <;> (repeat' apply And.intro) <;> first | rfl | exact ⟨_, rfl⟩ | simp [lst]
      · rw [if_neg e8] at h
        have e8f : r1_.2.2.2.2 = false := Bool.eq_false_iff.mpr e8
        obtain rfl := Option.some.inj h
        simp (maxDischargeDepth := 9) only [↓xpre, xpost, xlst, xcore, yset, rg0, ↓reduceIte, Nat.reduceEqDiff, Nat.reduceLT, Nat.reduceLeDiff, Nat.reduceAdd, Nat.reduceMul, Nat.reduceMod, Nat.reduceSub, Nat.reduceBEq, Int.reduceLE, Int.reduceLT, Int.reduceEq, Int.reduceSub, Int.reduceAdd, Int.reduceToNat, Int.reduceNeg, c1, c2, e3, e4, c5, e6, e7, e8f] <;> (repeat' apply And.intro) <;> first | rfl | exact ⟨_, rfl⟩ | simp [lst]
    · rw [if_neg e7] at h
      have e7f : r2_.2.2.2.2 = false := Bool.eq_false_iff.mpr e7
      by_cases e8 : r1_.2.2.2.2 = true
      · rw [if_pos e8] at h
        obtain rfl := Option.some.inj h
        simp (maxDischargeDepth := 9) only [↓xpre, xpost, xlst, xcore, yset, rg0, ↓reduceIte, Nat.reduceEqDiff, Nat.reduceLT, Nat.reduceLeDiff, Nat.reduceAdd, Nat.reduceMul, Nat.reduceMod, Nat.reduceSub, Nat.reduceBEq, Int.reduceLE, Int.reduceLT, Int.reduceEq, Int.reduceSub, Int.reduceAdd, Int.reduceToNat, Int.reduceNeg, c1, c2, e3, e4, c5, e6, e7f, e8] <;> (repeat' apply And.intro) <;> first | rfl | exact ⟨_, rfl⟩ | simp [lst]
      · rw [if_neg e8] at h
        have e8f : r1_.2.2.2.2 = false := Bool.eq_false_iff.mpr e8
        obtain ⟨e9, h⟩ := ckS h
        have c10 := l_markProblem_cl r2_.1 r2_.2.1 r2_.2.2.1 r2_.2.2.2.1 (1 : Int) e3 e4 e9
        obtain ⟨r11_, hl11, h⟩ := bindS h
        try dsimp only at h
        have c11 := l_heldProblem_call r2_.1 r2_.2.1 (marks (1 : Int) r2_.2.2.1) (marks ((1 : Int) + tot r2_.2.2.1) r2_.2.2.2.1) (1 : Int) hl11
        by_cases e12 : r11_ < 0
        · rw [if_pos e12] at h
          obtain rfl := Option.some.inj h
          simp (maxDischargeDepth := 9) only [↓xpre, xpost, xlst, xcore, yset, rg0, ↓reduceIte, Nat.reduceEqDiff, Nat.reduceLT, Nat.reduceLeDiff, Nat.reduceAdd, Nat.reduceMul, Nat.reduceMod, Nat.reduceSub, Nat.reduceBEq, Int.reduceLE, Int.reduceLT, Int.reduceEq, Int.reduceSub, Int.reduceAdd, Int.reduceToNat, Int.reduceNeg, c1, c2, e3, e4, c5, e6, e7f, e8f, e9.1, e9.2, c10, c11, e12] <;> (repeat' apply And.intro) <;> first | rfl | exact ⟨_, rfl⟩ | simp [lst]
        · rw [if_neg e12] at h
          by_cases e13 : r11_ = ((1 : Int) + tot r2_.2.2.1 + tot r2_.2.2.2.1)
          · rw [if_pos e13] at h
            have c14 := l_eqProblem_cl r2_.1 r2_.2.1 r2_.2.2.1 r2_.2.2.2.1 r1_.1 r1_.2.1 r1_.2.2.1 r1_.2.2.2.1 e3 e4
            obtain rfl := Option.some.inj h
            simp (maxDischargeDepth := 9) only [↓xpre, xpost, xlst, xcore, yset, rg0, ↓reduceIte, Nat.reduceEqDiff, Nat.reduceLT, Nat.reduceLeDiff, Nat.reduceAdd, Nat.reduceMul, Nat.reduceMod, Nat.reduceSub, Nat.reduceBEq, Int.reduceLE, Int.reduceLT, Int.reduceEq, Int.reduceSub, Int.reduceAdd, Int.reduceToNat, Int.reduceNeg, c1, c2, e3, e4, c5, e6, e7f, e8f, e9.1, e9.2, c10, c11, e12, decide_eq_true e13, c14] <;> (repeat' apply And.intro) <;> first | rfl | exact ⟨_, rfl⟩ | simp [lst]
          · rw [if_neg e13] at h
            obtain rfl := Option.some.inj h
            simp (maxDischargeDepth := 9) only [↓xpre, xpost, xlst, xcore, yset, rg0, ↓reduceIte, Nat.reduceEqDiff, Nat.reduceLT, Nat.reduceLeDiff, Nat.reduceAdd, Nat.reduceMul, Nat.reduceMod, Nat.reduceSub, Nat.reduceBEq, Int.reduceLE, Int.reduceLT, Int.reduceEq, Int.reduceSub, Int.reduceAdd, Int.reduceToNat, Int.reduceNeg, c1, c2, e3, e4, c5, e6, e7f, e8f, e9.1, e9.2, c10, c11, e12, e13] <;> (repeat' apply And.intro) <;> first | rfl | exact ⟨_, rfl⟩ | simp [lst]
  · rw [if_neg e6] at h
    have e6f : (sameP r2_.1 r2_.2.1 r2_.2.2.1 r2_.2.2.2.1 r1_.1 r1_.2.1 r1_.2.2.1 r1_.2.2.2.1) = false := Bool.eq_false_iff.mpr e6
    obtain rfl := Option.some.inj h
    simp (maxDischargeDepth := 9) only [↓xpre, xpost, xlst, xcore, yset, rg0, ↓reduceIte, Nat.reduceEqDiff, Nat.reduceLT, Nat.reduceLeDiff, Nat.reduceAdd, Nat.reduceMul, Nat.reduceMod, Nat.reduceSub, Nat.reduceBEq, Int.reduceLE, Int.reduceLT, Int.reduceEq, Int.reduceSub, Int.reduceAdd, Int.reduceToNat, Int.reduceNeg, c1, c2, e3, e4, c5, e6f] <;> (repeat' apply And.intro) <;> first | rfl | exact ⟨_, rfl⟩ | simp [lst]

theorem IndependentSetProblem_law (d : Int) : l_FnExactIndependentSetProblem d = some true := by
  obtain ⟨L, K, N, E, ok, hN, hE, ⟨t1, t2, t3⟩, hS, hI⟩ := IndependentSetProblem_both d
  have hh := l_heldProblem_eq L K N E 1 hN hE (by omega)
  have g4 : (0 : Int) ≤ 1 ∧ 1 + tot N + tot E < 1099511627776 := by omega
  have g5 : ¬ 1 + tot N + tot E < 0 := by omega
  unfold l_FnExactIndependentSetProblem
  simp only [hS, hI, Option.bind_some, ckT hN, ckT hE, sameP_refl, if_true, ckT g4, hh, if_neg g5]
  cases ok <;> rfl
theorem IndependentSetProblem_all (ds : List D) (h : Args tys [3] ds) : Y.call 7 ds [] = some (.bool true, []) := by
  rcases ds with _ | ⟨d, _ | ⟨_, _⟩⟩
  · cases h
  · obtain ⟨n, rfl, _⟩ := argInt ty3 h.1
    exact l_FnExactIndependentSetProblem_call n (IndependentSetProblem_law n)
  · exact h.2.elim
theorem MaximalMatchingProblem_law (d : Int) : l_FnExactMaximalMatchingProblem d = some true := by
  obtain ⟨L, K, N, E, ok, hN, hE, ⟨t1, t2, t3⟩, hS, hI⟩ := MaximalMatchingProblem_both d
  have hh := l_heldProblem_eq L K N E 1 hN hE (by omega)
  have g4 : (0 : Int) ≤ 1 ∧ 1 + tot N + tot E < 1099511627776 := by omega
  have g5 : ¬ 1 + tot N + tot E < 0 := by omega
  unfold l_FnExactMaximalMatchingProblem
  simp only [hS, hI, Option.bind_some, ckT hN, ckT hE, sameP_refl, if_true, ckT g4, hh, if_neg g5]
  cases ok <;> rfl
theorem MaximalMatchingProblem_all (ds : List D) (h : Args tys [3] ds) : Y.call 8 ds [] = some (.bool true, []) := by
  rcases ds with _ | ⟨d, _ | ⟨_, _⟩⟩
  · cases h
  · obtain ⟨n, rfl, _⟩ := argInt ty3 h.1
    exact l_FnExactMaximalMatchingProblem_call n (MaximalMatchingProblem_law n)
  · exact h.2.elim
theorem PerfectMatchingProblem_law (d : Int) : l_FnExactPerfectMatchingProblem d = some true := by
  obtain ⟨L, K, N, E, ok, hN, hE, ⟨t1, t2, t3⟩, hS, hI⟩ := PerfectMatchingProblem_both d
  have hh := l_heldProblem_eq L K N E 1 hN hE (by omega)
  have g4 : (0 : Int) ≤ 1 ∧ 1 + tot N + tot E < 1099511627776 := by omega
  have g5 : ¬ 1 + tot N + tot E < 0 := by omega
  unfold l_FnExactPerfectMatchingProblem
  simp only [hS, hI, Option.bind_some, ckT hN, ckT hE, sameP_refl, if_true, ckT g4, hh, if_neg g5]
  cases ok <;> rfl
theorem PerfectMatchingProblem_all (ds : List D) (h : Args tys [3] ds) : Y.call 9 ds [] = some (.bool true, []) := by
  rcases ds with _ | ⟨d, _ | ⟨_, _⟩⟩
  · cases h
  · obtain ⟨n, rfl, _⟩ := argInt ty3 h.1
    exact l_FnExactPerfectMatchingProblem_call n (PerfectMatchingProblem_law n)
  · exact h.2.elim

end Go.Proofs.Ythaimoghceamnaa
