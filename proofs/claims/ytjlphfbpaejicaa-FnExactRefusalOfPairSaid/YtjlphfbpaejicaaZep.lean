/- The first good pair of configurations, as a plain function; the law. Conditions: none. -/
import Derived.Test.YtjlphfbpaejicaaL6
import Derived.Test.YtjlphfbpaejicaaZer
namespace Go.Proofs.Ytjlphfbpaejicaa
open Go Dv
set_option linter.unusedSimpArgs false
set_option linter.unusedVariables false
set_option maxRecDepth 100000
set_option maxHeartbeats 4000000

/-- The first pair of places at which P holds. -/
def first2 (n m : Nat) (P : Nat → Nat → Bool) : Option (Nat × Nat) := (firstIx n fun i => (firstIx m (P i)).isSome).map fun i => (i, (firstIx m (P i)).getD 0)
theorem first2_lt {n m : Nat} {P : Nat → Nat → Bool} {q : Nat × Nat} (h : first2 n m P = some q) : q.1 < n ∧ q.2 < m := by
  unfold first2 at h
  simp only [Option.map_eq_some_iff] at h
  obtain ⟨i, h1, rfl⟩ := h
  obtain ⟨h2, h3⟩ := firstIx_lt h1
  refine ⟨h2, ?_⟩
  cases h4 : firstIx m (P i) with
  | none => rw [h4] at h3; cases h3
  | some j => exact (firstIx_lt h4).1
def goodAt (ns es : List (List Int)) (i j : Nat) : Bool := (badOf es (ns.getD i default) (ns.getD j default)).isNone
noncomputable def s_zePair_l0_S (p_Labels : Int) (p_Degree : Int) (p_Nodes : List (List Int)) (p_Edges : List (List Int)) (t12_ : Int) (t20_ : Int) : Option ((Int) ⊕ (Int ⊕ Unit)) :=
  if t20_ < (p_Nodes.length : Int) then
    ck (0 ≤ t20_ ∧ t20_.toNat < p_Nodes.length) <|
    (s_zePairs p_Labels p_Degree p_Nodes p_Edges (p_Nodes.getD t12_.toNat default) (p_Nodes.getD t20_.toNat default)).bind fun r5_ =>
    if r5_ = true then
      some (Sum.inr (Sum.inl t20_))
    else
      some (Sum.inl (IntKind.i64.wrap (t20_ + 1)))
  else
    some (Sum.inr (Sum.inr ()))
noncomputable def s_zePair_l0 (p_Labels : Int) (p_Degree : Int) (p_Nodes : List (List Int)) (p_Edges : List (List Int)) (t12_ : Int) (v : Int) : Option (Int ⊕ Unit) := itO (fun v => s_zePair_l0_S p_Labels p_Degree p_Nodes p_Edges t12_ v) v
noncomputable def s_zePair_l1_S (p_Labels : Int) (p_Degree : Int) (p_Nodes : List (List Int)) (p_Edges : List (List Int)) (t12_ : Int) : Option ((Int) ⊕ ((Int × Int) ⊕ Unit)) :=
  if t12_ < (p_Nodes.length : Int) then
    ck (0 ≤ t12_ ∧ t12_.toNat < p_Nodes.length) <|
    (s_zePair_l0 p_Labels p_Degree p_Nodes p_Edges t12_ 0).bind fun r4_ =>
    match r4_ with
    | .inl q4_ =>
      some (Sum.inr (Sum.inl (t12_, q4_)))
    | .inr q4_ =>
      some (Sum.inl (IntKind.i64.wrap (t12_ + 1)))
  else
    some (Sum.inr (Sum.inr ()))
noncomputable def s_zePair_l1 (p_Labels : Int) (p_Degree : Int) (p_Nodes : List (List Int)) (p_Edges : List (List Int)) (v : Int) : Option ((Int × Int) ⊕ Unit) := itO (fun v => s_zePair_l1_S p_Labels p_Degree p_Nodes p_Edges v) v
noncomputable def s_zePair (p_Labels : Int) (p_Degree : Int) (p_Nodes : List (List Int)) (p_Edges : List (List Int)) : Option (Int × Int × Bool) :=
  (s_zePair_l1 p_Labels p_Degree p_Nodes p_Edges 0).bind fun r2_ =>
  match r2_ with
  | .inl q2_ =>
    some (q2_.1, q2_.2, true)
  | .inr q2_ =>
    some (0, 0, false)
/-- spec.zePair -/
def k68_l0b : SC :=
  .seq
    (.ops [
      ⟨(some 21), (Op.binOp BinOp.lss 3 (Operand.tmp 20) (Operand.tmp 19) 3), 0, none⟩])
    (.seq
      (.cond (Operand.tmp 21)
        .skip
        (.exit 2))
      (.seq
        (.block 3
          (.seq
            (.ops [
              ⟨(some 22), (Op.move (Operand.tmp 20)), 3, none⟩,
              ⟨(some 23), (Op.indexAddr 22 (Operand.tmp 18) (Operand.tmp 20)), 0, none⟩,
              ⟨(some 24), (Op.load 32 (Operand.tmp 23)), 32, none⟩,
              ⟨(some 7), (Op.assign (Operand.tmp 22)), 3, none⟩,
              ⟨(some 8), (Op.assign (Operand.tmp 24)), 32, none⟩])
            (.seq
              (.ops [
                ⟨(some 25), (Op.load 28 (Operand.tmp 1)), 28, none⟩,
                ⟨(some 26), (Op.move (Operand.tmp 6)), 32, none⟩,
                ⟨(some 27), (Op.move (Operand.tmp 8)), 32, none⟩,
                ⟨(some 28), (Op.call { callee := (Callee.value (Operand.func 90)), args := #[(Operand.tmp 25), (Operand.tmp 26), (Operand.tmp 27)], argTypes := #[28, 32, 32] }), 4, none⟩])
              (.cond (Operand.tmp 28)
                (.seq
                  (.ops [
                    ⟨(some 29), (Op.move (Operand.tmp 5)), 3, none⟩,
                    ⟨(some 30), (Op.move (Operand.tmp 7)), 3, none⟩,
                    ⟨(some 2), (Op.assign (Operand.tmp 29)), 3, none⟩,
                    ⟨(some 3), (Op.assign (Operand.tmp 30)), 3, none⟩,
                    ⟨(some 4), (Op.assign (Operand.const (Value.bool true))), 4, none⟩])
                  .ret)
                .skip))))
        (.ops [
          ⟨(some 31), (Op.binOp BinOp.add 3 (Operand.tmp 20) (Operand.const (Value.int IntKind.i64 1)) 3), 3, none⟩,
          ⟨(some 20), (Op.move (Operand.tmp 31)), 3, none⟩])))
def k68_l0 : SC := .loop k68_l0b
def k68_l1b : SC :=
  .seq
    (.ops [
      ⟨(some 13), (Op.binOp BinOp.lss 3 (Operand.tmp 12) (Operand.tmp 11) 3), 0, none⟩])
    (.seq
      (.cond (Operand.tmp 13)
        .skip
        (.exit 0))
      (.seq
        (.block 1
          (.seq
            (.ops [
              ⟨(some 14), (Op.move (Operand.tmp 12)), 3, none⟩,
              ⟨(some 15), (Op.indexAddr 22 (Operand.tmp 10) (Operand.tmp 12)), 0, none⟩,
              ⟨(some 16), (Op.load 32 (Operand.tmp 15)), 32, none⟩,
              ⟨(some 5), (Op.assign (Operand.tmp 14)), 3, none⟩,
              ⟨(some 6), (Op.assign (Operand.tmp 16)), 32, none⟩])
            (.seq
              (.ops [
                ⟨(some 17), (Op.fieldAddr 28 (Operand.tmp 1) 2), 0, none⟩,
                ⟨(some 18), (Op.load 22 (Operand.tmp 17)), 22, none⟩,
                ⟨(some 19), (Op.call { callee := (Callee.builtin Builtin.len), args := #[(Operand.tmp 18)], argTypes := #[22] }), 3, none⟩,
                ⟨(some 20), (Op.move (Operand.const (Value.int IntKind.i64 0))), 3, none⟩])
              (.block 2
                k68_l0))))
        (.ops [
          ⟨(some 32), (Op.binOp BinOp.add 3 (Operand.tmp 12) (Operand.const (Value.int IntKind.i64 1)) 3), 3, none⟩,
          ⟨(some 12), (Op.move (Operand.tmp 32)), 3, none⟩])))
def k68_l1 : SC := .loop k68_l1b
def k68 : SC :=
  .seq
    (.ops [
      ⟨(some 1), (Op.box 28 (Operand.tmp 0)), 0, none⟩,
      ⟨(some 2), (Op.assign (Operand.const (Value.int IntKind.i64 0))), 3, none⟩,
      ⟨(some 3), (Op.assign (Operand.const (Value.int IntKind.i64 0))), 3, none⟩,
      ⟨(some 4), (Op.assign (Operand.const (Value.bool false))), 4, none⟩])
    (.seq
      (.seq
        (.ops [
          ⟨(some 9), (Op.fieldAddr 28 (Operand.tmp 1) 2), 0, none⟩,
          ⟨(some 10), (Op.load 22 (Operand.tmp 9)), 22, none⟩,
          ⟨(some 11), (Op.call { callee := (Callee.builtin Builtin.len), args := #[(Operand.tmp 10)], argTypes := #[22] }), 3, none⟩,
          ⟨(some 12), (Op.move (Operand.const (Value.int IntKind.i64 0))), 3, none⟩])
        (.block 0
          k68_l1))
      (.seq
        (.ops [
          ⟨(some 2), (Op.assign (Operand.const (Value.int IntKind.i64 0))), 3, none⟩,
          ⟨(some 3), (Op.assign (Operand.const (Value.int IntKind.i64 0))), 3, none⟩,
          ⟨(some 4), (Op.assign (Operand.const (Value.bool false))), 4, none⟩])
        .ret))
theorem slim68 : Try.f68.body.map (slim lends) = some k68 := by kernel_rfl
theorem ok68 : fnOk Try.f68 1 = true := by kernel_rfl
theorem c68 {a l : List D} {r : D × List D} (h : wpD Y.env k68 (fin tys l.length [ResultVar.tmp 2, ResultVar.tmp 3, ResultVar.tmp 4] r) (entry a l)) (ha : a.length = 1) : Y.call 68 a l = some r :=
  call_slim (Y := Y) rfl Try.func68 (ha ▸ ok68) slim68 h
def s_zePair_l0_M (p_Labels : Int) (p_Degree : Int) (p_Nodes : List (List Int)) (p_Edges : List (List Int)) (t12_ : Int) (t20_ : Int) (s : St) : Prop := s.v 1 = D.box [D.int .i64 p_Labels, D.int .i64 p_Degree, D.sl 32 (lst (fun x => D.sl 3 (lst (D.int .i64) x)) p_Nodes), D.sl 32 (lst (fun x => D.sl 3 (lst (D.int .i64) x)) p_Edges)] ∧ s.v 5 = D.int .i64 t12_ ∧ s.v 6 = D.sl 3 (lst (D.int .i64) (p_Nodes.getD t12_.toNat default)) ∧ s.v 10 = D.sl 32 (lst (fun x => D.sl 3 (lst (D.int .i64) x)) p_Nodes) ∧ s.v 11 = D.int .i64 (p_Nodes.length : Int) ∧ s.v 12 = D.int .i64 t12_ ∧ s.v 18 = D.sl 32 (lst (fun x => D.sl 3 (lst (D.int .i64) x)) p_Nodes) ∧ s.v 19 = D.int .i64 (p_Nodes.length : Int) ∧ s.v 20 = D.int .i64 t20_
def s_zePair_l0_X (p_Labels : Int) (p_Degree : Int) (p_Nodes : List (List Int)) (p_Edges : List (List Int)) (t12_ : Int) (r : Int ⊕ Unit) (ex : Ex) (s : St) : Prop := match r with
  | .inl q => ex = .ret ∧ s.v 2 = D.int .i64 t12_ ∧ s.v 3 = D.int .i64 q ∧ s.v 4 = D.bool true
  | .inr q => ex = .exit 2 ∧ s.v 1 = D.box [D.int .i64 p_Labels, D.int .i64 p_Degree, D.sl 32 (lst (fun x => D.sl 3 (lst (D.int .i64) x)) p_Nodes), D.sl 32 (lst (fun x => D.sl 3 (lst (D.int .i64) x)) p_Edges)] ∧ s.v 10 = D.sl 32 (lst (fun x => D.sl 3 (lst (D.int .i64) x)) p_Nodes) ∧ s.v 11 = D.int .i64 (p_Nodes.length : Int) ∧ s.v 12 = D.int .i64 t12_
theorem s_zePair_l0_wp (p_Labels : Int) (p_Degree : Int) (p_Nodes : List (List Int)) (p_Edges : List (List Int)) (t12_ : Int) {v : Int} {s : St} {r : Int ⊕ Unit} (h : s_zePair_l0 p_Labels p_Degree p_Nodes p_Edges t12_ v = some r) (hM : s_zePair_l0_M p_Labels p_Degree p_Nodes p_Edges t12_ v s) : wpD Y.env k68_l0 (s_zePair_l0_X p_Labels p_Degree p_Nodes p_Edges t12_ r) s := by
  unfold s_zePair_l0 at h
  refine wd_itO (c := k68_l0b) (fun v => s_zePair_l0_S p_Labels p_Degree p_Nodes p_Edges t12_ v) (fun v s => s_zePair_l0_M p_Labels p_Degree p_Nodes p_Edges t12_ v s) (s_zePair_l0_X p_Labels p_Degree p_Nodes p_Edges t12_) ?_ h hM
  clear h hM s v r
  intro t20_ s o hM h
  unfold s_zePair_l0_S at h
  unfold s_zePair_l0_M at hM
  obtain ⟨m0, m1, m2, m3, m4, m5, m6, m7, m8⟩ := hM
  unfold k68_l0b
  by_cases e3 : t20_ < (p_Nodes.length : Int)
  · rw [if_pos e3] at h
    obtain ⟨e4, h⟩ := ckS h
    obtain ⟨r5_, hl5, h⟩ := bindS h
    try dsimp only at h
    have c5 := s_zePairs_call p_Labels p_Degree p_Nodes p_Edges (p_Nodes.getD t12_.toNat default) (p_Nodes.getD t20_.toNat default) hl5
    by_cases e6 : r5_ = true
    · rw [if_pos e6] at h
      obtain rfl := Option.some.inj h
      simp (maxDischargeDepth := 9) only [↓xpre, xpost, xlst, xcore, yset, rg0, ↓reduceIte, Nat.reduceEqDiff, Nat.reduceLT, Nat.reduceLeDiff, Nat.reduceAdd, Nat.reduceMul, Nat.reduceMod, Nat.reduceSub, Nat.reduceBEq, Int.reduceLE, Int.reduceLT, Int.reduceEq, Int.reduceSub, Int.reduceAdd, Int.reduceToNat, Int.reduceNeg, m0, m1, m2, m3, m4, m5, m6, m7, m8, e3, e4.1, e4.2, c5, e6, s_zePair_l0_M, s_zePair_l0_X, sxN, sxE, sxR] <;> (repeat' apply And.intro) <;> first | rfl | exact ⟨_, rfl⟩ | simp [lst]
    · rw [if_neg e6] at h
      have e6f : r5_ = false := Bool.eq_false_iff.mpr e6
      obtain rfl := Option.some.inj h
      simp (maxDischargeDepth := 9) only [↓xpre, xpost, xlst, xcore, yset, rg0, ↓reduceIte, Nat.reduceEqDiff, Nat.reduceLT, Nat.reduceLeDiff, Nat.reduceAdd, Nat.reduceMul, Nat.reduceMod, Nat.reduceSub, Nat.reduceBEq, Int.reduceLE, Int.reduceLT, Int.reduceEq, Int.reduceSub, Int.reduceAdd, Int.reduceToNat, Int.reduceNeg, m0, m1, m2, m3, m4, m5, m6, m7, m8, e3, e4.1, e4.2, c5, e6f, s_zePair_l0_M, s_zePair_l0_X, sxN, sxE, sxR] <;> (repeat' apply And.intro) <;> first | rfl | exact ⟨_, rfl⟩ | simp [lst]
  · rw [if_neg e3] at h
    obtain rfl := Option.some.inj h
    simp (maxDischargeDepth := 9) only [↓xpre, xpost, xlst, xcore, yset, rg0, ↓reduceIte, Nat.reduceEqDiff, Nat.reduceLT, Nat.reduceLeDiff, Nat.reduceAdd, Nat.reduceMul, Nat.reduceMod, Nat.reduceSub, Nat.reduceBEq, Int.reduceLE, Int.reduceLT, Int.reduceEq, Int.reduceSub, Int.reduceAdd, Int.reduceToNat, Int.reduceNeg, m0, m1, m2, m3, m4, m5, m6, m7, m8, e3, s_zePair_l0_M, s_zePair_l0_X, sxN, sxE, sxR] <;> (repeat' apply And.intro) <;> first | rfl | exact ⟨_, rfl⟩ | simp [lst]
def s_zePair_l1_M (p_Labels : Int) (p_Degree : Int) (p_Nodes : List (List Int)) (p_Edges : List (List Int)) (t12_ : Int) (s : St) : Prop := s.v 1 = D.box [D.int .i64 p_Labels, D.int .i64 p_Degree, D.sl 32 (lst (fun x => D.sl 3 (lst (D.int .i64) x)) p_Nodes), D.sl 32 (lst (fun x => D.sl 3 (lst (D.int .i64) x)) p_Edges)] ∧ s.v 10 = D.sl 32 (lst (fun x => D.sl 3 (lst (D.int .i64) x)) p_Nodes) ∧ s.v 11 = D.int .i64 (p_Nodes.length : Int) ∧ s.v 12 = D.int .i64 t12_
def s_zePair_l1_X (p_Labels : Int) (p_Degree : Int) (p_Nodes : List (List Int)) (p_Edges : List (List Int)) (r : (Int × Int) ⊕ Unit) (ex : Ex) (s : St) : Prop := match r with
  | .inl q => ex = .ret ∧ s.v 2 = D.int .i64 q.1 ∧ s.v 3 = D.int .i64 q.2 ∧ s.v 4 = D.bool true
  | .inr q => ex = .exit 0
theorem s_zePair_l1_wp (p_Labels : Int) (p_Degree : Int) (p_Nodes : List (List Int)) (p_Edges : List (List Int)) {v : Int} {s : St} {r : (Int × Int) ⊕ Unit} (h : s_zePair_l1 p_Labels p_Degree p_Nodes p_Edges v = some r) (hM : s_zePair_l1_M p_Labels p_Degree p_Nodes p_Edges v s) : wpD Y.env k68_l1 (s_zePair_l1_X p_Labels p_Degree p_Nodes p_Edges r) s := by
  unfold s_zePair_l1 at h
  refine wd_itO (c := k68_l1b) (fun v => s_zePair_l1_S p_Labels p_Degree p_Nodes p_Edges v) (fun v s => s_zePair_l1_M p_Labels p_Degree p_Nodes p_Edges v s) (s_zePair_l1_X p_Labels p_Degree p_Nodes p_Edges) ?_ h hM
  clear h hM s v r
  intro t12_ s o hM h
  unfold s_zePair_l1_S at h
  unfold s_zePair_l1_M at hM
  obtain ⟨m0, m1, m2, m3⟩ := hM
  unfold k68_l1b
  by_cases e1 : t12_ < (p_Nodes.length : Int)
  · rw [if_pos e1] at h
    obtain ⟨e2, h⟩ := ckS h
    obtain ⟨r4_, hl4, h⟩ := bindS h
    try dsimp only at h
    simp (maxDischargeDepth := 9) only [↓xpre, xpost, xlst, xcore, yset, rg0, ↓reduceIte, Nat.reduceEqDiff, Nat.reduceLT, Nat.reduceLeDiff, Nat.reduceAdd, Nat.reduceMul, Nat.reduceMod, Nat.reduceSub, Nat.reduceBEq, Int.reduceLE, Int.reduceLT, Int.reduceEq, Int.reduceSub, Int.reduceAdd, Int.reduceToNat, Int.reduceNeg, m0, m1, m2, m3, e1, e2.1, e2.2]
    refine wd_mono (s_zePair_l0_wp p_Labels p_Degree p_Nodes p_Edges t12_ hl4 ?_) ?_
    · simp (maxDischargeDepth := 9) only [↓xpre, xpost, xlst, xcore, yset, rg0, ↓reduceIte, Nat.reduceEqDiff, Nat.reduceLT, Nat.reduceLeDiff, Nat.reduceAdd, Nat.reduceMul, Nat.reduceMod, Nat.reduceSub, Nat.reduceBEq, Int.reduceLE, Int.reduceLT, Int.reduceEq, Int.reduceSub, Int.reduceAdd, Int.reduceToNat, Int.reduceNeg, m0, m1, m2, m3, e1, e2.1, e2.2, s_zePair_l0_M] <;> (repeat' apply And.intro) <;> first | rfl | exact ⟨_, rfl⟩ | simp [lst]
    · intro ex4 s4 hX4
      rcases r4_ with q4_ | q4_
      · unfold s_zePair_l0_X at hX4
        dsimp only at hX4 h
        obtain ⟨rfl, n4_0, n4_1, n4_2⟩ := hX4
        obtain rfl := Option.some.inj h
        simp (maxDischargeDepth := 9) only [↓xpre, xpost, xlst, xcore, yset, rg0, ↓reduceIte, Nat.reduceEqDiff, Nat.reduceLT, Nat.reduceLeDiff, Nat.reduceAdd, Nat.reduceMul, Nat.reduceMod, Nat.reduceSub, Nat.reduceBEq, Int.reduceLE, Int.reduceLT, Int.reduceEq, Int.reduceSub, Int.reduceAdd, Int.reduceToNat, Int.reduceNeg, e1, e2.1, e2.2, n4_0, n4_1, n4_2, s_zePair_l1_M, s_zePair_l1_X, sxN, sxE, sxR] <;> (repeat' apply And.intro) <;> first | rfl | exact ⟨_, rfl⟩ | simp [lst]
      · unfold s_zePair_l0_X at hX4
        dsimp only at hX4 h
        obtain ⟨rfl, n4_0, n4_1, n4_2, n4_3⟩ := hX4
        obtain rfl := Option.some.inj h
        simp (maxDischargeDepth := 9) only [↓xpre, xpost, xlst, xcore, yset, rg0, ↓reduceIte, Nat.reduceEqDiff, Nat.reduceLT, Nat.reduceLeDiff, Nat.reduceAdd, Nat.reduceMul, Nat.reduceMod, Nat.reduceSub, Nat.reduceBEq, Int.reduceLE, Int.reduceLT, Int.reduceEq, Int.reduceSub, Int.reduceAdd, Int.reduceToNat, Int.reduceNeg, e1, e2.1, e2.2, n4_0, n4_1, n4_2, n4_3, s_zePair_l1_M, s_zePair_l1_X, sxN, sxE, sxR] <;> (repeat' apply And.intro) <;> first | rfl | exact ⟨_, rfl⟩ | simp [lst]
  · rw [if_neg e1] at h
    obtain rfl := Option.some.inj h
    simp (maxDischargeDepth := 9) only [↓xpre, xpost, xlst, xcore, yset, rg0, ↓reduceIte, Nat.reduceEqDiff, Nat.reduceLT, Nat.reduceLeDiff, Nat.reduceAdd, Nat.reduceMul, Nat.reduceMod, Nat.reduceSub, Nat.reduceBEq, Int.reduceLE, Int.reduceLT, Int.reduceEq, Int.reduceSub, Int.reduceAdd, Int.reduceToNat, Int.reduceNeg, m0, m1, m2, m3, e1, s_zePair_l1_M, s_zePair_l1_X, sxN, sxE, sxR] <;> (repeat' apply And.intro) <;> first | rfl | exact ⟨_, rfl⟩ | simp [lst]
theorem s_zePair_call (p_Labels : Int) (p_Degree : Int) (p_Nodes : List (List Int)) (p_Edges : List (List Int)) {r : Int × Int × Bool} (h : s_zePair p_Labels p_Degree p_Nodes p_Edges = some r) : Y.call 68 [D.agg [D.int .i64 p_Labels, D.int .i64 p_Degree, D.sl 32 (lst (fun x => D.sl 3 (lst (D.int .i64) x)) p_Nodes), D.sl 32 (lst (fun x => D.sl 3 (lst (D.int .i64) x)) p_Edges)]] [] = some (D.tup [D.int .i64 r.1, D.int .i64 r.2.1, D.bool r.2.2], []) := by
  refine c68 ?_ rfl
  unfold k68
  unfold s_zePair at h
  obtain ⟨r2_, hl2, h⟩ := bindS h
  try dsimp only at h
  simp (maxDischargeDepth := 9) only [↓xpre, xpost, xlst, xcore, yset, rg0, ↓reduceIte, Nat.reduceEqDiff, Nat.reduceLT, Nat.reduceLeDiff, Nat.reduceAdd, Nat.reduceMul, Nat.reduceMod, Nat.reduceSub, Nat.reduceBEq, Int.reduceLE, Int.reduceLT, Int.reduceEq, Int.reduceSub, Int.reduceAdd, Int.reduceToNat, Int.reduceNeg]
  refine wd_mono (s_zePair_l1_wp p_Labels p_Degree p_Nodes p_Edges hl2 ?_) ?_
  · simp (maxDischargeDepth := 9) only [↓xpre, xpost, xlst, xcore, yset, rg0, ↓reduceIte, Nat.reduceEqDiff, Nat.reduceLT, Nat.reduceLeDiff, Nat.reduceAdd, Nat.reduceMul, Nat.reduceMod, Nat.reduceSub, Nat.reduceBEq, Int.reduceLE, Int.reduceLT, Int.reduceEq, Int.reduceSub, Int.reduceAdd, Int.reduceToNat, Int.reduceNeg, s_zePair_l1_M] <;> (repeat' apply And.intro) <;> first | rfl | exact ⟨_, rfl⟩ | simp [lst]
  · intro ex2 s2 hX2
    rcases r2_ with q2_ | q2_
    · unfold s_zePair_l1_X at hX2
      dsimp only at hX2 h
      obtain ⟨rfl, n2_0, n2_1, n2_2⟩ := hX2
      obtain rfl := Option.some.inj h
      simp (maxDischargeDepth := 9) only [↓xpre, xpost, xlst, xcore, yset, rg0, ↓reduceIte, Nat.reduceEqDiff, Nat.reduceLT, Nat.reduceLeDiff, Nat.reduceAdd, Nat.reduceMul, Nat.reduceMod, Nat.reduceSub, Nat.reduceBEq, Int.reduceLE, Int.reduceLT, Int.reduceEq, Int.reduceSub, Int.reduceAdd, Int.reduceToNat, Int.reduceNeg, n2_0, n2_1, n2_2] <;> (repeat' apply And.intro) <;> first | rfl | exact ⟨_, rfl⟩ | simp [lst]
    · unfold s_zePair_l1_X at hX2
      dsimp only at hX2 h
      obtain rfl := hX2
      obtain rfl := Option.some.inj h
      simp (maxDischargeDepth := 9) only [↓xpre, xpost, xlst, xcore, yset, rg0, ↓reduceIte, Nat.reduceEqDiff, Nat.reduceLT, Nat.reduceLeDiff, Nat.reduceAdd, Nat.reduceMul, Nat.reduceMod, Nat.reduceSub, Nat.reduceBEq, Int.reduceLE, Int.reduceLT, Int.reduceEq, Int.reduceSub, Int.reduceAdd, Int.reduceToNat, Int.reduceNeg] <;> (repeat' apply And.intro) <;> first | rfl | exact ⟨_, rfl⟩ | simp [lst]

theorem s_zePair_eq (l d : Int) (ns es : List (List Int)) (hn : Short ns) (he : Short es) :
    s_zePair l d ns es = some (match first2 ns.length ns.length (goodAt ns es) with | some q => ((q.1 : Int), (q.2 : Int), true) | none => (0, 0, false)) := by
  have hl := hn.1
  have inner : ∀ i : Nat, i < ns.length → s_zePair_l0 l d ns es (i : Int) 0 = some (match firstIx ns.length (goodAt ns es i) with | some j => .inl (j : Int) | none => .inr ()) := by
    intro i hi
    unfold s_zePair_l0
    refine itO_find (fun v => s_zePair_l0_S l d ns es (i : Int) v) (fun j => (j : Int)) ns.length (goodAt ns es i) (fun j => .inl (j : Int)) (.inr ()) ?_ ?_
    · intro j hj
      simp only [s_zePair_l0_S, s_zePairs]
      rw [show goodAt ns es i j = (badOf es (ns.getD i default) (ns.getD j default)).isNone from rfl]
      rw [if_pos (lt_nat hj), ckT (ix_nat hj), Int.toNat_natCast, Int.toNat_natCast, s_zeBad_eq l d ns es _ _ he (hn.getD i) (hn.getD j), Option.bind_some, Option.bind_some, wrS j (by omega)]
      cases badOf es (ns.getD i default) (ns.getD j default) <;> simp
    · simp only [s_zePair_l0_S]
      rw [if_neg (not_lt_nat _)]
  have outer : s_zePair_l1 l d ns es 0 = some (match firstIx ns.length (fun i => (firstIx ns.length (goodAt ns es i)).isSome) with | some i => .inl ((i : Int), (((firstIx ns.length (goodAt ns es i)).getD 0 : Nat) : Int)) | none => .inr ()) := by
    unfold s_zePair_l1
    refine itO_find (fun v => s_zePair_l1_S l d ns es v) (fun j => (j : Int)) ns.length (fun i => (firstIx ns.length (goodAt ns es i)).isSome) (fun i => .inl ((i : Int), (((firstIx ns.length (goodAt ns es i)).getD 0 : Nat) : Int))) (.inr ()) ?_ ?_
    · intro i hi
      simp only [s_zePair_l1_S]
      rw [if_pos (lt_nat hi), ckT (ix_nat hi), inner i hi, Option.bind_some, wrS i (by omega)]
      cases firstIx ns.length (goodAt ns es i) <;> simp
    · simp only [s_zePair_l1_S]
      rw [if_neg (not_lt_nat _)]
  unfold s_zePair first2
  rw [outer, Option.bind_some]
  cases firstIx ns.length (fun i => (firstIx ns.length (goodAt ns es i)).isSome) <;> rfl
/-- laws.FnExactZeroPair -/
def k9 : SC :=
  .seq
    (.ops [
      ⟨(some 1), (Op.box 24 (Operand.tmp 0)), 0, none⟩,
      ⟨(some 2), (Op.assign (Operand.const (Value.bool false))), 4, none⟩])
    (.seq
      (.ops [
        ⟨(some 3), (Op.assign (Operand.const (Value.int IntKind.i64 1048576))), 3, none⟩])
      (.seq
        (.ops [
          ⟨(some 17), (Op.load 24 (Operand.tmp 1)), 24, none⟩,
          ⟨(some 18), (Op.move (Operand.tmp 3)), 3, none⟩,
          ⟨(some 19), (Op.call { callee := (Callee.value (Operand.func 15)), args := #[(Operand.tmp 17), (Operand.tmp 18)], argTypes := #[24, 3] }), 3, none⟩,
          ⟨(some 3), (Op.assign (Operand.tmp 19)), 3, none⟩])
        (.seq
          (.seq
            (.ops [
              ⟨(some 20), (Op.move (Operand.tmp 3)), 3, none⟩,
              ⟨(some 21), (Op.binOp BinOp.lss 3 (Operand.tmp 20) (Operand.const (Value.int IntKind.i64 0)) 3), 4, none⟩])
            (.cond (Operand.tmp 21)
              (.seq
                (.ops [
                  ⟨(some 2), (Op.assign (Operand.const (Value.bool true))), 4, none⟩])
                .ret)
              .skip))
          (.seq
            (.ops [
              ⟨(some 23), (Op.load 24 (Operand.tmp 1)), 24, none⟩,
              ⟨(some 24), (Op.call { callee := (Callee.value (Operand.func 17)), args := #[(Operand.tmp 23)], argTypes := #[24] }), 28, none⟩,
              ⟨(some 25), (Op.call { callee := (Callee.value (Operand.func 38)), args := #[(Operand.tmp 24)], argTypes := #[28] }), 46, none⟩,
              ⟨(some 22), (Op.move (Operand.tmp 25)), 46, none⟩,
              ⟨(some 26), (Op.extract (Operand.tmp 22) 0), 32, none⟩,
              ⟨(some 27), (Op.extract (Operand.tmp 22) 1), 32, none⟩,
              ⟨(some 28), (Op.extract (Operand.tmp 22) 2), 4, none⟩,
              ⟨(some 4), (Op.assign (Operand.tmp 26)), 32, none⟩,
              ⟨(some 5), (Op.assign (Operand.tmp 27)), 32, none⟩,
              ⟨(some 6), (Op.assign (Operand.tmp 28)), 4, none⟩])
            (.seq
              (.ops [
                ⟨(some 29), (Op.load 24 (Operand.tmp 1)), 24, none⟩,
                ⟨(some 30), (Op.call { callee := (Callee.value (Operand.func 17)), args := #[(Operand.tmp 29)], argTypes := #[24] }), 28, none⟩,
                ⟨(some 7), (Op.alloc 28), 0, none⟩,
                ⟨none, (Op.store 28 (Operand.tmp 7) (Operand.tmp 30)), 0, none⟩])
              (.seq
                (.ops [
                  ⟨(some 32), (Op.load 28 (Operand.tmp 7)), 28, none⟩,
                  ⟨(some 33), (Op.call { callee := (Callee.value (Operand.func 39)), args := #[(Operand.tmp 32)], argTypes := #[28] }), 46, none⟩,
                  ⟨(some 31), (Op.move (Operand.tmp 33)), 46, none⟩,
                  ⟨(some 34), (Op.extract (Operand.tmp 31) 0), 32, none⟩,
                  ⟨(some 35), (Op.extract (Operand.tmp 31) 1), 32, none⟩,
                  ⟨(some 36), (Op.extract (Operand.tmp 31) 2), 4, none⟩,
                  ⟨(some 8), (Op.assign (Operand.tmp 34)), 32, none⟩,
                  ⟨(some 9), (Op.assign (Operand.tmp 35)), 32, none⟩,
                  ⟨(some 10), (Op.assign (Operand.tmp 36)), 4, none⟩])
                (.seq
                  (.seq
                    (.ops [
                      ⟨(some 37), (Op.move (Operand.tmp 8)), 32, none⟩,
                      ⟨(some 38), (Op.move (Operand.tmp 4)), 32, none⟩,
                      ⟨(some 39), (Op.call { callee := (Callee.value (Operand.func 22)), args := #[(Operand.tmp 37), (Operand.tmp 38)], argTypes := #[32, 32] }), 4, none⟩,
                      ⟨(some 40), (Op.unOp UnOp.not 4 (Operand.tmp 39)), 4, none⟩,
                      ⟨(some 41), (Op.move (Operand.tmp 40)), 4, none⟩,
                      ⟨(some 42), (Op.move (Operand.tmp 9)), 32, (some (some 41, false))⟩,
                      ⟨(some 43), (Op.move (Operand.tmp 5)), 32, (some (some 41, false))⟩,
                      ⟨(some 44), (Op.call { callee := (Callee.value (Operand.func 22)), args := #[(Operand.tmp 42), (Operand.tmp 43)], argTypes := #[32, 32] }), 4, (some (some 41, false))⟩,
                      ⟨(some 45), (Op.unOp UnOp.not 4 (Operand.tmp 44)), 4, (some (some 41, false))⟩,
                      ⟨(some 46), (Op.pick (Operand.tmp 41) (Operand.const (Value.bool true)) (Operand.tmp 45)), 4, none⟩,
                      ⟨(some 47), (Op.move (Operand.tmp 46)), 4, none⟩,
                      ⟨(some 48), (Op.move (Operand.tmp 10)), 4, (some (some 47, false))⟩,
                      ⟨(some 49), (Op.move (Operand.tmp 6)), 4, (some (some 47, false))⟩,
                      ⟨(some 50), (Op.binOp BinOp.neq 4 (Operand.tmp 48) (Operand.tmp 49) 4), 4, (some (some 47, false))⟩,
                      ⟨(some 51), (Op.pick (Operand.tmp 47) (Operand.const (Value.bool true)) (Operand.tmp 50)), 4, none⟩])
                    (.cond (Operand.tmp 51)
                      (.seq
                        (.ops [
                          ⟨(some 2), (Op.assign (Operand.const (Value.bool false))), 4, none⟩])
                        .ret)
                      .skip))
                  (.seq
                    (.seq
                      (.draws [
                        (⟨[52, 7, 7], [52, 53, 54, 55, 56], [52]⟩, ⟨(some 52), (Op.load 28 (Operand.tmp 7)), 28, none⟩),
                        (⟨[53, 1, 1], [52, 53, 54, 55, 56], [53]⟩, ⟨(some 53), (Op.load 24 (Operand.tmp 1)), 24, none⟩),
                        (⟨[54, 53, 1], [52, 53, 54, 55, 56], [54]⟩, ⟨(some 54), (Op.call { callee := (Callee.value (Operand.func 17)), args := #[(Operand.tmp 53)], argTypes := #[24] }), 28, none⟩),
                        (⟨[55, 52, 54, 7, 54], [52, 53, 54, 55, 56], [55]⟩, ⟨(some 55), (Op.call { callee := (Callee.value (Operand.func 19)), args := #[(Operand.tmp 52), (Operand.tmp 54)], argTypes := #[28, 28] }), 4, none⟩),
                        (⟨[56, 55, 55], [52, 53, 54, 55, 56], [56]⟩, ⟨(some 56), (Op.unOp UnOp.not 4 (Operand.tmp 55)), 4, none⟩)])
                      (.cond (Operand.tmp 56)
                        (.seq
                          (.ops [
                            ⟨(some 2), (Op.assign (Operand.const (Value.bool false))), 4, none⟩])
                          .ret)
                        .skip))
                    (.seq
                      (.ops [
                        ⟨(some 11), (Op.assign (Operand.const (Value.int IntKind.i64 1))), 3, none⟩])
                      (.seq
                        (.ops [
                          ⟨(some 57), (Op.load 28 (Operand.tmp 7)), 28, none⟩,
                          ⟨(some 58), (Op.move (Operand.tmp 11)), 3, none⟩,
                          ⟨(some 59), (Op.call { callee := (Callee.value (Operand.func 23)), args := #[(Operand.tmp 57), (Operand.tmp 58)], argTypes := #[28, 3] }), 3, none⟩,
                          ⟨(some 11), (Op.assign (Operand.tmp 59)), 3, none⟩])
                        (.seq
                          (.seq
                            (.ops [
                              ⟨(some 60), (Op.move (Operand.tmp 11)), 3, none⟩,
                              ⟨(some 61), (Op.binOp BinOp.lss 3 (Operand.tmp 60) (Operand.const (Value.int IntKind.i64 0)) 3), 4, none⟩,
                              ⟨(some 62), (Op.move (Operand.tmp 61)), 4, none⟩,
                              ⟨(some 63), (Op.move (Operand.tmp 8)), 32, (some (some 62, false))⟩,
                              ⟨(some 64), (Op.move (Operand.tmp 4)), 32, (some (some 62, false))⟩,
                              ⟨(some 65), (Op.call { callee := (Callee.value (Operand.func 22)), args := #[(Operand.tmp 63), (Operand.tmp 64)], argTypes := #[32, 32] }), 4, (some (some 62, false))⟩,
                              ⟨(some 66), (Op.unOp UnOp.not 4 (Operand.tmp 65)), 4, (some (some 62, false))⟩,
                              ⟨(some 67), (Op.pick (Operand.tmp 62) (Operand.const (Value.bool true)) (Operand.tmp 66)), 4, none⟩,
                              ⟨(some 68), (Op.move (Operand.tmp 67)), 4, none⟩,
                              ⟨(some 69), (Op.move (Operand.tmp 9)), 32, (some (some 68, false))⟩,
                              ⟨(some 70), (Op.move (Operand.tmp 5)), 32, (some (some 68, false))⟩,
                              ⟨(some 71), (Op.call { callee := (Callee.value (Operand.func 22)), args := #[(Operand.tmp 69), (Operand.tmp 70)], argTypes := #[32, 32] }), 4, (some (some 68, false))⟩,
                              ⟨(some 72), (Op.unOp UnOp.not 4 (Operand.tmp 71)), 4, (some (some 68, false))⟩,
                              ⟨(some 73), (Op.pick (Operand.tmp 68) (Operand.const (Value.bool true)) (Operand.tmp 72)), 4, none⟩,
                              ⟨(some 74), (Op.move (Operand.tmp 73)), 4, none⟩,
                              ⟨(some 75), (Op.move (Operand.tmp 10)), 4, (some (some 74, false))⟩,
                              ⟨(some 76), (Op.move (Operand.tmp 6)), 4, (some (some 74, false))⟩,
                              ⟨(some 77), (Op.binOp BinOp.neq 4 (Operand.tmp 75) (Operand.tmp 76) 4), 4, (some (some 74, false))⟩,
                              ⟨(some 78), (Op.pick (Operand.tmp 74) (Operand.const (Value.bool true)) (Operand.tmp 77)), 4, none⟩])
                            (.cond (Operand.tmp 78)
                              (.seq
                                (.ops [
                                  ⟨(some 2), (Op.assign (Operand.const (Value.bool false))), 4, none⟩])
                                .ret)
                              .skip))
                          (.seq
                            (.ops [
                              ⟨(some 12), (Op.assign (Operand.const (Value.int IntKind.i64 1))), 3, none⟩])
                            (.seq
                              (.ops [
                                ⟨(some 79), (Op.move (Operand.tmp 8)), 32, none⟩,
                                ⟨(some 80), (Op.move (Operand.tmp 12)), 3, none⟩,
                                ⟨(some 81), (Op.call { callee := (Callee.value (Operand.func 24)), args := #[(Operand.tmp 79), (Operand.tmp 80)], argTypes := #[32, 3] }), 3, none⟩,
                                ⟨(some 12), (Op.assign (Operand.tmp 81)), 3, none⟩])
                              (.seq
                                (.ops [
                                  ⟨(some 82), (Op.move (Operand.tmp 9)), 32, none⟩,
                                  ⟨(some 83), (Op.move (Operand.tmp 12)), 3, none⟩,
                                  ⟨(some 84), (Op.call { callee := (Callee.value (Operand.func 24)), args := #[(Operand.tmp 82), (Operand.tmp 83)], argTypes := #[32, 3] }), 3, none⟩,
                                  ⟨(some 12), (Op.assign (Operand.tmp 84)), 3, none⟩])
                                (.seq
                                  (.ops [
                                    ⟨(some 13), (Op.assign (Operand.const (Value.int IntKind.i64 1))), 3, none⟩])
                                  (.seq
                                    (.ops [
                                      ⟨(some 85), (Op.move (Operand.tmp 8)), 32, none⟩,
                                      ⟨(some 86), (Op.move (Operand.tmp 13)), 3, none⟩,
                                      ⟨(some 87), (Op.call { callee := (Callee.value (Operand.func 25)), args := #[(Operand.tmp 85), (Operand.tmp 86)], argTypes := #[32, 3] }), 3, none⟩,
                                      ⟨(some 13), (Op.assign (Operand.tmp 87)), 3, none⟩])
                                    (.seq
                                      (.seq
                                        (.ops [
                                          ⟨(some 88), (Op.move (Operand.tmp 13)), 3, none⟩,
                                          ⟨(some 89), (Op.binOp BinOp.lss 3 (Operand.tmp 88) (Operand.const (Value.int IntKind.i64 0)) 3), 4, none⟩])
                                        (.cond (Operand.tmp 89)
                                          (.seq
                                            (.ops [
                                              ⟨(some 2), (Op.assign (Operand.const (Value.bool false))), 4, none⟩])
                                            .ret)
                                          .skip))
                                      (.seq
                                        (.ops [
                                          ⟨(some 90), (Op.move (Operand.tmp 9)), 32, none⟩,
                                          ⟨(some 91), (Op.move (Operand.tmp 13)), 3, none⟩,
                                          ⟨(some 92), (Op.call { callee := (Callee.value (Operand.func 25)), args := #[(Operand.tmp 90), (Operand.tmp 91)], argTypes := #[32, 3] }), 3, none⟩,
                                          ⟨(some 13), (Op.assign (Operand.tmp 92)), 3, none⟩])
                                        (.seq
                                          (.seq
                                            (.ops [
                                              ⟨(some 93), (Op.move (Operand.tmp 13)), 3, none⟩,
                                              ⟨(some 94), (Op.binOp BinOp.lss 3 (Operand.tmp 93) (Operand.const (Value.int IntKind.i64 0)) 3), 4, none⟩])
                                            (.cond (Operand.tmp 94)
                                              (.seq
                                                (.ops [
                                                  ⟨(some 2), (Op.assign (Operand.const (Value.bool false))), 4, none⟩])
                                                .ret)
                                              .skip))
                                          (.seq
                                            (.seq
                                              (.ops [
                                                ⟨(some 95), (Op.move (Operand.tmp 13)), 3, none⟩,
                                                ⟨(some 96), (Op.move (Operand.tmp 12)), 3, none⟩,
                                                ⟨(some 97), (Op.binOp BinOp.neq 3 (Operand.tmp 95) (Operand.tmp 96) 3), 4, none⟩])
                                              (.cond (Operand.tmp 97)
                                                (.seq
                                                  (.ops [
                                                    ⟨(some 2), (Op.assign (Operand.const (Value.bool false))), 4, none⟩])
                                                  .ret)
                                                .skip))
                                            (.seq
                                              (.ops [
                                                ⟨(some 99), (Op.load 24 (Operand.tmp 1)), 24, none⟩,
                                                ⟨(some 100), (Op.call { callee := (Callee.value (Operand.func 17)), args := #[(Operand.tmp 99)], argTypes := #[24] }), 28, none⟩,
                                                ⟨(some 101), (Op.call { callee := (Callee.value (Operand.func 39)), args := #[(Operand.tmp 100)], argTypes := #[28] }), 46, none⟩,
                                                ⟨(some 98), (Op.move (Operand.tmp 101)), 46, none⟩,
                                                ⟨(some 102), (Op.extract (Operand.tmp 98) 0), 32, none⟩,
                                                ⟨(some 103), (Op.extract (Operand.tmp 98) 1), 32, none⟩,
                                                ⟨(some 104), (Op.extract (Operand.tmp 98) 2), 4, none⟩,
                                                ⟨(some 14), (Op.assign (Operand.tmp 102)), 32, none⟩,
                                                ⟨(some 15), (Op.assign (Operand.tmp 103)), 32, none⟩,
                                                ⟨(some 16), (Op.assign (Operand.tmp 104)), 4, none⟩])
                                              (.seq
                                                (.seq
                                                  (.ops [
                                                    ⟨(some 105), (Op.move (Operand.tmp 14)), 32, none⟩,
                                                    ⟨(some 106), (Op.move (Operand.tmp 4)), 32, none⟩,
                                                    ⟨(some 107), (Op.call { callee := (Callee.value (Operand.func 22)), args := #[(Operand.tmp 105), (Operand.tmp 106)], argTypes := #[32, 32] }), 4, none⟩,
                                                    ⟨(some 108), (Op.unOp UnOp.not 4 (Operand.tmp 107)), 4, none⟩,
                                                    ⟨(some 109), (Op.move (Operand.tmp 108)), 4, none⟩,
                                                    ⟨(some 110), (Op.move (Operand.tmp 15)), 32, (some (some 109, false))⟩,
                                                    ⟨(some 111), (Op.move (Operand.tmp 5)), 32, (some (some 109, false))⟩,
                                                    ⟨(some 112), (Op.call { callee := (Callee.value (Operand.func 22)), args := #[(Operand.tmp 110), (Operand.tmp 111)], argTypes := #[32, 32] }), 4, (some (some 109, false))⟩,
                                                    ⟨(some 113), (Op.unOp UnOp.not 4 (Operand.tmp 112)), 4, (some (some 109, false))⟩,
                                                    ⟨(some 114), (Op.pick (Operand.tmp 109) (Operand.const (Value.bool true)) (Operand.tmp 113)), 4, none⟩,
                                                    ⟨(some 115), (Op.move (Operand.tmp 114)), 4, none⟩,
                                                    ⟨(some 116), (Op.move (Operand.tmp 16)), 4, (some (some 115, false))⟩,
                                                    ⟨(some 117), (Op.move (Operand.tmp 6)), 4, (some (some 115, false))⟩,
                                                    ⟨(some 118), (Op.binOp BinOp.neq 4 (Operand.tmp 116) (Operand.tmp 117) 4), 4, (some (some 115, false))⟩,
                                                    ⟨(some 119), (Op.pick (Operand.tmp 115) (Operand.const (Value.bool true)) (Operand.tmp 118)), 4, none⟩])
                                                  (.cond (Operand.tmp 119)
                                                    (.seq
                                                      (.ops [
                                                        ⟨(some 2), (Op.assign (Operand.const (Value.bool false))), 4, none⟩])
                                                      .ret)
                                                    .skip))
                                                (.seq
                                                  (.ops [
                                                    ⟨(some 13), (Op.assign (Operand.const (Value.int IntKind.i64 1))), 3, none⟩])
                                                  (.seq
                                                    (.ops [
                                                      ⟨(some 120), (Op.move (Operand.tmp 8)), 32, none⟩,
                                                      ⟨(some 121), (Op.move (Operand.tmp 13)), 3, none⟩,
                                                      ⟨(some 122), (Op.call { callee := (Callee.value (Operand.func 25)), args := #[(Operand.tmp 120), (Operand.tmp 121)], argTypes := #[32, 3] }), 3, none⟩,
                                                      ⟨(some 13), (Op.assign (Operand.tmp 122)), 3, none⟩])
                                                    (.seq
                                                      (.seq
                                                        (.ops [
                                                          ⟨(some 123), (Op.move (Operand.tmp 13)), 3, none⟩,
                                                          ⟨(some 124), (Op.binOp BinOp.lss 3 (Operand.tmp 123) (Operand.const (Value.int IntKind.i64 0)) 3), 4, none⟩])
                                                        (.cond (Operand.tmp 124)
                                                          (.seq
                                                            (.ops [
                                                              ⟨(some 2), (Op.assign (Operand.const (Value.bool false))), 4, none⟩])
                                                            .ret)
                                                          .skip))
                                                      (.seq
                                                        (.ops [
                                                          ⟨(some 125), (Op.move (Operand.tmp 9)), 32, none⟩,
                                                          ⟨(some 126), (Op.move (Operand.tmp 13)), 3, none⟩,
                                                          ⟨(some 127), (Op.call { callee := (Callee.value (Operand.func 25)), args := #[(Operand.tmp 125), (Operand.tmp 126)], argTypes := #[32, 3] }), 3, none⟩,
                                                          ⟨(some 13), (Op.assign (Operand.tmp 127)), 3, none⟩])
                                                        (.seq
                                                          (.seq
                                                            (.ops [
                                                              ⟨(some 128), (Op.move (Operand.tmp 13)), 3, none⟩,
                                                              ⟨(some 129), (Op.binOp BinOp.lss 3 (Operand.tmp 128) (Operand.const (Value.int IntKind.i64 0)) 3), 4, none⟩])
                                                            (.cond (Operand.tmp 129)
                                                              (.seq
                                                                (.ops [
                                                                  ⟨(some 2), (Op.assign (Operand.const (Value.bool false))), 4, none⟩])
                                                                .ret)
                                                              .skip))
                                                          (.seq
                                                            (.seq
                                                              (.ops [
                                                                ⟨(some 130), (Op.move (Operand.tmp 13)), 3, none⟩,
                                                                ⟨(some 131), (Op.move (Operand.tmp 12)), 3, none⟩,
                                                                ⟨(some 132), (Op.binOp BinOp.neq 3 (Operand.tmp 130) (Operand.tmp 131) 3), 4, none⟩])
                                                              (.cond (Operand.tmp 132)
                                                                (.seq
                                                                  (.ops [
                                                                    ⟨(some 2), (Op.assign (Operand.const (Value.bool false))), 4, none⟩])
                                                                  .ret)
                                                                .skip))
                                                            (.seq
                                                              (.ops [
                                                                ⟨(some 2), (Op.assign (Operand.const (Value.bool true))), 4, none⟩])
                                                              .ret)))))))))))))))))))))))))))))
theorem slim9 : Try.f9.body.map (slim lends) = some k9 := by kernel_rfl
theorem ok9 : fnOk Try.f9 1 = true := by kernel_rfl
theorem c9 {a l : List D} {r : D × List D} (h : wpD Y.env k9 (fin tys l.length [ResultVar.tmp 2] r) (entry a l)) (ha : a.length = 1) : Y.call 9 a l = some r :=
  call_slim (Y := Y) rfl Try.func9 (ha ▸ ok9) slim9 h
end Go.Proofs.Ytjlphfbpaejicaa
