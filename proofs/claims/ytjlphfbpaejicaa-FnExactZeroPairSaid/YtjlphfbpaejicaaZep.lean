/- The first good pair of configurations, as a plain function; the law. Conditions: none. -/
import Derived.Test.YtjlphfbpaejicaaL6
import Derived.Test.YtjlphfbpaejicaaZer
namespace Go.Proofs.Ytjlphfbpaejicaa
open Go Dv
set_option linter.unusedSimpArgs false
set_option linter.unusedVariables false
set_option maxRecDepth 100000
set_option maxHeartbeats 4000000

/-- The first pair of places at which P holds. -/
def first2 (n m : Nat) (P : Nat → Nat → Bool) : Option (Nat × Nat) := (firstIx n fun i => (firstIx m (P i)).isSome).map fun i => (i, (firstIx m (P i)).getD 0)
theorem first2_lt {n m : Nat} {P : Nat → Nat → Bool} {q : Nat × Nat} (h : first2 n m P = some q) : q.1 < n ∧ q.2 < m := by
  unfold first2 at h
  simp only [Option.map_eq_some_iff] at h
  obtain ⟨i, h1, rfl⟩ := h
  obtain ⟨h2, h3⟩ := firstIx_lt h1
  refine ⟨h2, ?_⟩
  cases h4 : firstIx m (P i) with
  | none => rw [h4] at h3; cases h3
  | some j => exact (firstIx_lt h4).1
def goodAt (ns es : List (List Int)) (i j : Nat) : Bool := (badOf es (ns.getD i default) (ns.getD j default)).isNone
noncomputable def i_ZeroPair_l0_S (p_Labels : Int) (p_Degree : Int) (p_Nodes : List (List Int)) (p_Edges : List (List Int)) (t15_ : Int) (t22_ : Int) : Option ((Int) ⊕ (((List Int)) ⊕ Unit)) :=
  if t22_ < (p_Nodes.length : Int) then
    ck (0 ≤ t22_ ∧ t22_.toNat < p_Nodes.length) <|
    (i_isGoodPair p_Labels p_Degree p_Nodes p_Edges (p_Nodes.getD t15_.toNat default) (p_Nodes.getD t22_.toNat default)).bind fun r9_ =>
    if r9_ = true then
      ck ((p_Nodes.getD t15_.toNat default).length < 1099511627776) <|
      ck ((p_Nodes.getD t22_.toNat default).length < 1099511627776) <|
      some (Sum.inr (Sum.inl (p_Nodes.getD t22_.toNat default)))
    else
      some (Sum.inl (IntKind.i64.wrap (t22_ + 1)))
  else
    some (Sum.inr (Sum.inr ()))
noncomputable def i_ZeroPair_l0 (p_Labels : Int) (p_Degree : Int) (p_Nodes : List (List Int)) (p_Edges : List (List Int)) (t15_ : Int) (v : Int) : Option (((List Int)) ⊕ Unit) := itO (fun v => i_ZeroPair_l0_S p_Labels p_Degree p_Nodes p_Edges t15_ v) v
noncomputable def i_ZeroPair_l1_S (p_Labels : Int) (p_Degree : Int) (p_Nodes : List (List Int)) (p_Edges : List (List Int)) (t15_ : Int) : Option ((Int) ⊕ (((List Int) × (List Int)) ⊕ Unit)) :=
  if t15_ < (p_Nodes.length : Int) then
    ck (0 ≤ t15_ ∧ t15_.toNat < p_Nodes.length) <|
    (i_ZeroPair_l0 p_Labels p_Degree p_Nodes p_Edges t15_ 0).bind fun r8_ =>
    match r8_ with
    | .inl q8_ =>
      some (Sum.inr (Sum.inl ((p_Nodes.getD t15_.toNat default), q8_)))
    | .inr q8_ =>
      some (Sum.inl (IntKind.i64.wrap (t15_ + 1)))
  else
    some (Sum.inr (Sum.inr ()))
noncomputable def i_ZeroPair_l1 (p_Labels : Int) (p_Degree : Int) (p_Nodes : List (List Int)) (p_Edges : List (List Int)) (v : Int) : Option (((List Int) × (List Int)) ⊕ Unit) := itO (fun v => i_ZeroPair_l1_S p_Labels p_Degree p_Nodes p_Edges v) v
noncomputable def i_ZeroPair (p_Labels : Int) (p_Degree : Int) (p_Nodes : List (List Int)) (p_Edges : List (List Int)) : Option ((List Int) × (List Int) × Bool) :=
  ck (Short p_Nodes) <|
  ck (Short p_Edges) <|
  if (isProb p_Labels p_Degree p_Nodes p_Edges) = true then
    (i_ZeroPair_l1 p_Labels p_Degree p_Nodes p_Edges 0).bind fun r6_ =>
    match r6_ with
    | .inl q6_ =>
      some (q6_.1, q6_.2, true)
    | .inr q6_ =>
      some ([], [], false)
  else
    some ([], [], false)
/-- impl.ZeroPair -/
def k39_l0b : SC :=
  .seq
    (.ops [
      ⟨(some 23), (Op.binOp BinOp.lss 3 (Operand.tmp 22) (Operand.tmp 21) 3), 0, none⟩])
    (.seq
      (.cond (Operand.tmp 23)
        .skip
        (.exit 2))
      (.seq
        (.block 3
          (.seq
            (.ops [
              ⟨(some 24), (Op.indexAddr 22 (Operand.tmp 20) (Operand.tmp 22)), 0, none⟩,
              ⟨(some 25), (Op.load 32 (Operand.tmp 24)), 32, none⟩,
              ⟨(some 8), (Op.assign (Operand.tmp 25)), 32, none⟩])
            (.seq
              (.ops [
                ⟨(some 26), (Op.load 28 (Operand.tmp 1)), 28, none⟩,
                ⟨(some 27), (Op.move (Operand.tmp 6)), 32, none⟩,
                ⟨(some 28), (Op.move (Operand.tmp 8)), 32, none⟩,
                ⟨(some 29), (Op.call { callee := (Callee.value (Operand.func 66)), args := #[(Operand.tmp 26), (Operand.tmp 27), (Operand.tmp 28)], argTypes := #[28, 32, 32] }), 4, none⟩])
              (.cond (Operand.tmp 29)
                (.seq
                  (.ops [
                    ⟨(some 30), (Op.move (Operand.tmp 6)), 32, none⟩,
                    ⟨(some 31), (Op.call { callee := (Callee.value (Operand.func 67)), args := #[(Operand.tmp 30)], argTypes := #[32] }), 32, none⟩,
                    ⟨(some 32), (Op.move (Operand.tmp 8)), 32, none⟩,
                    ⟨(some 33), (Op.call { callee := (Callee.value (Operand.func 67)), args := #[(Operand.tmp 32)], argTypes := #[32] }), 32, none⟩,
                    ⟨(some 2), (Op.assign (Operand.tmp 31)), 32, none⟩,
                    ⟨(some 3), (Op.assign (Operand.tmp 33)), 32, none⟩,
                    ⟨(some 4), (Op.assign (Operand.const (Value.bool true))), 4, none⟩])
                  .ret)
                .skip))))
        (.ops [
          ⟨(some 34), (Op.binOp BinOp.add 3 (Operand.tmp 22) (Operand.const (Value.int IntKind.i64 1)) 3), 3, none⟩,
          ⟨(some 22), (Op.move (Operand.tmp 34)), 3, none⟩])))
def k39_l0 : SC := .loop k39_l0b
def k39_l1b : SC :=
  .seq
    (.ops [
      ⟨(some 16), (Op.binOp BinOp.lss 3 (Operand.tmp 15) (Operand.tmp 14) 3), 0, none⟩])
    (.seq
      (.cond (Operand.tmp 16)
        .skip
        (.exit 0))
      (.seq
        (.block 1
          (.seq
            (.ops [
              ⟨(some 17), (Op.indexAddr 22 (Operand.tmp 13) (Operand.tmp 15)), 0, none⟩,
              ⟨(some 18), (Op.load 32 (Operand.tmp 17)), 32, none⟩,
              ⟨(some 6), (Op.assign (Operand.tmp 18)), 32, none⟩])
            (.seq
              (.ops [
                ⟨(some 19), (Op.fieldAddr 28 (Operand.tmp 1) 2), 0, none⟩,
                ⟨(some 20), (Op.load 22 (Operand.tmp 19)), 22, none⟩,
                ⟨(some 21), (Op.call { callee := (Callee.builtin Builtin.len), args := #[(Operand.tmp 20)], argTypes := #[22] }), 3, none⟩,
                ⟨(some 22), (Op.move (Operand.const (Value.int IntKind.i64 0))), 3, none⟩])
              (.block 2
                k39_l0))))
        (.ops [
          ⟨(some 35), (Op.binOp BinOp.add 3 (Operand.tmp 15) (Operand.const (Value.int IntKind.i64 1)) 3), 3, none⟩,
          ⟨(some 15), (Op.move (Operand.tmp 35)), 3, none⟩])))
def k39_l1 : SC := .loop k39_l1b
def k39 : SC :=
  .seq
    (.ops [
      ⟨(some 1), (Op.box 28 (Operand.tmp 0)), 0, none⟩,
      ⟨(some 2), (Op.assign (Operand.const (Value.slice none 0 0))), 32, none⟩,
      ⟨(some 3), (Op.assign (Operand.const (Value.slice none 0 0))), 32, none⟩,
      ⟨(some 4), (Op.assign (Operand.const (Value.bool false))), 4, none⟩])
    (.seq
      (.seq
        (.ops [
          ⟨(some 9), (Op.load 28 (Operand.tmp 1)), 28, none⟩,
          ⟨(some 10), (Op.call { callee := (Callee.value (Operand.func 58)), args := #[(Operand.tmp 9)], argTypes := #[28] }), 4, none⟩,
          ⟨(some 11), (Op.unOp UnOp.not 4 (Operand.tmp 10)), 4, none⟩])
        (.cond (Operand.tmp 11)
          (.seq
            (.ops [
              ⟨(some 2), (Op.assign (Operand.const (Value.slice none 0 0))), 32, none⟩,
              ⟨(some 3), (Op.assign (Operand.const (Value.slice none 0 0))), 32, none⟩,
              ⟨(some 4), (Op.assign (Operand.const (Value.bool false))), 4, none⟩])
            .ret)
          .skip))
      (.seq
        (.seq
          (.ops [
            ⟨(some 12), (Op.fieldAddr 28 (Operand.tmp 1) 2), 0, none⟩,
            ⟨(some 13), (Op.load 22 (Operand.tmp 12)), 22, none⟩,
            ⟨(some 14), (Op.call { callee := (Callee.builtin Builtin.len), args := #[(Operand.tmp 13)], argTypes := #[22] }), 3, none⟩,
            ⟨(some 15), (Op.move (Operand.const (Value.int IntKind.i64 0))), 3, none⟩])
          (.block 0
            k39_l1))
        (.seq
          (.ops [
            ⟨(some 2), (Op.assign (Operand.const (Value.slice none 0 0))), 32, none⟩,
            ⟨(some 3), (Op.assign (Operand.const (Value.slice none 0 0))), 32, none⟩,
            ⟨(some 4), (Op.assign (Operand.const (Value.bool false))), 4, none⟩])
          .ret)))
theorem slim39 : Try.f39.body.map (slim lends) = some k39 := by kernel_rfl
theorem ok39 : fnOk Try.f39 1 = true := by kernel_rfl
theorem c39 {a l : List D} {r : D × List D} (h : wpD Y.env k39 (fin tys l.length [ResultVar.tmp 2, ResultVar.tmp 3, ResultVar.tmp 4] r) (entry a l)) (ha : a.length = 1) : Y.call 39 a l = some r :=
  call_slim (Y := Y) rfl Try.func39 (ha ▸ ok39) slim39 h
def i_ZeroPair_l0_M (p_Labels : Int) (p_Degree : Int) (p_Nodes : List (List Int)) (p_Edges : List (List Int)) (t15_ : Int) (t22_ : Int) (s : St) : Prop := s.v 1 = D.box [D.int .i64 p_Labels, D.int .i64 p_Degree, D.sl 32 (lst (fun x => D.sl 3 (lst (D.int .i64) x)) p_Nodes), D.sl 32 (lst (fun x => D.sl 3 (lst (D.int .i64) x)) p_Edges)] ∧ s.v 6 = D.sl 3 (lst (D.int .i64) (p_Nodes.getD t15_.toNat default)) ∧ s.v 13 = D.sl 32 (lst (fun x => D.sl 3 (lst (D.int .i64) x)) p_Nodes) ∧ s.v 14 = D.int .i64 (p_Nodes.length : Int) ∧ s.v 15 = D.int .i64 t15_ ∧ s.v 20 = D.sl 32 (lst (fun x => D.sl 3 (lst (D.int .i64) x)) p_Nodes) ∧ s.v 21 = D.int .i64 (p_Nodes.length : Int) ∧ s.v 22 = D.int .i64 t22_
def i_ZeroPair_l0_X (p_Labels : Int) (p_Degree : Int) (p_Nodes : List (List Int)) (p_Edges : List (List Int)) (t15_ : Int) (r : ((List Int)) ⊕ Unit) (ex : Ex) (s : St) : Prop := match r with
  | .inl q => ex = .ret ∧ s.v 2 = D.own 3 (lst (D.int .i64) (p_Nodes.getD t15_.toNat default)) ∧ s.v 3 = D.own 3 (lst (D.int .i64) q) ∧ s.v 4 = D.bool true
  | .inr q => ex = .exit 2 ∧ s.v 1 = D.box [D.int .i64 p_Labels, D.int .i64 p_Degree, D.sl 32 (lst (fun x => D.sl 3 (lst (D.int .i64) x)) p_Nodes), D.sl 32 (lst (fun x => D.sl 3 (lst (D.int .i64) x)) p_Edges)] ∧ s.v 13 = D.sl 32 (lst (fun x => D.sl 3 (lst (D.int .i64) x)) p_Nodes) ∧ s.v 14 = D.int .i64 (p_Nodes.length : Int) ∧ s.v 15 = D.int .i64 t15_
theorem i_ZeroPair_l0_wp (p_Labels : Int) (p_Degree : Int) (p_Nodes : List (List Int)) (p_Edges : List (List Int)) (t15_ : Int) {v : Int} {s : St} {r : ((List Int)) ⊕ Unit} (h : i_ZeroPair_l0 p_Labels p_Degree p_Nodes p_Edges t15_ v = some r) (hM : i_ZeroPair_l0_M p_Labels p_Degree p_Nodes p_Edges t15_ v s) : wpD Y.env k39_l0 (i_ZeroPair_l0_X p_Labels p_Degree p_Nodes p_Edges t15_ r) s := by
  unfold i_ZeroPair_l0 at h
  refine wd_itO (c := k39_l0b) (fun v => i_ZeroPair_l0_S p_Labels p_Degree p_Nodes p_Edges t15_ v) (fun v s => i_ZeroPair_l0_M p_Labels p_Degree p_Nodes p_Edges t15_ v s) (i_ZeroPair_l0_X p_Labels p_Degree p_Nodes p_Edges t15_) ?_ h hM
  clear h hM s v r
  intro t22_ s o hM h
  unfold i_ZeroPair_l0_S at h
  unfold i_ZeroPair_l0_M at hM
  obtain ⟨m0, m1, m2, m3, m4, m5, m6, m7⟩ := hM
  unfold k39_l0b
  by_cases e7 : t22_ < (p_Nodes.length : Int)
  · rw [if_pos e7] at h
    obtain ⟨e8, h⟩ := ckS h
    obtain ⟨r9_, hl9, h⟩ := bindS h
    try dsimp only at h
    have c9 := i_isGoodPair_call p_Labels p_Degree p_Nodes p_Edges (p_Nodes.getD t15_.toNat default) (p_Nodes.getD t22_.toNat default) hl9
    by_cases e10 : r9_ = true
    · rw [if_pos e10] at h
      obtain ⟨e11, h⟩ := ckS h
      have c12 := g_slices_Clone_Sint_int_cl (p_Nodes.getD t15_.toNat default) e11
      obtain ⟨e13, h⟩ := ckS h
      have c14 := g_slices_Clone_Sint_int_cl (p_Nodes.getD t22_.toNat default) e13
      obtain rfl := Option.some.inj h
      simp (maxDischargeDepth := 9) only [↓xpre, xpost, xlst, xcore, yset, rg0, ↓reduceIte, Nat.reduceEqDiff, Nat.reduceLT, Nat.reduceLeDiff, Nat.reduceAdd, Nat.reduceMul, Nat.reduceMod, Nat.reduceSub, Nat.reduceBEq, Int.reduceLE, Int.reduceLT, Int.reduceEq, Int.reduceSub, Int.reduceAdd, Int.reduceToNat, Int.reduceNeg, m0, m1, m2, m3, m4, m5, m6, m7, e7, e8.1, e8.2, c9, e10, e11, c12, e13, c14, i_ZeroPair_l0_M, i_ZeroPair_l0_X, sxN, sxE, sxR] <;> (repeat' apply And.intro) <;> first | rfl | exact ⟨_, rfl⟩ | simp [lst]
    · rw [if_neg e10] at h
      have e10f : r9_ = false := Bool.eq_false_iff.mpr e10
      obtain rfl := Option.some.inj h
      simp (maxDischargeDepth := 9) only [↓xpre, xpost, xlst, xcore, yset, rg0, ↓reduceIte, Nat.reduceEqDiff, Nat.reduceLT, Nat.reduceLeDiff, Nat.reduceAdd, Nat.reduceMul, Nat.reduceMod, Nat.reduceSub, Nat.reduceBEq, Int.reduceLE, Int.reduceLT, Int.reduceEq, Int.reduceSub, Int.reduceAdd, Int.reduceToNat, Int.reduceNeg, m0, m1, m2, m3, m4, m5, m6, m7, e7, e8.1, e8.2, c9, e10f, i_ZeroPair_l0_M, i_ZeroPair_l0_X, sxN, sxE, sxR] <;> (repeat' apply And.intro) <;> first | rfl | exact ⟨_, rfl⟩ | simp [lst]
  · rw [if_neg e7] at h
    obtain rfl := Option.some.inj h
    simp (maxDischargeDepth := 9) only [↓xpre, xpost, xlst, xcore, yset, rg0, ↓reduceIte, Nat.reduceEqDiff, Nat.reduceLT, Nat.reduceLeDiff, Nat.reduceAdd, Nat.reduceMul, Nat.reduceMod, Nat.reduceSub, Nat.reduceBEq, Int.reduceLE, Int.reduceLT, Int.reduceEq, Int.reduceSub, Int.reduceAdd, Int.reduceToNat, Int.reduceNeg, m0, m1, m2, m3, m4, m5, m6, m7, e7, i_ZeroPair_l0_M, i_ZeroPair_l0_X, sxN, sxE, sxR] <;> (repeat' apply And.intro) <;> first | rfl | exact ⟨_, rfl⟩ | simp [lst]
def i_ZeroPair_l1_M (p_Labels : Int) (p_Degree : Int) (p_Nodes : List (List Int)) (p_Edges : List (List Int)) (t15_ : Int) (s : St) : Prop := s.v 1 = D.box [D.int .i64 p_Labels, D.int .i64 p_Degree, D.sl 32 (lst (fun x => D.sl 3 (lst (D.int .i64) x)) p_Nodes), D.sl 32 (lst (fun x => D.sl 3 (lst (D.int .i64) x)) p_Edges)] ∧ s.v 13 = D.sl 32 (lst (fun x => D.sl 3 (lst (D.int .i64) x)) p_Nodes) ∧ s.v 14 = D.int .i64 (p_Nodes.length : Int) ∧ s.v 15 = D.int .i64 t15_
def i_ZeroPair_l1_X (p_Labels : Int) (p_Degree : Int) (p_Nodes : List (List Int)) (p_Edges : List (List Int)) (r : ((List Int) × (List Int)) ⊕ Unit) (ex : Ex) (s : St) : Prop := match r with
  | .inl q => ex = .ret ∧ s.v 2 = D.own 3 (lst (D.int .i64) q.1) ∧ s.v 3 = D.own 3 (lst (D.int .i64) q.2) ∧ s.v 4 = D.bool true
  | .inr q => ex = .exit 0
theorem i_ZeroPair_l1_wp (p_Labels : Int) (p_Degree : Int) (p_Nodes : List (List Int)) (p_Edges : List (List Int)) {v : Int} {s : St} {r : ((List Int) × (List Int)) ⊕ Unit} (h : i_ZeroPair_l1 p_Labels p_Degree p_Nodes p_Edges v = some r) (hM : i_ZeroPair_l1_M p_Labels p_Degree p_Nodes p_Edges v s) : wpD Y.env k39_l1 (i_ZeroPair_l1_X p_Labels p_Degree p_Nodes p_Edges r) s := by
  unfold i_ZeroPair_l1 at h
  refine wd_itO (c := k39_l1b) (fun v => i_ZeroPair_l1_S p_Labels p_Degree p_Nodes p_Edges v) (fun v s => i_ZeroPair_l1_M p_Labels p_Degree p_Nodes p_Edges v s) (i_ZeroPair_l1_X p_Labels p_Degree p_Nodes p_Edges) ?_ h hM
  clear h hM s v r
  intro t15_ s o hM h
  unfold i_ZeroPair_l1_S at h
  unfold i_ZeroPair_l1_M at hM
  obtain ⟨m0, m1, m2, m3⟩ := hM
  unfold k39_l1b
  by_cases e5 : t15_ < (p_Nodes.length : Int)
  · rw [if_pos e5] at h
    obtain ⟨e6, h⟩ := ckS h
    obtain ⟨r8_, hl8, h⟩ := bindS h
    try dsimp only at h
    simp (maxDischargeDepth := 9) only [↓xpre, xpost, xlst, xcore, yset, rg0, ↓reduceIte, Nat.reduceEqDiff, Nat.reduceLT, Nat.reduceLeDiff, Nat.reduceAdd, Nat.reduceMul, Nat.reduceMod, Nat.reduceSub, Nat.reduceBEq, Int.reduceLE, Int.reduceLT, Int.reduceEq, Int.reduceSub, Int.reduceAdd, Int.reduceToNat, Int.reduceNeg, m0, m1, m2, m3, e5, e6.1, e6.2]
    refine wd_mono (i_ZeroPair_l0_wp p_Labels p_Degree p_Nodes p_Edges t15_ hl8 ?_) ?_
    · simp (maxDischargeDepth := 9) only [↓xpre, xpost, xlst, xcore, yset, rg0, ↓reduceIte, Nat.reduceEqDiff, Nat.reduceLT, Nat.reduceLeDiff, Nat.reduceAdd, Nat.reduceMul, Nat.reduceMod, Nat.reduceSub, Nat.reduceBEq, Int.reduceLE, Int.reduceLT, Int.reduceEq, Int.reduceSub, Int.reduceAdd, Int.reduceToNat, Int.reduceNeg, m0, m1, m2, m3, e5, e6.1, e6.2, i_ZeroPair_l0_M] <;> (repeat' apply And.intro) <;> first | rfl | exact ⟨_, rfl⟩ | simp [lst]
    · intro ex8 s8 hX8
      rcases r8_ with q8_ | q8_
      · unfold i_ZeroPair_l0_X at hX8
        dsimp only at hX8 h
        obtain ⟨rfl, n8_0, n8_1, n8_2⟩ := hX8
        obtain rfl := Option.some.inj h
        simp (maxDischargeDepth := 9) only [↓xpre, xpost, xlst, xcore, yset, rg0, ↓reduceIte, Nat.reduceEqDiff, Nat.reduceLT, Nat.reduceLeDiff, Nat.reduceAdd, Nat.reduceMul, Nat.reduceMod, Nat.reduceSub, Nat.reduceBEq, Int.reduceLE, Int.reduceLT, Int.reduceEq, Int.reduceSub, Int.reduceAdd, Int.reduceToNat, Int.reduceNeg, e5, e6.1, e6.2, n8_0, n8_1, n8_2, i_ZeroPair_l1_M, i_ZeroPair_l1_X, sxN, sxE, sxR] <;> (repeat' apply And.intro) <;> first | rfl | exact ⟨_, rfl⟩ | simp [lst]
      · unfold i_ZeroPair_l0_X at hX8
        dsimp only at hX8 h
        obtain ⟨rfl, n8_0, n8_1, n8_2, n8_3⟩ := hX8
        obtain rfl := Option.some.inj h
        simp (maxDischargeDepth := 9) only [↓xpre, xpost, xlst, xcore, yset, rg0, ↓reduceIte, Nat.reduceEqDiff, Nat.reduceLT, Nat.reduceLeDiff, Nat.reduceAdd, Nat.reduceMul, Nat.reduceMod, Nat.reduceSub, Nat.reduceBEq, Int.reduceLE, Int.reduceLT, Int.reduceEq, Int.reduceSub, Int.reduceAdd, Int.reduceToNat, Int.reduceNeg, e5, e6.1, e6.2, n8_0, n8_1, n8_2, n8_3, i_ZeroPair_l1_M, i_ZeroPair_l1_X, sxN, sxE, sxR] <;> (repeat' apply And.intro) <;> first | rfl | exact ⟨_, rfl⟩ | simp [lst]
  · rw [if_neg e5] at h
    obtain rfl := Option.some.inj h
    simp (maxDischargeDepth := 9) only [↓xpre, xpost, xlst, xcore, yset, rg0, ↓reduceIte, Nat.reduceEqDiff, Nat.reduceLT, Nat.reduceLeDiff, Nat.reduceAdd, Nat.reduceMul, Nat.reduceMod, Nat.reduceSub, Nat.reduceBEq, Int.reduceLE, Int.reduceLT, Int.reduceEq, Int.reduceSub, Int.reduceAdd, Int.reduceToNat, Int.reduceNeg, m0, m1, m2, m3, e5, i_ZeroPair_l1_M, i_ZeroPair_l1_X, sxN, sxE, sxR] <;> (repeat' apply And.intro) <;> first | rfl | exact ⟨_, rfl⟩ | simp [lst]
theorem i_ZeroPair_call (p_Labels : Int) (p_Degree : Int) (p_Nodes : List (List Int)) (p_Edges : List (List Int)) {r : (List Int) × (List Int) × Bool} (h : i_ZeroPair p_Labels p_Degree p_Nodes p_Edges = some r) : Y.call 39 [D.agg [D.int .i64 p_Labels, D.int .i64 p_Degree, D.sl 32 (lst (fun x => D.sl 3 (lst (D.int .i64) x)) p_Nodes), D.sl 32 (lst (fun x => D.sl 3 (lst (D.int .i64) x)) p_Edges)]] [] = some (D.tup [D.own 3 (lst (D.int .i64) r.1), D.own 3 (lst (D.int .i64) r.2.1), D.bool r.2.2], []) := by
  refine c39 ?_ rfl
  unfold k39
  unfold i_ZeroPair at h
  obtain ⟨e1, h⟩ := ckS h
  obtain ⟨e2, h⟩ := ckS h
  have c3 := i_IsProblem_cl p_Labels p_Degree p_Nodes p_Edges e1 e2
  by_cases e4 : (isProb p_Labels p_Degree p_Nodes p_Edges) = true
  · rw [if_pos e4] at h
    obtain ⟨r6_, hl6, h⟩ := bindS h
    try dsimp only at h
    simp (maxDischargeDepth := 9) only [↓xpre, xpost, xlst, xcore, yset, rg0, ↓reduceIte, Nat.reduceEqDiff, Nat.reduceLT, Nat.reduceLeDiff, Nat.reduceAdd, Nat.reduceMul, Nat.reduceMod, Nat.reduceSub, Nat.reduceBEq, Int.reduceLE, Int.reduceLT, Int.reduceEq, Int.reduceSub, Int.reduceAdd, Int.reduceToNat, Int.reduceNeg, e1, e2, c3, e4]
    refine wd_mono (i_ZeroPair_l1_wp p_Labels p_Degree p_Nodes p_Edges hl6 ?_) ?_
    · simp (maxDischargeDepth := 9) only [↓xpre, xpost, xlst, xcore, yset, rg0, ↓reduceIte, Nat.reduceEqDiff, Nat.reduceLT, Nat.reduceLeDiff, Nat.reduceAdd, Nat.reduceMul, Nat.reduceMod, Nat.reduceSub, Nat.reduceBEq, Int.reduceLE, Int.reduceLT, Int.reduceEq, Int.reduceSub, Int.reduceAdd, Int.reduceToNat, Int.reduceNeg, e1, e2, c3, e4, i_ZeroPair_l1_M] <;> (repeat' apply And.intro) <;> first | rfl | exact ⟨_, rfl⟩ | simp [lst]
    · intro ex6 s6 hX6
      rcases r6_ with q6_ | q6_
      · unfold i_ZeroPair_l1_X at hX6
        dsimp only at hX6 h
        obtain ⟨rfl, n6_0, n6_1, n6_2⟩ := hX6
        obtain rfl := Option.some.inj h
        simp (maxDischargeDepth := 9) only [↓xpre, xpost, xlst, xcore, yset, rg0, ↓reduceIte, Nat.reduceEqDiff, Nat.reduceLT, Nat.reduceLeDiff, Nat.reduceAdd, Nat.reduceMul, Nat.reduceMod, Nat.reduceSub, Nat.reduceBEq, Int.reduceLE, Int.reduceLT, Int.reduceEq, Int.reduceSub, Int.reduceAdd, Int.reduceToNat, Int.reduceNeg, e1, e2, c3, e4, n6_0, n6_1, n6_2] <;> (repeat' apply And.intro) <;> first | rfl | exact ⟨_, rfl⟩ | simp [lst]
      · unfold i_ZeroPair_l1_X at hX6
        dsimp only at hX6 h
        obtain rfl := hX6
        obtain rfl := Option.some.inj h
        simp (maxDischargeDepth := 9) only [↓xpre, xpost, xlst, xcore, yset, rg0, ↓reduceIte, Nat.reduceEqDiff, Nat.reduceLT, Nat.reduceLeDiff, Nat.reduceAdd, Nat.reduceMul, Nat.reduceMod, Nat.reduceSub, Nat.reduceBEq, Int.reduceLE, Int.reduceLT, Int.reduceEq, Int.reduceSub, Int.reduceAdd, Int.reduceToNat, Int.reduceNeg, e1, e2, c3, e4] <;> (repeat' apply And.intro) <;> first | rfl | exact ⟨_, rfl⟩ | simp [lst]
  · rw [if_neg e4] at h
    have e4f : (isProb p_Labels p_Degree p_Nodes p_Edges) = false := Bool.eq_false_iff.mpr e4
    obtain rfl := Option.some.inj h
    simp (maxDischargeDepth := 9) only [↓xpre, xpost, xlst, xcore, yset, rg0, ↓reduceIte, Nat.reduceEqDiff, Nat.reduceLT, Nat.reduceLeDiff, Nat.reduceAdd, Nat.reduceMul, Nat.reduceMod, Nat.reduceSub, Nat.reduceBEq, Int.reduceLE, Int.reduceLT, Int.reduceEq, Int.reduceSub, Int.reduceAdd, Int.reduceToNat, Int.reduceNeg, e1, e2, c3, e4f] <;> (repeat' apply And.intro) <;> first | rfl | exact ⟨_, rfl⟩ | simp [lst]

noncomputable def s_zePair_l0_S (p_Labels : Int) (p_Degree : Int) (p_Nodes : List (List Int)) (p_Edges : List (List Int)) (t12_ : Int) (t20_ : Int) : Option ((Int) ⊕ (Int ⊕ Unit)) :=
  if t20_ < (p_Nodes.length : Int) then
    ck (0 ≤ t20_ ∧ t20_.toNat < p_Nodes.length) <|
    (s_zePairs p_Labels p_Degree p_Nodes p_Edges (p_Nodes.getD t12_.toNat default) (p_Nodes.getD t20_.toNat default)).bind fun r5_ =>
    if r5_ = true then
      some (Sum.inr (Sum.inl t20_))
    else
      some (Sum.inl (IntKind.i64.wrap (t20_ + 1)))
  else
    some (Sum.inr (Sum.inr ()))
noncomputable def s_zePair_l0 (p_Labels : Int) (p_Degree : Int) (p_Nodes : List (List Int)) (p_Edges : List (List Int)) (t12_ : Int) (v : Int) : Option (Int ⊕ Unit) := itO (fun v => s_zePair_l0_S p_Labels p_Degree p_Nodes p_Edges t12_ v) v
noncomputable def s_zePair_l1_S (p_Labels : Int) (p_Degree : Int) (p_Nodes : List (List Int)) (p_Edges : List (List Int)) (t12_ : Int) : Option ((Int) ⊕ ((Int × Int) ⊕ Unit)) :=
  if t12_ < (p_Nodes.length : Int) then
    ck (0 ≤ t12_ ∧ t12_.toNat < p_Nodes.length) <|
    (s_zePair_l0 p_Labels p_Degree p_Nodes p_Edges t12_ 0).bind fun r4_ =>
    match r4_ with
    | .inl q4_ =>
      some (Sum.inr (Sum.inl (t12_, q4_)))
    | .inr q4_ =>
      some (Sum.inl (IntKind.i64.wrap (t12_ + 1)))
  else
    some (Sum.inr (Sum.inr ()))
noncomputable def s_zePair_l1 (p_Labels : Int) (p_Degree : Int) (p_Nodes : List (List Int)) (p_Edges : List (List Int)) (v : Int) : Option ((Int × Int) ⊕ Unit) := itO (fun v => s_zePair_l1_S p_Labels p_Degree p_Nodes p_Edges v) v
noncomputable def s_zePair (p_Labels : Int) (p_Degree : Int) (p_Nodes : List (List Int)) (p_Edges : List (List Int)) : Option (Int × Int × Bool) :=
  (s_zePair_l1 p_Labels p_Degree p_Nodes p_Edges 0).bind fun r2_ =>
  match r2_ with
  | .inl q2_ =>
    some (q2_.1, q2_.2, true)
  | .inr q2_ =>
    some (0, 0, false)
/-- spec.zePair -/
def k68_l0b : SC :=
  .seq
    (.ops [
      ⟨(some 21), (Op.binOp BinOp.lss 3 (Operand.tmp 20) (Operand.tmp 19) 3), 0, none⟩])
    (.seq
      (.cond (Operand.tmp 21)
        .skip
        (.exit 2))
      (.seq
        (.block 3
          (.seq
            (.ops [
              ⟨(some 22), (Op.move (Operand.tmp 20)), 3, none⟩,
              ⟨(some 23), (Op.indexAddr 22 (Operand.tmp 18) (Operand.tmp 20)), 0, none⟩,
              ⟨(some 24), (Op.load 32 (Operand.tmp 23)), 32, none⟩,
              ⟨(some 7), (Op.assign (Operand.tmp 22)), 3, none⟩,
              ⟨(some 8), (Op.assign (Operand.tmp 24)), 32, none⟩])
            (.seq
              (.ops [
                ⟨(some 25), (Op.load 28 (Operand.tmp 1)), 28, none⟩,
                ⟨(some 26), (Op.move (Operand.tmp 6)), 32, none⟩,
                ⟨(some 27), (Op.move (Operand.tmp 8)), 32, none⟩,
                ⟨(some 28), (Op.call { callee := (Callee.value (Operand.func 90)), args := #[(Operand.tmp 25), (Operand.tmp 26), (Operand.tmp 27)], argTypes := #[28, 32, 32] }), 4, none⟩])
              (.cond (Operand.tmp 28)
                (.seq
                  (.ops [
                    ⟨(some 29), (Op.move (Operand.tmp 5)), 3, none⟩,
                    ⟨(some 30), (Op.move (Operand.tmp 7)), 3, none⟩,
                    ⟨(some 2), (Op.assign (Operand.tmp 29)), 3, none⟩,
                    ⟨(some 3), (Op.assign (Operand.tmp 30)), 3, none⟩,
                    ⟨(some 4), (Op.assign (Operand.const (Value.bool true))), 4, none⟩])
                  .ret)
                .skip))))
        (.ops [
          ⟨(some 31), (Op.binOp BinOp.add 3 (Operand.tmp 20) (Operand.const (Value.int IntKind.i64 1)) 3), 3, none⟩,
          ⟨(some 20), (Op.move (Operand.tmp 31)), 3, none⟩])))
def k68_l0 : SC := .loop k68_l0b
def k68_l1b : SC :=
  .seq
    (.ops [
      ⟨(some 13), (Op.binOp BinOp.lss 3 (Operand.tmp 12) (Operand.tmp 11) 3), 0, none⟩])
    (.seq
      (.cond (Operand.tmp 13)
        .skip
        (.exit 0))
      (.seq
        (.block 1
          (.seq
            (.ops [
              ⟨(some 14), (Op.move (Operand.tmp 12)), 3, none⟩,
              ⟨(some 15), (Op.indexAddr 22 (Operand.tmp 10) (Operand.tmp 12)), 0, none⟩,
              ⟨(some 16), (Op.load 32 (Operand.tmp 15)), 32, none⟩,
              ⟨(some 5), (Op.assign (Operand.tmp 14)), 3, none⟩,
              ⟨(some 6), (Op.assign (Operand.tmp 16)), 32, none⟩])
            (.seq
              (.ops [
                ⟨(some 17), (Op.fieldAddr 28 (Operand.tmp 1) 2), 0, none⟩,
                ⟨(some 18), (Op.load 22 (Operand.tmp 17)), 22, none⟩,
                ⟨(some 19), (Op.call { callee := (Callee.builtin Builtin.len), args := #[(Operand.tmp 18)], argTypes := #[22] }), 3, none⟩,
                ⟨(some 20), (Op.move (Operand.const (Value.int IntKind.i64 0))), 3, none⟩])
              (.block 2
                k68_l0))))
        (.ops [
          ⟨(some 32), (Op.binOp BinOp.add 3 (Operand.tmp 12) (Operand.const (Value.int IntKind.i64 1)) 3), 3, none⟩,
          ⟨(some 12), (Op.move (Operand.tmp 32)), 3, none⟩])))
def k68_l1 : SC := .loop k68_l1b
def k68 : SC :=
  .seq
    (.ops [
      ⟨(some 1), (Op.box 28 (Operand.tmp 0)), 0, none⟩,
      ⟨(some 2), (Op.assign (Operand.const (Value.int IntKind.i64 0))), 3, none⟩,
      ⟨(some 3), (Op.assign (Operand.const (Value.int IntKind.i64 0))), 3, none⟩,
      ⟨(some 4), (Op.assign (Operand.const (Value.bool false))), 4, none⟩])
    (.seq
      (.seq
        (.ops [
          ⟨(some 9), (Op.fieldAddr 28 (Operand.tmp 1) 2), 0, none⟩,
          ⟨(some 10), (Op.load 22 (Operand.tmp 9)), 22, none⟩,
          ⟨(some 11), (Op.call { callee := (Callee.builtin Builtin.len), args := #[(Operand.tmp 10)], argTypes := #[22] }), 3, none⟩,
          ⟨(some 12), (Op.move (Operand.const (Value.int IntKind.i64 0))), 3, none⟩])
        (.block 0
          k68_l1))
      (.seq
        (.ops [
          ⟨(some 2), (Op.assign (Operand.const (Value.int IntKind.i64 0))), 3, none⟩,
          ⟨(some 3), (Op.assign (Operand.const (Value.int IntKind.i64 0))), 3, none⟩,
          ⟨(some 4), (Op.assign (Operand.const (Value.bool false))), 4, none⟩])
        .ret))
theorem slim68 : Try.f68.body.map (slim lends) = some k68 := by kernel_rfl
theorem ok68 : fnOk Try.f68 1 = true := by kernel_rfl
theorem c68 {a l : List D} {r : D × List D} (h : wpD Y.env k68 (fin tys l.length [ResultVar.tmp 2, ResultVar.tmp 3, ResultVar.tmp 4] r) (entry a l)) (ha : a.length = 1) : Y.call 68 a l = some r :=
  call_slim (Y := Y) rfl Try.func68 (ha ▸ ok68) slim68 h
def s_zePair_l0_M (p_Labels : Int) (p_Degree : Int) (p_Nodes : List (List Int)) (p_Edges : List (List Int)) (t12_ : Int) (t20_ : Int) (s : St) : Prop := s.v 1 = D.box [D.int .i64 p_Labels, D.int .i64 p_Degree, D.sl 32 (lst (fun x => D.sl 3 (lst (D.int .i64) x)) p_Nodes), D.sl 32 (lst (fun x => D.sl 3 (lst (D.int .i64) x)) p_Edges)] ∧ s.v 5 = D.int .i64 t12_ ∧ s.v 6 = D.sl 3 (lst (D.int .i64) (p_Nodes.getD t12_.toNat default)) ∧ s.v 10 = D.sl 32 (lst (fun x => D.sl 3 (lst (D.int .i64) x)) p_Nodes) ∧ s.v 11 = D.int .i64 (p_Nodes.length : Int) ∧ s.v 12 = D.int .i64 t12_ ∧ s.v 18 = D.sl 32 (lst (fun x => D.sl 3 (lst (D.int .i64) x)) p_Nodes) ∧ s.v 19 = D.int .i64 (p_Nodes.length : Int) ∧ s.v 20 = D.int .i64 t20_
def s_zePair_l0_X (p_Labels : Int) (p_Degree : Int) (p_Nodes : List (List Int)) (p_Edges : List (List Int)) (t12_ : Int) (r : Int ⊕ Unit) (ex : Ex) (s : St) : Prop := match r with
  | .inl q => ex = .ret ∧ s.v 2 = D.int .i64 t12_ ∧ s.v 3 = D.int .i64 q ∧ s.v 4 = D.bool true
  | .inr q => ex = .exit 2 ∧ s.v 1 = D.box [D.int .i64 p_Labels, D.int .i64 p_Degree, D.sl 32 (lst (fun x => D.sl 3 (lst (D.int .i64) x)) p_Nodes), D.sl 32 (lst (fun x => D.sl 3 (lst (D.int .i64) x)) p_Edges)] ∧ s.v 10 = D.sl 32 (lst (fun x => D.sl 3 (lst (D.int .i64) x)) p_Nodes) ∧ s.v 11 = D.int .i64 (p_Nodes.length : Int) ∧ s.v 12 = D.int .i64 t12_
theorem s_zePair_l0_wp (p_Labels : Int) (p_Degree : Int) (p_Nodes : List (List Int)) (p_Edges : List (List Int)) (t12_ : Int) {v : Int} {s : St} {r : Int ⊕ Unit} (h : s_zePair_l0 p_Labels p_Degree p_Nodes p_Edges t12_ v = some r) (hM : s_zePair_l0_M p_Labels p_Degree p_Nodes p_Edges t12_ v s) : wpD Y.env k68_l0 (s_zePair_l0_X p_Labels p_Degree p_Nodes p_Edges t12_ r) s := by
  unfold s_zePair_l0 at h
  refine wd_itO (c := k68_l0b) (fun v => s_zePair_l0_S p_Labels p_Degree p_Nodes p_Edges t12_ v) (fun v s => s_zePair_l0_M p_Labels p_Degree p_Nodes p_Edges t12_ v s) (s_zePair_l0_X p_Labels p_Degree p_Nodes p_Edges t12_) ?_ h hM
  clear h hM s v r
  intro t20_ s o hM h
  unfold s_zePair_l0_S at h
  unfold s_zePair_l0_M at hM
  obtain ⟨m0, m1, m2, m3, m4, m5, m6, m7, m8⟩ := hM
  unfold k68_l0b
  by_cases e3 : t20_ < (p_Nodes.length : Int)
  · rw [if_pos e3] at h
    obtain ⟨e4, h⟩ := ckS h
    obtain ⟨r5_, hl5, h⟩ := bindS h
    try dsimp only at h
    have c5 := s_zePairs_call p_Labels p_Degree p_Nodes p_Edges (p_Nodes.getD t12_.toNat default) (p_Nodes.getD t20_.toNat default) hl5
    by_cases e6 : r5_ = true
    · rw [if_pos e6] at h
      obtain rfl := Option.some.inj h
      simp (maxDischargeDepth := 9) only [↓xpre, xpost, xlst, xcore, yset, rg0, ↓reduceIte, Nat.reduceEqDiff, Nat.reduceLT, Nat.reduceLeDiff, Nat.reduceAdd, Nat.reduceMul, Nat.reduceMod, Nat.reduceSub, Nat.reduceBEq, Int.reduceLE, Int.reduceLT, Int.reduceEq, Int.reduceSub, Int.reduceAdd, Int.reduceToNat, Int.reduceNeg, m0, m1, m2, m3, m4, m5, m6, m7, m8, e3, e4.1, e4.2, c5, e6, s_zePair_l0_M, s_zePair_l0_X, sxN, sxE, sxR] <;> (repeat' apply And.intro) <;> first | rfl | exact ⟨_, rfl⟩ | simp [lst]
    · rw [if_neg e6] at h
      have e6f : r5_ = false := Bool.eq_false_iff.mpr e6
      obtain rfl := Option.some.inj h
      simp (maxDischargeDepth := 9) only [↓xpre, xpost, xlst, xcore, yset, rg0, ↓reduceIte, Nat.reduceEqDiff, Nat.reduceLT, Nat.reduceLeDiff, Nat.reduceAdd, Nat.reduceMul, Nat.reduceMod, Nat.reduceSub, Nat.reduceBEq, Int.reduceLE, Int.reduceLT, Int.reduceEq, Int.reduceSub, Int.reduceAdd, Int.reduceToNat, Int.reduceNeg, m0, m1, m2, m3, m4, m5, m6, m7, m8, e3, e4.1, e4.2, c5, e6f, s_zePair_l0_M, s_zePair_l0_X, sxN, sxE, sxR] <;> (repeat' apply And.intro) <;> first | rfl | exact ⟨_, rfl⟩ | simp [lst]
  · rw [if_neg e3] at h
    obtain rfl := Option.some.inj h
    simp (maxDischargeDepth := 9) only [↓xpre, xpost, xlst, xcore, yset, rg0, ↓reduceIte, Nat.reduceEqDiff, Nat.reduceLT, Nat.reduceLeDiff, Nat.reduceAdd, Nat.reduceMul, Nat.reduceMod, Nat.reduceSub, Nat.reduceBEq, Int.reduceLE, Int.reduceLT, Int.reduceEq, Int.reduceSub, Int.reduceAdd, Int.reduceToNat, Int.reduceNeg, m0, m1, m2, m3, m4, m5, m6, m7, m8, e3, s_zePair_l0_M, s_zePair_l0_X, sxN, sxE, sxR] <;> (repeat' apply And.intro) <;> first | rfl | exact ⟨_, rfl⟩ | simp [lst]
def s_zePair_l1_M (p_Labels : Int) (p_Degree : Int) (p_Nodes : List (List Int)) (p_Edges : List (List Int)) (t12_ : Int) (s : St) : Prop := s.v 1 = D.box [D.int .i64 p_Labels, D.int .i64 p_Degree, D.sl 32 (lst (fun x => D.sl 3 (lst (D.int .i64) x)) p_Nodes), D.sl 32 (lst (fun x => D.sl 3 (lst (D.int .i64) x)) p_Edges)] ∧ s.v 10 = D.sl 32 (lst (fun x => D.sl 3 (lst (D.int .i64) x)) p_Nodes) ∧ s.v 11 = D.int .i64 (p_Nodes.length : Int) ∧ s.v 12 = D.int .i64 t12_
def s_zePair_l1_X (p_Labels : Int) (p_Degree : Int) (p_Nodes : List (List Int)) (p_Edges : List (List Int)) (r : (Int × Int) ⊕ Unit) (ex : Ex) (s : St) : Prop := match r with
  | .inl q => ex = .ret ∧ s.v 2 = D.int .i64 q.1 ∧ s.v 3 = D.int .i64 q.2 ∧ s.v 4 = D.bool true
  | .inr q => ex = .exit 0
theorem s_zePair_l1_wp (p_Labels : Int) (p_Degree : Int) (p_Nodes : List (List Int)) (p_Edges : List (List Int)) {v : Int} {s : St} {r : (Int × Int) ⊕ Unit} (h : s_zePair_l1 p_Labels p_Degree p_Nodes p_Edges v = some r) (hM : s_zePair_l1_M p_Labels p_Degree p_Nodes p_Edges v s) : wpD Y.env k68_l1 (s_zePair_l1_X p_Labels p_Degree p_Nodes p_Edges r) s := by
  unfold s_zePair_l1 at h
  refine wd_itO (c := k68_l1b) (fun v => s_zePair_l1_S p_Labels p_Degree p_Nodes p_Edges v) (fun v s => s_zePair_l1_M p_Labels p_Degree p_Nodes p_Edges v s) (s_zePair_l1_X p_Labels p_Degree p_Nodes p_Edges) ?_ h hM
  clear h hM s v r
  intro t12_ s o hM h
  unfold s_zePair_l1_S at h
  unfold s_zePair_l1_M at hM
  obtain ⟨m0, m1, m2, m3⟩ := hM
  unfold k68_l1b
  by_cases e1 : t12_ < (p_Nodes.length : Int)
  · rw [if_pos e1] at h
    obtain ⟨e2, h⟩ := ckS h
    obtain ⟨r4_, hl4, h⟩ := bindS h
    try dsimp only at h
    simp (maxDischargeDepth := 9) only [↓xpre, xpost, xlst, xcore, yset, rg0, ↓reduceIte, Nat.reduceEqDiff, Nat.reduceLT, Nat.reduceLeDiff, Nat.reduceAdd, Nat.reduceMul, Nat.reduceMod, Nat.reduceSub, Nat.reduceBEq, Int.reduceLE, Int.reduceLT, Int.reduceEq, Int.reduceSub, Int.reduceAdd, Int.reduceToNat, Int.reduceNeg, m0, m1, m2, m3, e1, e2.1, e2.2]
    refine wd_mono (s_zePair_l0_wp p_Labels p_Degree p_Nodes p_Edges t12_ hl4 ?_) ?_
    · simp (maxDischargeDepth := 9) only [↓xpre, xpost, xlst, xcore, yset, rg0, ↓reduceIte, Nat.reduceEqDiff, Nat.reduceLT, Nat.reduceLeDiff, Nat.reduceAdd, Nat.reduceMul, Nat.reduceMod, Nat.reduceSub, Nat.reduceBEq, Int.reduceLE, Int.reduceLT, Int.reduceEq, Int.reduceSub, Int.reduceAdd, Int.reduceToNat, Int.reduceNeg, m0, m1, m2, m3, e1, e2.1, e2.2, s_zePair_l0_M] <;> (repeat' apply And.intro) <;> first | rfl | exact ⟨_, rfl⟩ | simp [lst]
    · intro ex4 s4 hX4
      rcases r4_ with q4_ | q4_
      · unfold s_zePair_l0_X at hX4
        dsimp only at hX4 h
        obtain ⟨rfl, n4_0, n4_1, n4_2⟩ := hX4
        obtain rfl := Option.some.inj h
        simp (maxDischargeDepth := 9) only [↓xpre, xpost, xlst, xcore, yset, rg0, ↓reduceIte, Nat.reduceEqDiff, Nat.reduceLT, Nat.reduceLeDiff, Nat.reduceAdd, Nat.reduceMul, Nat.reduceMod, Nat.reduceSub, Nat.reduceBEq, Int.reduceLE, Int.reduceLT, Int.reduceEq, Int.reduceSub, Int.reduceAdd, Int.reduceToNat, Int.reduceNeg, e1, e2.1, e2.2, n4_0, n4_1, n4_2, s_zePair_l1_M, s_zePair_l1_X, sxN, sxE, sxR] <;> (repeat' apply And.intro) <;> first | rfl | exact ⟨_, rfl⟩ | simp [lst]
      · unfold s_zePair_l0_X at hX4
        dsimp only at hX4 h
        obtain ⟨rfl, n4_0, n4_1, n4_2, n4_3⟩ := hX4
        obtain rfl := Option.some.inj h
        simp (maxDischargeDepth := 9) only [↓xpre, xpost, xlst, xcore, yset, rg0, ↓reduceIte, Nat.reduceEqDiff, Nat.reduceLT, Nat.reduceLeDiff, Nat.reduceAdd, Nat.reduceMul, Nat.reduceMod, Nat.reduceSub, Nat.reduceBEq, Int.reduceLE, Int.reduceLT, Int.reduceEq, Int.reduceSub, Int.reduceAdd, Int.reduceToNat, Int.reduceNeg, e1, e2.1, e2.2, n4_0, n4_1, n4_2, n4_3, s_zePair_l1_M, s_zePair_l1_X, sxN, sxE, sxR] <;> (repeat' apply And.intro) <;> first | rfl | exact ⟨_, rfl⟩ | simp [lst]
  · rw [if_neg e1] at h
    obtain rfl := Option.some.inj h
    simp (maxDischargeDepth := 9) only [↓xpre, xpost, xlst, xcore, yset, rg0, ↓reduceIte, Nat.reduceEqDiff, Nat.reduceLT, Nat.reduceLeDiff, Nat.reduceAdd, Nat.reduceMul, Nat.reduceMod, Nat.reduceSub, Nat.reduceBEq, Int.reduceLE, Int.reduceLT, Int.reduceEq, Int.reduceSub, Int.reduceAdd, Int.reduceToNat, Int.reduceNeg, m0, m1, m2, m3, e1, s_zePair_l1_M, s_zePair_l1_X, sxN, sxE, sxR] <;> (repeat' apply And.intro) <;> first | rfl | exact ⟨_, rfl⟩ | simp [lst]
theorem s_zePair_call (p_Labels : Int) (p_Degree : Int) (p_Nodes : List (List Int)) (p_Edges : List (List Int)) {r : Int × Int × Bool} (h : s_zePair p_Labels p_Degree p_Nodes p_Edges = some r) : Y.call 68 [D.agg [D.int .i64 p_Labels, D.int .i64 p_Degree, D.sl 32 (lst (fun x => D.sl 3 (lst (D.int .i64) x)) p_Nodes), D.sl 32 (lst (fun x => D.sl 3 (lst (D.int .i64) x)) p_Edges)]] [] = some (D.tup [D.int .i64 r.1, D.int .i64 r.2.1, D.bool r.2.2], []) := by
  refine c68 ?_ rfl
  unfold k68
  unfold s_zePair at h
  obtain ⟨r2_, hl2, h⟩ := bindS h
  try dsimp only at h
  simp (maxDischargeDepth := 9) only [↓xpre, xpost, xlst, xcore, yset, rg0, ↓reduceIte, Nat.reduceEqDiff, Nat.reduceLT, Nat.reduceLeDiff, Nat.reduceAdd, Nat.reduceMul, Nat.reduceMod, Nat.reduceSub, Nat.reduceBEq, Int.reduceLE, Int.reduceLT, Int.reduceEq, Int.reduceSub, Int.reduceAdd, Int.reduceToNat, Int.reduceNeg]
  refine wd_mono (s_zePair_l1_wp p_Labels p_Degree p_Nodes p_Edges hl2 ?_) ?_
  · simp (maxDischargeDepth := 9) only [↓xpre, xpost, xlst, xcore, yset, rg0, ↓reduceIte, Nat.reduceEqDiff, Nat.reduceLT, Nat.reduceLeDiff, Nat.reduceAdd, Nat.reduceMul, Nat.reduceMod, Nat.reduceSub, Nat.reduceBEq, Int.reduceLE, Int.reduceLT, Int.reduceEq, Int.reduceSub, Int.reduceAdd, Int.reduceToNat, Int.reduceNeg, s_zePair_l1_M] <;> (repeat' apply And.intro) <;> first | rfl | exact ⟨_, rfl⟩ | simp [lst]
  · intro ex2 s2 hX2
    rcases r2_ with q2_ | q2_
    · unfold s_zePair_l1_X at hX2
      dsimp only at hX2 h
      obtain ⟨rfl, n2_0, n2_1, n2_2⟩ := hX2
      obtain rfl := Option.some.inj h
      simp (maxDischargeDepth := 9) only [↓xpre, xpost, xlst, xcore, yset, rg0, ↓reduceIte, Nat.reduceEqDiff, Nat.reduceLT, Nat.reduceLeDiff, Nat.reduceAdd, Nat.reduceMul, Nat.reduceMod, Nat.reduceSub, Nat.reduceBEq, Int.reduceLE, Int.reduceLT, Int.reduceEq, Int.reduceSub, Int.reduceAdd, Int.reduceToNat, Int.reduceNeg, n2_0, n2_1, n2_2] <;> (repeat' apply And.intro) <;> first | rfl | exact ⟨_, rfl⟩ | simp [lst]
    · unfold s_zePair_l1_X at hX2
      dsimp only at hX2 h
      obtain rfl := hX2
      obtain rfl := Option.some.inj h
      simp (maxDischargeDepth := 9) only [↓xpre, xpost, xlst, xcore, yset, rg0, ↓reduceIte, Nat.reduceEqDiff, Nat.reduceLT, Nat.reduceLeDiff, Nat.reduceAdd, Nat.reduceMul, Nat.reduceMod, Nat.reduceSub, Nat.reduceBEq, Int.reduceLE, Int.reduceLT, Int.reduceEq, Int.reduceSub, Int.reduceAdd, Int.reduceToNat, Int.reduceNeg] <;> (repeat' apply And.intro) <;> first | rfl | exact ⟨_, rfl⟩ | simp [lst]

noncomputable def s_ZeroPair (p_Labels : Int) (p_Degree : Int) (p_Nodes : List (List Int)) (p_Edges : List (List Int)) : Option ((List Int) × (List Int) × Bool) :=
  ck (Short p_Nodes) <|
  ck (Short p_Edges) <|
  if (isProb p_Labels p_Degree p_Nodes p_Edges) = true then
    (s_zePair p_Labels p_Degree p_Nodes p_Edges).bind fun r5_ =>
    if r5_.2.2 = true then
      ck (0 ≤ r5_.1 ∧ r5_.1.toNat < p_Nodes.length) <|
      (s_l1Own (p_Nodes.getD r5_.1.toNat default)).bind fun r8_ =>
      ck (0 ≤ r5_.2.1 ∧ r5_.2.1.toNat < p_Nodes.length) <|
      (s_l1Own (p_Nodes.getD r5_.2.1.toNat default)).bind fun r10_ =>
      some (r8_, r10_, true)
    else
      some ([], [], false)
  else
    some ([], [], false)
/-- spec.ZeroPair -/
def k38 : SC :=
  .seq
    (.ops [
      ⟨(some 1), (Op.box 28 (Operand.tmp 0)), 0, none⟩,
      ⟨(some 2), (Op.assign (Operand.const (Value.slice none 0 0))), 32, none⟩,
      ⟨(some 3), (Op.assign (Operand.const (Value.slice none 0 0))), 32, none⟩,
      ⟨(some 4), (Op.assign (Operand.const (Value.bool false))), 4, none⟩])
    (.seq
      (.seq
        (.ops [
          ⟨(some 8), (Op.load 28 (Operand.tmp 1)), 28, none⟩,
          ⟨(some 9), (Op.call { callee := (Callee.value (Operand.func 56)), args := #[(Operand.tmp 8)], argTypes := #[28] }), 4, none⟩,
          ⟨(some 10), (Op.unOp UnOp.not 4 (Operand.tmp 9)), 4, none⟩])
        (.cond (Operand.tmp 10)
          (.seq
            (.ops [
              ⟨(some 2), (Op.assign (Operand.const (Value.slice none 0 0))), 32, none⟩,
              ⟨(some 3), (Op.assign (Operand.const (Value.slice none 0 0))), 32, none⟩,
              ⟨(some 4), (Op.assign (Operand.const (Value.bool false))), 4, none⟩])
            .ret)
          .skip))
      (.seq
        (.ops [
          ⟨(some 12), (Op.load 28 (Operand.tmp 1)), 28, none⟩,
          ⟨(some 13), (Op.call { callee := (Callee.value (Operand.func 68)), args := #[(Operand.tmp 12)], argTypes := #[28] }), 58, none⟩,
          ⟨(some 11), (Op.move (Operand.tmp 13)), 58, none⟩,
          ⟨(some 14), (Op.extract (Operand.tmp 11) 0), 3, none⟩,
          ⟨(some 15), (Op.extract (Operand.tmp 11) 1), 3, none⟩,
          ⟨(some 16), (Op.extract (Operand.tmp 11) 2), 4, none⟩,
          ⟨(some 5), (Op.assign (Operand.tmp 14)), 3, none⟩,
          ⟨(some 6), (Op.assign (Operand.tmp 15)), 3, none⟩,
          ⟨(some 7), (Op.assign (Operand.tmp 16)), 4, none⟩])
        (.seq
          (.seq
            (.ops [
              ⟨(some 17), (Op.move (Operand.tmp 7)), 4, none⟩,
              ⟨(some 18), (Op.unOp UnOp.not 4 (Operand.tmp 17)), 4, none⟩])
            (.cond (Operand.tmp 18)
              (.seq
                (.ops [
                  ⟨(some 2), (Op.assign (Operand.const (Value.slice none 0 0))), 32, none⟩,
                  ⟨(some 3), (Op.assign (Operand.const (Value.slice none 0 0))), 32, none⟩,
                  ⟨(some 4), (Op.assign (Operand.const (Value.bool false))), 4, none⟩])
                .ret)
              .skip))
          (.seq
            (.draws [
              (⟨[19, 1, 1], [19, 20, 21, 22, 23, 24, 25, 26, 27, 28, 29, 30, 2, 24, 24, 3, 30, 30, 4], [19]⟩, ⟨(some 19), (Op.fieldAddr 28 (Operand.tmp 1) 2), 0, none⟩),
              (⟨[20, 19, 1], [19, 20, 21, 22, 23, 24, 25, 26, 27, 28, 29, 30, 2, 24, 24, 3, 30, 30, 4], [20]⟩, ⟨(some 20), (Op.load 22 (Operand.tmp 19)), 22, none⟩),
              (⟨[21, 5, 5], [19, 20, 21, 22, 23, 24, 25, 26, 27, 28, 29, 30, 2, 24, 24, 3, 30, 30, 4], [21]⟩, ⟨(some 21), (Op.move (Operand.tmp 5)), 3, none⟩),
              (⟨[22, 20, 21, 1, 5], [19, 20, 21, 22, 23, 24, 25, 26, 27, 28, 29, 30, 2, 24, 24, 3, 30, 30, 4], [22]⟩, ⟨(some 22), (Op.indexAddr 22 (Operand.tmp 20) (Operand.tmp 21)), 0, none⟩),
              (⟨[23, 22, 1], [19, 20, 21, 22, 23, 24, 25, 26, 27, 28, 29, 30, 2, 24, 24, 3, 30, 30, 4], [23]⟩, ⟨(some 23), (Op.load 32 (Operand.tmp 22)), 32, none⟩),
              (⟨[24, 23, 1], [19, 20, 21, 22, 23, 24, 25, 26, 27, 28, 29, 30, 2, 24, 24, 3, 30, 30, 4], [24]⟩, ⟨(some 24), (Op.call { callee := (Callee.value (Operand.func 69)), args := #[(Operand.tmp 23)], argTypes := #[32] }), 32, none⟩),
              (⟨[25, 1, 1], [19, 20, 21, 22, 23, 24, 25, 26, 27, 28, 29, 30, 2, 24, 24, 3, 30, 30, 4], [25]⟩, ⟨(some 25), (Op.fieldAddr 28 (Operand.tmp 1) 2), 0, none⟩),
              (⟨[26, 25, 1], [19, 20, 21, 22, 23, 24, 25, 26, 27, 28, 29, 30, 2, 24, 24, 3, 30, 30, 4], [26]⟩, ⟨(some 26), (Op.load 22 (Operand.tmp 25)), 22, none⟩),
              (⟨[27, 6, 6], [19, 20, 21, 22, 23, 24, 25, 26, 27, 28, 29, 30, 2, 24, 24, 3, 30, 30, 4], [27]⟩, ⟨(some 27), (Op.move (Operand.tmp 6)), 3, none⟩),
              (⟨[28, 26, 27, 1, 6], [19, 20, 21, 22, 23, 24, 25, 26, 27, 28, 29, 30, 2, 24, 24, 3, 30, 30, 4], [28]⟩, ⟨(some 28), (Op.indexAddr 22 (Operand.tmp 26) (Operand.tmp 27)), 0, none⟩),
              (⟨[29, 28, 1], [19, 20, 21, 22, 23, 24, 25, 26, 27, 28, 29, 30, 2, 24, 24, 3, 30, 30, 4], [29]⟩, ⟨(some 29), (Op.load 32 (Operand.tmp 28)), 32, none⟩),
              (⟨[30, 29, 1], [19, 20, 21, 22, 23, 24, 25, 26, 27, 28, 29, 30, 2, 24, 24, 3, 30, 30, 4], [30]⟩, ⟨(some 30), (Op.call { callee := (Callee.value (Operand.func 69)), args := #[(Operand.tmp 29)], argTypes := #[32] }), 32, none⟩),
              (⟨[2, 24, 24], [19, 20, 21, 22, 23, 24, 25, 26, 27, 28, 29, 30, 2, 24, 24, 3, 30, 30, 4], [2, 24, 24]⟩, ⟨(some 2), (Op.assign (Operand.tmp 24)), 32, none⟩),
              (⟨[3, 30, 30], [19, 20, 21, 22, 23, 24, 25, 26, 27, 28, 29, 30, 2, 24, 24, 3, 30, 30, 4], [3, 30, 30]⟩, ⟨(some 3), (Op.assign (Operand.tmp 30)), 32, none⟩),
              (⟨[4], [19, 20, 21, 22, 23, 24, 25, 26, 27, 28, 29, 30, 2, 24, 24, 3, 30, 30, 4], [4]⟩, ⟨(some 4), (Op.assign (Operand.const (Value.bool true))), 4, none⟩)])
            .ret))))
theorem slim38 : Try.f38.body.map (slim lends) = some k38 := by kernel_rfl
theorem ok38 : fnOk Try.f38 1 = true := by kernel_rfl
theorem c38 {a l : List D} {r : D × List D} (h : wpD Y.env k38 (fin tys l.length [ResultVar.tmp 2, ResultVar.tmp 3, ResultVar.tmp 4] r) (entry a l)) (ha : a.length = 1) : Y.call 38 a l = some r :=
  call_slim (Y := Y) rfl Try.func38 (ha ▸ ok38) slim38 h
theorem s_ZeroPair_call (p_Labels : Int) (p_Degree : Int) (p_Nodes : List (List Int)) (p_Edges : List (List Int)) {r : (List Int) × (List Int) × Bool} (h : s_ZeroPair p_Labels p_Degree p_Nodes p_Edges = some r) : Y.call 38 [D.agg [D.int .i64 p_Labels, D.int .i64 p_Degree, D.sl 32 (lst (fun x => D.sl 3 (lst (D.int .i64) x)) p_Nodes), D.sl 32 (lst (fun x => D.sl 3 (lst (D.int .i64) x)) p_Edges)]] [] = some (D.tup [D.own 3 (lst (D.int .i64) r.1), D.own 3 (lst (D.int .i64) r.2.1), D.bool r.2.2], []) := by
  refine c38 ?_ rfl
  unfold k38
  unfold s_ZeroPair at h
  obtain ⟨e1, h⟩ := ckS h
  obtain ⟨e2, h⟩ := ckS h
  have c3 := s_prGood_cl p_Labels p_Degree p_Nodes p_Edges e1 e2
  by_cases e4 : (isProb p_Labels p_Degree p_Nodes p_Edges) = true
  · rw [if_pos e4] at h
    obtain ⟨r5_, hl5, h⟩ := bindS h
    try dsimp only at h
    have c5 := s_zePair_call p_Labels p_Degree p_Nodes p_Edges hl5
    by_cases e6 : r5_.2.2 = true
    · rw [if_pos e6] at h
      obtain ⟨e7, h⟩ := ckS h
      obtain ⟨r8_, hl8, h⟩ := bindS h
      try dsimp only at h
      have c8 := s_l1Own_call (p_Nodes.getD r5_.1.toNat default) hl8
      obtain ⟨e9, h⟩ := ckS h
      obtain ⟨r10_, hl10, h⟩ := bindS h
      try dsimp only at h
      have c10 := s_l1Own_call (p_Nodes.getD r5_.2.1.toNat default) hl10
      obtain rfl := Option.some.inj h
      simp (maxDischargeDepth := 9) only [↓xpre, xpost, xlst, xcore, yset, rg0, ↓reduceIte, Nat.reduceEqDiff, Nat.reduceLT, Nat.reduceLeDiff, Nat.reduceAdd, Nat.reduceMul, Nat.reduceMod, Nat.reduceSub, Nat.reduceBEq, Int.reduceLE, Int.reduceLT, Int.reduceEq, Int.reduceSub, Int.reduceAdd, Int.reduceToNat, Int.reduceNeg, e1, e2, c3, e4, c5, e6, e7.1, e7.2, c8, e9.1, e9.2, c10] <;> (repeat' apply And.intro) <;> first | rfl | exact ⟨_, rfl⟩ | simp [lst]
    · rw [if_neg e6] at h
      have e6f : r5_.2.2 = false := Bool.eq_false_iff.mpr e6
      obtain rfl := Option.some.inj h
      simp (maxDischargeDepth := 9) only [↓xpre, xpost, xlst, xcore, yset, rg0, ↓reduceIte, Nat.reduceEqDiff, Nat.reduceLT, Nat.reduceLeDiff, Nat.reduceAdd, Nat.reduceMul, Nat.reduceMod, Nat.reduceSub, Nat.reduceBEq, Int.reduceLE, Int.reduceLT, Int.reduceEq, Int.reduceSub, Int.reduceAdd, Int.reduceToNat, Int.reduceNeg, e1, e2, c3, e4, c5, e6f] <;> (repeat' apply And.intro) <;> first | rfl | exact ⟨_, rfl⟩ | simp [lst]
  · rw [if_neg e4] at h
    have e4f : (isProb p_Labels p_Degree p_Nodes p_Edges) = false := Bool.eq_false_iff.mpr e4
    obtain rfl := Option.some.inj h
    simp (maxDischargeDepth := 9) only [↓xpre, xpost, xlst, xcore, yset, rg0, ↓reduceIte, Nat.reduceEqDiff, Nat.reduceLT, Nat.reduceLeDiff, Nat.reduceAdd, Nat.reduceMul, Nat.reduceMod, Nat.reduceSub, Nat.reduceBEq, Int.reduceLE, Int.reduceLT, Int.reduceEq, Int.reduceSub, Int.reduceAdd, Int.reduceToNat, Int.reduceNeg, e1, e2, c3, e4f] <;> (repeat' apply And.intro) <;> first | rfl | exact ⟨_, rfl⟩ | simp [lst]

theorem s_zePair_eq (l d : Int) (ns es : List (List Int)) (hn : Short ns) (he : Short es) :
    s_zePair l d ns es = some (match first2 ns.length ns.length (goodAt ns es) with | some q => ((q.1 : Int), (q.2 : Int), true) | none => (0, 0, false)) := by
  have hl := hn.1
  have inner : ∀ i : Nat, i < ns.length → s_zePair_l0 l d ns es (i : Int) 0 = some (match firstIx ns.length (goodAt ns es i) with | some j => .inl (j : Int) | none => .inr ()) := by
    intro i hi
    unfold s_zePair_l0
    refine itO_find (fun v => s_zePair_l0_S l d ns es (i : Int) v) (fun j => (j : Int)) ns.length (goodAt ns es i) (fun j => .inl (j : Int)) (.inr ()) ?_ ?_
    · intro j hj
      simp only [s_zePair_l0_S, s_zePairs]
      rw [show goodAt ns es i j = (badOf es (ns.getD i default) (ns.getD j default)).isNone from rfl]
      rw [if_pos (lt_nat hj), ckT (ix_nat hj), Int.toNat_natCast, Int.toNat_natCast, s_zeBad_eq l d ns es _ _ he (hn.getD i) (hn.getD j), Option.bind_some, Option.bind_some, wrS j (by omega)]
      cases badOf es (ns.getD i default) (ns.getD j default) <;> simp
    · simp only [s_zePair_l0_S]
      rw [if_neg (not_lt_nat _)]
  have outer : s_zePair_l1 l d ns es 0 = some (match firstIx ns.length (fun i => (firstIx ns.length (goodAt ns es i)).isSome) with | some i => .inl ((i : Int), (((firstIx ns.length (goodAt ns es i)).getD 0 : Nat) : Int)) | none => .inr ()) := by
    unfold s_zePair_l1
    refine itO_find (fun v => s_zePair_l1_S l d ns es v) (fun j => (j : Int)) ns.length (fun i => (firstIx ns.length (goodAt ns es i)).isSome) (fun i => .inl ((i : Int), (((firstIx ns.length (goodAt ns es i)).getD 0 : Nat) : Int))) (.inr ()) ?_ ?_
    · intro i hi
      simp only [s_zePair_l1_S]
      rw [if_pos (lt_nat hi), ckT (ix_nat hi), inner i hi, Option.bind_some, wrS i (by omega)]
      cases firstIx ns.length (goodAt ns es i) <;> simp
    · simp only [s_zePair_l1_S]
      rw [if_neg (not_lt_nat _)]
  unfold s_zePair first2
  rw [outer, Option.bind_some]
  cases firstIx ns.length (fun i => (firstIx ns.length (goodAt ns es i)).isSome) <;> rfl
theorem i_ZeroPair_l1_eq (l d : Int) (ns es : List (List Int)) (hn : Short ns) (he : Short es) (hi : incL es = true) :
    i_ZeroPair_l1 l d ns es 0 = some (match first2 ns.length ns.length (goodAt ns es) with | some q => .inl (ns.getD q.1 default, ns.getD q.2 default) | none => .inr ()) := by
  have hl := hn.1
  have inner : ∀ i : Nat, i < ns.length → i_ZeroPair_l0 l d ns es (i : Int) 0 = some (match firstIx ns.length (goodAt ns es i) with | some j => .inl (ns.getD j default) | none => .inr ()) := by
    intro i hi'
    unfold i_ZeroPair_l0
    refine itO_find (fun v => i_ZeroPair_l0_S l d ns es (i : Int) v) (fun j => (j : Int)) ns.length (goodAt ns es i) (fun j => .inl (ns.getD j default)) (.inr ()) ?_ ?_
    · intro j hj
      simp only [i_ZeroPair_l0_S, i_isGoodPair]
      rw [show goodAt ns es i j = (badOf es (ns.getD i default) (ns.getD j default)).isNone from rfl]
      rw [if_pos (lt_nat hj), ckT (ix_nat hj), Int.toNat_natCast, Int.toNat_natCast, i_badPair_eq l d ns es _ _ he hi (hn.getD i) (hn.getD j), Option.bind_some, Option.bind_some, ckT (hn.getD i), ckT (hn.getD j), wrS j (by omega)]
      cases badOf es (ns.getD i default) (ns.getD j default) <;> simp
    · simp only [i_ZeroPair_l0_S]
      rw [if_neg (not_lt_nat _)]
  have outer : i_ZeroPair_l1 l d ns es 0 = some (match firstIx ns.length (fun i => (firstIx ns.length (goodAt ns es i)).isSome) with | some i => .inl (ns.getD i default, ns.getD ((firstIx ns.length (goodAt ns es i)).getD 0) default) | none => .inr ()) := by
    unfold i_ZeroPair_l1
    refine itO_find (fun v => i_ZeroPair_l1_S l d ns es v) (fun j => (j : Int)) ns.length (fun i => (firstIx ns.length (goodAt ns es i)).isSome) (fun i => .inl (ns.getD i default, ns.getD ((firstIx ns.length (goodAt ns es i)).getD 0) default)) (.inr ()) ?_ ?_
    · intro i hi'
      simp only [i_ZeroPair_l1_S]
      rw [if_pos (lt_nat hi'), ckT (ix_nat hi'), inner i hi', Option.bind_some, wrS i (by omega), Int.toNat_natCast]
      cases firstIx ns.length (goodAt ns es i) <;> simp
    · simp only [i_ZeroPair_l1_S]
      rw [if_neg (not_lt_nat _)]
  unfold first2
  rw [outer]
  cases firstIx ns.length (fun i => (firstIx ns.length (goodAt ns es i)).isSome) <;> rfl
theorem pair_both (a d : Int) (ns es : List (List Int)) (hn : Short ns) (he : Short es) : ∃ r q ok, s_ZeroPair a d ns es = some (r, q, ok) ∧ i_ZeroPair a d ns es = some (r, q, ok) ∧ r.length ≤ 4 ∧ q.length ≤ 4 := by
  unfold s_ZeroPair i_ZeroPair
  rw [ckT hn, ckT he, ckT hn, ckT he]
  by_cases h : isProb a d ns es = true
  · rw [if_pos h, if_pos h]
    obtain ⟨_, hd, c1, c2⟩ := isProb_cut h
    have hi := confs_inc c2
    rw [s_zePair_eq a d ns es hn he, i_ZeroPair_l1_eq a d ns es hn he hi, Option.bind_some, Option.bind_some]
    have len : ∀ i, i < ns.length → (ns.getD i default).length ≤ 4 := fun i hi => by
      have := (confs_at c1 (mem_getD.2 ⟨i, hi, rfl⟩)).1
      omega
    cases hq : first2 ns.length ns.length (goodAt ns es) with
    | none => exact ⟨_, _, _, rfl, rfl, by simp, by simp⟩
    | some q =>
      obtain ⟨q1, q2⟩ := first2_lt hq
      have l1 := hn.getD q.1
      have l2 := hn.getD q.2
      refine ⟨ns.getD q.1 default, ns.getD q.2 default, true, ?_, rfl, len _ q1, len _ q2⟩
      simp only [s_l1Own, if_true, Int.toNat_natCast]
      rw [ckT (by omega), ckT (by omega), Option.bind_some, ckT (by omega), ckT (by omega), Option.bind_some]
  · rw [if_neg h, if_neg h]
    exact ⟨_, _, _, rfl, rfl, by simp, by simp⟩
noncomputable def l_FnExactZeroPair (t0_Labels : Int) (t0_Degree : Int) (t0_Nodes : List (List Int)) (t0_Edges : List (List Int)) : Option (Bool) :=
  ck (Wide t0_Nodes) <|
  ck (Wide t0_Edges) <|
  ck (0 ≤ (1048576 : Int) ∧ (1048576 : Int) ≤ 1048576) <|
  if (szP (1048576 : Int) t0_Nodes t0_Edges) < 0 then
    some true
  else
    ck (Short t0_Nodes) <|
    ck (Short t0_Edges) <|
    (s_ZeroPair t0_Labels t0_Degree t0_Nodes t0_Edges).bind fun r9_ =>
    (i_ZeroPair t0_Labels t0_Degree t0_Nodes t0_Edges).bind fun r11_ =>
    ck (r11_.1.length < 1099511627776) <|
    if (decide (r11_.1 = r9_.1)) = true then
      ck (r11_.2.1.length < 1099511627776) <|
      if (decide (r11_.2.1 = r9_.2.1)) = true then
        if r11_.2.2 = true then
          if r9_.2.2 = true then
            if (sameP t0_Labels t0_Degree t0_Nodes t0_Edges t0_Labels t0_Degree t0_Nodes t0_Edges) = true then
              ck (0 ≤ (1 : Int) ∧ (1 : Int) + tot t0_Nodes + tot t0_Edges < 1099511627776) <|
              if ((1 : Int) + tot t0_Nodes + tot t0_Edges) < 0 then
                some false
              else
                ck (0 ≤ (1 : Int) ∧ (1 : Int) < 1099511627776) <|
                ck (0 ≤ ((1 : Int) + r11_.1.length) ∧ ((1 : Int) + r11_.1.length) < 1099511627776) <|
                ck ((upto (1 : Int) r11_.1.length).length < 1099511627776) <|
                ck (0 ≤ (1 : Int) ∧ (1 : Int) + (upto (1 : Int) r11_.1.length).length < 1099511627776) <|
                if (held (1 : Int) (upto (1 : Int) r11_.1.length)) < 0 then
                  some false
                else
                  ck ((upto ((1 : Int) + r11_.1.length) r11_.2.1.length).length < 1099511627776) <|
                  ck (0 ≤ (held (1 : Int) (upto (1 : Int) r11_.1.length)) ∧ (held (1 : Int) (upto (1 : Int) r11_.1.length)) + (upto ((1 : Int) + r11_.1.length) r11_.2.1.length).length < 1099511627776) <|
                  if (held (held (1 : Int) (upto (1 : Int) r11_.1.length)) (upto ((1 : Int) + r11_.1.length) r11_.2.1.length)) < 0 then
                    some false
                  else
                    if (held (held (1 : Int) (upto (1 : Int) r11_.1.length)) (upto ((1 : Int) + r11_.1.length) r11_.2.1.length)) = (((1 : Int) + r11_.1.length) + r11_.2.1.length) then
                      some true
                    else
                      some false
            else
              some false
          else
            some false
        else
          if r9_.2.2 = true then
            some false
          else
            if (sameP t0_Labels t0_Degree t0_Nodes t0_Edges t0_Labels t0_Degree t0_Nodes t0_Edges) = true then
              ck (0 ≤ (1 : Int) ∧ (1 : Int) + tot t0_Nodes + tot t0_Edges < 1099511627776) <|
              if ((1 : Int) + tot t0_Nodes + tot t0_Edges) < 0 then
                some false
              else
                ck (0 ≤ (1 : Int) ∧ (1 : Int) < 1099511627776) <|
                ck (0 ≤ ((1 : Int) + r11_.1.length) ∧ ((1 : Int) + r11_.1.length) < 1099511627776) <|
                ck ((upto (1 : Int) r11_.1.length).length < 1099511627776) <|
                ck (0 ≤ (1 : Int) ∧ (1 : Int) + (upto (1 : Int) r11_.1.length).length < 1099511627776) <|
                if (held (1 : Int) (upto (1 : Int) r11_.1.length)) < 0 then
                  some false
                else
                  ck ((upto ((1 : Int) + r11_.1.length) r11_.2.1.length).length < 1099511627776) <|
                  ck (0 ≤ (held (1 : Int) (upto (1 : Int) r11_.1.length)) ∧ (held (1 : Int) (upto (1 : Int) r11_.1.length)) + (upto ((1 : Int) + r11_.1.length) r11_.2.1.length).length < 1099511627776) <|
                  if (held (held (1 : Int) (upto (1 : Int) r11_.1.length)) (upto ((1 : Int) + r11_.1.length) r11_.2.1.length)) < 0 then
                    some false
                  else
                    if (held (held (1 : Int) (upto (1 : Int) r11_.1.length)) (upto ((1 : Int) + r11_.1.length) r11_.2.1.length)) = (((1 : Int) + r11_.1.length) + r11_.2.1.length) then
                      some true
                    else
                      some false
            else
              some false
      else
        some false
    else
      some false
/-- laws.FnExactZeroPair -/
def k9 : SC :=
  .seq
    (.ops [
      ⟨(some 1), (Op.box 24 (Operand.tmp 0)), 0, none⟩,
      ⟨(some 2), (Op.assign (Operand.const (Value.bool false))), 4, none⟩])
    (.seq
      (.ops [
        ⟨(some 3), (Op.assign (Operand.const (Value.int IntKind.i64 1048576))), 3, none⟩])
      (.seq
        (.ops [
          ⟨(some 17), (Op.load 24 (Operand.tmp 1)), 24, none⟩,
          ⟨(some 18), (Op.move (Operand.tmp 3)), 3, none⟩,
          ⟨(some 19), (Op.call { callee := (Callee.value (Operand.func 15)), args := #[(Operand.tmp 17), (Operand.tmp 18)], argTypes := #[24, 3] }), 3, none⟩,
          ⟨(some 3), (Op.assign (Operand.tmp 19)), 3, none⟩])
        (.seq
          (.seq
            (.ops [
              ⟨(some 20), (Op.move (Operand.tmp 3)), 3, none⟩,
              ⟨(some 21), (Op.binOp BinOp.lss 3 (Operand.tmp 20) (Operand.const (Value.int IntKind.i64 0)) 3), 4, none⟩])
            (.cond (Operand.tmp 21)
              (.seq
                (.ops [
                  ⟨(some 2), (Op.assign (Operand.const (Value.bool true))), 4, none⟩])
                .ret)
              .skip))
          (.seq
            (.ops [
              ⟨(some 23), (Op.load 24 (Operand.tmp 1)), 24, none⟩,
              ⟨(some 24), (Op.call { callee := (Callee.value (Operand.func 17)), args := #[(Operand.tmp 23)], argTypes := #[24] }), 28, none⟩,
              ⟨(some 25), (Op.call { callee := (Callee.value (Operand.func 38)), args := #[(Operand.tmp 24)], argTypes := #[28] }), 46, none⟩,
              ⟨(some 22), (Op.move (Operand.tmp 25)), 46, none⟩,
              ⟨(some 26), (Op.extract (Operand.tmp 22) 0), 32, none⟩,
              ⟨(some 27), (Op.extract (Operand.tmp 22) 1), 32, none⟩,
              ⟨(some 28), (Op.extract (Operand.tmp 22) 2), 4, none⟩,
              ⟨(some 4), (Op.assign (Operand.tmp 26)), 32, none⟩,
              ⟨(some 5), (Op.assign (Operand.tmp 27)), 32, none⟩,
              ⟨(some 6), (Op.assign (Operand.tmp 28)), 4, none⟩])
            (.seq
              (.ops [
                ⟨(some 29), (Op.load 24 (Operand.tmp 1)), 24, none⟩,
                ⟨(some 30), (Op.call { callee := (Callee.value (Operand.func 17)), args := #[(Operand.tmp 29)], argTypes := #[24] }), 28, none⟩,
                ⟨(some 7), (Op.alloc 28), 0, none⟩,
                ⟨none, (Op.store 28 (Operand.tmp 7) (Operand.tmp 30)), 0, none⟩])
              (.seq
                (.ops [
                  ⟨(some 32), (Op.load 28 (Operand.tmp 7)), 28, none⟩,
                  ⟨(some 33), (Op.call { callee := (Callee.value (Operand.func 39)), args := #[(Operand.tmp 32)], argTypes := #[28] }), 46, none⟩,
                  ⟨(some 31), (Op.move (Operand.tmp 33)), 46, none⟩,
                  ⟨(some 34), (Op.extract (Operand.tmp 31) 0), 32, none⟩,
                  ⟨(some 35), (Op.extract (Operand.tmp 31) 1), 32, none⟩,
                  ⟨(some 36), (Op.extract (Operand.tmp 31) 2), 4, none⟩,
                  ⟨(some 8), (Op.assign (Operand.tmp 34)), 32, none⟩,
                  ⟨(some 9), (Op.assign (Operand.tmp 35)), 32, none⟩,
                  ⟨(some 10), (Op.assign (Operand.tmp 36)), 4, none⟩])
                (.seq
                  (.seq
                    (.ops [
                      ⟨(some 37), (Op.move (Operand.tmp 8)), 32, none⟩,
                      ⟨(some 38), (Op.move (Operand.tmp 4)), 32, none⟩,
                      ⟨(some 39), (Op.call { callee := (Callee.value (Operand.func 22)), args := #[(Operand.tmp 37), (Operand.tmp 38)], argTypes := #[32, 32] }), 4, none⟩,
                      ⟨(some 40), (Op.unOp UnOp.not 4 (Operand.tmp 39)), 4, none⟩,
                      ⟨(some 41), (Op.move (Operand.tmp 40)), 4, none⟩,
                      ⟨(some 42), (Op.move (Operand.tmp 9)), 32, (some (some 41, false))⟩,
                      ⟨(some 43), (Op.move (Operand.tmp 5)), 32, (some (some 41, false))⟩,
                      ⟨(some 44), (Op.call { callee := (Callee.value (Operand.func 22)), args := #[(Operand.tmp 42), (Operand.tmp 43)], argTypes := #[32, 32] }), 4, (some (some 41, false))⟩,
                      ⟨(some 45), (Op.unOp UnOp.not 4 (Operand.tmp 44)), 4, (some (some 41, false))⟩,
                      ⟨(some 46), (Op.pick (Operand.tmp 41) (Operand.const (Value.bool true)) (Operand.tmp 45)), 4, none⟩,
                      ⟨(some 47), (Op.move (Operand.tmp 46)), 4, none⟩,
                      ⟨(some 48), (Op.move (Operand.tmp 10)), 4, (some (some 47, false))⟩,
                      ⟨(some 49), (Op.move (Operand.tmp 6)), 4, (some (some 47, false))⟩,
                      ⟨(some 50), (Op.binOp BinOp.neq 4 (Operand.tmp 48) (Operand.tmp 49) 4), 4, (some (some 47, false))⟩,
                      ⟨(some 51), (Op.pick (Operand.tmp 47) (Operand.const (Value.bool true)) (Operand.tmp 50)), 4, none⟩])
                    (.cond (Operand.tmp 51)
                      (.seq
                        (.ops [
                          ⟨(some 2), (Op.assign (Operand.const (Value.bool false))), 4, none⟩])
                        .ret)
                      .skip))
                  (.seq
                    (.seq
                      (.draws [
                        (⟨[52, 7, 7], [52, 53, 54, 55, 56], [52]⟩, ⟨(some 52), (Op.load 28 (Operand.tmp 7)), 28, none⟩),
                        (⟨[53, 1, 1], [52, 53, 54, 55, 56], [53]⟩, ⟨(some 53), (Op.load 24 (Operand.tmp 1)), 24, none⟩),
                        (⟨[54, 53, 1], [52, 53, 54, 55, 56], [54]⟩, ⟨(some 54), (Op.call { callee := (Callee.value (Operand.func 17)), args := #[(Operand.tmp 53)], argTypes := #[24] }), 28, none⟩),
                        (⟨[55, 52, 54, 7, 54], [52, 53, 54, 55, 56], [55]⟩, ⟨(some 55), (Op.call { callee := (Callee.value (Operand.func 19)), args := #[(Operand.tmp 52), (Operand.tmp 54)], argTypes := #[28, 28] }), 4, none⟩),
                        (⟨[56, 55, 55], [52, 53, 54, 55, 56], [56]⟩, ⟨(some 56), (Op.unOp UnOp.not 4 (Operand.tmp 55)), 4, none⟩)])
                      (.cond (Operand.tmp 56)
                        (.seq
                          (.ops [
                            ⟨(some 2), (Op.assign (Operand.const (Value.bool false))), 4, none⟩])
                          .ret)
                        .skip))
                    (.seq
                      (.ops [
                        ⟨(some 11), (Op.assign (Operand.const (Value.int IntKind.i64 1))), 3, none⟩])
                      (.seq
                        (.ops [
                          ⟨(some 57), (Op.load 28 (Operand.tmp 7)), 28, none⟩,
                          ⟨(some 58), (Op.move (Operand.tmp 11)), 3, none⟩,
                          ⟨(some 59), (Op.call { callee := (Callee.value (Operand.func 23)), args := #[(Operand.tmp 57), (Operand.tmp 58)], argTypes := #[28, 3] }), 3, none⟩,
                          ⟨(some 11), (Op.assign (Operand.tmp 59)), 3, none⟩])
                        (.seq
                          (.seq
                            (.ops [
                              ⟨(some 60), (Op.move (Operand.tmp 11)), 3, none⟩,
                              ⟨(some 61), (Op.binOp BinOp.lss 3 (Operand.tmp 60) (Operand.const (Value.int IntKind.i64 0)) 3), 4, none⟩,
                              ⟨(some 62), (Op.move (Operand.tmp 61)), 4, none⟩,
                              ⟨(some 63), (Op.move (Operand.tmp 8)), 32, (some (some 62, false))⟩,
                              ⟨(some 64), (Op.move (Operand.tmp 4)), 32, (some (some 62, false))⟩,
                              ⟨(some 65), (Op.call { callee := (Callee.value (Operand.func 22)), args := #[(Operand.tmp 63), (Operand.tmp 64)], argTypes := #[32, 32] }), 4, (some (some 62, false))⟩,
                              ⟨(some 66), (Op.unOp UnOp.not 4 (Operand.tmp 65)), 4, (some (some 62, false))⟩,
                              ⟨(some 67), (Op.pick (Operand.tmp 62) (Operand.const (Value.bool true)) (Operand.tmp 66)), 4, none⟩,
                              ⟨(some 68), (Op.move (Operand.tmp 67)), 4, none⟩,
                              ⟨(some 69), (Op.move (Operand.tmp 9)), 32, (some (some 68, false))⟩,
                              ⟨(some 70), (Op.move (Operand.tmp 5)), 32, (some (some 68, false))⟩,
                              ⟨(some 71), (Op.call { callee := (Callee.value (Operand.func 22)), args := #[(Operand.tmp 69), (Operand.tmp 70)], argTypes := #[32, 32] }), 4, (some (some 68, false))⟩,
                              ⟨(some 72), (Op.unOp UnOp.not 4 (Operand.tmp 71)), 4, (some (some 68, false))⟩,
                              ⟨(some 73), (Op.pick (Operand.tmp 68) (Operand.const (Value.bool true)) (Operand.tmp 72)), 4, none⟩,
                              ⟨(some 74), (Op.move (Operand.tmp 73)), 4, none⟩,
                              ⟨(some 75), (Op.move (Operand.tmp 10)), 4, (some (some 74, false))⟩,
                              ⟨(some 76), (Op.move (Operand.tmp 6)), 4, (some (some 74, false))⟩,
                              ⟨(some 77), (Op.binOp BinOp.neq 4 (Operand.tmp 75) (Operand.tmp 76) 4), 4, (some (some 74, false))⟩,
                              ⟨(some 78), (Op.pick (Operand.tmp 74) (Operand.const (Value.bool true)) (Operand.tmp 77)), 4, none⟩])
                            (.cond (Operand.tmp 78)
                              (.seq
                                (.ops [
                                  ⟨(some 2), (Op.assign (Operand.const (Value.bool false))), 4, none⟩])
                                .ret)
                              .skip))
                          (.seq
                            (.ops [
                              ⟨(some 12), (Op.assign (Operand.const (Value.int IntKind.i64 1))), 3, none⟩])
                            (.seq
                              (.ops [
                                ⟨(some 79), (Op.move (Operand.tmp 8)), 32, none⟩,
                                ⟨(some 80), (Op.move (Operand.tmp 12)), 3, none⟩,
                                ⟨(some 81), (Op.call { callee := (Callee.value (Operand.func 24)), args := #[(Operand.tmp 79), (Operand.tmp 80)], argTypes := #[32, 3] }), 3, none⟩,
                                ⟨(some 12), (Op.assign (Operand.tmp 81)), 3, none⟩])
                              (.seq
                                (.ops [
                                  ⟨(some 82), (Op.move (Operand.tmp 9)), 32, none⟩,
                                  ⟨(some 83), (Op.move (Operand.tmp 12)), 3, none⟩,
                                  ⟨(some 84), (Op.call { callee := (Callee.value (Operand.func 24)), args := #[(Operand.tmp 82), (Operand.tmp 83)], argTypes := #[32, 3] }), 3, none⟩,
                                  ⟨(some 12), (Op.assign (Operand.tmp 84)), 3, none⟩])
                                (.seq
                                  (.ops [
                                    ⟨(some 13), (Op.assign (Operand.const (Value.int IntKind.i64 1))), 3, none⟩])
                                  (.seq
                                    (.ops [
                                      ⟨(some 85), (Op.move (Operand.tmp 8)), 32, none⟩,
                                      ⟨(some 86), (Op.move (Operand.tmp 13)), 3, none⟩,
                                      ⟨(some 87), (Op.call { callee := (Callee.value (Operand.func 25)), args := #[(Operand.tmp 85), (Operand.tmp 86)], argTypes := #[32, 3] }), 3, none⟩,
                                      ⟨(some 13), (Op.assign (Operand.tmp 87)), 3, none⟩])
                                    (.seq
                                      (.seq
                                        (.ops [
                                          ⟨(some 88), (Op.move (Operand.tmp 13)), 3, none⟩,
                                          ⟨(some 89), (Op.binOp BinOp.lss 3 (Operand.tmp 88) (Operand.const (Value.int IntKind.i64 0)) 3), 4, none⟩])
                                        (.cond (Operand.tmp 89)
                                          (.seq
                                            (.ops [
                                              ⟨(some 2), (Op.assign (Operand.const (Value.bool false))), 4, none⟩])
                                            .ret)
                                          .skip))
                                      (.seq
                                        (.ops [
                                          ⟨(some 90), (Op.move (Operand.tmp 9)), 32, none⟩,
                                          ⟨(some 91), (Op.move (Operand.tmp 13)), 3, none⟩,
                                          ⟨(some 92), (Op.call { callee := (Callee.value (Operand.func 25)), args := #[(Operand.tmp 90), (Operand.tmp 91)], argTypes := #[32, 3] }), 3, none⟩,
                                          ⟨(some 13), (Op.assign (Operand.tmp 92)), 3, none⟩])
                                        (.seq
                                          (.seq
                                            (.ops [
                                              ⟨(some 93), (Op.move (Operand.tmp 13)), 3, none⟩,
                                              ⟨(some 94), (Op.binOp BinOp.lss 3 (Operand.tmp 93) (Operand.const (Value.int IntKind.i64 0)) 3), 4, none⟩])
                                            (.cond (Operand.tmp 94)
                                              (.seq
                                                (.ops [
                                                  ⟨(some 2), (Op.assign (Operand.const (Value.bool false))), 4, none⟩])
                                                .ret)
                                              .skip))
                                          (.seq
                                            (.seq
                                              (.ops [
                                                ⟨(some 95), (Op.move (Operand.tmp 13)), 3, none⟩,
                                                ⟨(some 96), (Op.move (Operand.tmp 12)), 3, none⟩,
                                                ⟨(some 97), (Op.binOp BinOp.neq 3 (Operand.tmp 95) (Operand.tmp 96) 3), 4, none⟩])
                                              (.cond (Operand.tmp 97)
                                                (.seq
                                                  (.ops [
                                                    ⟨(some 2), (Op.assign (Operand.const (Value.bool false))), 4, none⟩])
                                                  .ret)
                                                .skip))
                                            (.seq
                                              (.ops [
                                                ⟨(some 99), (Op.load 24 (Operand.tmp 1)), 24, none⟩,
                                                ⟨(some 100), (Op.call { callee := (Callee.value (Operand.func 17)), args := #[(Operand.tmp 99)], argTypes := #[24] }), 28, none⟩,
                                                ⟨(some 101), (Op.call { callee := (Callee.value (Operand.func 39)), args := #[(Operand.tmp 100)], argTypes := #[28] }), 46, none⟩,
                                                ⟨(some 98), (Op.move (Operand.tmp 101)), 46, none⟩,
                                                ⟨(some 102), (Op.extract (Operand.tmp 98) 0), 32, none⟩,
                                                ⟨(some 103), (Op.extract (Operand.tmp 98) 1), 32, none⟩,
                                                ⟨(some 104), (Op.extract (Operand.tmp 98) 2), 4, none⟩,
                                                ⟨(some 14), (Op.assign (Operand.tmp 102)), 32, none⟩,
                                                ⟨(some 15), (Op.assign (Operand.tmp 103)), 32, none⟩,
                                                ⟨(some 16), (Op.assign (Operand.tmp 104)), 4, none⟩])
                                              (.seq
                                                (.seq
                                                  (.ops [
                                                    ⟨(some 105), (Op.move (Operand.tmp 14)), 32, none⟩,
                                                    ⟨(some 106), (Op.move (Operand.tmp 4)), 32, none⟩,
                                                    ⟨(some 107), (Op.call { callee := (Callee.value (Operand.func 22)), args := #[(Operand.tmp 105), (Operand.tmp 106)], argTypes := #[32, 32] }), 4, none⟩,
                                                    ⟨(some 108), (Op.unOp UnOp.not 4 (Operand.tmp 107)), 4, none⟩,
                                                    ⟨(some 109), (Op.move (Operand.tmp 108)), 4, none⟩,
                                                    ⟨(some 110), (Op.move (Operand.tmp 15)), 32, (some (some 109, false))⟩,
                                                    ⟨(some 111), (Op.move (Operand.tmp 5)), 32, (some (some 109, false))⟩,
                                                    ⟨(some 112), (Op.call { callee := (Callee.value (Operand.func 22)), args := #[(Operand.tmp 110), (Operand.tmp 111)], argTypes := #[32, 32] }), 4, (some (some 109, false))⟩,
                                                    ⟨(some 113), (Op.unOp UnOp.not 4 (Operand.tmp 112)), 4, (some (some 109, false))⟩,
                                                    ⟨(some 114), (Op.pick (Operand.tmp 109) (Operand.const (Value.bool true)) (Operand.tmp 113)), 4, none⟩,
                                                    ⟨(some 115), (Op.move (Operand.tmp 114)), 4, none⟩,
                                                    ⟨(some 116), (Op.move (Operand.tmp 16)), 4, (some (some 115, false))⟩,
                                                    ⟨(some 117), (Op.move (Operand.tmp 6)), 4, (some (some 115, false))⟩,
                                                    ⟨(some 118), (Op.binOp BinOp.neq 4 (Operand.tmp 116) (Operand.tmp 117) 4), 4, (some (some 115, false))⟩,
                                                    ⟨(some 119), (Op.pick (Operand.tmp 115) (Operand.const (Value.bool true)) (Operand.tmp 118)), 4, none⟩])
                                                  (.cond (Operand.tmp 119)
                                                    (.seq
                                                      (.ops [
                                                        ⟨(some 2), (Op.assign (Operand.const (Value.bool false))), 4, none⟩])
                                                      .ret)
                                                    .skip))
                                                (.seq
                                                  (.ops [
                                                    ⟨(some 13), (Op.assign (Operand.const (Value.int IntKind.i64 1))), 3, none⟩])
                                                  (.seq
                                                    (.ops [
                                                      ⟨(some 120), (Op.move (Operand.tmp 8)), 32, none⟩,
                                                      ⟨(some 121), (Op.move (Operand.tmp 13)), 3, none⟩,
                                                      ⟨(some 122), (Op.call { callee := (Callee.value (Operand.func 25)), args := #[(Operand.tmp 120), (Operand.tmp 121)], argTypes := #[32, 3] }), 3, none⟩,
                                                      ⟨(some 13), (Op.assign (Operand.tmp 122)), 3, none⟩])
                                                    (.seq
                                                      (.seq
                                                        (.ops [
                                                          ⟨(some 123), (Op.move (Operand.tmp 13)), 3, none⟩,
                                                          ⟨(some 124), (Op.binOp BinOp.lss 3 (Operand.tmp 123) (Operand.const (Value.int IntKind.i64 0)) 3), 4, none⟩])
                                                        (.cond (Operand.tmp 124)
                                                          (.seq
                                                            (.ops [
                                                              ⟨(some 2), (Op.assign (Operand.const (Value.bool false))), 4, none⟩])
                                                            .ret)
                                                          .skip))
                                                      (.seq
                                                        (.ops [
                                                          ⟨(some 125), (Op.move (Operand.tmp 9)), 32, none⟩,
                                                          ⟨(some 126), (Op.move (Operand.tmp 13)), 3, none⟩,
                                                          ⟨(some 127), (Op.call { callee := (Callee.value (Operand.func 25)), args := #[(Operand.tmp 125), (Operand.tmp 126)], argTypes := #[32, 3] }), 3, none⟩,
                                                          ⟨(some 13), (Op.assign (Operand.tmp 127)), 3, none⟩])
                                                        (.seq
                                                          (.seq
                                                            (.ops [
                                                              ⟨(some 128), (Op.move (Operand.tmp 13)), 3, none⟩,
                                                              ⟨(some 129), (Op.binOp BinOp.lss 3 (Operand.tmp 128) (Operand.const (Value.int IntKind.i64 0)) 3), 4, none⟩])
                                                            (.cond (Operand.tmp 129)
                                                              (.seq
                                                                (.ops [
                                                                  ⟨(some 2), (Op.assign (Operand.const (Value.bool false))), 4, none⟩])
                                                                .ret)
                                                              .skip))
                                                          (.seq
                                                            (.seq
                                                              (.ops [
                                                                ⟨(some 130), (Op.move (Operand.tmp 13)), 3, none⟩,
                                                                ⟨(some 131), (Op.move (Operand.tmp 12)), 3, none⟩,
                                                                ⟨(some 132), (Op.binOp BinOp.neq 3 (Operand.tmp 130) (Operand.tmp 131) 3), 4, none⟩])
                                                              (.cond (Operand.tmp 132)
                                                                (.seq
                                                                  (.ops [
                                                                    ⟨(some 2), (Op.assign (Operand.const (Value.bool false))), 4, none⟩])
                                                                  .ret)
                                                                .skip))
                                                            (.seq
                                                              (.ops [
                                                                ⟨(some 2), (Op.assign (Operand.const (Value.bool true))), 4, none⟩])
                                                              .ret)))))))))))))))))))))))))))))
theorem slim9 : Try.f9.body.map (slim lends) = some k9 := by kernel_rfl
theorem ok9 : fnOk Try.f9 1 = true := by kernel_rfl
theorem c9 {a l : List D} {r : D × List D} (h : wpD Y.env k9 (fin tys l.length [ResultVar.tmp 2] r) (entry a l)) (ha : a.length = 1) : Y.call 9 a l = some r :=
  call_slim (Y := Y) rfl Try.func9 (ha ▸ ok9) slim9 h
theorem l_FnExactZeroPair_call (t0_Labels : Int) (t0_Degree : Int) (t0_Nodes : List (List Int)) (t0_Edges : List (List Int)) {r : Bool} (h : l_FnExactZeroPair t0_Labels t0_Degree t0_Nodes t0_Edges = some r) : Y.call 9 [D.agg [D.int .i64 t0_Labels, D.int .i64 t0_Degree, D.sl 32 (lst (fun x => D.sl 3 (lst (D.int .i64) x)) t0_Nodes), D.sl 32 (lst (fun x => D.sl 3 (lst (D.int .i64) x)) t0_Edges)]] [] = some (D.bool r, []) := by
  refine c9 ?_ rfl
  unfold k9
  unfold l_FnExactZeroPair at h
  obtain ⟨e1, h⟩ := ckS h
  obtain ⟨e2, h⟩ := ckS h
  obtain ⟨e3, h⟩ := ckS h
  have c4 := l_szProblem_cl t0_Labels t0_Degree t0_Nodes t0_Edges (1048576 : Int) e1 e2 e3
  by_cases e5 : (szP (1048576 : Int) t0_Nodes t0_Edges) < 0
  · rw [if_pos e5] at h
    obtain rfl := Option.some.inj h
    simp (maxDischargeDepth := 9) only [↓xpre, xpost, xlst, xcore, yset, rg0, ↓reduceIte, Nat.reduceEqDiff, Nat.reduceLT, Nat.reduceLeDiff, Nat.reduceAdd, Nat.reduceMul, Nat.reduceMod, Nat.reduceSub, Nat.reduceBEq, Int.reduceLE, Int.reduceLT, Int.reduceEq, Int.reduceSub, Int.reduceAdd, Int.reduceToNat, Int.reduceNeg, e1, e2, e3.1, e3.2, c4, e5] <;> (repeat' apply And.intro) <;> first | rfl | exact ⟨_, rfl⟩ | simp [lst]
  · rw [if_neg e5] at h
    obtain ⟨e6, h⟩ := ckS h
    obtain ⟨e7, h⟩ := ckS h
    have c8 := l_toProblem_cl t0_Labels t0_Degree t0_Nodes t0_Edges e6 e7
    obtain ⟨r9_, hl9, h⟩ := bindS h
    try dsimp only at h
    have c9 := s_ZeroPair_call t0_Labels t0_Degree t0_Nodes t0_Edges hl9
    have c10 := l_toProblem_cl t0_Labels t0_Degree t0_Nodes t0_Edges e6 e7
    obtain ⟨r11_, hl11, h⟩ := bindS h
    try dsimp only at h
    have c11 := i_ZeroPair_call t0_Labels t0_Degree t0_Nodes t0_Edges hl11
    obtain ⟨e12, h⟩ := ckS h
    have c13 := l_eqIntS_cl r11_.1 r9_.1 e12
    by_cases e14 : (decide (r11_.1 = r9_.1)) = true
    · rw [if_pos e14] at h
      obtain ⟨e15, h⟩ := ckS h
      have c16 := l_eqIntS_cl r11_.2.1 r9_.2.1 e15
      by_cases e17 : (decide (r11_.2.1 = r9_.2.1)) = true
      · rw [if_pos e17] at h
        by_cases e18 : r11_.2.2 = true
        · rw [if_pos e18] at h
          by_cases e19 : r9_.2.2 = true
          · rw [if_pos e19] at h
            have c20 := l_toProblem_cl t0_Labels t0_Degree t0_Nodes t0_Edges e6 e7
            have c21 := l_eqProblem_cl t0_Labels t0_Degree t0_Nodes t0_Edges t0_Labels t0_Degree t0_Nodes t0_Edges e6 e7
            by_cases e22 : (sameP t0_Labels t0_Degree t0_Nodes t0_Edges t0_Labels t0_Degree t0_Nodes t0_Edges) = true
            · rw [if_pos e22] at h
              obtain ⟨e23, h⟩ := ckS h
              have c24 := l_markProblem_cl t0_Labels t0_Degree t0_Nodes t0_Edges (1 : Int) e6 e7 e23
              by_cases e25 : ((1 : Int) + tot t0_Nodes + tot t0_Edges) < 0
              · rw [if_pos e25] at h
                obtain rfl := Option.some.inj h
                simp (maxDischargeDepth := 9) only [↓xpre, xpost, xlst, xcore, yset, rg0, ↓reduceIte, Nat.reduceEqDiff, Nat.reduceLT, Nat.reduceLeDiff, Nat.reduceAdd, Nat.reduceMul, Nat.reduceMod, Nat.reduceSub, Nat.reduceBEq, Int.reduceLE, Int.reduceLT, Int.reduceEq, Int.reduceSub, Int.reduceAdd, Int.reduceToNat, Int.reduceNeg, e1, e2, e3.1, e3.2, c4, e5, e6, e7, c8, c9, c10, c11, e12, c13, e14, e15, c16, e17, e18, e19, c20, c21, e22, e23.1, e23.2, c24, e25] <;> (repeat' apply And.intro) <;> first | rfl | exact ⟨_, rfl⟩ | simp [lst]
              · rw [if_neg e25] at h
                have c26 := l_eqIntS_cl r11_.1 r9_.1 e12
                have c27 := l_eqIntS_cl r11_.2.1 r9_.2.1 e15
                obtain ⟨e28, h⟩ := ckS h
                have c29 := l_markIntS_cl r11_.1 (1 : Int) e12 e28
                obtain ⟨e30, h⟩ := ckS h
                have c31 := l_markIntS_cl r11_.2.1 ((1 : Int) + r11_.1.length) e15 e30
                obtain ⟨e32, h⟩ := ckS h
                obtain ⟨e33, h⟩ := ckS h
                have c34 := l_heldIntS_cl (upto (1 : Int) r11_.1.length) (1 : Int) e32 e33
                by_cases e35 : (held (1 : Int) (upto (1 : Int) r11_.1.length)) < 0
                · rw [if_pos e35] at h
                  obtain rfl := Option.some.inj h
                  simp (maxDischargeDepth := 9) only [↓xpre, xpost, xlst, xcore, yset, rg0, ↓reduceIte, Nat.reduceEqDiff, Nat.reduceLT, Nat.reduceLeDiff, Nat.reduceAdd, Nat.reduceMul, Nat.reduceMod, Nat.reduceSub, Nat.reduceBEq, Int.reduceLE, Int.reduceLT, Int.reduceEq, Int.reduceSub, Int.reduceAdd, Int.reduceToNat, Int.reduceNeg, e1, e2, e3.1, e3.2, c4, e5, e6, e7, c8, c9, c10, c11, e12, c13, e14, e15, c16, e17, e18, e19, c20, c21, e22, e23.1, e23.2, c24, e25, c26, c27, e28.1, e28.2, c29, e30.1, e30.2, c31, e32, e33.1, e33.2, c34, e35] <;> (repeat' apply And.intro) <;> first | rfl | exact ⟨_, rfl⟩ | simp [lst]
                · rw [if_neg e35] at h
                  obtain ⟨e36, h⟩ := ckS h
                  obtain ⟨e37, h⟩ := ckS h
                  have c38 := l_heldIntS_cl (upto ((1 : Int) + r11_.1.length) r11_.2.1.length) (held (1 : Int) (upto (1 : Int) r11_.1.length)) e36 e37
                  by_cases e39 : (held (held (1 : Int) (upto (1 : Int) r11_.1.length)) (upto ((1 : Int) + r11_.1.length) r11_.2.1.length)) < 0
                  · rw [if_pos e39] at h
                    obtain rfl := Option.some.inj h
                    simp (maxDischargeDepth := 9) only [↓xpre, xpost, xlst, xcore, yset, rg0, ↓reduceIte, Nat.reduceEqDiff, Nat.reduceLT, Nat.reduceLeDiff, Nat.reduceAdd, Nat.reduceMul, Nat.reduceMod, Nat.reduceSub, Nat.reduceBEq, Int.reduceLE, Int.reduceLT, Int.reduceEq, Int.reduceSub, Int.reduceAdd, Int.reduceToNat, Int.reduceNeg, e1, e2, e3.1, e3.2, c4, e5, e6, e7, c8, c9, c10, c11, e12, c13, e14, e15, c16, e17, e18, e19, c20, c21, e22, e23.1, e23.2, c24, e25, c26, c27, e28.1, e28.2, c29, e30.1, e30.2, c31, e32, e33.1, e33.2, c34, e35, e36, e37.1, e37.2, c38, e39] <;> (repeat' apply And.intro) <;> first | rfl | exact ⟨_, rfl⟩ | simp [lst]
                  · rw [if_neg e39] at h
                    by_cases e40 : (held (held (1 : Int) (upto (1 : Int) r11_.1.length)) (upto ((1 : Int) + r11_.1.length) r11_.2.1.length)) = (((1 : Int) + r11_.1.length) + r11_.2.1.length)
                    · rw [if_pos e40] at h
                      have c41 := l_toProblem_cl t0_Labels t0_Degree t0_Nodes t0_Edges e6 e7
                      have c42 := l_eqIntS_cl r11_.1 r9_.1 e12
                      have c43 := l_eqIntS_cl r11_.2.1 r9_.2.1 e15
                      have c44 := l_heldIntS_cl (upto (1 : Int) r11_.1.length) (1 : Int) e32 e33
                      have c45 := l_heldIntS_cl (upto ((1 : Int) + r11_.1.length) r11_.2.1.length) (held (1 : Int) (upto (1 : Int) r11_.1.length)) e36 e37
                      obtain rfl := Option.some.inj h
                      simp (maxDischargeDepth := 9) only [↓xpre, xpost, xlst, xcore, yset, rg0, ↓reduceIte, Nat.reduceEqDiff, Nat.reduceLT, Nat.reduceLeDiff, Nat.reduceAdd, Nat.reduceMul, Nat.reduceMod, Nat.reduceSub, Nat.reduceBEq, Int.reduceLE, Int.reduceLT, Int.reduceEq, Int.reduceSub, Int.reduceAdd, Int.reduceToNat, Int.reduceNeg, e1, e2, e3.1, e3.2, c4, e5, e6, e7, c8, c9, c10, c11, e12, c13, e14, e15, c16, e17, e18, e19, c20, c21, e22, e23.1, e23.2, c24, e25, c26, c27, e28.1, e28.2, c29, e30.1, e30.2, c31, e32, e33.1, e33.2, c34, e35, e36, e37.1, e37.2, c38, e39, decide_eq_true e40, c41, c42, c43, c44, c45] <;> (repeat' apply And.intro) <;> first | rfl | exact ⟨_, rfl⟩ | simp [lst]
                    · rw [if_neg e40] at h
                      obtain rfl := Option.some.inj h
                      simp (maxDischargeDepth := 9) only [↓xpre, xpost, xlst, xcore, yset, rg0, ↓reduceIte, Nat.reduceEqDiff, Nat.reduceLT, Nat.reduceLeDiff, Nat.reduceAdd, Nat.reduceMul, Nat.reduceMod, Nat.reduceSub, Nat.reduceBEq, Int.reduceLE, Int.reduceLT, Int.reduceEq, Int.reduceSub, Int.reduceAdd, Int.reduceToNat, Int.reduceNeg, e1, e2, e3.1, e3.2, c4, e5, e6, e7, c8, c9, c10, c11, e12, c13, e14, e15, c16, e17, e18, e19, c20, c21, e22, e23.1, e23.2, c24, e25, c26, c27, e28.1, e28.2, c29, e30.1, e30.2, c31, e32, e33.1, e33.2, c34, e35, e36, e37.1, e37.2, c38, e39, e40] <;> (repeat' apply And.intro) <;> first | rfl | exact ⟨_, rfl⟩ | simp [lst]
            · rw [if_neg e22] at h
              have e22f : (sameP t0_Labels t0_Degree t0_Nodes t0_Edges t0_Labels t0_Degree t0_Nodes t0_Edges) = false := Bool.eq_false_iff.mpr e22
              obtain rfl := Option.some.inj h
              simp (maxDischargeDepth := 9) only [↓xpre, xpost, xlst, xcore, yset, rg0, ↓reduceIte, Nat.reduceEqDiff, Nat.reduceLT, Nat.reduceLeDiff, Nat.reduceAdd, Nat.reduceMul, Nat.reduceMod, Nat.reduceSub, Nat.reduceBEq, Int.reduceLE, Int.reduceLT, Int.reduceEq, Int.reduceSub, Int.reduceAdd, Int.reduceToNat, Int.reduceNeg, e1, e2, e3.1, e3.2, c4, e5, e6, e7, c8, c9, c10, c11, e12, c13, e14, e15, c16, e17, e18, e19, c20, c21, e22f] <;> (repeat' apply And.intro) <;> first | rfl | exact ⟨_, rfl⟩ | simp [lst]
          · rw [if_neg e19] at h
            have e19f : r9_.2.2 = false := Bool.eq_false_iff.mpr e19
            obtain rfl := Option.some.inj h
            simp (maxDischargeDepth := 9) only [↓xpre, xpost, xlst, xcore, yset, rg0, ↓reduceIte, Nat.reduceEqDiff, Nat.reduceLT, Nat.reduceLeDiff, Nat.reduceAdd, Nat.reduceMul, Nat.reduceMod, Nat.reduceSub, Nat.reduceBEq, Int.reduceLE, Int.reduceLT, Int.reduceEq, Int.reduceSub, Int.reduceAdd, Int.reduceToNat, Int.reduceNeg, e1, e2, e3.1, e3.2, c4, e5, e6, e7, c8, c9, c10, c11, e12, c13, e14, e15, c16, e17, e18, e19f] <;> (repeat' apply And.intro) <;> first | rfl | exact ⟨_, rfl⟩ | simp [lst]
        · rw [if_neg e18] at h
          have e18f : r11_.2.2 = false := Bool.eq_false_iff.mpr e18
          by_cases e19 : r9_.2.2 = true
          · rw [if_pos e19] at h
            obtain rfl := Option.some.inj h
            simp (maxDischargeDepth := 9) only [↓xpre, xpost, xlst, xcore, yset, rg0, ↓reduceIte, Nat.reduceEqDiff, Nat.reduceLT, Nat.reduceLeDiff, Nat.reduceAdd, Nat.reduceMul, Nat.reduceMod, Nat.reduceSub, Nat.reduceBEq, Int.reduceLE, Int.reduceLT, Int.reduceEq, Int.reduceSub, Int.reduceAdd, Int.reduceToNat, Int.reduceNeg, e1, e2, e3.1, e3.2, c4, e5, e6, e7, c8, c9, c10, c11, e12, c13, e14, e15, c16, e17, e18f, e19] <;> (repeat' apply And.intro) <;> first | rfl | exact ⟨_, rfl⟩ | simp [lst]
          · rw [if_neg e19] at h
            have e19f : r9_.2.2 = false := Bool.eq_false_iff.mpr e19
            have c20 := l_toProblem_cl t0_Labels t0_Degree t0_Nodes t0_Edges e6 e7
            have c21 := l_eqProblem_cl t0_Labels t0_Degree t0_Nodes t0_Edges t0_Labels t0_Degree t0_Nodes t0_Edges e6 e7
            by_cases e22 : (sameP t0_Labels t0_Degree t0_Nodes t0_Edges t0_Labels t0_Degree t0_Nodes t0_Edges) = true
            · rw [if_pos e22] at h
              obtain ⟨e23, h⟩ := ckS h
              have c24 := l_markProblem_cl t0_Labels t0_Degree t0_Nodes t0_Edges (1 : Int) e6 e7 e23
              by_cases e25 : ((1 : Int) + tot t0_Nodes + tot t0_Edges) < 0
              · rw [if_pos e25] at h
                obtain rfl := Option.some.inj h
                simp (maxDischargeDepth := 9) only [↓xpre, xpost, xlst, xcore, yset, rg0, ↓reduceIte, Nat.reduceEqDiff, Nat.reduceLT, Nat.reduceLeDiff, Nat.reduceAdd, Nat.reduceMul, Nat.reduceMod, Nat.reduceSub, Nat.reduceBEq, Int.reduceLE, Int.reduceLT, Int.reduceEq, Int.reduceSub, Int.reduceAdd, Int.reduceToNat, Int.reduceNeg, e1, e2, e3.1, e3.2, c4, e5, e6, e7, c8, c9, c10, c11, e12, c13, e14, e15, c16, e17, e18f, e19f, c20, c21, e22, e23.1, e23.2, c24, e25] <;> (repeat' apply And.intro) <;> first | rfl | exact ⟨_, rfl⟩ | simp [lst]
              · rw [if_neg e25] at h
                have c26 := l_eqIntS_cl r11_.1 r9_.1 e12
                have c27 := l_eqIntS_cl r11_.2.1 r9_.2.1 e15
                obtain ⟨e28, h⟩ := ckS h
                have c29 := l_markIntS_cl r11_.1 (1 : Int) e12 e28
                obtain ⟨e30, h⟩ := ckS h
                have c31 := l_markIntS_cl r11_.2.1 ((1 : Int) + r11_.1.length) e15 e30
                obtain ⟨e32, h⟩ := ckS h
                obtain ⟨e33, h⟩ := ckS h
                have c34 := l_heldIntS_cl (upto (1 : Int) r11_.1.length) (1 : Int) e32 e33
                by_cases e35 : (held (1 : Int) (upto (1 : Int) r11_.1.length)) < 0
                · rw [if_pos e35] at h
                  obtain rfl := Option.some.inj h
                  simp (maxDischargeDepth := 9) only [↓xpre, xpost, xlst, xcore, yset, rg0, ↓reduceIte, Nat.reduceEqDiff, Nat.reduceLT, Nat.reduceLeDiff, Nat.reduceAdd, Nat.reduceMul, Nat.reduceMod, Nat.reduceSub, Nat.reduceBEq, Int.reduceLE, Int.reduceLT, Int.reduceEq, Int.reduceSub, Int.reduceAdd, Int.reduceToNat, Int.reduceNeg, e1, e2, e3.1, e3.2, c4, e5, e6, e7, c8, c9, c10, c11, e12, c13, e14, e15, c16, e17, e18f, e19f, c20, c21, e22, e23.1, e23.2, c24, e25, c26, c27, e28.1, e28.2, c29, e30.1, e30.2, c31, e32, e33.1, e33.2, c34, e35] <;> (repeat' apply And.intro) <;> first | rfl | exact ⟨_, rfl⟩ | simp [lst]
                · rw [if_neg e35] at h
                  obtain ⟨e36, h⟩ := ckS h
                  obtain ⟨e37, h⟩ := ckS h
                  have c38 := l_heldIntS_cl (upto ((1 : Int) + r11_.1.length) r11_.2.1.length) (held (1 : Int) (upto (1 : Int) r11_.1.length)) e36 e37
                  by_cases e39 : (held (held (1 : Int) (upto (1 : Int) r11_.1.length)) (upto ((1 : Int) + r11_.1.length) r11_.2.1.length)) < 0
                  · rw [if_pos e39] at h
                    obtain rfl := Option.some.inj h
                    simp (maxDischargeDepth := 9) only [↓xpre, xpost, xlst, xcore, yset, rg0, ↓reduceIte, Nat.reduceEqDiff, Nat.reduceLT, Nat.reduceLeDiff, Nat.reduceAdd, Nat.reduceMul, Nat.reduceMod, Nat.reduceSub, Nat.reduceBEq, Int.reduceLE, Int.reduceLT, Int.reduceEq, Int.reduceSub, Int.reduceAdd, Int.reduceToNat, Int.reduceNeg, e1, e2, e3.1, e3.2, c4, e5, e6, e7, c8, c9, c10, c11, e12, c13, e14, e15, c16, e17, e18f, e19f, c20, c21, e22, e23.1, e23.2, c24, e25, c26, c27, e28.1, e28.2, c29, e30.1, e30.2, c31, e32, e33.1, e33.2, c34, e35, e36, e37.1, e37.2, c38, e39] <;> (repeat' apply And.intro) <;> first | rfl | exact ⟨_, rfl⟩ | simp [lst]
                  · rw [if_neg e39] at h
                    by_cases e40 : (held (held (1 : Int) (upto (1 : Int) r11_.1.length)) (upto ((1 : Int) + r11_.1.length) r11_.2.1.length)) = (((1 : Int) + r11_.1.length) + r11_.2.1.length)
                    · rw [if_pos e40] at h
                      have c41 := l_toProblem_cl t0_Labels t0_Degree t0_Nodes t0_Edges e6 e7
                      have c42 := l_eqIntS_cl r11_.1 r9_.1 e12
                      have c43 := l_eqIntS_cl r11_.2.1 r9_.2.1 e15
                      have c44 := l_heldIntS_cl (upto (1 : Int) r11_.1.length) (1 : Int) e32 e33
                      have c45 := l_heldIntS_cl (upto ((1 : Int) + r11_.1.length) r11_.2.1.length) (held (1 : Int) (upto (1 : Int) r11_.1.length)) e36 e37
                      obtain rfl := Option.some.inj h
                      simp (maxDischargeDepth := 9) only [↓xpre, xpost, xlst, xcore, yset, rg0, ↓reduceIte, Nat.reduceEqDiff, Nat.reduceLT, Nat.reduceLeDiff, Nat.reduceAdd, Nat.reduceMul, Nat.reduceMod, Nat.reduceSub, Nat.reduceBEq, Int.reduceLE, Int.reduceLT, Int.reduceEq, Int.reduceSub, Int.reduceAdd, Int.reduceToNat, Int.reduceNeg, e1, e2, e3.1, e3.2, c4, e5, e6, e7, c8, c9, c10, c11, e12, c13, e14, e15, c16, e17, e18f, e19f, c20, c21, e22, e23.1, e23.2, c24, e25, c26, c27, e28.1, e28.2, c29, e30.1, e30.2, c31, e32, e33.1, e33.2, c34, e35, e36, e37.1, e37.2, c38, e39, decide_eq_true e40, c41, c42, c43, c44, c45] <;> (repeat' apply And.intro) <;> first | rfl | exact ⟨_, rfl⟩ | simp [lst]
                    · rw [if_neg e40] at h
                      obtain rfl := Option.some.inj h
                      simp (maxDischargeDepth := 9) only [↓xpre, xpost, xlst, xcore, yset, rg0, ↓reduceIte, Nat.reduceEqDiff, Nat.reduceLT, Nat.reduceLeDiff, Nat.reduceAdd, Nat.reduceMul, Nat.reduceMod, Nat.reduceSub, Nat.reduceBEq, Int.reduceLE, Int.reduceLT, Int.reduceEq, Int.reduceSub, Int.reduceAdd, Int.reduceToNat, Int.reduceNeg, e1, e2, e3.1, e3.2, c4, e5, e6, e7, c8, c9, c10, c11, e12, c13, e14, e15, c16, e17, e18f, e19f, c20, c21, e22, e23.1, e23.2, c24, e25, c26, c27, e28.1, e28.2, c29, e30.1, e30.2, c31, e32, e33.1, e33.2, c34, e35, e36, e37.1, e37.2, c38, e39, e40] <;> (repeat' apply And.intro) <;> first | rfl | exact ⟨_, rfl⟩ | simp [lst]
            · rw [if_neg e22] at h
              have e22f : (sameP t0_Labels t0_Degree t0_Nodes t0_Edges t0_Labels t0_Degree t0_Nodes t0_Edges) = false := Bool.eq_false_iff.mpr e22
              obtain rfl := Option.some.inj h
              simp (maxDischargeDepth := 9) only [↓xpre, xpost, xlst, xcore, yset, rg0, ↓reduceIte, Nat.reduceEqDiff, Nat.reduceLT, Nat.reduceLeDiff, Nat.reduceAdd, Nat.reduceMul, Nat.reduceMod, Nat.reduceSub, Nat.reduceBEq, Int.reduceLE, Int.reduceLT, Int.reduceEq, Int.reduceSub, Int.reduceAdd, Int.reduceToNat, Int.reduceNeg, e1, e2, e3.1, e3.2, c4, e5, e6, e7, c8, c9, c10, c11, e12, c13, e14, e15, c16, e17, e18f, e19f, c20, c21, e22f] <;> (repeat' apply And.intro) <;> first | rfl | exact ⟨_, rfl⟩ | simp [lst]
      · rw [if_neg e17] at h
        have e17f : (decide (r11_.2.1 = r9_.2.1)) = false := Bool.eq_false_iff.mpr e17
        obtain rfl := Option.some.inj h
        simp (maxDischargeDepth := 9) only [↓xpre, xpost, xlst, xcore, yset, rg0, ↓reduceIte, Nat.reduceEqDiff, Nat.reduceLT, Nat.reduceLeDiff, Nat.reduceAdd, Nat.reduceMul, Nat.reduceMod, Nat.reduceSub, Nat.reduceBEq, Int.reduceLE, Int.reduceLT, Int.reduceEq, Int.reduceSub, Int.reduceAdd, Int.reduceToNat, Int.reduceNeg, e1, e2, e3.1, e3.2, c4, e5, e6, e7, c8, c9, c10, c11, e12, c13, e14, e15, c16, e17f] <;> (repeat' apply And.intro) <;> first | rfl | exact ⟨_, rfl⟩ | simp [lst]
    · rw [if_neg e14] at h
      have e14f : (decide (r11_.1 = r9_.1)) = false := Bool.eq_false_iff.mpr e14
      obtain rfl := Option.some.inj h
      simp (maxDischargeDepth := 9) only [↓xpre, xpost, xlst, xcore, yset, rg0, ↓reduceIte, Nat.reduceEqDiff, Nat.reduceLT, Nat.reduceLeDiff, Nat.reduceAdd, Nat.reduceMul, Nat.reduceMod, Nat.reduceSub, Nat.reduceBEq, Int.reduceLE, Int.reduceLT, Int.reduceEq, Int.reduceSub, Int.reduceAdd, Int.reduceToNat, Int.reduceNeg, e1, e2, e3.1, e3.2, c4, e5, e6, e7, c8, c9, c10, c11, e12, c13, e14f] <;> (repeat' apply And.intro) <;> first | rfl | exact ⟨_, rfl⟩ | simp [lst]

theorem pair_law (a d : Int) (ns es : List (List Int)) (hn : Wide ns) (he : Wide es) : l_FnExactZeroPair a d ns es = some true := by
  unfold l_FnExactZeroPair
  rw [ckT hn, ckT he, ckT (by omega)]
  by_cases q1 : szP 1048576 ns es < 0
  · rw [if_pos q1]
  · obtain ⟨f1, sn, se, f2⟩ := szP_fit (by omega) q1
    have t1 := tot_nonneg ns
    have t2 := tot_nonneg es
    obtain ⟨r, q, ok, hS, hI, hr, hq⟩ := pair_both a d ns es sn se
    have g1 : (0 : Int) ≤ 1 ∧ 1 + tot ns + tot es < 1099511627776 := by omega
    have g2 : ¬ 1 + tot ns + tot es < 0 := by omega
    have g3 : r.length < 1099511627776 := by omega
    have g7 : q.length < 1099511627776 := by omega
    have g4 : (0 : Int) ≤ 1 ∧ (1 : Int) < 1099511627776 := by omega
    have g5 : (0 : Int) ≤ 1 ∧ (1 : Int) + (r.length : Int) < 1099511627776 := by omega
    have g6 : ¬ (1 : Int) + (r.length : Int) < 0 := by omega
    have g8 : (0 : Int) ≤ 1 + (r.length : Int) ∧ 1 + (r.length : Int) < 1099511627776 := by omega
    have g9 : (0 : Int) ≤ 1 + (r.length : Int) ∧ 1 + (r.length : Int) + (q.length : Int) < 1099511627776 := by omega
    have g10 : ¬ (1 : Int) + (r.length : Int) + (q.length : Int) < 0 := by omega
    rw [if_neg q1, ckT sn, ckT se]
    simp only [hS, hI, Option.bind_some, ckT g3, ckT g7, decide_true, sameP_refl, if_true, ckT g1, if_neg g2, ckT g4, upto_len, ckT g5, held_upto, if_neg g6, ckT g8, ckT g9, if_neg g10]
    cases ok <;> rfl
theorem pair_all (ds : List D) (h : Args tys [24] ds) : Y.call 9 ds [] = some (.bool true, []) := by
  rcases ds with _ | ⟨x, _ | ⟨_, _⟩⟩
  · cases h
  · obtain ⟨a, d, ns, es, rfl, _, _, hn, he⟩ := argProblem ty24 ty3 ty22 ty32 ty3 h.1
    exact l_FnExactZeroPair_call a d ns es (pair_law a d ns es (wide_of hn) (wide_of he))
  · exact h.2.elim

end Go.Proofs.Ytjlphfbpaejicaa
