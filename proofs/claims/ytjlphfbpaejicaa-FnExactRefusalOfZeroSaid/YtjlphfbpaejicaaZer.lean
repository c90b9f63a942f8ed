/- Bad pairs of configurations, as plain functions; the first configuration without one; laws. Conditions: none. -/
import Derived.Test.YtjlphfbpaejicaaL6
import Derived.Test.YtjlphfbpaejicaaLoo
namespace Go.Proofs.Ytjlphfbpaejicaa
open Go Dv
set_option linter.unusedSimpArgs false
set_option linter.unusedVariables false
set_option maxRecDepth 100000
set_option maxHeartbeats 4000000

/-- The first number at which P holds. -/
def firstIx (n : Nat) (P : Nat → Bool) : Option Nat := (List.range n).find? P
theorem firstIx_none {n : Nat} {P : Nat → Bool} (h : ∀ i, i < n → P i = false) : firstIx n P = none := by
  unfold firstIx
  rw [List.find?_eq_none]
  intro i hi
  rw [h i (List.mem_range.1 hi)]; decide
theorem firstIx_at {n m : Nat} {P : Nat → Bool} (hm : m < n) (h : P m = true) (h0 : ∀ i, i < m → P i = false) : firstIx n P = some m := by
  unfold firstIx
  rw [List.find?_range_eq_some]
  exact ⟨h, List.mem_range.2 hm, fun j hj => by rw [h0 j hj]; rfl⟩
theorem firstIx_lt {n m : Nat} {P : Nat → Bool} (h : firstIx n P = some m) : m < n ∧ P m = true := by
  unfold firstIx at h
  exact ⟨List.mem_range.1 (List.mem_of_find?_eq_some h), List.find?_some h⟩
/-- A loop that stops at the first number at which P holds. -/
theorem itO_find {σ ρ : Type} (f : σ → Option (σ ⊕ ρ)) (st : Nat → σ) (n : Nat) (P : Nat → Bool) (hit : Nat → ρ) (miss : ρ)
    (h : ∀ i, i < n → f (st i) = if P i = true then some (.inr (hit i)) else some (.inl (st (i + 1)))) (e : f (st n) = some (.inr miss)) :
    itO f (st 0) = some (match firstIx n P with | some i => hit i | none => miss) := by
  by_cases hp : ∀ i, i < n → (!P i) = true
  · have h0 : ∀ i, i < n → P i = false := fun i hi => by simpa using hp i hi
    rw [firstIx_none h0]
    exact itO_for f st n miss (fun i hi => by rw [h i hi, h0 i hi, if_neg (by decide)]) e
  · obtain ⟨m, hm, hpm, h0⟩ := first_fail hp
    have hpm' : P m = true := by simpa using hpm
    have h0' : ∀ i, i < m → P i = false := fun i hi => by simpa using h0 i hi
    rw [firstIx_at hm hpm' h0']
    exact itO_for f st m (hit m) (fun i hi => by rw [h i (by omega), h0' i hi, if_neg (by decide)]) (by rw [h m hm, if_pos hpm'])
/-- The first place in y that does not go with x's place i. -/
def badAt (es : List (List Int)) (x y : List Int) (i : Nat) : Option Nat := firstIx y.length fun j => !hasE es (x.getD i default) (y.getD j default)
/-- The first bad pair of places. -/
def badOf (es : List (List Int)) (x y : List Int) : Option (Nat × Nat) := (firstIx x.length fun i => (badAt es x y i).isSome).map fun i => (i, (badAt es x y i).getD 0)
noncomputable def i_badPair_l0_S (p_Labels : Int) (p_Degree : Int) (p_Nodes : List (List Int)) (p_Edges : List (List Int)) (x_ : List Int) (y : List Int) (t14_ : Int) (t20_ : Int) : Option ((Int) ⊕ (((List Int)) ⊕ Unit)) :=
  if t20_ < (y.length : Int) then
    ck (0 ≤ t20_ ∧ t20_.toNat < y.length) <|
    ck (Short p_Edges) <|
    ck (incL p_Edges = true) <|
    if (hasE p_Edges (x_.getD t14_.toNat default) (y.getD t20_.toNat default)) = true then
      some (Sum.inl (IntKind.i64.wrap (t20_ + 1)))
    else
      some (Sum.inr (Sum.inl [(x_.getD t14_.toNat default), (y.getD t20_.toNat default)]))
  else
    some (Sum.inr (Sum.inr ()))
noncomputable def i_badPair_l0 (p_Labels : Int) (p_Degree : Int) (p_Nodes : List (List Int)) (p_Edges : List (List Int)) (x_ : List Int) (y : List Int) (t14_ : Int) (v : Int) : Option (((List Int)) ⊕ Unit) := itO (fun v => i_badPair_l0_S p_Labels p_Degree p_Nodes p_Edges x_ y t14_ v) v
noncomputable def i_badPair_l1_S (p_Labels : Int) (p_Degree : Int) (p_Nodes : List (List Int)) (p_Edges : List (List Int)) (x_ : List Int) (y : List Int) (t14_ : Int) : Option ((Int) ⊕ (((List Int)) ⊕ Unit)) :=
  if t14_ < (x_.length : Int) then
    ck (0 ≤ t14_ ∧ t14_.toNat < x_.length) <|
    (i_badPair_l0 p_Labels p_Degree p_Nodes p_Edges x_ y t14_ 0).bind fun r4_ =>
    match r4_ with
    | .inl q4_ =>
      some (Sum.inr (Sum.inl q4_))
    | .inr q4_ =>
      some (Sum.inl (IntKind.i64.wrap (t14_ + 1)))
  else
    some (Sum.inr (Sum.inr ()))
noncomputable def i_badPair_l1 (p_Labels : Int) (p_Degree : Int) (p_Nodes : List (List Int)) (p_Edges : List (List Int)) (x_ : List Int) (y : List Int) (v : Int) : Option (((List Int)) ⊕ Unit) := itO (fun v => i_badPair_l1_S p_Labels p_Degree p_Nodes p_Edges x_ y v) v
noncomputable def i_badPair (p_Labels : Int) (p_Degree : Int) (p_Nodes : List (List Int)) (p_Edges : List (List Int)) (x_ : List Int) (y : List Int) : Option ((List Int) × Bool) :=
  (i_badPair_l1 p_Labels p_Degree p_Nodes p_Edges x_ y 0).bind fun r2_ =>
  match r2_ with
  | .inl q2_ =>
    some (q2_, true)
  | .inr q2_ =>
    some ([], false)
/-- impl.badPair -/
def k79_l0b : SC :=
  .seq
    (.ops [
      ⟨(some 21), (Op.binOp BinOp.lss 3 (Operand.tmp 20) (Operand.tmp 19) 3), 0, none⟩])
    (.seq
      (.cond (Operand.tmp 21)
        .skip
        (.exit 2))
      (.seq
        (.block 3
          (.seq
            (.ops [
              ⟨(some 22), (Op.indexAddr 32 (Operand.tmp 18) (Operand.tmp 20)), 0, none⟩,
              ⟨(some 23), (Op.load 3 (Operand.tmp 22)), 3, none⟩,
              ⟨(some 11), (Op.assign (Operand.tmp 23)), 3, none⟩])
            (.seq
              (.ops [
                ⟨(some 24), (Op.load 28 (Operand.tmp 3)), 28, none⟩,
                ⟨(some 25), (Op.move (Operand.tmp 9)), 3, none⟩,
                ⟨(some 26), (Op.move (Operand.tmp 11)), 3, none⟩,
                ⟨(some 27), (Op.call { callee := (Callee.value (Operand.func 59)), args := #[(Operand.tmp 24), (Operand.tmp 25), (Operand.tmp 26)], argTypes := #[28, 3, 3] }), 4, none⟩,
                ⟨(some 28), (Op.unOp UnOp.not 4 (Operand.tmp 27)), 4, none⟩])
              (.cond (Operand.tmp 28)
                (.seq
                  (.ops [
                    ⟨(some 29), (Op.move (Operand.tmp 9)), 3, none⟩,
                    ⟨(some 30), (Op.move (Operand.tmp 11)), 3, none⟩,
                    ⟨(some 31), (Op.buildSlice 32 2 #[(0, (Operand.tmp 29)), (1, (Operand.tmp 30))]), 32, none⟩,
                    ⟨(some 6), (Op.assign (Operand.tmp 31)), 32, none⟩,
                    ⟨(some 7), (Op.assign (Operand.const (Value.bool true))), 4, none⟩])
                  .ret)
                .skip))))
        (.ops [
          ⟨(some 32), (Op.binOp BinOp.add 3 (Operand.tmp 20) (Operand.const (Value.int IntKind.i64 1)) 3), 3, none⟩,
          ⟨(some 20), (Op.move (Operand.tmp 32)), 3, none⟩])))
def k79_l0 : SC := .loop k79_l0b
def k79_l1b : SC :=
  .seq
    (.ops [
      ⟨(some 15), (Op.binOp BinOp.lss 3 (Operand.tmp 14) (Operand.tmp 13) 3), 0, none⟩])
    (.seq
      (.cond (Operand.tmp 15)
        .skip
        (.exit 0))
      (.seq
        (.block 1
          (.seq
            (.ops [
              ⟨(some 16), (Op.indexAddr 32 (Operand.tmp 12) (Operand.tmp 14)), 0, none⟩,
              ⟨(some 17), (Op.load 3 (Operand.tmp 16)), 3, none⟩,
              ⟨(some 9), (Op.assign (Operand.tmp 17)), 3, none⟩])
            (.seq
              (.ops [
                ⟨(some 18), (Op.move (Operand.tmp 2)), 32, none⟩,
                ⟨(some 19), (Op.call { callee := (Callee.builtin Builtin.len), args := #[(Operand.tmp 18)], argTypes := #[32] }), 3, none⟩,
                ⟨(some 20), (Op.move (Operand.const (Value.int IntKind.i64 0))), 3, none⟩])
              (.block 2
                k79_l0))))
        (.ops [
          ⟨(some 33), (Op.binOp BinOp.add 3 (Operand.tmp 14) (Operand.const (Value.int IntKind.i64 1)) 3), 3, none⟩,
          ⟨(some 14), (Op.move (Operand.tmp 33)), 3, none⟩])))
def k79_l1 : SC := .loop k79_l1b
def k79 : SC :=
  .seq
    (.ops [
      ⟨(some 3), (Op.box 28 (Operand.tmp 0)), 0, none⟩,
      ⟨(some 6), (Op.assign (Operand.const (Value.slice none 0 0))), 32, none⟩,
      ⟨(some 7), (Op.assign (Operand.const (Value.bool false))), 4, none⟩])
    (.seq
      (.seq
        (.ops [
          ⟨(some 12), (Op.move (Operand.tmp 1)), 32, none⟩,
          ⟨(some 13), (Op.call { callee := (Callee.builtin Builtin.len), args := #[(Operand.tmp 12)], argTypes := #[32] }), 3, none⟩,
          ⟨(some 14), (Op.move (Operand.const (Value.int IntKind.i64 0))), 3, none⟩])
        (.block 0
          k79_l1))
      (.seq
        (.ops [
          ⟨(some 6), (Op.assign (Operand.const (Value.slice none 0 0))), 32, none⟩,
          ⟨(some 7), (Op.assign (Operand.const (Value.bool false))), 4, none⟩])
        .ret))
theorem slim79 : Try.f79.body.map (slim lends) = some k79 := by kernel_rfl
theorem ok79 : fnOk Try.f79 3 = true := by kernel_rfl
theorem c79 {a l : List D} {r : D × List D} (h : wpD Y.env k79 (fin tys l.length [ResultVar.tmp 6, ResultVar.tmp 7] r) (entry a l)) (ha : a.length = 3) : Y.call 79 a l = some r :=
  call_slim (Y := Y) rfl Try.func79 (ha ▸ ok79) slim79 h
def i_badPair_l0_M (p_Labels : Int) (p_Degree : Int) (p_Nodes : List (List Int)) (p_Edges : List (List Int)) (x_ : List Int) (y : List Int) (t14_ : Int) (t20_ : Int) (s : St) : Prop := s.v 2 = D.sl 3 (lst (D.int .i64) y) ∧ s.v 3 = D.box [D.int .i64 p_Labels, D.int .i64 p_Degree, D.sl 32 (lst (fun x => D.sl 3 (lst (D.int .i64) x)) p_Nodes), D.sl 32 (lst (fun x => D.sl 3 (lst (D.int .i64) x)) p_Edges)] ∧ s.v 9 = D.int .i64 (x_.getD t14_.toNat default) ∧ s.v 12 = D.sl 3 (lst (D.int .i64) x_) ∧ s.v 13 = D.int .i64 (x_.length : Int) ∧ s.v 14 = D.int .i64 t14_ ∧ s.v 18 = D.sl 3 (lst (D.int .i64) y) ∧ s.v 19 = D.int .i64 (y.length : Int) ∧ s.v 20 = D.int .i64 t20_
def i_badPair_l0_X (p_Labels : Int) (p_Degree : Int) (p_Nodes : List (List Int)) (p_Edges : List (List Int)) (x_ : List Int) (y : List Int) (t14_ : Int) (r : ((List Int)) ⊕ Unit) (ex : Ex) (s : St) : Prop := match r with
  | .inl q => ex = .ret ∧ s.v 6 = D.own 3 (lst (D.int .i64) q) ∧ s.v 7 = D.bool true
  | .inr q => ex = .exit 2 ∧ s.v 2 = D.sl 3 (lst (D.int .i64) y) ∧ s.v 3 = D.box [D.int .i64 p_Labels, D.int .i64 p_Degree, D.sl 32 (lst (fun x => D.sl 3 (lst (D.int .i64) x)) p_Nodes), D.sl 32 (lst (fun x => D.sl 3 (lst (D.int .i64) x)) p_Edges)] ∧ s.v 12 = D.sl 3 (lst (D.int .i64) x_) ∧ s.v 13 = D.int .i64 (x_.length : Int) ∧ s.v 14 = D.int .i64 t14_
theorem i_badPair_l0_wp (p_Labels : Int) (p_Degree : Int) (p_Nodes : List (List Int)) (p_Edges : List (List Int)) (x_ : List Int) (y : List Int) (t14_ : Int) {v : Int} {s : St} {r : ((List Int)) ⊕ Unit} (h : i_badPair_l0 p_Labels p_Degree p_Nodes p_Edges x_ y t14_ v = some r) (hM : i_badPair_l0_M p_Labels p_Degree p_Nodes p_Edges x_ y t14_ v s) : wpD Y.env k79_l0 (i_badPair_l0_X p_Labels p_Degree p_Nodes p_Edges x_ y t14_ r) s := by
  unfold i_badPair_l0 at h
  refine wd_itO (c := k79_l0b) (fun v => i_badPair_l0_S p_Labels p_Degree p_Nodes p_Edges x_ y t14_ v) (fun v s => i_badPair_l0_M p_Labels p_Degree p_Nodes p_Edges x_ y t14_ v s) (i_badPair_l0_X p_Labels p_Degree p_Nodes p_Edges x_ y t14_) ?_ h hM
  clear h hM s v r
  intro t20_ s o hM h
  unfold i_badPair_l0_S at h
  unfold i_badPair_l0_M at hM
  obtain ⟨m0, m1, m2, m3, m4, m5, m6, m7, m8⟩ := hM
  unfold k79_l0b
  by_cases e3 : t20_ < (y.length : Int)
  · rw [if_pos e3] at h
    obtain ⟨e4, h⟩ := ckS h
    obtain ⟨e5, h⟩ := ckS h
    obtain ⟨e6, h⟩ := ckS h
    have c7 := i_Problem_edge_cl p_Labels p_Degree p_Nodes p_Edges (x_.getD t14_.toNat default) (y.getD t20_.toNat default) e5 e6
    by_cases e8 : (hasE p_Edges (x_.getD t14_.toNat default) (y.getD t20_.toNat default)) = true
    · rw [if_pos e8] at h
      obtain rfl := Option.some.inj h
      simp (maxDischargeDepth := 9) only [↓xpre, xpost, xlst, xcore, yset, rg0, ↓reduceIte, Nat.reduceEqDiff, Nat.reduceLT, Nat.reduceLeDiff, Nat.reduceAdd, Nat.reduceMul, Nat.reduceMod, Nat.reduceSub, Nat.reduceBEq, Int.reduceLE, Int.reduceLT, Int.reduceEq, Int.reduceSub, Int.reduceAdd, Int.reduceToNat, Int.reduceNeg, m0, m1, m2, m3, m4, m5, m6, m7, m8, e3, e4.1, e4.2, e5, e6, c7, e8, i_badPair_l0_M, i_badPair_l0_X, sxN, sxE, sxR] <;> (repeat' apply And.intro) <;> first | rfl | exact ⟨_, rfl⟩ | simp [lst]
    · rw [if_neg e8] at h
      have e8f : (hasE p_Edges (x_.getD t14_.toNat default) (y.getD t20_.toNat default)) = false := Bool.eq_false_iff.mpr e8
      obtain rfl := Option.some.inj h
      simp (maxDischargeDepth := 9) only [↓xpre, xpost, xlst, xcore, yset, rg0, ↓reduceIte, Nat.reduceEqDiff, Nat.reduceLT, Nat.reduceLeDiff, Nat.reduceAdd, Nat.reduceMul, Nat.reduceMod, Nat.reduceSub, Nat.reduceBEq, Int.reduceLE, Int.reduceLT, Int.reduceEq, Int.reduceSub, Int.reduceAdd, Int.reduceToNat, Int.reduceNeg, m0, m1, m2, m3, m4, m5, m6, m7, m8, e3, e4.1, e4.2, e5, e6, c7, e8f, i_badPair_l0_M, i_badPair_l0_X, sxN, sxE, sxR] <;> (repeat' apply And.intro) <;> first | rfl | exact ⟨_, rfl⟩ | simp [lst]
  · rw [if_neg e3] at h
    obtain rfl := Option.some.inj h
    simp (maxDischargeDepth := 9) only [↓xpre, xpost, xlst, xcore, yset, rg0, ↓reduceIte, Nat.reduceEqDiff, Nat.reduceLT, Nat.reduceLeDiff, Nat.reduceAdd, Nat.reduceMul, Nat.reduceMod, Nat.reduceSub, Nat.reduceBEq, Int.reduceLE, Int.reduceLT, Int.reduceEq, Int.reduceSub, Int.reduceAdd, Int.reduceToNat, Int.reduceNeg, m0, m1, m2, m3, m4, m5, m6, m7, m8, e3, i_badPair_l0_M, i_badPair_l0_X, sxN, sxE, sxR] <;> (repeat' apply And.intro) <;> first | rfl | exact ⟨_, rfl⟩ | simp [lst]
def i_badPair_l1_M (p_Labels : Int) (p_Degree : Int) (p_Nodes : List (List Int)) (p_Edges : List (List Int)) (x_ : List Int) (y : List Int) (t14_ : Int) (s : St) : Prop := s.v 2 = D.sl 3 (lst (D.int .i64) y) ∧ s.v 3 = D.box [D.int .i64 p_Labels, D.int .i64 p_Degree, D.sl 32 (lst (fun x => D.sl 3 (lst (D.int .i64) x)) p_Nodes), D.sl 32 (lst (fun x => D.sl 3 (lst (D.int .i64) x)) p_Edges)] ∧ s.v 12 = D.sl 3 (lst (D.int .i64) x_) ∧ s.v 13 = D.int .i64 (x_.length : Int) ∧ s.v 14 = D.int .i64 t14_
def i_badPair_l1_X (p_Labels : Int) (p_Degree : Int) (p_Nodes : List (List Int)) (p_Edges : List (List Int)) (x_ : List Int) (y : List Int) (r : ((List Int)) ⊕ Unit) (ex : Ex) (s : St) : Prop := match r with
  | .inl q => ex = .ret ∧ s.v 6 = D.own 3 (lst (D.int .i64) q) ∧ s.v 7 = D.bool true
  | .inr q => ex = .exit 0
theorem i_badPair_l1_wp (p_Labels : Int) (p_Degree : Int) (p_Nodes : List (List Int)) (p_Edges : List (List Int)) (x_ : List Int) (y : List Int) {v : Int} {s : St} {r : ((List Int)) ⊕ Unit} (h : i_badPair_l1 p_Labels p_Degree p_Nodes p_Edges x_ y v = some r) (hM : i_badPair_l1_M p_Labels p_Degree p_Nodes p_Edges x_ y v s) : wpD Y.env k79_l1 (i_badPair_l1_X p_Labels p_Degree p_Nodes p_Edges x_ y r) s := by
  unfold i_badPair_l1 at h
  refine wd_itO (c := k79_l1b) (fun v => i_badPair_l1_S p_Labels p_Degree p_Nodes p_Edges x_ y v) (fun v s => i_badPair_l1_M p_Labels p_Degree p_Nodes p_Edges x_ y v s) (i_badPair_l1_X p_Labels p_Degree p_Nodes p_Edges x_ y) ?_ h hM
  clear h hM s v r
  intro t14_ s o hM h
  unfold i_badPair_l1_S at h
  unfold i_badPair_l1_M at hM
  obtain ⟨m0, m1, m2, m3, m4⟩ := hM
  unfold k79_l1b
  by_cases e1 : t14_ < (x_.length : Int)
  · rw [if_pos e1] at h
    obtain ⟨e2, h⟩ := ckS h
    obtain ⟨r4_, hl4, h⟩ := bindS h
    try dsimp only at h
    simp (maxDischargeDepth := 9) only [↓xpre, xpost, xlst, xcore, yset, rg0, ↓reduceIte, Nat.reduceEqDiff, Nat.reduceLT, Nat.reduceLeDiff, Nat.reduceAdd, Nat.reduceMul, Nat.reduceMod, Nat.reduceSub, Nat.reduceBEq, Int.reduceLE, Int.reduceLT, Int.reduceEq, Int.reduceSub, Int.reduceAdd, Int.reduceToNat, Int.reduceNeg, m0, m1, m2, m3, m4, e1, e2.1, e2.2]
    refine wd_mono (i_badPair_l0_wp p_Labels p_Degree p_Nodes p_Edges x_ y t14_ hl4 ?_) ?_
    · simp (maxDischargeDepth := 9) only [↓xpre, xpost, xlst, xcore, yset, rg0, ↓reduceIte, Nat.reduceEqDiff, Nat.reduceLT, Nat.reduceLeDiff, Nat.reduceAdd, Nat.reduceMul, Nat.reduceMod, Nat.reduceSub, Nat.reduceBEq, Int.reduceLE, Int.reduceLT, Int.reduceEq, Int.reduceSub, Int.reduceAdd, Int.reduceToNat, Int.reduceNeg, m0, m1, m2, m3, m4, e1, e2.1, e2.2, i_badPair_l0_M] <;> (repeat' apply And.intro) <;> first | rfl | exact ⟨_, rfl⟩ | simp [lst]
    · intro ex4 s4 hX4
      rcases r4_ with q4_ | q4_
      · unfold i_badPair_l0_X at hX4
        dsimp only at hX4 h
        obtain ⟨rfl, n4_0, n4_1⟩ := hX4
        obtain rfl := Option.some.inj h
        simp (maxDischargeDepth := 9) only [↓xpre, xpost, xlst, xcore, yset, rg0, ↓reduceIte, Nat.reduceEqDiff, Nat.reduceLT, Nat.reduceLeDiff, Nat.reduceAdd, Nat.reduceMul, Nat.reduceMod, Nat.reduceSub, Nat.reduceBEq, Int.reduceLE, Int.reduceLT, Int.reduceEq, Int.reduceSub, Int.reduceAdd, Int.reduceToNat, Int.reduceNeg, e1, e2.1, e2.2, n4_0, n4_1, i_badPair_l1_M, i_badPair_l1_X, sxN, sxE, sxR] <;> (repeat' apply And.intro) <;> first | rfl | exact ⟨_, rfl⟩ | simp [lst]
      · unfold i_badPair_l0_X at hX4
        dsimp only at hX4 h
        obtain ⟨rfl, n4_0, n4_1, n4_2, n4_3, n4_4⟩ := hX4
        obtain rfl := Option.some.inj h
        simp (maxDischargeDepth := 9) only [↓xpre, xpost, xlst, xcore, yset, rg0, ↓reduceIte, Nat.reduceEqDiff, Nat.reduceLT, Nat.reduceLeDiff, Nat.reduceAdd, Nat.reduceMul, Nat.reduceMod, Nat.reduceSub, Nat.reduceBEq, Int.reduceLE, Int.reduceLT, Int.reduceEq, Int.reduceSub, Int.reduceAdd, Int.reduceToNat, Int.reduceNeg, e1, e2.1, e2.2, n4_0, n4_1, n4_2, n4_3, n4_4, i_badPair_l1_M, i_badPair_l1_X, sxN, sxE, sxR] <;> (repeat' apply And.intro) <;> first | rfl | exact ⟨_, rfl⟩ | simp [lst]
  · rw [if_neg e1] at h
    obtain rfl := Option.some.inj h
    simp (maxDischargeDepth := 9) only [↓xpre, xpost, xlst, xcore, yset, rg0, ↓reduceIte, Nat.reduceEqDiff, Nat.reduceLT, Nat.reduceLeDiff, Nat.reduceAdd, Nat.reduceMul, Nat.reduceMod, Nat.reduceSub, Nat.reduceBEq, Int.reduceLE, Int.reduceLT, Int.reduceEq, Int.reduceSub, Int.reduceAdd, Int.reduceToNat, Int.reduceNeg, m0, m1, m2, m3, m4, e1, i_badPair_l1_M, i_badPair_l1_X, sxN, sxE, sxR] <;> (repeat' apply And.intro) <;> first | rfl | exact ⟨_, rfl⟩ | simp [lst]
theorem i_badPair_call (p_Labels : Int) (p_Degree : Int) (p_Nodes : List (List Int)) (p_Edges : List (List Int)) (x_ : List Int) (y : List Int) {r : (List Int) × Bool} (h : i_badPair p_Labels p_Degree p_Nodes p_Edges x_ y = some r) : Y.call 79 [D.agg [D.int .i64 p_Labels, D.int .i64 p_Degree, D.sl 32 (lst (fun x => D.sl 3 (lst (D.int .i64) x)) p_Nodes), D.sl 32 (lst (fun x => D.sl 3 (lst (D.int .i64) x)) p_Edges)], D.sl 3 (lst (D.int .i64) x_), D.sl 3 (lst (D.int .i64) y)] [] = some (D.tup [D.own 3 (lst (D.int .i64) r.1), D.bool r.2], []) := by
  refine c79 ?_ rfl
  unfold k79
  unfold i_badPair at h
  obtain ⟨r2_, hl2, h⟩ := bindS h
  try dsimp only at h
  simp (maxDischargeDepth := 9) only [↓xpre, xpost, xlst, xcore, yset, rg0, ↓reduceIte, Nat.reduceEqDiff, Nat.reduceLT, Nat.reduceLeDiff, Nat.reduceAdd, Nat.reduceMul, Nat.reduceMod, Nat.reduceSub, Nat.reduceBEq, Int.reduceLE, Int.reduceLT, Int.reduceEq, Int.reduceSub, Int.reduceAdd, Int.reduceToNat, Int.reduceNeg]
  refine wd_mono (i_badPair_l1_wp p_Labels p_Degree p_Nodes p_Edges x_ y hl2 ?_) ?_
  · simp (maxDischargeDepth := 9) only [↓xpre, xpost, xlst, xcore, yset, rg0, ↓reduceIte, Nat.reduceEqDiff, Nat.reduceLT, Nat.reduceLeDiff, Nat.reduceAdd, Nat.reduceMul, Nat.reduceMod, Nat.reduceSub, Nat.reduceBEq, Int.reduceLE, Int.reduceLT, Int.reduceEq, Int.reduceSub, Int.reduceAdd, Int.reduceToNat, Int.reduceNeg, i_badPair_l1_M] <;> (repeat' apply And.intro) <;> first | rfl | exact ⟨_, rfl⟩ | simp [lst]
  · intro ex2 s2 hX2
    rcases r2_ with q2_ | q2_
    · unfold i_badPair_l1_X at hX2
      dsimp only at hX2 h
      obtain ⟨rfl, n2_0, n2_1⟩ := hX2
      obtain rfl := Option.some.inj h
      simp (maxDischargeDepth := 9) only [↓xpre, xpost, xlst, xcore, yset, rg0, ↓reduceIte, Nat.reduceEqDiff, Nat.reduceLT, Nat.reduceLeDiff, Nat.reduceAdd, Nat.reduceMul, Nat.reduceMod, Nat.reduceSub, Nat.reduceBEq, Int.reduceLE, Int.reduceLT, Int.reduceEq, Int.reduceSub, Int.reduceAdd, Int.reduceToNat, Int.reduceNeg, n2_0, n2_1] <;> (repeat' apply And.intro) <;> first | rfl | exact ⟨_, rfl⟩ | simp [lst]
    · unfold i_badPair_l1_X at hX2
      dsimp only at hX2 h
      obtain rfl := hX2
      obtain rfl := Option.some.inj h
      simp (maxDischargeDepth := 9) only [↓xpre, xpost, xlst, xcore, yset, rg0, ↓reduceIte, Nat.reduceEqDiff, Nat.reduceLT, Nat.reduceLeDiff, Nat.reduceAdd, Nat.reduceMul, Nat.reduceMod, Nat.reduceSub, Nat.reduceBEq, Int.reduceLE, Int.reduceLT, Int.reduceEq, Int.reduceSub, Int.reduceAdd, Int.reduceToNat, Int.reduceNeg] <;> (repeat' apply And.intro) <;> first | rfl | exact ⟨_, rfl⟩ | simp [lst]

noncomputable def s_zeBad_l0_S (p_Labels : Int) (p_Degree : Int) (p_Nodes : List (List Int)) (p_Edges : List (List Int)) (x_ : List Int) (y : List Int) (t15_ : Int) (t22_ : Int) : Option ((Int) ⊕ (Int ⊕ Unit)) :=
  if t22_ < (y.length : Int) then
    ck (0 ≤ t22_ ∧ t22_.toNat < y.length) <|
    ck (Short p_Edges) <|
    if (hasE p_Edges (x_.getD t15_.toNat default) (y.getD t22_.toNat default)) = true then
      some (Sum.inl (IntKind.i64.wrap (t22_ + 1)))
    else
      some (Sum.inr (Sum.inl t22_))
  else
    some (Sum.inr (Sum.inr ()))
noncomputable def s_zeBad_l0 (p_Labels : Int) (p_Degree : Int) (p_Nodes : List (List Int)) (p_Edges : List (List Int)) (x_ : List Int) (y : List Int) (t15_ : Int) (v : Int) : Option (Int ⊕ Unit) := itO (fun v => s_zeBad_l0_S p_Labels p_Degree p_Nodes p_Edges x_ y t15_ v) v
noncomputable def s_zeBad_l1_S (p_Labels : Int) (p_Degree : Int) (p_Nodes : List (List Int)) (p_Edges : List (List Int)) (x_ : List Int) (y : List Int) (t15_ : Int) : Option ((Int) ⊕ ((Int × Int) ⊕ Unit)) :=
  if t15_ < (x_.length : Int) then
    ck (0 ≤ t15_ ∧ t15_.toNat < x_.length) <|
    (s_zeBad_l0 p_Labels p_Degree p_Nodes p_Edges x_ y t15_ 0).bind fun r4_ =>
    match r4_ with
    | .inl q4_ =>
      some (Sum.inr (Sum.inl (t15_, q4_)))
    | .inr q4_ =>
      some (Sum.inl (IntKind.i64.wrap (t15_ + 1)))
  else
    some (Sum.inr (Sum.inr ()))
noncomputable def s_zeBad_l1 (p_Labels : Int) (p_Degree : Int) (p_Nodes : List (List Int)) (p_Edges : List (List Int)) (x_ : List Int) (y : List Int) (v : Int) : Option ((Int × Int) ⊕ Unit) := itO (fun v => s_zeBad_l1_S p_Labels p_Degree p_Nodes p_Edges x_ y v) v
noncomputable def s_zeBad (p_Labels : Int) (p_Degree : Int) (p_Nodes : List (List Int)) (p_Edges : List (List Int)) (x_ : List Int) (y : List Int) : Option (Int × Int × Bool) :=
  (s_zeBad_l1 p_Labels p_Degree p_Nodes p_Edges x_ y 0).bind fun r2_ =>
  match r2_ with
  | .inl q2_ =>
    some (q2_.1, q2_.2, true)
  | .inr q2_ =>
    some (0, 0, false)
/-- spec.zeBad -/
def k78_l0b : SC :=
  .seq
    (.ops [
      ⟨(some 23), (Op.binOp BinOp.lss 3 (Operand.tmp 22) (Operand.tmp 21) 3), 0, none⟩])
    (.seq
      (.cond (Operand.tmp 23)
        .skip
        (.exit 2))
      (.seq
        (.block 3
          (.seq
            (.ops [
              ⟨(some 24), (Op.move (Operand.tmp 22)), 3, none⟩,
              ⟨(some 25), (Op.indexAddr 32 (Operand.tmp 20) (Operand.tmp 22)), 0, none⟩,
              ⟨(some 26), (Op.load 3 (Operand.tmp 25)), 3, none⟩,
              ⟨(some 11), (Op.assign (Operand.tmp 24)), 3, none⟩,
              ⟨(some 12), (Op.assign (Operand.tmp 26)), 3, none⟩])
            (.seq
              (.ops [
                ⟨(some 27), (Op.load 28 (Operand.tmp 3)), 28, none⟩,
                ⟨(some 28), (Op.move (Operand.tmp 10)), 3, none⟩,
                ⟨(some 29), (Op.move (Operand.tmp 12)), 3, none⟩,
                ⟨(some 30), (Op.call { callee := (Callee.value (Operand.func 57)), args := #[(Operand.tmp 27), (Operand.tmp 28), (Operand.tmp 29)], argTypes := #[28, 3, 3] }), 4, none⟩,
                ⟨(some 31), (Op.unOp UnOp.not 4 (Operand.tmp 30)), 4, none⟩])
              (.cond (Operand.tmp 31)
                (.seq
                  (.ops [
                    ⟨(some 32), (Op.move (Operand.tmp 9)), 3, none⟩,
                    ⟨(some 33), (Op.move (Operand.tmp 11)), 3, none⟩,
                    ⟨(some 6), (Op.assign (Operand.tmp 32)), 3, none⟩,
                    ⟨(some 7), (Op.assign (Operand.tmp 33)), 3, none⟩,
                    ⟨(some 8), (Op.assign (Operand.const (Value.bool true))), 4, none⟩])
                  .ret)
                .skip))))
        (.ops [
          ⟨(some 34), (Op.binOp BinOp.add 3 (Operand.tmp 22) (Operand.const (Value.int IntKind.i64 1)) 3), 3, none⟩,
          ⟨(some 22), (Op.move (Operand.tmp 34)), 3, none⟩])))
def k78_l0 : SC := .loop k78_l0b
def k78_l1b : SC :=
  .seq
    (.ops [
      ⟨(some 16), (Op.binOp BinOp.lss 3 (Operand.tmp 15) (Operand.tmp 14) 3), 0, none⟩])
    (.seq
      (.cond (Operand.tmp 16)
        .skip
        (.exit 0))
      (.seq
        (.block 1
          (.seq
            (.ops [
              ⟨(some 17), (Op.move (Operand.tmp 15)), 3, none⟩,
              ⟨(some 18), (Op.indexAddr 32 (Operand.tmp 13) (Operand.tmp 15)), 0, none⟩,
              ⟨(some 19), (Op.load 3 (Operand.tmp 18)), 3, none⟩,
              ⟨(some 9), (Op.assign (Operand.tmp 17)), 3, none⟩,
              ⟨(some 10), (Op.assign (Operand.tmp 19)), 3, none⟩])
            (.seq
              (.ops [
                ⟨(some 20), (Op.move (Operand.tmp 2)), 32, none⟩,
                ⟨(some 21), (Op.call { callee := (Callee.builtin Builtin.len), args := #[(Operand.tmp 20)], argTypes := #[32] }), 3, none⟩,
                ⟨(some 22), (Op.move (Operand.const (Value.int IntKind.i64 0))), 3, none⟩])
              (.block 2
                k78_l0))))
        (.ops [
          ⟨(some 35), (Op.binOp BinOp.add 3 (Operand.tmp 15) (Operand.const (Value.int IntKind.i64 1)) 3), 3, none⟩,
          ⟨(some 15), (Op.move (Operand.tmp 35)), 3, none⟩])))
def k78_l1 : SC := .loop k78_l1b
def k78 : SC :=
  .seq
    (.ops [
      ⟨(some 3), (Op.box 28 (Operand.tmp 0)), 0, none⟩,
      ⟨(some 6), (Op.assign (Operand.const (Value.int IntKind.i64 0))), 3, none⟩,
      ⟨(some 7), (Op.assign (Operand.const (Value.int IntKind.i64 0))), 3, none⟩,
      ⟨(some 8), (Op.assign (Operand.const (Value.bool false))), 4, none⟩])
    (.seq
      (.seq
        (.ops [
          ⟨(some 13), (Op.move (Operand.tmp 1)), 32, none⟩,
          ⟨(some 14), (Op.call { callee := (Callee.builtin Builtin.len), args := #[(Operand.tmp 13)], argTypes := #[32] }), 3, none⟩,
          ⟨(some 15), (Op.move (Operand.const (Value.int IntKind.i64 0))), 3, none⟩])
        (.block 0
          k78_l1))
      (.seq
        (.ops [
          ⟨(some 6), (Op.assign (Operand.const (Value.int IntKind.i64 0))), 3, none⟩,
          ⟨(some 7), (Op.assign (Operand.const (Value.int IntKind.i64 0))), 3, none⟩,
          ⟨(some 8), (Op.assign (Operand.const (Value.bool false))), 4, none⟩])
        .ret))
theorem slim78 : Try.f78.body.map (slim lends) = some k78 := by kernel_rfl
theorem ok78 : fnOk Try.f78 3 = true := by kernel_rfl
theorem c78 {a l : List D} {r : D × List D} (h : wpD Y.env k78 (fin tys l.length [ResultVar.tmp 6, ResultVar.tmp 7, ResultVar.tmp 8] r) (entry a l)) (ha : a.length = 3) : Y.call 78 a l = some r :=
  call_slim (Y := Y) rfl Try.func78 (ha ▸ ok78) slim78 h
def s_zeBad_l0_M (p_Labels : Int) (p_Degree : Int) (p_Nodes : List (List Int)) (p_Edges : List (List Int)) (x_ : List Int) (y : List Int) (t15_ : Int) (t22_ : Int) (s : St) : Prop := s.v 2 = D.sl 3 (lst (D.int .i64) y) ∧ s.v 3 = D.box [D.int .i64 p_Labels, D.int .i64 p_Degree, D.sl 32 (lst (fun x => D.sl 3 (lst (D.int .i64) x)) p_Nodes), D.sl 32 (lst (fun x => D.sl 3 (lst (D.int .i64) x)) p_Edges)] ∧ s.v 9 = D.int .i64 t15_ ∧ s.v 10 = D.int .i64 (x_.getD t15_.toNat default) ∧ s.v 13 = D.sl 3 (lst (D.int .i64) x_) ∧ s.v 14 = D.int .i64 (x_.length : Int) ∧ s.v 15 = D.int .i64 t15_ ∧ s.v 20 = D.sl 3 (lst (D.int .i64) y) ∧ s.v 21 = D.int .i64 (y.length : Int) ∧ s.v 22 = D.int .i64 t22_
def s_zeBad_l0_X (p_Labels : Int) (p_Degree : Int) (p_Nodes : List (List Int)) (p_Edges : List (List Int)) (x_ : List Int) (y : List Int) (t15_ : Int) (r : Int ⊕ Unit) (ex : Ex) (s : St) : Prop := match r with
  | .inl q => ex = .ret ∧ s.v 6 = D.int .i64 t15_ ∧ s.v 7 = D.int .i64 q ∧ s.v 8 = D.bool true
  | .inr q => ex = .exit 2 ∧ s.v 2 = D.sl 3 (lst (D.int .i64) y) ∧ s.v 3 = D.box [D.int .i64 p_Labels, D.int .i64 p_Degree, D.sl 32 (lst (fun x => D.sl 3 (lst (D.int .i64) x)) p_Nodes), D.sl 32 (lst (fun x => D.sl 3 (lst (D.int .i64) x)) p_Edges)] ∧ s.v 13 = D.sl 3 (lst (D.int .i64) x_) ∧ s.v 14 = D.int .i64 (x_.length : Int) ∧ s.v 15 = D.int .i64 t15_
theorem s_zeBad_l0_wp (p_Labels : Int) (p_Degree : Int) (p_Nodes : List (List Int)) (p_Edges : List (List Int)) (x_ : List Int) (y : List Int) (t15_ : Int) {v : Int} {s : St} {r : Int ⊕ Unit} (h : s_zeBad_l0 p_Labels p_Degree p_Nodes p_Edges x_ y t15_ v = some r) (hM : s_zeBad_l0_M p_Labels p_Degree p_Nodes p_Edges x_ y t15_ v s) : wpD Y.env k78_l0 (s_zeBad_l0_X p_Labels p_Degree p_Nodes p_Edges x_ y t15_ r) s := by
  unfold s_zeBad_l0 at h
  refine wd_itO (c := k78_l0b) (fun v => s_zeBad_l0_S p_Labels p_Degree p_Nodes p_Edges x_ y t15_ v) (fun v s => s_zeBad_l0_M p_Labels p_Degree p_Nodes p_Edges x_ y t15_ v s) (s_zeBad_l0_X p_Labels p_Degree p_Nodes p_Edges x_ y t15_) ?_ h hM
  clear h hM s v r
  intro t22_ s o hM h
  unfold s_zeBad_l0_S at h
  unfold s_zeBad_l0_M at hM
  obtain ⟨m0, m1, m2, m3, m4, m5, m6, m7, m8, m9⟩ := hM
  unfold k78_l0b
  by_cases e3 : t22_ < (y.length : Int)
  · rw [if_pos e3] at h
    obtain ⟨e4, h⟩ := ckS h
    obtain ⟨e5, h⟩ := ckS h
    have c6 := s_prEdge_cl p_Labels p_Degree p_Nodes p_Edges (x_.getD t15_.toNat default) (y.getD t22_.toNat default) e5
    by_cases e7 : (hasE p_Edges (x_.getD t15_.toNat default) (y.getD t22_.toNat default)) = true
    · rw [if_pos e7] at h
      obtain rfl := Option.some.inj h
      simp (maxDischargeDepth := 9) only [↓xpre, xpost, xlst, xcore, yset, rg0, ↓reduceIte, Nat.reduceEqDiff, Nat.reduceLT, Nat.reduceLeDiff, Nat.reduceAdd, Nat.reduceMul, Nat.reduceMod, Nat.reduceSub, Nat.reduceBEq, Int.reduceLE, Int.reduceLT, Int.reduceEq, Int.reduceSub, Int.reduceAdd, Int.reduceToNat, Int.reduceNeg, m0, m1, m2, m3, m4, m5, m6, m7, m8, m9, e3, e4.1, e4.2, e5, c6, e7, s_zeBad_l0_M, s_zeBad_l0_X, sxN, sxE, sxR] <;> (repeat' apply And.intro) <;> first | rfl | exact ⟨_, rfl⟩ | simp [lst]
    · rw [if_neg e7] at h
      have e7f : (hasE p_Edges (x_.getD t15_.toNat default) (y.getD t22_.toNat default)) = false := Bool.eq_false_iff.mpr e7
      obtain rfl := Option.some.inj h
      simp (maxDischargeDepth := 9) only [↓xpre, xpost, xlst, xcore, yset, rg0, ↓reduceIte, Nat.reduceEqDiff, Nat.reduceLT, Nat.reduceLeDiff, Nat.reduceAdd, Nat.reduceMul, Nat.reduceMod, Nat.reduceSub, Nat.reduceBEq, Int.reduceLE, Int.reduceLT, Int.reduceEq, Int.reduceSub, Int.reduceAdd, Int.reduceToNat, Int.reduceNeg, m0, m1, m2, m3, m4, m5, m6, m7, m8, m9, e3, e4.1, e4.2, e5, c6, e7f, s_zeBad_l0_M, s_zeBad_l0_X, sxN, sxE, sxR] <;> (repeat' apply And.intro) <;> first | rfl | exact ⟨_, rfl⟩ | simp [lst]
  · rw [if_neg e3] at h
    obtain rfl := Option.some.inj h
    simp (maxDischargeDepth := 9) only [↓xpre, xpost, xlst, xcore, yset, rg0, ↓reduceIte, Nat.reduceEqDiff, Nat.reduceLT, Nat.reduceLeDiff, Nat.reduceAdd, Nat.reduceMul, Nat.reduceMod, Nat.reduceSub, Nat.reduceBEq, Int.reduceLE, Int.reduceLT, Int.reduceEq, Int.reduceSub, Int.reduceAdd, Int.reduceToNat, Int.reduceNeg, m0, m1, m2, m3, m4, m5, m6, m7, m8, m9, e3, s_zeBad_l0_M, s_zeBad_l0_X, sxN, sxE, sxR] <;> (repeat' apply And.intro) <;> first | rfl | exact ⟨_, rfl⟩ | simp [lst]
def s_zeBad_l1_M (p_Labels : Int) (p_Degree : Int) (p_Nodes : List (List Int)) (p_Edges : List (List Int)) (x_ : List Int) (y : List Int) (t15_ : Int) (s : St) : Prop := s.v 2 = D.sl 3 (lst (D.int .i64) y) ∧ s.v 3 = D.box [D.int .i64 p_Labels, D.int .i64 p_Degree, D.sl 32 (lst (fun x => D.sl 3 (lst (D.int .i64) x)) p_Nodes), D.sl 32 (lst (fun x => D.sl 3 (lst (D.int .i64) x)) p_Edges)] ∧ s.v 13 = D.sl 3 (lst (D.int .i64) x_) ∧ s.v 14 = D.int .i64 (x_.length : Int) ∧ s.v 15 = D.int .i64 t15_
def s_zeBad_l1_X (p_Labels : Int) (p_Degree : Int) (p_Nodes : List (List Int)) (p_Edges : List (List Int)) (x_ : List Int) (y : List Int) (r : (Int × Int) ⊕ Unit) (ex : Ex) (s : St) : Prop := match r with
  | .inl q => ex = .ret ∧ s.v 6 = D.int .i64 q.1 ∧ s.v 7 = D.int .i64 q.2 ∧ s.v 8 = D.bool true
  | .inr q => ex = .exit 0
theorem s_zeBad_l1_wp (p_Labels : Int) (p_Degree : Int) (p_Nodes : List (List Int)) (p_Edges : List (List Int)) (x_ : List Int) (y : List Int) {v : Int} {s : St} {r : (Int × Int) ⊕ Unit} (h : s_zeBad_l1 p_Labels p_Degree p_Nodes p_Edges x_ y v = some r) (hM : s_zeBad_l1_M p_Labels p_Degree p_Nodes p_Edges x_ y v s) : wpD Y.env k78_l1 (s_zeBad_l1_X p_Labels p_Degree p_Nodes p_Edges x_ y r) s := by
  unfold s_zeBad_l1 at h
  refine wd_itO (c := k78_l1b) (fun v => s_zeBad_l1_S p_Labels p_Degree p_Nodes p_Edges x_ y v) (fun v s => s_zeBad_l1_M p_Labels p_Degree p_Nodes p_Edges x_ y v s) (s_zeBad_l1_X p_Labels p_Degree p_Nodes p_Edges x_ y) ?_ h hM
  clear h hM s v r
  intro t15_ s o hM h
  unfold s_zeBad_l1_S at h
  unfold s_zeBad_l1_M at hM
  obtain ⟨m0, m1, m2, m3, m4⟩ := hM
  unfold k78_l1b
  by_cases e1 : t15_ < (x_.length : Int)
  · rw [if_pos e1] at h
    obtain ⟨e2, h⟩ := ckS h
    obtain ⟨r4_, hl4, h⟩ := bindS h
    try dsimp only at h
    simp (maxDischargeDepth := 9) only [↓xpre, xpost, xlst, xcore, yset, rg0, ↓reduceIte, Nat.reduceEqDiff, Nat.reduceLT, Nat.reduceLeDiff, Nat.reduceAdd, Nat.reduceMul, Nat.reduceMod, Nat.reduceSub, Nat.reduceBEq, Int.reduceLE, Int.reduceLT, Int.reduceEq, Int.reduceSub, Int.reduceAdd, Int.reduceToNat, Int.reduceNeg, m0, m1, m2, m3, m4, e1, e2.1, e2.2]
    refine wd_mono (s_zeBad_l0_wp p_Labels p_Degree p_Nodes p_Edges x_ y t15_ hl4 ?_) ?_
    · simp (maxDischargeDepth := 9) only [↓xpre, xpost, xlst, xcore, yset, rg0, ↓reduceIte, Nat.reduceEqDiff, Nat.reduceLT, Nat.reduceLeDiff, Nat.reduceAdd, Nat.reduceMul, Nat.reduceMod, Nat.reduceSub, Nat.reduceBEq, Int.reduceLE, Int.reduceLT, Int.reduceEq, Int.reduceSub, Int.reduceAdd, Int.reduceToNat, Int.reduceNeg, m0, m1, m2, m3, m4, e1, e2.1, e2.2, s_zeBad_l0_M] <;> (repeat' apply And.intro) <;> first | rfl | exact ⟨_, rfl⟩ | simp [lst]
    · intro ex4 s4 hX4
      rcases r4_ with q4_ | q4_
      · unfold s_zeBad_l0_X at hX4
        dsimp only at hX4 h
        obtain ⟨rfl, n4_0, n4_1, n4_2⟩ := hX4
        obtain rfl := Option.some.inj h
        simp (maxDischargeDepth := 9) only [↓xpre, xpost, xlst, xcore, yset, rg0, ↓reduceIte, Nat.reduceEqDiff, Nat.reduceLT, Nat.reduceLeDiff, Nat.reduceAdd, Nat.reduceMul, Nat.reduceMod, Nat.reduceSub, Nat.reduceBEq, Int.reduceLE, Int.reduceLT, Int.reduceEq, Int.reduceSub, Int.reduceAdd, Int.reduceToNat, Int.reduceNeg, e1, e2.1, e2.2, n4_0, n4_1, n4_2, s_zeBad_l1_M, s_zeBad_l1_X, sxN, sxE, sxR] <;> (repeat' apply And.intro) <;> first | rfl | exact ⟨_, rfl⟩ | simp [lst]
      · unfold s_zeBad_l0_X at hX4
        dsimp only at hX4 h
        obtain ⟨rfl, n4_0, n4_1, n4_2, n4_3, n4_4⟩ := hX4
        obtain rfl := Option.some.inj h
        simp (maxDischargeDepth := 9) only [↓xpre, xpost, xlst, xcore, yset, rg0, ↓reduceIte, Nat.reduceEqDiff, Nat.reduceLT, Nat.reduceLeDiff, Nat.reduceAdd, Nat.reduceMul, Nat.reduceMod, Nat.reduceSub, Nat.reduceBEq, Int.reduceLE, Int.reduceLT, Int.reduceEq, Int.reduceSub, Int.reduceAdd, Int.reduceToNat, Int.reduceNeg, e1, e2.1, e2.2, n4_0, n4_1, n4_2, n4_3, n4_4, s_zeBad_l1_M, s_zeBad_l1_X, sxN, sxE, sxR] <;> (repeat' apply And.intro) <;> first | rfl | exact ⟨_, rfl⟩ | simp [lst]
  · rw [if_neg e1] at h
    obtain rfl := Option.some.inj h
    simp (maxDischargeDepth := 9) only [↓xpre, xpost, xlst, xcore, yset, rg0, ↓reduceIte, Nat.reduceEqDiff, Nat.reduceLT, Nat.reduceLeDiff, Nat.reduceAdd, Nat.reduceMul, Nat.reduceMod, Nat.reduceSub, Nat.reduceBEq, Int.reduceLE, Int.reduceLT, Int.reduceEq, Int.reduceSub, Int.reduceAdd, Int.reduceToNat, Int.reduceNeg, m0, m1, m2, m3, m4, e1, s_zeBad_l1_M, s_zeBad_l1_X, sxN, sxE, sxR] <;> (repeat' apply And.intro) <;> first | rfl | exact ⟨_, rfl⟩ | simp [lst]
theorem s_zeBad_call (p_Labels : Int) (p_Degree : Int) (p_Nodes : List (List Int)) (p_Edges : List (List Int)) (x_ : List Int) (y : List Int) {r : Int × Int × Bool} (h : s_zeBad p_Labels p_Degree p_Nodes p_Edges x_ y = some r) : Y.call 78 [D.agg [D.int .i64 p_Labels, D.int .i64 p_Degree, D.sl 32 (lst (fun x => D.sl 3 (lst (D.int .i64) x)) p_Nodes), D.sl 32 (lst (fun x => D.sl 3 (lst (D.int .i64) x)) p_Edges)], D.sl 3 (lst (D.int .i64) x_), D.sl 3 (lst (D.int .i64) y)] [] = some (D.tup [D.int .i64 r.1, D.int .i64 r.2.1, D.bool r.2.2], []) := by
  refine c78 ?_ rfl
  unfold k78
  unfold s_zeBad at h
  obtain ⟨r2_, hl2, h⟩ := bindS h
  try dsimp only at h
  simp (maxDischargeDepth := 9) only [↓xpre, xpost, xlst, xcore, yset, rg0, ↓reduceIte, Nat.reduceEqDiff, Nat.reduceLT, Nat.reduceLeDiff, Nat.reduceAdd, Nat.reduceMul, Nat.reduceMod, Nat.reduceSub, Nat.reduceBEq, Int.reduceLE, Int.reduceLT, Int.reduceEq, Int.reduceSub, Int.reduceAdd, Int.reduceToNat, Int.reduceNeg]
  refine wd_mono (s_zeBad_l1_wp p_Labels p_Degree p_Nodes p_Edges x_ y hl2 ?_) ?_
  · simp (maxDischargeDepth := 9) only [↓xpre, xpost, xlst, xcore, yset, rg0, ↓reduceIte, Nat.reduceEqDiff, Nat.reduceLT, Nat.reduceLeDiff, Nat.reduceAdd, Nat.reduceMul, Nat.reduceMod, Nat.reduceSub, Nat.reduceBEq, Int.reduceLE, Int.reduceLT, Int.reduceEq, Int.reduceSub, Int.reduceAdd, Int.reduceToNat, Int.reduceNeg, s_zeBad_l1_M] <;> (repeat' apply And.intro) <;> first | rfl | exact ⟨_, rfl⟩ | simp [lst]
  · intro ex2 s2 hX2
    rcases r2_ with q2_ | q2_
    · unfold s_zeBad_l1_X at hX2
      dsimp only at hX2 h
      obtain ⟨rfl, n2_0, n2_1, n2_2⟩ := hX2
      obtain rfl := Option.some.inj h
      simp (maxDischargeDepth := 9) only [↓xpre, xpost, xlst, xcore, yset, rg0, ↓reduceIte, Nat.reduceEqDiff, Nat.reduceLT, Nat.reduceLeDiff, Nat.reduceAdd, Nat.reduceMul, Nat.reduceMod, Nat.reduceSub, Nat.reduceBEq, Int.reduceLE, Int.reduceLT, Int.reduceEq, Int.reduceSub, Int.reduceAdd, Int.reduceToNat, Int.reduceNeg, n2_0, n2_1, n2_2] <;> (repeat' apply And.intro) <;> first | rfl | exact ⟨_, rfl⟩ | simp [lst]
    · unfold s_zeBad_l1_X at hX2
      dsimp only at hX2 h
      obtain rfl := hX2
      obtain rfl := Option.some.inj h
      simp (maxDischargeDepth := 9) only [↓xpre, xpost, xlst, xcore, yset, rg0, ↓reduceIte, Nat.reduceEqDiff, Nat.reduceLT, Nat.reduceLeDiff, Nat.reduceAdd, Nat.reduceMul, Nat.reduceMod, Nat.reduceSub, Nat.reduceBEq, Int.reduceLE, Int.reduceLT, Int.reduceEq, Int.reduceSub, Int.reduceAdd, Int.reduceToNat, Int.reduceNeg] <;> (repeat' apply And.intro) <;> first | rfl | exact ⟨_, rfl⟩ | simp [lst]

theorem i_badPair_eq (l d : Int) (ns es : List (List Int)) (x y : List Int) (h1 : Short es) (h2 : incL es = true) (hx : x.length < 1099511627776) (hy : y.length < 1099511627776) :
    i_badPair l d ns es x y = some (match badOf es x y with | some q => ([x.getD q.1 default, y.getD q.2 default], true) | none => ([], false)) := by
  have inner : ∀ i : Nat, i < x.length → i_badPair_l0 l d ns es x y (i : Int) 0 = some (match badAt es x y i with | some j => .inl [x.getD i default, y.getD j default] | none => .inr ()) := by
    intro i hi
    unfold i_badPair_l0 badAt
    refine itO_find (fun v => i_badPair_l0_S l d ns es x y (i : Int) v) (fun j => (j : Int)) y.length (fun j => !hasE es (x.getD i default) (y.getD j default)) (fun j => .inl [x.getD i default, y.getD j default]) (.inr ()) ?_ ?_
    · intro j hj
      simp only [i_badPair_l0_S]
      rw [if_pos (lt_nat hj), ckT (ix_nat hj), ckT h1, ckT h2, wrS j (by omega), Int.toNat_natCast, Int.toNat_natCast]
      cases hasE es (x.getD i default) (y.getD j default) <;> simp
    · simp only [i_badPair_l0_S]
      rw [if_neg (not_lt_nat _)]
  have outer : i_badPair_l1 l d ns es x y 0 = some (match firstIx x.length (fun i => (badAt es x y i).isSome) with | some i => .inl [x.getD i default, y.getD ((badAt es x y i).getD 0) default] | none => .inr ()) := by
    unfold i_badPair_l1
    refine itO_find (fun v => i_badPair_l1_S l d ns es x y v) (fun j => (j : Int)) x.length (fun i => (badAt es x y i).isSome) (fun i => .inl [x.getD i default, y.getD ((badAt es x y i).getD 0) default]) (.inr ()) ?_ ?_
    · intro i hi
      simp only [i_badPair_l1_S]
      rw [if_pos (lt_nat hi), ckT (ix_nat hi), inner i hi, Option.bind_some, wrS i (by omega)]
      cases badAt es x y i <;> simp
    · simp only [i_badPair_l1_S]
      rw [if_neg (not_lt_nat _)]
  unfold i_badPair badOf
  rw [outer, Option.bind_some]
  cases firstIx x.length (fun i => (badAt es x y i).isSome) <;> rfl
theorem s_zeBad_eq (l d : Int) (ns es : List (List Int)) (x y : List Int) (h1 : Short es) (hx : x.length < 1099511627776) (hy : y.length < 1099511627776) :
    s_zeBad l d ns es x y = some (match badOf es x y with | some q => ((q.1 : Int), (q.2 : Int), true) | none => (0, 0, false)) := by
  have inner : ∀ i : Nat, i < x.length → s_zeBad_l0 l d ns es x y (i : Int) 0 = some (match badAt es x y i with | some j => .inl (j : Int) | none => .inr ()) := by
    intro i hi
    unfold s_zeBad_l0 badAt
    refine itO_find (fun v => s_zeBad_l0_S l d ns es x y (i : Int) v) (fun j => (j : Int)) y.length (fun j => !hasE es (x.getD i default) (y.getD j default)) (fun j => .inl (j : Int)) (.inr ()) ?_ ?_
    · intro j hj
      simp only [s_zeBad_l0_S]
      rw [if_pos (lt_nat hj), ckT (ix_nat hj), ckT h1, wrS j (by omega), Int.toNat_natCast, Int.toNat_natCast]
      cases hasE es (x.getD i default) (y.getD j default) <;> simp
    · simp only [s_zeBad_l0_S]
      rw [if_neg (not_lt_nat _)]
  have outer : s_zeBad_l1 l d ns es x y 0 = some (match firstIx x.length (fun i => (badAt es x y i).isSome) with | some i => .inl ((i : Int), (((badAt es x y i).getD 0 : Nat) : Int)) | none => .inr ()) := by
    unfold s_zeBad_l1
    refine itO_find (fun v => s_zeBad_l1_S l d ns es x y v) (fun j => (j : Int)) x.length (fun i => (badAt es x y i).isSome) (fun i => .inl ((i : Int), (((badAt es x y i).getD 0 : Nat) : Int))) (.inr ()) ?_ ?_
    · intro i hi
      simp only [s_zeBad_l1_S]
      rw [if_pos (lt_nat hi), ckT (ix_nat hi), inner i hi, Option.bind_some, wrS i (by omega)]
      cases badAt es x y i <;> simp
    · simp only [s_zeBad_l1_S]
      rw [if_neg (not_lt_nat _)]
  unfold s_zeBad badOf
  rw [outer, Option.bind_some]
  cases firstIx x.length (fun i => (badAt es x y i).isSome) <;> rfl
noncomputable def s_zePairs (p_Labels : Int) (p_Degree : Int) (p_Nodes : List (List Int)) (p_Edges : List (List Int)) (x_ : List Int) (y : List Int) : Option (Bool) :=
  (s_zeBad p_Labels p_Degree p_Nodes p_Edges x_ y).bind fun r1_ =>
  some (!r1_.2.2)
/-- spec.zePairs -/
def k90 : SC :=
  .seq
    (.ops [
      ⟨(some 3), (Op.box 28 (Operand.tmp 0)), 0, none⟩,
      ⟨(some 6), (Op.assign (Operand.const (Value.bool false))), 4, none⟩])
    (.seq
      (.ops [
        ⟨(some 11), (Op.load 28 (Operand.tmp 3)), 28, none⟩,
        ⟨(some 12), (Op.move (Operand.tmp 1)), 32, none⟩,
        ⟨(some 13), (Op.move (Operand.tmp 2)), 32, none⟩,
        ⟨(some 14), (Op.call { callee := (Callee.value (Operand.func 78)), args := #[(Operand.tmp 11), (Operand.tmp 12), (Operand.tmp 13)], argTypes := #[28, 32, 32] }), 58, none⟩,
        ⟨(some 10), (Op.move (Operand.tmp 14)), 58, none⟩,
        ⟨(some 15), (Op.extract (Operand.tmp 10) 0), 3, none⟩,
        ⟨(some 16), (Op.extract (Operand.tmp 10) 1), 3, none⟩,
        ⟨(some 17), (Op.extract (Operand.tmp 10) 2), 4, none⟩,
        ⟨(some 7), (Op.assign (Operand.tmp 15)), 3, none⟩,
        ⟨(some 8), (Op.assign (Operand.tmp 16)), 3, none⟩,
        ⟨(some 9), (Op.assign (Operand.tmp 17)), 4, none⟩])
      (.seq
        (.ops [
          ⟨(some 18), (Op.move (Operand.tmp 9)), 4, none⟩,
          ⟨(some 19), (Op.unOp UnOp.not 4 (Operand.tmp 18)), 4, none⟩,
          ⟨(some 6), (Op.assign (Operand.tmp 19)), 4, none⟩])
        .ret))
theorem slim90 : Try.f90.body.map (slim lends) = some k90 := by kernel_rfl
theorem ok90 : fnOk Try.f90 3 = true := by kernel_rfl
theorem c90 {a l : List D} {r : D × List D} (h : wpD Y.env k90 (fin tys l.length [ResultVar.tmp 6] r) (entry a l)) (ha : a.length = 3) : Y.call 90 a l = some r :=
  call_slim (Y := Y) rfl Try.func90 (ha ▸ ok90) slim90 h
theorem s_zePairs_call (p_Labels : Int) (p_Degree : Int) (p_Nodes : List (List Int)) (p_Edges : List (List Int)) (x_ : List Int) (y : List Int) {r : Bool} (h : s_zePairs p_Labels p_Degree p_Nodes p_Edges x_ y = some r) : Y.call 90 [D.agg [D.int .i64 p_Labels, D.int .i64 p_Degree, D.sl 32 (lst (fun x => D.sl 3 (lst (D.int .i64) x)) p_Nodes), D.sl 32 (lst (fun x => D.sl 3 (lst (D.int .i64) x)) p_Edges)], D.sl 3 (lst (D.int .i64) x_), D.sl 3 (lst (D.int .i64) y)] [] = some (D.bool r, []) := by
  refine c90 ?_ rfl
  unfold k90
  unfold s_zePairs at h
  obtain ⟨r1_, hl1, h⟩ := bindS h
  try dsimp only at h
  have c1 := s_zeBad_call p_Labels p_Degree p_Nodes p_Edges x_ y hl1
  obtain rfl := Option.some.inj h
  simp (maxDischargeDepth := 9) only [↓xpre, xpost, xlst, xcore, yset, rg0, ↓reduceIte, Nat.reduceEqDiff, Nat.reduceLT, Nat.reduceLeDiff, Nat.reduceAdd, Nat.reduceMul, Nat.reduceMod, Nat.reduceSub, Nat.reduceBEq, Int.reduceLE, Int.reduceLT, Int.reduceEq, Int.reduceSub, Int.reduceAdd, Int.reduceToNat, Int.reduceNeg, c1] <;> (repeat' apply And.intro) <;> first | rfl | exact ⟨_, rfl⟩ | simp [lst]

noncomputable def s_zeGood_l0_S (p_Labels : Int) (p_Degree : Int) (p_Nodes : List (List Int)) (p_Edges : List (List Int)) (t9_ : Int) : Option ((Int) ⊕ (((List Int)) ⊕ Unit)) :=
  if t9_ < (p_Nodes.length : Int) then
    ck (0 ≤ t9_ ∧ t9_.toNat < p_Nodes.length) <|
    (s_zePairs p_Labels p_Degree p_Nodes p_Edges (p_Nodes.getD t9_.toNat default) (p_Nodes.getD t9_.toNat default)).bind fun r3_ =>
    if r3_ = true then
      (s_l1Own (p_Nodes.getD t9_.toNat default)).bind fun r5_ =>
      some (Sum.inr (Sum.inl r5_))
    else
      some (Sum.inl (IntKind.i64.wrap (t9_ + 1)))
  else
    some (Sum.inr (Sum.inr ()))
noncomputable def s_zeGood_l0 (p_Labels : Int) (p_Degree : Int) (p_Nodes : List (List Int)) (p_Edges : List (List Int)) (v : Int) : Option (((List Int)) ⊕ Unit) := itO (fun v => s_zeGood_l0_S p_Labels p_Degree p_Nodes p_Edges v) v
noncomputable def s_zeGood (p_Labels : Int) (p_Degree : Int) (p_Nodes : List (List Int)) (p_Edges : List (List Int)) : Option ((List Int) × Bool) :=
  (s_zeGood_l0 p_Labels p_Degree p_Nodes p_Edges 0).bind fun r2_ =>
  match r2_ with
  | .inl q2_ =>
    some (q2_, true)
  | .inr q2_ =>
    some ([], false)
/-- spec.zeGood -/
def k65_l0b : SC :=
  .seq
    (.ops [
      ⟨(some 10), (Op.binOp BinOp.lss 3 (Operand.tmp 9) (Operand.tmp 8) 3), 0, none⟩])
    (.seq
      (.cond (Operand.tmp 10)
        .skip
        (.exit 0))
      (.seq
        (.block 1
          (.seq
            (.ops [
              ⟨(some 11), (Op.indexAddr 22 (Operand.tmp 7) (Operand.tmp 9)), 0, none⟩,
              ⟨(some 12), (Op.load 32 (Operand.tmp 11)), 32, none⟩,
              ⟨(some 5), (Op.assign (Operand.tmp 12)), 32, none⟩])
            (.seq
              (.ops [
                ⟨(some 13), (Op.load 28 (Operand.tmp 1)), 28, none⟩,
                ⟨(some 14), (Op.move (Operand.tmp 5)), 32, none⟩,
                ⟨(some 15), (Op.move (Operand.tmp 5)), 32, none⟩,
                ⟨(some 16), (Op.call { callee := (Callee.value (Operand.func 90)), args := #[(Operand.tmp 13), (Operand.tmp 14), (Operand.tmp 15)], argTypes := #[28, 32, 32] }), 4, none⟩])
              (.cond (Operand.tmp 16)
                (.seq
                  (.ops [
                    ⟨(some 17), (Op.move (Operand.tmp 5)), 32, none⟩,
                    ⟨(some 18), (Op.call { callee := (Callee.value (Operand.func 69)), args := #[(Operand.tmp 17)], argTypes := #[32] }), 32, none⟩,
                    ⟨(some 2), (Op.assign (Operand.tmp 18)), 32, none⟩,
                    ⟨(some 3), (Op.assign (Operand.const (Value.bool true))), 4, none⟩])
                  .ret)
                .skip))))
        (.ops [
          ⟨(some 19), (Op.binOp BinOp.add 3 (Operand.tmp 9) (Operand.const (Value.int IntKind.i64 1)) 3), 3, none⟩,
          ⟨(some 9), (Op.move (Operand.tmp 19)), 3, none⟩])))
def k65_l0 : SC := .loop k65_l0b
def k65 : SC :=
  .seq
    (.ops [
      ⟨(some 1), (Op.box 28 (Operand.tmp 0)), 0, none⟩,
      ⟨(some 2), (Op.assign (Operand.const (Value.slice none 0 0))), 32, none⟩,
      ⟨(some 3), (Op.assign (Operand.const (Value.bool false))), 4, none⟩])
    (.seq
      (.seq
        (.ops [
          ⟨(some 6), (Op.fieldAddr 28 (Operand.tmp 1) 2), 0, none⟩,
          ⟨(some 7), (Op.load 22 (Operand.tmp 6)), 22, none⟩,
          ⟨(some 8), (Op.call { callee := (Callee.builtin Builtin.len), args := #[(Operand.tmp 7)], argTypes := #[22] }), 3, none⟩,
          ⟨(some 9), (Op.move (Operand.const (Value.int IntKind.i64 0))), 3, none⟩])
        (.block 0
          k65_l0))
      (.seq
        (.ops [
          ⟨(some 2), (Op.assign (Operand.const (Value.slice none 0 0))), 32, none⟩,
          ⟨(some 3), (Op.assign (Operand.const (Value.bool false))), 4, none⟩])
        .ret))
theorem slim65 : Try.f65.body.map (slim lends) = some k65 := by kernel_rfl
theorem ok65 : fnOk Try.f65 1 = true := by kernel_rfl
theorem c65 {a l : List D} {r : D × List D} (h : wpD Y.env k65 (fin tys l.length [ResultVar.tmp 2, ResultVar.tmp 3] r) (entry a l)) (ha : a.length = 1) : Y.call 65 a l = some r :=
  call_slim (Y := Y) rfl Try.func65 (ha ▸ ok65) slim65 h
def s_zeGood_l0_M (p_Labels : Int) (p_Degree : Int) (p_Nodes : List (List Int)) (p_Edges : List (List Int)) (t9_ : Int) (s : St) : Prop := s.v 1 = D.box [D.int .i64 p_Labels, D.int .i64 p_Degree, D.sl 32 (lst (fun x => D.sl 3 (lst (D.int .i64) x)) p_Nodes), D.sl 32 (lst (fun x => D.sl 3 (lst (D.int .i64) x)) p_Edges)] ∧ s.v 7 = D.sl 32 (lst (fun x => D.sl 3 (lst (D.int .i64) x)) p_Nodes) ∧ s.v 8 = D.int .i64 (p_Nodes.length : Int) ∧ s.v 9 = D.int .i64 t9_
def s_zeGood_l0_X (p_Labels : Int) (p_Degree : Int) (p_Nodes : List (List Int)) (p_Edges : List (List Int)) (r : ((List Int)) ⊕ Unit) (ex : Ex) (s : St) : Prop := match r with
  | .inl q => ex = .ret ∧ s.v 2 = D.own 3 (lst (D.int .i64) q) ∧ s.v 3 = D.bool true
  | .inr q => ex = .exit 0
theorem s_zeGood_l0_wp (p_Labels : Int) (p_Degree : Int) (p_Nodes : List (List Int)) (p_Edges : List (List Int)) {v : Int} {s : St} {r : ((List Int)) ⊕ Unit} (h : s_zeGood_l0 p_Labels p_Degree p_Nodes p_Edges v = some r) (hM : s_zeGood_l0_M p_Labels p_Degree p_Nodes p_Edges v s) : wpD Y.env k65_l0 (s_zeGood_l0_X p_Labels p_Degree p_Nodes p_Edges r) s := by
  unfold s_zeGood_l0 at h
  refine wd_itO (c := k65_l0b) (fun v => s_zeGood_l0_S p_Labels p_Degree p_Nodes p_Edges v) (fun v s => s_zeGood_l0_M p_Labels p_Degree p_Nodes p_Edges v s) (s_zeGood_l0_X p_Labels p_Degree p_Nodes p_Edges) ?_ h hM
  clear h hM s v r
  intro t9_ s o hM h
  unfold s_zeGood_l0_S at h
  unfold s_zeGood_l0_M at hM
  obtain ⟨m0, m1, m2, m3⟩ := hM
  unfold k65_l0b
  by_cases e1 : t9_ < (p_Nodes.length : Int)
  · rw [if_pos e1] at h
    obtain ⟨e2, h⟩ := ckS h
    obtain ⟨r3_, hl3, h⟩ := bindS h
    try dsimp only at h
    have c3 := s_zePairs_call p_Labels p_Degree p_Nodes p_Edges (p_Nodes.getD t9_.toNat default) (p_Nodes.getD t9_.toNat default) hl3
    by_cases e4 : r3_ = true
    · rw [if_pos e4] at h
      obtain ⟨r5_, hl5, h⟩ := bindS h
      try dsimp only at h
      have c5 := s_l1Own_call (p_Nodes.getD t9_.toNat default) hl5
      obtain rfl := Option.some.inj h
      simp (maxDischargeDepth := 9) only [↓xpre, xpost, xlst, xcore, yset, rg0, ↓reduceIte, Nat.reduceEqDiff, Nat.reduceLT, Nat.reduceLeDiff, Nat.reduceAdd, Nat.reduceMul, Nat.reduceMod, Nat.reduceSub, Nat.reduceBEq, Int.reduceLE, Int.reduceLT, Int.reduceEq, Int.reduceSub, Int.reduceAdd, Int.reduceToNat, Int.reduceNeg, m0, m1, m2, m3, e1, e2.1, e2.2, c3, e4, c5, s_zeGood_l0_M, s_zeGood_l0_X, sxN, sxE, sxR] <;> (repeat' apply And.intro) <;> first | rfl | exact ⟨_, rfl⟩ | simp [lst]
    · rw [if_neg e4] at h
      have e4f : r3_ = false := Bool.eq_false_iff.mpr e4
      obtain rfl := Option.some.inj h
      simp (maxDischargeDepth := 9) only [↓xpre, xpost, xlst, xcore, yset, rg0, ↓reduceIte, Nat.reduceEqDiff, Nat.reduceLT, Nat.reduceLeDiff, Nat.reduceAdd, Nat.reduceMul, Nat.reduceMod, Nat.reduceSub, Nat.reduceBEq, Int.reduceLE, Int.reduceLT, Int.reduceEq, Int.reduceSub, Int.reduceAdd, Int.reduceToNat, Int.reduceNeg, m0, m1, m2, m3, e1, e2.1, e2.2, c3, e4f, s_zeGood_l0_M, s_zeGood_l0_X, sxN, sxE, sxR] <;> (repeat' apply And.intro) <;> first | rfl | exact ⟨_, rfl⟩ | simp [lst]
  · rw [if_neg e1] at h
    obtain rfl := Option.some.inj h
    simp (maxDischargeDepth := 9) only [↓xpre, xpost, xlst, xcore, yset, rg0, ↓reduceIte, Nat.reduceEqDiff, Nat.reduceLT, Nat.reduceLeDiff, Nat.reduceAdd, Nat.reduceMul, Nat.reduceMod, Nat.reduceSub, Nat.reduceBEq, Int.reduceLE, Int.reduceLT, Int.reduceEq, Int.reduceSub, Int.reduceAdd, Int.reduceToNat, Int.reduceNeg, m0, m1, m2, m3, e1, s_zeGood_l0_M, s_zeGood_l0_X, sxN, sxE, sxR] <;> (repeat' apply And.intro) <;> first | rfl | exact ⟨_, rfl⟩ | simp [lst]
theorem s_zeGood_call (p_Labels : Int) (p_Degree : Int) (p_Nodes : List (List Int)) (p_Edges : List (List Int)) {r : (List Int) × Bool} (h : s_zeGood p_Labels p_Degree p_Nodes p_Edges = some r) : Y.call 65 [D.agg [D.int .i64 p_Labels, D.int .i64 p_Degree, D.sl 32 (lst (fun x => D.sl 3 (lst (D.int .i64) x)) p_Nodes), D.sl 32 (lst (fun x => D.sl 3 (lst (D.int .i64) x)) p_Edges)]] [] = some (D.tup [D.own 3 (lst (D.int .i64) r.1), D.bool r.2], []) := by
  refine c65 ?_ rfl
  unfold k65
  unfold s_zeGood at h
  obtain ⟨r2_, hl2, h⟩ := bindS h
  try dsimp only at h
  simp (maxDischargeDepth := 9) only [↓xpre, xpost, xlst, xcore, yset, rg0, ↓reduceIte, Nat.reduceEqDiff, Nat.reduceLT, Nat.reduceLeDiff, Nat.reduceAdd, Nat.reduceMul, Nat.reduceMod, Nat.reduceSub, Nat.reduceBEq, Int.reduceLE, Int.reduceLT, Int.reduceEq, Int.reduceSub, Int.reduceAdd, Int.reduceToNat, Int.reduceNeg]
  refine wd_mono (s_zeGood_l0_wp p_Labels p_Degree p_Nodes p_Edges hl2 ?_) ?_
  · simp (maxDischargeDepth := 9) only [↓xpre, xpost, xlst, xcore, yset, rg0, ↓reduceIte, Nat.reduceEqDiff, Nat.reduceLT, Nat.reduceLeDiff, Nat.reduceAdd, Nat.reduceMul, Nat.reduceMod, Nat.reduceSub, Nat.reduceBEq, Int.reduceLE, Int.reduceLT, Int.reduceEq, Int.reduceSub, Int.reduceAdd, Int.reduceToNat, Int.reduceNeg, s_zeGood_l0_M] <;> (repeat' apply And.intro) <;> first | rfl | exact ⟨_, rfl⟩ | simp [lst]
  · intro ex2 s2 hX2
    rcases r2_ with q2_ | q2_
    · unfold s_zeGood_l0_X at hX2
      dsimp only at hX2 h
      obtain ⟨rfl, n2_0, n2_1⟩ := hX2
      obtain rfl := Option.some.inj h
      simp (maxDischargeDepth := 9) only [↓xpre, xpost, xlst, xcore, yset, rg0, ↓reduceIte, Nat.reduceEqDiff, Nat.reduceLT, Nat.reduceLeDiff, Nat.reduceAdd, Nat.reduceMul, Nat.reduceMod, Nat.reduceSub, Nat.reduceBEq, Int.reduceLE, Int.reduceLT, Int.reduceEq, Int.reduceSub, Int.reduceAdd, Int.reduceToNat, Int.reduceNeg, n2_0, n2_1] <;> (repeat' apply And.intro) <;> first | rfl | exact ⟨_, rfl⟩ | simp [lst]
    · unfold s_zeGood_l0_X at hX2
      dsimp only at hX2 h
      obtain rfl := hX2
      obtain rfl := Option.some.inj h
      simp (maxDischargeDepth := 9) only [↓xpre, xpost, xlst, xcore, yset, rg0, ↓reduceIte, Nat.reduceEqDiff, Nat.reduceLT, Nat.reduceLeDiff, Nat.reduceAdd, Nat.reduceMul, Nat.reduceMod, Nat.reduceSub, Nat.reduceBEq, Int.reduceLE, Int.reduceLT, Int.reduceEq, Int.reduceSub, Int.reduceAdd, Int.reduceToNat, Int.reduceNeg] <;> (repeat' apply And.intro) <;> first | rfl | exact ⟨_, rfl⟩ | simp [lst]

/-- laws.FnExactZeroConfiguration -/
def k8 : SC :=
  .seq
    (.ops [
      ⟨(some 1), (Op.box 24 (Operand.tmp 0)), 0, none⟩,
      ⟨(some 2), (Op.assign (Operand.const (Value.bool false))), 4, none⟩])
    (.seq
      (.ops [
        ⟨(some 3), (Op.assign (Operand.const (Value.int IntKind.i64 1048576))), 3, none⟩])
      (.seq
        (.ops [
          ⟨(some 14), (Op.load 24 (Operand.tmp 1)), 24, none⟩,
          ⟨(some 15), (Op.move (Operand.tmp 3)), 3, none⟩,
          ⟨(some 16), (Op.call { callee := (Callee.value (Operand.func 15)), args := #[(Operand.tmp 14), (Operand.tmp 15)], argTypes := #[24, 3] }), 3, none⟩,
          ⟨(some 3), (Op.assign (Operand.tmp 16)), 3, none⟩])
        (.seq
          (.seq
            (.ops [
              ⟨(some 17), (Op.move (Operand.tmp 3)), 3, none⟩,
              ⟨(some 18), (Op.binOp BinOp.lss 3 (Operand.tmp 17) (Operand.const (Value.int IntKind.i64 0)) 3), 4, none⟩])
            (.cond (Operand.tmp 18)
              (.seq
                (.ops [
                  ⟨(some 2), (Op.assign (Operand.const (Value.bool true))), 4, none⟩])
                .ret)
              .skip))
          (.seq
            (.ops [
              ⟨(some 20), (Op.load 24 (Operand.tmp 1)), 24, none⟩,
              ⟨(some 21), (Op.call { callee := (Callee.value (Operand.func 17)), args := #[(Operand.tmp 20)], argTypes := #[24] }), 28, none⟩,
              ⟨(some 22), (Op.call { callee := (Callee.value (Operand.func 36)), args := #[(Operand.tmp 21)], argTypes := #[28] }), 33, none⟩,
              ⟨(some 19), (Op.move (Operand.tmp 22)), 33, none⟩,
              ⟨(some 23), (Op.extract (Operand.tmp 19) 0), 32, none⟩,
              ⟨(some 24), (Op.extract (Operand.tmp 19) 1), 4, none⟩,
              ⟨(some 4), (Op.assign (Operand.tmp 23)), 32, none⟩,
              ⟨(some 5), (Op.assign (Operand.tmp 24)), 4, none⟩])
            (.seq
              (.ops [
                ⟨(some 25), (Op.load 24 (Operand.tmp 1)), 24, none⟩,
                ⟨(some 26), (Op.call { callee := (Callee.value (Operand.func 17)), args := #[(Operand.tmp 25)], argTypes := #[24] }), 28, none⟩,
                ⟨(some 6), (Op.alloc 28), 0, none⟩,
                ⟨none, (Op.store 28 (Operand.tmp 6) (Operand.tmp 26)), 0, none⟩])
              (.seq
                (.ops [
                  ⟨(some 28), (Op.load 28 (Operand.tmp 6)), 28, none⟩,
                  ⟨(some 29), (Op.call { callee := (Callee.value (Operand.func 37)), args := #[(Operand.tmp 28)], argTypes := #[28] }), 33, none⟩,
                  ⟨(some 27), (Op.move (Operand.tmp 29)), 33, none⟩,
                  ⟨(some 30), (Op.extract (Operand.tmp 27) 0), 32, none⟩,
                  ⟨(some 31), (Op.extract (Operand.tmp 27) 1), 4, none⟩,
                  ⟨(some 7), (Op.assign (Operand.tmp 30)), 32, none⟩,
                  ⟨(some 8), (Op.assign (Operand.tmp 31)), 4, none⟩])
                (.seq
                  (.seq
                    (.ops [
                      ⟨(some 32), (Op.move (Operand.tmp 7)), 32, none⟩,
                      ⟨(some 33), (Op.move (Operand.tmp 4)), 32, none⟩,
                      ⟨(some 34), (Op.call { callee := (Callee.value (Operand.func 22)), args := #[(Operand.tmp 32), (Operand.tmp 33)], argTypes := #[32, 32] }), 4, none⟩,
                      ⟨(some 35), (Op.unOp UnOp.not 4 (Operand.tmp 34)), 4, none⟩,
                      ⟨(some 36), (Op.move (Operand.tmp 35)), 4, none⟩,
                      ⟨(some 37), (Op.move (Operand.tmp 8)), 4, (some (some 36, false))⟩,
                      ⟨(some 38), (Op.move (Operand.tmp 5)), 4, (some (some 36, false))⟩,
                      ⟨(some 39), (Op.binOp BinOp.neq 4 (Operand.tmp 37) (Operand.tmp 38) 4), 4, (some (some 36, false))⟩,
                      ⟨(some 40), (Op.pick (Operand.tmp 36) (Operand.const (Value.bool true)) (Operand.tmp 39)), 4, none⟩])
                    (.cond (Operand.tmp 40)
                      (.seq
                        (.ops [
                          ⟨(some 2), (Op.assign (Operand.const (Value.bool false))), 4, none⟩])
                        .ret)
                      .skip))
                  (.seq
                    (.seq
                      (.draws [
                        (⟨[41, 6, 6], [41, 42, 43, 44, 45], [41]⟩, ⟨(some 41), (Op.load 28 (Operand.tmp 6)), 28, none⟩),
                        (⟨[42, 1, 1], [41, 42, 43, 44, 45], [42]⟩, ⟨(some 42), (Op.load 24 (Operand.tmp 1)), 24, none⟩),
                        (⟨[43, 42, 1], [41, 42, 43, 44, 45], [43]⟩, ⟨(some 43), (Op.call { callee := (Callee.value (Operand.func 17)), args := #[(Operand.tmp 42)], argTypes := #[24] }), 28, none⟩),
                        (⟨[44, 41, 43, 6, 43], [41, 42, 43, 44, 45], [44]⟩, ⟨(some 44), (Op.call { callee := (Callee.value (Operand.func 19)), args := #[(Operand.tmp 41), (Operand.tmp 43)], argTypes := #[28, 28] }), 4, none⟩),
                        (⟨[45, 44, 44], [41, 42, 43, 44, 45], [45]⟩, ⟨(some 45), (Op.unOp UnOp.not 4 (Operand.tmp 44)), 4, none⟩)])
                      (.cond (Operand.tmp 45)
                        (.seq
                          (.ops [
                            ⟨(some 2), (Op.assign (Operand.const (Value.bool false))), 4, none⟩])
                          .ret)
                        .skip))
                    (.seq
                      (.ops [
                        ⟨(some 9), (Op.assign (Operand.const (Value.int IntKind.i64 1))), 3, none⟩])
                      (.seq
                        (.ops [
                          ⟨(some 46), (Op.load 28 (Operand.tmp 6)), 28, none⟩,
                          ⟨(some 47), (Op.move (Operand.tmp 9)), 3, none⟩,
                          ⟨(some 48), (Op.call { callee := (Callee.value (Operand.func 23)), args := #[(Operand.tmp 46), (Operand.tmp 47)], argTypes := #[28, 3] }), 3, none⟩,
                          ⟨(some 9), (Op.assign (Operand.tmp 48)), 3, none⟩])
                        (.seq
                          (.seq
                            (.ops [
                              ⟨(some 49), (Op.move (Operand.tmp 9)), 3, none⟩,
                              ⟨(some 50), (Op.binOp BinOp.lss 3 (Operand.tmp 49) (Operand.const (Value.int IntKind.i64 0)) 3), 4, none⟩,
                              ⟨(some 51), (Op.move (Operand.tmp 50)), 4, none⟩,
                              ⟨(some 52), (Op.move (Operand.tmp 7)), 32, (some (some 51, false))⟩,
                              ⟨(some 53), (Op.move (Operand.tmp 4)), 32, (some (some 51, false))⟩,
                              ⟨(some 54), (Op.call { callee := (Callee.value (Operand.func 22)), args := #[(Operand.tmp 52), (Operand.tmp 53)], argTypes := #[32, 32] }), 4, (some (some 51, false))⟩,
                              ⟨(some 55), (Op.unOp UnOp.not 4 (Operand.tmp 54)), 4, (some (some 51, false))⟩,
                              ⟨(some 56), (Op.pick (Operand.tmp 51) (Operand.const (Value.bool true)) (Operand.tmp 55)), 4, none⟩,
                              ⟨(some 57), (Op.move (Operand.tmp 56)), 4, none⟩,
                              ⟨(some 58), (Op.move (Operand.tmp 8)), 4, (some (some 57, false))⟩,
                              ⟨(some 59), (Op.move (Operand.tmp 5)), 4, (some (some 57, false))⟩,
                              ⟨(some 60), (Op.binOp BinOp.neq 4 (Operand.tmp 58) (Operand.tmp 59) 4), 4, (some (some 57, false))⟩,
                              ⟨(some 61), (Op.pick (Operand.tmp 57) (Operand.const (Value.bool true)) (Operand.tmp 60)), 4, none⟩])
                            (.cond (Operand.tmp 61)
                              (.seq
                                (.ops [
                                  ⟨(some 2), (Op.assign (Operand.const (Value.bool false))), 4, none⟩])
                                .ret)
                              .skip))
                          (.seq
                            (.ops [
                              ⟨(some 10), (Op.assign (Operand.const (Value.int IntKind.i64 1))), 3, none⟩])
                            (.seq
                              (.ops [
                                ⟨(some 62), (Op.move (Operand.tmp 7)), 32, none⟩,
                                ⟨(some 63), (Op.move (Operand.tmp 10)), 3, none⟩,
                                ⟨(some 64), (Op.call { callee := (Callee.value (Operand.func 24)), args := #[(Operand.tmp 62), (Operand.tmp 63)], argTypes := #[32, 3] }), 3, none⟩,
                                ⟨(some 10), (Op.assign (Operand.tmp 64)), 3, none⟩])
                              (.seq
                                (.ops [
                                  ⟨(some 11), (Op.assign (Operand.const (Value.int IntKind.i64 1))), 3, none⟩])
                                (.seq
                                  (.ops [
                                    ⟨(some 65), (Op.move (Operand.tmp 7)), 32, none⟩,
                                    ⟨(some 66), (Op.move (Operand.tmp 11)), 3, none⟩,
                                    ⟨(some 67), (Op.call { callee := (Callee.value (Operand.func 25)), args := #[(Operand.tmp 65), (Operand.tmp 66)], argTypes := #[32, 3] }), 3, none⟩,
                                    ⟨(some 11), (Op.assign (Operand.tmp 67)), 3, none⟩])
                                  (.seq
                                    (.seq
                                      (.ops [
                                        ⟨(some 68), (Op.move (Operand.tmp 11)), 3, none⟩,
                                        ⟨(some 69), (Op.binOp BinOp.lss 3 (Operand.tmp 68) (Operand.const (Value.int IntKind.i64 0)) 3), 4, none⟩])
                                      (.cond (Operand.tmp 69)
                                        (.seq
                                          (.ops [
                                            ⟨(some 2), (Op.assign (Operand.const (Value.bool false))), 4, none⟩])
                                          .ret)
                                        .skip))
                                    (.seq
                                      (.seq
                                        (.ops [
                                          ⟨(some 70), (Op.move (Operand.tmp 11)), 3, none⟩,
                                          ⟨(some 71), (Op.move (Operand.tmp 10)), 3, none⟩,
                                          ⟨(some 72), (Op.binOp BinOp.neq 3 (Operand.tmp 70) (Operand.tmp 71) 3), 4, none⟩])
                                        (.cond (Operand.tmp 72)
                                          (.seq
                                            (.ops [
                                              ⟨(some 2), (Op.assign (Operand.const (Value.bool false))), 4, none⟩])
                                            .ret)
                                          .skip))
                                      (.seq
                                        (.ops [
                                          ⟨(some 74), (Op.load 24 (Operand.tmp 1)), 24, none⟩,
                                          ⟨(some 75), (Op.call { callee := (Callee.value (Operand.func 17)), args := #[(Operand.tmp 74)], argTypes := #[24] }), 28, none⟩,
                                          ⟨(some 76), (Op.call { callee := (Callee.value (Operand.func 37)), args := #[(Operand.tmp 75)], argTypes := #[28] }), 33, none⟩,
                                          ⟨(some 73), (Op.move (Operand.tmp 76)), 33, none⟩,
                                          ⟨(some 77), (Op.extract (Operand.tmp 73) 0), 32, none⟩,
                                          ⟨(some 78), (Op.extract (Operand.tmp 73) 1), 4, none⟩,
                                          ⟨(some 12), (Op.assign (Operand.tmp 77)), 32, none⟩,
                                          ⟨(some 13), (Op.assign (Operand.tmp 78)), 4, none⟩])
                                        (.seq
                                          (.seq
                                            (.ops [
                                              ⟨(some 79), (Op.move (Operand.tmp 12)), 32, none⟩,
                                              ⟨(some 80), (Op.move (Operand.tmp 4)), 32, none⟩,
                                              ⟨(some 81), (Op.call { callee := (Callee.value (Operand.func 22)), args := #[(Operand.tmp 79), (Operand.tmp 80)], argTypes := #[32, 32] }), 4, none⟩,
                                              ⟨(some 82), (Op.unOp UnOp.not 4 (Operand.tmp 81)), 4, none⟩,
                                              ⟨(some 83), (Op.move (Operand.tmp 82)), 4, none⟩,
                                              ⟨(some 84), (Op.move (Operand.tmp 13)), 4, (some (some 83, false))⟩,
                                              ⟨(some 85), (Op.move (Operand.tmp 5)), 4, (some (some 83, false))⟩,
                                              ⟨(some 86), (Op.binOp BinOp.neq 4 (Operand.tmp 84) (Operand.tmp 85) 4), 4, (some (some 83, false))⟩,
                                              ⟨(some 87), (Op.pick (Operand.tmp 83) (Operand.const (Value.bool true)) (Operand.tmp 86)), 4, none⟩])
                                            (.cond (Operand.tmp 87)
                                              (.seq
                                                (.ops [
                                                  ⟨(some 2), (Op.assign (Operand.const (Value.bool false))), 4, none⟩])
                                                .ret)
                                              .skip))
                                          (.seq
                                            (.ops [
                                              ⟨(some 11), (Op.assign (Operand.const (Value.int IntKind.i64 1))), 3, none⟩])
                                            (.seq
                                              (.ops [
                                                ⟨(some 88), (Op.move (Operand.tmp 7)), 32, none⟩,
                                                ⟨(some 89), (Op.move (Operand.tmp 11)), 3, none⟩,
                                                ⟨(some 90), (Op.call { callee := (Callee.value (Operand.func 25)), args := #[(Operand.tmp 88), (Operand.tmp 89)], argTypes := #[32, 3] }), 3, none⟩,
                                                ⟨(some 11), (Op.assign (Operand.tmp 90)), 3, none⟩])
                                              (.seq
                                                (.seq
                                                  (.ops [
                                                    ⟨(some 91), (Op.move (Operand.tmp 11)), 3, none⟩,
                                                    ⟨(some 92), (Op.binOp BinOp.lss 3 (Operand.tmp 91) (Operand.const (Value.int IntKind.i64 0)) 3), 4, none⟩])
                                                  (.cond (Operand.tmp 92)
                                                    (.seq
                                                      (.ops [
                                                        ⟨(some 2), (Op.assign (Operand.const (Value.bool false))), 4, none⟩])
                                                      .ret)
                                                    .skip))
                                                (.seq
                                                  (.seq
                                                    (.ops [
                                                      ⟨(some 93), (Op.move (Operand.tmp 11)), 3, none⟩,
                                                      ⟨(some 94), (Op.move (Operand.tmp 10)), 3, none⟩,
                                                      ⟨(some 95), (Op.binOp BinOp.neq 3 (Operand.tmp 93) (Operand.tmp 94) 3), 4, none⟩])
                                                    (.cond (Operand.tmp 95)
                                                      (.seq
                                                        (.ops [
                                                          ⟨(some 2), (Op.assign (Operand.const (Value.bool false))), 4, none⟩])
                                                        .ret)
                                                      .skip))
                                                  (.seq
                                                    (.ops [
                                                      ⟨(some 2), (Op.assign (Operand.const (Value.bool true))), 4, none⟩])
                                                    .ret))))))))))))))))))))))))
theorem slim8 : Try.f8.body.map (slim lends) = some k8 := by kernel_rfl
theorem ok8 : fnOk Try.f8 1 = true := by kernel_rfl
theorem c8 {a l : List D} {r : D × List D} (h : wpD Y.env k8 (fin tys l.length [ResultVar.tmp 2] r) (entry a l)) (ha : a.length = 1) : Y.call 8 a l = some r :=
  call_slim (Y := Y) rfl Try.func8 (ha ▸ ok8) slim8 h
end Go.Proofs.Ytjlphfbpaejicaa
