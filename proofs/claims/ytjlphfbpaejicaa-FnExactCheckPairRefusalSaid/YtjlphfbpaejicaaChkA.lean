/- Refusals checked, lifted. Conditions: none. -/
import Derived.Test.YtjlphfbpaejicaaL6
import Derived.Test.YtjlphfbpaejicaaZer
import Derived.Test.YtjlphfbpaejicaaCon
namespace Go.Proofs.Ytjlphfbpaejicaa
open Go Dv
set_option linter.unusedSimpArgs false
set_option linter.unusedVariables false
set_option maxRecDepth 100000
set_option maxHeartbeats 4000000


/-- Two loops side by side. -/
theorem itO_both {σ ρ ρ' : Type} (f : σ → Option (σ ⊕ ρ)) (g : σ → Option (σ ⊕ ρ')) (I : Nat → σ → Prop) (Q : ρ → ρ' → Prop)
    (step : ∀ n s, I n s → (∃ s' m, f s = some (.inl s') ∧ g s = some (.inl s') ∧ m < n ∧ I m s') ∨ (∃ r r', f s = some (.inr r) ∧ g s = some (.inr r') ∧ Q r r')) :
    ∀ (n : Nat) (s : σ), I n s → ∃ r r', itO f s = some r ∧ itO g s = some r' ∧ Q r r' := by
  intro n
  induction n using Nat.strongRecOn with
  | _ n ih =>
    intro s hI
    rcases step n s hI with ⟨s', m, h1, h2, h3, h4⟩ | ⟨r, r', h1, h2, h3⟩
    · rw [itO_inl h1, itO_inl h2]; exact ih m h3 s' h4
    · exact ⟨r, r', itO_inr h1, itO_inr h2, h3⟩
theorem sz_fit {l : List (List Int)} {left : Int} (hl : left ≤ 1048576) (h : ¬ szN left (l.length + tot l) < 0) : Short l ∧ (l.length : Int) + tot l ≤ 1048576 ∧ szN left (l.length + tot l) ≤ left := by
  have t1 := tot_nonneg l
  rcases szN_cases left (l.length + tot l) with c | ⟨c, c'⟩
  · rw [c] at h; simp at h
  · exact ⟨tot_short (by omega), by omega, by omega⟩
/-- The two labels stand in x and y and do not go together. -/
def twoB (es : List (List Int)) (l x y : List Int) : Bool := decide (l.length = 2) && (x.contains (l.getD 0 default) && (y.contains (l.getD 1 default) && !hasE es (l.getD 0 default) (l.getD 1 default)))
noncomputable def s_zeTwo (p_Labels : Int) (p_Degree : Int) (p_Nodes : List (List Int)) (p_Edges : List (List Int)) (l : List Int) (x_ : List Int) (y : List Int) : Option (Bool) :=
  if (l.length : Int) = 2 then
    ck (0 < l.length) <|
    ck (x_.length < 1099511627776) <|
    if (x_.contains (l.getD 0 default)) = true then
      ck (1 < l.length) <|
      ck (y.length < 1099511627776) <|
      if (y.contains (l.getD 1 default)) = true then
        ck (Short p_Edges) <|
        some (!(hasE p_Edges (l.getD 0 default) (l.getD 1 default)))
      else
        some false
    else
      some false
  else
    some false
/-- spec.zeTwo -/
def k61 : SC :=
  .seq
    (.ops [
      ⟨(some 4), (Op.box 28 (Operand.tmp 0)), 0, none⟩,
      ⟨(some 8), (Op.assign (Operand.const (Value.bool false))), 4, none⟩])
    (.seq
      (.draws [
        (⟨[9, 1, 1], [9, 10, 11, 12, 13, 14, 15, 16, 17, 18, 19, 20, 21, 22, 23, 24, 25, 26, 27, 28, 29, 30, 31, 32, 33, 34, 35, 36, 8, 36, 36], [9]⟩, ⟨(some 9), (Op.move (Operand.tmp 1)), 32, none⟩),
        (⟨[10, 9, 1], [9, 10, 11, 12, 13, 14, 15, 16, 17, 18, 19, 20, 21, 22, 23, 24, 25, 26, 27, 28, 29, 30, 31, 32, 33, 34, 35, 36, 8, 36, 36], [10]⟩, ⟨(some 10), (Op.call { callee := (Callee.builtin Builtin.len), args := #[(Operand.tmp 9)], argTypes := #[32] }), 3, none⟩),
        (⟨[11, 10, 10], [9, 10, 11, 12, 13, 14, 15, 16, 17, 18, 19, 20, 21, 22, 23, 24, 25, 26, 27, 28, 29, 30, 31, 32, 33, 34, 35, 36, 8, 36, 36], [11]⟩, ⟨(some 11), (Op.binOp BinOp.eql 3 (Operand.tmp 10) (Operand.const (Value.int IntKind.i64 2)) 3), 4, none⟩),
        (⟨[12, 11, 11], [9, 10, 11, 12, 13, 14, 15, 16, 17, 18, 19, 20, 21, 22, 23, 24, 25, 26, 27, 28, 29, 30, 31, 32, 33, 34, 35, 36, 8, 36, 36], [12]⟩, ⟨(some 12), (Op.move (Operand.tmp 11)), 4, none⟩),
        (⟨[13, 2, 2, 12], [9, 10, 11, 12, 13, 14, 15, 16, 17, 18, 19, 20, 21, 22, 23, 24, 25, 26, 27, 28, 29, 30, 31, 32, 33, 34, 35, 36, 8, 36, 36], [13]⟩, ⟨(some 13), (Op.move (Operand.tmp 2)), 32, (some (some 12, true))⟩),
        (⟨[14, 1, 1, 12], [9, 10, 11, 12, 13, 14, 15, 16, 17, 18, 19, 20, 21, 22, 23, 24, 25, 26, 27, 28, 29, 30, 31, 32, 33, 34, 35, 36, 8, 36, 36], [14]⟩, ⟨(some 14), (Op.move (Operand.tmp 1)), 32, (some (some 12, true))⟩),
        (⟨[15, 14, 1, 12], [9, 10, 11, 12, 13, 14, 15, 16, 17, 18, 19, 20, 21, 22, 23, 24, 25, 26, 27, 28, 29, 30, 31, 32, 33, 34, 35, 36, 8, 36, 36], [15]⟩, ⟨(some 15), (Op.indexAddr 32 (Operand.tmp 14) (Operand.const (Value.int IntKind.i64 0))), 0, (some (some 12, true))⟩),
        (⟨[16, 15, 1, 12], [9, 10, 11, 12, 13, 14, 15, 16, 17, 18, 19, 20, 21, 22, 23, 24, 25, 26, 27, 28, 29, 30, 31, 32, 33, 34, 35, 36, 8, 36, 36], [16]⟩, ⟨(some 16), (Op.load 3 (Operand.tmp 15)), 3, (some (some 12, true))⟩),
        (⟨[17, 13, 16, 2, 1, 12], [9, 10, 11, 12, 13, 14, 15, 16, 17, 18, 19, 20, 21, 22, 23, 24, 25, 26, 27, 28, 29, 30, 31, 32, 33, 34, 35, 36, 8, 36, 36], [17]⟩, ⟨(some 17), (Op.call { callee := (Callee.value (Operand.func 88)), args := #[(Operand.tmp 13), (Operand.tmp 16)], argTypes := #[32, 3] }), 4, (some (some 12, true))⟩),
        (⟨[18, 12, 17, 11, 17], [9, 10, 11, 12, 13, 14, 15, 16, 17, 18, 19, 20, 21, 22, 23, 24, 25, 26, 27, 28, 29, 30, 31, 32, 33, 34, 35, 36, 8, 36, 36], [18]⟩, ⟨(some 18), (Op.pick (Operand.tmp 12) (Operand.tmp 17) (Operand.const (Value.bool false))), 4, none⟩),
        (⟨[19, 18, 18], [9, 10, 11, 12, 13, 14, 15, 16, 17, 18, 19, 20, 21, 22, 23, 24, 25, 26, 27, 28, 29, 30, 31, 32, 33, 34, 35, 36, 8, 36, 36], [19]⟩, ⟨(some 19), (Op.move (Operand.tmp 18)), 4, none⟩),
        (⟨[20, 3, 3, 19], [9, 10, 11, 12, 13, 14, 15, 16, 17, 18, 19, 20, 21, 22, 23, 24, 25, 26, 27, 28, 29, 30, 31, 32, 33, 34, 35, 36, 8, 36, 36], [20]⟩, ⟨(some 20), (Op.move (Operand.tmp 3)), 32, (some (some 19, true))⟩),
        (⟨[21, 1, 1, 19], [9, 10, 11, 12, 13, 14, 15, 16, 17, 18, 19, 20, 21, 22, 23, 24, 25, 26, 27, 28, 29, 30, 31, 32, 33, 34, 35, 36, 8, 36, 36], [21]⟩, ⟨(some 21), (Op.move (Operand.tmp 1)), 32, (some (some 19, true))⟩),
        (⟨[22, 21, 1, 19], [9, 10, 11, 12, 13, 14, 15, 16, 17, 18, 19, 20, 21, 22, 23, 24, 25, 26, 27, 28, 29, 30, 31, 32, 33, 34, 35, 36, 8, 36, 36], [22]⟩, ⟨(some 22), (Op.indexAddr 32 (Operand.tmp 21) (Operand.const (Value.int IntKind.i64 1))), 0, (some (some 19, true))⟩),
        (⟨[23, 22, 1, 19], [9, 10, 11, 12, 13, 14, 15, 16, 17, 18, 19, 20, 21, 22, 23, 24, 25, 26, 27, 28, 29, 30, 31, 32, 33, 34, 35, 36, 8, 36, 36], [23]⟩, ⟨(some 23), (Op.load 3 (Operand.tmp 22)), 3, (some (some 19, true))⟩),
        (⟨[24, 20, 23, 3, 1, 19], [9, 10, 11, 12, 13, 14, 15, 16, 17, 18, 19, 20, 21, 22, 23, 24, 25, 26, 27, 28, 29, 30, 31, 32, 33, 34, 35, 36, 8, 36, 36], [24]⟩, ⟨(some 24), (Op.call { callee := (Callee.value (Operand.func 88)), args := #[(Operand.tmp 20), (Operand.tmp 23)], argTypes := #[32, 3] }), 4, (some (some 19, true))⟩),
        (⟨[25, 19, 24, 18, 24], [9, 10, 11, 12, 13, 14, 15, 16, 17, 18, 19, 20, 21, 22, 23, 24, 25, 26, 27, 28, 29, 30, 31, 32, 33, 34, 35, 36, 8, 36, 36], [25]⟩, ⟨(some 25), (Op.pick (Operand.tmp 19) (Operand.tmp 24) (Operand.const (Value.bool false))), 4, none⟩),
        (⟨[26, 25, 25], [9, 10, 11, 12, 13, 14, 15, 16, 17, 18, 19, 20, 21, 22, 23, 24, 25, 26, 27, 28, 29, 30, 31, 32, 33, 34, 35, 36, 8, 36, 36], [26]⟩, ⟨(some 26), (Op.move (Operand.tmp 25)), 4, none⟩),
        (⟨[27, 4, 4, 26], [9, 10, 11, 12, 13, 14, 15, 16, 17, 18, 19, 20, 21, 22, 23, 24, 25, 26, 27, 28, 29, 30, 31, 32, 33, 34, 35, 36, 8, 36, 36], [27]⟩, ⟨(some 27), (Op.load 28 (Operand.tmp 4)), 28, (some (some 26, true))⟩),
        (⟨[28, 1, 1, 26], [9, 10, 11, 12, 13, 14, 15, 16, 17, 18, 19, 20, 21, 22, 23, 24, 25, 26, 27, 28, 29, 30, 31, 32, 33, 34, 35, 36, 8, 36, 36], [28]⟩, ⟨(some 28), (Op.move (Operand.tmp 1)), 32, (some (some 26, true))⟩),
        (⟨[29, 28, 1, 26], [9, 10, 11, 12, 13, 14, 15, 16, 17, 18, 19, 20, 21, 22, 23, 24, 25, 26, 27, 28, 29, 30, 31, 32, 33, 34, 35, 36, 8, 36, 36], [29]⟩, ⟨(some 29), (Op.indexAddr 32 (Operand.tmp 28) (Operand.const (Value.int IntKind.i64 0))), 0, (some (some 26, true))⟩),
        (⟨[30, 29, 1, 26], [9, 10, 11, 12, 13, 14, 15, 16, 17, 18, 19, 20, 21, 22, 23, 24, 25, 26, 27, 28, 29, 30, 31, 32, 33, 34, 35, 36, 8, 36, 36], [30]⟩, ⟨(some 30), (Op.load 3 (Operand.tmp 29)), 3, (some (some 26, true))⟩),
        (⟨[31, 1, 1, 26], [9, 10, 11, 12, 13, 14, 15, 16, 17, 18, 19, 20, 21, 22, 23, 24, 25, 26, 27, 28, 29, 30, 31, 32, 33, 34, 35, 36, 8, 36, 36], [31]⟩, ⟨(some 31), (Op.move (Operand.tmp 1)), 32, (some (some 26, true))⟩),
        (⟨[32, 31, 1, 26], [9, 10, 11, 12, 13, 14, 15, 16, 17, 18, 19, 20, 21, 22, 23, 24, 25, 26, 27, 28, 29, 30, 31, 32, 33, 34, 35, 36, 8, 36, 36], [32]⟩, ⟨(some 32), (Op.indexAddr 32 (Operand.tmp 31) (Operand.const (Value.int IntKind.i64 1))), 0, (some (some 26, true))⟩),
        (⟨[33, 32, 1, 26], [9, 10, 11, 12, 13, 14, 15, 16, 17, 18, 19, 20, 21, 22, 23, 24, 25, 26, 27, 28, 29, 30, 31, 32, 33, 34, 35, 36, 8, 36, 36], [33]⟩, ⟨(some 33), (Op.load 3 (Operand.tmp 32)), 3, (some (some 26, true))⟩),
        (⟨[34, 27, 30, 33, 4, 1, 1, 26], [9, 10, 11, 12, 13, 14, 15, 16, 17, 18, 19, 20, 21, 22, 23, 24, 25, 26, 27, 28, 29, 30, 31, 32, 33, 34, 35, 36, 8, 36, 36], [34]⟩, ⟨(some 34), (Op.call { callee := (Callee.value (Operand.func 57)), args := #[(Operand.tmp 27), (Operand.tmp 30), (Operand.tmp 33)], argTypes := #[28, 3, 3] }), 4, (some (some 26, true))⟩),
        (⟨[35, 34, 34, 26], [9, 10, 11, 12, 13, 14, 15, 16, 17, 18, 19, 20, 21, 22, 23, 24, 25, 26, 27, 28, 29, 30, 31, 32, 33, 34, 35, 36, 8, 36, 36], [35]⟩, ⟨(some 35), (Op.unOp UnOp.not 4 (Operand.tmp 34)), 4, (some (some 26, true))⟩),
        (⟨[36, 26, 35, 25, 35], [9, 10, 11, 12, 13, 14, 15, 16, 17, 18, 19, 20, 21, 22, 23, 24, 25, 26, 27, 28, 29, 30, 31, 32, 33, 34, 35, 36, 8, 36, 36], [36]⟩, ⟨(some 36), (Op.pick (Operand.tmp 26) (Operand.tmp 35) (Operand.const (Value.bool false))), 4, none⟩),
        (⟨[8, 36, 36], [9, 10, 11, 12, 13, 14, 15, 16, 17, 18, 19, 20, 21, 22, 23, 24, 25, 26, 27, 28, 29, 30, 31, 32, 33, 34, 35, 36, 8, 36, 36], [8, 36, 36]⟩, ⟨(some 8), (Op.assign (Operand.tmp 36)), 4, none⟩)])
      .ret)
theorem slim61 : Try.f61.body.map (slim lends) = some k61 := by kernel_rfl
theorem ok61 : fnOk Try.f61 4 = true := by kernel_rfl
theorem c61 {a l : List D} {r : D × List D} (h : wpD Y.env k61 (fin tys l.length [ResultVar.tmp 8] r) (entry a l)) (ha : a.length = 4) : Y.call 61 a l = some r :=
  call_slim (Y := Y) rfl Try.func61 (ha ▸ ok61) slim61 h
theorem s_zeTwo_call (p_Labels : Int) (p_Degree : Int) (p_Nodes : List (List Int)) (p_Edges : List (List Int)) (l : List Int) (x_ : List Int) (y : List Int) {r : Bool} (h : s_zeTwo p_Labels p_Degree p_Nodes p_Edges l x_ y = some r) : Y.call 61 [D.agg [D.int .i64 p_Labels, D.int .i64 p_Degree, D.sl 32 (lst (fun x => D.sl 3 (lst (D.int .i64) x)) p_Nodes), D.sl 32 (lst (fun x => D.sl 3 (lst (D.int .i64) x)) p_Edges)], D.sl 3 (lst (D.int .i64) l), D.sl 3 (lst (D.int .i64) x_), D.sl 3 (lst (D.int .i64) y)] [] = some (D.bool r, []) := by
  refine c61 ?_ rfl
  unfold k61
  unfold s_zeTwo at h
  by_cases e1 : (l.length : Int) = 2
  · rw [if_pos e1] at h
    obtain ⟨e2, h⟩ := ckS h
    obtain ⟨e3, h⟩ := ckS h
    have c4 := s_l1Has_cl x_ (l.getD 0 default) e3
    by_cases e5 : (x_.contains (l.getD 0 default)) = true
    · rw [if_pos e5] at h
      obtain ⟨e6, h⟩ := ckS h
      obtain ⟨e7, h⟩ := ckS h
      have c8 := s_l1Has_cl y (l.getD 1 default) e7
      by_cases e9 : (y.contains (l.getD 1 default)) = true
      · rw [if_pos e9] at h
        obtain ⟨e10, h⟩ := ckS h
        have c11 := s_prEdge_cl p_Labels p_Degree p_Nodes p_Edges (l.getD 0 default) (l.getD 1 default) e10
        obtain rfl := Option.some.inj h
        simp (maxDischargeDepth := 9) only [↓xpre, xpost, xlst, xcore, yset, rg0, ↓reduceIte, Nat.reduceEqDiff, Nat.reduceLT, Nat.reduceLeDiff, Nat.reduceAdd, Nat.reduceMul, Nat.reduceMod, Nat.reduceSub, Nat.reduceBEq, Int.reduceLE, Int.reduceLT, Int.reduceEq, Int.reduceSub, Int.reduceAdd, Int.reduceToNat, Int.reduceNeg, decide_eq_true e1, e2, e3, c4, e5, e6, e7, c8, e9, e10, c11] <;> (repeat' apply And.intro) <;> first | rfl | exact ⟨_, rfl⟩ | simp [lst]
      · rw [if_neg e9] at h
        have e9f : (y.contains (l.getD 1 default)) = false := Bool.eq_false_iff.mpr e9
        obtain rfl := Option.some.inj h
        simp (maxDischargeDepth := 9) only [↓xpre, xpost, xlst, xcore, yset, rg0, ↓reduceIte, Nat.reduceEqDiff, Nat.reduceLT, Nat.reduceLeDiff, Nat.reduceAdd, Nat.reduceMul, Nat.reduceMod, Nat.reduceSub, Nat.reduceBEq, Int.reduceLE, Int.reduceLT, Int.reduceEq, Int.reduceSub, Int.reduceAdd, Int.reduceToNat, Int.reduceNeg, decide_eq_true e1, e2, e3, c4, e5, e6, e7, c8, e9f] <;> (repeat' apply And.intro) <;> first | rfl | exact ⟨_, rfl⟩ | simp [lst]
    · rw [if_neg e5] at h
      have e5f : (x_.contains (l.getD 0 default)) = false := Bool.eq_false_iff.mpr e5
      obtain rfl := Option.some.inj h
      simp (maxDischargeDepth := 9) only [↓xpre, xpost, xlst, xcore, yset, rg0, ↓reduceIte, Nat.reduceEqDiff, Nat.reduceLT, Nat.reduceLeDiff, Nat.reduceAdd, Nat.reduceMul, Nat.reduceMod, Nat.reduceSub, Nat.reduceBEq, Int.reduceLE, Int.reduceLT, Int.reduceEq, Int.reduceSub, Int.reduceAdd, Int.reduceToNat, Int.reduceNeg, decide_eq_true e1, e2, e3, c4, e5f] <;> (repeat' apply And.intro) <;> first | rfl | exact ⟨_, rfl⟩ | simp [lst]
  · rw [if_neg e1] at h
    obtain rfl := Option.some.inj h
    simp (maxDischargeDepth := 9) only [↓xpre, xpost, xlst, xcore, yset, rg0, ↓reduceIte, Nat.reduceEqDiff, Nat.reduceLT, Nat.reduceLeDiff, Nat.reduceAdd, Nat.reduceMul, Nat.reduceMod, Nat.reduceSub, Nat.reduceBEq, Int.reduceLE, Int.reduceLT, Int.reduceEq, Int.reduceSub, Int.reduceAdd, Int.reduceToNat, Int.reduceNeg, e1] <;> (repeat' apply And.intro) <;> first | rfl | exact ⟨_, rfl⟩ | simp [lst]

theorem s_zeTwo_eq (a d : Int) (ns es : List (List Int)) (l x y : List Int) (he : Short es) (hx : x.length < 1099511627776) (hy : y.length < 1099511627776) : s_zeTwo a d ns es l x y = some (twoB es l x y) := by
  unfold s_zeTwo twoB
  by_cases h : l.length = 2
  · rw [if_pos (by omega), ckT (by omega), ckT hx]
    cases x.contains (l.getD 0 default) with
    | false => simp
    | true =>
      rw [if_pos rfl, ckT (by omega), ckT hy]
      cases y.contains (l.getD 1 default) with
      | false => simp
      | true => rw [if_pos rfl, ckT he]; simp [h]
  · rw [if_neg (by omega)]; simp [h]
theorem s_zeTwo_cl (p_Labels : Int) (p_Degree : Int) (p_Nodes : List (List Int)) (p_Edges : List (List Int)) (l : List Int) (x_ : List Int) (y : List Int) (h0 : Short p_Edges) (h1 : x_.length < 1099511627776) (h2 : y.length < 1099511627776) : Y.call 61 [D.agg [D.int .i64 p_Labels, D.int .i64 p_Degree, D.sl 32 (lst (fun x => D.sl 3 (lst (D.int .i64) x)) p_Nodes), D.sl 32 (lst (fun x => D.sl 3 (lst (D.int .i64) x)) p_Edges)], D.sl 3 (lst (D.int .i64) l), D.sl 3 (lst (D.int .i64) x_), D.sl 3 (lst (D.int .i64) y)] [] = some (D.bool (twoB p_Edges l x_ y), []) := s_zeTwo_call p_Labels p_Degree p_Nodes p_Edges l x_ y (s_zeTwo_eq p_Labels p_Degree p_Nodes p_Edges l x_ y h0 h1 h2)
/-- spec.CheckZeroRefusal -/
def k27_l0b : SC :=
  .seq
    (.ops [
      ⟨(some 21), (Op.binOp BinOp.lss 3 (Operand.tmp 20) (Operand.tmp 19) 3), 0, none⟩])
    (.seq
      (.cond (Operand.tmp 21)
        .skip
        (.exit 0))
      (.seq
        (.block 1
          (.seq
            (.ops [
              ⟨(some 22), (Op.move (Operand.tmp 20)), 3, none⟩,
              ⟨(some 23), (Op.indexAddr 22 (Operand.tmp 18) (Operand.tmp 20)), 0, none⟩,
              ⟨(some 24), (Op.load 32 (Operand.tmp 23)), 32, none⟩,
              ⟨(some 6), (Op.assign (Operand.tmp 22)), 3, none⟩,
              ⟨(some 7), (Op.assign (Operand.tmp 24)), 32, none⟩])
            (.seq
              (.draws [
                (⟨[25, 2, 2], [25, 26, 27, 28, 29, 30, 31, 32, 33], [25]⟩, ⟨(some 25), (Op.load 28 (Operand.tmp 2)), 28, none⟩),
                (⟨[26, 1, 1], [25, 26, 27, 28, 29, 30, 31, 32, 33], [26]⟩, ⟨(some 26), (Op.move (Operand.tmp 1)), 22, none⟩),
                (⟨[27, 6, 6], [25, 26, 27, 28, 29, 30, 31, 32, 33], [27]⟩, ⟨(some 27), (Op.move (Operand.tmp 6)), 3, none⟩),
                (⟨[28, 26, 27, 1, 6], [25, 26, 27, 28, 29, 30, 31, 32, 33], [28]⟩, ⟨(some 28), (Op.indexAddr 22 (Operand.tmp 26) (Operand.tmp 27)), 0, none⟩),
                (⟨[29, 28, 1], [25, 26, 27, 28, 29, 30, 31, 32, 33], [29]⟩, ⟨(some 29), (Op.load 32 (Operand.tmp 28)), 32, none⟩),
                (⟨[30, 7, 7], [25, 26, 27, 28, 29, 30, 31, 32, 33], [30]⟩, ⟨(some 30), (Op.move (Operand.tmp 7)), 32, none⟩),
                (⟨[31, 7, 7], [25, 26, 27, 28, 29, 30, 31, 32, 33], [31]⟩, ⟨(some 31), (Op.move (Operand.tmp 7)), 32, none⟩),
                (⟨[32, 25, 29, 30, 31, 2, 1, 7, 7], [25, 26, 27, 28, 29, 30, 31, 32, 33], [32]⟩, ⟨(some 32), (Op.call { callee := (Callee.value (Operand.func 61)), args := #[(Operand.tmp 25), (Operand.tmp 29), (Operand.tmp 30), (Operand.tmp 31)], argTypes := #[28, 32, 32, 32] }), 4, none⟩),
                (⟨[33, 32, 32], [25, 26, 27, 28, 29, 30, 31, 32, 33], [33]⟩, ⟨(some 33), (Op.unOp UnOp.not 4 (Operand.tmp 32)), 4, none⟩)])
              (.cond (Operand.tmp 33)
                (.seq
                  (.ops [
                    ⟨(some 4), (Op.assign (Operand.const (Value.bool false))), 4, none⟩,
                    ⟨(some 5), (Op.assign (Operand.const (Value.bool true))), 4, none⟩])
                  .ret)
                .skip))))
        (.ops [
          ⟨(some 34), (Op.binOp BinOp.add 3 (Operand.tmp 20) (Operand.const (Value.int IntKind.i64 1)) 3), 3, none⟩,
          ⟨(some 20), (Op.move (Operand.tmp 34)), 3, none⟩])))
def k27_l0 : SC := .loop k27_l0b
def k27 : SC :=
  .seq
    (.ops [
      ⟨(some 2), (Op.box 28 (Operand.tmp 0)), 0, none⟩,
      ⟨(some 4), (Op.assign (Operand.const (Value.bool false))), 4, none⟩,
      ⟨(some 5), (Op.assign (Operand.const (Value.bool false))), 4, none⟩])
    (.seq
      (.seq
        (.ops [
          ⟨(some 8), (Op.load 28 (Operand.tmp 2)), 28, none⟩,
          ⟨(some 9), (Op.call { callee := (Callee.value (Operand.func 56)), args := #[(Operand.tmp 8)], argTypes := #[28] }), 4, none⟩,
          ⟨(some 10), (Op.unOp UnOp.not 4 (Operand.tmp 9)), 4, none⟩])
        (.cond (Operand.tmp 10)
          (.seq
            (.ops [
              ⟨(some 4), (Op.assign (Operand.const (Value.bool false))), 4, none⟩,
              ⟨(some 5), (Op.assign (Operand.const (Value.bool false))), 4, none⟩])
            .ret)
          .skip))
      (.seq
        (.seq
          (.ops [
            ⟨(some 11), (Op.move (Operand.tmp 1)), 22, none⟩,
            ⟨(some 12), (Op.call { callee := (Callee.builtin Builtin.len), args := #[(Operand.tmp 11)], argTypes := #[22] }), 3, none⟩,
            ⟨(some 13), (Op.fieldAddr 28 (Operand.tmp 2) 2), 0, none⟩,
            ⟨(some 14), (Op.load 22 (Operand.tmp 13)), 22, none⟩,
            ⟨(some 15), (Op.call { callee := (Callee.builtin Builtin.len), args := #[(Operand.tmp 14)], argTypes := #[22] }), 3, none⟩,
            ⟨(some 16), (Op.binOp BinOp.neq 3 (Operand.tmp 12) (Operand.tmp 15) 3), 4, none⟩])
          (.cond (Operand.tmp 16)
            (.seq
              (.ops [
                ⟨(some 4), (Op.assign (Operand.const (Value.bool false))), 4, none⟩,
                ⟨(some 5), (Op.assign (Operand.const (Value.bool true))), 4, none⟩])
              .ret)
            .skip))
        (.seq
          (.seq
            (.ops [
              ⟨(some 17), (Op.fieldAddr 28 (Operand.tmp 2) 2), 0, none⟩,
              ⟨(some 18), (Op.load 22 (Operand.tmp 17)), 22, none⟩,
              ⟨(some 19), (Op.call { callee := (Callee.builtin Builtin.len), args := #[(Operand.tmp 18)], argTypes := #[22] }), 3, none⟩,
              ⟨(some 20), (Op.move (Operand.const (Value.int IntKind.i64 0))), 3, none⟩])
            (.block 0
              k27_l0))
          (.seq
            (.ops [
              ⟨(some 4), (Op.assign (Operand.const (Value.bool true))), 4, none⟩,
              ⟨(some 5), (Op.assign (Operand.const (Value.bool true))), 4, none⟩])
            .ret))))
theorem slim27 : Try.f27.body.map (slim lends) = some k27 := by kernel_rfl
theorem ok27 : fnOk Try.f27 2 = true := by kernel_rfl
theorem c27 {a l : List D} {r : D × List D} (h : wpD Y.env k27 (fin tys l.length [ResultVar.tmp 4, ResultVar.tmp 5] r) (entry a l)) (ha : a.length = 2) : Y.call 27 a l = some r :=
  call_slim (Y := Y) rfl Try.func27 (ha ▸ ok27) slim27 h
noncomputable def i_isPairRefusal_l0_S (t0_Labels : Int) (t0_Degree : Int) (t0_Nodes : List (List Int)) (t0_Edges : List (List Int)) (t1_ : List (List Int)) (t13_ : Int) (t5_1 : Int) (t8_ : Int) : Option ((Int × Int) ⊕ (Unit ⊕ Int)) :=
  if t8_ < (t0_Nodes.length : Int) then
    if t5_1 = (t1_.length : Int) then
      some (Sum.inr (Sum.inl ()))
    else
      ck (0 ≤ t5_1 ∧ t5_1.toNat < t1_.length) <|
      if ((t1_.getD t5_1.toNat default).length : Int) = 4 then
        ck (0 < (t1_.getD t5_1.toNat default).length) <|
        if ((t1_.getD t5_1.toNat default).getD 0 default) = t13_ then
          ck (1 < (t1_.getD t5_1.toNat default).length) <|
          if ((t1_.getD t5_1.toNat default).getD 1 default) = t8_ then
            ck (2 < (t1_.getD t5_1.toNat default).length) <|
            ck ((t0_Nodes.getD t13_.toNat default).length < 1099511627776) <|
            if ((t0_Nodes.getD t13_.toNat default).contains ((t1_.getD t5_1.toNat default).getD 2 default)) = true then
              ck (0 ≤ t8_ ∧ t8_.toNat < t0_Nodes.length) <|
              ck (3 < (t1_.getD t5_1.toNat default).length) <|
              ck ((t0_Nodes.getD t8_.toNat default).length < 1099511627776) <|
              if ((t0_Nodes.getD t8_.toNat default).contains ((t1_.getD t5_1.toNat default).getD 3 default)) = true then
                ck (Short t0_Edges) <|
                ck (incL t0_Edges = true) <|
                if (hasE t0_Edges ((t1_.getD t5_1.toNat default).getD 2 default) ((t1_.getD t5_1.toNat default).getD 3 default)) = true then
                  some (Sum.inr (Sum.inl ()))
                else
                  some (Sum.inl (IntKind.i64.wrap (t5_1 + 1), IntKind.i64.wrap (t8_ + 1)))
              else
                some (Sum.inr (Sum.inl ()))
            else
              some (Sum.inr (Sum.inl ()))
          else
            some (Sum.inr (Sum.inl ()))
        else
          some (Sum.inr (Sum.inl ()))
      else
        some (Sum.inr (Sum.inl ()))
  else
    some (Sum.inr (Sum.inr t5_1))
noncomputable def i_isPairRefusal_l0 (t0_Labels : Int) (t0_Degree : Int) (t0_Nodes : List (List Int)) (t0_Edges : List (List Int)) (t1_ : List (List Int)) (t13_ : Int) (v : Int × Int) : Option (Unit ⊕ Int) := itO (fun v => i_isPairRefusal_l0_S t0_Labels t0_Degree t0_Nodes t0_Edges t1_ t13_ v.1 v.2) v
noncomputable def i_isPairRefusal_l1_S (t0_Labels : Int) (t0_Degree : Int) (t0_Nodes : List (List Int)) (t0_Edges : List (List Int)) (t1_ : List (List Int)) (t5_ : Int) (t13_ : Int) : Option ((Int × Int) ⊕ (Unit ⊕ Int)) :=
  if t13_ < (t0_Nodes.length : Int) then
    ck (0 ≤ t13_ ∧ t13_.toNat < t0_Nodes.length) <|
    (i_isPairRefusal_l0 t0_Labels t0_Degree t0_Nodes t0_Edges t1_ t13_ (t5_, t13_)).bind fun r4_ =>
    match r4_ with
    | .inl q4_ =>
      some (Sum.inr (Sum.inl ()))
    | .inr q4_ =>
      some (Sum.inl (q4_, IntKind.i64.wrap (t13_ + 1)))
  else
    some (Sum.inr (Sum.inr t5_))
noncomputable def i_isPairRefusal_l1 (t0_Labels : Int) (t0_Degree : Int) (t0_Nodes : List (List Int)) (t0_Edges : List (List Int)) (t1_ : List (List Int)) (v : Int × Int) : Option (Unit ⊕ Int) := itO (fun v => i_isPairRefusal_l1_S t0_Labels t0_Degree t0_Nodes t0_Edges t1_ v.1 v.2) v
noncomputable def i_isPairRefusal (t0_Labels : Int) (t0_Degree : Int) (t0_Nodes : List (List Int)) (t0_Edges : List (List Int)) (t1_ : List (List Int)) : Option (Bool) :=
  (i_isPairRefusal_l1 t0_Labels t0_Degree t0_Nodes t0_Edges t1_ (0, 0)).bind fun r2_ =>
  match r2_ with
  | .inl q2_ =>
    some false
  | .inr q2_ =>
    some (decide (q2_ = (t1_.length : Int)))
/-- impl.isPairRefusal -/
def k64_l0b : SC :=
  .seq
    (.seq
      (.ops [
        ⟨(some 19), (Op.move (Operand.tmp 8)), 3, none⟩,
        ⟨(some 20), (Op.fieldAddr 28 (Operand.tmp 2) 2), 0, none⟩,
        ⟨(some 21), (Op.load 22 (Operand.tmp 20)), 22, none⟩,
        ⟨(some 22), (Op.call { callee := (Callee.builtin Builtin.len), args := #[(Operand.tmp 21)], argTypes := #[22] }), 3, none⟩,
        ⟨(some 23), (Op.binOp BinOp.lss 3 (Operand.tmp 19) (Operand.tmp 22) 3), 4, none⟩])
      (.cond (Operand.tmp 23)
        .skip
        (.exit 2)))
    (.seq
      (.block 3
        (.seq
          (.seq
            (.ops [
              ⟨(some 26), (Op.move (Operand.tmp 5)), 3, none⟩,
              ⟨(some 27), (Op.move (Operand.tmp 1)), 22, none⟩,
              ⟨(some 28), (Op.call { callee := (Callee.builtin Builtin.len), args := #[(Operand.tmp 27)], argTypes := #[22] }), 3, none⟩,
              ⟨(some 29), (Op.binOp BinOp.eql 3 (Operand.tmp 26) (Operand.tmp 28) 3), 4, none⟩,
              ⟨(some 30), (Op.move (Operand.tmp 29)), 4, none⟩,
              ⟨(some 31), (Op.move (Operand.tmp 1)), 22, (some (some 30, false))⟩,
              ⟨(some 32), (Op.move (Operand.tmp 5)), 3, (some (some 30, false))⟩,
              ⟨(some 33), (Op.indexAddr 22 (Operand.tmp 31) (Operand.tmp 32)), 0, (some (some 30, false))⟩,
              ⟨(some 34), (Op.load 32 (Operand.tmp 33)), 32, (some (some 30, false))⟩,
              ⟨(some 35), (Op.call { callee := (Callee.builtin Builtin.len), args := #[(Operand.tmp 34)], argTypes := #[32] }), 3, (some (some 30, false))⟩,
              ⟨(some 36), (Op.binOp BinOp.neq 3 (Operand.tmp 35) (Operand.const (Value.int IntKind.i64 4)) 3), 4, (some (some 30, false))⟩,
              ⟨(some 37), (Op.pick (Operand.tmp 30) (Operand.const (Value.bool true)) (Operand.tmp 36)), 4, none⟩])
            (.cond (Operand.tmp 37)
              (.seq
                (.ops [
                  ⟨(some 4), (Op.assign (Operand.const (Value.bool false))), 4, none⟩])
                .ret)
              .skip))
          (.seq
            (.ops [
              ⟨(some 38), (Op.move (Operand.tmp 1)), 22, none⟩,
              ⟨(some 39), (Op.move (Operand.tmp 5)), 3, none⟩,
              ⟨(some 40), (Op.indexAddr 22 (Operand.tmp 38) (Operand.tmp 39)), 0, none⟩,
              ⟨(some 41), (Op.load 32 (Operand.tmp 40)), 32, none⟩,
              ⟨(some 9), (Op.assign (Operand.tmp 41)), 32, none⟩])
            (.seq
              (.seq
                (.draws [
                  (⟨[42, 9, 9], [42, 43, 44, 45, 46, 47, 48, 49, 50, 51, 52, 53, 54, 55, 56, 57, 58, 59, 60, 61, 62, 63, 64, 65, 66, 67, 68, 69, 70, 71, 72, 73, 74, 75, 76, 77, 78, 79, 80, 81, 82, 83], [42]⟩, ⟨(some 42), (Op.move (Operand.tmp 9)), 32, none⟩),
                  (⟨[43, 42, 9], [42, 43, 44, 45, 46, 47, 48, 49, 50, 51, 52, 53, 54, 55, 56, 57, 58, 59, 60, 61, 62, 63, 64, 65, 66, 67, 68, 69, 70, 71, 72, 73, 74, 75, 76, 77, 78, 79, 80, 81, 82, 83], [43]⟩, ⟨(some 43), (Op.indexAddr 32 (Operand.tmp 42) (Operand.const (Value.int IntKind.i64 0))), 0, none⟩),
                  (⟨[44, 43, 9], [42, 43, 44, 45, 46, 47, 48, 49, 50, 51, 52, 53, 54, 55, 56, 57, 58, 59, 60, 61, 62, 63, 64, 65, 66, 67, 68, 69, 70, 71, 72, 73, 74, 75, 76, 77, 78, 79, 80, 81, 82, 83], [44]⟩, ⟨(some 44), (Op.load 3 (Operand.tmp 43)), 3, none⟩),
                  (⟨[45, 6, 6], [42, 43, 44, 45, 46, 47, 48, 49, 50, 51, 52, 53, 54, 55, 56, 57, 58, 59, 60, 61, 62, 63, 64, 65, 66, 67, 68, 69, 70, 71, 72, 73, 74, 75, 76, 77, 78, 79, 80, 81, 82, 83], [45]⟩, ⟨(some 45), (Op.move (Operand.tmp 6)), 3, none⟩),
                  (⟨[46, 44, 45, 9, 6], [42, 43, 44, 45, 46, 47, 48, 49, 50, 51, 52, 53, 54, 55, 56, 57, 58, 59, 60, 61, 62, 63, 64, 65, 66, 67, 68, 69, 70, 71, 72, 73, 74, 75, 76, 77, 78, 79, 80, 81, 82, 83], [46]⟩, ⟨(some 46), (Op.binOp BinOp.neq 3 (Operand.tmp 44) (Operand.tmp 45) 3), 4, none⟩),
                  (⟨[47, 46, 46], [42, 43, 44, 45, 46, 47, 48, 49, 50, 51, 52, 53, 54, 55, 56, 57, 58, 59, 60, 61, 62, 63, 64, 65, 66, 67, 68, 69, 70, 71, 72, 73, 74, 75, 76, 77, 78, 79, 80, 81, 82, 83], [47]⟩, ⟨(some 47), (Op.move (Operand.tmp 46)), 4, none⟩),
                  (⟨[48, 9, 9, 47], [42, 43, 44, 45, 46, 47, 48, 49, 50, 51, 52, 53, 54, 55, 56, 57, 58, 59, 60, 61, 62, 63, 64, 65, 66, 67, 68, 69, 70, 71, 72, 73, 74, 75, 76, 77, 78, 79, 80, 81, 82, 83], [48]⟩, ⟨(some 48), (Op.move (Operand.tmp 9)), 32, (some (some 47, false))⟩),
                  (⟨[49, 48, 9, 47], [42, 43, 44, 45, 46, 47, 48, 49, 50, 51, 52, 53, 54, 55, 56, 57, 58, 59, 60, 61, 62, 63, 64, 65, 66, 67, 68, 69, 70, 71, 72, 73, 74, 75, 76, 77, 78, 79, 80, 81, 82, 83], [49]⟩, ⟨(some 49), (Op.indexAddr 32 (Operand.tmp 48) (Operand.const (Value.int IntKind.i64 1))), 0, (some (some 47, false))⟩),
                  (⟨[50, 49, 9, 47], [42, 43, 44, 45, 46, 47, 48, 49, 50, 51, 52, 53, 54, 55, 56, 57, 58, 59, 60, 61, 62, 63, 64, 65, 66, 67, 68, 69, 70, 71, 72, 73, 74, 75, 76, 77, 78, 79, 80, 81, 82, 83], [50]⟩, ⟨(some 50), (Op.load 3 (Operand.tmp 49)), 3, (some (some 47, false))⟩),
                  (⟨[51, 8, 8, 47], [42, 43, 44, 45, 46, 47, 48, 49, 50, 51, 52, 53, 54, 55, 56, 57, 58, 59, 60, 61, 62, 63, 64, 65, 66, 67, 68, 69, 70, 71, 72, 73, 74, 75, 76, 77, 78, 79, 80, 81, 82, 83], [51]⟩, ⟨(some 51), (Op.move (Operand.tmp 8)), 3, (some (some 47, false))⟩),
                  (⟨[52, 50, 51, 9, 8, 47], [42, 43, 44, 45, 46, 47, 48, 49, 50, 51, 52, 53, 54, 55, 56, 57, 58, 59, 60, 61, 62, 63, 64, 65, 66, 67, 68, 69, 70, 71, 72, 73, 74, 75, 76, 77, 78, 79, 80, 81, 82, 83], [52]⟩, ⟨(some 52), (Op.binOp BinOp.neq 3 (Operand.tmp 50) (Operand.tmp 51) 3), 4, (some (some 47, false))⟩),
                  (⟨[53, 47, 52, 46, 52], [42, 43, 44, 45, 46, 47, 48, 49, 50, 51, 52, 53, 54, 55, 56, 57, 58, 59, 60, 61, 62, 63, 64, 65, 66, 67, 68, 69, 70, 71, 72, 73, 74, 75, 76, 77, 78, 79, 80, 81, 82, 83], [53]⟩, ⟨(some 53), (Op.pick (Operand.tmp 47) (Operand.const (Value.bool true)) (Operand.tmp 52)), 4, none⟩),
                  (⟨[54, 53, 53], [42, 43, 44, 45, 46, 47, 48, 49, 50, 51, 52, 53, 54, 55, 56, 57, 58, 59, 60, 61, 62, 63, 64, 65, 66, 67, 68, 69, 70, 71, 72, 73, 74, 75, 76, 77, 78, 79, 80, 81, 82, 83], [54]⟩, ⟨(some 54), (Op.move (Operand.tmp 53)), 4, none⟩),
                  (⟨[55, 7, 7, 54], [42, 43, 44, 45, 46, 47, 48, 49, 50, 51, 52, 53, 54, 55, 56, 57, 58, 59, 60, 61, 62, 63, 64, 65, 66, 67, 68, 69, 70, 71, 72, 73, 74, 75, 76, 77, 78, 79, 80, 81, 82, 83], [55]⟩, ⟨(some 55), (Op.move (Operand.tmp 7)), 32, (some (some 54, false))⟩),
                  (⟨[56, 9, 9, 54], [42, 43, 44, 45, 46, 47, 48, 49, 50, 51, 52, 53, 54, 55, 56, 57, 58, 59, 60, 61, 62, 63, 64, 65, 66, 67, 68, 69, 70, 71, 72, 73, 74, 75, 76, 77, 78, 79, 80, 81, 82, 83], [56]⟩, ⟨(some 56), (Op.move (Operand.tmp 9)), 32, (some (some 54, false))⟩),
                  (⟨[57, 56, 9, 54], [42, 43, 44, 45, 46, 47, 48, 49, 50, 51, 52, 53, 54, 55, 56, 57, 58, 59, 60, 61, 62, 63, 64, 65, 66, 67, 68, 69, 70, 71, 72, 73, 74, 75, 76, 77, 78, 79, 80, 81, 82, 83], [57]⟩, ⟨(some 57), (Op.indexAddr 32 (Operand.tmp 56) (Operand.const (Value.int IntKind.i64 2))), 0, (some (some 54, false))⟩),
                  (⟨[58, 57, 9, 54], [42, 43, 44, 45, 46, 47, 48, 49, 50, 51, 52, 53, 54, 55, 56, 57, 58, 59, 60, 61, 62, 63, 64, 65, 66, 67, 68, 69, 70, 71, 72, 73, 74, 75, 76, 77, 78, 79, 80, 81, 82, 83], [58]⟩, ⟨(some 58), (Op.load 3 (Operand.tmp 57)), 3, (some (some 54, false))⟩),
                  (⟨[59, 55, 58, 7, 9, 54], [42, 43, 44, 45, 46, 47, 48, 49, 50, 51, 52, 53, 54, 55, 56, 57, 58, 59, 60, 61, 62, 63, 64, 65, 66, 67, 68, 69, 70, 71, 72, 73, 74, 75, 76, 77, 78, 79, 80, 81, 82, 83], [59]⟩, ⟨(some 59), (Op.call { callee := (Callee.value (Operand.func 89)), args := #[(Operand.tmp 55), (Operand.tmp 58)], argTypes := #[32, 3] }), 4, (some (some 54, false))⟩),
                  (⟨[60, 59, 59, 54], [42, 43, 44, 45, 46, 47, 48, 49, 50, 51, 52, 53, 54, 55, 56, 57, 58, 59, 60, 61, 62, 63, 64, 65, 66, 67, 68, 69, 70, 71, 72, 73, 74, 75, 76, 77, 78, 79, 80, 81, 82, 83], [60]⟩, ⟨(some 60), (Op.unOp UnOp.not 4 (Operand.tmp 59)), 4, (some (some 54, false))⟩),
                  (⟨[61, 54, 60, 53, 60], [42, 43, 44, 45, 46, 47, 48, 49, 50, 51, 52, 53, 54, 55, 56, 57, 58, 59, 60, 61, 62, 63, 64, 65, 66, 67, 68, 69, 70, 71, 72, 73, 74, 75, 76, 77, 78, 79, 80, 81, 82, 83], [61]⟩, ⟨(some 61), (Op.pick (Operand.tmp 54) (Operand.const (Value.bool true)) (Operand.tmp 60)), 4, none⟩),
                  (⟨[62, 61, 61], [42, 43, 44, 45, 46, 47, 48, 49, 50, 51, 52, 53, 54, 55, 56, 57, 58, 59, 60, 61, 62, 63, 64, 65, 66, 67, 68, 69, 70, 71, 72, 73, 74, 75, 76, 77, 78, 79, 80, 81, 82, 83], [62]⟩, ⟨(some 62), (Op.move (Operand.tmp 61)), 4, none⟩),
                  (⟨[63, 2, 2, 62], [42, 43, 44, 45, 46, 47, 48, 49, 50, 51, 52, 53, 54, 55, 56, 57, 58, 59, 60, 61, 62, 63, 64, 65, 66, 67, 68, 69, 70, 71, 72, 73, 74, 75, 76, 77, 78, 79, 80, 81, 82, 83], [63]⟩, ⟨(some 63), (Op.fieldAddr 28 (Operand.tmp 2) 2), 0, (some (some 62, false))⟩),
                  (⟨[64, 63, 2, 62], [42, 43, 44, 45, 46, 47, 48, 49, 50, 51, 52, 53, 54, 55, 56, 57, 58, 59, 60, 61, 62, 63, 64, 65, 66, 67, 68, 69, 70, 71, 72, 73, 74, 75, 76, 77, 78, 79, 80, 81, 82, 83], [64]⟩, ⟨(some 64), (Op.load 22 (Operand.tmp 63)), 22, (some (some 62, false))⟩),
                  (⟨[65, 8, 8, 62], [42, 43, 44, 45, 46, 47, 48, 49, 50, 51, 52, 53, 54, 55, 56, 57, 58, 59, 60, 61, 62, 63, 64, 65, 66, 67, 68, 69, 70, 71, 72, 73, 74, 75, 76, 77, 78, 79, 80, 81, 82, 83], [65]⟩, ⟨(some 65), (Op.move (Operand.tmp 8)), 3, (some (some 62, false))⟩),
                  (⟨[66, 64, 65, 2, 8, 62], [42, 43, 44, 45, 46, 47, 48, 49, 50, 51, 52, 53, 54, 55, 56, 57, 58, 59, 60, 61, 62, 63, 64, 65, 66, 67, 68, 69, 70, 71, 72, 73, 74, 75, 76, 77, 78, 79, 80, 81, 82, 83], [66]⟩, ⟨(some 66), (Op.indexAddr 22 (Operand.tmp 64) (Operand.tmp 65)), 0, (some (some 62, false))⟩),
                  (⟨[67, 66, 2, 62], [42, 43, 44, 45, 46, 47, 48, 49, 50, 51, 52, 53, 54, 55, 56, 57, 58, 59, 60, 61, 62, 63, 64, 65, 66, 67, 68, 69, 70, 71, 72, 73, 74, 75, 76, 77, 78, 79, 80, 81, 82, 83], [67]⟩, ⟨(some 67), (Op.load 32 (Operand.tmp 66)), 32, (some (some 62, false))⟩),
                  (⟨[68, 9, 9, 62], [42, 43, 44, 45, 46, 47, 48, 49, 50, 51, 52, 53, 54, 55, 56, 57, 58, 59, 60, 61, 62, 63, 64, 65, 66, 67, 68, 69, 70, 71, 72, 73, 74, 75, 76, 77, 78, 79, 80, 81, 82, 83], [68]⟩, ⟨(some 68), (Op.move (Operand.tmp 9)), 32, (some (some 62, false))⟩),
                  (⟨[69, 68, 9, 62], [42, 43, 44, 45, 46, 47, 48, 49, 50, 51, 52, 53, 54, 55, 56, 57, 58, 59, 60, 61, 62, 63, 64, 65, 66, 67, 68, 69, 70, 71, 72, 73, 74, 75, 76, 77, 78, 79, 80, 81, 82, 83], [69]⟩, ⟨(some 69), (Op.indexAddr 32 (Operand.tmp 68) (Operand.const (Value.int IntKind.i64 3))), 0, (some (some 62, false))⟩),
                  (⟨[70, 69, 9, 62], [42, 43, 44, 45, 46, 47, 48, 49, 50, 51, 52, 53, 54, 55, 56, 57, 58, 59, 60, 61, 62, 63, 64, 65, 66, 67, 68, 69, 70, 71, 72, 73, 74, 75, 76, 77, 78, 79, 80, 81, 82, 83], [70]⟩, ⟨(some 70), (Op.load 3 (Operand.tmp 69)), 3, (some (some 62, false))⟩),
                  (⟨[71, 67, 70, 2, 9, 62], [42, 43, 44, 45, 46, 47, 48, 49, 50, 51, 52, 53, 54, 55, 56, 57, 58, 59, 60, 61, 62, 63, 64, 65, 66, 67, 68, 69, 70, 71, 72, 73, 74, 75, 76, 77, 78, 79, 80, 81, 82, 83], [71]⟩, ⟨(some 71), (Op.call { callee := (Callee.value (Operand.func 89)), args := #[(Operand.tmp 67), (Operand.tmp 70)], argTypes := #[32, 3] }), 4, (some (some 62, false))⟩),
                  (⟨[72, 71, 71, 62], [42, 43, 44, 45, 46, 47, 48, 49, 50, 51, 52, 53, 54, 55, 56, 57, 58, 59, 60, 61, 62, 63, 64, 65, 66, 67, 68, 69, 70, 71, 72, 73, 74, 75, 76, 77, 78, 79, 80, 81, 82, 83], [72]⟩, ⟨(some 72), (Op.unOp UnOp.not 4 (Operand.tmp 71)), 4, (some (some 62, false))⟩),
                  (⟨[73, 62, 72, 61, 72], [42, 43, 44, 45, 46, 47, 48, 49, 50, 51, 52, 53, 54, 55, 56, 57, 58, 59, 60, 61, 62, 63, 64, 65, 66, 67, 68, 69, 70, 71, 72, 73, 74, 75, 76, 77, 78, 79, 80, 81, 82, 83], [73]⟩, ⟨(some 73), (Op.pick (Operand.tmp 62) (Operand.const (Value.bool true)) (Operand.tmp 72)), 4, none⟩),
                  (⟨[74, 73, 73], [42, 43, 44, 45, 46, 47, 48, 49, 50, 51, 52, 53, 54, 55, 56, 57, 58, 59, 60, 61, 62, 63, 64, 65, 66, 67, 68, 69, 70, 71, 72, 73, 74, 75, 76, 77, 78, 79, 80, 81, 82, 83], [74]⟩, ⟨(some 74), (Op.move (Operand.tmp 73)), 4, none⟩),
                  (⟨[75, 2, 2, 74], [42, 43, 44, 45, 46, 47, 48, 49, 50, 51, 52, 53, 54, 55, 56, 57, 58, 59, 60, 61, 62, 63, 64, 65, 66, 67, 68, 69, 70, 71, 72, 73, 74, 75, 76, 77, 78, 79, 80, 81, 82, 83], [75]⟩, ⟨(some 75), (Op.load 28 (Operand.tmp 2)), 28, (some (some 74, false))⟩),
                  (⟨[76, 9, 9, 74], [42, 43, 44, 45, 46, 47, 48, 49, 50, 51, 52, 53, 54, 55, 56, 57, 58, 59, 60, 61, 62, 63, 64, 65, 66, 67, 68, 69, 70, 71, 72, 73, 74, 75, 76, 77, 78, 79, 80, 81, 82, 83], [76]⟩, ⟨(some 76), (Op.move (Operand.tmp 9)), 32, (some (some 74, false))⟩),
                  (⟨[77, 76, 9, 74], [42, 43, 44, 45, 46, 47, 48, 49, 50, 51, 52, 53, 54, 55, 56, 57, 58, 59, 60, 61, 62, 63, 64, 65, 66, 67, 68, 69, 70, 71, 72, 73, 74, 75, 76, 77, 78, 79, 80, 81, 82, 83], [77]⟩, ⟨(some 77), (Op.indexAddr 32 (Operand.tmp 76) (Operand.const (Value.int IntKind.i64 2))), 0, (some (some 74, false))⟩),
                  (⟨[78, 77, 9, 74], [42, 43, 44, 45, 46, 47, 48, 49, 50, 51, 52, 53, 54, 55, 56, 57, 58, 59, 60, 61, 62, 63, 64, 65, 66, 67, 68, 69, 70, 71, 72, 73, 74, 75, 76, 77, 78, 79, 80, 81, 82, 83], [78]⟩, ⟨(some 78), (Op.load 3 (Operand.tmp 77)), 3, (some (some 74, false))⟩),
                  (⟨[79, 9, 9, 74], [42, 43, 44, 45, 46, 47, 48, 49, 50, 51, 52, 53, 54, 55, 56, 57, 58, 59, 60, 61, 62, 63, 64, 65, 66, 67, 68, 69, 70, 71, 72, 73, 74, 75, 76, 77, 78, 79, 80, 81, 82, 83], [79]⟩, ⟨(some 79), (Op.move (Operand.tmp 9)), 32, (some (some 74, false))⟩),
                  (⟨[80, 79, 9, 74], [42, 43, 44, 45, 46, 47, 48, 49, 50, 51, 52, 53, 54, 55, 56, 57, 58, 59, 60, 61, 62, 63, 64, 65, 66, 67, 68, 69, 70, 71, 72, 73, 74, 75, 76, 77, 78, 79, 80, 81, 82, 83], [80]⟩, ⟨(some 80), (Op.indexAddr 32 (Operand.tmp 79) (Operand.const (Value.int IntKind.i64 3))), 0, (some (some 74, false))⟩),
                  (⟨[81, 80, 9, 74], [42, 43, 44, 45, 46, 47, 48, 49, 50, 51, 52, 53, 54, 55, 56, 57, 58, 59, 60, 61, 62, 63, 64, 65, 66, 67, 68, 69, 70, 71, 72, 73, 74, 75, 76, 77, 78, 79, 80, 81, 82, 83], [81]⟩, ⟨(some 81), (Op.load 3 (Operand.tmp 80)), 3, (some (some 74, false))⟩),
                  (⟨[82, 75, 78, 81, 2, 9, 9, 74], [42, 43, 44, 45, 46, 47, 48, 49, 50, 51, 52, 53, 54, 55, 56, 57, 58, 59, 60, 61, 62, 63, 64, 65, 66, 67, 68, 69, 70, 71, 72, 73, 74, 75, 76, 77, 78, 79, 80, 81, 82, 83], [82]⟩, ⟨(some 82), (Op.call { callee := (Callee.value (Operand.func 59)), args := #[(Operand.tmp 75), (Operand.tmp 78), (Operand.tmp 81)], argTypes := #[28, 3, 3] }), 4, (some (some 74, false))⟩),
                  (⟨[83, 74, 82, 73, 82], [42, 43, 44, 45, 46, 47, 48, 49, 50, 51, 52, 53, 54, 55, 56, 57, 58, 59, 60, 61, 62, 63, 64, 65, 66, 67, 68, 69, 70, 71, 72, 73, 74, 75, 76, 77, 78, 79, 80, 81, 82, 83], [83]⟩, ⟨(some 83), (Op.pick (Operand.tmp 74) (Operand.const (Value.bool true)) (Operand.tmp 82)), 4, none⟩)])
                (.cond (Operand.tmp 83)
                  (.seq
                    (.ops [
                      ⟨(some 4), (Op.assign (Operand.const (Value.bool false))), 4, none⟩])
                    .ret)
                  .skip))
              (.ops [
                ⟨(some 84), (Op.move (Operand.tmp 5)), 3, none⟩,
                ⟨(some 85), (Op.binOp BinOp.add 3 (Operand.tmp 84) (Operand.const (Value.int IntKind.i64 1)) 3), 3, none⟩,
                ⟨(some 5), (Op.assign (Operand.tmp 85)), 3, none⟩])))))
      (.ops [
        ⟨(some 24), (Op.move (Operand.tmp 8)), 3, none⟩,
        ⟨(some 25), (Op.binOp BinOp.add 3 (Operand.tmp 24) (Operand.const (Value.int IntKind.i64 1)) 3), 3, none⟩,
        ⟨(some 8), (Op.assign (Operand.tmp 25)), 3, none⟩]))
def k64_l0 : SC := .loop k64_l0b
def k64_l1b : SC :=
  .seq
    (.ops [
      ⟨(some 14), (Op.binOp BinOp.lss 3 (Operand.tmp 13) (Operand.tmp 12) 3), 0, none⟩])
    (.seq
      (.cond (Operand.tmp 14)
        .skip
        (.exit 0))
      (.seq
        (.block 1
          (.seq
            (.ops [
              ⟨(some 15), (Op.move (Operand.tmp 13)), 3, none⟩,
              ⟨(some 16), (Op.indexAddr 22 (Operand.tmp 11) (Operand.tmp 13)), 0, none⟩,
              ⟨(some 17), (Op.load 32 (Operand.tmp 16)), 32, none⟩,
              ⟨(some 6), (Op.assign (Operand.tmp 15)), 3, none⟩,
              ⟨(some 7), (Op.assign (Operand.tmp 17)), 32, none⟩])
            (.seq
              (.ops [
                ⟨(some 18), (Op.move (Operand.tmp 6)), 3, none⟩,
                ⟨(some 8), (Op.assign (Operand.tmp 18)), 3, none⟩])
              (.block 2
                k64_l0))))
        (.ops [
          ⟨(some 86), (Op.binOp BinOp.add 3 (Operand.tmp 13) (Operand.const (Value.int IntKind.i64 1)) 3), 3, none⟩,
          ⟨(some 13), (Op.move (Operand.tmp 86)), 3, none⟩])))
def k64_l1 : SC := .loop k64_l1b
def k64 : SC :=
  .seq
    (.ops [
      ⟨(some 2), (Op.box 28 (Operand.tmp 0)), 0, none⟩,
      ⟨(some 4), (Op.assign (Operand.const (Value.bool false))), 4, none⟩])
    (.seq
      (.ops [
        ⟨(some 5), (Op.assign (Operand.const (Value.int IntKind.i64 0))), 3, none⟩])
      (.seq
        (.seq
          (.ops [
            ⟨(some 10), (Op.fieldAddr 28 (Operand.tmp 2) 2), 0, none⟩,
            ⟨(some 11), (Op.load 22 (Operand.tmp 10)), 22, none⟩,
            ⟨(some 12), (Op.call { callee := (Callee.builtin Builtin.len), args := #[(Operand.tmp 11)], argTypes := #[22] }), 3, none⟩,
            ⟨(some 13), (Op.move (Operand.const (Value.int IntKind.i64 0))), 3, none⟩])
          (.block 0
            k64_l1))
        (.seq
          (.ops [
            ⟨(some 87), (Op.move (Operand.tmp 5)), 3, none⟩,
            ⟨(some 88), (Op.move (Operand.tmp 1)), 22, none⟩,
            ⟨(some 89), (Op.call { callee := (Callee.builtin Builtin.len), args := #[(Operand.tmp 88)], argTypes := #[22] }), 3, none⟩,
            ⟨(some 90), (Op.binOp BinOp.eql 3 (Operand.tmp 87) (Operand.tmp 89) 3), 4, none⟩,
            ⟨(some 4), (Op.assign (Operand.tmp 90)), 4, none⟩])
          .ret)))
theorem slim64 : Try.f64.body.map (slim lends) = some k64 := by kernel_rfl
theorem ok64 : fnOk Try.f64 2 = true := by kernel_rfl
theorem c64 {a l : List D} {r : D × List D} (h : wpD Y.env k64 (fin tys l.length [ResultVar.tmp 4] r) (entry a l)) (ha : a.length = 2) : Y.call 64 a l = some r :=
  call_slim (Y := Y) rfl Try.func64 (ha ▸ ok64) slim64 h
def i_isPairRefusal_l0_M (t0_Labels : Int) (t0_Degree : Int) (t0_Nodes : List (List Int)) (t0_Edges : List (List Int)) (t1_ : List (List Int)) (t13_ : Int) (t5_1 : Int) (t8_ : Int) (s : St) : Prop := s.v 1 = D.sl 32 (lst (fun x => D.sl 3 (lst (D.int .i64) x)) t1_) ∧ s.v 2 = D.box [D.int .i64 t0_Labels, D.int .i64 t0_Degree, D.sl 32 (lst (fun x => D.sl 3 (lst (D.int .i64) x)) t0_Nodes), D.sl 32 (lst (fun x => D.sl 3 (lst (D.int .i64) x)) t0_Edges)] ∧ s.v 5 = D.int .i64 t5_1 ∧ s.v 6 = D.int .i64 t13_ ∧ s.v 7 = D.sl 3 (lst (D.int .i64) (t0_Nodes.getD t13_.toNat default)) ∧ s.v 8 = D.int .i64 t8_ ∧ s.v 11 = D.sl 32 (lst (fun x => D.sl 3 (lst (D.int .i64) x)) t0_Nodes) ∧ s.v 12 = D.int .i64 (t0_Nodes.length : Int) ∧ s.v 13 = D.int .i64 t13_
def i_isPairRefusal_l0_X (t0_Labels : Int) (t0_Degree : Int) (t0_Nodes : List (List Int)) (t0_Edges : List (List Int)) (t1_ : List (List Int)) (t13_ : Int) (r : Unit ⊕ Int) (ex : Ex) (s : St) : Prop := match r with
  | .inl q => ex = .ret ∧ s.v 4 = D.bool false
  | .inr q => ex = .exit 2 ∧ s.v 1 = D.sl 32 (lst (fun x => D.sl 3 (lst (D.int .i64) x)) t1_) ∧ s.v 2 = D.box [D.int .i64 t0_Labels, D.int .i64 t0_Degree, D.sl 32 (lst (fun x => D.sl 3 (lst (D.int .i64) x)) t0_Nodes), D.sl 32 (lst (fun x => D.sl 3 (lst (D.int .i64) x)) t0_Edges)] ∧ s.v 5 = D.int .i64 q ∧ s.v 11 = D.sl 32 (lst (fun x => D.sl 3 (lst (D.int .i64) x)) t0_Nodes) ∧ s.v 12 = D.int .i64 (t0_Nodes.length : Int) ∧ s.v 13 = D.int .i64 t13_
theorem i_isPairRefusal_l0_wp (t0_Labels : Int) (t0_Degree : Int) (t0_Nodes : List (List Int)) (t0_Edges : List (List Int)) (t1_ : List (List Int)) (t13_ : Int) {v : Int × Int} {s : St} {r : Unit ⊕ Int} (h : i_isPairRefusal_l0 t0_Labels t0_Degree t0_Nodes t0_Edges t1_ t13_ v = some r) (hM : i_isPairRefusal_l0_M t0_Labels t0_Degree t0_Nodes t0_Edges t1_ t13_ v.1 v.2 s) : wpD Y.env k64_l0 (i_isPairRefusal_l0_X t0_Labels t0_Degree t0_Nodes t0_Edges t1_ t13_ r) s := by
  unfold i_isPairRefusal_l0 at h
  refine wd_itO (c := k64_l0b) (fun v => i_isPairRefusal_l0_S t0_Labels t0_Degree t0_Nodes t0_Edges t1_ t13_ v.1 v.2) (fun v s => i_isPairRefusal_l0_M t0_Labels t0_Degree t0_Nodes t0_Edges t1_ t13_ v.1 v.2 s) (i_isPairRefusal_l0_X t0_Labels t0_Degree t0_Nodes t0_Edges t1_ t13_) ?_ h hM
  clear h hM s v r
  intro v s o hM h
  obtain ⟨t5_1, t8_⟩ := v
  dsimp only at h hM
  unfold i_isPairRefusal_l0_S at h
  unfold i_isPairRefusal_l0_M at hM
  obtain ⟨m0, m1, m2, m3, m4, m5, m6, m7, m8⟩ := hM
  unfold k64_l0b
  by_cases e3 : t8_ < (t0_Nodes.length : Int)
  · rw [if_pos e3] at h
    by_cases e4 : t5_1 = (t1_.length : Int)
    · rw [if_pos e4] at h
      obtain rfl := Option.some.inj h
      simp (maxDischargeDepth := 9) only [↓xpre, xpost, xlst, xcore, yset, rg0, ↓reduceIte, Nat.reduceEqDiff, Nat.reduceLT, Nat.reduceLeDiff, Nat.reduceAdd, Nat.reduceMul, Nat.reduceMod, Nat.reduceSub, Nat.reduceBEq, Int.reduceLE, Int.reduceLT, Int.reduceEq, Int.reduceSub, Int.reduceAdd, Int.reduceToNat, Int.reduceNeg, m0, m1, m2, m3, m4, m5, m6, m7, m8, e3, decide_eq_true e4, i_isPairRefusal_l0_M, i_isPairRefusal_l0_X, sxN, sxE, sxR] <;> (repeat' apply And.intro) <;> first | rfl | exact ⟨_, rfl⟩ | simp [lst]
    · rw [if_neg e4] at h
      obtain ⟨e5, h⟩ := ckS h
      by_cases e6 : ((t1_.getD t5_1.toNat default).length : Int) = 4
      · rw [if_pos e6] at h
        obtain ⟨e7, h⟩ := ckS h
        by_cases e8 : ((t1_.getD t5_1.toNat default).getD 0 default) = t13_
        · rw [if_pos e8] at h
          obtain ⟨e9, h⟩ := ckS h
          by_cases e10 : ((t1_.getD t5_1.toNat default).getD 1 default) = t8_
          · rw [if_pos e10] at h
            obtain ⟨e11, h⟩ := ckS h
            obtain ⟨e12, h⟩ := ckS h
            have c13 := g_slices_Contains_Sint_int_cl (t0_Nodes.getD t13_.toNat default) ((t1_.getD t5_1.toNat default).getD 2 default) e12
            by_cases e14 : ((t0_Nodes.getD t13_.toNat default).contains ((t1_.getD t5_1.toNat default).getD 2 default)) = true
            · rw [if_pos e14] at h
              obtain ⟨e15, h⟩ := ckS h
              obtain ⟨e16, h⟩ := ckS h
              obtain ⟨e17, h⟩ := ckS h
              have c18 := g_slices_Contains_Sint_int_cl (t0_Nodes.getD t8_.toNat default) ((t1_.getD t5_1.toNat default).getD 3 default) e17
              by_cases e19 : ((t0_Nodes.getD t8_.toNat default).contains ((t1_.getD t5_1.toNat default).getD 3 default)) = true
              · rw [if_pos e19] at h
                obtain ⟨e20, h⟩ := ckS h
                obtain ⟨e21, h⟩ := ckS h
                have c22 := i_Problem_edge_cl t0_Labels t0_Degree t0_Nodes t0_Edges ((t1_.getD t5_1.toNat default).getD 2 default) ((t1_.getD t5_1.toNat default).getD 3 default) e20 e21
                by_cases e23 : (hasE t0_Edges ((t1_.getD t5_1.toNat default).getD 2 default) ((t1_.getD t5_1.toNat default).getD 3 default)) = true
                · rw [if_pos e23] at h
                  obtain rfl := Option.some.inj h
                  simp (maxDischargeDepth := 9) only [↓xpre, xpost, xlst, xcore, yset, rg0, ↓reduceIte, Nat.reduceEqDiff, Nat.reduceLT, Nat.reduceLeDiff, Nat.reduceAdd, Nat.reduceMul, Nat.reduceMod, Nat.reduceSub, Nat.reduceBEq, Int.reduceLE, Int.reduceLT, Int.reduceEq, Int.reduceSub, Int.reduceAdd, Int.reduceToNat, Int.reduceNeg, m0, m1, m2, m3, m4, m5, m6, m7, m8, e3, e4, e5.1, e5.2, decide_eq_true e6, e7, decide_eq_true e8, e9, decide_eq_true e10, e11, e12, c13, e14, e15.1, e15.2, e16, e17, c18, e19, e20, e21, c22, e23, i_isPairRefusal_l0_M, i_isPairRefusal_l0_X, sxN, sxE, sxR] <;> (repeat' apply And.intro) <;> first | rfl | exact ⟨_, rfl⟩ | simp [lst]
                · rw [if_neg e23] at h
                  have e23f : (hasE t0_Edges ((t1_.getD t5_1.toNat default).getD 2 default) ((t1_.getD t5_1.toNat default).getD 3 default)) = false := Bool.eq_false_iff.mpr e23
                  obtain rfl := Option.some.inj h
                  simp (maxDischargeDepth := 9) only [↓xpre, xpost, xlst, xcore, yset, rg0, ↓reduceIte, Nat.reduceEqDiff, Nat.reduceLT, Nat.reduceLeDiff, Nat.reduceAdd, Nat.reduceMul, Nat.reduceMod, Nat.reduceSub, Nat.reduceBEq, Int.reduceLE, Int.reduceLT, Int.reduceEq, Int.reduceSub, Int.reduceAdd, Int.reduceToNat, Int.reduceNeg, m0, m1, m2, m3, m4, m5, m6, m7, m8, e3, e4, e5.1, e5.2, decide_eq_true e6, e7, decide_eq_true e8, e9, decide_eq_true e10, e11, e12, c13, e14, e15.1, e15.2, e16, e17, c18, e19, e20, e21, c22, e23f, i_isPairRefusal_l0_M, i_isPairRefusal_l0_X, sxN, sxE, sxR] <;> (repeat' apply And.intro) <;> first | rfl | exact ⟨_, rfl⟩ | simp [lst]
              · rw [if_neg e19] at h
                have e19f : ((t0_Nodes.getD t8_.toNat default).contains ((t1_.getD t5_1.toNat default).getD 3 default)) = false := Bool.eq_false_iff.mpr e19
                obtain rfl := Option.some.inj h
                simp (maxDischargeDepth := 9) only [↓xpre, xpost, xlst, xcore, yset, rg0, ↓reduceIte, Nat.reduceEqDiff, Nat.reduceLT, Nat.reduceLeDiff, Nat.reduceAdd, Nat.reduceMul, Nat.reduceMod, Nat.reduceSub, Nat.reduceBEq, Int.reduceLE, Int.reduceLT, Int.reduceEq, Int.reduceSub, Int.reduceAdd, Int.reduceToNat, Int.reduceNeg, m0, m1, m2, m3, m4, m5, m6, m7, m8, e3, e4, e5.1, e5.2, decide_eq_true e6, e7, decide_eq_true e8, e9, decide_eq_true e10, e11, e12, c13, e14, e15.1, e15.2, e16, e17, c18, e19f, i_isPairRefusal_l0_M, i_isPairRefusal_l0_X, sxN, sxE, sxR] <;> (repeat' apply And.intro) <;> first | rfl | exact ⟨_, rfl⟩ | simp [lst]
            · rw [if_neg e14] at h
              have e14f : ((t0_Nodes.getD t13_.toNat default).contains ((t1_.getD t5_1.toNat default).getD 2 default)) = false := Bool.eq_false_iff.mpr e14
              obtain rfl := Option.some.inj h
              simp (maxDischargeDepth := 9) only [↓xpre, xpost, xlst, xcore, yset, rg0, ↓reduceIte, Nat.reduceEqDiff, Nat.reduceLT, Nat.reduceLeDiff, Nat.reduceAdd, Nat.reduceMul, Nat.reduceMod, Nat.reduceSub, Nat.reduceBEq, Int.reduceLE, Int.reduceLT, Int.reduceEq, Int.reduceSub, Int.reduceAdd, Int.reduceToNat, Int.reduceNeg, m0, m1, m2, m3, m4, m5, m6, m7, m8, e3, e4, e5.1, e5.2, decide_eq_true e6, e7, decide_eq_true e8, e9, decide_eq_true e10, e11, e12, c13, e14f, i_isPairRefusal_l0_M, i_isPairRefusal_l0_X, sxN, sxE, sxR] <;> (repeat' apply And.intro) <;> first | rfl | exact ⟨_, rfl⟩ | simp [lst]
          · rw [if_neg e10] at h
            obtain rfl := Option.some.inj h
            simp (maxDischargeDepth := 9) only [↓xpre, xpost, xlst, xcore, yset, rg0, ↓reduceIte, Nat.reduceEqDiff, Nat.reduceLT, Nat.reduceLeDiff, Nat.reduceAdd, Nat.reduceMul, Nat.reduceMod, Nat.reduceSub, Nat.reduceBEq, Int.reduceLE, Int.reduceLT, Int.reduceEq, Int.reduceSub, Int.reduceAdd, Int.reduceToNat, Int.reduceNeg, m0, m1, m2, m3, m4, m5, m6, m7, m8, e3, e4, e5.1, e5.2, decide_eq_true e6, e7, decide_eq_true e8, e9, e10, i_isPairRefusal_l0_M, i_isPairRefusal_l0_X, sxN, sxE, sxR] <;> (repeat' apply And.intro) <;> first | rfl | exact ⟨_, rfl⟩ | simp [lst]
        · rw [if_neg e8] at h
          obtain rfl := Option.some.inj h
          simp (maxDischargeDepth := 9) only [↓xpre, xpost, xlst, xcore, yset, rg0, ↓reduceIte, Nat.reduceEqDiff, Nat.reduceLT, Nat.reduceLeDiff, Nat.reduceAdd, Nat.reduceMul, Nat.reduceMod, Nat.reduceSub, Nat.reduceBEq, Int.reduceLE, Int.reduceLT, Int.reduceEq, Int.reduceSub, Int.reduceAdd, Int.reduceToNat, Int.reduceNeg, m0, m1, m2, m3, m4, m5, m6, m7, m8, e3, e4, e5.1, e5.2, decide_eq_true e6, e7, e8, i_isPairRefusal_l0_M, i_isPairRefusal_l0_X, sxN, sxE, sxR] <;> (repeat' apply And.intro) <;> first | rfl | exact ⟨_, rfl⟩ | simp [lst]
      · rw [if_neg e6] at h
        obtain rfl := Option.some.inj h
        simp (maxDischargeDepth := 9) only [↓xpre, xpost, xlst, xcore, yset, rg0, ↓reduceIte, Nat.reduceEqDiff, Nat.reduceLT, Nat.reduceLeDiff, Nat.reduceAdd, Nat.reduceMul, Nat.reduceMod, Nat.reduceSub, Nat.reduceBEq, Int.reduceLE, Int.reduceLT, Int.reduceEq, Int.reduceSub, Int.reduceAdd, Int.reduceToNat, Int.reduceNeg, m0, m1, m2, m3, m4, m5, m6, m7, m8, e3, e4, e5.1, e5.2, e6, i_isPairRefusal_l0_M, i_isPairRefusal_l0_X, sxN, sxE, sxR] <;> (repeat' apply And.intro) <;> first | rfl | exact ⟨_, rfl⟩ | simp [lst]
  · rw [if_neg e3] at h
    obtain rfl := Option.some.inj h
    simp (maxDischargeDepth := 9) only [↓xpre, xpost, xlst, xcore, yset, rg0, ↓reduceIte, Nat.reduceEqDiff, Nat.reduceLT, Nat.reduceLeDiff, Nat.reduceAdd, Nat.reduceMul, Nat.reduceMod, Nat.reduceSub, Nat.reduceBEq, Int.reduceLE, Int.reduceLT, Int.reduceEq, Int.reduceSub, Int.reduceAdd, Int.reduceToNat, Int.reduceNeg, m0, m1, m2, m3, m4, m5, m6, m7, m8, e3, i_isPairRefusal_l0_M, i_isPairRefusal_l0_X, sxN, sxE, sxR] <;> (repeat' apply And.intro) <;> first | rfl | exact ⟨_, rfl⟩ | simp [lst]
def i_isPairRefusal_l1_M (t0_Labels : Int) (t0_Degree : Int) (t0_Nodes : List (List Int)) (t0_Edges : List (List Int)) (t1_ : List (List Int)) (t5_ : Int) (t13_ : Int) (s : St) : Prop := s.v 1 = D.sl 32 (lst (fun x => D.sl 3 (lst (D.int .i64) x)) t1_) ∧ s.v 2 = D.box [D.int .i64 t0_Labels, D.int .i64 t0_Degree, D.sl 32 (lst (fun x => D.sl 3 (lst (D.int .i64) x)) t0_Nodes), D.sl 32 (lst (fun x => D.sl 3 (lst (D.int .i64) x)) t0_Edges)] ∧ s.v 5 = D.int .i64 t5_ ∧ s.v 11 = D.sl 32 (lst (fun x => D.sl 3 (lst (D.int .i64) x)) t0_Nodes) ∧ s.v 12 = D.int .i64 (t0_Nodes.length : Int) ∧ s.v 13 = D.int .i64 t13_
def i_isPairRefusal_l1_X (t0_Labels : Int) (t0_Degree : Int) (t0_Nodes : List (List Int)) (t0_Edges : List (List Int)) (t1_ : List (List Int)) (r : Unit ⊕ Int) (ex : Ex) (s : St) : Prop := match r with
  | .inl q => ex = .ret ∧ s.v 4 = D.bool false
  | .inr q => ex = .exit 0 ∧ s.v 1 = D.sl 32 (lst (fun x => D.sl 3 (lst (D.int .i64) x)) t1_) ∧ s.v 5 = D.int .i64 q
theorem i_isPairRefusal_l1_wp (t0_Labels : Int) (t0_Degree : Int) (t0_Nodes : List (List Int)) (t0_Edges : List (List Int)) (t1_ : List (List Int)) {v : Int × Int} {s : St} {r : Unit ⊕ Int} (h : i_isPairRefusal_l1 t0_Labels t0_Degree t0_Nodes t0_Edges t1_ v = some r) (hM : i_isPairRefusal_l1_M t0_Labels t0_Degree t0_Nodes t0_Edges t1_ v.1 v.2 s) : wpD Y.env k64_l1 (i_isPairRefusal_l1_X t0_Labels t0_Degree t0_Nodes t0_Edges t1_ r) s := by
  unfold i_isPairRefusal_l1 at h
  refine wd_itO (c := k64_l1b) (fun v => i_isPairRefusal_l1_S t0_Labels t0_Degree t0_Nodes t0_Edges t1_ v.1 v.2) (fun v s => i_isPairRefusal_l1_M t0_Labels t0_Degree t0_Nodes t0_Edges t1_ v.1 v.2 s) (i_isPairRefusal_l1_X t0_Labels t0_Degree t0_Nodes t0_Edges t1_) ?_ h hM
  clear h hM s v r
  intro v s o hM h
  obtain ⟨t5_, t13_⟩ := v
  dsimp only at h hM
  unfold i_isPairRefusal_l1_S at h
  unfold i_isPairRefusal_l1_M at hM
  obtain ⟨m0, m1, m2, m3, m4, m5⟩ := hM
  unfold k64_l1b
  by_cases e1 : t13_ < (t0_Nodes.length : Int)
  · rw [if_pos e1] at h
    obtain ⟨e2, h⟩ := ckS h
    obtain ⟨r4_, hl4, h⟩ := bindS h
    try dsimp only at h
    simp (maxDischargeDepth := 9) only [↓xpre, xpost, xlst, xcore, yset, rg0, ↓reduceIte, Nat.reduceEqDiff, Nat.reduceLT, Nat.reduceLeDiff, Nat.reduceAdd, Nat.reduceMul, Nat.reduceMod, Nat.reduceSub, Nat.reduceBEq, Int.reduceLE, Int.reduceLT, Int.reduceEq, Int.reduceSub, Int.reduceAdd, Int.reduceToNat, Int.reduceNeg, m0, m1, m2, m3, m4, m5, e1, e2.1, e2.2]
    refine wd_mono (i_isPairRefusal_l0_wp t0_Labels t0_Degree t0_Nodes t0_Edges t1_ t13_ hl4 ?_) ?_
    · simp (maxDischargeDepth := 9) only [↓xpre, xpost, xlst, xcore, yset, rg0, ↓reduceIte, Nat.reduceEqDiff, Nat.reduceLT, Nat.reduceLeDiff, Nat.reduceAdd, Nat.reduceMul, Nat.reduceMod, Nat.reduceSub, Nat.reduceBEq, Int.reduceLE, Int.reduceLT, Int.reduceEq, Int.reduceSub, Int.reduceAdd, Int.reduceToNat, Int.reduceNeg, m0, m1, m2, m3, m4, m5, e1, e2.1, e2.2, i_isPairRefusal_l0_M] <;> (repeat' apply And.intro) <;> first | rfl | exact ⟨_, rfl⟩ | simp [lst]
    · intro ex4 s4 hX4
      rcases r4_ with q4_ | q4_
      · unfold i_isPairRefusal_l0_X at hX4
        dsimp only at hX4 h
        obtain ⟨rfl, n4_0⟩ := hX4
        obtain rfl := Option.some.inj h
        simp (maxDischargeDepth := 9) only [↓xpre, xpost, xlst, xcore, yset, rg0, ↓reduceIte, Nat.reduceEqDiff, Nat.reduceLT, Nat.reduceLeDiff, Nat.reduceAdd, Nat.reduceMul, Nat.reduceMod, Nat.reduceSub, Nat.reduceBEq, Int.reduceLE, Int.reduceLT, Int.reduceEq, Int.reduceSub, Int.reduceAdd, Int.reduceToNat, Int.reduceNeg, e1, e2.1, e2.2, n4_0, i_isPairRefusal_l1_M, i_isPairRefusal_l1_X, sxN, sxE, sxR] <;> (repeat' apply And.intro) <;> first | rfl | exact ⟨_, rfl⟩ | simp [lst]
      · unfold i_isPairRefusal_l0_X at hX4
        dsimp only at hX4 h
        obtain ⟨rfl, n4_0, n4_1, n4_2, n4_3, n4_4, n4_5⟩ := hX4
        obtain rfl := Option.some.inj h
        simp (maxDischargeDepth := 9) only [↓xpre, xpost, xlst, xcore, yset, rg0, ↓reduceIte, Nat.reduceEqDiff, Nat.reduceLT, Nat.reduceLeDiff, Nat.reduceAdd, Nat.reduceMul, Nat.reduceMod, Nat.reduceSub, Nat.reduceBEq, Int.reduceLE, Int.reduceLT, Int.reduceEq, Int.reduceSub, Int.reduceAdd, Int.reduceToNat, Int.reduceNeg, e1, e2.1, e2.2, n4_0, n4_1, n4_2, n4_3, n4_4, n4_5, i_isPairRefusal_l1_M, i_isPairRefusal_l1_X, sxN, sxE, sxR] <;> (repeat' apply And.intro) <;> first | rfl | exact ⟨_, rfl⟩ | simp [lst]
  · rw [if_neg e1] at h
    obtain rfl := Option.some.inj h
    simp (maxDischargeDepth := 9) only [↓xpre, xpost, xlst, xcore, yset, rg0, ↓reduceIte, Nat.reduceEqDiff, Nat.reduceLT, Nat.reduceLeDiff, Nat.reduceAdd, Nat.reduceMul, Nat.reduceMod, Nat.reduceSub, Nat.reduceBEq, Int.reduceLE, Int.reduceLT, Int.reduceEq, Int.reduceSub, Int.reduceAdd, Int.reduceToNat, Int.reduceNeg, m0, m1, m2, m3, m4, m5, e1, i_isPairRefusal_l1_M, i_isPairRefusal_l1_X, sxN, sxE, sxR] <;> (repeat' apply And.intro) <;> first | rfl | exact ⟨_, rfl⟩ | simp [lst]
theorem i_isPairRefusal_call (t0_Labels : Int) (t0_Degree : Int) (t0_Nodes : List (List Int)) (t0_Edges : List (List Int)) (t1_ : List (List Int)) {r : Bool} (h : i_isPairRefusal t0_Labels t0_Degree t0_Nodes t0_Edges t1_ = some r) : Y.call 64 [D.agg [D.int .i64 t0_Labels, D.int .i64 t0_Degree, D.sl 32 (lst (fun x => D.sl 3 (lst (D.int .i64) x)) t0_Nodes), D.sl 32 (lst (fun x => D.sl 3 (lst (D.int .i64) x)) t0_Edges)], D.sl 32 (lst (fun x => D.sl 3 (lst (D.int .i64) x)) t1_)] [] = some (D.bool r, []) := by
  refine c64 ?_ rfl
  unfold k64
  unfold i_isPairRefusal at h
  obtain ⟨r2_, hl2, h⟩ := bindS h
  try dsimp only at h
  simp (maxDischargeDepth := 9) only [↓xpre, xpost, xlst, xcore, yset, rg0, ↓reduceIte, Nat.reduceEqDiff, Nat.reduceLT, Nat.reduceLeDiff, Nat.reduceAdd, Nat.reduceMul, Nat.reduceMod, Nat.reduceSub, Nat.reduceBEq, Int.reduceLE, Int.reduceLT, Int.reduceEq, Int.reduceSub, Int.reduceAdd, Int.reduceToNat, Int.reduceNeg]
  refine wd_mono (i_isPairRefusal_l1_wp t0_Labels t0_Degree t0_Nodes t0_Edges t1_ hl2 ?_) ?_
  · simp (maxDischargeDepth := 9) only [↓xpre, xpost, xlst, xcore, yset, rg0, ↓reduceIte, Nat.reduceEqDiff, Nat.reduceLT, Nat.reduceLeDiff, Nat.reduceAdd, Nat.reduceMul, Nat.reduceMod, Nat.reduceSub, Nat.reduceBEq, Int.reduceLE, Int.reduceLT, Int.reduceEq, Int.reduceSub, Int.reduceAdd, Int.reduceToNat, Int.reduceNeg, i_isPairRefusal_l1_M] <;> (repeat' apply And.intro) <;> first | rfl | exact ⟨_, rfl⟩ | simp [lst]
  · intro ex2 s2 hX2
    rcases r2_ with q2_ | q2_
    · unfold i_isPairRefusal_l1_X at hX2
      dsimp only at hX2 h
      obtain ⟨rfl, n2_0⟩ := hX2
      obtain rfl := Option.some.inj h
      simp (maxDischargeDepth := 9) only [↓xpre, xpost, xlst, xcore, yset, rg0, ↓reduceIte, Nat.reduceEqDiff, Nat.reduceLT, Nat.reduceLeDiff, Nat.reduceAdd, Nat.reduceMul, Nat.reduceMod, Nat.reduceSub, Nat.reduceBEq, Int.reduceLE, Int.reduceLT, Int.reduceEq, Int.reduceSub, Int.reduceAdd, Int.reduceToNat, Int.reduceNeg, n2_0] <;> (repeat' apply And.intro) <;> first | rfl | exact ⟨_, rfl⟩ | simp [lst]
    · unfold i_isPairRefusal_l1_X at hX2
      dsimp only at hX2 h
      obtain ⟨rfl, n2_0, n2_1⟩ := hX2
      obtain rfl := Option.some.inj h
      simp (maxDischargeDepth := 9) only [↓xpre, xpost, xlst, xcore, yset, rg0, ↓reduceIte, Nat.reduceEqDiff, Nat.reduceLT, Nat.reduceLeDiff, Nat.reduceAdd, Nat.reduceMul, Nat.reduceMod, Nat.reduceSub, Nat.reduceBEq, Int.reduceLE, Int.reduceLT, Int.reduceEq, Int.reduceSub, Int.reduceAdd, Int.reduceToNat, Int.reduceNeg, n2_0, n2_1] <;> (repeat' apply And.intro) <;> first | rfl | exact ⟨_, rfl⟩ | simp [lst]

noncomputable def i_CheckPairRefusal (p_Labels : Int) (p_Degree : Int) (p_Nodes : List (List Int)) (p_Edges : List (List Int)) (quads : List (List Int)) : Option (Bool × Bool) :=
  ck (Short p_Nodes) <|
  ck (Short p_Edges) <|
  if (isProb p_Labels p_Degree p_Nodes p_Edges) = true then
    (i_isPairRefusal p_Labels p_Degree p_Nodes p_Edges quads).bind fun r5_ =>
    some (r5_, true)
  else
    some (false, false)
/-- impl.CheckPairRefusal -/
def k32 : SC :=
  .seq
    (.ops [
      ⟨(some 2), (Op.box 28 (Operand.tmp 0)), 0, none⟩,
      ⟨(some 4), (Op.assign (Operand.const (Value.bool false))), 4, none⟩,
      ⟨(some 5), (Op.assign (Operand.const (Value.bool false))), 4, none⟩])
    (.seq
      (.seq
        (.ops [
          ⟨(some 6), (Op.load 28 (Operand.tmp 2)), 28, none⟩,
          ⟨(some 7), (Op.call { callee := (Callee.value (Operand.func 58)), args := #[(Operand.tmp 6)], argTypes := #[28] }), 4, none⟩,
          ⟨(some 8), (Op.unOp UnOp.not 4 (Operand.tmp 7)), 4, none⟩])
        (.cond (Operand.tmp 8)
          (.seq
            (.ops [
              ⟨(some 4), (Op.assign (Operand.const (Value.bool false))), 4, none⟩,
              ⟨(some 5), (Op.assign (Operand.const (Value.bool false))), 4, none⟩])
            .ret)
          .skip))
      (.seq
        (.ops [
          ⟨(some 9), (Op.load 28 (Operand.tmp 2)), 28, none⟩,
          ⟨(some 10), (Op.move (Operand.tmp 1)), 22, none⟩,
          ⟨(some 11), (Op.call { callee := (Callee.value (Operand.func 64)), args := #[(Operand.tmp 9), (Operand.tmp 10)], argTypes := #[28, 22] }), 4, none⟩,
          ⟨(some 4), (Op.assign (Operand.tmp 11)), 4, none⟩,
          ⟨(some 5), (Op.assign (Operand.const (Value.bool true))), 4, none⟩])
        .ret))
theorem slim32 : Try.f32.body.map (slim lends) = some k32 := by kernel_rfl
theorem ok32 : fnOk Try.f32 2 = true := by kernel_rfl
theorem c32 {a l : List D} {r : D × List D} (h : wpD Y.env k32 (fin tys l.length [ResultVar.tmp 4, ResultVar.tmp 5] r) (entry a l)) (ha : a.length = 2) : Y.call 32 a l = some r :=
  call_slim (Y := Y) rfl Try.func32 (ha ▸ ok32) slim32 h
theorem i_CheckPairRefusal_call (p_Labels : Int) (p_Degree : Int) (p_Nodes : List (List Int)) (p_Edges : List (List Int)) (quads : List (List Int)) {r : Bool × Bool} (h : i_CheckPairRefusal p_Labels p_Degree p_Nodes p_Edges quads = some r) : Y.call 32 [D.agg [D.int .i64 p_Labels, D.int .i64 p_Degree, D.sl 32 (lst (fun x => D.sl 3 (lst (D.int .i64) x)) p_Nodes), D.sl 32 (lst (fun x => D.sl 3 (lst (D.int .i64) x)) p_Edges)], D.sl 32 (lst (fun x => D.sl 3 (lst (D.int .i64) x)) quads)] [] = some (D.tup [D.bool r.1, D.bool r.2], []) := by
  refine c32 ?_ rfl
  unfold k32
  unfold i_CheckPairRefusal at h
  obtain ⟨e1, h⟩ := ckS h
  obtain ⟨e2, h⟩ := ckS h
  have c3 := i_IsProblem_cl p_Labels p_Degree p_Nodes p_Edges e1 e2
  by_cases e4 : (isProb p_Labels p_Degree p_Nodes p_Edges) = true
  · rw [if_pos e4] at h
    obtain ⟨r5_, hl5, h⟩ := bindS h
    try dsimp only at h
    have c5 := i_isPairRefusal_call p_Labels p_Degree p_Nodes p_Edges quads hl5
    obtain rfl := Option.some.inj h
    simp (maxDischargeDepth := 9) only [↓xpre, xpost, xlst, xcore, yset, rg0, ↓reduceIte, Nat.reduceEqDiff, Nat.reduceLT, Nat.reduceLeDiff, Nat.reduceAdd, Nat.reduceMul, Nat.reduceMod, Nat.reduceSub, Nat.reduceBEq, Int.reduceLE, Int.reduceLT, Int.reduceEq, Int.reduceSub, Int.reduceAdd, Int.reduceToNat, Int.reduceNeg, e1, e2, c3, e4, c5] <;> (repeat' apply And.intro) <;> first | rfl | exact ⟨_, rfl⟩ | simp [lst]
  · rw [if_neg e4] at h
    have e4f : (isProb p_Labels p_Degree p_Nodes p_Edges) = false := Bool.eq_false_iff.mpr e4
    obtain rfl := Option.some.inj h
    simp (maxDischargeDepth := 9) only [↓xpre, xpost, xlst, xcore, yset, rg0, ↓reduceIte, Nat.reduceEqDiff, Nat.reduceLT, Nat.reduceLeDiff, Nat.reduceAdd, Nat.reduceMul, Nat.reduceMod, Nat.reduceSub, Nat.reduceBEq, Int.reduceLE, Int.reduceLT, Int.reduceEq, Int.reduceSub, Int.reduceAdd, Int.reduceToNat, Int.reduceNeg, e1, e2, c3, e4f] <;> (repeat' apply And.intro) <;> first | rfl | exact ⟨_, rfl⟩ | simp [lst]

noncomputable def s_CheckPairRefusal_l0_S (t0_Labels : Int) (t0_Degree : Int) (t0_Nodes : List (List Int)) (t0_Edges : List (List Int)) (t1_ : List (List Int)) (t16_ : Int) (t6_1 : Int) (t9_ : Int) : Option ((Int × Int) ⊕ (Unit ⊕ Int)) :=
  if t9_ < (t0_Nodes.length : Int) then
    if t6_1 = (t1_.length : Int) then
      some (Sum.inr (Sum.inl ()))
    else
      ck (0 ≤ t6_1 ∧ t6_1.toNat < t1_.length) <|
      if ((t1_.getD t6_1.toNat default).length : Int) = 4 then
        ck (0 < (t1_.getD t6_1.toNat default).length) <|
        if ((t1_.getD t6_1.toNat default).getD 0 default) = t16_ then
          ck (1 < (t1_.getD t6_1.toNat default).length) <|
          if ((t1_.getD t6_1.toNat default).getD 1 default) = t9_ then
            ck (2 ≤ (t1_.getD t6_1.toNat default).length) <|
            ck (0 ≤ t9_ ∧ t9_.toNat < t0_Nodes.length) <|
            ck (Short t0_Edges) <|
            ck ((t0_Nodes.getD t16_.toNat default).length < 1099511627776) <|
            ck ((t0_Nodes.getD t9_.toNat default).length < 1099511627776) <|
            if (twoB t0_Edges (((t1_.getD t6_1.toNat default).take ((t1_.getD t6_1.toNat default).length)).drop 2) (t0_Nodes.getD t16_.toNat default) (t0_Nodes.getD t9_.toNat default)) = true then
              some (Sum.inl (IntKind.i64.wrap (t6_1 + 1), IntKind.i64.wrap (t9_ + 1)))
            else
              some (Sum.inr (Sum.inl ()))
          else
            some (Sum.inr (Sum.inl ()))
        else
          some (Sum.inr (Sum.inl ()))
      else
        some (Sum.inr (Sum.inl ()))
  else
    some (Sum.inr (Sum.inr t6_1))
noncomputable def s_CheckPairRefusal_l0 (t0_Labels : Int) (t0_Degree : Int) (t0_Nodes : List (List Int)) (t0_Edges : List (List Int)) (t1_ : List (List Int)) (t16_ : Int) (v : Int × Int) : Option (Unit ⊕ Int) := itO (fun v => s_CheckPairRefusal_l0_S t0_Labels t0_Degree t0_Nodes t0_Edges t1_ t16_ v.1 v.2) v
noncomputable def s_CheckPairRefusal_l1_S (t0_Labels : Int) (t0_Degree : Int) (t0_Nodes : List (List Int)) (t0_Edges : List (List Int)) (t1_ : List (List Int)) (t6_ : Int) (t16_ : Int) : Option ((Int × Int) ⊕ (Unit ⊕ Int)) :=
  if t16_ < (t0_Nodes.length : Int) then
    ck (0 ≤ t16_ ∧ t16_.toNat < t0_Nodes.length) <|
    (s_CheckPairRefusal_l0 t0_Labels t0_Degree t0_Nodes t0_Edges t1_ t16_ (t6_, t16_)).bind fun r8_ =>
    match r8_ with
    | .inl q8_ =>
      some (Sum.inr (Sum.inl ()))
    | .inr q8_ =>
      some (Sum.inl (q8_, IntKind.i64.wrap (t16_ + 1)))
  else
    some (Sum.inr (Sum.inr t6_))
noncomputable def s_CheckPairRefusal_l1 (t0_Labels : Int) (t0_Degree : Int) (t0_Nodes : List (List Int)) (t0_Edges : List (List Int)) (t1_ : List (List Int)) (v : Int × Int) : Option (Unit ⊕ Int) := itO (fun v => s_CheckPairRefusal_l1_S t0_Labels t0_Degree t0_Nodes t0_Edges t1_ v.1 v.2) v
noncomputable def s_CheckPairRefusal (t0_Labels : Int) (t0_Degree : Int) (t0_Nodes : List (List Int)) (t0_Edges : List (List Int)) (t1_ : List (List Int)) : Option (Bool × Bool) :=
  ck (Short t0_Nodes) <|
  ck (Short t0_Edges) <|
  if (isProb t0_Labels t0_Degree t0_Nodes t0_Edges) = true then
    (s_CheckPairRefusal_l1 t0_Labels t0_Degree t0_Nodes t0_Edges t1_ (0, 0)).bind fun r6_ =>
    match r6_ with
    | .inl q6_ =>
      some (false, true)
    | .inr q6_ =>
      some ((decide (q6_ = (t1_.length : Int))), true)
  else
    some (false, false)
/-- spec.CheckPairRefusal -/
def k31_l0b : SC :=
  .seq
    (.seq
      (.ops [
        ⟨(some 22), (Op.move (Operand.tmp 9)), 3, none⟩,
        ⟨(some 23), (Op.fieldAddr 28 (Operand.tmp 2) 2), 0, none⟩,
        ⟨(some 24), (Op.load 22 (Operand.tmp 23)), 22, none⟩,
        ⟨(some 25), (Op.call { callee := (Callee.builtin Builtin.len), args := #[(Operand.tmp 24)], argTypes := #[22] }), 3, none⟩,
        ⟨(some 26), (Op.binOp BinOp.lss 3 (Operand.tmp 22) (Operand.tmp 25) 3), 4, none⟩])
      (.cond (Operand.tmp 26)
        .skip
        (.exit 2)))
    (.seq
      (.block 3
        (.seq
          (.seq
            (.draws [
              (⟨[29, 6, 6], [29, 30, 31, 32, 33, 34, 35, 36, 37, 38, 39, 40, 41, 42, 43, 44, 45, 46, 47, 48, 49, 50, 51, 52, 53, 54, 55, 56, 57, 58, 59, 60, 61, 62, 63, 64, 65, 66, 67, 68, 69, 70, 71, 72, 73, 74, 75, 76], [29]⟩, ⟨(some 29), (Op.move (Operand.tmp 6)), 3, none⟩),
              (⟨[30, 1, 1], [29, 30, 31, 32, 33, 34, 35, 36, 37, 38, 39, 40, 41, 42, 43, 44, 45, 46, 47, 48, 49, 50, 51, 52, 53, 54, 55, 56, 57, 58, 59, 60, 61, 62, 63, 64, 65, 66, 67, 68, 69, 70, 71, 72, 73, 74, 75, 76], [30]⟩, ⟨(some 30), (Op.move (Operand.tmp 1)), 22, none⟩),
              (⟨[31, 30, 1], [29, 30, 31, 32, 33, 34, 35, 36, 37, 38, 39, 40, 41, 42, 43, 44, 45, 46, 47, 48, 49, 50, 51, 52, 53, 54, 55, 56, 57, 58, 59, 60, 61, 62, 63, 64, 65, 66, 67, 68, 69, 70, 71, 72, 73, 74, 75, 76], [31]⟩, ⟨(some 31), (Op.call { callee := (Callee.builtin Builtin.len), args := #[(Operand.tmp 30)], argTypes := #[22] }), 3, none⟩),
              (⟨[32, 29, 31, 6, 31], [29, 30, 31, 32, 33, 34, 35, 36, 37, 38, 39, 40, 41, 42, 43, 44, 45, 46, 47, 48, 49, 50, 51, 52, 53, 54, 55, 56, 57, 58, 59, 60, 61, 62, 63, 64, 65, 66, 67, 68, 69, 70, 71, 72, 73, 74, 75, 76], [32]⟩, ⟨(some 32), (Op.binOp BinOp.eql 3 (Operand.tmp 29) (Operand.tmp 31) 3), 4, none⟩),
              (⟨[33, 32, 32], [29, 30, 31, 32, 33, 34, 35, 36, 37, 38, 39, 40, 41, 42, 43, 44, 45, 46, 47, 48, 49, 50, 51, 52, 53, 54, 55, 56, 57, 58, 59, 60, 61, 62, 63, 64, 65, 66, 67, 68, 69, 70, 71, 72, 73, 74, 75, 76], [33]⟩, ⟨(some 33), (Op.move (Operand.tmp 32)), 4, none⟩),
              (⟨[34, 1, 1, 33], [29, 30, 31, 32, 33, 34, 35, 36, 37, 38, 39, 40, 41, 42, 43, 44, 45, 46, 47, 48, 49, 50, 51, 52, 53, 54, 55, 56, 57, 58, 59, 60, 61, 62, 63, 64, 65, 66, 67, 68, 69, 70, 71, 72, 73, 74, 75, 76], [34]⟩, ⟨(some 34), (Op.move (Operand.tmp 1)), 22, (some (some 33, false))⟩),
              (⟨[35, 6, 6, 33], [29, 30, 31, 32, 33, 34, 35, 36, 37, 38, 39, 40, 41, 42, 43, 44, 45, 46, 47, 48, 49, 50, 51, 52, 53, 54, 55, 56, 57, 58, 59, 60, 61, 62, 63, 64, 65, 66, 67, 68, 69, 70, 71, 72, 73, 74, 75, 76], [35]⟩, ⟨(some 35), (Op.move (Operand.tmp 6)), 3, (some (some 33, false))⟩),
              (⟨[36, 34, 35, 1, 6, 33], [29, 30, 31, 32, 33, 34, 35, 36, 37, 38, 39, 40, 41, 42, 43, 44, 45, 46, 47, 48, 49, 50, 51, 52, 53, 54, 55, 56, 57, 58, 59, 60, 61, 62, 63, 64, 65, 66, 67, 68, 69, 70, 71, 72, 73, 74, 75, 76], [36]⟩, ⟨(some 36), (Op.indexAddr 22 (Operand.tmp 34) (Operand.tmp 35)), 0, (some (some 33, false))⟩),
              (⟨[37, 36, 1, 33], [29, 30, 31, 32, 33, 34, 35, 36, 37, 38, 39, 40, 41, 42, 43, 44, 45, 46, 47, 48, 49, 50, 51, 52, 53, 54, 55, 56, 57, 58, 59, 60, 61, 62, 63, 64, 65, 66, 67, 68, 69, 70, 71, 72, 73, 74, 75, 76], [37]⟩, ⟨(some 37), (Op.load 32 (Operand.tmp 36)), 32, (some (some 33, false))⟩),
              (⟨[38, 37, 1, 33], [29, 30, 31, 32, 33, 34, 35, 36, 37, 38, 39, 40, 41, 42, 43, 44, 45, 46, 47, 48, 49, 50, 51, 52, 53, 54, 55, 56, 57, 58, 59, 60, 61, 62, 63, 64, 65, 66, 67, 68, 69, 70, 71, 72, 73, 74, 75, 76], [38]⟩, ⟨(some 38), (Op.call { callee := (Callee.builtin Builtin.len), args := #[(Operand.tmp 37)], argTypes := #[32] }), 3, (some (some 33, false))⟩),
              (⟨[39, 38, 38, 33], [29, 30, 31, 32, 33, 34, 35, 36, 37, 38, 39, 40, 41, 42, 43, 44, 45, 46, 47, 48, 49, 50, 51, 52, 53, 54, 55, 56, 57, 58, 59, 60, 61, 62, 63, 64, 65, 66, 67, 68, 69, 70, 71, 72, 73, 74, 75, 76], [39]⟩, ⟨(some 39), (Op.binOp BinOp.neq 3 (Operand.tmp 38) (Operand.const (Value.int IntKind.i64 4)) 3), 4, (some (some 33, false))⟩),
              (⟨[40, 33, 39, 32, 39], [29, 30, 31, 32, 33, 34, 35, 36, 37, 38, 39, 40, 41, 42, 43, 44, 45, 46, 47, 48, 49, 50, 51, 52, 53, 54, 55, 56, 57, 58, 59, 60, 61, 62, 63, 64, 65, 66, 67, 68, 69, 70, 71, 72, 73, 74, 75, 76], [40]⟩, ⟨(some 40), (Op.pick (Operand.tmp 33) (Operand.const (Value.bool true)) (Operand.tmp 39)), 4, none⟩),
              (⟨[41, 40, 40], [29, 30, 31, 32, 33, 34, 35, 36, 37, 38, 39, 40, 41, 42, 43, 44, 45, 46, 47, 48, 49, 50, 51, 52, 53, 54, 55, 56, 57, 58, 59, 60, 61, 62, 63, 64, 65, 66, 67, 68, 69, 70, 71, 72, 73, 74, 75, 76], [41]⟩, ⟨(some 41), (Op.move (Operand.tmp 40)), 4, none⟩),
              (⟨[42, 1, 1, 41], [29, 30, 31, 32, 33, 34, 35, 36, 37, 38, 39, 40, 41, 42, 43, 44, 45, 46, 47, 48, 49, 50, 51, 52, 53, 54, 55, 56, 57, 58, 59, 60, 61, 62, 63, 64, 65, 66, 67, 68, 69, 70, 71, 72, 73, 74, 75, 76], [42]⟩, ⟨(some 42), (Op.move (Operand.tmp 1)), 22, (some (some 41, false))⟩),
              (⟨[43, 6, 6, 41], [29, 30, 31, 32, 33, 34, 35, 36, 37, 38, 39, 40, 41, 42, 43, 44, 45, 46, 47, 48, 49, 50, 51, 52, 53, 54, 55, 56, 57, 58, 59, 60, 61, 62, 63, 64, 65, 66, 67, 68, 69, 70, 71, 72, 73, 74, 75, 76], [43]⟩, ⟨(some 43), (Op.move (Operand.tmp 6)), 3, (some (some 41, false))⟩),
              (⟨[44, 42, 43, 1, 6, 41], [29, 30, 31, 32, 33, 34, 35, 36, 37, 38, 39, 40, 41, 42, 43, 44, 45, 46, 47, 48, 49, 50, 51, 52, 53, 54, 55, 56, 57, 58, 59, 60, 61, 62, 63, 64, 65, 66, 67, 68, 69, 70, 71, 72, 73, 74, 75, 76], [44]⟩, ⟨(some 44), (Op.indexAddr 22 (Operand.tmp 42) (Operand.tmp 43)), 0, (some (some 41, false))⟩),
              (⟨[45, 44, 1, 41], [29, 30, 31, 32, 33, 34, 35, 36, 37, 38, 39, 40, 41, 42, 43, 44, 45, 46, 47, 48, 49, 50, 51, 52, 53, 54, 55, 56, 57, 58, 59, 60, 61, 62, 63, 64, 65, 66, 67, 68, 69, 70, 71, 72, 73, 74, 75, 76], [45]⟩, ⟨(some 45), (Op.load 32 (Operand.tmp 44)), 32, (some (some 41, false))⟩),
              (⟨[46, 45, 1, 41], [29, 30, 31, 32, 33, 34, 35, 36, 37, 38, 39, 40, 41, 42, 43, 44, 45, 46, 47, 48, 49, 50, 51, 52, 53, 54, 55, 56, 57, 58, 59, 60, 61, 62, 63, 64, 65, 66, 67, 68, 69, 70, 71, 72, 73, 74, 75, 76], [46]⟩, ⟨(some 46), (Op.indexAddr 32 (Operand.tmp 45) (Operand.const (Value.int IntKind.i64 0))), 0, (some (some 41, false))⟩),
              (⟨[47, 46, 1, 41], [29, 30, 31, 32, 33, 34, 35, 36, 37, 38, 39, 40, 41, 42, 43, 44, 45, 46, 47, 48, 49, 50, 51, 52, 53, 54, 55, 56, 57, 58, 59, 60, 61, 62, 63, 64, 65, 66, 67, 68, 69, 70, 71, 72, 73, 74, 75, 76], [47]⟩, ⟨(some 47), (Op.load 3 (Operand.tmp 46)), 3, (some (some 41, false))⟩),
              (⟨[48, 7, 7, 41], [29, 30, 31, 32, 33, 34, 35, 36, 37, 38, 39, 40, 41, 42, 43, 44, 45, 46, 47, 48, 49, 50, 51, 52, 53, 54, 55, 56, 57, 58, 59, 60, 61, 62, 63, 64, 65, 66, 67, 68, 69, 70, 71, 72, 73, 74, 75, 76], [48]⟩, ⟨(some 48), (Op.move (Operand.tmp 7)), 3, (some (some 41, false))⟩),
              (⟨[49, 47, 48, 1, 7, 41], [29, 30, 31, 32, 33, 34, 35, 36, 37, 38, 39, 40, 41, 42, 43, 44, 45, 46, 47, 48, 49, 50, 51, 52, 53, 54, 55, 56, 57, 58, 59, 60, 61, 62, 63, 64, 65, 66, 67, 68, 69, 70, 71, 72, 73, 74, 75, 76], [49]⟩, ⟨(some 49), (Op.binOp BinOp.neq 3 (Operand.tmp 47) (Operand.tmp 48) 3), 4, (some (some 41, false))⟩),
              (⟨[50, 41, 49, 40, 49], [29, 30, 31, 32, 33, 34, 35, 36, 37, 38, 39, 40, 41, 42, 43, 44, 45, 46, 47, 48, 49, 50, 51, 52, 53, 54, 55, 56, 57, 58, 59, 60, 61, 62, 63, 64, 65, 66, 67, 68, 69, 70, 71, 72, 73, 74, 75, 76], [50]⟩, ⟨(some 50), (Op.pick (Operand.tmp 41) (Operand.const (Value.bool true)) (Operand.tmp 49)), 4, none⟩),
              (⟨[51, 50, 50], [29, 30, 31, 32, 33, 34, 35, 36, 37, 38, 39, 40, 41, 42, 43, 44, 45, 46, 47, 48, 49, 50, 51, 52, 53, 54, 55, 56, 57, 58, 59, 60, 61, 62, 63, 64, 65, 66, 67, 68, 69, 70, 71, 72, 73, 74, 75, 76], [51]⟩, ⟨(some 51), (Op.move (Operand.tmp 50)), 4, none⟩),
              (⟨[52, 1, 1, 51], [29, 30, 31, 32, 33, 34, 35, 36, 37, 38, 39, 40, 41, 42, 43, 44, 45, 46, 47, 48, 49, 50, 51, 52, 53, 54, 55, 56, 57, 58, 59, 60, 61, 62, 63, 64, 65, 66, 67, 68, 69, 70, 71, 72, 73, 74, 75, 76], [52]⟩, ⟨(some 52), (Op.move (Operand.tmp 1)), 22, (some (some 51, false))⟩),
              (⟨[53, 6, 6, 51], [29, 30, 31, 32, 33, 34, 35, 36, 37, 38, 39, 40, 41, 42, 43, 44, 45, 46, 47, 48, 49, 50, 51, 52, 53, 54, 55, 56, 57, 58, 59, 60, 61, 62, 63, 64, 65, 66, 67, 68, 69, 70, 71, 72, 73, 74, 75, 76], [53]⟩, ⟨(some 53), (Op.move (Operand.tmp 6)), 3, (some (some 51, false))⟩),
              (⟨[54, 52, 53, 1, 6, 51], [29, 30, 31, 32, 33, 34, 35, 36, 37, 38, 39, 40, 41, 42, 43, 44, 45, 46, 47, 48, 49, 50, 51, 52, 53, 54, 55, 56, 57, 58, 59, 60, 61, 62, 63, 64, 65, 66, 67, 68, 69, 70, 71, 72, 73, 74, 75, 76], [54]⟩, ⟨(some 54), (Op.indexAddr 22 (Operand.tmp 52) (Operand.tmp 53)), 0, (some (some 51, false))⟩),
              (⟨[55, 54, 1, 51], [29, 30, 31, 32, 33, 34, 35, 36, 37, 38, 39, 40, 41, 42, 43, 44, 45, 46, 47, 48, 49, 50, 51, 52, 53, 54, 55, 56, 57, 58, 59, 60, 61, 62, 63, 64, 65, 66, 67, 68, 69, 70, 71, 72, 73, 74, 75, 76], [55]⟩, ⟨(some 55), (Op.load 32 (Operand.tmp 54)), 32, (some (some 51, false))⟩),
              (⟨[56, 55, 1, 51], [29, 30, 31, 32, 33, 34, 35, 36, 37, 38, 39, 40, 41, 42, 43, 44, 45, 46, 47, 48, 49, 50, 51, 52, 53, 54, 55, 56, 57, 58, 59, 60, 61, 62, 63, 64, 65, 66, 67, 68, 69, 70, 71, 72, 73, 74, 75, 76], [56]⟩, ⟨(some 56), (Op.indexAddr 32 (Operand.tmp 55) (Operand.const (Value.int IntKind.i64 1))), 0, (some (some 51, false))⟩),
              (⟨[57, 56, 1, 51], [29, 30, 31, 32, 33, 34, 35, 36, 37, 38, 39, 40, 41, 42, 43, 44, 45, 46, 47, 48, 49, 50, 51, 52, 53, 54, 55, 56, 57, 58, 59, 60, 61, 62, 63, 64, 65, 66, 67, 68, 69, 70, 71, 72, 73, 74, 75, 76], [57]⟩, ⟨(some 57), (Op.load 3 (Operand.tmp 56)), 3, (some (some 51, false))⟩),
              (⟨[58, 9, 9, 51], [29, 30, 31, 32, 33, 34, 35, 36, 37, 38, 39, 40, 41, 42, 43, 44, 45, 46, 47, 48, 49, 50, 51, 52, 53, 54, 55, 56, 57, 58, 59, 60, 61, 62, 63, 64, 65, 66, 67, 68, 69, 70, 71, 72, 73, 74, 75, 76], [58]⟩, ⟨(some 58), (Op.move (Operand.tmp 9)), 3, (some (some 51, false))⟩),
              (⟨[59, 57, 58, 1, 9, 51], [29, 30, 31, 32, 33, 34, 35, 36, 37, 38, 39, 40, 41, 42, 43, 44, 45, 46, 47, 48, 49, 50, 51, 52, 53, 54, 55, 56, 57, 58, 59, 60, 61, 62, 63, 64, 65, 66, 67, 68, 69, 70, 71, 72, 73, 74, 75, 76], [59]⟩, ⟨(some 59), (Op.binOp BinOp.neq 3 (Operand.tmp 57) (Operand.tmp 58) 3), 4, (some (some 51, false))⟩),
              (⟨[60, 51, 59, 50, 59], [29, 30, 31, 32, 33, 34, 35, 36, 37, 38, 39, 40, 41, 42, 43, 44, 45, 46, 47, 48, 49, 50, 51, 52, 53, 54, 55, 56, 57, 58, 59, 60, 61, 62, 63, 64, 65, 66, 67, 68, 69, 70, 71, 72, 73, 74, 75, 76], [60]⟩, ⟨(some 60), (Op.pick (Operand.tmp 51) (Operand.const (Value.bool true)) (Operand.tmp 59)), 4, none⟩),
              (⟨[61, 60, 60], [29, 30, 31, 32, 33, 34, 35, 36, 37, 38, 39, 40, 41, 42, 43, 44, 45, 46, 47, 48, 49, 50, 51, 52, 53, 54, 55, 56, 57, 58, 59, 60, 61, 62, 63, 64, 65, 66, 67, 68, 69, 70, 71, 72, 73, 74, 75, 76], [61]⟩, ⟨(some 61), (Op.move (Operand.tmp 60)), 4, none⟩),
              (⟨[62, 2, 2, 61], [29, 30, 31, 32, 33, 34, 35, 36, 37, 38, 39, 40, 41, 42, 43, 44, 45, 46, 47, 48, 49, 50, 51, 52, 53, 54, 55, 56, 57, 58, 59, 60, 61, 62, 63, 64, 65, 66, 67, 68, 69, 70, 71, 72, 73, 74, 75, 76], [62]⟩, ⟨(some 62), (Op.load 28 (Operand.tmp 2)), 28, (some (some 61, false))⟩),
              (⟨[63, 1, 1, 61], [29, 30, 31, 32, 33, 34, 35, 36, 37, 38, 39, 40, 41, 42, 43, 44, 45, 46, 47, 48, 49, 50, 51, 52, 53, 54, 55, 56, 57, 58, 59, 60, 61, 62, 63, 64, 65, 66, 67, 68, 69, 70, 71, 72, 73, 74, 75, 76], [63]⟩, ⟨(some 63), (Op.move (Operand.tmp 1)), 22, (some (some 61, false))⟩),
              (⟨[64, 6, 6, 61], [29, 30, 31, 32, 33, 34, 35, 36, 37, 38, 39, 40, 41, 42, 43, 44, 45, 46, 47, 48, 49, 50, 51, 52, 53, 54, 55, 56, 57, 58, 59, 60, 61, 62, 63, 64, 65, 66, 67, 68, 69, 70, 71, 72, 73, 74, 75, 76], [64]⟩, ⟨(some 64), (Op.move (Operand.tmp 6)), 3, (some (some 61, false))⟩),
              (⟨[65, 63, 64, 1, 6, 61], [29, 30, 31, 32, 33, 34, 35, 36, 37, 38, 39, 40, 41, 42, 43, 44, 45, 46, 47, 48, 49, 50, 51, 52, 53, 54, 55, 56, 57, 58, 59, 60, 61, 62, 63, 64, 65, 66, 67, 68, 69, 70, 71, 72, 73, 74, 75, 76], [65]⟩, ⟨(some 65), (Op.indexAddr 22 (Operand.tmp 63) (Operand.tmp 64)), 0, (some (some 61, false))⟩),
              (⟨[66, 65, 1, 61], [29, 30, 31, 32, 33, 34, 35, 36, 37, 38, 39, 40, 41, 42, 43, 44, 45, 46, 47, 48, 49, 50, 51, 52, 53, 54, 55, 56, 57, 58, 59, 60, 61, 62, 63, 64, 65, 66, 67, 68, 69, 70, 71, 72, 73, 74, 75, 76], [66]⟩, ⟨(some 66), (Op.load 32 (Operand.tmp 65)), 32, (some (some 61, false))⟩),
              (⟨[67, 66, 1, 61], [29, 30, 31, 32, 33, 34, 35, 36, 37, 38, 39, 40, 41, 42, 43, 44, 45, 46, 47, 48, 49, 50, 51, 52, 53, 54, 55, 56, 57, 58, 59, 60, 61, 62, 63, 64, 65, 66, 67, 68, 69, 70, 71, 72, 73, 74, 75, 76], [67]⟩, ⟨(some 67), (Op.slice 32 (Operand.tmp 66) (some (Operand.const (Value.int IntKind.i64 2))) none none), 32, (some (some 61, false))⟩),
              (⟨[68, 8, 8, 61], [29, 30, 31, 32, 33, 34, 35, 36, 37, 38, 39, 40, 41, 42, 43, 44, 45, 46, 47, 48, 49, 50, 51, 52, 53, 54, 55, 56, 57, 58, 59, 60, 61, 62, 63, 64, 65, 66, 67, 68, 69, 70, 71, 72, 73, 74, 75, 76], [68]⟩, ⟨(some 68), (Op.move (Operand.tmp 8)), 32, (some (some 61, false))⟩),
              (⟨[69, 2, 2, 61], [29, 30, 31, 32, 33, 34, 35, 36, 37, 38, 39, 40, 41, 42, 43, 44, 45, 46, 47, 48, 49, 50, 51, 52, 53, 54, 55, 56, 57, 58, 59, 60, 61, 62, 63, 64, 65, 66, 67, 68, 69, 70, 71, 72, 73, 74, 75, 76], [69]⟩, ⟨(some 69), (Op.fieldAddr 28 (Operand.tmp 2) 2), 0, (some (some 61, false))⟩),
              (⟨[70, 69, 2, 61], [29, 30, 31, 32, 33, 34, 35, 36, 37, 38, 39, 40, 41, 42, 43, 44, 45, 46, 47, 48, 49, 50, 51, 52, 53, 54, 55, 56, 57, 58, 59, 60, 61, 62, 63, 64, 65, 66, 67, 68, 69, 70, 71, 72, 73, 74, 75, 76], [70]⟩, ⟨(some 70), (Op.load 22 (Operand.tmp 69)), 22, (some (some 61, false))⟩),
              (⟨[71, 9, 9, 61], [29, 30, 31, 32, 33, 34, 35, 36, 37, 38, 39, 40, 41, 42, 43, 44, 45, 46, 47, 48, 49, 50, 51, 52, 53, 54, 55, 56, 57, 58, 59, 60, 61, 62, 63, 64, 65, 66, 67, 68, 69, 70, 71, 72, 73, 74, 75, 76], [71]⟩, ⟨(some 71), (Op.move (Operand.tmp 9)), 3, (some (some 61, false))⟩),
              (⟨[72, 70, 71, 2, 9, 61], [29, 30, 31, 32, 33, 34, 35, 36, 37, 38, 39, 40, 41, 42, 43, 44, 45, 46, 47, 48, 49, 50, 51, 52, 53, 54, 55, 56, 57, 58, 59, 60, 61, 62, 63, 64, 65, 66, 67, 68, 69, 70, 71, 72, 73, 74, 75, 76], [72]⟩, ⟨(some 72), (Op.indexAddr 22 (Operand.tmp 70) (Operand.tmp 71)), 0, (some (some 61, false))⟩),
              (⟨[73, 72, 2, 61], [29, 30, 31, 32, 33, 34, 35, 36, 37, 38, 39, 40, 41, 42, 43, 44, 45, 46, 47, 48, 49, 50, 51, 52, 53, 54, 55, 56, 57, 58, 59, 60, 61, 62, 63, 64, 65, 66, 67, 68, 69, 70, 71, 72, 73, 74, 75, 76], [73]⟩, ⟨(some 73), (Op.load 32 (Operand.tmp 72)), 32, (some (some 61, false))⟩),
              (⟨[74, 62, 67, 68, 73, 2, 1, 8, 2, 61], [29, 30, 31, 32, 33, 34, 35, 36, 37, 38, 39, 40, 41, 42, 43, 44, 45, 46, 47, 48, 49, 50, 51, 52, 53, 54, 55, 56, 57, 58, 59, 60, 61, 62, 63, 64, 65, 66, 67, 68, 69, 70, 71, 72, 73, 74, 75, 76], [74]⟩, ⟨(some 74), (Op.call { callee := (Callee.value (Operand.func 61)), args := #[(Operand.tmp 62), (Operand.tmp 67), (Operand.tmp 68), (Operand.tmp 73)], argTypes := #[28, 32, 32, 32] }), 4, (some (some 61, false))⟩),
              (⟨[75, 74, 74, 61], [29, 30, 31, 32, 33, 34, 35, 36, 37, 38, 39, 40, 41, 42, 43, 44, 45, 46, 47, 48, 49, 50, 51, 52, 53, 54, 55, 56, 57, 58, 59, 60, 61, 62, 63, 64, 65, 66, 67, 68, 69, 70, 71, 72, 73, 74, 75, 76], [75]⟩, ⟨(some 75), (Op.unOp UnOp.not 4 (Operand.tmp 74)), 4, (some (some 61, false))⟩),
              (⟨[76, 61, 75, 60, 75], [29, 30, 31, 32, 33, 34, 35, 36, 37, 38, 39, 40, 41, 42, 43, 44, 45, 46, 47, 48, 49, 50, 51, 52, 53, 54, 55, 56, 57, 58, 59, 60, 61, 62, 63, 64, 65, 66, 67, 68, 69, 70, 71, 72, 73, 74, 75, 76], [76]⟩, ⟨(some 76), (Op.pick (Operand.tmp 61) (Operand.const (Value.bool true)) (Operand.tmp 75)), 4, none⟩)])
            (.cond (Operand.tmp 76)
              (.seq
                (.ops [
                  ⟨(some 4), (Op.assign (Operand.const (Value.bool false))), 4, none⟩,
                  ⟨(some 5), (Op.assign (Operand.const (Value.bool true))), 4, none⟩])
                .ret)
              .skip))
          (.ops [
            ⟨(some 77), (Op.move (Operand.tmp 6)), 3, none⟩,
            ⟨(some 78), (Op.binOp BinOp.add 3 (Operand.tmp 77) (Operand.const (Value.int IntKind.i64 1)) 3), 3, none⟩,
            ⟨(some 6), (Op.assign (Operand.tmp 78)), 3, none⟩])))
      (.ops [
        ⟨(some 27), (Op.move (Operand.tmp 9)), 3, none⟩,
        ⟨(some 28), (Op.binOp BinOp.add 3 (Operand.tmp 27) (Operand.const (Value.int IntKind.i64 1)) 3), 3, none⟩,
        ⟨(some 9), (Op.assign (Operand.tmp 28)), 3, none⟩]))
def k31_l0 : SC := .loop k31_l0b
def k31_l1b : SC :=
  .seq
    (.ops [
      ⟨(some 17), (Op.binOp BinOp.lss 3 (Operand.tmp 16) (Operand.tmp 15) 3), 0, none⟩])
    (.seq
      (.cond (Operand.tmp 17)
        .skip
        (.exit 0))
      (.seq
        (.block 1
          (.seq
            (.ops [
              ⟨(some 18), (Op.move (Operand.tmp 16)), 3, none⟩,
              ⟨(some 19), (Op.indexAddr 22 (Operand.tmp 14) (Operand.tmp 16)), 0, none⟩,
              ⟨(some 20), (Op.load 32 (Operand.tmp 19)), 32, none⟩,
              ⟨(some 7), (Op.assign (Operand.tmp 18)), 3, none⟩,
              ⟨(some 8), (Op.assign (Operand.tmp 20)), 32, none⟩])
            (.seq
              (.ops [
                ⟨(some 21), (Op.move (Operand.tmp 7)), 3, none⟩,
                ⟨(some 9), (Op.assign (Operand.tmp 21)), 3, none⟩])
              (.block 2
                k31_l0))))
        (.ops [
          ⟨(some 79), (Op.binOp BinOp.add 3 (Operand.tmp 16) (Operand.const (Value.int IntKind.i64 1)) 3), 3, none⟩,
          ⟨(some 16), (Op.move (Operand.tmp 79)), 3, none⟩])))
def k31_l1 : SC := .loop k31_l1b
def k31 : SC :=
  .seq
    (.ops [
      ⟨(some 2), (Op.box 28 (Operand.tmp 0)), 0, none⟩,
      ⟨(some 4), (Op.assign (Operand.const (Value.bool false))), 4, none⟩,
      ⟨(some 5), (Op.assign (Operand.const (Value.bool false))), 4, none⟩])
    (.seq
      (.seq
        (.ops [
          ⟨(some 10), (Op.load 28 (Operand.tmp 2)), 28, none⟩,
          ⟨(some 11), (Op.call { callee := (Callee.value (Operand.func 56)), args := #[(Operand.tmp 10)], argTypes := #[28] }), 4, none⟩,
          ⟨(some 12), (Op.unOp UnOp.not 4 (Operand.tmp 11)), 4, none⟩])
        (.cond (Operand.tmp 12)
          (.seq
            (.ops [
              ⟨(some 4), (Op.assign (Operand.const (Value.bool false))), 4, none⟩,
              ⟨(some 5), (Op.assign (Operand.const (Value.bool false))), 4, none⟩])
            .ret)
          .skip))
      (.seq
        (.ops [
          ⟨(some 6), (Op.assign (Operand.const (Value.int IntKind.i64 0))), 3, none⟩])
        (.seq
          (.seq
            (.ops [
              ⟨(some 13), (Op.fieldAddr 28 (Operand.tmp 2) 2), 0, none⟩,
              ⟨(some 14), (Op.load 22 (Operand.tmp 13)), 22, none⟩,
              ⟨(some 15), (Op.call { callee := (Callee.builtin Builtin.len), args := #[(Operand.tmp 14)], argTypes := #[22] }), 3, none⟩,
              ⟨(some 16), (Op.move (Operand.const (Value.int IntKind.i64 0))), 3, none⟩])
            (.block 0
              k31_l1))
          (.seq
            (.ops [
              ⟨(some 80), (Op.move (Operand.tmp 6)), 3, none⟩,
              ⟨(some 81), (Op.move (Operand.tmp 1)), 22, none⟩,
              ⟨(some 82), (Op.call { callee := (Callee.builtin Builtin.len), args := #[(Operand.tmp 81)], argTypes := #[22] }), 3, none⟩,
              ⟨(some 83), (Op.binOp BinOp.eql 3 (Operand.tmp 80) (Operand.tmp 82) 3), 4, none⟩,
              ⟨(some 4), (Op.assign (Operand.tmp 83)), 4, none⟩,
              ⟨(some 5), (Op.assign (Operand.const (Value.bool true))), 4, none⟩])
            .ret))))
theorem slim31 : Try.f31.body.map (slim lends) = some k31 := by kernel_rfl
theorem ok31 : fnOk Try.f31 2 = true := by kernel_rfl
theorem c31 {a l : List D} {r : D × List D} (h : wpD Y.env k31 (fin tys l.length [ResultVar.tmp 4, ResultVar.tmp 5] r) (entry a l)) (ha : a.length = 2) : Y.call 31 a l = some r :=
  call_slim (Y := Y) rfl Try.func31 (ha ▸ ok31) slim31 h
def s_CheckPairRefusal_l0_M (t0_Labels : Int) (t0_Degree : Int) (t0_Nodes : List (List Int)) (t0_Edges : List (List Int)) (t1_ : List (List Int)) (t16_ : Int) (t6_1 : Int) (t9_ : Int) (s : St) : Prop := s.v 1 = D.sl 32 (lst (fun x => D.sl 3 (lst (D.int .i64) x)) t1_) ∧ s.v 2 = D.box [D.int .i64 t0_Labels, D.int .i64 t0_Degree, D.sl 32 (lst (fun x => D.sl 3 (lst (D.int .i64) x)) t0_Nodes), D.sl 32 (lst (fun x => D.sl 3 (lst (D.int .i64) x)) t0_Edges)] ∧ s.v 6 = D.int .i64 t6_1 ∧ s.v 7 = D.int .i64 t16_ ∧ s.v 8 = D.sl 3 (lst (D.int .i64) (t0_Nodes.getD t16_.toNat default)) ∧ s.v 9 = D.int .i64 t9_ ∧ s.v 14 = D.sl 32 (lst (fun x => D.sl 3 (lst (D.int .i64) x)) t0_Nodes) ∧ s.v 15 = D.int .i64 (t0_Nodes.length : Int) ∧ s.v 16 = D.int .i64 t16_
def s_CheckPairRefusal_l0_X (t0_Labels : Int) (t0_Degree : Int) (t0_Nodes : List (List Int)) (t0_Edges : List (List Int)) (t1_ : List (List Int)) (t16_ : Int) (r : Unit ⊕ Int) (ex : Ex) (s : St) : Prop := match r with
  | .inl q => ex = .ret ∧ s.v 4 = D.bool false ∧ s.v 5 = D.bool true
  | .inr q => ex = .exit 2 ∧ s.v 1 = D.sl 32 (lst (fun x => D.sl 3 (lst (D.int .i64) x)) t1_) ∧ s.v 2 = D.box [D.int .i64 t0_Labels, D.int .i64 t0_Degree, D.sl 32 (lst (fun x => D.sl 3 (lst (D.int .i64) x)) t0_Nodes), D.sl 32 (lst (fun x => D.sl 3 (lst (D.int .i64) x)) t0_Edges)] ∧ s.v 6 = D.int .i64 q ∧ s.v 14 = D.sl 32 (lst (fun x => D.sl 3 (lst (D.int .i64) x)) t0_Nodes) ∧ s.v 15 = D.int .i64 (t0_Nodes.length : Int) ∧ s.v 16 = D.int .i64 t16_
theorem s_CheckPairRefusal_l0_wp (t0_Labels : Int) (t0_Degree : Int) (t0_Nodes : List (List Int)) (t0_Edges : List (List Int)) (t1_ : List (List Int)) (t16_ : Int) {v : Int × Int} {s : St} {r : Unit ⊕ Int} (h : s_CheckPairRefusal_l0 t0_Labels t0_Degree t0_Nodes t0_Edges t1_ t16_ v = some r) (hM : s_CheckPairRefusal_l0_M t0_Labels t0_Degree t0_Nodes t0_Edges t1_ t16_ v.1 v.2 s) : wpD Y.env k31_l0 (s_CheckPairRefusal_l0_X t0_Labels t0_Degree t0_Nodes t0_Edges t1_ t16_ r) s := by
  unfold s_CheckPairRefusal_l0 at h
  refine wd_itO (c := k31_l0b) (fun v => s_CheckPairRefusal_l0_S t0_Labels t0_Degree t0_Nodes t0_Edges t1_ t16_ v.1 v.2) (fun v s => s_CheckPairRefusal_l0_M t0_Labels t0_Degree t0_Nodes t0_Edges t1_ t16_ v.1 v.2 s) (s_CheckPairRefusal_l0_X t0_Labels t0_Degree t0_Nodes t0_Edges t1_ t16_) ?_ h hM
  clear h hM s v r
  intro v s o hM h
  obtain ⟨t6_1, t9_⟩ := v
  dsimp only at h hM
  unfold s_CheckPairRefusal_l0_S at h
  unfold s_CheckPairRefusal_l0_M at hM
  obtain ⟨m0, m1, m2, m3, m4, m5, m6, m7, m8⟩ := hM
  unfold k31_l0b
  by_cases e7 : t9_ < (t0_Nodes.length : Int)
  · rw [if_pos e7] at h
    by_cases e8 : t6_1 = (t1_.length : Int)
    · rw [if_pos e8] at h
      obtain rfl := Option.some.inj h
      simp (maxDischargeDepth := 9) only [↓xpre, xpost, xlst, xcore, yset, rg0, ↓reduceIte, Nat.reduceEqDiff, Nat.reduceLT, Nat.reduceLeDiff, Nat.reduceAdd, Nat.reduceMul, Nat.reduceMod, Nat.reduceSub, Nat.reduceBEq, Int.reduceLE, Int.reduceLT, Int.reduceEq, Int.reduceSub, Int.reduceAdd, Int.reduceToNat, Int.reduceNeg, m0, m1, m2, m3, m4, m5, m6, m7, m8, e7, decide_eq_true e8, s_CheckPairRefusal_l0_M, s_CheckPairRefusal_l0_X, sxN, sxE, sxR] <;> (repeat' apply And.intro) <;> first | rfl | exact ⟨_, rfl⟩ | simp [lst]
    · rw [if_neg e8] at h
      obtain ⟨e9, h⟩ := ckS h
      by_cases e10 : ((t1_.getD t6_1.toNat default).length : Int) = 4
      · rw [if_pos e10] at h
        obtain ⟨e11, h⟩ := ckS h
        by_cases e12 : ((t1_.getD t6_1.toNat default).getD 0 default) = t16_
        · rw [if_pos e12] at h
          obtain ⟨e13, h⟩ := ckS h
          by_cases e14 : ((t1_.getD t6_1.toNat default).getD 1 default) = t9_
          · rw [if_pos e14] at h
            obtain ⟨e15, h⟩ := ckS h
            obtain ⟨e16, h⟩ := ckS h
            obtain ⟨e17, h⟩ := ckS h
            obtain ⟨e18, h⟩ := ckS h
            obtain ⟨e19, h⟩ := ckS h
            have c20 := s_zeTwo_cl t0_Labels t0_Degree t0_Nodes t0_Edges (((t1_.getD t6_1.toNat default).take ((t1_.getD t6_1.toNat default).length)).drop 2) (t0_Nodes.getD t16_.toNat default) (t0_Nodes.getD t9_.toNat default) e17 e18 e19
            by_cases e21 : (twoB t0_Edges (((t1_.getD t6_1.toNat default).take ((t1_.getD t6_1.toNat default).length)).drop 2) (t0_Nodes.getD t16_.toNat default) (t0_Nodes.getD t9_.toNat default)) = true
            · rw [if_pos e21] at h
              obtain rfl := Option.some.inj h
              simp (maxDischargeDepth := 9) only [↓xpre, xpost, xlst, xcore, yset, rg0, ↓reduceIte, Nat.reduceEqDiff, Nat.reduceLT, Nat.reduceLeDiff, Nat.reduceAdd, Nat.reduceMul, Nat.reduceMod, Nat.reduceSub, Nat.reduceBEq, Int.reduceLE, Int.reduceLT, Int.reduceEq, Int.reduceSub, Int.reduceAdd, Int.reduceToNat, Int.reduceNeg, m0, m1, m2, m3, m4, m5, m6, m7, m8, e7, e8, e9.1, e9.2, decide_eq_true e10, e11, decide_eq_true e12, e13, decide_eq_true e14, e15, e16.1, e16.2, e17, e18, e19, c20, e21, s_CheckPairRefusal_l0_M, s_CheckPairRefusal_l0_X, sxN, sxE, sxR] <;> (repeat' apply And.intro) <;> first | rfl | exact ⟨_, rfl⟩ | simp [lst]
            · rw [if_neg e21] at h
              have e21f : (twoB t0_Edges (((t1_.getD t6_1.toNat default).take ((t1_.getD t6_1.toNat default).length)).drop 2) (t0_Nodes.getD t16_.toNat default) (t0_Nodes.getD t9_.toNat default)) = false := Bool.eq_false_iff.mpr e21
              obtain rfl := Option.some.inj h
              simp (maxDischargeDepth := 9) only [↓xpre, xpost, xlst, xcore, yset, rg0, ↓reduceIte, Nat.reduceEqDiff, Nat.reduceLT, Nat.reduceLeDiff, Nat.reduceAdd, Nat.reduceMul, Nat.reduceMod, Nat.reduceSub, Nat.reduceBEq, Int.reduceLE, Int.reduceLT, Int.reduceEq, Int.reduceSub, Int.reduceAdd, Int.reduceToNat, Int.reduceNeg, m0, m1, m2, m3, m4, m5, m6, m7, m8, e7, e8, e9.1, e9.2, decide_eq_true e10, e11, decide_eq_true e12, e13, decide_eq_true e14, e15, e16.1, e16.2, e17, e18, e19, c20, e21f, s_CheckPairRefusal_l0_M, s_CheckPairRefusal_l0_X, sxN, sxE, sxR] <;> (repeat' apply And.intro) <;> first | rfl | exact ⟨_, rfl⟩ | simp [lst]
          · rw [if_neg e14] at h
            obtain rfl := Option.some.inj h
            simp (maxDischargeDepth := 9) only [↓xpre, xpost, xlst, xcore, yset, rg0, ↓reduceIte, Nat.reduceEqDiff, Nat.reduceLT, Nat.reduceLeDiff, Nat.reduceAdd, Nat.reduceMul, Nat.reduceMod, Nat.reduceSub, Nat.reduceBEq, Int.reduceLE, Int.reduceLT, Int.reduceEq, Int.reduceSub, Int.reduceAdd, Int.reduceToNat, Int.reduceNeg, m0, m1, m2, m3, m4, m5, m6, m7, m8, e7, e8, e9.1, e9.2, decide_eq_true e10, e11, decide_eq_true e12, e13, e14, s_CheckPairRefusal_l0_M, s_CheckPairRefusal_l0_X, sxN, sxE, sxR] <;> (repeat' apply And.intro) <;> first | rfl | exact ⟨_, rfl⟩ | simp [lst]
        · rw [if_neg e12] at h
          obtain rfl := Option.some.inj h
          simp (maxDischargeDepth := 9) only [↓xpre, xpost, xlst, xcore, yset, rg0, ↓reduceIte, Nat.reduceEqDiff, Nat.reduceLT, Nat.reduceLeDiff, Nat.reduceAdd, Nat.reduceMul, Nat.reduceMod, Nat.reduceSub, Nat.reduceBEq, Int.reduceLE, Int.reduceLT, Int.reduceEq, Int.reduceSub, Int.reduceAdd, Int.reduceToNat, Int.reduceNeg, m0, m1, m2, m3, m4, m5, m6, m7, m8, e7, e8, e9.1, e9.2, decide_eq_true e10, e11, e12, s_CheckPairRefusal_l0_M, s_CheckPairRefusal_l0_X, sxN, sxE, sxR] <;> (repeat' apply And.intro) <;> first | rfl | exact ⟨_, rfl⟩ | simp [lst]
      · rw [if_neg e10] at h
        obtain rfl := Option.some.inj h
        simp (maxDischargeDepth := 9) only [↓xpre, xpost, xlst, xcore, yset, rg0, ↓reduceIte, Nat.reduceEqDiff, Nat.reduceLT, Nat.reduceLeDiff, Nat.reduceAdd, Nat.reduceMul, Nat.reduceMod, Nat.reduceSub, Nat.reduceBEq, Int.reduceLE, Int.reduceLT, Int.reduceEq, Int.reduceSub, Int.reduceAdd, Int.reduceToNat, Int.reduceNeg, m0, m1, m2, m3, m4, m5, m6, m7, m8, e7, e8, e9.1, e9.2, e10, s_CheckPairRefusal_l0_M, s_CheckPairRefusal_l0_X, sxN, sxE, sxR] <;> (repeat' apply And.intro) <;> first | rfl | exact ⟨_, rfl⟩ | simp [lst]
  · rw [if_neg e7] at h
    obtain rfl := Option.some.inj h
    simp (maxDischargeDepth := 9) only [↓xpre, xpost, xlst, xcore, yset, rg0, ↓reduceIte, Nat.reduceEqDiff, Nat.reduceLT, Nat.reduceLeDiff, Nat.reduceAdd, Nat.reduceMul, Nat.reduceMod, Nat.reduceSub, Nat.reduceBEq, Int.reduceLE, Int.reduceLT, Int.reduceEq, Int.reduceSub, Int.reduceAdd, Int.reduceToNat, Int.reduceNeg, m0, m1, m2, m3, m4, m5, m6, m7, m8, e7, s_CheckPairRefusal_l0_M, s_CheckPairRefusal_l0_X, sxN, sxE, sxR] <;> (repeat' apply And.intro) <;> first | rfl | exact ⟨_, rfl⟩ | simp [lst]
def s_CheckPairRefusal_l1_M (t0_Labels : Int) (t0_Degree : Int) (t0_Nodes : List (List Int)) (t0_Edges : List (List Int)) (t1_ : List (List Int)) (t6_ : Int) (t16_ : Int) (s : St) : Prop := s.v 1 = D.sl 32 (lst (fun x => D.sl 3 (lst (D.int .i64) x)) t1_) ∧ s.v 2 = D.box [D.int .i64 t0_Labels, D.int .i64 t0_Degree, D.sl 32 (lst (fun x => D.sl 3 (lst (D.int .i64) x)) t0_Nodes), D.sl 32 (lst (fun x => D.sl 3 (lst (D.int .i64) x)) t0_Edges)] ∧ s.v 6 = D.int .i64 t6_ ∧ s.v 14 = D.sl 32 (lst (fun x => D.sl 3 (lst (D.int .i64) x)) t0_Nodes) ∧ s.v 15 = D.int .i64 (t0_Nodes.length : Int) ∧ s.v 16 = D.int .i64 t16_
def s_CheckPairRefusal_l1_X (t0_Labels : Int) (t0_Degree : Int) (t0_Nodes : List (List Int)) (t0_Edges : List (List Int)) (t1_ : List (List Int)) (r : Unit ⊕ Int) (ex : Ex) (s : St) : Prop := match r with
  | .inl q => ex = .ret ∧ s.v 4 = D.bool false ∧ s.v 5 = D.bool true
  | .inr q => ex = .exit 0 ∧ s.v 1 = D.sl 32 (lst (fun x => D.sl 3 (lst (D.int .i64) x)) t1_) ∧ s.v 6 = D.int .i64 q
theorem s_CheckPairRefusal_l1_wp (t0_Labels : Int) (t0_Degree : Int) (t0_Nodes : List (List Int)) (t0_Edges : List (List Int)) (t1_ : List (List Int)) {v : Int × Int} {s : St} {r : Unit ⊕ Int} (h : s_CheckPairRefusal_l1 t0_Labels t0_Degree t0_Nodes t0_Edges t1_ v = some r) (hM : s_CheckPairRefusal_l1_M t0_Labels t0_Degree t0_Nodes t0_Edges t1_ v.1 v.2 s) : wpD Y.env k31_l1 (s_CheckPairRefusal_l1_X t0_Labels t0_Degree t0_Nodes t0_Edges t1_ r) s := by
  unfold s_CheckPairRefusal_l1 at h
  refine wd_itO (c := k31_l1b) (fun v => s_CheckPairRefusal_l1_S t0_Labels t0_Degree t0_Nodes t0_Edges t1_ v.1 v.2) (fun v s => s_CheckPairRefusal_l1_M t0_Labels t0_Degree t0_Nodes t0_Edges t1_ v.1 v.2 s) (s_CheckPairRefusal_l1_X t0_Labels t0_Degree t0_Nodes t0_Edges t1_) ?_ h hM
  clear h hM s v r
  intro v s o hM h
  obtain ⟨t6_, t16_⟩ := v
  dsimp only at h hM
  unfold s_CheckPairRefusal_l1_S at h
  unfold s_CheckPairRefusal_l1_M at hM
  obtain ⟨m0, m1, m2, m3, m4, m5⟩ := hM
  unfold k31_l1b
  by_cases e5 : t16_ < (t0_Nodes.length : Int)
  · rw [if_pos e5] at h
    obtain ⟨e6, h⟩ := ckS h
    obtain ⟨r8_, hl8, h⟩ := bindS h
    try dsimp only at h
    simp (maxDischargeDepth := 9) only [↓xpre, xpost, xlst, xcore, yset, rg0, ↓reduceIte, Nat.reduceEqDiff, Nat.reduceLT, Nat.reduceLeDiff, Nat.reduceAdd, Nat.reduceMul, Nat.reduceMod, Nat.reduceSub, Nat.reduceBEq, Int.reduceLE, Int.reduceLT, Int.reduceEq, Int.reduceSub, Int.reduceAdd, Int.reduceToNat, Int.reduceNeg, m0, m1, m2, m3, m4, m5, e5, e6.1, e6.2]
    refine wd_mono (s_CheckPairRefusal_l0_wp t0_Labels t0_Degree t0_Nodes t0_Edges t1_ t16_ hl8 ?_) ?_
    · simp (maxDischargeDepth := 9) only [↓xpre, xpost, xlst, xcore, yset, rg0, ↓reduceIte, Nat.reduceEqDiff, Nat.reduceLT, Nat.reduceLeDiff, Nat.reduceAdd, Nat.reduceMul, Nat.reduceMod, Nat.reduceSub, Nat.reduceBEq, Int.reduceLE, Int.reduceLT, Int.reduceEq, Int.reduceSub, Int.reduceAdd, Int.reduceToNat, Int.reduceNeg, m0, m1, m2, m3, m4, m5, e5, e6.1, e6.2, s_CheckPairRefusal_l0_M] <;> (repeat' apply And.intro) <;> first | rfl | exact ⟨_, rfl⟩ | simp [lst]
    · intro ex8 s8 hX8
      rcases r8_ with q8_ | q8_
      · unfold s_CheckPairRefusal_l0_X at hX8
        dsimp only at hX8 h
        obtain ⟨rfl, n8_0, n8_1⟩ := hX8
        obtain rfl := Option.some.inj h
        simp (maxDischargeDepth := 9) only [↓xpre, xpost, xlst, xcore, yset, rg0, ↓reduceIte, Nat.reduceEqDiff, Nat.reduceLT, Nat.reduceLeDiff, Nat.reduceAdd, Nat.reduceMul, Nat.reduceMod, Nat.reduceSub, Nat.reduceBEq, Int.reduceLE, Int.reduceLT, Int.reduceEq, Int.reduceSub, Int.reduceAdd, Int.reduceToNat, Int.reduceNeg, e5, e6.1, e6.2, n8_0, n8_1, s_CheckPairRefusal_l1_M, s_CheckPairRefusal_l1_X, sxN, sxE, sxR] <;> (repeat' apply And.intro) <;> first | rfl | exact ⟨_, rfl⟩ | simp [lst]
      · unfold s_CheckPairRefusal_l0_X at hX8
        dsimp only at hX8 h
        obtain ⟨rfl, n8_0, n8_1, n8_2, n8_3, n8_4, n8_5⟩ := hX8
        obtain rfl := Option.some.inj h
        simp (maxDischargeDepth := 9) only [↓xpre, xpost, xlst, xcore, yset, rg0, ↓reduceIte, Nat.reduceEqDiff, Nat.reduceLT, Nat.reduceLeDiff, Nat.reduceAdd, Nat.reduceMul, Nat.reduceMod, Nat.reduceSub, Nat.reduceBEq, Int.reduceLE, Int.reduceLT, Int.reduceEq, Int.reduceSub, Int.reduceAdd, Int.reduceToNat, Int.reduceNeg, e5, e6.1, e6.2, n8_0, n8_1, n8_2, n8_3, n8_4, n8_5, s_CheckPairRefusal_l1_M, s_CheckPairRefusal_l1_X, sxN, sxE, sxR] <;> (repeat' apply And.intro) <;> first | rfl | exact ⟨_, rfl⟩ | simp [lst]
  · rw [if_neg e5] at h
    obtain rfl := Option.some.inj h
    simp (maxDischargeDepth := 9) only [↓xpre, xpost, xlst, xcore, yset, rg0, ↓reduceIte, Nat.reduceEqDiff, Nat.reduceLT, Nat.reduceLeDiff, Nat.reduceAdd, Nat.reduceMul, Nat.reduceMod, Nat.reduceSub, Nat.reduceBEq, Int.reduceLE, Int.reduceLT, Int.reduceEq, Int.reduceSub, Int.reduceAdd, Int.reduceToNat, Int.reduceNeg, m0, m1, m2, m3, m4, m5, e5, s_CheckPairRefusal_l1_M, s_CheckPairRefusal_l1_X, sxN, sxE, sxR] <;> (repeat' apply And.intro) <;> first | rfl | exact ⟨_, rfl⟩ | simp [lst]
theorem s_CheckPairRefusal_call (t0_Labels : Int) (t0_Degree : Int) (t0_Nodes : List (List Int)) (t0_Edges : List (List Int)) (t1_ : List (List Int)) {r : Bool × Bool} (h : s_CheckPairRefusal t0_Labels t0_Degree t0_Nodes t0_Edges t1_ = some r) : Y.call 31 [D.agg [D.int .i64 t0_Labels, D.int .i64 t0_Degree, D.sl 32 (lst (fun x => D.sl 3 (lst (D.int .i64) x)) t0_Nodes), D.sl 32 (lst (fun x => D.sl 3 (lst (D.int .i64) x)) t0_Edges)], D.sl 32 (lst (fun x => D.sl 3 (lst (D.int .i64) x)) t1_)] [] = some (D.tup [D.bool r.1, D.bool r.2], []) := by
  refine c31 ?_ rfl
  unfold k31
  unfold s_CheckPairRefusal at h
  obtain ⟨e1, h⟩ := ckS h
  obtain ⟨e2, h⟩ := ckS h
  have c3 := s_prGood_cl t0_Labels t0_Degree t0_Nodes t0_Edges e1 e2
  by_cases e4 : (isProb t0_Labels t0_Degree t0_Nodes t0_Edges) = true
  · rw [if_pos e4] at h
    obtain ⟨r6_, hl6, h⟩ := bindS h
    try dsimp only at h
    simp (maxDischargeDepth := 9) only [↓xpre, xpost, xlst, xcore, yset, rg0, ↓reduceIte, Nat.reduceEqDiff, Nat.reduceLT, Nat.reduceLeDiff, Nat.reduceAdd, Nat.reduceMul, Nat.reduceMod, Nat.reduceSub, Nat.reduceBEq, Int.reduceLE, Int.reduceLT, Int.reduceEq, Int.reduceSub, Int.reduceAdd, Int.reduceToNat, Int.reduceNeg, e1, e2, c3, e4]
    refine wd_mono (s_CheckPairRefusal_l1_wp t0_Labels t0_Degree t0_Nodes t0_Edges t1_ hl6 ?_) ?_
    · simp (maxDischargeDepth := 9) only [↓xpre, xpost, xlst, xcore, yset, rg0, ↓reduceIte, Nat.reduceEqDiff, Nat.reduceLT, Nat.reduceLeDiff, Nat.reduceAdd, Nat.reduceMul, Nat.reduceMod, Nat.reduceSub, Nat.reduceBEq, Int.reduceLE, Int.reduceLT, Int.reduceEq, Int.reduceSub, Int.reduceAdd, Int.reduceToNat, Int.reduceNeg, e1, e2, c3, e4, s_CheckPairRefusal_l1_M] <;> (repeat' apply And.intro) <;> first | rfl | exact ⟨_, rfl⟩ | simp [lst]
    · intro ex6 s6 hX6
      rcases r6_ with q6_ | q6_
      · unfold s_CheckPairRefusal_l1_X at hX6
        dsimp only at hX6 h
        obtain ⟨rfl, n6_0, n6_1⟩ := hX6
        obtain rfl := Option.some.inj h
        simp (maxDischargeDepth := 9) only [↓xpre, xpost, xlst, xcore, yset, rg0, ↓reduceIte, Nat.reduceEqDiff, Nat.reduceLT, Nat.reduceLeDiff, Nat.reduceAdd, Nat.reduceMul, Nat.reduceMod, Nat.reduceSub, Nat.reduceBEq, Int.reduceLE, Int.reduceLT, Int.reduceEq, Int.reduceSub, Int.reduceAdd, Int.reduceToNat, Int.reduceNeg, e1, e2, c3, e4, n6_0, n6_1] <;> (repeat' apply And.intro) <;> first | rfl | exact ⟨_, rfl⟩ | simp [lst]
      · unfold s_CheckPairRefusal_l1_X at hX6
        dsimp only at hX6 h
        obtain ⟨rfl, n6_0, n6_1⟩ := hX6
        obtain rfl := Option.some.inj h
        simp (maxDischargeDepth := 9) only [↓xpre, xpost, xlst, xcore, yset, rg0, ↓reduceIte, Nat.reduceEqDiff, Nat.reduceLT, Nat.reduceLeDiff, Nat.reduceAdd, Nat.reduceMul, Nat.reduceMod, Nat.reduceSub, Nat.reduceBEq, Int.reduceLE, Int.reduceLT, Int.reduceEq, Int.reduceSub, Int.reduceAdd, Int.reduceToNat, Int.reduceNeg, e1, e2, c3, e4, n6_0, n6_1] <;> (repeat' apply And.intro) <;> first | rfl | exact ⟨_, rfl⟩ | simp [lst]
  · rw [if_neg e4] at h
    have e4f : (isProb t0_Labels t0_Degree t0_Nodes t0_Edges) = false := Bool.eq_false_iff.mpr e4
    obtain rfl := Option.some.inj h
    simp (maxDischargeDepth := 9) only [↓xpre, xpost, xlst, xcore, yset, rg0, ↓reduceIte, Nat.reduceEqDiff, Nat.reduceLT, Nat.reduceLeDiff, Nat.reduceAdd, Nat.reduceMul, Nat.reduceMod, Nat.reduceSub, Nat.reduceBEq, Int.reduceLE, Int.reduceLT, Int.reduceEq, Int.reduceSub, Int.reduceAdd, Int.reduceToNat, Int.reduceNeg, e1, e2, c3, e4f] <;> (repeat' apply And.intro) <;> first | rfl | exact ⟨_, rfl⟩ | simp [lst]


end Go.Proofs.Ytjlphfbpaejicaa
