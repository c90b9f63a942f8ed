/- Refusals made, lifted. Conditions: none. -/
import Derived.Test.YtjlphfbpaejicaaL6
import Derived.Test.YtjlphfbpaejicaaZep
namespace Go.Proofs.Ytjlphfbpaejicaa
open Go Dv
set_option linter.unusedSimpArgs false
set_option linter.unusedVariables false
set_option maxRecDepth 100000
set_option maxHeartbeats 4000000

noncomputable def i_RefusalOfZero_l0_S (p_Labels : Int) (p_Degree : Int) (p_Nodes : List (List Int)) (p_Edges : List (List Int)) (out : List (List Int)) (t16_ : Int) (t22_ : Int) : Option ((Int) ⊕ ((List (List Int)))) :=
  if t22_ < ((p_Nodes.getD t16_.toNat default).length : Int) then
    ck (0 ≤ t22_) <|
    ck (0 ≤ IntKind.i64.wrap (t22_ + 1)) <|
    ck (t22_.toNat ≤ (IntKind.i64.wrap (t22_ + 1)).toNat) <|
    ck ((IntKind.i64.wrap (t22_ + 1)).toNat ≤ (p_Nodes.getD t16_.toNat default).length) <|
    ck (t22_.toNat ≤ (p_Nodes.getD t16_.toNat default).length) <|
    (i_badPair p_Labels p_Degree p_Nodes p_Edges (((p_Nodes.getD t16_.toNat default).take ((IntKind.i64.wrap (t22_ + 1)).toNat)).drop t22_.toNat) (((p_Nodes.getD t16_.toNat default).take ((p_Nodes.getD t16_.toNat default).length)).drop t22_.toNat)).bind fun r13_ =>
    if r13_.2 = true then
      ck (out.length + 1 < 1099511627776) <|
      some (Sum.inr (out ++ [r13_.1]))
    else
      some (Sum.inl (IntKind.i64.wrap (t22_ + 1)))
  else
    some (Sum.inr out)
noncomputable def i_RefusalOfZero_l0 (p_Labels : Int) (p_Degree : Int) (p_Nodes : List (List Int)) (p_Edges : List (List Int)) (out : List (List Int)) (t16_ : Int) (v : Int) : Option ((List (List Int))) := itO (fun v => i_RefusalOfZero_l0_S p_Labels p_Degree p_Nodes p_Edges out t16_ v) v
noncomputable def i_RefusalOfZero_l1_S (p_Labels : Int) (p_Degree : Int) (p_Nodes : List (List Int)) (p_Edges : List (List Int)) (out : List (List Int)) (t16_ : Int) : Option (((List (List Int)) × Int) ⊕ ((List (List Int)))) :=
  if t16_ < (p_Nodes.length : Int) then
    ck (0 ≤ t16_ ∧ t16_.toNat < p_Nodes.length) <|
    (i_RefusalOfZero_l0 p_Labels p_Degree p_Nodes p_Edges out t16_ 0).bind fun r8_ =>
    some (Sum.inl (r8_, IntKind.i64.wrap (t16_ + 1)))
  else
    some (Sum.inr out)
noncomputable def i_RefusalOfZero_l1 (p_Labels : Int) (p_Degree : Int) (p_Nodes : List (List Int)) (p_Edges : List (List Int)) (v : (List (List Int)) × Int) : Option ((List (List Int))) := itO (fun v => i_RefusalOfZero_l1_S p_Labels p_Degree p_Nodes p_Edges v.1 v.2) v
noncomputable def i_RefusalOfZero (p_Labels : Int) (p_Degree : Int) (p_Nodes : List (List Int)) (p_Edges : List (List Int)) : Option ((List (List Int)) × Bool) :=
  ck (Short p_Nodes) <|
  ck (Short p_Edges) <|
  if (isProb p_Labels p_Degree p_Nodes p_Edges) = true then
    (i_RefusalOfZero_l1 p_Labels p_Degree p_Nodes p_Edges ([], 0)).bind fun r6_ =>
    if (r6_.length : Int) < (p_Nodes.length : Int) then
      some ([], false)
    else
      some (r6_, true)
  else
    some ([], false)
/-- impl.RefusalOfZero -/
def k51_l0b : SC :=
  .seq
    (.ops [
      ⟨(some 23), (Op.binOp BinOp.lss 3 (Operand.tmp 22) (Operand.tmp 21) 3), 0, none⟩])
    (.seq
      (.cond (Operand.tmp 23)
        .skip
        (.exit 2))
      (.seq
        (.block 3
          (.seq
            (.ops [
              ⟨(some 24), (Op.move (Operand.tmp 22)), 3, none⟩,
              ⟨(some 7), (Op.assign (Operand.tmp 24)), 3, none⟩])
            (.seq
              (.draws [
                (⟨[26, 1, 1], [26, 27, 28, 29, 30, 31, 32, 33, 34, 35, 25, 35, 36, 37, 8, 36, 35, 9, 37], [26]⟩, ⟨(some 26), (Op.load 28 (Operand.tmp 1)), 28, none⟩),
                (⟨[27, 6, 6], [26, 27, 28, 29, 30, 31, 32, 33, 34, 35, 25, 35, 36, 37, 8, 36, 35, 9, 37], [27]⟩, ⟨(some 27), (Op.move (Operand.tmp 6)), 32, none⟩),
                (⟨[28, 7, 7], [26, 27, 28, 29, 30, 31, 32, 33, 34, 35, 25, 35, 36, 37, 8, 36, 35, 9, 37], [28]⟩, ⟨(some 28), (Op.move (Operand.tmp 7)), 3, none⟩),
                (⟨[29, 7, 7], [26, 27, 28, 29, 30, 31, 32, 33, 34, 35, 25, 35, 36, 37, 8, 36, 35, 9, 37], [29]⟩, ⟨(some 29), (Op.move (Operand.tmp 7)), 3, none⟩),
                (⟨[30, 29, 7], [26, 27, 28, 29, 30, 31, 32, 33, 34, 35, 25, 35, 36, 37, 8, 36, 35, 9, 37], [30]⟩, ⟨(some 30), (Op.binOp BinOp.add 3 (Operand.tmp 29) (Operand.const (Value.int IntKind.i64 1)) 3), 3, none⟩),
                (⟨[31, 27, 28, 30, 6, 7, 30], [26, 27, 28, 29, 30, 31, 32, 33, 34, 35, 25, 35, 36, 37, 8, 36, 35, 9, 37], [31]⟩, ⟨(some 31), (Op.slice 32 (Operand.tmp 27) (some (Operand.tmp 28)) (some (Operand.tmp 30)) none), 32, none⟩),
                (⟨[32, 6, 6], [26, 27, 28, 29, 30, 31, 32, 33, 34, 35, 25, 35, 36, 37, 8, 36, 35, 9, 37], [32]⟩, ⟨(some 32), (Op.move (Operand.tmp 6)), 32, none⟩),
                (⟨[33, 7, 7], [26, 27, 28, 29, 30, 31, 32, 33, 34, 35, 25, 35, 36, 37, 8, 36, 35, 9, 37], [33]⟩, ⟨(some 33), (Op.move (Operand.tmp 7)), 3, none⟩),
                (⟨[34, 32, 33, 6, 7], [26, 27, 28, 29, 30, 31, 32, 33, 34, 35, 25, 35, 36, 37, 8, 36, 35, 9, 37], [34]⟩, ⟨(some 34), (Op.slice 32 (Operand.tmp 32) (some (Operand.tmp 33)) none none), 32, none⟩),
                (⟨[35, 26, 31, 34, 1, 6, 6], [26, 27, 28, 29, 30, 31, 32, 33, 34, 35, 25, 35, 36, 37, 8, 36, 35, 9, 37], [35]⟩, ⟨(some 35), (Op.call { callee := (Callee.value (Operand.func 79)), args := #[(Operand.tmp 26), (Operand.tmp 31), (Operand.tmp 34)], argTypes := #[28, 32, 32] }), 33, none⟩),
                (⟨[25, 35, 35], [26, 27, 28, 29, 30, 31, 32, 33, 34, 35, 25, 35, 36, 37, 8, 36, 35, 9, 37], [25, 35]⟩, ⟨(some 25), (Op.move (Operand.tmp 35)), 33, none⟩),
                (⟨[36, 25], [26, 27, 28, 29, 30, 31, 32, 33, 34, 35, 25, 35, 36, 37, 8, 36, 35, 9, 37], [36]⟩, ⟨(some 36), (Op.extract (Operand.tmp 25) 0), 32, none⟩),
                (⟨[37, 25], [26, 27, 28, 29, 30, 31, 32, 33, 34, 35, 25, 35, 36, 37, 8, 36, 35, 9, 37], [37]⟩, ⟨(some 37), (Op.extract (Operand.tmp 25) 1), 4, none⟩),
                (⟨[8, 36, 35], [26, 27, 28, 29, 30, 31, 32, 33, 34, 35, 25, 35, 36, 37, 8, 36, 35, 9, 37], [8, 36, 35]⟩, ⟨(some 8), (Op.assign (Operand.tmp 36)), 32, none⟩),
                (⟨[9, 37], [26, 27, 28, 29, 30, 31, 32, 33, 34, 35, 25, 35, 36, 37, 8, 36, 35, 9, 37], [9, 37]⟩, ⟨(some 9), (Op.assign (Operand.tmp 37)), 4, none⟩)])
              (.seq
                (.ops [
                  ⟨(some 38), (Op.move (Operand.tmp 9)), 4, none⟩])
                (.cond (Operand.tmp 38)
                  (.seq
                    (.ops [
                      ⟨(some 39), (Op.move (Operand.tmp 4)), 22, none⟩,
                      ⟨(some 40), (Op.move (Operand.tmp 8)), 32, none⟩,
                      ⟨(some 41), (Op.buildSlice 22 1 #[(0, (Operand.tmp 40))]), 22, none⟩,
                      ⟨(some 42), (Op.call { callee := (Callee.builtin Builtin.append), args := #[(Operand.tmp 39), (Operand.tmp 41)], argTypes := #[22, 22] }), 22, none⟩,
                      ⟨(some 4), (Op.assign (Operand.tmp 42)), 22, none⟩])
                    (.exit 2))
                  .skip)))))
        (.ops [
          ⟨(some 43), (Op.binOp BinOp.add 3 (Operand.tmp 22) (Operand.const (Value.int IntKind.i64 1)) 3), 3, none⟩,
          ⟨(some 22), (Op.move (Operand.tmp 43)), 3, none⟩])))
def k51_l0 : SC := .loop k51_l0b
def k51_l1b : SC :=
  .seq
    (.ops [
      ⟨(some 17), (Op.binOp BinOp.lss 3 (Operand.tmp 16) (Operand.tmp 15) 3), 0, none⟩])
    (.seq
      (.cond (Operand.tmp 17)
        .skip
        (.exit 0))
      (.seq
        (.block 1
          (.seq
            (.ops [
              ⟨(some 18), (Op.indexAddr 22 (Operand.tmp 14) (Operand.tmp 16)), 0, none⟩,
              ⟨(some 19), (Op.load 32 (Operand.tmp 18)), 32, none⟩,
              ⟨(some 6), (Op.assign (Operand.tmp 19)), 32, none⟩])
            (.seq
              (.ops [
                ⟨(some 20), (Op.move (Operand.tmp 6)), 32, none⟩,
                ⟨(some 21), (Op.call { callee := (Callee.builtin Builtin.len), args := #[(Operand.tmp 20)], argTypes := #[32] }), 3, none⟩,
                ⟨(some 22), (Op.move (Operand.const (Value.int IntKind.i64 0))), 3, none⟩])
              (.block 2
                k51_l0))))
        (.ops [
          ⟨(some 44), (Op.binOp BinOp.add 3 (Operand.tmp 16) (Operand.const (Value.int IntKind.i64 1)) 3), 3, none⟩,
          ⟨(some 16), (Op.move (Operand.tmp 44)), 3, none⟩])))
def k51_l1 : SC := .loop k51_l1b
def k51 : SC :=
  .seq
    (.ops [
      ⟨(some 1), (Op.box 28 (Operand.tmp 0)), 0, none⟩,
      ⟨(some 2), (Op.assign (Operand.const (Value.slice none 0 0))), 22, none⟩,
      ⟨(some 3), (Op.assign (Operand.const (Value.bool false))), 4, none⟩])
    (.seq
      (.seq
        (.ops [
          ⟨(some 10), (Op.load 28 (Operand.tmp 1)), 28, none⟩,
          ⟨(some 11), (Op.call { callee := (Callee.value (Operand.func 58)), args := #[(Operand.tmp 10)], argTypes := #[28] }), 4, none⟩,
          ⟨(some 12), (Op.unOp UnOp.not 4 (Operand.tmp 11)), 4, none⟩])
        (.cond (Operand.tmp 12)
          (.seq
            (.ops [
              ⟨(some 2), (Op.assign (Operand.const (Value.slice none 0 0))), 22, none⟩,
              ⟨(some 3), (Op.assign (Operand.const (Value.bool false))), 4, none⟩])
            .ret)
          .skip))
      (.seq
        (.ops [
          ⟨(some 4), (Op.assign (Operand.const (Value.slice none 0 0))), 22, none⟩])
        (.seq
          (.seq
            (.ops [
              ⟨(some 13), (Op.fieldAddr 28 (Operand.tmp 1) 2), 0, none⟩,
              ⟨(some 14), (Op.load 22 (Operand.tmp 13)), 22, none⟩,
              ⟨(some 15), (Op.call { callee := (Callee.builtin Builtin.len), args := #[(Operand.tmp 14)], argTypes := #[22] }), 3, none⟩,
              ⟨(some 16), (Op.move (Operand.const (Value.int IntKind.i64 0))), 3, none⟩])
            (.block 0
              k51_l1))
          (.seq
            (.seq
              (.ops [
                ⟨(some 45), (Op.move (Operand.tmp 4)), 22, none⟩,
                ⟨(some 46), (Op.call { callee := (Callee.builtin Builtin.len), args := #[(Operand.tmp 45)], argTypes := #[22] }), 3, none⟩,
                ⟨(some 47), (Op.fieldAddr 28 (Operand.tmp 1) 2), 0, none⟩,
                ⟨(some 48), (Op.load 22 (Operand.tmp 47)), 22, none⟩,
                ⟨(some 49), (Op.call { callee := (Callee.builtin Builtin.len), args := #[(Operand.tmp 48)], argTypes := #[22] }), 3, none⟩,
                ⟨(some 50), (Op.binOp BinOp.lss 3 (Operand.tmp 46) (Operand.tmp 49) 3), 4, none⟩])
              (.cond (Operand.tmp 50)
                (.seq
                  (.ops [
                    ⟨(some 2), (Op.assign (Operand.const (Value.slice none 0 0))), 22, none⟩,
                    ⟨(some 3), (Op.assign (Operand.const (Value.bool false))), 4, none⟩])
                  .ret)
                .skip))
            (.seq
              (.ops [
                ⟨(some 51), (Op.move (Operand.tmp 4)), 22, none⟩,
                ⟨(some 2), (Op.assign (Operand.tmp 51)), 22, none⟩,
                ⟨(some 3), (Op.assign (Operand.const (Value.bool true))), 4, none⟩])
              .ret)))))
theorem slim51 : Try.f51.body.map (slim lends) = some k51 := by kernel_rfl
theorem ok51 : fnOk Try.f51 1 = true := by kernel_rfl
theorem c51 {a l : List D} {r : D × List D} (h : wpD Y.env k51 (fin tys l.length [ResultVar.tmp 2, ResultVar.tmp 3] r) (entry a l)) (ha : a.length = 1) : Y.call 51 a l = some r :=
  call_slim (Y := Y) rfl Try.func51 (ha ▸ ok51) slim51 h
def i_RefusalOfZero_l0_M (p_Labels : Int) (p_Degree : Int) (p_Nodes : List (List Int)) (p_Edges : List (List Int)) (out : List (List Int)) (t16_ : Int) (t22_ : Int) (s : St) : Prop := s.v 1 = D.box [D.int .i64 p_Labels, D.int .i64 p_Degree, D.sl 32 (lst (fun x => D.sl 3 (lst (D.int .i64) x)) p_Nodes), D.sl 32 (lst (fun x => D.sl 3 (lst (D.int .i64) x)) p_Edges)] ∧ s.v 4 = D.own 32 (lst (fun x => D.own 3 (lst (D.int .i64) x)) out) ∧ s.v 6 = D.sl 3 (lst (D.int .i64) (p_Nodes.getD t16_.toNat default)) ∧ s.v 14 = D.sl 32 (lst (fun x => D.sl 3 (lst (D.int .i64) x)) p_Nodes) ∧ s.v 15 = D.int .i64 (p_Nodes.length : Int) ∧ s.v 16 = D.int .i64 t16_ ∧ s.v 21 = D.int .i64 ((p_Nodes.getD t16_.toNat default).length : Int) ∧ s.v 22 = D.int .i64 t22_
def i_RefusalOfZero_l0_X (p_Labels : Int) (p_Degree : Int) (p_Nodes : List (List Int)) (p_Edges : List (List Int)) (out : List (List Int)) (t16_ : Int) (r : (List (List Int))) (ex : Ex) (s : St) : Prop := ex = .exit 2 ∧ s.v 1 = D.box [D.int .i64 p_Labels, D.int .i64 p_Degree, D.sl 32 (lst (fun x => D.sl 3 (lst (D.int .i64) x)) p_Nodes), D.sl 32 (lst (fun x => D.sl 3 (lst (D.int .i64) x)) p_Edges)] ∧ s.v 4 = D.own 32 (lst (fun x => D.own 3 (lst (D.int .i64) x)) r) ∧ s.v 14 = D.sl 32 (lst (fun x => D.sl 3 (lst (D.int .i64) x)) p_Nodes) ∧ s.v 15 = D.int .i64 (p_Nodes.length : Int) ∧ s.v 16 = D.int .i64 t16_
theorem i_RefusalOfZero_l0_wp (p_Labels : Int) (p_Degree : Int) (p_Nodes : List (List Int)) (p_Edges : List (List Int)) (out : List (List Int)) (t16_ : Int) {v : Int} {s : St} {r : (List (List Int))} (h : i_RefusalOfZero_l0 p_Labels p_Degree p_Nodes p_Edges out t16_ v = some r) (hM : i_RefusalOfZero_l0_M p_Labels p_Degree p_Nodes p_Edges out t16_ v s) : wpD Y.env k51_l0 (i_RefusalOfZero_l0_X p_Labels p_Degree p_Nodes p_Edges out t16_ r) s := by
  unfold i_RefusalOfZero_l0 at h
  refine wd_itO (c := k51_l0b) (fun v => i_RefusalOfZero_l0_S p_Labels p_Degree p_Nodes p_Edges out t16_ v) (fun v s => i_RefusalOfZero_l0_M p_Labels p_Degree p_Nodes p_Edges out t16_ v s) (i_RefusalOfZero_l0_X p_Labels p_Degree p_Nodes p_Edges out t16_) ?_ h hM
  clear h hM s v r
  intro t22_ s o hM h
  unfold i_RefusalOfZero_l0_S at h
  unfold i_RefusalOfZero_l0_M at hM
  obtain ⟨m0, m1, m2, m3, m4, m5, m6, m7⟩ := hM
  unfold k51_l0b
  by_cases e7 : t22_ < ((p_Nodes.getD t16_.toNat default).length : Int)
  · rw [if_pos e7] at h
    obtain ⟨e8, h⟩ := ckS h
    obtain ⟨e9, h⟩ := ckS h
    obtain ⟨e10, h⟩ := ckS h
    obtain ⟨e11, h⟩ := ckS h
    obtain ⟨e12, h⟩ := ckS h
    obtain ⟨r13_, hl13, h⟩ := bindS h
    try dsimp only at h
    have c13 := i_badPair_call p_Labels p_Degree p_Nodes p_Edges (((p_Nodes.getD t16_.toNat default).take ((IntKind.i64.wrap (t22_ + 1)).toNat)).drop t22_.toNat) (((p_Nodes.getD t16_.toNat default).take ((p_Nodes.getD t16_.toNat default).length)).drop t22_.toNat) hl13
    by_cases e14 : r13_.2 = true
    · rw [if_pos e14] at h
      obtain ⟨e15, h⟩ := ckS h
      obtain rfl := Option.some.inj h
      simp (maxDischargeDepth := 9) only [↓xpre, xpost, xlst, xcore, yset, rg0, ↓reduceIte, Nat.reduceEqDiff, Nat.reduceLT, Nat.reduceLeDiff, Nat.reduceAdd, Nat.reduceMul, Nat.reduceMod, Nat.reduceSub, Nat.reduceBEq, Int.reduceLE, Int.reduceLT, Int.reduceEq, Int.reduceSub, Int.reduceAdd, Int.reduceToNat, Int.reduceNeg, m0, m1, m2, m3, m4, m5, m6, m7, e7, e8, e9, e10, e11, e12, c13, e14, e15, i_RefusalOfZero_l0_M, i_RefusalOfZero_l0_X, sxN, sxE, sxR] <;> (repeat' apply And.intro) <;> first | rfl | exact ⟨_, rfl⟩ | simp [lst]
    · rw [if_neg e14] at h
      have e14f : r13_.2 = false := Bool.eq_false_iff.mpr e14
      obtain rfl := Option.some.inj h
      simp (maxDischargeDepth := 9) only [↓xpre, xpost, xlst, xcore, yset, rg0, ↓reduceIte, Nat.reduceEqDiff, Nat.reduceLT, Nat.reduceLeDiff, Nat.reduceAdd, Nat.reduceMul, Nat.reduceMod, Nat.reduceSub, Nat.reduceBEq, Int.reduceLE, Int.reduceLT, Int.reduceEq, Int.reduceSub, Int.reduceAdd, Int.reduceToNat, Int.reduceNeg, m0, m1, m2, m3, m4, m5, m6, m7, e7, e8, e9, e10, e11, e12, c13, e14f, i_RefusalOfZero_l0_M, i_RefusalOfZero_l0_X, sxN, sxE, sxR] <;> (repeat' apply And.intro) <;> first | rfl | exact ⟨_, rfl⟩ | simp [lst]
  · rw [if_neg e7] at h
    obtain rfl := Option.some.inj h
    simp (maxDischargeDepth := 9) only [↓xpre, xpost, xlst, xcore, yset, rg0, ↓reduceIte, Nat.reduceEqDiff, Nat.reduceLT, Nat.reduceLeDiff, Nat.reduceAdd, Nat.reduceMul, Nat.reduceMod, Nat.reduceSub, Nat.reduceBEq, Int.reduceLE, Int.reduceLT, Int.reduceEq, Int.reduceSub, Int.reduceAdd, Int.reduceToNat, Int.reduceNeg, m0, m1, m2, m3, m4, m5, m6, m7, e7, i_RefusalOfZero_l0_M, i_RefusalOfZero_l0_X, sxN, sxE, sxR] <;> (repeat' apply And.intro) <;> first | rfl | exact ⟨_, rfl⟩ | simp [lst]
def i_RefusalOfZero_l1_M (p_Labels : Int) (p_Degree : Int) (p_Nodes : List (List Int)) (p_Edges : List (List Int)) (out : List (List Int)) (t16_ : Int) (s : St) : Prop := s.v 1 = D.box [D.int .i64 p_Labels, D.int .i64 p_Degree, D.sl 32 (lst (fun x => D.sl 3 (lst (D.int .i64) x)) p_Nodes), D.sl 32 (lst (fun x => D.sl 3 (lst (D.int .i64) x)) p_Edges)] ∧ s.v 4 = D.own 32 (lst (fun x => D.own 3 (lst (D.int .i64) x)) out) ∧ s.v 14 = D.sl 32 (lst (fun x => D.sl 3 (lst (D.int .i64) x)) p_Nodes) ∧ s.v 15 = D.int .i64 (p_Nodes.length : Int) ∧ s.v 16 = D.int .i64 t16_
def i_RefusalOfZero_l1_X (p_Labels : Int) (p_Degree : Int) (p_Nodes : List (List Int)) (p_Edges : List (List Int)) (r : (List (List Int))) (ex : Ex) (s : St) : Prop := ex = .exit 0 ∧ s.v 1 = D.box [D.int .i64 p_Labels, D.int .i64 p_Degree, D.sl 32 (lst (fun x => D.sl 3 (lst (D.int .i64) x)) p_Nodes), D.sl 32 (lst (fun x => D.sl 3 (lst (D.int .i64) x)) p_Edges)] ∧ s.v 4 = D.own 32 (lst (fun x => D.own 3 (lst (D.int .i64) x)) r)
theorem i_RefusalOfZero_l1_wp (p_Labels : Int) (p_Degree : Int) (p_Nodes : List (List Int)) (p_Edges : List (List Int)) {v : (List (List Int)) × Int} {s : St} {r : (List (List Int))} (h : i_RefusalOfZero_l1 p_Labels p_Degree p_Nodes p_Edges v = some r) (hM : i_RefusalOfZero_l1_M p_Labels p_Degree p_Nodes p_Edges v.1 v.2 s) : wpD Y.env k51_l1 (i_RefusalOfZero_l1_X p_Labels p_Degree p_Nodes p_Edges r) s := by
  unfold i_RefusalOfZero_l1 at h
  refine wd_itO (c := k51_l1b) (fun v => i_RefusalOfZero_l1_S p_Labels p_Degree p_Nodes p_Edges v.1 v.2) (fun v s => i_RefusalOfZero_l1_M p_Labels p_Degree p_Nodes p_Edges v.1 v.2 s) (i_RefusalOfZero_l1_X p_Labels p_Degree p_Nodes p_Edges) ?_ h hM
  clear h hM s v r
  intro v s o hM h
  obtain ⟨out, t16_⟩ := v
  dsimp only at h hM
  unfold i_RefusalOfZero_l1_S at h
  unfold i_RefusalOfZero_l1_M at hM
  obtain ⟨m0, m1, m2, m3, m4⟩ := hM
  unfold k51_l1b
  by_cases e5 : t16_ < (p_Nodes.length : Int)
  · rw [if_pos e5] at h
    obtain ⟨e6, h⟩ := ckS h
    obtain ⟨r8_, hl8, h⟩ := bindS h
    try dsimp only at h
    simp (maxDischargeDepth := 9) only [↓xpre, xpost, xlst, xcore, yset, rg0, ↓reduceIte, Nat.reduceEqDiff, Nat.reduceLT, Nat.reduceLeDiff, Nat.reduceAdd, Nat.reduceMul, Nat.reduceMod, Nat.reduceSub, Nat.reduceBEq, Int.reduceLE, Int.reduceLT, Int.reduceEq, Int.reduceSub, Int.reduceAdd, Int.reduceToNat, Int.reduceNeg, m0, m1, m2, m3, m4, e5, e6.1, e6.2]
    refine wd_mono (i_RefusalOfZero_l0_wp p_Labels p_Degree p_Nodes p_Edges out t16_ hl8 ?_) ?_
    · simp (maxDischargeDepth := 9) only [↓xpre, xpost, xlst, xcore, yset, rg0, ↓reduceIte, Nat.reduceEqDiff, Nat.reduceLT, Nat.reduceLeDiff, Nat.reduceAdd, Nat.reduceMul, Nat.reduceMod, Nat.reduceSub, Nat.reduceBEq, Int.reduceLE, Int.reduceLT, Int.reduceEq, Int.reduceSub, Int.reduceAdd, Int.reduceToNat, Int.reduceNeg, m0, m1, m2, m3, m4, e5, e6.1, e6.2, i_RefusalOfZero_l0_M] <;> (repeat' apply And.intro) <;> first | rfl | exact ⟨_, rfl⟩ | simp [lst]
    · intro ex8 s8 hX8
      unfold i_RefusalOfZero_l0_X at hX8
      obtain ⟨rfl, n8_0, n8_1, n8_2, n8_3, n8_4⟩ := hX8
      obtain rfl := Option.some.inj h
      simp (maxDischargeDepth := 9) only [↓xpre, xpost, xlst, xcore, yset, rg0, ↓reduceIte, Nat.reduceEqDiff, Nat.reduceLT, Nat.reduceLeDiff, Nat.reduceAdd, Nat.reduceMul, Nat.reduceMod, Nat.reduceSub, Nat.reduceBEq, Int.reduceLE, Int.reduceLT, Int.reduceEq, Int.reduceSub, Int.reduceAdd, Int.reduceToNat, Int.reduceNeg, e5, e6.1, e6.2, n8_0, n8_1, n8_2, n8_3, n8_4, i_RefusalOfZero_l1_M, i_RefusalOfZero_l1_X, sxN, sxE, sxR] <;> (repeat' apply And.intro) <;> first | rfl | exact ⟨_, rfl⟩ | simp [lst]
  · rw [if_neg e5] at h
    obtain rfl := Option.some.inj h
    simp (maxDischargeDepth := 9) only [↓xpre, xpost, xlst, xcore, yset, rg0, ↓reduceIte, Nat.reduceEqDiff, Nat.reduceLT, Nat.reduceLeDiff, Nat.reduceAdd, Nat.reduceMul, Nat.reduceMod, Nat.reduceSub, Nat.reduceBEq, Int.reduceLE, Int.reduceLT, Int.reduceEq, Int.reduceSub, Int.reduceAdd, Int.reduceToNat, Int.reduceNeg, m0, m1, m2, m3, m4, e5, i_RefusalOfZero_l1_M, i_RefusalOfZero_l1_X, sxN, sxE, sxR] <;> (repeat' apply And.intro) <;> first | rfl | exact ⟨_, rfl⟩ | simp [lst]
theorem i_RefusalOfZero_call (p_Labels : Int) (p_Degree : Int) (p_Nodes : List (List Int)) (p_Edges : List (List Int)) {r : (List (List Int)) × Bool} (h : i_RefusalOfZero p_Labels p_Degree p_Nodes p_Edges = some r) : Y.call 51 [D.agg [D.int .i64 p_Labels, D.int .i64 p_Degree, D.sl 32 (lst (fun x => D.sl 3 (lst (D.int .i64) x)) p_Nodes), D.sl 32 (lst (fun x => D.sl 3 (lst (D.int .i64) x)) p_Edges)]] [] = some (D.tup [D.own 32 (lst (fun x => D.own 3 (lst (D.int .i64) x)) r.1), D.bool r.2], []) := by
  refine c51 ?_ rfl
  unfold k51
  unfold i_RefusalOfZero at h
  obtain ⟨e1, h⟩ := ckS h
  obtain ⟨e2, h⟩ := ckS h
  have c3 := i_IsProblem_cl p_Labels p_Degree p_Nodes p_Edges e1 e2
  by_cases e4 : (isProb p_Labels p_Degree p_Nodes p_Edges) = true
  · rw [if_pos e4] at h
    obtain ⟨r6_, hl6, h⟩ := bindS h
    try dsimp only at h
    simp (maxDischargeDepth := 9) only [↓xpre, xpost, xlst, xcore, yset, rg0, ↓reduceIte, Nat.reduceEqDiff, Nat.reduceLT, Nat.reduceLeDiff, Nat.reduceAdd, Nat.reduceMul, Nat.reduceMod, Nat.reduceSub, Nat.reduceBEq, Int.reduceLE, Int.reduceLT, Int.reduceEq, Int.reduceSub, Int.reduceAdd, Int.reduceToNat, Int.reduceNeg, e1, e2, c3, e4]
    refine wd_mono (i_RefusalOfZero_l1_wp p_Labels p_Degree p_Nodes p_Edges hl6 ?_) ?_
    · simp (maxDischargeDepth := 9) only [↓xpre, xpost, xlst, xcore, yset, rg0, ↓reduceIte, Nat.reduceEqDiff, Nat.reduceLT, Nat.reduceLeDiff, Nat.reduceAdd, Nat.reduceMul, Nat.reduceMod, Nat.reduceSub, Nat.reduceBEq, Int.reduceLE, Int.reduceLT, Int.reduceEq, Int.reduceSub, Int.reduceAdd, Int.reduceToNat, Int.reduceNeg, e1, e2, c3, e4, i_RefusalOfZero_l1_M] <;> (repeat' apply And.intro) <;> first | rfl | exact ⟨_, rfl⟩ | simp [lst]
    · intro ex6 s6 hX6
      unfold i_RefusalOfZero_l1_X at hX6
      obtain ⟨rfl, n6_0, n6_1⟩ := hX6
      by_cases e7 : (r6_.length : Int) < (p_Nodes.length : Int)
      · rw [if_pos e7] at h
        obtain rfl := Option.some.inj h
        simp (maxDischargeDepth := 9) only [↓xpre, xpost, xlst, xcore, yset, rg0, ↓reduceIte, Nat.reduceEqDiff, Nat.reduceLT, Nat.reduceLeDiff, Nat.reduceAdd, Nat.reduceMul, Nat.reduceMod, Nat.reduceSub, Nat.reduceBEq, Int.reduceLE, Int.reduceLT, Int.reduceEq, Int.reduceSub, Int.reduceAdd, Int.reduceToNat, Int.reduceNeg, e1, e2, c3, e4, n6_0, n6_1, e7] <;> (repeat' apply And.intro) <;> first | rfl | exact ⟨_, rfl⟩ | simp [lst]
      · rw [if_neg e7] at h
        obtain rfl := Option.some.inj h
        simp (maxDischargeDepth := 9) only [↓xpre, xpost, xlst, xcore, yset, rg0, ↓reduceIte, Nat.reduceEqDiff, Nat.reduceLT, Nat.reduceLeDiff, Nat.reduceAdd, Nat.reduceMul, Nat.reduceMod, Nat.reduceSub, Nat.reduceBEq, Int.reduceLE, Int.reduceLT, Int.reduceEq, Int.reduceSub, Int.reduceAdd, Int.reduceToNat, Int.reduceNeg, e1, e2, c3, e4, n6_0, n6_1, e7] <;> (repeat' apply And.intro) <;> first | rfl | exact ⟨_, rfl⟩ | simp [lst]
  · rw [if_neg e4] at h
    have e4f : (isProb p_Labels p_Degree p_Nodes p_Edges) = false := Bool.eq_false_iff.mpr e4
    obtain rfl := Option.some.inj h
    simp (maxDischargeDepth := 9) only [↓xpre, xpost, xlst, xcore, yset, rg0, ↓reduceIte, Nat.reduceEqDiff, Nat.reduceLT, Nat.reduceLeDiff, Nat.reduceAdd, Nat.reduceMul, Nat.reduceMod, Nat.reduceSub, Nat.reduceBEq, Int.reduceLE, Int.reduceLT, Int.reduceEq, Int.reduceSub, Int.reduceAdd, Int.reduceToNat, Int.reduceNeg, e1, e2, c3, e4f] <;> (repeat' apply And.intro) <;> first | rfl | exact ⟨_, rfl⟩ | simp [lst]

noncomputable def s_RefusalOfZero_l0_S (p_Labels : Int) (p_Degree : Int) (p_Nodes : List (List Int)) (p_Edges : List (List Int)) (out : List (List Int)) (t24_ : Int) : Option (((List (List Int)) × Int) ⊕ ((List (List Int)))) :=
  if t24_ < (p_Nodes.length : Int) then
    ck (0 ≤ t24_ ∧ t24_.toNat < p_Nodes.length) <|
    (s_zeBad p_Labels p_Degree p_Nodes p_Edges (p_Nodes.getD t24_.toNat default) (p_Nodes.getD t24_.toNat default)).bind fun r9_ =>
    ck (0 ≤ r9_.1 ∧ r9_.1.toNat < (p_Nodes.getD t24_.toNat default).length) <|
    ck (0 ≤ r9_.2.1 ∧ r9_.2.1.toNat < (p_Nodes.getD t24_.toNat default).length) <|
    ck (out.length + 1 < 1099511627776) <|
    some (Sum.inl ((out ++ [[((p_Nodes.getD t24_.toNat default).getD r9_.1.toNat default), ((p_Nodes.getD t24_.toNat default).getD r9_.2.1.toNat default)]]), IntKind.i64.wrap (t24_ + 1)))
  else
    some (Sum.inr out)
noncomputable def s_RefusalOfZero_l0 (p_Labels : Int) (p_Degree : Int) (p_Nodes : List (List Int)) (p_Edges : List (List Int)) (v : (List (List Int)) × Int) : Option ((List (List Int))) := itO (fun v => s_RefusalOfZero_l0_S p_Labels p_Degree p_Nodes p_Edges v.1 v.2) v
noncomputable def s_RefusalOfZero (p_Labels : Int) (p_Degree : Int) (p_Nodes : List (List Int)) (p_Edges : List (List Int)) : Option ((List (List Int)) × Bool) :=
  ck (Short p_Nodes) <|
  ck (Short p_Edges) <|
  if (isProb p_Labels p_Degree p_Nodes p_Edges) = true then
    (s_zeGood p_Labels p_Degree p_Nodes p_Edges).bind fun r5_ =>
    if r5_.2 = true then
      some ([], false)
    else
      (s_RefusalOfZero_l0 p_Labels p_Degree p_Nodes p_Edges ([], 0)).bind fun r8_ =>
      some (r8_, true)
  else
    some ([], false)
/-- spec.RefusalOfZero -/
def k50_l0b : SC :=
  .seq
    (.ops [
      ⟨(some 25), (Op.binOp BinOp.lss 3 (Operand.tmp 24) (Operand.tmp 23) 3), 0, none⟩])
    (.seq
      (.cond (Operand.tmp 25)
        .skip
        (.exit 0))
      (.seq
        (.block 1
          (.seq
            (.ops [
              ⟨(some 26), (Op.indexAddr 22 (Operand.tmp 22) (Operand.tmp 24)), 0, none⟩,
              ⟨(some 27), (Op.load 32 (Operand.tmp 26)), 32, none⟩,
              ⟨(some 8), (Op.assign (Operand.tmp 27)), 32, none⟩])
            (.seq
              (.ops [
                ⟨(some 29), (Op.load 28 (Operand.tmp 1)), 28, none⟩,
                ⟨(some 30), (Op.move (Operand.tmp 8)), 32, none⟩,
                ⟨(some 31), (Op.move (Operand.tmp 8)), 32, none⟩,
                ⟨(some 32), (Op.call { callee := (Callee.value (Operand.func 78)), args := #[(Operand.tmp 29), (Operand.tmp 30), (Operand.tmp 31)], argTypes := #[28, 32, 32] }), 58, none⟩,
                ⟨(some 28), (Op.move (Operand.tmp 32)), 58, none⟩,
                ⟨(some 33), (Op.extract (Operand.tmp 28) 0), 3, none⟩,
                ⟨(some 34), (Op.extract (Operand.tmp 28) 1), 3, none⟩,
                ⟨(some 35), (Op.extract (Operand.tmp 28) 2), 4, none⟩,
                ⟨(some 9), (Op.assign (Operand.tmp 33)), 3, none⟩,
                ⟨(some 10), (Op.assign (Operand.tmp 34)), 3, none⟩,
                ⟨(some 11), (Op.assign (Operand.tmp 35)), 4, none⟩])
              (.draws [
                (⟨[36, 6, 6], [36, 37, 38, 39, 40, 41, 42, 43, 44, 45, 40, 44, 8, 8, 46, 45, 45, 47, 36, 46, 6, 46, 6, 47, 47], [36]⟩, ⟨(some 36), (Op.move (Operand.tmp 6)), 22, none⟩),
                (⟨[37, 8, 8], [36, 37, 38, 39, 40, 41, 42, 43, 44, 45, 40, 44, 8, 8, 46, 45, 45, 47, 36, 46, 6, 46, 6, 47, 47], [37]⟩, ⟨(some 37), (Op.move (Operand.tmp 8)), 32, none⟩),
                (⟨[38, 9, 9], [36, 37, 38, 39, 40, 41, 42, 43, 44, 45, 40, 44, 8, 8, 46, 45, 45, 47, 36, 46, 6, 46, 6, 47, 47], [38]⟩, ⟨(some 38), (Op.move (Operand.tmp 9)), 3, none⟩),
                (⟨[39, 37, 38, 8, 9], [36, 37, 38, 39, 40, 41, 42, 43, 44, 45, 40, 44, 8, 8, 46, 45, 45, 47, 36, 46, 6, 46, 6, 47, 47], [39]⟩, ⟨(some 39), (Op.indexAddr 32 (Operand.tmp 37) (Operand.tmp 38)), 0, none⟩),
                (⟨[40, 39, 8], [36, 37, 38, 39, 40, 41, 42, 43, 44, 45, 40, 44, 8, 8, 46, 45, 45, 47, 36, 46, 6, 46, 6, 47, 47], [40]⟩, ⟨(some 40), (Op.load 3 (Operand.tmp 39)), 3, none⟩),
                (⟨[41, 8, 8], [36, 37, 38, 39, 40, 41, 42, 43, 44, 45, 40, 44, 8, 8, 46, 45, 45, 47, 36, 46, 6, 46, 6, 47, 47], [41]⟩, ⟨(some 41), (Op.move (Operand.tmp 8)), 32, none⟩),
                (⟨[42, 10, 10], [36, 37, 38, 39, 40, 41, 42, 43, 44, 45, 40, 44, 8, 8, 46, 45, 45, 47, 36, 46, 6, 46, 6, 47, 47], [42]⟩, ⟨(some 42), (Op.move (Operand.tmp 10)), 3, none⟩),
                (⟨[43, 41, 42, 8, 10], [36, 37, 38, 39, 40, 41, 42, 43, 44, 45, 40, 44, 8, 8, 46, 45, 45, 47, 36, 46, 6, 46, 6, 47, 47], [43]⟩, ⟨(some 43), (Op.indexAddr 32 (Operand.tmp 41) (Operand.tmp 42)), 0, none⟩),
                (⟨[44, 43, 8], [36, 37, 38, 39, 40, 41, 42, 43, 44, 45, 40, 44, 8, 8, 46, 45, 45, 47, 36, 46, 6, 46, 6, 47, 47], [44]⟩, ⟨(some 44), (Op.load 3 (Operand.tmp 43)), 3, none⟩),
                (⟨[45, 40, 44, 8, 8], [36, 37, 38, 39, 40, 41, 42, 43, 44, 45, 40, 44, 8, 8, 46, 45, 45, 47, 36, 46, 6, 46, 6, 47, 47], [45, 40, 44, 8, 8]⟩, ⟨(some 45), (Op.buildSlice 32 2 #[(0, (Operand.tmp 40)), (1, (Operand.tmp 44))]), 32, none⟩),
                (⟨[46, 45, 45], [36, 37, 38, 39, 40, 41, 42, 43, 44, 45, 40, 44, 8, 8, 46, 45, 45, 47, 36, 46, 6, 46, 6, 47, 47], [46, 45, 45]⟩, ⟨(some 46), (Op.buildSlice 22 1 #[(0, (Operand.tmp 45))]), 22, none⟩),
                (⟨[47, 36, 46, 6, 46], [36, 37, 38, 39, 40, 41, 42, 43, 44, 45, 40, 44, 8, 8, 46, 45, 45, 47, 36, 46, 6, 46, 6, 47, 47], [47, 36, 46, 6, 46]⟩, ⟨(some 47), (Op.call { callee := (Callee.builtin Builtin.append), args := #[(Operand.tmp 36), (Operand.tmp 46)], argTypes := #[22, 22] }), 22, none⟩),
                (⟨[6, 47, 47], [36, 37, 38, 39, 40, 41, 42, 43, 44, 45, 40, 44, 8, 8, 46, 45, 45, 47, 36, 46, 6, 46, 6, 47, 47], [6, 47, 47]⟩, ⟨(some 6), (Op.assign (Operand.tmp 47)), 22, none⟩)]))))
        (.ops [
          ⟨(some 48), (Op.binOp BinOp.add 3 (Operand.tmp 24) (Operand.const (Value.int IntKind.i64 1)) 3), 3, none⟩,
          ⟨(some 24), (Op.move (Operand.tmp 48)), 3, none⟩])))
def k50_l0 : SC := .loop k50_l0b
def k50 : SC :=
  .seq
    (.ops [
      ⟨(some 1), (Op.box 28 (Operand.tmp 0)), 0, none⟩,
      ⟨(some 2), (Op.assign (Operand.const (Value.slice none 0 0))), 22, none⟩,
      ⟨(some 3), (Op.assign (Operand.const (Value.bool false))), 4, none⟩])
    (.seq
      (.seq
        (.ops [
          ⟨(some 12), (Op.load 28 (Operand.tmp 1)), 28, none⟩,
          ⟨(some 13), (Op.call { callee := (Callee.value (Operand.func 56)), args := #[(Operand.tmp 12)], argTypes := #[28] }), 4, none⟩,
          ⟨(some 14), (Op.unOp UnOp.not 4 (Operand.tmp 13)), 4, none⟩])
        (.cond (Operand.tmp 14)
          (.seq
            (.ops [
              ⟨(some 2), (Op.assign (Operand.const (Value.slice none 0 0))), 22, none⟩,
              ⟨(some 3), (Op.assign (Operand.const (Value.bool false))), 4, none⟩])
            .ret)
          .skip))
      (.seq
        (.seq
          (.ops [
            ⟨(some 16), (Op.load 28 (Operand.tmp 1)), 28, none⟩,
            ⟨(some 17), (Op.call { callee := (Callee.value (Operand.func 65)), args := #[(Operand.tmp 16)], argTypes := #[28] }), 33, none⟩,
            ⟨(some 15), (Op.move (Operand.tmp 17)), 33, none⟩,
            ⟨(some 18), (Op.extract (Operand.tmp 15) 0), 32, none⟩,
            ⟨(some 19), (Op.extract (Operand.tmp 15) 1), 4, none⟩,
            ⟨(some 4), (Op.assign (Operand.tmp 18)), 32, none⟩,
            ⟨(some 5), (Op.assign (Operand.tmp 19)), 4, none⟩])
          (.seq
            (.ops [
              ⟨(some 20), (Op.move (Operand.tmp 5)), 4, none⟩])
            (.cond (Operand.tmp 20)
              (.seq
                (.ops [
                  ⟨(some 2), (Op.assign (Operand.const (Value.slice none 0 0))), 22, none⟩,
                  ⟨(some 3), (Op.assign (Operand.const (Value.bool false))), 4, none⟩])
                .ret)
              .skip)))
        (.seq
          (.ops [
            ⟨(some 6), (Op.assign (Operand.const (Value.slice none 0 0))), 22, none⟩])
          (.seq
            (.seq
              (.ops [
                ⟨(some 21), (Op.fieldAddr 28 (Operand.tmp 1) 2), 0, none⟩,
                ⟨(some 22), (Op.load 22 (Operand.tmp 21)), 22, none⟩,
                ⟨(some 23), (Op.call { callee := (Callee.builtin Builtin.len), args := #[(Operand.tmp 22)], argTypes := #[22] }), 3, none⟩,
                ⟨(some 24), (Op.move (Operand.const (Value.int IntKind.i64 0))), 3, none⟩])
              (.block 0
                k50_l0))
            (.seq
              (.ops [
                ⟨(some 49), (Op.move (Operand.tmp 6)), 22, none⟩,
                ⟨(some 2), (Op.assign (Operand.tmp 49)), 22, none⟩,
                ⟨(some 3), (Op.assign (Operand.const (Value.bool true))), 4, none⟩])
              .ret)))))
theorem slim50 : Try.f50.body.map (slim lends) = some k50 := by kernel_rfl
theorem ok50 : fnOk Try.f50 1 = true := by kernel_rfl
theorem c50 {a l : List D} {r : D × List D} (h : wpD Y.env k50 (fin tys l.length [ResultVar.tmp 2, ResultVar.tmp 3] r) (entry a l)) (ha : a.length = 1) : Y.call 50 a l = some r :=
  call_slim (Y := Y) rfl Try.func50 (ha ▸ ok50) slim50 h
def s_RefusalOfZero_l0_M (p_Labels : Int) (p_Degree : Int) (p_Nodes : List (List Int)) (p_Edges : List (List Int)) (out : List (List Int)) (t24_ : Int) (s : St) : Prop := s.v 1 = D.box [D.int .i64 p_Labels, D.int .i64 p_Degree, D.sl 32 (lst (fun x => D.sl 3 (lst (D.int .i64) x)) p_Nodes), D.sl 32 (lst (fun x => D.sl 3 (lst (D.int .i64) x)) p_Edges)] ∧ s.v 6 = D.own 32 (lst (fun x => D.own 3 (lst (D.int .i64) x)) out) ∧ s.v 22 = D.sl 32 (lst (fun x => D.sl 3 (lst (D.int .i64) x)) p_Nodes) ∧ s.v 23 = D.int .i64 (p_Nodes.length : Int) ∧ s.v 24 = D.int .i64 t24_
def s_RefusalOfZero_l0_X (p_Labels : Int) (p_Degree : Int) (p_Nodes : List (List Int)) (p_Edges : List (List Int)) (r : (List (List Int))) (ex : Ex) (s : St) : Prop := ex = .exit 0 ∧ s.v 6 = D.own 32 (lst (fun x => D.own 3 (lst (D.int .i64) x)) r)
theorem s_RefusalOfZero_l0_wp (p_Labels : Int) (p_Degree : Int) (p_Nodes : List (List Int)) (p_Edges : List (List Int)) {v : (List (List Int)) × Int} {s : St} {r : (List (List Int))} (h : s_RefusalOfZero_l0 p_Labels p_Degree p_Nodes p_Edges v = some r) (hM : s_RefusalOfZero_l0_M p_Labels p_Degree p_Nodes p_Edges v.1 v.2 s) : wpD Y.env k50_l0 (s_RefusalOfZero_l0_X p_Labels p_Degree p_Nodes p_Edges r) s := by
  unfold s_RefusalOfZero_l0 at h
  refine wd_itO (c := k50_l0b) (fun v => s_RefusalOfZero_l0_S p_Labels p_Degree p_Nodes p_Edges v.1 v.2) (fun v s => s_RefusalOfZero_l0_M p_Labels p_Degree p_Nodes p_Edges v.1 v.2 s) (s_RefusalOfZero_l0_X p_Labels p_Degree p_Nodes p_Edges) ?_ h hM
  clear h hM s v r
  intro v s o hM h
  obtain ⟨out, t24_⟩ := v
  dsimp only at h hM
  unfold s_RefusalOfZero_l0_S at h
  unfold s_RefusalOfZero_l0_M at hM
  obtain ⟨m0, m1, m2, m3, m4⟩ := hM
  unfold k50_l0b
  by_cases e7 : t24_ < (p_Nodes.length : Int)
  · rw [if_pos e7] at h
    obtain ⟨e8, h⟩ := ckS h
    obtain ⟨r9_, hl9, h⟩ := bindS h
    try dsimp only at h
    have c9 := s_zeBad_call p_Labels p_Degree p_Nodes p_Edges (p_Nodes.getD t24_.toNat default) (p_Nodes.getD t24_.toNat default) hl9
    obtain ⟨e10, h⟩ := ckS h
    obtain ⟨e11, h⟩ := ckS h
    obtain ⟨e12, h⟩ := ckS h
    obtain rfl := Option.some.inj h
    simp (maxDischargeDepth := 9) only [↓xpre, xpost, xlst, xcore, yset, rg0, ↓reduceIte, Nat.reduceEqDiff, Nat.reduceLT, Nat.reduceLeDiff, Nat.reduceAdd, Nat.reduceMul, Nat.reduceMod, Nat.reduceSub, Nat.reduceBEq, Int.reduceLE, Int.reduceLT, Int.reduceEq, Int.reduceSub, Int.reduceAdd, Int.reduceToNat, Int.reduceNeg, m0, m1, m2, m3, m4, e7, e8.1, e8.2, c9, e10.1, e10.2, e11.1, e11.2, e12, s_RefusalOfZero_l0_M, s_RefusalOfZero_l0_X, sxN, sxE, sxR] <;> (repeat' apply And.intro) <;> first | rfl | exact ⟨_, rfl⟩ | simp [lst]
  · rw [if_neg e7] at h
    obtain rfl := Option.some.inj h
    simp (maxDischargeDepth := 9) only [↓xpre, xpost, xlst, xcore, yset, rg0, ↓reduceIte, Nat.reduceEqDiff, Nat.reduceLT, Nat.reduceLeDiff, Nat.reduceAdd, Nat.reduceMul, Nat.reduceMod, Nat.reduceSub, Nat.reduceBEq, Int.reduceLE, Int.reduceLT, Int.reduceEq, Int.reduceSub, Int.reduceAdd, Int.reduceToNat, Int.reduceNeg, m0, m1, m2, m3, m4, e7, s_RefusalOfZero_l0_M, s_RefusalOfZero_l0_X, sxN, sxE, sxR] <;> (repeat' apply And.intro) <;> first | rfl | exact ⟨_, rfl⟩ | simp [lst]
theorem s_RefusalOfZero_call (p_Labels : Int) (p_Degree : Int) (p_Nodes : List (List Int)) (p_Edges : List (List Int)) {r : (List (List Int)) × Bool} (h : s_RefusalOfZero p_Labels p_Degree p_Nodes p_Edges = some r) : Y.call 50 [D.agg [D.int .i64 p_Labels, D.int .i64 p_Degree, D.sl 32 (lst (fun x => D.sl 3 (lst (D.int .i64) x)) p_Nodes), D.sl 32 (lst (fun x => D.sl 3 (lst (D.int .i64) x)) p_Edges)]] [] = some (D.tup [D.own 32 (lst (fun x => D.own 3 (lst (D.int .i64) x)) r.1), D.bool r.2], []) := by
  refine c50 ?_ rfl
  unfold k50
  unfold s_RefusalOfZero at h
  obtain ⟨e1, h⟩ := ckS h
  obtain ⟨e2, h⟩ := ckS h
  have c3 := s_prGood_cl p_Labels p_Degree p_Nodes p_Edges e1 e2
  by_cases e4 : (isProb p_Labels p_Degree p_Nodes p_Edges) = true
  · rw [if_pos e4] at h
    obtain ⟨r5_, hl5, h⟩ := bindS h
    try dsimp only at h
    have c5 := s_zeGood_call p_Labels p_Degree p_Nodes p_Edges hl5
    by_cases e6 : r5_.2 = true
    · rw [if_pos e6] at h
      obtain rfl := Option.some.inj h
      simp (maxDischargeDepth := 9) only [↓xpre, xpost, xlst, xcore, yset, rg0, ↓reduceIte, Nat.reduceEqDiff, Nat.reduceLT, Nat.reduceLeDiff, Nat.reduceAdd, Nat.reduceMul, Nat.reduceMod, Nat.reduceSub, Nat.reduceBEq, Int.reduceLE, Int.reduceLT, Int.reduceEq, Int.reduceSub, Int.reduceAdd, Int.reduceToNat, Int.reduceNeg, e1, e2, c3, e4, c5, e6] <;> (repeat' apply And.intro) <;> first | rfl | exact ⟨_, rfl⟩ | simp [lst]
    · rw [if_neg e6] at h
      have e6f : r5_.2 = false := Bool.eq_false_iff.mpr e6
      obtain ⟨r8_, hl8, h⟩ := bindS h
      try dsimp only at h
      simp (maxDischargeDepth := 9) only [↓xpre, xpost, xlst, xcore, yset, rg0, ↓reduceIte, Nat.reduceEqDiff, Nat.reduceLT, Nat.reduceLeDiff, Nat.reduceAdd, Nat.reduceMul, Nat.reduceMod, Nat.reduceSub, Nat.reduceBEq, Int.reduceLE, Int.reduceLT, Int.reduceEq, Int.reduceSub, Int.reduceAdd, Int.reduceToNat, Int.reduceNeg, e1, e2, c3, e4, c5, e6f]
      refine wd_mono (s_RefusalOfZero_l0_wp p_Labels p_Degree p_Nodes p_Edges hl8 ?_) ?_
      · simp (maxDischargeDepth := 9) only [↓xpre, xpost, xlst, xcore, yset, rg0, ↓reduceIte, Nat.reduceEqDiff, Nat.reduceLT, Nat.reduceLeDiff, Nat.reduceAdd, Nat.reduceMul, Nat.reduceMod, Nat.reduceSub, Nat.reduceBEq, Int.reduceLE, Int.reduceLT, Int.reduceEq, Int.reduceSub, Int.reduceAdd, Int.reduceToNat, Int.reduceNeg, e1, e2, c3, e4, c5, e6f, s_RefusalOfZero_l0_M] <;> (repeat' apply And.intro) <;> first | rfl | exact ⟨_, rfl⟩ | simp [lst]
      · intro ex8 s8 hX8
        unfold s_RefusalOfZero_l0_X at hX8
        obtain ⟨rfl, n8_0⟩ := hX8
        obtain rfl := Option.some.inj h
        simp (maxDischargeDepth := 9) only [↓xpre, xpost, xlst, xcore, yset, rg0, ↓reduceIte, Nat.reduceEqDiff, Nat.reduceLT, Nat.reduceLeDiff, Nat.reduceAdd, Nat.reduceMul, Nat.reduceMod, Nat.reduceSub, Nat.reduceBEq, Int.reduceLE, Int.reduceLT, Int.reduceEq, Int.reduceSub, Int.reduceAdd, Int.reduceToNat, Int.reduceNeg, e1, e2, c3, e4, c5, e6f, n8_0] <;> (repeat' apply And.intro) <;> first | rfl | exact ⟨_, rfl⟩ | simp [lst]
  · rw [if_neg e4] at h
    have e4f : (isProb p_Labels p_Degree p_Nodes p_Edges) = false := Bool.eq_false_iff.mpr e4
    obtain rfl := Option.some.inj h
    simp (maxDischargeDepth := 9) only [↓xpre, xpost, xlst, xcore, yset, rg0, ↓reduceIte, Nat.reduceEqDiff, Nat.reduceLT, Nat.reduceLeDiff, Nat.reduceAdd, Nat.reduceMul, Nat.reduceMod, Nat.reduceSub, Nat.reduceBEq, Int.reduceLE, Int.reduceLT, Int.reduceEq, Int.reduceSub, Int.reduceAdd, Int.reduceToNat, Int.reduceNeg, e1, e2, c3, e4f] <;> (repeat' apply And.intro) <;> first | rfl | exact ⟨_, rfl⟩ | simp [lst]


end Go.Proofs.Ytjlphfbpaejicaa
