/- Bad pairs of configurations, as plain functions; the first configuration without one; laws. Conditions: none. -/
import Derived.Test.YtjlphfbpaejicaaL6
import Derived.Test.YtjlphfbpaejicaaLoo
namespace Go.Proofs.Ytjlphfbpaejicaa
open Go Dv
set_option linter.unusedSimpArgs false
set_option linter.unusedVariables false
set_option maxRecDepth 100000
set_option maxHeartbeats 4000000

/-- The first number at which P holds. -/
def firstIx (n : Nat) (P : Nat → Bool) : Option Nat := (List.range n).find? P
theorem firstIx_none {n : Nat} {P : Nat → Bool} (h : ∀ i, i < n → P i = false) : firstIx n P = none := by
  unfold firstIx
  rw [List.find?_eq_none]
  intro i hi
  rw [h i (List.mem_range.1 hi)]; decide
theorem firstIx_at {n m : Nat} {P : Nat → Bool} (hm : m < n) (h : P m = true) (h0 : ∀ i, i < m → P i = false) : firstIx n P = some m := by
  unfold firstIx
  rw [List.find?_range_eq_some]
  exact ⟨h, List.mem_range.2 hm, fun j hj => by rw [h0 j hj]; rfl⟩
theorem firstIx_lt {n m : Nat} {P : Nat → Bool} (h : firstIx n P = some m) : m < n ∧ P m = true := by
  unfold firstIx at h
  exact ⟨List.mem_range.1 (List.mem_of_find?_eq_some h), List.find?_some h⟩
/-- A loop that stops at the first number at which P holds. -/
theorem itO_find {σ ρ : Type} (f : σ → Option (σ ⊕ ρ)) (st : Nat → σ) (n : Nat) (P : Nat → Bool) (hit : Nat → ρ) (miss : ρ)
    (h : ∀ i, i < n → f (st i) = if P i = true then some (.inr (hit i)) else some (.inl (st (i + 1)))) (e : f (st n) = some (.inr miss)) :
    itO f (st 0) = some (match firstIx n P with | some i => hit i | none => miss) := by
  by_cases hp : ∀ i, i < n → (!P i) = true
  · have h0 : ∀ i, i < n → P i = false := fun i hi => by simpa using hp i hi
    rw [firstIx_none h0]
    exact itO_for f st n miss (fun i hi => by rw [h i hi, h0 i hi, if_neg (by decide)]) e
  · obtain ⟨m, hm, hpm, h0⟩ := first_fail hp
    have hpm' : P m = true := by simpa using hpm
    have h0' : ∀ i, i < m → P i = false := fun i hi => by simpa using h0 i hi
    rw [firstIx_at hm hpm' h0']
    exact itO_for f st m (hit m) (fun i hi => by rw [h i (by omega), h0' i hi, if_neg (by decide)]) (by rw [h m hm, if_pos hpm'])
/-- laws.FnExactZeroConfiguration -/
def k8 : SC :=
  .seq
    (.ops [
      ⟨(some 1), (Op.box 24 (Operand.tmp 0)), 0, none⟩,
      ⟨(some 2), (Op.assign (Operand.const (Value.bool false))), 4, none⟩])
    (.seq
      (.ops [
        ⟨(some 3), (Op.assign (Operand.const (Value.int IntKind.i64 1048576))), 3, none⟩])
      (.seq
        (.ops [
          ⟨(some 14), (Op.load 24 (Operand.tmp 1)), 24, none⟩,
          ⟨(some 15), (Op.move (Operand.tmp 3)), 3, none⟩,
          ⟨(some 16), (Op.call { callee := (Callee.value (Operand.func 15)), args := #[(Operand.tmp 14), (Operand.tmp 15)], argTypes := #[24, 3] }), 3, none⟩,
          ⟨(some 3), (Op.assign (Operand.tmp 16)), 3, none⟩])
        (.seq
          (.seq
            (.ops [
              ⟨(some 17), (Op.move (Operand.tmp 3)), 3, none⟩,
              ⟨(some 18), (Op.binOp BinOp.lss 3 (Operand.tmp 17) (Operand.const (Value.int IntKind.i64 0)) 3), 4, none⟩])
            (.cond (Operand.tmp 18)
              (.seq
                (.ops [
                  ⟨(some 2), (Op.assign (Operand.const (Value.bool true))), 4, none⟩])
                .ret)
              .skip))
          (.seq
            (.ops [
              ⟨(some 20), (Op.load 24 (Operand.tmp 1)), 24, none⟩,
              ⟨(some 21), (Op.call { callee := (Callee.value (Operand.func 17)), args := #[(Operand.tmp 20)], argTypes := #[24] }), 28, none⟩,
              ⟨(some 22), (Op.call { callee := (Callee.value (Operand.func 36)), args := #[(Operand.tmp 21)], argTypes := #[28] }), 33, none⟩,
              ⟨(some 19), (Op.move (Operand.tmp 22)), 33, none⟩,
              ⟨(some 23), (Op.extract (Operand.tmp 19) 0), 32, none⟩,
              ⟨(some 24), (Op.extract (Operand.tmp 19) 1), 4, none⟩,
              ⟨(some 4), (Op.assign (Operand.tmp 23)), 32, none⟩,
              ⟨(some 5), (Op.assign (Operand.tmp 24)), 4, none⟩])
            (.seq
              (.ops [
                ⟨(some 25), (Op.load 24 (Operand.tmp 1)), 24, none⟩,
                ⟨(some 26), (Op.call { callee := (Callee.value (Operand.func 17)), args := #[(Operand.tmp 25)], argTypes := #[24] }), 28, none⟩,
                ⟨(some 6), (Op.alloc 28), 0, none⟩,
                ⟨none, (Op.store 28 (Operand.tmp 6) (Operand.tmp 26)), 0, none⟩])
              (.seq
                (.ops [
                  ⟨(some 28), (Op.load 28 (Operand.tmp 6)), 28, none⟩,
                  ⟨(some 29), (Op.call { callee := (Callee.value (Operand.func 37)), args := #[(Operand.tmp 28)], argTypes := #[28] }), 33, none⟩,
                  ⟨(some 27), (Op.move (Operand.tmp 29)), 33, none⟩,
                  ⟨(some 30), (Op.extract (Operand.tmp 27) 0), 32, none⟩,
                  ⟨(some 31), (Op.extract (Operand.tmp 27) 1), 4, none⟩,
                  ⟨(some 7), (Op.assign (Operand.tmp 30)), 32, none⟩,
                  ⟨(some 8), (Op.assign (Operand.tmp 31)), 4, none⟩])
                (.seq
                  (.seq
                    (.ops [
                      ⟨(some 32), (Op.move (Operand.tmp 7)), 32, none⟩,
                      ⟨(some 33), (Op.move (Operand.tmp 4)), 32, none⟩,
                      ⟨(some 34), (Op.call { callee := (Callee.value (Operand.func 22)), args := #[(Operand.tmp 32), (Operand.tmp 33)], argTypes := #[32, 32] }), 4, none⟩,
                      ⟨(some 35), (Op.unOp UnOp.not 4 (Operand.tmp 34)), 4, none⟩,
                      ⟨(some 36), (Op.move (Operand.tmp 35)), 4, none⟩,
                      ⟨(some 37), (Op.move (Operand.tmp 8)), 4, (some (some 36, false))⟩,
                      ⟨(some 38), (Op.move (Operand.tmp 5)), 4, (some (some 36, false))⟩,
                      ⟨(some 39), (Op.binOp BinOp.neq 4 (Operand.tmp 37) (Operand.tmp 38) 4), 4, (some (some 36, false))⟩,
                      ⟨(some 40), (Op.pick (Operand.tmp 36) (Operand.const (Value.bool true)) (Operand.tmp 39)), 4, none⟩])
                    (.cond (Operand.tmp 40)
                      (.seq
                        (.ops [
                          ⟨(some 2), (Op.assign (Operand.const (Value.bool false))), 4, none⟩])
                        .ret)
                      .skip))
                  (.seq
                    (.seq
                      (.draws [
                        (⟨[41, 6, 6], [41, 42, 43, 44, 45], [41]⟩, ⟨(some 41), (Op.load 28 (Operand.tmp 6)), 28, none⟩),
                        (⟨[42, 1, 1], [41, 42, 43, 44, 45], [42]⟩, ⟨(some 42), (Op.load 24 (Operand.tmp 1)), 24, none⟩),
                        (⟨[43, 42, 1], [41, 42, 43, 44, 45], [43]⟩, ⟨(some 43), (Op.call { callee := (Callee.value (Operand.func 17)), args := #[(Operand.tmp 42)], argTypes := #[24] }), 28, none⟩),
                        (⟨[44, 41, 43, 6, 43], [41, 42, 43, 44, 45], [44]⟩, ⟨(some 44), (Op.call { callee := (Callee.value (Operand.func 19)), args := #[(Operand.tmp 41), (Operand.tmp 43)], argTypes := #[28, 28] }), 4, none⟩),
                        (⟨[45, 44, 44], [41, 42, 43, 44, 45], [45]⟩, ⟨(some 45), (Op.unOp UnOp.not 4 (Operand.tmp 44)), 4, none⟩)])
                      (.cond (Operand.tmp 45)
                        (.seq
                          (.ops [
                            ⟨(some 2), (Op.assign (Operand.const (Value.bool false))), 4, none⟩])
                          .ret)
                        .skip))
                    (.seq
                      (.ops [
                        ⟨(some 9), (Op.assign (Operand.const (Value.int IntKind.i64 1))), 3, none⟩])
                      (.seq
                        (.ops [
                          ⟨(some 46), (Op.load 28 (Operand.tmp 6)), 28, none⟩,
                          ⟨(some 47), (Op.move (Operand.tmp 9)), 3, none⟩,
                          ⟨(some 48), (Op.call { callee := (Callee.value (Operand.func 23)), args := #[(Operand.tmp 46), (Operand.tmp 47)], argTypes := #[28, 3] }), 3, none⟩,
                          ⟨(some 9), (Op.assign (Operand.tmp 48)), 3, none⟩])
                        (.seq
                          (.seq
                            (.ops [
                              ⟨(some 49), (Op.move (Operand.tmp 9)), 3, none⟩,
                              ⟨(some 50), (Op.binOp BinOp.lss 3 (Operand.tmp 49) (Operand.const (Value.int IntKind.i64 0)) 3), 4, none⟩,
                              ⟨(some 51), (Op.move (Operand.tmp 50)), 4, none⟩,
                              ⟨(some 52), (Op.move (Operand.tmp 7)), 32, (some (some 51, false))⟩,
                              ⟨(some 53), (Op.move (Operand.tmp 4)), 32, (some (some 51, false))⟩,
                              ⟨(some 54), (Op.call { callee := (Callee.value (Operand.func 22)), args := #[(Operand.tmp 52), (Operand.tmp 53)], argTypes := #[32, 32] }), 4, (some (some 51, false))⟩,
                              ⟨(some 55), (Op.unOp UnOp.not 4 (Operand.tmp 54)), 4, (some (some 51, false))⟩,
                              ⟨(some 56), (Op.pick (Operand.tmp 51) (Operand.const (Value.bool true)) (Operand.tmp 55)), 4, none⟩,
                              ⟨(some 57), (Op.move (Operand.tmp 56)), 4, none⟩,
                              ⟨(some 58), (Op.move (Operand.tmp 8)), 4, (some (some 57, false))⟩,
                              ⟨(some 59), (Op.move (Operand.tmp 5)), 4, (some (some 57, false))⟩,
                              ⟨(some 60), (Op.binOp BinOp.neq 4 (Operand.tmp 58) (Operand.tmp 59) 4), 4, (some (some 57, false))⟩,
                              ⟨(some 61), (Op.pick (Operand.tmp 57) (Operand.const (Value.bool true)) (Operand.tmp 60)), 4, none⟩])
                            (.cond (Operand.tmp 61)
                              (.seq
                                (.ops [
                                  ⟨(some 2), (Op.assign (Operand.const (Value.bool false))), 4, none⟩])
                                .ret)
                              .skip))
                          (.seq
                            (.ops [
                              ⟨(some 10), (Op.assign (Operand.const (Value.int IntKind.i64 1))), 3, none⟩])
                            (.seq
                              (.ops [
                                ⟨(some 62), (Op.move (Operand.tmp 7)), 32, none⟩,
                                ⟨(some 63), (Op.move (Operand.tmp 10)), 3, none⟩,
                                ⟨(some 64), (Op.call { callee := (Callee.value (Operand.func 24)), args := #[(Operand.tmp 62), (Operand.tmp 63)], argTypes := #[32, 3] }), 3, none⟩,
                                ⟨(some 10), (Op.assign (Operand.tmp 64)), 3, none⟩])
                              (.seq
                                (.ops [
                                  ⟨(some 11), (Op.assign (Operand.const (Value.int IntKind.i64 1))), 3, none⟩])
                                (.seq
                                  (.ops [
                                    ⟨(some 65), (Op.move (Operand.tmp 7)), 32, none⟩,
                                    ⟨(some 66), (Op.move (Operand.tmp 11)), 3, none⟩,
                                    ⟨(some 67), (Op.call { callee := (Callee.value (Operand.func 25)), args := #[(Operand.tmp 65), (Operand.tmp 66)], argTypes := #[32, 3] }), 3, none⟩,
                                    ⟨(some 11), (Op.assign (Operand.tmp 67)), 3, none⟩])
                                  (.seq
                                    (.seq
                                      (.ops [
                                        ⟨(some 68), (Op.move (Operand.tmp 11)), 3, none⟩,
                                        ⟨(some 69), (Op.binOp BinOp.lss 3 (Operand.tmp 68) (Operand.const (Value.int IntKind.i64 0)) 3), 4, none⟩])
                                      (.cond (Operand.tmp 69)
                                        (.seq
                                          (.ops [
                                            ⟨(some 2), (Op.assign (Operand.const (Value.bool false))), 4, none⟩])
                                          .ret)
                                        .skip))
                                    (.seq
                                      (.seq
                                        (.ops [
                                          ⟨(some 70), (Op.move (Operand.tmp 11)), 3, none⟩,
                                          ⟨(some 71), (Op.move (Operand.tmp 10)), 3, none⟩,
                                          ⟨(some 72), (Op.binOp BinOp.neq 3 (Operand.tmp 70) (Operand.tmp 71) 3), 4, none⟩])
                                        (.cond (Operand.tmp 72)
                                          (.seq
                                            (.ops [
                                              ⟨(some 2), (Op.assign (Operand.const (Value.bool false))), 4, none⟩])
                                            .ret)
                                          .skip))
                                      (.seq
                                        (.ops [
                                          ⟨(some 74), (Op.load 24 (Operand.tmp 1)), 24, none⟩,
                                          ⟨(some 75), (Op.call { callee := (Callee.value (Operand.func 17)), args := #[(Operand.tmp 74)], argTypes := #[24] }), 28, none⟩,
                                          ⟨(some 76), (Op.call { callee := (Callee.value (Operand.func 37)), args := #[(Operand.tmp 75)], argTypes := #[28] }), 33, none⟩,
                                          ⟨(some 73), (Op.move (Operand.tmp 76)), 33, none⟩,
                                          ⟨(some 77), (Op.extract (Operand.tmp 73) 0), 32, none⟩,
                                          ⟨(some 78), (Op.extract (Operand.tmp 73) 1), 4, none⟩,
                                          ⟨(some 12), (Op.assign (Operand.tmp 77)), 32, none⟩,
                                          ⟨(some 13), (Op.assign (Operand.tmp 78)), 4, none⟩])
                                        (.seq
                                          (.seq
                                            (.ops [
                                              ⟨(some 79), (Op.move (Operand.tmp 12)), 32, none⟩,
                                              ⟨(some 80), (Op.move (Operand.tmp 4)), 32, none⟩,
                                              ⟨(some 81), (Op.call { callee := (Callee.value (Operand.func 22)), args := #[(Operand.tmp 79), (Operand.tmp 80)], argTypes := #[32, 32] }), 4, none⟩,
                                              ⟨(some 82), (Op.unOp UnOp.not 4 (Operand.tmp 81)), 4, none⟩,
                                              ⟨(some 83), (Op.move (Operand.tmp 82)), 4, none⟩,
                                              ⟨(some 84), (Op.move (Operand.tmp 13)), 4, (some (some 83, false))⟩,
                                              ⟨(some 85), (Op.move (Operand.tmp 5)), 4, (some (some 83, false))⟩,
                                              ⟨(some 86), (Op.binOp BinOp.neq 4 (Operand.tmp 84) (Operand.tmp 85) 4), 4, (some (some 83, false))⟩,
                                              ⟨(some 87), (Op.pick (Operand.tmp 83) (Operand.const (Value.bool true)) (Operand.tmp 86)), 4, none⟩])
                                            (.cond (Operand.tmp 87)
                                              (.seq
                                                (.ops [
                                                  ⟨(some 2), (Op.assign (Operand.const (Value.bool false))), 4, none⟩])
                                                .ret)
                                              .skip))
                                          (.seq
                                            (.ops [
                                              ⟨(some 11), (Op.assign (Operand.const (Value.int IntKind.i64 1))), 3, none⟩])
                                            (.seq
                                              (.ops [
                                                ⟨(some 88), (Op.move (Operand.tmp 7)), 32, none⟩,
                                                ⟨(some 89), (Op.move (Operand.tmp 11)), 3, none⟩,
                                                ⟨(some 90), (Op.call { callee := (Callee.value (Operand.func 25)), args := #[(Operand.tmp 88), (Operand.tmp 89)], argTypes := #[32, 3] }), 3, none⟩,
                                                ⟨(some 11), (Op.assign (Operand.tmp 90)), 3, none⟩])
                                              (.seq
                                                (.seq
                                                  (.ops [
                                                    ⟨(some 91), (Op.move (Operand.tmp 11)), 3, none⟩,
                                                    ⟨(some 92), (Op.binOp BinOp.lss 3 (Operand.tmp 91) (Operand.const (Value.int IntKind.i64 0)) 3), 4, none⟩])
                                                  (.cond (Operand.tmp 92)
                                                    (.seq
                                                      (.ops [
                                                        ⟨(some 2), (Op.assign (Operand.const (Value.bool false))), 4, none⟩])
                                                      .ret)
                                                    .skip))
                                                (.seq
                                                  (.seq
                                                    (.ops [
                                                      ⟨(some 93), (Op.move (Operand.tmp 11)), 3, none⟩,
                                                      ⟨(some 94), (Op.move (Operand.tmp 10)), 3, none⟩,
                                                      ⟨(some 95), (Op.binOp BinOp.neq 3 (Operand.tmp 93) (Operand.tmp 94) 3), 4, none⟩])
                                                    (.cond (Operand.tmp 95)
                                                      (.seq
                                                        (.ops [
                                                          ⟨(some 2), (Op.assign (Operand.const (Value.bool false))), 4, none⟩])
                                                        .ret)
                                                      .skip))
                                                  (.seq
                                                    (.ops [
                                                      ⟨(some 2), (Op.assign (Operand.const (Value.bool true))), 4, none⟩])
                                                    .ret))))))))))))))))))))))))
theorem slim8 : Try.f8.body.map (slim lends) = some k8 := by kernel_rfl
theorem ok8 : fnOk Try.f8 1 = true := by kernel_rfl
theorem c8 {a l : List D} {r : D × List D} (h : wpD Y.env k8 (fin tys l.length [ResultVar.tmp 2] r) (entry a l)) (ha : a.length = 1) : Y.call 8 a l = some r :=
  call_slim (Y := Y) rfl Try.func8 (ha ▸ ok8) slim8 h
end Go.Proofs.Ytjlphfbpaejicaa
