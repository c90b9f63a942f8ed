/- What two problems have in common, as plain functions; restriction and meet; their laws. Conditions: none. -/
import Derived.Test.YtjlphfbpaejicaaL6
import Derived.Test.YtjlphfbpaejicaaHas
namespace Go.Proofs.Ytjlphfbpaejicaa
open Go Dv
set_option linter.unusedSimpArgs false
set_option linter.unusedVariables false
set_option maxRecDepth 100000
set_option maxHeartbeats 4000000

theorem isProb_cut {a d : Int} {ns es : List (List Int)} (h : isProb a d ns es = true) : (1 ≤ a ∧ a ≤ 8) ∧ (1 ≤ d ∧ d ≤ 4) ∧ confs ns d a = true ∧ confs es 2 a = true := by
  simp only [isProb, Bool.and_eq_true] at h
  exact ⟨inR_iff.1 h.1.1.1, inR_iff.1 h.1.1.2, h.1.2, h.2⟩
theorem g_slices_Clone_Sint_int_cl (xs : List Int) (h : xs.length < 1099511627776) : Y.call 67 [.sl 3 (lst (D.int .i64) xs)] [] = some (.own 3 (lst (D.int .i64) xs), []) := by
  refine clone_67 (lst (D.int .i64) xs) (by rw [lst_length]; exact h) (lst_solid _ _ (fun x => rfl)) (lst_hasObj _ _ (fun x => by first | exact hoI .. | exact hoSl .. | exact hoB .. | exact hoS ..)) ?_
  simp (maxDischargeDepth := 9) only [↓xpre, xpost, xlst, xcore, yset, rg0, ↓reduceIte, Nat.reduceEqDiff, Nat.reduceLT, Nat.reduceLeDiff, Nat.reduceAdd, Nat.reduceMul, Nat.reduceMod, Nat.reduceSub, Nat.reduceBEq, Int.reduceLE, Int.reduceLT, Int.reduceEq, Int.reduceSub, Int.reduceAdd, Int.reduceToNat, Int.reduceNeg, Option.isSome_some]

/-- impl.IsRestriction -/
def k18 : SC :=
  .seq
    (.ops [
      ⟨(some 2), (Op.box 28 (Operand.tmp 0)), 0, none⟩,
      ⟨(some 3), (Op.box 28 (Operand.tmp 1)), 0, none⟩,
      ⟨(some 4), (Op.assign (Operand.const (Value.bool false))), 4, none⟩,
      ⟨(some 5), (Op.assign (Operand.const (Value.bool false))), 4, none⟩])
    (.seq
      (.seq
        (.ops [
          ⟨(some 6), (Op.load 28 (Operand.tmp 2)), 28, none⟩,
          ⟨(some 7), (Op.load 28 (Operand.tmp 3)), 28, none⟩,
          ⟨(some 8), (Op.call { callee := (Callee.value (Operand.func 54)), args := #[(Operand.tmp 6), (Operand.tmp 7)], argTypes := #[28, 28] }), 4, none⟩,
          ⟨(some 9), (Op.unOp UnOp.not 4 (Operand.tmp 8)), 4, none⟩])
        (.cond (Operand.tmp 9)
          (.seq
            (.ops [
              ⟨(some 4), (Op.assign (Operand.const (Value.bool false))), 4, none⟩,
              ⟨(some 5), (Op.assign (Operand.const (Value.bool false))), 4, none⟩])
            .ret)
          .skip))
      (.seq
        (.draws [
          (⟨[10, 2, 2], [10, 11, 12, 13, 14, 15, 16, 17, 18, 19, 20, 21, 22, 23, 24, 25, 26, 27, 28, 29, 30, 31, 32, 33, 34, 35, 36, 37, 38, 4, 38, 38, 5], [10]⟩, ⟨(some 10), (Op.fieldAddr 28 (Operand.tmp 2) 0), 0, none⟩),
          (⟨[11, 10, 2], [10, 11, 12, 13, 14, 15, 16, 17, 18, 19, 20, 21, 22, 23, 24, 25, 26, 27, 28, 29, 30, 31, 32, 33, 34, 35, 36, 37, 38, 4, 38, 38, 5], [11]⟩, ⟨(some 11), (Op.load 3 (Operand.tmp 10)), 3, none⟩),
          (⟨[12, 3, 3], [10, 11, 12, 13, 14, 15, 16, 17, 18, 19, 20, 21, 22, 23, 24, 25, 26, 27, 28, 29, 30, 31, 32, 33, 34, 35, 36, 37, 38, 4, 38, 38, 5], [12]⟩, ⟨(some 12), (Op.fieldAddr 28 (Operand.tmp 3) 0), 0, none⟩),
          (⟨[13, 12, 3], [10, 11, 12, 13, 14, 15, 16, 17, 18, 19, 20, 21, 22, 23, 24, 25, 26, 27, 28, 29, 30, 31, 32, 33, 34, 35, 36, 37, 38, 4, 38, 38, 5], [13]⟩, ⟨(some 13), (Op.load 3 (Operand.tmp 12)), 3, none⟩),
          (⟨[14, 11, 13, 2, 3], [10, 11, 12, 13, 14, 15, 16, 17, 18, 19, 20, 21, 22, 23, 24, 25, 26, 27, 28, 29, 30, 31, 32, 33, 34, 35, 36, 37, 38, 4, 38, 38, 5], [14]⟩, ⟨(some 14), (Op.binOp BinOp.eql 3 (Operand.tmp 11) (Operand.tmp 13) 3), 4, none⟩),
          (⟨[15, 14, 14], [10, 11, 12, 13, 14, 15, 16, 17, 18, 19, 20, 21, 22, 23, 24, 25, 26, 27, 28, 29, 30, 31, 32, 33, 34, 35, 36, 37, 38, 4, 38, 38, 5], [15]⟩, ⟨(some 15), (Op.move (Operand.tmp 14)), 4, none⟩),
          (⟨[16, 2, 2, 15], [10, 11, 12, 13, 14, 15, 16, 17, 18, 19, 20, 21, 22, 23, 24, 25, 26, 27, 28, 29, 30, 31, 32, 33, 34, 35, 36, 37, 38, 4, 38, 38, 5], [16]⟩, ⟨(some 16), (Op.fieldAddr 28 (Operand.tmp 2) 2), 0, (some (some 15, true))⟩),
          (⟨[17, 16, 2, 15], [10, 11, 12, 13, 14, 15, 16, 17, 18, 19, 20, 21, 22, 23, 24, 25, 26, 27, 28, 29, 30, 31, 32, 33, 34, 35, 36, 37, 38, 4, 38, 38, 5], [17]⟩, ⟨(some 17), (Op.load 22 (Operand.tmp 16)), 22, (some (some 15, true))⟩),
          (⟨[18, 3, 3, 15], [10, 11, 12, 13, 14, 15, 16, 17, 18, 19, 20, 21, 22, 23, 24, 25, 26, 27, 28, 29, 30, 31, 32, 33, 34, 35, 36, 37, 38, 4, 38, 38, 5], [18]⟩, ⟨(some 18), (Op.fieldAddr 28 (Operand.tmp 3) 2), 0, (some (some 15, true))⟩),
          (⟨[19, 18, 3, 15], [10, 11, 12, 13, 14, 15, 16, 17, 18, 19, 20, 21, 22, 23, 24, 25, 26, 27, 28, 29, 30, 31, 32, 33, 34, 35, 36, 37, 38, 4, 38, 38, 5], [19]⟩, ⟨(some 19), (Op.load 22 (Operand.tmp 18)), 22, (some (some 15, true))⟩),
          (⟨[20, 17, 19, 2, 3, 15], [10, 11, 12, 13, 14, 15, 16, 17, 18, 19, 20, 21, 22, 23, 24, 25, 26, 27, 28, 29, 30, 31, 32, 33, 34, 35, 36, 37, 38, 4, 38, 38, 5], [20]⟩, ⟨(some 20), (Op.call { callee := (Callee.value (Operand.func 55)), args := #[(Operand.tmp 17), (Operand.tmp 19)], argTypes := #[22, 22] }), 22, (some (some 15, true))⟩),
          (⟨[21, 20, 20, 15], [10, 11, 12, 13, 14, 15, 16, 17, 18, 19, 20, 21, 22, 23, 24, 25, 26, 27, 28, 29, 30, 31, 32, 33, 34, 35, 36, 37, 38, 4, 38, 38, 5], [21]⟩, ⟨(some 21), (Op.call { callee := (Callee.builtin Builtin.len), args := #[(Operand.tmp 20)], argTypes := #[22] }), 3, (some (some 15, true))⟩),
          (⟨[22, 2, 2, 15], [10, 11, 12, 13, 14, 15, 16, 17, 18, 19, 20, 21, 22, 23, 24, 25, 26, 27, 28, 29, 30, 31, 32, 33, 34, 35, 36, 37, 38, 4, 38, 38, 5], [22]⟩, ⟨(some 22), (Op.fieldAddr 28 (Operand.tmp 2) 2), 0, (some (some 15, true))⟩),
          (⟨[23, 22, 2, 15], [10, 11, 12, 13, 14, 15, 16, 17, 18, 19, 20, 21, 22, 23, 24, 25, 26, 27, 28, 29, 30, 31, 32, 33, 34, 35, 36, 37, 38, 4, 38, 38, 5], [23]⟩, ⟨(some 23), (Op.load 22 (Operand.tmp 22)), 22, (some (some 15, true))⟩),
          (⟨[24, 23, 2, 15], [10, 11, 12, 13, 14, 15, 16, 17, 18, 19, 20, 21, 22, 23, 24, 25, 26, 27, 28, 29, 30, 31, 32, 33, 34, 35, 36, 37, 38, 4, 38, 38, 5], [24]⟩, ⟨(some 24), (Op.call { callee := (Callee.builtin Builtin.len), args := #[(Operand.tmp 23)], argTypes := #[22] }), 3, (some (some 15, true))⟩),
          (⟨[25, 21, 24, 21, 24, 15], [10, 11, 12, 13, 14, 15, 16, 17, 18, 19, 20, 21, 22, 23, 24, 25, 26, 27, 28, 29, 30, 31, 32, 33, 34, 35, 36, 37, 38, 4, 38, 38, 5], [25]⟩, ⟨(some 25), (Op.binOp BinOp.eql 3 (Operand.tmp 21) (Operand.tmp 24) 3), 4, (some (some 15, true))⟩),
          (⟨[26, 15, 25, 14, 25], [10, 11, 12, 13, 14, 15, 16, 17, 18, 19, 20, 21, 22, 23, 24, 25, 26, 27, 28, 29, 30, 31, 32, 33, 34, 35, 36, 37, 38, 4, 38, 38, 5], [26]⟩, ⟨(some 26), (Op.pick (Operand.tmp 15) (Operand.tmp 25) (Operand.const (Value.bool false))), 4, none⟩),
          (⟨[27, 26, 26], [10, 11, 12, 13, 14, 15, 16, 17, 18, 19, 20, 21, 22, 23, 24, 25, 26, 27, 28, 29, 30, 31, 32, 33, 34, 35, 36, 37, 38, 4, 38, 38, 5], [27]⟩, ⟨(some 27), (Op.move (Operand.tmp 26)), 4, none⟩),
          (⟨[28, 2, 2, 27], [10, 11, 12, 13, 14, 15, 16, 17, 18, 19, 20, 21, 22, 23, 24, 25, 26, 27, 28, 29, 30, 31, 32, 33, 34, 35, 36, 37, 38, 4, 38, 38, 5], [28]⟩, ⟨(some 28), (Op.fieldAddr 28 (Operand.tmp 2) 3), 0, (some (some 27, true))⟩),
          (⟨[29, 28, 2, 27], [10, 11, 12, 13, 14, 15, 16, 17, 18, 19, 20, 21, 22, 23, 24, 25, 26, 27, 28, 29, 30, 31, 32, 33, 34, 35, 36, 37, 38, 4, 38, 38, 5], [29]⟩, ⟨(some 29), (Op.load 22 (Operand.tmp 28)), 22, (some (some 27, true))⟩),
          (⟨[30, 3, 3, 27], [10, 11, 12, 13, 14, 15, 16, 17, 18, 19, 20, 21, 22, 23, 24, 25, 26, 27, 28, 29, 30, 31, 32, 33, 34, 35, 36, 37, 38, 4, 38, 38, 5], [30]⟩, ⟨(some 30), (Op.fieldAddr 28 (Operand.tmp 3) 3), 0, (some (some 27, true))⟩),
          (⟨[31, 30, 3, 27], [10, 11, 12, 13, 14, 15, 16, 17, 18, 19, 20, 21, 22, 23, 24, 25, 26, 27, 28, 29, 30, 31, 32, 33, 34, 35, 36, 37, 38, 4, 38, 38, 5], [31]⟩, ⟨(some 31), (Op.load 22 (Operand.tmp 30)), 22, (some (some 27, true))⟩),
          (⟨[32, 29, 31, 2, 3, 27], [10, 11, 12, 13, 14, 15, 16, 17, 18, 19, 20, 21, 22, 23, 24, 25, 26, 27, 28, 29, 30, 31, 32, 33, 34, 35, 36, 37, 38, 4, 38, 38, 5], [32]⟩, ⟨(some 32), (Op.call { callee := (Callee.value (Operand.func 55)), args := #[(Operand.tmp 29), (Operand.tmp 31)], argTypes := #[22, 22] }), 22, (some (some 27, true))⟩),
          (⟨[33, 32, 32, 27], [10, 11, 12, 13, 14, 15, 16, 17, 18, 19, 20, 21, 22, 23, 24, 25, 26, 27, 28, 29, 30, 31, 32, 33, 34, 35, 36, 37, 38, 4, 38, 38, 5], [33]⟩, ⟨(some 33), (Op.call { callee := (Callee.builtin Builtin.len), args := #[(Operand.tmp 32)], argTypes := #[22] }), 3, (some (some 27, true))⟩),
          (⟨[34, 2, 2, 27], [10, 11, 12, 13, 14, 15, 16, 17, 18, 19, 20, 21, 22, 23, 24, 25, 26, 27, 28, 29, 30, 31, 32, 33, 34, 35, 36, 37, 38, 4, 38, 38, 5], [34]⟩, ⟨(some 34), (Op.fieldAddr 28 (Operand.tmp 2) 3), 0, (some (some 27, true))⟩),
          (⟨[35, 34, 2, 27], [10, 11, 12, 13, 14, 15, 16, 17, 18, 19, 20, 21, 22, 23, 24, 25, 26, 27, 28, 29, 30, 31, 32, 33, 34, 35, 36, 37, 38, 4, 38, 38, 5], [35]⟩, ⟨(some 35), (Op.load 22 (Operand.tmp 34)), 22, (some (some 27, true))⟩),
          (⟨[36, 35, 2, 27], [10, 11, 12, 13, 14, 15, 16, 17, 18, 19, 20, 21, 22, 23, 24, 25, 26, 27, 28, 29, 30, 31, 32, 33, 34, 35, 36, 37, 38, 4, 38, 38, 5], [36]⟩, ⟨(some 36), (Op.call { callee := (Callee.builtin Builtin.len), args := #[(Operand.tmp 35)], argTypes := #[22] }), 3, (some (some 27, true))⟩),
          (⟨[37, 33, 36, 33, 36, 27], [10, 11, 12, 13, 14, 15, 16, 17, 18, 19, 20, 21, 22, 23, 24, 25, 26, 27, 28, 29, 30, 31, 32, 33, 34, 35, 36, 37, 38, 4, 38, 38, 5], [37]⟩, ⟨(some 37), (Op.binOp BinOp.eql 3 (Operand.tmp 33) (Operand.tmp 36) 3), 4, (some (some 27, true))⟩),
          (⟨[38, 27, 37, 26, 37], [10, 11, 12, 13, 14, 15, 16, 17, 18, 19, 20, 21, 22, 23, 24, 25, 26, 27, 28, 29, 30, 31, 32, 33, 34, 35, 36, 37, 38, 4, 38, 38, 5], [38]⟩, ⟨(some 38), (Op.pick (Operand.tmp 27) (Operand.tmp 37) (Operand.const (Value.bool false))), 4, none⟩),
          (⟨[4, 38, 38], [10, 11, 12, 13, 14, 15, 16, 17, 18, 19, 20, 21, 22, 23, 24, 25, 26, 27, 28, 29, 30, 31, 32, 33, 34, 35, 36, 37, 38, 4, 38, 38, 5], [4, 38, 38]⟩, ⟨(some 4), (Op.assign (Operand.tmp 38)), 4, none⟩),
          (⟨[5], [10, 11, 12, 13, 14, 15, 16, 17, 18, 19, 20, 21, 22, 23, 24, 25, 26, 27, 28, 29, 30, 31, 32, 33, 34, 35, 36, 37, 38, 4, 38, 38, 5], [5]⟩, ⟨(some 5), (Op.assign (Operand.const (Value.bool true))), 4, none⟩)])
        .ret))
theorem slim18 : Try.f18.body.map (slim lends) = some k18 := by kernel_rfl
theorem ok18 : fnOk Try.f18 2 = true := by kernel_rfl
theorem c18 {a l : List D} {r : D × List D} (h : wpD Y.env k18 (fin tys l.length [ResultVar.tmp 4, ResultVar.tmp 5] r) (entry a l)) (ha : a.length = 2) : Y.call 18 a l = some r :=
  call_slim (Y := Y) rfl Try.func18 (ha ▸ ok18) slim18 h
/-- laws.FnExactIsRestriction -/
def k3 : SC :=
  .seq
    (.ops [
      ⟨(some 2), (Op.box 24 (Operand.tmp 0)), 0, none⟩,
      ⟨(some 3), (Op.box 24 (Operand.tmp 1)), 0, none⟩,
      ⟨(some 4), (Op.assign (Operand.const (Value.bool false))), 4, none⟩])
    (.seq
      (.ops [
        ⟨(some 5), (Op.assign (Operand.const (Value.int IntKind.i64 1048576))), 3, none⟩])
      (.seq
        (.ops [
          ⟨(some 12), (Op.load 24 (Operand.tmp 2)), 24, none⟩,
          ⟨(some 13), (Op.move (Operand.tmp 5)), 3, none⟩,
          ⟨(some 14), (Op.call { callee := (Callee.value (Operand.func 15)), args := #[(Operand.tmp 12), (Operand.tmp 13)], argTypes := #[24, 3] }), 3, none⟩,
          ⟨(some 5), (Op.assign (Operand.tmp 14)), 3, none⟩])
        (.seq
          (.seq
            (.ops [
              ⟨(some 15), (Op.move (Operand.tmp 5)), 3, none⟩,
              ⟨(some 16), (Op.binOp BinOp.lss 3 (Operand.tmp 15) (Operand.const (Value.int IntKind.i64 0)) 3), 4, none⟩])
            (.cond (Operand.tmp 16)
              (.seq
                (.ops [
                  ⟨(some 4), (Op.assign (Operand.const (Value.bool true))), 4, none⟩])
                .ret)
              .skip))
          (.seq
            (.ops [
              ⟨(some 17), (Op.load 24 (Operand.tmp 3)), 24, none⟩,
              ⟨(some 18), (Op.move (Operand.tmp 5)), 3, none⟩,
              ⟨(some 19), (Op.call { callee := (Callee.value (Operand.func 15)), args := #[(Operand.tmp 17), (Operand.tmp 18)], argTypes := #[24, 3] }), 3, none⟩,
              ⟨(some 5), (Op.assign (Operand.tmp 19)), 3, none⟩])
            (.seq
              (.seq
                (.ops [
                  ⟨(some 20), (Op.move (Operand.tmp 5)), 3, none⟩,
                  ⟨(some 21), (Op.binOp BinOp.lss 3 (Operand.tmp 20) (Operand.const (Value.int IntKind.i64 0)) 3), 4, none⟩])
                (.cond (Operand.tmp 21)
                  (.seq
                    (.ops [
                      ⟨(some 4), (Op.assign (Operand.const (Value.bool true))), 4, none⟩])
                    .ret)
                  .skip))
              (.seq
                (.draws [
                  (⟨[23, 2, 2], [23, 24, 25, 26, 27, 22, 27, 28, 29, 6, 28, 27, 7, 29], [23]⟩, ⟨(some 23), (Op.load 24 (Operand.tmp 2)), 24, none⟩),
                  (⟨[24, 23, 2], [23, 24, 25, 26, 27, 22, 27, 28, 29, 6, 28, 27, 7, 29], [24]⟩, ⟨(some 24), (Op.call { callee := (Callee.value (Operand.func 17)), args := #[(Operand.tmp 23)], argTypes := #[24] }), 28, none⟩),
                  (⟨[25, 3, 3], [23, 24, 25, 26, 27, 22, 27, 28, 29, 6, 28, 27, 7, 29], [25]⟩, ⟨(some 25), (Op.load 24 (Operand.tmp 3)), 24, none⟩),
                  (⟨[26, 25, 3], [23, 24, 25, 26, 27, 22, 27, 28, 29, 6, 28, 27, 7, 29], [26]⟩, ⟨(some 26), (Op.call { callee := (Callee.value (Operand.func 17)), args := #[(Operand.tmp 25)], argTypes := #[24] }), 28, none⟩),
                  (⟨[27, 24, 26, 24, 26], [23, 24, 25, 26, 27, 22, 27, 28, 29, 6, 28, 27, 7, 29], [27]⟩, ⟨(some 27), (Op.call { callee := (Callee.value (Operand.func 16)), args := #[(Operand.tmp 24), (Operand.tmp 26)], argTypes := #[28, 28] }), 26, none⟩),
                  (⟨[22, 27, 27], [23, 24, 25, 26, 27, 22, 27, 28, 29, 6, 28, 27, 7, 29], [22, 27]⟩, ⟨(some 22), (Op.move (Operand.tmp 27)), 26, none⟩),
                  (⟨[28, 22], [23, 24, 25, 26, 27, 22, 27, 28, 29, 6, 28, 27, 7, 29], [28]⟩, ⟨(some 28), (Op.extract (Operand.tmp 22) 0), 4, none⟩),
                  (⟨[29, 22], [23, 24, 25, 26, 27, 22, 27, 28, 29, 6, 28, 27, 7, 29], [29]⟩, ⟨(some 29), (Op.extract (Operand.tmp 22) 1), 4, none⟩),
                  (⟨[6, 28, 27], [23, 24, 25, 26, 27, 22, 27, 28, 29, 6, 28, 27, 7, 29], [6, 28, 27]⟩, ⟨(some 6), (Op.assign (Operand.tmp 28)), 4, none⟩),
                  (⟨[7, 29], [23, 24, 25, 26, 27, 22, 27, 28, 29, 6, 28, 27, 7, 29], [7, 29]⟩, ⟨(some 7), (Op.assign (Operand.tmp 29)), 4, none⟩)])
                (.seq
                  (.ops [
                    ⟨(some 30), (Op.load 24 (Operand.tmp 2)), 24, none⟩,
                    ⟨(some 31), (Op.call { callee := (Callee.value (Operand.func 17)), args := #[(Operand.tmp 30)], argTypes := #[24] }), 28, none⟩,
                    ⟨(some 8), (Op.alloc 28), 0, none⟩,
                    ⟨none, (Op.store 28 (Operand.tmp 8) (Operand.tmp 31)), 0, none⟩])
                  (.seq
                    (.ops [
                      ⟨(some 32), (Op.load 24 (Operand.tmp 3)), 24, none⟩,
                      ⟨(some 33), (Op.call { callee := (Callee.value (Operand.func 17)), args := #[(Operand.tmp 32)], argTypes := #[24] }), 28, none⟩,
                      ⟨(some 9), (Op.alloc 28), 0, none⟩,
                      ⟨none, (Op.store 28 (Operand.tmp 9) (Operand.tmp 33)), 0, none⟩])
                    (.seq
                      (.ops [
                        ⟨(some 35), (Op.load 28 (Operand.tmp 8)), 28, none⟩,
                        ⟨(some 36), (Op.load 28 (Operand.tmp 9)), 28, none⟩,
                        ⟨(some 37), (Op.call { callee := (Callee.value (Operand.func 18)), args := #[(Operand.tmp 35), (Operand.tmp 36)], argTypes := #[28, 28] }), 26, none⟩,
                        ⟨(some 34), (Op.move (Operand.tmp 37)), 26, none⟩,
                        ⟨(some 38), (Op.extract (Operand.tmp 34) 0), 4, none⟩,
                        ⟨(some 39), (Op.extract (Operand.tmp 34) 1), 4, none⟩,
                        ⟨(some 10), (Op.assign (Operand.tmp 38)), 4, none⟩,
                        ⟨(some 11), (Op.assign (Operand.tmp 39)), 4, none⟩])
                      (.seq
                        (.seq
                          (.ops [
                            ⟨(some 40), (Op.move (Operand.tmp 10)), 4, none⟩,
                            ⟨(some 41), (Op.move (Operand.tmp 6)), 4, none⟩,
                            ⟨(some 42), (Op.binOp BinOp.neq 4 (Operand.tmp 40) (Operand.tmp 41) 4), 4, none⟩,
                            ⟨(some 43), (Op.move (Operand.tmp 42)), 4, none⟩,
                            ⟨(some 44), (Op.move (Operand.tmp 11)), 4, (some (some 43, false))⟩,
                            ⟨(some 45), (Op.move (Operand.tmp 7)), 4, (some (some 43, false))⟩,
                            ⟨(some 46), (Op.binOp BinOp.neq 4 (Operand.tmp 44) (Operand.tmp 45) 4), 4, (some (some 43, false))⟩,
                            ⟨(some 47), (Op.pick (Operand.tmp 43) (Operand.const (Value.bool true)) (Operand.tmp 46)), 4, none⟩])
                          (.cond (Operand.tmp 47)
                            (.seq
                              (.ops [
                                ⟨(some 4), (Op.assign (Operand.const (Value.bool false))), 4, none⟩])
                              .ret)
                            .skip))
                        (.seq
                          (.seq
                            (.draws [
                              (⟨[48, 8, 8], [48, 49, 50, 51, 52], [48]⟩, ⟨(some 48), (Op.load 28 (Operand.tmp 8)), 28, none⟩),
                              (⟨[49, 2, 2], [48, 49, 50, 51, 52], [49]⟩, ⟨(some 49), (Op.load 24 (Operand.tmp 2)), 24, none⟩),
                              (⟨[50, 49, 2], [48, 49, 50, 51, 52], [50]⟩, ⟨(some 50), (Op.call { callee := (Callee.value (Operand.func 17)), args := #[(Operand.tmp 49)], argTypes := #[24] }), 28, none⟩),
                              (⟨[51, 48, 50, 8, 50], [48, 49, 50, 51, 52], [51]⟩, ⟨(some 51), (Op.call { callee := (Callee.value (Operand.func 19)), args := #[(Operand.tmp 48), (Operand.tmp 50)], argTypes := #[28, 28] }), 4, none⟩),
                              (⟨[52, 51, 51], [48, 49, 50, 51, 52], [52]⟩, ⟨(some 52), (Op.unOp UnOp.not 4 (Operand.tmp 51)), 4, none⟩)])
                            (.cond (Operand.tmp 52)
                              (.seq
                                (.ops [
                                  ⟨(some 4), (Op.assign (Operand.const (Value.bool false))), 4, none⟩])
                                .ret)
                              .skip))
                          (.seq
                            (.seq
                              (.draws [
                                (⟨[53, 9, 9], [53, 54, 55, 56, 57], [53]⟩, ⟨(some 53), (Op.load 28 (Operand.tmp 9)), 28, none⟩),
                                (⟨[54, 3, 3], [53, 54, 55, 56, 57], [54]⟩, ⟨(some 54), (Op.load 24 (Operand.tmp 3)), 24, none⟩),
                                (⟨[55, 54, 3], [53, 54, 55, 56, 57], [55]⟩, ⟨(some 55), (Op.call { callee := (Callee.value (Operand.func 17)), args := #[(Operand.tmp 54)], argTypes := #[24] }), 28, none⟩),
                                (⟨[56, 53, 55, 9, 55], [53, 54, 55, 56, 57], [56]⟩, ⟨(some 56), (Op.call { callee := (Callee.value (Operand.func 19)), args := #[(Operand.tmp 53), (Operand.tmp 55)], argTypes := #[28, 28] }), 4, none⟩),
                                (⟨[57, 56, 56], [53, 54, 55, 56, 57], [57]⟩, ⟨(some 57), (Op.unOp UnOp.not 4 (Operand.tmp 56)), 4, none⟩)])
                              (.cond (Operand.tmp 57)
                                (.seq
                                  (.ops [
                                    ⟨(some 4), (Op.assign (Operand.const (Value.bool false))), 4, none⟩])
                                  .ret)
                                .skip))
                            (.seq
                              (.ops [
                                ⟨(some 4), (Op.assign (Operand.const (Value.bool true))), 4, none⟩])
                              .ret)))))))))))))
theorem slim3 : Try.f3.body.map (slim lends) = some k3 := by kernel_rfl
theorem ok3 : fnOk Try.f3 2 = true := by kernel_rfl
theorem c3 {a l : List D} {r : D × List D} (h : wpD Y.env k3 (fin tys l.length [ResultVar.tmp 4] r) (entry a l)) (ha : a.length = 2) : Y.call 3 a l = some r :=
  call_slim (Y := Y) rfl Try.func3 (ha ▸ ok3) slim3 h
end Go.Proofs.Ytjlphfbpaejicaa
