/- slices.Repeat of one element, as a plain function. Conditions: the number is small. -/
import Derived.Test.YthaimoghceamnaaL5
import Derived.Test.YthaimoghceamnaaIsP
namespace Go.Proofs.Ythaimoghceamnaa
open Go Dv
set_option linter.unusedSimpArgs false
set_option linter.unusedVariables false
set_option maxRecDepth 100000
set_option maxHeartbeats 4000000

theorem wru64 (n : Int) (h : 0 ≤ n ∧ n < 18446744073709551616) : IntKind.u64.wrap n = n := by
  unfold IntKind.wrap
  simp only [IntKind.signed, IntKind.bits]
  simp
  omega
theorem low32 (y : Int) (h : 0 ≤ y ∧ y < 1099511627776) : bitsD .and .u64 y 4294967295 = y % 4294967296 := by
  obtain ⟨n, rfl⟩ := Int.eq_ofNat_of_zero_le h.1
  have hn : n < 1099511627776 := by omega
  show IntKind.u64.wrap (((BitVec.ofInt 64 (n : Int) &&& BitVec.ofInt 64 4294967295).toNat : Nat) : Int) = _
  have e1 : (BitVec.ofInt 64 (n : Int)).toNat = n := by
    rw [BitVec.toNat_ofInt]
    omega
  have e2 : (BitVec.ofInt 64 4294967295).toNat = 4294967295 := by decide
  rw [BitVec.toNat_and, e1, e2]
  have e3 : n &&& 4294967295 = n % 4294967296 := Nat.and_two_pow_sub_one_eq_mod n 32
  rw [e3, wru64 _ (by omega)]
  rfl
noncomputable def g_math_bits_Mul64 (x_ : Int) (y : Int) : Option (Int × Int) :=
  some (IntKind.u64.wrap ((IntKind.u64.wrap ((IntKind.u64.wrap ((x_.fdiv (2 ^ (min 32 (IntKind.u64.bits)))) * (y.fdiv (2 ^ (min 32 (IntKind.u64.bits)))))) + ((IntKind.u64.wrap ((IntKind.u64.wrap ((x_.fdiv (2 ^ (min 32 (IntKind.u64.bits)))) * (bitsD .and .u64 y 4294967295))) + ((IntKind.u64.wrap ((bitsD .and .u64 x_ 4294967295) * (bitsD .and .u64 y 4294967295))).fdiv (2 ^ (min 32 (IntKind.u64.bits)))))).fdiv (2 ^ (min 32 (IntKind.u64.bits)))))) + ((IntKind.u64.wrap ((bitsD .and .u64 (IntKind.u64.wrap ((IntKind.u64.wrap ((x_.fdiv (2 ^ (min 32 (IntKind.u64.bits)))) * (bitsD .and .u64 y 4294967295))) + ((IntKind.u64.wrap ((bitsD .and .u64 x_ 4294967295) * (bitsD .and .u64 y 4294967295))).fdiv (2 ^ (min 32 (IntKind.u64.bits)))))) 4294967295) + (IntKind.u64.wrap ((bitsD .and .u64 x_ 4294967295) * (y.fdiv (2 ^ (min 32 (IntKind.u64.bits)))))))).fdiv (2 ^ (min 32 (IntKind.u64.bits))))), IntKind.u64.wrap (x_ * y))
/-- bits.Mul64 -/
def k98 : SC :=
  .seq
    (.ops [
      ⟨(some 4), (Op.assign (Operand.const (Value.int IntKind.u64 0))), 81, none⟩,
      ⟨(some 5), (Op.assign (Operand.const (Value.int IntKind.u64 0))), 81, none⟩])
    (.seq
      (.ops [
        ⟨(some 14), (Op.move (Operand.tmp 0)), 81, none⟩,
        ⟨(some 15), (Op.binOp BinOp.and 81 (Operand.tmp 14) (Operand.const (Value.int IntKind.u64 4294967295)) 81), 81, none⟩,
        ⟨(some 6), (Op.assign (Operand.tmp 15)), 81, none⟩])
      (.seq
        (.ops [
          ⟨(some 16), (Op.move (Operand.tmp 0)), 81, none⟩,
          ⟨(some 17), (Op.binOp BinOp.shr 81 (Operand.tmp 16) (Operand.const (Value.int IntKind.u64 32)) 68), 81, none⟩,
          ⟨(some 7), (Op.assign (Operand.tmp 17)), 81, none⟩])
        (.seq
          (.ops [
            ⟨(some 18), (Op.move (Operand.tmp 1)), 81, none⟩,
            ⟨(some 19), (Op.binOp BinOp.and 81 (Operand.tmp 18) (Operand.const (Value.int IntKind.u64 4294967295)) 81), 81, none⟩,
            ⟨(some 8), (Op.assign (Operand.tmp 19)), 81, none⟩])
          (.seq
            (.ops [
              ⟨(some 20), (Op.move (Operand.tmp 1)), 81, none⟩,
              ⟨(some 21), (Op.binOp BinOp.shr 81 (Operand.tmp 20) (Operand.const (Value.int IntKind.u64 32)) 68), 81, none⟩,
              ⟨(some 9), (Op.assign (Operand.tmp 21)), 81, none⟩])
            (.seq
              (.ops [
                ⟨(some 22), (Op.move (Operand.tmp 6)), 81, none⟩,
                ⟨(some 23), (Op.move (Operand.tmp 8)), 81, none⟩,
                ⟨(some 24), (Op.binOp BinOp.mul 81 (Operand.tmp 22) (Operand.tmp 23) 81), 81, none⟩,
                ⟨(some 10), (Op.assign (Operand.tmp 24)), 81, none⟩])
              (.seq
                (.ops [
                  ⟨(some 25), (Op.move (Operand.tmp 7)), 81, none⟩,
                  ⟨(some 26), (Op.move (Operand.tmp 8)), 81, none⟩,
                  ⟨(some 27), (Op.binOp BinOp.mul 81 (Operand.tmp 25) (Operand.tmp 26) 81), 81, none⟩,
                  ⟨(some 28), (Op.move (Operand.tmp 10)), 81, none⟩,
                  ⟨(some 29), (Op.binOp BinOp.shr 81 (Operand.tmp 28) (Operand.const (Value.int IntKind.u64 32)) 68), 81, none⟩,
                  ⟨(some 30), (Op.binOp BinOp.add 81 (Operand.tmp 27) (Operand.tmp 29) 81), 81, none⟩,
                  ⟨(some 11), (Op.assign (Operand.tmp 30)), 81, none⟩])
                (.seq
                  (.ops [
                    ⟨(some 31), (Op.move (Operand.tmp 11)), 81, none⟩,
                    ⟨(some 32), (Op.binOp BinOp.and 81 (Operand.tmp 31) (Operand.const (Value.int IntKind.u64 4294967295)) 81), 81, none⟩,
                    ⟨(some 12), (Op.assign (Operand.tmp 32)), 81, none⟩])
                  (.seq
                    (.ops [
                      ⟨(some 33), (Op.move (Operand.tmp 11)), 81, none⟩,
                      ⟨(some 34), (Op.binOp BinOp.shr 81 (Operand.tmp 33) (Operand.const (Value.int IntKind.u64 32)) 68), 81, none⟩,
                      ⟨(some 13), (Op.assign (Operand.tmp 34)), 81, none⟩])
                    (.seq
                      (.ops [
                        ⟨(some 35), (Op.move (Operand.tmp 12)), 81, none⟩,
                        ⟨(some 36), (Op.move (Operand.tmp 6)), 81, none⟩,
                        ⟨(some 37), (Op.move (Operand.tmp 9)), 81, none⟩,
                        ⟨(some 38), (Op.binOp BinOp.mul 81 (Operand.tmp 36) (Operand.tmp 37) 81), 81, none⟩,
                        ⟨(some 39), (Op.binOp BinOp.add 81 (Operand.tmp 35) (Operand.tmp 38) 81), 81, none⟩,
                        ⟨(some 12), (Op.assign (Operand.tmp 39)), 81, none⟩])
                      (.seq
                        (.ops [
                          ⟨(some 40), (Op.move (Operand.tmp 7)), 81, none⟩,
                          ⟨(some 41), (Op.move (Operand.tmp 9)), 81, none⟩,
                          ⟨(some 42), (Op.binOp BinOp.mul 81 (Operand.tmp 40) (Operand.tmp 41) 81), 81, none⟩,
                          ⟨(some 43), (Op.move (Operand.tmp 13)), 81, none⟩,
                          ⟨(some 44), (Op.binOp BinOp.add 81 (Operand.tmp 42) (Operand.tmp 43) 81), 81, none⟩,
                          ⟨(some 45), (Op.move (Operand.tmp 12)), 81, none⟩,
                          ⟨(some 46), (Op.binOp BinOp.shr 81 (Operand.tmp 45) (Operand.const (Value.int IntKind.u64 32)) 68), 81, none⟩,
                          ⟨(some 47), (Op.binOp BinOp.add 81 (Operand.tmp 44) (Operand.tmp 46) 81), 81, none⟩,
                          ⟨(some 4), (Op.assign (Operand.tmp 47)), 81, none⟩])
                        (.seq
                          (.ops [
                            ⟨(some 48), (Op.move (Operand.tmp 0)), 81, none⟩,
                            ⟨(some 49), (Op.move (Operand.tmp 1)), 81, none⟩,
                            ⟨(some 50), (Op.binOp BinOp.mul 81 (Operand.tmp 48) (Operand.tmp 49) 81), 81, none⟩,
                            ⟨(some 5), (Op.assign (Operand.tmp 50)), 81, none⟩])
                          .ret)))))))))))
theorem slim98 : Try.f98.body.map (slim lends) = some k98 := by kernel_rfl
theorem ok98 : fnOk Try.f98 2 = true := by kernel_rfl
theorem c98 {a l : List D} {r : D × List D} (h : wpD Y.env k98 (fin tys l.length [ResultVar.tmp 4, ResultVar.tmp 5] r) (entry a l)) (ha : a.length = 2) : Y.call 98 a l = some r :=
  call_slim (Y := Y) rfl Try.func98 (ha ▸ ok98) slim98 h
theorem g_math_bits_Mul64_call (x_ : Int) (y : Int) {r : Int × Int} (h : g_math_bits_Mul64 x_ y = some r) : Y.call 98 [D.int .u64 x_, D.int .u64 y] [] = some (D.tup [D.int .u64 r.1, D.int .u64 r.2], []) := by
  refine c98 ?_ rfl
  unfold k98
  unfold g_math_bits_Mul64 at h
  obtain rfl := Option.some.inj h
  simp (maxDischargeDepth := 9) only [↓xpre, xpost, xlst, xcore, yset, rg0, ↓reduceIte, Nat.reduceEqDiff, Nat.reduceLT, Nat.reduceLeDiff, Nat.reduceAdd, Nat.reduceMul, Nat.reduceMod, Nat.reduceSub, Nat.reduceBEq, Int.reduceLE, Int.reduceLT, Int.reduceEq, Int.reduceSub, Int.reduceAdd, Int.reduceToNat, Int.reduceNeg] <;> (repeat' apply And.intro) <;> first | rfl | exact ⟨_, rfl⟩ | simp [lst]

noncomputable def g_math_bits_Mul (x_ : Int) (y : Int) : Option (Int × Int) :=
  (g_math_bits_Mul64 x_ y).bind fun r1_ =>
  some (r1_.1, r1_.2)
/-- bits.Mul -/
def k85 : SC :=
  .seq
    (.ops [
      ⟨(some 4), (Op.assign (Operand.const (Value.int IntKind.u64 0))), 68, none⟩,
      ⟨(some 5), (Op.assign (Operand.const (Value.int IntKind.u64 0))), 68, none⟩])
    (.seq
      (.cond (Operand.const (Value.bool false))
        (.seq
          (.ops [
            ⟨(some 11), (Op.move (Operand.tmp 0)), 68, none⟩,
            ⟨(some 12), (Op.convert 68 78 (Operand.tmp 11)), 78, none⟩,
            ⟨(some 13), (Op.move (Operand.tmp 1)), 68, none⟩,
            ⟨(some 14), (Op.convert 68 78 (Operand.tmp 13)), 78, none⟩,
            ⟨(some 15), (Op.call { callee := (Callee.value (Operand.func 97)), args := #[(Operand.tmp 12), (Operand.tmp 14)], argTypes := #[78, 78] }), 79, none⟩,
            ⟨(some 10), (Op.move (Operand.tmp 15)), 79, none⟩,
            ⟨(some 16), (Op.extract (Operand.tmp 10) 0), 78, none⟩,
            ⟨(some 17), (Op.extract (Operand.tmp 10) 1), 78, none⟩,
            ⟨(some 6), (Op.assign (Operand.tmp 16)), 78, none⟩,
            ⟨(some 7), (Op.assign (Operand.tmp 17)), 78, none⟩])
          (.seq
            (.ops [
              ⟨(some 18), (Op.move (Operand.tmp 6)), 78, none⟩,
              ⟨(some 19), (Op.convert 78 68 (Operand.tmp 18)), 68, none⟩,
              ⟨(some 20), (Op.move (Operand.tmp 7)), 78, none⟩,
              ⟨(some 21), (Op.convert 78 68 (Operand.tmp 20)), 68, none⟩,
              ⟨(some 4), (Op.assign (Operand.tmp 19)), 68, none⟩,
              ⟨(some 5), (Op.assign (Operand.tmp 21)), 68, none⟩])
            .ret))
        .skip)
      (.seq
        (.ops [
          ⟨(some 23), (Op.move (Operand.tmp 0)), 68, none⟩,
          ⟨(some 24), (Op.move (Operand.tmp 1)), 68, none⟩,
          ⟨(some 25), (Op.call { callee := (Callee.value (Operand.func 98)), args := #[(Operand.tmp 23), (Operand.tmp 24)], argTypes := #[81, 81] }), 82, none⟩,
          ⟨(some 22), (Op.move (Operand.tmp 25)), 82, none⟩,
          ⟨(some 26), (Op.extract (Operand.tmp 22) 0), 81, none⟩,
          ⟨(some 27), (Op.extract (Operand.tmp 22) 1), 81, none⟩,
          ⟨(some 8), (Op.assign (Operand.tmp 26)), 81, none⟩,
          ⟨(some 9), (Op.assign (Operand.tmp 27)), 81, none⟩])
        (.seq
          (.ops [
            ⟨(some 28), (Op.move (Operand.tmp 8)), 81, none⟩,
            ⟨(some 29), (Op.move (Operand.tmp 9)), 81, none⟩,
            ⟨(some 4), (Op.assign (Operand.tmp 28)), 68, none⟩,
            ⟨(some 5), (Op.assign (Operand.tmp 29)), 68, none⟩])
          .ret)))
theorem slim85 : Try.f85.body.map (slim lends) = some k85 := by kernel_rfl
theorem ok85 : fnOk Try.f85 2 = true := by kernel_rfl
theorem c85 {a l : List D} {r : D × List D} (h : wpD Y.env k85 (fin tys l.length [ResultVar.tmp 4, ResultVar.tmp 5] r) (entry a l)) (ha : a.length = 2) : Y.call 85 a l = some r :=
  call_slim (Y := Y) rfl Try.func85 (ha ▸ ok85) slim85 h
theorem g_math_bits_Mul_call (x_ : Int) (y : Int) {r : Int × Int} (h : g_math_bits_Mul x_ y = some r) : Y.call 85 [D.int .u64 x_, D.int .u64 y] [] = some (D.tup [D.int .u64 r.1, D.int .u64 r.2], []) := by
  refine c85 ?_ rfl
  unfold k85
  unfold g_math_bits_Mul at h
  obtain ⟨r1_, hl1, h⟩ := bindS h
  try dsimp only at h
  have c1 := g_math_bits_Mul64_call x_ y hl1
  obtain rfl := Option.some.inj h
  simp (maxDischargeDepth := 9) only [↓xpre, xpost, xlst, xcore, yset, rg0, ↓reduceIte, Nat.reduceEqDiff, Nat.reduceLT, Nat.reduceLeDiff, Nat.reduceAdd, Nat.reduceMul, Nat.reduceMod, Nat.reduceSub, Nat.reduceBEq, Int.reduceLE, Int.reduceLT, Int.reduceEq, Int.reduceSub, Int.reduceAdd, Int.reduceToNat, Int.reduceNeg, c1] <;> (repeat' apply And.intro) <;> first | rfl | exact ⟨_, rfl⟩ | simp [lst]

theorem mul_one (n : Int) (h : 0 ≤ n ∧ n < 1099511627776) : g_math_bits_Mul 1 n = some (0, n) := by
  unfold g_math_bits_Mul g_math_bits_Mul64
  have e32 : (2 : Int) ^ (min 32 (IntKind.u64.bits)) = 4294967296 := rfl
  have a1 : Int.fdiv 1 4294967296 = 0 := by decide
  have a2 : bitsD .and .u64 1 4294967295 = 1 := by decide
  have a3 : Int.fdiv n 4294967296 = n / 4294967296 := Int.fdiv_eq_ediv_of_nonneg _ (by decide)
  have w0 : IntKind.u64.wrap 0 = 0 := by decide
  have a4 : Int.fdiv 0 4294967296 = 0 := by decide
  have a5 : bitsD .and .u64 0 4294967295 = 0 := by decide
  have a6 : IntKind.u64.wrap (n % 4294967296) = n % 4294967296 := wru64 _ (by omega)
  have a7 : Int.fdiv (n % 4294967296) 4294967296 = 0 := by rw [Int.fdiv_eq_ediv_of_nonneg _ (by decide)]; omega
  have a8 : IntKind.u64.wrap (n / 4294967296) = n / 4294967296 := wru64 _ (by omega)
  have a9 : Int.fdiv (n / 4294967296) 4294967296 = 0 := by rw [Int.fdiv_eq_ediv_of_nonneg _ (by decide)]; omega
  have aA : IntKind.u64.wrap n = n := wru64 _ (by omega)
  simp only [e32, a1, a2, low32 n h, a3, Int.zero_mul, Int.one_mul, w0, Option.bind_some, Int.zero_add, a4, a5, a6, a7, a8, a9, aA]
noncomputable def g_slices_Repeat_Sint_int_l0_S (newslice : List Int) (n_ : Int) : Option (((List Int) × Int) ⊕ ((List Int))) :=
  if n_ < (newslice.length : Int) then
    ck (0 ≤ n_) <|
    ck (n_.toNat ≤ newslice.length) <|
    ck (n_.toNat + (newslice.length - n_.toNat) ≤ newslice.length) <|
    ck (0 + (n_.toNat - 0) ≤ newslice.length) <|
    some (Sum.inl ((spl newslice n_.toNat (((newslice.drop 0).take (n_.toNat - 0)).take (min (newslice.length - n_.toNat) ((newslice.drop 0).take (n_.toNat - 0)).length))), IntKind.i64.wrap (n_ + (((min (newslice.length - n_.toNat) ((newslice.drop 0).take (n_.toNat - 0)).length) : Nat) : Int))))
  else
    some (Sum.inr newslice)
noncomputable def g_slices_Repeat_Sint_int_l0 (v : (List Int) × Int) : Option ((List Int)) := itO (fun v => g_slices_Repeat_Sint_int_l0_S v.1 v.2) v
noncomputable def g_slices_Repeat_Sint_int (x_ : List Int) (count : Int) : Option ((List Int)) :=
  if count < 0 then
    none
  else
    (g_math_bits_Mul (IntKind.u64.wrap (x_.length : Int)) (IntKind.u64.wrap count)).bind fun r2_ =>
    if 0 < r2_.1 then
      none
    else
      if 9223372036854775807 < r2_.2 then
        none
      else
        ck (0 ≤ IntKind.i64.wrap r2_.2 ∧ IntKind.i64.wrap r2_.2 < 1099511627776) <|
        (g_slices_Repeat_Sint_int_l0 ((spl (List.replicate (IntKind.i64.wrap r2_.2).toNat 0) 0 (x_.take (min ((List.replicate (IntKind.i64.wrap r2_.2).toNat 0).length) x_.length))), (((min ((List.replicate (IntKind.i64.wrap r2_.2).toNat 0).length) x_.length) : Nat) : Int))).bind fun r7_ =>
        some r7_
/-- slices.Repeat[[]int,int] -/
def k67_l0b : SC :=
  .seq
    (.seq
      (.ops [
        ⟨(some 34), (Op.move (Operand.tmp 8)), 3, none⟩,
        ⟨(some 35), (Op.move (Operand.tmp 7)), 25, none⟩,
        ⟨(some 36), (Op.call { callee := (Callee.builtin Builtin.len), args := #[(Operand.tmp 35)], argTypes := #[25] }), 3, none⟩,
        ⟨(some 37), (Op.binOp BinOp.lss 3 (Operand.tmp 34) (Operand.tmp 36) 3), 4, none⟩])
      (.cond (Operand.tmp 37)
        .skip
        (.exit 0)))
    (.block 1
      (.draws [
        (⟨[38, 8, 8], [38, 39, 40, 41, 42, 43, 44, 45, 41, 44, 7, 7, 46, 8, 46, 46], [38]⟩, ⟨(some 38), (Op.move (Operand.tmp 8)), 3, none⟩),
        (⟨[39, 7, 7], [38, 39, 40, 41, 42, 43, 44, 45, 41, 44, 7, 7, 46, 8, 46, 46], [39]⟩, ⟨(some 39), (Op.move (Operand.tmp 7)), 25, none⟩),
        (⟨[40, 8, 8], [38, 39, 40, 41, 42, 43, 44, 45, 41, 44, 7, 7, 46, 8, 46, 46], [40]⟩, ⟨(some 40), (Op.move (Operand.tmp 8)), 3, none⟩),
        (⟨[41, 39, 40, 7, 8], [38, 39, 40, 41, 42, 43, 44, 45, 41, 44, 7, 7, 46, 8, 46, 46], [41]⟩, ⟨(some 41), (Op.slice 25 (Operand.tmp 39) (some (Operand.tmp 40)) none none), 25, none⟩),
        (⟨[42, 7, 7], [38, 39, 40, 41, 42, 43, 44, 45, 41, 44, 7, 7, 46, 8, 46, 46], [42]⟩, ⟨(some 42), (Op.move (Operand.tmp 7)), 25, none⟩),
        (⟨[43, 8, 8], [38, 39, 40, 41, 42, 43, 44, 45, 41, 44, 7, 7, 46, 8, 46, 46], [43]⟩, ⟨(some 43), (Op.move (Operand.tmp 8)), 3, none⟩),
        (⟨[44, 42, 43, 7, 8], [38, 39, 40, 41, 42, 43, 44, 45, 41, 44, 7, 7, 46, 8, 46, 46], [44]⟩, ⟨(some 44), (Op.slice 25 (Operand.tmp 42) none (some (Operand.tmp 43)) none), 25, none⟩),
        (⟨[45, 41, 44, 7, 7], [38, 39, 40, 41, 42, 43, 44, 45, 41, 44, 7, 7, 46, 8, 46, 46], [45, 41, 44, 7, 7]⟩, ⟨(some 45), (Op.call { callee := (Callee.builtin Builtin.copy), args := #[(Operand.tmp 41), (Operand.tmp 44)], argTypes := #[25, 25] }), 3, none⟩),
        (⟨[46, 38, 45, 8, 45], [38, 39, 40, 41, 42, 43, 44, 45, 41, 44, 7, 7, 46, 8, 46, 46], [46]⟩, ⟨(some 46), (Op.binOp BinOp.add 3 (Operand.tmp 38) (Operand.tmp 45) 3), 3, none⟩),
        (⟨[8, 46, 46], [38, 39, 40, 41, 42, 43, 44, 45, 41, 44, 7, 7, 46, 8, 46, 46], [8, 46, 46]⟩, ⟨(some 8), (Op.assign (Operand.tmp 46)), 3, none⟩)]))
def k67_l0 : SC := .loop k67_l0b
def k67 : SC :=
  .seq
    (.ops [
      ⟨(some 4), (Op.assign (Operand.const (Value.slice none 0 0))), 25, none⟩])
    (.seq
      (.seq
        (.ops [
          ⟨(some 9), (Op.move (Operand.tmp 1)), 3, none⟩,
          ⟨(some 10), (Op.binOp BinOp.lss 3 (Operand.tmp 9) (Operand.const (Value.int IntKind.i64 0)) 3), 4, none⟩])
        (.cond (Operand.tmp 10)
          (.ops [
            ⟨(some 11), (Op.makeInterface 9 (Operand.const (Value.string { data := #[99, 97, 110, 110, 111, 116, 32, 98, 101, 32, 110, 101, 103, 97, 116, 105, 118, 101] }))), 20, none⟩,
            ⟨none, (Op.panic (Operand.tmp 11)), 0, none⟩])
          .skip))
      (.seq
        (.ops [
          ⟨(some 13), (Op.move (Operand.tmp 0)), 25, none⟩,
          ⟨(some 14), (Op.call { callee := (Callee.builtin Builtin.len), args := #[(Operand.tmp 13)], argTypes := #[25] }), 3, none⟩,
          ⟨(some 15), (Op.convert 3 68 (Operand.tmp 14)), 68, none⟩,
          ⟨(some 16), (Op.move (Operand.tmp 1)), 3, none⟩,
          ⟨(some 17), (Op.convert 3 68 (Operand.tmp 16)), 68, none⟩,
          ⟨(some 18), (Op.call { callee := (Callee.value (Operand.func 85)), args := #[(Operand.tmp 15), (Operand.tmp 17)], argTypes := #[68, 68] }), 69, none⟩,
          ⟨(some 12), (Op.move (Operand.tmp 18)), 69, none⟩,
          ⟨(some 19), (Op.extract (Operand.tmp 12) 0), 68, none⟩,
          ⟨(some 20), (Op.extract (Operand.tmp 12) 1), 68, none⟩,
          ⟨(some 5), (Op.assign (Operand.tmp 19)), 68, none⟩,
          ⟨(some 6), (Op.assign (Operand.tmp 20)), 68, none⟩])
        (.seq
          (.seq
            (.ops [
              ⟨(some 21), (Op.move (Operand.tmp 5)), 68, none⟩,
              ⟨(some 22), (Op.binOp BinOp.gtr 68 (Operand.tmp 21) (Operand.const (Value.int IntKind.u64 0)) 68), 4, none⟩,
              ⟨(some 23), (Op.move (Operand.tmp 22)), 4, none⟩,
              ⟨(some 24), (Op.move (Operand.tmp 6)), 68, (some (some 23, false))⟩,
              ⟨(some 25), (Op.binOp BinOp.gtr 68 (Operand.tmp 24) (Operand.const (Value.int IntKind.u64 9223372036854775807)) 68), 4, (some (some 23, false))⟩,
              ⟨(some 26), (Op.pick (Operand.tmp 23) (Operand.const (Value.bool true)) (Operand.tmp 25)), 4, none⟩])
            (.cond (Operand.tmp 26)
              (.ops [
                ⟨(some 27), (Op.makeInterface 9 (Operand.const (Value.string { data := #[116, 104, 101, 32, 114, 101, 115, 117, 108, 116, 32, 111, 102, 32, 40, 108, 101, 110, 40, 120, 41, 32, 42, 32, 99, 111, 117, 110, 116, 41, 32, 111, 118, 101, 114, 102, 108, 111, 119, 115] }))), 20, none⟩,
                ⟨none, (Op.panic (Operand.tmp 27)), 0, none⟩])
              .skip))
          (.seq
            (.ops [
              ⟨(some 28), (Op.move (Operand.tmp 6)), 68, none⟩,
              ⟨(some 29), (Op.convert 68 3 (Operand.tmp 28)), 3, none⟩,
              ⟨(some 30), (Op.makeSlice 25 (Operand.tmp 29) (Operand.tmp 29)), 25, none⟩,
              ⟨(some 7), (Op.assign (Operand.tmp 30)), 25, none⟩])
            (.seq
              (.ops [
                ⟨(some 31), (Op.move (Operand.tmp 7)), 25, none⟩,
                ⟨(some 32), (Op.move (Operand.tmp 0)), 25, none⟩,
                ⟨(some 33), (Op.call { callee := (Callee.builtin Builtin.copy), args := #[(Operand.tmp 31), (Operand.tmp 32)], argTypes := #[25, 25] }), 3, none⟩,
                ⟨(some 8), (Op.assign (Operand.tmp 33)), 3, none⟩])
              (.seq
                (.block 0
                  k67_l0)
                (.seq
                  (.ops [
                    ⟨(some 47), (Op.move (Operand.tmp 7)), 25, none⟩,
                    ⟨(some 4), (Op.assign (Operand.tmp 47)), 25, none⟩])
                  .ret)))))))
theorem slim67 : Try.f67.body.map (slim lends) = some k67 := by kernel_rfl
theorem ok67 : fnOk Try.f67 2 = true := by kernel_rfl
theorem c67 {a l : List D} {r : D × List D} (h : wpD Y.env k67 (fin tys l.length [ResultVar.tmp 4] r) (entry a l)) (ha : a.length = 2) : Y.call 67 a l = some r :=
  call_slim (Y := Y) rfl Try.func67 (ha ▸ ok67) slim67 h
def g_slices_Repeat_Sint_int_l0_M (newslice : List Int) (n_ : Int) (s : St) : Prop := s.v 7 = D.own 3 (lst (D.int .i64) newslice) ∧ s.v 8 = D.int .i64 n_
def g_slices_Repeat_Sint_int_l0_X (r : (List Int)) (ex : Ex) (s : St) : Prop := ex = .exit 0 ∧ s.v 7 = D.own 3 (lst (D.int .i64) r)
theorem g_slices_Repeat_Sint_int_l0_wp {v : (List Int) × Int} {s : St} {r : (List Int)} (h : g_slices_Repeat_Sint_int_l0 v = some r) (hM : g_slices_Repeat_Sint_int_l0_M v.1 v.2 s) : wpD Y.env k67_l0 (g_slices_Repeat_Sint_int_l0_X r) s := by
  unfold g_slices_Repeat_Sint_int_l0 at h
  refine wd_itO (c := k67_l0b) (fun v => g_slices_Repeat_Sint_int_l0_S v.1 v.2) (fun v s => g_slices_Repeat_Sint_int_l0_M v.1 v.2 s) (g_slices_Repeat_Sint_int_l0_X) ?_ h hM
  clear h hM s v r
  intro v s o hM h
  obtain ⟨newslice, n_⟩ := v
  dsimp only at h hM
  unfold g_slices_Repeat_Sint_int_l0_S at h
  unfold g_slices_Repeat_Sint_int_l0_M at hM
  obtain ⟨m0, m1⟩ := hM
  unfold k67_l0b
  by_cases e6 : n_ < (newslice.length : Int)
  · rw [if_pos e6] at h
    obtain ⟨e7, h⟩ := ckS h
    obtain ⟨e8, h⟩ := ckS h
    obtain ⟨e9, h⟩ := ckS h
    obtain ⟨e10, h⟩ := ckS h
    obtain rfl := Option.some.inj h
    simp (maxDischargeDepth := 9) only [↓xpre, xpost, xlst, xcore, yset, rg0, ↓reduceIte, Nat.reduceEqDiff, Nat.reduceLT, Nat.reduceLeDiff, Nat.reduceAdd, Nat.reduceMul, Nat.reduceMod, Nat.reduceSub, Nat.reduceBEq, Int.reduceLE, Int.reduceLT, Int.reduceEq, Int.reduceSub, Int.reduceAdd, Int.reduceToNat, Int.reduceNeg, m0, m1, e6, e7, e8, e9, e10, g_slices_Repeat_Sint_int_l0_M, g_slices_Repeat_Sint_int_l0_X, sxN, sxE, sxR] <;> (repeat' apply And.intro) <;> first | rfl | exact ⟨_, rfl⟩ | simp [lst]
  · rw [if_neg e6] at h
    obtain rfl := Option.some.inj h
    simp (maxDischargeDepth := 9) only [↓xpre, xpost, xlst, xcore, yset, rg0, ↓reduceIte, Nat.reduceEqDiff, Nat.reduceLT, Nat.reduceLeDiff, Nat.reduceAdd, Nat.reduceMul, Nat.reduceMod, Nat.reduceSub, Nat.reduceBEq, Int.reduceLE, Int.reduceLT, Int.reduceEq, Int.reduceSub, Int.reduceAdd, Int.reduceToNat, Int.reduceNeg, m0, m1, e6, g_slices_Repeat_Sint_int_l0_M, g_slices_Repeat_Sint_int_l0_X, sxN, sxE, sxR] <;> (repeat' apply And.intro) <;> first | rfl | exact ⟨_, rfl⟩ | simp [lst]
theorem g_slices_Repeat_Sint_int_call (x_ : List Int) (count : Int) {r : (List Int)} (h : g_slices_Repeat_Sint_int x_ count = some r) : Y.call 67 [D.sl 3 (lst (D.int .i64) x_), D.int .i64 count] [] = some (D.own 3 (lst (D.int .i64) r), []) := by
  refine c67 ?_ rfl
  unfold k67
  unfold g_slices_Repeat_Sint_int at h
  by_cases e1 : count < 0
  · rw [if_pos e1] at h
    cases h
  · rw [if_neg e1] at h
    obtain ⟨r2_, hl2, h⟩ := bindS h
    try dsimp only at h
    have c2 := g_math_bits_Mul_call (IntKind.u64.wrap (x_.length : Int)) (IntKind.u64.wrap count) hl2
    by_cases e3 : 0 < r2_.1
    · rw [if_pos e3] at h
      cases h
    · rw [if_neg e3] at h
      by_cases e4 : 9223372036854775807 < r2_.2
      · rw [if_pos e4] at h
        cases h
      · rw [if_neg e4] at h
        obtain ⟨e5, h⟩ := ckS h
        obtain ⟨r7_, hl7, h⟩ := bindS h
        try dsimp only at h
        simp (maxDischargeDepth := 9) only [↓xpre, xpost, xlst, xcore, yset, rg0, ↓reduceIte, Nat.reduceEqDiff, Nat.reduceLT, Nat.reduceLeDiff, Nat.reduceAdd, Nat.reduceMul, Nat.reduceMod, Nat.reduceSub, Nat.reduceBEq, Int.reduceLE, Int.reduceLT, Int.reduceEq, Int.reduceSub, Int.reduceAdd, Int.reduceToNat, Int.reduceNeg, e1, c2, e3, e4, e5.1, e5.2]
        refine wd_mono (g_slices_Repeat_Sint_int_l0_wp  hl7 ?_) ?_
        · simp (maxDischargeDepth := 9) only [↓xpre, xpost, xlst, xcore, yset, rg0, ↓reduceIte, Nat.reduceEqDiff, Nat.reduceLT, Nat.reduceLeDiff, Nat.reduceAdd, Nat.reduceMul, Nat.reduceMod, Nat.reduceSub, Nat.reduceBEq, Int.reduceLE, Int.reduceLT, Int.reduceEq, Int.reduceSub, Int.reduceAdd, Int.reduceToNat, Int.reduceNeg, e1, c2, e3, e4, e5.1, e5.2, g_slices_Repeat_Sint_int_l0_M] <;> (repeat' apply And.intro) <;> first | rfl | exact ⟨_, rfl⟩ | simp [lst]
        · intro ex7 s7 hX7
          unfold g_slices_Repeat_Sint_int_l0_X at hX7
          obtain ⟨rfl, n7_0⟩ := hX7
          obtain rfl := Option.some.inj h
          simp (maxDischargeDepth := 9) only [↓xpre, xpost, xlst, xcore, yset, rg0, ↓reduceIte, Nat.reduceEqDiff, Nat.reduceLT, Nat.reduceLeDiff, Nat.reduceAdd, Nat.reduceMul, Nat.reduceMod, Nat.reduceSub, Nat.reduceBEq, Int.reduceLE, Int.reduceLT, Int.reduceEq, Int.reduceSub, Int.reduceAdd, Int.reduceToNat, Int.reduceNeg, e1, c2, e3, e4, e5.1, e5.2, n7_0] <;> (repeat' apply And.intro) <;> first | rfl | exact ⟨_, rfl⟩ | simp [lst]

theorem repI_loop (x : Int) (N : Nat) (hN : N < 1099511627776) (l : List Int) (k : Nat) (hl : l.length = N) (hk : k ≤ N) (h1 : 0 < k ∨ N = 0) (he : l.take k = List.replicate k x) : g_slices_Repeat_Sint_int_l0 (l, (k : Int)) = some (List.replicate N x) := by
  have step : ∀ (m : Nat) (v : List Int × Int), (∃ k : Nat, v.2 = (k : Int) ∧ m = N - k ∧ v.1.length = N ∧ k ≤ N ∧ (0 < k ∨ N = 0) ∧ v.1.take k = List.replicate k x) →
      (∃ s' m', g_slices_Repeat_Sint_int_l0_S v.1 v.2 = some (.inl s') ∧ m' < m ∧ ∃ k : Nat, s'.2 = (k : Int) ∧ m' = N - k ∧ s'.1.length = N ∧ k ≤ N ∧ (0 < k ∨ N = 0) ∧ s'.1.take k = List.replicate k x) ∨ (∃ r, g_slices_Repeat_Sint_int_l0_S v.1 v.2 = some (.inr r) ∧ r = List.replicate N x) := by
    rintro m ⟨l, kk⟩ ⟨k, hkk, rfl, hl, hk, h1, he⟩
    simp only at hl he hkk
    subst hkk
    by_cases hlt : k < N
    · left
      have hk0 : 0 < k := by omega
      have e0 : ((l.drop 0).take (k - 0)) = List.replicate k x := by rw [List.drop_zero, Nat.sub_zero, he]
      refine ⟨_, N - (k + min (N - k) k), by
        simp only [g_slices_Repeat_Sint_int_l0_S]
        rw [hl, if_pos (by omega), ckT (by omega), Int.toNat_natCast, ckT (by omega), ckT (by omega), ckT (by omega), e0, List.length_replicate], by omega, k + min (N - k) k, ?_, rfl, ?_, by omega, by omega, ?_⟩
      · rw [wr64 _ (by omega)]; omega
      · simp only
        rw [spl_eq _ _ _ (by simp; omega)]; simp; omega
      · simp only
        rw [spl_eq _ _ _ (by simp; omega), List.take_replicate, he, List.length_replicate, ← List.append_assoc, show min (min (N - k) k) k = min (N - k) k by omega, List.replicate_append_replicate, List.take_append_of_le_length (by simp), List.take_of_length_le (by simp)]
    · right
      have hkN : k = N := by omega
      subst hkN
      refine ⟨l, ?_, ?_⟩
      · simp only [g_slices_Repeat_Sint_int_l0_S]; rw [if_neg (by omega)]
      · rw [← he, List.take_of_length_le (by omega)]
  obtain ⟨r, h2, h3⟩ := itO_inv (fun v => g_slices_Repeat_Sint_int_l0_S v.1 v.2) (fun m v => ∃ k : Nat, v.2 = (k : Int) ∧ m = N - k ∧ v.1.length = N ∧ k ≤ N ∧ (0 < k ∨ N = 0) ∧ v.1.take k = List.replicate k x) (fun r => r = List.replicate N x) step (N - k) (l, (k : Int)) ⟨k, rfl, rfl, hl, hk, h1, he⟩
  unfold g_slices_Repeat_Sint_int_l0
  rw [h2, h3]
theorem repI_one (x : Int) (n : Int) (h : 0 ≤ n ∧ n < 1099511627776) : g_slices_Repeat_Sint_int [x] n = some (List.replicate n.toNat x) := by
  unfold g_slices_Repeat_Sint_int
  have e1 : IntKind.u64.wrap (([x] : List Int).length : Int) = 1 := by rw [wru64 _ (by simp)]; rfl
  rw [if_neg (by omega), e1, wru64 n (by omega), mul_one n h, Option.bind_some]
  simp only
  rw [if_neg (by decide), if_neg (by omega), wr64 n (by omega), ckT (by omega), List.length_replicate]
  rcases Nat.eq_zero_or_pos n.toNat with h0 | h0
  · rw [h0]
    rw [show min 0 ([x] : List Int).length = 0 by simp]
    have := repI_loop x 0 (by decide) [] 0 rfl (Nat.le_refl _) (.inr rfl) rfl
    simp only [List.replicate_zero, List.take_zero, spl, Int.natCast_zero] at this ⊢
    rw [this]; rfl
  · have e2 : min n.toNat ([x] : List Int).length = 1 := by simp; omega
    rw [e2]
    have e3 : spl (List.replicate n.toNat 0) 0 ([x].take 1) = x :: List.replicate (n.toNat - 1) 0 := by
      rw [spl_eq _ _ _ (by simp; omega)]; simp
    rw [e3, repI_loop x n.toNat (by omega) _ 1 (by simp; omega) (by omega) (.inl (by omega)) (by simp)]
    rfl
noncomputable def g_slices_Repeat_Sbool_bool_l0_S (newslice : List Bool) (n_ : Int) : Option (((List Bool) × Int) ⊕ ((List Bool))) :=
  if n_ < (newslice.length : Int) then
    ck (0 ≤ n_) <|
    ck (n_.toNat ≤ newslice.length) <|
    ck (n_.toNat + (newslice.length - n_.toNat) ≤ newslice.length) <|
    ck (0 + (n_.toNat - 0) ≤ newslice.length) <|
    some (Sum.inl ((spl newslice n_.toNat (((newslice.drop 0).take (n_.toNat - 0)).take (min (newslice.length - n_.toNat) ((newslice.drop 0).take (n_.toNat - 0)).length))), IntKind.i64.wrap (n_ + (((min (newslice.length - n_.toNat) ((newslice.drop 0).take (n_.toNat - 0)).length) : Nat) : Int))))
  else
    some (Sum.inr newslice)
noncomputable def g_slices_Repeat_Sbool_bool_l0 (v : (List Bool) × Int) : Option ((List Bool)) := itO (fun v => g_slices_Repeat_Sbool_bool_l0_S v.1 v.2) v
noncomputable def g_slices_Repeat_Sbool_bool (x_ : List Bool) (count : Int) : Option ((List Bool)) :=
  if count < 0 then
    none
  else
    (g_math_bits_Mul (IntKind.u64.wrap (x_.length : Int)) (IntKind.u64.wrap count)).bind fun r2_ =>
    if 0 < r2_.1 then
      none
    else
      if 9223372036854775807 < r2_.2 then
        none
      else
        ck (0 ≤ IntKind.i64.wrap r2_.2 ∧ IntKind.i64.wrap r2_.2 < 1099511627776) <|
        (g_slices_Repeat_Sbool_bool_l0 ((spl (List.replicate (IntKind.i64.wrap r2_.2).toNat false) 0 (x_.take (min ((List.replicate (IntKind.i64.wrap r2_.2).toNat false).length) x_.length))), (((min ((List.replicate (IntKind.i64.wrap r2_.2).toNat false).length) x_.length) : Nat) : Int))).bind fun r7_ =>
        some r7_
/-- slices.Repeat[[]bool,bool] -/
def k88_l0b : SC :=
  .seq
    (.seq
      (.ops [
        ⟨(some 34), (Op.move (Operand.tmp 8)), 3, none⟩,
        ⟨(some 35), (Op.move (Operand.tmp 7)), 72, none⟩,
        ⟨(some 36), (Op.call { callee := (Callee.builtin Builtin.len), args := #[(Operand.tmp 35)], argTypes := #[72] }), 3, none⟩,
        ⟨(some 37), (Op.binOp BinOp.lss 3 (Operand.tmp 34) (Operand.tmp 36) 3), 4, none⟩])
      (.cond (Operand.tmp 37)
        .skip
        (.exit 0)))
    (.block 1
      (.draws [
        (⟨[38, 8, 8], [38, 39, 40, 41, 42, 43, 44, 45, 41, 44, 7, 7, 46, 8, 46, 46], [38]⟩, ⟨(some 38), (Op.move (Operand.tmp 8)), 3, none⟩),
        (⟨[39, 7, 7], [38, 39, 40, 41, 42, 43, 44, 45, 41, 44, 7, 7, 46, 8, 46, 46], [39]⟩, ⟨(some 39), (Op.move (Operand.tmp 7)), 72, none⟩),
        (⟨[40, 8, 8], [38, 39, 40, 41, 42, 43, 44, 45, 41, 44, 7, 7, 46, 8, 46, 46], [40]⟩, ⟨(some 40), (Op.move (Operand.tmp 8)), 3, none⟩),
        (⟨[41, 39, 40, 7, 8], [38, 39, 40, 41, 42, 43, 44, 45, 41, 44, 7, 7, 46, 8, 46, 46], [41]⟩, ⟨(some 41), (Op.slice 72 (Operand.tmp 39) (some (Operand.tmp 40)) none none), 72, none⟩),
        (⟨[42, 7, 7], [38, 39, 40, 41, 42, 43, 44, 45, 41, 44, 7, 7, 46, 8, 46, 46], [42]⟩, ⟨(some 42), (Op.move (Operand.tmp 7)), 72, none⟩),
        (⟨[43, 8, 8], [38, 39, 40, 41, 42, 43, 44, 45, 41, 44, 7, 7, 46, 8, 46, 46], [43]⟩, ⟨(some 43), (Op.move (Operand.tmp 8)), 3, none⟩),
        (⟨[44, 42, 43, 7, 8], [38, 39, 40, 41, 42, 43, 44, 45, 41, 44, 7, 7, 46, 8, 46, 46], [44]⟩, ⟨(some 44), (Op.slice 72 (Operand.tmp 42) none (some (Operand.tmp 43)) none), 72, none⟩),
        (⟨[45, 41, 44, 7, 7], [38, 39, 40, 41, 42, 43, 44, 45, 41, 44, 7, 7, 46, 8, 46, 46], [45, 41, 44, 7, 7]⟩, ⟨(some 45), (Op.call { callee := (Callee.builtin Builtin.copy), args := #[(Operand.tmp 41), (Operand.tmp 44)], argTypes := #[72, 72] }), 3, none⟩),
        (⟨[46, 38, 45, 8, 45], [38, 39, 40, 41, 42, 43, 44, 45, 41, 44, 7, 7, 46, 8, 46, 46], [46]⟩, ⟨(some 46), (Op.binOp BinOp.add 3 (Operand.tmp 38) (Operand.tmp 45) 3), 3, none⟩),
        (⟨[8, 46, 46], [38, 39, 40, 41, 42, 43, 44, 45, 41, 44, 7, 7, 46, 8, 46, 46], [8, 46, 46]⟩, ⟨(some 8), (Op.assign (Operand.tmp 46)), 3, none⟩)]))
def k88_l0 : SC := .loop k88_l0b
def k88 : SC :=
  .seq
    (.ops [
      ⟨(some 4), (Op.assign (Operand.const (Value.slice none 0 0))), 72, none⟩])
    (.seq
      (.seq
        (.ops [
          ⟨(some 9), (Op.move (Operand.tmp 1)), 3, none⟩,
          ⟨(some 10), (Op.binOp BinOp.lss 3 (Operand.tmp 9) (Operand.const (Value.int IntKind.i64 0)) 3), 4, none⟩])
        (.cond (Operand.tmp 10)
          (.ops [
            ⟨(some 11), (Op.makeInterface 9 (Operand.const (Value.string { data := #[99, 97, 110, 110, 111, 116, 32, 98, 101, 32, 110, 101, 103, 97, 116, 105, 118, 101] }))), 20, none⟩,
            ⟨none, (Op.panic (Operand.tmp 11)), 0, none⟩])
          .skip))
      (.seq
        (.ops [
          ⟨(some 13), (Op.move (Operand.tmp 0)), 72, none⟩,
          ⟨(some 14), (Op.call { callee := (Callee.builtin Builtin.len), args := #[(Operand.tmp 13)], argTypes := #[72] }), 3, none⟩,
          ⟨(some 15), (Op.convert 3 68 (Operand.tmp 14)), 68, none⟩,
          ⟨(some 16), (Op.move (Operand.tmp 1)), 3, none⟩,
          ⟨(some 17), (Op.convert 3 68 (Operand.tmp 16)), 68, none⟩,
          ⟨(some 18), (Op.call { callee := (Callee.value (Operand.func 85)), args := #[(Operand.tmp 15), (Operand.tmp 17)], argTypes := #[68, 68] }), 69, none⟩,
          ⟨(some 12), (Op.move (Operand.tmp 18)), 69, none⟩,
          ⟨(some 19), (Op.extract (Operand.tmp 12) 0), 68, none⟩,
          ⟨(some 20), (Op.extract (Operand.tmp 12) 1), 68, none⟩,
          ⟨(some 5), (Op.assign (Operand.tmp 19)), 68, none⟩,
          ⟨(some 6), (Op.assign (Operand.tmp 20)), 68, none⟩])
        (.seq
          (.seq
            (.ops [
              ⟨(some 21), (Op.move (Operand.tmp 5)), 68, none⟩,
              ⟨(some 22), (Op.binOp BinOp.gtr 68 (Operand.tmp 21) (Operand.const (Value.int IntKind.u64 0)) 68), 4, none⟩,
              ⟨(some 23), (Op.move (Operand.tmp 22)), 4, none⟩,
              ⟨(some 24), (Op.move (Operand.tmp 6)), 68, (some (some 23, false))⟩,
              ⟨(some 25), (Op.binOp BinOp.gtr 68 (Operand.tmp 24) (Operand.const (Value.int IntKind.u64 9223372036854775807)) 68), 4, (some (some 23, false))⟩,
              ⟨(some 26), (Op.pick (Operand.tmp 23) (Operand.const (Value.bool true)) (Operand.tmp 25)), 4, none⟩])
            (.cond (Operand.tmp 26)
              (.ops [
                ⟨(some 27), (Op.makeInterface 9 (Operand.const (Value.string { data := #[116, 104, 101, 32, 114, 101, 115, 117, 108, 116, 32, 111, 102, 32, 40, 108, 101, 110, 40, 120, 41, 32, 42, 32, 99, 111, 117, 110, 116, 41, 32, 111, 118, 101, 114, 102, 108, 111, 119, 115] }))), 20, none⟩,
                ⟨none, (Op.panic (Operand.tmp 27)), 0, none⟩])
              .skip))
          (.seq
            (.ops [
              ⟨(some 28), (Op.move (Operand.tmp 6)), 68, none⟩,
              ⟨(some 29), (Op.convert 68 3 (Operand.tmp 28)), 3, none⟩,
              ⟨(some 30), (Op.makeSlice 72 (Operand.tmp 29) (Operand.tmp 29)), 72, none⟩,
              ⟨(some 7), (Op.assign (Operand.tmp 30)), 72, none⟩])
            (.seq
              (.ops [
                ⟨(some 31), (Op.move (Operand.tmp 7)), 72, none⟩,
                ⟨(some 32), (Op.move (Operand.tmp 0)), 72, none⟩,
                ⟨(some 33), (Op.call { callee := (Callee.builtin Builtin.copy), args := #[(Operand.tmp 31), (Operand.tmp 32)], argTypes := #[72, 72] }), 3, none⟩,
                ⟨(some 8), (Op.assign (Operand.tmp 33)), 3, none⟩])
              (.seq
                (.block 0
                  k88_l0)
                (.seq
                  (.ops [
                    ⟨(some 47), (Op.move (Operand.tmp 7)), 72, none⟩,
                    ⟨(some 4), (Op.assign (Operand.tmp 47)), 72, none⟩])
                  .ret)))))))
theorem slim88 : Try.f88.body.map (slim lends) = some k88 := by kernel_rfl
theorem ok88 : fnOk Try.f88 2 = true := by kernel_rfl
theorem c88 {a l : List D} {r : D × List D} (h : wpD Y.env k88 (fin tys l.length [ResultVar.tmp 4] r) (entry a l)) (ha : a.length = 2) : Y.call 88 a l = some r :=
  call_slim (Y := Y) rfl Try.func88 (ha ▸ ok88) slim88 h
def g_slices_Repeat_Sbool_bool_l0_M (newslice : List Bool) (n_ : Int) (s : St) : Prop := s.v 7 = D.own 4 (lst D.bool newslice) ∧ s.v 8 = D.int .i64 n_
def g_slices_Repeat_Sbool_bool_l0_X (r : (List Bool)) (ex : Ex) (s : St) : Prop := ex = .exit 0 ∧ s.v 7 = D.own 4 (lst D.bool r)
theorem g_slices_Repeat_Sbool_bool_l0_wp {v : (List Bool) × Int} {s : St} {r : (List Bool)} (h : g_slices_Repeat_Sbool_bool_l0 v = some r) (hM : g_slices_Repeat_Sbool_bool_l0_M v.1 v.2 s) : wpD Y.env k88_l0 (g_slices_Repeat_Sbool_bool_l0_X r) s := by
  unfold g_slices_Repeat_Sbool_bool_l0 at h
  refine wd_itO (c := k88_l0b) (fun v => g_slices_Repeat_Sbool_bool_l0_S v.1 v.2) (fun v s => g_slices_Repeat_Sbool_bool_l0_M v.1 v.2 s) (g_slices_Repeat_Sbool_bool_l0_X) ?_ h hM
  clear h hM s v r
  intro v s o hM h
  obtain ⟨newslice, n_⟩ := v
  dsimp only at h hM
  unfold g_slices_Repeat_Sbool_bool_l0_S at h
  unfold g_slices_Repeat_Sbool_bool_l0_M at hM
  obtain ⟨m0, m1⟩ := hM
  unfold k88_l0b
  by_cases e6 : n_ < (newslice.length : Int)
  · rw [if_pos e6] at h
    obtain ⟨e7, h⟩ := ckS h
    obtain ⟨e8, h⟩ := ckS h
    obtain ⟨e9, h⟩ := ckS h
    obtain ⟨e10, h⟩ := ckS h
    obtain rfl := Option.some.inj h
    simp (maxDischargeDepth := 9) only [↓xpre, xpost, xlst, xcore, yset, rg0, ↓reduceIte, Nat.reduceEqDiff, Nat.reduceLT, Nat.reduceLeDiff, Nat.reduceAdd, Nat.reduceMul, Nat.reduceMod, Nat.reduceSub, Nat.reduceBEq, Int.reduceLE, Int.reduceLT, Int.reduceEq, Int.reduceSub, Int.reduceAdd, Int.reduceToNat, Int.reduceNeg, m0, m1, e6, e7, e8, e9, e10, g_slices_Repeat_Sbool_bool_l0_M, g_slices_Repeat_Sbool_bool_l0_X, sxN, sxE, sxR] <;> (repeat' apply And.intro) <;> first | rfl | exact ⟨_, rfl⟩ | simp [lst]
  · rw [if_neg e6] at h
    obtain rfl := Option.some.inj h
    simp (maxDischargeDepth := 9) only [↓xpre, xpost, xlst, xcore, yset, rg0, ↓reduceIte, Nat.reduceEqDiff, Nat.reduceLT, Nat.reduceLeDiff, Nat.reduceAdd, Nat.reduceMul, Nat.reduceMod, Nat.reduceSub, Nat.reduceBEq, Int.reduceLE, Int.reduceLT, Int.reduceEq, Int.reduceSub, Int.reduceAdd, Int.reduceToNat, Int.reduceNeg, m0, m1, e6, g_slices_Repeat_Sbool_bool_l0_M, g_slices_Repeat_Sbool_bool_l0_X, sxN, sxE, sxR] <;> (repeat' apply And.intro) <;> first | rfl | exact ⟨_, rfl⟩ | simp [lst]
theorem g_slices_Repeat_Sbool_bool_call (x_ : List Bool) (count : Int) {r : (List Bool)} (h : g_slices_Repeat_Sbool_bool x_ count = some r) : Y.call 88 [D.sl 4 (lst D.bool x_), D.int .i64 count] [] = some (D.own 4 (lst D.bool r), []) := by
  refine c88 ?_ rfl
  unfold k88
  unfold g_slices_Repeat_Sbool_bool at h
  by_cases e1 : count < 0
  · rw [if_pos e1] at h
    cases h
  · rw [if_neg e1] at h
    obtain ⟨r2_, hl2, h⟩ := bindS h
    try dsimp only at h
    have c2 := g_math_bits_Mul_call (IntKind.u64.wrap (x_.length : Int)) (IntKind.u64.wrap count) hl2
    by_cases e3 : 0 < r2_.1
    · rw [if_pos e3] at h
      cases h
    · rw [if_neg e3] at h
      by_cases e4 : 9223372036854775807 < r2_.2
      · rw [if_pos e4] at h
        cases h
      · rw [if_neg e4] at h
        obtain ⟨e5, h⟩ := ckS h
        obtain ⟨r7_, hl7, h⟩ := bindS h
        try dsimp only at h
        simp (maxDischargeDepth := 9) only [↓xpre, xpost, xlst, xcore, yset, rg0, ↓reduceIte, Nat.reduceEqDiff, Nat.reduceLT, Nat.reduceLeDiff, Nat.reduceAdd, Nat.reduceMul, Nat.reduceMod, Nat.reduceSub, Nat.reduceBEq, Int.reduceLE, Int.reduceLT, Int.reduceEq, Int.reduceSub, Int.reduceAdd, Int.reduceToNat, Int.reduceNeg, e1, c2, e3, e4, e5.1, e5.2]
        refine wd_mono (g_slices_Repeat_Sbool_bool_l0_wp  hl7 ?_) ?_
        · simp (maxDischargeDepth := 9) only [↓xpre, xpost, xlst, xcore, yset, rg0, ↓reduceIte, Nat.reduceEqDiff, Nat.reduceLT, Nat.reduceLeDiff, Nat.reduceAdd, Nat.reduceMul, Nat.reduceMod, Nat.reduceSub, Nat.reduceBEq, Int.reduceLE, Int.reduceLT, Int.reduceEq, Int.reduceSub, Int.reduceAdd, Int.reduceToNat, Int.reduceNeg, e1, c2, e3, e4, e5.1, e5.2, g_slices_Repeat_Sbool_bool_l0_M] <;> (repeat' apply And.intro) <;> first | rfl | exact ⟨_, rfl⟩ | simp [lst]
        · intro ex7 s7 hX7
          unfold g_slices_Repeat_Sbool_bool_l0_X at hX7
          obtain ⟨rfl, n7_0⟩ := hX7
          obtain rfl := Option.some.inj h
          simp (maxDischargeDepth := 9) only [↓xpre, xpost, xlst, xcore, yset, rg0, ↓reduceIte, Nat.reduceEqDiff, Nat.reduceLT, Nat.reduceLeDiff, Nat.reduceAdd, Nat.reduceMul, Nat.reduceMod, Nat.reduceSub, Nat.reduceBEq, Int.reduceLE, Int.reduceLT, Int.reduceEq, Int.reduceSub, Int.reduceAdd, Int.reduceToNat, Int.reduceNeg, e1, c2, e3, e4, e5.1, e5.2, n7_0] <;> (repeat' apply And.intro) <;> first | rfl | exact ⟨_, rfl⟩ | simp [lst]

theorem repB_loop (x : Bool) (N : Nat) (hN : N < 1099511627776) (l : List Bool) (k : Nat) (hl : l.length = N) (hk : k ≤ N) (h1 : 0 < k ∨ N = 0) (he : l.take k = List.replicate k x) : g_slices_Repeat_Sbool_bool_l0 (l, (k : Int)) = some (List.replicate N x) := by
  have step : ∀ (m : Nat) (v : List Bool × Int), (∃ k : Nat, v.2 = (k : Int) ∧ m = N - k ∧ v.1.length = N ∧ k ≤ N ∧ (0 < k ∨ N = 0) ∧ v.1.take k = List.replicate k x) →
      (∃ s' m', g_slices_Repeat_Sbool_bool_l0_S v.1 v.2 = some (.inl s') ∧ m' < m ∧ ∃ k : Nat, s'.2 = (k : Int) ∧ m' = N - k ∧ s'.1.length = N ∧ k ≤ N ∧ (0 < k ∨ N = 0) ∧ s'.1.take k = List.replicate k x) ∨ (∃ r, g_slices_Repeat_Sbool_bool_l0_S v.1 v.2 = some (.inr r) ∧ r = List.replicate N x) := by
    rintro m ⟨l, kk⟩ ⟨k, hkk, rfl, hl, hk, h1, he⟩
    simp only at hl he hkk
    subst hkk
    by_cases hlt : k < N
    · left
      have hk0 : 0 < k := by omega
      have e0 : ((l.drop 0).take (k - 0)) = List.replicate k x := by rw [List.drop_zero, Nat.sub_zero, he]
      refine ⟨_, N - (k + min (N - k) k), by
        simp only [g_slices_Repeat_Sbool_bool_l0_S]
        rw [hl, if_pos (by omega), ckT (by omega), Int.toNat_natCast, ckT (by omega), ckT (by omega), ckT (by omega), e0, List.length_replicate], by omega, k + min (N - k) k, ?_, rfl, ?_, by omega, by omega, ?_⟩
      · rw [wr64 _ (by omega)]; omega
      · simp only
        rw [spl_eq _ _ _ (by simp; omega)]; simp; omega
      · simp only
        rw [spl_eq _ _ _ (by simp; omega), List.take_replicate, he, List.length_replicate, ← List.append_assoc, show min (min (N - k) k) k = min (N - k) k by omega, List.replicate_append_replicate, List.take_append_of_le_length (by simp), List.take_of_length_le (by simp)]
    · right
      have hkN : k = N := by omega
      subst hkN
      refine ⟨l, ?_, ?_⟩
      · simp only [g_slices_Repeat_Sbool_bool_l0_S]; rw [if_neg (by omega)]
      · rw [← he, List.take_of_length_le (by omega)]
  obtain ⟨r, h2, h3⟩ := itO_inv (fun v => g_slices_Repeat_Sbool_bool_l0_S v.1 v.2) (fun m v => ∃ k : Nat, v.2 = (k : Int) ∧ m = N - k ∧ v.1.length = N ∧ k ≤ N ∧ (0 < k ∨ N = 0) ∧ v.1.take k = List.replicate k x) (fun r => r = List.replicate N x) step (N - k) (l, (k : Int)) ⟨k, rfl, rfl, hl, hk, h1, he⟩
  unfold g_slices_Repeat_Sbool_bool_l0
  rw [h2, h3]
theorem repB_one (x : Bool) (n : Int) (h : 0 ≤ n ∧ n < 1099511627776) : g_slices_Repeat_Sbool_bool [x] n = some (List.replicate n.toNat x) := by
  unfold g_slices_Repeat_Sbool_bool
  have e1 : IntKind.u64.wrap (([x] : List Bool).length : Int) = 1 := by rw [wru64 _ (by simp)]; rfl
  rw [if_neg (by omega), e1, wru64 n (by omega), mul_one n h, Option.bind_some]
  simp only
  rw [if_neg (by decide), if_neg (by omega), wr64 n (by omega), ckT (by omega), List.length_replicate]
  rcases Nat.eq_zero_or_pos n.toNat with h0 | h0
  · rw [h0]
    rw [show min 0 ([x] : List Bool).length = 0 by simp]
    have := repB_loop x 0 (by decide) [] 0 rfl (Nat.le_refl _) (.inr rfl) rfl
    simp only [List.replicate_zero, List.take_zero, spl, Int.natCast_zero] at this ⊢
    rw [this]; rfl
  · have e2 : min n.toNat ([x] : List Bool).length = 1 := by simp; omega
    rw [e2]
    have e3 : spl (List.replicate n.toNat false) 0 ([x].take 1) = x :: List.replicate (n.toNat - 1) false := by
      rw [spl_eq _ _ _ (by simp; omega)]; simp
    rw [e3, repB_loop x n.toNat (by omega) _ 1 (by simp; omega) (by omega) (.inl (by omega)) (by simp)]
    rfl

end Go.Proofs.Ythaimoghceamnaa
