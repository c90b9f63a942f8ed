/- Texts of problems, lifted. Conditions: none. -/
import Derived.Test.YtaogbcdlpgfplaaDoorL6
import Derived.Test.YtaogbcdlpgfplaaDoorIsP
import Derived.Test.YtaogbcdlpgfplaaDoorPB
namespace Go.Proofs.YtaogbcdlpgfplaaDoor
open Go Dv
set_option linter.unusedSimpArgs false
set_option linter.unusedVariables false
set_option maxRecDepth 100000
set_option maxHeartbeats 4000000

noncomputable def s_l1Num_R (rec_ : Int → Option ByteArray) (n_ : Int) : Option (ByteArray) :=
 if n_ < 10 then
  some (oneB (IntKind.u8.wrap (IntKind.i64.wrap (48 + n_))))
 else
  (rec_ (IntKind.i64.wrap (n_.tdiv 10))).bind fun r12_ =>
  ck (r12_.size + (oneB (IntKind.u8.wrap (IntKind.i64.wrap (48 + (n_.tmod 10))))).size < 1099511627776) <|
  some (r12_ ++ (oneB (IntKind.u8.wrap (IntKind.i64.wrap (48 + (n_.tmod 10))))))
/-- So many calls deep at most. -/
noncomputable def s_l1Num_N : Nat → Int → Option ByteArray
 | 0 => fun _ => none
 | n + 1 => fun n_ => s_l1Num_R (s_l1Num_N n) n_
noncomputable def s_l1Num (n_ : Int) : Option (ByteArray) := s_l1Num_N 1000000 n_
/-- spec.l1Num -/
def k53 : SC :=
 .seq
 (.ops [
 ⟨(some 2), (.assign (.const (.string { data := #[] }))), 9, none⟩])
 (.seq
 (.seq
 (.ops [
 ⟨(some 3), (.move (.tmp 0)), 3, none⟩,
 ⟨(some 4), (.binOp .lss 3 (.tmp 3) (.const (.int .i64 10)) 3), 4, none⟩])
 (.cond (.tmp 4)
 (.seq
 (.ops [
 ⟨(some 5), (.move (.tmp 0)), 3, none⟩,
 ⟨(some 6), (.binOp .add 3 (.const (.int .i64 48)) (.tmp 5) 3), 3, none⟩,
 ⟨(some 7), (.convert 3 5 (.tmp 6)), 5, none⟩,
 ⟨(some 8), (.buildSlice 79 1 #[(0, (.tmp 7))]), 79, none⟩,
 ⟨(some 9), (.convert 79 9 (.tmp 8)), 9, none⟩,
 ⟨(some 2), (.assign (.tmp 9)), 9, none⟩])
 .ret)
 .skip))
 (.seq
 (.draws [
 (⟨[10, 0, 0], [10, 11, 12, 13, 14, 15, 16, 17, 16, 16, 18, 19, 2, 19, 19], [10]⟩, ⟨(some 10), (.move (.tmp 0)), 3, none⟩),
 (⟨[11, 10, 0], [10, 11, 12, 13, 14, 15, 16, 17, 16, 16, 18, 19, 2, 19, 19], [11]⟩, ⟨(some 11), (.binOp .quo 3 (.tmp 10) (.const (.int .i64 10)) 3), 3, none⟩),
 (⟨[12, 11, 11], [10, 11, 12, 13, 14, 15, 16, 17, 16, 16, 18, 19, 2, 19, 19], [12]⟩, ⟨(some 12), (.call ⟨(.value (.func 53)), #[(.tmp 11)], #[3]⟩), 9, none⟩),
 (⟨[13, 0, 0], [10, 11, 12, 13, 14, 15, 16, 17, 16, 16, 18, 19, 2, 19, 19], [13]⟩, ⟨(some 13), (.move (.tmp 0)), 3, none⟩),
 (⟨[14, 13, 0], [10, 11, 12, 13, 14, 15, 16, 17, 16, 16, 18, 19, 2, 19, 19], [14]⟩, ⟨(some 14), (.binOp .rem 3 (.tmp 13) (.const (.int .i64 10)) 3), 3, none⟩),
 (⟨[15, 14, 14], [10, 11, 12, 13, 14, 15, 16, 17, 16, 16, 18, 19, 2, 19, 19], [15]⟩, ⟨(some 15), (.binOp .add 3 (.const (.int .i64 48)) (.tmp 14) 3), 3, none⟩),
 (⟨[16, 15, 15], [10, 11, 12, 13, 14, 15, 16, 17, 16, 16, 18, 19, 2, 19, 19], [16]⟩, ⟨(some 16), (.convert 3 5 (.tmp 15)), 5, none⟩),
 (⟨[17, 16, 16], [10, 11, 12, 13, 14, 15, 16, 17, 16, 16, 18, 19, 2, 19, 19], [17, 16, 16]⟩, ⟨(some 17), (.buildSlice 79 1 #[(0, (.tmp 16))]), 79, none⟩),
 (⟨[18, 17, 17], [10, 11, 12, 13, 14, 15, 16, 17, 16, 16, 18, 19, 2, 19, 19], [18]⟩, ⟨(some 18), (.convert 79 9 (.tmp 17)), 9, none⟩),
 (⟨[19, 12, 18, 12, 18], [10, 11, 12, 13, 14, 15, 16, 17, 16, 16, 18, 19, 2, 19, 19], [19]⟩, ⟨(some 19), (.binOp .add 9 (.tmp 12) (.tmp 18) 9), 9, none⟩),
 (⟨[2, 19, 19], [10, 11, 12, 13, 14, 15, 16, 17, 16, 16, 18, 19, 2, 19, 19], [2, 19, 19]⟩, ⟨(some 2), (.assign (.tmp 19)), 9, none⟩)])
 .ret))
theorem slim53 : Tryd.f53.body.map (slim lends) = some k53 := by kernel_rfl
theorem ok53 : fnOk Tryd.f53 1 = true := by kernel_rfl
theorem c53 {a l : List D} {r : D × List D} (h : wpD Y.env k53 (fin tys l.length [ResultVar.tmp 2] r) (entry a l)) (ha : a.length = 1) : Y.call 53 a l = some r :=
 call_slim (Y := Y) rfl Tryd.func53 (ha ▸ ok53) slim53 h
theorem s_l1Num_R_call (rec_ : Int → Option ByteArray) (n_ : Int) (rec_h : ∀ (n_ : Int) (r : ByteArray), rec_ n_ = some r → Y.call 53 [D.int .i64 n_] [] = some (D.str r, [])) {r : ByteArray} (h : s_l1Num_R rec_ n_ = some r) : Y.call 53 [D.int .i64 n_] [] = some (D.str r, []) := by
 refine c53 ?_ rfl
 unfold k53
 unfold s_l1Num_R at h
 by_cases e1 : n_ < 10
 ·rw [if_pos e1] at h
  obtain rfl := Option.some.inj h
  simp (maxDischargeDepth := 9) only [↓xpre, xpost, xlst, xc2, xcore, yset, rg0, ↓reduceIte, Nat.reduceEqDiff, Nat.reduceLT, Nat.reduceLeDiff, Nat.reduceAdd, Nat.reduceMul, Nat.reduceMod, Nat.reduceDiv, Nat.reducePow, Nat.reduceSub, Nat.reduceBEq, Int.reduceLE, Int.reduceLT, Int.reduceEq, Int.reduceSub, Int.reduceAdd, Int.reduceToNat, Int.reduceNeg, e1] <;> (repeat' apply And.intro) <;> first | rfl | exact ⟨_, rfl⟩ | exact ⟨_, _, rfl⟩ | simp [lst, cat2_nil]
 ·rw [if_neg e1] at h
  obtain ⟨r12_, hl2, h⟩ := bindS h
  try dsimp only at h
  have c2 := rec_h _ _ hl2
  obtain ⟨e3, h⟩ := ckS h
  obtain rfl := Option.some.inj h
  simp (maxDischargeDepth := 9) only [↓xpre, xpost, xlst, xc2, xcore, yset, rg0, ↓reduceIte, Nat.reduceEqDiff, Nat.reduceLT, Nat.reduceLeDiff, Nat.reduceAdd, Nat.reduceMul, Nat.reduceMod, Nat.reduceDiv, Nat.reducePow, Nat.reduceSub, Nat.reduceBEq, Int.reduceLE, Int.reduceLT, Int.reduceEq, Int.reduceSub, Int.reduceAdd, Int.reduceToNat, Int.reduceNeg, e1, c2, e3] <;> (repeat' apply And.intro) <;> first | rfl | exact ⟨_, rfl⟩ | exact ⟨_, _, rfl⟩ | simp [lst, cat2_nil]
theorem s_l1Num_N_call (n : Nat) : ∀ (n_ : Int) (r : ByteArray), s_l1Num_N n n_ = some r → Y.call 53 [D.int .i64 n_] [] = some (D.str r, []) := by
 induction n with
 | zero => intro n_ r h; exact absurd h (by rw [s_l1Num_N]; exact fun e => by cases e)
 | succ n ih => intro n_ r h; rw [s_l1Num_N] at h; exact s_l1Num_R_call (s_l1Num_N n) n_ ih h
theorem s_l1Num_call (n_ : Int) {r : ByteArray} (h : s_l1Num n_ = some r) : Y.call 53 [D.int .i64 n_] [] = some (D.str r, []) := s_l1Num_N_call 1000000 n_ r h

end Go.Proofs.YtaogbcdlpgfplaaDoor
