/- Partial labelings, lifted. Conditions: none. -/
import Derived.Test.YtjkgcfdcfjkkbaaL6
import Derived.Test.YtjkgcfdcfjkkbaaNis
import Derived.Test.YtjkgcfdcfjkkbaaEdg
import Derived.Test.YtjkgcfdcfjkkbaaFst
namespace Go.Proofs.Ytjkgcfdcfjkkbaa
open Go Dv
set_option linter.unusedSimpArgs false
set_option linter.unusedVariables false
set_option maxRecDepth 100000
set_option maxHeartbeats 4000000

noncomputable def i_portsOk_l0_S (n_Ends : List (List (Int × Int))) (n_Ids : List Int) (n_Inputs : List Int) (l : List (List Int)) (t15_ : Int) : Option ((Int) ⊕ (Unit ⊕ Unit)) :=
  if t15_ < (l.length : Int) then
    ck (0 ≤ t15_ ∧ t15_.toNat < l.length) <|
    ck (0 ≤ t15_ ∧ t15_.toNat < n_Ends.length) <|
    if ((l.getD t15_.toNat default).length : Int) = ((n_Ends.getD t15_.toNat default).length : Int) then
      some (Sum.inl (IntKind.i64.wrap (t15_ + 1)))
    else
      some (Sum.inr (Sum.inl ()))
  else
    some (Sum.inr (Sum.inr ()))
noncomputable def i_portsOk_l0 (n_Ends : List (List (Int × Int))) (n_Ids : List Int) (n_Inputs : List Int) (l : List (List Int)) (v : Int) : Option (Unit ⊕ Unit) := itO (fun v => i_portsOk_l0_S n_Ends n_Ids n_Inputs l v) v
noncomputable def i_portsOk (n_Ends : List (List (Int × Int))) (n_Ids : List Int) (n_Inputs : List Int) (l : List (List Int)) : Option (Bool) :=
  if (l.length : Int) = (n_Ends.length : Int) then
    (i_portsOk_l0 n_Ends n_Ids n_Inputs l 0).bind fun r3_ =>
    match r3_ with
    | .inl q3_ =>
      some false
    | .inr q3_ =>
      some true
  else
    some false
/-- impl.portsOk -/
def k92_l0b : SC :=
 .seq
 (.ops [
 ⟨(some 16), (.binOp .lss 3 (.tmp 15) (.tmp 14) 3), 0, none⟩])
 (.seq
 (.cond (.tmp 16)
 .skip
 (.exit 0))
 (.seq
 (.block 1
 (.seq
 (.ops [
 ⟨(some 17), (.move (.tmp 15)), 3, none⟩,
 ⟨(some 18), (.indexAddr 36 (.tmp 13) (.tmp 15)), 0, none⟩,
 ⟨(some 19), (.load 23 (.tmp 18)), 23, none⟩,
 ⟨(some 5), (.assign (.tmp 17)), 3, none⟩,
 ⟨(some 6), (.assign (.tmp 19)), 23, none⟩])
 (.seq
 (.ops [
 ⟨(some 20), (.move (.tmp 6)), 23, none⟩,
 ⟨(some 21), (.call ⟨(.builtin .len), #[(.tmp 20)], #[23]⟩), 3, none⟩,
 ⟨(some 22), (.fieldAddr 29 (.tmp 2) 0), 0, none⟩,
 ⟨(some 23), (.load 27 (.tmp 22)), 27, none⟩,
 ⟨(some 24), (.move (.tmp 5)), 3, none⟩,
 ⟨(some 25), (.indexAddr 27 (.tmp 23) (.tmp 24)), 0, none⟩,
 ⟨(some 26), (.load 93 (.tmp 25)), 93, none⟩,
 ⟨(some 27), (.call ⟨(.builtin .len), #[(.tmp 26)], #[93]⟩), 3, none⟩,
 ⟨(some 28), (.binOp .neq 3 (.tmp 21) (.tmp 27) 3), 4, none⟩])
 (.cond (.tmp 28)
 (.seq
 (.ops [
 ⟨(some 4), (.assign (.const (.bool false))), 4, none⟩])
 .ret)
 .skip))))
 (.ops [
 ⟨(some 29), (.binOp .add 3 (.tmp 15) (.const (.int .i64 1)) 3), 3, none⟩,
 ⟨(some 15), (.move (.tmp 29)), 3, none⟩])))
def k92_l0 : SC := .loop k92_l0b
def k92 : SC :=
 .seq
 (.ops [
 ⟨(some 2), (.box 29 (.tmp 0)), 0, none⟩,
 ⟨(some 4), (.assign (.const (.bool false))), 4, none⟩])
 (.seq
 (.seq
 (.ops [
 ⟨(some 7), (.move (.tmp 1)), 36, none⟩,
 ⟨(some 8), (.call ⟨(.builtin .len), #[(.tmp 7)], #[36]⟩), 3, none⟩,
 ⟨(some 9), (.fieldAddr 29 (.tmp 2) 0), 0, none⟩,
 ⟨(some 10), (.load 27 (.tmp 9)), 27, none⟩,
 ⟨(some 11), (.call ⟨(.builtin .len), #[(.tmp 10)], #[27]⟩), 3, none⟩,
 ⟨(some 12), (.binOp .neq 3 (.tmp 8) (.tmp 11) 3), 4, none⟩])
 (.cond (.tmp 12)
 (.seq
 (.ops [
 ⟨(some 4), (.assign (.const (.bool false))), 4, none⟩])
 .ret)
 .skip))
 (.seq
 (.seq
 (.ops [
 ⟨(some 13), (.move (.tmp 1)), 36, none⟩,
 ⟨(some 14), (.call ⟨(.builtin .len), #[(.tmp 13)], #[36]⟩), 3, none⟩,
 ⟨(some 15), (.move (.const (.int .i64 0))), 3, none⟩])
 (.block 0
 k92_l0))
 (.seq
 (.ops [
 ⟨(some 4), (.assign (.const (.bool true))), 4, none⟩])
 .ret)))
theorem slim92 : Try.f92.body.map (slim lends) = some k92 := by kernel_rfl
theorem ok92 : fnOk Try.f92 2 = true := by kernel_rfl
theorem c92 {a l : List D} {r : D × List D} (h : wpD Y.env k92 (fin tys l.length [ResultVar.tmp 4] r) (entry a l)) (ha : a.length = 2) : Y.call 92 a l = some r :=
  call_slim (Y := Y) rfl Try.func92 (ha ▸ ok92) slim92 h
def i_portsOk_l0_M (n_Ends : List (List (Int × Int))) (n_Ids : List Int) (n_Inputs : List Int) (l : List (List Int)) (t15_ : Int) (s : St) : Prop := s.v 2 = D.box [D.sl 93 (lst (fun x => D.sl 95 (cat2 .i64 .i64 x)) n_Ends), D.sl 3 (lst (D.int .i64) n_Ids), D.sl 3 (lst (D.int .i64) n_Inputs)] ∧ s.v 13 = D.sl 23 (lst (fun x => D.sl 3 (lst (D.int .i64) x)) l) ∧ s.v 14 = D.int .i64 (l.length : Int) ∧ s.v 15 = D.int .i64 t15_
def i_portsOk_l0_X (n_Ends : List (List (Int × Int))) (n_Ids : List Int) (n_Inputs : List Int) (l : List (List Int)) (r : Unit ⊕ Unit) (ex : Ex) (s : St) : Prop := match r with
  | .inl q => ex = .ret ∧ s.v 4 = D.bool false
  | .inr q => ex = .exit 0
theorem i_portsOk_l0_wp (n_Ends : List (List (Int × Int))) (n_Ids : List Int) (n_Inputs : List Int) (l : List (List Int)) {v : Int} {s : St} {r : Unit ⊕ Unit} (h : i_portsOk_l0 n_Ends n_Ids n_Inputs l v = some r) (hM : i_portsOk_l0_M n_Ends n_Ids n_Inputs l v s) : wpD Y.env k92_l0 (i_portsOk_l0_X n_Ends n_Ids n_Inputs l r) s := by
  unfold i_portsOk_l0 at h
  refine wd_itO (c := k92_l0b) (fun v => i_portsOk_l0_S n_Ends n_Ids n_Inputs l v) (fun v s => i_portsOk_l0_M n_Ends n_Ids n_Inputs l v s) (i_portsOk_l0_X n_Ends n_Ids n_Inputs l) ?_ h hM
  clear h hM s v r
  intro t15_ s o hM h
  unfold i_portsOk_l0_S at h
  unfold i_portsOk_l0_M at hM
  obtain ⟨m0, m1, m2, m3⟩ := hM
  unfold k92_l0b
  by_cases e2 : t15_ < (l.length : Int)
  · rw [if_pos e2] at h
    obtain ⟨e3, h⟩ := ckS h
    obtain ⟨e4, h⟩ := ckS h
    by_cases e5 : ((l.getD t15_.toNat default).length : Int) = ((n_Ends.getD t15_.toNat default).length : Int)
    · rw [if_pos e5] at h
      obtain rfl := Option.some.inj h
      simp (maxDischargeDepth := 9) only [↓xpre, xpost, xlst, xc2, xcore, yset, ↓reduceIte, Nat.reduceEqDiff, Nat.reduceLT, m0, m1, m2, m3, e2, e3.1, e3.2, e4.2, decide_eq_true e5, i_portsOk_l0_M, sxN] <;> (repeat' apply And.intro) <;> first | rfl | exact ⟨_, rfl⟩ | simp [lst, cat2_nil]
    · rw [if_neg e5] at h
      obtain rfl := Option.some.inj h
      simp (maxDischargeDepth := 9) only [↓xpre, xpost, xlst, xc2, xcore, yset, ↓reduceIte, Nat.reduceEqDiff, Nat.reduceLT, m0, m1, m2, m3, e2, e3.1, e3.2, e4.2, e5, i_portsOk_l0_M, i_portsOk_l0_X, sxR] <;> (repeat' apply And.intro) <;> first | rfl | exact ⟨_, rfl⟩ | simp [lst, cat2_nil]
  · rw [if_neg e2] at h
    obtain rfl := Option.some.inj h
    simp (maxDischargeDepth := 9) only [↓xpre, xpost, yset, ↓reduceIte, m2, m3, e2, i_portsOk_l0_M, i_portsOk_l0_X, sxE] <;> (repeat' apply And.intro) <;> first | rfl | exact ⟨_, rfl⟩ | simp [lst, cat2_nil]
theorem i_portsOk_call (n_Ends : List (List (Int × Int))) (n_Ids : List Int) (n_Inputs : List Int) (l : List (List Int)) {r : Bool} (h : i_portsOk n_Ends n_Ids n_Inputs l = some r) : Y.call 92 [D.agg [D.sl 93 (lst (fun x => D.sl 95 (cat2 .i64 .i64 x)) n_Ends), D.sl 3 (lst (D.int .i64) n_Ids), D.sl 3 (lst (D.int .i64) n_Inputs)], D.sl 23 (lst (fun x => D.sl 3 (lst (D.int .i64) x)) l)] [] = some (D.bool r, []) := by
  refine c92 ?_ rfl
  unfold k92
  unfold i_portsOk at h
  by_cases e1 : (l.length : Int) = (n_Ends.length : Int)
  · rw [if_pos e1] at h
    obtain ⟨r3_, hl3, h⟩ := bindS h
    try dsimp only at h
    simp (maxDischargeDepth := 9) only [↓xpre, xpost, xlst, xcore, yset, ↓reduceIte, Nat.reduceEqDiff, Nat.reduceLT, Nat.reduceAdd, decide_eq_true e1]
    refine wd_mono (i_portsOk_l0_wp n_Ends n_Ids n_Inputs l hl3 ?_) ?_
    · simp (maxDischargeDepth := 9) only [xpost, ↓reduceIte, Nat.reduceEqDiff, i_portsOk_l0_M] <;> (repeat' apply And.intro) <;> first | rfl | exact ⟨_, rfl⟩ | simp [lst, cat2_nil]
    · intro ex3 s3 hX3
      rcases r3_ with q3_ | q3_
      · unfold i_portsOk_l0_X at hX3
        dsimp only at hX3 h
        obtain ⟨rfl, n3_0⟩ := hX3
        obtain rfl := Option.some.inj h
        simp (maxDischargeDepth := 9) only [↓xpre, xpost, xcore, ↓reduceIte, n3_0] <;> (repeat' apply And.intro) <;> first | rfl | exact ⟨_, rfl⟩ | simp [lst, cat2_nil]
      · unfold i_portsOk_l0_X at hX3
        dsimp only at hX3 h
        obtain rfl := hX3
        obtain rfl := Option.some.inj h
        simp (maxDischargeDepth := 9) only [↓xpre, xpost, xcore, yset, ↓reduceIte] <;> (repeat' apply And.intro) <;> first | rfl | exact ⟨_, rfl⟩ | simp [lst, cat2_nil]
  · rw [if_neg e1] at h
    obtain rfl := Option.some.inj h
    simp (maxDischargeDepth := 9) only [↓xpre, xpost, xlst, xcore, yset, ↓reduceIte, Nat.reduceEqDiff, Nat.reduceLT, Nat.reduceAdd, e1] <;> (repeat' apply And.intro) <;> first | rfl | exact ⟨_, rfl⟩ | simp [lst, cat2_nil]

noncomputable def g_slices_IndexFunc_SSint_Sint_l0_S (s_ : List (List Int)) (f : (List Int) → Option Bool) (t8_ : Int) : Option ((Int) ⊕ (Int ⊕ Unit)) :=
  if t8_ < (s_.length : Int) then
    ck (0 ≤ t8_ ∧ t8_.toNat < s_.length) <|
    (f (s_.getD t8_.toNat default)).bind fun r3_ =>
    if r3_ = true then
      some (Sum.inr (Sum.inl t8_))
    else
      some (Sum.inl (IntKind.i64.wrap (t8_ + 1)))
  else
    some (Sum.inr (Sum.inr ()))
noncomputable def g_slices_IndexFunc_SSint_Sint_l0 (s_ : List (List Int)) (f : (List Int) → Option Bool) (v : Int) : Option (Int ⊕ Unit) := itO (fun v => g_slices_IndexFunc_SSint_Sint_l0_S s_ f v) v
noncomputable def g_slices_IndexFunc_SSint_Sint (s_ : List (List Int)) (f : (List Int) → Option Bool) : Option (Int) :=
  (g_slices_IndexFunc_SSint_Sint_l0 s_ f 0).bind fun r2_ =>
  match r2_ with
  | .inl q2_ =>
    some q2_
  | .inr q2_ =>
    some (-1)
/-- slices.IndexFunc[[][]int,[]int] -/
def k124_l0b : SC :=
 .seq
 (.ops [
 ⟨(some 9), (.binOp .lss 3 (.tmp 8) (.tmp 7) 3), 0, none⟩])
 (.seq
 (.cond (.tmp 9)
 .skip
 (.exit 0))
 (.seq
 (.block 1
 (.seq
 (.ops [
 ⟨(some 10), (.move (.tmp 8)), 3, none⟩,
 ⟨(some 5), (.assign (.tmp 10)), 3, none⟩])
 (.seq
 (.ops [
 ⟨(some 11), (.move (.tmp 1)), 107, none⟩,
 ⟨(some 12), (.move (.tmp 0)), 36, none⟩,
 ⟨(some 13), (.move (.tmp 5)), 3, none⟩,
 ⟨(some 14), (.indexAddr 36 (.tmp 12) (.tmp 13)), 0, none⟩,
 ⟨(some 15), (.load 23 (.tmp 14)), 23, none⟩,
 ⟨(some 16), (.call ⟨(.value (.tmp 11)), #[(.tmp 15)], #[23]⟩), 4, none⟩])
 (.cond (.tmp 16)
 (.seq
 (.ops [
 ⟨(some 17), (.move (.tmp 5)), 3, none⟩,
 ⟨(some 4), (.assign (.tmp 17)), 3, none⟩])
 .ret)
 .skip))))
 (.ops [
 ⟨(some 18), (.binOp .add 3 (.tmp 8) (.const (.int .i64 1)) 3), 3, none⟩,
 ⟨(some 8), (.move (.tmp 18)), 3, none⟩])))
def k124_l0 : SC := .loop k124_l0b
def k124 : SC :=
 .seq
 (.ops [
 ⟨(some 4), (.assign (.const (.int .i64 0))), 3, none⟩])
 (.seq
 (.seq
 (.ops [
 ⟨(some 6), (.move (.tmp 0)), 36, none⟩,
 ⟨(some 7), (.call ⟨(.builtin .len), #[(.tmp 6)], #[36]⟩), 3, none⟩,
 ⟨(some 8), (.move (.const (.int .i64 0))), 3, none⟩])
 (.block 0
 k124_l0))
 (.seq
 (.ops [
 ⟨(some 4), (.assign (.const (.int .i64 (-1)))), 3, none⟩])
 .ret))
theorem slim124 : Try.f124.body.map (slim lends) = some k124 := by kernel_rfl
theorem ok124 : fnOk Try.f124 2 = true := by kernel_rfl
theorem c124 {a l : List D} {r : D × List D} (h : wpD Y.env k124 (fin tys l.length [ResultVar.tmp 4] r) (entry a l)) (ha : a.length = 2) : Y.call 124 a l = some r :=
  call_slim (Y := Y) rfl Try.func124 (ha ▸ ok124) slim124 h
def g_slices_IndexFunc_SSint_Sint_l0_M (s_ : List (List Int)) (f : (List Int) → Option Bool) (f_f : FuncId) (f_c : List D) (t8_ : Int) (s : St) : Prop := s.v 0 = D.sl 23 (lst (fun x => D.sl 3 (lst (D.int .i64) x)) s_) ∧ s.v 1 = D.clo f_f f_c ∧ s.v 7 = D.int .i64 (s_.length : Int) ∧ s.v 8 = D.int .i64 t8_
def g_slices_IndexFunc_SSint_Sint_l0_X (s_ : List (List Int)) (f : (List Int) → Option Bool) (f_f : FuncId) (f_c : List D) (r : Int ⊕ Unit) (ex : Ex) (s : St) : Prop := match r with
  | .inl q => ex = .ret ∧ s.v 4 = D.int .i64 q
  | .inr q => ex = .exit 0
theorem g_slices_IndexFunc_SSint_Sint_l0_wp (s_ : List (List Int)) (f : (List Int) → Option Bool) (f_f : FuncId) (f_c : List D) (f_h : ∀ (a0 : List Int) (r : Bool), f a0 = some r → Y.call f_f (D.sl 3 (lst (D.int .i64) a0) :: f_c) [] = some (D.bool r, [])) (f_l : lends f_f = false) {v : Int} {s : St} {r : Int ⊕ Unit} (h : g_slices_IndexFunc_SSint_Sint_l0 s_ f v = some r) (hM : g_slices_IndexFunc_SSint_Sint_l0_M s_ f f_f f_c v s) : wpD Y.env k124_l0 (g_slices_IndexFunc_SSint_Sint_l0_X s_ f f_f f_c r) s := by
  unfold g_slices_IndexFunc_SSint_Sint_l0 at h
  refine wd_itO (c := k124_l0b) (fun v => g_slices_IndexFunc_SSint_Sint_l0_S s_ f v) (fun v s => g_slices_IndexFunc_SSint_Sint_l0_M s_ f f_f f_c v s) (g_slices_IndexFunc_SSint_Sint_l0_X s_ f f_f f_c) ?_ h hM
  clear h hM s v r
  intro t8_ s o hM h
  unfold g_slices_IndexFunc_SSint_Sint_l0_S at h
  unfold g_slices_IndexFunc_SSint_Sint_l0_M at hM
  obtain ⟨m0, m1, m2, m3⟩ := hM
  unfold k124_l0b
  by_cases e1 : t8_ < (s_.length : Int)
  · rw [if_pos e1] at h
    obtain ⟨e2, h⟩ := ckS h
    obtain ⟨r3_, hl3, h⟩ := bindS h
    try dsimp only at h
    have c3 := f_h _ _ hl3
    by_cases e4 : r3_ = true
    · rw [if_pos e4] at h
      obtain rfl := Option.some.inj h
      simp (maxDischargeDepth := 9) only [↓xpre, xpost, xlst, xcore, yset, ↓reduceIte, Nat.reduceEqDiff, Nat.reduceAdd, m0, m1, m2, m3, f_l, e1, e2.1, e2.2, c3, e4, g_slices_IndexFunc_SSint_Sint_l0_M, g_slices_IndexFunc_SSint_Sint_l0_X, sxR] <;> (repeat' apply And.intro) <;> first | rfl | exact ⟨_, rfl⟩ | simp [lst, cat2_nil]
    · rw [if_neg e4] at h
      have e4f : r3_ = false := Bool.eq_false_iff.mpr e4
      obtain rfl := Option.some.inj h
      simp (maxDischargeDepth := 9) only [↓xpre, xpost, xlst, xcore, yset, ↓reduceIte, Nat.reduceEqDiff, Nat.reduceAdd, m0, m1, m2, m3, f_l, e1, e2.1, e2.2, c3, e4f, g_slices_IndexFunc_SSint_Sint_l0_M, sxN] <;> (repeat' apply And.intro) <;> first | rfl | exact ⟨_, rfl⟩ | simp [lst, cat2_nil]
  · rw [if_neg e1] at h
    obtain rfl := Option.some.inj h
    simp (maxDischargeDepth := 9) only [↓xpre, xpost, yset, ↓reduceIte, m2, m3, e1, g_slices_IndexFunc_SSint_Sint_l0_M, g_slices_IndexFunc_SSint_Sint_l0_X, sxE] <;> (repeat' apply And.intro) <;> first | rfl | exact ⟨_, rfl⟩ | simp [lst, cat2_nil]
theorem g_slices_IndexFunc_SSint_Sint_call (s_ : List (List Int)) (f : (List Int) → Option Bool) (f_f : FuncId) (f_c : List D) (f_h : ∀ (a0 : List Int) (r : Bool), f a0 = some r → Y.call f_f (D.sl 3 (lst (D.int .i64) a0) :: f_c) [] = some (D.bool r, [])) (f_l : lends f_f = false) {r : Int} (h : g_slices_IndexFunc_SSint_Sint s_ f = some r) : Y.call 124 [D.sl 23 (lst (fun x => D.sl 3 (lst (D.int .i64) x)) s_), D.clo f_f f_c] [] = some (D.int .i64 r, []) := by
  refine c124 ?_ rfl
  unfold k124
  unfold g_slices_IndexFunc_SSint_Sint at h
  obtain ⟨r2_, hl2, h⟩ := bindS h
  try dsimp only at h
  simp (maxDischargeDepth := 9) only [↓xpre, xpost, xlst, xcore, yset, ↓reduceIte, Nat.reduceEqDiff, Nat.reduceLT, Int.reduceNeg]
  refine wd_mono (g_slices_IndexFunc_SSint_Sint_l0_wp s_ f f_f f_c f_h f_l hl2 ?_) ?_
  · simp (maxDischargeDepth := 9) only [xpost, xcore, ↓reduceIte, Nat.reduceEqDiff, Nat.reduceLT, g_slices_IndexFunc_SSint_Sint_l0_M] <;> (repeat' apply And.intro) <;> first | rfl | exact ⟨_, rfl⟩ | simp [lst, cat2_nil]
  · intro ex2 s2 hX2
    rcases r2_ with q2_ | q2_
    · unfold g_slices_IndexFunc_SSint_Sint_l0_X at hX2
      dsimp only at hX2 h
      obtain ⟨rfl, n2_0⟩ := hX2
      obtain rfl := Option.some.inj h
      simp (maxDischargeDepth := 9) only [↓xpre, xpost, xcore, ↓reduceIte, n2_0] <;> (repeat' apply And.intro) <;> first | rfl | exact ⟨_, rfl⟩ | simp [lst, cat2_nil]
    · unfold g_slices_IndexFunc_SSint_Sint_l0_X at hX2
      dsimp only at hX2 h
      obtain rfl := hX2
      obtain rfl := Option.some.inj h
      simp (maxDischargeDepth := 9) only [↓xpre, xpost, xcore, yset, ↓reduceIte, Int.reduceNeg] <;> (repeat' apply And.intro) <;> first | rfl | exact ⟨_, rfl⟩ | simp [lst, cat2_nil]

noncomputable def g_slices_ContainsFunc_SSint_Sint (s_ : List (List Int)) (f : (List Int) → Option Bool) : Option (Bool) :=
  (g_slices_IndexFunc_SSint_Sint s_ f).bind fun r1_ =>
  some (decide (0 ≤ r1_))
/-- slices.ContainsFunc[[][]int,[]int] -/
def k93 : SC :=
 .seq
 (.ops [
 ⟨(some 4), (.assign (.const (.bool false))), 4, none⟩])
 (.seq
 (.ops [
 ⟨(some 5), (.move (.tmp 0)), 36, none⟩,
 ⟨(some 6), (.move (.tmp 1)), 107, none⟩,
 ⟨(some 7), (.call ⟨(.value (.func 124)), #[(.tmp 5), (.tmp 6)], #[36, 107]⟩), 3, none⟩,
 ⟨(some 8), (.binOp .geq 3 (.tmp 7) (.const (.int .i64 0)) 3), 4, none⟩,
 ⟨(some 4), (.assign (.tmp 8)), 4, none⟩])
 .ret)
theorem slim93 : Try.f93.body.map (slim lends) = some k93 := by kernel_rfl
theorem ok93 : fnOk Try.f93 2 = true := by kernel_rfl
theorem c93 {a l : List D} {r : D × List D} (h : wpD Y.env k93 (fin tys l.length [ResultVar.tmp 4] r) (entry a l)) (ha : a.length = 2) : Y.call 93 a l = some r :=
  call_slim (Y := Y) rfl Try.func93 (ha ▸ ok93) slim93 h
theorem g_slices_ContainsFunc_SSint_Sint_call (s_ : List (List Int)) (f : (List Int) → Option Bool) (f_f : FuncId) (f_c : List D) (f_h : ∀ (a0 : List Int) (r : Bool), f a0 = some r → Y.call f_f (D.sl 3 (lst (D.int .i64) a0) :: f_c) [] = some (D.bool r, [])) (f_l : lends f_f = false) {r : Bool} (h : g_slices_ContainsFunc_SSint_Sint s_ f = some r) : Y.call 93 [D.sl 23 (lst (fun x => D.sl 3 (lst (D.int .i64) x)) s_), D.clo f_f f_c] [] = some (D.bool r, []) := by
  refine c93 ?_ rfl
  unfold k93
  unfold g_slices_ContainsFunc_SSint_Sint at h
  obtain ⟨r1_, hl1, h⟩ := bindS h
  try dsimp only at h
  have c1 := g_slices_IndexFunc_SSint_Sint_call s_ f f_f f_c f_h f_l hl1
  obtain rfl := Option.some.inj h
  simp (maxDischargeDepth := 9) only [↓xpre, xpost, xcore, yset, ↓reduceIte, Nat.reduceEqDiff, Nat.reduceLT, Nat.reduceAdd, c1] <;> (repeat' apply And.intro) <;> first | rfl | exact ⟨_, rfl⟩ | simp [lst, cat2_nil]

noncomputable def i_isPartialShape_1 (labels : List Int) (c0__0 : Int) (c0__1 : Int) (c0__2 : List (List Int)) (c0__3 : List (List Int)) : Option (Bool) :=
  ck (labels.length < 1099511627776) <|
  some (!(allIn labels (-1 : Int) (IntKind.i64.wrap (c0__0 - 1))))
/-- impl.isPartialShape$1 -/
def k94 : SC :=
 .seq
 (.ops [
 ⟨(some 3), (.assign (.const (.bool false))), 4, none⟩])
 (.seq
 (.ops [
 ⟨(some 4), (.move (.tmp 0)), 23, none⟩,
 ⟨(some 5), (.fieldAddr 43 (.tmp 1) 0), 0, none⟩,
 ⟨(some 6), (.load 3 (.tmp 5)), 3, none⟩,
 ⟨(some 7), (.binOp .sub 3 (.tmp 6) (.const (.int .i64 1)) 3), 3, none⟩,
 ⟨(some 8), (.call ⟨(.value (.func 95)), #[(.tmp 4), (.const (.int .i64 (-1))), (.tmp 7)], #[23, 3, 3]⟩), 4, none⟩,
 ⟨(some 9), (.unOp .not 4 (.tmp 8)), 4, none⟩,
 ⟨(some 3), (.assign (.tmp 9)), 4, none⟩])
 .ret)
theorem slim94 : Try.f94.body.map (slim lends) = some k94 := by kernel_rfl
theorem ok94 : fnOk Try.f94 2 = true := by kernel_rfl
theorem c94 {a l : List D} {r : D × List D} (h : wpD Y.env k94 (fin tys l.length [ResultVar.tmp 3] r) (entry a l)) (ha : a.length = 2) : Y.call 94 a l = some r :=
  call_slim (Y := Y) rfl Try.func94 (ha ▸ ok94) slim94 h
theorem i_isPartialShape_1_call (labels : List Int) (c0__0 : Int) (c0__1 : Int) (c0__2 : List (List Int)) (c0__3 : List (List Int)) {r : Bool} (h : i_isPartialShape_1 labels c0__0 c0__1 c0__2 c0__3 = some r) : Y.call 94 [D.sl 3 (lst (D.int .i64) labels), D.cptr [D.int .i64 c0__0, D.int .i64 c0__1, D.sl 23 (lst (fun x => D.sl 3 (lst (D.int .i64) x)) c0__2), D.sl 23 (lst (fun x => D.sl 3 (lst (D.int .i64) x)) c0__3)]] [] = some (D.bool r, []) := by
  refine c94 ?_ rfl
  unfold k94
  unfold i_isPartialShape_1 at h
  obtain ⟨e1, h⟩ := ckS h
  have c2 := i_allWithin_cl labels (-1 : Int) (IntKind.i64.wrap (c0__0 - 1)) e1
  obtain rfl := Option.some.inj h
  simp (maxDischargeDepth := 9) only [↓xpre, xpost, xc2, xcore, yset, ↓reduceIte, Nat.reduceEqDiff, Nat.reduceLT, Nat.reduceAdd, Int.reduceNeg, c2] <;> (repeat' apply And.intro) <;> first | rfl | exact ⟨_, rfl⟩ | simp [lst, cat2_nil]

noncomputable def i_isPartialShape (p_Labels : Int) (p_Degree : Int) (p_Nodes : List (List Int)) (p_Edges : List (List Int)) (n_Ends : List (List (Int × Int))) (n_Ids : List Int) (n_Inputs : List Int) (l : List (List Int)) : Option (Bool) :=
  (i_portsOk n_Ends n_Ids n_Inputs l).bind fun r1_ =>
  if r1_ = true then
    (g_slices_ContainsFunc_SSint_Sint l (fun a0 => i_isPartialShape_1 a0 p_Labels p_Degree p_Nodes p_Edges)).bind fun r3_ =>
    some (!r3_)
  else
    some false
/-- impl.isPartialShape -/
def k53 : SC :=
 .seq
 (.ops [
 ⟨(some 3), (.box 43 (.tmp 0)), 0, none⟩,
 ⟨(some 4), (.box 29 (.tmp 1)), 0, none⟩,
 ⟨(some 6), (.assign (.const (.bool false))), 4, none⟩])
 (.seq
 (.ops [
 ⟨(some 7), (.load 29 (.tmp 4)), 29, none⟩,
 ⟨(some 8), (.move (.tmp 2)), 36, none⟩,
 ⟨(some 9), (.call ⟨(.value (.func 92)), #[(.tmp 7), (.tmp 8)], #[29, 36]⟩), 4, none⟩,
 ⟨(some 10), (.move (.tmp 9)), 4, none⟩,
 ⟨(some 11), (.move (.tmp 2)), 36, (some (some 10, true))⟩,
 ⟨(some 12), (.makeFunc (Fn.func 94) #[] #[(.tmp 3)]), 107, (some (some 10, true))⟩,
 ⟨(some 13), (.call ⟨(.value (.func 93)), #[(.tmp 11), (.tmp 12)], #[36, 107]⟩), 4, (some (some 10, true))⟩,
 ⟨(some 14), (.unOp .not 4 (.tmp 13)), 4, (some (some 10, true))⟩,
 ⟨(some 15), (.pick (.tmp 10) (.tmp 14) (.const (.bool false))), 4, none⟩,
 ⟨(some 6), (.assign (.tmp 15)), 4, none⟩])
 .ret)
theorem slim53 : Try.f53.body.map (slim lends) = some k53 := by kernel_rfl
theorem ok53 : fnOk Try.f53 3 = true := by kernel_rfl
theorem c53 {a l : List D} {r : D × List D} (h : wpD Y.env k53 (fin tys l.length [ResultVar.tmp 6] r) (entry a l)) (ha : a.length = 3) : Y.call 53 a l = some r :=
  call_slim (Y := Y) rfl Try.func53 (ha ▸ ok53) slim53 h
theorem i_isPartialShape_call (p_Labels : Int) (p_Degree : Int) (p_Nodes : List (List Int)) (p_Edges : List (List Int)) (n_Ends : List (List (Int × Int))) (n_Ids : List Int) (n_Inputs : List Int) (l : List (List Int)) {r : Bool} (h : i_isPartialShape p_Labels p_Degree p_Nodes p_Edges n_Ends n_Ids n_Inputs l = some r) : Y.call 53 [D.agg [D.int .i64 p_Labels, D.int .i64 p_Degree, D.sl 23 (lst (fun x => D.sl 3 (lst (D.int .i64) x)) p_Nodes), D.sl 23 (lst (fun x => D.sl 3 (lst (D.int .i64) x)) p_Edges)], D.agg [D.sl 93 (lst (fun x => D.sl 95 (cat2 .i64 .i64 x)) n_Ends), D.sl 3 (lst (D.int .i64) n_Ids), D.sl 3 (lst (D.int .i64) n_Inputs)], D.sl 23 (lst (fun x => D.sl 3 (lst (D.int .i64) x)) l)] [] = some (D.bool r, []) := by
  refine c53 ?_ rfl
  unfold k53
  unfold i_isPartialShape at h
  obtain ⟨r1_, hl1, h⟩ := bindS h
  try dsimp only at h
  have c1 := i_portsOk_call n_Ends n_Ids n_Inputs l hl1
  by_cases e2 : r1_ = true
  · rw [if_pos e2] at h
    obtain ⟨r3_, hl3, h⟩ := bindS h
    try dsimp only at h
    have c3 := g_slices_ContainsFunc_SSint_Sint_call l (fun a0 => i_isPartialShape_1 a0 p_Labels p_Degree p_Nodes p_Edges) 94 [D.cptr [D.int .i64 p_Labels, D.int .i64 p_Degree, D.sl 23 (lst (fun x => D.sl 3 (lst (D.int .i64) x)) p_Nodes), D.sl 23 (lst (fun x => D.sl 3 (lst (D.int .i64) x)) p_Edges)]] (fun a0 _ hh => i_isPartialShape_1_call a0 p_Labels p_Degree p_Nodes p_Edges hh) le94 hl3
    obtain rfl := Option.some.inj h
    simp (maxDischargeDepth := 9) only [↓xpre, xpost, xcore, yset, ↓reduceIte, Nat.reduceEqDiff, Nat.reduceLT, Nat.reduceAdd, c1, e2, c3] <;> (repeat' apply And.intro) <;> first | rfl | exact ⟨_, rfl⟩ | simp [lst, cat2_nil]
  · rw [if_neg e2] at h
    have e2f : r1_ = false := Bool.eq_false_iff.mpr e2
    obtain rfl := Option.some.inj h
    simp (maxDischargeDepth := 9) only [↓xpre, xpost, xcore, yset, ↓reduceIte, Nat.reduceEqDiff, Nat.reduceLT, Nat.reduceAdd, c1, e2f] <;> (repeat' apply And.intro) <;> first | rfl | exact ⟨_, rfl⟩ | simp [lst, cat2_nil]

noncomputable def i_includes_l0_S (c_ : List Int) (l : List Int) (t10_ : Int) (at_1 : Int) : Option ((Int) ⊕ (Int)) :=
  if at_1 < (c_.length : Int) then
    ck (0 ≤ at_1 ∧ at_1.toNat < c_.length) <|
    if (c_.getD at_1.toNat default) < (l.getD t10_.toNat default) then
      some (Sum.inl (IntKind.i64.wrap (at_1 + 1)))
    else
      some (Sum.inr at_1)
  else
    some (Sum.inr at_1)
noncomputable def i_includes_l0 (c_ : List Int) (l : List Int) (t10_ : Int) (v : Int) : Option (Int) := itO (fun v => i_includes_l0_S c_ l t10_ v) v
noncomputable def i_includes_l1_S (c_ : List Int) (l : List Int) (at_ : Int) (t10_ : Int) : Option ((Int × Int) ⊕ (Unit ⊕ Unit)) :=
  if t10_ < (l.length : Int) then
    ck (0 ≤ t10_ ∧ t10_.toNat < l.length) <|
    (i_includes_l0 c_ l t10_ at_).bind fun r4_ =>
    if r4_ = (c_.length : Int) then
      some (Sum.inr (Sum.inl ()))
    else
      ck (0 ≤ r4_ ∧ r4_.toNat < c_.length) <|
      if (c_.getD r4_.toNat default) = (l.getD t10_.toNat default) then
        some (Sum.inl (IntKind.i64.wrap (r4_ + 1), IntKind.i64.wrap (t10_ + 1)))
      else
        some (Sum.inr (Sum.inl ()))
  else
    some (Sum.inr (Sum.inr ()))
noncomputable def i_includes_l1 (c_ : List Int) (l : List Int) (v : Int × Int) : Option (Unit ⊕ Unit) := itO (fun v => i_includes_l1_S c_ l v.1 v.2) v
noncomputable def i_includes (c_ : List Int) (l : List Int) : Option (Bool) :=
  (i_includes_l1 c_ l (0, 0)).bind fun r2_ =>
  match r2_ with
  | .inl q2_ =>
    some false
  | .inr q2_ =>
    some true
/-- impl.includes -/
def k128_l0b : SC :=
 .seq
 (.seq
 (.ops [
 ⟨(some 14), (.move (.tmp 5)), 3, none⟩,
 ⟨(some 15), (.move (.tmp 0)), 23, none⟩,
 ⟨(some 16), (.call ⟨(.builtin .len), #[(.tmp 15)], #[23]⟩), 3, none⟩,
 ⟨(some 17), (.binOp .lss 3 (.tmp 14) (.tmp 16) 3), 4, none⟩,
 ⟨(some 18), (.move (.tmp 17)), 4, none⟩,
 ⟨(some 19), (.move (.tmp 0)), 23, (some (some 18, true))⟩,
 ⟨(some 20), (.move (.tmp 5)), 3, (some (some 18, true))⟩,
 ⟨(some 21), (.indexAddr 23 (.tmp 19) (.tmp 20)), 0, (some (some 18, true))⟩,
 ⟨(some 22), (.load 3 (.tmp 21)), 3, (some (some 18, true))⟩,
 ⟨(some 23), (.move (.tmp 7)), 3, (some (some 18, true))⟩,
 ⟨(some 24), (.binOp .lss 3 (.tmp 22) (.tmp 23) 3), 4, (some (some 18, true))⟩,
 ⟨(some 25), (.pick (.tmp 18) (.tmp 24) (.const (.bool false))), 4, none⟩])
 (.cond (.tmp 25)
 .skip
 (.exit 2)))
 (.block 3
 (.ops [
 ⟨(some 26), (.move (.tmp 5)), 3, none⟩,
 ⟨(some 27), (.binOp .add 3 (.tmp 26) (.const (.int .i64 1)) 3), 3, none⟩,
 ⟨(some 5), (.assign (.tmp 27)), 3, none⟩]))
def k128_l0 : SC := .loop k128_l0b
def k128_l1b : SC :=
 .seq
 (.ops [
 ⟨(some 11), (.binOp .lss 3 (.tmp 10) (.tmp 9) 3), 0, none⟩])
 (.seq
 (.cond (.tmp 11)
 .skip
 (.exit 0))
 (.seq
 (.block 1
 (.seq
 (.ops [
 ⟨(some 12), (.indexAddr 23 (.tmp 8) (.tmp 10)), 0, none⟩,
 ⟨(some 13), (.load 3 (.tmp 12)), 3, none⟩,
 ⟨(some 7), (.assign (.tmp 13)), 3, none⟩])
 (.seq
 (.block 2
 k128_l0)
 (.seq
 (.seq
 (.ops [
 ⟨(some 28), (.move (.tmp 5)), 3, none⟩,
 ⟨(some 29), (.move (.tmp 0)), 23, none⟩,
 ⟨(some 30), (.call ⟨(.builtin .len), #[(.tmp 29)], #[23]⟩), 3, none⟩,
 ⟨(some 31), (.binOp .eql 3 (.tmp 28) (.tmp 30) 3), 4, none⟩,
 ⟨(some 32), (.move (.tmp 31)), 4, none⟩,
 ⟨(some 33), (.move (.tmp 0)), 23, (some (some 32, false))⟩,
 ⟨(some 34), (.move (.tmp 5)), 3, (some (some 32, false))⟩,
 ⟨(some 35), (.indexAddr 23 (.tmp 33) (.tmp 34)), 0, (some (some 32, false))⟩,
 ⟨(some 36), (.load 3 (.tmp 35)), 3, (some (some 32, false))⟩,
 ⟨(some 37), (.move (.tmp 7)), 3, (some (some 32, false))⟩,
 ⟨(some 38), (.binOp .neq 3 (.tmp 36) (.tmp 37) 3), 4, (some (some 32, false))⟩,
 ⟨(some 39), (.pick (.tmp 32) (.const (.bool true)) (.tmp 38)), 4, none⟩])
 (.cond (.tmp 39)
 (.seq
 (.ops [
 ⟨(some 4), (.assign (.const (.bool false))), 4, none⟩])
 .ret)
 .skip))
 (.ops [
 ⟨(some 40), (.move (.tmp 5)), 3, none⟩,
 ⟨(some 41), (.binOp .add 3 (.tmp 40) (.const (.int .i64 1)) 3), 3, none⟩,
 ⟨(some 5), (.assign (.tmp 41)), 3, none⟩])))))
 (.ops [
 ⟨(some 42), (.binOp .add 3 (.tmp 10) (.const (.int .i64 1)) 3), 3, none⟩,
 ⟨(some 10), (.move (.tmp 42)), 3, none⟩])))
def k128_l1 : SC := .loop k128_l1b
def k128 : SC :=
 .seq
 (.ops [
 ⟨(some 4), (.assign (.const (.bool false))), 4, none⟩])
 (.seq
 (.ops [
 ⟨(some 5), (.assign (.const (.int .i64 0))), 3, none⟩])
 (.seq
 (.seq
 (.ops [
 ⟨(some 8), (.move (.tmp 1)), 23, none⟩,
 ⟨(some 9), (.call ⟨(.builtin .len), #[(.tmp 8)], #[23]⟩), 3, none⟩,
 ⟨(some 10), (.move (.const (.int .i64 0))), 3, none⟩])
 (.block 0
 k128_l1))
 (.seq
 (.ops [
 ⟨(some 4), (.assign (.const (.bool true))), 4, none⟩])
 .ret)))
theorem slim128 : Try.f128.body.map (slim lends) = some k128 := by kernel_rfl
theorem ok128 : fnOk Try.f128 2 = true := by kernel_rfl
theorem c128 {a l : List D} {r : D × List D} (h : wpD Y.env k128 (fin tys l.length [ResultVar.tmp 4] r) (entry a l)) (ha : a.length = 2) : Y.call 128 a l = some r :=
  call_slim (Y := Y) rfl Try.func128 (ha ▸ ok128) slim128 h
def i_includes_l0_M (c_ : List Int) (l : List Int) (t10_ : Int) (at_1 : Int) (s : St) : Prop := s.v 0 = D.sl 3 (lst (D.int .i64) c_) ∧ s.v 5 = D.int .i64 at_1 ∧ s.v 7 = D.int .i64 (l.getD t10_.toNat default) ∧ s.v 8 = D.sl 3 (lst (D.int .i64) l) ∧ s.v 9 = D.int .i64 (l.length : Int) ∧ s.v 10 = D.int .i64 t10_
def i_includes_l0_X (c_ : List Int) (l : List Int) (t10_ : Int) (r : Int) (ex : Ex) (s : St) : Prop := ex = .exit 2 ∧ s.v 0 = D.sl 3 (lst (D.int .i64) c_) ∧ s.v 5 = D.int .i64 r ∧ s.v 7 = D.int .i64 (l.getD t10_.toNat default) ∧ s.v 8 = D.sl 3 (lst (D.int .i64) l) ∧ s.v 9 = D.int .i64 (l.length : Int) ∧ s.v 10 = D.int .i64 t10_
theorem i_includes_l0_wp (c_ : List Int) (l : List Int) (t10_ : Int) {v : Int} {s : St} {r : Int} (h : i_includes_l0 c_ l t10_ v = some r) (hM : i_includes_l0_M c_ l t10_ v s) : wpD Y.env k128_l0 (i_includes_l0_X c_ l t10_ r) s := by
  unfold i_includes_l0 at h
  refine wd_itO (c := k128_l0b) (fun v => i_includes_l0_S c_ l t10_ v) (fun v s => i_includes_l0_M c_ l t10_ v s) (i_includes_l0_X c_ l t10_) ?_ h hM
  clear h hM s v r
  intro at_1 s o hM h
  unfold i_includes_l0_S at h
  unfold i_includes_l0_M at hM
  obtain ⟨m0, m1, m2, m3, m4, m5⟩ := hM
  unfold k128_l0b
  by_cases e3 : at_1 < (c_.length : Int)
  · rw [if_pos e3] at h
    obtain ⟨e4, h⟩ := ckS h
    by_cases e5 : (c_.getD at_1.toNat default) < (l.getD t10_.toNat default)
    · rw [if_pos e5] at h
      obtain rfl := Option.some.inj h
      simp (maxDischargeDepth := 9) only [↓xpre, xpost, xlst, xcore, yset, ↓reduceIte, Nat.reduceEqDiff, m0, m1, m2, m3, m4, m5, e3, e4.1, e4.2, e5, i_includes_l0_M, sxN] <;> (repeat' apply And.intro) <;> first | rfl | exact ⟨_, rfl⟩ | simp [lst, cat2_nil]
    · rw [if_neg e5] at h
      obtain rfl := Option.some.inj h
      simp (maxDischargeDepth := 9) only [↓xpre, xpost, xlst, xcore, yset, ↓reduceIte, Nat.reduceEqDiff, m0, m1, m2, m3, m4, m5, e3, e4.1, e4.2, e5, i_includes_l0_M, i_includes_l0_X, sxE] <;> (repeat' apply And.intro) <;> first | rfl | exact ⟨_, rfl⟩ | simp [lst, cat2_nil]
  · rw [if_neg e3] at h
    obtain rfl := Option.some.inj h
    simp (maxDischargeDepth := 9) only [↓xpre, xpost, xlst, yset, ↓reduceIte, Nat.reduceEqDiff, m0, m1, m2, m3, m4, m5, e3, i_includes_l0_M, i_includes_l0_X, sxE] <;> (repeat' apply And.intro) <;> first | rfl | exact ⟨_, rfl⟩ | simp [lst, cat2_nil]
def i_includes_l1_M (c_ : List Int) (l : List Int) (at_ : Int) (t10_ : Int) (s : St) : Prop := s.v 0 = D.sl 3 (lst (D.int .i64) c_) ∧ s.v 5 = D.int .i64 at_ ∧ s.v 8 = D.sl 3 (lst (D.int .i64) l) ∧ s.v 9 = D.int .i64 (l.length : Int) ∧ s.v 10 = D.int .i64 t10_
def i_includes_l1_X (c_ : List Int) (l : List Int) (r : Unit ⊕ Unit) (ex : Ex) (s : St) : Prop := match r with
  | .inl q => ex = .ret ∧ s.v 4 = D.bool false
  | .inr q => ex = .exit 0
theorem i_includes_l1_wp (c_ : List Int) (l : List Int) {v : Int × Int} {s : St} {r : Unit ⊕ Unit} (h : i_includes_l1 c_ l v = some r) (hM : i_includes_l1_M c_ l v.1 v.2 s) : wpD Y.env k128_l1 (i_includes_l1_X c_ l r) s := by
  unfold i_includes_l1 at h
  refine wd_itO (c := k128_l1b) (fun v => i_includes_l1_S c_ l v.1 v.2) (fun v s => i_includes_l1_M c_ l v.1 v.2 s) (i_includes_l1_X c_ l) ?_ h hM
  clear h hM s v r
  intro v s o hM h
  obtain ⟨at_, t10_⟩ := v
  dsimp only at h hM
  unfold i_includes_l1_S at h
  unfold i_includes_l1_M at hM
  obtain ⟨m0, m1, m2, m3, m4⟩ := hM
  unfold k128_l1b
  by_cases e1 : t10_ < (l.length : Int)
  · rw [if_pos e1] at h
    obtain ⟨e2, h⟩ := ckS h
    obtain ⟨r4_, hl4, h⟩ := bindS h
    try dsimp only at h
    simp (maxDischargeDepth := 9) only [↓xpre, xpost, xlst, xcore, yset, ↓reduceIte, Nat.reduceEqDiff, m2, m3, m4, e1, e2.1, e2.2]
    refine wd_mono (i_includes_l0_wp c_ l t10_ hl4 ?_) ?_
    · simp (maxDischargeDepth := 9) only [xpost, ↓reduceIte, Nat.reduceEqDiff, m0, m1, m2, m3, m4, i_includes_l0_M] <;> (repeat' apply And.intro) <;> first | rfl | exact ⟨_, rfl⟩ | simp [lst, cat2_nil]
    · intro ex4 s4 hX4
      unfold i_includes_l0_X at hX4
      obtain ⟨rfl, n4_0, n4_1, n4_2, n4_3, n4_4, n4_5⟩ := hX4
      by_cases e5 : r4_ = (c_.length : Int)
      · rw [if_pos e5] at h
        obtain rfl := Option.some.inj h
        simp (maxDischargeDepth := 9) only [↓xpre, xpost, xlst, yset, ↓reduceIte, Nat.reduceEqDiff, n4_0, n4_1, decide_eq_true e5, i_includes_l1_M, i_includes_l1_X, sxR] <;> (repeat' apply And.intro) <;> first | rfl | exact ⟨_, rfl⟩ | simp [lst, cat2_nil]
      · rw [if_neg e5] at h
        obtain ⟨e6, h⟩ := ckS h
        by_cases e7 : (c_.getD r4_.toNat default) = (l.getD t10_.toNat default)
        · rw [if_pos e7] at h
          obtain rfl := Option.some.inj h
          simp (maxDischargeDepth := 9) only [↓xpre, xpost, xlst, xcore, yset, ↓reduceIte, Nat.reduceEqDiff, n4_0, n4_1, n4_2, n4_3, n4_4, n4_5, e5, e6.1, e6.2, decide_eq_true e7, i_includes_l1_M, sxN] <;> (repeat' apply And.intro) <;> first | rfl | exact ⟨_, rfl⟩ | simp [lst, cat2_nil]
        · rw [if_neg e7] at h
          obtain rfl := Option.some.inj h
          simp (maxDischargeDepth := 9) only [↓xpre, xpost, xlst, xcore, yset, ↓reduceIte, Nat.reduceEqDiff, n4_0, n4_1, n4_2, e5, e6.1, e6.2, e7, i_includes_l1_M, i_includes_l1_X, sxR] <;> (repeat' apply And.intro) <;> first | rfl | exact ⟨_, rfl⟩ | simp [lst, cat2_nil]
  · rw [if_neg e1] at h
    obtain rfl := Option.some.inj h
    simp (maxDischargeDepth := 9) only [↓xpre, xpost, yset, ↓reduceIte, m3, m4, e1, i_includes_l1_M, i_includes_l1_X, sxE] <;> (repeat' apply And.intro) <;> first | rfl | exact ⟨_, rfl⟩ | simp [lst, cat2_nil]
theorem i_includes_call (c_ : List Int) (l : List Int) {r : Bool} (h : i_includes c_ l = some r) : Y.call 128 [D.sl 3 (lst (D.int .i64) c_), D.sl 3 (lst (D.int .i64) l)] [] = some (D.bool r, []) := by
  refine c128 ?_ rfl
  unfold k128
  unfold i_includes at h
  obtain ⟨r2_, hl2, h⟩ := bindS h
  try dsimp only at h
  simp (maxDischargeDepth := 9) only [↓xpre, xpost, xlst, xcore, yset, ↓reduceIte, Nat.reduceEqDiff, Nat.reduceLT]
  refine wd_mono (i_includes_l1_wp c_ l hl2 ?_) ?_
  · simp (maxDischargeDepth := 9) only [xpost, xcore, ↓reduceIte, Nat.reduceEqDiff, Nat.reduceLT, i_includes_l1_M] <;> (repeat' apply And.intro) <;> first | rfl | exact ⟨_, rfl⟩ | simp [lst, cat2_nil]
  · intro ex2 s2 hX2
    rcases r2_ with q2_ | q2_
    · unfold i_includes_l1_X at hX2
      dsimp only at hX2 h
      obtain ⟨rfl, n2_0⟩ := hX2
      obtain rfl := Option.some.inj h
      simp (maxDischargeDepth := 9) only [↓xpre, xpost, xcore, ↓reduceIte, n2_0] <;> (repeat' apply And.intro) <;> first | rfl | exact ⟨_, rfl⟩ | simp [lst, cat2_nil]
    · unfold i_includes_l1_X at hX2
      dsimp only at hX2 h
      obtain rfl := hX2
      obtain rfl := Option.some.inj h
      simp (maxDischargeDepth := 9) only [↓xpre, xpost, xcore, yset, ↓reduceIte] <;> (repeat' apply And.intro) <;> first | rfl | exact ⟨_, rfl⟩ | simp [lst, cat2_nil]

noncomputable def i_nodeHolds_1 (c_ : List Int) (c0_ : List Int) : Option (Bool) :=
  (i_includes c_ c0_).bind fun r1_ =>
  some r1_
/-- impl.nodeHolds$1 -/
def k127 : SC :=
 .seq
 (.ops [
 ⟨(some 3), (.assign (.const (.bool false))), 4, none⟩])
 (.seq
 (.ops [
 ⟨(some 4), (.move (.tmp 0)), 23, none⟩,
 ⟨(some 5), (.load 23 (.tmp 1)), 23, none⟩,
 ⟨(some 6), (.call ⟨(.value (.func 128)), #[(.tmp 4), (.tmp 5)], #[23, 23]⟩), 4, none⟩,
 ⟨(some 3), (.assign (.tmp 6)), 4, none⟩])
 .ret)
theorem slim127 : Try.f127.body.map (slim lends) = some k127 := by kernel_rfl
theorem ok127 : fnOk Try.f127 2 = true := by kernel_rfl
theorem c127 {a l : List D} {r : D × List D} (h : wpD Y.env k127 (fin tys l.length [ResultVar.tmp 3] r) (entry a l)) (ha : a.length = 2) : Y.call 127 a l = some r :=
  call_slim (Y := Y) rfl Try.func127 (ha ▸ ok127) slim127 h
theorem i_nodeHolds_1_call (c_ : List Int) (c0_ : List Int) {r : Bool} (h : i_nodeHolds_1 c_ c0_ = some r) : Y.call 127 [D.sl 3 (lst (D.int .i64) c_), D.cptr [D.sl 3 (lst (D.int .i64) c0_)]] [] = some (D.bool r, []) := by
  refine c127 ?_ rfl
  unfold k127
  unfold i_nodeHolds_1 at h
  obtain ⟨r1_, hl1, h⟩ := bindS h
  try dsimp only at h
  have c1 := i_includes_call c_ c0_ hl1
  obtain rfl := Option.some.inj h
  simp (maxDischargeDepth := 9) only [↓xpre, xpost, xcore, yset, ↓reduceIte, Nat.reduceEqDiff, Nat.reduceLT, Nat.reduceAdd, c1] <;> (repeat' apply And.intro) <;> first | rfl | exact ⟨_, rfl⟩ | simp [lst, cat2_nil]

noncomputable def i_nodeHolds_l0_S (p_Labels : Int) (p_Degree : Int) (p_Nodes : List (List Int)) (p_Edges : List (List Int)) (l : List (List Int)) (v_ : Int) (known_0 : List Int) (t23_ : Int) : Option (((List Int) × Int) ⊕ ((List Int))) :=
  if t23_ < ((l.getD v_.toNat default).length : Int) then
    ck (0 ≤ t23_ ∧ t23_.toNat < (l.getD v_.toNat default).length) <|
    if 0 ≤ ((l.getD v_.toNat default).getD t23_.toNat default) then
      ck (known_0.length + 1 < 1099511627776) <|
      some (Sum.inl ((known_0 ++ [((l.getD v_.toNat default).getD t23_.toNat default)]), IntKind.i64.wrap (t23_ + 1)))
    else
      some (Sum.inl (known_0, IntKind.i64.wrap (t23_ + 1)))
  else
    some (Sum.inr known_0)
noncomputable def i_nodeHolds_l0 (p_Labels : Int) (p_Degree : Int) (p_Nodes : List (List Int)) (p_Edges : List (List Int)) (l : List (List Int)) (v_ : Int) (v : (List Int) × Int) : Option ((List Int)) := itO (fun v => i_nodeHolds_l0_S p_Labels p_Degree p_Nodes p_Edges l v_ v.1 v.2) v
noncomputable def i_nodeHolds (p_Labels : Int) (p_Degree : Int) (p_Nodes : List (List Int)) (p_Edges : List (List Int)) (l : List (List Int)) (v_ : Int) : Option (Bool) :=
  ck (0 ≤ v_ ∧ v_.toNat < l.length) <|
  if ((l.getD v_.toNat default).length : Int) = p_Degree then
    (i_nodeHolds_l0 p_Labels p_Degree p_Nodes p_Edges l v_ ([], 0)).bind fun r4_ =>
    ck (r4_.length < 4611686018427387904) <|
    (g_slices_ContainsFunc_SSint_Sint p_Nodes (fun a0 => i_nodeHolds_1 a0 (sortM r4_))).bind fun r7_ =>
    some r7_
  else
    some true
/-- impl.nodeHolds -/
def k96_l0b : SC :=
 .seq
 (.ops [
 ⟨(some 24), (.binOp .lss 3 (.tmp 23) (.tmp 22) 3), 0, none⟩])
 (.seq
 (.cond (.tmp 24)
 .skip
 (.exit 0))
 (.seq
 (.block 1
 (.seq
 (.ops [
 ⟨(some 25), (.indexAddr 23 (.tmp 21) (.tmp 23)), 0, none⟩,
 ⟨(some 26), (.load 3 (.tmp 25)), 3, none⟩,
 ⟨(some 9), (.assign (.tmp 26)), 3, none⟩])
 (.seq
 (.ops [
 ⟨(some 27), (.move (.tmp 9)), 3, none⟩,
 ⟨(some 28), (.binOp .geq 3 (.tmp 27) (.const (.int .i64 0)) 3), 4, none⟩])
 (.cond (.tmp 28)
 (.ops [
 ⟨(some 29), (.load 23 (.tmp 7)), 23, none⟩,
 ⟨(some 30), (.move (.tmp 9)), 3, none⟩,
 ⟨(some 31), (.buildSlice 23 1 #[(0, (.tmp 30))]), 23, none⟩,
 ⟨(some 32), (.call ⟨(.builtin .append), #[(.tmp 29), (.tmp 31)], #[23, 23]⟩), 23, none⟩,
 ⟨none, (.store 23 (.tmp 7) (.tmp 32)), 0, none⟩])
 .skip))))
 (.ops [
 ⟨(some 33), (.binOp .add 3 (.tmp 23) (.const (.int .i64 1)) 3), 3, none⟩,
 ⟨(some 23), (.move (.tmp 33)), 3, none⟩])))
def k96_l0 : SC := .loop k96_l0b
def k96 : SC :=
 .seq
 (.ops [
 ⟨(some 3), (.box 43 (.tmp 0)), 0, none⟩,
 ⟨(some 6), (.assign (.const (.bool false))), 4, none⟩])
 (.seq
 (.seq
 (.draws [
 (⟨[10, 1, 1], [10, 11, 12, 13, 14, 15, 16, 17], [10]⟩, ⟨(some 10), (.move (.tmp 1)), 36, none⟩),
 (⟨[11, 2, 2], [10, 11, 12, 13, 14, 15, 16, 17], [11]⟩, ⟨(some 11), (.move (.tmp 2)), 3, none⟩),
 (⟨[12, 10, 11, 1, 2], [10, 11, 12, 13, 14, 15, 16, 17], [12]⟩, ⟨(some 12), (.indexAddr 36 (.tmp 10) (.tmp 11)), 0, none⟩),
 (⟨[13, 12, 1], [10, 11, 12, 13, 14, 15, 16, 17], [13]⟩, ⟨(some 13), (.load 23 (.tmp 12)), 23, none⟩),
 (⟨[14, 13, 1], [10, 11, 12, 13, 14, 15, 16, 17], [14]⟩, ⟨(some 14), (.call ⟨(.builtin .len), #[(.tmp 13)], #[23]⟩), 3, none⟩),
 (⟨[15, 3, 3], [10, 11, 12, 13, 14, 15, 16, 17], [15]⟩, ⟨(some 15), (.fieldAddr 43 (.tmp 3) 1), 0, none⟩),
 (⟨[16, 15, 3], [10, 11, 12, 13, 14, 15, 16, 17], [16]⟩, ⟨(some 16), (.load 3 (.tmp 15)), 3, none⟩),
 (⟨[17, 14, 16, 14, 3], [10, 11, 12, 13, 14, 15, 16, 17], [17]⟩, ⟨(some 17), (.binOp .neq 3 (.tmp 14) (.tmp 16) 3), 4, none⟩)])
 (.cond (.tmp 17)
 (.seq
 (.ops [
 ⟨(some 6), (.assign (.const (.bool true))), 4, none⟩])
 .ret)
 .skip))
 (.seq
 (.ops [
 ⟨(some 7), (.alloc 23), 0, none⟩])
 (.seq
 (.seq
 (.ops [
 ⟨(some 18), (.move (.tmp 1)), 36, none⟩,
 ⟨(some 19), (.move (.tmp 2)), 3, none⟩,
 ⟨(some 20), (.indexAddr 36 (.tmp 18) (.tmp 19)), 0, none⟩,
 ⟨(some 21), (.load 23 (.tmp 20)), 23, none⟩,
 ⟨(some 22), (.call ⟨(.builtin .len), #[(.tmp 21)], #[23]⟩), 3, none⟩,
 ⟨(some 23), (.move (.const (.int .i64 0))), 3, none⟩])
 (.block 0
 k96_l0))
 (.seq
 (.ops [
 ⟨(some 34), (.load 23 (.tmp 7)), 23, none⟩,
 ⟨(some 35), (.call ⟨(.value (.func 81)), #[(.tmp 34)], #[23]⟩), 0, none⟩])
 (.seq
 (.ops [
 ⟨(some 36), (.fieldAddr 43 (.tmp 3) 2), 0, none⟩,
 ⟨(some 37), (.load 36 (.tmp 36)), 36, none⟩,
 ⟨(some 38), (.makeFunc (Fn.func 127) #[] #[(.tmp 7)]), 107, none⟩,
 ⟨(some 39), (.call ⟨(.value (.func 93)), #[(.tmp 37), (.tmp 38)], #[36, 107]⟩), 4, none⟩,
 ⟨(some 6), (.assign (.tmp 39)), 4, none⟩])
 .ret)))))
theorem slim96 : Try.f96.body.map (slim lends) = some k96 := by kernel_rfl
theorem ok96 : fnOk Try.f96 3 = true := by kernel_rfl
theorem c96 {a l : List D} {r : D × List D} (h : wpD Y.env k96 (fin tys l.length [ResultVar.tmp 6] r) (entry a l)) (ha : a.length = 3) : Y.call 96 a l = some r :=
  call_slim (Y := Y) rfl Try.func96 (ha ▸ ok96) slim96 h
def i_nodeHolds_l0_M (p_Labels : Int) (p_Degree : Int) (p_Nodes : List (List Int)) (p_Edges : List (List Int)) (l : List (List Int)) (v_ : Int) (known_0 : List Int) (t23_ : Int) (s : St) : Prop := s.v 3 = D.box [D.int .i64 p_Labels, D.int .i64 p_Degree, D.sl 23 (lst (fun x => D.sl 3 (lst (D.int .i64) x)) p_Nodes), D.sl 23 (lst (fun x => D.sl 3 (lst (D.int .i64) x)) p_Edges)] ∧ s.v 7 = D.box [D.own 3 (lst (D.int .i64) known_0)] ∧ s.v 21 = D.sl 3 (lst (D.int .i64) (l.getD v_.toNat default)) ∧ s.v 22 = D.int .i64 ((l.getD v_.toNat default).length : Int) ∧ s.v 23 = D.int .i64 t23_
def i_nodeHolds_l0_X (p_Labels : Int) (p_Degree : Int) (p_Nodes : List (List Int)) (p_Edges : List (List Int)) (l : List (List Int)) (v_ : Int) (r : (List Int)) (ex : Ex) (s : St) : Prop := ex = .exit 0 ∧ s.v 3 = D.box [D.int .i64 p_Labels, D.int .i64 p_Degree, D.sl 23 (lst (fun x => D.sl 3 (lst (D.int .i64) x)) p_Nodes), D.sl 23 (lst (fun x => D.sl 3 (lst (D.int .i64) x)) p_Edges)] ∧ s.v 7 = D.box [D.own 3 (lst (D.int .i64) r)]
theorem i_nodeHolds_l0_wp (p_Labels : Int) (p_Degree : Int) (p_Nodes : List (List Int)) (p_Edges : List (List Int)) (l : List (List Int)) (v_ : Int) {v : (List Int) × Int} {s : St} {r : (List Int)} (h : i_nodeHolds_l0 p_Labels p_Degree p_Nodes p_Edges l v_ v = some r) (hM : i_nodeHolds_l0_M p_Labels p_Degree p_Nodes p_Edges l v_ v.1 v.2 s) : wpD Y.env k96_l0 (i_nodeHolds_l0_X p_Labels p_Degree p_Nodes p_Edges l v_ r) s := by
  unfold i_nodeHolds_l0 at h
  refine wd_itO (c := k96_l0b) (fun v => i_nodeHolds_l0_S p_Labels p_Degree p_Nodes p_Edges l v_ v.1 v.2) (fun v s => i_nodeHolds_l0_M p_Labels p_Degree p_Nodes p_Edges l v_ v.1 v.2 s) (i_nodeHolds_l0_X p_Labels p_Degree p_Nodes p_Edges l v_) ?_ h hM
  clear h hM s v r
  intro v s o hM h
  obtain ⟨known_0, t23_⟩ := v
  dsimp only at h hM
  unfold i_nodeHolds_l0_S at h
  unfold i_nodeHolds_l0_M at hM
  obtain ⟨m0, m1, m2, m3, m4⟩ := hM
  unfold k96_l0b
  by_cases e3 : t23_ < ((l.getD v_.toNat default).length : Int)
  · rw [if_pos e3] at h
    obtain ⟨e4, h⟩ := ckS h
    by_cases e5 : 0 ≤ ((l.getD v_.toNat default).getD t23_.toNat default)
    · rw [if_pos e5] at h
      obtain ⟨e6, h⟩ := ckS h
      obtain rfl := Option.some.inj h
      simp (maxDischargeDepth := 9) only [↓xpre, xpost, xlst, xcore, yset, ↓reduceIte, Nat.reduceEqDiff, Nat.reduceLT, Nat.reduceLeDiff, Nat.reduceAdd, m0, m1, m2, m3, m4, e3, e4.1, e4.2, e5, e6, i_nodeHolds_l0_M, sxN] <;> (repeat' apply And.intro) <;> first | rfl | exact ⟨_, rfl⟩ | simp [lst, cat2_nil]
    · rw [if_neg e5] at h
      obtain rfl := Option.some.inj h
      simp (maxDischargeDepth := 9) only [↓xpre, xpost, xlst, xcore, yset, ↓reduceIte, Nat.reduceEqDiff, m0, m1, m2, m3, m4, e3, e4.1, e4.2, e5, i_nodeHolds_l0_M, sxN] <;> (repeat' apply And.intro) <;> first | rfl | exact ⟨_, rfl⟩ | simp [lst, cat2_nil]
  · rw [if_neg e3] at h
    obtain rfl := Option.some.inj h
    simp (maxDischargeDepth := 9) only [↓xpre, xpost, yset, ↓reduceIte, Nat.reduceEqDiff, m0, m1, m3, m4, e3, i_nodeHolds_l0_M, i_nodeHolds_l0_X, sxE] <;> (repeat' apply And.intro) <;> first | rfl | exact ⟨_, rfl⟩ | simp [lst, cat2_nil]
theorem i_nodeHolds_call (p_Labels : Int) (p_Degree : Int) (p_Nodes : List (List Int)) (p_Edges : List (List Int)) (l : List (List Int)) (v_ : Int) {r : Bool} (h : i_nodeHolds p_Labels p_Degree p_Nodes p_Edges l v_ = some r) : Y.call 96 [D.agg [D.int .i64 p_Labels, D.int .i64 p_Degree, D.sl 23 (lst (fun x => D.sl 3 (lst (D.int .i64) x)) p_Nodes), D.sl 23 (lst (fun x => D.sl 3 (lst (D.int .i64) x)) p_Edges)], D.sl 23 (lst (fun x => D.sl 3 (lst (D.int .i64) x)) l), D.int .i64 v_] [] = some (D.bool r, []) := by
  refine c96 ?_ rfl
  unfold k96
  unfold i_nodeHolds at h
  obtain ⟨e1, h⟩ := ckS h
  by_cases e2 : ((l.getD v_.toNat default).length : Int) = p_Degree
  · rw [if_pos e2] at h
    obtain ⟨r4_, hl4, h⟩ := bindS h
    try dsimp only at h
    simp (maxDischargeDepth := 9) only [↓xpre, xpost, xlst, xcore, yset, ↓reduceIte, Nat.reduceEqDiff, Nat.reduceLT, Nat.reduceAdd, Nat.reduceBEq, e1.1, e1.2, decide_eq_true e2]
    refine wd_mono (i_nodeHolds_l0_wp p_Labels p_Degree p_Nodes p_Edges l v_ hl4 ?_) ?_
    · simp (maxDischargeDepth := 9) only [xpost, ↓reduceIte, Nat.reduceEqDiff, i_nodeHolds_l0_M] <;> (repeat' apply And.intro) <;> first | rfl | exact ⟨_, rfl⟩ | simp [lst, cat2_nil]
    · intro ex4 s4 hX4
      unfold i_nodeHolds_l0_X at hX4
      obtain ⟨rfl, n4_0, n4_1⟩ := hX4
      obtain ⟨e5, h⟩ := ckS h
      have c6 := sort_81 r4_ e5
      obtain ⟨r7_, hl7, h⟩ := bindS h
      try dsimp only at h
      have c7 := g_slices_ContainsFunc_SSint_Sint_call p_Nodes (fun a0 => i_nodeHolds_1 a0 (sortM r4_)) 127 [D.cptr [D.sl 3 (lst (D.int .i64) (sortM r4_))]] (fun a0 _ hh => i_nodeHolds_1_call a0 (sortM r4_) hh) le127 hl7
      obtain rfl := Option.some.inj h
      simp (maxDischargeDepth := 9) only [↓xpre, xpost, xlst, xcore, yset, ↓reduceIte, Nat.reduceEqDiff, Nat.reduceLT, Nat.reduceAdd, n4_0, n4_1, c6, c7] <;> (repeat' apply And.intro) <;> first | rfl | exact ⟨_, rfl⟩ | simp [lst, cat2_nil]
  · rw [if_neg e2] at h
    obtain rfl := Option.some.inj h
    simp (maxDischargeDepth := 9) only [↓xpre, xpost, xlst, xcore, yset, ↓reduceIte, Nat.reduceEqDiff, Nat.reduceLT, Nat.reduceAdd, Nat.reduceBEq, e1.1, e1.2, e2] <;> (repeat' apply And.intro) <;> first | rfl | exact ⟨_, rfl⟩ | simp [lst, cat2_nil]

noncomputable def i_edgeHolds (p_Labels : Int) (p_Degree : Int) (p_Nodes : List (List Int)) (p_Edges : List (List Int)) (n_Ends : List (List (Int × Int))) (n_Ids : List Int) (n_Inputs : List Int) (l : List (List Int)) (v_ : Int) (i : Int) : Option (Bool) :=
  ck (0 ≤ v_ ∧ v_.toNat < n_Ends.length) <|
  ck (0 ≤ i ∧ i.toNat < (n_Ends.getD v_.toNat default).length) <|
  ck (0 ≤ v_ ∧ v_.toNat < l.length) <|
  ck (0 ≤ i ∧ i.toNat < (l.getD v_.toNat default).length) <|
  ck (0 ≤ (fstD (n_Ends.getD v_.toNat default) i.toNat) ∧ (fstD (n_Ends.getD v_.toNat default) i.toNat).toNat < l.length) <|
  ck (0 ≤ (sndD (n_Ends.getD v_.toNat default) i.toNat) ∧ (sndD (n_Ends.getD v_.toNat default) i.toNat).toNat < (l.getD ((fstD (n_Ends.getD v_.toNat default) i.toNat).toNat) default).length) <|
  if ((l.getD v_.toNat default).getD i.toNat default) < 0 then
    some true
  else
    if ((l.getD ((fstD (n_Ends.getD v_.toNat default) i.toNat).toNat) default).getD ((sndD (n_Ends.getD v_.toNat default) i.toNat).toNat) default) < 0 then
      some true
    else
      ck (Short p_Edges) <|
      ck (incL p_Edges = true) <|
      some (hasE p_Edges ((l.getD v_.toNat default).getD i.toNat default) ((l.getD ((fstD (n_Ends.getD v_.toNat default) i.toNat).toNat) default).getD ((sndD (n_Ends.getD v_.toNat default) i.toNat).toNat) default))
/-- impl.edgeHolds -/
def k97 : SC :=
 .seq
 (.ops [
 ⟨(some 5), (.box 43 (.tmp 0)), 0, none⟩,
 ⟨(some 6), (.box 29 (.tmp 1)), 0, none⟩,
 ⟨(some 10), (.assign (.const (.bool false))), 4, none⟩])
 (.seq
 (.ops [
 ⟨(some 14), (.fieldAddr 29 (.tmp 6) 0), 0, none⟩,
 ⟨(some 15), (.load 27 (.tmp 14)), 27, none⟩,
 ⟨(some 16), (.move (.tmp 3)), 3, none⟩,
 ⟨(some 17), (.indexAddr 27 (.tmp 15) (.tmp 16)), 0, none⟩,
 ⟨(some 18), (.load 93 (.tmp 17)), 93, none⟩,
 ⟨(some 19), (.move (.tmp 4)), 3, none⟩,
 ⟨(some 20), (.indexAddr 93 (.tmp 18) (.tmp 19)), 0, none⟩,
 ⟨(some 21), (.load 95 (.tmp 20)), 95, none⟩,
 ⟨(some 11), (.alloc 95), 0, none⟩,
 ⟨none, (.store 95 (.tmp 11) (.tmp 21)), 0, none⟩])
 (.seq
 (.draws [
 (⟨[22, 2, 2], [22, 23, 24, 25, 26, 27, 28, 29, 30, 31, 32, 33, 34, 35, 36, 37, 12, 28, 13, 37], [22]⟩, ⟨(some 22), (.move (.tmp 2)), 36, none⟩),
 (⟨[23, 3, 3], [22, 23, 24, 25, 26, 27, 28, 29, 30, 31, 32, 33, 34, 35, 36, 37, 12, 28, 13, 37], [23]⟩, ⟨(some 23), (.move (.tmp 3)), 3, none⟩),
 (⟨[24, 22, 23, 2, 3], [22, 23, 24, 25, 26, 27, 28, 29, 30, 31, 32, 33, 34, 35, 36, 37, 12, 28, 13, 37], [24]⟩, ⟨(some 24), (.indexAddr 36 (.tmp 22) (.tmp 23)), 0, none⟩),
 (⟨[25, 24, 2], [22, 23, 24, 25, 26, 27, 28, 29, 30, 31, 32, 33, 34, 35, 36, 37, 12, 28, 13, 37], [25]⟩, ⟨(some 25), (.load 23 (.tmp 24)), 23, none⟩),
 (⟨[26, 4, 4], [22, 23, 24, 25, 26, 27, 28, 29, 30, 31, 32, 33, 34, 35, 36, 37, 12, 28, 13, 37], [26]⟩, ⟨(some 26), (.move (.tmp 4)), 3, none⟩),
 (⟨[27, 25, 26, 2, 4], [22, 23, 24, 25, 26, 27, 28, 29, 30, 31, 32, 33, 34, 35, 36, 37, 12, 28, 13, 37], [27]⟩, ⟨(some 27), (.indexAddr 23 (.tmp 25) (.tmp 26)), 0, none⟩),
 (⟨[28, 27, 2], [22, 23, 24, 25, 26, 27, 28, 29, 30, 31, 32, 33, 34, 35, 36, 37, 12, 28, 13, 37], [28]⟩, ⟨(some 28), (.load 3 (.tmp 27)), 3, none⟩),
 (⟨[29, 2, 2], [22, 23, 24, 25, 26, 27, 28, 29, 30, 31, 32, 33, 34, 35, 36, 37, 12, 28, 13, 37], [29]⟩, ⟨(some 29), (.move (.tmp 2)), 36, none⟩),
 (⟨[30, 11, 11], [22, 23, 24, 25, 26, 27, 28, 29, 30, 31, 32, 33, 34, 35, 36, 37, 12, 28, 13, 37], [30]⟩, ⟨(some 30), (.fieldAddr 95 (.tmp 11) 0), 0, none⟩),
 (⟨[31, 30, 11], [22, 23, 24, 25, 26, 27, 28, 29, 30, 31, 32, 33, 34, 35, 36, 37, 12, 28, 13, 37], [31]⟩, ⟨(some 31), (.load 3 (.tmp 30)), 3, none⟩),
 (⟨[32, 29, 31, 2, 11], [22, 23, 24, 25, 26, 27, 28, 29, 30, 31, 32, 33, 34, 35, 36, 37, 12, 28, 13, 37], [32]⟩, ⟨(some 32), (.indexAddr 36 (.tmp 29) (.tmp 31)), 0, none⟩),
 (⟨[33, 32, 2], [22, 23, 24, 25, 26, 27, 28, 29, 30, 31, 32, 33, 34, 35, 36, 37, 12, 28, 13, 37], [33]⟩, ⟨(some 33), (.load 23 (.tmp 32)), 23, none⟩),
 (⟨[34, 11, 11], [22, 23, 24, 25, 26, 27, 28, 29, 30, 31, 32, 33, 34, 35, 36, 37, 12, 28, 13, 37], [34]⟩, ⟨(some 34), (.fieldAddr 95 (.tmp 11) 1), 0, none⟩),
 (⟨[35, 34, 11], [22, 23, 24, 25, 26, 27, 28, 29, 30, 31, 32, 33, 34, 35, 36, 37, 12, 28, 13, 37], [35]⟩, ⟨(some 35), (.load 3 (.tmp 34)), 3, none⟩),
 (⟨[36, 33, 35, 2, 11], [22, 23, 24, 25, 26, 27, 28, 29, 30, 31, 32, 33, 34, 35, 36, 37, 12, 28, 13, 37], [36]⟩, ⟨(some 36), (.indexAddr 23 (.tmp 33) (.tmp 35)), 0, none⟩),
 (⟨[37, 36, 2], [22, 23, 24, 25, 26, 27, 28, 29, 30, 31, 32, 33, 34, 35, 36, 37, 12, 28, 13, 37], [37]⟩, ⟨(some 37), (.load 3 (.tmp 36)), 3, none⟩),
 (⟨[12, 28, 2], [22, 23, 24, 25, 26, 27, 28, 29, 30, 31, 32, 33, 34, 35, 36, 37, 12, 28, 13, 37], [12, 28]⟩, ⟨(some 12), (.assign (.tmp 28)), 3, none⟩),
 (⟨[13, 37, 2], [22, 23, 24, 25, 26, 27, 28, 29, 30, 31, 32, 33, 34, 35, 36, 37, 12, 28, 13, 37], [13, 37]⟩, ⟨(some 13), (.assign (.tmp 37)), 3, none⟩)])
 (.seq
 (.ops [
 ⟨(some 38), (.move (.tmp 12)), 3, none⟩,
 ⟨(some 39), (.binOp .lss 3 (.tmp 38) (.const (.int .i64 0)) 3), 4, none⟩,
 ⟨(some 40), (.move (.tmp 39)), 4, none⟩,
 ⟨(some 41), (.move (.tmp 13)), 3, (some (some 40, false))⟩,
 ⟨(some 42), (.binOp .lss 3 (.tmp 41) (.const (.int .i64 0)) 3), 4, (some (some 40, false))⟩,
 ⟨(some 43), (.pick (.tmp 40) (.const (.bool true)) (.tmp 42)), 4, none⟩,
 ⟨(some 44), (.move (.tmp 43)), 4, none⟩,
 ⟨(some 45), (.load 43 (.tmp 5)), 43, (some (some 44, false))⟩,
 ⟨(some 46), (.move (.tmp 12)), 3, (some (some 44, false))⟩,
 ⟨(some 47), (.move (.tmp 13)), 3, (some (some 44, false))⟩,
 ⟨(some 48), (.call ⟨(.value (.func 129)), #[(.tmp 45), (.tmp 46), (.tmp 47)], #[43, 3, 3]⟩), 4, (some (some 44, false))⟩,
 ⟨(some 49), (.pick (.tmp 44) (.const (.bool true)) (.tmp 48)), 4, none⟩,
 ⟨(some 10), (.assign (.tmp 49)), 4, none⟩])
 .ret)))
theorem slim97 : Try.f97.body.map (slim lends) = some k97 := by kernel_rfl
theorem ok97 : fnOk Try.f97 5 = true := by kernel_rfl
theorem c97 {a l : List D} {r : D × List D} (h : wpD Y.env k97 (fin tys l.length [ResultVar.tmp 10] r) (entry a l)) (ha : a.length = 5) : Y.call 97 a l = some r :=
  call_slim (Y := Y) rfl Try.func97 (ha ▸ ok97) slim97 h
theorem i_edgeHolds_call (p_Labels : Int) (p_Degree : Int) (p_Nodes : List (List Int)) (p_Edges : List (List Int)) (n_Ends : List (List (Int × Int))) (n_Ids : List Int) (n_Inputs : List Int) (l : List (List Int)) (v_ : Int) (i : Int) {r : Bool} (h : i_edgeHolds p_Labels p_Degree p_Nodes p_Edges n_Ends n_Ids n_Inputs l v_ i = some r) : Y.call 97 [D.agg [D.int .i64 p_Labels, D.int .i64 p_Degree, D.sl 23 (lst (fun x => D.sl 3 (lst (D.int .i64) x)) p_Nodes), D.sl 23 (lst (fun x => D.sl 3 (lst (D.int .i64) x)) p_Edges)], D.agg [D.sl 93 (lst (fun x => D.sl 95 (cat2 .i64 .i64 x)) n_Ends), D.sl 3 (lst (D.int .i64) n_Ids), D.sl 3 (lst (D.int .i64) n_Inputs)], D.sl 23 (lst (fun x => D.sl 3 (lst (D.int .i64) x)) l), D.int .i64 v_, D.int .i64 i] [] = some (D.bool r, []) := by
  refine c97 ?_ rfl
  unfold k97
  unfold i_edgeHolds at h
  obtain ⟨e1, h⟩ := ckS h
  obtain ⟨e2, h⟩ := ckS h
  obtain ⟨e3, h⟩ := ckS h
  obtain ⟨e4, h⟩ := ckS h
  obtain ⟨e5, h⟩ := ckS h
  obtain ⟨e6, h⟩ := ckS h
  by_cases e7 : ((l.getD v_.toNat default).getD i.toNat default) < 0
  · rw [if_pos e7] at h
    obtain rfl := Option.some.inj h
    simp (maxDischargeDepth := 9) only [↓xpre, xpost, xlst, xc2, xcore, yset, ↓reduceIte, Nat.reduceEqDiff, Nat.reduceLT, Nat.reduceAdd, Nat.reduceBEq, e1.1, e1.2, e2.1, e2.2, e3.2, e4.2, e5.1, e5.2, e6.1, e6.2, e7] <;> (repeat' apply And.intro) <;> first | rfl | exact ⟨_, rfl⟩ | simp [lst, cat2_nil]
  · rw [if_neg e7] at h
    by_cases e8 : ((l.getD ((fstD (n_Ends.getD v_.toNat default) i.toNat).toNat) default).getD ((sndD (n_Ends.getD v_.toNat default) i.toNat).toNat) default) < 0
    · rw [if_pos e8] at h
      obtain rfl := Option.some.inj h
      simp (maxDischargeDepth := 9) only [↓xpre, xpost, xlst, xc2, xcore, yset, ↓reduceIte, Nat.reduceEqDiff, Nat.reduceLT, Nat.reduceAdd, Nat.reduceBEq, e1.1, e1.2, e2.1, e2.2, e3.2, e4.2, e5.1, e5.2, e6.1, e6.2, e7, e8] <;> (repeat' apply And.intro) <;> first | rfl | exact ⟨_, rfl⟩ | simp [lst, cat2_nil]
    · rw [if_neg e8] at h
      obtain ⟨e9, h⟩ := ckS h
      obtain ⟨e10, h⟩ := ckS h
      have c11 := i_Problem_edge_cl p_Labels p_Degree p_Nodes p_Edges ((l.getD v_.toNat default).getD i.toNat default) ((l.getD ((fstD (n_Ends.getD v_.toNat default) i.toNat).toNat) default).getD ((sndD (n_Ends.getD v_.toNat default) i.toNat).toNat) default) e9 e10
      obtain rfl := Option.some.inj h
      simp (maxDischargeDepth := 9) only [↓xpre, xpost, xlst, xc2, xcore, yset, ↓reduceIte, Nat.reduceEqDiff, Nat.reduceLT, Nat.reduceAdd, Nat.reduceBEq, e1.1, e1.2, e2.1, e2.2, e3.2, e4.2, e5.1, e5.2, e6.1, e6.2, e7, e8, c11] <;> (repeat' apply And.intro) <;> first | rfl | exact ⟨_, rfl⟩ | simp [lst, cat2_nil]

noncomputable def i_holds_l0_S (p_Labels : Int) (p_Degree : Int) (p_Nodes : List (List Int)) (p_Edges : List (List Int)) (n_Ends : List (List (Int × Int))) (n_Ids : List Int) (n_Inputs : List Int) (l : List (List Int)) (t11_ : Int) (t24_ : Int) : Option ((Int) ⊕ (Unit ⊕ Unit)) :=
  if t24_ < ((l.getD t11_.toNat default).length : Int) then
    (i_edgeHolds p_Labels p_Degree p_Nodes p_Edges n_Ends n_Ids n_Inputs l t11_ t24_).bind fun r6_ =>
    if r6_ = true then
      some (Sum.inl (IntKind.i64.wrap (t24_ + 1)))
    else
      some (Sum.inr (Sum.inl ()))
  else
    some (Sum.inr (Sum.inr ()))
noncomputable def i_holds_l0 (p_Labels : Int) (p_Degree : Int) (p_Nodes : List (List Int)) (p_Edges : List (List Int)) (n_Ends : List (List (Int × Int))) (n_Ids : List Int) (n_Inputs : List Int) (l : List (List Int)) (t11_ : Int) (v : Int) : Option (Unit ⊕ Unit) := itO (fun v => i_holds_l0_S p_Labels p_Degree p_Nodes p_Edges n_Ends n_Ids n_Inputs l t11_ v) v
noncomputable def i_holds_l1_S (p_Labels : Int) (p_Degree : Int) (p_Nodes : List (List Int)) (p_Edges : List (List Int)) (n_Ends : List (List (Int × Int))) (n_Ids : List Int) (n_Inputs : List Int) (l : List (List Int)) (t11_ : Int) : Option ((Int) ⊕ (Unit ⊕ Unit)) :=
  if t11_ < (l.length : Int) then
    (i_nodeHolds p_Labels p_Degree p_Nodes p_Edges l t11_).bind fun r2_ =>
    if r2_ = true then
      ck (0 ≤ t11_ ∧ t11_.toNat < l.length) <|
      (i_holds_l0 p_Labels p_Degree p_Nodes p_Edges n_Ends n_Ids n_Inputs l t11_ 0).bind fun r6_ =>
      match r6_ with
      | .inl q6_ =>
        some (Sum.inr (Sum.inl ()))
      | .inr q6_ =>
        some (Sum.inl (IntKind.i64.wrap (t11_ + 1)))
    else
      some (Sum.inr (Sum.inl ()))
  else
    some (Sum.inr (Sum.inr ()))
noncomputable def i_holds_l1 (p_Labels : Int) (p_Degree : Int) (p_Nodes : List (List Int)) (p_Edges : List (List Int)) (n_Ends : List (List (Int × Int))) (n_Ids : List Int) (n_Inputs : List Int) (l : List (List Int)) (v : Int) : Option (Unit ⊕ Unit) := itO (fun v => i_holds_l1_S p_Labels p_Degree p_Nodes p_Edges n_Ends n_Ids n_Inputs l v) v
noncomputable def i_holds (p_Labels : Int) (p_Degree : Int) (p_Nodes : List (List Int)) (p_Edges : List (List Int)) (n_Ends : List (List (Int × Int))) (n_Ids : List Int) (n_Inputs : List Int) (l : List (List Int)) : Option (Bool) :=
  (i_holds_l1 p_Labels p_Degree p_Nodes p_Edges n_Ends n_Ids n_Inputs l 0).bind fun r2_ =>
  match r2_ with
  | .inl q2_ =>
    some false
  | .inr q2_ =>
    some true
/-- impl.holds -/
def k54_l0b : SC :=
 .seq
 (.ops [
 ⟨(some 25), (.binOp .lss 3 (.tmp 24) (.tmp 23) 3), 0, none⟩])
 (.seq
 (.cond (.tmp 25)
 .skip
 (.exit 2))
 (.seq
 (.block 3
 (.seq
 (.ops [
 ⟨(some 26), (.move (.tmp 24)), 3, none⟩,
 ⟨(some 8), (.assign (.tmp 26)), 3, none⟩])
 (.seq
 (.ops [
 ⟨(some 27), (.load 43 (.tmp 3)), 43, none⟩,
 ⟨(some 28), (.load 29 (.tmp 4)), 29, none⟩,
 ⟨(some 29), (.move (.tmp 2)), 36, none⟩,
 ⟨(some 30), (.move (.tmp 7)), 3, none⟩,
 ⟨(some 31), (.move (.tmp 8)), 3, none⟩,
 ⟨(some 32), (.call ⟨(.value (.func 97)), #[(.tmp 27), (.tmp 28), (.tmp 29), (.tmp 30), (.tmp 31)], #[43, 29, 36, 3, 3]⟩), 4, none⟩,
 ⟨(some 33), (.unOp .not 4 (.tmp 32)), 4, none⟩])
 (.cond (.tmp 33)
 (.seq
 (.ops [
 ⟨(some 6), (.assign (.const (.bool false))), 4, none⟩])
 .ret)
 .skip))))
 (.ops [
 ⟨(some 34), (.binOp .add 3 (.tmp 24) (.const (.int .i64 1)) 3), 3, none⟩,
 ⟨(some 24), (.move (.tmp 34)), 3, none⟩])))
def k54_l0 : SC := .loop k54_l0b
def k54_l1b : SC :=
 .seq
 (.ops [
 ⟨(some 12), (.binOp .lss 3 (.tmp 11) (.tmp 10) 3), 0, none⟩])
 (.seq
 (.cond (.tmp 12)
 .skip
 (.exit 0))
 (.seq
 (.block 1
 (.seq
 (.ops [
 ⟨(some 13), (.move (.tmp 11)), 3, none⟩,
 ⟨(some 7), (.assign (.tmp 13)), 3, none⟩])
 (.seq
 (.seq
 (.ops [
 ⟨(some 14), (.load 43 (.tmp 3)), 43, none⟩,
 ⟨(some 15), (.move (.tmp 2)), 36, none⟩,
 ⟨(some 16), (.move (.tmp 7)), 3, none⟩,
 ⟨(some 17), (.call ⟨(.value (.func 96)), #[(.tmp 14), (.tmp 15), (.tmp 16)], #[43, 36, 3]⟩), 4, none⟩,
 ⟨(some 18), (.unOp .not 4 (.tmp 17)), 4, none⟩])
 (.cond (.tmp 18)
 (.seq
 (.ops [
 ⟨(some 6), (.assign (.const (.bool false))), 4, none⟩])
 .ret)
 .skip))
 (.seq
 (.ops [
 ⟨(some 19), (.move (.tmp 2)), 36, none⟩,
 ⟨(some 20), (.move (.tmp 7)), 3, none⟩,
 ⟨(some 21), (.indexAddr 36 (.tmp 19) (.tmp 20)), 0, none⟩,
 ⟨(some 22), (.load 23 (.tmp 21)), 23, none⟩,
 ⟨(some 23), (.call ⟨(.builtin .len), #[(.tmp 22)], #[23]⟩), 3, none⟩,
 ⟨(some 24), (.move (.const (.int .i64 0))), 3, none⟩])
 (.block 2
 k54_l0)))))
 (.ops [
 ⟨(some 35), (.binOp .add 3 (.tmp 11) (.const (.int .i64 1)) 3), 3, none⟩,
 ⟨(some 11), (.move (.tmp 35)), 3, none⟩])))
def k54_l1 : SC := .loop k54_l1b
def k54 : SC :=
 .seq
 (.ops [
 ⟨(some 3), (.box 43 (.tmp 0)), 0, none⟩,
 ⟨(some 4), (.box 29 (.tmp 1)), 0, none⟩,
 ⟨(some 6), (.assign (.const (.bool false))), 4, none⟩])
 (.seq
 (.seq
 (.ops [
 ⟨(some 9), (.move (.tmp 2)), 36, none⟩,
 ⟨(some 10), (.call ⟨(.builtin .len), #[(.tmp 9)], #[36]⟩), 3, none⟩,
 ⟨(some 11), (.move (.const (.int .i64 0))), 3, none⟩])
 (.block 0
 k54_l1))
 (.seq
 (.ops [
 ⟨(some 6), (.assign (.const (.bool true))), 4, none⟩])
 .ret))
theorem slim54 : Try.f54.body.map (slim lends) = some k54 := by kernel_rfl
theorem ok54 : fnOk Try.f54 3 = true := by kernel_rfl
theorem c54 {a l : List D} {r : D × List D} (h : wpD Y.env k54 (fin tys l.length [ResultVar.tmp 6] r) (entry a l)) (ha : a.length = 3) : Y.call 54 a l = some r :=
  call_slim (Y := Y) rfl Try.func54 (ha ▸ ok54) slim54 h
def i_holds_l0_M (p_Labels : Int) (p_Degree : Int) (p_Nodes : List (List Int)) (p_Edges : List (List Int)) (n_Ends : List (List (Int × Int))) (n_Ids : List Int) (n_Inputs : List Int) (l : List (List Int)) (t11_ : Int) (t24_ : Int) (s : St) : Prop := s.v 2 = D.sl 23 (lst (fun x => D.sl 3 (lst (D.int .i64) x)) l) ∧ s.v 3 = D.box [D.int .i64 p_Labels, D.int .i64 p_Degree, D.sl 23 (lst (fun x => D.sl 3 (lst (D.int .i64) x)) p_Nodes), D.sl 23 (lst (fun x => D.sl 3 (lst (D.int .i64) x)) p_Edges)] ∧ s.v 4 = D.box [D.sl 93 (lst (fun x => D.sl 95 (cat2 .i64 .i64 x)) n_Ends), D.sl 3 (lst (D.int .i64) n_Ids), D.sl 3 (lst (D.int .i64) n_Inputs)] ∧ s.v 7 = D.int .i64 t11_ ∧ s.v 10 = D.int .i64 (l.length : Int) ∧ s.v 11 = D.int .i64 t11_ ∧ s.v 23 = D.int .i64 ((l.getD t11_.toNat default).length : Int) ∧ s.v 24 = D.int .i64 t24_
def i_holds_l0_X (p_Labels : Int) (p_Degree : Int) (p_Nodes : List (List Int)) (p_Edges : List (List Int)) (n_Ends : List (List (Int × Int))) (n_Ids : List Int) (n_Inputs : List Int) (l : List (List Int)) (t11_ : Int) (r : Unit ⊕ Unit) (ex : Ex) (s : St) : Prop := match r with
  | .inl q => ex = .ret ∧ s.v 6 = D.bool false
  | .inr q => ex = .exit 2 ∧ s.v 2 = D.sl 23 (lst (fun x => D.sl 3 (lst (D.int .i64) x)) l) ∧ s.v 3 = D.box [D.int .i64 p_Labels, D.int .i64 p_Degree, D.sl 23 (lst (fun x => D.sl 3 (lst (D.int .i64) x)) p_Nodes), D.sl 23 (lst (fun x => D.sl 3 (lst (D.int .i64) x)) p_Edges)] ∧ s.v 4 = D.box [D.sl 93 (lst (fun x => D.sl 95 (cat2 .i64 .i64 x)) n_Ends), D.sl 3 (lst (D.int .i64) n_Ids), D.sl 3 (lst (D.int .i64) n_Inputs)] ∧ s.v 10 = D.int .i64 (l.length : Int) ∧ s.v 11 = D.int .i64 t11_
theorem i_holds_l0_wp (p_Labels : Int) (p_Degree : Int) (p_Nodes : List (List Int)) (p_Edges : List (List Int)) (n_Ends : List (List (Int × Int))) (n_Ids : List Int) (n_Inputs : List Int) (l : List (List Int)) (t11_ : Int) {v : Int} {s : St} {r : Unit ⊕ Unit} (h : i_holds_l0 p_Labels p_Degree p_Nodes p_Edges n_Ends n_Ids n_Inputs l t11_ v = some r) (hM : i_holds_l0_M p_Labels p_Degree p_Nodes p_Edges n_Ends n_Ids n_Inputs l t11_ v s) : wpD Y.env k54_l0 (i_holds_l0_X p_Labels p_Degree p_Nodes p_Edges n_Ends n_Ids n_Inputs l t11_ r) s := by
  unfold i_holds_l0 at h
  refine wd_itO (c := k54_l0b) (fun v => i_holds_l0_S p_Labels p_Degree p_Nodes p_Edges n_Ends n_Ids n_Inputs l t11_ v) (fun v s => i_holds_l0_M p_Labels p_Degree p_Nodes p_Edges n_Ends n_Ids n_Inputs l t11_ v s) (i_holds_l0_X p_Labels p_Degree p_Nodes p_Edges n_Ends n_Ids n_Inputs l t11_) ?_ h hM
  clear h hM s v r
  intro t24_ s o hM h
  unfold i_holds_l0_S at h
  unfold i_holds_l0_M at hM
  obtain ⟨m0, m1, m2, m3, m4, m5, m6, m7⟩ := hM
  unfold k54_l0b
  by_cases e5 : t24_ < ((l.getD t11_.toNat default).length : Int)
  · rw [if_pos e5] at h
    obtain ⟨r6_, hl6, h⟩ := bindS h
    try dsimp only at h
    have c6 := i_edgeHolds_call p_Labels p_Degree p_Nodes p_Edges n_Ends n_Ids n_Inputs l t11_ t24_ hl6
    by_cases e7 : r6_ = true
    · rw [if_pos e7] at h
      obtain rfl := Option.some.inj h
      simp (maxDischargeDepth := 9) only [↓xpre, xpost, xcore, yset, ↓reduceIte, Nat.reduceEqDiff, Nat.reduceAdd, m0, m1, m2, m3, m4, m5, m6, m7, e5, c6, e7, i_holds_l0_M, sxN] <;> (repeat' apply And.intro) <;> first | rfl | exact ⟨_, rfl⟩ | simp [lst, cat2_nil]
    · rw [if_neg e7] at h
      have e7f : r6_ = false := Bool.eq_false_iff.mpr e7
      obtain rfl := Option.some.inj h
      simp (maxDischargeDepth := 9) only [↓xpre, xpost, xcore, yset, ↓reduceIte, Nat.reduceEqDiff, Nat.reduceAdd, m0, m1, m2, m3, m6, m7, e5, c6, e7f, i_holds_l0_M, i_holds_l0_X, sxR] <;> (repeat' apply And.intro) <;> first | rfl | exact ⟨_, rfl⟩ | simp [lst, cat2_nil]
  · rw [if_neg e5] at h
    obtain rfl := Option.some.inj h
    simp (maxDischargeDepth := 9) only [↓xpre, xpost, yset, ↓reduceIte, Nat.reduceEqDiff, m0, m1, m2, m4, m5, m6, m7, e5, i_holds_l0_M, i_holds_l0_X, sxE] <;> (repeat' apply And.intro) <;> first | rfl | exact ⟨_, rfl⟩ | simp [lst, cat2_nil]
def i_holds_l1_M (p_Labels : Int) (p_Degree : Int) (p_Nodes : List (List Int)) (p_Edges : List (List Int)) (n_Ends : List (List (Int × Int))) (n_Ids : List Int) (n_Inputs : List Int) (l : List (List Int)) (t11_ : Int) (s : St) : Prop := s.v 2 = D.sl 23 (lst (fun x => D.sl 3 (lst (D.int .i64) x)) l) ∧ s.v 3 = D.box [D.int .i64 p_Labels, D.int .i64 p_Degree, D.sl 23 (lst (fun x => D.sl 3 (lst (D.int .i64) x)) p_Nodes), D.sl 23 (lst (fun x => D.sl 3 (lst (D.int .i64) x)) p_Edges)] ∧ s.v 4 = D.box [D.sl 93 (lst (fun x => D.sl 95 (cat2 .i64 .i64 x)) n_Ends), D.sl 3 (lst (D.int .i64) n_Ids), D.sl 3 (lst (D.int .i64) n_Inputs)] ∧ s.v 10 = D.int .i64 (l.length : Int) ∧ s.v 11 = D.int .i64 t11_
def i_holds_l1_X (p_Labels : Int) (p_Degree : Int) (p_Nodes : List (List Int)) (p_Edges : List (List Int)) (n_Ends : List (List (Int × Int))) (n_Ids : List Int) (n_Inputs : List Int) (l : List (List Int)) (r : Unit ⊕ Unit) (ex : Ex) (s : St) : Prop := match r with
  | .inl q => ex = .ret ∧ s.v 6 = D.bool false
  | .inr q => ex = .exit 0
theorem i_holds_l1_wp (p_Labels : Int) (p_Degree : Int) (p_Nodes : List (List Int)) (p_Edges : List (List Int)) (n_Ends : List (List (Int × Int))) (n_Ids : List Int) (n_Inputs : List Int) (l : List (List Int)) {v : Int} {s : St} {r : Unit ⊕ Unit} (h : i_holds_l1 p_Labels p_Degree p_Nodes p_Edges n_Ends n_Ids n_Inputs l v = some r) (hM : i_holds_l1_M p_Labels p_Degree p_Nodes p_Edges n_Ends n_Ids n_Inputs l v s) : wpD Y.env k54_l1 (i_holds_l1_X p_Labels p_Degree p_Nodes p_Edges n_Ends n_Ids n_Inputs l r) s := by
  unfold i_holds_l1 at h
  refine wd_itO (c := k54_l1b) (fun v => i_holds_l1_S p_Labels p_Degree p_Nodes p_Edges n_Ends n_Ids n_Inputs l v) (fun v s => i_holds_l1_M p_Labels p_Degree p_Nodes p_Edges n_Ends n_Ids n_Inputs l v s) (i_holds_l1_X p_Labels p_Degree p_Nodes p_Edges n_Ends n_Ids n_Inputs l) ?_ h hM
  clear h hM s v r
  intro t11_ s o hM h
  unfold i_holds_l1_S at h
  unfold i_holds_l1_M at hM
  obtain ⟨m0, m1, m2, m3, m4⟩ := hM
  unfold k54_l1b
  by_cases e1 : t11_ < (l.length : Int)
  · rw [if_pos e1] at h
    obtain ⟨r2_, hl2, h⟩ := bindS h
    try dsimp only at h
    have c2 := i_nodeHolds_call p_Labels p_Degree p_Nodes p_Edges l t11_ hl2
    by_cases e3 : r2_ = true
    · rw [if_pos e3] at h
      obtain ⟨e4, h⟩ := ckS h
      obtain ⟨r6_, hl6, h⟩ := bindS h
      try dsimp only at h
      simp (maxDischargeDepth := 9) only [↓xpre, xpost, xlst, xcore, yset, ↓reduceIte, Nat.reduceEqDiff, Nat.reduceAdd, m0, m1, m3, m4, e1, c2, e3, e4.1, e4.2]
      refine wd_mono (i_holds_l0_wp p_Labels p_Degree p_Nodes p_Edges n_Ends n_Ids n_Inputs l t11_ hl6 ?_) ?_
      · simp (maxDischargeDepth := 9) only [xpost, ↓reduceIte, Nat.reduceEqDiff, m0, m1, m2, m3, m4, i_holds_l0_M] <;> (repeat' apply And.intro) <;> first | rfl | exact ⟨_, rfl⟩ | simp [lst, cat2_nil]
      · intro ex6 s6 hX6
        rcases r6_ with q6_ | q6_
        · unfold i_holds_l0_X at hX6
          dsimp only at hX6 h
          obtain ⟨rfl, n6_0⟩ := hX6
          obtain rfl := Option.some.inj h
          simp (maxDischargeDepth := 9) only [↓xpre, xpost, n6_0, i_holds_l1_M, i_holds_l1_X, sxR] <;> (repeat' apply And.intro) <;> first | rfl | exact ⟨_, rfl⟩ | simp [lst, cat2_nil]
        · unfold i_holds_l0_X at hX6
          dsimp only at hX6 h
          obtain ⟨rfl, n6_0, n6_1, n6_2, n6_3, n6_4⟩ := hX6
          obtain rfl := Option.some.inj h
          simp (maxDischargeDepth := 9) only [↓xpre, xpost, yset, ↓reduceIte, Nat.reduceEqDiff, n6_0, n6_1, n6_2, n6_3, n6_4, i_holds_l1_M, sxN] <;> (repeat' apply And.intro) <;> first | rfl | exact ⟨_, rfl⟩ | simp [lst, cat2_nil]
    · rw [if_neg e3] at h
      have e3f : r2_ = false := Bool.eq_false_iff.mpr e3
      obtain rfl := Option.some.inj h
      simp (maxDischargeDepth := 9) only [↓xpre, xpost, xcore, yset, ↓reduceIte, Nat.reduceEqDiff, Nat.reduceAdd, m0, m1, m3, m4, e1, c2, e3f, i_holds_l1_M, i_holds_l1_X, sxR] <;> (repeat' apply And.intro) <;> first | rfl | exact ⟨_, rfl⟩ | simp [lst, cat2_nil]
  · rw [if_neg e1] at h
    obtain rfl := Option.some.inj h
    simp (maxDischargeDepth := 9) only [↓xpre, xpost, yset, ↓reduceIte, m3, m4, e1, i_holds_l1_M, i_holds_l1_X, sxE] <;> (repeat' apply And.intro) <;> first | rfl | exact ⟨_, rfl⟩ | simp [lst, cat2_nil]
theorem i_holds_call (p_Labels : Int) (p_Degree : Int) (p_Nodes : List (List Int)) (p_Edges : List (List Int)) (n_Ends : List (List (Int × Int))) (n_Ids : List Int) (n_Inputs : List Int) (l : List (List Int)) {r : Bool} (h : i_holds p_Labels p_Degree p_Nodes p_Edges n_Ends n_Ids n_Inputs l = some r) : Y.call 54 [D.agg [D.int .i64 p_Labels, D.int .i64 p_Degree, D.sl 23 (lst (fun x => D.sl 3 (lst (D.int .i64) x)) p_Nodes), D.sl 23 (lst (fun x => D.sl 3 (lst (D.int .i64) x)) p_Edges)], D.agg [D.sl 93 (lst (fun x => D.sl 95 (cat2 .i64 .i64 x)) n_Ends), D.sl 3 (lst (D.int .i64) n_Ids), D.sl 3 (lst (D.int .i64) n_Inputs)], D.sl 23 (lst (fun x => D.sl 3 (lst (D.int .i64) x)) l)] [] = some (D.bool r, []) := by
  refine c54 ?_ rfl
  unfold k54
  unfold i_holds at h
  obtain ⟨r2_, hl2, h⟩ := bindS h
  try dsimp only at h
  simp (maxDischargeDepth := 9) only [↓xpre, xpost, xlst, xcore, yset, ↓reduceIte, Nat.reduceEqDiff, Nat.reduceLT]
  refine wd_mono (i_holds_l1_wp p_Labels p_Degree p_Nodes p_Edges n_Ends n_Ids n_Inputs l hl2 ?_) ?_
  · simp (maxDischargeDepth := 9) only [xpost, xcore, ↓reduceIte, Nat.reduceEqDiff, Nat.reduceLT, i_holds_l1_M] <;> (repeat' apply And.intro) <;> first | rfl | exact ⟨_, rfl⟩ | simp [lst, cat2_nil]
  · intro ex2 s2 hX2
    rcases r2_ with q2_ | q2_
    · unfold i_holds_l1_X at hX2
      dsimp only at hX2 h
      obtain ⟨rfl, n2_0⟩ := hX2
      obtain rfl := Option.some.inj h
      simp (maxDischargeDepth := 9) only [↓xpre, xpost, xcore, ↓reduceIte, n2_0] <;> (repeat' apply And.intro) <;> first | rfl | exact ⟨_, rfl⟩ | simp [lst, cat2_nil]
    · unfold i_holds_l1_X at hX2
      dsimp only at hX2 h
      obtain rfl := hX2
      obtain rfl := Option.some.inj h
      simp (maxDischargeDepth := 9) only [↓xpre, xpost, xcore, yset, ↓reduceIte] <;> (repeat' apply And.intro) <;> first | rfl | exact ⟨_, rfl⟩ | simp [lst, cat2_nil]

noncomputable def i_IsPartial (p_Labels : Int) (p_Degree : Int) (p_Nodes : List (List Int)) (p_Edges : List (List Int)) (n_Ends : List (List (Int × Int))) (n_Ids : List Int) (n_Inputs : List Int) (l : List (List Int)) : Option (Bool × Bool) :=
  ck (Short p_Nodes) <|
  ck (Short p_Edges) <|
  if (isProb p_Labels p_Degree p_Nodes p_Edges) = true then
    ck (ShortE n_Ends) <|
    ck (n_Ids.length < 1099511627776) <|
    ck (n_Inputs.length < 1099511627776) <|
    if (isNet n_Ends n_Ids n_Inputs) = true then
      (i_isPartialShape p_Labels p_Degree p_Nodes p_Edges n_Ends n_Ids n_Inputs l).bind fun r10_ =>
      if r10_ = true then
        (i_holds p_Labels p_Degree p_Nodes p_Edges n_Ends n_Ids n_Inputs l).bind fun r12_ =>
        some (r12_, true)
      else
        some (false, false)
    else
      some (false, false)
  else
    some (false, false)
/-- impl.IsPartial -/
def k20 : SC :=
 .seq
 (.ops [
 ⟨(some 3), (.box 43 (.tmp 0)), 0, none⟩,
 ⟨(some 4), (.box 29 (.tmp 1)), 0, none⟩,
 ⟨(some 6), (.assign (.const (.bool false))), 4, none⟩,
 ⟨(some 7), (.assign (.const (.bool false))), 4, none⟩])
 (.seq
 (.seq
 (.ops [
 ⟨(some 8), (.load 43 (.tmp 3)), 43, none⟩,
 ⟨(some 9), (.call ⟨(.value (.func 52)), #[(.tmp 8)], #[43]⟩), 4, none⟩,
 ⟨(some 10), (.unOp .not 4 (.tmp 9)), 4, none⟩,
 ⟨(some 11), (.move (.tmp 10)), 4, none⟩,
 ⟨(some 12), (.load 29 (.tmp 4)), 29, (some (some 11, false))⟩,
 ⟨(some 13), (.call ⟨(.value (.func 42)), #[(.tmp 12)], #[29]⟩), 4, (some (some 11, false))⟩,
 ⟨(some 14), (.unOp .not 4 (.tmp 13)), 4, (some (some 11, false))⟩,
 ⟨(some 15), (.pick (.tmp 11) (.const (.bool true)) (.tmp 14)), 4, none⟩,
 ⟨(some 16), (.move (.tmp 15)), 4, none⟩,
 ⟨(some 17), (.load 43 (.tmp 3)), 43, (some (some 16, false))⟩,
 ⟨(some 18), (.load 29 (.tmp 4)), 29, (some (some 16, false))⟩,
 ⟨(some 19), (.move (.tmp 2)), 36, (some (some 16, false))⟩,
 ⟨(some 20), (.call ⟨(.value (.func 53)), #[(.tmp 17), (.tmp 18), (.tmp 19)], #[43, 29, 36]⟩), 4, (some (some 16, false))⟩,
 ⟨(some 21), (.unOp .not 4 (.tmp 20)), 4, (some (some 16, false))⟩,
 ⟨(some 22), (.pick (.tmp 16) (.const (.bool true)) (.tmp 21)), 4, none⟩])
 (.cond (.tmp 22)
 (.seq
 (.ops [
 ⟨(some 6), (.assign (.const (.bool false))), 4, none⟩,
 ⟨(some 7), (.assign (.const (.bool false))), 4, none⟩])
 .ret)
 .skip))
 (.seq
 (.ops [
 ⟨(some 23), (.load 43 (.tmp 3)), 43, none⟩,
 ⟨(some 24), (.load 29 (.tmp 4)), 29, none⟩,
 ⟨(some 25), (.move (.tmp 2)), 36, none⟩,
 ⟨(some 26), (.call ⟨(.value (.func 54)), #[(.tmp 23), (.tmp 24), (.tmp 25)], #[43, 29, 36]⟩), 4, none⟩,
 ⟨(some 6), (.assign (.tmp 26)), 4, none⟩,
 ⟨(some 7), (.assign (.const (.bool true))), 4, none⟩])
 .ret))
theorem slim20 : Try.f20.body.map (slim lends) = some k20 := by kernel_rfl
theorem ok20 : fnOk Try.f20 3 = true := by kernel_rfl
theorem c20 {a l : List D} {r : D × List D} (h : wpD Y.env k20 (fin tys l.length [ResultVar.tmp 6, ResultVar.tmp 7] r) (entry a l)) (ha : a.length = 3) : Y.call 20 a l = some r :=
  call_slim (Y := Y) rfl Try.func20 (ha ▸ ok20) slim20 h
theorem i_IsPartial_call (p_Labels : Int) (p_Degree : Int) (p_Nodes : List (List Int)) (p_Edges : List (List Int)) (n_Ends : List (List (Int × Int))) (n_Ids : List Int) (n_Inputs : List Int) (l : List (List Int)) {r : Bool × Bool} (h : i_IsPartial p_Labels p_Degree p_Nodes p_Edges n_Ends n_Ids n_Inputs l = some r) : Y.call 20 [D.agg [D.int .i64 p_Labels, D.int .i64 p_Degree, D.sl 23 (lst (fun x => D.sl 3 (lst (D.int .i64) x)) p_Nodes), D.sl 23 (lst (fun x => D.sl 3 (lst (D.int .i64) x)) p_Edges)], D.agg [D.sl 93 (lst (fun x => D.sl 95 (cat2 .i64 .i64 x)) n_Ends), D.sl 3 (lst (D.int .i64) n_Ids), D.sl 3 (lst (D.int .i64) n_Inputs)], D.sl 23 (lst (fun x => D.sl 3 (lst (D.int .i64) x)) l)] [] = some (D.tup [D.bool r.1, D.bool r.2], []) := by
  refine c20 ?_ rfl
  unfold k20
  unfold i_IsPartial at h
  obtain ⟨e1, h⟩ := ckS h
  obtain ⟨e2, h⟩ := ckS h
  have c3 := i_IsProblem_cl p_Labels p_Degree p_Nodes p_Edges e1 e2
  by_cases e4 : (isProb p_Labels p_Degree p_Nodes p_Edges) = true
  · rw [if_pos e4] at h
    obtain ⟨e5, h⟩ := ckS h
    obtain ⟨e6, h⟩ := ckS h
    obtain ⟨e7, h⟩ := ckS h
    have c8 := i_IsNetwork_cl n_Ends n_Ids n_Inputs e5 e6 e7
    by_cases e9 : (isNet n_Ends n_Ids n_Inputs) = true
    · rw [if_pos e9] at h
      obtain ⟨r10_, hl10, h⟩ := bindS h
      try dsimp only at h
      have c10 := i_isPartialShape_call p_Labels p_Degree p_Nodes p_Edges n_Ends n_Ids n_Inputs l hl10
      by_cases e11 : r10_ = true
      · rw [if_pos e11] at h
        obtain ⟨r12_, hl12, h⟩ := bindS h
        try dsimp only at h
        have c12 := i_holds_call p_Labels p_Degree p_Nodes p_Edges n_Ends n_Ids n_Inputs l hl12
        obtain rfl := Option.some.inj h
        simp (maxDischargeDepth := 9) only [↓xpre, xpost, xcore, yset, ↓reduceIte, Nat.reduceEqDiff, Nat.reduceLT, Nat.reduceAdd, c3, e4, c8, e9, c10, e11, c12] <;> (repeat' apply And.intro) <;> first | rfl | exact ⟨_, rfl⟩ | simp [lst, cat2_nil]
      · rw [if_neg e11] at h
        have e11f : r10_ = false := Bool.eq_false_iff.mpr e11
        obtain rfl := Option.some.inj h
        simp (maxDischargeDepth := 9) only [↓xpre, xpost, xcore, yset, ↓reduceIte, Nat.reduceEqDiff, Nat.reduceLT, Nat.reduceAdd, c3, e4, c8, e9, c10, e11f] <;> (repeat' apply And.intro) <;> first | rfl | exact ⟨_, rfl⟩ | simp [lst, cat2_nil]
    · rw [if_neg e9] at h
      have e9f : (isNet n_Ends n_Ids n_Inputs) = false := Bool.eq_false_iff.mpr e9
      obtain rfl := Option.some.inj h
      simp (maxDischargeDepth := 9) only [↓xpre, xpost, xcore, yset, ↓reduceIte, Nat.reduceEqDiff, Nat.reduceLT, Nat.reduceAdd, c3, e4, c8, e9f] <;> (repeat' apply And.intro) <;> first | rfl | exact ⟨_, rfl⟩ | simp [lst, cat2_nil]
  · rw [if_neg e4] at h
    have e4f : (isProb p_Labels p_Degree p_Nodes p_Edges) = false := Bool.eq_false_iff.mpr e4
    obtain rfl := Option.some.inj h
    simp (maxDischargeDepth := 9) only [↓xpre, xpost, xcore, yset, ↓reduceIte, Nat.reduceEqDiff, Nat.reduceLT, Nat.reduceAdd, c3, e4f] <;> (repeat' apply And.intro) <;> first | rfl | exact ⟨_, rfl⟩ | simp [lst, cat2_nil]

noncomputable def s_soPartial_l0_S (p_Labels : Int) (p_Degree : Int) (p_Nodes : List (List Int)) (p_Edges : List (List Int)) (n_Ends : List (List (Int × Int))) (n_Ids : List Int) (n_Inputs : List Int) (l : List (List Int)) (t27_ : Int) : Option ((Int) ⊕ (Unit ⊕ Unit)) :=
  if t27_ < (l.length : Int) then
    ck (0 ≤ t27_ ∧ t27_.toNat < l.length) <|
    ck (0 ≤ t27_ ∧ t27_.toNat < n_Ends.length) <|
    if ((l.getD t27_.toNat default).length : Int) = ((n_Ends.getD t27_.toNat default).length : Int) then
      ck ((l.getD t27_.toNat default).length < 1099511627776) <|
      if (allIn (l.getD t27_.toNat default) (-1 : Int) (IntKind.i64.wrap (p_Labels - 1))) = true then
        some (Sum.inl (IntKind.i64.wrap (t27_ + 1)))
      else
        some (Sum.inr (Sum.inl ()))
    else
      some (Sum.inr (Sum.inl ()))
  else
    some (Sum.inr (Sum.inr ()))
noncomputable def s_soPartial_l0 (p_Labels : Int) (p_Degree : Int) (p_Nodes : List (List Int)) (p_Edges : List (List Int)) (n_Ends : List (List (Int × Int))) (n_Ids : List Int) (n_Inputs : List Int) (l : List (List Int)) (v : Int) : Option (Unit ⊕ Unit) := itO (fun v => s_soPartial_l0_S p_Labels p_Degree p_Nodes p_Edges n_Ends n_Ids n_Inputs l v) v
noncomputable def s_soPartial (p_Labels : Int) (p_Degree : Int) (p_Nodes : List (List Int)) (p_Edges : List (List Int)) (n_Ends : List (List (Int × Int))) (n_Ids : List Int) (n_Inputs : List Int) (l : List (List Int)) : Option (Bool) :=
  ck (Short p_Nodes) <|
  ck (Short p_Edges) <|
  if (isProb p_Labels p_Degree p_Nodes p_Edges) = true then
    ck (ShortE n_Ends) <|
    ck (n_Ids.length < 1099511627776) <|
    ck (n_Inputs.length < 1099511627776) <|
    if (isNet n_Ends n_Ids n_Inputs) = true then
      if (l.length : Int) = (n_Ends.length : Int) then
        (s_soPartial_l0 p_Labels p_Degree p_Nodes p_Edges n_Ends n_Ids n_Inputs l 0).bind fun r12_ =>
        match r12_ with
        | .inl q12_ =>
          some false
        | .inr q12_ =>
          some true
      else
        some false
    else
      some false
  else
    some false
/-- spec.soPartial -/
def k50_l0b : SC :=
 .seq
 (.ops [
 ⟨(some 28), (.binOp .lss 3 (.tmp 27) (.tmp 26) 3), 0, none⟩])
 (.seq
 (.cond (.tmp 28)
 .skip
 (.exit 0))
 (.seq
 (.block 1
 (.seq
 (.ops [
 ⟨(some 29), (.move (.tmp 27)), 3, none⟩,
 ⟨(some 30), (.indexAddr 36 (.tmp 25) (.tmp 27)), 0, none⟩,
 ⟨(some 31), (.load 23 (.tmp 30)), 23, none⟩,
 ⟨(some 7), (.assign (.tmp 29)), 3, none⟩,
 ⟨(some 8), (.assign (.tmp 31)), 23, none⟩])
 (.seq
 (.ops [
 ⟨(some 32), (.move (.tmp 8)), 23, none⟩,
 ⟨(some 33), (.call ⟨(.builtin .len), #[(.tmp 32)], #[23]⟩), 3, none⟩,
 ⟨(some 34), (.fieldAddr 29 (.tmp 4) 0), 0, none⟩,
 ⟨(some 35), (.load 27 (.tmp 34)), 27, none⟩,
 ⟨(some 36), (.move (.tmp 7)), 3, none⟩,
 ⟨(some 37), (.indexAddr 27 (.tmp 35) (.tmp 36)), 0, none⟩,
 ⟨(some 38), (.load 93 (.tmp 37)), 93, none⟩,
 ⟨(some 39), (.call ⟨(.builtin .len), #[(.tmp 38)], #[93]⟩), 3, none⟩,
 ⟨(some 40), (.binOp .neq 3 (.tmp 33) (.tmp 39) 3), 4, none⟩,
 ⟨(some 41), (.move (.tmp 40)), 4, none⟩,
 ⟨(some 42), (.move (.tmp 8)), 23, (some (some 41, false))⟩,
 ⟨(some 43), (.fieldAddr 43 (.tmp 3) 0), 0, (some (some 41, false))⟩,
 ⟨(some 44), (.load 3 (.tmp 43)), 3, (some (some 41, false))⟩,
 ⟨(some 45), (.binOp .sub 3 (.tmp 44) (.const (.int .i64 1)) 3), 3, (some (some 41, false))⟩,
 ⟨(some 46), (.call ⟨(.value (.func 75)), #[(.tmp 42), (.const (.int .i64 (-1))), (.tmp 45)], #[23, 3, 3]⟩), 4, (some (some 41, false))⟩,
 ⟨(some 47), (.unOp .not 4 (.tmp 46)), 4, (some (some 41, false))⟩,
 ⟨(some 48), (.pick (.tmp 41) (.const (.bool true)) (.tmp 47)), 4, none⟩])
 (.cond (.tmp 48)
 (.seq
 (.ops [
 ⟨(some 6), (.assign (.const (.bool false))), 4, none⟩])
 .ret)
 .skip))))
 (.ops [
 ⟨(some 49), (.binOp .add 3 (.tmp 27) (.const (.int .i64 1)) 3), 3, none⟩,
 ⟨(some 27), (.move (.tmp 49)), 3, none⟩])))
def k50_l0 : SC := .loop k50_l0b
def k50 : SC :=
 .seq
 (.ops [
 ⟨(some 3), (.box 43 (.tmp 0)), 0, none⟩,
 ⟨(some 4), (.box 29 (.tmp 1)), 0, none⟩,
 ⟨(some 6), (.assign (.const (.bool false))), 4, none⟩])
 (.seq
 (.seq
 (.ops [
 ⟨(some 9), (.load 43 (.tmp 3)), 43, none⟩,
 ⟨(some 10), (.call ⟨(.value (.func 88)), #[(.tmp 9)], #[43]⟩), 4, none⟩,
 ⟨(some 11), (.unOp .not 4 (.tmp 10)), 4, none⟩,
 ⟨(some 12), (.move (.tmp 11)), 4, none⟩,
 ⟨(some 13), (.load 29 (.tmp 4)), 29, (some (some 12, false))⟩,
 ⟨(some 14), (.call ⟨(.value (.func 39)), #[(.tmp 13)], #[29]⟩), 4, (some (some 12, false))⟩,
 ⟨(some 15), (.unOp .not 4 (.tmp 14)), 4, (some (some 12, false))⟩,
 ⟨(some 16), (.pick (.tmp 12) (.const (.bool true)) (.tmp 15)), 4, none⟩,
 ⟨(some 17), (.move (.tmp 16)), 4, none⟩,
 ⟨(some 18), (.move (.tmp 2)), 36, (some (some 17, false))⟩,
 ⟨(some 19), (.call ⟨(.builtin .len), #[(.tmp 18)], #[36]⟩), 3, (some (some 17, false))⟩,
 ⟨(some 20), (.fieldAddr 29 (.tmp 4) 0), 0, (some (some 17, false))⟩,
 ⟨(some 21), (.load 27 (.tmp 20)), 27, (some (some 17, false))⟩,
 ⟨(some 22), (.call ⟨(.builtin .len), #[(.tmp 21)], #[27]⟩), 3, (some (some 17, false))⟩,
 ⟨(some 23), (.binOp .neq 3 (.tmp 19) (.tmp 22) 3), 4, (some (some 17, false))⟩,
 ⟨(some 24), (.pick (.tmp 17) (.const (.bool true)) (.tmp 23)), 4, none⟩])
 (.cond (.tmp 24)
 (.seq
 (.ops [
 ⟨(some 6), (.assign (.const (.bool false))), 4, none⟩])
 .ret)
 .skip))
 (.seq
 (.seq
 (.ops [
 ⟨(some 25), (.move (.tmp 2)), 36, none⟩,
 ⟨(some 26), (.call ⟨(.builtin .len), #[(.tmp 25)], #[36]⟩), 3, none⟩,
 ⟨(some 27), (.move (.const (.int .i64 0))), 3, none⟩])
 (.block 0
 k50_l0))
 (.seq
 (.ops [
 ⟨(some 6), (.assign (.const (.bool true))), 4, none⟩])
 .ret)))
theorem slim50 : Try.f50.body.map (slim lends) = some k50 := by kernel_rfl
theorem ok50 : fnOk Try.f50 3 = true := by kernel_rfl
theorem c50 {a l : List D} {r : D × List D} (h : wpD Y.env k50 (fin tys l.length [ResultVar.tmp 6] r) (entry a l)) (ha : a.length = 3) : Y.call 50 a l = some r :=
  call_slim (Y := Y) rfl Try.func50 (ha ▸ ok50) slim50 h
def s_soPartial_l0_M (p_Labels : Int) (p_Degree : Int) (p_Nodes : List (List Int)) (p_Edges : List (List Int)) (n_Ends : List (List (Int × Int))) (n_Ids : List Int) (n_Inputs : List Int) (l : List (List Int)) (t27_ : Int) (s : St) : Prop := s.v 3 = D.box [D.int .i64 p_Labels, D.int .i64 p_Degree, D.sl 23 (lst (fun x => D.sl 3 (lst (D.int .i64) x)) p_Nodes), D.sl 23 (lst (fun x => D.sl 3 (lst (D.int .i64) x)) p_Edges)] ∧ s.v 4 = D.box [D.sl 93 (lst (fun x => D.sl 95 (cat2 .i64 .i64 x)) n_Ends), D.sl 3 (lst (D.int .i64) n_Ids), D.sl 3 (lst (D.int .i64) n_Inputs)] ∧ s.v 25 = D.sl 23 (lst (fun x => D.sl 3 (lst (D.int .i64) x)) l) ∧ s.v 26 = D.int .i64 (l.length : Int) ∧ s.v 27 = D.int .i64 t27_
def s_soPartial_l0_X (p_Labels : Int) (p_Degree : Int) (p_Nodes : List (List Int)) (p_Edges : List (List Int)) (n_Ends : List (List (Int × Int))) (n_Ids : List Int) (n_Inputs : List Int) (l : List (List Int)) (r : Unit ⊕ Unit) (ex : Ex) (s : St) : Prop := match r with
  | .inl q => ex = .ret ∧ s.v 6 = D.bool false
  | .inr q => ex = .exit 0
theorem s_soPartial_l0_wp (p_Labels : Int) (p_Degree : Int) (p_Nodes : List (List Int)) (p_Edges : List (List Int)) (n_Ends : List (List (Int × Int))) (n_Ids : List Int) (n_Inputs : List Int) (l : List (List Int)) {v : Int} {s : St} {r : Unit ⊕ Unit} (h : s_soPartial_l0 p_Labels p_Degree p_Nodes p_Edges n_Ends n_Ids n_Inputs l v = some r) (hM : s_soPartial_l0_M p_Labels p_Degree p_Nodes p_Edges n_Ends n_Ids n_Inputs l v s) : wpD Y.env k50_l0 (s_soPartial_l0_X p_Labels p_Degree p_Nodes p_Edges n_Ends n_Ids n_Inputs l r) s := by
  unfold s_soPartial_l0 at h
  refine wd_itO (c := k50_l0b) (fun v => s_soPartial_l0_S p_Labels p_Degree p_Nodes p_Edges n_Ends n_Ids n_Inputs l v) (fun v s => s_soPartial_l0_M p_Labels p_Degree p_Nodes p_Edges n_Ends n_Ids n_Inputs l v s) (s_soPartial_l0_X p_Labels p_Degree p_Nodes p_Edges n_Ends n_Ids n_Inputs l) ?_ h hM
  clear h hM s v r
  intro t27_ s o hM h
  unfold s_soPartial_l0_S at h
  unfold s_soPartial_l0_M at hM
  obtain ⟨m0, m1, m2, m3, m4⟩ := hM
  unfold k50_l0b
  by_cases e11 : t27_ < (l.length : Int)
  · rw [if_pos e11] at h
    obtain ⟨e12, h⟩ := ckS h
    obtain ⟨e13, h⟩ := ckS h
    by_cases e14 : ((l.getD t27_.toNat default).length : Int) = ((n_Ends.getD t27_.toNat default).length : Int)
    · rw [if_pos e14] at h
      obtain ⟨e15, h⟩ := ckS h
      have c16 := s_l1All_cl (l.getD t27_.toNat default) (-1 : Int) (IntKind.i64.wrap (p_Labels - 1)) e15
      by_cases e17 : (allIn (l.getD t27_.toNat default) (-1 : Int) (IntKind.i64.wrap (p_Labels - 1))) = true
      · rw [if_pos e17] at h
        obtain rfl := Option.some.inj h
        simp (maxDischargeDepth := 9) only [↓xpre, xpost, xlst, xc2, xcore, yset, ↓reduceIte, Nat.reduceEqDiff, Nat.reduceLT, Nat.reduceAdd, Int.reduceNeg, m0, m1, m2, m3, m4, e11, e12.1, e12.2, e13.2, decide_eq_true e14, c16, e17, s_soPartial_l0_M, sxN] <;> (repeat' apply And.intro) <;> first | rfl | exact ⟨_, rfl⟩ | simp [lst, cat2_nil]
      · rw [if_neg e17] at h
        have e17f : (allIn (l.getD t27_.toNat default) (-1 : Int) (IntKind.i64.wrap (p_Labels - 1))) = false := Bool.eq_false_iff.mpr e17
        obtain rfl := Option.some.inj h
        simp (maxDischargeDepth := 9) only [↓xpre, xpost, xlst, xc2, xcore, yset, ↓reduceIte, Nat.reduceEqDiff, Nat.reduceLT, Nat.reduceAdd, Int.reduceNeg, m0, m1, m2, m3, m4, e11, e12.1, e12.2, e13.2, decide_eq_true e14, c16, e17f, s_soPartial_l0_M, s_soPartial_l0_X, sxR] <;> (repeat' apply And.intro) <;> first | rfl | exact ⟨_, rfl⟩ | simp [lst, cat2_nil]
    · rw [if_neg e14] at h
      obtain rfl := Option.some.inj h
      simp (maxDischargeDepth := 9) only [↓xpre, xpost, xlst, xc2, xcore, yset, ↓reduceIte, Nat.reduceEqDiff, Nat.reduceLT, Int.reduceNeg, m1, m2, m3, m4, e11, e12.1, e12.2, e13.2, e14, s_soPartial_l0_M, s_soPartial_l0_X, sxR] <;> (repeat' apply And.intro) <;> first | rfl | exact ⟨_, rfl⟩ | simp [lst, cat2_nil]
  · rw [if_neg e11] at h
    obtain rfl := Option.some.inj h
    simp (maxDischargeDepth := 9) only [↓xpre, xpost, yset, ↓reduceIte, Int.reduceNeg, m3, m4, e11, s_soPartial_l0_M, s_soPartial_l0_X, sxE] <;> (repeat' apply And.intro) <;> first | rfl | exact ⟨_, rfl⟩ | simp [lst, cat2_nil]
theorem s_soPartial_call (p_Labels : Int) (p_Degree : Int) (p_Nodes : List (List Int)) (p_Edges : List (List Int)) (n_Ends : List (List (Int × Int))) (n_Ids : List Int) (n_Inputs : List Int) (l : List (List Int)) {r : Bool} (h : s_soPartial p_Labels p_Degree p_Nodes p_Edges n_Ends n_Ids n_Inputs l = some r) : Y.call 50 [D.agg [D.int .i64 p_Labels, D.int .i64 p_Degree, D.sl 23 (lst (fun x => D.sl 3 (lst (D.int .i64) x)) p_Nodes), D.sl 23 (lst (fun x => D.sl 3 (lst (D.int .i64) x)) p_Edges)], D.agg [D.sl 93 (lst (fun x => D.sl 95 (cat2 .i64 .i64 x)) n_Ends), D.sl 3 (lst (D.int .i64) n_Ids), D.sl 3 (lst (D.int .i64) n_Inputs)], D.sl 23 (lst (fun x => D.sl 3 (lst (D.int .i64) x)) l)] [] = some (D.bool r, []) := by
  refine c50 ?_ rfl
  unfold k50
  unfold s_soPartial at h
  obtain ⟨e1, h⟩ := ckS h
  obtain ⟨e2, h⟩ := ckS h
  have c3 := s_prGood_cl p_Labels p_Degree p_Nodes p_Edges e1 e2
  by_cases e4 : (isProb p_Labels p_Degree p_Nodes p_Edges) = true
  · rw [if_pos e4] at h
    obtain ⟨e5, h⟩ := ckS h
    obtain ⟨e6, h⟩ := ckS h
    obtain ⟨e7, h⟩ := ckS h
    have c8 := s_neGood_cl n_Ends n_Ids n_Inputs e5 e6 e7
    by_cases e9 : (isNet n_Ends n_Ids n_Inputs) = true
    · rw [if_pos e9] at h
      by_cases e10 : (l.length : Int) = (n_Ends.length : Int)
      · rw [if_pos e10] at h
        obtain ⟨r12_, hl12, h⟩ := bindS h
        try dsimp only at h
        simp (maxDischargeDepth := 9) only [↓xpre, xpost, xlst, xcore, yset, ↓reduceIte, Nat.reduceEqDiff, Nat.reduceLT, Nat.reduceAdd, c3, e4, c8, e9, decide_eq_true e10]
        refine wd_mono (s_soPartial_l0_wp p_Labels p_Degree p_Nodes p_Edges n_Ends n_Ids n_Inputs l hl12 ?_) ?_
        · simp (maxDischargeDepth := 9) only [xpost, ↓reduceIte, Nat.reduceEqDiff, s_soPartial_l0_M] <;> (repeat' apply And.intro) <;> first | rfl | exact ⟨_, rfl⟩ | simp [lst, cat2_nil]
        · intro ex12 s12 hX12
          rcases r12_ with q12_ | q12_
          · unfold s_soPartial_l0_X at hX12
            dsimp only at hX12 h
            obtain ⟨rfl, n12_0⟩ := hX12
            obtain rfl := Option.some.inj h
            simp (maxDischargeDepth := 9) only [↓xpre, xpost, xcore, ↓reduceIte, n12_0] <;> (repeat' apply And.intro) <;> first | rfl | exact ⟨_, rfl⟩ | simp [lst, cat2_nil]
          · unfold s_soPartial_l0_X at hX12
            dsimp only at hX12 h
            obtain rfl := hX12
            obtain rfl := Option.some.inj h
            simp (maxDischargeDepth := 9) only [↓xpre, xpost, xcore, yset, ↓reduceIte] <;> (repeat' apply And.intro) <;> first | rfl | exact ⟨_, rfl⟩ | simp [lst, cat2_nil]
      · rw [if_neg e10] at h
        obtain rfl := Option.some.inj h
        simp (maxDischargeDepth := 9) only [↓xpre, xpost, xlst, xcore, yset, ↓reduceIte, Nat.reduceEqDiff, Nat.reduceLT, Nat.reduceAdd, c3, e4, c8, e9, e10] <;> (repeat' apply And.intro) <;> first | rfl | exact ⟨_, rfl⟩ | simp [lst, cat2_nil]
    · rw [if_neg e9] at h
      have e9f : (isNet n_Ends n_Ids n_Inputs) = false := Bool.eq_false_iff.mpr e9
      obtain rfl := Option.some.inj h
      simp (maxDischargeDepth := 9) only [↓xpre, xpost, xcore, yset, ↓reduceIte, Nat.reduceEqDiff, Nat.reduceLT, Nat.reduceAdd, c3, e4, c8, e9f] <;> (repeat' apply And.intro) <;> first | rfl | exact ⟨_, rfl⟩ | simp [lst, cat2_nil]
  · rw [if_neg e4] at h
    have e4f : (isProb p_Labels p_Degree p_Nodes p_Edges) = false := Bool.eq_false_iff.mpr e4
    obtain rfl := Option.some.inj h
    simp (maxDischargeDepth := 9) only [↓xpre, xpost, xcore, yset, ↓reduceIte, Nat.reduceEqDiff, Nat.reduceLT, Nat.reduceAdd, c3, e4f] <;> (repeat' apply And.intro) <;> first | rfl | exact ⟨_, rfl⟩ | simp [lst, cat2_nil]

noncomputable def s_soInside_l0_S (x_ : List Int) (l : List Int) (t11_ : Int) (k1 : Int) : Option ((Int) ⊕ (Int)) :=
  if k1 < (x_.length : Int) then
    ck (0 ≤ k1 ∧ k1.toNat < x_.length) <|
    if (x_.getD k1.toNat default) < ((sortI l).getD t11_.toNat default) then
      some (Sum.inl (IntKind.i64.wrap (k1 + 1)))
    else
      some (Sum.inr k1)
  else
    some (Sum.inr k1)
noncomputable def s_soInside_l0 (x_ : List Int) (l : List Int) (t11_ : Int) (v : Int) : Option (Int) := itO (fun v => s_soInside_l0_S x_ l t11_ v) v
noncomputable def s_soInside_l1_S (x_ : List Int) (l : List Int) (k : Int) (t11_ : Int) : Option ((Int × Int) ⊕ (Unit ⊕ Unit)) :=
  if t11_ < ((sortI l).length : Int) then
    ck (0 ≤ t11_ ∧ t11_.toNat < (sortI l).length) <|
    if ((sortI l).getD t11_.toNat default) < 0 then
      some (Sum.inl (k, IntKind.i64.wrap (t11_ + 1)))
    else
      (s_soInside_l0 x_ l t11_ k).bind fun r7_ =>
      if r7_ = (x_.length : Int) then
        some (Sum.inr (Sum.inl ()))
      else
        ck (0 ≤ r7_ ∧ r7_.toNat < x_.length) <|
        if (x_.getD r7_.toNat default) = ((sortI l).getD t11_.toNat default) then
          some (Sum.inl (IntKind.i64.wrap (r7_ + 1), IntKind.i64.wrap (t11_ + 1)))
        else
          some (Sum.inr (Sum.inl ()))
  else
    some (Sum.inr (Sum.inr ()))
noncomputable def s_soInside_l1 (x_ : List Int) (l : List Int) (v : Int × Int) : Option (Unit ⊕ Unit) := itO (fun v => s_soInside_l1_S x_ l v.1 v.2) v
noncomputable def s_soInside (x_ : List Int) (l : List Int) : Option (Bool) :=
  ck (l.length < 1099511627776) <|
  (s_soInside_l1 x_ l (0, 0)).bind fun r4_ =>
  match r4_ with
  | .inl q4_ =>
    some false
  | .inr q4_ =>
    some true
/-- spec.soInside -/
def k120_l0b : SC :=
 .seq
 (.seq
 (.ops [
 ⟨(some 17), (.move (.tmp 5)), 3, none⟩,
 ⟨(some 18), (.move (.tmp 0)), 23, none⟩,
 ⟨(some 19), (.call ⟨(.builtin .len), #[(.tmp 18)], #[23]⟩), 3, none⟩,
 ⟨(some 20), (.binOp .lss 3 (.tmp 17) (.tmp 19) 3), 4, none⟩,
 ⟨(some 21), (.move (.tmp 20)), 4, none⟩,
 ⟨(some 22), (.move (.tmp 0)), 23, (some (some 21, true))⟩,
 ⟨(some 23), (.move (.tmp 5)), 3, (some (some 21, true))⟩,
 ⟨(some 24), (.indexAddr 23 (.tmp 22) (.tmp 23)), 0, (some (some 21, true))⟩,
 ⟨(some 25), (.load 3 (.tmp 24)), 3, (some (some 21, true))⟩,
 ⟨(some 26), (.move (.tmp 7)), 3, (some (some 21, true))⟩,
 ⟨(some 27), (.binOp .lss 3 (.tmp 25) (.tmp 26) 3), 4, (some (some 21, true))⟩,
 ⟨(some 28), (.pick (.tmp 21) (.tmp 27) (.const (.bool false))), 4, none⟩])
 (.cond (.tmp 28)
 .skip
 (.exit 2)))
 (.block 3
 (.ops [
 ⟨(some 29), (.move (.tmp 5)), 3, none⟩,
 ⟨(some 30), (.binOp .add 3 (.tmp 29) (.const (.int .i64 1)) 3), 3, none⟩,
 ⟨(some 5), (.assign (.tmp 30)), 3, none⟩]))
def k120_l0 : SC := .loop k120_l0b
def k120_l1b : SC :=
 .seq
 (.ops [
 ⟨(some 12), (.binOp .lss 3 (.tmp 11) (.tmp 10) 3), 0, none⟩])
 (.seq
 (.cond (.tmp 12)
 .skip
 (.exit 0))
 (.seq
 (.block 1
 (.seq
 (.ops [
 ⟨(some 13), (.indexAddr 23 (.tmp 9) (.tmp 11)), 0, none⟩,
 ⟨(some 14), (.load 3 (.tmp 13)), 3, none⟩,
 ⟨(some 7), (.assign (.tmp 14)), 3, none⟩])
 (.seq
 (.seq
 (.ops [
 ⟨(some 15), (.move (.tmp 7)), 3, none⟩,
 ⟨(some 16), (.binOp .lss 3 (.tmp 15) (.const (.int .i64 0)) 3), 4, none⟩])
 (.cond (.tmp 16)
 (.exit 1)
 .skip))
 (.seq
 (.block 2
 k120_l0)
 (.seq
 (.seq
 (.ops [
 ⟨(some 31), (.move (.tmp 5)), 3, none⟩,
 ⟨(some 32), (.move (.tmp 0)), 23, none⟩,
 ⟨(some 33), (.call ⟨(.builtin .len), #[(.tmp 32)], #[23]⟩), 3, none⟩,
 ⟨(some 34), (.binOp .eql 3 (.tmp 31) (.tmp 33) 3), 4, none⟩,
 ⟨(some 35), (.move (.tmp 34)), 4, none⟩,
 ⟨(some 36), (.move (.tmp 0)), 23, (some (some 35, false))⟩,
 ⟨(some 37), (.move (.tmp 5)), 3, (some (some 35, false))⟩,
 ⟨(some 38), (.indexAddr 23 (.tmp 36) (.tmp 37)), 0, (some (some 35, false))⟩,
 ⟨(some 39), (.load 3 (.tmp 38)), 3, (some (some 35, false))⟩,
 ⟨(some 40), (.move (.tmp 7)), 3, (some (some 35, false))⟩,
 ⟨(some 41), (.binOp .neq 3 (.tmp 39) (.tmp 40) 3), 4, (some (some 35, false))⟩,
 ⟨(some 42), (.pick (.tmp 35) (.const (.bool true)) (.tmp 41)), 4, none⟩])
 (.cond (.tmp 42)
 (.seq
 (.ops [
 ⟨(some 4), (.assign (.const (.bool false))), 4, none⟩])
 .ret)
 .skip))
 (.ops [
 ⟨(some 43), (.move (.tmp 5)), 3, none⟩,
 ⟨(some 44), (.binOp .add 3 (.tmp 43) (.const (.int .i64 1)) 3), 3, none⟩,
 ⟨(some 5), (.assign (.tmp 44)), 3, none⟩]))))))
 (.ops [
 ⟨(some 45), (.binOp .add 3 (.tmp 11) (.const (.int .i64 1)) 3), 3, none⟩,
 ⟨(some 11), (.move (.tmp 45)), 3, none⟩])))
def k120_l1 : SC := .loop k120_l1b
def k120 : SC :=
 .seq
 (.ops [
 ⟨(some 4), (.assign (.const (.bool false))), 4, none⟩])
 (.seq
 (.ops [
 ⟨(some 5), (.assign (.const (.int .i64 0))), 3, none⟩])
 (.seq
 (.seq
 (.ops [
 ⟨(some 8), (.move (.tmp 1)), 23, none⟩,
 ⟨(some 9), (.call ⟨(.value (.func 150)), #[(.tmp 8)], #[23]⟩), 23, none⟩,
 ⟨(some 10), (.call ⟨(.builtin .len), #[(.tmp 9)], #[23]⟩), 3, none⟩,
 ⟨(some 11), (.move (.const (.int .i64 0))), 3, none⟩])
 (.block 0
 k120_l1))
 (.seq
 (.ops [
 ⟨(some 4), (.assign (.const (.bool true))), 4, none⟩])
 .ret)))
theorem slim120 : Try.f120.body.map (slim lends) = some k120 := by kernel_rfl
theorem ok120 : fnOk Try.f120 2 = true := by kernel_rfl
theorem c120 {a l : List D} {r : D × List D} (h : wpD Y.env k120 (fin tys l.length [ResultVar.tmp 4] r) (entry a l)) (ha : a.length = 2) : Y.call 120 a l = some r :=
  call_slim (Y := Y) rfl Try.func120 (ha ▸ ok120) slim120 h
def s_soInside_l0_M (x_ : List Int) (l : List Int) (t11_ : Int) (k1 : Int) (s : St) : Prop := s.v 0 = D.sl 3 (lst (D.int .i64) x_) ∧ s.v 5 = D.int .i64 k1 ∧ s.v 7 = D.int .i64 ((sortI l).getD t11_.toNat default) ∧ s.v 9 = D.own 3 (lst (D.int .i64) (sortI l)) ∧ s.v 10 = D.int .i64 ((sortI l).length : Int) ∧ s.v 11 = D.int .i64 t11_
def s_soInside_l0_X (x_ : List Int) (l : List Int) (t11_ : Int) (r : Int) (ex : Ex) (s : St) : Prop := ex = .exit 2 ∧ s.v 0 = D.sl 3 (lst (D.int .i64) x_) ∧ s.v 5 = D.int .i64 r ∧ s.v 7 = D.int .i64 ((sortI l).getD t11_.toNat default) ∧ s.v 9 = D.own 3 (lst (D.int .i64) (sortI l)) ∧ s.v 10 = D.int .i64 ((sortI l).length : Int) ∧ s.v 11 = D.int .i64 t11_
theorem s_soInside_l0_wp (x_ : List Int) (l : List Int) (t11_ : Int) {v : Int} {s : St} {r : Int} (h : s_soInside_l0 x_ l t11_ v = some r) (hM : s_soInside_l0_M x_ l t11_ v s) : wpD Y.env k120_l0 (s_soInside_l0_X x_ l t11_ r) s := by
  unfold s_soInside_l0 at h
  refine wd_itO (c := k120_l0b) (fun v => s_soInside_l0_S x_ l t11_ v) (fun v s => s_soInside_l0_M x_ l t11_ v s) (s_soInside_l0_X x_ l t11_) ?_ h hM
  clear h hM s v r
  intro k1 s o hM h
  unfold s_soInside_l0_S at h
  unfold s_soInside_l0_M at hM
  obtain ⟨m0, m1, m2, m3, m4, m5⟩ := hM
  unfold k120_l0b
  by_cases e6 : k1 < (x_.length : Int)
  · rw [if_pos e6] at h
    obtain ⟨e7, h⟩ := ckS h
    by_cases e8 : (x_.getD k1.toNat default) < ((sortI l).getD t11_.toNat default)
    · rw [if_pos e8] at h
      obtain rfl := Option.some.inj h
      simp (maxDischargeDepth := 9) only [↓xpre, xpost, xlst, xcore, yset, ↓reduceIte, Nat.reduceEqDiff, m0, m1, m2, m3, m4, m5, e6, e7.1, e7.2, e8, s_soInside_l0_M, sxN] <;> (repeat' apply And.intro) <;> first | rfl | exact ⟨_, rfl⟩ | simp [lst, cat2_nil]
    · rw [if_neg e8] at h
      obtain rfl := Option.some.inj h
      simp (maxDischargeDepth := 9) only [↓xpre, xpost, xlst, xcore, yset, ↓reduceIte, Nat.reduceEqDiff, m0, m1, m2, m3, m4, m5, e6, e7.1, e7.2, e8, s_soInside_l0_M, s_soInside_l0_X, sxE] <;> (repeat' apply And.intro) <;> first | rfl | exact ⟨_, rfl⟩ | simp [lst, cat2_nil]
  · rw [if_neg e6] at h
    obtain rfl := Option.some.inj h
    simp (maxDischargeDepth := 9) only [↓xpre, xpost, xlst, yset, ↓reduceIte, Nat.reduceEqDiff, m0, m1, m2, m3, m4, m5, e6, s_soInside_l0_M, s_soInside_l0_X, sxE] <;> (repeat' apply And.intro) <;> first | rfl | exact ⟨_, rfl⟩ | simp [lst, cat2_nil]
def s_soInside_l1_M (x_ : List Int) (l : List Int) (k : Int) (t11_ : Int) (s : St) : Prop := s.v 0 = D.sl 3 (lst (D.int .i64) x_) ∧ s.v 5 = D.int .i64 k ∧ s.v 9 = D.own 3 (lst (D.int .i64) (sortI l)) ∧ s.v 10 = D.int .i64 ((sortI l).length : Int) ∧ s.v 11 = D.int .i64 t11_
def s_soInside_l1_X (x_ : List Int) (l : List Int) (r : Unit ⊕ Unit) (ex : Ex) (s : St) : Prop := match r with
  | .inl q => ex = .ret ∧ s.v 4 = D.bool false
  | .inr q => ex = .exit 0
theorem s_soInside_l1_wp (x_ : List Int) (l : List Int) {v : Int × Int} {s : St} {r : Unit ⊕ Unit} (h : s_soInside_l1 x_ l v = some r) (hM : s_soInside_l1_M x_ l v.1 v.2 s) : wpD Y.env k120_l1 (s_soInside_l1_X x_ l r) s := by
  unfold s_soInside_l1 at h
  refine wd_itO (c := k120_l1b) (fun v => s_soInside_l1_S x_ l v.1 v.2) (fun v s => s_soInside_l1_M x_ l v.1 v.2 s) (s_soInside_l1_X x_ l) ?_ h hM
  clear h hM s v r
  intro v s o hM h
  obtain ⟨k, t11_⟩ := v
  dsimp only at h hM
  unfold s_soInside_l1_S at h
  unfold s_soInside_l1_M at hM
  obtain ⟨m0, m1, m2, m3, m4⟩ := hM
  unfold k120_l1b
  by_cases e3 : t11_ < ((sortI l).length : Int)
  · rw [if_pos e3] at h
    obtain ⟨e4, h⟩ := ckS h
    by_cases e5 : ((sortI l).getD t11_.toNat default) < 0
    · rw [if_pos e5] at h
      obtain rfl := Option.some.inj h
      simp (maxDischargeDepth := 9) only [↓xpre, xpost, xlst, xcore, yset, ↓reduceIte, Nat.reduceEqDiff, m0, m1, m2, m3, m4, e3, e4.1, e4.2, e5, s_soInside_l1_M, sxN] <;> (repeat' apply And.intro) <;> first | rfl | exact ⟨_, rfl⟩ | simp [lst, cat2_nil]
    · rw [if_neg e5] at h
      obtain ⟨r7_, hl7, h⟩ := bindS h
      try dsimp only at h
      simp (maxDischargeDepth := 9) only [↓xpre, xpost, xlst, xcore, yset, ↓reduceIte, Nat.reduceEqDiff, m2, m3, m4, e3, e4.1, e4.2, e5]
      refine wd_mono (s_soInside_l0_wp x_ l t11_ hl7 ?_) ?_
      · simp (maxDischargeDepth := 9) only [xpost, ↓reduceIte, Nat.reduceEqDiff, m0, m1, m2, m3, m4, s_soInside_l0_M] <;> (repeat' apply And.intro) <;> first | rfl | exact ⟨_, rfl⟩ | simp [lst, cat2_nil]
      · intro ex7 s7 hX7
        unfold s_soInside_l0_X at hX7
        obtain ⟨rfl, n7_0, n7_1, n7_2, n7_3, n7_4, n7_5⟩ := hX7
        by_cases e8 : r7_ = (x_.length : Int)
        · rw [if_pos e8] at h
          obtain rfl := Option.some.inj h
          simp (maxDischargeDepth := 9) only [↓xpre, xpost, xlst, yset, ↓reduceIte, Nat.reduceEqDiff, n7_0, n7_1, decide_eq_true e8, s_soInside_l1_M, s_soInside_l1_X, sxR] <;> (repeat' apply And.intro) <;> first | rfl | exact ⟨_, rfl⟩ | simp [lst, cat2_nil]
        · rw [if_neg e8] at h
          obtain ⟨e9, h⟩ := ckS h
          by_cases e10 : (x_.getD r7_.toNat default) = ((sortI l).getD t11_.toNat default)
          · rw [if_pos e10] at h
            obtain rfl := Option.some.inj h
            simp (maxDischargeDepth := 9) only [↓xpre, xpost, xlst, xcore, yset, ↓reduceIte, Nat.reduceEqDiff, n7_0, n7_1, n7_2, n7_3, n7_4, n7_5, e8, e9.1, e9.2, decide_eq_true e10, s_soInside_l1_M, sxN] <;> (repeat' apply And.intro) <;> first | rfl | exact ⟨_, rfl⟩ | simp [lst, cat2_nil]
          · rw [if_neg e10] at h
            obtain rfl := Option.some.inj h
            simp (maxDischargeDepth := 9) only [↓xpre, xpost, xlst, xcore, yset, ↓reduceIte, Nat.reduceEqDiff, n7_0, n7_1, n7_2, e8, e9.1, e9.2, e10, s_soInside_l1_M, s_soInside_l1_X, sxR] <;> (repeat' apply And.intro) <;> first | rfl | exact ⟨_, rfl⟩ | simp [lst, cat2_nil]
  · rw [if_neg e3] at h
    obtain rfl := Option.some.inj h
    simp (maxDischargeDepth := 9) only [↓xpre, xpost, yset, ↓reduceIte, m3, m4, e3, s_soInside_l1_M, s_soInside_l1_X, sxE] <;> (repeat' apply And.intro) <;> first | rfl | exact ⟨_, rfl⟩ | simp [lst, cat2_nil]
theorem s_soInside_call (x_ : List Int) (l : List Int) {r : Bool} (h : s_soInside x_ l = some r) : Y.call 120 [D.sl 3 (lst (D.int .i64) x_), D.sl 3 (lst (D.int .i64) l)] [] = some (D.bool r, []) := by
  refine c120 ?_ rfl
  unfold k120
  unfold s_soInside at h
  obtain ⟨e1, h⟩ := ckS h
  have c2 := s_prSorted_cl l e1
  obtain ⟨r4_, hl4, h⟩ := bindS h
  try dsimp only at h
  simp (maxDischargeDepth := 9) only [↓xpre, xpost, xlst, xcore, yset, ↓reduceIte, Nat.reduceEqDiff, Nat.reduceLT, Nat.reduceAdd, c2]
  refine wd_mono (s_soInside_l1_wp x_ l hl4 ?_) ?_
  · simp (maxDischargeDepth := 9) only [xpost, xcore, ↓reduceIte, Nat.reduceEqDiff, Nat.reduceLT, s_soInside_l1_M] <;> (repeat' apply And.intro) <;> first | rfl | exact ⟨_, rfl⟩ | simp [lst, cat2_nil]
  · intro ex4 s4 hX4
    rcases r4_ with q4_ | q4_
    · unfold s_soInside_l1_X at hX4
      dsimp only at hX4 h
      obtain ⟨rfl, n4_0⟩ := hX4
      obtain rfl := Option.some.inj h
      simp (maxDischargeDepth := 9) only [↓xpre, xpost, xcore, ↓reduceIte, n4_0] <;> (repeat' apply And.intro) <;> first | rfl | exact ⟨_, rfl⟩ | simp [lst, cat2_nil]
    · unfold s_soInside_l1_X at hX4
      dsimp only at hX4 h
      obtain rfl := hX4
      obtain rfl := Option.some.inj h
      simp (maxDischargeDepth := 9) only [↓xpre, xpost, xcore, yset, ↓reduceIte] <;> (repeat' apply And.intro) <;> first | rfl | exact ⟨_, rfl⟩ | simp [lst, cat2_nil]

noncomputable def s_soNode_l0_S (p_Nodes : List (List Int)) (row : List Int) (t15_ : Int) : Option ((Int) ⊕ (Unit ⊕ Unit)) :=
  if t15_ < (p_Nodes.length : Int) then
    ck (0 ≤ t15_ ∧ t15_.toNat < p_Nodes.length) <|
    (s_soInside (p_Nodes.getD t15_.toNat default) row).bind fun r4_ =>
    if r4_ = true then
      some (Sum.inr (Sum.inl ()))
    else
      some (Sum.inl (IntKind.i64.wrap (t15_ + 1)))
  else
    some (Sum.inr (Sum.inr ()))
noncomputable def s_soNode_l0 (p_Nodes : List (List Int)) (row : List Int) (v : Int) : Option (Unit ⊕ Unit) := itO (fun v => s_soNode_l0_S p_Nodes row v) v
noncomputable def s_soNode (p_Labels : Int) (p_Degree : Int) (p_Nodes : List (List Int)) (p_Edges : List (List Int)) (row : List Int) : Option (Bool) :=
  if (row.length : Int) = p_Degree then
    (s_soNode_l0 p_Nodes row 0).bind fun r3_ =>
    match r3_ with
    | .inl q3_ =>
      some true
    | .inr q3_ =>
      some false
  else
    some true
/-- spec.soNode -/
def k89_l0b : SC :=
 .seq
 (.ops [
 ⟨(some 16), (.binOp .lss 3 (.tmp 15) (.tmp 14) 3), 0, none⟩])
 (.seq
 (.cond (.tmp 16)
 .skip
 (.exit 0))
 (.seq
 (.block 1
 (.seq
 (.ops [
 ⟨(some 17), (.indexAddr 36 (.tmp 13) (.tmp 15)), 0, none⟩,
 ⟨(some 18), (.load 23 (.tmp 17)), 23, none⟩,
 ⟨(some 6), (.assign (.tmp 18)), 23, none⟩])
 (.seq
 (.ops [
 ⟨(some 19), (.move (.tmp 6)), 23, none⟩,
 ⟨(some 20), (.move (.tmp 1)), 23, none⟩,
 ⟨(some 21), (.call ⟨(.value (.func 120)), #[(.tmp 19), (.tmp 20)], #[23, 23]⟩), 4, none⟩])
 (.cond (.tmp 21)
 (.seq
 (.ops [
 ⟨(some 4), (.assign (.const (.bool true))), 4, none⟩])
 .ret)
 .skip))))
 (.ops [
 ⟨(some 22), (.binOp .add 3 (.tmp 15) (.const (.int .i64 1)) 3), 3, none⟩,
 ⟨(some 15), (.move (.tmp 22)), 3, none⟩])))
def k89_l0 : SC := .loop k89_l0b
def k89 : SC :=
 .seq
 (.ops [
 ⟨(some 2), (.box 43 (.tmp 0)), 0, none⟩,
 ⟨(some 4), (.assign (.const (.bool false))), 4, none⟩])
 (.seq
 (.seq
 (.ops [
 ⟨(some 7), (.move (.tmp 1)), 23, none⟩,
 ⟨(some 8), (.call ⟨(.builtin .len), #[(.tmp 7)], #[23]⟩), 3, none⟩,
 ⟨(some 9), (.fieldAddr 43 (.tmp 2) 1), 0, none⟩,
 ⟨(some 10), (.load 3 (.tmp 9)), 3, none⟩,
 ⟨(some 11), (.binOp .neq 3 (.tmp 8) (.tmp 10) 3), 4, none⟩])
 (.cond (.tmp 11)
 (.seq
 (.ops [
 ⟨(some 4), (.assign (.const (.bool true))), 4, none⟩])
 .ret)
 .skip))
 (.seq
 (.seq
 (.ops [
 ⟨(some 12), (.fieldAddr 43 (.tmp 2) 2), 0, none⟩,
 ⟨(some 13), (.load 36 (.tmp 12)), 36, none⟩,
 ⟨(some 14), (.call ⟨(.builtin .len), #[(.tmp 13)], #[36]⟩), 3, none⟩,
 ⟨(some 15), (.move (.const (.int .i64 0))), 3, none⟩])
 (.block 0
 k89_l0))
 (.seq
 (.ops [
 ⟨(some 4), (.assign (.const (.bool false))), 4, none⟩])
 .ret)))
theorem slim89 : Try.f89.body.map (slim lends) = some k89 := by kernel_rfl
theorem ok89 : fnOk Try.f89 2 = true := by kernel_rfl
theorem c89 {a l : List D} {r : D × List D} (h : wpD Y.env k89 (fin tys l.length [ResultVar.tmp 4] r) (entry a l)) (ha : a.length = 2) : Y.call 89 a l = some r :=
  call_slim (Y := Y) rfl Try.func89 (ha ▸ ok89) slim89 h
def s_soNode_l0_M (p_Nodes : List (List Int)) (row : List Int) (t15_ : Int) (s : St) : Prop := s.v 1 = D.sl 3 (lst (D.int .i64) row) ∧ s.v 13 = D.sl 23 (lst (fun x => D.sl 3 (lst (D.int .i64) x)) p_Nodes) ∧ s.v 14 = D.int .i64 (p_Nodes.length : Int) ∧ s.v 15 = D.int .i64 t15_
def s_soNode_l0_X (p_Nodes : List (List Int)) (row : List Int) (r : Unit ⊕ Unit) (ex : Ex) (s : St) : Prop := match r with
  | .inl q => ex = .ret ∧ s.v 4 = D.bool true
  | .inr q => ex = .exit 0
theorem s_soNode_l0_wp (p_Nodes : List (List Int)) (row : List Int) {v : Int} {s : St} {r : Unit ⊕ Unit} (h : s_soNode_l0 p_Nodes row v = some r) (hM : s_soNode_l0_M p_Nodes row v s) : wpD Y.env k89_l0 (s_soNode_l0_X p_Nodes row r) s := by
  unfold s_soNode_l0 at h
  refine wd_itO (c := k89_l0b) (fun v => s_soNode_l0_S p_Nodes row v) (fun v s => s_soNode_l0_M p_Nodes row v s) (s_soNode_l0_X p_Nodes row) ?_ h hM
  clear h hM s v r
  intro t15_ s o hM h
  unfold s_soNode_l0_S at h
  unfold s_soNode_l0_M at hM
  obtain ⟨m0, m1, m2, m3⟩ := hM
  unfold k89_l0b
  by_cases e2 : t15_ < (p_Nodes.length : Int)
  · rw [if_pos e2] at h
    obtain ⟨e3, h⟩ := ckS h
    obtain ⟨r4_, hl4, h⟩ := bindS h
    try dsimp only at h
    have c4 := s_soInside_call (p_Nodes.getD t15_.toNat default) row hl4
    by_cases e5 : r4_ = true
    · rw [if_pos e5] at h
      obtain rfl := Option.some.inj h
      simp (maxDischargeDepth := 9) only [↓xpre, xpost, xlst, xcore, yset, ↓reduceIte, Nat.reduceEqDiff, Nat.reduceAdd, m0, m1, m2, m3, e2, e3.1, e3.2, c4, e5, s_soNode_l0_M, s_soNode_l0_X, sxR] <;> (repeat' apply And.intro) <;> first | rfl | exact ⟨_, rfl⟩ | simp [lst, cat2_nil]
    · rw [if_neg e5] at h
      have e5f : r4_ = false := Bool.eq_false_iff.mpr e5
      obtain rfl := Option.some.inj h
      simp (maxDischargeDepth := 9) only [↓xpre, xpost, xlst, xcore, yset, ↓reduceIte, Nat.reduceEqDiff, Nat.reduceAdd, m0, m1, m2, m3, e2, e3.1, e3.2, c4, e5f, s_soNode_l0_M, sxN] <;> (repeat' apply And.intro) <;> first | rfl | exact ⟨_, rfl⟩ | simp [lst, cat2_nil]
  · rw [if_neg e2] at h
    obtain rfl := Option.some.inj h
    simp (maxDischargeDepth := 9) only [↓xpre, xpost, yset, ↓reduceIte, m2, m3, e2, s_soNode_l0_M, s_soNode_l0_X, sxE] <;> (repeat' apply And.intro) <;> first | rfl | exact ⟨_, rfl⟩ | simp [lst, cat2_nil]
theorem s_soNode_call (p_Labels : Int) (p_Degree : Int) (p_Nodes : List (List Int)) (p_Edges : List (List Int)) (row : List Int) {r : Bool} (h : s_soNode p_Labels p_Degree p_Nodes p_Edges row = some r) : Y.call 89 [D.agg [D.int .i64 p_Labels, D.int .i64 p_Degree, D.sl 23 (lst (fun x => D.sl 3 (lst (D.int .i64) x)) p_Nodes), D.sl 23 (lst (fun x => D.sl 3 (lst (D.int .i64) x)) p_Edges)], D.sl 3 (lst (D.int .i64) row)] [] = some (D.bool r, []) := by
  refine c89 ?_ rfl
  unfold k89
  unfold s_soNode at h
  by_cases e1 : (row.length : Int) = p_Degree
  · rw [if_pos e1] at h
    obtain ⟨r3_, hl3, h⟩ := bindS h
    try dsimp only at h
    simp (maxDischargeDepth := 9) only [↓xpre, xpost, xlst, xcore, yset, ↓reduceIte, Nat.reduceEqDiff, Nat.reduceLT, Nat.reduceAdd, decide_eq_true e1]
    refine wd_mono (s_soNode_l0_wp p_Nodes row hl3 ?_) ?_
    · simp (maxDischargeDepth := 9) only [xpost, xcore, ↓reduceIte, Nat.reduceEqDiff, Nat.reduceLT, s_soNode_l0_M] <;> (repeat' apply And.intro) <;> first | rfl | exact ⟨_, rfl⟩ | simp [lst, cat2_nil]
    · intro ex3 s3 hX3
      rcases r3_ with q3_ | q3_
      · unfold s_soNode_l0_X at hX3
        dsimp only at hX3 h
        obtain ⟨rfl, n3_0⟩ := hX3
        obtain rfl := Option.some.inj h
        simp (maxDischargeDepth := 9) only [↓xpre, xpost, xcore, ↓reduceIte, n3_0] <;> (repeat' apply And.intro) <;> first | rfl | exact ⟨_, rfl⟩ | simp [lst, cat2_nil]
      · unfold s_soNode_l0_X at hX3
        dsimp only at hX3 h
        obtain rfl := hX3
        obtain rfl := Option.some.inj h
        simp (maxDischargeDepth := 9) only [↓xpre, xpost, xcore, yset, ↓reduceIte] <;> (repeat' apply And.intro) <;> first | rfl | exact ⟨_, rfl⟩ | simp [lst, cat2_nil]
  · rw [if_neg e1] at h
    obtain rfl := Option.some.inj h
    simp (maxDischargeDepth := 9) only [↓xpre, xpost, xlst, xcore, yset, ↓reduceIte, Nat.reduceEqDiff, Nat.reduceLT, Nat.reduceAdd, e1] <;> (repeat' apply And.intro) <;> first | rfl | exact ⟨_, rfl⟩ | simp [lst, cat2_nil]

noncomputable def s_soPort (p_Labels : Int) (p_Degree : Int) (p_Nodes : List (List Int)) (p_Edges : List (List Int)) (n_Ends : List (List (Int × Int))) (n_Ids : List Int) (n_Inputs : List Int) (l : List (List Int)) (v_ : Int) (i : Int) : Option (Bool) :=
  ck (0 ≤ v_ ∧ v_.toNat < n_Ends.length) <|
  ck (0 ≤ i ∧ i.toNat < (n_Ends.getD v_.toNat default).length) <|
  ck (0 ≤ v_ ∧ v_.toNat < l.length) <|
  ck (0 ≤ i ∧ i.toNat < (l.getD v_.toNat default).length) <|
  ck (0 ≤ (fstD (n_Ends.getD v_.toNat default) i.toNat) ∧ (fstD (n_Ends.getD v_.toNat default) i.toNat).toNat < l.length) <|
  ck (0 ≤ (sndD (n_Ends.getD v_.toNat default) i.toNat) ∧ (sndD (n_Ends.getD v_.toNat default) i.toNat).toNat < (l.getD ((fstD (n_Ends.getD v_.toNat default) i.toNat).toNat) default).length) <|
  if ((l.getD v_.toNat default).getD i.toNat default) < 0 then
    some true
  else
    if ((l.getD ((fstD (n_Ends.getD v_.toNat default) i.toNat).toNat) default).getD ((sndD (n_Ends.getD v_.toNat default) i.toNat).toNat) default) < 0 then
      some true
    else
      ck (Short p_Edges) <|
      some (hasE p_Edges ((l.getD v_.toNat default).getD i.toNat default) ((l.getD ((fstD (n_Ends.getD v_.toNat default) i.toNat).toNat) default).getD ((sndD (n_Ends.getD v_.toNat default) i.toNat).toNat) default))
/-- spec.soPort -/
def k90 : SC :=
 .seq
 (.ops [
 ⟨(some 5), (.box 43 (.tmp 0)), 0, none⟩,
 ⟨(some 6), (.box 29 (.tmp 1)), 0, none⟩,
 ⟨(some 10), (.assign (.const (.bool false))), 4, none⟩])
 (.seq
 (.ops [
 ⟨(some 14), (.fieldAddr 29 (.tmp 6) 0), 0, none⟩,
 ⟨(some 15), (.load 27 (.tmp 14)), 27, none⟩,
 ⟨(some 16), (.move (.tmp 3)), 3, none⟩,
 ⟨(some 17), (.indexAddr 27 (.tmp 15) (.tmp 16)), 0, none⟩,
 ⟨(some 18), (.load 93 (.tmp 17)), 93, none⟩,
 ⟨(some 19), (.move (.tmp 4)), 3, none⟩,
 ⟨(some 20), (.indexAddr 93 (.tmp 18) (.tmp 19)), 0, none⟩,
 ⟨(some 21), (.load 95 (.tmp 20)), 95, none⟩,
 ⟨(some 11), (.alloc 95), 0, none⟩,
 ⟨none, (.store 95 (.tmp 11) (.tmp 21)), 0, none⟩])
 (.seq
 (.draws [
 (⟨[22, 2, 2], [22, 23, 24, 25, 26, 27, 28, 29, 30, 31, 32, 33, 34, 35, 36, 37, 12, 28, 13, 37], [22]⟩, ⟨(some 22), (.move (.tmp 2)), 36, none⟩),
 (⟨[23, 3, 3], [22, 23, 24, 25, 26, 27, 28, 29, 30, 31, 32, 33, 34, 35, 36, 37, 12, 28, 13, 37], [23]⟩, ⟨(some 23), (.move (.tmp 3)), 3, none⟩),
 (⟨[24, 22, 23, 2, 3], [22, 23, 24, 25, 26, 27, 28, 29, 30, 31, 32, 33, 34, 35, 36, 37, 12, 28, 13, 37], [24]⟩, ⟨(some 24), (.indexAddr 36 (.tmp 22) (.tmp 23)), 0, none⟩),
 (⟨[25, 24, 2], [22, 23, 24, 25, 26, 27, 28, 29, 30, 31, 32, 33, 34, 35, 36, 37, 12, 28, 13, 37], [25]⟩, ⟨(some 25), (.load 23 (.tmp 24)), 23, none⟩),
 (⟨[26, 4, 4], [22, 23, 24, 25, 26, 27, 28, 29, 30, 31, 32, 33, 34, 35, 36, 37, 12, 28, 13, 37], [26]⟩, ⟨(some 26), (.move (.tmp 4)), 3, none⟩),
 (⟨[27, 25, 26, 2, 4], [22, 23, 24, 25, 26, 27, 28, 29, 30, 31, 32, 33, 34, 35, 36, 37, 12, 28, 13, 37], [27]⟩, ⟨(some 27), (.indexAddr 23 (.tmp 25) (.tmp 26)), 0, none⟩),
 (⟨[28, 27, 2], [22, 23, 24, 25, 26, 27, 28, 29, 30, 31, 32, 33, 34, 35, 36, 37, 12, 28, 13, 37], [28]⟩, ⟨(some 28), (.load 3 (.tmp 27)), 3, none⟩),
 (⟨[29, 2, 2], [22, 23, 24, 25, 26, 27, 28, 29, 30, 31, 32, 33, 34, 35, 36, 37, 12, 28, 13, 37], [29]⟩, ⟨(some 29), (.move (.tmp 2)), 36, none⟩),
 (⟨[30, 11, 11], [22, 23, 24, 25, 26, 27, 28, 29, 30, 31, 32, 33, 34, 35, 36, 37, 12, 28, 13, 37], [30]⟩, ⟨(some 30), (.fieldAddr 95 (.tmp 11) 0), 0, none⟩),
 (⟨[31, 30, 11], [22, 23, 24, 25, 26, 27, 28, 29, 30, 31, 32, 33, 34, 35, 36, 37, 12, 28, 13, 37], [31]⟩, ⟨(some 31), (.load 3 (.tmp 30)), 3, none⟩),
 (⟨[32, 29, 31, 2, 11], [22, 23, 24, 25, 26, 27, 28, 29, 30, 31, 32, 33, 34, 35, 36, 37, 12, 28, 13, 37], [32]⟩, ⟨(some 32), (.indexAddr 36 (.tmp 29) (.tmp 31)), 0, none⟩),
 (⟨[33, 32, 2], [22, 23, 24, 25, 26, 27, 28, 29, 30, 31, 32, 33, 34, 35, 36, 37, 12, 28, 13, 37], [33]⟩, ⟨(some 33), (.load 23 (.tmp 32)), 23, none⟩),
 (⟨[34, 11, 11], [22, 23, 24, 25, 26, 27, 28, 29, 30, 31, 32, 33, 34, 35, 36, 37, 12, 28, 13, 37], [34]⟩, ⟨(some 34), (.fieldAddr 95 (.tmp 11) 1), 0, none⟩),
 (⟨[35, 34, 11], [22, 23, 24, 25, 26, 27, 28, 29, 30, 31, 32, 33, 34, 35, 36, 37, 12, 28, 13, 37], [35]⟩, ⟨(some 35), (.load 3 (.tmp 34)), 3, none⟩),
 (⟨[36, 33, 35, 2, 11], [22, 23, 24, 25, 26, 27, 28, 29, 30, 31, 32, 33, 34, 35, 36, 37, 12, 28, 13, 37], [36]⟩, ⟨(some 36), (.indexAddr 23 (.tmp 33) (.tmp 35)), 0, none⟩),
 (⟨[37, 36, 2], [22, 23, 24, 25, 26, 27, 28, 29, 30, 31, 32, 33, 34, 35, 36, 37, 12, 28, 13, 37], [37]⟩, ⟨(some 37), (.load 3 (.tmp 36)), 3, none⟩),
 (⟨[12, 28, 2], [22, 23, 24, 25, 26, 27, 28, 29, 30, 31, 32, 33, 34, 35, 36, 37, 12, 28, 13, 37], [12, 28]⟩, ⟨(some 12), (.assign (.tmp 28)), 3, none⟩),
 (⟨[13, 37, 2], [22, 23, 24, 25, 26, 27, 28, 29, 30, 31, 32, 33, 34, 35, 36, 37, 12, 28, 13, 37], [13, 37]⟩, ⟨(some 13), (.assign (.tmp 37)), 3, none⟩)])
 (.seq
 (.ops [
 ⟨(some 38), (.move (.tmp 12)), 3, none⟩,
 ⟨(some 39), (.binOp .lss 3 (.tmp 38) (.const (.int .i64 0)) 3), 4, none⟩,
 ⟨(some 40), (.move (.tmp 39)), 4, none⟩,
 ⟨(some 41), (.move (.tmp 13)), 3, (some (some 40, false))⟩,
 ⟨(some 42), (.binOp .lss 3 (.tmp 41) (.const (.int .i64 0)) 3), 4, (some (some 40, false))⟩,
 ⟨(some 43), (.pick (.tmp 40) (.const (.bool true)) (.tmp 42)), 4, none⟩,
 ⟨(some 44), (.move (.tmp 43)), 4, none⟩,
 ⟨(some 45), (.load 43 (.tmp 5)), 43, (some (some 44, false))⟩,
 ⟨(some 46), (.move (.tmp 12)), 3, (some (some 44, false))⟩,
 ⟨(some 47), (.move (.tmp 13)), 3, (some (some 44, false))⟩,
 ⟨(some 48), (.call ⟨(.value (.func 121)), #[(.tmp 45), (.tmp 46), (.tmp 47)], #[43, 3, 3]⟩), 4, (some (some 44, false))⟩,
 ⟨(some 49), (.pick (.tmp 44) (.const (.bool true)) (.tmp 48)), 4, none⟩,
 ⟨(some 10), (.assign (.tmp 49)), 4, none⟩])
 .ret)))
theorem slim90 : Try.f90.body.map (slim lends) = some k90 := by kernel_rfl
theorem ok90 : fnOk Try.f90 5 = true := by kernel_rfl
theorem c90 {a l : List D} {r : D × List D} (h : wpD Y.env k90 (fin tys l.length [ResultVar.tmp 10] r) (entry a l)) (ha : a.length = 5) : Y.call 90 a l = some r :=
  call_slim (Y := Y) rfl Try.func90 (ha ▸ ok90) slim90 h
theorem s_soPort_call (p_Labels : Int) (p_Degree : Int) (p_Nodes : List (List Int)) (p_Edges : List (List Int)) (n_Ends : List (List (Int × Int))) (n_Ids : List Int) (n_Inputs : List Int) (l : List (List Int)) (v_ : Int) (i : Int) {r : Bool} (h : s_soPort p_Labels p_Degree p_Nodes p_Edges n_Ends n_Ids n_Inputs l v_ i = some r) : Y.call 90 [D.agg [D.int .i64 p_Labels, D.int .i64 p_Degree, D.sl 23 (lst (fun x => D.sl 3 (lst (D.int .i64) x)) p_Nodes), D.sl 23 (lst (fun x => D.sl 3 (lst (D.int .i64) x)) p_Edges)], D.agg [D.sl 93 (lst (fun x => D.sl 95 (cat2 .i64 .i64 x)) n_Ends), D.sl 3 (lst (D.int .i64) n_Ids), D.sl 3 (lst (D.int .i64) n_Inputs)], D.sl 23 (lst (fun x => D.sl 3 (lst (D.int .i64) x)) l), D.int .i64 v_, D.int .i64 i] [] = some (D.bool r, []) := by
  refine c90 ?_ rfl
  unfold k90
  unfold s_soPort at h
  obtain ⟨e1, h⟩ := ckS h
  obtain ⟨e2, h⟩ := ckS h
  obtain ⟨e3, h⟩ := ckS h
  obtain ⟨e4, h⟩ := ckS h
  obtain ⟨e5, h⟩ := ckS h
  obtain ⟨e6, h⟩ := ckS h
  by_cases e7 : ((l.getD v_.toNat default).getD i.toNat default) < 0
  · rw [if_pos e7] at h
    obtain rfl := Option.some.inj h
    simp (maxDischargeDepth := 9) only [↓xpre, xpost, xlst, xc2, xcore, yset, ↓reduceIte, Nat.reduceEqDiff, Nat.reduceLT, Nat.reduceAdd, Nat.reduceBEq, e1.1, e1.2, e2.1, e2.2, e3.2, e4.2, e5.1, e5.2, e6.1, e6.2, e7] <;> (repeat' apply And.intro) <;> first | rfl | exact ⟨_, rfl⟩ | simp [lst, cat2_nil]
  · rw [if_neg e7] at h
    by_cases e8 : ((l.getD ((fstD (n_Ends.getD v_.toNat default) i.toNat).toNat) default).getD ((sndD (n_Ends.getD v_.toNat default) i.toNat).toNat) default) < 0
    · rw [if_pos e8] at h
      obtain rfl := Option.some.inj h
      simp (maxDischargeDepth := 9) only [↓xpre, xpost, xlst, xc2, xcore, yset, ↓reduceIte, Nat.reduceEqDiff, Nat.reduceLT, Nat.reduceAdd, Nat.reduceBEq, e1.1, e1.2, e2.1, e2.2, e3.2, e4.2, e5.1, e5.2, e6.1, e6.2, e7, e8] <;> (repeat' apply And.intro) <;> first | rfl | exact ⟨_, rfl⟩ | simp [lst, cat2_nil]
    · rw [if_neg e8] at h
      obtain ⟨e9, h⟩ := ckS h
      have c10 := s_prEdge_cl p_Labels p_Degree p_Nodes p_Edges ((l.getD v_.toNat default).getD i.toNat default) ((l.getD ((fstD (n_Ends.getD v_.toNat default) i.toNat).toNat) default).getD ((sndD (n_Ends.getD v_.toNat default) i.toNat).toNat) default) e9
      obtain rfl := Option.some.inj h
      simp (maxDischargeDepth := 9) only [↓xpre, xpost, xlst, xc2, xcore, yset, ↓reduceIte, Nat.reduceEqDiff, Nat.reduceLT, Nat.reduceAdd, Nat.reduceBEq, e1.1, e1.2, e2.1, e2.2, e3.2, e4.2, e5.1, e5.2, e6.1, e6.2, e7, e8, c10] <;> (repeat' apply And.intro) <;> first | rfl | exact ⟨_, rfl⟩ | simp [lst, cat2_nil]

noncomputable def s_soHolds_l0_S (p_Labels : Int) (p_Degree : Int) (p_Nodes : List (List Int)) (p_Edges : List (List Int)) (n_Ends : List (List (Int × Int))) (n_Ids : List Int) (n_Inputs : List Int) (l : List (List Int)) (t12_ : Int) (t23_ : Int) : Option ((Int) ⊕ (Unit ⊕ Unit)) :=
  if t23_ < ((l.getD t12_.toNat default).length : Int) then
    (s_soPort p_Labels p_Degree p_Nodes p_Edges n_Ends n_Ids n_Inputs l t12_ t23_).bind fun r6_ =>
    if r6_ = true then
      some (Sum.inl (IntKind.i64.wrap (t23_ + 1)))
    else
      some (Sum.inr (Sum.inl ()))
  else
    some (Sum.inr (Sum.inr ()))
noncomputable def s_soHolds_l0 (p_Labels : Int) (p_Degree : Int) (p_Nodes : List (List Int)) (p_Edges : List (List Int)) (n_Ends : List (List (Int × Int))) (n_Ids : List Int) (n_Inputs : List Int) (l : List (List Int)) (t12_ : Int) (v : Int) : Option (Unit ⊕ Unit) := itO (fun v => s_soHolds_l0_S p_Labels p_Degree p_Nodes p_Edges n_Ends n_Ids n_Inputs l t12_ v) v
noncomputable def s_soHolds_l1_S (p_Labels : Int) (p_Degree : Int) (p_Nodes : List (List Int)) (p_Edges : List (List Int)) (n_Ends : List (List (Int × Int))) (n_Ids : List Int) (n_Inputs : List Int) (l : List (List Int)) (t12_ : Int) : Option ((Int) ⊕ (Unit ⊕ Unit)) :=
  if t12_ < (l.length : Int) then
    ck (0 ≤ t12_ ∧ t12_.toNat < l.length) <|
    (s_soNode p_Labels p_Degree p_Nodes p_Edges (l.getD t12_.toNat default)).bind fun r3_ =>
    if r3_ = true then
      (s_soHolds_l0 p_Labels p_Degree p_Nodes p_Edges n_Ends n_Ids n_Inputs l t12_ 0).bind fun r6_ =>
      match r6_ with
      | .inl q6_ =>
        some (Sum.inr (Sum.inl ()))
      | .inr q6_ =>
        some (Sum.inl (IntKind.i64.wrap (t12_ + 1)))
    else
      some (Sum.inr (Sum.inl ()))
  else
    some (Sum.inr (Sum.inr ()))
noncomputable def s_soHolds_l1 (p_Labels : Int) (p_Degree : Int) (p_Nodes : List (List Int)) (p_Edges : List (List Int)) (n_Ends : List (List (Int × Int))) (n_Ids : List Int) (n_Inputs : List Int) (l : List (List Int)) (v : Int) : Option (Unit ⊕ Unit) := itO (fun v => s_soHolds_l1_S p_Labels p_Degree p_Nodes p_Edges n_Ends n_Ids n_Inputs l v) v
noncomputable def s_soHolds (p_Labels : Int) (p_Degree : Int) (p_Nodes : List (List Int)) (p_Edges : List (List Int)) (n_Ends : List (List (Int × Int))) (n_Ids : List Int) (n_Inputs : List Int) (l : List (List Int)) : Option (Bool) :=
  (s_soHolds_l1 p_Labels p_Degree p_Nodes p_Edges n_Ends n_Ids n_Inputs l 0).bind fun r2_ =>
  match r2_ with
  | .inl q2_ =>
    some false
  | .inr q2_ =>
    some true
/-- spec.soHolds -/
def k51_l0b : SC :=
 .seq
 (.ops [
 ⟨(some 24), (.binOp .lss 3 (.tmp 23) (.tmp 22) 3), 0, none⟩])
 (.seq
 (.cond (.tmp 24)
 .skip
 (.exit 2))
 (.seq
 (.block 3
 (.seq
 (.ops [
 ⟨(some 25), (.move (.tmp 23)), 3, none⟩,
 ⟨(some 9), (.assign (.tmp 25)), 3, none⟩])
 (.seq
 (.ops [
 ⟨(some 26), (.load 43 (.tmp 3)), 43, none⟩,
 ⟨(some 27), (.load 29 (.tmp 4)), 29, none⟩,
 ⟨(some 28), (.move (.tmp 2)), 36, none⟩,
 ⟨(some 29), (.move (.tmp 7)), 3, none⟩,
 ⟨(some 30), (.move (.tmp 9)), 3, none⟩,
 ⟨(some 31), (.call ⟨(.value (.func 90)), #[(.tmp 26), (.tmp 27), (.tmp 28), (.tmp 29), (.tmp 30)], #[43, 29, 36, 3, 3]⟩), 4, none⟩,
 ⟨(some 32), (.unOp .not 4 (.tmp 31)), 4, none⟩])
 (.cond (.tmp 32)
 (.seq
 (.ops [
 ⟨(some 6), (.assign (.const (.bool false))), 4, none⟩])
 .ret)
 .skip))))
 (.ops [
 ⟨(some 33), (.binOp .add 3 (.tmp 23) (.const (.int .i64 1)) 3), 3, none⟩,
 ⟨(some 23), (.move (.tmp 33)), 3, none⟩])))
def k51_l0 : SC := .loop k51_l0b
def k51_l1b : SC :=
 .seq
 (.ops [
 ⟨(some 13), (.binOp .lss 3 (.tmp 12) (.tmp 11) 3), 0, none⟩])
 (.seq
 (.cond (.tmp 13)
 .skip
 (.exit 0))
 (.seq
 (.block 1
 (.seq
 (.ops [
 ⟨(some 14), (.move (.tmp 12)), 3, none⟩,
 ⟨(some 15), (.indexAddr 36 (.tmp 10) (.tmp 12)), 0, none⟩,
 ⟨(some 16), (.load 23 (.tmp 15)), 23, none⟩,
 ⟨(some 7), (.assign (.tmp 14)), 3, none⟩,
 ⟨(some 8), (.assign (.tmp 16)), 23, none⟩])
 (.seq
 (.seq
 (.ops [
 ⟨(some 17), (.load 43 (.tmp 3)), 43, none⟩,
 ⟨(some 18), (.move (.tmp 8)), 23, none⟩,
 ⟨(some 19), (.call ⟨(.value (.func 89)), #[(.tmp 17), (.tmp 18)], #[43, 23]⟩), 4, none⟩,
 ⟨(some 20), (.unOp .not 4 (.tmp 19)), 4, none⟩])
 (.cond (.tmp 20)
 (.seq
 (.ops [
 ⟨(some 6), (.assign (.const (.bool false))), 4, none⟩])
 .ret)
 .skip))
 (.seq
 (.ops [
 ⟨(some 21), (.move (.tmp 8)), 23, none⟩,
 ⟨(some 22), (.call ⟨(.builtin .len), #[(.tmp 21)], #[23]⟩), 3, none⟩,
 ⟨(some 23), (.move (.const (.int .i64 0))), 3, none⟩])
 (.block 2
 k51_l0)))))
 (.ops [
 ⟨(some 34), (.binOp .add 3 (.tmp 12) (.const (.int .i64 1)) 3), 3, none⟩,
 ⟨(some 12), (.move (.tmp 34)), 3, none⟩])))
def k51_l1 : SC := .loop k51_l1b
def k51 : SC :=
 .seq
 (.ops [
 ⟨(some 3), (.box 43 (.tmp 0)), 0, none⟩,
 ⟨(some 4), (.box 29 (.tmp 1)), 0, none⟩,
 ⟨(some 6), (.assign (.const (.bool false))), 4, none⟩])
 (.seq
 (.seq
 (.ops [
 ⟨(some 10), (.move (.tmp 2)), 36, none⟩,
 ⟨(some 11), (.call ⟨(.builtin .len), #[(.tmp 10)], #[36]⟩), 3, none⟩,
 ⟨(some 12), (.move (.const (.int .i64 0))), 3, none⟩])
 (.block 0
 k51_l1))
 (.seq
 (.ops [
 ⟨(some 6), (.assign (.const (.bool true))), 4, none⟩])
 .ret))
theorem slim51 : Try.f51.body.map (slim lends) = some k51 := by kernel_rfl
theorem ok51 : fnOk Try.f51 3 = true := by kernel_rfl
theorem c51 {a l : List D} {r : D × List D} (h : wpD Y.env k51 (fin tys l.length [ResultVar.tmp 6] r) (entry a l)) (ha : a.length = 3) : Y.call 51 a l = some r :=
  call_slim (Y := Y) rfl Try.func51 (ha ▸ ok51) slim51 h
def s_soHolds_l0_M (p_Labels : Int) (p_Degree : Int) (p_Nodes : List (List Int)) (p_Edges : List (List Int)) (n_Ends : List (List (Int × Int))) (n_Ids : List Int) (n_Inputs : List Int) (l : List (List Int)) (t12_ : Int) (t23_ : Int) (s : St) : Prop := s.v 2 = D.sl 23 (lst (fun x => D.sl 3 (lst (D.int .i64) x)) l) ∧ s.v 3 = D.box [D.int .i64 p_Labels, D.int .i64 p_Degree, D.sl 23 (lst (fun x => D.sl 3 (lst (D.int .i64) x)) p_Nodes), D.sl 23 (lst (fun x => D.sl 3 (lst (D.int .i64) x)) p_Edges)] ∧ s.v 4 = D.box [D.sl 93 (lst (fun x => D.sl 95 (cat2 .i64 .i64 x)) n_Ends), D.sl 3 (lst (D.int .i64) n_Ids), D.sl 3 (lst (D.int .i64) n_Inputs)] ∧ s.v 7 = D.int .i64 t12_ ∧ s.v 10 = D.sl 23 (lst (fun x => D.sl 3 (lst (D.int .i64) x)) l) ∧ s.v 11 = D.int .i64 (l.length : Int) ∧ s.v 12 = D.int .i64 t12_ ∧ s.v 22 = D.int .i64 ((l.getD t12_.toNat default).length : Int) ∧ s.v 23 = D.int .i64 t23_
def s_soHolds_l0_X (p_Labels : Int) (p_Degree : Int) (p_Nodes : List (List Int)) (p_Edges : List (List Int)) (n_Ends : List (List (Int × Int))) (n_Ids : List Int) (n_Inputs : List Int) (l : List (List Int)) (t12_ : Int) (r : Unit ⊕ Unit) (ex : Ex) (s : St) : Prop := match r with
  | .inl q => ex = .ret ∧ s.v 6 = D.bool false
  | .inr q => ex = .exit 2 ∧ s.v 2 = D.sl 23 (lst (fun x => D.sl 3 (lst (D.int .i64) x)) l) ∧ s.v 3 = D.box [D.int .i64 p_Labels, D.int .i64 p_Degree, D.sl 23 (lst (fun x => D.sl 3 (lst (D.int .i64) x)) p_Nodes), D.sl 23 (lst (fun x => D.sl 3 (lst (D.int .i64) x)) p_Edges)] ∧ s.v 4 = D.box [D.sl 93 (lst (fun x => D.sl 95 (cat2 .i64 .i64 x)) n_Ends), D.sl 3 (lst (D.int .i64) n_Ids), D.sl 3 (lst (D.int .i64) n_Inputs)] ∧ s.v 10 = D.sl 23 (lst (fun x => D.sl 3 (lst (D.int .i64) x)) l) ∧ s.v 11 = D.int .i64 (l.length : Int) ∧ s.v 12 = D.int .i64 t12_
theorem s_soHolds_l0_wp (p_Labels : Int) (p_Degree : Int) (p_Nodes : List (List Int)) (p_Edges : List (List Int)) (n_Ends : List (List (Int × Int))) (n_Ids : List Int) (n_Inputs : List Int) (l : List (List Int)) (t12_ : Int) {v : Int} {s : St} {r : Unit ⊕ Unit} (h : s_soHolds_l0 p_Labels p_Degree p_Nodes p_Edges n_Ends n_Ids n_Inputs l t12_ v = some r) (hM : s_soHolds_l0_M p_Labels p_Degree p_Nodes p_Edges n_Ends n_Ids n_Inputs l t12_ v s) : wpD Y.env k51_l0 (s_soHolds_l0_X p_Labels p_Degree p_Nodes p_Edges n_Ends n_Ids n_Inputs l t12_ r) s := by
  unfold s_soHolds_l0 at h
  refine wd_itO (c := k51_l0b) (fun v => s_soHolds_l0_S p_Labels p_Degree p_Nodes p_Edges n_Ends n_Ids n_Inputs l t12_ v) (fun v s => s_soHolds_l0_M p_Labels p_Degree p_Nodes p_Edges n_Ends n_Ids n_Inputs l t12_ v s) (s_soHolds_l0_X p_Labels p_Degree p_Nodes p_Edges n_Ends n_Ids n_Inputs l t12_) ?_ h hM
  clear h hM s v r
  intro t23_ s o hM h
  unfold s_soHolds_l0_S at h
  unfold s_soHolds_l0_M at hM
  obtain ⟨m0, m1, m2, m3, m4, m5, m6, m7, m8⟩ := hM
  unfold k51_l0b
  by_cases e5 : t23_ < ((l.getD t12_.toNat default).length : Int)
  · rw [if_pos e5] at h
    obtain ⟨r6_, hl6, h⟩ := bindS h
    try dsimp only at h
    have c6 := s_soPort_call p_Labels p_Degree p_Nodes p_Edges n_Ends n_Ids n_Inputs l t12_ t23_ hl6
    by_cases e7 : r6_ = true
    · rw [if_pos e7] at h
      obtain rfl := Option.some.inj h
      simp (maxDischargeDepth := 9) only [↓xpre, xpost, xcore, yset, ↓reduceIte, Nat.reduceEqDiff, Nat.reduceAdd, m0, m1, m2, m3, m4, m5, m6, m7, m8, e5, c6, e7, s_soHolds_l0_M, sxN] <;> (repeat' apply And.intro) <;> first | rfl | exact ⟨_, rfl⟩ | simp [lst, cat2_nil]
    · rw [if_neg e7] at h
      have e7f : r6_ = false := Bool.eq_false_iff.mpr e7
      obtain rfl := Option.some.inj h
      simp (maxDischargeDepth := 9) only [↓xpre, xpost, xcore, yset, ↓reduceIte, Nat.reduceEqDiff, Nat.reduceAdd, m0, m1, m2, m3, m7, m8, e5, c6, e7f, s_soHolds_l0_M, s_soHolds_l0_X, sxR] <;> (repeat' apply And.intro) <;> first | rfl | exact ⟨_, rfl⟩ | simp [lst, cat2_nil]
  · rw [if_neg e5] at h
    obtain rfl := Option.some.inj h
    simp (maxDischargeDepth := 9) only [↓xpre, xpost, yset, ↓reduceIte, Nat.reduceEqDiff, m0, m1, m2, m4, m5, m6, m7, m8, e5, s_soHolds_l0_M, s_soHolds_l0_X, sxE] <;> (repeat' apply And.intro) <;> first | rfl | exact ⟨_, rfl⟩ | simp [lst, cat2_nil]
def s_soHolds_l1_M (p_Labels : Int) (p_Degree : Int) (p_Nodes : List (List Int)) (p_Edges : List (List Int)) (n_Ends : List (List (Int × Int))) (n_Ids : List Int) (n_Inputs : List Int) (l : List (List Int)) (t12_ : Int) (s : St) : Prop := s.v 2 = D.sl 23 (lst (fun x => D.sl 3 (lst (D.int .i64) x)) l) ∧ s.v 3 = D.box [D.int .i64 p_Labels, D.int .i64 p_Degree, D.sl 23 (lst (fun x => D.sl 3 (lst (D.int .i64) x)) p_Nodes), D.sl 23 (lst (fun x => D.sl 3 (lst (D.int .i64) x)) p_Edges)] ∧ s.v 4 = D.box [D.sl 93 (lst (fun x => D.sl 95 (cat2 .i64 .i64 x)) n_Ends), D.sl 3 (lst (D.int .i64) n_Ids), D.sl 3 (lst (D.int .i64) n_Inputs)] ∧ s.v 10 = D.sl 23 (lst (fun x => D.sl 3 (lst (D.int .i64) x)) l) ∧ s.v 11 = D.int .i64 (l.length : Int) ∧ s.v 12 = D.int .i64 t12_
def s_soHolds_l1_X (p_Labels : Int) (p_Degree : Int) (p_Nodes : List (List Int)) (p_Edges : List (List Int)) (n_Ends : List (List (Int × Int))) (n_Ids : List Int) (n_Inputs : List Int) (l : List (List Int)) (r : Unit ⊕ Unit) (ex : Ex) (s : St) : Prop := match r with
  | .inl q => ex = .ret ∧ s.v 6 = D.bool false
  | .inr q => ex = .exit 0
theorem s_soHolds_l1_wp (p_Labels : Int) (p_Degree : Int) (p_Nodes : List (List Int)) (p_Edges : List (List Int)) (n_Ends : List (List (Int × Int))) (n_Ids : List Int) (n_Inputs : List Int) (l : List (List Int)) {v : Int} {s : St} {r : Unit ⊕ Unit} (h : s_soHolds_l1 p_Labels p_Degree p_Nodes p_Edges n_Ends n_Ids n_Inputs l v = some r) (hM : s_soHolds_l1_M p_Labels p_Degree p_Nodes p_Edges n_Ends n_Ids n_Inputs l v s) : wpD Y.env k51_l1 (s_soHolds_l1_X p_Labels p_Degree p_Nodes p_Edges n_Ends n_Ids n_Inputs l r) s := by
  unfold s_soHolds_l1 at h
  refine wd_itO (c := k51_l1b) (fun v => s_soHolds_l1_S p_Labels p_Degree p_Nodes p_Edges n_Ends n_Ids n_Inputs l v) (fun v s => s_soHolds_l1_M p_Labels p_Degree p_Nodes p_Edges n_Ends n_Ids n_Inputs l v s) (s_soHolds_l1_X p_Labels p_Degree p_Nodes p_Edges n_Ends n_Ids n_Inputs l) ?_ h hM
  clear h hM s v r
  intro t12_ s o hM h
  unfold s_soHolds_l1_S at h
  unfold s_soHolds_l1_M at hM
  obtain ⟨m0, m1, m2, m3, m4, m5⟩ := hM
  unfold k51_l1b
  by_cases e1 : t12_ < (l.length : Int)
  · rw [if_pos e1] at h
    obtain ⟨e2, h⟩ := ckS h
    obtain ⟨r3_, hl3, h⟩ := bindS h
    try dsimp only at h
    have c3 := s_soNode_call p_Labels p_Degree p_Nodes p_Edges (l.getD t12_.toNat default) hl3
    by_cases e4 : r3_ = true
    · rw [if_pos e4] at h
      obtain ⟨r6_, hl6, h⟩ := bindS h
      try dsimp only at h
      simp (maxDischargeDepth := 9) only [↓xpre, xpost, xlst, xcore, yset, ↓reduceIte, Nat.reduceEqDiff, Nat.reduceAdd, m1, m3, m4, m5, e1, e2.1, e2.2, c3, e4]
      refine wd_mono (s_soHolds_l0_wp p_Labels p_Degree p_Nodes p_Edges n_Ends n_Ids n_Inputs l t12_ hl6 ?_) ?_
      · simp (maxDischargeDepth := 9) only [xpost, ↓reduceIte, Nat.reduceEqDiff, m0, m1, m2, m3, m4, m5, s_soHolds_l0_M] <;> (repeat' apply And.intro) <;> first | rfl | exact ⟨_, rfl⟩ | simp [lst, cat2_nil]
      · intro ex6 s6 hX6
        rcases r6_ with q6_ | q6_
        · unfold s_soHolds_l0_X at hX6
          dsimp only at hX6 h
          obtain ⟨rfl, n6_0⟩ := hX6
          obtain rfl := Option.some.inj h
          simp (maxDischargeDepth := 9) only [↓xpre, xpost, n6_0, s_soHolds_l1_M, s_soHolds_l1_X, sxR] <;> (repeat' apply And.intro) <;> first | rfl | exact ⟨_, rfl⟩ | simp [lst, cat2_nil]
        · unfold s_soHolds_l0_X at hX6
          dsimp only at hX6 h
          obtain ⟨rfl, n6_0, n6_1, n6_2, n6_3, n6_4, n6_5⟩ := hX6
          obtain rfl := Option.some.inj h
          simp (maxDischargeDepth := 9) only [↓xpre, xpost, yset, ↓reduceIte, Nat.reduceEqDiff, n6_0, n6_1, n6_2, n6_3, n6_4, n6_5, s_soHolds_l1_M, sxN] <;> (repeat' apply And.intro) <;> first | rfl | exact ⟨_, rfl⟩ | simp [lst, cat2_nil]
    · rw [if_neg e4] at h
      have e4f : r3_ = false := Bool.eq_false_iff.mpr e4
      obtain rfl := Option.some.inj h
      simp (maxDischargeDepth := 9) only [↓xpre, xpost, xlst, xcore, yset, ↓reduceIte, Nat.reduceEqDiff, Nat.reduceAdd, m1, m3, m4, m5, e1, e2.1, e2.2, c3, e4f, s_soHolds_l1_M, s_soHolds_l1_X, sxR] <;> (repeat' apply And.intro) <;> first | rfl | exact ⟨_, rfl⟩ | simp [lst, cat2_nil]
  · rw [if_neg e1] at h
    obtain rfl := Option.some.inj h
    simp (maxDischargeDepth := 9) only [↓xpre, xpost, yset, ↓reduceIte, m4, m5, e1, s_soHolds_l1_M, s_soHolds_l1_X, sxE] <;> (repeat' apply And.intro) <;> first | rfl | exact ⟨_, rfl⟩ | simp [lst, cat2_nil]
theorem s_soHolds_call (p_Labels : Int) (p_Degree : Int) (p_Nodes : List (List Int)) (p_Edges : List (List Int)) (n_Ends : List (List (Int × Int))) (n_Ids : List Int) (n_Inputs : List Int) (l : List (List Int)) {r : Bool} (h : s_soHolds p_Labels p_Degree p_Nodes p_Edges n_Ends n_Ids n_Inputs l = some r) : Y.call 51 [D.agg [D.int .i64 p_Labels, D.int .i64 p_Degree, D.sl 23 (lst (fun x => D.sl 3 (lst (D.int .i64) x)) p_Nodes), D.sl 23 (lst (fun x => D.sl 3 (lst (D.int .i64) x)) p_Edges)], D.agg [D.sl 93 (lst (fun x => D.sl 95 (cat2 .i64 .i64 x)) n_Ends), D.sl 3 (lst (D.int .i64) n_Ids), D.sl 3 (lst (D.int .i64) n_Inputs)], D.sl 23 (lst (fun x => D.sl 3 (lst (D.int .i64) x)) l)] [] = some (D.bool r, []) := by
  refine c51 ?_ rfl
  unfold k51
  unfold s_soHolds at h
  obtain ⟨r2_, hl2, h⟩ := bindS h
  try dsimp only at h
  simp (maxDischargeDepth := 9) only [↓xpre, xpost, xlst, xcore, yset, ↓reduceIte, Nat.reduceEqDiff, Nat.reduceLT]
  refine wd_mono (s_soHolds_l1_wp p_Labels p_Degree p_Nodes p_Edges n_Ends n_Ids n_Inputs l hl2 ?_) ?_
  · simp (maxDischargeDepth := 9) only [xpost, xcore, ↓reduceIte, Nat.reduceEqDiff, Nat.reduceLT, s_soHolds_l1_M] <;> (repeat' apply And.intro) <;> first | rfl | exact ⟨_, rfl⟩ | simp [lst, cat2_nil]
  · intro ex2 s2 hX2
    rcases r2_ with q2_ | q2_
    · unfold s_soHolds_l1_X at hX2
      dsimp only at hX2 h
      obtain ⟨rfl, n2_0⟩ := hX2
      obtain rfl := Option.some.inj h
      simp (maxDischargeDepth := 9) only [↓xpre, xpost, xcore, ↓reduceIte, n2_0] <;> (repeat' apply And.intro) <;> first | rfl | exact ⟨_, rfl⟩ | simp [lst, cat2_nil]
    · unfold s_soHolds_l1_X at hX2
      dsimp only at hX2 h
      obtain rfl := hX2
      obtain rfl := Option.some.inj h
      simp (maxDischargeDepth := 9) only [↓xpre, xpost, xcore, yset, ↓reduceIte] <;> (repeat' apply And.intro) <;> first | rfl | exact ⟨_, rfl⟩ | simp [lst, cat2_nil]

noncomputable def s_IsPartial (p_Labels : Int) (p_Degree : Int) (p_Nodes : List (List Int)) (p_Edges : List (List Int)) (n_Ends : List (List (Int × Int))) (n_Ids : List Int) (n_Inputs : List Int) (l : List (List Int)) : Option (Bool × Bool) :=
  (s_soPartial p_Labels p_Degree p_Nodes p_Edges n_Ends n_Ids n_Inputs l).bind fun r1_ =>
  if r1_ = true then
    (s_soHolds p_Labels p_Degree p_Nodes p_Edges n_Ends n_Ids n_Inputs l).bind fun r3_ =>
    some (r3_, true)
  else
    some (false, false)
/-- spec.IsPartial -/
def k17 : SC :=
 .seq
 (.ops [
 ⟨(some 3), (.box 43 (.tmp 0)), 0, none⟩,
 ⟨(some 4), (.box 29 (.tmp 1)), 0, none⟩,
 ⟨(some 6), (.assign (.const (.bool false))), 4, none⟩,
 ⟨(some 7), (.assign (.const (.bool false))), 4, none⟩])
 (.seq
 (.seq
 (.ops [
 ⟨(some 8), (.load 43 (.tmp 3)), 43, none⟩,
 ⟨(some 9), (.load 29 (.tmp 4)), 29, none⟩,
 ⟨(some 10), (.move (.tmp 2)), 36, none⟩,
 ⟨(some 11), (.call ⟨(.value (.func 50)), #[(.tmp 8), (.tmp 9), (.tmp 10)], #[43, 29, 36]⟩), 4, none⟩,
 ⟨(some 12), (.unOp .not 4 (.tmp 11)), 4, none⟩])
 (.cond (.tmp 12)
 (.seq
 (.ops [
 ⟨(some 6), (.assign (.const (.bool false))), 4, none⟩,
 ⟨(some 7), (.assign (.const (.bool false))), 4, none⟩])
 .ret)
 .skip))
 (.seq
 (.ops [
 ⟨(some 13), (.load 43 (.tmp 3)), 43, none⟩,
 ⟨(some 14), (.load 29 (.tmp 4)), 29, none⟩,
 ⟨(some 15), (.move (.tmp 2)), 36, none⟩,
 ⟨(some 16), (.call ⟨(.value (.func 51)), #[(.tmp 13), (.tmp 14), (.tmp 15)], #[43, 29, 36]⟩), 4, none⟩,
 ⟨(some 6), (.assign (.tmp 16)), 4, none⟩,
 ⟨(some 7), (.assign (.const (.bool true))), 4, none⟩])
 .ret))
theorem slim17 : Try.f17.body.map (slim lends) = some k17 := by kernel_rfl
theorem ok17 : fnOk Try.f17 3 = true := by kernel_rfl
theorem c17 {a l : List D} {r : D × List D} (h : wpD Y.env k17 (fin tys l.length [ResultVar.tmp 6, ResultVar.tmp 7] r) (entry a l)) (ha : a.length = 3) : Y.call 17 a l = some r :=
  call_slim (Y := Y) rfl Try.func17 (ha ▸ ok17) slim17 h
theorem s_IsPartial_call (p_Labels : Int) (p_Degree : Int) (p_Nodes : List (List Int)) (p_Edges : List (List Int)) (n_Ends : List (List (Int × Int))) (n_Ids : List Int) (n_Inputs : List Int) (l : List (List Int)) {r : Bool × Bool} (h : s_IsPartial p_Labels p_Degree p_Nodes p_Edges n_Ends n_Ids n_Inputs l = some r) : Y.call 17 [D.agg [D.int .i64 p_Labels, D.int .i64 p_Degree, D.sl 23 (lst (fun x => D.sl 3 (lst (D.int .i64) x)) p_Nodes), D.sl 23 (lst (fun x => D.sl 3 (lst (D.int .i64) x)) p_Edges)], D.agg [D.sl 93 (lst (fun x => D.sl 95 (cat2 .i64 .i64 x)) n_Ends), D.sl 3 (lst (D.int .i64) n_Ids), D.sl 3 (lst (D.int .i64) n_Inputs)], D.sl 23 (lst (fun x => D.sl 3 (lst (D.int .i64) x)) l)] [] = some (D.tup [D.bool r.1, D.bool r.2], []) := by
  refine c17 ?_ rfl
  unfold k17
  unfold s_IsPartial at h
  obtain ⟨r1_, hl1, h⟩ := bindS h
  try dsimp only at h
  have c1 := s_soPartial_call p_Labels p_Degree p_Nodes p_Edges n_Ends n_Ids n_Inputs l hl1
  by_cases e2 : r1_ = true
  · rw [if_pos e2] at h
    obtain ⟨r3_, hl3, h⟩ := bindS h
    try dsimp only at h
    have c3 := s_soHolds_call p_Labels p_Degree p_Nodes p_Edges n_Ends n_Ids n_Inputs l hl3
    obtain rfl := Option.some.inj h
    simp (maxDischargeDepth := 9) only [↓xpre, xpost, xcore, yset, ↓reduceIte, Nat.reduceEqDiff, Nat.reduceLT, Nat.reduceAdd, c1, e2, c3] <;> (repeat' apply And.intro) <;> first | rfl | exact ⟨_, rfl⟩ | simp [lst, cat2_nil]
  · rw [if_neg e2] at h
    have e2f : r1_ = false := Bool.eq_false_iff.mpr e2
    obtain rfl := Option.some.inj h
    simp (maxDischargeDepth := 9) only [↓xpre, xpost, xcore, yset, ↓reduceIte, Nat.reduceEqDiff, Nat.reduceLT, Nat.reduceAdd, c1, e2f] <;> (repeat' apply And.intro) <;> first | rfl | exact ⟨_, rfl⟩ | simp [lst, cat2_nil]


end Go.Proofs.Ytjkgcfdcfjkkbaa
