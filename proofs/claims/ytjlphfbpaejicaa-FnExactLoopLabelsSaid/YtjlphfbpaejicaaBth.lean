/- What two problems have in common, as plain functions; restriction and meet; their laws. Conditions: none. -/
import Derived.Test.YtjlphfbpaejicaaL6
import Derived.Test.YtjlphfbpaejicaaHas
namespace Go.Proofs.Ytjlphfbpaejicaa
open Go Dv
set_option linter.unusedSimpArgs false
set_option linter.unusedVariables false
set_option maxRecDepth 100000
set_option maxHeartbeats 4000000

theorem isProb_cut {a d : Int} {ns es : List (List Int)} (h : isProb a d ns es = true) : (1 ≤ a ∧ a ≤ 8) ∧ (1 ≤ d ∧ d ≤ 4) ∧ confs ns d a = true ∧ confs es 2 a = true := by
  simp only [isProb, Bool.and_eq_true] at h
  exact ⟨inR_iff.1 h.1.1.1, inR_iff.1 h.1.1.2, h.1.2, h.2⟩
theorem confs_at {l : List (List Int)} {s n : Int} (h : confs l s n = true) {x : List Int} (hx : x ∈ l) : (x.length : Int) = s ∧ sortedB x = true ∧ allIn x 0 (n - 1) = true := by
  obtain ⟨i, hi, rfl⟩ := mem_getD.1 hx
  have := range_all.1 h i hi
  unfold confAt at this
  simp only [Bool.and_eq_true, decide_eq_true_eq] at this
  exact ⟨this.1.1.1, this.1.1.2, this.1.2⟩
theorem sortedB_pair : ∀ {l : List Int}, sortedB l = true → l.Pairwise (fun a b => a ≤ b) := by
  intro l
  induction l with
  | nil => intro _; exact List.Pairwise.nil
  | cons x l ih =>
    intro h
    have h0 := range_all.1 h
    have ht : sortedB l = true := by
      refine range_all.2 fun i hi => ?_
      have := h0 (i + 1) (by simp only [List.length_cons]; omega)
      simpa using this
    have hp := ih ht
    refine List.pairwise_cons.2 ⟨fun y hy => ?_, hp⟩
    cases l with
    | nil => cases hy
    | cons z l =>
      have hz : x ≤ z := by
        have := h0 0 (by simp)
        simpa using this
      rcases List.mem_cons.1 hy with rfl | hy
      · exact hz
      · have := (List.pairwise_cons.1 hp).1 y hy; omega
theorem sortI_same {l : List Int} (h : sortedB l = true) : sortI l = l :=
  List.Perm.eq_of_pairwise (le := fun a b : Int => a ≤ b) (fun a b _ _ h1 h2 => Int.le_antisymm h1 h2) (sortI_pair l) (sortedB_pair h) (sortI_perm l)
/-- The lists of l that are in m. -/
def bothL (l m : List (List Int)) : List (List Int) := l.filter fun x => m.contains x
theorem itO_filter (f : List (List Int) × Int → Option ((List (List Int) × Int) ⊕ List (List Int))) (l : List (List Int)) (p : List Int → Bool)
    (h : ∀ (i : Nat) (hi : i < l.length) (out : List (List Int)), out.length ≤ i → f (out, (i : Int)) = some (.inl (if p l[i] then out ++ [l[i]] else out, ((i + 1 : Nat) : Int))))
    (e : ∀ out, f (out, (l.length : Int)) = some (.inr out)) : itO f ([], 0) = some (l.filter p) := by
  have key := itO_for f (fun i => ((l.take i).filter p, (i : Int))) l.length (l.filter p) ?_ ?_
  · simpa using key
  · intro i hi
    have hle : ((l.take i).filter p).length ≤ i := Nat.le_trans (List.length_filter_le _ _) (by simp; omega)
    rw [h i hi _ hle, List.take_succ_eq_append_getElem hi, List.filter_append]
    by_cases hp : p l[i] = true
    · simp [hp]
    · simp [hp]
  · simp only [List.take_length]
    exact e _
theorem g_slices_Clone_Sint_int_cl (xs : List Int) (h : xs.length < 1099511627776) : Y.call 67 [.sl 3 (lst (D.int .i64) xs)] [] = some (.own 3 (lst (D.int .i64) xs), []) := by
  refine clone_67 (lst (D.int .i64) xs) (by rw [lst_length]; exact h) (lst_solid _ _ (fun x => rfl)) (lst_hasObj _ _ (fun x => by first | exact hoI .. | exact hoSl .. | exact hoB .. | exact hoS ..)) ?_
  simp (maxDischargeDepth := 9) only [↓xpre, xpost, xlst, xcore, yset, rg0, ↓reduceIte, Nat.reduceEqDiff, Nat.reduceLT, Nat.reduceLeDiff, Nat.reduceAdd, Nat.reduceMul, Nat.reduceMod, Nat.reduceSub, Nat.reduceBEq, Int.reduceLE, Int.reduceLT, Int.reduceEq, Int.reduceSub, Int.reduceAdd, Int.reduceToNat, Int.reduceNeg, Option.isSome_some]

noncomputable def i_common_l0_S (a : List (List Int)) (b : List (List Int)) (out : List (List Int)) (t10_ : Int) : Option (((List (List Int)) × Int) ⊕ ((List (List Int)))) :=
  if t10_ < (a.length : Int) then
    ck (0 ≤ t10_ ∧ t10_.toNat < a.length) <|
    ck (Short b) <|
    ck ((a.getD t10_.toNat default).length < 1099511627776) <|
    ck (incL b = true) <|
    if (b.contains (sortI (a.getD t10_.toNat default))) = true then
      ck (out.length + 1 < 1099511627776) <|
      some (Sum.inl ((out ++ [(a.getD t10_.toNat default)]), IntKind.i64.wrap (t10_ + 1)))
    else
      some (Sum.inl (out, IntKind.i64.wrap (t10_ + 1)))
  else
    some (Sum.inr out)
noncomputable def i_common_l0 (a : List (List Int)) (b : List (List Int)) (v : (List (List Int)) × Int) : Option ((List (List Int))) := itO (fun v => i_common_l0_S a b v.1 v.2) v
noncomputable def i_common (a : List (List Int)) (b : List (List Int)) : Option ((List (List Int))) :=
  (i_common_l0 a b ([], 0)).bind fun r2_ =>
  some r2_
/-- impl.common -/
def k55_l0b : SC :=
  .seq
    (.ops [
      ⟨(some 11), (Op.binOp BinOp.lss 3 (Operand.tmp 10) (Operand.tmp 9) 3), 0, none⟩])
    (.seq
      (.cond (Operand.tmp 11)
        .skip
        (.exit 0))
      (.seq
        (.block 1
          (.seq
            (.ops [
              ⟨(some 12), (Op.indexAddr 22 (Operand.tmp 8) (Operand.tmp 10)), 0, none⟩,
              ⟨(some 13), (Op.load 32 (Operand.tmp 12)), 32, none⟩,
              ⟨(some 7), (Op.assign (Operand.tmp 13)), 32, none⟩])
            (.seq
              (.ops [
                ⟨(some 14), (Op.move (Operand.tmp 1)), 22, none⟩,
                ⟨(some 15), (Op.move (Operand.tmp 7)), 32, none⟩,
                ⟨(some 16), (Op.call { callee := (Callee.value (Operand.func 81)), args := #[(Operand.tmp 14), (Operand.tmp 15)], argTypes := #[22, 32] }), 4, none⟩])
              (.cond (Operand.tmp 16)
                (.ops [
                  ⟨(some 17), (Op.move (Operand.tmp 5)), 22, none⟩,
                  ⟨(some 18), (Op.move (Operand.tmp 7)), 32, none⟩,
                  ⟨(some 19), (Op.call { callee := (Callee.value (Operand.func 67)), args := #[(Operand.tmp 18)], argTypes := #[32] }), 32, none⟩,
                  ⟨(some 20), (Op.buildSlice 22 1 #[(0, (Operand.tmp 19))]), 22, none⟩,
                  ⟨(some 21), (Op.call { callee := (Callee.builtin Builtin.append), args := #[(Operand.tmp 17), (Operand.tmp 20)], argTypes := #[22, 22] }), 22, none⟩,
                  ⟨(some 5), (Op.assign (Operand.tmp 21)), 22, none⟩])
                .skip))))
        (.ops [
          ⟨(some 22), (Op.binOp BinOp.add 3 (Operand.tmp 10) (Operand.const (Value.int IntKind.i64 1)) 3), 3, none⟩,
          ⟨(some 10), (Op.move (Operand.tmp 22)), 3, none⟩])))
def k55_l0 : SC := .loop k55_l0b
def k55 : SC :=
  .seq
    (.ops [
      ⟨(some 4), (Op.assign (Operand.const (Value.slice none 0 0))), 22, none⟩])
    (.seq
      (.ops [
        ⟨(some 5), (Op.assign (Operand.const (Value.slice none 0 0))), 22, none⟩])
      (.seq
        (.seq
          (.ops [
            ⟨(some 8), (Op.move (Operand.tmp 0)), 22, none⟩,
            ⟨(some 9), (Op.call { callee := (Callee.builtin Builtin.len), args := #[(Operand.tmp 8)], argTypes := #[22] }), 3, none⟩,
            ⟨(some 10), (Op.move (Operand.const (Value.int IntKind.i64 0))), 3, none⟩])
          (.block 0
            k55_l0))
        (.seq
          (.ops [
            ⟨(some 23), (Op.move (Operand.tmp 5)), 22, none⟩,
            ⟨(some 4), (Op.assign (Operand.tmp 23)), 22, none⟩])
          .ret)))
theorem slim55 : Try.f55.body.map (slim lends) = some k55 := by kernel_rfl
theorem ok55 : fnOk Try.f55 2 = true := by kernel_rfl
theorem c55 {a l : List D} {r : D × List D} (h : wpD Y.env k55 (fin tys l.length [ResultVar.tmp 4] r) (entry a l)) (ha : a.length = 2) : Y.call 55 a l = some r :=
  call_slim (Y := Y) rfl Try.func55 (ha ▸ ok55) slim55 h
def i_common_l0_M (a : List (List Int)) (b : List (List Int)) (out : List (List Int)) (t10_ : Int) (s : St) : Prop := s.v 1 = D.sl 32 (lst (fun x => D.sl 3 (lst (D.int .i64) x)) b) ∧ s.v 5 = D.own 32 (lst (fun x => D.own 3 (lst (D.int .i64) x)) out) ∧ s.v 8 = D.sl 32 (lst (fun x => D.sl 3 (lst (D.int .i64) x)) a) ∧ s.v 9 = D.int .i64 (a.length : Int) ∧ s.v 10 = D.int .i64 t10_
def i_common_l0_X (a : List (List Int)) (b : List (List Int)) (r : (List (List Int))) (ex : Ex) (s : St) : Prop := ex = .exit 0 ∧ s.v 5 = D.own 32 (lst (fun x => D.own 3 (lst (D.int .i64) x)) r)
theorem i_common_l0_wp (a : List (List Int)) (b : List (List Int)) {v : (List (List Int)) × Int} {s : St} {r : (List (List Int))} (h : i_common_l0 a b v = some r) (hM : i_common_l0_M a b v.1 v.2 s) : wpD Y.env k55_l0 (i_common_l0_X a b r) s := by
  unfold i_common_l0 at h
  refine wd_itO (c := k55_l0b) (fun v => i_common_l0_S a b v.1 v.2) (fun v s => i_common_l0_M a b v.1 v.2 s) (i_common_l0_X a b) ?_ h hM
  clear h hM s v r
  intro v s o hM h
  obtain ⟨out, t10_⟩ := v
  dsimp only at h hM
  unfold i_common_l0_S at h
  unfold i_common_l0_M at hM
  obtain ⟨m0, m1, m2, m3, m4⟩ := hM
  unfold k55_l0b
  by_cases e1 : t10_ < (a.length : Int)
  · rw [if_pos e1] at h
    obtain ⟨e2, h⟩ := ckS h
    obtain ⟨e3, h⟩ := ckS h
    obtain ⟨e4, h⟩ := ckS h
    obtain ⟨e5, h⟩ := ckS h
    have c6 := i_hasConfiguration_cl b (a.getD t10_.toNat default) e3 e4 e5
    by_cases e7 : (b.contains (sortI (a.getD t10_.toNat default))) = true
    · rw [if_pos e7] at h
      have c8 := g_slices_Clone_Sint_int_cl (a.getD t10_.toNat default) e4
      obtain ⟨e9, h⟩ := ckS h
      obtain rfl := Option.some.inj h
      simp (maxDischargeDepth := 9) only [↓xpre, xpost, xlst, xcore, yset, rg0, ↓reduceIte, Nat.reduceEqDiff, Nat.reduceLT, Nat.reduceLeDiff, Nat.reduceAdd, Nat.reduceMul, Nat.reduceMod, Nat.reduceSub, Nat.reduceBEq, Int.reduceLE, Int.reduceLT, Int.reduceEq, Int.reduceSub, Int.reduceAdd, Int.reduceToNat, Int.reduceNeg, m0, m1, m2, m3, m4, e1, e2.1, e2.2, e3, e4, e5, c6, e7, c8, e9, i_common_l0_M, i_common_l0_X, sxN, sxE, sxR] <;> (repeat' apply And.intro) <;> first | rfl | exact ⟨_, rfl⟩ | simp [lst]
    · rw [if_neg e7] at h
      have e7f : (b.contains (sortI (a.getD t10_.toNat default))) = false := Bool.eq_false_iff.mpr e7
      obtain rfl := Option.some.inj h
      simp (maxDischargeDepth := 9) only [↓xpre, xpost, xlst, xcore, yset, rg0, ↓reduceIte, Nat.reduceEqDiff, Nat.reduceLT, Nat.reduceLeDiff, Nat.reduceAdd, Nat.reduceMul, Nat.reduceMod, Nat.reduceSub, Nat.reduceBEq, Int.reduceLE, Int.reduceLT, Int.reduceEq, Int.reduceSub, Int.reduceAdd, Int.reduceToNat, Int.reduceNeg, m0, m1, m2, m3, m4, e1, e2.1, e2.2, e3, e4, e5, c6, e7f, i_common_l0_M, i_common_l0_X, sxN, sxE, sxR] <;> (repeat' apply And.intro) <;> first | rfl | exact ⟨_, rfl⟩ | simp [lst]
  · rw [if_neg e1] at h
    obtain rfl := Option.some.inj h
    simp (maxDischargeDepth := 9) only [↓xpre, xpost, xlst, xcore, yset, rg0, ↓reduceIte, Nat.reduceEqDiff, Nat.reduceLT, Nat.reduceLeDiff, Nat.reduceAdd, Nat.reduceMul, Nat.reduceMod, Nat.reduceSub, Nat.reduceBEq, Int.reduceLE, Int.reduceLT, Int.reduceEq, Int.reduceSub, Int.reduceAdd, Int.reduceToNat, Int.reduceNeg, m0, m1, m2, m3, m4, e1, i_common_l0_M, i_common_l0_X, sxN, sxE, sxR] <;> (repeat' apply And.intro) <;> first | rfl | exact ⟨_, rfl⟩ | simp [lst]
theorem i_common_call (a : List (List Int)) (b : List (List Int)) {r : (List (List Int))} (h : i_common a b = some r) : Y.call 55 [D.sl 32 (lst (fun x => D.sl 3 (lst (D.int .i64) x)) a), D.sl 32 (lst (fun x => D.sl 3 (lst (D.int .i64) x)) b)] [] = some (D.own 32 (lst (fun x => D.own 3 (lst (D.int .i64) x)) r), []) := by
  refine c55 ?_ rfl
  unfold k55
  unfold i_common at h
  obtain ⟨r2_, hl2, h⟩ := bindS h
  try dsimp only at h
  simp (maxDischargeDepth := 9) only [↓xpre, xpost, xlst, xcore, yset, rg0, ↓reduceIte, Nat.reduceEqDiff, Nat.reduceLT, Nat.reduceLeDiff, Nat.reduceAdd, Nat.reduceMul, Nat.reduceMod, Nat.reduceSub, Nat.reduceBEq, Int.reduceLE, Int.reduceLT, Int.reduceEq, Int.reduceSub, Int.reduceAdd, Int.reduceToNat, Int.reduceNeg]
  refine wd_mono (i_common_l0_wp a b hl2 ?_) ?_
  · simp (maxDischargeDepth := 9) only [↓xpre, xpost, xlst, xcore, yset, rg0, ↓reduceIte, Nat.reduceEqDiff, Nat.reduceLT, Nat.reduceLeDiff, Nat.reduceAdd, Nat.reduceMul, Nat.reduceMod, Nat.reduceSub, Nat.reduceBEq, Int.reduceLE, Int.reduceLT, Int.reduceEq, Int.reduceSub, Int.reduceAdd, Int.reduceToNat, Int.reduceNeg, i_common_l0_M] <;> (repeat' apply And.intro) <;> first | rfl | exact ⟨_, rfl⟩ | simp [lst]
  · intro ex2 s2 hX2
    unfold i_common_l0_X at hX2
    obtain ⟨rfl, n2_0⟩ := hX2
    obtain rfl := Option.some.inj h
    simp (maxDischargeDepth := 9) only [↓xpre, xpost, xlst, xcore, yset, rg0, ↓reduceIte, Nat.reduceEqDiff, Nat.reduceLT, Nat.reduceLeDiff, Nat.reduceAdd, Nat.reduceMul, Nat.reduceMod, Nat.reduceSub, Nat.reduceBEq, Int.reduceLE, Int.reduceLT, Int.reduceEq, Int.reduceSub, Int.reduceAdd, Int.reduceToNat, Int.reduceNeg, n2_0] <;> (repeat' apply And.intro) <;> first | rfl | exact ⟨_, rfl⟩ | simp [lst]

noncomputable def s_reBoth_l0_S (l : List (List Int)) (m_ : List (List Int)) (out : List (List Int)) (t10_ : Int) : Option (((List (List Int)) × Int) ⊕ ((List (List Int)))) :=
  if t10_ < (l.length : Int) then
    ck (0 ≤ t10_ ∧ t10_.toNat < l.length) <|
    ck (m_.length < 1099511627776) <|
    ck ((l.getD t10_.toNat default).length < 1099511627776) <|
    if (m_.contains (l.getD t10_.toNat default)) = true then
      (s_l1Own (l.getD t10_.toNat default)).bind fun r7_ =>
      ck (out.length + 1 < 1099511627776) <|
      some (Sum.inl ((out ++ [r7_]), IntKind.i64.wrap (t10_ + 1)))
    else
      some (Sum.inl (out, IntKind.i64.wrap (t10_ + 1)))
  else
    some (Sum.inr out)
noncomputable def s_reBoth_l0 (l : List (List Int)) (m_ : List (List Int)) (v : (List (List Int)) × Int) : Option ((List (List Int))) := itO (fun v => s_reBoth_l0_S l m_ v.1 v.2) v
noncomputable def s_reBoth (l : List (List Int)) (m_ : List (List Int)) : Option ((List (List Int))) :=
  (s_reBoth_l0 l m_ ([], 0)).bind fun r2_ =>
  some r2_
/-- spec.reBoth -/
def k53_l0b : SC :=
  .seq
    (.ops [
      ⟨(some 11), (Op.binOp BinOp.lss 3 (Operand.tmp 10) (Operand.tmp 9) 3), 0, none⟩])
    (.seq
      (.cond (Operand.tmp 11)
        .skip
        (.exit 0))
      (.seq
        (.block 1
          (.seq
            (.ops [
              ⟨(some 12), (Op.indexAddr 22 (Operand.tmp 8) (Operand.tmp 10)), 0, none⟩,
              ⟨(some 13), (Op.load 32 (Operand.tmp 12)), 32, none⟩,
              ⟨(some 7), (Op.assign (Operand.tmp 13)), 32, none⟩])
            (.seq
              (.ops [
                ⟨(some 14), (Op.move (Operand.tmp 1)), 22, none⟩,
                ⟨(some 15), (Op.move (Operand.tmp 7)), 32, none⟩,
                ⟨(some 16), (Op.call { callee := (Callee.value (Operand.func 80)), args := #[(Operand.tmp 14), (Operand.tmp 15)], argTypes := #[22, 32] }), 4, none⟩])
              (.cond (Operand.tmp 16)
                (.ops [
                  ⟨(some 17), (Op.move (Operand.tmp 5)), 22, none⟩,
                  ⟨(some 18), (Op.move (Operand.tmp 7)), 32, none⟩,
                  ⟨(some 19), (Op.call { callee := (Callee.value (Operand.func 69)), args := #[(Operand.tmp 18)], argTypes := #[32] }), 32, none⟩,
                  ⟨(some 20), (Op.buildSlice 22 1 #[(0, (Operand.tmp 19))]), 22, none⟩,
                  ⟨(some 21), (Op.call { callee := (Callee.builtin Builtin.append), args := #[(Operand.tmp 17), (Operand.tmp 20)], argTypes := #[22, 22] }), 22, none⟩,
                  ⟨(some 5), (Op.assign (Operand.tmp 21)), 22, none⟩])
                .skip))))
        (.ops [
          ⟨(some 22), (Op.binOp BinOp.add 3 (Operand.tmp 10) (Operand.const (Value.int IntKind.i64 1)) 3), 3, none⟩,
          ⟨(some 10), (Op.move (Operand.tmp 22)), 3, none⟩])))
def k53_l0 : SC := .loop k53_l0b
def k53 : SC :=
  .seq
    (.ops [
      ⟨(some 4), (Op.assign (Operand.const (Value.slice none 0 0))), 22, none⟩])
    (.seq
      (.ops [
        ⟨(some 5), (Op.assign (Operand.const (Value.slice none 0 0))), 22, none⟩])
      (.seq
        (.seq
          (.ops [
            ⟨(some 8), (Op.move (Operand.tmp 0)), 22, none⟩,
            ⟨(some 9), (Op.call { callee := (Callee.builtin Builtin.len), args := #[(Operand.tmp 8)], argTypes := #[22] }), 3, none⟩,
            ⟨(some 10), (Op.move (Operand.const (Value.int IntKind.i64 0))), 3, none⟩])
          (.block 0
            k53_l0))
        (.seq
          (.ops [
            ⟨(some 23), (Op.move (Operand.tmp 5)), 22, none⟩,
            ⟨(some 4), (Op.assign (Operand.tmp 23)), 22, none⟩])
          .ret)))
theorem slim53 : Try.f53.body.map (slim lends) = some k53 := by kernel_rfl
theorem ok53 : fnOk Try.f53 2 = true := by kernel_rfl
theorem c53 {a l : List D} {r : D × List D} (h : wpD Y.env k53 (fin tys l.length [ResultVar.tmp 4] r) (entry a l)) (ha : a.length = 2) : Y.call 53 a l = some r :=
  call_slim (Y := Y) rfl Try.func53 (ha ▸ ok53) slim53 h
def s_reBoth_l0_M (l : List (List Int)) (m_ : List (List Int)) (out : List (List Int)) (t10_ : Int) (s : St) : Prop := s.v 1 = D.sl 32 (lst (fun x => D.sl 3 (lst (D.int .i64) x)) m_) ∧ s.v 5 = D.own 32 (lst (fun x => D.own 3 (lst (D.int .i64) x)) out) ∧ s.v 8 = D.sl 32 (lst (fun x => D.sl 3 (lst (D.int .i64) x)) l) ∧ s.v 9 = D.int .i64 (l.length : Int) ∧ s.v 10 = D.int .i64 t10_
def s_reBoth_l0_X (l : List (List Int)) (m_ : List (List Int)) (r : (List (List Int))) (ex : Ex) (s : St) : Prop := ex = .exit 0 ∧ s.v 5 = D.own 32 (lst (fun x => D.own 3 (lst (D.int .i64) x)) r)
theorem s_reBoth_l0_wp (l : List (List Int)) (m_ : List (List Int)) {v : (List (List Int)) × Int} {s : St} {r : (List (List Int))} (h : s_reBoth_l0 l m_ v = some r) (hM : s_reBoth_l0_M l m_ v.1 v.2 s) : wpD Y.env k53_l0 (s_reBoth_l0_X l m_ r) s := by
  unfold s_reBoth_l0 at h
  refine wd_itO (c := k53_l0b) (fun v => s_reBoth_l0_S l m_ v.1 v.2) (fun v s => s_reBoth_l0_M l m_ v.1 v.2 s) (s_reBoth_l0_X l m_) ?_ h hM
  clear h hM s v r
  intro v s o hM h
  obtain ⟨out, t10_⟩ := v
  dsimp only at h hM
  unfold s_reBoth_l0_S at h
  unfold s_reBoth_l0_M at hM
  obtain ⟨m0, m1, m2, m3, m4⟩ := hM
  unfold k53_l0b
  by_cases e1 : t10_ < (l.length : Int)
  · rw [if_pos e1] at h
    obtain ⟨e2, h⟩ := ckS h
    obtain ⟨e3, h⟩ := ckS h
    obtain ⟨e4, h⟩ := ckS h
    have c5 := s_prHas_cl m_ (l.getD t10_.toNat default) e3 e4
    by_cases e6 : (m_.contains (l.getD t10_.toNat default)) = true
    · rw [if_pos e6] at h
      obtain ⟨r7_, hl7, h⟩ := bindS h
      try dsimp only at h
      have c7 := s_l1Own_call (l.getD t10_.toNat default) hl7
      obtain ⟨e8, h⟩ := ckS h
      obtain rfl := Option.some.inj h
      simp (maxDischargeDepth := 9) only [↓xpre, xpost, xlst, xcore, yset, rg0, ↓reduceIte, Nat.reduceEqDiff, Nat.reduceLT, Nat.reduceLeDiff, Nat.reduceAdd, Nat.reduceMul, Nat.reduceMod, Nat.reduceSub, Nat.reduceBEq, Int.reduceLE, Int.reduceLT, Int.reduceEq, Int.reduceSub, Int.reduceAdd, Int.reduceToNat, Int.reduceNeg, m0, m1, m2, m3, m4, e1, e2.1, e2.2, e3, e4, c5, e6, c7, e8, s_reBoth_l0_M, s_reBoth_l0_X, sxN, sxE, sxR] <;> (repeat' apply And.intro) <;> first | rfl | exact ⟨_, rfl⟩ | simp [lst]
    · rw [if_neg e6] at h
      have e6f : (m_.contains (l.getD t10_.toNat default)) = false := Bool.eq_false_iff.mpr e6
      obtain rfl := Option.some.inj h
      simp (maxDischargeDepth := 9) only [↓xpre, xpost, xlst, xcore, yset, rg0, ↓reduceIte, Nat.reduceEqDiff, Nat.reduceLT, Nat.reduceLeDiff, Nat.reduceAdd, Nat.reduceMul, Nat.reduceMod, Nat.reduceSub, Nat.reduceBEq, Int.reduceLE, Int.reduceLT, Int.reduceEq, Int.reduceSub, Int.reduceAdd, Int.reduceToNat, Int.reduceNeg, m0, m1, m2, m3, m4, e1, e2.1, e2.2, e3, e4, c5, e6f, s_reBoth_l0_M, s_reBoth_l0_X, sxN, sxE, sxR] <;> (repeat' apply And.intro) <;> first | rfl | exact ⟨_, rfl⟩ | simp [lst]
  · rw [if_neg e1] at h
    obtain rfl := Option.some.inj h
    simp (maxDischargeDepth := 9) only [↓xpre, xpost, xlst, xcore, yset, rg0, ↓reduceIte, Nat.reduceEqDiff, Nat.reduceLT, Nat.reduceLeDiff, Nat.reduceAdd, Nat.reduceMul, Nat.reduceMod, Nat.reduceSub, Nat.reduceBEq, Int.reduceLE, Int.reduceLT, Int.reduceEq, Int.reduceSub, Int.reduceAdd, Int.reduceToNat, Int.reduceNeg, m0, m1, m2, m3, m4, e1, s_reBoth_l0_M, s_reBoth_l0_X, sxN, sxE, sxR] <;> (repeat' apply And.intro) <;> first | rfl | exact ⟨_, rfl⟩ | simp [lst]
theorem s_reBoth_call (l : List (List Int)) (m_ : List (List Int)) {r : (List (List Int))} (h : s_reBoth l m_ = some r) : Y.call 53 [D.sl 32 (lst (fun x => D.sl 3 (lst (D.int .i64) x)) l), D.sl 32 (lst (fun x => D.sl 3 (lst (D.int .i64) x)) m_)] [] = some (D.own 32 (lst (fun x => D.own 3 (lst (D.int .i64) x)) r), []) := by
  refine c53 ?_ rfl
  unfold k53
  unfold s_reBoth at h
  obtain ⟨r2_, hl2, h⟩ := bindS h
  try dsimp only at h
  simp (maxDischargeDepth := 9) only [↓xpre, xpost, xlst, xcore, yset, rg0, ↓reduceIte, Nat.reduceEqDiff, Nat.reduceLT, Nat.reduceLeDiff, Nat.reduceAdd, Nat.reduceMul, Nat.reduceMod, Nat.reduceSub, Nat.reduceBEq, Int.reduceLE, Int.reduceLT, Int.reduceEq, Int.reduceSub, Int.reduceAdd, Int.reduceToNat, Int.reduceNeg]
  refine wd_mono (s_reBoth_l0_wp l m_ hl2 ?_) ?_
  · simp (maxDischargeDepth := 9) only [↓xpre, xpost, xlst, xcore, yset, rg0, ↓reduceIte, Nat.reduceEqDiff, Nat.reduceLT, Nat.reduceLeDiff, Nat.reduceAdd, Nat.reduceMul, Nat.reduceMod, Nat.reduceSub, Nat.reduceBEq, Int.reduceLE, Int.reduceLT, Int.reduceEq, Int.reduceSub, Int.reduceAdd, Int.reduceToNat, Int.reduceNeg, s_reBoth_l0_M] <;> (repeat' apply And.intro) <;> first | rfl | exact ⟨_, rfl⟩ | simp [lst]
  · intro ex2 s2 hX2
    unfold s_reBoth_l0_X at hX2
    obtain ⟨rfl, n2_0⟩ := hX2
    obtain rfl := Option.some.inj h
    simp (maxDischargeDepth := 9) only [↓xpre, xpost, xlst, xcore, yset, rg0, ↓reduceIte, Nat.reduceEqDiff, Nat.reduceLT, Nat.reduceLeDiff, Nat.reduceAdd, Nat.reduceMul, Nat.reduceMod, Nat.reduceSub, Nat.reduceBEq, Int.reduceLE, Int.reduceLT, Int.reduceEq, Int.reduceSub, Int.reduceAdd, Int.reduceToNat, Int.reduceNeg, n2_0] <;> (repeat' apply And.intro) <;> first | rfl | exact ⟨_, rfl⟩ | simp [lst]

noncomputable def i_areProblems (p_Labels : Int) (p_Degree : Int) (p_Nodes : List (List Int)) (p_Edges : List (List Int)) (q_Labels : Int) (q_Degree : Int) (q_Nodes : List (List Int)) (q_Edges : List (List Int)) : Option (Bool) :=
  ck (Short p_Nodes) <|
  ck (Short p_Edges) <|
  if (isProb p_Labels p_Degree p_Nodes p_Edges) = true then
    ck (Short q_Nodes) <|
    ck (Short q_Edges) <|
    if (isProb q_Labels q_Degree q_Nodes q_Edges) = true then
      some (decide (p_Degree = q_Degree))
    else
      some false
  else
    some false
/-- impl.areProblems -/
def k54 : SC :=
  .seq
    (.ops [
      ⟨(some 2), (Op.box 28 (Operand.tmp 0)), 0, none⟩,
      ⟨(some 3), (Op.box 28 (Operand.tmp 1)), 0, none⟩,
      ⟨(some 4), (Op.assign (Operand.const (Value.bool false))), 4, none⟩])
    (.seq
      (.ops [
        ⟨(some 5), (Op.load 28 (Operand.tmp 2)), 28, none⟩,
        ⟨(some 6), (Op.call { callee := (Callee.value (Operand.func 58)), args := #[(Operand.tmp 5)], argTypes := #[28] }), 4, none⟩,
        ⟨(some 7), (Op.move (Operand.tmp 6)), 4, none⟩,
        ⟨(some 8), (Op.load 28 (Operand.tmp 3)), 28, (some (some 7, true))⟩,
        ⟨(some 9), (Op.call { callee := (Callee.value (Operand.func 58)), args := #[(Operand.tmp 8)], argTypes := #[28] }), 4, (some (some 7, true))⟩,
        ⟨(some 10), (Op.pick (Operand.tmp 7) (Operand.tmp 9) (Operand.const (Value.bool false))), 4, none⟩,
        ⟨(some 11), (Op.move (Operand.tmp 10)), 4, none⟩,
        ⟨(some 12), (Op.fieldAddr 28 (Operand.tmp 2) 1), 0, (some (some 11, true))⟩,
        ⟨(some 13), (Op.load 3 (Operand.tmp 12)), 3, (some (some 11, true))⟩,
        ⟨(some 14), (Op.fieldAddr 28 (Operand.tmp 3) 1), 0, (some (some 11, true))⟩,
        ⟨(some 15), (Op.load 3 (Operand.tmp 14)), 3, (some (some 11, true))⟩,
        ⟨(some 16), (Op.binOp BinOp.eql 3 (Operand.tmp 13) (Operand.tmp 15) 3), 4, (some (some 11, true))⟩,
        ⟨(some 17), (Op.pick (Operand.tmp 11) (Operand.tmp 16) (Operand.const (Value.bool false))), 4, none⟩,
        ⟨(some 4), (Op.assign (Operand.tmp 17)), 4, none⟩])
      .ret)
theorem slim54 : Try.f54.body.map (slim lends) = some k54 := by kernel_rfl
theorem ok54 : fnOk Try.f54 2 = true := by kernel_rfl
theorem c54 {a l : List D} {r : D × List D} (h : wpD Y.env k54 (fin tys l.length [ResultVar.tmp 4] r) (entry a l)) (ha : a.length = 2) : Y.call 54 a l = some r :=
  call_slim (Y := Y) rfl Try.func54 (ha ▸ ok54) slim54 h
theorem i_areProblems_call (p_Labels : Int) (p_Degree : Int) (p_Nodes : List (List Int)) (p_Edges : List (List Int)) (q_Labels : Int) (q_Degree : Int) (q_Nodes : List (List Int)) (q_Edges : List (List Int)) {r : Bool} (h : i_areProblems p_Labels p_Degree p_Nodes p_Edges q_Labels q_Degree q_Nodes q_Edges = some r) : Y.call 54 [D.agg [D.int .i64 p_Labels, D.int .i64 p_Degree, D.sl 32 (lst (fun x => D.sl 3 (lst (D.int .i64) x)) p_Nodes), D.sl 32 (lst (fun x => D.sl 3 (lst (D.int .i64) x)) p_Edges)], D.agg [D.int .i64 q_Labels, D.int .i64 q_Degree, D.sl 32 (lst (fun x => D.sl 3 (lst (D.int .i64) x)) q_Nodes), D.sl 32 (lst (fun x => D.sl 3 (lst (D.int .i64) x)) q_Edges)]] [] = some (D.bool r, []) := by
  refine c54 ?_ rfl
  unfold k54
  unfold i_areProblems at h
  obtain ⟨e1, h⟩ := ckS h
  obtain ⟨e2, h⟩ := ckS h
  have c3 := i_IsProblem_cl p_Labels p_Degree p_Nodes p_Edges e1 e2
  by_cases e4 : (isProb p_Labels p_Degree p_Nodes p_Edges) = true
  · rw [if_pos e4] at h
    obtain ⟨e5, h⟩ := ckS h
    obtain ⟨e6, h⟩ := ckS h
    have c7 := i_IsProblem_cl q_Labels q_Degree q_Nodes q_Edges e5 e6
    by_cases e8 : (isProb q_Labels q_Degree q_Nodes q_Edges) = true
    · rw [if_pos e8] at h
      obtain rfl := Option.some.inj h
      simp (maxDischargeDepth := 9) only [↓xpre, xpost, xlst, xcore, yset, rg0, ↓reduceIte, Nat.reduceEqDiff, Nat.reduceLT, Nat.reduceLeDiff, Nat.reduceAdd, Nat.reduceMul, Nat.reduceMod, Nat.reduceSub, Nat.reduceBEq, Int.reduceLE, Int.reduceLT, Int.reduceEq, Int.reduceSub, Int.reduceAdd, Int.reduceToNat, Int.reduceNeg, e1, e2, c3, e4, e5, e6, c7, e8] <;> (repeat' apply And.intro) <;> first | rfl | exact ⟨_, rfl⟩ | simp [lst]
    · rw [if_neg e8] at h
      have e8f : (isProb q_Labels q_Degree q_Nodes q_Edges) = false := Bool.eq_false_iff.mpr e8
      obtain rfl := Option.some.inj h
      simp (maxDischargeDepth := 9) only [↓xpre, xpost, xlst, xcore, yset, rg0, ↓reduceIte, Nat.reduceEqDiff, Nat.reduceLT, Nat.reduceLeDiff, Nat.reduceAdd, Nat.reduceMul, Nat.reduceMod, Nat.reduceSub, Nat.reduceBEq, Int.reduceLE, Int.reduceLT, Int.reduceEq, Int.reduceSub, Int.reduceAdd, Int.reduceToNat, Int.reduceNeg, e1, e2, c3, e4, e5, e6, c7, e8f] <;> (repeat' apply And.intro) <;> first | rfl | exact ⟨_, rfl⟩ | simp [lst]
  · rw [if_neg e4] at h
    have e4f : (isProb p_Labels p_Degree p_Nodes p_Edges) = false := Bool.eq_false_iff.mpr e4
    obtain rfl := Option.some.inj h
    simp (maxDischargeDepth := 9) only [↓xpre, xpost, xlst, xcore, yset, rg0, ↓reduceIte, Nat.reduceEqDiff, Nat.reduceLT, Nat.reduceLeDiff, Nat.reduceAdd, Nat.reduceMul, Nat.reduceMod, Nat.reduceSub, Nat.reduceBEq, Int.reduceLE, Int.reduceLT, Int.reduceEq, Int.reduceSub, Int.reduceAdd, Int.reduceToNat, Int.reduceNeg, e1, e2, c3, e4f] <;> (repeat' apply And.intro) <;> first | rfl | exact ⟨_, rfl⟩ | simp [lst]

noncomputable def s_reTwo (p_Labels : Int) (p_Degree : Int) (p_Nodes : List (List Int)) (p_Edges : List (List Int)) (q_Labels : Int) (q_Degree : Int) (q_Nodes : List (List Int)) (q_Edges : List (List Int)) : Option (Bool) :=
  ck (Short p_Nodes) <|
  ck (Short p_Edges) <|
  if (isProb p_Labels p_Degree p_Nodes p_Edges) = true then
    ck (Short q_Nodes) <|
    ck (Short q_Edges) <|
    if (isProb q_Labels q_Degree q_Nodes q_Edges) = true then
      some (decide (p_Degree = q_Degree))
    else
      some false
  else
    some false
/-- spec.reTwo -/
def k52 : SC :=
  .seq
    (.ops [
      ⟨(some 2), (Op.box 28 (Operand.tmp 0)), 0, none⟩,
      ⟨(some 3), (Op.box 28 (Operand.tmp 1)), 0, none⟩,
      ⟨(some 4), (Op.assign (Operand.const (Value.bool false))), 4, none⟩])
    (.seq
      (.ops [
        ⟨(some 5), (Op.load 28 (Operand.tmp 2)), 28, none⟩,
        ⟨(some 6), (Op.call { callee := (Callee.value (Operand.func 56)), args := #[(Operand.tmp 5)], argTypes := #[28] }), 4, none⟩,
        ⟨(some 7), (Op.move (Operand.tmp 6)), 4, none⟩,
        ⟨(some 8), (Op.load 28 (Operand.tmp 3)), 28, (some (some 7, true))⟩,
        ⟨(some 9), (Op.call { callee := (Callee.value (Operand.func 56)), args := #[(Operand.tmp 8)], argTypes := #[28] }), 4, (some (some 7, true))⟩,
        ⟨(some 10), (Op.pick (Operand.tmp 7) (Operand.tmp 9) (Operand.const (Value.bool false))), 4, none⟩,
        ⟨(some 11), (Op.move (Operand.tmp 10)), 4, none⟩,
        ⟨(some 12), (Op.fieldAddr 28 (Operand.tmp 2) 1), 0, (some (some 11, true))⟩,
        ⟨(some 13), (Op.load 3 (Operand.tmp 12)), 3, (some (some 11, true))⟩,
        ⟨(some 14), (Op.fieldAddr 28 (Operand.tmp 3) 1), 0, (some (some 11, true))⟩,
        ⟨(some 15), (Op.load 3 (Operand.tmp 14)), 3, (some (some 11, true))⟩,
        ⟨(some 16), (Op.binOp BinOp.eql 3 (Operand.tmp 13) (Operand.tmp 15) 3), 4, (some (some 11, true))⟩,
        ⟨(some 17), (Op.pick (Operand.tmp 11) (Operand.tmp 16) (Operand.const (Value.bool false))), 4, none⟩,
        ⟨(some 4), (Op.assign (Operand.tmp 17)), 4, none⟩])
      .ret)
theorem slim52 : Try.f52.body.map (slim lends) = some k52 := by kernel_rfl
theorem ok52 : fnOk Try.f52 2 = true := by kernel_rfl
theorem c52 {a l : List D} {r : D × List D} (h : wpD Y.env k52 (fin tys l.length [ResultVar.tmp 4] r) (entry a l)) (ha : a.length = 2) : Y.call 52 a l = some r :=
  call_slim (Y := Y) rfl Try.func52 (ha ▸ ok52) slim52 h
theorem s_reTwo_call (p_Labels : Int) (p_Degree : Int) (p_Nodes : List (List Int)) (p_Edges : List (List Int)) (q_Labels : Int) (q_Degree : Int) (q_Nodes : List (List Int)) (q_Edges : List (List Int)) {r : Bool} (h : s_reTwo p_Labels p_Degree p_Nodes p_Edges q_Labels q_Degree q_Nodes q_Edges = some r) : Y.call 52 [D.agg [D.int .i64 p_Labels, D.int .i64 p_Degree, D.sl 32 (lst (fun x => D.sl 3 (lst (D.int .i64) x)) p_Nodes), D.sl 32 (lst (fun x => D.sl 3 (lst (D.int .i64) x)) p_Edges)], D.agg [D.int .i64 q_Labels, D.int .i64 q_Degree, D.sl 32 (lst (fun x => D.sl 3 (lst (D.int .i64) x)) q_Nodes), D.sl 32 (lst (fun x => D.sl 3 (lst (D.int .i64) x)) q_Edges)]] [] = some (D.bool r, []) := by
  refine c52 ?_ rfl
  unfold k52
  unfold s_reTwo at h
  obtain ⟨e1, h⟩ := ckS h
  obtain ⟨e2, h⟩ := ckS h
  have c3 := s_prGood_cl p_Labels p_Degree p_Nodes p_Edges e1 e2
  by_cases e4 : (isProb p_Labels p_Degree p_Nodes p_Edges) = true
  · rw [if_pos e4] at h
    obtain ⟨e5, h⟩ := ckS h
    obtain ⟨e6, h⟩ := ckS h
    have c7 := s_prGood_cl q_Labels q_Degree q_Nodes q_Edges e5 e6
    by_cases e8 : (isProb q_Labels q_Degree q_Nodes q_Edges) = true
    · rw [if_pos e8] at h
      obtain rfl := Option.some.inj h
      simp (maxDischargeDepth := 9) only [↓xpre, xpost, xlst, xcore, yset, rg0, ↓reduceIte, Nat.reduceEqDiff, Nat.reduceLT, Nat.reduceLeDiff, Nat.reduceAdd, Nat.reduceMul, Nat.reduceMod, Nat.reduceSub, Nat.reduceBEq, Int.reduceLE, Int.reduceLT, Int.reduceEq, Int.reduceSub, Int.reduceAdd, Int.reduceToNat, Int.reduceNeg, e1, e2, c3, e4, e5, e6, c7, e8] <;> (repeat' apply And.intro) <;> first | rfl | exact ⟨_, rfl⟩ | simp [lst]
    · rw [if_neg e8] at h
      have e8f : (isProb q_Labels q_Degree q_Nodes q_Edges) = false := Bool.eq_false_iff.mpr e8
      obtain rfl := Option.some.inj h
      simp (maxDischargeDepth := 9) only [↓xpre, xpost, xlst, xcore, yset, rg0, ↓reduceIte, Nat.reduceEqDiff, Nat.reduceLT, Nat.reduceLeDiff, Nat.reduceAdd, Nat.reduceMul, Nat.reduceMod, Nat.reduceSub, Nat.reduceBEq, Int.reduceLE, Int.reduceLT, Int.reduceEq, Int.reduceSub, Int.reduceAdd, Int.reduceToNat, Int.reduceNeg, e1, e2, c3, e4, e5, e6, c7, e8f] <;> (repeat' apply And.intro) <;> first | rfl | exact ⟨_, rfl⟩ | simp [lst]
  · rw [if_neg e4] at h
    have e4f : (isProb p_Labels p_Degree p_Nodes p_Edges) = false := Bool.eq_false_iff.mpr e4
    obtain rfl := Option.some.inj h
    simp (maxDischargeDepth := 9) only [↓xpre, xpost, xlst, xcore, yset, rg0, ↓reduceIte, Nat.reduceEqDiff, Nat.reduceLT, Nat.reduceLeDiff, Nat.reduceAdd, Nat.reduceMul, Nat.reduceMod, Nat.reduceSub, Nat.reduceBEq, Int.reduceLE, Int.reduceLT, Int.reduceEq, Int.reduceSub, Int.reduceAdd, Int.reduceToNat, Int.reduceNeg, e1, e2, c3, e4f] <;> (repeat' apply And.intro) <;> first | rfl | exact ⟨_, rfl⟩ | simp [lst]

theorem common_eq (a b : List (List Int)) (ha : Short a) (hb : Short b) (hi : incL b = true) (hs : ∀ x ∈ a, sortedB x = true) : i_common a b = some (bothL a b) := by
  unfold i_common i_common_l0
  rw [itO_filter (fun v => i_common_l0_S a b v.1 v.2) a (fun x => b.contains x) ?_ ?_]
  · rfl
  · intro i hi' out ho
    have e : a.getD i default = a[i] := by rw [List.getD_eq_getElem?_getD, List.getElem?_eq_getElem hi']; rfl
    have hl := ha.1
    simp only [i_common_l0_S]
    rw [if_pos (lt_nat hi'), ckT (ix_nat hi'), Int.toNat_natCast, ckT hb, e, ckT (ha.at i hi'), ckT hi, sortI_same (hs _ (List.getElem_mem hi')), ckT (by omega), wrS i (by omega)]
    by_cases hp : b.contains a[i] = true <;> simp only [hp, if_true, Bool.false_eq_true, if_false]
  · intro out
    simp only [i_common_l0_S]
    rw [if_neg (not_lt_nat _)]
theorem reBoth_eq (a b : List (List Int)) (ha : Short a) (hb : Short b) : s_reBoth a b = some (bothL a b) := by
  unfold s_reBoth s_reBoth_l0
  rw [itO_filter (fun v => s_reBoth_l0_S a b v.1 v.2) a (fun x => b.contains x) ?_ ?_]
  · rfl
  · intro i hi' out ho
    have e : a.getD i default = a[i] := by rw [List.getD_eq_getElem?_getD, List.getElem?_eq_getElem hi']; rfl
    have hl := ha.1
    have hx := ha.at i hi'
    simp only [s_reBoth_l0_S, s_l1Own]
    rw [if_pos (lt_nat hi'), ckT (ix_nat hi'), Int.toNat_natCast, ckT hb.1, e, ckT hx, ckT (by omega), Option.bind_some, ckT (by omega), wrS i (by omega)]
    by_cases hp : b.contains a[i] = true <;> simp only [hp, if_true, Bool.false_eq_true, if_false]
  · intro out
    simp only [s_reBoth_l0_S]
    rw [if_neg (not_lt_nat _)]
theorem areTwo_eq (a b : Int) (n e : List (List Int)) (a' b' : Int) (n' e' : List (List Int)) (hn : Short n) (he : Short e) (hn' : Short n') (he' : Short e') :
    i_areProblems a b n e a' b' n' e' = some (isProb a b n e && (isProb a' b' n' e' && decide (b = b'))) := by
  unfold i_areProblems
  rw [ckT hn, ckT he]
  cases isProb a b n e with
  | false => simp
  | true =>
    rw [if_pos rfl, ckT hn', ckT he']
    cases isProb a' b' n' e' <;> simp
theorem reTwo_eq (a b : Int) (n e : List (List Int)) (a' b' : Int) (n' e' : List (List Int)) (hn : Short n) (he : Short e) (hn' : Short n') (he' : Short e') :
    s_reTwo a b n e a' b' n' e' = some (isProb a b n e && (isProb a' b' n' e' && decide (b = b'))) := by
  unfold s_reTwo
  rw [ckT hn, ckT he]
  cases isProb a b n e with
  | false => simp
  | true =>
    rw [if_pos rfl, ckT hn', ckT he']
    cases isProb a' b' n' e' <;> simp
theorem both_same {s n s' n' : Int} {l m : List (List Int)} (hl : Short l) (hm : Short m) (h : confs l s n = true) (h' : confs m s' n' = true) : i_common l m = some (bothL l m) ∧ s_reBoth l m = some (bothL l m) :=
  ⟨common_eq l m hl hm (confs_inc h') (fun _ hx => (confs_at h hx).2.1), reBoth_eq l m hl hm⟩
theorem tot_filter (p : List Int → Bool) (l : List (List Int)) : tot (l.filter p) ≤ tot l ∧ (l.filter p).length ≤ l.length := by
  refine ⟨?_, List.length_filter_le _ _⟩
  induction l with
  | nil => exact Int.le_refl _
  | cons x l ih =>
    by_cases hp : p x = true
    · rw [List.filter_cons_of_pos hp]; simp only [tot, List.map_cons, List.sum_cons] at ih ⊢; omega
    · rw [List.filter_cons_of_neg hp]; simp only [tot, List.map_cons, List.sum_cons] at ih ⊢; omega
theorem Short.filter {l : List (List Int)} (h : Short l) (p : List Int → Bool) : Short (l.filter p) :=
  ⟨Nat.lt_of_le_of_lt (List.length_filter_le _ _) h.1, fun x hx => h.2 x (List.mem_filter.1 hx).1⟩
noncomputable def i_IsRestriction (p_Labels : Int) (p_Degree : Int) (p_Nodes : List (List Int)) (p_Edges : List (List Int)) (q_Labels : Int) (q_Degree : Int) (q_Nodes : List (List Int)) (q_Edges : List (List Int)) : Option (Bool × Bool) :=
  (i_areProblems p_Labels p_Degree p_Nodes p_Edges q_Labels q_Degree q_Nodes q_Edges).bind fun r1_ =>
  if r1_ = true then
    if p_Labels = q_Labels then
      (i_common p_Nodes q_Nodes).bind fun r4_ =>
      if (r4_.length : Int) = (p_Nodes.length : Int) then
        (i_common p_Edges q_Edges).bind fun r6_ =>
        some ((decide ((r6_.length : Int) = (p_Edges.length : Int))), true)
      else
        some (false, true)
    else
      some (false, true)
  else
    some (false, false)
/-- impl.IsRestriction -/
def k18 : SC :=
  .seq
    (.ops [
      ⟨(some 2), (Op.box 28 (Operand.tmp 0)), 0, none⟩,
      ⟨(some 3), (Op.box 28 (Operand.tmp 1)), 0, none⟩,
      ⟨(some 4), (Op.assign (Operand.const (Value.bool false))), 4, none⟩,
      ⟨(some 5), (Op.assign (Operand.const (Value.bool false))), 4, none⟩])
    (.seq
      (.seq
        (.ops [
          ⟨(some 6), (Op.load 28 (Operand.tmp 2)), 28, none⟩,
          ⟨(some 7), (Op.load 28 (Operand.tmp 3)), 28, none⟩,
          ⟨(some 8), (Op.call { callee := (Callee.value (Operand.func 54)), args := #[(Operand.tmp 6), (Operand.tmp 7)], argTypes := #[28, 28] }), 4, none⟩,
          ⟨(some 9), (Op.unOp UnOp.not 4 (Operand.tmp 8)), 4, none⟩])
        (.cond (Operand.tmp 9)
          (.seq
            (.ops [
              ⟨(some 4), (Op.assign (Operand.const (Value.bool false))), 4, none⟩,
              ⟨(some 5), (Op.assign (Operand.const (Value.bool false))), 4, none⟩])
            .ret)
          .skip))
      (.seq
        (.draws [
          (⟨[10, 2, 2], [10, 11, 12, 13, 14, 15, 16, 17, 18, 19, 20, 21, 22, 23, 24, 25, 26, 27, 28, 29, 30, 31, 32, 33, 34, 35, 36, 37, 38, 4, 38, 38, 5], [10]⟩, ⟨(some 10), (Op.fieldAddr 28 (Operand.tmp 2) 0), 0, none⟩),
          (⟨[11, 10, 2], [10, 11, 12, 13, 14, 15, 16, 17, 18, 19, 20, 21, 22, 23, 24, 25, 26, 27, 28, 29, 30, 31, 32, 33, 34, 35, 36, 37, 38, 4, 38, 38, 5], [11]⟩, ⟨(some 11), (Op.load 3 (Operand.tmp 10)), 3, none⟩),
          (⟨[12, 3, 3], [10, 11, 12, 13, 14, 15, 16, 17, 18, 19, 20, 21, 22, 23, 24, 25, 26, 27, 28, 29, 30, 31, 32, 33, 34, 35, 36, 37, 38, 4, 38, 38, 5], [12]⟩, ⟨(some 12), (Op.fieldAddr 28 (Operand.tmp 3) 0), 0, none⟩),
          (⟨[13, 12, 3], [10, 11, 12, 13, 14, 15, 16, 17, 18, 19, 20, 21, 22, 23, 24, 25, 26, 27, 28, 29, 30, 31, 32, 33, 34, 35, 36, 37, 38, 4, 38, 38, 5], [13]⟩, ⟨(some 13), (Op.load 3 (Operand.tmp 12)), 3, none⟩),
          (⟨[14, 11, 13, 2, 3], [10, 11, 12, 13, 14, 15, 16, 17, 18, 19, 20, 21, 22, 23, 24, 25, 26, 27, 28, 29, 30, 31, 32, 33, 34, 35, 36, 37, 38, 4, 38, 38, 5], [14]⟩, ⟨(some 14), (Op.binOp BinOp.eql 3 (Operand.tmp 11) (Operand.tmp 13) 3), 4, none⟩),
          (⟨[15, 14, 14], [10, 11, 12, 13, 14, 15, 16, 17, 18, 19, 20, 21, 22, 23, 24, 25, 26, 27, 28, 29, 30, 31, 32, 33, 34, 35, 36, 37, 38, 4, 38, 38, 5], [15]⟩, ⟨(some 15), (Op.move (Operand.tmp 14)), 4, none⟩),
          (⟨[16, 2, 2, 15], [10, 11, 12, 13, 14, 15, 16, 17, 18, 19, 20, 21, 22, 23, 24, 25, 26, 27, 28, 29, 30, 31, 32, 33, 34, 35, 36, 37, 38, 4, 38, 38, 5], [16]⟩, ⟨(some 16), (Op.fieldAddr 28 (Operand.tmp 2) 2), 0, (some (some 15, true))⟩),
          (⟨[17, 16, 2, 15], [10, 11, 12, 13, 14, 15, 16, 17, 18, 19, 20, 21, 22, 23, 24, 25, 26, 27, 28, 29, 30, 31, 32, 33, 34, 35, 36, 37, 38, 4, 38, 38, 5], [17]⟩, ⟨(some 17), (Op.load 22 (Operand.tmp 16)), 22, (some (some 15, true))⟩),
          (⟨[18, 3, 3, 15], [10, 11, 12, 13, 14, 15, 16, 17, 18, 19, 20, 21, 22, 23, 24, 25, 26, 27, 28, 29, 30, 31, 32, 33, 34, 35, 36, 37, 38, 4, 38, 38, 5], [18]⟩, ⟨(some 18), (Op.fieldAddr 28 (Operand.tmp 3) 2), 0, (some (some 15, true))⟩),
          (⟨[19, 18, 3, 15], [10, 11, 12, 13, 14, 15, 16, 17, 18, 19, 20, 21, 22, 23, 24, 25, 26, 27, 28, 29, 30, 31, 32, 33, 34, 35, 36, 37, 38, 4, 38, 38, 5], [19]⟩, ⟨(some 19), (Op.load 22 (Operand.tmp 18)), 22, (some (some 15, true))⟩),
          (⟨[20, 17, 19, 2, 3, 15], [10, 11, 12, 13, 14, 15, 16, 17, 18, 19, 20, 21, 22, 23, 24, 25, 26, 27, 28, 29, 30, 31, 32, 33, 34, 35, 36, 37, 38, 4, 38, 38, 5], [20]⟩, ⟨(some 20), (Op.call { callee := (Callee.value (Operand.func 55)), args := #[(Operand.tmp 17), (Operand.tmp 19)], argTypes := #[22, 22] }), 22, (some (some 15, true))⟩),
          (⟨[21, 20, 20, 15], [10, 11, 12, 13, 14, 15, 16, 17, 18, 19, 20, 21, 22, 23, 24, 25, 26, 27, 28, 29, 30, 31, 32, 33, 34, 35, 36, 37, 38, 4, 38, 38, 5], [21]⟩, ⟨(some 21), (Op.call { callee := (Callee.builtin Builtin.len), args := #[(Operand.tmp 20)], argTypes := #[22] }), 3, (some (some 15, true))⟩),
          (⟨[22, 2, 2, 15], [10, 11, 12, 13, 14, 15, 16, 17, 18, 19, 20, 21, 22, 23, 24, 25, 26, 27, 28, 29, 30, 31, 32, 33, 34, 35, 36, 37, 38, 4, 38, 38, 5], [22]⟩, ⟨(some 22), (Op.fieldAddr 28 (Operand.tmp 2) 2), 0, (some (some 15, true))⟩),
          (⟨[23, 22, 2, 15], [10, 11, 12, 13, 14, 15, 16, 17, 18, 19, 20, 21, 22, 23, 24, 25, 26, 27, 28, 29, 30, 31, 32, 33, 34, 35, 36, 37, 38, 4, 38, 38, 5], [23]⟩, ⟨(some 23), (Op.load 22 (Operand.tmp 22)), 22, (some (some 15, true))⟩),
          (⟨[24, 23, 2, 15], [10, 11, 12, 13, 14, 15, 16, 17, 18, 19, 20, 21, 22, 23, 24, 25, 26, 27, 28, 29, 30, 31, 32, 33, 34, 35, 36, 37, 38, 4, 38, 38, 5], [24]⟩, ⟨(some 24), (Op.call { callee := (Callee.builtin Builtin.len), args := #[(Operand.tmp 23)], argTypes := #[22] }), 3, (some (some 15, true))⟩),
          (⟨[25, 21, 24, 21, 24, 15], [10, 11, 12, 13, 14, 15, 16, 17, 18, 19, 20, 21, 22, 23, 24, 25, 26, 27, 28, 29, 30, 31, 32, 33, 34, 35, 36, 37, 38, 4, 38, 38, 5], [25]⟩, ⟨(some 25), (Op.binOp BinOp.eql 3 (Operand.tmp 21) (Operand.tmp 24) 3), 4, (some (some 15, true))⟩),
          (⟨[26, 15, 25, 14, 25], [10, 11, 12, 13, 14, 15, 16, 17, 18, 19, 20, 21, 22, 23, 24, 25, 26, 27, 28, 29, 30, 31, 32, 33, 34, 35, 36, 37, 38, 4, 38, 38, 5], [26]⟩, ⟨(some 26), (Op.pick (Operand.tmp 15) (Operand.tmp 25) (Operand.const (Value.bool false))), 4, none⟩),
          (⟨[27, 26, 26], [10, 11, 12, 13, 14, 15, 16, 17, 18, 19, 20, 21, 22, 23, 24, 25, 26, 27, 28, 29, 30, 31, 32, 33, 34, 35, 36, 37, 38, 4, 38, 38, 5], [27]⟩, ⟨(some 27), (Op.move (Operand.tmp 26)), 4, none⟩),
          (⟨[28, 2, 2, 27], [10, 11, 12, 13, 14, 15, 16, 17, 18, 19, 20, 21, 22, 23, 24, 25, 26, 27, 28, 29, 30, 31, 32, 33, 34, 35, 36, 37, 38, 4, 38, 38, 5], [28]⟩, ⟨(some 28), (Op.fieldAddr 28 (Operand.tmp 2) 3), 0, (some (some 27, true))⟩),
          (⟨[29, 28, 2, 27], [10, 11, 12, 13, 14, 15, 16, 17, 18, 19, 20, 21, 22, 23, 24, 25, 26, 27, 28, 29, 30, 31, 32, 33, 34, 35, 36, 37, 38, 4, 38, 38, 5], [29]⟩, ⟨(some 29), (Op.load 22 (Operand.tmp 28)), 22, (some (some 27, true))⟩),
          (⟨[30, 3, 3, 27], [10, 11, 12, 13, 14, 15, 16, 17, 18, 19, 20, 21, 22, 23, 24, 25, 26, 27, 28, 29, 30, 31, 32, 33, 34, 35, 36, 37, 38, 4, 38, 38, 5], [30]⟩, ⟨(some 30), (Op.fieldAddr 28 (Operand.tmp 3) 3), 0, (some (some 27, true))⟩),
          (⟨[31, 30, 3, 27], [10, 11, 12, 13, 14, 15, 16, 17, 18, 19, 20, 21, 22, 23, 24, 25, 26, 27, 28, 29, 30, 31, 32, 33, 34, 35, 36, 37, 38, 4, 38, 38, 5], [31]⟩, ⟨(some 31), (Op.load 22 (Operand.tmp 30)), 22, (some (some 27, true))⟩),
          (⟨[32, 29, 31, 2, 3, 27], [10, 11, 12, 13, 14, 15, 16, 17, 18, 19, 20, 21, 22, 23, 24, 25, 26, 27, 28, 29, 30, 31, 32, 33, 34, 35, 36, 37, 38, 4, 38, 38, 5], [32]⟩, ⟨(some 32), (Op.call { callee := (Callee.value (Operand.func 55)), args := #[(Operand.tmp 29), (Operand.tmp 31)], argTypes := #[22, 22] }), 22, (some (some 27, true))⟩),
          (⟨[33, 32, 32, 27], [10, 11, 12, 13, 14, 15, 16, 17, 18, 19, 20, 21, 22, 23, 24, 25, 26, 27, 28, 29, 30, 31, 32, 33, 34, 35, 36, 37, 38, 4, 38, 38, 5], [33]⟩, ⟨(some 33), (Op.call { callee := (Callee.builtin Builtin.len), args := #[(Operand.tmp 32)], argTypes := #[22] }), 3, (some (some 27, true))⟩),
          (⟨[34, 2, 2, 27], [10, 11, 12, 13, 14, 15, 16, 17, 18, 19, 20, 21, 22, 23, 24, 25, 26, 27, 28, 29, 30, 31, 32, 33, 34, 35, 36, 37, 38, 4, 38, 38, 5], [34]⟩, ⟨(some 34), (Op.fieldAddr 28 (Operand.tmp 2) 3), 0, (some (some 27, true))⟩),
          (⟨[35, 34, 2, 27], [10, 11, 12, 13, 14, 15, 16, 17, 18, 19, 20, 21, 22, 23, 24, 25, 26, 27, 28, 29, 30, 31, 32, 33, 34, 35, 36, 37, 38, 4, 38, 38, 5], [35]⟩, ⟨(some 35), (Op.load 22 (Operand.tmp 34)), 22, (some (some 27, true))⟩),
          (⟨[36, 35, 2, 27], [10, 11, 12, 13, 14, 15, 16, 17, 18, 19, 20, 21, 22, 23, 24, 25, 26, 27, 28, 29, 30, 31, 32, 33, 34, 35, 36, 37, 38, 4, 38, 38, 5], [36]⟩, ⟨(some 36), (Op.call { callee := (Callee.builtin Builtin.len), args := #[(Operand.tmp 35)], argTypes := #[22] }), 3, (some (some 27, true))⟩),
          (⟨[37, 33, 36, 33, 36, 27], [10, 11, 12, 13, 14, 15, 16, 17, 18, 19, 20, 21, 22, 23, 24, 25, 26, 27, 28, 29, 30, 31, 32, 33, 34, 35, 36, 37, 38, 4, 38, 38, 5], [37]⟩, ⟨(some 37), (Op.binOp BinOp.eql 3 (Operand.tmp 33) (Operand.tmp 36) 3), 4, (some (some 27, true))⟩),
          (⟨[38, 27, 37, 26, 37], [10, 11, 12, 13, 14, 15, 16, 17, 18, 19, 20, 21, 22, 23, 24, 25, 26, 27, 28, 29, 30, 31, 32, 33, 34, 35, 36, 37, 38, 4, 38, 38, 5], [38]⟩, ⟨(some 38), (Op.pick (Operand.tmp 27) (Operand.tmp 37) (Operand.const (Value.bool false))), 4, none⟩),
          (⟨[4, 38, 38], [10, 11, 12, 13, 14, 15, 16, 17, 18, 19, 20, 21, 22, 23, 24, 25, 26, 27, 28, 29, 30, 31, 32, 33, 34, 35, 36, 37, 38, 4, 38, 38, 5], [4, 38, 38]⟩, ⟨(some 4), (Op.assign (Operand.tmp 38)), 4, none⟩),
          (⟨[5], [10, 11, 12, 13, 14, 15, 16, 17, 18, 19, 20, 21, 22, 23, 24, 25, 26, 27, 28, 29, 30, 31, 32, 33, 34, 35, 36, 37, 38, 4, 38, 38, 5], [5]⟩, ⟨(some 5), (Op.assign (Operand.const (Value.bool true))), 4, none⟩)])
        .ret))
theorem slim18 : Try.f18.body.map (slim lends) = some k18 := by kernel_rfl
theorem ok18 : fnOk Try.f18 2 = true := by kernel_rfl
theorem c18 {a l : List D} {r : D × List D} (h : wpD Y.env k18 (fin tys l.length [ResultVar.tmp 4, ResultVar.tmp 5] r) (entry a l)) (ha : a.length = 2) : Y.call 18 a l = some r :=
  call_slim (Y := Y) rfl Try.func18 (ha ▸ ok18) slim18 h
theorem i_IsRestriction_call (p_Labels : Int) (p_Degree : Int) (p_Nodes : List (List Int)) (p_Edges : List (List Int)) (q_Labels : Int) (q_Degree : Int) (q_Nodes : List (List Int)) (q_Edges : List (List Int)) {r : Bool × Bool} (h : i_IsRestriction p_Labels p_Degree p_Nodes p_Edges q_Labels q_Degree q_Nodes q_Edges = some r) : Y.call 18 [D.agg [D.int .i64 p_Labels, D.int .i64 p_Degree, D.sl 32 (lst (fun x => D.sl 3 (lst (D.int .i64) x)) p_Nodes), D.sl 32 (lst (fun x => D.sl 3 (lst (D.int .i64) x)) p_Edges)], D.agg [D.int .i64 q_Labels, D.int .i64 q_Degree, D.sl 32 (lst (fun x => D.sl 3 (lst (D.int .i64) x)) q_Nodes), D.sl 32 (lst (fun x => D.sl 3 (lst (D.int .i64) x)) q_Edges)]] [] = some (D.tup [D.bool r.1, D.bool r.2], []) := by
  refine c18 ?_ rfl
  unfold k18
  unfold i_IsRestriction at h
  obtain ⟨r1_, hl1, h⟩ := bindS h
  try dsimp only at h
  have c1 := i_areProblems_call p_Labels p_Degree p_Nodes p_Edges q_Labels q_Degree q_Nodes q_Edges hl1
  by_cases e2 : r1_ = true
  · rw [if_pos e2] at h
    by_cases e3 : p_Labels = q_Labels
    · rw [if_pos e3] at h
      obtain ⟨r4_, hl4, h⟩ := bindS h
      try dsimp only at h
      have c4 := i_common_call p_Nodes q_Nodes hl4
      by_cases e5 : (r4_.length : Int) = (p_Nodes.length : Int)
      · rw [if_pos e5] at h
        obtain ⟨r6_, hl6, h⟩ := bindS h
        try dsimp only at h
        have c6 := i_common_call p_Edges q_Edges hl6
        obtain rfl := Option.some.inj h
        simp (maxDischargeDepth := 9) only [↓xpre, xpost, xlst, xcore, yset, rg0, ↓reduceIte, Nat.reduceEqDiff, Nat.reduceLT, Nat.reduceLeDiff, Nat.reduceAdd, Nat.reduceMul, Nat.reduceMod, Nat.reduceSub, Nat.reduceBEq, Int.reduceLE, Int.reduceLT, Int.reduceEq, Int.reduceSub, Int.reduceAdd, Int.reduceToNat, Int.reduceNeg, c1, e2, decide_eq_true e3, c4, decide_eq_true e5, c6] <;> (repeat' apply And.intro) <;> first | rfl | exact ⟨_, rfl⟩ | simp [lst]
      · rw [if_neg e5] at h
        obtain rfl := Option.some.inj h
        simp (maxDischargeDepth := 9) only [↓xpre, xpost, xlst, xcore, yset, rg0, ↓reduceIte, Nat.reduceEqDiff, Nat.reduceLT, Nat.reduceLeDiff, Nat.reduceAdd, Nat.reduceMul, Nat.reduceMod, Nat.reduceSub, Nat.reduceBEq, Int.reduceLE, Int.reduceLT, Int.reduceEq, Int.reduceSub, Int.reduceAdd, Int.reduceToNat, Int.reduceNeg, c1, e2, decide_eq_true e3, c4, e5] <;> (repeat' apply And.intro) <;> first | rfl | exact ⟨_, rfl⟩ | simp [lst]
    · rw [if_neg e3] at h
      obtain rfl := Option.some.inj h
      simp (maxDischargeDepth := 9) only [↓xpre, xpost, xlst, xcore, yset, rg0, ↓reduceIte, Nat.reduceEqDiff, Nat.reduceLT, Nat.reduceLeDiff, Nat.reduceAdd, Nat.reduceMul, Nat.reduceMod, Nat.reduceSub, Nat.reduceBEq, Int.reduceLE, Int.reduceLT, Int.reduceEq, Int.reduceSub, Int.reduceAdd, Int.reduceToNat, Int.reduceNeg, c1, e2, e3] <;> (repeat' apply And.intro) <;> first | rfl | exact ⟨_, rfl⟩ | simp [lst]
  · rw [if_neg e2] at h
    have e2f : r1_ = false := Bool.eq_false_iff.mpr e2
    obtain rfl := Option.some.inj h
    simp (maxDischargeDepth := 9) only [↓xpre, xpost, xlst, xcore, yset, rg0, ↓reduceIte, Nat.reduceEqDiff, Nat.reduceLT, Nat.reduceLeDiff, Nat.reduceAdd, Nat.reduceMul, Nat.reduceMod, Nat.reduceSub, Nat.reduceBEq, Int.reduceLE, Int.reduceLT, Int.reduceEq, Int.reduceSub, Int.reduceAdd, Int.reduceToNat, Int.reduceNeg, c1, e2f] <;> (repeat' apply And.intro) <;> first | rfl | exact ⟨_, rfl⟩ | simp [lst]

noncomputable def s_IsRestriction (p_Labels : Int) (p_Degree : Int) (p_Nodes : List (List Int)) (p_Edges : List (List Int)) (q_Labels : Int) (q_Degree : Int) (q_Nodes : List (List Int)) (q_Edges : List (List Int)) : Option (Bool × Bool) :=
  (s_reTwo p_Labels p_Degree p_Nodes p_Edges q_Labels q_Degree q_Nodes q_Edges).bind fun r1_ =>
  if r1_ = true then
    if p_Labels = q_Labels then
      (s_reBoth p_Nodes q_Nodes).bind fun r4_ =>
      if (r4_.length : Int) = (p_Nodes.length : Int) then
        (s_reBoth p_Edges q_Edges).bind fun r6_ =>
        some ((decide ((r6_.length : Int) = (p_Edges.length : Int))), true)
      else
        some (false, true)
    else
      some (false, true)
  else
    some (false, false)
/-- spec.IsRestriction -/
def k16 : SC :=
  .seq
    (.ops [
      ⟨(some 2), (Op.box 28 (Operand.tmp 0)), 0, none⟩,
      ⟨(some 3), (Op.box 28 (Operand.tmp 1)), 0, none⟩,
      ⟨(some 4), (Op.assign (Operand.const (Value.bool false))), 4, none⟩,
      ⟨(some 5), (Op.assign (Operand.const (Value.bool false))), 4, none⟩])
    (.seq
      (.seq
        (.ops [
          ⟨(some 6), (Op.load 28 (Operand.tmp 2)), 28, none⟩,
          ⟨(some 7), (Op.load 28 (Operand.tmp 3)), 28, none⟩,
          ⟨(some 8), (Op.call { callee := (Callee.value (Operand.func 52)), args := #[(Operand.tmp 6), (Operand.tmp 7)], argTypes := #[28, 28] }), 4, none⟩,
          ⟨(some 9), (Op.unOp UnOp.not 4 (Operand.tmp 8)), 4, none⟩])
        (.cond (Operand.tmp 9)
          (.seq
            (.ops [
              ⟨(some 4), (Op.assign (Operand.const (Value.bool false))), 4, none⟩,
              ⟨(some 5), (Op.assign (Operand.const (Value.bool false))), 4, none⟩])
            .ret)
          .skip))
      (.seq
        (.draws [
          (⟨[10, 2, 2], [10, 11, 12, 13, 14, 15, 16, 17, 18, 19, 20, 21, 22, 23, 24, 25, 26, 27, 28, 29, 30, 31, 32, 33, 34, 35, 36, 37, 38, 4, 38, 38, 5], [10]⟩, ⟨(some 10), (Op.fieldAddr 28 (Operand.tmp 2) 0), 0, none⟩),
          (⟨[11, 10, 2], [10, 11, 12, 13, 14, 15, 16, 17, 18, 19, 20, 21, 22, 23, 24, 25, 26, 27, 28, 29, 30, 31, 32, 33, 34, 35, 36, 37, 38, 4, 38, 38, 5], [11]⟩, ⟨(some 11), (Op.load 3 (Operand.tmp 10)), 3, none⟩),
          (⟨[12, 3, 3], [10, 11, 12, 13, 14, 15, 16, 17, 18, 19, 20, 21, 22, 23, 24, 25, 26, 27, 28, 29, 30, 31, 32, 33, 34, 35, 36, 37, 38, 4, 38, 38, 5], [12]⟩, ⟨(some 12), (Op.fieldAddr 28 (Operand.tmp 3) 0), 0, none⟩),
          (⟨[13, 12, 3], [10, 11, 12, 13, 14, 15, 16, 17, 18, 19, 20, 21, 22, 23, 24, 25, 26, 27, 28, 29, 30, 31, 32, 33, 34, 35, 36, 37, 38, 4, 38, 38, 5], [13]⟩, ⟨(some 13), (Op.load 3 (Operand.tmp 12)), 3, none⟩),
          (⟨[14, 11, 13, 2, 3], [10, 11, 12, 13, 14, 15, 16, 17, 18, 19, 20, 21, 22, 23, 24, 25, 26, 27, 28, 29, 30, 31, 32, 33, 34, 35, 36, 37, 38, 4, 38, 38, 5], [14]⟩, ⟨(some 14), (Op.binOp BinOp.eql 3 (Operand.tmp 11) (Operand.tmp 13) 3), 4, none⟩),
          (⟨[15, 14, 14], [10, 11, 12, 13, 14, 15, 16, 17, 18, 19, 20, 21, 22, 23, 24, 25, 26, 27, 28, 29, 30, 31, 32, 33, 34, 35, 36, 37, 38, 4, 38, 38, 5], [15]⟩, ⟨(some 15), (Op.move (Operand.tmp 14)), 4, none⟩),
          (⟨[16, 2, 2, 15], [10, 11, 12, 13, 14, 15, 16, 17, 18, 19, 20, 21, 22, 23, 24, 25, 26, 27, 28, 29, 30, 31, 32, 33, 34, 35, 36, 37, 38, 4, 38, 38, 5], [16]⟩, ⟨(some 16), (Op.fieldAddr 28 (Operand.tmp 2) 2), 0, (some (some 15, true))⟩),
          (⟨[17, 16, 2, 15], [10, 11, 12, 13, 14, 15, 16, 17, 18, 19, 20, 21, 22, 23, 24, 25, 26, 27, 28, 29, 30, 31, 32, 33, 34, 35, 36, 37, 38, 4, 38, 38, 5], [17]⟩, ⟨(some 17), (Op.load 22 (Operand.tmp 16)), 22, (some (some 15, true))⟩),
          (⟨[18, 3, 3, 15], [10, 11, 12, 13, 14, 15, 16, 17, 18, 19, 20, 21, 22, 23, 24, 25, 26, 27, 28, 29, 30, 31, 32, 33, 34, 35, 36, 37, 38, 4, 38, 38, 5], [18]⟩, ⟨(some 18), (Op.fieldAddr 28 (Operand.tmp 3) 2), 0, (some (some 15, true))⟩),
          (⟨[19, 18, 3, 15], [10, 11, 12, 13, 14, 15, 16, 17, 18, 19, 20, 21, 22, 23, 24, 25, 26, 27, 28, 29, 30, 31, 32, 33, 34, 35, 36, 37, 38, 4, 38, 38, 5], [19]⟩, ⟨(some 19), (Op.load 22 (Operand.tmp 18)), 22, (some (some 15, true))⟩),
          (⟨[20, 17, 19, 2, 3, 15], [10, 11, 12, 13, 14, 15, 16, 17, 18, 19, 20, 21, 22, 23, 24, 25, 26, 27, 28, 29, 30, 31, 32, 33, 34, 35, 36, 37, 38, 4, 38, 38, 5], [20]⟩, ⟨(some 20), (Op.call { callee := (Callee.value (Operand.func 53)), args := #[(Operand.tmp 17), (Operand.tmp 19)], argTypes := #[22, 22] }), 22, (some (some 15, true))⟩),
          (⟨[21, 20, 20, 15], [10, 11, 12, 13, 14, 15, 16, 17, 18, 19, 20, 21, 22, 23, 24, 25, 26, 27, 28, 29, 30, 31, 32, 33, 34, 35, 36, 37, 38, 4, 38, 38, 5], [21]⟩, ⟨(some 21), (Op.call { callee := (Callee.builtin Builtin.len), args := #[(Operand.tmp 20)], argTypes := #[22] }), 3, (some (some 15, true))⟩),
          (⟨[22, 2, 2, 15], [10, 11, 12, 13, 14, 15, 16, 17, 18, 19, 20, 21, 22, 23, 24, 25, 26, 27, 28, 29, 30, 31, 32, 33, 34, 35, 36, 37, 38, 4, 38, 38, 5], [22]⟩, ⟨(some 22), (Op.fieldAddr 28 (Operand.tmp 2) 2), 0, (some (some 15, true))⟩),
          (⟨[23, 22, 2, 15], [10, 11, 12, 13, 14, 15, 16, 17, 18, 19, 20, 21, 22, 23, 24, 25, 26, 27, 28, 29, 30, 31, 32, 33, 34, 35, 36, 37, 38, 4, 38, 38, 5], [23]⟩, ⟨(some 23), (Op.load 22 (Operand.tmp 22)), 22, (some (some 15, true))⟩),
          (⟨[24, 23, 2, 15], [10, 11, 12, 13, 14, 15, 16, 17, 18, 19, 20, 21, 22, 23, 24, 25, 26, 27, 28, 29, 30, 31, 32, 33, 34, 35, 36, 37, 38, 4, 38, 38, 5], [24]⟩, ⟨(some 24), (Op.call { callee := (Callee.builtin Builtin.len), args := #[(Operand.tmp 23)], argTypes := #[22] }), 3, (some (some 15, true))⟩),
          (⟨[25, 21, 24, 21, 24, 15], [10, 11, 12, 13, 14, 15, 16, 17, 18, 19, 20, 21, 22, 23, 24, 25, 26, 27, 28, 29, 30, 31, 32, 33, 34, 35, 36, 37, 38, 4, 38, 38, 5], [25]⟩, ⟨(some 25), (Op.binOp BinOp.eql 3 (Operand.tmp 21) (Operand.tmp 24) 3), 4, (some (some 15, true))⟩),
          (⟨[26, 15, 25, 14, 25], [10, 11, 12, 13, 14, 15, 16, 17, 18, 19, 20, 21, 22, 23, 24, 25, 26, 27, 28, 29, 30, 31, 32, 33, 34, 35, 36, 37, 38, 4, 38, 38, 5], [26]⟩, ⟨(some 26), (Op.pick (Operand.tmp 15) (Operand.tmp 25) (Operand.const (Value.bool false))), 4, none⟩),
          (⟨[27, 26, 26], [10, 11, 12, 13, 14, 15, 16, 17, 18, 19, 20, 21, 22, 23, 24, 25, 26, 27, 28, 29, 30, 31, 32, 33, 34, 35, 36, 37, 38, 4, 38, 38, 5], [27]⟩, ⟨(some 27), (Op.move (Operand.tmp 26)), 4, none⟩),
          (⟨[28, 2, 2, 27], [10, 11, 12, 13, 14, 15, 16, 17, 18, 19, 20, 21, 22, 23, 24, 25, 26, 27, 28, 29, 30, 31, 32, 33, 34, 35, 36, 37, 38, 4, 38, 38, 5], [28]⟩, ⟨(some 28), (Op.fieldAddr 28 (Operand.tmp 2) 3), 0, (some (some 27, true))⟩),
          (⟨[29, 28, 2, 27], [10, 11, 12, 13, 14, 15, 16, 17, 18, 19, 20, 21, 22, 23, 24, 25, 26, 27, 28, 29, 30, 31, 32, 33, 34, 35, 36, 37, 38, 4, 38, 38, 5], [29]⟩, ⟨(some 29), (Op.load 22 (Operand.tmp 28)), 22, (some (some 27, true))⟩),
          (⟨[30, 3, 3, 27], [10, 11, 12, 13, 14, 15, 16, 17, 18, 19, 20, 21, 22, 23, 24, 25, 26, 27, 28, 29, 30, 31, 32, 33, 34, 35, 36, 37, 38, 4, 38, 38, 5], [30]⟩, ⟨(some 30), (Op.fieldAddr 28 (Operand.tmp 3) 3), 0, (some (some 27, true))⟩),
          (⟨[31, 30, 3, 27], [10, 11, 12, 13, 14, 15, 16, 17, 18, 19, 20, 21, 22, 23, 24, 25, 26, 27, 28, 29, 30, 31, 32, 33, 34, 35, 36, 37, 38, 4, 38, 38, 5], [31]⟩, ⟨(some 31), (Op.load 22 (Operand.tmp 30)), 22, (some (some 27, true))⟩),
          (⟨[32, 29, 31, 2, 3, 27], [10, 11, 12, 13, 14, 15, 16, 17, 18, 19, 20, 21, 22, 23, 24, 25, 26, 27, 28, 29, 30, 31, 32, 33, 34, 35, 36, 37, 38, 4, 38, 38, 5], [32]⟩, ⟨(some 32), (Op.call { callee := (Callee.value (Operand.func 53)), args := #[(Operand.tmp 29), (Operand.tmp 31)], argTypes := #[22, 22] }), 22, (some (some 27, true))⟩),
          (⟨[33, 32, 32, 27], [10, 11, 12, 13, 14, 15, 16, 17, 18, 19, 20, 21, 22, 23, 24, 25, 26, 27, 28, 29, 30, 31, 32, 33, 34, 35, 36, 37, 38, 4, 38, 38, 5], [33]⟩, ⟨(some 33), (Op.call { callee := (Callee.builtin Builtin.len), args := #[(Operand.tmp 32)], argTypes := #[22] }), 3, (some (some 27, true))⟩),
          (⟨[34, 2, 2, 27], [10, 11, 12, 13, 14, 15, 16, 17, 18, 19, 20, 21, 22, 23, 24, 25, 26, 27, 28, 29, 30, 31, 32, 33, 34, 35, 36, 37, 38, 4, 38, 38, 5], [34]⟩, ⟨(some 34), (Op.fieldAddr 28 (Operand.tmp 2) 3), 0, (some (some 27, true))⟩),
          (⟨[35, 34, 2, 27], [10, 11, 12, 13, 14, 15, 16, 17, 18, 19, 20, 21, 22, 23, 24, 25, 26, 27, 28, 29, 30, 31, 32, 33, 34, 35, 36, 37, 38, 4, 38, 38, 5], [35]⟩, ⟨(some 35), (Op.load 22 (Operand.tmp 34)), 22, (some (some 27, true))⟩),
          (⟨[36, 35, 2, 27], [10, 11, 12, 13, 14, 15, 16, 17, 18, 19, 20, 21, 22, 23, 24, 25, 26, 27, 28, 29, 30, 31, 32, 33, 34, 35, 36, 37, 38, 4, 38, 38, 5], [36]⟩, ⟨(some 36), (Op.call { callee := (Callee.builtin Builtin.len), args := #[(Operand.tmp 35)], argTypes := #[22] }), 3, (some (some 27, true))⟩),
          (⟨[37, 33, 36, 33, 36, 27], [10, 11, 12, 13, 14, 15, 16, 17, 18, 19, 20, 21, 22, 23, 24, 25, 26, 27, 28, 29, 30, 31, 32, 33, 34, 35, 36, 37, 38, 4, 38, 38, 5], [37]⟩, ⟨(some 37), (Op.binOp BinOp.eql 3 (Operand.tmp 33) (Operand.tmp 36) 3), 4, (some (some 27, true))⟩),
          (⟨[38, 27, 37, 26, 37], [10, 11, 12, 13, 14, 15, 16, 17, 18, 19, 20, 21, 22, 23, 24, 25, 26, 27, 28, 29, 30, 31, 32, 33, 34, 35, 36, 37, 38, 4, 38, 38, 5], [38]⟩, ⟨(some 38), (Op.pick (Operand.tmp 27) (Operand.tmp 37) (Operand.const (Value.bool false))), 4, none⟩),
          (⟨[4, 38, 38], [10, 11, 12, 13, 14, 15, 16, 17, 18, 19, 20, 21, 22, 23, 24, 25, 26, 27, 28, 29, 30, 31, 32, 33, 34, 35, 36, 37, 38, 4, 38, 38, 5], [4, 38, 38]⟩, ⟨(some 4), (Op.assign (Operand.tmp 38)), 4, none⟩),
          (⟨[5], [10, 11, 12, 13, 14, 15, 16, 17, 18, 19, 20, 21, 22, 23, 24, 25, 26, 27, 28, 29, 30, 31, 32, 33, 34, 35, 36, 37, 38, 4, 38, 38, 5], [5]⟩, ⟨(some 5), (Op.assign (Operand.const (Value.bool true))), 4, none⟩)])
        .ret))
theorem slim16 : Try.f16.body.map (slim lends) = some k16 := by kernel_rfl
theorem ok16 : fnOk Try.f16 2 = true := by kernel_rfl
theorem c16 {a l : List D} {r : D × List D} (h : wpD Y.env k16 (fin tys l.length [ResultVar.tmp 4, ResultVar.tmp 5] r) (entry a l)) (ha : a.length = 2) : Y.call 16 a l = some r :=
  call_slim (Y := Y) rfl Try.func16 (ha ▸ ok16) slim16 h
theorem s_IsRestriction_call (p_Labels : Int) (p_Degree : Int) (p_Nodes : List (List Int)) (p_Edges : List (List Int)) (q_Labels : Int) (q_Degree : Int) (q_Nodes : List (List Int)) (q_Edges : List (List Int)) {r : Bool × Bool} (h : s_IsRestriction p_Labels p_Degree p_Nodes p_Edges q_Labels q_Degree q_Nodes q_Edges = some r) : Y.call 16 [D.agg [D.int .i64 p_Labels, D.int .i64 p_Degree, D.sl 32 (lst (fun x => D.sl 3 (lst (D.int .i64) x)) p_Nodes), D.sl 32 (lst (fun x => D.sl 3 (lst (D.int .i64) x)) p_Edges)], D.agg [D.int .i64 q_Labels, D.int .i64 q_Degree, D.sl 32 (lst (fun x => D.sl 3 (lst (D.int .i64) x)) q_Nodes), D.sl 32 (lst (fun x => D.sl 3 (lst (D.int .i64) x)) q_Edges)]] [] = some (D.tup [D.bool r.1, D.bool r.2], []) := by
  refine c16 ?_ rfl
  unfold k16
  unfold s_IsRestriction at h
  obtain ⟨r1_, hl1, h⟩ := bindS h
  try dsimp only at h
  have c1 := s_reTwo_call p_Labels p_Degree p_Nodes p_Edges q_Labels q_Degree q_Nodes q_Edges hl1
  by_cases e2 : r1_ = true
  · rw [if_pos e2] at h
    by_cases e3 : p_Labels = q_Labels
    · rw [if_pos e3] at h
      obtain ⟨r4_, hl4, h⟩ := bindS h
      try dsimp only at h
      have c4 := s_reBoth_call p_Nodes q_Nodes hl4
      by_cases e5 : (r4_.length : Int) = (p_Nodes.length : Int)
      · rw [if_pos e5] at h
        obtain ⟨r6_, hl6, h⟩ := bindS h
        try dsimp only at h
        have c6 := s_reBoth_call p_Edges q_Edges hl6
        obtain rfl := Option.some.inj h
        simp (maxDischargeDepth := 9) only [↓xpre, xpost, xlst, xcore, yset, rg0, ↓reduceIte, Nat.reduceEqDiff, Nat.reduceLT, Nat.reduceLeDiff, Nat.reduceAdd, Nat.reduceMul, Nat.reduceMod, Nat.reduceSub, Nat.reduceBEq, Int.reduceLE, Int.reduceLT, Int.reduceEq, Int.reduceSub, Int.reduceAdd, Int.reduceToNat, Int.reduceNeg, c1, e2, decide_eq_true e3, c4, decide_eq_true e5, c6] <;> (repeat' apply And.intro) <;> first | rfl | exact ⟨_, rfl⟩ | simp [lst]
      · rw [if_neg e5] at h
        obtain rfl := Option.some.inj h
        simp (maxDischargeDepth := 9) only [↓xpre, xpost, xlst, xcore, yset, rg0, ↓reduceIte, Nat.reduceEqDiff, Nat.reduceLT, Nat.reduceLeDiff, Nat.reduceAdd, Nat.reduceMul, Nat.reduceMod, Nat.reduceSub, Nat.reduceBEq, Int.reduceLE, Int.reduceLT, Int.reduceEq, Int.reduceSub, Int.reduceAdd, Int.reduceToNat, Int.reduceNeg, c1, e2, decide_eq_true e3, c4, e5] <;> (repeat' apply And.intro) <;> first | rfl | exact ⟨_, rfl⟩ | simp [lst]
    · rw [if_neg e3] at h
      obtain rfl := Option.some.inj h
      simp (maxDischargeDepth := 9) only [↓xpre, xpost, xlst, xcore, yset, rg0, ↓reduceIte, Nat.reduceEqDiff, Nat.reduceLT, Nat.reduceLeDiff, Nat.reduceAdd, Nat.reduceMul, Nat.reduceMod, Nat.reduceSub, Nat.reduceBEq, Int.reduceLE, Int.reduceLT, Int.reduceEq, Int.reduceSub, Int.reduceAdd, Int.reduceToNat, Int.reduceNeg, c1, e2, e3] <;> (repeat' apply And.intro) <;> first | rfl | exact ⟨_, rfl⟩ | simp [lst]
  · rw [if_neg e2] at h
    have e2f : r1_ = false := Bool.eq_false_iff.mpr e2
    obtain rfl := Option.some.inj h
    simp (maxDischargeDepth := 9) only [↓xpre, xpost, xlst, xcore, yset, rg0, ↓reduceIte, Nat.reduceEqDiff, Nat.reduceLT, Nat.reduceLeDiff, Nat.reduceAdd, Nat.reduceMul, Nat.reduceMod, Nat.reduceSub, Nat.reduceBEq, Int.reduceLE, Int.reduceLT, Int.reduceEq, Int.reduceSub, Int.reduceAdd, Int.reduceToNat, Int.reduceNeg, c1, e2f] <;> (repeat' apply And.intro) <;> first | rfl | exact ⟨_, rfl⟩ | simp [lst]

noncomputable def i_MeetProblem (p_Labels : Int) (p_Degree : Int) (p_Nodes : List (List Int)) (p_Edges : List (List Int)) (q_Labels : Int) (q_Degree : Int) (q_Nodes : List (List Int)) (q_Edges : List (List Int)) : Option (Int × Int × (List (List Int)) × (List (List Int)) × Bool) :=
  (i_areProblems p_Labels p_Degree p_Nodes p_Edges q_Labels q_Degree q_Nodes q_Edges).bind fun r1_ =>
  if r1_ = true then
    if p_Labels = q_Labels then
      (i_common p_Nodes q_Nodes).bind fun r4_ =>
      (i_common p_Edges q_Edges).bind fun r5_ =>
      some (p_Labels, p_Degree, r4_, r5_, true)
    else
      some (0, 0, [], [], false)
  else
    some (0, 0, [], [], false)
/-- impl.MeetProblem -/
def k34 : SC :=
  .seq
    (.ops [
      ⟨(some 2), (Op.box 28 (Operand.tmp 0)), 0, none⟩,
      ⟨(some 3), (Op.box 28 (Operand.tmp 1)), 0, none⟩,
      ⟨(some 4), (Op.alloc 28), 0, none⟩,
      ⟨(some 5), (Op.assign (Operand.const (Value.bool false))), 4, none⟩])
    (.seq
      (.seq
        (.ops [
          ⟨(some 6), (Op.load 28 (Operand.tmp 2)), 28, none⟩,
          ⟨(some 7), (Op.load 28 (Operand.tmp 3)), 28, none⟩,
          ⟨(some 8), (Op.call { callee := (Callee.value (Operand.func 54)), args := #[(Operand.tmp 6), (Operand.tmp 7)], argTypes := #[28, 28] }), 4, none⟩,
          ⟨(some 9), (Op.unOp UnOp.not 4 (Operand.tmp 8)), 4, none⟩,
          ⟨(some 10), (Op.move (Operand.tmp 9)), 4, none⟩,
          ⟨(some 11), (Op.fieldAddr 28 (Operand.tmp 2) 0), 0, (some (some 10, false))⟩,
          ⟨(some 12), (Op.load 3 (Operand.tmp 11)), 3, (some (some 10, false))⟩,
          ⟨(some 13), (Op.fieldAddr 28 (Operand.tmp 3) 0), 0, (some (some 10, false))⟩,
          ⟨(some 14), (Op.load 3 (Operand.tmp 13)), 3, (some (some 10, false))⟩,
          ⟨(some 15), (Op.binOp BinOp.neq 3 (Operand.tmp 12) (Operand.tmp 14) 3), 4, (some (some 10, false))⟩,
          ⟨(some 16), (Op.pick (Operand.tmp 10) (Operand.const (Value.bool true)) (Operand.tmp 15)), 4, none⟩])
        (.cond (Operand.tmp 16)
          (.seq
            (.ops [
              ⟨(some 17), (Op.build 28 #[]), 28, none⟩,
              ⟨none, (Op.store 28 (Operand.tmp 4) (Operand.tmp 17)), 0, none⟩,
              ⟨(some 5), (Op.assign (Operand.const (Value.bool false))), 4, none⟩])
            .ret)
          .skip))
      (.seq
        (.draws [
          (⟨[18, 2, 2], [18, 19, 20, 21, 22, 23, 24, 25, 26, 27, 28, 29, 30, 31, 32, 19, 21, 26, 31, 2, 2, 26, 31, 4, 32, 4, 32, 5], [18]⟩, ⟨(some 18), (Op.fieldAddr 28 (Operand.tmp 2) 0), 0, none⟩),
          (⟨[19, 18, 2], [18, 19, 20, 21, 22, 23, 24, 25, 26, 27, 28, 29, 30, 31, 32, 19, 21, 26, 31, 2, 2, 26, 31, 4, 32, 4, 32, 5], [19]⟩, ⟨(some 19), (Op.load 3 (Operand.tmp 18)), 3, none⟩),
          (⟨[20, 2, 2], [18, 19, 20, 21, 22, 23, 24, 25, 26, 27, 28, 29, 30, 31, 32, 19, 21, 26, 31, 2, 2, 26, 31, 4, 32, 4, 32, 5], [20]⟩, ⟨(some 20), (Op.fieldAddr 28 (Operand.tmp 2) 1), 0, none⟩),
          (⟨[21, 20, 2], [18, 19, 20, 21, 22, 23, 24, 25, 26, 27, 28, 29, 30, 31, 32, 19, 21, 26, 31, 2, 2, 26, 31, 4, 32, 4, 32, 5], [21]⟩, ⟨(some 21), (Op.load 3 (Operand.tmp 20)), 3, none⟩),
          (⟨[22, 2, 2], [18, 19, 20, 21, 22, 23, 24, 25, 26, 27, 28, 29, 30, 31, 32, 19, 21, 26, 31, 2, 2, 26, 31, 4, 32, 4, 32, 5], [22]⟩, ⟨(some 22), (Op.fieldAddr 28 (Operand.tmp 2) 2), 0, none⟩),
          (⟨[23, 22, 2], [18, 19, 20, 21, 22, 23, 24, 25, 26, 27, 28, 29, 30, 31, 32, 19, 21, 26, 31, 2, 2, 26, 31, 4, 32, 4, 32, 5], [23]⟩, ⟨(some 23), (Op.load 22 (Operand.tmp 22)), 22, none⟩),
          (⟨[24, 3, 3], [18, 19, 20, 21, 22, 23, 24, 25, 26, 27, 28, 29, 30, 31, 32, 19, 21, 26, 31, 2, 2, 26, 31, 4, 32, 4, 32, 5], [24]⟩, ⟨(some 24), (Op.fieldAddr 28 (Operand.tmp 3) 2), 0, none⟩),
          (⟨[25, 24, 3], [18, 19, 20, 21, 22, 23, 24, 25, 26, 27, 28, 29, 30, 31, 32, 19, 21, 26, 31, 2, 2, 26, 31, 4, 32, 4, 32, 5], [25]⟩, ⟨(some 25), (Op.load 22 (Operand.tmp 24)), 22, none⟩),
          (⟨[26, 23, 25, 2, 3], [18, 19, 20, 21, 22, 23, 24, 25, 26, 27, 28, 29, 30, 31, 32, 19, 21, 26, 31, 2, 2, 26, 31, 4, 32, 4, 32, 5], [26]⟩, ⟨(some 26), (Op.call { callee := (Callee.value (Operand.func 55)), args := #[(Operand.tmp 23), (Operand.tmp 25)], argTypes := #[22, 22] }), 22, none⟩),
          (⟨[27, 2, 2], [18, 19, 20, 21, 22, 23, 24, 25, 26, 27, 28, 29, 30, 31, 32, 19, 21, 26, 31, 2, 2, 26, 31, 4, 32, 4, 32, 5], [27]⟩, ⟨(some 27), (Op.fieldAddr 28 (Operand.tmp 2) 3), 0, none⟩),
          (⟨[28, 27, 2], [18, 19, 20, 21, 22, 23, 24, 25, 26, 27, 28, 29, 30, 31, 32, 19, 21, 26, 31, 2, 2, 26, 31, 4, 32, 4, 32, 5], [28]⟩, ⟨(some 28), (Op.load 22 (Operand.tmp 27)), 22, none⟩),
          (⟨[29, 3, 3], [18, 19, 20, 21, 22, 23, 24, 25, 26, 27, 28, 29, 30, 31, 32, 19, 21, 26, 31, 2, 2, 26, 31, 4, 32, 4, 32, 5], [29]⟩, ⟨(some 29), (Op.fieldAddr 28 (Operand.tmp 3) 3), 0, none⟩),
          (⟨[30, 29, 3], [18, 19, 20, 21, 22, 23, 24, 25, 26, 27, 28, 29, 30, 31, 32, 19, 21, 26, 31, 2, 2, 26, 31, 4, 32, 4, 32, 5], [30]⟩, ⟨(some 30), (Op.load 22 (Operand.tmp 29)), 22, none⟩),
          (⟨[31, 28, 30, 2, 3], [18, 19, 20, 21, 22, 23, 24, 25, 26, 27, 28, 29, 30, 31, 32, 19, 21, 26, 31, 2, 2, 26, 31, 4, 32, 4, 32, 5], [31]⟩, ⟨(some 31), (Op.call { callee := (Callee.value (Operand.func 55)), args := #[(Operand.tmp 28), (Operand.tmp 30)], argTypes := #[22, 22] }), 22, none⟩),
          (⟨[32, 19, 21, 26, 31, 2, 2, 26, 31], [18, 19, 20, 21, 22, 23, 24, 25, 26, 27, 28, 29, 30, 31, 32, 19, 21, 26, 31, 2, 2, 26, 31, 4, 32, 4, 32, 5], [32, 19, 21, 26, 31, 2, 2, 26, 31]⟩, ⟨(some 32), (Op.build 28 #[(0, (Operand.tmp 19)), (1, (Operand.tmp 21)), (2, (Operand.tmp 26)), (3, (Operand.tmp 31))]), 28, none⟩),
          (⟨[4, 32, 4, 32], [18, 19, 20, 21, 22, 23, 24, 25, 26, 27, 28, 29, 30, 31, 32, 19, 21, 26, 31, 2, 2, 26, 31, 4, 32, 4, 32, 5], [4, 32, 4, 32]⟩, ⟨none, (Op.store 28 (Operand.tmp 4) (Operand.tmp 32)), 0, none⟩),
          (⟨[5], [18, 19, 20, 21, 22, 23, 24, 25, 26, 27, 28, 29, 30, 31, 32, 19, 21, 26, 31, 2, 2, 26, 31, 4, 32, 4, 32, 5], [5]⟩, ⟨(some 5), (Op.assign (Operand.const (Value.bool true))), 4, none⟩)])
        .ret))
theorem slim34 : Try.f34.body.map (slim lends) = some k34 := by kernel_rfl
theorem ok34 : fnOk Try.f34 2 = true := by kernel_rfl
theorem c34 {a l : List D} {r : D × List D} (h : wpD Y.env k34 (fin tys l.length [ResultVar.cell 4 28, ResultVar.tmp 5] r) (entry a l)) (ha : a.length = 2) : Y.call 34 a l = some r :=
  call_slim (Y := Y) rfl Try.func34 (ha ▸ ok34) slim34 h
theorem i_MeetProblem_call (p_Labels : Int) (p_Degree : Int) (p_Nodes : List (List Int)) (p_Edges : List (List Int)) (q_Labels : Int) (q_Degree : Int) (q_Nodes : List (List Int)) (q_Edges : List (List Int)) {r : Int × Int × (List (List Int)) × (List (List Int)) × Bool} (h : i_MeetProblem p_Labels p_Degree p_Nodes p_Edges q_Labels q_Degree q_Nodes q_Edges = some r) : Y.call 34 [D.agg [D.int .i64 p_Labels, D.int .i64 p_Degree, D.sl 32 (lst (fun x => D.sl 3 (lst (D.int .i64) x)) p_Nodes), D.sl 32 (lst (fun x => D.sl 3 (lst (D.int .i64) x)) p_Edges)], D.agg [D.int .i64 q_Labels, D.int .i64 q_Degree, D.sl 32 (lst (fun x => D.sl 3 (lst (D.int .i64) x)) q_Nodes), D.sl 32 (lst (fun x => D.sl 3 (lst (D.int .i64) x)) q_Edges)]] [] = some (D.tup [D.agg [D.int .i64 r.1, D.int .i64 r.2.1, D.own 32 (lst (fun x => D.own 3 (lst (D.int .i64) x)) r.2.2.1), D.own 32 (lst (fun x => D.own 3 (lst (D.int .i64) x)) r.2.2.2.1)], D.bool r.2.2.2.2], []) := by
  refine c34 ?_ rfl
  unfold k34
  unfold i_MeetProblem at h
  obtain ⟨r1_, hl1, h⟩ := bindS h
  try dsimp only at h
  have c1 := i_areProblems_call p_Labels p_Degree p_Nodes p_Edges q_Labels q_Degree q_Nodes q_Edges hl1
  by_cases e2 : r1_ = true
  · rw [if_pos e2] at h
    by_cases e3 : p_Labels = q_Labels
    · rw [if_pos e3] at h
      obtain ⟨r4_, hl4, h⟩ := bindS h
      try dsimp only at h
      have c4 := i_common_call p_Nodes q_Nodes hl4
      obtain ⟨r5_, hl5, h⟩ := bindS h
      try dsimp only at h
      have c5 := i_common_call p_Edges q_Edges hl5
      obtain rfl := Option.some.inj h
      simp (maxDischargeDepth := 9) only [↓xpre, xpost, xlst, xcore, yset, rg0, ↓reduceIte, Nat.reduceEqDiff, Nat.reduceLT, Nat.reduceLeDiff, Nat.reduceAdd, Nat.reduceMul, Nat.reduceMod, Nat.reduceSub, Nat.reduceBEq, Int.reduceLE, Int.reduceLT, Int.reduceEq, Int.reduceSub, Int.reduceAdd, Int.reduceToNat, Int.reduceNeg, c1, e2, decide_eq_true e3, c4, c5] <;> (repeat' apply And.intro) <;> first | rfl | exact ⟨_, rfl⟩ | simp [lst]
    · rw [if_neg e3] at h
      obtain rfl := Option.some.inj h
      simp (maxDischargeDepth := 9) only [↓xpre, xpost, xlst, xcore, yset, rg0, ↓reduceIte, Nat.reduceEqDiff, Nat.reduceLT, Nat.reduceLeDiff, Nat.reduceAdd, Nat.reduceMul, Nat.reduceMod, Nat.reduceSub, Nat.reduceBEq, Int.reduceLE, Int.reduceLT, Int.reduceEq, Int.reduceSub, Int.reduceAdd, Int.reduceToNat, Int.reduceNeg, c1, e2, e3] <;> (repeat' apply And.intro) <;> first | rfl | exact ⟨_, rfl⟩ | simp [lst]
  · rw [if_neg e2] at h
    have e2f : r1_ = false := Bool.eq_false_iff.mpr e2
    obtain rfl := Option.some.inj h
    simp (maxDischargeDepth := 9) only [↓xpre, xpost, xlst, xcore, yset, rg0, ↓reduceIte, Nat.reduceEqDiff, Nat.reduceLT, Nat.reduceLeDiff, Nat.reduceAdd, Nat.reduceMul, Nat.reduceMod, Nat.reduceSub, Nat.reduceBEq, Int.reduceLE, Int.reduceLT, Int.reduceEq, Int.reduceSub, Int.reduceAdd, Int.reduceToNat, Int.reduceNeg, c1, e2f] <;> (repeat' apply And.intro) <;> first | rfl | exact ⟨_, rfl⟩ | simp [lst]

noncomputable def s_MeetProblem (p_Labels : Int) (p_Degree : Int) (p_Nodes : List (List Int)) (p_Edges : List (List Int)) (q_Labels : Int) (q_Degree : Int) (q_Nodes : List (List Int)) (q_Edges : List (List Int)) : Option (Int × Int × (List (List Int)) × (List (List Int)) × Bool) :=
  (s_reTwo p_Labels p_Degree p_Nodes p_Edges q_Labels q_Degree q_Nodes q_Edges).bind fun r1_ =>
  if r1_ = true then
    if p_Labels = q_Labels then
      (s_reBoth p_Nodes q_Nodes).bind fun r4_ =>
      (s_reBoth p_Edges q_Edges).bind fun r5_ =>
      some (p_Labels, p_Degree, r4_, r5_, true)
    else
      some (0, 0, [], [], false)
  else
    some (0, 0, [], [], false)
/-- spec.MeetProblem -/
def k33 : SC :=
  .seq
    (.ops [
      ⟨(some 2), (Op.box 28 (Operand.tmp 0)), 0, none⟩,
      ⟨(some 3), (Op.box 28 (Operand.tmp 1)), 0, none⟩,
      ⟨(some 4), (Op.alloc 28), 0, none⟩,
      ⟨(some 5), (Op.assign (Operand.const (Value.bool false))), 4, none⟩])
    (.seq
      (.seq
        (.ops [
          ⟨(some 6), (Op.load 28 (Operand.tmp 2)), 28, none⟩,
          ⟨(some 7), (Op.load 28 (Operand.tmp 3)), 28, none⟩,
          ⟨(some 8), (Op.call { callee := (Callee.value (Operand.func 52)), args := #[(Operand.tmp 6), (Operand.tmp 7)], argTypes := #[28, 28] }), 4, none⟩,
          ⟨(some 9), (Op.unOp UnOp.not 4 (Operand.tmp 8)), 4, none⟩,
          ⟨(some 10), (Op.move (Operand.tmp 9)), 4, none⟩,
          ⟨(some 11), (Op.fieldAddr 28 (Operand.tmp 2) 0), 0, (some (some 10, false))⟩,
          ⟨(some 12), (Op.load 3 (Operand.tmp 11)), 3, (some (some 10, false))⟩,
          ⟨(some 13), (Op.fieldAddr 28 (Operand.tmp 3) 0), 0, (some (some 10, false))⟩,
          ⟨(some 14), (Op.load 3 (Operand.tmp 13)), 3, (some (some 10, false))⟩,
          ⟨(some 15), (Op.binOp BinOp.neq 3 (Operand.tmp 12) (Operand.tmp 14) 3), 4, (some (some 10, false))⟩,
          ⟨(some 16), (Op.pick (Operand.tmp 10) (Operand.const (Value.bool true)) (Operand.tmp 15)), 4, none⟩])
        (.cond (Operand.tmp 16)
          (.seq
            (.ops [
              ⟨(some 17), (Op.build 28 #[]), 28, none⟩,
              ⟨none, (Op.store 28 (Operand.tmp 4) (Operand.tmp 17)), 0, none⟩,
              ⟨(some 5), (Op.assign (Operand.const (Value.bool false))), 4, none⟩])
            .ret)
          .skip))
      (.seq
        (.draws [
          (⟨[18, 2, 2], [18, 19, 20, 21, 22, 23, 24, 25, 26, 27, 28, 29, 30, 31, 32, 19, 21, 26, 31, 2, 2, 26, 31, 4, 32, 4, 32, 5], [18]⟩, ⟨(some 18), (Op.fieldAddr 28 (Operand.tmp 2) 0), 0, none⟩),
          (⟨[19, 18, 2], [18, 19, 20, 21, 22, 23, 24, 25, 26, 27, 28, 29, 30, 31, 32, 19, 21, 26, 31, 2, 2, 26, 31, 4, 32, 4, 32, 5], [19]⟩, ⟨(some 19), (Op.load 3 (Operand.tmp 18)), 3, none⟩),
          (⟨[20, 2, 2], [18, 19, 20, 21, 22, 23, 24, 25, 26, 27, 28, 29, 30, 31, 32, 19, 21, 26, 31, 2, 2, 26, 31, 4, 32, 4, 32, 5], [20]⟩, ⟨(some 20), (Op.fieldAddr 28 (Operand.tmp 2) 1), 0, none⟩),
          (⟨[21, 20, 2], [18, 19, 20, 21, 22, 23, 24, 25, 26, 27, 28, 29, 30, 31, 32, 19, 21, 26, 31, 2, 2, 26, 31, 4, 32, 4, 32, 5], [21]⟩, ⟨(some 21), (Op.load 3 (Operand.tmp 20)), 3, none⟩),
          (⟨[22, 2, 2], [18, 19, 20, 21, 22, 23, 24, 25, 26, 27, 28, 29, 30, 31, 32, 19, 21, 26, 31, 2, 2, 26, 31, 4, 32, 4, 32, 5], [22]⟩, ⟨(some 22), (Op.fieldAddr 28 (Operand.tmp 2) 2), 0, none⟩),
          (⟨[23, 22, 2], [18, 19, 20, 21, 22, 23, 24, 25, 26, 27, 28, 29, 30, 31, 32, 19, 21, 26, 31, 2, 2, 26, 31, 4, 32, 4, 32, 5], [23]⟩, ⟨(some 23), (Op.load 22 (Operand.tmp 22)), 22, none⟩),
          (⟨[24, 3, 3], [18, 19, 20, 21, 22, 23, 24, 25, 26, 27, 28, 29, 30, 31, 32, 19, 21, 26, 31, 2, 2, 26, 31, 4, 32, 4, 32, 5], [24]⟩, ⟨(some 24), (Op.fieldAddr 28 (Operand.tmp 3) 2), 0, none⟩),
          (⟨[25, 24, 3], [18, 19, 20, 21, 22, 23, 24, 25, 26, 27, 28, 29, 30, 31, 32, 19, 21, 26, 31, 2, 2, 26, 31, 4, 32, 4, 32, 5], [25]⟩, ⟨(some 25), (Op.load 22 (Operand.tmp 24)), 22, none⟩),
          (⟨[26, 23, 25, 2, 3], [18, 19, 20, 21, 22, 23, 24, 25, 26, 27, 28, 29, 30, 31, 32, 19, 21, 26, 31, 2, 2, 26, 31, 4, 32, 4, 32, 5], [26]⟩, ⟨(some 26), (Op.call { callee := (Callee.value (Operand.func 53)), args := #[(Operand.tmp 23), (Operand.tmp 25)], argTypes := #[22, 22] }), 22, none⟩),
          (⟨[27, 2, 2], [18, 19, 20, 21, 22, 23, 24, 25, 26, 27, 28, 29, 30, 31, 32, 19, 21, 26, 31, 2, 2, 26, 31, 4, 32, 4, 32, 5], [27]⟩, ⟨(some 27), (Op.fieldAddr 28 (Operand.tmp 2) 3), 0, none⟩),
          (⟨[28, 27, 2], [18, 19, 20, 21, 22, 23, 24, 25, 26, 27, 28, 29, 30, 31, 32, 19, 21, 26, 31, 2, 2, 26, 31, 4, 32, 4, 32, 5], [28]⟩, ⟨(some 28), (Op.load 22 (Operand.tmp 27)), 22, none⟩),
          (⟨[29, 3, 3], [18, 19, 20, 21, 22, 23, 24, 25, 26, 27, 28, 29, 30, 31, 32, 19, 21, 26, 31, 2, 2, 26, 31, 4, 32, 4, 32, 5], [29]⟩, ⟨(some 29), (Op.fieldAddr 28 (Operand.tmp 3) 3), 0, none⟩),
          (⟨[30, 29, 3], [18, 19, 20, 21, 22, 23, 24, 25, 26, 27, 28, 29, 30, 31, 32, 19, 21, 26, 31, 2, 2, 26, 31, 4, 32, 4, 32, 5], [30]⟩, ⟨(some 30), (Op.load 22 (Operand.tmp 29)), 22, none⟩),
          (⟨[31, 28, 30, 2, 3], [18, 19, 20, 21, 22, 23, 24, 25, 26, 27, 28, 29, 30, 31, 32, 19, 21, 26, 31, 2, 2, 26, 31, 4, 32, 4, 32, 5], [31]⟩, ⟨(some 31), (Op.call { callee := (Callee.value (Operand.func 53)), args := #[(Operand.tmp 28), (Operand.tmp 30)], argTypes := #[22, 22] }), 22, none⟩),
          (⟨[32, 19, 21, 26, 31, 2, 2, 26, 31], [18, 19, 20, 21, 22, 23, 24, 25, 26, 27, 28, 29, 30, 31, 32, 19, 21, 26, 31, 2, 2, 26, 31, 4, 32, 4, 32, 5], [32, 19, 21, 26, 31, 2, 2, 26, 31]⟩, ⟨(some 32), (Op.build 28 #[(0, (Operand.tmp 19)), (1, (Operand.tmp 21)), (2, (Operand.tmp 26)), (3, (Operand.tmp 31))]), 28, none⟩),
          (⟨[4, 32, 4, 32], [18, 19, 20, 21, 22, 23, 24, 25, 26, 27, 28, 29, 30, 31, 32, 19, 21, 26, 31, 2, 2, 26, 31, 4, 32, 4, 32, 5], [4, 32, 4, 32]⟩, ⟨none, (Op.store 28 (Operand.tmp 4) (Operand.tmp 32)), 0, none⟩),
          (⟨[5], [18, 19, 20, 21, 22, 23, 24, 25, 26, 27, 28, 29, 30, 31, 32, 19, 21, 26, 31, 2, 2, 26, 31, 4, 32, 4, 32, 5], [5]⟩, ⟨(some 5), (Op.assign (Operand.const (Value.bool true))), 4, none⟩)])
        .ret))
theorem slim33 : Try.f33.body.map (slim lends) = some k33 := by kernel_rfl
theorem ok33 : fnOk Try.f33 2 = true := by kernel_rfl
theorem c33 {a l : List D} {r : D × List D} (h : wpD Y.env k33 (fin tys l.length [ResultVar.cell 4 28, ResultVar.tmp 5] r) (entry a l)) (ha : a.length = 2) : Y.call 33 a l = some r :=
  call_slim (Y := Y) rfl Try.func33 (ha ▸ ok33) slim33 h
theorem s_MeetProblem_call (p_Labels : Int) (p_Degree : Int) (p_Nodes : List (List Int)) (p_Edges : List (List Int)) (q_Labels : Int) (q_Degree : Int) (q_Nodes : List (List Int)) (q_Edges : List (List Int)) {r : Int × Int × (List (List Int)) × (List (List Int)) × Bool} (h : s_MeetProblem p_Labels p_Degree p_Nodes p_Edges q_Labels q_Degree q_Nodes q_Edges = some r) : Y.call 33 [D.agg [D.int .i64 p_Labels, D.int .i64 p_Degree, D.sl 32 (lst (fun x => D.sl 3 (lst (D.int .i64) x)) p_Nodes), D.sl 32 (lst (fun x => D.sl 3 (lst (D.int .i64) x)) p_Edges)], D.agg [D.int .i64 q_Labels, D.int .i64 q_Degree, D.sl 32 (lst (fun x => D.sl 3 (lst (D.int .i64) x)) q_Nodes), D.sl 32 (lst (fun x => D.sl 3 (lst (D.int .i64) x)) q_Edges)]] [] = some (D.tup [D.agg [D.int .i64 r.1, D.int .i64 r.2.1, D.own 32 (lst (fun x => D.own 3 (lst (D.int .i64) x)) r.2.2.1), D.own 32 (lst (fun x => D.own 3 (lst (D.int .i64) x)) r.2.2.2.1)], D.bool r.2.2.2.2], []) := by
  refine c33 ?_ rfl
  unfold k33
  unfold s_MeetProblem at h
  obtain ⟨r1_, hl1, h⟩ := bindS h
  try dsimp only at h
  have c1 := s_reTwo_call p_Labels p_Degree p_Nodes p_Edges q_Labels q_Degree q_Nodes q_Edges hl1
  by_cases e2 : r1_ = true
  · rw [if_pos e2] at h
    by_cases e3 : p_Labels = q_Labels
    · rw [if_pos e3] at h
      obtain ⟨r4_, hl4, h⟩ := bindS h
      try dsimp only at h
      have c4 := s_reBoth_call p_Nodes q_Nodes hl4
      obtain ⟨r5_, hl5, h⟩ := bindS h
      try dsimp only at h
      have c5 := s_reBoth_call p_Edges q_Edges hl5
      obtain rfl := Option.some.inj h
      simp (maxDischargeDepth := 9) only [↓xpre, xpost, xlst, xcore, yset, rg0, ↓reduceIte, Nat.reduceEqDiff, Nat.reduceLT, Nat.reduceLeDiff, Nat.reduceAdd, Nat.reduceMul, Nat.reduceMod, Nat.reduceSub, Nat.reduceBEq, Int.reduceLE, Int.reduceLT, Int.reduceEq, Int.reduceSub, Int.reduceAdd, Int.reduceToNat, Int.reduceNeg, c1, e2, decide_eq_true e3, c4, c5] <;> (repeat' apply And.intro) <;> first | rfl | exact ⟨_, rfl⟩ | simp [lst]
    · rw [if_neg e3] at h
      obtain rfl := Option.some.inj h
      simp (maxDischargeDepth := 9) only [↓xpre, xpost, xlst, xcore, yset, rg0, ↓reduceIte, Nat.reduceEqDiff, Nat.reduceLT, Nat.reduceLeDiff, Nat.reduceAdd, Nat.reduceMul, Nat.reduceMod, Nat.reduceSub, Nat.reduceBEq, Int.reduceLE, Int.reduceLT, Int.reduceEq, Int.reduceSub, Int.reduceAdd, Int.reduceToNat, Int.reduceNeg, c1, e2, e3] <;> (repeat' apply And.intro) <;> first | rfl | exact ⟨_, rfl⟩ | simp [lst]
  · rw [if_neg e2] at h
    have e2f : r1_ = false := Bool.eq_false_iff.mpr e2
    obtain rfl := Option.some.inj h
    simp (maxDischargeDepth := 9) only [↓xpre, xpost, xlst, xcore, yset, rg0, ↓reduceIte, Nat.reduceEqDiff, Nat.reduceLT, Nat.reduceLeDiff, Nat.reduceAdd, Nat.reduceMul, Nat.reduceMod, Nat.reduceSub, Nat.reduceBEq, Int.reduceLE, Int.reduceLT, Int.reduceEq, Int.reduceSub, Int.reduceAdd, Int.reduceToNat, Int.reduceNeg, c1, e2f] <;> (repeat' apply And.intro) <;> first | rfl | exact ⟨_, rfl⟩ | simp [lst]

theorem restr_both (a d : Int) (n e : List (List Int)) (a' d' : Int) (n' e' : List (List Int)) (hn : Short n) (he : Short e) (hn' : Short n') (he' : Short e') :
    ∃ x y, s_IsRestriction a d n e a' d' n' e' = some (x, y) ∧ i_IsRestriction a d n e a' d' n' e' = some (x, y) := by
  unfold s_IsRestriction i_IsRestriction
  rw [areTwo_eq a d n e a' d' n' e' hn he hn' he', reTwo_eq a d n e a' d' n' e' hn he hn' he', Option.bind_some, Option.bind_some]
  by_cases q : (isProb a d n e && (isProb a' d' n' e' && decide (d = d'))) = true
  · rw [if_pos q, if_pos q]
    simp only [Bool.and_eq_true, decide_eq_true_eq] at q
    obtain ⟨p1, p2, rfl⟩ := q
    obtain ⟨_, _, c1, c2⟩ := isProb_cut p1
    obtain ⟨_, _, c3, c4⟩ := isProb_cut p2
    obtain ⟨u1, u2⟩ := both_same hn hn' c1 c3
    obtain ⟨u3, u4⟩ := both_same he he' c2 c4
    rw [u1, u2, u3, u4]
    simp only [Option.bind_some]
    by_cases q1 : a = a'
    · rw [if_pos q1]
      by_cases q2 : ((bothL n n').length : Int) = (n.length : Int)
      · rw [if_pos q2]; exact ⟨_, _, rfl, rfl⟩
      · rw [if_neg q2]; exact ⟨_, _, rfl, rfl⟩
    · rw [if_neg q1]; exact ⟨_, _, rfl, rfl⟩
  · rw [if_neg q, if_neg q]; exact ⟨_, _, rfl, rfl⟩
theorem meet_both (a d : Int) (n e : List (List Int)) (a' d' : Int) (n' e' : List (List Int)) (hn : Short n) (he : Short e) (hn' : Short n') (he' : Short e') :
    ∃ L K N E ok, Short N ∧ Short E ∧ tot N ≤ tot n ∧ tot E ≤ tot e ∧ s_MeetProblem a d n e a' d' n' e' = some (L, K, N, E, ok) ∧ i_MeetProblem a d n e a' d' n' e' = some (L, K, N, E, ok) := by
  have t1 := tot_nonneg n
  have t2 := tot_nonneg e
  have z : tot [] = 0 := rfl
  unfold s_MeetProblem i_MeetProblem
  rw [areTwo_eq a d n e a' d' n' e' hn he hn' he', reTwo_eq a d n e a' d' n' e' hn he hn' he', Option.bind_some, Option.bind_some]
  by_cases q : (isProb a d n e && (isProb a' d' n' e' && decide (d = d'))) = true
  · rw [if_pos q, if_pos q]
    simp only [Bool.and_eq_true, decide_eq_true_eq] at q
    obtain ⟨p1, p2, rfl⟩ := q
    obtain ⟨_, _, c1, c2⟩ := isProb_cut p1
    obtain ⟨_, _, c3, c4⟩ := isProb_cut p2
    obtain ⟨u1, u2⟩ := both_same hn hn' c1 c3
    obtain ⟨u3, u4⟩ := both_same he he' c2 c4
    rw [u1, u2, u3, u4]
    simp only [Option.bind_some]
    by_cases q1 : a = a'
    · rw [if_pos q1]; exact ⟨_, _, _, _, _, hn.filter _, he.filter _, (tot_filter _ _).1, (tot_filter _ _).1, rfl, rfl⟩
    · rw [if_neg q1]; exact ⟨_, _, _, _, _, Short.nil, Short.nil, by omega, by omega, rfl, rfl⟩
  · rw [if_neg q, if_neg q]; exact ⟨_, _, _, _, _, Short.nil, Short.nil, by omega, by omega, rfl, rfl⟩
noncomputable def l_FnExactIsRestriction (aP_Labels : Int) (aP_Degree : Int) (aP_Nodes : List (List Int)) (aP_Edges : List (List Int)) (aQ_Labels : Int) (aQ_Degree : Int) (aQ_Nodes : List (List Int)) (aQ_Edges : List (List Int)) : Option (Bool) :=
  ck (Wide aP_Nodes) <|
  ck (Wide aP_Edges) <|
  ck (0 ≤ (1048576 : Int) ∧ (1048576 : Int) ≤ 1048576) <|
  if (szP (1048576 : Int) aP_Nodes aP_Edges) < 0 then
    some true
  else
    ck (Wide aQ_Nodes) <|
    ck (Wide aQ_Edges) <|
    ck (0 ≤ (szP (1048576 : Int) aP_Nodes aP_Edges) ∧ (szP (1048576 : Int) aP_Nodes aP_Edges) ≤ 1048576) <|
    if (szP (szP (1048576 : Int) aP_Nodes aP_Edges) aQ_Nodes aQ_Edges) < 0 then
      some true
    else
      ck (Short aP_Nodes) <|
      ck (Short aP_Edges) <|
      ck (Short aQ_Nodes) <|
      ck (Short aQ_Edges) <|
      (s_IsRestriction aP_Labels aP_Degree aP_Nodes aP_Edges aQ_Labels aQ_Degree aQ_Nodes aQ_Edges).bind fun r17_ =>
      (i_IsRestriction aP_Labels aP_Degree aP_Nodes aP_Edges aQ_Labels aQ_Degree aQ_Nodes aQ_Edges).bind fun r20_ =>
      if r20_.1 = true then
        if r17_.1 = true then
          if r20_.2 = true then
            if r17_.2 = true then
              if (sameP aP_Labels aP_Degree aP_Nodes aP_Edges aP_Labels aP_Degree aP_Nodes aP_Edges) = true then
                if (sameP aQ_Labels aQ_Degree aQ_Nodes aQ_Edges aQ_Labels aQ_Degree aQ_Nodes aQ_Edges) = true then
                  some true
                else
                  some false
              else
                some false
            else
              some false
          else
            if r17_.2 = true then
              some false
            else
              if (sameP aP_Labels aP_Degree aP_Nodes aP_Edges aP_Labels aP_Degree aP_Nodes aP_Edges) = true then
                if (sameP aQ_Labels aQ_Degree aQ_Nodes aQ_Edges aQ_Labels aQ_Degree aQ_Nodes aQ_Edges) = true then
                  some true
                else
                  some false
              else
                some false
        else
          some false
      else
        if r17_.1 = true then
          some false
        else
          if r20_.2 = true then
            if r17_.2 = true then
              if (sameP aP_Labels aP_Degree aP_Nodes aP_Edges aP_Labels aP_Degree aP_Nodes aP_Edges) = true then
                if (sameP aQ_Labels aQ_Degree aQ_Nodes aQ_Edges aQ_Labels aQ_Degree aQ_Nodes aQ_Edges) = true then
                  some true
                else
                  some false
              else
                some false
            else
              some false
          else
            if r17_.2 = true then
              some false
            else
              if (sameP aP_Labels aP_Degree aP_Nodes aP_Edges aP_Labels aP_Degree aP_Nodes aP_Edges) = true then
                if (sameP aQ_Labels aQ_Degree aQ_Nodes aQ_Edges aQ_Labels aQ_Degree aQ_Nodes aQ_Edges) = true then
                  some true
                else
                  some false
              else
                some false
/-- laws.FnExactIsRestriction -/
def k3 : SC :=
  .seq
    (.ops [
      ⟨(some 2), (Op.box 24 (Operand.tmp 0)), 0, none⟩,
      ⟨(some 3), (Op.box 24 (Operand.tmp 1)), 0, none⟩,
      ⟨(some 4), (Op.assign (Operand.const (Value.bool false))), 4, none⟩])
    (.seq
      (.ops [
        ⟨(some 5), (Op.assign (Operand.const (Value.int IntKind.i64 1048576))), 3, none⟩])
      (.seq
        (.ops [
          ⟨(some 12), (Op.load 24 (Operand.tmp 2)), 24, none⟩,
          ⟨(some 13), (Op.move (Operand.tmp 5)), 3, none⟩,
          ⟨(some 14), (Op.call { callee := (Callee.value (Operand.func 15)), args := #[(Operand.tmp 12), (Operand.tmp 13)], argTypes := #[24, 3] }), 3, none⟩,
          ⟨(some 5), (Op.assign (Operand.tmp 14)), 3, none⟩])
        (.seq
          (.seq
            (.ops [
              ⟨(some 15), (Op.move (Operand.tmp 5)), 3, none⟩,
              ⟨(some 16), (Op.binOp BinOp.lss 3 (Operand.tmp 15) (Operand.const (Value.int IntKind.i64 0)) 3), 4, none⟩])
            (.cond (Operand.tmp 16)
              (.seq
                (.ops [
                  ⟨(some 4), (Op.assign (Operand.const (Value.bool true))), 4, none⟩])
                .ret)
              .skip))
          (.seq
            (.ops [
              ⟨(some 17), (Op.load 24 (Operand.tmp 3)), 24, none⟩,
              ⟨(some 18), (Op.move (Operand.tmp 5)), 3, none⟩,
              ⟨(some 19), (Op.call { callee := (Callee.value (Operand.func 15)), args := #[(Operand.tmp 17), (Operand.tmp 18)], argTypes := #[24, 3] }), 3, none⟩,
              ⟨(some 5), (Op.assign (Operand.tmp 19)), 3, none⟩])
            (.seq
              (.seq
                (.ops [
                  ⟨(some 20), (Op.move (Operand.tmp 5)), 3, none⟩,
                  ⟨(some 21), (Op.binOp BinOp.lss 3 (Operand.tmp 20) (Operand.const (Value.int IntKind.i64 0)) 3), 4, none⟩])
                (.cond (Operand.tmp 21)
                  (.seq
                    (.ops [
                      ⟨(some 4), (Op.assign (Operand.const (Value.bool true))), 4, none⟩])
                    .ret)
                  .skip))
              (.seq
                (.draws [
                  (⟨[23, 2, 2], [23, 24, 25, 26, 27, 22, 27, 28, 29, 6, 28, 27, 7, 29], [23]⟩, ⟨(some 23), (Op.load 24 (Operand.tmp 2)), 24, none⟩),
                  (⟨[24, 23, 2], [23, 24, 25, 26, 27, 22, 27, 28, 29, 6, 28, 27, 7, 29], [24]⟩, ⟨(some 24), (Op.call { callee := (Callee.value (Operand.func 17)), args := #[(Operand.tmp 23)], argTypes := #[24] }), 28, none⟩),
                  (⟨[25, 3, 3], [23, 24, 25, 26, 27, 22, 27, 28, 29, 6, 28, 27, 7, 29], [25]⟩, ⟨(some 25), (Op.load 24 (Operand.tmp 3)), 24, none⟩),
                  (⟨[26, 25, 3], [23, 24, 25, 26, 27, 22, 27, 28, 29, 6, 28, 27, 7, 29], [26]⟩, ⟨(some 26), (Op.call { callee := (Callee.value (Operand.func 17)), args := #[(Operand.tmp 25)], argTypes := #[24] }), 28, none⟩),
                  (⟨[27, 24, 26, 24, 26], [23, 24, 25, 26, 27, 22, 27, 28, 29, 6, 28, 27, 7, 29], [27]⟩, ⟨(some 27), (Op.call { callee := (Callee.value (Operand.func 16)), args := #[(Operand.tmp 24), (Operand.tmp 26)], argTypes := #[28, 28] }), 26, none⟩),
                  (⟨[22, 27, 27], [23, 24, 25, 26, 27, 22, 27, 28, 29, 6, 28, 27, 7, 29], [22, 27]⟩, ⟨(some 22), (Op.move (Operand.tmp 27)), 26, none⟩),
                  (⟨[28, 22], [23, 24, 25, 26, 27, 22, 27, 28, 29, 6, 28, 27, 7, 29], [28]⟩, ⟨(some 28), (Op.extract (Operand.tmp 22) 0), 4, none⟩),
                  (⟨[29, 22], [23, 24, 25, 26, 27, 22, 27, 28, 29, 6, 28, 27, 7, 29], [29]⟩, ⟨(some 29), (Op.extract (Operand.tmp 22) 1), 4, none⟩),
                  (⟨[6, 28, 27], [23, 24, 25, 26, 27, 22, 27, 28, 29, 6, 28, 27, 7, 29], [6, 28, 27]⟩, ⟨(some 6), (Op.assign (Operand.tmp 28)), 4, none⟩),
                  (⟨[7, 29], [23, 24, 25, 26, 27, 22, 27, 28, 29, 6, 28, 27, 7, 29], [7, 29]⟩, ⟨(some 7), (Op.assign (Operand.tmp 29)), 4, none⟩)])
                (.seq
                  (.ops [
                    ⟨(some 30), (Op.load 24 (Operand.tmp 2)), 24, none⟩,
                    ⟨(some 31), (Op.call { callee := (Callee.value (Operand.func 17)), args := #[(Operand.tmp 30)], argTypes := #[24] }), 28, none⟩,
                    ⟨(some 8), (Op.alloc 28), 0, none⟩,
                    ⟨none, (Op.store 28 (Operand.tmp 8) (Operand.tmp 31)), 0, none⟩])
                  (.seq
                    (.ops [
                      ⟨(some 32), (Op.load 24 (Operand.tmp 3)), 24, none⟩,
                      ⟨(some 33), (Op.call { callee := (Callee.value (Operand.func 17)), args := #[(Operand.tmp 32)], argTypes := #[24] }), 28, none⟩,
                      ⟨(some 9), (Op.alloc 28), 0, none⟩,
                      ⟨none, (Op.store 28 (Operand.tmp 9) (Operand.tmp 33)), 0, none⟩])
                    (.seq
                      (.ops [
                        ⟨(some 35), (Op.load 28 (Operand.tmp 8)), 28, none⟩,
                        ⟨(some 36), (Op.load 28 (Operand.tmp 9)), 28, none⟩,
                        ⟨(some 37), (Op.call { callee := (Callee.value (Operand.func 18)), args := #[(Operand.tmp 35), (Operand.tmp 36)], argTypes := #[28, 28] }), 26, none⟩,
                        ⟨(some 34), (Op.move (Operand.tmp 37)), 26, none⟩,
                        ⟨(some 38), (Op.extract (Operand.tmp 34) 0), 4, none⟩,
                        ⟨(some 39), (Op.extract (Operand.tmp 34) 1), 4, none⟩,
                        ⟨(some 10), (Op.assign (Operand.tmp 38)), 4, none⟩,
                        ⟨(some 11), (Op.assign (Operand.tmp 39)), 4, none⟩])
                      (.seq
                        (.seq
                          (.ops [
                            ⟨(some 40), (Op.move (Operand.tmp 10)), 4, none⟩,
                            ⟨(some 41), (Op.move (Operand.tmp 6)), 4, none⟩,
                            ⟨(some 42), (Op.binOp BinOp.neq 4 (Operand.tmp 40) (Operand.tmp 41) 4), 4, none⟩,
                            ⟨(some 43), (Op.move (Operand.tmp 42)), 4, none⟩,
                            ⟨(some 44), (Op.move (Operand.tmp 11)), 4, (some (some 43, false))⟩,
                            ⟨(some 45), (Op.move (Operand.tmp 7)), 4, (some (some 43, false))⟩,
                            ⟨(some 46), (Op.binOp BinOp.neq 4 (Operand.tmp 44) (Operand.tmp 45) 4), 4, (some (some 43, false))⟩,
                            ⟨(some 47), (Op.pick (Operand.tmp 43) (Operand.const (Value.bool true)) (Operand.tmp 46)), 4, none⟩])
                          (.cond (Operand.tmp 47)
                            (.seq
                              (.ops [
                                ⟨(some 4), (Op.assign (Operand.const (Value.bool false))), 4, none⟩])
                              .ret)
                            .skip))
                        (.seq
                          (.seq
                            (.draws [
                              (⟨[48, 8, 8], [48, 49, 50, 51, 52], [48]⟩, ⟨(some 48), (Op.load 28 (Operand.tmp 8)), 28, none⟩),
                              (⟨[49, 2, 2], [48, 49, 50, 51, 52], [49]⟩, ⟨(some 49), (Op.load 24 (Operand.tmp 2)), 24, none⟩),
                              (⟨[50, 49, 2], [48, 49, 50, 51, 52], [50]⟩, ⟨(some 50), (Op.call { callee := (Callee.value (Operand.func 17)), args := #[(Operand.tmp 49)], argTypes := #[24] }), 28, none⟩),
                              (⟨[51, 48, 50, 8, 50], [48, 49, 50, 51, 52], [51]⟩, ⟨(some 51), (Op.call { callee := (Callee.value (Operand.func 19)), args := #[(Operand.tmp 48), (Operand.tmp 50)], argTypes := #[28, 28] }), 4, none⟩),
                              (⟨[52, 51, 51], [48, 49, 50, 51, 52], [52]⟩, ⟨(some 52), (Op.unOp UnOp.not 4 (Operand.tmp 51)), 4, none⟩)])
                            (.cond (Operand.tmp 52)
                              (.seq
                                (.ops [
                                  ⟨(some 4), (Op.assign (Operand.const (Value.bool false))), 4, none⟩])
                                .ret)
                              .skip))
                          (.seq
                            (.seq
                              (.draws [
                                (⟨[53, 9, 9], [53, 54, 55, 56, 57], [53]⟩, ⟨(some 53), (Op.load 28 (Operand.tmp 9)), 28, none⟩),
                                (⟨[54, 3, 3], [53, 54, 55, 56, 57], [54]⟩, ⟨(some 54), (Op.load 24 (Operand.tmp 3)), 24, none⟩),
                                (⟨[55, 54, 3], [53, 54, 55, 56, 57], [55]⟩, ⟨(some 55), (Op.call { callee := (Callee.value (Operand.func 17)), args := #[(Operand.tmp 54)], argTypes := #[24] }), 28, none⟩),
                                (⟨[56, 53, 55, 9, 55], [53, 54, 55, 56, 57], [56]⟩, ⟨(some 56), (Op.call { callee := (Callee.value (Operand.func 19)), args := #[(Operand.tmp 53), (Operand.tmp 55)], argTypes := #[28, 28] }), 4, none⟩),
                                (⟨[57, 56, 56], [53, 54, 55, 56, 57], [57]⟩, ⟨(some 57), (Op.unOp UnOp.not 4 (Operand.tmp 56)), 4, none⟩)])
                              (.cond (Operand.tmp 57)
                                (.seq
                                  (.ops [
                                    ⟨(some 4), (Op.assign (Operand.const (Value.bool false))), 4, none⟩])
                                  .ret)
                                .skip))
                            (.seq
                              (.ops [
                                ⟨(some 4), (Op.assign (Operand.const (Value.bool true))), 4, none⟩])
                              .ret)))))))))))))
theorem slim3 : Try.f3.body.map (slim lends) = some k3 := by kernel_rfl
theorem ok3 : fnOk Try.f3 2 = true := by kernel_rfl
theorem c3 {a l : List D} {r : D × List D} (h : wpD Y.env k3 (fin tys l.length [ResultVar.tmp 4] r) (entry a l)) (ha : a.length = 2) : Y.call 3 a l = some r :=
  call_slim (Y := Y) rfl Try.func3 (ha ▸ ok3) slim3 h
theorem l_FnExactIsRestriction_call (aP_Labels : Int) (aP_Degree : Int) (aP_Nodes : List (List Int)) (aP_Edges : List (List Int)) (aQ_Labels : Int) (aQ_Degree : Int) (aQ_Nodes : List (List Int)) (aQ_Edges : List (List Int)) {r : Bool} (h : l_FnExactIsRestriction aP_Labels aP_Degree aP_Nodes aP_Edges aQ_Labels aQ_Degree aQ_Nodes aQ_Edges = some r) : Y.call 3 [D.agg [D.int .i64 aP_Labels, D.int .i64 aP_Degree, D.sl 32 (lst (fun x => D.sl 3 (lst (D.int .i64) x)) aP_Nodes), D.sl 32 (lst (fun x => D.sl 3 (lst (D.int .i64) x)) aP_Edges)], D.agg [D.int .i64 aQ_Labels, D.int .i64 aQ_Degree, D.sl 32 (lst (fun x => D.sl 3 (lst (D.int .i64) x)) aQ_Nodes), D.sl 32 (lst (fun x => D.sl 3 (lst (D.int .i64) x)) aQ_Edges)]] [] = some (D.bool r, []) := by
  refine c3 ?_ rfl
  unfold k3
  unfold l_FnExactIsRestriction at h
  obtain ⟨e1, h⟩ := ckS h
  obtain ⟨e2, h⟩ := ckS h
  obtain ⟨e3, h⟩ := ckS h
  have c4 := l_szProblem_cl aP_Labels aP_Degree aP_Nodes aP_Edges (1048576 : Int) e1 e2 e3
  by_cases e5 : (szP (1048576 : Int) aP_Nodes aP_Edges) < 0
  · rw [if_pos e5] at h
    obtain rfl := Option.some.inj h
    simp (maxDischargeDepth := 9) only [↓xpre, xpost, xlst, xcore, yset, rg0, ↓reduceIte, Nat.reduceEqDiff, Nat.reduceLT, Nat.reduceLeDiff, Nat.reduceAdd, Nat.reduceMul, Nat.reduceMod, Nat.reduceSub, Nat.reduceBEq, Int.reduceLE, Int.reduceLT, Int.reduceEq, Int.reduceSub, Int.reduceAdd, Int.reduceToNat, Int.reduceNeg, e1, e2, e3.1, e3.2, c4, e5] <;> (repeat' apply And.intro) <;> first | rfl | exact ⟨_, rfl⟩ | simp [lst]
  · rw [if_neg e5] at h
    obtain ⟨e6, h⟩ := ckS h
    obtain ⟨e7, h⟩ := ckS h
    obtain ⟨e8, h⟩ := ckS h
    have c9 := l_szProblem_cl aQ_Labels aQ_Degree aQ_Nodes aQ_Edges (szP (1048576 : Int) aP_Nodes aP_Edges) e6 e7 e8
    by_cases e10 : (szP (szP (1048576 : Int) aP_Nodes aP_Edges) aQ_Nodes aQ_Edges) < 0
    · rw [if_pos e10] at h
      obtain rfl := Option.some.inj h
      simp (maxDischargeDepth := 9) only [↓xpre, xpost, xlst, xcore, yset, rg0, ↓reduceIte, Nat.reduceEqDiff, Nat.reduceLT, Nat.reduceLeDiff, Nat.reduceAdd, Nat.reduceMul, Nat.reduceMod, Nat.reduceSub, Nat.reduceBEq, Int.reduceLE, Int.reduceLT, Int.reduceEq, Int.reduceSub, Int.reduceAdd, Int.reduceToNat, Int.reduceNeg, e1, e2, e3.1, e3.2, c4, e5, e6, e7, e8.1, e8.2, c9, e10] <;> (repeat' apply And.intro) <;> first | rfl | exact ⟨_, rfl⟩ | simp [lst]
    · rw [if_neg e10] at h
      obtain ⟨e11, h⟩ := ckS h
      obtain ⟨e12, h⟩ := ckS h
      have c13 := l_toProblem_cl aP_Labels aP_Degree aP_Nodes aP_Edges e11 e12
      obtain ⟨e14, h⟩ := ckS h
      obtain ⟨e15, h⟩ := ckS h
      have c16 := l_toProblem_cl aQ_Labels aQ_Degree aQ_Nodes aQ_Edges e14 e15
      obtain ⟨r17_, hl17, h⟩ := bindS h
      try dsimp only at h
      have c17 := s_IsRestriction_call aP_Labels aP_Degree aP_Nodes aP_Edges aQ_Labels aQ_Degree aQ_Nodes aQ_Edges hl17
      have c18 := l_toProblem_cl aP_Labels aP_Degree aP_Nodes aP_Edges e11 e12
      have c19 := l_toProblem_cl aQ_Labels aQ_Degree aQ_Nodes aQ_Edges e14 e15
      obtain ⟨r20_, hl20, h⟩ := bindS h
      try dsimp only at h
      have c20 := i_IsRestriction_call aP_Labels aP_Degree aP_Nodes aP_Edges aQ_Labels aQ_Degree aQ_Nodes aQ_Edges hl20
      by_cases e21 : r20_.1 = true
      · rw [if_pos e21] at h
        by_cases e22 : r17_.1 = true
        · rw [if_pos e22] at h
          by_cases e23 : r20_.2 = true
          · rw [if_pos e23] at h
            by_cases e24 : r17_.2 = true
            · rw [if_pos e24] at h
              have c25 := l_toProblem_cl aP_Labels aP_Degree aP_Nodes aP_Edges e11 e12
              have c26 := l_eqProblem_cl aP_Labels aP_Degree aP_Nodes aP_Edges aP_Labels aP_Degree aP_Nodes aP_Edges e11 e12
              by_cases e27 : (sameP aP_Labels aP_Degree aP_Nodes aP_Edges aP_Labels aP_Degree aP_Nodes aP_Edges) = true
              · rw [if_pos e27] at h
                have c28 := l_toProblem_cl aQ_Labels aQ_Degree aQ_Nodes aQ_Edges e14 e15
                have c29 := l_eqProblem_cl aQ_Labels aQ_Degree aQ_Nodes aQ_Edges aQ_Labels aQ_Degree aQ_Nodes aQ_Edges e14 e15
                by_cases e30 : (sameP aQ_Labels aQ_Degree aQ_Nodes aQ_Edges aQ_Labels aQ_Degree aQ_Nodes aQ_Edges) = true
                · rw [if_pos e30] at h
                  obtain rfl := Option.some.inj h
                  simp (maxDischargeDepth := 9) only [↓xpre, xpost, xlst, xcore, yset, rg0, ↓reduceIte, Nat.reduceEqDiff, Nat.reduceLT, Nat.reduceLeDiff, Nat.reduceAdd, Nat.reduceMul, Nat.reduceMod, Nat.reduceSub, Nat.reduceBEq, Int.reduceLE, Int.reduceLT, Int.reduceEq, Int.reduceSub, Int.reduceAdd, Int.reduceToNat, Int.reduceNeg, e1, e2, e3.1, e3.2, c4, e5, e6, e7, e8.1, e8.2, c9, e10, e11, e12, c13, e14, e15, c16, c17, c18, c19, c20, e21, e22, e23, e24, c25, c26, e27, c28, c29, e30] <;> (repeat' apply And.intro) <;> first | rfl | exact ⟨_, rfl⟩ | simp [lst]
                · rw [if_neg e30] at h
                  have e30f : (sameP aQ_Labels aQ_Degree aQ_Nodes aQ_Edges aQ_Labels aQ_Degree aQ_Nodes aQ_Edges) = false := Bool.eq_false_iff.mpr e30
                  obtain rfl := Option.some.inj h
                  simp (maxDischargeDepth := 9) only [↓xpre, xpost, xlst, xcore, yset, rg0, ↓reduceIte, Nat.reduceEqDiff, Nat.reduceLT, Nat.reduceLeDiff, Nat.reduceAdd, Nat.reduceMul, Nat.reduceMod, Nat.reduceSub, Nat.reduceBEq, Int.reduceLE, Int.reduceLT, Int.reduceEq, Int.reduceSub, Int.reduceAdd, Int.reduceToNat, Int.reduceNeg, e1, e2, e3.1, e3.2, c4, e5, e6, e7, e8.1, e8.2, c9, e10, e11, e12, c13, e14, e15, c16, c17, c18, c19, c20, e21, e22, e23, e24, c25, c26, e27, c28, c29, e30f] <;> (repeat' apply And.intro) <;> first | rfl | exact ⟨_, rfl⟩ | simp [lst]
              · rw [if_neg e27] at h
                have e27f : (sameP aP_Labels aP_Degree aP_Nodes aP_Edges aP_Labels aP_Degree aP_Nodes aP_Edges) = false := Bool.eq_false_iff.mpr e27
                obtain rfl := Option.some.inj h
                simp (maxDischargeDepth := 9) only [↓xpre, xpost, xlst, xcore, yset, rg0, ↓reduceIte, Nat.reduceEqDiff, Nat.reduceLT, Nat.reduceLeDiff, Nat.reduceAdd, Nat.reduceMul, Nat.reduceMod, Nat.reduceSub, Nat.reduceBEq, Int.reduceLE, Int.reduceLT, Int.reduceEq, Int.reduceSub, Int.reduceAdd, Int.reduceToNat, Int.reduceNeg, e1, e2, e3.1, e3.2, c4, e5, e6, e7, e8.1, e8.2, c9, e10, e11, e12, c13, e14, e15, c16, c17, c18, c19, c20, e21, e22, e23, e24, c25, c26, e27f] <;> (repeat' apply And.intro) <;> first | rfl | exact ⟨_, rfl⟩ | simp [lst]
            · rw [if_neg e24] at h
              have e24f : r17_.2 = false := Bool.eq_false_iff.mpr e24
              obtain rfl := Option.some.inj h
              simp (maxDischargeDepth := 9) only [↓xpre, xpost, xlst, xcore, yset, rg0, ↓reduceIte, Nat.reduceEqDiff, Nat.reduceLT, Nat.reduceLeDiff, Nat.reduceAdd, Nat.reduceMul, Nat.reduceMod, Nat.reduceSub, Nat.reduceBEq, Int.reduceLE, Int.reduceLT, Int.reduceEq, Int.reduceSub, Int.reduceAdd, Int.reduceToNat, Int.reduceNeg, e1, e2, e3.1, e3.2, c4, e5, e6, e7, e8.1, e8.2, c9, e10, e11, e12, c13, e14, e15, c16, c17, c18, c19, c20, e21, e22, e23, e24f] <;> (repeat' apply And.intro) <;> first | rfl | exact ⟨_, rfl⟩ | simp [lst]
          · rw [if_neg e23] at h
            have e23f : r20_.2 = false := Bool.eq_false_iff.mpr e23
            by_cases e24 : r17_.2 = true
            · rw [if_pos e24] at h
              obtain rfl := Option.some.inj h
              simp (maxDischargeDepth := 9) only [↓xpre, xpost, xlst, xcore, yset, rg0, ↓reduceIte, Nat.reduceEqDiff, Nat.reduceLT, Nat.reduceLeDiff, Nat.reduceAdd, Nat.reduceMul, Nat.reduceMod, Nat.reduceSub, Nat.reduceBEq, Int.reduceLE, Int.reduceLT, Int.reduceEq, Int.reduceSub, Int.reduceAdd, Int.reduceToNat, Int.reduceNeg, e1, e2, e3.1, e3.2, c4, e5, e6, e7, e8.1, e8.2, c9, e10, e11, e12, c13, e14, e15, c16, c17, c18, c19, c20, e21, e22, e23f, e24] <;> (repeat' apply And.intro) <;> first | rfl | exact ⟨_, rfl⟩ | simp [lst]
            · rw [if_neg e24] at h
              have e24f : r17_.2 = false := Bool.eq_false_iff.mpr e24
              have c25 := l_toProblem_cl aP_Labels aP_Degree aP_Nodes aP_Edges e11 e12
              have c26 := l_eqProblem_cl aP_Labels aP_Degree aP_Nodes aP_Edges aP_Labels aP_Degree aP_Nodes aP_Edges e11 e12
              by_cases e27 : (sameP aP_Labels aP_Degree aP_Nodes aP_Edges aP_Labels aP_Degree aP_Nodes aP_Edges) = true
              · rw [if_pos e27] at h
                have c28 := l_toProblem_cl aQ_Labels aQ_Degree aQ_Nodes aQ_Edges e14 e15
                have c29 := l_eqProblem_cl aQ_Labels aQ_Degree aQ_Nodes aQ_Edges aQ_Labels aQ_Degree aQ_Nodes aQ_Edges e14 e15
                by_cases e30 : (sameP aQ_Labels aQ_Degree aQ_Nodes aQ_Edges aQ_Labels aQ_Degree aQ_Nodes aQ_Edges) = true
                · rw [if_pos e30] at h
                  obtain rfl := Option.some.inj h
                  simp (maxDischargeDepth := 9) only [↓xpre, xpost, xlst, xcore, yset, rg0, ↓reduceIte, Nat.reduceEqDiff, Nat.reduceLT, Nat.reduceLeDiff, Nat.reduceAdd, Nat.reduceMul, Nat.reduceMod, Nat.reduceSub, Nat.reduceBEq, Int.reduceLE, Int.reduceLT, Int.reduceEq, Int.reduceSub, Int.reduceAdd, Int.reduceToNat, Int.reduceNeg, e1, e2, e3.1, e3.2, c4, e5, e6, e7, e8.1, e8.2, c9, e10, e11, e12, c13, e14, e15, c16, c17, c18, c19, c20, e21, e22, e23f, e24f, c25, c26, e27, c28, c29, e30] <;> (repeat' apply And.intro) <;> first | rfl | exact ⟨_, rfl⟩ | simp [lst]
                · rw [if_neg e30] at h
                  have e30f : (sameP aQ_Labels aQ_Degree aQ_Nodes aQ_Edges aQ_Labels aQ_Degree aQ_Nodes aQ_Edges) = false := Bool.eq_false_iff.mpr e30
                  obtain rfl := Option.some.inj h
                  simp (maxDischargeDepth := 9) only [↓xpre, xpost, xlst, xcore, yset, rg0, ↓reduceIte, Nat.reduceEqDiff, Nat.reduceLT, Nat.reduceLeDiff, Nat.reduceAdd, Nat.reduceMul, Nat.reduceMod, Nat.reduceSub, Nat.reduceBEq, Int.reduceLE, Int.reduceLT, Int.reduceEq, Int.reduceSub, Int.reduceAdd, Int.reduceToNat, Int.reduceNeg, e1, e2, e3.1, e3.2, c4, e5, e6, e7, e8.1, e8.2, c9, e10, e11, e12, c13, e14, e15, c16, c17, c18, c19, c20, e21, e22, e23f, e24f, c25, c26, e27, c28, c29, e30f] <;> (repeat' apply And.intro) <;> first | rfl | exact ⟨_, rfl⟩ | simp [lst]
              · rw [if_neg e27] at h
                have e27f : (sameP aP_Labels aP_Degree aP_Nodes aP_Edges aP_Labels aP_Degree aP_Nodes aP_Edges) = false := Bool.eq_false_iff.mpr e27
                obtain rfl := Option.some.inj h
                simp (maxDischargeDepth := 9) only [↓xpre, xpost, xlst, xcore, yset, rg0, ↓reduceIte, Nat.reduceEqDiff, Nat.reduceLT, Nat.reduceLeDiff, Nat.reduceAdd, Nat.reduceMul, Nat.reduceMod, Nat.reduceSub, Nat.reduceBEq, Int.reduceLE, Int.reduceLT, Int.reduceEq, Int.reduceSub, Int.reduceAdd, Int.reduceToNat, Int.reduceNeg, e1, e2, e3.1, e3.2, c4, e5, e6, e7, e8.1, e8.2, c9, e10, e11, e12, c13, e14, e15, c16, c17, c18, c19, c20, e21, e22, e23f, e24f, c25, c26, e27f] <;> (repeat' apply And.intro) <;> first | rfl | exact ⟨_, rfl⟩ | simp [lst]
        · rw [if_neg e22] at h
          have e22f : r17_.1 = false := Bool.eq_false_iff.mpr e22
          obtain rfl := Option.some.inj h
          simp (maxDischargeDepth := 9) only [↓xpre, xpost, xlst, xcore, yset, rg0, ↓reduceIte, Nat.reduceEqDiff, Nat.reduceLT, Nat.reduceLeDiff, Nat.reduceAdd, Nat.reduceMul, Nat.reduceMod, Nat.reduceSub, Nat.reduceBEq, Int.reduceLE, Int.reduceLT, Int.reduceEq, Int.reduceSub, Int.reduceAdd, Int.reduceToNat, Int.reduceNeg, e1, e2, e3.1, e3.2, c4, e5, e6, e7, e8.1, e8.2, c9, e10, e11, e12, c13, e14, e15, c16, c17, c18, c19, c20, e21, e22f] <;> (repeat' apply And.intro) <;> first | rfl | exact ⟨_, rfl⟩ | simp [lst]
      · rw [if_neg e21] at h
        have e21f : r20_.1 = false := Bool.eq_false_iff.mpr e21
        by_cases e22 : r17_.1 = true
        · rw [if_pos e22] at h
          obtain rfl := Option.some.inj h
          simp (maxDischargeDepth := 9) only [↓xpre, xpost, xlst, xcore, yset, rg0, ↓reduceIte, Nat.reduceEqDiff, Nat.reduceLT, Nat.reduceLeDiff, Nat.reduceAdd, Nat.reduceMul, Nat.reduceMod, Nat.reduceSub, Nat.reduceBEq, Int.reduceLE, Int.reduceLT, Int.reduceEq, Int.reduceSub, Int.reduceAdd, Int.reduceToNat, Int.reduceNeg, e1, e2, e3.1, e3.2, c4, e5, e6, e7, e8.1, e8.2, c9, e10, e11, e12, c13, e14, e15, c16, c17, c18, c19, c20, e21f, e22] <;> (repeat' apply And.intro) <;> first | rfl | exact ⟨_, rfl⟩ | simp [lst]
        · rw [if_neg e22] at h
          have e22f : r17_.1 = false := Bool.eq_false_iff.mpr e22
          by_cases e23 : r20_.2 = true
          · rw [if_pos e23] at h
            by_cases e24 : r17_.2 = true
            · rw [if_pos e24] at h
              have c25 := l_toProblem_cl aP_Labels aP_Degree aP_Nodes aP_Edges e11 e12
              have c26 := l_eqProblem_cl aP_Labels aP_Degree aP_Nodes aP_Edges aP_Labels aP_Degree aP_Nodes aP_Edges e11 e12
              by_cases e27 : (sameP aP_Labels aP_Degree aP_Nodes aP_Edges aP_Labels aP_Degree aP_Nodes aP_Edges) = true
              · rw [if_pos e27] at h
                have c28 := l_toProblem_cl aQ_Labels aQ_Degree aQ_Nodes aQ_Edges e14 e15
                have c29 := l_eqProblem_cl aQ_Labels aQ_Degree aQ_Nodes aQ_Edges aQ_Labels aQ_Degree aQ_Nodes aQ_Edges e14 e15
                by_cases e30 : (sameP aQ_Labels aQ_Degree aQ_Nodes aQ_Edges aQ_Labels aQ_Degree aQ_Nodes aQ_Edges) = true
                · rw [if_pos e30] at h
                  obtain rfl := Option.some.inj h
                  simp (maxDischargeDepth := 9) only [↓xpre, xpost, xlst, xcore, yset, rg0, ↓reduceIte, Nat.reduceEqDiff, Nat.reduceLT, Nat.reduceLeDiff, Nat.reduceAdd, Nat.reduceMul, Nat.reduceMod, Nat.reduceSub, Nat.reduceBEq, Int.reduceLE, Int.reduceLT, Int.reduceEq, Int.reduceSub, Int.reduceAdd, Int.reduceToNat, Int.reduceNeg, e1, e2, e3.1, e3.2, c4, e5, e6, e7, e8.1, e8.2, c9, e10, e11, e12, c13, e14, e15, c16, c17, c18, c19, c20, e21f, e22f, e23, e24, c25, c26, e27, c28, c29, e30] <;> (repeat' apply And.intro) <;> first | rfl | exact ⟨_, rfl⟩ | simp [lst]
                · rw [if_neg e30] at h
                  have e30f : (sameP aQ_Labels aQ_Degree aQ_Nodes aQ_Edges aQ_Labels aQ_Degree aQ_Nodes aQ_Edges) = false := Bool.eq_false_iff.mpr e30
                  obtain rfl := Option.some.inj h
                  simp (maxDischargeDepth := 9) only [↓xpre, xpost, xlst, xcore, yset, rg0, ↓reduceIte, Nat.reduceEqDiff, Nat.reduceLT, Nat.reduceLeDiff, Nat.reduceAdd, Nat.reduceMul, Nat.reduceMod, Nat.reduceSub, Nat.reduceBEq, Int.reduceLE, Int.reduceLT, Int.reduceEq, Int.reduceSub, Int.reduceAdd, Int.reduceToNat, Int.reduceNeg, e1, e2, e3.1, e3.2, c4, e5, e6, e7, e8.1, e8.2, c9, e10, e11, e12, c13, e14, e15, c16, c17, c18, c19, c20, e21f, e22f, e23, e24, c25, c26, e27, c28, c29, e30f] <;> (repeat' apply And.intro) <;> first | rfl | exact ⟨_, rfl⟩ | simp [lst]
              · rw [if_neg e27] at h
                have e27f : (sameP aP_Labels aP_Degree aP_Nodes aP_Edges aP_Labels aP_Degree aP_Nodes aP_Edges) = false := Bool.eq_false_iff.mpr e27
                obtain rfl := Option.some.inj h
                simp (maxDischargeDepth := 9) only [↓xpre, xpost, xlst, xcore, yset, rg0, ↓reduceIte, Nat.reduceEqDiff, Nat.reduceLT, Nat.reduceLeDiff, Nat.reduceAdd, Nat.reduceMul, Nat.reduceMod, Nat.reduceSub, Nat.reduceBEq, Int.reduceLE, Int.reduceLT, Int.reduceEq, Int.reduceSub, Int.reduceAdd, Int.reduceToNat, Int.reduceNeg, e1, e2, e3.1, e3.2, c4, e5, e6, e7, e8.1, e8.2, c9, e10, e11, e12, c13, e14, e15, c16, c17, c18, c19, c20, e21f, e22f, e23, e24, c25, c26, e27f] <;> (repeat' apply And.intro) <;> first | rfl | exact ⟨_, rfl⟩ | simp [lst]
            · rw [if_neg e24] at h
              have e24f : r17_.2 = false := Bool.eq_false_iff.mpr e24
              obtain rfl := Option.some.inj h
              simp (maxDischargeDepth := 9) only [↓xpre, xpost, xlst, xcore, yset, rg0, ↓reduceIte, Nat.reduceEqDiff, Nat.reduceLT, Nat.reduceLeDiff, Nat.reduceAdd, Nat.reduceMul, Nat.reduceMod, Nat.reduceSub, Nat.reduceBEq, Int.reduceLE, Int.reduceLT, Int.reduceEq, Int.reduceSub, Int.reduceAdd, Int.reduceToNat, Int.reduceNeg, e1, e2, e3.1, e3.2, c4, e5, e6, e7, e8.1, e8.2, c9, e10, e11, e12, c13, e14, e15, c16, c17, c18, c19, c20, e21f, e22f, e23, e24f] <;> (repeat' apply And.intro) <;> first | rfl | exact ⟨_, rfl⟩ | simp [lst]
          · rw [if_neg e23] at h
            have e23f : r20_.2 = false := Bool.eq_false_iff.mpr e23
            by_cases e24 : r17_.2 = true
            · rw [if_pos e24] at h
              obtain rfl := Option.some.inj h
              simp (maxDischargeDepth := 9) only [↓xpre, xpost, xlst, xcore, yset, rg0, ↓reduceIte, Nat.reduceEqDiff, Nat.reduceLT, Nat.reduceLeDiff, Nat.reduceAdd, Nat.reduceMul, Nat.reduceMod, Nat.reduceSub, Nat.reduceBEq, Int.reduceLE, Int.reduceLT, Int.reduceEq, Int.reduceSub, Int.reduceAdd, Int.reduceToNat, Int.reduceNeg, e1, e2, e3.1, e3.2, c4, e5, e6, e7, e8.1, e8.2, c9, e10, e11, e12, c13, e14, e15, c16, c17, c18, c19, c20, e21f, e22f, e23f, e24] <;> (repeat' apply And.intro) <;> first | rfl | exact ⟨_, rfl⟩ | simp [lst]
            · rw [if_neg e24] at h
              have e24f : r17_.2 = false := Bool.eq_false_iff.mpr e24
              have c25 := l_toProblem_cl aP_Labels aP_Degree aP_Nodes aP_Edges e11 e12
              have c26 := l_eqProblem_cl aP_Labels aP_Degree aP_Nodes aP_Edges aP_Labels aP_Degree aP_Nodes aP_Edges e11 e12
              by_cases e27 : (sameP aP_Labels aP_Degree aP_Nodes aP_Edges aP_Labels aP_Degree aP_Nodes aP_Edges) = true
              · rw [if_pos e27] at h
                have c28 := l_toProblem_cl aQ_Labels aQ_Degree aQ_Nodes aQ_Edges e14 e15
                have c29 := l_eqProblem_cl aQ_Labels aQ_Degree aQ_Nodes aQ_Edges aQ_Labels aQ_Degree aQ_Nodes aQ_Edges e14 e15
                by_cases e30 : (sameP aQ_Labels aQ_Degree aQ_Nodes aQ_Edges aQ_Labels aQ_Degree aQ_Nodes aQ_Edges) = true
                · rw [if_pos e30] at h
                  obtain rfl := Option.some.inj h
                  simp (maxDischargeDepth := 9) only [↓xpre, xpost, xlst, xcore, yset, rg0, ↓reduceIte, Nat.reduceEqDiff, Nat.reduceLT, Nat.reduceLeDiff, Nat.reduceAdd, Nat.reduceMul, Nat.reduceMod, Nat.reduceSub, Nat.reduceBEq, Int.reduceLE, Int.reduceLT, Int.reduceEq, Int.reduceSub, Int.reduceAdd, Int.reduceToNat, Int.reduceNeg, e1, e2, e3.1, e3.2, c4, e5, e6, e7, e8.1, e8.2, c9, e10, e11, e12, c13, e14, e15, c16, c17, c18, c19, c20, e21f, e22f, e23f, e24f, c25, c26, e27, c28, c29, e30] <;> (repeat' apply And.intro) <;> first | rfl | exact ⟨_, rfl⟩ | simp [lst]
                · rw [if_neg e30] at h
                  have e30f : (sameP aQ_Labels aQ_Degree aQ_Nodes aQ_Edges aQ_Labels aQ_Degree aQ_Nodes aQ_Edges) = false := Bool.eq_false_iff.mpr e30
                  obtain rfl := Option.some.inj h
                  simp (maxDischargeDepth := 9) only [↓xpre, xpost, xlst, xcore, yset, rg0, ↓reduceIte, Nat.reduceEqDiff, Nat.reduceLT, Nat.reduceLeDiff, Nat.reduceAdd, Nat.reduceMul, Nat.reduceMod, Nat.reduceSub, Nat.reduceBEq, Int.reduceLE, Int.reduceLT, Int.reduceEq, Int.reduceSub, Int.reduceAdd, Int.reduceToNat, Int.reduceNeg, e1, e2, e3.1, e3.2, c4, e5, e6, e7, e8.1, e8.2, c9, e10, e11, e12, c13, e14, e15, c16, c17, c18, c19, c20, e21f, e22f, e23f, e24f, c25, c26, e27, c28, c29, e30f] <;> (repeat' apply And.intro) <;> first | rfl | exact ⟨_, rfl⟩ | simp [lst]
              · rw [if_neg e27] at h
                have e27f : (sameP aP_Labels aP_Degree aP_Nodes aP_Edges aP_Labels aP_Degree aP_Nodes aP_Edges) = false := Bool.eq_false_iff.mpr e27
                obtain rfl := Option.some.inj h
                simp (maxDischargeDepth := 9) only [↓xpre, xpost, xlst, xcore, yset, rg0, ↓reduceIte, Nat.reduceEqDiff, Nat.reduceLT, Nat.reduceLeDiff, Nat.reduceAdd, Nat.reduceMul, Nat.reduceMod, Nat.reduceSub, Nat.reduceBEq, Int.reduceLE, Int.reduceLT, Int.reduceEq, Int.reduceSub, Int.reduceAdd, Int.reduceToNat, Int.reduceNeg, e1, e2, e3.1, e3.2, c4, e5, e6, e7, e8.1, e8.2, c9, e10, e11, e12, c13, e14, e15, c16, c17, c18, c19, c20, e21f, e22f, e23f, e24f, c25, c26, e27f] <;> (repeat' apply And.intro) <;> first | rfl | exact ⟨_, rfl⟩ | simp [lst]

noncomputable def l_FnExactMeetProblem (t0_Labels : Int) (t0_Degree : Int) (t0_Nodes : List (List Int)) (t0_Edges : List (List Int)) (t1_Labels : Int) (t1_Degree : Int) (t1_Nodes : List (List Int)) (t1_Edges : List (List Int)) : Option (Bool) :=
  ck (Wide t0_Nodes) <|
  ck (Wide t0_Edges) <|
  ck (0 ≤ (1048576 : Int) ∧ (1048576 : Int) ≤ 1048576) <|
  if (szP (1048576 : Int) t0_Nodes t0_Edges) < 0 then
    some true
  else
    ck (Wide t1_Nodes) <|
    ck (Wide t1_Edges) <|
    ck (0 ≤ (szP (1048576 : Int) t0_Nodes t0_Edges) ∧ (szP (1048576 : Int) t0_Nodes t0_Edges) ≤ 1048576) <|
    if (szP (szP (1048576 : Int) t0_Nodes t0_Edges) t1_Nodes t1_Edges) < 0 then
      some true
    else
      ck (Short t0_Nodes) <|
      ck (Short t0_Edges) <|
      ck (Short t1_Nodes) <|
      ck (Short t1_Edges) <|
      (s_MeetProblem t0_Labels t0_Degree t0_Nodes t0_Edges t1_Labels t1_Degree t1_Nodes t1_Edges).bind fun r17_ =>
      (i_MeetProblem t0_Labels t0_Degree t0_Nodes t0_Edges t1_Labels t1_Degree t1_Nodes t1_Edges).bind fun r20_ =>
      ck (Short r20_.2.2.1) <|
      ck (Short r20_.2.2.2.1) <|
      if (sameP r20_.1 r20_.2.1 r20_.2.2.1 r20_.2.2.2.1 r17_.1 r17_.2.1 r17_.2.2.1 r17_.2.2.2.1) = true then
        if r20_.2.2.2.2 = true then
          if r17_.2.2.2.2 = true then
            if (sameP t0_Labels t0_Degree t0_Nodes t0_Edges t0_Labels t0_Degree t0_Nodes t0_Edges) = true then
              if (sameP t1_Labels t1_Degree t1_Nodes t1_Edges t1_Labels t1_Degree t1_Nodes t1_Edges) = true then
                ck (0 ≤ (1 : Int) ∧ (1 : Int) + tot t0_Nodes + tot t0_Edges < 1099511627776) <|
                ck (0 ≤ ((1 : Int) + tot t0_Nodes + tot t0_Edges) ∧ ((1 : Int) + tot t0_Nodes + tot t0_Edges) + tot t1_Nodes + tot t1_Edges < 1099511627776) <|
                if (((1 : Int) + tot t0_Nodes + tot t0_Edges) + tot t1_Nodes + tot t1_Edges) < 0 then
                  some false
                else
                  ck (0 ≤ (1 : Int) ∧ (1 : Int) + tot r20_.2.2.1 + tot r20_.2.2.2.1 < 1099511627776) <|
                  (l_heldProblem r20_.1 r20_.2.1 (marks (1 : Int) r20_.2.2.1) (marks ((1 : Int) + tot r20_.2.2.1) r20_.2.2.2.1) (1 : Int)).bind fun r41_ =>
                  if r41_ < 0 then
                    some false
                  else
                    if r41_ = ((1 : Int) + tot r20_.2.2.1 + tot r20_.2.2.2.1) then
                      some true
                    else
                      some false
              else
                some false
            else
              some false
          else
            some false
        else
          if r17_.2.2.2.2 = true then
            some false
          else
            if (sameP t0_Labels t0_Degree t0_Nodes t0_Edges t0_Labels t0_Degree t0_Nodes t0_Edges) = true then
              if (sameP t1_Labels t1_Degree t1_Nodes t1_Edges t1_Labels t1_Degree t1_Nodes t1_Edges) = true then
                ck (0 ≤ (1 : Int) ∧ (1 : Int) + tot t0_Nodes + tot t0_Edges < 1099511627776) <|
                ck (0 ≤ ((1 : Int) + tot t0_Nodes + tot t0_Edges) ∧ ((1 : Int) + tot t0_Nodes + tot t0_Edges) + tot t1_Nodes + tot t1_Edges < 1099511627776) <|
                if (((1 : Int) + tot t0_Nodes + tot t0_Edges) + tot t1_Nodes + tot t1_Edges) < 0 then
                  some false
                else
                  ck (0 ≤ (1 : Int) ∧ (1 : Int) + tot r20_.2.2.1 + tot r20_.2.2.2.1 < 1099511627776) <|
                  (l_heldProblem r20_.1 r20_.2.1 (marks (1 : Int) r20_.2.2.1) (marks ((1 : Int) + tot r20_.2.2.1) r20_.2.2.2.1) (1 : Int)).bind fun r41_ =>
                  if r41_ < 0 then
                    some false
                  else
                    if r41_ = ((1 : Int) + tot r20_.2.2.1 + tot r20_.2.2.2.1) then
                      some true
                    else
                      some false
              else
                some false
            else
              some false
      else
        some false
/-- laws.FnExactMeetProblem -/
def k7 : SC :=
  .seq
    (.ops [
      ⟨(some 2), (Op.box 24 (Operand.tmp 0)), 0, none⟩,
      ⟨(some 3), (Op.box 24 (Operand.tmp 1)), 0, none⟩,
      ⟨(some 4), (Op.assign (Operand.const (Value.bool false))), 4, none⟩])
    (.seq
      (.ops [
        ⟨(some 5), (Op.assign (Operand.const (Value.int IntKind.i64 1048576))), 3, none⟩])
      (.seq
        (.ops [
          ⟨(some 17), (Op.load 24 (Operand.tmp 2)), 24, none⟩,
          ⟨(some 18), (Op.move (Operand.tmp 5)), 3, none⟩,
          ⟨(some 19), (Op.call { callee := (Callee.value (Operand.func 15)), args := #[(Operand.tmp 17), (Operand.tmp 18)], argTypes := #[24, 3] }), 3, none⟩,
          ⟨(some 5), (Op.assign (Operand.tmp 19)), 3, none⟩])
        (.seq
          (.seq
            (.ops [
              ⟨(some 20), (Op.move (Operand.tmp 5)), 3, none⟩,
              ⟨(some 21), (Op.binOp BinOp.lss 3 (Operand.tmp 20) (Operand.const (Value.int IntKind.i64 0)) 3), 4, none⟩])
            (.cond (Operand.tmp 21)
              (.seq
                (.ops [
                  ⟨(some 4), (Op.assign (Operand.const (Value.bool true))), 4, none⟩])
                .ret)
              .skip))
          (.seq
            (.ops [
              ⟨(some 22), (Op.load 24 (Operand.tmp 3)), 24, none⟩,
              ⟨(some 23), (Op.move (Operand.tmp 5)), 3, none⟩,
              ⟨(some 24), (Op.call { callee := (Callee.value (Operand.func 15)), args := #[(Operand.tmp 22), (Operand.tmp 23)], argTypes := #[24, 3] }), 3, none⟩,
              ⟨(some 5), (Op.assign (Operand.tmp 24)), 3, none⟩])
            (.seq
              (.seq
                (.ops [
                  ⟨(some 25), (Op.move (Operand.tmp 5)), 3, none⟩,
                  ⟨(some 26), (Op.binOp BinOp.lss 3 (Operand.tmp 25) (Operand.const (Value.int IntKind.i64 0)) 3), 4, none⟩])
                (.cond (Operand.tmp 26)
                  (.seq
                    (.ops [
                      ⟨(some 4), (Op.assign (Operand.const (Value.bool true))), 4, none⟩])
                    .ret)
                  .skip))
              (.seq
                (.draws [
                  (⟨[28, 2, 2], [28, 29, 30, 31, 32, 27, 32, 33, 34, 6, 6, 33, 6, 32, 7, 34], [28]⟩, ⟨(some 28), (Op.load 24 (Operand.tmp 2)), 24, none⟩),
                  (⟨[29, 28, 2], [28, 29, 30, 31, 32, 27, 32, 33, 34, 6, 6, 33, 6, 32, 7, 34], [29]⟩, ⟨(some 29), (Op.call { callee := (Callee.value (Operand.func 17)), args := #[(Operand.tmp 28)], argTypes := #[24] }), 28, none⟩),
                  (⟨[30, 3, 3], [28, 29, 30, 31, 32, 27, 32, 33, 34, 6, 6, 33, 6, 32, 7, 34], [30]⟩, ⟨(some 30), (Op.load 24 (Operand.tmp 3)), 24, none⟩),
                  (⟨[31, 30, 3], [28, 29, 30, 31, 32, 27, 32, 33, 34, 6, 6, 33, 6, 32, 7, 34], [31]⟩, ⟨(some 31), (Op.call { callee := (Callee.value (Operand.func 17)), args := #[(Operand.tmp 30)], argTypes := #[24] }), 28, none⟩),
                  (⟨[32, 29, 31, 29, 31], [28, 29, 30, 31, 32, 27, 32, 33, 34, 6, 6, 33, 6, 32, 7, 34], [32]⟩, ⟨(some 32), (Op.call { callee := (Callee.value (Operand.func 33)), args := #[(Operand.tmp 29), (Operand.tmp 31)], argTypes := #[28, 28] }), 44, none⟩),
                  (⟨[27, 32, 32], [28, 29, 30, 31, 32, 27, 32, 33, 34, 6, 6, 33, 6, 32, 7, 34], [27, 32]⟩, ⟨(some 27), (Op.move (Operand.tmp 32)), 44, none⟩),
                  (⟨[33, 27], [28, 29, 30, 31, 32, 27, 32, 33, 34, 6, 6, 33, 6, 32, 7, 34], [33]⟩, ⟨(some 33), (Op.extract (Operand.tmp 27) 0), 28, none⟩),
                  (⟨[34, 27], [28, 29, 30, 31, 32, 27, 32, 33, 34, 6, 6, 33, 6, 32, 7, 34], [34]⟩, ⟨(some 34), (Op.extract (Operand.tmp 27) 1), 4, none⟩),
                  (⟨[6], [28, 29, 30, 31, 32, 27, 32, 33, 34, 6, 6, 33, 6, 32, 7, 34], [6]⟩, ⟨(some 6), (Op.alloc 28), 0, none⟩),
                  (⟨[6, 33, 6, 32], [28, 29, 30, 31, 32, 27, 32, 33, 34, 6, 6, 33, 6, 32, 7, 34], [6, 33, 6, 32]⟩, ⟨none, (Op.store 28 (Operand.tmp 6) (Operand.tmp 33)), 0, none⟩),
                  (⟨[7, 34], [28, 29, 30, 31, 32, 27, 32, 33, 34, 6, 6, 33, 6, 32, 7, 34], [7, 34]⟩, ⟨(some 7), (Op.assign (Operand.tmp 34)), 4, none⟩)])
                (.seq
                  (.ops [
                    ⟨(some 35), (Op.load 24 (Operand.tmp 2)), 24, none⟩,
                    ⟨(some 36), (Op.call { callee := (Callee.value (Operand.func 17)), args := #[(Operand.tmp 35)], argTypes := #[24] }), 28, none⟩,
                    ⟨(some 8), (Op.alloc 28), 0, none⟩,
                    ⟨none, (Op.store 28 (Operand.tmp 8) (Operand.tmp 36)), 0, none⟩])
                  (.seq
                    (.ops [
                      ⟨(some 37), (Op.load 24 (Operand.tmp 3)), 24, none⟩,
                      ⟨(some 38), (Op.call { callee := (Callee.value (Operand.func 17)), args := #[(Operand.tmp 37)], argTypes := #[24] }), 28, none⟩,
                      ⟨(some 9), (Op.alloc 28), 0, none⟩,
                      ⟨none, (Op.store 28 (Operand.tmp 9) (Operand.tmp 38)), 0, none⟩])
                    (.seq
                      (.ops [
                        ⟨(some 40), (Op.load 28 (Operand.tmp 8)), 28, none⟩,
                        ⟨(some 41), (Op.load 28 (Operand.tmp 9)), 28, none⟩,
                        ⟨(some 42), (Op.call { callee := (Callee.value (Operand.func 34)), args := #[(Operand.tmp 40), (Operand.tmp 41)], argTypes := #[28, 28] }), 44, none⟩,
                        ⟨(some 39), (Op.move (Operand.tmp 42)), 44, none⟩,
                        ⟨(some 43), (Op.extract (Operand.tmp 39) 0), 28, none⟩,
                        ⟨(some 44), (Op.extract (Operand.tmp 39) 1), 4, none⟩,
                        ⟨(some 10), (Op.alloc 28), 0, none⟩,
                        ⟨none, (Op.store 28 (Operand.tmp 10) (Operand.tmp 43)), 0, none⟩,
                        ⟨(some 11), (Op.assign (Operand.tmp 44)), 4, none⟩])
                      (.seq
                        (.seq
                          (.ops [
                            ⟨(some 45), (Op.load 28 (Operand.tmp 10)), 28, none⟩,
                            ⟨(some 46), (Op.load 28 (Operand.tmp 6)), 28, none⟩,
                            ⟨(some 47), (Op.call { callee := (Callee.value (Operand.func 19)), args := #[(Operand.tmp 45), (Operand.tmp 46)], argTypes := #[28, 28] }), 4, none⟩,
                            ⟨(some 48), (Op.unOp UnOp.not 4 (Operand.tmp 47)), 4, none⟩,
                            ⟨(some 49), (Op.move (Operand.tmp 48)), 4, none⟩,
                            ⟨(some 50), (Op.move (Operand.tmp 11)), 4, (some (some 49, false))⟩,
                            ⟨(some 51), (Op.move (Operand.tmp 7)), 4, (some (some 49, false))⟩,
                            ⟨(some 52), (Op.binOp BinOp.neq 4 (Operand.tmp 50) (Operand.tmp 51) 4), 4, (some (some 49, false))⟩,
                            ⟨(some 53), (Op.pick (Operand.tmp 49) (Operand.const (Value.bool true)) (Operand.tmp 52)), 4, none⟩])
                          (.cond (Operand.tmp 53)
                            (.seq
                              (.ops [
                                ⟨(some 4), (Op.assign (Operand.const (Value.bool false))), 4, none⟩])
                              .ret)
                            .skip))
                        (.seq
                          (.seq
                            (.draws [
                              (⟨[54, 8, 8], [54, 55, 56, 57, 58], [54]⟩, ⟨(some 54), (Op.load 28 (Operand.tmp 8)), 28, none⟩),
                              (⟨[55, 2, 2], [54, 55, 56, 57, 58], [55]⟩, ⟨(some 55), (Op.load 24 (Operand.tmp 2)), 24, none⟩),
                              (⟨[56, 55, 2], [54, 55, 56, 57, 58], [56]⟩, ⟨(some 56), (Op.call { callee := (Callee.value (Operand.func 17)), args := #[(Operand.tmp 55)], argTypes := #[24] }), 28, none⟩),
                              (⟨[57, 54, 56, 8, 56], [54, 55, 56, 57, 58], [57]⟩, ⟨(some 57), (Op.call { callee := (Callee.value (Operand.func 19)), args := #[(Operand.tmp 54), (Operand.tmp 56)], argTypes := #[28, 28] }), 4, none⟩),
                              (⟨[58, 57, 57], [54, 55, 56, 57, 58], [58]⟩, ⟨(some 58), (Op.unOp UnOp.not 4 (Operand.tmp 57)), 4, none⟩)])
                            (.cond (Operand.tmp 58)
                              (.seq
                                (.ops [
                                  ⟨(some 4), (Op.assign (Operand.const (Value.bool false))), 4, none⟩])
                                .ret)
                              .skip))
                          (.seq
                            (.seq
                              (.draws [
                                (⟨[59, 9, 9], [59, 60, 61, 62, 63], [59]⟩, ⟨(some 59), (Op.load 28 (Operand.tmp 9)), 28, none⟩),
                                (⟨[60, 3, 3], [59, 60, 61, 62, 63], [60]⟩, ⟨(some 60), (Op.load 24 (Operand.tmp 3)), 24, none⟩),
                                (⟨[61, 60, 3], [59, 60, 61, 62, 63], [61]⟩, ⟨(some 61), (Op.call { callee := (Callee.value (Operand.func 17)), args := #[(Operand.tmp 60)], argTypes := #[24] }), 28, none⟩),
                                (⟨[62, 59, 61, 9, 61], [59, 60, 61, 62, 63], [62]⟩, ⟨(some 62), (Op.call { callee := (Callee.value (Operand.func 19)), args := #[(Operand.tmp 59), (Operand.tmp 61)], argTypes := #[28, 28] }), 4, none⟩),
                                (⟨[63, 62, 62], [59, 60, 61, 62, 63], [63]⟩, ⟨(some 63), (Op.unOp UnOp.not 4 (Operand.tmp 62)), 4, none⟩)])
                              (.cond (Operand.tmp 63)
                                (.seq
                                  (.ops [
                                    ⟨(some 4), (Op.assign (Operand.const (Value.bool false))), 4, none⟩])
                                  .ret)
                                .skip))
                            (.seq
                              (.ops [
                                ⟨(some 12), (Op.assign (Operand.const (Value.int IntKind.i64 1))), 3, none⟩])
                              (.seq
                                (.ops [
                                  ⟨(some 64), (Op.load 28 (Operand.tmp 8)), 28, none⟩,
                                  ⟨(some 65), (Op.move (Operand.tmp 12)), 3, none⟩,
                                  ⟨(some 66), (Op.call { callee := (Callee.value (Operand.func 23)), args := #[(Operand.tmp 64), (Operand.tmp 65)], argTypes := #[28, 3] }), 3, none⟩,
                                  ⟨(some 12), (Op.assign (Operand.tmp 66)), 3, none⟩])
                                (.seq
                                  (.ops [
                                    ⟨(some 67), (Op.load 28 (Operand.tmp 9)), 28, none⟩,
                                    ⟨(some 68), (Op.move (Operand.tmp 12)), 3, none⟩,
                                    ⟨(some 69), (Op.call { callee := (Callee.value (Operand.func 23)), args := #[(Operand.tmp 67), (Operand.tmp 68)], argTypes := #[28, 3] }), 3, none⟩,
                                    ⟨(some 12), (Op.assign (Operand.tmp 69)), 3, none⟩])
                                  (.seq
                                    (.seq
                                      (.ops [
                                        ⟨(some 70), (Op.move (Operand.tmp 12)), 3, none⟩,
                                        ⟨(some 71), (Op.binOp BinOp.lss 3 (Operand.tmp 70) (Operand.const (Value.int IntKind.i64 0)) 3), 4, none⟩,
                                        ⟨(some 72), (Op.move (Operand.tmp 71)), 4, none⟩,
                                        ⟨(some 73), (Op.load 28 (Operand.tmp 10)), 28, (some (some 72, false))⟩,
                                        ⟨(some 74), (Op.load 28 (Operand.tmp 6)), 28, (some (some 72, false))⟩,
                                        ⟨(some 75), (Op.call { callee := (Callee.value (Operand.func 19)), args := #[(Operand.tmp 73), (Operand.tmp 74)], argTypes := #[28, 28] }), 4, (some (some 72, false))⟩,
                                        ⟨(some 76), (Op.unOp UnOp.not 4 (Operand.tmp 75)), 4, (some (some 72, false))⟩,
                                        ⟨(some 77), (Op.pick (Operand.tmp 72) (Operand.const (Value.bool true)) (Operand.tmp 76)), 4, none⟩,
                                        ⟨(some 78), (Op.move (Operand.tmp 77)), 4, none⟩,
                                        ⟨(some 79), (Op.move (Operand.tmp 11)), 4, (some (some 78, false))⟩,
                                        ⟨(some 80), (Op.move (Operand.tmp 7)), 4, (some (some 78, false))⟩,
                                        ⟨(some 81), (Op.binOp BinOp.neq 4 (Operand.tmp 79) (Operand.tmp 80) 4), 4, (some (some 78, false))⟩,
                                        ⟨(some 82), (Op.pick (Operand.tmp 78) (Operand.const (Value.bool true)) (Operand.tmp 81)), 4, none⟩])
                                      (.cond (Operand.tmp 82)
                                        (.seq
                                          (.ops [
                                            ⟨(some 4), (Op.assign (Operand.const (Value.bool false))), 4, none⟩])
                                          .ret)
                                        .skip))
                                    (.seq
                                      (.ops [
                                        ⟨(some 13), (Op.assign (Operand.const (Value.int IntKind.i64 1))), 3, none⟩])
                                      (.seq
                                        (.ops [
                                          ⟨(some 83), (Op.load 28 (Operand.tmp 10)), 28, none⟩,
                                          ⟨(some 84), (Op.move (Operand.tmp 13)), 3, none⟩,
                                          ⟨(some 85), (Op.call { callee := (Callee.value (Operand.func 23)), args := #[(Operand.tmp 83), (Operand.tmp 84)], argTypes := #[28, 3] }), 3, none⟩,
                                          ⟨(some 13), (Op.assign (Operand.tmp 85)), 3, none⟩])
                                        (.seq
                                          (.ops [
                                            ⟨(some 14), (Op.assign (Operand.const (Value.int IntKind.i64 1))), 3, none⟩])
                                          (.seq
                                            (.ops [
                                              ⟨(some 86), (Op.load 28 (Operand.tmp 10)), 28, none⟩,
                                              ⟨(some 87), (Op.move (Operand.tmp 14)), 3, none⟩,
                                              ⟨(some 88), (Op.call { callee := (Callee.value (Operand.func 35)), args := #[(Operand.tmp 86), (Operand.tmp 87)], argTypes := #[28, 3] }), 3, none⟩,
                                              ⟨(some 14), (Op.assign (Operand.tmp 88)), 3, none⟩])
                                            (.seq
                                              (.seq
                                                (.ops [
                                                  ⟨(some 89), (Op.move (Operand.tmp 14)), 3, none⟩,
                                                  ⟨(some 90), (Op.binOp BinOp.lss 3 (Operand.tmp 89) (Operand.const (Value.int IntKind.i64 0)) 3), 4, none⟩])
                                                (.cond (Operand.tmp 90)
                                                  (.seq
                                                    (.ops [
                                                      ⟨(some 4), (Op.assign (Operand.const (Value.bool false))), 4, none⟩])
                                                    .ret)
                                                  .skip))
                                              (.seq
                                                (.seq
                                                  (.ops [
                                                    ⟨(some 91), (Op.move (Operand.tmp 14)), 3, none⟩,
                                                    ⟨(some 92), (Op.move (Operand.tmp 13)), 3, none⟩,
                                                    ⟨(some 93), (Op.binOp BinOp.neq 3 (Operand.tmp 91) (Operand.tmp 92) 3), 4, none⟩])
                                                  (.cond (Operand.tmp 93)
                                                    (.seq
                                                      (.ops [
                                                        ⟨(some 4), (Op.assign (Operand.const (Value.bool false))), 4, none⟩])
                                                      .ret)
                                                    .skip))
                                                (.seq
                                                  (.draws [
                                                    (⟨[95, 2, 2], [95, 96, 97, 98, 99, 94, 99, 100, 101, 15, 15, 100, 15, 99, 16, 101], [95]⟩, ⟨(some 95), (Op.load 24 (Operand.tmp 2)), 24, none⟩),
                                                    (⟨[96, 95, 2], [95, 96, 97, 98, 99, 94, 99, 100, 101, 15, 15, 100, 15, 99, 16, 101], [96]⟩, ⟨(some 96), (Op.call { callee := (Callee.value (Operand.func 17)), args := #[(Operand.tmp 95)], argTypes := #[24] }), 28, none⟩),
                                                    (⟨[97, 3, 3], [95, 96, 97, 98, 99, 94, 99, 100, 101, 15, 15, 100, 15, 99, 16, 101], [97]⟩, ⟨(some 97), (Op.load 24 (Operand.tmp 3)), 24, none⟩),
                                                    (⟨[98, 97, 3], [95, 96, 97, 98, 99, 94, 99, 100, 101, 15, 15, 100, 15, 99, 16, 101], [98]⟩, ⟨(some 98), (Op.call { callee := (Callee.value (Operand.func 17)), args := #[(Operand.tmp 97)], argTypes := #[24] }), 28, none⟩),
                                                    (⟨[99, 96, 98, 96, 98], [95, 96, 97, 98, 99, 94, 99, 100, 101, 15, 15, 100, 15, 99, 16, 101], [99]⟩, ⟨(some 99), (Op.call { callee := (Callee.value (Operand.func 34)), args := #[(Operand.tmp 96), (Operand.tmp 98)], argTypes := #[28, 28] }), 44, none⟩),
                                                    (⟨[94, 99, 99], [95, 96, 97, 98, 99, 94, 99, 100, 101, 15, 15, 100, 15, 99, 16, 101], [94, 99]⟩, ⟨(some 94), (Op.move (Operand.tmp 99)), 44, none⟩),
                                                    (⟨[100, 94], [95, 96, 97, 98, 99, 94, 99, 100, 101, 15, 15, 100, 15, 99, 16, 101], [100]⟩, ⟨(some 100), (Op.extract (Operand.tmp 94) 0), 28, none⟩),
                                                    (⟨[101, 94], [95, 96, 97, 98, 99, 94, 99, 100, 101, 15, 15, 100, 15, 99, 16, 101], [101]⟩, ⟨(some 101), (Op.extract (Operand.tmp 94) 1), 4, none⟩),
                                                    (⟨[15], [95, 96, 97, 98, 99, 94, 99, 100, 101, 15, 15, 100, 15, 99, 16, 101], [15]⟩, ⟨(some 15), (Op.alloc 28), 0, none⟩),
                                                    (⟨[15, 100, 15, 99], [95, 96, 97, 98, 99, 94, 99, 100, 101, 15, 15, 100, 15, 99, 16, 101], [15, 100, 15, 99]⟩, ⟨none, (Op.store 28 (Operand.tmp 15) (Operand.tmp 100)), 0, none⟩),
                                                    (⟨[16, 101], [95, 96, 97, 98, 99, 94, 99, 100, 101, 15, 15, 100, 15, 99, 16, 101], [16, 101]⟩, ⟨(some 16), (Op.assign (Operand.tmp 101)), 4, none⟩)])
                                                  (.seq
                                                    (.seq
                                                      (.ops [
                                                        ⟨(some 102), (Op.load 28 (Operand.tmp 15)), 28, none⟩,
                                                        ⟨(some 103), (Op.load 28 (Operand.tmp 6)), 28, none⟩,
                                                        ⟨(some 104), (Op.call { callee := (Callee.value (Operand.func 19)), args := #[(Operand.tmp 102), (Operand.tmp 103)], argTypes := #[28, 28] }), 4, none⟩,
                                                        ⟨(some 105), (Op.unOp UnOp.not 4 (Operand.tmp 104)), 4, none⟩,
                                                        ⟨(some 106), (Op.move (Operand.tmp 105)), 4, none⟩,
                                                        ⟨(some 107), (Op.move (Operand.tmp 16)), 4, (some (some 106, false))⟩,
                                                        ⟨(some 108), (Op.move (Operand.tmp 7)), 4, (some (some 106, false))⟩,
                                                        ⟨(some 109), (Op.binOp BinOp.neq 4 (Operand.tmp 107) (Operand.tmp 108) 4), 4, (some (some 106, false))⟩,
                                                        ⟨(some 110), (Op.pick (Operand.tmp 106) (Operand.const (Value.bool true)) (Operand.tmp 109)), 4, none⟩])
                                                      (.cond (Operand.tmp 110)
                                                        (.seq
                                                          (.ops [
                                                            ⟨(some 4), (Op.assign (Operand.const (Value.bool false))), 4, none⟩])
                                                          .ret)
                                                        .skip))
                                                    (.seq
                                                      (.ops [
                                                        ⟨(some 14), (Op.assign (Operand.const (Value.int IntKind.i64 1))), 3, none⟩])
                                                      (.seq
                                                        (.ops [
                                                          ⟨(some 111), (Op.load 28 (Operand.tmp 10)), 28, none⟩,
                                                          ⟨(some 112), (Op.move (Operand.tmp 14)), 3, none⟩,
                                                          ⟨(some 113), (Op.call { callee := (Callee.value (Operand.func 35)), args := #[(Operand.tmp 111), (Operand.tmp 112)], argTypes := #[28, 3] }), 3, none⟩,
                                                          ⟨(some 14), (Op.assign (Operand.tmp 113)), 3, none⟩])
                                                        (.seq
                                                          (.seq
                                                            (.ops [
                                                              ⟨(some 114), (Op.move (Operand.tmp 14)), 3, none⟩,
                                                              ⟨(some 115), (Op.binOp BinOp.lss 3 (Operand.tmp 114) (Operand.const (Value.int IntKind.i64 0)) 3), 4, none⟩])
                                                            (.cond (Operand.tmp 115)
                                                              (.seq
                                                                (.ops [
                                                                  ⟨(some 4), (Op.assign (Operand.const (Value.bool false))), 4, none⟩])
                                                                .ret)
                                                              .skip))
                                                          (.seq
                                                            (.seq
                                                              (.ops [
                                                                ⟨(some 116), (Op.move (Operand.tmp 14)), 3, none⟩,
                                                                ⟨(some 117), (Op.move (Operand.tmp 13)), 3, none⟩,
                                                                ⟨(some 118), (Op.binOp BinOp.neq 3 (Operand.tmp 116) (Operand.tmp 117) 3), 4, none⟩])
                                                              (.cond (Operand.tmp 118)
                                                                (.seq
                                                                  (.ops [
                                                                    ⟨(some 4), (Op.assign (Operand.const (Value.bool false))), 4, none⟩])
                                                                  .ret)
                                                                .skip))
                                                            (.seq
                                                              (.ops [
                                                                ⟨(some 4), (Op.assign (Operand.const (Value.bool true))), 4, none⟩])
                                                              .ret)))))))))))))))))))))))))))))
theorem slim7 : Try.f7.body.map (slim lends) = some k7 := by kernel_rfl
theorem ok7 : fnOk Try.f7 2 = true := by kernel_rfl
theorem c7 {a l : List D} {r : D × List D} (h : wpD Y.env k7 (fin tys l.length [ResultVar.tmp 4] r) (entry a l)) (ha : a.length = 2) : Y.call 7 a l = some r :=
  call_slim (Y := Y) rfl Try.func7 (ha ▸ ok7) slim7 h
theorem l_FnExactMeetProblem_call (t0_Labels : Int) (t0_Degree : Int) (t0_Nodes : List (List Int)) (t0_Edges : List (List Int)) (t1_Labels : Int) (t1_Degree : Int) (t1_Nodes : List (List Int)) (t1_Edges : List (List Int)) {r : Bool} (h : l_FnExactMeetProblem t0_Labels t0_Degree t0_Nodes t0_Edges t1_Labels t1_Degree t1_Nodes t1_Edges = some r) : Y.call 7 [D.agg [D.int .i64 t0_Labels, D.int .i64 t0_Degree, D.sl 32 (lst (fun x => D.sl 3 (lst (D.int .i64) x)) t0_Nodes), D.sl 32 (lst (fun x => D.sl 3 (lst (D.int .i64) x)) t0_Edges)], D.agg [D.int .i64 t1_Labels, D.int .i64 t1_Degree, D.sl 32 (lst (fun x => D.sl 3 (lst (D.int .i64) x)) t1_Nodes), D.sl 32 (lst (fun x => D.sl 3 (lst (D.int .i64) x)) t1_Edges)]] [] = some (D.bool r, []) := by
  refine c7 ?_ rfl
  unfold k7
  unfold l_FnExactMeetProblem at h
  obtain ⟨e1, h⟩ := ckS h
  obtain ⟨e2, h⟩ := ckS h
  obtain ⟨e3, h⟩ := ckS h
  have c4 := l_szProblem_cl t0_Labels t0_Degree t0_Nodes t0_Edges (1048576 : Int) e1 e2 e3
  by_cases e5 : (szP (1048576 : Int) t0_Nodes t0_Edges) < 0
  · rw [if_pos e5] at h
    obtain rfl := Option.some.inj h
    simp (maxDischargeDepth := 9) only [↓xpre, xpost, xlst, xcore, yset, rg0, ↓reduceIte, Nat.reduceEqDiff, Nat.reduceLT, Nat.reduceLeDiff, Nat.reduceAdd, Nat.reduceMul, Nat.reduceMod, Nat.reduceSub, Nat.reduceBEq, Int.reduceLE, Int.reduceLT, Int.reduceEq, Int.reduceSub, Int.reduceAdd, Int.reduceToNat, Int.reduceNeg, e1, e2, e3.1, e3.2, c4, e5] <;> (repeat' apply And.intro) <;> first | rfl | exact ⟨_, rfl⟩ | simp [lst]
  · rw [if_neg e5] at h
    obtain ⟨e6, h⟩ := ckS h
    obtain ⟨e7, h⟩ := ckS h
    obtain ⟨e8, h⟩ := ckS h
    have c9 := l_szProblem_cl t1_Labels t1_Degree t1_Nodes t1_Edges (szP (1048576 : Int) t0_Nodes t0_Edges) e6 e7 e8
    by_cases e10 : (szP (szP (1048576 : Int) t0_Nodes t0_Edges) t1_Nodes t1_Edges) < 0
    · rw [if_pos e10] at h
      obtain rfl := Option.some.inj h
      simp (maxDischargeDepth := 9) only [↓xpre, xpost, xlst, xcore, yset, rg0, ↓reduceIte, Nat.reduceEqDiff, Nat.reduceLT, Nat.reduceLeDiff, Nat.reduceAdd, Nat.reduceMul, Nat.reduceMod, Nat.reduceSub, Nat.reduceBEq, Int.reduceLE, Int.reduceLT, Int.reduceEq, Int.reduceSub, Int.reduceAdd, Int.reduceToNat, Int.reduceNeg, e1, e2, e3.1, e3.2, c4, e5, e6, e7, e8.1, e8.2, c9, e10] <;> (repeat' apply And.intro) <;> first | rfl | exact ⟨_, rfl⟩ | simp [lst]
    · rw [if_neg e10] at h
      obtain ⟨e11, h⟩ := ckS h
      obtain ⟨e12, h⟩ := ckS h
      have c13 := l_toProblem_cl t0_Labels t0_Degree t0_Nodes t0_Edges e11 e12
      obtain ⟨e14, h⟩ := ckS h
      obtain ⟨e15, h⟩ := ckS h
      have c16 := l_toProblem_cl t1_Labels t1_Degree t1_Nodes t1_Edges e14 e15
      obtain ⟨r17_, hl17, h⟩ := bindS h
      try dsimp only at h
      have c17 := s_MeetProblem_call t0_Labels t0_Degree t0_Nodes t0_Edges t1_Labels t1_Degree t1_Nodes t1_Edges hl17
      have c18 := l_toProblem_cl t0_Labels t0_Degree t0_Nodes t0_Edges e11 e12
      have c19 := l_toProblem_cl t1_Labels t1_Degree t1_Nodes t1_Edges e14 e15
      obtain ⟨r20_, hl20, h⟩ := bindS h
      try dsimp only at h
      have c20 := i_MeetProblem_call t0_Labels t0_Degree t0_Nodes t0_Edges t1_Labels t1_Degree t1_Nodes t1_Edges hl20
      obtain ⟨e21, h⟩ := ckS h
      obtain ⟨e22, h⟩ := ckS h
      have c23 := l_eqProblem_cl r20_.1 r20_.2.1 r20_.2.2.1 r20_.2.2.2.1 r17_.1 r17_.2.1 r17_.2.2.1 r17_.2.2.2.1 e21 e22
      by_cases e24 : (sameP r20_.1 r20_.2.1 r20_.2.2.1 r20_.2.2.2.1 r17_.1 r17_.2.1 r17_.2.2.1 r17_.2.2.2.1) = true
      · rw [if_pos e24] at h
        by_cases e25 : r20_.2.2.2.2 = true
        · rw [if_pos e25] at h
          by_cases e26 : r17_.2.2.2.2 = true
          · rw [if_pos e26] at h
            have c27 := l_toProblem_cl t0_Labels t0_Degree t0_Nodes t0_Edges e11 e12
            have c28 := l_eqProblem_cl t0_Labels t0_Degree t0_Nodes t0_Edges t0_Labels t0_Degree t0_Nodes t0_Edges e11 e12
            by_cases e29 : (sameP t0_Labels t0_Degree t0_Nodes t0_Edges t0_Labels t0_Degree t0_Nodes t0_Edges) = true
            · rw [if_pos e29] at h
              have c30 := l_toProblem_cl t1_Labels t1_Degree t1_Nodes t1_Edges e14 e15
              have c31 := l_eqProblem_cl t1_Labels t1_Degree t1_Nodes t1_Edges t1_Labels t1_Degree t1_Nodes t1_Edges e14 e15
              by_cases e32 : (sameP t1_Labels t1_Degree t1_Nodes t1_Edges t1_Labels t1_Degree t1_Nodes t1_Edges) = true
              · rw [if_pos e32] at h
                obtain ⟨e33, h⟩ := ckS h
                have c34 := l_markProblem_cl t0_Labels t0_Degree t0_Nodes t0_Edges (1 : Int) e11 e12 e33
                obtain ⟨e35, h⟩ := ckS h
                have c36 := l_markProblem_cl t1_Labels t1_Degree t1_Nodes t1_Edges ((1 : Int) + tot t0_Nodes + tot t0_Edges) e14 e15 e35
                by_cases e37 : (((1 : Int) + tot t0_Nodes + tot t0_Edges) + tot t1_Nodes + tot t1_Edges) < 0
                · rw [if_pos e37] at h
                  obtain rfl := Option.some.inj h
                  simp (maxDischargeDepth := 9) only [↓xpre, xpost, xlst, xcore, yset, rg0, ↓reduceIte, Nat.reduceEqDiff, Nat.reduceLT, Nat.reduceLeDiff, Nat.reduceAdd, Nat.reduceMul, Nat.reduceMod, Nat.reduceSub, Nat.reduceBEq, Int.reduceLE, Int.reduceLT, Int.reduceEq, Int.reduceSub, Int.reduceAdd, Int.reduceToNat, Int.reduceNeg, e1, e2, e3.1, e3.2, c4, e5, e6, e7, e8.1, e8.2, c9, e10, e11, e12, c13, e14, e15, c16, c17, c18, c19, c20, e21, e22, c23, e24, e25, e26, c27, c28, e29, c30, c31, e32, e33.1, e33.2, c34, e35.1, e35.2, c36, e37] <;> (repeat' apply And.intro) <;> first | rfl | exact ⟨_, rfl⟩ | simp [lst]
                · rw [if_neg e37] at h
                  have c38 := l_eqProblem_cl r20_.1 r20_.2.1 r20_.2.2.1 r20_.2.2.2.1 r17_.1 r17_.2.1 r17_.2.2.1 r17_.2.2.2.1 e21 e22
                  obtain ⟨e39, h⟩ := ckS h
                  have c40 := l_markProblem_cl r20_.1 r20_.2.1 r20_.2.2.1 r20_.2.2.2.1 (1 : Int) e21 e22 e39
                  obtain ⟨r41_, hl41, h⟩ := bindS h
                  try dsimp only at h
                  have c41 := l_heldProblem_call r20_.1 r20_.2.1 (marks (1 : Int) r20_.2.2.1) (marks ((1 : Int) + tot r20_.2.2.1) r20_.2.2.2.1) (1 : Int) hl41
                  by_cases e42 : r41_ < 0
                  · rw [if_pos e42] at h
                    obtain rfl := Option.some.inj h
                    simp (maxDischargeDepth := 9) only [↓xpre, xpost, xlst, xcore, yset, rg0, ↓reduceIte, Nat.reduceEqDiff, Nat.reduceLT, Nat.reduceLeDiff, Nat.reduceAdd, Nat.reduceMul, Nat.reduceMod, Nat.reduceSub, Nat.reduceBEq, Int.reduceLE, Int.reduceLT, Int.reduceEq, Int.reduceSub, Int.reduceAdd, Int.reduceToNat, Int.reduceNeg, e1, e2, e3.1, e3.2, c4, e5, e6, e7, e8.1, e8.2, c9, e10, e11, e12, c13, e14, e15, c16, c17, c18, c19, c20, e21, e22, c23, e24, e25, e26, c27, c28, e29, c30, c31, e32, e33.1, e33.2, c34, e35.1, e35.2, c36, e37, c38, e39.1, e39.2, c40, c41, e42] <;> (repeat' apply And.intro) <;> first | rfl | exact ⟨_, rfl⟩ | simp [lst]
                  · rw [if_neg e42] at h
                    by_cases e43 : r41_ = ((1 : Int) + tot r20_.2.2.1 + tot r20_.2.2.2.1)
                    · rw [if_pos e43] at h
                      have c44 := l_toProblem_cl t0_Labels t0_Degree t0_Nodes t0_Edges e11 e12
                      have c45 := l_toProblem_cl t1_Labels t1_Degree t1_Nodes t1_Edges e14 e15
                      have c46 := l_eqProblem_cl r20_.1 r20_.2.1 r20_.2.2.1 r20_.2.2.2.1 r17_.1 r17_.2.1 r17_.2.2.1 r17_.2.2.2.1 e21 e22
                      obtain rfl := Option.some.inj h
                      simp (maxDischargeDepth := 9) only [↓xpre, xpost, xlst, xcore, yset, rg0, ↓reduceIte, Nat.reduceEqDiff, Nat.reduceLT, Nat.reduceLeDiff, Nat.reduceAdd, Nat.reduceMul, Nat.reduceMod, Nat.reduceSub, Nat.reduceBEq, Int.reduceLE, Int.reduceLT, Int.reduceEq, Int.reduceSub, Int.reduceAdd, Int.reduceToNat, Int.reduceNeg, e1, e2, e3.1, e3.2, c4, e5, e6, e7, e8.1, e8.2, c9, e10, e11, e12, c13, e14, e15, c16, c17, c18, c19, c20, e21, e22, c23, e24, e25, e26, c27, c28, e29, c30, c31, e32, e33.1, e33.2, c34, e35.1, e35.2, c36, e37, c38, e39.1, e39.2, c40, c41, e42, decide_eq_true e43, c44, c45, c46] <;> (repeat' apply And.intro) <;> first | rfl | exact ⟨_, rfl⟩ | simp [lst]
                    · rw [if_neg e43] at h
                      obtain rfl := Option.some.inj h
                      simp (maxDischargeDepth := 9) only [↓xpre, xpost, xlst, xcore, yset, rg0, ↓reduceIte, Nat.reduceEqDiff, Nat.reduceLT, Nat.reduceLeDiff, Nat.reduceAdd, Nat.reduceMul, Nat.reduceMod, Nat.reduceSub, Nat.reduceBEq, Int.reduceLE, Int.reduceLT, Int.reduceEq, Int.reduceSub, Int.reduceAdd, Int.reduceToNat, Int.reduceNeg, e1, e2, e3.1, e3.2, c4, e5, e6, e7, e8.1, e8.2, c9, e10, e11, e12, c13, e14, e15, c16, c17, c18, c19, c20, e21, e22, c23, e24, e25, e26, c27, c28, e29, c30, c31, e32, e33.1, e33.2, c34, e35.1, e35.2, c36, e37, c38, e39.1, e39.2, c40, c41, e42, e43] <;> (repeat' apply And.intro) <;> first | rfl | exact ⟨_, rfl⟩ | simp [lst]
              · rw [if_neg e32] at h
                have e32f : (sameP t1_Labels t1_Degree t1_Nodes t1_Edges t1_Labels t1_Degree t1_Nodes t1_Edges) = false := Bool.eq_false_iff.mpr e32
                obtain rfl := Option.some.inj h
                simp (maxDischargeDepth := 9) only [↓xpre, xpost, xlst, xcore, yset, rg0, ↓reduceIte, Nat.reduceEqDiff, Nat.reduceLT, Nat.reduceLeDiff, Nat.reduceAdd, Nat.reduceMul, Nat.reduceMod, Nat.reduceSub, Nat.reduceBEq, Int.reduceLE, Int.reduceLT, Int.reduceEq, Int.reduceSub, Int.reduceAdd, Int.reduceToNat, Int.reduceNeg, e1, e2, e3.1, e3.2, c4, e5, e6, e7, e8.1, e8.2, c9, e10, e11, e12, c13, e14, e15, c16, c17, c18, c19, c20, e21, e22, c23, e24, e25, e26, c27, c28, e29, c30, c31, e32f] <;> (repeat' apply And.intro) <;> first | rfl | exact ⟨_, rfl⟩ | simp [lst]
            · rw [if_neg e29] at h
              have e29f : (sameP t0_Labels t0_Degree t0_Nodes t0_Edges t0_Labels t0_Degree t0_Nodes t0_Edges) = false := Bool.eq_false_iff.mpr e29
              obtain rfl := Option.some.inj h
              simp (maxDischargeDepth := 9) only [↓xpre, xpost, xlst, xcore, yset, rg0, ↓reduceIte, Nat.reduceEqDiff, Nat.reduceLT, Nat.reduceLeDiff, Nat.reduceAdd, Nat.reduceMul, Nat.reduceMod, Nat.reduceSub, Nat.reduceBEq, Int.reduceLE, Int.reduceLT, Int.reduceEq, Int.reduceSub, Int.reduceAdd, Int.reduceToNat, Int.reduceNeg, e1, e2, e3.1, e3.2, c4, e5, e6, e7, e8.1, e8.2, c9, e10, e11, e12, c13, e14, e15, c16, c17, c18, c19, c20, e21, e22, c23, e24, e25, e26, c27, c28, e29f] <;> (repeat' apply And.intro) <;> first | rfl | exact ⟨_, rfl⟩ | simp [lst]
          · rw [if_neg e26] at h
            have e26f : r17_.2.2.2.2 = false := Bool.eq_false_iff.mpr e26
            obtain rfl := Option.some.inj h
            simp (maxDischargeDepth := 9) only [↓xpre, xpost, xlst, xcore, yset, rg0, ↓reduceIte, Nat.reduceEqDiff, Nat.reduceLT, Nat.reduceLeDiff, Nat.reduceAdd, Nat.reduceMul, Nat.reduceMod, Nat.reduceSub, Nat.reduceBEq, Int.reduceLE, Int.reduceLT, Int.reduceEq, Int.reduceSub, Int.reduceAdd, Int.reduceToNat, Int.reduceNeg, e1, e2, e3.1, e3.2, c4, e5, e6, e7, e8.1, e8.2, c9, e10, e11, e12, c13, e14, e15, c16, c17, c18, c19, c20, e21, e22, c23, e24, e25, e26f] <;> (repeat' apply And.intro) <;> first | rfl | exact ⟨_, rfl⟩ | simp [lst]
        · rw [if_neg e25] at h
          have e25f : r20_.2.2.2.2 = false := Bool.eq_false_iff.mpr e25
          by_cases e26 : r17_.2.2.2.2 = true
          · rw [if_pos e26] at h
            obtain rfl := Option.some.inj h
            simp (maxDischargeDepth := 9) only [↓xpre, xpost, xlst, xcore, yset, rg0, ↓reduceIte, Nat.reduceEqDiff, Nat.reduceLT, Nat.reduceLeDiff, Nat.reduceAdd, Nat.reduceMul, Nat.reduceMod, Nat.reduceSub, Nat.reduceBEq, Int.reduceLE, Int.reduceLT, Int.reduceEq, Int.reduceSub, Int.reduceAdd, Int.reduceToNat, Int.reduceNeg, e1, e2, e3.1, e3.2, c4, e5, e6, e7, e8.1, e8.2, c9, e10, e11, e12, c13, e14, e15, c16, c17, c18, c19, c20, e21, e22, c23, e24, e25f, e26] <;> (repeat' apply And.intro) <;> first | rfl | exact ⟨_, rfl⟩ | simp [lst]
          · rw [if_neg e26] at h
            have e26f : r17_.2.2.2.2 = false := Bool.eq_false_iff.mpr e26
            have c27 := l_toProblem_cl t0_Labels t0_Degree t0_Nodes t0_Edges e11 e12
            have c28 := l_eqProblem_cl t0_Labels t0_Degree t0_Nodes t0_Edges t0_Labels t0_Degree t0_Nodes t0_Edges e11 e12
            by_cases e29 : (sameP t0_Labels t0_Degree t0_Nodes t0_Edges t0_Labels t0_Degree t0_Nodes t0_Edges) = true
            · rw [if_pos e29] at h
              have c30 := l_toProblem_cl t1_Labels t1_Degree t1_Nodes t1_Edges e14 e15
              have c31 := l_eqProblem_cl t1_Labels t1_Degree t1_Nodes t1_Edges t1_Labels t1_Degree t1_Nodes t1_Edges e14 e15
              by_cases e32 : (sameP t1_Labels t1_Degree t1_Nodes t1_Edges t1_Labels t1_Degree t1_Nodes t1_Edges) = true
              · rw [if_pos e32] at h
                obtain ⟨e33, h⟩ := ckS h
                have c34 := l_markProblem_cl t0_Labels t0_Degree t0_Nodes t0_Edges (1 : Int) e11 e12 e33
                obtain ⟨e35, h⟩ := ckS h
                have c36 := l_markProblem_cl t1_Labels t1_Degree t1_Nodes t1_Edges ((1 : Int) + tot t0_Nodes + tot t0_Edges) e14 e15 e35
                by_cases e37 : (((1 : Int) + tot t0_Nodes + tot t0_Edges) + tot t1_Nodes + tot t1_Edges) < 0
                · rw [if_pos e37] at h
                  obtain rfl := Option.some.inj h
                  simp (maxDischargeDepth := 9) only [↓xpre, xpost, xlst, xcore, yset, rg0, ↓reduceIte, Nat.reduceEqDiff, Nat.reduceLT, Nat.reduceLeDiff, Nat.reduceAdd, Nat.reduceMul, Nat.reduceMod, Nat.reduceSub, Nat.reduceBEq, Int.reduceLE, Int.reduceLT, Int.reduceEq, Int.reduceSub, Int.reduceAdd, Int.reduceToNat, Int.reduceNeg, e1, e2, e3.1, e3.2, c4, e5, e6, e7, e8.1, e8.2, c9, e10, e11, e12, c13, e14, e15, c16, c17, c18, c19, c20, e21, e22, c23, e24, e25f, e26f, c27, c28, e29, c30, c31, e32, e33.1, e33.2, c34, e35.1, e35.2, c36, e37] <;> (repeat' apply And.intro) <;> first | rfl | exact ⟨_, rfl⟩ | simp [lst]
                · rw [if_neg e37] at h
                  have c38 := l_eqProblem_cl r20_.1 r20_.2.1 r20_.2.2.1 r20_.2.2.2.1 r17_.1 r17_.2.1 r17_.2.2.1 r17_.2.2.2.1 e21 e22
                  obtain ⟨e39, h⟩ := ckS h
                  have c40 := l_markProblem_cl r20_.1 r20_.2.1 r20_.2.2.1 r20_.2.2.2.1 (1 : Int) e21 e22 e39
                  obtain ⟨r41_, hl41, h⟩ := bindS h
                  try dsimp only at h
                  have c41 := l_heldProblem_call r20_.1 r20_.2.1 (marks (1 : Int) r20_.2.2.1) (marks ((1 : Int) + tot r20_.2.2.1) r20_.2.2.2.1) (1 : Int) hl41
                  by_cases e42 : r41_ < 0
                  · rw [if_pos e42] at h
                    obtain rfl := Option.some.inj h
                    simp (maxDischargeDepth := 9) only [↓xpre, xpost, xlst, xcore, yset, rg0, ↓reduceIte, Nat.reduceEqDiff, Nat.reduceLT, Nat.reduceLeDiff, Nat.reduceAdd, Nat.reduceMul, Nat.reduceMod, Nat.reduceSub, Nat.reduceBEq, Int.reduceLE, Int.reduceLT, Int.reduceEq, Int.reduceSub, Int.reduceAdd, Int.reduceToNat, Int.reduceNeg, e1, e2, e3.1, e3.2, c4, e5, e6, e7, e8.1, e8.2, c9, e10, e11, e12, c13, e14, e15, c16, c17, c18, c19, c20, e21, e22, c23, e24, e25f, e26f, c27, c28, e29, c30, c31, e32, e33.1, e33.2, c34, e35.1, e35.2, c36, e37, c38, e39.1, e39.2, c40, c41, e42] <;> (repeat' apply And.intro) <;> first | rfl | exact ⟨_, rfl⟩ | simp [lst]
                  · rw [if_neg e42] at h
                    by_cases e43 : r41_ = ((1 : Int) + tot r20_.2.2.1 + tot r20_.2.2.2.1)
                    · rw [if_pos e43] at h
                      have c44 := l_toProblem_cl t0_Labels t0_Degree t0_Nodes t0_Edges e11 e12
                      have c45 := l_toProblem_cl t1_Labels t1_Degree t1_Nodes t1_Edges e14 e15
                      have c46 := l_eqProblem_cl r20_.1 r20_.2.1 r20_.2.2.1 r20_.2.2.2.1 r17_.1 r17_.2.1 r17_.2.2.1 r17_.2.2.2.1 e21 e22
                      obtain rfl := Option.some.inj h
                      simp (maxDischargeDepth := 9) only [↓xpre, xpost, xlst, xcore, yset, rg0, ↓reduceIte, Nat.reduceEqDiff, Nat.reduceLT, Nat.reduceLeDiff, Nat.reduceAdd, Nat.reduceMul, Nat.reduceMod, Nat.reduceSub, Nat.reduceBEq, Int.reduceLE, Int.reduceLT, Int.reduceEq, Int.reduceSub, Int.reduceAdd, Int.reduceToNat, Int.reduceNeg, e1, e2, e3.1, e3.2, c4, e5, e6, e7, e8.1, e8.2, c9, e10, e11, e12, c13, e14, e15, c16, c17, c18, c19, c20, e21, e22, c23, e24, e25f, e26f, c27, c28, e29, c30, c31, e32, e33.1, e33.2, c34, e35.1, e35.2, c36, e37, c38, e39.1, e39.2, c40, c41, e42, decide_eq_true e43, c44, c45, c46] <;> (repeat' apply And.intro) <;> first | rfl | exact ⟨_, rfl⟩ | simp [lst]
                    · rw [if_neg e43] at h
                      obtain rfl := Option.some.inj h
                      simp (maxDischargeDepth := 9) only [↓xpre, xpost, xlst, xcore, yset, rg0, ↓reduceIte, Nat.reduceEqDiff, Nat.reduceLT, Nat.reduceLeDiff, Nat.reduceAdd, Nat.reduceMul, Nat.reduceMod, Nat.reduceSub, Nat.reduceBEq, Int.reduceLE, Int.reduceLT, Int.reduceEq, Int.reduceSub, Int.reduceAdd, Int.reduceToNat, Int.reduceNeg, e1, e2, e3.1, e3.2, c4, e5, e6, e7, e8.1, e8.2, c9, e10, e11, e12, c13, e14, e15, c16, c17, c18, c19, c20, e21, e22, c23, e24, e25f, e26f, c27, c28, e29, c30, c31, e32, e33.1, e33.2, c34, e35.1, e35.2, c36, e37, c38, e39.1, e39.2, c40, c41, e42, e43] <;> (repeat' apply And.intro) <;> first | rfl | exact ⟨_, rfl⟩ | simp [lst]
              · rw [if_neg e32] at h
                have e32f : (sameP t1_Labels t1_Degree t1_Nodes t1_Edges t1_Labels t1_Degree t1_Nodes t1_Edges) = false := Bool.eq_false_iff.mpr e32
                obtain rfl := Option.some.inj h
                simp (maxDischargeDepth := 9) only [↓xpre, xpost, xlst, xcore, yset, rg0, ↓reduceIte, Nat.reduceEqDiff, Nat.reduceLT, Nat.reduceLeDiff, Nat.reduceAdd, Nat.reduceMul, Nat.reduceMod, Nat.reduceSub, Nat.reduceBEq, Int.reduceLE, Int.reduceLT, Int.reduceEq, Int.reduceSub, Int.reduceAdd, Int.reduceToNat, Int.reduceNeg, e1, e2, e3.1, e3.2, c4, e5, e6, e7, e8.1, e8.2, c9, e10, e11, e12, c13, e14, e15, c16, c17, c18, c19, c20, e21, e22, c23, e24, e25f, e26f, c27, c28, e29, c30, c31, e32f] <;> (repeat' apply And.intro) <;> first | rfl | exact ⟨_, rfl⟩ | simp [lst]
            · rw [if_neg e29] at h
              have e29f : (sameP t0_Labels t0_Degree t0_Nodes t0_Edges t0_Labels t0_Degree t0_Nodes t0_Edges) = false := Bool.eq_false_iff.mpr e29
              obtain rfl := Option.some.inj h
              simp (maxDischargeDepth := 9) only [↓xpre, xpost, xlst, xcore, yset, rg0, ↓reduceIte, Nat.reduceEqDiff, Nat.reduceLT, Nat.reduceLeDiff, Nat.reduceAdd, Nat.reduceMul, Nat.reduceMod, Nat.reduceSub, Nat.reduceBEq, Int.reduceLE, Int.reduceLT, Int.reduceEq, Int.reduceSub, Int.reduceAdd, Int.reduceToNat, Int.reduceNeg, e1, e2, e3.1, e3.2, c4, e5, e6, e7, e8.1, e8.2, c9, e10, e11, e12, c13, e14, e15, c16, c17, c18, c19, c20, e21, e22, c23, e24, e25f, e26f, c27, c28, e29f] <;> (repeat' apply And.intro) <;> first | rfl | exact ⟨_, rfl⟩ | simp [lst]
      · rw [if_neg e24] at h
        have e24f : (sameP r20_.1 r20_.2.1 r20_.2.2.1 r20_.2.2.2.1 r17_.1 r17_.2.1 r17_.2.2.1 r17_.2.2.2.1) = false := Bool.eq_false_iff.mpr e24
        obtain rfl := Option.some.inj h
        simp (maxDischargeDepth := 9) only [↓xpre, xpost, xlst, xcore, yset, rg0, ↓reduceIte, Nat.reduceEqDiff, Nat.reduceLT, Nat.reduceLeDiff, Nat.reduceAdd, Nat.reduceMul, Nat.reduceMod, Nat.reduceSub, Nat.reduceBEq, Int.reduceLE, Int.reduceLT, Int.reduceEq, Int.reduceSub, Int.reduceAdd, Int.reduceToNat, Int.reduceNeg, e1, e2, e3.1, e3.2, c4, e5, e6, e7, e8.1, e8.2, c9, e10, e11, e12, c13, e14, e15, c16, c17, c18, c19, c20, e21, e22, c23, e24f] <;> (repeat' apply And.intro) <;> first | rfl | exact ⟨_, rfl⟩ | simp [lst]

theorem restr_law (a d : Int) (ns es : List (List Int)) (b d' : Int) (ns' es' : List (List Int)) (hn : Wide ns) (he : Wide es) (hn' : Wide ns') (he' : Wide es') : l_FnExactIsRestriction a d ns es b d' ns' es' = some true := by
  unfold l_FnExactIsRestriction
  rw [ckT hn, ckT he, ckT (by omega)]
  by_cases q1 : szP 1048576 ns es < 0
  · rw [if_pos q1]
  · obtain ⟨f1, sn, se, f2⟩ := szP_fit (by omega) q1
    rw [if_neg q1, ckT hn', ckT he', ckT (by omega)]
    by_cases q2 : szP (szP 1048576 ns es) ns' es' < 0
    · rw [if_pos q2]
    · obtain ⟨f3, sn', se', f4⟩ := szP_fit f2 q2
      obtain ⟨x, y, hS, hI⟩ := restr_both a d ns es b d' ns' es' sn se sn' se'
      rw [if_neg q2, ckT sn, ckT se, ckT sn', ckT se']
      simp only [hS, hI, Option.bind_some, sameP_refl, if_true]
      cases x <;> cases y <;> rfl
theorem meet_law (a d : Int) (ns es : List (List Int)) (b d' : Int) (ns' es' : List (List Int)) (hn : Wide ns) (he : Wide es) (hn' : Wide ns') (he' : Wide es') : l_FnExactMeetProblem a d ns es b d' ns' es' = some true := by
  unfold l_FnExactMeetProblem
  rw [ckT hn, ckT he, ckT (by omega)]
  by_cases q1 : szP 1048576 ns es < 0
  · rw [if_pos q1]
  · obtain ⟨f1, sn, se, f2⟩ := szP_fit (by omega) q1
    rw [if_neg q1, ckT hn', ckT he', ckT (by omega)]
    by_cases q2 : szP (szP 1048576 ns es) ns' es' < 0
    · rw [if_pos q2]
    · obtain ⟨f3, sn', se', f4⟩ := szP_fit f2 q2
      have t1 := tot_nonneg ns
      have t2 := tot_nonneg es
      have t3 := tot_nonneg ns'
      have t4 := tot_nonneg es'
      obtain ⟨L, K, N, E, ok, hN, hE, hT, hU, hS, hI⟩ := meet_both a d ns es b d' ns' es' sn se sn' se'
      have t5 := tot_nonneg N
      have t6 := tot_nonneg E
      have hh := l_heldProblem_eq L K N E 1 hN hE (by omega)
      have g1 : (0 : Int) ≤ 1 ∧ 1 + tot ns + tot es < 1099511627776 := by omega
      have g2 : 0 ≤ 1 + tot ns + tot es ∧ 1 + tot ns + tot es + tot ns' + tot es' < 1099511627776 := by omega
      have g3 : ¬ 1 + tot ns + tot es + tot ns' + tot es' < 0 := by omega
      have g4 : (0 : Int) ≤ 1 ∧ 1 + tot N + tot E < 1099511627776 := by omega
      have g5 : ¬ 1 + tot N + tot E < 0 := by omega
      rw [if_neg q2, ckT sn, ckT se, ckT sn', ckT se']
      simp only [hS, hI, Option.bind_some, ckT hN, ckT hE, sameP_refl, if_true, ckT g1, ckT g2, if_neg g3, ckT g4, hh, if_neg g5]
      cases ok <;> rfl
theorem restr_all (ds : List D) (h : Args tys [24, 24] ds) : Y.call 3 ds [] = some (.bool true, []) := by
  rcases ds with _ | ⟨x, _ | ⟨y, _ | ⟨_, _⟩⟩⟩
  · cases h
  · exact h.2.elim
  · obtain ⟨a, d, ns, es, rfl, _, _, hn, he⟩ := argProblem ty24 ty3 ty22 ty32 ty3 h.1
    obtain ⟨b, d', ns', es', rfl, _, _, hn', he'⟩ := argProblem ty24 ty3 ty22 ty32 ty3 h.2.1
    exact l_FnExactIsRestriction_call a d ns es b d' ns' es' (restr_law a d ns es b d' ns' es' (wide_of hn) (wide_of he) (wide_of hn') (wide_of he'))
  · exact h.2.2.elim
theorem meet_all (ds : List D) (h : Args tys [24, 24] ds) : Y.call 7 ds [] = some (.bool true, []) := by
  rcases ds with _ | ⟨x, _ | ⟨y, _ | ⟨_, _⟩⟩⟩
  · cases h
  · exact h.2.elim
  · obtain ⟨a, d, ns, es, rfl, _, _, hn, he⟩ := argProblem ty24 ty3 ty22 ty32 ty3 h.1
    obtain ⟨b, d', ns', es', rfl, _, _, hn', he'⟩ := argProblem ty24 ty3 ty22 ty32 ty3 h.2.1
    exact l_FnExactMeetProblem_call a d ns es b d' ns' es' (meet_law a d ns es b d' ns' es' (wide_of hn) (wide_of he) (wide_of hn') (wide_of he'))
  · exact h.2.2.elim

end Go.Proofs.Ytjlphfbpaejicaa
