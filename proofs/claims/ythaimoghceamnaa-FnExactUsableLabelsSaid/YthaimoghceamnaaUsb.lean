/- Usable labels: the program's way, and the law. Conditions: none. -/
import Derived.Test.YthaimoghceamnaaL5
import Derived.Test.YthaimoghceamnaaUsa
namespace Go.Proofs.Ythaimoghceamnaa
open Go Dv
set_option linter.unusedSimpArgs false
set_option linter.unusedVariables false
set_option maxRecDepth 100000
set_option maxHeartbeats 4000000

def trues (s : List Bool) : Nat := (s.filter id).length
theorem trues_set : ∀ (s : List Bool) (i : Nat) (h : i < s.length), s[i] = true → trues (s.set i false) + 1 = trues s := by
  intro s
  induction s with
  | nil => intro i h; simp at h
  | cons x s ih =>
    intro i h hx
    cases i with
    | zero =>
      simp only [List.getElem_cons_zero] at hx
      subst hx
      simp [trues]
    | succ i =>
      simp only [List.getElem_cons_succ] at hx
      have := ih i (by simpa using h) hx
      unfold trues at this ⊢
      rw [List.set_cons_succ, List.filter_cons, List.filter_cons]
      cases x <;> simp <;> omega
/-- A list of yes and no as a set. -/
def P (s : List Bool) : Nat → Bool := fun i => s.getD i default
theorem P_lt {s : List Bool} {i : Nat} (h : P s i = true) : i < s.length := by
  rcases Nat.lt_or_ge i s.length with h1 | h1
  · exact h1
  · unfold P at h; rw [List.getD_eq_getElem?_getD, List.getElem?_eq_none h1] at h; simp at h
theorem P_set (s : List Bool) (i j : Nat) : P (s.set i false) j = (P s j && !decide (i = j)) := by
  unfold P
  rw [List.getD_eq_getElem?_getD, List.getElem?_set, List.getD_eq_getElem?_getD]
  by_cases h : i = j
  · subst h
    rw [if_pos rfl]
    by_cases hi : i < s.length <;> simp [hi]
  · rw [if_neg h]; simp [h]
theorem pass_eq (L D' : Int) (ns es : List (List Int)) (n : Nat) (s : List Bool) (hs : s.length = n) (hn : Short ns) (he : Short es) (h1 : inside ns n = true) (h2 : inside es n = true) (hb : n < 1000)
    (hg : ∀ q, Fixd n ns es q → ∀ i, q i = true → P s i = true) :
    ∃ s' sh, i_usableLabels_l0 L D' ns es s (s, false, 0) = some (s', sh) ∧ s'.length = n ∧ (∀ q, Fixd n ns es q → ∀ i, q i = true → P s' i = true) ∧ (sh = true → trues s' < trues s) ∧ (sh = false → s' = s ∧ Fixd n ns es (P s)) := by
  have step : ∀ (m : Nat) (v : List Bool × Bool × Int), (∃ i : Nat, v.2.2 = (i : Int) ∧ m = n - i ∧ i ≤ n ∧ v.1.length = n ∧ (∀ q, Fixd n ns es q → ∀ i, q i = true → P v.1 i = true) ∧ (v.2.1 = true → trues v.1 < trues s) ∧ (v.2.1 = false → v.1 = s ∧ ∀ j, j < i → P s j = true → goodB ns es (P s) (j : Int) = true)) →
      (∃ v' m', i_usableLabels_l0_S L D' ns es s v.1 v.2.1 v.2.2 = some (.inl v') ∧ m' < m ∧ ∃ i : Nat, v'.2.2 = (i : Int) ∧ m' = n - i ∧ i ≤ n ∧ v'.1.length = n ∧ (∀ q, Fixd n ns es q → ∀ i, q i = true → P v'.1 i = true) ∧ (v'.2.1 = true → trues v'.1 < trues s) ∧ (v'.2.1 = false → v'.1 = s ∧ ∀ j, j < i → P s j = true → goodB ns es (P s) (j : Int) = true)) ∨
      (∃ r, i_usableLabels_l0_S L D' ns es s v.1 v.2.1 v.2.2 = some (.inr r) ∧ (r.1.length = n ∧ (∀ q, Fixd n ns es q → ∀ i, q i = true → P r.1 i = true) ∧ (r.2 = true → trues r.1 < trues s) ∧ (r.2 = false → r.1 = s ∧ Fixd n ns es (P s)))) := by
    rintro m ⟨t, sh, kk⟩ ⟨i, hkk, rfl, hi, hl, hf, ht, hsame⟩
    simp only at hkk hl hf ht hsame
    subst hkk
    simp only
    by_cases hlt : i < n
    · left
      have hw : IntKind.i64.wrap ((i : Int) + 1) = ((i + 1 : Nat) : Int) := wrS i (by omega)
      have drop : P t i = true → goodB ns es (P t) (i : Int) = false → (t.set i false).length = n ∧ (∀ q, Fixd n ns es q → ∀ j, q j = true → P (t.set i false) j = true) ∧ trues (t.set i false) < trues s := by
        intro hp hgf
        refine ⟨by simp [hl], fun q hq j hj => ?_, ?_⟩
        · rw [P_set]
          have hjt := hf q hq j hj
          simp only [hjt, Bool.true_and, Bool.not_eq_true', decide_eq_false_iff_not]
          rintro rfl
          have := goodB_mono (fun j hj => hf q hq j hj) (hq i hj).2
          rw [hgf] at this; cases this
        · have hi2 : i < t.length := by omega
          have hti : t[i] = true := by unfold P at hp; rwa [getD_get _ _ hi2] at hp
          have := trues_set t i hi2 hti
          have htl : trues t ≤ trues s := by
            cases sh with
            | true => exact Nat.le_of_lt (ht rfl)
            | false => rw [(hsame rfl).1]; exact Nat.le_refl _
          omega
      simp only [i_usableLabels_l0_S]
      rw [hs, if_pos (lt_nat hlt), ckT (by rw [hl]; exact ix_nat hlt), Int.toNat_natCast, hw]
      by_cases hp : t.getD i default = true
      · rw [if_pos hp, ckT hn, ckT (by rw [hl]; exact h1)]
        by_cases g1 : (occB ns (i : Int) fun i => t.getD i default) = true
        · rw [if_pos g1, ckT he, ckT (by rw [hl]; exact h2)]
          by_cases g2 : (occB es (i : Int) fun i => t.getD i default) = true
          · refine ⟨_, _, by rw [if_pos g2], ?_, i + 1, rfl, rfl, by omega, hl, hf, ht, fun hsh => ⟨(hsame hsh).1, fun j hj hpj => ?_⟩⟩
            · omega
            · by_cases hji : j = i
              · subst hji
                rw [← (hsame hsh).1]
                show ((occB ns (j : Int) fun i => t.getD i default) && (occB es (j : Int) fun i => t.getD i default)) = true
                rw [g1, g2]; rfl
              · exact (hsame hsh).2 j (by omega) hpj
          · obtain ⟨d1, d2, d3⟩ := drop hp (by
              show ((occB ns (i : Int) fun i => t.getD i default) && (occB es (i : Int) fun i => t.getD i default)) = false
              rw [g1]; simpa using g2)
            exact ⟨_, _, by rw [if_neg g2], by omega, i + 1, rfl, rfl, by omega, d1, d2, fun _ => d3, fun h => by cases h⟩
        · obtain ⟨d1, d2, d3⟩ := drop hp (by
            show ((occB ns (i : Int) fun i => t.getD i default) && (occB es (i : Int) fun i => t.getD i default)) = false
            rw [Bool.eq_false_iff.mpr g1]; rfl)
          exact ⟨_, _, by rw [if_neg g1], by omega, i + 1, rfl, rfl, by omega, d1, d2, fun _ => d3, fun h => by cases h⟩
      · refine ⟨_, _, by rw [if_neg hp], ?_, i + 1, rfl, rfl, by omega, hl, hf, ht, fun hsh => ⟨(hsame hsh).1, fun j hj hpj => ?_⟩⟩
        · omega
        · by_cases hji : j = i
          · subst hji
            rw [(hsame hsh).1] at hp
            exact absurd hpj hp
          · exact (hsame hsh).2 j (by omega) hpj
    · right
      have hin : i = n := by omega
      subst hin
      refine ⟨(t, sh), ?_, hl, hf, ht, fun hsh => ⟨(hsame hsh).1, fun j hj => ?_⟩⟩
      · simp only [i_usableLabels_l0_S]; rw [hs, if_neg (not_lt_nat _)]
      · have := P_lt hj
        rw [hs] at this
        exact ⟨this, (hsame hsh).2 j this hj⟩
  obtain ⟨r, k1, k2⟩ := itO_inv (fun v => i_usableLabels_l0_S L D' ns es s v.1 v.2.1 v.2.2) (fun m v => ∃ i : Nat, v.2.2 = (i : Int) ∧ m = n - i ∧ i ≤ n ∧ v.1.length = n ∧ (∀ q, Fixd n ns es q → ∀ i, q i = true → P v.1 i = true) ∧ (v.2.1 = true → trues v.1 < trues s) ∧ (v.2.1 = false → v.1 = s ∧ ∀ j, j < i → P s j = true → goodB ns es (P s) (j : Int) = true))
    (fun r => r.1.length = n ∧ (∀ q, Fixd n ns es q → ∀ i, q i = true → P r.1 i = true) ∧ (r.2 = true → trues r.1 < trues s) ∧ (r.2 = false → r.1 = s ∧ Fixd n ns es (P s))) step n (s, false, 0) ⟨0, rfl, by omega, by omega, hs, hg, (fun h => by cases h), fun _ => ⟨rfl, fun j hj => by omega⟩⟩
  exact ⟨r.1, r.2, k1, k2.1, k2.2.1, k2.2.2.1, k2.2.2.2⟩
theorem usableI_l1 (L D' : Int) (ns es : List (List Int)) (n : Nat) (s : List Bool) (hs : s.length = n) (hn : Short ns) (he : Short es) (h1 : inside ns n = true) (h2 : inside es n = true) (hb : n < 1000)
    (hg : ∀ q, Fixd n ns es q → ∀ i, q i = true → P s i = true) : ∃ s', i_usableLabels_l1 L D' ns es (s, true) = some s' ∧ s'.length = n ∧ Great n ns es (P s') := by
  unfold i_usableLabels_l1
  obtain ⟨r, k1, k2⟩ := itO_inv (fun v => i_usableLabels_l1_S L D' ns es v.1 v.2) (fun m v => m = 2 * trues v.1 + (if v.2 = true then 1 else 0) ∧ v.1.length = n ∧ (∀ q, Fixd n ns es q → ∀ i, q i = true → P v.1 i = true) ∧ (v.2 = false → Fixd n ns es (P v.1))) (fun r => r.length = n ∧ Great n ns es (P r)) (by
    rintro m ⟨t, sh⟩ ⟨rfl, hl, hf, hx⟩
    simp only at hl hf hx
    cases sh with
    | true =>
      left
      obtain ⟨s', sh', e1, e2, e3, e4, e5⟩ := pass_eq L D' ns es n t hl hn he h1 h2 hb hf
      refine ⟨(s', sh'), _, by simp only [i_usableLabels_l1_S, e1, Option.bind_some, if_true], ?_, rfl, e2, e3, fun h => ?_⟩
      · cases sh' with
        | true => have := e4 rfl; simp; omega
        | false => have := (e5 rfl).1; subst this; simp
      · have := e5 h; rw [this.1]; exact this.2
    | false =>
      right
      exact ⟨t, by simp [i_usableLabels_l1_S], hl, hx rfl, hf⟩) _ (s, true) ⟨rfl, hs, hg, fun h => by cases h⟩
  exact ⟨r, k1, k2⟩
theorem usableI_l2 (s : List Bool) (hb : s.length < 1000) : i_usableLabels_l2 s ([], 0) = some (labs s.length (P s)) := by
  unfold i_usableLabels_l2
  have key := itO_for (fun v => i_usableLabels_l2_S s v.1 v.2) (fun i => (labs i (P s), (i : Int))) s.length (labs s.length (P s)) ?_ ?_
  · exact key
  · intro i hi
    simp only [i_usableLabels_l2_S]
    have hl := labs_len i (P s)
    rw [if_pos (lt_nat hi), ckT (ix_nat hi), Int.toNat_natCast, wrS i (by omega)]
    have e : labs (i + 1) (P s) = if P s i = true then labs i (P s) ++ [(i : Int)] else labs i (P s) := by
      unfold labs
      rw [List.range_succ, List.filter_append, List.map_append, List.filter_cons]
      cases P s i <;> simp
    rw [e]
    by_cases hp : s.getD i default = true
    · rw [if_pos hp, if_pos (show P s i = true from hp), ckT (by omega)]
    · rw [if_neg hp, if_neg (show ¬ P s i = true from hp)]
  · simp only [i_usableLabels_l2_S]; rw [if_neg (not_lt_nat _)]
theorem usable_both (L D' : Int) (ns es : List (List Int)) (n : Nat) (hL : L = (n : Int)) (hn : Short ns) (he : Short es) (h1 : inside ns n = true) (h2 : inside es n = true) (hb : n < 1000) :
    ∃ r, s_prUsable L D' ns es = some r ∧ i_usableLabels L D' ns es = some r ∧ r.length < 1000 := by
  subst hL
  obtain ⟨p, e1, e2⟩ := usable_l2 n D' ns es n hn he h1 h2 hb
  obtain ⟨s', e3, e4, e5⟩ := usableI_l1 n D' ns es n (List.replicate n true) (by simp) hn he h1 h2 hb (fun q hq i hi => by
    have := (hq i hi).1
    unfold P; rw [List.getD_eq_getElem?_getD, List.getElem?_replicate, if_pos this]; rfl)
  refine ⟨labs n p, ?_, ?_, by have := labs_len n p; omega⟩
  · unfold s_prUsable
    have k0 : s_prUsable_l0 n D' ns es ([], 0) = some (labs n fun _ => true) := by
      unfold s_prUsable_l0
      have key := itO_for (fun v => s_prUsable_l0_S n D' ns es v.1 v.2) (fun i => (labs i fun _ => true, (i : Int))) n (labs n fun _ => true) ?_ ?_
      · exact key
      · intro i hi
        simp only [s_prUsable_l0_S]
        have hl := labs_len i fun _ => true
        rw [if_pos (lt_nat hi), ckT (by omega), wrS i (by omega)]
        have e : labs (i + 1) (fun _ => true) = labs i (fun _ => true) ++ [(i : Int)] := by
          unfold labs; rw [List.range_succ, List.filter_append, List.map_append]; rfl
        rw [e]
      · simp only [s_prUsable_l0_S]; rw [if_neg (not_lt_nat _)]
    rw [k0, Option.bind_some, e1]; rfl
  · unfold i_usableLabels
    rw [repB_one true n (by omega), Option.bind_some, Int.toNat_natCast, e3, Option.bind_some, usableI_l2 s' (by omega), Option.bind_some, e4]
    exact congrArg some (labs_congr fun i _ => e5.uniq e2 i)
theorem isProb_inside {a b : Int} {n e : List (List Int)} (h : isProb a b n e = true) : inside n a.toNat = true ∧ inside e a.toNat = true := by
  have key : ∀ {l : List (List Int)} {size labels : Int}, confs l size labels = true → inside l labels.toNat = true := by
    intro l size labels hc
    refine List.all_eq_true.2 fun xs hx => List.all_eq_true.2 fun x hxx => ?_
    obtain ⟨i, hi, rfl⟩ := List.getElem_of_mem hx
    have h1 := range_all.1 hc i hi
    unfold confAt at h1
    simp only [Bool.and_eq_true] at h1
    have h2 := h1.1.2
    rw [getD_get _ _ hi] at h2
    have := inR_iff.1 (List.all_eq_true.1 h2 x hxx)
    simp only [decide_eq_true_eq]
    omega
  unfold isProb at h
  simp only [Bool.and_eq_true] at h
  exact ⟨key h.1.2, key h.2⟩
noncomputable def s_UsableLabels (p_Labels : Int) (p_Degree : Int) (p_Nodes : List (List Int)) (p_Edges : List (List Int)) : Option ((List Int) × Bool) :=
  ck (Short p_Nodes) <|
  ck (Short p_Edges) <|
  if (isProb p_Labels p_Degree p_Nodes p_Edges) = true then
    (s_prUsable p_Labels p_Degree p_Nodes p_Edges).bind fun r5_ =>
    some (r5_, true)
  else
    some ([], false)
/-- spec.UsableLabels -/
def k43 : SC :=
  .seq
    (.ops [
      ⟨(some 1), (Op.box 39 (Operand.tmp 0)), 0, none⟩,
      ⟨(some 2), (Op.assign (Operand.const (Value.slice none 0 0))), 25, none⟩,
      ⟨(some 3), (Op.assign (Operand.const (Value.bool false))), 4, none⟩])
    (.seq
      (.seq
        (.ops [
          ⟨(some 4), (Op.load 39 (Operand.tmp 1)), 39, none⟩,
          ⟨(some 5), (Op.call { callee := (Callee.value (Operand.func 55)), args := #[(Operand.tmp 4)], argTypes := #[39] }), 4, none⟩,
          ⟨(some 6), (Op.unOp UnOp.not 4 (Operand.tmp 5)), 4, none⟩])
        (.cond (Operand.tmp 6)
          (.seq
            (.ops [
              ⟨(some 2), (Op.assign (Operand.const (Value.slice none 0 0))), 25, none⟩,
              ⟨(some 3), (Op.assign (Operand.const (Value.bool false))), 4, none⟩])
            .ret)
          .skip))
      (.seq
        (.ops [
          ⟨(some 7), (Op.load 39 (Operand.tmp 1)), 39, none⟩,
          ⟨(some 8), (Op.call { callee := (Callee.value (Operand.func 74)), args := #[(Operand.tmp 7)], argTypes := #[39] }), 25, none⟩,
          ⟨(some 2), (Op.assign (Operand.tmp 8)), 25, none⟩,
          ⟨(some 3), (Op.assign (Operand.const (Value.bool true))), 4, none⟩])
        .ret))
theorem slim43 : Try.f43.body.map (slim lends) = some k43 := by kernel_rfl
theorem ok43 : fnOk Try.f43 1 = true := by kernel_rfl
theorem c43 {a l : List D} {r : D × List D} (h : wpD Y.env k43 (fin tys l.length [ResultVar.tmp 2, ResultVar.tmp 3] r) (entry a l)) (ha : a.length = 1) : Y.call 43 a l = some r :=
  call_slim (Y := Y) rfl Try.func43 (ha ▸ ok43) slim43 h
theorem s_UsableLabels_call (p_Labels : Int) (p_Degree : Int) (p_Nodes : List (List Int)) (p_Edges : List (List Int)) {r : (List Int) × Bool} (h : s_UsableLabels p_Labels p_Degree p_Nodes p_Edges = some r) : Y.call 43 [D.agg [D.int .i64 p_Labels, D.int .i64 p_Degree, D.sl 25 (lst (fun x => D.sl 3 (lst (D.int .i64) x)) p_Nodes), D.sl 25 (lst (fun x => D.sl 3 (lst (D.int .i64) x)) p_Edges)]] [] = some (D.tup [D.own 3 (lst (D.int .i64) r.1), D.bool r.2], []) := by
  refine c43 ?_ rfl
  unfold k43
  unfold s_UsableLabels at h
  obtain ⟨e1, h⟩ := ckS h
  obtain ⟨e2, h⟩ := ckS h
  have c3 := s_prGood_cl p_Labels p_Degree p_Nodes p_Edges e1 e2
  by_cases e4 : (isProb p_Labels p_Degree p_Nodes p_Edges) = true
  · rw [if_pos e4] at h
    obtain ⟨r5_, hl5, h⟩ := bindS h
    try dsimp only at h
    have c5 := s_prUsable_call p_Labels p_Degree p_Nodes p_Edges hl5
    obtain rfl := Option.some.inj h
    simp (maxDischargeDepth := 9) only [↓xpre, xpost, xlst, xcore, yset, rg0, ↓reduceIte, Nat.reduceEqDiff, Nat.reduceLT, Nat.reduceLeDiff, Nat.reduceAdd, Nat.reduceMul, Nat.reduceMod, Nat.reduceSub, Nat.reduceBEq, Int.reduceLE, Int.reduceLT, Int.reduceEq, Int.reduceSub, Int.reduceAdd, Int.reduceToNat, Int.reduceNeg, e1, e2, c3, e4, c5] <;> (repeat' apply And.intro) <;> first | rfl | exact ⟨_, rfl⟩ | simp [lst]
  · rw [if_neg e4] at h
    have e4f : (isProb p_Labels p_Degree p_Nodes p_Edges) = false := Bool.eq_false_iff.mpr e4
    obtain rfl := Option.some.inj h
    simp (maxDischargeDepth := 9) only [↓xpre, xpost, xlst, xcore, yset, rg0, ↓reduceIte, Nat.reduceEqDiff, Nat.reduceLT, Nat.reduceLeDiff, Nat.reduceAdd, Nat.reduceMul, Nat.reduceMod, Nat.reduceSub, Nat.reduceBEq, Int.reduceLE, Int.reduceLT, Int.reduceEq, Int.reduceSub, Int.reduceAdd, Int.reduceToNat, Int.reduceNeg, e1, e2, c3, e4f] <;> (repeat' apply And.intro) <;> first | rfl | exact ⟨_, rfl⟩ | simp [lst]

noncomputable def i_UsableLabels (p_Labels : Int) (p_Degree : Int) (p_Nodes : List (List Int)) (p_Edges : List (List Int)) : Option ((List Int) × Bool) :=
  ck (Short p_Nodes) <|
  ck (Short p_Edges) <|
  if (isProb p_Labels p_Degree p_Nodes p_Edges) = true then
    (i_usableLabels p_Labels p_Degree p_Nodes p_Edges).bind fun r5_ =>
    some (r5_, true)
  else
    some ([], false)
/-- impl.UsableLabels -/
def k44 : SC :=
  .seq
    (.ops [
      ⟨(some 1), (Op.box 39 (Operand.tmp 0)), 0, none⟩,
      ⟨(some 2), (Op.assign (Operand.const (Value.slice none 0 0))), 25, none⟩,
      ⟨(some 3), (Op.assign (Operand.const (Value.bool false))), 4, none⟩])
    (.seq
      (.seq
        (.ops [
          ⟨(some 4), (Op.load 39 (Operand.tmp 1)), 39, none⟩,
          ⟨(some 5), (Op.call { callee := (Callee.value (Operand.func 27)), args := #[(Operand.tmp 4)], argTypes := #[39] }), 4, none⟩,
          ⟨(some 6), (Op.unOp UnOp.not 4 (Operand.tmp 5)), 4, none⟩])
        (.cond (Operand.tmp 6)
          (.seq
            (.ops [
              ⟨(some 2), (Op.assign (Operand.const (Value.slice none 0 0))), 25, none⟩,
              ⟨(some 3), (Op.assign (Operand.const (Value.bool false))), 4, none⟩])
            .ret)
          .skip))
      (.seq
        (.ops [
          ⟨(some 7), (Op.load 39 (Operand.tmp 1)), 39, none⟩,
          ⟨(some 8), (Op.call { callee := (Callee.value (Operand.func 75)), args := #[(Operand.tmp 7)], argTypes := #[39] }), 25, none⟩,
          ⟨(some 2), (Op.assign (Operand.tmp 8)), 25, none⟩,
          ⟨(some 3), (Op.assign (Operand.const (Value.bool true))), 4, none⟩])
        .ret))
theorem slim44 : Try.f44.body.map (slim lends) = some k44 := by kernel_rfl
theorem ok44 : fnOk Try.f44 1 = true := by kernel_rfl
theorem c44 {a l : List D} {r : D × List D} (h : wpD Y.env k44 (fin tys l.length [ResultVar.tmp 2, ResultVar.tmp 3] r) (entry a l)) (ha : a.length = 1) : Y.call 44 a l = some r :=
  call_slim (Y := Y) rfl Try.func44 (ha ▸ ok44) slim44 h
theorem i_UsableLabels_call (p_Labels : Int) (p_Degree : Int) (p_Nodes : List (List Int)) (p_Edges : List (List Int)) {r : (List Int) × Bool} (h : i_UsableLabels p_Labels p_Degree p_Nodes p_Edges = some r) : Y.call 44 [D.agg [D.int .i64 p_Labels, D.int .i64 p_Degree, D.sl 25 (lst (fun x => D.sl 3 (lst (D.int .i64) x)) p_Nodes), D.sl 25 (lst (fun x => D.sl 3 (lst (D.int .i64) x)) p_Edges)]] [] = some (D.tup [D.own 3 (lst (D.int .i64) r.1), D.bool r.2], []) := by
  refine c44 ?_ rfl
  unfold k44
  unfold i_UsableLabels at h
  obtain ⟨e1, h⟩ := ckS h
  obtain ⟨e2, h⟩ := ckS h
  have c3 := i_IsProblem_cl p_Labels p_Degree p_Nodes p_Edges e1 e2
  by_cases e4 : (isProb p_Labels p_Degree p_Nodes p_Edges) = true
  · rw [if_pos e4] at h
    obtain ⟨r5_, hl5, h⟩ := bindS h
    try dsimp only at h
    have c5 := i_usableLabels_call p_Labels p_Degree p_Nodes p_Edges hl5
    obtain rfl := Option.some.inj h
    simp (maxDischargeDepth := 9) only [↓xpre, xpost, xlst, xcore, yset, rg0, ↓reduceIte, Nat.reduceEqDiff, Nat.reduceLT, Nat.reduceLeDiff, Nat.reduceAdd, Nat.reduceMul, Nat.reduceMod, Nat.reduceSub, Nat.reduceBEq, Int.reduceLE, Int.reduceLT, Int.reduceEq, Int.reduceSub, Int.reduceAdd, Int.reduceToNat, Int.reduceNeg, e1, e2, c3, e4, c5] <;> (repeat' apply And.intro) <;> first | rfl | exact ⟨_, rfl⟩ | simp [lst]
  · rw [if_neg e4] at h
    have e4f : (isProb p_Labels p_Degree p_Nodes p_Edges) = false := Bool.eq_false_iff.mpr e4
    obtain rfl := Option.some.inj h
    simp (maxDischargeDepth := 9) only [↓xpre, xpost, xlst, xcore, yset, rg0, ↓reduceIte, Nat.reduceEqDiff, Nat.reduceLT, Nat.reduceLeDiff, Nat.reduceAdd, Nat.reduceMul, Nat.reduceMod, Nat.reduceSub, Nat.reduceBEq, Int.reduceLE, Int.reduceLT, Int.reduceEq, Int.reduceSub, Int.reduceAdd, Int.reduceToNat, Int.reduceNeg, e1, e2, c3, e4f] <;> (repeat' apply And.intro) <;> first | rfl | exact ⟨_, rfl⟩ | simp [lst]

noncomputable def l_FnExactUsableLabels (t0_Labels : Int) (t0_Degree : Int) (t0_Nodes : List (List Int)) (t0_Edges : List (List Int)) : Option (Bool) :=
  ck (Wide t0_Nodes) <|
  ck (Wide t0_Edges) <|
  ck (0 ≤ (1048576 : Int) ∧ (1048576 : Int) ≤ 1048576) <|
  if (szP (1048576 : Int) t0_Nodes t0_Edges) < 0 then
    some true
  else
    ck (Short t0_Nodes) <|
    ck (Short t0_Edges) <|
    (s_UsableLabels t0_Labels t0_Degree t0_Nodes t0_Edges).bind fun r9_ =>
    (i_UsableLabels t0_Labels t0_Degree t0_Nodes t0_Edges).bind fun r11_ =>
    ck (r11_.1.length < 1099511627776) <|
    if (decide (r11_.1 = r9_.1)) = true then
      if r11_.2 = true then
        if r9_.2 = true then
          if (sameP t0_Labels t0_Degree t0_Nodes t0_Edges t0_Labels t0_Degree t0_Nodes t0_Edges) = true then
            ck (0 ≤ (1 : Int) ∧ (1 : Int) + tot t0_Nodes + tot t0_Edges < 1099511627776) <|
            if ((1 : Int) + tot t0_Nodes + tot t0_Edges) < 0 then
              some false
            else
              ck (0 ≤ (1 : Int) ∧ (1 : Int) < 1099511627776) <|
              ck ((upto (1 : Int) r11_.1.length).length < 1099511627776) <|
              ck (0 ≤ (1 : Int) ∧ (1 : Int) + (upto (1 : Int) r11_.1.length).length < 1099511627776) <|
              if (held (1 : Int) (upto (1 : Int) r11_.1.length)) < 0 then
                some false
              else
                if (held (1 : Int) (upto (1 : Int) r11_.1.length)) = ((1 : Int) + r11_.1.length) then
                  some true
                else
                  some false
          else
            some false
        else
          some false
      else
        if r9_.2 = true then
          some false
        else
          if (sameP t0_Labels t0_Degree t0_Nodes t0_Edges t0_Labels t0_Degree t0_Nodes t0_Edges) = true then
            ck (0 ≤ (1 : Int) ∧ (1 : Int) + tot t0_Nodes + tot t0_Edges < 1099511627776) <|
            if ((1 : Int) + tot t0_Nodes + tot t0_Edges) < 0 then
              some false
            else
              ck (0 ≤ (1 : Int) ∧ (1 : Int) < 1099511627776) <|
              ck ((upto (1 : Int) r11_.1.length).length < 1099511627776) <|
              ck (0 ≤ (1 : Int) ∧ (1 : Int) + (upto (1 : Int) r11_.1.length).length < 1099511627776) <|
              if (held (1 : Int) (upto (1 : Int) r11_.1.length)) < 0 then
                some false
              else
                if (held (1 : Int) (upto (1 : Int) r11_.1.length)) = ((1 : Int) + r11_.1.length) then
                  some true
                else
                  some false
          else
            some false
    else
      some false
/-- laws.FnExactUsableLabels -/
def k13 : SC :=
  .seq
    (.ops [
      ⟨(some 1), (Op.box 36 (Operand.tmp 0)), 0, none⟩,
      ⟨(some 2), (Op.assign (Operand.const (Value.bool false))), 4, none⟩])
    (.seq
      (.ops [
        ⟨(some 3), (Op.assign (Operand.const (Value.int IntKind.i64 1048576))), 3, none⟩])
      (.seq
        (.ops [
          ⟨(some 14), (Op.load 36 (Operand.tmp 1)), 36, none⟩,
          ⟨(some 15), (Op.move (Operand.tmp 3)), 3, none⟩,
          ⟨(some 16), (Op.call { callee := (Callee.value (Operand.func 24)), args := #[(Operand.tmp 14), (Operand.tmp 15)], argTypes := #[36, 3] }), 3, none⟩,
          ⟨(some 3), (Op.assign (Operand.tmp 16)), 3, none⟩])
        (.seq
          (.seq
            (.ops [
              ⟨(some 17), (Op.move (Operand.tmp 3)), 3, none⟩,
              ⟨(some 18), (Op.binOp BinOp.lss 3 (Operand.tmp 17) (Operand.const (Value.int IntKind.i64 0)) 3), 4, none⟩])
            (.cond (Operand.tmp 18)
              (.seq
                (.ops [
                  ⟨(some 2), (Op.assign (Operand.const (Value.bool true))), 4, none⟩])
                .ret)
              .skip))
          (.seq
            (.ops [
              ⟨(some 20), (Op.load 36 (Operand.tmp 1)), 36, none⟩,
              ⟨(some 21), (Op.call { callee := (Callee.value (Operand.func 26)), args := #[(Operand.tmp 20)], argTypes := #[36] }), 39, none⟩,
              ⟨(some 22), (Op.call { callee := (Callee.value (Operand.func 43)), args := #[(Operand.tmp 21)], argTypes := #[39] }), 31, none⟩,
              ⟨(some 19), (Op.move (Operand.tmp 22)), 31, none⟩,
              ⟨(some 23), (Op.extract (Operand.tmp 19) 0), 25, none⟩,
              ⟨(some 24), (Op.extract (Operand.tmp 19) 1), 4, none⟩,
              ⟨(some 4), (Op.assign (Operand.tmp 23)), 25, none⟩,
              ⟨(some 5), (Op.assign (Operand.tmp 24)), 4, none⟩])
            (.seq
              (.ops [
                ⟨(some 25), (Op.load 36 (Operand.tmp 1)), 36, none⟩,
                ⟨(some 26), (Op.call { callee := (Callee.value (Operand.func 26)), args := #[(Operand.tmp 25)], argTypes := #[36] }), 39, none⟩,
                ⟨(some 6), (Op.alloc 39), 0, none⟩,
                ⟨none, (Op.store 39 (Operand.tmp 6) (Operand.tmp 26)), 0, none⟩])
              (.seq
                (.ops [
                  ⟨(some 28), (Op.load 39 (Operand.tmp 6)), 39, none⟩,
                  ⟨(some 29), (Op.call { callee := (Callee.value (Operand.func 44)), args := #[(Operand.tmp 28)], argTypes := #[39] }), 31, none⟩,
                  ⟨(some 27), (Op.move (Operand.tmp 29)), 31, none⟩,
                  ⟨(some 30), (Op.extract (Operand.tmp 27) 0), 25, none⟩,
                  ⟨(some 31), (Op.extract (Operand.tmp 27) 1), 4, none⟩,
                  ⟨(some 7), (Op.assign (Operand.tmp 30)), 25, none⟩,
                  ⟨(some 8), (Op.assign (Operand.tmp 31)), 4, none⟩])
                (.seq
                  (.seq
                    (.ops [
                      ⟨(some 32), (Op.move (Operand.tmp 7)), 25, none⟩,
                      ⟨(some 33), (Op.move (Operand.tmp 4)), 25, none⟩,
                      ⟨(some 34), (Op.call { callee := (Callee.value (Operand.func 19)), args := #[(Operand.tmp 32), (Operand.tmp 33)], argTypes := #[25, 25] }), 4, none⟩,
                      ⟨(some 35), (Op.unOp UnOp.not 4 (Operand.tmp 34)), 4, none⟩,
                      ⟨(some 36), (Op.move (Operand.tmp 35)), 4, none⟩,
                      ⟨(some 37), (Op.move (Operand.tmp 8)), 4, (some (some 36, false))⟩,
                      ⟨(some 38), (Op.move (Operand.tmp 5)), 4, (some (some 36, false))⟩,
                      ⟨(some 39), (Op.binOp BinOp.neq 4 (Operand.tmp 37) (Operand.tmp 38) 4), 4, (some (some 36, false))⟩,
                      ⟨(some 40), (Op.pick (Operand.tmp 36) (Operand.const (Value.bool true)) (Operand.tmp 39)), 4, none⟩])
                    (.cond (Operand.tmp 40)
                      (.seq
                        (.ops [
                          ⟨(some 2), (Op.assign (Operand.const (Value.bool false))), 4, none⟩])
                        .ret)
                      .skip))
                  (.seq
                    (.seq
                      (.draws [
                        (⟨[41, 6, 6], [41, 42, 43, 44, 45], [41]⟩, ⟨(some 41), (Op.load 39 (Operand.tmp 6)), 39, none⟩),
                        (⟨[42, 1, 1], [41, 42, 43, 44, 45], [42]⟩, ⟨(some 42), (Op.load 36 (Operand.tmp 1)), 36, none⟩),
                        (⟨[43, 42, 1], [41, 42, 43, 44, 45], [43]⟩, ⟨(some 43), (Op.call { callee := (Callee.value (Operand.func 26)), args := #[(Operand.tmp 42)], argTypes := #[36] }), 39, none⟩),
                        (⟨[44, 41, 43, 6, 43], [41, 42, 43, 44, 45], [44]⟩, ⟨(some 44), (Op.call { callee := (Callee.value (Operand.func 28)), args := #[(Operand.tmp 41), (Operand.tmp 43)], argTypes := #[39, 39] }), 4, none⟩),
                        (⟨[45, 44, 44], [41, 42, 43, 44, 45], [45]⟩, ⟨(some 45), (Op.unOp UnOp.not 4 (Operand.tmp 44)), 4, none⟩)])
                      (.cond (Operand.tmp 45)
                        (.seq
                          (.ops [
                            ⟨(some 2), (Op.assign (Operand.const (Value.bool false))), 4, none⟩])
                          .ret)
                        .skip))
                    (.seq
                      (.ops [
                        ⟨(some 9), (Op.assign (Operand.const (Value.int IntKind.i64 1))), 3, none⟩])
                      (.seq
                        (.ops [
                          ⟨(some 46), (Op.load 39 (Operand.tmp 6)), 39, none⟩,
                          ⟨(some 47), (Op.move (Operand.tmp 9)), 3, none⟩,
                          ⟨(some 48), (Op.call { callee := (Callee.value (Operand.func 31)), args := #[(Operand.tmp 46), (Operand.tmp 47)], argTypes := #[39, 3] }), 3, none⟩,
                          ⟨(some 9), (Op.assign (Operand.tmp 48)), 3, none⟩])
                        (.seq
                          (.seq
                            (.ops [
                              ⟨(some 49), (Op.move (Operand.tmp 9)), 3, none⟩,
                              ⟨(some 50), (Op.binOp BinOp.lss 3 (Operand.tmp 49) (Operand.const (Value.int IntKind.i64 0)) 3), 4, none⟩,
                              ⟨(some 51), (Op.move (Operand.tmp 50)), 4, none⟩,
                              ⟨(some 52), (Op.move (Operand.tmp 7)), 25, (some (some 51, false))⟩,
                              ⟨(some 53), (Op.move (Operand.tmp 4)), 25, (some (some 51, false))⟩,
                              ⟨(some 54), (Op.call { callee := (Callee.value (Operand.func 19)), args := #[(Operand.tmp 52), (Operand.tmp 53)], argTypes := #[25, 25] }), 4, (some (some 51, false))⟩,
                              ⟨(some 55), (Op.unOp UnOp.not 4 (Operand.tmp 54)), 4, (some (some 51, false))⟩,
                              ⟨(some 56), (Op.pick (Operand.tmp 51) (Operand.const (Value.bool true)) (Operand.tmp 55)), 4, none⟩,
                              ⟨(some 57), (Op.move (Operand.tmp 56)), 4, none⟩,
                              ⟨(some 58), (Op.move (Operand.tmp 8)), 4, (some (some 57, false))⟩,
                              ⟨(some 59), (Op.move (Operand.tmp 5)), 4, (some (some 57, false))⟩,
                              ⟨(some 60), (Op.binOp BinOp.neq 4 (Operand.tmp 58) (Operand.tmp 59) 4), 4, (some (some 57, false))⟩,
                              ⟨(some 61), (Op.pick (Operand.tmp 57) (Operand.const (Value.bool true)) (Operand.tmp 60)), 4, none⟩])
                            (.cond (Operand.tmp 61)
                              (.seq
                                (.ops [
                                  ⟨(some 2), (Op.assign (Operand.const (Value.bool false))), 4, none⟩])
                                .ret)
                              .skip))
                          (.seq
                            (.ops [
                              ⟨(some 10), (Op.assign (Operand.const (Value.int IntKind.i64 1))), 3, none⟩])
                            (.seq
                              (.ops [
                                ⟨(some 62), (Op.move (Operand.tmp 7)), 25, none⟩,
                                ⟨(some 63), (Op.move (Operand.tmp 10)), 3, none⟩,
                                ⟨(some 64), (Op.call { callee := (Callee.value (Operand.func 22)), args := #[(Operand.tmp 62), (Operand.tmp 63)], argTypes := #[25, 3] }), 3, none⟩,
                                ⟨(some 10), (Op.assign (Operand.tmp 64)), 3, none⟩])
                              (.seq
                                (.ops [
                                  ⟨(some 11), (Op.assign (Operand.const (Value.int IntKind.i64 1))), 3, none⟩])
                                (.seq
                                  (.ops [
                                    ⟨(some 65), (Op.move (Operand.tmp 7)), 25, none⟩,
                                    ⟨(some 66), (Op.move (Operand.tmp 11)), 3, none⟩,
                                    ⟨(some 67), (Op.call { callee := (Callee.value (Operand.func 23)), args := #[(Operand.tmp 65), (Operand.tmp 66)], argTypes := #[25, 3] }), 3, none⟩,
                                    ⟨(some 11), (Op.assign (Operand.tmp 67)), 3, none⟩])
                                  (.seq
                                    (.seq
                                      (.ops [
                                        ⟨(some 68), (Op.move (Operand.tmp 11)), 3, none⟩,
                                        ⟨(some 69), (Op.binOp BinOp.lss 3 (Operand.tmp 68) (Operand.const (Value.int IntKind.i64 0)) 3), 4, none⟩])
                                      (.cond (Operand.tmp 69)
                                        (.seq
                                          (.ops [
                                            ⟨(some 2), (Op.assign (Operand.const (Value.bool false))), 4, none⟩])
                                          .ret)
                                        .skip))
                                    (.seq
                                      (.seq
                                        (.ops [
                                          ⟨(some 70), (Op.move (Operand.tmp 11)), 3, none⟩,
                                          ⟨(some 71), (Op.move (Operand.tmp 10)), 3, none⟩,
                                          ⟨(some 72), (Op.binOp BinOp.neq 3 (Operand.tmp 70) (Operand.tmp 71) 3), 4, none⟩])
                                        (.cond (Operand.tmp 72)
                                          (.seq
                                            (.ops [
                                              ⟨(some 2), (Op.assign (Operand.const (Value.bool false))), 4, none⟩])
                                            .ret)
                                          .skip))
                                      (.seq
                                        (.ops [
                                          ⟨(some 74), (Op.load 36 (Operand.tmp 1)), 36, none⟩,
                                          ⟨(some 75), (Op.call { callee := (Callee.value (Operand.func 26)), args := #[(Operand.tmp 74)], argTypes := #[36] }), 39, none⟩,
                                          ⟨(some 76), (Op.call { callee := (Callee.value (Operand.func 44)), args := #[(Operand.tmp 75)], argTypes := #[39] }), 31, none⟩,
                                          ⟨(some 73), (Op.move (Operand.tmp 76)), 31, none⟩,
                                          ⟨(some 77), (Op.extract (Operand.tmp 73) 0), 25, none⟩,
                                          ⟨(some 78), (Op.extract (Operand.tmp 73) 1), 4, none⟩,
                                          ⟨(some 12), (Op.assign (Operand.tmp 77)), 25, none⟩,
                                          ⟨(some 13), (Op.assign (Operand.tmp 78)), 4, none⟩])
                                        (.seq
                                          (.seq
                                            (.ops [
                                              ⟨(some 79), (Op.move (Operand.tmp 12)), 25, none⟩,
                                              ⟨(some 80), (Op.move (Operand.tmp 4)), 25, none⟩,
                                              ⟨(some 81), (Op.call { callee := (Callee.value (Operand.func 19)), args := #[(Operand.tmp 79), (Operand.tmp 80)], argTypes := #[25, 25] }), 4, none⟩,
                                              ⟨(some 82), (Op.unOp UnOp.not 4 (Operand.tmp 81)), 4, none⟩,
                                              ⟨(some 83), (Op.move (Operand.tmp 82)), 4, none⟩,
                                              ⟨(some 84), (Op.move (Operand.tmp 13)), 4, (some (some 83, false))⟩,
                                              ⟨(some 85), (Op.move (Operand.tmp 5)), 4, (some (some 83, false))⟩,
                                              ⟨(some 86), (Op.binOp BinOp.neq 4 (Operand.tmp 84) (Operand.tmp 85) 4), 4, (some (some 83, false))⟩,
                                              ⟨(some 87), (Op.pick (Operand.tmp 83) (Operand.const (Value.bool true)) (Operand.tmp 86)), 4, none⟩])
                                            (.cond (Operand.tmp 87)
                                              (.seq
                                                (.ops [
                                                  ⟨(some 2), (Op.assign (Operand.const (Value.bool false))), 4, none⟩])
                                                .ret)
                                              .skip))
                                          (.seq
                                            (.ops [
                                              ⟨(some 11), (Op.assign (Operand.const (Value.int IntKind.i64 1))), 3, none⟩])
                                            (.seq
                                              (.ops [
                                                ⟨(some 88), (Op.move (Operand.tmp 7)), 25, none⟩,
                                                ⟨(some 89), (Op.move (Operand.tmp 11)), 3, none⟩,
                                                ⟨(some 90), (Op.call { callee := (Callee.value (Operand.func 23)), args := #[(Operand.tmp 88), (Operand.tmp 89)], argTypes := #[25, 3] }), 3, none⟩,
                                                ⟨(some 11), (Op.assign (Operand.tmp 90)), 3, none⟩])
                                              (.seq
                                                (.seq
                                                  (.ops [
                                                    ⟨(some 91), (Op.move (Operand.tmp 11)), 3, none⟩,
                                                    ⟨(some 92), (Op.binOp BinOp.lss 3 (Operand.tmp 91) (Operand.const (Value.int IntKind.i64 0)) 3), 4, none⟩])
                                                  (.cond (Operand.tmp 92)
                                                    (.seq
                                                      (.ops [
                                                        ⟨(some 2), (Op.assign (Operand.const (Value.bool false))), 4, none⟩])
                                                      .ret)
                                                    .skip))
                                                (.seq
                                                  (.seq
                                                    (.ops [
                                                      ⟨(some 93), (Op.move (Operand.tmp 11)), 3, none⟩,
                                                      ⟨(some 94), (Op.move (Operand.tmp 10)), 3, none⟩,
                                                      ⟨(some 95), (Op.binOp BinOp.neq 3 (Operand.tmp 93) (Operand.tmp 94) 3), 4, none⟩])
                                                    (.cond (Operand.tmp 95)
                                                      (.seq
                                                        (.ops [
                                                          ⟨(some 2), (Op.assign (Operand.const (Value.bool false))), 4, none⟩])
                                                        .ret)
                                                      .skip))
                                                  (.seq
                                                    (.ops [
                                                      ⟨(some 2), (Op.assign (Operand.const (Value.bool true))), 4, none⟩])
                                                    .ret))))))))))))))))))))))))
theorem slim13 : Try.f13.body.map (slim lends) = some k13 := by kernel_rfl
theorem ok13 : fnOk Try.f13 1 = true := by kernel_rfl
theorem c13 {a l : List D} {r : D × List D} (h : wpD Y.env k13 (fin tys l.length [ResultVar.tmp 2] r) (entry a l)) (ha : a.length = 1) : Y.call 13 a l = some r :=
  call_slim (Y := Y) rfl Try.func13 (ha ▸ ok13) slim13 h
theorem l_FnExactUsableLabels_call (t0_Labels : Int) (t0_Degree : Int) (t0_Nodes : List (List Int)) (t0_Edges : List (List Int)) {r : Bool} (h : l_FnExactUsableLabels t0_Labels t0_Degree t0_Nodes t0_Edges = some r) : Y.call 13 [D.agg [D.int .i64 t0_Labels, D.int .i64 t0_Degree, D.sl 25 (lst (fun x => D.sl 3 (lst (D.int .i64) x)) t0_Nodes), D.sl 25 (lst (fun x => D.sl 3 (lst (D.int .i64) x)) t0_Edges)]] [] = some (D.bool r, []) := by
  refine c13 ?_ rfl
  unfold k13
  unfold l_FnExactUsableLabels at h
  obtain ⟨e1, h⟩ := ckS h
  obtain ⟨e2, h⟩ := ckS h
  obtain ⟨e3, h⟩ := ckS h
  have c4 := l_szProblem_cl t0_Labels t0_Degree t0_Nodes t0_Edges (1048576 : Int) e1 e2 e3
  by_cases e5 : (szP (1048576 : Int) t0_Nodes t0_Edges) < 0
  · rw [if_pos e5] at h
    obtain rfl := Option.some.inj h
    simp (maxDischargeDepth := 9) only [↓xpre, xpost, xlst, xcore, yset, rg0, ↓reduceIte, Nat.reduceEqDiff, Nat.reduceLT, Nat.reduceLeDiff, Nat.reduceAdd, Nat.reduceMul, Nat.reduceMod, Nat.reduceSub, Nat.reduceBEq, Int.reduceLE, Int.reduceLT, Int.reduceEq, Int.reduceSub, Int.reduceAdd, Int.reduceToNat, Int.reduceNeg, e1, e2, e3.1, e3.2, c4, e5] <;> (repeat' apply And.intro) <;> first | rfl | exact ⟨_, rfl⟩ | simp [lst]
  · rw [if_neg e5] at h
    obtain ⟨e6, h⟩ := ckS h
    obtain ⟨e7, h⟩ := ckS h
    have c8 := l_toProblem_cl t0_Labels t0_Degree t0_Nodes t0_Edges e6 e7
    obtain ⟨r9_, hl9, h⟩ := bindS h
    try dsimp only at h
    have c9 := s_UsableLabels_call t0_Labels t0_Degree t0_Nodes t0_Edges hl9
    have c10 := l_toProblem_cl t0_Labels t0_Degree t0_Nodes t0_Edges e6 e7
    obtain ⟨r11_, hl11, h⟩ := bindS h
    try dsimp only at h
    have c11 := i_UsableLabels_call t0_Labels t0_Degree t0_Nodes t0_Edges hl11
    obtain ⟨e12, h⟩ := ckS h
    have c13 := l_eqIntS_cl r11_.1 r9_.1 e12
    by_cases e14 : (decide (r11_.1 = r9_.1)) = true
    · rw [if_pos e14] at h
      by_cases e15 : r11_.2 = true
      · rw [if_pos e15] at h
        by_cases e16 : r9_.2 = true
        · rw [if_pos e16] at h
          have c17 := l_toProblem_cl t0_Labels t0_Degree t0_Nodes t0_Edges e6 e7
          have c18 := l_eqProblem_cl t0_Labels t0_Degree t0_Nodes t0_Edges t0_Labels t0_Degree t0_Nodes t0_Edges e6 e7
          by_cases e19 : (sameP t0_Labels t0_Degree t0_Nodes t0_Edges t0_Labels t0_Degree t0_Nodes t0_Edges) = true
          · rw [if_pos e19] at h
            obtain ⟨e20, h⟩ := ckS h
            have c21 := l_markProblem_cl t0_Labels t0_Degree t0_Nodes t0_Edges (1 : Int) e6 e7 e20
            by_cases e22 : ((1 : Int) + tot t0_Nodes + tot t0_Edges) < 0
            · rw [if_pos e22] at h
              obtain rfl := Option.some.inj h
              simp (maxDischargeDepth := 9) only [↓xpre, xpost, xlst, xcore, yset, rg0, ↓reduceIte, Nat.reduceEqDiff, Nat.reduceLT, Nat.reduceLeDiff, Nat.reduceAdd, Nat.reduceMul, Nat.reduceMod, Nat.reduceSub, Nat.reduceBEq, Int.reduceLE, Int.reduceLT, Int.reduceEq, Int.reduceSub, Int.reduceAdd, Int.reduceToNat, Int.reduceNeg, e1, e2, e3.1, e3.2, c4, e5, e6, e7, c8, c9, c10, c11, e12, c13, e14, e15, e16, c17, c18, e19, e20.1, e20.2, c21, e22] <;> (repeat' apply And.intro) <;> first | rfl | exact ⟨_, rfl⟩ | simp [lst]
            · rw [if_neg e22] at h
              have c23 := l_eqIntS_cl r11_.1 r9_.1 e12
              obtain ⟨e24, h⟩ := ckS h
              have c25 := l_markIntS_cl r11_.1 (1 : Int) e12 e24
              obtain ⟨e26, h⟩ := ckS h
              obtain ⟨e27, h⟩ := ckS h
              have c28 := l_heldIntS_cl (upto (1 : Int) r11_.1.length) (1 : Int) e26 e27
              by_cases e29 : (held (1 : Int) (upto (1 : Int) r11_.1.length)) < 0
              · rw [if_pos e29] at h
                obtain rfl := Option.some.inj h
                simp (maxDischargeDepth := 9) only [↓xpre, xpost, xlst, xcore, yset, rg0, ↓reduceIte, Nat.reduceEqDiff, Nat.reduceLT, Nat.reduceLeDiff, Nat.reduceAdd, Nat.reduceMul, Nat.reduceMod, Nat.reduceSub, Nat.reduceBEq, Int.reduceLE, Int.reduceLT, Int.reduceEq, Int.reduceSub, Int.reduceAdd, Int.reduceToNat, Int.reduceNeg, e1, e2, e3.1, e3.2, c4, e5, e6, e7, c8, c9, c10, c11, e12, c13, e14, e15, e16, c17, c18, e19, e20.1, e20.2, c21, e22, c23, e24.1, e24.2, c25, e26, e27.1, e27.2, c28, e29] <;> (repeat' apply And.intro) <;> first | rfl | exact ⟨_, rfl⟩ | simp [lst]
              · rw [if_neg e29] at h
                by_cases e30 : (held (1 : Int) (upto (1 : Int) r11_.1.length)) = ((1 : Int) + r11_.1.length)
                · rw [if_pos e30] at h
                  have c31 := l_toProblem_cl t0_Labels t0_Degree t0_Nodes t0_Edges e6 e7
                  have c32 := l_eqIntS_cl r11_.1 r9_.1 e12
                  have c33 := l_heldIntS_cl (upto (1 : Int) r11_.1.length) (1 : Int) e26 e27
                  obtain rfl := Option.some.inj h
                  simp (maxDischargeDepth := 9) only [↓xpre, xpost, xlst, xcore, yset, rg0, ↓reduceIte, Nat.reduceEqDiff, Nat.reduceLT, Nat.reduceLeDiff, Nat.reduceAdd, Nat.reduceMul, Nat.reduceMod, Nat.reduceSub, Nat.reduceBEq, Int.reduceLE, Int.reduceLT, Int.reduceEq, Int.reduceSub, Int.reduceAdd, Int.reduceToNat, Int.reduceNeg, e1, e2, e3.1, e3.2, c4, e5, e6, e7, c8, c9, c10, c11, e12, c13, e14, e15, e16, c17, c18, e19, e20.1, e20.2, c21, e22, c23, e24.1, e24.2, c25, e26, e27.1, e27.2, c28, e29, decide_eq_true e30, c31, c32, c33] <;> (repeat' apply And.intro) <;> first | rfl | exact ⟨_, rfl⟩ | simp [lst]
                · rw [if_neg e30] at h
                  obtain rfl := Option.some.inj h
                  simp (maxDischargeDepth := 9) only [↓xpre, xpost, xlst, xcore, yset, rg0, ↓reduceIte, Nat.reduceEqDiff, Nat.reduceLT, Nat.reduceLeDiff, Nat.reduceAdd, Nat.reduceMul, Nat.reduceMod, Nat.reduceSub, Nat.reduceBEq, Int.reduceLE, Int.reduceLT, Int.reduceEq, Int.reduceSub, Int.reduceAdd, Int.reduceToNat, Int.reduceNeg, e1, e2, e3.1, e3.2, c4, e5, e6, e7, c8, c9, c10, c11, e12, c13, e14, e15, e16, c17, c18, e19, e20.1, e20.2, c21, e22, c23, e24.1, e24.2, c25, e26, e27.1, e27.2, c28, e29, e30] <;> (repeat' apply And.intro) <;> first | rfl | exact ⟨_, rfl⟩ | simp [lst]
          · rw [if_neg e19] at h
            have e19f : (sameP t0_Labels t0_Degree t0_Nodes t0_Edges t0_Labels t0_Degree t0_Nodes t0_Edges) = false := Bool.eq_false_iff.mpr e19
            obtain rfl := Option.some.inj h
            simp (maxDischargeDepth := 9) only [↓xpre, xpost, xlst, xcore, yset, rg0, ↓reduceIte, Nat.reduceEqDiff, Nat.reduceLT, Nat.reduceLeDiff, Nat.reduceAdd, Nat.reduceMul, Nat.reduceMod, Nat.reduceSub, Nat.reduceBEq, Int.reduceLE, Int.reduceLT, Int.reduceEq, Int.reduceSub, Int.reduceAdd, Int.reduceToNat, Int.reduceNeg, e1, e2, e3.1, e3.2, c4, e5, e6, e7, c8, c9, c10, c11, e12, c13, e14, e15, e16, c17, c18, e19f] <;> (repeat' apply And.intro) <;> first | rfl | exact ⟨_, rfl⟩ | simp [lst]
        · rw [if_neg e16] at h
          have e16f : r9_.2 = false := Bool.eq_false_iff.mpr e16
          obtain rfl := Option.some.inj h
          simp (maxDischargeDepth := 9) only [↓xpre, xpost, xlst, xcore, yset, rg0, ↓reduceIte, Nat.reduceEqDiff, Nat.reduceLT, Nat.reduceLeDiff, Nat.reduceAdd, Nat.reduceMul, Nat.reduceMod, Nat.reduceSub, Nat.reduceBEq, Int.reduceLE, Int.reduceLT, Int.reduceEq, Int.reduceSub, Int.reduceAdd, Int.reduceToNat, Int.reduceNeg, e1, e2, e3.1, e3.2, c4, e5, e6, e7, c8, c9, c10, c11, e12, c13, e14, e15, e16f] <;> (repeat' apply And.intro) <;> first | rfl | exact ⟨_, rfl⟩ | simp [lst]
      · rw [if_neg e15] at h
        have e15f : r11_.2 = false := Bool.eq_false_iff.mpr e15
        by_cases e16 : r9_.2 = true
        · rw [if_pos e16] at h
          obtain rfl := Option.some.inj h
          simp (maxDischargeDepth := 9) only [↓xpre, xpost, xlst, xcore, yset, rg0, ↓reduceIte, Nat.reduceEqDiff, Nat.reduceLT, Nat.reduceLeDiff, Nat.reduceAdd, Nat.reduceMul, Nat.reduceMod, Nat.reduceSub, Nat.reduceBEq, Int.reduceLE, Int.reduceLT, Int.reduceEq, Int.reduceSub, Int.reduceAdd, Int.reduceToNat, Int.reduceNeg, e1, e2, e3.1, e3.2, c4, e5, e6, e7, c8, c9, c10, c11, e12, c13, e14, e15f, e16] <;> (repeat' apply And.intro) <;> first | rfl | exact ⟨_, rfl⟩ | simp [lst]
        · rw [if_neg e16] at h
          have e16f : r9_.2 = false := Bool.eq_false_iff.mpr e16
          have c17 := l_toProblem_cl t0_Labels t0_Degree t0_Nodes t0_Edges e6 e7
          have c18 := l_eqProblem_cl t0_Labels t0_Degree t0_Nodes t0_Edges t0_Labels t0_Degree t0_Nodes t0_Edges e6 e7
          by_cases e19 : (sameP t0_Labels t0_Degree t0_Nodes t0_Edges t0_Labels t0_Degree t0_Nodes t0_Edges) = true
          · rw [if_pos e19] at h
            obtain ⟨e20, h⟩ := ckS h
            have c21 := l_markProblem_cl t0_Labels t0_Degree t0_Nodes t0_Edges (1 : Int) e6 e7 e20
            by_cases e22 : ((1 : Int) + tot t0_Nodes + tot t0_Edges) < 0
            · rw [if_pos e22] at h
              obtain rfl := Option.some.inj h
              simp (maxDischargeDepth := 9) only [↓xpre, xpost, xlst, xcore, yset, rg0, ↓reduceIte, Nat.reduceEqDiff, Nat.reduceLT, Nat.reduceLeDiff, Nat.reduceAdd, Nat.reduceMul, Nat.reduceMod, Nat.reduceSub, Nat.reduceBEq, Int.reduceLE, Int.reduceLT, Int.reduceEq, Int.reduceSub, Int.reduceAdd, Int.reduceToNat, Int.reduceNeg, e1, e2, e3.1, e3.2, c4, e5, e6, e7, c8, c9, c10, c11, e12, c13, e14, e15f, e16f, c17, c18, e19, e20.1, e20.2, c21, e22] <;> (repeat' apply And.intro) <;> first | rfl | exact ⟨_, rfl⟩ | simp [lst]
            · rw [if_neg e22] at h
              have c23 := l_eqIntS_cl r11_.1 r9_.1 e12
              obtain ⟨e24, h⟩ := ckS h
              have c25 := l_markIntS_cl r11_.1 (1 : Int) e12 e24
              obtain ⟨e26, h⟩ := ckS h
              obtain ⟨e27, h⟩ := ckS h
              have c28 := l_heldIntS_cl (upto (1 : Int) r11_.1.length) (1 : Int) e26 e27
              by_cases e29 : (held (1 : Int) (upto (1 : Int) r11_.1.length)) < 0
              · rw [if_pos e29] at h
                obtain rfl := Option.some.inj h
                simp (maxDischargeDepth := 9) only [↓xpre, xpost, xlst, xcore, yset, rg0, ↓reduceIte, Nat.reduceEqDiff, Nat.reduceLT, Nat.reduceLeDiff, Nat.reduceAdd, Nat.reduceMul, Nat.reduceMod, Nat.reduceSub, Nat.reduceBEq, Int.reduceLE, Int.reduceLT, Int.reduceEq, Int.reduceSub, Int.reduceAdd, Int.reduceToNat, Int.reduceNeg, e1, e2, e3.1, e3.2, c4, e5, e6, e7, c8, c9, c10, c11, e12, c13, e14, e15f, e16f, c17, c18, e19, e20.1, e20.2, c21, e22, c23, e24.1, e24.2, c25, e26, e27.1, e27.2, c28, e29] <;> (repeat' apply And.intro) <;> first | rfl | exact ⟨_, rfl⟩ | simp [lst]
              · rw [if_neg e29] at h
                by_cases e30 : (held (1 : Int) (upto (1 : Int) r11_.1.length)) = ((1 : Int) + r11_.1.length)
                · rw [if_pos e30] at h
                  have c31 := l_toProblem_cl t0_Labels t0_Degree t0_Nodes t0_Edges e6 e7
                  have c32 := l_eqIntS_cl r11_.1 r9_.1 e12
                  have c33 := l_heldIntS_cl (upto (1 : Int) r11_.1.length) (1 : Int) e26 e27
                  obtain rfl := Option.some.inj h
                  simp (maxDischargeDepth := 9) only [↓xpre, xpost, xlst, xcore, yset, rg0, ↓reduceIte, Nat.reduceEqDiff, Nat.reduceLT, Nat.reduceLeDiff, Nat.reduceAdd, Nat.reduceMul, Nat.reduceMod, Nat.reduceSub, Nat.reduceBEq, Int.reduceLE, Int.reduceLT, Int.reduceEq, Int.reduceSub, Int.reduceAdd, Int.reduceToNat, Int.reduceNeg, e1, e2, e3.1, e3.2, c4, e5, e6, e7, c8, c9, c10, c11, e12, c13, e14, e15f, e16f, c17, c18, e19, e20.1, e20.2, c21, e22, c23, e24.1, e24.2, c25, e26, e27.1, e27.2, c28, e29, decide_eq_true e30, c31, c32, c33] <;> (repeat' apply And.intro) <;> first | rfl | exact ⟨_, rfl⟩ | simp [lst]
                · rw [if_neg e30] at h
                  obtain rfl := Option.some.inj h
                  simp (maxDischargeDepth := 9) only [↓xpre, xpost, xlst, xcore, yset, rg0, ↓reduceIte, Nat.reduceEqDiff, Nat.reduceLT, Nat.reduceLeDiff, Nat.reduceAdd, Nat.reduceMul, Nat.reduceMod, Nat.reduceSub, Nat.reduceBEq, Int.reduceLE, Int.reduceLT, Int.reduceEq, Int.reduceSub, Int.reduceAdd, Int.reduceToNat, Int.reduceNeg, e1, e2, e3.1, e3.2, c4, e5, e6, e7, c8, c9, c10, c11, e12, c13, e14, e15f, e16f, c17, c18, e19, e20.1, e20.2, c21, e22, c23, e24.1, e24.2, c25, e26, e27.1, e27.2, c28, e29, e30] <;> (repeat' apply And.intro) <;> first | rfl | exact ⟨_, rfl⟩ | simp [lst]
          · rw [if_neg e19] at h
            have e19f : (sameP t0_Labels t0_Degree t0_Nodes t0_Edges t0_Labels t0_Degree t0_Nodes t0_Edges) = false := Bool.eq_false_iff.mpr e19
            obtain rfl := Option.some.inj h
            simp (maxDischargeDepth := 9) only [↓xpre, xpost, xlst, xcore, yset, rg0, ↓reduceIte, Nat.reduceEqDiff, Nat.reduceLT, Nat.reduceLeDiff, Nat.reduceAdd, Nat.reduceMul, Nat.reduceMod, Nat.reduceSub, Nat.reduceBEq, Int.reduceLE, Int.reduceLT, Int.reduceEq, Int.reduceSub, Int.reduceAdd, Int.reduceToNat, Int.reduceNeg, e1, e2, e3.1, e3.2, c4, e5, e6, e7, c8, c9, c10, c11, e12, c13, e14, e15f, e16f, c17, c18, e19f] <;> (repeat' apply And.intro) <;> first | rfl | exact ⟨_, rfl⟩ | simp [lst]
    · rw [if_neg e14] at h
      have e14f : (decide (r11_.1 = r9_.1)) = false := Bool.eq_false_iff.mpr e14
      obtain rfl := Option.some.inj h
      simp (maxDischargeDepth := 9) only [↓xpre, xpost, xlst, xcore, yset, rg0, ↓reduceIte, Nat.reduceEqDiff, Nat.reduceLT, Nat.reduceLeDiff, Nat.reduceAdd, Nat.reduceMul, Nat.reduceMod, Nat.reduceSub, Nat.reduceBEq, Int.reduceLE, Int.reduceLT, Int.reduceEq, Int.reduceSub, Int.reduceAdd, Int.reduceToNat, Int.reduceNeg, e1, e2, e3.1, e3.2, c4, e5, e6, e7, c8, c9, c10, c11, e12, c13, e14f] <;> (repeat' apply And.intro) <;> first | rfl | exact ⟨_, rfl⟩ | simp [lst]

theorem usable_top (a b : Int) (n e : List (List Int)) (hn : Short n) (he : Short e) : ∃ r ok, s_UsableLabels a b n e = some (r, ok) ∧ i_UsableLabels a b n e = some (r, ok) ∧ r.length < 1000 := by
  unfold s_UsableLabels i_UsableLabels
  rw [ckT hn, ckT he, ckT hn, ckT he]
  by_cases h : isProb a b n e = true
  · rw [if_pos h, if_pos h]
    have ha : 1 ≤ a ∧ a ≤ 8 := by
      unfold isProb at h
      simp only [Bool.and_eq_true] at h
      exact inR_iff.1 h.1.1.1
    obtain ⟨i1, i2⟩ := isProb_inside h
    obtain ⟨r, e1, e2, e3⟩ := usable_both a b n e a.toNat (by omega) hn he i1 i2 (by omega)
    exact ⟨r, true, by rw [e1]; rfl, by rw [e2]; rfl, e3⟩
  · rw [if_neg h, if_neg h]
    exact ⟨[], false, rfl, rfl, by decide⟩
theorem usable_law (a d : Int) (ns es : List (List Int)) (hn : Wide ns) (he : Wide es) : l_FnExactUsableLabels a d ns es = some true := by
  unfold l_FnExactUsableLabels
  rw [ckT hn, ckT he, ckT (by omega)]
  by_cases q1 : szP 1048576 ns es < 0
  · rw [if_pos q1]
  · obtain ⟨f1, sn, se, f2⟩ := szP_fit (by omega) q1
    have t1 := tot_nonneg ns
    have t2 := tot_nonneg es
    obtain ⟨r, ok, hS, hI, hr⟩ := usable_top a d ns es sn se
    have g1 : (0 : Int) ≤ 1 ∧ 1 + tot ns + tot es < 1099511627776 := by omega
    have g2 : ¬ 1 + tot ns + tot es < 0 := by omega
    have g3 : r.length < 1099511627776 := by omega
    have g4 : (0 : Int) ≤ 1 ∧ (1 : Int) < 1099511627776 := by omega
    have g5 : (0 : Int) ≤ 1 ∧ (1 : Int) + (r.length : Int) < 1099511627776 := by omega
    have g6 : ¬ (1 : Int) + (r.length : Int) < 0 := by omega
    rw [if_neg q1, ckT sn, ckT se]
    simp only [hS, hI, Option.bind_some, ckT g3, decide_true, sameP_refl, if_true, ckT g1, if_neg g2, ckT g4, upto_len, ckT g5, held_upto, if_neg g6]
    cases ok <;> rfl
theorem usable_all (ds : List D) (h : Args tys [36] ds) : Y.call 13 ds [] = some (.bool true, []) := by
  rcases ds with _ | ⟨x, _ | ⟨_, _⟩⟩
  · cases h
  · obtain ⟨a, d, ns, es, rfl, _, _, hn, he⟩ := argProblem ty36 ty3 ty34 ty25 ty3 h.1
    exact l_FnExactUsableLabels_call a d ns es (usable_law a d ns es (wide_of hn) (wide_of he))
  · exact h.2.elim

end Go.Proofs.Ythaimoghceamnaa
