/- Refusals made: all pairs, and each configuration with itself. Conditions: none. -/
import Derived.Test.YtjlphfbpaejicaaL6
import Derived.Test.YtjlphfbpaejicaaRefA
namespace Go.Proofs.Ytjlphfbpaejicaa
open Go Dv
set_option linter.unusedSimpArgs false
set_option linter.unusedVariables false
set_option maxRecDepth 100000


theorem hasE_comm (es : List (List Int)) (a b : Int) : hasE es a b = hasE es b a := by
  unfold hasE
  by_cases h1 : b < a
  · rw [if_pos h1, if_neg (by omega)]
  · by_cases h2 : a < b
    · rw [if_neg h1, if_pos h2]
    · have : a = b := by omega
      subst this; rfl
theorem firstIx_isSome {n : Nat} {P : Nat → Bool} : (firstIx n P).isSome = true ↔ ∃ i, i < n ∧ P i = true := by
  constructor
  · intro h
    cases hq : firstIx n P with
    | none => rw [hq] at h; cases h
    | some m => exact ⟨m, firstIx_lt hq⟩
  · rintro ⟨i, hi, hp⟩
    cases hq : firstIx n P with
    | some m => rfl
    | none =>
      unfold firstIx at hq
      rw [List.find?_eq_none] at hq
      exact absurd hp (hq i (List.mem_range.2 hi))
theorem firstIx_min {n m : Nat} {P : Nat → Bool} (h : firstIx n P = some m) : ∀ i, i < m → P i = false := by
  unfold firstIx at h
  rw [List.find?_range_eq_some] at h
  intro i hi
  simpa using h.2.2 i hi
theorem badOf_isSome {es : List (List Int)} {x y : List Int} : (badOf es x y).isSome = true ↔ ∃ i j, i < x.length ∧ j < y.length ∧ hasE es (x.getD i default) (y.getD j default) = false := by
  unfold badOf
  rw [Option.isSome_map, firstIx_isSome]
  constructor
  · rintro ⟨i, hi, h⟩
    unfold badAt at h
    rw [firstIx_isSome] at h
    obtain ⟨j, hj, h⟩ := h
    exact ⟨i, j, hi, hj, by simpa using h⟩
  · rintro ⟨i, j, hi, hj, h⟩
    refine ⟨i, hi, ?_⟩
    unfold badAt
    rw [firstIx_isSome]
    exact ⟨j, hj, by simpa using h⟩
theorem badOf_some {es : List (List Int)} {x y : List Int} {q : Nat × Nat} (h : badOf es x y = some q) :
    q.1 < x.length ∧ q.2 < y.length ∧ hasE es (x.getD q.1 default) (y.getD q.2 default) = false ∧ (∀ i, i < q.1 → ∀ j, j < y.length → hasE es (x.getD i default) (y.getD j default) = true) ∧ (∀ j, j < q.2 → hasE es (x.getD q.1 default) (y.getD j default) = true) := by
  unfold badOf at h
  rw [Option.map_eq_some_iff] at h
  obtain ⟨i, h1, rfl⟩ := h
  obtain ⟨hi, h2⟩ := firstIx_lt h1
  cases h3 : badAt es x y i with
  | none => rw [h3] at h2; cases h2
  | some j =>
    have h3' := h3
    unfold badAt at h3'
    obtain ⟨hj, h4⟩ := firstIx_lt h3'
    refine ⟨hi, by simpa [h3] using hj, by simpa [h3] using h4, fun i' hi' j' hj' => ?_, fun j' hj' => ?_⟩
    · have := firstIx_min h1 i' hi'
      cases hh : hasE es (x.getD i' default) (y.getD j' default) with
      | true => rfl
      | false =>
        have hc : (badAt es x y i').isSome = true := by
          unfold badAt
          rw [firstIx_isSome]
          exact ⟨j', hj', by rw [hh]; rfl⟩
        rw [hc] at this; cases this
    · simp only [h3, Option.getD_some] at hj' ⊢
      simpa using firstIx_min h3' j' hj'
theorem tot_four : ∀ {l : List (List Int)}, (∀ x ∈ l, x.length ≤ 4) → tot l ≤ 4 * l.length := by
  intro l
  induction l with
  | nil => intro _; rw [tot_nil]; simp
  | cons x l ih =>
    intro h
    have h1 := ih (fun y hy => h y (List.mem_cons_of_mem _ hy))
    have h2 := h x List.mem_cons_self
    rw [tot_cons, List.length_cons]
    omega
/-- The first two labels of a configuration that do not go together. -/
def zeroP (es : List (List Int)) (c : List Int) : Option (List Int) := (badOf es c c).map fun q => [c.getD q.1 default, c.getD q.2 default]
theorem badOf_one (es : List (List Int)) (x : Int) (y : List Int) : badOf es [x] y = (firstIx y.length fun j => !hasE es x (y.getD j default)).map fun j => (0, j) := by
  have e : badAt es [x] y 0 = firstIx y.length fun j => !hasE es x (y.getD j default) := rfl
  have e1 : firstIx 1 (fun i => (badAt es [x] y i).isSome) = if (badAt es [x] y 0).isSome = true then some 0 else none := by
    unfold firstIx
    show List.find? _ [0] = _
    rw [List.find?_cons]
    cases (badAt es [x] y 0).isSome <;> rfl
  unfold badOf
  rw [show [x].length = 1 from rfl, e1, e]
  cases hq : firstIx y.length fun j => !hasE es x (y.getD j default) with
  | none => rfl
  | some j =>
    simp only [Option.isSome_some, if_true, Option.map_some]
    rw [e, hq]; rfl
/-- Labels behind a label's place that do not go with it. -/
def tailAt (es : List (List Int)) (c : List Int) (k : Nat) : Option Nat := firstIx (c.length - k) fun j => !hasE es (c.getD k default) (c.getD (k + j) default)
theorem take_one (c : List Int) (k : Nat) (h : k < c.length) : (c.take (k + 1)).drop k = [c.getD k default] := by
  rw [List.take_succ_eq_append_getElem h, List.drop_append_of_le_length (by simp; omega), List.drop_eq_nil_of_le (by rw [List.length_take]; omega), getD_get _ _ h]; rfl
theorem badOf_row (es : List (List Int)) (c : List Int) (k : Nat) (h : k < c.length) : badOf es ((c.take (k + 1)).drop k) ((c.take c.length).drop k) = (tailAt es c k).map fun j => (0, j) := by
  rw [take_one c k h, List.take_length, badOf_one]
  unfold tailAt
  rw [List.length_drop]
  congr 2
  funext j
  simp [List.getD_eq_getElem?_getD, List.getElem?_drop]
theorem zero_same (es : List (List Int)) (c : List Int) : ((firstIx c.length fun k => (tailAt es c k).isSome).map fun k => (k, k + (tailAt es c k).getD 0)) = badOf es c c := by
  cases hq : badOf es c c with
  | none =>
    rw [firstIx_none]
    · rfl
    · intro k hk
      unfold tailAt
      rw [firstIx_none]
      · rfl
      · intro j hj
        cases hh : hasE es (c.getD k default) (c.getD (k + j) default) with
        | true => rfl
        | false =>
          have : (badOf es c c).isSome = true := badOf_isSome.2 ⟨k, k + j, hk, by omega, hh⟩
          rw [hq] at this; cases this
  | some q =>
    obtain ⟨b1, b2, b3, b4, b5⟩ := badOf_some hq
    have hle : q.1 ≤ q.2 := by
      by_cases hc : q.1 ≤ q.2
      · exact hc
      · have := b4 q.2 (by omega) q.1 b1
        rw [hasE_comm, b3] at this; cases this
    have ht : tailAt es c q.1 = some (q.2 - q.1) := by
      unfold tailAt
      refine firstIx_at (by omega) ?_ fun j hj => ?_
      · rw [show q.1 + (q.2 - q.1) = q.2 by omega, b3]; rfl
      · rw [b5 (q.1 + j) (by omega)]; rfl
    have hf : firstIx c.length (fun k => (tailAt es c k).isSome) = some q.1 := by
      refine firstIx_at b1 (by rw [ht]; rfl) fun k hk => ?_
      unfold tailAt
      rw [firstIx_none fun j hj => by rw [b4 k hk (k + j) (by omega)]; rfl]; rfl
    rw [hf, Option.map_some, ht, Option.getD_some, show q.1 + (q.2 - q.1) = q.2 by omega]
theorem zero_i0 (a d : Int) (ns es : List (List Int)) (hn : Short ns) (he : Short es) (hi : incL es = true) (i : Nat) (out : List (List Int)) (ho : out.length + 1 < 1099511627776) :
    i_RefusalOfZero_l0 a d ns es out (i : Int) 0 = some (match zeroP es (ns.getD i default) with | some p => out ++ [p] | none => out) := by
  have hc := hn.getD i
  have key := itO_find (fun v => i_RefusalOfZero_l0_S a d ns es out (i : Int) v) (fun k => (k : Int)) (ns.getD i default).length (fun k => (tailAt es (ns.getD i default) k).isSome) (fun k => out ++ [[(ns.getD i default).getD k default, (ns.getD i default).getD (k + (tailAt es (ns.getD i default) k).getD 0) default]]) out ?_ ?_
  · unfold i_RefusalOfZero_l0
    rw [Int.natCast_zero] at key
    rw [key]
    unfold zeroP
    rw [← zero_same es (ns.getD i default)]
    cases firstIx (ns.getD i default).length (fun k => (tailAt es (ns.getD i default) k).isSome) <;> rfl
  · intro k hk
    simp only [i_RefusalOfZero_l0_S, Int.toNat_natCast]
    rw [wrS k (by omega), if_pos (lt_nat hk), ckT (by omega), ckT (by omega), Int.toNat_natCast, ckT (by omega), ckT (by omega), ckT (by omega),
      i_badPair_eq a d ns es _ _ he hi (by rw [take_one _ _ hk]; simp) (by rw [List.length_drop, List.length_take]; omega), badOf_row es _ k hk, Option.bind_some]
    cases ht : tailAt es (ns.getD i default) k with
    | none => simp
    | some j =>
      have hj : j < (ns.getD i default).length - k := by unfold tailAt at ht; exact (firstIx_lt ht).1
      simp only [Option.map_some, if_true, Option.isSome_some, Option.getD_some]
      rw [ckT ho, take_one _ _ hk]
      congr 4
      · simp [List.getD_eq_getElem?_getD, List.getElem?_drop]
  · simp only [i_RefusalOfZero_l0_S, Int.toNat_natCast]
    rw [if_neg (not_lt_nat _)]
theorem s_zeGood_eq (a d : Int) (ns es : List (List Int)) (hn : Short ns) (he : Short es) : s_zeGood a d ns es = some (match firstIx ns.length (fun i => (badOf es (ns.getD i default) (ns.getD i default)).isNone) with | some i => (ns.getD i default, true) | none => ([], false)) := by
  have hl := hn.1
  have k2 : s_zeGood_l0 a d ns es 0 = some (match firstIx ns.length (fun i => (badOf es (ns.getD i default) (ns.getD i default)).isNone) with | some i => .inl (ns.getD i default) | none => .inr ()) := by
    unfold s_zeGood_l0
    refine itO_find (fun v => s_zeGood_l0_S a d ns es v) (fun j => (j : Int)) ns.length (fun i => (badOf es (ns.getD i default) (ns.getD i default)).isNone) (fun i => .inl (ns.getD i default)) (.inr ()) ?_ ?_
    · intro i hi'
      have hx := hn.getD i
      simp only [s_zeGood_l0_S, s_zePairs, s_l1Own]
      rw [if_pos (lt_nat hi'), ckT (ix_nat hi'), Int.toNat_natCast, s_zeBad_eq a d ns es _ _ he hx hx, Option.bind_some, Option.bind_some, ckT (by omega), Option.bind_some, wrS i (by omega)]
      cases badOf es (ns.getD i default) (ns.getD i default) <;> simp
    · simp only [s_zeGood_l0_S]
      rw [if_neg (not_lt_nat _)]
  unfold s_zeGood
  rw [k2]
  cases firstIx ns.length (fun i => (badOf es (ns.getD i default) (ns.getD i default)).isNone) <;> rfl
theorem filterMap_take {α β : Type} (f : α → Option β) (l : List α) (i : Nat) (h : i < l.length) : (l.take (i + 1)).filterMap f = match f l[i] with | some p => (l.take i).filterMap f ++ [p] | none => (l.take i).filterMap f := by
  rw [List.take_succ_eq_append_getElem h, List.filterMap_append]
  cases hf : f l[i] <;> simp [hf]
theorem zero_i1 (a d : Int) (ns es : List (List Int)) (hn : Short ns) (he : Short es) (hi : incL es = true) : i_RefusalOfZero_l1 a d ns es ([], 0) = some (ns.filterMap (zeroP es)) := by
  have hl := hn.1
  have key := itO_for (fun v => i_RefusalOfZero_l1_S a d ns es v.1 v.2) (fun i => ((ns.take i).filterMap (zeroP es), (i : Int))) ns.length (ns.filterMap (zeroP es)) ?_ ?_
  · unfold i_RefusalOfZero_l1
    exact key
  · intro i hil
    have hle : ((ns.take i).filterMap (zeroP es)).length + 1 < 1099511627776 := by
      have := List.length_filterMap_le (zeroP es) (ns.take i)
      rw [List.length_take] at this
      omega
    simp only [i_RefusalOfZero_l1_S]
    rw [if_pos (lt_nat hil), ckT (ix_nat hil), zero_i0 a d ns es hn he hi i _ hle, Option.bind_some, wrS i (by omega), filterMap_take _ _ _ hil, getD_get _ _ hil]
    cases zeroP es ns[i] <;> rfl
  · simp only [i_RefusalOfZero_l1_S]
    rw [if_neg (not_lt_nat _), List.take_length]
theorem zero_s0 (a d : Int) (ns es : List (List Int)) (hn : Short ns) (he : Short es) (hb : ∀ c ∈ ns, (badOf es c c).isSome = true) : s_RefusalOfZero_l0 a d ns es ([], 0) = some (ns.filterMap (zeroP es)) := by
  have hl := hn.1
  have key := itO_for (fun v => s_RefusalOfZero_l0_S a d ns es v.1 v.2) (fun i => ((ns.take i).filterMap (zeroP es), (i : Int))) ns.length (ns.filterMap (zeroP es)) ?_ ?_
  · unfold s_RefusalOfZero_l0
    exact key
  · intro i hil
    have hle : ((ns.take i).filterMap (zeroP es)).length + 1 < 1099511627776 := by
      have := List.length_filterMap_le (zeroP es) (ns.take i)
      rw [List.length_take] at this
      omega
    have hx := hn.getD i
    have hq := hb _ (List.getElem_mem hil)
    rw [← getD_get _ _ hil] at hq
    simp only [s_RefusalOfZero_l0_S]
    rw [if_pos (lt_nat hil), ckT (ix_nat hil), Int.toNat_natCast, s_zeBad_eq a d ns es _ _ he hx hx, Option.bind_some, wrS i (by omega), filterMap_take _ _ _ hil, ← getD_get _ _ hil]
    cases hz : badOf es (ns.getD i default) (ns.getD i default) with
    | none => rw [hz] at hq; cases hq
    | some q =>
      obtain ⟨b1, b2, _⟩ := badOf_some hz
      simp only [Int.toNat_natCast, zeroP, hz, Option.map_some]
      rw [ckT ⟨by omega, b1⟩, ckT ⟨by omega, b2⟩, ckT hle]
  · simp only [s_RefusalOfZero_l0_S]
    rw [if_neg (not_lt_nat _), List.take_length]
theorem refz_both (a d : Int) (ns es : List (List Int)) (hn : Short ns) (he : Short es) (hN : (ns.length : Int) + tot ns ≤ 1048576) : ∃ r ok, s_RefusalOfZero a d ns es = some (r, ok) ∧ i_RefusalOfZero a d ns es = some (r, ok) ∧ Short r ∧ tot r < 1000000000000 := by
  have tn := tot_nonneg ns
  unfold s_RefusalOfZero i_RefusalOfZero
  rw [ckT hn, ckT he, ckT hn, ckT he]
  by_cases h : isProb a d ns es = true
  · rw [if_pos h, if_pos h]
    obtain ⟨_, hd, c1, c2⟩ := isProb_cut h
    rw [zero_i1 a d ns es hn he (confs_inc c2), s_zeGood_eq a d ns es hn he, Option.bind_some, Option.bind_some]
    cases hq : firstIx ns.length (fun i => (badOf es (ns.getD i default) (ns.getD i default)).isNone) with
    | some m =>
      obtain ⟨m1, m2⟩ := firstIx_lt hq
      have hlt : (ns.filterMap (zeroP es)).length < ns.length := by
        rw [List.length_filterMap_lt_length_iff_exists]
        refine ⟨ns.getD m default, mem_getD.2 ⟨m, m1, rfl⟩, ?_⟩
        unfold zeroP
        rw [Option.isNone_iff_eq_none] at m2
        rw [m2]; rfl
      simp only [if_true]
      rw [if_pos (by omega)]
      exact ⟨_, _, rfl, rfl, Short.nil, by rw [tot_nil]; omega⟩
    | none =>
      have hb : ∀ c ∈ ns, (badOf es c c).isSome = true := by
        intro c hc
        obtain ⟨k, hk, rfl⟩ := mem_getD.1 hc
        cases hh : badOf es (ns.getD k default) (ns.getD k default) with
        | some q => rfl
        | none =>
          have : (firstIx ns.length (fun i => (badOf es (ns.getD i default) (ns.getD i default)).isNone)).isSome = true := firstIx_isSome.2 ⟨k, hk, by rw [hh]; rfl⟩
          rw [hq] at this; cases this
      have hge : ¬ (ns.filterMap (zeroP es)).length < ns.length := by
        rw [List.length_filterMap_lt_length_iff_exists]
        rintro ⟨c, hc, hz⟩
        have := hb c hc
        unfold zeroP at hz
        rw [Option.map_eq_none_iff] at hz
        rw [hz] at this; cases this
      have hle := List.length_filterMap_le (zeroP es) ns
      have h4 : ∀ x ∈ ns.filterMap (zeroP es), x.length ≤ 4 := by
        intro x hx
        obtain ⟨c, _, hz⟩ := List.mem_filterMap.1 hx
        unfold zeroP at hz
        rw [Option.map_eq_some_iff] at hz
        obtain ⟨q, _, rfl⟩ := hz
        simp
      have ht := tot_four h4
      simp only [Bool.false_eq_true, if_false]
      rw [zero_s0 a d ns es hn he hb, if_neg (by omega)]
      exact ⟨_, _, rfl, rfl, ⟨by omega, fun x hx => by have := h4 x hx; omega⟩, by omega⟩
  · rw [if_neg h, if_neg h]
    exact ⟨_, _, rfl, rfl, Short.nil, by rw [tot_nil]; omega⟩

end Go.Proofs.Ytjlphfbpaejicaa
