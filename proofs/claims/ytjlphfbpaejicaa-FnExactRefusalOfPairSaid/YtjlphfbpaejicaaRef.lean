/- Refusals made: all pairs, and each configuration with itself. Conditions: none. -/
import Derived.Test.YtjlphfbpaejicaaL6
import Derived.Test.YtjlphfbpaejicaaRefA
namespace Go.Proofs.Ytjlphfbpaejicaa
open Go Dv
set_option linter.unusedSimpArgs false
set_option linter.unusedVariables false
set_option maxRecDepth 100000


theorem hasE_comm (es : List (List Int)) (a b : Int) : hasE es a b = hasE es b a := by
  unfold hasE
  by_cases h1 : b < a
  · rw [if_pos h1, if_neg (by omega)]
  · by_cases h2 : a < b
    · rw [if_neg h1, if_pos h2]
    · have : a = b := by omega
      subst this; rfl
theorem firstIx_isSome {n : Nat} {P : Nat → Bool} : (firstIx n P).isSome = true ↔ ∃ i, i < n ∧ P i = true := by
  constructor
  · intro h
    cases hq : firstIx n P with
    | none => rw [hq] at h; cases h
    | some m => exact ⟨m, firstIx_lt hq⟩
  · rintro ⟨i, hi, hp⟩
    cases hq : firstIx n P with
    | some m => rfl
    | none =>
      unfold firstIx at hq
      rw [List.find?_eq_none] at hq
      exact absurd hp (hq i (List.mem_range.2 hi))
theorem firstIx_min {n m : Nat} {P : Nat → Bool} (h : firstIx n P = some m) : ∀ i, i < m → P i = false := by
  unfold firstIx at h
  rw [List.find?_range_eq_some] at h
  intro i hi
  simpa using h.2.2 i hi
theorem badOf_isSome {es : List (List Int)} {x y : List Int} : (badOf es x y).isSome = true ↔ ∃ i j, i < x.length ∧ j < y.length ∧ hasE es (x.getD i default) (y.getD j default) = false := by
  unfold badOf
  rw [Option.isSome_map, firstIx_isSome]
  constructor
  · rintro ⟨i, hi, h⟩
    unfold badAt at h
    rw [firstIx_isSome] at h
    obtain ⟨j, hj, h⟩ := h
    exact ⟨i, j, hi, hj, by simpa using h⟩
  · rintro ⟨i, j, hi, hj, h⟩
    refine ⟨i, hi, ?_⟩
    unfold badAt
    rw [firstIx_isSome]
    exact ⟨j, hj, by simpa using h⟩
theorem badOf_comm (es : List (List Int)) (x y : List Int) : (badOf es x y).isSome = (badOf es y x).isSome := by
  rw [Bool.eq_iff_iff, badOf_isSome, badOf_isSome]
  constructor
  · rintro ⟨i, j, hi, hj, h⟩; exact ⟨j, i, hj, hi, by rw [hasE_comm]; exact h⟩
  · rintro ⟨i, j, hi, hj, h⟩; exact ⟨j, i, hj, hi, by rw [hasE_comm]; exact h⟩
theorem badOf_some {es : List (List Int)} {x y : List Int} {q : Nat × Nat} (h : badOf es x y = some q) :
    q.1 < x.length ∧ q.2 < y.length ∧ hasE es (x.getD q.1 default) (y.getD q.2 default) = false ∧ (∀ i, i < q.1 → ∀ j, j < y.length → hasE es (x.getD i default) (y.getD j default) = true) ∧ (∀ j, j < q.2 → hasE es (x.getD q.1 default) (y.getD j default) = true) := by
  unfold badOf at h
  rw [Option.map_eq_some_iff] at h
  obtain ⟨i, h1, rfl⟩ := h
  obtain ⟨hi, h2⟩ := firstIx_lt h1
  cases h3 : badAt es x y i with
  | none => rw [h3] at h2; cases h2
  | some j =>
    have h3' := h3
    unfold badAt at h3'
    obtain ⟨hj, h4⟩ := firstIx_lt h3'
    refine ⟨hi, by simpa [h3] using hj, by simpa [h3] using h4, fun i' hi' j' hj' => ?_, fun j' hj' => ?_⟩
    · have := firstIx_min h1 i' hi'
      cases hh : hasE es (x.getD i' default) (y.getD j' default) with
      | true => rfl
      | false =>
        have hc : (badAt es x y i').isSome = true := by
          unfold badAt
          rw [firstIx_isSome]
          exact ⟨j', hj', by rw [hh]; rfl⟩
        rw [hc] at this; cases this
    · simp only [h3, Option.getD_some] at hj' ⊢
      simpa using firstIx_min h3' j' hj'
theorem goodAt_comm (ns es : List (List Int)) (i j : Nat) : goodAt ns es i j = goodAt ns es j i := by
  unfold goodAt
  have := badOf_comm es (ns.getD i default) (ns.getD j default)
  cases h1 : badOf es (ns.getD i default) (ns.getD j default) <;> cases h2 : badOf es (ns.getD j default) (ns.getD i default) <;> rw [h1, h2] at this <;> first | rfl | cases this
theorem first2_good {n m : Nat} {P : Nat → Nat → Bool} {q : Nat × Nat} (h : first2 n m P = some q) : P q.1 q.2 = true := by
  unfold first2 at h
  simp only [Option.map_eq_some_iff] at h
  obtain ⟨i, h1, rfl⟩ := h
  obtain ⟨_, h3⟩ := firstIx_lt h1
  cases h4 : firstIx m (P i) with
  | none => rw [h4] at h3; cases h3
  | some j => exact (firstIx_lt h4).2
theorem first2_none {n m : Nat} {P : Nat → Nat → Bool} (h : first2 n m P = none) {i j : Nat} (hi : i < n) (hj : j < m) : P i j = false := by
  cases hp : P i j with
  | false => rfl
  | true =>
    unfold first2 at h
    rw [Option.map_eq_none_iff] at h
    have : (firstIx n fun i => (firstIx m (P i)).isSome).isSome = true := firstIx_isSome.2 ⟨i, hi, firstIx_isSome.2 ⟨j, hj, hp⟩⟩
    rw [h] at this; cases this
/-- The two places and the two labels of a bad pair. -/
def quadL (ns es : List (List Int)) (i j : Nat) : List Int :=
  match badOf es (ns.getD i default) (ns.getD j default) with
  | some q => [(i : Int), (j : Int), (ns.getD i default).getD q.1 default, (ns.getD j default).getD q.2 default]
  | none => []
def rowL (ns es : List (List Int)) (i k : Nat) : List (List Int) := (List.range k).map fun t => quadL ns es i (i + t)
def rowsL (ns es : List (List Int)) : Nat → List (List Int)
  | 0 => []
  | i + 1 => rowsL ns es i ++ rowL ns es i (ns.length - i)
theorem rowL_len (ns es : List (List Int)) (i k : Nat) : (rowL ns es i k).length = k := by simp [rowL]
theorem rowL_succ (ns es : List (List Int)) (i k : Nat) : rowL ns es i (k + 1) = rowL ns es i k ++ [quadL ns es i (i + k)] := by simp [rowL, List.range_succ]
theorem rowsL_len (ns es : List (List Int)) : ∀ i, i ≤ ns.length → 2 * (rowsL ns es i).length + i * i ≤ i * (2 * ns.length + 1) := by
  intro i
  induction i with
  | zero => intro _; simp [rowsL]
  | succ i ih =>
    intro h
    have := ih (by omega)
    simp only [rowsL, List.length_append, rowL_len]
    have e1 : (i + 1) * (i + 1) = i * i + i + i + 1 := by rw [Nat.succ_mul, Nat.mul_succ]; omega
    have e2 : (i + 1) * (2 * ns.length + 1) = i * (2 * ns.length + 1) + (2 * ns.length + 1) := Nat.succ_mul _ _
    rw [e1, e2]
    omega
theorem quadL_four (ns es : List (List Int)) (i j : Nat) : (quadL ns es i j).length ≤ 4 := by
  unfold quadL
  split <;> simp
theorem rowsL_four (ns es : List (List Int)) : ∀ i, ∀ x ∈ rowsL ns es i, x.length ≤ 4 := by
  intro i
  induction i with
  | zero => intro x hx; cases hx
  | succ i ih =>
    intro x hx
    rcases List.mem_append.1 hx with hx | hx
    · exact ih x hx
    · obtain ⟨t, _, rfl⟩ := List.mem_map.1 hx
      exact quadL_four ns es i (i + t)
theorem tot_four : ∀ {l : List (List Int)}, (∀ x ∈ l, x.length ≤ 4) → tot l ≤ 4 * l.length := by
  intro l
  induction l with
  | nil => intro _; rw [tot_nil]; simp
  | cons x l ih =>
    intro h
    have h1 := ih (fun y hy => h y (List.mem_cons_of_mem _ hy))
    have h2 := h x List.mem_cons_self
    rw [tot_cons, List.length_cons]
    omega
theorem pair_i0 (a d : Int) (ns es : List (List Int)) (hn : Short ns) (he : Short es) (hi : incL es = true) (i : Nat) (hil : i < ns.length) (out : List (List Int)) (ho : out.length + ns.length < 1099511627776) :
    i_RefusalOfPair_l0 a d ns es (i : Int) (out, (i : Int)) = some (match firstIx (ns.length - i) (fun k => goodAt ns es i (i + k)) with | some _ => .inl () | none => .inr (out ++ rowL ns es i (ns.length - i))) := by
  have hl := hn.1
  have key := itO_find (fun v => i_RefusalOfPair_l0_S a d ns es (i : Int) v.1 v.2) (fun k => (out ++ rowL ns es i k, ((i + k : Nat) : Int))) (ns.length - i) (fun k => goodAt ns es i (i + k)) (fun _ => .inl ()) (.inr (out ++ rowL ns es i (ns.length - i))) ?_ ?_
  · unfold i_RefusalOfPair_l0
    have e0 : out ++ rowL ns es i 0 = out := by simp [rowL]
    rw [e0, Nat.add_zero] at key
    exact key
  · intro k hk
    simp only [i_RefusalOfPair_l0_S]
    rw [show goodAt ns es i (i + k) = (badOf es (ns.getD i default) (ns.getD (i + k) default)).isNone from rfl]
    rw [if_pos (lt_nat (by omega)), ckT (ix_nat (by omega)), Int.toNat_natCast, Int.toNat_natCast, i_badPair_eq a d ns es _ _ he hi (hn.getD i) (hn.getD (i + k)), Option.bind_some, wrS (i + k) (by omega)]
    cases hb : badOf es (ns.getD i default) (ns.getD (i + k) default) with
    | none => simp
    | some q =>
      have hlen : (out ++ rowL ns es i k).length + 1 < 1099511627776 := by rw [List.length_append, rowL_len]; omega
      simp only [if_true, Option.isNone_some, Bool.false_eq_true, if_false]
      rw [ckT (by simp), ckT (by simp), ckT hlen, rowL_succ, ← List.append_assoc]
      unfold quadL
      rw [hb]; rfl
  · simp only [i_RefusalOfPair_l0_S]
    rw [show i + (ns.length - i) = ns.length by omega, if_neg (not_lt_nat _)]
theorem pair_s0 (a d : Int) (ns es : List (List Int)) (hn : Short ns) (he : Short es) (i : Nat) (hil : i < ns.length) (out : List (List Int)) (ho : out.length + ns.length < 1099511627776) (hb : ∀ k, k < ns.length - i → goodAt ns es i (i + k) = false) :
    s_RefusalOfPair_l0 a d ns es (i : Int) (out, (i : Int)) = some (out ++ rowL ns es i (ns.length - i)) := by
  have hl := hn.1
  have key := itO_for (fun v => s_RefusalOfPair_l0_S a d ns es (i : Int) v.1 v.2) (fun k => (out ++ rowL ns es i k, ((i + k : Nat) : Int))) (ns.length - i) (out ++ rowL ns es i (ns.length - i)) ?_ ?_
  · unfold s_RefusalOfPair_l0
    have e0 : out ++ rowL ns es i 0 = out := by simp [rowL]
    rw [e0, Nat.add_zero] at key
    exact key
  · intro k hk
    have hg := hb k hk
    rw [show goodAt ns es i (i + k) = (badOf es (ns.getD i default) (ns.getD (i + k) default)).isNone from rfl] at hg
    simp only [s_RefusalOfPair_l0_S]
    rw [if_pos (lt_nat (by omega)), ckT (ix_nat (by omega)), Int.toNat_natCast, Int.toNat_natCast, s_zeBad_eq a d ns es _ _ he (hn.getD i) (hn.getD (i + k)), Option.bind_some, wrS (i + k) (by omega)]
    cases hq : badOf es (ns.getD i default) (ns.getD (i + k) default) with
    | none => rw [hq] at hg; cases hg
    | some q =>
      obtain ⟨b1, b2, _⟩ := badOf_some hq
      have hlen : (out ++ rowL ns es i k).length + 1 < 1099511627776 := by rw [List.length_append, rowL_len]; omega
      simp only [Int.toNat_natCast]
      rw [ckT ⟨by omega, b1⟩, ckT ⟨by omega, b2⟩, ckT hlen, rowL_succ, ← List.append_assoc]
      unfold quadL
      rw [hq]; rfl
  · simp only [s_RefusalOfPair_l0_S]
    rw [show i + (ns.length - i) = ns.length by omega, if_neg (not_lt_nat _)]
theorem rowsL_short (ns es : List (List Int)) (hs : ns.length ≤ 524288) (i : Nat) (hi : i ≤ ns.length) : (rowsL ns es i).length + ns.length < 1099511627776 := by
  have h1 := rowsL_len ns es i hi
  have h2 : i * (2 * ns.length + 1) ≤ 524288 * (2 * 524288 + 1) := Nat.mul_le_mul (by omega) (by omega)
  omega
theorem rowsL_tot (ns es : List (List Int)) (hs : ns.length ≤ 524288) : tot (rowsL ns es ns.length) < 1000000000000 := by
  have h1 := rowsL_len ns es ns.length (Nat.le_refl _)
  have h2 : ns.length * (2 * ns.length + 1) = 2 * (ns.length * ns.length) + ns.length := by rw [Nat.mul_add, Nat.mul_one, Nat.mul_left_comm]
  have h3 : ns.length * ns.length ≤ 524288 * 524288 := Nat.mul_le_mul hs hs
  have h4 := tot_four (rowsL_four ns es ns.length)
  omega
theorem pair_i1 (a d : Int) (ns es : List (List Int)) (hn : Short ns) (he : Short es) (hi : incL es = true) (hs : ns.length ≤ 524288) :
    i_RefusalOfPair_l1 a d ns es ([], 0) = some (match firstIx ns.length (fun i => (firstIx (ns.length - i) (fun k => goodAt ns es i (i + k))).isSome) with | some _ => .inl () | none => .inr (rowsL ns es ns.length)) := by
  unfold i_RefusalOfPair_l1
  refine itO_find (fun v => i_RefusalOfPair_l1_S a d ns es v.1 v.2) (fun i => (rowsL ns es i, (i : Int))) ns.length (fun i => (firstIx (ns.length - i) (fun k => goodAt ns es i (i + k))).isSome) (fun _ => .inl ()) (.inr (rowsL ns es ns.length)) ?_ ?_
  · intro i hil
    simp only [i_RefusalOfPair_l1_S]
    rw [if_pos (lt_nat hil), ckT (ix_nat hil), pair_i0 a d ns es hn he hi i hil _ (rowsL_short ns es hs i (by omega)), Option.bind_some, wrS i (by omega)]
    cases firstIx (ns.length - i) (fun k => goodAt ns es i (i + k)) <;> simp [rowsL]
  · simp only [i_RefusalOfPair_l1_S]
    rw [if_neg (not_lt_nat _)]
theorem pair_s1 (a d : Int) (ns es : List (List Int)) (hn : Short ns) (he : Short es) (hs : ns.length ≤ 524288) (hb : ∀ i j, i < ns.length → j < ns.length → goodAt ns es i j = false) :
    s_RefusalOfPair_l1 a d ns es ([], 0) = some (rowsL ns es ns.length) := by
  unfold s_RefusalOfPair_l1
  refine itO_for (fun v => s_RefusalOfPair_l1_S a d ns es v.1 v.2) (fun i => (rowsL ns es i, (i : Int))) ns.length (rowsL ns es ns.length) ?_ ?_
  · intro i hil
    simp only [s_RefusalOfPair_l1_S]
    rw [if_pos (lt_nat hil), ckT (ix_nat hil), pair_s0 a d ns es hn he i hil _ (rowsL_short ns es hs i (by omega)) (fun k hk => hb i (i + k) hil (by omega)), Option.bind_some, wrS i (by omega)]
    rfl
  · simp only [s_RefusalOfPair_l1_S]
    rw [if_neg (not_lt_nat _)]
theorem nodes_half {a d : Int} {ns es : List (List Int)} (h : isProb a d ns es = true) (hN : (ns.length : Int) + tot ns ≤ 1048576) : ns.length ≤ 524288 := by
  obtain ⟨_, hd, c1, _⟩ := isProb_cut h
  have : ∀ l : List (List Int), (∀ x ∈ l, 1 ≤ x.length) → (l.length : Int) ≤ tot l := by
    intro l
    induction l with
    | nil => intro _; rw [tot_nil]; simp
    | cons x l ih =>
      intro hx
      have h1 := ih (fun y hy => hx y (List.mem_cons_of_mem _ hy))
      have h2 := hx x List.mem_cons_self
      rw [tot_cons, List.length_cons]
      omega
  have h3 := this ns (fun x hx => by have := (confs_at c1 hx).1; omega)
  omega
theorem refp_both (a d : Int) (ns es : List (List Int)) (hn : Short ns) (he : Short es) (hN : (ns.length : Int) + tot ns ≤ 1048576) : ∃ r ok, s_RefusalOfPair a d ns es = some (r, ok) ∧ i_RefusalOfPair a d ns es = some (r, ok) ∧ Short r ∧ tot r < 1000000000000 := by
  unfold s_RefusalOfPair i_RefusalOfPair
  rw [ckT hn, ckT he, ckT hn, ckT he]
  by_cases h : isProb a d ns es = true
  · rw [if_pos h, if_pos h]
    obtain ⟨_, hd, c1, c2⟩ := isProb_cut h
    have hs := nodes_half h hN
    rw [pair_i1 a d ns es hn he (confs_inc c2) hs, s_zePair_eq a d ns es hn he, Option.bind_some, Option.bind_some]
    cases hq : first2 ns.length ns.length (goodAt ns es) with
    | some q =>
      obtain ⟨q1, q2⟩ := first2_lt hq
      have hg := first2_good hq
      have hm : (firstIx ns.length (fun i => (firstIx (ns.length - i) (fun k => goodAt ns es i (i + k))).isSome)).isSome = true := by
        rw [firstIx_isSome]
        by_cases hle : q.1 ≤ q.2
        · refine ⟨q.1, q1, ?_⟩
          rw [firstIx_isSome]
          exact ⟨q.2 - q.1, by omega, by rw [show q.1 + (q.2 - q.1) = q.2 by omega]; exact hg⟩
        · refine ⟨q.2, q2, ?_⟩
          rw [firstIx_isSome]
          exact ⟨q.1 - q.2, by omega, by rw [show q.2 + (q.1 - q.2) = q.1 by omega, goodAt_comm]; exact hg⟩
      cases hx : firstIx ns.length (fun i => (firstIx (ns.length - i) (fun k => goodAt ns es i (i + k))).isSome) with
      | none => rw [hx] at hm; cases hm
      | some m => exact ⟨_, _, rfl, rfl, Short.nil, by rw [tot_nil]; omega⟩
    | none =>
      have hb : ∀ i j, i < ns.length → j < ns.length → goodAt ns es i j = false := fun i j h1 h2 => first2_none hq h1 h2
      have hm : firstIx ns.length (fun i => (firstIx (ns.length - i) (fun k => goodAt ns es i (i + k))).isSome) = none := by
        refine firstIx_none fun i hi => ?_
        rw [firstIx_none fun k hk => hb i (i + k) hi (by omega)]; rfl
      rw [hm]
      simp only [Bool.false_eq_true, if_false]
      rw [pair_s1 a d ns es hn he hs hb]
      have h1 := rowsL_short ns es hs ns.length (Nat.le_refl _)
      exact ⟨_, _, rfl, rfl, ⟨by omega, fun x hx => by have := rowsL_four ns es _ x hx; omega⟩, rowsL_tot ns es hs⟩
  · rw [if_neg h, if_neg h]
    exact ⟨_, _, rfl, rfl, Short.nil, by rw [tot_nil]; omega⟩
end Go.Proofs.Ytjlphfbpaejicaa
