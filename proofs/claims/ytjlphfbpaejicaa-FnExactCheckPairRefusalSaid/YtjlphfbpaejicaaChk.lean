/- Refusals checked: lists of pairs and of places. Conditions: none. -/
import Derived.Test.YtjlphfbpaejicaaL6
import Derived.Test.YtjlphfbpaejicaaChkA
namespace Go.Proofs.Ytjlphfbpaejicaa
open Go Dv
set_option linter.unusedSimpArgs false
set_option linter.unusedVariables false
set_option maxRecDepth 100000


/-- The four numbers are those of places i and j. -/
def quadB (ns es : List (List Int)) (q : List Int) (i j : Nat) : Bool :=
  decide (q.length = 4) && (decide (q.getD 0 default = (i : Int)) && (decide (q.getD 1 default = (j : Int)) && ((ns.getD i default).contains (q.getD 2 default) && ((ns.getD j default).contains (q.getD 3 default) && !hasE es (q.getD 2 default) (q.getD 3 default)))))
theorem pairI_step (a d : Int) (ns es qs : List (List Int)) (hn : Short ns) (he : Short es) (hq : Short qs) (hi : incL es = true) (i k j : Nat) (hk : k ≤ qs.length) (hj : j < ns.length) :
    i_isPairRefusal_l0_S a d ns es qs (i : Int) (k : Int) (j : Int) = if k < qs.length ∧ quadB ns es (qs.getD k default) i j = true then some (.inl (((k + 1 : Nat) : Int), ((j + 1 : Nat) : Int))) else some (.inr (.inl ())) := by
  have h1 := hq.1
  have h2 := hn.1
  have h3 := hn.getD i
  have h4 := hn.getD j
  simp only [i_isPairRefusal_l0_S]
  rw [if_pos (lt_nat hj)]
  by_cases hkl : k = qs.length
  · rw [if_pos (by omega), if_neg (by omega)]
  · rw [if_neg (by omega), ckT (by omega), Int.toNat_natCast, Int.toNat_natCast, Int.toNat_natCast, wrS k (by omega), wrS j (by omega)]
    have hlt : k < qs.length := by omega
    unfold quadB
    by_cases g1 : (qs.getD k default).length = 4
    · rw [if_pos (by omega), ckT (by omega)]
      by_cases g2 : (qs.getD k default).getD 0 default = (i : Int)
      · rw [if_pos g2, ckT (by omega)]
        by_cases g3 : (qs.getD k default).getD 1 default = (j : Int)
        · rw [if_pos g3, ckT (by omega), ckT h3]
          cases g4 : (ns.getD i default).contains ((qs.getD k default).getD 2 default) with
          | false => simp
          | true =>
            rw [if_pos rfl, ckT ⟨by omega, hj⟩, ckT (by omega), ckT h4]
            cases g5 : (ns.getD j default).contains ((qs.getD k default).getD 3 default) with
            | false => simp
            | true =>
              rw [if_pos rfl, ckT he, ckT hi]
              rw [decide_eq_true g1, decide_eq_true g2, decide_eq_true g3]
              cases hasE es ((qs.getD k default).getD 2 default) ((qs.getD k default).getD 3 default) <;> simp [hlt]
        · rw [if_neg g3, if_neg (fun c => g3 (by simpa using (by simpa using c.2 : _ ∧ _ ∧ _ ∧ _).2.2.1))]
      · rw [if_neg g2, if_neg (fun c => g2 (by simpa using (by simpa using c.2 : _ ∧ _ ∧ _).2.1))]
    · rw [if_neg (by omega), if_neg (fun c => g1 (by simpa using (by simpa using c.2 : _ ∧ _).1))]
theorem twoB_drop (es : List (List Int)) (q x y : List Int) (h : q.length = 4) : twoB es ((q.take q.length).drop 2) x y = (x.contains (q.getD 2 default) && (y.contains (q.getD 3 default) && !hasE es (q.getD 2 default) (q.getD 3 default))) := by
  rcases q with _ | ⟨q0, _ | ⟨q1, _ | ⟨q2, _ | ⟨q3, _ | ⟨q4, q⟩⟩⟩⟩⟩ <;> simp at h
  simp [twoB]
theorem pairS_step (a d : Int) (ns es qs : List (List Int)) (hn : Short ns) (he : Short es) (hq : Short qs) (i k j : Nat) (hk : k ≤ qs.length) (hj : j < ns.length) :
    s_CheckPairRefusal_l0_S a d ns es qs (i : Int) (k : Int) (j : Int) = if k < qs.length ∧ quadB ns es (qs.getD k default) i j = true then some (.inl (((k + 1 : Nat) : Int), ((j + 1 : Nat) : Int))) else some (.inr (.inl ())) := by
  have h1 := hq.1
  have h2 := hn.1
  have h3 := hn.getD i
  have h4 := hn.getD j
  simp only [s_CheckPairRefusal_l0_S]
  rw [if_pos (lt_nat hj)]
  by_cases hkl : k = qs.length
  · rw [if_pos (by omega), if_neg (by omega)]
  · rw [if_neg (by omega), ckT (by omega), Int.toNat_natCast, Int.toNat_natCast, Int.toNat_natCast, wrS k (by omega), wrS j (by omega)]
    have hlt : k < qs.length := by omega
    unfold quadB
    by_cases g1 : (qs.getD k default).length = 4
    · rw [if_pos (by omega), ckT (by omega)]
      by_cases g2 : (qs.getD k default).getD 0 default = (i : Int)
      · rw [if_pos g2, ckT (by omega)]
        by_cases g3 : (qs.getD k default).getD 1 default = (j : Int)
        · rw [if_pos g3, ckT (by omega), ckT ⟨by omega, hj⟩, ckT he, ckT h3, ckT h4, twoB_drop _ _ _ _ g1]
          rw [decide_eq_true g1, decide_eq_true g2, decide_eq_true g3]
          generalize ((ns.getD i default).contains ((qs.getD k default).getD 2 default) && ((ns.getD j default).contains ((qs.getD k default).getD 3 default) && !hasE es ((qs.getD k default).getD 2 default) ((qs.getD k default).getD 3 default))) = b
          cases b <;> simp [hlt]
        · rw [if_neg g3, if_neg (fun c => g3 (by simpa using (by simpa using c.2 : _ ∧ _ ∧ _ ∧ _).2.2.1))]
      · rw [if_neg g2, if_neg (fun c => g2 (by simpa using (by simpa using c.2 : _ ∧ _ ∧ _).2.1))]
    · rw [if_neg (by omega), if_neg (fun c => g1 (by simpa using (by simpa using c.2 : _ ∧ _).1))]
theorem pair_inner (a d : Int) (ns es qs : List (List Int)) (hn : Short ns) (he : Short es) (hq : Short qs) (hi : incL es = true) (i k : Nat) (hk : k ≤ qs.length) (hin : i ≤ ns.length) :
    ∃ r, i_isPairRefusal_l0 a d ns es qs (i : Int) ((k : Int), (i : Int)) = some r ∧ s_CheckPairRefusal_l0 a d ns es qs (i : Int) ((k : Int), (i : Int)) = some r ∧ (∀ x, r = .inr x → ∃ m : Nat, x = (m : Int) ∧ m ≤ qs.length) := by
  have key := itO_both (fun v => i_isPairRefusal_l0_S a d ns es qs (i : Int) v.1 v.2) (fun v => s_CheckPairRefusal_l0_S a d ns es qs (i : Int) v.1 v.2)
    (fun n v => ∃ k j : Nat, v = ((k : Int), (j : Int)) ∧ k ≤ qs.length ∧ j ≤ ns.length ∧ n = ns.length - j) (fun r r' => r = r' ∧ ∀ x, r = .inr x → ∃ m : Nat, x = (m : Int) ∧ m ≤ qs.length) ?_ (ns.length - i) ((k : Int), (i : Int)) ⟨k, i, rfl, hk, hin, rfl⟩
  · obtain ⟨r, r', h1, h2, rfl, h3⟩ := key
    exact ⟨r, h1, h2, h3⟩
  · rintro n v ⟨k, j, rfl, hk, hj, rfl⟩
    by_cases hjl : j < ns.length
    · simp only [pairI_step a d ns es qs hn he hq hi i k j hk hjl, pairS_step a d ns es qs hn he hq i k j hk hjl]
      by_cases hc : k < qs.length ∧ quadB ns es (qs.getD k default) i j = true
      · rw [if_pos hc]
        exact .inl ⟨_, ns.length - (j + 1), rfl, rfl, by omega, k + 1, j + 1, rfl, by omega, by omega, rfl⟩
      · rw [if_neg hc]
        exact .inr ⟨_, _, rfl, rfl, rfl, fun x hx => by cases hx⟩
    · have hje : j = ns.length := by omega
      subst hje
      simp only [i_isPairRefusal_l0_S, s_CheckPairRefusal_l0_S]
      rw [if_neg (not_lt_nat _), if_neg (not_lt_nat _)]
      exact .inr ⟨_, _, rfl, rfl, rfl, fun x hx => by cases hx; exact ⟨k, rfl, hk⟩⟩
theorem pair_outer (a d : Int) (ns es qs : List (List Int)) (hn : Short ns) (he : Short es) (hq : Short qs) (hi : incL es = true) :
    ∃ r, i_isPairRefusal_l1 a d ns es qs (0, 0) = some r ∧ s_CheckPairRefusal_l1 a d ns es qs (0, 0) = some r := by
  have hl := hn.1
  have key := itO_both (fun v => i_isPairRefusal_l1_S a d ns es qs v.1 v.2) (fun v => s_CheckPairRefusal_l1_S a d ns es qs v.1 v.2)
    (fun n v => ∃ k i : Nat, v = ((k : Int), (i : Int)) ∧ k ≤ qs.length ∧ i ≤ ns.length ∧ n = ns.length - i) (fun r r' => r = r') ?_ ns.length ((0 : Nat), (0 : Nat)) ⟨0, 0, rfl, by omega, by omega, rfl⟩
  · obtain ⟨r, r', h1, h2, rfl⟩ := key
    exact ⟨r, h1, h2⟩
  · rintro n v ⟨k, i, rfl, hk, hil, rfl⟩
    simp only [i_isPairRefusal_l1_S, s_CheckPairRefusal_l1_S]
    by_cases hlt : i < ns.length
    · obtain ⟨r, h1, h2, h3⟩ := pair_inner a d ns es qs hn he hq hi i k hk hil
      rw [if_pos (lt_nat hlt), if_pos (lt_nat hlt), ckT (ix_nat hlt), ckT (ix_nat hlt), h1, h2, wrS i (by omega)]
      simp only [Option.bind_some]
      cases r with
      | inl u => exact .inr ⟨_, _, rfl, rfl, rfl⟩
      | inr x =>
        obtain ⟨m, rfl, hm⟩ := h3 x rfl
        exact .inl ⟨_, ns.length - (i + 1), rfl, rfl, by omega, m, i + 1, rfl, hm, by omega, rfl⟩
    · have hie : i = ns.length := by omega
      subst hie
      rw [if_neg (not_lt_nat _), if_neg (not_lt_nat _)]
      exact .inr ⟨_, _, rfl, rfl, rfl⟩
theorem chkp_both (a d : Int) (ns es qs : List (List Int)) (hn : Short ns) (he : Short es) (hq : Short qs) : ∃ x y, s_CheckPairRefusal a d ns es qs = some (x, y) ∧ i_CheckPairRefusal a d ns es qs = some (x, y) := by
  unfold s_CheckPairRefusal i_CheckPairRefusal
  rw [ckT hn, ckT he, ckT hn, ckT he]
  by_cases h : isProb a d ns es = true
  · rw [if_pos h, if_pos h]
    obtain ⟨_, _, _, c2⟩ := isProb_cut h
    obtain ⟨r, h1, h2⟩ := pair_outer a d ns es qs hn he hq (confs_inc c2)
    unfold i_isPairRefusal
    rw [h1, h2]
    cases r <;> exact ⟨_, _, rfl, rfl⟩
  · rw [if_neg h, if_neg h]; exact ⟨_, _, rfl, rfl⟩

end Go.Proofs.Ytjlphfbpaejicaa
