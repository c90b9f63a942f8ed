/- Problems with some labels: program and reference agree. Conditions: none. -/
import Derived.Test.YtdjfaadpmbkcmaaL6
import Derived.Test.YtdjfaadpmbkcmaaKlA
import Derived.Test.YtdjfaadpmbkcmaaKm
namespace Go.Proofs.Ytdjfaadpmbkcmaa
open Go Dv
set_option linter.unusedSimpArgs false
set_option linter.unusedVariables false
set_option maxRecDepth 100000


/-- Numbers of a range that increase. -/
def risB (l : List Int) (lo hi : Int) : Bool := (List.range l.length).all fun i => inR (l.getD i default) lo hi && (decide (i = 0) || decide (l.getD (i - 1) default < l.getD i default))
theorem i_increasing_ris (l : List Int) (lo hi : Int) (h : l.length < 1099511627776) : i_increasing l lo hi = some (risB l lo hi) := by
 have key := itO_all (fun v => i_increasing_l0_S l lo hi v) (fun i => (i : Int)) l.length (fun i => inR (l.getD i default) lo hi && (decide (i = 0) || decide (l.getD (i - 1) default < l.getD i default))) (.inl ()) (.inr ()) ?_ ?_
 ·rw [Int.natCast_zero] at key
  unfold i_increasing i_increasing_l0 risB
  rw [key]
  cases (List.range l.length).all fun i => inR (l.getD i default) lo hi && (decide (i = 0) || decide (l.getD (i - 1) default < l.getD i default)) <;> rfl
 ·intro i hi'
  simp only [i_increasing_l0_S, Int.toNat_natCast]
  rw [if_pos (lt_nat hi'), ckT (by omega), wrS i (by omega)]
  cases hr : inR (l.getD i default) lo hi with
  | false => simp
  | true =>
   by_cases h0 : i = 0
   ·subst h0
    rw [if_pos rfl, if_neg (by omega)]
    simp
   ·rw [if_pos rfl, if_pos (by omega), wr64 _ (by omega), ckT (by omega), show ((i : Int) - 1).toNat = i - 1 by omega, decide_eq_false h0]
    by_cases hlt : l.getD (i - 1) default < l.getD i default
    ·rw [if_neg (by omega), decide_eq_true hlt]; rfl
    ·rw [if_pos (by omega), decide_eq_false hlt]; rfl
 ·simp only [i_increasing_l0_S]
  rw [if_neg (not_lt_nat _)]
theorem s_l1Rising_ris (l : List Int) (lo hi : Int) (h : l.length < 1099511627776) : s_l1Rising l lo hi = some (risB l lo hi) := by
 have key := itO_all (fun v => s_l1Rising_l0_S l lo hi v) (fun i => (i : Int)) l.length (fun i => inR (l.getD i default) lo hi && (decide (i = 0) || decide (l.getD (i - 1) default < l.getD i default))) (.inl ()) (.inr ()) ?_ ?_
 ·rw [Int.natCast_zero] at key
  unfold s_l1Rising s_l1Rising_l0 risB
  rw [key]
  cases (List.range l.length).all fun i => inR (l.getD i default) lo hi && (decide (i = 0) || decide (l.getD (i - 1) default < l.getD i default)) <;> rfl
 ·intro i hi'
  simp only [s_l1Rising_l0_S, Int.toNat_natCast]
  rw [if_pos (lt_nat hi'), ckT (by omega), wrS i (by omega)]
  cases hr : inR (l.getD i default) lo hi with
  | false => simp
  | true =>
   by_cases h0 : i = 0
   ·subst h0
    rw [if_pos rfl, if_neg (by omega)]
    simp
   ·rw [if_pos rfl, if_pos (by omega), wr64 _ (by omega), ckT (by omega), show ((i : Int) - 1).toNat = i - 1 by omega, decide_eq_false h0]
    by_cases hlt : l.getD (i - 1) default < l.getD i default
    ·rw [if_neg (by omega), decide_eq_true hlt]; rfl
    ·rw [if_pos (by omega), decide_eq_false hlt]; rfl
 ·simp only [s_l1Rising_l0_S]
  rw [if_neg (not_lt_nat _)]
theorem ris_at {l : List Int} {hi : Int} (h : risB l 0 hi = true) : ∀ i, i < l.length → (i : Int) ≤ l.getD i default ∧ l.getD i default ≤ hi := by
 have h0 := range_all.1 h
 intro i
 induction i with
 | zero =>
  intro hi'
  have := h0 0 hi'
  simp only [Bool.and_eq_true] at this
  have := inR_iff.1 this.1
  omega
 | succ i ih =>
  intro hi'
  have h1 := h0 (i + 1) hi'
  simp only [Bool.and_eq_true, Bool.or_eq_true, decide_eq_true_eq] at h1
  have h2 := inR_iff.1 h1.1
  have h3 := ih (by omega)
  have h4 : l.getD i default < l.getD (i + 1) default := by
   rcases h1.2 with h | h
   ·omega
   ·exact h
  omega
/-- The new labels of those that are kept. -/
def toK (n : Nat) (keep : List Int) : Nat → List Int
 | 0 => List.replicate n (-1)
 | i + 1 => (toK n keep i).set (keep.getD i default).toNat (i : Int)
theorem toK_len (n : Nat) (keep : List Int) : ∀ i, (toK n keep i).length = n
 | 0 => by simp [toK]
 | i + 1 => by simp [toK, toK_len n keep i]
theorem toK_at (n : Nat) (keep : List Int) : ∀ (i p : Nat), p < n → (toK n keep i).getD p default = -1 ∨ ∃ v : Nat, v < i ∧ (toK n keep i).getD p default = (v : Int) ∧ (keep.getD v default).toNat = p := by
 intro i
 induction i with
 | zero => intro p hp; left; simp [toK, hp]
 | succ i ih =>
  intro p hp
  have hl := toK_len n keep i
  by_cases he : (keep.getD i default).toNat = p
  ·right
   refine ⟨i, Nat.lt_succ_self _, ?_, he⟩
   rw [toK, he, List.getD_eq_getElem?_getD, List.getElem?_set_self (by rw [hl]; exact hp)]; rfl
  ·have : (toK n keep (i + 1)).getD p default = (toK n keep i).getD p default := by
    rw [toK, List.getD_eq_getElem?_getD, List.getElem?_set_ne he, ← List.getD_eq_getElem?_getD]
   rw [this]
   rcases ih p hp with h | ⟨v, h1, h2, h3⟩
   ·exact .inl h
   ·exact .inr ⟨v, by omega, h2, h3⟩
theorem toK_ok (n : Nat) (keep : List Int) (h8 : keep.length ≤ 8) : okTo (toK n keep keep.length) n := by
 refine ⟨toK_len _ _ _, fun x hx => ?_, fun i j hi hj he hge => ?_⟩
 ·obtain ⟨p, hp, rfl⟩ := List.getElem_of_mem hx
  rw [toK_len] at hp
  have := toK_at n keep keep.length p hp
  rw [getD_get _ _ (by rw [toK_len]; exact hp)] at this
  rcases this with h | ⟨v, h1, h2, _⟩ <;> omega
 ·rcases toK_at n keep keep.length i hi with h | ⟨v, h1, h2, h3⟩
  ·omega
  ·rcases toK_at n keep keep.length j hj with h' | ⟨v', h1', h2', h3'⟩
   ·omega
   ·have : v = v' := by omega
    subst this
    omega
theorem keep_loop_i (a d : Int) (ns es : List (List Int)) (keep : List Int) (n : Nat) (hk : ∀ i, i < keep.length → 0 ≤ keep.getD i default ∧ (keep.getD i default).toNat < n) (hl : keep.length < 1099511627776) : i_keepLabels_l0 a d ns es keep (List.replicate n (-1), 0) = some (toK n keep keep.length) := by
 unfold i_keepLabels_l0
 refine itO_for (fun v => i_keepLabels_l0_S a d ns es keep v.1 v.2) (fun i => (toK n keep i, (i : Int))) keep.length (toK n keep keep.length) ?_ ?_
 ·intro i hi
  simp only [i_keepLabels_l0_S, Int.toNat_natCast]
  rw [if_pos (lt_nat hi), ckT (by omega), ckT (by rw [toK_len]; exact hk i hi), wrS i (by omega)]
  rfl
 ·simp only [i_keepLabels_l0_S]
  rw [if_neg (not_lt_nat _)]
theorem keep_loop_s (a d : Int) (ns es : List (List Int)) (keep : List Int) (n : Nat) (hk : ∀ i, i < keep.length → 0 ≤ keep.getD i default ∧ (keep.getD i default).toNat < n) (hl : keep.length < 1099511627776) : s_prKeep_l1 a d ns es keep (List.replicate n (-1), 0) = some (toK n keep keep.length) := by
 unfold s_prKeep_l1
 refine itO_for (fun v => s_prKeep_l1_S a d ns es keep v.1 v.2) (fun i => (toK n keep i, (i : Int))) keep.length (toK n keep keep.length) ?_ ?_
 ·intro i hi
  simp only [s_prKeep_l1_S, Int.toNat_natCast]
  rw [if_pos (lt_nat hi), ckT (by omega), ckT (by rw [toK_len]; exact hk i hi), wrS i (by omega)]
  rfl
 ·simp only [s_prKeep_l1_S]
  rw [if_neg (not_lt_nat _)]
theorem clear_loop (a d : Int) (ns es : List (List Int)) (keep : List Int) (ha : 0 ≤ a ∧ a < 1099511627776) : s_prKeep_l0 a d ns es keep (List.replicate a.toNat 0, 0) = some (List.replicate a.toNat (-1)) := by
 unfold s_prKeep_l0
 have key := itO_for (fun v => s_prKeep_l0_S a d ns es keep v.1 v.2) (fun i => (List.replicate i (-1) ++ List.replicate (a.toNat - i) 0, (i : Int))) a.toNat (List.replicate a.toNat (-1)) ?_ ?_
 ·simpa using key
 ·intro i hi
  simp only [s_prKeep_l0_S, Int.toNat_natCast, List.length_replicate]
  rw [if_pos (lt_nat hi), ckT (by simp; omega), wrS i (by omega)]
  congr 3
  rw [List.set_append_right _ _ (by simp), List.length_replicate, Nat.sub_self, show a.toNat - i = (a.toNat - (i + 1)) + 1 by omega, List.replicate_succ, List.set_cons_zero, List.replicate_succ', List.append_assoc]
  rfl
 ·simp only [s_prKeep_l0_S, List.length_replicate]
  rw [if_neg (by omega)]
  simp
theorem keep_both (a d : Int) (ns es : List (List Int)) (keep : List Int) (hn : Short ns) (he : Short es) (hnl : ns.length ≤ 1048576) (hel : es.length ≤ 1048576) (hk : keep.length ≤ 1048576) :
  (s_KeepLabels a d ns es keep = some (.inl (0, 0, [], [], false)) ∧ i_KeepLabels a d ns es keep = some (0, 0, [], [], false)) ∨
  ∃ L N E, s_KeepLabels a d ns es keep = some (.inr (L, d, N, E, true)) ∧ i_KeepLabels a d ns es keep = some (L, d, N, E, true) ∧ N.length ≤ ns.length ∧ tot N ≤ tot ns ∧ E.length ≤ es.length ∧ tot E ≤ tot es := by
 unfold s_KeepLabels i_KeepLabels
 rw [ckT hn, ckT he, ckT hn, ckT he]
 by_cases h : isProb a d ns es = true
 ·obtain ⟨h1, h2, h3, h4⟩ := isProb_cut h
  rw [if_pos h, if_pos h]
  by_cases h0 : (keep.length : Int) = 0
  ·rw [if_pos h0, if_pos h0]; exact .inl ⟨rfl, rfl⟩
  ·rw [if_neg h0, if_neg h0, wr64 _ (by omega), s_l1Rising_ris _ _ _ (by omega), i_increasing_ris _ _ _ (by omega), Option.bind_some, Option.bind_some]
   by_cases hr : risB keep 0 (a - 1) = true
   ·have hat := ris_at hr
    have h8 : keep.length ≤ 8 := by
     have := hat (keep.length - 1) (by omega)
     omega
    have hin : ∀ i, i < keep.length → 0 ≤ keep.getD i default ∧ (keep.getD i default).toNat < a.toNat := fun i hi => by have := hat i hi; omega
    have ht := toK_ok a.toNat keep h8
    obtain ⟨n1, n2, n3, n4⟩ := both_map h3 h2 hn hnl ht
    obtain ⟨e1, e2, e3, e4⟩ := both_map h4 (by omega) he hel ht
    right
    refine ⟨(keep.length : Int), _, _, ?_, ?_, n3, n4, e3, e4⟩
    ·unfold s_prKeep
     rw [if_pos hr, ckT (by omega), clear_loop a d ns es keep (by omega), Option.bind_some, keep_loop_s a d ns es keep a.toNat hin (by omega), Option.bind_some, n2, Option.bind_some, e2]
     rfl
    ·unfold i_keepLabels
     rw [if_pos hr, repI_one (-1) a (by omega), Option.bind_some, keep_loop_i a d ns es keep a.toNat hin (by omega), Option.bind_some, n1, Option.bind_some, e1]
     rfl
   ·rw [if_neg hr, if_neg hr]; exact .inl ⟨rfl, rfl⟩
 ·rw [if_neg h, if_neg h]; exact .inl ⟨rfl, rfl⟩

end Go.Proofs.Ytdjfaadpmbkcmaa
