/- Problems with other labels: program and reference agree. Conditions: none. -/
import Derived.Test.YtdjfaadpmbkcmaaL6
import Derived.Test.YtdjfaadpmbkcmaaKmA
import Derived.Test.YtdjfaadpmbkcmaaRn
namespace Go.Proofs.Ytdjfaadpmbkcmaa
open Go Dv
set_option linter.unusedSimpArgs false
set_option linter.unusedVariables false
set_option maxRecDepth 100000


theorem conf_ok {l : List (List Int)} {s n : Int} (h : confs l s n = true) (hs : 0 ≤ s) : okC l n.toNat s.toNat := fun c hc => by
 obtain ⟨h1, h2, h3⟩ := confs_at h hc
 refine ⟨fun a ha => ?_, h2, by omega⟩
 have := inR_iff.1 (List.all_eq_true.1 h3 a ha)
 omega
theorem tot_same (n : Nat) : ∀ (l : List (List Int)), (∀ v ∈ l, v.length = n) → tot l = (l.length : Int) * n := by
 intro l
 induction l with
 | nil => intro _; simp [tot_nil]
 | cons x l ih =>
  intro h
  rw [tot_cons, ih (fun v hv => h v (by simp [hv])), h x (by simp), List.length_cons]
  have : ((l.length + 1 : Nat) : Int) = (l.length : Int) + 1 := by omega
  rw [this, Int.add_mul]; omega
/-- The lists that come out are no longer than those that go in. -/
theorem imgs_size {l : List (List Int)} {to : List Int} {n s : Nat} (hl : okC l n s) : (sortL (imgs l to)).length ≤ l.length ∧ tot (sortL (imgs l to)) ≤ tot l := by
 have h1 := imgs_length_le l to
 have h2 := tot_same s l (fun c hc => (hl c hc).2.2)
 have h3 := tot_same s (sortL (imgs l to)) (fun c hc => imgs_len hl ((sortL_perm _).mem_iff.1 hc))
 rw [sortL_length] at h3 ⊢
 refine ⟨h1, ?_⟩
 rw [h2, h3]
 exact Int.mul_le_mul_of_nonneg_right (by omega) (by omega)
theorem both_map {l : List (List Int)} {s n : Int} {to : List Int} (h : confs l s n = true) (hs : 1 ≤ s ∧ s ≤ 4) (hl : Short l) (hll : l.length ≤ 1048576) (ht : okTo to n.toNat) :
  i_renamed l to = some (sortL (imgs l to)) ∧ s_prMap l to = some (sortL (imgs l to)) ∧ (sortL (imgs l to)).length ≤ l.length ∧ tot (sortL (imgs l to)) ≤ tot l := by
 have hc := conf_ok h (by omega)
 exact ⟨i_renamed_eq l to n.toNat s.toNat ht hc (by omega) (by omega) (confs_inc h), s_prMap_eq l to n.toNat s.toNat ht hc (by omega) (by omega) (by omega) (confs_inc h), imgs_size hc⟩
/-- A list of the numbers of a range, each once. -/
def permB (l : List Int) (n : Int) : Bool := decide ((l.length : Int) = n) && (List.range l.length).all fun i => inR (l.getD i default) 0 (n - 1) && !(l.take i).contains (l.getD i default)
theorem nePerm_eq (l : List Int) (n : Int) (h : l.length < 1099511627776) (hn : 0 ≤ n ∧ n ≤ 8) : s_nePerm l n = some (permB l n) := by
 have key := itO_all (fun v => s_nePerm_l0_S l n v) (fun i => (i : Int)) l.length (fun i => inR (l.getD i default) 0 (n - 1) && !(l.take i).contains (l.getD i default)) (.inl ()) (.inr ()) ?_ ?_
 ·rw [Int.natCast_zero] at key
  unfold s_nePerm s_nePerm_l0 permB
  rw [key, Option.bind_some]
  cases (List.range l.length).all fun i => inR (l.getD i default) 0 (n - 1) && !(l.take i).contains (l.getD i default) <;> simp
 ·intro i hi
  simp only [s_nePerm_l0_S, Int.toNat_natCast, List.drop_zero]
  rw [if_pos (lt_nat hi), ckT (by omega), wr64 _ (by omega), wrS i (by omega)]
  cases hr : inR (l.getD i default) 0 (n - 1) with
  | false => simp
  | true =>
   rw [if_pos rfl, ckT (by omega), ckT (by omega), ckT (by rw [List.length_take]; omega)]
   cases hc : (l.take i).contains (l.getD i default) <;> simp
 ·simp only [s_nePerm_l0_S]
  rw [if_neg (not_lt_nat _)]
/-- What has been seen. -/
def seenK (n : Nat) (l : List Int) : Nat → List Bool
 | 0 => List.replicate n false
 | i + 1 => (seenK n l i).set (l.getD i default).toNat true
theorem seenK_len (n : Nat) (l : List Int) : ∀ i, (seenK n l i).length = n
 | 0 => by simp [seenK]
 | i + 1 => by simp [seenK, seenK_len n l i]
theorem seenK_at (n : Nat) (l : List Int) : ∀ (i : Nat), i ≤ l.length → (∀ j, j < i → 0 ≤ l.getD j default ∧ (l.getD j default).toNat < n) → ∀ x : Int, 0 ≤ x → x.toNat < n → (seenK n l i).getD x.toNat default = (l.take i).contains x := by
 intro i
 induction i with
 | zero => intro _ _ x _ hx; simp [seenK, hx]
 | succ i ih =>
  intro hi hj x h0 hx
  have hl := seenK_len n l i
  have hg : l.getD i default = l[i]'(by omega) := getD_get _ _ (by omega)
  rw [List.take_add_one, List.getElem?_eq_getElem (by omega), Option.toList_some, List.contains_append]
  have h2 := hj i (Nat.lt_succ_self _)
  by_cases he : l.getD i default = x
  ·rw [seenK, he, List.getD_eq_getElem?_getD, List.getElem?_set_self (by rw [hl]; exact hx)]
   rw [← hg, he]; simp
  ·have hne : (l.getD i default).toNat ≠ x.toNat := by omega
   rw [seenK, List.getD_eq_getElem?_getD, List.getElem?_set_ne hne, ← List.getD_eq_getElem?_getD, ih (by omega) (fun j hj' => hj j (by omega)) x h0 hx, ← hg]
   have : ([l.getD i default] : List Int).contains x = false := by
    rw [Bool.eq_false_iff]
    intro hc
    exact he (List.mem_singleton.1 (List.contains_iff_mem.1 hc)).symm
   rw [this, Bool.or_false]
theorem isPermutation_eq (l : List Int) (n : Int) (h : l.length < 1099511627776) (hn : 0 ≤ n ∧ n ≤ 8) : i_isPermutation l n = some (permB l n) := by
 unfold i_isPermutation permB
 by_cases hl : (l.length : Int) = n
 ·rw [if_pos hl, decide_eq_true hl, ckT (by omega)]
  have key := itO_all' (fun v => i_isPermutation_l0_S l n v.1 v.2) (fun i => (seenK n.toNat l i, (i : Int))) l.length (fun i => inR (l.getD i default) 0 (n - 1) && !(l.take i).contains (l.getD i default)) (.inl ()) (.inr ()) ?_ ?_
  ·unfold i_isPermutation_l0
   rw [show seenK n.toNat l 0 = List.replicate n.toNat false from rfl, Int.natCast_zero] at key
   rw [key, Option.bind_some, Bool.true_and]
   cases (List.range l.length).all fun i => inR (l.getD i default) 0 (n - 1) && !(l.take i).contains (l.getD i default) <;> rfl
  ·intro i hi hj
   simp only [i_isPermutation_l0_S, Int.toNat_natCast]
   rw [if_pos (lt_nat hi), ckT (by omega), wr64 _ (by omega), wrS i (by omega)]
   cases hr : inR (l.getD i default) 0 (n - 1) with
   | false => simp
   | true =>
    have hb := inR_iff.1 hr
    have hs := seenK_at n.toNat l i (by omega) (fun j hj' => by
     have := hj j hj'
     simp only [Bool.and_eq_true] at this
     have := inR_iff.1 this.1
     omega) (l.getD i default) (by omega) (by omega)
    rw [if_pos rfl, ckT (by rw [seenK_len]; omega), hs]
    cases hc : (l.take i).contains (l.getD i default) <;> simp [seenK]
  ·intro _
   simp only [i_isPermutation_l0_S]
   rw [if_neg (not_lt_nat _)]
 ·rw [if_neg hl, decide_eq_false hl]; rfl
theorem perm_ok {l : List Int} {n : Int} (hn : 0 ≤ n ∧ n ≤ 8) (h : permB l n = true) : okTo l n.toNat := by
 unfold permB at h
 rw [Bool.and_eq_true, decide_eq_true_eq] at h
 have h0 := range_all.1 h.2
 have hat : ∀ i, i < l.length → (0 ≤ l.getD i default ∧ l.getD i default ≤ n - 1) ∧ (l.take i).contains (l.getD i default) = false := fun i hi => by
  have := h0 i hi
  simp only [Bool.and_eq_true, Bool.not_eq_true'] at this
  exact ⟨inR_iff.1 this.1, this.2⟩
 have hlt : ∀ i j, i < j → j < l.length → l.getD i default ≠ l.getD j default := fun i j hij hj he => by
  have := (hat j hj).2
  rw [← he, getD_get _ _ (by omega)] at this
  have hm : l[i]'(by omega) ∈ l.take j := List.mem_take_iff_getElem.2 ⟨i, by omega, rfl⟩
  rw [List.contains_iff_mem.2 hm] at this
  cases this
 refine ⟨by omega, fun x hx => ?_, fun i j hi hj he _ => ?_⟩
 ·obtain ⟨p, hp, rfl⟩ := List.getElem_of_mem hx
  have := (hat p hp).1
  rw [getD_get _ _ hp] at this
  omega
 ·rcases Nat.lt_trichotomy i j with hij | hij | hij
  ·exact absurd he (hlt i j hij (by omega))
  ·exact hij
  ·exact absurd he.symm (hlt j i hij (by omega))
theorem rename_both (a d : Int) (ns es : List (List Int)) (perm : List Int) (hn : Short ns) (he : Short es) (hnl : ns.length ≤ 1048576) (hel : es.length ≤ 1048576) (hk : perm.length ≤ 1048576) :
  (s_RenameLabels a d ns es perm = some (.inr (0, 0, [], [], false)) ∧ i_RenameLabels a d ns es perm = some (0, 0, [], [], false)) ∨
  ∃ N E, s_RenameLabels a d ns es perm = some (.inl (a, d, N, E, true)) ∧ i_RenameLabels a d ns es perm = some (a, d, N, E, true) ∧ N.length ≤ ns.length ∧ tot N ≤ tot ns ∧ E.length ≤ es.length ∧ tot E ≤ tot es := by
 unfold s_RenameLabels i_RenameLabels
 rw [ckT hn, ckT he, ckT hn, ckT he]
 by_cases h : isProb a d ns es = true
 ·obtain ⟨h1, h2, h3, h4⟩ := isProb_cut h
  rw [if_pos h, if_pos h, nePerm_eq _ _ (by omega) (by omega), isPermutation_eq _ _ (by omega) (by omega), Option.bind_some, Option.bind_some]
  by_cases hr : permB perm a = true
  ·have ht := perm_ok (by omega) hr
   obtain ⟨n1, n2, n3, n4⟩ := both_map h3 h2 hn hnl ht
   obtain ⟨e1, e2, e3, e4⟩ := both_map h4 (by omega) he hel ht
   right
   refine ⟨_, _, ?_, ?_, n3, n4, e3, e4⟩
   ·unfold s_prRename
    rw [if_pos hr, n2, Option.bind_some, e2]; rfl
   ·rw [if_pos hr, n1, Option.bind_some, e1]; rfl
  ·rw [if_neg hr, if_neg hr]; exact .inl ⟨rfl, rfl⟩
 ·rw [if_neg h, if_neg h]; exact .inl ⟨rfl, rfl⟩

end Go.Proofs.Ytdjfaadpmbkcmaa
