/- Lists of configurations with other labels. Conditions: none. -/
import Derived.Test.YtdjfaadpmbkcmaaGreatL6
import Derived.Test.YtdjfaadpmbkcmaaGreatRn
namespace Go.Proofs.YtdjfaadpmbkcmaaGreat
open Go Dv
set_option linter.unusedSimpArgs false
set_option linter.unusedVariables false
set_option maxRecDepth 100000


theorem conf_ok {l : List (List Int)} {s n : Int} (h : confs l s n = true) (hs : 0 ≤ s) : okC l n.toNat s.toNat := fun c hc => by
 obtain ⟨h1, h2, h3⟩ := confs_at h hc
 refine ⟨fun a ha => ?_, h2, by omega⟩
 have := inR_iff.1 (List.all_eq_true.1 h3 a ha)
 omega
theorem tot_same (n : Nat) : ∀ (l : List (List Int)), (∀ v ∈ l, v.length = n) → tot l = (l.length : Int) * n := by
 intro l
 induction l with
 | nil => intro _; simp [tot_nil]
 | cons x l ih =>
  intro h
  rw [tot_cons, ih (fun v hv => h v (by simp [hv])), h x (by simp), List.length_cons]
  have : ((l.length + 1 : Nat) : Int) = (l.length : Int) + 1 := by omega
  rw [this, Int.add_mul]; omega
/-- The lists that come out are no longer than those that go in. -/
theorem imgs_size {l : List (List Int)} {to : List Int} {n s : Nat} (hl : okC l n s) : (sortL (imgs l to)).length ≤ l.length ∧ tot (sortL (imgs l to)) ≤ tot l := by
 have h1 := imgs_length_le l to
 have h2 := tot_same s l (fun c hc => (hl c hc).2.2)
 have h3 := tot_same s (sortL (imgs l to)) (fun c hc => imgs_len hl ((sortL_perm _).mem_iff.1 hc))
 rw [sortL_length] at h3 ⊢
 refine ⟨h1, ?_⟩
 rw [h2, h3]
 exact Int.mul_le_mul_of_nonneg_right (by omega) (by omega)
theorem both_map {l : List (List Int)} {s n : Int} {to : List Int} (h : confs l s n = true) (hs : 1 ≤ s ∧ s ≤ 4) (hl : Short l) (hll : l.length ≤ 1048576) (ht : okTo to n.toNat) :
  i_renamed l to = some (sortL (imgs l to)) ∧ s_prMap l to = some (sortL (imgs l to)) ∧ (sortL (imgs l to)).length ≤ l.length ∧ tot (sortL (imgs l to)) ≤ tot l := by
 have hc := conf_ok h (by omega)
 exact ⟨i_renamed_eq l to n.toNat s.toNat ht hc (by omega) (by omega) (confs_inc h), s_prMap_eq l to n.toNat s.toNat ht hc (by omega) (by omega) (by omega) (confs_inc h), imgs_size hc⟩
/-- Sorted lists, one for one. -/
theorem pair_sortedB : ∀ {l : List Int}, l.Pairwise (fun a b => a ≤ b) → sortedB l = true := by
 intro l h
 unfold sortedB
 rw [range_all]
 intro i hi
 rw [List.pairwise_iff_getElem] at h
 have := h i (i + 1) (by omega) (by omega) (by omega)
 rw [getD_get _ _ (by omega), getD_get _ _ (by omega)]
 simpa using this
/-- What is left is again a list of configurations. -/
theorem keep_conf {l : List (List Int)} {s n m : Int} {to : List Int} (h : confs l s n = true) (hs : 1 ≤ s ∧ s ≤ 4) (ht : okTo to n.toNat) (hm : ∀ x ∈ to, x < m) : confs (sortL (imgs l to)) s m = true := by
 have hc := conf_ok h (by omega)
 unfold confs
 rw [range_all]
 intro i hi
 have hmem : ∀ j, j < (sortL (imgs l to)).length → (sortL (imgs l to)).getD j default ∈ imgs l to := fun j hj => by
  rw [getD_get _ _ hj]; exact (sortL_perm _).mem_iff.1 (List.getElem_mem hj)
 obtain ⟨c, hcl, hno, he⟩ := imgs_mem (hmem i hi)
 have hlen := imgs_len hc (hmem i hi)
 unfold confAt
 simp only [Bool.and_eq_true, Bool.or_eq_true, decide_eq_true_eq]
 refine ⟨⟨⟨by omega, ?_⟩, ?_⟩, ?_⟩
 ·rw [he]; exact pair_sortedB (sortI_pair _)
 ·rw [he]
  unfold allIn
  rw [List.all_eq_true]
  intro x hx
  have hx' : x ∈ img to c := (sortI_perm _).mem_iff.1 hx
  have h1 := img_mem ht (hc c hcl).1 hx'
  have h2 := ht.2.1 x h1
  have h3 := hm x h1
  have h4 : x ≠ -1 := fun e => by
   subst e
   rw [List.contains_iff_mem.2 hx'] at hno
   cases hno
  exact inR_iff.2 ⟨by omega, by omega⟩
 ·by_cases h0 : i = 0
  ·exact .inl h0
  ·right
   have hp := sortL_pairwise (imgs l to)
   rw [List.pairwise_iff_getElem] at hp
   have h1 := hp (i - 1) i (by omega) hi (by omega)
   have hnd := sortL_nodup (imgs_nodup ht hc (confs_inc h))
   rw [List.nodup_iff_pairwise_ne, List.pairwise_iff_getElem] at hnd
   have h2 := hnd (i - 1) i (by omega) hi (by omega)
   rw [getD_get _ _ (by omega), getD_get _ _ hi]
   rw [← cmpD]
   by_cases he0 : Dv.cmpL (sortL (imgs l to))[i - 1] (sortL (imgs l to))[i] = 0
   ·exact absurd (Dv.cmpL_eq _ _ he0) h2
   ·omega

end Go.Proofs.YtdjfaadpmbkcmaaGreat
