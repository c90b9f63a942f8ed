/- Problems with other labels: program and reference agree. Conditions: none. -/
import Derived.Test.YtdjfaadpmbkcmaaL6
import Derived.Test.YtdjfaadpmbkcmaaKmA
import Derived.Test.YtdjfaadpmbkcmaaRn
namespace Go.Proofs.Ytdjfaadpmbkcmaa
open Go Dv
set_option linter.unusedSimpArgs false
set_option linter.unusedVariables false
set_option maxRecDepth 100000


theorem conf_ok {l : List (List Int)} {s n : Int} (h : confs l s n = true) (hs : 0 ≤ s) : okC l n.toNat s.toNat := fun c hc => by
 obtain ⟨h1, h2, h3⟩ := confs_at h hc
 refine ⟨fun a ha => ?_, h2, by omega⟩
 have := inR_iff.1 (List.all_eq_true.1 h3 a ha)
 omega
theorem tot_same (n : Nat) : ∀ (l : List (List Int)), (∀ v ∈ l, v.length = n) → tot l = (l.length : Int) * n := by
 intro l
 induction l with
 | nil => intro _; simp [tot_nil]
 | cons x l ih =>
  intro h
  rw [tot_cons, ih (fun v hv => h v (by simp [hv])), h x (by simp), List.length_cons]
  have : ((l.length + 1 : Nat) : Int) = (l.length : Int) + 1 := by omega
  rw [this, Int.add_mul]; omega
/-- The lists that come out are no longer than those that go in. -/
theorem imgs_size {l : List (List Int)} {to : List Int} {n s : Nat} (hl : okC l n s) : (sortL (imgs l to)).length ≤ l.length ∧ tot (sortL (imgs l to)) ≤ tot l := by
 have h1 := imgs_length_le l to
 have h2 := tot_same s l (fun c hc => (hl c hc).2.2)
 have h3 := tot_same s (sortL (imgs l to)) (fun c hc => imgs_len hl ((sortL_perm _).mem_iff.1 hc))
 rw [sortL_length] at h3 ⊢
 refine ⟨h1, ?_⟩
 rw [h2, h3]
 exact Int.mul_le_mul_of_nonneg_right (by omega) (by omega)
theorem both_map {l : List (List Int)} {s n : Int} {to : List Int} (h : confs l s n = true) (hs : 1 ≤ s ∧ s ≤ 4) (hl : Short l) (hll : l.length ≤ 1048576) (ht : okTo to n.toNat) :
  i_renamed l to = some (sortL (imgs l to)) ∧ s_prMap l to = some (sortL (imgs l to)) ∧ (sortL (imgs l to)).length ≤ l.length ∧ tot (sortL (imgs l to)) ≤ tot l := by
 have hc := conf_ok h (by omega)
 exact ⟨i_renamed_eq l to n.toNat s.toNat ht hc (by omega) (by omega) (confs_inc h), s_prMap_eq l to n.toNat s.toNat ht hc (by omega) (by omega) (by omega) (confs_inc h), imgs_size hc⟩
end Go.Proofs.Ytdjfaadpmbkcmaa
