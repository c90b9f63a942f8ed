/- Runs: program and reference agree. Conditions: none. -/
import Derived.Test.YtjkgcfdcfjkkbaaGreatL6
import Derived.Test.YtjkgcfdcfjkkbaaGreatVxA
import Derived.Test.YtjkgcfdcfjkkbaaGreatVq
import Derived.Test.YtjkgcfdcfjkkbaaGreatHas
namespace Go.Proofs.YtjkgcfdcfjkkbaaGreat
open Go Dv
set_option linter.unusedSimpArgs false
set_option linter.unusedVariables false
set_option maxRecDepth 100000


theorem run_loop {E : List (List (Int × Int))} {ids ins : List Int} (h : isNet E ids ins = true) (prog : List (Int × Int)) (hp : progB prog = true) (rounds : Int) (hm : 0 ≤ rounds ∧ rounds ≤ 40) :
  ∀ (n k : Nat) (out : List (List Int)), (n : Int) + k = rounds → out.length = k + 1 → (∀ v ∈ out, v.length = E.length ∧ ∀ x ∈ v, -1000000 ≤ x ∧ x ≤ 1000000) →
  ∃ r, i_RunValues_l0 prog E ids ins rounds (out, (k : Int)) = some r ∧ s_RunValues_l0 prog E ids ins rounds (out, ((k + 1 : Nat) : Int)) = some r ∧ r.length ≤ 41 ∧ ∀ v ∈ r, v.length = E.length := by
 intro n
 induction n with
 | zero =>
  intro k out hk hl hr
  refine ⟨out, ?_, ?_, by omega, fun v hv => (hr v hv).1⟩
  ·unfold i_RunValues_l0
   refine itO_inr ?_
   simp only [i_RunValues_l0_S]
   rw [if_neg (by omega)]
  ·unfold s_RunValues_l0
   refine itO_inr ?_
   simp only [s_RunValues_l0_S]
   rw [if_neg (by omega)]
 | succ n ih =>
  intro k out hk hl hr
  have hkl : k < out.length := by omega
  have hg : out.getD k default = out[k] := by rw [List.getD_eq_getElem?_getD, List.getElem?_eq_getElem hkl]; rfl
  have hv := hr out[k] (List.getElem_mem hkl)
  obtain ⟨y, o1, o2, o3, o4⟩ := step_both h prog hp ((k + 1 : Nat) : Int) out[k] hv.1 hv.2
  obtain ⟨r, r1, r2, r3⟩ := ih (k + 1) (out ++ [y]) (by omega) (by simp [hl]) (fun v hv => by
   rcases List.mem_append.1 hv with hv | hv
   ·exact hr v hv
   ·have := List.mem_singleton.1 hv; subst this; exact ⟨o3, o4⟩)
  refine ⟨r, ?_, ?_, r3⟩
  ·unfold i_RunValues_l0 at r1 ⊢
   rw [itO_inl (s' := (out ++ [y], ((k + 1 : Nat) : Int)))]
   ·exact r1
   ·simp only [i_RunValues_l0_S, Int.toNat_natCast]
    rw [if_pos (by omega), ckT (by omega), wrS k (by omega), hg, o1, Option.bind_some, ckT (by omega)]
  ·unfold s_RunValues_l0 at r2 ⊢
   rw [itO_inl (s' := (out ++ [y], ((k + 1 + 1 : Nat) : Int)))]
   ·exact r2
   ·have hw : IntKind.i64.wrap (((k + 1 : Nat) : Int) - 1) = (k : Int) := by rw [wr64 _ (by omega)]; omega
    simp only [s_RunValues_l0_S, hw, Int.toNat_natCast]
    rw [if_pos (by omega), ckT (by omega), hg, o2, Option.bind_some, ckT (by omega), wrS (k + 1) (by omega)]
theorem tot_le (n : Nat) : ∀ (l : List (List Int)), (∀ v ∈ l, v.length = n) → tot l = (l.length : Int) * n := by
 intro l
 induction l with
 | nil => intro _; simp [tot_nil]
 | cons x l ih =>
  intro h
  rw [tot_cons, ih (fun v hv => h v (by simp [hv])), h x (by simp), List.length_cons]
  have : ((l.length + 1 : Nat) : Int) = (l.length : Int) + 1 := by omega
  rw [this, Int.add_mul]; omega
theorem run_both (prog : List (Int × Int)) (E : List (List (Int × Int))) (ids ins start : List Int) (rounds : Int) (hE : ShortE E) (h2 : ids.length < 1099511627776) (h3 : ins.length < 1099511627776) (h4 : start.length ≤ 1048576) :
  ∃ x ok, s_RunValues prog E ids ins start rounds = some (x, ok) ∧ i_RunValues prog E ids ins start rounds = some (x, ok) ∧ x.length ≤ 41 ∧ tot x ≤ 41 * 1048576 := by
 have h4' : start.length < 1099511627776 := by omega
 obtain ⟨e1, e2⟩ := vok_both prog E ids ins start hE h2 h3 h4'
 unfold s_RunValues i_RunValues s_l1Own
 simp only [e1, e2, Option.bind_some]
 by_cases h : vokB prog E ids ins start = true
 ·rw [if_pos h, if_pos h]
  by_cases hm : inR rounds 0 40 = true
  ·have hm' := inR_iff.1 hm
   obtain ⟨p1, p2, p3, p4⟩ := vok_parts h
   obtain ⟨r, r1, r2, r3, r4⟩ := run_loop p2 prog p1 rounds hm' rounds.toNat 0 [start] (by omega) (by simp) (fun v hv => by have := List.mem_singleton.1 hv; subst this; exact ⟨p3, p4⟩)
   rw [Int.natCast_zero] at r1
   rw [show ((0 + 1 : Nat) : Int) = 1 from rfl] at r2
   rw [if_pos hm, if_pos hm, ckT (by omega), ckT h4', Option.bind_some, r1, r2]
   refine ⟨r, true, rfl, rfl, r3, ?_⟩
   rw [tot_le _ r r4]
   exact Int.mul_le_mul (by omega) (by omega) (by omega) (by omega)
  ·rw [if_neg hm, if_neg hm]; exact ⟨[], false, rfl, rfl, by simp, by simp [tot_nil]⟩
 ·rw [if_neg h, if_neg h]; exact ⟨[], false, rfl, rfl, by simp, by simp [tot_nil]⟩

end Go.Proofs.YtjkgcfdcfjkkbaaGreat
