/- Values after a run, and runs: program and reference agree. Conditions: none. -/
import Derived.Test.YtjkgcfdcfjkkbaaGreatL6
import Derived.Test.YtjkgcfdcfjkkbaaGreatVwA
import Derived.Test.YtjkgcfdcfjkkbaaGreatVq
import Derived.Test.YtjkgcfdcfjkkbaaGreatHas
namespace Go.Proofs.YtjkgcfdcfjkkbaaGreat
open Go Dv
set_option linter.unusedSimpArgs false
set_option linter.unusedVariables false
set_option maxRecDepth 100000


theorem after_loop {E : List (List (Int × Int))} {ids ins : List Int} (h : isNet E ids ins = true) (prog : List (Int × Int)) (hp : progB prog = true) (rounds : Int) (hm : 0 ≤ rounds ∧ rounds ≤ 2000) :
  ∀ (n k : Nat) (values : List Int), (n : Int) + k = rounds → values.length = E.length → (∀ x ∈ values, -1000000 ≤ x ∧ x ≤ 1000000) →
  ∃ r, i_ValuesAfter_l0 prog E ids ins rounds (values, (k : Int)) = some r ∧ s_vaAfter_l0 prog E ids ins rounds (values, ((k + 1 : Nat) : Int)) = some r ∧ r.length = E.length := by
 have hlen := net_len h
 intro n
 induction n with
 | zero =>
  intro k values hk hq hr
  refine ⟨values, ?_, ?_, hq⟩
  ·unfold i_ValuesAfter_l0
   refine itO_inr ?_
   simp only [i_ValuesAfter_l0_S]
   rw [if_neg (by omega)]
  ·unfold s_vaAfter_l0
   refine itO_inr ?_
   simp only [s_vaAfter_l0_S]
   rw [if_neg (by omega)]
 | succ n ih =>
  intro k values hk hq hr
  obtain ⟨out, o1, o2, o3, o4⟩ := step_both h prog hp ((k + 1 : Nat) : Int) values hq hr
  obtain ⟨r, r1, r2, r3⟩ := ih (k + 1) out (by omega) o3 o4
  refine ⟨r, ?_, ?_, r3⟩
  ·unfold i_ValuesAfter_l0 at r1 ⊢
   rw [itO_inl (s' := (out, ((k + 1 : Nat) : Int)))]
   ·exact r1
   ·simp only [i_ValuesAfter_l0_S]
    rw [if_pos (by omega), wrS k (by omega), o1, Option.bind_some]
  ·unfold s_vaAfter_l0 at r2 ⊢
   rw [itO_inl (s' := (out, ((k + 1 + 1 : Nat) : Int)))]
   ·exact r2
   ·simp only [s_vaAfter_l0_S]
    rw [if_pos (by omega), o2, Option.bind_some, wrS (k + 1) (by omega)]
theorem after_both (prog : List (Int × Int)) (E : List (List (Int × Int))) (ids ins start : List Int) (rounds : Int) (hE : ShortE E) (h2 : ids.length < 1099511627776) (h3 : ins.length < 1099511627776) (h4 : start.length ≤ 1048576) :
  ∃ x ok, s_ValuesAfter prog E ids ins start rounds = some (x, ok) ∧ i_ValuesAfter prog E ids ins start rounds = some (x, ok) ∧ x.length ≤ 1048576 := by
 have h4' : start.length < 1099511627776 := by omega
 obtain ⟨e1, e2⟩ := vok_both prog E ids ins start hE h2 h3 h4'
 unfold s_ValuesAfter i_ValuesAfter s_maLong s_vaAfter s_l1Own
 simp only [e1, e2, Option.bind_some]
 by_cases h : vokB prog E ids ins start = true
 ·rw [if_pos h, if_pos h]
  by_cases hm : inR rounds 0 2000 = true
  ·have hm' := inR_iff.1 hm
   obtain ⟨p1, p2, p3, p4⟩ := vok_parts h
   obtain ⟨r, r1, r2, r3⟩ := after_loop p2 prog p1 rounds hm' rounds.toNat 0 start (by omega) p3 p4
   rw [Int.natCast_zero] at r1
   rw [show ((0 + 1 : Nat) : Int) = 1 from rfl] at r2
   rw [if_pos hm, if_pos hm, ckT (by omega), ckT h4', Option.bind_some, r1, r2]
   exact ⟨r, true, rfl, rfl, by omega⟩
  ·rw [if_neg hm, if_neg hm]; exact ⟨[], false, rfl, rfl, by simp⟩
 ·rw [if_neg h, if_neg h]; exact ⟨[], false, rfl, rfl, by simp⟩

end Go.Proofs.YtjkgcfdcfjkkbaaGreat
