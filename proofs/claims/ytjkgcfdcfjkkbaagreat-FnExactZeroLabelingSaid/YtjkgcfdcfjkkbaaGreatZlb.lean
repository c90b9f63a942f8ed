/- Labelings without rounds: program and reference agree. Conditions: none. -/
import Derived.Test.YtjkgcfdcfjkkbaaGreatL6
import Derived.Test.YtjkgcfdcfjkkbaaGreatZla
namespace Go.Proofs.YtjkgcfdcfjkkbaaGreat
open Go Dv
set_option linter.unusedSimpArgs false
set_option linter.unusedVariables false
set_option maxRecDepth 100000


/-- The labels of a node with some ports. -/
def rowZ (c : List Int) (p : Nat) : List Int := if p = c.length then c else List.replicate p (c.getD 0 default)
theorem rowZ_len (c : List Int) (p : Nat) : (rowZ c p).length = p := by
  unfold rowZ
  split
  · rename_i h; exact h.symm
  · simp
theorem i_labelsFor_eq (c : List Int) (p : Nat) (h1 : 1 ≤ c.length) (h2 : c.length ≤ 4) (hp : p < 1099511627776) : i_labelsFor c (p : Int) = some (rowZ c p) := by
  unfold i_labelsFor rowZ
  by_cases h : p = c.length
  · rw [if_pos (by omega), if_pos h, ckT (by omega)]
  · rw [if_neg (by omega), if_neg h, ckT h1]
    rcases c with _ | ⟨x, c⟩
    · simp at h1
    · rw [show ((x :: c).take 1).drop 0 = [x] from rfl, repI_one x (p : Int) (by omega)]
      simp
theorem s_zeRow_eq (a d : Int) (ns es : List (List Int)) (c : List Int) (p : Nat) (h1 : 1 ≤ c.length) (h2 : c.length ≤ 4) (hd : (c.length : Int) = d) (hp : p < 1099511627776) : s_zeRow a d ns es c (p : Int) = some (rowZ c p) := by
  unfold s_zeRow rowZ
  by_cases h : p = c.length
  · rw [if_pos (by omega), if_pos h]
    unfold s_l1Own
    rw [ckT (by omega)]; rfl
  · rw [if_neg (by omega), if_neg h, ckT (by omega)]
    have key := itO_fill (fun v => s_zeRow_l0_S c (p : Int) v.1 v.2) (List.replicate p (0 : Int)) (fun _ => c.getD 0 default) (0 : Int) ?_ ?_
    · rw [List.length_replicate, List.map_replicate] at key
      unfold s_zeRow_l0
      rw [Int.toNat_natCast, key]; rfl
    · intro i hi out ho
      rw [List.length_replicate] at hi ho
      simp only [s_zeRow_l0_S, Int.toNat_natCast, List.length_replicate]
      rw [if_pos (lt_nat hi), ckT (by omega), ckT (by omega), wrS i (by omega)]
    · intro out ho
      simp only [s_zeRow_l0_S, Int.toNat_natCast, List.length_replicate]
      rw [if_neg (not_lt_nat _)]
theorem tot_six : ∀ {l : List (List Int)}, (∀ x ∈ l, x.length ≤ 6) → tot l ≤ 6 * l.length := by
  intro l
  induction l with
  | nil => intro _; rw [tot_nil]; simp
  | cons x l ih =>
    intro h
    have h1 := ih (fun y hy => h y (List.mem_cons_of_mem _ hy))
    have h2 := h x List.mem_cons_self
    rw [tot_cons, List.length_cons]
    omega
theorem zl_both (a d : Int) (ns es : List (List Int)) (E : List (List (Int × Int))) (ids ins : List Int) (hn : Short ns) (he : Short es) (hE : ShortE E) (h2 : ids.length < 1099511627776) (h3 : ins.length < 1099511627776) :
    ∃ r ok, s_ZeroLabeling a d ns es E ids ins = some (r, ok) ∧ i_ZeroLabeling a d ns es E ids ins = some (r, ok) ∧ Short r ∧ tot r ≤ 240 := by
  have h1 := hE.1
  obtain ⟨c, ok, hS, hI, hc, hok⟩ := zero_both a d ns es hn he
  unfold s_ZeroLabeling i_ZeroLabeling
  rw [hS, hI, Option.bind_some, Option.bind_some]
  cases ok with
  | false => exact ⟨_, _, rfl, rfl, Short.nil, by rw [tot_nil]; omega⟩
  | true =>
    obtain ⟨hd, hc1⟩ := hok rfl
    simp only [if_true]
    rw [ckT hE, ckT h2, ckT h3, ckT hE, ckT h2, ckT h3]
    by_cases hw : isNet E ids ins = true
    · rw [if_pos hw, if_pos hw]
      have k1 : i_ZeroLabeling_l0 E (c, true) ([], 0) = some (E.map fun e => rowZ c e.length) := by
        unfold i_ZeroLabeling_l0
        refine itO_push (fun v => i_ZeroLabeling_l0_S E (c, true) v.1 v.2) E (fun e => rowZ c e.length) ?_ ?_
        · intro i hi out ho
          have hx := hE.at i hi
          simp only [i_ZeroLabeling_l0_S]
          rw [if_pos (lt_nat hi), ckT (ix_nat hi), Int.toNat_natCast, getD_get _ _ hi, i_labelsFor_eq c _ hc1 hc (by omega), Option.bind_some, ckT (by omega), wrS i (by omega)]
        · intro out ho
          simp only [i_ZeroLabeling_l0_S]
          rw [if_neg (not_lt_nat _)]
      have k2 : s_ZeroLabeling_l0 a d ns es E (c, true) ([], 0) = some (E.map fun e => rowZ c e.length) := by
        unfold s_ZeroLabeling_l0
        refine itO_push (fun v => s_ZeroLabeling_l0_S a d ns es E (c, true) v.1 v.2) E (fun e => rowZ c e.length) ?_ ?_
        · intro i hi out ho
          have hx := hE.at i hi
          simp only [s_ZeroLabeling_l0_S]
          rw [if_pos (lt_nat hi), ckT (ix_nat hi), Int.toNat_natCast, getD_get _ _ hi, s_zeRow_eq a d ns es c _ hc1 hc hd (by omega), Option.bind_some, ckT (by omega), wrS i (by omega)]
        · intro out ho
          simp only [s_ZeroLabeling_l0_S]
          rw [if_neg (not_lt_nat _)]
      rw [k1, k2]
      have hw' := hw
      unfold isNet at hw'
      simp only [Bool.and_eq_true] at hw'
      obtain ⟨w1, _, _, _, w5⟩ := hw'
      have w1' := inR_iff.1 w1
      have six : ∀ x ∈ (E.map fun e => rowZ c e.length), x.length ≤ 6 := by
        intro x hx
        obtain ⟨e, he', rfl⟩ := List.mem_map.1 hx
        obtain ⟨v, hv, rfl⟩ := List.getElem_of_mem he'
        have := range_all.1 w5 v hv
        rw [nodeB_def, Bool.and_eq_true, decide_eq_true_eq, getD_get _ _ hv] at this
        rw [rowZ_len]
        exact this.1
      have ht := tot_six six
      rw [List.length_map] at ht
      exact ⟨_, _, rfl, rfl, ⟨by rw [List.length_map]; exact h1, fun x hx => by have := six x hx; omega⟩, by omega⟩
    · rw [if_neg hw, if_neg hw]
      exact ⟨_, _, rfl, rfl, Short.nil, by rw [tot_nil]; omega⟩

end Go.Proofs.YtjkgcfdcfjkkbaaGreat
