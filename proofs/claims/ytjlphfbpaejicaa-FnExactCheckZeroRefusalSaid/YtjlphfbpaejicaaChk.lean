/- Refusals checked: lists of pairs and of places. Conditions: none. -/
import Derived.Test.YtjlphfbpaejicaaL6
import Derived.Test.YtjlphfbpaejicaaChkA
namespace Go.Proofs.Ytjlphfbpaejicaa
open Go Dv
set_option linter.unusedSimpArgs false
set_option linter.unusedVariables false
set_option maxRecDepth 100000


theorem chkz_both (a d : Int) (ns es ps : List (List Int)) (hn : Short ns) (he : Short es) (hp : Short ps) : ∃ x y, s_CheckZeroRefusal a d ns es ps = some (x, y) ∧ i_CheckZeroRefusal a d ns es ps = some (x, y) := by
  unfold s_CheckZeroRefusal i_CheckZeroRefusal
  rw [ckT hn, ckT he, ckT hn, ckT he]
  by_cases h : isProb a d ns es = true
  · rw [if_pos h, if_pos h]
    obtain ⟨_, _, _, c2⟩ := isProb_cut h
    have hi := confs_inc c2
    have hl := hn.1
    unfold i_isZeroRefusal
    by_cases hq : ps.length = ns.length
    · rw [if_pos (by omega), if_pos (by omega)]
      have k1 : i_isZeroRefusal_l0 a d ns es ps 0 = some (if (List.range ps.length).all (fun i => twoB es (ps.getD i default) (ns.getD i default) (ns.getD i default)) = true then .inr () else .inl ()) := by
        unfold i_isZeroRefusal_l0
        refine itO_all (fun v => i_isZeroRefusal_l0_S a d ns es ps v) (fun i => (i : Int)) ps.length _ (.inl ()) (.inr ()) ?_ ?_
        · intro i hi'
          have hx := hn.getD i
          simp only [i_isZeroRefusal_l0_S]
          rw [if_pos (lt_nat hi'), ckT (ix_nat hi'), Int.toNat_natCast, wrS i (by omega)]
          unfold twoB
          by_cases h2 : (ps.getD i default).length = 2
          · rw [if_pos (by omega), ckT (by omega), ckT (by omega), ckT hx]
            cases (ns.getD i default).contains ((ps.getD i default).getD 0 default) with
            | false => simp
            | true =>
              rw [if_pos rfl, ckT (by omega)]
              cases (ns.getD i default).contains ((ps.getD i default).getD 1 default) with
              | false => simp
              | true =>
                rw [if_pos rfl, ckT he, ckT hi]
                rw [decide_eq_true h2]
                cases hasE es ((ps.getD i default).getD 0 default) ((ps.getD i default).getD 1 default) <;> rfl
          · rw [if_neg (by omega), decide_eq_false h2, Bool.false_and]; rfl
        · simp only [i_isZeroRefusal_l0_S]
          rw [if_neg (not_lt_nat _)]
      have k2 : s_CheckZeroRefusal_l0 a d ns es ps 0 = some (if (List.range ns.length).all (fun i => twoB es (ps.getD i default) (ns.getD i default) (ns.getD i default)) = true then .inr () else .inl ()) := by
        unfold s_CheckZeroRefusal_l0
        refine itO_all (fun v => s_CheckZeroRefusal_l0_S a d ns es ps v) (fun i => (i : Int)) ns.length _ (.inl ()) (.inr ()) ?_ ?_
        · intro i hi'
          have hx := hn.getD i
          simp only [s_CheckZeroRefusal_l0_S]
          rw [if_pos (lt_nat hi'), ckT (ix_nat hi'), ckT (ix_nat (by omega)), Int.toNat_natCast, wrS i (by omega), ckT he, ckT hx]
        · simp only [s_CheckZeroRefusal_l0_S]
          rw [if_neg (not_lt_nat _)]
      rw [k1, k2, hq]
      by_cases hb : (List.range ns.length).all (fun i => twoB es (ps.getD i default) (ns.getD i default) (ns.getD i default)) = true
      · rw [if_pos hb]; exact ⟨_, _, rfl, rfl⟩
      · rw [if_neg hb]; exact ⟨_, _, rfl, rfl⟩
    · rw [if_neg (by omega), if_neg (by omega)]
      exact ⟨_, _, rfl, rfl⟩
  · rw [if_neg h, if_neg h]; exact ⟨_, _, rfl, rfl⟩
end Go.Proofs.Ytjlphfbpaejicaa
