/- Ranks of identifiers: program and reference agree. Conditions: none. -/
import Derived.Test.YtjkgcfdcfjkkbaaL6
import Derived.Test.YtjkgcfdcfjkkbaaNmk
import Derived.Test.YtjkgcfdcfjkkbaaFst
import Derived.Test.YtjkgcfdcfjkkbaaCon
import Derived.Test.YtjkgcfdcfjkkbaaRnkA
namespace Go.Proofs.Ytjkgcfdcfjkkbaa
open Go Dv
set_option linter.unusedSimpArgs false
set_option linter.unusedVariables false
set_option maxRecDepth 100000


/-- How many numbers are less, and one. -/
def rk (ids : List Int) (x : Int) : Int := 1 + ((ids.filter fun y => decide (y < x)).length : Int)
theorem index_firstR (l : List Int) (n : Int) (h : l.length < 1099511627776) : g_slices_Index_Sint_int l n = some (match firstIx l.length (fun i => decide (n = l.getD i default)) with | some i => (i : Int) | none => -1) := by
  have key := itO_find (fun v => g_slices_Index_Sint_int_l0_S l n v) (fun i => (i : Int)) l.length (fun i => decide (n = l.getD i default)) (fun i => .inl (i : Int)) (.inr ()) ?_ ?_
  · unfold g_slices_Index_Sint_int g_slices_Index_Sint_int_l0
    rw [Int.natCast_zero] at key
    rw [key]
    cases firstIx l.length (fun i => decide (n = l.getD i default)) <;> rfl
  · intro i hi
    simp only [g_slices_Index_Sint_int_l0_S]
    rw [if_pos (lt_nat hi), ckT (ix_nat hi), Int.toNat_natCast, wrS i (by omega)]
    by_cases e : n = l.getD i default
    · rw [if_pos e, decide_eq_true e, if_pos rfl]
    · rw [if_neg e, decide_eq_false e, if_neg (by decide)]
  · simp only [g_slices_Index_Sint_int_l0_S]; rw [if_neg (not_lt_nat _)]
theorem index_rank (ids : List Int) (x : Int) (hx : x ∈ ids) (h : ids.length < 1099511627776) : g_slices_Index_Sint_int (sortI ids) x = some (rk ids x - 1) := by
  have hp := sortI_perm ids
  have hs := sortI_pair ids
  rw [index_firstR _ _ (by rw [sortI_len]; exact h)]
  obtain ⟨i, hi, he⟩ := List.getElem_of_mem (hp.mem_iff.2 hx)
  cases hf : firstIx (sortI ids).length (fun i => decide (x = (sortI ids).getD i default)) with
  | none =>
    have : (firstIx (sortI ids).length (fun i => decide (x = (sortI ids).getD i default))).isSome = true := firstIx_isSome.2 ⟨i, hi, by rw [getD_get _ _ hi, he]; simp⟩
    rw [hf] at this; cases this
  | some m =>
    obtain ⟨m1, m2⟩ := firstIx_lt hf
    have m3 := firstIx_min hf
    rw [getD_get _ _ m1, decide_eq_true_eq] at m2
    have cnt : ((sortI ids).filter fun y => decide (y < x)).length = m := by
      rw [← List.take_append_drop m (sortI ids), List.filter_append]
      have e1 : ((sortI ids).take m).filter (fun y => decide (y < x)) = (sortI ids).take m := by
        rw [List.filter_eq_self]
        intro y hy
        obtain ⟨j, hj, rfl⟩ := List.mem_take_iff_getElem.1 hy
        have h1 := m3 j (by omega)
        rw [getD_get _ _ (by omega), decide_eq_false_iff_not] at h1
        have h2 := List.pairwise_iff_getElem.1 hs j m (by omega) m1 (by omega)
        rw [decide_eq_true_eq]
        omega
      have e2 : ((sortI ids).drop m).filter (fun y => decide (y < x)) = [] := by
        rw [List.filter_eq_nil_iff]
        intro y hy
        obtain ⟨j, hj, rfl⟩ := List.getElem_of_mem hy
        rw [List.getElem_drop, decide_eq_true_eq]
        have hj' : m + j < (sortI ids).length := by rw [List.length_drop] at hj; omega
        by_cases h0 : j = 0
        · subst h0; simp only [Nat.add_zero]; omega
        · have := List.pairwise_iff_getElem.1 hs m (m + j) m1 hj' (by omega)
          omega
      rw [e1, e2, List.append_nil, List.length_take]
      omega
    have hc := (hp.filter (fun y => decide (y < x))).length_eq
    unfold rk
    simp only
    congr 1
    omega
theorem i_copy_eq (E : List (List (Int × Int))) (ids ins : List Int) (hE : ShortE E) (h2 : ids.length < 1099511627776) (h3 : ins.length < 1099511627776) : i_copyNetwork E ids ins = some (E, ids, ins) := by
  have h1 := hE.1
  have key := itO_for (fun v => i_copyNetwork_l0_S E ids ins v.1 v.2) (fun i => (E.take i ++ List.replicate (E.length - i) [], (i : Int))) E.length E ?_ ?_
  · unfold i_copyNetwork i_copyNetwork_l0
    rw [ckT (by omega), ckT h2, ckT h3]
    simp only [List.take_zero, List.nil_append, Nat.sub_zero, Int.natCast_zero] at key
    rw [key]; rfl
  · intro i hi
    have hx := hE.getD i
    simp only [i_copyNetwork_l0_S]
    rw [if_pos (lt_nat hi), ckT (ix_nat hi), ckT (by rw [Int.toNat_natCast]; omega), ckT (ix_nat (by simp; omega)), getD_nat _ _ hi, Int.toNat_natCast, set_mid E i hi [], wrS i (by omega)]
  · simp only [i_copyNetwork_l0_S]
    rw [if_neg (not_lt_nat _)]; simp
theorem s_own_eq (E : List (List (Int × Int))) (ids ins : List Int) (hE : ShortE E) (h2 : ids.length < 1099511627776) (h3 : ins.length < 1099511627776) : s_neOwn E ids ins = some (E, ids, ins) := by
  have h1 := hE.1
  have key := itO_for (fun v => s_neOwn_l0_S E ids ins v.1 v.2) (fun i => (E.take i, (i : Int))) E.length E ?_ ?_
  · unfold s_neOwn s_neOwn_l0 s_l1Own
    rw [ckT (by omega), ckT (by omega), Option.bind_some, Option.bind_some]
    simp only [List.take_zero, Int.natCast_zero] at key
    rw [key]; rfl
  · intro i hi
    have hx := hE.getD i
    simp only [s_neOwn_l0_S]
    rw [if_pos (lt_nat hi), ckT (ix_nat hi), ckT (by rw [Int.toNat_natCast]; omega), ckT (by rw [List.length_take]; omega), getD_nat _ _ hi, wrS i (by omega), List.take_succ_eq_append_getElem hi]
  · simp only [s_neOwn_l0_S]
    rw [if_neg (not_lt_nat _), List.take_length]
theorem rank_l0 (E : List (List (Int × Int))) (ids ins : List Int) (r7 : (List (List (Int × Int))) × (List Int) × (List Int)) (out : List Int) (h2 : ids.length < 1099511627776) (t : Nat) : s_RankIds_l0 E ids ins r7 out (t : Int) (1, 0) = some (rk ids (ids.getD t default)) := by
  have key := itO_for (fun v => s_RankIds_l0_S E ids ins r7 out (t : Int) v.1 v.2) (fun i => (1 + (((ids.take i).filter fun y => decide (y < ids.getD t default)).length : Int), (i : Int))) ids.length (rk ids (ids.getD t default)) ?_ ?_
  · unfold s_RankIds_l0
    exact key
  · intro i hi
    have hle : ((ids.take i).filter fun y => decide (y < ids.getD t default)).length ≤ i := Nat.le_trans (List.length_filter_le _ _) (by simp; omega)
    simp only [s_RankIds_l0_S]
    rw [if_pos (lt_nat hi), ckT (ix_nat hi), Int.toNat_natCast, Int.toNat_natCast, wrS i (by omega), List.take_succ_eq_append_getElem hi, List.filter_append, getD_get ids i hi]
    by_cases hc : ids[i] < ids.getD t default
    · rw [if_pos hc, wr64 _ (by omega), List.filter_cons_of_pos (by simpa using hc), List.filter_nil, List.length_append, List.length_singleton]
      congr 3
    · rw [if_neg hc, List.filter_cons_of_neg (by simpa using hc), List.filter_nil, List.append_nil]
  · simp only [s_RankIds_l0_S]
    rw [if_neg (not_lt_nat _), List.take_length]; rfl
theorem map_take_succ (f : Int → Int) (ids : List Int) (i : Nat) (h : i < ids.length) : (ids.take i).map f ++ [f ids[i]] = (ids.take (i + 1)).map f := by
  rw [List.take_succ_eq_append_getElem h, List.map_append]; rfl
theorem i_ranks (E : List (List (Int × Int))) (ids ins : List Int) (h2 : ids.length < 1099511627776) : i_RankIds_l0 ids ids (E, ids, ins) (ids, 0) = some (ids.map (rk ids)) := by
  have key := itO_for (fun v => i_RankIds_l0_S ids ids (E, ids, ins) v.1 v.2) (fun i => ((ids.take i).map (rk ids) ++ ids.drop i, (i : Int))) ids.length (ids.map (rk ids)) ?_ ?_
  · unfold i_RankIds_l0
    simp only [List.take_zero, List.map_nil, List.nil_append, List.drop_zero, Int.natCast_zero] at key
    exact key
  · intro i hi
    have hr : (rk ids ids[i] : Int) ≤ 1 + ids.length ∧ 1 ≤ rk ids ids[i] := by
      unfold rk
      have := List.length_filter_le (fun y => decide (y < ids[i])) ids
      omega
    simp only [i_RankIds_l0_S]
    rw [if_pos (lt_nat hi), ckT (ix_nat hi), Int.toNat_natCast, getD_get _ _ hi, sortM_eq, index_rank ids _ (List.getElem_mem hi) h2, Option.bind_some, ckT (by simp; omega), wr64 _ (by omega), Int.sub_add_cancel, set_at _ _ _ _ (by simp; omega) hi, map_take_succ _ _ _ hi, wrS i (by omega)]
  · simp only [i_RankIds_l0_S]
    rw [if_neg (not_lt_nat _)]; simp
theorem s_ranks (E : List (List (Int × Int))) (ids ins : List Int) (h2 : ids.length < 1099511627776) : s_RankIds_l1 E ids ins (E, ids, ins) (ids, 0) = some (ids.map (rk ids)) := by
  have key := itO_for (fun v => s_RankIds_l1_S E ids ins (E, ids, ins) v.1 v.2) (fun i => ((ids.take i).map (rk ids) ++ ids.drop i, (i : Int))) ids.length (ids.map (rk ids)) ?_ ?_
  · unfold s_RankIds_l1
    simp only [List.take_zero, List.map_nil, List.nil_append, List.drop_zero, Int.natCast_zero] at key
    exact key
  · intro i hi
    simp only [s_RankIds_l1_S]
    rw [if_pos (lt_nat hi), ckT (ix_nat hi), rank_l0 E ids ins _ _ h2 i, Option.bind_some, ckT (by simp; omega), Int.toNat_natCast, getD_get _ _ hi, set_at _ _ _ _ (by simp; omega) hi, map_take_succ _ _ _ hi, wrS i (by omega)]
  · simp only [s_RankIds_l1_S]
    rw [if_neg (not_lt_nat _)]; simp
theorem rank_both (E : List (List (Int × Int))) (ids ins : List Int) (hE : ShortE E) (h2 : ids.length < 1099511627776) (h3 : ins.length < 1099511627776) :
    ∃ E' ids' ins' ok, s_RankIds E ids ins = some (E', ids', ins', ok) ∧ i_RankIds E ids ins = some (E', ids', ins', ok) ∧ ShortE E' ∧ tot (fE E') ≤ tot (fE E) ∧ ids'.length ≤ ids.length ∧ ins'.length ≤ ins.length := by
  have ht := tot_nonneg (fE E)
  have z : ShortE [] := ⟨by decide, fun _ h => by cases h⟩
  have z2 : tot (fE []) = 0 := rfl
  unfold s_RankIds i_RankIds
  rw [ckT hE, ckT h2, ckT h3, ckT hE, ckT h2, ckT h3]
  by_cases h : isNet E ids ins = true
  · rw [if_pos h, if_pos h]
    by_cases h0 : (ids.length : Int) = 0
    · rw [if_pos h0, if_pos h0]
      exact ⟨[], [], [], false, rfl, rfl, z, by omega, by simp, by simp⟩
    · rw [if_neg h0, if_neg h0, s_own_eq E ids ins hE h2 h3, i_copy_eq E ids ins hE h2 h3]
      unfold g_slices_Values_Sint_int
      simp only [Option.bind_some]
      rw [ckT h2, i_ranks E ids ins h2, s_ranks E ids ins h2]
      exact ⟨E, ids.map (rk ids), ins, true, rfl, rfl, hE, by omega, by simp, by omega⟩
  · rw [if_neg h, if_neg h]
    exact ⟨[], [], [], false, rfl, rfl, z, by omega, by simp, by simp⟩

end Go.Proofs.Ytjkgcfdcfjkkbaa
