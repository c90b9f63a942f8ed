/- Partial labelings, as plain functions: program and reference agree. Conditions: none. -/
import Derived.Test.YtjkgcfdcfjkkbaaL6
import Derived.Test.YtjkgcfdcfjkkbaaIptA
namespace Go.Proofs.Ytjkgcfdcfjkkbaa
open Go Dv
set_option linter.unusedSimpArgs false
set_option linter.unusedVariables false
set_option maxRecDepth 100000


/-- A sorted list has all numbers of another one. -/
def inclL : List Int → List Int → Bool
  | _, [] => true
  | r, a :: l =>
    match r.dropWhile (fun b => decide (b < a)) with
    | [] => false
    | b :: r' => if b = a then inclL r' l else false
theorem skip_eq (f : Int → Option (Int ⊕ Int)) (c : List Int) (a : Int)
    (hf : ∀ k : Nat, k ≤ c.length → f (k : Int) = if k < c.length then (if c.getD k default < a then some (.inl ((k + 1 : Nat) : Int)) else some (.inr (k : Int))) else some (.inr (k : Int))) :
    ∀ (n k : Nat), n = c.length - k → k ≤ c.length → ∃ m : Nat, itO f (k : Int) = some (m : Int) ∧ m ≤ c.length ∧ c.drop m = (c.drop k).dropWhile (fun b => decide (b < a)) := by
  intro n
  induction n with
  | zero =>
    intro k hn hk
    have : k = c.length := by omega
    subst this
    refine ⟨c.length, itO_inr ?_, Nat.le_refl _, by simp⟩
    rw [hf _ (Nat.le_refl _), if_neg (by omega)]
  | succ n ih =>
    intro k hn hk
    have hlt : k < c.length := by omega
    have h1 := hf k hk
    rw [if_pos hlt, getD_get _ _ hlt] at h1
    rw [List.drop_eq_getElem_cons hlt]
    by_cases hc : c[k] < a
    · rw [if_pos hc] at h1
      obtain ⟨m, e1, e2, e3⟩ := ih (k + 1) (by omega) (by omega)
      refine ⟨m, by rw [itO_inl h1]; exact e1, e2, ?_⟩
      rw [List.dropWhile_cons, if_pos (by simpa using hc)]; exact e3
    · rw [if_neg hc] at h1
      refine ⟨k, itO_inr h1, hk, ?_⟩
      rw [List.dropWhile_cons, if_neg (by simpa using hc), List.drop_eq_getElem_cons hlt]
theorem i_incl (c l : List Int) (hc : c.length < 1099511627776) (hl : l.length < 1099511627776) : ∀ (n t k : Nat), n = l.length - t → t ≤ l.length → k ≤ c.length →
    i_includes_l1 c l ((k : Int), (t : Int)) = some (if inclL (c.drop k) (l.drop t) = true then .inr () else .inl ()) := by
  intro n
  induction n with
  | zero =>
    intro t k hn ht hk
    have : t = l.length := by omega
    subst this
    unfold i_includes_l1
    rw [itO_inr (r := Sum.inr ())]
    · rw [List.drop_length]; unfold inclL; rfl
    · simp only [i_includes_l1_S]
      rw [if_neg (not_lt_nat _)]
  | succ n ih =>
    intro t k hn ht hk
    have hlt : t < l.length := by omega
    obtain ⟨m, e1, e2, e3⟩ := skip_eq (fun v => i_includes_l0_S c l (t : Int) v) c l[t] (fun j hj => by
      simp only [i_includes_l0_S]
      by_cases hjl : j < c.length
      · rw [if_pos (lt_nat hjl), if_pos hjl, ckT (ix_nat hjl), wrS j (by omega), Int.toNat_natCast, Int.toNat_natCast, getD_get l _ hlt]
      · rw [if_neg (by omega), if_neg hjl]) (c.length - k) k rfl hk
    have step : i_includes_l1_S c l (k : Int) (t : Int) = if m < c.length ∧ c.getD m default = l[t] then some (.inl (((m + 1 : Nat) : Int), ((t + 1 : Nat) : Int))) else some (.inr (.inl ())) := by
      simp only [i_includes_l1_S]
      unfold i_includes_l0
      rw [if_pos (lt_nat hlt), ckT (ix_nat hlt), e1, Option.bind_some]
      by_cases hm : m = c.length
      · rw [if_pos (by omega), if_neg (by omega)]
      · rw [if_neg (by omega), ckT (by omega), Int.toNat_natCast, Int.toNat_natCast, getD_get l _ hlt, wrS m (by omega), wrS t (by omega)]
        by_cases he : c.getD m default = l[t]
        · rw [if_pos he, if_pos ⟨by omega, he⟩]
        · rw [if_neg he, if_neg (fun h => he h.2)]
    rw [List.drop_eq_getElem_cons hlt]
    unfold inclL
    rw [← e3]
    unfold i_includes_l1 at ih ⊢
    by_cases hm : m < c.length
    · rw [List.drop_eq_getElem_cons hm]
      rw [getD_get _ _ hm] at step
      by_cases he : c[m] = l[t]
      · rw [if_pos ⟨hm, he⟩] at step
        rw [itO_inl step, ih (t + 1) (m + 1) (by omega) (by omega) (by omega)]
        simp only [he, if_true]
      · rw [if_neg (fun h => he h.2)] at step
        rw [itO_inr step]
        simp only [he, if_false]; rfl
    · rw [if_neg (fun h => hm h.1)] at step
      rw [itO_inr step, List.drop_eq_nil_of_le (by omega)]; rfl
theorem i_includes_eq (c l : List Int) (hc : c.length < 1099511627776) (hl : l.length < 1099511627776) : i_includes c l = some (inclL c l) := by
  have := i_incl c l hc hl l.length 0 0 rfl (Nat.zero_le _) (Nat.zero_le _)
  rw [Int.natCast_zero, List.drop_zero, List.drop_zero] at this
  unfold i_includes
  rw [this]
  cases inclL c l <;> rfl
theorem s_incl (c l : List Int) (hc : c.length < 1099511627776) (hl : l.length < 1099511627776) : ∀ (n t k : Nat), n = (sortI l).length - t → t ≤ (sortI l).length → k ≤ c.length →
    s_soInside_l1 c l ((k : Int), (t : Int)) = some (if inclL (c.drop k) (((sortI l).drop t).filter (fun a => decide (0 ≤ a))) = true then .inr () else .inl ()) := by
  have hs := sortI_len l
  intro n
  induction n with
  | zero =>
    intro t k hn ht hk
    have : t = (sortI l).length := by omega
    subst this
    unfold s_soInside_l1
    rw [itO_inr (r := Sum.inr ())]
    · rw [List.drop_length]; simp only [List.filter_nil]; unfold inclL; rfl
    · simp only [s_soInside_l1_S]
      rw [if_neg (not_lt_nat _)]
  | succ n ih =>
    intro t k hn ht hk
    have hlt : t < (sortI l).length := by omega
    rw [List.drop_eq_getElem_cons hlt]
    by_cases hneg : (sortI l)[t] < 0
    · have step : s_soInside_l1_S c l (k : Int) (t : Int) = some (.inl ((k : Int), ((t + 1 : Nat) : Int))) := by
        simp only [s_soInside_l1_S]
        rw [if_pos (lt_nat hlt), ckT (ix_nat hlt), Int.toNat_natCast, getD_get _ _ hlt, if_pos hneg, wrS t (by omega)]
      rw [List.filter_cons_of_neg (by simpa using hneg)]
      unfold s_soInside_l1 at ih ⊢
      rw [itO_inl step]
      exact ih (t + 1) k (by omega) (by omega) hk
    · obtain ⟨m, e1, e2, e3⟩ := skip_eq (fun v => s_soInside_l0_S c l (t : Int) v) c (sortI l)[t] (fun j hj => by
        simp only [s_soInside_l0_S]
        by_cases hjl : j < c.length
        · rw [if_pos (lt_nat hjl), if_pos hjl, ckT (ix_nat hjl), wrS j (by omega), Int.toNat_natCast, Int.toNat_natCast, getD_get (sortI l) _ hlt]
        · rw [if_neg (by omega), if_neg hjl]) (c.length - k) k rfl hk
      have step : s_soInside_l1_S c l (k : Int) (t : Int) = if m < c.length ∧ c.getD m default = (sortI l)[t] then some (.inl (((m + 1 : Nat) : Int), ((t + 1 : Nat) : Int))) else some (.inr (.inl ())) := by
        simp only [s_soInside_l1_S]
        unfold s_soInside_l0
        rw [if_pos (lt_nat hlt), ckT (ix_nat hlt), e1, Option.bind_some, Int.toNat_natCast, getD_get (sortI l) _ hlt, if_neg hneg]
        by_cases hm : m = c.length
        · rw [if_pos (by omega), if_neg (by omega)]
        · rw [if_neg (by omega), ckT (by omega), Int.toNat_natCast, wrS m (by omega), wrS t (by omega)]
          by_cases he : c.getD m default = (sortI l)[t]
          · rw [if_pos he, if_pos ⟨by omega, he⟩]
          · rw [if_neg he, if_neg (fun h => he h.2)]
      rw [List.filter_cons_of_pos (by simp; omega)]
      unfold inclL
      rw [← e3]
      unfold s_soInside_l1 at ih ⊢
      by_cases hm : m < c.length
      · rw [List.drop_eq_getElem_cons hm]
        rw [getD_get _ _ hm] at step
        by_cases he : c[m] = (sortI l)[t]
        · rw [if_pos ⟨hm, he⟩] at step
          rw [itO_inl step, ih (t + 1) (m + 1) (by omega) (by omega) (by omega)]
          simp only [he, if_true]
        · rw [if_neg (fun h => he h.2)] at step
          rw [itO_inr step]
          simp only [he, if_false]; rfl
      · rw [if_neg (fun h => hm h.1)] at step
        rw [itO_inr step, List.drop_eq_nil_of_le (by omega)]; rfl
theorem s_soInside_eq (c l : List Int) (hc : c.length < 1099511627776) (hl : l.length < 1099511627776) : s_soInside c l = some (inclL c ((sortI l).filter (fun a => decide (0 ≤ a)))) := by
  have := s_incl c l hc hl (sortI l).length 0 0 rfl (Nat.zero_le _) (Nat.zero_le _)
  rw [Int.natCast_zero, List.drop_zero, List.drop_zero] at this
  unfold s_soInside
  rw [ckT hl, this]
  cases inclL c ((sortI l).filter (fun a => decide (0 ≤ a))) <;> rfl
theorem sortI_filter (l : List Int) (p : Int → Bool) : sortI (l.filter p) = (sortI l).filter p :=
  List.Perm.eq_of_pairwise (le := fun a b : Int => a ≤ b) (fun a b _ _ h1 h2 => Int.le_antisymm h1 h2) (sortI_pair _) ((sortI_pair l).filter p) ((sortI_perm _).trans ((sortI_perm l).filter p).symm)
theorem containsL_eq (l : List (List Int)) (f : List Int → Option Bool) (p : List Int → Bool) (h : l.length < 1099511627776) (hf : ∀ x ∈ l, f x = some (p x)) : g_slices_ContainsFunc_SSint_Sint l f = some (l.any p) := by
  have key := itO_find (fun v => g_slices_IndexFunc_SSint_Sint_l0_S l f v) (fun i => (i : Int)) l.length (fun i => p (l.getD i default)) (fun i => .inl (i : Int)) (.inr ()) ?_ ?_
  · rw [Int.natCast_zero] at key
    unfold g_slices_ContainsFunc_SSint_Sint g_slices_IndexFunc_SSint_Sint g_slices_IndexFunc_SSint_Sint_l0
    rw [key]
    cases hq : firstIx l.length (fun i => p (l.getD i default)) with
    | none =>
      have : l.any p = false := by
        rw [Bool.eq_false_iff]
        intro hc
        obtain ⟨x, hx, hpx⟩ := List.any_eq_true.1 hc
        obtain ⟨i, hi, rfl⟩ := List.getElem_of_mem hx
        have : (firstIx l.length (fun i => p (l.getD i default))).isSome = true := firstIx_isSome.2 ⟨i, hi, by rw [getD_get _ _ hi]; exact hpx⟩
        rw [hq] at this; cases this
      rw [this]; rfl
    | some m =>
      obtain ⟨m1, m2⟩ := firstIx_lt hq
      have : l.any p = true := List.any_eq_true.2 ⟨_, List.getElem_mem m1, by rw [← getD_get _ _ m1]; exact m2⟩
      rw [this]
      simp only [Option.bind_some]
      rw [decide_eq_true (by omega)]
  · intro i hi
    simp only [g_slices_IndexFunc_SSint_Sint_l0_S]
    rw [if_pos (lt_nat hi), ckT (ix_nat hi), Int.toNat_natCast, hf _ (by rw [getD_get _ _ hi]; exact List.getElem_mem hi), Option.bind_some, wrS i (by omega)]
  · simp only [g_slices_IndexFunc_SSint_Sint_l0_S]
    rw [if_neg (not_lt_nat _)]
/-- The labels of a node fit a configuration. -/
def nodeP (ns : List (List Int)) (d : Int) (row : List Int) : Bool := !decide ((row.length : Int) = d) || ns.any fun c => inclL c ((sortI row).filter (fun a => decide (0 ≤ a)))
theorem i_nodeHolds_eq (a d : Int) (ns es l : List (List Int)) (hn : Short ns) (hl : Short l) (v : Nat) (hv : v < l.length) : i_nodeHolds a d ns es l (v : Int) = some (nodeP ns d (l.getD v default)) := by
  have hr := hl.getD v
  have k0 : i_nodeHolds_l0 a d ns es l (v : Int) ([], 0) = some ((l.getD v default).filter (fun a => decide (0 ≤ a))) := by
    have key := itO_for (fun x => i_nodeHolds_l0_S a d ns es l (v : Int) x.1 x.2) (fun i => (((l.getD v default).take i).filter (fun a => decide (0 ≤ a)), (i : Int))) (l.getD v default).length ((l.getD v default).filter (fun a => decide (0 ≤ a))) ?_ ?_
    · unfold i_nodeHolds_l0
      exact key
    · intro i hi
      have hle : (((l.getD v default).take i).filter (fun a => decide (0 ≤ a))).length ≤ i := Nat.le_trans (List.length_filter_le _ _) (by simp; omega)
      simp only [i_nodeHolds_l0_S, Int.toNat_natCast]
      rw [if_pos (lt_nat hi), ckT (by omega), wrS i (by omega), List.take_succ_eq_append_getElem hi, List.filter_append, getD_get (l.getD v default) i hi]
      by_cases hp : 0 ≤ (l.getD v default)[i]
      · rw [if_pos hp, ckT (by omega), List.filter_cons_of_pos (by simpa using hp)]; rfl
      · rw [if_neg hp, List.filter_cons_of_neg (by simpa using hp), List.filter_nil, List.append_nil]
    · simp only [i_nodeHolds_l0_S, Int.toNat_natCast]
      rw [if_neg (not_lt_nat _), List.take_length]
  have hf : ((l.getD v default).filter (fun a => decide (0 ≤ a))).length ≤ (l.getD v default).length := List.length_filter_le _ _
  unfold i_nodeHolds nodeP
  rw [ckT (ix_nat hv), Int.toNat_natCast]
  by_cases hd : ((l.getD v default).length : Int) = d
  · rw [if_pos hd, decide_eq_true hd, k0, Option.bind_some, ckT (by omega), sortM_eq, sortI_filter,
      containsL_eq ns _ (fun c => inclL c ((sortI (l.getD v default)).filter (fun a => decide (0 ≤ a)))) hn.1 (fun x hx => by
        unfold i_nodeHolds_1
        rw [i_includes_eq _ _ (hn.2 x hx) (by rw [← sortI_filter, sortI_len]; omega)]; rfl)]
    rfl
  · rw [if_neg hd, decide_eq_false hd]; rfl
theorem s_soNode_eq (a d : Int) (ns es : List (List Int)) (row : List Int) (hn : Short ns) (hr : row.length < 1099511627776) : s_soNode a d ns es row = some (nodeP ns d row) := by
  have hl := hn.1
  have key := itO_find (fun v => s_soNode_l0_S ns row v) (fun i => (i : Int)) ns.length (fun i => inclL (ns.getD i default) ((sortI row).filter (fun a => decide (0 ≤ a)))) (fun _ => .inl ()) (.inr ()) ?_ ?_
  · rw [Int.natCast_zero] at key
    unfold s_soNode nodeP
    by_cases hd : (row.length : Int) = d
    · rw [if_pos hd, decide_eq_true hd]
      unfold s_soNode_l0
      rw [key]
      have e : ns.any (fun c => inclL c ((sortI row).filter (fun a => decide (0 ≤ a)))) = (firstIx ns.length (fun i => inclL (ns.getD i default) ((sortI row).filter (fun a => decide (0 ≤ a))))).isSome := by
        rw [Bool.eq_iff_iff, firstIx_isSome, List.any_eq_true]
        constructor
        · rintro ⟨x, hx, h⟩
          obtain ⟨i, hi, rfl⟩ := List.getElem_of_mem hx
          exact ⟨i, hi, by rw [getD_get _ _ hi]; exact h⟩
        · rintro ⟨i, hi, h⟩
          rw [getD_get _ _ hi] at h
          exact ⟨_, List.getElem_mem hi, h⟩
      rw [e]
      cases firstIx ns.length (fun i => inclL (ns.getD i default) ((sortI row).filter (fun a => decide (0 ≤ a)))) <;> rfl
    · rw [if_neg hd, decide_eq_false hd]; rfl
  · intro i hi
    simp only [s_soNode_l0_S]
    rw [if_pos (lt_nat hi), ckT (ix_nat hi), Int.toNat_natCast, s_soInside_eq _ _ (hn.getD i) hr, Option.bind_some, wrS i (by omega)]
  · simp only [s_soNode_l0_S]
    rw [if_neg (not_lt_nat _)]
/-- The labels of a port's edge may stand beside each other. -/
def edgeP (es : List (List Int)) (E : List (List (Int × Int))) (l : List (List Int)) (v i : Nat) : Bool :=
  decide ((l.getD v default).getD i default < 0) || (decide ((l.getD (fstD (E.getD v default) i).toNat default).getD (sndD (E.getD v default) i).toNat default < 0) || hasE es ((l.getD v default).getD i default) ((l.getD (fstD (E.getD v default) i).toNat default).getD (sndD (E.getD v default) i).toNat default))
theorem s_soPort_eq (a d : Int) (ns es : List (List Int)) (E : List (List (Int × Int))) (ids ins : List Int) (l : List (List Int)) (he : Short es) (v i : Nat) (hv : v < E.length) (hi : i < (E.getD v default).length)
    (hE : portB E v i = true) (hle : ∀ w, w < E.length → (l.getD w default).length = (E.getD w default).length) (hll : l.length = E.length) : s_soPort a d ns es E ids ins l (v : Int) (i : Int) = some (edgeP es E l v i) := by
  rw [portB_def, Bool.and_eq_true, Bool.and_eq_true] at hE
  obtain ⟨h1, h2, _⟩ := hE
  have h1' := inR_iff.1 h1
  have h2' := inR_iff.1 h2
  have r1 := hle v hv
  have r2 := hle (fstD (E.getD v default) i).toNat (by omega)
  unfold s_soPort edgeP
  simp only [Int.toNat_natCast]
  rw [ckT (by omega), ckT (by omega), ckT (by omega), ckT (by omega), ckT (by omega), ckT (by omega), ckT he]
  by_cases n1 : (l.getD v default).getD i default < 0
  · rw [if_pos n1, decide_eq_true n1]; rfl
  · rw [if_neg n1, decide_eq_false n1]
    by_cases n2 : (l.getD (fstD (E.getD v default) i).toNat default).getD (sndD (E.getD v default) i).toNat default < 0
    · rw [if_pos n2, decide_eq_true n2]; rfl
    · rw [if_neg n2, decide_eq_false n2]; rfl
theorem i_edgeHolds_eq (a d : Int) (ns es : List (List Int)) (E : List (List (Int × Int))) (ids ins : List Int) (l : List (List Int)) (hi : incL es = true) (v i : Int) : i_edgeHolds a d ns es E ids ins l v i = s_soPort a d ns es E ids ins l v i := by
  unfold i_edgeHolds s_soPort
  rw [ckT hi]
theorem holds_both (a d : Int) (ns es : List (List Int)) (E : List (List (Int × Int))) (ids ins : List Int) (l : List (List Int)) (hn : Short ns) (he : Short es) (hi : incL es = true) (hE : ShortE E) (hl : Short l)
    (hN : ∀ v, v < E.length → ∀ i, i < (E.getD v default).length → portB E v i = true) (hle : ∀ w, w < E.length → (l.getD w default).length = (E.getD w default).length) (hll : l.length = E.length) :
    ∃ b, i_holds a d ns es E ids ins l = some b ∧ s_soHolds a d ns es E ids ins l = some b := by
  have h1 := hl.1
  have ki : ∀ v, v < l.length → i_holds_l0 a d ns es E ids ins l (v : Int) 0 = some (if (List.range (l.getD v default).length).all (edgeP es E l v) = true then .inr () else .inl ()) := by
    intro v hv
    have hr := hl.getD v
    have hx := hle v (by omega)
    unfold i_holds_l0
    refine itO_all (fun x => i_holds_l0_S a d ns es E ids ins l (v : Int) x) (fun i => (i : Int)) (l.getD v default).length (edgeP es E l v) (.inl ()) (.inr ()) ?_ ?_
    · intro i hil
      simp only [i_holds_l0_S, Int.toNat_natCast]
      rw [if_pos (lt_nat hil), i_edgeHolds_eq a d ns es E ids ins l hi, s_soPort_eq a d ns es E ids ins l he v i (by omega) (by omega) (hN v (by omega) i (by omega)) hle hll, Option.bind_some, wrS i (by omega)]
    · simp only [i_holds_l0_S, Int.toNat_natCast]
      rw [if_neg (not_lt_nat _)]
  have ks : ∀ v, v < l.length → s_soHolds_l0 a d ns es E ids ins l (v : Int) 0 = some (if (List.range (l.getD v default).length).all (edgeP es E l v) = true then .inr () else .inl ()) := by
    intro v hv
    have hr := hl.getD v
    have hx := hle v (by omega)
    unfold s_soHolds_l0
    refine itO_all (fun x => s_soHolds_l0_S a d ns es E ids ins l (v : Int) x) (fun i => (i : Int)) (l.getD v default).length (edgeP es E l v) (.inl ()) (.inr ()) ?_ ?_
    · intro i hil
      simp only [s_soHolds_l0_S, Int.toNat_natCast]
      rw [if_pos (lt_nat hil), s_soPort_eq a d ns es E ids ins l he v i (by omega) (by omega) (hN v (by omega) i (by omega)) hle hll, Option.bind_some, wrS i (by omega)]
    · simp only [s_soHolds_l0_S, Int.toNat_natCast]
      rw [if_neg (not_lt_nat _)]
  have Ki : i_holds_l1 a d ns es E ids ins l 0 = some (if (List.range l.length).all (fun v => nodeP ns d (l.getD v default) && (List.range (l.getD v default).length).all (edgeP es E l v)) = true then .inr () else .inl ()) := by
    unfold i_holds_l1
    refine itO_all (fun x => i_holds_l1_S a d ns es E ids ins l x) (fun i => (i : Int)) l.length _ (.inl ()) (.inr ()) ?_ ?_
    · intro v hv
      simp only [i_holds_l1_S]
      rw [if_pos (lt_nat hv), i_nodeHolds_eq a d ns es l hn hl v hv, Option.bind_some, ckT (ix_nat hv), ki v hv, wrS v (by omega)]
      cases nodeP ns d (l.getD v default) with
      | false => rfl
      | true => cases (List.range (l.getD v default).length).all (edgeP es E l v) <;> rfl
    · simp only [i_holds_l1_S]
      rw [if_neg (not_lt_nat _)]
  have Ks : s_soHolds_l1 a d ns es E ids ins l 0 = some (if (List.range l.length).all (fun v => nodeP ns d (l.getD v default) && (List.range (l.getD v default).length).all (edgeP es E l v)) = true then .inr () else .inl ()) := by
    unfold s_soHolds_l1
    refine itO_all (fun x => s_soHolds_l1_S a d ns es E ids ins l x) (fun i => (i : Int)) l.length _ (.inl ()) (.inr ()) ?_ ?_
    · intro v hv
      simp only [s_soHolds_l1_S]
      rw [if_pos (lt_nat hv), ckT (ix_nat hv), Int.toNat_natCast, s_soNode_eq a d ns es _ hn (hl.getD v), Option.bind_some, ks v hv, wrS v (by omega)]
      cases nodeP ns d (l.getD v default) with
      | false => rfl
      | true => cases (List.range (l.getD v default).length).all (edgeP es E l v) <;> rfl
    · simp only [s_soHolds_l1_S]
      rw [if_neg (not_lt_nat _)]
  unfold i_holds s_soHolds
  rw [Ki, Ks]
  cases (List.range l.length).all (fun v => nodeP ns d (l.getD v default) && (List.range (l.getD v default).length).all (edgeP es E l v)) <;> exact ⟨_, rfl, rfl⟩
/-- There is a label or -1 for each port. -/
def shapeB (a : Int) (E : List (List (Int × Int))) (l : List (List Int)) : Bool :=
  decide (l.length = E.length) && (List.range l.length).all (fun v => decide ((l.getD v default).length = (E.getD v default).length) && allIn (l.getD v default) (-1) (a - 1))
theorem i_shape_eq (a d : Int) (ns es : List (List Int)) (E : List (List (Int × Int))) (ids ins : List Int) (l : List (List Int)) (ha : 1 ≤ a ∧ a ≤ 8) (hl : Short l) : i_isPartialShape a d ns es E ids ins l = some (shapeB a E l) := by
  have h1 := hl.1
  unfold i_isPartialShape i_portsOk shapeB
  by_cases hq : l.length = E.length
  · rw [if_pos (by omega), decide_eq_true hq, Bool.true_and]
    have k : i_portsOk_l0 E ids ins l 0 = some (if (List.range l.length).all (fun v => decide ((l.getD v default).length = (E.getD v default).length)) = true then .inr () else .inl ()) := by
      unfold i_portsOk_l0
      refine itO_all (fun x => i_portsOk_l0_S E ids ins l x) (fun i => (i : Int)) l.length _ (.inl ()) (.inr ()) ?_ ?_
      · intro v hv
        simp only [i_portsOk_l0_S, Int.toNat_natCast]
        rw [if_pos (lt_nat hv), ckT (by omega), ckT (by omega), wrS v (by omega)]
        by_cases hx : (l.getD v default).length = (E.getD v default).length
        · rw [if_pos (by omega), decide_eq_true hx]; rfl
        · rw [if_neg (by omega), decide_eq_false hx]; rfl
      · simp only [i_portsOk_l0_S]
        rw [if_neg (not_lt_nat _)]
    have hc := containsL_eq l (fun a0 => i_isPartialShape_1 a0 a d ns es) (fun x => !allIn x (-1) (a - 1)) h1 (fun x hx => by
      unfold i_isPartialShape_1
      rw [ckT (hl.2 x hx), wr64 _ (by omega)])
    rw [k, hc]
    have e : (List.range l.length).all (fun v => decide ((l.getD v default).length = (E.getD v default).length) && allIn (l.getD v default) (-1) (a - 1)) = ((List.range l.length).all (fun v => decide ((l.getD v default).length = (E.getD v default).length)) && !l.any (fun x => !allIn x (-1) (a - 1))) := by
      rw [← List.all_eq_not_any_not, ← all_getD (fun x => allIn x (-1) (a - 1)) l, Bool.eq_iff_iff, Bool.and_eq_true, range_all, range_all, range_all]
      constructor
      · intro h
        exact ⟨fun i hi => (Bool.and_eq_true _ _ ▸ h i hi).1, fun i hi => (Bool.and_eq_true _ _ ▸ h i hi).2⟩
      · rintro ⟨h1, h2⟩ i hi
        rw [h1 i hi, h2 i hi]; rfl
    rw [e]
    cases (List.range l.length).all (fun v => decide ((l.getD v default).length = (E.getD v default).length)) <;> rfl
  · rw [if_neg (by omega), decide_eq_false hq]; rfl
theorem s_shape_l0 (a d : Int) (ns es : List (List Int)) (E : List (List (Int × Int))) (ids ins : List Int) (l : List (List Int)) (ha : 1 ≤ a ∧ a ≤ 8) (hl : Short l) (hq : l.length = E.length) :
    s_soPartial_l0 a d ns es E ids ins l 0 = some (if (List.range l.length).all (fun v => decide ((l.getD v default).length = (E.getD v default).length) && allIn (l.getD v default) (-1) (a - 1)) = true then .inr () else .inl ()) := by
  have h1 := hl.1
  unfold s_soPartial_l0
  refine itO_all (fun x => s_soPartial_l0_S a d ns es E ids ins l x) (fun i => (i : Int)) l.length _ (.inl ()) (.inr ()) ?_ ?_
  · intro v hv
    simp only [s_soPartial_l0_S, Int.toNat_natCast]
    rw [if_pos (lt_nat hv), ckT (by omega), ckT (by omega), ckT (hl.getD v), wr64 _ (by omega), wrS v (by omega)]
    by_cases hx : (l.getD v default).length = (E.getD v default).length
    · rw [if_pos (by omega), decide_eq_true hx, Bool.true_and]
    · rw [if_neg (by omega), decide_eq_false hx]; rfl
  · simp only [s_soPartial_l0_S]
    rw [if_neg (not_lt_nat _)]
theorem part_both (a d : Int) (ns es : List (List Int)) (E : List (List (Int × Int))) (ids ins : List Int) (l : List (List Int)) (hn : Short ns) (he : Short es) (hE : ShortE E) (hids : ids.length < 1099511627776) (hins : ins.length < 1099511627776) (hl : Short l) :
    ∃ x y, s_IsPartial a d ns es E ids ins l = some (x, y) ∧ i_IsPartial a d ns es E ids ins l = some (x, y) := by
  unfold s_IsPartial i_IsPartial s_soPartial
  rw [ckT hn, ckT he, ckT hn, ckT he, ckT hE, ckT hids, ckT hins, ckT hE, ckT hids, ckT hins]
  by_cases h : isProb a d ns es = true
  · rw [if_pos h, if_pos h]
    obtain ⟨ha, hd, c1, c2⟩ := isProb_cut h
    by_cases hw : isNet E ids ins = true
    · rw [if_pos hw, if_pos hw, i_shape_eq a d ns es E ids ins l ha hl, Option.bind_some]
      unfold shapeB
      by_cases hq : l.length = E.length
      · rw [if_pos (by omega), decide_eq_true hq, Bool.true_and, s_shape_l0 a d ns es E ids ins l ha hl hq]
        cases hall : (List.range l.length).all (fun v => decide ((l.getD v default).length = (E.getD v default).length) && allIn (l.getD v default) (-1) (a - 1)) with
        | false => exact ⟨_, _, rfl, rfl⟩
        | true =>
          have hle : ∀ w, w < E.length → (l.getD w default).length = (E.getD w default).length := fun w hw => by
            have := range_all.1 hall w (by omega)
            rw [Bool.and_eq_true, decide_eq_true_eq] at this
            exact this.1
          have hN : ∀ v, v < E.length → ∀ i, i < (E.getD v default).length → portB E v i = true := fun v hv i hi => by
            unfold isNet at hw
            simp only [Bool.and_eq_true] at hw
            have := range_all.1 hw.2.2.2.2 v hv
            rw [nodeB_def, Bool.and_eq_true] at this
            exact range_all.1 this.2 i hi
          obtain ⟨b, e1, e2⟩ := holds_both a d ns es E ids ins l hn he (confs_inc c2) hE hl hN hle hq
          rw [e1, e2]
          exact ⟨_, _, rfl, rfl⟩
      · rw [if_neg (by omega), decide_eq_false hq]
        exact ⟨_, _, rfl, rfl⟩
    · rw [if_neg hw, if_neg hw]
      exact ⟨_, _, rfl, rfl⟩
  · rw [if_neg h, if_neg h]
    exact ⟨_, _, rfl, rfl⟩

end Go.Proofs.Ytjkgcfdcfjkkbaa
